/- Contracts of the program's functions, proved by walking them with the rules of the Gx texts; without conditions beyond those that each contract names. -/
import Derived.WalkKit
import Derived.Deep.Draws
import Derived.TacticsIn
import Derived.OrdersIn
import Derived.RangeFuncLeaves
import Derived.Lib.Strings
import Derived.Laws.BytesArg
import Derived.Laws.IdiomStrings
import Derived.Deep.Quiet
import Derived.ProofKit
import Derived.OpenShut
import Derived.Laws.StructEq
import Derived.ChangeKeysEq
import Derived.Laws.Externs
import Derived.Lib.Overlaps
import Derived.Carry
import Derived.Laws.Small
import Derived.Lib.Bytealg
import Derived.Lib.Builder
import Derived.Laws.Pointers
import Derived.RangeFuncRecord
import Derived.Test.YtpkhkcchibbhmaaGreatDoorProg
import Derived.KernelRfl
import Derived.SizedLaws
import Derived.ChangeSame
import Derived.Handed
import Derived.Test.YtpkhkcchibbhmaaGreatDoorTie
import Derived.Test.YtpkhkcchibbhmaaGreatDoorCards
import Derived.SevenTiedAt
import Derived.LaidMore
import Derived.Lay
import Derived.Stop.Joined
import Derived.Test.YtpkhkcchibbhmaaGreatDoorP1
set_option linter.unusedSimpArgs false
set_option linter.unusedVariables false
set_option linter.unusedSectionVars false
set_option linter.unnecessarySimpa false
namespace Go.Proofs
open Go Go.RowKit Gx
attribute [local irreducible] Go.Calls Gx.S Gx.O Gx.D Gx.OpP Gx.OpQ Gx.OpH
set_option maxRecDepth 20000
theorem Qty : Zl Tryz.prog 166 = some [(0,4),(4,2)]:=by kernel_rfl
theorem QuU : QO Tryz.prog 166 = some [.int .i64 0,.int .i64 0,.int .i64 0,.slice none 0 0,.nilFunc,.nilFunc]:=by kernel_rfl
theorem Quc : Qt Tryz.prog 199 = true:=by kernel_rfl
theorem QvH : Qt Tryz.prog 200 = true:=by kernel_rfl
theorem c140 (w : World) (co mo rm : Int) (a : Option Addr) (cap : Nat) (L : List LNd) (hs : Nt w [] a L) (hB : Bd (pln L)) (hkl : ∀ i,i < L.length → ∀ x ∈ (nth L i).es,x.key.length ≤ 1000000) : Calls Tryz.prog 140 #[.agg #[.int .i64 co,.int .i64 mo,.int .i64 rm,.slice a L.length cap]] w fun en w'=>en = .returned (.tuple #[.int .i64 (Ze (⟨co,mo,rm,pln L⟩ : Tre)).1,.int .i64 (Ze (⟨co,mo,rm,pln L⟩ : Tre)).2]) ∧ Below w.heap.size w w':=by
 have hle:=hB.len
 rw [Qi] at hle
 have hes9 : ∀ i,i < L.length → (nth L i).es.length ≤ 1000:=fun i hi=>by have h9:=hB.es i (by rw [Qi];exact hi);rw [Q3 hi] at h9;exact h9
 have hcs9 : ∀ i,i < L.length → (nth L i).cs.length ≤ 1000:=fun i hi=>by have h9:=hB.cs i (by rw [Qi];exact hi);rw [Q3 hi] at h9;exact h9
 refine enter (args:=[_]) Tryz.func140 Tryz.ntmps140 rfl rfl (HS.refl w []) ?_
 refine aS2 ?_
 refine oBx fun b1 _=>?_
 refine Qeq ?_
 refine o_q (Qa rfl QpF rfl (fun w1 h1=>c155 w1 _ _ _)) rfl ?_
 refine aS7 ?_
 refine Qb rfl (fun h2=>?_) fun h2=>?_
 ·try simp only [Bool.not_eq_true',decide_eq_false_iff_not] at h2
  have hz:=Qcm (t:=(⟨co,mo,rm,pln L⟩ : Tre)) h2
  refine aS6 ?_
  exact Qs (rs:=[.tmp 2,.tmp 3]) rfl (.tmp rfl (.tmp rfl (.nil))) (fun w' h'=>⟨by rw [hz];rfl,h'.below⟩)
 try simp only [Bool.not_eq_false',decide_eq_true_eq] at h2
 have hc0 : (if QB co = 0 then Yn mo rm else QB co) = 0:=h2
 obtain ⟨hco,hsz⟩:=Qio (t:=(⟨co,mo,rm,pln L⟩ : Tre)) hc0
 obtain ⟨j,rfl,hj⟩:=QoD hco
 have hsz2 : (3 ≤ mo ∧ mo ≤ 8) ∧ (mo / 2 ≤ rm ∧ rm ≤ mo):=Qpq hsz
 refine aS3 ?_
 refine QG [] QU ?_
 refine dFa 0 ?_
 refine dLd 1 [] ?_
 refine dV 2 rfl (QQ rfl rfl Tryz.underlying35) ?_
 refine dP 3 ?_
 refine dQ 4 [] rfl (Qa rfl Y8 rfl (fun w1 h1=>QdO w1 _ _)) ?_
 refine dFa 5 ?_
 refine dLd 6 [] ?_
 refine dV 7 rfl (QQ rfl rfl Tryz.underlying35) ?_
 refine dP 8 ?_
 refine dQ 9 [] rfl (Qa rfl Y8 rfl (fun w1 h1=>QdO w1 _ _)) ?_
 refine dH 10 rfl (Qr (cs:=[_,_]) rfl rfl ZE Qdr rfl rfl rfl) (fun b3 _=>?_)
 refine dBa ?_
 refine dQ 11 [] rfl (Qa rfl Qfr rfl (fun w1 h1=>QqH h1 aPk (by rfl) (by rfl) (by decide))) ?_
 refine QD (show _ = Value.int .i64 (Y9 L.length) from by congr 1;rw [QdK];unfold Y9;simp only [cond_eq_ite,decide_eq_true_eq];first | (split <;> (try split) <;> (try split) <;> (try split) <;> first | rfl | omega)) ?_
 refine dP 12 ?_
 refine dNi ?_
 refine aS5 ?_
 refine Qb rfl (fun h4=>?_) fun h4=>?_
 ·try simp only [Bool.not_eq_true',decide_eq_false_iff_not] at h4
  have hz:=Qd2 (t:=(⟨(j : Int),mo,rm,pln L⟩ : Tre)) hc0 (by rw [show ((⟨(j : Int),mo,rm,pln L⟩ : Tre)).ns.length = L.length from Qi L];exact h4)
  rw [show ((⟨(j : Int),mo,rm,pln L⟩ : Tre)).ns.length = L.length from Qi L] at hz
  refine aS6 ?_
  exact Qs (rs:=[.tmp 2,.tmp 3]) rfl (.tmp rfl (.tmp rfl (.nil))) (fun w' h'=>⟨by rw [hz];rfl,h'.below⟩)
 try simp only [Bool.not_eq_false',decide_eq_true_eq] at h4
 have hc1 : Y9 L.length = 0:=h4
 have hz:=Qej (t:=(⟨(j : Int),mo,rm,pln L⟩ : Tre)) hc0 (by rw [show ((⟨(j : Int),mo,rm,pln L⟩ : Tre)).ns.length = L.length from Qi L];exact hc1)
 rw [show ((⟨(j : Int),mo,rm,pln L⟩ : Tre)).ns.length = L.length from Qi L] at hz
 obtain ⟨h00,h120⟩:=QkE hc1
 refine aS2 ?_
 refine Qm (L':=[(1,_),(2,_),(3,_)]) aSx (fun _ h=>h) ?_
 refine Yi (α:=Nat × Nat) [6,7,37,38,39,40,41,42,43,44] (fun x=>[(6,.pointer (some ⟨x.1,0,none⟩)),(7,.map (some x.2))]) (fun x=>HS w [] [.blk b1 37 4 [.int .i64 (j : Int),.int .i64 mo,.int .i64 rm,.slice a L.length cap],.blk x.1 166 6 (tbV (j : Int) mo rm a L.length cap),.mp x.2 KI []]) (fun _=>True) ?_ ?_
 ·skip
  refine QG [] QU ?_
  refine dLn 0 [] ?_
  refine dQ 1 [] rfl (Qa rfl Qpb rfl (fun w1 h1=>c127 w1)) ?_
  refine dFa 2 ?_
  refine dLd 3 [] ?_
  refine dV 4 rfl (Qfx rfl rfl rfl QkV Qkh j rfl (by omega)) ?_
  refine QD (Qjg j hj) ?_
  refine dV 5 rfl (Xq (cs:=[_,_,_,_,_,_]) rfl rfl Qty QuU rfl) ?_
  refine Qv7 6 7 rfl rfl  (Qmk rfl rfl) (Qcu rfl KI) (by kernel_rfl) (fun w h=>h.ent aEt) rfl rfl  (fun b5 _=>?_) (fun b6 _=>?_)
  ·skip
   refine dBa ?_
   refine dP 8 ?_
   refine dH 7 rfl (Qcu rfl KI) (fun b7 _=>?_)
   refine dBa ?_
   refine dP 9 ?_
   refine dNi ?_
   exact Qw (b5,b7) trivial aSx (fun w h=>h.ent aEt)
  skip
  refine dBa ?_
  refine dH 6 rfl (Qmk rfl rfl) (fun b8 _=>?_)
  refine dBa ?_
  refine dP 8 ?_
  refine dP 9 ?_
  refine dNi ?_
  exact Qw (b8,b6) trivial aSx (fun w h=>h.ent aEt)
 intro ⟨bt,r⟩ _
 refine aS9 ?_
 refine Qx (α:=Nat × List Int × List Int) [2,3,8,9,48,49,50,51,52,53,54,55,56,57,58,59] (fun x=>[(48,.int .i64 (x.1 : Int))]) (fun x=>HS w [] [.blk b1 37 4 [.int .i64 (j : Int),.int .i64 mo,.int .i64 rm,.slice a L.length cap],.blk bt 166 6 (tbV (j : Int) mo rm a L.length cap),.mp r KI x.2.1]) (fun x=>x.1 ≤ L.length ∧ (∀ y,y ∈ x.2.1 ↔ y ∈ x.2.2) ∧ (XY (⟨(j : Int),mo,rm,pln L⟩ : Tre) L.length 0 []) = XY (⟨(j : Int),mo,rm,pln L⟩ : Tre) (L.length - x.1) x.1 x.2.2) (fun x=>L.length - x.1) (0,[],[]) ⟨Nat.zero_le _,fun _=>Iff.rfl,rfl⟩ aSx (fun w h=>h.ent aEt) (fun ⟨k,K,S9⟩ hx=>?_)
 dsimp only
 obtain ⟨hk1,hk2,hk3⟩:=hx
 simp only [] at hk1 hk2 hk3
 refine aS5 ?_
 refine Qb rfl (fun h9=>?_) fun h9=>?_
 ·try simp only [dT] at h9
  have hkl9 : k < L.length:=by omega
  have hst:=QfL (t:=(⟨(j : Int),mo,rm,pln L⟩ : Tre)) (k:=k) (seen:=S9) (by rw [show ((⟨(j : Int),mo,rm,pln L⟩ : Tre)).ns.length = L.length from Qi L];exact hkl9)
  rw [show ((⟨(j : Int),mo,rm,pln L⟩ : Tre)).ns.length = L.length from Qi L] at hst
  iterate 13 refine aS ?_
  refine o_h (Q0 (Cs:=[.mp r KI K]) rfl Quc rfl aPs (fun w1 h1 hf=>c199 w1 k r K S9 bt j mo rm a cap L hf hk2 (fun k9 v9 hv9=>h1.rd_blkF aPs (b:=bt) aPk hv9) ((hs.keep h1).mono (Q6 aPs)) hle hj hkl9 (hes9 _ hkl9) (hcs9 _ hkl9) (hkl _ hkl9))) rfl (fun b10 hkG=>?_)
  refine aS7 ?_
  refine Qb rfl (fun h11=>?_) fun h11=>?_
  ·try simp only [Bool.not_eq_true',decide_eq_false_iff_not] at h11
   have hz3 : (XY (⟨(j : Int),mo,rm,pln L⟩ : Tre) L.length 0 []) = ((k : Int),(XN (⟨(j : Int),mo,rm,pln L⟩ : Tre) k S9).1):=by rw [hk3,hst,if_neg h11]
   rw [hz3,if_neg (show ¬ (((k : Int),(XN (⟨(j : Int),mo,rm,pln L⟩ : Tre) k S9).1) : Int × Int).2 = 0 from h11)] at hz
   refine aS7 ?_
   exact Qs (rs:=[.tmp 2,.tmp 3]) rfl (.tmp rfl (.tmp rfl (.nil))) (fun w' h'=>⟨by rw [hz];rfl,h'.below⟩)
  try simp only [Bool.not_eq_false',decide_eq_true_eq] at h11
  have hz3 : XY (⟨(j : Int),mo,rm,pln L⟩ : Tre) (L.length - k) k S9 = XY (⟨(j : Int),mo,rm,pln L⟩ : Tre) (L.length - (k + 1)) (k + 1) (XN (⟨(j : Int),mo,rm,pln L⟩ : Tre) k S9).2:=by rw [hst,if_pos h11]
  refine aS4 ?_
  try refine oWr ?_
  refine aS2 ?_
  exact Qu (k + 1,b10,(XN (⟨(j : Int),mo,rm,pln L⟩ : Tre) k S9).2) (by (try simp only []);omega) ⟨by (try simp only []);omega,hkG,by simp only [];rw [hk3,hz3]⟩ aSx (fun w h=>h.ent aEt)
 try simp only [dN] at h9
 have hnd : (XY (⟨(j : Int),mo,rm,pln L⟩ : Tre) L.length 0 []) = (0,0):=by rw [hk3,show L.length - k = 0 by omega];rfl
 rw [hnd,if_pos rfl] at hz
 have hT : TOk (j : Int) (pln L):=Qhy (t:=(⟨(j : Int),mo,rm,pln L⟩ : Tre)) (by show (XY (⟨(j : Int),mo,rm,pln L⟩ : Tre) (pln L).length 0 []).2 = 0;rw [Qi,hnd])
 refine Qp rfl ?_
 refine aS3 ?_
 refine o_q (Qa rfl QvH rfl (fun w1 h1=>c200 w1 bt j mo rm a cap L (HS.tbr h1 aPk) (hs.later h1) hj (by omega) h00 hB hT)) rfl ?_
 refine Qeq ?_
 refine Yi (α:=Unit) [10] (fun _=>[(10,.int .i64 (Ze (⟨(j : Int),mo,rm,pln L⟩ : Tre)).1)]) (fun _=>HS w [] []) (fun _=>True) ?_ ?_
 ·skip
  refine Qb rfl (fun h12=>?_) fun h12=>?_
  ·try simp only [dT] at h12
   refine aS3 ?_
   exact Qw () trivial (by rw [hz,Qmm h12];exact aSx) (fun w h=>h.ent aEt)
  try simp only [dN] at h12
  refine aS ?_
  exact Qw () trivial (by rw [hz];exact aSx) (fun w h=>h.ent aEt)
 intro _ _
 refine aS7 ?_
 exact Qs (rs:=[.tmp 2,.tmp 3]) rfl (.tmp rfl (.tmp rfl (.nil))) (fun w' h'=>⟨by simp only [QT];rw [hz],h'.below⟩)
theorem Qwk : Qt Tryz.prog 80 = true:=by kernel_rfl
theorem Qwt : Qt Tryz.prog 81 = true:=by kernel_rfl
theorem c80 (w : World) (a : Option Addr) (cap : Nat) (l : List TEnt) (hs : Rw TEnt.vals 2 w [] a l) (hl : l.length ≤ 100000) : Calls Tryz.prog 80 #[.slice a l.length cap] w fun en w'=>∃ g : Option Addr × Nat,en = .returned (.slice g.1 l.length g.2) ∧ True ∧ HS w [] [.own (.slice g.1 l.length g.2) 27 2 l.length (l.flatMap TEnt.vals)] w':=by
 refine enter (args:=[_]) Tryz.func80 Tryz.ntmps80 rfl rfl (HS.refl w []) ?_
 refine aS6 ?_
 refine o_h (Qaw rfl Xh) rfl (fun b1 _=>?_)
 refine aS ?_
 refine o_h (XU (l.flatMap TEnt.vals) rfl rfl rfl Xh Tryz.underlying67 Z2 rfl aPk (fun w h=>Rw.src ev2 hs h) (Zw ev2 _) (QjQ ev1 _) (by omega) (by simp only [maxLen];omega)) rfl (fun b2 _=>?_)
 refine aS2 ?_
 exact rT rfl rfl (fun w' h'=>⟨b2,by simp only [QT,Nat.zero_add],trivial,by have h2:=h';simp only [Nat.zero_add,List.nil_append] at h2;exact h2.ent aEt⟩)
theorem c81 (w : World) (a : Option Addr) (cap : Nat) (l : List Int) (hs : Rw inV 1 w [] a l) (hl : l.length ≤ 100000) : Calls Tryz.prog 81 #[.slice a l.length cap] w fun en w'=>∃ g : Option Addr × Nat,en = .returned (.slice g.1 l.length g.2) ∧ True ∧ HS w [] [.own (.slice g.1 l.length g.2) 3 1 l.length (l.flatMap inV)] w':=by
 refine enter (args:=[_]) Tryz.func81 Tryz.ntmps81 rfl rfl (HS.refl w []) ?_
 refine aS6 ?_
 refine o_h (Qaw rfl Xe) rfl (fun b1 _=>?_)
 refine aS ?_
 refine o_h (XU (l.flatMap inV) rfl rfl rfl Xe Tryz.underlying28 QeW rfl aPk (fun w h=>Rw.src iv1 hs h) (Zw iv1 _) (QjQ Qrv _) (by omega) (by simp only [maxLen];omega)) rfl (fun b2 _=>?_)
 refine aS2 ?_
 exact rT rfl rfl (fun w' h'=>⟨b2,by simp only [QT,Nat.zero_add],trivial,by have h2:=h';simp only [Nat.zero_add,List.nil_append] at h2;exact h2.ent aEt⟩)
set_option maxHeartbeats 400000 in
theorem c21 (w : World) (co mo rm : Int) (a : Option Addr) (cap : Nat) (L : List LNd) (hs : Nt w [] a L) (hl : L.length ≤ 1000) (hsm : Sm 1000 (pln L)) : Calls Tryz.prog 21 #[.agg #[.int .i64 co,.int .i64 mo,.int .i64 rm,.slice a L.length cap]] w fun en w'=>∃ g : (Option Addr × Nat) × List LNd,en = .returned (.agg #[.int .i64 co,.int .i64 mo,.int .i64 rm,.slice g.1.1 g.2.length g.1.2]) ∧ pln g.2 = pln L ∧ HS w [] [.nodes 27 69 g.1.1 g.1.2 g.2] w':=by
 refine enter (args:=[_]) Tryz.func21 Tryz.ntmps21 rfl rfl (HS.refl w []) ?_
 refine aS2 ?_
 refine oBx fun b1 _=>?_
 refine oAl (fun b2 _=>?_) QgV
 refine aS9 ?_
 refine o_p (Xq (cs:=[_,_,_,_]) rfl rfl Qpt QgV rfl) rfl ?_
 refine oAl (fun b3 _=>?_) QgV
 refine oSt ?_
 refine aS7 ?_
 refine Qx (α:=Nat × (Option Addr × Nat) × List LNd) [4,5,13,14,15,16,17,18,19,20,21,22,23,24,25,26,27,28,29,30,31,32,33,34,35,36,37,38] (fun x=>[(4,.int .i64 (x.1 : Int))]) (fun x=>HS w [] [.own (.slice x.2.1.1 (x.2.2).length x.2.1.2) 69 3 (x.2.2).length ((x.2.2).flatMap LNd.vals),.star ((x.2.2).map (Qjz 27)),.blk b3 37 4 [.int .i64 co,.int .i64 mo,.int .i64 rm,.slice x.2.1.1 (x.2.2).length x.2.1.2],.blk b2 37 4 [.int .i64 0,.int .i64 0,.int .i64 0,.slice none 0 0],.blk b1 37 4 [.int .i64 co,.int .i64 mo,.int .i64 rm,.slice a L.length cap]]) (fun x=>x.1 ≤ L.length ∧ x.2.2.length = x.1 ∧ pln x.2.2 = (pln L).take x.1) (fun x=>L.length - x.1) (0,(none,0),[]) ⟨Nat.zero_le _,rfl,rfl⟩ aSx (fun w h=>((h.own_nil 69 3).star_nil).ent aEt) (fun ⟨k,⟨ga,gc⟩,D⟩ hx=>?_)
 dsimp only
 obtain ⟨hk1,hk2,hk3⟩:=hx
 simp only [] at hk1 hk2 hk3
 refine aS9 ?_
 refine Qb rfl (fun h4=>?_) fun h4=>?_
 ·try simp only [dT] at h4
  have hkl : k < L.length:=by omega
  have hsk:=hsm k
  rw [Q3 hkl] at hsk
  simp only [LNd.pl] at hsk
  refine aS8 ?_
  refine o_p (Qc rfl rfl rfl XB (k) (by omega) (by omega) (Rw.some hs.1 (by omega))) rfl ?_
  refine o_q (QA _ rfl rfl Xz rfl (Rw.rd hs.1 hkl)) rfl ?_
  refine oAl (fun b5 _=>?_) XF
  refine oSt ?_
  refine aS ?_
  refine QG [12,14] QU ?_
  refine dFa 0 ?_
  refine dLd 1 [[],[]] ?_
  refine dFa 2 ?_
  refine dLd 3 [[11,10],[]] ?_
  refine dFa 4 ?_
  refine dLd 5 [[9,6],[]] ?_
  refine dFa 7 ?_
  refine dLd 8 [[9],[]] ?_
  refine dH 6 rfl (Ye rfl Qwk rfl (fun w1 h1=>c80 w1 (nth L k).ea (nth L k).ec (nth L k).es ((hs.es hkl).later h1) (by omega))) (fun b6 _=>?_)
  refine dBa ?_
  refine dH 9 rfl (Ye rfl Qwt rfl (fun w1 h1=>c81 w1 (nth L k).ca (nth L k).cc (nth L k).cs ((hs.cs hkl).later h1) (by omega))) (fun b7 _=>?_)
  refine dBa ?_
  refine dV 10 rfl (Xq (cs:=[_,_,_]) rfl rfl QgP XF rfl) ?_
  refine dH 11 rfl (Qr (cs:=[_,_,_]) rfl rfl XB XF rfl rfl rfl) (fun b8 _=>?_)
  refine dBa ?_
  refine dH 12 rfl (XU (LNd.vals (⟨(nth L k).us,b6.1,b6.2,(nth L k).es,b7.1,b7.2,(nth L k).cs⟩ : LNd)) rfl rfl rfl XB Tryz.underlying35 XF rfl aPk (XI aPk) rfl (nv1 _) (by omega) (by simp only [maxLen];omega)) (fun b9 _=>?_)
  refine dTu [14] ?_
  refine dFa 13 ?_
  refine dSt 14 ?_ (hl:=(by simp only [Qk,List.length_set,List.length_cons,List.length_nil,List.length_map];omega))
  refine dTu [] ?_
  refine dNi ?_
  refine aS ?_
  refine Qm (L':=[(0,_),(1,_),(2,_),(3,_),(4,_),(6,_),(7,_),(8,_),(9,_),(10,_),(11,_),(12,_)]) aSx (fun _ h=>h) ?_
  refine aS3 ?_
  try refine oWr ?_
  refine aS2 ?_
  exact Qu (k + 1,(b9.1,b9.2),D ++ [⟨(nth L k).us,b6.1,b6.2,(nth L k).es,b7.1,b7.2,(nth L k).cs⟩]) (by (try simp only []);omega) ⟨by (try simp only []);omega,by simp [hk2],Qqc hkl hk3 rfl⟩ aSx (fun w h=>by have h2:=HS.sub_app (sub:=Qjz 27) (l:=D) (x:=(⟨(nth L k).us,b6.1,b6.2,(nth L k).es,b7.1,b7.2,(nth L k).cs⟩ : LNd)) (HS.star_close (Bs:=[_,_]) (h.ent (Bs:=[.own (.slice b6.1 (nth L k).es.length b6.2) 27 2 (nth L k).es.length ((nth L k).es.flatMap TEnt.vals),.own (.slice b7.1 (nth L k).cs.length b7.2) 3 1 (nth L k).cs.length ((nth L k).cs.flatMap inV),.star (D.map (Qjz 27)),.own (.slice b9.1 (D.length + 1) b9.2) 69 3 (D.length + 1) (D.flatMap LNd.vals ++ LNd.vals (⟨(nth L k).us,b6.1,b6.2,(nth L k).es,b7.1,b7.2,(nth L k).cs⟩ : LNd)),.blk b3 37 4 [.int .i64 co,.int .i64 mo,.int .i64 rm,.slice b9.1 (D.length + 1) b9.2],.blk b2 37 4 [.int .i64 0,.int .i64 0,.int .i64 0,.slice none 0 0],.blk b1 37 4 [.int .i64 co,.int .i64 mo,.int .i64 rm,.slice a L.length cap]]) aEt));simp only [List.length_append,List.length_singleton,List.flatMap_append,List.flatMap_singleton];exact h2.ent aEt)
 try simp only [dN] at h4
 obtain rfl : k = L.length:=by omega
 have hD : pln D = pln L:=by rw [hk3,← Qi L,List.take_length]
 refine Qp rfl ?_
 refine aS3 ?_
 refine oSt ?_
 refine aS ?_
 exact Qs (rs:=[.cell 2 37]) rfl (.cell rfl QlZ aPk rfl (.nil)) (fun w' h'=>⟨((ga,gc),D),by simp only [QT];rw [hk2];rfl,hD,by have h3:=HS.row_shut (a:=ga) (cap:=gc) (l:=D) (sub:=Qjz 27) (t:=69) (sz:=3) (vals:=LNd.vals) (h'.ent (Bs:=[.own (.slice ga D.length gc) 69 3 D.length (D.flatMap LNd.vals),.star (D.map (Qjz 27))]) aEt) rfl rfl;exact h3⟩)
theorem QlD : Qt Tryz.prog 65 = true:=by kernel_rfl
theorem c15 (w : World) (a b : Option Addr) (c d : Nat) (l m : List Int) (hs : Rw inV 1 w [] a l) (ht : Rw inV 1 w [] b m) (hl : l.length ≤ 100000) (hm : m.length ≤ 100000) : Calls Tryz.prog 15 #[.slice a l.length c,.slice b m.length d] w fun en w'=>en = .returned (.bool (decide (l = m))) ∧ Below w.heap.size w w':=by
 refine enter (args:=[_,_]) Tryz.func15 Tryz.ntmps15 rfl rfl (HS.refl w []) ?_
 iterate 13 refine aS ?_
 refine Qb rfl (fun h1=>?_) fun h1=>?_
 ·try simp only [Bool.not_eq_true',decide_eq_false_iff_not] at h1
  have hn9 : l ≠ m:=fun e=>by have hq:=h1;rw [e] at hq;simp at hq
  refine aS4 ?_
  exact rT rfl rfl (fun w' h'=>⟨by rw [decide_eq_false hn9];rfl,h'.below⟩)
 try simp only [Bool.not_eq_false',decide_eq_true_eq] at h1
 have hlm : l.length = m.length:=by have hq:=h1;omega
 refine aS7 ?_
 refine Qx (α:=Nat) [4,5,11,12,13,14,15,16,17,18,19,20,21,22,23,24,25] (fun k=>[(5,.int .i64 (k : Int))]) (fun _=>HS w [] []) (fun k=>k ≤ l.length ∧ ∀ j,j < k → nth l j = nth m j) (fun k=>l.length - k) 0 ⟨Nat.zero_le _,fun j h=>absurd h (Nat.not_lt_zero j)⟩ aSx (fun w h=>h.ent aEt) (fun k hx=>?_)
 obtain ⟨hk1,hk3⟩:=hx
 refine aS8 ?_
 refine Qb rfl (fun h2=>?_) fun h2=>?_
 ·try simp only [dT] at h2
  have hk : k < l.length:=by omega
  have hk2 : k < m.length:=by omega
  refine aS4 ?_
  refine QG [] QU ?_
  refine dP 0 ?_
  refine dP 1 ?_
  refine dV 2 rfl (Qc rfl rfl rfl Xe (k) (by omega) (by omega) (Rw.some hs (by omega))) ?_
  refine dQ 3 [] rfl (Qd rfl rfl Y1 ((hs.rdj 0 (by omega) rfl))) ?_
  refine dP 4 ?_
  refine dP 5 ?_
  refine dV 6 rfl (Qc rfl rfl rfl Xe (k) (by omega) (by omega) (Rw.some ht (by omega))) ?_
  refine dQ 7 [] rfl (Qd rfl rfl Y1 ((ht.rdj 0 (by omega) rfl))) ?_
  refine dP 8 ?_
  refine dNi ?_
  refine Qb rfl (fun h3=>?_) fun h3=>?_
  ·try simp only [Bool.not_eq_true',decide_eq_false_iff_not] at h3
   have hn9 : l ≠ m:=fun e=>by have hq:=h3;rw [e] at hq;simp at hq
   refine aS4 ?_
   exact rT rfl rfl (fun w' h'=>⟨by rw [decide_eq_false hn9];rfl,h'.below⟩)
  try simp only [Bool.not_eq_false',decide_eq_true_eq] at h3
  have he9 : nth l k = nth m k:=by have hq:=h3;exact hq
  refine aS5 ?_
  try refine oWr ?_
  refine aS2 ?_
  exact Qu (k + 1) (by omega) ⟨by omega,fun j hj=>(Nat.lt_or_ge j k).elim (hk3 j) (fun h9=>by obtain rfl : j = k:=(by omega);exact he9)⟩ aSx (fun w h=>h.ent aEt)
 try simp only [dN] at h2
 have hl9 : l = m:=Qd5 hlm fun j hj=>hk3 j (by omega)
 refine Qp rfl ?_
 refine aS4 ?_
 exact rT rfl rfl (fun w' h'=>⟨by rw [decide_eq_true hl9];rfl,h'.below⟩)
theorem QvI : Qkm Tryz.prog 27 = some [1,1]:=by kernel_rfl
theorem Qwf : Qt Tryz.prog 51 = true:=by kernel_rfl
theorem QwB : Qt Tryz.prog 15 = true:=by kernel_rfl
theorem Qjb : Qt Tryz.prog 33 = true:=by kernel_rfl
theorem c51 (w : World) (a b : Option Addr) (c d : Nat) (l m : List TEnt) (hs : Rw TEnt.vals 2 w [] a l) (ht : Rw TEnt.vals 2 w [] b m) (hl : l.length ≤ 100000) (hm : m.length ≤ 100000) : Calls Tryz.prog 51 #[.slice a l.length c,.slice b m.length d] w fun en w'=>en = .returned (.bool (decide (l = m))) ∧ Below w.heap.size w w':=by
 refine enter (args:=[_,_]) Tryz.func51 Tryz.ntmps51 rfl rfl (HS.refl w []) ?_
 iterate 13 refine aS ?_
 refine Qb rfl (fun h1=>?_) fun h1=>?_
 ·try simp only [Bool.not_eq_true',decide_eq_false_iff_not] at h1
  have hn9 : l ≠ m:=fun e=>by have hq:=h1;rw [e] at hq;simp at hq
  refine aS4 ?_
  exact rT rfl rfl (fun w' h'=>⟨by rw [decide_eq_false hn9];rfl,h'.below⟩)
 try simp only [Bool.not_eq_false',decide_eq_true_eq] at h1
 have hlm : l.length = m.length:=by have hq:=h1;omega
 refine aS7 ?_
 refine Qx (α:=Nat) [4,5,11,12,13,14,15,16,17,18,19,20,21,22,23,24,25] (fun k=>[(5,.int .i64 (k : Int))]) (fun _=>HS w [] []) (fun k=>k ≤ l.length ∧ ∀ j,j < k → nth l j = nth m j) (fun k=>l.length - k) 0 ⟨Nat.zero_le _,fun j h=>absurd h (Nat.not_lt_zero j)⟩ aSx (fun w h=>h.ent aEt) (fun k hx=>?_)
 obtain ⟨hk1,hk3⟩:=hx
 refine aS8 ?_
 refine Qb rfl (fun h2=>?_) fun h2=>?_
 ·try simp only [dT] at h2
  have hk : k < l.length:=by omega
  have hk2 : k < m.length:=by omega
  refine aS4 ?_
  refine QG [] QU ?_
  refine dP 0 ?_
  refine dP 1 ?_
  refine dV 2 rfl (Qc rfl rfl rfl Xh (k) (by omega) (by omega) (Rw.some hs (by omega))) ?_
  refine dQ 3 [] rfl (QA _ rfl rfl Qb2 rfl (Rw.rd hs (by omega))) ?_
  refine dP 4 ?_
  refine dP 5 ?_
  refine dV 6 rfl (Qc rfl rfl rfl Xh (k) (by omega) (by omega) (Rw.some ht (by omega))) ?_
  refine dQ 7 [] rfl (QA _ rfl rfl Qb2 rfl (Rw.rd ht (by omega))) ?_
  refine dV 8 rfl (QgG rfl rfl rfl QvI (by rfl) (by rfl) (by rfl)) ?_
  refine dNi ?_
  refine Qb rfl (fun h3=>?_) fun h3=>?_
  ·try simp only [Bool.not_eq_true',Bool.and_eq_false_iff,decide_eq_false_iff_not] at h3
   have hn9 : l ≠ m:=fun e=>by have hq:=h3;rw [e] at hq;simp at hq
   refine aS4 ?_
   exact rT rfl rfl (fun w' h'=>⟨by rw [decide_eq_false hn9];rfl,h'.below⟩)
  try simp only [Bool.not_eq_false',Bool.and_eq_true,decide_eq_true_eq] at h3
  have he9 : nth l k = nth m k:=by have hq:=h3;exact Qsg hq.1 hq.2.1
  refine aS5 ?_
  try refine oWr ?_
  refine aS2 ?_
  exact Qu (k + 1) (by omega) ⟨by omega,fun j hj=>(Nat.lt_or_ge j k).elim (hk3 j) (fun h9=>by obtain rfl : j = k:=(by omega);exact he9)⟩ aSx (fun w h=>h.ent aEt)
 try simp only [dN] at h2
 have hl9 : l = m:=Qd5 hlm fun j hj=>hk3 j (by omega)
 refine Qp rfl ?_
 refine aS4 ?_
 exact rT rfl rfl (fun w' h'=>⟨by rw [decide_eq_true hl9];rfl,h'.below⟩)
theorem c33 (w : World) (n m : LNd) (hne : Rw TEnt.vals 2 w [] n.ea n.es) (hnc : Rw inV 1 w [] n.ca n.cs) (hme : Rw TEnt.vals 2 w [] m.ea m.es) (hmc : Rw inV 1 w [] m.ca m.cs) (h1 : n.es.length ≤ 100000 ∧ n.cs.length ≤ 100000) (h2 : m.es.length ≤ 100000 ∧ m.cs.length ≤ 100000) : Calls Tryz.prog 33 #[.agg #[.bool n.us,.slice n.ea n.es.length n.ec,.slice n.ca n.cs.length n.cc],.agg #[.bool m.us,.slice m.ea m.es.length m.ec,.slice m.ca m.cs.length m.cc]] w fun en w'=>en = .returned (.bool (decide (n.pl = m.pl))) ∧ Below w.heap.size w w':=by
 refine enter (args:=[_,_]) Tryz.func33 Tryz.ntmps33 rfl rfl (HS.refl w []) ?_
 refine aS2 ?_
 refine oBx fun b1 _=>?_
 refine oBx fun b2 _=>?_
 refine aS8 ?_
 refine o_p (Qgo rfl rfl rfl Tryz.underlying4) rfl ?_
 refine aS ?_
 refine Xn 6 10 16 _ _ rfl
  (by
   intro hg3
   have hs4:=hg3;skip
   refine oOn 10 hg3 ?_
   refine aS ?_
   refine oOn 10 hg3 ?_
   refine aS ?_
   refine oOn 10 hg3 ?_
   refine aS ?_
   refine oOn 10 hg3 ?_
   refine aS ?_
   refine oOn 10 hg3 ?_
   refine o_q (Qa rfl Qwf rfl (fun w1 h1=>c51 w1 n.ea m.ea n.ec m.ec n.es m.es (hne.later h1.nil) (hme.later h1.nil) (by omega) (by omega))) rfl ?_
   refine o_p (Qg rfl rfl hg3 rfl) rfl ?_
   refine aS ?_
   exact oJn 6 16)
  (by
   intro hg5
   have hs6:=hg5;skip
   refine oOf 10 hg5 ?_
   refine oOf 10 hg5 ?_
   refine oOf 10 hg5 ?_
   refine oOf 10 hg5 ?_
   refine oOf 10 hg5 ?_
   refine o_p (Qf rfl rfl hg5 rfl) rfl ?_
   refine aS ?_
   exact oJn 6 16) ?_
 refine aS ?_
 refine Xn 6 17 23 _ _ rfl
  (by
   intro hg7
   have hs8:=hg7;try simp only [Bool.and_eq_true,decide_eq_true_eq] at hs8
   refine oOn 17 hg7 ?_
   refine aS ?_
   refine oOn 17 hg7 ?_
   refine aS ?_
   refine oOn 17 hg7 ?_
   refine aS ?_
   refine oOn 17 hg7 ?_
   refine aS ?_
   refine oOn 17 hg7 ?_
   refine o_q (Qa rfl QwB rfl (fun w1 h1=>c15 w1 n.ca m.ca n.cc m.cc n.cs m.cs (hnc.later h1.nil) (hmc.later h1.nil) (by omega) (by omega))) rfl ?_
   refine o_p (Qg rfl rfl hg7 rfl) rfl ?_
   refine aS ?_
   exact oJn 6 23)
  (by
   intro hg9
   have hs10:=hg9;try simp only [Bool.and_eq_false_iff,decide_eq_false_iff_not] at hs10
   refine oOf 17 hg9 ?_
   refine oOf 17 hg9 ?_
   refine oOf 17 hg9 ?_
   refine oOf 17 hg9 ?_
   refine oOf 17 hg9 ?_
   refine o_p (Qf rfl rfl hg9 rfl) rfl ?_
   refine aS ?_
   exact oJn 6 23) ?_
 refine aS2 ?_
 exact rT rfl rfl (fun w' h'=>⟨by simp only [QT];rw [Qpk],h'.below⟩)
end Go.Proofs
namespace Gx
open Go Go.RowKit Go.Proofs
section
variable {w0 w : World} {M : List Nat} {As As' : List HA}
end
abbrev siz0 (co mo rm : Int) : Int:=if QB co = 0 then Yn mo rm else QB co
abbrev cE1 (co : Int) (a : List UInt8) : Int:=if QB co = 0 then Qas co a else QB co
end Gx
namespace Gx
open Go Go.RowKit
def Q9 (n : Nat) (S : List Int) : List Value:=(List.range n).map fun k=>Value.bool (decide (((k : Nat) : Int) ∈ S))
theorem QaH (n : Nat) (S : List Int) : (Q9 n S).length = n:=by simp [Q9]
theorem QaI {n k : Nat} {S : List Int} (h : k < n) : (Q9 n S)[k]? = some (.bool (decide (((k : Nat) : Int) ∈ S))):=by
 unfold Q9;rw [List.getElem?_map,List.getElem?_range h];rfl
theorem QjD {n k : Nat} {S : List Int} (h : k < n) : Qh (Q9 n S) k [.bool true] = Q9 n (((k : Nat) : Int) :: S):=by
 apply List.ext_getElem?;intro i;show ((Q9 n S).set k (.bool true))[i]? = _;rw [List.getElem?_set]
 by_cases hi : i < n
 ·rw [QaI hi]
  by_cases e : k = i
  ·subst e;rw [if_pos rfl,if_pos (by rw [QaH];exact h),QaI h,decide_eq_true (List.mem_cons_self ..)]
  ·rw [if_neg e,QaI hi];congr 2;have hne : ((i : Nat) : Int) ≠ ((k : Nat) : Int):=by omega
   simp [List.mem_cons,hne]
 ·rw [if_neg (by omega),List.getElem?_eq_none (by rw [QaH];omega),List.getElem?_eq_none (by rw [QaH];omega)]
theorem QoZ {n : Nat} {c : Int} {S : List Int} (h : c ∈ S) : Q9 n (c :: S) = Q9 n S:=by
 unfold Q9;apply List.map_congr_left;intro k _;congr 1
 by_cases e : ((k : Nat) : Int) ∈ S
 ·rw [decide_eq_true e,decide_eq_true (List.mem_cons_of_mem _ e)]
 ·rw [decide_eq_false e,decide_eq_false (fun h2=>by
   rcases List.mem_cons.1 h2 with h3 | h3
   ·exact e (h3 ▸ h)
   ·exact e h3)]
theorem Qsp {t : Tre} {i : Nat} {S : List Int} (h : ¬ (nth t.ns i).us = true) : XN t i S = if (0 < i ∧ i + 1 < t.ns.length) ∧ (nth t.ns i).es.length + (nth t.ns i).cs.length = 0 then (0,S) else (3,S):=by
 unfold XN;simp only [];rw [if_neg h]
section
variable {t : Tre} {i : Nat} {S : List Int} {n : Nd}
theorem Qr4 (hn : nth t.ns i = n) (hu : n.us = true) (h : ¬ (n.es.length : Int) ≤ YH t.mo t.rm i) : XN t i S = (16,S):=by
 subst hn;unfold XN;simp only [];rw [if_pos hu,if_neg h]
theorem Qsd (hn : nth t.ns i = n) (hu : n.us = true) (h : (n.es.length : Int) ≤ YH t.mo t.rm i) (h2 : ¬ (n.cs.length = 0 ∨ n.cs.length = n.es.length + 1)) : XN t i S = (10,S):=by
 subst hn;unfold XN;simp only [];rw [if_pos hu,if_pos h,if_neg h2]
theorem QsP (hn : nth t.ns i = n) (hu : n.us = true) (h : (n.es.length : Int) ≤ YH t.mo t.rm i) (h2 : n.cs.length = 0 ∨ n.cs.length = n.es.length + 1) (h3 : ¬ Zf t.co n.es = 0) : XN t i S = (Zf t.co n.es,S):=by
 subst hn;unfold XN;simp only [];rw [if_pos hu,if_pos h,if_pos h2,if_neg h3]
theorem Qlc (hn : nth t.ns i = n) (hu : n.us = true) (h : (n.es.length : Int) ≤ YH t.mo t.rm i) (h2 : n.cs.length = 0 ∨ n.cs.length = n.es.length + 1) (h3 : Zf t.co n.es = 0) (h4 : ¬ (XW t.ns n.cs S).1 = 0) : XN t i S = XW t.ns n.cs S:=by
 subst hn;unfold XN;simp only [];rw [if_pos hu,if_pos h,if_pos h2,if_pos h3,if_neg h4]
theorem Qrf (hn : nth t.ns i = n) (hu : n.us = true) (h : (n.es.length : Int) ≤ YH t.mo t.rm i) (h2 : n.cs.length = 0 ∨ n.cs.length = n.es.length + 1) (h3 : Zf t.co n.es = 0) (h4 : (XW t.ns n.cs S).1 = 0) : XN t i S = (QaC t.co n.es,(XW t.ns n.cs S).2):=by
 subst hn;unfold XN;simp only [];rw [if_pos hu,if_pos h,if_pos h2,if_pos h3,if_pos h4]
end
theorem Qjt {es : List Int} {k : Nat} (hk : k < es.length) (h : ∀ j,j < k → es.getD j 0 = 0) (h2 : es.getD k 0 ≠ 0) : XM es 0 = ((k : Int),es.getD k 0):=by
 have key : ∀ i,i ≤ k → XM es 0 = XM (es.drop i) i:=by
  intro i
  induction i with
  | zero=>intro _;rfl
  | succ i ih=>
   intro hi;rw [ih (by omega),Z3 (by omega),if_pos (h i (by omega))]
 rw [key k (Nat.le_refl _),Z3 hk,if_neg h2]
theorem QgL {es : List Int} (h : ∀ j,j < es.length → es.getD j 0 = 0) : XM es 0 = (0,0):=by
 have key : ∀ i,i ≤ es.length → XM es 0 = XM (es.drop i) i:=by
  intro i
  induction i with
  | zero=>intro _;rfl
  | succ i ih=>
   intro hi;rw [ih (by omega),Z3 (by omega),if_pos (h i (by omega))]
 rw [key _ (Nat.le_refl _),List.drop_length];rfl
theorem Qo8 {co : Int} {es : List TEnt} {k : Nat} (hk : k < es.length) (h1 : ∀ q,q < k → YS co (nth es q) = 0) (h2 : ¬ YS co (nth es k) = 0) : Zf co es = YS co (nth es k):=by
 unfold Zf;rw [Qjt (es:=es.map (YS co)) (k:=k) (by rw [List.length_map];exact hk) (fun q hq=>by rw [Qca (by omega)];exact h1 q hq) (by rw [Qca hk];exact h2),Qca hk]
theorem Qph {co : Int} {es : List TEnt} (h1 : ∀ q,q < es.length → YS co (nth es q) = 0) : Zf co es = 0:=by
 unfold Zf;rw [QgL (fun q hq=>by rw [List.length_map] at hq;rw [Qca hq];exact h1 q hq)]
theorem QoQ {co : Int} {es : List TEnt} {k : Nat} (hk : k < es.length) (h1 : ∀ q,q < k → QaW co es q = 0) (h2 : ¬ QaW co es k = 0) : QaC co es = QaW co es k:=by
 unfold QaC;rw [Qjt (es:=(List.range es.length).map (QaW co es)) (k:=k) (by simpa using hk) (fun q hq=>by rw [Qb0 (by omega)];exact h1 q hq) (by rw [Qb0 hk];exact h2),Qb0 hk]
theorem QnU {co : Int} {es : List TEnt} (h1 : ∀ q,q < es.length → QaW co es q = 0) : QaC co es = 0:=by
 unfold QaC;rw [QgL (fun q hq=>by rw [List.length_map,List.length_range] at hq;rw [Qb0 hq];exact h1 q hq)]
end Gx
namespace Go.Proofs
open Go Go.RowKit Gx
attribute [local irreducible] Go.Calls Gx.S Gx.O Gx.D Gx.OpP Gx.OpQ Gx.OpH
set_option maxRecDepth 20000
theorem Qu1 : Qt Tryz.prog 198 = true:=by kernel_rfl
set_option maxHeartbeats 400000 in
theorem c136 (w : World) (j : Nat) (mo rm : Int) (a : Option Addr) (cap : Nat) (L : List LNd) (i sb scap tot : Nat) (S : List Int) (hw : HS w (fps [.blk sb 4 tot (Q9 L.length S)]) [.blk sb 4 tot (Q9 L.length S)] w) (hs : Nt w (fps [.blk sb 4 tot (Q9 L.length S)]) a L) (hj : j ≤ 3) (hi : i < L.length) (hl : L.length ≤ 1000) (hel : (nth L i).es.length ≤ 1000) (hcl : (nth L i).cs.length ≤ 1000) (hK : ∀ x ∈ (nth L i).es,x.key.length ≤ 1000000) : Calls Tryz.prog 136 #[.agg #[.int .i64 (j : Int),.int .i64 mo,.int .i64 rm,.slice a L.length cap],.int .i64 (i : Int),.slice (some ⟨sb,0,none⟩) L.length scap] w fun en w'=>∃ g : Unit,en = .returned (.int .i64 (XN (⟨(j : Int),mo,rm,pln L⟩ : Tre) i S).1) ∧ True ∧ HS w (fps [.blk sb 4 tot (Q9 L.length S)]) [.blk sb 4 tot (Q9 L.length (XN (⟨(j : Int),mo,rm,pln L⟩ : Tre) i S).2)] w':=by
 have hNI:=Q3 hi
 have hnl : (pln L).length = L.length:=Qi L
 refine enter (args:=[_,_,_]) Tryz.func136 Tryz.ntmps136 rfl rfl hw ?_
 refine aS2 ?_
 refine oBx fun b1 _=>?_
 refine aS7 ?_
 refine o_p (Qc rfl rfl rfl XB (i) (by omega) (by omega) (Rw.some hs.1 (by omega))) rfl ?_
 refine o_q (QA _ rfl rfl Xz rfl (Rw.rd hs.1 hi)) rfl ?_
 refine oAl (fun b2 _=>?_) XF
 refine oSt ?_
 refine aS8 ?_
 refine Qb rfl (fun h3=>?_) fun h3=>?_
 ·try simp only [Bool.not_eq_true'] at h3
  have hu9 : ¬ (nth L i).us = true:=by have hq:=h3;simp [hq]
  have hun:=Qsp (t:=(⟨(j : Int),mo,rm,pln L⟩ : Tre)) (S:=S) (i:=i) (by rw [show ((⟨(j : Int),mo,rm,pln L⟩ : Tre)).ns = pln L from rfl,hNI];exact hu9)
  rw [show ((⟨(j : Int),mo,rm,pln L⟩ : Tre)).ns = pln L from rfl,hNI,hnl] at hun
  refine aS6 ?_
  refine Xt 7 24 31 _ _ rfl
   (by
    intro hg4
    have hs5:=hg4;try simp only [dN] at hs5
    refine oOn 24 hg4 ?_
    refine aS ?_
    refine oOn 24 hg4 ?_
    refine aS ?_
    try refine oWr ?_
    refine oOn 24 hg4 ?_
    refine aS ?_
    refine oOn 24 hg4 ?_
    refine aS ?_
    refine oOn 24 hg4 ?_
    refine aS ?_
    refine oOn 24 hg4 ?_
    refine aS ?_
    refine o_p (Qf rfl rfl hg4 rfl) rfl ?_
    refine aS ?_
    exact oJn 7 31)
   (by
    intro hg6
    have hs7:=hg6;try simp only [dT] at hs7
    refine oOf 24 hg6 ?_
    refine oOf 24 hg6 ?_
    refine oOf 24 hg6 ?_
    refine oOf 24 hg6 ?_
    refine oOf 24 hg6 ?_
    refine oOf 24 hg6 ?_
    refine o_p (Qg rfl rfl hg6 rfl) rfl ?_
    refine aS ?_
    exact oJn 7 31) ?_
  refine aS ?_
  refine Xt 5 32 37 _ _ rfl
   (by
    intro hg8
    have hs9:=hg8;try simp only [Bool.or_eq_false_iff,decide_eq_false_iff_not] at hs9
    refine oOn 32 hg8 ?_
    refine aS ?_
    refine oOn 32 hg8 ?_
    refine aS ?_
    refine oOn 32 hg8 ?_
    refine aS ?_
    refine oOn 32 hg8 ?_
    refine aS ?_
    refine o_p (Qf rfl rfl hg8 rfl) rfl ?_
    refine aS ?_
    exact oJn 5 37)
   (by
    intro hg10
    have hs11:=hg10;try simp only [Bool.or_eq_true,decide_eq_true_eq] at hs11
    refine oOf 32 hg10 ?_
    refine oOf 32 hg10 ?_
    refine oOf 32 hg10 ?_
    refine oOf 32 hg10 ?_
    refine o_p (Qg rfl rfl hg10 rfl) rfl ?_
    refine aS ?_
    exact oJn 5 37) ?_
  refine aS ?_
  refine Xt 5 38 43 _ _ rfl
   (by
    intro hg12
    have hs13:=hg12;try simp only [Bool.or_eq_false_iff,decide_eq_false_iff_not] at hs13
    refine oOn 38 hg12 ?_
    refine aS ?_
    refine oOn 38 hg12 ?_
    refine aS ?_
    refine oOn 38 hg12 ?_
    refine aS ?_
    refine oOn 38 hg12 ?_
    refine aS ?_
    refine o_p (Qf rfl rfl hg12 rfl) rfl ?_
    refine aS ?_
    exact oJn 5 43)
   (by
    intro hg14
    have hs15:=hg14;try simp only [Bool.or_eq_true,decide_eq_true_eq] at hs15
    refine oOf 38 hg14 ?_
    refine oOf 38 hg14 ?_
    refine oOf 38 hg14 ?_
    refine oOf 38 hg14 ?_
    refine o_p (Qg rfl rfl hg14 rfl) rfl ?_
    refine aS ?_
    exact oJn 5 43) ?_
  refine aS ?_
  refine Qb rfl (fun h16=>?_) fun h16=>?_
  ·try simp only [Bool.or_eq_true,decide_eq_true_eq] at h16
   have hn9 : ¬ ((0 < i ∧ i + 1 < L.length) ∧ (nth L i).es.length + (nth L i).cs.length = 0):=by have hq:=h16;omega
   have hun2 : (XN (⟨(j : Int),mo,rm,pln L⟩ : Tre) i S) = (3,S):=by rw [hun];exact if_neg hn9
   refine aS4 ?_
   exact rT rfl rfl (fun w' h'=>⟨(),by rw [hun2];rfl,trivial,by rw [hun2];exact h'.ent aEt⟩)
  try simp only [Bool.or_eq_false_iff,decide_eq_false_iff_not] at h16
  have hn9 : (0 < i ∧ i + 1 < L.length) ∧ (nth L i).es.length + (nth L i).cs.length = 0:=by have hq:=h16;omega
  have hun2 : (XN (⟨(j : Int),mo,rm,pln L⟩ : Tre) i S) = (0,S):=by rw [hun];exact if_pos hn9
  refine aS5 ?_
  exact rT rfl rfl (fun w' h'=>⟨(),by rw [hun2];rfl,trivial,by rw [hun2];exact h'.ent aEt⟩)
 try simp only [Bool.not_eq_false'] at h3
 have hu9 : (nth L i).us = true:=by have hq:=h3;simpa using hq
 iterate 13 refine aS ?_
 refine Qm (L':=[(2,_),(3,_),(6,_),(7,_),(8,_),(47,_)]) aSx (fun _ h=>h) ?_
 refine Qq6 (α:=Unit) [8,48,49] (fun _=>[(8,.int .i64 (YH mo rm i))]) (fun _=>True) ?_ ?_
 ·skip
  refine Qb rfl (fun h17=>?_) fun h17=>?_
  ·try simp only [dT] at h17
   have hi0 : i = 0:=by have hq:=h17;omega
   refine aS5 ?_
   exact Qw () trivial (by rw [show YH mo rm i = rm from if_pos hi0];exact aSx) (fun w h=>h)
  try simp only [dN] at h17
  have hi0 : ¬ i = 0:=by have hq:=h17;omega
  refine aS ?_
  exact Qw () trivial (by rw [show YH mo rm i = mo from if_neg hi0];exact aSx) (fun w h=>h)
 intro _ _
 refine aS9 ?_
 refine Qb rfl (fun h18=>?_) fun h18=>?_
 ·try simp only [dT] at h18
  have h16 : (XN (⟨(j : Int),mo,rm,pln L⟩ : Tre) i S) = (16,S):=Qr4 (t:=(⟨(j : Int),mo,rm,pln L⟩ : Tre)) hNI hu9 (by show ¬ ((nth L i).es.length : Int) ≤ YH mo rm i;have hq:=h18;omega)
  refine aS4 ?_
  exact rT rfl rfl (fun w' h'=>⟨(),by rw [h16];rfl,trivial,by rw [h16];exact h'.ent aEt⟩)
 try simp only [dN] at h18
 have hM9 : ((nth L i).es.length : Int) ≤ YH mo rm i:=by have hq:=h18;omega
 refine aS9 ?_
 refine Xn 9 59 68 _ _ rfl
  (by
   intro hg19
   have hs20:=hg19;try simp only [dT] at hs20
   refine oOn 59 hg19 ?_
   refine aS ?_
   refine oOn 59 hg19 ?_
   refine aS ?_
   refine oOn 59 hg19 ?_
   refine aS ?_
   refine oOn 59 hg19 ?_
   refine aS ?_
   refine oOn 59 hg19 ?_
   refine aS ?_
   refine oOn 59 hg19 ?_
   refine aS ?_
   refine oOn 59 hg19 ?_
   refine aS ?_
   try refine oWr ?_
   refine oOn 59 hg19 ?_
   refine aS ?_
   refine o_p (Qg rfl rfl hg19 rfl) rfl ?_
   refine aS ?_
   exact oJn 9 68)
  (by
   intro hg21
   have hs22:=hg21;try simp only [dN] at hs22
   refine oOf 59 hg21 ?_
   refine oOf 59 hg21 ?_
   refine oOf 59 hg21 ?_
   refine oOf 59 hg21 ?_
   refine oOf 59 hg21 ?_
   refine oOf 59 hg21 ?_
   refine oOf 59 hg21 ?_
   refine oOf 59 hg21 ?_
   refine o_p (Qf rfl rfl hg21 rfl) rfl ?_
   refine aS ?_
   exact oJn 9 68) ?_
 refine aS ?_
 refine Qb rfl (fun h23=>?_) fun h23=>?_
 ·try simp only [Bool.and_eq_true,decide_eq_true_eq,Bool.not_eq_true',decide_eq_false_iff_not] at h23
  have h10 : (XN (⟨(j : Int),mo,rm,pln L⟩ : Tre) i S) = (10,S):=Qsd (t:=(⟨(j : Int),mo,rm,pln L⟩ : Tre)) hNI hu9 hM9 (by show ¬ ((nth L i).cs.length = 0 ∨ (nth L i).cs.length = (nth L i).es.length + 1);have hq:=h23;omega)
  refine aS4 ?_
  exact rT rfl rfl (fun w' h'=>⟨(),by rw [h10];rfl,trivial,by rw [h10];exact h'.ent aEt⟩)
 try simp only [Bool.and_eq_false_iff,decide_eq_false_iff_not,Bool.not_eq_false',decide_eq_true_eq] at h23
 have hS9 : (nth L i).cs.length = 0 ∨ (nth L i).cs.length = (nth L i).es.length + 1:=by have hq:=h23;omega
 refine aS7 ?_
 refine Qm (L':=[(2,_),(3,_),(6,_),(7,_),(9,_)]) aSx (fun _ h=>h) ?_
 refine Qx (α:=Nat) [6,9,10,69,70,71,72,73,74,75,76,77,78,79,80,81,82,83,84,85,86] (fun k=>[(9,.int .i64 (k : Int))]) (fun _=>HS w (fps [.blk sb 4 tot (Q9 L.length S)]) [.blk sb 4 tot (Q9 L.length S),.blk b1 37 4 [.int .i64 (j : Int),.int .i64 mo,.int .i64 rm,.slice a L.length cap],.blk b2 69 3 (LNd.vals (nth L i))]) (fun k=>k ≤ (nth L i).es.length ∧ ∀ q,q < k → YS (j : Int) (nth (nth L i).es q) = 0) (fun k=>(nth L i).es.length - k) 0 ⟨Nat.zero_le _,fun j h=>absurd h (Nat.not_lt_zero j)⟩ aSx (fun w h=>h.ent aEt) (fun k hx=>?_)
 obtain ⟨hk1,hk3⟩:=hx
 refine aS9 ?_
 refine Qb rfl (fun h24=>?_) fun h24=>?_
 ·try simp only [dT] at h24
  have hk5 : k < (nth L i).es.length:=by omega
  refine aS4 ?_
  refine QG [] QU ?_
  refine dFa 0 ?_
  refine dLd 1 [] ?_
  refine dFa 2 ?_
  refine dLd 3 [] ?_
  refine dP 4 ?_
  refine dV 5 rfl (Qc rfl rfl rfl Xh (k) (by omega) (by omega) (Rw.some (hs.es hi) (by omega))) ?_
  refine dQ 6 [] rfl (QA _ rfl rfl Qb2 rfl (Rw.rd (hs.es hi) hk5)) ?_
  refine dQ 7 [] rfl (Qa rfl Qu1 rfl (fun w1 h1=>c198 w1 j (nth (nth L i).es k) hj (hK _ (QC hk5)))) ?_
  refine dP 8 ?_
  refine dNi ?_
  refine aS5 ?_
  refine Qb rfl (fun h25=>?_) fun h25=>?_
  ·try simp only [Bool.not_eq_true',decide_eq_false_iff_not] at h25
   have hz6 : ¬ YS (j : Int) (nth (nth L i).es k) = 0:=h25
   have hEb:=Qo8 hk5 hk3 hz6
   have hEe : (XN (⟨(j : Int),mo,rm,pln L⟩ : Tre) i S) = (YS (j : Int) (nth (nth L i).es k),S):=by rw [← hEb];exact QsP (t:=(⟨(j : Int),mo,rm,pln L⟩ : Tre)) hNI hu9 hM9 hS9 (by show ¬ Zf (j : Int) (nth L i).es = 0;rw [hEb];exact hz6)
   refine aS5 ?_
   exact rT rfl rfl (fun w' h'=>⟨(),by rw [hEe];rfl,trivial,by rw [hEe];exact h'.ent aEt⟩)
  try simp only [Bool.not_eq_false',decide_eq_true_eq] at h25
  have hz6 : YS (j : Int) (nth (nth L i).es k) = 0:=by have hq:=h25;omega
  refine aS5 ?_
  try refine oWr ?_
  refine aS2 ?_
  exact Qu (k + 1) (by omega) ⟨by omega,fun q hq=>(Nat.lt_or_ge q k).elim (hk3 q) (fun h9=>by obtain rfl : q = k:=(by omega);exact hz6)⟩ aSx (fun w h=>h.ent aEt)
 try simp only [dN] at h24
 have hEn : ∀ q,q < (nth L i).es.length → YS (j : Int) (nth (nth L i).es q) = 0:=fun q hq=>hk3 q (by omega)
 have hE0 : Zf (j : Int) (nth L i).es = 0:=Qph hEn
 refine Qp rfl ?_
 refine aS6 ?_
 refine Qx (α:=Nat × List Int) [6,11,12,87,88,89,90,91,92,93,94,95,96,97,98,99,100,101,102,103,104,105,106,107,108,109,110,111,112,113,114,115,116,117,118,119,120,121] (fun y=>[(11,.int .i64 (y.1 : Int))]) (fun y=>HS w (fps [.blk sb 4 tot (Q9 L.length S)]) [.blk sb 4 tot (Q9 L.length y.2),.blk b1 37 4 [.int .i64 (j : Int),.int .i64 mo,.int .i64 rm,.slice a L.length cap],.blk b2 69 3 (LNd.vals (nth L i))]) (fun y=>y.1 ≤ (nth L i).cs.length ∧ (XW (pln L) (nth L i).cs S) = XW (pln L) ((nth L i).cs.drop y.1) y.2) (fun y=>(nth L i).cs.length - y.1) (0,S) ⟨Nat.zero_le _,rfl⟩ aSx (fun w h=>h.ent aEt) (fun ⟨k,Sk⟩ hx=>?_)
 dsimp only
 obtain ⟨hk1,hk3⟩:=hx
 simp only [] at hk1 hk3
 refine aS9 ?_
 refine Qb rfl (fun h26=>?_) fun h26=>?_
 ·try simp only [dT] at h26
  have hk5 : k < (nth L i).cs.length:=by omega
  have hkd9 : nth (nth L i).cs k = ((nth L i).cs.getD k 0):=rfl
  have hst:=Qcj hk5
  rw [hst,Qa8] at hk3
  refine aS8 ?_
  refine o_p (Qc rfl rfl rfl Xe (k) (by omega) (by omega) (Rw.some (hs.cs hi) (by omega))) rfl ?_
  refine o_q (Qd rfl rfl Y1 (((hs.cs hi).rdj 0 hk5 rfl))) rfl ?_
  refine Qq (show _ = Value.int .i64 ((nth L i).cs.getD k 0) from rfl) ?_
  refine Qaq ?_
  try refine oWr ?_
  refine o_q (Qa rfl YM rfl (fun w1 h1=>c40 w1 _ _ _)) rfl ?_
  refine aS2 ?_
  refine Xt 8 106 114 _ _ rfl
   (by
    intro hg27
    have hs28:=hg27;try simp only [Bool.not_eq_false',Bool.and_eq_true,decide_eq_true_eq] at hs28
    refine oOn 106 hg27 ?_
    refine aS ?_
    refine oOn 106 hg27 ?_
    refine aS ?_
    refine oOn 106 hg27 ?_
    refine aS ?_
    refine oOn 106 hg27 ?_
    refine o_p (Qc rfl rfl rfl XB (((nth L i).cs.getD k 0).toNat) (by omega) (by omega) (Rw.some hs.1 (by omega))) rfl ?_
    refine oOn 106 hg27 ?_
    refine aS ?_
    refine oOn 106 hg27 ?_
    refine o_q (Qd rfl rfl Qdl ((hs.1.rdj 0 (i:=((nth L i).cs.getD k 0).toNat) (by omega) rfl))) rfl ?_
    refine oOn 106 hg27 ?_
    refine aS ?_
    refine o_p (Qf rfl rfl hg27 rfl) rfl ?_
    refine aS ?_
    exact oJn 8 114)
   (by
    intro hg29
    have hs30:=hg29;try simp only [Bool.not_eq_true',Bool.and_eq_false_iff,decide_eq_false_iff_not] at hs30
    refine oOf 106 hg29 ?_
    refine oOf 106 hg29 ?_
    refine oOf 106 hg29 ?_
    refine oOf 106 hg29 ?_
    refine oOf 106 hg29 ?_
    refine oOf 106 hg29 ?_
    refine oOf 106 hg29 ?_
    refine o_p (Qg rfl rfl hg29 rfl) rfl ?_
    refine aS ?_
    exact oJn 8 114) ?_
  refine aS ?_
  refine Qb rfl (fun h31=>?_) fun h31=>?_
  ·try simp only [Bool.or_eq_true,Bool.not_eq_true',Bool.and_eq_false_iff,decide_eq_false_iff_not] at h31
   have hko : ¬ QcK (pln L) ((nth L i).cs.getD k 0):=by rintro ⟨h91,h92⟩;rw [hnl] at h91;rw [Q3 (by omega)] at h92;have hq:=h31;exact hq.elim (fun hq=>by omega) (fun hq=>by rw [show (nth L ((nth L i).cs.getD k 0).toNat).pl.us = (nth L ((nth L i).cs.getD k 0).toNat).us from rfl,hq] at h92;cases h92)
   have hk6e : (XN (⟨(j : Int),mo,rm,pln L⟩ : Tre) i S) = (6,Sk):=by have h8 : Qb9 (pln L) ((nth L i).cs.getD k 0) Sk = 6:=if_neg hko;have h7 : QdL (pln L) ((nth L i).cs.getD k 0) Sk = Sk:=if_neg hko;rw [h8,h7,if_neg (by decide)] at hk3;rw [← hk3];exact Qlc (t:=(⟨(j : Int),mo,rm,pln L⟩ : Tre)) hNI hu9 hM9 hS9 hE0 (by show ¬ (XW (pln L) (nth L i).cs S).1 = 0;rw [hk3];show ¬ (6 : Int) = 0;decide)
   refine aS ?_
   refine Qm (L':=[(2,_),(3,_),(7,_),(9,_),(11,_),(12,_),(69,_),(70,_),(71,_),(72,_),(73,_)]) aSx (fun _ h=>h) ?_
   refine aS3 ?_
   exact rT rfl rfl (fun w' h'=>⟨(),by rw [hk6e];rfl,trivial,by rw [hk6e];exact h'.ent aEt⟩)
  try simp only [Bool.or_eq_false_iff,Bool.not_eq_false',Bool.and_eq_true,decide_eq_true_eq] at h31
  have hko : QcK (pln L) ((nth L i).cs.getD k 0):=by have hq:=h31;refine ⟨by rw [hnl];exact hq.1,?_⟩;rw [Q3 (by omega)];exact hq.2
  have hko1:=hko.1
  rw [hnl] at hko1
  have hcv2 : ((nth L i).cs.getD k 0).toNat < L.length:=by omega
  have hcc : ((((nth L i).cs.getD k 0).toNat : Nat) : Int) = ((nth L i).cs.getD k 0):=Int.toNat_of_nonneg (by omega)
  have h7 : QdL (pln L) ((nth L i).cs.getD k 0) Sk = ((nth L i).cs.getD k 0) :: Sk:=if_pos hko
  rw [h7] at hk3
  have hsv:=QjD (n:=L.length) (S:=Sk) hcv2
  rw [hcc] at hsv
  refine aS3 ?_
  refine Qm (L':=[(2,_),(3,_),(7,_),(9,_),(11,_),(12,_),(69,_),(70,_),(71,_),(72,_),(73,_)]) aSx (fun _ h=>h) ?_
  refine aS3 ?_
  refine o_p (Qc rfl rfl rfl Qa4 (((nth L i).cs.getD k 0).toNat) (by omega) (by omega) rfl) rfl ?_
  refine Qq (show _ = Value.pointer (some ⟨sb,((nth L i).cs.getD k 0).toNat,none⟩) from by rw [Nat.zero_add,Nat.mul_one]) ?_
  refine o_q (QaD rfl rfl Qdl (fun w h=>h.rd_blk (Mc:=[]) aPk (QaI hcv2) (by simp))) rfl ?_
  refine aS ?_
  refine Qb rfl (fun h32=>?_) fun h32=>?_
  ·try simp only [dT] at h32
   have hmem : ((nth L i).cs.getD k 0) ∈ Sk:=by have hq:=h32;rw [hcc] at hq;exact hq
   have h8 : Qb9 (pln L) ((nth L i).cs.getD k 0) Sk = 23:=by rw [Qb9,if_pos hko,if_pos hmem]
   rw [h8,if_neg (by decide)] at hk3
   have hk23 : (XN (⟨(j : Int),mo,rm,pln L⟩ : Tre) i S) = (23,((nth L i).cs.getD k 0) :: Sk):=by rw [← hk3];exact Qlc (t:=(⟨(j : Int),mo,rm,pln L⟩ : Tre)) hNI hu9 hM9 hS9 hE0 (by show ¬ (XW (pln L) (nth L i).cs S).1 = 0;rw [hk3];show ¬ (23 : Int) = 0;decide)
   refine aS4 ?_
   exact rT rfl rfl (fun w' h'=>⟨(),by rw [hk23];rfl,trivial,by rw [hk23,QoZ hmem];exact h'.ent aEt⟩)
  try simp only [dN] at h32
  have hmem : ¬ ((nth L i).cs.getD k 0) ∈ Sk:=by have hq:=h32;rw [hcc] at hq;exact hq
  have h8 : Qb9 (pln L) ((nth L i).cs.getD k 0) Sk = 0:=by rw [Qb9,if_pos hko,if_neg hmem]
  rw [h8,if_pos rfl] at hk3
  have hk9:=hk3
  refine aS4 ?_
  refine o_p (Qc rfl rfl rfl Qa4 (((nth L i).cs.getD k 0).toNat) (by omega) (by omega) rfl) rfl ?_
  refine Qq (show _ = Value.pointer (some ⟨sb,((nth L i).cs.getD k 0).toNat,none⟩) from by rw [Nat.zero_add,Nat.mul_one]) ?_
  refine QiH (Qbt rfl rfl rfl Qdl rfl aPt (by rw [QaH];show _ + 1 ≤ _;omega) rfl) (fun _ _=>?_)
  refine aS5 ?_
  try refine oWr ?_
  refine aS2 ?_
  exact Qu (k + 1,((nth L i).cs.getD k 0) :: Sk) (by (try simp only []);omega) ⟨by (try simp only []);omega,hk9⟩ aSx (fun w h=>by have h2:=h;rw [show Qh (Q9 L.length Sk) ((nth L i).cs.getD k 0).toNat (Value.cells (.bool true)).toList = Q9 L.length (((nth L i).cs.getD k 0) :: Sk) from hsv] at h2;exact h2.ent aEt)
 try simp only [dN] at h26
 have hdr9 : (nth L i).cs.drop k = []:=List.drop_of_length_le (by omega)
 rw [hdr9] at hk3
 have hK0 : (XW (pln L) (nth L i).cs S).1 = 0:=by rw [hk3];rfl
 have hK2 : (XW (pln L) (nth L i).cs S).2 = Sk:=by rw [hk3];rfl
 have hOr : (XN (⟨(j : Int),mo,rm,pln L⟩ : Tre) i S) = (QaC (j : Int) (nth L i).es,(XW (pln L) (nth L i).cs S).2):=by have h9:=Qrf (t:=(⟨(j : Int),mo,rm,pln L⟩ : Tre)) (i:=i) (S:=S) (n:=(nth L i).pl) hNI hu9 hM9 hS9 hE0 hK0;exact h9
 refine Qp rfl ?_
 refine aS6 ?_
 refine Qx (α:=Nat) [6,13,122,123,124,125,126,127,128,129,130,131,132,133,134,135,136,137,138,139,140,141,142,143,144,145] (fun k=>[(13,.int .i64 (k : Int))]) (fun _=>HS w (fps [.blk sb 4 tot (Q9 L.length S)]) [.blk sb 4 tot (Q9 L.length (XW (pln L) (nth L i).cs S).2),.blk b1 37 4 [.int .i64 (j : Int),.int .i64 mo,.int .i64 rm,.slice a L.length cap],.blk b2 69 3 (LNd.vals (nth L i))]) (fun k=>1 ≤ k ∧ ∀ q,q < k → QaW (j : Int) (nth L i).es q = 0) (fun k=>(nth L i).es.length - k) 1 ⟨Nat.le_refl _,fun q h=>if_pos (.inl (by omega))⟩ aSx (fun w h=>by rw [hK2];exact h.ent aEt) (fun k hx=>?_)
 obtain ⟨hk1,hk3b⟩:=hx
 refine aS9 ?_
 refine Qb rfl (fun h33=>?_) fun h33=>?_
 ·try simp only [dT] at h33
  have hk5 : k < (nth L i).es.length:=by omega
  have hk6 : k - 1 < (nth L i).es.length:=by omega
  refine aS4 ?_
  refine QG [] QU ?_
  refine dFa 0 ?_
  refine dLd 1 [] ?_
  refine dFa 2 ?_
  refine dLd 3 [] ?_
  refine dP 4 ?_
  refine dP 5 ?_
  try refine dWr ?_
  refine dV 6 rfl (Qc rfl rfl rfl Xh (k - 1) (by omega) (by omega) (Rw.some (hs.es hi) (by omega))) ?_
  refine dFa 7 ?_
  refine dQ 8 [] rfl (Qd rfl rfl Qa3 (((hs.es hi).rdj 0 hk6 rfl))) ?_
  refine dFa 9 ?_
  refine dLd 10 [] ?_
  refine dP 11 ?_
  refine dV 12 rfl (Qc rfl rfl rfl Xh (k) (by omega) (by omega) (Rw.some (hs.es hi) (by omega))) ?_
  refine dFa 13 ?_
  refine dQ 14 [] rfl (Qd rfl rfl Qa3 (((hs.es hi).rdj 0 hk5 rfl))) ?_
  refine dQ 15 [] rfl (Qa rfl QlD rfl (fun w1 h1=>c65 w1 j (nth (nth L i).es (k - 1)).key (nth (nth L i).es k).key hj (QdZ (hEn _ hk6)) (QdZ (hEn _ hk5)) (hK _ (QC hk6)) (hK _ (QC hk5)))) ?_
  refine dP 16 ?_
  refine dNi ?_
  refine Qb rfl (fun h34=>?_) fun h34=>?_
  ·try simp only [dT] at h34
   have hz11 : ¬ QaW (j : Int) (nth L i).es k = 0:=by unfold QaW;rw [if_neg (by have hq:=h34;omega)];decide
   have hOb:=QoQ hk5 hk3b hz11
   have hOv : QaW (j : Int) (nth L i).es k = 9:=if_neg (by have hq:=h34;omega)
   refine aS ?_
   refine Qm (L':=[(2,_),(3,_),(7,_),(9,_),(11,_),(13,_),(69,_),(70,_),(71,_),(72,_),(73,_),(87,_),(88,_),(89,_),(90,_),(91,_)]) aSx (fun _ h=>h) ?_
   refine aS3 ?_
   exact rT rfl rfl (fun w' h'=>⟨(),by rw [hOr,hOb,hOv];rfl,trivial,by rw [hOr];exact h'.ent aEt⟩)
  try simp only [dN] at h34
  have hz11 : QaW (j : Int) (nth L i).es k = 0:=if_pos (.inr (by have hq:=h34;omega))
  refine aS2 ?_
  refine Qm (L':=[(2,_),(3,_),(7,_),(9,_),(11,_),(13,_),(69,_),(70,_),(71,_),(72,_),(73,_),(87,_),(88,_),(89,_),(90,_),(91,_)]) aSx (fun _ h=>h) ?_
  refine aS3 ?_
  try refine oWr ?_
  refine aS2 ?_
  exact Qu (k + 1) (by omega) ⟨by omega,fun q hq=>(Nat.lt_or_ge q k).elim (hk3b q) (fun h9=>by obtain rfl : q = k:=(by omega);exact hz11)⟩ aSx (fun w h=>h.ent aEt)
 try simp only [dN] at h33
 have hO0 : QaC (j : Int) (nth L i).es = 0:=QnU (fun q hq=>hk3b q (by omega))
 refine Qp rfl ?_
 refine aS4 ?_
 exact rT rfl rfl (fun w' h'=>⟨(),by rw [hOr,hO0];rfl,trivial,by rw [hOr];exact h'.ent aEt⟩)
end Go.Proofs
namespace Gx
open Go Go.RowKit
def mkS (vs : List Vis) (S : List Int) : List Int:=(vs.map fun v=>((v.i : Nat) : Int)).reverse ++ S
theorem Qr5 (A B : List Vis) (S : List Int) : mkS (A ++ B) S = mkS B (mkS A S):=by simp [mkS]
theorem QsK {vs : List Vis} {c : Int} : c ∈ mkS vs [] ↔ ∃ v ∈ vs,((v.i : Nat) : Int) = c:=by simp [mkS]
end Gx
namespace Go.Proofs
open Go Go.RowKit Gx
attribute [local irreducible] Go.Calls Gx.S Gx.O Gx.D Gx.OpP Gx.OpQ Gx.OpH
set_option maxRecDepth 20000
theorem QoJ : Qt Tryz.prog 137 = true:=by kernel_rfl
def MkC (j : Nat) (mo rm : Int) (a : Option Addr) (cap : Nat) (L : List LNd) (sb scap tot : Nat) (f : Nat) : Prop:=∀ (w : World) (S : List Int) (v : Vis) (P : List Nat),(HS w (fps [.blk sb 4 tot (Q9 L.length S)]) [.blk sb 4 tot (Q9 L.length S)] w) → (Nt w (fps [.blk sb 4 tot (Q9 L.length S)]) a L) → (TOk (j : Int) (pln L)) → (Bd (pln L)) → (0 < L.length) → (Gx.Way (pln L) (v.i :: P)) → P.length + f = L.length → Calls Tryz.prog 137 #[.agg #[.int .i64 (j : Int),.int .i64 mo,.int .i64 rm,.slice a L.length cap],.int .i64 (v.i : Int),.slice (some ⟨sb,0,none⟩) L.length scap] w fun en w'=>∃ g : Unit,en = .returned (.tuple #[]) ∧ True ∧ HS w (fps [.blk sb 4 tot (Q9 L.length S)]) [.blk sb 4 tot (Q9 L.length (mkS (vis (pln L) f v) S))] w'
theorem QwG (w : World) (j : Nat) (mo rm : Int) (a : Option Addr) (cap : Nat) (L : List LNd) (sb scap tot : Nat) (S : List Int) (v : Vis) (P : List Nat) (f : Nat) (hw : HS w (fps [.blk sb 4 tot (Q9 L.length S)]) [.blk sb 4 tot (Q9 L.length S)] w) (hs : Nt w (fps [.blk sb 4 tot (Q9 L.length S)]) a L) (hT : TOk (j : Int) (pln L)) (hB : Bd (pln L)) (h0 : 0 < L.length) (hway : Gx.Way (pln L) (v.i :: P)) (hf : P.length + (f + 1) = L.length) (ih : MkC j mo rm a cap L sb scap tot f) : Calls Tryz.prog 137 #[.agg #[.int .i64 (j : Int),.int .i64 mo,.int .i64 rm,.slice a L.length cap],.int .i64 (v.i : Int),.slice (some ⟨sb,0,none⟩) L.length scap] w fun en w'=>∃ g : Unit,en = .returned (.tuple #[]) ∧ True ∧ HS w (fps [.blk sb 4 tot (Q9 L.length S)]) [.blk sb 4 tot (Q9 L.length (mkS (vis (pln L) (f + 1) v) S))] w':=by
 have hi0:=Qc2 hT (by rw [Qi];exact h0) hway v.i (List.mem_cons_self ..)
 have hi : v.i < L.length:=by rw [Qi] at hi0;exact hi0
 have hn:=Q3 hi
 have hle:=hB.len
 rw [Qi] at hle
 have hcl:=hB.cs v.i hi0
 rw [hn] at hcl
 simp only [LNd.pl] at hcl
 refine enter (args:=[_,_,_]) Tryz.func137 Tryz.ntmps137 rfl rfl hw ?_
 refine aS2 ?_
 refine oBx fun b1 _=>?_
 refine aS5 ?_
 refine o_p (Qc rfl rfl rfl Qa4 (v.i) (by omega) (by omega) rfl) rfl ?_
 refine Qq (show _ = Value.pointer (some ⟨sb,v.i,none⟩) from by rw [Nat.zero_add,Nat.mul_one]) ?_
 refine QiH (Qbt rfl rfl rfl Qdl rfl aPt (by rw [QaH];show _ + 1 ≤ _;omega) rfl) (fun _ _=>?_)
 refine aS6 ?_
 refine Qx (α:=Nat) [6,10,11,12,13,14,15,16,17,18,19,20,21,22,23,24,25,26,27,28,29,30,31,32] (fun k=>[(6,.int .i64 (k : Int))]) (fun k=>HS w (fps [.blk sb 4 tot (Q9 L.length S)]) [.blk sb 4 tot (Q9 L.length (mkS (QaB (pln L) f v k) S)),.blk b1 37 4 [.int .i64 (j : Int),.int .i64 mo,.int .i64 rm,.slice a L.length cap]]) (fun k=>k ≤ (nth L v.i).cs.length) (fun k=>(nth L v.i).cs.length - k) 0 (Nat.zero_le _) aSx (fun w h=>by have h2:=h;rw [show Qh (Q9 L.length S) v.i (Value.cells (.bool true)).toList = Q9 L.length (((v.i : Nat) : Int) :: S) from QjD hi] at h2;exact h2.ent aEt) (fun k hk1=>?_)
 refine aS7 ?_
 refine o_p (Qc rfl rfl rfl XB (v.i) (by omega) (by omega) (Rw.some hs.1 (by omega))) rfl ?_
 refine aS ?_
 refine o_q (Qd rfl rfl QbN ((hs.1.rdj 2 hi rfl))) rfl ?_
 refine aS3 ?_
 refine Qb rfl (fun h2=>?_) fun h2=>?_
 ·try simp only [dT] at h2
  have hkl : k < (nth L v.i).cs.length:=by omega
  have hkid:=Qfv hT hi0 (k:=k) (by rw [hn];exact hkl)
  rw [hn,Qi] at hkid
  simp only [LNd.pl] at hkid
  have hway2:=Qdm hway hi0 (k:=k) (by rw [hn];exact hkl) (by rw [hn];simp only [LNd.pl];omega)
  refine aS3 ?_
  refine QG [11] QU ?_
  refine dLn 0 [[]] ?_
  refine dFa 1 ?_
  refine dLd 2 [[9,8,6,5,4]] ?_
  refine dP 3 ?_
  refine dV 4 rfl (Qc rfl rfl rfl XB (v.i) (by omega) (by omega) (Rw.some hs.1 (by omega))) ?_
  refine dFa 5 ?_
  refine dQ 6 [[9,8]] rfl (Qd rfl rfl QbN ((hs.1.rdj 2 hi rfl))) ?_
  refine dP 7 ?_
  refine dV 8 rfl (Qc rfl rfl rfl Xe (k) (by omega) (by omega) (Rw.some (hs.cs hi) (by omega))) ?_
  refine dQ 9 [[]] rfl (Qd rfl rfl Y1 (((hs.cs hi).rdj 0 (i:=k) hkl rfl))) ?_
  refine QD (show _ = Value.int .i64 ((XQ (pln L) v k).i : Int) from by rw [XQ,hn];exact congrArg (Value.int .i64) (Int.toNat_of_nonneg (show 0 ≤ (nth L v.i).cs.getD k 0 by omega)).symm) ?_
  refine dP 10 ?_
  refine dH 11 rfl (Q0 (Cs:=[.blk sb 4 tot (Q9 L.length (mkS (QaB (pln L) f v k) S))]) rfl QoJ rfl aPs (fun w1 h1 hf9=>ih w1 (mkS (QaB (pln L) f v k) S) (XQ (pln L) v k) (v.i :: P) hf9 ((hs.keep h1).mono (Q6 aPs)) hT hB h0 hway2 (by simp only [List.length_cons];omega))) (fun _ _=>?_)
  refine dTu [] ?_
  refine dNi ?_
  refine aS4 ?_
  try refine oWr ?_
  refine aS2 ?_
  exact Qu (k + 1) (by omega) (by omega) aSx (fun w h=>by rw [XS,Qr5];exact h.ent aEt)
 try simp only [dN] at h2
 obtain rfl : k = (nth L v.i).cs.length:=by omega
 refine Qp rfl ?_
 exact Qgh rfl (fun w' h'=>⟨(),rfl,trivial,by rw [Y6,hn];exact h'.ent aEt⟩)
theorem c137 (j : Nat) (mo rm : Int) (a : Option Addr) (cap : Nat) (L : List LNd) (sb scap tot : Nat) : ∀ f,MkC j mo rm a cap L sb scap tot f
  | 0=>fun w S v P hw hs hT hB h0 hway hf=>by
    have h1:=Qbe hT (by rw [Qi];exact h0) hway;rw [Qi,List.length_cons] at h1;omega
  | f + 1=>fun w S v P hw hs hT hB h0 hway hf=>QwG w j mo rm a cap L sb scap tot S v P f hw hs hT hB h0 hway hf (c137 j mo rm a cap L sb scap tot f)
end Go.Proofs
namespace Gx
open Go Go.RowKit
def StK (w : World) (p : Option Addr) (n : Nat) (o : Option (List UInt8)) : Prop:=match o with
 | none=>n = 0
 | some k=>n = 1 ∧ ∃ b off,p = some ⟨b,off,none⟩ ∧ Rd w [] b off (.string (bs k))
theorem StK.later {w w' : World} {As : List HA} {p : Option Addr} {n : Nat} {o : Option (List UInt8)} (h : StK w p n o) (hs : HS w [] As w') : StK w' p n o:=by
 cases o with
 | none=>exact h
 | some k=>
  obtain ⟨h1,b,off,h2,h3⟩:=h;exact ⟨h1,b,off,h2,h3.next hs⟩
theorem StK.of_pos {w : World} {p : Option Addr} {n : Nat} {o : Option (List UInt8)} (h : StK w p n o) (hn : 0 < n) : ∃ k b off,o = some k ∧ n = 1 ∧ p = some ⟨b,off,none⟩ ∧ Rd w [] b off (.string (bs k)):=by
 cases o with
 | none=>
  have : n = 0:=h;omega
 | some k=>
  obtain ⟨h1,b,off,h2,h3⟩:=h;exact ⟨k,b,off,rfl,h1,h2,h3⟩
theorem StK.of_no {w : World} {p : Option Addr} {n : Nat} {o : Option (List UInt8)} (h : StK w p n o) (hn : ¬ 0 < n) : o = none:=by
 cases o with
 | none=>rfl
 | some k=>
  obtain ⟨h1,_⟩:=h;omega
theorem StK.new {w : World} {b : Nat} {k : List UInt8} (h : Rd w [] b 0 (.string (bs k))) : StK w (some ⟨b,0,none⟩) 1 (some k):=⟨rfl,b,0,rfl,h⟩
theorem Qfc {es : List TEnt} {k : Nat} {lo : Option (List UInt8)} (h : 0 < k) : loK es k lo = some (nth es (k - 1)).key:=if_pos h
theorem QhJ {es : List TEnt} {k : Nat} {lo : Option (List UInt8)} (h : ¬ 0 < k) : loK es k lo = lo:=if_neg h
theorem Qfi {es : List TEnt} {k : Nat} {hi : Option (List UInt8)} (h : k < es.length) : hiK es k hi = some (nth es k).key:=if_pos h
theorem QhD {es : List TEnt} {k : Nat} {hi : Option (List UInt8)} (h : ¬ k < es.length) : hiK es k hi = hi:=if_neg h
theorem X8 {t : Tre} {deep : Int} : ∀ (A B : List Vis),X5 t deep (A ++ B) = if (X5 t deep A).2 = 0 then X5 t deep B else X5 t deep A
 | [],B=>rfl
 | v :: A,B=>by
  rw [List.cons_append,X5,X5]
  by_cases h : Qdi t deep v = 0
  ·rw [if_pos h,if_pos h];exact X8 A B
  ·rw [if_neg h,if_neg h,if_neg h]
theorem QsL {t : Tre} {v : Vis} {N R : Nd} (hN : nth t.ns v.i = N) (hR : nth t.ns 0 = R) (h1 : R.cs.length = 0 ∨ R.cs.length = R.es.length + 1) (h2 : ∀ c ∈ R.cs,1 ≤ c) : Z0 t v = true ↔ (v.i ≠ 0 ∧ (N.es.length : Int) < t.mo / 2) ∨ (((R.es.length = 0 ∧ R.cs.length = 1) ∧ R.cs.getD 0 0 = (v.i : Int)) ∧ (N.es.length : Int) ≤ t.rm):=by
 subst hN hR;unfold Z0;simp only [Bool.and_eq_true,Bool.or_eq_true,decide_eq_true_eq];constructor
 ·rintro ⟨h3,h4 | ⟨⟨h4,h5⟩,h6⟩⟩
  ·exact .inl ⟨by omega,h4⟩
  ·refine .inr ⟨⟨⟨h4,?_⟩,?_⟩,h6⟩
   ·rcases h1 with h1 | h1
    ·rw [List.eq_nil_of_length_eq_zero h1] at h5;cases h5
    ·omega
   ·have hl : (nth t.ns 0).cs.length = 1:=by
     rcases h1 with h1 | h1
     ·rw [List.eq_nil_of_length_eq_zero h1] at h5;cases h5
     ·omega
    obtain ⟨c,hc⟩:=List.length_eq_one_iff.1 hl;rw [hc] at h5 ⊢;exact (List.mem_singleton.1 h5).symm
 ·rintro (⟨h3,h4⟩ | ⟨⟨⟨h4,h5⟩,h6⟩,h7⟩)
  ·exact ⟨by omega,.inl h4⟩
  ·obtain ⟨c,hc⟩:=List.length_eq_one_iff.1 h5;have h8:=h2 c (by rw [hc];exact List.mem_singleton.2 rfl);rw [hc] at h6 ⊢;have h9 : c = (v.i : Int):=h6;exact ⟨by omega,.inr ⟨⟨h4,List.mem_singleton.2 h9.symm⟩,h7⟩⟩
theorem Qj7 {t : Tre} {deep : Int} {v : Vis} (h : Z0 t v = true) : Qdi t deep v = 14:=by rw [Qcr,if_pos h]
theorem QpR {t : Tre} {deep : Int} {v : Vis} (h : ¬ Z0 t v = true) (h2 : Zy t v = true) : Qdi t deep v = 9:=by rw [Qcr,if_neg h,if_pos h2]
theorem QsD {t : Tre} {deep : Int} {v : Vis} (h : ¬ Z0 t v = true) (h2 : ¬ Zy t v = true) (h3 : (nth t.ns v.i).cs.length = 0 ∧ v.d ≠ deep + 1) : Qdi t deep v = 22:=by rw [Qcr,if_neg h,if_neg h2,if_pos h3]
theorem Qrg {t : Tre} {deep : Int} {v : Vis} (h : ¬ Z0 t v = true) (h2 : ¬ Zy t v = true) (h3 : ¬ ((nth t.ns v.i).cs.length = 0 ∧ v.d ≠ deep + 1)) : Qdi t deep v = 0:=by rw [Qcr,if_neg h,if_neg h2,if_neg h3]
theorem Qo6 {t : Tre} {v : Vis} {N : Nd} {k : Nat} (hN : nth t.ns v.i = N) (hk : k < N.es.length) (h : Z7 t v (nth N.es k) = true) : Zy t v = true:=by
 subst hN;exact List.any_eq_true.2 ⟨_,QC hk,h⟩
theorem QrD {t : Tre} {v : Vis} {N : Nd} (hN : nth t.ns v.i = N) (h : ∀ q,q < N.es.length → ¬ Z7 t v (nth N.es q) = true) : ¬ Zy t v = true:=fun h2=>by
 subst hN;obtain ⟨x,hx,h3⟩:=List.any_eq_true.1 h2;obtain ⟨q,hq,e⟩:=List.getElem_of_mem hx;have e2 : nth (nth t.ns v.i).es q = x:=Zk (by rw [List.getElem?_eq_getElem hq,e]);exact h q hq (by rw [e2];exact h3)
theorem QdQ {t : Tre} {v : Vis} {x : TEnt} : Z7 t v x = true ↔ (∃ b,v.lo = some b ∧ 0 ≤ Xm t.co b x.key) ∨ (∃ b,v.hi = some b ∧ 0 ≤ Xm t.co x.key b):=by
 unfold Z7;cases v.lo <;> cases v.hi <;> simp
section
variable {t : Tre} {v : Vis} {x : TEnt} {kl kh : List UInt8}
theorem Qv6 (h1 : v.lo = some kl) (h : 0 ≤ Xm t.co kl x.key) : (true = true ↔ Z7 t v x = true):=⟨fun _=>QdQ.2 (.inl ⟨kl,h1,h⟩),fun _=>rfl⟩
theorem Qwy (h1 : v.lo = some kl) (h : ¬ 0 ≤ Xm t.co kl x.key) (h2 : v.hi = some kh) : (decide (Xm t.co x.key kh ≥ 0) = true ↔ Z7 t v x = true):=by
 rw [decide_eq_true_eq,QdQ,h1,h2];constructor
 ·exact fun h9=>.inr ⟨kh,rfl,h9⟩
 ·rintro (⟨b,hb,h9⟩ | ⟨b,hb,h9⟩)
  ·cases hb;exact absurd h9 h
  ·cases hb;exact h9
theorem QwO (h1 : v.lo = some kl) (h : ¬ 0 ≤ Xm t.co kl x.key) (h2 : v.hi = none) : (false = true ↔ Z7 t v x = true):=by
 rw [QdQ,h1,h2];constructor
 ·exact fun h9=>(nomatch h9)
 ·rintro (⟨b,hb,h9⟩ | ⟨b,hb,h9⟩)
  ·cases hb;exact absurd h9 h
  ·cases hb
theorem QwN (h1 : v.lo = none) (h2 : v.hi = some kh) : (decide (Xm t.co x.key kh ≥ 0) = true ↔ Z7 t v x = true):=by
 rw [decide_eq_true_eq,QdQ,h1,h2];constructor
 ·exact fun h9=>.inr ⟨kh,rfl,h9⟩
 ·rintro (⟨b,hb,h9⟩ | ⟨b,hb,h9⟩)
  ·cases hb
  ·cases hb;exact h9
theorem Qv4 (h1 : v.lo = none) (h2 : v.hi = none) : (false = true ↔ Z7 t v x = true):=by
 rw [QdQ,h1,h2];constructor
 ·exact fun h9=>(nomatch h9)
 ·rintro (⟨b,hb,h9⟩ | ⟨b,hb,h9⟩) <;> cases hb
end
theorem QdH {t : Tre} {deep : Int} {f : Nat} {v : Vis} (h : ¬ Qdi t deep v = 0) : X5 t deep (vis t.ns (f + 1) v) = ((v.i : Int),Qdi t deep v):=by
 rw [vis,X5,if_neg h]
theorem Qt6 {t : Tre} {deep : Int} {f : Nat} {v : Vis} (h : Qdi t deep v = 0) : (X5 t deep (QaB t.ns f v 0)).2 = 0:=by
 rw [Qkw,X5,if_pos h];rfl
end Gx
namespace Go.Proofs
open Go Go.RowKit Gx
attribute [local irreducible] Go.Calls Gx.S Gx.O Gx.D Gx.OpP Gx.OpQ Gx.OpH
set_option maxRecDepth 20000
theorem Qec : tsl Tryz.prog 241 = some (9,1,16):=by kernel_rfl
theorem Qus : QO Tryz.prog 9 = some [.string (bs [])]:=by kernel_rfl
theorem Qf2 : Qt Tryz.prog 138 = true:=by kernel_rfl
def PlC (j : Nat) (mo rm : Int) (a : Option Addr) (cap : Nat) (L : List LNd) (deep : Int) (f : Nat) : Prop:=∀ (w : World) (v : Vis) (P : List Nat) (lv : Int) (pa qa : Option Addr) (pn pc qn qc : Nat),(Nt w [] a L) → (j ≤ 3) → ((0 ≤ mo ∧ mo ≤ 1000) ∧ (0 ≤ deep ∧ deep ≤ 1000)) → (TOk (j : Int) (pln L)) → (Bd (pln L)) → (0 < L.length) → (Gx.Way (pln L) (v.i :: P)) → (v.d = (P.length : Int) + 1) → (lv = deep + 1 - v.d) → (KOk (j : Int) v.lo) → (KOk (j : Int) v.hi) → (StK w pa pn v.lo) → (StK w qa qn v.hi) → P.length + f = L.length → Calls Tryz.prog 138 #[.agg #[.int .i64 (j : Int),.int .i64 mo,.int .i64 rm,.slice a L.length cap],.int .i64 (v.i : Int),.int .i64 lv,.slice pa pn pc,.slice qa qn qc] w fun en w'=>en = .returned (.tuple #[.int .i64 (X5 (⟨(j : Int),mo,rm,pln L⟩ : Tre) deep (vis (pln L) f v)).1,.int .i64 (X5 (⟨(j : Int),mo,rm,pln L⟩ : Tre) deep (vis (pln L) f v)).2]) ∧ Below w.heap.size w w'
set_option maxHeartbeats 400000 in
theorem Qwe (w : World) (j : Nat) (mo rm : Int) (a : Option Addr) (cap : Nat) (L : List LNd) (deep : Int) (v : Vis) (P : List Nat) (lv : Int) (pa qa : Option Addr) (pn pc qn qc : Nat) (f : Nat) (hs : Nt w [] a L) (hj : j ≤ 3) (hmo : (0 ≤ mo ∧ mo ≤ 1000) ∧ (0 ≤ deep ∧ deep ≤ 1000)) (hT : TOk (j : Int) (pln L)) (hB : Bd (pln L)) (h0 : 0 < L.length) (hway : Gx.Way (pln L) (v.i :: P)) (hd : v.d = (P.length : Int) + 1) (hlv : lv = deep + 1 - v.d) (hko : KOk (j : Int) v.lo) (hkp : KOk (j : Int) v.hi) (hlo : StK w pa pn v.lo) (hhi : StK w qa qn v.hi) (hf : P.length + (f + 1) = L.length) (ih : PlC j mo rm a cap L deep f) : Calls Tryz.prog 138 #[.agg #[.int .i64 (j : Int),.int .i64 mo,.int .i64 rm,.slice a L.length cap],.int .i64 (v.i : Int),.int .i64 lv,.slice pa pn pc,.slice qa qn qc] w fun en w'=>en = .returned (.tuple #[.int .i64 (X5 (⟨(j : Int),mo,rm,pln L⟩ : Tre) deep (vis (pln L) (f + 1) v)).1,.int .i64 (X5 (⟨(j : Int),mo,rm,pln L⟩ : Tre) deep (vis (pln L) (f + 1) v)).2]) ∧ Below w.heap.size w w':=by
 have hi0:=Qc2 hT (by rw [Qi];exact h0) hway v.i (List.mem_cons_self ..)
 have hi : v.i < L.length:=by rw [Qi] at hi0;exact hi0
 have hn:=Q3 hi
 have hn0:=Q3 h0
 have hle:=hB.len
 rw [Qi] at hle
 have hwl:=Qbe hT (by rw [Qi];exact h0) hway
 rw [Qi,List.length_cons] at hwl
 have hcl:=hB.cs v.i hi0
 have hel:=hB.es v.i hi0
 rw [hn] at hcl hel
 simp only [LNd.pl] at hcl hel
 have hsh:=hT.shape v.i hi0
 rw [hn] at hsh
 simp only [LNd.pl] at hsh
 have hgi:=QsL (t:=(⟨(j : Int),mo,rm,pln L⟩ : Tre)) (v:=v) hn hn0 (hn0 ▸ hT.shape 0 (by rw [Qi];exact h0)) (fun c hc=>(hT.kid 0 (by rw [Qi];exact h0) c (by rw [hn0];exact hc)).1.1)
 simp only [LNd.pl] at hgi
 have hE9:=QdE hT hi0
 rw [hn] at hE9
 simp only [LNd.pl] at hE9
 refine enter (args:=[_,_,_,_,_]) Tryz.func138 Tryz.ntmps138 rfl rfl (HS.refl w []) ?_
 refine aS2 ?_
 refine oBx fun b1 _=>?_
 refine aS8 ?_
 refine o_p (Qc rfl rfl rfl XB (v.i) (by omega) (by omega) (Rw.some hs.1 (by omega))) rfl ?_
 refine o_q (QA _ rfl rfl Xz rfl (Rw.rd hs.1 hi)) rfl ?_
 refine oAl (fun b2 _=>?_) XF
 refine oSt ?_
 refine aS7 ?_
 refine Xn 8 27 35 _ _ rfl
  (by
   intro hg3
   have hs4:=hg3;try simp only [Bool.not_eq_true',decide_eq_false_iff_not] at hs4
   refine oOn 27 hg3 ?_
   refine aS ?_
   refine oOn 27 hg3 ?_
   refine aS ?_
   refine oOn 27 hg3 ?_
   refine aS ?_
   refine oOn 27 hg3 ?_
   refine aS ?_
   refine oOn 27 hg3 ?_
   refine aS ?_
   refine oOn 27 hg3 ?_
   refine o_p (QaR rfl rfl rfl (by omega) (by omega) (by omega)) rfl ?_
   refine oOn 27 hg3 ?_
   refine aS ?_
   refine o_p (Qg rfl rfl hg3 rfl) rfl ?_
   refine aS ?_
   exact oJn 8 35)
  (by
   intro hg5
   have hs6:=hg5;try simp only [Bool.not_eq_false',decide_eq_true_eq] at hs6
   refine oOf 27 hg5 ?_
   refine oOf 27 hg5 ?_
   refine oOf 27 hg5 ?_
   refine oOf 27 hg5 ?_
   refine oOf 27 hg5 ?_
   refine oOf 27 hg5 ?_
   refine oOf 27 hg5 ?_
   refine o_p (Qf rfl rfl hg5 rfl) rfl ?_
   refine aS ?_
   exact oJn 8 35) ?_
 refine aS ?_
 refine Qb rfl (fun h7=>?_) fun h7=>?_
 ·try simp only [Bool.and_eq_true,Bool.not_eq_true',decide_eq_false_iff_not,decide_eq_true_eq] at h7
  have hgp : Z0 (⟨(j : Int),mo,rm,pln L⟩ : Tre) v = true:=hgi.2 (.inl (by have hq:=h7;omega))
  have hV:=Qj7 (deep:=deep) hgp
  refine aS6 ?_
  exact Qs (rs:=[.tmp 10,.tmp 11]) rfl (.tmp rfl (.tmp rfl (.nil))) (fun w' h'=>⟨by rw [QdH (by rw [hV];decide),hV];rfl,h'.below⟩)
 try simp only [Bool.and_eq_false_iff,Bool.not_eq_false',decide_eq_true_eq,decide_eq_false_iff_not] at h7
 have hng1 : ¬ (v.i ≠ 0 ∧ ((nth L v.i).es.length : Int) < mo / 2):=by have hq:=h7;omega
 refine aS6 ?_
 refine o_p (Qc rfl rfl rfl XB (0) (by omega) (by omega) (Rw.some hs.1 (by omega))) rfl ?_
 refine aS ?_
 refine o_q (Qd rfl rfl QdS ((hs.1.rdj 1 h0 rfl))) rfl ?_
 refine aS3 ?_
 refine Xn 8 44 52 _ _ rfl
  (by
   intro hg8
   have hs9:=hg8;try simp only [dT] at hs9
   refine oOn 44 hg8 ?_
   refine aS ?_
   refine oOn 44 hg8 ?_
   refine aS ?_
   refine oOn 44 hg8 ?_
   refine o_p (Qc rfl rfl rfl XB (0) (by omega) (by omega) (Rw.some hs.1 (by omega))) rfl ?_
   refine oOn 44 hg8 ?_
   refine aS ?_
   refine oOn 44 hg8 ?_
   refine o_q (Qd rfl rfl QbN ((hs.1.rdj 2 h0 rfl))) rfl ?_
   refine oOn 44 hg8 ?_
   refine aS ?_
   refine oOn 44 hg8 ?_
   refine aS ?_
   refine o_p (Qg rfl rfl hg8 rfl) rfl ?_
   refine aS ?_
   exact oJn 8 52)
  (by
   intro hg10
   have hs11:=hg10;try simp only [dN] at hs11
   refine oOf 44 hg10 ?_
   refine oOf 44 hg10 ?_
   refine oOf 44 hg10 ?_
   refine oOf 44 hg10 ?_
   refine oOf 44 hg10 ?_
   refine oOf 44 hg10 ?_
   refine oOf 44 hg10 ?_
   refine o_p (Qf rfl rfl hg10 rfl) rfl ?_
   refine aS ?_
   exact oJn 8 52) ?_
 refine aS ?_
 refine Xn 10 53 63 _ _ rfl
  (by
   intro hg12
   have hs13:=hg12;try simp only [Bool.and_eq_true,decide_eq_true_eq] at hs13
   refine oOn 53 hg12 ?_
   refine aS ?_
   refine oOn 53 hg12 ?_
   refine aS ?_
   refine oOn 53 hg12 ?_
   refine o_p (Qc rfl rfl rfl XB (0) (by omega) (by omega) (Rw.some hs.1 (by omega))) rfl ?_
   refine oOn 53 hg12 ?_
   refine aS ?_
   refine oOn 53 hg12 ?_
   refine o_q (Qd rfl rfl QbN ((hs.1.rdj 2 h0 rfl))) rfl ?_
   refine oOn 53 hg12 ?_
   refine o_p (Qc rfl rfl rfl Xe (0) (by omega) (by omega) (Rw.some (hs.cs h0) (by omega))) rfl ?_
   refine oOn 53 hg12 ?_
   refine o_q (Qd rfl rfl Y1 (((hs.cs h0).rdj 0 (i:=0) (by omega) rfl))) rfl ?_
   refine oOn 53 hg12 ?_
   refine aS ?_
   refine oOn 53 hg12 ?_
   refine aS ?_
   refine o_p (Qg rfl rfl hg12 rfl) rfl ?_
   refine aS ?_
   exact oJn 10 63)
  (by
   intro hg14
   have hs15:=hg14;try simp only [Bool.and_eq_false_iff,decide_eq_false_iff_not] at hs15
   refine oOf 53 hg14 ?_
   refine oOf 53 hg14 ?_
   refine oOf 53 hg14 ?_
   refine oOf 53 hg14 ?_
   refine oOf 53 hg14 ?_
   refine oOf 53 hg14 ?_
   refine oOf 53 hg14 ?_
   refine oOf 53 hg14 ?_
   refine oOf 53 hg14 ?_
   refine o_p (Qf rfl rfl hg14 rfl) rfl ?_
   refine aS ?_
   exact oJn 10 63) ?_
 refine aS ?_
 refine Xn 7 64 71 _ _ rfl
  (by
   intro hg16
   have hs17:=hg16;try simp only [Bool.and_eq_true,decide_eq_true_eq] at hs17
   refine oOn 64 hg16 ?_
   refine aS ?_
   refine oOn 64 hg16 ?_
   refine aS ?_
   refine oOn 64 hg16 ?_
   refine aS ?_
   refine oOn 64 hg16 ?_
   refine aS ?_
   refine oOn 64 hg16 ?_
   refine aS ?_
   refine oOn 64 hg16 ?_
   refine aS ?_
   refine o_p (Qg rfl rfl hg16 rfl) rfl ?_
   refine aS ?_
   exact oJn 7 71)
  (by
   intro hg18
   have hs19:=hg18;try simp only [Bool.and_eq_false_iff,decide_eq_false_iff_not] at hs19
   refine oOf 64 hg18 ?_
   refine oOf 64 hg18 ?_
   refine oOf 64 hg18 ?_
   refine oOf 64 hg18 ?_
   refine oOf 64 hg18 ?_
   refine oOf 64 hg18 ?_
   refine o_p (Qf rfl rfl hg18 rfl) rfl ?_
   refine aS ?_
   exact oJn 7 71) ?_
 refine aS ?_
 refine Qb rfl (fun h20=>?_) fun h20=>?_
 ·try simp only [Bool.and_eq_true,decide_eq_true_eq] at h20
  have hgp : Z0 (⟨(j : Int),mo,rm,pln L⟩ : Tre) v = true:=hgi.2 (.inr (by have hq:=h20;exact ⟨⟨⟨by omega,by omega⟩,hq.1.2⟩,by omega⟩))
  have hV:=Qj7 (deep:=deep) hgp
  refine aS ?_
  refine Qm (L':=[(1,_),(2,_),(3,_),(4,_),(5,_),(10,_),(11,_),(12,_)]) aSx (fun _ h=>h) ?_
  refine aS5 ?_
  exact Qs (rs:=[.tmp 10,.tmp 11]) rfl (.tmp rfl (.tmp rfl (.nil))) (fun w' h'=>⟨by rw [QdH (by rw [hV];decide),hV];rfl,h'.below⟩)
 try simp only [Bool.and_eq_false_iff,decide_eq_false_iff_not] at h20
 have hgn : ¬ Z0 (⟨(j : Int),mo,rm,pln L⟩ : Tre) v = true:=fun h9=>(hgi.1 h9).elim hng1 (fun h8=>by have hq:=h20;rcases hq with ((hq | hq) | hq) | hq <;> first | omega | exact hq h8.1.2)
 refine aS3 ?_
 refine Qm (L':=[(1,_),(2,_),(3,_),(4,_),(5,_),(10,_),(11,_),(12,_)]) aSx (fun _ h=>h) ?_
 refine aS4 ?_
 refine Qx (α:=Nat) [10,11,13,14,73,74,75,76,77,78,79,80,81,82,83,84,85,86,87,88,89,90,91,92,93,94,95,96,97,98,99,100,101,102,103,104,105,106,107,108,109,110,111,112,113,114] (fun k=>[(13,.int .i64 (k : Int))]) (fun _=>HS w [] [.blk b1 37 4 [.int .i64 (j : Int),.int .i64 mo,.int .i64 rm,.slice a L.length cap],.blk b2 69 3 (LNd.vals (nth L v.i))]) (fun k=>k ≤ (nth L v.i).es.length ∧ ∀ q,q < k → ¬ Z7 (⟨(j : Int),mo,rm,pln L⟩ : Tre) v (nth (nth L v.i).es q) = true) (fun k=>(nth L v.i).es.length - k) 0 ⟨Nat.zero_le _,fun q h=>absurd h (Nat.not_lt_zero q)⟩ aSx (fun w h=>h.ent aEt) (fun k hx9=>?_)
 obtain ⟨hk1,hk3⟩:=hx9
 refine aS9 ?_
 refine Qb rfl (fun h21=>?_) fun h21=>?_
 ·try simp only [dT] at h21
  have hk5 : k < (nth L v.i).es.length:=by omega
  refine aS8 ?_
  refine o_p (Qc rfl rfl rfl Xh (k) (by omega) (by omega) (Rw.some (hs.es hi) (by omega))) rfl ?_
  refine aS ?_
  refine o_q (Qd rfl rfl Qa3 (((hs.es hi).rdj 0 hk5 rfl))) rfl ?_
  refine aS3 ?_
  refine Qm (L':=[(1,_),(2,_),(3,_),(4,_),(5,_),(12,_),(13,_),(14,_)]) aSx (fun _ h=>h) ?_
  refine Qq6 (α:=Bool) [86,87,88,89,90,91,92,93,94,95,96,97,98,99,100,101,102,103,104,105,106,107,108,109,110,111,112,113] (fun x=>[(113,.bool x)]) (fun x=>x = true ↔ (Z7 (⟨(j : Int),mo,rm,pln L⟩ : Tre) v (nth (nth L v.i).es k)) = true) ?_ ?_
  ·skip
   refine QG [] QU ?_
   refine dP 0 ?_
   refine dV 1 rfl (QQ rfl rfl Tryz.underlying241) ?_
   refine dP 2 ?_
   refine dP 3 ?_
   apply XZ 89
   ·exact rfl
   ·intro hg22
    have hs23:=hg22;try simp only [dT] at hs23
    refine dFo 4 89 hg22 ?_
    obtain ⟨kl,bl,ol,hlo1,hlo2,hlo3,hlo4⟩:=hlo.of_pos (by omega)
    refine dQo 5 89 [] hg22 rfl rfl rfl (YA rfl rfl Y1 aPk rfl) ?_
    refine dPo 6 89 hg22 ?_
    refine dVo 7 89 hg22 rfl rfl rfl (Qc rfl rfl rfl Qec (0) (by omega) (by omega) hlo3) ?_
    refine dQo 8 89 [] hg22 rfl rfl rfl (Qd rfl rfl Qa3 (hlo4)) ?_
    refine dPo 9 89 hg22 ?_
    refine dQo 10 89 [] hg22 rfl rfl rfl (Qa rfl QlD rfl (fun w1 h1=>c65 w1 j kl (nth (nth L v.i).es k).key hj (hko _ hlo1).1 (hE9 _ (QC hk5)).1 (hko _ hlo1).2 (hE9 _ (QC hk5)).2)) ?_
    refine dPo 11 89 hg22 ?_
    refine dV 12 rfl (Qg rfl rfl hg22 rfl) ?_
    refine dP 13 ?_
    apply XZ 99
    ·exact rfl
    ·intro hg24
     have hs25:=hg24;try simp only [dT] at hs25
     refine dOf 14 99 hg24 ?_
     refine dOf 15 99 hg24 ?_
     refine dOf 16 99 hg24 ?_
     refine dOf 17 99 hg24 ?_
     refine dOu 18 103 ?_
     refine dOu 19 103 ?_
     refine dOu 20 103 ?_
     refine dOu 21 103 ?_
     refine dOu 22 103 ?_
     refine dOu 23 103 ?_
     refine dOu 24 103 ?_
     refine dOu 25 103 ?_
     refine dOf 26 99 hg24 ?_
     refine dV 27 rfl (Qg rfl rfl hg24 rfl) ?_
     refine dNi ?_
     exact Qw true (Qv6 hlo1 (by show 0 ≤ Xm (j : Int) kl _;omega)) aSx (fun w h=>h.ent aEt)
    intro hg26
    have hs27:=hg26;try simp only [dN] at hs27
    refine dPo 14 99 hg26 ?_
    refine dVo 15 99 hg26 rfl rfl rfl (QQ rfl rfl Tryz.underlying241) ?_
    refine dPo 16 99 hg26 ?_
    refine dPo 17 99 hg26 ?_
    apply XZ 103
    ·exact rfl
    ·intro hg28
     have hs29:=hg28;try simp only [dT] at hs29
     refine dFo 18 103 hg28 ?_
     obtain ⟨kh,bh,oh,hhi1,hhi2,hhi3,hhi4⟩:=hhi.of_pos (by omega)
     refine dQo 19 103 [] hg28 rfl rfl rfl (YA rfl rfl Y1 aPk rfl) ?_
     refine dPo 20 103 hg28 ?_
     refine dPo 21 103 hg28 ?_
     refine dVo 22 103 hg28 rfl rfl rfl (Qc rfl rfl rfl Qec (0) (by omega) (by omega) hhi3) ?_
     refine dQo 23 103 [] hg28 rfl rfl rfl (Qd rfl rfl Qa3 (hhi4)) ?_
     refine dQo 24 103 [] hg28 rfl rfl rfl (Qa rfl QlD rfl (fun w1 h1=>c65 w1 j (nth (nth L v.i).es k).key kh hj (hE9 _ (QC hk5)).1 (hkp _ hhi1).1 (hE9 _ (QC hk5)).2 (hkp _ hhi1).2)) ?_
     refine dPo 25 103 hg28 ?_
     refine dVo 26 99 hg26 rfl rfl rfl (Qg rfl rfl hg28 rfl) ?_
     refine dV 27 rfl (Qf rfl rfl hg26 rfl) ?_
     refine dNi ?_
     exact Qw (decide (Xm (j : Int) (nth (nth L v.i).es k).key kh ≥ 0)) (Qwy (t:=(⟨(j : Int),mo,rm,pln L⟩ : Tre)) hlo1 (by show ¬ 0 ≤ Xm (j : Int) kl _;omega) hhi1) aSx (fun w h=>h.ent aEt)
    intro hg30
    have hs31:=hg30;try simp only [dN] at hs31
    refine dOf 18 103 hg30 ?_
    refine dOf 19 103 hg30 ?_
    refine dOf 20 103 hg30 ?_
    refine dOf 21 103 hg30 ?_
    refine dOf 22 103 hg30 ?_
    refine dOf 23 103 hg30 ?_
    refine dOf 24 103 hg30 ?_
    refine dOf 25 103 hg30 ?_
    refine dVo 26 99 hg26 rfl rfl rfl (Qf rfl rfl hg30 rfl) ?_
    refine dV 27 rfl (Qf rfl rfl hg26 rfl) ?_
    refine dNi ?_
    exact Qw false (QwO hlo1 (by show ¬ 0 ≤ Xm (j : Int) kl _;omega) (hhi.of_no (by omega))) aSx (fun w h=>h.ent aEt)
   intro hg32
   have hs33:=hg32;try simp only [dN] at hs33
   refine dOf 4 89 hg32 ?_
   refine dOf 5 89 hg32 ?_
   refine dOf 6 89 hg32 ?_
   refine dOf 7 89 hg32 ?_
   refine dOf 8 89 hg32 ?_
   refine dOf 9 89 hg32 ?_
   refine dOf 10 89 hg32 ?_
   refine dOf 11 89 hg32 ?_
   refine dV 12 rfl (Qf rfl rfl hg32 rfl) ?_
   refine dP 13 ?_
   apply XZ 99
   ·exact rfl
   ·intro hg34
    have hs35:=hg34;skip
    refine dOf 14 99 hg34 ?_
    refine dOf 15 99 hg34 ?_
    refine dOf 16 99 hg34 ?_
    refine dOf 17 99 hg34 ?_
    refine dOu 18 103 ?_
    refine dOu 19 103 ?_
    refine dOu 20 103 ?_
    refine dOu 21 103 ?_
    refine dOu 22 103 ?_
    refine dOu 23 103 ?_
    refine dOu 24 103 ?_
    refine dOu 25 103 ?_
    refine dOf 26 99 hg34 ?_
    refine dV 27 rfl (Qg rfl rfl hg34 rfl) ?_
    refine dNi ?_
    exact Qw true (by exfalso;simp_all;done) aSx (fun w h=>h.ent aEt)
   intro hg36
   have hs37:=hg36;skip
   refine dPo 14 99 hg36 ?_
   refine dVo 15 99 hg36 rfl rfl rfl (QQ rfl rfl Tryz.underlying241) ?_
   refine dPo 16 99 hg36 ?_
   refine dPo 17 99 hg36 ?_
   apply XZ 103
   ·exact rfl
   ·intro hg38
    have hs39:=hg38;try simp only [dT] at hs39
    refine dFo 18 103 hg38 ?_
    obtain ⟨kh,bh,oh,hhi1,hhi2,hhi3,hhi4⟩:=hhi.of_pos (by omega)
    refine dQo 19 103 [] hg38 rfl rfl rfl (YA rfl rfl Y1 aPk rfl) ?_
    refine dPo 20 103 hg38 ?_
    refine dPo 21 103 hg38 ?_
    refine dVo 22 103 hg38 rfl rfl rfl (Qc rfl rfl rfl Qec (0) (by omega) (by omega) hhi3) ?_
    refine dQo 23 103 [] hg38 rfl rfl rfl (Qd rfl rfl Qa3 (hhi4)) ?_
    refine dQo 24 103 [] hg38 rfl rfl rfl (Qa rfl QlD rfl (fun w1 h1=>c65 w1 j (nth (nth L v.i).es k).key kh hj (hE9 _ (QC hk5)).1 (hkp _ hhi1).1 (hE9 _ (QC hk5)).2 (hkp _ hhi1).2)) ?_
    refine dPo 25 103 hg38 ?_
    refine dVo 26 99 hg36 rfl rfl rfl (Qg rfl rfl hg38 rfl) ?_
    refine dV 27 rfl (Qf rfl rfl hg36 rfl) ?_
    refine dNi ?_
    exact Qw (decide (Xm (j : Int) (nth (nth L v.i).es k).key kh ≥ 0)) (QwN (t:=(⟨(j : Int),mo,rm,pln L⟩ : Tre)) (hlo.of_no (by omega)) hhi1) aSx (fun w h=>h.ent aEt)
   intro hg40
   have hs41:=hg40;try simp only [dN] at hs41
   refine dOf 18 103 hg40 ?_
   refine dOf 19 103 hg40 ?_
   refine dOf 20 103 hg40 ?_
   refine dOf 21 103 hg40 ?_
   refine dOf 22 103 hg40 ?_
   refine dOf 23 103 hg40 ?_
   refine dOf 24 103 hg40 ?_
   refine dOf 25 103 hg40 ?_
   refine dVo 26 99 hg36 rfl rfl rfl (Qf rfl rfl hg40 rfl) ?_
   refine dV 27 rfl (Qf rfl rfl hg36 rfl) ?_
   refine dNi ?_
   exact Qw false (Qv4 (hlo.of_no (by omega)) (hhi.of_no (by omega))) aSx (fun w h=>h.ent aEt)
  intro x hx
  refine Qb rfl (fun h42=>?_) fun h42=>?_
  ·skip
   have hV:=QpR (deep:=deep) hgn (Qo6 hn hk5 (hx.1 h42))
   refine aS6 ?_
   exact Qs (rs:=[.tmp 10,.tmp 11]) rfl (.tmp rfl (.tmp rfl (.nil))) (fun w' h'=>⟨by rw [QdH (by rw [hV];decide),hV];rfl,h'.below⟩)
  skip
  have hz3 : ¬ (Z7 (⟨(j : Int),mo,rm,pln L⟩ : Tre) v (nth (nth L v.i).es k)) = true:=fun h9=>by have h8:=hx.2 h9;simp_all
  refine aS5 ?_
  try refine oWr ?_
  refine aS2 ?_
  exact Qu (k + 1) (by omega) ⟨by omega,fun q hq=>(Nat.lt_or_ge q k).elim (hk3 q) (fun h9=>by obtain rfl : q = k:=(by omega);exact hz3)⟩ aSx (fun w h=>h.ent aEt)
 try simp only [dN] at h21
 have hon : ¬ Zy (⟨(j : Int),mo,rm,pln L⟩ : Tre) v = true:=QrD hn (fun q hq=>hk3 q (by have hq9:=hq;simp only [LNd.pl] at hq9;omega))
 refine Qp rfl ?_
 refine aS8 ?_
 refine Xn 3 119 122 _ _ rfl
  (by
   intro hg43
   have hs44:=hg43;try simp only [dT] at hs44
   refine oOn 119 hg43 ?_
   refine aS ?_
   refine oOn 119 hg43 ?_
   refine aS ?_
   refine o_p (Qg rfl rfl hg43 rfl) rfl ?_
   refine aS ?_
   exact oJn 3 122)
  (by
   intro hg45
   have hs46:=hg45;try simp only [dN] at hs46
   refine oOf 119 hg45 ?_
   refine oOf 119 hg45 ?_
   refine o_p (Qf rfl rfl hg45 rfl) rfl ?_
   refine aS ?_
   exact oJn 3 122) ?_
 refine aS ?_
 refine Qb rfl (fun h47=>?_) fun h47=>?_
 ·try simp only [Bool.and_eq_true,decide_eq_true_eq,Bool.not_eq_true',decide_eq_false_iff_not] at h47
  have hV:=QsD (deep:=deep) hgn hon (by rw [show ((⟨(j : Int),mo,rm,pln L⟩ : Tre)).ns = pln L from rfl,hn];have hq:=h47;simp only [LNd.pl];omega)
  refine aS6 ?_
  exact Qs (rs:=[.tmp 10,.tmp 11]) rfl (.tmp rfl (.tmp rfl (.nil))) (fun w' h'=>⟨by rw [QdH (by rw [hV];decide),hV];rfl,h'.below⟩)
 try simp only [Bool.and_eq_false_iff,decide_eq_false_iff_not,Bool.not_eq_false',decide_eq_true_eq] at h47
 have hV0:=Qrg (deep:=deep) hgn hon (by rw [show ((⟨(j : Int),mo,rm,pln L⟩ : Tre)).ns = pln L from rfl,hn];have hq:=h47;simp only [LNd.pl];omega)
 refine aS7 ?_
 refine Qm (L':=[(1,_),(2,_),(3,_),(4,_),(5,_),(12,_),(13,_),(15,_)]) aSx (fun _ h=>h) ?_
 refine Qx (α:=Nat) [10,11,15,16,17,18,19,124,125,126,127,128,129,130,131,132,133,134,135,136,137,138,139,140,141,142,143,144,145,146,147,148,149,150,151,152,153,154,155,156,157,158,159,160,161,162,163,164,165,166,167,168,169,170,171,172] (fun k=>[(15,.int .i64 (k : Int))]) (fun _=>HS w [] [.blk b1 37 4 [.int .i64 (j : Int),.int .i64 mo,.int .i64 rm,.slice a L.length cap],.blk b2 69 3 (LNd.vals (nth L v.i))]) (fun k=>k ≤ (nth L v.i).cs.length ∧ (X5 (⟨(j : Int),mo,rm,pln L⟩ : Tre) deep (QaB (pln L) f v k)).2 = 0) (fun k=>(nth L v.i).cs.length - k) 0 ⟨Nat.zero_le _,Qt6 hV0⟩ aSx (fun w h=>h.ent aEt) (fun k hx9=>?_)
 obtain ⟨hk1,hk3⟩:=hx9
 refine aS9 ?_
 refine Qb rfl (fun h48=>?_) fun h48=>?_
 ·try simp only [dT] at h48
  have hkl : k < (nth L v.i).cs.length:=by omega
  have hkid:=Qfv hT hi0 (k:=k) (by rw [hn];exact hkl)
  rw [hn,Qi] at hkid
  simp only [LNd.pl] at hkid
  have hway2:=Qdm hway hi0 (k:=k) (by rw [hn];exact hkl) (by rw [hn];simp only [LNd.pl];omega)
  iterate 16 refine aS ?_
  refine Qb rfl (fun h49=>?_) fun h49=>?_
  ·try simp only [dT] at h49
   have hk0 : 0 < k:=by have hq:=h49;omega
   refine aS5 ?_
   try refine oWr ?_
   refine o_p (Qc rfl rfl rfl Xh (k - 1) (by omega) (by omega) (Rw.some (hs.es hi) (by omega))) rfl ?_
   refine aS ?_
   refine o_q (Qd rfl rfl Qa3 (((hs.es hi).rdj 0 (i:=k - 1) (by omega) rfl))) rfl ?_
   refine o_h (Qr (cs:=[_]) rfl rfl Qec Qus rfl rfl rfl) rfl (fun b50 _=>?_)
   refine QeX ?_
   refine Qb rfl (fun h51=>?_) fun h51=>?_
   ·try simp only [dT] at h51
    have hk9 : k < (nth L v.i).es.length:=by have hq:=h51;omega
    refine Qm (L':=[(1,_),(2,_),(3,_),(4,_),(5,_),(12,_),(13,_),(15,_),(16,_),(17,_)]) aSx (fun _ h=>h) ?_
    refine aS4 ?_
    refine o_p (Qc rfl rfl rfl Xh (k) (by omega) (by omega) (Rw.some (hs.es hi) (by omega))) rfl ?_
    refine aS ?_
    refine o_q (Qd rfl rfl Qa3 (((hs.es hi).rdj 0 (i:=k) (by omega) rfl))) rfl ?_
    refine o_h (Qr (cs:=[_]) rfl rfl Qec Qus rfl rfl rfl) rfl (fun b52 _=>?_)
    refine aS3 ?_
    refine QG [] QU ?_
    refine dLn 0 [] ?_
    refine dFa 1 ?_
    refine dLd 2 [] ?_
    refine dP 3 ?_
    refine dV 4 rfl (Qc rfl rfl rfl Xe (k) (by omega) (by omega) (Rw.some (hs.cs hi) (by omega))) ?_
    refine dQ 5 [] rfl (Qd rfl rfl Y1 (((hs.cs hi).rdj 0 (i:=k) hkl rfl))) ?_
    refine QD (show _ = Value.int .i64 ((XQ (pln L) v k).i : Int) from by rw [XQ,hn];exact congrArg (Value.int .i64) (Int.toNat_of_nonneg (show 0 ≤ (nth L v.i).cs.getD k 0 by omega)).symm) ?_
    refine dP 6 ?_
    refine dP 7 ?_
    try refine dWr ?_
    refine dP 8 ?_
    refine dP 9 ?_
    refine dQ 10 [] rfl (Qa rfl Qf2 rfl (fun w1 h1=>ih w1 (XQ (pln L) v k) (v.i :: P) (lv - 1) _ _ _ _ _ _ (hs.later h1) hj hmo hT hB h0 hway2 (by simp only [XQ,List.length_cons];omega) (by simp only [XQ];omega) (Qgf hT hi0 (by rw [hn];show k ≤ (nth L v.i).es.length;omega) hko) (Qgj hT hi0 hkp) (by show StK w1 _ _ (loK (nth (pln L) v.i).es k v.lo);rw [hn];show StK w1 _ _ (loK (nth L v.i).es k v.lo);first | (rw [Qfc hk0];exact StK.new (h1.rd_blk (Mc:=[]) aPk rfl (by simp))) | (rw [QhJ hk0];exact hlo.later h1)) (by show StK w1 _ _ (hiK (nth (pln L) v.i).es k v.hi);rw [hn];show StK w1 _ _ (hiK (nth L v.i).es k v.hi);first | (rw [Qfi hk9];exact StK.new (h1.rd_blk (Mc:=[]) aPk rfl (by simp))) | (rw [QhD hk9];exact hhi.later h1)) (by simp only [List.length_cons];omega))) ?_
    refine dP 11 ?_
    refine dP 12 ?_
    refine dP 13 ?_
    refine dP 14 ?_
    refine dP 15 ?_
    refine dNi ?_
    refine aS ?_
    refine Qm (L':=[(1,_),(2,_),(3,_),(4,_),(5,_),(12,_),(13,_),(15,_),(18,_),(19,_)]) aSx (fun _ h=>h) ?_
    refine aS4 ?_
    refine Qb rfl (fun h53=>?_) fun h53=>?_
    ·try simp only [Bool.not_eq_true',decide_eq_false_iff_not] at h53
     have hbad : X5 (⟨(j : Int),mo,rm,pln L⟩ : Tre) deep (vis (pln L) (f + 1) v) = X5 (⟨(j : Int),mo,rm,pln L⟩ : Tre) deep (vis (pln L) f (XQ (pln L) v k)):=by rw [Y6,hn];obtain ⟨B9,hB9⟩:=QaJ (pln L) f v (show k + 1 ≤ (nth L v.i).pl.cs.length by show k + 1 ≤ (nth L v.i).cs.length;omega);rw [hB9,XS,List.append_assoc,X8,if_pos hk3,X8,if_neg h53]
     refine aS7 ?_
     exact Qs (rs:=[.tmp 10,.tmp 11]) rfl (.tmp rfl (.tmp rfl (.nil))) (fun w' h'=>⟨by rw [hbad];rfl,h'.below⟩)
    try simp only [Bool.not_eq_false',decide_eq_true_eq] at h53
    have hgood : (X5 (⟨(j : Int),mo,rm,pln L⟩ : Tre) deep (QaB (pln L) f v (k + 1))).2 = 0:=by rw [XS,X8,if_pos hk3];have hq:=h53;omega
    refine aS5 ?_
    try refine oWr ?_
    refine aS2 ?_
    exact Qu (k + 1) (by omega) ⟨by omega,hgood⟩ aSx (fun w h=>h.ent aEt)
   try simp only [dN] at h51
   have hk9 : ¬ k < (nth L v.i).es.length:=by have hq:=h51;omega
   refine aS2 ?_
   refine Qm (L':=[(1,_),(2,_),(3,_),(4,_),(5,_),(12,_),(13,_),(15,_),(16,_),(17,_)]) aSx (fun _ h=>h) ?_
   refine QG [] QU ?_
   refine dLn 0 [] ?_
   refine dFa 1 ?_
   refine dLd 2 [] ?_
   refine dP 3 ?_
   refine dV 4 rfl (Qc rfl rfl rfl Xe (k) (by omega) (by omega) (Rw.some (hs.cs hi) (by omega))) ?_
   refine dQ 5 [] rfl (Qd rfl rfl Y1 (((hs.cs hi).rdj 0 (i:=k) hkl rfl))) ?_
   refine QD (show _ = Value.int .i64 ((XQ (pln L) v k).i : Int) from by rw [XQ,hn];exact congrArg (Value.int .i64) (Int.toNat_of_nonneg (show 0 ≤ (nth L v.i).cs.getD k 0 by omega)).symm) ?_
   refine dP 6 ?_
   refine dP 7 ?_
   try refine dWr ?_
   refine dP 8 ?_
   refine dP 9 ?_
   refine dQ 10 [] rfl (Qa rfl Qf2 rfl (fun w1 h1=>ih w1 (XQ (pln L) v k) (v.i :: P) (lv - 1) _ _ _ _ _ _ (hs.later h1) hj hmo hT hB h0 hway2 (by simp only [XQ,List.length_cons];omega) (by simp only [XQ];omega) (Qgf hT hi0 (by rw [hn];show k ≤ (nth L v.i).es.length;omega) hko) (Qgj hT hi0 hkp) (by show StK w1 _ _ (loK (nth (pln L) v.i).es k v.lo);rw [hn];show StK w1 _ _ (loK (nth L v.i).es k v.lo);first | (rw [Qfc hk0];exact StK.new (h1.rd_blk (Mc:=[]) aPk rfl (by simp))) | (rw [QhJ hk0];exact hlo.later h1)) (by show StK w1 _ _ (hiK (nth (pln L) v.i).es k v.hi);rw [hn];show StK w1 _ _ (hiK (nth L v.i).es k v.hi);first | (rw [Qfi hk9];exact StK.new (h1.rd_blk (Mc:=[]) aPk rfl (by simp))) | (rw [QhD hk9];exact hhi.later h1)) (by simp only [List.length_cons];omega))) ?_
   refine dP 11 ?_
   refine dP 12 ?_
   refine dP 13 ?_
   refine dP 14 ?_
   refine dP 15 ?_
   refine dNi ?_
   refine aS5 ?_
   refine Qb rfl (fun h54=>?_) fun h54=>?_
   ·try simp only [Bool.not_eq_true',decide_eq_false_iff_not] at h54
    have hbad : X5 (⟨(j : Int),mo,rm,pln L⟩ : Tre) deep (vis (pln L) (f + 1) v) = X5 (⟨(j : Int),mo,rm,pln L⟩ : Tre) deep (vis (pln L) f (XQ (pln L) v k)):=by rw [Y6,hn];obtain ⟨B9,hB9⟩:=QaJ (pln L) f v (show k + 1 ≤ (nth L v.i).pl.cs.length by show k + 1 ≤ (nth L v.i).cs.length;omega);rw [hB9,XS,List.append_assoc,X8,if_pos hk3,X8,if_neg h54]
    refine aS7 ?_
    exact Qs (rs:=[.tmp 10,.tmp 11]) rfl (.tmp rfl (.tmp rfl (.nil))) (fun w' h'=>⟨by rw [hbad];rfl,h'.below⟩)
   try simp only [Bool.not_eq_false',decide_eq_true_eq] at h54
   have hgood : (X5 (⟨(j : Int),mo,rm,pln L⟩ : Tre) deep (QaB (pln L) f v (k + 1))).2 = 0:=by rw [XS,X8,if_pos hk3];have hq:=h54;omega
   refine aS5 ?_
   try refine oWr ?_
   refine aS2 ?_
   exact Qu (k + 1) (by omega) ⟨by omega,hgood⟩ aSx (fun w h=>h.ent aEt)
  try simp only [dN] at h49
  have hk0 : ¬ 0 < k:=by have hq:=h49;omega
  refine Qaq ?_
  refine Qb rfl (fun h55=>?_) fun h55=>?_
  ·try simp only [dT] at h55
   have hk9 : k < (nth L v.i).es.length:=by have hq:=h55;omega
   refine aS4 ?_
   refine o_p (Qc rfl rfl rfl Xh (k) (by omega) (by omega) (Rw.some (hs.es hi) (by omega))) rfl ?_
   refine aS ?_
   refine o_q (Qd rfl rfl Qa3 (((hs.es hi).rdj 0 (i:=k) (by omega) rfl))) rfl ?_
   refine o_h (Qr (cs:=[_]) rfl rfl Qec Qus rfl rfl rfl) rfl (fun b56 _=>?_)
   refine aS3 ?_
   refine Qm (L':=[(1,_),(2,_),(3,_),(4,_),(5,_),(12,_),(13,_),(15,_),(16,_),(17,_)]) aSx (fun _ h=>h) ?_
   refine QG [] QU ?_
   refine dLn 0 [] ?_
   refine dFa 1 ?_
   refine dLd 2 [] ?_
   refine dP 3 ?_
   refine dV 4 rfl (Qc rfl rfl rfl Xe (k) (by omega) (by omega) (Rw.some (hs.cs hi) (by omega))) ?_
   refine dQ 5 [] rfl (Qd rfl rfl Y1 (((hs.cs hi).rdj 0 (i:=k) hkl rfl))) ?_
   refine QD (show _ = Value.int .i64 ((XQ (pln L) v k).i : Int) from by rw [XQ,hn];exact congrArg (Value.int .i64) (Int.toNat_of_nonneg (show 0 ≤ (nth L v.i).cs.getD k 0 by omega)).symm) ?_
   refine dP 6 ?_
   refine dP 7 ?_
   try refine dWr ?_
   refine dP 8 ?_
   refine dP 9 ?_
   refine dQ 10 [] rfl (Qa rfl Qf2 rfl (fun w1 h1=>ih w1 (XQ (pln L) v k) (v.i :: P) (lv - 1) _ _ _ _ _ _ (hs.later h1) hj hmo hT hB h0 hway2 (by simp only [XQ,List.length_cons];omega) (by simp only [XQ];omega) (Qgf hT hi0 (by rw [hn];show k ≤ (nth L v.i).es.length;omega) hko) (Qgj hT hi0 hkp) (by show StK w1 _ _ (loK (nth (pln L) v.i).es k v.lo);rw [hn];show StK w1 _ _ (loK (nth L v.i).es k v.lo);first | (rw [Qfc hk0];exact StK.new (h1.rd_blk (Mc:=[]) aPk rfl (by simp))) | (rw [QhJ hk0];exact hlo.later h1)) (by show StK w1 _ _ (hiK (nth (pln L) v.i).es k v.hi);rw [hn];show StK w1 _ _ (hiK (nth L v.i).es k v.hi);first | (rw [Qfi hk9];exact StK.new (h1.rd_blk (Mc:=[]) aPk rfl (by simp))) | (rw [QhD hk9];exact hhi.later h1)) (by simp only [List.length_cons];omega))) ?_
   refine dP 11 ?_
   refine dP 12 ?_
   refine dP 13 ?_
   refine dP 14 ?_
   refine dP 15 ?_
   refine dNi ?_
   refine aS5 ?_
   refine Qb rfl (fun h57=>?_) fun h57=>?_
   ·try simp only [Bool.not_eq_true',decide_eq_false_iff_not] at h57
    have hbad : X5 (⟨(j : Int),mo,rm,pln L⟩ : Tre) deep (vis (pln L) (f + 1) v) = X5 (⟨(j : Int),mo,rm,pln L⟩ : Tre) deep (vis (pln L) f (XQ (pln L) v k)):=by rw [Y6,hn];obtain ⟨B9,hB9⟩:=QaJ (pln L) f v (show k + 1 ≤ (nth L v.i).pl.cs.length by show k + 1 ≤ (nth L v.i).cs.length;omega);rw [hB9,XS,List.append_assoc,X8,if_pos hk3,X8,if_neg h57]
    refine aS7 ?_
    exact Qs (rs:=[.tmp 10,.tmp 11]) rfl (.tmp rfl (.tmp rfl (.nil))) (fun w' h'=>⟨by rw [hbad];rfl,h'.below⟩)
   try simp only [Bool.not_eq_false',decide_eq_true_eq] at h57
   have hgood : (X5 (⟨(j : Int),mo,rm,pln L⟩ : Tre) deep (QaB (pln L) f v (k + 1))).2 = 0:=by rw [XS,X8,if_pos hk3];have hq:=h57;omega
   refine aS5 ?_
   try refine oWr ?_
   refine aS2 ?_
   exact Qu (k + 1) (by omega) ⟨by omega,hgood⟩ aSx (fun w h=>h.ent aEt)
  try simp only [dN] at h55
  have hk9 : ¬ k < (nth L v.i).es.length:=by have hq:=h55;omega
  refine aS2 ?_
  refine QG [] QU ?_
  refine dLn 0 [] ?_
  refine dFa 1 ?_
  refine dLd 2 [] ?_
  refine dP 3 ?_
  refine dV 4 rfl (Qc rfl rfl rfl Xe (k) (by omega) (by omega) (Rw.some (hs.cs hi) (by omega))) ?_
  refine dQ 5 [] rfl (Qd rfl rfl Y1 (((hs.cs hi).rdj 0 (i:=k) hkl rfl))) ?_
  refine QD (show _ = Value.int .i64 ((XQ (pln L) v k).i : Int) from by rw [XQ,hn];exact congrArg (Value.int .i64) (Int.toNat_of_nonneg (show 0 ≤ (nth L v.i).cs.getD k 0 by omega)).symm) ?_
  refine dP 6 ?_
  refine dP 7 ?_
  try refine dWr ?_
  refine dP 8 ?_
  refine dP 9 ?_
  refine dQ 10 [] rfl (Qa rfl Qf2 rfl (fun w1 h1=>ih w1 (XQ (pln L) v k) (v.i :: P) (lv - 1) _ _ _ _ _ _ (hs.later h1) hj hmo hT hB h0 hway2 (by simp only [XQ,List.length_cons];omega) (by simp only [XQ];omega) (Qgf hT hi0 (by rw [hn];show k ≤ (nth L v.i).es.length;omega) hko) (Qgj hT hi0 hkp) (by show StK w1 _ _ (loK (nth (pln L) v.i).es k v.lo);rw [hn];show StK w1 _ _ (loK (nth L v.i).es k v.lo);first | (rw [Qfc hk0];exact StK.new (h1.rd_blk (Mc:=[]) aPk rfl (by simp))) | (rw [QhJ hk0];exact hlo.later h1)) (by show StK w1 _ _ (hiK (nth (pln L) v.i).es k v.hi);rw [hn];show StK w1 _ _ (hiK (nth L v.i).es k v.hi);first | (rw [Qfi hk9];exact StK.new (h1.rd_blk (Mc:=[]) aPk rfl (by simp))) | (rw [QhD hk9];exact hhi.later h1)) (by simp only [List.length_cons];omega))) ?_
  refine dP 11 ?_
  refine dP 12 ?_
  refine dP 13 ?_
  refine dP 14 ?_
  refine dP 15 ?_
  refine dNi ?_
  refine aS ?_
  refine Qm (L':=[(1,_),(2,_),(3,_),(4,_),(5,_),(12,_),(13,_),(15,_),(18,_),(19,_)]) aSx (fun _ h=>h) ?_
  refine aS4 ?_
  refine Qb rfl (fun h58=>?_) fun h58=>?_
  ·try simp only [Bool.not_eq_true',decide_eq_false_iff_not] at h58
   have hbad : X5 (⟨(j : Int),mo,rm,pln L⟩ : Tre) deep (vis (pln L) (f + 1) v) = X5 (⟨(j : Int),mo,rm,pln L⟩ : Tre) deep (vis (pln L) f (XQ (pln L) v k)):=by rw [Y6,hn];obtain ⟨B9,hB9⟩:=QaJ (pln L) f v (show k + 1 ≤ (nth L v.i).pl.cs.length by show k + 1 ≤ (nth L v.i).cs.length;omega);rw [hB9,XS,List.append_assoc,X8,if_pos hk3,X8,if_neg h58]
   refine aS7 ?_
   exact Qs (rs:=[.tmp 10,.tmp 11]) rfl (.tmp rfl (.tmp rfl (.nil))) (fun w' h'=>⟨by rw [hbad];rfl,h'.below⟩)
  try simp only [Bool.not_eq_false',decide_eq_true_eq] at h58
  have hgood : (X5 (⟨(j : Int),mo,rm,pln L⟩ : Tre) deep (QaB (pln L) f v (k + 1))).2 = 0:=by rw [XS,X8,if_pos hk3];have hq:=h58;omega
  refine aS5 ?_
  try refine oWr ?_
  refine aS2 ?_
  exact Qu (k + 1) (by omega) ⟨by omega,hgood⟩ aSx (fun w h=>h.ent aEt)
 try simp only [dN] at h48
 obtain rfl : k = (nth L v.i).cs.length:=by omega
 have hfin : X5 (⟨(j : Int),mo,rm,pln L⟩ : Tre) deep (vis (pln L) (f + 1) v) = (0,0):=by rw [Y6,hn];exact Qks hk3
 refine Qp rfl ?_
 refine aS5 ?_
 exact Qs (rs:=[.tmp 10,.tmp 11]) rfl (.tmp rfl (.tmp rfl (.nil))) (fun w' h'=>⟨by rw [hfin];rfl,h'.below⟩)
theorem c138 (j : Nat) (mo rm : Int) (a : Option Addr) (cap : Nat) (L : List LNd) (deep : Int) : ∀ f,PlC j mo rm a cap L deep f
  | 0=>fun w v P lv pa qa pn pc qn qc hs hj hmo hT hB h0 hway hd hlv hko hkp hlo hhi hf=>by
    have h1:=Qbe hT (by rw [Qi];exact h0) hway;rw [Qi,List.length_cons] at h1;omega
  | f + 1=>fun w v P lv pa qa pn pc qn qc hs hj hmo hT hB h0 hway hd hlv hko hkp hlo hhi hf=>Qwe w j mo rm a cap L deep v P lv pa qa pn pc qn qc f hs hj hmo hT hB h0 hway hd hlv hko hkp hlo hhi hf (c138 j mo rm a cap L deep f)
end Go.Proofs
namespace Gx
open Go Go.RowKit
theorem QvN {t : Tre} (h : ¬ QB t.co = 0) : Ze t = (0,QB t.co):=by rw [Qcm (by rw [if_neg h];exact h),if_neg h]
theorem Qt2 {t : Tre} (h : QB t.co = 0) (h2 : ¬ Yn t.mo t.rm = 0) : Ze t = (0,Yn t.mo t.rm):=by rw [Qcm (by rw [if_pos h];exact h2),if_pos h]
theorem QvO {t : Tre} (h : QB t.co = 0) (h2 : Yn t.mo t.rm = 0) (h3 : ¬ 0 < t.ns.length) : Ze t = (0,10):=by
 have e : Y9 t.ns.length = 10:=if_neg h3;rw [Qd2 (by rw [if_pos h];exact h2) (by rw [e];decide),e]
theorem QtK {t : Tre} (h : QB t.co = 0) (h2 : Yn t.mo t.rm = 0) (h3 : 0 < t.ns.length) (h4 : ¬ t.ns.length ≤ 120) : Ze t = (0,8):=by
 have e : Y9 t.ns.length = 8:=by rw [Y9,if_pos h3,if_neg h4]
 rw [Qd2 (by rw [if_pos h];exact h2) (by rw [e];decide),e]
theorem QvC {t : Tre} (h : QB t.co = 0) (h2 : Yn t.mo t.rm = 0) (h3 : 0 < t.ns.length) (h4 : t.ns.length ≤ 120) : Ze t = if (XY t t.ns.length 0 []).2 = 0 then Qbz t else XY t t.ns.length 0 []:=Qej (by rw [if_pos h];exact h2) (by rw [Y9,if_pos h3,if_pos h4])
theorem Qjj (n : Nat) : XH [Value.bool false] n = Q9 n []:=by
 rw [QbR];apply List.ext_getElem?;intro i
 by_cases hi : i < n
 ·rw [QaI hi,List.getElem?_replicate,if_pos hi];rfl
 ·rw [List.getElem?_eq_none (by rw [List.length_replicate];omega),List.getElem?_eq_none (by rw [QaH];omega)]
theorem QjR {vs : List Vis} {k : Nat} : ((k : Nat) : Int) ∈ mkS vs [] ↔ k ∈ vs.map Vis.i:=by
 rw [QsK,List.mem_map];constructor
 ·rintro ⟨v,hv,h⟩;exact ⟨v,hv,by omega⟩
 ·rintro ⟨v,hv,h⟩;exact ⟨v,hv,by omega⟩
theorem QjO (ns : List Nd) : ∀ (f i : Nat),0 ≤ YK ns f i ∧ YK ns f i ≤ f
 | 0,i=>by rw [YK];omega
 | f + 1,i=>by
  rw [YK];split
  ·omega
  ·have:=QjO ns f ((nth ns i).cs.getD 0 0).toNat;omega
theorem Qol {ns : List Nd} {f i : Nat} (h : (nth ns i).cs.length = 0) : YK ns f i = 0:=by
 cases f with
 | zero=>rfl
 | succ f=>rw [YK,if_pos h]
theorem Qny {ns : List Nd} {f i : Nat} (h0 : 0 < f) (h : ¬ (nth ns i).cs.length = 0) : YK ns f i = YK ns (f - 1) ((nth ns i).cs.getD 0 0).toNat + 1:=by
 obtain ⟨g,rfl⟩ : ∃ g,f = g + 1:=⟨f - 1,by omega⟩;rw [YK,if_neg h];rfl
end Gx
namespace Go.Proofs
open Go Go.RowKit Gx
attribute [local irreducible] Go.Calls Gx.S Gx.O Gx.D Gx.OpP Gx.OpQ Gx.OpH
set_option maxRecDepth 20000
theorem QwX : Qt Tryz.prog 96 = true:=by kernel_rfl
theorem Qw1 : Qt Tryz.prog 97 = true:=by kernel_rfl
theorem Qtv : Qt Tryz.prog 136 = true:=by kernel_rfl
theorem Qw0 : Qt Tryz.prog 71 = true:=by kernel_rfl
set_option maxHeartbeats 400000 in
theorem c71 (w : World) (co mo rm : Int) (a : Option Addr) (cap : Nat) (L : List LNd) (hs : Nt w [] a L) (hB : Bd (pln L)) (hkl : ∀ i,i < L.length → ∀ x ∈ (nth L i).es,x.key.length ≤ 1000000) : Calls Tryz.prog 71 #[.agg #[.int .i64 co,.int .i64 mo,.int .i64 rm,.slice a L.length cap]] w fun en w'=>en = .returned (.tuple #[.int .i64 (Ze (⟨co,mo,rm,pln L⟩ : Tre)).1,.int .i64 (Ze (⟨co,mo,rm,pln L⟩ : Tre)).2]) ∧ Below w.heap.size w w':=by
 have hle:=hB.len
 rw [Qi] at hle
 have hes9 : ∀ i,i < L.length → (nth L i).es.length ≤ 1000:=fun i hi=>by have h9:=hB.es i (by rw [Qi];exact hi);rw [Q3 hi] at h9;exact h9
 have hcs9 : ∀ i,i < L.length → (nth L i).cs.length ≤ 1000:=fun i hi=>by have h9:=hB.cs i (by rw [Qi];exact hi);rw [Q3 hi] at h9;exact h9
 refine enter (args:=[_]) Tryz.func71 Tryz.ntmps71 rfl rfl (HS.refl w []) ?_
 refine aS2 ?_
 refine oBx fun b1 _=>?_
 refine aS8 ?_
 refine o_q (Qa rfl QwX rfl (fun w1 h1=>c96 w1 _)) rfl ?_
 refine aS7 ?_
 refine Qb rfl (fun h2=>?_) fun h2=>?_
 ·try simp only [Bool.not_eq_true',decide_eq_false_iff_not] at h2
  have hz:=QvN (t:=(⟨co,mo,rm,pln L⟩ : Tre)) h2
  refine aS6 ?_
  exact Qs (rs:=[.tmp 2,.tmp 3]) rfl (.tmp rfl (.tmp rfl (.nil))) (fun w' h'=>⟨by rw [hz];rfl,h'.below⟩)
 try simp only [Bool.not_eq_false',decide_eq_true_eq] at h2
 have hc0 : QB co = 0:=by have hq:=h2;omega
 obtain ⟨j,rfl,hj⟩:=QoD hc0
 refine aS8 ?_
 refine o_q (Qa rfl Qw1 rfl (fun w1 h1=>c97 w1 _ _)) rfl ?_
 refine aS7 ?_
 refine Qb rfl (fun h3=>?_) fun h3=>?_
 ·try simp only [Bool.not_eq_true',decide_eq_false_iff_not] at h3
  have hz:=Qt2 (t:=(⟨(j : Int),mo,rm,pln L⟩ : Tre)) hc0 h3
  refine aS6 ?_
  exact Qs (rs:=[.tmp 2,.tmp 3]) rfl (.tmp rfl (.tmp rfl (.nil))) (fun w' h'=>⟨by rw [hz];rfl,h'.below⟩)
 try simp only [Bool.not_eq_false',decide_eq_true_eq] at h3
 have hc1 : Yn mo rm = 0:=by have hq:=h3;omega
 have hsz2 : (3 ≤ mo ∧ mo ≤ 8) ∧ (mo / 2 ≤ rm ∧ rm ≤ mo):=Qpq hc1
 have hTL : ((⟨(j : Int),mo,rm,pln L⟩ : Tre)).ns.length = L.length:=Qi L
 refine aS9 ?_
 refine Qb rfl (fun h4=>?_) fun h4=>?_
 ·try simp only [dT] at h4
  have hz:=QvO (t:=(⟨(j : Int),mo,rm,pln L⟩ : Tre)) hc0 hc1 (by rw [hTL];have hq:=h4;omega)
  refine aS5 ?_
  exact Qs (rs:=[.tmp 2,.tmp 3]) rfl (.tmp rfl (.tmp rfl (.nil))) (fun w' h'=>⟨by rw [hz];rfl,h'.below⟩)
 try simp only [dN] at h4
 have h00 : 0 < L.length:=by have hq:=h4;omega
 refine aS9 ?_
 refine Qb rfl (fun h5=>?_) fun h5=>?_
 ·try simp only [dT] at h5
  have hz:=QtK (t:=(⟨(j : Int),mo,rm,pln L⟩ : Tre)) hc0 hc1 (by rw [hTL];exact h00) (by rw [hTL];have hq:=h5;omega)
  refine aS5 ?_
  exact Qs (rs:=[.tmp 2,.tmp 3]) rfl (.tmp rfl (.tmp rfl (.nil))) (fun w' h'=>⟨by rw [hz];rfl,h'.below⟩)
 try simp only [dN] at h5
 have h120 : L.length ≤ 120:=by have hq:=h5;omega
 have hz:=QvC (t:=(⟨(j : Int),mo,rm,pln L⟩ : Tre)) hc0 hc1 (by rw [hTL];exact h00) (by rw [hTL];exact h120)
 rw [hTL] at hz
 refine aS6 ?_
 refine o_h (QhV (n:=L.length) rfl rfl rfl Qa4 Quy (by omega) (by omega)) rfl (fun b6 _=>?_)
 refine X6 (fun w h=>(show HS _ _ [.blk b6 4 L.length (Q9 L.length []),.blk b1 37 4 [.int .i64 (j : Int),.int .i64 mo,.int .i64 rm,.slice a L.length cap]] w from by have h9:=h;rw [Nat.mul_one,Qjj] at h9;exact h9.ent aEt)) ?_
 refine aS4 ?_
 refine Qm (L':=[(1,_),(2,_),(3,_),(6,_)]) aSx (fun _ h=>h) ?_
 refine aS4 ?_
 refine Qx (α:=Nat × List Int) [2,3,7,8,39,40,41,42,43,44,45,46,47,48,49,50,51,52,53] (fun x=>[(7,.int .i64 (x.1 : Int))]) (fun x=>HS w [] [.blk b6 4 L.length (Q9 L.length x.2),.blk b1 37 4 [.int .i64 (j : Int),.int .i64 mo,.int .i64 rm,.slice a L.length cap]]) (fun x=>x.1 ≤ L.length ∧ (XY (⟨(j : Int),mo,rm,pln L⟩ : Tre) L.length 0 []) = XY (⟨(j : Int),mo,rm,pln L⟩ : Tre) (L.length - x.1) x.1 x.2) (fun x=>L.length - x.1) (0,[]) ⟨Nat.zero_le _,rfl⟩ aSx (fun w h=>h.ent aEt) (fun ⟨k,S9⟩ hx=>?_)
 dsimp only
 obtain ⟨hk1,hk3⟩:=hx
 simp only [] at hk1 hk3
 refine aS9 ?_
 refine Qb rfl (fun h7=>?_) fun h7=>?_
 ·try simp only [dT] at h7
  have hkl9 : k < L.length:=by omega
  have hst:=QfL (t:=(⟨(j : Int),mo,rm,pln L⟩ : Tre)) (k:=k) (seen:=S9) (by rw [hTL];exact hkl9)
  rw [hTL] at hst
  refine aS8 ?_
  refine o_h (Q0 (Cs:=[.blk b6 4 L.length (Q9 L.length S9)]) rfl Qtv rfl aPs (fun w1 h1 hf=>c136 w1 j mo rm a cap L k b6 L.length L.length S9 hf ((hs.keep h1).mono (Q6 aPs)) hj hkl9 (by omega) (hes9 _ hkl9) (hcs9 _ hkl9) (hkl _ hkl9))) rfl (fun _ _=>?_)
  refine aS7 ?_
  refine Qb rfl (fun h8=>?_) fun h8=>?_
  ·try simp only [Bool.not_eq_true',decide_eq_false_iff_not] at h8
   have hz3 : (XY (⟨(j : Int),mo,rm,pln L⟩ : Tre) L.length 0 []) = ((k : Int),(XN (⟨(j : Int),mo,rm,pln L⟩ : Tre) k S9).1):=by rw [hk3,hst,if_neg h8]
   rw [hz3,if_neg (show ¬ (((k : Int),(XN (⟨(j : Int),mo,rm,pln L⟩ : Tre) k S9).1) : Int × Int).2 = 0 from h8)] at hz
   refine aS7 ?_
   exact Qs (rs:=[.tmp 2,.tmp 3]) rfl (.tmp rfl (.tmp rfl (.nil))) (fun w' h'=>⟨by rw [hz];rfl,h'.below⟩)
  try simp only [Bool.not_eq_false',decide_eq_true_eq] at h8
  have hz3 : XY (⟨(j : Int),mo,rm,pln L⟩ : Tre) (L.length - k) k S9 = XY (⟨(j : Int),mo,rm,pln L⟩ : Tre) (L.length - (k + 1)) (k + 1) (XN (⟨(j : Int),mo,rm,pln L⟩ : Tre) k S9).2:=by rw [hst,if_pos (by have hq:=h8;omega)]
  refine aS5 ?_
  try refine oWr ?_
  refine aS2 ?_
  exact Qu (k + 1,(XN (⟨(j : Int),mo,rm,pln L⟩ : Tre) k S9).2) (by (try simp only []);omega) ⟨by (try simp only []);omega,by simp only [];rw [hk3,hz3]⟩ aSx (fun w h=>h.ent aEt)
 try simp only [dN] at h7
 have hnd : (XY (⟨(j : Int),mo,rm,pln L⟩ : Tre) L.length 0 []) = (0,0):=by rw [hk3,show L.length - k = 0 by omega];rfl
 rw [hnd,if_pos rfl] at hz
 have hT : TOk (j : Int) (pln L):=Qhy (t:=(⟨(j : Int),mo,rm,pln L⟩ : Tre)) (by show (XY (⟨(j : Int),mo,rm,pln L⟩ : Tre) (pln L).length 0 []).2 = 0;rw [Qi,hnd])
 have hvis : vis (pln L) L.length QbX = YI (pln L):=by unfold YI;rw [Qi]
 refine Qp rfl ?_
 refine aS5 ?_
 refine o_h (QhV (n:=L.length) rfl rfl rfl Qa4 Quy (by omega) (by omega)) rfl (fun b9 _=>?_)
 refine X6 (fun w h=>(show HS _ _ [.blk b9 4 L.length (Q9 L.length []),.blk b1 37 4 [.int .i64 (j : Int),.int .i64 mo,.int .i64 rm,.slice a L.length cap]] w from by have h9:=h;rw [Nat.mul_one,Qjj] at h9;exact h9.ent aEt)) ?_
 refine aS6 ?_
 refine o_h (Q0 (Cs:=[.blk b9 4 L.length (Q9 L.length [])]) rfl QoJ rfl aPs (fun w1 h1 hf=>c137 j mo rm a cap L b9 L.length L.length L.length w1 [] QbX [] hf ((hs.keep h1).mono (Q6 aPs)) hT hB h00 rfl (by simp))) rfl (fun _ _=>?_)
 refine aS7 ?_
 refine Qm (L':=[(1,_),(6,_),(7,_),(9,_),(10,_)]) aSx (fun _ h=>h) ?_
 refine Qx (α:=Nat) [2,3,10,61,62,63,64,65,66,67,68,69,70,71,72,73,74,75,76,77,78,79,80,81] (fun k=>[(10,.int .i64 (k : Int))]) (fun _=>HS w [] [.blk b9 4 L.length (Q9 L.length (mkS (vis (pln L) L.length QbX) [])),.blk b1 37 4 [.int .i64 (j : Int),.int .i64 mo,.int .i64 rm,.slice a L.length cap]]) (fun k=>k ≤ L.length ∧ Qaa (pln L) ((YI (pln L)).map Vis.i) L.length 0 = Qaa (pln L) ((YI (pln L)).map Vis.i) (L.length - k) k) (fun k=>L.length - k) 0 ⟨Nat.zero_le _,rfl⟩ aSx (fun w h=>h.ent aEt) (fun k hx=>?_)
 obtain ⟨hk1,hk2⟩:=hx
 refine aS9 ?_
 refine Qb rfl (fun h10=>?_) fun h10=>?_
 ·try simp only [dT] at h10
  have hkl9 : k < L.length:=by omega
  have hst:=Qg9 (ns:=pln L) (below:=((YI (pln L)).map Vis.i)) (k:=k) (by rw [Qi];exact hkl9)
  rw [Qi,Q3 hkl9] at hst
  refine aS8 ?_
  refine o_p (Qc rfl rfl rfl XB (k) (by omega) (by omega) (Rw.some hs.1 (by omega))) rfl ?_
  refine aS ?_
  refine o_q (Qd rfl rfl Qdl ((hs.1.rdj 0 hkl9 rfl))) rfl ?_
  refine aS ?_
  refine Xn 6 74 80 _ _ rfl
   (by
    intro hg11
    have hs12:=hg11;skip
    refine oOn 74 hg11 ?_
    refine aS ?_
    refine oOn 74 hg11 ?_
    refine aS ?_
    refine oOn 74 hg11 ?_
    refine o_p (Qc rfl rfl rfl Qa4 (k) (by omega) (by omega) rfl) rfl ?_
    refine Qq (show _ = Value.pointer (some ⟨b9,k,none⟩) from by rw [Nat.zero_add,Nat.mul_one]) ?_
    refine oOn 74 hg11 ?_
    refine o_q (QaD rfl rfl Qdl (fun w h=>h.rd_blk (Mc:=[]) aPk (QaI hkl9) (by simp))) rfl ?_
    refine oOn 74 hg11 ?_
    refine aS ?_
    refine o_p (Qg rfl rfl hg11 rfl) rfl ?_
    refine aS ?_
    exact oJn 6 80)
   (by
    intro hg13
    have hs14:=hg13;skip
    refine oOf 74 hg13 ?_
    refine oOf 74 hg13 ?_
    refine oOf 74 hg13 ?_
    refine oOf 74 hg13 ?_
    refine oOf 74 hg13 ?_
    refine o_p (Qf rfl rfl hg13 rfl) rfl ?_
    refine aS ?_
    exact oJn 6 80) ?_
  refine aS ?_
  refine Qb rfl (fun h15=>?_) fun h15=>?_
  ·try simp only [Bool.and_eq_true,Bool.not_eq_true',decide_eq_false_iff_not] at h15
   have hz7 : (nth L k).pl.us = true ∧ k ∉ ((YI (pln L)).map Vis.i):=by have hq:=h15;rw [← QjR,← hvis];simp only [LNd.pl];simpa using hq
   have hz8:=hz.trans (Qdg (t:=(⟨(j : Int),mo,rm,pln L⟩ : Tre)) (i:=k) (show Qaa (pln L) _ (pln L).length 0 = some k from by rw [Qi,hk2,hst,if_pos hz7]))
   refine aS6 ?_
   exact Qs (rs:=[.tmp 2,.tmp 3]) rfl (.tmp rfl (.tmp rfl (.nil))) (fun w' h'=>⟨by rw [hz8];rfl,h'.below⟩)
  try simp only [Bool.and_eq_false_iff,Bool.not_eq_false',decide_eq_true_eq] at h15
  have hz7 : ¬ ((nth L k).pl.us = true ∧ k ∉ ((YI (pln L)).map Vis.i)):=by have hq:=h15;rw [← QjR,← hvis];simp only [LNd.pl];intro h9;exact hq.elim (fun h8=>by rw [h8] at h9;cases h9.1) (fun h8=>h9.2 h8)
  refine aS5 ?_
  try refine oWr ?_
  refine aS2 ?_
  exact Qu (k + 1) (by omega) ⟨by omega,by rw [hk2,hst,if_neg hz7]⟩ aSx (fun w h=>h.ent aEt)
 try simp only [dN] at h10
 have hnone : Qaa (pln L) ((YI (pln L)).map Vis.i) L.length 0 = none:=by rw [hk2,show L.length - k = 0 by omega];rfl
 have hz8:=hz.trans (Qc3 (t:=(⟨(j : Int),mo,rm,pln L⟩ : Tre)) (show Qaa (pln L) _ (pln L).length 0 = none from by rw [Qi];exact hnone))
 refine Qp rfl ?_
 refine Qaq ?_
 refine Qx (α:=Nat × Nat × List Nat) [11,12,82,83,84,85,86,87,88,89,90,91,92,93,94,95,96,97,98,99] (fun y=>[(11,.int .i64 (y.1 : Int)),(12,.int .i64 (y.2.1 : Int))]) (fun _=>HS w [] [.blk b1 37 4 [.int .i64 (j : Int),.int .i64 mo,.int .i64 rm,.slice a L.length cap]]) (fun y=>Gx.Way (pln L) (y.2.1 :: y.2.2) ∧ y.2.2.length = y.1 ∧ YK (pln L) L.length 0 = (y.1 : Int) + YK (pln L) (L.length - y.1) y.2.1) (fun y=>L.length - y.1) (0,0,[]) ⟨rfl,rfl,by simp⟩ aSx (fun w h=>h.ent aEt) (fun ⟨d,i,P⟩ hx=>?_)
 dsimp only
 obtain ⟨hway,hpl,hdp⟩:=hx
 simp only [] at hway hpl hdp
 have hil0:=Qc2 hT (by rw [Qi];exact h00) hway i (List.mem_cons_self ..)
 have hil : i < L.length:=by rw [Qi] at hil0;exact hil0
 have hnI:=Q3 hil
 have hwl:=Qbe hT (by rw [Qi];exact h00) hway
 rw [Qi,List.length_cons] at hwl
 have hcl:=hcs9 i hil
 refine aS6 ?_
 refine o_p (Qc rfl rfl rfl XB (i) (by omega) (by omega) (Rw.some hs.1 (by omega))) rfl ?_
 refine aS ?_
 refine o_q (Qd rfl rfl QbN ((hs.1.rdj 2 hil rfl))) rfl ?_
 refine aS3 ?_
 refine Qb rfl (fun h16=>?_) fun h16=>?_
 ·try simp only [dT] at h16
  have hcl0 : 0 < (nth L i).cs.length:=by have hq:=h16;omega
  have hkid:=Qfv hT (by rw [Qi];exact hil) (i:=i) (k:=0) (by rw [hnI];exact hcl0)
  rw [hnI,Qi] at hkid
  simp only [LNd.pl] at hkid
  have hway2:=Qdm hway (by rw [Qi];exact hil) (k:=0) (by rw [hnI];exact hcl0) (by rw [hnI];simp only [LNd.pl];omega)
  rw [hnI] at hway2
  have hwl2:=Qbe hT (by rw [Qi];exact h00) hway2
  rw [Qi,List.length_cons,List.length_cons] at hwl2
  have hdm:=Qny (ns:=pln L) (f:=L.length - d) (i:=i) (by omega) (by rw [hnI];show ¬ (nth L i).cs.length = 0;omega)
  rw [hnI] at hdm
  refine aS7 ?_
  refine o_p (Qc rfl rfl rfl XB (i) (by omega) (by omega) (Rw.some hs.1 (by omega))) rfl ?_
  refine aS ?_
  refine o_q (Qd rfl rfl QbN ((hs.1.rdj 2 hil rfl))) rfl ?_
  refine o_p (Qc rfl rfl rfl Xe (0) (by omega) (by omega) (Rw.some (hs.cs hil) (by omega))) rfl ?_
  refine o_q (Qd rfl rfl Y1 (((hs.cs hil).rdj 0 (i:=0) (by omega) rfl))) rfl ?_
  refine Qq (show _ = Value.int .i64 (((nth L i).cs.getD 0 0).toNat : Int) from congrArg (Value.int .i64) (Int.toNat_of_nonneg (show 0 ≤ (nth L i).cs.getD 0 0 by omega)).symm) ?_
  refine aS6 ?_
  try refine oWr ?_
  refine aS2 ?_
  exact Qu (d + 1,((nth L i).cs.getD 0 0).toNat,i :: P) (by (try simp only []);omega) ⟨hway2,by simp [hpl],by simp only [] at *;rw [show L.length - (d + 1) = L.length - d - 1 by omega];have h9 : (nth L i).pl.cs = (nth L i).cs:=rfl;rw [h9] at hdm;omega⟩ aSx (fun w h=>h.ent aEt)
 try simp only [dN] at h16
 have hde:=Qol (ns:=pln L) (f:=L.length - d) (i:=i) (by rw [hnI];show (nth L i).cs.length = 0;have hq:=h16;omega)
 rw [hde,Int.add_zero] at hdp
 have hdl:=QjO (pln L) L.length 0
 refine Qp rfl ?_
 refine aS4 ?_
 refine o_q (Qa rfl Qf2 rfl (fun w1 h1=>c138 j mo rm a cap L (d : Int) L.length w1 QbX [] (d : Int) none none 0 0 0 0 (hs.later h1) hj (by omega) hT hB h00 rfl rfl (by show (d : Int) = d + 1 - 1;omega) (fun _ h=>by cases h) (fun _ h=>by cases h) rfl rfl (by simp))) rfl ?_
 refine aS5 ?_
 exact Qs (rs:=[.tmp 2,.tmp 3]) rfl (.tmp rfl (.tmp rfl (.nil))) (fun w' h'=>⟨by rw [hz8,show YK ((⟨(j : Int),mo,rm,pln L⟩ : Tre)).ns ((⟨(j : Int),mo,rm,pln L⟩ : Tre)).ns.length 0 = (d : Int) from by rw [hTL];exact hdp,show YI ((⟨(j : Int),mo,rm,pln L⟩ : Tre)).ns = vis (pln L) L.length QbX from hvis.symm];rfl,h'.below⟩)
theorem c84 (w : World) (co mo rm : Int) (a : Option Addr) (cap : Nat) (L : List LNd) (hs : Nt w [] a L) (hB : Bd (pln L)) (hkl : ∀ i,i < L.length → ∀ x ∈ (nth L i).es,x.key.length ≤ 1000000) : Calls Tryz.prog 84 #[.agg #[.int .i64 co,.int .i64 mo,.int .i64 rm,.slice a L.length cap]] w fun en w'=>en = .returned (.int .i64 (Ze (⟨co,mo,rm,pln L⟩ : Tre)).2) ∧ Below w.heap.size w w':=by
 refine enter (args:=[_]) Tryz.func84 Tryz.ntmps84 rfl rfl (HS.refl w []) ?_
 refine aS2 ?_
 refine oBx fun b1 _=>?_
 refine aS5 ?_
 refine o_q (Qa rfl Qw0 rfl (fun w1 h1=>c71 w1 co mo rm a cap L (hs.later h1) hB hkl)) rfl ?_
 refine QeX ?_
 exact rT rfl rfl (fun w' h'=>⟨by rfl,h'.below⟩)
end Go.Proofs
namespace Gx
open Go Go.RowKit
def Qbs (x : TEnt) : Bool:=decide (x.key.length ≤ 44 ∧ x.val.length ≤ 70)
def Qa2 (es : List TEnt) : Bool:=es.all Qbs
def Qb5 (n : Nd) : Bool:=decide (n.es.length ≤ 10 ∧ n.cs.length ≤ 11) && Qa2 n.es
def Yx (ns : List Nd) : Bool:=decide (ns.length ≤ 122 ∧ ¬ (60 < ns.length ∧ ns.length ≤ 120)) && ns.all Qb5
theorem Qsf {n : Nd} (h1 : n.es.length ≤ 10) (h2 : n.cs.length ≤ 11) (h3 : Qa2 n.es = true) : Qb5 n = true:=by
 rw [Qb5,decide_eq_true (And.intro h1 h2),h3];rfl
theorem QrW {n : Nd} (h : (10 < n.es.length ∨ 11 < n.cs.length) ∨ Qa2 n.es = false) : ¬ Qb5 n = true:=fun h9=>by
 rw [Qb5,Bool.and_eq_true,decide_eq_true_eq] at h9;rcases h with h | h
 ·omega
 ·rw [h] at h9;cases h9.2
theorem QnH {es : List TEnt} (h : ∀ q,q < es.length → Qbs (nth es q) = true) : Qa2 es = true:=by
 refine List.all_eq_true.2 fun x hx=>?_;obtain ⟨q,hq,e⟩:=List.getElem_of_mem hx;have e2 : nth es q = x:=Zk (by rw [List.getElem?_eq_getElem hq,e]);rw [← e2];exact h q hq
theorem Qnu {es : List TEnt} {k : Nat} (hk : k < es.length) (h : ¬ Qbs (nth es k) = true) : Qa2 es = false:=by
 cases e : Qa2 es
 ·rfl
 ·exact absurd (List.all_eq_true.1 e _ (QC hk)) h
theorem QrP {ns : List Nd} (h0 : ns.length ≤ 122 ∧ ¬ (60 < ns.length ∧ ns.length ≤ 120)) (h : ∀ q,q < ns.length → Qb5 (nth ns q) = true) : Yx ns = true:=by
 rw [Yx,decide_eq_true h0,Bool.true_and];refine List.all_eq_true.2 fun x hx=>?_;obtain ⟨q,hq,e⟩:=List.getElem_of_mem hx;have e2 : nth ns q = x:=Zk (by rw [List.getElem?_eq_getElem hq,e]);rw [← e2];exact h q hq
theorem Qsk {ns : List Nd} {k : Nat} (hk : k < ns.length) (h : ¬ Qb5 (nth ns k) = true) : Yx ns = false:=by
 cases e : Yx ns
 ·rfl
 ·rw [Yx,Bool.and_eq_true] at e;exact absurd (List.all_eq_true.1 e.2 _ (QC hk)) h
theorem Qrx {ns : List Nd} (h : ¬ (ns.length ≤ 122 ∧ ¬ (60 < ns.length ∧ ns.length ≤ 120))) : Yx ns = false:=by
 rw [Yx,decide_eq_false h,Bool.false_and]
theorem QpV {ns : List Nd} (h : Yx ns = true) : ns.length ≤ 122:=by
 rw [Yx,Bool.and_eq_true,decide_eq_true_eq] at h;exact h.1.1
theorem Qch {ns : List Nd} (h : Yx ns = true) {k : Nat} (hk : k < ns.length) : (nth ns k).es.length ≤ 10 ∧ (nth ns k).cs.length ≤ 11 ∧ ∀ x ∈ (nth ns k).es,x.key.length ≤ 44 ∧ x.val.length ≤ 70:=by
 rw [Yx,Bool.and_eq_true] at h;have h2:=List.all_eq_true.1 h.2 _ (QC hk);rw [Qb5,Bool.and_eq_true,decide_eq_true_eq] at h2;refine ⟨h2.1.1,h2.1.2,fun x hx=>?_⟩;have h3:=List.all_eq_true.1 h2.2 _ hx;rw [Qbs,decide_eq_true_eq] at h3;exact h3
theorem Qfm {ns : List Nd} (h : Yx ns = true) : Bd ns where
 len:=Nat.le_trans (QpV h) (by decide)
 es i hi:=Nat.le_trans (Qch h hi).1 (by decide)
 cs i hi:=Nat.le_trans (Qch h hi).2.1 (by decide)
theorem Qe1 {ns : List Nd} (h : Yx ns = true) : Sm 1000 ns:=fun k=>by
 rcases Nat.lt_or_ge k ns.length with hk | hk
 ·exact ⟨Nat.le_trans (Qch h hk).1 (by decide),Nat.le_trans (Qch h hk).2.1 (by decide)⟩
 ·rw [Qh4 hk];exact ⟨Nat.zero_le _,Nat.zero_le _⟩
theorem Qcl {L : List LNd} (h : Yx (pln L) = true) : ∀ i,i < L.length → ∀ x ∈ (nth L i).es,x.key.length ≤ 1000000:=fun i hi x hx=>by
 have h2:=(Qch h (k:=i) (by rw [Qi];exact hi)).2.2 x (by rw [Q3 hi];exact hx);omega
def entN (co : Int) (ns : List Nd) (key : List UInt8) : TEnt:=nth (nth ns (Q1 (Xd co ns key).1)).es (Xd co ns key).2.1
end Gx
namespace Go.Proofs
open Go Go.RowKit Gx
attribute [local irreducible] Go.Calls Gx.S Gx.O Gx.D Gx.OpP Gx.OpQ Gx.OpH
set_option maxRecDepth 20000
theorem Qv3 : Qt Tryz.prog 42 = true:=by kernel_rfl
theorem QtA : Qt Tryz.prog 139 = true:=by kernel_rfl
theorem c42 (w : World) (x : TEnt) : Calls Tryz.prog 42 #[.agg #[.string (bs x.key),.string (bs x.val)]] w fun en w'=>en = .returned (.bool (Qbs x)) ∧ Below w.heap.size w w':=by
 refine enter (args:=[_]) Tryz.func42 Tryz.ntmps42 rfl rfl (HS.refl w []) ?_
 refine aS2 ?_
 refine oBx fun b1 _=>?_
 refine aS6 ?_
 refine o_p (Qn rfl rfl Tryz.underlying9) rfl ?_
 refine aS2 ?_
 refine Xn 5 7 12 _ _ rfl
  (by
   intro hg2
   have hs3:=hg2;try simp only [dT] at hs3
   refine oOn 7 hg2 ?_
   refine aS ?_
   refine oOn 7 hg2 ?_
   refine aS ?_
   refine oOn 7 hg2 ?_
   refine o_p (Qn rfl rfl Tryz.underlying9) rfl ?_
   refine oOn 7 hg2 ?_
   refine aS ?_
   refine o_p (Qg rfl rfl hg2 rfl) rfl ?_
   refine aS ?_
   exact oJn 5 12)
  (by
   intro hg4
   have hs5:=hg4;try simp only [dN] at hs5
   refine oOf 7 hg4 ?_
   refine oOf 7 hg4 ?_
   refine oOf 7 hg4 ?_
   refine oOf 7 hg4 ?_
   refine o_p (Qf rfl rfl hg4 rfl) rfl ?_
   refine aS ?_
   exact oJn 5 12) ?_
 refine aS2 ?_
 exact rT rfl rfl (fun w' h'=>⟨by simp only [QT,Qbs,Bool.decide_and];congr 3 <;> exact decide_eq_decide.2 (by omega),h'.below⟩)
theorem c139 (w : World) (a : Option Addr) (cap : Nat) (l : List TEnt) (hs : Rw TEnt.vals 2 w [] a l) (hl : l.length ≤ 1000) : Calls Tryz.prog 139 #[.slice a l.length cap] w fun en w'=>en = .returned (.bool (Qa2 l)) ∧ Below w.heap.size w w':=by
 refine enter (args:=[_]) Tryz.func139 Tryz.ntmps139 rfl rfl (HS.refl w []) ?_
 refine Qaq ?_
 refine Qx (α:=Nat) [2,3,4,5,6,7,8,9,10,11,12,13,14,15] (fun k=>[(3,.int .i64 (k : Int))]) (fun _=>HS w [] []) (fun k=>k ≤ l.length ∧ ∀ q,q < k → Qbs (nth l q) = true) (fun k=>l.length - k) 0 ⟨Nat.zero_le _,fun q h=>absurd h (Nat.not_lt_zero q)⟩ aSx (fun w h=>h.ent aEt) (fun k hx=>?_)
 obtain ⟨hk1,hk3⟩:=hx
 refine aS8 ?_
 refine Qb rfl (fun h1=>?_) fun h1=>?_
 ·try simp only [dT] at h1
  have hk5 : k < l.length:=by omega
  refine aS7 ?_
  refine o_p (Qc rfl rfl rfl Xh (k) (by omega) (by omega) (Rw.some hs (by omega))) rfl ?_
  refine o_q (QA _ rfl rfl Qb2 rfl (Rw.rd hs hk5)) rfl ?_
  refine o_q (Qa rfl Qv3 rfl (fun w1 h1=>c42 w1 (nth l k))) rfl ?_
  refine aS2 ?_
  refine Qb rfl (fun h2=>?_) fun h2=>?_
  ·try simp only [Bool.not_eq_true'] at h2
   have hz1 : ¬ Qbs (nth l k) = true:=by have hq:=h2;simp [hq]
   have hbad:=Qnu hk5 hz1
   refine aS4 ?_
   exact rT rfl rfl (fun w' h'=>⟨by rw [hbad];rfl,h'.below⟩)
  try simp only [Bool.not_eq_false'] at h2
  have hz1 : Qbs (nth l k) = true:=by have hq:=h2;simpa using hq
  refine aS5 ?_
  try refine oWr ?_
  refine aS2 ?_
  exact Qu (k + 1) (by omega) ⟨by omega,fun q hq=>(Nat.lt_or_ge q k).elim (hk3 q) (fun h9=>by obtain rfl : q = k:=(by omega);exact hz1)⟩ aSx (fun w h=>h.ent aEt)
 try simp only [dN] at h1
 have hall:=QnH (es:=l) (fun q hq=>hk3 q (by omega))
 refine Qp rfl ?_
 refine aS4 ?_
 exact rT rfl rfl (fun w' h'=>⟨by rw [hall];rfl,h'.below⟩)
theorem c74 (w : World) (co mo rm : Int) (a : Option Addr) (cap : Nat) (L : List LNd) (hs : Nt w [] a L) : Calls Tryz.prog 74 #[.agg #[.int .i64 co,.int .i64 mo,.int .i64 rm,.slice a L.length cap]] w fun en w'=>en = .returned (.bool (Yx (pln L))) ∧ Below w.heap.size w w':=by
 have hnl : (pln L).length = L.length:=Qi L
 refine enter (args:=[_]) Tryz.func74 Tryz.ntmps74 rfl rfl (HS.refl w []) ?_
 refine aS2 ?_
 refine oBx fun b1 _=>?_
 refine Qaq ?_
 refine Xn 5 8 13 _ _ rfl
  (by
   intro hg2
   have hs3:=hg2;try simp only [dT] at hs3
   refine oOn 8 hg2 ?_
   refine aS ?_
   refine oOn 8 hg2 ?_
   refine aS ?_
   refine oOn 8 hg2 ?_
   refine aS ?_
   refine oOn 8 hg2 ?_
   refine aS ?_
   refine o_p (Qg rfl rfl hg2 rfl) rfl ?_
   refine aS ?_
   exact oJn 5 13)
  (by
   intro hg4
   have hs5:=hg4;try simp only [dN] at hs5
   refine oOf 8 hg4 ?_
   refine oOf 8 hg4 ?_
   refine oOf 8 hg4 ?_
   refine oOf 8 hg4 ?_
   refine o_p (Qf rfl rfl hg4 rfl) rfl ?_
   refine aS ?_
   exact oJn 5 13) ?_
 refine aS ?_
 refine Xt 5 14 19 _ _ rfl
  (by
   intro hg6
   have hs7:=hg6;try simp only [Bool.and_eq_false_iff,decide_eq_false_iff_not] at hs7
   refine oOn 14 hg6 ?_
   refine aS ?_
   refine oOn 14 hg6 ?_
   refine aS ?_
   refine oOn 14 hg6 ?_
   refine aS ?_
   refine oOn 14 hg6 ?_
   refine aS ?_
   refine o_p (Qf rfl rfl hg6 rfl) rfl ?_
   refine aS ?_
   exact oJn 5 19)
  (by
   intro hg8
   have hs9:=hg8;try simp only [Bool.and_eq_true,decide_eq_true_eq] at hs9
   refine oOf 14 hg8 ?_
   refine oOf 14 hg8 ?_
   refine oOf 14 hg8 ?_
   refine oOf 14 hg8 ?_
   refine o_p (Qg rfl rfl hg8 rfl) rfl ?_
   refine aS ?_
   exact oJn 5 19) ?_
 refine aS ?_
 refine Qb rfl (fun h10=>?_) fun h10=>?_
 ·try simp only [Bool.or_eq_true,Bool.and_eq_true,decide_eq_true_eq] at h10
  have hbad:=Qrx (ns:=pln L) (by rw [hnl];have hq:=h10;omega)
  refine aS4 ?_
  exact rT rfl rfl (fun w' h'=>⟨by rw [hbad];rfl,h'.below⟩)
 try simp only [Bool.or_eq_false_iff,Bool.and_eq_false_iff,decide_eq_false_iff_not] at h10
 have hlen : L.length ≤ 122 ∧ ¬ (60 < L.length ∧ L.length ≤ 120):=by have hq:=h10;omega
 refine aS7 ?_
 refine Qx (α:=Nat) [2,3,20,21,22,23,24,25,26,27,28,29,30,31,32,33,34,35,36,37,38,39,40,41,42,43,44,45,46,47,48,49,50,51,52,53,54] (fun k=>[(3,.int .i64 (k : Int))]) (fun _=>HS w [] [.blk b1 37 4 [.int .i64 co,.int .i64 mo,.int .i64 rm,.slice a L.length cap]]) (fun k=>k ≤ L.length ∧ ∀ q,q < k → Qb5 (nth (pln L) q) = true) (fun k=>L.length - k) 0 ⟨Nat.zero_le _,fun q h=>absurd h (Nat.not_lt_zero q)⟩ aSx (fun w h=>h.ent aEt) (fun k hx=>?_)
 obtain ⟨hk1,hk3⟩:=hx
 refine aS9 ?_
 refine Qb rfl (fun h11=>?_) fun h11=>?_
 ·try simp only [dT] at h11
  have hk5 : k < L.length:=by omega
  have hnk:=Q3 hk5
  refine aS8 ?_
  refine o_p (Qc rfl rfl rfl XB (k) (by omega) (by omega) (Rw.some hs.1 (by omega))) rfl ?_
  refine aS ?_
  refine o_q (Qd rfl rfl QdS ((hs.1.rdj 1 hk5 rfl))) rfl ?_
  refine aS3 ?_
  refine Xt 9 35 44 _ _ rfl
   (by
    intro hg12
    have hs13:=hg12;try simp only [dN] at hs13
    refine oOn 35 hg12 ?_
    refine aS ?_
    refine oOn 35 hg12 ?_
    refine aS ?_
    refine oOn 35 hg12 ?_
    refine aS ?_
    refine oOn 35 hg12 ?_
    refine o_p (Qc rfl rfl rfl XB (k) (by omega) (by omega) (Rw.some hs.1 (by omega))) rfl ?_
    refine oOn 35 hg12 ?_
    refine aS ?_
    refine oOn 35 hg12 ?_
    refine o_q (Qd rfl rfl QbN ((hs.1.rdj 2 hk5 rfl))) rfl ?_
    refine oOn 35 hg12 ?_
    refine aS ?_
    refine oOn 35 hg12 ?_
    refine aS ?_
    refine o_p (Qf rfl rfl hg12 rfl) rfl ?_
    refine aS ?_
    exact oJn 9 44)
   (by
    intro hg14
    have hs15:=hg14;try simp only [dT] at hs15
    refine oOf 35 hg14 ?_
    refine oOf 35 hg14 ?_
    refine oOf 35 hg14 ?_
    refine oOf 35 hg14 ?_
    refine oOf 35 hg14 ?_
    refine oOf 35 hg14 ?_
    refine oOf 35 hg14 ?_
    refine oOf 35 hg14 ?_
    refine o_p (Qg rfl rfl hg14 rfl) rfl ?_
    refine aS ?_
    exact oJn 9 44) ?_
  refine aS ?_
  refine Xt 9 45 54 _ _ rfl
   (by
    intro hg16
    have hs17:=hg16;try simp only [Bool.or_eq_false_iff,decide_eq_false_iff_not] at hs17
    refine oOn 45 hg16 ?_
    refine aS ?_
    refine oOn 45 hg16 ?_
    refine aS ?_
    refine oOn 45 hg16 ?_
    refine aS ?_
    refine oOn 45 hg16 ?_
    refine o_p (Qc rfl rfl rfl XB (k) (by omega) (by omega) (Rw.some hs.1 (by omega))) rfl ?_
    refine oOn 45 hg16 ?_
    refine aS ?_
    refine oOn 45 hg16 ?_
    refine o_q (Qd rfl rfl QdS ((hs.1.rdj 1 hk5 rfl))) rfl ?_
    refine oOn 45 hg16 ?_
    refine o_q (Qa rfl QtA rfl (fun w1 h1=>c139 w1 (nth L k).ea (nth L k).ec (nth L k).es ((hs.es hk5).later h1) (by have hq:=hg16;omega))) rfl ?_
    refine oOn 45 hg16 ?_
    refine aS ?_
    refine o_p (Qf rfl rfl hg16 rfl) rfl ?_
    refine aS ?_
    exact oJn 9 54)
   (by
    intro hg18
    have hs19:=hg18;try simp only [Bool.or_eq_true,decide_eq_true_eq] at hs19
    refine oOf 45 hg18 ?_
    refine oOf 45 hg18 ?_
    refine oOf 45 hg18 ?_
    refine oOf 45 hg18 ?_
    refine oOf 45 hg18 ?_
    refine oOf 45 hg18 ?_
    refine oOf 45 hg18 ?_
    refine oOf 45 hg18 ?_
    refine o_p (Qg rfl rfl hg18 rfl) rfl ?_
    refine aS ?_
    exact oJn 9 54) ?_
  refine aS ?_
  refine Qb rfl (fun h20=>?_) fun h20=>?_
  ·try simp only [Bool.or_eq_true,decide_eq_true_eq,Bool.not_eq_true'] at h20
   have hz1 : ¬ Qb5 (nth (pln L) k) = true:=by rw [hnk];have hq:=h20;exact QrW (hq.imp (fun h9=>by show 10 < (nth L k).es.length ∨ 11 < (nth L k).cs.length;omega) id)
   have hbad:=Qsk (by rw [hnl];exact hk5) hz1
   refine aS4 ?_
   exact rT rfl rfl (fun w' h'=>⟨by rw [hbad];rfl,h'.below⟩)
  try simp only [Bool.or_eq_false_iff,decide_eq_false_iff_not,Bool.not_eq_false'] at h20
  have hz1 : Qb5 (nth (pln L) k) = true:=by rw [hnk];have hq:=h20;exact Qsf (by show (nth L k).es.length ≤ 10;omega) (by show (nth L k).cs.length ≤ 11;omega) hq.2
  refine aS5 ?_
  try refine oWr ?_
  refine aS2 ?_
  exact Qu (k + 1) (by omega) ⟨by omega,fun q hq=>(Nat.lt_or_ge q k).elim (hk3 q) (fun h9=>by obtain rfl : q = k:=(by omega);exact hz1)⟩ aSx (fun w h=>h.ent aEt)
 try simp only [dN] at h11
 have hall:=QrP (ns:=pln L) (by rw [hnl];exact hlen) (fun q hq=>hk3 q (by rw [hnl] at hq;omega))
 refine Qp rfl ?_
 refine aS4 ?_
 exact rT rfl rfl (fun w' h'=>⟨by rw [hall];rfl,h'.below⟩)
theorem Qul : Qtt Tryz.prog 211 67 4:=⟨_,Tryz.func211,rfl,rfl,by kernel_rfl,by kernel_rfl⟩
theorem Qum : Qtt Tryz.prog 263 28 4:=⟨_,Tryz.func263,rfl,rfl,by kernel_rfl,by kernel_rfl⟩
theorem QwQ (w : World) (a : Option Addr) (i n m cap : Nat) (xs news : List Value) (b0 c0 tot2 : Nat) (hw : HS w (fps [.own (.slice a n cap) 27 2 n xs,.blk b0 27 tot2 news]) [.own (.slice a n cap) 27 2 n xs,.blk b0 27 tot2 news] w) (hm0 : 0 < m) (hl : news.length = m * 2) (hn1 : ∀ u ∈ news,u.oneCell' = true) (hx1 : ∀ u ∈ xs,u.oneCell' = true) (hmax : (n + m) * 32 ≤ 140737488355328) (hi : i = n) : Calls Tryz.prog 165 #[.slice a n cap,.int .i64 i,.slice (some ⟨b0,0,none⟩) m c0] w fun en w'=>∃ g : Option Addr × Nat,en = .returned (.slice g.1 (n + m) g.2) ∧ True ∧ HS w (fps [.own (.slice a n cap) 27 2 n xs,.blk b0 27 tot2 news]) [.own (.slice g.1 (n + m) g.2) 27 2 (n + m) (xs.take (i * 2) ++ news ++ xs.drop (i * 2)),.blk b0 27 tot2 news] w':=by
 obtain ⟨_,hnc,hcm,hxl⟩:=hw.own_facts .here
 refine enter (args:=[_,_,_]) Tryz.func165 Tryz.ntmps165 rfl rfl hw ?_
 refine aS8 ?_
 refine o_p (Qz _ _ i n rfl rfl Xh ⟨_,_,rfl,rfl⟩ rfl (by omega) (by omega)) rfl ?_
 iterate 13 refine aS ?_
 refine Qb rfl (fun h1=>?_) fun h1=>?_
 ·try simp only [dT] at h1
  exfalso;first | omega | (simp at h1;done) | (simp_all;done)
 try simp only [dN] at h1
 iterate 14 refine aS ?_
 refine Qb rfl (fun h2=>?_) fun h2=>?_
 ·try simp only [dT] at h2
  refine aS4 ?_
  refine o_h (XU news rfl rfl rfl Xh Tryz.underlying67 Z2 rfl aPk (XI aPk) hl hn1 (by omega) (by simp only [maxLen];omega)) rfl (fun b3 _=>?_)
  refine aS2 ?_
  exact rT rfl rfl (fun w' h'=>⟨(_,_),rfl,trivial,by subst hi;rw [List.take_of_length_le (by omega),List.drop_eq_nil_of_le (by omega),List.append_nil];exact h'.ent aEt⟩)
 try simp only [dN] at h2
 exfalso;first | omega | (simp at h2;done) | (simp_all;done)
theorem QwF (w : World) (gg i n m cap : Nat) (xs news : List Value) (b0 c0 tot2 : Nat) (M : List Nat) (hw : HS w M [.blk gg 27 (cap * 2) xs,.blk b0 27 tot2 news] w) (hnc : n ≤ cap) (hcm : cap ≤ maxLen) (hxl : xs.length = n * 2) (hm0 : 0 < m) (hl : news.length = m * 2) (hn1 : ∀ u ∈ news,u.oneCell' = true) (hx1 : ∀ u ∈ xs,u.oneCell' = true) (hmax : (n + m) * 32 ≤ 140737488355328) (hi : i < n) : Calls Tryz.prog 165 #[.slice (some ⟨gg,0,none⟩) n cap,.int .i64 i,.slice (some ⟨b0,0,none⟩) m c0] w fun en w'=>∃ g : Option Addr × Nat,en = .returned (.slice g.1 (n + m) g.2) ∧ True ∧ HS w M [.own (.slice g.1 (n + m) g.2) 27 2 (n + m) (xs.take (i * 2) ++ news ++ xs.drop (i * 2)),.blk b0 27 tot2 news] w':=by
 have ht2:=(hw.blk_get (.there .here)).len_le
 have hcl : (cut xs 0 (i * 2)).length = i * 2:=Xx _ _ _ (by omega)
 refine enter (args:=[_,_,_]) Tryz.func165 Tryz.ntmps165 rfl rfl hw ?_
 refine aS8 ?_
 refine o_p (Qz _ _ i n rfl rfl Xh ⟨_,_,rfl,rfl⟩ rfl (by omega) (by omega)) rfl ?_
 iterate 13 refine aS ?_
 refine Qb rfl (fun h1=>?_) fun h1=>?_
 ·try simp only [dT] at h1
  exfalso;first | omega | (simp at h1;done) | (simp_all;done)
 try simp only [dN] at h1
 iterate 14 refine aS ?_
 refine Qb rfl (fun h2=>?_) fun h2=>?_
 ·try simp only [dT] at h2
  exfalso;first | omega | (simp at h2;done) | (simp_all;done)
 try simp only [dN] at h2
 refine aS7 ?_
 try refine oWr ?_
 refine aS ?_
 refine o_p (Qn7 rfl rfl Tryz.underlying67) rfl ?_
 refine aS2 ?_
 refine Qb rfl (fun h3=>?_) fun h3=>?_
 ·try simp only [dT] at h3
  refine aS4 ?_
  refine o_p (Qz _ _ 0 i rfl rfl Xh rfl ⟨_,_,rfl,rfl⟩ (by omega) (by omega)) rfl ?_
  refine Qq (show _ = Value.slice (some ⟨gg,0,none⟩) (i) (cap) from by rw [ZR] <;> (congr 1 <;> omega)) ?_
  refine aS3 ?_
  try refine oWr ?_
  refine aS2 ?_
  try refine oWr ?_
  refine Qq (show _ = Value.int .i64 ((n + m - i : Nat) : Int) from by first | rfl | (congr 1 <;> first | rfl | omega)) ?_
  refine o_h (ZU (m:=n + m - i) (olds:=cut xs 0 (i * 2)) rfl rfl rfl Xh YZ Z2 rfl (by decide) (by omega) (by omega) (ZO 0 (i * 2) (fun _=>rfl) aPk) hcl (by omega) (by simp only [maxLen];omega)) rfl (fun ⟨b4,c5⟩ ⟨h6,k7⟩=>?_)
  refine Qq (show _ = Value.slice (some ⟨b4,0,none⟩) (n + m) c5 from by first | rfl | (congr 1 <;> first | rfl | omega)) ?_
  refine aS3 ?_
  refine Qm (L':=[(0,_),(1,_),(2,_),(6,_),(7,_),(8,_),(9,_)]) aSx (fun _ h=>h) ?_
  refine aS3 ?_
  refine o_p (Qz _ _ i (n + m) rfl rfl Xh ⟨_,_,rfl,rfl⟩ rfl (by omega) (by omega)) rfl ?_
  refine Qq (show _ = Value.slice (some ⟨b4,i * 2,none⟩) (n + m - i) (c5 - i) from by rw [XL (by omega)] <;> (congr 1 <;> omega)) ?_
  refine aS ?_
  refine o_h (Qbn m news rfl rfl rfl Xh aPt (by omega) hl (fun _=>rfl) (by simp only [QF,List.length_append,Qk];omega) (XI aPk) hn1) rfl (fun _ _=>?_)
  refine aS2 ?_
  refine QG [8] QU ?_
  refine dP 0 ?_
  refine dP 1 ?_
  refine dP 2 ?_
  refine dP 3 ?_
  try refine dWr ?_
  refine dV 4 rfl (Qz _ _ (i + m) (n + m) rfl rfl Xh ⟨_,_,rfl,(by omega)⟩ rfl (by omega) (by omega)) ?_
  refine QD (show _ = Value.slice (some ⟨b4,(i + m) * 2,none⟩) (n - i) (c5 - (i + m)) from by rw [XL (by omega)] <;> (congr 1 <;> omega)) ?_
  refine dP 5 ?_
  refine dP 6 ?_
  refine dV 7 rfl (Qz _ _ i n rfl rfl Xh ⟨_,_,rfl,rfl⟩ rfl (by omega) (by omega)) ?_
  refine QD (show _ = Value.slice (some ⟨gg,i * 2,none⟩) (n - i) (cap - i) from by rw [XL (by omega)] <;> (congr 1 <;> omega)) ?_
  refine dH 8 rfl (Qbn (n - i) (cut xs (i * 2) ((n - i) * 2)) rfl rfl rfl Xh aPt (by omega) (Xx _ _ _ (by omega)) (fun _=>rfl) (by rw [Xx _ _ _ (by omega)];simp only [QF,List.length_append,Qk];omega) (ZO (i * 2) ((n - i) * 2) (fun _=>rfl) aPk) (Qh0 hx1 _ _)) (fun _ _=>?_)
  refine dTu [] ?_
  refine dNi ?_
  refine aS5 ?_
  exact rT rfl rfl (fun w' h'=>⟨(some ⟨b4,0,none⟩,c5),rfl,trivial,(HS.to_own (n:=n + m) (xs:=xs.take (i * 2) ++ news ++ xs.drop (i * 2)) (ds:=[]) aPk h' (by have hq:=QiE (xs:=xs) (news:=news) (z:=XH [.string (bs []),.string (bs [])] ((n + m - i) * 2)) (p:=i * 2) (q:=m * 2) (N:=n * 2) hxl (by omega) hl (by rw [QF];omega);rw [List.append_nil];rw [show (i + m) * 2 = i * 2 + m * 2 from by omega,show (n - i) * 2 = n * 2 - i * 2 from by omega];exact hq) (by simp only [List.length_append,List.length_take,List.length_drop];omega) (by omega) (by omega)).ent aEt⟩)
 try simp only [dN] at h3
 refine aS7 ?_
 try refine oWr ?_
 refine o_p (Qz _ _ 0 (n + m) rfl rfl Xh rfl ⟨_,_,rfl,(by omega)⟩ (by omega) (by omega)) rfl ?_
 refine Qq (show _ = Value.slice (some ⟨gg,0,none⟩) (n + m) cap from by rw [ZR] <;> (congr 1 <;> omega)) ?_
 refine o_ex (fun w h=>HS.blk_full (b:=gg) aPk h) fun ds=>?_
 refine QoG (fun w h=>h.1) fun hds=>?_
 refine X6 (fun w h=>h.2) ?_
 refine Qaq ?_
 try refine oWr ?_
 refine o_p (Qz _ _ (i + m) (n + m) rfl rfl Xh ⟨_,_,rfl,(by omega)⟩ rfl (by omega) (by omega)) rfl ?_
 refine Qq (show _ = Value.slice (some ⟨gg,(i + m) * 2,none⟩) (n - i) (cap - (i + m)) from by rw [XL (by omega)] <;> (congr 1 <;> omega)) ?_
 refine o_q (Qgq rfl Qul rfl rfl Xh (hp:=aPk) (hp':=aPk) (by decide) (by omega) (by omega)) rfl ?_
 refine aS2 ?_
 refine Qb rfl (fun h8=>?_) fun h8=>?_
 ·try simp only [Bool.not_false] at h8
  refine aS ?_
  refine Qm (L':=[(0,_),(1,_),(2,_),(6,_),(7,_),(8,_)]) aSx (fun _ h=>h) ?_
  refine QG [8] QU ?_
  refine dP 0 ?_
  refine dP 1 ?_
  refine dP 2 ?_
  refine dP 3 ?_
  try refine dWr ?_
  refine dV 4 rfl (Qz _ _ (i + m) (n + m) rfl rfl Xh ⟨_,_,rfl,(by omega)⟩ rfl (by omega) (by omega)) ?_
  refine QD (show _ = Value.slice (some ⟨gg,(i + m) * 2,none⟩) (n - i) (cap - (i + m)) from by rw [XL (by omega)] <;> (congr 1 <;> omega)) ?_
  refine dP 5 ?_
  refine dP 6 ?_
  refine dV 7 rfl (Qz _ _ i (n + m) rfl rfl Xh ⟨_,_,rfl,rfl⟩ rfl (by omega) (by omega)) ?_
  refine QD (show _ = Value.slice (some ⟨gg,i * 2,none⟩) (n + m - i) (cap - i) from by rw [XL (by omega)] <;> (congr 1 <;> omega)) ?_
  refine dH 8 rfl (Qbn (n - i) (cut (xs ++ ds) (i * 2) ((n - i) * 2)) rfl rfl rfl Xh aPt (by omega) (Xx _ _ _ (by simp only [QF,List.length_append,Qk];omega)) (fun _=>rfl) (by rw [Xx _ _ _ (by simp only [QF,List.length_append,Qk];omega)];simp only [QF,List.length_append,Qk];omega) (ZO (i * 2) ((n - i) * 2) (fun _=>rfl) aPk) (QlS hx1 (by omega))) (fun _ _=>?_)
  refine dTu [] ?_
  refine dNi ?_
  refine aS4 ?_
  refine o_p (Qz _ _ i (n + m) rfl rfl Xh ⟨_,_,rfl,rfl⟩ rfl (by omega) (by omega)) rfl ?_
  refine Qq (show _ = Value.slice (some ⟨gg,i * 2,none⟩) (n + m - i) (cap - i) from by rw [XL (by omega)] <;> (congr 1 <;> omega)) ?_
  refine aS ?_
  refine o_h (Qbn m news rfl rfl rfl Xh aPt (by omega) hl (fun _=>rfl) (by simp only [QF,List.length_append,Qk];omega) (XI aPk) hn1) rfl (fun _ _=>?_)
  refine aS6 ?_
  exact rT rfl rfl (fun w' h'=>⟨(some ⟨gg,0,none⟩,cap),rfl,trivial,(HS.to_own (n:=n + m) (xs:=xs.take (i * 2) ++ news ++ xs.drop (i * 2)) (ds:=ds.drop (m * 2)) aPk h' (by have hq:=QqV (xs:=xs) (ds:=ds) (news:=news) (p:=i * 2) (q:=m * 2) (N:=n * 2) hxl (by omega) hl (by omega);rw [show (i + m) * 2 = i * 2 + m * 2 from by omega,show (n - i) * 2 = n * 2 - i * 2 from by omega];exact hq) (by simp only [List.length_append,List.length_take,List.length_drop];omega) (by omega) (by omega)).ent aEt⟩)
 try simp only [Bool.not_false] at h8
 exfalso;first | omega | (simp at h8;done) | (simp_all;done)
theorem c165 (w : World) (a : Option Addr) (i n m cap : Nat) (xs news : List Value) (b0 c0 tot2 : Nat) (hw : HS w (fps [.own (.slice a n cap) 27 2 n xs,.blk b0 27 tot2 news]) [.own (.slice a n cap) 27 2 n xs,.blk b0 27 tot2 news] w) (hm0 : 0 < m) (hl : news.length = m * 2) (hn1 : ∀ u ∈ news,u.oneCell' = true) (hx1 : ∀ u ∈ xs,u.oneCell' = true) (hmax : (n + m) * 32 ≤ 140737488355328) (hi : i ≤ n) : Calls Tryz.prog 165 #[.slice a n cap,.int .i64 i,.slice (some ⟨b0,0,none⟩) m c0] w fun en w'=>∃ g : Option Addr × Nat,en = .returned (.slice g.1 (n + m) g.2) ∧ True ∧ HS w (fps [.own (.slice a n cap) 27 2 n xs,.blk b0 27 tot2 news]) [.own (.slice g.1 (n + m) g.2) 27 2 (n + m) (xs.take (i * 2) ++ news ++ xs.drop (i * 2)),.blk b0 27 tot2 news] w':=by
  rcases Nat.lt_or_ge i n with h | h
  · obtain ⟨gg,rfl,_,hnc,hcm,hxl,hb⟩:=hw.own_blk (by omega) .here;exact QwF w gg i n m cap xs news b0 c0 tot2 _ hb hnc hcm hxl hm0 hl hn1 hx1 hmax h
  · exact QwQ w a i n m cap xs news b0 c0 tot2 hw hm0 hl hn1 hx1 hmax (by omega)
theorem Qwn (w : World) (a : Option Addr) (i n m cap : Nat) (xs news : List Value) (b0 c0 tot2 : Nat) (hw : HS w (fps [.own (.slice a n cap) 3 1 n xs,.blk b0 3 tot2 news]) [.own (.slice a n cap) 3 1 n xs,.blk b0 3 tot2 news] w) (hm0 : 0 < m) (hl : news.length = m * 1) (hn1 : ∀ u ∈ news,u.oneCell' = true) (hx1 : ∀ u ∈ xs,u.oneCell' = true) (hmax : (n + m) * 8 ≤ 140737488355328) (hi : i = n) : Calls Tryz.prog 249 #[.slice a n cap,.int .i64 i,.slice (some ⟨b0,0,none⟩) m c0] w fun en w'=>∃ g : Option Addr × Nat,en = .returned (.slice g.1 (n + m) g.2) ∧ True ∧ HS w (fps [.own (.slice a n cap) 3 1 n xs,.blk b0 3 tot2 news]) [.own (.slice g.1 (n + m) g.2) 3 1 (n + m) (xs.take (i * 1) ++ news ++ xs.drop (i * 1)),.blk b0 3 tot2 news] w':=by
 obtain ⟨_,hnc,hcm,hxl⟩:=hw.own_facts .here
 refine enter (args:=[_,_,_]) Tryz.func249 Tryz.ntmps249 rfl rfl hw ?_
 refine aS8 ?_
 refine o_p (Qz _ _ i n rfl rfl Xe ⟨_,_,rfl,rfl⟩ rfl (by omega) (by omega)) rfl ?_
 iterate 13 refine aS ?_
 refine Qb rfl (fun h1=>?_) fun h1=>?_
 ·try simp only [dT] at h1
  exfalso;first | omega | (simp at h1;done) | (simp_all;done)
 try simp only [dN] at h1
 iterate 14 refine aS ?_
 refine Qb rfl (fun h2=>?_) fun h2=>?_
 ·try simp only [dT] at h2
  refine aS4 ?_
  refine o_h (XU news rfl rfl rfl Xe Tryz.underlying28 QeW rfl aPk (XI aPk) hl hn1 (by omega) (by simp only [maxLen];omega)) rfl (fun b3 _=>?_)
  refine aS2 ?_
  exact rT rfl rfl (fun w' h'=>⟨(_,_),rfl,trivial,by subst hi;rw [List.take_of_length_le (by omega),List.drop_eq_nil_of_le (by omega),List.append_nil];exact h'.ent aEt⟩)
 try simp only [dN] at h2
 exfalso;first | omega | (simp at h2;done) | (simp_all;done)
theorem QwZ (w : World) (gg i n m cap : Nat) (xs news : List Value) (b0 c0 tot2 : Nat) (M : List Nat) (hw : HS w M [.blk gg 3 (cap * 1) xs,.blk b0 3 tot2 news] w) (hnc : n ≤ cap) (hcm : cap ≤ maxLen) (hxl : xs.length = n * 1) (hm0 : 0 < m) (hl : news.length = m * 1) (hn1 : ∀ u ∈ news,u.oneCell' = true) (hx1 : ∀ u ∈ xs,u.oneCell' = true) (hmax : (n + m) * 8 ≤ 140737488355328) (hi : i < n) : Calls Tryz.prog 249 #[.slice (some ⟨gg,0,none⟩) n cap,.int .i64 i,.slice (some ⟨b0,0,none⟩) m c0] w fun en w'=>∃ g : Option Addr × Nat,en = .returned (.slice g.1 (n + m) g.2) ∧ True ∧ HS w M [.own (.slice g.1 (n + m) g.2) 3 1 (n + m) (xs.take (i * 1) ++ news ++ xs.drop (i * 1)),.blk b0 3 tot2 news] w':=by
 have ht2:=(hw.blk_get (.there .here)).len_le
 have hcl : (cut xs 0 (i * 1)).length = i * 1:=Xx _ _ _ (by omega)
 refine enter (args:=[_,_,_]) Tryz.func249 Tryz.ntmps249 rfl rfl hw ?_
 refine aS8 ?_
 refine o_p (Qz _ _ i n rfl rfl Xe ⟨_,_,rfl,rfl⟩ rfl (by omega) (by omega)) rfl ?_
 iterate 13 refine aS ?_
 refine Qb rfl (fun h1=>?_) fun h1=>?_
 ·try simp only [dT] at h1
  exfalso;first | omega | (simp at h1;done) | (simp_all;done)
 try simp only [dN] at h1
 iterate 14 refine aS ?_
 refine Qb rfl (fun h2=>?_) fun h2=>?_
 ·try simp only [dT] at h2
  exfalso;first | omega | (simp at h2;done) | (simp_all;done)
 try simp only [dN] at h2
 refine aS7 ?_
 try refine oWr ?_
 refine aS ?_
 refine o_p (Qn7 rfl rfl Tryz.underlying28) rfl ?_
 refine aS2 ?_
 refine Qb rfl (fun h3=>?_) fun h3=>?_
 ·try simp only [dT] at h3
  refine aS4 ?_
  refine o_p (Qz _ _ 0 i rfl rfl Xe rfl ⟨_,_,rfl,rfl⟩ (by omega) (by omega)) rfl ?_
  refine Qq (show _ = Value.slice (some ⟨gg,0,none⟩) (i) (cap) from by rw [ZR] <;> (congr 1 <;> omega)) ?_
  refine aS3 ?_
  try refine oWr ?_
  refine aS2 ?_
  try refine oWr ?_
  refine Qq (show _ = Value.int .i64 ((n + m - i : Nat) : Int) from by first | rfl | (congr 1 <;> first | rfl | omega)) ?_
  refine o_h (ZU (m:=n + m - i) (olds:=cut xs 0 (i * 1)) rfl rfl rfl Xe YZ QeW rfl (by decide) (by omega) (by omega) (ZO 0 (i * 1) (fun _=>rfl) aPk) hcl (by omega) (by simp only [maxLen];omega)) rfl (fun ⟨b4,c5⟩ ⟨h6,k7⟩=>?_)
  refine Qq (show _ = Value.slice (some ⟨b4,0,none⟩) (n + m) c5 from by first | rfl | (congr 1 <;> first | rfl | omega)) ?_
  refine aS3 ?_
  refine Qm (L':=[(0,_),(1,_),(2,_),(6,_),(7,_),(8,_),(9,_)]) aSx (fun _ h=>h) ?_
  refine aS3 ?_
  refine o_p (Qz _ _ i (n + m) rfl rfl Xe ⟨_,_,rfl,rfl⟩ rfl (by omega) (by omega)) rfl ?_
  refine Qq (show _ = Value.slice (some ⟨b4,i * 1,none⟩) (n + m - i) (c5 - i) from by rw [XL (by omega)] <;> (congr 1 <;> omega)) ?_
  refine aS ?_
  refine o_h (Qbn m news rfl rfl rfl Xe aPt (by omega) hl (fun _=>rfl) (by simp only [QF,List.length_append,Qk];omega) (XI aPk) hn1) rfl (fun _ _=>?_)
  refine aS2 ?_
  refine QG [8] QU ?_
  refine dP 0 ?_
  refine dP 1 ?_
  refine dP 2 ?_
  refine dP 3 ?_
  try refine dWr ?_
  refine dV 4 rfl (Qz _ _ (i + m) (n + m) rfl rfl Xe ⟨_,_,rfl,(by omega)⟩ rfl (by omega) (by omega)) ?_
  refine QD (show _ = Value.slice (some ⟨b4,(i + m) * 1,none⟩) (n - i) (c5 - (i + m)) from by rw [XL (by omega)] <;> (congr 1 <;> omega)) ?_
  refine dP 5 ?_
  refine dP 6 ?_
  refine dV 7 rfl (Qz _ _ i n rfl rfl Xe ⟨_,_,rfl,rfl⟩ rfl (by omega) (by omega)) ?_
  refine QD (show _ = Value.slice (some ⟨gg,i * 1,none⟩) (n - i) (cap - i) from by rw [XL (by omega)] <;> (congr 1 <;> omega)) ?_
  refine dH 8 rfl (Qbn (n - i) (cut xs (i * 1) ((n - i) * 1)) rfl rfl rfl Xe aPt (by omega) (Xx _ _ _ (by omega)) (fun _=>rfl) (by rw [Xx _ _ _ (by omega)];simp only [QF,List.length_append,Qk];omega) (ZO (i * 1) ((n - i) * 1) (fun _=>rfl) aPk) (Qh0 hx1 _ _)) (fun _ _=>?_)
  refine dTu [] ?_
  refine dNi ?_
  refine aS5 ?_
  exact rT rfl rfl (fun w' h'=>⟨(some ⟨b4,0,none⟩,c5),rfl,trivial,(HS.to_own (n:=n + m) (xs:=xs.take (i * 1) ++ news ++ xs.drop (i * 1)) (ds:=[]) aPk h' (by have hq:=QiE (xs:=xs) (news:=news) (z:=XH [.int .i64 0] ((n + m - i) * 1)) (p:=i * 1) (q:=m * 1) (N:=n * 1) hxl (by omega) hl (by rw [QF];omega);rw [List.append_nil];rw [show (i + m) * 1 = i * 1 + m * 1 from by omega,show (n - i) * 1 = n * 1 - i * 1 from by omega];exact hq) (by simp only [List.length_append,List.length_take,List.length_drop];omega) (by omega) (by omega)).ent aEt⟩)
 try simp only [dN] at h3
 refine aS7 ?_
 try refine oWr ?_
 refine o_p (Qz _ _ 0 (n + m) rfl rfl Xe rfl ⟨_,_,rfl,(by omega)⟩ (by omega) (by omega)) rfl ?_
 refine Qq (show _ = Value.slice (some ⟨gg,0,none⟩) (n + m) cap from by rw [ZR] <;> (congr 1 <;> omega)) ?_
 refine o_ex (fun w h=>HS.blk_full (b:=gg) aPk h) fun ds=>?_
 refine QoG (fun w h=>h.1) fun hds=>?_
 refine X6 (fun w h=>h.2) ?_
 refine Qaq ?_
 try refine oWr ?_
 refine o_p (Qz _ _ (i + m) (n + m) rfl rfl Xe ⟨_,_,rfl,(by omega)⟩ rfl (by omega) (by omega)) rfl ?_
 refine Qq (show _ = Value.slice (some ⟨gg,(i + m) * 1,none⟩) (n - i) (cap - (i + m)) from by rw [XL (by omega)] <;> (congr 1 <;> omega)) ?_
 refine o_q (Qgq rfl Qum rfl rfl Xe (hp:=aPk) (hp':=aPk) (by decide) (by omega) (by omega)) rfl ?_
 refine aS2 ?_
 refine Qb rfl (fun h8=>?_) fun h8=>?_
 ·try simp only [Bool.not_false] at h8
  refine aS ?_
  refine Qm (L':=[(0,_),(1,_),(2,_),(6,_),(7,_),(8,_)]) aSx (fun _ h=>h) ?_
  refine QG [8] QU ?_
  refine dP 0 ?_
  refine dP 1 ?_
  refine dP 2 ?_
  refine dP 3 ?_
  try refine dWr ?_
  refine dV 4 rfl (Qz _ _ (i + m) (n + m) rfl rfl Xe ⟨_,_,rfl,(by omega)⟩ rfl (by omega) (by omega)) ?_
  refine QD (show _ = Value.slice (some ⟨gg,(i + m) * 1,none⟩) (n - i) (cap - (i + m)) from by rw [XL (by omega)] <;> (congr 1 <;> omega)) ?_
  refine dP 5 ?_
  refine dP 6 ?_
  refine dV 7 rfl (Qz _ _ i (n + m) rfl rfl Xe ⟨_,_,rfl,rfl⟩ rfl (by omega) (by omega)) ?_
  refine QD (show _ = Value.slice (some ⟨gg,i * 1,none⟩) (n + m - i) (cap - i) from by rw [XL (by omega)] <;> (congr 1 <;> omega)) ?_
  refine dH 8 rfl (Qbn (n - i) (cut (xs ++ ds) (i * 1) ((n - i) * 1)) rfl rfl rfl Xe aPt (by omega) (Xx _ _ _ (by simp only [QF,List.length_append,Qk];omega)) (fun _=>rfl) (by rw [Xx _ _ _ (by simp only [QF,List.length_append,Qk];omega)];simp only [QF,List.length_append,Qk];omega) (ZO (i * 1) ((n - i) * 1) (fun _=>rfl) aPk) (QlS hx1 (by omega))) (fun _ _=>?_)
  refine dTu [] ?_
  refine dNi ?_
  refine aS4 ?_
  refine o_p (Qz _ _ i (n + m) rfl rfl Xe ⟨_,_,rfl,rfl⟩ rfl (by omega) (by omega)) rfl ?_
  refine Qq (show _ = Value.slice (some ⟨gg,i * 1,none⟩) (n + m - i) (cap - i) from by rw [XL (by omega)] <;> (congr 1 <;> omega)) ?_
  refine aS ?_
  refine o_h (Qbn m news rfl rfl rfl Xe aPt (by omega) hl (fun _=>rfl) (by simp only [QF,List.length_append,Qk];omega) (XI aPk) hn1) rfl (fun _ _=>?_)
  refine aS6 ?_
  exact rT rfl rfl (fun w' h'=>⟨(some ⟨gg,0,none⟩,cap),rfl,trivial,(HS.to_own (n:=n + m) (xs:=xs.take (i * 1) ++ news ++ xs.drop (i * 1)) (ds:=ds.drop (m * 1)) aPk h' (by have hq:=QqV (xs:=xs) (ds:=ds) (news:=news) (p:=i * 1) (q:=m * 1) (N:=n * 1) hxl (by omega) hl (by omega);rw [show (i + m) * 1 = i * 1 + m * 1 from by omega,show (n - i) * 1 = n * 1 - i * 1 from by omega];exact hq) (by simp only [List.length_append,List.length_take,List.length_drop];omega) (by omega) (by omega)).ent aEt⟩)
 try simp only [Bool.not_false] at h8
 exfalso;first | omega | (simp at h8;done) | (simp_all;done)
theorem c249 (w : World) (a : Option Addr) (i n m cap : Nat) (xs news : List Value) (b0 c0 tot2 : Nat) (hw : HS w (fps [.own (.slice a n cap) 3 1 n xs,.blk b0 3 tot2 news]) [.own (.slice a n cap) 3 1 n xs,.blk b0 3 tot2 news] w) (hm0 : 0 < m) (hl : news.length = m * 1) (hn1 : ∀ u ∈ news,u.oneCell' = true) (hx1 : ∀ u ∈ xs,u.oneCell' = true) (hmax : (n + m) * 8 ≤ 140737488355328) (hi : i ≤ n) : Calls Tryz.prog 249 #[.slice a n cap,.int .i64 i,.slice (some ⟨b0,0,none⟩) m c0] w fun en w'=>∃ g : Option Addr × Nat,en = .returned (.slice g.1 (n + m) g.2) ∧ True ∧ HS w (fps [.own (.slice a n cap) 3 1 n xs,.blk b0 3 tot2 news]) [.own (.slice g.1 (n + m) g.2) 3 1 (n + m) (xs.take (i * 1) ++ news ++ xs.drop (i * 1)),.blk b0 3 tot2 news] w':=by
  rcases Nat.lt_or_ge i n with h | h
  · obtain ⟨gg,rfl,_,hnc,hcm,hxl,hb⟩:=hw.own_blk (by omega) .here;exact QwZ w gg i n m cap xs news b0 c0 tot2 _ hb hnc hcm hxl hm0 hl hn1 hx1 hmax h
  · exact Qwn w a i n m cap xs news b0 c0 tot2 hw hm0 hl hn1 hx1 hmax (by omega)
end Go.Proofs
namespace Gx
open Go Go.RowKit
def QeU (cap : Nat) (l : List UInt8) : List Value:=l.map bv ++ List.replicate (cap - l.length) (bv 0)
def QwC (a : Option Addr) (cap : Nat) (l : List UInt8) (w : World) : Prop:=
 (a = none ∧ cap = 0 ∧ l = []) ∨ ∃ g,a = some ⟨g,0,none⟩ ∧ l.length ≤ cap ∧ cap ≤ maxLen ∧ QW g u8T cap (QeU cap l) w
theorem QjZ {cap : Nat} {l : List UInt8} (h : l.length ≤ cap) : (QeU cap l).length = cap:=by
 simp only [QeU,List.length_append,List.length_map,List.length_replicate];omega
def HA.byz (a : Option Addr) (cap : Nat) (l : List UInt8) : HA:=⟨(Value.slice a l.length cap).ownBlock.toList,QwC a cap l,fun w w' h ha=>by
  obtain ⟨h1,h2,h3⟩ | ⟨g,rfl,h2,h3,hb⟩:=ha
  ·exact .inl ⟨h1,h2,h3⟩
  ·exact .inr ⟨g,rfl,h2,h3,QW.loc (h g (by simp [Value.ownBlock])) hb⟩⟩
theorem HA.fp_byz (a : Option Addr) (cap : Nat) (l : List UInt8) : (HA.byz a cap l).fp = (Value.slice a l.length cap).ownBlock.toList:=rfl
def Qb6 (a : Option Addr) (cap : Nat) (g : Option Addr × Nat) (n : Nat) : Prop:=n ≤ cap → g.1 = a ∧ g.2 = cap
theorem Qb6.trans {a : Option Addr} {cap : Nat} {g g' : Option Addr × Nat} {n m : Nat} (h : Qb6 a cap g n) (h' : Qb6 g.1 g.2 g' m) (hle : n ≤ m) : Qb6 a cap g' m:=fun hm=>by
 obtain ⟨e1,e2⟩:=h (Nat.le_trans hle hm);obtain ⟨e3,e4⟩:=h' (by rw [e2];exact hm);exact ⟨e3.trans e1,e4.trans e2⟩
section
variable {w0 w : World} {M : List Nat} {As As' : List HA}
theorem HS.byz_nil (h : HS w0 M As w) : HS w0 M (.byz none 0 [] :: As) w:=
 ⟨h.os,h.tape,h.output,h.size,h.old,fun A hA=>by
  rcases List.mem_cons.1 hA with rfl | hA
  ·exact .inl ⟨rfl,rfl,rfl⟩
  ·exact h.ok A hA,fun A hA b hb=>by
  rcases List.mem_cons.1 hA with rfl | hA
  ·simp [HA.fp_byz,Value.ownBlock] at hb
  ·exact h.lt A hA b hb,.cons (fun B _ b hb=>by simp [HA.fp_byz,Value.ownBlock] at hb) h.sep⟩
theorem HS.byz_blk {g cap : Nat} {l : List UInt8} {cs : List Value} (hp : QP As (.blk g u8T cap cs) As') (h : HS w0 M As w) (hl : l.length ≤ cap) (hc : cap ≤ maxLen) (hcs : cs = QeU cap l) : HS w0 M (.byz (some ⟨g,0,none⟩) cap l :: As') w:=by
 subst hcs;exact (h.pick hp).turn (fun b hb=>by simpa [HA.fp_byz,HA.fp_blk,Value.ownBlock] using hb) fun hb=>.inr ⟨g,rfl,hl,hc,hb⟩
theorem HS.blk_byz {a : Option Addr} {cap : Nat} {l : List UInt8} (hp : QP As (.byz a cap l) As') (h : HS w0 M As w) (h0 : 0 < cap) : ∃ g,a = some ⟨g,0,none⟩ ∧ l.length ≤ cap ∧ cap ≤ maxLen ∧ HS w0 M (.blk g u8T cap (QeU cap l) :: As') w:=by
 have h1:=h.pick hp;rcases h1.head with ⟨_,h2,_⟩ | ⟨g,rfl,h2,h3,hb⟩
 ·omega
 ·exact ⟨g,rfl,h2,h3,h1.turn (fun b hb=>by simpa [HA.fp_byz,HA.fp_blk,Value.ownBlock] using hb) fun _=>hb⟩
theorem HS.byz_own {a : Option Addr} {cap : Nat} {l : List UInt8} (hp : QP As (.byz a cap l) As') (h : HS w0 M As w) : HS w0 M (.own (.slice a l.length cap) u8T 1 l.length (l.map bv) :: As') w:=by
 have h1:=h.pick hp;refine h1.turn (fun b hb=>hb) fun ho=>⟨by simp,?_⟩;rcases ho with ⟨rfl,rfl,rfl⟩ | ⟨g,rfl,h2,h3,hb⟩
 ·exact .inl ⟨rfl,rfl⟩
 ·refine .inr ⟨g,cap,rfl,h2,h3,?_⟩;rw [Nat.mul_one];exact hb.less
theorem HS.vl_byz {a : Option Addr} {cap : Nat} {l : List UInt8} (h : HS w0 M As w) (hp : QP As (.byz a cap l) As') : Vl w a (l.map bv):=(h.byz_own hp).vl_own .here
end
theorem QeD (A : List Value) : ∀ (vs B : List Value),vs.length ≤ B.length → Qh (A ++ B) A.length vs = A ++ (vs ++ B.drop vs.length)
 | [],B,_=>by simp [Qh]
 | v :: vs,[],h=>by simp at h
 | v :: vs,b :: B,h=>by
  rw [Qh,List.set_append_right _ _ (Nat.le_refl _),Nat.sub_self,List.set_cons_zero,show A ++ v :: B = (A ++ [v]) ++ B by simp,show A.length + 1 = (A ++ [v]).length by simp,QeD (A ++ [v]) vs B (by simpa using h)];simp
theorem Qse {cap : Nat} {l m : List UInt8} (h : (l ++ m).length ≤ cap) : Qh (QeU cap l) l.length (m.map bv) = QeU cap (l ++ m):=by
 rw [List.length_append] at h;unfold QeU;have e:=QeD (l.map bv) (m.map bv) (List.replicate (cap - l.length) (bv 0)) (by simp;omega);rw [List.length_map] at e;rw [e,List.map_append,List.append_assoc];congr 2;simp only [List.length_map,List.drop_replicate,List.length_append];congr 1;omega
theorem Qj1 (n : Nat) : Builtin.zeroCells #[Value.int .u8 0] n = (List.replicate n (bv 0)).toArray:=by
 rw [ZT,show (#[Value.int .u8 0]).toList = [bv 0] from rfl,QbR];simp
theorem Ql4 (l : List UInt8) : ∀ u ∈ l.map bv,u.oneCell' = true:=fun u hu=>by
 obtain ⟨b,_,rfl⟩:=List.mem_map.1 hu;rfl
theorem Qf3 {P : Program} {t xt ty by' : Nat} {a : Option Addr} {cap : Nat} {x : Value} {l m : List UInt8} {w w0 : World} {M : List Nat} {As As' : List HA} (ht : tsl P t = some (u8T,1,by')) (hxt : P.underlying xt = some .string ∨ ∃ e',P.underlying xt = some (.slice e')) (hz : QO P u8T = some [.int .u8 0])
  (hw : HS w0 M As w) (hp : QP As (.byz a cap l) As') (hlen : (Builtin.lenOf x).run P w = .ok m.length w) (hfc : (Builtin.firstCells 1 m.length x).run P w = .ok (m.map bv).toArray w) (hfc' : (Builtin.firstCells 1 m.length x).run P w.drew = .ok (m.map bv).toArray w.drew)
  (hroom : (l.length + m.length) * by' ≤ 140737488355328) (hmax : l.length + m.length ≤ maxLen) :
  ∃ a' cap' w',(Builtin.append_ #[t,xt] ty #[.slice a l.length cap,x]).run P w = .ok (.slice a' (l ++ m).length cap') w' ∧ Qb6 a cap (a',cap') (l ++ m).length ∧ HS w0 M (.byz a' cap' (l ++ m) :: As') w':=by
 obtain ⟨hu,inf,hi,hs1,hs2⟩:=Q8 ht;obtain ⟨inf',zv,h4,h5,h6⟩:=Yv hz;rw [hi] at h4;injection h4 with h4
 subst h4;subst hs2;have hzv : zv.cells = #[Value.int .u8 0]:=Array.ext' (by rw [h6]);have hpk:=hw.pick hp;have hlm : (l ++ m).length = l.length + m.length:=List.length_append;have hmx : ((l.length + m.length : Nat) : Int) ≤ 9223372036854775807:=by simp only [maxLen] at hmax;omega
 rw [← hs1] at hfc hfc'
 have grow : cap < l.length + m.length → (Builtin.firstCells inf.size l.length (.slice a l.length cap)).run P w.drew = .ok (l.map bv).toArray w.drew →
   ∃ a' cap' w',(Builtin.append_ #[t,xt] ty #[.slice a l.length cap,x]).run P w = .ok (.slice a' (l ++ m).length cap') w' ∧ Qb6 a cap (a',cap') (l ++ m).length ∧ HS w0 M (.byz a' cap' (l ++ m) :: As') w':=by
  intro hcap hold;have hfit:=growslice_fits hcap hroom;have hge:=grownCap_ge w (l.length + m.length) cap u8T;have hle:=grownCap_le_maxLen w (l.length + m.length) cap u8T hmax;refine ⟨some ⟨w.heap.size,0,none⟩,grownCap w (l.length + m.length) cap u8T,w.drew.alloc (.cells ((l.map bv).toArray ++ (m.map bv).toArray ++ Builtin.zeroCells zv.cells (grownCap w (l.length + m.length) cap u8T - (l.length + m.length))) u8T),?_,fun h=>by omega,?_⟩
  ·rw [hlm];exact Qi4 hu hxt hi h5 hlen hfc' hold hcap hmx hfit
  ·generalize grownCap w (l.length + m.length) cap u8T = N at *;refine ((hw.drew.pick hp).tail).alloc _ _ rfl (.inr ⟨_,rfl,by omega,hle,_,_,heap_alloc_new _ _,?_,?_,fun i hi=>?_,Nat.le_refl _,fun _ _ h=>absurd h (Nat.not_lt_zero _)⟩)
   ·rw [hzv,Qj1];simp only [Array.size_append,List.size_toArray,List.length_map,List.length_replicate];omega
   ·rw [QjZ (by omega)];exact Nat.le_refl _
   ·rw [hzv,Qj1]
    have : QeU N (l ++ m) = l.map bv ++ m.map bv ++ List.replicate (N - (l.length + m.length)) (bv 0):=by
     unfold QeU;rw [List.map_append,hlm]
    rw [this,← Array.getElem?_toList];simp only [Array.toList_append,List.append_assoc]
 rcases hpk.head with ⟨rfl,rfl,rfl⟩ | ⟨g,rfl,h2,h3,hb⟩
 ·rcases Nat.eq_zero_or_pos m.length with hm | hm
  ·have hm0 : m = []:=List.eq_nil_of_length_eq_zero hm;subst hm0;exact ⟨none,0,w,Qgk hu hxt hi hlen (by simpa using hfc),fun _=>⟨rfl,rfl⟩,hpk⟩
  ·exact grow (by simp only [List.length_nil];omega) (by simp [Builtin.firstCells])
 ·by_cases hr : l.length + m.length ≤ cap
  ·obtain ⟨w',hst,hb',r1,r2,r3,r4,r5⟩:=XC (P:=P) (b:=g) (i:=l.length) (m.map bv) 0 (QeU cap l) w hb (by rw [QjZ h2,List.length_map];omega) (Ql4 m);refine ⟨some ⟨g,0,none⟩,cap,w',?_,fun _=>⟨rfl,rfl⟩,HS.swap hpk (B:=.byz (some ⟨g,0,none⟩) cap (l ++ m)) (fun _ h=>h) r1 r2 r3 r4 (fun k hk=>r5 k (by simpa [HA.fp_byz,Value.ownBlock] using hk)) (.inr ⟨g,rfl,by omega,h3,?_⟩)⟩
   ·rw [hlm];exact Qf4 hu hxt hi hlen hfc (by rw [hs1,Nat.mul_one,XE,Nat.zero_add];exact hst) hr
   ·rw [Nat.add_zero,Qse (by omega)] at hb';exact hb'
  ·refine grow (by omega) ?_;rw [hs1]
   exact XO (w:=w.drew) (by simp) fun _=>⟨g,0,rfl,fun j u hu=>by
    have hc:=hb.less.cell hu
    simpa using hc⟩
section
variable {P : Program} {o : Oper} {L : Qe} {w0 : World} {M : List Nat} {As As' : List HA}
theorem ZQ {t xt e' by' c cap : Nat} {a b : Option Addr} {s x : Operand} {l : List UInt8} (m : List UInt8) (ho : o.op = .call { callee:=.builtin .append,args:=#[s,x],argTypes:=#[t,xt] }) (hs : ev L s = some (.slice a l.length cap)) (hx : ev L x = some (.slice b m.length c)) (ht : tsl P t = some (u8T,1,by')) (hxt : P.underlying xt = some (.slice e')) (hz : QO P u8T = some [.int .u8 0])
  (hp : QP As (.byz a cap l) As') (hsrc : ∀ w,HS w0 M As w → Src b (m.map bv) w) (hroom : (l.length + m.length) * by' ≤ 140737488355328) (hmax : l.length + m.length ≤ maxLen) :
  OpH P o L (HS w0 M As) (fun g : Option Addr × Nat=>.slice g.1 (l ++ m).length g.2) (fun g=>Qb6 a cap g (l ++ m).length) (fun g=>HS w0 M (.byz g.1 g.2 (l ++ m) :: As')):=by
 intro ρ w hρ hw;obtain ⟨a',cap',w',hr,hk,hw'⟩:=Qf3 (P:=P) (ty:=o.type) ht (.inr ⟨e',hxt⟩) hz hw hp (x:=.slice b m.length c) rfl (XO (by simp) (hsrc w hw)) (XO (w:=w.drew) (by simp) (hsrc w hw)) hroom hmax;simp only [execOp,ho,resolve,Sem.run_bind,Sem.run_pure,Result.andThen_ok,invoke,builtin,List.map_toArray,List.map_cons,List.map_nil,hρ _ _ hs,hρ _ _ hx,hr];exact ⟨(a',cap'),rfl,hk,hw'⟩
theorem QcS {t xt by' cap : Nat} {a : Option Addr} {s x : Operand} {l m : List UInt8} (ho : o.op = .call { callee:=.builtin .append,args:=#[s,x],argTypes:=#[t,xt] }) (hs : ev L s = some (.slice a l.length cap)) (hx : ev L x = some (.string (bs m))) (ht : tsl P t = some (u8T,1,by')) (hxt : P.underlying xt = some .string) (hz : QO P u8T = some [.int .u8 0])
  (hp : QP As (.byz a cap l) As') (hroom : (l.length + m.length) * by' ≤ 140737488355328) (hmax : l.length + m.length ≤ maxLen) :
  OpH P o L (HS w0 M As) (fun g : Option Addr × Nat=>.slice g.1 (l ++ m).length g.2) (fun g=>Qb6 a cap g (l ++ m).length) (fun g=>HS w0 M (.byz g.1 g.2 (l ++ m) :: As')):=by
 intro ρ w hρ hw
 have hfc : ∀ w,(Builtin.firstCells 1 m.length (.string (bs m))).run P w = .ok (m.map bv).toArray w:=fun w=>by
  have hx : (bs m).extract 0 m.length = bs m:=(Qhj _).trans (congrArg bs (by rw [Lib.extract_data];simp));simp only [Builtin.firstCells,hx,Sem.run_pure];congr 1;simp [bs,bv]
 obtain ⟨a',cap',w',hr,hk,hw'⟩:=Qf3 (P:=P) (ty:=o.type) ht (.inl hxt) hz hw hp (x:=.string (bs m)) rfl (hfc _) (hfc _) hroom hmax;simp only [execOp,ho,resolve,Sem.run_bind,Sem.run_pure,Result.andThen_ok,invoke,builtin,List.map_toArray,List.map_cons,List.map_nil,hρ _ _ hs,hρ _ _ hx,hr];exact ⟨(a',cap'),rfl,hk,hw'⟩
end
end Gx
namespace Gx
open Go Go.RowKit
def ub1 (s : List UInt8) (i : Nat) : Nat:=(s.getD i 0).toNat
def ub2 (s : List UInt8) (i : Nat) : Nat:=ub1 s i + ub1 s (i + 1) * 256
def ub4 (s : List UInt8) (i : Nat) : Nat:=ub2 s i + ub2 s (i + 2) * 65536
theorem QqI (s : List UInt8) (i : Nat) : at1 s i = (ub1 s i : Int):=rfl
theorem QcQ (s : List UInt8) (i : Nat) : at2 s i = (ub2 s i : Int):=by simp only [at2,ub2,QqI];omega
theorem QfV (s : List UInt8) (i : Nat) : at4 s i = (ub4 s i : Int):=by simp only [at4,ub4,QcQ];omega
theorem Y7 (s : List UInt8) (i : Nat) : ub1 s i < 256:=UInt8.toNat_lt _
theorem Qd9 (s : List UInt8) (i : Nat) : ub2 s i < 65536:=by have:=Y7 s i;have:=Y7 s (i + 1);unfold ub2;omega
theorem QlT (s : List UInt8) (i : Nat) : ub4 s i < 4294967296:=by have:=Qd9 s i;have:=Qd9 s (i + 2);unfold ub4;omega
theorem Qld (s : List UInt8) (k i : Nat) : ub1 (s.drop k) i = ub1 s (k + i):=by
 simp only [ub1,List.getD_eq_getElem?_getD,List.getElem?_drop]
def QM (n : Nat) : Nat:=(n + 7) / 8 * 8
theorem YP (n : Nat) : n ≤ QM n ∧ QM n < n + 8:=by unfold QM;omega
def Ql (s : List UInt8) (i n : Nat) : List UInt8:=(s.drop i).take n
theorem Xc {s : List UInt8} {i n : Nat} (h : i + n ≤ s.length) : (Ql s i n).length = n:=by simp only [Ql,List.length_take,List.length_drop];omega
theorem Qep (s : List UInt8) (k i n : Nat) : Ql (s.drop k) i n = Ql s (k + i) n:=by simp only [Ql,List.drop_drop]
theorem YJ {s : List UInt8} {i n j : Nat} (h : j < n) : (Ql s i n)[j]? = s[i + j]?:=by simp only [Ql,List.getElem?_take,h,if_true,List.getElem?_drop]
theorem Xo (s : List UInt8) (i n m : Nat) : Ql s i (n + m) = Ql s i n ++ Ql s (i + n) m:=by
 simp only [Ql,List.take_add,List.drop_drop]
def zer (l : List UInt8) : Bool:=l.all fun b=>decide (b = 0)
theorem Qbc (l : List UInt8) : zer l = true ↔ l = List.replicate l.length 0:=by
 simp only [zer,List.all_eq_true,decide_eq_true_eq];constructor
 ·intro h;exact List.eq_replicate_iff.2 ⟨rfl,h⟩
 ·intro h b hb;exact List.eq_of_mem_replicate (h ▸ hb)
theorem Qfj (n : Nat) : zer (List.replicate n 0) = true:=by rw [Qbc];simp
def TEnt.sz (x : TEnt) : Nat:=8 + x.key.length + x.val.length
def X2 (x : TEnt) (c : Int) : List UInt8:=le2 (QM x.sz : Nat) ++ [by8 x.key.length,by8 x.val.length] ++ le4 c ++ x.key ++ x.val ++ List.replicate (QM x.sz - x.sz) 0
def Qap (c : Int) : List UInt8:=le2 8 ++ [0,0] ++ le4 c
theorem Qdq (x : TEnt) (c : Int) : (X2 x c).length = QM x.sz:=by
 have:=YP x.sz;have h : x.sz = 8 + x.key.length + x.val.length:=rfl;simp only [X2,List.length_append,List.length_replicate,le2,le4,List.length_cons,List.length_nil];omega
theorem QdF (c : Int) : (Qap c).length = 8:=rfl
theorem Qho (s : List UInt8) (i : Nat) : by8 (ub1 s i : Int) = s.getD i 0:=by
 have:=Y7 s i;unfold by8;rw [show ((ub1 s i : Int) % 256).toNat = (s.getD i 0).toNat by unfold ub1 at *;omega];simp
theorem QvQ (s : List UInt8) (i : Nat) : le2 (ub2 s i : Int) = [s.getD i 0,s.getD (i + 1) 0]:=by
 have h1:=Y7 s i;have h2:=Y7 s (i + 1);simp only [le2];rw [Qbv (m:=(ub2 s i : Int)) (n:=(ub1 s i : Int)) (by unfold ub2;omega),Qbv (m:=(ub2 s i : Int) / 256) (n:=(ub1 s (i + 1) : Int)) (by unfold ub2;omega),Qho,Qho]
theorem Qu4 (s : List UInt8) (i : Nat) : le4 (ub4 s i : Int) = [s.getD i 0,s.getD (i + 1) 0,s.getD (i + 2) 0,s.getD (i + 3) 0]:=by
 have h1:=Y7 s i;have h2:=Y7 s (i + 1);have h3:=Y7 s (i + 2);have h4:=Y7 s (i + 3);have e : ub4 s i = ub1 s i + ub1 s (i + 1) * 256 + (ub1 s (i + 2) + ub1 s (i + 3) * 256) * 65536:=rfl;simp only [le4];rw [Qbv (m:=(ub4 s i : Int)) (n:=(ub1 s i : Int)) (by omega),Qbv (m:=(ub4 s i : Int) / 256) (n:=(ub1 s (i + 1) : Int)) (by omega),Qbv (m:=(ub4 s i : Int) / 65536) (n:=(ub1 s (i + 2) : Int)) (by omega),Qbv (m:=(ub4 s i : Int) / 16777216) (n:=(ub1 s (i + 3) : Int)) (by omega)];simp only [Qho]
theorem YU {s : List UInt8} {i n : Nat} (h : i < s.length) : Ql s i (n + 1) = s.getD i 0 :: Ql s (i + 1) n:=by
 simp only [Ql];rw [List.drop_eq_getElem_cons h,List.take_succ_cons,List.getD_eq_getElem?_getD,List.getElem?_eq_getElem h];rfl
theorem Qct (s : List UInt8) (i : Nat) : Ql s i 0 = []:=by simp [Ql]
theorem QfO {s : List UInt8} {i : Nat} (h : i + 2 ≤ s.length) : Ql s i 2 = le2 (ub2 s i : Int):=by
 rw [QvQ,YU (by omega),YU (by omega),Qct]
theorem Qhr {s : List UInt8} {i : Nat} (h : i + 4 ≤ s.length) : Ql s i 4 = le4 (ub4 s i : Int):=by
 rw [Qu4,YU (by omega),YU (by omega),YU (by omega),YU (by omega),Qct]
theorem QcG {a b : Int} (h : by8 a = by8 b) : a % 256 = b % 256:=by
 have:=congrArg (fun x : UInt8=>(x.toNat : Int)) h
 simpa only [QS] using this
theorem Qsq {a b : Int} (h : le2 a = le2 b) : a % 65536 = b % 65536:=by
 simp only [le2,List.cons.injEq,and_true] at h;have h1:=QcG h.1;have h2:=QcG h.2;omega
theorem QrL {a b : Int} (h : le4 a = le4 b) : a % 4294967296 = b % 4294967296:=by
 simp only [le4,List.cons.injEq,and_true] at h;have h1:=QcG h.1;have h2:=QcG h.2.1;have h3:=QcG h.2.2.1;have h4:=QcG h.2.2.2;omega
def Q5 (s : List UInt8) (p : Nat) : TEnt:=⟨Ql s (p + 8) (ub1 s (p + 2)),Ql s (p + 8 + ub1 s (p + 2)) (ub1 s (p + 3))⟩
def Xb (s : List UInt8) (p : Nat) : Nat:=8 + ub1 s (p + 2) + ub1 s (p + 3)
def Ym (x : TEnt) (c : Nat) : Bool:=decide (1 ≤ x.key.length ∧ x.key.length ≤ 40 ∧ x.val.length ≤ 64 ∧ x.key.length + x.val.length ≤ 88 ∧ c ≤ 120)
def Za (s : List UInt8) (p : Nat) : Bool:=decide (p + 8 ≤ s.length ∧ ub2 s p = QM (Xb s p) ∧ p + ub2 s p ≤ s.length) && (zer (Ql s (p + Xb s p) (ub2 s p - Xb s p)) && Ym (Q5 s p) (ub4 s (p + 4)))
theorem Qdz {s : List UInt8} {p : Nat} (h : p + Xb s p ≤ s.length) : (Q5 s p).sz = Xb s p ∧ (Q5 s p).key.length = ub1 s (p + 2) ∧ (Q5 s p).val.length = ub1 s (p + 3):=by
 unfold Xb at h;have h1 : (Q5 s p).key.length = ub1 s (p + 2):=Xc (by omega);have h2 : (Q5 s p).val.length = ub1 s (p + 3):=Xc (by omega);exact ⟨by unfold TEnt.sz Xb;rw [h1,h2],h1,h2⟩
theorem Qsy {s : List UInt8} {p : Nat} (h : p + Xb s p ≤ s.length) : Ql s p (Xb s p) = le2 (ub2 s p : Int) ++ [by8 (ub1 s (p + 2) : Int),by8 (ub1 s (p + 3) : Int)] ++ le4 (ub4 s (p + 4) : Int) ++ (Q5 s p).key ++ (Q5 s p).val:=by
 have h9 : Xb s p = 2 + (1 + (1 + (4 + (ub1 s (p + 2) + ub1 s (p + 3))))):=by unfold Xb;omega
 unfold Xb at h;rw [h9,Xo,QfO (by omega),Xo,show (1 : Nat) = 0 + 1 from rfl,YU (by omega),Qct,Xo,show (1 : Nat) = 0 + 1 from rfl,YU (by omega),Qct,Xo,Qhr (by omega),Xo];simp only [Qho,Q5,List.append_assoc,List.cons_append,List.nil_append,Nat.zero_add,Nat.add_assoc,Nat.reduceAdd]
theorem Ql3 {s : List UInt8} {p : Nat} (hn : p + ub2 s p ≤ s.length) (ht : Xb s p ≤ ub2 s p) : (X2 (Q5 s p) (ub4 s (p + 4) : Int) = Ql s p (ub2 s p)) ↔ (ub2 s p = QM (Xb s p) ∧ zer (Ql s (p + Xb s p) (ub2 s p - Xb s p)) = true):=by
 obtain ⟨e1,e2,e3⟩:=Qdz (s:=s) (p:=p) (by omega);have hh:=Qsy (s:=s) (p:=p) (by omega);have hlt:=Qd9 s p;have hk:=Y7 s (p + 2);have hv:=Y7 s (p + 3);have hp:=YP (Xb s p);have hs : Xb s p = 8 + ub1 s (p + 2) + ub1 s (p + 3):=rfl;have hsplit : Ql s p (ub2 s p) = Ql s p (Xb s p) ++ Ql s (p + Xb s p) (ub2 s p - Xb s p):=by rw [← Xo];congr 1;omega
 have hlen : (Ql s (p + Xb s p) (ub2 s p - Xb s p)).length = ub2 s p - Xb s p:=Xc (by omega)
 have hE : X2 (Q5 s p) (ub4 s (p + 4) : Int) = le2 (QM (Xb s p) : Nat) ++ ([by8 (ub1 s (p + 2) : Int),by8 (ub1 s (p + 3) : Int)] ++ le4 (ub4 s (p + 4) : Int) ++ (Q5 s p).key ++ (Q5 s p).val ++ List.replicate (QM (Xb s p) - Xb s p) 0):=by
  simp only [X2,e1,e2,e3,List.append_assoc]
 have hS : Ql s p (ub2 s p) = le2 (ub2 s p : Nat) ++ ([by8 (ub1 s (p + 2) : Int),by8 (ub1 s (p + 3) : Int)] ++ le4 (ub4 s (p + 4) : Int) ++ (Q5 s p).key ++ (Q5 s p).val ++ Ql s (p + Xb s p) (ub2 s p - Xb s p)):=by
  rw [hsplit,hh];simp only [List.append_assoc]
 constructor
 ·intro h;rw [hE,hS] at h;obtain ⟨h1,h2⟩:=List.append_inj h rfl;have h3:=Qsq h1;have h4 : ub2 s p = QM (Xb s p):=by omega
  refine ⟨h4,?_⟩;have h5:=List.append_cancel_left h2;rw [← h5];exact Qfj _
 ·rintro ⟨h1,h2⟩;rw [hE,hS,← h1];rw [Qbc,hlen] at h2;rw [h2]
theorem Qmq {s : List UInt8} {p : Nat} (h8 : p + 8 ≤ s.length) (hn : p + ub2 s p ≤ s.length) (ht : Xb s p ≤ ub2 s p) : (Qap (ub4 s (p + 4) : Int) = Ql s p (ub2 s p)) ↔ (ub2 s p = 8 ∧ ub2 s (p + 2) = 0):=by
 have hs : Xb s p = 8 + ub1 s (p + 2) + ub1 s (p + 3):=rfl;have hd : ub2 s (p + 2) = ub1 s (p + 2) + ub1 s (p + 3) * 256:=rfl
 have h4 : Ql s p 8 = le2 (ub2 s p : Int) ++ (le2 (ub2 s (p + 2) : Int) ++ le4 (ub4 s (p + 4) : Int)):=by
  rw [show 8 = 2 + (2 + 4) from rfl,Xo,QfO (by omega),Xo,QfO (by omega),Qhr (by omega)]
 constructor
 ·intro h;have hl:=congrArg List.length h;rw [QdF,Xc hn] at hl;exact ⟨hl.symm,by omega⟩
 ·rintro ⟨h1,h2⟩;rw [h1,h4,h1,h2];rfl
structure RdS where
 es : List TEnt
 cs : List Int
 p : Nat
def rdE (s : List UInt8) (p0 : Nat) : Nat → Option RdS
 | 0=>some ⟨[],[],p0⟩
 | k + 1=>match rdE s p0 k with
  | none=>none
  | some r=>if Za s r.p then some ⟨r.es ++ [Q5 s r.p],r.cs ++ [(ub4 s (r.p + 4) : Int)],r.p + ub2 s r.p⟩ else none
def YN (s : List UInt8) (p : Nat) : Bool:=decide (p + 8 ≤ s.length ∧ ub2 s p = 8 ∧ ub2 s (p + 2) = 0 ∧ ub4 s (p + 4) ≤ 120)
def noz (l : List Int) : Bool:=l.all fun c=>decide (c ≠ 0)
def Qc0 (l : List Int) : Bool:=l.all fun c=>decide (c = 0)
def rdN (s : List UInt8) (p0 k : Nat) : Option (Nd × Nat):=match rdE s p0 k with
 | none=>none
 | some r=>if YN s r.p then (if noz (r.cs ++ [(ub4 s (r.p + 4) : Int)]) then some (⟨true,r.es,r.cs ++ [(ub4 s (r.p + 4) : Int)]⟩,r.p + 8) else if Qc0 (r.cs ++ [(ub4 s (r.p + 4) : Int)]) then some (⟨true,r.es,[]⟩,r.p + 8) else none) else none
theorem Qod {s : List UInt8} {p0 k : Nat} (h : rdE s p0 k = none) : ∀ j,k ≤ j → rdE s p0 j = none:=by
 intro j hj
 induction j with
 | zero=>
  obtain rfl : k = 0:=by omega
  exact h
 | succ j ih=>
  rcases Nat.lt_or_ge j k with h1 | h1
  ·obtain rfl : k = j + 1:=by omega
   exact h
  ·simp only [rdE,ih h1]
theorem Qvy {s : List UInt8} {p0 k j : Nat} {r : RdS} (h : rdE s p0 k = some r) (hs : Za s r.p = false) (hj : k < j) : rdE s p0 j = none:=
 Qod (k:=k + 1) (by simp only [rdE,h,hs];rfl) j hj
theorem QbY {s : List UInt8} {p0 k : Nat} {r : RdS} (h : rdE s p0 k = some r) (hs : Za s r.p = true) : rdE s p0 (k + 1) = some ⟨r.es ++ [Q5 s r.p],r.cs ++ [(ub4 s (r.p + 4) : Int)],r.p + ub2 s r.p⟩:=by
 simp only [rdE,h,hs,if_true]
theorem YT {s : List UInt8} {p : Nat} : Za s p = true ↔ (p + 8 ≤ s.length ∧ ub2 s p = QM (Xb s p) ∧ p + ub2 s p ≤ s.length) ∧ zer (Ql s (p + Xb s p) (ub2 s p - Xb s p)) = true ∧ Ym (Q5 s p) (ub4 s (p + 4)) = true:=by
 simp only [Za,Bool.and_eq_true,decide_eq_true_eq]
theorem Qbm {s : List UInt8} {p0 : Nat} (h0 : p0 ≤ s.length) : ∀ {k : Nat} {r : RdS},rdE s p0 k = some r → r.es.length = k ∧ r.cs.length = k ∧ p0 ≤ r.p ∧ r.p ≤ s.length ∧ r.p ≤ p0 + 96 * k ∧ (∀ x ∈ r.es,Ym x 0 = true) ∧ ∀ c ∈ r.cs,0 ≤ c ∧ c ≤ 120
 | 0,r,h=>by
  injection h with h
  subst h;exact ⟨rfl,rfl,Nat.le_refl _,h0,Nat.le_add_right _ _,by simp,by simp⟩
 | k + 1,r,h=>by
  cases hk : rdE s p0 k with
  | none=>simp only [rdE,hk] at h;cases h
  | some q=>
   obtain ⟨h1,h2,h3,h4,h5,h6,h7⟩:=Qbm h0 hk;cases hs : Za s q.p with
   | false=>simp only [rdE,hk,hs] at h;cases h
   | true=>
    rw [QbY hk hs] at h;injection h with h
    subst h;obtain ⟨⟨g1,g2,g3⟩,g4,g5⟩:=YT.1 hs;have hp:=YP (Xb s q.p);obtain ⟨e1,e2,e3⟩:=Qdz (s:=s) (p:=q.p) (by omega);simp only [Ym,decide_eq_true_eq] at g5;have hsz : Xb s q.p = 8 + ub1 s (q.p + 2) + ub1 s (q.p + 3):=rfl;have hp96 : QM (Xb s q.p) ≤ 96:=by unfold QM;omega
    refine ⟨by simp [h1],by simp [h2],by simp only [];omega,by simp only [];omega,by simp only [];omega,?_,?_⟩
    ·intro x hx;rcases List.mem_append.1 hx with hx | hx
     ·exact h6 x hx
     ·rcases List.mem_singleton.1 hx;simp only [Ym,decide_eq_true_eq];omega
    ·intro c hc;rcases List.mem_append.1 hc with hc | hc
     ·exact h7 c hc
     ·rcases List.mem_singleton.1 hc;omega
def QX (cs : List Int) (i : Nat) : Int:=if cs.length = 0 then 0 else cs.getD i 0
def QL (n : Nd) : Nat → List UInt8
 | 0=>[]
 | k + 1=>QL n k ++ X2 (nth n.es k) (QX n.cs k)
def Xj (n : Nd) : List UInt8:=QL n n.es.length ++ Qap (QX n.cs n.es.length)
theorem QhM {s : List UInt8} {p0 : Nat} (h0 : p0 ≤ s.length) {n : Nd} : ∀ {k : Nat} {r : RdS},rdE s p0 k = some r → k ≤ n.es.length → (∀ i,i < k → nth n.es i = nth r.es i ∧ QX n.cs i = r.cs.getD i 0) → QL n k = Ql s p0 (r.p - p0)
 | 0,r,h,_,_=>by
  injection h with h
  subst h;simp [QL,Ql]
 | k + 1,r,h,hk,hn=>by
  cases hq : rdE s p0 k with
  | none=>simp only [rdE,hq] at h;cases h
  | some q=>
   obtain ⟨h1,h2,h3,h4,_⟩:=Qbm h0 hq;cases hs : Za s q.p with
   | false=>simp only [rdE,hq,hs] at h;cases h
   | true=>
    rw [QbY hq hs] at h;injection h with h
    subst h;obtain ⟨⟨g1,g2,g3⟩,g4,g5⟩:=YT.1 hs;have hp:=YP (Xb s q.p)
    have ih:=QhM h0 (n:=n) hq (by omega) (fun i hi=>by
     obtain ⟨a1,a2⟩:=hn i (by omega);rw [a1,a2];constructor
     ·unfold nth;rw [List.getD_eq_getElem?_getD,List.getElem?_append_left (by omega),← List.getD_eq_getElem?_getD]
     ·rw [List.getD_eq_getElem?_getD,List.getElem?_append_left (by omega),← List.getD_eq_getElem?_getD])
    obtain ⟨a1,a2⟩:=hn k (by omega)
    have ub1' : nth (q.es ++ [Q5 s q.p]) k = Q5 s q.p:=by
     unfold nth;rw [List.getD_eq_getElem?_getD,List.getElem?_append_right (by omega),h1,Nat.sub_self];rfl
    have ub2' : (q.cs ++ [(ub4 s (q.p + 4) : Int)]).getD k 0 = (ub4 s (q.p + 4) : Int):=by
     rw [List.getD_eq_getElem?_getD,List.getElem?_append_right (by omega),h2,Nat.sub_self];rfl
    rw [QL,ih,a1,a2,ub1',ub2',(Ql3 g3 (by omega)).2 ⟨g2,g4⟩];simp only [];rw [show q.p + ub2 s q.p - p0 = (q.p - p0) + ub2 s q.p by omega,Xo,show p0 + (q.p - p0) = q.p by omega]
theorem Qrk {s : List UInt8} {p0 k : Nat} (h0 : p0 ≤ s.length) {n : Nd} {e : Nat} (h : rdN s p0 k = some (n,e)) : Xj n = Ql s p0 (e - p0) ∧ p0 + 8 ≤ e ∧ e ≤ s.length ∧ e ≤ p0 + 96 * k + 8 ∧ n.us = true ∧ n.es.length = k ∧ (n.cs.length = 0 ∨ n.cs.length = k + 1) ∧ (∀ x ∈ n.es,Ym x 0 = true) ∧ ∀ c ∈ n.cs,1 ≤ c ∧ c ≤ 120:=by
 unfold rdN at h;cases hq : rdE s p0 k with
 | none=>rw [hq] at h;cases h
 | some r=>
  rw [hq] at h;simp only [] at h;obtain ⟨h1,h2,h3,h4,h5,h6,h7⟩:=Qbm h0 hq;split at h
  ·rename_i he;simp only [YN,decide_eq_true_eq] at he;obtain ⟨g1,g2,g3,g4⟩:=he;have hb2 : ub2 s (r.p + 2) = ub1 s (r.p + 2) + ub1 s (r.p + 3) * 256:=rfl;have hsz : Xb s r.p = 8 + ub1 s (r.p + 2) + ub1 s (r.p + 3):=rfl;have hend:=(Qmq (s:=s) (p:=r.p) g1 (by omega) (by omega)).2 ⟨g2,g3⟩;rw [g2] at hend
   have hfin : Ql s p0 (r.p + 8 - p0) = Ql s p0 (r.p - p0) ++ Ql s r.p 8:=by
    rw [show r.p + 8 - p0 = (r.p - p0) + 8 by omega,Xo,show p0 + (r.p - p0) = r.p by omega]
   split at h
   ·rename_i hz;injection h with h
    injection h with e1 e2
    subst e1 e2
    have hkid : ∀ i,i ≤ k → QX (r.cs ++ [(ub4 s (r.p + 4) : Int)]) i = (r.cs ++ [(ub4 s (r.p + 4) : Int)]).getD i 0:=fun i _=>by
     unfold QX;rw [if_neg (by simp)]
    refine ⟨?_,by omega,by omega,by omega,rfl,h1,.inr (by simp [h2]),h6,?_⟩
    ·unfold Xj;simp only []
     rw [h1,QhM h0 (n:=⟨true,r.es,r.cs ++ [(ub4 s (r.p + 4) : Int)]⟩) hq (Nat.le_of_eq h1.symm) (fun i hi=>⟨rfl,by
      rw [hkid i (by omega),List.getD_eq_getElem?_getD,List.getElem?_append_left (by omega),← List.getD_eq_getElem?_getD]⟩),hkid k (Nat.le_refl _)]
     rw [List.getD_eq_getElem?_getD,List.getElem?_append_right (by omega),h2,Nat.sub_self,hfin,← hend];rfl
    ·intro c hc;simp only [noz,List.all_eq_true,decide_eq_true_eq] at hz;have hz':=hz c hc;rcases List.mem_append.1 hc with hc | hc
     ·have:=h7 c hc;omega
     ·rcases List.mem_singleton.1 hc;omega
   ·split at h
    ·rename_i hz;injection h with h
     injection h with e1 e2
     subst e1 e2;refine ⟨?_,by omega,by omega,by omega,rfl,h1,.inl rfl,h6,by simp⟩
     have hall : ∀ i,i ≤ k → (r.cs ++ [(ub4 s (r.p + 4) : Int)]).getD i 0 = 0:=fun i hi=>by
      simp only [Qc0,List.all_eq_true,decide_eq_true_eq] at hz;have hl : i < (r.cs ++ [(ub4 s (r.p + 4) : Int)]).length:=by simp;omega
      have:=hz _ (List.getElem_mem hl);rw [List.getD_eq_getElem?_getD,List.getElem?_eq_getElem hl];exact this
     have hlast:=hall k (Nat.le_refl _);rw [List.getD_eq_getElem?_getD,List.getElem?_append_right (by omega),h2,Nat.sub_self] at hlast;have hlast : (ub4 s (r.p + 4) : Int) = 0:=hlast;unfold Xj;simp only []
     rw [h1,QhM h0 (n:=⟨true,r.es,[]⟩) hq (Nat.le_of_eq h1.symm) (fun i hi=>⟨rfl,by
      have:=hall i (by omega);rw [List.getD_eq_getElem?_getD,List.getElem?_append_left (by omega),← List.getD_eq_getElem?_getD] at this;rw [this];rfl⟩),hfin,← hend,hlast]
     rfl
    ·cases h
  ·cases h
theorem Qcg {s : List UInt8} {i n j m : Nat} (h : j + m ≤ n) : Ql (Ql s i n) j m = Ql s (i + j) m:=by
 simp only [Ql,List.drop_take,List.take_take,List.drop_drop];rw [Nat.min_eq_left (by omega)]
theorem Qk3 {s : List UInt8} {p n j : Nat} (h : j < n) : ub1 (Ql s p n) j = ub1 s (p + j):=by
 simp only [ub1,List.getD_eq_getElem?_getD,YJ h]
theorem Qdd {s : List UInt8} {p n j : Nat} (h : j + 1 < n) : ub2 (Ql s p n) j = ub2 s (p + j):=by
 simp only [ub2,Qk3 (show j < n by omega),Qk3 h,Nat.add_assoc]
theorem Qkx {s : List UInt8} {p n j : Nat} (h : j + 3 < n) : ub4 (Ql s p n) j = ub4 s (p + j):=by
 simp only [ub4,Qdd (show j + 1 < n by omega),Qdd (show j + 2 + 1 < n by omega),Nat.add_assoc]
theorem Qv1 (x : TEnt) (c : Int) (hs : x.sz < 60000) (hk : x.key.length < 256) (hv : x.val.length < 256) (hc : 0 ≤ c ∧ c < 4294967296) : ub2 (X2 x c) 0 = QM x.sz ∧ ub1 (X2 x c) 2 = x.key.length ∧ ub1 (X2 x c) 3 = x.val.length ∧ (ub4 (X2 x c) 4 : Int) = c:=by
 have hp:=YP x.sz;have e0 : ub1 (X2 x c) 0 = (by8 (QM x.sz : Nat)).toNat:=rfl;have e1 : ub1 (X2 x c) 1 = (by8 ((QM x.sz : Nat) / 256 : Int)).toNat:=rfl;have e2 : ub1 (X2 x c) 2 = (by8 (x.key.length : Int)).toNat:=rfl;have e3 : ub1 (X2 x c) 3 = (by8 (x.val.length : Int)).toNat:=rfl;have e4 : ub1 (X2 x c) 4 = (by8 c).toNat:=rfl;have e5 : ub1 (X2 x c) 5 = (by8 (c / 256)).toNat:=rfl;have e6 : ub1 (X2 x c) 6 = (by8 (c / 65536)).toNat:=rfl;have e7 : ub1 (X2 x c) 7 = (by8 (c / 16777216)).toNat:=rfl;have f0:=QS (QM x.sz : Nat);have f1:=QS ((QM x.sz : Nat) / 256 : Int);have f2:=QS (x.key.length : Int);have f3:=QS (x.val.length : Int);have f4:=QS c;have f5:=QS (c / 256);have f6:=QS (c / 65536);have f7:=QS (c / 16777216);refine ⟨?_,?_,?_,?_⟩
 ·unfold ub2;rw [e0,e1];omega
 ·rw [e2];omega
 ·rw [e3];omega
 ·unfold ub4 ub2;simp only [Nat.reduceAdd];rw [e4,e5,e6,e7];omega
theorem Qmt {A B C : List UInt8} {i n : Nat} (hi : A.length = i) (hn : B.length = n) : Ql (A ++ (B ++ C)) i n = B:=by
 unfold Ql;subst hi hn;rw [List.drop_left,List.take_left]
theorem QsE (x : TEnt) (c : Int) : Ql (X2 x c) 8 x.key.length = x.key:=by
 have : X2 x c = (le2 (QM x.sz : Nat) ++ [by8 x.key.length,by8 x.val.length] ++ le4 c) ++ (x.key ++ (x.val ++ List.replicate (QM x.sz - x.sz) 0)):=by simp only [X2,List.append_assoc]
 rw [this];exact Qmt rfl rfl
theorem QsH (x : TEnt) (c : Int) : Ql (X2 x c) (8 + x.key.length) x.val.length = x.val:=by
 have : X2 x c = (le2 (QM x.sz : Nat) ++ [by8 x.key.length,by8 x.val.length] ++ le4 c ++ x.key) ++ (x.val ++ List.replicate (QM x.sz - x.sz) 0):=by simp only [X2,List.append_assoc]
 rw [this]
 have hl : (le2 (QM x.sz : Nat) ++ [by8 x.key.length,by8 x.val.length] ++ le4 c ++ x.key).length = 8 + x.key.length:=by
  simp only [List.length_append,le2,le4,List.length_cons,List.length_nil]
 unfold Ql;rw [← hl,List.drop_left,List.take_left]
theorem QpB (x : TEnt) (c : Int) : Ql (X2 x c) x.sz (QM x.sz - x.sz) = List.replicate (QM x.sz - x.sz) 0:=by
 have : X2 x c = (le2 (QM x.sz : Nat) ++ [by8 x.key.length,by8 x.val.length] ++ le4 c ++ x.key ++ x.val) ++ (List.replicate (QM x.sz - x.sz) 0 ++ []):=by simp only [X2,List.append_nil]
 rw [this];refine Qmt ?_ (by simp);unfold TEnt.sz;simp only [List.length_append,le2,le4,List.length_cons,List.length_nil]
theorem Qud {s : List UInt8} {p : Nat} {x : TEnt} {c : Int} (hw : Ql s p (QM x.sz) = X2 x c) (hl : p + QM x.sz ≤ s.length) (hk : Ym x c.toNat = true) (hc : 0 ≤ c) : Za s p = true ∧ Q5 s p = x ∧ (ub4 s (p + 4) : Int) = c ∧ ub2 s p = QM x.sz:=by
 have hkk:=hk;simp only [Ym,decide_eq_true_eq] at hk;have hsz : x.sz = 8 + x.key.length + x.val.length:=rfl;have hp:=YP x.sz;obtain ⟨a0,a2,a3,a4⟩:=Qv1 x c (by omega) (by omega) (by omega) (by omega);rw [← hw,Qdd (by omega),Nat.add_zero] at a0;rw [← hw,Qk3 (by omega)] at a2 a3;rw [← hw,Qkx (by omega)] at a4
 have e : Q5 s p = x:=by
  have k1:=QsE x c;have k2:=QsH x c;rw [← hw,Qcg (by omega)] at k1 k2;unfold Q5;rw [a2,a3,k1,show p + 8 + x.key.length = p + (8 + x.key.length) by omega,k2]
 have hz : Xb s p = x.sz:=by unfold Xb;rw [a2,a3];rfl
 refine ⟨YT.2 ⟨⟨by omega,by rw [a0,hz],by omega⟩,?_,?_⟩,e,a4,a0⟩
 ·have k3:=QpB x c;rw [← hw,Qcg (by omega)] at k3;rw [hz,a0,k3];exact Qfj _
 ·rw [e,show ub4 s (p + 4) = c.toNat by omega];exact hkk
theorem Qun {s : List UInt8} {p : Nat} {c : Int} (hw : Ql s p 8 = Qap c) (hl : p + 8 ≤ s.length) (hc : 0 ≤ c ∧ c ≤ 120) : YN s p = true ∧ (ub4 s (p + 4) : Int) = c:=by
 have f4:=QS c;have f5:=QS (c / 256);have f6:=QS (c / 65536);have f7:=QS (c / 16777216)
 have e0 : ub2 (Qap c) 0 = 8:=by
  show (by8 8).toNat + (by8 (8 / 256)).toNat * 256 = 8;decide
 have e2 : ub2 (Qap c) 2 = 0:=by
  show (0 : UInt8).toNat + (0 : UInt8).toNat * 256 = 0;decide
 have e4 : ub4 (Qap c) 4 = (by8 c).toNat + (by8 (c / 256)).toNat * 256 + ((by8 (c / 65536)).toNat + (by8 (c / 16777216)).toNat * 256) * 65536:=by
  have g0 : ub1 (Qap c) 4 = (by8 c).toNat:=rfl;have g1 : ub1 (Qap c) 5 = (by8 (c / 256)).toNat:=rfl;have g2 : ub1 (Qap c) 6 = (by8 (c / 65536)).toNat:=rfl;have g3 : ub1 (Qap c) 7 = (by8 (c / 16777216)).toNat:=rfl;unfold ub4 ub2;simp only [Nat.reduceAdd];rw [g0,g1,g2,g3]
 rw [← hw,Qdd (by omega),Nat.add_zero] at e0;rw [← hw,Qdd (by omega)] at e2;rw [← hw,Qkx (by omega)] at e4;have h4 : (ub4 s (p + 4) : Int) = c:=by omega
 refine ⟨?_,h4⟩;simp only [YN,decide_eq_true_eq];omega
structure NdW (n : Nd) : Prop where
 us : n.us = true
 es : ∀ x ∈ n.es,Ym x 0 = true
 cl : n.cs.length = 0 ∨ n.cs.length = n.es.length + 1
 cs : ∀ c ∈ n.cs,1 ≤ c ∧ c ≤ 120
theorem NdW.kid {n : Nd} (h : NdW n) {i : Nat} (hi : i ≤ n.es.length) : 0 ≤ QX n.cs i ∧ QX n.cs i ≤ 120 ∧ (n.cs.length = 0 → QX n.cs i = 0) ∧ (n.cs.length ≠ 0 → QX n.cs i = n.cs.getD i 0 ∧ QX n.cs i ≠ 0):=by
 unfold QX
 by_cases h0 : n.cs.length = 0
 ·rw [if_pos h0];exact ⟨by omega,by omega,fun _=>rfl,fun h=>absurd h0 h⟩
 ·rw [if_neg h0];have hl : i < n.cs.length:=by have:=h.cl;omega
  have h1:=h.cs _ (List.getElem_mem hl);have h2 : n.cs.getD i 0 = n.cs[i]:=by rw [List.getD_eq_getElem?_getD,List.getElem?_eq_getElem hl];rfl
  rw [h2];exact ⟨by omega,by omega,fun h=>absurd h h0,fun _=>⟨rfl,by omega⟩⟩
theorem Qfu (n : Nd) : ∀ k j,(QL n k).length ≤ (QL n (k + j)).length
 | k,0=>Nat.le_refl _
 | k,j + 1=>by
  have:=Qfu n k j;show _ ≤ (QL n (k + j) ++ _).length;rw [List.length_append];omega
theorem QgW (n : Nd) : ∀ k j,Ql (QL n (k + j)) 0 (QL n k).length = QL n k
 | k,0=>by simp [Ql]
 | k,j + 1=>by
  have ih:=QgW n k j;have hl:=Qfu n k j;show Ql (QL n (k + j) ++ _) 0 _ = _;unfold Ql at ih ⊢;rw [List.drop_zero] at ih ⊢;rw [List.take_append_of_le_length hl];exact ih
theorem QiQ {s : List UInt8} {p0 : Nat} {n : Nd} (hn : NdW n) (hl : p0 + (QL n n.es.length).length ≤ s.length) (hw : Ql s p0 (QL n n.es.length).length = QL n n.es.length) : ∀ k,k ≤ n.es.length → rdE s p0 k = some ⟨n.es.take k,(List.range k).map (QX n.cs),p0 + (QL n k).length⟩
 | 0,_=>by simp [rdE,QL]
 | k + 1,hk=>by
  have ih:=QiQ hn hl hw k (by omega);have hx:=hn.es _ (List.getElem_mem (show k < n.es.length by omega));have hxe : nth n.es k = n.es[k]:=Zk (by rw [List.getElem?_eq_getElem (show k < n.es.length by omega)]);obtain ⟨c1,c2,_,_⟩:=hn.kid (i:=k) (by omega);have hle:=Qfu n (k + 1) (n.es.length - (k + 1));rw [show k + 1 + (n.es.length - (k + 1)) = n.es.length by omega] at hle
  have hlk : (QL n (k + 1)).length = (QL n k).length + QM (nth n.es k).sz:=by
   show (QL n k ++ _).length = _;rw [List.length_append,Qdq]
  have hpre:=QgW n (k + 1) (n.es.length - (k + 1));rw [show k + 1 + (n.es.length - (k + 1)) = n.es.length by omega,← hw,Qcg (by omega),Nat.add_zero] at hpre
  have hwin : Ql s (p0 + (QL n k).length) (QM (nth n.es k).sz) = X2 (nth n.es k) (QX n.cs k):=by
   rw [hlk,Xo] at hpre;have h2 : Ql s p0 (QL n k).length ++ Ql s (p0 + (QL n k).length) (QM (nth n.es k).sz) = QL n k ++ X2 (nth n.es k) (QX n.cs k):=hpre;exact (List.append_inj h2 (Xc (by omega))).2
  have hK : Ym (nth n.es k) (QX n.cs k).toNat = true:=by
   rw [hxe];simp only [Ym,decide_eq_true_eq] at hx ⊢;omega
  obtain ⟨g1,g2,g3,g4⟩:=Qud hwin (by omega) hK c1;rw [QbY ih g1];congr 1
  have t1 : n.es.take (k + 1) = n.es.take k ++ [nth n.es k]:=by
   rw [List.take_add_one,List.getElem?_eq_getElem (show k < n.es.length by omega),hxe];rfl
  simp only [g2,g3,g4];rw [t1,List.range_succ,List.map_append,hlk,Nat.add_assoc];rfl
theorem QpK {s : List UInt8} {p0 : Nat} {n : Nd} (hn : NdW n) (hl : p0 + (Xj n).length ≤ s.length) (hw : Ql s p0 (Xj n).length = Xj n) : rdN s p0 n.es.length = some (n,p0 + (Xj n).length):=by
 have hcl : (Xj n).length = (QL n n.es.length).length + 8:=by unfold Xj;rw [List.length_append,QdF]
 have hw2:=hw;rw [hcl,Xo] at hw2;unfold Xj at hw2;obtain ⟨w1,w2⟩:=List.append_inj hw2 (Xc (by omega));have hE:=QiQ hn (by omega) w1 n.es.length (Nat.le_refl _);obtain ⟨c1,c2,c3,c4⟩:=hn.kid (Nat.le_refl n.es.length);obtain ⟨g1,g2⟩:=Qun w2 (by omega) ⟨c1,c2⟩;have hch : (List.range n.es.length).map (QX n.cs) ++ [QX n.cs n.es.length] = (List.range (n.es.length + 1)).map (QX n.cs):=by rw [List.range_succ,List.map_append];rfl
 unfold rdN;rw [hE];simp only [g1,if_true,g2,hch,List.take_length,hcl]
 by_cases h0 : n.cs.length = 0
 ·have hz : ∀ i,i ≤ n.es.length → QX n.cs i = 0:=fun i hi=>(hn.kid hi).2.2.1 h0
  have hnz : noz ((List.range (n.es.length + 1)).map (QX n.cs)) = false:=by
   cases hb : noz ((List.range (n.es.length + 1)).map (QX n.cs)) with
   | false=>rfl
   | true=>
    simp only [noz,List.all_eq_true,decide_eq_true_eq,List.mem_map,List.mem_range] at hb;exact absurd (hz 0 (by omega)) (hb _ ⟨0,by omega,rfl⟩)
  have haz : Qc0 ((List.range (n.es.length + 1)).map (QX n.cs)) = true:=by
   simp only [Qc0,List.all_eq_true,decide_eq_true_eq,List.mem_map,List.mem_range];rintro c ⟨i,hi,rfl⟩;exact hz i (by omega)
  rw [hnz,haz];simp only [Bool.false_eq_true,if_false,if_true,Option.some.injEq,Prod.mk.injEq];refine ⟨?_,by omega⟩;obtain ⟨us,es,cs⟩:=n;have hcs : cs = []:=List.eq_nil_of_length_eq_zero h0;have hu:=hn.us;simp only at hu;subst hcs hu;rfl
 ·have hnz : noz ((List.range (n.es.length + 1)).map (QX n.cs)) = true:=by
   simp only [noz,List.all_eq_true,decide_eq_true_eq,List.mem_map,List.mem_range];rintro c ⟨i,hi,rfl⟩;exact ((hn.kid (i:=i) (by omega)).2.2.2 h0).2
  rw [hnz];simp only [if_true,Option.some.injEq,Prod.mk.injEq];refine ⟨?_,by omega⟩;have hlc : n.cs.length = n.es.length + 1:=by have:=hn.cl;omega
  have hcs : (List.range (n.es.length + 1)).map (QX n.cs) = n.cs:=by
   apply List.ext_getElem?;intro i;rcases Nat.lt_or_ge i (n.es.length + 1) with hi | hi
   ·rw [List.getElem?_map,List.getElem?_range hi];simp only [Option.map_some];rw [((hn.kid (i:=i) (by omega)).2.2.2 h0).1,List.getD_eq_getElem?_getD,List.getElem?_eq_getElem (show i < n.cs.length by omega)];rfl
   ·rw [List.getElem?_eq_none (by simp;omega),List.getElem?_eq_none (by omega)]
  rw [hcs];have hu:=hn.us;obtain ⟨us,es,cs⟩:=n;simp only at hu;subst hu;rfl
def QJ (s : List UInt8) (at' : Nat) (l : List UInt8) : List UInt8:=s.take at' ++ l ++ s.drop (at' + l.length)
theorem Xw {s l : List UInt8} {a : Nat} (h : a + l.length ≤ s.length) : (QJ s a l).length = s.length:=by
 simp only [QJ,List.length_append,List.length_take,List.length_drop];omega
theorem X9 {s l : List UInt8} {a : Nat} (h : a + l.length ≤ s.length) (j : Nat) : (QJ s a l)[j]? = if j < a then s[j]? else if j < a + l.length then l[j - a]? else s[j]?:=by
 have h1 : (s.take a).length = a:=by simp only [List.length_take];omega
 unfold QJ;rw [List.append_assoc];split
 ·rename_i hj;rw [List.getElem?_append_left (by omega),List.getElem?_take,if_pos hj]
 ·split
  ·rename_i hj hj2;rw [List.getElem?_append_right (by omega),h1,List.getElem?_append_left (by omega)]
  ·rename_i hj hj2;rw [List.getElem?_append_right (by omega),h1,List.getElem?_append_right (by omega),List.getElem?_drop];congr 1;omega
theorem Qbo {s l : List UInt8} {a i n : Nat} (h : a + l.length ≤ s.length) (hd : i + n ≤ a ∨ a + l.length ≤ i) : Ql (QJ s a l) i n = Ql s i n:=by
 apply List.ext_getElem?;intro j;rcases Nat.lt_or_ge j n with hj | hj
 ·rw [YJ hj,YJ hj,X9 h];split
  ·rfl
  ·rw [if_neg (by omega)]
 ·simp only [Ql,List.getElem?_take];rw [if_neg (by omega),if_neg (by omega)]
def tlA (i : Nat) : Nat:=64 * i + 62
def prI (s : List UInt8) (u : Int) : Nat → List UInt8
 | 0=>QJ s 40 (le2 u)
 | i + 1=>QJ (QJ (prI s u i) (42 + 2 * i) (Ql (prI s u i) (tlA i) 2)) (tlA i) (le2 u)
def QbB (s : List UInt8) (u : Int) : List UInt8:=prI s u 8
def opI (s : List UInt8) : Nat → List UInt8
 | 0=>s
 | i + 1=>QJ (opI s i) (tlA i) (Ql (opI s i) (42 + 2 * i) 2)
def QaQ (s : List UInt8) (i : Nat) : Bool:=decide (ub2 s 40 = 0 ∨ ub2 s (tlA i) ≠ ub2 s 40)
def XA (s : List UInt8) : Bool:=(List.range 8).any (QaQ s)
def QH (s : List UInt8) : List UInt8:=QJ (opI s 8) 40 (List.replicate 18 0)
theorem QdA {s : List UInt8} {u : Int} (h : s.length = 512) : ∀ i,i ≤ 8 → (prI s u i).length = 512
 | 0,_=>by
  show (QJ s 40 (le2 u)).length = _;rw [Xw (by simp only [le2,List.length_cons,List.length_nil];omega),h]
 | i + 1,hi=>by
  have ih:=QdA (u:=u) h i (by omega);have h2 : (Ql (prI s u i) (tlA i) 2).length = 2:=Xc (by unfold tlA;omega);show (QJ (QJ _ _ _) _ (le2 u)).length = _;rw [Xw,Xw,ih]
  ·rw [h2,ih];omega
  ·rw [Xw (by rw [h2,ih];omega),ih];simp only [le2,List.length_cons,List.length_nil,tlA];omega
theorem ZN {s : List UInt8} (h : s.length = 512) : ∀ i,i ≤ 8 → (opI s i).length = 512
 | 0,_=>h
 | i + 1,hi=>by
  have ih:=ZN h i (by omega);have h2 : (Ql (opI s i) (42 + 2 * i) 2).length = 2:=Xc (by omega);show (QJ _ _ _).length = _;rw [Xw (by rw [h2,ih];unfold tlA;omega),ih]
theorem Qlq {s : List UInt8} {u : Int} (h : s.length = 512) : ∀ i,i ≤ 8 → ∀ j,(prI s u i)[j]? = if j < 40 then s[j]? else if j < 42 then (le2 u)[j - 40]? else if j < 42 + 2 * i then s[tlA ((j - 42) / 2) + (j - 42) % 2]? else if j < 64 * i ∧ 62 ≤ j % 64 then (le2 u)[j % 64 - 62]? else s[j]?
 | 0,_,j=>by
  have hle : (le2 u).length = 2:=rfl;show (QJ s 40 (le2 u))[j]? = _;rw [X9 (by rw [hle];omega),hle]
  by_cases d1 : j < 40
  ·rw [if_pos d1,if_pos d1]
  ·rw [if_neg d1,if_neg d1]
   by_cases d2 : j < 42
   ·rw [if_pos (by omega),if_pos d2]
   ·rw [if_neg (by omega),if_neg d2,if_neg (by omega),if_neg (by omega)]
 | i + 1,hi,j=>by
  have hl:=QdA (u:=u) h i (by omega);have ih:=Qlq (u:=u) h i (by omega);have h2 : (Ql (prI s u i) (tlA i) 2).length = 2:=Xc (by unfold tlA;omega);have h3 : (QJ (prI s u i) (42 + 2 * i) (Ql (prI s u i) (tlA i) 2)).length = 512:=by rw [Xw (by rw [h2,hl];omega),hl]
  show (QJ (QJ _ _ _) _ (le2 u))[j]? = _;rw [X9 (by rw [h3];simp only [le2,List.length_cons,List.length_nil,tlA];omega),X9 (by rw [h2,hl];omega),h2];have hle : (le2 u).length = 2:=rfl;rw [hle]
  have e1 : ∀ k,(Ql (prI s u i) (tlA i) 2)[k]? = if k < 2 then s[tlA i + k]? else none:=fun k=>by
   by_cases hk : k < 2
   ·rw [if_pos hk,YJ hk,ih];unfold tlA;rw [if_neg (by omega)]
    by_cases hi0 : 64 * i + 62 + k < 42
    ·omega
    ·rw [if_neg hi0];rw [if_neg (by omega),if_neg (by omega)]
   ·rw [if_neg hk,List.getElem?_eq_none (by rw [h2];omega)]
  rw [e1,ih];unfold tlA
  repeat' split
  all_goals first | rfl | (exfalso;omega) | (congr 1;omega)
theorem QqB {s : List UInt8} {i j : Nat} (h : i = j) : s[i]? = s[j]?:=by rw [h]
theorem Qlo {s : List UInt8} (h : s.length = 512) : ∀ i,i ≤ 8 → ∀ j,(opI s i)[j]? = if j < 64 * i ∧ 62 ≤ j % 64 then s[42 + 2 * (j / 64) + (j % 64 - 62)]? else s[j]?
 | 0,_,j=>by
  rw [if_neg (by omega)];rfl
 | i + 1,hi,j=>by
  have hl:=ZN h i (by omega);have ih:=Qlo h i (by omega);have h2 : (Ql (opI s i) (42 + 2 * i) 2).length = 2:=Xc (by omega);show (QJ _ _ _)[j]? = _;rw [X9 (by rw [h2,hl];unfold tlA;omega),h2];unfold tlA
  by_cases c1 : 64 * i + 62 ≤ j ∧ j < 64 * i + 64
  ·rw [if_neg (by omega),if_pos (by omega),if_pos (by omega),YJ (by omega),ih,if_neg (by omega)];congr 1;omega
  ·have e : (if j < 64 * i + 62 then (opI s i)[j]? else if j < 64 * i + 62 + 2 then (Ql (opI s i) (42 + 2 * i) 2)[j - (64 * i + 62)]? else (opI s i)[j]?) = (opI s i)[j]?:=by
    split
    ·rfl
    ·rw [if_neg (by omega)]
   refine e.trans ?_;rw [ih]
   by_cases d : j < 64 * i ∧ 62 ≤ j % 64
   ·rw [if_pos d,if_pos (by omega)]
   ·rw [if_neg d,if_neg (by omega)]
theorem Zg {s : List UInt8} (h : s.length = 512) : (QH s).length = 512:=by
 unfold QH;rw [Xw (by rw [ZN h 8 (by omega)];simp),ZN h 8 (by omega)]
theorem QaG {s : List UInt8} (h : s.length = 512) (j : Nat) : (QH s)[j]? = if 40 ≤ j ∧ j < 58 then some 0 else if j < 512 ∧ 62 ≤ j % 64 then s[42 + 2 * (j / 64) + (j % 64 - 62)]? else s[j]?:=by
 unfold QH;rw [X9 (by rw [ZN h 8 (by omega)];simp),Qlo h 8 (by omega),List.length_replicate]
 by_cases c : 40 ≤ j ∧ j < 58
 ·rw [if_pos c,if_neg (by omega),if_pos (by omega),List.getElem?_replicate,if_pos (by omega)]
 ·rw [if_neg c];split
  ·rfl
  ·rw [if_neg (by omega)]
theorem Qef {s : List UInt8} {u : Int} (h : s.length = 512) : (QbB s u).length = 512:=QdA h 8 (by omega)
theorem Zj {s : List UInt8} {u : Int} (h : s.length = 512) (j : Nat) : (QbB s u)[j]? = if j < 40 then s[j]? else if j < 42 then (le2 u)[j - 40]? else if j < 58 then s[tlA ((j - 42) / 2) + (j - 42) % 2]? else if j < 512 ∧ 62 ≤ j % 64 then (le2 u)[j % 64 - 62]? else s[j]?:=Qlq h 8 (by omega) j
theorem Qpr {s t : List UInt8} {i j : Nat} (h : s[i]? = t[j]?) : ub1 s i = ub1 t j:=by simp only [ub1,List.getD_eq_getElem?_getD,h]
theorem Qo7 {s t : List UInt8} {i j : Nat} (h : s[i]? = t[j]?) (h2 : s[i + 1]? = t[j + 1]?) : ub2 s i = ub2 t j:=by simp only [ub2,Qpr h,Qpr h2]
theorem QnW {u : Int} (h : 0 ≤ u ∧ u < 65536) : (ub2 (le2 u) 0 : Int) = u:=by
 have e0 : ub1 (le2 u) 0 = (by8 u).toNat:=rfl;have e1 : ub1 (le2 u) 1 = (by8 (u / 256)).toNat:=rfl;have f0:=QS u;have f1:=QS (u / 256);unfold ub2;rw [e0,e1];omega
theorem Qlf {s : List UInt8} {u : Int} (h : s.length = 512) (hu : 0 ≤ u ∧ u < 65536) : (ub2 (QbB s u) 40 : Int) = u:=by
 rw [Qo7 (t:=le2 u) (j:=0) (by rw [Zj h,if_neg (by omega),if_pos (by omega)]) (by rw [Zj h,if_neg (by omega),if_pos (by omega)])];exact QnW hu
theorem Qm9 {s : List UInt8} {u : Int} (h : s.length = 512) (hu : 0 ≤ u ∧ u < 65536) {i : Nat} (hi : i < 8) : (ub2 (QbB s u) (tlA i) : Int) = u:=by
 rw [Qo7 (t:=le2 u) (j:=0) (by unfold tlA;rw [Zj h,if_neg (by omega),if_neg (by omega),if_neg (by omega),if_pos (by omega)];congr 1;omega) (by unfold tlA;rw [Zj h,if_neg (by omega),if_neg (by omega),if_neg (by omega),if_pos (by omega)];congr 1;omega)];exact QnW hu
theorem Qm1 {s : List UInt8} {u : Int} (h : s.length = 512) (hu : 1 ≤ u ∧ u < 65536) : XA (QbB s u) = false:=by
 cases hb : XA (QbB s u) with
 | false=>rfl
 | true=>
  simp only [XA,List.any_eq_true,List.mem_range,QaQ,decide_eq_true_eq] at hb;obtain ⟨i,hi,hh⟩:=hb;have h1:=Qlf h (u:=u) (by omega);have h2:=Qm9 h (u:=u) (by omega) hi;omega
theorem QnM {s : List UInt8} {i n : Nat} (h : zer (Ql s i n) = true) (hl : i + n ≤ s.length) {j : Nat} (h1 : i ≤ j) (h2 : j < i + n) : s[j]? = some 0:=by
 have h3 : s[j]? = (Ql s i n)[j - i]?:=by rw [YJ (by omega)];congr 1;omega
 rw [Qbc,Xc hl] at h;rw [h3,h,List.getElem?_replicate,if_pos (by omega)]
theorem Qg2 {s : List UInt8} {u : Int} (h : s.length = 512) (hz : zer (Ql s 40 18) = true) : QH (QbB s u) = s:=by
 have hl:=Qef (u:=u) h;apply List.ext_getElem?;intro j;rw [QaG hl]
 by_cases c : 40 ≤ j ∧ j < 58
 ·rw [if_pos c,QnM hz (by omega) c.1 (by omega)]
 ·rw [if_neg c]
  by_cases c2 : j < 512 ∧ 62 ≤ j % 64
  ·rw [if_pos c2,Zj h,if_neg (by omega),if_neg (by omega),if_pos (by omega)];exact QqB (by unfold tlA;omega)
  ·rw [if_neg c2,Zj h]
   by_cases d1 : j < 40
   ·rw [if_pos d1]
   ·rw [if_neg d1,if_neg (by omega),if_neg (by omega),if_neg (by omega)]
theorem Qjk {s : List UInt8} : XA s = false ↔ ub2 s 40 ≠ 0 ∧ ∀ i,i < 8 → ub2 s (tlA i) = ub2 s 40:=by
 constructor
 ·intro h
  have h2 : ∀ i,i < 8 → ¬ (ub2 s 40 = 0 ∨ ub2 s (tlA i) ≠ ub2 s 40):=by
   intro i hi hb;have : XA s = true:=List.any_eq_true.2 ⟨i,List.mem_range.2 hi,decide_eq_true hb⟩;rw [this] at h;cases h
  have:=h2 0 (by omega);exact ⟨by omega,fun i hi=>by have:=h2 i hi;omega⟩
 ·rintro ⟨h1,h2⟩;cases hb : XA s with
  | false=>rfl
  | true=>
   simp only [XA,List.any_eq_true,List.mem_range,QaQ,decide_eq_true_eq] at hb;obtain ⟨i,hi,hh⟩:=hb;have:=h2 i hi;omega
theorem Qjp {s : List UInt8} {i j : Nat} (h : ub2 s i = ub2 s j) : ub1 s i = ub1 s j ∧ ub1 s (i + 1) = ub1 s (j + 1):=by
 have h1:=Y7 s i;have h2:=Y7 s (i + 1);have h3:=Y7 s j;have h4:=Y7 s (j + 1);unfold ub2 at h;omega
theorem Qh9 {s t : List UInt8} {i j : Nat} (hi : i < s.length) (hj : j < t.length) (h : ub1 s i = ub1 t j) : s[i]? = t[j]?:=by
 simp only [ub1,List.getD_eq_getElem?_getD,List.getElem?_eq_getElem hi,List.getElem?_eq_getElem hj,Option.getD_some] at h;rw [List.getElem?_eq_getElem hi,List.getElem?_eq_getElem hj];exact congrArg _ (UInt8.toNat_inj.1 h)
theorem QlI {s : List UInt8} {i j : Nat} (hi : i + 1 < s.length) (hj : j < 2) : (le2 (ub2 s i : Int))[j]? = s[i + j]?:=by
 rw [← QfO (by omega),YJ hj]
theorem Qnj {s : List UInt8} (h : s.length = 512) (ht : XA s = false) : QbB (QH s) (ub2 s 40 : Int) = s:=by
 have hl:=Zg h;obtain ⟨h1,h2⟩:=Qjk.1 ht;apply List.ext_getElem?;intro j;rw [Zj hl]
 by_cases c1 : j < 40
 ·rw [if_pos c1,QaG h,if_neg (by omega),if_neg (by omega)]
 ·rw [if_neg c1]
  by_cases c2 : j < 42
  ·rw [if_pos c2,QlI (by omega) (by omega)];exact QqB (by omega)
  ·rw [if_neg c2]
   by_cases c3 : j < 58
   ·rw [if_pos c3];unfold tlA;rw [QaG h,if_neg (by omega),if_pos (by omega)];exact QqB (by omega)
   ·rw [if_neg c3]
    by_cases c4 : j < 512 ∧ 62 ≤ j % 64
    ·rw [if_pos c4,QlI (by omega) (by omega)];have h3:=Qjp (h2 (j / 64) (by omega));unfold tlA at h3
     by_cases c5 : j % 64 = 62
     ·rw [c5];exact Qh9 (by omega) (by omega) (by rw [show j = 64 * (j / 64) + 62 by omega];exact h3.1.symm)
     ·rw [show j % 64 - 62 = 1 by omega];exact Qh9 (by omega) (by omega) (by rw [show j = 64 * (j / 64) + 62 + 1 by omega];exact h3.2.symm)
    ·rw [if_neg c4,QaG h,if_neg (by omega),if_neg c4]
theorem QkR {s : List UInt8} (h : s.length = 512) : zer (Ql (QH s) 40 18) = true:=by
 have hl:=Zg h;rw [Qbc,Xc (by omega)];apply List.ext_getElem?;intro j;rcases Nat.lt_or_ge j 18 with hj | hj
 ·rw [YJ hj,QaG h,if_pos (by omega),List.getElem?_replicate,if_pos hj]
 ·rw [List.getElem?_eq_none (by rw [Xc (by omega)];omega),List.getElem?_eq_none (by simp;omega)]
def Qdp : List UInt8:=[73,78,68,88]
def hdB (num lsn : Int) (count : Nat) : List UInt8:=Qdp ++ List.replicate 4 0 ++ le4 lsn ++ le4 num ++ le2 count ++ List.replicate 46 0
def Zz (n : Nd) (num lsn : Int) : List UInt8:=hdB num lsn n.es.length ++ Xj n ++ List.replicate (448 - (Xj n).length) 0
def QaU (n : Nd) (num lsn usn : Int) : List UInt8:=QbB (Zz n num lsn) usn
theorem QaY (num lsn : Int) (c : Nat) : (hdB num lsn c).length = 64:=rfl
theorem Qb4 {n : Nd} {num lsn : Int} (h : (Xj n).length ≤ 448) : (Zz n num lsn).length = 512:=by
 unfold Zz;rw [List.length_append,List.length_append,QaY,List.length_replicate];omega
theorem Qqa {n : Nd} {num lsn : Int} : Ql (Zz n num lsn) 64 (Xj n).length = Xj n:=by
 unfold Zz Ql;rw [List.append_assoc,show (64 : Nat) = (hdB num lsn n.es.length).length from rfl,List.drop_left,List.take_left]
theorem Qlx {n : Nd} {num lsn : Int} : Ql (Zz n num lsn) 0 64 = hdB num lsn n.es.length:=by
 unfold Zz Ql;rw [List.append_assoc,List.drop_zero,show (64 : Nat) = (hdB num lsn n.es.length).length from rfl,List.take_left]
theorem Qqy {n : Nd} {num lsn : Int} : (Zz n num lsn).drop (64 + (Xj n).length) = List.replicate (448 - (Xj n).length) 0:=by
 unfold Zz;rw [show 64 + (Xj n).length = (hdB num lsn n.es.length ++ Xj n).length by rw [List.length_append];rfl,List.drop_left]
theorem Qcd {n : Nd} {num lsn : Int} : zer (Ql (Zz n num lsn) 40 18) = true:=by
 have h : Ql (Ql (Zz n num lsn) 0 64) 40 18 = Ql (hdB num lsn n.es.length) 40 18:=by rw [Qlx]
 rw [Qcg (by omega),Nat.zero_add] at h;rw [h];rfl
def Qgb (s : List UInt8) (num : Int) : Bool:=decide (s.take 4 = Qdp) && (zer (Ql s 4 4) && (decide (ub4 s 8 ≤ 2147483647) && (decide ((ub4 s 12 : Int) = num) && (zer (Ql s 18 22) && zer (Ql s 58 6)))))
theorem Qqw {s : List UInt8} {num : Int} {c : Nat} (h : 64 ≤ s.length) (hc : c = ub2 s 16) (hn : 0 ≤ num ∧ num < 4294967296) (hz : zer (Ql s 40 18) = true) (hlsn : ub4 s 8 ≤ 2147483647) : hdB num (ub4 s 8 : Int) c = Ql s 0 64 ↔ Qgb s num = true:=by
 subst hc
 have e : Ql s 0 64 = s.take 4 ++ Ql s 4 4 ++ le4 (ub4 s 8 : Int) ++ le4 (ub4 s 12 : Int) ++ le2 (ub2 s 16 : Int) ++ (Ql s 18 22 ++ (Ql s 40 18 ++ Ql s 58 6)):=by
  rw [show 64 = 4 + (4 + (4 + (4 + (2 + (22 + (18 + 6)))))) from rfl,Xo,Xo,Xo,Xo,Xo,Xo,Xo];simp only [Nat.zero_add,Nat.reduceAdd];rw [Qhr (i:=8) (by omega),Qhr (i:=12) (by omega),QfO (i:=16) (by omega),show Ql s 0 4 = s.take 4 by simp [Ql]];simp only [List.append_assoc]
 have z18:=(Qbc _).1 hz;rw [Xc (by omega)] at z18;have er : List.replicate 46 (0 : UInt8) = List.replicate 22 0 ++ (List.replicate 18 0 ++ List.replicate 6 0):=rfl;have l4 : (s.take 4).length = 4:=by simp only [List.length_take];omega
 have l44 : (Ql s 4 4).length = 4:=Xc (by omega);constructor
 ·intro hh;rw [e] at hh;unfold hdB at hh;obtain ⟨hh,f6⟩:=List.append_inj hh (by simp only [List.length_append,l4,l44];rfl);obtain ⟨hh,f5⟩:=List.append_inj hh (by simp only [List.length_append,l4,l44];rfl);obtain ⟨hh,f4⟩:=List.append_inj hh (by simp only [List.length_append,l4,l44];rfl);obtain ⟨hh,f3⟩:=List.append_inj hh (by simp only [List.length_append,l4,l44];rfl);obtain ⟨f1,f2⟩:=List.append_inj hh (by rw [l4];rfl);rw [er] at f6;obtain ⟨g1,f6⟩:=List.append_inj f6 (by rw [Xc (by omega)];rfl);obtain ⟨g2,g3⟩:=List.append_inj f6 (by rw [Xc (by omega)];rfl);have f4':=QrL f4;have hb:=QlT s 12;simp only [Qgb,Bool.and_eq_true,decide_eq_true_eq];refine ⟨f1.symm,?_,hlsn,by omega,?_,?_⟩
  ·rw [← f2];rfl
  ·rw [← g1];rfl
  ·rw [← g3];rfl
 ·intro hh;simp only [Qgb,Bool.and_eq_true,decide_eq_true_eq] at hh;obtain ⟨f1,f2,_,f4,f5,f6⟩:=hh;rw [Qbc,Xc (by omega)] at f2 f5 f6;rw [e,f1,f2,f4,f5,z18,f6];rfl
def rdB (s : List UInt8) : Option (Nd × Nat):=if 1 ≤ ub2 s 16 ∧ ub2 s 16 ≤ 4 then rdN s 64 (ub2 s 16) else none
def noNd : Nd:=⟨false,[],[]⟩
structure NdR where
 n : Nd
 lsn : Int
 usn : Int
 e : Int
def ndE (e : Int) : NdR:=⟨noNd,0,0,e⟩
def XK (b : List UInt8) (num : Int) : NdR:=
 if b.length = 512 then
  if 1 ≤ num ∧ num ≤ 120 then
   if XA b then ndE 31
   else match rdB (QH b) with
    | some (n,last)=>if Qgb (QH b) num && zer ((QH b).drop last) then ⟨n,(ub4 (QH b) 8 : Int),(ub2 b 40 : Int),0⟩ else ndE 3
    | none=>ndE 3
  else ndE 2
 else ndE 10
theorem Qdo {s : List UInt8} {n : Nd} {last : Nat} (hl : s.length = 512) (h : rdB s = some (n,last)) : Xj n = Ql s 64 (last - 64) ∧ 72 ≤ last ∧ last ≤ 512 ∧ n.es.length = ub2 s 16 ∧ (1 ≤ ub2 s 16 ∧ ub2 s 16 ≤ 4) ∧ NdW n:=by
 unfold rdB at h;split at h
 ·rename_i hc;obtain ⟨h1,h2,h3,h4,h5,h6,h7,h8,h9⟩:=Qrk (by omega) h;exact ⟨h1,by omega,by omega,h6,hc,⟨h5,h8,by omega,h9⟩⟩
 ·cases h
theorem QjY {s : List UInt8} {n : Nd} {last : Nat} (hl : s.length = 512) (h : rdB s = some (n,last)) : (Xj n).length = last - 64:=by
 obtain ⟨h1,h2,h3,_⟩:=Qdo hl h;rw [h1,Xc (by omega)]
theorem QlF {b : List UInt8} {num : Int} {n : Nd} {last : Nat} (hl : b.length = 512) (ht : XA b = false) (hn : 0 ≤ num ∧ num < 4294967296) (h : rdB (QH b) = some (n,last)) (hlsn : ub4 (QH b) 8 ≤ 2147483647) :
  QaU n num (ub4 (QH b) 8 : Int) (ub2 b 40 : Int) = b ↔ (Qgb (QH b) num && zer ((QH b).drop last)) = true:=by
 have ho:=Zg hl;obtain ⟨h1,h2,h3,h4,h5,h6⟩:=Qdo ho h;have hc:=QjY ho h;have hz:=QkR hl;have hu:=Qd9 b 40;have hN : (Zz n num (ub4 (QH b) 8 : Int)).length = 512:=Qb4 (by omega)
 have hiff : QaU n num (ub4 (QH b) 8 : Int) (ub2 b 40 : Int) = b ↔ Zz n num (ub4 (QH b) 8 : Int) = QH b:=by
  constructor
  ·intro hh;have:=congrArg QH hh;unfold QaU at this
   rwa [Qg2 hN Qcd] at this
  ·intro hh;unfold QaU;rw [hh];exact Qnj hl ht
 rw [hiff]
 have hs : QH b = Ql (QH b) 0 64 ++ Xj n ++ (QH b).drop last:=by
  rw [h1]
  have e1 : Ql (QH b) 0 64 ++ Ql (QH b) 64 (last - 64) = (QH b).take last:=by
   have:=Xo (QH b) 0 64 (last - 64);rw [Nat.zero_add] at this;rw [← this,show 64 + (last - 64) = last by omega];simp [Ql]
  rw [e1,List.take_append_drop]
 have hd:=Qqw (s:=QH b) (num:=num) (c:=n.es.length) (by omega) h4 hn hz hlsn;have l64 : (Ql (QH b) 0 64).length = 64:=Xc (by omega);have hdl : ((QH b).drop last).length = 448 - (Xj n).length:=by rw [List.length_drop,ho,hc];omega
 constructor
 ·intro hh;rw [hs] at hh;have hh' : hdB num (ub4 (Ql (QH b) 0 64 ++ Xj n ++ (QH b).drop last) 8 : Int) n.es.length ++ Xj n ++ List.replicate (448 - (Xj n).length) 0 = Ql (QH b) 0 64 ++ Xj n ++ (QH b).drop last:=hh;rw [← hs] at hh';have hh2 : hdB num (ub4 (QH b) 8 : Int) n.es.length ++ Xj n ++ List.replicate (448 - (Xj n).length) 0 = Ql (QH b) 0 64 ++ Xj n ++ (QH b).drop last:=by rw [hh',← hs]
  obtain ⟨f1,f2⟩:=List.append_inj hh2 (by rw [List.length_append,List.length_append,l64];rfl);have f3:=List.append_cancel_right f1;rw [Bool.and_eq_true];refine ⟨hd.1 f3,?_⟩;rw [← f2];exact Qfj _
 ·intro hh;rw [Bool.and_eq_true] at hh;have f1:=hd.2 hh.1;have f2:=(Qbc _).1 hh.2;rw [hdl] at f2;unfold Zz;rw [f1,← f2,← hs]
theorem Qot {n : Nd} {num lsn usn : Int} (hn : NdW n) (h1 : 1 ≤ n.es.length ∧ n.es.length ≤ 4) (hc : (Xj n).length ≤ 448) (hnum : 1 ≤ num ∧ num ≤ 120) (hlsn : 0 ≤ lsn ∧ lsn ≤ 2147483647) (hu : 1 ≤ usn ∧ usn ≤ 65535) : XK (QaU n num lsn usn) num = ⟨n,lsn,usn,0⟩:=by
 have hN:=Qb4 (n:=n) (num:=num) (lsn:=lsn) hc;have hL : (QaU n num lsn usn).length = 512:=Qef hN;have hT : XA (QaU n num lsn usn) = false:=Qm1 hN (by omega);have hO : QH (QaU n num lsn usn) = Zz n num lsn:=Qg2 hN Qcd;have h40 : (ub2 (QaU n num lsn usn) 40 : Int) = usn:=Qlf hN (by omega);have hh:=Qlx (n:=n) (num:=num) (lsn:=lsn)
 have e16 : ub2 (Zz n num lsn) 16 = n.es.length:=by
  rw [show (16 : Nat) = 0 + 16 from rfl,← Qdd (show 16 + 1 < 64 by omega),hh];have f0:=QS (n.es.length : Int);have f1:=QS ((n.es.length : Int) / 256);have a0 : ub1 (hdB num lsn n.es.length) 16 = (by8 (n.es.length : Int)).toNat:=rfl;have a1 : ub1 (hdB num lsn n.es.length) 17 = (by8 ((n.es.length : Int) / 256)).toNat:=rfl;unfold ub2;rw [a0,a1];omega
 have e8 : (ub4 (Zz n num lsn) 8 : Int) = lsn:=by
  rw [show (8 : Nat) = 0 + 8 from rfl,← Qkx (show 8 + 3 < 64 by omega),hh];have f4:=QS lsn;have f5:=QS (lsn / 256);have f6:=QS (lsn / 65536);have f7:=QS (lsn / 16777216);have e : ub4 (hdB num lsn n.es.length) 8 = (by8 lsn).toNat + (by8 (lsn / 256)).toNat * 256 + ((by8 (lsn / 65536)).toNat + (by8 (lsn / 16777216)).toNat * 256) * 65536:=rfl;rw [e];omega
 have hR : rdB (Zz n num lsn) = some (n,64 + (Xj n).length):=by
  unfold rdB;rw [e16,if_pos h1];exact QpK hn (by omega) Qqa
 have hH : Qgb (Zz n num lsn) num = true:=by
  refine (Qqw (c:=n.es.length) (by omega) e16.symm (by omega) Qcd (by omega)).1 ?_;rw [e8,hh]
 unfold XK;rw [if_pos hL,if_pos hnum,hT,hO,hR];simp only [Bool.false_eq_true,if_false,hH,Qqy,Qfj,Bool.and_self,if_true,e8,h40]
def QdV : List UInt8:=[82,79,79,84]
def Qna (t : Tre) : List UInt8:=QdV ++ [by8 t.co,by8 t.mo,by8 t.rm,by8 (nth t.ns 0).es.length] ++ Xj (nth t.ns 0)
def noT : Tre:=⟨0,0,0,[]⟩
def Qqi (co : Int) (es : List TEnt) (i : Nat) : Bool:=Xa co (nth es i).key && decide (i = 0 ∨ Xm co (nth es (i - 1)).key (nth es i).key < 0)
def QsI (co : Int) (es : List TEnt) : Bool:=(List.range es.length).all (Qqi co es)
theorem Qoa {co : Int} {es : List TEnt} : QsI co es = true ↔ ∀ i,i < es.length → Qqi co es i = true:=by
 simp only [QsI,List.all_eq_true,List.mem_range]
def Qes (s : List UInt8) : Tre × Int:=
 if s.length < 16 then (noT,10)
 else if s.take 4 = QdV then
  if QB (at1 s 4) = 0 then
   if Yn (at1 s 5) (at1 s 6) = 0 then
    if at1 s 5 ≤ 4 then
     if at1 s 7 ≤ at1 s 6 then
      match rdN s 8 (ub1 s 7) with
      | some (n,last)=>if last = s.length ∧ QsI (at1 s 4) n.es = true then (⟨at1 s 4,at1 s 5,at1 s 6,[n]⟩,0) else (noT,3)
      | none=>(noT,3)
     else (noT,16)
    else (noT,8)
   else (noT,Yn (at1 s 5) (at1 s 6))
  else (noT,QB (at1 s 4))
 else (noT,3)
def YR (x : TEnt) : Bool:=decide (x.key.length + x.val.length ≤ 88)
def ZH (n : Nd) : Bool:=n.es.all YR
def YC (t : Tre) : Int:=if (Ze t).2 = 0 then if t.mo ≤ 4 ∧ t.ns.all ZH = true then 0 else 8 else (Ze t).2
theorem Qkn {t : Tre} (h : YC t = 0) : (Ze t).2 = 0 ∧ t.mo ≤ 4 ∧ ∀ n ∈ t.ns,∀ x ∈ n.es,x.key.length + x.val.length ≤ 88:=by
 unfold YC at h;split at h
 ·rename_i h1;split at h
  ·rename_i h2;refine ⟨h1,h2.1,fun n hn x hx=>?_⟩;have h3:=List.all_eq_true.1 h2.2 n hn;have h4:=List.all_eq_true.1 h3 x hx
   simpa [YR] using h4
  ·cases h
 ·rename_i h1;exact absurd h h1
theorem QnF {co : Int} {k : List UInt8} (h : Xa co k = true) : 1 ≤ k.length ∧ k.length ≤ 40:=by
 unfold Xa at h;split at h
 ·simpa using h
 ·split at h
  ·simp only [decide_eq_true_eq] at h;omega
  ·split at h <;> (simp only [Bool.and_eq_true,decide_eq_true_eq] at h;omega)
theorem Ql6 {co : Int} {x : TEnt} (h : YS co x = 0) : Xa co x.key = true ∧ x.val.length ≤ 64:=by
 unfold YS at h;split at h
 ·rename_i h1;split at h
  ·rename_i h2;refine ⟨?_,h2⟩;unfold Qas at h1;split at h1
   ·assumption
   ·cases h1
  ·cases h
 ·cases h
theorem QeH {n : Nd} (h : ∀ x ∈ n.es,Ym x 0 = true) : ∀ k,k ≤ n.es.length → (QL n k).length ≤ 96 * k
 | 0,_=>by simp [QL]
 | k + 1,hk=>by
  have ih:=QeH h k (by omega);have hx:=h _ (QC (show k < n.es.length by omega));simp only [Ym,decide_eq_true_eq] at hx;have hsz : (nth n.es k).sz = 8 + (nth n.es k).key.length + (nth n.es k).val.length:=rfl;show (QL n k ++ _).length ≤ _;rw [List.length_append,Qdq];unfold QM;omega
theorem Qko {n : Nd} (h : ∀ x ∈ n.es,Ym x 0 = true) : (Xj n).length ≤ 96 * n.es.length + 8:=by
 have:=QeH h n.es.length (Nat.le_refl _);unfold Xj;rw [List.length_append,QdF];omega
theorem Qq4 {t : Tre} (h : YC t = 0) {i : Nat} (hi : i < t.ns.length) (hu : (nth t.ns i).us = true) : NdW (nth t.ns i) ∧ (nth t.ns i).es.length ≤ 4 ∧ (Xj (nth t.ns i)).length ≤ 392 ∧ QsI t.co (nth t.ns i).es = true ∧ t.ns.length ≤ 120:=by
 obtain ⟨h1,h2,h3⟩:=Qkn h;obtain ⟨hc,hs,h0,hl,hn,_⟩:=QkO h1;have hT:=Qhy hn;obtain ⟨hE,_⟩:=Qd1 (by omega) hn List.nodup_nil;obtain ⟨sn,hE⟩:=hE i (Nat.zero_le _) hi;have hmo : Yn t.mo t.rm = 0:=hs
 have hsz : (3 ≤ t.mo ∧ t.mo ≤ 8) ∧ (t.mo / 2 ≤ t.rm ∧ t.rm ≤ t.mo):=by
  unfold Yn at hmo;split at hmo
  ·assumption
  ·cases hmo
 have hm : ((nth t.ns i).es.length : Int) ≤ YH t.mo t.rm i:=by
  unfold XN at hE;simp only [hu,if_true] at hE;split at hE
  ·assumption
  ·cases hE
 have hle : (nth t.ns i).es.length ≤ 4:=by
  unfold YH at hm;split at hm <;> omega
 have hK : ∀ x ∈ (nth t.ns i).es,Ym x 0 = true:=fun x hx=>by
  obtain ⟨a,b⟩:=Ql6 (hT.ents i hi x hx);have c:=QnF a;have d:=h3 _ (QC hi) x hx;simp only [Ym,decide_eq_true_eq];omega
 have hb:=Qko hK;refine ⟨⟨hu,hK,hT.shape i hi,fun c hc=>by have:=(hT.kid i hi c hc).1;omega⟩,hle,by omega,?_,hl⟩;rw [Qoa];intro k hk;simp only [Qqi,Bool.and_eq_true,decide_eq_true_eq];refine ⟨(Ql6 (hT.ents i hi _ (QC hk))).1,?_⟩;rcases Nat.eq_zero_or_pos k with h0 | h0
 ·exact .inl h0
 ·have:=hT.asc i hi (k - 1) (by omega);rw [show k - 1 + 1 = k by omega] at this;exact .inr this
theorem Qp9 {t : Tre} (h : YC t = 0) : 0 < t.ns.length ∧ (nth t.ns 0).us = true ∧ QB t.co = 0 ∧ Yn t.mo t.rm = 0 ∧ ((nth t.ns 0).es.length : Int) ≤ t.rm:=by
 obtain ⟨h1,h2,h3⟩:=Qkn h;obtain ⟨hc,hs,h0,hl,hn,_⟩:=QkO h1;have hT:=Qhy hn;obtain ⟨hE,_⟩:=Qd1 (by omega) hn List.nodup_nil;obtain ⟨sn,hE⟩:=hE 0 (Nat.zero_le _) h0
 have hu : (nth t.ns 0).us = true:=by
  cases hu : (nth t.ns 0).us with
  | true=>rfl
  | false=>have:=(hT.free 0 h0 hu).1.1;omega
 refine ⟨h0,hu,hc,hs,?_⟩;unfold XN at hE;simp only [hu,if_true] at hE;split at hE
 ·rename_i hq
  simpa [YH] using hq
 ·cases hE
theorem QiP {ns : List Nd} {below : List Nat} : ∀ {f i : Nat},Qaa ns below f i = none → ∀ j,i ≤ j → j < i + f → (nth ns j).us = true → j ∈ below
 | 0,i,_,j,h1,h2,_=>by omega
 | f + 1,i,h,j,h1,h2,hu=>by
  rw [Qaa] at h;split at h
  ·cases h
  ·rename_i hn;rcases Nat.eq_or_lt_of_le h1 with e | e
   ·subst e
    by_cases hb : i ∈ below
    ·exact hb
    ·exact absurd ⟨hu,hb⟩ hn
   ·exact QiP h j e (by omega) hu
theorem Qlr {t : Tre} {deep : Int} : ∀ {vs : List Vis},(X5 t deep vs).2 = 0 → ∀ v ∈ vs,Qdi t deep v = 0
 | [],_,v,hv=>by cases hv
 | u :: vs,h,v,hv=>by
  rw [X5] at h;split at h
  ·rename_i h1;rcases List.mem_cons.1 hv with e | e
   ·rw [e];exact h1
   ·exact Qlr h v e
  ·rename_i h1;exact absurd h h1
theorem QrA {t : Tre} (h : YC t = 0) {i : Nat} (h0 : 0 < i) (hi : i < t.ns.length) (hu : (nth t.ns i).us = true) : 1 ≤ (nth t.ns i).es.length:=by
 obtain ⟨h1,h2,_⟩:=Qkn h;obtain ⟨hc,hs,hz,hl,hn,hsh,_⟩:=QkO h1
 have hsz : (3 ≤ t.mo ∧ t.mo ≤ 8) ∧ (t.mo / 2 ≤ t.rm ∧ t.rm ≤ t.mo):=by
  unfold Yn at hs;split at hs
  ·assumption
  ·cases hs
 have hop : Qaa t.ns ((YI t.ns).map Vis.i) t.ns.length 0 = none:=by
  cases e : Qaa t.ns ((YI t.ns).map Vis.i) t.ns.length 0 with
  | none=>rfl
  | some k=>rw [Qdg e] at hsh;cases hsh
 rw [Qc3 hop] at hsh;have hin:=QiP hop i (Nat.zero_le _) (by omega) hu;obtain ⟨v,hv,rfl⟩:=List.mem_map.1 hin;have hE:=Qlr hsh v hv;unfold Qdi at hE;simp only [] at hE;split at hE
 ·cases hE
 ·rename_i hne;rcases Nat.lt_or_ge 0 (nth t.ns v.i).es.length with h3 | h3
  ·exact h3
  ·exact absurd ⟨h0,.inl (by omega)⟩ hne
structure Ixs where
 ro : List UInt8
 al : List UInt8
 bm : List UInt8
deriving DecidableEq,Inhabited
def Ixs.n (x : Ixs) : Nat:=x.al.length / 512
def Ixs.blk (x : Ixs) (i : Nat) : List UInt8:=Ql x.al ((i - 1) * 512) 512
def QuV (bm : List UInt8) (j : Nat) : Bool:=decide (ub1 bm (j / 8) / 2 ^ (j % 8) % 2 = 1)
def namB (x : Ixs) (i : Nat) : Bool:=decide (1 ≤ i ∧ i ≤ x.n) && QuV x.bm (i - 1)
def Qv5 (x : Ixs) : Bool:=(List.range (8 * x.bm.length)).any fun j=>decide (x.n ≤ j) && QuV x.bm j
def ixE (x : Ixs) : Int:=
 if x.al.length ≤ 61440 ∧ x.ro.length ≤ 200000 then
  if x.al.length % 512 = 0 ∧ x.bm.length = QM ((x.n + 7) / 8) then
   if (Qes x.ro).2 = 0 then
    if Qv5 x then 3 else if x.n = 0 ∨ QuV x.bm (x.n - 1) = true then 0 else 3
   else (Qes x.ro).2
  else 10
 else 8
def bkN (x : Ixs) (i : Nat) : Nd:=if namB x i then (XK (x.blk i) i).n else noNd
def bkE (x : Ixs) (i : Nat) : Int:=if namB x i then (XK (x.blk i) i).e else if zer (x.blk i) then 0 else 3
def badF (x : Ixs) : Nat → Nat → Option Nat
 | 0,_=>none
 | f + 1,i=>if bkE x i = 0 then badF x f (i + 1) else some i
def Qwi (x : Ixs) (k : Nat) : List Nd:=(Qes x.ro).1.ns ++ (List.range k).map fun j=>bkN x (j + 1)
def QrN (x : Ixs) : Tre:=⟨(Qes x.ro).1.co,(Qes x.ro).1.mo,(Qes x.ro).1.rm,Qwi x x.n⟩
def rdI (x : Ixs) : (Tre × Int) × Int:=
 if ixE x = 0 then
  match badF x x.n 1 with
  | some i=>((noT,(i : Int)),bkE x i)
  | none=>if (Ze (QrN x)).2 = 0 then ((QrN x,0),0) else ((noT,(Ze (QrN x)).1),(Ze (QrN x)).2)
 else ((noT,0),ixE x)
def bitV (ns : List Nd) (g : Nat) : Nat → Nat
 | 0=>0
 | i + 1=>bitV ns g i + (if (nth ns (8 * g + i + 1)).us = true ∧ 8 * g + i + 1 < ns.length then 2 ^ i else 0)
def Qwd (ns : List Nd) : Nat:=QM ((ns.length - 1 + 7) / 8)
def bmB (ns : List Nd) : List UInt8:=(List.range (Qwd ns)).map fun g=>by8 (bitV ns g 8 : Nat)
def QpM (blk : Nat → List UInt8) : Nat → List UInt8
 | 0=>[]
 | k + 1=>QpM blk k ++ blk (k + 1)
def QwP : List UInt8:=List.replicate 512 0
def newB (t : Tre) (i : Nat) : List UInt8:=if (nth t.ns i).us = true then QaU (nth t.ns i) i 0 1 else QwP
def wrI (t : Tre) : Ixs:=⟨Qna t,QpM (newB t) (t.ns.length - 1),bmB t.ns⟩
structure Holds (t : Tre) (blk : Nat → List UInt8) : Prop where
 len : ∀ i,(blk i).length = 512
 us : ∀ i,1 ≤ i → i < t.ns.length → (nth t.ns i).us = true → (XK (blk i) i).n = nth t.ns i ∧ (XK (blk i) i).e = 0
 free : ∀ i,1 ≤ i → i < t.ns.length → (nth t.ns i).us = false → zer (blk i) = true
def ixOf (t : Tre) (blk : Nat → List UInt8) : Ixs:=⟨Qna t,QpM blk (t.ns.length - 1),bmB t.ns⟩
end Gx
namespace Go.Proofs
open Go Go.RowKit Gx
attribute [local irreducible] Go.Calls Gx.S Gx.O Gx.D Gx.OpP Gx.OpQ Gx.OpH
set_option maxRecDepth 20000
theorem Qhh : Qt Tryz.prog 87 = true:=by kernel_rfl
theorem Qjm : Qt Tryz.prog 60 = true:=by kernel_rfl
theorem QkA : Qt Tryz.prog 192 = true:=by kernel_rfl
theorem QhI : Qt Tryz.prog 131 = true:=by kernel_rfl
theorem Qao : QO Tryz.prog 5 = some [.int .u8 0]:=by kernel_rfl
theorem Qk7 : Qt Tryz.prog 152 = true:=by kernel_rfl
theorem QqZ : Qt Tryz.prog 153 = true:=by kernel_rfl
theorem c87 (w : World) (n lo hi : Int) : Calls Tryz.prog 87 #[.int .i64 n,.int .i64 lo,.int .i64 hi] w fun en w'=>en = .returned (.bool (decide (lo ≤ n) && decide (n ≤ hi))) ∧ Below w.heap.size w w':=by
 refine enter (args:=[_,_,_]) Tryz.func87 Tryz.ntmps87 rfl rfl (HS.refl w []) ?_
 refine Qaq ?_
 refine Xn 4 10 14 _ _ rfl
  (by
   intro hg1
   have hs2:=hg1;try simp only [dT] at hs2
   refine oOn 10 hg1 ?_
   refine aS ?_
   refine oOn 10 hg1 ?_
   refine aS ?_
   refine oOn 10 hg1 ?_
   refine aS ?_
   refine o_p (Qg rfl rfl hg1 rfl) rfl ?_
   refine aS ?_
   exact oJn 4 14)
  (by
   intro hg3
   have hs4:=hg3;try simp only [dN] at hs4
   refine oOf 10 hg3 ?_
   refine oOf 10 hg3 ?_
   refine oOf 10 hg3 ?_
   refine o_p (Qf rfl rfl hg3 rfl) rfl ?_
   refine aS ?_
   exact oJn 4 14) ?_
 refine aS2 ?_
 exact rT rfl rfl (fun w' h'=>⟨rfl,h'.below⟩)
theorem c205 (w : World) (n lo hi : Int) : Calls Tryz.prog 205 #[.int .i64 n,.int .i64 lo,.int .i64 hi] w fun en w'=>en = .returned (.bool (decide (lo ≤ n) && decide (n ≤ hi))) ∧ Below w.heap.size w w':=by
 refine enter (args:=[_,_,_]) Tryz.func205 Tryz.ntmps205 rfl rfl (HS.refl w []) ?_
 refine Qaq ?_
 refine Xn 4 10 14 _ _ rfl
  (by
   intro hg1
   have hs2:=hg1;try simp only [dT] at hs2
   refine oOn 10 hg1 ?_
   refine aS ?_
   refine oOn 10 hg1 ?_
   refine aS ?_
   refine oOn 10 hg1 ?_
   refine aS ?_
   refine o_p (Qg rfl rfl hg1 rfl) rfl ?_
   refine aS ?_
   exact oJn 4 14)
  (by
   intro hg3
   have hs4:=hg3;try simp only [dN] at hs4
   refine oOf 10 hg3 ?_
   refine oOf 10 hg3 ?_
   refine oOf 10 hg3 ?_
   refine o_p (Qf rfl rfl hg3 rfl) rfl ?_
   refine aS ?_
   exact oJn 4 14) ?_
 refine aS2 ?_
 exact rT rfl rfl (fun w' h'=>⟨rfl,h'.below⟩)
theorem c60 (w : World) (ok : Bool) (e : Int) : Calls Tryz.prog 60 #[.bool ok,.int .i64 e] w fun en w'=>en = .returned (.int .i64 (cond ok 0 e)) ∧ Below w.heap.size w w':=by
 refine enter (args:=[_,_]) Tryz.func60 Tryz.ntmps60 rfl rfl (HS.refl w []) ?_
 refine aS9 ?_
 refine Qb rfl (fun h1=>?_) fun h1=>?_
 ·skip
  refine aS4 ?_
  exact rT rfl rfl (fun w' h'=>⟨by simp_all [QT],h'.below⟩)
 skip
 refine aS6 ?_
 exact rT rfl rfl (fun w' h'=>⟨by simp_all [QT],h'.below⟩)
theorem QtV (w : World) (ok : Bool) (e : Int) : Calls Tryz.prog 192 #[.bool ok,.int .i64 e] w fun en w'=>en = .returned (.int .i64 (cond ok 0 e)) ∧ Below w.heap.size w w':=by
 refine enter (args:=[_,_]) Tryz.func192 Tryz.ntmps192 rfl rfl (HS.refl w []) ?_
 refine aS9 ?_
 refine Qb rfl (fun h1=>?_) fun h1=>?_
 ·skip
  refine aS4 ?_
  exact rT rfl rfl (fun w' h'=>⟨by simp_all [QT],h'.below⟩)
 skip
 refine aS6 ?_
 exact rT rfl rfl (fun w' h'=>⟨by simp_all [QT],h'.below⟩)
theorem c59 (w : World) (a : Option Addr) (cap : Nat) (es : List Int) (hs : Sl w [] a 1 es.length (fun i=>[.int .i64 (es.getD i 0)])) (hm : es.length ≤ 1000) : Calls Tryz.prog 59 #[.slice a es.length cap] w fun en w'=>en = .returned (.int .i64 (Yw es)) ∧ Below w.heap.size w w':=by
 refine enter (args:=[_]) Tryz.func59 Tryz.ntmps59 rfl rfl (HS.refl w []) ?_
 refine Qeq ?_
 refine Qx (α:=Nat) [2,4,7,8,9,10,11,12,13,14] (fun k=>[(7,.int .i64 (k : Int))]) (fun _=>_) (fun k=>k ≤ es.length ∧ Yw es = Yw (es.drop k)) (fun k=>es.length - k) 0 ⟨by omega,rfl⟩ aSx (fun w h=>h) (fun k hk=>?_)
 obtain ⟨hk1,hk2⟩:=hk
 refine aS5 ?_
 refine Qb rfl (fun h1=>?_) fun h1=>?_
 ·try simp only [dT] at h1
  refine aS5 ?_
  refine o_p (Qc rfl rfl rfl ZE _ rfl (by omega) (hs.some (by omega))) rfl ?_
  refine o_q (Qd rfl rfl Qrd (hs.rd (i:=k) (j:=0) (by omega) rfl)) rfl ?_
  refine aS7 ?_
  refine Qb rfl (fun h2=>?_) fun h2=>?_
  ·try simp only [Bool.not_eq_true',decide_eq_false_iff_not] at h2
   refine aS5 ?_
   exact rT rfl rfl (fun w' h'=>⟨by simp only [QT];rw [hk2,YX (by omega),if_neg (by assumption)],h'.below⟩)
  try simp only [Bool.not_eq_false',decide_eq_true_eq] at h2
  refine aS4 ?_
  try refine oWr ?_
  refine aS2 ?_
  exact Qu (k+1) (by omega) ⟨by omega,by rw [hk2,YX (by omega),if_pos (by assumption)]⟩ aSx (fun w h=>h)
 try simp only [dN] at h1
 refine Qp rfl ?_
 refine aS4 ?_
 exact rT rfl rfl (fun w' h'=>⟨by simp only [QT];rw [hk2,Qc8 (by omega)],h'.below⟩)
theorem f59 {w0 w : World} {M : List Nat} {As As' : List HA} {b cap n : Nat} {t : TypeId} {tot : Nat} {cs : List Value} (h : HS w0 M As w) (hp : QP As (.blk b t tot cs) As') (hc : cs.all Qg3 = true) (hn : cs.length = n) (hl : n ≤ 1000) :
    Calls Tryz.prog 59 #[.slice (some ⟨b,0,none⟩) n cap] w fun en w'=>en = .returned (.int .i64 (Zh cs)) ∧ Below w.heap.size w w':=by
  subst hn;have:=c59 w (some ⟨b,0,none⟩) cap (cs.map Go.RowKit.intOf) (by simpa using h.sl_ints hp hc) (by simpa using hl);rw [Qcy hc] at this
  simpa using this
theorem c203 (w : World) (a : Option Addr) (cap : Nat) (es : List Int) (hs : Sl w [] a 1 es.length (fun i=>[.int .i64 (es.getD i 0)])) (hm : es.length ≤ 1000) : Calls Tryz.prog 203 #[.slice a es.length cap] w fun en w'=>en = .returned (.int .i64 (Yw es)) ∧ Below w.heap.size w w':=by
 refine enter (args:=[_]) Tryz.func203 Tryz.ntmps203 rfl rfl (HS.refl w []) ?_
 refine Qeq ?_
 refine Qx (α:=Nat) [2,4,7,8,9,10,11,12,13,14] (fun k=>[(7,.int .i64 (k : Int))]) (fun _=>_) (fun k=>k ≤ es.length ∧ Yw es = Yw (es.drop k)) (fun k=>es.length - k) 0 ⟨by omega,rfl⟩ aSx (fun w h=>h) (fun k hk=>?_)
 obtain ⟨hk1,hk2⟩:=hk
 refine aS5 ?_
 refine Qb rfl (fun h1=>?_) fun h1=>?_
 ·try simp only [dT] at h1
  refine aS5 ?_
  refine o_p (Qc rfl rfl rfl ZE _ rfl (by omega) (hs.some (by omega))) rfl ?_
  refine o_q (Qd rfl rfl Qrd (hs.rd (i:=k) (j:=0) (by omega) rfl)) rfl ?_
  refine aS7 ?_
  refine Qb rfl (fun h2=>?_) fun h2=>?_
  ·try simp only [Bool.not_eq_true',decide_eq_false_iff_not] at h2
   refine aS5 ?_
   exact rT rfl rfl (fun w' h'=>⟨by simp only [QT];rw [hk2,YX (by omega),if_neg (by assumption)],h'.below⟩)
  try simp only [Bool.not_eq_false',decide_eq_true_eq] at h2
  refine aS4 ?_
  try refine oWr ?_
  refine aS2 ?_
  exact Qu (k+1) (by omega) ⟨by omega,by rw [hk2,YX (by omega),if_pos (by assumption)]⟩ aSx (fun w h=>h)
 try simp only [dN] at h1
 refine Qp rfl ?_
 refine aS4 ?_
 exact rT rfl rfl (fun w' h'=>⟨by simp only [QT];rw [hk2,Qc8 (by omega)],h'.below⟩)
theorem f203 {w0 w : World} {M : List Nat} {As As' : List HA} {b cap n : Nat} {t : TypeId} {tot : Nat} {cs : List Value} (h : HS w0 M As w) (hp : QP As (.blk b t tot cs) As') (hc : cs.all Qg3 = true) (hn : cs.length = n) (hl : n ≤ 1000) :
    Calls Tryz.prog 203 #[.slice (some ⟨b,0,none⟩) n cap] w fun en w'=>en = .returned (.int .i64 (Zh cs)) ∧ Below w.heap.size w w':=by
  subst hn;have:=c203 w (some ⟨b,0,none⟩) cap (cs.map Go.RowKit.intOf) (by simpa using h.sl_ints hp hc) (by simpa using hl);rw [Qcy hc] at this
  simpa using this
theorem c88 (w : World) (x : TEnt) (hk : x.key.length ≤ 1000000) (hv : x.val.length ≤ 1000000) : Calls Tryz.prog 88 #[.agg #[.string (bs x.key),.string (bs x.val)]] w fun en w'=>en = .returned (.bool (YR x)) ∧ Below w.heap.size w w':=by
 refine enter (args:=[_]) Tryz.func88 Tryz.ntmps88 rfl rfl (HS.refl w []) ?_
 refine aS2 ?_
 refine oBx fun b1 _=>?_
 refine aS6 ?_
 refine o_p (Qn rfl rfl Tryz.underlying9) rfl ?_
 refine aS2 ?_
 refine o_p (Qn rfl rfl Tryz.underlying9) rfl ?_
 refine aS ?_
 try refine oWr ?_
 refine aS3 ?_
 exact rT rfl rfl (fun w' h'=>⟨by simp only [QT,YR];congr 2;congr 1;first | omega | (rw [eq_iff_iff];omega) | (apply decide_eq_decide.2;omega),h'.below⟩)
theorem c100 (w : World) (n : Int) : Calls Tryz.prog 100 #[.int .i64 n] w fun en w'=>en = .returned (.int .i64 (cond (decide (0 ≤ n) && decide (n ≤ 2147483647)) 0 2)) ∧ Below w.heap.size w w':=by
 refine enter (args:=[_]) Tryz.func100 Tryz.ntmps100 rfl rfl (HS.refl w []) ?_
 refine aS7 ?_
 refine o_q (Qa rfl Qhh rfl (fun w1 h1=>c87 w1 _ _ _)) rfl ?_
 refine o_q (Qa rfl Qjm rfl (fun w1 h1=>c60 w1 _ _)) rfl ?_
 refine aS2 ?_
 exact rT rfl rfl (fun w' h'=>⟨rfl,h'.below⟩)
theorem QuB (w : World) (s : List UInt8) : Calls Tryz.prog 129 #[.string (bs s)] w fun en w'=>en = .returned (.int .i64 (cond (decide ((s.length : Int) = 512)) 0 10)) ∧ Below w.heap.size w w':=by
 refine enter (args:=[_]) Tryz.func129 Tryz.ntmps129 rfl rfl (HS.refl w []) ?_
 refine aS7 ?_
 refine o_p (Qn rfl rfl Tryz.underlying9) rfl ?_
 refine aS ?_
 refine o_q (Qa rfl QkA rfl (fun w1 h1=>QtV w1 _ _)) rfl ?_
 refine aS2 ?_
 exact rT rfl rfl (fun w' h'=>⟨rfl,h'.below⟩)
theorem Qrr (w : World) (a : Option Addr) (m cap : Nat) (x : List UInt8) (hs : Vl w a (x.map bv)) (hm : x.length = m) (h2 : 2 ≤ m) (hc : m ≤ cap) (hc9 : cap ≤ 9223372036854775807) : Calls Tryz.prog 131 #[.slice a m cap] w fun en w'=>en = .returned (.int .u16 (at2 x 0)) ∧ Below w.heap.size w w':=by
 refine enter (args:=[_]) Tryz.func131 Tryz.ntmps131 rfl rfl (HS.refl w []) ?_
 refine aS5 ?_
 refine QG [] QU ?_
 refine dP 0 ?_
 refine dV 1 rfl (Qc rfl rfl rfl QK 0 rfl (by omega) (hs.some (by rw [List.length_map];omega))) ?_
 refine dQ 2 [] rfl (Qd rfl rfl QhY ((hs.rd (i:=0) (Qda (l:=x) (k:=0) (by omega))))) ?_
 refine dV 3 rfl (Qo rfl rfl Zq Yf) ?_
 refine dP 4 ?_
 refine dV 5 rfl (Qc rfl rfl rfl QK 1 rfl (by omega) (hs.some (by rw [List.length_map];omega))) ?_
 refine dQ 6 [] rfl (Qd rfl rfl QhY ((hs.rd (i:=1) (Qda (l:=x) (k:=1) (by omega))))) ?_
 refine dV 7 rfl (Qo rfl rfl Zq Yf) ?_
 refine dV 8 rfl (Qhb rfl rfl rfl (by decide) 8 rfl) ?_
 refine dP 9 ?_
 refine dP 10 ?_
 refine dNi ?_
 exact rT rfl rfl (fun w' h'=>⟨by rw [← QjH];rfl,h'.below⟩)
theorem c132 (w : World) (a : Option Addr) (m cap : Nat) (x : List UInt8) (hs : Vl w a (x.map bv)) (hm : x.length = m) (h2 : 4 ≤ m) (hc : m ≤ cap) (hc9 : cap ≤ 9223372036854775807) : Calls Tryz.prog 132 #[.slice a m cap] w fun en w'=>en = .returned (.int .u32 (at4 x 0)) ∧ Below w.heap.size w w':=by
 have hx2:=Qaz x 0
 have hx3:=Qaz x 2
 refine enter (args:=[_]) Tryz.func132 Tryz.ntmps132 rfl rfl (HS.refl w []) ?_
 refine aS5 ?_
 refine QG [] QU ?_
 refine dP 0 ?_
 refine dQ 1 [] rfl (Qa rfl QhI rfl (fun w1 h1=>Qrr w1 a m cap x (hs.later h1) hm (by omega) hc hc9)) ?_
 refine dV 2 rfl (Qo rfl rfl Yf YQ) ?_
 refine dP 3 ?_
 refine dV 4 rfl (Qz _ _ 2 m rfl rfl QK ⟨_,_,rfl,rfl⟩ rfl (by omega) (by omega)) ?_
 refine dQ 5 [] rfl (Qa rfl QhI rfl (fun w1 h1=>Qrr w1 (XX a cap 2 1) (m - 2) (cap - 2) (x.drop 2) (by rw [List.map_drop];exact (hs.later h1).drop (by rw [List.length_map];omega) (by omega)) (by rw [List.length_drop];omega) (by omega) (by omega) (by omega))) ?_
 refine dV 6 rfl (Qo rfl rfl Yf YQ) ?_
 refine dV 7 rfl (Qhb rfl rfl rfl (by decide) 16 rfl) ?_
 refine dP 8 ?_
 refine dP 9 ?_
 refine dNi ?_
 exact rT rfl rfl (fun w' h'=>⟨by have h9:=QiV (at2 x 0) (at2 (x.drop 2) 0) (Qaz _ _) (Qaz _ _);rw [QaO] at h9 ⊢;exact (congrArg Ending.returned h9),h'.below⟩)
theorem Que (w : World) (a : Option Addr) (cap : Nat) (l : List UInt8) (n : Int) (hw : HS w (fps [.byz a cap (l)]) [.byz a cap (l)] w) (hn : 0 ≤ n ∧ n < 65536) (hl : l.length ≤ 1000000) : Calls Tryz.prog 152 #[.slice a l.length cap,.int .u16 n] w fun en w'=>∃ g : Option Addr × Nat,en = .returned (.slice g.1 (l ++ le2 n).length g.2) ∧ Qb6 a cap g (l ++ le2 n).length ∧ HS w (fps [.byz a cap (l)]) [.byz g.1 g.2 (l ++ le2 n)] w':=by
 refine enter (args:=[_,_]) Tryz.func152 Tryz.ntmps152 rfl rfl hw ?_
 refine aS8 ?_
 refine o_p (Qo rfl rfl Yf Zq) rfl ?_
 refine Qq (Yh _) ?_
 refine aS ?_
 refine o_p (Qgt rfl rfl rfl (by decide) 8 rfl) rfl ?_
 refine o_p (Qo rfl rfl Yf Zq) rfl ?_
 refine Qq (show _ = bv (by8 (n / 256)) from Yh _) ?_
 refine o_h (Qr (cs:=[_,_]) rfl rfl QK Qao rfl rfl rfl) rfl (fun b1 _=>?_)
 refine o_h (ZQ [by8 n,by8 (n / 256)] rfl rfl rfl QK Tryz.underlying139 Qao aPk (XI aPk) (by simp only [List.length_append,List.length_cons,List.length_nil,le2,le4] <;> omega) (by simp only [maxLen,List.length_append,List.length_cons,List.length_nil,le2,le4] <;> omega)) rfl (fun ⟨b2,c3⟩ h4=>?_)
 refine aS2 ?_
 exact rT rfl rfl (fun w' h'=>⟨(b2,c3),rfl,h4,h'.ent aEt⟩)
theorem QvZ (w : World) (a : Option Addr) (cap : Nat) (l : List UInt8) (n : Int) (hw : HS w (fps [.byz a cap (l)]) [.byz a cap (l)] w) (hn : 0 ≤ n) (hl : l.length ≤ 1000000) : Calls Tryz.prog 152 #[.slice a l.length cap,.int .u16 (n % 65536)] w fun en w'=>∃ g : Option Addr × Nat,en = .returned (.slice g.1 (l ++ le2 n).length g.2) ∧ Qb6 a cap g (l ++ le2 n).length ∧ HS w (fps [.byz a cap (l)]) [.byz g.1 g.2 (l ++ le2 n)] w':=by
  have h9:=Que w a cap l (n % 65536) hw (by omega) hl;rw [QnT] at h9;exact h9
theorem c153 (w : World) (a : Option Addr) (cap : Nat) (l : List UInt8) (n : Int) (hw : HS w (fps [.byz a cap (l)]) [.byz a cap (l)] w) (hn : 0 ≤ n ∧ n < 4294967296) (hl : l.length ≤ 1000000) : Calls Tryz.prog 153 #[.slice a l.length cap,.int .u32 n] w fun en w'=>∃ g : Option Addr × Nat,en = .returned (.slice g.1 (l ++ le4 n).length g.2) ∧ Qb6 a cap g (l ++ le4 n).length ∧ HS w (fps [.byz a cap (l)]) [.byz g.1 g.2 (l ++ le4 n)] w':=by
 have he9 : l ++ le4 n = (l ++ le2 n) ++ [by8 (n / 65536),by8 (n / 16777216)]:=by rw [QuT,List.append_assoc]
 refine enter (args:=[_,_]) Tryz.func153 Tryz.ntmps153 rfl rfl hw ?_
 refine aS8 ?_
 refine o_p (Qo rfl rfl YQ Yf) rfl ?_
 refine Qq (show _ = Value.int .u16 (n % 65536) from by rw [Qj9]) ?_
 refine o_h (Q0 (Cs:=[.byz a cap (l)]) rfl Qk7 rfl aPs (fun w1 h1 hf=>QvZ w1 a cap l n hf (by omega) hl)) rfl (fun ⟨b1,c2⟩ hz3=>?_)
 refine aS ?_
 refine o_p (Qgt rfl rfl rfl (by decide) 16 rfl) rfl ?_
 refine o_p (Qo rfl rfl YQ Zq) rfl ?_
 refine Qq (show _ = bv (by8 (n / 65536)) from Yh _) ?_
 refine aS ?_
 refine o_p (Qgt rfl rfl rfl (by decide) 24 rfl) rfl ?_
 refine o_p (Qo rfl rfl YQ Zq) rfl ?_
 refine Qq (show _ = bv (by8 (n / 16777216)) from Yh _) ?_
 refine o_h (Qr (cs:=[_,_]) rfl rfl QK Qao rfl rfl rfl) rfl (fun b4 _=>?_)
 refine o_h (ZQ (l:=l ++ le2 n) [by8 (n / 65536),by8 (n / 16777216)] rfl rfl rfl QK Tryz.underlying139 Qao aPk (XI aPk) (by simp only [List.length_append,List.length_cons,List.length_nil,le2,le4] <;> omega) (by simp only [maxLen,List.length_append,List.length_cons,List.length_nil,le2,le4] <;> omega)) rfl (fun ⟨b5,c6⟩ h7=>?_)
 refine aS2 ?_
 exact rT rfl rfl (fun w' h'=>⟨(b5,c6),by rw [he9];rfl,by rw [he9];exact (hz3).trans h7 (by simp only [List.length_append];omega),by rw [he9];exact h'.ent aEt⟩)
theorem c154 (w : World) (a : Option Addr) (cap : Nat) (l : List UInt8) (hw : HS w (fps [.byz a cap (l)]) [.byz a cap (l)] w) (hl : l.length ≤ 1000000) : Calls Tryz.prog 154 #[.slice a l.length cap] w fun en w'=>∃ g : Option Addr × Nat,en = .returned (.slice g.1 (l ++ List.replicate (QM l.length - l.length) 0).length g.2) ∧ Qb6 a cap g (l ++ List.replicate (QM l.length - l.length) 0).length ∧ HS w (fps [.byz a cap (l)]) [.byz g.1 g.2 (l ++ List.replicate (QM l.length - l.length) 0)] w':=by
 have hp8:=YP l.length
 have hm8 : QM l.length % 8 = 0:=by unfold QM;omega
 refine enter (args:=[_]) Tryz.func154 Tryz.ntmps154 rfl rfl hw ?_
 refine aS6 ?_
 refine Qx (α:=Nat × Option Addr × Nat) [0,3,4,5,6,7,8,9] (fun x=>[(0,.slice x.2.1 (l ++ List.replicate x.1 0).length x.2.2)]) (fun x=>HS w (fps [.byz a cap (l)]) [.byz x.2.1 x.2.2 (l ++ List.replicate x.1 0)]) (fun x=>x.1 ≤ (QM l.length - l.length) ∧ Qb6 a cap (x.2.1,x.2.2) (l ++ List.replicate x.1 0).length) (fun x=>(QM l.length - l.length) - x.1) (0,a,cap) ⟨Nat.zero_le _,fun _=>⟨rfl,rfl⟩⟩ (by simp only [List.replicate_zero,List.append_nil];exact aSx) (fun w h=>(by simp only [List.replicate_zero,List.append_nil];exact h.ent aEt)) (fun ⟨k,a2,c2⟩ hk1=>?_)
 dsimp only
 simp only [] at hk1
 obtain ⟨hk2,hk3⟩:=hk1
 have hlk : (l ++ List.replicate k 0).length = l.length + k:=by simp
 refine aS5 ?_
 refine o_p (QjU rfl rfl rfl (by omega) (by omega)) rfl ?_
 refine aS2 ?_
 refine Qb rfl (fun h1=>?_) fun h1=>?_
 ·try simp only [Bool.not_eq_true',decide_eq_false_iff_not] at h1
  have hk : k < (QM l.length - l.length):=by have hq:=h1;rw [hlk] at hq;omega
  have hrep : l ++ List.replicate (k + 1) 0 = (l ++ List.replicate k 0) ++ [0]:=by rw [List.replicate_succ',List.append_assoc]
  refine aS4 ?_
  refine o_h (Qr (cs:=[_]) rfl rfl QK Qao rfl rfl rfl) rfl (fun b2 _=>?_)
  refine o_h (ZQ (l:=l ++ List.replicate k 0) [0] rfl rfl rfl QK Tryz.underlying139 Qao aPk (XI aPk) (by simp only [List.length_replicate,List.length_append,List.length_cons,List.length_nil,le2,le4] <;> omega) (by simp only [maxLen,List.length_replicate,List.length_append,List.length_cons,List.length_nil,le2,le4] <;> omega)) rfl (fun ⟨b3,c4⟩ h5=>?_)
  refine aS3 ?_
  exact Qu (k + 1,b3,c4) (by (try simp only []);omega) (by simp only [];rw [hrep];exact ⟨by omega,hk3.trans h5 (by simp only [List.length_append];omega)⟩) (by dsimp only;rw [hrep];exact aSx) (fun w h=>by dsimp only;rw [hrep];exact h.ent aEt)
 try simp only [Bool.not_eq_false',decide_eq_true_eq] at h1
 have hk : k = (QM l.length - l.length):=by have hq:=h1;rw [hlk] at hq;omega
 subst hk
 refine Qp rfl ?_
 refine aS5 ?_
 exact rT rfl rfl (fun w' h'=>⟨(a2,c2),rfl,hk3,h'.ent aEt⟩)
theorem c156 (w : World) (a : Option Addr) (cap : Nat) (l : List UInt8) (c : Int) (hw : HS w (fps [.byz a cap (l)]) [.byz a cap (l)] w) (hc9 : 0 ≤ c ∧ c < 4294967296) (hl : l.length ≤ 900000) : Calls Tryz.prog 156 #[.slice a l.length cap,.int .i64 c] w fun en w'=>∃ g : Option Addr × Nat,en = .returned (.slice g.1 (l ++ Qap c).length g.2) ∧ Qb6 a cap g (l ++ Qap c).length ∧ HS w (fps [.byz a cap (l)]) [.byz g.1 g.2 (l ++ Qap c)] w':=by
 have he9 : l ++ Qap c = ((l ++ le2 8) ++ [0,0]) ++ le4 c:=by simp only [Qap,List.append_assoc]
 have l2 : (l ++ le2 8).length = l.length + 2:=by rw [List.length_append];rfl
 have l3 : ((l ++ le2 8) ++ [0,0]).length = l.length + 4:=by rw [List.length_append,l2];rfl
 refine enter (args:=[_,_]) Tryz.func156 Tryz.ntmps156 rfl rfl hw ?_
 refine aS7 ?_
 refine o_h (Q0 (Cs:=[.byz a cap (l)]) rfl Qk7 rfl aPs (fun w1 h1 hf=>Que w1 a cap l 8 hf (by omega) (by omega))) rfl (fun ⟨b1,c2⟩ hz3=>?_)
 refine aS5 ?_
 refine o_h (Qr (cs:=[_,_]) rfl rfl QK Qao rfl rfl rfl) rfl (fun b4 _=>?_)
 refine o_h (ZQ (l:=l ++ le2 8) [0,0] rfl rfl rfl QK Tryz.underlying139 Qao aPk (XI aPk) (by simp only [List.length_append,List.length_cons,List.length_nil,le2,le4] <;> omega) (by simp only [maxLen,List.length_append,List.length_cons,List.length_nil,le2,le4] <;> omega)) rfl (fun ⟨b5,c6⟩ h7=>?_)
 refine aS6 ?_
 refine o_p (Qo rfl rfl YZ YQ) rfl ?_
 refine Qq (show _ = Value.int .u32 c from by rw [QeC];congr 1;omega) ?_
 refine o_h (Q0 (Cs:=[.byz b5 c6 ((l ++ le2 8) ++ [0,0])]) rfl QqZ rfl aPs (fun w1 h1 hf=>c153 w1 b5 c6 ((l ++ le2 8) ++ [0,0]) c hf hc9 (by omega))) rfl (fun ⟨b8,c9⟩ hz10=>?_)
 refine aS2 ?_
 exact rT rfl rfl (fun w' h'=>⟨(b8,c9),by rw [he9];rfl,by rw [he9];exact ((hz3).trans h7 (by simp only [List.length_append];omega)).trans hz10 (by simp only [List.length_append];omega),by rw [he9];exact h'.ent aEt⟩)
end Go.Proofs
namespace Gx
open Go Go.RowKit
theorem Qq1 {s : List UInt8} {k : Nat} (h : k < s.length) : zer (s.take (k + 1)) = (zer (s.take k) && decide (s.getD k 0 = 0)):=by
 unfold zer;rw [List.take_add_one,List.getElem?_eq_getElem h,List.all_append,List.getD_eq_getElem?_getD,List.getElem?_eq_getElem h];simp
theorem QtX {s : List UInt8} {k : Nat} (h : k < s.length) (h2 : ¬ s.getD k 0 = 0) : zer s = false:=by
 cases hb : zer s with
 | false=>rfl
 | true=>
  unfold zer at hb;have:=List.all_eq_true.1 hb _ (List.getElem_mem h);rw [List.getD_eq_getElem?_getD,List.getElem?_eq_getElem h] at h2;simp at this h2;exact absurd this h2
theorem QjC {u : UInt8} : (u.toNat : Int) = 0 ↔ u = 0:=by
 constructor
 ·intro h;exact UInt8.toNat_inj.1 (by have : (0 : UInt8).toNat = 0:=rfl;omega)
 ·intro h;subst h;rfl
def Z1 (x : TEnt) (c : Int) : Int:=if 1 ≤ x.key.length ∧ x.key.length ≤ 40 then if x.key.length + x.val.length ≤ 88 then if 0 ≤ c ∧ c ≤ 120 then 0 else 2 else 8 else 3
structure NdP (n : Nd) : Prop where
 el : n.es.length ≤ 1000
 es : ∀ x ∈ n.es,x.key.length ≤ 300 ∧ x.val.length ≤ 300
 cl : n.cs.length = 0 ∨ n.cs.length = n.es.length + 1
 cs : ∀ c ∈ n.cs,0 ≤ c ∧ c < 4294967296
theorem NdW.ndp {n : Nd} (h : NdW n) (hl : n.es.length ≤ 1000) : NdP n:=
 ⟨hl,fun x hx=>by have:=h.es x hx;simp only [Ym,decide_eq_true_eq] at this;omega,h.cl,fun c hc=>by have:=h.cs c hc;omega⟩
theorem NdP.kid {n : Nd} (h : NdP n) {i : Nat} (hi : i ≤ n.es.length) : 0 ≤ QX n.cs i ∧ QX n.cs i < 4294967296:=by
 unfold QX;split
 ·omega
 ·have hl : i < n.cs.length:=by have:=h.cl;omega
  rw [List.getD_eq_getElem?_getD,List.getElem?_eq_getElem hl];exact h.cs _ (List.getElem_mem hl)
theorem QsG {n m : Nat} (h : n ≤ 8 * m) : QM n ≤ 8 * m:=by unfold QM;omega
theorem Qqx {n m : Nat} (h : n % 8 = 0) : QM (n + m) = n + QM m:=by unfold QM;omega
theorem NdP.ents {n : Nd} (h : NdP n) : ∀ k,k ≤ n.es.length → (QL n k).length ≤ 608 * k ∧ (QL n k).length % 8 = 0
 | 0,_=>by simp [QL]
 | k + 1,hk=>by
  have ih:=h.ents k (by omega);have hx:=h.es _ (QC (show k < n.es.length by omega));have hsz : (nth n.es k).sz = 8 + (nth n.es k).key.length + (nth n.es k).val.length:=rfl;have h1:=QsG (n:=(nth n.es k).sz) (m:=76) (by omega);have h2 : QM (nth n.es k).sz % 8 = 0:=by unfold QM;omega
  have h3 : (QL n (k + 1)).length = (QL n k).length + QM (nth n.es k).sz:=by
   show (QL n k ++ _).length = _;rw [List.length_append,Qdq]
  omega
def Qib (n : Nd) (k : Nat) : List UInt8:=if k ≤ n.es.length then QL n k else Xj n
theorem QlN {n : Nd} {k : Nat} (h : k ≤ n.es.length) : Qib n k = QL n k:=if_pos h
theorem Qj6 (n : Nd) : Qib n (n.es.length + 1) = Xj n:=if_neg (by omega)
theorem Qnw {n : Nd} {k : Nat} (h : k < n.es.length) : Qib n (k + 1) = QL n k ++ X2 (nth n.es k) (QX n.cs k):=by
 rw [QlN (by omega)];rfl
end Gx
