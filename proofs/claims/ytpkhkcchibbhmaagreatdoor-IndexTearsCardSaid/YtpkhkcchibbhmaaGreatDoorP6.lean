/- Contracts of the program's functions, proved by walking them with the rules of the Gx texts; without conditions beyond those that each contract names. -/
import Derived.WalkKit
import Derived.Deep.Draws
import Derived.TacticsIn
import Derived.OrdersIn
import Derived.RangeFuncLeaves
import Derived.Lib.Strings
import Derived.Laws.BytesArg
import Derived.Laws.IdiomStrings
import Derived.Deep.Quiet
import Derived.ProofKit
import Derived.OpenShut
import Derived.Laws.StructEq
import Derived.ChangeKeysEq
import Derived.Laws.Externs
import Derived.Lib.Overlaps
import Derived.Carry
import Derived.Laws.Small
import Derived.Lib.Bytealg
import Derived.Lib.Builder
import Derived.Laws.Pointers
import Derived.RangeFuncRecord
import Derived.Test.YtpkhkcchibbhmaaGreatDoorProg
import Derived.KernelRfl
import Derived.Test.YtpkhkcchibbhmaaGreatDoorTie
import Derived.Test.YtpkhkcchibbhmaaGreatDoorCards
import Derived.SevenTiedAt
import Derived.LaidMore
import Derived.Lay
import Derived.Stop.Joined
import Derived.Test.YtpkhkcchibbhmaaGreatDoorP5
set_option linter.unusedSimpArgs false
set_option maxHeartbeats 1000000
set_option linter.unusedVariables false
set_option linter.unusedSectionVars false
set_option linter.unnecessarySimpa false
namespace Go.Proofs
open Go Go.RowKit Gx
attribute [local irreducible] Go.Calls Gx.S Gx.O Gx.D Gx.OpP Gx.OpQ Gx.OpH
set_option maxRecDepth 20000
theorem QqF:QQ Tryz.prog 181=true:=by kernel_rfl
instance:TFn Tryz.prog 224:=⟨by kernel_rfl⟩
theorem QrC:QQ Tryz.prog 179=true:=by kernel_rfl
theorem QuE:QQ Tryz.prog 225=true:=by kernel_rfl
theorem c180(w:World)(bt:Nat)(j:Nat)(mo rm:Int)(gn cap:Nat)(L:List LNd)(p i:Nat)(hw:HS w (fps [.blk bt 37 4 [.int .i64 (j:Int),.int .i64 mo,.int .i64 rm,.slice (some ⟨gn,0,none⟩) (L).length cap],.blk gn 69 (cap*3) ((L).flatMap LNd.vals),.star ((L).map (QB 27))]) [.blk bt 37 4 [.int .i64 (j:Int),.int .i64 mo,.int .i64 rm,.slice (some ⟨gn,0,none⟩) (L).length cap],.blk gn 69 (cap*3) ((L).flatMap LNd.vals),.star ((L).map (QB 27))] w)(hnc:L.length<=cap)(hcm:cap<=maxLen)(hok:SpROk mo (pln L) p i):CE 180 #[.pointer (some ⟨bt,0,none⟩),.int .i64 (p:Int),.int .i64 (i:Int)] w (fps [.blk bt 37 4 [.int .i64 (j:Int),.int .i64 mo,.int .i64 rm,.slice (some ⟨gn,0,none⟩) (L).length cap],.blk gn 69 (cap*3) ((L).flatMap LNd.vals),.star ((L).map (QB 27))]) (λg:(Nat×Nat)×List LNd=>.tuple #[]) (λg=>(pln g.2=QhZ mo (pln L) p i/\g.2.length<=g.1.2/\g.1.2<=maxLen)) λg=>[.blk bt 37 4 [.int .i64 (j:Int),.int .i64 mo,.int .i64 rm,.slice (some ⟨g.1.1,0,none⟩) (g.2).length g.1.2],.blk g.1.1 69 (g.1.2*3) ((g.2).flatMap LNd.vals),.star ((g.2).map (QB 27))]:=by
 have hlt0:=hok.lt
 have hln0:=hok.len
 have hpl0:=hok.par
 rw[Qd]at hlt0 hln0 hpl0
 have hmo:=hok.mo0
 have hes0:=hok.es
 have hcs0:=hok.cs
 have hne:=QsA hok.lt hok.us
 have hfn:=Qp2 hok.lt hne
 have hfl:=QlP (pln L)
 have hfl2:=Qi4 (pln L)
 rw[Qd]at hfl2
 have hparE:=hok.parE
 have hparC:=hok.parC
 have hsA:=hok.sm.splRA mo i
 refine eW3 Tryz.func180 Tryz.ntmps180 hw ?_
 refine aU3 ?_
 refine o_h (QE (Cs:=[.blk bt 37 4 [.int .i64 (j:Int),.int .i64 mo,.int .i64 rm,.slice (some ⟨gn,0,none⟩) (L).length cap],.blk gn 69 (cap*3) ((L).flatMap LNd.vals),.star ((L).map (QB 27))]) rfl QqF rfl aPs (λw1 h1 hf=>c181 w1 bt j mo rm gn cap L hf hnc hcm om om)) rfl (λ⟨⟨gn1,cap1⟩,L1⟩hF1=>?_)
 dsimp only
 obtain⟨hL1,hn1,hm1⟩:=hF1
 simp only[]at hL1 hn1 hm1
 have hl1:L1.length=(Xi (pln L)).2.length:=by rw[<-hL1,Qd]
 have hi1:i<L1.length:=om
 have ho1:(Xi (pln L)).1<L1.length:=om
 have hN1:(nth L1 i).pl=nth (pln L) i:=by rw[<-Qr hi1,hL1,hfn]
 have hE1:(nth L1 i).es=(nth (pln L) i).es:=congrArg Nd.es hN1
 have hC1:(nth L1 i).cs=(nth (pln L) i).cs:=congrArg Nd.cs hN1
 have hsm1:(Qw mo)<(nth L1 i).es.length:=by rw[hE1];exact hes0
 have hsE1:=(hok.sm i).1
 rw[<-hE1]at hsE1
 have hsC1:=(hok.sm i).2
 rw[<-hC1]at hsC1
 rw[<-hC1]at hcs0
 have hxF:nth (Xi (pln L)).2 i=(nth L1 i).pl:=by rw[hfn,hN1]
 refine aU9 ?_
 refine o_p (Qa rfl rfl rfl QH (i) om om rfl) rfl (Qf (show _=Value.pointer (some ⟨gn1,i*3,none⟩)from by rw[Nat.zero_add]) (o_q (QU _ rfl rfl Xv rfl (λw h=>HS.nd_cells hi1 h aPk)) rfl (oAl (λb1 _=>?_) Xc)))
 refine aT9 ?_
 refine o_p (XC rfl rfl rfl om om om) rfl (Qf (show _=Value.int .i64 ((Qw mo):Int)from by unfold Qw;congr 1;omega) (aU6 ?_))
 refine X4 (λw h=>HS.es_some hi1 om h aPk) λhge=>?_
 obtain⟨ge,hge⟩:=hge
 refine X4 (λw h=>HS.es_room hi1 h aPk) λhrE=>X4 (λw h=>HS.cs_room hi1 h aPk) λhrC=>aU ?_
 refine o_p (Qa rfl rfl rfl Qy ((Qw mo)) om om hge) rfl (o_q (QU _ rfl rfl Xb rfl (λw h=>HS.es_rd hi1 hsm1 hge h aPk)) rfl (oAl (λb2 _=>?_) XD))
 refine aU3 ?_
 refine QbL [.blk bt 37 4 [.int .i64 (j:Int),.int .i64 mo,.int .i64 rm,.slice (some ⟨gn1,0,none⟩) L1.length cap1],.blk gn1 69 (cap1*3) (L1.flatMap LNd.vals),.star (L1.map (QB 27)),.blk b1 69 3 (LNd.vals (nth L1 i)),.blk b2 27 2 (TEnt.vals (nth (nth L1 i).es (Qw mo)))] [14] QG ?_
 refine dP 0 ?_
 refine dP 1 ?_
 refine dFa 2 ?_
 refine dLd 3 [[]] ?_
 refine dP 4 ?_
 refine dFa 6 ?_
 refine dLd 7 [[]] ?_
 refine dP 8 ?_
 refine dP 9 ?_
 try refine dWr ?_
 refine dV 10 rfl (QJ _ _ ((Qw mo)+1) ((nth L1 i).es.length) rfl rfl Qy ⟨_,_,rfl,om⟩ rfl om om) (dH 5 rfl (Xy rfl Qy) (λb3 _=>dH 11 rfl (QO (((nth L1 i).es.drop ((Qw mo)+1)).flatMap TEnt.vals) rfl rfl rfl Qy Tryz.underlying67 XD rfl aPk (λw h=>Rw.src ev2 (Rw.cut (HS.es_row hi1 h aPk) hrE.1) (HS.refl _ [])) (by rw[Qi ev2,List.length_drop]) (X5 ev1 _) om (by simp only[maxLen];omega)) (λb4 _=>dV 12 rfl (Qa rfl rfl rfl QH ((Xi (pln L)).1) om om rfl) (Qv (show _=Value.pointer (some ⟨gn1,(Xi (pln L)).1*3,none⟩)from by rw[Nat.zero_add]) (dFa 13 ?_)))))
 refine dSt 14 ?_ (hl:=(by rw[Qi nv3];show _+1<=_;omega))
 refine dTu [] ?_
 refine dNi ?_
 refine aU ?_
 refine Qe (L':=[(0,_),(1,_),(2,_),(6,_),(7,_),(8,_),(9,_)]) aSx (λ_ h=>h) ?_
 refine QnM (λw h=>HS.es_setN (gn:=gn1) (cap:=cap1) (ea:=b4.1) (ec:=b4.2) (es:=(nth L1 i).es.drop ((Qw mo)+1)) (n:=0+((nth L1 i).es.length-((Qw mo)+1))) (xs:=[]++((nth L1 i).es.drop ((Qw mo)+1)).flatMap TEnt.vals) ho1 (by rw[List.length_drop,Nat.zero_add]) (by rw[List.nil_append]) h aPk aPk aPk) λL2=>?_
 refine Yv (λw h=>h.1) λhS2=>YL (λw h=>h.2) ?_
 have hi2:i<L2.length:=by rw[hS2.len];exact hi1
 have hN2:nth L2 i=nth L1 i:=hS2.other hi1 hne
 refine QbL [.blk bt 37 4 [.int .i64 (j:Int),.int .i64 mo,.int .i64 rm,.slice (some ⟨gn1,0,none⟩) L1.length cap1],.blk gn1 69 (cap1*3) (L2.flatMap LNd.vals),.star (L2.map (QB 27)),.blk b1 69 3 (LNd.vals (nth L1 i)),.blk b2 27 2 (TEnt.vals (nth (nth L1 i).es (Qw mo)))] [13] QG ?_
 refine dP 0 ?_
 refine dP 1 ?_
 refine dFa 2 ?_
 refine dLd 3 [[]] ?_
 refine dP 4 ?_
 refine dFa 6 ?_
 refine dLd 7 [[]] ?_
 refine dP 8 ?_
 refine dV 9 rfl (QJ _ _ 0 (Qw mo) rfl rfl Qy rfl ⟨_,_,rfl,rfl⟩ om om) (dH 5 rfl (Xy rfl Qy) (λb5 _=>dH 10 rfl (QO (((nth L1 i).es.take (Qw mo)).flatMap TEnt.vals) rfl rfl rfl Qy Tryz.underlying67 XD rfl aPk (λw h=>Rw.src ev2 (QfI (Rw.cut (i:=0) (hN2▸HS.es_row hi2 h aPk) hrE.1) (Qw mo)) (HS.refl _ [])) (by rw[Qi ev2,List.length_take];omega) (X5 ev1 _) om (by simp only[maxLen];omega)) (λb6 _=>dV 11 rfl (Qa rfl rfl rfl QH (i) om om rfl) (Qv (show _=Value.pointer (some ⟨gn1,i*3,none⟩)from by rw[Nat.zero_add]) (dFa 12 ?_)))))
 refine dSt 13 ?_ (hl:=(by rw[Qi nv3];show _+1<=_;omega))
 refine dTu [] ?_
 refine dNi ?_
 refine aU4 ?_
 refine Qfc (λw h=>HS.es_setN (gn:=gn1) (cap:=cap1) (ea:=b6.1) (ec:=b6.2) (es:=(nth L1 i).es.take (Qw mo)) (n:=0+((Qw mo)-0)) (xs:=[]++((nth L1 i).es.take (Qw mo)).flatMap TEnt.vals) hi2 (by rw[List.length_take];omega) (by rw[List.nil_append]) h aPk aPk aPk) λL3=>?_
 refine X4 (λw h=>h.1) λhS3=>QZ (λw h=>h.2) ?_
 have hi3:i<L3.length:=by rw[hS3.len];exact hi2
 have ho3:(Xi (pln L)).1<L3.length:=by rw[hS3.len,hS2.len];exact ho1
 have hcr3:(nth L3 i).ca=(nth L1 i).ca/\(nth L3 i).cc=(nth L1 i).cc/\(nth L3 i).cs=(nth L1 i).cs:=by rw[hS3.at_,hN2];exact⟨rfl,rfl,rfl⟩
 refine aU4 ?_
 refine Qe (L':=[(0,_),(1,_),(2,_),(6,_),(7,_),(8,_),(9,_),(61,_)]) aSx (λ_ h=>h) ?_
 refine XP (α:=List LNd) [62,63,64,65,66,67,68,69,70,71,72,73,74,75,76,77,78,79,80,81,82,83,84,85,86,87,88,89] (λ_=>[]) (λx=>HS w (fps [.blk bt 37 4 [.int .i64 (j:Int),.int .i64 mo,.int .i64 rm,.slice (some ⟨gn,0,none⟩) (L).length cap],.blk gn 69 (cap*3) ((L).flatMap LNd.vals),.star ((L).map (QB 27))]) [.blk bt 37 4 [.int .i64 (j:Int),.int .i64 mo,.int .i64 rm,.slice (some ⟨gn1,0,none⟩) (x).length cap1],.blk gn1 69 (cap1*3) ((x).flatMap LNd.vals),.star ((x).map (QB 27)),.blk b2 27 2 (TEnt.vals (nth (nth L1 i).es (Qw mo)))]) (λx=>pln x=(splRA mo (pln L) i)/\x.length=L1.length) ?_ ?_
 ·skip
  refine sCd rfl (λh7=>?_) λh7=>?_
  ·have hcz:(nth L1 i).cs.length≠0:=by have hq:=h7;omega
   have hsm4:(Qw mo)+1<=(nth L1 i).cs.length:=om
   refine aU ?_
   refine QbL [.blk bt 37 4 [.int .i64 (j:Int),.int .i64 mo,.int .i64 rm,.slice (some ⟨gn1,0,none⟩) L1.length cap1],.blk gn1 69 (cap1*3) (L3.flatMap LNd.vals),.star (L3.map (QB 27)),.blk b1 69 3 (LNd.vals (nth L1 i)),.blk b2 27 2 (TEnt.vals (nth (nth L1 i).es (Qw mo)))] [14] QG ?_
   refine dP 0 ?_
   refine dP 1 ?_
   refine dFa 2 ?_
   refine dLd 3 [[]] ?_
   refine dP 4 ?_
   refine dFa 6 ?_
   refine dLd 7 [[]] ?_
   refine dP 8 ?_
   refine dP 9 ?_
   try refine dWr ?_
   refine dV 10 rfl (QJ _ _ ((Qw mo)+1) ((nth L1 i).cs.length) rfl rfl QM ⟨_,_,rfl,om⟩ rfl om om) (dH 5 rfl (Xy rfl QM) (λb8 _=>dH 11 rfl (QO (((nth L1 i).cs.drop ((Qw mo)+1)).flatMap inV) rfl rfl rfl QM Tryz.underlying28 YP rfl aPk (λw h=>Rw.src iv1 (Rw.cut (QlI hcr3 (HS.cs_row hi3 h aPk)) hrC.1) (HS.refl _ [])) (by rw[Qi iv1,List.length_drop]) (X5 Qfe _) om (by simp only[maxLen];omega)) (λb9 _=>dV 12 rfl (Qa rfl rfl rfl QH ((Xi (pln L)).1) om om rfl) (Qv (show _=Value.pointer (some ⟨gn1,(Xi (pln L)).1*3,none⟩)from by rw[Nat.zero_add]) (dFa 13 ?_)))))
   refine dSt 14 ?_ (hl:=(by rw[Qi nv3];show _+1<=_;omega))
   refine dTu [] ?_
   refine dNi ?_
   refine QnM (λw h=>HS.cs_setN (gn:=gn1) (cap:=cap1) (ca:=b9.1) (cc:=b9.2) (cs:=(nth L1 i).cs.drop ((Qw mo)+1)) (n:=0+((nth L1 i).cs.length-((Qw mo)+1))) (xs:=[]++((nth L1 i).cs.drop ((Qw mo)+1)).flatMap inV) ho3 (by rw[List.length_drop,Nat.zero_add]) (by rw[List.nil_append]) h aPk aPk aPk) λL4=>?_
   refine Yv (λw h=>h.1) λhS4=>YL (λw h=>h.2) ?_
   have hi4:i<L4.length:=by rw[hS4.len];exact hi3
   have hN4:nth L4 i=nth L3 i:=hS4.other hi3 hne
   have hcr4:(nth L4 i).ca=(nth L1 i).ca/\(nth L4 i).cc=(nth L1 i).cc/\(nth L4 i).cs=(nth L1 i).cs:=by rw[hN4];exact hcr3
   refine QbL [.blk bt 37 4 [.int .i64 (j:Int),.int .i64 mo,.int .i64 rm,.slice (some ⟨gn1,0,none⟩) L1.length cap1],.blk gn1 69 (cap1*3) (L4.flatMap LNd.vals),.star (L4.map (QB 27)),.blk b1 69 3 (LNd.vals (nth L1 i)),.blk b2 27 2 (TEnt.vals (nth (nth L1 i).es (Qw mo)))] [14] QG ?_
   refine dP 0 ?_
   refine dP 1 ?_
   refine dFa 2 ?_
   refine dLd 3 [[]] ?_
   refine dP 4 ?_
   refine dFa 6 ?_
   refine dLd 7 [[]] ?_
   refine dP 8 ?_
   refine dP 9 ?_
   try refine dWr ?_
   refine dV 10 rfl (QJ _ _ 0 ((Qw mo)+1) rfl rfl QM rfl ⟨_,_,rfl,om⟩ om om) (dH 5 rfl (Xy rfl QM) (λb10 _=>dH 11 rfl (QO (((nth L1 i).cs.take ((Qw mo)+1)).flatMap inV) rfl rfl rfl QM Tryz.underlying28 YP rfl aPk (λw h=>Rw.src iv1 (QfI (Rw.cut (i:=0) (QlI hcr4 (HS.cs_row hi4 h aPk)) hrC.1) ((Qw mo)+1)) (HS.refl _ [])) (by rw[Qi iv1,List.length_take];omega) (X5 Qfe _) om (by simp only[maxLen];omega)) (λb11 _=>dV 12 rfl (Qa rfl rfl rfl QH (i) om om rfl) (Qv (show _=Value.pointer (some ⟨gn1,i*3,none⟩)from by rw[Nat.zero_add]) (dFa 13 ?_)))))
   refine dSt 14 ?_ (hl:=(by rw[Qi nv3];show _+1<=_;omega))
   refine dTu [] ?_
   refine dNi ?_
   refine QnM (λw h=>HS.cs_setN (gn:=gn1) (cap:=cap1) (ca:=b11.1) (cc:=b11.2) (cs:=(nth L1 i).cs.take ((Qw mo)+1)) (n:=0+((Qw mo)+1-0)) (xs:=[]++((nth L1 i).cs.take ((Qw mo)+1)).flatMap inV) hi4 (by rw[List.length_take];omega) (by rw[List.nil_append]) h aPk aPk aPk) λL5=>?_
   exact Yv (λw h=>h.1) λhS5=>YL (λw h=>h.2) (Qp L5 ⟨by rw[hS5.cs,hS4.cs,hS3.es,hS2.es];exact(Qsz hL1.symm (hL1.symm▸hxF) hcz).symm,by rw[hS5.len,hS4.len,hS3.len,hS2.len]⟩ aSx (λw h=>by rw[hS5.len,hS4.len,hS3.len,hS2.len];exact h.ent aEt))
  have hcz:(nth L1 i).cs.length=0:=by have hq:=h7;omega
  refine aU ?_
  exact Qp L3 ⟨by rw[hS3.es,hS2.es];exact(Qsc hL1.symm (hL1.symm▸hxF) hcz).symm,by rw[hS3.len,hS2.len]⟩ aSx (λw h=>by rw[hS3.len,hS2.len];exact h.ent aEt)
 intro LA hx
 obtain⟨hA,hlA⟩:=hx
 have hpA:p<LA.length:=om
 have hNA:(nth LA p).pl=nth (splRA mo (pln L) i) p:=by rw[<-Qr hpA,hA]
 have hEA:(nth LA p).es=(nth (splRA mo (pln L) i) p).es:=congrArg Nd.es hNA
 have hCA:(nth LA p).cs=(nth (splRA mo (pln L) i) p).cs:=congrArg Nd.cs hNA
 have hsAE:=(hsA p).1
 have hsAC:=(hsA p).2
 rw[<-hEA]at hsAE
 rw[<-hCA]at hsAC
 have hparE2:(ixR (nth (splRA mo (pln L) i) p).cs (i:Int))<=(nth LA p).es.length:=by rw[hEA];exact hparE
 have hparC2:(ixR (nth (splRA mo (pln L) i) p).cs (i:Int))+1<=(nth LA p).cs.length:=by rw[hCA];exact hparC
 refine aU7 ?_
 refine oCq rfl (λw1 h1=>c224 w1 j mo rm (some ⟨gn1,0,none⟩) cap1 LA p (i:Int) hpA (HS.nt_at h1 aPk aPk) om om) (Qf (show _=Value.int .i64 ((ixR (nth (splRA mo (pln L) i) p).cs (i:Int)):Int)from by rw[hCA]) (aU3 ?_))
 refine Qu [18] QG ?_
 refine dP 0 ?_
 refine dP 1 ?_
 refine dFa 2 ?_
 refine dLd 3 [[]] ?_
 refine dP 4 ?_
 refine dP 5 ?_
 refine dP 6 ?_
 refine dFa 7 ?_
 refine dLd 8 [[]] ?_
 refine dP 9 ?_
 refine dV 10 rfl (Qa rfl rfl rfl QH (p) om om rfl) (Qv (show _=Value.pointer (some ⟨gn1,p*3,none⟩)from by rw[Nat.zero_add]) (dFa 11 ?_))
 refine dQ 12 [[]] rfl (Qx rfl rfl YE (λw h=>HS.nd_cell hpA h aPk 1 rfl (by decide))) (dP 13 ?_)
 refine dLn 14 [[]] ?_
 refine dH 15 rfl (Qav rfl QrC rfl (λw1 h1=>c179 w1 (nth LA p).ea (nth LA p).ec (nth LA p).es (ixR (nth (splRA mo (pln L) i) p).cs (i:Int)) (nth (nth L1 i).es (Qw mo)) (HS.es_row hpA h1 aPk) om hparE2 (HS.es_room hpA h1 aPk).1)) (λb12 _=>dBa ?_)
 refine dV 16 rfl (Qa rfl rfl rfl QH (p) om om rfl) (Qv (show _=Value.pointer (some ⟨gn1,p*3,none⟩)from by rw[Nat.zero_add]) (dFa 17 ?_))
 refine dSt 18 ?_ (hl:=(by rw[Qi nv3];show _+1<=_;omega))
 refine dTu [] ?_
 refine dNi ?_
 refine Qe (L':=[(0,_),(1,_),(6,_),(10,_)]) aSx (λ_ h=>h) ?_
 refine QnM (λw h=>HS.es_set (gn:=gn1) (cap:=cap1) (ea:=b12.1) (ec:=b12.2) (es:=QP (nth LA p).es (ixR (nth (splRA mo (pln L) i) p).cs (i:Int)) (nth (nth L1 i).es (Qw mo))) hpA h aPk aPk aPk) λLB=>?_
 refine Yv (λw h=>h.1) λhSB=>YL (λw h=>h.2) ?_
 have hpB:p<LB.length:=by rw[hSB.len];exact hpA
 have hBC:(nth LB p).cs=(nth LA p).cs:=by rw[hSB.at_]
 have hBCl:(nth LB p).cs.length=(nth LA p).cs.length:=by rw[hBC]
 refine Qu [19] QG ?_
 refine dP 0 ?_
 refine dP 1 ?_
 refine dFa 2 ?_
 refine dLd 3 [[]] ?_
 refine dP 4 ?_
 refine dP 5 ?_
 refine dP 6 ?_
 refine dFa 7 ?_
 refine dLd 8 [[]] ?_
 refine dP 9 ?_
 refine dV 10 rfl (Qa rfl rfl rfl QH (p) om om rfl) (Qv (show _=Value.pointer (some ⟨gn1,p*3,none⟩)from by rw[Nat.zero_add]) (dFa 11 ?_))
 refine dQ 12 [[]] rfl (Qx rfl rfl Ya (λw h=>HS.nd_cell hpB h aPk 2 rfl (by decide))) (dP 13 ?_)
 refine dP 14 ?_
 try refine dWr ?_
 refine dP 15 ?_
 refine dH 16 rfl (Qav rfl QuE rfl (λw1 h1=>c225 w1 (nth LB p).ca (nth LB p).cc (nth LB p).cs ((ixR (nth (splRA mo (pln L) i) p).cs (i:Int))+1) ((Xi (pln L)).1:Int) (HS.cs_row hpB h1 aPk) om om (HS.cs_room hpB h1 aPk).1)) (λb13 _=>dBa ?_)
 refine dV 17 rfl (Qa rfl rfl rfl QH (p) om om rfl) (Qv (show _=Value.pointer (some ⟨gn1,p*3,none⟩)from by rw[Nat.zero_add]) (dFa 18 ?_))
 refine dSt 19 ?_ (hl:=(by rw[Qi nv3];show _+1<=_;omega))
 refine dTu [] ?_
 refine dNi ?_
 exact Za rfl (λw' h'=>by obtain⟨LC,hSC,hC⟩:=HS.cs_set (gn:=gn1) (cap:=cap1) (ca:=b13.1) (cc:=b13.2) (cs:=QP (nth LB p).cs ((ixR (nth (splRA mo (pln L) i) p).cs (i:Int))+1) ((Xi (pln L)).1:Int)) hpB h' aPk aPk aPk;exact⟨((gn1,cap1),LC),rfl,⟨by rw[hSC.cs,hBC,hSB.es,hA,hEA,hCA];unfold QhZ addP;rw[hxF];rfl,by simp only[];rw[hSC.len,hSB.len,hlA];exact hn1,hm1⟩,by simp only[];rw[hSC.len,hSB.len];exact hC.ent aEt⟩)
theorem QqK:QQ Tryz.prog 180=true:=by kernel_rfl
theorem c123(w:World)(j:Nat)(mo rm:Int)(a:Option Addr)(cap:Nat)(L:List LNd)(x:TEnt)(hj:j<=3)(h0:0<L.length)(hB:Bd (pln L))(hT:TOk (j:Int) (pln L))(hs:Nt w [] a L)(hk:QL (j:Int) x.key=true)(hkl:x.key.length<=1000000)(hok0:InsROk (j:Int) mo rm (pln L) x):CE 123 #[.agg #[.int .i64 (j:Int),.int .i64 mo,.int .i64 rm,.slice a L.length cap],.agg #[.string (bs x.key),.string (bs x.val)]] w [] (λg:(Option Addr×Nat)×List LNd=>.agg #[.int .i64 (j:Int),.int .i64 mo,.int .i64 rm,.slice g.1.1 g.2.length g.1.2]) (λg=>pln g.2=Qsy (j:Int) mo rm (pln L) x) λg=>[.nodes 27 69 g.1.1 g.1.2 g.2]:=by
 have hln0:=hB.len
 rw[Qd]at hln0
 have hsmB:Sm 1000 (pln L):=Qve hB
 refine eN2 Tryz.func123 Tryz.ntmps123 ?_
 refine aU2 ?_
 refine oBx λb1 _=>?_
 refine oBx λb2 _=>?_
 refine oAl (λb3 _=>?_) Xn
 refine aU4 ?_
 refine oCh rfl (λw1 h1=>c21 w1 (j:Int) mo rm a cap L (hs.later h1.nil) hln0 hsmB) (λ⟨⟨ga0,gc0⟩,L9⟩hF9=>?_)
 dsimp only
 have hL9:pln L9=pln L:=hF9
 have hl9:L9.length=L.length:=by rw[<-Qd L9,hL9,Qd]
 have h09:0<L9.length:=om
 refine Qfc (λw h=>QeZ h09 h aPk) λgn=>?_
 refine X4 (p:=ga0=some ⟨gn,0,none⟩/\L9.length<=gc0/\gc0<=maxLen) (λw h=>⟨h.1,h.2.1,h.2.2.1⟩) λhgn=>?_
 obtain⟨hga,hn9,hm9⟩:=hgn
 subst hga
 refine QZ (λw h=>h.2.2.2) ?_
 have hB9:Bd (pln L9):=by rw[hL9];exact hB
 have hT9:TOk (j:Int) (pln L9):=by rw[hL9];exact hT
 have hK9:∀i,i<L9.length->∀y∈(nth L9 i).es,QL (j:Int) y.key=true/\y.key.length<=1000000:=λi hi y hy=>QcR hT9 i (by rw[Qd];exact hi) y (by rw[Qr hi];exact hy)
 have hok:InsROk (j:Int) mo rm (pln L9) x:=by rw[hL9];exact hok0
 have hne:=hok.ne
 have hlen9:=hok.len
 have hlf:=hok.lf
 rw[Qd]at hlf
 have hel9:=hB9.es _ (by rw[Qd];exact hlf)
 rw[Qr hlf]at hel9
 simp only[LNd.pl]at hel9
 refine oAl (λb4 _=>?_) Xn
 refine aU7 ?_
 refine oCh rfl (λw1 h1=>c18 w1 j mo rm (some ⟨gn,0,none⟩) gc0 L9 x.key hj h09 hB9 hT9 (HS.nt_at h1 aPk aPk) hk hkl) (λ⟨pa,pc⟩_=>?_)
 dsimp only
 refine X4 (λw h=>HS.pown_some (P:=(Qt (j:Int) (pln L9) x.key).1) (a:=pa) (c:=pc) hne h aPk) λhpa=>?_
 obtain⟨gp,hpa⟩:=hpa
 refine aT12 ?_
 refine o_p (Qa rfl rfl rfl QM ((Qt (j:Int) (pln L9) x.key).1.length-1) om om hpa) rfl (o_q (Qx rfl rfl Ye (λw h=>HS.pown_rd (P:=(Qt (j:Int) (pln L9) x.key).1) (a:=pa) (c:=pc) (k:=(Qt (j:Int) (pln L9) x.key).1.length-1) om hpa h aPk)) rfl (Qf (show _=Value.int .i64 ((Yf (Qt (j:Int) (pln L9) x.key).1):Int)from rfl) (aU8 ?_)))
 refine oCq rfl (λw1 h1=>c73 w1 j mo rm (some ⟨gn,0,none⟩) gc0 L9 (Yf (Qt (j:Int) (pln L9) x.key).1) x.key hj hlf (HS.nt_at h1 aPk aPk) om hel9 (hK9 _ hlf) hk hkl) (aU7 ?_)
 refine Qe (L':=[(3,_),(4,_),(5,_),(6,_),(8,_),(9,_)]) aSx (λ_ h=>h) ?_
 refine Qu [14] QG ?_
 refine dFa 0 ?_
 refine dLd 1 [[]] ?_
 refine dP 2 ?_
 refine dFa 3 ?_
 refine dLd 4 [[]] ?_
 refine dP 5 ?_
 refine dV 6 rfl (Qa rfl rfl rfl QH ((Yf (Qt (j:Int) (pln L9) x.key).1)) om om rfl) (Qv (show _=Value.pointer (some ⟨gn,(Yf (Qt (j:Int) (pln L9) x.key).1)*3,none⟩)from by rw[Nat.zero_add]) (dFa 7 ?_))
 refine dQ 8 [[]] rfl (Qx rfl rfl YE (λw h=>HS.nd_cell hlf h aPk 1 rfl (by decide))) (dP 9 ?_)
 refine dLn 10 [[]] ?_
 refine dH 11 rfl (Qav rfl QrC rfl (λw1 h1=>c179 w1 (nth L9 (Yf (Qt (j:Int) (pln L9) x.key).1)).ea (nth L9 (Yf (Qt (j:Int) (pln L9) x.key).1)).ec (nth L9 (Yf (Qt (j:Int) (pln L9) x.key).1)).es (plc (j:Int) (nth L9 (Yf (Qt (j:Int) (pln L9) x.key).1)).es x.key) x (HS.es_row hlf h1 aPk) om (Qat _ _ _) (HS.es_room hlf h1 aPk).1)) (λb5 _=>dBa ?_)
 refine dV 12 rfl (Qa rfl rfl rfl QH ((Yf (Qt (j:Int) (pln L9) x.key).1)) om om rfl) (Qv (show _=Value.pointer (some ⟨gn,(Yf (Qt (j:Int) (pln L9) x.key).1)*3,none⟩)from by rw[Nat.zero_add]) (dFa 13 ?_))
 refine dSt 14 ?_ (hl:=(by rw[Qi nv3];show _+1<=_;omega))
 refine dTu [] ?_
 refine dNi ?_
 refine aU4 ?_
 refine Qfc (λw h=>HS.es_set (gn:=gn) (cap:=gc0) (ea:=b5.1) (ec:=b5.2) (es:=QP (nth L9 (Yf (Qt (j:Int) (pln L9) x.key).1)).es (plc (j:Int) (nth L9 (Yf (Qt (j:Int) (pln L9) x.key).1)).es x.key) x) hlf h aPk aPk aPk) λL1=>?_
 refine X4 (λw h=>h.1) λhS1=>QZ (λw h=>h.2) ?_
 have hL1:pln L1=(QhP (j:Int) (pln L9) x):=by rw[hS1.es,QhP,Qr hlf];rfl
 refine QZ (C':=HS w [] [.blk b4 37 4 [.int .i64 (j:Int),.int .i64 mo,.int .i64 rm,.slice (some ⟨gn,0,none⟩) (L1).length gc0],.blk gn 69 (gc0*3) ((L1).flatMap LNd.vals),.star ((L1).map (QB 27)),.own (.slice pa ((Qt (j:Int) (pln L9) x.key).1).length pc) 3 1 ((Qt (j:Int) (pln L9) x.key).1).length (((Qt (j:Int) (pln L9) x.key).1).map λi:Nat=>Value.int .i64 (i:Int)),.blk b2 27 2 (TEnt.vals x),.blk b3 37 4 [.int .i64 0,.int .i64 0,.int .i64 0,.slice none 0 0]]) (λw2 h=>by rw[hS1.len];exact h.ent aEt) (aT2 ?_)
 refine Qf (show _=Value.int .i64 (((Qt (j:Int) (pln L9) x.key).1.length-1:Nat):Int)from by congr 1;omega) (aU3 ?_)
 refine Qe (L':=[(4,_),(5,_),(6,_),(11,_)]) aSx (λ_ h=>h) ?_
 refine Qo (α:=((Nat×Nat)×List LNd)×Nat) [11,53,54,55,56,57,58,59,60,61,62,63,64,65,66,67,68,69,70,71,72,73,74,75,76,77,78,79] (λy=>[(11,.int .i64 (y.2:Int))]) (λy=>HS w [] [.blk b4 37 4 [.int .i64 (j:Int),.int .i64 mo,.int .i64 rm,.slice (some ⟨y.1.1.1,0,none⟩) (y.1.2).length y.1.1.2],.blk y.1.1.1 69 (y.1.1.2*3) ((y.1.2).flatMap LNd.vals),.star ((y.1.2).map (QB 27)),.own (.slice pa ((Qt (j:Int) (pln L9) x.key).1).length pc) 3 1 ((Qt (j:Int) (pln L9) x.key).1).length (((Qt (j:Int) (pln L9) x.key).1).map λi:Nat=>Value.int .i64 (i:Int)),.blk b2 27 2 (TEnt.vals x),.blk b3 37 4 [.int .i64 0,.int .i64 0,.int .i64 0,.slice none 0 0]]) (λy=>Qb8 mo (Qt (j:Int) (pln L9) x.key).1 y.2 (pln y.1.2)=Qb8 mo (Qt (j:Int) (pln L9) x.key).1 ((Qt (j:Int) (pln L9) x.key).1.length-1) (QhP (j:Int) (pln L9) x)/\QfZ mo (Qt (j:Int) (pln L9) x.key).1 y.2 (pln y.1.2)/\y.2<(Qt (j:Int) (pln L9) x.key).1.length/\y.1.2.length<=y.1.1.2/\y.1.1.2<=maxLen) (λy=>y.2) (((gn,gc0),L1),(Qt (j:Int) (pln L9) x.key).1.length-1) ⟨by rw[hL1],by rw[hL1];exact hok.grw,by simp only[];omega,by simp only[];rw[hS1.len];exact hn9,hm9⟩ aSx (λw h=>h.ent aEt) (λ⟨⟨⟨ga,gc⟩,Lk⟩,k⟩hx=>?_)
 dsimp only
 obtain⟨hx1,hx2,hx3,hx4,hx5⟩:=hx
 simp only[]at hx1 hx2 hx3 hx4 hx5
 refine aU6 ?_
 refine sCd rfl (λh6=>?_) λh6=>?_
 ·obtain⟨k1,rfl⟩:∃k1,k=k1+1:=⟨k-1,om⟩
  obtain⟨hkl9,hsp⟩:=hx2.1
  rw[Qd]at hkl9
  rw[Qr hkl9]at hsp
  simp only[LNd.pl]at hsp
  refine aU4 ?_
  refine Qu [] QG ?_
  refine dFa 0 ?_
  refine dLd 1 [] ?_
  refine dP 2 ?_
  refine dP 3 ?_
  refine dV 4 rfl (Qa rfl rfl rfl QM (k1+1) om om hpa) (dQ 5 [] rfl (Qx rfl rfl Ye (λw h=>HS.pown_rd (P:=(Qt (j:Int) (pln L9) x.key).1) (a:=pa) (c:=pc) (k:=k1+1) om hpa h aPk)) (dV 6 rfl (Qa rfl rfl rfl QH ((nth (Qt (j:Int) (pln L9) x.key).1 (k1+1))) om om rfl) (Qv (show _=Value.pointer (some ⟨ga,(nth (Qt (j:Int) (pln L9) x.key).1 (k1+1))*3,none⟩)from by rw[Nat.zero_add]) (dFa 7 ?_))))
  refine dQ 8 [] rfl (Qx rfl rfl YE (λw h=>HS.nd_cell hkl9 h aPk 1 rfl (by decide))) (dV 9 rfl (QX rfl rfl Tryz.underlying67) (dFa 10 ?_))
  refine dLd 11 [] ?_
  refine dP 12 ?_
  refine dNi ?_
  refine sCd rfl (λh7=>?_) λh7=>?_
  ·have hbig:mo<((nth Lk (nth (Qt (j:Int) (pln L9) x.key).1 (k1+1))).es.length:Int):=h7
   refine Qu [9] QG ?_
   refine dP 0 ?_
   refine dP 1 ?_
   refine dP 2 ?_
   try refine dWr ?_
   refine dV 3 rfl (Qa rfl rfl rfl QM (k1) om om hpa) (dQ 4 [[]] rfl (Qx rfl rfl Ye (λw h=>HS.pown_rd (P:=(Qt (j:Int) (pln L9) x.key).1) (a:=pa) (c:=pc) (k:=k1) om hpa h aPk)) (dP 5 ?_))
   refine dP 6 ?_
   refine dV 7 rfl (Qa rfl rfl rfl QM (k1+1) om om hpa) (dQ 8 [[]] rfl (Qx rfl rfl Ye (λw h=>HS.pown_rd (P:=(Qt (j:Int) (pln L9) x.key).1) (a:=pa) (c:=pc) (k:=k1+1) om hpa h aPk)) (dH 9 rfl (QE (Cs:=[.blk b4 37 4 [.int .i64 (j:Int),.int .i64 mo,.int .i64 rm,.slice (some ⟨ga,0,none⟩) (Lk).length gc],.blk ga 69 (gc*3) ((Lk).flatMap LNd.vals),.star ((Lk).map (QB 27))]) rfl QqK rfl aPs (λw1 h1 hf=>c180 w1 b4 j mo rm ga gc Lk (nth (Qt (j:Int) (pln L9) x.key).1 k1) (nth (Qt (j:Int) (pln L9) x.key).1 (k1+1)) hf hx4 hx5 (hsp hbig))) (λ⟨⟨g5,c5⟩,L5⟩hF5=>dTu [] ?_)))
   refine dNi ?_
   refine aT4 ?_
   refine aU2 ?_
   exact sBk (((g5,c5),L5),k1) (by(try simp only[]);omega) ⟨by simp only[];rw[hF5.1,<-hx1,Qb8,if_pos (by rw[Qr hkl9];exact hbig)],by simp only[];rw[hF5.1];have h9:=hx2.2;rw[if_pos (by rw[Qr hkl9];exact hbig)]at h9;exact h9,by simp only[];omega,hF5.2.1,hF5.2.2⟩ (by refine Zm (congrArg (λe=>some (Value.int .i64 e)) (show _=_ from by simp only[];omega)) ?_;repeat (first|exact QdL|refine Zm rfl ?_))
  have hbig:¬mo<((nth Lk (nth (Qt (j:Int) (pln L9) x.key).1 (k1+1))).es.length:Int):=by have hq:=h7;omega
  refine aT5 ?_
  refine aU2 ?_
  exact sBk (((ga,gc),Lk),k1) (by(try simp only[]);omega) ⟨by simp only[];rw[<-hx1,Qb8,if_neg (by rw[Qr hkl9];exact hbig)],by simp only[];have h9:=hx2.2;rw[if_neg (by rw[Qr hkl9];exact hbig)]at h9;exact h9,by simp only[];omega,hx4,hx5⟩ (by refine Zm (congrArg (λe=>some (Value.int .i64 e)) (show _=_ from by simp only[];omega)) ?_;repeat (first|exact QdL|refine Zm rfl ?_))
 obtain rfl:k=0:=om
 have hLG:pln Lk=Qb8 mo (Qt (j:Int) (pln L9) x.key).1 ((Qt (j:Int) (pln L9) x.key).1.length-1) (QhP (j:Int) (pln L9) x):=hx1
 obtain⟨LG,rfl⟩:∃LG,LG=Lk:=⟨_,rfl⟩
 have hrt:RootROk mo rm (pln LG):=by rw[hLG];exact hok.root
 have hiG:0<LG.length:=by rw[<-Qd];exact hrt.lt
 have hlG:=hrt.len
 rw[Qd]at hlG
 refine Qh rfl ?_
 refine aU2 ?_
 refine Qu [] QG ?_
 refine dFa 0 ?_
 refine dLd 1 [] ?_
 refine dV 2 rfl (Qa rfl rfl rfl QH (0) om om rfl) (Qv (show _=Value.pointer (some ⟨ga,0*3,none⟩)from by rw[Nat.zero_add]) (dFa 3 ?_))
 refine dQ 4 [] rfl (Qx rfl rfl YE (λw h=>HS.nd_cell hiG h aPk 1 rfl (by decide))) (dV 5 rfl (QX rfl rfl Tryz.underlying67) (dFa 6 ?_))
 refine dLd 7 [] ?_
 refine dP 8 ?_
 refine dNi ?_
 refine Qe (L':=[(4,_),(5,_),(6,_),(11,_),(88,_)]) aSx (λ_ h=>h) ?_
 refine XP (α:=(Nat×Nat)×List LNd) [12,89,90,91,92,93,94,95,96,97,98,99,100,101,102,103,104,105,106,107,108,109,110,111,112,113,114,115,116,117,118,119,120,121,122,123,124,125,126,127,128,129,130,131] (λ_=>[]) (λy=>HS w [] [.blk b4 37 4 [.int .i64 (j:Int),.int .i64 mo,.int .i64 rm,.slice (some ⟨y.1.1,0,none⟩) (y.2).length y.1.2],.blk y.1.1 69 (y.1.2*3) ((y.2).flatMap LNd.vals),.star ((y.2).map (QB 27)),.blk b3 37 4 [.int .i64 0,.int .i64 0,.int .i64 0,.slice none 0 0]]) (λy=>pln y.2=QfV mo rm (pln LG)/\y.2.length<=y.1.2/\y.1.2<=maxLen) ?_ ?_
 ·skip
  refine sCd rfl (λh8=>?_) λh8=>?_
  ·have hbR:rm<((nth (pln LG) 0).es.length:Int):=by rw[Qr hiG];exact h8
   refine aU2 ?_
   refine o_h (QE (Cs:=[.blk b4 37 4 [.int .i64 (j:Int),.int .i64 mo,.int .i64 rm,.slice (some ⟨ga,0,none⟩) (LG).length gc],.blk ga 69 (gc*3) ((LG).flatMap LNd.vals),.star ((LG).map (QB 27))]) rfl QqF rfl aPs (λw1 h1 hf=>c181 w1 b4 j mo rm ga gc LG hf hx4 hx5 hiG om)) rfl (λ⟨⟨g6,c6⟩,L6⟩hF6=>?_)
   dsimp only
   obtain⟨hL6,hn6,hm6⟩:=hF6
   simp only[]at hL6 hn6 hm6
   have hi6:0<L6.length:=by have:=Qi4 (pln LG);rw[<-Qd,hL6];rw[Qd]at this;omega
   have ho6:(Xi (pln LG)).1<L6.length:=by rw[<-Qd,hL6];exact QlP _
   have hon:(Xi (pln LG)).1≠0:=by have:=QsY (ns:=pln LG) (by rw[Qd];exact hiG);omega
   refine aU3 ?_
   refine Qu [18,21] QG ?_
   refine dFa 0 ?_
   refine dLd 1 [[],[]] ?_
   refine dP 2 ?_
   refine dFa 3 ?_
   refine dLd 4 [[],[]] ?_
   refine dP 5 ?_
   refine dFa 6 ?_
   refine dLd 7 [[],[]] ?_
   refine dV 8 rfl (Qa rfl rfl rfl QH (0) om om rfl) (Qv (show _=Value.pointer (some ⟨g6,0*3,none⟩)from by rw[Nat.zero_add]) (dFa 9 ?_))
   refine dQ 10 [[],[]] rfl (Qx rfl rfl YE (λw h=>HS.nd_cell hi6 h aPk 1 rfl (by decide))) (dFa 11 ?_)
   refine dLd 12 [[],[]] ?_
   refine dV 13 rfl (Qa rfl rfl rfl QH (0) om om rfl) (Qv (show _=Value.pointer (some ⟨g6,0*3,none⟩)from by rw[Nat.zero_add]) (dFa 14 ?_))
   refine dQ 15 [[],[]] rfl (Qx rfl rfl Ya (λw h=>HS.nd_cell hi6 h aPk 2 rfl (by decide))) (dV 16 rfl (Qa rfl rfl rfl QH ((Xi (pln LG)).1) om om rfl) (Qv (show _=Value.pointer (some ⟨g6,(Xi (pln LG)).1*3,none⟩)from by rw[Nat.zero_add]) (dFa 17 ?_)))
   refine dSt 18 ?_ (hl:=(by rw[Qi nv3];show _+1<=_;omega))
   refine dTu [21] ?_
   refine dV 19 rfl (Qa rfl rfl rfl QH ((Xi (pln LG)).1) om om rfl) (Qv (show _=Value.pointer (some ⟨g6,(Xi (pln LG)).1*3,none⟩)from by rw[Nat.zero_add]) (dFa 20 ?_))
   refine Qep 21 rfl (Q8 rfl rfl rfl Ya rfl aPt (by rw[Qk,Qi nv3];show _+1<=_;omega) rfl) (by kernel_rfl) (λw h=>h.ent aEt) (λ_ _=>?_)
   refine dTu [] ?_
   refine dNi ?_
   refine aU3 ?_
   refine Qfc (λw h=>HS.node_move (i:=0) (gn:=g6) (cap:=c6) hi6 ho6 (λe=>hon e.symm) h aPk aPk) λL7=>?_
   refine X4 (λw h=>h.1) λhS7=>QZ (λw h=>h.2) ?_
   have hi7:0<L7.length:=by rw[hS7.len];exact hi6
   have hN7:nth L7 0=nth L6 0:=hS7.other hi6 hon
   rw[<-hN7]
   refine aU4 ?_
   refine o_h (Qg (cs:=[_]) rfl rfl QM YP rfl rfl rfl) rfl (λb9 _=>o_p (Qa rfl rfl rfl QH (0) om om rfl) rfl (Qf (show _=Value.pointer (some ⟨g6,0*3,none⟩)from by rw[Nat.zero_add]) (aU ?_)))
   refine Qah (Q8 rfl rfl rfl YE rfl aPt (by rw[Qi nv3];show _+1<=_;omega) rfl) (λ_ _=>o_p (Qa rfl rfl rfl QH (0) om om rfl) rfl (Qf (show _=Value.pointer (some ⟨g6,0*3,none⟩)from by rw[Nat.zero_add]) (aU ?_)))
   refine Qah (Q8 rfl rfl rfl Ya rfl aPt (by rw[Qk,Qi nv3];show _+1<=_;omega) rfl) (λ_ _=>aU2 ?_)
   refine Qe (L':=[(4,_),(5,_),(6,_),(11,_),(12,_),(88,_)]) aSx (λ_ h=>h) ?_
   refine QnM (λw h=>HS.node_low (i:=0) (gn:=g6) (cap:=c6) (ca:=some ⟨b9,0,none⟩) (cc:=1) (cs:=[((Xi (pln LG)).1:Int)]) hi7 (HS.own_shut (t:=3) (sz:=1) (n:=1) (cap:=1) (h.pick (A:=.blk b9 3 (1*1) (inV ((Xi (pln LG)).1:Int))) aPk) rfl (by decide) (by decide)) (.there aPk) .here aPk) λL8=>?_
   refine Yv (λw h=>h.1) λhS8=>YL (λw h=>h.2) ?_
   have ho8:(Xi (pln LG)).1<L8.length:=by rw[hS8.len,hS7.len];exact ho6
   have hl8:L8.length=L6.length:=by rw[hS8.len,hS7.len]
   have hL8:pln L8=(Qak (pln LG)).2:=Qr6 hL6 hi6 ho6 hS7 hS8 hi7
   refine YL (C':=HS w [] [.blk b4 37 4 [.int .i64 (j:Int),.int .i64 mo,.int .i64 rm,.slice (some ⟨g6,0,none⟩) (L8).length c6],.blk g6 69 (c6*3) ((L8).flatMap LNd.vals),.star ((L8).map (QB 27)),.own (.slice pa ((Qt (j:Int) (pln L9) x.key).1).length pc) 3 1 ((Qt (j:Int) (pln L9) x.key).1).length (((Qt (j:Int) (pln L9) x.key).1).map λi:Nat=>Value.int .i64 (i:Int)),.blk b2 27 2 (TEnt.vals x),.blk b3 37 4 [.int .i64 0,.int .i64 0,.int .i64 0,.slice none 0 0]]) (λw2 h=>by rw[hl8];exact h.ent aEt) (Qu [] QG ?_)
   refine dFa 0 ?_
   refine dLd 1 [] ?_
   refine dP 2 ?_
   refine dV 3 rfl (Qa rfl rfl rfl QH ((Xi (pln LG)).1) om om rfl) (Qv (show _=Value.pointer (some ⟨g6,(Xi (pln LG)).1*3,none⟩)from by rw[Nat.zero_add]) (dFa 4 ?_))
   refine dQ 5 [] rfl (Qx rfl rfl YE (λw h=>HS.nd_cell ho8 h aPk 1 rfl (by decide))) (dV 6 rfl (QX rfl rfl Tryz.underlying67) (dFa 7 ?_))
   refine dLd 8 [] ?_
   refine dP 9 ?_
   refine dNi ?_
   refine sCd rfl (λh10=>?_) λh10=>?_
   ·have hb8:mo<((nth (Qak (pln LG)).2 (Qak (pln LG)).1).es.length:Int):=by rw[<-hL8,show(Qak (pln LG)).1=(Xi (pln LG)).1 from rfl,Qr ho8];exact h10
    have hspR:=hrt.spl hbR hb8
    refine aU2 ?_
    refine o_h (QE (Cs:=[.blk b4 37 4 [.int .i64 (j:Int),.int .i64 mo,.int .i64 rm,.slice (some ⟨g6,0,none⟩) (L8).length c6],.blk g6 69 (c6*3) ((L8).flatMap LNd.vals),.star ((L8).map (QB 27))]) rfl QqK rfl aPs (λw1 h1 hf=>c180 w1 b4 j mo rm g6 c6 L8 0 (Xi (pln LG)).1 hf om hm6 (by rw[hL8];exact hspR))) rfl (λ⟨⟨g7,c7⟩,L9b⟩hF7=>aU ?_)
    exact Qp ((g7,c7),L9b) ⟨by rw[QfV,if_pos hbR,if_pos hb8,<-hL8];exact hF7.1,hF7.2.1,hF7.2.2⟩ aSx (λw h=>h.ent aEt)
   have hb8:¬mo<((nth (Qak (pln LG)).2 (Qak (pln LG)).1).es.length:Int):=by rw[<-hL8,show(Qak (pln LG)).1=(Xi (pln LG)).1 from rfl,Qr ho8];have hq:=h10;simp only[LNd.pl];omega
   refine aU ?_
   exact Qp ((g6,c6),L8) ⟨by rw[QfV,if_pos hbR,if_neg hb8];exact hL8,by simp only[];omega,hm6⟩ aSx (λw h=>h.ent aEt)
  have hbR:¬rm<((nth (pln LG) 0).es.length:Int):=by rw[Qr hiG];have hq:=h8;simp only[LNd.pl];omega
  refine aU ?_
  exact Qp ((ga,gc),LG) ⟨by rw[QfV,if_neg hbR],hx4,hx5⟩ aSx (λw h=>h.ent aEt)
 intro⟨⟨gz,cz⟩,LZ⟩ hz
 dsimp only
 obtain⟨hz1,hz2,hz3⟩:=hz
 simp only[]at hz1 hz2 hz3
 refine aU3 ?_
 refine Qah (Q8 rfl rfl rfl XM rfl aPt (by show 4<=4;omega) rfl) (λ_ _=>aU ?_)
 exact Qj (rs:=[.cell 4 37]) rfl (.cell rfl XM aPk rfl (.nil)) (λw' h'=>⟨((some ⟨gz,0,none⟩,cz),LZ),rfl,by rw[hz1,hLG,<-hL9];rfl,QgB (h'.ent (Bs:=[.blk gz 69 (cz*3) (LZ.flatMap LNd.vals),.star (LZ.map (QB 27))]) aEt) hz2 hz3⟩)
instance:TFn Tryz.prog 122:=⟨by kernel_rfl⟩
instance:TFn Tryz.prog 123:=⟨by kernel_rfl⟩
theorem c55(w:World)(N:Nat)(hN:N<=11):CE 55 #[.int .u8 ((96+N:Nat):Int)] w [] (λg:(Option Addr×Nat)×List LNd=>.agg #[.int .i64 0,.int .i64 4,.int .i64 2,.slice g.1.1 g.2.length g.1.2]) (λg=>pln g.2=Qca N) λg=>[.nodes 27 69 g.1.1 g.1.2 g.2]:=by
 refine eN1 Tryz.func55 Tryz.ntmps55 ?_
 refine aU2 ?_
 refine oAl (λb1 _=>?_) Xn
 refine aU3 ?_
 refine oCh rfl (λw1 h1=>c122 w1 0 4 2) (λb2 _=>?_)
 refine oAl (λb3 _=>?_) Xn
 refine aU8 ?_
 refine Qo (α:=Nat×(Option Addr×Nat)×List LNd) [4,6,7,8,9,10,11,12,13,14,15,16,17,18,19,20] (λy=>[(4,.int .u8 ((97+y.1:Nat):Int))]) (λy=>HS w [] [.nodes 27 69 y.2.1.1 y.2.1.2 y.2.2,.blk b3 37 4 [.int .i64 0,.int .i64 4,.int .i64 2,.slice y.2.1.1 (y.2.2).length y.2.1.2],.blk b1 37 4 [.int .i64 0,.int .i64 0,.int .i64 0,.slice none 0 0]]) (λy=>y.1<=N/\pln y.2.2=Qca y.1) (λy=>N-y.1) (0,(b2.1,b2.2),[(LNd.fre:LNd)]) ⟨Nat.zero_le _,rfl⟩ aSx (λw h=>by have h3:=HS.row_shut (a:=b2.1) (cap:=b2.2) (l:=[(LNd.fre:LNd)]) (sub:=QB 27) (t:=69) (sz:=3) (vals:=LNd.vals) (n:=1) (HS.sub_oneT (((h.own_nil 3 1).own_nil 27 2).ent (Bs:=[.own (.slice none 0 0) 27 2 0 [],.own (.slice none 0 0) 3 1 0 [],.own (.slice b2.1 1 b2.2) 69 3 1 [.bool true,.slice none 0 0,.slice none 0 0],.blk b3 37 4 [.int .i64 0,.int .i64 4,.int .i64 2,.slice b2.1 ([(LNd.fre:LNd)]).length b2.2],.blk b1 37 4 [.int .i64 0,.int .i64 0,.int .i64 0,.slice none 0 0]]) aEt)) rfl rfl;exact HS.ent (As:=[.nodes 27 69 b2.1 b2.2 [(LNd.fre:LNd)],.blk b3 37 4 [.int .i64 0,.int .i64 4,.int .i64 2,.slice b2.1 ([(LNd.fre:LNd)]).length b2.2],.blk b1 37 4 [.int .i64 0,.int .i64 0,.int .i64 0,.slice none 0 0]]) aEt h3) (λ⟨k,⟨ga,gc⟩,Lk⟩hx=>?_)
 dsimp only
 obtain⟨hk1,hk2⟩:=hx
 simp only[]at hk1 hk2
 refine aU7 ?_
 refine X0 3 9 12 rfl
  (λhg4 _=>by
   refine aU4 ?_
   exact oJt 3 12)
  (λhg6 _=>by
   refine aU2 ?_
   exact oJf 3 12) ?_
 refine aU ?_
 refine sCd rfl (λh8=>?_) λh8=>?_
 ·have hkN:k<N:=by omega
  obtain⟨hl0,hlB,hlT,hlI,hlK⟩:=Qwi (show k<11 by omega)
  rw[<-hk2]at hl0 hlB hlT hlI
  rw[Qd]at hl0
  refine aU6 ?_
  refine o_h (Qg (cs:=[_]) rfl rfl QR Qad rfl rfl rfl) rfl (λb9 _=>?_)
  refine o_q (Ym rfl rfl Tryz.underlying139 Tryz.underlying9 Tryz.underlying5 aPk (by simp) (by simp[QqX])) rfl ?_
  refine o_p (QF (cs:=[_,_]) rfl rfl QcG XD rfl) rfl ?_
  refine oCh rfl (λw1 h1=>c123 w1 0 4 2 ga gc Lk (QnL k) (by decide) hl0 hlB hlT (HS.nt h1 aPk) hlK (by show 1<=1000000;decide) hlI) (λ⟨gd,L5⟩hF5=>?_)
  dsimp only
  refine aU6 ?_
  try (refine Qf (u8add _ _) ?_)
  refine Qf (show _=Value.int .u8 ((97+(k+1):Nat):Int)from congrArg (Value.int .u8) (QpR k om)) ?_
  refine aU2 ?_
  exact sBk (k+1,(gd.1,gd.2),L5) (by(try simp only[]);omega) ⟨by(try simp only[]);omega,by simp only[];rw[hF5,hk2];rfl⟩
 obtain rfl:k=N:=om
 refine Qh rfl ?_
 refine aU5 ?_
 exact Qj (rs:=[.cell 2 37]) rfl (.cell rfl XM aPk rfl (.nil)) (λw' h'=>⟨((ga,gc),Lk),rfl,hk2,h'.ent aEt⟩)
theorem QvD:QQ Tryz.prog 105=true:=by kernel_rfl
instance:TFn Tryz.prog 45:=⟨by kernel_rfl⟩
instance:TFn Tryz.prog 104:=⟨by kernel_rfl⟩
theorem c45P(w:World)(co mo rm:Int)(a:Option Addr)(cap:Nat)(L:List LNd)(x:TEnt)(hs:Nt w [] a L)(hB:Bd (pln L))(hkl:∀i,i<L.length->∀x∈(nth L i).es,x.key.length<=1000000)(h0:(XQ (⟨co,mo,rm,pln L⟩:Tre)).2=0)(hkk:x.key.length<=1000000)(hp:InsP (⟨co,mo,rm,pln L⟩:Tre) x):CE 45 #[.agg #[.int .i64 co,.int .i64 mo,.int .i64 rm,.slice a L.length cap],.agg #[.string (bs x.key),.string (bs x.val)]] w [] (λg:((Int×Int×Int)×(Option Addr×Nat)×List LNd)×(Option Addr×Nat×Nat)=>.tuple #[.agg #[.int .i64 g.1.1.1,.int .i64 g.1.1.2.1,.int .i64 g.1.1.2.2,.slice g.1.2.1.1 g.1.2.2.length g.1.2.1.2],.slice g.2.1 g.2.2.1 g.2.2.2,.int .i64 (inE (⟨co,mo,rm,pln L⟩:Tre) x)]) (λg=>(inE (⟨co,mo,rm,pln L⟩:Tre) x=0->(⟨g.1.1.1,g.1.1.2.1,g.1.1.2.2,pln g.1.2.2⟩:Tre)=inT (⟨co,mo,rm,pln L⟩:Tre) x)) λg=>[.nodes 27 69 g.1.2.1.1 g.1.2.1.2 g.1.2.2]:=by
  obtain⟨j,rfl,hj⟩:=Qa7 (ZC h0).1
  by_cases hx0:Yc (j:Int) x=0
  · have hE:inE ⟨(j:Int),mo,rm,pln L⟩ x=QdF (j:Int) mo rm (pln L) x:=if_pos hx0
    by_cases hx:QdF (j:Int) mo rm (pln L) x=0
    · refine Calls.mono (c45o w j mo rm a cap L x hs hB hkl h0 hkk hx0 (hp.ok hx0) hx (hp.sm (hE.trans hx))) ?_;rintro en w' ⟨⟨⟨⟨g,c⟩,L5⟩,⟨qa,qc⟩⟩,he,hL,hw⟩;refine⟨⟨⟨⟨_,_,_⟩,⟨some ⟨g,0,none⟩,c⟩,L5⟩,⟨qa,_,qc⟩⟩,by rw[he,hE,hx],λ_=>?_,hw.ent aEt⟩;show _=inT _ x;simp only[]at hL;rw[hL];rfl
    · refine Calls.mono (c45c w j mo rm a cap L x hs hB hkl h0 hkk hx0 (hp.ok hx0) hx) ?_;rintro en w' ⟨he,hb⟩;exact⟨⟨⟨⟨0,0,0⟩,⟨none,0⟩,[]⟩,⟨none,0,0⟩⟩,by rw[he,hE];rfl,λh9=>absurd (hE▸h9) hx,Q9 27 69 (HS.of_below hb)⟩
  · have hE:inE ⟨(j:Int),mo,rm,pln L⟩ x=Yc (j:Int) x:=if_neg hx0;refine Calls.mono (c45x w j mo rm a cap L x hs hB hkl hkk h0 hx0) ?_;rintro en w' ⟨he,hb⟩;exact⟨⟨⟨⟨0,0,0⟩,⟨none,0⟩,[]⟩,⟨none,0,0⟩⟩,by rw[he,hE];rfl,λh9=>absurd (hE▸h9) hx0,Q9 27 69 (HS.of_below hb)⟩
theorem c105(w:World)(b1:Nat)(x:TEnt)(co mo rm:Int)(a:Option Addr)(cap:Nat)(L:List LNd)(hx:∀j v,([.string (bs x.key),.string (bs x.val)]:List Value)[j]?=some v->Rd w [] b1 (0+j) v)(hs:Nt w [] a L)(hB:Bd (pln L))(hkl:∀i,i<L.length->∀x∈(nth L i).es,x.key.length<=1000000)(h0:(XQ (⟨co,mo,rm,pln L⟩:Tre)).2=0)(hkk:x.key.length<=1000000)(hvv:x.val.length<=1000000)(hp:InsP (⟨co,mo,rm,pln L⟩:Tre) x):CE 105 #[.agg #[.int .i64 co,.int .i64 mo,.int .i64 rm,.slice a L.length cap],.pointer (some ⟨b1,0,none⟩)] w [] (λg:(Int×Int×Int)×(Option Addr×Nat)×List LNd=>.tuple #[.agg #[.int .i64 g.1.1,.int .i64 g.1.2.1,.int .i64 g.1.2.2,.slice g.2.1.1 g.2.2.length g.2.1.2],.int .i64 (YA (⟨co,mo,rm,pln L⟩:Tre) x)]) (λg=>(YA (⟨co,mo,rm,pln L⟩:Tre) x=0->(⟨g.1.1,g.1.2.1,g.1.2.2,pln g.2.2⟩:Tre)=(inT (⟨co,mo,rm,pln L⟩:Tre) x))) λg=>[.nodes 27 69 g.2.1.1 g.2.1.2 g.2.2]:=by
 have hFV:Xs [.int .i64 (inE (⟨co,mo,rm,pln L⟩:Tre) x),.int .i64 (bif YJ x then 0 else 8)]=YA (⟨co,mo,rm,pln L⟩:Tre) x:=by unfold YA YJ;simp only[Xs];grind
 refine eN2 Tryz.func105 Tryz.ntmps105 ?_
 refine aU2 ?_
 refine oBx λb1 _=>?_
 refine oAl (λb2 _=>?_) Xn
 refine aU5 ?_
 refine o_q (QI _ rfl rfl Xb rfl hx) rfl (oCh rfl (λw1 h1=>c45P w1 co mo rm a cap L x (hs.later h1.nil) hB hkl h0 hkk hp) (λ⟨⟨⟨c9,m9,r9⟩,⟨ga,gc⟩,L9⟩,⟨qa,qn,qc⟩⟩hg=>aU4 ?_))
 refine oAl (λb3 _=>?_) Xn
 refine aU5 ?_
 refine Qu [7] QG ?_
 refine dLn 0 [[]] ?_
 refine dP 1 ?_
 refine dQ 2 [[6,4,3]] rfl (QI _ rfl rfl Xb rfl hx) (dQ 3 [[6,4]] rfl (QA rfl Qq2 rfl (λw1 h1=>c88 w1 x hkk hvv)) (dQ 4 [[6]] rfl (QA rfl Qbx rfl (λw1 h1=>c60 w1 _ _)) (dH 5 rfl (Qg (cs:=[_,_]) rfl rfl Yt ZP rfl rfl rfl) (λb4 _=>dBa ?_))))
 refine dQ 6 [[]] rfl (QA rfl Qgw rfl (λw1 h1=>f59 h1 aPk (by rfl) (by rfl) (by decide))) (Qv (show _=Value.int .i64 (YA (⟨co,mo,rm,pln L⟩:Tre) x)from by rw[<-hFV]) (dSt 7 ?_ (hl:=(by simp only[Qk,List.length_set,List.length_cons,List.length_nil,List.length_map];omega))))
 refine dTu [] ?_
 refine dP 8 ?_
 refine dNi ?_
 exact Qj (rs:=[.cell 3 37,.tmp 4]) rfl (.cell rfl XM aPk rfl (.tmp rfl (.nil))) (λw' h'=>⟨⟨⟨c9,m9,r9⟩,⟨ga,gc⟩,L9⟩,rfl,λh9=>hg (by unfold YA at h9;grind),h'.ent aEt⟩)
set_option maxHeartbeats 2000000 in
theorem c104(w:World)(x:Ixs)(lsn:Int)(q:Nat)(cv:Array Value)(T2:Tre)(E:Int)(hl:x.al.length<=900000)(hr5:x.ro.length<=1000000)(hb:x.bm.length<=100000)(hq:QQ Tryz.prog q=true)(hc:(rdI x).2=0->∀(w1:World)(a:Option Addr)(cap:Nat)(L:List LNd),HS w [] [] w1->Nt w1 [] a L->pln L=(rdI x).1.1.ns->Calls Tryz.prog q (#[]++[.agg #[.int .i64 (rdI x).1.1.co,.int .i64 (rdI x).1.1.mo,.int .i64 (rdI x).1.1.rm,.slice a L.length cap]].toArray++cv) w1 λen w2=>∃g:(Int×Int×Int)×(Option Addr×Nat)×List LNd,en=.returned (.tuple #[.agg #[.int .i64 g.1.1,.int .i64 g.1.2.1,.int .i64 g.1.2.2,.slice g.2.1.1 g.2.2.length g.2.1.2],.int .i64 (E)])/\(E=0->(⟨g.1.1,g.1.2.1,g.1.2.2,pln g.2.2⟩:Tre)=T2)/\HS w1 [] [.nodes 27 69 g.2.1.1 g.2.1.2 g.2.2] w2)(hi:(rdI x).2=0->E=0->Zy T2=0):CE 104 #[.agg #[.string (bs x.ro),.string (bs x.al),.string (bs x.bm)],.int .i64 lsn,.func (.func q) #[] cv] w [] (λg:Option Addr×Nat=>.tuple #[.agg #[.string (bs (opX x T2 E lsn).ro),.string (bs (opX x T2 E lsn).al),.string (bs (opX x T2 E lsn).bm)],.slice g.1 (opL x T2 E lsn).length g.2,.int .i64 (opE x E lsn)]) (λg=>True) λg=>[.own (.slice g.1 ((opL x T2 E lsn)).length g.2) 3 1 ((opL x T2 E lsn)).length (((opL x T2 E lsn)).map λi:Nat=>Value.int .i64 (i:Int))]:=by
 have hFV:Xs [.int .i64 E,.int .i64 (bif (decide (0<=lsn)&&decide (lsn<=2147483647))then 0 else 2)]=if E=0 then if 0<=lsn/\lsn<=2147483647 then 0 else 2 else E:=by simp only[Xs];grind
 refine eN3 Tryz.func104 Tryz.ntmps104 ?_
 refine aU2 ?_
 refine oBx λb1 _=>?_
 refine oAl (λb2 _=>?_) QaG
 refine aU6 ?_
 refine oCh rfl (λw1 h1=>c82 w1 x hl hr5 hb) (λ⟨⟨⟨oa,oc⟩,OL⟩,⟨c2,m2,r2⟩,⟨ra,rn,rc⟩⟩hOL=>aU5 ?_)
 refine oAl (λb3 _=>?_) Qas
 refine oAl (λb4 _=>?_) Xn
 refine Zw ?_
 refine sCd rfl (λh5=>?_) λh5=>?_
 ·have hr:¬(rdI x).2=0:=h5
  have hE:¬(opE x E lsn)=0:=by unfold opE;rw[if_neg hr];exact hr
  have hOE:(opE x E lsn)=(rdI x).2:=if_neg hr
  have hX:(opX x T2 E lsn)=⟨[],[],[]⟩:=if_neg hE
  have hL9:(opL x T2 E lsn)=[]:=if_neg hE
  refine aU2 ?_
  refine o_p (QF (cs:=[_,_,_]) rfl rfl QmA QaG rfl) rfl (aU5 ?_)
  exact Qj (rs:=[.cell 6 23,.tmp 7,.tmp 8]) rfl (.cell rfl Qdo aPk rfl (.tmp rfl (.tmp rfl (.nil)))) (λw' h'=>⟨(none,0),by rw[hX,hL9,hOE];rfl,trivial,by rw[hL9];exact(h'.nil.own_nil 3 1).ent aEt⟩)
 have hr:(rdI x).2=0:=h5
 have hOE:(opE x E lsn)=if E=0 then if 0<=lsn/\lsn<=2147483647 then 0 else 2 else E:=if_pos hr
 refine aU5 ?_
 refine o_h (Qi2 (Cs:=[]) (Mc:=[]) rfl rfl hq rfl (.refl _) (λb hb=>nomatch hb) (λw1 h1=>hc hr w1 oa oc OL h1.nil (HS.nt h1 aPk) hOL)) rfl (λ⟨⟨c9,m9,r9⟩,⟨ga,gc⟩,L9⟩hg=>aU3 ?_)
 refine oAl (λb6 _=>?_) Xn
 refine aU8 ?_
 refine oCq rfl (λw1 h1=>c100 w1 _) (o_h (Qg (cs:=[_,_]) rfl rfl Yt ZP rfl rfl rfl) rfl (λb7 _=>oCq rfl (λw1 h1=>f59 h1 aPk (by rfl) (by rfl) (by decide)) (Qf (show _=Value.int .i64 (opE x E lsn)from by rw[hOE,<-hFV]) (aU3 ?_))))
 refine Qe (L':=[(1,_),(6,_),(7,_),(8,_),(9,_),(10,_),(12,_),(13,_)]) aSx (λ_ h=>h) ?_
 refine aU4 ?_
 refine sCd rfl (λh8=>?_) λh8=>?_
 ·have hE:¬(opE x E lsn)=0:=h8
  have hX:(opX x T2 E lsn)=⟨[],[],[]⟩:=if_neg hE
  have hL9:(opL x T2 E lsn)=[]:=if_neg hE
  refine aU2 ?_
  refine o_p (QF (cs:=[_,_,_]) rfl rfl QmA QaG rfl) rfl (aU5 ?_)
  exact Qj (rs:=[.cell 6 23,.tmp 7,.tmp 8]) rfl (.cell rfl Qdo aPk rfl (.tmp rfl (.tmp rfl (.nil)))) (λw' h'=>⟨(none,0),by rw[hX,hL9];rfl,trivial,by rw[hL9];exact(h'.nil.own_nil 3 1).ent aEt⟩)
 have hE:(opE x E lsn)=0:=h8
 obtain⟨_,hE0,hl9⟩:=Qox hE
 have hT9:=hg hE0
 have hO:pln OL=Xf x x.n:=(show pln OL=(rdI x).1.1.ns from hOL).trans (QbH hr).2.1
 have hi9:Zy ⟨c9,m9,r9,pln L9⟩=0:=by have h9:=hi hr hE0;rw[<-hT9]at h9;exact h9
 refine Yv (λw h=>HS.nodes_cap (a:=ga) (L:=L9) h aPk) λhcp=>?_
 have hX:(opX x T2 E lsn)=chX x (pln OL) ⟨c9,m9,r9,pln L9⟩ lsn:=by unfold opX;rw[if_pos hE,<-hT9,(QbH hr).2.1,hO]
 have hL9:(opL x T2 E lsn)=chL x (chX x (pln OL) ⟨c9,m9,r9,pln L9⟩ lsn):=by unfold opL;rw[if_pos hE,<-hT9,(QbH hr).2.1,hO]
 refine aU7 ?_
 refine oCh rfl (λw1 h1=>c101 w1 x c2 m2 r2 ra rn rc c9 m9 r9 ga gc L9 (rdI x).1.1.co (rdI x).1.1.mo (rdI x).1.1.rm oa oc OL lsn (HS.nt h1 aPk) (HS.nt h1 aPk) hr hO hi9 hl9 hl hcp.1 hcp.2) (λ⟨la,lc⟩_=>aU3 ?_)
 refine oAl (λb9 _=>?_) QaG
 refine Zw ?_
 exact Qj (rs:=[.cell 6 23,.tmp 7,.tmp 8]) rfl (.cell rfl Qdo aPk rfl (.tmp rfl (.tmp rfl (.nil)))) (λw' h'=>⟨(la,lc),by rw[hX,hL9,hE];rfl,trivial,by rw[hL9];exact h'.ent aEt⟩)
set_option maxHeartbeats 2000000 in
theorem c43(w:World)(x:Ixs)(e:TEnt)(lsn:Int)(hl:x.al.length<=900000)(hr5:x.ro.length<=1000000)(hb:x.bm.length<=100000)(hkk:e.key.length<=1000000)(hvv:e.val.length<=1000000)(hp:(rdI x).2=0->InsX x e):CE 43 #[.agg #[.string (bs x.ro),.string (bs x.al),.string (bs x.bm)],.agg #[.string (bs e.key),.string (bs e.val)],.int .i64 lsn] w [] (λg:Option Addr×Nat=>.tuple #[.agg #[.string (bs (opX x (inT (rdI x).1.1 e) (YA (rdI x).1.1 e) lsn).ro),.string (bs (opX x (inT (rdI x).1.1 e) (YA (rdI x).1.1 e) lsn).al),.string (bs (opX x (inT (rdI x).1.1 e) (YA (rdI x).1.1 e) lsn).bm)],.slice g.1 (opL x (inT (rdI x).1.1 e) (YA (rdI x).1.1 e) lsn).length g.2,.int .i64 (opE x (YA (rdI x).1.1 e) lsn)]) (λg=>True) λg=>[.own (.slice g.1 ((opL x (inT (rdI x).1.1 e) (YA (rdI x).1.1 e) lsn)).length g.2) 3 1 ((opL x (inT (rdI x).1.1 e) (YA (rdI x).1.1 e) lsn)).length (((opL x (inT (rdI x).1.1 e) (YA (rdI x).1.1 e) lsn)).map λi:Nat=>Value.int .i64 (i:Int))]:=by
 refine eN3 Tryz.func43 Tryz.ntmps43 ?_
 refine aU2 ?_
 refine oBx λb1 _=>?_
 refine oBx λb2 _=>?_
 refine oAl (λb3 _=>?_) QaG
 refine aU8 ?_
 refine oCh rfl (λw1 h1=>c104 w1 x lsn 105 #[.pointer (some ⟨b2,0,none⟩)] (inT (rdI x).1.1 e) (YA (rdI x).1.1 e) hl hr5 hb QvD (λhr w2 a cap L h2 hs hL=>by obtain⟨h0,hn9,hB9,hk9⟩:=QbH hr;rw[<-hn9,<-hL]at hB9 hk9;have h9:=c105 w2 b2 e (rdI x).1.1.co (rdI x).1.1.mo (rdI x).1.1.rm a cap L (λj v hv=>by rw[Nat.zero_add];exact(h1.call h2).rd_blk (Mc:=[]) aPk hv (by simp)) hs hB9 (λi hi y hy=>hk9 (nth L i).pl (by rw[<-Qr hi];exact Qz (by rw[Qd];exact hi)) y hy) (by rw[hL];exact h0) hkk hvv (by rw[hL];exact(hp hr).ok);rw[hL]at h9;exact h9) (λhr=>(hp hr).ix)) (λ⟨la,lc⟩_=>aU7 ?_)
 exact Qj (rs:=[.cell 6 23,.tmp 7,.tmp 8]) rfl (.cell rfl Qdo aPk rfl (.tmp rfl (.tmp rfl (.nil)))) (λw' h'=>⟨(la,lc),rfl,trivial,h'.ent aEt⟩)
end Go.Proofs
namespace Gx
open Go Go.RowKit
def awT:Tre:=⟨0,4,2,Qca 5⟩
def awX:Ixs:=wrI awT
def awF:TEnt:=⟨[102],[]⟩
def awU:Tre:=inT awT awF
def awY:Ixs:=chX awX awT.ns awU 5
theorem Qvd:Zy awT=0:=by decide +kernel
theorem ax_b:bdB (Qca 5)=true:=by decide +kernel
theorem ax_n:Qtl 0 4 2 (Qca 5) awF=true:=by decide +kernel
theorem ax_s:smB 100000 awU.ns=true:=by decide +kernel
theorem ax_E:YA awT awF=0:=by decide +kernel
theorem ax_u:Zy awU=0:=by decide +kernel
theorem QuQ:YH ⟨[99],[]⟩ 1=0/\YG ⟨[99],[]⟩ 1=[16,0,1,0,1,0,0,0,99,0,0,0,0,0,0,0]:=by decide +kernel
theorem Qop:awX.ro.length=32/\awX.al.length=1024/\awX.bm=[3,0,0,0,0,0,0,0]:=by decide +kernel
theorem ax_l:chL awX awY=[2]:=by decide +kernel
theorem ax_f:(QaC awY [101]).1.2=[2]/\(QaC awY [101]).2=0:=by decide +kernel
theorem Qvr:awY.ro.length<=1000/\awY.al.length<=10000/\awY.bm.length<=1000:=by decide +kernel
def klB(ns:List Nd):Bool:=ns.all λn=>n.es.all λx=>decide (x.key.length<=1000000/\x.val.length<=1000000)
theorem ax_k:klB (Qca 5)=true:=by decide +kernel
theorem Qws{L:List LNd}(h:klB (pln L)=true):∀i,i<L.length->∀x∈(nth L i).es,x.key.length<=1000000/\x.val.length<=1000000:=λi hi x hx=>
 of_decide_eq_true (List.all_eq_true.1 (List.all_eq_true.1 h (nth L i).pl (by rw[<-Qr hi];exact Qz (by rw[Qd];exact hi))) x hx)
theorem QuX:rdI awX=((awT,0),0):=QwD Qvd
theorem ax_X(_:(rdI awX).2=0):InsX awX awF:=by
 have e:(rdI awX).1.1=awT:=by rw[QuX]
 refine⟨?_,λ_=>?_⟩<;>rw[e]
 ·exact⟨λ_ _=>QoV ax_n,λ_=>QgR ax_s⟩
 ·exact ax_u
theorem QqQ:opX awX (inT (rdI awX).1.1 awF) (YA (rdI awX).1.1 awF) 5=awY/\opL awX (inT (rdI awX).1.1 awF) (YA (rdI awX).1.1 awF) 5=[2]/\opE awX (YA (rdI awX).1.1 awF) 5=0:=by
 have e:(rdI awX).1.1=awT:=by rw[QuX]
 have h:opE awX (YA (rdI awX).1.1 awF) 5=0:=by unfold opE;rw[if_pos (by rw[QuX]),e,ax_E];decide
 refine⟨?_,?_,h⟩
 ·unfold opX;rw[if_pos h,e];rfl
 ·unfold opL;rw[if_pos h,e];exact ax_l
end Gx
namespace Go.Proofs
open Go Go.RowKit Gx
attribute [local irreducible] Go.Calls Gx.S Gx.O Gx.D Gx.OpP Gx.OpQ Gx.OpH
set_option maxRecDepth 20000
instance:TFn Tryz.prog 55:=⟨by kernel_rfl⟩
instance:TFn Tryz.prog 43:=⟨by kernel_rfl⟩
theorem ax_w:wfI awT=awX:=if_pos Qvd
theorem c43w(w:World):CE 43 #[.agg #[.string (bs awX.ro),.string (bs awX.al),.string (bs awX.bm)],.agg #[.string (bs [102]),.string (bs [])],.int .i64 5] w [] (λg:Option Addr×Nat=>.tuple #[.agg #[.string (bs awY.ro),.string (bs awY.al),.string (bs awY.bm)],.slice g.1 1 g.2,.int .i64 0]) (λg=>True) λg=>[.own (.slice g.1 1 g.2) 3 1 1 [.int .i64 2]]:=by
  have h9:=c43 w awX awF 5 (by have:=Qop;omega) (by have:=Qop;omega) (by rw[Qop.2.2];decide) (by decide) (by decide) ax_X;rw[QqQ.1,QqQ.2.1,QqQ.2.2]at h9;exact h9
theorem c13w(w:World):CE 13 #[.agg #[.string (bs awY.ro),.string (bs awY.al),.string (bs awY.bm)],.string (bs [101])] w [] (λg:Option Addr×Nat=>.tuple #[.agg #[.string (bs (QaC awY [101]).1.1.key),.string (bs (QaC awY [101]).1.1.val)],.slice g.1 1 g.2,.int .i64 0]) (λg=>True) λg=>[.own (.slice g.1 1 g.2) 3 1 1 [.int .i64 2]]:=by
  have h9:=c13 w awY [101] (by have:=Qvr;omega) (by have:=Qvr;omega) (by have:=Qvr;omega) (by decide);rw[ax_f.1,ax_f.2]at h9;exact h9
theorem c11w(w:World):CR 11 #[] w (.bool true):=by
 refine eN0 Tryz.func11 Tryz.ntmps11 ?_
 refine aU6 ?_
 refine o_p (QF (cs:=[_,_]) rfl rfl QcG XD rfl) rfl (oCq rfl (λw1 h1=>by have h9:=c26 w1 ⟨[99],[]⟩ 1 (by decide) (by decide);rw[if_pos QuQ.1,QuQ.2,QuQ.1]at h9;exact h9) (aU8 ?_))
 refine oCh rfl (λw1 h1=>c55 w1 5 (by decide)) (λ⟨⟨ga,gc⟩,L1⟩hL1=>oCq rfl (λw1 h1=>by have h9:=c20 w1 0 4 2 ga gc L1 (HS.nt h1 aPk) (by rw[hL1];exact QpA ax_b) (HS.nodes_cap h1 aPk).1 (HS.nodes_cap h1 aPk).2 (Qws (by rw[hL1];exact ax_k));rw[hL1,show(⟨0,4,2,Qca 5⟩:Tre)=awT from rfl,ax_w,Qvd]at h9;exact h9) (aU3 ?_))
 refine oAl (λb1 _=>?_) QaG
 refine aU6 ?_
 refine o_p (QF (cs:=[_,_]) rfl rfl QcG XD rfl) rfl (oCh rfl (λw1 h1=>c43w w1) (λ⟨la,lc⟩_=>aU4 ?_))
 refine oAl (λb2 _=>?_) QaG
 refine aU7 ?_
 refine oCh rfl (λw1 h1=>c13w w1) (λ⟨pa,pc⟩_=>aU4 ?_)
 refine oAl (λb3 _=>?_) XD
 refine aU5 ?_
 refine Qe (L':=[(0,_),(1,_),(2,_),(3,_),(4,_),(6,_),(7,_),(9,_),(10,_)]) aSx (λ_ h=>h) ?_
 refine aU4 ?_
 refine X0 3 36 39 rfl
  (λhg4 _=>by
   refine aU4 ?_
   exact oJt 3 39)
  (λhg6 _=>by
   refine aU2 ?_
   exact oJf 3 39) ?_
 refine aU ?_
 refine X0 3 40 43 rfl
  (λhg8 _=>by
   refine aU4 ?_
   exact oJt 3 43)
  (λhg10 _=>by
   refine aU2 ?_
   exact oJf 3 43) ?_
 refine aU ?_
 refine X0 5 44 49 rfl
  (λhg12 _=>by
   refine aU5 ?_
   refine o_p (Qn rfl rfl Tryz.underlying9) rfl (aU2 ?_)
   refine Qf (show _=Value.bool true from by rw[Qop.1];rfl) ?_
   exact oJt 5 49)
  (λhg14 _=>by
   refine aU4 ?_
   exact oJf 5 49) ?_
 refine aU ?_
 refine X0 5 50 55 rfl
  (λhg16 _=>by
   refine aU5 ?_
   refine o_p (Qn rfl rfl Tryz.underlying9) rfl (aU2 ?_)
   refine Qf (show _=Value.bool true from by rw[Qop.2.1];rfl) ?_
   exact oJt 5 55)
  (λhg18 _=>by
   refine aU4 ?_
   exact oJf 5 55) ?_
 refine aU ?_
 refine X0 4 56 60 rfl
  (λhg20 _=>by
   refine aU6 ?_
   refine Qf (show _=Value.bool true from by rw[Qop.2.2];rfl) ?_
   exact oJt 4 60)
  (λhg22 _=>by
   refine aU3 ?_
   exact oJf 4 60) ?_
 refine aU ?_
 refine X0 3 61 64 rfl
  (λhg24 _=>by
   refine aU4 ?_
   exact oJt 3 64)
  (λhg26 _=>by
   refine aU2 ?_
   exact oJf 3 64) ?_
 refine aU ?_
 refine X0 4 65 69 rfl
  (λhg28 _=>by
   refine aU3 ?_
   refine o_h (Qg (cs:=[_]) rfl rfl QM YP rfl rfl rfl) rfl (λb30 _=>aU ?_)
   refine oCq rfl (λw1 h1=>c15 w1 la (some ⟨b30,0,none⟩) lc 1 [2] [2] (HS.pown_row (P:=[2]) h1 aPk) (h1.rw_blk (l:=[2]) iv1 aPk) (by decide) (by decide)) ?_
   exact oJt 4 69)
  (λhg31 _=>by
   refine aU3 ?_
   exact oJf 4 69) ?_
 refine aU ?_
 refine X0 3 70 73 rfl
  (λhg33 _=>by
   refine aU4 ?_
   exact oJt 3 73)
  (λhg35 _=>by
   refine aU2 ?_
   exact oJf 3 73) ?_
 refine aU ?_
 refine X0 4 74 78 rfl
  (λhg37 _=>by
   refine aU3 ?_
   refine o_h (Qg (cs:=[_]) rfl rfl QM YP rfl rfl rfl) rfl (λb39 _=>aU ?_)
   refine oCq rfl (λw1 h1=>c15 w1 pa (some ⟨b39,0,none⟩) pc 1 [2] [2] (HS.pown_row (P:=[2]) h1 aPk) (h1.rw_blk (l:=[2]) iv1 aPk) (by decide) (by decide)) ?_
   exact oJt 4 78)
  (λhg40 _=>by
   refine aU3 ?_
   exact oJf 4 78) ?_
 refine aU2 ?_
 exact rV
set_option maxHeartbeats 4000000 in
theorem c10a(w:World)(x:Ixs)(e:TEnt)(sa:Option Addr)(sc:Nat)(ss:List Bool)(hsb:Rw boV 1 w [] sa ss)(hfx:QkN x=true)(hsl:Qgf e=true)(h8:ss.length<=8):CR 10 #[.agg #[.string (bs x.ro),.string (bs x.al),.string (bs x.bm)],.agg #[.string (bs e.key),.string (bs e.val)],.slice sa ss.length sc] w (.bool true):=by
 obtain⟨hx1,hx2,hx3⟩:=Qmj hfx
 have hs44:e.key.length<=44/\e.val.length<=70:=of_decide_eq_true hsl
 have hn8:x.n=x.al.length/512:=rfl
 refine eN3 Tryz.func10 Tryz.ntmps10 ?_
 refine aU2 ?_
 refine oBx λb1 _=>?_
 refine oBx λb2 _=>?_
 refine aU5 ?_
 refine oCq rfl (λw1 h1=>c11w w1) (aU2 ?_)
 refine sCd rfl (λh3=>?_) λh3=>?_
 ·exfalso;simp at h3
 refine aU5 ?_
 refine oCq rfl (λw1 h1=>c12 w1 x) (aU2 ?_)
 refine oOr 4 33 37 rfl
  (λhg4 _=>by
   refine aU3 ?_
   refine oCq rfl (λw1 h1=>c42 w1 e) (aU2 ?_)
   exact oJf 4 37)
  (λhg6 _=>by
   refine aU3 ?_
   exact oJt 4 37) ?_
 refine aU ?_
 refine oOr 4 38 42 rfl
  (λhg8 _=>by
   refine aU6 ?_
   exact oJf 4 42)
  (λhg10 _=>by
   refine aU3 ?_
   exact oJt 4 42) ?_
 refine aU ?_
 refine sCd rfl (λh12=>?_) λh12=>?_
 ·exfalso;have hq:=h12;simp[hfx,hsl]at hq;omega
 refine aU4 ?_
 refine oCh rfl (λw1 h1=>c16 w1 x om om om) (λ⟨⟨ra,rc⟩,RL⟩hRL=>aU4 ?_)
 refine oAl (λb13 _=>?_) Xn
 refine Zo ?_
 refine sCd rfl (λh14=>?_) λh14=>?_
 ·refine aU4 ?_
  exact rV
 have hr:(rdI x).2=0:=by have hq:=h14;simpa using hq
 refine aU5 ?_
 refine oCh rfl (λw1 h1=>c43 w1 x e 7 om om om om om QlJ) (λ⟨la,lc⟩_=>aU4 ?_)
 refine oAl (λb15 _=>?_) QaG
 refine aU6 ?_
 refine Qe (L':=[(2,_),(3,_),(6,_),(7,_),(9,_),(10,_),(11,_),(12,_)]) aSx (λ_ h=>h) ?_
 refine aU4 ?_
 refine oOr 4 60 64 rfl
  (λhg16 _=>by
   refine aU6 ?_
   exact oJf 4 64)
  (λhg18 _=>by
   refine aU3 ?_
   exact oJt 4 64) ?_
 refine aU ?_
 refine sCd rfl (λh20=>?_) λh20=>?_
 ·refine aU4 ?_
  exact rV
 have hE1:(opE x (YA (rdI x).1.1 e) 7)=0:=by have hq:=h20;simp at hq;exact hq.1
 have hL1:¬(opL x (inT (rdI x).1.1 e) (YA (rdI x).1.1 e) 7).length=0:=by have hq:=h20;simp at hq;simpa using hq.2
 obtain⟨_,he1,hl1⟩:=Qox hE1
 have hi1:Zy (inT (rdI x).1.1 e)=0:=(QlJ hr).ix he1
 obtain⟨hya,hyn⟩:=ch_n (lsn:=7) hr hi1 hl1
 have hid:=(ZA hi1 (Z4 hi1).1 (Z4 hi1).2.1).2.2.2.2
 have hX1:(opX x (inT (rdI x).1.1 e) (YA (rdI x).1.1 e) 7)=chX x (Xf x x.n) (inT (rdI x).1.1 e) 7:=(Qpu hE1).1
 have hK1:(opL x (inT (rdI x).1.1 e) (YA (rdI x).1.1 e) 7)=chL x (chX x (Xf x x.n) (inT (rdI x).1.1 e) 7):=(Qpu hE1).2
 rw[hK1]at hL1
 rw[hX1,hK1]
 obtain⟨y,hyy⟩:∃y,y=chX x (Xf x x.n) (inT (rdI x).1.1 e) 7:=⟨_,rfl⟩
 rw[<-hyy]at hL1 hya hyn ⊢
 obtain⟨n,l9,hl9⟩:∃n l9,chL x y=n::l9:=by cases h9:chL x y with|nil=>(rw[h9]at hL1;exact absurd rfl hL1)|cons n l=>exact⟨n,l,rfl⟩
 rw[hl9]
 have hcl:0<(n::l9).length:=Nat.succ_pos _
 obtain⟨hn1,_,hn2⟩:=Qhy hl9
 have hn3:n<=1000:=om
 refine Yv (λw h=>HS.pown_some (P:=n::l9) (a:=la) (c:=lc) (Nat.succ_pos _) h aPk) λhpa=>?_
 obtain⟨gp,rfl⟩:=hpa
 refine aU4 ?_
 refine o_p (Qa rfl rfl rfl QM 0 rfl om rfl) rfl (o_q (Qx rfl rfl Ye (λw h=>HS.pown_rd (P:=n::l9) (a:=some ⟨gp,0,none⟩) (c:=lc) (k:=0) (Nat.succ_pos _) rfl h aPk)) rfl (Qf (show _=Value.int .i64 ((n:Nat):Int)from rfl) (aT6 ?_)))
 refine aT ?_
 refine Qf (show _=Value.int .i64 (((n-1)*512:Nat):Int)from congrArg (Value.int .i64) om) (aT2 ?_)
 refine Qf (show _=Value.int .i64 ((n*512:Nat):Int)from congrArg (Value.int .i64) om) (aU8 ?_)
 refine o_p (Qn rfl rfl Tryz.underlying9) rfl (aU3 ?_)
 refine oOr 6 78 84 rfl
  (λhg21 _=>by
   refine aU5 ?_
   refine o_p (Qn rfl rfl Tryz.underlying9) rfl (aU4 ?_)
   exact oJf 6 84)
  (λhg23 _=>by
   refine aU5 ?_
   exact oJt 6 84) ?_
 refine aU ?_
 refine oOr 7 85 92 rfl
  (λhg25 _=>by
   refine aU9 ?_
   refine o_p (Xa _ _ ((n-1)*512) (n*512) rfl rfl Tryz.underlying9 ⟨_,_,rfl,rfl⟩ ⟨_,_,rfl,rfl⟩ om om) rfl (Qf (show _=Value.string (bs (x.blk n))from by unfold Ixs.blk;rw[Y2 (show n*512=(n-1)*512+512 by omega)]) (aU ?_))
   refine oCq rfl (λw1 h1=>c53 w1 (x.blk n) (Nat.le_trans (List.length_take_le _ _) (by decide))) ?_
   exact oJf 7 92)
  (λhg27 _=>by
   refine aU6 ?_
   exact oJt 7 92) ?_
 refine aU ?_
 refine oOr 4 93 97 rfl
  (λhg29 _=>by
   refine aU3 ?_
   refine oCq rfl (λw1 h1=>c12 w1 y) (aU2 ?_)
   exact oJf 4 97)
  (λhg31 _=>by
   refine aU3 ?_
   exact oJt 4 97) ?_
 refine aU ?_
 refine sCd rfl (λh33=>?_) λh33=>?_
 ·refine aU ?_
  refine Qe (L':=[(2,_),(3,_),(6,_),(7,_),(9,_),(10,_),(13,_),(14,_),(15,_)]) aSx (λ_ h=>h) ?_
  refine aU3 ?_
  exact rV (h:=by first|rfl|(simp[Q3];done)|simp[Q3,hs9,hUl])
 have hxa:n*512<=x.al.length:=by have hq:=h33;simp at hq;omega
 have hy9:n*512<=y.al.length:=by have hq:=h33;simp at hq;omega
 have hz9:zer (x.blk n)=false:=by have hq:=h33;simp at hq;simp[hq]
 have hfy:QkN y=true:=by have hq:=h33;simp at hq;simp[hq]
 obtain⟨hfy1,hfy2,hfy3⟩:=Qmj hfy
 have hTO:=QvL (ss:=ss) hr rfl hi1 hl1 hyy hl9 hxa hy9 hz9 h8
 have htl9:=QbP (x:=x) (y:=y) (n:=n) (ss:=ss) hn1 hxa hy9 ss.length h8
 have htb1:(ZW x y n ss).al.length<=900000:=by show(Qa3 x y n ss ss.length).length<=_;omega
 refine aU2 ?_
 refine Qe (L':=[(2,_),(3,_),(6,_),(7,_),(9,_),(10,_),(13,_),(14,_),(15,_)]) aSx (λ_ h=>h) ?_
 refine aU2 ?_
 refine oAl (λb34 _=>?_) QaG
 refine aU8 ?_
 refine Qo (α:=Nat) [17,18,99,100,101,102,103,104,105,106,107,108,109,110,111,112,113,114,115,116,117,118,119,120,121,122,123,124] (λk=>[(17,.int .i64 (k:Int))]) (λk=>HS w [] [.blk b34 23 3 [.string (bs y.ro),.string (bs (Qa3 x y n ss k)),.string (bs y.bm)],.blk b15 23 3 [.string (bs y.ro),.string (bs y.al),.string (bs y.bm)],.own (.slice (some ⟨gp,0,none⟩) ((n::l9)).length lc) 3 1 ((n::l9)).length (((n::l9)).map λi:Nat=>Value.int .i64 (i:Int)),.blk b13 37 4 [.int .i64 (rdI x).1.1.co,.int .i64 (rdI x).1.1.mo,.int .i64 (rdI x).1.1.rm,.slice ra RL.length rc],.nodes 27 69 ra rc RL,.blk b2 27 2 [.string (bs e.key),.string (bs e.val)],.blk b1 23 3 [.string (bs x.ro),.string (bs x.al),.string (bs x.bm)]]) (λk=>k<=ss.length) (λk=>ss.length-k) 0 (Nat.zero_le _) aSx (λw h=>h.ent aEt) (λk hk1=>?_)
 have htl:=QbP (x:=x) (y:=y) (n:=n) (ss:=ss) hn1 hxa hy9 k om
 dsimp only
 refine aU8 ?_
 refine sCd rfl (λh35=>?_) λh35=>?_
 ·refine aU7 ?_
  refine o_p (Qa rfl rfl rfl Qbc (k) om om (hsb.some om)) rfl (o_q (Qc rfl rfl Qdm (hsb.rdj 0 (i:=k) om rfl)) rfl (Qf (show _=Value.bool (ss.getD k false)from rfl) (aU2 ?_)))
  refine sCd rfl (λh36=>?_) λh36=>?_
  ·have hsl9:=QiG (x:=x) hn1 hxa (k:=k) om
   have hst:(Qa3 x y n ss (k+1))=Q2 (Qa3 x y n ss k) ((n-1)*512+k*64) (Qs x.al ((n-1)*512+k*64) 64):=by have hq:=h36;rw[Qa3,if_neg (by simpa using hq)]
   refine aT5 ?_
   refine aT ?_
   refine Qf (show _=Value.int .i64 (((n-1)*512+k*64:Nat):Int)from congrArg (Value.int .i64) om) (aU2 ?_)
   refine Qu [11] QG ?_
   refine dFa 0 ?_
   refine dLd 1 [[]] ?_
   refine dP 2 ?_
   refine dFa 3 ?_
   refine dLd 4 [[]] ?_
   refine dP 5 ?_
   refine dP 6 ?_
   refine dP 7 ?_
   try refine dWr ?_
   refine Qv (show _=Value.int .i64 (((n-1)*512+k*64+64:Nat):Int)from congrArg (Value.int .i64) om) (dV 8 rfl (Xa _ _ ((n-1)*512+k*64) ((n-1)*512+k*64+64) rfl rfl Tryz.underlying9 ⟨_,_,rfl,rfl⟩ ⟨_,_,rfl,rfl⟩ om om) (Qv (show _=Value.string (bs (Qs x.al ((n-1)*512+k*64) 64))from by rw[Y2 rfl]) (dQ 9 [[]] rfl (QA rfl Qtn rfl (λw1 h1=>c54 w1 (Qa3 x y n ss k) ((n-1)*512+k*64) (Qs x.al ((n-1)*512+k*64) 64) (by rw[hsl9];omega) om)) (Qv (show _=Value.string (bs (Qa3 x y n ss (k+1)))from by rw[hst]) (dFa 10 ?_)))))
   refine dSt 11 ?_ (hl:=(by simp only[Qk,List.length_set,List.length_cons,List.length_nil,List.length_map];omega))
   refine dTu [] ?_
   refine dNi ?_
   refine aU ?_
   refine Qe (L':=[(2,_),(3,_),(6,_),(7,_),(9,_),(10,_),(13,_),(14,_),(15,_),(16,_),(17,_),(98,_)]) aSx (λ_ h=>h) ?_
   refine aT3 ?_
   refine aU2 ?_
   exact sBk (k+1)
  have hst:(Qa3 x y n ss (k+1))=(Qa3 x y n ss k):=by have hq:=h36;rw[Qa3,if_pos (by simpa using hq)]
  refine aT5 ?_
  refine aU2 ?_
  exact QK (k+1) om om aSx (λw h=>by rw[hst];exact h.ent aEt)
 obtain rfl:k=ss.length:=om
 refine Qh rfl ?_
 refine aU3 ?_
 refine oCh rfl (λw1 h1=>c47 w1 (ZW x y n ss) htb1 (by show y.ro.length<=_;omega) (by show y.bm.length<=_;omega)) (λ⟨ba,bc⟩_=>aU3 ?_)
 rw[hTO.ix]
 refine aU6 ?_
 refine oCh rfl (λw1 h1=>c48 w1 (ZW x y n ss) htb1 (by show y.ro.length<=_;omega) (by show y.bm.length<=_;omega)) (λ⟨ea,ec⟩_=>aU3 ?_)
 rw[hTO.ix]
 refine aU5 ?_
 refine Qe (L':=[(2,_),(3,_),(6,_),(7,_),(9,_),(10,_),(13,_),(14,_),(15,_),(16,_),(17,_),(19,_),(20,_),(21,_),(22,_),(98,_)]) aSx (λ_ h=>h) ?_
 refine aU4 ?_
 refine oOr 3 137 140 rfl
  (λhg37 _=>by
   refine aU4 ?_
   exact oJf 3 140)
  (λhg39 _=>by
   refine aU2 ?_
   exact oJt 3 140) ?_
 refine aU ?_
 refine sCd rfl (λh41=>?_) λh41=>?_
 ·exfalso;have hq:=h41;simp at hq
 refine aU7 ?_
 refine o_p (Xa _ _ ((n-1)*512) (n*512) rfl rfl Tryz.underlying9 ⟨_,_,rfl,rfl⟩ ⟨_,_,rfl,rfl⟩ om om) rfl (Qf (show _=Value.string (bs ((ZW x y n ss).blk n))from by unfold Ixs.blk;rw[Y2 (show n*512=(n-1)*512+512 by omega)];rfl) (Zo ?_))
 refine o_p (Xa _ _ ((n-1)*512) (n*512) rfl rfl Tryz.underlying9 ⟨_,_,rfl,rfl⟩ ⟨_,_,rfl,rfl⟩ om om) rfl (Qf (show _=Value.string (bs (x.blk n))from by unfold Ixs.blk;rw[Y2 (show n*512=(n-1)*512+512 by omega)]) (aU2 ?_))
 refine oOr 8 153 161 rfl
  (λhg42 _=>by
   refine Zw ?_
   refine o_p (Xa _ _ ((n-1)*512) (n*512) rfl rfl Tryz.underlying9 ⟨_,_,rfl,rfl⟩ ⟨_,_,rfl,rfl⟩ om om) rfl (Qf (show _=Value.string (bs (y.blk n))from by unfold Ixs.blk;rw[Y2 (show n*512=(n-1)*512+512 by omega)]) (aU2 ?_))
   exact oJf 8 161)
  (λhg44 _=>by
   refine aU7 ?_
   exact oJt 8 161) ?_
 refine aU ?_
 refine sCd rfl (λh46=>?_) λh46=>?_
 ·have hb9:bdI (ZW x y n ss)=[]:=hTO.good (by have hq:=h46;simpa using hq)
  rw[hb9]
  refine aU ?_
  refine Qe (L':=[(2,_),(3,_),(6,_),(7,_),(9,_),(10,_),(13,_),(14,_),(15,_),(16,_),(17,_),(19,_),(21,_),(98,_)]) aSx (λ_ h=>h) ?_
  refine aU6 ?_
  exact rV (h:=by first|rfl|(simp[Q3];done)|simp[Q3,hs9,hUl])
 obtain⟨hb9,hs9⟩:=hTO.bad (by have hq:=h46;simpa using hq)
 rw[hb9]
 refine aU3 ?_
 refine Qe (L':=[(2,_),(3,_),(6,_),(7,_),(9,_),(10,_),(13,_),(14,_),(15,_),(16,_),(17,_),(19,_),(21,_),(98,_)]) aSx (λ_ h=>h) ?_
 refine aU3 ?_
 refine o_h (Qg (cs:=[_]) rfl rfl QM YP rfl rfl rfl) rfl (λb47 _=>oCq rfl (λw1 h1=>by have h9:=c15P w1 ba (some ⟨b47,0,none⟩) bc 1 [n] [n] (HS.pown_row (P:=[n]) h1 aPk) (h1.rw_blk (l:=iN [n]) iv1 aPk) (by show 1<=100000;decide) (by show 1<=100000;decide);exact h9) (aU2 ?_))
 refine sCd rfl (λh48=>?_) λh48=>?_
 ·exfalso;have hq:=h48;simp at hq
 refine aU4 ?_
 refine oCh rfl (λw1 h1=>c16 w1 y om om om) (λ⟨⟨ua,uc⟩,UL⟩hUL=>?_)
 have hrd9:=hTO.rd
 have hUl:UL.length=(inT (rdI x).1.1 e).ns.length:=by rw[<-Qd,hUL,hrd9]
 have hRl:RL.length=(rdI x).1.1.ns.length:=by rw[<-Qd,hRL]
 obtain⟨hlt1,hlt2⟩:=hTO.lt
 have hsm9:=(QvO (x:=y) (by rw[hrd9])).1
 rw[hrd9]at hUL hsm9 ⊢
 dsimp only at hUL hsm9 ⊢
 refine aU4 ?_
 refine oAl (λb49 _=>?_) Xn
 refine Zo ?_
 refine oOr 6 178 184 rfl
  (λhg50 _=>by
   refine Zo ?_
   exact oJf 6 184)
  (λhg52 _=>by
   refine aU5 ?_
   exact oJt 6 184) ?_
 refine aU ?_
 refine oOr 6 185 191 rfl
  (λhg54 _=>by
   refine Zo ?_
   exact oJf 6 191)
  (λhg56 _=>by
   refine aU5 ?_
   exact oJt 6 191) ?_
 refine aU ?_
 refine sCd rfl (λh58=>?_) λh58=>?_
 ·exfalso;have hq:=h58;simp at hq;omega
 refine Yv (λw9 h=>HS.nodes_some (L:=UL) om h aPk) λhna=>?_
 obtain⟨gu,rfl,hua1,hua2⟩:=hna
 refine aU2 ?_
 refine Qe (L':=[(2,_),(3,_),(6,_),(7,_),(9,_),(10,_),(13,_),(14,_),(15,_),(16,_),(17,_),(21,_),(24,_),(98,_)]) aSx (λ_ h=>h) ?_
 refine aU9 ?_
 refine Qo (α:=Nat) [26,27,192,193,194,195,196,197,198,199,200,201,202,203,204,205,206,207,208,209,210] (λk=>[(27,.int .i64 (k:Int)),(26,.int .i64 ((QdN (inT (rdI x).1.1 e).ns n k:Nat):Int))]) (λ_=>_) (λk=>k<=UL.length) (λk=>UL.length-k) 0 (Nat.zero_le _) aSx (λw h=>h) (λk hk1=>?_)
 have hcn:=Qmr hsm9 n k
 have hes:=(hsm9 k).1
 refine aU9 ?_
 refine sCd rfl (λh59=>?_) λh59=>?_
 ·refine aU9 ?_
  refine sCd rfl (λh60=>?_) λh60=>?_
  ·have hnk:(nth (inT (rdI x).1.1 e).ns k).es=(nth UL k).es:=by rw[<-hUL,Qr om];rfl
   rw[hnk]at hes
   have hst:QdN (inT (rdI x).1.1 e).ns n (k+1)=QdN (inT (rdI x).1.1 e).ns n k+(nth UL k).es.length:=by have hq:=h60;rw[QdN,if_neg om,hnk]
   refine aU5 ?_
   refine o_p (Qa rfl rfl rfl QH (k) om om rfl) rfl (aU ?_)
   refine o_q (Qx rfl rfl YE (λw h=>(HS.nt (a:=some ⟨gu,0,none⟩) (L:=UL) h aPk).1.rdj 1 (i:=k) om rfl)) rfl (aT2 ?_)
   refine Qf (show _=Value.int .i64 ((QdN (inT (rdI x).1.1 e).ns n (k+1):Nat):Int)from congrArg (Value.int .i64) om) (aU3 ?_)
   refine Qe (L':=[(2,_),(3,_),(6,_),(7,_),(9,_),(10,_),(13,_),(14,_),(15,_),(16,_),(17,_),(21,_),(24,_),(26,_),(27,_),(98,_)]) aSx (λ_ h=>h) ?_
   refine aT3 ?_
   refine aU2 ?_
   exact QK (k+1) om om aSx (λw h=>h)
  have hst:QdN (inT (rdI x).1.1 e).ns n (k+1)=QdN (inT (rdI x).1.1 e).ns n k:=by have hq:=h60;rw[QdN,if_pos om]
  refine aT5 ?_
  refine aU2 ?_
  exact QK (k+1) om om (by rw[hst];exact aSx) (λw h=>h)
 obtain rfl:k=UL.length:=om
 refine Qh rfl ?_
 refine aU8 ?_
 exact rV (h:=by first|rfl|(simp[Q3];done)|simp[Q3,hs9,hUl])
theorem c10z(w:World)(x:Ixs)(e:TEnt)(sa:Option Addr)(sc:Nat)(ss:List Bool)(hz:¬((QkN x=true/\Qgf e=true)/\ss.length<=8)):CR 10 #[.agg #[.string (bs x.ro),.string (bs x.al),.string (bs x.bm)],.agg #[.string (bs e.key),.string (bs e.val)],.slice sa ss.length sc] w (.bool true):=by
 refine eN3 Tryz.func10 Tryz.ntmps10 ?_
 refine aU2 ?_
 refine oBx λb1 _=>?_
 refine oBx λb2 _=>?_
 refine aU5 ?_
 refine oCq rfl (λw1 h1=>c11w w1) (aU2 ?_)
 refine sCd rfl (λh3=>?_) λh3=>?_
 ·exfalso;simp at h3
 refine aU5 ?_
 refine oCq rfl (λw1 h1=>c12 w1 x) (aU2 ?_)
 refine oOr 4 33 37 rfl
  (λhg4 _=>by
   refine aU3 ?_
   refine oCq rfl (λw1 h1=>c42 w1 e) (aU2 ?_)
   exact oJf 4 37)
  (λhg6 _=>by
   refine aU3 ?_
   exact oJt 4 37) ?_
 refine aU ?_
 refine oOr 4 38 42 rfl
  (λhg8 _=>by
   refine aU6 ?_
   exact oJf 4 42)
  (λhg10 _=>by
   refine aU3 ?_
   exact oJt 4 42) ?_
 refine aU ?_
 refine sCd rfl (λh12=>?_) λh12=>?_
 ·refine aU4 ?_
  exact rV
 exfalso;have hq:=h12;exact hz (by simp at hq;exact⟨⟨hq.1.1,hq.1.2⟩,om⟩)
theorem c10(w:World)(x:Ixs)(e:TEnt)(sa:Option Addr)(sc:Nat)(ss:List Bool)(hsb:Rw boV 1 w [] sa ss):CR 10 #[.agg #[.string (bs x.ro),.string (bs x.al),.string (bs x.bm)],.agg #[.string (bs e.key),.string (bs e.val)],.slice sa ss.length sc] w (.bool true):=by
  by_cases hz:(QkN x=true/\Qgf e=true)/\ss.length<=8
  · exact c10a w x e sa sc ss hsb hz.1.1 hz.1.2 hz.2
  · exact c10z w x e sa sc ss hz
end Go.Proofs
