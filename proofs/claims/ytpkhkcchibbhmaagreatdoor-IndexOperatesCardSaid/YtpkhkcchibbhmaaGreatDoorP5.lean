/- Contracts of the program's functions, proved by walking them with the rules of the Gx texts; without conditions beyond those that each contract names. -/
import Derived.WalkKit
import Derived.Deep.Draws
import Derived.TacticsIn
import Derived.OrdersIn
import Derived.RangeFuncLeaves
import Derived.Lib.Strings
import Derived.Laws.BytesArg
import Derived.Laws.IdiomStrings
import Derived.Deep.Quiet
import Derived.ProofKit
import Derived.OpenShut
import Derived.Laws.StructEq
import Derived.ChangeKeysEq
import Derived.Laws.Externs
import Derived.Lib.Overlaps
import Derived.Carry
import Derived.Laws.Small
import Derived.Lib.Bytealg
import Derived.Lib.Builder
import Derived.Laws.Pointers
import Derived.RangeFuncRecord
import Derived.Test.YtpkhkcchibbhmaaGreatDoorProg
import Derived.KernelRfl
import Derived.Test.YtpkhkcchibbhmaaGreatDoorTie
import Derived.Test.YtpkhkcchibbhmaaGreatDoorCards
import Derived.SevenTiedAt
import Derived.LaidMore
import Derived.Lay
import Derived.Stop.Joined
import Derived.Test.YtpkhkcchibbhmaaGreatDoorP4
set_option linter.unusedSimpArgs false
set_option maxHeartbeats 1000000
set_option linter.unusedVariables false
set_option linter.unusedSectionVars false
set_option linter.unnecessarySimpa false
namespace Go.Proofs
open Go Go.RowKit Gx
attribute [local irreducible] Go.Calls Gx.S Gx.O Gx.D Gx.OpP Gx.OpQ Gx.OpH
set_option maxRecDepth 20000
theorem QqJ:QY Tryz.prog 248=true:=by kernel_rfl
instance:TFn Tryz.prog 218:=⟨by kernel_rfl⟩
theorem Qk7:QY Tryz.prog 165=true:=by kernel_rfl
theorem Qo2:QY Tryz.prog 249=true:=by kernel_rfl
theorem Qq2(w:World)(a:Option Addr)(i cap:Nat)(l:List TEnt)(x:TEnt)(b0 c0 tot2:Nat)(hw:HS w (fps [.own (.slice a l.length cap) 27 2 l.length (l.flatMap TEnt.vals),.blk b0 27 tot2 (TEnt.vals x)]) [.own (.slice a l.length cap) 27 2 l.length (l.flatMap TEnt.vals),.blk b0 27 tot2 (TEnt.vals x)] w)(hmax:l.length<=100000)(hi:i<=l.length):CE 165 #[.slice a l.length cap,.int .i64 (i:Int),.slice (some ⟨b0,0,none⟩) 1 c0] w (fps [.own (.slice a l.length cap) 27 2 l.length (l.flatMap TEnt.vals),.blk b0 27 tot2 (TEnt.vals x)]) (λg:Option Addr×Nat=>.slice g.1 (QT l i x).length g.2) (λg=>True) λg=>[.own (.slice g.1 (QT l i x).length g.2) 27 2 (QT l i x).length ((QT l i x).flatMap TEnt.vals),.blk b0 27 tot2 (TEnt.vals x)]:=by
  have h:=c165 w a i l.length 1 cap (l.flatMap TEnt.vals) (TEnt.vals x) b0 c0 tot2 hw (by decide) (ev2 x) (λu hu=>ev1 x u hu) (XZ ev1 l) om hi;rw[Qju ev2]at h;rw[Zz hi];exact h
theorem QtA(w:World)(a:Option Addr)(i cap:Nat)(l:List Int)(x:Int)(b0 c0 tot2:Nat)(hw:HS w (fps [.own (.slice a l.length cap) 3 1 l.length (l.flatMap inV),.blk b0 3 tot2 (inV x)]) [.own (.slice a l.length cap) 3 1 l.length (l.flatMap inV),.blk b0 3 tot2 (inV x)] w)(hmax:l.length<=100000)(hi:i<=l.length):CE 249 #[.slice a l.length cap,.int .i64 (i:Int),.slice (some ⟨b0,0,none⟩) 1 c0] w (fps [.own (.slice a l.length cap) 3 1 l.length (l.flatMap inV),.blk b0 3 tot2 (inV x)]) (λg:Option Addr×Nat=>.slice g.1 (QT l i x).length g.2) (λg=>True) λg=>[.own (.slice g.1 (QT l i x).length g.2) 3 1 (QT l i x).length ((QT l i x).flatMap inV),.blk b0 3 tot2 (inV x)]:=by
  have h:=c249 w a i l.length 1 cap (l.flatMap inV) (inV x) b0 c0 tot2 hw (by decide) (iv1 x) (λu hu=>QdX x u hu) (XZ QdX l) om hi;rw[Qju iv1]at h;rw[Zz hi];exact h
set_option maxHeartbeats 4000000 in
theorem c213(w:World)(bt:Nat)(j:Nat)(mo rm:Int)(gn cap:Nat)(L:List LNd)(i:Nat)(hw:HS w (fps [.blk bt 166 6 (tbV (j:Int) mo rm (some ⟨gn,0,none⟩) (L).length cap),.blk gn 69 (cap*3) ((L).flatMap LNd.vals),.star ((L).map (Qs 27))]) [.blk bt 166 6 (tbV (j:Int) mo rm (some ⟨gn,0,none⟩) (L).length cap),.blk gn 69 (cap*3) ((L).flatMap LNd.vals),.star ((L).map (Qs 27))] w)(hnc:L.length<=cap)(hcm:cap<=maxLen)(hok:SpOk mo (pln L) i):CE 213 #[.pointer (some ⟨bt,0,none⟩),.int .i64 (i:Int)] w (fps [.blk bt 166 6 (tbV (j:Int) mo rm (some ⟨gn,0,none⟩) (L).length cap),.blk gn 69 (cap*3) ((L).flatMap LNd.vals),.star ((L).map (Qs 27))]) (λg:(Nat×Nat)×List LNd=>.tuple #[]) (λg=>(pln g.2=Qb6 mo (pln L) i/\g.2.length<=g.1.2/\g.1.2<=maxLen)) λg=>[.blk bt 166 6 (tbV (j:Int) mo rm (some ⟨g.1.1,0,none⟩) (g.2).length g.1.2),.blk g.1.1 69 (g.1.2*3) ((g.2).flatMap LNd.vals),.star ((g.2).map (Qs 27))]:=by
 have hlt0:=hok.lt
 have hln0:=hok.len
 rw[Qb]at hlt0 hln0
 have hmo:=hok.mo0
 have hes0:=hok.es
 have hcs0:=hok.cs
 have hne:=QfV hok.lt hok.us
 have hfn:=QcV hok.lt hok.us
 have hfl:=QfP (pln L)
 have hfl2:=QcG (pln L)
 rw[Qb]at hfl2
 have hpar:=hok.par
 have hparE:=hok.parE
 have hparC:=hok.parC
 rw[QkZ]at hpar
 have hsA:=hok.sm.splA mo i
 have hsF:=hok.sm.fre
 refine eW2 Tryz.func213 Tryz.ntmps213 hw ?_
 refine aU3 ?_
 refine o_h (QM (Cs:=[.blk bt 166 6 (tbV (j:Int) mo rm (some ⟨gn,0,none⟩) (L).length cap),.blk gn 69 (cap*3) ((L).flatMap LNd.vals),.star ((L).map (Qs 27))]) rfl QqJ rfl aPs (λw1 h1 hf=>c248 w1 bt j mo rm gn cap L hf hnc hcm om om)) rfl (λ⟨⟨gn1,cap1⟩,L1⟩hF1=>?_)
 dsimp only
 obtain⟨hL1,hn1,hm1⟩:=hF1
 simp only[]at hL1 hn1 hm1
 have hl1:L1.length=(Q3 (pln L)).2.length:=by rw[<-hL1,Qb]
 have hi1:i<L1.length:=om
 have ho1:(Q3 (pln L)).1<L1.length:=om
 have hN1:(nth L1 i).pl=nth (pln L) i:=by rw[<-Ql hi1,hL1,hfn]
 have hE1:(nth L1 i).es=(nth (pln L) i).es:=congrArg Nd.es hN1
 have hC1:(nth L1 i).cs=(nth (pln L) i).cs:=congrArg Nd.cs hN1
 have hN1e:(nth (Q3 (pln L)).2 i).es=(nth L1 i).es:=by rw[<-hL1,Ql hi1];rfl
 have hN1c:(nth (Q3 (pln L)).2 i).cs=(nth L1 i).cs:=by rw[<-hL1,Ql hi1];rfl
 have hsm1:(QD mo)<(nth L1 i).es.length:=by rw[hE1];exact hes0
 have hsE1:=(hok.sm i).1
 rw[<-hE1]at hsE1
 have hsC1:=(hok.sm i).2
 rw[<-hC1]at hsC1
 rw[<-hC1]at hcs0
 refine Za ?_
 refine o_p (Qa rfl rfl rfl Qw (i) om om rfl) rfl (Qh (show _=Value.pointer (some ⟨gn1,i*3,none⟩)from by rw[Nat.zero_add]) (Qhi ?_))
 refine o_p (XQ rfl rfl rfl om om om) rfl (Qh (show _=Value.int .i64 ((QD mo):Int)from by unfold QD;congr 1;omega) (aU7 ?_))
 refine o_q (Qf rfl rfl Xq (λw h=>HS.nd_cell hi1 h aPk 1 rfl (by decide))) rfl (Xm (λw h=>HS.es_some hi1 om h aPk) λhge=>?_)
 obtain⟨ge,hge⟩:=hge
 refine Xm (λw h=>HS.es_room hi1 h aPk) λhrE=>aU ?_
 refine o_p (Qa rfl rfl rfl QN _ rfl om hge) rfl (o_q (X6 _ rfl rfl Yk rfl (λw h=>HS.es_rd hi1 hsm1 hge h aPk)) rfl (oAl (λb1 _=>?_) XH))
 refine aU3 ?_
 refine Qt [16] QC ?_
 refine dP 0 ?_
 refine dP 1 ?_
 refine dFa 2 ?_
 refine dFa 3 ?_
 refine dLd 4 [[]] ?_
 refine dP 5 ?_
 refine dP 6 ?_
 refine dP 7 ?_
 refine dFa 8 ?_
 refine dQ 9 [[]] rfl (Qf rfl rfl Xq (λw h=>HS.nd_cell hi1 h aPk 1 rfl (by decide))) (dP 10 ?_)
 refine dP 11 ?_
 try refine dWr ?_
 refine dV 12 rfl (QG _ _ ((QD mo)+1) ((nth L1 i).es.length) rfl rfl QN ⟨_,_,rfl,om⟩ rfl om om) (Qr (show _=Value.slice (YY (nth L1 i).ea (nth L1 i).ec ((QD mo)+1) 2) ((nth L1 i).es.drop ((QD mo)+1)).length ((nth L1 i).ec-((QD mo)+1))from by rw[List.length_drop]) (dH 13 rfl (Yi rfl Qpb rfl (λw1 h1=>c114 w1 (YY (nth L1 i).ea (nth L1 i).ec ((QD mo)+1) 2) ((nth L1 i).ec-((QD mo)+1)) ((nth L1 i).es.drop ((QD mo)+1)) ((HS.es_row hi1 h1 aPk).cut om) (by rw[List.length_drop];omega))) (λ⟨b2,c3⟩_=>dBa ?_)))
 refine dV 14 rfl (Qa rfl rfl rfl Qw _ rfl om rfl) (Qr (show _=Value.pointer (some ⟨gn1,(Q3 (pln L)).1*3,none⟩)from by rw[Nat.zero_add]) (dFa 15 ?_))
 refine dSt 16 ?_ (hl:=(by rw[Qi nv3];show _+1<=_;omega))
 refine dTu [] ?_
 refine dNi ?_
 refine aU ?_
 refine Qg (L':=[(0,_),(1,_),(4,_),(5,_),(6,_),(7,_)]) aSx (λ_ h=>h) ?_
 refine aU2 ?_
 refine QaX (λw h=>HS.es_set (gn:=gn1) (cap:=cap1) (ea:=b2) (ec:=c3) (es:=(nth L1 i).es.drop ((QD mo)+1)) ho1 h aPk aPk aPk) λL2=>?_
 refine Xm (λw h=>h.1) λhS2=>QQ (λw h=>h.2) ?_
 have hi2:i<L2.length:=by rw[hS2.len];exact hi1
 have hN2:nth L2 i=nth L1 i:=hS2.other hi1 hne
 have hsm2:(QD mo)<(nth L2 i).es.length:=by rw[hN2];exact hsm1
 refine aU3 ?_
 refine o_q (Qf rfl rfl Xq (λw h=>HS.nd_cell hi2 h aPk 1 rfl (by decide))) rfl (Xm (λw h=>HS.es_room hi2 h aPk) λhrE2=>Xm (λw h=>HS.es_form hi2 h aPk) λhfE2=>aU2 ?_)
 refine o_p (QhI (QD mo) (QD mo) rfl rfl rfl rfl QN rfl rfl om om) rfl (Qh (show _=Value.slice (nth L2 i).ea ((QD mo)) ((QD mo))from by rw[Qh9 _ _ _ hfE2]) (aU2 ?_))
 refine ZV (Xo rfl rfl rfl Xq rfl aPt (by rw[Qi nv3];show _+1<=_;omega) rfl) (λ_ _=>aU5 ?_)
 refine QaX (λw h=>HS.es_setC (gn:=gn1) (cap:=cap1) (m:=(QD mo)) (c:=(QD mo)) hi2 (Nat.le_refl _) om om (λh9 _=>h9) h aPk aPk) λL3=>?_
 refine Xm (λw h=>h.1) λhS3=>QQ (λw h=>h.2) ?_
 have hi3:i<L3.length:=by rw[hS3.len];exact hi2
 have ho3:(Q3 (pln L)).1<L3.length:=by rw[hS3.len,hS2.len];exact ho1
 have hC3:(nth L3 i).cs=(nth L1 i).cs:=by rw[hS3.at_,hN2]
 refine aU2 ?_
 refine o_q (Qf rfl rfl Xg (λw h=>HS.nd_cell hi3 h aPk 2 rfl (by decide))) rfl (aU3 ?_)
 refine Qg (L':=[(0,_),(1,_),(4,_),(5,_),(6,_),(7,_),(65,_)]) aSx (λ_ h=>h) ?_
 refine XY (α:=List LNd) [66,67,68,69,70,71,72,73,74,75,76,77,78,79,80,81,82,83,84,85,86,87,88,89,90,91,92,93] (λ_=>[]) (λx=>HS w (fps [.blk bt 166 6 (tbV (j:Int) mo rm (some ⟨gn,0,none⟩) (L).length cap),.blk gn 69 (cap*3) ((L).flatMap LNd.vals),.star ((L).map (Qs 27))]) [.blk bt 166 6 (tbV (j:Int) mo rm (some ⟨gn1,0,none⟩) (x).length cap1),.blk gn1 69 (cap1*3) ((x).flatMap LNd.vals),.star ((x).map (Qs 27)),.blk b1 27 2 (TEnt.vals (nth (nth L1 i).es ((QD mo))))]) (λx=>pln x=splA mo (pln L) i/\x.length=L1.length) ?_ ?_
 ·skip
  refine sCd rfl (λh4=>?_) λh4=>?_
  ·have hcs3:(QD mo)+1<=(nth L3 i).cs.length:=by have hq:=h4;rw[hC3]at hq ⊢;omega
   refine Xp (λw h=>HS.cs_room hi3 h aPk) λhrC3=>?_
   have hsC3:(nth L3 i).cs.length<=900:=by rw[hC3];exact hsC1
   refine aU ?_
   refine Qt [16] QC ?_
   refine dP 0 ?_
   refine dP 1 ?_
   refine dFa 2 ?_
   refine dFa 3 ?_
   refine dLd 4 [[]] ?_
   refine dP 5 ?_
   refine dP 6 ?_
   refine dP 7 ?_
   refine dFa 8 ?_
   refine dQ 9 [[]] rfl (Qf rfl rfl Xg (λw h=>HS.nd_cell hi3 h aPk 2 rfl (by decide))) (dP 10 ?_)
   refine dP 11 ?_
   try refine dWr ?_
   refine dV 12 rfl (QG _ _ ((QD mo)+1) ((nth L3 i).cs.length) rfl rfl QA ⟨_,_,rfl,om⟩ rfl om om) (Qr (show _=Value.slice (YY (nth L3 i).ca (nth L3 i).cc ((QD mo)+1) 1) ((nth L3 i).cs.drop ((QD mo)+1)).length ((nth L3 i).cc-((QD mo)+1))from by rw[List.length_drop]) (dH 13 rfl (Yi rfl Qp2 rfl (λw1 h1=>c246 w1 (YY (nth L3 i).ca (nth L3 i).cc ((QD mo)+1) 1) ((nth L3 i).cc-((QD mo)+1)) ((nth L3 i).cs.drop ((QD mo)+1)) ((HS.cs_row hi3 h1 aPk).cut om) (by rw[List.length_drop];omega))) (λ⟨b5,c6⟩_=>dBa ?_)))
   refine dV 14 rfl (Qa rfl rfl rfl Qw _ rfl om rfl) (Qr (show _=Value.pointer (some ⟨gn1,(Q3 (pln L)).1*3,none⟩)from by rw[Nat.zero_add]) (dFa 15 ?_))
   refine dSt 16 ?_ (hl:=(by rw[Qi nv3];show _+1<=_;omega))
   refine dTu [] ?_
   refine dNi ?_
   refine aU2 ?_
   refine QaX (λw h=>HS.cs_set (gn:=gn1) (cap:=cap1) (ca:=b5) (cc:=c6) (cs:=(nth L3 i).cs.drop ((QD mo)+1)) ho3 h aPk aPk aPk) λL4=>?_
   refine Xm (λw h=>h.1) λhS4=>QQ (λw h=>h.2) ?_
   have hi4:i<L4.length:=by rw[hS4.len];exact hi3
   have hN4:nth L4 i=nth L3 i:=hS4.other hi3 hne
   have hcs4:(QD mo)+1<=(nth L4 i).cs.length:=by rw[hN4];exact hcs3
   refine aU3 ?_
   refine o_q (Qf rfl rfl Xg (λw h=>HS.nd_cell hi4 h aPk 2 rfl (by decide))) rfl (Xm (λw h=>HS.cs_room hi4 h aPk) λhrC4=>Xm (λw h=>HS.cs_form hi4 h aPk) λhfC4=>aT2 ?_)
   refine aT2 ?_
   refine o_p (QhI ((QD mo)+1) ((QD mo)+1) rfl rfl rfl rfl QA om om om om) rfl (Qh (show _=Value.slice (nth L4 i).ca ((QD mo)+1) ((QD mo)+1)from by rw[Qh9 _ _ _ hfC4]) (aU2 ?_))
   refine ZV (Xo rfl rfl rfl Xg rfl aPt (by rw[Qi nv3];show _+1<=_;omega) rfl) (λ_ _=>aU ?_)
   refine Qhl (λw h=>HS.cs_setC (gn:=gn1) (cap:=cap1) (m:=(QD mo)+1) (c:=(QD mo)+1) hi4 (Nat.le_refl _) om om (λh9 _=>h9) h aPk aPk) λL5=>?_
   exact Xp (λw h=>h.1) λhS5=>XG (λw h=>h.2) (Qo L5 ⟨by rw[hS5.cs,hS4.cs,hS3.es,hS2.es,hN4,hC3,hN2,<-hN1c,<-hN1e,hL1,splA,if_neg (by rw[hN1c,<-hC3];omega)],by rw[hS5.len,hS4.len,hS3.len,hS2.len]⟩ aSx (λw h=>by rw[hS5.len,hS4.len,hS3.len,hS2.len];exact h.ent aEt))
  have hz:(nth L1 i).cs.length=0:=by rw[<-hC3];omega
  refine aU ?_
  exact Qo L3 ⟨by rw[hS3.es,hS2.es,hN2,<-hN1e,hL1,splA,if_pos (by rw[hN1c];exact hz)],by rw[hS3.len,hS2.len]⟩ aSx (λw h=>by rw[hS3.len,hS2.len];exact h.ent aEt)
 intro LA hx
 obtain⟨hA,hlA⟩:=hx
 have hpA:(Xz (i:Int) (splA mo (pln L) i) 0).1<LA.length:=om
 have hNA:(nth LA (Xz (i:Int) (splA mo (pln L) i) 0).1).pl=nth (splA mo (pln L) i) (Xz (i:Int) (splA mo (pln L) i) 0).1:=by rw[<-Ql hpA,hA]
 have hEA:(nth LA (Xz (i:Int) (splA mo (pln L) i) 0).1).es=(nth (splA mo (pln L) i) (Xz (i:Int) (splA mo (pln L) i) 0).1).es:=congrArg Nd.es hNA
 have hCA:(nth LA (Xz (i:Int) (splA mo (pln L) i) 0).1).cs=(nth (splA mo (pln L) i) (Xz (i:Int) (splA mo (pln L) i) 0).1).cs:=congrArg Nd.cs hNA
 rw[<-hEA]at hparE
 rw[<-hCA]at hparC
 have hsAE:=(hsA (Xz (i:Int) (splA mo (pln L) i) 0).1).1
 have hsAC:=(hsA (Xz (i:Int) (splA mo (pln L) i) 0).1).2
 rw[<-hEA]at hsAE
 rw[<-hCA]at hsAC
 refine aU4 ?_
 refine oCq rfl (λw1 h1=>by have h9:=c218 w1 bt j mo rm (some ⟨gn1,0,none⟩) cap1 LA i (HS.tbr h1 aPk) (HS.nt_at h1 aPk aPk) om (λk hk=>by have:=(hsA k).2;rw[<-hA,Ql hk]at this;exact Nat.le_trans this (by decide));rw[hA]at h9;exact h9) (QeV ?_)
 refine o_p (Qa rfl rfl rfl Qw _ rfl om rfl) rfl (Qh (show _=Value.pointer (some ⟨gn1,(Xz (i:Int) (splA mo (pln L) i) 0).1*3,none⟩)from by rw[Nat.zero_add]) (aU ?_))
 refine QQ (λw h=>HS.es_take hpA h aPk) (aU2 ?_)
 refine Qt [8,11] QC ?_
 refine dP 0 ?_
 refine dP 1 ?_
 refine dP 2 ?_
 refine dFa 3 ?_
 refine dQ 4 [[],[]] rfl (Qf rfl rfl Xq (λw h=>HS.nd_cell hpA h aPk 1 rfl (by decide))) (dP 5 ?_)
 refine dLn 6 [[7],[]] ?_
 refine dH 7 rfl (Qe (cs:=[_,_]) rfl rfl QN XH rfl rfl rfl) (λb7 _=>dBa ?_)
 refine dH 8 rfl (QM (Cs:=[.own (.slice ((nth LA (Xz (i:Int) (splA mo (pln L) i) 0).1)).ea ((nth LA (Xz (i:Int) (splA mo (pln L) i) 0).1)).es.length ((nth LA (Xz (i:Int) (splA mo (pln L) i) 0).1)).ec) 27 2 ((nth LA (Xz (i:Int) (splA mo (pln L) i) 0).1)).es.length (((nth LA (Xz (i:Int) (splA mo (pln L) i) 0).1)).es.flatMap TEnt.vals),.blk b7 27 2 (TEnt.vals (nth (nth L1 i).es ((QD mo))))]) rfl Qk7 rfl aPs (λw1 h1 hf=>Qq2 w1 (nth LA (Xz (i:Int) (splA mo (pln L) i) 0).1).ea (Xz (i:Int) (splA mo (pln L) i) 0).2 (nth LA (Xz (i:Int) (splA mo (pln L) i) 0).1).ec (nth LA (Xz (i:Int) (splA mo (pln L) i) 0).1).es (nth (nth L1 i).es ((QD mo))) b7 1 2 hf om om)) (λb8 _=>dTu [11] ?_)
 refine dP 9 ?_
 refine dFa 10 ?_
 refine dSt 11 ?_ (hl:=(by rw[Qi nv3];show _+1<=_;omega))
 refine dTu [] ?_
 refine dNi ?_
 refine Qg (L':=[(4,_),(9,_),(10,_)]) aSx (λ_ h=>h) ?_
 refine aU2 ?_
 refine QaX (λw h=>HS.es_setB (gn:=gn1) (cap:=cap1) (ea:=b8.1) (ec:=b8.2) (es:=QT (nth LA (Xz (i:Int) (splA mo (pln L) i) 0).1).es (Xz (i:Int) (splA mo (pln L) i) 0).2 (nth (nth L1 i).es ((QD mo)))) hpA h aPk aPk aPk) λLB=>?_
 refine Xm (λw h=>h.1) λhSB=>QQ (λw h=>h.2) ?_
 have hpB:(Xz (i:Int) (splA mo (pln L) i) 0).1<LB.length:=by rw[hSB.len];exact hpA
 refine QQ (λw h=>HS.cs_take hpB h aPk) ?_
 have hBC:(nth LB (Xz (i:Int) (splA mo (pln L) i) 0).1).cs=(nth LA (Xz (i:Int) (splA mo (pln L) i) 0).1).cs:=by rw[hSB.at_]
 have hBCl:(nth LB (Xz (i:Int) (splA mo (pln L) i) 0).1).cs.length=(nth LA (Xz (i:Int) (splA mo (pln L) i) 0).1).cs.length:=by rw[hBC]
 refine aU3 ?_
 refine o_q (Qf rfl rfl Xg (λw h=>HS.nd_cell hpB h aPk 2 rfl (by decide))) rfl (aT2 ?_)
 refine aU ?_
 refine o_h (Qe (cs:=[_]) rfl rfl QA Yp rfl rfl rfl) rfl (λb9 _=>o_h (QM (Cs:=[.own (.slice ((nth LB (Xz (i:Int) (splA mo (pln L) i) 0).1)).ca ((nth LB (Xz (i:Int) (splA mo (pln L) i) 0).1)).cs.length ((nth LB (Xz (i:Int) (splA mo (pln L) i) 0).1)).cc) 3 1 ((nth LB (Xz (i:Int) (splA mo (pln L) i) 0).1)).cs.length (((nth LB (Xz (i:Int) (splA mo (pln L) i) 0).1)).cs.flatMap inV),.blk b9 3 1 (inV ((Q3 (pln L)).1:Int))]) rfl Qo2 rfl aPs (λw1 h1 hf=>QtA w1 (nth LB (Xz (i:Int) (splA mo (pln L) i) 0).1).ca ((Xz (i:Int) (splA mo (pln L) i) 0).2+1) (nth LB (Xz (i:Int) (splA mo (pln L) i) 0).1).cc (nth LB (Xz (i:Int) (splA mo (pln L) i) 0).1).cs ((Q3 (pln L)).1:Int) b9 1 1 hf om om)) rfl (λb10 _=>aU2 ?_))
 refine ZV (Xo rfl rfl rfl Xg rfl aPt (by rw[Qi nv3];show _+1<=_;omega) rfl) (λ_ _=>aU ?_)
 exact Zs rfl (λw' h'=>by obtain⟨LC,hSC,hC⟩:=HS.cs_setB (gn:=gn1) (cap:=cap1) (ca:=b10.1) (cc:=b10.2) (cs:=QT (nth LB (Xz (i:Int) (splA mo (pln L) i) 0).1).cs ((Xz (i:Int) (splA mo (pln L) i) 0).2+1) ((Q3 (pln L)).1:Int)) hpB h' aPk aPk aPk;exact⟨((gn1,cap1),LC),rfl,⟨by rw[hSC.cs,hBC,hSB.es,hA,hEA,hCA];unfold Qb6 addP;rw[hN1e],by simp only[];rw[hSC.len,hSB.len,hlA];exact hn1,hm1⟩,by simp only[];rw[hSC.len,hSB.len];exact hC.ent aEt⟩)
theorem c214(w:World)(bt:Nat)(j:Nat)(mo rm:Int)(gn cap:Nat)(L:List LNd)(hw:HS w (fps [.blk bt 166 6 (tbV (j:Int) mo rm (some ⟨gn,0,none⟩) (L).length cap),.blk gn 69 (cap*3) ((L).flatMap LNd.vals),.star ((L).map (Qs 27))]) [.blk bt 166 6 (tbV (j:Int) mo rm (some ⟨gn,0,none⟩) (L).length cap),.blk gn 69 (cap*3) ((L).flatMap LNd.vals),.star ((L).map (Qs 27))] w)(hnc:L.length<=cap)(hcm:cap<=maxLen)(h0:0<L.length)(hl:L.length<=1000)(hu:(nth (pln L) 0).us=true):CE 214 #[.pointer (some ⟨bt,0,none⟩)] w (fps [.blk bt 166 6 (tbV (j:Int) mo rm (some ⟨gn,0,none⟩) (L).length cap),.blk gn 69 (cap*3) ((L).flatMap LNd.vals),.star ((L).map (Qs 27))]) (λg:(Nat×Nat)×List LNd=>.int .i64 ((Q3 (pln L)).1:Int)) (λg=>(pln g.2=(Yf (pln L)).2/\g.2.length<=g.1.2/\g.1.2<=maxLen)) λg=>[.blk bt 166 6 (tbV (j:Int) mo rm (some ⟨g.1.1,0,none⟩) (g.2).length g.1.2),.blk g.1.1 69 (g.1.2*3) ((g.2).flatMap LNd.vals),.star ((g.2).map (Qs 27))]:=by
 have hfl2:=QcG (pln L)
 rw[Qb]at hfl2
 obtain⟨hne,hfl,hfn⟩:=Qr7 (by rw[Qb];exact h0) hu
 refine eW1 Tryz.func214 Tryz.ntmps214 hw ?_
 refine aU7 ?_
 refine o_h (QM (Cs:=[.blk bt 166 6 (tbV (j:Int) mo rm (some ⟨gn,0,none⟩) (L).length cap),.blk gn 69 (cap*3) ((L).flatMap LNd.vals),.star ((L).map (Qs 27))]) rfl QqJ rfl aPs (λw1 h1 hf=>c248 w1 bt j mo rm gn cap L hf hnc hcm h0 hl)) rfl (λ⟨⟨gn1,cap1⟩,L1⟩hF1=>?_)
 dsimp only
 obtain⟨hL1,hn1,hm1⟩:=hF1
 simp only[]at hL1 hn1 hm1
 have hl1:L1.length=(Q3 (pln L)).2.length:=by rw[<-hL1,Qb]
 have hi1:0<L1.length:=om
 have ho1:(Q3 (pln L)).1<L1.length:=om
 have hN1:(nth L1 0).pl=nth (pln L) 0:=by rw[<-Ql hi1,hL1,hfn]
 refine aU9 ?_
 refine o_p (Qa rfl rfl rfl Qw (0) om om rfl) rfl (Qh (show _=Value.pointer (some ⟨gn1,0*3,none⟩)from by rw[Nat.zero_add]) (aU3 ?_))
 refine Qt [22,25] QC ?_
 refine dP 0 ?_
 refine dP 1 ?_
 refine dFa 2 ?_
 refine dFa 3 ?_
 refine dLd 4 [[],[]] ?_
 refine dP 5 ?_
 refine dP 6 ?_
 refine dP 7 ?_
 refine dFa 8 ?_
 refine dFa 9 ?_
 refine dLd 10 [[],[]] ?_
 refine dP 11 ?_
 refine dP 12 ?_
 refine dP 13 ?_
 refine dFa 14 ?_
 refine dQ 15 [[],[]] rfl (Qf rfl rfl Xq (λw h=>HS.nd_cell hi1 h aPk 1 rfl (by decide))) (dP 16 ?_)
 refine dP 17 ?_
 refine dFa 18 ?_
 refine dQ 19 [[],[]] rfl (Qf rfl rfl Xg (λw h=>HS.nd_cell hi1 h aPk 2 rfl (by decide))) (dV 20 rfl (Qa rfl rfl rfl Qw _ rfl om rfl) (Qr (show _=Value.pointer (some ⟨gn1,(Q3 (pln L)).1*3,none⟩)from by rw[Nat.zero_add]) (dFa 21 ?_)))
 refine dSt 22 ?_ (hl:=(by rw[Qi nv3];show _+1<=_;omega))
 refine dTu [25] ?_
 refine dV 23 rfl (Qa rfl rfl rfl Qw _ rfl om rfl) (Qr (show _=Value.pointer (some ⟨gn1,(Q3 (pln L)).1*3,none⟩)from by rw[Nat.zero_add]) (dFa 24 ?_))
 refine Qlk 25 rfl (Xo rfl rfl rfl Xg rfl aPt (by rw[Qm,Qi nv3];show _+1<=_;omega) rfl) (by kernel_rfl) (λw h=>h.ent aEt) (λ_ _=>?_)
 refine dTu [] ?_
 refine dNi ?_
 refine aU ?_
 refine Qg (L':=[(2,_),(3,_),(4,_)]) aSx (λ_ h=>h) ?_
 refine aU2 ?_
 refine QaX (λw h=>HS.node_move (i:=0) (gn:=gn1) (cap:=cap1) hi1 ho1 (λe=>hne e.symm) h aPk aPk) λL2=>?_
 refine Xm (λw h=>h.1) λhS2=>QQ (λw h=>h.2) ?_
 have hi2:0<L2.length:=by rw[hS2.len];exact hi1
 have hN2:nth L2 0=nth L1 0:=hS2.other hi1 hne
 rw[<-hN2]
 refine aU2 ?_
 refine o_h (Qe (cs:=[_]) rfl rfl QA Yp rfl rfl rfl) rfl (λb1 _=>aU2 ?_)
 refine ZV (Xo rfl rfl rfl Xq rfl aPt (by rw[Qi nv3];show _+1<=_;omega) rfl) (λ_ _=>aU2 ?_)
 refine ZV (Xo rfl rfl rfl Xg rfl aPt (by rw[Qm,Qi nv3];show _+1<=_;omega) rfl) (λ_ _=>aU6 ?_)
 exact rT rfl rfl (λw' h'=>by obtain⟨LC,hSC,hC⟩:=HS.node_low (i:=0) (gn:=gn1) (cap:=cap1) (ca:=some ⟨b1,0,none⟩) (cc:=1) (cs:=[((Q3 (pln L)).1:Int)]) hi2 (HS.own_shut (t:=3) (sz:=1) (n:=1) (cap:=1) (h'.pick (A:=.blk b1 3 (1*1) (inV ((Q3 (pln L)).1:Int))) aPk) rfl (by decide) (by decide)) (.there aPk) .here aPk;exact⟨((gn1,cap1),LC),rfl,⟨by have e2:pln L2=csN (esN (pln L1) (Q3 (pln L)).1 (nth (pln L) 0).es) (Q3 (pln L)).1 (nth (pln L) 0).cs:=(by rw[QfL (by rw[Qb];exact ho1),hS2.pl,Ql ho1,<-hN1];rfl);rw[hSC.pl,Yf,<-hL1,<-e2,QfL (by rw[Qb];exact hi2),Ql hi2];rfl,by simp only[];rw[hSC.len,hS2.len];exact hn1,hm1⟩,by simp only[];rw[hSC.len,hS2.len];exact hC.ent aEt⟩)
theorem c172(w:World)(a:Option Addr)(n cap:Nat):CE 172 #[.slice a n cap] w [] (λg:Nat=>.func (.func 217) #[] #[.pointer (some ⟨g,0,none⟩)]) (λg=>True) λg=>[.blk g 28 1 [.slice a n cap]]:=by
 refine eN1 Tryz.func172 Tryz.ntmps172 ?_
 refine aU2 ?_
 refine oBx λb1 _=>?_
 refine aU7 ?_
 exact rT rfl rfl (λw' h'=>⟨b1,rfl,trivial,h'.ent aEt⟩)
theorem c217(w:World){G:Type}(w0:World)(M:List Nat)(Cs:Nat->G->List HA)(g0:G)(l b1:Nat)(P:List Nat)(a:Option Addr)(cap:Nat)(hl:P.length<=100000)(hw:HS w0 M (Cs 0 g0) w)(hr:∀k g w,HS w0 M (Cs k g) w->Rd w [] b1 0 (.slice a P.length cap)/\Rw inV 1 w [] a (iN P))(hy:∀k g w,k<P.length->HS w0 M (Cs k g) w->QiO Tryz.prog l #[.int .i64 ((P.length-1-k:Nat):Int),.int .i64 (((nth P (P.length-1-k)):Nat):Int)] w λe w'=>∃g',e=.returned (.bool true)/\True/\HS w0 M (Cs (k+1) g') w'):Calls Tryz.prog 217 #[.func (.yield l) #[] #[],.pointer (some ⟨b1,0,none⟩)] w λen w'=>(∃v,en=.returned v)/\∃x:G,HS w0 M (Cs P.length x) w':=by
 refine eW2 Tryz.func217 Tryz.ntmps217 hw ?_
 refine aU2 ?_
 refine o_q (Qf rfl rfl Xg (λw h=>(hr _ _ w h).1)) rfl (aT2 ?_)
 refine aU3 ?_
 refine Qx (α:=Nat×G) [3,7,8,9,10,11,12,13,14,15,16,17,18] (λx=>[(3,.int .i64 ((P.length:Int)-1-(x.1:Int)))]) (λx=>HS w0 M (Cs x.1 x.2)) (λx=>x.1<=P.length) (λx=>P.length-x.1) (0,g0) (Nat.zero_le _) (by refine Qfw (congrArg (λe=>some (Value.int .i64 e)) (show _=_ from by simp only[];omega)) ?_;repeat (first|exact QlS|refine Qfw rfl ?_)) (λw h=>h) (λ⟨k,gg⟩hk1=>?_)
 dsimp only
 simp only[]at hk1
 refine aU4 ?_
 refine Qh (show _=Value.int .i64 (((P.length:Int)-1-(k:Int)))from rfl) (aU2 ?_)
 refine sCd rfl (λh1=>?_) λh1=>?_
 ·have hk:k<P.length:=by omega
  refine Xp (λw h=>Rw.some (hr _ _ w h).2 (by rw[Qan];omega)) λhas=>aU7 ?_
  refine Qh (show _=Value.int .i64 ((P.length-1-k:Nat):Int)from by congr 1;omega) (o_q (Qf rfl rfl Xg (λw h=>(hr _ _ w h).1)) rfl (aU ?_))
  refine Qh (show _=Value.int .i64 ((P.length-1-k:Nat):Int)from by congr 1;omega) (o_p (Qa rfl rfl rfl QA (P.length-1-k) om om has) rfl (o_q (Qf rfl rfl X4 (λw h=>by have h9:=(hr _ _ w h).2.rdj 0 (i:=P.length-1-k) (by rw[Qan];omega) rfl;rw[Qk8 om]at h9;exact h9)) rfl (o_h (QsW rfl rfl rfl (λw1 h1=>hy k gg w1 hk h1)) rfl (λgy _=>aU2 ?_))))
  refine sCd rfl (λh2=>?_) λh2=>?_
  ·exfalso;first|omega|(simp at h2;done)|(simp_all;done)
  refine aT5 ?_
  refine aU2 ?_
  exact Q1 (k+1,gy) (by(try simp only[]);omega) (by(try simp only[]);omega) (by refine Qfw (congrArg (λe=>some (Value.int .i64 e)) (show _=_ from by simp only[];omega)) ?_;repeat (first|exact QlS|refine Qfw rfl ?_)) (λw h=>h)
 obtain rfl:k=P.length:=om
 refine Qn rfl ?_
 exact Zs rfl (λw' h'=>⟨⟨_,rfl⟩,gg,h'⟩)
instance:TFn Tryz.prog 172:=⟨by kernel_rfl⟩
theorem Qrl:QY Tryz.prog 217=true:=by kernel_rfl
theorem QoQ:QY Tryz.prog 213=true:=by kernel_rfl
theorem QuB:QY Tryz.prog 214=true:=by kernel_rfl
set_option maxHeartbeats 4000000 in
theorem c166(w:World)(bt:Nat)(j:Nat)(mo rm:Int)(gn cap:Nat)(L:List LNd)(P:List Nat)(pa:Option Addr)(pc:Nat)(hw:HS w (fps [.blk bt 166 6 (tbV (j:Int) mo rm (some ⟨gn,0,none⟩) (L).length cap),.blk gn 69 (cap*3) ((L).flatMap LNd.vals),.star ((L).map (Qs 27))]) [.blk bt 166 6 (tbV (j:Int) mo rm (some ⟨gn,0,none⟩) (L).length cap),.blk gn 69 (cap*3) ((L).flatMap LNd.vals),.star ((L).map (Qs 27))] w)(hnc:L.length<=cap)(hcm:cap<=maxLen)(hP:Rw inV 1 w (fps [.blk bt 166 6 (tbV (j:Int) mo rm (some ⟨gn,0,none⟩) (L).length cap),.blk gn 69 (cap*3) ((L).flatMap LNd.vals),.star ((L).map (Qs 27))]) pa (iN P))(hpl:P.length<=100000)(hok:QcX mo (pln L) P.reverse)(hroot:RootOk mo rm (Yq mo (pln L) P.reverse)):CE 166 #[.pointer (some ⟨bt,0,none⟩),.slice pa P.length pc] w (fps [.blk bt 166 6 (tbV (j:Int) mo rm (some ⟨gn,0,none⟩) (L).length cap),.blk gn 69 (cap*3) ((L).flatMap LNd.vals),.star ((L).map (Qs 27))]) (λg:(Nat×Nat)×List LNd=>.tuple #[]) (λg=>(pln g.2=QgI mo rm (pln L) P.reverse/\g.2.length<=g.1.2/\g.1.2<=maxLen)) λg=>[.blk bt 166 6 (tbV (j:Int) mo rm (some ⟨g.1.1,0,none⟩) (g.2).length g.1.2),.blk g.1.1 69 (g.1.2*3) ((g.2).flatMap LNd.vals),.star ((g.2).map (Qs 27))]:=by
 refine eW2 Tryz.func166 Tryz.ntmps166 hw ?_
 refine aU2 ?_
 refine oBx λb1 _=>?_
 refine aU5 ?_
 refine oCh rfl (λw1 h1=>c172 w1 pa P.length pc) (λb2 _=>aU2 ?_)
 refine QmA (G:=(Nat×Nat)×List LNd) (Bs:=λg=>[.blk bt 166 6 (tbV (j:Int) mo rm (some ⟨g.1.1,0,none⟩) (g.2).length g.1.2),.blk g.1.1 69 (g.1.2*3) ((g.2).flatMap LNd.vals),.star ((g.2).map (Qs 27)),.blk b1 158 1 [.pointer (some ⟨bt,0,none⟩)],.blk b2 28 1 [.slice pa P.length pc],.pure (pln (g.2)=Yq mo (pln L) (P.reverse.take P.length)/\QcX mo (pln (g.2)) (P.reverse.drop P.length)/\(g.2).length<=g.1.2/\g.1.2<=maxLen)]) rfl rfl rfl Qrl (λfid D l a9 w1 ob hob ha9 hw1=>?_) (λD x=>?_)
 ·skip
  refine(c217 w1 w (fps [.blk bt 166 6 (tbV (j:Int) mo rm (some ⟨gn,0,none⟩) (L).length cap),.blk gn 69 (cap*3) ((L).flatMap LNd.vals),.star ((L).map (Qs 27))]) (λk g=>.obj l ob::.obj D (.deferred (some []))::[.blk bt 166 6 (tbV (j:Int) mo rm (some ⟨g.1.1,0,none⟩) (g.2).length g.1.2),.blk g.1.1 69 (g.1.2*3) ((g.2).flatMap LNd.vals),.star ((g.2).map (Qs 27)),.blk b1 158 1 [.pointer (some ⟨bt,0,none⟩)],.blk b2 28 1 [.slice pa P.length pc],.pure (pln (g.2)=Yq mo (pln L) (P.reverse.take k)/\QcX mo (pln (g.2)) (P.reverse.drop k)/\(g.2).length<=g.1.2/\g.1.2<=maxLen)]) ((gn,cap),L) l b2 P pa pc hpl ?_ ?_ (λk g w2 hk h2=>?_)).mono λe w2 hx=>?_
  ·exact(HS.add_pure (p:=pln L=Yq mo (pln L) (P.reverse.take 0)/\QcX mo (pln L) (P.reverse.drop 0)/\L.length<=cap/\cap<=maxLen) ⟨rfl,hok,hnc,hcm⟩ hw1).ent aEt
  ·exactλk g w2 h2=>⟨h2.rd_blk (i:=0) aPk rfl (by simp),hP.later h2⟩
  rotate_left
  ·exact hx
  subst hob
  obtain⟨⟨ga,gc⟩,Lg⟩:=g
  dsimp only at h2
  obtain⟨hg1,hg2,hg3,hg4⟩:=h2.get_pure aPk
  rw[Qkj hk]at hg2
  obtain⟨⟨hi,hsp⟩,hnx⟩:=hg2
  have hst:Yq mo (pln L) (P.reverse.take (k+1))=QbZ mo (pln Lg) (nth P (P.length-1-k)):=by rw[Qki hk,Qov,<-hg1]
  rw[Qb]at hi
  rw[Ql hi]at hsp
  simp only[LNd.pl]at hsp
  refine Qmu (fn:=Tryz.f166) (As1:=.obj D (.deferred (some []))::[.blk bt 166 6 (tbV (j:Int) mo rm (some ⟨ga,0,none⟩) (Lg).length gc),.blk ga 69 (gc*3) ((Lg).flatMap LNd.vals),.star ((Lg).map (Qs 27)),.blk b1 158 1 [.pointer (some ⟨bt,0,none⟩)],.blk b2 28 1 [.slice pa P.length pc],.pure (pln (Lg)=Yq mo (pln L) (P.reverse.take k)/\QcX mo (pln (Lg)) (P.reverse.drop k)/\(Lg).length<=gc/\gc<=maxLen)]) (L1:=[(5,.int .i64 (((nth P (P.length-1-k)):Nat):Int)),(2,.pointer (some ⟨b1,0,none⟩))]) h2 rfl (FR.round2 ha9 9 10 _ _ rfl rfl) ?_ ?_
  ·skip
   refine aU3 ?_
   exact Qqq () aSx (λw h=>h.ent aEt)
  skip
  refine aU2 ?_
  refine ZC (α:=Bool) [11,12,13,14,15,16,17,18,19,20,21,22,23,24,25,26,27,28,29,30] (λx=>[(30,.bool x)]) (λx=>x=true ↔ (0<(nth P (P.length-1-k))/\mo<((nth Lg (nth P (P.length-1-k))).es.length:Int))) ?_ ?_
  ·skip
   refine Qt [] QC ?_
   refine dP 0 ?_
   refine dP 1 ?_
   refine dP 2 ?_
   apply XA 13
   ·exact rfl
   ·intro hg3
    have hs4:=hg3;try simp only[dT]at hs4
    refine dQo 3 13 [] hg3 rfl rfl rfl (X8 rfl rfl YW aPk rfl) ?_
    refine dPo 4 13 hg3 ?_
    refine dFo 5 13 hg3 ?_
    refine dFo 6 13 hg3 ?_
    refine dQo 7 13 [] hg3 rfl rfl rfl (X8 rfl rfl Yl aPk rfl) ?_
    refine dPo 8 13 hg3 ?_
    refine dVo 9 13 hg3 rfl rfl rfl (Qa rfl rfl rfl Qw ((nth P (P.length-1-k))) om om rfl) ?_
    refine Qr (show _=Value.pointer (some ⟨ga,(nth P (P.length-1-k))*3,none⟩)from by rw[Nat.zero_add]) (dFo 10 13 hg3 ?_)
    refine dQo 11 13 [] hg3 rfl rfl rfl (Qf rfl rfl Xq (λw h=>HS.nd_cell hi h aPk 1 rfl (by decide))) ?_
    refine dVo 12 13 hg3 rfl rfl rfl (QS rfl rfl Tryz.underlying67) ?_
    refine dQo 13 13 [] hg3 rfl rfl rfl (X8 rfl rfl YW aPk rfl) ?_
    refine dPo 14 13 hg3 ?_
    refine dFo 15 13 hg3 ?_
    refine dFo 16 13 hg3 ?_
    refine dQo 17 13 [] hg3 rfl rfl rfl (X8 rfl rfl X4 aPk rfl) ?_
    refine dPo 18 13 hg3 ?_
    refine dV 19 rfl (Xv rfl rfl hg3 rfl) (dNi ?_)
    exact Qo (decide (((nth Lg (nth P (P.length-1-k))).es.length:Int)>mo)) (by rw[decide_eq_true_eq];omega) aSx (λw h=>h.ent aEt)
   intro hg5
   have hs6:=hg5;try simp only[dN]at hs6
   refine dOf 3 13 hg5 ?_
   refine dOf 4 13 hg5 ?_
   refine dOf 5 13 hg5 ?_
   refine dOf 6 13 hg5 ?_
   refine dOf 7 13 hg5 ?_
   refine dOf 8 13 hg5 ?_
   refine dOf 9 13 hg5 ?_
   refine dOf 10 13 hg5 ?_
   refine dOf 11 13 hg5 ?_
   refine dOf 12 13 hg5 ?_
   refine dOf 13 13 hg5 ?_
   refine dOf 14 13 hg5 ?_
   refine dOf 15 13 hg5 ?_
   refine dOf 16 13 hg5 ?_
   refine dOf 17 13 hg5 ?_
   refine dOf 18 13 hg5 ?_
   refine dV 19 rfl (Xl rfl rfl hg5 rfl) (dNi ?_)
   exact Qo false (by constructor<;>intro h9<;>first|(cases h9;done)|omega) aSx (λw h=>h.ent aEt)
  intro x hx
  refine sCd rfl (λh7=>?_) λh7=>?_
  ·obtain⟨hpos,hbig⟩:=hx.1 (by assumption)
   refine aU3 ?_
   refine o_h (QM (Cs:=[.blk bt 166 6 (tbV (j:Int) mo rm (some ⟨ga,0,none⟩) (Lg).length gc),.blk ga 69 (gc*3) ((Lg).flatMap LNd.vals),.star ((Lg).map (Qs 27))]) rfl QoQ rfl aPs (λw1 h1 hf=>c213 w1 bt j mo rm ga gc Lg (nth P (P.length-1-k)) hf hg3 hg4 (hsp hpos hbig))) rfl (λ⟨⟨g5,c5⟩,L5⟩hF5=>aU2 ?_)
   exact QeA rfl aPk (λw h=>⟨((g5,c5),L5),rfl,trivial,by exact(HS.add_pure (p:=pln L5=Yq mo (pln L) (P.reverse.take (k+1))/\QcX mo (pln L5) (P.reverse.drop (k+1))/\L5.length<=c5/\c5<=maxLen) ⟨by rw[hst,QbZ,if_pos ⟨hpos,by rw[Ql hi];exact hbig⟩];exact hF5.1,by have h9:=hnx;rw[QbZ,if_pos ⟨hpos,by rw[Ql hi];exact hbig⟩]at h9;rw[hF5.1];exact h9,hF5.2.1,hF5.2.2⟩ h).ent aEt⟩)
  have hno:¬(0<(nth P (P.length-1-k))/\mo<((nth Lg (nth P (P.length-1-k))).es.length:Int)):=λh9=>by have h8:=hx.2 h9;simp_all
  refine aU2 ?_
  exact QeA rfl aPk (λw h=>⟨((ga,gc),Lg),rfl,trivial,by exact(HS.add_pure (p:=pln Lg=Yq mo (pln L) (P.reverse.take (k+1))/\QcX mo (pln Lg) (P.reverse.drop (k+1))/\Lg.length<=gc/\gc<=maxLen) ⟨by rw[hst,QbZ,if_neg (by rw[Ql hi];exact hno)],by have h9:=hnx;rw[QbZ,if_neg (by rw[Ql hi];exact hno)]at h9;exact h9,hg3,hg4⟩ h).ent aEt⟩)
 skip
 obtain⟨⟨ga,gc⟩,LG⟩:=x
 dsimp only
 refine Xp (λw h=>h.get_pure aPk) λhpu=>?_
 obtain⟨hLG,_,hg3,hg4⟩:=hpu
 rw[show P.length=P.reverse.length from(List.length_reverse ..).symm,List.take_length]at hLG
 have hiG:0<LG.length:=by rw[<-Qb,hLG];exact hroot.lt
 have hlG:=hroot.len
 rw[<-hLG,Qb]at hlG
 refine aU2 ?_
 refine Qt [] QC ?_
 refine dLd 0 [] ?_
 refine dP 1 ?_
 refine dFa 2 ?_
 refine dFa 3 ?_
 refine dLd 4 [] ?_
 refine dV 5 rfl (Qa rfl rfl rfl Qw (0) om om rfl) (Qr (show _=Value.pointer (some ⟨ga,0*3,none⟩)from by rw[Nat.zero_add]) (dFa 6 ?_))
 refine dQ 7 [] rfl (Qf rfl rfl Xq (λw h=>HS.nd_cell hiG h aPk 1 rfl (by decide))) (dV 8 rfl (QS rfl rfl Tryz.underlying67) (dLd 9 [] ?_))
 refine dP 10 ?_
 refine dFa 11 ?_
 refine dFa 12 ?_
 refine dLd 13 [] ?_
 refine dP 14 ?_
 refine dNi ?_
 refine sCd rfl (λh8=>?_) λh8=>?_
 ·have hbigR:rm<((nth (pln LG) 0).es.length:Int):=by rw[Ql hiG];exact h8
  refine aU3 ?_
  refine o_h (QM (Cs:=[.blk bt 166 6 (tbV (j:Int) mo rm (some ⟨ga,0,none⟩) (LG).length gc),.blk ga 69 (gc*3) ((LG).flatMap LNd.vals),.star ((LG).map (Qs 27))]) rfl QuB rfl aPs (λw1 h1 hf=>c214 w1 bt j mo rm ga gc LG hf hg3 hg4 hiG om (by rw[hLG];exact hroot.us))) rfl (λ⟨⟨g6,c6⟩,L6⟩hF6=>?_)
  dsimp only
  obtain⟨hL6,hn6,hm6⟩:=hF6
  simp only[]at hL6 hn6 hm6
  have ho6:(Q3 (pln LG)).1<L6.length:=by rw[<-Qb,hL6,hLG];exact Qs6 _
  refine aU3 ?_
  refine Qt [] QC ?_
  refine dLd 0 [] ?_
  refine dP 1 ?_
  refine dFa 2 ?_
  refine dFa 3 ?_
  refine dLd 4 [] ?_
  refine dP 5 ?_
  refine dV 6 rfl (Qa rfl rfl rfl Qw ((Q3 (pln LG)).1) om om rfl) (Qr (show _=Value.pointer (some ⟨g6,(Q3 (pln LG)).1*3,none⟩)from by rw[Nat.zero_add]) (dFa 7 ?_))
  refine dQ 8 [] rfl (Qf rfl rfl Xq (λw h=>HS.nd_cell ho6 h aPk 1 rfl (by decide))) (dV 9 rfl (QS rfl rfl Tryz.underlying67) (dLd 10 [] ?_))
  refine dP 11 ?_
  refine dFa 12 ?_
  refine dFa 13 ?_
  refine dLd 14 [] ?_
  refine dP 15 ?_
  refine dNi ?_
  refine sCd rfl (λh9=>?_) λh9=>?_
  ·have hbig2:mo<((nth (pln L6) (Q3 (pln LG)).1).es.length:Int):=by rw[Ql ho6];exact h9
   refine Qg (L':=[(2,_),(6,_)]) aSx (λ_ h=>h) ?_
   refine aU3 ?_
   refine o_h (QM (Cs:=[.blk bt 166 6 (tbV (j:Int) mo rm (some ⟨g6,0,none⟩) (L6).length c6),.blk g6 69 (c6*3) ((L6).flatMap LNd.vals),.star ((L6).map (Qs 27))]) rfl QoQ rfl aPs (λw1 h1 hf=>c213 w1 bt j mo rm g6 c6 L6 (Q3 (pln LG)).1 hf hn6 hm6 (by rw[hL6,hLG];exact hroot.spl (by rw[<-hLG];exact hbigR) (by rw[<-hLG,<-hL6];exact hbig2)))) rfl (λ⟨⟨g7,c7⟩,L7⟩hF7=>aU ?_)
   exact Qif rfl aPk (λw' h'=>by first|exact⟨((g7,c7),L7),rfl,⟨by rw[QgI,<-hLG,QbB,if_pos hbigR,if_pos (by rw[<-hL6];exact hbig2),<-hL6];exact hF7.1,hF7.2.1,hF7.2.2⟩,h'.ent aEt⟩|exact⟨((g6,c6),L6),rfl,⟨by rw[QgI,<-hLG,QbB,if_pos hbigR,if_neg (by rw[<-hL6];exact hbig2n),<-hL6],hn6,hm6⟩,h'.ent aEt⟩|exact⟨((ga,gc),LG),rfl,⟨by rw[QgI,<-hLG,QbB,if_neg hsmR],hg3,hg4⟩,h'.ent aEt⟩)
  have hbig2n:¬mo<((nth (pln L6) (Q3 (pln LG)).1).es.length:Int):=by rw[Ql ho6];have hq:=h9;simp only[LNd.pl];omega
  refine aU ?_
  exact Qif rfl aPk (λw' h'=>by first|exact⟨((g7,c7),L7),rfl,⟨by rw[QgI,<-hLG,QbB,if_pos hbigR,if_pos (by rw[<-hL6];exact hbig2),<-hL6];exact hF7.1,hF7.2.1,hF7.2.2⟩,h'.ent aEt⟩|exact⟨((g6,c6),L6),rfl,⟨by rw[QgI,<-hLG,QbB,if_pos hbigR,if_neg (by rw[<-hL6];exact hbig2n),<-hL6],hn6,hm6⟩,h'.ent aEt⟩|exact⟨((ga,gc),LG),rfl,⟨by rw[QgI,<-hLG,QbB,if_neg hsmR],hg3,hg4⟩,h'.ent aEt⟩)
 have hsmR:¬rm<((nth (pln LG) 0).es.length:Int):=by rw[Ql hiG];have hq:=h8;simp only[LNd.pl];omega
 refine aU ?_
 exact Qif rfl aPk (λw' h'=>by first|exact⟨((g7,c7),L7),rfl,⟨by rw[QgI,<-hLG,QbB,if_pos hbigR,if_pos (by rw[<-hL6];exact hbig2),<-hL6];exact hF7.1,hF7.2.1,hF7.2.2⟩,h'.ent aEt⟩|exact⟨((g6,c6),L6),rfl,⟨by rw[QgI,<-hLG,QbB,if_pos hbigR,if_neg (by rw[<-hL6];exact hbig2n),<-hL6],hn6,hm6⟩,h'.ent aEt⟩|exact⟨((ga,gc),LG),rfl,⟨by rw[QgI,<-hLG,QbB,if_neg hsmR],hg3,hg4⟩,h'.ent aEt⟩)
instance:TFn Tryz.prog 111:=⟨by kernel_rfl⟩
theorem QtS:QY Tryz.prog 166=true:=by kernel_rfl
set_option maxHeartbeats 4000000 in
theorem c108(w:World)(bt:Nat)(j:Nat)(mo rm:Int)(gn cap:Nat)(L:List LNd)(x:TEnt)(hw:HS w (fps [.blk bt 166 6 (tbV (j:Int) mo rm (some ⟨gn,0,none⟩) (L).length cap),.blk gn 69 (cap*3) ((L).flatMap LNd.vals),.star ((L).map (Qs 27))]) [.blk bt 166 6 (tbV (j:Int) mo rm (some ⟨gn,0,none⟩) (L).length cap),.blk gn 69 (cap*3) ((L).flatMap LNd.vals),.star ((L).map (Qs 27))] w)(hnc:L.length<=cap)(hcm:cap<=maxLen)(hj:j<=3)(h0:0<L.length)(hB:Bd (pln L))(hT:TOk (j:Int) (pln L))(hk:QW (j:Int) x.key=true)(hok:¬(Qj (j:Int) (pln L) x.key).2.2=true->InsOk (j:Int) mo rm (pln L) x):CE 108 #[.pointer (some ⟨bt,0,none⟩),.agg #[.string (bs x.key),.string (bs x.val)]] w (fps [.blk bt 166 6 (tbV (j:Int) mo rm (some ⟨gn,0,none⟩) (L).length cap),.blk gn 69 (cap*3) ((L).flatMap LNd.vals),.star ((L).map (Qs 27))]) (λg:(Nat×Nat)×List LNd=>.int .i64 (QdU (j:Int) mo rm (pln L) x)) (λg=>(pln g.2=QaQ (j:Int) mo rm (pln L) x/\g.2.length<=g.1.2/\g.1.2<=maxLen)) λg=>[.blk bt 166 6 (tbV (j:Int) mo rm (some ⟨g.1.1,0,none⟩) (g.2).length g.1.2),.blk g.1.1 69 (g.1.2*3) ((g.2).flatMap LNd.vals),.star ((g.2).map (Qs 27))]:=by
 have hK:∀i,i<L.length->∀y∈(nth L i).es,QW (j:Int) y.key=true/\y.key.length<=1000000:=λi hi y hy=>Qaw hT i (by rw[Qb];exact hi) y (by rw[Ql hi];exact hy)
 have hkl:x.key.length<=1000000:=by have:=Qff hk;omega
 refine eW2 Tryz.func108 Tryz.ntmps108 hw ?_
 refine aU2 ?_
 refine oBx λb1 _=>?_
 refine aU7 ?_
 refine oCh rfl (λw1 h1=>QvB w1 bt j mo rm (some ⟨gn,0,none⟩) cap L x.key hj h0 hB hT hK hk hkl (HS.nt_at h1 aPk aPk) (HS.tbr h1 aPk)) (λ⟨pa,pc⟩_=>?_)
 dsimp only
 refine Qau ?_
 refine sCd rfl (λh2=>?_) λh2=>?_
 ·have hfd:(Qj (j:Int) (pln L) x.key).2.2=true:=h2
  refine aU4 ?_
  exact rT rfl rfl (λw' h'=>⟨((gn,cap),L),by simp only[Xf];rw[QdU,if_pos hfd],⟨by simp only[];rw[QaQ,if_pos hfd],hnc,hcm⟩,h'.ent aEt⟩)
 have hfd:¬(Qj (j:Int) (pln L) x.key).2.2=true:=by have hq:=h2;simp[hq]
 have hk9:=hok hfd
 have hne:=hk9.ne
 have hlen9:=hk9.len
 have hlf:=hk9.lf
 rw[Qb]at hlf
 have hpl:=hk9.pl
 rw[Ql hlf]at hpl
 have hes9:=hk9.es
 rw[Ql hlf]at hes9
 simp only[LNd.pl]at hpl hes9
 have hpn:(Qj (j:Int) (pln L) x.key).1.length-1<(Qj (j:Int) (pln L) x.key).1.length:=om
 refine Xp (λw h=>HS.kids_some (by rw[Qan];omega) h aPk) λhpa=>?_
 obtain⟨gp,hpa⟩:=hpa
 refine aU2 ?_
 refine Qt [] QC ?_
 refine dP 0 ?_
 refine dP 1 ?_
 refine dFa 2 ?_
 refine dFa 3 ?_
 refine dLd 4 [] ?_
 refine dP 5 ?_
 refine dP 6 ?_
 refine dV 7 rfl (QS rfl rfl Tryz.underlying28) (dP 8 ?_)
 try refine dWr ?_
 refine dV 9 rfl (Qa rfl rfl rfl QA ((Qj (j:Int) (pln L) x.key).1.length-1) om om hpa) (dQ 10 [] rfl (Qf rfl rfl X4 (λw h=>HS.path_rd hpn hpa h aPk)) (Qr (show _=Value.int .i64 (((Zv (j:Int) (pln L) x.key):Nat):Int)from rfl) (dV 11 rfl (Qa rfl rfl rfl Qw ((Zv (j:Int) (pln L) x.key)) om om rfl) (Qr (show _=Value.pointer (some ⟨gn,(Zv (j:Int) (pln L) x.key)*3,none⟩)from by rw[Nat.zero_add]) (dP 12 ?_)))))
 refine dNi ?_
 refine aU ?_
 refine XG (λw h=>HS.es_take hlf h aPk) (Qt [8,11] QC ?_)
 refine dP 0 ?_
 refine dP 1 ?_
 refine dP 2 ?_
 refine dFa 3 ?_
 refine dQ 4 [[],[]] rfl (Qf rfl rfl Xq (λw h=>HS.nd_cell hlf h aPk 1 rfl (by decide))) (dP 5 ?_)
 refine dLn 6 [[7],[]] ?_
 refine dH 7 rfl (Qe (cs:=[_,_]) rfl rfl QN XH rfl rfl rfl) (λb3 _=>dBa ?_)
 refine dH 8 rfl (QM (Cs:=[.own (.slice ((nth L (Zv (j:Int) (pln L) x.key))).ea ((nth L (Zv (j:Int) (pln L) x.key))).es.length ((nth L (Zv (j:Int) (pln L) x.key))).ec) 27 2 ((nth L (Zv (j:Int) (pln L) x.key))).es.length (((nth L (Zv (j:Int) (pln L) x.key))).es.flatMap TEnt.vals),.blk b3 27 2 (TEnt.vals x)]) rfl Qk7 rfl aPs (λw1 h1 hf=>Qq2 w1 (nth L (Zv (j:Int) (pln L) x.key)).ea (Qj (j:Int) (pln L) x.key).2.1 (nth L (Zv (j:Int) (pln L) x.key)).ec (nth L (Zv (j:Int) (pln L) x.key)).es x b3 1 2 hf om hpl)) (λb4 _=>dTu [11] ?_)
 refine dP 9 ?_
 refine dFa 10 ?_
 refine dSt 11 ?_ (hl:=(by rw[Qi nv3];show _+1<=_;omega))
 refine dTu [] ?_
 refine dNi ?_
 refine aU ?_
 refine Qg (L':=[(0,_),(4,_),(5,_)]) aSx (λ_ h=>h) ?_
 refine aU2 ?_
 refine QaX (λw h=>HS.es_setB (gn:=gn) (cap:=cap) (ea:=b4.1) (ec:=b4.2) (es:=QT (nth L (Zv (j:Int) (pln L) x.key)).es (Qj (j:Int) (pln L) x.key).2.1 x) hlf h aPk aPk aPk) λL2=>?_
 refine Xm (λw h=>h.1) λhS2=>QQ (λw h=>h.2) ?_
 have hL2:pln L2=Qic (j:Int) (pln L) x:=by rw[hS2.es,Qic,Ql hlf];rfl
 refine QQ (C':=HS w (fps [.blk bt 166 6 (tbV (j:Int) mo rm (some ⟨gn,0,none⟩) (L).length cap),.blk gn 69 (cap*3) ((L).flatMap LNd.vals),.star ((L).map (Qs 27))]) [.blk bt 166 6 (tbV (j:Int) mo rm (some ⟨gn,0,none⟩) (L2).length cap),.blk gn 69 (cap*3) ((L2).flatMap LNd.vals),.star ((L2).map (Qs 27)),.kids pa pc (iN (Qj (j:Int) (pln L) x.key).1)]) (λw2 h=>by rw[hS2.len];exact h.ent aEt) (aU ?_)
 refine o_h (QM (Cs:=[.blk bt 166 6 (tbV (j:Int) mo rm (some ⟨gn,0,none⟩) (L2).length cap),.blk gn 69 (cap*3) ((L2).flatMap LNd.vals),.star ((L2).map (Qs 27))]) rfl QtS rfl aPs (λw1 h1 hf=>c166 w1 bt j mo rm gn cap L2 (Qj (j:Int) (pln L) x.key).1 pa pc hf (by rw[hS2.len];exact hnc) hcm (HS.rw_ownF (n:=(iN (Qj (j:Int) (pln L) x.key).1).length) iv1 h1 aPs aPk rfl) om (by rw[hL2];exact hk9.grw) (by rw[hL2];exact hk9.root))) rfl (λ⟨⟨g5,c5⟩,L5⟩hF5=>?_)
 dsimp only
 obtain⟨hL5,hn5,hm5⟩:=hF5
 simp only[]at hL5 hn5 hm5
 have hI:QaQ (j:Int) mo rm (pln L) x=pln L5:=by rw[QaQ,if_neg hfd,hL5,hL2]
 have hIl:(QaQ (j:Int) mo rm (pln L) x).length=L5.length:=by rw[hI,Qb]
 refine Za ?_
 refine oCq rfl (λw1 h1=>Qd4 w1 _ _) (aU2 ?_)
 exact rT rfl rfl (λw' h'=>⟨((g5,c5),L5),by simp only[Xf];congr 2;rw[QdU,if_neg hfd,hIl];exact(Nat.lt_or_ge 120 L5.length).elim (λh120=>by rw[if_neg om,decide_eq_false om];rfl) (λh120=>by rw[if_pos h120,decide_eq_true om];rfl),⟨hI.symm,hn5,hm5⟩,h'.ent aEt⟩)
theorem Qv9(w:World)(gg i j n cap:Nat)(xs:List Value)(M:List Nat)(hw:HS w M [.blk gg 27 (cap*2) xs] w)(hnc:n<=cap)(hcm:cap<=maxLen)(hxl:xs.length=n*2)(hx1:∀u∈xs,u.oneCell'=true)(hmx:n<=9223372036854775807)(hij:i<j)(hjn:j<=n):Calls Tryz.prog 171 #[.slice (some ⟨gg,0,none⟩) n cap,.int .i64 i,.int .i64 j] w λen w'=>en=.returned (.slice (some ⟨gg,0,none⟩) (n-(j-i)) cap)/\HS w M [.own (.slice (some ⟨gg,0,none⟩) (n-(j-i)) cap) 27 2 (n-(j-i)) (xs.take (i*2)++xs.drop (j*2))] w':=by
 refine eW3 Tryz.func171 Tryz.ntmps171 hw ?_
 refine Zl ?_
 refine o_p (Qko i j n rfl rfl rfl rfl rfl QN rfl rfl rfl om om om) rfl (aU8 ?_)
 refine sCd rfl (λh1=>?_) λh1=>?_
 ·exfalso;first|omega|(simp at h1;done)|(simp_all;done)
 refine aU8 ?_
 refine Qt [6] QC ?_
 refine dP 0 ?_
 refine dP 1 ?_
 refine dV 2 rfl (QG _ _ 0 i rfl rfl QN rfl ⟨_,_,rfl,rfl⟩ om om) ?_
 refine Qr (show _=Value.slice (some ⟨gg,0,none⟩) i cap from by rw[Yw]<;>(congr 1<;>omega)) (dP 3 ?_)
 refine dP 4 ?_
 refine dV 5 rfl (QG _ _ j n rfl rfl QN ⟨_,_,rfl,rfl⟩ rfl om om) (dH 6 rfl (Qfm (cut xs (j*2) ((n-j)*2)) rfl rfl rfl QN Tryz.underlying67 aPt om (Qbh (j*2) ((n-j)*2) (λhk=>X0 om) aPk) (Xu _ _ _ om) (by rw[Xu _ _ _ om];omega) (QeD hx1 _ _)) (λ_ _=>dTu [] ?_))
 refine Qr (show _=Value.slice (some ⟨gg,0,none⟩) (n-(j-i)) cap from by first|rfl|(congr 1<;>first|rfl|omega)) (dP 7 ?_)
 refine dNi ?_
 refine aU6 ?_
 refine o_p (QG _ _ (n-(j-i)) n rfl rfl QN ⟨_,_,rfl,om⟩ ⟨_,_,rfl,rfl⟩ om om) rfl ?_
 refine Qh (show _=Value.slice (some ⟨gg,(n-(j-i))*2,none⟩) (j-i) (cap-(n-(j-i)))from by rw[X0 om]<;>(congr 1<;>omega)) (ZV (QiQ rfl rfl QN XH rfl rfl (by simp) aPt (λ_=>rfl) (by simp only[Qm];omega)) (λ_ _=>aU6 ?_))
 exact rT rfl rfl (λw' h'=>⟨rfl,(HS.to_own (n:=n-(j-i)) (xs:=xs.take (i*2)++xs.drop (j*2)) (ds:=YE [.string (bs []),.string (bs [])] ((j-i)*2)) aPk h' (by have hq:=Qro (xs:=xs) (zs:=YE [.string (bs []),.string (bs [])] ((j-i)*2)) (p:=i*2) (q:=j*2) (N:=n*2) hxl om om (by rw[Q6];omega);rw[show(n-j)*2=n*2-j*2 from om,show(n-(j-i))*2=n*2-(j*2-i*2)from om];exact hq) (by simp only[List.length_append,List.length_take,List.length_drop];omega) om om).ent aEt⟩)
theorem c171(w:World)(a:Option Addr)(i j n cap:Nat)(xs:List Value)(hw:HS w (fps [.own (.slice a n cap) 27 2 n xs]) [.own (.slice a n cap) 27 2 n xs] w)(hx1:∀u∈xs,u.oneCell'=true)(hmx:n<=9223372036854775807)(hij:i<j)(hjn:j<=n):CE 171 #[.slice a n cap,.int .i64 i,.int .i64 j] w (fps [.own (.slice a n cap) 27 2 n xs]) (λg:Unit=>.slice a (n-(j-i)) cap) (λg=>True) λg=>[.own (.slice a (n-(j-i)) cap) 27 2 (n-(j-i)) (xs.take (i*2)++xs.drop (j*2))]:=by
  obtain⟨gg,rfl,_,hnc,hcm,hxl,hb⟩:=hw.own_blk om .here;exact(Qv9 w gg i j n cap xs _ hb hnc hcm hxl hx1 hmx hij hjn).mono λen w' h=>⟨(),h.1,trivial,h.2⟩
theorem QwM(w:World)(gg i j n cap:Nat)(xs:List Value)(M:List Nat)(hw:HS w M [.blk gg 3 (cap*1) xs] w)(hnc:n<=cap)(hcm:cap<=maxLen)(hxl:xs.length=n*1)(hx1:∀u∈xs,u.oneCell'=true)(hmx:n<=9223372036854775807)(hij:i<j)(hjn:j<=n):Calls Tryz.prog 250 #[.slice (some ⟨gg,0,none⟩) n cap,.int .i64 i,.int .i64 j] w λen w'=>en=.returned (.slice (some ⟨gg,0,none⟩) (n-(j-i)) cap)/\HS w M [.own (.slice (some ⟨gg,0,none⟩) (n-(j-i)) cap) 3 1 (n-(j-i)) (xs.take (i*1)++xs.drop (j*1))] w':=by
 refine eW3 Tryz.func250 Tryz.ntmps250 hw ?_
 refine Zl ?_
 refine o_p (Qko i j n rfl rfl rfl rfl rfl QA rfl rfl rfl om om om) rfl (aU8 ?_)
 refine sCd rfl (λh1=>?_) λh1=>?_
 ·exfalso;first|omega|(simp at h1;done)|(simp_all;done)
 refine aU8 ?_
 refine Qt [6] QC ?_
 refine dP 0 ?_
 refine dP 1 ?_
 refine dV 2 rfl (QG _ _ 0 i rfl rfl QA rfl ⟨_,_,rfl,rfl⟩ om om) ?_
 refine Qr (show _=Value.slice (some ⟨gg,0,none⟩) i cap from by rw[Yw]<;>(congr 1<;>omega)) (dP 3 ?_)
 refine dP 4 ?_
 refine dV 5 rfl (QG _ _ j n rfl rfl QA ⟨_,_,rfl,rfl⟩ rfl om om) (dH 6 rfl (Qfm (cut xs (j*1) ((n-j)*1)) rfl rfl rfl QA Tryz.underlying28 aPt om (Qbh (j*1) ((n-j)*1) (λhk=>X0 om) aPk) (Xu _ _ _ om) (by rw[Xu _ _ _ om];omega) (QeD hx1 _ _)) (λ_ _=>dTu [] ?_))
 refine Qr (show _=Value.slice (some ⟨gg,0,none⟩) (n-(j-i)) cap from by first|rfl|(congr 1<;>first|rfl|omega)) (dP 7 ?_)
 refine dNi ?_
 refine aU6 ?_
 refine o_p (QG _ _ (n-(j-i)) n rfl rfl QA ⟨_,_,rfl,om⟩ ⟨_,_,rfl,rfl⟩ om om) rfl ?_
 refine Qh (show _=Value.slice (some ⟨gg,(n-(j-i))*1,none⟩) (j-i) (cap-(n-(j-i)))from by rw[X0 om]<;>(congr 1<;>omega)) (ZV (QiQ rfl rfl QA Yp rfl rfl (by simp) aPt (λ_=>rfl) (by simp only[Qm];omega)) (λ_ _=>aU6 ?_))
 exact rT rfl rfl (λw' h'=>⟨rfl,(HS.to_own (n:=n-(j-i)) (xs:=xs.take (i*1)++xs.drop (j*1)) (ds:=YE [.int .i64 0] ((j-i)*1)) aPk h' (by have hq:=Qro (xs:=xs) (zs:=YE [.int .i64 0] ((j-i)*1)) (p:=i*1) (q:=j*1) (N:=n*1) hxl om om (by rw[Q6];omega);rw[show(n-j)*1=n*1-j*1 from om,show(n-(j-i))*1=n*1-(j*1-i*1)from om];exact hq) (by simp only[List.length_append,List.length_take,List.length_drop];omega) om om).ent aEt⟩)
theorem c250(w:World)(a:Option Addr)(i j n cap:Nat)(xs:List Value)(hw:HS w (fps [.own (.slice a n cap) 3 1 n xs]) [.own (.slice a n cap) 3 1 n xs] w)(hx1:∀u∈xs,u.oneCell'=true)(hmx:n<=9223372036854775807)(hij:i<j)(hjn:j<=n):CE 250 #[.slice a n cap,.int .i64 i,.int .i64 j] w (fps [.own (.slice a n cap) 3 1 n xs]) (λg:Unit=>.slice a (n-(j-i)) cap) (λg=>True) λg=>[.own (.slice a (n-(j-i)) cap) 3 1 (n-(j-i)) (xs.take (i*1)++xs.drop (j*1))]:=by
  obtain⟨gg,rfl,_,hnc,hcm,hxl,hb⟩:=hw.own_blk om .here;exact(QwM w gg i j n cap xs _ hb hnc hcm hxl hx1 hmx hij hjn).mono λen w' h=>⟨(),h.1,trivial,h.2⟩
theorem QoU(w:World)(a:Option Addr)(i cap:Nat)(l:List TEnt)(hw:HS w (fps [.own (.slice a l.length cap) 27 2 l.length (l.flatMap TEnt.vals)]) [.own (.slice a l.length cap) 27 2 l.length (l.flatMap TEnt.vals)] w)(hmax:l.length<=100000)(hi:i<l.length):CE 171 #[.slice a l.length cap,.int .i64 (i:Int),.int .i64 ((i:Int)+1)] w (fps [.own (.slice a l.length cap) 27 2 l.length (l.flatMap TEnt.vals)]) (λg:Unit=>.slice a (QK l i).length cap) (λg=>True) λg=>[.own (.slice a (QK l i).length cap) 27 2 (QK l i).length ((QK l i).flatMap TEnt.vals)]:=by
  have h:=c171 w a i (i+1) l.length cap (l.flatMap TEnt.vals) hw (XZ ev1 l) om om om;rw[Qjv ev2,show l.length-(i+1-i)=(QK l i).length by rw[QeG hi];omega]at h;exact h
theorem QtF(w:World)(a:Option Addr)(i cap:Nat)(l:List Int)(hw:HS w (fps [.own (.slice a l.length cap) 3 1 l.length (l.flatMap inV)]) [.own (.slice a l.length cap) 3 1 l.length (l.flatMap inV)] w)(hmax:l.length<=100000)(hi:i<l.length):CE 250 #[.slice a l.length cap,.int .i64 (i:Int),.int .i64 ((i:Int)+1)] w (fps [.own (.slice a l.length cap) 3 1 l.length (l.flatMap inV)]) (λg:Unit=>.slice a (QK l i).length cap) (λg=>True) λg=>[.own (.slice a (QK l i).length cap) 3 1 (QK l i).length ((QK l i).flatMap inV)]:=by
  have h:=c250 w a i (i+1) l.length cap (l.flatMap inV) hw (XZ QdX l) om om om;rw[Qjv iv1,show l.length-(i+1-i)=(QK l i).length by rw[QeG hi];omega]at h;exact h
theorem Qld:QY Tryz.prog 171=true:=by kernel_rfl
theorem Qqi:QY Tryz.prog 250=true:=by kernel_rfl
theorem QwK(w:World)(bt:Nat)(j:Nat)(mo rm:Int)(gn cap:Nat)(L:List LNd)(p k f t:Nat)(hw:HS w (fps [.blk bt 166 6 (tbV (j:Int) mo rm (some ⟨gn,0,none⟩) (L).length cap),.blk gn 69 (cap*3) ((L).flatMap LNd.vals),.star ((L).map (Qs 27))]) [.blk bt 166 6 (tbV (j:Int) mo rm (some ⟨gn,0,none⟩) (L).length cap),.blk gn 69 (cap*3) ((L).flatMap LNd.vals),.star ((L).map (Qs 27))] w)(hnc:L.length<=cap)(hcm:cap<=maxLen)(hok:GivOk (pln L) p k f t)(hcf:(nth (pln L) p).cs.getD k 0=(f:Int))(hct:(nth (pln L) p).cs.getD (k+1) 0=(t:Int)):CE 220 #[.pointer (some ⟨bt,0,none⟩),.int .i64 (p:Int),.int .i64 ((k+1:Nat):Int),.bool true] w (fps [.blk bt 166 6 (tbV (j:Int) mo rm (some ⟨gn,0,none⟩) (L).length cap),.blk gn 69 (cap*3) ((L).flatMap LNd.vals),.star ((L).map (Qs 27))]) (λg:(Nat×Nat)×List LNd=>.tuple #[]) (λg=>(pln g.2=QjR (pln L) p k f t/\g.2.length<=g.1.2/\g.1.2<=maxLen)) λg=>[.blk bt 166 6 (tbV (j:Int) mo rm (some ⟨g.1.1,0,none⟩) (g.2).length g.1.2),.blk g.1.1 69 (g.1.2*3) ((g.2).flatMap LNd.vals),.star ((g.2).map (Qs 27))]:=by
 have hpl:=hok.pl
 have hfl:=hok.fl
 have htl:=hok.tl
 have hln:=hok.len
 rw[Qb]at hpl hfl htl hln
 have hPN:=Ql hpl
 have hFN:=Ql hfl
 have hTN:=Ql htl
 have hke:=hok.ke
 have hkc:=hok.kc
 have hfe:=hok.fe
 have hpf:=hok.pf
 have hpt:=hok.pt
 have hft:=hok.ft
 have hsp:=hok.sm p
 have hsf:=hok.sm f
 have hst:=hok.sm t
 rw[hPN]at hke hkc hcf hct hsp
 rw[hFN]at hfe hsf
 rw[hTN]at hst
 simp only[LNd.pl]at hke hkc hfe hcf hct hsp hsf hst
 refine eW4 Tryz.func220 Tryz.ntmps220 hw ?_
 refine aU8 ?_
 refine o_p (Qa rfl rfl rfl Qw (p) om om rfl) rfl (Qh (show _=Value.pointer (some ⟨gn,p*3,none⟩)from by rw[Nat.zero_add]) (aU7 ?_))
 refine sCd rfl (λh1=>?_) λh1=>?_
 ·refine Xp (λw h=>HS.cs_some hpl om h aPk) λhgc=>?_
  obtain⟨gc9,hgc⟩:=hgc
  refine Xp (λw h=>HS.es_some hpl om h aPk) λhge=>?_
  obtain⟨gp9,hge⟩:=hge
  refine Xp (λw h=>HS.es_some hfl om h aPk) λhgf=>?_
  obtain⟨gf9,hgf⟩:=hgf
  refine Xp (λw h=>HS.es_room hpl h aPk) λhrP=>Xp (λw h=>HS.es_room hfl h aPk) λhrF=>aU ?_
  refine Qt [] QC ?_
  refine dP 0 ?_
  refine dP 1 ?_
  refine dFa 2 ?_
  refine dFa 3 ?_
  refine dLd 4 [] ?_
  refine dP 5 ?_
  refine dP 6 ?_
  refine dFa 7 ?_
  refine dQ 8 [] rfl (Qf rfl rfl Xg (λw h=>HS.nd_cell hpl h aPk 2 rfl (by decide))) (dP 9 ?_)
  refine dP 10 ?_
  try refine dWr ?_
  refine dV 11 rfl (Qa rfl rfl rfl QA (k) om om hgc) (dQ 12 [] rfl (Qf rfl rfl X4 (λw h=>HS.cs_rd hpl om hgc h aPk)) (Qr (show _=Value.int .i64 (f:Int)from by rw[hcf]) (dV 13 rfl (Qa rfl rfl rfl Qw (f) om om rfl) (Qr (show _=Value.pointer (some ⟨gn,f*3,none⟩)from by rw[Nat.zero_add]) (dP 14 ?_)))))
  refine dP 15 ?_
  refine dFa 16 ?_
  refine dFa 17 ?_
  refine dLd 18 [] ?_
  refine dP 19 ?_
  refine dP 20 ?_
  refine dFa 21 ?_
  refine dQ 22 [] rfl (Qf rfl rfl Xg (λw h=>HS.nd_cell hpl h aPk 2 rfl (by decide))) (dP 23 ?_)
  refine dV 24 rfl (Qa rfl rfl rfl QA (k+1) om om hgc) (dQ 25 [] rfl (Qf rfl rfl X4 (λw h=>HS.cs_rd hpl om hgc h aPk)) (Qr (show _=Value.int .i64 (t:Int)from by rw[hct]) (dV 26 rfl (Qa rfl rfl rfl Qw (t) om om rfl) (Qr (show _=Value.pointer (some ⟨gn,t*3,none⟩)from by rw[Nat.zero_add]) (dP 27 ?_)))))
  refine dP 28 ?_
  refine dNi ?_
  refine aU ?_
  refine Qg (L':=[(0,_),(2,_),(8,_),(9,_),(10,_)]) aSx (λ_ h=>h) ?_
  refine aU4 ?_
  refine o_q (Qf rfl rfl Xq (λw h=>HS.nd_cell hfl h aPk 1 rfl (by decide))) rfl (aT2 ?_)
  refine aU3 ?_
  refine XG (λw h=>HS.es_take htl h aPk) (Qt [14,17] QC ?_)
  refine dP 0 ?_
  refine dP 1 ?_
  refine dP 2 ?_
  refine dFa 3 ?_
  refine dQ 4 [[],[]] rfl (Qf rfl rfl Xq (λw h=>HS.nd_cell htl h aPk 1 rfl (by decide))) (dP 5 ?_)
  refine dP 6 ?_
  refine dFa 7 ?_
  refine dQ 8 [[13,12,11],[]] rfl (Qf rfl rfl Xq (λw h=>HS.nd_cell hpl h aPk 1 rfl (by decide))) (dP 9 ?_)
  refine dP 10 ?_
  try refine dWr ?_
  refine dV 11 rfl (Qa rfl rfl rfl QN (k) om om hge) (dQ 12 [[13],[]] rfl (X6 _ rfl rfl Yk rfl (λw h=>HS.es_rdB hpl (Ne.symm hpt) om hge h aPk)) (dH 13 rfl (Qe (cs:=[_,_]) rfl rfl QN XH rfl rfl rfl) (λb2 _=>dBa ?_)))
  refine dH 14 rfl (QM (Cs:=[.own (.slice ((nth L t)).ea ((nth L t)).es.length ((nth L t)).ec) 27 2 ((nth L t)).es.length (((nth L t)).es.flatMap TEnt.vals),.blk b2 27 2 (TEnt.vals (nth (nth L p).es k))]) rfl Qk7 rfl aPs (λw1 h1 hf9=>Qq2 w1 (nth L t).ea 0 (nth L t).ec (nth L t).es (nth (nth L p).es k) b2 1 2 hf9 om om)) (λb3 _=>dTu [17] ?_)
  refine dP 15 ?_
  refine dFa 16 ?_
  refine dSt 17 ?_ (hl:=(by rw[Qi nv3];show _+1<=_;omega))
  refine dTu [] ?_
  refine dNi ?_
  refine aU ?_
  refine Qhl (λw h=>HS.es_setB (gn:=gn) (cap:=cap) (ea:=b3.1) (ec:=b3.2) (es:=QT (nth L t).es 0 (nth (nth L p).es k)) htl h aPk aPk aPk) λL1=>?_
  refine Xp (λw h=>h.1) λhS1=>XG (λw h=>h.2) ?_
  have hp1:p<L1.length:=by rw[hS1.len];exact hpl
  have hf1:f<L1.length:=by rw[hS1.len];exact hfl
  have ht1:t<L1.length:=by rw[hS1.len];exact htl
  have hP1:nth L1 p=nth L p:=hS1.other hpl (Ne.symm hpt)
  have hF1:nth L1 f=nth L f:=hS1.other hfl (Ne.symm hft)
  have hT1:=hS1.at_
  have hFl1:(nth L1 f).es.length=(nth L f).es.length:=by rw[hF1]
  have hPl1:(nth L1 p).es.length=(nth L p).es.length:=by rw[hP1]
  have hge1:(nth L1 p).ea=some ⟨gp9,0,none⟩:=by rw[hP1];exact hge
  have hgf1:(nth L1 f).ea=some ⟨gf9,0,none⟩:=by rw[hF1];exact hgf
  refine XG (λw h=>HS.es_open hp1 (by rw[hP1];omega) hge1 h aPk) (Qt [14] QC ?_)
  refine dP 0 ?_
  refine dP 1 ?_
  refine dFa 2 ?_
  refine dQ 3 [[]] rfl (Qf rfl rfl Xq (λw h=>HS.nd_cell hp1 h aPk 1 rfl (by decide))) (dP 4 ?_)
  refine dP 5 ?_
  try refine dWr ?_
  refine dP 6 ?_
  refine dP 7 ?_
  refine dFa 8 ?_
  refine dQ 9 [[]] rfl (Qf rfl rfl Xq (λw h=>HS.nd_cell hf1 h aPk 1 rfl (by decide))) (dP 10 ?_)
  refine dV 11 rfl (Qa rfl rfl rfl QN (((nth L f).es.length-1)) om om hgf1) (dQ 12 [[]] rfl (X6 _ rfl rfl Yk rfl (λw h=>HS.es_rdB hf1 hpf (k:=((nth L f).es.length-1)) (by rw[hF1];omega) hgf1 h aPk)) (dV 13 rfl (Qa rfl rfl rfl QN (k) om om hge1) (Qr (show _=Value.pointer (some ⟨gp9,k*2,none⟩)from by rw[Nat.zero_add]) (dSt 14 ?_ (hl:=(by rw[Qi ev2];show _+2<=_;omega))))))
  refine dTu [] ?_
  refine dNi ?_
  refine aU ?_
  refine Qg (L':=[(0,_),(2,_),(8,_),(9,_),(10,_),(11,_)]) aSx (λ_ h=>h) ?_
  refine aU2 ?_
  refine QaX (λw h=>HS.es_upd (gn:=gn) (cap:=cap) (g:=gp9) (k:=k) (x:=nth (nth L1 f).es ((nth L f).es.length-1)) hp1 (by rw[hP1];exact hke) hge1 h aPk aPk aPk (by rw[hP1];exact hrP)) λL2=>?_
  refine Xm (λw h=>h.1) λhS2=>QQ (λw h=>h.2) ?_
  have hf2:f<L2.length:=by rw[hS2.len];exact hf1
  have ht2:t<L2.length:=by rw[hS2.len];exact ht1
  have hF2:nth L2 f=nth L f:=by rw[hS2.other hf1 hpf,hF1]
  have hT2:=hS2.other ht1 hpt
  have hFl2:(nth L2 f).es.length=(nth L f).es.length:=by rw[hF2]
  have hFe2:(nth L2 f).ec=(nth L f).ec:=by rw[hF2]
  refine Xm (λw h=>HS.es_form hf2 h aPk) λhfF2=>aU3 ?_
  refine o_q (Qf rfl rfl Xq (λw h=>HS.nd_cell hf2 h aPk 1 rfl (by decide))) rfl (aU ?_)
  refine o_p (QG _ _ 0 ((nth L f).es.length-1) rfl rfl QN rfl ⟨_,_,rfl,om⟩ om om) rfl ?_
  refine Qh (show _=Value.slice (nth L2 f).ea ((nth L f).es.length-1) (nth L2 f).ec from by rw[Qh9 _ _ _ hfF2];first|rfl|(congr 1<;>omega)) (aU2 ?_)
  refine ZV (Xo rfl rfl rfl Xq rfl aPt (by rw[Qi nv3];show _+1<=_;omega) rfl) (λ_ _=>aU5 ?_)
  refine QaX (λw h=>HS.es_setC (gn:=gn) (cap:=cap) (m:=((nth L f).es.length-1)) (c:=(nth L2 f).ec) hf2 (by rw[hF2];omega) (Nat.le_refl _) (by rw[hF2];omega) (λ_ h9=>by rw[hF2,hgf]at h9;cases h9) h aPk aPk) λL3=>?_
  refine Xm (λw h=>h.1) λhS3=>QQ (λw h=>h.2) ?_
  have hf3:f<L3.length:=by rw[hS3.len];exact hf2
  have ht3:t<L3.length:=by rw[hS3.len];exact ht2
  have hT3:=(hS3.other ht2 hft).trans (hT2.trans hT1)
  have hF3:=hS3.at_
  have hFc3:(nth L3 f).cs=(nth L f).cs:=by rw[hF3,hF2]
  have hTc3:(nth L3 t).cs=(nth L t).cs:=by rw[hT3]
  have hln3:L3.length=L.length:=by rw[hS3.len,hS2.len,hS1.len]
  have hTl3:(nth L3 t).cs.length=(nth L t).cs.length:=by rw[hTc3]
  have hFl3:(nth L3 f).cs.length=(nth L f).cs.length:=by rw[hFc3]
  refine aU2 ?_
  refine o_q (Qf rfl rfl Xg (λw h=>HS.nd_cell hf3 h aPk 2 rfl (by decide))) rfl (aU8 ?_)
  refine sCd rfl (λh4=>?_) λh4=>?_
  ·have hcz:0<(nth L3 f).cs.length:=by have hq:=h4;omega
   have hcz0:0<(nth L f).cs.length:=om
   refine Xp (λw h=>HS.cs_some hf3 hcz h aPk) λhgk=>?_
   obtain⟨gk9,hgk⟩:=hgk
   refine Xp (λw h=>HS.cs_room hf3 h aPk) λhrK=>aU ?_
   refine XG (λw h=>HS.cs_take ht3 h aPk) (Qt [14,17] QC ?_)
   refine dP 0 ?_
   refine dP 1 ?_
   refine dP 2 ?_
   refine dFa 3 ?_
   refine dQ 4 [[],[]] rfl (Qf rfl rfl Xg (λw h=>HS.nd_cell ht3 h aPk 2 rfl (by decide))) (dP 5 ?_)
   refine dP 6 ?_
   refine dFa 7 ?_
   refine dQ 8 [[13,12,11],[]] rfl (Qf rfl rfl Xg (λw h=>HS.nd_cell hf3 h aPk 2 rfl (by decide))) (dP 9 ?_)
   refine dP 10 ?_
   try refine dWr ?_
   refine dV 11 rfl (Qa rfl rfl rfl QA ((nth L3 f).cs.length-1) om om hgk) (dQ 12 [[13],[]] rfl (Qf rfl rfl X4 (λw h=>HS.cs_rdB hf3 (Ne.symm hft) (k:=(nth L3 f).cs.length-1) om hgk h aPk)) (dH 13 rfl (Qe (cs:=[_]) rfl rfl QA Yp rfl rfl rfl) (λb5 _=>dBa ?_)))
   refine dH 14 rfl (QM (Cs:=[.own (.slice ((nth L3 t)).ca ((nth L3 t)).cs.length ((nth L3 t)).cc) 3 1 ((nth L3 t)).cs.length (((nth L3 t)).cs.flatMap inV),.blk b5 3 1 (inV ((nth L3 f).cs.getD ((nth L3 f).cs.length-1) 0))]) rfl Qo2 rfl aPs (λw1 h1 hf9=>QtA w1 (nth L3 t).ca 0 (nth L3 t).cc (nth L3 t).cs ((nth L3 f).cs.getD ((nth L3 f).cs.length-1) 0) b5 1 1 hf9 om om)) (λb6 _=>dTu [17] ?_)
   refine dP 15 ?_
   refine dFa 16 ?_
   refine dSt 17 ?_ (hl:=(by rw[Qi nv3];show _+1<=_;omega))
   refine dTu [] ?_
   refine dNi ?_
   refine Qg (L':=[(0,_),(2,_),(8,_),(9,_),(12,_)]) aSx (λ_ h=>h) ?_
   refine aU2 ?_
   refine QaX (λw h=>HS.cs_setB (gn:=gn) (cap:=cap) (ca:=b6.1) (cc:=b6.2) (cs:=QT (nth L3 t).cs 0 ((nth L3 f).cs.getD ((nth L3 f).cs.length-1) 0)) ht3 h aPk aPk aPk) λL4=>?_
   refine Xm (λw h=>h.1) λhS4=>QQ (λw h=>h.2) ?_
   have hf4:f<L4.length:=by rw[hS4.len];exact hf3
   have hF4:nth L4 f=nth L3 f:=hS4.other hf3 (Ne.symm hft)
   have hFc4:(nth L4 f).cs=(nth L f).cs:=by rw[hF4,hFc3]
   have hFl4:(nth L4 f).cs.length=(nth L f).cs.length:=by rw[hFc4]
   refine Xm (λw h=>HS.cs_form hf4 h aPk) λhfK4=>Xm (λw h=>HS.cs_room hf4 h aPk) λhrK4=>aU3 ?_
   refine o_q (Qf rfl rfl Xg (λw h=>HS.nd_cell hf4 h aPk 2 rfl (by decide))) rfl (aT2 ?_)
   refine o_p (QG _ _ 0 ((nth L4 f).cs.length-1) rfl rfl QA rfl ⟨_,_,rfl,om⟩ om om) rfl ?_
   refine Qh (show _=Value.slice (nth L4 f).ca ((nth L4 f).cs.length-1) (nth L4 f).cc from by rw[Qh9 _ _ _ hfK4];first|rfl|(congr 1<;>omega)) (aU2 ?_)
   refine ZV (Xo rfl rfl rfl Xg rfl aPt (by rw[Qi nv3];show _+1<=_;omega) rfl) (λ_ _=>aU ?_)
   exact Qp3 rfl (λw' h'=>by first|(obtain⟨L5,hS5,hC⟩:=HS.cs_setC (gn:=gn) (cap:=cap) (m:=(nth L4 f).cs.length-1) (c:=(nth L4 f).cc) hf4 om (Nat.le_refl _) om (λ_ h9=>by rw[hF4,hgk]at h9;cases h9) h' aPk aPk;have hz5:L5.length=L.length:=(by rw[hS5.len,hS4.len,hln3]);exact⟨((gn,cap),L5),rfl,⟨by rw[hS5.cs,hFc4,hS4.cs,hFc3,hTc3,hS3.es,hS2.es,hS1.es,hF2,hP1,hF1];exact(Qrs hPN hFN hTN hcz0).symm,by simp only[];omega,hcm⟩,by simp only[];rw[hz5];exact hC.ent aEt⟩)|exact⟨((gn,cap),L3),rfl,⟨by rw[hS3.es,hS2.es,hS1.es,hF2,hP1,hF1];exact(Qps hPN hFN hTN hcz).symm,by simp only[];omega,hcm⟩,by simp only[];rw[hln3];exact h'.ent aEt⟩)
  have hcz:(nth L f).cs.length=0:=by have hq:=h4;omega
  refine aU ?_
  exact Qp3 rfl (λw' h'=>by first|(obtain⟨L5,hS5,hC⟩:=HS.cs_setC (gn:=gn) (cap:=cap) (m:=(nth L4 f).cs.length-1) (c:=(nth L4 f).cc) hf4 om (Nat.le_refl _) om (λ_ h9=>by rw[hF4,hgk]at h9;cases h9) h' aPk aPk;have hz5:L5.length=L.length:=(by rw[hS5.len,hS4.len,hln3]);exact⟨((gn,cap),L5),rfl,⟨by rw[hS5.cs,hFc4,hS4.cs,hFc3,hTc3,hS3.es,hS2.es,hS1.es,hF2,hP1,hF1];exact(Qrs hPN hFN hTN hcz0).symm,by simp only[];omega,hcm⟩,by simp only[];rw[hz5];exact hC.ent aEt⟩)|exact⟨((gn,cap),L3),rfl,⟨by rw[hS3.es,hS2.es,hS1.es,hF2,hP1,hF1];exact(Qps hPN hFN hTN hcz).symm,by simp only[];omega,hcm⟩,by simp only[];rw[hln3];exact h'.ent aEt⟩)
 exfalso;first|omega|(simp at h1;done)|(simp_all;done)
theorem Qwc(w:World)(bt:Nat)(j:Nat)(mo rm:Int)(gn cap:Nat)(L:List LNd)(p k f t:Nat)(hw:HS w (fps [.blk bt 166 6 (tbV (j:Int) mo rm (some ⟨gn,0,none⟩) (L).length cap),.blk gn 69 (cap*3) ((L).flatMap LNd.vals),.star ((L).map (Qs 27))]) [.blk bt 166 6 (tbV (j:Int) mo rm (some ⟨gn,0,none⟩) (L).length cap),.blk gn 69 (cap*3) ((L).flatMap LNd.vals),.star ((L).map (Qs 27))] w)(hnc:L.length<=cap)(hcm:cap<=maxLen)(hok:GivOk (pln L) p k f t)(hcf:(nth (pln L) p).cs.getD (k+1) 0=(f:Int))(hct:(nth (pln L) p).cs.getD k 0=(t:Int)):CE 220 #[.pointer (some ⟨bt,0,none⟩),.int .i64 (p:Int),.int .i64 (k:Int),.bool false] w (fps [.blk bt 166 6 (tbV (j:Int) mo rm (some ⟨gn,0,none⟩) (L).length cap),.blk gn 69 (cap*3) ((L).flatMap LNd.vals),.star ((L).map (Qs 27))]) (λg:(Nat×Nat)×List LNd=>.tuple #[]) (λg=>(pln g.2=Qg2 (pln L) p k f t/\g.2.length<=g.1.2/\g.1.2<=maxLen)) λg=>[.blk bt 166 6 (tbV (j:Int) mo rm (some ⟨g.1.1,0,none⟩) (g.2).length g.1.2),.blk g.1.1 69 (g.1.2*3) ((g.2).flatMap LNd.vals),.star ((g.2).map (Qs 27))]:=by
 have hpl:=hok.pl
 have hfl:=hok.fl
 have htl:=hok.tl
 have hln:=hok.len
 rw[Qb]at hpl hfl htl hln
 have hPN:=Ql hpl
 have hFN:=Ql hfl
 have hTN:=Ql htl
 have hke:=hok.ke
 have hkc:=hok.kc
 have hfe:=hok.fe
 have hpf:=hok.pf
 have hpt:=hok.pt
 have hft:=hok.ft
 have hsp:=hok.sm p
 have hsf:=hok.sm f
 have hst:=hok.sm t
 rw[hPN]at hke hkc hcf hct hsp
 rw[hFN]at hfe hsf
 rw[hTN]at hst
 simp only[LNd.pl]at hke hkc hfe hcf hct hsp hsf hst
 refine eW4 Tryz.func220 Tryz.ntmps220 hw ?_
 refine aU8 ?_
 refine o_p (Qa rfl rfl rfl Qw (p) om om rfl) rfl (Qh (show _=Value.pointer (some ⟨gn,p*3,none⟩)from by rw[Nat.zero_add]) (aU7 ?_))
 refine sCd rfl (λh1=>?_) λh1=>?_
 ·exfalso;first|omega|(simp at h1;done)|(simp_all;done)
 refine Xp (λw h=>HS.cs_some hpl om h aPk) λhgc=>?_
 obtain⟨gc9,hgc⟩:=hgc
 refine Xp (λw h=>HS.es_some hpl om h aPk) λhge=>?_
 obtain⟨gp9,hge⟩:=hge
 refine Xp (λw h=>HS.es_some hfl om h aPk) λhgf=>?_
 obtain⟨gf9,hgf⟩:=hgf
 refine Xp (λw h=>HS.es_room hpl h aPk) λhrP=>aU2 ?_
 refine Qt [] QC ?_
 refine dP 0 ?_
 refine dP 1 ?_
 refine dFa 2 ?_
 refine dFa 3 ?_
 refine dLd 4 [] ?_
 refine dP 5 ?_
 refine dP 6 ?_
 refine dFa 7 ?_
 refine dQ 8 [] rfl (Qf rfl rfl Xg (λw h=>HS.nd_cell hpl h aPk 2 rfl (by decide))) (dP 9 ?_)
 refine dP 10 ?_
 try refine dWr ?_
 refine dV 11 rfl (Qa rfl rfl rfl QA (k+1) om om hgc) (dQ 12 [] rfl (Qf rfl rfl X4 (λw h=>HS.cs_rd hpl om hgc h aPk)) (Qr (show _=Value.int .i64 (f:Int)from by rw[hcf]) (dV 13 rfl (Qa rfl rfl rfl Qw (f) om om rfl) (Qr (show _=Value.pointer (some ⟨gn,f*3,none⟩)from by rw[Nat.zero_add]) (dP 14 ?_)))))
 refine dP 15 ?_
 refine dFa 16 ?_
 refine dFa 17 ?_
 refine dLd 18 [] ?_
 refine dP 19 ?_
 refine dP 20 ?_
 refine dFa 21 ?_
 refine dQ 22 [] rfl (Qf rfl rfl Xg (λw h=>HS.nd_cell hpl h aPk 2 rfl (by decide))) (dP 23 ?_)
 refine dV 24 rfl (Qa rfl rfl rfl QA (k) om om hgc) (dQ 25 [] rfl (Qf rfl rfl X4 (λw h=>HS.cs_rd hpl om hgc h aPk)) (Qr (show _=Value.int .i64 (t:Int)from by rw[hct]) (dV 26 rfl (Qa rfl rfl rfl Qw (t) om om rfl) (Qr (show _=Value.pointer (some ⟨gn,t*3,none⟩)from by rw[Nat.zero_add]) (dP 27 ?_)))))
 refine dP 28 ?_
 refine dNi ?_
 refine aU ?_
 refine Qg (L':=[(2,_),(8,_),(13,_),(14,_)]) aSx (λ_ h=>h) ?_
 refine XG (λw h=>HS.es_take htl h aPk) (Qt [13,16] QC ?_)
 refine dP 0 ?_
 refine dP 1 ?_
 refine dP 2 ?_
 refine dFa 3 ?_
 refine dQ 4 [[],[]] rfl (Qf rfl rfl Xq (λw h=>HS.nd_cell htl h aPk 1 rfl (by decide))) (dP 5 ?_)
 refine dP 6 ?_
 refine dFa 7 ?_
 refine dQ 8 [[12,11,10],[]] rfl (Qf rfl rfl Xq (λw h=>HS.nd_cell hpl h aPk 1 rfl (by decide))) (dP 9 ?_)
 refine dV 10 rfl (Qa rfl rfl rfl QN (k) om om hge) (dQ 11 [[12],[]] rfl (X6 _ rfl rfl Yk rfl (λw h=>HS.es_rdB hpl (Ne.symm hpt) om hge h aPk)) (dH 12 rfl (Qe (cs:=[_,_]) rfl rfl QN XH rfl rfl rfl) (λb2 _=>dBa ?_)))
 refine dH 13 rfl (QL (TEnt.vals (nth (nth L p).es k)) rfl rfl rfl QN Tryz.underlying67 XH rfl aPk (Xb aPk) rfl (ev1 _) om (by simp only[maxLen];omega)) (λb3 _=>dTu [16] ?_)
 refine dP 14 ?_
 refine dFa 15 ?_
 refine dSt 16 ?_ (hl:=(by rw[Qi nv3];show _+1<=_;omega))
 refine dTu [] ?_
 refine dNi ?_
 refine aU ?_
 refine Qhl (λw h=>HS.es_setA (gn:=gn) (cap:=cap) (ea:=b3.1) (ec:=b3.2) (x:=(nth (nth L p).es k)) htl h aPk aPk aPk) λL1=>?_
 refine Xp (λw h=>h.1) λhS1=>XG (λw h=>h.2) ?_
 have hp1:p<L1.length:=by rw[hS1.len];exact hpl
 have hf1:f<L1.length:=by rw[hS1.len];exact hfl
 have ht1:t<L1.length:=by rw[hS1.len];exact htl
 have hP1:nth L1 p=nth L p:=hS1.other hpl (Ne.symm hpt)
 have hF1:nth L1 f=nth L f:=hS1.other hfl (Ne.symm hft)
 have hT1:=hS1.at_
 have hFl1:(nth L1 f).es.length=(nth L f).es.length:=by rw[hF1]
 have hPl1:(nth L1 p).es.length=(nth L p).es.length:=by rw[hP1]
 have hge1:(nth L1 p).ea=some ⟨gp9,0,none⟩:=by rw[hP1];exact hge
 have hgf1:(nth L1 f).ea=some ⟨gf9,0,none⟩:=by rw[hF1];exact hgf
 refine XG (λw h=>HS.es_open hp1 (by rw[hP1];omega) hge1 h aPk) (Qt [12] QC ?_)
 refine dP 0 ?_
 refine dP 1 ?_
 refine dFa 2 ?_
 refine dQ 3 [[]] rfl (Qf rfl rfl Xq (λw h=>HS.nd_cell hp1 h aPk 1 rfl (by decide))) (dP 4 ?_)
 refine dP 5 ?_
 refine dP 6 ?_
 refine dFa 7 ?_
 refine dQ 8 [[]] rfl (Qf rfl rfl Xq (λw h=>HS.nd_cell hf1 h aPk 1 rfl (by decide))) (dV 9 rfl (Qa rfl rfl rfl QN (0) om om hgf1) (dQ 10 [[]] rfl (X6 _ rfl rfl Yk rfl (λw h=>HS.es_rdB hf1 hpf (k:=0) (by rw[hF1];omega) hgf1 h aPk)) (dV 11 rfl (Qa rfl rfl rfl QN (k) om om hge1) (Qr (show _=Value.pointer (some ⟨gp9,k*2,none⟩)from by rw[Nat.zero_add]) (dSt 12 ?_ (hl:=(by rw[Qi ev2];show _+2<=_;omega)))))))
 refine dTu [] ?_
 refine dNi ?_
 refine aU ?_
 refine Qg (L':=[(13,_),(14,_)]) aSx (λ_ h=>h) ?_
 refine aU2 ?_
 refine QaX (λw h=>HS.es_upd (gn:=gn) (cap:=cap) (g:=gp9) (k:=k) (x:=nth (nth L1 f).es 0) hp1 (by rw[hP1];exact hke) hge1 h aPk aPk aPk (by rw[hP1];exact hrP)) λL2=>?_
 refine Xm (λw h=>h.1) λhS2=>QQ (λw h=>h.2) ?_
 have hf2:f<L2.length:=by rw[hS2.len];exact hf1
 have ht2:t<L2.length:=by rw[hS2.len];exact ht1
 have hF2:nth L2 f=nth L f:=by rw[hS2.other hf1 hpf,hF1]
 have hT2:=hS2.other ht1 hpt
 have hFl2:(nth L2 f).es.length=(nth L f).es.length:=by rw[hF2]
 have hFe2:(nth L2 f).ec=(nth L f).ec:=by rw[hF2]
 refine QQ (λw h=>HS.es_take hf2 h aPk) (aU3 ?_)
 refine o_q (Qf rfl rfl Xq (λw h=>HS.nd_cell hf2 h aPk 1 rfl (by decide))) rfl (o_h (QM (Cs:=[.own (.slice ((nth L2 f)).ea ((nth L2 f)).es.length ((nth L2 f)).ec) 27 2 ((nth L2 f)).es.length (((nth L2 f)).es.flatMap TEnt.vals)]) rfl Qld rfl aPs (λw1 h1 hf9=>QoU w1 (nth L2 f).ea 0 (nth L2 f).ec (nth L2 f).es hf9 om om)) rfl (λ_ _=>aU2 ?_))
 refine ZV (Xo rfl rfl rfl Xq rfl aPt (by rw[Qi nv3];show _+1<=_;omega) rfl) (λ_ _=>aU4 ?_)
 refine QaX (λw h=>HS.es_setB (gn:=gn) (cap:=cap) (ea:=(nth L2 f).ea) (ec:=(nth L2 f).ec) (es:=QK (nth L2 f).es 0) hf2 h aPk aPk aPk) λL3=>?_
 refine Xm (λw h=>h.1) λhS3=>QQ (λw h=>h.2) ?_
 have hf3:f<L3.length:=by rw[hS3.len];exact hf2
 have ht3:t<L3.length:=by rw[hS3.len];exact ht2
 have hT3:=(hS3.other ht2 hft).trans (hT2.trans hT1)
 have hF3:=hS3.at_
 have hFc3:(nth L3 f).cs=(nth L f).cs:=by rw[hF3,hF2]
 have hTc3:(nth L3 t).cs=(nth L t).cs:=by rw[hT3]
 have hln3:L3.length=L.length:=by rw[hS3.len,hS2.len,hS1.len]
 have hTl3:(nth L3 t).cs.length=(nth L t).cs.length:=by rw[hTc3]
 have hFl3:(nth L3 f).cs.length=(nth L f).cs.length:=by rw[hFc3]
 refine aU2 ?_
 refine o_q (Qf rfl rfl Xg (λw h=>HS.nd_cell hf3 h aPk 2 rfl (by decide))) rfl (aU3 ?_)
 refine sCd rfl (λh4=>?_) λh4=>?_
 ·have hcz:0<(nth L3 f).cs.length:=by have hq:=h4;omega
  have hcz0:0<(nth L f).cs.length:=om
  refine Xp (λw h=>HS.cs_some hf3 hcz h aPk) λhgk=>?_
  obtain⟨gk9,hgk⟩:=hgk
  refine aU ?_
  refine XG (λw h=>HS.cs_take ht3 h aPk) (Qt [12,15] QC ?_)
  refine dP 0 ?_
  refine dP 1 ?_
  refine dP 2 ?_
  refine dFa 3 ?_
  refine dQ 4 [[],[]] rfl (Qf rfl rfl Xg (λw h=>HS.nd_cell ht3 h aPk 2 rfl (by decide))) (dP 5 ?_)
  refine dP 6 ?_
  refine dFa 7 ?_
  refine dQ 8 [[11,10,9],[]] rfl (Qf rfl rfl Xg (λw h=>HS.nd_cell hf3 h aPk 2 rfl (by decide))) (dV 9 rfl (Qa rfl rfl rfl QA (0) om om hgk) (dQ 10 [[11],[]] rfl (Qf rfl rfl X4 (λw h=>HS.cs_rdB hf3 (Ne.symm hft) (k:=0) om hgk h aPk)) (dH 11 rfl (Qe (cs:=[_]) rfl rfl QA Yp rfl rfl rfl) (λb5 _=>dBa ?_))))
  refine dH 12 rfl (QL (inV ((nth L3 f).cs.getD 0 0)) rfl rfl rfl QA Tryz.underlying28 Yp rfl aPk (Xb aPk) rfl (QdX _) om (by simp only[maxLen];omega)) (λb6 _=>dTu [15] ?_)
  refine dP 13 ?_
  refine dFa 14 ?_
  refine dSt 15 ?_ (hl:=(by rw[Qi nv3];show _+1<=_;omega))
  refine dTu [] ?_
  refine dNi ?_
  refine Qg (L':=[(13,_)]) aSx (λ_ h=>h) ?_
  refine aU2 ?_
  refine QaX (λw h=>HS.cs_setA (gn:=gn) (cap:=cap) (ca:=b6.1) (cc:=b6.2) (x:=(nth L3 f).cs.getD 0 0) ht3 h aPk aPk aPk) λL4=>?_
  refine Xm (λw h=>h.1) λhS4=>QQ (λw h=>h.2) ?_
  have hf4:f<L4.length:=by rw[hS4.len];exact hf3
  have hF4:nth L4 f=nth L3 f:=hS4.other hf3 (Ne.symm hft)
  have hFc4:(nth L4 f).cs=(nth L f).cs:=by rw[hF4,hFc3]
  have hFl4:(nth L4 f).cs.length=(nth L f).cs.length:=by rw[hFc4]
  refine QQ (λw h=>HS.cs_take hf4 h aPk) (aU3 ?_)
  refine o_q (Qf rfl rfl Xg (λw h=>HS.nd_cell hf4 h aPk 2 rfl (by decide))) rfl (o_h (QM (Cs:=[.own (.slice ((nth L4 f)).ca ((nth L4 f)).cs.length ((nth L4 f)).cc) 3 1 ((nth L4 f)).cs.length (((nth L4 f)).cs.flatMap inV)]) rfl Qqi rfl aPs (λw1 h1 hf9=>QtF w1 (nth L4 f).ca 0 (nth L4 f).cc (nth L4 f).cs hf9 om om)) rfl (λ_ _=>aU2 ?_))
  refine ZV (Xo rfl rfl rfl Xg rfl aPt (by rw[Qi nv3];show _+1<=_;omega) rfl) (λ_ _=>aU ?_)
  exact Zs rfl (λw' h'=>by first|exact⟨((gn,cap),L3),rfl,⟨by rw[hS3.es,hS2.es,hS1.es,hF2,hP1,hF1];exact(QqM hPN hFN hTN hcz).symm,by simp only[];omega,hcm⟩,by simp only[];rw[hln3];exact h'.ent aEt⟩|(obtain⟨L5,hS5,hC⟩:=HS.cs_setB (gn:=gn) (cap:=cap) (ca:=(nth L4 f).ca) (cc:=(nth L4 f).cc) (cs:=QK (nth L4 f).cs 0) hf4 h' aPk aPk aPk;have hz5:L5.length=L.length:=(by rw[hS5.len,hS4.len,hln3]);exact⟨((gn,cap),L5),rfl,⟨by rw[hS5.cs,hFc4,hS4.cs,hFc3,hTc3,hS3.es,hS2.es,hS1.es,hF2,hP1,hF1];exact(Qpo hPN hFN hTN hcz0).symm,by simp only[];omega,hcm⟩,by simp only[];rw[hz5];exact hC.ent aEt⟩))
 have hcz:(nth L f).cs.length=0:=by have hq:=h4;omega
 refine aU ?_
 exact Zs rfl (λw' h'=>by first|exact⟨((gn,cap),L3),rfl,⟨by rw[hS3.es,hS2.es,hS1.es,hF2,hP1,hF1];exact(QqM hPN hFN hTN hcz).symm,by simp only[];omega,hcm⟩,by simp only[];rw[hln3];exact h'.ent aEt⟩|(obtain⟨L5,hS5,hC⟩:=HS.cs_setB (gn:=gn) (cap:=cap) (ca:=(nth L4 f).ca) (cc:=(nth L4 f).cc) (cs:=QK (nth L4 f).cs 0) hf4 h' aPk aPk aPk;have hz5:L5.length=L.length:=(by rw[hS5.len,hS4.len,hln3]);exact⟨((gn,cap),L5),rfl,⟨by rw[hS5.cs,hFc4,hS4.cs,hFc3,hTc3,hS3.es,hS2.es,hS1.es,hF2,hP1,hF1];exact(Qpo hPN hFN hTN hcz0).symm,by simp only[];omega,hcm⟩,by simp only[];rw[hz5];exact hC.ent aEt⟩))
theorem QlN:tsl Tryz.prog 285=some (67,1,24):=by kernel_rfl
instance:TFn Tryz.prog 265:=⟨by kernel_rfl⟩
theorem QlR:tsl Tryz.prog 287=some (28,1,24):=by kernel_rfl
instance:TFn Tryz.prog 266:=⟨by kernel_rfl⟩
theorem c265(w:World)(n:Nat)(hn:n<=1000000):CE 265 #[.slice none 0 0,.int .i64 (n:Int)] w [] (λg:Option Addr×Nat=>.slice g.1 0 g.2) (λg=>True) λg=>[.own (.slice g.1 0 g.2) 27 2 0 []]:=by
 refine eN2 Tryz.func265 Tryz.ntmps265 ?_
 refine Za ?_
 refine sCd rfl (λh1=>?_) λh1=>?_
 ·exfalso;first|omega|(simp at h1;done)|(simp_all;done)
 refine aU6 ?_
 refine o_p (QhN rfl rfl Tryz.underlying67) rfl (aT3 ?_)
 refine aT ?_
 refine Qh (show _=Value.int .i64 (n:Int)from by first|rfl|(congr 1;omega)) (aU7 ?_)
 refine sCd rfl (λh2=>?_) λh2=>?_
 ·refine aU3 ?_
  refine o_p (QhN rfl rfl Tryz.underlying67) rfl (o_p (QG _ _ 0 0 rfl rfl QN rfl ⟨_,_,rfl,rfl⟩ om om) rfl (Qh (show _=Value.slice none 0 0 from rfl) (aU ?_)))
  refine o_h (Z0 (m:=n) (olds:=[]) rfl rfl rfl QN Y1 XH rfl (by decide) om om (λw h hne=>absurd rfl hne) rfl om (by simp only[maxLen];omega)) rfl (λ⟨b3,c4⟩⟨h5,k6⟩=>aU2 ?_)
  refine o_p (QG _ _ 0 0 rfl rfl QN rfl ⟨_,_,rfl,rfl⟩ om om) rfl ?_
  refine Qh (show _=Value.slice (some ⟨b3,0,none⟩) 0 c4 from by rw[Yw]<;>rfl) (aU7 ?_)
  exact rT rfl rfl (λw' h'=>by first|exact⟨(some ⟨b3,0,none⟩,c4),rfl,trivial,(HS.to_own (n:=0) (xs:=[]) (ds:=YE [.string (bs []),.string (bs [])] (n*2)) aPk h' rfl rfl om om).ent aEt⟩|exact⟨(none,0),rfl,trivial,(h'.own_nil 27 2).ent aEt⟩)
 refine aU6 ?_
 exact rT rfl rfl (λw' h'=>by first|exact⟨(some ⟨b3,0,none⟩,c4),rfl,trivial,(HS.to_own (n:=0) (xs:=[]) (ds:=YE [.string (bs []),.string (bs [])] (n*2)) aPk h' rfl rfl om om).ent aEt⟩|exact⟨(none,0),rfl,trivial,(h'.own_nil 27 2).ent aEt⟩)
theorem c251(w:World)(a:Option Addr)(cap:Nat)(rs:List (RowV TEnt))(hs:Vl w a (rs.map RowV.v))(hr:∀r∈rs,Rw TEnt.vals 2 w [] r.a r.l)(hm:(rs.flatMap RowV.l).length<=1000000)(hn:rs.length<=1000):CE 251 #[.slice a rs.length cap] w [] (λg:Option Addr×Nat=>.slice g.1 (rs.flatMap RowV.l).length g.2) (λg=>True) λg=>[.own (.slice g.1 (rs.flatMap RowV.l).length g.2) 27 2 (rs.flatMap RowV.l).length ((rs.flatMap RowV.l).flatMap TEnt.vals)]:=by
 refine eN1 Tryz.func251 Tryz.ntmps251 ?_
 refine QsN ?_
 refine Qx (α:=Nat) [3,5,11,12,13,14,15,16,17,18,19,20,21,22] (λk=>[(11,.int .i64 (k:Int)),(3,.int .i64 ((((rs.take k).flatMap RowV.l).length:Nat):Int))]) (λ_=>HS w [] []) (λk=>k<=rs.length) (λk=>rs.length-k) 0 (Nat.zero_le _) aSx (λw h=>h.ent aEt) (λk hk1=>?_)
 refine aU5 ?_
 refine sCd rfl (λh1=>?_) λh1=>?_
 ·have hk:k<rs.length:=by omega
  have hst:=congrArg List.length (QfW hk)
  rw[List.length_append]at hst
  have hle:=QmS rs (k+1)
  refine aU5 ?_
  refine o_p (Qa rfl rfl rfl QlN (k) om om (hs.some (by rw[List.length_map];omega))) rfl (o_q (Qc rfl rfl Xq ((hs.rd (Qig hk)))) rfl (aT8 ?_))
  refine Qh (show _=Value.int .i64 ((((rs.take k).flatMap RowV.l).length+(rs.getD k default).l.length:Nat):Int)from by congr 1) (aU7 ?_)
  refine sCd rfl (λh2=>?_) λh2=>?_
  ·exfalso;first|omega|(simp at h2;done)|(simp_all;done)
  refine aT4 ?_
  refine aU2 ?_
  exact sBk (k+1) om om (by rw[hst];exact aSx)
 obtain rfl:k=rs.length:=om
 rw[List.take_length]
 refine Qn rfl ?_
 refine aU3 ?_
 refine oCh rfl (λw1 h1=>c265 w1 (rs.flatMap RowV.l).length hm) (λgg _=>Za ?_)
 refine Qx (α:=Nat×Option Addr×Nat) [6,8,27,28,29,30,31,32,33,34] (λx=>[(27,.int .i64 (x.1:Int)),(6,.slice x.2.1 ((rs.take x.1).flatMap RowV.l).length x.2.2)]) (λx=>HS w [] [.own (.slice x.2.1 ((rs.take x.1).flatMap RowV.l).length x.2.2) 27 2 ((rs.take x.1).flatMap RowV.l).length (((rs.take x.1).flatMap RowV.l).flatMap TEnt.vals)]) (λx=>x.1<=rs.length) (λx=>rs.length-x.1) (0,gg.1,gg.2) (Nat.zero_le _) aSx (λw h=>h.ent aEt) (λ⟨k,ga,gc⟩hk1=>?_)
 dsimp only
 simp only[]at hk1
 refine aU5 ?_
 refine sCd rfl (λh3=>?_) λh3=>?_
 ·have hk:k<rs.length:=by omega
  have hst:=QfW hk
  have hle:=QmS rs (k+1)
  rw[hst,List.length_append]at hle
  have hmem:rs.getD k default∈rs:=Qkh hk
  refine aU5 ?_
  refine o_p (Qa rfl rfl rfl QlN (k) om om (hs.some (by rw[List.length_map];omega))) rfl (o_q (Qc rfl rfl Xq ((hs.rd (Qig hk)))) rfl (aU5 ?_))
  refine o_h (QL ((rs.getD k default).l.flatMap TEnt.vals) rfl rfl rfl QN Tryz.underlying67 XH rfl aPk (λw h=>Rw.src ev2 (hr _ hmem) h) (Qi ev2 _) (XZ ev1 _) om (by simp only[maxLen];omega)) rfl (λb4 _=>aT5 ?_)
  refine aU2 ?_
  exact Q1 (k+1,b4.1,b4.2) (by(try simp only[]);omega) (by(try simp only[]);omega) (by dsimp only;rw[hst,List.length_append];exact aSx) (λw h=>by dsimp only;rw[hst,List.length_append,Qbf];exact h.ent aEt)
 obtain rfl:k=rs.length:=om
 rw[List.take_length]
 refine Qn rfl ?_
 refine aU5 ?_
 exact rT rfl rfl (λw' h'=>⟨(ga,gc),rfl,trivial,h'.ent aEt⟩)
theorem c266(w:World)(n:Nat)(hn:n<=1000000):CE 266 #[.slice none 0 0,.int .i64 (n:Int)] w [] (λg:Option Addr×Nat=>.slice g.1 0 g.2) (λg=>True) λg=>[.own (.slice g.1 0 g.2) 3 1 0 []]:=by
 refine eN2 Tryz.func266 Tryz.ntmps266 ?_
 refine Za ?_
 refine sCd rfl (λh1=>?_) λh1=>?_
 ·exfalso;first|omega|(simp at h1;done)|(simp_all;done)
 refine aU6 ?_
 refine o_p (QhN rfl rfl Tryz.underlying28) rfl (aT3 ?_)
 refine aT ?_
 refine Qh (show _=Value.int .i64 (n:Int)from by first|rfl|(congr 1;omega)) (aU7 ?_)
 refine sCd rfl (λh2=>?_) λh2=>?_
 ·refine aU3 ?_
  refine o_p (QhN rfl rfl Tryz.underlying28) rfl (o_p (QG _ _ 0 0 rfl rfl QA rfl ⟨_,_,rfl,rfl⟩ om om) rfl (Qh (show _=Value.slice none 0 0 from rfl) (aU ?_)))
  refine o_h (Z0 (m:=n) (olds:=[]) rfl rfl rfl QA Y1 Yp rfl (by decide) om om (λw h hne=>absurd rfl hne) rfl om (by simp only[maxLen];omega)) rfl (λ⟨b3,c4⟩⟨h5,k6⟩=>aU2 ?_)
  refine o_p (QG _ _ 0 0 rfl rfl QA rfl ⟨_,_,rfl,rfl⟩ om om) rfl ?_
  refine Qh (show _=Value.slice (some ⟨b3,0,none⟩) 0 c4 from by rw[Yw]<;>rfl) (aU7 ?_)
  exact rT rfl rfl (λw' h'=>by first|exact⟨(some ⟨b3,0,none⟩,c4),rfl,trivial,(HS.to_own (n:=0) (xs:=[]) (ds:=YE [.int .i64 0] (n*1)) aPk h' rfl rfl om om).ent aEt⟩|exact⟨(none,0),rfl,trivial,(h'.own_nil 3 1).ent aEt⟩)
 refine aU6 ?_
 exact rT rfl rfl (λw' h'=>by first|exact⟨(some ⟨b3,0,none⟩,c4),rfl,trivial,(HS.to_own (n:=0) (xs:=[]) (ds:=YE [.int .i64 0] (n*1)) aPk h' rfl rfl om om).ent aEt⟩|exact⟨(none,0),rfl,trivial,(h'.own_nil 3 1).ent aEt⟩)
theorem c252(w:World)(a:Option Addr)(cap:Nat)(rs:List (RowV Int))(hs:Vl w a (rs.map RowV.v))(hr:∀r∈rs,Rw inV 1 w [] r.a r.l)(hm:(rs.flatMap RowV.l).length<=1000000)(hn:rs.length<=1000):CE 252 #[.slice a rs.length cap] w [] (λg:Option Addr×Nat=>.slice g.1 (rs.flatMap RowV.l).length g.2) (λg=>True) λg=>[.own (.slice g.1 (rs.flatMap RowV.l).length g.2) 3 1 (rs.flatMap RowV.l).length ((rs.flatMap RowV.l).flatMap inV)]:=by
 refine eN1 Tryz.func252 Tryz.ntmps252 ?_
 refine QsN ?_
 refine Qx (α:=Nat) [3,5,11,12,13,14,15,16,17,18,19,20,21,22] (λk=>[(11,.int .i64 (k:Int)),(3,.int .i64 ((((rs.take k).flatMap RowV.l).length:Nat):Int))]) (λ_=>HS w [] []) (λk=>k<=rs.length) (λk=>rs.length-k) 0 (Nat.zero_le _) aSx (λw h=>h.ent aEt) (λk hk1=>?_)
 refine aU5 ?_
 refine sCd rfl (λh1=>?_) λh1=>?_
 ·have hk:k<rs.length:=by omega
  have hst:=congrArg List.length (QfW hk)
  rw[List.length_append]at hst
  have hle:=QmS rs (k+1)
  refine aU5 ?_
  refine o_p (Qa rfl rfl rfl QlR (k) om om (hs.some (by rw[List.length_map];omega))) rfl (o_q (Qc rfl rfl Xg ((hs.rd (Qig hk)))) rfl (aT8 ?_))
  refine Qh (show _=Value.int .i64 ((((rs.take k).flatMap RowV.l).length+(rs.getD k default).l.length:Nat):Int)from by congr 1) (aU7 ?_)
  refine sCd rfl (λh2=>?_) λh2=>?_
  ·exfalso;first|omega|(simp at h2;done)|(simp_all;done)
  refine aT4 ?_
  refine aU2 ?_
  exact sBk (k+1) om om (by rw[hst];exact aSx)
 obtain rfl:k=rs.length:=om
 rw[List.take_length]
 refine Qn rfl ?_
 refine aU3 ?_
 refine oCh rfl (λw1 h1=>c266 w1 (rs.flatMap RowV.l).length hm) (λgg _=>Za ?_)
 refine Qx (α:=Nat×Option Addr×Nat) [6,8,27,28,29,30,31,32,33,34] (λx=>[(27,.int .i64 (x.1:Int)),(6,.slice x.2.1 ((rs.take x.1).flatMap RowV.l).length x.2.2)]) (λx=>HS w [] [.own (.slice x.2.1 ((rs.take x.1).flatMap RowV.l).length x.2.2) 3 1 ((rs.take x.1).flatMap RowV.l).length (((rs.take x.1).flatMap RowV.l).flatMap inV)]) (λx=>x.1<=rs.length) (λx=>rs.length-x.1) (0,gg.1,gg.2) (Nat.zero_le _) aSx (λw h=>h.ent aEt) (λ⟨k,ga,gc⟩hk1=>?_)
 dsimp only
 simp only[]at hk1
 refine aU5 ?_
 refine sCd rfl (λh3=>?_) λh3=>?_
 ·have hk:k<rs.length:=by omega
  have hst:=QfW hk
  have hle:=QmS rs (k+1)
  rw[hst,List.length_append]at hle
  have hmem:rs.getD k default∈rs:=Qkh hk
  refine aU5 ?_
  refine o_p (Qa rfl rfl rfl QlR (k) om om (hs.some (by rw[List.length_map];omega))) rfl (o_q (Qc rfl rfl Xg ((hs.rd (Qig hk)))) rfl (aU5 ?_))
  refine o_h (QL ((rs.getD k default).l.flatMap inV) rfl rfl rfl QA Tryz.underlying28 Yp rfl aPk (λw h=>Rw.src iv1 (hr _ hmem) h) (Qi iv1 _) (XZ QdX _) om (by simp only[maxLen];omega)) rfl (λb4 _=>aT5 ?_)
  refine aU2 ?_
  exact Q1 (k+1,b4.1,b4.2) (by(try simp only[]);omega) (by(try simp only[]);omega) (by dsimp only;rw[hst,List.length_append];exact aSx) (λw h=>by dsimp only;rw[hst,List.length_append,Qbf];exact h.ent aEt)
 obtain rfl:k=rs.length:=om
 rw[List.take_length]
 refine Qn rfl ?_
 refine aU5 ?_
 exact rT rfl rfl (λw' h'=>⟨(ga,gc),rfl,trivial,h'.ent aEt⟩)
theorem Qt3:QY Tryz.prog 251=true:=by kernel_rfl
theorem QwN:X9 Tryz.prog 67=some [.slice none 0 0]:=by kernel_rfl
theorem Quq:QY Tryz.prog 252=true:=by kernel_rfl
theorem Qtx:X9 Tryz.prog 28=some [.slice none 0 0]:=by kernel_rfl
theorem c221(w:World)(bt:Nat)(j:Nat)(mo rm:Int)(gn cap:Nat)(L:List LNd)(p k f t:Nat)(hw:HS w (fps [.blk bt 166 6 (tbV (j:Int) mo rm (some ⟨gn,0,none⟩) (L).length cap),.blk gn 69 (cap*3) ((L).flatMap LNd.vals),.star ((L).map (Qs 27))]) [.blk bt 166 6 (tbV (j:Int) mo rm (some ⟨gn,0,none⟩) (L).length cap),.blk gn 69 (cap*3) ((L).flatMap LNd.vals),.star ((L).map (Qs 27))] w)(hnc:L.length<=cap)(hcm:cap<=maxLen)(hok:MrgOk (pln L) p k f t)(hcf:(nth (pln L) p).cs.getD (k+1) 0=(f:Int))(hct:(nth (pln L) p).cs.getD k 0=(t:Int)):CE 221 #[.pointer (some ⟨bt,0,none⟩),.int .i64 (p:Int),.int .i64 (k:Int)] w (fps [.blk bt 166 6 (tbV (j:Int) mo rm (some ⟨gn,0,none⟩) (L).length cap),.blk gn 69 (cap*3) ((L).flatMap LNd.vals),.star ((L).map (Qs 27))]) (λg:(Nat×Nat)×List LNd=>.tuple #[]) (λg=>(pln g.2=QgL (pln L) p k t f/\g.2.length<=g.1.2/\g.1.2<=maxLen)) λg=>[.blk bt 166 6 (tbV (j:Int) mo rm (some ⟨g.1.1,0,none⟩) (g.2).length g.1.2),.blk g.1.1 69 (g.1.2*3) ((g.2).flatMap LNd.vals),.star ((g.2).map (Qs 27))]:=by
 have hpl:=hok.pl
 have hfl:=hok.fl
 have htl:=hok.tl
 have hln:=hok.len
 rw[Qb]at hpl hfl htl hln
 have hPN:=Ql hpl
 have hFN:=Ql hfl
 have hTN:=Ql htl
 have hke:=hok.ke
 have hkc:=hok.kc
 have hpf:=hok.pf
 have hpt:=hok.pt
 have hft:=hok.ft
 have hsp:=hok.sm p
 have hsf:=hok.sm f
 have hst:=hok.sm t
 rw[hPN]at hke hkc hcf hct hsp
 rw[hFN]at hsf
 rw[hTN]at hst
 simp only[LNd.pl]at hke hkc hcf hct hsp hsf hst
 refine eW3 Tryz.func221 Tryz.ntmps221 hw ?_
 refine aU3 ?_
 refine Xm (λw h=>HS.cs_some hpl om h aPk) λhgc=>?_
 obtain⟨gc9,hgc⟩:=hgc
 refine Xm (λw h=>HS.es_some hpl om h aPk) λhge=>?_
 obtain⟨gp9,hge⟩:=hge
 refine aU5 ?_
 refine o_p (Qa rfl rfl rfl Qw (p) om om rfl) rfl (Qh (show _=Value.pointer (some ⟨gn,p*3,none⟩)from by rw[Nat.zero_add]) (aU7 ?_))
 refine o_q (Qf rfl rfl Xg (λw h=>HS.nd_cell hpl h aPk 2 rfl (by decide))) rfl (aT2 ?_)
 refine o_p (Qa rfl rfl rfl QA (k+1) om om hgc) rfl (o_q (Qf rfl rfl X4 (λw h=>HS.cs_rd hpl om hgc h aPk)) rfl (Qh (show _=Value.int .i64 (f:Int)from by rw[hcf]) (aU3 ?_)))
 refine Qt [] QC ?_
 refine dP 0 ?_
 refine dP 1 ?_
 refine dFa 2 ?_
 refine dFa 3 ?_
 refine dLd 4 [] ?_
 refine dP 5 ?_
 refine dP 6 ?_
 refine dFa 7 ?_
 refine dQ 8 [] rfl (Qf rfl rfl Xg (λw h=>HS.nd_cell hpl h aPk 2 rfl (by decide))) (dP 9 ?_)
 refine dV 10 rfl (Qa rfl rfl rfl QA (k) om om hgc) (dQ 11 [] rfl (Qf rfl rfl X4 (λw h=>HS.cs_rd hpl om hgc h aPk)) (Qr (show _=Value.int .i64 (t:Int)from by rw[hct]) (dV 12 rfl (Qa rfl rfl rfl Qw (t) om om rfl) (Qr (show _=Value.pointer (some ⟨gn,t*3,none⟩)from by rw[Nat.zero_add]) (dP 13 ?_)))))
 refine dP 14 ?_
 refine dFa 15 ?_
 refine dFa 16 ?_
 refine dLd 17 [] ?_
 refine dP 18 ?_
 refine dV 19 rfl (Qa rfl rfl rfl Qw (f) om om rfl) (Qr (show _=Value.pointer (some ⟨gn,f*3,none⟩)from by rw[Nat.zero_add]) (dP 20 ?_))
 refine dP 21 ?_
 refine dNi ?_
 refine aU ?_
 refine Qg (L':=[(0,_),(2,_),(6,_),(7,_),(8,_),(9,_)]) aSx (λ_ h=>h) ?_
 refine Qt [21] QC ?_
 refine dP 0 ?_
 refine dP 1 ?_
 refine dP 2 ?_
 refine dFa 3 ?_
 refine dQ 4 [[]] rfl (Qf rfl rfl Xq (λw h=>HS.nd_cell htl h aPk 1 rfl (by decide))) (dP 5 ?_)
 refine dP 6 ?_
 refine dFa 7 ?_
 refine dQ 8 [[]] rfl (Qf rfl rfl Xq (λw h=>HS.nd_cell hpl h aPk 1 rfl (by decide))) (dP 9 ?_)
 refine dV 10 rfl (Qa rfl rfl rfl QN (k) om om hge) (dQ 11 [[]] rfl (X6 _ rfl rfl Yk rfl (λw h=>HS.es_rd hpl om hge h aPk)) (dP 13 ?_))
 refine dP 14 ?_
 refine dFa 15 ?_
 refine dQ 16 [[]] rfl (Qf rfl rfl Xq (λw h=>HS.nd_cell hfl h aPk 1 rfl (by decide))) (dH 12 rfl (Qe (cs:=[_,_]) rfl rfl QN XH rfl rfl rfl) (λb1 _=>dBa ?_))
 refine dH 17 rfl (Qe (cs:=[_,_,_]) rfl rfl QlN QwN rfl rfl rfl) (λb2 _=>dBa ?_)
 refine dH 18 rfl (Yi rfl Qt3 rfl (λw1 h1=>c251 w1 (some ⟨b2,0,none⟩) 3 [(⟨(nth L t).ea,(nth L t).ec,(nth L t).es⟩:RowV TEnt),⟨some ⟨b1,0,none⟩,1,[(nth (nth L p).es k)]⟩,⟨(nth L f).ea,(nth L f).ec,(nth L f).es⟩] (h1.vl_blk aPk) (by intro r hr;simp only[List.mem_cons,List.mem_nil_iff,or_false]at hr;rcases hr with rfl|rfl|rfl;exact HS.es_row htl h1 aPk;exact h1.rw_blk (l:=[(nth (nth L p).es k)]) ev2 (b:=b1) (t:=27) (tot:=2) aPk;exact HS.es_row hfl h1 aPk) (by rw[cat3];simp only[List.length_append,List.length_singleton];omega) (by simp))) (λb3 _=>dBa ?_)
 refine dP 19 ?_
 refine dFa 20 ?_
 refine dSt 21 ?_ (hl:=(by rw[Qi nv3];show _+1<=_;omega))
 refine dTu [] ?_
 refine dNi ?_
 refine aU ?_
 refine Qhl (λw h=>HS.es_set (gn:=gn) (cap:=cap) (ea:=b3.1) (ec:=b3.2) (es:=([(⟨(nth L t).ea,(nth L t).ec,(nth L t).es⟩:RowV TEnt),⟨some ⟨b1,0,none⟩,1,[(nth (nth L p).es k)]⟩,⟨(nth L f).ea,(nth L f).ec,(nth L f).es⟩]).flatMap RowV.l) htl h aPk aPk aPk) λL1=>?_
 refine Xp (λw h=>h.1) λhS1=>XG (λw h=>h.2) ?_
 have hp1:p<L1.length:=by rw[hS1.len];exact hpl
 have hf1:f<L1.length:=by rw[hS1.len];exact hfl
 have ht1:t<L1.length:=by rw[hS1.len];exact htl
 have hP1:nth L1 p=nth L p:=hS1.other hpl (Ne.symm hpt)
 have hF1:nth L1 f=nth L f:=hS1.other hfl (Ne.symm hft)
 have hT1:=hS1.at_
 have hTc1:(nth L1 t).cs=(nth L t).cs:=by rw[hT1]
 have hTl1:(nth L1 t).cs.length=(nth L t).cs.length:=by rw[hTc1]
 have hFl1:(nth L1 f).cs.length=(nth L f).cs.length:=by rw[hF1]
 refine Qt [13] QC ?_
 refine dP 0 ?_
 refine dP 1 ?_
 refine dP 2 ?_
 refine dFa 3 ?_
 refine dQ 4 [[]] rfl (Qf rfl rfl Xg (λw h=>HS.nd_cell ht1 h aPk 2 rfl (by decide))) (dP 5 ?_)
 refine dP 6 ?_
 refine dFa 7 ?_
 refine dQ 8 [[]] rfl (Qf rfl rfl Xg (λw h=>HS.nd_cell hf1 h aPk 2 rfl (by decide))) (dH 9 rfl (Qe (cs:=[_,_]) rfl rfl QlR Qtx rfl rfl rfl) (λb4 _=>dBa ?_))
 refine dH 10 rfl (Yi rfl Quq rfl (λw1 h1=>c252 w1 (some ⟨b4,0,none⟩) 2 [(⟨(nth L1 t).ca,(nth L1 t).cc,(nth L1 t).cs⟩:RowV Int),⟨(nth L1 f).ca,(nth L1 f).cc,(nth L1 f).cs⟩] (h1.vl_blk aPk) (by intro r hr;simp only[List.mem_cons,List.mem_nil_iff,or_false]at hr;rcases hr with rfl|rfl;exact HS.cs_row ht1 h1 aPk;exact HS.cs_row hf1 h1 aPk) (by rw[cat2];simp only[List.length_append];omega) (by simp))) (λb5 _=>dBa ?_)
 refine dP 11 ?_
 refine dFa 12 ?_
 refine dSt 13 ?_ (hl:=(by rw[Qi nv3];show _+1<=_;omega))
 refine dTu [] ?_
 refine dNi ?_
 refine aU ?_
 refine Qg (L':=[(0,_),(2,_),(6,_),(7,_)]) aSx (λ_ h=>h) ?_
 refine aU2 ?_
 refine QaX (λw h=>HS.cs_set (gn:=gn) (cap:=cap) (ca:=b5.1) (cc:=b5.2) (cs:=([(⟨(nth L1 t).ca,(nth L1 t).cc,(nth L1 t).cs⟩:RowV Int),⟨(nth L1 f).ca,(nth L1 f).cc,(nth L1 f).cs⟩]).flatMap RowV.l) ht1 h aPk aPk aPk) λL2=>?_
 refine Xm (λw h=>h.1) λhS2=>QQ (λw h=>h.2) ?_
 have hp2:p<L2.length:=by rw[hS2.len];exact hp1
 have hf2:f<L2.length:=by rw[hS2.len];exact hf1
 have hP2:nth L2 p=nth L p:=by rw[hS2.other hp1 (Ne.symm hpt),hP1]
 have hPl2:(nth L2 p).es.length=(nth L p).es.length:=by rw[hP2]
 refine QQ (λw h=>HS.es_take hp2 h aPk) (aU3 ?_)
 refine o_q (Qf rfl rfl Xq (λw h=>HS.nd_cell hp2 h aPk 1 rfl (by decide))) rfl (aT3 ?_)
 refine o_h (QM (Cs:=[.own (.slice ((nth L2 p)).ea ((nth L2 p)).es.length ((nth L2 p)).ec) 27 2 ((nth L2 p)).es.length (((nth L2 p)).es.flatMap TEnt.vals)]) rfl Qld rfl aPs (λw1 h1 hf9=>QoU w1 (nth L2 p).ea k (nth L2 p).ec (nth L2 p).es hf9 om om)) rfl (λ_ _=>aU2 ?_)
 refine ZV (Xo rfl rfl rfl Xq rfl aPt (by rw[Qi nv3];show _+1<=_;omega) rfl) (λ_ _=>aU4 ?_)
 refine QaX (λw h=>HS.es_setB (gn:=gn) (cap:=cap) (ea:=(nth L2 p).ea) (ec:=(nth L2 p).ec) (es:=QK (nth L2 p).es k) hp2 h aPk aPk aPk) λL3=>?_
 refine Xm (λw h=>h.1) λhS3=>QQ (λw h=>h.2) ?_
 have hp3:p<L3.length:=by rw[hS3.len];exact hp2
 have hf3:f<L3.length:=by rw[hS3.len];exact hf2
 have hPc3:(nth L3 p).cs=(nth L p).cs:=by rw[hS3.at_,hP2]
 have hPl3:(nth L3 p).cs.length=(nth L p).cs.length:=by rw[hPc3]
 refine QQ (λw h=>HS.cs_take hp3 h aPk) (aU3 ?_)
 refine o_q (Qf rfl rfl Xg (λw h=>HS.nd_cell hp3 h aPk 2 rfl (by decide))) rfl (aT2 ?_)
 refine aT2 ?_
 refine Qh (show _=Value.int .i64 (((k+1:Nat):Int)+1)from by congr 1) (o_h (QM (Cs:=[.own (.slice ((nth L3 p)).ca ((nth L3 p)).cs.length ((nth L3 p)).cc) 3 1 ((nth L3 p)).cs.length (((nth L3 p)).cs.flatMap inV)]) rfl Qqi rfl aPs (λw1 h1 hf9=>QtF w1 (nth L3 p).ca (k+1) (nth L3 p).cc (nth L3 p).cs hf9 om om)) rfl (λ_ _=>aU2 ?_))
 refine ZV (Xo rfl rfl rfl Xg rfl aPt (by rw[Qi nv3];show _+1<=_;omega) rfl) (λ_ _=>aU3 ?_)
 refine QaX (λw h=>HS.cs_setB (gn:=gn) (cap:=cap) (ca:=(nth L3 p).ca) (cc:=(nth L3 p).cc) (cs:=QK (nth L3 p).cs (k+1)) hp3 h aPk aPk aPk) λL4=>?_
 refine Xm (λw h=>h.1) λhS4=>QQ (λw h=>h.2) ?_
 have hf4:f<L4.length:=by rw[hS4.len];exact hf3
 have hl4:L4.length=L.length:=by rw[hS4.len,hS3.len,hS2.len,hS1.len]
 refine aU5 ?_
 refine o_p (QF (cs:=[_,_,_]) rfl rfl QbP Xj rfl) rfl (o_p (Qa rfl rfl rfl Qw (f) om om rfl) rfl (Qh (show _=Value.pointer (some ⟨gn,f*3,none⟩)from by rw[Nat.zero_add]) (ZV (Xo rfl rfl rfl Xs rfl aPt (by rw[Qi nv3];show _+3<=_;omega) rfl) (λ_ _=>aU ?_))))
 exact Zs rfl (λw' h'=>by obtain⟨L5,hS5,hC⟩:=HS.node_gone (i:=f) (gn:=gn) (cap:=cap) hf4 h' aPk aPk;have hz5:L5.length=L.length:=(by rw[hS5.len,hl4]);exact⟨((gn,cap),L5),rfl,⟨by rw[hS5.pl,hS4.cs,hS3.es,hS2.cs,hS1.es,hPc3,hP2,cat3,cat2,hTc1,hF1];unfold QgL;rw[hPN,hFN,hTN];rfl,by simp only[];omega,hcm⟩,by simp only[];rw[hz5];exact hC.ent aEt⟩)
theorem Qqo:QY Tryz.prog 219=true:=by kernel_rfl
theorem Qqu:QY Tryz.prog 220=true:=by kernel_rfl
theorem Qrg:QY Tryz.prog 221=true:=by kernel_rfl
theorem c219(w:World)(b6 b2:Nat)(bt:Nat)(j:Nat)(mo rm:Int)(a:Option Addr)(cap:Nat)(L:List LNd)(p k:Nat)(x:Int)(h6:Rd w [] b6 0 (.slice (nth L p).ca (nth L p).cs.length (nth L p).cc))(h2:Rd w [] b2 0 (.pointer (some ⟨bt,0,none⟩)))(ht:TbR w [] bt (j:Int) mo rm a L.length cap)(hs:Nt w [] a L)(hok:FilOk mo (pln L) p k):CR 219 #[.int .i64 x,.pointer (some ⟨b6,0,none⟩),.pointer (some ⟨b2,0,none⟩)] w (.bool (Y0 mo (pln L) p x)):=by
 have hpl:=hok.pl
 rw[Qb]at hpl
 have hPN:=Ql hpl
 have hmo:=hok.mo0
 have hsm:=(hok.sm p).2
 rw[hPN]at hsm
 simp only[LNd.pl]at hsm
 refine eN3 Tryz.func219 Tryz.ntmps219 ?_
 refine aU5 ?_
 refine Qt [] QC ?_
 refine dP 0 ?_
 refine dQ 1 [] rfl (Qc rfl rfl Xg (h6)) (dV 2 rfl (QS rfl rfl Tryz.underlying28) (dP 3 ?_))
 try refine dWr ?_
 refine dQ 4 [] rfl (Qv rfl QpM rfl (λw1 h1=>Qlw w1 _ _ _)) (dP 5 ?_)
 apply XA 10
 ·exact rfl
 ·intro hg1
  have hs2:=hg1;try simp only[Bool.and_eq_true,decide_eq_true_eq]at hs2
  refine dQo 6 10 [] hg1 rfl rfl rfl (Qc rfl rfl YW (h2)) ?_
  have hq:=hg1
  simp only[Bool.and_eq_true,decide_eq_true_eq]at hq
  have hxl:x.toNat<(nth L p).cs.length:=om
  have hkd:=hok.kd (x:=x.toNat) (by rw[hPN];exact hxl)
  rw[hPN]at hkd
  simp only[LNd.pl]at hkd
  have hkl:=(hok.kid x.toNat (by rw[hPN];exact hxl)).2.1
  rw[Qb]at hkl
  refine dPo 7 10 hg1 ?_
  refine dFo 8 10 hg1 ?_
  refine dFo 9 10 hg1 ?_
  refine dQo 10 10 [] hg1 rfl rfl rfl (Qc rfl rfl Yl (ht 3 _ rfl)) ?_
  refine dQo 11 10 [] hg1 rfl rfl rfl (Qc rfl rfl Xg (h6)) ?_
  refine dPo 12 10 hg1 ?_
  refine dVo 13 10 hg1 rfl rfl rfl (Qa rfl rfl rfl QA (x.toNat) om om (Rw.some (hs.cs hpl) om)) ?_
  refine dQo 14 10 [] hg1 rfl rfl rfl (Qc rfl rfl X4 (((hs.cs hpl).rdj 0 hxl rfl))) ?_
  refine Qr (show _=Value.int .i64 ((kdN (pln L) p x.toNat):Int)from congrArg (Value.int .i64) hkd) (dVo 15 10 hg1 rfl rfl rfl (Qa rfl rfl rfl Qw ((kdN (pln L) p x.toNat)) om om (Rw.some hs.1 om)) ?_)
  refine dFo 16 10 hg1 ?_
  refine dQo 17 10 [] hg1 rfl rfl rfl (Qc rfl rfl Xq ((hs.1.rdj 1 hkl rfl))) ?_
  refine dVo 18 10 hg1 rfl rfl rfl (QS rfl rfl Tryz.underlying67) ?_
  refine dQo 19 10 [] hg1 rfl rfl rfl (Qc rfl rfl YW (h2)) ?_
  refine dQo 20 10 [] hg1 rfl rfl rfl (Qv rfl QlP rfl (λw1 h1=>Qvd w1 bt j mo rm a L.length cap hmo (ht.next h1))) ?_
  refine dPo 21 10 hg1 ?_
  refine dV 22 rfl (Xv rfl rfl hg1 rfl) (Qr (show _=Value.bool (Y0 mo (pln L) p x)from by congr 1;first|(have h9:=Qlj (mo:=mo) hPN hq;rw[Ql hkl]at h9;exact h9.symm)|exact(QlA hPN hg1).symm) (dP 23 ?_))
  refine dNi ?_
  exact rV
 intro hg3
 have hs4:=hg3;try simp only[Bool.and_eq_false_iff,decide_eq_false_iff_not]at hs4
 refine dOf 6 10 hg3 ?_
 refine dOf 7 10 hg3 ?_
 refine dOf 8 10 hg3 ?_
 refine dOf 9 10 hg3 ?_
 refine dOf 10 10 hg3 ?_
 refine dOf 11 10 hg3 ?_
 refine dOf 12 10 hg3 ?_
 refine dOf 13 10 hg3 ?_
 refine dOf 14 10 hg3 ?_
 refine dOf 15 10 hg3 ?_
 refine dOf 16 10 hg3 ?_
 refine dOf 17 10 hg3 ?_
 refine dOf 18 10 hg3 ?_
 refine dOf 19 10 hg3 ?_
 refine dOf 20 10 hg3 ?_
 refine dOf 21 10 hg3 ?_
 refine dV 22 rfl (Xl rfl rfl hg3 rfl) (Qr (show _=Value.bool (Y0 mo (pln L) p x)from by congr 1;first|(have h9:=Qlj (mo:=mo) hPN hq;rw[Ql hkl]at h9;exact h9.symm)|exact(QlA hPN hg3).symm) (dP 23 ?_))
 refine dNi ?_
 exact rV
theorem c174(w:World)(bt:Nat)(j:Nat)(mo rm:Int)(gn cap:Nat)(L:List LNd)(i p k:Nat)(hw:HS w (fps [.blk bt 166 6 (tbV (j:Int) mo rm (some ⟨gn,0,none⟩) (L).length cap),.blk gn 69 (cap*3) ((L).flatMap LNd.vals),.star ((L).map (Qs 27))]) [.blk bt 166 6 (tbV (j:Int) mo rm (some ⟨gn,0,none⟩) (L).length cap),.blk gn 69 (cap*3) ((L).flatMap LNd.vals),.star ((L).map (Qs 27))] w)(hnc:L.length<=cap)(hcm:cap<=maxLen)(hpar:Xz (i:Int) (pln L) 0=(p,k))(hok:FilOk mo (pln L) p k):CE 174 #[.pointer (some ⟨bt,0,none⟩),.int .i64 (i:Int)] w (fps [.blk bt 166 6 (tbV (j:Int) mo rm (some ⟨gn,0,none⟩) (L).length cap),.blk gn 69 (cap*3) ((L).flatMap LNd.vals),.star ((L).map (Qs 27))]) (λg:(Nat×Nat)×List LNd=>.tuple #[]) (λg=>(pln g.2=Y3 mo (pln L) p k/\g.2.length<=g.1.2/\g.1.2<=maxLen)) λg=>[.blk bt 166 6 (tbV (j:Int) mo rm (some ⟨g.1.1,0,none⟩) (g.2).length g.1.2),.blk g.1.1 69 (g.1.2*3) ((g.2).flatMap LNd.vals),.star ((g.2).map (Qs 27))]:=by
 have hpl:=hok.pl
 have hln:=hok.len
 rw[Qb]at hpl hln
 have hPN:=Ql hpl
 have hmo:=hok.mo0
 have hkl:=hok.kl
 have hsh:=hok.sh
 have hkl2:=hkl
 rw[hPN]at hkl2
 have hs9:=(hok.sm p).2
 rw[hPN]at hs9
 simp only[LNd.pl]at hkl2 hs9
 refine eW2 Tryz.func174 Tryz.ntmps174 hw ?_
 refine aU2 ?_
 refine oBx λb1 _=>?_
 refine aU5 ?_
 refine oCq rfl (λw1 h1=>by have h9:=c218 w1 bt j mo rm (some ⟨gn,0,none⟩) cap L i (HS.tbr h1 aPk) (HS.nt_at h1 aPk aPk) om (λk9 hk=>by have:=(hok.sm k9).2;rw[Ql hk]at this;exact Nat.le_trans this (by decide));rw[hpar]at h9;exact h9) ?_
 dsimp only
 refine QeV ?_
 refine o_p (Qa rfl rfl rfl Qw (p) om om rfl) rfl (Qh (show _=Value.pointer (some ⟨gn,p*3,none⟩)from by rw[Nat.zero_add]) (aU ?_))
 refine o_q (Qf rfl rfl Xg (λw h=>HS.nd_cell hpl h aPk 2 rfl (by decide))) rfl (oAl (λb2 _=>?_) Qtx)
 refine QuP ?_
 refine o_q (XX rfl rfl Qqo rfl (λw1 h1=>c219 w1 b2 b1 bt j mo rm (some ⟨gn,0,none⟩) cap L p k ((k:Int)-1) (h1.rd_blk (Mc:=[]) aPk rfl (by simp)) (h1.rd_blk (Mc:=[]) aPk rfl (by simp)) (HS.tbr h1 aPk) (HS.nt_at h1 aPk aPk) hok)) rfl (aU2 ?_)
 refine sCd rfl (λh3=>?_) λh3=>?_
 ·have hr0:(Y0 mo (pln L) p ((k:Int)-1))=true:=h3
  obtain⟨hr1,hr2,hr3⟩:=Qm7 hr0
  obtain⟨k1,rfl⟩:∃k1,k=k1+1:=⟨k-1,om⟩
  rw[show(((k1+1:Nat):Int)-1).toNat=k1 by omega]at hr3
  have hfe:0<(nth (pln L) (kdN (pln L) p k1)).es.length:=om
  refine aU4 ?_
  refine o_h (QM (Cs:=[.blk bt 166 6 (tbV (j:Int) mo rm (some ⟨gn,0,none⟩) (L).length cap),.blk gn 69 (cap*3) ((L).flatMap LNd.vals),.star ((L).map (Qs 27))]) rfl Qqu rfl aPs (λw1 h1 hf=>QwK w1 bt j mo rm gn cap L p (k1) (kdN (pln L) p (k1)) (kdN (pln L) p (k1+1)) hf hnc hcm (hok.giv (x:=k1) (y:=k1+1) (e:=k1) om om om om hfe) (hok.kd om) (hok.kd om))) rfl (λ⟨⟨g5,c5⟩,L5⟩hF5=>aU2 ?_)
  exact Zs rfl (λw' h'=>by first|exact⟨((g5,c5),L5),rfl,⟨by rw[Y3,if_pos hr0];exact hF5.1,hF5.2.1,hF5.2.2⟩,h'.ent aEt⟩|exact⟨((g6,c6),L6),rfl,⟨by rw[Y3,if_neg hr0,if_pos hs0];exact hF6.1,hF6.2.1,hF6.2.2⟩,h'.ent aEt⟩|exact⟨((g7,c7),L7),rfl,⟨by rw[Y3,if_neg hr0,if_neg hs0,if_pos hk0];exact hF7.1,hF7.2.1,hF7.2.2⟩,h'.ent aEt⟩|exact⟨((g8,c8),L8),rfl,⟨by rw[Y3,if_neg hr0,if_neg hs0,if_neg hk0,if_pos hk1];exact hF8.1,hF8.2.1,hF8.2.2⟩,h'.ent aEt⟩|exact⟨((gn,cap),L),rfl,⟨by rw[Y3,if_neg hr0,if_neg hs0,if_neg hk0,if_neg hk1],hnc,hcm⟩,h'.ent aEt⟩)
 have hr0:¬(Y0 mo (pln L) p ((k:Int)-1))=true:=by have hq:=h3;simp[hq]
 refine aT5 ?_
 refine o_q (XX rfl rfl Qqo rfl (λw1 h1=>c219 w1 b2 b1 bt j mo rm (some ⟨gn,0,none⟩) cap L p k ((k:Int)+1) (h1.rd_blk (Mc:=[]) aPk rfl (by simp)) (h1.rd_blk (Mc:=[]) aPk rfl (by simp)) (HS.tbr h1 aPk) (HS.nt_at h1 aPk aPk) hok)) rfl (aU2 ?_)
 refine sCd rfl (λh4=>?_) λh4=>?_
 ·have hs0:(Y0 mo (pln L) p ((k:Int)+1))=true:=h4
  obtain⟨hr1,hr2,hr3⟩:=Qm7 hs0
  rw[show((k:Int)+1).toNat=k+1 by omega]at hr3
  have hfe:0<(nth (pln L) (kdN (pln L) p (k+1))).es.length:=om
  refine Qg (L':=[(2,_),(4,_),(5,_)]) aSx (λ_ h=>h) ?_
  refine aU4 ?_
  refine o_h (QM (Cs:=[.blk bt 166 6 (tbV (j:Int) mo rm (some ⟨gn,0,none⟩) (L).length cap),.blk gn 69 (cap*3) ((L).flatMap LNd.vals),.star ((L).map (Qs 27))]) rfl Qqu rfl aPs (λw1 h1 hf=>Qwc w1 bt j mo rm gn cap L p (k) (kdN (pln L) p (k+1)) (kdN (pln L) p (k)) hf hnc hcm (hok.giv (x:=k+1) (y:=k) (e:=k) om om om om hfe) (hok.kd om) (hok.kd om))) rfl (λ⟨⟨g6,c6⟩,L6⟩hF6=>aU2 ?_)
  exact Zs rfl (λw' h'=>by first|exact⟨((g5,c5),L5),rfl,⟨by rw[Y3,if_pos hr0];exact hF5.1,hF5.2.1,hF5.2.2⟩,h'.ent aEt⟩|exact⟨((g6,c6),L6),rfl,⟨by rw[Y3,if_neg hr0,if_pos hs0];exact hF6.1,hF6.2.1,hF6.2.2⟩,h'.ent aEt⟩|exact⟨((g7,c7),L7),rfl,⟨by rw[Y3,if_neg hr0,if_neg hs0,if_pos hk0];exact hF7.1,hF7.2.1,hF7.2.2⟩,h'.ent aEt⟩|exact⟨((g8,c8),L8),rfl,⟨by rw[Y3,if_neg hr0,if_neg hs0,if_neg hk0,if_pos hk1];exact hF8.1,hF8.2.1,hF8.2.2⟩,h'.ent aEt⟩|exact⟨((gn,cap),L),rfl,⟨by rw[Y3,if_neg hr0,if_neg hs0,if_neg hk0,if_neg hk1],hnc,hcm⟩,h'.ent aEt⟩)
 have hs0:¬(Y0 mo (pln L) p ((k:Int)+1))=true:=by have hq:=h4;simp[hq]
 refine aU ?_
 refine Qg (L':=[(2,_),(4,_),(5,_),(6,_)]) aSx (λ_ h=>h) ?_
 refine aU5 ?_
 refine sCd rfl (λh5=>?_) λh5=>?_
 ·have hk0:0<k:=by have hq:=h5;omega
  obtain⟨k1,rfl⟩:∃k1,k=k1+1:=⟨k-1,om⟩
  refine aT5 ?_
  refine Qh (show _=Value.int .i64 (k1:Int)from by congr 1;omega) (o_h (QM (Cs:=[.blk bt 166 6 (tbV (j:Int) mo rm (some ⟨gn,0,none⟩) (L).length cap),.blk gn 69 (cap*3) ((L).flatMap LNd.vals),.star ((L).map (Qs 27))]) rfl Qrg rfl aPs (λw1 h1 hf=>c221 w1 bt j mo rm gn cap L p (k1) (kdN (pln L) p (k1+1)) (kdN (pln L) p (k1)) hf hnc hcm (hok.mrg (x:=k1+1) (y:=k1) (e:=k1) om om om om) (hok.kd om) (hok.kd om))) rfl (λ⟨⟨g7,c7⟩,L7⟩hF7=>aU2 ?_))
  exact Zs rfl (λw' h'=>by first|exact⟨((g5,c5),L5),rfl,⟨by rw[Y3,if_pos hr0];exact hF5.1,hF5.2.1,hF5.2.2⟩,h'.ent aEt⟩|exact⟨((g6,c6),L6),rfl,⟨by rw[Y3,if_neg hr0,if_pos hs0];exact hF6.1,hF6.2.1,hF6.2.2⟩,h'.ent aEt⟩|exact⟨((g7,c7),L7),rfl,⟨by rw[Y3,if_neg hr0,if_neg hs0,if_pos hk0];exact hF7.1,hF7.2.1,hF7.2.2⟩,h'.ent aEt⟩|exact⟨((g8,c8),L8),rfl,⟨by rw[Y3,if_neg hr0,if_neg hs0,if_neg hk0,if_pos hk1];exact hF8.1,hF8.2.1,hF8.2.2⟩,h'.ent aEt⟩|exact⟨((gn,cap),L),rfl,⟨by rw[Y3,if_neg hr0,if_neg hs0,if_neg hk0,if_neg hk1],hnc,hcm⟩,h'.ent aEt⟩)
 have hk0:¬0<k:=by have hq:=h5;omega
 refine aU7 ?_
 refine sCd rfl (λh6=>?_) λh6=>?_
 ·have hk1:1<(nth (pln L) p).cs.length:=by rw[hPN];have hq:=h6;simp only[LNd.pl];omega
  refine aU4 ?_
  refine o_h (QM (Cs:=[.blk bt 166 6 (tbV (j:Int) mo rm (some ⟨gn,0,none⟩) (L).length cap),.blk gn 69 (cap*3) ((L).flatMap LNd.vals),.star ((L).map (Qs 27))]) rfl Qrg rfl aPs (λw1 h1 hf=>c221 w1 bt j mo rm gn cap L p (k) (kdN (pln L) p (k+1)) (kdN (pln L) p (k)) hf hnc hcm (hok.mrg (x:=k+1) (y:=k) (e:=k) om om om om) (hok.kd om) (hok.kd om))) rfl (λ⟨⟨g8,c8⟩,L8⟩hF8=>aU2 ?_)
  exact Zs rfl (λw' h'=>by first|exact⟨((g5,c5),L5),rfl,⟨by rw[Y3,if_pos hr0];exact hF5.1,hF5.2.1,hF5.2.2⟩,h'.ent aEt⟩|exact⟨((g6,c6),L6),rfl,⟨by rw[Y3,if_neg hr0,if_pos hs0];exact hF6.1,hF6.2.1,hF6.2.2⟩,h'.ent aEt⟩|exact⟨((g7,c7),L7),rfl,⟨by rw[Y3,if_neg hr0,if_neg hs0,if_pos hk0];exact hF7.1,hF7.2.1,hF7.2.2⟩,h'.ent aEt⟩|exact⟨((g8,c8),L8),rfl,⟨by rw[Y3,if_neg hr0,if_neg hs0,if_neg hk0,if_pos hk1];exact hF8.1,hF8.2.1,hF8.2.2⟩,h'.ent aEt⟩|exact⟨((gn,cap),L),rfl,⟨by rw[Y3,if_neg hr0,if_neg hs0,if_neg hk0,if_neg hk1],hnc,hcm⟩,h'.ent aEt⟩)
 have hk1:¬1<(nth (pln L) p).cs.length:=by rw[hPN];have hq:=h6;simp only[LNd.pl];omega
 refine aU2 ?_
 exact Zs rfl (λw' h'=>by first|exact⟨((g5,c5),L5),rfl,⟨by rw[Y3,if_pos hr0];exact hF5.1,hF5.2.1,hF5.2.2⟩,h'.ent aEt⟩|exact⟨((g6,c6),L6),rfl,⟨by rw[Y3,if_neg hr0,if_pos hs0];exact hF6.1,hF6.2.1,hF6.2.2⟩,h'.ent aEt⟩|exact⟨((g7,c7),L7),rfl,⟨by rw[Y3,if_neg hr0,if_neg hs0,if_pos hk0];exact hF7.1,hF7.2.1,hF7.2.2⟩,h'.ent aEt⟩|exact⟨((g8,c8),L8),rfl,⟨by rw[Y3,if_neg hr0,if_neg hs0,if_neg hk0,if_pos hk1];exact hF8.1,hF8.2.1,hF8.2.2⟩,h'.ent aEt⟩|exact⟨((gn,cap),L),rfl,⟨by rw[Y3,if_neg hr0,if_neg hs0,if_neg hk0,if_neg hk1],hnc,hcm⟩,h'.ent aEt⟩)
theorem c175(w:World)(bt:Nat)(j:Nat)(mo rm:Int)(gn cap:Nat)(L:List LNd)(hw:HS w (fps [.blk bt 166 6 (tbV (j:Int) mo rm (some ⟨gn,0,none⟩) (L).length cap),.blk gn 69 (cap*3) ((L).flatMap LNd.vals),.star ((L).map (Qs 27))]) [.blk bt 166 6 (tbV (j:Int) mo rm (some ⟨gn,0,none⟩) (L).length cap),.blk gn 69 (cap*3) ((L).flatMap LNd.vals),.star ((L).map (Qs 27))] w)(hnc:L.length<=cap)(hcm:cap<=maxLen)(h0:0<L.length)(hl:L.length<=100000)(hu:(nth (pln L) 0).us=true):CE 175 #[.pointer (some ⟨bt,0,none⟩)] w (fps [.blk bt 166 6 (tbV (j:Int) mo rm (some ⟨gn,0,none⟩) (L).length cap),.blk gn 69 (cap*3) ((L).flatMap LNd.vals),.star ((L).map (Qs 27))]) (λg:(Nat×Nat)×List LNd=>.tuple #[]) (λg=>(pln g.2=QdS (pln L)/\g.2.length<=g.1.2/\g.1.2<=maxLen)) λg=>[.blk bt 166 6 (tbV (j:Int) mo rm (some ⟨g.1.1,0,none⟩) (g.2).length g.1.2),.blk g.1.1 69 (g.1.2*3) ((g.2).flatMap LNd.vals),.star ((g.2).map (Qs 27))]:=by
 have hu0:(nth L 0).us=true:=by have h9:=hu;rw[Ql h0]at h9;exact h9
 refine eW1 Tryz.func175 Tryz.ntmps175 hw ?_
 refine Zl ?_
 refine Qx (α:=Nat) [2,9,10,11,12,13,14,15,16,17,18,19,20,21,22,23,24,25,26,27,28,29,30,31,32,33] (λm=>[(2,.int .i64 (m:Int))]) (λm=>HS w (fps [.blk bt 166 6 (tbV (j:Int) mo rm (some ⟨gn,0,none⟩) (L).length cap),.blk gn 69 (cap*3) ((L).flatMap LNd.vals),.star ((L).map (Qs 27))]) [.blk bt 166 6 (tbV (j:Int) mo rm (some ⟨gn,0,none⟩) (m) cap),.blk gn 69 (cap*3) ((L.take (m)).flatMap LNd.vals),.star ((L.take (m)).map (Qs 27))]) (λm=>(1<=m/\m<=L.length)/\tln (pln L) L.length=tln (pln L) m) (λm=>m) L.length ⟨⟨h0,Nat.le_refl _⟩,rfl⟩ aSx (λw h=>by rw[List.take_length];exact h.ent aEt) (λm hm=>?_)
 obtain⟨⟨hm1,hm2⟩,hm3⟩:=hm
 refine Qhi ?_
 refine o_p (Qa rfl rfl rfl Qw (m-1) om om rfl) rfl (Qh (show _=Value.pointer (some ⟨gn,(m-1)*3,none⟩)from by rw[Nat.zero_add]) (aU ?_))
 refine o_q (Qf rfl rfl Qcy (λw h=>HS.nd_cell (L:=L.take m) (i:=m-1) (by rw[List.length_take];omega) h aPk 0 (by rw[QjL om];rfl) (by decide))) rfl (aU2 ?_)
 refine sCd rfl (λh1=>?_) λh1=>?_
 ·have hm4:¬(nth (pln L) (m-1)).us=true:=by rw[Ql om];have hq:=h1;simp only[LNd.pl];first|exact hq|simp[hq]
  have hm5:1<=m-1:=(Nat.lt_or_ge 1 m).elim (λh9=>om) (λh9=>by exfalso;have h8:m=1:=om;subst h8;exact hm4 hu)
  refine aT12 ?_
  refine o_p (QG _ _ 0 (m-1) rfl rfl Qw rfl ⟨_,_,rfl,om⟩ om om) rfl ?_
  refine Qh (show _=Value.slice (some ⟨gn,0,none⟩) (m-1) cap from by rw[Yw]<;>first|rfl|(congr 1<;>omega)) (aU3 ?_)
  refine ZV (Xo rfl rfl rfl Yl rfl aPt (by show 4<=6;omega) rfl) (λ_ _=>aU2 ?_)
  refine Qg (L':=[(0,_),(2,_),(3,_),(4,_),(5,_),(6,_),(7,_),(8,_)]) aSx (λ_ h=>h) ?_
  refine aT3 ?_
  refine aU2 ?_
  exact Q1 (m-1) om ⟨⟨hm5,om⟩,by rw[hm3,QrM hm1 hm4]⟩ (by rw[show((m-1:Nat):Int)=(m:Int)-1 by omega];exact aSx) (λw h=>by have h2:=HS.star_take (m-1) h aPk;rw[List.take_take,Nat.min_eq_left (Nat.sub_le m 1)]at h2;have h3:=h2;rw[QoE (L:=L.take m) (m:=m-1),List.take_take,Nat.min_eq_left (Nat.sub_le m 1)]at h3;exact(HS.blk_less (b:=gn) aPk h3).ent aEt)
 have hm4:(nth (pln L) (m-1)).us=true:=by rw[Ql om];have hq:=h1;simp only[LNd.pl];first|exact hq|simpa using hq
 refine Qn rfl ?_
 exact Zs rfl (λw' h'=>⟨((gn,cap),L.take m),rfl,⟨by rw[QdS,Qb,hm3,QqS hm1 hm4];exact List.map_take,by simp only[List.length_take];omega,hcm⟩,by simp only[List.length_take];rw[Nat.min_eq_left hm2];exact h'.ent aEt⟩)
theorem Qum:QY Tryz.prog 174=true:=by kernel_rfl
theorem Qt7:QY Tryz.prog 175=true:=by kernel_rfl
theorem c112(w:World)(bt:Nat)(j:Nat)(mo rm:Int)(gn cap:Nat)(L:List LNd)(P:List Nat)(pa:Option Addr)(pc:Nat)(k:Nat)(hw:HS w (fps [.blk bt 166 6 (tbV (j:Int) mo rm (some ⟨gn,0,none⟩) (L).length cap),.blk gn 69 (cap*3) ((L).flatMap LNd.vals),.star ((L).map (Qs 27)),.kids pa pc (iN P)]) [.blk bt 166 6 (tbV (j:Int) mo rm (some ⟨gn,0,none⟩) (L).length cap),.blk gn 69 (cap*3) ((L).flatMap LNd.vals),.star ((L).map (Qs 27)),.kids pa pc (iN P)] w)(hnc:L.length<=cap)(hcm:cap<=maxLen)(hok:RemOk mo rm (pln L) P k):CE 112 #[.pointer (some ⟨bt,0,none⟩),.slice pa P.length pc,.int .i64 (k:Int)] w (fps [.blk bt 166 6 (tbV (j:Int) mo rm (some ⟨gn,0,none⟩) (L).length cap),.blk gn 69 (cap*3) ((L).flatMap LNd.vals),.star ((L).map (Qs 27)),.kids pa pc (iN P)]) (λg:(Nat×Nat)×List LNd=>.tuple #[]) (λg=>(pln g.2=Qbv mo rm (pln L) P k/\g.2.length<=g.1.2/\g.1.2<=maxLen)) λg=>[.blk bt 166 6 (tbV (j:Int) mo rm (some ⟨g.1.1,0,none⟩) (g.2).length g.1.2),.blk g.1.1 69 (g.1.2*3) ((g.2).flatMap LNd.vals),.star ((g.2).map (Qs 27))]:=by
 have hmo:=hok.mo0
 have hne:=hok.ne
 have hlen:=hok.len
 have hnl:=hok.nl
 have hlst:=hok.lst
 rw[Qb]at hnl hlst
 have hNI:=Ql hlst
 have hatk:=hok.atk
 rw[hNI]at hatk
 simp only[LNd.pl]at hatk
 have hsI:=hok.sm (QO P)
 rw[hNI]at hsI
 simp only[LNd.pl]at hsI
 have hrg:=hok.rgt
 rw[hNI]at hrg
 simp only[LNd.pl]at hrg
 have hql:=hok.ql
 rw[Qb]at hql
 have hqn:=hok.qn
 have hdl:=hok.dl
 refine eW3 Tryz.func112 Tryz.ntmps112 hw ?_
 refine aU2 ?_
 refine oBx λb1 _=>?_
 refine QQ (C':=HS w (fps [.blk bt 166 6 (tbV (j:Int) mo rm (some ⟨gn,0,none⟩) (L).length cap),.blk gn 69 (cap*3) ((L).flatMap LNd.vals),.star ((L).map (Qs 27)),.kids pa pc (iN P)]) [.blk bt 166 6 (tbV (j:Int) mo rm (some ⟨gn,0,none⟩) (L).length cap),.blk gn 69 (cap*3) ((L).flatMap LNd.vals),.star ((L).map (Qs 27)),.own (.slice pa (P).length pc) 3 1 (P).length ((P).map λi:Nat=>Value.int .i64 (i:Int)),.blk b1 158 1 [.pointer (some ⟨bt,0,none⟩)]]) (λw h=>(h.of_kids aPk).ent aEt) (Xm (λw h=>HS.pown_some (P:=P) (a:=pa) (c:=pc) hne h aPk) λhpa=>?_)
 obtain⟨gp,hpa⟩:=hpa
 refine aT7 ?_
 refine o_p (Qa rfl rfl rfl QA (P.length-1) om om hpa) rfl (o_q (Qf rfl rfl X4 (λw h=>HS.pown_rd (P:=P) (a:=pa) (c:=pc) (k:=P.length-1) om hpa h aPk)) rfl (Qh (show _=Value.int .i64 ((QO P):Int)from rfl) (Zl ?_)))
 refine o_p (Qa rfl rfl rfl Qw ((QO P)) om om rfl) rfl (Qh (show _=Value.pointer (some ⟨gn,(QO P)*3,none⟩)from by rw[Nat.zero_add]) (aU ?_))
 refine o_q (Qf rfl rfl Xg (λw h=>HS.nd_cell hlst h aPk 2 rfl (by decide))) rfl (aU8 ?_)
 refine Qg (L':=[(1,_),(2,_),(3,_),(6,_),(7,_),(31,_)]) aSx (λ_ h=>h) ?_
 refine XY (α:=(Option Addr×Nat)×List LNd) [1,2,6,8,9,32,33,34,35,36,37,38,39,40,41,42,43,44,45,46,47,48,49,50,51,52,53,54,55,56,57,58,59,60,61,62,63,64,65,66,67,68,69,70,71,72,73,74,75,76,77,78,79,80,81,82,83,84,85,86,87,88,89,90,91,92,93,94,95,96,97,98,99,100,101,102,103,104,105,106,107,108,109,110,111,112] (λx=>[(6,.int .i64 ((QO (QZ (pln L) P k)):Int)),(2,.int .i64 ((Qg0 (pln L) P k):Int)),(1,.slice x.1.1 (QZ (pln L) P k).length x.1.2)]) (λx=>HS w (fps [.blk bt 166 6 (tbV (j:Int) mo rm (some ⟨gn,0,none⟩) (L).length cap),.blk gn 69 (cap*3) ((L).flatMap LNd.vals),.star ((L).map (Qs 27)),.kids pa pc (iN P)]) [.blk bt 166 6 (tbV (j:Int) mo rm (some ⟨gn,0,none⟩) (x.2).length cap),.blk gn 69 (cap*3) ((x.2).flatMap LNd.vals),.star ((x.2).map (Qs 27)),.own (.slice x.1.1 ((QZ (pln L) P k)).length x.1.2) 3 1 ((QZ (pln L) P k)).length (((QZ (pln L) P k)).map λi:Nat=>Value.int .i64 (i:Int)),.blk b1 158 1 [.pointer (some ⟨bt,0,none⟩)]]) (λx=>pln x.2=(QgT (pln L) P k)/\x.2.length=L.length) ?_ ?_
 ·skip
  refine sCd rfl (λh2=>?_) λh2=>?_
  ·have hcz:0<(nth L (QO P)).cs.length:=by have hq:=h2;omega
   obtain⟨hr1,hr2,hr3,hr4,hr5,hr6⟩:=hrg hcz
   refine Xp (λw h=>HS.cs_some hlst hcz h aPk) λhgc=>?_
   obtain⟨gc9,hgc⟩:=hgc
   have hQe:(QZ (pln L) P k)=P++Qib (pln L) (pln L).length (kdN (pln L) (QO P) k):=by unfold QZ;rw[hNI];exact if_neg (by show¬(nth L (QO P)).cs.length=0;omega)
   refine aU4 ?_
   refine o_p (Qa rfl rfl rfl QA (k) om om hgc) rfl (o_q (Qf rfl rfl X4 (λw h=>HS.cs_rd hlst om hgc h aPk)) rfl (Qh (show _=Value.int .i64 ((kdN (pln L) (QO P) k):Int)from congrArg (Value.int .i64) (Qnr hNI hr2)) (aU6 ?_)))
   refine o_h (Qe (cs:=[_]) rfl rfl QA Yp rfl rfl rfl) rfl (λb3 _=>o_h (QL [_] rfl rfl rfl QA Tryz.underlying28 Yp rfl aPk (Xb aPk) rfl (by intro u hu;simp only[List.mem_cons,List.mem_nil_iff,or_false]at hu;subst hu;rfl) om (by simp only[maxLen];omega)) rfl (λb4 _=>aU4 ?_))
   refine Qx (α:=(Option Addr×Nat)×List Nat×Nat×Nat) [1,8,40,41,42,43,44,45,46,47,48,49,50,51,52,53,54,55,56,57,58,59,60,61,62,63,64,65,66,67,68,69,70,71,72,73,74,75,76] (λx=>[(1,.slice x.1.1 (x.2.1++[x.2.2.1]).length x.1.2),(8,.int .i64 (x.2.2.1:Int))]) (λx=>HS w (fps [.blk bt 166 6 (tbV (j:Int) mo rm (some ⟨gn,0,none⟩) (L).length cap),.blk gn 69 (cap*3) ((L).flatMap LNd.vals),.star ((L).map (Qs 27)),.kids pa pc (iN P)]) [.blk bt 166 6 (tbV (j:Int) mo rm (some ⟨gn,0,none⟩) (L).length cap),.blk gn 69 (cap*3) ((L).flatMap LNd.vals),.star ((L).map (Qs 27)),.own (.slice x.1.1 (x.2.1++[x.2.2.1]).length x.1.2) 3 1 (x.2.1++[x.2.2.1]).length ((x.2.1++[x.2.2.1]).map λi:Nat=>Value.int .i64 (i:Int)),.blk b1 158 1 [.pointer (some ⟨bt,0,none⟩)]]) (λx=>Qjz (pln L) x.2.2.2 x.2.2.1/\(QZ (pln L) P k)=x.2.1++Qib (pln L) x.2.2.2 x.2.2.1/\x.2.1.length+x.2.2.2<=1900) (λx=>x.2.2.2) ((b4.1,b4.2),P,(kdN (pln L) (QO P) k),(pln L).length) ⟨hr3,hQe,by rw[Qb];simp only[];omega⟩ (by simp only[List.length_append,List.length_singleton];exact aSx) (λw h=>by have h2:=h;simp only[List.length_append,List.length_singleton,List.map_append,List.map_cons,List.map_nil];exact h2.ent aEt) (λ⟨⟨la,lc⟩,E,leaf,fu⟩hx=>?_)
   dsimp only
   obtain⟨he1,he2,he3⟩:=hx
   simp only[]at he1 he2 he3
   obtain⟨fu,rfl⟩:∃f9,fu=f9+1:=by cases fu with|zero=>exact absurd he1 (λh=>h)|succ f9=>exact⟨f9,rfl⟩
   have hlf:=he1.1
   rw[Qb]at hlf
   have hNF:=Ql hlf
   have hsF:=hok.sm leaf
   rw[hNF]at hsF
   simp only[LNd.pl]at hsF
   have hEl:(E++[leaf]).length=E.length+1:=by simp
   refine aU9 ?_
   refine o_p (Qa rfl rfl rfl Qw (leaf) om om rfl) rfl (Qh (show _=Value.pointer (some ⟨gn,leaf*3,none⟩)from by rw[Nat.zero_add]) (aU ?_))
   refine o_q (Qf rfl rfl Xg (λw h=>HS.nd_cell hlf h aPk 2 rfl (by decide))) rfl (aU3 ?_)
   refine sCd rfl (λh5=>?_) λh5=>?_
   ·have hlz:0<(nth L leaf).cs.length:=by have hq:=h5;omega
    refine Xp (λw h=>HS.cs_some hlf hlz h aPk) λhgl=>?_
    obtain⟨gl9,hgl⟩:=hgl
    have hro:=he1.2
    rw[hNF]at hro
    obtain⟨hs2,hs3⟩:=hro.resolve_left (by show¬(nth L leaf).cs.length=0;omega)
    simp only[LNd.pl]at hs2 hs3
    have hrs:=QqH (ns:=pln L) (f:=fu) (i:=leaf) (by rw[hNF];show¬(nth L leaf).cs.length=0;omega)
    rw[hNF]at hrs
    simp only[LNd.pl]at hrs
    refine aU3 ?_
    refine Qt [] QC ?_
    refine dLd 0 [] ?_
    refine dP 1 ?_
    refine dFa 2 ?_
    refine dFa 3 ?_
    refine dLd 4 [] ?_
    refine dP 5 ?_
    refine dV 6 rfl (Qa rfl rfl rfl Qw (leaf) om om rfl) (Qr (show _=Value.pointer (some ⟨gn,leaf*3,none⟩)from by rw[Nat.zero_add]) (dFa 7 ?_))
    refine dQ 8 [] rfl (Qf rfl rfl Xg (λw h=>HS.nd_cell hlf h aPk 2 rfl (by decide))) (dLd 9 [] ?_)
    refine dP 10 ?_
    refine dFa 11 ?_
    refine dFa 12 ?_
    refine dLd 13 [] ?_
    refine dP 14 ?_
    refine dV 15 rfl (Qa rfl rfl rfl Qw (leaf) om om rfl) (Qr (show _=Value.pointer (some ⟨gn,leaf*3,none⟩)from by rw[Nat.zero_add]) (dFa 16 ?_))
    refine dQ 17 [] rfl (Qf rfl rfl Xg (λw h=>HS.nd_cell hlf h aPk 2 rfl (by decide))) (dV 18 rfl (QS rfl rfl Tryz.underlying28) (dP 19 ?_))
    try refine dWr ?_
    refine dV 20 rfl (Qa rfl rfl rfl QA ((nth L leaf).cs.length-1) om om hgl) (dQ 21 [] rfl (Qf rfl rfl X4 (λw h=>HS.cs_rd hlf om hgl h aPk)) (Qr (show _=Value.int .i64 ((kdN (pln L) leaf ((nth L leaf).cs.length-1)):Int)from congrArg (Value.int .i64) (Qnr hNF hs2)) (dP 22 ?_)))
    refine dNi ?_
    refine Qg (L':=[(1,_),(2,_),(3,_),(6,_),(7,_),(8,_),(31,_),(32,_),(33,_),(34,_),(35,_),(36,_),(37,_),(38,_),(39,_)]) aSx (λ_ h=>h) ?_
    refine aU3 ?_
    refine o_h (Qe (cs:=[_]) rfl rfl QA Yp rfl rfl rfl) rfl (λb6 _=>o_h (QL [_] rfl rfl rfl QA Tryz.underlying28 Yp rfl aPk (Xb aPk) rfl (by intro u hu;simp only[List.mem_cons,List.mem_nil_iff,or_false]at hu;subst hu;rfl) om (by simp only[maxLen];omega)) rfl (λb7 _=>aU3 ?_))
    exact Q1 ((b7.1,b7.2),E++[leaf],(kdN (pln L) leaf ((nth L leaf).cs.length-1)),fu) (by(try simp only[]);omega) ⟨hs3,by rw[he2,hrs,List.append_assoc];rfl,by simp only[List.length_append,List.length_singleton];omega⟩ (by simp only[List.length_append (bs:=[(kdN (pln L) leaf ((nth L leaf).cs.length-1))]),List.length_singleton];exact aSx) (λw h=>by have h2:=h;simp only[List.length_append (bs:=[(kdN (pln L) leaf ((nth L leaf).cs.length-1))]),List.length_singleton,List.map_append (l₂:=[(kdN (pln L) leaf ((nth L leaf).cs.length-1))]),List.map_cons,List.map_nil];exact h2.ent aEt)
   have hlz:(nth L leaf).cs.length=0:=by have hq:=h5;omega
   have hrs:=QqW (ns:=pln L) (f:=fu) (i:=leaf) (by rw[hNF];exact hlz)
   rw[hrs]at he2
   have hle:leaf=(QO (QZ (pln L) P k)):=by rw[he2,Qn8]
   rw[<-hle,hNF]at hr5
   simp only[LNd.pl]at hr5
   have hNQ:nth (pln L) (QO (QZ (pln L) P k))=(nth L leaf).pl:=by rw[<-hle];exact hNF
   have hK2:=QtZ hNI hNQ hcz
   simp only[LNd.pl]at hK2
   have hni:(QO P)≠leaf:=by rw[hle];exact hr4
   refine Xp (λw h=>HS.es_some hlst om h aPk) λhge=>?_
   obtain⟨ge9,hge⟩:=hge
   refine Xp (λw h=>HS.es_some hlf hr5 h aPk) λhgf=>?_
   obtain⟨gf9,hgf⟩:=hgf
   refine Xp (λw h=>HS.es_room hlst h aPk) λhrE=>Qn rfl ?_
   refine aU8 ?_
   refine o_p (Qa rfl rfl rfl Qw (leaf) om om rfl) rfl (Qh (show _=Value.pointer (some ⟨gn,leaf*3,none⟩)from by rw[Nat.zero_add]) (aU ?_))
   refine o_q (Qf rfl rfl Xq (λw h=>HS.nd_cell hlf h aPk 1 rfl (by decide))) rfl (aT2 ?_)
   refine Qh (show _=Value.int .i64 ((((nth L leaf).es.length-1):Nat):Int)from by congr 1;omega) (aU3 ?_)
   refine Qg (L':=[(1,_),(2,_),(3,_),(6,_),(7,_),(8,_),(9,_),(31,_),(32,_),(33,_),(34,_),(35,_),(36,_),(37,_),(38,_),(39,_)]) aSx (λ_ h=>h) ?_
   refine XG (λw h=>HS.es_open hlst om hge h aPk) (Qt [23] QC ?_)
   refine dLd 0 [[]] ?_
   refine dP 1 ?_
   refine dFa 2 ?_
   refine dFa 3 ?_
   refine dLd 4 [[]] ?_
   refine dP 5 ?_
   refine dV 6 rfl (Qa rfl rfl rfl Qw ((QO P)) om om rfl) (Qr (show _=Value.pointer (some ⟨gn,(QO P)*3,none⟩)from by rw[Nat.zero_add]) (dFa 7 ?_))
   refine dQ 8 [[]] rfl (Qf rfl rfl Xq (λw h=>HS.nd_cell hlst h aPk 1 rfl (by decide))) (dP 9 ?_)
   refine dLd 10 [[]] ?_
   refine dP 11 ?_
   refine dFa 12 ?_
   refine dFa 13 ?_
   refine dLd 14 [[]] ?_
   refine dP 15 ?_
   refine dV 16 rfl (Qa rfl rfl rfl Qw (leaf) om om rfl) (Qr (show _=Value.pointer (some ⟨gn,leaf*3,none⟩)from by rw[Nat.zero_add]) (dFa 17 ?_))
   refine dQ 18 [[]] rfl (Qf rfl rfl Xq (λw h=>HS.nd_cell hlf h aPk 1 rfl (by decide))) (dP 19 ?_)
   refine dV 20 rfl (Qa rfl rfl rfl QN (((nth L leaf).es.length-1)) om om hgf) (dQ 21 [[]] rfl (X6 _ rfl rfl Yk rfl (λw h=>HS.es_rdB hlf hni (k:=((nth L leaf).es.length-1)) om hgf h aPk)) (dV 22 rfl (Qa rfl rfl rfl QN (k) om om hge) (Qr (show _=Value.pointer (some ⟨ge9,k*2,none⟩)from by rw[Nat.zero_add]) (dSt 23 ?_ (hl:=(by rw[Qi ev2];show _+2<=_;omega))))))
   refine dTu [] ?_
   refine dNi ?_
   refine Qg (L':=[(1,_),(2,_),(3,_),(6,_),(7,_),(8,_),(9,_),(31,_),(32,_),(33,_),(34,_),(35,_),(36,_),(37,_),(38,_),(39,_)]) aSx (λ_ h=>h) ?_
   refine aU2 ?_
   refine QaX (λw h=>HS.es_upd (gn:=gn) (cap:=cap) (g:=ge9) (k:=k) (x:=nth (nth L leaf).es ((nth L leaf).es.length-1)) hlst hatk hge h aPk aPk aPk hrE) λL1=>?_
   refine Xm (λw h=>h.1) λhS1=>QQ (λw h=>h.2) (aU4 ?_)
   exact Qo ((la,lc),L1) ⟨by rw[hS1.es];exact(QuZ hNI hNQ hcz).symm,hS1.len⟩ (by dsimp only;rw[<-hle,hK2,he2];exact aSx) (λw h=>by dsimp only;rw[he2,hS1.len];exact h.ent aEt)
  have hcz:(nth L (QO P)).cs.length=0:=by have hq:=h2;omega
  have hQe:(QZ (pln L) P k)=P:=by unfold QZ;rw[hNI];exact if_pos hcz
  refine aU ?_
  exact Qo ((pa,pc),L) ⟨(QuI hNI hcz).symm,rfl⟩ (by dsimp only;rw[QvW hNI hcz,hQe];exact aSx) (λw h=>by dsimp only;rw[hQe];exact h.ent aEt)
 intro⟨⟨qa,qc⟩,LA⟩ hx
 dsimp only
 obtain⟨hA,hAl⟩:=hx
 simp only[]at hA hAl
 have hlq:(QO (QZ (pln L) P k))<LA.length:=om
 rw[<-hA,Ql hlq]at hdl
 simp only[LNd.pl]at hdl
 have hsA:=hok.sm1 (QO (QZ (pln L) P k))
 rw[<-hA,Ql hlq]at hsA
 simp only[LNd.pl]at hsA
 refine aU ?_
 refine XG (λw h=>HS.es_take hlq h aPk) (Qbe [.blk bt 166 6 (tbV (j:Int) mo rm (some ⟨gn,0,none⟩) LA.length cap),.blk gn 69 (cap*3) (LA.flatMap LNd.vals),.blk b1 158 1 [.pointer (some ⟨bt,0,none⟩)]] [21] QC ?_)
 refine dLd 0 [[]] ?_
 refine dP 1 ?_
 refine dFa 2 ?_
 refine dFa 3 ?_
 refine dLd 4 [[]] ?_
 refine dP 5 ?_
 refine dLd 6 [[]] ?_
 refine dP 7 ?_
 refine dFa 8 ?_
 refine dFa 9 ?_
 refine dLd 10 [[]] ?_
 refine dP 11 ?_
 refine dV 12 rfl (Qa rfl rfl rfl Qw ((QO (QZ (pln L) P k))) om om rfl) (Qr (show _=Value.pointer (some ⟨gn,(QO (QZ (pln L) P k))*3,none⟩)from by rw[Nat.zero_add]) (dFa 13 ?_))
 refine dQ 14 [[]] rfl (Qf rfl rfl Xq (λw h=>HS.nd_cell hlq h aPk 1 rfl (by decide))) (dP 15 ?_)
 refine dP 16 ?_
 refine dP 17 ?_
 try refine dWr ?_
 refine dH 18 rfl (QM (Cs:=[.own (.slice ((nth LA (QO (QZ (pln L) P k)))).ea ((nth LA (QO (QZ (pln L) P k)))).es.length ((nth LA (QO (QZ (pln L) P k)))).ec) 27 2 ((nth LA (QO (QZ (pln L) P k)))).es.length (((nth LA (QO (QZ (pln L) P k)))).es.flatMap TEnt.vals)]) rfl Qld rfl aPs (λw1 h1 hf9=>QoU w1 (nth LA (QO (QZ (pln L) P k))).ea (Qg0 (pln L) P k) (nth LA (QO (QZ (pln L) P k))).ec (nth LA (QO (QZ (pln L) P k))).es hf9 om hdl)) (λ_ _=>dV 19 rfl (Qa rfl rfl rfl Qw ((QO (QZ (pln L) P k))) om om rfl) (Qr (show _=Value.pointer (some ⟨gn,(QO (QZ (pln L) P k))*3,none⟩)from by rw[Nat.zero_add]) (dFa 20 ?_)))
 refine dSt 21 ?_ (hl:=(by rw[Qi nv3];show _+1<=_;omega))
 refine dTu [] ?_
 refine dNi ?_
 refine aU4 ?_
 refine QaX (λw h=>HS.es_setB (gn:=gn) (cap:=cap) (ea:=(nth LA (QO (QZ (pln L) P k))).ea) (ec:=(nth LA (QO (QZ (pln L) P k))).ec) (es:=QK (nth LA (QO (QZ (pln L) P k))).es (Qg0 (pln L) P k)) hlq h aPk aPk aPk) λL2=>?_
 refine Xm (λw h=>h.1) λhS2=>QQ (λw h=>h.2) ?_
 have hL2:pln L2=(QbT (pln L) P k):=by rw[hS2.es,hA,QbT,<-hA,Ql hlq];rfl
 have hl2:L2.length=L.length:=by rw[hS2.len,hAl]
 refine QQ (C':=HS w (fps [.blk bt 166 6 (tbV (j:Int) mo rm (some ⟨gn,0,none⟩) (L).length cap),.blk gn 69 (cap*3) ((L).flatMap LNd.vals),.star ((L).map (Qs 27)),.kids pa pc (iN P)]) [.blk bt 166 6 (tbV (j:Int) mo rm (some ⟨gn,0,none⟩) (L2).length cap),.blk gn 69 (cap*3) ((L2).flatMap LNd.vals),.star ((L2).map (Qs 27)),.own (.slice qa ((QZ (pln L) P k)).length qc) 3 1 ((QZ (pln L) P k)).length (((QZ (pln L) P k)).map λi:Nat=>Value.int .i64 (i:Int)),.blk b1 158 1 [.pointer (some ⟨bt,0,none⟩)]]) (λw2 h=>by rw[hl2,<-hAl];exact h.ent aEt) (oCh rfl (λw1 h1=>c172 w1 qa (QZ (pln L) P k).length qc) (λb8 _=>aU2 ?_))
 refine QmA (G:=(Nat×Nat)×List LNd) (Bs:=λg=>[.blk bt 166 6 (tbV (j:Int) mo rm (some ⟨g.1.1,0,none⟩) (g.2).length g.1.2),.blk g.1.1 69 (g.1.2*3) ((g.2).flatMap LNd.vals),.star ((g.2).map (Qs 27)),.blk b1 158 1 [.pointer (some ⟨bt,0,none⟩)],.blk b8 28 1 [.slice qa (QZ (pln L) P k).length qc],.own (.slice qa ((QZ (pln L) P k)).length qc) 3 1 ((QZ (pln L) P k)).length (((QZ (pln L) P k)).map λi:Nat=>Value.int .i64 (i:Int)),.pure (pln (g.2)=Zr mo (QbT (pln L) P k) ((QZ (pln L) P k).reverse.take (QZ (pln L) P k).length)/\Qbw mo (pln (g.2)) ((QZ (pln L) P k).reverse.drop (QZ (pln L) P k).length)/\(g.2).length<=g.1.2/\g.1.2<=maxLen)]) rfl rfl rfl Qrl (λfid D l a9 w1 ob hob ha9 hw1=>?_) (λD x=>?_)
 ·skip
  refine(c217 w1 w (fps [.blk bt 166 6 (tbV (j:Int) mo rm (some ⟨gn,0,none⟩) (L).length cap),.blk gn 69 (cap*3) ((L).flatMap LNd.vals),.star ((L).map (Qs 27)),.kids pa pc (iN P)]) (λkk g=>.obj l ob::.obj D (.deferred (some []))::[.blk bt 166 6 (tbV (j:Int) mo rm (some ⟨g.1.1,0,none⟩) (g.2).length g.1.2),.blk g.1.1 69 (g.1.2*3) ((g.2).flatMap LNd.vals),.star ((g.2).map (Qs 27)),.blk b1 158 1 [.pointer (some ⟨bt,0,none⟩)],.blk b8 28 1 [.slice qa (QZ (pln L) P k).length qc],.own (.slice qa ((QZ (pln L) P k)).length qc) 3 1 ((QZ (pln L) P k)).length (((QZ (pln L) P k)).map λi:Nat=>Value.int .i64 (i:Int)),.pure (pln (g.2)=Zr mo (QbT (pln L) P k) ((QZ (pln L) P k).reverse.take kk)/\Qbw mo (pln (g.2)) ((QZ (pln L) P k).reverse.drop kk)/\(g.2).length<=g.1.2/\g.1.2<=maxLen)]) ((gn,cap),L2) l b8 (QZ (pln L) P k) qa qc om ?_ ?_ (λkk g w2 hk h2=>?_)).mono λe w2 hx=>?_
  ·exact(HS.add_pure (p:=pln L2=Zr mo (QbT (pln L) P k) ((QZ (pln L) P k).reverse.take 0)/\Qbw mo (pln L2) ((QZ (pln L) P k).reverse.drop 0)/\L2.length<=cap/\cap<=maxLen) ⟨hL2,by rw[hL2];exact hok.fil,om,hcm⟩ hw1).ent aEt
  ·exactλk9 g w2 h2=>⟨h2.rd_blk (i:=0) aPk rfl (by simp),HS.pown_row (P:=(QZ (pln L) P k)) (a:=qa) (c:=qc) h2 aPk⟩
  rotate_left
  ·exact hx
  subst hob
  obtain⟨⟨ga,gc⟩,Lg⟩:=g
  dsimp only at h2
  obtain⟨hg1,hg2,hg3,hg4⟩:=h2.get_pure aPk
  rw[Qkj hk]at hg2
  obtain⟨⟨hgi,hsp⟩,hnx⟩:=hg2
  have hst:Zr mo (QbT (pln L) P k) ((QZ (pln L) P k).reverse.take (kk+1))=QdH mo (pln Lg) (nth (QZ (pln L) P k) ((QZ (pln L) P k).length-1-kk)):=by rw[Qki hk,Qos,<-hg1]
  rw[Qb]at hgi
  rw[Ql hgi]at hsp
  simp only[LNd.pl]at hsp
  refine Qmu (fn:=Tryz.f112) (As1:=.obj D (.deferred (some []))::[.blk bt 166 6 (tbV (j:Int) mo rm (some ⟨ga,0,none⟩) (Lg).length gc),.blk ga 69 (gc*3) ((Lg).flatMap LNd.vals),.star ((Lg).map (Qs 27)),.blk b1 158 1 [.pointer (some ⟨bt,0,none⟩)],.blk b8 28 1 [.slice qa (QZ (pln L) P k).length qc],.own (.slice qa ((QZ (pln L) P k)).length qc) 3 1 ((QZ (pln L) P k)).length (((QZ (pln L) P k)).map λi:Nat=>Value.int .i64 (i:Int)),.pure (pln (Lg)=Zr mo (QbT (pln L) P k) ((QZ (pln L) P k).reverse.take kk)/\Qbw mo (pln (Lg)) ((QZ (pln L) P k).reverse.drop kk)/\(Lg).length<=gc/\gc<=maxLen)]) (L1:=[(11,.int .i64 (((nth (QZ (pln L) P k) ((QZ (pln L) P k).length-1-kk)):Nat):Int)),(3,.pointer (some ⟨b1,0,none⟩))]) h2 rfl (FR.round2 ha9 136 137 _ _ rfl rfl) ?_ ?_
  ·skip
   refine aU3 ?_
   exact Qqq () aSx (λw h=>h.ent aEt)
  skip
  refine aU2 ?_
  refine ZC (α:=Bool) [138,139,140,141,142,143,144,145,146,147,148,149,150,151,152,153,154] (λx=>[(154,.bool x)]) (λx=>x=true ↔ (0<(nth (QZ (pln L) P k) ((QZ (pln L) P k).length-1-kk))/\((nth Lg (nth (QZ (pln L) P k) ((QZ (pln L) P k).length-1-kk))).es.length:Int)<mo/2)) ?_ ?_
  ·skip
   refine Qt [] QC ?_
   refine dP 0 ?_
   refine dP 1 ?_
   refine dP 2 ?_
   apply XA 140
   ·exact rfl
   ·intro hg9
    have hs10:=hg9;try simp only[dT]at hs10
    refine dQo 3 140 [] hg9 rfl rfl rfl (X8 rfl rfl YW aPk rfl) ?_
    refine dPo 4 140 hg9 ?_
    refine dFo 5 140 hg9 ?_
    refine dFo 6 140 hg9 ?_
    refine dQo 7 140 [] hg9 rfl rfl rfl (X8 rfl rfl Yl aPk rfl) ?_
    refine dPo 8 140 hg9 ?_
    refine dVo 9 140 hg9 rfl rfl rfl (Qa rfl rfl rfl Qw ((nth (QZ (pln L) P k) ((QZ (pln L) P k).length-1-kk))) om om rfl) ?_
    refine Qr (show _=Value.pointer (some ⟨ga,(nth (QZ (pln L) P k) ((QZ (pln L) P k).length-1-kk))*3,none⟩)from by rw[Nat.zero_add]) (dFo 10 140 hg9 ?_)
    refine dQo 11 140 [] hg9 rfl rfl rfl (Qf rfl rfl Xq (λw h=>HS.nd_cell hgi h aPk 1 rfl (by decide))) ?_
    refine dVo 12 140 hg9 rfl rfl rfl (QS rfl rfl Tryz.underlying67) ?_
    refine dQo 13 140 [] hg9 rfl rfl rfl (X8 rfl rfl YW aPk rfl) ?_
    refine dQo 14 140 [] hg9 rfl rfl rfl (Qv rfl QlP rfl (λw1 h1=>Qvd w1 bt j mo rm (some ⟨ga,0,none⟩) Lg.length gc hmo (HS.tbr h1 aPk))) ?_
    refine dPo 15 140 hg9 ?_
    refine dV 16 rfl (Xv rfl rfl hg9 rfl) (dNi ?_)
    exact Qo (decide (((nth Lg (nth (QZ (pln L) P k) ((QZ (pln L) P k).length-1-kk))).es.length:Int)<mo/2)) (by rw[decide_eq_true_eq];omega) aSx (λw h=>h.ent aEt)
   intro hg11
   have hs12:=hg11;try simp only[dN]at hs12
   refine dOf 3 140 hg11 ?_
   refine dOf 4 140 hg11 ?_
   refine dOf 5 140 hg11 ?_
   refine dOf 6 140 hg11 ?_
   refine dOf 7 140 hg11 ?_
   refine dOf 8 140 hg11 ?_
   refine dOf 9 140 hg11 ?_
   refine dOf 10 140 hg11 ?_
   refine dOf 11 140 hg11 ?_
   refine dOf 12 140 hg11 ?_
   refine dOf 13 140 hg11 ?_
   refine dOf 14 140 hg11 ?_
   refine dOf 15 140 hg11 ?_
   refine dV 16 rfl (Xl rfl rfl hg11 rfl) (dNi ?_)
   exact Qo false (by constructor<;>intro h9<;>first|(cases h9;done)|omega) aSx (λw h=>h.ent aEt)
  intro x hx
  refine sCd rfl (λh13=>?_) λh13=>?_
  ·obtain⟨hpos,hbig⟩:=hx.1 (by assumption)
   refine aU3 ?_
   refine o_h (QM (Cs:=[.blk bt 166 6 (tbV (j:Int) mo rm (some ⟨ga,0,none⟩) (Lg).length gc),.blk ga 69 (gc*3) ((Lg).flatMap LNd.vals),.star ((Lg).map (Qs 27))]) rfl Qum rfl aPs (λw1 h1 hf=>c174 w1 bt j mo rm ga gc Lg (nth (QZ (pln L) P k) ((QZ (pln L) P k).length-1-kk)) (Xz (((nth (QZ (pln L) P k) ((QZ (pln L) P k).length-1-kk)):Nat):Int) (pln Lg) 0).1 (Xz (((nth (QZ (pln L) P k) ((QZ (pln L) P k).length-1-kk)):Nat):Int) (pln Lg) 0).2 hf hg3 hg4 rfl (hsp hpos hbig))) rfl (λ⟨⟨g5,c5⟩,L5⟩hF5=>aU2 ?_)
   exact QeA rfl aPk (λw h=>⟨((g5,c5),L5),rfl,trivial,by exact(HS.add_pure (p:=pln L5=Zr mo (QbT (pln L) P k) ((QZ (pln L) P k).reverse.take (kk+1))/\Qbw mo (pln L5) ((QZ (pln L) P k).reverse.drop (kk+1))/\L5.length<=c5/\c5<=maxLen) ⟨by rw[hst,QdH,if_pos ⟨hpos,by rw[Ql hgi];exact hbig⟩];exact hF5.1,by have h9:=hnx;rw[QdH,if_pos ⟨hpos,by rw[Ql hgi];exact hbig⟩]at h9;rw[hF5.1];exact h9,hF5.2.1,hF5.2.2⟩ h).ent aEt⟩)
  have hno:¬(0<(nth (QZ (pln L) P k) ((QZ (pln L) P k).length-1-kk))/\((nth Lg (nth (QZ (pln L) P k) ((QZ (pln L) P k).length-1-kk))).es.length:Int)<mo/2):=λh9=>by have h8:=hx.2 h9;simp_all
  refine aU2 ?_
  exact QeA rfl aPk (λw h=>⟨((ga,gc),Lg),rfl,trivial,by exact(HS.add_pure (p:=pln Lg=Zr mo (QbT (pln L) P k) ((QZ (pln L) P k).reverse.take (kk+1))/\Qbw mo (pln Lg) ((QZ (pln L) P k).reverse.drop (kk+1))/\Lg.length<=gc/\gc<=maxLen) ⟨by rw[hst,QdH,if_neg (by rw[Ql hgi];exact hno)],by have h9:=hnx;rw[QdH,if_neg (by rw[Ql hgi];exact hno)]at h9;exact h9,hg3,hg4⟩ h).ent aEt⟩)
 skip
 obtain⟨⟨ga,gc⟩,LG⟩:=x
 dsimp only
 refine Xp (λw h=>h.get_pure aPk) λhpu=>?_
 obtain⟨hLG,_,hg3,hg4⟩:=hpu
 rw[show(QZ (pln L) P k).length=(QZ (pln L) P k).reverse.length from(List.length_reverse ..).symm,List.take_length]at hLG
 have hrot:=hok.rot
 rw[<-hLG]at hrot
 have hiG:0<LG.length:=by rw[<-Qb];exact hrot.lt
 have hlG:=hrot.len
 rw[Qb]at hlG
 have hNG:=Ql hiG
 have hrk:=hrot.kid
 rw[hNG]at hrk
 simp only[LNd.pl]at hrk
 refine aU9 ?_
 refine o_p (Qa rfl rfl rfl Qw (0) om om rfl) rfl (Qh (show _=Value.pointer (some ⟨ga,0*3,none⟩)from by rw[Nat.zero_add]) (o_q (X6 _ rfl rfl Xs rfl (λw h=>HS.nd_cells hiG h aPk)) rfl (oAl (λb14 _=>?_) Xj)))
 refine aU3 ?_
 refine Qg (L':=[(3,_),(12,_)]) aSx (λ_ h=>h) ?_
 refine aU6 ?_
 refine XF 5 169 174 rfl
  (λhg15 _=>by
   refine aU8 ?_
   exact oJt 5 174)
  (λhg17 _=>by
   refine aU4 ?_
   exact oJf 5 174) ?_
 refine aU ?_
 refine XY (α:=List LNd) [13,175,176,177,178,179,180,181,182,183,184,185,186,187,188,189,190,191,192,193,194,195,196,197,198,199,200,201,202,203,204,205,206,207,208,209,210,211,212,213,214,215,216] (λ_=>[]) (λx=>HS w (fps [.blk bt 166 6 (tbV (j:Int) mo rm (some ⟨gn,0,none⟩) (L).length cap),.blk gn 69 (cap*3) ((L).flatMap LNd.vals),.star ((L).map (Qs 27)),.kids pa pc (iN P)]) [.obj D (.deferred (some [])),.blk bt 166 6 (tbV (j:Int) mo rm (some ⟨ga,0,none⟩) (x).length gc),.blk ga 69 (gc*3) ((x).flatMap LNd.vals),.star ((x).map (Qs 27)),.blk b1 158 1 [.pointer (some ⟨bt,0,none⟩)]]) (λx=>pln x=Qcw rm (pln LG)/\x.length=LG.length) ?_ ?_
 ·skip
  refine sCd rfl (λh19=>?_) λh19=>?_
  ·have hc9:=h19
   have hrt:(nth LG 0).es.length=0/\(nth LG 0).cs.length=1:=om
   obtain⟨hk1,hck,hku⟩:=hrk hrt.2
   rw[Qb]at hck
   refine Xp (λw h=>HS.cs_some hiG om h aPk) λhgr=>?_
   obtain⟨gr9,hgr⟩:=hgr
   refine aU4 ?_
   refine o_p (Qa rfl rfl rfl QA (0) om om hgr) rfl (o_q (Qf rfl rfl X4 (λw h=>HS.cs_rd hiG (k:=0) om hgr h aPk)) rfl (Qh (show _=Value.int .i64 ((kdN (pln LG) 0 0):Int)from congrArg (Value.int .i64) (Qnr hNG (Int.le_of_lt hk1))) (aU3 ?_)))
   refine Qt [] QC ?_
   refine dLd 0 [] ?_
   refine dP 1 ?_
   refine dFa 2 ?_
   refine dFa 3 ?_
   refine dLd 4 [] ?_
   refine dP 5 ?_
   refine dV 6 rfl (Qa rfl rfl rfl Qw ((kdN (pln LG) 0 0)) om om rfl) (Qr (show _=Value.pointer (some ⟨ga,(kdN (pln LG) 0 0)*3,none⟩)from by rw[Nat.zero_add]) (dFa 7 ?_))
   refine dQ 8 [] rfl (Qf rfl rfl Xq (λw h=>HS.nd_cell hck h aPk 1 rfl (by decide))) (dV 9 rfl (QS rfl rfl Tryz.underlying67) (dLd 10 [] ?_))
   refine dP 11 ?_
   refine dFa 12 ?_
   refine dFa 13 ?_
   refine dLd 14 [] ?_
   refine dP 15 ?_
   refine dNi ?_
   refine sCd rfl (λh20=>?_) λh20=>?_
   ·have hcl:((nth LG (kdN (pln LG) 0 0)).es.length:Int)<=rm:=h20
    refine Qt [21,23] QC ?_
    refine dLd 0 [[],[]] ?_
    refine dP 1 ?_
    refine dFa 2 ?_
    refine dFa 3 ?_
    refine dLd 4 [[],[]] ?_
    refine dLd 5 [[9,8,7,6],[]] ?_
    refine dP 6 ?_
    refine dFa 7 ?_
    refine dFa 8 ?_
    refine dLd 9 [[],[]] ?_
    refine dP 10 ?_
    refine dLd 11 [[],[]] ?_
    refine dP 12 ?_
    refine dFa 13 ?_
    refine dFa 14 ?_
    refine dLd 15 [[],[]] ?_
    refine dP 16 ?_
    refine dV 17 rfl (Qa rfl rfl rfl Qw ((kdN (pln LG) 0 0)) om om rfl) (Qr (show _=Value.pointer (some ⟨ga,(kdN (pln LG) 0 0)*3,none⟩)from by rw[Nat.zero_add]) (dQ 18 [[],[]] rfl (X6 _ rfl rfl Xs rfl (λw h=>HS.nd_cells hck h aPk)) (dV 19 rfl (QF (cs:=[_,_,_]) rfl rfl QbP Xj rfl) (dV 20 rfl (Qa rfl rfl rfl Qw (0) om om rfl) (Qr (show _=Value.pointer (some ⟨ga,0*3,none⟩)from by rw[Nat.zero_add]) (dSt 21 ?_ (hl:=(by rw[Qi nv3];show _+3<=_;omega))))))))
    refine dTu [23] ?_
    refine dV 22 rfl (Qa rfl rfl rfl Qw ((kdN (pln LG) 0 0)) om om rfl) (Qr (show _=Value.pointer (some ⟨ga,(kdN (pln LG) 0 0)*3,none⟩)from by rw[Nat.zero_add]) (Qlk 23 rfl (Xo rfl rfl rfl Xs rfl aPt (by rw[Qm,Qi nv3];show _+3<=_;omega) rfl) (by kernel_rfl) (λw h=>h.ent aEt) (λ_ _=>?_)))
    refine dTu [] ?_
    refine dNi ?_
    refine Qhl (λw h=>HS.node_rot (i:=(kdN (pln LG) 0 0)) (j:=0) (gn:=ga) (cap:=gc) hck hiG (by have:=Qnr hNG (Int.le_of_lt hk1);simp only[LNd.pl]at this;omega) h aPk aPk) λL8=>?_
    exact Xp (λw h=>h.1) λhS8=>XG (λw h=>h.2) (Qo L8 ⟨by rw[hS8.1];exact(Qup hNG hrt (Ql hck) hcl).symm,hS8.2⟩ aSx (λw h=>by rw[hS8.2];exact h.ent aEt))
   have hcl:¬((nth LG (kdN (pln LG) 0 0)).es.length:Int)<=rm:=by have hq:=h20;omega
   refine aU ?_
   exact Qo LG ⟨(Qvw hNG hrt (Ql hck) hcl).symm,rfl⟩ aSx (λw h=>h.ent aEt)
  have hc9:=h19
  have hrt:¬((nth LG 0).es.length=0/\(nth LG 0).cs.length=1):=om
  refine aU ?_
  exact Qo LG ⟨(Quf hNG hrt).symm,rfl⟩ aSx (λw h=>h.ent aEt)
 intro LR hx
 obtain⟨hR,hRl⟩:=hx
 have hRu:(nth (pln LR) 0).us=true:=by rw[hR];exact Quz hrot
 refine aU2 ?_
 refine o_h (QM (Cs:=[.blk bt 166 6 (tbV (j:Int) mo rm (some ⟨ga,0,none⟩) (LR).length gc),.blk ga 69 (gc*3) ((LR).flatMap LNd.vals),.star ((LR).map (Qs 27))]) rfl Qt7 rfl aPs (λw1 h1 hf=>c175 w1 bt j mo rm ga gc LR hf om hg4 om om hRu)) rfl (λ⟨⟨g7,c7⟩,L7⟩hF7=>aU ?_)
 exact Qif rfl aPk (λw' h'=>⟨((g7,c7),L7),rfl,⟨by rw[hF7.1,hR,hLG];rfl,hF7.2.1,hF7.2.2⟩,h'.ent aEt⟩)
theorem Qpp:QY Tryz.prog 168=true:=by kernel_rfl
instance:TFn Tryz.prog 169:=⟨by kernel_rfl⟩
theorem c169(w:World)(n m:LNd)(hne:Rw TEnt.vals 2 w [] n.ea n.es)(hnc:Rw inV 1 w [] n.ca n.cs)(hme:Rw TEnt.vals 2 w [] m.ea m.es)(hmc:Rw inV 1 w [] m.ca m.cs)(h1:n.es.length<=100000/\n.cs.length<=100000)(h2:m.es.length<=100000/\m.cs.length<=100000):CR 169 #[.agg #[.bool n.us,.slice n.ea n.es.length n.ec,.slice n.ca n.cs.length n.cc],.agg #[.bool m.us,.slice m.ea m.es.length m.ec,.slice m.ca m.cs.length m.cc]] w (.bool (decide (n.pl=m.pl))):=by
 refine eN2 Tryz.func169 Tryz.ntmps169 ?_
 refine aU2 ?_
 refine oBx λb1 _=>?_
 refine oBx λb2 _=>?_
 refine aU8 ?_
 refine o_p (Qd9 rfl rfl rfl Tryz.underlying4) rfl (aU ?_)
 refine XF 6 10 16 rfl
  (λhg3 _=>by
   refine aU9 ?_
   refine oCq rfl (λw1 h1=>c208 w1 n.ea m.ea n.ec m.ec n.es m.es (hne.later h1.nil) (hme.later h1.nil) om om) ?_
   exact oJt 6 16)
  (λhg5 _=>by
   refine aU5 ?_
   exact oJf 6 16) ?_
 refine aU ?_
 refine XF 6 17 23 rfl
  (λhg7 _=>by
   refine aU9 ?_
   refine oCq rfl (λw1 h1=>c209 w1 n.ca m.ca n.cc m.cc n.cs m.cs (hnc.later h1.nil) (hmc.later h1.nil) om om) ?_
   exact oJt 6 23)
  (λhg9 _=>by
   refine aU5 ?_
   exact oJf 6 23) ?_
 refine aU2 ?_
 exact rV (h:=by simp only[Xf];rw[Qf8])
theorem c168(w:World)(a:Option Addr)(cap:Nat)(L:List LNd)(k:Nat)(hs:Rw LNd.vals 3 w [] a L):CR 168 #[.slice a L.length cap,.int .i64 (k:Int)] w (.agg (LNd.vals (nth L k)).toArray):=by
 refine eN2 Tryz.func168 Tryz.ntmps168 ?_
 refine aU2 ?_
 refine oAl (λb1 _=>?_) Xj
 refine aU9 ?_
 refine sCd rfl (λh2=>?_) λh2=>?_
 ·refine aU3 ?_
  refine o_p (Qa rfl rfl rfl Qw (k) om om (Rw.some hs om)) rfl (o_q (QB _ rfl rfl Xs rfl (Rw.rd hs om)) rfl (aU7 ?_))
  exact Qk (rs:=[.cell 4 69]) rfl (.cell rfl Xs aPk rfl (.nil)) (λw' h'=>⟨by first|rfl|(rw[Zb om];rfl),h'.below⟩)
 refine aU6 ?_
 exact Qk (rs:=[.cell 4 69]) rfl (.cell rfl Xs aPk rfl (.nil)) (λw' h'=>⟨by first|rfl|(rw[Zb om];rfl),h'.below⟩)
theorem c109(w:World)(a b:Option Addr)(ca cb:Nat)(L M:List LNd)(hs:Nt w [] a L)(ht:Nt w [] b M)(hL:L.length<=1000)(hM:M.length<=1000)(hLs:Sm 100000 (pln L))(hMs:Sm 100000 (pln M)):CE 109 #[.slice a L.length ca,.slice b M.length cb] w [] (λg:Option Addr×Nat=>.slice g.1 (QbN (pln L) (pln M)).length g.2) (λg=>True) λg=>[.own (.slice g.1 ((QbN (pln L) (pln M))).length g.2) 3 1 ((QbN (pln L) (pln M))).length (((QbN (pln L) (pln M))).map λi:Nat=>Value.int .i64 (i:Int))]:=by
 refine eN2 Tryz.func109 Tryz.ntmps109 ?_
 refine aU19 ?_
 refine o_p (QeU rfl rfl rfl ) rfl (aU3 ?_)
 refine Qx (α:=Nat×Option Addr×Nat) [6,7,13,14,15,16,17,18,19,20,21,22,23,24,25,26,27,28,29,30] (λx=>[(13,.int .i64 (x.1:Int)),(6,.slice x.2.1 (Qfx (pln L) (pln M) x.1).length x.2.2)]) (λx=>HS w [] [.own (.slice x.2.1 ((Qfx (pln L) (pln M) x.1)).length x.2.2) 3 1 ((Qfx (pln L) (pln M) x.1)).length (((Qfx (pln L) (pln M) x.1)).map λi:Nat=>Value.int .i64 (i:Int))]) (λx=>x.1<=(max L.length M.length)) (λx=>(max L.length M.length)-x.1) (0,none,0) (Nat.zero_le _) aSx (λw h=>(h.own_nil 3 1).ent aEt) (λ⟨k,ga,gc⟩hk1=>?_)
 dsimp only
 simp only[]at hk1
 refine aU5 ?_
 refine sCd rfl (λh1=>?_) λh1=>?_
 ·have hk:k<(max L.length M.length):=by have hq:=h1;omega
  have hkl:=QpF (pln L) (pln M) k
  refine Qau ?_
  refine o_q (XX rfl rfl Qpp rfl (λw1 h1=>c168 w1 a ca L k (Rw.later hs.1 h1.nil))) rfl (aU3 ?_)
  refine o_q (XX rfl rfl Qpp rfl (λw1 h1=>c168 w1 b cb M k (Rw.later ht.1 h1.nil))) rfl (oCq rfl (λw1 h1=>c169 w1 (nth L k) (nth M k) ((hs.esA k).later h1.nil) ((hs.csA k).later h1.nil) ((ht.esA k).later h1.nil) ((ht.csA k).later h1.nil) (by have:=hLs k;rw[QR]at this;exact this) (by have:=hMs k;rw[QR]at this;exact this)) (aU2 ?_))
  refine sCd rfl (λh2=>?_) λh2=>?_
  ·have hne9:nth (pln L) k≠nth (pln M) k:=by rw[QR,QR];have hq:=h2;simpa using hq
   have hst:=QsG hne9
   refine aU3 ?_
   refine o_h (Qe (cs:=[_]) rfl rfl QA Yp rfl rfl rfl) rfl (λb3 _=>o_h (QL [_] rfl rfl rfl QA Tryz.underlying28 Yp rfl aPk (Xb aPk) rfl (by intro u hu;simp only[List.mem_cons,List.mem_nil_iff,or_false]at hu;subst hu;rfl) om (by simp only[maxLen];omega)) rfl (λb4 _=>aT5 ?_))
   refine aU2 ?_
   exact Q1 (k+1,b4.1,b4.2) (by(try simp only[]);omega) (by(try simp only[]);omega) (by dsimp only;rw[hst];simp only[List.length_append,List.length_singleton];exact aSx) (λw h=>by have h2:=h;dsimp only;rw[hst];simp only[List.length_append,List.length_singleton,List.map_append,List.map_cons,List.map_nil];exact h2.ent aEt)
  have hne9:nth (pln L) k=nth (pln M) k:=by rw[QR,QR];have hq:=h2;simpa using hq
  have hst:=QsK hne9
  refine aT4 ?_
  refine aU2 ?_
  exact Q1 (k+1,ga,gc) (by(try simp only[]);omega) (by(try simp only[]);omega) (by dsimp only;rw[hst];exact aSx) (λw h=>by dsimp only;rw[hst];exact h.ent aEt)
 obtain rfl:k=(max L.length M.length):=om
 refine Qn rfl ?_
 refine aU5 ?_
 exact rT rfl rfl (λw' h'=>⟨(ga,gc),by unfold QbN;rw[Qb,Qb];rfl,trivial,by unfold QbN;rw[Qb,Qb];exact h'.ent aEt⟩)
instance:TFn Tryz.prog 210:=⟨by kernel_rfl⟩
instance:TFn Tryz.prog 163:=⟨by kernel_rfl⟩
theorem QwJ(w:World)(co mo rm:Int)(a:Option Addr)(cap:Nat)(L:List LNd)(hs:Nt w [] a L)(hB:Bd (pln L))(hkl:∀i,i<L.length->∀x∈(nth L i).es,x.key.length<=1000000)(he:¬(XV (⟨co,mo,rm,pln L⟩:Tre)).2=0):CR 163 #[.agg #[.int .i64 co,.int .i64 mo,.int .i64 rm,.slice a L.length cap]] w (.tuple #[.pointer none,.int .i64 (XV (⟨co,mo,rm,pln L⟩:Tre)).2]):=by
 refine eN1 Tryz.func163 Tryz.ntmps163 ?_
 refine aU2 ?_
 refine oBx λb1 _=>?_
 refine aU7 ?_
 refine oCq rfl (λw1 h1=>QsM w1 co mo rm a cap L (hs.later h1.nil) hB hkl) (Zl ?_)
 refine sCd rfl (λh2=>?_) λh2=>?_
 ·refine aU6 ?_
  exact Qk (rs:=[.tmp 2,.tmp 3]) rfl (.tmp rfl (.tmp rfl (.nil))) (λw' h'=>⟨rfl,h'.below⟩)
 exfalso;first|omega|(simp at h2;done)|(simp_all;done)
theorem Qtw(w:World)(j:Nat)(mo rm:Int)(a:Option Addr)(cap:Nat)(L:List LNd)(hs:Nt w [] a L)(hB:Bd (pln L))(hkl:∀i,i<L.length->∀x∈(nth L i).es,x.key.length<=1000000)(h0:(XV (⟨(j:Int),mo,rm,pln L⟩:Tre)).2=0):CE 163 #[.agg #[.int .i64 (j:Int),.int .i64 mo,.int .i64 rm,.slice a L.length cap]] w [] (λg:Nat×(Nat×Nat)×List LNd=>.tuple #[.pointer (some ⟨g.1,0,none⟩),.int .i64 (0)]) (λg=>(pln g.2.2=pln L/\g.2.2.length<=g.2.1.2/\g.2.1.2<=maxLen)) λg=>[.blk g.1 166 6 (tbV (j:Int) mo rm (some ⟨g.2.1.1,0,none⟩) (g.2.2).length g.2.1.2),.blk g.2.1.1 69 (g.2.1.2*3) ((g.2.2).flatMap LNd.vals),.star ((g.2.2).map (Qs 27))]:=by
 obtain⟨hc0,hz0,hl0,hl120,hn0,_,_⟩:=YJ h0
 rw[show((⟨(j:Int),mo,rm,pln L⟩:Tre)).ns=pln L from rfl,Qb]at hl0 hl120
 have hj:j<=3:=by obtain⟨j9,e9,hj9⟩:=ZD hc0;have e8:((j:Nat):Int)=(j9:Int):=e9;omega
 have hT:TOk (j:Int) (pln L):=Zp (t:=(⟨(j:Int),mo,rm,pln L⟩:Tre)) hn0
 have hmo:=(Qas hz0).1
 simp only[]at hmo
 refine eN1 Tryz.func163 Tryz.ntmps163 ?_
 refine aU2 ?_
 refine oBx λb1 _=>?_
 refine aU7 ?_
 refine oCq rfl (λw1 h1=>QsM w1 (j:Int) mo rm a cap L (hs.later h1.nil) hB hkl) (Zl ?_)
 refine sCd rfl (λh2=>?_) λh2=>?_
 ·exfalso;first|omega|(simp at h2;done)|(simp_all;done)
 refine aU4 ?_
 refine oCh rfl (λw1 h1=>c210 w1 j mo rm a cap L (hs.later h1.nil) hB hj hl0) (λ⟨b9,⟨a9,c9⟩,L9⟩hF9=>?_)
 dsimp only
 refine aU3 ?_
 exact Qk (rs:=[.tmp 2,.tmp 3]) rfl (.tmp rfl (.tmp rfl (.nil))) (λw' h'=>by obtain⟨g9,rfl,hl9,hm9,h2⟩:=Qfn (by rw[<-Qb,hF9,Qb];exact hl0) h' aPk;exact⟨(b9,(g9,c9),L9),rfl,⟨hF9,hl9,hm9⟩,h2.ent aEt⟩)
theorem QrN(w:World)(j:Nat)(mo rm:Int)(a:Option Addr)(cap:Nat)(L:List LNd)(key:List UInt8)(hs:Nt w [] a L)(hB:Bd (pln L))(hkl:∀i,i<L.length->∀x∈(nth L i).es,x.key.length<=1000000)(hkk:key.length<=1000000)(h0:(XV (⟨(j:Int),mo,rm,pln L⟩:Tre)).2=0):CE 110 #[.agg #[.int .i64 (j:Int),.int .i64 mo,.int .i64 rm,.slice a L.length cap],.string (bs key)] w [] (λg:Nat×(Nat×Nat)×List LNd=>.tuple #[.pointer (some ⟨g.1,0,none⟩),.int .i64 (X3 (j:Int) key)]) (λg=>(pln g.2.2=pln L/\g.2.2.length<=g.2.1.2/\g.2.1.2<=maxLen)) λg=>[.blk g.1 166 6 (tbV (j:Int) mo rm (some ⟨g.2.1.1,0,none⟩) (g.2.2).length g.2.1.2),.blk g.2.1.1 69 (g.2.1.2*3) ((g.2.2).flatMap LNd.vals),.star ((g.2.2).map (Qs 27))]:=by
 obtain⟨hc0,hz0,hl0,hl120,hn0,_,_⟩:=YJ h0
 rw[show((⟨(j:Int),mo,rm,pln L⟩:Tre)).ns=pln L from rfl,Qb]at hl0 hl120
 have hj:j<=3:=by obtain⟨j9,e9,hj9⟩:=ZD hc0;have e8:((j:Nat):Int)=(j9:Int):=e9;omega
 have hT:TOk (j:Int) (pln L):=Zp (t:=(⟨(j:Int),mo,rm,pln L⟩:Tre)) hn0
 have hmo:=(Qas hz0).1
 simp only[]at hmo
 refine eN2 Tryz.func110 Tryz.ntmps110 ?_
 refine aU2 ?_
 refine oBx λb1 _=>?_
 refine aU6 ?_
 refine oCh rfl (λw1 h1=>Qtw w1 j mo rm a cap L (hs.later h1.nil) hB hkl h0) (λg9 hF9=>Zx ?_)
 refine sCd rfl (λh2=>?_) λh2=>?_
 ·refine aU4 ?_
  refine oCq rfl (λw1 h1=>QsZ w1 j key hj hkk) (aU9 ?_)
  exact Qk (rs:=[.tmp 4,.tmp 5]) rfl (.tmp rfl (.tmp rfl (.nil))) (λw' h'=>⟨g9,rfl,hF9,h'.ent aEt⟩)
 exfalso;first|omega|(simp at h2;done)|(simp_all;done)
theorem Qwk(w:World)(co mo rm:Int)(a:Option Addr)(cap:Nat)(L:List LNd)(x:TEnt)(hs:Nt w [] a L)(hB:Bd (pln L))(hkl:∀i,i<L.length->∀x∈(nth L i).es,x.key.length<=1000000)(he:¬(XV (⟨co,mo,rm,pln L⟩:Tre)).2=0):CR 107 #[.agg #[.int .i64 co,.int .i64 mo,.int .i64 rm,.slice a L.length cap],.agg #[.string (bs x.key),.string (bs x.val)]] w (.tuple #[.pointer none,.int .i64 (XV (⟨co,mo,rm,pln L⟩:Tre)).2]):=by
 refine eN2 Tryz.func107 Tryz.ntmps107 ?_
 refine aU2 ?_
 refine oBx λb1 _=>?_
 refine oBx λb2 _=>?_
 refine aU6 ?_
 refine oCq rfl (λw1 h1=>QwJ w1 co mo rm a cap L (hs.later h1.nil) hB hkl he) (Zx ?_)
 refine sCd rfl (λh3=>?_) λh3=>?_
 ·exfalso;first|omega|(simp at h3;done)|(simp_all;done)
 refine aU8 ?_
 exact Qk (rs:=[.tmp 4,.tmp 5]) rfl (.tmp rfl (.tmp rfl (.nil))) (λw' h'=>⟨rfl,h'.below⟩)
theorem QpZ(w:World)(j:Nat)(mo rm:Int)(a:Option Addr)(cap:Nat)(L:List LNd)(x:TEnt)(hs:Nt w [] a L)(hB:Bd (pln L))(hkl:∀i,i<L.length->∀x∈(nth L i).es,x.key.length<=1000000)(hkk:x.key.length<=1000000)(h0:(XV (⟨(j:Int),mo,rm,pln L⟩:Tre)).2=0):CE 107 #[.agg #[.int .i64 (j:Int),.int .i64 mo,.int .i64 rm,.slice a L.length cap],.agg #[.string (bs x.key),.string (bs x.val)]] w [] (λg:Nat×(Nat×Nat)×List LNd=>.tuple #[.pointer (some ⟨g.1,0,none⟩),.int .i64 (Yu (j:Int) x)]) (λg=>(pln g.2.2=pln L/\g.2.2.length<=g.2.1.2/\g.2.1.2<=maxLen)) λg=>[.blk g.1 166 6 (tbV (j:Int) mo rm (some ⟨g.2.1.1,0,none⟩) (g.2.2).length g.2.1.2),.blk g.2.1.1 69 (g.2.1.2*3) ((g.2.2).flatMap LNd.vals),.star ((g.2.2).map (Qs 27))]:=by
 obtain⟨hc0,hz0,hl0,hl120,hn0,_,_⟩:=YJ h0
 rw[show((⟨(j:Int),mo,rm,pln L⟩:Tre)).ns=pln L from rfl,Qb]at hl0 hl120
 have hj:j<=3:=by obtain⟨j9,e9,hj9⟩:=ZD hc0;have e8:((j:Nat):Int)=(j9:Int):=e9;omega
 have hT:TOk (j:Int) (pln L):=Zp (t:=(⟨(j:Int),mo,rm,pln L⟩:Tre)) hn0
 have hmo:=(Qas hz0).1
 simp only[]at hmo
 refine eN2 Tryz.func107 Tryz.ntmps107 ?_
 refine aU2 ?_
 refine oBx λb1 _=>?_
 refine oBx λb2 _=>?_
 refine aU6 ?_
 refine oCh rfl (λw1 h1=>Qtw w1 j mo rm a cap L (hs.later h1.nil) hB hkl h0) (λg9 hF9=>Zx ?_)
 refine sCd rfl (λh3=>?_) λh3=>?_
 ·refine aU4 ?_
  refine oCq rfl (λw1 h1=>c164 w1 j x hj hkk) (aU9 ?_)
  exact Qk (rs:=[.tmp 4,.tmp 5]) rfl (.tmp rfl (.tmp rfl (.nil))) (λw' h'=>⟨g9,rfl,hF9,h'.ent aEt⟩)
 exfalso;first|omega|(simp at h3;done)|(simp_all;done)
instance:TFn Tryz.prog 107:=⟨by kernel_rfl⟩
theorem Qp7:QY Tryz.prog 108=true:=by kernel_rfl
theorem QqR:QY Tryz.prog 109=true:=by kernel_rfl
instance:TFn Tryz.prog 110:=⟨by kernel_rfl⟩
theorem QvQ:QY Tryz.prog 112=true:=by kernel_rfl
theorem c45e(w:World)(co mo rm:Int)(a:Option Addr)(cap:Nat)(L:List LNd)(x:TEnt)(hs:Nt w [] a L)(hB:Bd (pln L))(hkl:∀i,i<L.length->∀x∈(nth L i).es,x.key.length<=1000000)(he:¬(XV (⟨co,mo,rm,pln L⟩:Tre)).2=0):CR 45 #[.agg #[.int .i64 co,.int .i64 mo,.int .i64 rm,.slice a L.length cap],.agg #[.string (bs x.key),.string (bs x.val)]] w (.tuple #[.agg #[.int .i64 0,.int .i64 0,.int .i64 0,.slice none 0 0],.slice none 0 0,.int .i64 (XV (⟨co,mo,rm,pln L⟩:Tre)).2]):=by
 refine eN2 Tryz.func45 Tryz.ntmps45 ?_
 refine aU2 ?_
 refine oBx λb1 _=>?_
 refine oBx λb2 _=>?_
 refine oAl (λb3 _=>?_) Xh
 refine aU7 ?_
 refine oCq rfl (λw1 h1=>Qwk w1 co mo rm a cap L x (hs.later h1.nil) hB hkl he) (Zx ?_)
 refine sCd rfl (λh4=>?_) λh4=>?_
 ·exfalso;first|omega|(simp at h4;done)|(simp_all;done)
 refine aU7 ?_
 refine sCd rfl (λh5=>?_) λh5=>?_
 ·refine aU2 ?_
  refine o_p (QF (cs:=[_,_,_,_]) rfl rfl ZP Xh rfl) rfl (aU5 ?_)
  exact Qk (rs:=[.cell 4 37,.tmp 5,.tmp 6]) rfl (.cell rfl XR aPk rfl (.tmp rfl (.tmp rfl (.nil)))) (λw' h'=>⟨rfl,h'.below⟩)
 exfalso;first|omega|(simp at h5;done)|(simp_all;done)
theorem c45x(w:World)(j:Nat)(mo rm:Int)(a:Option Addr)(cap:Nat)(L:List LNd)(x:TEnt)(hs:Nt w [] a L)(hB:Bd (pln L))(hkl:∀i,i<L.length->∀x∈(nth L i).es,x.key.length<=1000000)(hkk:x.key.length<=1000000)(h0:(XV (⟨(j:Int),mo,rm,pln L⟩:Tre)).2=0)(hx:¬Yu (j:Int) x=0):CR 45 #[.agg #[.int .i64 (j:Int),.int .i64 mo,.int .i64 rm,.slice a L.length cap],.agg #[.string (bs x.key),.string (bs x.val)]] w (.tuple #[.agg #[.int .i64 0,.int .i64 0,.int .i64 0,.slice none 0 0],.slice none 0 0,.int .i64 (Yu (j:Int) x)]):=by
 obtain⟨hc0,hz0,hl0,hl120,hn0,_,_⟩:=YJ h0
 rw[show((⟨(j:Int),mo,rm,pln L⟩:Tre)).ns=pln L from rfl,Qb]at hl0 hl120
 have hj:j<=3:=by obtain⟨j9,e9,hj9⟩:=ZD hc0;have e8:((j:Nat):Int)=(j9:Int):=e9;omega
 have hT:TOk (j:Int) (pln L):=Zp (t:=(⟨(j:Int),mo,rm,pln L⟩:Tre)) hn0
 have hmo:=(Qas hz0).1
 simp only[]at hmo
 refine eN2 Tryz.func45 Tryz.ntmps45 ?_
 refine aU2 ?_
 refine oBx λb1 _=>?_
 refine oBx λb2 _=>?_
 refine oAl (λb3 _=>?_) Xh
 refine aU7 ?_
 refine oCh rfl (λw1 h1=>QpZ w1 j mo rm a cap L x (hs.later h1.nil) hB hkl hkk h0) (λ⟨b9,⟨gn9,c9⟩,L9⟩hF9=>?_)
 dsimp only
 obtain⟨hL9,hn9,hm9⟩:=hF9
 simp only[]at hL9 hn9 hm9
 have hl9:L9.length=L.length:=by rw[<-Qb L9,hL9,Qb]
 have hB9:Bd (pln L9):=by rw[hL9];exact hB
 have hT9:TOk (j:Int) (pln L9):=by rw[hL9];exact hT
 have hK9:∀i,i<L9.length->∀y∈(nth L9 i).es,QW (j:Int) y.key=true/\y.key.length<=1000000:=λi hi y hy=>Qaw hT9 i (by rw[Qb];exact hi) y (by rw[Ql hi];exact hy)
 refine Zx ?_
 refine sCd rfl (λh4=>?_) λh4=>?_
 ·exfalso;first|omega|(simp at h4;done)|(simp_all;done)
 refine aU7 ?_
 refine sCd rfl (λh5=>?_) λh5=>?_
 ·refine aU2 ?_
  refine o_p (QF (cs:=[_,_,_,_]) rfl rfl ZP Xh rfl) rfl (aU5 ?_)
  exact Qk (rs:=[.cell 4 37,.tmp 5,.tmp 6]) rfl (.cell rfl XR aPk rfl (.tmp rfl (.tmp rfl (.nil)))) (λw' h'=>⟨rfl,h'.below⟩)
 exfalso;first|omega|(simp at h5;done)|(simp_all;done)
theorem c45c(w:World)(j:Nat)(mo rm:Int)(a:Option Addr)(cap:Nat)(L:List LNd)(x:TEnt)(hs:Nt w [] a L)(hB:Bd (pln L))(hkl:∀i,i<L.length->∀x∈(nth L i).es,x.key.length<=1000000)(h0:(XV (⟨(j:Int),mo,rm,pln L⟩:Tre)).2=0)(hkk:x.key.length<=1000000)(hx0:Yu (j:Int) x=0)(hins:¬(Qj (j:Int) (pln L) x.key).2.2=true->InsOk (j:Int) mo rm (pln L) x)(hx:¬(QdU (j:Int) mo rm (pln L) x)=0):CR 45 #[.agg #[.int .i64 (j:Int),.int .i64 mo,.int .i64 rm,.slice a L.length cap],.agg #[.string (bs x.key),.string (bs x.val)]] w (.tuple #[.agg #[.int .i64 0,.int .i64 0,.int .i64 0,.slice none 0 0],.slice none 0 0,.int .i64 (QdU (j:Int) mo rm (pln L) x)]):=by
 obtain⟨hc0,hz0,hl0,hl120,hn0,_,_⟩:=YJ h0
 rw[show((⟨(j:Int),mo,rm,pln L⟩:Tre)).ns=pln L from rfl,Qb]at hl0 hl120
 have hj:j<=3:=by obtain⟨j9,e9,hj9⟩:=ZD hc0;have e8:((j:Nat):Int)=(j9:Int):=e9;omega
 have hT:TOk (j:Int) (pln L):=Zp (t:=(⟨(j:Int),mo,rm,pln L⟩:Tre)) hn0
 have hmo:=(Qas hz0).1
 simp only[]at hmo
 have hkey:QW (j:Int) x.key=true:=QaV hx0
 refine eN2 Tryz.func45 Tryz.ntmps45 ?_
 refine aU2 ?_
 refine oBx λb1 _=>?_
 refine oBx λb2 _=>?_
 refine oAl (λb3 _=>?_) Xh
 refine aU7 ?_
 refine oCh rfl (λw1 h1=>QpZ w1 j mo rm a cap L x (hs.later h1.nil) hB hkl hkk h0) (λ⟨b9,⟨gn9,c9⟩,L9⟩hF9=>?_)
 dsimp only
 obtain⟨hL9,hn9,hm9⟩:=hF9
 simp only[]at hL9 hn9 hm9
 have hl9:L9.length=L.length:=by rw[<-Qb L9,hL9,Qb]
 have hB9:Bd (pln L9):=by rw[hL9];exact hB
 have hT9:TOk (j:Int) (pln L9):=by rw[hL9];exact hT
 have hK9:∀i,i<L9.length->∀y∈(nth L9 i).es,QW (j:Int) y.key=true/\y.key.length<=1000000:=λi hi y hy=>Qaw hT9 i (by rw[Qb];exact hi) y (by rw[Ql hi];exact hy)
 refine Zx ?_
 refine sCd rfl (λh4=>?_) λh4=>?_
 ·refine aU3 ?_
  refine o_h (QM (Cs:=[.blk b9 166 6 (tbV (j:Int) mo rm (some ⟨gn9,0,none⟩) (L9).length c9),.blk gn9 69 (c9*3) ((L9).flatMap LNd.vals),.star ((L9).map (Qs 27))]) rfl Qp7 rfl aPs (λw1 h1 hf=>c108 w1 b9 j mo rm gn9 c9 L9 x hf hn9 hm9 hj om hB9 hT9 hkey (by rw[hL9];exact hins))) rfl (λ⟨⟨g5,c5⟩,L5⟩hF5=>?_)
  dsimp only
  refine Qh (show _=Value.int .i64 (QdU (j:Int) mo rm (pln L) x)from by rw[hL9]) (aU8 ?_)
  refine sCd rfl (λh5=>?_) λh5=>?_
  ·refine aU2 ?_
   refine o_p (QF (cs:=[_,_,_,_]) rfl rfl ZP Xh rfl) rfl (aU5 ?_)
   exact Qk (rs:=[.cell 4 37,.tmp 5,.tmp 6]) rfl (.cell rfl XR aPk rfl (.tmp rfl (.tmp rfl (.nil)))) (λw' h'=>⟨rfl,h'.below⟩)
  exfalso;first|omega|(simp at h5;done)|(simp_all;done)
 exfalso;first|omega|(simp at h4;done)|(simp_all;done)
theorem c45o(w:World)(j:Nat)(mo rm:Int)(a:Option Addr)(cap:Nat)(L:List LNd)(x:TEnt)(hs:Nt w [] a L)(hB:Bd (pln L))(hkl:∀i,i<L.length->∀x∈(nth L i).es,x.key.length<=1000000)(h0:(XV (⟨(j:Int),mo,rm,pln L⟩:Tre)).2=0)(hkk:x.key.length<=1000000)(hx0:Yu (j:Int) x=0)(hins:¬(Qj (j:Int) (pln L) x.key).2.2=true->InsOk (j:Int) mo rm (pln L) x)(hx:(QdU (j:Int) mo rm (pln L) x)=0)(hso:Sm 100000 (QaQ (j:Int) mo rm (pln L) x)):CE 45 #[.agg #[.int .i64 (j:Int),.int .i64 mo,.int .i64 rm,.slice a L.length cap],.agg #[.string (bs x.key),.string (bs x.val)]] w [] (λg:((Nat×Nat)×List LNd)×(Option Addr×Nat)=>.tuple #[.agg #[.int .i64 (j:Int),.int .i64 mo,.int .i64 rm,.slice (some ⟨g.1.1.1,0,none⟩) g.1.2.length g.1.1.2],.slice g.2.1 (QbN (pln L) (QaQ (j:Int) mo rm (pln L) x)).length g.2.2,.int .i64 0]) (λg=>pln g.1.2=(QaQ (j:Int) mo rm (pln L) x)) λg=>[.nodes 27 69 (some ⟨g.1.1.1,0,none⟩) g.1.1.2 g.1.2,.own (.slice g.2.1 ((QbN (pln L) (QaQ (j:Int) mo rm (pln L) x))).length g.2.2) 3 1 ((QbN (pln L) (QaQ (j:Int) mo rm (pln L) x))).length (((QbN (pln L) (QaQ (j:Int) mo rm (pln L) x))).map λi:Nat=>Value.int .i64 (i:Int))]:=by
 obtain⟨hc0,hz0,hl0,hl120,hn0,_,_⟩:=YJ h0
 rw[show((⟨(j:Int),mo,rm,pln L⟩:Tre)).ns=pln L from rfl,Qb]at hl0 hl120
 have hj:j<=3:=by obtain⟨j9,e9,hj9⟩:=ZD hc0;have e8:((j:Nat):Int)=(j9:Int):=e9;omega
 have hT:TOk (j:Int) (pln L):=Zp (t:=(⟨(j:Int),mo,rm,pln L⟩:Tre)) hn0
 have hmo:=(Qas hz0).1
 simp only[]at hmo
 have hkey:QW (j:Int) x.key=true:=QaV hx0
 obtain⟨hnf,h120⟩:=Qut hx
 refine eN2 Tryz.func45 Tryz.ntmps45 ?_
 refine aU2 ?_
 refine oBx λb1 _=>?_
 refine oBx λb2 _=>?_
 refine oAl (λb3 _=>?_) Xh
 refine aU7 ?_
 refine oCh rfl (λw1 h1=>QpZ w1 j mo rm a cap L x (hs.later h1.nil) hB hkl hkk h0) (λ⟨b9,⟨gn9,c9⟩,L9⟩hF9=>?_)
 dsimp only
 obtain⟨hL9,hn9,hm9⟩:=hF9
 simp only[]at hL9 hn9 hm9
 have hl9:L9.length=L.length:=by rw[<-Qb L9,hL9,Qb]
 have hB9:Bd (pln L9):=by rw[hL9];exact hB
 have hT9:TOk (j:Int) (pln L9):=by rw[hL9];exact hT
 have hK9:∀i,i<L9.length->∀y∈(nth L9 i).es,QW (j:Int) y.key=true/\y.key.length<=1000000:=λi hi y hy=>Qaw hT9 i (by rw[Qb];exact hi) y (by rw[Ql hi];exact hy)
 refine Zx ?_
 refine sCd rfl (λh4=>?_) λh4=>?_
 ·refine aU3 ?_
  refine o_h (QM (Cs:=[.blk b9 166 6 (tbV (j:Int) mo rm (some ⟨gn9,0,none⟩) (L9).length c9),.blk gn9 69 (c9*3) ((L9).flatMap LNd.vals),.star ((L9).map (Qs 27))]) rfl Qp7 rfl aPs (λw1 h1 hf=>c108 w1 b9 j mo rm gn9 c9 L9 x hf hn9 hm9 hj om hB9 hT9 hkey (by rw[hL9];exact hins))) rfl (λ⟨⟨g5,c5⟩,L5⟩hF5=>?_)
  dsimp only
  refine Qh (show _=Value.int .i64 (QdU (j:Int) mo rm (pln L) x)from by rw[hL9]) ?_
  rw[hL9]at hF5
  obtain⟨hL5,hn5,hm5⟩:=hF5
  simp only[]at hL5 hn5 hm5
  have hl5:L5.length=(QaQ (j:Int) mo rm (pln L) x).length:=by rw[<-hL5,Qb]
  refine aU8 ?_
  refine sCd rfl (λh5=>?_) λh5=>?_
  ·exfalso;first|omega|(simp at h5;done)|(simp_all;done)
  refine aU2 ?_
  refine Qt [12] QC ?_
  refine dP 0 ?_
  refine dP 1 ?_
  refine dFa 2 ?_
  refine dLn 3 [[]] ?_
  refine dFa 4 ?_
  refine dLd 5 [[11]] ?_
  refine dP 6 ?_
  refine dP 7 ?_
  refine dFa 8 ?_
  refine dFa 9 ?_
  refine dLd 10 [[11]] ?_
  refine dH 11 rfl (Yi rfl QqR rfl (λw1 h1=>c109 w1 a (some ⟨g5,0,none⟩) cap c5 L L5 (hs.later h1.nil) (HS.nt_at h1 aPk aPk) om om (Qtv hB) (by rw[hL5];exact hso))) (λ⟨qa,qc⟩_=>dBa ?_)
  refine dSt 12 ?_ (hl:=(by simp only[Qm,List.length_set,List.length_cons,List.length_nil,List.length_map];omega))
  refine dTu [] ?_
  refine dP 13 ?_
  refine dP 14 ?_
  refine dNi ?_
  exact Qk (rs:=[.cell 4 37,.tmp 5,.tmp 6]) rfl (.cell rfl XR aPk rfl (.tmp rfl (.tmp rfl (.nil)))) (λw' h'=>⟨(((g5,c5),L5),(qa,qc)),by simp only[Xf];rw[<-hL5];rfl,hL5,by rw[<-hL5];exact(QdV (h'.ent (Bs:=[.blk g5 69 (c5*3) (L5.flatMap LNd.vals),.star (L5.map (Qs 27)),.own (.slice qa ((QbN (pln L) (pln L5))).length qc) 3 1 ((QbN (pln L) (pln L5))).length (((QbN (pln L) (pln L5))).map λi:Nat=>Value.int .i64 (i:Int))]) aEt) hn5 hm5)⟩)
 exfalso;first|omega|(simp at h4;done)|(simp_all;done)
theorem c46x(w:World)(j:Nat)(mo rm:Int)(a:Option Addr)(cap:Nat)(L:List LNd)(key:List UInt8)(hs:Nt w [] a L)(hB:Bd (pln L))(hkl:∀i,i<L.length->∀x∈(nth L i).es,x.key.length<=1000000)(hkk:key.length<=1000000)(h0:(XV (⟨(j:Int),mo,rm,pln L⟩:Tre)).2=0)(hx:¬X3 (j:Int) key=0):CR 46 #[.agg #[.int .i64 (j:Int),.int .i64 mo,.int .i64 rm,.slice a L.length cap],.string (bs key)] w (.tuple #[.agg #[.int .i64 0,.int .i64 0,.int .i64 0,.slice none 0 0],.slice none 0 0,.int .i64 (X3 (j:Int) key)]):=by
 obtain⟨hc0,hz0,hl0,hl120,hn0,_,_⟩:=YJ h0
 rw[show((⟨(j:Int),mo,rm,pln L⟩:Tre)).ns=pln L from rfl,Qb]at hl0 hl120
 have hj:j<=3:=by obtain⟨j9,e9,hj9⟩:=ZD hc0;have e8:((j:Nat):Int)=(j9:Int):=e9;omega
 have hT:TOk (j:Int) (pln L):=Zp (t:=(⟨(j:Int),mo,rm,pln L⟩:Tre)) hn0
 have hmo:=(Qas hz0).1
 simp only[]at hmo
 refine eN2 Tryz.func46 Tryz.ntmps46 ?_
 refine aU2 ?_
 refine oBx λb1 _=>?_
 refine oAl (λb2 _=>?_) Xh
 refine aU7 ?_
 refine oCh rfl (λw1 h1=>QrN w1 j mo rm a cap L key (hs.later h1.nil) hB hkl hkk h0) (λ⟨b9,⟨gn9,c9⟩,L9⟩hF9=>?_)
 dsimp only
 obtain⟨hL9,hn9,hm9⟩:=hF9
 simp only[]at hL9 hn9 hm9
 have hl9:L9.length=L.length:=by rw[<-Qb L9,hL9,Qb]
 have hB9:Bd (pln L9):=by rw[hL9];exact hB
 have hT9:TOk (j:Int) (pln L9):=by rw[hL9];exact hT
 have hK9:∀i,i<L9.length->∀y∈(nth L9 i).es,QW (j:Int) y.key=true/\y.key.length<=1000000:=λi hi y hy=>Qaw hT9 i (by rw[Qb];exact hi) y (by rw[Ql hi];exact hy)
 refine Zx ?_
 refine sCd rfl (λh3=>?_) λh3=>?_
 ·refine aU2 ?_
  refine o_p (QF (cs:=[_,_,_,_]) rfl rfl ZP Xh rfl) rfl (aU5 ?_)
  exact Qk (rs:=[.cell 4 37,.tmp 5,.tmp 6]) rfl (.cell rfl XR aPk rfl (.tmp rfl (.tmp rfl (.nil)))) (λw' h'=>⟨rfl,h'.below⟩)
 exfalso;first|omega|(simp at h3;done)|(simp_all;done)
theorem c46m(w:World)(j:Nat)(mo rm:Int)(a:Option Addr)(cap:Nat)(L:List LNd)(key:List UInt8)(hs:Nt w [] a L)(hB:Bd (pln L))(hkl:∀i,i<L.length->∀x∈(nth L i).es,x.key.length<=1000000)(h0:(XV (⟨(j:Int),mo,rm,pln L⟩:Tre)).2=0)(hkk:key.length<=1000000)(hx0:X3 (j:Int) key=0)(hx:¬(Qj (j:Int) (pln L) key).2.2=true):CR 46 #[.agg #[.int .i64 (j:Int),.int .i64 mo,.int .i64 rm,.slice a L.length cap],.string (bs key)] w (.tuple #[.agg #[.int .i64 0,.int .i64 0,.int .i64 0,.slice none 0 0],.slice none 0 0,.int .i64 6]):=by
 obtain⟨hc0,hz0,hl0,hl120,hn0,_,_⟩:=YJ h0
 rw[show((⟨(j:Int),mo,rm,pln L⟩:Tre)).ns=pln L from rfl,Qb]at hl0 hl120
 have hj:j<=3:=by obtain⟨j9,e9,hj9⟩:=ZD hc0;have e8:((j:Nat):Int)=(j9:Int):=e9;omega
 have hT:TOk (j:Int) (pln L):=Zp (t:=(⟨(j:Int),mo,rm,pln L⟩:Tre)) hn0
 have hmo:=(Qas hz0).1
 simp only[]at hmo
 have hkey:QW (j:Int) key=true:=keyE_ok hx0
 refine eN2 Tryz.func46 Tryz.ntmps46 ?_
 refine aU2 ?_
 refine oBx λb1 _=>?_
 refine oAl (λb2 _=>?_) Xh
 refine aU7 ?_
 refine oCh rfl (λw1 h1=>QrN w1 j mo rm a cap L key (hs.later h1.nil) hB hkl hkk h0) (λ⟨b9,⟨gn9,c9⟩,L9⟩hF9=>?_)
 dsimp only
 obtain⟨hL9,hn9,hm9⟩:=hF9
 simp only[]at hL9 hn9 hm9
 have hl9:L9.length=L.length:=by rw[<-Qb L9,hL9,Qb]
 have hB9:Bd (pln L9):=by rw[hL9];exact hB
 have hT9:TOk (j:Int) (pln L9):=by rw[hL9];exact hT
 have hK9:∀i,i<L9.length->∀y∈(nth L9 i).es,QW (j:Int) y.key=true/\y.key.length<=1000000:=λi hi y hy=>Qaw hT9 i (by rw[Qb];exact hi) y (by rw[Ql hi];exact hy)
 refine Zx ?_
 refine sCd rfl (λh3=>?_) λh3=>?_
 ·exfalso;first|omega|(simp at h3;done)|(simp_all;done)
 refine aU5 ?_
 refine oCh rfl (λw1 h1=>QvB w1 b9 j mo rm (some ⟨gn9,0,none⟩) c9 L9 key hj om hB9 hT9 hK9 hkey hkk (HS.nt_at h1 aPk aPk) (HS.tbr h1 aPk)) (λ⟨pa,pc⟩_=>?_)
 dsimp only
 rw[hL9]
 refine QeV ?_
 refine sCd rfl (λh4=>?_) λh4=>?_
 ·refine aU2 ?_
  refine o_p (QF (cs:=[_,_,_,_]) rfl rfl ZP Xh rfl) rfl (aU4 ?_)
  exact Qk (rs:=[.cell 4 37,.tmp 5,.tmp 6]) rfl (.cell rfl XR aPk rfl (.tmp rfl (.tmp rfl (.nil)))) (λw' h'=>⟨rfl,h'.below⟩)
 exfalso;first|omega|(simp at h4;done)|(simp_all;done)
theorem c46o(w:World)(j:Nat)(mo rm:Int)(a:Option Addr)(cap:Nat)(L:List LNd)(key:List UInt8)(hs:Nt w [] a L)(hB:Bd (pln L))(hkl:∀i,i<L.length->∀x∈(nth L i).es,x.key.length<=1000000)(h0:(XV (⟨(j:Int),mo,rm,pln L⟩:Tre)).2=0)(hkk:key.length<=1000000)(hx0:X3 (j:Int) key=0)(hx:(Qj (j:Int) (pln L) key).2.2=true)(hrm:RemOk mo rm (pln L) (Qj (j:Int) (pln L) key).1 (Qj (j:Int) (pln L) key).2.1)(hso:Sm 100000 (Qbv mo rm (pln L) (Qj (j:Int) (pln L) key).1 (Qj (j:Int) (pln L) key).2.1))(hlo:(Qbv mo rm (pln L) (Qj (j:Int) (pln L) key).1 (Qj (j:Int) (pln L) key).2.1).length<=1000):CE 46 #[.agg #[.int .i64 (j:Int),.int .i64 mo,.int .i64 rm,.slice a L.length cap],.string (bs key)] w [] (λg:((Nat×Nat)×List LNd)×(Option Addr×Nat)=>.tuple #[.agg #[.int .i64 (j:Int),.int .i64 mo,.int .i64 rm,.slice (some ⟨g.1.1.1,0,none⟩) g.1.2.length g.1.1.2],.slice g.2.1 (QbN (pln L) (Qbv mo rm (pln L) (Qj (j:Int) (pln L) key).1 (Qj (j:Int) (pln L) key).2.1)).length g.2.2,.int .i64 0]) (λg=>pln g.1.2=(Qbv mo rm (pln L) (Qj (j:Int) (pln L) key).1 (Qj (j:Int) (pln L) key).2.1)) λg=>[.nodes 27 69 (some ⟨g.1.1.1,0,none⟩) g.1.1.2 g.1.2,.own (.slice g.2.1 ((QbN (pln L) (Qbv mo rm (pln L) (Qj (j:Int) (pln L) key).1 (Qj (j:Int) (pln L) key).2.1))).length g.2.2) 3 1 ((QbN (pln L) (Qbv mo rm (pln L) (Qj (j:Int) (pln L) key).1 (Qj (j:Int) (pln L) key).2.1))).length (((QbN (pln L) (Qbv mo rm (pln L) (Qj (j:Int) (pln L) key).1 (Qj (j:Int) (pln L) key).2.1))).map λi:Nat=>Value.int .i64 (i:Int))]:=by
 obtain⟨hc0,hz0,hl0,hl120,hn0,_,_⟩:=YJ h0
 rw[show((⟨(j:Int),mo,rm,pln L⟩:Tre)).ns=pln L from rfl,Qb]at hl0 hl120
 have hj:j<=3:=by obtain⟨j9,e9,hj9⟩:=ZD hc0;have e8:((j:Nat):Int)=(j9:Int):=e9;omega
 have hT:TOk (j:Int) (pln L):=Zp (t:=(⟨(j:Int),mo,rm,pln L⟩:Tre)) hn0
 have hmo:=(Qas hz0).1
 simp only[]at hmo
 have hkey:QW (j:Int) key=true:=keyE_ok hx0
 refine eN2 Tryz.func46 Tryz.ntmps46 ?_
 refine aU2 ?_
 refine oBx λb1 _=>?_
 refine oAl (λb2 _=>?_) Xh
 refine aU7 ?_
 refine oCh rfl (λw1 h1=>QrN w1 j mo rm a cap L key (hs.later h1.nil) hB hkl hkk h0) (λ⟨b9,⟨gn9,c9⟩,L9⟩hF9=>?_)
 dsimp only
 obtain⟨hL9,hn9,hm9⟩:=hF9
 simp only[]at hL9 hn9 hm9
 have hl9:L9.length=L.length:=by rw[<-Qb L9,hL9,Qb]
 have hB9:Bd (pln L9):=by rw[hL9];exact hB
 have hT9:TOk (j:Int) (pln L9):=by rw[hL9];exact hT
 have hK9:∀i,i<L9.length->∀y∈(nth L9 i).es,QW (j:Int) y.key=true/\y.key.length<=1000000:=λi hi y hy=>Qaw hT9 i (by rw[Qb];exact hi) y (by rw[Ql hi];exact hy)
 refine Zx ?_
 refine sCd rfl (λh3=>?_) λh3=>?_
 ·exfalso;first|omega|(simp at h3;done)|(simp_all;done)
 refine aU5 ?_
 refine oCh rfl (λw1 h1=>QvB w1 b9 j mo rm (some ⟨gn9,0,none⟩) c9 L9 key hj om hB9 hT9 hK9 hkey hkk (HS.nt_at h1 aPk aPk) (HS.tbr h1 aPk)) (λ⟨pa,pc⟩_=>?_)
 dsimp only
 rw[hL9]
 refine QeV ?_
 refine sCd rfl (λh4=>?_) λh4=>?_
 ·exfalso;first|omega|(simp at h4;done)|(simp_all;done)
 refine aU6 ?_
 refine o_h (QM (Cs:=[.blk b9 166 6 (tbV (j:Int) mo rm (some ⟨gn9,0,none⟩) (L9).length c9),.blk gn9 69 (c9*3) ((L9).flatMap LNd.vals),.star ((L9).map (Qs 27)),.kids pa pc (iN (Qj (j:Int) (pln L) key).1)]) rfl QvQ rfl aPs (λw1 h1 hf=>c112 w1 b9 j mo rm gn9 c9 L9 (Qj (j:Int) (pln L) key).1 pa pc (Qj (j:Int) (pln L) key).2.1 hf hn9 hm9 (by rw[hL9];exact hrm))) rfl (λ⟨⟨g5,c5⟩,L5⟩hF5=>aU2 ?_)
 refine Qg (L':=[(2,_),(4,_),(5,_),(6,_),(7,_)]) aSx (λ_ h=>h) ?_
 dsimp only
 rw[hL9]at hF5
 obtain⟨hL5,hn5,hm5⟩:=hF5
 simp only[]at hL5 hn5 hm5
 have hl5:L5.length=(Qbv mo rm (pln L) (Qj (j:Int) (pln L) key).1 (Qj (j:Int) (pln L) key).2.1).length:=by rw[<-hL5,Qb]
 refine Qt [12] QC ?_
 refine dP 0 ?_
 refine dP 1 ?_
 refine dFa 2 ?_
 refine dLn 3 [[]] ?_
 refine dFa 4 ?_
 refine dLd 5 [[11]] ?_
 refine dP 6 ?_
 refine dP 7 ?_
 refine dFa 8 ?_
 refine dFa 9 ?_
 refine dLd 10 [[11]] ?_
 refine dH 11 rfl (Yi rfl QqR rfl (λw1 h1=>c109 w1 a (some ⟨g5,0,none⟩) cap c5 L L5 (hs.later h1.nil) (HS.nt_at h1 aPk aPk) om om (Qtv hB) (by rw[hL5];exact hso))) (λ⟨qa,qc⟩_=>dBa ?_)
 refine dSt 12 ?_ (hl:=(by simp only[Qm,List.length_set,List.length_cons,List.length_nil,List.length_map];omega))
 refine dTu [] ?_
 refine dP 13 ?_
 refine dP 14 ?_
 refine dNi ?_
 exact Qk (rs:=[.cell 4 37,.tmp 5,.tmp 6]) rfl (.cell rfl XR aPk rfl (.tmp rfl (.tmp rfl (.nil)))) (λw' h'=>⟨(((g5,c5),L5),(qa,qc)),by simp only[Xf];rw[<-hL5];rfl,hL5,by rw[<-hL5];exact(QdV (h'.ent (Bs:=[.blk g5 69 (c5*3) (L5.flatMap LNd.vals),.star (L5.map (Qs 27)),.own (.slice qa ((QbN (pln L) (pln L5))).length qc) 3 1 ((QbN (pln L) (pln L5))).length (((QbN (pln L) (pln L5))).map λi:Nat=>Value.int .i64 (i:Int))]) aEt) hn5 hm5)⟩)
theorem Qpd:QY Tryz.prog 181=true:=by kernel_rfl
instance:TFn Tryz.prog 224:=⟨by kernel_rfl⟩
theorem QoH:QY Tryz.prog 179=true:=by kernel_rfl
theorem QuD:QY Tryz.prog 225=true:=by kernel_rfl
theorem c180(w:World)(bt:Nat)(j:Nat)(mo rm:Int)(gn cap:Nat)(L:List LNd)(p i:Nat)(hw:HS w (fps [.blk bt 37 4 [.int .i64 (j:Int),.int .i64 mo,.int .i64 rm,.slice (some ⟨gn,0,none⟩) (L).length cap],.blk gn 69 (cap*3) ((L).flatMap LNd.vals),.star ((L).map (Qs 27))]) [.blk bt 37 4 [.int .i64 (j:Int),.int .i64 mo,.int .i64 rm,.slice (some ⟨gn,0,none⟩) (L).length cap],.blk gn 69 (cap*3) ((L).flatMap LNd.vals),.star ((L).map (Qs 27))] w)(hnc:L.length<=cap)(hcm:cap<=maxLen)(hok:SpROk mo (pln L) p i):CE 180 #[.pointer (some ⟨bt,0,none⟩),.int .i64 (p:Int),.int .i64 (i:Int)] w (fps [.blk bt 37 4 [.int .i64 (j:Int),.int .i64 mo,.int .i64 rm,.slice (some ⟨gn,0,none⟩) (L).length cap],.blk gn 69 (cap*3) ((L).flatMap LNd.vals),.star ((L).map (Qs 27))]) (λg:(Nat×Nat)×List LNd=>.tuple #[]) (λg=>(pln g.2=Qiz mo (pln L) p i/\g.2.length<=g.1.2/\g.1.2<=maxLen)) λg=>[.blk bt 37 4 [.int .i64 (j:Int),.int .i64 mo,.int .i64 rm,.slice (some ⟨g.1.1,0,none⟩) (g.2).length g.1.2],.blk g.1.1 69 (g.1.2*3) ((g.2).flatMap LNd.vals),.star ((g.2).map (Qs 27))]:=by
 have hlt0:=hok.lt
 have hln0:=hok.len
 have hpl0:=hok.par
 rw[Qb]at hlt0 hln0 hpl0
 have hmo:=hok.mo0
 have hes0:=hok.es
 have hcs0:=hok.cs
 have hne:=Qtn hok.lt hok.us
 have hfn:=QpK hok.lt hne
 have hfl:=Qmd (pln L)
 have hfl2:=QjF (pln L)
 rw[Qb]at hfl2
 have hparE:=hok.parE
 have hparC:=hok.parC
 have hsA:=hok.sm.splRA mo i
 refine eW3 Tryz.func180 Tryz.ntmps180 hw ?_
 refine aU3 ?_
 refine o_h (QM (Cs:=[.blk bt 37 4 [.int .i64 (j:Int),.int .i64 mo,.int .i64 rm,.slice (some ⟨gn,0,none⟩) (L).length cap],.blk gn 69 (cap*3) ((L).flatMap LNd.vals),.star ((L).map (Qs 27))]) rfl Qpd rfl aPs (λw1 h1 hf=>c181 w1 bt j mo rm gn cap L hf hnc hcm om om)) rfl (λ⟨⟨gn1,cap1⟩,L1⟩hF1=>?_)
 dsimp only
 obtain⟨hL1,hn1,hm1⟩:=hF1
 simp only[]at hL1 hn1 hm1
 have hl1:L1.length=(Xx (pln L)).2.length:=by rw[<-hL1,Qb]
 have hi1:i<L1.length:=om
 have ho1:(Xx (pln L)).1<L1.length:=om
 have hN1:(nth L1 i).pl=nth (pln L) i:=by rw[<-Ql hi1,hL1,hfn]
 have hE1:(nth L1 i).es=(nth (pln L) i).es:=congrArg Nd.es hN1
 have hC1:(nth L1 i).cs=(nth (pln L) i).cs:=congrArg Nd.cs hN1
 have hsm1:(QD mo)<(nth L1 i).es.length:=by rw[hE1];exact hes0
 have hsE1:=(hok.sm i).1
 rw[<-hE1]at hsE1
 have hsC1:=(hok.sm i).2
 rw[<-hC1]at hsC1
 rw[<-hC1]at hcs0
 have hxF:nth (Xx (pln L)).2 i=(nth L1 i).pl:=by rw[hfn,hN1]
 refine aU9 ?_
 refine o_p (Qa rfl rfl rfl Qw (i) om om rfl) rfl (Qh (show _=Value.pointer (some ⟨gn1,i*3,none⟩)from by rw[Nat.zero_add]) (o_q (X6 _ rfl rfl Xs rfl (λw h=>HS.nd_cells hi1 h aPk)) rfl (oAl (λb1 _=>?_) Xj)))
 refine aT9 ?_
 refine o_p (XQ rfl rfl rfl om om om) rfl (Qh (show _=Value.int .i64 ((QD mo):Int)from by unfold QD;congr 1;omega) (aU6 ?_))
 refine Xm (λw h=>HS.es_some hi1 om h aPk) λhge=>?_
 obtain⟨ge,hge⟩:=hge
 refine Xm (λw h=>HS.es_room hi1 h aPk) λhrE=>Xm (λw h=>HS.cs_room hi1 h aPk) λhrC=>aU ?_
 refine o_p (Qa rfl rfl rfl QN ((QD mo)) om om hge) rfl (o_q (X6 _ rfl rfl Yk rfl (λw h=>HS.es_rd hi1 hsm1 hge h aPk)) rfl (oAl (λb2 _=>?_) XH))
 refine aU3 ?_
 refine Qbe [.blk bt 37 4 [.int .i64 (j:Int),.int .i64 mo,.int .i64 rm,.slice (some ⟨gn1,0,none⟩) L1.length cap1],.blk gn1 69 (cap1*3) (L1.flatMap LNd.vals),.star (L1.map (Qs 27)),.blk b1 69 3 (LNd.vals (nth L1 i)),.blk b2 27 2 (TEnt.vals (nth (nth L1 i).es (QD mo)))] [14] QC ?_
 refine dP 0 ?_
 refine dP 1 ?_
 refine dFa 2 ?_
 refine dLd 3 [[]] ?_
 refine dP 4 ?_
 refine dFa 6 ?_
 refine dLd 7 [[]] ?_
 refine dP 8 ?_
 refine dP 9 ?_
 try refine dWr ?_
 refine dV 10 rfl (QG _ _ ((QD mo)+1) ((nth L1 i).es.length) rfl rfl QN ⟨_,_,rfl,om⟩ rfl om om) (dH 5 rfl (XK rfl QN) (λb3 _=>dH 11 rfl (QL (((nth L1 i).es.drop ((QD mo)+1)).flatMap TEnt.vals) rfl rfl rfl QN Tryz.underlying67 XH rfl aPk (λw h=>Rw.src ev2 (Rw.cut (HS.es_row hi1 h aPk) hrE.1) (HS.refl _ [])) (by rw[Qi ev2,List.length_drop]) (XZ ev1 _) om (by simp only[maxLen];omega)) (λb4 _=>dV 12 rfl (Qa rfl rfl rfl Qw ((Xx (pln L)).1) om om rfl) (Qr (show _=Value.pointer (some ⟨gn1,(Xx (pln L)).1*3,none⟩)from by rw[Nat.zero_add]) (dFa 13 ?_)))))
 refine dSt 14 ?_ (hl:=(by rw[Qi nv3];show _+1<=_;omega))
 refine dTu [] ?_
 refine dNi ?_
 refine aU ?_
 refine Qg (L':=[(0,_),(1,_),(2,_),(6,_),(7,_),(8,_),(9,_)]) aSx (λ_ h=>h) ?_
 refine Qhl (λw h=>HS.es_setN (gn:=gn1) (cap:=cap1) (ea:=b4.1) (ec:=b4.2) (es:=(nth L1 i).es.drop ((QD mo)+1)) (n:=0+((nth L1 i).es.length-((QD mo)+1))) (xs:=[]++((nth L1 i).es.drop ((QD mo)+1)).flatMap TEnt.vals) ho1 (by rw[List.length_drop,Nat.zero_add]) (by rw[List.nil_append]) h aPk aPk aPk) λL2=>?_
 refine Xp (λw h=>h.1) λhS2=>XG (λw h=>h.2) ?_
 have hi2:i<L2.length:=by rw[hS2.len];exact hi1
 have hN2:nth L2 i=nth L1 i:=hS2.other hi1 hne
 refine Qbe [.blk bt 37 4 [.int .i64 (j:Int),.int .i64 mo,.int .i64 rm,.slice (some ⟨gn1,0,none⟩) L1.length cap1],.blk gn1 69 (cap1*3) (L2.flatMap LNd.vals),.star (L2.map (Qs 27)),.blk b1 69 3 (LNd.vals (nth L1 i)),.blk b2 27 2 (TEnt.vals (nth (nth L1 i).es (QD mo)))] [13] QC ?_
 refine dP 0 ?_
 refine dP 1 ?_
 refine dFa 2 ?_
 refine dLd 3 [[]] ?_
 refine dP 4 ?_
 refine dFa 6 ?_
 refine dLd 7 [[]] ?_
 refine dP 8 ?_
 refine dV 9 rfl (QG _ _ 0 (QD mo) rfl rfl QN rfl ⟨_,_,rfl,rfl⟩ om om) (dH 5 rfl (XK rfl QN) (λb5 _=>dH 10 rfl (QL (((nth L1 i).es.take (QD mo)).flatMap TEnt.vals) rfl rfl rfl QN Tryz.underlying67 XH rfl aPk (λw h=>Rw.src ev2 (QfC (Rw.cut (i:=0) (hN2▸HS.es_row hi2 h aPk) hrE.1) (QD mo)) (HS.refl _ [])) (by rw[Qi ev2,List.length_take];omega) (XZ ev1 _) om (by simp only[maxLen];omega)) (λb6 _=>dV 11 rfl (Qa rfl rfl rfl Qw (i) om om rfl) (Qr (show _=Value.pointer (some ⟨gn1,i*3,none⟩)from by rw[Nat.zero_add]) (dFa 12 ?_)))))
 refine dSt 13 ?_ (hl:=(by rw[Qi nv3];show _+1<=_;omega))
 refine dTu [] ?_
 refine dNi ?_
 refine aU4 ?_
 refine QaX (λw h=>HS.es_setN (gn:=gn1) (cap:=cap1) (ea:=b6.1) (ec:=b6.2) (es:=(nth L1 i).es.take (QD mo)) (n:=0+((QD mo)-0)) (xs:=[]++((nth L1 i).es.take (QD mo)).flatMap TEnt.vals) hi2 (by rw[List.length_take];omega) (by rw[List.nil_append]) h aPk aPk aPk) λL3=>?_
 refine Xm (λw h=>h.1) λhS3=>QQ (λw h=>h.2) ?_
 have hi3:i<L3.length:=by rw[hS3.len];exact hi2
 have ho3:(Xx (pln L)).1<L3.length:=by rw[hS3.len,hS2.len];exact ho1
 have hcr3:(nth L3 i).ca=(nth L1 i).ca/\(nth L3 i).cc=(nth L1 i).cc/\(nth L3 i).cs=(nth L1 i).cs:=by rw[hS3.at_,hN2];exact⟨rfl,rfl,rfl⟩
 refine aU4 ?_
 refine Qg (L':=[(0,_),(1,_),(2,_),(6,_),(7,_),(8,_),(9,_),(61,_)]) aSx (λ_ h=>h) ?_
 refine XY (α:=List LNd) [62,63,64,65,66,67,68,69,70,71,72,73,74,75,76,77,78,79,80,81,82,83,84,85,86,87,88,89] (λ_=>[]) (λx=>HS w (fps [.blk bt 37 4 [.int .i64 (j:Int),.int .i64 mo,.int .i64 rm,.slice (some ⟨gn,0,none⟩) (L).length cap],.blk gn 69 (cap*3) ((L).flatMap LNd.vals),.star ((L).map (Qs 27))]) [.blk bt 37 4 [.int .i64 (j:Int),.int .i64 mo,.int .i64 rm,.slice (some ⟨gn1,0,none⟩) (x).length cap1],.blk gn1 69 (cap1*3) ((x).flatMap LNd.vals),.star ((x).map (Qs 27)),.blk b2 27 2 (TEnt.vals (nth (nth L1 i).es (QD mo)))]) (λx=>pln x=(splRA mo (pln L) i)/\x.length=L1.length) ?_ ?_
 ·skip
  refine sCd rfl (λh7=>?_) λh7=>?_
  ·have hcz:(nth L1 i).cs.length≠0:=by have hq:=h7;omega
   have hsm4:(QD mo)+1<=(nth L1 i).cs.length:=om
   refine aU ?_
   refine Qbe [.blk bt 37 4 [.int .i64 (j:Int),.int .i64 mo,.int .i64 rm,.slice (some ⟨gn1,0,none⟩) L1.length cap1],.blk gn1 69 (cap1*3) (L3.flatMap LNd.vals),.star (L3.map (Qs 27)),.blk b1 69 3 (LNd.vals (nth L1 i)),.blk b2 27 2 (TEnt.vals (nth (nth L1 i).es (QD mo)))] [14] QC ?_
   refine dP 0 ?_
   refine dP 1 ?_
   refine dFa 2 ?_
   refine dLd 3 [[]] ?_
   refine dP 4 ?_
   refine dFa 6 ?_
   refine dLd 7 [[]] ?_
   refine dP 8 ?_
   refine dP 9 ?_
   try refine dWr ?_
   refine dV 10 rfl (QG _ _ ((QD mo)+1) ((nth L1 i).cs.length) rfl rfl QA ⟨_,_,rfl,om⟩ rfl om om) (dH 5 rfl (XK rfl QA) (λb8 _=>dH 11 rfl (QL (((nth L1 i).cs.drop ((QD mo)+1)).flatMap inV) rfl rfl rfl QA Tryz.underlying28 Yp rfl aPk (λw h=>Rw.src iv1 (Rw.cut (Qmg hcr3 (HS.cs_row hi3 h aPk)) hrC.1) (HS.refl _ [])) (by rw[Qi iv1,List.length_drop]) (XZ QdX _) om (by simp only[maxLen];omega)) (λb9 _=>dV 12 rfl (Qa rfl rfl rfl Qw ((Xx (pln L)).1) om om rfl) (Qr (show _=Value.pointer (some ⟨gn1,(Xx (pln L)).1*3,none⟩)from by rw[Nat.zero_add]) (dFa 13 ?_)))))
   refine dSt 14 ?_ (hl:=(by rw[Qi nv3];show _+1<=_;omega))
   refine dTu [] ?_
   refine dNi ?_
   refine Qhl (λw h=>HS.cs_setN (gn:=gn1) (cap:=cap1) (ca:=b9.1) (cc:=b9.2) (cs:=(nth L1 i).cs.drop ((QD mo)+1)) (n:=0+((nth L1 i).cs.length-((QD mo)+1))) (xs:=[]++((nth L1 i).cs.drop ((QD mo)+1)).flatMap inV) ho3 (by rw[List.length_drop,Nat.zero_add]) (by rw[List.nil_append]) h aPk aPk aPk) λL4=>?_
   refine Xp (λw h=>h.1) λhS4=>XG (λw h=>h.2) ?_
   have hi4:i<L4.length:=by rw[hS4.len];exact hi3
   have hN4:nth L4 i=nth L3 i:=hS4.other hi3 hne
   have hcr4:(nth L4 i).ca=(nth L1 i).ca/\(nth L4 i).cc=(nth L1 i).cc/\(nth L4 i).cs=(nth L1 i).cs:=by rw[hN4];exact hcr3
   refine Qbe [.blk bt 37 4 [.int .i64 (j:Int),.int .i64 mo,.int .i64 rm,.slice (some ⟨gn1,0,none⟩) L1.length cap1],.blk gn1 69 (cap1*3) (L4.flatMap LNd.vals),.star (L4.map (Qs 27)),.blk b1 69 3 (LNd.vals (nth L1 i)),.blk b2 27 2 (TEnt.vals (nth (nth L1 i).es (QD mo)))] [14] QC ?_
   refine dP 0 ?_
   refine dP 1 ?_
   refine dFa 2 ?_
   refine dLd 3 [[]] ?_
   refine dP 4 ?_
   refine dFa 6 ?_
   refine dLd 7 [[]] ?_
   refine dP 8 ?_
   refine dP 9 ?_
   try refine dWr ?_
   refine dV 10 rfl (QG _ _ 0 ((QD mo)+1) rfl rfl QA rfl ⟨_,_,rfl,om⟩ om om) (dH 5 rfl (XK rfl QA) (λb10 _=>dH 11 rfl (QL (((nth L1 i).cs.take ((QD mo)+1)).flatMap inV) rfl rfl rfl QA Tryz.underlying28 Yp rfl aPk (λw h=>Rw.src iv1 (QfC (Rw.cut (i:=0) (Qmg hcr4 (HS.cs_row hi4 h aPk)) hrC.1) ((QD mo)+1)) (HS.refl _ [])) (by rw[Qi iv1,List.length_take];omega) (XZ QdX _) om (by simp only[maxLen];omega)) (λb11 _=>dV 12 rfl (Qa rfl rfl rfl Qw (i) om om rfl) (Qr (show _=Value.pointer (some ⟨gn1,i*3,none⟩)from by rw[Nat.zero_add]) (dFa 13 ?_)))))
   refine dSt 14 ?_ (hl:=(by rw[Qi nv3];show _+1<=_;omega))
   refine dTu [] ?_
   refine dNi ?_
   refine Qhl (λw h=>HS.cs_setN (gn:=gn1) (cap:=cap1) (ca:=b11.1) (cc:=b11.2) (cs:=(nth L1 i).cs.take ((QD mo)+1)) (n:=0+((QD mo)+1-0)) (xs:=[]++((nth L1 i).cs.take ((QD mo)+1)).flatMap inV) hi4 (by rw[List.length_take];omega) (by rw[List.nil_append]) h aPk aPk aPk) λL5=>?_
   exact Xp (λw h=>h.1) λhS5=>XG (λw h=>h.2) (Qo L5 ⟨by rw[hS5.cs,hS4.cs,hS3.es,hS2.es];exact(QsU hL1.symm (hL1.symm▸hxF) hcz).symm,by rw[hS5.len,hS4.len,hS3.len,hS2.len]⟩ aSx (λw h=>by rw[hS5.len,hS4.len,hS3.len,hS2.len];exact h.ent aEt))
  have hcz:(nth L1 i).cs.length=0:=by have hq:=h7;omega
  refine aU ?_
  exact Qo L3 ⟨by rw[hS3.es,hS2.es];exact(QsP hL1.symm (hL1.symm▸hxF) hcz).symm,by rw[hS3.len,hS2.len]⟩ aSx (λw h=>by rw[hS3.len,hS2.len];exact h.ent aEt)
 intro LA hx
 obtain⟨hA,hlA⟩:=hx
 have hpA:p<LA.length:=om
 have hNA:(nth LA p).pl=nth (splRA mo (pln L) i) p:=by rw[<-Ql hpA,hA]
 have hEA:(nth LA p).es=(nth (splRA mo (pln L) i) p).es:=congrArg Nd.es hNA
 have hCA:(nth LA p).cs=(nth (splRA mo (pln L) i) p).cs:=congrArg Nd.cs hNA
 have hsAE:=(hsA p).1
 have hsAC:=(hsA p).2
 rw[<-hEA]at hsAE
 rw[<-hCA]at hsAC
 have hparE2:(ixR (nth (splRA mo (pln L) i) p).cs (i:Int))<=(nth LA p).es.length:=by rw[hEA];exact hparE
 have hparC2:(ixR (nth (splRA mo (pln L) i) p).cs (i:Int))+1<=(nth LA p).cs.length:=by rw[hCA];exact hparC
 refine aU7 ?_
 refine oCq rfl (λw1 h1=>c224 w1 j mo rm (some ⟨gn1,0,none⟩) cap1 LA p (i:Int) hpA (HS.nt_at h1 aPk aPk) om om) (Qh (show _=Value.int .i64 ((ixR (nth (splRA mo (pln L) i) p).cs (i:Int)):Int)from by rw[hCA]) (aU3 ?_))
 refine Qt [18] QC ?_
 refine dP 0 ?_
 refine dP 1 ?_
 refine dFa 2 ?_
 refine dLd 3 [[]] ?_
 refine dP 4 ?_
 refine dP 5 ?_
 refine dP 6 ?_
 refine dFa 7 ?_
 refine dLd 8 [[]] ?_
 refine dP 9 ?_
 refine dV 10 rfl (Qa rfl rfl rfl Qw (p) om om rfl) (Qr (show _=Value.pointer (some ⟨gn1,p*3,none⟩)from by rw[Nat.zero_add]) (dFa 11 ?_))
 refine dQ 12 [[]] rfl (Qf rfl rfl Xq (λw h=>HS.nd_cell hpA h aPk 1 rfl (by decide))) (dP 13 ?_)
 refine dLn 14 [[]] ?_
 refine dH 15 rfl (Yi rfl QoH rfl (λw1 h1=>c179 w1 (nth LA p).ea (nth LA p).ec (nth LA p).es (ixR (nth (splRA mo (pln L) i) p).cs (i:Int)) (nth (nth L1 i).es (QD mo)) (HS.es_row hpA h1 aPk) om hparE2 (HS.es_room hpA h1 aPk).1)) (λb12 _=>dBa ?_)
 refine dV 16 rfl (Qa rfl rfl rfl Qw (p) om om rfl) (Qr (show _=Value.pointer (some ⟨gn1,p*3,none⟩)from by rw[Nat.zero_add]) (dFa 17 ?_))
 refine dSt 18 ?_ (hl:=(by rw[Qi nv3];show _+1<=_;omega))
 refine dTu [] ?_
 refine dNi ?_
 refine Qg (L':=[(0,_),(1,_),(6,_),(10,_)]) aSx (λ_ h=>h) ?_
 refine Qhl (λw h=>HS.es_set (gn:=gn1) (cap:=cap1) (ea:=b12.1) (ec:=b12.2) (es:=QT (nth LA p).es (ixR (nth (splRA mo (pln L) i) p).cs (i:Int)) (nth (nth L1 i).es (QD mo))) hpA h aPk aPk aPk) λLB=>?_
 refine Xp (λw h=>h.1) λhSB=>XG (λw h=>h.2) ?_
 have hpB:p<LB.length:=by rw[hSB.len];exact hpA
 have hBC:(nth LB p).cs=(nth LA p).cs:=by rw[hSB.at_]
 have hBCl:(nth LB p).cs.length=(nth LA p).cs.length:=by rw[hBC]
 refine Qt [19] QC ?_
 refine dP 0 ?_
 refine dP 1 ?_
 refine dFa 2 ?_
 refine dLd 3 [[]] ?_
 refine dP 4 ?_
 refine dP 5 ?_
 refine dP 6 ?_
 refine dFa 7 ?_
 refine dLd 8 [[]] ?_
 refine dP 9 ?_
 refine dV 10 rfl (Qa rfl rfl rfl Qw (p) om om rfl) (Qr (show _=Value.pointer (some ⟨gn1,p*3,none⟩)from by rw[Nat.zero_add]) (dFa 11 ?_))
 refine dQ 12 [[]] rfl (Qf rfl rfl Xg (λw h=>HS.nd_cell hpB h aPk 2 rfl (by decide))) (dP 13 ?_)
 refine dP 14 ?_
 try refine dWr ?_
 refine dP 15 ?_
 refine dH 16 rfl (Yi rfl QuD rfl (λw1 h1=>c225 w1 (nth LB p).ca (nth LB p).cc (nth LB p).cs ((ixR (nth (splRA mo (pln L) i) p).cs (i:Int))+1) ((Xx (pln L)).1:Int) (HS.cs_row hpB h1 aPk) om om (HS.cs_room hpB h1 aPk).1)) (λb13 _=>dBa ?_)
 refine dV 17 rfl (Qa rfl rfl rfl Qw (p) om om rfl) (Qr (show _=Value.pointer (some ⟨gn1,p*3,none⟩)from by rw[Nat.zero_add]) (dFa 18 ?_))
 refine dSt 19 ?_ (hl:=(by rw[Qi nv3];show _+1<=_;omega))
 refine dTu [] ?_
 refine dNi ?_
 exact Zs rfl (λw' h'=>by obtain⟨LC,hSC,hC⟩:=HS.cs_set (gn:=gn1) (cap:=cap1) (ca:=b13.1) (cc:=b13.2) (cs:=QT (nth LB p).cs ((ixR (nth (splRA mo (pln L) i) p).cs (i:Int))+1) ((Xx (pln L)).1:Int)) hpB h' aPk aPk aPk;exact⟨((gn1,cap1),LC),rfl,⟨by rw[hSC.cs,hBC,hSB.es,hA,hEA,hCA];unfold Qiz addP;rw[hxF];rfl,by simp only[];rw[hSC.len,hSB.len,hlA];exact hn1,hm1⟩,by simp only[];rw[hSC.len,hSB.len];exact hC.ent aEt⟩)
theorem Qq0:QY Tryz.prog 180=true:=by kernel_rfl
theorem c123(w:World)(j:Nat)(mo rm:Int)(a:Option Addr)(cap:Nat)(L:List LNd)(x:TEnt)(hj:j<=3)(h0:0<L.length)(hB:Bd (pln L))(hT:TOk (j:Int) (pln L))(hs:Nt w [] a L)(hk:QW (j:Int) x.key=true)(hkl:x.key.length<=1000000)(hok0:InsROk (j:Int) mo rm (pln L) x):CE 123 #[.agg #[.int .i64 (j:Int),.int .i64 mo,.int .i64 rm,.slice a L.length cap],.agg #[.string (bs x.key),.string (bs x.val)]] w [] (λg:(Option Addr×Nat)×List LNd=>.agg #[.int .i64 (j:Int),.int .i64 mo,.int .i64 rm,.slice g.1.1 g.2.length g.1.2]) (λg=>pln g.2=Qtg (j:Int) mo rm (pln L) x) λg=>[.nodes 27 69 g.1.1 g.1.2 g.2]:=by
 have hln0:=hB.len
 rw[Qb]at hln0
 have hsmB:Sm 1000 (pln L):=QtT hB
 refine eN2 Tryz.func123 Tryz.ntmps123 ?_
 refine aU2 ?_
 refine oBx λb1 _=>?_
 refine oBx λb2 _=>?_
 refine oAl (λb3 _=>?_) Xh
 refine aU4 ?_
 refine oCh rfl (λw1 h1=>c21 w1 (j:Int) mo rm a cap L (hs.later h1.nil) hln0 hsmB) (λ⟨⟨ga0,gc0⟩,L9⟩hF9=>?_)
 dsimp only
 have hL9:pln L9=pln L:=hF9
 have hl9:L9.length=L.length:=by rw[<-Qb L9,hL9,Qb]
 have h09:0<L9.length:=om
 refine QaX (λw h=>Qfn h09 h aPk) λgn=>?_
 refine Xm (p:=ga0=some ⟨gn,0,none⟩/\L9.length<=gc0/\gc0<=maxLen) (λw h=>⟨h.1,h.2.1,h.2.2.1⟩) λhgn=>?_
 obtain⟨hga,hn9,hm9⟩:=hgn
 subst hga
 refine QQ (λw h=>h.2.2.2) ?_
 have hB9:Bd (pln L9):=by rw[hL9];exact hB
 have hT9:TOk (j:Int) (pln L9):=by rw[hL9];exact hT
 have hK9:∀i,i<L9.length->∀y∈(nth L9 i).es,QW (j:Int) y.key=true/\y.key.length<=1000000:=λi hi y hy=>Qaw hT9 i (by rw[Qb];exact hi) y (by rw[Ql hi];exact hy)
 have hok:InsROk (j:Int) mo rm (pln L9) x:=by rw[hL9];exact hok0
 have hne:=hok.ne
 have hlen9:=hok.len
 have hlf:=hok.lf
 rw[Qb]at hlf
 have hel9:=hB9.es _ (by rw[Qb];exact hlf)
 rw[Ql hlf]at hel9
 simp only[LNd.pl]at hel9
 refine oAl (λb4 _=>?_) Xh
 refine aU7 ?_
 refine oCh rfl (λw1 h1=>c18 w1 j mo rm (some ⟨gn,0,none⟩) gc0 L9 x.key hj h09 hB9 hT9 (HS.nt_at h1 aPk aPk) hk hkl) (λ⟨pa,pc⟩_=>?_)
 dsimp only
 refine Xm (λw h=>HS.pown_some (P:=(Qj (j:Int) (pln L9) x.key).1) (a:=pa) (c:=pc) hne h aPk) λhpa=>?_
 obtain⟨gp,hpa⟩:=hpa
 refine aT12 ?_
 refine o_p (Qa rfl rfl rfl QA ((Qj (j:Int) (pln L9) x.key).1.length-1) om om hpa) rfl (o_q (Qf rfl rfl X4 (λw h=>HS.pown_rd (P:=(Qj (j:Int) (pln L9) x.key).1) (a:=pa) (c:=pc) (k:=(Qj (j:Int) (pln L9) x.key).1.length-1) om hpa h aPk)) rfl (Qh (show _=Value.int .i64 ((QO (Qj (j:Int) (pln L9) x.key).1):Int)from rfl) (aU8 ?_)))
 refine oCq rfl (λw1 h1=>c73 w1 j mo rm (some ⟨gn,0,none⟩) gc0 L9 (QO (Qj (j:Int) (pln L9) x.key).1) x.key hj hlf (HS.nt_at h1 aPk aPk) om hel9 (hK9 _ hlf) hk hkl) (aU7 ?_)
 refine Qg (L':=[(3,_),(4,_),(5,_),(6,_),(8,_),(9,_)]) aSx (λ_ h=>h) ?_
 refine Qt [14] QC ?_
 refine dFa 0 ?_
 refine dLd 1 [[]] ?_
 refine dP 2 ?_
 refine dFa 3 ?_
 refine dLd 4 [[]] ?_
 refine dP 5 ?_
 refine dV 6 rfl (Qa rfl rfl rfl Qw ((QO (Qj (j:Int) (pln L9) x.key).1)) om om rfl) (Qr (show _=Value.pointer (some ⟨gn,(QO (Qj (j:Int) (pln L9) x.key).1)*3,none⟩)from by rw[Nat.zero_add]) (dFa 7 ?_))
 refine dQ 8 [[]] rfl (Qf rfl rfl Xq (λw h=>HS.nd_cell hlf h aPk 1 rfl (by decide))) (dP 9 ?_)
 refine dLn 10 [[]] ?_
 refine dH 11 rfl (Yi rfl QoH rfl (λw1 h1=>c179 w1 (nth L9 (QO (Qj (j:Int) (pln L9) x.key).1)).ea (nth L9 (QO (Qj (j:Int) (pln L9) x.key).1)).ec (nth L9 (QO (Qj (j:Int) (pln L9) x.key).1)).es (plc (j:Int) (nth L9 (QO (Qj (j:Int) (pln L9) x.key).1)).es x.key) x (HS.es_row hlf h1 aPk) om (Qbm _ _ _) (HS.es_room hlf h1 aPk).1)) (λb5 _=>dBa ?_)
 refine dV 12 rfl (Qa rfl rfl rfl Qw ((QO (Qj (j:Int) (pln L9) x.key).1)) om om rfl) (Qr (show _=Value.pointer (some ⟨gn,(QO (Qj (j:Int) (pln L9) x.key).1)*3,none⟩)from by rw[Nat.zero_add]) (dFa 13 ?_))
 refine dSt 14 ?_ (hl:=(by rw[Qi nv3];show _+1<=_;omega))
 refine dTu [] ?_
 refine dNi ?_
 refine aU4 ?_
 refine QaX (λw h=>HS.es_set (gn:=gn) (cap:=gc0) (ea:=b5.1) (ec:=b5.2) (es:=QT (nth L9 (QO (Qj (j:Int) (pln L9) x.key).1)).es (plc (j:Int) (nth L9 (QO (Qj (j:Int) (pln L9) x.key).1)).es x.key) x) hlf h aPk aPk aPk) λL1=>?_
 refine Xm (λw h=>h.1) λhS1=>QQ (λw h=>h.2) ?_
 have hL1:pln L1=(QhA (j:Int) (pln L9) x):=by rw[hS1.es,QhA,Ql hlf];rfl
 refine QQ (C':=HS w [] [.blk b4 37 4 [.int .i64 (j:Int),.int .i64 mo,.int .i64 rm,.slice (some ⟨gn,0,none⟩) (L1).length gc0],.blk gn 69 (gc0*3) ((L1).flatMap LNd.vals),.star ((L1).map (Qs 27)),.own (.slice pa ((Qj (j:Int) (pln L9) x.key).1).length pc) 3 1 ((Qj (j:Int) (pln L9) x.key).1).length (((Qj (j:Int) (pln L9) x.key).1).map λi:Nat=>Value.int .i64 (i:Int)),.blk b2 27 2 (TEnt.vals x),.blk b3 37 4 [.int .i64 0,.int .i64 0,.int .i64 0,.slice none 0 0]]) (λw2 h=>by rw[hS1.len];exact h.ent aEt) (aT2 ?_)
 refine Qh (show _=Value.int .i64 (((Qj (j:Int) (pln L9) x.key).1.length-1:Nat):Int)from by congr 1;omega) (aU3 ?_)
 refine Qg (L':=[(4,_),(5,_),(6,_),(11,_)]) aSx (λ_ h=>h) ?_
 refine Qx (α:=((Nat×Nat)×List LNd)×Nat) [11,53,54,55,56,57,58,59,60,61,62,63,64,65,66,67,68,69,70,71,72,73,74,75,76,77,78,79] (λy=>[(11,.int .i64 (y.2:Int))]) (λy=>HS w [] [.blk b4 37 4 [.int .i64 (j:Int),.int .i64 mo,.int .i64 rm,.slice (some ⟨y.1.1.1,0,none⟩) (y.1.2).length y.1.1.2],.blk y.1.1.1 69 (y.1.1.2*3) ((y.1.2).flatMap LNd.vals),.star ((y.1.2).map (Qs 27)),.own (.slice pa ((Qj (j:Int) (pln L9) x.key).1).length pc) 3 1 ((Qj (j:Int) (pln L9) x.key).1).length (((Qj (j:Int) (pln L9) x.key).1).map λi:Nat=>Value.int .i64 (i:Int)),.blk b2 27 2 (TEnt.vals x),.blk b3 37 4 [.int .i64 0,.int .i64 0,.int .i64 0,.slice none 0 0]]) (λy=>Qcp mo (Qj (j:Int) (pln L9) x.key).1 y.2 (pln y.1.2)=Qcp mo (Qj (j:Int) (pln L9) x.key).1 ((Qj (j:Int) (pln L9) x.key).1.length-1) (QhA (j:Int) (pln L9) x)/\QgZ mo (Qj (j:Int) (pln L9) x.key).1 y.2 (pln y.1.2)/\y.2<(Qj (j:Int) (pln L9) x.key).1.length/\y.1.2.length<=y.1.1.2/\y.1.1.2<=maxLen) (λy=>y.2) (((gn,gc0),L1),(Qj (j:Int) (pln L9) x.key).1.length-1) ⟨by rw[hL1],by rw[hL1];exact hok.grw,by simp only[];omega,by simp only[];rw[hS1.len];exact hn9,hm9⟩ aSx (λw h=>h.ent aEt) (λ⟨⟨⟨ga,gc⟩,Lk⟩,k⟩hx=>?_)
 dsimp only
 obtain⟨hx1,hx2,hx3,hx4,hx5⟩:=hx
 simp only[]at hx1 hx2 hx3 hx4 hx5
 refine aU6 ?_
 refine sCd rfl (λh6=>?_) λh6=>?_
 ·obtain⟨k1,rfl⟩:∃k1,k=k1+1:=⟨k-1,om⟩
  obtain⟨hkl9,hsp⟩:=hx2.1
  rw[Qb]at hkl9
  rw[Ql hkl9]at hsp
  simp only[LNd.pl]at hsp
  refine aU4 ?_
  refine Qt [] QC ?_
  refine dFa 0 ?_
  refine dLd 1 [] ?_
  refine dP 2 ?_
  refine dP 3 ?_
  refine dV 4 rfl (Qa rfl rfl rfl QA (k1+1) om om hpa) (dQ 5 [] rfl (Qf rfl rfl X4 (λw h=>HS.pown_rd (P:=(Qj (j:Int) (pln L9) x.key).1) (a:=pa) (c:=pc) (k:=k1+1) om hpa h aPk)) (dV 6 rfl (Qa rfl rfl rfl Qw ((nth (Qj (j:Int) (pln L9) x.key).1 (k1+1))) om om rfl) (Qr (show _=Value.pointer (some ⟨ga,(nth (Qj (j:Int) (pln L9) x.key).1 (k1+1))*3,none⟩)from by rw[Nat.zero_add]) (dFa 7 ?_))))
  refine dQ 8 [] rfl (Qf rfl rfl Xq (λw h=>HS.nd_cell hkl9 h aPk 1 rfl (by decide))) (dV 9 rfl (QS rfl rfl Tryz.underlying67) (dFa 10 ?_))
  refine dLd 11 [] ?_
  refine dP 12 ?_
  refine dNi ?_
  refine sCd rfl (λh7=>?_) λh7=>?_
  ·have hbig:mo<((nth Lk (nth (Qj (j:Int) (pln L9) x.key).1 (k1+1))).es.length:Int):=h7
   refine Qt [9] QC ?_
   refine dP 0 ?_
   refine dP 1 ?_
   refine dP 2 ?_
   try refine dWr ?_
   refine dV 3 rfl (Qa rfl rfl rfl QA (k1) om om hpa) (dQ 4 [[]] rfl (Qf rfl rfl X4 (λw h=>HS.pown_rd (P:=(Qj (j:Int) (pln L9) x.key).1) (a:=pa) (c:=pc) (k:=k1) om hpa h aPk)) (dP 5 ?_))
   refine dP 6 ?_
   refine dV 7 rfl (Qa rfl rfl rfl QA (k1+1) om om hpa) (dQ 8 [[]] rfl (Qf rfl rfl X4 (λw h=>HS.pown_rd (P:=(Qj (j:Int) (pln L9) x.key).1) (a:=pa) (c:=pc) (k:=k1+1) om hpa h aPk)) (dH 9 rfl (QM (Cs:=[.blk b4 37 4 [.int .i64 (j:Int),.int .i64 mo,.int .i64 rm,.slice (some ⟨ga,0,none⟩) (Lk).length gc],.blk ga 69 (gc*3) ((Lk).flatMap LNd.vals),.star ((Lk).map (Qs 27))]) rfl Qq0 rfl aPs (λw1 h1 hf=>c180 w1 b4 j mo rm ga gc Lk (nth (Qj (j:Int) (pln L9) x.key).1 k1) (nth (Qj (j:Int) (pln L9) x.key).1 (k1+1)) hf hx4 hx5 (hsp hbig))) (λ⟨⟨g5,c5⟩,L5⟩hF5=>dTu [] ?_)))
   refine dNi ?_
   refine aT4 ?_
   refine aU2 ?_
   exact sBk (((g5,c5),L5),k1) (by(try simp only[]);omega) ⟨by simp only[];rw[hF5.1,<-hx1,Qcp,if_pos (by rw[Ql hkl9];exact hbig)],by simp only[];rw[hF5.1];have h9:=hx2.2;rw[if_pos (by rw[Ql hkl9];exact hbig)]at h9;exact h9,by simp only[];omega,hF5.2.1,hF5.2.2⟩ (by refine Qfw (congrArg (λe=>some (Value.int .i64 e)) (show _=_ from by simp only[];omega)) ?_;repeat (first|exact QlS|refine Qfw rfl ?_))
  have hbig:¬mo<((nth Lk (nth (Qj (j:Int) (pln L9) x.key).1 (k1+1))).es.length:Int):=by have hq:=h7;omega
  refine aT5 ?_
  refine aU2 ?_
  exact sBk (((ga,gc),Lk),k1) (by(try simp only[]);omega) ⟨by simp only[];rw[<-hx1,Qcp,if_neg (by rw[Ql hkl9];exact hbig)],by simp only[];have h9:=hx2.2;rw[if_neg (by rw[Ql hkl9];exact hbig)]at h9;exact h9,by simp only[];omega,hx4,hx5⟩ (by refine Qfw (congrArg (λe=>some (Value.int .i64 e)) (show _=_ from by simp only[];omega)) ?_;repeat (first|exact QlS|refine Qfw rfl ?_))
 obtain rfl:k=0:=om
 have hLG:pln Lk=Qcp mo (Qj (j:Int) (pln L9) x.key).1 ((Qj (j:Int) (pln L9) x.key).1.length-1) (QhA (j:Int) (pln L9) x):=hx1
 obtain⟨LG,rfl⟩:∃LG,LG=Lk:=⟨_,rfl⟩
 have hrt:RootROk mo rm (pln LG):=by rw[hLG];exact hok.root
 have hiG:0<LG.length:=by rw[<-Qb];exact hrt.lt
 have hlG:=hrt.len
 rw[Qb]at hlG
 refine Qn rfl ?_
 refine aU2 ?_
 refine Qt [] QC ?_
 refine dFa 0 ?_
 refine dLd 1 [] ?_
 refine dV 2 rfl (Qa rfl rfl rfl Qw (0) om om rfl) (Qr (show _=Value.pointer (some ⟨ga,0*3,none⟩)from by rw[Nat.zero_add]) (dFa 3 ?_))
 refine dQ 4 [] rfl (Qf rfl rfl Xq (λw h=>HS.nd_cell hiG h aPk 1 rfl (by decide))) (dV 5 rfl (QS rfl rfl Tryz.underlying67) (dFa 6 ?_))
 refine dLd 7 [] ?_
 refine dP 8 ?_
 refine dNi ?_
 refine Qg (L':=[(4,_),(5,_),(6,_),(11,_),(88,_)]) aSx (λ_ h=>h) ?_
 refine XY (α:=(Nat×Nat)×List LNd) [12,89,90,91,92,93,94,95,96,97,98,99,100,101,102,103,104,105,106,107,108,109,110,111,112,113,114,115,116,117,118,119,120,121,122,123,124,125,126,127,128,129,130,131] (λ_=>[]) (λy=>HS w [] [.blk b4 37 4 [.int .i64 (j:Int),.int .i64 mo,.int .i64 rm,.slice (some ⟨y.1.1,0,none⟩) (y.2).length y.1.2],.blk y.1.1 69 (y.1.2*3) ((y.2).flatMap LNd.vals),.star ((y.2).map (Qs 27)),.blk b3 37 4 [.int .i64 0,.int .i64 0,.int .i64 0,.slice none 0 0]]) (λy=>pln y.2=Qgs mo rm (pln LG)/\y.2.length<=y.1.2/\y.1.2<=maxLen) ?_ ?_
 ·skip
  refine sCd rfl (λh8=>?_) λh8=>?_
  ·have hbR:rm<((nth (pln LG) 0).es.length:Int):=by rw[Ql hiG];exact h8
   refine aU2 ?_
   refine o_h (QM (Cs:=[.blk b4 37 4 [.int .i64 (j:Int),.int .i64 mo,.int .i64 rm,.slice (some ⟨ga,0,none⟩) (LG).length gc],.blk ga 69 (gc*3) ((LG).flatMap LNd.vals),.star ((LG).map (Qs 27))]) rfl Qpd rfl aPs (λw1 h1 hf=>c181 w1 b4 j mo rm ga gc LG hf hx4 hx5 hiG om)) rfl (λ⟨⟨g6,c6⟩,L6⟩hF6=>?_)
   dsimp only
   obtain⟨hL6,hn6,hm6⟩:=hF6
   simp only[]at hL6 hn6 hm6
   have hi6:0<L6.length:=by have:=QjF (pln LG);rw[<-Qb,hL6];rw[Qb]at this;omega
   have ho6:(Xx (pln LG)).1<L6.length:=by rw[<-Qb,hL6];exact Qmd _
   have hon:(Xx (pln LG)).1≠0:=by have:=Qs3 (ns:=pln LG) (by rw[Qb];exact hiG);omega
   refine aU3 ?_
   refine Qt [18,21] QC ?_
   refine dFa 0 ?_
   refine dLd 1 [[],[]] ?_
   refine dP 2 ?_
   refine dFa 3 ?_
   refine dLd 4 [[],[]] ?_
   refine dP 5 ?_
   refine dFa 6 ?_
   refine dLd 7 [[],[]] ?_
   refine dV 8 rfl (Qa rfl rfl rfl Qw (0) om om rfl) (Qr (show _=Value.pointer (some ⟨g6,0*3,none⟩)from by rw[Nat.zero_add]) (dFa 9 ?_))
   refine dQ 10 [[],[]] rfl (Qf rfl rfl Xq (λw h=>HS.nd_cell hi6 h aPk 1 rfl (by decide))) (dFa 11 ?_)
   refine dLd 12 [[],[]] ?_
   refine dV 13 rfl (Qa rfl rfl rfl Qw (0) om om rfl) (Qr (show _=Value.pointer (some ⟨g6,0*3,none⟩)from by rw[Nat.zero_add]) (dFa 14 ?_))
   refine dQ 15 [[],[]] rfl (Qf rfl rfl Xg (λw h=>HS.nd_cell hi6 h aPk 2 rfl (by decide))) (dV 16 rfl (Qa rfl rfl rfl Qw ((Xx (pln LG)).1) om om rfl) (Qr (show _=Value.pointer (some ⟨g6,(Xx (pln LG)).1*3,none⟩)from by rw[Nat.zero_add]) (dFa 17 ?_)))
   refine dSt 18 ?_ (hl:=(by rw[Qi nv3];show _+1<=_;omega))
   refine dTu [21] ?_
   refine dV 19 rfl (Qa rfl rfl rfl Qw ((Xx (pln LG)).1) om om rfl) (Qr (show _=Value.pointer (some ⟨g6,(Xx (pln LG)).1*3,none⟩)from by rw[Nat.zero_add]) (dFa 20 ?_))
   refine Qlk 21 rfl (Xo rfl rfl rfl Xg rfl aPt (by rw[Qm,Qi nv3];show _+1<=_;omega) rfl) (by kernel_rfl) (λw h=>h.ent aEt) (λ_ _=>?_)
   refine dTu [] ?_
   refine dNi ?_
   refine aU3 ?_
   refine QaX (λw h=>HS.node_move (i:=0) (gn:=g6) (cap:=c6) hi6 ho6 (λe=>hon e.symm) h aPk aPk) λL7=>?_
   refine Xm (λw h=>h.1) λhS7=>QQ (λw h=>h.2) ?_
   have hi7:0<L7.length:=by rw[hS7.len];exact hi6
   have hN7:nth L7 0=nth L6 0:=hS7.other hi6 hon
   rw[<-hN7]
   refine aU4 ?_
   refine o_h (Qe (cs:=[_]) rfl rfl QA Yp rfl rfl rfl) rfl (λb9 _=>o_p (Qa rfl rfl rfl Qw (0) om om rfl) rfl (Qh (show _=Value.pointer (some ⟨g6,0*3,none⟩)from by rw[Nat.zero_add]) (aU ?_)))
   refine ZV (Xo rfl rfl rfl Xq rfl aPt (by rw[Qi nv3];show _+1<=_;omega) rfl) (λ_ _=>o_p (Qa rfl rfl rfl Qw (0) om om rfl) rfl (Qh (show _=Value.pointer (some ⟨g6,0*3,none⟩)from by rw[Nat.zero_add]) (aU ?_)))
   refine ZV (Xo rfl rfl rfl Xg rfl aPt (by rw[Qm,Qi nv3];show _+1<=_;omega) rfl) (λ_ _=>aU2 ?_)
   refine Qg (L':=[(4,_),(5,_),(6,_),(11,_),(12,_),(88,_)]) aSx (λ_ h=>h) ?_
   refine Qhl (λw h=>HS.node_low (i:=0) (gn:=g6) (cap:=c6) (ca:=some ⟨b9,0,none⟩) (cc:=1) (cs:=[((Xx (pln LG)).1:Int)]) hi7 (HS.own_shut (t:=3) (sz:=1) (n:=1) (cap:=1) (h.pick (A:=.blk b9 3 (1*1) (inV ((Xx (pln LG)).1:Int))) aPk) rfl (by decide) (by decide)) (.there aPk) .here aPk) λL8=>?_
   refine Xp (λw h=>h.1) λhS8=>XG (λw h=>h.2) ?_
   have ho8:(Xx (pln LG)).1<L8.length:=by rw[hS8.len,hS7.len];exact ho6
   have hl8:L8.length=L6.length:=by rw[hS8.len,hS7.len]
   have hL8:pln L8=(Qav (pln LG)).2:=Qtf hL6 hi6 ho6 hS7 hS8 hi7
   refine XG (C':=HS w [] [.blk b4 37 4 [.int .i64 (j:Int),.int .i64 mo,.int .i64 rm,.slice (some ⟨g6,0,none⟩) (L8).length c6],.blk g6 69 (c6*3) ((L8).flatMap LNd.vals),.star ((L8).map (Qs 27)),.own (.slice pa ((Qj (j:Int) (pln L9) x.key).1).length pc) 3 1 ((Qj (j:Int) (pln L9) x.key).1).length (((Qj (j:Int) (pln L9) x.key).1).map λi:Nat=>Value.int .i64 (i:Int)),.blk b2 27 2 (TEnt.vals x),.blk b3 37 4 [.int .i64 0,.int .i64 0,.int .i64 0,.slice none 0 0]]) (λw2 h=>by rw[hl8];exact h.ent aEt) (Qt [] QC ?_)
   refine dFa 0 ?_
   refine dLd 1 [] ?_
   refine dP 2 ?_
   refine dV 3 rfl (Qa rfl rfl rfl Qw ((Xx (pln LG)).1) om om rfl) (Qr (show _=Value.pointer (some ⟨g6,(Xx (pln LG)).1*3,none⟩)from by rw[Nat.zero_add]) (dFa 4 ?_))
   refine dQ 5 [] rfl (Qf rfl rfl Xq (λw h=>HS.nd_cell ho8 h aPk 1 rfl (by decide))) (dV 6 rfl (QS rfl rfl Tryz.underlying67) (dFa 7 ?_))
   refine dLd 8 [] ?_
   refine dP 9 ?_
   refine dNi ?_
   refine sCd rfl (λh10=>?_) λh10=>?_
   ·have hb8:mo<((nth (Qav (pln LG)).2 (Qav (pln LG)).1).es.length:Int):=by rw[<-hL8,show(Qav (pln LG)).1=(Xx (pln LG)).1 from rfl,Ql ho8];exact h10
    have hspR:=hrt.spl hbR hb8
    refine aU2 ?_
    refine o_h (QM (Cs:=[.blk b4 37 4 [.int .i64 (j:Int),.int .i64 mo,.int .i64 rm,.slice (some ⟨g6,0,none⟩) (L8).length c6],.blk g6 69 (c6*3) ((L8).flatMap LNd.vals),.star ((L8).map (Qs 27))]) rfl Qq0 rfl aPs (λw1 h1 hf=>c180 w1 b4 j mo rm g6 c6 L8 0 (Xx (pln LG)).1 hf om hm6 (by rw[hL8];exact hspR))) rfl (λ⟨⟨g7,c7⟩,L9b⟩hF7=>aU ?_)
    exact Qo ((g7,c7),L9b) ⟨by rw[Qgs,if_pos hbR,if_pos hb8,<-hL8];exact hF7.1,hF7.2.1,hF7.2.2⟩ aSx (λw h=>h.ent aEt)
   have hb8:¬mo<((nth (Qav (pln LG)).2 (Qav (pln LG)).1).es.length:Int):=by rw[<-hL8,show(Qav (pln LG)).1=(Xx (pln LG)).1 from rfl,Ql ho8];have hq:=h10;simp only[LNd.pl];omega
   refine aU ?_
   exact Qo ((g6,c6),L8) ⟨by rw[Qgs,if_pos hbR,if_neg hb8];exact hL8,by simp only[];omega,hm6⟩ aSx (λw h=>h.ent aEt)
  have hbR:¬rm<((nth (pln LG) 0).es.length:Int):=by rw[Ql hiG];have hq:=h8;simp only[LNd.pl];omega
  refine aU ?_
  exact Qo ((ga,gc),LG) ⟨by rw[Qgs,if_neg hbR],hx4,hx5⟩ aSx (λw h=>h.ent aEt)
 intro⟨⟨gz,cz⟩,LZ⟩ hz
 dsimp only
 obtain⟨hz1,hz2,hz3⟩:=hz
 simp only[]at hz1 hz2 hz3
 refine aU3 ?_
 refine ZV (Xo rfl rfl rfl XR rfl aPt (by show 4<=4;omega) rfl) (λ_ _=>aU ?_)
 exact Qk (rs:=[.cell 4 37]) rfl (.cell rfl XR aPk rfl (.nil)) (λw' h'=>⟨((some ⟨gz,0,none⟩,cz),LZ),rfl,by rw[hz1,hLG,<-hL9];rfl,QdV (h'.ent (Bs:=[.blk gz 69 (cz*3) (LZ.flatMap LNd.vals),.star (LZ.map (Qs 27))]) aEt) hz2 hz3⟩)
end Go.Proofs
namespace Gx
open Go Go.RowKit
theorem HS.sub_oneT{w0 w:World}{M:List Nat}{As:List HA}{a:Option Addr}{c:Nat}{et nt:Nat}(h:HS w0 M (.own (.slice none 0 0) et 2 0 []::.own (.slice none 0 0) 3 1 0 []::.own (.slice a 1 c) nt 3 1 [.bool true,.slice none 0 0,.slice none 0 0]::As) w):HS w0 M (.own (.slice a 1 c) nt 3 1 [.bool true,.slice none 0 0,.slice none 0 0]::.star ([(LNd.fre:LNd)].map (Qs et))::As) w:=
 (HS.star_close (Bs:=[_]) (HS.star_close (Bs:=[_,_]) h)).perm (List.Perm.swap ..)
def inE(t:Tre)(x:TEnt):Int:=if Yu t.co x=0 then QdU t.co t.mo t.rm t.ns x else Yu t.co x
def inT(t:Tre)(x:TEnt):Tre:=⟨t.co,t.mo,t.rm,QaQ t.co t.mo t.rm t.ns x⟩
structure InsP(t:Tre)(x:TEnt):Prop where
 ok:Yu t.co x=0->¬(Qj t.co t.ns x.key).2.2=true->InsOk t.co t.mo t.rm t.ns x
 sm:inE t x=0->Sm 100000 (inT t x).ns
def rmE(t:Tre)(k:List UInt8):Int:=if X3 t.co k=0 then if(Qj t.co t.ns k).2.2=true then 0 else 6 else X3 t.co k
def rmT(t:Tre)(k:List UInt8):Tre:=⟨t.co,t.mo,t.rm,Qbv t.mo t.rm t.ns (Qj t.co t.ns k).1 (Qj t.co t.ns k).2.1⟩
structure RemP(t:Tre)(k:List UInt8):Prop where
 ok:rmE t k=0->RemOk t.mo t.rm t.ns (Qj t.co t.ns k).1 (Qj t.co t.ns k).2.1
 sm:rmE t k=0->Sm 100000 (rmT t k).ns/\(rmT t k).ns.length<=1000
def opE(x:Ixs)(E lsn:Int):Int:=if(rdI x).2=0 then if E=0 then if 0<=lsn/\lsn<=2147483647 then 0 else 2 else E else(rdI x).2
def opX(x:Ixs)(t:Tre)(E lsn:Int):Ixs:=if opE x E lsn=0 then chX x (rdI x).1.1.ns t lsn else⟨[],[],[]⟩
def opL(x:Ixs)(t:Tre)(E lsn:Int):List Nat:=if opE x E lsn=0 then chL x (chX x (rdI x).1.1.ns t lsn)else[]
theorem Qm6{x:Ixs}{E lsn:Int}(h:opE x E lsn=0):(rdI x).2=0/\E=0/\0<=lsn/\lsn<=2147483647:=by grind[opE]
def XL(t:Tre)(x:TEnt):Int:=if inE t x=0 then if x.key.length+x.val.length<=88 then 0 else 8 else inE t x
theorem Zk{x:Ixs}(h:(rdI x).2=0):(XV (rdI x).1.1).2=0/\(rdI x).1.1.ns=QH x x.n/\Bd (QH x x.n)/\∀n∈QH x x.n,∀e∈n.es,e.key.length<=1000000:=by
 obtain⟨h0,ht,he,hr,hb⟩:=Qal h;have hro:=(QcQ h0).2.2.1;have hn:(rdI x).1.1.ns=QH x x.n:=by rw[ht];rfl
 rw[ht];refine⟨he,rfl,QgA hro ?_,λn hn e he=>((QbG hro x.n n hn).ent e he).1⟩;obtain⟨_,_,hl0,hl120,_⟩:=YJ he;have h1:(Qa5 x).ns.length=x.n+1:=Y7 hr x.n;omega
structure InsX(x:Ixs)(e:TEnt):Prop where
 ok:InsP (rdI x).1.1 e
 ix:XL (rdI x).1.1 e=0->YM (inT (rdI x).1.1 e)=0
structure RemX(x:Ixs)(k:List UInt8):Prop where
 ok:RemP (rdI x).1.1 k
 ix:rmE (rdI x).1.1 k=0->YM (rmT (rdI x).1.1 k)=0
end Gx
namespace Go.Proofs
open Go Go.RowKit Gx
attribute [local irreducible] Go.Calls Gx.S Gx.O Gx.D Gx.OpP Gx.OpQ Gx.OpH
set_option maxRecDepth 20000
instance:TFn Tryz.prog 122:=⟨by kernel_rfl⟩
instance:TFn Tryz.prog 123:=⟨by kernel_rfl⟩
theorem c55(w:World)(N:Nat)(hN:N<=11):CE 55 #[.int .u8 ((96+N:Nat):Int)] w [] (λg:(Option Addr×Nat)×List LNd=>.agg #[.int .i64 0,.int .i64 4,.int .i64 2,.slice g.1.1 g.2.length g.1.2]) (λg=>pln g.2=Qcu N) λg=>[.nodes 27 69 g.1.1 g.1.2 g.2]:=by
 refine eN1 Tryz.func55 Tryz.ntmps55 ?_
 refine aU2 ?_
 refine oAl (λb1 _=>?_) Xh
 refine aU3 ?_
 refine oCh rfl (λw1 h1=>c122 w1 0 4 2) (λb2 _=>?_)
 refine oAl (λb3 _=>?_) Xh
 refine aU8 ?_
 refine Qx (α:=Nat×(Option Addr×Nat)×List LNd) [4,6,7,8,9,10,11,12,13,14,15,16,17,18,19,20] (λy=>[(4,.int .u8 ((97+y.1:Nat):Int))]) (λy=>HS w [] [.nodes 27 69 y.2.1.1 y.2.1.2 y.2.2,.blk b3 37 4 [.int .i64 0,.int .i64 4,.int .i64 2,.slice y.2.1.1 (y.2.2).length y.2.1.2],.blk b1 37 4 [.int .i64 0,.int .i64 0,.int .i64 0,.slice none 0 0]]) (λy=>y.1<=N/\pln y.2.2=Qcu y.1) (λy=>N-y.1) (0,(b2.1,b2.2),[(LNd.fre:LNd)]) ⟨Nat.zero_le _,rfl⟩ aSx (λw h=>by have h3:=HS.row_shut (a:=b2.1) (cap:=b2.2) (l:=[(LNd.fre:LNd)]) (sub:=Qs 27) (t:=69) (sz:=3) (vals:=LNd.vals) (n:=1) (HS.sub_oneT (((h.own_nil 3 1).own_nil 27 2).ent (Bs:=[.own (.slice none 0 0) 27 2 0 [],.own (.slice none 0 0) 3 1 0 [],.own (.slice b2.1 1 b2.2) 69 3 1 [.bool true,.slice none 0 0,.slice none 0 0],.blk b3 37 4 [.int .i64 0,.int .i64 4,.int .i64 2,.slice b2.1 ([(LNd.fre:LNd)]).length b2.2],.blk b1 37 4 [.int .i64 0,.int .i64 0,.int .i64 0,.slice none 0 0]]) aEt)) rfl rfl;exact HS.ent (As:=[.nodes 27 69 b2.1 b2.2 [(LNd.fre:LNd)],.blk b3 37 4 [.int .i64 0,.int .i64 4,.int .i64 2,.slice b2.1 ([(LNd.fre:LNd)]).length b2.2],.blk b1 37 4 [.int .i64 0,.int .i64 0,.int .i64 0,.slice none 0 0]]) aEt h3) (λ⟨k,⟨ga,gc⟩,Lk⟩hx=>?_)
 dsimp only
 obtain⟨hk1,hk2⟩:=hx
 simp only[]at hk1 hk2
 refine aU7 ?_
 refine XF 3 9 12 rfl
  (λhg4 _=>by
   refine aU4 ?_
   exact oJt 3 12)
  (λhg6 _=>by
   refine aU2 ?_
   exact oJf 3 12) ?_
 refine aU ?_
 refine sCd rfl (λh8=>?_) λh8=>?_
 ·have hkN:k<N:=by omega
  obtain⟨hl0,hlB,hlT,hlI,hlK⟩:=Qwz (show k<11 by omega)
  rw[<-hk2]at hl0 hlB hlT hlI
  rw[Qb]at hl0
  refine aU6 ?_
  refine o_h (Qe (cs:=[_]) rfl rfl Q0 Qap rfl rfl rfl) rfl (λb9 _=>?_)
  refine o_q (YC rfl rfl Tryz.underlying139 Tryz.underlying9 Tryz.underlying5 aPk (by simp) (by simp[Qp6])) rfl ?_
  refine o_p (QF (cs:=[_,_]) rfl rfl Qcz XH rfl) rfl ?_
  refine oCh rfl (λw1 h1=>c123 w1 0 4 2 ga gc Lk (Qn5 k) (by decide) hl0 hlB hlT (HS.nt h1 aPk) hlK (by show 1<=1000000;decide) hlI) (λ⟨gd,L5⟩hF5=>?_)
  dsimp only
  refine aU6 ?_
  try (refine Qh (u8add _ _) ?_)
  refine Qh (show _=Value.int .u8 ((97+(k+1):Nat):Int)from congrArg (Value.int .u8) (QpH k om)) ?_
  refine aU2 ?_
  exact sBk (k+1,(gd.1,gd.2),L5) (by(try simp only[]);omega) ⟨by(try simp only[]);omega,by simp only[];rw[hF5,hk2];rfl⟩
 obtain rfl:k=N:=om
 refine Qn rfl ?_
 refine aU5 ?_
 exact Qk (rs:=[.cell 2 37]) rfl (.cell rfl XR aPk rfl (.nil)) (λw' h'=>⟨((ga,gc),Lk),rfl,hk2,h'.ent aEt⟩)
theorem Qu3:QY Tryz.prog 105=true:=by kernel_rfl
theorem QvU:QY Tryz.prog 106=true:=by kernel_rfl
theorem Qm2:QY Tryz.prog 45=true:=by kernel_rfl
instance:TFn Tryz.prog 45:=⟨Qm2⟩
theorem Qnj:QY Tryz.prog 46=true:=by kernel_rfl
instance:TFn Tryz.prog 46:=⟨Qnj⟩
instance:TFn Tryz.prog 104:=⟨by kernel_rfl⟩
theorem c45P(w:World)(co mo rm:Int)(a:Option Addr)(cap:Nat)(L:List LNd)(x:TEnt)(hs:Nt w [] a L)(hB:Bd (pln L))(hkl:∀i,i<L.length->∀x∈(nth L i).es,x.key.length<=1000000)(h0:(XV (⟨co,mo,rm,pln L⟩:Tre)).2=0)(hkk:x.key.length<=1000000)(hp:InsP (⟨co,mo,rm,pln L⟩:Tre) x):CE 45 #[.agg #[.int .i64 co,.int .i64 mo,.int .i64 rm,.slice a L.length cap],.agg #[.string (bs x.key),.string (bs x.val)]] w [] (λg:((Int×Int×Int)×(Option Addr×Nat)×List LNd)×(Option Addr×Nat×Nat)=>.tuple #[.agg #[.int .i64 g.1.1.1,.int .i64 g.1.1.2.1,.int .i64 g.1.1.2.2,.slice g.1.2.1.1 g.1.2.2.length g.1.2.1.2],.slice g.2.1 g.2.2.1 g.2.2.2,.int .i64 (inE (⟨co,mo,rm,pln L⟩:Tre) x)]) (λg=>(inE (⟨co,mo,rm,pln L⟩:Tre) x=0->(⟨g.1.1.1,g.1.1.2.1,g.1.1.2.2,pln g.1.2.2⟩:Tre)=inT (⟨co,mo,rm,pln L⟩:Tre) x)) λg=>[.nodes 27 69 g.1.2.1.1 g.1.2.1.2 g.1.2.2]:=by
  obtain⟨j,rfl,hj⟩:=ZD (YJ h0).1
  by_cases hx0:Yu (j:Int) x=0
  · have hE:inE ⟨(j:Int),mo,rm,pln L⟩ x=QdU (j:Int) mo rm (pln L) x:=if_pos hx0
    by_cases hx:QdU (j:Int) mo rm (pln L) x=0
    · refine Calls.mono (c45o w j mo rm a cap L x hs hB hkl h0 hkk hx0 (hp.ok hx0) hx (hp.sm (hE.trans hx))) ?_;rintro en w' ⟨⟨⟨⟨g,c⟩,L5⟩,⟨qa,qc⟩⟩,he,hL,hw⟩;refine⟨⟨⟨⟨_,_,_⟩,⟨some ⟨g,0,none⟩,c⟩,L5⟩,⟨qa,_,qc⟩⟩,by rw[he,hE,hx],λ_=>?_,hw.ent aEt⟩;show _=inT _ x;simp only[]at hL;rw[hL];rfl
    · refine Calls.mono (c45c w j mo rm a cap L x hs hB hkl h0 hkk hx0 (hp.ok hx0) hx) ?_;rintro en w' ⟨he,hb⟩;exact⟨⟨⟨⟨0,0,0⟩,⟨none,0⟩,[]⟩,⟨none,0,0⟩⟩,by rw[he,hE];rfl,λh9=>absurd (hE▸h9) hx,Xe 27 69 (HS.of_below hb)⟩
  · have hE:inE ⟨(j:Int),mo,rm,pln L⟩ x=Yu (j:Int) x:=if_neg hx0;refine Calls.mono (c45x w j mo rm a cap L x hs hB hkl hkk h0 hx0) ?_;rintro en w' ⟨he,hb⟩;exact⟨⟨⟨⟨0,0,0⟩,⟨none,0⟩,[]⟩,⟨none,0,0⟩⟩,by rw[he,hE];rfl,λh9=>absurd (hE▸h9) hx0,Xe 27 69 (HS.of_below hb)⟩
theorem c46P(w:World)(co mo rm:Int)(a:Option Addr)(cap:Nat)(L:List LNd)(k:List UInt8)(hs:Nt w [] a L)(hB:Bd (pln L))(hkl:∀i,i<L.length->∀x∈(nth L i).es,x.key.length<=1000000)(h0:(XV (⟨co,mo,rm,pln L⟩:Tre)).2=0)(hkk:k.length<=1000000)(hp:RemP (⟨co,mo,rm,pln L⟩:Tre) k):CE 46 #[.agg #[.int .i64 co,.int .i64 mo,.int .i64 rm,.slice a L.length cap],.string (bs k)] w [] (λg:((Int×Int×Int)×(Option Addr×Nat)×List LNd)×(Option Addr×Nat×Nat)=>.tuple #[.agg #[.int .i64 g.1.1.1,.int .i64 g.1.1.2.1,.int .i64 g.1.1.2.2,.slice g.1.2.1.1 g.1.2.2.length g.1.2.1.2],.slice g.2.1 g.2.2.1 g.2.2.2,.int .i64 (rmE (⟨co,mo,rm,pln L⟩:Tre) k)]) (λg=>(rmE (⟨co,mo,rm,pln L⟩:Tre) k=0->(⟨g.1.1.1,g.1.1.2.1,g.1.1.2.2,pln g.1.2.2⟩:Tre)=rmT (⟨co,mo,rm,pln L⟩:Tre) k)) λg=>[.nodes 27 69 g.1.2.1.1 g.1.2.1.2 g.1.2.2]:=by
  obtain⟨j,rfl,hj⟩:=ZD (YJ h0).1
  by_cases hx0:X3 (j:Int) k=0
  · by_cases hx:(Qj (j:Int) (pln L) k).2.2=true
    · have hE:rmE ⟨(j:Int),mo,rm,pln L⟩ k=0:=by show(if _ then(if _ then _ else _)else _)=_;rw[if_pos hx0,if_pos hx]
      refine Calls.mono (c46o w j mo rm a cap L k hs hB hkl h0 hkk hx0 hx (hp.ok hE) (hp.sm hE).1 (hp.sm hE).2) ?_;rintro en w' ⟨⟨⟨⟨g,c⟩,L5⟩,⟨qa,qc⟩⟩,he,hL,hw⟩;refine⟨⟨⟨⟨_,_,_⟩,⟨some ⟨g,0,none⟩,c⟩,L5⟩,⟨qa,_,qc⟩⟩,by rw[he,hE],λ_=>?_,hw.ent aEt⟩;show _=rmT _ k;simp only[]at hL;rw[hL];rfl
    · have hE:rmE ⟨(j:Int),mo,rm,pln L⟩ k=6:=by show(if _ then(if _ then _ else _)else _)=_;rw[if_pos hx0,if_neg hx]
      refine Calls.mono (c46m w j mo rm a cap L k hs hB hkl h0 hkk hx0 hx) ?_;rintro en w' ⟨he,hb⟩;exact⟨⟨⟨⟨0,0,0⟩,⟨none,0⟩,[]⟩,⟨none,0,0⟩⟩,by rw[he,hE];rfl,λh9=>(by rw[hE]at h9;cases h9),Xe 27 69 (HS.of_below hb)⟩
  · have hE:rmE ⟨(j:Int),mo,rm,pln L⟩ k=X3 (j:Int) k:=if_neg hx0;refine Calls.mono (c46x w j mo rm a cap L k hs hB hkl hkk h0 hx0) ?_;rintro en w' ⟨he,hb⟩;exact⟨⟨⟨⟨0,0,0⟩,⟨none,0⟩,[]⟩,⟨none,0,0⟩⟩,by rw[he,hE];rfl,λh9=>absurd (hE▸h9) hx0,Xe 27 69 (HS.of_below hb)⟩
theorem c105(w:World)(b1:Nat)(x:TEnt)(co mo rm:Int)(a:Option Addr)(cap:Nat)(L:List LNd)(hx:∀j v,([.string (bs x.key),.string (bs x.val)]:List Value)[j]?=some v->Rd w [] b1 (0+j) v)(hs:Nt w [] a L)(hB:Bd (pln L))(hkl:∀i,i<L.length->∀x∈(nth L i).es,x.key.length<=1000000)(h0:(XV (⟨co,mo,rm,pln L⟩:Tre)).2=0)(hkk:x.key.length<=1000000)(hvv:x.val.length<=1000000)(hp:InsP (⟨co,mo,rm,pln L⟩:Tre) x):CE 105 #[.agg #[.int .i64 co,.int .i64 mo,.int .i64 rm,.slice a L.length cap],.pointer (some ⟨b1,0,none⟩)] w [] (λg:(Int×Int×Int)×(Option Addr×Nat)×List LNd=>.tuple #[.agg #[.int .i64 g.1.1,.int .i64 g.1.2.1,.int .i64 g.1.2.2,.slice g.2.1.1 g.2.2.length g.2.1.2],.int .i64 (XL (⟨co,mo,rm,pln L⟩:Tre) x)]) (λg=>(XL (⟨co,mo,rm,pln L⟩:Tre) x=0->(⟨g.1.1,g.1.2.1,g.1.2.2,pln g.2.2⟩:Tre)=(inT (⟨co,mo,rm,pln L⟩:Tre) x))) λg=>[.nodes 27 69 g.2.1.1 g.2.1.2 g.2.2]:=by
 have hFV:Xr [.int .i64 (inE (⟨co,mo,rm,pln L⟩:Tre) x),.int .i64 (bif YS x then 0 else 8)]=XL (⟨co,mo,rm,pln L⟩:Tre) x:=by unfold XL YS;simp only[Xr];grind
 refine eN2 Tryz.func105 Tryz.ntmps105 ?_
 refine aU2 ?_
 refine oBx λb1 _=>?_
 refine oAl (λb2 _=>?_) Xh
 refine aU5 ?_
 refine o_q (QB _ rfl rfl Yk rfl hx) rfl (oCh rfl (λw1 h1=>c45P w1 co mo rm a cap L x (hs.later h1.nil) hB hkl h0 hkk hp) (λ⟨⟨⟨c9,m9,r9⟩,⟨ga,gc⟩,L9⟩,⟨qa,qn,qc⟩⟩hg=>aU4 ?_))
 refine oAl (λb3 _=>?_) Xh
 refine aU5 ?_
 refine Qt [7] QC ?_
 refine dLn 0 [[]] ?_
 refine dP 1 ?_
 refine dQ 2 [[6,4,3]] rfl (QB _ rfl rfl Yk rfl hx) (dQ 3 [[6,4]] rfl (Qv rfl Qpi rfl (λw1 h1=>c88 w1 x hkk hvv)) (dQ 4 [[6]] rfl (Qv rfl QbI rfl (λw1 h1=>c60 w1 _ _)) (dH 5 rfl (Qe (cs:=[_,_]) rfl rfl Yo ZR rfl rfl rfl) (λb4 _=>dBa ?_))))
 refine dQ 6 [[]] rfl (Qv rfl Qgp rfl (λw1 h1=>f59 h1 aPk (by rfl) (by rfl) (by decide))) (Qr (show _=Value.int .i64 (XL (⟨co,mo,rm,pln L⟩:Tre) x)from by rw[<-hFV]) (dSt 7 ?_ (hl:=(by simp only[Qm,List.length_set,List.length_cons,List.length_nil,List.length_map];omega))))
 refine dTu [] ?_
 refine dP 8 ?_
 refine dNi ?_
 exact Qk (rs:=[.cell 3 37,.tmp 4]) rfl (.cell rfl XR aPk rfl (.tmp rfl (.nil))) (λw' h'=>⟨⟨⟨c9,m9,r9⟩,⟨ga,gc⟩,L9⟩,rfl,λh9=>hg (by unfold XL at h9;grind),h'.ent aEt⟩)
theorem c106(w:World)(b1:Nat)(k:List UInt8)(co mo rm:Int)(a:Option Addr)(cap:Nat)(L:List LNd)(hx:Rd w [] b1 0 (.string (bs k)))(hs:Nt w [] a L)(hB:Bd (pln L))(hkl:∀i,i<L.length->∀x∈(nth L i).es,x.key.length<=1000000)(h0:(XV (⟨co,mo,rm,pln L⟩:Tre)).2=0)(hkk:k.length<=1000000)(hp:RemP (⟨co,mo,rm,pln L⟩:Tre) k):CE 106 #[.agg #[.int .i64 co,.int .i64 mo,.int .i64 rm,.slice a L.length cap],.pointer (some ⟨b1,0,none⟩)] w [] (λg:(Int×Int×Int)×(Option Addr×Nat)×List LNd=>.tuple #[.agg #[.int .i64 g.1.1,.int .i64 g.1.2.1,.int .i64 g.1.2.2,.slice g.2.1.1 g.2.2.length g.2.1.2],.int .i64 (rmE (⟨co,mo,rm,pln L⟩:Tre) k)]) (λg=>(rmE (⟨co,mo,rm,pln L⟩:Tre) k=0->(⟨g.1.1,g.1.2.1,g.1.2.2,pln g.2.2⟩:Tre)=(rmT (⟨co,mo,rm,pln L⟩:Tre) k))) λg=>[.nodes 27 69 g.2.1.1 g.2.1.2 g.2.2]:=by
 refine eN2 Tryz.func106 Tryz.ntmps106 ?_
 refine aU2 ?_
 refine oBx λb1 _=>?_
 refine oAl (λb2 _=>?_) Xh
 refine aU5 ?_
 refine o_q (Qc rfl rfl Zt (hx)) rfl (oCh rfl (λw1 h1=>c46P w1 co mo rm a cap L k (hs.later h1.nil) hB hkl h0 hkk hp) (λ⟨⟨⟨c9,m9,r9⟩,⟨ga,gc⟩,L9⟩,⟨qa,qn,qc⟩⟩hg=>aU4 ?_))
 refine oAl (λb3 _=>?_) Xh
 refine Zl ?_
 exact Qk (rs:=[.cell 3 37,.tmp 4]) rfl (.cell rfl XR aPk rfl (.tmp rfl (.nil))) (λw' h'=>⟨⟨⟨c9,m9,r9⟩,⟨ga,gc⟩,L9⟩,rfl,hg,h'.ent aEt⟩)
set_option maxHeartbeats 2000000 in
theorem c104(w:World)(x:Ixs)(lsn:Int)(q:Nat)(cv:Array Value)(T2:Tre)(E:Int)(hl:x.al.length<=900000)(hr5:x.ro.length<=1000000)(hb:x.bm.length<=100000)(hq:QY Tryz.prog q=true)(hc:(rdI x).2=0->∀(w1:World)(a:Option Addr)(cap:Nat)(L:List LNd),HS w [] [] w1->Nt w1 [] a L->pln L=(rdI x).1.1.ns->Calls Tryz.prog q (#[]++[.agg #[.int .i64 (rdI x).1.1.co,.int .i64 (rdI x).1.1.mo,.int .i64 (rdI x).1.1.rm,.slice a L.length cap]].toArray++cv) w1 λen w2=>∃g:(Int×Int×Int)×(Option Addr×Nat)×List LNd,en=.returned (.tuple #[.agg #[.int .i64 g.1.1,.int .i64 g.1.2.1,.int .i64 g.1.2.2,.slice g.2.1.1 g.2.2.length g.2.1.2],.int .i64 (E)])/\(E=0->(⟨g.1.1,g.1.2.1,g.1.2.2,pln g.2.2⟩:Tre)=T2)/\HS w1 [] [.nodes 27 69 g.2.1.1 g.2.1.2 g.2.2] w2)(hi:(rdI x).2=0->E=0->YM T2=0):CE 104 #[.agg #[.string (bs x.ro),.string (bs x.al),.string (bs x.bm)],.int .i64 lsn,.func (.func q) #[] cv] w [] (λg:Option Addr×Nat=>.tuple #[.agg #[.string (bs (opX x T2 E lsn).ro),.string (bs (opX x T2 E lsn).al),.string (bs (opX x T2 E lsn).bm)],.slice g.1 (opL x T2 E lsn).length g.2,.int .i64 (opE x E lsn)]) (λg=>True) λg=>[.own (.slice g.1 ((opL x T2 E lsn)).length g.2) 3 1 ((opL x T2 E lsn)).length (((opL x T2 E lsn)).map λi:Nat=>Value.int .i64 (i:Int))]:=by
 have hFV:Xr [.int .i64 E,.int .i64 (bif (decide (0<=lsn)&&decide (lsn<=2147483647))then 0 else 2)]=if E=0 then if 0<=lsn/\lsn<=2147483647 then 0 else 2 else E:=by simp only[Xr];grind
 refine eN3 Tryz.func104 Tryz.ntmps104 ?_
 refine aU2 ?_
 refine oBx λb1 _=>?_
 refine oAl (λb2 _=>?_) YN
 refine aU6 ?_
 refine oCh rfl (λw1 h1=>c82 w1 x hl hr5 hb) (λ⟨⟨⟨oa,oc⟩,OL⟩,⟨c2,m2,r2⟩,⟨ra,rn,rc⟩⟩hOL=>aU5 ?_)
 refine oAl (λb3 _=>?_) Qbr
 refine oAl (λb4 _=>?_) Xh
 refine Zl ?_
 refine sCd rfl (λh5=>?_) λh5=>?_
 ·have hr:¬(rdI x).2=0:=h5
  have hE:¬(opE x E lsn)=0:=by unfold opE;rw[if_neg hr];exact hr
  have hOE:(opE x E lsn)=(rdI x).2:=if_neg hr
  have hX:(opX x T2 E lsn)=⟨[],[],[]⟩:=if_neg hE
  have hL9:(opL x T2 E lsn)=[]:=if_neg hE
  refine aU2 ?_
  refine o_p (QF (cs:=[_,_,_]) rfl rfl Qgl YN rfl) rfl (aU5 ?_)
  exact Qk (rs:=[.cell 6 23,.tmp 7,.tmp 8]) rfl (.cell rfl Qa8 aPk rfl (.tmp rfl (.tmp rfl (.nil)))) (λw' h'=>⟨(none,0),by rw[hX,hL9,hOE];rfl,trivial,by rw[hL9];exact(h'.nil.own_nil 3 1).ent aEt⟩)
 have hr:(rdI x).2=0:=h5
 have hOE:(opE x E lsn)=if E=0 then if 0<=lsn/\lsn<=2147483647 then 0 else 2 else E:=if_pos hr
 refine aU5 ?_
 refine o_h (Qkn (Cs:=[]) (Mc:=[]) rfl rfl hq rfl (.refl _) (λb hb=>nomatch hb) (λw1 h1=>hc hr w1 oa oc OL h1.nil (HS.nt h1 aPk) hOL)) rfl (λ⟨⟨c9,m9,r9⟩,⟨ga,gc⟩,L9⟩hg=>aU3 ?_)
 refine oAl (λb6 _=>?_) Xh
 refine aU8 ?_
 refine oCq rfl (λw1 h1=>c100 w1 _) (o_h (Qe (cs:=[_,_]) rfl rfl Yo ZR rfl rfl rfl) rfl (λb7 _=>oCq rfl (λw1 h1=>f59 h1 aPk (by rfl) (by rfl) (by decide)) (Qh (show _=Value.int .i64 (opE x E lsn)from by rw[hOE,<-hFV]) (aU3 ?_))))
 refine Qg (L':=[(1,_),(6,_),(7,_),(8,_),(9,_),(10,_),(12,_),(13,_)]) aSx (λ_ h=>h) ?_
 refine aU4 ?_
 refine sCd rfl (λh8=>?_) λh8=>?_
 ·have hE:¬(opE x E lsn)=0:=h8
  have hX:(opX x T2 E lsn)=⟨[],[],[]⟩:=if_neg hE
  have hL9:(opL x T2 E lsn)=[]:=if_neg hE
  refine aU2 ?_
  refine o_p (QF (cs:=[_,_,_]) rfl rfl Qgl YN rfl) rfl (aU5 ?_)
  exact Qk (rs:=[.cell 6 23,.tmp 7,.tmp 8]) rfl (.cell rfl Qa8 aPk rfl (.tmp rfl (.tmp rfl (.nil)))) (λw' h'=>⟨(none,0),by rw[hX,hL9];rfl,trivial,by rw[hL9];exact(h'.nil.own_nil 3 1).ent aEt⟩)
 have hE:(opE x E lsn)=0:=h8
 obtain⟨_,hE0,hl9⟩:=Qm6 hE
 have hT9:=hg hE0
 have hO:pln OL=QH x x.n:=(show pln OL=(rdI x).1.1.ns from hOL).trans (Zk hr).2.1
 have hi9:YM ⟨c9,m9,r9,pln L9⟩=0:=by have h9:=hi hr hE0;rw[<-hT9]at h9;exact h9
 refine Xp (λw h=>HS.nodes_cap (a:=ga) (L:=L9) h aPk) λhcp=>?_
 have hX:(opX x T2 E lsn)=chX x (pln OL) ⟨c9,m9,r9,pln L9⟩ lsn:=by unfold opX;rw[if_pos hE,<-hT9,(Zk hr).2.1,hO]
 have hL9:(opL x T2 E lsn)=chL x (chX x (pln OL) ⟨c9,m9,r9,pln L9⟩ lsn):=by unfold opL;rw[if_pos hE,<-hT9,(Zk hr).2.1,hO]
 refine aU7 ?_
 refine oCh rfl (λw1 h1=>c101 w1 x c2 m2 r2 ra rn rc c9 m9 r9 ga gc L9 (rdI x).1.1.co (rdI x).1.1.mo (rdI x).1.1.rm oa oc OL lsn (HS.nt h1 aPk) (HS.nt h1 aPk) hr hO hi9 hl9 hl hcp.1 hcp.2) (λ⟨la,lc⟩_=>aU3 ?_)
 refine oAl (λb9 _=>?_) YN
 refine Zl ?_
 exact Qk (rs:=[.cell 6 23,.tmp 7,.tmp 8]) rfl (.cell rfl Qa8 aPk rfl (.tmp rfl (.tmp rfl (.nil)))) (λw' h'=>⟨(la,lc),by rw[hX,hL9,hE];rfl,trivial,by rw[hL9];exact h'.ent aEt⟩)
set_option maxHeartbeats 2000000 in
theorem c43(w:World)(x:Ixs)(e:TEnt)(lsn:Int)(hl:x.al.length<=900000)(hr5:x.ro.length<=1000000)(hb:x.bm.length<=100000)(hkk:e.key.length<=1000000)(hvv:e.val.length<=1000000)(hp:(rdI x).2=0->InsX x e):CE 43 #[.agg #[.string (bs x.ro),.string (bs x.al),.string (bs x.bm)],.agg #[.string (bs e.key),.string (bs e.val)],.int .i64 lsn] w [] (λg:Option Addr×Nat=>.tuple #[.agg #[.string (bs (opX x (inT (rdI x).1.1 e) (XL (rdI x).1.1 e) lsn).ro),.string (bs (opX x (inT (rdI x).1.1 e) (XL (rdI x).1.1 e) lsn).al),.string (bs (opX x (inT (rdI x).1.1 e) (XL (rdI x).1.1 e) lsn).bm)],.slice g.1 (opL x (inT (rdI x).1.1 e) (XL (rdI x).1.1 e) lsn).length g.2,.int .i64 (opE x (XL (rdI x).1.1 e) lsn)]) (λg=>True) λg=>[.own (.slice g.1 ((opL x (inT (rdI x).1.1 e) (XL (rdI x).1.1 e) lsn)).length g.2) 3 1 ((opL x (inT (rdI x).1.1 e) (XL (rdI x).1.1 e) lsn)).length (((opL x (inT (rdI x).1.1 e) (XL (rdI x).1.1 e) lsn)).map λi:Nat=>Value.int .i64 (i:Int))]:=by
 refine eN3 Tryz.func43 Tryz.ntmps43 ?_
 refine aU2 ?_
 refine oBx λb1 _=>?_
 refine oBx λb2 _=>?_
 refine oAl (λb3 _=>?_) YN
 refine aU8 ?_
 refine oCh rfl (λw1 h1=>c104 w1 x lsn 105 #[.pointer (some ⟨b2,0,none⟩)] (inT (rdI x).1.1 e) (XL (rdI x).1.1 e) hl hr5 hb Qu3 (λhr w2 a cap L h2 hs hL=>by obtain⟨h0,hn9,hB9,hk9⟩:=Zk hr;rw[<-hn9,<-hL]at hB9 hk9;have h9:=c105 w2 b2 e (rdI x).1.1.co (rdI x).1.1.mo (rdI x).1.1.rm a cap L (λj v hv=>by rw[Nat.zero_add];exact(h1.call h2).rd_blk (Mc:=[]) aPk hv (by simp)) hs hB9 (λi hi y hy=>hk9 (nth L i).pl (by rw[<-Ql hi];exact QI (by rw[Qb];exact hi)) y hy) (by rw[hL];exact h0) hkk hvv (by rw[hL];exact(hp hr).ok);rw[hL]at h9;exact h9) (λhr=>(hp hr).ix)) (λ⟨la,lc⟩_=>aU7 ?_)
 exact Qk (rs:=[.cell 6 23,.tmp 7,.tmp 8]) rfl (.cell rfl Qa8 aPk rfl (.tmp rfl (.tmp rfl (.nil)))) (λw' h'=>⟨(la,lc),rfl,trivial,h'.ent aEt⟩)
set_option maxHeartbeats 2000000 in
theorem c44(w:World)(x:Ixs)(k:List UInt8)(lsn:Int)(hl:x.al.length<=900000)(hr5:x.ro.length<=1000000)(hb:x.bm.length<=100000)(hkk:k.length<=1000000)(hp:(rdI x).2=0->RemX x k):CE 44 #[.agg #[.string (bs x.ro),.string (bs x.al),.string (bs x.bm)],.string (bs k),.int .i64 lsn] w [] (λg:Option Addr×Nat=>.tuple #[.agg #[.string (bs (opX x (rmT (rdI x).1.1 k) (rmE (rdI x).1.1 k) lsn).ro),.string (bs (opX x (rmT (rdI x).1.1 k) (rmE (rdI x).1.1 k) lsn).al),.string (bs (opX x (rmT (rdI x).1.1 k) (rmE (rdI x).1.1 k) lsn).bm)],.slice g.1 (opL x (rmT (rdI x).1.1 k) (rmE (rdI x).1.1 k) lsn).length g.2,.int .i64 (opE x (rmE (rdI x).1.1 k) lsn)]) (λg=>True) λg=>[.own (.slice g.1 ((opL x (rmT (rdI x).1.1 k) (rmE (rdI x).1.1 k) lsn)).length g.2) 3 1 ((opL x (rmT (rdI x).1.1 k) (rmE (rdI x).1.1 k) lsn)).length (((opL x (rmT (rdI x).1.1 k) (rmE (rdI x).1.1 k) lsn)).map λi:Nat=>Value.int .i64 (i:Int))]:=by
 refine eN3 Tryz.func44 Tryz.ntmps44 ?_
 refine aU2 ?_
 refine oBx λb1 _=>?_
 refine oBx λb2 _=>?_
 refine oAl (λb3 _=>?_) YN
 refine aU8 ?_
 refine oCh rfl (λw1 h1=>c104 w1 x lsn 106 #[.pointer (some ⟨b2,0,none⟩)] (rmT (rdI x).1.1 k) (rmE (rdI x).1.1 k) hl hr5 hb QvU (λhr w2 a cap L h2 hs hL=>by obtain⟨h0,hn9,hB9,hk9⟩:=Zk hr;rw[<-hn9,<-hL]at hB9 hk9;have h9:=c106 w2 b2 k (rdI x).1.1.co (rdI x).1.1.mo (rdI x).1.1.rm a cap L ((h1.call h2).rd_blk (Mc:=[]) aPk rfl (by simp)) hs hB9 (λi hi y hy=>hk9 (nth L i).pl (by rw[<-Ql hi];exact QI (by rw[Qb];exact hi)) y hy) (by rw[hL];exact h0) hkk (by rw[hL];exact(hp hr).ok);rw[hL]at h9;exact h9) (λhr=>(hp hr).ix)) (λ⟨la,lc⟩_=>aU7 ?_)
 exact Qk (rs:=[.cell 6 23,.tmp 7,.tmp 8]) rfl (.cell rfl Qa8 aPk rfl (.tmp rfl (.tmp rfl (.nil)))) (λw' h'=>⟨(la,lc),rfl,trivial,h'.ent aEt⟩)
end Go.Proofs
namespace Gx
open Go Go.RowKit
def awT:Tre:=⟨0,4,2,Qcu 5⟩
def awX:Ixs:=wrI awT
def awF:TEnt:=⟨[102],[]⟩
def awU:Tre:=inT awT awF
def awY:Ixs:=chX awX awT.ns awU 5
theorem Qul:YM awT=0:=by decide +kernel
theorem ax_b:bdB (Qcu 5)=true:=by decide +kernel
theorem ax_n:QtG 0 4 2 (Qcu 5) awF=true:=by decide +kernel
theorem ax_s:smB 100000 awU.ns=true:=by decide +kernel
theorem ax_E:XL awT awF=0:=by decide +kernel
theorem ax_u:YM awU=0:=by decide +kernel
theorem Qun:YV ⟨[99],[]⟩ 1=0/\YD ⟨[99],[]⟩ 1=[16,0,1,0,1,0,0,0,99,0,0,0,0,0,0,0]:=by decide +kernel
theorem Qow:awX.ro.length=32/\awX.al.length=1024/\awX.bm=[3,0,0,0,0,0,0,0]:=by decide +kernel
theorem ax_l:chL awX awY=[2]:=by decide +kernel
theorem ax_f:(QaO awY [101]).1.2=[2]/\(QaO awY [101]).2=0:=by decide +kernel
theorem Quj:awY.ro.length<=1000/\awY.al.length<=10000/\awY.bm.length<=1000:=by decide +kernel
def klB(ns:List Nd):Bool:=ns.all λn=>n.es.all λx=>decide (x.key.length<=1000000/\x.val.length<=1000000)
theorem ax_k:klB (Qcu 5)=true:=by decide +kernel
theorem QwB{L:List LNd}(h:klB (pln L)=true):∀i,i<L.length->∀x∈(nth L i).es,x.key.length<=1000000/\x.val.length<=1000000:=λi hi x hx=>
 of_decide_eq_true (List.all_eq_true.1 (List.all_eq_true.1 h (nth L i).pl (by rw[<-Ql hi];exact QI (by rw[Qb];exact hi))) x hx)
theorem Qux:rdI awX=((awT,0),0):=Qwo Qul
theorem ax_X(_:(rdI awX).2=0):InsX awX awF:=by
 have e:(rdI awX).1.1=awT:=by rw[Qux]
 refine⟨?_,λ_=>?_⟩<;>rw[e]
 ·exact⟨λ_ _=>Qra ax_n,λ_=>Qf2 ax_s⟩
 ·exact ax_u
theorem QqC:opX awX (inT (rdI awX).1.1 awF) (XL (rdI awX).1.1 awF) 5=awY/\opL awX (inT (rdI awX).1.1 awF) (XL (rdI awX).1.1 awF) 5=[2]/\opE awX (XL (rdI awX).1.1 awF) 5=0:=by
 have e:(rdI awX).1.1=awT:=by rw[Qux]
 have h:opE awX (XL (rdI awX).1.1 awF) 5=0:=by unfold opE;rw[if_pos (by rw[Qux]),e,ax_E];decide
 refine⟨?_,?_,h⟩
 ·unfold opX;rw[if_pos h,e];rfl
 ·unfold opL;rw[if_pos h,e];exact ax_l
end Gx
namespace Go.Proofs
open Go Go.RowKit Gx
attribute [local irreducible] Go.Calls Gx.S Gx.O Gx.D Gx.OpP Gx.OpQ Gx.OpH
set_option maxRecDepth 20000
instance:TFn Tryz.prog 55:=⟨by kernel_rfl⟩
instance:TFn Tryz.prog 43:=⟨by kernel_rfl⟩
theorem ax_w:wfI awT=awX:=if_pos Qul
theorem c43w(w:World):CE 43 #[.agg #[.string (bs awX.ro),.string (bs awX.al),.string (bs awX.bm)],.agg #[.string (bs [102]),.string (bs [])],.int .i64 5] w [] (λg:Option Addr×Nat=>.tuple #[.agg #[.string (bs awY.ro),.string (bs awY.al),.string (bs awY.bm)],.slice g.1 1 g.2,.int .i64 0]) (λg=>True) λg=>[.own (.slice g.1 1 g.2) 3 1 1 [.int .i64 2]]:=by
  have h9:=c43 w awX awF 5 (by have:=Qow;omega) (by have:=Qow;omega) (by rw[Qow.2.2];decide) (by decide) (by decide) ax_X;rw[QqC.1,QqC.2.1,QqC.2.2]at h9;exact h9
theorem c13w(w:World):CE 13 #[.agg #[.string (bs awY.ro),.string (bs awY.al),.string (bs awY.bm)],.string (bs [101])] w [] (λg:Option Addr×Nat=>.tuple #[.agg #[.string (bs (QaO awY [101]).1.1.key),.string (bs (QaO awY [101]).1.1.val)],.slice g.1 1 g.2,.int .i64 0]) (λg=>True) λg=>[.own (.slice g.1 1 g.2) 3 1 1 [.int .i64 2]]:=by
  have h9:=c13 w awY [101] (by have:=Quj;omega) (by have:=Quj;omega) (by have:=Quj;omega) (by decide);rw[ax_f.1,ax_f.2]at h9;exact h9
theorem c11w(w:World):CR 11 #[] w (.bool true):=by
 refine eN0 Tryz.func11 Tryz.ntmps11 ?_
 refine aU6 ?_
 refine o_p (QF (cs:=[_,_]) rfl rfl Qcz XH rfl) rfl (oCq rfl (λw1 h1=>by have h9:=c26 w1 ⟨[99],[]⟩ 1 (by decide) (by decide);rw[if_pos Qun.1,Qun.2,Qun.1]at h9;exact h9) (aU8 ?_))
 refine oCh rfl (λw1 h1=>c55 w1 5 (by decide)) (λ⟨⟨ga,gc⟩,L1⟩hL1=>oCq rfl (λw1 h1=>by have h9:=c20 w1 0 4 2 ga gc L1 (HS.nt h1 aPk) (by rw[hL1];exact QrS ax_b) (HS.nodes_cap h1 aPk).1 (HS.nodes_cap h1 aPk).2 (QwB (by rw[hL1];exact ax_k));rw[hL1,show(⟨0,4,2,Qcu 5⟩:Tre)=awT from rfl,ax_w,Qul]at h9;exact h9) (aU3 ?_))
 refine oAl (λb1 _=>?_) YN
 refine aU6 ?_
 refine o_p (QF (cs:=[_,_]) rfl rfl Qcz XH rfl) rfl (oCh rfl (λw1 h1=>c43w w1) (λ⟨la,lc⟩_=>aU4 ?_))
 refine oAl (λb2 _=>?_) YN
 refine aU7 ?_
 refine oCh rfl (λw1 h1=>c13w w1) (λ⟨pa,pc⟩_=>aU4 ?_)
 refine oAl (λb3 _=>?_) XH
 refine aU5 ?_
 refine Qg (L':=[(0,_),(1,_),(2,_),(3,_),(4,_),(6,_),(7,_),(9,_),(10,_)]) aSx (λ_ h=>h) ?_
 refine aU4 ?_
 refine XF 3 36 39 rfl
  (λhg4 _=>by
   refine aU4 ?_
   exact oJt 3 39)
  (λhg6 _=>by
   refine aU2 ?_
   exact oJf 3 39) ?_
 refine aU ?_
 refine XF 3 40 43 rfl
  (λhg8 _=>by
   refine aU4 ?_
   exact oJt 3 43)
  (λhg10 _=>by
   refine aU2 ?_
   exact oJf 3 43) ?_
 refine aU ?_
 refine XF 5 44 49 rfl
  (λhg12 _=>by
   refine aU5 ?_
   refine o_p (Qp rfl rfl Tryz.underlying9) rfl (aU2 ?_)
   refine Qh (show _=Value.bool true from by rw[Qow.1];rfl) ?_
   exact oJt 5 49)
  (λhg14 _=>by
   refine aU4 ?_
   exact oJf 5 49) ?_
 refine aU ?_
 refine XF 5 50 55 rfl
  (λhg16 _=>by
   refine aU5 ?_
   refine o_p (Qp rfl rfl Tryz.underlying9) rfl (aU2 ?_)
   refine Qh (show _=Value.bool true from by rw[Qow.2.1];rfl) ?_
   exact oJt 5 55)
  (λhg18 _=>by
   refine aU4 ?_
   exact oJf 5 55) ?_
 refine aU ?_
 refine XF 4 56 60 rfl
  (λhg20 _=>by
   refine aU6 ?_
   refine Qh (show _=Value.bool true from by rw[Qow.2.2];rfl) ?_
   exact oJt 4 60)
  (λhg22 _=>by
   refine aU3 ?_
   exact oJf 4 60) ?_
 refine aU ?_
 refine XF 3 61 64 rfl
  (λhg24 _=>by
   refine aU4 ?_
   exact oJt 3 64)
  (λhg26 _=>by
   refine aU2 ?_
   exact oJf 3 64) ?_
 refine aU ?_
 refine XF 4 65 69 rfl
  (λhg28 _=>by
   refine aU3 ?_
   refine o_h (Qe (cs:=[_]) rfl rfl QA Yp rfl rfl rfl) rfl (λb30 _=>aU ?_)
   refine oCq rfl (λw1 h1=>c15 w1 la (some ⟨b30,0,none⟩) lc 1 [2] [2] (HS.pown_row (P:=[2]) h1 aPk) (h1.rw_blk (l:=[2]) iv1 aPk) (by decide) (by decide)) ?_
   exact oJt 4 69)
  (λhg31 _=>by
   refine aU3 ?_
   exact oJf 4 69) ?_
 refine aU ?_
 refine XF 3 70 73 rfl
  (λhg33 _=>by
   refine aU4 ?_
   exact oJt 3 73)
  (λhg35 _=>by
   refine aU2 ?_
   exact oJf 3 73) ?_
 refine aU ?_
 refine XF 4 74 78 rfl
  (λhg37 _=>by
   refine aU3 ?_
   refine o_h (Qe (cs:=[_]) rfl rfl QA Yp rfl rfl rfl) rfl (λb39 _=>aU ?_)
   refine oCq rfl (λw1 h1=>c15 w1 pa (some ⟨b39,0,none⟩) pc 1 [2] [2] (HS.pown_row (P:=[2]) h1 aPk) (h1.rw_blk (l:=[2]) iv1 aPk) (by decide) (by decide)) ?_
   exact oJt 4 78)
  (λhg40 _=>by
   refine aU3 ?_
   exact oJf 4 78) ?_
 refine aU2 ?_
 exact rV
end Go.Proofs
