/- Contracts of the program's functions, proved by walking them with the rules of the Gx texts; without conditions beyond those that each contract names. -/
import Derived.WalkKit
import Derived.Deep.Draws
import Derived.TacticsIn
import Derived.OrdersIn
import Derived.RangeFuncLeaves
import Derived.Lib.Strings
import Derived.Laws.BytesArg
import Derived.Laws.IdiomStrings
import Derived.Deep.Quiet
import Derived.ProofKit
import Derived.OpenShut
import Derived.Laws.StructEq
import Derived.ChangeKeysEq
import Derived.Laws.Externs
import Derived.Lib.Overlaps
import Derived.Carry
import Derived.Laws.Small
import Derived.Lib.Bytealg
import Derived.Lib.Builder
import Derived.Laws.Pointers
import Derived.RangeFuncRecord
import Derived.Test.YtpkhkcchibbhmaaGreatDoorProg
import Derived.KernelRfl
import Derived.Test.YtpkhkcchibbhmaaGreatDoorTie
import Derived.Test.YtpkhkcchibbhmaaGreatDoorCards
import Derived.SevenTiedAt
import Derived.LaidMore
import Derived.Lay
import Derived.Stop.Joined
import Derived.Test.YtpkhkcchibbhmaaGreatDoorP2
set_option linter.unusedSimpArgs false
set_option maxHeartbeats 1000000
set_option linter.unusedVariables false
set_option linter.unusedSectionVars false
set_option linter.unnecessarySimpa false
namespace Go.Proofs
open Go Go.RowKit Gx
attribute [local irreducible] Go.Calls Gx.S Gx.O Gx.D Gx.OpP Gx.OpQ Gx.OpH
set_option maxRecDepth 20000
theorem Qwk:QK Tryz.prog 159=true:=by kernel_rfl
theorem Qrl:QK Tryz.prog 132=true:=by kernel_rfl
theorem Quh:Y2 Tryz.prog 27=some [(0,1),(1,1)]:=by kernel_rfl
instance:TFn Tryz.prog 157:=⟨by kernel_rfl⟩
instance:TFn Tryz.prog 158:=⟨by kernel_rfl⟩
theorem c92(w:World)(s:List UInt8)(p0 count:Nat)(a:Option Addr)(cap:Nat)(hs:Vl w a ((s.drop p0).map bv))(hp0:p0<=s.length)(hsl:s.length<=1000000)(hcap:s.length-p0<=cap)(hc9:cap<=9223372036854775807)(hct:count<=1000):CE 92 #[.slice a (s.length-p0) cap,.int .i64 (count:Int)] w [] (λg:LNd×Option Addr×Nat×Nat=>.tuple #[.agg (LNd.vals g.1).toArray,.slice g.2.1 g.2.2.1 g.2.2.2,.bool (rdN s p0 count).isSome]) (λg=>((∀nd e,rdN s p0 count=some (nd,e)->g.1.pl=nd/\g.2.2.1=s.length-e)/\g.1.es.length<=count/\∀x∈g.1.es,X8 x 0=true)) λg=>[.ents 27 g.1.ea g.1.ec g.1.es,.kids g.1.ca g.1.cc g.1.cs]:=by
 refine eN2 Tryz.func92 Tryz.ntmps92 ?_
 refine aU2 ?_
 refine oAl (λb1 _=>?_) Xr
 refine aT17 ?_
 refine aU3 ?_
 refine Qt (α:=Nat×RdS×(Option Addr×Nat)×(Option Addr×Nat)×(Option Addr×Nat)) [0,5,6,7,8,9,10,11,12,13,14,19,20,21,22,23,24,25,26,27,28,29,30,31,32,33,34,35,36,37,38,39,40,41,42,43,44,45,46,47,48,49,50,51,52,53,54,55,56,57,58,59,60,61,62,63,64,65,66,67,68,69,70,71,72,73,74,75,76,77,78,79,80,81,82,83,84,85,86,87,88,89,90,91,92,93,94,95,96,97,98,99,100,101,102,103,104,105,106,107,108,109,110,111,112,113,114] (λx=>[(19,.int .i64 (x.1:Int)),(7,.slice x.2.2.2.1.1 x.2.1.cs.length x.2.2.2.1.2),(0,.slice x.2.2.2.2.1 (s.length-x.2.1.p) x.2.2.2.2.2)]) (λx=>HS w [] [.blk b1 69 3 [.bool true,.slice x.2.2.1.1 x.2.1.es.length x.2.2.1.2,.slice none 0 0],.own (.slice x.2.2.1.1 x.2.1.es.length x.2.2.1.2) 27 2 x.2.1.es.length (x.2.1.es.flatMap TEnt.vals),.own (.slice x.2.2.2.1.1 x.2.1.cs.length x.2.2.2.1.2) 3 1 x.2.1.cs.length (x.2.1.cs.flatMap inV)]) (λx=>x.1<=count+1/\stR s p0 count x.1=some x.2.1/\Vl w x.2.2.2.2.1 ((s.drop x.2.1.p).map bv)/\s.length-x.2.1.p<=x.2.2.2.2.2/\x.2.2.2.2.2<=9223372036854775807) (λx=>count+1-x.1) (0,⟨[],[],p0⟩,(none,0),(none,0),(a,cap)) ⟨Nat.zero_le _,QeT (Nat.zero_le _),hs,hcap,hc9⟩ aSx (λw h=>((h.own_nil 27 2).own_nil 3 1).ent aEt) (λ⟨k,r,⟨ea,ec⟩,⟨da,dc⟩,⟨ba,bc⟩⟩hk1=>?_)
 dsimp only
 simp only[]at hk1
 obtain⟨hk2,hst,hv,hbc,hbm⟩:=hk1
 obtain⟨hp1,hp2,hle,hlc⟩:=QuJ hp0 hst hk2
 have hdl:(s.drop r.p).length=s.length-r.p:=List.length_drop
 refine aU5 ?_
 refine sCd rfl (λh2=>?_) λh2=>?_
 ·have hk:k<count+1:=by omega
  refine Qv4 ?_
  refine sCd rfl (λh3=>?_) λh3=>?_
  ·have hN:rdN s p0 count=none:=QmC hst hk (λh9=>by have hq:=h3;have:=h9.1;omega)
   refine aU7 ?_
   exact Ql (rs:=[.cell 4 69,.tmp 5,.tmp 6]) rfl (.cell rfl Xo aPk rfl (.tmp rfl (.tmp rfl (.nil)))) (λw' h'=>⟨(⟨true,ea,ec,r.es,none,0,[]⟩,none,0,0),by rw[hN];rfl,⟨λ_ _ h9=>(by rw[hN]at h9;cases h9),QbH hp0 hst hk2⟩,(h'.own_nil 3 1).ent aEt⟩)
  have h8:r.p+8<=s.length:=by have hq:=h3;omega
  have hb2:=QcO s r.p
  have hbk:=Yj s (r.p+2)
  have hbv:=Yj s (r.p+3)
  have hb4:=Qnn s (r.p+4)
  have hsz:Xq s r.p=8+ub1 s (r.p+2)+ub1 s (r.p+3):=rfl
  have hb12:((s.drop r.p).getD 2 0).toNat=ub1 s (r.p+2):=Qnx s r.p 2
  have hb13:((s.drop r.p).getD 3 0).toNat=ub1 s (r.p+3):=Qnx s r.p 3
  have ha2:at2 (s.drop r.p) 0=((ub2 s r.p:Nat):Int):=by rw[Qba,Nat.add_zero,Qcm]
  have ha4:at4 (s.drop (r.p+4)) 0=((ub4 s (r.p+4):Nat):Int):=by rw[Qgo,Nat.add_zero,Qgq]
  refine aU2 ?_
  refine Qz [] QJ ?_
  refine dP 0 ?_
  refine dQ 1 [] rfl (Qr rfl QiU rfl (λw1 h1=>Qtf w1 ba (s.length-r.p) bc (s.drop r.p) (hv.later h1) hdl om hbc hbm)) (dV 2 rfl (Qp rfl rfl Ys YP) ?_)
  try refine dWr ?_
  refine QC (show _=Value.int .i64 ((ub2 s r.p:Nat):Int)from by first|exact congrArg (Value.int .i64) ha2|(rw[ha2];exact QeY om om)) (dP 3 ?_)
  refine dV 4 rfl (Qa rfl rfl rfl QB 2 rfl om (hv.some (by rw[List.length_map,List.length_drop];omega))) (dQ 5 [] rfl (Qb rfl rfl Qen ((hv.rd (i:=2) (Qaj (l:=(s.drop r.p)) (k:=2) om)))) (dV 6 rfl (Qp rfl rfl Zh YP) ?_))
  try refine dWr ?_
  refine QC (show _=Value.int .i64 ((ub1 s (r.p+2):Nat):Int)from by first|exact congrArg (λz:Nat=>Value.int .i64 (z:Int)) hb12|(rw[hb12];exact QeY om om)) (dP 7 ?_)
  refine dV 8 rfl (Qa rfl rfl rfl QB 3 rfl om (hv.some (by rw[List.length_map,List.length_drop];omega))) (dQ 9 [] rfl (Qb rfl rfl Qen ((hv.rd (i:=3) (Qaj (l:=(s.drop r.p)) (k:=3) om)))) (dV 10 rfl (Qp rfl rfl Zh YP) ?_))
  try refine dWr ?_
  refine QC (show _=Value.int .i64 ((ub1 s (r.p+3):Nat):Int)from by first|exact congrArg (λz:Nat=>Value.int .i64 (z:Int)) hb13|(rw[hb13];exact QeY om om)) (dP 11 ?_)
  refine dV 12 rfl (QA _ _ 4 (s.length-r.p) rfl rfl QB ⟨_,_,rfl,rfl⟩ rfl om om) (dQ 13 [] rfl (Qr rfl Qrl rfl (λw1 h1=>c132 w1 (XU ba bc 4 1) (s.length-r.p-4) (bc-4) (s.drop (r.p+4)) (by have h9:=(hv.later h1).dropA (k:=4) (cap:=bc) (by rw[List.length_map,hdl];omega) (by rw[List.length_map,hdl];omega);rw[<-List.map_drop,List.drop_drop]at h9;exact h9) (by rw[List.length_drop];omega) om om om)) (dV 14 rfl (Qp rfl rfl Y3 YP) ?_))
  try refine dWr ?_
  refine QC (show _=Value.int .i64 ((ub4 s (r.p+4):Nat):Int)from by first|exact congrArg (Value.int .i64) ha4|(rw[ha4];exact QeY om om)) (dP 15 ?_)
  refine dP 16 ?_
  refine dP 17 ?_
  refine dP 18 ?_
  refine dNi ?_
  refine aU2 ?_
  refine Qj (L':=[(0,_),(1,_),(4,_),(7,_),(8,_),(9,_),(10,_),(11,_),(12,_),(16,_),(17,_),(18,_),(19,_)]) aSx (λ_ h=>h) ?_
  refine aU4 ?_
  refine oOr 5 43 48 rfl
   (λhg4 _=>by
    refine aU8 ?_
    exact oJf 5 48)
   (λhg6 _=>by
    refine aU4 ?_
    exact oJt 5 48) ?_
  refine aU ?_
  refine oOr 7 49 56 rfl
   (λhg8 _=>by
    refine aT6 ?_
    refine aT4 ?_
    refine aU2 ?_
    exact oJf 7 56)
   (λhg10 _=>by
    refine aU6 ?_
    exact oJt 7 56) ?_
  refine aU ?_
  refine sCd rfl (λh12=>?_) λh12=>?_
  ·have hN:rdN s p0 count=none:=QmC hst hk (λh9=>by have hq:=h12;obtain⟨q1,q2,q3,q4⟩:=h9;grind)
   refine aU7 ?_
   exact Ql (rs:=[.cell 4 69,.tmp 5,.tmp 6]) rfl (.cell rfl Xo aPk rfl (.tmp rfl (.tmp rfl (.nil)))) (λw' h'=>⟨(⟨true,ea,ec,r.es,none,0,[]⟩,none,0,0),by rw[hN];rfl,⟨λ_ _ h9=>(by rw[hN]at h9;cases h9),QbH hp0 hst hk2⟩,(h'.own_nil 3 1).ent aEt⟩)
  have h4:Qs8 s r.p:=by have hq:=h12;refine⟨h8,?_,?_,?_⟩<;>grind
  obtain⟨_,h41,h42,h43⟩:=id h4
  obtain⟨hes,hkl,hvl⟩:=Qd7 (s:=s) (p:=r.p) om
  refine aU2 ?_
  refine Qz [16] QJ ?_
  refine dP 0 ?_
  refine dP 1 ?_
  refine dP 2 ?_
  try refine dWr ?_
  refine dV 3 rfl (QA _ _ 8 (8+ub1 s (r.p+2)) rfl rfl QB ⟨_,_,rfl,rfl⟩ ⟨_,_,rfl,om⟩ om om) (dQ 4 [[]] rfl (ZJ (Xd s r.p).key rfl rfl Tryz.underlying139 Tryz.underlying9 Tryz.underlying5 (by rw[hkl];omega) (by have h9:=hv.sub (cap:=bc) (lo:=8) (n:=ub1 s (r.p+2)) (by rw[hdl];omega) (by rw[hdl];omega);rw[QeS]at h9;exact h9)) (dP 5 ?_))
  refine dP 6 ?_
  refine dP 7 ?_
  try refine dWr ?_
  refine dP 8 ?_
  refine dP 9 ?_
  try refine dWr ?_
  refine dP 10 ?_
  refine dP 11 ?_
  try refine dWr ?_
  refine dV 12 rfl (QA _ _ (8+ub1 s (r.p+2)) (8+ub1 s (r.p+2)+ub1 s (r.p+3)) rfl rfl QB ⟨_,_,rfl,om⟩ ⟨_,_,rfl,om⟩ om om) (dQ 13 [[]] rfl (ZJ (Xd s r.p).val rfl rfl Tryz.underlying139 Tryz.underlying9 Tryz.underlying5 (by rw[hvl];omega) (by have h9:=hv.sub (cap:=bc) (lo:=8+ub1 s (r.p+2)) (n:=ub1 s (r.p+3)) (by rw[hdl];omega) (by rw[hdl];omega);rw[QeS,<-Nat.add_assoc]at h9;exact h9)) (dV 14 rfl (QE (cs:=[_,_]) rfl rfl Quh Z0 rfl) (dH 15 rfl (ZA rfl Z0) (λb13 _=>dBa ?_))))
  refine dSt 16 ?_ (hl:=(by simp only[Qf,List.length_set,List.length_cons,List.length_nil,List.length_map];omega))
  refine dTu [] ?_
  refine dNi ?_
  refine aU ?_
  refine Qj (L':=[(0,_),(1,_),(4,_),(7,_),(8,_),(9,_),(10,_),(11,_),(12,_),(13,_),(16,_),(17,_),(18,_),(19,_)]) aSx (λ_ h=>h) ?_
  refine aU2 ?_
  refine XB (λw h=>h.byz_nil) (o_h (Q1 (Cs:=[.byz none 0 []]) rfl Qpk rfl aPs (λw1 h1 hf=>c156 w1 none 0 [] ((ub4 s (r.p+4):Nat):Int) hf om (Nat.zero_le _))) rfl (λ⟨b14,c15⟩hz16=>aU9 ?_))
  refine Ye (α:=(Option Addr×Nat)×(Option Addr×Nat)) [5,6,14,78,79,80,81,82,83,84,85,86,87,88,89,90,91,92,93,94,95,96,97,98,99] (λy=>[(14,.slice y.1.1 (Qk1 s r.p k count).length y.1.2)]) (λy=>HS w [] [.blk b1 69 3 [.bool true,.slice y.2.1 (esR s r k count).length y.2.2,.slice none 0 0],.own (.slice y.2.1 (esR s r k count).length y.2.2) 27 2 (esR s r k count).length ((esR s r k count).flatMap TEnt.vals),.own (.slice da r.cs.length dc) 3 1 r.cs.length (r.cs.flatMap inV),.byz y.1.1 y.1.2 (Qk1 s r.p k count)]) (λ_=>k<count->X8 (Xd s r.p) (ub4 s (r.p+4))=true) ?_ ?_
  ·skip
   refine sCd rfl (λh17=>?_) λh17=>?_
   ·have hkc:k<count:=by have hq:=h17;omega
    refine aU4 ?_
    refine oCq rfl (λw1 h1=>c87 w1 _ _ _) (aU2 ?_)
    refine oOr 3 81 84 rfl
     (λhg18 _=>by
      refine aU4 ?_
      exact oJf 3 84)
     (λhg20 _=>by
      refine aU2 ?_
      exact oJt 3 84) ?_
    refine aU ?_
    refine oOr 4 85 89 rfl
     (λhg22 _=>by
      refine aU3 ?_
      refine oCq rfl (λw1 h1=>c88 w1 _ om om) (aU2 ?_)
      exact oJf 4 89)
     (λhg24 _=>by
      refine aU3 ?_
      exact oJt 4 89) ?_
    refine aU ?_
    refine sCd rfl (λh26=>?_) λh26=>?_
    ·have hN:rdN s p0 count=none:=QiQ hst hkc (QmV (by rw[Qf3 h41];have hq:=h26;grind))
     refine aU7 ?_
     exact Ql (rs:=[.cell 4 69,.tmp 5,.tmp 6]) rfl (.cell rfl Xo aPk rfl (.tmp rfl (.tmp rfl (.nil)))) (λw' h'=>⟨(⟨true,ea,ec,r.es,none,0,[]⟩,none,0,0),by rw[hN];rfl,⟨λ_ _ h9=>(by rw[hN]at h9;cases h9),QbH hp0 hst hk2⟩,(h'.own_nil 3 1).ent aEt⟩)
    have hK:X8 (Xd s r.p) (ub4 s (r.p+4))=true:=by rw[Qf3 h41];have hq:=h26;grind
    refine aU5 ?_
    refine XB (λw h=>h.byz_nil) (o_h (Q1 (Cs:=[.byz none 0 []]) rfl Qum rfl aPs (λw1 h1 hf=>c89 w1 none 0 [] (Xd s r.p) ((ub4 s (r.p+4):Nat):Int) hf (Nat.zero_le _) rfl om om om)) rfl (λ⟨b27,c28⟩hz29=>aU2 ?_))
    refine Qj (L':=[(0,_),(1,_),(4,_),(7,_),(8,_),(9,_),(10,_),(11,_),(12,_),(13,_),(14,_),(16,_),(17,_),(18,_),(19,_),(73,_),(74,_),(75,_),(76,_),(77,_)]) aSx (λ_ h=>h) ?_
    refine aU4 ?_
    refine o_h (Qk (cs:=[_,_]) rfl rfl Q3 Z0 rfl rfl rfl) rfl (λb30 _=>o_h (Xe ((Xd s r.p).vals) rfl rfl rfl Q3 Tryz.underlying67 Z0 rfl aPk (Xg aPk) rfl (ev1 _) om (by simp only[maxLen];omega)) rfl (λb31 _=>aU3 ?_))
    exact Qo ((b27,c28),(b31.1,b31.2)) (λ_=>hK) (by dsimp only;rw[QiX hkc];exact aSx) (λw h=>by dsimp only;rw[QiX hkc,QpP hkc,List.length_append,QdE];exact h.ent aEt)
   have hkc:¬k<count:=by have hq:=h17;omega
   refine aU ?_
   exact Qo ((b14,c15),(ea,ec)) (λh9=>absurd h9 hkc) (by dsimp only;rw[Qjh hkc];exact aSx) (λw h=>by dsimp only;rw[Qjh hkc,QpH hkc];exact h.ent aEt)
  intro⟨⟨o1,o2⟩,⟨e1,e2⟩⟩ hKK
  refine aU6 ?_
  refine o_p (QA _ _ 0 (ub2 s r.p) rfl rfl QB rfl ⟨_,_,rfl,rfl⟩ om om) rfl (Qm (show _=Value.slice (XU ba bc 0 1) (Qq s r.p (ub2 s r.p)).length (bc-0)from by rw[Xm h42];rfl) (oCq rfl (λw1 h1=>c157 w1 o1 (XU ba bc 0 1) o2 (bc-0) (Qk1 s r.p k count) (Qq s r.p (ub2 s r.p)) (h1.vl_byz aPk) (by have h9:=(hv.later h1).sub (cap:=bc) (lo:=0) (n:=(ub2 s r.p)) (by rw[hdl];omega) (by rw[hdl];omega);rw[QeS,Nat.add_zero]at h9;exact h9)) (aU2 ?_)))
  refine sCd rfl (λh32=>?_) λh32=>?_
  ·have hN:rdN s p0 count=none:=Quy hst hk h4 hKK (by have hq:=h32;simpa using hq)
   refine aU7 ?_
   exact Ql (rs:=[.cell 4 69,.tmp 5,.tmp 6]) rfl (.cell rfl Xo aPk rfl (.tmp rfl (.tmp rfl (.nil)))) (λw' h'=>⟨(⟨true,e1,e2,esR s r k count,none,0,[]⟩,none,0,0),by rw[hN];rfl,⟨λ_ _ h9=>(by rw[hN]at h9;cases h9),Qvo hp0 hst hk hKK⟩,(h'.own_nil 3 1).ent aEt⟩)
  have how:Qk1 s r.p k count=Qq s r.p (ub2 s r.p):=by have hq:=h32;simpa using hq
  have hnx:=QuZ hst hk h4 hKK how
  have hvn:Vl w (XU ba bc (ub2 s r.p) 1) ((s.drop (r.p+(ub2 s r.p))).map bv):=by have h9:=hv.dropA (k:=(ub2 s r.p)) (cap:=bc) (by rw[List.length_map,hdl];omega) (by rw[List.length_map,hdl];omega);rw[<-List.map_drop,List.drop_drop]at h9;exact h9
  refine aU ?_
  refine Qz [3] QJ ?_
  refine dP 0 ?_
  refine dP 1 ?_
  refine dP 4 ?_
  refine dP 5 ?_
  refine dV 6 rfl (QA _ _ (ub2 s r.p) (s.length-r.p) rfl rfl QB ⟨_,_,rfl,rfl⟩ rfl om om) (QC (show _=Value.slice (XU ba bc (ub2 s r.p) 1) (s.length-(r.p+(ub2 s r.p))) (bc-(ub2 s r.p))from by rw[Nat.sub_sub]) (dH 2 rfl (Qk (cs:=[_]) rfl rfl QW Qcf rfl rfl rfl) (λb33 _=>dBa ?_)))
  refine dH 3 rfl (Xe (inV ((ub4 s (r.p+4):Nat):Int)) rfl rfl rfl QW Tryz.underlying28 Qcf rfl aPk (Xg aPk) rfl (Qs1 _) om (by simp only[maxLen];omega)) (λb34 _=>dTu [] ?_)
  refine dP 7 ?_
  refine dP 8 ?_
  refine dNi ?_
  refine aU ?_
  refine Qj (L':=[(0,_),(1,_),(4,_),(7,_),(16,_),(17,_),(18,_),(19,_)]) aSx (λ_ h=>h) ?_
  refine aT2 ?_
  refine aU2 ?_
  exact QO (k+1,⟨esR s r k count,r.cs++[((ub4 s (r.p+4):Nat):Int)],r.p+(ub2 s r.p)⟩,(e1,e2),(b34.1,b34.2),(XU ba bc (ub2 s r.p) 1,bc-(ub2 s r.p))) (by(try simp only[]);omega) (by simp only[];exact⟨om,hnx,hvn,om,om⟩) (by dsimp only;rw[List.length_append];exact aSx) (λw h=>by dsimp only;rw[List.length_append,QdE];exact h.ent aEt)
 obtain rfl:k=count+1:=om
 have hN:=QsO hst
 refine Qh rfl ?_
 refine aU4 ?_
 refine oCq rfl (λw1 h1=>c62 w1 da dc r.cs 0 (h1.rw_own iv1 aPk rfl) om) (aU9 ?_)
 refine sCd rfl (λh35=>?_) λh35=>?_
 ·have hz:noz r.cs=true:=by rw[QnE];have hq:=h35;simpa using hq
  rw[hz]at hN
  have hN:rdN s p0 count=some (⟨true,r.es,r.cs⟩,r.p):=hN
  refine QgU ?_
  exact Ql (rs:=[.cell 4 69,.tmp 5,.tmp 6]) rfl (.cell rfl Xo aPk rfl (.tmp rfl (.tmp rfl (.nil)))) (λw' h'=>by first|exact⟨(⟨true,ea,ec,r.es,da,dc,r.cs⟩,ba,s.length-r.p,bc),by rw[hN];rfl,⟨λnd e h9=>by(rw[hN]at h9;injection h9 with h9;injection h9 with q1 q2;subst q1 q2;exact⟨rfl,rfl⟩),QbH hp0 hst hk2⟩,h'.ent aEt⟩|exact⟨(⟨true,ea,ec,r.es,none,0,[]⟩,ba,s.length-r.p,bc),by rw[hN];rfl,⟨λnd e h9=>by(rw[hN]at h9;injection h9 with h9;injection h9 with q1 q2;subst q1 q2;exact⟨rfl,rfl⟩),QbH hp0 hst hk2⟩,(h'.own_nil 3 1).ent aEt⟩)
 have hz:noz r.cs=false:=by rw[QnE];have hq:=h35;simpa using hq
 rw[hz]at hN
 refine aU3 ?_
 refine oCq rfl (λw1 h1=>c158 w1 da dc r.cs 159 #[] (nzB r.cs) (h1.rw_own iv1 aPk rfl) om Qwk (by simp[nzB]) (λk w2 hk h2=>by rw[QtJ hk];exact c159 w2 (nth r.cs k))) (aU2 ?_)
 refine sCd rfl (λh36=>?_) λh36=>?_
 ·have hz2:QdF r.cs=false:=by have hq:=h36;rw[QmO]at hq;simpa using hq
  rw[hz2]at hN
  have hN:rdN s p0 count=none:=hN
  refine aU7 ?_
  exact Ql (rs:=[.cell 4 69,.tmp 5,.tmp 6]) rfl (.cell rfl Xo aPk rfl (.tmp rfl (.tmp rfl (.nil)))) (λw' h'=>⟨(⟨true,ea,ec,r.es,none,0,[]⟩,none,0,0),by rw[hN];rfl,⟨λ_ _ h9=>(by rw[hN]at h9;cases h9),QbH hp0 hst hk2⟩,(h'.own_nil 3 1).ent aEt⟩)
 have hz2:QdF r.cs=true:=by have hq:=h36;rw[QmO]at hq;simpa using hq
 rw[hz2]at hN
 have hN:rdN s p0 count=some (⟨true,r.es,[]⟩,r.p):=hN
 refine YR ?_
 exact Ql (rs:=[.cell 4 69,.tmp 5,.tmp 6]) rfl (.cell rfl Xo aPk rfl (.tmp rfl (.tmp rfl (.nil)))) (λw' h'=>by first|exact⟨(⟨true,ea,ec,r.es,da,dc,r.cs⟩,ba,s.length-r.p,bc),by rw[hN];rfl,⟨λnd e h9=>by(rw[hN]at h9;injection h9 with h9;injection h9 with q1 q2;subst q1 q2;exact⟨rfl,rfl⟩),QbH hp0 hst hk2⟩,h'.ent aEt⟩|exact⟨(⟨true,ea,ec,r.es,none,0,[]⟩,ba,s.length-r.p,bc),by rw[hN];rfl,⟨λnd e h9=>by(rw[hN]at h9;injection h9 with h9;injection h9 with q1 q2;subst q1 q2;exact⟨rfl,rfl⟩),QbH hp0 hst hk2⟩,(h'.own_nil 3 1).ent aEt⟩)
instance:TFn Tryz.prog 53:=⟨by kernel_rfl⟩
instance:TFn Tryz.prog 29:=⟨by kernel_rfl⟩
theorem c98(w:World)(s:List UInt8)(p0 count:Nat)(hp0:p0<=s.length)(hsl:s.length<=1000000)(hct:count<=1000):CE 98 #[.string (bs s),.int .i64 (p0:Int),.int .i64 (count:Int)] w [] (λg:LNd×Nat=>.tuple #[.agg (LNd.vals g.1).toArray,.int .i64 (g.2:Int),.bool (rdN s p0 count).isSome]) (λg=>((∀nd e,rdN s p0 count=some (nd,e)->g.1.pl=nd/\g.2=e)/\g.1.es.length<=count/\∀x∈g.1.es,X8 x 0=true)) λg=>[.ents 27 g.1.ea g.1.ec g.1.es,.kids g.1.ca g.1.cc g.1.cs]:=by
 refine eN3 Tryz.func98 Tryz.ntmps98 ?_
 refine aU2 ?_
 refine oAl (λb1 _=>?_) Xr
 refine aU5 ?_
 refine o_p (QE (cs:=[_,_,_]) rfl rfl Qfj Xr rfl) rfl (oAl (λb2 _=>?_) Xr)
 refine Qay ?_
 refine Qt (α:=Nat×RdS×(Option Addr×Nat)×(Option Addr×Nat)) [1,7,8,10,11,12,13,14,15,16,17,21,22,23,24,25,26,27,28,29,30,31,32,33,34,35,36,37,38,39,40,41,42,43,44,45,46,47,48,49,50,51,52,53,54,55,56,57,58,59,60,61,62,63,64,65,66,67,68,69,70,71,72,73,74,75,76,77,78,79,80,81,82,83,84,85,86,87,88,89,90,91,92,93,94,95,96,97,98,99,100,101,102,103,104,105,106,107,108,109,110,111,112,113,114,115,116,117] (λx=>[(11,.int .i64 (x.1:Int)),(1,.int .i64 (x.2.1.p:Int)),(10,.slice x.2.2.2.1 x.2.1.cs.length x.2.2.2.2)]) (λx=>HS w [] [.blk b2 69 3 [.bool true,.slice x.2.2.1.1 x.2.1.es.length x.2.2.1.2,.slice none 0 0],.own (.slice x.2.2.1.1 x.2.1.es.length x.2.2.1.2) 27 2 x.2.1.es.length (x.2.1.es.flatMap TEnt.vals),.own (.slice x.2.2.2.1 x.2.1.cs.length x.2.2.2.2) 3 1 x.2.1.cs.length (x.2.1.cs.flatMap inV),.blk b1 69 3 [.bool false,.slice none 0 0,.slice none 0 0]]) (λx=>x.1<=count/\rdE s p0 x.1=some x.2.1) (λx=>count-x.1) (0,⟨[],[],p0⟩,(none,0),(none,0)) ⟨Nat.zero_le _,rfl⟩ aSx (λw h=>((h.own_nil 27 2).own_nil 3 1).ent aEt) (λ⟨k,r,⟨ea,ec⟩,⟨da,dc⟩⟩hk1=>?_)
 dsimp only
 simp only[]at hk1
 obtain⟨hk2,hst⟩:=hk1
 obtain⟨hle,hlc,hp1,hp2,_,hee,_⟩:=Qbz hp0 hst
 refine aU7 ?_
 refine sCd rfl (λh3=>?_) λh3=>?_
 ·have hk:k<count:=by omega
  refine aT8 ?_
  refine aU ?_
  refine o_p (Qg rfl rfl Tryz.underlying9) rfl (aU2 ?_)
  refine sCd rfl (λh4=>?_) λh4=>?_
  ·have hN:rdN s p0 count=none:=QfQ hst hk (Qlf (λh9=>by have hq:=h4;have:=h9.1;omega)).1
   refine aU7 ?_
   exact Ql (rs:=[.cell 6 69,.tmp 7,.tmp 8]) rfl (.cell rfl Xo aPk rfl (.tmp rfl (.tmp rfl (.nil)))) (λw' h'=>⟨(⟨true,ea,ec,r.es,none,0,[]⟩,0),by rw[hN];rfl,⟨λ_ _ h9=>(by rw[hN]at h9;cases h9),by show r.es.length<=_;omega,hee⟩,(h'.own_nil 3 1).ent aEt⟩)
  have h8:r.p+8<=s.length:=by have hq:=h4;omega
  have hb2:=QcO s r.p
  have hbk:=Yj s (r.p+2)
  have hbv:=Yj s (r.p+3)
  have hb4:=Qnn s (r.p+4)
  have hsz:Xq s r.p=8+ub1 s (r.p+2)+ub1 s (r.p+3):=rfl
  have hp8:=XT (Xq s r.p)
  refine aU5 ?_
  refine oCq rfl (λw1 h1=>by have h9:=c72 w1 s (r.p) 2 om om om;rw[QcQ,Qcm]at h9;exact h9) (aT3 ?_)
  refine oCq rfl (λw1 h1=>by have h9:=c72 w1 s (r.p+2) 1 om om om;rw[QdP,Qko]at h9;exact h9) (aT3 ?_)
  refine oCq rfl (λw1 h1=>by have h9:=c72 w1 s (r.p+3) 1 om om om;rw[QdP,Qko]at h9;exact h9) (aT3 ?_)
  refine oCq rfl (λw1 h1=>by have h9:=c72 w1 s (r.p+4) 4 om om om;rw[Zo,Qgq]at h9;exact h9) (aU6 ?_)
  refine Qj (L':=[(0,_),(1,_),(2,_),(6,_),(9,_),(10,_),(11,_),(12,_),(13,_),(14,_),(15,_),(20,_)]) aSx (λ_ h=>h) ?_
  refine aT3 ?_
  refine aT2 ?_
  refine Qm (show _=Value.int .i64 ((Xq s r.p:Nat):Int)from congrArg (Value.int .i64) om) (aU7 ?_)
  refine oCq rfl (λw1 h1=>c95 w1 (Xq s r.p) om) (aU2 ?_)
  refine oOr 7 55 62 rfl
   (λhg5 _=>by
    refine aT6 ?_
    refine aU3 ?_
    refine o_p (Qg rfl rfl Tryz.underlying9) rfl (aU2 ?_)
    exact oJf 7 62)
   (λhg7 _=>by
    refine aU6 ?_
    exact oJt 7 62) ?_
  refine aU ?_
  refine oOr 11 63 74 rfl
   (λhg9 _=>by
    refine aT8 ?_
    refine aT6 ?_
    refine aU ?_
    refine o_p (Xj _ _ (r.p+Xq s r.p) (r.p+ub2 s r.p) rfl rfl Tryz.underlying9 ⟨_,_,rfl,om⟩ ⟨_,_,rfl,om⟩ om om) rfl (Qm (show _=Value.string (bs (Qq s (r.p+Xq s r.p) (ub2 s r.p-Xq s r.p)))from by rw[Qa5];congr 3;omega) (aU ?_))
    refine oCq rfl (λw1 h1=>c53 w1 (Qq s (r.p+Xq s r.p) (ub2 s r.p-Xq s r.p)) (by rw[Xm om];omega)) (aU2 ?_)
    exact oJf 11 74)
   (λhg11 _=>by
    refine YR ?_
    exact oJt 11 74) ?_
  refine aU ?_
  refine sCd rfl (λh13=>?_) λh13=>?_
  ·have hN:rdN s p0 count=none:=QfQ hst hk (Qsm (λh9=>by have hq:=h13;obtain⟨q1,q2,q3⟩:=h9;grind))
   refine aU7 ?_
   exact Ql (rs:=[.cell 6 69,.tmp 7,.tmp 8]) rfl (.cell rfl Xo aPk rfl (.tmp rfl (.tmp rfl (.nil)))) (λw' h'=>⟨(⟨true,ea,ec,r.es,none,0,[]⟩,0),by rw[hN];rfl,⟨λ_ _ h9=>(by rw[hN]at h9;cases h9),by show r.es.length<=_;omega,hee⟩,(h'.own_nil 3 1).ent aEt⟩)
  have h4:ub2 s r.p=QH (Xq s r.p)/\r.p+ub2 s r.p<=s.length/\zer (Qq s (r.p+Xq s r.p) (ub2 s r.p-Xq s r.p))=true:=by have hq:=h13;grind
  obtain⟨hes,hkl,hvl⟩:=Qd7 (s:=s) (p:=r.p) om
  refine aU2 ?_
  refine Qz [19] QJ ?_
  refine dP 0 ?_
  refine dP 1 ?_
  refine dP 2 ?_
  try refine dWr ?_
  refine dP 3 ?_
  refine dP 4 ?_
  try refine dWr ?_
  refine dP 5 ?_
  refine dP 6 ?_
  try refine dWr ?_
  refine dV 7 rfl (Xj _ _ (r.p+8) (r.p+8+ub1 s (r.p+2)) rfl rfl Tryz.underlying9 ⟨_,_,rfl,om⟩ ⟨_,_,rfl,om⟩ om om) (QC (show _=Value.string (bs (Xd s r.p).key)from by rw[Qa5];congr 2;show Qq _ _ _=Qq _ _ _;congr 1;omega) (dP 8 ?_))
  refine dP 9 ?_
  refine dP 10 ?_
  try refine dWr ?_
  refine dP 11 ?_
  refine dP 12 ?_
  try refine dWr ?_
  refine dP 13 ?_
  refine dP 14 ?_
  refine dP 15 ?_
  try refine dWr ?_
  refine dV 16 rfl (Xj _ _ (r.p+8+ub1 s (r.p+2)) (r.p+Xq s r.p) rfl rfl Tryz.underlying9 ⟨_,_,rfl,om⟩ ⟨_,_,rfl,om⟩ om om) (QC (show _=Value.string (bs (Xd s r.p).val)from by rw[Qa5];congr 2;show Qq _ _ _=Qq _ _ _;congr 1;omega) (dV 17 rfl (QE (cs:=[_,_]) rfl rfl Quh Z0 rfl) (dH 18 rfl (ZA rfl Z0) (λb14 _=>dBa ?_))))
  refine dSt 19 ?_ (hl:=(by simp only[Qf,List.length_set,List.length_cons,List.length_nil,List.length_map];omega))
  refine dTu [] ?_
  refine dNi ?_
  refine aU2 ?_
  refine Qj (L':=[(0,_),(1,_),(2,_),(6,_),(9,_),(10,_),(11,_),(12,_),(15,_),(17,_),(20,_)]) aSx (λ_ h=>h) ?_
  refine aU3 ?_
  refine oCq rfl (λw1 h1=>c29 w1 (Xd s r.p) ((ub4 s (r.p+4):Nat):Int) om om) (aU2 ?_)
  refine oOr 5 98 103 rfl
   (λhg15 _=>by
    refine aU5 ?_
    refine o_p (Qg rfl rfl Tryz.underlying9) rfl (aU2 ?_)
    exact oJf 5 103)
   (λhg17 _=>by
    refine aU4 ?_
    exact oJt 5 103) ?_
  refine aU ?_
  refine sCd rfl (λh19=>?_) λh19=>?_
  ·have hN:rdN s p0 count=none:=QfQ hst hk (QmV (by rw[QjD];have hq:=h19;grind))
   refine aU7 ?_
   exact Ql (rs:=[.cell 6 69,.tmp 7,.tmp 8]) rfl (.cell rfl Xo aPk rfl (.tmp rfl (.tmp rfl (.nil)))) (λw' h'=>⟨(⟨true,ea,ec,r.es,none,0,[]⟩,0),by rw[hN];rfl,⟨λ_ _ h9=>(by rw[hN]at h9;cases h9),by show r.es.length<=_;omega,hee⟩,(h'.own_nil 3 1).ent aEt⟩)
  have hK:X8 (Xd s r.p) (ub4 s (r.p+4))=true:=by rw[QjD];have hq:=h19;grind
  have hok:=QsY h8 h4 hK
  refine aU6 ?_
  refine o_h (Qk (cs:=[_,_]) rfl rfl Q3 Z0 rfl rfl rfl) rfl (λb20 _=>o_h (Xe ((Xd s r.p).vals) rfl rfl rfl Q3 Tryz.underlying67 Z0 rfl aPk (Xg aPk) rfl (ev1 _) om (by simp only[maxLen];omega)) rfl (λb21 _=>aU2 ?_))
  refine o_h (Qk (cs:=[_]) rfl rfl QW Qcf rfl rfl rfl) rfl (λb22 _=>o_h (Xe (inV ((ub4 s (r.p+4):Nat):Int)) rfl rfl rfl QW Tryz.underlying28 Qcf rfl aPk (Xg aPk) rfl (Qs1 _) om (by simp only[maxLen];omega)) rfl (λb23 _=>aT8 ?_))
  refine aU3 ?_
  refine Qj (L':=[(0,_),(1,_),(2,_),(6,_),(9,_),(10,_),(11,_),(20,_)]) aSx (λ_ h=>h) ?_
  refine aT3 ?_
  refine aU2 ?_
  exact QO (k+1,⟨r.es++[Xd s r.p],r.cs++[((ub4 s (r.p+4):Nat):Int)],r.p+ub2 s r.p⟩,(b21.1,b21.2),(b23.1,b23.2)) (by(try simp only[]);omega) ⟨by(try simp only[]);omega,Qcn hst hok⟩ (by dsimp only;rw[List.length_append];exact aSx) (λw h=>by dsimp only;rw[@List.length_append _ r.es _,@List.length_append _ r.cs _,QdE,QdE];exact h.ent aEt)
 obtain rfl:k=count:=om
 refine Qh rfl ?_
 refine aT5 ?_
 refine aU ?_
 refine o_p (Qg rfl rfl Tryz.underlying9) rfl (aU2 ?_)
 refine oOr 5 123 128 rfl
  (λhg24 _=>by
   refine aU5 ?_
   refine oCq rfl (λw1 h1=>by have h9:=c72 w1 s (r.p) 2 om om om;rw[QcQ,Qcm]at h9;exact h9) (aU2 ?_)
   exact oJf 5 128)
  (λhg26 _=>by
   refine aU4 ?_
   exact oJt 5 128) ?_
 refine aU ?_
 refine oOr 6 129 135 rfl
  (λhg28 _=>by
   refine aT6 ?_
   refine aU ?_
   refine oCq rfl (λw1 h1=>by have h9:=c72 w1 s (r.p+2) 2 om om om;rw[QcQ,Qcm]at h9;exact h9) (aU2 ?_)
   exact oJf 6 135)
  (λhg30 _=>by
   refine aU5 ?_
   exact oJt 6 135) ?_
 refine aU ?_
 refine oOr 7 136 143 rfl
  (λhg32 _=>by
   refine aT6 ?_
   refine aU ?_
   refine oCq rfl (λw1 h1=>by have h9:=c72 w1 s (r.p+4) 4 om om om;rw[Zo,Qgq]at h9;exact h9) (aU ?_)
   refine oCq rfl (λw1 h1=>c40 w1 _ _ _) (aU2 ?_)
   exact oJf 7 143)
  (λhg34 _=>by
   refine aU6 ?_
   exact oJt 7 143) ?_
 refine aU ?_
 refine sCd rfl (λh36=>?_) λh36=>?_
 ·have hN:rdN s p0 k=none:=QmQ hst (by unfold Y8;have hq:=h36;grind)
  refine aU7 ?_
  exact Ql (rs:=[.cell 6 69,.tmp 7,.tmp 8]) rfl (.cell rfl Xo aPk rfl (.tmp rfl (.tmp rfl (.nil)))) (λw' h'=>⟨(⟨true,ea,ec,r.es,none,0,[]⟩,0),by rw[hN];rfl,⟨λ_ _ h9=>(by rw[hN]at h9;cases h9),by show r.es.length<=_;omega,hee⟩,(h'.own_nil 3 1).ent aEt⟩)
 have hE:Y8 s r.p=true:=by unfold Y8;have hq:=h36;grind
 have hN:=QmF hst hE
 obtain⟨h8,_,_,_⟩:r.p+8<=s.length/\ub2 s r.p=8/\ub2 s (r.p+2)=0/\ub4 s (r.p+4)<=120:=by simpa[Y8]using hE
 obtain⟨ch,hch⟩:∃ch:List Int,ch=r.cs++[((ub4 s (r.p+4):Nat):Int)]:=⟨_,rfl⟩
 rw[<-hch]at hN
 have hchl:ch.length<=1001:=by rw[hch,List.length_append];simp only[List.length_cons,List.length_nil];omega
 refine aT7 ?_
 refine oCq rfl (λw1 h1=>by have h9:=c72 w1 s (r.p+4) 4 om om om;rw[Zo,Qgq]at h9;exact h9) (o_h (Qk (cs:=[_]) rfl rfl QW Qcf rfl rfl rfl) rfl (λb37 _=>o_h (Xe (inV ((ub4 s (r.p+4):Nat):Int)) rfl rfl rfl QW Tryz.underlying28 Qcf rfl aPk (Xg aPk) rfl (Qs1 _) om (by simp only[maxLen];omega)) rfl (λb38 _=>Qm (show _=Value.slice b38.1 ch.length b38.2 from by rw[hch,List.length_append];rfl) (aU8 ?_))))
 refine Qj (L':=[(0,_),(1,_),(2,_),(6,_),(9,_),(10,_),(11,_),(18,_),(20,_)]) aSx (λ_ h=>h) ?_
 refine aU4 ?_
 obtain⟨fa,fc⟩:=b38
 dsimp only
 refine Qjd (λw9 h=>HS.kids_some (l:=ch) (by rw[hch,List.length_append];exact Nat.succ_pos _) (show HS w [] [.kids fa fc ch] w9 from by rw[hch,HA.kids,@List.length_append _ r.cs _,QdE];exact h.ent aEt) .here) λhfa=>?_
 obtain⟨gf,rfl⟩:=hfa
 refine Qt (α:=Nat) [18,19,152,153,154,155,156,157,158,159,160,161,162,163,164,165] (λi=>[(19,.int .i64 (i:Int)),(18,.int .i64 ((czI (ch.take i):Nat):Int))]) (λ_=>HS w [] [.blk b2 69 3 [.bool true,.slice ea r.es.length ec,.slice none 0 0],.own (.slice ea r.es.length ec) 27 2 r.es.length (r.es.flatMap TEnt.vals),.own (.slice (some ⟨gf,0,none⟩) ch.length fc) 3 1 ch.length (ch.flatMap inV),.blk b1 69 3 [.bool false,.slice none 0 0,.slice none 0 0]]) (λi=>i<=ch.length) (λi=>ch.length-i) 0 (Nat.zero_le _) aSx (λw h=>by rw[hch,@List.length_append _ r.cs _,QdE];exact h.ent aEt) (λi hi1=>?_)
 refine aU8 ?_
 refine sCd rfl (λh39=>?_) λh39=>?_
 ·have hi:i<ch.length:=by omega
  have hcz:((czI (ch.take (i+1)):Nat):Int)=((czI (ch.take i):Nat):Int)+(if nth ch i=0 then 1 else 0):=by rw[QqL hi];split<;>simp
  have hczl:=Qqc (ch.take i)
  rw[List.length_take]at hczl
  refine aU7 ?_
  refine o_p (Qa rfl rfl rfl QW (i) om om rfl) rfl (o_q (XY rfl rfl Zg (λw9 h=>(show Rd w9 [] gf (0+i*1) (.int .i64 (nth ch i))from(h.rw_own (a:=some ⟨gf,0,none⟩) (l:=ch) iv1 aPk rfl).rdj (i:=i) 0 hi rfl))) rfl (aU ?_))
  refine oCq rfl (λw1 h1=>QsW w1 _) (aT ?_)
  refine Qm (show _=Value.int .i64 ((czI (ch.take (i+1)):Nat):Int)from by rw[hcz];by_cases hz9:nth ch i=0<;>simp only[hz9,decide_true,decide_false,if_true,if_false,Bool.false_eq_true]<;>first|rfl|exact QeY om om) (aT6 ?_)
  refine aU2 ?_
  exact sBk (i+1) om om (by exact aSx)
 obtain rfl:i=ch.length:=om
 rw[List.take_length]
 refine Qh rfl ?_
 refine aU6 ?_
 refine sCd rfl (λh40=>?_) λh40=>?_
 ·have hz:noz ch=true:=Quo.1 (by have hq:=h40;omega)
  rw[hz]at hN
  have hN:rdN s p0 k=some (⟨true,r.es,ch⟩,r.p+8):=hN
  refine Qln ?_
  refine aU4 ?_
  exact Ql (rs:=[.cell 6 69,.tmp 7,.tmp 8]) rfl (.cell rfl Xo aPk rfl (.tmp rfl (.tmp rfl (.nil)))) (λw' h'=>by first|exact⟨(⟨true,ea,ec,r.es,some ⟨gf,0,none⟩,fc,ch⟩,r.p+8),by rw[hN];rfl,⟨λnd e h9=>(by rw[hN]at h9;injection h9 with h9;injection h9 with q1 q2;subst q1 q2;exact⟨rfl,rfl⟩),by show r.es.length<=_;omega,hee⟩,h'.ent aEt⟩|exact⟨(⟨true,ea,ec,r.es,none,0,[]⟩,r.p+8),by rw[hN];rfl,⟨λnd e h9=>(by rw[hN]at h9;injection h9 with h9;injection h9 with q1 q2;subst q1 q2;exact⟨rfl,rfl⟩),by show r.es.length<=_;omega,hee⟩,(h'.own_nil 3 1).ent aEt⟩)
 have hz0:¬czI ch=0:=by have hq:=h40;omega
 have hz:noz ch=false:=by cases hb:noz ch;rfl;exact absurd (Quo.2 hb) hz0
 rw[hz]at hN
 refine aU7 ?_
 refine sCd rfl (λh41=>?_) λh41=>?_
 ·have hz2:QdF ch=false:=by cases hb:QdF ch;rfl;have:=QmM.2 hb;have hq:=h41;omega
  rw[hz2]at hN
  have hN:rdN s p0 k=none:=hN
  refine aU7 ?_
  exact Ql (rs:=[.cell 6 69,.tmp 7,.tmp 8]) rfl (.cell rfl Xo aPk rfl (.tmp rfl (.tmp rfl (.nil)))) (λw' h'=>⟨(⟨true,ea,ec,r.es,none,0,[]⟩,0),by rw[hN];rfl,⟨λ_ _ h9=>(by rw[hN]at h9;cases h9),by show r.es.length<=_;omega,hee⟩,(h'.own_nil 3 1).ent aEt⟩)
 have hz2:QdF ch=true:=QmM.1 (by have:=Qqc ch;have hq:=h41;omega)
 rw[hz2]at hN
 have hN:rdN s p0 k=some (⟨true,r.es,[]⟩,r.p+8):=hN
 refine aT6 ?_
 refine aU4 ?_
 exact Ql (rs:=[.cell 6 69,.tmp 7,.tmp 8]) rfl (.cell rfl Xo aPk rfl (.tmp rfl (.tmp rfl (.nil)))) (λw' h'=>by first|exact⟨(⟨true,ea,ec,r.es,some ⟨gf,0,none⟩,fc,ch⟩,r.p+8),by rw[hN];rfl,⟨λnd e h9=>(by rw[hN]at h9;injection h9 with h9;injection h9 with q1 q2;subst q1 q2;exact⟨rfl,rfl⟩),by show r.es.length<=_;omega,hee⟩,h'.ent aEt⟩|exact⟨(⟨true,ea,ec,r.es,none,0,[]⟩,r.p+8),by rw[hN];rfl,⟨λnd e h9=>(by rw[hN]at h9;injection h9 with h9;injection h9 with q1 q2;subst q1 q2;exact⟨rfl,rfl⟩),by show r.es.length<=_;omega,hee⟩,(h'.own_nil 3 1).ent aEt⟩)
theorem Qwz:QK Tryz.prog 58=true:=by kernel_rfl
theorem Qtz{co:Int}{l:List TEnt}{k:Nat}(hco:Qv co=0)(hk:k<l.length)(h:∀i,i<k->Qbv co l i=true):Qjs co (nth l (k-1)).key (nth l k).key=Yh co (nth l k).key:=by
  unfold Qjs;rw[if_pos hco];rcases Nat.eq_zero_or_pos k with h0|h0
  · subst h0
    by_cases hz:Yh co (nth l 0).key=0
    · rw[if_pos hz]
    · rw[if_neg hz]
  · have h1:=h (k-1) om;unfold Qbv at h1;rw[Bool.and_eq_true]at h1;rw[if_pos (Qvk.2 h1.1)]
theorem c93(w:World)(co:Int)(a:Option Addr)(cap:Nat)(l:List TEnt)(hs:Rw TEnt.vals 2 w [] a l)(hl:l.length<=100000)(hkl:∀x∈l,x.key.length<=1000000)(hco:Qv co=0):CR 93 #[.int .i64 co,.slice a l.length cap] w (.bool (Qd5 co l)):=by
 refine eN2 Tryz.func93 Tryz.ntmps93 ?_
 refine Qay ?_
 refine Qt (α:=Nat) [4,5,6,7,8,11,12,13,14,15,16,17,18,19,20,21,22,23,24,25,26,27,28,29,30,31,32,33,34,35,36,37,38,39,40] (λk=>[(11,.int .i64 (k:Int))]) (λ_=>HS w [] []) (λk=>k<=l.length/\∀i,i<k->Qbv co l i=true) (λk=>l.length-k) 0 ⟨Nat.zero_le _,λi h=>absurd h (Nat.not_lt_zero _)⟩ aSx (λw h=>h.ent aEt) (λk hkk=>?_)
 obtain⟨hk1,hk2⟩:=hkk
 refine aU5 ?_
 refine sCd rfl (λh1=>?_) λh1=>?_
 ·have hk:k<l.length:=by omega
  have hcm:=Qtz hco hk hk2
  refine aU6 ?_
  refine o_p (Qa rfl rfl rfl Q3 (k) om om (Rw.some hs om)) rfl (o_q (Qs _ rfl rfl QaM rfl (Rw.rd hs om)) rfl (oAl (λb2 _=>?_) Z0))
  refine aU4 ?_
  refine Qz [] QJ ?_
  refine dP 0 ?_
  refine dP 1 ?_
  refine dP 2 ?_
  refine dP 3 ?_
  try refine dWr ?_
  refine dV 4 rfl (QdT rfl rfl rfl ) ?_
  refine QC (show _=Value.int .i64 ((k-1:Nat):Int)from congrArg (Value.int .i64) (by split<;>omega)) (dV 5 rfl (Qa rfl rfl rfl Q3 (k-1) om om (Rw.some hs om)) (dFa 6 ?_))
  refine dQ 7 [] rfl (Qb rfl rfl Zu ((hs.rdj (i:=k-1) 0 om rfl))) (dFa 8 ?_)
  refine dLd 9 [] ?_
  refine dQ 10 [] rfl (Qr rfl Qwz rfl (λw1 h1=>c58 w1 co (nth l (k-1)).key (nth l k).key (hkl _ (Qy om)) (hkl _ (Qy hk)))) (dP 11 ?_)
  refine dP 12 ?_
  refine dP 13 ?_
  refine dP 14 ?_
  refine dP 15 ?_
  refine dNi ?_
  refine aU5 ?_
  refine oOr 7 32 39 rfl
   (λhg3 _=>by
    refine aU6 ?_
    refine XP 3 35 38 rfl
     (λhg5 _=>by
      refine aU5 ?_
      exact oJt 3 38)
     (λhg7 _=>by
      refine aU3 ?_
      exact oJf 3 38) ?_
    exact oJf 5 39)
   (λhg9 _=>by
    refine aU6 ?_
    exact oJt 7 39) ?_
  refine aU ?_
  refine sCd rfl (λh11=>?_) λh11=>?_
  ·have hF:Qd5 co l=false:=Qm2 hk (by unfold Qbv;have hq:=h11;rw[hcm]at hq;unfold Yh at hq;grind)
   refine aU ?_
   refine Qj (L':=[(0,_),(1,_),(9,_),(10,_),(11,_)]) aSx (λ_ h=>h) ?_
   refine aU3 ?_
   exact rV (h:=by rw[hF];rfl)
  have hA:Qbv co l k=true:=by unfold Qbv;have hq:=h11;rw[hcm]at hq;unfold Yh at hq;grind
  refine aU2 ?_
  refine Qj (L':=[(0,_),(1,_),(9,_),(10,_),(11,_)]) aSx (λ_ h=>h) ?_
  refine aT2 ?_
  refine aU2 ?_
  exact sBk (k+1) om ⟨om,λi hi=>(Nat.lt_or_ge i k).elim (hk2 i) (λh=>by obtain rfl:i=k:=om;exact hA)⟩
 obtain rfl:k=l.length:=om
 have hT:Qd5 co l=true:=Qct.2 hk2
 refine Qh rfl ?_
 refine aU4 ?_
 exact rV (h:=by rw[hT];rfl)
theorem c70(w:World)(j:Nat)(n:LNd)(hj:j<=3)(hes:Rw TEnt.vals 2 w [] n.ea n.es)(hl:n.es.length<=100000)(hkl:∀x∈n.es,x.key.length<=1000000):CR 70 #[.int .i64 (j:Int),.agg #[.bool n.us,.slice n.ea n.es.length n.ec,.slice n.ca n.cs.length n.cc]] w (.bool (Qdw (j:Int) n.es)):=by
 refine eN2 Tryz.func70 Tryz.ntmps70 ?_
 refine aU2 ?_
 refine oBx λb1 _=>?_
 refine aU8 ?_
 refine Qt (α:=Nat) [4,5,6,7,8,9,10,11,12,13,14,15,16,17,18,19,20,21] (λk=>[(5,.int .i64 (k:Int))]) (λ_=>HS w [] [.blk b1 69 3 (LNd.vals n)]) (λk=>k<=n.es.length/\∀i,i<k->QZ (j:Int) (nth n.es i).key=true) (λk=>n.es.length-k) 0 ⟨Nat.zero_le _,λi h=>absurd h (Nat.not_lt_zero _)⟩ aSx (λw h=>h.ent aEt) (λk hkk=>?_)
 obtain⟨hk1,hk2⟩:=hkk
 refine aU9 ?_
 refine sCd rfl (λh2=>?_) λh2=>?_
 ·have hk:k<n.es.length:=by omega
  refine aU9 ?_
  refine o_p (Qa rfl rfl rfl Q3 (k) om om (Rw.some hes om)) rfl (aU ?_)
  refine o_q (Qb rfl rfl Zu ((hes.rdj (i:=k) 0 om rfl))) rfl (oCq rfl (λw1 h1=>c17 w1 j (nth n.es k).key hj (hkl _ (Qy hk))) (aU2 ?_))
  refine sCd rfl (λh3=>?_) λh3=>?_
  ·have hF:Qdw (j:Int) n.es=false:=Qpp hk (by have hq:=h3;unfold Yh at hq;grind)
   refine aU4 ?_
   exact rV (h:=by rw[hF];rfl)
  have hA:QZ (j:Int) (nth n.es k).key=true:=by have hq:=h3;unfold Yh at hq;grind
  refine aT5 ?_
  refine aU2 ?_
  exact sBk (k+1) om ⟨om,λi hi=>(Nat.lt_or_ge i k).elim (hk2 i) (λh=>by obtain rfl:i=k:=om;exact hA)⟩
 obtain rfl:k=n.es.length:=om
 have hT:Qdw (j:Int) n.es=true:=QhB hk2
 refine Qh rfl ?_
 refine aU4 ?_
 exact rV (h:=by rw[hT];rfl)
instance:TFn Tryz.prog 91:=⟨by kernel_rfl⟩
instance:TFn Tryz.prog 92:=⟨by kernel_rfl⟩
instance:TFn Tryz.prog 93:=⟨by kernel_rfl⟩
theorem c28(w:World)(s:List UInt8)(hsl:s.length<=1000000):CE 28 #[.string (bs s)] w [] (λg:(Option Addr×Nat)×List LNd=>.tuple #[.agg #[.int .i64 (Qd s).1.co,.int .i64 (Qd s).1.mo,.int .i64 (Qd s).1.rm,.slice g.1.1 g.2.length g.1.2],.int .i64 (Qd s).2]) (λg=>pln g.2=(Qd s).1.ns) λg=>[.nodes 27 69 g.1.1 g.1.2 g.2]:=by
 have hb4:=(s.getD 4 0).toNat_lt
 have hb5:=(s.getD 5 0).toNat_lt
 have hb6:=(s.getD 6 0).toNat_lt
 have hb7:=(s.getD 7 0).toNat_lt
 have hf9:Xp [.int .i64 (if Qv (at1 s 4)=0 then XF (at1 s 5) (at1 s 6)else Qv (at1 s 4)),.int .i64 (cond (decide (at1 s 5<=4)) 0 8),.int .i64 (cond (decide (at1 s 7<=at1 s 6)) 0 16)]=rtE s:=by simp only[Xp,rtE,cond_eq_ite,decide_eq_true_eq];grind
 refine eN1 Tryz.func28 Tryz.ntmps28 ?_
 refine aU2 ?_
 refine oAl (λb1 _=>?_) XN
 refine aU5 ?_
 refine o_h (QaK rfl rfl Tryz.underlying9 Tryz.underlying139 Tryz.underlying5 rfl (by simp only[maxLen];omega)) rfl (λ⟨b2,c3⟩⟨h4,k5⟩=>aU9 ?_)
 refine sCd rfl (λh6=>?_) λh6=>?_
 ·have hR:Qd s=(noT,10):=Qjw (by have hq:=h6;omega)
  refine aU2 ?_
  refine o_p (QE (cs:=[_,_,_,_]) rfl rfl QaQ XN rfl) rfl (aU3 ?_)
  exact Ql (rs:=[.cell 2 37,.tmp 3]) rfl (.cell rfl X2 aPk rfl (.tmp rfl (.nil))) (λw' h'=>⟨((none,0),[]),by rw[hR];rfl,by rw[hR];rfl,(QY 27 69 h'.nil).ent aEt⟩)
 have h16:¬s.length<16:=by have hq:=h6;omega
 refine aU5 ?_
 refine o_p (QA _ _ 0 4 rfl rfl QB rfl ⟨_,_,rfl,rfl⟩ om om) rfl (Qm (show _=Value.slice (some ⟨b2,0,none⟩) 4 c3 from by rw[Zv];rfl) (o_q (QiE s rfl rfl Tryz.underlying139 Tryz.underlying9 Tryz.underlying5 om aPk) rfl (aU2 ?_)))
 refine sCd rfl (λh7=>?_) λh7=>?_
 ·have hR:Qd s=(noT,3):=Qmn h16 (by have hq:=h7;intro h9;rw[h9]at hq;simp[Zc]at hq)
  refine aU2 ?_
  refine o_p (QE (cs:=[_,_,_,_]) rfl rfl QaQ XN rfl) rfl (aU3 ?_)
  exact Ql (rs:=[.cell 2 37,.tmp 3]) rfl (.cell rfl X2 aPk rfl (.tmp rfl (.nil))) (λw' h'=>⟨((none,0),[]),by rw[hR];rfl,by rw[hR];rfl,(QY 27 69 h'.nil).ent aEt⟩)
 have hs4:s.take 4=Zc:=by have hq:=h7;first|exact hq|simpa[Zc]using hq
 refine aU2 ?_
 refine Qz [] QJ ?_
 refine dP 0 ?_
 refine dV 1 rfl (Qa rfl rfl rfl QB 4 rfl om rfl) (dQ 2 [] rfl (XY rfl rfl Qen (λw9 h=>by rw[Nat.zero_add];exact h.rd_blk (Mc:=[]) aPk (by rw[Nat.mul_one];exact Qaj (l:=s) (k:=4) om) (by simp))) (dV 3 rfl (Qp rfl rfl Zh YP) ?_))
 try refine dWr ?_
 refine QC (show _=Value.int .i64 (at1 s 4)from by first|rfl|exact QeY om om) (dP 4 ?_)
 refine dV 5 rfl (Qa rfl rfl rfl QB 5 rfl om rfl) (dQ 6 [] rfl (XY rfl rfl Qen (λw9 h=>by rw[Nat.zero_add];exact h.rd_blk (Mc:=[]) aPk (by rw[Nat.mul_one];exact Qaj (l:=s) (k:=5) om) (by simp))) (dV 7 rfl (Qp rfl rfl Zh YP) ?_))
 try refine dWr ?_
 refine QC (show _=Value.int .i64 (at1 s 5)from by first|rfl|exact QeY om om) (dP 8 ?_)
 refine dV 9 rfl (Qa rfl rfl rfl QB 6 rfl om rfl) (dQ 10 [] rfl (XY rfl rfl Qen (λw9 h=>by rw[Nat.zero_add];exact h.rd_blk (Mc:=[]) aPk (by rw[Nat.mul_one];exact Qaj (l:=s) (k:=6) om) (by simp))) (dV 11 rfl (Qp rfl rfl Zh YP) ?_))
 try refine dWr ?_
 refine QC (show _=Value.int .i64 (at1 s 6)from by first|rfl|exact QeY om om) (dP 12 ?_)
 refine dV 13 rfl (Qa rfl rfl rfl QB 7 rfl om rfl) (dQ 14 [] rfl (XY rfl rfl Qen (λw9 h=>by rw[Nat.zero_add];exact h.rd_blk (Mc:=[]) aPk (by rw[Nat.mul_one];exact Qaj (l:=s) (k:=7) om) (by simp))) (dV 15 rfl (Qp rfl rfl Zh YP) ?_))
 try refine dWr ?_
 refine QC (show _=Value.int .i64 (at1 s 7)from by first|rfl|exact QeY om om) (dP 16 ?_)
 refine dP 17 ?_
 refine dP 18 ?_
 refine dP 19 ?_
 refine dNi ?_
 refine aU ?_
 refine Qj (L':=[(2,_),(3,_),(4,_),(5,_),(6,_),(7,_),(8,_)]) aSx (λ_ h=>h) ?_
 refine aU4 ?_
 refine oCh rfl (λw1 h1=>c91 w1 (at1 s 4) (at1 s 5) (at1 s 6)) (λ⟨⟨na,nc⟩,nL⟩hnL=>aU3 ?_)
 refine oAl (λb8 _=>?_) XN
 refine aU9 ?_
 refine oCq rfl (λw1 h1=>c60 w1 _ _) (aU3 ?_)
 refine oCq rfl (λw1 h1=>c60 w1 _ _) (o_h (Qk (cs:=[_,_,_]) rfl rfl Yq ZY rfl rfl rfl) rfl (λb9 _=>oCq rfl (λw1 h1=>f59 h1 aPk (by rfl) (by rfl) (by decide)) (aU7 ?_)))
 refine sCd rfl (λh10=>?_) λh10=>?_
 ·have hR:Qd s=(noT,Xp [.int .i64 (if Qv (at1 s 4)=0 then XF (at1 s 5) (at1 s 6)else Qv (at1 s 4)),.int .i64 (cond (decide (at1 s 5<=4)) 0 8),.int .i64 (cond (decide (at1 s 7<=at1 s 6)) 0 16)]):=by rw[hf9];exact Qux h16 hs4 (by have hq:=h10;rwa[hf9]at hq)
  refine aU2 ?_
  refine o_p (QE (cs:=[_,_,_,_]) rfl rfl QaQ XN rfl) rfl (aU4 ?_)
  exact Ql (rs:=[.cell 2 37,.tmp 3]) rfl (.cell rfl X2 aPk rfl (.tmp rfl (.nil))) (λw' h'=>⟨((none,0),[]),by rw[hR];rfl,by rw[hR];rfl,(QY 27 69 h'.nil).ent aEt⟩)
 have hE:rtE s=0:=by have hq:=h10;rwa[hf9]at hq
 obtain⟨h3,h4,h5,h6⟩:=QwM hE
 have hem:Qhp (at1 s 4) (at1 s 5) (at1 s 6)=⟨at1 s 4,at1 s 5,at1 s 6,[⟨true,[],[]⟩]⟩:=by unfold Qhp;rw[if_pos h3,if_pos h4]
 rw[hem]at hnL
 obtain⟨x9,hx9,_⟩:=QuC hnL
 subst hx9
 rw[hem]
 dsimp only
 refine Qjd (λw9 h=>HS.nodes_some (L:=[x9]) (Nat.succ_pos _) h aPk) λhna=>?_
 obtain⟨g9,rfl,hna1,hna2⟩:=hna
 refine QiH (λw9 h=>(show HS w [] (.blk g9 69 (nc*3) [.bool x9.us,.slice x9.ea x9.es.length x9.ec,.slice x9.ca x9.cs.length x9.cc]::_) w9 from HS.nodes_blk h aPk)) (aU4 ?_)
 refine o_p (QA _ _ 8 s.length rfl rfl QB ⟨_,_,rfl,rfl⟩ rfl om om) rfl (aU ?_)
 refine oCh rfl (λw1 h1=>c92 w1 s 8 (ub1 s 7) (XU (some ⟨b2,0,none⟩) c3 8 1) (c3-8) (by have h9:=(h1.vl_blk (cs:=s.map bv) aPk).dropA (k:=8) (cap:=c3) (by rw[List.length_map];omega) (by rw[List.length_map];omega);rw[<-List.map_drop]at h9;exact h9) om hsl om (by have hq9:c3<=maxLen:=(by assumption);simp only[maxLen]at hq9;omega) (by have:=Yj s 7;omega)) (λ⟨gn,gr,gl,gc⟩hgn=>aU4 ?_)
 refine oAl (λb11 _=>?_) Xr
 refine aU6 ?_
 refine Qj (L':=[(2,_),(3,_),(5,_),(9,_),(11,_),(12,_),(13,_)]) aSx (λ_ h=>h) ?_
 refine aU4 ?_
 refine oOr 4 72 76 rfl
  (λhg12 _=>by
   refine aU6 ?_
   exact oJf 4 76)
  (λhg14 _=>by
   refine aU3 ?_
   exact oJt 4 76) ?_
 refine aU ?_
 refine oOr 6 77 83 rfl
  (λhg16 _=>by
   refine aU7 ?_
   refine oCq rfl (λw1 h1=>c93 w1 (at1 s 4) gn.ea gn.ec gn.es (h1.rw_own ev2 aPk rfl) (by have h9:gn.es.length<=ub1 s 7:=hgn.2.1;have:=Yj s 7;omega) (λx hx=>by have:=hgn.2.2 x hx;simp only[X8,decide_eq_true_eq]at this;omega) h3) (aU2 ?_)
   exact oJf 6 83)
  (λhg18 _=>by
   refine aU5 ?_
   exact oJt 6 83) ?_
 refine aU ?_
 refine sCd rfl (λh20=>?_) λh20=>?_
 ·have hR:Qd s=(noT,3):=QlI h16 hs4 h3 h4 h5 h6 (λn9 hn9=>by have hq:=h20;have h91:=hgn.1 _ _ hn9;rw[hn9]at hq;have h92:gn.es=n9.es:=congrArg Nd.es h91.1;rw[h92]at hq;have h93:=h91.2;(try simp only[Option.isSome_some]at hq);grind)
  refine aU2 ?_
  refine o_p (QE (cs:=[_,_,_,_]) rfl rfl QaQ XN rfl) rfl (aU3 ?_)
  exact Ql (rs:=[.cell 2 37,.tmp 3]) rfl (.cell rfl X2 aPk rfl (.tmp rfl (.nil))) (λw' h'=>⟨((none,0),[]),by rw[hR];rfl,by rw[hR];rfl,(QY 27 69 h'.nil).ent aEt⟩)
 obtain⟨⟨n9,e9⟩,hrd⟩:∃q,rdN s 8 (ub1 s 7)=some q:=Option.isSome_iff_exists.1 (by have hq:=h20;grind)
 obtain⟨hpl9,hgl9⟩:=hgn.1 _ _ hrd
 have he9:=(Qip om hrd).2.2.1
 have hee:e9=s.length:=by have hq:=h20;grind
 subst hee
 have hes9:gn.es=n9.es:=congrArg Nd.es hpl9
 have hR:=Qub h16 hs4 h3 h4 h5 h6 hrd (by rw[<-hes9];have hq:=h20;grind)
 refine aU5 ?_
 refine Qm (show _=Value.slice (some ⟨g9,0,none⟩) 1 nc from rfl) (aU ?_)
 refine o_p (Qa rfl rfl rfl QT 0 rfl om rfl) rfl (Qm (show _=Value.pointer (some ⟨g9,0,none⟩)from rfl) (aU8 ?_))
 exact Ql (rs:=[.cell 2 37,.tmp 3]) rfl (.cell rfl X2 aPk rfl (.tmp rfl (.nil))) (λw' h'=>⟨((some ⟨g9,0,none⟩,nc),[gn]),by rw[hR];rfl,by rw[hR];show[gn.pl]=_;rw[hpl9],(HS.nodes_of1 (HS.own_shut (n:=1) (cap:=nc) (sz:=3) (h'.ent (Bs:=[.blk g9 69 (nc*3) (LNd.vals gn),.ents 27 gn.ea gn.ec gn.es,.kids gn.ca gn.cc gn.cs]) aEt) rfl hna1 hna2)).ent aEt⟩)
instance:TFn Tryz.prog 98:=⟨by kernel_rfl⟩
instance:TFn Tryz.prog 70:=⟨by kernel_rfl⟩
theorem c31(w:World)(s:List UInt8)(hsl:s.length<=1000000):CE 31 #[.string (bs s)] w [] (λg:(Option Addr×Nat)×List LNd=>.tuple #[.agg #[.int .i64 (Qd s).1.co,.int .i64 (Qd s).1.mo,.int .i64 (Qd s).1.rm,.slice g.1.1 g.2.length g.1.2],.int .i64 (Qd s).2]) (λg=>pln g.2=(Qd s).1.ns) λg=>[.nodes 27 69 g.1.1 g.1.2 g.2]:=by
 have hb4:=QcA s 4
 have hb5:=QcA s 5
 have hb6:=QcA s 6
 have hb7:=QcA s 7
 refine eN1 Tryz.func31 Tryz.ntmps31 ?_
 refine aU2 ?_
 refine oAl (λb1 _=>?_) XN
 refine aU4 ?_
 refine o_p (QE (cs:=[_,_,_,_]) rfl rfl QaQ XN rfl) rfl (oAl (λb2 _=>?_) XN)
 refine aU6 ?_
 refine o_p (Qg rfl rfl Tryz.underlying9) rfl (aU2 ?_)
 refine sCd rfl (λh3=>?_) λh3=>?_
 ·have hR:Qd s=(noT,10):=Qjw (by have hq:=h3;omega)
  refine aU6 ?_
  exact Ql (rs:=[.cell 2 37,.tmp 3]) rfl (.cell rfl X2 aPk rfl (.tmp rfl (.nil))) (λw' h'=>⟨((none,0),[]),by rw[hR];rfl,by rw[hR];rfl,(QY 27 69 h'.nil).ent aEt⟩)
 have h16:¬s.length<16:=by have hq:=h3;omega
 refine aU5 ?_
 refine o_p (Zt 4 rfl rfl rfl Tryz.underlying9 rfl om) rfl (aU2 ?_)
 refine sCd rfl (λh4=>?_) λh4=>?_
 ·have hR:Qd s=(noT,3):=Qmn h16 (by have hq:=h4;intro h9;rw[h9]at hq;simp[Zc]at hq)
  refine aU6 ?_
  exact Ql (rs:=[.cell 2 37,.tmp 3]) rfl (.cell rfl X2 aPk rfl (.tmp rfl (.nil))) (λw' h'=>⟨((none,0),[]),by rw[hR];rfl,by rw[hR];rfl,(QY 27 69 h'.nil).ent aEt⟩)
 have hs4:s.take 4=Zc:=by have hq:=h4;first|exact hq|simpa[Zc]using hq
 refine aU4 ?_
 refine oCq rfl (λw1 h1=>by have h9:=c72 w1 s 4 1 om om om;rw[QdP]at h9;exact h9) (aU ?_)
 refine oCq rfl (λw1 h1=>by have h9:=c72 w1 s 5 1 om om om;rw[QdP]at h9;exact h9) (aU ?_)
 refine oCq rfl (λw1 h1=>by have h9:=c72 w1 s 6 1 om om om;rw[QdP]at h9;exact h9) (o_p (QE (cs:=[_,_,_,_]) rfl rfl QaQ XN rfl) rfl (oAl (λb5 _=>?_) XN))
 refine aU7 ?_
 refine oCq rfl (λw1 h1=>c96 w1 _) (aU7 ?_)
 refine sCd rfl (λh6=>?_) λh6=>?_
 ·have hR:Qd s=(noT,Qv (at1 s 4)):=Qpi h16 hs4 h6
  refine aU7 ?_
  exact Ql (rs:=[.cell 2 37,.tmp 3]) rfl (.cell rfl X2 aPk rfl (.tmp rfl (.nil))) (λw' h'=>⟨((none,0),[]),by rw[hR];rfl,by rw[hR];rfl,(QY 27 69 h'.nil).ent aEt⟩)
 have h3:Qv (at1 s 4)=0:=h6
 obtain⟨j,hj,hj3⟩:=Qie h3
 refine aU8 ?_
 refine oCq rfl (λw1 h1=>c97 w1 _ _) (aU3 ?_)
 refine Qj (L':=[(0,_),(2,_),(3,_),(4,_),(5,_),(7,_)]) aSx (λ_ h=>h) ?_
 refine aU4 ?_
 refine sCd rfl (λh7=>?_) λh7=>?_
 ·have hR:Qd s=(noT,XF (at1 s 5) (at1 s 6)):=QqS h16 hs4 h3 h7
  refine aU7 ?_
  exact Ql (rs:=[.cell 2 37,.tmp 3]) rfl (.cell rfl X2 aPk rfl (.tmp rfl (.nil))) (λw' h'=>⟨((none,0),[]),by rw[hR];rfl,by rw[hR];rfl,(QY 27 69 h'.nil).ent aEt⟩)
 have h4:XF (at1 s 5) (at1 s 6)=0:=h7
 refine aU8 ?_
 refine sCd rfl (λh8=>?_) λh8=>?_
 ·have hR:Qd s=(noT,8):=Qmi h16 hs4 h3 h4 (by have hq:=h8;omega)
  refine aU6 ?_
  exact Ql (rs:=[.cell 2 37,.tmp 3]) rfl (.cell rfl X2 aPk rfl (.tmp rfl (.nil))) (λw' h'=>⟨((none,0),[]),by rw[hR];rfl,by rw[hR];rfl,(QY 27 69 h'.nil).ent aEt⟩)
 have h5:at1 s 5<=4:=by have hq:=h8;omega
 refine aU4 ?_
 refine oCq rfl (λw1 h1=>by have h9:=c72 w1 s 7 1 om om om;rw[QdP]at h9;exact h9) (YR ?_)
 refine sCd rfl (λh9=>?_) λh9=>?_
 ·have hR:Qd s=(noT,16):=QmG h16 hs4 h3 h4 h5 (by have hq:=h9;omega)
  refine aU6 ?_
  exact Ql (rs:=[.cell 2 37,.tmp 3]) rfl (.cell rfl X2 aPk rfl (.tmp rfl (.nil))) (λw' h'=>⟨((none,0),[]),by rw[hR];rfl,by rw[hR];rfl,(QY 27 69 h'.nil).ent aEt⟩)
 have h6:at1 s 7<=at1 s 6:=by have hq:=h9;omega
 refine aU5 ?_
 refine oCh rfl (λw1 h1=>c98 w1 s 8 (ub1 s 7) om hsl (by have:=Yj s 7;omega)) (λ⟨gn,gl⟩hgn=>aU4 ?_)
 refine oAl (λb10 _=>?_) Xr
 refine YR ?_
 refine oOr 5 65 70 rfl
  (λhg11 _=>by
   refine aU5 ?_
   refine o_p (Qg rfl rfl Tryz.underlying9) rfl (aU2 ?_)
   exact oJf 5 70)
  (λhg13 _=>by
   refine aU4 ?_
   exact oJt 5 70) ?_
 refine aU ?_
 refine oOr 6 71 77 rfl
  (λhg15 _=>by
   refine aU7 ?_
   refine oCq rfl (λw1 h1=>by have h9:=c70 w1 j gn hj3 (h1.rw_own ev2 aPk rfl) (by have h9:gn.es.length<=ub1 s 7:=hgn.2.1;have:=Yj s 7;omega) (λx hx=>by have:=hgn.2.2 x hx;simp only[X8,decide_eq_true_eq]at this;omega);rw[<-hj]at h9;exact h9) (aU2 ?_)
   exact oJf 6 77)
  (λhg17 _=>by
   refine aU5 ?_
   exact oJt 6 77) ?_
 refine aU ?_
 refine sCd rfl (λh19=>?_) λh19=>?_
 ·have hR:Qd s=(noT,3):=QlI h16 hs4 h3 h4 h5 h6 (λn9 hn9=>by have hq:=h19;have h91:=hgn.1 _ _ hn9;rw[hn9]at hq;have h92:gn.es=n9.es:=congrArg Nd.es h91.1;(try simp only[Option.isSome_some]at hq);have h93:gl=s.length:=h91.2;have h94:Qdw (at1 s 4) gn.es=false:=(by grind);rw[<-h92];cases hb9:Qd5 (at1 s 4) gn.es;rfl;have h95:Qdw (at1 s 4) gn.es=true:=QhB (λi hi=>(by have:=Qct.1 hb9 i hi;unfold Qbv at this;rw[Bool.and_eq_true]at this;exact this.1));rw[h94]at h95;cases h95)
  refine aU ?_
  refine Qj (L':=[(2,_),(3,_),(4,_),(5,_),(9,_)]) aSx (λ_ h=>h) ?_
  refine aU5 ?_
  exact Ql (rs:=[.cell 2 37,.tmp 3]) rfl (.cell rfl X2 aPk rfl (.tmp rfl (.nil))) (λw' h'=>⟨((none,0),[]),by rw[hR];rfl,by rw[hR];rfl,(QY 27 69 h'.nil).ent aEt⟩)
 obtain⟨⟨n9,e9⟩,hrd⟩:∃q,rdN s 8 (ub1 s 7)=some q:=Option.isSome_iff_exists.1 (by have hq:=h19;grind)
 obtain⟨hpl9,hgl9⟩:=hgn.1 _ _ hrd
 have hee:e9=s.length:=by have hq:=h19;grind
 subst hee
 have hes9:gn.es=n9.es:=congrArg Nd.es hpl9
 have hky:Qdw (at1 s 4) gn.es=true:=by have hq:=h19;grind
 have hgl:gn.es.length<=255:=by have h9:gn.es.length<=ub1 s 7:=hgn.2.1;have:=Yj s 7;omega
 have hkl9:∀x∈gn.es,x.key.length<=1000000:=(λx hx=>by have:=hgn.2.2 x hx;simp only[X8,decide_eq_true_eq]at this;omega)
 refine aU3 ?_
 refine Qj (L':=[(2,_),(3,_),(4,_),(5,_),(9,_)]) aSx (λ_ h=>h) ?_
 refine aU4 ?_
 refine Qt (α:=Nat) [3,12,79,80,81,82,83,84,85,86,87,88,89,90,91,92,93,94,95,96,97,98,99,100,101,102,103] (λi=>[(12,.int .i64 (i:Int))]) (λ_=>HS w [] [.blk b10 69 3 [.bool gn.us,.slice gn.ea gn.es.length gn.ec,.slice gn.ca gn.cs.length gn.cc],.ents 27 gn.ea gn.ec gn.es,.kids gn.ca gn.cc gn.cs,.blk b5 37 4 [.int .i64 (at1 s 4),.int .i64 (at1 s 5),.int .i64 (at1 s 6),.slice none 0 0],.blk b2 37 4 [.int .i64 0,.int .i64 0,.int .i64 0,.slice none 0 0],.blk b1 37 4 [.int .i64 0,.int .i64 0,.int .i64 0,.slice none 0 0]]) (λi=>1<=i/\∀i9,0<i9->i9<i->Xt (at1 s 4) (nth gn.es (i9-1)).key (nth gn.es i9).key<0) (λi=>gn.es.length+1-i) 1 ⟨Nat.le_refl _,λi h1 h2=>om⟩ aSx (λw h=>h.ent aEt) (λi hii=>?_)
 obtain⟨hi1,hi2⟩:=hii
 refine aU9 ?_
 refine sCd rfl (λh20=>?_) λh20=>?_
 ·have hi:i<gn.es.length:=by omega
  refine Qjd (λw9 h=>HS.ents_some (l:=gn.es) om h aPk) λhge=>?_
  obtain⟨ge,hge⟩:=hge
  refine aU4 ?_
  refine Qz [] QJ ?_
  refine dFa 0 ?_
  refine dLd 1 [] ?_
  refine dFa 2 ?_
  refine dLd 3 [] ?_
  refine dP 4 ?_
  refine dP 5 ?_
  try refine dWr ?_
  refine dV 6 rfl (Qa rfl rfl rfl Q3 (i-1) om om hge) (dFa 7 ?_)
  refine dQ 8 [] rfl (XY rfl rfl Zu (λw9 h=>by have h8:=(h.rw_own (a:=gn.ea) (l:=gn.es) ev2 aPk rfl).rdj (i:=i-1) 0 om rfl;rw[hge]at h8;exact h8)) (dFa 9 ?_)
  refine dLd 10 [] ?_
  refine dP 11 ?_
  refine dV 12 rfl (Qa rfl rfl rfl Q3 (i) om om hge) (dFa 13 ?_)
  refine dQ 14 [] rfl (XY rfl rfl Zu (λw9 h=>by have h8:=(h.rw_own (a:=gn.ea) (l:=gn.es) ev2 aPk rfl).rdj (i:=i) 0 hi rfl;rw[hge]at h8;exact h8)) (dQ 15 [] rfl (Qr rfl QkP rfl (λw1 h1=>by have h9:=c65 w1 j (nth gn.es (i-1)).key (nth gn.es i).key hj3 (by rw[<-hj];exact Qgr hky om) (by rw[<-hj];exact Qgr hky hi) (hkl9 _ (Qy om)) (hkl9 _ (Qy hi));rw[<-hj]at h9;exact h9)) (dP 16 ?_))
  refine dNi ?_
  refine sCd rfl (λh21=>?_) λh21=>?_
  ·have hR:Qd s=(noT,3):=QlI h16 hs4 h3 h4 h5 h6 (λm9 hm9=>by rw[hrd]at hm9;injection hm9 with hm9;injection hm9 with q1 q2;subst q1;rw[<-hes9];refine Qm2 hi (i:=i) ?_;unfold Qbv;have hq:=h21;rw[Bool.and_eq_false_iff];exact .inr (decide_eq_false om))
   refine aU6 ?_
   exact Ql (rs:=[.cell 2 37,.tmp 3]) rfl (.cell rfl X2 aPk rfl (.tmp rfl (.nil))) (λw' h'=>⟨((none,0),[]),by rw[hR];rfl,by rw[hR];rfl,(QY 27 69 h'.nil).ent aEt⟩)
  have hlt:Xt (at1 s 4) (nth gn.es (i-1)).key (nth gn.es i).key<0:=by have hq:=h21;omega
  refine aT5 ?_
  refine aU2 ?_
  exact sBk (i+1) om ⟨om,λi9 h91 h92=>(Nat.lt_or_ge i9 i).elim (hi2 i9 h91) (λh=>by obtain rfl:i9=i:=om;exact hlt)⟩
 have hA:Qd5 (at1 s 4) gn.es=true:=Qct.2 (λi9 h9=>by unfold Qbv;rw[Qgr hky h9,Bool.true_and];exact decide_eq_true (Nat.eq_zero_or_pos i9 |>.imp id (λhp=>hi2 i9 hp om)))
 have hR:=Qub h16 hs4 h3 h4 h5 h6 hrd (by rw[<-hes9];exact hA)
 refine Qh rfl ?_
 refine aU3 ?_
 refine o_h (Qk (cs:=[_,_,_]) rfl rfl QT Xr rfl rfl rfl) rfl (λb22 _=>aU9 ?_)
 exact Ql (rs:=[.cell 2 37,.tmp 3]) rfl (.cell rfl X2 aPk rfl (.tmp rfl (.nil))) (λw' h'=>⟨((some ⟨b22,0,none⟩,1),[gn]),by rw[hR];rfl,by rw[hR];show[gn.pl]=_;rw[hpl9],(HS.nodes_of1 (HS.own_shut (n:=1) (cap:=1) (sz:=3) (h'.ent (Bs:=[.blk b22 69 (1*3) (LNd.vals gn),.ents 27 gn.ea gn.ec gn.es,.kids gn.ca gn.cc gn.cs]) aEt) rfl (by decide) (by decide))).ent aEt⟩)
end Go.Proofs
namespace Gx
namespace Ev
open Go Go.RowKit
structure Rho where
 f:Nat->Option (Nat×Nat)
 ex:List HA
instance:CoeFun Rho (λ_=>Nat->Option (Nat×Nat)):=⟨Rho.f⟩
def Rho.le(ρ ρ':Rho):Prop:=(∀n x,ρ n=some x->ρ' n=some x)/\ρ'.ex=ρ.ex
theorem Rho.le_refl(ρ:Rho):ρ.le ρ:=⟨λ_ _ h=>h,rfl⟩
theorem Rho.le_trans{a b c:Rho}(h1:a.le b)(h2:b.le c):a.le c:=⟨λn x h=>h2.1 n x (h1.1 n x h),h2.2.trans h1.2⟩
def X3(ρ:Rho):Value->Option Value
 | .pointer (some ⟨n,i,none⟩)=>match ρ n with
  | some x=>some (.pointer (some ⟨x.1,i,none⟩))
  | none=>none
 | .pointer (some ⟨n,i,some q⟩)=>match ρ n with
  | some x=>some (.slice (some ⟨x.1,if x.2=0 then i else i+q,none⟩) 0 x.2)
  | none=>none
 | .pointer none=>some (.pointer none)
 | .slice (some ⟨n,i,none⟩) l c=>match ρ n with
  | some x=>some (.slice (some ⟨x.1,i,none⟩) l (c+x.2))
  | none=>none
 | .slice (some ⟨n,i,some _⟩) l c=>match ρ n with
  | some x=>some (.slice (some ⟨x.1,i,none⟩) l c)
  | none=>none
 | .slice none l c=>some (.slice none l c)
 | .map (some r)=>match ρ r with
  | some x=>some (.map (some x.1))
  | none=>none
 | .map none=>some (.map none)
 | .int k n=>some (.int k n)
 | .bool b=>some (.bool b)
 | .string s=>some (.string s)
 | .nilFunc=>some .nilFunc
 | _=>none
def QD{α β:Type}(f:α->Option β):List α->Option (List β)
 | []=>some []
 | a::l=>match f a,QD f l with
  | some b,some m=>some (b::m)
  | _,_=>none
def Qdp(ρ:Rho):Fn->Option Fn
 | .func f=>some (.func f)
 | .yield n=>match ρ n with
  | some x=>some (.yield x.1)
  | none=>none
 | _=>none
def Q6(ρ:Rho):Value->Option Value
 | .func f a b=>match Qdp ρ f,QD (X3 ρ) a.toList,QD (X3 ρ) b.toList with
  | some f',some a',some b'=>some (.func f' a'.toArray b'.toArray)
  | _,_,_=>none
 | v=>X3 ρ v
def XH(ρ:Rho):Value->Option Value
 | .agg cs=>match QD (Q6 ρ) cs.toList with
  | some l=>some (.agg l.toArray)
  | none=>none
 | v=>Q6 ρ v
def den(ρ:Rho):Value->Option Value
 | .tuple vs=>match QD (XH ρ) vs.toList with
  | some l=>some (.tuple l.toArray)
  | none=>none
 | v=>XH ρ v
section
variable{α β:Type}
theorem XA{f g:α->Option β}(h:∀a b,f a=some b->g a=some b):∀{l:List α}{m:List β},QD f l=some m->QD g l=some m
 | [],m,e=>e
 | a::l,m,e=>by
  simp only[QD]at e ⊢;split at e
  ·rename_i b m' h1 h2;rw[h a b h1,XA h h2];exact e
  ·cases e
theorem Xl{f:α->Option β}:∀{l:List α}{m:List β},QD f l=some m->m.length=l.length
 | [],m,e=>by cases e;rfl
 | a::l,m,e=>by
  simp only[QD]at e;split at e
  ·rename_i b m' h1 h2;injection e with e
   subst e;simp[Xl h2]
  ·cases e
theorem Qbj{f:α->Option β}:∀{l:List α}{m:List β}{i:Nat}{a:α},QD f l=some m->l[i]?=some a->∃b,m[i]?=some b/\f a=some b
 | [],m,i,a,e,h=>by simp at h
 | x::l,m,i,a,e,h=>by
  simp only[QD]at e;split at e
  ·rename_i b m' h1 h2;injection e with e
   subst e;cases i with
   | zero=>simp at h;subst h;exact⟨b,rfl,h1⟩
   | succ i=>simpa using Qbj h2 (by simpa using h)
  ·cases e
theorem ZD{f:α->Option β}:∀{l l2:List α}{m m2:List β},QD f l=some m->QD f l2=some m2->QD f (l++l2)=some (m++m2)
 | [],l2,m,m2,e,e2=>by cases e;exact e2
 | a::l,l2,m,m2,e,e2=>by
  simp only[QD]at e;split at e
  ·rename_i b m' h1 h2;injection e with e
   subst e
   simp_all[QD,ZD]
  ·cases e
theorem XX{f:α->Option β}:∀{l:List α}{m:List β}(k:Nat),QD f l=some m->QD f (l.take k)=some (m.take k)
 | [],m,k,e=>by cases e;simp[QD]
 | a::l,m,0,e=>by simp[QD]
 | a::l,m,k+1,e=>by
  simp only[QD]at e;split at e
  ·rename_i b m' h1 h2;injection e with e
   subst e
   simp_all[QD,XX]
  ·cases e
theorem YO{f:α->Option β}:∀{l:List α}{m:List β}(k:Nat),QD f l=some m->QD f (l.drop k)=some (m.drop k)
 | [],m,k,e=>by cases e;simp[QD]
 | a::l,m,0,e=>by simpa using e
 | a::l,m,k+1,e=>by
  simp only[QD]at e;split at e
  ·rename_i b m' h1 h2;injection e with e
   subst e
   simpa using YO k h2
  ·cases e
theorem Qkh{f:α->Option β}:∀{l:List α}{m:List β}(i:Nat){a:α}{b:β},QD f l=some m->f a=some b->QD f (l.set i a)=some (m.set i b)
 | [],m,i,a,b,e,h=>by cases e;simp[QD]
 | x::l,m,i,a,b,e,h=>by
  simp only[QD]at e;split at e
  ·rename_i y m' h1 h2;injection e with e
   subst e;cases i with
   | zero=>simp only[List.set_cons_zero,QD,h,h2]
   | succ i=>simp only[List.set_cons_succ,QD,h1,Qkh i h2 h]
  ·cases e
theorem QjE{f:α->Option β}:∀{l:List α}{m:List β}{b:β},QD f l=some m->b∈m->∃a∈l,f a=some b
 | [],m,b,e,h=>by cases e;cases h
 | x::l,m,b,e,h=>by
  simp only[QD]at e;split at e
  ·rename_i y m' h1 h2;injection e with e
   subst e;rcases List.mem_cons.1 h with rfl|h
   ·grind
   ·obtain⟨a,ha,e⟩:=QjE h2 h
    grind
  ·cases e
end
theorem Qoe{ρ ρ':Rho}(h:ρ.le ρ')(v u:Value)(e:X3 ρ v=some u):X3 ρ' v=some u:=by
  unfold X3 at e ⊢
  split at e<;>first
    | exact e
    | (split at e
       · rename_i x hx;rw[h.1 _ _ hx];exact e
       · cases e)
    | cases e
theorem QlE{ρ ρ':Rho}(h:ρ.le ρ')(f g:Fn)(e:Qdp ρ f=some g):Qdp ρ' f=some g:=by
  unfold Qdp at e ⊢
  split at e<;>first
    | exact e
    | (split at e
       · rename_i x hx;rw[h.1 _ _ hx];exact e
       · cases e)
    | cases e
theorem Qe7{ρ ρ':Rho}(h:ρ.le ρ')(v u:Value)(e:Q6 ρ v=some u):Q6 ρ' v=some u:=by
 unfold Q6 at e ⊢
 grind[QlE,XA,Qoe]
theorem Qn9{ρ ρ':Rho}(h:ρ.le ρ')(v u:Value)(e:XH ρ v=some u):XH ρ' v=some u:=by
 unfold XH at e ⊢
 grind[XA,Qe7]
theorem Qhf{ρ ρ':Rho}(h:ρ.le ρ')(v u:Value)(e:den ρ v=some u):den ρ' v=some u:=by
 unfold den at e ⊢
 grind[XA,Qn9]
abbrev Env:=Nat->Option Value
def SR(ρ:Rho)(L:Env)(L':Qc):Prop:=∀t v,L t=some v->∃u,Qc.get L' t=some u/\den ρ v=some u
theorem SR.mono{ρ ρ':Rho}(h:ρ.le ρ'){L:Env}{L':Qc}(e:SR ρ L L'):SR ρ' L L':=λt v hv=>by
 obtain⟨u,h1,h2⟩:=e t v hv
 grind[Qhf]
theorem SR.get{ρ:Rho}{L:Env}{L':Qc}{t:Nat}{v:Value}(e:SR ρ L L')(h:L t=some v):∃u,Qc.get L' t=some u/\den ρ v=some u:=e t v h
theorem SR.put{ρ:Rho}{L L2:Env}{L':Qc}{d:Nat}{v u:Value}(e:SR ρ L L')(hu:den ρ v=some u)(h:∀t x,L2 t=some x->(t=d/\x=v)\/(t≠d/\L t=some x)):SR ρ L2 ((d,u)::L'):=λt x hx=>by
 simp only[Qc.get];rcases h t x hx with⟨rfl,rfl⟩|⟨h1,h2⟩
 ·simp_all
 ·have hb:Nat.beq d t=false:=by cases hb:Nat.beq d t<;>simp_all
  rw[hb];exact e t x h2
def Z2:Value->Bool
 | .int _ _| .bool _| .string _| .nilFunc| .pointer none| .slice none _ _| .map none=>true
 | _=>false
theorem Qbf{v:Value}(h:Z2 v=true)(ρ:Rho):den ρ v=some v:=by
 unfold Z2 at h;split at h<;>first|rfl|cases h
def opd(L:Env):Operand->Option Value
 | .tmp t=>L t
 | .const v=>bif Z2 v then some v else none
 | .func f=>some (.func (.func f) #[] #[])
 | _=>none
theorem Zj{ρ:Rho}{L:Env}{L':Qc}{x:Operand}{v:Value}(hs:SR ρ L L')(h:opd L x=some v):∃u,ev L' x=some u/\den ρ v=some u:=by
 unfold opd at h;split at h
 ·exact hs.get h
 ·rename_i c;cases hf:Z2 c with
  | true=>
   rw[hf]at h;injection h with h
   subst h;exact⟨_,rfl,Qbf hf ρ⟩
  | false=>rw[hf]at h;cases h
 ·injection h with h
  subst h;exact⟨_,rfl,rfl⟩
 ·cases h
def QdV(L:Env):List Operand->Option (List Value)
 | []=>some []
 | x::l=>match opd L x,QdV L l with
  | some v,some vs=>some (v::vs)
  | _,_=>none
theorem Qe3{ρ:Rho}{L:Env}{L':Qc}(hs:SR ρ L L'):∀{l:List Operand}{vs:List Value},QdV L l=some vs->∃us,evs L' l=some us/\QD (den ρ) vs=some us
 | [],vs,h=>by cases h;exact⟨[],rfl,rfl⟩
 | x::l,vs,h=>by
  simp only[QdV]at h;split at h
  ·rename_i v vs' h1 h2;injection h with h
   subst h;obtain⟨u,e1,e2⟩:=Zj hs h1;obtain⟨us,e3,e4⟩:=Qe3 hs h2
   grind[evs,QD]
  ·cases h
section
variable{ρ:Rho}{L:Env}{L':Qc}{x:Operand}
theorem Qn{v:Value}(hs:SR ρ L L')(h:opd L x=some v)(hf:Z2 v=true):ev L' x=some v:=by grind[Zj,Qbf]
theorem Qed{n i:Nat}(hs:SR ρ L L')(h:opd L x=some (.pointer (some ⟨n,i,none⟩))):∃b d,ρ n=some (b,d)/\ev L' x=some (.pointer (some ⟨b,i,none⟩)):=by grind[Zj,den,XH,Q6,X3]
theorem Yb{n i l c:Nat}(hs:SR ρ L L')(h:opd L x=some (.slice (some ⟨n,i,none⟩) l c)):∃b d,ρ n=some (b,d)/\ev L' x=some (.slice (some ⟨b,i,none⟩) l (c+d)):=by grind[Zj,den,XH,Q6,X3]
theorem YH{n i l c q:Nat}(hs:SR ρ L L')(h:opd L x=some (.slice (some ⟨n,i,some q⟩) l c)):∃b d,ρ n=some (b,d)/\ev L' x=some (.slice (some ⟨b,i,none⟩) l c):=by grind[Zj,den,XH,Q6,X3]
theorem QgB{n i q:Nat}(hs:SR ρ L L')(h:opd L x=some (.pointer (some ⟨n,i,some q⟩))):∃b d j,ρ n=some (b,d)/\ev L' x=some (.slice (some ⟨b,j,none⟩) 0 d):=by grind[Zj,den,XH,Q6,X3]
theorem Qc1{cs:Array Value}(hs:SR ρ L L')(h:opd L x=some (.agg cs)):∃l,QD (Q6 ρ) cs.toList=some l/\ev L' x=some (.agg l.toArray):=by grind[Zj,den,XH]
theorem Qod{vs:Array Value}(hs:SR ρ L L')(h:opd L x=some (.tuple vs)):∃l,QD (XH ρ) vs.toList=some l/\ev L' x=some (.tuple l.toArray):=by grind[Zj,den]
end
end Ev
namespace Ev
open Go Go.RowKit
def vN:Option Value->Option Nat
 | some (.int _ (.ofNat n))=>some n
 | _=>none
theorem Zn{v:Option Value}{n:Nat}(h:vN v=some n):∃k,v=some (.int k (n:Int)):=by
 unfold vN at h;split at h<;>simp_all
def Xs(P:Program)(t:TypeId):Bool:=match P.underlying t with|some .string=>true|_=>false
def Qdi(P:Program)(t:TypeId):Bool:=match P.underlying t with|some .bool=>true|_=>false
def Xx(P:Program)(t:TypeId):Bool:=match P.underlying t with|some (.slice _)=>true|_=>false
theorem Yx{P:Program}{t:TypeId}(h:Xs P t=true):P.underlying t=some .string:=by grind[Xs]
theorem Qf9{P:Program}{t:TypeId}(h:Qdi P t=true):P.underlying t=some .bool:=by grind[Qdi]
theorem X0{P:Program}{t:TypeId}(h:Xx P t=true):∃e,P.underlying t=some (.slice e):=by grind[Xx]
def Qdx(P:Program)(t:TypeId):Bool:=match P.underlying t with
 | some (.pointer te)=>(match tsz P te with
  | some (n,_)=>!Nat.beq n 0
  | none=>false)
 | _=>false
theorem QeF{P:Program}{t:TypeId}(h:Qdx P t=true):∃te,Qrw P t te:=by
 unfold Qdx at h;split at h
 ·rename_i te h1;split at h
  ·rename_i n b h2;exact⟨te,Qm8 h1 h2 λe=>by subst e;cases h⟩
  ·cases h
 ·cases h
def QoJ:List Nat->List Nat->Bool
 | [],[]=>true
 | a::l,b::m=>Nat.beq a b&&QoJ l m
 | _,_=>false
theorem Qmd:∀{l m:List Nat},QoJ l m=true->l=m
 | [],[],_=>rfl
 | a::l,b::m,h=>by
  simp only[QoJ,Bool.and_eq_true]at h;rw[Nat.eq_of_beq_eq_true h.1,Qmd h.2]
 | [],_::_,h=>by cases h
 | _::_,[],h=>by cases h
def QtK(P:Program)(t:TypeId)(xs ys:List Value):Option Bool:=match Qkm P t with
 | some ks=>bif (QoJ (xs.map Qdt) ks&&QoJ (ys.map Qdt) ks)&&(xs.all Z2&&ys.all Z2)then eqC xs ys else none
 | none=>none
def ZQ(P:Program)(op:BinOp)(t:TypeId)(a b:Value):Option Value:=match Xw op a b with
 | some v=>some v
 | none=>match op,a,b with
  | .eql,.bool x,.bool y=>bif Qdi P t then some (.bool (x==y))else none
  | .neq,.bool x,.bool y=>bif Qdi P t then some (.bool (!(x==y)))else none
  | .eql,.slice p _ _,.slice none _ _=>bif Xx P t then some (.bool p.isNone)else none
  | .neq,.slice p _ _,.slice none _ _=>bif Xx P t then some (.bool (!p.isNone))else none
  | .eql,.agg ⟨xs⟩,.agg ⟨ys⟩=>(match QtK P t xs ys with
   | some b=>some (.bool b)
   | none=>none)
  | .neq,.agg ⟨xs⟩,.agg ⟨ys⟩=>(match QtK P t xs ys with
   | some b=>some (.bool (!b))
   | none=>none)
  | .eql,.pointer none,.pointer none=>bif Qdx P t then some (.bool true)else none
  | .eql,.pointer (some ⟨_,_,none⟩),.pointer none=>bif Qdx P t then some (.bool false)else none
  | .neq,.pointer none,.pointer none=>bif Qdx P t then some (.bool false)else none
  | .neq,.pointer (some ⟨_,_,none⟩),.pointer none=>bif Qdx P t then some (.bool true)else none
  | .quo,.int k x,.int k' y=>bif kEq k k'&& !decide (y=0)then some (.int k (k.wrap (x.tdiv y)))else none
  | .rem,.int k x,.int k' y=>bif kEq k k'&& !decide (y=0)then some (.int k (x.tmod y))else none
  | .shl,.int k x,.int _ (.ofNat y)=>some (.int k (k.wrap (x*2^(min y k.bits))))
  | .shr,.int k x,.int _ (.ofNat y)=>some (.int k (x/2^(min y k.bits)))
  | .add,.string ⟨⟨x⟩⟩,.string ⟨⟨y⟩⟩=>bif Nat.ble (x.length+y.length) 9223372036854775807 then some (.string (bs (x++y)))else none
  | _,_,_=>none
theorem QhC{P:Program}{t:TypeId}{xs ys:List Value}{b:Bool}(h:QtK P t xs ys=some b):∃ks,Qkm P t=some ks/\xs.map Qdt=ks/\ys.map Qdt=ks/\xs.all Z2=true/\ys.all Z2=true/\eqC xs ys=some b:=by grind[QtK,ks,QoJ,Qdt,Z2,Qmd]
theorem QnZ{ρ:Rho}{v:Value}(h:Z2 v=true):Q6 ρ v=some v:=by
 unfold Z2 at h;split at h<;>first|rfl|cases h
theorem Qcv{ρ:Rho}:∀{l:List Value},l.all Z2=true->QD (Q6 ρ) l=some l
 | [],_=>rfl
 | v::l,h=>by simp_all[QD,QnZ,Qcv]
section
variable{P:Program}{o:Oper}{ρ:Rho}{L:Env}{L':Qc}
theorem Qi9{op:BinOp}{a b v:Value}(h:Xw op a b=some v):Z2 a=true/\Z2 b=true/\Z2 v=true:=by
 unfold Xw at h;split at h
 ·rename_i k x k' y;refine⟨rfl,rfl,?_⟩;cases hk:kEq k k' with
  | false=>rw[hk]at h;cases h
  | true=>
   rw[hk]at h;simp only[cond_true]at h;cases op<;>simp only[X1,Option.some.injEq,reduceCtorEq]at h<;>first|(subst h;rfl)|cases h
 ·refine⟨rfl,rfl,?_⟩;cases op<;>simp only[QeJ,Option.some.injEq,reduceCtorEq]at h<;>first|(subst h;rfl)|cases h
 ·cases h
theorem Qw6{op:BinOp}{t t':TypeId}{x y:Operand}{a b v:Value}(ho:o.op=.binOp op t x y t')(hs:SR ρ L L')(hx:opd L x=some a)(hy:opd L y=some b)(h:ZQ P op t a b=some v):∃u,OpP P o L' u/\den ρ v=some u:=by
 unfold ZQ at h;split at h
 ·grind[Qi9,Qar,QbW,Qn,Qbf]
 ·split at h
  ·rename_i x' y' _;cases ht:Qdi P t with
   | false=>rw[ht]at h;cases h
   | true=>
    rw[ht]at h;injection h with h
    subst h;exact⟨_,QdJ ho (Qn hs hx rfl) (Qn hs hy rfl) (Qf9 ht),rfl⟩
  ·rename_i x' y' _;cases ht:Qdi P t with
   | false=>rw[ht]at h;cases h
   | true=>
    rw[ht]at h;injection h with h
    subst h;exact⟨_,Qld ho (Qn hs hx rfl) (Qn hs hy rfl) (Qf9 ht),rfl⟩
  ·rename_i p l1 c1 l2 c2 _;cases ht:Xx P t with
   | false=>rw[ht]at h;cases h
   | true=>
    rw[ht]at h;injection h with h
    subst h;obtain⟨e,he⟩:=X0 ht;have hy':=Qn hs hy rfl;rcases p with _|⟨n,i,_|q⟩
    ·exact⟨_,ZU ho (Qn hs hx rfl) hy' he,rfl⟩
    ·obtain⟨b9,d9,_,hx'⟩:=Yb hs hx;exact⟨_,ZU ho hx' hy' he,rfl⟩
    ·obtain⟨b9,d9,_,hx'⟩:=YH hs hx;exact⟨_,ZU ho hx' hy' he,rfl⟩
  ·rename_i p l1 c1 l2 c2 _;cases ht:Xx P t with
   | false=>rw[ht]at h;cases h
   | true=>
    rw[ht]at h;injection h with h
    subst h;obtain⟨e,he⟩:=X0 ht;have hy':=Qn hs hy rfl;rcases p with _|⟨n,i,_|q⟩
    ·exact⟨_,ZX ho (Qn hs hx rfl) hy' he,rfl⟩
    ·obtain⟨b9,d9,_,hx'⟩:=Yb hs hx;exact⟨_,ZX ho hx' hy' he,rfl⟩
    ·obtain⟨b9,d9,_,hx'⟩:=YH hs hx;exact⟨_,ZX ho hx' hy' he,rfl⟩
  ·rename_i xs ys _;split at h
   ·rename_i b hb;injection h with h
    subst h;obtain⟨ks,k1,k2,k3,k4,k5,k6⟩:=QhC hb;obtain⟨l1,m1,n1⟩:=Qc1 hs hx;obtain⟨l2,m2,n2⟩:=Qc1 hs hy;rw[Qcv k4]at m1;rw[Qcv k5]at m2;injection m1 with m1
    injection m2 with m2
    subst m1 m2;exact⟨_,Qh3 ho n1 n2 k1 k2 k3 k6,rfl⟩
   ·cases h
  ·rename_i xs ys _;split at h
   ·rename_i b hb;injection h with h
    subst h;obtain⟨ks,k1,k2,k3,k4,k5,k6⟩:=QhC hb;obtain⟨l1,m1,n1⟩:=Qc1 hs hx;obtain⟨l2,m2,n2⟩:=Qc1 hs hy;rw[Qcv k4]at m1;rw[Qcv k5]at m2;injection m1 with m1
    injection m2 with m2
    subst m1 m2;exact⟨_,Qdc ho n1 n2 k1 k2 k3 k6,rfl⟩
   ·cases h
  ·cases hk:Qdx P t with
   | false=>rw[hk]at h;cases h
   | true=>
    rw[hk]at h;injection h with h
    subst h;obtain⟨te,ht⟩:=QeF hk;exact⟨_,Qia ho (Qn hs hx rfl) (Qn hs hy rfl) ht,rfl⟩
  ·cases hk:Qdx P t with
   | false=>rw[hk]at h;cases h
   | true=>
    rw[hk]at h;injection h with h
    subst h;obtain⟨te,ht⟩:=QeF hk;obtain⟨b9,d9,_,hx'⟩:=Qed hs hx;exact⟨_,Qia ho hx' (Qn hs hy rfl) ht,rfl⟩
  ·cases hk:Qdx P t with
   | false=>rw[hk]at h;cases h
   | true=>
    rw[hk]at h;injection h with h
    subst h;obtain⟨te,ht⟩:=QeF hk;exact⟨_,QcL ho (Qn hs hx rfl) (Qn hs hy rfl) ht,rfl⟩
  ·cases hk:Qdx P t with
   | false=>rw[hk]at h;cases h
   | true=>
    rw[hk]at h;injection h with h
    subst h;obtain⟨te,ht⟩:=QeF hk;obtain⟨b9,d9,_,hx'⟩:=Qed hs hx;exact⟨_,QcL ho hx' (Qn hs hy rfl) ht,rfl⟩
  ·rename_i k x' k' y' _;cases hk:kEq k k'&& !decide (y'=0)with
   | false=>rw[hk]at h;cases h
   | true=>
    rw[hk]at h;injection h with h
    subst h;simp only[Bool.and_eq_true,Bool.not_eq_true',decide_eq_false_iff_not]at hk;obtain rfl:=Qcx hk.1;exact⟨_,QqM ho (Qn hs hx rfl) (Qn hs hy rfl) hk.2,rfl⟩
  ·rename_i k x' k' y' _;cases hk:kEq k k'&& !decide (y'=0)with
   | false=>rw[hk]at h;cases h
   | true=>
    rw[hk]at h;injection h with h
    subst h;simp only[Bool.and_eq_true,Bool.not_eq_true',decide_eq_false_iff_not]at hk;obtain rfl:=Qcx hk.1;exact⟨_,QmN ho (Qn hs hx rfl) (Qn hs hy rfl) hk.2,rfl⟩
  ·injection h with h
   subst h;exact⟨_,Qfp ho (Qn hs hx rfl) (Qn hs hy rfl) (Int.natCast_nonneg _) _ rfl,rfl⟩
  ·injection h with h
   subst h;exact⟨_,Qey ho (Qn hs hx rfl) (Qn hs hy rfl) (Int.natCast_nonneg _) _ rfl,rfl⟩
  ·rename_i x' y' _;cases hk:Nat.ble (x'.length+y'.length) 9223372036854775807 with
   | false=>rw[hk]at h;cases h
   | true=>
    rw[hk]at h;injection h with h
    subst h;exact⟨_,QF ho (Qn hs hx rfl) (Qn hs hy rfl) (Nat.le_of_ble_eq_true hk),rfl⟩
  ·cases h
end
end Ev
namespace Ev
open Go Go.RowKit
section
variable{ρ:Rho}
theorem Qrn{v u:Value}(h:X3 ρ v=some u):Q6 ρ v=some u:=by
 cases v<;>first|exact h|(simp[X3]at h)
theorem QbS{v u:Value}(h:Q6 ρ v=some u):XH ρ v=some u:=by
 cases v<;>first|exact h|(simp[Q6,X3]at h)
theorem Qdu{v u:Value}(h:XH ρ v=some u):den ρ v=some u:=by
 cases v<;>first|exact h|(simp[XH,Q6,X3]at h)
def Qll:Value->Bool
 | .agg _| .tuple _| .func _ _ _=>false
 | _=>true
theorem Qo4{v u:Value}(h:Qll v=true)(e:den ρ v=some u):X3 ρ v=some u:=by
 cases v<;>first|exact e|(simp[Qll]at h)
def lone:Value->Bool
 | .agg _| .tuple _=>false
 | _=>true
theorem Qrc{v u:Value}(h:lone v=true)(e:den ρ v=some u):Q6 ρ v=some u:=by
 cases v<;>first|exact e|(simp[lone]at h)
theorem Qhg:∀{vs us:List Value},vs.all Qll=true->QD (den ρ) vs=some us->QD (X3 ρ) vs=some us
 | [],us,_,e=>by cases e;rfl
 | v::vs,us,h,e=>by
  simp only[List.all_cons,Bool.and_eq_true]at h;simp only[QD]at e ⊢;split at e
  ·simp_all[Qo4,Qhg]
  ·cases e
def ZZ:Value->Bool
 | .tuple _=>false
 | _=>true
theorem Qin{v u:Value}(h:ZZ v=true)(e:den ρ v=some u):QD (Q6 ρ) v.cells.toList=some u.cells.toList:=by
 have one:∀{v u:Value},v.cells= #[v]->Q6 ρ v=some u->u.cells= #[u]->QD (Q6 ρ) v.cells.toList=some u.cells.toList:=λh1 h2 h3=>by
  rw[h1,h3];simp[QD,h2]
 cases v with
 | tuple vs=>simp[ZZ]at h
 | agg cs=>
  simp only[den,XH]at e;split at e
  ·rename_i l hl;injection e with e
   subst e
   simpa[Value.cells]using hl
  ·cases e
 | _=>
  refine one rfl e ?_;simp only[den,XH,Q6,X3]at e
  first
   | (injection e with e;subst e;rfl)
   | (repeat' split at e)<;>first|(injection e with e;subst e;rfl)|cases e
end
section
variable{P:Program}{o:Oper}{ρ:Rho}{L:Env}{L':Qc}
def Qcc(P:Program)(src dst:TypeId):Value->Option Value
 | .int k0 n=>match tki P src,tki P dst with
  | some k1,some k=>bif kEq k0 k1 then some (.int k (k.wrap n))else none
  | _,_=>none
 | .string s=>bif Xs P src&&Xs P dst then some (.string s)else none
 | _=>none
theorem QuW{src dst:TypeId}{x:Operand}{a v:Value}(ho:o.op=.convert src dst x)(hs:SR ρ L L')(hx:opd L x=some a)(h:Qcc P src dst a=some v):∃u,OpP P o L' u/\den ρ v=some u:=by
 unfold Qcc at h;split at h
 ·rename_i k0 n;split at h
  ·rename_i k1 k h1 h2;cases hk:kEq k0 k1 with
   | false=>rw[hk]at h;cases h
   | true=>
    rw[hk]at h;injection h with h
    subst h;obtain rfl:=Qcx hk;exact⟨_,Qp ho (Qn hs hx rfl) h1 h2,rfl⟩
  ·cases h
 ·cases hk:Xs P src&&Xs P dst with
  | false=>rw[hk]at h;cases h
  | true=>
   rw[hk]at h;injection h with h
   subst h;simp only[Bool.and_eq_true]at hk;exact⟨_,QlH ho (Qn hs hx rfl) (Yx hk.1) (Yx hk.2),rfl⟩
 ·cases h
theorem Qoy{x:Operand}{i:Nat}{vs:Array Value}{v:Value}(ho:o.op=.extract x i)(hs:SR ρ L L')(hx:opd L x=some (.tuple vs))(h:vs.toList[i]?=some v):∃u,OpP P o L' u/\den ρ v=some u:=by
 obtain⟨l,h1,h2⟩:=Qod hs hx;obtain⟨u,h3,h4⟩:=Qbj h1 h
 grind[Qar,QbW,Qdu]
theorem Qle{f:FuncId}{first cap:Array Operand}{a b:List Value}(ho:o.op=.makeFunc (.func f) first cap)(hs:SR ρ L L')(h1:QdV L first.toList=some a)(h2:QdV L cap.toList=some b)(ha:a.all Qll=true)(hb:b.all Qll=true) :
  ∃u,OpP P o L' u/\den ρ (.func (.func f) a.toArray b.toArray)=some u:=by
 obtain⟨a',e1,e2⟩:=Qe3 hs h1;obtain⟨b',e3,e4⟩:=Qe3 hs h2;refine⟨.func (.func f) a'.toArray b'.toArray,Qar (by rw[ho];simp only[QbW,e1,e3]),?_⟩
 simp_all[den,XH,Q6,Qdp,Qhg,ha]
theorem Qv1{c a b:Operand}{t:Bool}{x y:Value}(ho:o.op=.pick c a b)(hs:SR ρ L L')(hc:opd L c=some (.bool t))(ha:opd L a=some x)(hb:opd L b=some y):∃u,OpP P o L' u/\den ρ (if t then x else y)=some u:=by
 obtain⟨x',e1,e2⟩:=Zj hs ha;obtain⟨y',e3,e4⟩:=Zj hs hb;refine⟨if t then x' else y',Qar (by rw[ho];simp only[QbW,Qn hs hc rfl,e1,e3,Qku]),?_⟩
 grind
theorem Qo2{x:Operand}{v:Value}(ho:o.op=.move x\/o.op=.assign x)(hs:SR ρ L L')(hx:opd L x=some v):∃u,OpP P o L' u/\den ρ v=some u:=by
 obtain⟨u,h1,h2⟩:=Zj hs hx;refine⟨u,Qar ?_,h2⟩;rcases ho with ho|ho<;>rw[ho]<;>exact h1
theorem un_R{op:UnOp}{t:TypeId}{x:Operand}{a v:Value}(ho:o.op=.unOp op t x)(hs:SR ρ L L')(hx:opd L x=some a)(h:Qfb op a=some v):∃u,OpP P o L' u/\den ρ v=some u:=by
 have hf:Z2 a=true/\Z2 v=true:=by
  unfold Qfb at h;split at h<;>first|(injection h with h;subst h;exact⟨rfl,rfl⟩)|cases h
 grind[Qar,QbW,Qn,Qbf]
theorem QlP{x:Operand}{n i:Nat}(ho:o.op=.nilCheck x)(hs:SR ρ L L')(hx:opd L x=some (.pointer (some ⟨n,i,none⟩))):∃u,OpP P o L' u/\den ρ (.pointer (some ⟨n,i,none⟩))=some u:=by
 obtain⟨b,d,h1,h2⟩:=Qed hs hx
 grind[Qar,QbW,den,XH,Q6,X3]
theorem QkC{x:Operand}{f:FuncId}{a b:Array Value}(ho:o.op=.nilCheck x)(hs:SR ρ L L')(hx:opd L x=some (.func (.func f) a b)):∃u,OpP P o L' u/\den ρ (.func (.func f) a b)=some u:=by
 obtain⟨u,h1,h2⟩:=Zj hs hx
 grind[den,XH,Q6,Qdp,Qar,QbW]
theorem QsF{st f off ft n:Nat}{x:Operand}{cs:Array Value}{v:Value}{ag:Bool}(ho:o.op=.field st x f)(hs:SR ρ L L')(hx:opd L x=some (.agg cs))(hf:tfd P st f=some (off,ft))(hz:tsz P ft=some (n,ag))
  (h:(if ag then some (.agg (cut cs.toList off n).toArray)else cs.toList[off]?)=some v):∃u,OpP P o L' u/\den ρ v=some u:=by
 obtain⟨l,h1,h2⟩:=Qc1 hs hx;cases ag with
 | true=>
  simp only[if_true,Option.some.injEq]at h;subst h;refine⟨_,Qp6 ho h2 hf hz,?_⟩
  grind[den,XH,cut,XX,YO]
 | false=>
  have h':cs.toList[off]?=some v:=by simpa using h
  obtain⟨u,e1,e2⟩:=Qbj h1 h'
  grind[Qgt,Qdu,QbS]
theorem QsB{t e sz len n:Nat}{x y:Operand}{cs:Array Value}{j:Nat}{v:Value}{ag:Bool}(ho:o.op=.index t x y)(hs:SR ρ L L')(hx:opd L x=some (.agg cs))(hy:vN (opd L y)=some j)(ht:tar P t=some (len,e,sz))(hz:tsz P e=some (n,ag))(hlt:j<len)
  (h:(if ag then some (.agg (cut cs.toList (j*sz) n).toArray)else cs.toList[j*sz]?)=some v):∃u,OpP P o L' u/\den ρ v=some u:=by
 obtain⟨l,h1,h2⟩:=Qc1 hs hx;obtain⟨k,hk⟩:=Zn hy;have hy':=Qn hs hk rfl;cases ag with
 | true=>
  simp only[if_true,Option.some.injEq]at h;subst h;refine⟨_,Qd0 ho h2 hy' ht hz j rfl hlt,?_⟩
  grind[den,XH,cut,XX,YO]
 | false=>
  have h':cs.toList[j*sz]?=some v:=by simpa using h
  obtain⟨u,e1,e2⟩:=Qbj h1 h'
  grind[Qrt,Qdu,QbS]
theorem QrE{t:TypeId}{x y:Operand}{l:List UInt8}{j:Nat}(ho:o.op=.index t x y)(hs:SR ρ L L')(hx:opd L x=some (.string ⟨⟨l⟩⟩))(hy:vN (opd L y)=some j)(h:Xs P t=true)(hlt:j<l.length):∃u,OpP P o L' u/\den ρ (.int .u8 ((l.getD j 0).toNat:Int))=some u:=by
 obtain⟨k,hk⟩:=Zn hy;exact⟨_,Xk ho (Qn hs hx rfl) (Qn hs hk rfl) (Yx h) j rfl hlt,rfl⟩
def loN(L:Env):Option Operand->Option Nat
 | none=>some 0
 | some y=>vN (opd L y)
def hiN(L:Env)(n:Nat):Option Operand->Option Nat
 | none=>some n
 | some y=>vN (opd L y)
theorem Qfk{lo:Option Operand}{a:Nat}(hs:SR ρ L L')(h:loN L lo=some a):QoZ L' lo a:=by
 cases lo with
 | none=>injection h with h;exact h.symm
 | some y=>
  obtain⟨k,hk⟩:=Zn h;exact⟨k,_,Qn hs hk rfl,rfl⟩
theorem QjF{hi:Option Operand}{n b:Nat}(hs:SR ρ L L')(h:hiN L n hi=some b):Qsx L' hi n b:=by
 cases hi with
 | none=>injection h with h;exact h.symm
 | some y=>
  obtain⟨k,hk⟩:=Zn h;exact⟨k,_,Qn hs hk rfl,rfl⟩
theorem Qsc{t:TypeId}{x:Operand}{l:List UInt8}{lo hi:Option Operand}{a b:Nat}(ho:o.op=.slice t x lo hi none)(hs:SR ρ L L')(hx:opd L x=some (.string ⟨⟨l⟩⟩))(h:Xs P t=true)(hlo:loN L lo=some a)(hhi:hiN L l.length hi=some b)(hab:a<=b)(hbl:b<=l.length) :
  ∃u,OpP P o L' u/\den ρ (.string (bs ((l.take b).drop a)))=some u:=
 ⟨_,Xj lo hi a b ho (Qn hs hx rfl) (Yx h) (Qfk hs hlo) (QjF hs hhi) hab hbl,rfl⟩
theorem Qi3{b o cap i sz:Nat}(h:i<cap):XU (some ⟨b,o,none⟩) cap i sz=some ⟨b,o+i*sz,none⟩:=by
 unfold XU;rw[if_neg om];simp only[Option.map_some,Addr.add]
 grind
theorem QuX{b o cap sz:Nat}:XU (some ⟨b,o,none⟩) cap 0 sz=some ⟨b,o,none⟩:=by
 unfold XU;split
 ·rfl
 ·simp[Addr.add]
theorem Qsq{t e sz by' n of l c:Nat}{x:Operand}{lo hi:Option Operand}{i j:Nat}(ho:o.op=.slice t x lo hi none)(hs:SR ρ L L')(hx:opd L x=some (.slice (some ⟨n,of,none⟩) l c))(ht:tsl P t=some (e,sz,by'))(hlo:loN L lo=some i)(hhi:hiN L l hi=some j)(hij:i<=j)(hj:j<=c)(h:i=0\/i<c) :
  ∃u,OpP P o L' u/\den ρ (.slice (some ⟨n,of+i*sz,none⟩) (j-i) (c-i))=some u:=by
 obtain⟨b,d,h1,h2⟩:=Yb hs hx;have hp:=QA lo hi i j ho h2 ht (Qfk hs hlo) (QjF hs hhi) hij om;have e:XU (some ⟨b,of,none⟩) (c+d) i sz=some ⟨b,of+i*sz,none⟩:=by grind[QuX,Qi3]
 grind[den,XH,Q6,X3]
theorem Qqt{t e sz by' n of l c:Nat}{x:Operand}{lo hi:Option Operand}(ho:o.op=.slice t x lo hi none)(hs:SR ρ L L')(hx:opd L x=some (.slice (some ⟨n,of,none⟩) l c))(ht:tsl P t=some (e,sz,by'))(hlo:loN L lo=some c)(hhi:hiN L l hi=some c) :
  ∃u,OpP P o L' u/\den ρ (.pointer (some ⟨n,of,some (c*sz)⟩))=some u:=by
 obtain⟨b,d,h1,h2⟩:=Yb hs hx;have hp:=QA lo hi c c ho h2 ht (Qfk hs hlo) (QjF hs hhi) (Nat.le_refl _) om
 grind[XU,Qi3,den,XH,Q6,X3]
theorem QqI{t e sz by' n of l c q:Nat}{x:Operand}{lo hi:Option Operand}{i j:Nat}(ho:o.op=.slice t x lo hi none)(hs:SR ρ L L')(hx:opd L x=some (.slice (some ⟨n,of,some q⟩) l c))(ht:tsl P t=some (e,sz,by'))(hlo:loN L lo=some i)(hhi:hiN L l hi=some j)(hij:i<=j)(hj:j<=c) :
  ∃u,OpP P o L' u/\den ρ (.slice (some ⟨n,(if c=i then of else of+i*sz),some q⟩) (j-i) (c-i))=some u:=by
 obtain⟨b,d,h1,h2⟩:=YH hs hx;have hp:=QA lo hi i j ho h2 ht (Qfk hs hlo) (QjF hs hhi) hij hj
 grind[XU,Qi3,den,XH,Q6,X3]
theorem QpD{t e sz by' l c:Nat}{x:Operand}{lo hi:Option Operand}{i j:Nat}(ho:o.op=.slice t x lo hi none)(hs:SR ρ L L')(hx:opd L x=some (.slice none l c))(ht:tsl P t=some (e,sz,by'))(hlo:loN L lo=some i)(hhi:hiN L l hi=some j)(hij:i<=j)(hj:j<=c) :
  ∃u,OpP P o L' u/\den ρ (.slice none (j-i) (c-i))=some u:=by
 have hp:=QA lo hi i j ho (Qn hs hx rfl) ht (Qfk hs hlo) (QjF hs hhi) hij hj;have e:XU none c i sz=none:=by unfold XU;split<;>rfl
 rw[e]at hp;exact⟨_,hp,rfl⟩
theorem QgK{t e sz by':Nat}{x hi mx:Operand}{a:Option Addr}{n cap:Nat}(lo:Option Operand){L:Qc}{k2 k3:IntKind}(i j m:Nat)(ho:o.op=.slice t x lo (some hi) (some mx))(hx:ev L x=some (.slice a n cap))(hl:QoZ L lo i)(hh:ev L hi=some (.int k2 (j:Int)))(hm:ev L mx=some (.int k3 (m:Int)))(ht:tsl P t=some (e,sz,by'))(hij:i<=j)(hjm:j<=m)(hmc:m<=cap) :
  OpP P o L (.slice (XU a m i sz) (j-i) (m-i)):=by
 cases lo with
 | some lo=>
  obtain⟨k1,i1,h1,h2⟩:=hl
  grind[Qry]
 | none=>
  have hi0:i=0:=hl;subst hi0;intro ρ w hρ;obtain⟨hu,inf,h1,h2,_⟩:=Xf ht;simp[execOp,ho,hρ _ _ hx,hρ _ _ hh,hρ _ _ hm,Instr.sliceAt,Instr.slice,Instr.sliceBounds,Instr.sliceBound,asIntOf,run_underlying hu,hjm,hmc,Go.sizeOf,typeInfo,h1,h2,XU]
theorem Qri{b of m i sz:Nat}:XU (some ⟨b,of,none⟩) m i sz=some ⟨b,(if m=i then of else of+i*sz),none⟩:=by
 by_cases h:m=i
 ·grind[XU]
 ·rw[if_neg h];unfold XU;rw[if_neg h];simp only[Option.map_some,Addr.add]
  grind
theorem QqO{t e sz by' n of l c:Nat}{q:Option Nat}{x hi mx:Operand}{lo:Option Operand}{i j m:Nat}(ho:o.op=.slice t x lo (some hi) (some mx))(hs:SR ρ L L')(hx:opd L x=some (.slice (some ⟨n,of,q⟩) l c))(ht:tsl P t=some (e,sz,by'))(hlo:loN L lo=some i)(hhi:vN (opd L hi)=some j)(hmx:vN (opd L mx)=some m)(hij:i<=j)(hjm:j<=m)(hmc:m<=c) :
  ∃u,OpP P o L' u/\den ρ (.slice (some ⟨n,(if m=i then of else of+i*sz),some 0⟩) (j-i) (m-i))=some u:=by
 obtain⟨k2,hk2⟩:=Zn hhi;obtain⟨k3,hk3⟩:=Zn hmx;have g2:=Qn hs hk2 rfl;have g3:=Qn hs hk3 rfl;cases q with
 | none=>
  obtain⟨b,d,h1,h2⟩:=Yb hs hx;have hp:=QgK lo i j m ho h2 (Qfk hs hlo) g2 g3 ht hij hjm om
  grind[Qri,den,XH,Q6,X3]
 | some q=>
  obtain⟨b,d,h1,h2⟩:=YH hs hx;have hp:=QgK lo i j m ho h2 (Qfk hs hlo) g2 g3 ht hij hjm hmc
  grind[Qri,den,XH,Q6,X3]
theorem Qn0{t e sz by' l c:Nat}{x hi mx:Operand}{lo:Option Operand}{i j m:Nat}(ho:o.op=.slice t x lo (some hi) (some mx))(hs:SR ρ L L')(hx:opd L x=some (.slice none l c))(ht:tsl P t=some (e,sz,by'))(hlo:loN L lo=some i)(hhi:vN (opd L hi)=some j)(hmx:vN (opd L mx)=some m)(hij:i<=j)(hjm:j<=m)(hmc:m<=c) :
  ∃u,OpP P o L' u/\den ρ (.slice none (j-i) (m-i))=some u:=by
 obtain⟨k2,hk2⟩:=Zn hhi;obtain⟨k3,hk3⟩:=Zn hmx;have hp:=QgK lo i j m ho (Qn hs hx rfl) (Qfk hs hlo) (Qn hs hk2 rfl) (Qn hs hk3 rfl) ht hij hjm hmc;have e:XU none m i sz=none:=by unfold XU;split<;>rfl
 rw[e]at hp;exact⟨_,hp,rfl⟩
theorem Qjt{st f off ft sz:Nat}{x:Operand}{n i:Nat}{ag:Bool}(ho:o.op=.fieldAddr st x f)(hs:SR ρ L L')(hx:opd L x=some (.pointer (some ⟨n,i,none⟩)))(hf:tfd P st f=some (off,ft))(hz:tsz P ft=some (sz,ag))(h0:Nat.blt 0 sz=true) :
  ∃u,OpP P o L' u/\den ρ (.pointer (some ⟨n,i+off,none⟩))=some u:=by
 obtain⟨b,d,h1,h2⟩:=Qed hs hx;exact⟨_,QaI ho h2 hf hz h0,by simp only[den,XH,Q6,X3,h1]⟩
theorem Qjv{t e sz by' n of l c j:Nat}{x y:Operand}(ho:o.op=.indexAddr t x y)(hs:SR ρ L L')(hx:opd L x=some (.slice (some ⟨n,of,none⟩) l c))(hy:vN (opd L y)=some j)(ht:tsl P t=some (e,sz,by'))(hlt:j<l) :
  ∃u,OpP P o L' u/\den ρ (.pointer (some ⟨n,of+j*sz,none⟩))=some u:=by
 obtain⟨b,d,h1,h2⟩:=Yb hs hx;obtain⟨k,hk⟩:=Zn hy;exact⟨_,Qa ho h2 (Qn hs hk rfl) ht j rfl hlt rfl,by simp only[den,XH,Q6,X3,h1]⟩
theorem Qim{t e sz by' n of l c j q:Nat}{x y:Operand}(ho:o.op=.indexAddr t x y)(hs:SR ρ L L')(hx:opd L x=some (.slice (some ⟨n,of,some q⟩) l c))(hy:vN (opd L y)=some j)(ht:tsl P t=some (e,sz,by'))(hlt:j<l) :
  ∃u,OpP P o L' u/\den ρ (.pointer (some ⟨n,of+j*sz,none⟩))=some u:=by
 obtain⟨b,d,h1,h2⟩:=YH hs hx;obtain⟨k,hk⟩:=Zn hy;exact⟨_,Qa ho h2 (Qn hs hk rfl) ht j rfl hlt rfl,by simp only[den,XH,Q6,X3,h1]⟩
theorem Qih{t e sz len n i j:Nat}{x y:Operand}(ho:o.op=.indexAddr t x y)(hs:SR ρ L L')(hx:opd L x=some (.pointer (some ⟨n,i,none⟩)))(hy:vN (opd L y)=some j)(ht:tar P t=some (len,e,sz))(hlt:j<len) :
  ∃u,OpP P o L' u/\den ρ (.pointer (some ⟨n,i+j*sz,none⟩))=some u:=by
 obtain⟨b,d,h1,h2⟩:=Qed hs hx;obtain⟨k,hk⟩:=Zn hy;exact⟨_,Qfx ho h2 (Qn hs hk rfl) ht j rfl hlt,by simp only[den,XH,Q6,X3,h1]⟩
def Qem(L:Env):List (Nat×Operand)->Option (List (Nat×Value))
 | []=>some []
 | (i,x)::r=>match opd L x,Qem L r with
  | some v,some vs=>bif ZZ v then some ((i,v)::vs)else none
  | _,_=>none
def PR(ρ:Rho):List (Nat×Value)->List (Nat×Value)->Prop
 | [],[]=>True
 | (i,v)::l,(j,u)::m=>i=j/\ZZ v=true/\den ρ v=some u/\PR ρ l m
 | _,_=>False
theorem QfH(hs:SR ρ L L'):∀{l:List (Nat×Operand)}{vs:List (Nat×Value)},Qem L l=some vs->∃us,QaN L' l=some us/\PR ρ vs us
 | [],vs,h=>by cases h;exact⟨[],rfl,trivial⟩
 | (i,x)::r,vs,h=>by
  simp only[Qem]at h;split at h
  ·rename_i v vs' h1 h2;cases hn:ZZ v with
   | false=>rw[hn]at h;cases h
   | true=>
    rw[hn]at h;injection h with h
    subst h;obtain⟨u,e1,e2⟩:=Zj hs h1;obtain⟨us,e3,e4⟩:=QfH hs h2;exact⟨(i,u)::us,by simp only[QaN,e1,e3],rfl,hn,e2,e4⟩
  ·cases h
theorem Yr:∀{vs us cs ds:List Value}(i:Nat),QD (Q6 ρ) cs=some ds->QD (Q6 ρ) vs=some us->QD (Q6 ρ) (Qi cs i vs)=some (Qi ds i us)
 | [],us,cs,ds,i,h,e=>by cases e;exact h
 | v::vs,us,cs,ds,i,h,e=>by
  simp only[QD]at e;split at e
  ·rename_i b m h1 h2;injection e with e
   subst e;exact Yr (i+1) (Qkh i h h1) h2
  ·cases e
theorem QfB{pl:Nat->Option (Nat×Nat)}:∀{vs us:List (Nat×Value)}{cs ds rs:List Value},PR ρ vs us->QD (Q6 ρ) cs=some ds->ZH pl cs vs=some rs->∃ts,ZH pl ds us=some ts/\QD (Q6 ρ) rs=some ts
 | [],[],cs,ds,rs,_,h,e=>by cases e;exact⟨ds,rfl,h⟩
 | (i,v)::vs,(j,u)::us,cs,ds,rs,hp,h,e=>by
  obtain⟨rfl,h1,h2,h3⟩:=hp;have hc:=Qin h1 h2;have hl:=Xl hc;have hl2:=Xl h;simp only[ZH]at e ⊢;split at e
  ·cases e
  ·rename_i off size hpl;cases hb:Nat.beq v.cells.toList.length size&&Nat.ble (off+v.cells.toList.length) cs.length with
   | false=>rw[hb]at e;cases e
   | true=>
    rw[hb]at e;simp only[hl,hl2,hb];exact QfB h3 (Yr off h hc) e
 | [],_::_,_,_,_,hp,_,_=>hp.elim
 | _::_,[],_,_,_,hp,_,_=>hp.elim
def Xz(l:List Value):Bool:=l.all Z2
theorem Ya:∀{l:List Value},Xz l=true->QD (Q6 ρ) l=some l
 | [],_=>rfl
 | v::l,h=>by
  simp only[Xz,List.all_cons,Bool.and_eq_true]at h
  have hv:Q6 ρ v=some v:=by
   have:=Qbf h.1 ρ
   have hl:lone v=true:=by
    have h1:=h.1;unfold Z2 at h1
    grind[lone]
   exact Qrc hl this
  simp only[QD,hv,Ya (l:=l) h.2]
theorem Qtn{t:TypeId}{parts:Array (Nat×Operand)}{vs:List (Nat×Value)}{pl:List (Nat×Nat)}{z cs:List Value}(ho:o.op=.build t parts)(hs:SR ρ L L')(hp:Qem L parts.toList=some vs)(hpl:Y2 P t=some pl)(hz:QS P t=some z)(hf:Xz z=true)
  (hc:ZH (λi=>pl[i]?) z vs=some cs):∃u,OpP P o L' u/\den ρ (.agg cs.toArray)=some u:=by
 obtain⟨us,e1,e2⟩:=QfH hs hp;obtain⟨ts,e3,e4⟩:=QfB e2 (Ya hf) hc;exact⟨_,QE ho e1 hpl hz e3,by simp only[den,XH,List.toList_toArray,e4]⟩
theorem QqV{t e sz len:Nat}{parts:Array (Nat×Operand)}{vs:List (Nat×Value)}{z cs:List Value}(ho:o.op=.build t parts)(hs:SR ρ L L')(hp:Qem L parts.toList=some vs)(ht:tar P t=some (len,e,sz))(hz:QS P t=some z)(hf:Xz z=true)
  (hc:ZH (λi=>some (i*sz,sz)) z vs=some cs):∃u,OpP P o L' u/\den ρ (.agg cs.toArray)=some u:=by
 obtain⟨us,e1,e2⟩:=QfH hs hp;obtain⟨ts,e3,e4⟩:=QfB e2 (Ya hf) hc;exact⟨_,Qfr ho e1 ht hz e3,by simp only[den,XH,List.toList_toArray,e4]⟩
end
end Ev
namespace Ev
inductive Tr(α:Type) where
 | lf
 | nd (l r:Tr α)
 | vd (l:Tr α) (k:Nat) (v:α) (r:Tr α)
noncomputable def Qrx(f:Nat):Nat->List Bool:=
 Nat.rec (λ_=>[]) (λ_ ih k=>Bool.rec (Nat.beq (Nat.mod k 2) 0::ih (Nat.div (Nat.sub k 1) 2)) [] (Nat.beq k 0)) f
noncomputable def pth(k:Nat):List Bool:=Qrx k k
def Qv2:List Bool->Nat
 | []=>0
 | b::p=>2*Qv2 p+(if b then 2 else 1)
theorem QhY:∀(f k:Nat),k<=f->Qv2 (Qrx f k)=k
 | 0,k,h=>by
  have:k=0:=by omega
  subst this;rfl
 | f+1,k,h=>by
  have hu:Qrx (f+1) k=(Bool.rec (Nat.beq (Nat.mod k 2) 0::Qrx f (Nat.div (Nat.sub k 1) 2)) [] (Nat.beq k 0):List Bool):=rfl;rw[hu];cases hk:Nat.beq k 0 with
  | true=>exact(Nat.eq_of_beq_eq_true hk).symm
  | false=>
   have h0:k≠0:=λe=>by subst e;cases hk
   have ih:=QhY f ((k-1)/2) om;show 2*Qv2 (Qrx f ((k-1)/2))+(if Nat.beq (k%2) 0=true then 2 else 1)=k;rw[ih];cases hm:Nat.beq (k%2) 0 with
   | true=>
    have:=Nat.eq_of_beq_eq_true hm;simp;omega
   | false=>
    have:k%2≠0:=λe=>by rw[e]at hm;cases hm
    simp;omega
theorem Qmh{a b:Nat}(h:pth a=pth b):a=b:=by grind[QhY,pth]
section
variable{α:Type}
noncomputable def Y1(p:List Bool):Nat->Tr α->Option α:=
 List.rec (λt T=>Tr.rec none (λ_ _ _ _=>none) (λ_ k v _ _ _=>Bool.rec none (some v) (Nat.beq k t)) T)
  (λb _ ih t T=>Tr.rec none (λl r _ _=>Bool.rec (ih t l) (ih t r) b) (λl _ _ r _ _=>Bool.rec (ih t l) (ih t r) b) T) p
noncomputable def YD(p:List Bool):Nat->α->Tr α->Tr α:=
 List.rec (λt v T=>Tr.rec (.vd .lf t v .lf) (λl r _ _=>.vd l t v r) (λl _ _ r _ _=>.vd l t v r) T)
  (λb _ ih t v T=>Tr.rec (Bool.rec (.nd (ih t v .lf) .lf) (.nd .lf (ih t v .lf)) b) (λl r _ _=>Bool.rec (.nd (ih t v l) r) (.nd l (ih t v r)) b) (λl k x r _ _=>Bool.rec (.vd (ih t v l) k x r) (.vd l k x (ih t v r)) b) T) p
noncomputable def Qev(p:List Bool):Tr α->Tr α:=
 List.rec (λT=>Tr.rec .lf (λl r _ _=>.nd l r) (λl _ _ r _ _=>.nd l r) T)
  (λb _ ih T=>Tr.rec .lf (λl r _ _=>Bool.rec (.nd (ih l) r) (.nd l (ih r)) b) (λl k x r _ _=>Bool.rec (.vd (ih l) k x r) (.vd l k x (ih r)) b) T) p
theorem Zs{p:List Bool}{t:Nat}:Y1 p t (.lf:Tr α)=none:=by cases p<;>rfl
theorem Zz(d:Nat)(v:α):∀(p:List Bool)(T:Tr α),Y1 p d (YD p d v T)=some v
 | [],T=>by
  have h:∀l r:Tr α,Y1 [] d (.vd l d v r)=some v:=λl r=>by
   show(Bool.rec none (some v) (Nat.beq d d):Option α)=some v;rw[Nat.beq_refl]
  cases T<;>exact h _ _
 | b::p,T=>by
  cases T<;>cases b<;>exact Zz d v p _
theorem Zk{t d:Nat}{v x:α}(hne:t≠d):∀(p q:List Bool)(T:Tr α),Y1 p t (YD q d v T)=some x->Y1 p t T=some x
 | [],[],T,h=>by
  have hd:∀l r:Tr α,Y1 [] t (.vd l d v r)=none:=λl r=>by
   show(Bool.rec none (some v) (Nat.beq d t):Option α)=none;cases hb:Nat.beq d t with
   | true=>exact absurd (Nat.eq_of_beq_eq_true hb).symm hne
   | false=>rfl
  cases T<;>exact absurd ((hd _ _).symm.trans h) (by simp)
 | [],c::q,T,h=>by cases T<;>cases c<;>first|exact h|cases h
 | b::p,[],T,h=>by
  cases T<;>cases b<;>first
   | exact h
   | (have h':Y1 p t (.lf:Tr α)=some x:=h;rw[Zs]at h';cases h')
 | b::p,c::q,T,h=>by
  cases T<;>cases b<;>cases c<;>first
   | exact h
   | (have h':Y1 p t (YD q d v .lf)=some x:=h;have h2:=Zk hne p q .lf h';rw[Zs]at h2;cases h2)
   | exact Zk hne p q _ h
   | (have h':Y1 p t (.lf:Tr α)=some x:=h;rw[Zs]at h';cases h')
theorem Qdo{t d:Nat}{v:α}(hne:t≠d):∀(p q:List Bool)(T:Tr α),p≠q->Y1 p t (YD q d v T)=Y1 p t T
 | [],[],T,h=>absurd rfl h
 | [],c::q,T,h=>by cases T<;>cases c<;>rfl
 | b::p,[],T,h=>by
  have hl:Y1 p t (.lf:Tr α)=none:=Zs;cases T<;>cases b<;>first|rfl|exact hl
 | b::p,c::q,T,h=>by
  have hl:Y1 p t (.lf:Tr α)=none:=Zs;have ih:=λT=>Qdo (v:=v) hne p q T
  cases T<;>cases b<;>cases c<;>first
   | rfl
   | exact hl
   | exact(ih _ λe=>h (by rw[e]))
   | exact((ih .lf λe=>h (by rw[e])).trans hl)
theorem Qa3(d:Nat):∀(p:List Bool)(T:Tr α),Y1 p d (Qev p T)=none
 | [],T=>by cases T<;>rfl
 | b::p,T=>by cases T<;>cases b<;>first|rfl|exact Qa3 d p _
theorem Qgu{t:Nat}{x:α}:∀(p q:List Bool)(T:Tr α),Y1 p t (Qev q T)=some x->Y1 p t T=some x
 | [],[],T,h=>by cases T<;>first|exact h|cases h
 | [],c::q,T,h=>by cases T<;>cases c<;>first|exact h|cases h
 | b::p,[],T,h=>by cases T<;>cases b<;>first|exact h|cases h
 | b::p,c::q,T,h=>by
  cases T<;>cases b<;>cases c<;>first
   | exact h
   | exact Qgu p q _ h
   | cases h
theorem Qdn{t:Nat}:∀(p q:List Bool)(T:Tr α),p≠q->Y1 p t (Qev q T)=Y1 p t T
 | [],[],T,h=>absurd rfl h
 | [],c::q,T,h=>by cases T<;>cases c<;>rfl
 | b::p,[],T,h=>by cases T<;>cases b<;>rfl
 | b::p,c::q,T,h=>by
  have ih:=λT=>Qdn (t:=t) p q T
  cases T<;>cases b<;>cases c<;>first
   | rfl
   | exact(ih _ λe=>h (by rw[e]))
end
end Ev
namespace Ev
open Go Go.RowKit
structure HB where
 ty:Nat
 sz:Nat
 cs:List Value
inductive HX where
 | row (r:HB)
 | mp (ks:List Int)
abbrev Hp:=Tr HX
noncomputable def YC(H:Hp)(n:Nat):Option HX:=Y1 (pth n) n H
noncomputable def YZ(H:Hp)(n:Nat)(y:HX):Hp:=YD (pth n) n y H
noncomputable def YK(H:Hp)(n:Nat):Option HB:=match YC H n with
 | some (.row r)=>some r
 | _=>none
noncomputable def QgH(H:Hp)(n:Nat):Option (List Int):=match YC H n with
 | some (.mp r)=>some r
 | _=>none
noncomputable def Yv(H:Hp)(n:Nat)(y:HB):Hp:=YZ H n (.row y)
noncomputable def Qi0(H:Hp)(n:Nat):Hp:=Qev (pth n) H
theorem QdO{H:Hp}{n:Nat}{r:HB}(h:YK H n=some r):YC H n=some (.row r):=by grind[YK]
theorem Qr5{H:Hp}{n:Nat}{r:List Int}(h:QgH H n=some r):YC H n=some (.mp r):=by grind[QgH]
theorem Qf2{H:Hp}{n m:Nat}{y r:HX}(h:YC (YZ H n y) m=some r):(m=n/\r=y)\/(m≠n/\YC H m=some r):=by grind[YC,YZ,Zz,Zk]
theorem Qfd{H:Hp}{n m:Nat}{y:HX}(hm:m≠n):YC (YZ H n y) m=YC H m:=Qdo hm _ _ _ λe=>hm (Qmh e)
theorem QcG{H:Hp}{n m:Nat}(hm:m≠n):YC (Qi0 H n) m=YC H m:=Qdn _ _ _ λe=>hm (Qmh e)
theorem QkI{H:Hp}{n m:Nat}{r:HX}(h:YC (Qi0 H n) m=some r):m≠n/\YC H m=some r:=by grind[Qgu,YC,Qi0,Qa3]
def Qdj:List (Nat×HX)->Nat->Option HX
 | [],_=>none
 | (k,x)::H,n=>bif Nat.beq k n then some x else Qdj H n
def QjL:List (Nat×HX)->Nat->HX->List (Nat×HX)
 | [],_,_=>[]
 | (k,x)::H,n,y=>bif Nat.beq k n then(k,y)::H else(k,x)::QjL H n y
def QiN:List (Nat×HX)->Nat->List (Nat×HX)
 | [],_=>[]
 | (k,x)::H,n=>bif Nat.beq k n then H else(k,x)::QiN H n
def room(x:HB)(d:Nat):Prop:=d=0\/x.cs.length+d*x.sz<=maxLen*x.sz
abbrev QjK:Int->Value:=λn=>.int .i64 n
open Classical in
noncomputable def ha(ρ:Rho)(p:Nat×HX):Option HA:=match p.2 with
 | .row x=>match ρ p.1,QD (Q6 ρ) x.cs with
  | some (b,d),some us=>if room x d then some (.blk b x.ty (us.length+d*x.sz) us)else none
  | _,_=>none
 | .mp ks=>match ρ p.1 with
  | some (b,0)=>some (.mp b QjK ks)
  | _=>none
theorem Qja{ρ:Rho}{n:Nat}{x:HB}{A:HA}(h:ha ρ (n,.row x)=some A):∃b d us,ρ n=some (b,d)/\QD (Q6 ρ) x.cs=some us/\room x d/\A=.blk b x.ty (us.length+d*x.sz) us:=by grind[ha]
theorem Qmy{ρ:Rho}{n:Nat}{x:HB}{b d:Nat}{us:List Value}(h1:ρ n=some (b,d))(h2:QD (Q6 ρ) x.cs=some us)(h3:room x d):ha ρ (n,.row x)=some (.blk b x.ty (us.length+d*x.sz) us):=by grind[ha]
theorem QrS{ρ:Rho}{n:Nat}{ks:List Int}{A:HA}(h:ha ρ (n,.mp ks)=some A):∃b,ρ n=some (b,0)/\A=.mp b QjK ks:=by grind[ha]
theorem QrP{ρ:Rho}{p:Nat×HX}{A:HA}(h:ha ρ p=some A):∃x,ρ p.1=some x:=by
 obtain⟨n,x⟩:=p;cases x<;>grind[Qja,ks,QrS]
theorem QeI{ρ ρ':Rho}(h:ρ.le ρ')(p:Nat×HX)(A:HA)(e:ha ρ p=some A):ha ρ' p=some A:=by
 obtain⟨n,x⟩:=p;cases x with
 | row x=>
  obtain⟨b,d,us,h1,h2,h3,rfl⟩:=Qja e;exact Qmy (h.1 _ _ h1) (XA (Qe7 h) h2) h3
 | mp ks=>
  obtain⟨b,h1,rfl⟩:=QrS e;simp only[ha,h.1 _ _ h1]
theorem Qe5{k m:Nat}(h:m≠k):Nat.beq k m=false:=by cases hz:Nat.beq k m<;>simp_all
theorem Qjj{ρ:Rho}{n:Nat}{x:HX}:∀{H:List (Nat×HX)}{As:List HA},QD (ha ρ) H=some As->Qdj H n=some x->∃A Rs,ha ρ (n,x)=some A/\QP As A Rs /\
  (∀(x':HX)(A':HA),ha ρ (n,x')=some A'->∃As2,QD (ha ρ) (QjL H n x')=some As2/\(A'::Rs).Perm As2/\∀m,Qdj (QjL H n x') m=bif Nat.beq m n then some x' else Qdj H m) /\
  ∃As3,QD (ha ρ) (QiN H n)=some As3/\Rs.Perm As3/\∀m,m≠n->Qdj (QiN H n) m=Qdj H m
 | [],As,_,h=>by cases h
 | (k,y)::H,As,e,h=>by
  simp only[QD]at e;split at e
  ·rename_i A As' h1 h2;injection e with e
   subst e;simp only[Qdj]at h;cases hb:Nat.beq k n with
   | true=>
    rw[hb]at h;injection h with h
    subst h;have hk:=Nat.eq_of_beq_eq_true hb;subst hk;refine⟨A,As',h1,.here,λx' A' e1=>⟨_,?_,.refl _,λm=>?_⟩,As',?_,.refl _,λm hm=>?_⟩
    ·grind[QjL,QD]
    ·grind[QjL,Qdj,Qe5]
    ·grind[QiN]
    grind[QiN,Qdj,Qe5]
   | false=>
    rw[hb]at h;obtain⟨A0,Rs,g1,g4,g5,As3,g6,g7,g8⟩:=Qjj h2 h;refine⟨A0,A::Rs,g1,g4.there,λx' A' e1=>?_,A::As3,?_,g7.cons _,λm hm=>?_⟩
    ·obtain⟨As2,e3,e4,e5⟩:=g5 x' A' e1;refine⟨A::As2,by simp only[QjL,hb,cond_false,QD,h1,e3],(List.Perm.swap ..).trans (e4.cons _),λm=>?_⟩;simp only[QjL,hb,cond_false,Qdj,e5];cases hq:Nat.beq k m<;>simp_all
    ·grind[QiN,QD]
    grind[QiN,Qdj]
  ·cases e
def HM(ρ:Rho)(H:Hp)(As:List HA):Prop:=∃(G:List (Nat×HX))(Bs:List HA),(∀m r,YC H m=some r->Qdj G m=some r)/\QD (ha ρ) G=some Bs/\As=Bs++ρ.ex
theorem HM.mono{ρ ρ':Rho}(h:ρ.le ρ'){H:Hp}{As:List HA}:HM ρ H As->HM ρ' H As:=λ⟨G,Bs,h1,h2,h3⟩=>⟨G,Bs,h1,XA (QeI h) h2,by rw[h.2];exact h3⟩
theorem HM.push{ρ:Rho}{H:Hp}{As:List HA}{n:Nat}{x:HX}{A:HA}(h:HM ρ H As)(hA:ha ρ (n,x)=some A):HM ρ (YZ H n x) (A::As):=by
 obtain⟨G,Bs,h1,h2,h3⟩:=h;refine⟨(n,x)::G,A::Bs,λm r hm=>?_,by simp only[QD,hA,h2],by rw[h3];rfl⟩;simp only[Qdj];rcases Qf2 hm with⟨rfl,rfl⟩|⟨h3,h4⟩
 ·simp[Nat.beq_refl]
 grind[Qe5]
theorem Qv6{ρ:Rho}{n:Nat}{x:HX}{H:Hp}{As:List HA}(hH:HM ρ H As)(h:YC H n=some x):∃A Rs,ha ρ (n,x)=some A/\QP As A Rs /\
  (∀(x':HX)(A':HA),ha ρ (n,x')=some A'->∃As2,HM ρ (YZ H n x') As2/\(A'::Rs).Perm As2) /\
  ∃As3,HM ρ (Qi0 H n) As3/\Rs.Perm As3:=by
 obtain⟨G,Bs,h1,h2,rfl⟩:=hH;obtain⟨A,Rs,g1,g4,g5,As3,g6,g7,g8⟩:=Qjj h2 (h1 _ _ h);refine⟨A,Rs++ρ.ex,g1,g4.append_right _,λx' A' e1=>?_,As3++ρ.ex,⟨QiN G n,As3,λm r hm=>?_,g6,rfl⟩,g7.append_right _⟩
 ·obtain⟨As2,e3,e4,e5⟩:=g5 x' A' e1;refine⟨As2++ρ.ex,⟨QjL G n x',As2,λm r hm=>?_,e3,rfl⟩,e4.append_right _⟩;rw[e5];rcases Qf2 hm with⟨rfl,rfl⟩|⟨h3,h4⟩
  ·simp[Nat.beq_refl]
  ·rw[Qe5 (Ne.symm h3)];exact h1 m r h4
 ·obtain⟨h3,h4⟩:=QkI hm;rw[g8 m h3];exact h1 m r h4
theorem Yp{ρ:Rho}{n:Nat}{x:HB}{H:Hp}{As:List HA}(hH:HM ρ H As)(h:YK H n=some x):∃b d us Rs,ρ n=some (b,d)/\QD (Q6 ρ) x.cs=some us/\room x d/\QP As (.blk b x.ty (us.length+d*x.sz) us) Rs /\
  (∀(x':HB)(us':List Value),QD (Q6 ρ) x'.cs=some us'->room x' d->∃As2,HM ρ (Yv H n x') As2/\(HA.blk b x'.ty (us'.length+d*x'.sz) us'::Rs).Perm As2) /\
  ∃As3,HM ρ (Qi0 H n) As3/\Rs.Perm As3:=by
 obtain⟨A,Rs,g1,g4,g5,g6⟩:=Qv6 hH (QdO h);obtain⟨b,d,us,e1,e2,e3,rfl⟩:=Qja g1;exact⟨b,d,us,Rs,e1,e2,e3,g4,λx' us' f1 f2=>g5 (.row x') _ (Qmy e1 f1 f2),g6⟩
theorem Qpr{ρ:Rho}{n:Nat}{ks:List Int}{H:Hp}{As:List HA}(hH:HM ρ H As)(h:QgH H n=some ks):∃b Rs,ρ n=some (b,0)/\QP As (.mp b QjK ks) Rs /\
  ∀ks',∃As2,HM ρ (YZ H n (.mp ks')) As2/\(HA.mp b QjK ks'::Rs).Perm As2:=by
 obtain⟨A,Rs,g1,g4,g5,g6⟩:=Qv6 hH (Qr5 h);obtain⟨b,e1,rfl⟩:=QrS g1;exact⟨b,Rs,e1,g4,λks'=>g5 (.mp ks') _ (by simp only[ha,e1])⟩
def Q2(ρ:Rho)(n:Nat):Prop:=∀k,n<=k->ρ k=none
def ext(ρ:Rho)(n:Nat)(x:Nat×Nat):Rho:=⟨λk=>bif Nat.beq k n then some x else ρ k,ρ.ex⟩
theorem Qb4(ρ:Rho)(n:Nat)(x:Nat×Nat):ext ρ n x n=some x:=by simp[ext,Nat.beq_refl]
theorem Qg0{ρ:Rho}{n:Nat}(h:Q2 ρ n)(x:Nat×Nat):ρ.le (ext ρ n x):=⟨λk y hk=>by
 unfold ext;simp only[];cases hb:Nat.beq k n with
 | true=>
  have:=Nat.eq_of_beq_eq_true hb;subst this;rw[h k (Nat.le_refl _)]at hk;cases hk
 | false=>exact hk,rfl⟩
theorem Qbi{ρ:Rho}{n:Nat}(h:Q2 ρ n)(x:Nat×Nat):Q2 (ext ρ n x) (n+1):=λk hk=>by
 show(bif Nat.beq k n then some x else ρ k)=none;cases hb:Nat.beq k n with
 | true=>
  have:=Nat.eq_of_beq_eq_true hb;omega
 | false=>exact h k om
def Out(w0:World)(ρ:Rho)(v:Value)(H':Hp)(n':Nat)(u:Value)(C:World->Prop):Prop:=
 ∃ρ' As',ρ.le ρ'/\Q2 ρ' n'/\den ρ' v=some u/\HM ρ' H' As'/\∀w,C w->HS w0 [] As' w
def OpT(P:Program)(o:Oper)(L':Qc)(C:World->Prop)(K:Value->(World->Prop)->Prop):Prop:=
 ∃(G:Type)(V:G->Value)(F:G->Prop)(C':G->World->Prop),OpH P o L' C V F C'/\∀g,F g->K (V g) (C' g)
section
variable{P:Program}{o:Oper}{L':Qc}{w0:World}{ρ:Rho}{L:Env}{H:Hp}{n:Nat}{As:List HA}
theorem OpT.of_p{v u:Value}(h:OpP P o L' u)(hd:den ρ v=some u)(hH:HM ρ H As)(hf:Q2 ρ n):OpT P o L' (HS w0 [] As) (Out w0 ρ v H n):=
 ⟨Unit,_,_,_,(h.q (HS w0 [] As)).h (HS.stab _ _ _),λ_ _=>⟨ρ,As,ρ.le_refl,hf,hd,hH,λ_ h=>h⟩⟩
theorem OpT.of_q{v u:Value}(h:OpQ P o L' (HS w0 [] As) u)(hd:den ρ v=some u)(hH:HM ρ H As)(hf:Q2 ρ n):OpT P o L' (HS w0 [] As) (Out w0 ρ v H n):=
 ⟨Unit,_,_,_,h.h (HS.stab _ _ _),λ_ _=>⟨ρ,As,ρ.le_refl,hf,hd,hH,λ_ h=>h⟩⟩
theorem QbQ{b d:Nat}{x:HB}{us:List Value}{v u:Value}{C:World->Prop}(hH:HM ρ H As)(hf:Q2 ρ n)(hc:QD (Q6 ρ) x.cs=some us)(hr:room x d)(hv:den (ext ρ n (b,d)) v=some u)(hC:∀w,C w->HS w0 [] (.blk b x.ty (us.length+d*x.sz) us::As) w):Out w0 ρ v (Yv H n x) (n+1) u C:=by
 have hle:=Qg0 hf (b,d);refine⟨ext ρ n (b,d),_,hle,Qbi hf _,hv,?_,hC⟩;exact(HM.mono hle hH).push (Qmy (Qb4 ρ n (b,d)) (XA (Qe7 hle) hc) hr)
theorem QvS{t x:Nat}{m i sz:Nat}{ag:Bool}{r:HB}{v:Value}(ho:o.op=.load t (.tmp x))(hs:SR ρ L L')(hH:HM ρ H As)(hx:L x=some (.pointer (some ⟨m,i,none⟩)))(hg:YK H m=some r)(hz:tsz P t=some (sz,ag))
  (h:(if ag then(bif Nat.ble (i+sz) r.cs.length then some (.agg (cut r.cs i sz).toArray)else none)else(bif Nat.beq sz 1 then r.cs[i]? else none))=some v):∃u,OpQ P o L' (HS w0 [] As) u/\den ρ v=some u:=by
 obtain⟨b,d,us,Rs,g1,g2,g3,g4,_,_⟩:=Yp hH hg;obtain⟨u,e1,e2⟩:=hs.get hx;simp only[den,XH,Q6,X3,g1,Option.some.injEq]at e2;subst e2;cases ag with
 | true=>
  simp only[if_true]at h;cases hb:Nat.ble (i+sz) r.cs.length with
  | false=>rw[hb]at h;cases h
  | true=>
   rw[hb]at h;injection h with h
   subst h;refine⟨_,Zy ho e1 hz g4 (by rw[Xl g2];exact hb),?_⟩
   grind[den,XH,cut,XX,YO]
 | false=>
  cases hb:Nat.beq sz 1 with
  | false=>rw[hb]at h;simp at h
  | true=>
   rw[hb]at h;have hk:=Nat.eq_of_beq_eq_true hb;subst hk;have h':r.cs[i]?=some v:=by simpa using h
   obtain⟨u,e3,e4⟩:=Qbj g2 h'
   grind[Yo,Qdu,QbS]
theorem Qqr{v u:Value}(e:X3 ρ v=some u):u.oneCell'=true:=by
 cases v<;>simp only[X3]at e<;>first
  | (injection e with e;subst e;rfl)
  | ((repeat' split at e)<;>first|(injection e with e;subst e;rfl)|cases e)
  | cases e
theorem QpO{v u:Value}(e:Q6 ρ v=some u):u.oneCell'=true:=by
 cases v with
 | func f a b=>
  simp only[Q6]at e;split at e
  ·injection e with e;subst e;rfl
  ·cases e
 | _=>grind[Q6,Qqr]
theorem Y9{vs us:List Value}(h:QD (Q6 ρ) vs=some us):us.all (·.oneCell')=true:=by
 refine List.all_eq_true.2 λu hu=>?_;obtain⟨a,_,e⟩:=QjE h hu;exact QpO e
theorem QtA{t x:Nat}{y:Operand}{m i sz:Nat}{ag:Bool}{r:HB}{v:Value}(ho:o.op=.store t (.tmp x) y)(hs:SR ρ L L')(hH:HM ρ H As)(hf:Q2 ρ n)(hx:L x=some (.pointer (some ⟨m,i,none⟩)))(hy:opd L y=some v)(hn:ZZ v=true)(hg:YK H m=some r)(hz:tsz P t=some (sz,ag))
  (hl:v.cells.toList.length=sz)(hr:i+sz<=r.cs.length):OpT P o L' (HS w0 [] As) (Out w0 ρ undef (Yv H m {r with cs:=Qi r.cs i v.cells.toList}) n):=by
 obtain⟨b,d,us,Rs,g1,g2,g3,g4,g5,_⟩:=Yp hH hg;obtain⟨p,e1,e2⟩:=hs.get hx;simp only[den,XH,Q6,X3,g1,Option.some.injEq]at e2;subst e2;obtain⟨u,e3,e4⟩:=Zj hs hy;have hc:=Qin hn e4;have hlu:=Xl hc;have hl2:=Xl g2;have Yv:=Yr i g2 hc;obtain⟨As2,g6,g7⟩:=g5 {r with cs:=Qi r.cs i v.cells.toList} _ Yv (by unfold room at *;simpa[Qf]using g3);have hS:=Qb1 (w0:=w0) (M:=[]) (As:=As) (As':=.blk b r.ty (us.length+d*r.sz) (Qi us i u.cells.toList)::Rs) (tot:=us.length+d*r.sz) ho e1 e3 hz (by rw[hlu];exact hl) ⟨Rs,g4,.refl _⟩ (by rw[hl2];exact hr) (Y9 hc);refine⟨_,_,_,_,hS,λ_ _=>⟨ρ,As2,ρ.le_refl,hf,?_,g6,λw hw=>?_⟩⟩
 ·rfl
 ·have:HS w0 [] (.blk b r.ty ((Qi us i u.cells.toList).length+d*r.sz) (Qi us i u.cells.toList)::Rs) w:=by rw[Qf];exact hw
  exact this.perm g7
theorem Qjb{m b d i:Nat}:den (ext ρ m (b,d)) (.pointer (some ⟨m,i,none⟩))=some (.pointer (some ⟨b,i,none⟩)):=by simp only[den,XH,Q6,X3,Qb4]
theorem Qhh{m b d i l c:Nat}:den (ext ρ m (b,d)) (.slice (some ⟨m,i,none⟩) l c)=some (.slice (some ⟨b,i,none⟩) l (c+d)):=by simp only[den,XH,Q6,X3,Qb4]
theorem QtX{t:TypeId}{z:List Value}(ho:o.op=.alloc t)(hz:QS P t=some z)(hfl:Xz z=true)(hH:HM ρ H As)(hf:Q2 ρ n):OpT P o L' (HS w0 [] As) (Out w0 ρ (.pointer (some ⟨n,0,none⟩)) (Yv H n ⟨t,0,z⟩) (n+1)):=
 ⟨_,_,_,_,ZA ho hz,λb _=>QbQ (d:=0) hH hf (Ya hfl) (.inl rfl) Qjb λw hw=>by rw[Nat.zero_mul,Nat.add_zero];exact hw⟩
theorem QwQ{t:TypeId}{x:Operand}{v:Value}(ho:o.op=.box t x)(hs:SR ρ L L')(hx:opd L x=some v)(hn:ZZ v=true)(hH:HM ρ H As)(hf:Q2 ρ n):OpT P o L' (HS w0 [] As) (Out w0 ρ (.pointer (some ⟨n,0,none⟩)) (Yv H n ⟨t,0,v.cells.toList⟩) (n+1)):=by
 obtain⟨u,e1,e2⟩:=Zj hs hx;exact⟨_,_,_,_,Qm6 ho e1,λb _=>QbQ (d:=0) hH hf (Qin hn e2) (.inl rfl) Qjb λw hw=>by rw[Nat.zero_mul,Nat.add_zero];exact hw⟩
theorem QiR{t e sz by' len:Nat}{parts:Array (Nat×Operand)}{vs:List (Nat×Value)}{z cs:List Value}(ho:o.op=.buildSlice t len parts)(hs:SR ρ L L')(hp:Qem L parts.toList=some vs)(ht:tsl P t=some (e,sz,by'))(hz:QS P e=some z)(hfl:Xz z=true)(hlen:Nat.ble (len*sz) 16777216=true)(h0:Nat.blt 0 (len*sz)=true)
  (hc:ZH (λi=>some (i*sz,sz)) ((List.range (len*sz)).map λi=>z.getD (i%z.length) default) vs=some cs)(hfz:Xz ((List.range (len*sz)).map λi=>z.getD (i%z.length) default)=true)(hH:HM ρ H As)(hf:Q2 ρ n):OpT P o L' (HS w0 [] As) (Out w0 ρ (.slice (some ⟨n,0,none⟩) len len) (Yv H n ⟨e,sz,cs⟩) (n+1)):=by
 obtain⟨us,e1,e2⟩:=QfH hs hp;obtain⟨ts,e3,e4⟩:=QfB e2 (Ya hfz) hc;exact⟨_,_,_,_,Qk ho e1 ht hz hlen h0 e3,λb _=>QbQ (d:=0) hH hf e4 (.inl rfl) (by rw[Qhh];rfl) λw hw=>by rw[Nat.zero_mul,Nat.add_zero];exact hw⟩
theorem HS.own_some{w:World}{M:List Nat}{As:List HA}{b t sz n cap:Nat}{xs:List Value}(h:HS w0 M (.own (.slice (some ⟨b,0,none⟩) n cap) t sz n xs::As) w):HS w0 M (.blk b t (cap*sz) xs::As) w:=by
 refine h.turn (λc hc=>by simpa[HA.fp_own,HA.fp_blk,Value.ownBlock]using hc) λho=>?_;obtain⟨hl,⟨e,_⟩|⟨g,cap',e,h2,h3,hb⟩⟩:=ho
 ·cases e
 ·injection e with e1 e2 e3
  injection e1 with e1
  injection e1 with e1 _ _
  subst e1 e3;exact hb
theorem Qhv{t e sz by':Nat}(ho:o.op=.buildSlice t 0 #[])(ht:tsl P t=some (e,sz,by'))(hH:HM ρ H As)(hf:Q2 ρ n):OpT P o L' (HS w0 [] As) (Out w0 ρ (.slice (some ⟨n,0,none⟩) 0 0) (Yv H n ⟨e,sz,[]⟩) (n+1)):=
 ⟨_,_,_,_,Qa6 ho ht,λb _=>QbQ (d:=0) (us:=[]) hH hf rfl (.inl rfl) (by rw[Qhh]) λw hw=>by have:=HS.own_some hw;simpa using this⟩
theorem h_make2{t e sz by' k n:Nat}{x y:Operand}{z:List Value}(ho:o.op=.makeSlice t x y)(hx:Gx.ev L' x=some (.int .i64 (k:Int)))(hy:Gx.ev L' y=some (.int .i64 (n:Int)))(ht:tsl P t=some (e,sz,by'))(hz:QS P e=some z)(hlen:n*by'<=281474976710656)(hn:n<=16777216)(hkn:k<=n) :
  OpH P o L' (HS w0 [] As) (λb:Nat=>.slice (some ⟨b,0,none⟩) k n) (λ_=>True) (λb=>HS w0 [] (.blk b e (n*sz) (XJ z (n*sz))::As)):=by
 intro ρ w hρ hw;obtain⟨hu,inf,h1,h2,h3⟩:=Xf ht;have hsz:∀w,(Go.sizeOf e).run P w=.ok sz w:=λw=>by simp[Go.sizeOf,typeInfo,h1,h2]
 have hti:(typeInfo e).run P w=.ok inf w:=by simp[typeInfo,h1]
 obtain⟨zv,hz',hzr⟩:∃zv:Value,zv.cells.toList=z/\∀w,(zeroValue e).run P w=.ok zv w:=by
  unfold QS at hz;rw[h1]at hz;simp only[Option.bind_some]at hz;cases hzz:inf.zero with
  | none=>rw[hzz]at hz;cases hz
  | some v=>rw[hzz]at hz;simp only[Option.map_some,Option.some.injEq]at hz;exact⟨v,hz,λw=>by simp[zeroValue,typeInfo,h1,hzz]⟩
 have hwr:IntKind.i64.wrap (n:Int)=n:=IntWalk.i64_in _ ⟨om,om⟩;have hwk:IntKind.i64.wrap (k:Int)=k:=IntWalk.i64_in _ ⟨om,om⟩;have hz'':zv.cells=z.toArray:=by rw[<-hz']
 have hpr:((inf.bytes:Nat):Int)*(n:Int)<=281474976710656:=by grind
 have e2:(2:Int)^48=281474976710656:=by decide
 have d1:¬((inf.bytes:Nat):Int)*(n:Int)>2^48:=by rw[e2];omega
 have d1k:¬((inf.bytes:Nat):Int)*(k:Int)>2^48:=by
  have h8:((inf.bytes:Nat):Int)*(k:Int)<=((inf.bytes:Nat):Int)*(n:Int):=Int.mul_le_mul_of_nonneg_left om om;rw[e2];omega
 have d2:¬(n:Int)<0:=om
 have d2k:¬(k:Int)<0:=om
 have d3:¬(k:Int)>n:=om
 have hai:∀(q:Nat)w,(asInt (.int .i64 (q:Int))).run P w=.ok (q:Int) w:=λq w=>by simp[asInt,asIntOf]
 have hb:(Instr.makeSlice t (.int .i64 k) (.int .i64 n)).run P w=.ok (.slice (some ⟨w.heap.size,0,none⟩) k n) (w.alloc (.cells (XJ z (n*sz)).toArray e)):=by
  unfold Instr.makeSlice;simp only[Sem.run_bind,run_underlying hu,Result.andThen_ok,hsz,hai,Sem.run_pure,hti,hwr,hwk,d1,d1k,d2,d2k,d3,decide_false,Bool.or_false,Bool.false_eq_true,if_false,run_askRoom,Int.toNat_natCast]
  by_cases h0:n*sz=0
  ·have e1:∀q:Array Value,(Array.map (λx=>q[x%q.size]!) (Array.range 0))= #[]:=λq=>Array.eq_empty_of_size_eq_zero (by simp);have e3:(XJ z (n*sz)).toArray= #[]:=by rw[h0];rfl
   simp only[h0,if_true,Sem.run_bind,Sem.run_pure,Result.andThen_ok,newRow,run_newObj,World.alloc_eq,e1,e3];simp only[h0]at e3;rw[e3]
  ·simp only[if_neg h0,Sem.run_bind,hzr,Sem.run_pure,Result.andThen_ok,newRow,run_newObj,World.alloc_eq,hz''];congr 2;simp[XJ,<-List.toArray_range]
 simp only[execOp,ho,Sem.run_bind,hρ _ _ hx,hρ _ _ hy,hb,Result.andThen_ok,Sem.run_pure];have h4:=hw.blk_new e (XJ z (n*sz)).toArray;refine⟨w.heap.size,rfl,trivial,?_⟩
 simpa[QG]using h4
theorem Qj1{t e sz by' k c:Nat}{x y:Operand}{z:List Value}(ho:o.op=.makeSlice t x y)(hs:SR ρ L L')(hx:opd L x=some (.int .i64 (k:Int)))(hy:opd L y=some (.int .i64 (c:Int)))(hkc:k<=c)(ht:tsl P t=some (e,sz,by'))(hz:QS P e=some z)(hb:c*by'<=281474976710656)(hk:c<=16777216)(hfz:Xz (XJ z (c*sz))=true)(hH:HM ρ H As)(hf:Q2 ρ n) :
  OpT P o L' (HS w0 [] As) (Out w0 ρ (.slice (some ⟨n,0,none⟩) k c) (Yv H n ⟨e,sz,XJ z (c*sz)⟩) (n+1)):=
 ⟨_,_,_,_,h_make2 ho (Qn hs hx rfl) (Qn hs hy rfl) ht hz hb hk hkc,λb _=>QbQ (d:=0) hH hf (Ya hfz) (.inl rfl) (by rw[Qhh]<;>rfl) λw hw=>by rw[QG,Nat.zero_mul,Nat.add_zero];exact hw⟩
theorem Qsv{src dst e:TypeId}{x:Operand}{l:List UInt8}(ho:o.op=.convert src dst x)(hs:SR ρ L L')(hx:opd L x=some (.string ⟨⟨l⟩⟩))(h1:P.underlying src=some .string)(h2:P.underlying dst=some (.slice e))(h3:P.underlying e=some (.int .u8))(h5:e=u8T)(hl:l.length<=maxLen)(hH:HM ρ H As)(hf:Q2 ρ n) :
  OpT P o L' (HS w0 [] As) (Out w0 ρ (.slice (some ⟨n,0,none⟩) l.length l.length) (Yv H n ⟨e,1,l.map λb=>.int .u8 (b.toNat:Int)⟩) (n+1)):=by
 have hfl:Xz (l.map λb=>Value.int .u8 (b.toNat:Int))=true:=by
  unfold Xz;rw[List.all_map];exact List.all_eq_true.2 λ_ _=>rfl
 refine⟨_,_,_,_,QaK ho (Qn hs hx rfl) h1 h2 h3 h5 hl,λp hp=>QbQ (b:=p.1) (d:=p.2-l.length) hH hf (Ya hfl) (.inr ?_) ?_ λw hw=>?_⟩
 ·grind
 ·grind[Qhh]
 grind
theorem QoI{t:TypeId}(ho:o.op=.makeMap t none)(hH:HM ρ H As)(hf:Q2 ρ n):OpT P o L' (HS w0 [] As) (Out w0 ρ (.map (some n)) (YZ H n (.mp [])) (n+1)):=by
 refine⟨_,_,_,_,Qc7 ho QjK,λb _=>?_⟩;have hle:=Qg0 hf (b,0);refine⟨ext ρ n (b,0),_,hle,Qbi hf _,?_,(HM.mono hle hH).push (A:=.mp b QjK []) (by simp only[ha,Qb4]),λw hw=>hw⟩;simp only[den,XH,Q6,X3,Qb4]
def Qje(a:Int):List Int->Bool
 | []=>false
 | b::l=>bif decide (a=b)then true else Qje a l
theorem Qi1(a:Int):∀l,Qje a l=decide (a∈l)
 | []=>by simp[Qje]
 | b::l=>by simp_all[Qje,Qi1]
theorem Qme{x:Operand}{m:Nat}(hs:SR ρ L L')(h:opd L x=some (.map (some m))):∃b d,ρ m=some (b,d)/\ev L' x=some (.map (some b)):=by grind[Zj,den,XH,Q6,X3]
theorem Qpj{t kt et r:Nat}{m x:Operand}{a:Int}{ks:List Int}(ho:o.op=.lookup t m x false)(hs:SR ρ L L')(hH:HM ρ H As)(hm:opd L m=some (.map (some r)))(hx:opd L x=some (.int .i64 a))(ht:P.underlying t=some (.map kt et))(hz:tzv P et=some (.bool false))(hk:tki P kt=some .i64)(hg:QgH H r=some ks) :
  ∃u,OpQ P o L' (HS w0 [] As) u/\den ρ (.bool (Qje a ks))=some u:=by
 obtain⟨b,Rs,g1,g2,_⟩:=Qpr hH hg;obtain⟨b',d',e1,e2⟩:=Qme hs hm;rw[g1]at e1;injection e1 with e1
 injection e1 with e1 _
 subst e1;rw[Qi1];exact⟨_,Qkz ho e2 (Qn hs hx rfl) ht hz (QfV hk) g2,by simp only[den,XH,Q6,X3];congr⟩
theorem QjS{t kt et r:Nat}{m x y:Operand}{a:Int}{ks:List Int}(ho:o.op=.mapUpdate t m x y\/o.op=.insert t m x y)(hs:SR ρ L L')(hH:HM ρ H As)(hf:Q2 ρ n)(hm:opd L m=some (.map (some r)))(hx:opd L x=some (.int .i64 a))(hy:opd L y=some (.bool true))(ht:P.underlying t=some (.map kt et))(hk:tki P kt=some .i64)(hg:QgH H r=some ks) :
  OpT P o L' (HS w0 [] As) (Out w0 ρ (.tuple #[]) (YZ H r (.mp (bif Qje a ks then ks else ks++[a]))) n):=by
 obtain⟨b,Rs,g1,g2,g3⟩:=Qpr hH hg;obtain⟨b',d',e1,e2⟩:=Qme hs hm;rw[g1]at e1;injection e1 with e1
 injection e1 with e1 _
 subst e1;have hik:Qce ks a=(bif Qje a ks then ks else ks++[a]):=by grind[Qce,Qi1,ks]
 obtain⟨As2,g4,g5⟩:=g3 (Qce ks a);rw[<-hik];exact⟨_,_,_,_,Qfl (As':=.mp b QjK (Qce ks a)::Rs) ho e2 (Qn hs hx rfl) (Qn hs hy rfl) ht (QfV hk) ⟨Rs,g2,.refl _⟩,λ_ _=>⟨ρ,As2,ρ.le_refl,hf,rfl,g4,λw hw=>hw.perm g5⟩⟩
end
end Ev
namespace Ev
open Go Go.RowKit
noncomputable def Qlv(P:Program)(H:Hp)(xt sz:Nat):Value->Option (Nat×List Value)
 | .slice none k _=>bif Xx P xt&&Nat.beq k 0 then some (0,[])else none
 | .slice (some ⟨m,i,_⟩) k _=>bif Xx P xt then(bif Nat.beq k 0 then some (0,[])else match YK H m with
  | some r=>bif Nat.ble (i+k*sz) r.cs.length then some (k,cut r.cs i (k*sz))else none
  | none=>none)else none
 | .pointer (some ⟨_,_,some _⟩)=>bif Xx P xt then some (0,[])else none
 | .string ⟨⟨l⟩⟩=>bif Xs P xt&&Nat.beq sz 1 then some (l.length,l.map λb=>.int .u8 (b.toNat:Int))else none
 | _=>none
structure SrcOk(P:Program)(w0:World)(As:List HA)(xt sz:Nat)(uy:Value)(m:Nat)(us:List Value):Prop where
 ty:P.underlying xt=some .string\/∃e',P.underlying xt=some (.slice e')
 lenOf:∀w,(Builtin.lenOf uy).run P w=.ok m w
 cells:∀w,HS w0 [] As w->(Builtin.firstCells sz m uy).run P w=.ok us.toArray w
 len:us.length=m*sz
theorem QwU{ρ:Rho}(l:List UInt8):QD (Q6 ρ) (l.map λb=>Value.int .u8 (b.toNat:Int))=some (l.map λb=>.int .u8 (b.toNat:Int)):=Ya (by
 unfold Xz;rw[List.all_map];exact List.all_eq_true.2 λ_ _=>rfl)
section
variable{P:Program}{o:Oper}{L':Qc}{w0:World}{ρ:Rho}{L:Env}{H:Hp}{n:Nat}{As:List HA}
theorem QoM{α:Type}{c:Bool}{x a:α}(h:(bif c then some x else none)=some a):c=true/\x=a:=by grind
theorem Qmm{xt sz:Nat}{y:Operand}{v:Value}{m:Nat}{cs:List Value}(hs:SR ρ L L')(hH:HM ρ H As)(hy:opd L y=some v)(h:Qlv P H xt sz v=some (m,cs)):∃uy us,ev L' y=some uy/\QD (Q6 ρ) cs=some us/\SrcOk P w0 As xt sz uy m us:=by
 unfold Qlv at h;split at h
 ·rename_i k c;cases hb:Xx P xt&&Nat.beq k 0 with
  | false=>rw[hb]at h;cases h
  | true=>
   rw[hb]at h;simp only[cond_true,Option.some.injEq,Prod.mk.injEq]at h;obtain⟨rfl,rfl⟩:=h;simp only[Bool.and_eq_true]at hb;have hk:=Nat.eq_of_beq_eq_true hb.2;subst hk;exact⟨_,[],Qn hs hy rfl,rfl,.inr (X0 hb.1),λ_=>rfl,λw _=>Yt (news:=[]) (by simp) λh=>absurd rfl h,by simp⟩
 ·rename_i m2 i q k c;cases hb:Xx P xt with
  | false=>rw[hb]at h;cases h
  | true=>
   rw[hb]at h;simp only[cond_true]at h
   have hev:∃b c',ρ m2=some b/\ev L' y=some (.slice (some ⟨b.1,i,none⟩) k c'):=by
    cases q with
    | none=>
     obtain⟨b,d,h1,h2⟩:=Yb hs hy
     simp_all
    | some q=>
     obtain⟨b,d,h1,h2⟩:=YH hs hy
     simp_all
   obtain⟨⟨b,d⟩,c',h1,h2⟩:=hev;cases hk:Nat.beq k 0 with
   | true=>
    rw[hk]at h;simp only[cond_true,Option.some.injEq,Prod.mk.injEq]at h;obtain⟨rfl,rfl⟩:=h;have hk:=Nat.eq_of_beq_eq_true hk;subst hk;exact⟨_,[],h2,rfl,.inr (X0 hb),λ_=>rfl,λw _=>Yt (news:=[]) (by simp) λh=>absurd rfl h,by simp⟩
   | false=>
    rw[hk]at h;simp only[cond_false]at h;split at h
    ·rename_i r hg;cases hl:Nat.ble (i+k*sz) r.cs.length with
     | false=>rw[hl]at h;cases h
     | true=>
      rw[hl]at h;simp only[cond_true,Option.some.injEq,Prod.mk.injEq]at h;obtain⟨rfl,rfl⟩:=h;have hl':=Nat.le_of_ble_eq_true hl;obtain⟨b9,d9,us,Rs,g1,g2,g3,g4,_,_⟩:=Yp hH hg;rw[h1]at g1;injection g1 with g1
      injection g1 with g1 g1'
      subst g1 g1';have hlu:=Xl g2;have hcl:(cut us i (k*sz)).length=k*sz:=by simp only[cut,List.length_take,List.length_drop];omega
      exact⟨_,cut us i (k*sz),h2,XX (k*sz) (YO i g2),.inr (X0 hb),λ_=>rfl,λw hw=>Yt hcl (Qab i (k*sz) (λ_=>rfl) g4 w hw),hcl⟩
    ·cases h
 ·rename_i m2 i q;obtain⟨hb,h⟩:=QoM h;simp only[Prod.mk.injEq]at h;obtain⟨rfl,rfl⟩:=h;obtain⟨b,d,j,h1,h2⟩:=QgB hs hy;exact⟨_,[],h2,rfl,.inr (X0 hb),λ_=>rfl,λw _=>Yt (news:=[]) (by simp) λh=>absurd rfl h,by simp⟩
 ·rename_i l;cases hb:Xs P xt&&Nat.beq sz 1 with
  | false=>rw[hb]at h;cases h
  | true=>
   rw[hb]at h;simp only[cond_true,Option.some.injEq,Prod.mk.injEq]at h;obtain⟨rfl,rfl⟩:=h;simp only[Bool.and_eq_true]at hb;have hk:=Nat.eq_of_beq_eq_true hb.2;subst hk;refine⟨.string (bs l),_,Qn hs hy rfl,QwU l,.inl (Yx hb.1),λ_=>rfl,λw _=>?_,by simp⟩;have hx:(bs l).extract 0 l.length=bs l:=(QhE _).trans (congrArg bs (by rw[Lib.extract_data];simp));simp only[Builtin.firstCells,hx,Sem.run_pure];congr 1;simp[bs]
 ·cases h
theorem Qn3{t xt e sz by' k c m p:Nat}{s y:Operand}{r:HB}{vy:Value}{cs:List Value}{q:Option Nat}(ho:o.op=.call {callee:=.builtin .append,args:=#[s,y],argTypes:=#[t,xt]})(hs:SR ρ L L')(hH:HM ρ H As)(hf:Q2 ρ n)(hx:opd L s=some (.slice (some ⟨p,0,q⟩) k c))(hy:opd L y=some vy)(ht:tsl P t=some (e,sz,by'))
  (hsrc:Qlv P H xt sz vy=some (m,cs))(hg:YK H p=some r)(hfit:k+m<=c)(hr:k*sz+cs.length<=r.cs.length):OpT P o L' (HS w0 [] As) (Out w0 ρ (.slice (some ⟨p,0,q⟩) (k+m) c) (Yv H p {r with cs:=Qi r.cs (k*sz) cs}) n):=by
 obtain⟨uy,us,h1,h2,h3⟩:=Qmm (w0:=w0) hs hH hy hsrc;obtain⟨b,d,rs,Rs,g1,g2,g3,g4,g5,_⟩:=Yp hH hg;have Yv:=Yr (k*sz) g2 h2;obtain⟨As2,g6,g7⟩:=g5 {r with cs:=Qi r.cs (k*sz) cs} _ Yv (by unfold room at *;simpa[Qf]using g3);have hev:∃c',c<=c'/\ev L' s=some (.slice (some ⟨b,0,none⟩) k c')/\den ρ (.slice (some ⟨p,0,q⟩) (k+m) c)=some (.slice (some ⟨b,0,none⟩) (k+m) c'):=by cases q<;>grind[Yb,den,XH,Q6,X3,YH]
 obtain⟨c',hc,e1,e2⟩:=hev;have hlr:=Xl g2;have hlu:=Xl h2;refine⟨Unit,λ_=>.slice (some ⟨b,0,none⟩) (k+m) c',λ_=>True,λ_=>HS w0 [] (.blk b r.ty (rs.length+d*r.sz) (Qi rs (k*sz) us)::Rs),?_,λ_ _=>⟨ρ,As2,ρ.le_refl,hf,e2,g6,λw hw=>?_⟩⟩
 ·intro a w hρ hw;obtain⟨hu,inf,hi,hs1,hs2⟩:=Xf ht;subst hs1;have hpk:=hw.pick g4;obtain⟨w',hst,hb,r1,r2,r3,r4,r5⟩:=XK (P:=P) us 0 rs w hpk.head (by rw[Nat.add_zero,hlr,hlu];exact hr) (λu hu=>List.all_eq_true.1 (Y9 h2) u hu) (i:=k*inf.size);have he:=Qgl (P:=P) (ty:=o.type) (x:=uy) (w':=w') (g:=b) (n:=k) (m:=m) (cap:=c') (t:=t) (xt:=xt) hu h3.ty hi (h3.lenOf w) (h3.cells w hw) (by rw[XE,Nat.zero_add];exact hst) om;simp only[execOp,ho,resolve,Sem.run_bind,Sem.run_pure,Result.andThen_ok,invoke,builtin,List.map_toArray,List.map_cons,List.map_nil,hρ _ _ e1,hρ _ _ h1,he];exact⟨(),rfl,trivial,HS.swap hpk (B:=.blk b r.ty (rs.length+d*r.sz) (Qi rs (k*inf.size) us)) (λ_ h=>h) r1 r2 r3 r4 (λk hk=>r5 k (by simpa[HA.fp_blk]using hk)) (show Q5 b _ _ (Qi rs (k*inf.size) us) w' by simpa using hb)⟩
 ·have:HS w0 [] (.blk b r.ty ((Qi rs (k*sz) us).length+d*r.sz) (Qi rs (k*sz) us)::Rs) w:=by rw[Qf];exact hw
  exact this.perm g7
theorem Qft{t xt e sz by' k m:Nat}{s y:Operand}{v uy:Value}{z xs us:List Value}{Rs:List HA}(ho:o.op=.call {callee:=.builtin .append,args:=#[s,y],argTypes:=#[t,xt]})(hv:ev L' s=some v)(hy:ev L' y=some uy)(ht:tsl P t=some (e,sz,by'))(hz:QS P e=some z)(hzs:z.length=sz)
  (hcls:∀w,HS w0 [] As w->HS w0 [] (.own v e sz k xs::Rs) w)(h3:SrcOk P w0 As xt sz uy m us)(h1:us.all (·.oneCell')=true)(hroom:(k+m)*by'<=140737488355328)(hmax:k+m<=maxLen)(hpos:0<k+m) :
  OpH P o L' (HS w0 [] As) (λg:Nat×Nat=>.slice (some ⟨g.1,0,none⟩) (k+m) g.2) (λg=>k+m<=g.2/\g.2<=maxLen/\(xs++us).length=(k+m)*sz) (λg=>HS w0 [] (.blk g.1 e (g.2*sz) (xs++us)::Rs)):=by
 intro a w hρ hw;obtain⟨v',w',hr,hw'⟩:=Qhb (P:=P) (ty:=o.type) ht h3.ty hz hzs (hcls w hw) .here (x:=uy) (h3.lenOf w) (h3.cells w hw) (h3.cells _ hw.drew) h3.len (λu hu=>List.all_eq_true.1 h1 u hu) hroom hmax;simp only[execOp,ho,resolve,Sem.run_bind,Sem.run_pure,Result.andThen_ok,invoke,builtin,List.map_toArray,List.map_cons,List.map_nil,hρ _ _ hv,hρ _ _ hy,hr];obtain⟨a',cap',rfl,_⟩:=hw'.head.form;obtain⟨g,rfl,_,h4,h5,h6,h7⟩:=hw'.own_blk hpos .here;exact⟨(g,cap'),rfl,⟨h4,h5,h6⟩,h7⟩
theorem Qef{Rs:List HA}{H':Hp}{e sz k m:Nat}{cs xs:List Value}{g:Nat×Nat}(hH:∃As3,HM ρ H' As3/\Rs.Perm As3)(hf:Q2 ρ n)(hc:QD (Q6 ρ) cs=some xs)(h1:k+m<=g.2)(h2:g.2<=maxLen)(h3:xs.length=(k+m)*sz) :
  Out w0 ρ (.slice (some ⟨n,0,none⟩) (k+m) (k+m)) (Yv H' n ⟨e,sz,cs⟩) (n+1) (.slice (some ⟨g.1,0,none⟩) (k+m) g.2) (HS w0 [] (.blk g.1 e (g.2*sz) xs::Rs)):=by
 obtain⟨As3,h4,h5⟩:=hH;have hl:=Xl hc;have hsum:(k+m)*sz+(g.2-(k+m))*sz=g.2*sz:=by rw[<-Nat.add_mul];congr 1;omega
 refine QbQ (b:=g.1) (d:=g.2-(k+m)) h4 hf hc (.inr ?_) (by rw[Qhh,show k+m+(g.2-(k+m))=g.2 by omega]) λw hw=>?_
 ·simp only[];rw[<-hl,h3,hsum];exact Nat.mul_le_mul_right _ h2
 ·simp only[];rw[h3,hsum];exact hw.perm (h5.cons _)
theorem Qon{t xt e sz by' k c m p:Nat}{s y:Operand}{r:HB}{vy:Value}{z cs:List Value}(ho:o.op=.call {callee:=.builtin .append,args:=#[s,y],argTypes:=#[t,xt]})(hs:SR ρ L L')(hH:HM ρ H As)(hf:Q2 ρ n)(hx:opd L s=some (.slice (some ⟨p,0,none⟩) k c))(hy:opd L y=some vy)(ht:tsl P t=some (e,sz,by'))(hz:QS P e=some z)(hzs:z.length=sz)
  (hsrc:Qlv P H xt sz vy=some (m,cs))(hg:YK H p=some r)(hty:r.ty=e)(hsz:r.sz=sz)(hlen:r.cs.length=c*sz)(hsz0:0<sz)(hkc:k<=c)(hcm:c<=maxLen)(hroom:(k+m)*by'<=140737488355328)(hmax:k+m<=maxLen)(hpos:0<k+m) :
  OpT P o L' (HS w0 [] As) (Out w0 ρ (.slice (some ⟨n,0,none⟩) (k+m) (k+m)) (Yv (Qi0 H p) n ⟨e,sz,r.cs.take (k*sz)++cs⟩) (n+1)):=by
 obtain⟨uy,us,h1,h2,h3⟩:=Qmm (w0:=w0) hs hH hy hsrc;obtain⟨b,d,rs,Rs,g1,g2,g3,g4,_,g6⟩:=Yp hH hg;obtain⟨b9,d9,e1,e2⟩:=Yb hs hx;rw[g1]at e1;injection e1 with e1
 injection e1 with e1 e3
 subst e1 e3;have hlr:=Xl g2
 have hcd:c+d<=maxLen:=by
  unfold room at g3;rcases g3 with g3|g3
  ·omega
  ·rw[hlen,hsz,<-Nat.add_mul]at g3;exact Nat.le_of_mul_le_mul_right g3 hsz0
 have htot:rs.length+d*r.sz=(c+d)*sz:=by rw[hlr,hlen,hsz,Nat.add_mul]
 rw[hty,htot]at g4;have hH4:=Qft (w0:=w0) (As:=As) (xs:=rs.take (k*sz)) (Rs:=Rs) (k:=k) ho e2 h1 ht hz hzs (λw hw=>HS.to_own g4 hw (List.take_append_drop (k*sz) rs).symm (by rw[List.length_take,hlr,hlen];exact Nat.min_eq_left (Nat.mul_le_mul_right _ hkc)) om hcd) h3 (Y9 h2) hroom hmax hpos;exact⟨_,_,_,_,hH4,λg hg4=>Qef g6 hf (ZD (XX (k*sz) g2) h2) hg4.1 hg4.2.1 hg4.2.2⟩
theorem Qn5{t xt e sz by' m:Nat}{s y:Operand}{vy:Value}{z cs:List Value}(ho:o.op=.call {callee:=.builtin .append,args:=#[s,y],argTypes:=#[t,xt]})(hs:SR ρ L L')(hH:HM ρ H As)(hf:Q2 ρ n)(hx:opd L s=some (.slice none 0 0))(hy:opd L y=some vy)(ht:tsl P t=some (e,sz,by'))(hz:QS P e=some z)(hzs:z.length=sz)
  (hsrc:Qlv P H xt sz vy=some (m,cs))(hroom:(0+m)*by'<=140737488355328)(hmax:0+m<=maxLen)(hpos:0<0+m) :
  OpT P o L' (HS w0 [] As) (Out w0 ρ (.slice (some ⟨n,0,none⟩) (0+m) (0+m)) (Yv H n ⟨e,sz,[]++cs⟩) (n+1)):=by
 obtain⟨uy,us,h1,h2,h3⟩:=Qmm (w0:=w0) hs hH hy hsrc;have hH4:=Qft (w0:=w0) (As:=As) (xs:=[]) (Rs:=As) (k:=0) ho (Qn hs hx rfl) h1 ht hz hzs (λw hw=>hw.own_nil e sz) h3 (Y9 h2) hroom hmax hpos;exact⟨_,_,_,_,hH4,λg hg4=>Qef ⟨As,hH,.refl _⟩ hf (ZD (by rfl) h2) hg4.1 hg4.2.1 hg4.2.2⟩
theorem QnX{t xt e sz by':Nat}{s y:Operand}{vy:Value}{cs:List Value}(ho:o.op=.call {callee:=.builtin .append,args:=#[s,y],argTypes:=#[t,xt]})(hs:SR ρ L L')(hH:HM ρ H As)(hf:Q2 ρ n)(hx:opd L s=some (.slice none 0 0))(hy:opd L y=some vy)(ht:tsl P t=some (e,sz,by'))
  (hsrc:Qlv P H xt sz vy=some (0,cs)):OpT P o L' (HS w0 [] As) (Out w0 ρ (.slice none 0 0) H n):=by
 obtain⟨uy,us,h1,h2,h3⟩:=Qmm (w0:=w0) hs hH hy hsrc;refine⟨Unit,λ_=>.slice none 0 0,λ_=>True,λ_=>HS w0 [] As,?_,λ_ _=>⟨ρ,As,ρ.le_refl,hf,rfl,hH,λ_ h=>h⟩⟩;intro a w hρ hw;obtain⟨hu,inf,hi,hs1,hs2⟩:=Xf ht;subst hs1;have hu0:us=[]:=List.eq_nil_of_length_eq_zero (by have:=h3.len;omega);subst hu0;have he:=Qg4 (P:=P) (ty:=o.type) (t:=t) (xt:=xt) (x:=uy) (w:=w) hu h3.ty hi (h3.lenOf w) (h3.cells w hw);simp only[execOp,ho,resolve,Sem.run_bind,Sem.run_pure,Result.andThen_ok,invoke,builtin,List.map_toArray,List.map_cons,List.map_nil,hρ _ _ (Qn hs hx rfl),hρ _ _ h1,he];exact⟨(),rfl,trivial,hw⟩
end
end Ev
namespace Ev
open Go Go.RowKit
section
variable{P:Program}{o:Oper}{L':Qc}{w0:World}{ρ:Rho}{L:Env}{H:Hp}{n:Nat}{As:List HA}
theorem Qqg{cs us:List Value}(h:Xz cs=true)(e:QD (Q6 ρ) cs=some us):us=cs:=by grind[Ya]
theorem Qe4{x:Operand}{p i l c:Nat}{q:Option Nat}(hs:SR ρ L L')(h:opd L x=some (.slice (some ⟨p,i,q⟩) l c)):∃b d c',ρ p=some (b,d)/\ev L' x=some (.slice (some ⟨b,i,none⟩) l c'):=by cases q<;>grind[Yb,YH]
theorem Qn8{src dst e p i k c:Nat}{x:Operand}{q:Option Nat}{r:HB}(ho:o.op=.convert src dst x)(hs:SR ρ L L')(hH:HM ρ H As)(hx:opd L x=some (.slice (some ⟨p,i,q⟩) k c))(h1:P.underlying src=some (.slice e))(h2:Xs P dst=true)(h3:P.underlying e=some (.int .u8))(hg:YK H p=some r)(hl:i+k<=r.cs.length)
  (h8:(cut r.cs i k).all QiS=true)(hf:Xz (cut r.cs i k)=true):∃u,OpQ P o L' (HS w0 [] As) u/\den ρ (.string (bs ((cut r.cs i k).map Qb8)))=some u:=by
 obtain⟨b,d,us,Rs,g1,g2,g3,g4,_,_⟩:=Yp hH hg;obtain⟨b9,d9,c',e1,e2⟩:=Qe4 hs hx;rw[g1]at e1;injection e1 with e1
 injection e1 with e1 e3
 subst e1 e3;have hc:QD (Q6 ρ) (cut r.cs i k)=some (cut us i k):=XX k (YO i g2);have he:=Qqg hf hc;have hlen:(cut r.cs i k).length=k:=by simp only[cut,List.length_take,List.length_drop];omega
 refine⟨_,?_,rfl⟩;intro a w hρ hw
 have hr:(convert src dst (.slice (some ⟨b,i,none⟩) (cut r.cs i k).length c')).run P w=.ok (.string (bs ((cut r.cs i k).map Qb8))) w:=
  YL h1 (Yx h2) h3 (λv hv=>List.all_eq_true.1 h8 v hv) (by rw[<-he];exact Qab i k (λ_=>rfl) g4 w hw)
 rw[hlen]at hr;simp only[execOp,ho,Sem.run_bind,hρ _ _ e2,hr,Result.andThen_ok,Sem.run_pure];exact⟨rfl,Below.refl _ _⟩
theorem QoP{src dst e k c:Nat}{x:Operand}(ho:o.op=.convert src dst x)(hs:SR ρ L L')(hx:opd L x=some (.slice none 0 c))(h1:P.underlying src=some (.slice e))(h2:Xs P dst=true)(h3:P.underlying e=some (.int .u8)):∃u,OpQ P o L' (HS w0 [] As) u/\den ρ (.string (bs []))=some u:=by
 refine⟨_,?_,rfl⟩;intro a w hρ hw
 have hr:(convert src dst (.slice none ([]:List Value).length c)).run P w=.ok (.string (bs (([]:List Value).map Qb8))) w:=
  YL h1 (Yx h2) h3 (λv hv=>by cases hv) (λh=>absurd rfl h)
 simp only[execOp,ho,Sem.run_bind,hρ _ _ (Qn hs hx rfl),show(0:Nat)=([]:List Value).length from rfl,hr,Result.andThen_ok,Sem.run_pure];exact⟨rfl,Below.refl _ _⟩
theorem QnT{src dst e p i q:Nat}{x:Operand}(ho:o.op=.convert src dst x)(hs:SR ρ L L')(hx:opd L x=some (.pointer (some ⟨p,i,some q⟩)))(h1:P.underlying src=some (.slice e))(h2:Xs P dst=true)(h3:P.underlying e=some (.int .u8)):∃u,OpQ P o L' (HS w0 [] As) u/\den ρ (.string (bs []))=some u:=by
 obtain⟨b,d,j,_,h4⟩:=QgB hs hx;exact⟨_,Qgx [] ho h4 h1 (Yx h2) h3 rfl (λ_ _ h=>absurd h (Nat.lt_irrefl 0)),rfl⟩
theorem Qor{t xt e sz by' m:Nat}{s y:Operand}{z:List Value}(ho:o.op=.call {callee:=.builtin .append,args:=#[s,y],argTypes:=#[t,xt]})(hs:SR ρ L L')(hH:HM ρ H As)(hf:Q2 ρ n)(hx:opd L s=some (.slice none 0 0))(hy:opd L y=some (.int .i64 (m:Int)))(hk:tki P xt=some .i64)(ht:tsl P t=some (e,sz,by'))(hz:QS P e=some z)(hzs:z.length=sz)(hsz:0<sz)
  (hfz:Xz (XJ z (m*sz))=true)(hroom:(0+m)*by'<=140737488355328)(hmax:0+m<=maxLen)(hpos:0<m):OpT P o L' (HS w0 [] As) (Out w0 ρ (.slice (some ⟨n,0,none⟩) (0+m) (0+m)) (Yv H n ⟨e,sz,[]++XJ z (m*sz)⟩) (n+1)):=by
 exact⟨_,_,_,_,Qav (olds:=[]) ho (Qn hs hx rfl) (Qn hs hy rfl) ht hk hz hzs hsz hpos om (λw _ h=>absurd rfl h) (by simp) hroom hmax,λg hg=>Qef ⟨As,hH,.refl _⟩ hf (ZD (by rfl) (Ya hfz)) hg.1 hg.2 (by rw[List.nil_append,QG,Nat.zero_add])⟩
theorem QvG{dt st e sz by' p i k c p2 i2 k2 c2:Nat}{d s:Operand}{q q2:Option Nat}{r r2:HB}(ho:o.op=.call {callee:=.builtin .copy,args:=#[d,s],argTypes:=#[dt,st]})(hs:SR ρ L L')(hH:HM ρ H As)(hf:Q2 ρ n)(hd:opd L d=some (.slice (some ⟨p,i,q⟩) k c))(hx:opd L s=some (.slice (some ⟨p2,i2,q2⟩) k2 c2))(ht:tsl P dt=some (e,sz,by'))
  (hg:YK H p=some r)(hg2:YK H p2=some r2)(hl:i+min k2 k*sz<=r.cs.length)(hl2:i2+min k2 k*sz<=r2.cs.length):OpT P o L' (HS w0 [] As) (Out w0 ρ (.int .i64 ((min k2 k:Nat):Int)) (Yv H p {r with cs:=Qi r.cs i (cut r2.cs i2 (min k2 k*sz))}) n):=by
 obtain⟨b,dd,us,Rs,g1,g2,g3,g4,g5,_⟩:=Yp hH hg;obtain⟨b2,dd2,us2,Rs2,m1,m2,m3,m4,_,_⟩:=Yp hH hg2;obtain⟨b9,d9,c',e1,e2⟩:=Qe4 hs hd;rw[g1]at e1;injection e1 with e1
 injection e1 with e1 e3
 subst e1 e3;obtain⟨b8,d8,c8,f1,f2⟩:=Qe4 hs hx;rw[m1]at f1;injection f1 with f1
 injection f1 with f1 f3
 subst f1 f3;have hc:QD (Q6 ρ) (cut r2.cs i2 (min k2 k*sz))=some (cut us2 i2 (min k2 k*sz)):=XX _ (YO i2 m2);have hlu:=Xl g2;have hlu2:=Xl m2;have hcl:(cut us2 i2 (min k2 k*sz)).length=min k2 k*sz:=by simp only[cut,List.length_take,List.length_drop];omega
 obtain⟨As2,g6,g7⟩:=g5 {r with cs:=Qi r.cs i (cut r2.cs i2 (min k2 k*sz))} _ (Yr i g2 hc) (by unfold room at *;simpa[Qf]using g3);have hS:=QbI (w0:=w0) (M:=[]) (As:=As) (As':=.blk b r.ty (us.length+dd*r.sz) (Qi us i (cut us2 i2 (min k2 k*sz)))::Rs) (min k2 k) (cut us2 i2 (min k2 k*sz)) ho e2 f2 ht ⟨Rs,g4,.refl _⟩ rfl hcl (λ_=>rfl) (by rw[hcl,hlu];exact hl) (Qab i2 _ (λ_=>rfl) m4) (λu hu=>List.all_eq_true.1 (Y9 hc) u hu);refine⟨_,_,_,_,hS,λ_ _=>⟨ρ,As2,ρ.le_refl,hf,rfl,g6,λw hw=>?_⟩⟩;have:HS w0 [] (.blk b r.ty ((Qi us i (cut us2 i2 (min k2 k*sz))).length+dd*r.sz) (Qi us i (cut us2 i2 (min k2 k*sz)))::Rs) w:=by rw[Qf];exact hw
 exact this.perm g7
theorem QtO{src e p i k c:Nat}{x:Operand}{r:HB}(ho:o.op=.convert src src x)(hs:SR ρ L L')(hH:HM ρ H As)(hf:Q2 ρ n)(hx:opd L x=some (.slice (some ⟨p,i,none⟩) k c))(h1:P.underlying src=some (.slice e))(h3:P.underlying e=some (.int .u8))(hg:YK H p=some r)(ht:r.ty=u8T) :
  OpT P o L' (HS w0 [] As) (Out w0 ρ (.slice (some ⟨p,i,none⟩) k c) H n):=by
 obtain⟨b,dd,us,Rs,g1,g2,g3,g4,g5,_⟩:=Yp hH hg;obtain⟨b9,d9,e1,e2⟩:=Yb hs hx;rw[g1]at e1;injection e1 with e1
 injection e1 with e1 e3
 subst e1 e3;rw[ht]at g4;have hS:=Qg5 (w0:=w0) (M:=[]) (As:=As) (As':=.blk b u8T (us.length+dd*r.sz) us::Rs) ho e2 h1 h3 ⟨Rs,g4,.refl _⟩;refine⟨_,_,_,_,hS,λ_ _=>⟨ρ,As,ρ.le_refl,hf,?_,hH,λw hw=>hw.perm g4.symm⟩⟩;simp only[den,XH,Q6,X3,g1]
theorem Qto{dt st e by' m cd b tot i:Nat}{d s:Operand}{bt:TypeId}{cs news:List Value}{l:List UInt8}{As As':List HA}(k:Nat)(ho:o.op=.call {callee:=.builtin .copy,args:=#[d,s],argTypes:=#[dt,st]})(hd:Gx.ev L' d=some (.slice (some ⟨b,i,none⟩) m cd))(hx:Gx.ev L' s=some (.string (bs l)))(ht:tsl P dt=some (e,1,by'))
  (hnw:news=(l.take k).map λb=>Value.int .u8 (b.toNat:Int))(hp:Put As (.blk b bt tot cs) (.blk b bt tot (Qi cs i news)) As')(hk:min l.length m=k)(hr:i+k<=cs.length) :
  OpH P o L' (HS w0 [] As) (λ_:Unit=>.int .i64 (k:Int)) (λ_=>True) (λ_=>HS w0 [] As'):=by
 intro ρ w hρ hw;obtain⟨hu,inf,hi,hs1,hs2⟩:=Xf ht;have hl:news.length=k:=by rw[hnw,List.length_map,List.length_take];omega
 have hsz:(Go.sizeOf e).run P w=.ok 1 w:=by simp[Go.sizeOf,typeInfo,hi,hs1]
 have hfc:(Builtin.firstCells 1 k (.string (bs l))).run P w=.ok news.toArray w:=by
  have hx:(bs l).extract 0 k=bs (l.take k):=(QhE _).trans (congrArg bs (by rw[Lib.extract_data];simp));simp only[Builtin.firstCells,hx,Sem.run_pure,hnw];congr 1;simp[bs]
 have hbl:(bs l).size=l.length:=rfl;have hk':Nat.min l.length m=k:=hk;obtain⟨Rs,h3,h4⟩:=hp.ex;have hpk:=hw.pick h3;obtain⟨w',hst,hb,r1,r2,r3,r4,r5⟩:=XK (P:=P) news 0 cs w hpk.head (by simpa[hl]using hr) (λu hu=>by rw[hnw]at hu;obtain⟨b,_,rfl⟩:=List.mem_map.1 hu;rfl) (i:=i)
 have he:(Builtin.copy_ #[dt,st] o.type #[.slice (some ⟨b,i,none⟩) m cd,.string (bs l)]).run P w=.ok (.int .i64 (k:Int)) w':=by
  unfold Builtin.copy_;simp[run_underlying hu,Builtin.lenOf,hbl,hk',hsz,hfc,goInt,hst]
 simp only[execOp,ho,resolve,Sem.run_bind,Sem.run_pure,Result.andThen_ok,invoke,builtin,List.map_toArray,List.map_cons,List.map_nil,hρ _ _ hd,hρ _ _ hx,he];exact⟨(),rfl,trivial,(HS.swap hpk (B:=.blk b bt tot (Qi cs i news)) (λ_ h=>h) r1 r2 r3 r4 (λk hk=>r5 k (by simpa[HA.fp_blk]using hk)) (show Q5 b bt tot (Qi cs i news) w' by simpa using hb)).perm h4⟩
theorem QsS{dt st e by' p i k c:Nat}{d s:Operand}{q:Option Nat}{r:HB}{l:List UInt8}(ho:o.op=.call {callee:=.builtin .copy,args:=#[d,s],argTypes:=#[dt,st]})(hs:SR ρ L L')(hH:HM ρ H As)(hf:Q2 ρ n)(hd:opd L d=some (.slice (some ⟨p,i,q⟩) k c))(hx:opd L s=some (.string (bs l)))(ht:tsl P dt=some (e,1,by'))
  (hg:YK H p=some r)(hl:i+min l.length k<=r.cs.length):OpT P o L' (HS w0 [] As) (Out w0 ρ (.int .i64 ((min l.length k:Nat):Int)) (Yv H p {r with cs:=Qi r.cs i ((l.take (min l.length k)).map λb=>Value.int .u8 (b.toNat:Int))}) n):=by
 obtain⟨b,dd,us,Rs,g1,g2,g3,g4,g5,_⟩:=Yp hH hg;obtain⟨b9,d9,c',e1,e2⟩:=Qe4 hs hd;rw[g1]at e1;injection e1 with e1
 injection e1 with e1 e3
 subst e1 e3
 have hfl:Xz ((l.take (min l.length k)).map λb=>Value.int .u8 (b.toNat:Int))=true:=by
  unfold Xz;rw[List.all_map];exact List.all_eq_true.2 λ_ _=>rfl
 have hlu:=Xl g2;obtain⟨As2,g6,g7⟩:=g5 {r with cs:=Qi r.cs i ((l.take (min l.length k)).map λb=>Value.int .u8 (b.toNat:Int))} _ (Yr i g2 (Ya hfl)) (by unfold room at *;simpa[Qf]using g3);have hS:=Qto (w0:=w0) (As:=As) (As':=.blk b r.ty (us.length+dd*r.sz) (Qi us i ((l.take (min l.length k)).map λb=>Value.int .u8 (b.toNat:Int)))::Rs) (min l.length k) ho e2 (Qn hs hx rfl) ht rfl ⟨Rs,g4,.refl _⟩ rfl (by rw[hlu];exact hl);refine⟨_,_,_,_,hS,λ_ _=>⟨ρ,As2,ρ.le_refl,hf,rfl,g6,λw hw=>?_⟩⟩;have:HS w0 [] (.blk b r.ty ((Qi us i ((l.take (min l.length k)).map λb=>Value.int .u8 (b.toNat:Int))).length+dd*r.sz) (Qi us i ((l.take (min l.length k)).map λb=>Value.int .u8 (b.toNat:Int)))::Rs) w:=by rw[Qf];exact hw
 exact this.perm g7
theorem Qsz{t e sz by' p i k c:Nat}{x:Operand}{q:Option Nat}{r:HB}{z:List Value}(ho:o.op=.call {callee:=.builtin .clear,args:=#[x],argTypes:=#[t]})(hs:SR ρ L L')(hH:HM ρ H As)(hf:Q2 ρ n)(hx:opd L x=some (.slice (some ⟨p,i,q⟩) k c))(ht:tsl P t=some (e,sz,by'))(hz:QS P e=some z)(hzs:z.length=sz)(hz1:z.all (·.oneCell')=true)(hz0:Nat.blt 0 z.length=true)(hfz:Xz (XJ z (k*sz))=true)
  (hg:YK H p=some r)(hl:i+k*sz<=r.cs.length):OpT P o L' (HS w0 [] As) (Out w0 ρ (.tuple #[]) (Yv H p {r with cs:=Qi r.cs i (XJ z (k*sz))}) n):=by
 obtain⟨b,dd,us,Rs,g1,g2,g3,g4,g5,_⟩:=Yp hH hg;obtain⟨b9,d9,c',e1,e2⟩:=Qe4 hs hx;rw[g1]at e1;injection e1 with e1
 injection e1 with e1 e3
 subst e1 e3;have hlu:=Xl g2;obtain⟨As2,g6,g7⟩:=g5 {r with cs:=Qi r.cs i (XJ z (k*sz))} _ (Yr i g2 (Ya hfz)) (by unfold room at *;simpa[Qf]using g3);have hS:=QmL (w0:=w0) (M:=[]) (As:=As) (As':=.blk b r.ty (us.length+dd*r.sz) (Qi us i (XJ z (k*sz)))::Rs) ho e2 ht hz hzs hz1 (by intro h;rw[h]at hz0;cases hz0) ⟨Rs,g4,.refl _⟩ (λ_=>rfl) (by rw[hlu];exact hl);refine⟨_,_,_,_,hS,λ_ _=>⟨ρ,As2,ρ.le_refl,hf,rfl,g6,λw hw=>?_⟩⟩;have:HS w0 [] (.blk b r.ty ((Qi us i (XJ z (k*sz))).length+dd*r.sz) (Qi us i (XJ z (k*sz)))::Rs) w:=by rw[Qf];exact hw
 exact this.perm g7
theorem Qwe{t:TypeId}{x:Operand}{l:List UInt8}(ho:o.op=.call {callee:=.builtin .len,args:=#[x],argTypes:=#[t]})(hs:SR ρ L L')(hx:opd L x=some (.string ⟨⟨l⟩⟩))(h:Xs P t=true):∃u,OpP P o L' u/\den ρ (.int .i64 (l.length:Int))=some u:=
 ⟨_,Qg ho (Qn hs hx rfl) (Yx h),rfl⟩
theorem Qu4{t:TypeId}{x:Operand}{a:Option Addr}{k c:Nat}(ho:o.op=.call {callee:=.builtin .len,args:=#[x],argTypes:=#[t]})(hs:SR ρ L L')(hx:opd L x=some (.slice a k c))(h:Xx P t=true):∃u,OpP P o L' u/\den ρ (.int .i64 (k:Int))=some u:=by
 obtain⟨e,he⟩:=X0 h;rcases a with _|⟨p,i,q⟩
 ·exact⟨_,QR ho (Qn hs hx rfl) he,rfl⟩
 ·obtain⟨b,d,c',h1,h2⟩:=Qe4 hs hx;exact⟨_,QR ho h2 he,rfl⟩
theorem Qur{t:TypeId}{x:Operand}{p i q:Nat}(ho:o.op=.call {callee:=.builtin .len,args:=#[x],argTypes:=#[t]})(hs:SR ρ L L')(hx:opd L x=some (.pointer (some ⟨p,i,some q⟩)))(h:Xx P t=true):∃u,OpP P o L' u/\den ρ (.int .i64 0)=some u:=by
 obtain⟨e,he⟩:=X0 h;obtain⟨b,d,j,h1,h2⟩:=QgB hs hx;exact⟨_,QR ho h2 he,rfl⟩
theorem Qu2{t:TypeId}{x:Operand}{k c:Nat}(ho:o.op=.call {callee:=.builtin .cap,args:=#[x],argTypes:=#[t]})(hs:SR ρ L L')(hx:opd L x=some (.slice none k c))(h:Xx P t=true):∃u,OpP P o L' u/\den ρ (.int .i64 (c:Int))=some u:=by
 obtain⟨e,he⟩:=X0 h;exact⟨_,Qpl ho (Qn hs hx rfl) he,rfl⟩
theorem Qvp{x y:Operand}{k k':IntKind}{a b:Int}{ts:Array TypeId}(ho:o.op=.call {callee:=.builtin .min,args:=#[x,y],argTypes:=ts})(hs:SR ρ L L')(hx:opd L x=some (.int k a))(hy:opd L y=some (.int k' b))(hk:kEq k k'=true):∃u,OpP P o L' u/\den ρ (.int k (if b<a then b else a))=some u:=by
 obtain rfl:=Qcx hk;exact⟨_,Qqf ho (Qn hs hx rfl) (Qn hs hy rfl),rfl⟩
theorem QvA{x y:Operand}{k k':IntKind}{a b:Int}{ts:Array TypeId}(ho:o.op=.call {callee:=.builtin .max,args:=#[x,y],argTypes:=ts})(hs:SR ρ L L')(hx:opd L x=some (.int k a))(hy:opd L y=some (.int k' b))(hk:kEq k k'=true):∃u,OpP P o L' u/\den ρ (.int k (if b>a then b else a))=some u:=by
 obtain rfl:=Qcx hk;exact⟨_,QdT ho (Qn hs hx rfl) (Qn hs hy rfl),rfl⟩
end
end Ev
namespace Ev
open Go Go.RowKit
inductive Ans where
 | p (v:Value)
 | q (v:Value)
 | h (v:Value) (H:Hp) (n:Nat)
def QdZ:Option Value->Option Ans
 | some v=>some (.p v)
 | none=>none
abbrev Qj4:=FuncId->List Value->Hp->Nat->Option (Value×Hp×Nat)
abbrev Qru:=Nat->List Value->Hp->Nat->Option (Value×Hp×Nat)
structure CallF where
 f:Qru->Qj4
 e:FuncId->List Value->Option Value
 y:Qru
noncomputable section
variable(P:Program)(L:Env)(H:Hp)(n:Nat)
def QgR(st f:Nat):Option Value->Option Value
 | some (.agg cs)=>match tfd P st f with
  | some (off,ft)=>match tsz P ft with
   | some (k,ag)=>if ag then some (.agg (cut cs.toList off k).toArray)else cs.toList[off]?
   | none=>none
  | none=>none
 | _=>none
def QgS(t:Nat):Option Value->Option Nat->Option Value
 | some (.string ⟨⟨l⟩⟩),some j=>bif Xs P t&&Nat.blt j l.length then some (.int .u8 ((l.getD j 0).toNat:Int))else none
 | some (.agg cs),some j=>match tar P t with
  | some (len,e,sz)=>match tsz P e with
   | some (k,ag)=>bif Nat.blt j len then(if ag then some (.agg (cut cs.toList (j*sz) k).toArray)else cs.toList[j*sz]?)else none
   | none=>none
  | none=>none
 | _,_=>none
def QlJ(t:Nat)(lo hi:Option Operand):Option Value->Option Value
 | some (.string ⟨⟨l⟩⟩)=>match loN L lo,hiN L l.length hi with
  | some a,some b=>bif Xs P t&&(Nat.ble a b&&Nat.ble b l.length)then some (.string (bs ((l.take b).drop a)))else none
  | _,_=>none
 | some (.slice (some ⟨m,off,none⟩) l c)=>match tsl P t,loN L lo,hiN L l hi with
  | some (_,sz,_),some i,some j=>bif Nat.ble i j&&(Nat.ble j c&&(Nat.beq i 0||Nat.blt i c))then some (.slice (some ⟨m,off+i*sz,none⟩) (j-i) (c-i))else(bif Nat.beq i c&&Nat.beq j c then some (.pointer (some ⟨m,off,some (c*sz)⟩))else none)
  | _,_,_=>none
 | some (.slice (some ⟨m,off,some q⟩) l c)=>match tsl P t,loN L lo,hiN L l hi with
  | some (_,sz,_),some i,some j=>bif Nat.ble i j&&Nat.ble j c then some (.slice (some ⟨m,(if c=i then off else off+i*sz),some q⟩) (j-i) (c-i))else none
  | _,_,_=>none
 | some (.slice none l c)=>match tsl P t,loN L lo,hiN L l hi with
  | some _,some i,some j=>bif Nat.ble i j&&Nat.ble j c then some (.slice none (j-i) (c-i))else none
  | _,_,_=>none
 | _=>none
def Qix(t:Nat)(lo:Option Operand)(hi mx:Operand):Option Value->Option Value
 | some (.slice (some ⟨m,off,_⟩) _ c)=>match tsl P t,loN L lo,vN (opd L hi),vN (opd L mx)with
  | some (_,sz,_),some i,some j,some k=>bif Nat.ble i j&&(Nat.ble j k&&Nat.ble k c)then some (.slice (some ⟨m,(if k=i then off else off+i*sz),some 0⟩) (j-i) (k-i))else none
  | _,_,_,_=>none
 | some (.slice none _ c)=>match tsl P t,loN L lo,vN (opd L hi),vN (opd L mx)with
  | some _,some i,some j,some k=>bif Nat.ble i j&&(Nat.ble j k&&Nat.ble k c)then some (.slice none (j-i) (k-i))else none
  | _,_,_,_=>none
 | _=>none
def QbM(st f:Nat):Option Value->Option Value
 | some (.pointer (some ⟨m,i,none⟩))=>match tfd P st f with
  | some (off,ft)=>match tsz P ft with
   | some (sz,_)=>bif Nat.blt 0 sz then some (.pointer (some ⟨m,i+off,none⟩))else none
   | none=>none
  | none=>none
 | _=>none
def Qat(t:Nat):Option Value->Option Nat->Option Value
 | some (.slice (some ⟨m,off,_⟩) l _),some j=>match tsl P t with
  | some (_,sz,_)=>bif Nat.blt j l then some (.pointer (some ⟨m,off+j*sz,none⟩))else none
  | none=>none
 | some (.pointer (some ⟨m,i,none⟩)),some j=>match tar P t with
  | some (len,_,sz)=>bif Nat.blt j len then some (.pointer (some ⟨m,i+j*sz,none⟩))else none
  | none=>none
 | _,_=>none
def QlS(t:Nat)(parts:List (Nat×Operand)):Option Value:=match Qem L parts,QS P t with
 | some vs,some z=>bif Xz z then(match Y2 P t with
  | some pl=>match ZH (λi=>pl[i]?) z vs with
   | some cs=>some (.agg cs.toArray)
   | none=>none
  | none=>match tar P t with
   | some (_,_,sz)=>match ZH (λi=>some (i*sz,sz)) z vs with
    | some cs=>some (.agg cs.toArray)
    | none=>none
   | none=>none)else none
 | _,_=>none
def Qgz(t x:Nat):Option Value:=match L x with
 | some (.pointer (some ⟨m,i,none⟩))=>match YK H m,tsz P t with
  | some r,some (sz,ag)=>if ag then(bif Nat.ble (i+sz) r.cs.length then some (.agg (cut r.cs i sz).toArray)else none)else(bif Nat.beq sz 1 then r.cs[i]? else none)
  | _,_=>none
 | _=>none
def Qii(t x:Nat)(y:Operand):Option Ans:=match L x,opd L y,tsz P t with
 | some (.pointer (some ⟨m,i,none⟩)),some v,some (sz,_)=>match YK H m with
  | some r=>bif ZZ v&&(Nat.beq v.cells.toList.length sz&&Nat.ble (i+sz) r.cs.length)then some (.h undef (Yv H m {r with cs:=Qi r.cs i v.cells.toList}) n)else none
  | none=>none
 | _,_,_=>none
def Qcb(t:Nat):Bool:=match P.underlying t with|some (.int .u8)=>true|_=>false
def Qgh(src dst:Nat):Option Value->Option Ans
 | some (.string ⟨⟨l⟩⟩)=>match P.underlying dst with
  | some (.slice e)=>bif Xs P src&&(Qcb P e&&(Nat.beq e u8T&&Nat.ble l.length maxLen))then some (.h (.slice (some ⟨n,0,none⟩) l.length l.length) (Yv H n ⟨e,1,l.map λb=>.int .u8 (b.toNat:Int)⟩) (n+1))else none
  | _=>none
 | some (.slice none k c)=>match P.underlying src with
  | some (.slice e)=>bif Xs P dst&&(Qcb P e&&Nat.beq k 0)then some (.q (.string (bs [])))else none
  | _=>none
 | some (.slice (some ⟨p,i,q⟩) k c)=>match P.underlying src,YK H p with
  | some (.slice e),some r=>bif Xs P dst&&(Qcb P e&&(Nat.ble (i+k) r.cs.length&&((cut r.cs i k).all QiS&&Xz (cut r.cs i k))))then some (.q (.string (bs ((cut r.cs i k).map Qb8))))else(match q with
   | none=>bif Nat.beq src dst&&(Qcb P e&&Nat.beq r.ty u8T)then some (.h (.slice (some ⟨p,i,none⟩) k c) H n)else none
   | _=>none)
  | _,_=>none
 | some (.pointer (some ⟨_,_,some _⟩))=>match P.underlying src with
  | some (.slice e)=>bif Xs P dst&&Qcb P e then some (.q (.string (bs [])))else none
  | _=>none
 | _=>none
def Qvv(t:Nat):Option Ans:=match QS P t with
 | some z=>bif Xz z then some (.h (.pointer (some ⟨n,0,none⟩)) (Yv H n ⟨t,0,z⟩) (n+1))else none
 | none=>none
def Qu1(t:Nat):Option Value->Option Ans
 | some v=>bif ZZ v then some (.h (.pointer (some ⟨n,0,none⟩)) (Yv H n ⟨t,0,v.cells.toList⟩) (n+1))else none
 | none=>none
def Qo3(z:List Value)(k:Nat):List Value:=(List.range k).map λi=>z.getD (i%z.length) default
def ZB(t len:Nat)(parts:List (Nat×Operand)):Option Ans:=match Qem L parts,tsl P t with
 | some vs,some (e,sz,_)=>match QS P e with
  | some z=>match ZH (λi=>some (i*sz,sz)) (Qo3 z (len*sz)) vs with
   | some cs=>bif Xz z&&(Nat.ble (len*sz) 16777216&&(Nat.blt 0 (len*sz)&&Xz (Qo3 z (len*sz))))then some (.h (.slice (some ⟨n,0,none⟩) len len) (Yv H n ⟨e,sz,cs⟩) (n+1))else none
   | none=>none
  | none=>none
 | _,_=>none
def QbA(t:Nat)(x y:Operand):Option Ans:=match opd L x,opd L y,tsl P t with
 | some (.int .i64 (.ofNat k)),some (.int .i64 (.ofNat k')),some (e,sz,by')=>match QS P e with
  | some z=>bif Nat.ble k k'&&(Nat.ble (k'*by') 281474976710656&&(Nat.ble k' 16777216&&Xz (XJ z (k'*sz))))then some (.h (.slice (some ⟨n,0,none⟩) k k') (Yv H n ⟨e,sz,XJ z (k'*sz)⟩) (n+1))else none
  | none=>none
 | _,_,_=>none
def QiF(t xt:Nat)(s y:Operand):Option Ans:=match opd L s,opd L y,tsl P t with
 | some (.slice a k c),some vy,some (e,sz,by')=>match vy with
  | .int .i64 (.ofNat m)=>match a,QS P e with
   | none,some z=>bif (Nat.beq k 0&&(Nat.beq c 0&&(Nat.beq z.length sz&&(Nat.blt 0 sz&&Xz (XJ z (m*sz))))))&&((match tki P xt with|some .i64=>true|_=>false)&&(Nat.ble ((0+m)*by') 140737488355328&&(Nat.ble (0+m) maxLen&&Nat.blt 0 m)))then some (.h (.slice (some ⟨n,0,none⟩) (0+m) (0+m)) (Yv H n ⟨e,sz,[]++XJ z (m*sz)⟩) (n+1))else none
   | _,_=>none
  | _=>match Qlv P H xt sz vy with
   | some (m,cs)=>match a with
    | none=>bif Nat.beq k 0&&Nat.beq c 0 then(bif Nat.beq m 0 then some (.h (.slice none 0 0) H n)else match QS P e with
     | some z=>bif Nat.beq z.length sz&&(Nat.ble ((0+m)*by') 140737488355328&&(Nat.ble (0+m) maxLen&&Nat.blt 0 (0+m)))then some (.h (.slice (some ⟨n,0,none⟩) (0+m) (0+m)) (Yv H n ⟨e,sz,[]++cs⟩) (n+1))else none
     | none=>none)else none
    | some ⟨p,off,q⟩=>bif Nat.beq off 0 then(match YK H p with
     | some r=>bif Nat.ble (k+m) c then(bif Nat.ble (k*sz+cs.length) r.cs.length then some (.h (.slice (some ⟨p,0,q⟩) (k+m) c) (Yv H p {r with cs:=Qi r.cs (k*sz) cs}) n)else none)
      else(match q,QS P e with
       | none,some z=>bif (Nat.beq z.length sz&&(Nat.beq r.ty e&&(Nat.beq r.sz sz&&(Nat.beq r.cs.length (c*sz)&&Nat.blt 0 sz))))&&((Nat.ble k c&&Nat.ble c maxLen)&&(Nat.ble ((k+m)*by') 140737488355328&&(Nat.ble (k+m) maxLen&&Nat.blt 0 (k+m))))then some (.h (.slice (some ⟨n,0,none⟩) (k+m) (k+m)) (Yv (Qi0 H p) n ⟨e,sz,r.cs.take (k*sz)++cs⟩) (n+1))else none
       | _,_=>none)
     | none=>none)else none
   | none=>none
 | _,_,_=>none
def Qqs(dt:Nat)(d s:Operand):Option Ans:=match opd L d,opd L s,tsl P dt with
 | some (.slice (some ⟨p,i,_⟩) k _),some (.slice (some ⟨p2,i2,_⟩) k2 _),some (_,sz,_)=>match YK H p,YK H p2 with
  | some r,some r2=>bif Nat.ble (i+min k2 k*sz) r.cs.length&&Nat.ble (i2+min k2 k*sz) r2.cs.length then some (.h (.int .i64 ((min k2 k:Nat):Int)) (Yv H p {r with cs:=Qi r.cs i (cut r2.cs i2 (min k2 k*sz))}) n)else none
  | _,_=>none
 | some (.slice (some ⟨p,i,_⟩) k _),some (.string ⟨⟨l⟩⟩),some (_,sz,_)=>match YK H p with
  | some r=>bif Nat.beq sz 1&&Nat.ble (i+min l.length k) r.cs.length then some (.h (.int .i64 ((min l.length k:Nat):Int)) (Yv H p {r with cs:=Qi r.cs i ((l.take (min l.length k)).map λb=>Value.int .u8 (b.toNat:Int))}) n)else none
  | none=>none
 | _,_,_=>none
def Qli(t:Nat)(x:Operand):Option Ans:=match opd L x,tsl P t with
 | some (.slice (some ⟨p,i,_⟩) k _),some (e,sz,_)=>match YK H p,QS P e with
  | some r,some z=>bif Nat.beq z.length sz&&(z.all (·.oneCell')&&(Nat.blt 0 z.length&&(Xz (XJ z (k*sz))&&Nat.ble (i+k*sz) r.cs.length)))then some (.h (.tuple #[]) (Yv H p {r with cs:=Qi r.cs i (XJ z (k*sz))}) n)else none
  | _,_=>none
 | _,_=>none
def QeB(b:Builtin)(args:List Operand)(ts:List TypeId):Option Ans:=match b,args,ts with
 | .len,[x],[t]=>match opd L x with
  | some (.string ⟨⟨l⟩⟩)=>bif Xs P t then some (.p (.int .i64 (l.length:Int)))else none
  | some (.slice _ k _)=>bif Xx P t then some (.p (.int .i64 (k:Int)))else none
  | some (.pointer (some ⟨_,_,some _⟩))=>bif Xx P t then some (.p (.int .i64 0))else none
  | _=>none
 | .cap,[x],[t]=>match opd L x with
  | some (.slice none _ c)=>bif Xx P t then some (.p (.int .i64 (c:Int)))else none
  | _=>none
 | .min,[x,y],_=>match opd L x,opd L y with
  | some (.int k a),some (.int k' b)=>bif kEq k k' then some (.p (.int k (if b<a then b else a)))else none
  | _,_=>none
 | .max,[x,y],_=>match opd L x,opd L y with
  | some (.int k a),some (.int k' b)=>bif kEq k k' then some (.p (.int k (if b>a then b else a)))else none
  | _,_=>none
 | .append,[s,y],[t,xt]=>QiF P L H n t xt s y
 | .copy,[d,s],[dt,_]=>Qqs P L H n dt d s
 | .clear,[x],[t]=>Qli P L H n t x
 | _,_,_=>none
def Qfm(F:CallF)(f:Option Value)(vs:Option (List Value)):Option Ans:=match f,vs with
 | some (.func (.func g) first cap),some vs=>bif QK P g then(match F.f F.y g (first.toList++vs++cap.toList) H n with
  | some (v,H',n')=>some (.h v H' n')
  | none=>none)else none
 | some (.func (.yield k) ⟨[]⟩ ⟨[]⟩),some vs=>match F.y k vs H n with
  | some (v,H',n')=>some (.h v H' n')
  | none=>none
 | _,_=>none
def QaS(t:Nat):Option Value->Option Value->Option Ans
 | some (.map (some r)),some (.int .i64 a)=>match P.underlying t,QgH H r with
  | some (.map kt et),some ks=>match tzv P et,tki P kt with
   | some (.bool false),some .i64=>some (.q (.bool (Qje a ks)))
   | _,_=>none
  | _,_=>none
 | _,_=>none
def QdM(t:Nat):Option Value->Option Value->Option Value->Option Ans
 | some (.map (some r)),some (.int .i64 a),some (.bool true)=>match P.underlying t,QgH H r with
  | some (.map kt et),some ks=>match tki P kt with
   | some .i64=>some (.h (.tuple #[]) (YZ H r (.mp (bif Qje a ks then ks else ks++[a]))) n)
   | _=>none
  | _,_=>none
 | _,_,_=>none
def XL(F:CallF):Op->Option Ans
 | .move x=>QdZ (opd L x)
 | .assign x=>QdZ (opd L x)
 | .pick c a b=>match opd L c,opd L a,opd L b with
  | some (.bool t),some x,some y=>some (.p (if t then x else y))
  | _,_,_=>none
 | .binOp op t x y _=>match opd L x,opd L y with
  | some a,some b=>QdZ (ZQ P op t a b)
  | _,_=>none
 | .unOp op _ x=>match opd L x with
  | some a=>QdZ (Qfb op a)
  | none=>none
 | .convert src dst x=>match opd L x with
  | some a=>match Qcc P src dst a with
   | some v=>some (.p v)
   | none=>Qgh P H n src dst (some a)
  | none=>none
 | .extract x i=>match opd L x with
  | some (.tuple vs)=>QdZ (vs.toList[i]?)
  | _=>none
 | .makeFunc (.func f) first cap=>match QdV L first.toList,QdV L cap.toList with
  | some a,some b=>bif a.all Qll&&b.all Qll then some (.p (.func (.func f) a.toArray b.toArray))else none
  | _,_=>none
 | .nilCheck x=>match opd L x with
  | some (.pointer (some ⟨m,i,none⟩))=>some (.p (.pointer (some ⟨m,i,none⟩)))
  | some (.func (.func f) a b)=>some (.p (.func (.func f) a b))
  | _=>none
 | .field st x f=>QdZ (QgR P st f (opd L x))
 | .index t x y=>QdZ (QgS P t (opd L x) (vN (opd L y)))
 | .slice t x lo hi none=>QdZ (QlJ P L t lo hi (opd L x))
 | .slice t x lo (some hi) (some mx)=>QdZ (Qix P L t lo hi mx (opd L x))
 | .fieldAddr st x f=>QdZ (QbM P st f (opd L x))
 | .indexAddr t x y=>QdZ (Qat P t (opd L x) (vN (opd L y)))
 | .build t parts=>QdZ (QlS P L t parts.toList)
 | .load t (.tmp x)=>match Qgz P L H t x with
  | some v=>some (.q v)
  | none=>none
 | .store t (.tmp x) y=>Qii P L H n t x y
 | .alloc t=>Qvv P H n t
 | .box t x=>Qu1 H n t (opd L x)
 | .buildSlice t 0 ⟨[]⟩=>match tsl P t with
  | some (e,sz,_)=>some (.h (.slice (some ⟨n,0,none⟩) 0 0) (Yv H n ⟨e,sz,[]⟩) (n+1))
  | none=>none
 | .buildSlice t len parts=>ZB P L H n t len parts.toList
 | .makeSlice t x y=>QbA P L H n t x y
 | .call ⟨.builtin b,args,ts⟩=>QeB P L H n b args.toList ts.toList
 | .call ⟨.value (.func g),args,_⟩=>match QdV L args.toList with
  | some vs=>match F.e g vs with
   | some v=>some (.q v)
   | none=>Qfm P H n F (some (.func (.func g) #[] #[])) (some vs)
  | none=>none
 | .call ⟨.value f,args,_⟩=>Qfm P H n F (opd L f) (QdV L args.toList)
 | .makeMap t none=>some (.h (.map (some n)) (YZ H n (.mp [])) (n+1))
 | .lookup t m x false=>QaS P H t (opd L m) (opd L x)
 | .mapUpdate t m x y=>QdM P H n t (opd L m) (opd L x) (opd L y)
 | _=>none
end
end Ev
namespace Ev
open Go Go.RowKit
theorem Qx{α:Type}{c:Bool}{x a:α}(h:(bif c then some x else none)=some a):c=true/\x=a:=by grind
theorem QaW{α:Type}{c:Bool}{x:Option α}{a:α}(h:(bif c then x else none)=some a):c=true/\x=some a:=by grind
theorem QeD{α:Type}{a:Array α}{x:α}(h:a.toList=[x]):a= #[x]:=by grind
theorem Qeo{α:Type}{a:Array α}{x y:α}(h:a.toList=[x,y]):a= #[x,y]:=by grind
def QnG(w0:World)(ρ:Rho)(v:Value)(H':Hp)(n':Nat)(e:Ending)(w':World):Prop:=
 ∃ρ' As' u,ρ.le ρ'/\Q2 ρ' n'/\den ρ' v=some u/\HM ρ' H' As'/\e=.returned u/\HS w0 [] As' w'
def QkZ(P:Program)(r0:Rho)(F:Qj4):Prop:=∀f vs H n v H' n',F f vs H n=some (v,H',n')->∀(w0:World)(ρ:Rho)(us:List Value)(As:List HA),r0.le ρ->QD (den ρ) vs=some us->HM ρ H As->Q2 ρ n->∀w,HS w0 [] As w->Calls P f us.toArray w (QnG w0 ρ v H' n')
def QjP(P:Program)(E:FuncId->List Value->Option Value):Prop:=∀f vs v,E f vs=some v->∀(w0:World)(ρ:Rho)(us:List Value)(As:List HA),QD (den ρ) vs=some us->∀(o:Oper)(L':Qc)(args:Array Operand)(ts:Array TypeId),o.op=.call {callee:=.value (.func f),args:=args,argTypes:=ts}->evs L' args.toList=some us->∃u,den ρ v=some u/\OpQ P o L' (HS w0 [] As) u
def YOk(P:Program)(r0:Rho)(Y:Qru):Prop:=∀k vs H n v H' n',Y k vs H n=some (v,H',n')->∀(w0:World)(ρ:Rho)(us:List Value)(As:List HA),r0.le ρ->QD (den ρ) vs=some us->HM ρ H As->Q2 ρ n->∃x,ρ k=some x/\∀w,HS w0 [] As w->Qi5 P x.1 us.toArray w (QnG w0 ρ v H' n')
structure CallOk(P:Program)(r0:Rho)(F:CallF):Prop where
 f:∀r1 Y,YOk P r1 Y->QkZ P r1 (F.f Y)
 e:QjP P F.e
 y:YOk P r0 F.y
def QaO(P:Program)(o:Oper)(L':Qc)(w0:World)(ρ:Rho)(H:Hp)(n:Nat)(As:List HA):Ans->Prop
 | .p v=>∃u,OpP P o L' u/\den ρ v=some u
 | .q v=>∃u,OpQ P o L' (HS w0 [] As) u/\den ρ v=some u
 | .h v H' n'=>OpT P o L' (HS w0 [] As) (Out w0 ρ v H' n')
section
variable{P:Program}{o:Oper}{L':Qc}{w0:World}{ρ:Rho}{L:Env}{H:Hp}{n:Nat}{As:List HA}{F:CallF}{a:Ans}
theorem Qfz{x:Option Value}(h:QdZ x=some a)(hx:∀v,x=some v->∃u,OpP P o L' u/\den ρ v=some u):QaO P o L' w0 ρ H n As a:=by
 cases x with
 | none=>cases h
 | some v=>
  injection h with h
  subst h;exact hx v rfl
theorem Qob{st f:Nat}{x:Operand}{v:Value}(ho:o.op=.field st x f)(hs:SR ρ L L')(h:QgR P st f (opd L x)=some v):∃u,OpP P o L' u/\den ρ v=some u:=by
 unfold QgR at h
 grind[QsF]
theorem Qn2{t:Nat}{x y:Operand}{v:Value}(ho:o.op=.index t x y)(hs:SR ρ L L')(h:QgS P t (opd L x) (vN (opd L y))=some v):∃u,OpP P o L' u/\den ρ v=some u:=by
 unfold QgS at h;split at h
 ·rename_i l j hx hy;obtain⟨hc,rfl⟩:=Qx h;simp only[Bool.and_eq_true]at hc;exact QrE ho hs hx hy hc.1 (by simpa[Nat.blt_eq]using hc.2)
 ·rename_i cs j hx hy;split at h
  ·rename_i len e sz h1;split at h
   ·rename_i k ag h2;obtain⟨hc,h3⟩:=QaW h;exact QsB ho hs hx hy h1 h2 (by simpa[Nat.blt_eq]using hc) h3
   ·cases h
  ·cases h
 ·cases h
theorem Qoa{t:Nat}{x:Operand}{lo hi:Option Operand}{v:Value}(ho:o.op=.slice t x lo hi none)(hs:SR ρ L L')(h:QlJ P L t lo hi (opd L x)=some v):∃u,OpP P o L' u/\den ρ v=some u:=by
 unfold QlJ at h;split at h
 ·rename_i l hx;split at h
  ·rename_i i j h1 h2;obtain⟨hc,rfl⟩:=Qx h;simp only[Bool.and_eq_true]at hc;exact Qsc ho hs hx hc.1 h1 h2 (Nat.le_of_ble_eq_true hc.2.1) (Nat.le_of_ble_eq_true hc.2.2)
  ·cases h
 ·rename_i m off l c hx;split at h
  ·rename_i e sz by' i j h1 h2 h3;cases hb:Nat.ble i j&&(Nat.ble j c&&(Nat.beq i 0||Nat.blt i c))with
   | true=>
    rw[hb]at h;injection h with h
    subst h;simp only[Bool.and_eq_true,Bool.or_eq_true]at hb;exact Qsq ho hs hx h1 h2 h3 (Nat.le_of_ble_eq_true hb.1) (Nat.le_of_ble_eq_true hb.2.1) (hb.2.2.imp Nat.eq_of_beq_eq_true (λh=>by simpa[Nat.blt_eq]using h))
   | false=>
    rw[hb]at h;obtain⟨hc,rfl⟩:=Qx h;simp only[Bool.and_eq_true]at hc;have e1:=Nat.eq_of_beq_eq_true hc.1;have e2:=Nat.eq_of_beq_eq_true hc.2
    grind[Qqt]
  ·cases h
 ·rename_i m off q l c hx;split at h
  ·rename_i e sz by' i j h1 h2 h3;obtain⟨hc,rfl⟩:=Qx h;simp only[Bool.and_eq_true]at hc;exact QqI ho hs hx h1 h2 h3 (Nat.le_of_ble_eq_true hc.1) (Nat.le_of_ble_eq_true hc.2)
  ·cases h
 ·rename_i l c hx;split at h
  ·rename_i y i j h1 h2 h3;obtain⟨e,sz,by'⟩:=y;obtain⟨hc,rfl⟩:=Qx h;simp only[Bool.and_eq_true]at hc;exact QpD ho hs hx h1 h2 h3 (Nat.le_of_ble_eq_true hc.1) (Nat.le_of_ble_eq_true hc.2)
  ·cases h
 ·cases h
theorem QlF{t:Nat}{x hi mx:Operand}{lo:Option Operand}{v:Value}(ho:o.op=.slice t x lo (some hi) (some mx))(hs:SR ρ L L')(h:Qix P L t lo hi mx (opd L x)=some v):∃u,OpP P o L' u/\den ρ v=some u:=by
 unfold Qix at h;split at h
 ·rename_i m off q l c hx;split at h
  ·rename_i e sz by' i j k h1 h2 h3 h4;obtain⟨hc,rfl⟩:=Qx h;simp only[Bool.and_eq_true]at hc;exact QqO ho hs hx h1 h2 h3 h4 (Nat.le_of_ble_eq_true hc.1) (Nat.le_of_ble_eq_true hc.2.1) (Nat.le_of_ble_eq_true hc.2.2)
  ·cases h
 ·rename_i l c hx;split at h
  ·rename_i y i j k h1 h2 h3 h4;obtain⟨e,sz,by'⟩:=y;obtain⟨hc,rfl⟩:=Qx h;simp only[Bool.and_eq_true]at hc;exact Qn0 ho hs hx h1 h2 h3 h4 (Nat.le_of_ble_eq_true hc.1) (Nat.le_of_ble_eq_true hc.2.1) (Nat.le_of_ble_eq_true hc.2.2)
  ·cases h
 ·cases h
theorem Qht{st f:Nat}{x:Operand}{v:Value}(ho:o.op=.fieldAddr st x f)(hs:SR ρ L L')(h:QbM P st f (opd L x)=some v):∃u,OpP P o L' u/\den ρ v=some u:=by
 unfold QbM at h;split at h
 ·rename_i m i hx;split at h
  ·rename_i off ft h1;split at h
   ·rename_i sz ag h2;obtain⟨hc,rfl⟩:=Qx h
    grind[Qjt]
   ·cases h
  ·cases h
 ·cases h
theorem Qhw{t:Nat}{x y:Operand}{v:Value}(ho:o.op=.indexAddr t x y)(hs:SR ρ L L')(h:Qat P t (opd L x) (vN (opd L y))=some v):∃u,OpP P o L' u/\den ρ v=some u:=by
 unfold Qat at h;split at h
 ·rename_i m off q l c j hx hy;split at h
  ·rename_i e sz by' h1;obtain⟨hc,rfl⟩:=Qx h;cases q with
   | none=>exact Qjv ho hs hx hy h1 (by simpa[Nat.blt_eq]using hc)
   | some q=>exact Qim ho hs hx hy h1 (by simpa[Nat.blt_eq]using hc)
  ·cases h
 ·rename_i m i j hx hy;split at h
  ·rename_i len e sz h1;obtain⟨hc,rfl⟩:=Qx h;exact Qih ho hs hx hy h1 (by simpa[Nat.blt_eq]using hc)
  ·cases h
 ·cases h
theorem Qom{t:Nat}{parts:Array (Nat×Operand)}{v:Value}(ho:o.op=.build t parts)(hs:SR ρ L L')(h:QlS P L t parts.toList=some v):∃u,OpP P o L' u/\den ρ v=some u:=by
 unfold QlS at h;split at h
 ·rename_i vs z h1 h2;obtain⟨hc,h⟩:=QaW h
  grind[Qtn,QqV]
 ·cases h
theorem QqZ{t x:Nat}{v:Value}(ho:o.op=.load t (.tmp x))(hs:SR ρ L L')(hH:HM ρ H As)(h:Qgz P L H t x=some v):∃u,OpQ P o L' (HS w0 [] As) u/\den ρ v=some u:=by
 unfold Qgz at h;split at h
 ·rename_i m i hx;split at h
  ·rename_i r sz ag h1 h2;exact QvS ho hs hH hx h1 h2 h
  ·cases h
 ·cases h
theorem Qoq{t x:Nat}{y:Operand}(ho:o.op=.store t (.tmp x) y)(hs:SR ρ L L')(hH:HM ρ H As)(hf:Q2 ρ n)(h:Qii P L H n t x y=some a):QaO P o L' w0 ρ H n As a:=by
 unfold Qii at h;split at h
 ·rename_i m i v sz ag hx hy hz;split at h
  ·rename_i r hg;obtain⟨hc,rfl⟩:=Qx h;simp only[Bool.and_eq_true]at hc;exact QtA ho hs hH hf hx hy hc.1 hg hz (Nat.eq_of_beq_eq_true hc.2.1) (Nat.le_of_ble_eq_true hc.2.2)
  ·cases h
 ·cases h
theorem QcM{t:Nat}(h:Qcb P t=true):P.underlying t=some (.int .u8):=by grind[Qcb]
theorem QqP{src dst:Nat}{x:Operand}{v:Value}(ho:o.op=.convert src dst x)(hs:SR ρ L L')(hH:HM ρ H As)(hf:Q2 ρ n)(hx:opd L x=some v)(h:Qgh P H n src dst (some v)=some a):QaO P o L' w0 ρ H n As a:=by
 unfold Qgh at h;split at h
 ·rename_i l hv;injection hv with hv
  subst hv;split at h
  ·rename_i e h1;obtain⟨hc,rfl⟩:=Qx h;simp only[Bool.and_eq_true]at hc;exact Qsv ho hs hx (Yx hc.1) h1 (QcM hc.2.1) (Nat.eq_of_beq_eq_true hc.2.2.1) (Nat.le_of_ble_eq_true hc.2.2.2) hH hf
  ·cases h
 ·rename_i k c hv;injection hv with hv
  subst hv;split at h
  ·rename_i e h1;obtain⟨hc,rfl⟩:=Qx h;simp only[Bool.and_eq_true]at hc;have hk:=Nat.eq_of_beq_eq_true hc.2.2;subst hk;exact QoP (k:=0) ho hs hx h1 hc.1 (QcM hc.2.1)
  ·cases h
 ·rename_i p i q k c hv;injection hv with hv
  subst hv;split at h
  ·rename_i e r h1 h2;cases hb:Xs P dst&&(Qcb P e&&(Nat.ble (i+k) r.cs.length&&((cut r.cs i k).all QiS&&Xz (cut r.cs i k))))with
   | true=>
    rw[hb]at h;injection h with h
    subst h;simp only[Bool.and_eq_true]at hb;exact Qn8 ho hs hH hx h1 hb.1 (QcM hb.2.1) h2 (Nat.le_of_ble_eq_true hb.2.2.1) hb.2.2.2.1 hb.2.2.2.2
   | false=>
    rw[hb]at h;simp only[cond_false]at h;split at h
    ·obtain⟨hc,rfl⟩:=Qx h;simp only[Bool.and_eq_true]at hc;have e1:=Nat.eq_of_beq_eq_true hc.1;subst e1;exact QtO ho hs hH hf hx h1 (QcM hc.2.1) h2 (Nat.eq_of_beq_eq_true hc.2.2)
    ·cases h
  ·cases h
 ·rename_i p i q hv;injection hv with hv
  subst hv;split at h
  ·rename_i e h1;obtain⟨hc,rfl⟩:=Qx h;simp only[Bool.and_eq_true]at hc;exact QnT ho hs hx h1 hc.1 (QcM hc.2)
  ·cases h
 ·cases h
theorem Qf6{t len:Nat}{parts:Array (Nat×Operand)}(ho:o.op=.buildSlice t len parts)(hs:SR ρ L L')(hH:HM ρ H As)(hf:Q2 ρ n)(h:ZB P L H n t len parts.toList=some a):QaO P o L' w0 ρ H n As a:=by
 unfold ZB at h;split at h
 ·rename_i vs e sz by' h1 h2;split at h
  ·rename_i z h3;split at h
   ·rename_i cs h4;obtain⟨hc,rfl⟩:=Qx h;simp only[Bool.and_eq_true]at hc;exact QiR ho hs h1 h2 h3 hc.1 hc.2.1 hc.2.2.1 h4 hc.2.2.2 hH hf
   ·cases h
  ·cases h
 ·cases h
theorem Qhr{t:Nat}{x y:Operand}(ho:o.op=.makeSlice t x y)(hs:SR ρ L L')(hH:HM ρ H As)(hf:Q2 ρ n)(h:QbA P L H n t x y=some a):QaO P o L' w0 ρ H n As a:=by
 unfold QbA at h;split at h
 ·rename_i k k' e sz by' hx hy ht;split at h
  ·rename_i z hz;obtain⟨hc,rfl⟩:=Qx h;simp only[Bool.and_eq_true]at hc;exact Qj1 ho hs hx hy (Nat.le_of_ble_eq_true hc.1) ht hz (Nat.le_of_ble_eq_true hc.2.1) (Nat.le_of_ble_eq_true hc.2.2.1) hc.2.2.2 hH hf
  ·cases h
 ·cases h
theorem Qlm{t xt:Nat}{s y:Operand}(ho:o.op=.call {callee:=.builtin .append,args:=#[s,y],argTypes:=#[t,xt]})(hs:SR ρ L L')(hH:HM ρ H As)(hf:Q2 ρ n)(h:QiF P L H n t xt s y=some a):QaO P o L' w0 ρ H n As a:=by
 unfold QiF at h;split at h
 ·rename_i a0 k c vy e sz by' hx hy ht;split at h
  ·rename_i m;split at h
   ·rename_i z hz;obtain⟨hc,rfl⟩:=Qx h;simp only[Bool.and_eq_true]at hc;obtain⟨⟨c1,c2,c3,c4,c5⟩,c6,c7,c8,c9⟩:=hc;have hk:=Nat.eq_of_beq_eq_true c1;have hc0:=Nat.eq_of_beq_eq_true c2;subst hk hc0;refine Qor ho hs hH hf hx hy ?_ ht hz (Nat.eq_of_beq_eq_true c3) (by simpa[Nat.blt_eq]using c4) c5 (Nat.le_of_ble_eq_true c7) (Nat.le_of_ble_eq_true c8) (by simpa[Nat.blt_eq]using c9)
    grind
   ·cases h
  ·split at h
   ·rename_i m cs hsrc;split at h
    ·obtain⟨hc,h⟩:=QaW h;simp only[Bool.and_eq_true]at hc;have hk:=Nat.eq_of_beq_eq_true hc.1;have hc0:=Nat.eq_of_beq_eq_true hc.2;subst hk hc0;cases hm:Nat.beq m 0 with
     | true=>
      rw[hm]at h;have hm:=Nat.eq_of_beq_eq_true hm;subst hm;injection h with h
      subst h;exact QnX ho hs hH hf hx hy ht hsrc
     | false=>
      rw[hm]at h;simp only[cond_false]at h;split at h
      ·rename_i z hz;obtain⟨hc,rfl⟩:=Qx h;simp only[Bool.and_eq_true]at hc;exact Qn5 ho hs hH hf hx hy ht hz (Nat.eq_of_beq_eq_true hc.1) hsrc (Nat.le_of_ble_eq_true hc.2.1) (Nat.le_of_ble_eq_true hc.2.2.1) (by simpa[Nat.blt_eq]using hc.2.2.2)
      ·cases h
    ·rename_i p off q;obtain⟨hc,h⟩:=QaW h;have ho0:=Nat.eq_of_beq_eq_true hc;subst ho0;split at h
     ·rename_i r hg;cases hfit:Nat.ble (k+m) c with
      | true=>
       rw[hfit]at h;obtain⟨hc,rfl⟩:=Qx h;exact Qn3 ho hs hH hf hx hy ht hsrc hg (Nat.le_of_ble_eq_true hfit) (Nat.le_of_ble_eq_true hc)
      | false=>
       rw[hfit]at h;simp only[cond_false]at h;split at h
       ·rename_i z hz _;obtain⟨hc,rfl⟩:=Qx h;simp only[Bool.and_eq_true]at hc;obtain⟨⟨c1,c2,c3,c4,c5⟩,⟨c6,c7⟩,c8,c9,c10⟩:=hc;exact Qon ho hs hH hf hx hy ht hz (Nat.eq_of_beq_eq_true c1) hsrc hg (Nat.eq_of_beq_eq_true c2) (Nat.eq_of_beq_eq_true c3) (Nat.eq_of_beq_eq_true c4) (by simpa[Nat.blt_eq]using c5) (Nat.le_of_ble_eq_true c6) (Nat.le_of_ble_eq_true c7) (Nat.le_of_ble_eq_true c8) (Nat.le_of_ble_eq_true c9) (by simpa[Nat.blt_eq]using c10)
       ·cases h
     ·cases h
   ·cases h
 ·cases h
theorem Qqh{dt st:Nat}{d s:Operand}(ho:o.op=.call {callee:=.builtin .copy,args:=#[d,s],argTypes:=#[dt,st]})(hs:SR ρ L L')(hH:HM ρ H As)(hf:Q2 ρ n)(h:Qqs P L H n dt d s=some a):QaO P o L' w0 ρ H n As a:=by
 unfold Qqs at h;split at h
 ·rename_i p i q k c p2 i2 q2 k2 c2 e sz by' hd hx ht;split at h
  ·rename_i r r2 hg hg2;obtain⟨hc,rfl⟩:=Qx h;simp only[Bool.and_eq_true]at hc;exact QvG ho hs hH hf hd hx ht hg hg2 (Nat.le_of_ble_eq_true hc.1) (Nat.le_of_ble_eq_true hc.2)
  ·cases h
 ·rename_i p i q k c l e sz by' hd hx ht;split at h
  ·rename_i r hg;obtain⟨hc,rfl⟩:=Qx h;simp only[Bool.and_eq_true]at hc;have h1:=Nat.eq_of_beq_eq_true hc.1;subst h1;exact QsS ho hs hH hf hd hx ht hg (Nat.le_of_ble_eq_true hc.2)
  ·cases h
 ·cases h
theorem QoR{t:Nat}{x:Operand}(ho:o.op=.call {callee:=.builtin .clear,args:=#[x],argTypes:=#[t]})(hs:SR ρ L L')(hH:HM ρ H As)(hf:Q2 ρ n)(h:Qli P L H n t x=some a):QaO P o L' w0 ρ H n As a:=by
 unfold Qli at h;split at h
 ·rename_i p i q k c e sz by' hx ht;split at h
  ·rename_i r z hg hz;obtain⟨hc,rfl⟩:=Qx h;simp only[Bool.and_eq_true]at hc;obtain⟨c1,c2,c3,c4,c5⟩:=hc;exact Qsz ho hs hH hf hx ht hz (Nat.eq_of_beq_eq_true c1) c2 c3 c4 hg (Nat.le_of_ble_eq_true c5)
  ·cases h
 ·cases h
theorem QqY{vs us:List Value}(h:QD (X3 ρ) vs=some us):QD (den ρ) vs=some us:=XA (λa b e=>Qdu (QbS (Qrn e))) h
theorem QkK{f:Operand}{args:Array Operand}{ts:Array TypeId}{r0:Rho}(hF:CallOk P r0 F)(h0:r0.le ρ)(ho:o.op=.call {callee:=.value f,args:=args,argTypes:=ts})(hs:SR ρ L L')(hH:HM ρ H As)(hf:Q2 ρ n)(h:Qfm P H n F (opd L f) (QdV L args.toList)=some a):QaO P o L' w0 ρ H n As a:=by
 unfold Qfm at h;split at h
 ·rename_i g first cap vs hx hvs
  obtain⟨hc,h⟩:=QaW h;split at h
  ·rename_i v H' n' hr;injection h with h
   subst h;obtain⟨u,e1,e2⟩:=Zj hs hx;simp only[den,XH,Q6,Qdp]at e2;split at e2
   ·rename_i f' a' b' g1 g2 g3;injection g1 with g1
    subst g1;injection e2 with e2
    subst e2;obtain⟨us,e3,e4⟩:=Qe3 hs hvs;have hall:=ZD (ZD (QqY g2) e4) (QqY g3);refine⟨{x:Rho×List HA×Value // ρ.le x.1/\Q2 x.1 n'/\den x.1 v=some x.2.2/\HM x.1 H' x.2.1},λx=>x.1.2.2,λ_=>True,λx=>HS w0 [] x.1.2.1,λag w hρ hw=>?_,λx _=>⟨x.1.1,x.1.2.1,x.2.1,x.2.2.1,x.2.2.2.1,x.2.2.2.2,λ_ h=>h⟩⟩;rw[Qan ho hρ e1 hc e3];have hcall:=hF.f r0 F.y hF.y _ _ _ _ _ _ _ hr w0 ρ _ As h0 hall hH hf w hw;have hargs:(a'++us++b').toArray=a'.toArray++us.toArray++b'.toArray:=by simp
    rw[hargs]at hcall;exact Calls.mono hcall λe w'⟨ρ',As',u',h1,h2,h3,h4,h5,h6⟩=>⟨u',h5,⟨(ρ',As',u'),h1,h2,h3,h4⟩,rfl,trivial,h6⟩
   ·cases e2
  ·cases h
 ·rename_i k vs hx hvs;split at h
  ·rename_i v H' n' hr;injection h with h
   subst h;obtain⟨u,e1,e2⟩:=Zj hs hx;obtain⟨us,e3,e4⟩:=Qe3 hs hvs;obtain⟨x,hk,hy⟩:=hF.y _ _ _ _ _ _ _ hr w0 ρ us As h0 e4 hH hf;simp only[den,XH,Q6,Qdp,hk,QD,Option.some.injEq]at e2;subst e2;refine⟨{x:Rho×List HA×Value // ρ.le x.1/\Q2 x.1 n'/\den x.1 v=some x.2.2/\HM x.1 H' x.2.1},λx=>x.1.2.2,λ_=>True,λx=>HS w0 [] x.1.2.1,?_,λx _=>⟨x.1.1,x.1.2.1,x.2.1,x.2.2.1,x.2.2.2.1,x.2.2.2.2,λ_ h=>h⟩⟩;refine QsN (l:=x.1) ho e1 e3 λw hw=>?_;obtain⟨f,tmps,assign,body,y1,y2⟩:=hy w hw;exact⟨f,tmps,assign,body,y1,RoundIn.mono y2 λe w'⟨ρ',As',u',h1,h2,h3,h4,h5,h6⟩=>⟨⟨(ρ',As',u'),h1,h2,h3,h4⟩,h5,trivial,h6⟩⟩
  ·cases h
 ·cases h
theorem Qkr{b:Builtin}{args:Array Operand}{ts:Array TypeId}(ho:o.op=.call {callee:=.builtin b,args:=args,argTypes:=ts})(hs:SR ρ L L')(hH:HM ρ H As)(hf:Q2 ρ n)(h:QeB P L H n b args.toList ts.toList=some a):QaO P o L' w0 ρ H n As a:=by
 unfold QeB at h;split at h
 ·rename_i x t h1 h2;rw[QeD h1,QeD h2]at ho;split at h
  ·rename_i l hx;obtain⟨hc,rfl⟩:=Qx h;exact Qwe ho hs hx hc
  ·rename_i p k c hx;obtain⟨hc,rfl⟩:=Qx h;exact Qu4 ho hs hx hc
  ·rename_i p i q hx;obtain⟨hc,rfl⟩:=Qx h;exact Qur ho hs hx hc
  ·cases h
 ·rename_i x t h1 h2;rw[QeD h1,QeD h2]at ho;split at h
  ·rename_i k c hx;obtain⟨hc,rfl⟩:=Qx h;exact Qu2 ho hs hx hc
  ·cases h
 ·rename_i x y h1;rw[Qeo h1]at ho;split at h
  ·rename_i k p k' q hx hy;obtain⟨hc,rfl⟩:=Qx h;exact Qvp ho hs hx hy hc
  ·cases h
 ·rename_i x y h1;rw[Qeo h1]at ho;split at h
  ·rename_i k p k' q hx hy;obtain⟨hc,rfl⟩:=Qx h;exact QvA ho hs hx hy hc
  ·cases h
 ·grind[Qeo,Qlm]
 ·grind[Qeo,Qqh]
 ·grind[QeD,QoR]
 ·cases h
theorem Ql1{t:Nat}{m x:Operand}(ho:o.op=.lookup t m x false)(hs:SR ρ L L')(hH:HM ρ H As)(h:QaS P H t (opd L m) (opd L x)=some a):QaO P o L' w0 ρ H n As a:=by
 unfold QaS at h;split at h
 ·rename_i r k h1 h2;split at h
  ·rename_i kt et ks h3 h4;split at h
   ·rename_i h5 h6;injection h with h
    subst h;exact Qpj ho hs hH h1 h2 h3 h5 h6 h4
   ·cases h
  ·cases h
 ·cases h
theorem Qhq{t:Nat}{m x y:Operand}(ho:o.op=.mapUpdate t m x y)(hs:SR ρ L L')(hH:HM ρ H As)(hf:Q2 ρ n)(h:QdM P H n t (opd L m) (opd L x) (opd L y)=some a):QaO P o L' w0 ρ H n As a:=by
 unfold QdM at h;split at h
 ·rename_i r k h1 h2 h2';split at h
  ·rename_i kt et ks h3 h4;split at h
   ·rename_i h6;injection h with h
    subst h;exact QjS (.inl ho) hs hH hf h1 h2 h2' h3 h6 h4
   ·cases h
  ·cases h
 ·cases h
theorem QaR{op:Op}{r0:Rho}(hF:CallOk P r0 F)(h0:r0.le ρ)(ho:o.op=op)(hs:SR ρ L L')(hH:HM ρ H As)(hf:Q2 ρ n)(h:XL P L H n F op=some a):QaO P o L' w0 ρ H n As a:=by
 unfold XL at h;split at h
 ·exact Qfz h λv hv=>Qo2 (.inl ho) hs hv
 ·exact Qfz h λv hv=>Qo2 (.inr ho) hs hv
 ·split at h
  ·rename_i t x y h1 h2 h3;injection h with h
   subst h;exact Qv1 ho hs h1 h2 h3
  ·cases h
 ·grind[Qfz,Qw6]
 ·split at h
  ·rename_i x h1;exact Qfz h λv hv=>un_R ho hs h1 hv
  ·cases h
 ·split at h
  ·rename_i x h1;split at h
   ·rename_i v hv;injection h with h
    subst h;exact QuW ho hs h1 hv
   grind[QqP]
  ·cases h
 ·split at h
  ·rename_i vs h1;exact Qfz h λv hv=>Qoy ho hs h1 hv
  ·cases h
 ·split at h
  ·rename_i x y h1 h2;obtain⟨hc,rfl⟩:=Qx h;simp only[Bool.and_eq_true]at hc;exact Qle ho hs h1 h2 hc.1 hc.2
  ·cases h
 ·split at h
  ·rename_i m i h1;injection h with h
   subst h;exact QlP ho hs h1
  ·rename_i f x y h1;injection h with h
   subst h;exact QkC ho hs h1
  ·cases h
 ·grind[Qfz,Qob]
 ·grind[Qfz,Qn2]
 ·grind[Qfz,Qoa]
 ·grind[Qfz,QlF]
 ·grind[Qfz,Qht]
 ·grind[Qfz,Qhw]
 ·grind[Qfz,Qom]
 ·split at h
  ·rename_i v hv;injection h with h
   subst h;exact QqZ ho hs hH hv
  ·cases h
 ·exact Qoq ho hs hH hf h
 ·unfold Qvv at h;split at h
  ·rename_i z hz;obtain⟨hc,rfl⟩:=Qx h;exact QtX ho hz hc hH hf
  ·cases h
 ·unfold Qu1 at h;split at h
  ·rename_i v hv;obtain⟨hc,rfl⟩:=Qx h;exact QwQ ho hs hv hc hH hf
  ·cases h
 ·split at h
  ·rename_i e sz by' ht;injection h with h
   subst h;exact Qhv ho ht hH hf
  ·cases h
 ·exact Qf6 ho hs hH hf h
 ·exact Qhr ho hs hH hf h
 ·exact Qkr ho hs hH hf h
 ·rename_i g args ts;split at h
  ·rename_i vs hvs;split at h
   ·rename_i v hv;injection h with h
    subst h;obtain⟨us,e3,e4⟩:=Qe3 hs hvs;obtain⟨u,e5,e6⟩:=hF.e _ _ _ hv w0 ρ us As e4 o L' args ts ho e3;exact⟨u,e6,e5⟩
   ·exact QkK hF h0 ho hs hH hf (by rw[hvs];exact h)
  ·cases h
 ·grind[QkK]
 ·injection h with h
  subst h;exact QoI ho hH hf
 ·exact Ql1 ho hs hH h
 ·exact Qhq ho hs hH hf h
 ·cases h
end
end Ev
namespace Ev
open Go Go.RowKit
structure Clo(α:Type) where
 run:α
noncomputable def en(T:Tr Value):Env:=λt=>Y1 (pth t) t T
inductive An where
 | no
 | p (v:Value)
 | q (m:Option Nat) (v:Value)
 | new (v:Value) (x:HX)
 | h (v:Value) (H:Hp) (n:Nat)
abbrev VF:=Tr Value->Option Value
abbrev OpF:=CallF->Tr Value->Hp->Nat->An
def Qvj(P:Program)(op:Op)(F:CallF)(T:Tr Value)(H:Hp)(n:Nat):An->Prop
 | .no=>True
 | .p v=>XL P (en T) H n F op=some (.p v)
 | .q m v=>(∀H2,(∀k,m=some k->YC H2 k=YC H k)->XL P (en T) H2 n F op=some (.q v))/\∀k,m=some k->∃r,YC H k=some r
 | .new v x=>XL P (en T) H n F op=some (.h v (YZ H n x) (n+1))
 | .h v H' n'=>XL P (en T) H n F op=some (.h v H' n')
def Qal(P:Program)(op:Op)(f:OpF):Prop:=∀F,True->∀T H n,Qvj P op F T H n (f F T H n)
noncomputable def anP:Option Value->An:=λx=>Option.rec .no (λv=>.p v) x
theorem Qla{P:Program}{op:Op}{F:CallF}{T:Tr Value}{H:Hp}{n:Nat}{x:Option Value}(h:∀v,x=some v->XL P (en T) H n F op=some (.p v)):Qvj P op F T H n (anP x):=by
 cases x with
 | none=>trivial
 | some v=>exact h v rfl
noncomputable def fbF(P:Program)(op:Op):OpF:=λF T H n=>match XL P (en T) H n F op with
 | some (.p v)=>.p v
 | some (.h v H n)=>.h v H n
 | _=>.no
theorem Qo0(P:Program)(op:Op):Qal P op (fbF P op):=by
 intro F hF T H n;unfold fbF;split<;>first|assumption|trivial
noncomputable def QsA(l:List Value):Nat->Option Value:=List.rec (λ_=>none) (λa _ ih i=>Nat.rec (some a) (λj _=>ih j) i) l
theorem QfO:∀(l:List Value)(i:Nat),QsA l i=l[i]?
 | [],i=>by cases i<;>rfl
 | a::l,0=>rfl
 | a::l,i+1=>QfO l i
noncomputable def Qjy(l:List Value):Nat->Option (List Value):=
 List.rec (λn=>Nat.rec (some []) (λ_ _=>none) n) (λa _ ih n=>Nat.rec (some []) (λj _=>Option.rec none (λm=>some (a::m)) (ih j)) n) l
theorem Qf7:∀(l:List Value)(n:Nat){c:List Value},Qjy l n=some c->n<=l.length/\c=l.take n
 | [],0,c,h=>by cases h;exact⟨Nat.le_refl _,rfl⟩
 | [],n+1,c,h=>by cases h
 | a::l,0,c,h=>by cases h;exact⟨Nat.zero_le _,rfl⟩
 | a::l,n+1,c,h=>by
  have h':(Option.rec none (λm=>some (a::m)) (Qjy l n):Option (List Value))=some c:=h;cases hm:Qjy l n with
  | none=>rw[hm]at h';cases h'
  | some m=>
   rw[hm]at h';injection h' with h'
   obtain⟨h1,h2⟩:=Qf7 l n hm
   grind
noncomputable def QsC(l:List Value):Nat->Nat->Option (List Value):=
 List.rec (λi n=>Nat.rec (Qjy [] n) (λ_ _=>none) i) (λa t ih i n=>Nat.rec (Qjy (a::t) n) (λj _=>ih j n) i) l
theorem QfJ:∀(l:List Value)(i n:Nat){c:List Value},QsC l i n=some c->i+n<=l.length/\c=cut l i n
 | [],0,n,c,h=>by
  obtain⟨h1,h2⟩:=Qf7 [] n h;exact⟨om,h2⟩
 | [],i+1,n,c,h=>by cases h
 | a::l,0,n,c,h=>by
  obtain⟨h1,h2⟩:=Qf7 (a::l) n h;exact⟨om,h2⟩
 | a::l,i+1,n,c,h=>by
  obtain⟨h1,h2⟩:=QfJ l i n h
  grind[cut]
noncomputable def QpQ(vs:List Value):List Value->Option (List Value):=
 List.rec (λl=>some l) (λv _ ih l=>List.rec none (λ_ l' _=>Option.rec none (λm=>some (v::m)) (ih l')) l) vs
noncomputable def setO(l:List Value):Nat->List Value->Option (List Value):=
 List.rec (λi vs=>Nat.rec (QpQ vs []) (λ_ _=>none) i) (λa t ih i vs=>Nat.rec (QpQ vs (a::t)) (λj _=>Option.rec none (λm=>some (a::m)) (ih j vs)) i) l
theorem Zm(a:Value):∀(vs l:List Value)(i:Nat),Qi (a::l) (i+1) vs=a::Qi l i vs
 | [],l,i=>rfl
 | v::vs,l,i=>by simp_all[Qi,Zm]
theorem Qic:∀(vs l:List Value){m:List Value},QpQ vs l=some m->vs.length<=l.length/\m=Qi l 0 vs
 | [],l,m,h=>by cases h;exact⟨Nat.zero_le _,rfl⟩
 | v::vs,[],m,h=>by cases h
 | v::vs,a::l,m,h=>by
  have h':(Option.rec none (λm=>some (v::m)) (QpQ vs l):Option (List Value))=some m:=h;cases hm:QpQ vs l with
  | none=>rw[hm]at h';cases h'
  | some x=>
   rw[hm]at h';injection h' with h'
   obtain⟨h1,h2⟩:=Qic vs l hm
   grind[Qi,Zm]
theorem QmD:∀(l:List Value)(i:Nat)(vs:List Value){m:List Value},setO l i vs=some m->i+vs.length<=l.length/\m=Qi l i vs
 | [],0,vs,m,h=>by
  obtain⟨h1,h2⟩:=Qic vs [] h
  grind
 | [],i+1,vs,m,h=>by cases h
 | a::l,0,vs,m,h=>by
  obtain⟨h1,h2⟩:=Qic vs (a::l) h
  grind
 | a::l,i+1,vs,m,h=>by
  have h':(Option.rec none (λm=>some (a::m)) (setO l i vs):Option (List Value))=some m:=h;cases hm:setO l i vs with
  | none=>rw[hm]at h';cases h'
  | some x=>
   rw[hm]at h';injection h' with h'
   obtain⟨h1,h2⟩:=QmD l i vs hm
   grind[Zm]
def Qfw:IntKind->Nat
 | .i8=>128
 | .i16=>32768
 | .i32=>2147483648
 | .i64=>9223372036854775808
 | .u8=>256
 | .u16=>65536
 | .u32=>4294967296
 | .u64=>18446744073709551616
def fw(k:IntKind)(z:Nat):Int:=bif Nat.blt z (Qfw k)then .ofNat z else k.wrap (.ofNat z)
theorem QgD{k:IntKind}{z:Nat}(h:z<Qfw k):k.wrap (z:Int)=(z:Int):=by
 cases k<;>simp only[Qfw]at h<;>(simp only[IntKind.wrap,IntKind.signed,IntKind.bits];simp;omega)
theorem Qhy(k:IntKind)(z:Nat):fw k z=k.wrap (z:Int):=by
 unfold fw;cases hb:Nat.blt z (Qfw k)with
 | true=>exact(QgD (by simpa[Nat.blt_eq]using hb)).symm
 | false=>rfl
end Ev
namespace Ev
open Go Go.RowKit
theorem Qha{op:BinOp}{k:IntKind}{x y:Nat}(hx:x<Qfw k)(hy:y<Qfw k):bits .and k (x:Int) (y:Int)=((x &&& y:Nat):Int)/\bits .or k (x:Int) (y:Int)=k.wrap ((x ||| y:Nat):Int):=by
 have hb:Qfw k<=2^k.bits:=by cases k<;>simp[Qfw,IntKind.bits]
 have ex:(BitVec.ofInt k.bits (x:Int)).toNat=x:=Y6 _ _ om;have ey:(BitVec.ofInt k.bits (y:Int)).toNat=y:=Y6 _ _ om;constructor
 ·show k.wrap (((BitVec.ofInt k.bits (x:Int)) &&& (BitVec.ofInt k.bits (y:Int)):BitVec k.bits).toNat:Int)=_;rw[BitVec.toNat_and,ex,ey];exact QgD (Nat.lt_of_le_of_lt Nat.and_le_left hx)
 ·show k.wrap (((BitVec.ofInt k.bits (x:Int)) ||| (BitVec.ofInt k.bits (y:Int)):BitVec k.bits).toNat:Int)=_
  grind
theorem d_eq(x y:Nat):decide (Int.ofNat x=Int.ofNat y)=Nat.beq x y:=by
 rw[Bool.eq_iff_iff,decide_eq_true_eq,Nat.beq_eq];constructor
 ·intro h;injection h
 ·intro h;rw[h]
abbrev IF:=IntKind->Nat->Nat->Option Value
noncomputable def Qkc:BinOp->Option (Clo IF)
 | .add=>some ⟨λk x y=>some (.int k (fw k (Nat.add x y)))⟩
 | .sub=>some ⟨λk x y=>bif Nat.ble y x then some (.int k (fw k (Nat.sub x y)))else some (.int k (k.wrap (Int.subNatNat x y)))⟩
 | .mul=>some ⟨λk x y=>some (.int k (fw k (Nat.mul x y)))⟩
 | .eql=>some ⟨λ_ x y=>some (.bool (Nat.beq x y))⟩
 | .neq=>some ⟨λ_ x y=>some (.bool (Bool.not (Nat.beq x y)))⟩
 | .lss=>some ⟨λ_ x y=>some (.bool (Nat.blt x y))⟩
 | .leq=>some ⟨λ_ x y=>some (.bool (Nat.ble x y))⟩
 | .gtr=>some ⟨λ_ x y=>some (.bool (Nat.blt y x))⟩
 | .geq=>some ⟨λ_ x y=>some (.bool (Nat.ble y x))⟩
 | .and=>some ⟨λk x y=>bif Nat.blt x (Qfw k)&&Nat.blt y (Qfw k)then some (.int k (.ofNat (Nat.land x y)))else none⟩
 | .or=>some ⟨λk x y=>bif Nat.blt x (Qfw k)&&Nat.blt y (Qfw k)then some (.int k (fw k (Nat.lor x y)))else none⟩
 | .quo=>some ⟨λk x y=>bif Nat.beq y 0 then none else some (.int k (fw k (Nat.div x y)))⟩
 | .rem=>some ⟨λk x y=>bif Nat.beq y 0 then none else some (.int k (.ofNat (Nat.mod x y)))⟩
 | _=>none
theorem QoW{op:BinOp}{c:Clo IF}{k:IntKind}{x y:Nat}{v:Value}(P:Program)(t:TypeId)(h:Qkc op=some c)(hv:c.run k x y=some v):ZQ P op t (.int k (.ofNat x)) (.int k (.ofNat y))=some v:=by
 have hk:kEq k k=true:=by cases k<;>rfl
 unfold Qkc at h;split at h<;>first|(injection h with h;subst h)|cases h
 ·grind[ZQ,Xw,X1,Qhy]
 ·cases hb:Nat.ble y x with
  | true=>
   simp only[hb,cond_true]at hv;injection hv with hv;subst hv
   simp only[ZQ,Xw,hk,cond_true,X1];rw[Qhy];have:=Nat.le_of_ble_eq_true hb
   grind
  | false=>grind[ZQ,Xw,X1]
 ·grind[ZQ,Xw,X1,Qhy]
 ·grind[ZQ,Xw,X1,d_eq]
 ·grind[ZQ,Xw,X1,d_eq]
 ·injection hv with hv;subst hv
  simp only[ZQ,Xw,hk,cond_true,X1];congr 2;rw[Bool.eq_iff_iff];simp[Nat.blt_eq]
 ·injection hv with hv;subst hv
  simp only[ZQ,Xw,hk,cond_true,X1];congr 2;rw[Bool.eq_iff_iff];simp[Nat.ble_eq]
 ·injection hv with hv;subst hv
  simp only[ZQ,Xw,hk,cond_true,X1];congr 2;rw[Bool.eq_iff_iff];simp[Nat.blt_eq]
 ·injection hv with hv;subst hv
  simp only[ZQ,Xw,hk,cond_true,X1];congr 2;rw[Bool.eq_iff_iff];simp[Nat.ble_eq]
 ·obtain⟨hc,rfl⟩:=Qx hv;simp only[Bool.and_eq_true,Nat.blt_eq]at hc;simp only[ZQ,Xw,hk,cond_true,X1];rw[show bits .and k (Int.ofNat x) (Int.ofNat y)=_ from(Qha (op:=.and) hc.1 hc.2).1];rfl
 ·obtain⟨hc,rfl⟩:=Qx hv;simp only[Bool.and_eq_true,Nat.blt_eq]at hc;simp only[ZQ,Xw,hk,cond_true,X1];rw[show bits .or k (Int.ofNat x) (Int.ofNat y)=_ from(Qha (op:=.or) hc.1 hc.2).2,Qhy];rfl
 ·cases hb:Nat.beq y 0 with
  | true=>simp only[hb,cond_true]at hv;cases hv
  | false=>
   simp only[hb,cond_false]at hv;injection hv with hv;subst hv
   have hy:y≠0:=λe=>by subst e;cases hb
   have h0:decide ((Int.ofNat y)=0)=false:=by simpa using hy
   simp only[ZQ,Xw,hk,cond_true,X1,h0,Bool.not_false,Bool.and_true];rw[Qhy];rfl
 ·cases hb:Nat.beq y 0 with
  | true=>simp only[hb,cond_true]at hv;cases hv
  | false=>
   simp only[hb,cond_false]at hv;injection hv with hv;subst hv
   have hy:y≠0:=λe=>by subst e;cases hb
   have h0:decide ((Int.ofNat y)=0)=false:=by simpa using hy
   simp only[ZQ,Xw,hk,cond_true,X1,h0,Bool.not_false,Bool.and_true];rfl
end Ev
namespace Ev
open Go Go.RowKit
noncomputable def XV:Operand->Clo VF
 | .tmp t=>⟨Y1 (pth t) t⟩
 | .const v=>Bool.rec ⟨λ_=>none⟩ ⟨λ_=>some v⟩ (Z2 v)
 | .func f=>⟨λ_=>some (.func (.func f) #[] #[])⟩
 | _=>⟨λ_=>none⟩
theorem Xa(x:Operand)(T:Tr Value):(XV x).run T=opd (en T) x:=by
 cases x with
 | const v=>
  simp only[XV,opd];cases Z2 v<;>rfl
 | _=>rfl
noncomputable def QhQ:List Operand->Clo (Tr Value->Option (List Value))
 | []=>⟨λ_=>some []⟩
 | x::l=>⟨λT=>Option.rec none (λv=>Option.rec none (λvs=>some (v::vs)) ((QhQ l).run T)) ((XV x).run T)⟩
theorem Qgv(T:Tr Value):∀l,(QhQ l).run T=QdV (en T) l
 | []=>rfl
 | x::l=>by
  show(Option.rec none (λv=>Option.rec none (λvs=>some (v::vs)) ((QhQ l).run T)) ((XV x).run T):Option (List Value))=_;rw[Qgv T l,Xa];simp only[QdV];cases opd (en T) x<;>cases QdV (en T) l<;>rfl
def VOk(P:Program)(op:Op)(f:VF):Prop:=∀T v,f T=some v->∀F H n,XL P (en T) H n F op=some (.p v)
noncomputable def ofV(f:VF):OpF:=λ_ T _ _=>anP (f T)
theorem QaZ{P:Program}{op:Op}{f:VF}(h:VOk P op f):Qal P op (ofV f):=λF hF T H n=>Qla λv hv=>h T v hv F H n
theorem Yg{x:Option Value}{v:Value}(h:x=some v):QdZ x=some (.p v):=by rw[h];rfl
noncomputable def Qvy(P:Program)(op:BinOp)(t:TypeId)(c:Option (Clo IF))(a b:Value):Option Value:=
 Option.rec (ZQ P op t a b) (λc=>match a with
  | .int k (.ofNat x)=>match b with
   | .int k' (.ofNat y)=>bif kEq k k' then(match c.run k x y with
    | some v=>some v
    | none=>ZQ P op t a b)else none
   | b=>ZQ P op t a b
  | a=>ZQ P op t a b) c
theorem QtG{P:Program}{op:BinOp}{t:TypeId}{a b v:Value}(h:Qvy P op t (Qkc op) a b=some v):ZQ P op t a b=some v:=by
 unfold Qvy at h;cases hc:Qkc op with
 | none=>rw[hc]at h;exact h
 | some c=>
  rw[hc]at h;simp only[]at h;split at h
  ·split at h
   ·obtain⟨hk,h⟩:=QaW h
    grind[Qcx,QoW]
   ·exact h
  ·exact h
noncomputable def Qo9(P:Program)(op:BinOp)(t:TypeId)(x y:Operand):Clo VF:=
 ⟨λT=>Option.rec none (λa=>Option.rec none (λb=>Qvy P op t (Qkc op) a b) ((XV y).run T)) ((XV x).run T)⟩
theorem QiI{P:Program}{op:BinOp}{t t':TypeId}{x y:Operand}:VOk P (.binOp op t x y t') (Qo9 P op t x y).run:=by
 intro T v h F H n;unfold Qo9 at h;simp only[Xa]at h;cases hx:opd (en T) x with
 | none=>rw[hx]at h;cases h
 | some a=>
  cases hy:opd (en T) y with
  | none=>rw[hx,hy]at h;cases h
  | some b=>simp_all[XL,Yg,QtG]
noncomputable def QqE(c a b:Operand):Clo VF:=⟨λT=>match(XV c).run T with
 | some (.bool t)=>(match(XV a).run T with
  | some x=>(match(XV b).run T with
   | some y=>some (Bool.rec y x t)
   | none=>none)
  | none=>none)
 | _=>none⟩
theorem Qqu{P:Program}{c a b:Operand}:VOk P (.pick c a b) (QqE c a b).run:=by
 intro T v h F H n;unfold QqE at h;simp only[Xa]at h;unfold XL;split at h
 ·rename_i t h1;split at h
  ·rename_i x h2;split at h
   ·rename_i y h3;injection h with h
    subst h;simp only[h1,h2,h3];cases t<;>rfl
   ·cases h
  ·cases h
 ·cases h
noncomputable def QvX(x:Operand)(i:Nat):Clo VF:=⟨λT=>match(XV x).run T with
 | some (.tuple ⟨l⟩)=>QsA l i
 | _=>none⟩
theorem Qs5{P:Program}{x:Operand}{i:Nat}:VOk P (.extract x i) (QvX x i).run:=by
 intro T v h F H n;unfold QvX at h
 grind[Xa,QfO,XL,Yg]
noncomputable def Qlj(P:Program)(st:Nat)(x:Operand)(f:Nat):Clo VF:=match tfd P st f with
 | some (off,ft)=>match tsz P ft with
  | some (k,true)=>⟨λT=>match(XV x).run T with
   | some (.agg ⟨l⟩)=>(match QsC l off k with
    | some c=>some (.agg ⟨c⟩)
    | none=>none)
   | _=>none⟩
  | some (k,false)=>⟨λT=>match(XV x).run T with
   | some (.agg ⟨l⟩)=>QsA l off
   | _=>none⟩
  | none=>⟨λ_=>none⟩
 | none=>⟨λ_=>none⟩
theorem QnY{P:Program}{st f:Nat}{x:Operand}:VOk P (.field st x f) (Qlj P st x f).run:=by
 intro T v h F H n;unfold Qlj at h;unfold XL;split at h
 ·rename_i off ft h1;split at h
  ·rename_i k h2;simp only[Xa]at h;split at h
   ·rename_i l h3;split at h
    ·rename_i c h4;injection h with h
     subst h;obtain⟨_,rfl⟩:=QfJ l off k h4
     grind[Yg,QgR]
    ·cases h
   ·cases h
  ·grind[Xa,QfO,Yg,QgR]
  ·cases h
 ·cases h
noncomputable def cFA(P:Program)(st:Nat)(x:Operand)(f:Nat):Clo VF:=match tfd P st f with
 | some (off,ft)=>match tsz P ft with
  | some (k,_)=>bif Nat.blt 0 k then⟨λT=>match(XV x).run T with
   | some (.pointer (some ⟨m,i,none⟩))=>some (.pointer (some ⟨m,Nat.add i off,none⟩))
   | _=>none⟩else⟨λ_=>none⟩
  | none=>⟨λ_=>none⟩
 | none=>⟨λ_=>none⟩
theorem Qve{P:Program}{st f:Nat}{x:Operand}:VOk P (.fieldAddr st x f) (cFA P st x f).run:=by
 intro T v h F H n;unfold cFA at h;unfold XL;split at h
 ·rename_i off ft h1;split at h
  ·rename_i k ag h2;cases hk:Nat.blt 0 k with
   | false=>rw[hk]at h;cases h
   | true=>
    rw[hk]at h
    grind[Xa,Yg,QbM]
  ·cases h
 ·cases h
noncomputable def cIA(P:Program)(t:Nat)(x y:Operand):Clo VF:=match tsl P t with
 | some (_,sz,_)=>⟨λT=>match(XV x).run T with
   | some (.slice (some ⟨m,off,_⟩) l _)=>(match(XV y).run T with
    | some (.int _ (.ofNat j))=>bif Nat.blt j l then some (.pointer (some ⟨m,Nat.add off (Nat.mul j sz),none⟩))else none
    | _=>none)
   | _=>none⟩
 | none=>match tar P t with
  | some (len,_,sz)=>⟨λT=>match(XV x).run T with
   | some (.pointer (some ⟨m,off,none⟩))=>(match(XV y).run T with
    | some (.int _ (.ofNat j))=>bif Nat.blt j len then some (.pointer (some ⟨m,Nat.add off (Nat.mul j sz),none⟩))else none
    | _=>none)
   | _=>none⟩
  | none=>⟨λ_=>none⟩
theorem QuO{P:Program}{t:Nat}{x y:Operand}:VOk P (.indexAddr t x y) (cIA P t x y).run:=by
 intro T v h F H n;unfold cIA at h;unfold XL;split at h
 ·rename_i e sz by' h1;simp only[Xa]at h;split at h
  ·rename_i m off q l c h2;split at h
   ·simp_all[Qx,Yg,Qat,vN]
   ·cases h
  ·cases h
 ·split at h
  ·rename_i len e sz h1;simp only[Xa]at h;split at h
   ·rename_i m off h2;split at h
    ·simp_all[Qx,Yg,Qat,vN]
    ·cases h
   ·cases h
  ·cases h
noncomputable def Qt2(l:List UInt8):Nat->Option Nat:=List.rec (λ_=>none) (λa _ ih i=>Nat.rec (some a.toNat) (λj _=>ih j) i) l
theorem QjN:∀(l:List UInt8)(i:Nat){b:Nat},Qt2 l i=some b->i<l.length/\b=(l.getD i 0).toNat
 | [],i,b,h=>by cases i<;>cases h
 | a::l,0,b,h=>by cases h;exact⟨Nat.succ_pos _,rfl⟩
 | a::l,i+1,b,h=>by
  obtain⟨h1,h2⟩:=QjN l i h
  grind
noncomputable def Qu7(P:Program)(t:Nat)(x y:Operand):Clo VF:=bif Xs P t then⟨λT=>match(XV x).run T with
   | some (.string ⟨⟨l⟩⟩)=>(match(XV y).run T with
    | some (.int _ (.ofNat j))=>(match Qt2 l j with
     | some b=>some (.int .u8 (.ofNat b))
     | none=>none)
    | _=>none)
   | _=>none⟩else⟨λT=>QgS P t ((XV x).run T) (vN ((XV y).run T))⟩
theorem Qs6{P:Program}{t:Nat}{x y:Operand}:VOk P (.index t x y) (Qu7 P t x y).run:=by
 intro T v h F H n;unfold Qu7 at h;unfold XL;cases ht:Xs P t with
 | false=>simp_all[Xa,Yg]
 | true=>
  rw[ht]at h;simp only[cond_true,Xa]at h;split at h
  ·rename_i l h1;split at h
   ·rename_i k j h2;split at h
    ·rename_i b h3;injection h with h
     subst h;obtain⟨h4,rfl⟩:=QjN l j h3;refine Yg ?_;simp only[QgS,h1,h2,vN,ht,Bool.true_and];rw[show Nat.blt j l.length=true by simpa[Nat.blt_eq]using h4];rfl
    ·cases h
   ·cases h
  ·cases h
noncomputable def QvL(P:Program)(t:Nat)(x:Operand):Clo VF:=bif Xs P t then⟨λT=>match(XV x).run T with
   | some (.string ⟨⟨l⟩⟩)=>some (.int .i64 (.ofNat l.length))
   | _=>none⟩else bif Xx P t then⟨λT=>match(XV x).run T with
   | some (.slice _ k _)=>some (.int .i64 (.ofNat k))
   | some (.pointer (some ⟨_,_,some _⟩))=>some (.int .i64 0)
   | _=>none⟩else⟨λ_=>none⟩
theorem Qtr{P:Program}{t:Nat}{x:Operand}:VOk P (.call ⟨.builtin .len,#[x],#[t]⟩) (QvL P t x).run:=by
 intro T v h F H n;unfold QvL at h;unfold XL QeB;cases ht:Xs P t with
 | true=>
  rw[ht]at h
  grind[Xa]
 | false=>
  rw[ht]at h;simp only[cond_false]at h;cases hs:Xx P t with
  | false=>rw[hs]at h;cases h
  | true=>
   rw[hs]at h
   grind[Xa]
end Ev
namespace Ev
open Go Go.RowKit
noncomputable def Qph(l:List UInt8):List UInt8->Bool:=
 List.rec (λm=>List.rec true (λ_ _ _=>false) m) (λa _ ih m=>List.rec false (λb m' _=>Bool.rec false (ih m') (Nat.beq a.toNat b.toNat)) m) l
theorem QfT:∀(l m:List UInt8),Qph l m=decide (l=m)
 | [],[]=>rfl
 | [],b::m=>rfl
 | a::l,[]=>rfl
 | a::l,b::m=>by
  show(Bool.rec false (Qph l m) (Nat.beq a.toNat b.toNat):Bool)=_;rw[QfT l m];cases hb:Nat.beq a.toNat b.toNat with
  | true=>
   have:a=b:=UInt8.toNat_inj.1 (Nat.eq_of_beq_eq_true hb);subst this;simp
  | false=>
   have:a≠b:=λe=>by subst e;rw[Nat.beq_refl]at hb;cases hb
   simp[this]
noncomputable def Qsj(P:Program)(op:BinOp)(t:TypeId)(x y:Operand):Clo VF:=match op with
 | .eql=>⟨λT=>match(XV x).run T with
  | some (.string ⟨⟨l⟩⟩)=>(match(XV y).run T with
   | some (.string ⟨⟨m⟩⟩)=>some (.bool (Qph l m))
   | _=>none)
  | _=>(Qo9 P .eql t x y).run T⟩
 | .neq=>⟨λT=>match(XV x).run T with
  | some (.string ⟨⟨l⟩⟩)=>(match(XV y).run T with
   | some (.string ⟨⟨m⟩⟩)=>some (.bool (Bool.not (Qph l m)))
   | _=>none)
  | _=>(Qo9 P .neq t x y).run T⟩
 | op=>Qo9 P op t x y
theorem QqQ{P:Program}{op:BinOp}{t t':TypeId}{x y:Operand}:VOk P (.binOp op t x y t') (Qsj P op t x y).run:=by
 intro T v h F H n;unfold Qsj at h;split at h
 ·simp only[Xa]at h;split at h
  ·grind[XL,Yg,ZQ,Xw,QeJ,QfT]
  ·exact QiI T v h F H n
 ·simp only[Xa]at h;split at h
  ·grind[XL,Yg,ZQ,Xw,QeJ,QfT]
  ·exact QiI T v h F H n
 ·exact QiI T v h F H n
noncomputable def Quc(l:List UInt8):List Value:=List.rec [] (λb _ ih=>.int .u8 (.ofNat b.toNat)::ih) l
theorem QjX:∀l:List UInt8,Quc l=l.map λb=>.int .u8 (b.toNat:Int)
 | []=>rfl
 | b::l=>congrArg _ (QjX l)
noncomputable def byS(v:Value)(ih:Option (List UInt8)):Option (List UInt8):=match v with
 | .int .u8 (.ofNat z)=>(match ih with
  | some r=>some (UInt8.ofNat z::r)
  | none=>none)
 | _=>none
noncomputable def byO(l:List Value):Option (List UInt8):=List.rec (some []) (λv _ ih=>byS v ih) l
theorem Qp3:∀(l:List Value){r:List UInt8},byO l=some r->l.all QiS=true/\Xz l=true/\l.map Qb8=r
 | [],r,h=>by cases h;exact⟨rfl,rfl,rfl⟩
 | v::l,r,h=>by
  have h':byS v (byO l)=some r:=h;unfold byS at h';split at h'
  ·rename_i z;split at h'
   ·rename_i r' hr;injection h' with h'
    subst h';obtain⟨h1,h2,h3⟩:=Qp3 l hr;refine⟨?_,?_,?_⟩
    ·simpa[QiS]using h1
    ·grind[Xz,Z2]
    ·simp only[List.map_cons,h3];rfl
   ·cases h'
  ·cases h'
noncomputable def Qq8(P:Program)(src dst:TypeId)(x:Operand):Clo OpF:=match tki P src,tki P dst with
 | some k1,some k2=>⟨λ_ T _ _=>match(XV x).run T with
  | some (.int k0 (.ofNat z))=>bif kEq k0 k1 then .p (.int k2 (fw k2 z))else .no
  | some v=>anP (Qcc P src dst v)
  | none=>.no⟩
 | _,_=>match Xs P src,P.underlying dst,P.underlying src with
  | true,some (.slice e),_=>bif Qcb P e&&Nat.beq e u8T then⟨λ_ T H n=>match(XV x).run T with
   | some (.string ⟨⟨l⟩⟩)=>bif Nat.ble l.length maxLen then .new (.slice (some ⟨n,0,none⟩) l.length l.length) (.row ⟨e,1,Quc l⟩)else .no
   | _=>.no⟩else⟨λ_ _ _ _=>.no⟩
  | false,_,some (.slice e)=>bif Xs P dst&&Qcb P e then⟨λ_ T H n=>match(XV x).run T with
   | some (.slice (some ⟨p,i,_⟩) k c)=>(match YK H p with
    | some r=>(match QsC r.cs i k with
     | some cs=>(match byO cs with
      | some l=>.q (some p) (.string (bs l))
      | none=>.no)
     | none=>.no)
    | none=>.no)
   | some (.slice none k c)=>bif Nat.beq k 0 then .q none (.string (bs []))else .no
   | some (.pointer (some ⟨_,_,some _⟩))=>.q none (.string (bs []))
   | _=>.no⟩else(bif Nat.beq src dst then⟨fbF P (.convert src dst x)⟩else⟨λ_ _ _ _=>.no⟩)
  | _,_,_=>⟨λ_ T _ _=>match(XV x).run T with
   | some v=>anP (Qcc P src dst v)
   | none=>.no⟩
theorem QgW{P:Program}{src dst:TypeId}{x:Operand}{F:CallF}{T:Tr Value}{H:Hp}{n:Nat}{a v:Value}(h1:opd (en T) x=some a)(h:Qcc P src dst a=some v):XL P (en T) H n F (.convert src dst x)=some (.p v):=by
 simp only[XL,h1,h]
theorem Qrj{P:Program}{src dst:TypeId}{x:Operand}:Qal P (.convert src dst x) (Qq8 P src dst x).run:=by
 intro F hF T H n;unfold Qq8;split
 ·rename_i k1 k2 h1 h2;simp only[Xa];split
  ·rename_i k0 z h3;cases hk:kEq k0 k1 with
   | false=>exact trivial
   | true=>
    refine QgW h3 ?_
    grind[Qcc,Qhy]
  ·grind[Qla,QgW]
  ·exact trivial
 ·rename_i hno;split
  ·rename_i e hs hd;cases hc:Qcb P e&&Nat.beq e u8T with
   | false=>exact trivial
   | true=>
    simp only[cond_true,Xa];split
    ·rename_i l h3;cases hl:Nat.ble l.length maxLen with
     | false=>exact trivial
     | true=>
      simp only[cond_true];show XL _ _ _ _ _ _=_;have hns:Xs P dst=false:=by simp[Xs,hd]
      have hcv:Qcc P src dst (.string ⟨⟨l⟩⟩)=none:=by simp[Qcc,hns]
      simp only[Bool.and_eq_true]at hc;simp only[XL,h3,hcv,Qgh,hd,hs,hc.1,hc.2,hl,Bool.and_self,cond_true,QjX];rfl
    ·exact trivial
  ·rename_i e hs hu;cases hc:Xs P dst&&Qcb P e with
   | false=>
    cases hd:Nat.beq src dst with
    | false=>exact trivial
    | true=>exact Qo0 P _ F hF T H n
   | true=>
    simp only[Bool.and_eq_true]at hc;simp only[cond_true,Xa];split
    ·rename_i p i q k c h3;split
     ·rename_i r hr;split
      ·rename_i cs h4;split
       ·rename_i l h5;obtain⟨g1,rfl⟩:=QfJ _ _ _ h4;obtain⟨g2,g3,g4⟩:=Qp3 _ h5;refine⟨λH2 h6=>?_,λk9 h9=>by injection h9 with h9;subst h9;exact⟨_,QdO hr⟩⟩;have hr2:YK H2 p=some r:=by unfold YK;rw[h6 p rfl,QdO hr]
        have hble:Nat.ble (i+k) r.cs.length=true:=Nat.ble_eq_true_of_le g1
        grind[XL,Qcc,Qgh]
       ·exact trivial
      ·exact trivial
     ·exact trivial
    ·rename_i k c h3;cases hk:Nat.beq k 0 with
     | false=>exact trivial
     | true=>
      refine⟨λH2 _=>?_,λk9 h9=>by cases h9⟩
      grind[XL,Qcc,Qgh]
    ·rename_i p i q h3;refine⟨λH2 _=>?_,λk9 h9=>by cases h9⟩
     grind[XL,Qcc,Qgh]
    ·exact trivial
  ·simp only[Xa];split
   ·grind[Qla,QgW]
   ·exact trivial
noncomputable def Qrr(P:Program)(t x:Nat):Clo OpF:=match tsz P t with
 | some (sz,true)=>⟨λ_ T H _=>match Y1 (pth x) x T with
  | some (.pointer (some ⟨m,i,none⟩))=>(match YK H m with
   | some r=>(match QsC r.cs i sz with
    | some c=>.q (some m) (.agg ⟨c⟩)
    | none=>.no)
   | none=>.no)
  | _=>.no⟩
 | some (sz,false)=>bif Nat.beq sz 1 then⟨λ_ T H _=>match Y1 (pth x) x T with
  | some (.pointer (some ⟨m,i,none⟩))=>(match YK H m with
   | some r=>(match QsA r.cs i with
    | some c=>.q (some m) c
    | none=>.no)
   | none=>.no)
  | _=>.no⟩else⟨λ_ _ _ _=>.no⟩
 | none=>⟨λ_ _ _ _=>.no⟩
theorem Qqi{P:Program}{t x:Nat}:Qal P (.load t (.tmp x)) (Qrr P t x).run:=by
 intro F hF T H n;unfold Qrr;split
 ·rename_i sz h1;simp only[];split
  ·rename_i m i h2;split
   ·rename_i r hr;split
    ·rename_i c h3;obtain⟨g1,rfl⟩:=QfJ _ _ _ h3;refine⟨λH2 h6=>?_,λk9 h9=>by injection h9 with h9;subst h9;exact⟨_,QdO hr⟩⟩;have hr2:YK H2 m=some r:=by unfold YK;rw[h6 m rfl,QdO hr]
     have hble:Nat.ble (i+sz) r.cs.length=true:=Nat.ble_eq_true_of_le g1
     grind[XL,Qgz,en]
    ·exact trivial
   ·exact trivial
  ·exact trivial
 ·rename_i sz h1;cases hs:Nat.beq sz 1 with
  | false=>exact trivial
  | true=>
   simp only[cond_true];split
   ·rename_i m i h2;split
    ·rename_i r hr;split
     ·rename_i c h3;rw[QfO]at h3;refine⟨λH2 h6=>?_,λk9 h9=>by injection h9 with h9;subst h9;exact⟨_,QdO hr⟩⟩
      grind[YK,QdO,XL,Qgz,en]
     ·exact trivial
    ·exact trivial
   ·exact trivial
 ·exact trivial
noncomputable def QlN(P:Program)(t x:Nat)(y:Operand):Clo OpF:=match tsz P t with
 | some (sz,_)=>⟨λ_ T H n=>match Y1 (pth x) x T with
  | some (.pointer (some ⟨m,i,none⟩))=>(match(XV y).run T with
   | some v=>(match YK H m with
    | some ⟨ty,s,cs⟩=>bif ZZ v&&Nat.beq v.cells.toList.length sz then(match setO cs i v.cells.toList with
     | some c=>.h undef (Yv H m ⟨ty,s,c⟩) n
     | none=>.no)else .no
    | none=>.no)
   | none=>.no)
  | _=>.no⟩
 | none=>⟨λ_ _ _ _=>.no⟩
theorem Qoc{P:Program}{t x:Nat}{y:Operand}:Qal P (.store t (.tmp x) y) (QlN P t x y).run:=by
 intro F hF T H n;unfold QlN;split
 ·rename_i sz ag h1;simp only[Xa];split
  ·rename_i m i h2;split
   ·rename_i v h3;split
    ·rename_i ty s cs hr;cases hc:ZZ v&&Nat.beq v.cells.toList.length sz with
     | false=>exact trivial
     | true=>
      simp only[cond_true];split
      ·rename_i c h4;obtain⟨g1,rfl⟩:=QmD _ _ _ h4;simp only[Bool.and_eq_true]at hc;have hl:=Nat.eq_of_beq_eq_true hc.2;have hble:Nat.ble (i+sz) cs.length=true:=Nat.ble_eq_true_of_le (by rw[<-hl];exact g1);show XL _ _ _ _ _ _=_
       grind[XL,Qii,en]
      ·exact trivial
    ·exact trivial
   ·exact trivial
  ·exact trivial
 ·exact trivial
noncomputable def Qlo(P:Program)(t:Nat):Clo OpF:=match QS P t with
 | some z=>bif Xz z then⟨λ_ _ _ n=>.new (.pointer (some ⟨n,0,none⟩)) (.row ⟨t,0,z⟩)⟩else⟨λ_ _ _ _=>.no⟩
 | none=>⟨λ_ _ _ _=>.no⟩
theorem QoT{P:Program}{t:Nat}:Qal P (.alloc t) (Qlo P t).run:=by
 intro F hF T H n;unfold Qlo;split
 ·rename_i z h1;cases hf:Xz z with
  | false=>exact trivial
  | true=>
   show XL _ _ _ _ _ _=_;simp only[XL,Qvv,h1,hf,cond_true];rfl
 ·exact trivial
noncomputable def Qwp(t:Nat)(x:Operand):Clo OpF:=⟨λ_ T _ n=>match(XV x).run T with
 | some v=>bif ZZ v then .new (.pointer (some ⟨n,0,none⟩)) (.row ⟨t,0,v.cells.toList⟩)else .no
 | none=>.no⟩
theorem QtI{P:Program}{t:Nat}{x:Operand}:Qal P (.box t x) (Qwp t x).run:=by
 intro F hF T H n;unfold Qwp;simp only[Xa];split
 ·rename_i v h1;cases hf:ZZ v with
  | false=>exact trivial
  | true=>
   show XL _ _ _ _ _ _=_;simp only[XL,Qu1,h1,hf,cond_true];rfl
 ·exact trivial
noncomputable def cBS(P:Program)(t len:Nat)(parts:List (Nat×Operand)):Clo OpF:=match tsl P t with
 | some (e,sz,_)=>match QS P e with
  | some z=>bif Xz z&&(Nat.ble (len*sz) 16777216&&(Nat.blt 0 (len*sz)&&Xz (Qo3 z (len*sz))))then⟨λ_ T _ n=>match Qem (en T) parts with
   | some vs=>(match ZH (λi=>some (i*sz,sz)) (Qo3 z (len*sz)) vs with
    | some cs=>.new (.slice (some ⟨n,0,none⟩) len len) (.row ⟨e,sz,cs⟩)
    | none=>.no)
   | none=>.no⟩else⟨λ_ _ _ _=>.no⟩
  | none=>⟨λ_ _ _ _=>.no⟩
 | none=>⟨λ_ _ _ _=>.no⟩
theorem Qu9{P:Program}{t len:Nat}{parts:List (Nat×Operand)}(hne:¬(len=0/\parts=[])):Qal P (.buildSlice t len ⟨parts⟩) (cBS P t len parts).run:=by
 intro F hF T H n;unfold cBS;split
 ·rename_i e sz by' h1;split
  ·rename_i z h2;cases hc:Xz z&&(Nat.ble (len*sz) 16777216&&(Nat.blt 0 (len*sz)&&Xz (Qo3 z (len*sz))))with
   | false=>exact trivial
   | true=>
    simp only[cond_true];split
    ·rename_i vs h3;split
     ·rename_i cs h4;show XL _ _ _ _ _ _=_
      have hb:ZB P (en T) H n t len parts=some (.h (.slice (some ⟨n,0,none⟩) len len) (YZ H n (.row ⟨e,sz,cs⟩)) (n+1)):=by
       simp only[ZB,h3,h1,h2,h4,hc,cond_true];rfl
      grind[XL]
     ·exact trivial
    ·exact trivial
  ·exact trivial
 ·exact trivial
noncomputable def QuM(P:Program)(t:Nat):Clo OpF:=match tsl P t with
 | some (e,sz,_)=>⟨λ_ _ _ n=>.new (.slice (some ⟨n,0,none⟩) 0 0) (.row ⟨e,sz,[]⟩)⟩
 | none=>⟨λ_ _ _ _=>.no⟩
theorem QtZ{P:Program}{t:Nat}:Qal P (.buildSlice t 0 ⟨[]⟩) (QuM P t).run:=by
 intro F hF T H n;unfold QuM;split
 ·rename_i e sz by' h1;show XL _ _ _ _ _ _=_;simp only[XL,h1];rfl
 ·exact trivial
noncomputable def cMS(P:Program)(t:Nat)(x y:Operand):Clo OpF:=match tsl P t with
 | some (e,sz,by')=>match QS P e with
  | some z=>⟨λ_ T _ n=>match(XV x).run T with
   | some (.int .i64 (.ofNat k))=>(match(XV y).run T with
    | some (.int .i64 (.ofNat k'))=>bif Nat.ble k k'&&(Nat.ble (k'*by') 281474976710656&&(Nat.ble k' 16777216&&Xz (XJ z (k'*sz))))then .new (.slice (some ⟨n,0,none⟩) k k') (.row ⟨e,sz,XJ z (k'*sz)⟩)else .no
    | _=>.no)
   | _=>.no⟩
  | none=>⟨λ_ _ _ _=>.no⟩
 | none=>⟨λ_ _ _ _=>.no⟩
theorem QvK{P:Program}{t:Nat}{x y:Operand}:Qal P (.makeSlice t x y) (cMS P t x y).run:=by
 intro F hF T H n;unfold cMS;split
 ·rename_i e sz by' h1;split
  ·rename_i z h2;simp only[Xa];split
   ·rename_i k h3;split
    ·rename_i k' h4;cases hc:Nat.ble k k'&&(Nat.ble (k'*by') 281474976710656&&(Nat.ble k' 16777216&&Xz (XJ z (k'*sz))))with
     | false=>exact trivial
     | true=>
      show XL _ _ _ _ _ _=_;simp only[XL,QbA,h3,h4,h1,h2,hc,cond_true];rfl
    ·exact trivial
   ·exact trivial
  ·exact trivial
 ·exact trivial
noncomputable def Qnp(F:CallF)(g:FuncId)(vs:List Value)(H:Hp)(n:Nat):An:=match F.f F.y g vs H n with
 | some (v,H',n')=>.h v H' n'
 | none=>.no
noncomputable def QlX(P:Program)(g:Nat)(args:List Operand):Clo OpF:=⟨λF T H n=>match(QhQ args).run T with
 | some vs=>(match F.e g vs with
  | some v=>.q none v
  | none=>bif QK P g then Qnp F g vs H n else .no)
 | none=>.no⟩
theorem QjZ{P:Program}{op:Op}{F:CallF}{T:Tr Value}{H:Hp}{n:Nat}{g:FuncId}{vs:List Value}(h:∀v H' n',F.f F.y g vs H n=some (v,H',n')->XL P (en T) H n F op=some (.h v H' n')):Qvj P op F T H n (Qnp F g vs H n):=by
 unfold Qnp;split
 ·rename_i v H' n' hr;exact h _ _ _ hr
 ·exact trivial
theorem Qn4{P:Program}{g:Nat}{args:List Operand}{ts:Array TypeId}:Qal P (.call ⟨.value (.func g),⟨args⟩,ts⟩) (QlX P g args).run:=by
 intro F hF T H n;unfold QlX;simp only[Qgv];split
 ·rename_i vs h1;split
  ·rename_i v h2;exact⟨λH2 _=>by simp only[XL,h1,h2],λk h9=>by cases h9⟩
  ·rename_i h2;cases hc:QK P g with
   | false=>exact trivial
   | true=>grind[QjZ,XL,Qfm]
 ·exact trivial
noncomputable def Qlg(P:Program)(f:Operand)(args:List Operand):Clo OpF:=⟨λF T H n=>match(XV f).run T with
 | some (.func (.func g) ⟨a⟩ ⟨b⟩)=>(match(QhQ args).run T with
  | some vs=>bif QK P g then Qnp F g (a++vs++b) H n else .no
  | none=>.no)
 | some (.func (.yield k) ⟨[]⟩ ⟨[]⟩)=>(match(QhQ args).run T with
  | some vs=>(match F.y k vs H n with
   | some (v,H',n')=>.h v H' n'
   | none=>.no)
  | none=>.no)
 | _=>.no⟩
theorem QoG{P:Program}{f:Operand}{args:List Operand}{ts:Array TypeId}(hf:∀g,f≠ .func g):Qal P (.call ⟨.value f,⟨args⟩,ts⟩) (Qlg P f args).run:=by
 intro F hF T H n;unfold Qlg;simp only[Xa,Qgv];split
 ·rename_i g a b h1;split
  ·rename_i vs h2;cases hc:QK P g with
   | false=>exact trivial
   | true=>simp_all[QjZ,Qfm,opd,en,QdV,XL]
  ·exact trivial
 ·rename_i k h1;split
  ·rename_i vs h2;split
   ·rename_i v H' n' hr;have hb:Qfm P H n F (opd (en T) f) (QdV (en T) args)=some (.h v H' n'):=by grind[Qfm]
    show XL _ _ _ _ _ _=_
    simp_all[XL]
   ·exact trivial
  ·exact trivial
 ·exact trivial
noncomputable def Qp7(P:Program)(t:Nat)(m x:Operand):Clo OpF:=⟨λ_ T H _=>match(XV m).run T with
 | some (.map (some r))=>(match QaS P H t (some (.map (some r))) ((XV x).run T)with
  | some (.q v)=>.q (some r) v
  | _=>.no)
 | _=>.no⟩
theorem Qps{P:Program}{t:Nat}{m x:Operand}:Qal P (.lookup t m x false) (Qp7 P t m x).run:=by
 intro F hF T H n;unfold Qp7;simp only[Xa];split
 ·rename_i r h1;split
  ·rename_i v h2
   have hm:∃ks,QgH H r=some ks:=by
    unfold QaS at h2
    grind
   obtain⟨ks,hks⟩:=hm;refine⟨λH2 h6=>?_,λk h9=>by injection h9 with h9;subst h9;exact⟨_,Qr5 hks⟩⟩;have hr2:QgH H2 r=QgH H r:=by unfold QgH;rw[h6 r rfl]
   have:QaS P H2 t (some (.map (some r))) (opd (en T) x)=QaS P H t (some (.map (some r))) (opd (en T) x):=by
    unfold QaS
    grind
   grind[XL]
  ·exact trivial
 ·exact trivial
noncomputable def Qt8:Clo OpF:=⟨λ_ _ _ n=>.new (.map (some n)) (.mp [])⟩
theorem Qpx{P:Program}{t:Nat}:Qal P (.makeMap t none) Qt8.run:=by
 intro F hF T H n;show XL _ _ _ _ _ _=_;simp only[XL]
noncomputable def ZS(P:Program):Op->Clo OpF
 | .move x=>⟨ofV (XV x).run⟩
 | .assign x=>⟨ofV (XV x).run⟩
 | .pick c a b=>⟨ofV (QqE c a b).run⟩
 | .binOp op t x y _=>⟨ofV (Qsj P op t x y).run⟩
 | .convert src dst x=>Qq8 P src dst x
 | .extract x i=>⟨ofV (QvX x i).run⟩
 | .field st x f=>⟨ofV (Qlj P st x f).run⟩
 | .fieldAddr st x f=>⟨ofV (cFA P st x f).run⟩
 | .index t x y=>⟨ofV (Qu7 P t x y).run⟩
 | .indexAddr t x y=>⟨ofV (cIA P t x y).run⟩
 | .load t (.tmp x)=>Qrr P t x
 | .store t (.tmp x) y=>QlN P t x y
 | .alloc t=>Qlo P t
 | .box t x=>Qwp t x
 | .buildSlice t 0 ⟨[]⟩=>QuM P t
 | .buildSlice t len ⟨parts⟩=>cBS P t len parts
 | .makeSlice t x y=>cMS P t x y
 | .call ⟨.builtin .len,⟨[x]⟩,⟨[t]⟩⟩=>⟨ofV (QvL P t x).run⟩
 | .call ⟨.value (.func g),⟨args⟩,_⟩=>QlX P g args
 | .call ⟨.value f,⟨args⟩,_⟩=>Qlg P f args
 | .makeMap t none=>Qt8
 | .lookup t m x false=>Qp7 P t m x
 | op=>⟨fbF P op⟩
theorem Qkk{P:Program}{x:Operand}:VOk P (.move x) (XV x).run/\VOk P (.assign x) (XV x).run:=by
 constructor<;>(intro T v h F H n;rw[Xa]at h;simp only[XL,h];rfl)
theorem QcU(P:Program)(op:Op):Qal P op (ZS P op).run:=by
 unfold ZS;split
 ·exact QaZ Qkk.1
 ·exact QaZ Qkk.2
 ·exact QaZ Qqu
 ·exact QaZ QqQ
 ·exact Qrj
 ·exact QaZ Qs5
 ·exact QaZ QnY
 ·exact QaZ Qve
 ·exact QaZ Qs6
 ·exact QaZ QuO
 ·exact Qqi
 ·exact Qoc
 ·exact QoT
 ·exact QtI
 ·exact QtZ
 ·grind[Qu9]
 ·exact QvK
 ·exact QaZ Qtr
 ·exact Qn4
 ·grind[QoG]
 ·exact Qpx
 ·exact Qps
 ·exact Qo0 P _
end Ev
namespace Ev
open Go Go.RowKit
inductive Rs where
 | bad
 | nm (T:Tr Value) (H:Hp) (n:Nat)
 | ex (i:Nat) (T:Tr Value) (H:Hp) (n:Nat)
 | rt (T:Tr Value) (H:Hp) (n:Nat)
abbrev SF:=CallF->Tr Value->Hp->Nat->Rs
abbrev CS:=Clo SF
noncomputable def noC:CS:=⟨λ_ _ _ _=>.bad⟩
noncomputable def cOn(P:Program)(nt:Nat)(o:Oper)(rest:CS):CS:=match o.dst with
 | some d=>bif Nat.blt d nt then⟨λF T H n=>match(ZS P o.op).run F T H n with
  | .no=>.bad
  | .p v=>rest.run F (YD (pth d) d v T) H n
  | .q _ v=>rest.run F (YD (pth d) d v T) H n
  | .new v x=>rest.run F (YD (pth d) d v T) (YZ H n x) (Nat.succ n)
  | .h v H' n'=>rest.run F (YD (pth d) d v T) H' n'⟩else noC
 | none=>⟨λF T H n=>match(ZS P o.op).run F T H n with
  | .no=>.bad
  | .p v=>rest.run F T H n
  | .q _ v=>rest.run F T H n
  | .new v x=>rest.run F T (YZ H n x) (Nat.succ n)
  | .h v H' n'=>rest.run F T H' n'⟩
noncomputable def Qtj(nt:Nat)(dst:Option Nat)(rest:CS):CS:=match dst with
 | some d=>bif Nat.blt d nt then⟨λF T H n=>rest.run F (YD (pth d) d undef T) H n⟩else noC
 | none=>rest
noncomputable def QbX(P:Program)(nt:Nat)(all:Array Oper):List Oper->CS
 | []=>⟨λ_ T H n=>.nm T H n⟩
 | o::l=>match o.guard with
  | none=>cOn P nt o (QbX P nt all l)
  | some (j,want)=>match(all[j]?).bind (·.dst)with
   | some dj=>⟨λF T H n=>match Y1 (pth dj) dj T with
    | some (.bool b)=>Bool.rec ((Qtj nt o.dst (QbX P nt all l)).run F T H n) ((cOn P nt o (QbX P nt all l)).run F T H n) (b==want)
    | some (.tuple ⟨[]⟩)=>(match o.dst with
     | some _=>(Qtj nt o.dst (QbX P nt all l)).run F T H n
     | none=>.bad)
    | _=>.bad⟩
   | none=>noC
structure St where
 T:Tr Value
 H:Hp
 n:Nat
structure StOk(r0:Rho)(w0:World)(ρ:Rho)(st:St)(L':Qc)(As:List HA):Prop where
 le:r0.le ρ
 sr:SR ρ (en st.T) L'
 hp:HM ρ st.H As
 fr:Q2 ρ st.n
theorem QrI{T:Tr Value}{d:Nat}{v:Value}:∀t x,en (YD (pth d) d v T) t=some x->(t=d/\x=v)\/(t≠d/\en T t=some x):=by grind[en,Zz,Zk]
theorem SR.set{ρ:Rho}{T:Tr Value}{L':Qc}{d:Nat}{v u:Value}(e:SR ρ (en T) L')(hu:den ρ v=some u):SR ρ (en (YD (pth d) d v T)) ((d,u)::L'):=e.put hu QrI
def QiP(r0:Rho)(w0:World)(ρ:Rho)(st:St)(K:Qc->(World->Prop)->Prop):Prop:=
 ∀ρ' L2 As2,ρ.le ρ'->StOk r0 w0 ρ' st L2 As2->K L2 (HS w0 [] As2)
theorem QiP.mono{r0:Rho}{w0:World}{ρ ρ':Rho}{st:St}{K:Qc->(World->Prop)->Prop}(h:ρ.le ρ')(ht:QiP r0 w0 ρ st K):QiP r0 w0 ρ' st K:=λρ2 L2 As2 h2 hs=>ht ρ2 L2 As2 (Rho.le_trans h h2) hs
def Xi(r0:Rho)(w0:World)(ρ:Rho)(X:Ctx)(k:List KI):Rs->Prop
 | .bad=>False
 | .nm T H n=>QiP r0 w0 ρ ⟨T,H,n⟩ (S X k)
 | .ex i T H n=>QiP r0 w0 ρ ⟨T,H,n⟩ (SE X (.exit i) k)
 | .rt T H n=>QiP r0 w0 ρ ⟨T,H,n⟩ (SE X .ret k)
theorem Xi.mono{r0:Rho}{w0:World}{ρ ρ':Rho}{X:Ctx}{k:List KI}(h:ρ.le ρ'):∀{r:Rs},Xi r0 w0 ρ X k r->Xi r0 w0 ρ' X k r
 | .bad,ht=>ht.elim
 | .nm _ _ _,ht=>QiP.mono h ht
 | .ex _ _ _ _,ht=>QiP.mono h ht
 | .rt _ _ _,ht=>QiP.mono h ht
theorem CallOk.fok{P:Program}{r0:Rho}{F:CallF}(h:CallOk P r0 F):True:=trivial
section
variable{P:Program}{r0:Rho}{w0:World}{F:CallF}{X:Ctx}{k:List KI}{all:Array Oper}
def QvP(w0:World)(ρ:Rho)(H:Hp)(n:Nat):Ans->Value->(World->Prop)->Prop
 | .p v=>Out w0 ρ v H n
 | .q v=>Out w0 ρ v H n
 | .h v H n=>Out w0 ρ v H n
theorem Qws{o:Oper}{L':Qc}{ρ:Rho}{st:St}{As:List HA}{a:Ans}(h:QaO P o L' w0 ρ st.H st.n As a)(hp:HM ρ st.H As)(hf:Q2 ρ st.n):OpT P o L' (HS w0 [] As) (QvP w0 ρ st.H st.n a):=by
 cases a with
 | p v=>obtain⟨u,h1,h2⟩:=h;exact OpT.of_p h1 h2 hp hf
 | q v=>obtain⟨u,h1,h2⟩:=h;exact OpT.of_q h1 h2 hp hf
 | h v H n=>exact h
theorem Qro(hF:CallOk P r0 F)(hP:X.P=P){dst:Option Nat}{op:Op}{ty:TypeId}{pos:String}{aft:Array Edge}{gd:Option (Nat×Bool)}{rest:CS}{l:List Oper}{T:Tr Value}{H:Hp}{n:Nat}{ρ:Rho}{L':Qc}{As:List HA}
  (ih:∀T H n ρ L' As,Xi r0 w0 ρ X k (rest.run F T H n)->StOk r0 w0 ρ ⟨T,H,n⟩ L' As->O X all l k L' (HS w0 [] As))(ht:Xi r0 w0 ρ X k ((cOn P X.n ⟨dst,op,ty,pos,aft,gd⟩ rest).run F T H n))(hs:StOk r0 w0 ρ ⟨T,H,n⟩ L' As) :
  O X all (⟨dst,op,ty,pos,aft,none⟩::l) k L' (HS w0 [] As):=by
 have key:∀a v(H':Hp)(n':Nat),XL P (en T) H n F op=some a->QvP w0 ρ H n a=Out w0 ρ v H' n'->(match dst with
   | some d=>Nat.blt d X.n=true/\Xi r0 w0 ρ X k (rest.run F (YD (pth d) d v T) H' n')
   | none=>Xi r0 w0 ρ X k (rest.run F T H' n'))->O X all (⟨dst,op,ty,pos,aft,none⟩::l) k L' (HS w0 [] As):=by
  intro a v H' n' h1 h2 h3;have ha:=QaR (w0:=w0) (L':=L') (o:=⟨dst,op,ty,pos,aft,none⟩) hF hs.le rfl hs.sr hs.hp hs.fr h1;have hT:OpT P _ L' _ (QvP w0 ρ H n a):=Qws (st:=⟨T,H,n⟩) ha hs.hp hs.fr;rw[h2]at hT;obtain⟨G,V,Fg,C',hH,hK⟩:=hT;cases dst with
  | some d=>
   obtain⟨hd,h3⟩:=h3;refine o_h (by rw[hP];exact hH) hd λg hg=>?_;obtain⟨ρ',As',g1,g2,g3,g4,g5⟩:=hK g hg;exact XB g5 (ih _ _ _ ρ' _ As' (h3.mono g1) ⟨Rho.le_trans hs.le g1,(hs.sr.mono g1).set g3,g4,g2⟩)
  | none=>
   refine Qkv (by rw[hP];exact hH) λg hg=>?_;obtain⟨ρ',As',g1,g2,g3,g4,g5⟩:=hK g hg;exact XB g5 (ih _ _ _ ρ' _ As' (h3.mono g1) ⟨Rho.le_trans hs.le g1,hs.sr.mono g1,g4,g2⟩)
 have hc:=QcU P op F hF.fok T H n;cases dst with
 | some d=>
  simp only[cOn]at ht;cases hb:Nat.blt d X.n with
  | false=>rw[hb]at ht;exact ht.elim
  | true=>
   rw[hb]at ht;simp only[cond_true]at ht;cases hr:(ZS P op).run F T H n with
   | no=>rw[hr]at ht;exact ht.elim
   | p v=>rw[hr]at hc ht;exact key _ v H n hc rfl ⟨hb,ht⟩
   | q m v=>rw[hr]at hc ht;exact key _ v H n (hc.1 H λ_ _=>rfl) rfl ⟨hb,ht⟩
   | new v x=>rw[hr]at hc ht;exact key _ v (YZ H n x) (n+1) hc rfl ⟨hb,ht⟩
   | h v H' n'=>rw[hr]at hc ht;exact key _ v H' n' hc rfl ⟨hb,ht⟩
 | none=>
  simp only[cOn]at ht;cases hr:(ZS P op).run F T H n with
  | no=>rw[hr]at ht;exact ht.elim
  | p v=>rw[hr]at hc ht;exact key _ v H n hc rfl ht
  | q m v=>rw[hr]at hc ht;exact key _ v H n (hc.1 H λ_ _=>rfl) rfl ht
  | new v x=>rw[hr]at hc ht;exact key _ v (YZ H n x) (n+1) hc rfl ht
  | h v H' n'=>rw[hr]at hc ht;exact key _ v H' n' hc rfl ht
theorem Qc8{ρ:Rho}:den ρ undef=some undef:=rfl
theorem Qhj(hF:CallOk P r0 F)(hP:X.P=P):∀(l:List Oper)(T:Tr Value)(H:Hp)(n:Nat)(ρ:Rho)(L':Qc)(As:List HA),Xi r0 w0 ρ X k ((QbX P X.n all l).run F T H n)->StOk r0 w0 ρ ⟨T,H,n⟩ L' As->O X all l k L' (HS w0 [] As)
 | [],T,H,n,ρ,L',As,ht,hs=>Qmk (ht ρ L' As ρ.le_refl hs)
 | ⟨dst,op,ty,pos,aft,guard⟩::l,T,H,n,ρ,L',As,ht,hs=>by
  have ih:=Qhj hF hP l;cases guard with
  | none=>exact Qro hF hP ih ht hs
  | some jw=>
   obtain⟨j,want⟩:=jw;simp only[QbX]at ht;split at ht
   ·rename_i dj hj;simp only[]at ht;split at ht
    ·rename_i b hb;obtain⟨u,e1,e2⟩:=hs.sr.get (show en T dj=_ from hb);injection e2 with e2
     subst e2;cases hw:b==want with
     | true=>
      rw[hw]at ht
      grind[o_on,Qro]
     | false=>
      rw[hw]at ht;have hw':b= !want:=by cases b<;>cases want<;>simp_all
      simp only[Qtj]at ht;split at ht
      ·rename_i d;cases hd:Nat.blt d X.n with
       | false=>rw[hd]at ht;exact ht.elim
       | true=>
        rw[hd]at ht;exact Qo7 dj b hj e1 hw' hd (ih _ _ _ ρ _ As ht ⟨hs.le,hs.sr.set Qc8,hs.hp,hs.fr⟩)
      grind[QlO]
    ·rename_i hb;obtain⟨u,e1,e2⟩:=hs.sr.get (show en T dj=_ from hb);injection e2 with e2
     subst e2;split at ht
     ·rename_i d;simp only[Qtj]at ht;cases hd:Nat.blt d X.n with
      | false=>rw[hd]at ht;exact ht.elim
      | true=>
       rw[hd]at ht;exact Qqo dj hj e1 hd (ih _ _ _ ρ _ As ht ⟨hs.le,hs.sr.set Qc8,hs.hp,hs.fr⟩)
     ·exact ht.elim
    ·exact ht.elim
   ·exact ht.elim
end
end Ev
end Gx
