/- Contracts of the program's functions, proved by walking them with the rules of the Gx texts; without conditions beyond those that each contract names. -/
import Derived.WalkKit
import Derived.Deep.Draws
import Derived.TacticsIn
import Derived.OrdersIn
import Derived.RangeFuncLeaves
import Derived.Lib.Strings
import Derived.Laws.BytesArg
import Derived.Laws.IdiomStrings
import Derived.Deep.Quiet
import Derived.ProofKit
import Derived.OpenShut
import Derived.Laws.StructEq
import Derived.ChangeKeysEq
import Derived.Laws.Externs
import Derived.Lib.Overlaps
import Derived.Carry
import Derived.Laws.Small
import Derived.Lib.Bytealg
import Derived.Lib.Builder
import Derived.Laws.Pointers
import Derived.RangeFuncRecord
import Derived.Test.YtpkhkcchibbhmaaGreatDoorProg
import Derived.KernelRfl
import Derived.Test.YtpkhkcchibbhmaaGreatDoorTie
import Derived.Test.YtpkhkcchibbhmaaGreatDoorCards
import Derived.SevenTiedAt
import Derived.LaidMore
import Derived.Lay
import Derived.Stop.Joined
import Derived.Test.YtpkhkcchibbhmaaGreatDoorP3
set_option linter.unusedSimpArgs false
set_option maxHeartbeats 1000000
set_option linter.unusedVariables false
set_option linter.unusedSectionVars false
set_option linter.unnecessarySimpa false
namespace Gx
open Go Go.RowKit
section
variable{x:Ixs}
theorem QjJ(h:¬(x.al.length<=61440/\x.ro.length<=200000)):ixE x=8:=by unfold ixE;rw[if_neg h]
theorem Qjf(h:x.al.length<=61440/\x.ro.length<=200000)(h2:¬(x.al.length%512=0/\x.bm.length=Q7 ((x.n+7)/8))):ixE x=10:=by unfold ixE;rw[if_pos h,if_neg h2]
theorem Qnk(h:x.al.length<=61440/\x.ro.length<=200000)(h2:x.al.length%512=0/\x.bm.length=Q7 ((x.n+7)/8))(h3:¬(Qd x.ro).2=0):ixE x=(Qd x.ro).2:=by unfold ixE;rw[if_pos h,if_pos h2,if_neg h3]
theorem QmE(h:x.al.length<=61440/\x.ro.length<=200000)(h2:x.al.length%512=0/\x.bm.length=Q7 ((x.n+7)/8))(h3:(Qd x.ro).2=0)(h4:QdL x=true):ixE x=3:=by unfold ixE;rw[if_pos h,if_pos h2,if_pos h3,if_pos h4]
theorem Qns(h:x.al.length<=61440/\x.ro.length<=200000)(h2:x.al.length%512=0/\x.bm.length=Q7 ((x.n+7)/8))(h3:(Qd x.ro).2=0)(h4:QdL x=false):ixE x=if x.n=0\/Qao x.bm (x.n-1)=true then 0 else 3:=by grind[ixE]
theorem Qjk{j:Nat}(h:x.n<=j)(h2:j<8*x.bm.length)(h3:Qao x.bm j=true):QdL x=true:=by grind[QdL]
theorem Qni(h:∀j,x.n<=j->j<8*x.bm.length->Qao x.bm j=false):QdL x=false:=by grind[QdL]
end
end Gx
namespace Go.Proofs
open Go Go.RowKit Gx
attribute [local irreducible] Go.Calls Gx.S Gx.O Gx.D Gx.OpP Gx.OpQ Gx.OpH
set_option maxRecDepth 20000
instance:TFd Tryz.prog 23 0 0 9:=⟨by kernel_rfl⟩
theorem Qtz:QY Tryz.prog 66=true:=by kernel_rfl
instance:TFn Tryz.prog 66:=⟨Qtz⟩
instance:TFn Tryz.prog 67:=⟨by kernel_rfl⟩
theorem c49(w:World)(x:Ixs)(hl:x.al.length<=900000)(hr:x.ro.length<=1000000)(hb:x.bm.length<=100000):CR 49 #[.agg #[.string (bs x.ro),.string (bs x.al),.string (bs x.bm)]] w (.int .i64 (ixE x)):=by
 have hn9:x.n<=x.al.length:=Nat.div_le_self _ _
 refine eN1 Tryz.func49 Tryz.ntmps49 ?_
 refine aU2 ?_
 refine oBx λb1 _=>?_
 refine aU7 ?_
 refine o_p (Qp rfl rfl Tryz.underlying9) rfl (aU2 ?_)
 refine oOr 5 11 16 rfl
  (λhg2 _=>by
   refine aU5 ?_
   refine o_p (Qp rfl rfl Tryz.underlying9) rfl (aU2 ?_)
   exact oJf 5 16)
  (λhg4 _=>by
   refine aU4 ?_
   exact oJt 5 16) ?_
 refine aU ?_
 refine sCd rfl (λh6=>?_) λh6=>?_
 ·have hE:=QjJ (x:=x) (by have hq:=h6;omega)
  refine aU4 ?_
  exact rV (h:=by rw[hE];rfl)
 have hA:x.al.length<=61440/\x.ro.length<=200000:=by have hq:=h6;omega
 refine aU3 ?_
 refine ZC (α:=Bool) [17,18,19,20,21,22,23,24,25,26,27,28,29,30,31] (λb=>[(31,.bool b)]) (λb=>(b=true->¬(x.al.length%512=0/\x.bm.length=Q7 ((x.n+7)/8)))/\(b=false->x.al.length%512=0/\x.bm.length=Q7 ((x.n+7)/8))) ?_ ?_
 ·skip
  refine Qt [] QC ?_
  refine dFa 0 ?_
  refine dLd 1 [] ?_
  refine dV 2 rfl (Qp rfl rfl Tryz.underlying9) (dV 3 rfl (Zd rfl rfl rfl om om) (dP 4 ?_))
  refine dP 5 ?_
  apply XA 22
  ·exact rfl
  ·intro hg7
   have hs8:=hg7;try simp only[Bool.not_eq_true',decide_eq_false_iff_not]at hs8
   refine dOf 6 22 hg7 ?_
   refine dOf 7 22 hg7 ?_
   refine dOf 8 22 hg7 ?_
   refine dOf 9 22 hg7 ?_
   refine dOf 10 22 hg7 ?_
   refine dOf 11 22 hg7 ?_
   refine dOf 12 22 hg7 ?_
   refine dOf 13 22 hg7 ?_
   refine dV 14 rfl (Xv rfl rfl hg7 rfl) (dNi ?_)
   exact Qo true ⟨λ_ h9=>by grind,λh9=>by cases h9⟩ aSx (λw h=>h.ent aEt)
  intro hg9
  have hs10:=hg9;try simp only[Bool.not_eq_false',decide_eq_true_eq]at hs10
  refine dFo 6 22 hg9 ?_
  refine dQo 7 22 [] hg9 rfl rfl rfl (X8 rfl rfl Zt aPk rfl) ?_
  refine dVo 8 22 hg9 rfl rfl rfl (Qp rfl rfl Tryz.underlying9) ?_
  refine dQo 9 22 [] hg9 rfl rfl rfl (QaD rfl rfl Qa8 aPk rfl) ?_
  refine dQo 10 22 [] hg9 rfl rfl rfl (Qv rfl Qtz rfl (λw1 h1=>c66 w1 x om)) ?_
  refine dQo 11 22 [] hg9 rfl rfl rfl (Qv rfl Qqg rfl (λw1 h1=>c121 w1 (x.n:Int) om)) ?_
  refine Qr (show _=Value.int .i64 (((x.n+7)/8:Nat):Int)from congrArg (Value.int .i64) om) (dQo 12 22 [] hg9 rfl rfl rfl (Qv rfl QnL rfl (λw1 h1=>c95 w1 ((x.n+7)/8) om)) ?_)
  refine dPo 13 22 hg9 ?_
  refine dV 14 rfl (Xl rfl rfl hg9 rfl) (dNi ?_)
  exact Qo (!decide ((x.bm.length:Int)=((Q7 ((x.n+7)/8):Nat):Int))) ⟨λh8 h9=>by grind,λh8=>by grind⟩ aSx (λw h=>h.ent aEt)
 intro b9 hb9
 refine sCd rfl (λh11=>?_) λh11=>?_
 ·have hE:=Qjf hA (hb9.1 h11)
  refine aU4 ?_
  exact rV (h:=by rw[hE];rfl)
 have hB:=hb9.2 h11
 refine aU6 ?_
 refine oCh rfl (λw1 h1=>c31 w1 x.ro hr) (λ⟨⟨ra,rc⟩,RL⟩hRL=>aU3 ?_)
 refine oAl (λb12 _=>?_) Xh
 refine aU8 ?_
 refine sCd rfl (λh13=>?_) λh13=>?_
 ·have hE:=Qnk hA hB h13
  refine aU5 ?_
  exact rV (h:=by rw[hE];rfl)
 have hC:(Qd x.ro).2=0:=h13
 refine aU5 ?_
 refine oCq rfl (λw1 h1=>c66 w1 x om) (aT ?_)
 refine aU3 ?_
 refine Qg (L':=[(1,_),(2,_),(5,_)]) aSx (λ_ h=>h) ?_
 refine Qx (α:=Nat) [2,5,44,45,46,47,48,49,50,51,52,53,54] (λi=>[(5,.int .i64 ((i:Int)+1))]) (λ_=>HS w [] [.blk b1 23 3 [.string (bs x.ro),.string (bs x.al),.string (bs x.bm)]]) (λi=>x.n<=i/\i<=x.n+8*x.bm.length/\∀j,x.n<=j->j<i->Qao x.bm j=false) (λi=>8*x.bm.length-i) x.n ⟨Nat.le_refl _,om,λj h1 h2=>om⟩ aSx (λw h=>h.ent aEt) (λi hii=>?_)
 obtain⟨hi1,hi2,hi3⟩:=hii
 refine aU6 ?_
 refine o_p (Qp rfl rfl Tryz.underlying9) rfl (aT ?_)
 refine aU2 ?_
 refine sCd rfl (λh14=>?_) λh14=>?_
 ·have hi:i+1<=8*x.bm.length:=by have hq:=h14;omega
  refine aU7 ?_
  refine oCq rfl (λw1 h1=>c67 w1 x (i+1) om om) (aU ?_)
  refine sCd rfl (λh15=>?_) λh15=>?_
  ·have hE:=QmE hA hB hC (Qjk hi1 om (by have hq:=h15;exact hq))
   refine aU4 ?_
   exact rV (h:=by rw[hE];rfl)
  have hZ:Qao x.bm i=false:=by have hq:=h15;simpa using hq
  refine aT5 ?_
  refine aU2 ?_
  exact sBk (i+1) om ⟨om,om,λj h1 h2=>(Nat.lt_or_ge j i).elim (hi3 j h1) (λh=>by obtain rfl:j=i:=om;exact hZ)⟩
 have hi:8*x.bm.length<=i:=by have hq:=h14;omega
 have hO:=Qni (x:=x) (λj h1 h2=>hi3 j h1 om)
 have hE:=Qns hA hB hC hO
 refine Qn rfl ?_
 refine aU4 ?_
 refine oCq rfl (λw1 h1=>c66 w1 x om) (aU7 ?_)
 refine XF 5 59 64 rfl
  (λhg16 _=>by
   refine aU5 ?_
   refine oCq rfl (λw1 h1=>c67 w1 x x.n om om) (aU2 ?_)
   exact oJt 5 64)
  (λhg18 _=>by
   refine aU4 ?_
   exact oJf 5 64) ?_
 refine aU ?_
 refine sCd rfl (λh20=>?_) λh20=>?_
 ·have hE2:ixE x=3:=by rw[hE,if_neg];have hq:=h20;intro h9;rcases h9 with h9|h9;omega;rw[h9]at hq;simp at hq
  refine aU4 ?_
  exact rV (h:=by rw[hE2];rfl)
 have hE2:ixE x=0:=by rw[hE,if_pos];have hq:=h20;by_cases h9:x.n=0;exact .inl h9;exact .inr (by simp at hq;grind)
 refine aU5 ?_
 exact rV (h:=by rw[hE2];rfl)
end Go.Proofs
namespace Gx
open Go Go.RowKit
def bmO(ns:List Nd)(g:Nat):List UInt8:=(List.range g).map λj=>by8 ((QaB ns j 8:Nat):Int)
theorem Qjd(ns:List Nd)(g:Nat):bmO ns (g+1)=bmO ns g++[by8 ((QaB ns g 8:Nat):Int)]:=by
 unfold bmO;rw[List.range_succ,List.map_append];rfl
theorem Qsz(ns:List Nd)(g:Nat):(bmO ns g).length=g:=by simp[bmO]
theorem Qe1{ns:List Nd}{g i:Nat}(h:ns.length<=8*g+i+1):∀j,QaB ns g (i+j)=QaB ns g i
 | 0=>rfl
 | j+1=>by
  rw[<-Nat.add_assoc,QaB,Qe1 h j,if_neg om];rfl
theorem QrO{ns:List Nd}{g:Nat}(h:ns.length<=8*g+1):QaB ns g 8=0:=by
 have:=Qe1 (ns:=ns) (g:=g) (i:=0) om 8
 rwa[Nat.zero_add]at this
theorem Qsy{ns:List Nd}{r:Nat}(h:r=(ns.length-1+7)/8):bmO ns r++List.replicate (Q7 r-r) 0=bmB ns:=by
 subst h;have hp:=Yr ((ns.length-1+7)/8)
 have hz:∀k,bmO ns ((ns.length-1+7)/8+k)=bmO ns ((ns.length-1+7)/8)++List.replicate k 0:=by
  intro k
  induction k with
  | zero=>simp
  | succ k ih=>
   rw[<-Nat.add_assoc,Qjd,ih,QrO om,List.append_assoc];congr 1;exact(List.replicate_succ' ..).symm
 have h9:=hz (Q7 ((ns.length-1+7)/8)-(ns.length-1+7)/8);rw[<-h9,show(ns.length-1+7)/8+(Q7 ((ns.length-1+7)/8)-(ns.length-1+7)/8)=Zw ns by unfold Zw;omega];rfl
def ZT(ns:List Nd)(K g:Nat):Nat->Nat
 | 0=>0
 | i+1=>ZT ns K g i+(if(nth ns (8*g+i+1)).us=true/\8*g+i+1<K then 2^i else 0)
theorem Ql3(ns:List Nd)(K g:Nat):∀i,ZT ns K g i<2^i
 | 0=>by simp[ZT]
 | i+1=>by
  have:=Ql3 ns K g i
  grind[ZT]
theorem Qrv(ns:List Nd)(g:Nat):∀i,ZT ns 1 g i=0
 | 0=>rfl
 | i+1=>by rw[ZT,Qrv ns g i,if_neg om]
theorem QmT{ns:List Nd}{k g:Nat}(h:(nth ns (k+1)).us=false):∀i,ZT ns (k+2) g i=ZT ns (k+1) g i
 | 0=>rfl
 | i+1=>by
  rw[ZT,ZT,QmT h i]
  grind
theorem Qnz{ns:List Nd}{k g:Nat}(hg:g≠k/8):∀i,i<=8->ZT ns (k+2) g i=ZT ns (k+1) g i
 | 0,_=>rfl
 | i+1,hi=>by
  rw[ZT,ZT,Qnz hg i om]
  grind
theorem QkY{ns:List Nd}{k:Nat}(h:(nth ns (k+1)).us=true):∀i,i<=8->ZT ns (k+2) (k/8) i=ZT ns (k+1) (k/8) i+(if k%8<i then 2^(k%8)else 0)
 | 0,_=>rfl
 | i+1,hi=>by
  have e1:(if(nth ns (8*(k/8)+i+1)).us=true/\8*(k/8)+i+1<k+2 then 2^i else 0)=(if(nth ns (8*(k/8)+i+1)).us=true/\8*(k/8)+i+1<k+1 then 2^i else 0)+(if i=k%8 then 2^(k%8)else 0):=by grind
  have e2:(if k%8<i+1 then 2^(k%8)else 0)=(if k%8<i then 2^(k%8)else 0)+(if i=k%8 then 2^(k%8)else 0):=by grind
  rw[ZT,ZT,QkY h i om,e1,e2]
  ac_rfl
theorem QkW(ns:List Nd)(k:Nat):∀j,ZT ns (k+1) (k/8) (k%8+j)<2^(k%8)
 | 0=>Ql3 ns (k+1) (k/8) (k%8)
 | j+1=>by
  rw[<-Nat.add_assoc,ZT,if_neg om];exact QkW ns k j
theorem QuF:∀m<8,∀n<2^m,bits .or .u8 ((n:Nat):Int) (IntKind.u8.wrap (1*2^m))=((n+2^m:Nat):Int):=by decide +kernel
def bmW(ns:List Nd)(r K:Nat):List UInt8:=(List.range r).map λg=>by8 ((ZT ns K g 8:Nat):Int)
theorem QfU(ns:List Nd)(r K:Nat):(bmW ns r K).length=r:=by simp[bmW]
theorem Qwu(ns:List Nd)(r:Nat):bmW ns r 1=List.replicate r 0:=by
 unfold bmW;rw[List.eq_replicate_iff];refine⟨by simp,λb hb=>?_⟩;obtain⟨g,_,rfl⟩:=List.mem_map.1 hb;rw[Qrv]
 try rfl
theorem QsR{ns:List Nd}:bmW ns (Zw ns) ns.length=bmB ns:=by
 unfold bmW bmB;congr 1
theorem Qu5{ns:List Nd}{r k:Nat}(h:(nth ns (k+1)).us=false):bmW ns r (k+2)=bmW ns r (k+1):=by grind[bmW,QmT]
theorem Qme{ns:List Nd}{r K g:Nat}(h:g<r):(bmW ns r K)[g]?=some (by8 ((ZT ns K g 8:Nat):Int)):=by grind[bmW]
theorem Qsx{ns:List Nd}{r k:Nat}(h:(nth ns (k+1)).us=true)(hk:k/8<r):bmW ns r (k+2)=(bmW ns r (k+1)).set (k/8) (by8 ((ZT ns (k+1) (k/8) 8+2^(k%8):Nat):Int)):=by
 apply List.ext_getElem?
 grind[QfU,Qme,QkY,Qnz]
end Gx
namespace Go.Proofs
open Go Go.RowKit Gx
attribute [local irreducible] Go.Calls Gx.S Gx.O Gx.D Gx.OpP Gx.OpQ Gx.OpH
set_option maxRecDepth 20000
theorem c85(w:World)(co mo rm:Int)(a:Option Addr)(cap:Nat)(L:List LNd)(hs:Nt w [] a L)(hl:L.length<=1000):CR 85 #[.agg #[.int .i64 co,.int .i64 mo,.int .i64 rm,.slice a L.length cap]] w (.string (bs (bmB (pln L)))):=by
 refine eN1 Tryz.func85 Tryz.ntmps85 ?_
 refine aU2 ?_
 refine oBx λb1 _=>?_
 refine Zx ?_
 refine Qx (α:=Nat) [3,4,5,6,7,8,9,10,11,12,13,14,15,16,17,18,19,20,21,22,23,24,25,26,27,28,29,30,31,32,33,34,35,36,37,38,39,40,41,42,43,44] (λg=>[(4,.int .i64 (8*(g:Int)+1)),(3,.string (bs (bmO (pln L) g)))]) (λ_=>HS w [] [.blk b1 37 4 [.int .i64 co,.int .i64 mo,.int .i64 rm,.slice a L.length cap]]) (λg=>g<=((L.length-1+7)/8)) (λg=>L.length-8*g) 0 (Nat.zero_le _) aSx (λw h=>h.ent aEt) (λg hg=>?_)
 have hol:=Qsz (pln L) g
 refine aU9 ?_
 refine sCd rfl (λh2=>?_) λh2=>?_
 ·have hk:8*g+1<L.length:=by have hq:=h2;omega
  refine Qau ?_
  refine Qx (α:=Nat) [5,6,14,15,16,17,18,19,20,21,22,23,24,25,26,27,28,29,30,31,32,33,34,35,36,37,38,39,40] (λi=>[(6,.int .i64 (i:Int)),(5,.int .i64 ((QaB (pln L) g i:Nat):Int))]) (λ_=>HS w [] [.blk b1 37 4 [.int .i64 co,.int .i64 mo,.int .i64 rm,.slice a L.length cap]]) (λi=>i<=8) (λi=>8-i) 0 (Nat.zero_le _) aSx (λw h=>h.ent aEt) (λi hi8=>?_)
  have hbl:=QfK (pln L) g i
  refine aU6 ?_
  refine XF 8 16 24 rfl
   (λhg3 _=>by
    refine aT6 ?_
    refine aU8 ?_
    exact oJt 8 24)
   (λhg5 _=>by
    refine aU7 ?_
    exact oJf 8 24) ?_
  refine aU ?_
  refine sCd rfl (λh7=>?_) λh7=>?_
  ·have hi7:i<8/\8*g+i+1<L.length:=by have hq:=h7;omega
   have hpw:2^i<=2^7:=Nat.pow_le_pow_right (by decide) om
   have hst:QaB (pln L) g (i+1)=QaB (pln L) g i+cond (nth L (8*g+i+1)).us (2^i) 0:=by(rw[QaB];congr 1;rw[QR,Qb];cases hu:(nth L (8*g+i+1)).us;rw[if_neg (λh9=>absurd (show false=true from hu▸h9.1) Bool.false_ne_true)];rfl;rw[if_pos ⟨hu,hi7.2⟩];rfl)
   refine Qhi ?_
   refine o_p (Qa rfl rfl rfl Qw (8*g+i+1) om om (Rw.some hs.1 om)) rfl (aU ?_)
   refine o_q (Qc rfl rfl Qcy ((hs.1.rdj (i:=(8*g+i+1)) 0 om rfl))) rfl (oCq rfl (λw1 h1=>Qr8 w1 (nth L (8*g+i+1)).us) (aU ?_))
   refine oCq rfl (λw1 h1=>c135 w1 i om) (aT ?_)
   refine Qh (show _=Value.int .i64 ((cond (nth L (8*g+i+1)).us (2^i) 0:Nat):Int)from by(cases(nth L (8*g+i+1)).us<;>simp only[Bool.false_eq_true,if_false,if_true,cond,Int.zero_mul,Int.one_mul]<;>first|rfl|exact QeP om om)) ?_
   have hcb:cond (nth L (8*g+i+1)).us (2^i) 0<=128:=by cases(nth L (8*g+i+1)).us;exact Nat.zero_le _;exact hpw
   refine aT ?_
   refine Qh (show _=Value.int .i64 ((QaB (pln L) g (i+1):Nat):Int)from congrArg (Value.int .i64) (by rw[hst];rfl)) (aU3 ?_)
   refine Qg (L':=[(0,_),(1,_),(2,_),(3,_),(4,_),(5,_),(6,_),(7,_),(8,_),(9,_),(10,_),(11,_)]) aSx (λ_ h=>h) ?_
   refine aT3 ?_
   refine aU2 ?_
   exact sBk (i+1)
  have hb8:QaB (pln L) g 8=QaB (pln L) g i:=by(by_cases h8:i=8;rw[h8];have h9:=Qe1 (ns:=(pln L)) (g:=g) (i:=i) (by rw[Qb];have hq:=h7;omega) (8-i);rwa[show i+(8-i)=8 by omega]at h9)
  refine Qn rfl ?_
  refine aU3 ?_
  refine oCq rfl (λw1 h1=>by have h9:=c94 w1 ((QaB (pln L) g i:Nat):Int) 1 (by have:=Nat.pow_le_pow_right (n:=2) (by decide) hi8;omega) om;rw[QlW]at h9;exact h9) (o_p (Q8 rfl rfl rfl (by(try simp only[List.length_append,List.length_cons,List.length_nil,List.length_replicate,List.length_take,List.length_drop]);omega)) rfl (aT6 ?_))
  refine Qh (show _=Value.int .i64 (8*((g+1:Nat):Int)+1)from congrArg (Value.int .i64) om) (aU2 ?_)
  exact sBk (g+1) om om (by rw[Qjd,hb8];exact aSx)
 have hk:g=((L.length-1+7)/8):=by have hq:=h2;omega
 subst hk
 have hend:=Qsy (ns:=(pln L)) (r:=((L.length-1+7)/8)) (by rw[Qb])
 have hp8:=Yr ((L.length-1+7)/8)
 refine Qn rfl ?_
 refine aU4 ?_
 refine o_p (Qp rfl rfl Tryz.underlying9) rfl (oCq rfl (λw1 h1=>by have h9:=c95 w1 (bmO (pln L) ((L.length-1+7)/8)).length om;rw[hol]at h9;rw[hol];exact h9) (aU ?_))
 refine o_p (Qp rfl rfl Tryz.underlying9) rfl (aT ?_)
 refine Qh (show _=Value.int .i64 ((Q7 ((L.length-1+7)/8)-((L.length-1+7)/8):Nat):Int)from congrArg (Value.int .i64) (by rw[hol];omega)) (oCq rfl (λw1 h1=>c86 w1 (Q7 ((L.length-1+7)/8)-((L.length-1+7)/8)) om) (o_p (Q8 rfl rfl rfl (by(try simp only[List.length_append,List.length_cons,List.length_nil,List.length_replicate,List.length_take,List.length_drop]);omega)) rfl (aU2 ?_)))
 exact rV (h:=by rw[<-hend];rfl)
theorem Qt5{w0 w:World}{M:List Nat}{As As':List HA}{a:Option Addr}{n cap t sz:Nat}{xs:List Value}(h:HS w0 M As w)(hp:QE As (.own (.slice a n cap) t sz n xs) As')(hn:0<n):∃gg,a=some ⟨gg,0,none⟩/\n<=cap/\cap<=maxLen:=by
  obtain⟨gg,e,_,h1,h2,_⟩:=h.own_blk hn hp;exact⟨gg,e,h1,h2⟩
theorem Qud{w0 w:World}{M:List Nat}{As As':List HA}{gg n cap t sz:Nat}{xs:List Value}(h:HS w0 M As w)(hp:QE As (.own (.slice (some ⟨gg,0,none⟩) n cap) t sz n xs) As')(hn:0<n):HS w0 M (.blk gg t (cap*sz) xs::As') w:=by
  obtain⟨g',e,_,_,_,_,h1⟩:=h.own_blk hn hp;injection e with e
  injection e with e
  subst e;exact h1
theorem QhE{α:Type}[Inhabited α](l:List α)(k:Nat):nth (l.drop 1) k=nth l (k+1):=by
  unfold nth;rw[List.getD_eq_getElem?_getD,List.getD_eq_getElem?_getD,List.getElem?_drop,Nat.add_comm]
theorem Qhy{n:Nat}(h:n<256):bv (by8 ((n:Nat):Int))=.int .u8 ((n:Nat):Int):=by
  unfold bv;rw[Q9];congr 1;omega
theorem c145(w:World)(a:Option Addr)(cap:Nat)(L:List LNd)(hs:Rw LNd.vals 3 w [] a L)(h0:0<L.length)(hl:L.length<=1000)(hcap:L.length<=cap)(hc9:cap<=maxLen):CR 145 #[.slice a L.length cap] w (.string (bs (bmB (pln L)))):=by
 have hs2:=hs.cut (i:=1) hcap
 obtain⟨a2,ha2⟩:∃z,z=YY a cap 1 3:=⟨_,rfl⟩
 rw[<-ha2]at hs2
 have hdl:(L.drop 1).length=L.length-1:=List.length_drop
 have hp8:=Yr ((L.length-1+7)/8)
 have hbm:(Zw (pln L))=Q7 ((L.length-1+7)/8):=by unfold Zw;rw[Qb]
 have hz9:(List.replicate ((L.length-1+7)/8) (0:UInt8))++List.replicate (Q7 (List.replicate ((L.length-1+7)/8) (0:UInt8)).length-(List.replicate ((L.length-1+7)/8) (0:UInt8)).length) 0=bmW (pln L) (Zw (pln L)) 1:=by rw[Qwu,List.length_replicate,List.replicate_append_replicate,hbm];congr 1;omega
 refine eN1 Tryz.func145 Tryz.ntmps145 ?_
 refine aT9 ?_
 refine aT6 ?_
 refine aT ?_
 refine o_p (XQ rfl rfl rfl om om om) rfl (Qh (show _=Value.int .i64 ((((L.length-1+7)/8):Nat):Int)from congrArg (Value.int .i64) om) (o_h (Qfc (n:=((L.length-1+7)/8)) rfl rfl rfl Q0 Qap om om) rfl (λb1 _=>QQ (C':=HS w [] [.byz (some ⟨b1,0,none⟩) ((L.length-1+7)/8) ((List.replicate ((L.length-1+7)/8) (0:UInt8)))]) (λw9 h=>by have h9:=h.ent (Bs:=[.blk b1 u8T (((L.length-1+7)/8)*1) (YE [.int .u8 0] (((L.length-1+7)/8)*1))]) aEt;rw[Qeo,Nat.mul_one]at h9;exact HS.byz_blk (l:=(List.replicate ((L.length-1+7)/8) (0:UInt8))) (cap:=((L.length-1+7)/8)) .here h9 (by rw[List.length_replicate];exact Nat.le_refl _) (by simp only[maxLen];omega) (by rw[Qe2,List.length_replicate,Nat.sub_self,List.replicate_zero,List.append_nil])) (Qh (show _=Value.slice (some ⟨b1,0,none⟩) (List.replicate ((L.length-1+7)/8) (0:UInt8)).length ((L.length-1+7)/8)from by rw[List.length_replicate]) (o_h (QM (Cs:=[.byz (some ⟨b1,0,none⟩) ((L.length-1+7)/8) ((List.replicate ((L.length-1+7)/8) (0:UInt8)))]) rfl QqU rfl aPs (λw1 h1 hf=>c154 w1 (some ⟨b1,0,none⟩) ((L.length-1+7)/8) (List.replicate ((L.length-1+7)/8) (0:UInt8)) hf (by rw[List.length_replicate];omega))) rfl (λ⟨b2,c3⟩hz4=>?_))))))
 rw[hz9]
 refine QQ (λw9 h=>h.byz_own .here) ?_
 rw[QfU]
 refine aU6 ?_
 refine o_p (QG _ _ 1 L.length rfl rfl Qw ⟨_,_,rfl,rfl⟩ rfl om om) rfl (Qh (show _=Value.slice a2 (L.length-1) (cap-1)from by rw[ha2]) (aU4 ?_))
 refine Qg (L':=[(2,_),(4,_),(17,_),(18,_),(19,_)]) aSx (λ_ h=>h) ?_
 refine Qx (α:=Nat) [5,6,19,20,21,22,23,24,25,26,27,28,29,30,31,32,33,34,35,36] (λk=>[(19,.int .i64 (k:Int))]) (λk=>HS w [] [.own (.slice b2 (Zw (pln L)) c3) u8T 1 (Zw (pln L)) ((bmW (pln L) (Zw (pln L)) (k+1)).map bv)]) (λk=>k<=L.length-1) (λk=>L.length-1-k) 0 (Nat.zero_le _) aSx (λw h=>h.ent aEt) (λk hk1=>?_)
 refine aU5 ?_
 refine sCd rfl (λh5=>?_) λh5=>?_
 ·have hk:k<L.length-1:=by have hq:=h5;omega
  have hbwl:=QfU (pln L) (Zw (pln L)) (k+1)
  have hpw:2^(k%8)<=2^7:=Nat.pow_le_pow_right (by decide) om
  have hlow:(ZT (pln L) (k+1) (k/8) 8)<2^(k%8):=by have h9:=QkW (pln L) k (8-k%8);rwa[show k%8+(8-k%8)=8 by omega]at h9
  refine aU6 ?_
  refine o_p (Qa rfl rfl rfl Qw (k) om om (Rw.some hs2 om)) rfl (o_q (QB _ rfl rfl Xs rfl (Rw.rd hs2 om)) rfl (oAl (λb6 _=>?_) Xj))
  refine aU8 ?_
  refine sCd rfl (λh7=>?_) λh7=>?_
  ·have hus:(nth (pln L) (k+1)).us=true:=by rw[QR,<-QhE];exact h7
   refine Xp (λw9 h=>Qt5 (a:=b2) (n:=(Zw (pln L))) (cap:=c3) h aPk om) λhB9=>?_
   obtain⟨gg,rfl,hc1,hc2⟩:=hB9
   refine XG (λw9 h=>Qud (gg:=gg) (n:=(Zw (pln L))) (cap:=c3) h aPk om) (Qt [10] QC ?_)
   refine dP 0 ?_
   refine dP 1 ?_
   refine dV 2 rfl (XQ rfl rfl rfl om om om) (dV 3 rfl (Qa rfl rfl rfl Q0 (k/8) om om rfl) (dQ 4 [[]] rfl (Qf rfl rfl Qef (λw9 h=>by rw[Nat.zero_add];exact h.rd_blk (Mc:=[]) aPk (by rw[Nat.mul_one,List.getElem?_map,Qme om];rfl) (by simp))) ?_))
   refine Qr (show _=Value.int .u8 (((ZT (pln L) (k+1) (k/8) 8):Nat):Int)from Qhy (n:=(ZT (pln L) (k+1) (k/8) 8)) om) (dP 5 ?_)
   refine dV 6 rfl (Zd rfl rfl rfl om om) (dV 7 rfl (QgK rfl rfl rfl om (k%8) (by show min _ 8=_;omega)) (dP 8 ?_))
   refine Qr (show _=bv (by8 (((ZT (pln L) (k+1) (k/8) 8)+2^(k%8):Nat):Int))from by rw[QuF (k%8) (Nat.mod_lt _ (by decide)) (ZT (pln L) (k+1) (k/8) 8) hlow,Qhy om]) (dV 9 rfl (Qa rfl rfl rfl Q0 (k/8) om om rfl) (dSt 10 ?_ (hl:=(by simp only[Qm,List.length_set,List.length_cons,List.length_nil,List.length_map];omega))))
   refine dTu [] ?_
   refine dNi ?_
   refine aT3 ?_
   refine aU2 ?_
   exact Q1 (k+1) om om aSx (λw h=>by have hx:(bmW (pln L) (Zw (pln L)) (k+2)).map bv=(((bmW (pln L) (Zw (pln L)) (k+1)).map bv).set (0+k/8*1) (bv (by8 ((ZT (pln L) (k+1) (k/8) 8+2^(k%8):Nat):Int)))):=(by rw[Nat.zero_add,Nat.mul_one,Qsx hus om,List.map_set]);have h8:=HS.own_shut (g:=gg) (cap:=c3) (n:=(Zw (pln L))) (sz:=1) (t:=u8T) (xs:=(((bmW (pln L) (Zw (pln L)) (k+1)).map bv).set (0+k/8*1) (bv (by8 ((ZT (pln L) (k+1) (k/8) 8+2^(k%8):Nat):Int))))) (As:=[]) (h.ent aEt) (by rw[List.length_set,List.length_map,QfU,Nat.mul_one]) om om;rw[<-hx]at h8;exact h8.ent aEt)
  have hus:(nth (pln L) (k+1)).us=false:=by rw[QR,<-QhE];have hq:=h7;first|exact hq|exact Bool.eq_false_iff.2 hq|(simp only[Bool.not_eq_true]at hq;exact hq)
  refine aT4 ?_
  refine aU2 ?_
  exact Q1 (k+1) om om aSx (λw h=>by rw[Qu5 hus];exact h.ent aEt)
 obtain rfl:k=L.length-1:=by have hq:=h5;omega
 have hend:bmW (pln L) (Zw (pln L)) (L.length-1+1)=bmB (pln L):=by rw[show L.length-1+1=(pln L).length by rw[Qb];omega];exact QsR
 refine Qn rfl ?_
 refine aU3 ?_
 refine o_q (ZW rfl rfl Tryz.underlying139 Tryz.underlying9 Tryz.underlying5 aPk (Zy _)) rfl (aU2 ?_)
 exact rV (h:=by rw[Y4,hend];rfl)
theorem YN:X9 Tryz.prog 23=some [.string (bs []),.string (bs []),.string (bs [])]:=by kernel_rfl
theorem Qv7:QY Tryz.prog 85=true:=by kernel_rfl
theorem Qgl:Qab Tryz.prog 23=some [(0,1),(1,1),(2,1)]:=by kernel_rfl
theorem Qwv:QY Tryz.prog 77=true:=by kernel_rfl
instance:TFn Tryz.prog 78:=⟨by kernel_rfl⟩
theorem Qt1:QY Tryz.prog 145=true:=by kernel_rfl
instance:TFn Tryz.prog 76:=⟨by kernel_rfl⟩
def wfI(t:Tre):Ixs:=if YM t=0 then wrI t else⟨[],[],[]⟩
theorem c77(w:World)(b:Nat)(co mo rm:Int)(a:Option Addr)(cap:Nat)(L:List LNd)(k:Nat)(hb:Rd w [] b 3 (.slice a L.length cap))(hs:Nt w [] a L)(hi:YM (⟨co,mo,rm,pln L⟩:Tre)=0)(hkk:k+1<L.length):CR 77 #[.int .i64 ((k+1:Nat):Int),.pointer (some ⟨b,0,none⟩)] w (.string (bs (QcA (⟨co,mo,rm,pln L⟩:Tre) (k+1)))):=by
 have hr9:=YZ hi
 have h09:0<L.length:=by have:=hr9.1;rwa[show(⟨co,mo,rm,pln L⟩:Tre).ns=pln L from rfl,Qb]at this
 have hn9:=ZB hi hr9.1 hr9.2.1
 have hp9:NdP (nth L 0).pl:=by have hq:=hn9.1.ndp (by have:=hn9.2.1;omega);rwa[show(⟨co,mo,rm,pln L⟩:Tre).ns=pln L from rfl,QR]at hq
 have hbb:(0<=co/\co<256)/\(0<=mo/\mo<256)/\0<=rm/\rm<256:=by have h1:=hr9.2.2.1;have h2:=hr9.2.2.2.1;have h3:QJ co=0:=h1;have h4:XW mo rm=0:=h2;unfold QJ at h3;unfold XW at h4;split at h3;(split at h4;omega;cases h4);cases h3
 have hL120:L.length<=120:=by have:=hn9.2.2.2.2;rwa[show(⟨co,mo,rm,pln L⟩:Tre).ns=pln L from rfl,Qb]at this
 refine eN2 Tryz.func77 Tryz.ntmps77 ?_
 refine aU8 ?_
 refine o_q (Qc rfl rfl Yl (hb)) rfl (aU ?_)
 refine o_p (Qa rfl rfl rfl Qw ((k+1)) om om (Rw.some hs.1 om)) rfl (aU ?_)
 refine o_q (Qc rfl rfl Qcy ((hs.1.rdj (i:=k+1) 0 om rfl))) rfl (aU2 ?_)
 refine sCd rfl (λh1=>?_) λh1=>?_
 ·have hu1:¬(nth (pln L) (k+1)).us=true:=by rw[QR];have hq:=h1;first|exact hq|(intro h9;have h8:(nth L (k+1)).us=true:=h9;rw[h8]at hq;cases hq)
  have hnw:(QcA (⟨co,mo,rm,pln L⟩:Tre) (k+1))=QeM:=by unfold QcA;rw[if_neg hu1]
  have hnl:(QcA (⟨co,mo,rm,pln L⟩:Tre) (k+1)).length=512:=by rw[hnw];exact QbA
  refine aU2 ?_
  refine oCq rfl (λw1 h1=>c78 w1) (aU2 ?_)
  exact rV (h:=by rw[hnw];rfl)
 have hk1:k+1<L.length:=om
 have hu1:(nth (pln L) (k+1)).us=true:=by rw[QR];have hq:=h1;first|exact hq|simpa using hq
 have hn1:=ZB hi (i:=k+1) (by rw[show(⟨co,mo,rm,pln L⟩:Tre).ns=pln L from rfl,Qb];omega) hu1
 have hq1:NdP (nth L (k+1)).pl:=by have hq:=hn1.1.ndp (by have:=hn1.2.1;omega);rwa[show(⟨co,mo,rm,pln L⟩:Tre).ns=pln L from rfl,QR]at hq
 have hcb1:(Xy (nth L (k+1)).pl).length<=448:=by have hq:=hn1.2.2.1;rw[show(⟨co,mo,rm,pln L⟩:Tre).ns=pln L from rfl,QR]at hq;omega
 have hnw:(QcA (⟨co,mo,rm,pln L⟩:Tre) (k+1))=Qak (nth L (k+1)).pl ((k+1:Nat):Int) 0 1:=by unfold QcA;rw[if_pos hu1,<-QR]
 have hnl:(QcA (⟨co,mo,rm,pln L⟩:Tre) (k+1)).length=512:=by rw[hnw];exact QpE hcb1
 refine aU4 ?_
 refine o_q (Qc rfl rfl Yl (hb)) rfl (aU ?_)
 refine o_p (Qa rfl rfl rfl Qw ((k+1)) om om (Rw.some hs.1 om)) rfl (o_q (QB _ rfl rfl Xs rfl (Rw.rd hs.1 om)) rfl (o_p (QF (cs:=[_,_,_,_,_]) rfl rfl QcH Qat rfl) rfl (aU ?_)))
 refine oCq rfl (λw1 h1=>c79 w1 (nth L (k+1)) ((k+1:Nat):Int) 0 1 ((hs.es hk1).later h1) ((hs.cs hk1).later h1) hq1 hcb1 om (by decide) (by decide)) (aU2 ?_)
 exact rV (h:=by rw[hnw];rfl)
theorem c76(w:World)(co mo rm:Int)(a:Option Addr)(cap:Nat)(L:List LNd)(q:Nat)(cv:Array Value)(blk:Nat->List UInt8)(hs:Nt w [] a L)(h0:0<L.length)(hl:L.length<=1000)(hp:NdP (nth L 0).pl)(hcap:L.length<=cap)(hc9:cap<=maxLen)(hbk:∀i,(blk i).length<=512)(hq:QY Tryz.prog q=true)(hc:∀k w1,k+1<L.length->HS w [] [] w1->Calls Tryz.prog q (#[]++[.int .i64 ((k+1:Nat):Int)].toArray++cv) w1 λen w2=>en=.returned (.string (bs (blk (k+1))))/\Below w1.heap.size w1 w2):CR 76 #[.agg #[.int .i64 co,.int .i64 mo,.int .i64 rm,.slice a L.length cap],.func (.func q) #[] cv] w (.agg #[.string (bs (Qbl (⟨co,mo,rm,pln L⟩:Tre))),.string (bs (Y5 blk (L.length-1))),.string (bs (bmB (pln L)))]):=by
 refine eN2 Tryz.func76 Tryz.ntmps76 ?_
 refine aU2 ?_
 refine oBx λb1 _=>?_
 refine oAl (λb2 _=>?_) YN
 refine Zl ?_
 refine Qx (α:=Nat×Option Addr×Nat) [5,6,7,8,9,10,11,12,13,14,15,16,17,18] (λx=>[(6,.int .i64 ((x.1+1:Nat):Int)),(5,.slice x.2.1 (Y5 blk x.1).length x.2.2)]) (λx=>HS w [] [.byz x.2.1 x.2.2 (Y5 blk x.1),.blk b1 37 4 [.int .i64 co,.int .i64 mo,.int .i64 rm,.slice a L.length cap],.blk b2 23 3 [.string (bs []),.string (bs []),.string (bs [])]]) (λx=>x.1+1<=L.length/\(Y5 blk x.1).length<=512*x.1) (λx=>L.length-x.1) (0,none,0) ⟨by(try simp only[]);omega,Nat.le_refl _⟩ aSx (λw h=>(h.byz_nil.ent aEt)) (λ⟨k,ga,gc⟩hkk=>?_)
 dsimp only
 simp only[]at hkk
 obtain⟨hk0,hbl⟩:=hkk
 have hb1:=hbk (k+1)
 refine aU9 ?_
 refine sCd rfl (λh3=>?_) λh3=>?_
 ·have hk:k+1<L.length:=by have hq:=h3;omega
  refine aU7 ?_
  refine o_q (XX rfl rfl hq rfl (λw1 h1=>hc k w1 om (h1.ent aEt))) rfl (o_h (Qbp rfl rfl rfl Q0 Tryz.underlying9 Qap aPk om (by simp only[maxLen];omega)) rfl (λ⟨b4,c5⟩h6=>aT6 ?_))
  refine Qh (show _=Value.int .i64 ((k+1+1:Nat):Int)from congrArg (Value.int .i64) om) (aU2 ?_)
  exact sBk (k+1,b4,c5) (by(try simp only[]);omega) ⟨by(try simp only[]);omega,by(try simp only[]);rw[Y5,List.length_append];omega⟩
 obtain rfl:k=L.length-1:=by have hq:=h3;omega
 refine Qn rfl ?_
 refine aU ?_
 refine XG (λw9 h=>h.byz_own aPk) (Qt [8] QC ?_)
 refine dLn 0 [[]] ?_
 refine dQ 1 [[]] rfl (Qv rfl Qv3 rfl (λw1 h1=>c90 w1 co mo rm a cap L (hs.later h1.nil) h0 hp)) (dP 2 ?_)
 refine dQ 3 [[]] rfl (ZW rfl rfl Tryz.underlying139 Tryz.underlying9 Tryz.underlying5 aPk (Zy _)) (dFa 4 ?_)
 refine dLd 5 [[]] ?_
 refine dQ 6 [[]] rfl (Qv rfl Qt1 rfl (λw1 h1=>c145 w1 a cap L (hs.1.later h1.nil) h0 hl hcap hc9)) (dV 7 rfl (QF (cs:=[_,_,_]) rfl rfl Qgl YN rfl) (dSt 8 ?_ (hl:=(by simp only[Qm,List.length_set,List.length_cons,List.length_nil,List.length_map];omega))))
 refine dTu [] ?_
 refine dNi ?_
 exact Qk (rs:=[.cell 4 23]) rfl (.cell rfl Qa8 aPk rfl (.nil)) (λw' h'=>⟨by rw[Y4];rfl,h'.below⟩)
theorem c20(w:World)(co mo rm:Int)(a:Option Addr)(cap:Nat)(L:List LNd)(hs:Nt w [] a L)(hB:Bd (pln L))(hcap:L.length<=cap)(hc9:cap<=maxLen)(hkl:∀i,i<L.length->∀x∈(nth L i).es,x.key.length<=1000000/\x.val.length<=1000000):CR 20 #[.agg #[.int .i64 co,.int .i64 mo,.int .i64 rm,.slice a L.length cap]] w (.tuple #[.agg #[.string (bs (wfI (⟨co,mo,rm,pln L⟩:Tre)).ro),.string (bs (wfI (⟨co,mo,rm,pln L⟩:Tre)).al),.string (bs (wfI (⟨co,mo,rm,pln L⟩:Tre)).bm)],.int .i64 (YM (⟨co,mo,rm,pln L⟩:Tre))]):=by
 refine eN1 Tryz.func20 Tryz.ntmps20 ?_
 refine aU2 ?_
 refine oBx λb1 _=>?_
 refine oAl (λb2 _=>?_) YN
 refine aU6 ?_
 refine oCq rfl (λw1 h1=>c75 w1 co mo rm a cap L (hs.later h1.nil) hB hkl) (aU7 ?_)
 refine sCd rfl (λh3=>?_) λh3=>?_
 ·have hE:¬YM (⟨co,mo,rm,pln L⟩:Tre)=0:=h3
  have hW:wfI (⟨co,mo,rm,pln L⟩:Tre)=⟨[],[],[]⟩:=if_neg hE
  refine aU2 ?_
  refine o_p (QF (cs:=[_,_,_]) rfl rfl Qgl YN rfl) rfl (aU4 ?_)
  exact Qk (rs:=[.cell 2 23,.tmp 3]) rfl (.cell rfl Qa8 aPk rfl (.tmp rfl (.nil))) (λw' h'=>⟨by rw[hW];rfl,h'.below⟩)
 have hi:YM (⟨co,mo,rm,pln L⟩:Tre)=0:=h3
 have hW:wfI (⟨co,mo,rm,pln L⟩:Tre)=wrI (⟨co,mo,rm,pln L⟩:Tre):=if_pos hi
 have hr9:=YZ hi
 have h09:0<L.length:=by have:=hr9.1;rwa[show(⟨co,mo,rm,pln L⟩:Tre).ns=pln L from rfl,Qb]at this
 have hn9:=ZB hi hr9.1 hr9.2.1
 have hp9:NdP (nth L 0).pl:=by have hq:=hn9.1.ndp (by have:=hn9.2.1;omega);rwa[show(⟨co,mo,rm,pln L⟩:Tre).ns=pln L from rfl,QR]at hq
 have hbb:(0<=co/\co<256)/\(0<=mo/\mo<256)/\0<=rm/\rm<256:=by have h1:=hr9.2.2.1;have h2:=hr9.2.2.2.1;have h3:QJ co=0:=h1;have h4:XW mo rm=0:=h2;unfold QJ at h3;unfold XW at h4;split at h3;(split at h4;omega;cases h4);cases h3
 have hL120:L.length<=120:=by have:=hn9.2.2.2.2;rwa[show(⟨co,mo,rm,pln L⟩:Tre).ns=pln L from rfl,Qb]at this
 have hbk9:∀i,(QcA (⟨co,mo,rm,pln L⟩:Tre) i).length<=512:=λi=>Nat.le_of_eq ((QjM hi).1.len i)
 refine aU5 ?_
 refine oCq rfl (λw1 h1=>c76 w1 co mo rm a cap L 77 _ (QcA (⟨co,mo,rm,pln L⟩:Tre)) (hs.later h1.nil) h09 om hp9 hcap hc9 hbk9 Qwv (λk w2 hk h2=>c77 w2 b1 co mo rm a cap L k ((h1.call h2).rd_blk (Mc:=[]) aPk rfl (by simp)) (hs.later (h1.call h2).nil) hi hk)) (aU3 ?_)
 exact Qk (rs:=[.cell 2 23,.tmp 3]) rfl (.cell rfl Qa8 aPk rfl (.tmp rfl (.nil))) (λw' h'=>⟨by rw[hW,hi,wrI,show(⟨co,mo,rm,pln L⟩:Tre).ns=pln L from rfl,Qb];rfl,h'.below⟩)
theorem Qbr:X9 Tryz.prog 108=some [.string (bs []),.string (bs []),.string (bs []),.int .i64 0,.int .i64 0,.int .i64 0,.slice none 0 0]:=by kernel_rfl
theorem Qqf:Qab Tryz.prog 108=some [(0,3),(3,4)]:=by kernel_rfl
instance:TFd Tryz.prog 108 1 3 37:=⟨by kernel_rfl⟩
theorem QtD:QY Tryz.prog 61=true:=by kernel_rfl
instance:TFn Tryz.prog 61:=⟨QtD⟩
theorem QfF{x:Ixs}{v:Bool}(hE:ixE x=if x.n=0\/Qao x.bm (x.n-1)=true then 0 else 3)(hv:v=true ↔ (x.n=0\/Qao x.bm (x.n-1)=true)):ixE x=bif v then 0 else 3:=by
  rw[hE];cases v with
  | false=>rw[if_neg (λh=>by cases hv.2 h)];rfl
  | true=>rw[if_pos (hv.1 rfl)];rfl
theorem QjV{x:Ixs}(h:¬x.n=0):ZZ x x.n=true ↔ (x.n=0\/Qao x.bm (x.n-1)=true):=by
  unfold ZZ;rw[decide_eq_true (show 1<=x.n/\x.n<=x.n by omega),Bool.true_and];exact⟨.inr,λh9=>h9.elim (λh8=>absurd h8 h) id⟩
theorem Qew{x:Ixs}{u v:Bool}(hu:u=true ↔ x.al.length<=61440/\x.ro.length<=200000)(hv:v=true ↔ x.al.length%512=0/\x.bm.length=Q7 ((x.n+7)/8)) :
    (Xr [.int .i64 (bif u then 0 else 8),.int .i64 (bif v then 0 else 10)]=0->(x.al.length<=61440/\x.ro.length<=200000)/\x.al.length%512=0/\x.bm.length=Q7 ((x.n+7)/8)) /\
    (¬Xr [.int .i64 (bif u then 0 else 8),.int .i64 (bif v then 0 else 10)]=0->ixE x=Xr [.int .i64 (bif u then 0 else 8),.int .i64 (bif v then 0 else 10)]):=by
  cases u with
  | false=>exact⟨λh=>absurd (show(8:Int)=0 from h) (by decide),λ_=>QjJ λh9=>by cases hu.2 h9⟩
  | true=>
    cases v with
    | false=>exact⟨λh=>absurd (show(10:Int)=0 from h) (by decide),λ_=>Qjf (hu.1 rfl) λh9=>by cases hv.2 h9⟩
    | true=>exact⟨λ_=>⟨hu.1 rfl,hv.1 rfl⟩,λh=>absurd rfl h⟩
set_option maxHeartbeats 2000000 in
theorem c56(w:World)(x:Ixs)(hl:x.al.length<=900000)(hr:x.ro.length<=1000000)(hb:x.bm.length<=100000):CE 56 #[.agg #[.string (bs x.ro),.string (bs x.al),.string (bs x.bm)]] w [] (λg:(Int×Int×Int)×(Option Addr×Nat)×List LNd=>.tuple #[.agg #[.string (bs x.ro),.string (bs x.al),.string (bs x.bm),.int .i64 g.1.1,.int .i64 g.1.2.1,.int .i64 g.1.2.2,.slice g.2.1.1 g.2.2.length g.2.1.2],.int .i64 (ixE x)]) (λg=>(ixE x=0->(⟨g.1.1,g.1.2.1,g.1.2.2,pln g.2.2⟩:Tre)=(Qd x.ro).1)) λg=>[.nodes 27 69 g.2.1.1 g.2.1.2 g.2.2]:=by
 have hn9:x.n<=x.al.length:=Nat.div_le_self _ _
 have hpd:Q7 ((x.n+7)/8)=((x.n+7)/8+7)/8*8:=rfl
 refine eN1 Tryz.func56 Tryz.ntmps56 ?_
 refine aU2 ?_
 refine oBx λb1 _=>?_
 refine oAl (λb2 _=>?_) Qbr
 refine aU5 ?_
 refine o_p (QF (cs:=[_,_,_,_,_,_,_]) rfl rfl Qqf Qbr rfl) rfl (oAl (λb3 _=>?_) Qbr)
 refine aU5 ?_
 refine oCq rfl (λw1 h1=>Qk5 w1 x 0 0 0 none 0 0 om) (aT6 ?_)
 refine aT ?_
 refine o_p (XQ rfl rfl rfl om om om) rfl (aU3 ?_)
 refine ZC (α:=Int) [7,17,18,19,20,21,22,23,24,25,26,27,28,29,30,31,32,33,34,35,36,37,38,39,40,41,42,43,44,45,46] (λe=>[(7,.int .i64 e)]) (λe=>(e=0->(x.al.length<=61440/\x.ro.length<=200000)/\x.al.length%512=0/\x.bm.length=Q7 ((x.n+7)/8))/\(¬e=0->ixE x=e)) ?_ ?_
 ·skip
  refine Qt [] QC ?_
  refine dFa 0 ?_
  refine dLd 1 [] ?_
  refine dV 2 rfl (Qp rfl rfl Tryz.underlying9) (dP 3 ?_)
  refine dP 4 ?_
  apply XA 21
  ·exact rfl
  ·intro hg4
   have hs5:=hg4;try simp only[dT]at hs5
   refine dFo 5 21 hg4 ?_
   refine dQo 6 21 [] hg4 rfl rfl rfl (X8 rfl rfl Zt aPk rfl) ?_
   refine dVo 7 21 hg4 rfl rfl rfl (Qp rfl rfl Tryz.underlying9) ?_
   refine dPo 8 21 hg4 ?_
   refine dV 9 rfl (Xv rfl rfl hg4 rfl) (dQ 10 [] rfl (Qv rfl QbI rfl (λw1 h1=>c60 w1 _ _)) (dFa 11 ?_))
   refine dLd 12 [] ?_
   refine dV 13 rfl (Qp rfl rfl Tryz.underlying9) (dV 14 rfl (Zd rfl rfl rfl om om) (dP 15 ?_))
   refine dP 16 ?_
   apply XA 33
   ·exact rfl
   ·intro hg6
    have hs7:=hg6;try simp only[dT]at hs7
    refine dFo 17 33 hg6 ?_
    refine dQo 18 33 [] hg6 rfl rfl rfl (X8 rfl rfl Zt aPk rfl) ?_
    refine dVo 19 33 hg6 rfl rfl rfl (Qp rfl rfl Tryz.underlying9) ?_
    refine dPo 20 33 hg6 ?_
    refine dPo 21 33 hg6 ?_
    try refine dWr ?_
    refine dPo 22 33 hg6 ?_
    try refine dWr ?_
    refine dVo 23 33 hg6 rfl rfl rfl (XQ rfl rfl rfl om om om) ?_
    refine dPo 24 33 hg6 ?_
    try refine dWr ?_
    refine dPo 25 33 hg6 ?_
    refine dV 26 rfl (Xv rfl rfl hg6 rfl) (dQ 27 [] rfl (Qv rfl QbI rfl (λw1 h1=>c60 w1 _ _)) (dH 28 rfl (Qe (cs:=[_,_]) rfl rfl Yo ZR rfl rfl rfl) (λb8 _=>dBa ?_)))
    refine dQ 29 [] rfl (Qv rfl Qgp rfl (λw1 h1=>f59 h1 aPk (by rfl) (by rfl) (by decide))) (dP 30 ?_)
    refine dNi ?_
    exact Qo (Xr [.int .i64 (bif decide ((x.ro.length:Int)<=200000)then 0 else 8),.int .i64 (bif decide ((x.bm.length:Int)=(((x.n:Int)+8-1)/8+8-1)/8*8)then 0 else 10)]) (Qew (x:=x) (by first|(simp only[decide_eq_true_eq];omega)|(simp;omega)|grind) (by first|(simp only[decide_eq_true_eq];omega)|(simp;omega)|grind)) aSx (λw h=>h.ent aEt)
   intro hg9
   have hs10:=hg9;try simp only[dN]at hs10
   refine dOf 17 33 hg9 ?_
   refine dOf 18 33 hg9 ?_
   refine dOf 19 33 hg9 ?_
   refine dOf 20 33 hg9 ?_
   refine dOf 21 33 hg9 ?_
   refine dOf 22 33 hg9 ?_
   refine dOf 23 33 hg9 ?_
   refine dOf 24 33 hg9 ?_
   refine dOf 25 33 hg9 ?_
   refine dV 26 rfl (Xl rfl rfl hg9 rfl) (dQ 27 [] rfl (Qv rfl QbI rfl (λw1 h1=>c60 w1 _ _)) (dH 28 rfl (Qe (cs:=[_,_]) rfl rfl Yo ZR rfl rfl rfl) (λb11 _=>dBa ?_)))
   refine dQ 29 [] rfl (Qv rfl Qgp rfl (λw1 h1=>f59 h1 aPk (by rfl) (by rfl) (by decide))) (dP 30 ?_)
   refine dNi ?_
   exact Qo (Xr [.int .i64 (bif decide ((x.ro.length:Int)<=200000)then 0 else 8),.int .i64 (bif false then 0 else 10)]) (Qew (x:=x) (by first|(simp only[decide_eq_true_eq];omega)|(simp;omega)|grind) (by first|(simp only[decide_eq_true_eq];omega)|(simp;omega)|grind)) aSx (λw h=>h.ent aEt)
  intro hg12
  have hs13:=hg12;try simp only[dN]at hs13
  refine dOf 5 21 hg12 ?_
  refine dOf 6 21 hg12 ?_
  refine dOf 7 21 hg12 ?_
  refine dOf 8 21 hg12 ?_
  refine dV 9 rfl (Xl rfl rfl hg12 rfl) (dQ 10 [] rfl (Qv rfl QbI rfl (λw1 h1=>c60 w1 _ _)) (dFa 11 ?_))
  refine dLd 12 [] ?_
  refine dV 13 rfl (Qp rfl rfl Tryz.underlying9) (dV 14 rfl (Zd rfl rfl rfl om om) (dP 15 ?_))
  refine dP 16 ?_
  apply XA 33
  ·exact rfl
  ·intro hg14
   have hs15:=hg14;try simp only[dT]at hs15
   refine dFo 17 33 hg14 ?_
   refine dQo 18 33 [] hg14 rfl rfl rfl (X8 rfl rfl Zt aPk rfl) ?_
   refine dVo 19 33 hg14 rfl rfl rfl (Qp rfl rfl Tryz.underlying9) ?_
   refine dPo 20 33 hg14 ?_
   refine dPo 21 33 hg14 ?_
   try refine dWr ?_
   refine dPo 22 33 hg14 ?_
   try refine dWr ?_
   refine dVo 23 33 hg14 rfl rfl rfl (XQ rfl rfl rfl om om om) ?_
   refine dPo 24 33 hg14 ?_
   try refine dWr ?_
   refine dPo 25 33 hg14 ?_
   refine dV 26 rfl (Xv rfl rfl hg14 rfl) (dQ 27 [] rfl (Qv rfl QbI rfl (λw1 h1=>c60 w1 _ _)) (dH 28 rfl (Qe (cs:=[_,_]) rfl rfl Yo ZR rfl rfl rfl) (λb16 _=>dBa ?_)))
   refine dQ 29 [] rfl (Qv rfl Qgp rfl (λw1 h1=>f59 h1 aPk (by rfl) (by rfl) (by decide))) (dP 30 ?_)
   refine dNi ?_
   exact Qo (Xr [.int .i64 (bif false then 0 else 8),.int .i64 (bif decide ((x.bm.length:Int)=(((x.n:Int)+8-1)/8+8-1)/8*8)then 0 else 10)]) (Qew (x:=x) (by first|(simp only[decide_eq_true_eq];omega)|(simp;omega)|grind) (by first|(simp only[decide_eq_true_eq];omega)|(simp;omega)|grind)) aSx (λw h=>h.ent aEt)
  intro hg17
  have hs18:=hg17;try simp only[dN]at hs18
  refine dOf 17 33 hg17 ?_
  refine dOf 18 33 hg17 ?_
  refine dOf 19 33 hg17 ?_
  refine dOf 20 33 hg17 ?_
  refine dOf 21 33 hg17 ?_
  refine dOf 22 33 hg17 ?_
  refine dOf 23 33 hg17 ?_
  refine dOf 24 33 hg17 ?_
  refine dOf 25 33 hg17 ?_
  refine dV 26 rfl (Xl rfl rfl hg17 rfl) (dQ 27 [] rfl (Qv rfl QbI rfl (λw1 h1=>c60 w1 _ _)) (dH 28 rfl (Qe (cs:=[_,_]) rfl rfl Yo ZR rfl rfl rfl) (λb19 _=>dBa ?_)))
  refine dQ 29 [] rfl (Qv rfl Qgp rfl (λw1 h1=>f59 h1 aPk (by rfl) (by rfl) (by decide))) (dP 30 ?_)
  refine dNi ?_
  exact Qo (Xr [.int .i64 (bif false then 0 else 8),.int .i64 (bif false then 0 else 10)]) (Qew (x:=x) (by first|(simp only[decide_eq_true_eq];omega)|(simp;omega)|grind) (by first|(simp only[decide_eq_true_eq];omega)|(simp;omega)|grind)) aSx (λw h=>h.ent aEt)
 intro e9 he9
 refine aU6 ?_
 refine sCd rfl (λh20=>?_) λh20=>?_
 ·have hR:ixE x=e9:=he9.2 h20
  refine aU7 ?_
  exact Qk (rs:=[.cell 2 108,.tmp 3]) rfl (.cell rfl YT aPk rfl (.tmp rfl (.nil))) (λw' h'=>⟨((0,0,0),(none,0),[]),by rw[hR];rfl,(λh9=>by rw[hR]at h9;exact absurd h9 (by assumption)),(Xe 27 69 h'.nil).ent aEt⟩)
 obtain⟨hA,hBB⟩:=he9.1 h20
 refine aU6 ?_
 refine oCh rfl (λw1 h1=>c28 w1 x.ro hr) (λ⟨⟨ra,rc⟩,RL⟩hRL=>Zx ?_)
 refine sCd rfl (λh21=>?_) λh21=>?_
 ·have hR:=Qnk hA hBB h21
  refine aU7 ?_
  exact Qk (rs:=[.cell 2 108,.tmp 3]) rfl (.cell rfl YT aPk rfl (.tmp rfl (.nil))) (λw' h'=>⟨(((Qd x.ro).1.co,(Qd x.ro).1.mo,(Qd x.ro).1.rm),(ra,rc),RL),by rw[hR];rfl,(λh9=>by rw[hR]at h9;first|exact absurd h9 (by assumption)|cases h9),h'.ent aEt⟩)
 have hC:(Qd x.ro).2=0:=h21
 refine aU6 ?_
 refine o_p (Qp rfl rfl Tryz.underlying9) rfl (aT ?_)
 refine aU3 ?_
 refine Qg (L':=[(1,_),(2,_),(3,_),(4,_),(5,_),(65,_),(66,_)]) aSx (λ_ h=>h) ?_
 refine Qx (α:=Nat) [3,8,66,67,68,69,70,71,72,73,74,75,76,77,78,79,80,81,82,83,84,85] (λk=>[(66,.int .i64 (k:Int))]) (λ_=>HS w [] [.nodes 27 69 ra rc RL,.blk b3 108 7 [.string (bs x.ro),.string (bs x.al),.string (bs x.bm),.int .i64 (Qd x.ro).1.co,.int .i64 (Qd x.ro).1.mo,.int .i64 (Qd x.ro).1.rm,.slice ra RL.length rc],.blk b2 108 7 [.string (bs []),.string (bs []),.string (bs []),.int .i64 0,.int .i64 0,.int .i64 0,.slice none 0 0],.blk b1 23 3 [.string (bs x.ro),.string (bs x.al),.string (bs x.bm)]]) (λk=>k<=8*x.bm.length/\∀j,j<k->x.n<=j->Qao x.bm j=false) (λk=>8*x.bm.length-k) 0 ⟨Nat.zero_le _,λj h=>absurd h (Nat.not_lt_zero _)⟩ aSx (λw h=>h.ent aEt) (λk hkk=>?_)
 obtain⟨hk1,hk2⟩:=hkk
 refine aU5 ?_
 refine sCd rfl (λh22=>?_) λh22=>?_
 ·have hk:k<8*x.bm.length:=by have hq:=h22;omega
  refine QeV ?_
  refine XF 11 72 83 rfl
   (λhg23 _=>by
    refine aU7 ?_
    refine o_p (XQ rfl rfl rfl om om om) rfl (aU ?_)
    refine o_p (XO rfl rfl rfl Tryz.underlying9 (k/8) om om) rfl ?_
    refine Qh (show _=Value.int .u8 ((ub1 x.bm (k/8):Nat):Int)from rfl) (aU3 ?_)
    refine o_p (Zd rfl rfl rfl om om) rfl (aU ?_)
    refine o_p (Qed rfl rfl rfl om (k%8) (by show min _ 8=_;omega)) rfl (aU4 ?_)
    exact oJt 11 83)
   (λhg25 _=>by
    refine Za ?_
    exact oJf 11 83) ?_
  refine aU ?_
  refine sCd rfl (λh27=>?_) λh27=>?_
  ·have hR:=QmE hA hBB hC (Qjk (x:=x) (j:=k) (by have hq:=h27;omega) hk (by rw[<-QgP];have hq:=h27;exact decide_eq_true hq.2))
   refine aU6 ?_
   exact Qk (rs:=[.cell 2 108,.tmp 3]) rfl (.cell rfl YT aPk rfl (.tmp rfl (.nil))) (λw' h'=>⟨(((Qd x.ro).1.co,(Qd x.ro).1.mo,(Qd x.ro).1.rm),(ra,rc),RL),by rw[hR];rfl,(λh9=>by rw[hR]at h9;cases h9),h'.ent aEt⟩)
  have hZ:x.n<=k->Qao x.bm k=false:=λh9=>by rw[<-QgP];refine decide_eq_false λh8=>?_;have hq:=h27;grind
  refine aT4 ?_
  refine aU2 ?_
  exact sBk (k+1) om ⟨om,λj hj hn=>(Nat.lt_or_ge j k).elim (λh=>hk2 j h hn) (λh=>by obtain rfl:j=k:=om;exact hZ hn)⟩
 have hO:=Qni (x:=x) (λj h1 h2=>hk2 j (by have hq:=h22;omega) h1)
 have hE:=Qns hA hBB hC hO
 refine Qn rfl ?_
 refine aU ?_
 refine Qt [9] QC ?_
 refine dLn 0 [[]] ?_
 refine dP 1 ?_
 refine dP 2 ?_
 refine dP 3 ?_
 apply XA 89
 ·exact rfl
 ·intro hg28
  have hs29:=hg28;try simp only[dT]at hs29
  refine dOf 4 89 hg28 ?_
  refine dOf 5 89 hg28 ?_
  refine dOf 6 89 hg28 ?_
  refine dV 7 rfl (Xv rfl rfl hg28 rfl) (dQ 8 [[]] rfl (Qv rfl QbI rfl (λw1 h1=>c60 w1 _ _)) (dSt 9 ?_ (hl:=(by simp only[Qm,List.length_set,List.length_cons,List.length_nil,List.length_map];omega))))
  refine dTu [] ?_
  refine dP 10 ?_
  refine dNi ?_
  exact Qk (rs:=[.cell 2 108,.tmp 3]) rfl (.cell rfl YT aPk rfl (.tmp rfl (.nil))) (λw' h'=>⟨(((Qd x.ro).1.co,(Qd x.ro).1.mo,(Qd x.ro).1.rm),(ra,rc),RL),(by first|(rw[QfF hE (v:=true) ⟨λ_=>.inl (by grind),λ_=>rfl⟩];rfl)|(rw[QfF hE (v:=ZZ x x.n) (QjV (by grind))];rfl)|(exfalso;grind)),(λ_=>by rw[hRL]),h'.ent aEt⟩)
 intro hg30
 have hs31:=hg30;try simp only[dN]at hs31
 refine dQo 4 89 [[8,6]] hg30 rfl rfl rfl (QaD rfl rfl YT aPk rfl) ?_
 refine dPo 5 89 hg30 ?_
 refine dQo 6 89 [[8]] hg30 rfl rfl rfl (Qv rfl QtD rfl (λw1 h1=>c61 w1 x (Qd x.ro).1.co (Qd x.ro).1.mo (Qd x.ro).1.rm ra RL.length rc x.n om om)) ?_
 refine dV 7 rfl (Xl rfl rfl hg30 rfl) (dQ 8 [[]] rfl (Qv rfl QbI rfl (λw1 h1=>c60 w1 _ _)) (dSt 9 ?_ (hl:=(by simp only[Qm,List.length_set,List.length_cons,List.length_nil,List.length_map];omega))))
 refine dTu [] ?_
 refine dP 10 ?_
 refine dNi ?_
 exact Qk (rs:=[.cell 2 108,.tmp 3]) rfl (.cell rfl YT aPk rfl (.tmp rfl (.nil))) (λw' h'=>⟨(((Qd x.ro).1.co,(Qd x.ro).1.mo,(Qd x.ro).1.rm),(ra,rc),RL),(by first|(rw[QfF hE (v:=true) ⟨λ_=>.inl (by grind),λ_=>rfl⟩];rfl)|(rw[QfF hE (v:=ZZ x x.n) (QjV (by grind))];rfl)|(exfalso;grind)),(λ_=>by rw[hRL]),h'.ent aEt⟩)
def Qoe(x:Ixs):Bool:=((decide ((x.al.length:Int)<=10241)||(decide ((x.al.length:Int)>61440)&&decide ((x.al.length:Int)<200000)))&&decide ((x.ro.length:Int)<=500))&&decide ((x.bm.length:Int)<=40)
theorem Qr5{x:Ixs}(h:Qoe x=true):x.al.length<=200000/\x.ro.length<=500/\x.bm.length<=40:=by
  simp only[Qoe,Bool.and_eq_true,Bool.or_eq_true,decide_eq_true_eq]at h;omega
theorem c12(w:World)(x:Ixs):CR 12 #[.agg #[.string (bs x.ro),.string (bs x.al),.string (bs x.bm)]] w (.bool (Qoe x)):=by
 refine eN1 Tryz.func12 Tryz.ntmps12 ?_
 refine aU2 ?_
 refine oBx λb1 _=>?_
 refine aU6 ?_
 refine o_p (Qp rfl rfl Tryz.underlying9) rfl (aU2 ?_)
 refine oOr 11 7 18 rfl
  (λhg2 _=>by
   refine aU5 ?_
   refine o_p (Qp rfl rfl Tryz.underlying9) rfl (aU4 ?_)
   refine XF 5 12 17 rfl
    (λhg4 _=>by
     refine aU5 ?_
     refine o_p (Qp rfl rfl Tryz.underlying9) rfl (aU3 ?_)
     exact oJt 5 17)
    (λhg6 _=>by
     refine aU5 ?_
     exact oJf 5 17) ?_
   exact oJf 7 18)
  (λhg8 _=>by
   refine Za ?_
   exact oJt 11 18) ?_
 refine aU ?_
 refine XF 5 19 24 rfl
  (λhg10 _=>by
   refine aU5 ?_
   refine o_p (Qp rfl rfl Tryz.underlying9) rfl (aU2 ?_)
   exact oJt 5 24)
  (λhg12 _=>by
   refine aU4 ?_
   exact oJf 5 24) ?_
 refine aU ?_
 refine XF 5 25 30 rfl
  (λhg14 _=>by
   refine aU5 ?_
   refine o_p (Qp rfl rfl Tryz.underlying9) rfl (aU2 ?_)
   exact oJt 5 30)
  (λhg16 _=>by
   refine aU4 ?_
   exact oJf 5 30) ?_
 refine aU2 ?_
 exact rV
end Go.Proofs
namespace Gx
open Go Go.RowKit
section
variable{w0 w:World}{M:List Nat}{As As':List HA}{a:Option Addr}{cap et nt':Nat}{L:List LNd}
theorem HS.nodes_open(h:HS w0 M As w)(hp:QE As (.nodes et nt' a cap L) As'):HS w0 M (.own (.slice a L.length cap) nt' 3 L.length (L.flatMap LNd.vals)::.star (L.map (Qs et))::As') w:=HS.row_open (h.pick hp)
theorem HS.nodes_app{n:LNd}(h:HS w0 M (.ents et n.ea n.ec n.es::.kids n.ca n.cc n.cs::.star (L.map (Qs et))::.own (.slice a (L.length+1) cap) nt' 3 (L.length+1) (L.flatMap LNd.vals++LNd.vals n)::As) w):HS w0 M (.nodes et nt' a cap (L++[n])::As) w:=by
 have h2:HS w0 M (Qs et n::.star (L.map (Qs et))::.own (.slice a (L.length+1) cap) nt' 3 (L.length+1) (L.flatMap LNd.vals++LNd.vals n)::As) w:=HS.star_close (Bs:=[_,_]) h;have h3:=HS.sub_app h2;exact HS.row_shut (l:=L++[n]) (h3.perm (List.Perm.swap ..)) (by simp) (by simp[List.flatMap_append])
end
theorem QeB{x:Ixs}{i:Nat}(h:1<=i/\i*512<=x.al.length):(x.blk i).length=512:=Xn om
theorem QnJ{x:Ixs}{i:Nat}(h:1<=i/\i*512<=x.al.length):x.blk i=QeM ↔ zer (x.blk i)=true:=by
 rw[Qbb,QeB h];rfl
theorem QgS{x:Ixs}{i:Nat}(h:ZZ x i=false):bkN x i=Qk2:=by unfold bkN;rw[h];rfl
theorem Qc2{x:Ixs}{i:Nat}(h:ZZ x i=false):bkE x i=if zer (x.blk i)=true then 0 else 3:=by unfold bkE;rw[h];rfl
theorem Qe5{x:Ixs}{i:Nat}(h:ZZ x i=true):bkN x i=(XN (x.blk i) i).n:=by unfold bkN;rw[h];rfl
theorem Qbz{x:Ixs}{i:Nat}(h:ZZ x i=true):bkE x i=(XN (x.blk i) i).e:=by unfold bkE;rw[h];rfl
theorem QhX{x:Ixs}:∀(m f i:Nat),(∀j,i<=j->j<i+m->bkE x j=0)->m<f->¬bkE x (i+m)=0->Qhm x f i=some (i+m)
 | 0,0,_,_,h,_=>absurd h (Nat.lt_irrefl _)
 | 0,f+1,i,_,_,hb=>by grind[Qhm]
 | m+1,0,_,_,h,_=>absurd h (Nat.not_lt_zero _)
 | m+1,f+1,i,h,hf,hb=>by
  rw[Qhm,if_pos (h i (Nat.le_refl _) om),QhX m f (i+1) (λj h1 h2=>h j om om) om (by rw[show i+1+m=i+(m+1) by omega];exact hb)];congr 1;omega
theorem Qlc{x:Ixs}(h:¬ixE x=0):rdI x=((noT,0),ixE x):=by unfold rdI;rw[if_neg h]
theorem Qgj{x:Ixs}{k:Nat}(h:ixE x=0)(hk:k<x.n)(h1:∀j,j<k->bkE x (j+1)=0)(h2:¬bkE x (k+1)=0):rdI x=((noT,((k+1:Nat):Int)),bkE x (k+1)):=by
 have e:Qhm x x.n 1=some (k+1):=by
  have h9:=QhX (x:=x) k x.n 1 (λj a b=>by
   obtain⟨j,rfl⟩:∃q,j=q+1:=⟨j-1,om⟩;exact h1 j om) hk (by rw[Nat.add_comm];exact h2)
  grind
 grind[rdI]
theorem QlH{x:Ixs}(h:ixE x=0)(h1:∀j,j<x.n->bkE x (j+1)=0):rdI x=if(XV (Qa5 x)).2=0 then((Qa5 x,0),0)else((noT,(XV (Qa5 x)).1),(XV (Qa5 x)).2):=by
 have e:Qhm x x.n 1=none:=Qe7 λj a b=>by
  obtain⟨j,rfl⟩:∃q,j=q+1:=⟨j-1,om⟩;exact h1 j om
 grind[rdI]
structure NdS(n:Nd):Prop where
 es:n.es.length<=255
 cs:n.cs.length<=256
 ent:∀x∈n.es,x.key.length<=1000000/\x.val.length<=1000000
theorem NdS.no:NdS Qk2:=⟨Nat.zero_le _,Nat.zero_le _,λx hx=>by cases hx⟩
theorem Qi5{x:TEnt}(h:Yy x 0=true):x.key.length<=1000000/\x.val.length<=1000000:=by grind[Yy]
theorem NdS.of(b:List UInt8)(num:Int):NdS (XN b num).n:=by
 by_cases h1:b.length=512
 ·by_cases h2:1<=num/\num<=120
  ·cases h3:X2 b with
   | true=>rw[QfB h1 h2 h3];exact NdS.no
   | false=>
    cases h4:rdB (Xa b)with
    | none=>rw[QeK h1 h2 h3 h4];exact NdS.no
    | some q=>
     obtain⟨m,last⟩:=q;have e:=Qdj h1 h2 h3 h4;obtain⟨_,_,_,q4,q5,q6⟩:=Qba (Y6 h1) h4;have hcl:=q6.cl;rw[e];split
     ·exact⟨by show m.es.length<=_;omega,by show m.cs.length<=_;omega,λx hx=>Qi5 (q6.es x hx)⟩
     ·exact NdS.no
  ·rw[QiA h1 h2];exact NdS.no
 ·rw[QiN h1];exact NdS.no
theorem NdS.bk(x:Ixs)(i:Nat):NdS (bkN x i):=by grind[bkN,NdS.of,NdS.no]
theorem QbG{x:Ixs}(h:(Qd x.ro).2=0)(k:Nat):∀n∈QH x k,NdS n:=by
 obtain⟨n0,l0,hr,_,_,hrt,hl,_⟩:=ZE h;intro n hn;unfold QH at hn;rw[List.mem_append,hrt]at hn;rcases hn with hn|hn
 ·have hn:n=n0:=by simpa using hn
  subst hn;obtain⟨_,_,_,_,_,q6,q7,q8,_⟩:=QeN om hr;have:=YG x.ro 7;exact⟨om,om,λy hy=>Qi5 (q8 y hy)⟩
 grind[NdS.bk]
theorem QgA{x:Ixs}(h:(Qd x.ro).2=0){k:Nat}(hk:k<=900):Bd (QH x k):=by
 obtain⟨n0,l0,_,_,_,hrt,_⟩:=ZE h;have hl:=Y7 (x:=x) (by rw[hrt];rfl) k;exact⟨om,λi hi=>by have:=(QbG h k _ (QI hi)).es;omega,λi hi=>by have:=(QbG h k _ (QI hi)).cs;omega⟩
theorem Qkk{x:Ixs}(h:(Qd x.ro).2=0){k:Nat}{L:List LNd}(hL:pln L=QH x k):∀i,i<L.length->∀y∈(nth L i).es,y.key.length<=1000000/\y.val.length<=1000000:=λi hi y hy=>by
 have h1:=(QbG h k (nth (pln L) i) (by rw[<-hL];exact QI (by rwa[Qb]))).ent y;rw[Ql hi]at h1;exact h1 hy
end Gx
namespace Go.Proofs
open Go Go.RowKit Gx
attribute [local irreducible] Go.Calls Gx.S Gx.O Gx.D Gx.OpP Gx.OpQ Gx.OpH
set_option maxRecDepth 20000
instance:TFn Tryz.prog 49:=⟨by kernel_rfl⟩
instance:TFn Tryz.prog 69:=⟨by kernel_rfl⟩
set_option maxHeartbeats 4000000 in
theorem c16(w:World)(x:Ixs)(hl:x.al.length<=900000)(hr:x.ro.length<=1000000)(hb:x.bm.length<=100000):CE 16 #[.agg #[.string (bs x.ro),.string (bs x.al),.string (bs x.bm)]] w [] (λg:(Option Addr×Nat)×List LNd=>.tuple #[.agg #[.int .i64 (rdI x).1.1.co,.int .i64 (rdI x).1.1.mo,.int .i64 (rdI x).1.1.rm,.slice g.1.1 g.2.length g.1.2],.int .i64 (rdI x).1.2,.int .i64 (rdI x).2]) (λg=>pln g.2=(rdI x).1.1.ns) λg=>[.nodes 27 69 g.1.1 g.1.2 g.2]:=by
 have hn9:x.n<=x.al.length:=Nat.div_le_self _ _
 have hn8:x.n=x.al.length/512:=rfl
 refine eN1 Tryz.func16 Tryz.ntmps16 ?_
 refine aU2 ?_
 refine oBx λb1 _=>?_
 refine oAl (λb2 _=>?_) Xh
 refine aU5 ?_
 refine o_p (QF (cs:=[_,_,_,_]) rfl rfl ZP Xh rfl) rfl (oAl (λb3 _=>?_) Xh)
 refine aU6 ?_
 refine oCq rfl (λw1 h1=>c49 w1 x hl hr hb) (aU7 ?_)
 refine sCd rfl (λh4=>?_) λh4=>?_
 ·have hR:=Qlc (x:=x) h4
  refine aU8 ?_
  exact Qk (rs:=[.cell 2 37,.tmp 3,.tmp 4]) rfl (.cell rfl XR aPk rfl (.tmp rfl (.tmp rfl (.nil)))) (λw' h'=>⟨((none,0),[]),by rw[hR];rfl,by rw[hR];rfl,(Xe 27 69 h'.nil).ent aEt⟩)
 have hE:ixE x=0:=h4
 obtain⟨hA,hB,hC,hO,hLs⟩:=QcQ hE
 obtain⟨n0,l0,_,_,_,hrt,_⟩:=ZE hC
 have hL1:(Qd x.ro).1.ns.length=1:=by rw[hrt];rfl
 refine aU5 ?_
 refine oCh rfl (λw1 h1=>c31 w1 x.ro hr) (λ⟨⟨ra,rc⟩,RL⟩hRL=>aU3 ?_)
 refine oAl (λb5 _=>?_) Xh
 refine aU9 ?_
 refine Qg (L':=[(1,_),(2,_),(3,_),(4,_),(5,_),(7,_),(9,_)]) aSx (λ_ h=>h) ?_
 refine Qx (α:=Nat×(Option Addr×Nat)×List LNd) [3,4,9,10,11,12,13,29,30,31,32,33,34,35,36,37,38,39,40,41,42,43,44,45,46,47,48,49,50,51,52,53,54,55,56,57,58,59,60,61,62,63,64,65,66,67,68,69,70,71,72] (λx=>[(9,.int .i64 ((x.1+1:Nat):Int))]) (λy=>HS w [] [.nodes 27 69 y.2.1.1 y.2.1.2 y.2.2,.blk b5 37 4 [.int .i64 (Qd x.ro).1.co,.int .i64 (Qd x.ro).1.mo,.int .i64 (Qd x.ro).1.rm,.slice y.2.1.1 y.2.2.length y.2.1.2],.blk b3 37 4 [.int .i64 0,.int .i64 0,.int .i64 0,.slice none 0 0],.blk b2 37 4 [.int .i64 0,.int .i64 0,.int .i64 0,.slice none 0 0],.blk b1 23 3 [.string (bs x.ro),.string (bs x.al),.string (bs x.bm)]]) (λy=>y.1<=x.n/\pln y.2.2=QH x y.1/\∀j,j<y.1->bkE x (j+1)=0) (λy=>x.n-y.1) (0,(ra,rc),RL) ⟨Nat.zero_le _,by(try simp only[]);rw[hRL];unfold QH;simp,λj h=>absurd h (Nat.not_lt_zero _)⟩ aSx (λw h=>h.ent aEt) (λ⟨k,⟨ga,gc⟩,L⟩hkk=>?_)
 dsimp only
 simp only[]at hkk
 obtain⟨hk1,hk2,hk3⟩:=hkk
 have hLl:L.length=k+1:=by rw[<-Qb,hk2,Y7 hL1]
 refine aU5 ?_
 refine oCq rfl (λw1 h1=>c66 w1 x om) (aU2 ?_)
 refine sCd rfl (λh6=>?_) λh6=>?_
 ·have hk:k<x.n:=by have hq:=h6;omega
  have hb5:=QeB (x:=x) (i:=k+1) om
  have hnm:ZZ x (k+1)=Qao x.bm (k+1-1):=by unfold ZZ;rw[decide_eq_true om,Bool.true_and]
  refine aU8 ?_
  refine oCq rfl (λw1 h1=>c67 w1 x (k+1) om om) (aU2 ?_)
  refine sCd rfl (λh7=>?_) λh7=>?_
  ·have hnf:ZZ x (k+1)=false:=by rw[hnm];have hq:=h7;simpa using hq
   refine aU5 ?_
   refine oCq rfl (λw1 h1=>c69 w1 x (k+1) om om) (oCq rfl (λw1 h1=>c53 w1 (x.blk (k+1)) om) (aU2 ?_))
   refine sCd rfl (λh8=>?_) λh8=>?_
   ·have hbe:bkE x (k+1)=3:=by rw[Qc2 hnf,if_neg];have hq:=h8;simpa using hq
    have hR:=Qgj hE hk hk3 (by rw[hbe];decide)
    rw[hbe]at hR
    refine aU8 ?_
    exact Qk (rs:=[.cell 2 37,.tmp 3,.tmp 4]) rfl (.cell rfl XR aPk rfl (.tmp rfl (.tmp rfl (.nil)))) (λw' h'=>⟨((none,0),[]),by rw[hR];rfl,by rw[hR];rfl,(Xe 27 69 h'.nil).ent aEt⟩)
   have hbe:bkE x (k+1)=0:=by rw[Qc2 hnf,if_pos];have hq:=h8;simpa using hq
   refine aU4 ?_
   refine QQ (C':=HS w [] [.own (.slice ga L.length gc) 69 3 L.length (L.flatMap LNd.vals),.star (L.map (Qs 27)),.blk b5 37 4 [.int .i64 (Qd x.ro).1.co,.int .i64 (Qd x.ro).1.mo,.int .i64 (Qd x.ro).1.rm,.slice ga L.length gc],.blk b3 37 4 [.int .i64 0,.int .i64 0,.int .i64 0,.slice none 0 0],.blk b2 37 4 [.int .i64 0,.int .i64 0,.int .i64 0,.slice none 0 0],.blk b1 23 3 [.string (bs x.ro),.string (bs x.al),.string (bs x.bm)]]) (λw9 h=>(HS.nodes_open h aPk).ent aEt) (aU ?_)
   refine o_p (QF (cs:=[_,_,_]) rfl rfl QbP Xj rfl) rfl (o_h (Qe (cs:=[_,_,_]) rfl rfl Qw Xj rfl rfl rfl) rfl (λb9 _=>?_))
   refine o_h (QL [_,_,_] rfl rfl rfl Qw Tryz.underlying35 Xj rfl aPk (Xb aPk) rfl (by intro u hu;simp only[List.mem_cons,List.mem_nil_iff,or_false]at hu;rcases hu with rfl|rfl|rfl<;>rfl) om (by simp only[maxLen];omega)) rfl (λb10 _=>aU3 ?_)
   refine Qn rfl ?_
   refine aT3 ?_
   refine Qh (show _=Value.int .i64 ((k+1+1:Nat):Int)from congrArg (Value.int .i64) om) (aU2 ?_)
   exact Q1 (k+1,(b10.1,b10.2),L++[⟨false,none,0,[],none,0,[]⟩]) (by(try simp only[]);omega) ⟨by(try simp only[]);omega,by(try simp only[]);rw[Qcd,hk2,Qcg,QgS hnf];rfl,λj hj=>(Nat.lt_or_ge j k).elim (hk3 j) (λh=>by obtain rfl:j=k:=om;exact hbe)⟩ (by simp only[List.length_append,List.length_singleton];exact aSx) (λw h=>by have h9:=((h.own_nil 3 1).own_nil 27 2);have h8:=HS.nodes_app (n:=⟨false,none,0,[],none,0,[]⟩) (L:=L) (et:=27) (nt':=69) (h9.ent (Bs:=[.ents 27 (⟨false,none,0,[],none,0,[]⟩:LNd).ea (⟨false,none,0,[],none,0,[]⟩:LNd).ec (⟨false,none,0,[],none,0,[]⟩:LNd).es,.kids (⟨false,none,0,[],none,0,[]⟩:LNd).ca (⟨false,none,0,[],none,0,[]⟩:LNd).cc (⟨false,none,0,[],none,0,[]⟩:LNd).cs,.star (L.map (Qs 27)),.own (.slice b10.1 (L.length+1) b10.2) 69 3 (L.length+1) (L.flatMap LNd.vals++LNd.vals ⟨false,none,0,[],none,0,[]⟩),.blk b5 37 4 [.int .i64 (Qd x.ro).1.co,.int .i64 (Qd x.ro).1.mo,.int .i64 (Qd x.ro).1.rm,.slice b10.1 (L.length+1) b10.2],.blk b3 37 4 [.int .i64 0,.int .i64 0,.int .i64 0,.slice none 0 0],.blk b2 37 4 [.int .i64 0,.int .i64 0,.int .i64 0,.slice none 0 0],.blk b1 23 3 [.string (bs x.ro),.string (bs x.al),.string (bs x.bm)]]) aEt);dsimp only;rw[List.length_append];exact h8.ent aEt)
  have hnf:ZZ x (k+1)=true:=by rw[hnm];have hq:=h7;simpa using hq
  refine aU5 ?_
  refine oCq rfl (λw1 h1=>c69 w1 x (k+1) om om) (aU ?_)
  refine oCh rfl (λw1 h1=>c39 w1 (x.blk (k+1)) ((k+1:Nat):Int) om) (λgn hgn=>aU5 ?_)
  refine oAl (λb11 _=>?_) Xj
  refine Zl ?_
  refine sCd rfl (λh12=>?_) λh12=>?_
  ·have hbe:=Qbz hnf
   have hR:=Qgj hE hk hk3 (by rw[hbe];exact h12)
   rw[hbe]at hR
   refine aU9 ?_
   exact Qk (rs:=[.cell 2 37,.tmp 3,.tmp 4]) rfl (.cell rfl XR aPk rfl (.tmp rfl (.tmp rfl (.nil)))) (λw' h'=>⟨((none,0),[]),by rw[hR];rfl,by rw[hR];rfl,(Xe 27 69 h'.nil).ent aEt⟩)
  have hbe:bkE x (k+1)=0:=by rw[Qbz hnf];exact h12
  refine aU3 ?_
  refine QQ (C':=HS w [] [.own (.slice ga L.length gc) 69 3 L.length (L.flatMap LNd.vals),.star (L.map (Qs 27)),.ents 27 gn.ea gn.ec gn.es,.kids gn.ca gn.cc gn.cs,.blk b11 69 3 (LNd.vals gn),.blk b5 37 4 [.int .i64 (Qd x.ro).1.co,.int .i64 (Qd x.ro).1.mo,.int .i64 (Qd x.ro).1.rm,.slice ga L.length gc],.blk b3 37 4 [.int .i64 0,.int .i64 0,.int .i64 0,.slice none 0 0],.blk b2 37 4 [.int .i64 0,.int .i64 0,.int .i64 0,.slice none 0 0],.blk b1 23 3 [.string (bs x.ro),.string (bs x.al),.string (bs x.bm)]]) (λw9 h=>(HS.nodes_open h aPk).ent aEt) (aU2 ?_)
  refine o_h (Qe (cs:=[_,_,_]) rfl rfl Qw Xj rfl rfl rfl) rfl (λb13 _=>?_)
  refine o_h (QL [_,_,_] rfl rfl rfl Qw Tryz.underlying35 Xj rfl aPk (Xb aPk) rfl (by intro u hu;simp only[List.mem_cons,List.mem_nil_iff,or_false]at hu;rcases hu with rfl|rfl|rfl<;>rfl) om (by simp only[maxLen];omega)) rfl (λb14 _=>aU4 ?_)
  refine Qg (L':=[(1,_),(2,_),(5,_),(7,_),(9,_)]) aSx (λ_ h=>h) ?_
  refine aT3 ?_
  refine Qh (show _=Value.int .i64 ((k+1+1:Nat):Int)from congrArg (Value.int .i64) om) (aU2 ?_)
  exact Q1 (k+1,(b14.1,b14.2),L++[gn]) (by(try simp only[]);omega) ⟨by(try simp only[]);omega,by(try simp only[]);rw[Qcd,hk2,Qcg,Qe5 hnf];(show _++[gn.pl]=_);rw[hgn],λj hj=>(Nat.lt_or_ge j k).elim (hk3 j) (λh=>by obtain rfl:j=k:=om;exact hbe)⟩ (by simp only[List.length_append,List.length_singleton];exact aSx) (λw h=>by have h9:=h;have h8:=HS.nodes_app (n:=gn) (L:=L) (et:=27) (nt':=69) (h9.ent (Bs:=[.ents 27 (gn:LNd).ea (gn:LNd).ec (gn:LNd).es,.kids (gn:LNd).ca (gn:LNd).cc (gn:LNd).cs,.star (L.map (Qs 27)),.own (.slice b14.1 (L.length+1) b14.2) 69 3 (L.length+1) (L.flatMap LNd.vals++LNd.vals gn),.blk b5 37 4 [.int .i64 (Qd x.ro).1.co,.int .i64 (Qd x.ro).1.mo,.int .i64 (Qd x.ro).1.rm,.slice b14.1 (L.length+1) b14.2],.blk b3 37 4 [.int .i64 0,.int .i64 0,.int .i64 0,.slice none 0 0],.blk b2 37 4 [.int .i64 0,.int .i64 0,.int .i64 0,.slice none 0 0],.blk b1 23 3 [.string (bs x.ro),.string (bs x.al),.string (bs x.bm)]]) aEt);dsimp only;rw[List.length_append];exact h8.ent aEt)
 obtain rfl:k=x.n:=by have hq:=h6;omega
 have hall:=QlH hE hk3
 have hT:(⟨(Qd x.ro).1.co,(Qd x.ro).1.mo,(Qd x.ro).1.rm,pln L⟩:Tre)=Qa5 x:=by rw[hk2];rfl
 refine Qn rfl ?_
 refine aU4 ?_
 refine oCq rfl (λw1 h1=>c71 w1 _ _ _ ga gc L (HS.nt h1 aPk) (by rw[hk2];exact QgA hC om) (λi hi y hy=>(Qkk hC hk2 i hi y hy).1)) ?_
 rw[hT]
 refine Zl ?_
 refine sCd rfl (λh15=>?_) λh15=>?_
 ·have hR:rdI x=((noT,(XV (Qa5 x)).1),(XV (Qa5 x)).2):=by rw[hall,if_neg h15]
  refine aU9 ?_
  exact Qk (rs:=[.cell 2 37,.tmp 3,.tmp 4]) rfl (.cell rfl XR aPk rfl (.tmp rfl (.tmp rfl (.nil)))) (λw' h'=>⟨((none,0),[]),by rw[hR];rfl,by rw[hR];rfl,(Xe 27 69 h'.nil).ent aEt⟩)
 have hR:rdI x=((Qa5 x,0),0):=by rw[hall,if_pos h15]
 refine aU8 ?_
 exact Qk (rs:=[.cell 2 37,.tmp 3,.tmp 4]) rfl (.cell rfl XR aPk rfl (.tmp rfl (.tmp rfl (.nil)))) (λw' h'=>⟨((ga,gc),L),by rw[hR];rfl,by rw[hR];exact hk2,h'.ent aEt⟩)
instance:TFn Tryz.prog 56:=⟨by kernel_rfl⟩
theorem Qj9:QY Tryz.prog 64=true:=by kernel_rfl
instance:TFn Tryz.prog 64:=⟨Qj9⟩
set_option maxHeartbeats 4000000 in
theorem c82(w:World)(x:Ixs)(hl:x.al.length<=900000)(hr:x.ro.length<=1000000)(hb:x.bm.length<=100000):CE 82 #[.agg #[.string (bs x.ro),.string (bs x.al),.string (bs x.bm)]] w [] (λg:((Option Addr×Nat)×List LNd)×(Int×Int×Int)×(Option Addr×Nat×Nat)=>.tuple #[.agg #[.string (bs x.ro),.string (bs x.al),.string (bs x.bm),.int .i64 g.2.1.1,.int .i64 g.2.1.2.1,.int .i64 g.2.1.2.2,.slice g.2.2.1 g.2.2.2.1 g.2.2.2.2],.agg #[.int .i64 (rdI x).1.1.co,.int .i64 (rdI x).1.1.mo,.int .i64 (rdI x).1.1.rm,.slice g.1.1.1 g.1.2.length g.1.1.2],.int .i64 (rdI x).1.2,.int .i64 (rdI x).2]) (λg=>pln g.1.2=(rdI x).1.1.ns) λg=>[.nodes 27 69 g.1.1.1 g.1.1.2 g.1.2]:=by
 have hn9:x.n<=x.al.length:=Nat.div_le_self _ _
 have hn8:x.n=x.al.length/512:=rfl
 refine eN1 Tryz.func82 Tryz.ntmps82 ?_
 refine aU2 ?_
 refine oBx λb1 _=>?_
 refine oAl (λb2 _=>?_) Qbr
 refine oAl (λb3 _=>?_) Xh
 refine aU6 ?_
 refine oCh rfl (λw1 h1=>c56 w1 x hl hr hb) (λ⟨⟨c1,m1,r1⟩,⟨ra,rc⟩,RL⟩hRL=>aU3 ?_)
 refine oAl (λb4 _=>?_) Qbr
 refine aU9 ?_
 refine sCd rfl (λh5=>?_) λh5=>?_
 ·have hR:=Qlc (x:=x) h5
  refine aU3 ?_
  refine o_p (QF (cs:=[_,_,_,_]) rfl rfl ZP Xh rfl) rfl (aU6 ?_)
  exact Qk (rs:=[.cell 2 108,.cell 3 37,.tmp 4,.tmp 5]) rfl (.cell rfl YT aPk rfl (.cell rfl XR aPk rfl (.tmp rfl (.tmp rfl (.nil))))) (λw' h'=>⟨(((none,0),[]),(c1,m1,r1),(ra,RL.length,rc)),by rw[hR];rfl,by rw[hR];rfl,(Xe 27 69 h'.nil).ent aEt⟩)
 have hE:ixE x=0:=h5
 have hRT:=hRL hE
 dsimp only at hRT
 obtain rfl:c1=(Qd x.ro).1.co:=congrArg Tre.co hRT
 obtain rfl:m1=(Qd x.ro).1.mo:=congrArg Tre.mo hRT
 obtain rfl:r1=(Qd x.ro).1.rm:=congrArg Tre.rm hRT
 have hRn:pln RL=(Qd x.ro).1.ns:=congrArg Tre.ns hRT
 obtain⟨hA,hB,hC,hO,hLs⟩:=QcQ hE
 obtain⟨n0,l0,_,_,_,hrt,_⟩:=ZE hC
 have hL1:(Qd x.ro).1.ns.length=1:=by rw[hrt];rfl
 have hb8:x.n<=8*x.bm.length:=by have:=Yr ((x.n+7)/8);omega
 refine aU5 ?_
 refine oAl (λb6 _=>?_) Xh
 refine aU8 ?_
 refine Qg (L':=[(2,_),(3,_),(4,_),(5,_),(6,_),(8,_),(9,_)]) aSx (λ_ h=>h) ?_
 refine Qx (α:=Nat×(Option Addr×Nat)×List LNd) [4,5,9,10,11,26,27,28,29,30,31,32,33,34,35,36,37,38,39,40,41,42,43,44,45,46,47,48,49,50,51,52,53,54,55,56,57,58,59,60,61,62,63,64,65,66,67,68,69,70] (λy=>[(9,.int .i64 ((y.1+1:Nat):Int))]) (λy=>HS w [] [.nodes 27 69 y.2.1.1 y.2.1.2 y.2.2,.blk b6 37 4 [.int .i64 (Qd x.ro).1.co,.int .i64 (Qd x.ro).1.mo,.int .i64 (Qd x.ro).1.rm,.slice y.2.1.1 y.2.2.length y.2.1.2],.blk b4 108 7 [.string (bs x.ro),.string (bs x.al),.string (bs x.bm),.int .i64 (Qd x.ro).1.co,.int .i64 (Qd x.ro).1.mo,.int .i64 (Qd x.ro).1.rm,.slice ra RL.length rc],.blk b2 108 7 [.string (bs []),.string (bs []),.string (bs []),.int .i64 0,.int .i64 0,.int .i64 0,.slice none 0 0],.blk b3 37 4 [.int .i64 0,.int .i64 0,.int .i64 0,.slice none 0 0],.blk b1 23 3 [.string (bs x.ro),.string (bs x.al),.string (bs x.bm)]]) (λy=>y.1<=x.n/\pln y.2.2=QH x y.1/\∀j,j<y.1->bkE x (j+1)=0) (λy=>x.n-y.1) (0,(ra,rc),RL) ⟨Nat.zero_le _,by(try simp only[]);rw[hRn];unfold QH;simp,λj h=>absurd h (Nat.not_lt_zero _)⟩ aSx (λw h=>h.ent aEt) (λ⟨k,⟨ga,gc⟩,L⟩hkk=>?_)
 dsimp only
 simp only[]at hkk
 obtain⟨hk1,hk2,hk3⟩:=hkk
 have hLl:L.length=k+1:=by rw[<-Qb,hk2,Y7 hL1]
 refine aU5 ?_
 refine oCq rfl (λw1 h1=>Qk5 w1 x (Qd x.ro).1.co (Qd x.ro).1.mo (Qd x.ro).1.rm ra RL.length rc om) (aU2 ?_)
 refine sCd rfl (λh7=>?_) λh7=>?_
 ·have hk:k<x.n:=by have hq:=h7;omega
  have hb5:=QeB (x:=x) (i:=k+1) om
  refine aU8 ?_
  refine oCq rfl (λw1 h1=>c61 w1 x (Qd x.ro).1.co (Qd x.ro).1.mo (Qd x.ro).1.rm ra RL.length rc (k+1) om hb8) (aU2 ?_)
  refine sCd rfl (λh8=>?_) λh8=>?_
  ·have hnf:ZZ x (k+1)=false:=by have hq:=h8;simpa using hq
   refine aU5 ?_
   refine oCq rfl (λw1 h1=>c64 w1 x (Qd x.ro).1.co (Qd x.ro).1.mo (Qd x.ro).1.rm ra RL.length rc (k+1) om om) (oCq rfl (λw1 h1=>c78 w1) (aU2 ?_))
   refine sCd rfl (λh9=>?_) λh9=>?_
   ·have hbe:bkE x (k+1)=3:=by rw[Qc2 hnf,if_neg];rw[<-QnJ om];exact h9
    have hR:=Qgj hE hk hk3 (by rw[hbe];decide)
    rw[hbe]at hR
    refine aU3 ?_
    refine o_p (QF (cs:=[_,_,_,_]) rfl rfl ZP Xh rfl) rfl (aU6 ?_)
    exact Qk (rs:=[.cell 2 108,.cell 3 37,.tmp 4,.tmp 5]) rfl (.cell rfl YT aPk rfl (.cell rfl XR aPk rfl (.tmp rfl (.tmp rfl (.nil))))) (λw' h'=>⟨(((none,0),[]),((Qd x.ro).1.co,(Qd x.ro).1.mo,(Qd x.ro).1.rm),(ra,RL.length,rc)),by rw[hR];rfl,by rw[hR];rfl,(Xe 27 69 h'.nil).ent aEt⟩)
   have hbe:bkE x (k+1)=0:=by rw[Qc2 hnf,if_pos];rw[<-QnJ om];have hq:=h9;first|exact hq|simpa using hq
   refine aU4 ?_
   refine QQ (C':=HS w [] [.own (.slice ga L.length gc) 69 3 L.length (L.flatMap LNd.vals),.star (L.map (Qs 27)),.blk b6 37 4 [.int .i64 (Qd x.ro).1.co,.int .i64 (Qd x.ro).1.mo,.int .i64 (Qd x.ro).1.rm,.slice ga L.length gc],.blk b4 108 7 [.string (bs x.ro),.string (bs x.al),.string (bs x.bm),.int .i64 (Qd x.ro).1.co,.int .i64 (Qd x.ro).1.mo,.int .i64 (Qd x.ro).1.rm,.slice ra RL.length rc],.blk b2 108 7 [.string (bs []),.string (bs []),.string (bs []),.int .i64 0,.int .i64 0,.int .i64 0,.slice none 0 0],.blk b3 37 4 [.int .i64 0,.int .i64 0,.int .i64 0,.slice none 0 0],.blk b1 23 3 [.string (bs x.ro),.string (bs x.al),.string (bs x.bm)]]) (λw9 h=>(HS.nodes_open h aPk).ent aEt) (aU ?_)
   refine o_p (QF (cs:=[_,_,_]) rfl rfl QbP Xj rfl) rfl (o_h (Qe (cs:=[_,_,_]) rfl rfl Qw Xj rfl rfl rfl) rfl (λb10 _=>?_))
   refine o_h (QL [_,_,_] rfl rfl rfl Qw Tryz.underlying35 Xj rfl aPk (Xb aPk) rfl (by intro u hu;simp only[List.mem_cons,List.mem_nil_iff,or_false]at hu;rcases hu with rfl|rfl|rfl<;>rfl) om (by simp only[maxLen];omega)) rfl (λb11 _=>aU3 ?_)
   refine Qn rfl ?_
   refine aT3 ?_
   refine Qh (show _=Value.int .i64 ((k+1+1:Nat):Int)from congrArg (Value.int .i64) om) (aU2 ?_)
   exact Q1 (k+1,(b11.1,b11.2),L++[⟨false,none,0,[],none,0,[]⟩]) (by(try simp only[]);omega) ⟨by(try simp only[]);omega,by(try simp only[]);rw[Qcd,hk2,Qcg,QgS hnf];rfl,λj hj=>(Nat.lt_or_ge j k).elim (hk3 j) (λh=>by obtain rfl:j=k:=om;exact hbe)⟩ (by simp only[List.length_append,List.length_singleton];exact aSx) (λw h=>by have h9:=((h.own_nil 3 1).own_nil 27 2);have h8:=HS.nodes_app (n:=⟨false,none,0,[],none,0,[]⟩) (L:=L) (et:=27) (nt':=69) (h9.ent (Bs:=[.ents 27 (⟨false,none,0,[],none,0,[]⟩:LNd).ea (⟨false,none,0,[],none,0,[]⟩:LNd).ec (⟨false,none,0,[],none,0,[]⟩:LNd).es,.kids (⟨false,none,0,[],none,0,[]⟩:LNd).ca (⟨false,none,0,[],none,0,[]⟩:LNd).cc (⟨false,none,0,[],none,0,[]⟩:LNd).cs,.star (L.map (Qs 27)),.own (.slice b11.1 (L.length+1) b11.2) 69 3 (L.length+1) (L.flatMap LNd.vals++LNd.vals ⟨false,none,0,[],none,0,[]⟩),.blk b6 37 4 [.int .i64 (Qd x.ro).1.co,.int .i64 (Qd x.ro).1.mo,.int .i64 (Qd x.ro).1.rm,.slice b11.1 (L.length+1) b11.2],.blk b4 108 7 [.string (bs x.ro),.string (bs x.al),.string (bs x.bm),.int .i64 (Qd x.ro).1.co,.int .i64 (Qd x.ro).1.mo,.int .i64 (Qd x.ro).1.rm,.slice ra RL.length rc],.blk b2 108 7 [.string (bs []),.string (bs []),.string (bs []),.int .i64 0,.int .i64 0,.int .i64 0,.slice none 0 0],.blk b3 37 4 [.int .i64 0,.int .i64 0,.int .i64 0,.slice none 0 0],.blk b1 23 3 [.string (bs x.ro),.string (bs x.al),.string (bs x.bm)]]) aEt);dsimp only;rw[List.length_append];exact h8.ent aEt)
  have hnf:ZZ x (k+1)=true:=by have hq:=h8;simpa using hq
  refine aU5 ?_
  refine oCq rfl (λw1 h1=>c64 w1 x (Qd x.ro).1.co (Qd x.ro).1.mo (Qd x.ro).1.rm ra RL.length rc (k+1) om om) (aU ?_)
  refine oCh rfl (λw1 h1=>c63 w1 (x.blk (k+1)) ((k+1:Nat):Int) om) (λgn hgn=>aU3 ?_)
  refine oAl (λb12 _=>?_) Qat
  refine aU9 ?_
  refine sCd rfl (λh13=>?_) λh13=>?_
  ·have hbe:=Qbz hnf
   have hR:=Qgj hE hk hk3 (by rw[hbe];exact h13)
   rw[hbe]at hR
   refine aU3 ?_
   refine o_p (QF (cs:=[_,_,_,_]) rfl rfl ZP Xh rfl) rfl (aU7 ?_)
   exact Qk (rs:=[.cell 2 108,.cell 3 37,.tmp 4,.tmp 5]) rfl (.cell rfl YT aPk rfl (.cell rfl XR aPk rfl (.tmp rfl (.tmp rfl (.nil))))) (λw' h'=>⟨(((none,0),[]),((Qd x.ro).1.co,(Qd x.ro).1.mo,(Qd x.ro).1.rm),(ra,RL.length,rc)),by rw[hR];rfl,by rw[hR];rfl,(Xe 27 69 h'.nil).ent aEt⟩)
  have hbe:bkE x (k+1)=0:=by rw[Qbz hnf];exact h13
  refine aU3 ?_
  refine QQ (C':=HS w [] [.own (.slice ga L.length gc) 69 3 L.length (L.flatMap LNd.vals),.star (L.map (Qs 27)),.ents 27 gn.ea gn.ec gn.es,.kids gn.ca gn.cc gn.cs,.blk b12 118 5 _,.blk b6 37 4 [.int .i64 (Qd x.ro).1.co,.int .i64 (Qd x.ro).1.mo,.int .i64 (Qd x.ro).1.rm,.slice ga L.length gc],.blk b4 108 7 [.string (bs x.ro),.string (bs x.al),.string (bs x.bm),.int .i64 (Qd x.ro).1.co,.int .i64 (Qd x.ro).1.mo,.int .i64 (Qd x.ro).1.rm,.slice ra RL.length rc],.blk b2 108 7 [.string (bs []),.string (bs []),.string (bs []),.int .i64 0,.int .i64 0,.int .i64 0,.slice none 0 0],.blk b3 37 4 [.int .i64 0,.int .i64 0,.int .i64 0,.slice none 0 0],.blk b1 23 3 [.string (bs x.ro),.string (bs x.al),.string (bs x.bm)]]) (λw9 h=>(HS.nodes_open h aPk).ent aEt) (aU3 ?_)
  refine o_h (Qe (cs:=[_,_,_]) rfl rfl Qw Xj rfl rfl rfl) rfl (λb14 _=>?_)
  refine o_h (QL [_,_,_] rfl rfl rfl Qw Tryz.underlying35 Xj rfl aPk (Xb aPk) rfl (by intro u hu;simp only[List.mem_cons,List.mem_nil_iff,or_false]at hu;rcases hu with rfl|rfl|rfl<;>rfl) om (by simp only[maxLen];omega)) rfl (λb15 _=>aU4 ?_)
  refine Qg (L':=[(2,_),(3,_),(6,_),(8,_),(9,_)]) aSx (λ_ h=>h) ?_
  refine aT3 ?_
  refine Qh (show _=Value.int .i64 ((k+1+1:Nat):Int)from congrArg (Value.int .i64) om) (aU2 ?_)
  exact Q1 (k+1,(b15.1,b15.2),L++[gn]) (by(try simp only[]);omega) ⟨by(try simp only[]);omega,by(try simp only[]);rw[Qcd,hk2,Qcg,Qe5 hnf];(show _++[gn.pl]=_);rw[hgn],λj hj=>(Nat.lt_or_ge j k).elim (hk3 j) (λh=>by obtain rfl:j=k:=om;exact hbe)⟩ (by simp only[List.length_append,List.length_singleton];exact aSx) (λw h=>by have h9:=h;have h8:=HS.nodes_app (n:=gn) (L:=L) (et:=27) (nt':=69) (h9.ent (Bs:=[.ents 27 (gn:LNd).ea (gn:LNd).ec (gn:LNd).es,.kids (gn:LNd).ca (gn:LNd).cc (gn:LNd).cs,.star (L.map (Qs 27)),.own (.slice b15.1 (L.length+1) b15.2) 69 3 (L.length+1) (L.flatMap LNd.vals++LNd.vals gn),.blk b6 37 4 [.int .i64 (Qd x.ro).1.co,.int .i64 (Qd x.ro).1.mo,.int .i64 (Qd x.ro).1.rm,.slice b15.1 (L.length+1) b15.2],.blk b4 108 7 [.string (bs x.ro),.string (bs x.al),.string (bs x.bm),.int .i64 (Qd x.ro).1.co,.int .i64 (Qd x.ro).1.mo,.int .i64 (Qd x.ro).1.rm,.slice ra RL.length rc],.blk b2 108 7 [.string (bs []),.string (bs []),.string (bs []),.int .i64 0,.int .i64 0,.int .i64 0,.slice none 0 0],.blk b3 37 4 [.int .i64 0,.int .i64 0,.int .i64 0,.slice none 0 0],.blk b1 23 3 [.string (bs x.ro),.string (bs x.al),.string (bs x.bm)]]) aEt);dsimp only;rw[List.length_append];exact h8.ent aEt)
 obtain rfl:k=x.n:=by have hq:=h7;omega
 have hall:=QlH hE hk3
 have hT:(⟨(Qd x.ro).1.co,(Qd x.ro).1.mo,(Qd x.ro).1.rm,pln L⟩:Tre)=Qa5 x:=by rw[hk2];rfl
 refine Qn rfl ?_
 refine aU4 ?_
 refine oCq rfl (λw1 h1=>QsM w1 _ _ _ ga gc L (HS.nt h1 aPk) (by rw[hk2];exact QgA hC om) (λi hi y hy=>(Qkk hC hk2 i hi y hy).1)) ?_
 rw[hT]
 refine Zl ?_
 refine sCd rfl (λh16=>?_) λh16=>?_
 ·have hR:rdI x=((noT,(XV (Qa5 x)).1),(XV (Qa5 x)).2):=by rw[hall,if_neg h16]
  refine aU3 ?_
  refine o_p (QF (cs:=[_,_,_,_]) rfl rfl ZP Xh rfl) rfl (aU7 ?_)
  exact Qk (rs:=[.cell 2 108,.cell 3 37,.tmp 4,.tmp 5]) rfl (.cell rfl YT aPk rfl (.cell rfl XR aPk rfl (.tmp rfl (.tmp rfl (.nil))))) (λw' h'=>⟨(((none,0),[]),((Qd x.ro).1.co,(Qd x.ro).1.mo,(Qd x.ro).1.rm),(ra,RL.length,rc)),by rw[hR];rfl,by rw[hR];rfl,(Xe 27 69 h'.nil).ent aEt⟩)
 have hR:rdI x=((Qa5 x,0),0):=by rw[hall,if_pos h16]
 refine aU2 ?_
 refine Qbe [.nodes 27 69 ga gc L,.blk b6 37 4 [.int .i64 (Qd x.ro).1.co,.int .i64 (Qd x.ro).1.mo,.int .i64 (Qd x.ro).1.rm,.slice ga L.length gc],.blk b4 108 7 [.string (bs x.ro),.string (bs x.al),.string (bs x.bm),.int .i64 (Qd x.ro).1.co,.int .i64 (Qd x.ro).1.mo,.int .i64 (Qd x.ro).1.rm,.slice ra RL.length rc]] [] QC ?_
 refine dLn 0 [] ?_
 refine dLn 1 [] ?_
 refine dSt 2 ?_ (hl:=(by simp only[Qm,List.length_set,List.length_cons,List.length_nil,List.length_map];omega))
 refine dSt 3 ?_ (hl:=(by simp only[Qm,List.length_set,List.length_cons,List.length_nil,List.length_map];omega))
 refine dP 4 ?_
 refine dP 5 ?_
 refine dNi ?_
 exact Qk (rs:=[.cell 2 108,.cell 3 37,.tmp 4,.tmp 5]) rfl (.cell rfl YT aPk rfl (.cell rfl XR aPk rfl (.tmp rfl (.tmp rfl (.nil))))) (λw' h'=>⟨(((ga,gc),L),((Qd x.ro).1.co,(Qd x.ro).1.mo,(Qd x.ro).1.rm),(ra,RL.length,rc)),by rw[hR];rfl,by rw[hR];exact hk2,h'.ent aEt⟩)
instance:TFn Tryz.prog 82:=⟨by kernel_rfl⟩
end Go.Proofs
namespace Gx
open Go Go.RowKit
section
variable{w0 w:World}{M:List Nat}{As As':List HA}{a:Option Addr}{cap et nt':Nat}{L:List LNd}
theorem HS.nodes_cap(h:HS w0 M As w)(hp:QE As (.nodes et nt' a cap L) As'):L.length<=cap/\cap<=maxLen:=by
 obtain⟨_,⟨e,h0⟩|⟨g,cap',e,h1,h2,_⟩⟩:=(h.nodes_own hp).head
 ·grind
 grind
end
end Gx
namespace Go.Proofs
open Go Go.RowKit Gx
attribute [local irreducible] Go.Calls Gx.S Gx.O Gx.D Gx.OpP Gx.OpQ Gx.OpH
set_option maxRecDepth 20000
instance:TFn Tryz.prog 12:=⟨by kernel_rfl⟩
instance:TFn Tryz.prog 20:=⟨by kernel_rfl⟩
instance:TFn Tryz.prog 16:=⟨by kernel_rfl⟩
theorem Qe8:Qn7 Tryz.prog 23=some [1,1,1]:=by kernel_rfl
end Go.Proofs
namespace Gx
open Go Go.RowKit
def Qad:TEnt:=⟨[],[]⟩
def Ya(co:Int)(n:Nd)(key:List UInt8):Nat:=(n.cs.getD (plc co n.es key) 0).toNat
def fbI(x:Ixs)(co:Int)(key:List UInt8):Nat->Nd->List Nat->(TEnt×List Nat)×Int
 | 0,_,_=>((Qad,[]),25)
 | f+1,n,P=>
  if ZJ co n.es=true then
   if fnd co n.es key=true then((nth n.es (plc co n.es key),P),0)
   else if n.cs.length=0 then((Qad,[]),6)
   else if ZZ x (Ya co n key)=true then
    if Ya co n key∈P then((Qad,[]),25)
    else if(XN (x.blk (Ya co n key)) (Ya co n key)).e=0 then fbI x co key f (XN (x.blk (Ya co n key)) (Ya co n key)).n (P++[Ya co n key])
    else((Qad,[]),(XN (x.blk (Ya co n key)) (Ya co n key)).e)
   else((Qad,[]),6)
  else((Qad,[]),3)
def QaO(x:Ixs)(key:List UInt8):(TEnt×List Nat)×Int:=
 if ixE x=0 then
  if QW (Qd x.ro).1.co key=true then fbI x (Qd x.ro).1.co key (x.n+1) (nth (Qd x.ro).1.ns 0) []
  else((Qad,[]),3)
 else((Qad,[]),ixE x)
theorem QrA{x:Ixs}(h:(Qd x.ro).1.ns.length=1){i:Nat}(h1:1<=i/\i<=x.n):nth (QH x x.n) i=bkN x i:=by
 apply Q2
 grind[QH]
theorem Qal{x:Ixs}(h:(rdI x).2=0):ixE x=0/\(rdI x).1.1=Qa5 x/\(XV (Qa5 x)).2=0/\(Qd x.ro).1.ns.length=1/\∀i,1<=i->i<=x.n->bkE x i=0:=by
 have h0:ixE x=0:=by grind[ixE,Qlc]
 have hr:(Qd x.ro).1.ns.length=1:=by
  obtain⟨n0,l0,_,_,_,hrt,_⟩:=ZE (QcQ h0).2.2.1;rw[hrt];rfl
 have hb:∀k,k<=x.n->∀j,j<k->bkE x (j+1)=0:=by
  intro k
  induction k with
  | zero=>exactλ_ j hj=>absurd hj (Nat.not_lt_zero _)
  | succ k ih=>
   intro hk j hj;rcases Nat.lt_or_ge j k with h1|h1
   ·grind
   ·obtain rfl:j=k:=by omega
    by_cases h9:bkE x (j+1)=0
    ·exact h9
    ·rw[Qgj h0 om (ih om) h9]at h;exact absurd h h9
 have ha:=QlH h0 (hb x.n (Nat.le_refl _))
 by_cases h9:(XV (Qa5 x)).2=0
 ·rw[if_pos h9]at ha;refine⟨h0,by rw[ha],h9,hr,λi h1 h2=>?_⟩;have:=hb x.n (Nat.le_refl _) (i-1) om
  grind
 grind
structure NdF(n:Nd):Prop where
 sm:NdS n
 cl:n.cs.length=0\/n.cs.length=n.es.length+1
 cs:∀c∈n.cs,1<=c/\c<=120
theorem NdF.of{b:List UInt8}{num:Int}(h:(XN b num).e=0):NdF (XN b num).n:=by
 have key:∃n last,rdB (Xa b)=some (n,last)/\b.length=512/\(XN b num).n=n:=by grind[XN,ndE]
 obtain⟨n,last,h4,h1,e⟩:=key;have q6:=(Qba (Y6 h1) h4).2.2.2.2.2;exact⟨NdS.of b num,by rw[e];exact q6.cl,by rw[e];exact q6.cs⟩
theorem NdF.root{s:List UInt8}(h:(Qd s).2=0):NdF (nth (Qd s).1.ns 0)/\ZJ (Qd s).1.co (nth (Qd s).1.ns 0).es=true:=by
 obtain⟨n,last,hr,_,hk,e,hl,_⟩:=ZE h;obtain⟨_,_,_,_,_,h6,h7,h8,h9⟩:=QeN om hr;have hb:=YG s 7;rw[e];refine⟨⟨⟨by show n.es.length<=_;omega,by show n.cs.length<=_;omega,λx hx=>Qi5 (h8 x hx)⟩,by show n.cs.length=0\/n.cs.length=n.es.length+1;omega,h9⟩,QdB λi hi=>?_⟩;have h1:=QbH.1 hk i hi;unfold Qbj at h1;rw[Bool.and_eq_true]at h1;exact h1.1
theorem NdF.kid{n:Nd}(h:NdF n)(hc:¬n.cs.length=0)(co:Int)(key:List UInt8):plc co n.es key<n.cs.length/\((Ya co n key:Nat):Int)=n.cs.getD (plc co n.es key) 0/\1<=Ya co n key/\Ya co n key<=120:=by
 have h1:=h.cl.resolve_left hc;have h2:=Qbm co key n.es;have h3:plc co n.es key<n.cs.length:=om
 have h4:n.cs.getD (plc co n.es key) 0∈n.cs:=by grind
 have h5:=h.cs _ h4
 grind[Ya]
theorem QqD{co:Int}{es:List TEnt}{key:List UInt8}{m:Nat}(h:m<es.length):plc co (es.drop m) key=if QX co (nth es m).key key<0 then plc co (es.drop (m+1)) key+1 else 0:=by
 rw[List.drop_eq_getElem_cons h,plc,show es[m]=nth es m from(Q2 (List.getElem?_eq_getElem h)).symm]
section
variable{x:Ixs}{co:Int}{key:List UInt8}{f:Nat}{n:Nd}{P:List Nat}
theorem Qvc(h:ZJ co n.es=false):fbI x co key (f+1) n P=((Qad,[]),3):=by rw[fbI,if_neg (by rw[h];decide)]
theorem Qui(h:ZJ co n.es=true)(h1:fnd co n.es key=true):fbI x co key (f+1) n P=((nth n.es (plc co n.es key),P),0):=by rw[fbI,if_pos h,if_pos h1]
theorem Qtc(h:ZJ co n.es=true)(h1:¬fnd co n.es key=true)(h2:n.cs.length=0):fbI x co key (f+1) n P=((Qad,[]),6):=by rw[fbI,if_pos h,if_neg h1,if_pos h2]
theorem QtW(h:ZJ co n.es=true)(h1:¬fnd co n.es key=true)(h2:¬n.cs.length=0)(h3:ZZ x (Ya co n key)=true)(h4:¬Ya co n key∈P)(h5:¬(XN (x.blk (Ya co n key)) (Ya co n key)).e=0):fbI x co key (f+1) n P=((Qad,[]),(XN (x.blk (Ya co n key)) (Ya co n key)).e):=by rw[fbI,if_pos h,if_neg h1,if_neg h2,if_pos h3,if_neg h4,if_neg h5]
theorem Qsl(h:ZJ co n.es=true)(h1:¬fnd co n.es key=true)(h2:¬n.cs.length=0)(h3:ZZ x (Ya co n key)=true)(h4:¬Ya co n key∈P)(h5:(XN (x.blk (Ya co n key)) (Ya co n key)).e=0):fbI x co key (f+1) n P=fbI x co key f (XN (x.blk (Ya co n key)) (Ya co n key)).n (P++[Ya co n key]):=by rw[fbI,if_pos h,if_neg h1,if_neg h2,if_pos h3,if_neg h4,if_pos h5]
theorem QvA(h:ZJ co n.es=true)(h1:¬fnd co n.es key=true)(h2:¬n.cs.length=0){e:Int}(he:e=if ZZ x (Ya co n key)=true then if Ya co n key∈P then 25 else 0 else 6)(h0:¬e=0):fbI x co key (f+1) n P=((Qad,[]),e):=by grind[fbI]
end
theorem QuY{x:Ixs}{c:Nat}(h:ZZ x c=true):1<=c/\c<=x.n/\c*512<=x.al.length:=by
 unfold ZZ at h;rw[Bool.and_eq_true]at h;have h1:=of_decide_eq_true h.1;have h2:x.n=x.al.length/512:=rfl;omega
theorem QnW{n f:Nat}{P:List Nat}(hd:P.Nodup)(hr:∀i∈P,1<=i/\i<=n)(h:P.length+f=n+1):∃g,f=g+1:=by
 have h1:=Qey (n+1) (0::P) (List.nodup_cons.2 ⟨λh0=>by have:=hr 0 h0;omega,hd⟩) (λi hi=>by
  rcases List.mem_cons.1 hi with rfl|hi
  ·omega
  ·have:=hr i hi;omega)
 rw[List.length_cons]at h1;exact⟨f-1,om⟩
theorem Qtr{co:Int}{es:List TEnt}{key:List UInt8}(h:fnd co es key=true):plc co es key<es.length:=by grind[fnd]
theorem Qlg{P:List Nat}{c:Nat}(h:P.Nodup)(hc:¬c∈P):(P++[c]).Nodup:=by grind
section
variable{w0 w:World}{M:List Nat}{As As':List HA}{et nt' cap g:Nat}{x:LNd}
theorem QnR(h:HS w0 M As w)(hp:QE As (.nodes et nt' (some ⟨g,0,none⟩) cap [x]) As'):HS w0 M (.blk g nt' (cap*3) (LNd.vals x)::.ents et x.ea x.ec x.es::.kids x.ca x.cc x.cs::As') w:=by
 have h1:=HS.nodes_open h hp;have h2:=HS.own_at h1 .here;have h3:HS w0 M (.star [Qs et x]::.blk g nt' (cap*3) (LNd.vals x++[])::As') w:=h2.perm (List.Perm.swap ..);rw[List.append_nil]at h3;have h4:HS w0 M ([.ents et x.ea x.ec x.es,.kids x.ca x.cc x.cs]++(.blk g nt' (cap*3) (LNd.vals x)::As')) w:=HS.star_open (HS.star_open h3);exact h4.perm (List.perm_middle (l₁:=[_,_]))
end
end Gx
namespace Go.Proofs
open Go Go.RowKit Gx
attribute [local irreducible] Go.Calls Gx.S Gx.O Gx.D Gx.OpP Gx.OpQ Gx.OpH
set_option maxRecDepth 20000
theorem Qqa:QY Tryz.prog 57=true:=by kernel_rfl
theorem Qk3{co:Int}{a key:List UInt8}(hco:QJ co=0)(hk:QW co key=true):Qcs co a key=X3 co a:=by
  unfold Qcs X3;rw[if_pos hco,if_pos hk];split<;>simp_all
theorem Qwb{c:Nat}{P:List Nat}:((c:Int)∈iN P) ↔ c∈P:=by
  simp only[iN,List.mem_map]
  grind
theorem c62P(w:World)(a:Option Addr)(cap:Nat)(P:List Nat)(c:Nat)(hs:Rw inV 1 w [] a (iN P))(hl:P.length<=100000):CR 62 #[.slice a P.length cap,.int .i64 (c:Int)] w (.bool (decide (c∈P))):=by
  have h:=c62 w a cap (iN P) (c:Int) hs (by rw[Qan];exact hl);rw[Qan,show decide ((c:Int)∈iN P)=decide (c∈P)from decide_eq_decide.2 Qwb]at h;exact h
theorem QeZ{u v:Bool}:Xr [.int .i64 (bif u then 0 else 6),.int .i64 (bif !v then 0 else 25)]=if u=true then if v=true then 25 else 0 else 6:=by
  cases u<;>cases v<;>rfl
theorem c57(w:World)(b7 b3:Nat)(co:Int)(a key:List UInt8)(hb:Rd w [] b7 3 (.int .i64 co))(hk:Rd w [] b3 0 (.string (bs key)))(ha:a.length<=1000000)(hkl:key.length<=1000000):CR 57 #[.string (bs a),.pointer (some ⟨b7,0,none⟩),.pointer (some ⟨b3,0,none⟩)] w (.tuple #[.int .i64 (if Qcs co a key=0 then QX co a key else 0),.int .i64 (Qcs co a key)]):=by
 refine eN3 Tryz.func57 Tryz.ntmps57 ?_
 refine aU9 ?_
 refine o_q (Qc rfl rfl X4 (hb)) rfl (aU ?_)
 refine o_q (Qc rfl rfl Zt (hk)) rfl (oCq rfl (λw1 h1=>c58 w1 co a key ha hkl) (aU5 ?_))
 exact Qk (rs:=[.tmp 4,.tmp 5]) rfl (.tmp rfl (.tmp rfl (.nil))) (λw' h'=>⟨by rfl,h'.below⟩)
set_option maxHeartbeats 4000000 in
theorem c13(w:World)(x:Ixs)(key:List UInt8)(hl:x.al.length<=900000)(hr:x.ro.length<=1000000)(hb:x.bm.length<=100000)(hkl:key.length<=1000000):CE 13 #[.agg #[.string (bs x.ro),.string (bs x.al),.string (bs x.bm)],.string (bs key)] w [] (λg:Option Addr×Nat=>.tuple #[.agg #[.string (bs (QaO x key).1.1.key),.string (bs (QaO x key).1.1.val)],.slice g.1 (QaO x key).1.2.length g.2,.int .i64 (QaO x key).2]) (λg=>True) λg=>[.own (.slice g.1 ((QaO x key).1.2).length g.2) 3 1 ((QaO x key).1.2).length (((QaO x key).1.2).map λi:Nat=>Value.int .i64 (i:Int))]:=by
 have hn9:x.n<=x.al.length:=Nat.div_le_self _ _
 have hn8:x.n=x.al.length/512:=rfl
 refine eN2 Tryz.func13 Tryz.ntmps13 ?_
 refine aU2 ?_
 refine oBx λb1 _=>?_
 refine oBx λb2 _=>?_
 refine oAl (λb3 _=>?_) XH
 refine aU6 ?_
 refine oCh rfl (λw1 h1=>c56 w1 x hl hr hb) (λ⟨⟨c1,m1,r1⟩,⟨ra,rc⟩,RL⟩hRL=>aU3 ?_)
 refine oAl (λb4 _=>?_) Qbr
 refine aU9 ?_
 refine sCd rfl (λh5=>?_) λh5=>?_
 ·have hR:QaO x key=((Qad,[]),ixE x):=by unfold QaO;rw[if_neg h5]
  refine aU2 ?_
  refine o_p (QF (cs:=[_,_]) rfl rfl Qcz XH rfl) rfl (aU5 ?_)
  exact Qk (rs:=[.cell 4 27,.tmp 5,.tmp 6]) rfl (.cell rfl Yk aPk rfl (.tmp rfl (.tmp rfl (.nil)))) (λw' h'=>⟨(none,0),by rw[hR];rfl,trivial,by rw[hR];exact(h'.nil.own_nil 3 1).ent aEt⟩)
 have hE:ixE x=0:=h5
 have hRT:=hRL hE
 dsimp only at hRT
 obtain rfl:c1=(Qd x.ro).1.co:=congrArg Tre.co hRT
 obtain rfl:m1=(Qd x.ro).1.mo:=congrArg Tre.mo hRT
 obtain rfl:r1=(Qd x.ro).1.rm:=congrArg Tre.rm hRT
 have hRn:pln RL=(Qd x.ro).1.ns:=congrArg Tre.ns hRT
 obtain⟨hA,hB,hC,hO,hLs⟩:=QcQ hE
 obtain⟨n0,l0,_,_,_,hrt,_,_,hco,_⟩:=ZE hC
 have hco:QJ (Qd x.ro).1.co=0:=by rw[hrt];exact hco
 have hb8:x.n<=8*x.bm.length:=by have:=Yr ((x.n+7)/8);omega
 obtain⟨hrf,hrk⟩:=NdF.root hC
 have hns:(Qd x.ro).1.ns=[n0]:=by rw[hrt]
 rw[hns]at hRn hrf hrk
 obtain⟨x9,hx9,hxp⟩:=Qpt hRn
 subst hx9
 refine Xp (λw9 h=>HS.nodes_some (L:=[x9]) (Nat.succ_pos _) h aPk) λhna=>?_
 obtain⟨g9,rfl,hna1,hna2⟩:=hna
 refine XG (λw9 h=>(show HS w [] (.blk g9 69 (rc*3) [.bool x9.us,.slice x9.ea x9.es.length x9.ec,.slice x9.ca x9.cs.length x9.cc]::.ents 27 x9.ea x9.ec x9.es::.kids x9.ca x9.cc x9.cs::_) w9 from QnR h aPk)) (Zl ?_)
 refine o_q (XX rfl rfl Qqa rfl (λw1 h1=>c57 w1 b4 b2 (Qd x.ro).1.co key key (h1.rd_blk (Mc:=[]) aPk rfl (by simp)) (h1.rd_blk (Mc:=[]) aPk rfl (by simp)) hkl hkl)) rfl (Zl ?_)
 refine sCd rfl (λh6=>?_) λh6=>?_
 ·have hR:QaO x key=((Qad,[]),3):=by have hq:=h6;unfold QaO;rw[if_pos hE,if_neg];intro h9;exact hq (by rw[Qk3 hco h9];unfold X3;rw[if_pos h9])
  have hR3:Qcs (Qd x.ro).1.co key key=3:=by have hq:=h6;unfold Qcs at hq ⊢;unfold X3 at hq ⊢;grind
  refine aU2 ?_
  refine o_p (QF (cs:=[_,_]) rfl rfl Qcz XH rfl) rfl (aU5 ?_)
  exact Qk (rs:=[.cell 4 27,.tmp 5,.tmp 6]) rfl (.cell rfl Yk aPk rfl (.tmp rfl (.tmp rfl (.nil)))) (λw' h'=>⟨(none,0),by rw[hR];simp only[Xf,hR3];rfl,trivial,by rw[hR];exact(h'.nil.own_nil 3 1).ent aEt⟩)
 have hke:QW (Qd x.ro).1.co key=true:=by have hq:=h6;unfold Qcs at hq;unfold X3 at hq;grind
 have hF0:QaO x key=fbI x (Qd x.ro).1.co key (x.n+1) x9.pl []:=by unfold QaO;rw[if_pos hE,if_pos hke,hns,hxp];rfl
 refine Za ?_
 refine Qh (show _=Value.slice (some ⟨g9,0,none⟩) 1 rc from rfl) (o_p (Qa rfl rfl rfl Qw 0 rfl om rfl) rfl (aU ?_))
 refine oAl (λb7 _=>?_) Xj
 refine aU3 ?_
 refine Qg (L':=[(4,_),(5,_),(6,_),(7,_),(9,_),(12,_),(13,_)]) aSx (λ_ h=>h) ?_
 refine Qx (α:=Nat×(Option Addr×Nat)×List Nat×LNd×Nat) [5,6,12,13,14,15,16,17,18,19,20,21,22,23,49,50,51,52,53,54,55,56,57,58,59,60,61,62,63,64,65,66,67,68,69,70,71,72,73,74,75,76,77,78,79,80,81,82,83,84,85,86,87,88,89,90,91,92,93,94,95,96,97,98,99,100,101,102,103,104,105,106,107,108,109,110,111,112,113,114,115,116,117,118,119,120,121,122,123,124,125,126,127,128,129,130,131,132,133,134,135,136,137,138,139,140,141,142,143,144] (λy=>[(13,.pointer (some ⟨y.1,0,none⟩)),(12,.slice y.2.1.1 y.2.2.1.length y.2.1.2)]) (λy=>HS w [] [.blk y.1 69 3 (LNd.vals y.2.2.2.1),.ents 27 (y.2.2.2.1).ea (y.2.2.2.1).ec (y.2.2.2.1).es,.kids (y.2.2.2.1).ca (y.2.2.2.1).cc (y.2.2.2.1).cs,.own (.slice y.2.1.1 (y.2.2.1).length y.2.1.2) 3 1 (y.2.2.1).length ((y.2.2.1).map λi:Nat=>Value.int .i64 (i:Int)),.blk b4 108 7 [.string (bs x.ro),.string (bs x.al),.string (bs x.bm),.int .i64 (Qd x.ro).1.co,.int .i64 (Qd x.ro).1.mo,.int .i64 (Qd x.ro).1.rm,.slice (some ⟨g9,0,none⟩) 1 rc],.blk b2 9 1 [.string (bs key)],.blk b3 27 2 [.string (bs []),.string (bs [])]]) (λy=>NdF y.2.2.2.1.pl/\y.2.2.1.length+y.2.2.2.2=x.n+1/\y.2.2.1.Nodup/\(∀i∈y.2.2.1,1<=i/\i<=x.n)/\QaO x key=fbI x (Qd x.ro).1.co key y.2.2.2.2 y.2.2.2.1.pl y.2.2.1) (λy=>y.2.2.2.2) (b7,(none,0),[],x9,x.n+1) ⟨by rw[hxp];exact hrf,by(try simp only[]);rw[List.length_nil];omega,List.nodup_nil,λi hi=>(List.not_mem_nil hi).elim,hF0⟩ aSx (λw h=>(h.own_nil 3 1).ent aEt) (λ⟨nb,⟨pa,pc⟩,P,gn,f⟩hyy=>?_)
 dsimp only
 obtain⟨hgn,hPf,hPd,hPr,hfb⟩:=hyy
 simp only[]at hgn hPf hPd hPr hfb
 obtain⟨f,rfl⟩:=QnW hPd hPr hPf
 have hes9:gn.es.length<=255:=hgn.sm.es
 have hcs9:gn.cs.length<=256:=hgn.sm.cs
 have hpel:gn.pl.es.length=gn.es.length:=rfl
 have hpcl:gn.pl.cs.length=gn.cs.length:=rfl
 refine Xp (p:=0<gn.es.length->gn.ea=some ⟨ab gn.ea,ao gn.ea,none⟩) (λw9 h h0=>Rw.some (HS.rw_own (l:=gn.es) ev2 h aPk rfl) h0) λhsE=>Xp (p:=0<gn.cs.length->gn.ca=some ⟨ab gn.ca,ao gn.ca,none⟩) (λw9 h h0=>Rw.some (HS.rw_own (l:=gn.cs) iv1 h aPk rfl) h0) λhsC=>aT16 ?_
 refine aU3 ?_
 refine Qx (α:=Nat) [5,6,14,15,16,17,56,57,58,59,60,61,62,63,64,65,66,67,68,69,70,71,72,73,74,75,76] (λm=>[(15,.int .i64 ((m:Int)-1)),(14,.int .i64 (((m+plc (Qd x.ro).1.co (gn.es.drop m) key):Nat):Int))]) (λ_=>HS w [] [.blk nb 69 3 (LNd.vals gn),.ents 27 (gn).ea (gn).ec (gn).es,.kids (gn).ca (gn).cc (gn).cs,.own (.slice pa (P).length pc) 3 1 (P).length ((P).map λi:Nat=>Value.int .i64 (i:Int)),.blk b4 108 7 [.string (bs x.ro),.string (bs x.al),.string (bs x.bm),.int .i64 (Qd x.ro).1.co,.int .i64 (Qd x.ro).1.mo,.int .i64 (Qd x.ro).1.rm,.slice (some ⟨g9,0,none⟩) 1 rc],.blk b2 9 1 [.string (bs key)],.blk b3 27 2 [.string (bs []),.string (bs [])]]) (λm=>m<=gn.es.length/\∀i,m<=i->i<gn.es.length->QW (Qd x.ro).1.co (nth gn.es i).key=true) (λm=>m) gn.es.length ⟨Nat.le_refl _,λi h1 h2=>absurd h2 om⟩ (by rw[List.drop_length];exact aSx) (λw h=>h.ent aEt) (λm hmm=>?_)
 obtain⟨hm1,hm2⟩:=hmm
 refine aU6 ?_
 refine sCd rfl (λh8=>?_) λh8=>?_
 ·have hm:0<m:=by have hq:=h8;omega
  have hce:Qcs (Qd x.ro).1.co (nth gn.es (m-1)).key key=X3 (Qd x.ro).1.co (nth gn.es (m-1)).key:=Qk3 hco hke
  have hpd:=QqD (co:=(Qd x.ro).1.co) (key:=key) (m:=m-1) (es:=gn.es) om
  rw[Nat.sub_add_cancel hm]at hpd
  refine aU9 ?_
  refine o_p (Qa rfl rfl rfl QN (m-1) om om (hsE om)) rfl (aU ?_)
  refine o_q (Qf rfl rfl Zt (λw h=>(HS.rw_own (l:=gn.es) ev2 h aPk rfl).rdj 0 (i:=m-1) om rfl)) rfl (o_q (XX rfl rfl Qqa rfl (λw1 h1=>c57 w1 b4 b2 (Qd x.ro).1.co (nth gn.es (m-1)).key key (h1.rd_blk (Mc:=[]) aPk rfl (by simp)) (h1.rd_blk (Mc:=[]) aPk rfl (by simp)) (hgn.sm.ent _ (QI om)).1 hkl)) rfl (Zx ?_))
  refine sCd rfl (λh9=>?_) λh9=>?_
  ·have hkn:ZJ (Qd x.ro).1.co gn.pl.es=false:=Qka (k:=m-1) (es:=gn.pl.es) om (by have hq:=h9;rw[hce]at hq;unfold X3 at hq;(show QW _ (nth gn.es (m-1)).key=false);grind)
   have hR:QaO x key=((Qad,[]),3):=by rw[hfb];exact Qvc hkn
   refine aU ?_
   refine Qg (L':=[(4,_),(7,_),(9,_),(12,_),(13,_),(14,_),(15,_),(16,_),(49,_),(50,_),(51,_),(52,_),(53,_),(54,_),(55,_)]) aSx (λ_ h=>h) ?_
   refine aU ?_
   refine o_p (QF (cs:=[_,_]) rfl rfl Qcz XH rfl) rfl (aU4 ?_)
   exact Qk (rs:=[.cell 4 27,.tmp 5,.tmp 6]) rfl (.cell rfl Yk aPk rfl (.tmp rfl (.tmp rfl (.nil)))) (λw' h'=>⟨(none,0),by rw[hR];rfl,trivial,by rw[hR];exact(h'.nil.own_nil 3 1).ent aEt⟩)
  have hky:QW (Qd x.ro).1.co (nth gn.es (m-1)).key=true:=by have hq:=h9;rw[hce]at hq;unfold X3 at hq;grind
  have hz9:Qcs (Qd x.ro).1.co (nth gn.es (m-1)).key key=0:=h9
  refine aU2 ?_
  refine Qg (L':=[(4,_),(7,_),(9,_),(12,_),(13,_),(14,_),(15,_),(16,_),(49,_),(50,_),(51,_),(52,_),(53,_),(54,_),(55,_)]) aSx (λ_ h=>h) ?_
  refine aU4 ?_
  refine sCd rfl (λh10=>?_) λh10=>?_
  ·have hq4:¬QX (Qd x.ro).1.co (nth gn.es (m-1)).key key<0:=by have hq:=h10;rw[if_pos hz9]at hq;omega
   rw[if_neg hq4]at hpd
   refine aT8 ?_
   refine aU2 ?_
   exact sBk (m-1) om ⟨om,λi h1 h2=>(Nat.lt_or_ge i m).elim (λh9=>by obtain rfl:i=m-1:=om;exact hky) (λh9=>hm2 i h9 h2)⟩ (by rw[hpd,show((m-1+0:Nat):Int)=(m:Int)-1 by omega,show((m-1:Nat):Int)=(m:Int)-1 by omega];exact aSx)
  have hq4:QX (Qd x.ro).1.co (nth gn.es (m-1)).key key<0:=by have hq:=h10;rw[if_pos hz9]at hq;omega
  rw[if_pos hq4]at hpd
  refine aT5 ?_
  refine aU2 ?_
  exact sBk (m-1) om ⟨om,λi h1 h2=>(Nat.lt_or_ge i m).elim (λh9=>by obtain rfl:i=m-1:=om;exact hky) (λh9=>hm2 i h9 h2)⟩ (by rw[hpd,show m-1+(plc (Qd x.ro).1.co (gn.es.drop m) key+1)=m+plc (Qd x.ro).1.co (gn.es.drop m) key by omega];rw[show((m-1:Nat):Int)=(m:Int)-1 by omega];exact aSx)
 obtain rfl:m=0:=by have hq:=h8;omega
 have hkk:ZJ (Qd x.ro).1.co gn.pl.es=true:=QdB λi hi=>hm2 i (Nat.zero_le _) hi
 rw[Nat.zero_add,List.drop_zero]
 refine Qn rfl ?_
 refine aU9 ?_
 refine ZC (α:=Unit) [5,6,18,19,82,83,84,85,86,87,88,89,90,91,92,93,94,95,96,97,98,99,100] (λ_=>[]) (λ_=>¬fnd (Qd x.ro).1.co gn.pl.es key=true) ?_ ?_
 ·skip
  refine sCd rfl (λh11=>?_) λh11=>?_
  ·have hpl5:plc (Qd x.ro).1.co gn.es key<gn.es.length:=by have hq:=h11;omega
   have hz5:Qcs (Qd x.ro).1.co (nth gn.es (plc (Qd x.ro).1.co gn.es key)).key key=0:=by rw[Qk3 hco hke];exact Qr1.2 (hm2 _ (Nat.zero_le _) hpl5)
   refine aU6 ?_
   refine o_p (Qa rfl rfl rfl QN (plc (Qd x.ro).1.co gn.es key) om om (hsE om)) rfl (aU ?_)
   refine o_q (Qf rfl rfl Zt (λw h=>(HS.rw_own (l:=gn.es) ev2 h aPk rfl).rdj 0 (i:=plc (Qd x.ro).1.co gn.es key) om rfl)) rfl (o_q (XX rfl rfl Qqa rfl (λw1 h1=>c57 w1 b4 b2 (Qd x.ro).1.co (nth gn.es (plc (Qd x.ro).1.co gn.es key)).key key (h1.rd_blk (Mc:=[]) aPk rfl (by simp)) (h1.rd_blk (Mc:=[]) aPk rfl (by simp)) (hgn.sm.ent _ (QI om)).1 hkl)) rfl (aU7 ?_))
   refine Qg (L':=[(4,_),(7,_),(9,_),(12,_),(13,_),(14,_),(15,_),(18,_),(49,_),(50,_),(51,_),(52,_),(53,_),(54,_),(55,_),(56,_),(57,_),(77,_),(78,_),(79,_),(80,_),(81,_)]) aSx (λ_ h=>h) ?_
   refine aU4 ?_
   refine sCd rfl (λh12=>?_) λh12=>?_
   ·have hfn:fnd (Qd x.ro).1.co gn.pl.es key=true:=by have hq:=h12;rw[if_pos hz5]at hq;(show(decide (plc (Qd x.ro).1.co gn.es key<gn.es.length)&&decide (QX (Qd x.ro).1.co (nth gn.es (plc (Qd x.ro).1.co gn.es key)).key key=0))=true);rw[decide_eq_true hpl5,decide_eq_true hq];rfl
    have hR:QaO x key=((nth gn.es (plc (Qd x.ro).1.co gn.es key),P),0):=by rw[hfb];exact Qui hkk hfn
    refine aU5 ?_
    refine o_p (Qa rfl rfl rfl QN (plc (Qd x.ro).1.co gn.es key) om om (hsE om)) rfl (o_q (X6 _ rfl rfl Yk rfl (λw h=>Rw.rd (HS.rw_own (l:=gn.es) ev2 h aPk rfl) (i:=plc (Qd x.ro).1.co gn.es key) om)) rfl (aU5 ?_))
    exact Qk (rs:=[.cell 4 27,.tmp 5,.tmp 6]) rfl (.cell rfl Yk aPk rfl (.tmp rfl (.tmp rfl (.nil)))) (λw' h'=>⟨(pa,pc),by rw[hR];rfl,trivial,by rw[hR];exact h'.ent aEt⟩)
   refine aU ?_
   exact Qo () (by have hq:=h12;rw[if_pos hz5]at hq;(show¬(decide (plc (Qd x.ro).1.co gn.es key<gn.es.length)&&decide (QX (Qd x.ro).1.co (nth gn.es (plc (Qd x.ro).1.co gn.es key)).key key=0))=true);rw[decide_eq_false (p:=QX (Qd x.ro).1.co (nth gn.es (plc (Qd x.ro).1.co gn.es key)).key key=0) hq];simp) aSx (λw h=>h.ent aEt)
  have hpl5:¬plc (Qd x.ro).1.co gn.es key<gn.es.length:=by have hq:=h11;omega
  refine aU ?_
  exact Qo () (λh9=>hpl5 (Qtr h9)) aSx (λw h=>h.ent aEt)
 intro _ hnf
 refine aU8 ?_
 refine sCd rfl (λh13=>?_) λh13=>?_
 ·have hR:QaO x key=((Qad,[]),6):=by rw[hfb];exact Qtc hkk hnf (by have hq:=h13;(show gn.cs.length=0);omega)
  refine aU2 ?_
  refine o_p (QF (cs:=[_,_]) rfl rfl Qcz XH rfl) rfl (aU4 ?_)
  exact Qk (rs:=[.cell 4 27,.tmp 5,.tmp 6]) rfl (.cell rfl Yk aPk rfl (.tmp rfl (.tmp rfl (.nil)))) (λw' h'=>⟨(none,0),by rw[hR];rfl,trivial,by rw[hR];exact(h'.nil.own_nil 3 1).ent aEt⟩)
 have hncs:¬gn.pl.cs.length=0:=by have hq:=h13;(show¬gn.cs.length=0);omega
 obtain⟨hkd1,hkd2,hkd3,hkd4⟩:=hgn.kid hncs (Qd x.ro).1.co key
 have hkd1:plc (Qd x.ro).1.co gn.es key<gn.cs.length:=hkd1
 have hkd2:(((Ya (Qd x.ro).1.co gn.pl key):Nat):Int)=gn.cs.getD (plc (Qd x.ro).1.co gn.es key) 0:=hkd2
 refine aU6 ?_
 refine o_p (Qa rfl rfl rfl QA (plc (Qd x.ro).1.co gn.es key) om om (hsC om)) rfl (o_q (Qf rfl rfl X4 (λw h=>(HS.rw_own (l:=gn.cs) iv1 h aPk rfl).rdj 0 (i:=plc (Qd x.ro).1.co gn.es key) om rfl)) rfl (aU ?_))
 refine Qh (show _=Value.int .i64 (((Ya (Qd x.ro).1.co gn.pl key):Nat):Int)from by rw[hkd2];rfl) (aU3 ?_)
 refine Qg (L':=[(4,_),(7,_),(9,_),(12,_),(13,_),(14,_),(15,_),(20,_),(49,_),(50,_),(51,_),(52,_),(53,_),(54,_),(55,_)]) aSx (λ_ h=>h) ?_
 refine aU3 ?_
 refine oCq rfl (λw1 h1=>c61 w1 x (Qd x.ro).1.co (Qd x.ro).1.mo (Qd x.ro).1.rm (some ⟨g9,0,none⟩) 1 rc (Ya (Qd x.ro).1.co gn.pl key) om hb8) (oCq rfl (λw1 h1=>c60 w1 _ _) (aU2 ?_))
 refine oCq rfl (λw1 h1=>c62P w1 pa pc P (Ya (Qd x.ro).1.co gn.pl key) (HS.pown_row (P:=P) h1 aPk) om) (aU ?_)
 refine oCq rfl (λw1 h1=>c60 w1 _ _) (o_h (Qe (cs:=[_,_]) rfl rfl Yo ZR rfl rfl rfl) rfl (λb14 _=>oCq rfl (λw1 h1=>f59 h1 aPk (by rfl) (by rfl) (by decide)) (aU7 ?_)))
 refine sCd rfl (λh15=>?_) λh15=>?_
 ·have hR:=QvA (x:=x) (f:=f) (P:=P) hkk hnf hncs rfl (by have hq:=h15;rw[QeZ]at hq;simpa using hq)
  rw[<-hfb]at hR
  have hR3:Xr [.int .i64 (bif ZZ x (Ya (Qd x.ro).1.co gn.pl key)then 0 else 6),.int .i64 (bif !decide ((Ya (Qd x.ro).1.co gn.pl key)∈P)then 0 else 25)]=(QaO x key).2:=by rw[hR,QeZ];simp
  refine aU2 ?_
  refine o_p (QF (cs:=[_,_]) rfl rfl Qcz XH rfl) rfl (aU5 ?_)
  exact Qk (rs:=[.cell 4 27,.tmp 5,.tmp 6]) rfl (.cell rfl Yk aPk rfl (.tmp rfl (.tmp rfl (.nil)))) (λw' h'=>⟨(none,0),by simp only[Xf];rw[hR3,hR];rfl,trivial,by rw[hR];exact(h'.nil.own_nil 3 1).ent aEt⟩)
 have hnm9:ZZ x (Ya (Qd x.ro).1.co gn.pl key)=true/\¬(Ya (Qd x.ro).1.co gn.pl key)∈P:=by have hq:=h15;rw[QeZ]at hq;grind
 obtain⟨hnm9,hin9⟩:=hnm9
 obtain⟨hb1,hb2,hb3⟩:=QuY hnm9
 have hbl9:1<=(Ya (Qd x.ro).1.co gn.pl key)/\(Ya (Qd x.ro).1.co gn.pl key)*512<=x.al.length:=⟨hb1,hb3⟩
 have hb5:=QeB hbl9
 refine aU5 ?_
 refine oCq rfl (λw1 h1=>c64 w1 x (Qd x.ro).1.co (Qd x.ro).1.mo (Qd x.ro).1.rm (some ⟨g9,0,none⟩) 1 rc (Ya (Qd x.ro).1.co gn.pl key) om hbl9) (aU ?_)
 refine oCh rfl (λw1 h1=>c63 w1 (x.blk (Ya (Qd x.ro).1.co gn.pl key)) (((Ya (Qd x.ro).1.co gn.pl key):Nat):Int) om) (λg2 hg2=>aU3 ?_)
 refine oAl (λb16 _=>?_) Qat
 refine aU5 ?_
 refine Qg (L':=[(4,_),(7,_),(9,_),(12,_),(13,_),(14,_),(15,_),(20,_),(22,_),(23,_),(49,_),(50,_),(51,_),(52,_),(53,_),(54,_),(55,_)]) aSx (λ_ h=>h) ?_
 refine aU4 ?_
 refine sCd rfl (λh17=>?_) λh17=>?_
 ·have hR:QaO x key=((Qad,[]),(XN (x.blk (Ya (Qd x.ro).1.co gn.pl key)) (Ya (Qd x.ro).1.co gn.pl key)).e):=by rw[hfb];exact QtW hkk hnf hncs hnm9 hin9 h17
  refine aU2 ?_
  refine o_p (QF (cs:=[_,_]) rfl rfl Qcz XH rfl) rfl (aU5 ?_)
  exact Qk (rs:=[.cell 4 27,.tmp 5,.tmp 6]) rfl (.cell rfl Yk aPk rfl (.tmp rfl (.tmp rfl (.nil)))) (λw' h'=>⟨(none,0),by rw[hR];rfl,trivial,by rw[hR];exact(h'.nil.own_nil 3 1).ent aEt⟩)
 have he9:(XN (x.blk (Ya (Qd x.ro).1.co gn.pl key)) (Ya (Qd x.ro).1.co gn.pl key)).e=0:=h17
 have hfn9:=Qsl (f:=f) hkk hnf hncs hnm9 hin9 he9
 rw[<-hfb]at hfn9
 have hg3:NdF g2.pl:=by rw[hg2];exact NdF.of he9
 refine aU ?_
 refine Qbe [.blk b16 118 5 [.bool g2.us,.slice g2.ea g2.es.length g2.ec,.slice g2.ca g2.cs.length g2.cc,.int .i64 (XN (x.blk (Ya (Qd x.ro).1.co gn.pl key)) (Ya (Qd x.ro).1.co gn.pl key)).lsn,.int .i64 (XN (x.blk (Ya (Qd x.ro).1.co gn.pl key)) (Ya (Qd x.ro).1.co gn.pl key)).usn]] [6] QC ?_
 refine dFa 0 ?_
 refine dLn 1 [[]] ?_
 refine dP 2 ?_
 refine dP 3 ?_
 refine dH 4 rfl (Qe (cs:=[_]) rfl rfl QA Yp rfl rfl rfl) (λb18 _=>dH 5 rfl (QL [_] rfl rfl rfl QA Tryz.underlying28 Yp rfl aPk (Xb aPk) rfl (by intro u hu;simp only[List.mem_cons,List.mem_nil_iff,or_false]at hu;subst hu;rfl) om (by simp only[maxLen];omega)) (λb19 _=>Qlk 6 rfl (Xo rfl rfl rfl Xs rfl aPt (by show 0+3<=3;omega) rfl) (by kernel_rfl) (λw h=>h.ent aEt) (λ_ _=>?_)))
 refine dTu [] ?_
 refine dP 7 ?_
 refine dNi ?_
 refine aU6 ?_
 refine oAl (λb20 _=>?_) Xj
 refine aU2 ?_
 exact Q1 (b20,(b19.1,b19.2),P++[(Ya (Qd x.ro).1.co gn.pl key)],g2,f) (by(try simp only[]);omega) ⟨hg3,by(try simp only[]);rw[List.length_append,List.length_singleton];omega,Qlg hPd hin9,λi hi=>by rcases List.mem_append.1 hi with h9|h9;exact hPr i h9;obtain rfl:=List.mem_singleton.1 h9;exact⟨hb1,hb2⟩,by(try simp only[]);rw[hg2];exact hfn9⟩ (by simp only[List.length_append (bs:=[(Ya (Qd x.ro).1.co gn.pl key)]),List.length_singleton];exact aSx) (λw h=>by have h2:=h;simp only[List.length_append (bs:=[(Ya (Qd x.ro).1.co gn.pl key)]),List.length_singleton,List.map_append (l₂:=[(Ya (Qd x.ro).1.co gn.pl key)]),List.map_cons,List.map_nil];exact h2.ent aEt)
instance:TFn Tryz.prog 13:=⟨by kernel_rfl⟩
instance:TFn Tryz.prog 18:=⟨by kernel_rfl⟩
theorem Quy{P Q:List Nat}:iN P=iN Q ↔ P=Q:=by
  constructor
  · intro h;apply List.ext_getElem?;intro j;have h1:=congrArg (λl:List Int=>(l[j]?).map Int.toNat) h
    simpa[iN,Function.comp_def]using h1
  · exactλh=>by rw[h]
theorem c15P(w:World)(a b:Option Addr)(c d:Nat)(P Q:List Nat)(hs:Rw inV 1 w [] a (iN P))(ht:Rw inV 1 w [] b (iN Q))(hl:P.length<=100000)(hm:Q.length<=100000):CR 15 #[.slice a P.length c,.slice b Q.length d] w (.bool (decide (P=Q))):=by
  have h:=c15 w a b c d (iN P) (iN Q) hs ht (by rw[Qan];exact hl) (by rw[Qan];exact hm);rw[Qan,Qan,show decide (iN P=iN Q)=decide (P=Q)from decide_eq_decide.2 Quy]at h;exact h
end Go.Proofs
namespace Gx
open Go Go.RowKit
def chB(x:Ixs)(os ts:List Nd)(lsn:Int)(i:Nat):List UInt8:=
 if i=0 then QeM
 else if(nth ts i).us=true then
  if os.length<=i\/¬(nth os i).us=true then Qak (nth ts i) i lsn 1
  else if nth os i=nth ts i then x.blk i
  else Qak (nth ts i) i lsn ((ub2 (x.blk i) 40%65535+1:Nat):Int)
 else QeM
def chX(x:Ixs)(os:List Nd)(t:Tre)(lsn:Int):Ixs:=QaA t (chB x os t.ns lsn)
def chD(x y:Ixs)(i:Nat):Bool:=decide (x.n<i)||(decide (y.n<i)||decide (x.blk i≠y.blk i))
def Qaj(x y:Ixs):Nat->List Nat
 | 0=>[]
 | k+1=>if chD x y (k+1)=true then Qaj x y k++[k+1]else Qaj x y k
def chL(x y:Ixs):List Nat:=Qaj x y (max x.n y.n)
theorem QcC(x y:Ixs):∀k,(Qaj x y k).length<=k
 | 0=>Nat.le_refl _
 | k+1=>by
  have:=QcC x y k;rw[Qaj];split
  ·rw[List.length_append,List.length_singleton];omega
  ·omega
def chE(x:Ixs)(t:Tre)(lsn:Int):Int:=
 if(rdI x).2=0 then
  if YM t=0 then
   if(t.co=(rdI x).1.1.co/\t.mo=(rdI x).1.1.mo)/\t.rm=(rdI x).1.1.rm then
    if 0<=lsn/\lsn<=2147483647 then 0 else 2
   else 13
  else YM t
 else(rdI x).2
theorem Qip{b:List UInt8}{num:Int}(h:(XN b num).e=0):b.length=512/\X2 b=false/\1<=ub2 b 40:=by
 have h1:b.length=512/\X2 b=false:=by
  unfold XN at h
  grind[ndE]
 have h2:=(Qgr.1 h1.2).1;exact⟨h1.1,h1.2,om⟩
theorem Qv5{b:List UInt8}{num:Int}(h:(XN b num).e=0):(XN b num).n.us=true:=by
 have key:∃n last,rdB (Xa b)=some (n,last)/\b.length=512/\(XN b num).n=n:=by
  unfold XN at h ⊢
  grind[ndE]
 obtain⟨n,last,h4,h1,e⟩:=key;rw[e];exact(Qba (Y6 h1) h4).2.2.2.2.2.us
theorem QnH{x:Ixs}(h:(rdI x).2=0){i:Nat}(h1:1<=i/\i<=x.n):((nth (QH x x.n) i).us=true->(XN (x.blk i) i).n=nth (QH x x.n) i/\(XN (x.blk i) i).e=0/\zer (x.blk i)=false)/\(¬(nth (QH x x.n) i).us=true->zer (x.blk i)=true):=by
 obtain⟨h0,ht,he,hr,hb⟩:=Qal h;rw[QrA hr h1];have hbe:=hb i h1.1 h1.2;cases hn:ZZ x i with
 | true=>
  rw[Qe5 hn];rw[Qbz hn]at hbe;obtain⟨q1,q2,q3⟩:=Qip hbe;refine⟨λ_=>⟨rfl,hbe,?_⟩,λh9=>?_⟩
  ·cases hz:zer (x.blk i)with
   | false=>rfl
   | true=>
    have h8:∀b∈x.blk i,b=0:=λb hb=>of_decide_eq_true (List.all_eq_true.1 hz b hb)
    have e:∀p,ub1 (x.blk i) p=0:=λp=>by
     unfold ub1;rcases Nat.lt_or_ge p (x.blk i).length with hp|hp
     ·rw[List.getD_eq_getElem?_getD,List.getElem?_eq_getElem hp,Option.getD_some,h8 _ (List.getElem_mem hp)];rfl
     ·rw[List.getD_eq_getElem?_getD,List.getElem?_eq_none hp];rfl
    have h7:ub2 (x.blk i) 40=0:=by simp only[ub2,e]
    omega
  ·exact absurd (Qv5 hbe) h9
 | false=>
  rw[QgS hn];rw[Qc2 hn]at hbe;refine⟨λh9=>(by cases h9),λ_=>?_⟩
  by_cases hz:zer (x.blk i)=true
  ·exact hz
  ·rw[if_neg hz]at hbe;cases hbe
theorem QcE{x:Ixs}{t:Tre}{lsn:Int}(h:(rdI x).2=0)(hi:YM t=0)(hl:0<=lsn/\lsn<=2147483647):Holds t (chB x (QH x x.n) t.ns lsn):=by
 obtain⟨h0,ht,he,hr,hb⟩:=Qal h;have hnl:=Y7 hr x.n;have hout:∀i,t.ns.length<=i->(nth t.ns i).us=false:=λi h9=>by rw[Zb h9];rfl
 have hnode:∀i(usn:Int),1<=i->(nth t.ns i).us=true->1<=usn/\usn<=65535->(Qak (nth t.ns i) i lsn usn).length=512/\(XN (Qak (nth t.ns i) i lsn usn) i).n=nth t.ns i/\(XN (Qak (nth t.ns i) i lsn usn) i).e=0:=λi usn h1 hu hs=>by
  have hil:i<t.ns.length:=by
   rcases Nat.lt_or_ge i t.ns.length with h9|h9
   ·exact h9
   ·rw[hout i h9]at hu;cases hu
  obtain⟨q1,q2,q3,_,q5⟩:=ZB hi hil hu;have q6:=Qnn hi om hil hu;have e:=QkT (num:=(i:Int)) (lsn:=lsn) (usn:=usn) q1 ⟨q6,q2⟩ om om hl hs;rw[e];exact⟨QbS (QaJ om),rfl,rfl⟩
 have hU:∀s:List UInt8,(1:Int)<=((ub2 s 40%65535+1:Nat):Int)/\((ub2 s 40%65535+1:Nat):Int)<=65535:=λs=>om
 have hold:∀i,1<=i->¬((QH x x.n).length<=i\/¬(nth (QH x x.n) i).us=true)->(x.blk i).length=512/\(XN (x.blk i) i).n=nth (QH x x.n) i/\(XN (x.blk i) i).e=0:=λi h1 h9=>by
  have h8:i<=x.n:=by
   rcases Nat.lt_or_ge x.n i with h7|h7
   ·exact absurd (.inl om) h9
   ·exact h7
  have h7:=(QnH h ⟨h1,h8⟩).1 (by
   cases hq:(nth (QH x x.n) i).us with
   | true=>rfl
   | false=>exact absurd (.inr (by rw[hq];decide)) h9)
  exact⟨(Qip h7.2.1).1,h7.1,h7.2.1⟩
 refine⟨λi=>?_,λi a b hu=>?_,λi a b hu=>?_⟩
 ·unfold chB;split
  ·exact QbA
  ·split
   ·rename_i h1 hu;split
    ·exact(hnode i 1 om hu om).1
    ·rename_i h9;split
     ·exact(hold i om h9).1
     ·exact(hnode i _ om hu (hU _)).1
   ·exact QbA
 ·unfold chB;rw[if_neg om,if_pos hu];split
  ·exact(hnode i 1 a hu om).2
  ·rename_i h9;split
   ·rename_i h8;have h7:=hold i a h9;exact⟨h7.2.1.trans h8,h7.2.2⟩
   ·exact(hnode i _ a hu (hU _)).2
 ·unfold chB;rw[if_neg om,hu,if_neg (by decide)];exact Qdk 512
theorem Qqe{x:Ixs}{t:Tre}{lsn:Int}(h:(rdI x).2=0)(hi:YM t=0)(hl:0<=lsn/\lsn<=2147483647):(chX x (QH x x.n) t lsn).al.length=512*(t.ns.length-1)/\(chX x (QH x x.n) t lsn).n=t.ns.length-1:=by
 have h1:=QbR (QcE h hi hl).len (t.ns.length-1);refine⟨h1,?_⟩;show(Y5 _ _).length/512=_;rw[h1];omega
theorem QvD{x:Ixs}{t:Tre}{lsn:Int}(h:(rdI x).2=0)(hi:YM t=0)(hl:0<=lsn/\lsn<=2147483647){i:Nat}(h1:1<=i/\i<t.ns.length):(chX x (QH x x.n) t lsn).blk i=chB x (QH x x.n) t.ns lsn i:=QeX (QcE h hi hl).len h1.1 _ om
def Qax(x:Ixs)(i:Nat):List UInt8:=if i<=x.n then x.blk i else[]
def QbX(x:Ixs)(os ts:List Nd)(lsn:Int)(i:Nat):List UInt8:=if i<ts.length then chB x os ts lsn i else[]
section
variable{x:Ixs}{t:Tre}{lsn:Int}
theorem Qis(i:Nat)(h:1<=i):(Qax x i).length=if i<=x.n then 512 else 0:=by
 unfold Qax;split
 ·exact QeB (by have:x.n=x.al.length/512:=rfl;omega)
 ·rfl
theorem QmZ(h:(rdI x).2=0)(hi:YM t=0)(hl:0<=lsn/\lsn<=2147483647)(i:Nat):(QbX x (QH x x.n) t.ns lsn i).length=if i<t.ns.length then 512 else 0:=by
 unfold QbX;split
 ·exact(QcE h hi hl).len i
 ·rfl
theorem QuT(h:(rdI x).2=0)(hi:YM t=0)(hl:0<=lsn/\lsn<=2147483647){k:Nat}(hk:k+1<max (QH x x.n).length t.ns.length):(¬QbX x (QH x x.n) t.ns lsn (k+1)=Qax x (k+1)) ↔ chD x (chX x (QH x x.n) t lsn) (k+1)=true:=by
 obtain⟨_,_,_,hr1,_⟩:=Qal h;have hnl:=Y7 hr1 x.n;have h1:=QmZ h hi hl (k+1);have h2:=Qis (x:=x) (k+1) om;have h3:=(Qqe h hi hl).2;have h0:=(YZ hi).1;unfold chD;rw[h3];simp only[Bool.or_eq_true,decide_eq_true_eq]
 by_cases c1:k+1<t.ns.length
 ·by_cases c2:k+1<=x.n
  ·rw[QvD h hi hl (i:=k+1) om];unfold QbX Qax;rw[if_pos c1,if_pos c2];constructor
   ·exactλh9=>.inr (.inr λe=>h9 e.symm)
   ·rintro(h9|h9|h9)
    ·omega
    ·omega
    ·exactλe=>h9 e.symm
  ·refine⟨λ_=>.inl om,λ_ e=>?_⟩;rw[e,h2,if_neg c2,if_pos c1]at h1;cases h1
 ·refine⟨λ_=>.inr (.inl om),λ_ e=>?_⟩;rw[e,h2,if_pos om,if_neg c1]at h1;cases h1
theorem QoJ(h0:0<t.ns.length)(k:Nat):Y5 (chB x (QH x x.n) t.ns lsn) (min k (t.ns.length-1))++QbX x (QH x x.n) t.ns lsn (k+1)=Y5 (chB x (QH x x.n) t.ns lsn) (min (k+1) (t.ns.length-1)):=by
 unfold QbX;split
 ·rw[show min k (t.ns.length-1)=k by omega,show min (k+1) (t.ns.length-1)=k+1 by omega,Y5]
 ·rw[show min k (t.ns.length-1)=t.ns.length-1 by omega,show min (k+1) (t.ns.length-1)=t.ns.length-1 by omega,List.append_nil]
theorem QqN{os ts:List Nd}{k:Nat}(hu:¬(nth ts (k+1)).us=true)(hk:k+1<ts.length):QbX x os ts lsn (k+1)=QeM:=by
 unfold QbX chB;rw[if_pos hk,if_neg (Nat.succ_ne_zero k),if_neg hu]
theorem QrZ{os ts:List Nd}{k:Nat}(hu:(nth ts (k+1)).us=true)(hk:k+1<ts.length)(hx:os.length=x.n+1)(h1:k+1<os.length)(h2:nth os (k+1)=nth ts (k+1)):QbX x os ts lsn (k+1)=Qax x (k+1):=by
 unfold QbX chB Qax;rw[if_pos hk,if_neg (Nat.succ_ne_zero k),if_pos hu,if_neg (by rw[h2,hu];simp;omega),if_pos h2,if_pos om]
theorem Qsp(h:(rdI x).2=0){ts:List Nd}{k:Nat}(hu:(nth ts (k+1)).us=true)(hk:k+1<ts.length)(hx:(QH x x.n).length=x.n+1)(hz:Qax x (k+1)=[]\/zer (Qax x (k+1))=true):QbX x (QH x x.n) ts lsn (k+1)=Qak (nth ts (k+1)) ((k+1:Nat):Int) lsn 1:=by
 unfold QbX chB;rw[if_pos hk,if_neg (Nat.succ_ne_zero k),if_pos hu,if_pos]
 by_cases c:k+1<=x.n
 ·refine .inr λh9=>?_;have h8:=((QnH h (i:=k+1) om).1 h9);have h7:Qax x (k+1)=x.blk (k+1):=if_pos c;rw[h7]at hz;rcases hz with hz|hz
  ·have:=(Qip h8.2.1).1;rw[hz]at this;cases this
  ·rw[h8.2.2]at hz;cases hz
 ·exact .inl om
theorem Qqh(h:(rdI x).2=0){ts:List Nd}{k:Nat}(hu:(nth ts (k+1)).us=true)(hk:k+1<ts.length)(hx:(QH x x.n).length=x.n+1)(hn:¬(k+1<(QH x x.n).length/\nth (QH x x.n) (k+1)=nth ts (k+1)))(hz:¬Qax x (k+1)=[]/\zer (Qax x (k+1))=false):QbX x (QH x x.n) ts lsn (k+1)=Qak (nth ts (k+1)) ((k+1:Nat):Int) lsn ((ub2 (Qax x (k+1)) 40%65535+1:Nat):Int)/\(Qax x (k+1)).length=512:=by
 have c:k+1<=x.n:=by
  rcases Nat.lt_or_ge x.n (k+1)with h9|h9
  ·exact absurd (if_neg om) hz.1
  ·exact h9
 have h7:Qax x (k+1)=x.blk (k+1):=if_pos c
 have h8:(nth (QH x x.n) (k+1)).us=true:=by
  cases hq:(nth (QH x x.n) (k+1)).us with
  | true=>rfl
  | false=>
   have:=(QnH h (i:=k+1) om).2 (by rw[hq];decide);rw[h7,this]at hz;cases hz.2
 refine⟨?_,by rw[Qis _ om,if_pos c]⟩;unfold QbX chB;rw[if_pos hk,if_neg (Nat.succ_ne_zero k),if_pos hu,if_neg (by rw[h8];simp;omega),if_neg λe=>hn ⟨om,e⟩,h7]
end
end Gx
namespace Go.Proofs
open Go Go.RowKit Gx
attribute [local irreducible] Go.Calls Gx.S Gx.O Gx.D Gx.OpP Gx.OpQ Gx.OpH
set_option maxRecDepth 20000
instance:TFn Tryz.prog 208:=⟨by kernel_rfl⟩
instance:TFn Tryz.prog 209:=⟨by kernel_rfl⟩
theorem QvC:QY Tryz.prog 161=true:=by kernel_rfl
instance:TFn Tryz.prog 162:=⟨by kernel_rfl⟩
theorem c208(w:World)(a b:Option Addr)(c d:Nat)(l m:List TEnt)(hs:Rw TEnt.vals 2 w [] a l)(ht:Rw TEnt.vals 2 w [] b m)(hl:l.length<=100000)(hm:m.length<=100000):CR 208 #[.slice a l.length c,.slice b m.length d] w (.bool (decide (l=m))):=by
 refine eN2 Tryz.func208 Tryz.ntmps208 ?_
 refine Qau ?_
 refine sCd rfl (λh1=>?_) λh1=>?_
 ·have hn9:l≠m:=λe=>by have hq:=h1;rw[e]at hq;simp at hq
  refine aU4 ?_
  exact rV (h:=by rw[decide_eq_false hn9];rfl)
 have hlm:l.length=m.length:=by have hq:=h1;omega
 refine aU9 ?_
 refine Qx (α:=Nat) [4,5,13,14,15,16,17,18,19,20,21,22,23,24,25] (λk=>[(13,.int .i64 (k:Int))]) (λ_=>HS w [] []) (λk=>k<=l.length/\∀j,j<k->nth l j=nth m j) (λk=>l.length-k) 0 ⟨Nat.zero_le _,λj h=>absurd h (Nat.not_lt_zero j)⟩ aSx (λw h=>h.ent aEt) (λk hx=>?_)
 obtain⟨hk1,hk3⟩:=hx
 refine aU5 ?_
 refine sCd rfl (λh2=>?_) λh2=>?_
 ·have hk:k<l.length:=by omega
  have hk2:k<m.length:=om
  refine aU9 ?_
  refine Qt [] QC ?_
  refine dP 0 ?_
  refine dP 1 ?_
  refine dV 2 rfl (Qa rfl rfl rfl QN (k) om om (Rw.some hs om)) (dQ 3 [] rfl (QB _ rfl rfl Yk rfl (Rw.rd hs om)) (dP 4 ?_))
  refine dP 5 ?_
  refine dV 6 rfl (Qa rfl rfl rfl QN (k) om om (Rw.some ht om)) (dQ 7 [] rfl (QB _ rfl rfl Yk rfl (Rw.rd ht om)) (dV 8 rfl (QdA rfl rfl rfl Qrq (by rfl) (by rfl) (by rfl)) (dNi ?_)))
  refine sCd rfl (λh3=>?_) λh3=>?_
  ·have hn9:l≠m:=λe=>by have hq:=h3;rw[e]at hq;simp at hq
   refine aU4 ?_
   exact rV (h:=by rw[decide_eq_false hn9];rfl)
  have he9:nth l k=nth m k:=by have hq:=h3;first|exact hq|exact Qin hq.1 hq.2.1
  refine aT4 ?_
  refine aU2 ?_
  exact sBk (k+1) om ⟨om,λj hj=>(Nat.lt_or_ge j k).elim (hk3 j) (λh9=>by obtain rfl:j=k:=om;exact he9)⟩
 have hl9:l=m:=QaC hlm λj hj=>hk3 j om
 refine Qn rfl ?_
 refine aU4 ?_
 exact rV (h:=by rw[decide_eq_true hl9];rfl)
theorem c209(w:World)(a b:Option Addr)(c d:Nat)(l m:List Int)(hs:Rw inV 1 w [] a l)(ht:Rw inV 1 w [] b m)(hl:l.length<=100000)(hm:m.length<=100000):CR 209 #[.slice a l.length c,.slice b m.length d] w (.bool (decide (l=m))):=by
 refine eN2 Tryz.func209 Tryz.ntmps209 ?_
 refine Qau ?_
 refine sCd rfl (λh1=>?_) λh1=>?_
 ·have hn9:l≠m:=λe=>by have hq:=h1;rw[e]at hq;simp at hq
  refine aU4 ?_
  exact rV (h:=by rw[decide_eq_false hn9];rfl)
 have hlm:l.length=m.length:=by have hq:=h1;omega
 refine aU9 ?_
 refine Qx (α:=Nat) [4,5,13,14,15,16,17,18,19,20,21,22,23,24,25] (λk=>[(13,.int .i64 (k:Int))]) (λ_=>HS w [] []) (λk=>k<=l.length/\∀j,j<k->nth l j=nth m j) (λk=>l.length-k) 0 ⟨Nat.zero_le _,λj h=>absurd h (Nat.not_lt_zero j)⟩ aSx (λw h=>h.ent aEt) (λk hx=>?_)
 obtain⟨hk1,hk3⟩:=hx
 refine aU5 ?_
 refine sCd rfl (λh2=>?_) λh2=>?_
 ·have hk:k<l.length:=by omega
  have hk2:k<m.length:=om
  refine aU9 ?_
  refine Qt [] QC ?_
  refine dP 0 ?_
  refine dP 1 ?_
  refine dV 2 rfl (Qa rfl rfl rfl QA (k) om om (Rw.some hs om)) (dQ 3 [] rfl (Qc rfl rfl X4 ((hs.rdj 0 om rfl))) (dP 4 ?_))
  refine dP 5 ?_
  refine dV 6 rfl (Qa rfl rfl rfl QA (k) om om (Rw.some ht om)) (dQ 7 [] rfl (Qc rfl rfl X4 ((ht.rdj 0 om rfl))) (dP 8 ?_))
  refine dNi ?_
  refine sCd rfl (λh3=>?_) λh3=>?_
  ·have hn9:l≠m:=λe=>by have hq:=h3;rw[e]at hq;simp at hq
   refine aU4 ?_
   exact rV (h:=by rw[decide_eq_false hn9];rfl)
  have he9:nth l k=nth m k:=by have hq:=h3;first|exact hq|exact Qin hq.1 hq.2.1
  refine aT4 ?_
  refine aU2 ?_
  exact sBk (k+1) om ⟨om,λj hj=>(Nat.lt_or_ge j k).elim (hk3 j) (λh9=>by obtain rfl:j=k:=om;exact he9)⟩
 have hl9:l=m:=QaC hlm λj hj=>hk3 j om
 refine Qn rfl ?_
 refine aU4 ?_
 exact rV (h:=by rw[decide_eq_true hl9];rfl)
theorem c161(w:World)(n m:LNd)(hne:Rw TEnt.vals 2 w [] n.ea n.es)(hnc:Rw inV 1 w [] n.ca n.cs)(hme:Rw TEnt.vals 2 w [] m.ea m.es)(hmc:Rw inV 1 w [] m.ca m.cs)(h1:n.es.length<=100000/\n.cs.length<=100000)(h2:m.es.length<=100000/\m.cs.length<=100000):CR 161 #[.agg #[.bool n.us,.slice n.ea n.es.length n.ec,.slice n.ca n.cs.length n.cc],.agg #[.bool m.us,.slice m.ea m.es.length m.ec,.slice m.ca m.cs.length m.cc]] w (.bool (decide (n.pl=m.pl))):=by
 refine eN2 Tryz.func161 Tryz.ntmps161 ?_
 refine aU2 ?_
 refine oBx λb1 _=>?_
 refine oBx λb2 _=>?_
 refine aU8 ?_
 refine o_p (Qd9 rfl rfl rfl Tryz.underlying4) rfl (aU ?_)
 refine XF 6 10 16 rfl
  (λhg3 _=>by
   refine aU9 ?_
   refine oCq rfl (λw1 h1=>c208 w1 n.ea m.ea n.ec m.ec n.es m.es (hne.later h1.nil) (hme.later h1.nil) om om) ?_
   exact oJt 6 16)
  (λhg5 _=>by
   refine aU5 ?_
   exact oJf 6 16) ?_
 refine aU ?_
 refine XF 6 17 23 rfl
  (λhg7 _=>by
   refine aU9 ?_
   refine oCq rfl (λw1 h1=>c209 w1 n.ca m.ca n.cc m.cc n.cs m.cs (hnc.later h1.nil) (hmc.later h1.nil) om om) ?_
   exact oJt 6 23)
  (λhg9 _=>by
   refine aU5 ?_
   exact oJf 6 23) ?_
 refine aU2 ?_
 exact rV (h:=by simp only[Xf];rw[Qf8])
theorem c162(w:World)(u:Nat)(hu:u<=65535):CR 162 #[.int .i64 (u:Int)] w (.tuple #[.int .i64 ((u%65535+1:Nat):Int),.int .i64 0]):=by
 refine eN1 Tryz.func162 Tryz.ntmps162 ?_
 refine aU9 ?_
 refine oCq rfl (λw1 h1=>c205 w1 _ _ _) (aU2 ?_)
 refine sCd rfl (λh1=>?_) λh1=>?_
 ·exfalso;have hq:=h1;omega
 refine aU4 ?_
 refine o_p (Zd rfl rfl rfl om om) rfl (aT ?_)
 refine aU3 ?_
 exact Qk (rs:=[.tmp 2,.tmp 3]) rfl (.tmp rfl (.tmp rfl (.nil))) (λw' h'=>⟨by rw[show((u%65535+1:Nat):Int)=(u:Int)%65535+1 by omega];rfl,h'.below⟩)
theorem c160(w:World)(b6 b5 b7 b4:Nat)(x:Ixs)(c2 m2 r2:Int)(ra:Option Addr)(rn rc:Nat)(co mo rm:Int)(a:Option Addr)(cap:Nat)(L:List LNd)(oa:Option Addr)(oc:Nat)(OL:List LNd)(lsn:Int)(k:Nat)(hb6:Rd w [] b6 3 (.slice a L.length cap))(hb5:Rd w [] b5 3 (.slice oa OL.length oc))(hb7:Rd w [] b7 0 (.int .i64 lsn))(hb4:∀j v,([.string (bs x.ro),.string (bs x.al),.string (bs x.bm),.int .i64 c2,.int .i64 m2,.int .i64 r2,.slice ra rn rc]:List Value)[j]?=some v->Rd w [] b4 (0+j) v)(hs:Nt w [] a L)(ho:Nt w [] oa OL)(hr:(rdI x).2=0)(hO:pln OL=QH x x.n)(hi:YM (⟨co,mo,rm,pln L⟩:Tre)=0)(hl9:0<=lsn/\lsn<=2147483647)(hal:x.al.length<=900000)(hkk:k+1<L.length):CR 160 #[.int .i64 ((k+1:Nat):Int),.pointer (some ⟨b6,0,none⟩),.pointer (some ⟨b5,0,none⟩),.pointer (some ⟨b7,0,none⟩),.pointer (some ⟨b4,0,none⟩)] w (.string (bs (chB x (pln OL) (pln L) lsn (k+1)))):=by
 have hr9:=YZ hi
 have h09:0<L.length:=by have:=hr9.1;rwa[show(⟨co,mo,rm,pln L⟩:Tre).ns=pln L from rfl,Qb]at this
 have hn9:=ZB hi hr9.1 hr9.2.1
 have hp9:NdP (nth L 0).pl:=by have hq:=hn9.1.ndp (by have:=hn9.2.1;omega);rwa[show(⟨co,mo,rm,pln L⟩:Tre).ns=pln L from rfl,QR]at hq
 have hbb:(0<=co/\co<256)/\(0<=mo/\mo<256)/\0<=rm/\rm<256:=by have h1:=hr9.2.2.1;have h2:=hr9.2.2.2.1;have h3:QJ co=0:=h1;have h4:XW mo rm=0:=h2;unfold QJ at h3;unfold XW at h4;split at h3;(split at h4;omega;cases h4);cases h3
 have hL120:L.length<=120:=by have:=hn9.2.2.2.2;rwa[show(⟨co,mo,rm,pln L⟩:Tre).ns=pln L from rfl,Qb]at this
 obtain⟨h0r,htr,her,hr1,hbr⟩:=Qal hr
 have hOl:OL.length=x.n+1:=by rw[<-Qb,hO];exact Y7 hr1 _
 have hn8:x.n=x.al.length/512:=rfl
 refine eN5 Tryz.func160 Tryz.ntmps160 ?_
 refine aU9 ?_
 refine o_q (Qc rfl rfl Yl (hb6)) rfl (aU ?_)
 refine o_p (Qa rfl rfl rfl Qw ((k+1)) om om (Rw.some hs.1 om)) rfl (aU ?_)
 refine o_q (Qc rfl rfl Qcy ((hs.1.rdj (i:=k+1) 0 om rfl))) rfl (aU3 ?_)
 refine sCd rfl (λh1=>?_) λh1=>?_
 ·have hu1:¬(nth (pln L) (k+1)).us=true:=by rw[QR];have hq:=h1;first|exact hq|(intro h9;have h8:(nth L (k+1)).us=true:=h9;rw[h8]at hq;cases hq)
  have hnw:(chB x (pln OL) (pln L) lsn (k+1))=QeM:=by unfold chB;rw[if_neg (Nat.succ_ne_zero k),if_neg hu1]
  refine aU2 ?_
  refine oCq rfl (λw1 h1=>c78 w1) (aU2 ?_)
  exact rV (h:=by rw[hnw];rfl)
 have hk1:k+1<L.length:=om
 have hu1:(nth (pln L) (k+1)).us=true:=by rw[QR];have hq:=h1;first|exact hq|simpa using hq
 have hn1:=ZB hi (i:=k+1) (by rw[show(⟨co,mo,rm,pln L⟩:Tre).ns=pln L from rfl,Qb];omega) hu1
 have hq1:NdP (nth L (k+1)).pl:=by have hq:=hn1.1.ndp (by have:=hn1.2.1;omega);rwa[show(⟨co,mo,rm,pln L⟩:Tre).ns=pln L from rfl,QR]at hq
 have hcb1:(Xy (nth L (k+1)).pl).length<=448:=by have hq:=hn1.2.2.1;rw[show(⟨co,mo,rm,pln L⟩:Tre).ns=pln L from rfl,QR]at hq;omega
 have hsz1:(nth L (k+1)).es.length<=100000/\(nth L (k+1)).cs.length<=100000:=by have h1:=hn1.2.1;have h2:=hn1.1.cl;rw[show(⟨co,mo,rm,pln L⟩:Tre).ns=pln L from rfl,QR]at h1 h2;have h3:(nth L (k+1)).es.length<=4:=h1;have h4:(nth L (k+1)).cs.length=0\/(nth L (k+1)).cs.length=(nth L (k+1)).es.length+1:=h2;omega
 refine aU4 ?_
 refine o_q (Qc rfl rfl Yl (hb5)) rfl (aU3 ?_)
 refine oOr 8 25 33 rfl
  (λhg2 _=>by
   refine aU3 ?_
   refine o_q (Qc rfl rfl Yl (hb5)) rfl (aU3 ?_)
   refine o_p (Qa rfl rfl rfl Qw ((k+1)) om om (Rw.some ho.1 om)) rfl (aU3 ?_)
   refine o_q (Qc rfl rfl Qcy ((ho.1.rdj (i:=k+1) 0 om rfl))) rfl (aU2 ?_)
   exact oJf 8 33)
  (λhg4 _=>by
   refine aU7 ?_
   exact oJt 8 33) ?_
 refine aU2 ?_
 refine sCd rfl (λh6=>?_) λh6=>?_
 ·have hnw:(chB x (pln OL) (pln L) lsn (k+1))=Qak (nth L (k+1)).pl ((k+1:Nat):Int) lsn 1:=by unfold chB;rw[if_neg (Nat.succ_ne_zero k),if_pos hu1,if_pos,<-QR];rw[Qb,QR];have hq:=h6;rcases hq with hq|hq;exact .inl om;exact .inr (λh9=>by have h8:(nth OL (k+1)).us=true:=h9;rw[h8]at hq;cases hq)
  refine aU ?_
  refine Qt [] QC ?_
  refine dFa 0 ?_
  refine dQ 1 [] rfl (Qc rfl rfl Yl (hb6)) (dP 2 ?_)
  refine dV 3 rfl (Qa rfl rfl rfl Qw ((k+1)) om om (Rw.some hs.1 om)) (dQ 4 [] rfl (QB _ rfl rfl Xs rfl (Rw.rd hs.1 om)) (dQ 5 [] rfl (Qc rfl rfl X4 (hb7)) (dV 6 rfl (QF (cs:=[_,_,_,_,_]) rfl rfl QcH Qat rfl) (dP 7 ?_))))
  refine dQ 8 [] rfl (Qv rfl QrR rfl (λw1 h1=>c79 w1 (nth L (k+1)) ((k+1:Nat):Int) lsn 1 ((hs.es hk1).later h1.nil) ((hs.cs hk1).later h1.nil) hq1 hcb1 om om om)) (dP 9 ?_)
  refine dNi ?_
  exact rV (h:=by rw[hnw];rfl)
 have hq8:=h6
 have hko:k+1<OL.length:=by have hq:=hq8.1;omega
 have huo:(nth OL (k+1)).us=true:=by have hq:=hq8.2;first|exact hq|simpa using hq
 have hon:nth (QH x x.n) (k+1)=(nth OL (k+1)).pl:=by rw[<-hO];exact Ql hko
 have hch:=(QnH hr (i:=k+1) om).1 (by rw[hon];exact huo)
 have hlt:=Qip hch.2.1
 have hbl9:1<=k+1/\(k+1)*512<=x.al.length:=om
 have hb2:=Qc9 (x.blk (k+1)) 40
 have hsz2:(nth OL (k+1)).es.length<=100000/\(nth OL (k+1)).cs.length<=100000:=by have h9:=QbG (QcQ h0r).2.2.1 x.n _ (QI (i:=k+1) (by rw[Y7 hr1];omega));rw[hon]at h9;have h1:=h9.es;have h2:=h9.cs;have h3:(nth OL (k+1)).es.length<=255:=h1;have h4:(nth OL (k+1)).cs.length<=256:=h2;omega
 have hnot:¬((pln OL).length<=k+1\/¬(nth (pln OL) (k+1)).us=true):=by rw[Qb,QR];intro h9;rcases h9 with h9|h9;omega;exact h9 huo
 refine aU ?_
 refine Qt [] QC ?_
 refine dFa 0 ?_
 refine dQ 1 [] rfl (Qc rfl rfl Yl (hb5)) (dP 2 ?_)
 refine dV 3 rfl (Qa rfl rfl rfl Qw ((k+1)) om om (Rw.some ho.1 om)) (dQ 4 [] rfl (QB _ rfl rfl Xs rfl (Rw.rd ho.1 om)) (dFa 5 ?_))
 refine dQ 6 [] rfl (Qc rfl rfl Yl (hb6)) (dP 7 ?_)
 refine dV 8 rfl (Qa rfl rfl rfl Qw ((k+1)) om om (Rw.some hs.1 om)) (dQ 9 [] rfl (QB _ rfl rfl Xs rfl (Rw.rd hs.1 om)) (dQ 10 [] rfl (Qv rfl QvC rfl (λw1 h1=>c161 w1 (nth OL (k+1)) (nth L (k+1)) ((ho.es hko).later h1.nil) ((ho.cs hko).later h1.nil) ((hs.es hk1).later h1.nil) ((hs.cs hk1).later h1.nil) hsz2 hsz1)) (dP 11 ?_)))
 refine dNi ?_
 refine sCd rfl (λh7=>?_) λh7=>?_
 ·have hnw:(chB x (pln OL) (pln L) lsn (k+1))=x.blk (k+1):=by unfold chB;rw[if_neg (Nat.succ_ne_zero k),if_pos hu1,if_neg hnot,if_pos];rw[QR,QR];exact h7
  refine aU ?_
  refine Qg (L':=[(0,_),(1,_),(3,_),(4,_),(6,_)]) aSx (λ_ h=>h) ?_
  refine aU ?_
  refine o_q (QB _ rfl rfl YT rfl hb4) rfl (aU ?_)
  refine oCq rfl (λw1 h1=>c64 w1 x c2 m2 r2 ra rn rc (k+1) om hbl9) (aU2 ?_)
  exact rV (h:=by rw[hnw];rfl)
 have hnw:(chB x (pln OL) (pln L) lsn (k+1))=Qak (nth L (k+1)).pl ((k+1:Nat):Int) lsn ((ub2 (x.blk (k+1)) 40%65535+1:Nat):Int):=by unfold chB;rw[if_neg (Nat.succ_ne_zero k),if_pos hu1,if_neg hnot,if_neg,<-QR];rw[QR,QR];exact h7
 refine aU3 ?_
 refine Qg (L':=[(0,_),(1,_),(3,_),(4,_),(6,_)]) aSx (λ_ h=>h) ?_
 refine aU ?_
 refine o_q (QB _ rfl rfl YT rfl hb4) rfl (aU ?_)
 refine oCq rfl (λw1 h1=>c64 w1 x c2 m2 r2 ra rn rc (k+1) om hbl9) (oCq rfl (λw1 h1=>by have h9:=c130 w1 (x.blk (k+1)) om;rw[QfO hlt.1 hlt.2.1]at h9;exact h9) (Zl ?_))
 refine oCq rfl (λw1 h1=>c162 w1 (ub2 (x.blk (k+1)) 40) om) (aU6 ?_)
 refine Qt [] QC ?_
 refine dFa 0 ?_
 refine dQ 1 [] rfl (Qc rfl rfl Yl (hb6)) (dP 2 ?_)
 refine dV 3 rfl (Qa rfl rfl rfl Qw ((k+1)) om om (Rw.some hs.1 om)) (dQ 4 [] rfl (QB _ rfl rfl Xs rfl (Rw.rd hs.1 om)) (dQ 5 [] rfl (Qc rfl rfl X4 (hb7)) (dP 6 ?_)))
 refine dV 7 rfl (QF (cs:=[_,_,_,_,_]) rfl rfl QcH Qat rfl) (dP 8 ?_)
 refine dQ 9 [] rfl (Qv rfl QrR rfl (λw1 h1=>c79 w1 (nth L (k+1)) ((k+1:Nat):Int) lsn ((ub2 (x.blk (k+1)) 40%65535+1:Nat):Int) ((hs.es hk1).later h1.nil) ((hs.cs hk1).later h1.nil) hq1 hcb1 om om om)) (dP 10 ?_)
 refine dNi ?_
 exact rV (h:=by rw[hnw];rfl)
theorem Qt0:QY Tryz.prog 160=true:=by kernel_rfl
set_option maxHeartbeats 2000000 in
theorem c101(w:World)(x:Ixs)(c2 m2 r2:Int)(ra:Option Addr)(rn rc:Nat)(co mo rm:Int)(a:Option Addr)(cap:Nat)(L:List LNd)(co5 mo5 rm5:Int)(oa:Option Addr)(oc:Nat)(OL:List LNd)(lsn:Int)(hs:Nt w [] a L)(ho:Nt w [] oa OL)(hr:(rdI x).2=0)(hO:pln OL=QH x x.n)(hi:YM (⟨co,mo,rm,pln L⟩:Tre)=0)(hl9:0<=lsn/\lsn<=2147483647)(hal:x.al.length<=900000)(hcap:L.length<=cap)(hc9:cap<=maxLen):CE 101 #[.agg #[.string (bs x.ro),.string (bs x.al),.string (bs x.bm),.int .i64 c2,.int .i64 m2,.int .i64 r2,.slice ra rn rc],.agg #[.int .i64 co5,.int .i64 mo5,.int .i64 rm5,.slice oa OL.length oc],.agg #[.int .i64 co,.int .i64 mo,.int .i64 rm,.slice a L.length cap],.int .i64 lsn] w [] (λg:Option Addr×Nat=>.tuple #[.agg #[.string (bs (chX x (pln OL) (⟨co,mo,rm,pln L⟩:Tre) lsn).ro),.string (bs (chX x (pln OL) (⟨co,mo,rm,pln L⟩:Tre) lsn).al),.string (bs (chX x (pln OL) (⟨co,mo,rm,pln L⟩:Tre) lsn).bm)],.slice g.1 (chL x (chX x (pln OL) (⟨co,mo,rm,pln L⟩:Tre) lsn)).length g.2]) (λg=>True) λg=>[.own (.slice g.1 ((chL x (chX x (pln OL) (⟨co,mo,rm,pln L⟩:Tre) lsn))).length g.2) 3 1 ((chL x (chX x (pln OL) (⟨co,mo,rm,pln L⟩:Tre) lsn))).length (((chL x (chX x (pln OL) (⟨co,mo,rm,pln L⟩:Tre) lsn))).map λi:Nat=>Value.int .i64 (i:Int))]:=by
 have hr9:=YZ hi
 have h09:0<L.length:=by have:=hr9.1;rwa[show(⟨co,mo,rm,pln L⟩:Tre).ns=pln L from rfl,Qb]at this
 have hn9:=ZB hi hr9.1 hr9.2.1
 have hp9:NdP (nth L 0).pl:=by have hq:=hn9.1.ndp (by have:=hn9.2.1;omega);rwa[show(⟨co,mo,rm,pln L⟩:Tre).ns=pln L from rfl,QR]at hq
 have hbb:(0<=co/\co<256)/\(0<=mo/\mo<256)/\0<=rm/\rm<256:=by have h1:=hr9.2.2.1;have h2:=hr9.2.2.2.1;have h3:QJ co=0:=h1;have h4:XW mo rm=0:=h2;unfold QJ at h3;unfold XW at h4;split at h3;(split at h4;omega;cases h4);cases h3
 have hL120:L.length<=120:=by have:=hn9.2.2.2.2;rwa[show(⟨co,mo,rm,pln L⟩:Tre).ns=pln L from rfl,Qb]at this
 have hn8:x.n=x.al.length/512:=rfl
 have hyn:(chX x (pln OL) (⟨co,mo,rm,pln L⟩:Tre) lsn).al.length=512*(L.length-1)/\(chX x (pln OL) (⟨co,mo,rm,pln L⟩:Tre) lsn).n=L.length-1:=by have h9:=Qqe (lsn:=lsn) hr hi hl9;rw[<-hO,show(⟨co,mo,rm,pln L⟩:Tre).ns=pln L from rfl,Qb]at h9;exact h9
 obtain⟨hya,hyn⟩:=hyn
 have hbk9:∀i,(chB x (pln OL) (pln L) lsn i).length<=512:=λi=>by have h9:=(QcE (lsn:=lsn) hr hi hl9).len i;rw[<-hO]at h9;exact Nat.le_of_eq h9
 refine eN4 Tryz.func101 Tryz.ntmps101 ?_
 refine aU2 ?_
 refine oBx λb1 _=>?_
 refine oBx λb2 _=>?_
 refine oBx λb3 _=>?_
 refine oBx λb4 _=>?_
 refine oAl (λb5 _=>?_) YN
 refine aU6 ?_
 refine oCq rfl (λw1 h1=>c76 w1 co mo rm a cap L 160 #[.pointer (some ⟨b3,0,none⟩),.pointer (some ⟨b2,0,none⟩),.pointer (some ⟨b4,0,none⟩),.pointer (some ⟨b1,0,none⟩)] (chB x (pln OL) (pln L) lsn) (hs.later h1.nil) h09 om hp9 hcap hc9 hbk9 Qt0 (λk w2 hk h2=>c160 w2 b3 b2 b4 b1 x c2 m2 r2 ra rn rc co mo rm a cap L oa oc OL lsn k ((h1.call h2).rd_blk (Mc:=[]) aPk rfl (by simp)) ((h1.call h2).rd_blk (Mc:=[]) aPk rfl (by simp)) ((h1.call h2).rd_blk (Mc:=[]) aPk rfl (by simp)) (λj v hv=>by rw[Nat.zero_add];exact(h1.call h2).rd_blk (Mc:=[]) aPk hv (by simp)) (hs.later (h1.call h2).nil) (ho.later (h1.call h2).nil) hr hO hi hl9 hal hk)) (Qh (show _=Value.agg #[.string (bs (chX x (pln OL) (⟨co,mo,rm,pln L⟩:Tre) lsn).ro),.string (bs (chX x (pln OL) (⟨co,mo,rm,pln L⟩:Tre) lsn).al),.string (bs (chX x (pln OL) (⟨co,mo,rm,pln L⟩:Tre) lsn).bm)]from by rw[show(chX x (pln OL) (⟨co,mo,rm,pln L⟩:Tre) lsn).al=Y5 (chB x (pln OL) (pln L) lsn) (L.length-1)from by(show Y5 _ ((pln L).length-1)=_);rw[Qb]];rfl) (oAl (λb6 _=>?_) YN))
 refine aU5 ?_
 refine o_p (QF (cs:=[_,_,_,_,_,_,_]) rfl rfl Qqf Qbr rfl) rfl (oAl (λb7 _=>?_) Qbr)
 refine Zx ?_
 refine Qg (L':=[(4,_),(8,_),(9,_),(10,_),(11,_),(12,_),(13,_)]) aSx (λ_ h=>h) ?_
 refine Qx (α:=Nat×Option Addr×Nat) [12,13,19,20,21,22,23,24,25,26,27,28,29,30,31,32,33,34,35,36,37,38,39,40,41,42,43,44,45,46,47,48,49,50] (λy=>[(13,.int .i64 ((y.1+1:Nat):Int)),(12,.slice y.2.1 (Qaj x (chX x (pln OL) (⟨co,mo,rm,pln L⟩:Tre) lsn) y.1).length y.2.2)]) (λy=>HS w [] [.own (.slice y.2.1 ((Qaj x (chX x (pln OL) (⟨co,mo,rm,pln L⟩:Tre) lsn) y.1)).length y.2.2) 3 1 ((Qaj x (chX x (pln OL) (⟨co,mo,rm,pln L⟩:Tre) lsn) y.1)).length (((Qaj x (chX x (pln OL) (⟨co,mo,rm,pln L⟩:Tre) lsn) y.1)).map λi:Nat=>Value.int .i64 (i:Int)),.blk b1 108 7 [.string (bs x.ro),.string (bs x.al),.string (bs x.bm),.int .i64 c2,.int .i64 m2,.int .i64 r2,.slice ra rn rc],.blk b6 23 3 [.string (bs (chX x (pln OL) (⟨co,mo,rm,pln L⟩:Tre) lsn).ro),.string (bs (chX x (pln OL) (⟨co,mo,rm,pln L⟩:Tre) lsn).al),.string (bs (chX x (pln OL) (⟨co,mo,rm,pln L⟩:Tre) lsn).bm)],.blk b7 108 7 [.string (bs (chX x (pln OL) (⟨co,mo,rm,pln L⟩:Tre) lsn).ro),.string (bs (chX x (pln OL) (⟨co,mo,rm,pln L⟩:Tre) lsn).al),.string (bs (chX x (pln OL) (⟨co,mo,rm,pln L⟩:Tre) lsn).bm),.int .i64 0,.int .i64 0,.int .i64 0,.slice none 0 0],.blk b5 23 3 [.string (bs []),.string (bs []),.string (bs [])]]) (λy=>y.1<=(max x.n (chX x (pln OL) (⟨co,mo,rm,pln L⟩:Tre) lsn).n)) (λy=>(max x.n (chX x (pln OL) (⟨co,mo,rm,pln L⟩:Tre) lsn).n)-y.1) (0,none,0) (Nat.zero_le _) aSx (λw h=>(h.own_nil 3 1).ent aEt) (λ⟨k,ga,gc⟩hk1=>?_)
 dsimp only
 simp only[]at hk1
 have hkl:=QcC x (chX x (pln OL) (⟨co,mo,rm,pln L⟩:Tre) lsn) k
 refine aU2 ?_
 refine Qt [] QC ?_
 refine dP 0 ?_
 refine dLn 1 [] ?_
 refine dQ 2 [] rfl (Qv rfl QgC rfl (λw1 h1=>Qk5 w1 x c2 m2 r2 ra rn rc om)) (dLn 3 [] ?_)
 refine dQ 4 [] rfl (Qv rfl QgC rfl (λw1 h1=>Qk5 w1 (chX x (pln OL) (⟨co,mo,rm,pln L⟩:Tre) lsn) 0 0 0 none 0 0 om)) (dV 5 rfl (QeU rfl rfl rfl ) (dP 6 ?_))
 refine dNi ?_
 refine sCd rfl (λh8=>?_) λh8=>?_
 ·have hk:k<(max x.n (chX x (pln OL) (⟨co,mo,rm,pln L⟩:Tre) lsn).n):=by have hq:=h8;omega
  refine aU4 ?_
  refine ZC (α:=Bool) [28,29,30,31,32,33,34,35,36,37,38,39,40,41,42,43,44,45,46] (λu=>[(46,.bool u)]) (λu=>u=chD x (chX x (pln OL) (⟨co,mo,rm,pln L⟩:Tre) lsn) (k+1)) ?_ ?_
  ·skip
   refine Qt [] QC ?_
   refine dP 0 ?_
   refine dLn 1 [] ?_
   refine dQ 2 [] rfl (Qv rfl QgC rfl (λw1 h1=>Qk5 w1 x c2 m2 r2 ra rn rc om)) (dP 3 ?_)
   refine dP 4 ?_
   apply XA 32
   ·exact rfl
   ·intro hg9
    have hs10:=hg9;try simp only[dT]at hs10
    refine dOf 5 32 hg9 ?_
    refine dOf 6 32 hg9 ?_
    refine dOf 7 32 hg9 ?_
    refine dOf 8 32 hg9 ?_
    refine dV 9 rfl (Xv rfl rfl hg9 rfl) (dP 10 ?_)
    apply XA 38
    ·exact rfl
    ·intro hg11
     have hs12:=hg11;skip
     refine dOf 11 38 hg11 ?_
     refine dOf 12 38 hg11 ?_
     refine dOf 13 38 hg11 ?_
     refine dOf 14 38 hg11 ?_
     refine dOf 15 38 hg11 ?_
     refine dOf 16 38 hg11 ?_
     refine dOf 17 38 hg11 ?_
     refine dV 18 rfl (Xv rfl rfl hg11 rfl) (dNi ?_)
     exact Qo true (by rw[eq_comm];unfold chD;simp only[Bool.or_eq_true,decide_eq_true_eq];omega) aSx (λw h=>h.ent aEt)
    intro hg13
    have hs14:=hg13;skip
    refine dQo 11 38 [] hg13 rfl rfl rfl (QaD rfl rfl YT aPk rfl) ?_
    refine dPo 12 38 hg13 ?_
    refine dQo 13 38 [] hg13 rfl rfl rfl (Qv rfl Qj9 rfl (λw1 h1=>c64 w1 x c2 m2 r2 ra rn rc (k+1) om (by first|omega|(exfalso;simp_all;done)))) ?_
    refine dQo 14 38 [] hg13 rfl rfl rfl (QaD rfl rfl YT aPk rfl) ?_
    refine dPo 15 38 hg13 ?_
    refine dQo 16 38 [] hg13 rfl rfl rfl (Qv rfl Qj9 rfl (λw1 h1=>c64 w1 (chX x (pln OL) (⟨co,mo,rm,pln L⟩:Tre) lsn) 0 0 0 none 0 0 (k+1) om (by first|omega|(exfalso;simp_all;done)))) ?_
    refine dPo 17 38 hg13 ?_
    refine dV 18 rfl (Xl rfl rfl hg13 rfl) (dNi ?_)
    exact Qo (!decide (x.blk (k+1)=(chX x (pln OL) (⟨co,mo,rm,pln L⟩:Tre) lsn).blk (k+1))) (by exfalso;simp_all) aSx (λw h=>h.ent aEt)
   intro hg15
   have hs16:=hg15;try simp only[dN]at hs16
   refine dPo 5 32 hg15 ?_
   refine dQo 6 32 [] hg15 rfl rfl rfl (QaD rfl rfl YT aPk rfl) ?_
   refine dQo 7 32 [] hg15 rfl rfl rfl (Qv rfl QgC rfl (λw1 h1=>Qk5 w1 (chX x (pln OL) (⟨co,mo,rm,pln L⟩:Tre) lsn) 0 0 0 none 0 0 om)) ?_
   refine dPo 8 32 hg15 ?_
   refine dV 9 rfl (Xl rfl rfl hg15 rfl) (dP 10 ?_)
   apply XA 38
   ·exact rfl
   ·intro hg17
    have hs18:=hg17;try simp only[dT]at hs18
    refine dOf 11 38 hg17 ?_
    refine dOf 12 38 hg17 ?_
    refine dOf 13 38 hg17 ?_
    refine dOf 14 38 hg17 ?_
    refine dOf 15 38 hg17 ?_
    refine dOf 16 38 hg17 ?_
    refine dOf 17 38 hg17 ?_
    refine dV 18 rfl (Xv rfl rfl hg17 rfl) (dNi ?_)
    exact Qo true (by rw[eq_comm];unfold chD;simp only[Bool.or_eq_true,decide_eq_true_eq];omega) aSx (λw h=>h.ent aEt)
   intro hg19
   have hs20:=hg19;try simp only[dN]at hs20
   refine dQo 11 38 [] hg19 rfl rfl rfl (QaD rfl rfl YT aPk rfl) ?_
   refine dPo 12 38 hg19 ?_
   refine dQo 13 38 [] hg19 rfl rfl rfl (Qv rfl Qj9 rfl (λw1 h1=>c64 w1 x c2 m2 r2 ra rn rc (k+1) om (by first|omega|(exfalso;simp_all;done)))) ?_
   refine dQo 14 38 [] hg19 rfl rfl rfl (QaD rfl rfl YT aPk rfl) ?_
   refine dPo 15 38 hg19 ?_
   refine dQo 16 38 [] hg19 rfl rfl rfl (Qv rfl Qj9 rfl (λw1 h1=>c64 w1 (chX x (pln OL) (⟨co,mo,rm,pln L⟩:Tre) lsn) 0 0 0 none 0 0 (k+1) om (by first|omega|(exfalso;simp_all;done)))) ?_
   refine dPo 17 38 hg19 ?_
   refine dV 18 rfl (Xl rfl rfl hg19 rfl) (dNi ?_)
   exact Qo (!decide (x.blk (k+1)=(chX x (pln OL) (⟨co,mo,rm,pln L⟩:Tre) lsn).blk (k+1))) (by unfold chD;rw[decide_eq_false (show¬x.n<k+1 by omega),decide_eq_false (show¬(chX x (pln OL) (⟨co,mo,rm,pln L⟩:Tre) lsn).n<k+1 by omega)];simp) aSx (λw h=>h.ent aEt)
  intro u hu
  refine sCd rfl (λh21=>?_) λh21=>?_
  ·have hst:(Qaj x (chX x (pln OL) (⟨co,mo,rm,pln L⟩:Tre) lsn) (k+1))=(Qaj x (chX x (pln OL) (⟨co,mo,rm,pln L⟩:Tre) lsn) k)++[k+1]:=by rw[Qaj,if_pos];rw[<-hu];exact h21
   refine aU3 ?_
   refine o_h (Qe (cs:=[_]) rfl rfl QA Yp rfl rfl rfl) rfl (λb22 _=>o_h (QL [_] rfl rfl rfl QA Tryz.underlying28 Yp rfl aPk (Xb aPk) rfl (by intro u hu;simp only[List.mem_cons,List.mem_nil_iff,or_false]at hu;subst hu;rfl) om (by simp only[maxLen];omega)) rfl (λb23 _=>aT6 ?_))
   refine Qh (show _=Value.int .i64 ((k+1+1:Nat):Int)from congrArg (Value.int .i64) om) (aU2 ?_)
   exact Q1 (k+1,b23.1,b23.2) (by(try simp only[]);omega) (by(try simp only[]);omega) (by dsimp only;rw[hst];simp only[List.length_append,List.length_singleton];exact aSx) (λw h=>by have h2:=h;dsimp only;rw[hst];simp only[List.length_append,List.length_singleton,List.map_append,List.map_cons,List.map_nil];exact h2.ent aEt)
  have hst:(Qaj x (chX x (pln OL) (⟨co,mo,rm,pln L⟩:Tre) lsn) (k+1))=(Qaj x (chX x (pln OL) (⟨co,mo,rm,pln L⟩:Tre) lsn) k):=by rw[Qaj,if_neg];rw[<-hu];have hq:=h21;simp[hq]
  refine aT5 ?_
  refine Qh (show _=Value.int .i64 ((k+1+1:Nat):Int)from congrArg (Value.int .i64) om) (aU2 ?_)
  exact Q1 (k+1,ga,gc) (by(try simp only[]);omega) (by(try simp only[]);omega) (by dsimp only;rw[hst];exact aSx) (λw h=>by dsimp only;rw[hst];exact h.ent aEt)
 obtain rfl:k=(max x.n (chX x (pln OL) (⟨co,mo,rm,pln L⟩:Tre) lsn).n):=by have hq:=h8;omega
 refine Qn rfl ?_
 refine aU7 ?_
 exact Qk (rs:=[.cell 8 23,.tmp 9]) rfl (.cell rfl Qa8 aPk rfl (.tmp rfl (.nil))) (λw' h'=>⟨(ga,gc),rfl,trivial,h'.ent aEt⟩)
instance:TFn Tryz.prog 101:=⟨by kernel_rfl⟩
def cgX(x:Ixs)(t:Tre)(lsn:Int):Ixs:=if chE x t lsn=0 then chX x (rdI x).1.1.ns t lsn else⟨[],[],[]⟩
def cgL(x:Ixs)(t:Tre)(lsn:Int):List Nat:=if chE x t lsn=0 then chL x (chX x (rdI x).1.1.ns t lsn)else[]
theorem Qo3{E B:Int}{u v:Bool}:Xr [.int .i64 (Xr [.int .i64 E,.int .i64 B]),.int .i64 (bif u then 0 else 13),.int .i64 (bif v then 0 else 2)]=if E=0 then if B=0 then if u=true then if v=true then 0 else 2 else 13 else B else E:=by
  have h:Xr [.int .i64 E,.int .i64 B]=if E=0 then B else E:=by simp only[Xr];grind
  rw[h];cases u<;>cases v<;>simp only[Xr]<;>grind
theorem Qvp{x:Ixs}{t:Tre}{lsn:Int}(h:chE x t lsn=0):(rdI x).2=0/\YM t=0/\(0<=lsn/\lsn<=2147483647)/\(t.co=(rdI x).1.1.co/\t.mo=(rdI x).1.1.mo)/\t.rm=(rdI x).1.1.rm:=by
  unfold chE at h
  grind
set_option maxHeartbeats 2000000 in
theorem c34(w:World)(x:Ixs)(co mo rm:Int)(a:Option Addr)(cap:Nat)(L:List LNd)(lsn:Int)(hl:x.al.length<=900000)(hr5:x.ro.length<=1000000)(hb:x.bm.length<=100000)(hs:Nt w [] a L)(hB:Bd (pln L))(hcap:L.length<=cap)(hc9:cap<=maxLen)(hkl:∀i,i<L.length->∀x∈(nth L i).es,x.key.length<=1000000/\x.val.length<=1000000):CE 34 #[.agg #[.string (bs x.ro),.string (bs x.al),.string (bs x.bm)],.agg #[.int .i64 co,.int .i64 mo,.int .i64 rm,.slice a L.length cap],.int .i64 lsn] w [] (λg:Option Addr×Nat=>.tuple #[.agg #[.string (bs (cgX x (⟨co,mo,rm,pln L⟩:Tre) lsn).ro),.string (bs (cgX x (⟨co,mo,rm,pln L⟩:Tre) lsn).al),.string (bs (cgX x (⟨co,mo,rm,pln L⟩:Tre) lsn).bm)],.slice g.1 (cgL x (⟨co,mo,rm,pln L⟩:Tre) lsn).length g.2,.int .i64 (chE x (⟨co,mo,rm,pln L⟩:Tre) lsn)]) (λg=>True) λg=>[.own (.slice g.1 ((cgL x (⟨co,mo,rm,pln L⟩:Tre) lsn)).length g.2) 3 1 ((cgL x (⟨co,mo,rm,pln L⟩:Tre) lsn)).length (((cgL x (⟨co,mo,rm,pln L⟩:Tre) lsn)).map λi:Nat=>Value.int .i64 (i:Int))]:=by
 have hFV:Xr [.int .i64 (Xr [.int .i64 (rdI x).2,.int .i64 (YM (⟨co,mo,rm,pln L⟩:Tre))]),.int .i64 (bif ((decide (co=(rdI x).1.1.co)&&decide (mo=(rdI x).1.1.mo))&&decide (rm=(rdI x).1.1.rm))then 0 else 13),.int .i64 (bif (decide (0<=lsn)&&decide (lsn<=2147483647))then 0 else 2)]=chE x (⟨co,mo,rm,pln L⟩:Tre) lsn:=by rw[Qo3];unfold chE;simp only[Bool.and_eq_true,decide_eq_true_eq]
 refine eN3 Tryz.func34 Tryz.ntmps34 ?_
 refine aU2 ?_
 refine oBx λb1 _=>?_
 refine oBx λb2 _=>?_
 refine oAl (λb3 _=>?_) YN
 refine aU6 ?_
 refine oCh rfl (λw1 h1=>c82 w1 x hl hr5 hb) (λ⟨⟨⟨oa,oc⟩,OL⟩,⟨c2,m2,r2⟩,⟨ra,rn,rc⟩⟩hOL=>aU5 ?_)
 refine oAl (λb4 _=>?_) Qbr
 refine oAl (λb5 _=>?_) Xh
 refine aU9 ?_
 refine oCq rfl (λw1 h1=>c75 w1 co mo rm a cap L (hs.later h1.nil) hB hkl) (o_h (Qe (cs:=[_,_]) rfl rfl Yo ZR rfl rfl rfl) rfl (λb6 _=>oCq rfl (λw1 h1=>f59 h1 aPk (by rfl) (by rfl) (by decide)) (Za ?_)))
 refine XF 6 33 39 rfl
  (λhg7 _=>by
   refine Za ?_
   exact oJt 6 39)
  (λhg9 _=>by
   refine aU5 ?_
   exact oJf 6 39) ?_
 refine aU ?_
 refine XF 6 40 46 rfl
  (λhg11 _=>by
   refine Za ?_
   exact oJt 6 46)
  (λhg13 _=>by
   refine aU5 ?_
   exact oJf 6 46) ?_
 refine aU4 ?_
 refine Qg (L':=[(2,_),(4,_),(6,_),(7,_),(8,_),(9,_),(10,_),(12,_),(13,_)]) aSx (λ_ h=>h) ?_
 refine aU3 ?_
 refine oCq rfl (λw1 h1=>c60 w1 _ _) (aU ?_)
 refine oCq rfl (λw1 h1=>c100 w1 _) (o_h (Qe (cs:=[_,_,_]) rfl rfl Yo ZR rfl rfl rfl) rfl (λb15 _=>oCq rfl (λw1 h1=>f59 h1 aPk (by rfl) (by rfl) (by decide)) (Qh (show _=Value.int .i64 (chE x (⟨co,mo,rm,pln L⟩:Tre) lsn)from by rw[<-hFV]) (aU7 ?_))))
 refine sCd rfl (λh16=>?_) λh16=>?_
 ·have hE:¬chE x (⟨co,mo,rm,pln L⟩:Tre) lsn=0:=h16
  have hX:(cgX x (⟨co,mo,rm,pln L⟩:Tre) lsn)=⟨[],[],[]⟩:=if_neg hE
  have hL9:(cgL x (⟨co,mo,rm,pln L⟩:Tre) lsn)=[]:=if_neg hE
  refine aU2 ?_
  refine o_p (QF (cs:=[_,_,_]) rfl rfl Qgl YN rfl) rfl (aU5 ?_)
  exact Qk (rs:=[.cell 6 23,.tmp 7,.tmp 8]) rfl (.cell rfl Qa8 aPk rfl (.tmp rfl (.tmp rfl (.nil)))) (λw' h'=>⟨(none,0),by rw[hX,hL9];rfl,trivial,by rw[hL9];exact(h'.nil.own_nil 3 1).ent aEt⟩)
 have hE:chE x (⟨co,mo,rm,pln L⟩:Tre) lsn=0:=h16
 obtain⟨hr,hi,hl9,_⟩:=Qvp hE
 obtain⟨_,ht9,_⟩:=Qal hr
 have hO:pln OL=QH x x.n:=by have h9:pln OL=(rdI x).1.1.ns:=hOL;rw[h9,ht9];rfl
 have hX:(cgX x (⟨co,mo,rm,pln L⟩:Tre) lsn)=(chX x (pln OL) (⟨co,mo,rm,pln L⟩:Tre) lsn):=by unfold cgX;rw[if_pos hE,ht9,hO];rfl
 have hL9:(cgL x (⟨co,mo,rm,pln L⟩:Tre) lsn)=(chL x (chX x (pln OL) (⟨co,mo,rm,pln L⟩:Tre) lsn)):=by unfold cgL;rw[if_pos hE,ht9,hO];rfl
 refine aU7 ?_
 refine oCh rfl (λw1 h1=>c101 w1 x c2 m2 r2 ra rn rc co mo rm a cap L (rdI x).1.1.co (rdI x).1.1.mo (rdI x).1.1.rm oa oc OL lsn (hs.later h1.nil) (HS.nt h1 aPk) hr hO hi hl9 hl hcap hc9) (λ⟨la,lc⟩_=>aU3 ?_)
 refine oAl (λb17 _=>?_) YN
 refine Zl ?_
 exact Qk (rs:=[.cell 6 23,.tmp 7,.tmp 8]) rfl (.cell rfl Qa8 aPk rfl (.tmp rfl (.tmp rfl (.nil)))) (λw' h'=>⟨(la,lc),by rw[hX,hL9,hE];rfl,trivial,by rw[hL9];exact h'.ent aEt⟩)
set_option maxHeartbeats 4000000 in
theorem c36(w:World)(x:Ixs)(co mo rm:Int)(a:Option Addr)(cap:Nat)(L:List LNd)(co5 mo5 rm5:Int)(oa:Option Addr)(oc:Nat)(OL:List LNd)(lsn:Int)(hs:Nt w [] a L)(ho:Nt w [] oa OL)(hr:(rdI x).2=0)(hO:pln OL=QH x x.n)(hi:YM (⟨co,mo,rm,pln L⟩:Tre)=0)(hl9:0<=lsn/\lsn<=2147483647)(hal:x.al.length<=900000):CE 36 #[.agg #[.string (bs x.ro),.string (bs x.al),.string (bs x.bm)],.agg #[.int .i64 co5,.int .i64 mo5,.int .i64 rm5,.slice oa OL.length oc],.agg #[.int .i64 co,.int .i64 mo,.int .i64 rm,.slice a L.length cap],.int .i64 lsn] w [] (λg:Option Addr×Nat=>.tuple #[.agg #[.string (bs (chX x (QH x x.n) (⟨co,mo,rm,pln L⟩:Tre) lsn).ro),.string (bs (chX x (QH x x.n) (⟨co,mo,rm,pln L⟩:Tre) lsn).al),.string (bs (chX x (QH x x.n) (⟨co,mo,rm,pln L⟩:Tre) lsn).bm)],.slice g.1 (chL x (chX x (QH x x.n) (⟨co,mo,rm,pln L⟩:Tre) lsn)).length g.2]) (λg=>True) λg=>[.own (.slice g.1 ((chL x (chX x (QH x x.n) (⟨co,mo,rm,pln L⟩:Tre) lsn))).length g.2) 3 1 ((chL x (chX x (QH x x.n) (⟨co,mo,rm,pln L⟩:Tre) lsn))).length (((chL x (chX x (QH x x.n) (⟨co,mo,rm,pln L⟩:Tre) lsn))).map λi:Nat=>Value.int .i64 (i:Int))]:=by
 have hr9:=YZ hi
 have h09:0<L.length:=by have:=hr9.1;rwa[show(⟨co,mo,rm,pln L⟩:Tre).ns=pln L from rfl,Qb]at this
 have hn9:=ZB hi hr9.1 hr9.2.1
 have hp9:NdP (nth L 0).pl:=by have hq:=hn9.1.ndp (by have:=hn9.2.1;omega);rwa[show(⟨co,mo,rm,pln L⟩:Tre).ns=pln L from rfl,QR]at hq
 have hbb:(0<=co/\co<256)/\(0<=mo/\mo<256)/\0<=rm/\rm<256:=by have h1:=hr9.2.2.1;have h2:=hr9.2.2.2.1;have h3:QJ co=0:=h1;have h4:XW mo rm=0:=h2;unfold QJ at h3;unfold XW at h4;split at h3;(split at h4;omega;cases h4);cases h3
 have hL120:L.length<=120:=by have:=hn9.2.2.2.2;rwa[show(⟨co,mo,rm,pln L⟩:Tre).ns=pln L from rfl,Qb]at this
 obtain⟨h0r,htr,her,hr1,hbr⟩:=Qal hr
 have hnl:=Y7 hr1 x.n
 have hOl:OL.length=x.n+1:=by rw[<-Qb,hO];exact hnl
 have hn8:x.n=x.al.length/512:=rfl
 have hyn:(chX x (QH x x.n) (⟨co,mo,rm,pln L⟩:Tre) lsn).n=L.length-1:=by have h9:=(Qqe (lsn:=lsn) hr hi hl9).2;rw[show(⟨co,mo,rm,pln L⟩:Tre).ns=pln L from rfl,Qb]at h9;exact h9
 refine eN4 Tryz.func36 Tryz.ntmps36 ?_
 refine aU2 ?_
 refine oBx λb1 _=>?_
 refine oBx λb2 _=>?_
 refine oBx λb3 _=>?_
 refine oAl (λb4 _=>?_) YN
 refine aU3 ?_
 refine Qt [6] QC ?_
 refine dLn 0 [[]] ?_
 refine dQ 1 [[]] rfl (Qv rfl Qwf rfl (λw1 h1=>c32 w1 co mo rm a cap L (hs.later h1.nil) h09 hp9 hbb)) (dLn 2 [[]] ?_)
 refine dQ 3 [[]] rfl (Qv rfl Qv7 rfl (λw1 h1=>c85 w1 co mo rm a cap L (hs.later h1.nil) om)) (dV 4 rfl (QF (cs:=[_,_,_]) rfl rfl Qgl YN rfl) (dH 5 rfl (ZX rfl YN) (λb5 _=>dBa ?_)))
 refine dSt 6 ?_ (hl:=(by simp only[Qm,List.length_set,List.length_cons,List.length_nil,List.length_map];omega))
 refine dTu [] ?_
 refine dNi ?_
 refine Za ?_
 refine Qx (α:=Nat×Option Addr×Nat) [11,12,13,14,15,21,22,23,24,25,26,27,28,29,30,31,32,33,34,35,36,37,38,39,40,41,42,43,44,45,46,47,48,49,50,51,52,53,54,55,56,57,58,59,60,61,62,63,64,65,66,67,68,69,70,71,72,73,74,75,76,77,78,79,80,81,82,83,84,85,86,87,88,89,90,91,92,93,94,95,96,97] (λy=>[(12,.int .i64 ((y.1+1:Nat):Int)),(11,.slice y.2.1 (Qaj x (chX x (QH x x.n) (⟨co,mo,rm,pln L⟩:Tre) lsn) y.1).length y.2.2)]) (λy=>HS w [] [.own (.slice y.2.1 ((Qaj x (chX x (QH x x.n) (⟨co,mo,rm,pln L⟩:Tre) lsn) y.1)).length y.2.2) 3 1 ((Qaj x (chX x (QH x x.n) (⟨co,mo,rm,pln L⟩:Tre) lsn) y.1)).length (((Qaj x (chX x (QH x x.n) (⟨co,mo,rm,pln L⟩:Tre) lsn) y.1)).map λi:Nat=>Value.int .i64 (i:Int)),.blk b5 23 3 [.string (bs (Qbl (⟨co,mo,rm,pln L⟩:Tre))),.string (bs (Y5 (chB x (QH x x.n) (pln L) lsn) (min y.1 (L.length-1)))),.string (bs (bmB (pln L)))],.blk b1 23 3 [.string (bs x.ro),.string (bs x.al),.string (bs x.bm)],.blk b2 37 4 [.int .i64 co5,.int .i64 mo5,.int .i64 rm5,.slice oa OL.length oc],.blk b3 37 4 [.int .i64 co,.int .i64 mo,.int .i64 rm,.slice a L.length cap],.blk b4 23 3 [.string (bs []),.string (bs []),.string (bs [])]]) (λy=>y.1+1<=(max OL.length L.length)) (λy=>(max OL.length L.length)-y.1) (0,none,0) (by(try simp only[]);omega) aSx (λw h=>(by have h2:=h.own_nil 3 1;exact h2.ent aEt)) (λ⟨k,ga,gc⟩hk0=>?_)
 dsimp only
 simp only[]at hk0
 have hkl:=QcC x (chX x (QH x x.n) (⟨co,mo,rm,pln L⟩:Tre) lsn) k
 refine Za ?_
 refine o_p (QeU rfl rfl rfl ) rfl (aU2 ?_)
 refine sCd rfl (λh6=>?_) λh6=>?_
 ·have hk:k+1<(max OL.length L.length):=by have hq:=h6;omega
  have hol:=Qis (x:=x) (k+1) om
  have hol10:(Qax x (k+1)).length<=512:=by rw[hol];split<;>omega
  have hnl9:=QmZ hr hi hl9 (k+1)
  rw[show(⟨co,mo,rm,pln L⟩:Tre).ns=pln L from rfl,Qb]at hnl9
  have hnl10:(QbX x (QH x x.n) (pln L) lsn (k+1)).length<=512:=by rw[hnl9];split<;>omega
  have hcl:=QbR (QcE hr hi hl9).len (min k (L.length-1))
  have hne9:=QuT (k:=k) hr hi hl9 (by rw[hnl,show(⟨co,mo,rm,pln L⟩:Tre).ns=pln L from rfl,Qb];omega)
  rw[show(⟨co,mo,rm,pln L⟩:Tre).ns=pln L from rfl]at hne9 hcl
  have hbn:=QoJ (x:=x) (t:=(⟨co,mo,rm,pln L⟩:Tre)) (lsn:=lsn) (by rw[show(⟨co,mo,rm,pln L⟩:Tre).ns=pln L from rfl,Qb];exact h09) k
  rw[show(⟨co,mo,rm,pln L⟩:Tre).ns=pln L from rfl,Qb]at hbn
  refine Zx ?_
  refine oCq rfl (λw1 h1=>c66 w1 x om) (aU2 ?_)
  refine Qg (L':=[(0,_),(1,_),(2,_),(3,_),(4,_),(5,_),(6,_),(8,_),(9,_),(10,_),(11,_),(12,_),(13,_),(16,_),(17,_),(18,_),(19,_),(20,_),(35,_)]) aSx (λ_ h=>h) ?_
  refine ZC (α:=Unit) [13,36,37,38] (λ_=>[(13,.string (bs (Qax x (k+1))))]) (λ_=>True) ?_ ?_
  ·skip
   refine sCd rfl (λh7=>?_) λh7=>?_
   ·have hos:(Qax x (k+1))=x.blk (k+1):=if_pos (by have hq:=h7;omega)
    refine aU3 ?_
    refine oCq rfl (λw1 h1=>c69 w1 x (k+1) om om) (aU2 ?_)
    exact Qo () trivial (by rw[hos];exact aSx) (λw h=>h.ent aEt)
   have hos:(Qax x (k+1))=[]:=if_neg (by have hq:=h7;omega)
   refine aU ?_
   exact Qo () trivial (by rw[hos];exact aSx) (λw h=>h.ent aEt)
  intro _ _
  refine Qau ?_
  refine ZC (α:=Unit) [14,15,44,45,46,47,48,49,50,51,52,53,54,55,56,57,58,59,60,61,62,63,64,65,66,67,68,69,70,71,72,73,74,75,76,77,78,79,80,81,82,83,84,85] (λ_=>[(14,.string (bs (QbX x (QH x x.n) (pln L) lsn (k+1))))]) (λ_=>True) ?_ ?_
  ·skip
   refine sCd rfl (λh8=>?_) λh8=>?_
   ·have hk1:k+1<L.length:=by have hq:=h8;omega
    refine aU2 ?_
    refine oCq rfl (λw1 h1=>c86 w1 512 (by decide)) (aU7 ?_)
    refine o_p (Qa rfl rfl rfl Qw ((k+1)) om om (Rw.some hs.1 om)) rfl (aU ?_)
    refine o_q (Qc rfl rfl Qcy ((hs.1.rdj (i:=k+1) 0 om rfl))) rfl (aU ?_)
    refine sCd rfl (λh9=>?_) λh9=>?_
    ·have hu1:(nth (pln L) (k+1)).us=true:=by rw[QR];have hq:=h9;first|exact hq|simpa using hq
     have hn1:=ZB hi (i:=k+1) (by rw[show(⟨co,mo,rm,pln L⟩:Tre).ns=pln L from rfl,Qb];omega) hu1
     have hq1:NdP (nth L (k+1)).pl:=by have hq:=hn1.1.ndp (by have:=hn1.2.1;omega);rwa[show(⟨co,mo,rm,pln L⟩:Tre).ns=pln L from rfl,QR]at hq
     have hcb1:(Xy (nth L (k+1)).pl).length<=448:=by have hq:=hn1.2.2.1;rw[show(⟨co,mo,rm,pln L⟩:Tre).ns=pln L from rfl,QR]at hq;omega
     have hsz1:(nth L (k+1)).es.length<=100000/\(nth L (k+1)).cs.length<=100000:=by have h1:=hn1.2.1;have h2:=hn1.1.cl;rw[show(⟨co,mo,rm,pln L⟩:Tre).ns=pln L from rfl,QR]at h1 h2;have h3:(nth L (k+1)).es.length<=4:=h1;have h4:(nth L (k+1)).cs.length=0\/(nth L (k+1)).cs.length=(nth L (k+1)).es.length+1:=h2;omega
     refine aU ?_
     have hsz2:k+1<OL.length->(nth OL (k+1)).es.length<=100000/\(nth OL (k+1)).cs.length<=100000:=λh7=>by have h9:=QbG (QcQ h0r).2.2.1 x.n _ (QI (i:=k+1) (by rw[Y7 hr1];omega));rw[<-hO,QR]at h9;have h1:=h9.es;have h2:=h9.cs;have h3:(nth OL (k+1)).es.length<=255:=h1;have h4:(nth OL (k+1)).cs.length<=256:=h2;omega
     refine ZC (α:=Bool) [51,52,53,54,55,56,57,58,59,60,61,62,63,64,65,66,67,68] (λu=>[(68,.bool u)]) (λu=>u=true ↔ (k+1<OL.length/\(nth OL (k+1)).pl=(nth L (k+1)).pl)) ?_ ?_
     ·skip
      refine Qt [] QC ?_
      refine dP 0 ?_
      refine dFa 1 ?_
      refine dLd 2 [] ?_
      refine dV 3 rfl (QS rfl rfl Tryz.underlying35) (dP 4 ?_)
      refine dP 5 ?_
      apply XA 56
      ·exact rfl
      ·intro hg10
       have hs11:=hg10;try simp only[dT]at hs11
       refine dFo 6 56 hg10 ?_
       refine dQo 7 56 [] hg10 rfl rfl rfl (X8 rfl rfl Yl aPk rfl) ?_
       refine dPo 8 56 hg10 ?_
       refine dVo 9 56 hg10 rfl rfl rfl (Qa rfl rfl rfl Qw ((k+1)) om om (Rw.some ho.1 om)) ?_
       refine dQo 10 56 [] hg10 rfl rfl rfl (QB _ rfl rfl Xs rfl (Rw.rd ho.1 om)) ?_
       refine dFo 11 56 hg10 ?_
       refine dQo 12 56 [] hg10 rfl rfl rfl (X8 rfl rfl Yl aPk rfl) ?_
       refine dPo 13 56 hg10 ?_
       refine dVo 14 56 hg10 rfl rfl rfl (Qa rfl rfl rfl Qw ((k+1)) om om (Rw.some hs.1 om)) ?_
       refine dQo 15 56 [] hg10 rfl rfl rfl (QB _ rfl rfl Xs rfl (Rw.rd hs.1 om)) ?_
       refine dQo 16 56 [] hg10 rfl rfl rfl (Qv rfl Qv8 rfl (λw1 h1=>c33 w1 (nth OL (k+1)) (nth L (k+1)) ((ho.es om).later h1.nil) ((ho.cs om).later h1.nil) ((hs.es hk1).later h1.nil) ((hs.cs hk1).later h1.nil) (hsz2 om) hsz1)) ?_
       refine dV 17 rfl (Xv rfl rfl hg10 rfl) (dNi ?_)
       exact Qo (decide ((nth OL (k+1)).pl=(nth L (k+1)).pl)) (by rw[decide_eq_true_eq];exact⟨λh9=>⟨om,h9⟩,λh9=>h9.2⟩) aSx (λw h=>h.ent aEt)
      intro hg12
      have hs13:=hg12;try simp only[dN]at hs13
      refine dOf 6 56 hg12 ?_
      refine dOf 7 56 hg12 ?_
      refine dOf 8 56 hg12 ?_
      refine dOf 9 56 hg12 ?_
      refine dOf 10 56 hg12 ?_
      refine dOf 11 56 hg12 ?_
      refine dOf 12 56 hg12 ?_
      refine dOf 13 56 hg12 ?_
      refine dOf 14 56 hg12 ?_
      refine dOf 15 56 hg12 ?_
      refine dOf 16 56 hg12 ?_
      refine dV 17 rfl (Xl rfl rfl hg12 rfl) (dNi ?_)
      exact Qo false (by constructor<;>intro h9<;>first|(cases h9;done)|omega) aSx (λw h=>h.ent aEt)
     intro u hu
     refine sCd rfl (λh14=>?_) λh14=>?_
     ·obtain⟨hko,hsm⟩:=hu.1 (by assumption)
      have hns:(QbX x (QH x x.n) (pln L) lsn (k+1))=(Qax x (k+1)):=QrZ hu1 (by rw[Qb];exact hk1) hnl (by rw[hnl];omega) (by rw[<-hO,QR,QR];exact hsm)
      refine aU4 ?_
      exact Qo () trivial (by rw[hns];exact aSx) (λw h=>h.ent aEt)
     have hnsm:¬(k+1<(QH x x.n).length/\nth (QH x x.n) (k+1)=nth (pln L) (k+1)):=λh9=>by have h8:=hu.2 ⟨by rw[hOl];have:=h9.1;omega,by have h7:=h9.2;rw[<-hO,QR,QR]at h7;exact h7⟩;simp_all
     refine Za ?_
     refine XF 4 72 76 rfl
      (λhg15 _=>by
       refine aU3 ?_
       refine oCq rfl (λw1 h1=>c53 w1 (Qax x (k+1)) om) (aU2 ?_)
       exact oJt 4 76)
      (λhg17 _=>by
       refine aU3 ?_
       exact oJf 4 76) ?_
     refine aU ?_
     refine Qg (L':=[(0,_),(1,_),(2,_),(3,_),(4,_),(5,_),(6,_),(8,_),(9,_),(10,_),(11,_),(12,_),(13,_),(14,_),(15,_),(16,_),(17,_),(18,_),(19,_),(20,_),(35,_),(39,_),(40,_),(41,_),(42,_),(43,_),(76,_)]) aSx (λ_ h=>h) ?_
     refine ZC (α:=Int) [15,77,78,79,80] (λuv=>[(15,.int .i64 uv)]) (λuv=>(QbX x (QH x x.n) (pln L) lsn (k+1))=Qak (nth (pln L) (k+1)) ((k+1:Nat):Int) lsn uv/\(1<=uv/\uv<=65535)) ?_ ?_
     ·skip
      refine sCd rfl (λh19=>?_) λh19=>?_
      ·obtain⟨hnsu,hol5⟩:=Qqh (lsn:=lsn) hr hu1 (by rw[Qb];exact hk1) hnl hnsm (by have hq:=h19;simpa using hq)
       have hb2:=Qc9 (Qax x (k+1)) 40
       refine aU2 ?_
       refine oCq rfl (λw1 h1=>by have h9:=c72 w1 (Qax x (k+1)) 40 2 om om om;rw[QcB,Qc1]at h9;exact h9) (o_p (Zd rfl rfl rfl om om) rfl (aT ?_))
       refine Qh (show _=Value.int .i64 ((ub2 (Qax x (k+1)) 40%65535+1:Nat):Int)from congrArg (Value.int .i64) om) (aU2 ?_)
       exact Qo ((ub2 (Qax x (k+1)) 40%65535+1:Nat):Int) ⟨hnsu,om⟩ aSx (λw h=>h.ent aEt)
      have hnsu:=Qsp (lsn:=lsn) hr hu1 (by rw[Qb];exact hk1) hnl (by have hq:=h19;grind)
      refine aU ?_
      exact Qo 1 ⟨hnsu,om⟩ aSx (λw h=>h.ent aEt)
     intro uv huv
     obtain⟨hnu,huv2⟩:=huv
     have hns:=hnu
     refine aU5 ?_
     refine oCq rfl (λw1 h1=>by have h9:=c41 w1 co mo rm a cap L ((k+1:Nat):Int) lsn uv (hs.later h1.nil) om (by rw[Int.toNat_natCast];exact hk1) (by rw[Int.toNat_natCast];exact hq1) (by rw[Int.toNat_natCast];exact hcb1) om om;rw[Int.toNat_natCast,<-QR]at h9;exact h9) (aU2 ?_)
     exact Qo () trivial (by rw[hns];exact aSx) (λw h=>h.ent aEt)
    have hu1:¬(nth (pln L) (k+1)).us=true:=by rw[QR];have hq:=h9;first|exact hq|(intro h9;have h8:(nth L (k+1)).us=true:=h9;rw[h8]at hq;cases hq)
    have hns:(QbX x (QH x x.n) (pln L) lsn (k+1))=List.replicate 512 0:=QqN hu1 (by rw[Qb];exact hk1)
    refine aU ?_
    exact Qo () trivial (by rw[hns];exact aSx) (λw h=>h.ent aEt)
   have hns:(QbX x (QH x x.n) (pln L) lsn (k+1))=[]:=if_neg (by rw[Qb];have hq:=h8;omega)
   refine aU ?_
   exact Qo () trivial (by rw[hns];exact aSx) (λw h=>h.ent aEt)
  intro _ _
  refine aU5 ?_
  refine o_p (Q8 rfl rfl rfl (by(try simp only[List.length_append,List.length_cons,List.length_nil,List.length_replicate,List.length_take,List.length_drop]);omega)) rfl (aU4 ?_)
  refine Qg (L':=[(0,_),(1,_),(2,_),(3,_),(4,_),(5,_),(6,_),(8,_),(9,_),(10,_),(11,_),(12,_),(13,_),(14,_),(16,_),(17,_),(18,_),(19,_),(20,_)]) aSx (λ_ h=>h) ?_
  refine aU5 ?_
  refine sCd rfl (λh20=>?_) λh20=>?_
  ·have hst:(Qaj x (chX x (QH x x.n) (⟨co,mo,rm,pln L⟩:Tre) lsn) (k+1))=(Qaj x (chX x (QH x x.n) (⟨co,mo,rm,pln L⟩:Tre) lsn) k)++[k+1]:=by rw[Qaj,if_pos];exact hne9.1 h20
   refine aU3 ?_
   refine o_h (Qe (cs:=[_]) rfl rfl QA Yp rfl rfl rfl) rfl (λb21 _=>o_h (QL [_] rfl rfl rfl QA Tryz.underlying28 Yp rfl aPk (Xb aPk) rfl (by intro u hu;simp only[List.mem_cons,List.mem_nil_iff,or_false]at hu;subst hu;rfl) om (by simp only[maxLen];omega)) rfl (λb22 _=>aT6 ?_))
   refine Qh (show _=Value.int .i64 ((k+1+1:Nat):Int)from congrArg (Value.int .i64) om) (aU2 ?_)
   exact Q1 (k+1,b22.1,b22.2) (by(try simp only[]);omega) (by(try simp only[]);omega) (by dsimp only;rw[hst];simp only[List.length_append,List.length_singleton];exact aSx) (λw h=>by have h2:=h;dsimp only;rw[hst,<-hbn];simp only[List.length_append,List.length_singleton,List.map_append,List.map_cons,List.map_nil];exact h2.ent aEt)
  have hst:(Qaj x (chX x (QH x x.n) (⟨co,mo,rm,pln L⟩:Tre) lsn) (k+1))=(Qaj x (chX x (QH x x.n) (⟨co,mo,rm,pln L⟩:Tre) lsn) k):=by rw[Qaj,if_neg];intro h9;exact hne9.2 h9 (by have hq:=h20;first|exact hq|simpa using hq)
  refine aT5 ?_
  refine Qh (show _=Value.int .i64 ((k+1+1:Nat):Int)from congrArg (Value.int .i64) om) (aU2 ?_)
  exact Q1 (k+1,ga,gc) (by(try simp only[]);omega) (by(try simp only[]);omega) (by dsimp only;rw[hst];exact aSx) (λw h=>by dsimp only;rw[hst,<-hbn];exact h.ent aEt)
 have hk:¬k+1<(max OL.length L.length):=by have hq:=h6;omega
 have hkm:max x.n (chX x (QH x x.n) (⟨co,mo,rm,pln L⟩:Tre) lsn).n=k:=om
 have hal9:(chX x (QH x x.n) (⟨co,mo,rm,pln L⟩:Tre) lsn).al=Y5 (chB x (QH x x.n) (pln L) lsn) (min k (L.length-1)):=by(show Y5 _ ((pln L).length-1)=_);rw[Qb,Nat.min_eq_right om]
 have hcl9:(chL x (chX x (QH x x.n) (⟨co,mo,rm,pln L⟩:Tre) lsn))=(Qaj x (chX x (QH x x.n) (⟨co,mo,rm,pln L⟩:Tre) lsn) k):=by unfold chL;rw[hkm]
 refine Qn rfl ?_
 refine aU7 ?_
 exact Qk (rs:=[.cell 8 23,.tmp 9]) rfl (.cell rfl Qa8 aPk rfl (.tmp rfl (.nil))) (λw' h'=>⟨(ga,gc),by rw[hal9,hcl9];rfl,trivial,by rw[hcl9];exact h'.ent aEt⟩)
instance:TFn Tryz.prog 36:=⟨by kernel_rfl⟩
end Go.Proofs
namespace Gx
open Go Go.RowKit
inductive BT where
 | nd (i:Nat) (es:List TEnt) (ks:List BT)
namespace BT
def idx:BT->Nat|nd i _ _=>i
def es:BT->List TEnt|nd _ es _=>es
def ks:BT->List BT|nd _ _ ks=>ks
end BT
instance:Inhabited BT:=⟨.nd 0 [] []⟩
def QP(ks:List BT):List Int:=ks.map λk=>(k.idx:Int)
theorem Zu(a b:List BT):QP (a++b)=QP a++QP b:=by simp[QP]
theorem YL(a:BT)(b:List BT):QP (a::b)=(a.idx:Int)::QP b:=rfl
theorem QV(a:List BT):(QP a).length=a.length:=by simp[QP]
theorem Qhw(a:List BT)(n:Nat):QP (a.take n)=(QP a).take n:=by simp[QP,List.map_take]
theorem QhW(a:List BT)(n:Nat):QP (a.drop n)=(QP a).drop n:=by simp[QP,List.map_drop]
mutual
def BT.nodes:BT->List (Nat×Nd)
 | .nd i es ks=>(i,⟨true,es,QP ks⟩)::nodesL ks
def nodesL:List BT->List (Nat×Nd)
 | []=>[]
 | k::ks=>k.nodes++nodesL ks
end
mutual
def BT.flat:BT->List TEnt
 | .nd _ es ks=>flatL es ks
def flatL:List TEnt->List BT->List TEnt
 | es,[]=>es
 | [],k::ks=>k.flat++flatL [] ks
 | e::es,k::ks=>k.flat++e::flatL es ks
end
theorem Ze(a b:List BT):nodesL (a++b)=nodesL a++nodesL b:=by
 induction a with
 | nil=>rfl
 | cons x a ih=>rw[List.cons_append,nodesL,nodesL,ih,List.append_assoc]
structure RepN(ns:List Nd)(N:List (Nat×Nd)):Prop where
 get:∀p∈N,ns[p.1]?=some p.2
 nd:(N.map Prod.fst).Nodup
 rest:∀i,i<ns.length->i ∉ N.map Prod.fst->nth ns i=⟨false,[],[]⟩
section
variable{ns:List Nd}{N N':List (Nat×Nd)}{i:Nat}{x y:Nd}
theorem RepN.perm(h:RepN ns N)(hp:N.Perm N'):RepN ns N':=
 ⟨λp hp'=>h.get p (hp.mem_iff.2 hp'),(hp.map _).nodup_iff.1 h.nd,λi hi hn=>h.rest i hi λhm=>hn ((hp.map _).mem_iff.1 hm)⟩
theorem RepN.lt(h:RepN ns N){p:Nat×Nd}(hp:p∈N):p.1<ns.length:=(List.getElem?_eq_some_iff.1 (h.get p hp)).1
theorem RepN.head(h:RepN ns ((i,x)::N)):i<ns.length/\nth ns i=x:=⟨h.lt (List.mem_cons_self ..),Q2 (h.get _ (List.mem_cons_self ..))⟩
theorem RepN.at_(h:RepN ns N)(hp:(i,x)∈N):i<ns.length/\nth ns i=x:=⟨h.lt hp,Q2 (h.get _ hp)⟩
theorem RepN.set(h:RepN ns ((i,x)::N))(y:Nd):RepN (ns.set i y) ((i,y)::N):=by
 have hn:=List.nodup_cons.1 h.nd;refine⟨λp hp=>?_,h.nd,λj hj hm=>?_⟩
 ·rcases List.mem_cons.1 hp with rfl|hp
  ·exact List.getElem?_set_self h.head.1
  ·have hne:i≠p.1:=λe=>hn.1 (e▸List.mem_map.2 ⟨p,hp,rfl⟩);rw[List.getElem?_set_ne hne];exact h.get p (List.mem_cons_of_mem _ hp)
 ·have hne:i≠j:=λe=>hm (e▸List.mem_cons_self ..);rw[List.length_set]at hj;rw[<-h.rest j hj hm];exact Q2 (by rw[List.getElem?_set_ne hne];exact Xk hj)
theorem RepN.es(h:RepN ns ((i,x)::N))(es:List TEnt):RepN (esN ns i es) ((i,{x with es:=es})::N):=by
 have:=h.set {x with es:=es};unfold esN;rw[h.head.2];exact this
theorem RepN.cs(h:RepN ns ((i,x)::N))(cs:List Int):RepN (csN ns i cs) ((i,{x with cs:=cs})::N):=by
 have:=h.set {x with cs:=cs};unfold csN;rw[h.head.2];exact this
theorem RepN.gone(h:RepN ns ((i,x)::N)):RepN (ns.set i ⟨false,[],[]⟩) N:=by
 have h1:=h.set ⟨false,[],[]⟩;have hn:=List.nodup_cons.1 h.nd;refine⟨λp hp=>h1.get p (List.mem_cons_of_mem _ hp),hn.2,λj hj hm=>?_⟩
 by_cases e:j=i
 ·subst e;exact h1.head.2
 ·exact h1.rest j hj λhm2=>by
   rcases List.mem_cons.1 hm2 with e2|hm2
   ·exact e e2
   ·exact hm hm2
theorem RepN.free(h:RepN ns N)(hu:∀p∈N,p.2.us=true):(Q3 ns).1 ∉ N.map Prod.fst/\RepN (Q3 ns).2 (((Q3 ns).1,⟨true,[],[]⟩)::N):=by
 have hnu:(Q3 ns).1 ∉ N.map Prod.fst:=λhm=>by
  obtain⟨p,hp,e⟩:=List.mem_map.1 hm;have h1:=h.at_ (i:=p.1) (x:=p.2) hp;exact QfV h1.1 (by rw[h1.2];exact hu p hp) e.symm
 refine⟨hnu,?_⟩;have hnd:((((Q3 ns).1,(⟨true,[],[]⟩:Nd))::N).map Prod.fst).Nodup:=List.nodup_cons.2 ⟨hnu,h.nd⟩
 have hget:∀p∈N,(Q3 ns).2[p.1]?=some p.2:=λp hp=>by
  have h1:=h.at_ (i:=p.1) (x:=p.2) hp;have h2:=QcV h1.1 (by rw[h1.2];exact hu p hp);rw[Xk (Nat.lt_of_lt_of_le h1.1 (QcG ns).1),h2,h1.2]
 have hown:nth (Q3 ns).2 (Q3 ns).1=⟨true,[],[]⟩:=by
  unfold Q3 at hnu ⊢;split
  ·rename_i hlt;rw[if_pos hlt]at hnu;simp only[]at hnu ⊢;unfold usN;rw[h.rest _ hlt hnu];exact Q2 (List.getElem?_set_self hlt)
  ·exact Q2 (by simp)
 refine⟨λp hp=>?_,hnd,λj hj hm=>?_⟩
 ·rcases List.mem_cons.1 hp with rfl|hp
  ·rw[Xk (QfP ns),hown]
  ·exact hget p hp
 ·have hne:(Q3 ns).1≠j:=λe=>hm (e▸List.mem_cons_self ..);have hm2:j ∉ N.map Prod.fst:=λh9=>hm (List.mem_cons_of_mem _ h9);unfold Q3 at hj hne ⊢;split
  ·rename_i hlt;rw[if_pos hlt]at hj hne;simp only[QiS]at hj hne ⊢;rw[<-h.rest j hj hm2];exact Q2 (by unfold usN;rw[List.getElem?_set_ne hne];exact Xk hj)
  ·rename_i hlt;rw[if_neg hlt]at hj hne;simp only[List.length_append,List.length_singleton]at hj hne ⊢;have hj2:j<ns.length:=by omega
   rw[<-h.rest j hj2 hm2];exact Q2 (by rw[List.getElem?_append_left hj2];exact Xk hj2)
end
def YI(N:List (Nat×Nd)):List Int:=N.flatMap λp=>p.2.cs
theorem Qg1(A B:List (Nat×Nd)):YI (A++B)=YI A++YI B:=List.flatMap_append
theorem Qc4(p:Nat×Nd)(B:List (Nat×Nd)):YI (p::B)=p.2.cs++YI B:=List.flatMap_cons
theorem Qrt{cs:List Int}{n:Int}(h:n ∉ cs):¬ixB (Z4 cs n)<cs.length:=λhl=>by
 have h1:(Z4 cs n).getD (ixB (Z4 cs n)) false=true:=Qgv (by rw[YX];exact hl);rw[QcZ hl]at h1;refine h (of_decide_eq_true h1▸?_);rw[List.getD_eq_getElem?_getD,List.getElem?_eq_getElem hl];exact List.getElem_mem hl
theorem QfG{A B:List Int}{n:Int}(h:n ∉ A):ixB (Z4 (A++n::B) n)=A.length:=by
 induction A with
 | nil=>
  show ixB (decide (n=n)::_)=0;simp[ixB]
 | cons a A ih=>
  have h1:n≠a:=λe=>h (e▸List.mem_cons_self ..);show ixB (decide (n=a)::Z4 (A++n::B) n)=_;rw[decide_eq_false h1];simp only[ixB,List.length_cons];rw[ih λhm=>h (List.mem_cons_of_mem _ hm)]
  first|rfl|simp
theorem QnF{i:Nat}:∀{l:List Nd}{s p:Nat}{A B:List Int},p<l.length->(nth l p).cs=A++(i:Int)::B->(i:Int) ∉ A->(∀j,j<p->(i:Int) ∉ (nth l j).cs)->Xz i l s=(s+p,A.length)
 | [],s,p,A,B,hp,_,_,_=>absurd hp (Nat.not_lt_zero _)
 | n::l,s,0,A,B,hp,he,hA,_=>by
  have e:n.cs=A++(i:Int)::B:=he;rw[Xz,e,QfG hA,if_pos (by simp)];rfl
 | n::l,s,p+1,A,B,hp,he,hA,hn=>by
  have hn0:(i:Int) ∉ n.cs:=hn 0 (Nat.succ_pos _);rw[Xz,if_neg (Qrt hn0),QnF (l:=l) (s:=s+1) (p:=p) (by simpa using hp) he hA λj hj=>hn (j+1) om];congr 1;omega
theorem RepN.par{ns:List Nd}{N:List (Nat×Nd)}{p i:Nat}{x:Nd}{A B:List Int}(h:RepN ns ((p,x)::N))(hk:(YI ((p,x)::N)).Nodup)(he:x.cs=A++(i:Int)::B):Xz i ns 0=(p,A.length):=by
 rw[Qc4,he]at hk;have h1:=List.nodup_append.1 hk;have hA:(i:Int) ∉ A:=λhm=>(List.nodup_append.1 h1.1).2.2 _ hm _ (List.mem_cons_self ..) rfl;have h2:=h.head
 have:=QnF (i:=i) (l:=ns) (s:=0) (p:=p) h2.1 (by rw[h2.2];exact he) hA λj hj hm=>by
  by_cases hjm:j∈N.map Prod.fst
  ·obtain⟨q,hq,e⟩:=List.mem_map.1 hjm;have h3:=h.at_ (i:=q.1) (x:=q.2) (List.mem_cons_of_mem _ hq);rw[e]at h3;rw[h3.2]at hm;exact h1.2.2 (i:Int) (by simp) (i:Int) (List.mem_flatMap.2 ⟨q,hq,hm⟩) rfl
  ·have h3:=h.rest j om (λh9=>by
    rcases List.mem_cons.1 h9 with e|h9
    ·have:j=p:=e;omega
    ·exact hjm h9)
   rw[h3]at hm;cases hm
 rw[this,Nat.zero_add]
mutual
theorem Qd5:∀T:BT,(((T.idx:Nat):Int)::YI T.nodes).Perm (T.nodes.map λp=>((p.1:Nat):Int))
 | .nd i es ks=>by
  rw[BT.nodes,Qc4,List.map_cons];exact List.Perm.cons _ (kids_nodesL ks)
theorem kids_nodesL:∀ks:List BT,(QP ks++YI (nodesL ks)).Perm ((nodesL ks).map λp=>((p.1:Nat):Int))
 | []=>.refl _
 | k::ks=>by
  rw[nodesL,Qg1,List.map_append,YL,List.cons_append];have h1:=Qd5 k;have h2:=kids_nodesL ks
  have h3:((k.idx:Int)::(QP ks++(YI k.nodes++YI (nodesL ks)))).Perm (((k.idx:Int)::YI k.nodes)++(QP ks++YI (nodesL ks))):=by
   rw[List.cons_append];refine List.Perm.cons _ ?_;rw[<-List.append_assoc,<-List.append_assoc];exact List.perm_append_comm.append_right _
  exact h3.trans (h1.append h2)
end
theorem QuX{l:List (Nat×Nd)}(h:(l.map Prod.fst).Nodup):(l.map λp=>((p.1:Nat):Int)).Nodup:=by
 have e:(l.map λp=>((p.1:Nat):Int))=(l.map Prod.fst).map λn:Nat=>(n:Int):=by simp
 rw[e];exact List.Pairwise.map _ (λa b hab e=>hab om) h
theorem Qf4{T:BT}(h:(T.nodes.map Prod.fst).Nodup):(YI T.nodes).Nodup:=(List.nodup_cons.1 ((Qd5 T).nodup_iff.2 (QuX h))).2
mutual
theorem QaS:∀T:BT,∀p∈T.nodes,p.2.us=true
 | .nd i es ks=>λp hp=>by
  rw[BT.nodes]at hp;rcases List.mem_cons.1 hp with rfl|hp
  ·rfl
  ·exact nodesL_us ks p hp
theorem nodesL_us:∀ks:List BT,∀p∈nodesL ks,p.2.us=true
 | []=>λp hp=>(nomatch hp)
 | k::ks=>λp hp=>by
  rw[nodesL]at hp;rcases List.mem_append.1 hp with hp|hp
  ·exact QaS k p hp
  ·exact nodesL_us ks p hp
end
structure Fr where
 i:Nat
 es:List TEnt
 l:List BT
 r:List BT
instance:Inhabited Fr:=⟨⟨0,[],[],[]⟩⟩
def Fr.fill(f:Fr)(T:BT):BT:=.nd f.i f.es (f.l++T::f.r)
def plug:List Fr->BT->BT
 | [],T=>T
 | f::C,T=>plug C (f.fill T)
def Fr.nodes(f:Fr)(h:Nat):List (Nat×Nd):=(f.i,⟨true,f.es,QP f.l++(h:Int)::QP f.r⟩)::(nodesL f.l++nodesL f.r)
def Xc:List Fr->Nat->List (Nat×Nd)
 | [],_=>[]
 | f::C,h=>f.nodes h++Xc C f.i
theorem Qlr(f:Fr)(T:BT):(f.fill T).nodes.Perm (f.nodes T.idx++T.nodes):=by
 unfold Fr.fill Fr.nodes;rw[BT.nodes,Ze,nodesL,Zu,YL,List.cons_append];refine List.Perm.cons _ ?_;rw[List.append_assoc];exact List.Perm.append_left _ List.perm_append_comm
theorem YO:∀(C:List Fr)(T:BT),(plug C T).nodes.Perm (Xc C T.idx++T.nodes)
 | [],T=>.refl _
 | f::C,T=>by
  refine(YO C (f.fill T)).trans ?_;show(Xc C f.i++(f.fill T).nodes).Perm (f.nodes T.idx++Xc C f.i++T.nodes);refine((Qlr f T).append_left _).trans ?_;rw[<-List.append_assoc];exact List.perm_append_comm.append_right _
theorem QbC(C D:List Fr)(T:BT):plug (C++D) T=plug D (plug C T):=by
 induction C generalizing T with
 | nil=>rfl
 | cons f C ih=>exact ih _
def QU(ns:List Nd)(T:BT):Prop:=RepN ns T.nodes
theorem QU.plug{ns:List Nd}{C:List Fr}{T:BT}(h:QU ns (plug C T)):RepN ns (Xc C T.idx++T.nodes):=RepN.perm h (YO C T)
theorem QU.of_plug{ns:List Nd}{C:List Fr}{T:BT}(h:RepN ns (Xc C T.idx++T.nodes)):QU ns (Gx.plug C T):=RepN.perm h (YO C T).symm
theorem QU.at_{ns:List Nd}{C:List Fr}{T:BT}(h:QU ns (Gx.plug C T)):T.idx<ns.length/\nth ns T.idx=⟨true,T.es,QP T.ks⟩:=by
 cases T with
 | nd i es ks=>exact RepN.at_ h.plug (List.mem_append_right _ (by rw[BT.nodes];exact List.mem_cons_self ..))
theorem QU.par{ns:List Nd}{f:Fr}{C:List Fr}{T:BT}(h:QU ns (Gx.plug (f::C) T)):Xz (T.idx:Int) ns 0=(f.i,f.l.length):=by
 have hk:(YI (Xc (f::C) T.idx++T.nodes)).Nodup:=by
  have h1:=Qf4 (T:=Gx.plug (f::C) T) h.nd;exact((YO (f::C) T).flatMap_right _).nodup_iff.1 h1
 have h2:=RepN.par (A:=QP f.l) (i:=T.idx) (B:=QP f.r) h.plug hk rfl;rw[h2,QV]
theorem QeC{α:Type}[BEq α][LawfulBEq α]{a b:List α}(h:∀x,a.count x=b.count x):a.Perm b:=List.perm_iff_count.2 h
theorem QrG{α:Type}[BEq α](l:List α)(n:Nat)(x:α):l.count x=(l.take n).count x+(l.drop n).count x:=by
 rw[<-List.count_append,List.take_append_drop]
theorem Qck(ks:List BT)(n:Nat):nodesL ks=nodesL (ks.take n)++nodesL (ks.drop n):=by
 rw[<-Ze,List.take_append_drop]
theorem Qf1(l r:List BT)(i own:Nat):QT (QP l++(i:Int)::QP r) (l.length+1) (own:Int)=QP l++(i:Int)::(own:Int)::QP r:=by
 unfold QT;rw[List.take_append,List.drop_append,QV,List.take_of_length_le (by rw[QV];omega),List.drop_of_length_le (by rw[QV];omega),show l.length+1-l.length=1 by omega];simp
section
variable{ns:List Nd}{mo rm:Int}{f:Fr}{C:List Fr}{i:Nat}{es:List TEnt}{ks:List BT}
theorem QkB{T:BT}(h:QU ns T):(YI T.nodes).Nodup:=Qf4 h.nd
theorem QkP(h:QU ns (plug C (.nd i es ks))):(Q3 ns).1 ∉ (plug C (.nd i es ks)).nodes.map Prod.fst /\
  RepN (splA mo ns i) ((i,⟨true,es.take (QD mo),(QP ks).take (QD mo+1)⟩)::((Q3 ns).1,⟨true,es.drop (QD mo+1),(QP ks).drop (QD mo+1)⟩)::(Xc C i++nodesL ks)):=by
 have hf:=RepN.free h (QaS _);refine⟨hf.1,?_⟩
 have h1:=hf.2.perm (N':=((Q3 ns).1,⟨true,[],[]⟩)::(i,⟨true,es,QP ks⟩)::(Xc C i++nodesL ks)) (List.Perm.cons _ ((YO C (.nd i es ks)).trans (by
  show(Xc C i++(BT.nd i es ks).nodes).Perm _;rw[BT.nodes];exact List.perm_middle)))
 have h2:=h1.perm (List.Perm.swap ..);have hi:=h2.head;have h3:=((h1.es (es.drop (QD mo+1))).perm (List.Perm.swap ..)).es (es.take (QD mo));unfold splA;rw[hi.2];simp only[];split
 ·rename_i h0;have h0':QP ks=[]:=List.eq_nil_of_length_eq_zero h0;rw[h0']at h3;rw[h0',List.take_nil,List.drop_nil];exact h3
 ·have h4:=(h3.perm (List.Perm.swap ..)).cs ((QP ks).drop (QD mo+1));exact(h4.perm (List.Perm.swap ..)).cs ((QP ks).take (QD mo+1))
theorem Qhz(h:QU ns (plug C (.nd i es ks))):(YI ((i,(⟨true,es.take (QD mo),(QP ks).take (QD mo+1)⟩:Nd))::((Q3 ns).1,⟨true,es.drop (QD mo+1),(QP ks).drop (QD mo+1)⟩)::(Xc C i++nodesL ks))).Nodup:=by
 have h1:=((YO C (.nd i es ks)).flatMap_right (λp:Nat×Nd=>p.2.cs)).nodup_iff.1 (QkB h);refine(List.Perm.nodup_iff ?_).1 h1;rw[BT.nodes];show(YI (Xc C i++(i,⟨true,es,QP ks⟩)::nodesL ks)).Perm _;refine QeC λx=>?_;simp only[Qc4,Qg1,List.count_append,QrG (QP ks) (QD mo+1) x];omega
theorem QbD(h:QU ns (plug (f::C) (.nd i es ks))) :
  (Q3 ns).1 ∉ (plug (f::C) (.nd i es ks)).nodes.map Prod.fst/\Xz (i:Int) (splA mo ns i) 0=(f.i,f.l.length) /\
  QU (Qb6 mo ns i) (plug C (.nd f.i (QT f.es f.l.length (nth es (QD mo))) (f.l++.nd i (es.take (QD mo)) (ks.take (QD mo+1))::.nd (Q3 ns).1 (es.drop (QD mo+1)) (ks.drop (QD mo+1))::f.r))):=by
 obtain⟨h0,h1⟩:=QkP (mo:=mo) h;have hk:=Qhz (mo:=mo) h
 have hp:(((i,(⟨true,es.take (QD mo),(QP ks).take (QD mo+1)⟩:Nd))::((Q3 ns).1,⟨true,es.drop (QD mo+1),(QP ks).drop (QD mo+1)⟩)::(Xc (f::C) i++nodesL ks))).Perm
   ((f.i,⟨true,f.es,QP f.l++(i:Int)::QP f.r⟩)::(i,(⟨true,es.take (QD mo),(QP ks).take (QD mo+1)⟩:Nd))::((Q3 ns).1,⟨true,es.drop (QD mo+1),(QP ks).drop (QD mo+1)⟩)::(nodesL f.l++nodesL f.r++Xc C f.i++nodesL ks)):=by
  refine QeC λx=>?_;simp only[Xc,Fr.nodes,List.count_append,List.count_cons,List.cons_append];omega
 have h2:=h1.perm hp;have hpar:=h2.par ((hp.flatMap_right (λp:Nat×Nd=>p.2.cs)).nodup_iff.1 hk) rfl;rw[QV]at hpar;refine⟨h0,hpar,?_⟩;unfold Qb6;rw[hpar]
 have hi:nth (nth (Q3 ns).2 i).es (QD mo)=nth es (QD mo):=by
  have h4:i<ns.length/\nth ns i=⟨true,es,QP ks⟩:=QU.at_ (T:=.nd i es ks) h;rw[QcV h4.1 (by rw[h4.2]),h4.2]
 rw[hi];unfold addP;simp only[];have h5:=h2.head;have h6:=(h2.es (QT f.es f.l.length (nth es (QD mo)))).cs (QT (QP f.l++(i:Int)::QP f.r) (f.l.length+1) ((Q3 ns).1:Int));rw[Qf1]at h6;rw[h5.2];simp only[];rw[Qf1];refine QU.of_plug (h6.perm ?_);show List.Perm _ (Xc C f.i++BT.nodes _);rw[BT.nodes,Ze,nodesL,nodesL,BT.nodes,BT.nodes,Zu,YL,YL,Qhw,QhW];refine QeC λx=>?_;simp only[List.count_append,List.count_cons,List.cons_append,Qck ks (QD mo+1),BT.idx];omega
end
theorem Qsa{ns:List Nd}{es:List TEnt}{ks:List BT}(h:QU ns (.nd 0 es ks)):(Q3 ns).1 ∉ (BT.nd 0 es ks).nodes.map Prod.fst/\QU (Yf ns).2 (.nd 0 [] [.nd (Q3 ns).1 es ks]):=by
 have hf:=RepN.free h (QaS _);refine⟨hf.1,?_⟩;have h0:=QU.at_ (C:=[]) h;unfold Yf;rw[show nth ns 0=nth ns (BT.nd 0 es ks).idx from rfl,h0.2];simp only[BT.es,BT.ks]
 have h1:RepN (Q3 ns).2 (((Q3 ns).1,⟨true,[],[]⟩)::(0,⟨true,es,QP ks⟩)::nodesL ks):=by
  have:=hf.2;rw[BT.nodes]at this;exact this
 have h2:=(((h1.es es).cs (QP ks)).perm (List.Perm.swap ..)).es [];have h3:=h2.cs [((Q3 ns).1:Int)];refine RepN.perm h3 ?_;rw[BT.nodes,nodesL,BT.nodes,nodesL,List.append_nil];exact .refl _
def Bal(lo hi:Nat):Nat->BT->Prop
 | 0,T=>T.ks=[]/\lo<=T.es.length/\T.es.length<=hi
 | d+1,T=>(T.ks.length=T.es.length+1/\∀k∈T.ks,Bal lo hi d k)/\lo<=T.es.length/\T.es.length<=hi
def Bel(lo hi:Nat):Nat->BT->Prop
 | 0,T=>T.ks=[]
 | d+1,T=>T.ks.length=T.es.length+1/\∀k∈T.ks,Bal lo hi d k
theorem XI{lo hi d:Nat}{T:BT}:Bal lo hi d T ↔ Bel lo hi d T/\lo<=T.es.length/\T.es.length<=hi:=by
 cases d<;>simp only[Bal,Bel]
theorem Bel.cs{lo hi d:Nat}{T:BT}(h:Bel lo hi d T):T.ks=[]\/T.ks.length=T.es.length+1:=by
 cases d with
 | zero=>exact .inl h
 | succ d=>exact .inr h.1
theorem Bel.leaf{lo hi d:Nat}{T:BT}(h:Bel lo hi d T)(hk:T.ks=[]):d=0:=by
 cases d with
 | zero=>rfl
 | succ d=>
  have:=h.1;rw[hk]at this;simp at this
def Ye(lo hi rt:Nat):Nat->List Fr->Prop
 | _,[]=>True
 | d,f::C=>((∀k∈f.l,Bal lo hi d k)/\(∀k∈f.r,Bal lo hi d k))/\f.l.length+f.r.length=f.es.length/\((C=[]->f.es.length<=rt)/\(C≠[]->lo<=f.es.length/\f.es.length<=hi))/\Ye lo hi rt (d+1) C
theorem Qhb{lo hi rt d:Nat}{f:Fr}{C:List Fr}{T:BT}(hC:Ye lo hi rt d (f::C))(h:Bal lo hi d T):Bel lo hi (d+1) (f.fill T):=by
 refine⟨?_,λk hk=>?_⟩
 ·show(f.l++T::f.r).length=f.es.length+1;have:=hC.2.1;simp only[List.length_append,List.length_cons];omega
 ·rcases List.mem_append.1 hk with hk|hk
  ·exact hC.1.1 k hk
  ·rcases List.mem_cons.1 hk with rfl|hk
   ·exact h
   ·exact hC.1.2 k hk
theorem QkQ{lo hi rt:Nat}:∀{C:List Fr}{d:Nat}{T:BT},Ye lo hi rt d C->Bel lo hi d T->(C≠[]->lo<=T.es.length/\T.es.length<=hi)->Bel lo hi (d+C.length) (plug C T)
 | [],d,T,_,h,_=>h
 | f::C,d,T,hC,h,hl=>by
  have h1:=QkQ (C:=C) hC.2.2.2 (Qhb hC (XI.2 ⟨h,hl (by simp)⟩)) λhne=>hC.2.2.1.2 hne;show Bel lo hi (d+(C.length+1)) _;rw[show d+(C.length+1)=d+1+C.length by omega];exact h1
theorem Q5(es:List TEnt):flatL es []=es:=by cases es<;>rfl
theorem QaF(i:Nat)(es:List TEnt):(BT.nd i es []).flat=es:=by rw[BT.flat,Q5]
def Yd:List TEnt->List BT->List TEnt
 | e::es,k::ks=>k.flat++e::Yd es ks
 | _,_=>[]
def Qag:List TEnt->List BT->List TEnt
 | e::es,k::ks=>e::(k.flat++Qag es ks)
 | _,_=>[]
theorem Qfl:∀(es:List TEnt)(T:BT)(r:List BT),r.length=es.length->flatL es (T::r)=T.flat++Qag es r
 | [],T,[],_=>by
  rw[flatL,Q5];rfl
 | [],T,k::r,h=>absurd h (by simp)
 | e::es,T,[],h=>absurd h (by simp)
 | e::es,T,k::r,h=>by
  rw[flatL,Qfl es k r (by simpa using h)];rfl
theorem ZO:∀(l:List BT)(es:List TEnt)(T:BT)(r:List BT),l.length+r.length=es.length->flatL es (l++T::r)=Yd es l++(T.flat++Qag (es.drop l.length) r)
 | [],es,T,r,h=>by
  have e:Yd es []=[]:=by cases es<;>rfl
  rw[e];exact Qfl es T r (by simpa using h)
 | k::l,[],T,r,h=>absurd h (by simp only[List.length_cons,List.length_nil];omega)
 | k::l,e::es,T,r,h=>by
  rw[List.cons_append,flatL,ZO l es T r (by simp only[List.length_cons]at h;omega),Yd,List.length_cons,List.drop_succ_cons];simp only[List.append_assoc,List.cons_append]
theorem Qdo:∀(a b:List TEnt)(l:List BT),l.length<=a.length->Yd (a++b) l=Yd a l
 | a,b,[],_=>by
  have e:∀c:List TEnt,Yd c []=[]:=λc=>by cases c<;>rfl
  rw[e,e]
 | [],b,k::l,h=>absurd h (by simp)
 | x::a,b,k::l,h=>by
  rw[List.cons_append,Yd,Yd,Qdo a b l (by simpa using h)]
theorem Zc{es:List TEnt}{l:List BT}(h:l.length<=es.length):Yd (es.take l.length) l=Yd es l:=by
 have:=Qdo (es.take l.length) (es.drop l.length) l (by rw[List.length_take];omega);rw[List.take_append_drop]at this;exact this.symm
theorem Qoh{l r:List BT}{es:List TEnt}{A B:BT}{up:TEnt}(h:l.length+r.length=es.length):flatL (QT es l.length up) (l++A::B::r)=Yd es l++((A.flat++up::B.flat)++Qag (es.drop l.length) r):=by
 have hl:(es.take l.length).length=l.length:=by rw[List.length_take];omega
 rw[ZO l _ A (B::r) (by rw[Zz om,List.length_cons];omega)];unfold QT;rw[Qdo _ _ _ om,Zc om,List.drop_append,List.drop_of_length_le (by omega:(es.take l.length).length<=l.length),hl,Nat.sub_self,List.nil_append,List.drop_zero];show Yd es l++(A.flat++(up::(B.flat++Qag (es.drop l.length) r)))=_;simp only[List.append_assoc,List.cons_append]
theorem QcN:∀(m:Nat)(es:List TEnt)(ks:List BT),m<es.length->(ks=[]\/ks.length=es.length+1)->flatL (es.take m) (ks.take (m+1))++nth es m::flatL (es.drop (m+1)) (ks.drop (m+1))=flatL es ks
 | m,es,[],h,_=>by
  rw[List.take_nil,List.drop_nil,Q5,Q5,Q5];have e:nth es m=es[m]:=Q2 (List.getElem?_eq_getElem h);rw[e,<-List.drop_eq_getElem_cons h,List.take_append_drop]
 | m,[],k::ks,h,_=>absurd h (by simp)
 | 0,e::es,k::ks,h,h2=>by
  rw[List.take_zero,List.take_succ_cons,List.take_zero,flatL,Q5,List.drop_succ_cons,List.drop_zero,List.drop_succ_cons,List.drop_zero,flatL,List.append_nil];rfl
 | m+1,e::es,k::ks,h,h2=>by
  have hk:ks.length=es.length+1:=by
   rcases h2 with h2|h2
   ·cases h2
   ·simpa using h2
  rw[List.take_succ_cons,List.take_succ_cons,flatL,List.drop_succ_cons,List.drop_succ_cons,flatL];have:=QcN m es ks (by simpa using h) (.inr hk);show k.flat++e::flatL (es.take m) (ks.take (m+1))++nth es m::flatL (es.drop (m+1)) (ks.drop (m+1))=_;rw[<-this];simp only[List.append_assoc,List.cons_append]
def Qa4:List Fr->List TEnt
 | []=>[]
 | f::C=>Qa4 C++Yd f.es f.l
def QaU:List Fr->List TEnt
 | []=>[]
 | f::C=>Qag (f.es.drop f.l.length) f.r++QaU C
theorem Yx{lo hi rt:Nat}:∀{C:List Fr}{d:Nat}{T:BT},Ye lo hi rt d C->(plug C T).flat=Qa4 C++(T.flat++QaU C)
 | [],d,T,_=>by
  show T.flat=[]++(T.flat++[]);simp
 | f::C,d,T,hC=>by
  show(plug C (f.fill T)).flat=_;rw[Yx (C:=C) hC.2.2.2];show Qa4 C++((BT.nd f.i f.es (f.l++T::f.r)).flat++QaU C)=_;rw[BT.flat,ZO f.l f.es T f.r hC.2.1];simp only[Qa4,QaU,List.append_assoc]
theorem Qam:∀(C:List Fr)(T T':BT),T.idx=T'.idx->(plug C T).idx=(plug C T').idx
 | [],T,T',h=>h
 | f::C,T,T',_=>Qam C (f.fill T) (f.fill T') rfl
theorem QmW:∀(C:List Fr)(T:BT)(h:Nat),C≠[]->(plug C T).idx∈(Xc C h).map Prod.fst
 | [],T,h,hne=>absurd rfl hne
 | [f],T,h,_=>by
  show f.i∈_;simp[Xc,Fr.nodes]
 | f::g::C,T,h,_=>by
  have:=QmW (g::C) (f.fill T) f.i (by simp);show(plug (g::C) (f.fill T)).idx∈_;rw[Xc,List.map_append];exact List.mem_append_right _ this
theorem BT.idx_mem(T:BT):T.idx∈T.nodes.map Prod.fst:=by
 cases T with
 | nd i es ks=>
  rw[BT.nodes];exact List.mem_cons_self ..
theorem Ql0{ns:List Nd}{C:List Fr}{T:BT}(h:QU ns (plug C T))(hC:C≠[]):T.idx≠(plug C T).idx:=λe=>by
 have h1:=h.plug.nd;rw[List.map_append]at h1;exact(List.nodup_append.1 h1).2.2 _ (e▸QmW C T T.idx hC) _ T.idx_mem rfl
theorem QiZ{ns:List Nd}{C:List Fr}{i:Nat}{es:List TEnt}{ks:List BT}(h:QU ns (plug C (.nd i es ks)))(es':List TEnt):QU (esN ns i es') (plug C (.nd i es' ks)):=by
 refine QU.of_plug ?_;have h1:=h.plug;rw[BT.nodes]at h1 ⊢;have h2:=(h1.perm List.perm_middle).es es';exact h2.perm List.perm_middle.symm
theorem Qjj(ns:List Nd):∀f i j,i<=j->j<Qcv ns f i->(nth ns j).us=true
 | 0,i,j,h,h2=>by
  rw[Qcv]at h2;omega
 | f+1,i,j,h,h2=>by
  rw[Qcv]at h2;split at h2
  ·split at h2
   ·rcases Nat.eq_or_lt_of_le h with rfl|h3
    ·assumption
    ·exact Qjj ns f (i+1) j h3 h2
   ·omega
  ·omega
theorem QlM{ns:List Nd}{j:Nat}(h:j<X7 ns)(hl:j<ns.length):(nth ns j).us=true:=by
 have h1:=Qh1 (l:=ns.map λn=>!n.us) h;rw[Zh (d:=default) hl]at h1;show(ns.getD j default).us=true
 simpa using h1
theorem Qtq{ns:List Nd}(h0:0<ns.length)(hu:(nth ns 0).us=true)(hb:∀i,i<ns.length->(nth ns i).us=false->nth ns i=⟨false,[],[]⟩):Xx ns=Q3 ns:=by
 have hle:X7 ns<=ns.length:=by
  have:=Qlo (ns.map λn=>!n.us);rw[List.length_map]at this;exact this
 have hfl:QdY ns<=ns.length:=Qml ns _ 1 h0;have hge:1<=QdY ns:=QiC ns _ 1
 have e:QdY ns=X7 ns:=by
  rcases Nat.lt_trichotomy (QdY ns) (X7 ns)with h|h|h
  ·have h1:=Qir ns ns.length 1 (by show QdY ns<_;omega) om;have h2:=QlM (ns:=ns) h om;rw[show Qcv ns ns.length 1=QdY ns from rfl,h2]at h1;cases h1
  ·exact h
  ·have h1:=QeS (ns:=ns) om
   have h2:1<=X7 ns:=by
    rcases Nat.eq_zero_or_pos (X7 ns)with h3|h3
    ·rw[h3,hu]at h1;cases h1
    ·exact h3
   have h3:=Qjj ns ns.length 1 (X7 ns) h2 h;rw[h3]at h1;cases h1
 unfold Xx Q3;rw[e];split
 ·rename_i h;unfold usN;rw[hb _ h (QeS h)]
 ·rfl
theorem QU.blank{ns:List Nd}{T:BT}(h:QU ns T){i:Nat}(hi:i<ns.length)(hu:(nth ns i).us=false):nth ns i=⟨false,[],[]⟩:=by
 by_cases hm:i∈T.nodes.map Prod.fst
 ·obtain⟨p,hp,rfl⟩:=List.mem_map.1 hm;have h1:=RepN.at_ (i:=p.1) (x:=p.2) h hp;rw[h1.2,QaS T p hp]at hu;cases hu
 ·exact h.rest i hi hm
theorem QU.root{ns:List Nd}{T:BT}(h:QU ns T):T.idx<ns.length/\nth ns T.idx=⟨true,T.es,QP T.ks⟩:=QU.at_ (C:=[]) h
theorem QU.frs{ns:List Nd}{T:BT}(h:QU ns T)(h0:T.idx=0):Xx ns=Q3 ns:=by
 have h1:=h.root;rw[h0]at h1;exact Qtq h1.1 (by rw[h1.2]) λi hi hu=>h.blank hi hu
def QmI(co:Int)(key:List UInt8)(C:List Fr):Prop:=∀f∈C,f.l.length=plc co f.es key/\¬fnd co f.es key=true
theorem Qaf{α:Type}[Inhabited α](l:List α)(x:α)(r:List α):nth (l++x::r) l.length=x:=Q2 (by simp)
theorem Qp4{α:Type}(l:List α)(x d:α)(r:List α):(l++x::r).getD l.length d=x:=by simp
theorem BT.eta(T:BT):T=.nd T.idx T.es T.ks:=by cases T;rfl
theorem QcS{α:Type}[Inhabited α]{ks:List α}{p:Nat}(h:p<ks.length):ks=ks.take p++nth ks p::ks.drop (p+1):=by
 have e:nth ks p=ks[p]:=Q2 (List.getElem?_eq_getElem h);rw[e,<-List.drop_eq_getElem_cons h,List.take_append_drop]
theorem desc{co:Int}{ns:List Nd}{key:List UInt8}{lo hi rt:Nat}:∀(f d:Nat)(C:List Fr)(T:BT),QU ns (plug C T)->Ye lo hi rt d C->Bel lo hi d T->((C=[]->T.es.length<=rt)/\(C≠[]->lo<=T.es.length/\T.es.length<=hi))->d<f ->
  ∃D T' d',plug D T'=T/\Ye lo hi rt d' (D++C)/\Bel lo hi d' T'/\((D++C=[]->T'.es.length<=rt)/\(D++C≠[]->lo<=T'.es.length/\T'.es.length<=hi))/\d'+D.length=d /\
   (QdG co ns key f T.idx).1=(D.map Fr.i).reverse++[T'.idx]/\(QdG co ns key f T.idx).2=(plc co T'.es key,fnd co T'.es key)/\(fnd co T'.es key=true\/T'.ks=[])/\QmI co key D
 | 0,d,C,T,_,_,_,_,h=>absurd h (Nat.not_lt_zero _)
 | f+1,d,C,T,hR,hC,hB,hb,hd=>by
  have hat:=hR.at_;have hes:(nth ns T.idx).es=T.es:=by rw[hat.2]
  have hcs:(nth ns T.idx).cs=QP T.ks:=by rw[hat.2]
  rw[QdG,hes,hcs,QV]
  by_cases h1:fnd co T.es key=true\/T.ks.length=0
  ·rw[if_pos h1];exact⟨[],T,d,rfl,hC,hB,hb,by simp,rfl,rfl,h1.imp id λh=>List.eq_nil_of_length_eq_zero h,λf hf=>(nomatch hf)⟩
  ·rw[if_neg h1];have hk:¬T.ks.length=0:=λh=>h1 (.inr h)
   obtain⟨d',rfl⟩:∃d',d=d'+1:=by
    cases d with
    | zero=>exact absurd (show T.ks.length=0 by rw[show T.ks=[]from hB];rfl) hk
    | succ d'=>exact⟨d',rfl⟩
   have hp:plc co T.es key<T.ks.length:=by
    have:=Qbm co key T.es;have:=hB.1;omega
   have hsp:=QcS hp;generalize hl:T.ks.take (plc co T.es key)=l at hsp;generalize hr:T.ks.drop (plc co T.es key+1)=r at hsp;generalize hK:nth T.ks (plc co T.es key)=K at hsp;have hll:l.length=plc co T.es key:=by rw[<-hl,List.length_take];omega
   have hT:T=Fr.fill ⟨T.idx,T.es,l,r⟩ K:=by
    have:=T.eta;rw[hsp]at this;exact this
   have hbal:∀k∈T.ks,Bal lo hi d' k:=hB.2;have hBK:Bal lo hi d' K:=hbal K (by rw[hsp];simp)
   have hci:((QP T.ks).getD (plc co T.es key) 0).toNat=K.idx:=by
    rw[hsp,Zu,YL,<-hll,<-QV l,Qp4];rfl
   rw[hci]
   have hctx:Ye lo hi rt d' (⟨T.idx,T.es,l,r⟩::C):=⟨⟨λk hk=>hbal k (by rw[hsp];simp[hk]),λk hk=>hbal k (by rw[hsp];simp[hk])⟩,by
    show l.length+r.length=T.es.length;have h9:=hB.1;rw[hsp]at h9;simp only[List.length_append,List.length_cons]at h9;omega,hb,hC⟩
   have hb2:=XI.1 hBK
   obtain⟨D,T',d9,e1,e2,e3,e4,e5,e6,e7,e8,e9⟩:=desc f d' (⟨T.idx,T.es,l,r⟩::C) K (by
    show QU ns (plug C (Fr.fill _ K));rw[<-hT];exact hR) hctx hb2.1 ⟨λh=>(nomatch h),λ_=>hb2.2⟩ om
   refine⟨D++[⟨T.idx,T.es,l,r⟩],T',d9,?_,?_,e3,?_,?_,?_,e7,e8,λg hg=>?_⟩
   ·rw[QbC,e1];exact hT.symm
   ·rw[List.append_assoc];exact e2
   ·rw[List.append_assoc];exact e4
   ·simp only[List.length_append,List.length_singleton];omega
   ·rw[e6];simp
   ·rcases List.mem_append.1 hg with hg|hg
    ·exact e9 g hg
    ·rcases List.mem_singleton.1 hg;exact⟨hll,λh=>h1 (.inl h)⟩
theorem Qgn{k:BT}:∀{ks:List BT},k∈ks->k.nodes.length<=(nodesL ks).length
 | [],h=>(nomatch h)
 | x::ks,h=>by
  rw[nodesL,List.length_append];rcases List.mem_cons.1 h with rfl|h
  ·omega
  ·have:=Qgn (ks:=ks) h;omega
theorem Qh0(T:BT):T.nodes.length=(nodesL T.ks).length+1:=by
 cases T with
 | nd i es ks=>rw[BT.nodes,List.length_cons];rfl
theorem Qf0{lo hi:Nat}:∀{d:Nat}{T:BT},Bel lo hi d T->d+1<=T.nodes.length
 | 0,T,_=>by
  rw[Qh0];omega
 | d+1,T,h=>by
  obtain⟨k,ks,e⟩:∃k ks,T.ks=k::ks:=by
   cases hk:T.ks with
   | nil=>
    have:=h.1;rw[hk]at this;simp at this
   | cons k ks=>exact⟨k,ks,rfl⟩
  have hm:k∈T.ks:=by rw[e];exact List.mem_cons_self ..
  have h1:=Qf0 (XI.1 (h.2 k hm)).1;have h2:=Qgn hm;rw[Qh0];omega
theorem QU.nlen{ns:List Nd}{T:BT}(h:QU ns T):T.nodes.length<=ns.length:=by
 have:=Qey ns.length (T.nodes.map Prod.fst) h.nd λx hx=>by
  obtain⟨p,hp,rfl⟩:=List.mem_map.1 hx;exact RepN.lt h hp
 rwa[List.length_map]at this
section
variable{ns:List Nd}{mo:Int}{f:Fr}{C:List Fr}{i:Nat}{es:List TEnt}{ks:List BT}
theorem QlT(h:QU ns (plug (f::C) (.nd i es ks))):f.i<(splA mo ns i).length/\nth (splA mo ns i) f.i=⟨true,f.es,QP f.l++(i:Int)::QP f.r⟩/\(i:Int) ∉ QP f.l:=by
 have h1:=(QkP (mo:=mo) h).2;have hk:=Qhz (mo:=mo) h
 have hm:(f.i,(⟨true,f.es,QP f.l++(i:Int)::QP f.r⟩:Nd))∈((i,(⟨true,es.take (QD mo),(QP ks).take (QD mo+1)⟩:Nd))::((Q3 ns).1,⟨true,es.drop (QD mo+1),(QP ks).drop (QD mo+1)⟩)::(Xc (f::C) i++nodesL ks)):=by
  refine List.mem_cons_of_mem _ (List.mem_cons_of_mem _ (List.mem_append_left _ ?_));rw[Xc,Fr.nodes];exact List.mem_cons_self ..
 have h2:=h1.at_ hm;refine⟨h2.1,h2.2,λhi=>?_⟩;have h3:=(List.pairwise_flatMap.1 hk).1 _ hm;exact(List.nodup_append.1 h3).2.2 _ hi _ (List.mem_cons_self ..) rfl
theorem QmK(h:QU ns (plug (f::C) (.nd i es ks)))(h0:(plug (f::C) (.nd i es ks)).idx=0):Qiz mo ns f.i i=Qb6 mo ns i:=by
 have hA:splRA mo ns i=splA mo ns i:=by
  unfold splRA splA;rw[h.frs h0]
 have h1:=QlT (mo:=mo) h;have h2:=(QbD (mo:=mo) h).2.1;unfold Qiz Qb6;rw[hA,h2,h1.2.1,h.frs h0];simp only[];have h3:=QfG (B:=QP f.r) h1.2.2;unfold ixR;rw[h3,if_pos (by simp),QV]
theorem Qq4{lo hi rt d:Nat}(h:QU ns (plug (f::C) (.nd i es ks)))(hC:Ye lo hi rt d (f::C))(hB:Bel lo hi d (.nd i es ks))(hmo:0<=mo/\mo<=1000)(hlen:ns.length<=900)(hsm:Sm 900 ns)(hes:QD mo<es.length):SpOk mo ns i:=by
 have hat:i<ns.length/\nth ns i=⟨true,es,QP ks⟩:=QU.at_ (T:=.nd i es ks) h;have h1:=QlT (mo:=mo) h;have h2:=(QbD (mo:=mo) h).2.1;have h3:=hC.2.1;refine⟨hmo,hlen,hsm,hat.1,by rw[hat.2],by rw[hat.2];exact hes,?_,?_,?_,?_⟩
 ·rw[hat.2];rcases hB.cs with hk|hk
  ·left;show(QP ks).length=0;rw[show ks=[]from hk];rfl
  ·right;have:ks.length=es.length+1:=hk;show _<=(QP ks).length;rw[QV];omega
 ·rw[h2];exact h1.1
 ·rw[h2];simp only[];rw[h1.2.1];show f.l.length<=f.es.length;omega
 ·rw[h2];simp only[];rw[h1.2.1];simp only[List.length_append,List.length_cons,QV];omega
theorem QpQ(h:QU ns (plug (f::C) (.nd i es ks)))(h0:(plug (f::C) (.nd i es ks)).idx=0)(hs:SpOk mo ns i):SpROk mo ns f.i i:=by
 have hA:splRA mo ns i=splA mo ns i:=by
  unfold splRA splA;rw[h.frs h0]
 have h1:=QlT (mo:=mo) h;have h2:=(QbD (mo:=mo) h).2.1;have h3:=QfG (B:=QP f.r) h1.2.2
 have hx:ixR (nth (splRA mo ns i) f.i).cs (i:Int)=f.l.length:=by
  rw[hA,h1.2.1];unfold ixR;simp only[];rw[h3,if_pos (by simp),QV]
 have hp:f.i<ns.length:=by
  have:=h.plug;exact this.lt (p:=(f.i,⟨true,f.es,QP f.l++(i:Int)::QP f.r⟩)) (List.mem_append_left _ (by rw[Xc,Fr.nodes];exact List.mem_cons_self ..))
 refine⟨hs.mo0,hs.len,hs.sm,hs.lt,hs.us,hs.es,hs.cs,hp,?_,?_⟩
 ·rw[hx,hA,h1.2.1];have:=hs.parE;rw[h2]at this;simp only[]at this;rw[h1.2.1]at this;exact this
 ·rw[hx,hA,h1.2.1];simp only[List.length_append,List.length_cons,QV];omega
end
def QaI(rt:Nat)(T:BT):Prop:=T.es=[]->∀k,T.ks=[k]->rt<k.es.length
def Qea(rt:Nat):List Fr->Nat->Prop
 | [],_=>True
 | [f],n=>f.es=[]->rt<n
 | f::g::C,_=>Qea rt (g::C) f.es.length
theorem Qea.mono{rt:Nat}:∀{C:List Fr}{n m:Nat},Qea rt C n->n<=m->Qea rt C m
 | [],_,_,_,_=>trivial
 | [f],n,m,h,hm=>λe=>Nat.lt_of_lt_of_le (h e) hm
 | f::g::C,_,_,h,_=>h
theorem QfI{lo hi rt:Nat}:∀{D:List Fr}{d:Nat}{T:BT},Ye lo hi rt d D->QaI rt (plug D T)->Qea rt D T.es.length
 | [],_,T,_,_=>trivial
 | [f],_,T,hC,h=>λe=>by
  have h1:=hC.2.1;rw[e]at h1;have hl:f.l=[]:=List.eq_nil_of_length_eq_zero (by simp only[List.length_nil]at h1;omega);have hr:f.r=[]:=List.eq_nil_of_length_eq_zero (by simp only[List.length_nil]at h1;omega);refine h e T ?_;show f.l++T::f.r=[T];rw[hl,hr];rfl
 | f::g::C,d,T,hC,h=>QfI (D:=g::C) (T:=f.fill T) hC.2.2.2 h
theorem QeF{P A:List Nat}{x:Nat}(h:P.take (A.length+1)=(x::A).reverse):nth P A.length=x/\P.take A.length=A.reverse:=by
 rw[List.reverse_cons]at h;constructor
 ·apply Q2
  have h1:(P.take (A.length+1))[A.length]?=some x:=by
   rw[h,List.getElem?_append_right (by simp)];simp
  rw[List.getElem?_take]at h1
  simpa using h1
 ·have h1:(P.take (A.length+1)).take A.length=A.reverse:=by
   rw[h,List.take_append_of_le_length (by simp),List.take_of_length_le (by simp)]
  rw[List.take_take]at h1;rw[<-h1];congr 1;omega
theorem Qpk{mo:Int}{lo hi d i o:Nat}{es:List TEnt}{ks:List BT}(hmo:mo=(hi:Int))(hlo:lo=hi/2)(hB:Bel lo hi d (.nd i es ks))(hl:es.length=hi+1) :
  Bal lo hi d (.nd i (es.take (QD mo)) (ks.take (QD mo+1)))/\Bal lo hi d (.nd o (es.drop (QD mo+1)) (ks.drop (QD mo+1))):=by
 have hm:QD mo=(hi+1)/2:=by unfold QD;omega
 rw[XI,XI];have e1:lo<=(es.take (QD mo)).length/\(es.take (QD mo)).length<=hi:=by rw[List.length_take];omega
 have e2:lo<=(es.drop (QD mo+1)).length/\(es.drop (QD mo+1)).length<=hi:=by rw[List.length_drop];omega
 refine⟨⟨?_,e1⟩,⟨?_,e2⟩⟩
 ·cases d with
  | zero=>
   show ks.take _=[];rw[show ks=[]from hB,List.take_nil]
  | succ d=>
   have h1:ks.length=es.length+1:=hB.1;refine⟨?_,λk hk=>hB.2 k (List.mem_of_mem_take hk)⟩;show(ks.take (QD mo+1)).length=(es.take (QD mo)).length+1;rw[List.length_take,List.length_take];omega
 ·cases d with
  | zero=>
   show ks.drop _=[];rw[show ks=[]from hB,List.drop_nil]
  | succ d=>
   have h1:ks.length=es.length+1:=hB.1;refine⟨?_,λk hk=>hB.2 k (List.mem_of_mem_drop hk)⟩;show(ks.drop (QD mo+1)).length=(es.drop (QD mo+1)).length+1;rw[List.length_drop,List.length_drop];omega
theorem QhB{mo:Int}{lo hi rt d i o:Nat}{f:Fr}{C:List Fr}{es:List TEnt}{ks:List BT}{up:TEnt}(hmo:mo=(hi:Int))(hlo:lo=hi/2)(hC:Ye lo hi rt d (f::C))(hB:Bel lo hi d (.nd i es ks))(hl:es.length=hi+1) :
  Bel lo hi (d+1) (.nd f.i (QT f.es f.l.length up) (f.l++.nd i (es.take (QD mo)) (ks.take (QD mo+1))::.nd o (es.drop (QD mo+1)) (ks.drop (QD mo+1))::f.r)):=by
 have h1:=Qpk (o:=o) hmo hlo hB hl;have h2:=hC.2.1;refine⟨?_,λk hk=>?_⟩
 ·show(f.l++_::_::f.r).length=(QT f.es f.l.length up).length+1;rw[Zz om];simp only[List.length_append,List.length_cons];omega
 ·rcases List.mem_append.1 hk with hk|hk
  ·exact hC.1.1 k hk
  ·rcases List.mem_cons.1 hk with rfl|hk
   ·exact h1.1
   ·rcases List.mem_cons.1 hk with rfl|hk
    ·exact h1.2
    ·exact hC.1.2 k hk
theorem QgF{mo:Int}{lo hi rt d i o:Nat}{f:Fr}{C:List Fr}{es:List TEnt}{ks:List BT}(hC:Ye lo hi rt d (f::C))(hB:Bel lo hi d (.nd i es ks))(hl:QD mo<es.length) :
  (BT.nd f.i (QT f.es f.l.length (nth es (QD mo))) (f.l++.nd i (es.take (QD mo)) (ks.take (QD mo+1))::.nd o (es.drop (QD mo+1)) (ks.drop (QD mo+1))::f.r)).flat=(f.fill (.nd i es ks)).flat:=by
 rw[BT.flat,Qoh hC.2.1,BT.flat,BT.flat,QcN (QD mo) es ks hl hB.cs];show _=(BT.nd f.i f.es (f.l++BT.nd i es ks::f.r)).flat;rw[BT.flat,ZO _ _ _ _ hC.2.1,BT.flat]
def X1(ns:List Nd):Prop:=(nth ns (ns.length-1)).us=true
theorem QrB{ns:List Nd}{i:Nat}{x:Nd}(hx:x.us=(nth ns i).us)(k:Nat):(nth (ns.set i x) k).us=(nth ns k).us:=by
 rw[Qa2];split
 ·rename_i h;rw[hx,h.1]
 ·rfl
theorem QwO(ns:List Nd)(i:Nat)(es:List TEnt)(k:Nat):(nth (esN ns i es) k).us=(nth ns k).us:=QrB (x:={nth ns i with es:=es}) rfl k
theorem Qwn(ns:List Nd)(i:Nat)(cs:List Int)(k:Nat):(nth (csN ns i cs) k).us=(nth ns k).us:=QrB (x:={nth ns i with cs:=cs}) rfl k
theorem X1.es{ns:List Nd}(h:X1 ns)(i:Nat)(es:List TEnt):X1 (esN ns i es):=by
 unfold X1;rw[YF,QwO];exact h
theorem X1.cs{ns:List Nd}(h:X1 ns)(i:Nat)(cs:List Int):X1 (csN ns i cs):=by
 unfold X1;rw[Qbc,Qwn];exact h
theorem X1.fre{ns:List Nd}(h:X1 ns):X1 (Q3 ns).2:=by
 unfold Q3;split
 ·unfold X1 usN;simp only[List.length_set];rw[Qa2];split
  ·rfl
  ·exact h
 ·unfold X1;simp only[List.length_append,List.length_singleton,Nat.add_sub_cancel];rw[Qaf]
theorem X1.spl{ns:List Nd}(h:X1 ns)(mo:Int)(i:Nat):X1 (Qb6 mo ns i):=by
 unfold Qb6 addP;refine X1.cs (X1.es ?_ _ _) _ _;unfold splA;split
 ·exact(h.fre.es _ _).es _ _
 ·exact(((h.fre.es _ _).es _ _).cs _ _).cs _ _
theorem X1.low{ns:List Nd}(h:X1 ns):X1 (Yf ns).2:=by
 unfold Yf;exact(((h.fre.es _ _).cs _ _).es _ _).cs _ _
structure Grown(mo:Int)(lo hi rt:Nat)(P:List Nat)(m k:Nat)(ns:List Nd)(W:List Nat)(fl:List TEnt):Prop where
 ok:QcX mo ns W
 okR:QgZ mo P k ns
 same:Qcp mo P k ns=Yq mo ns W
 tree:∃T d,QU (Yq mo ns W) T/\T.idx=0/\Bel lo hi d T/\T.es.length<=rt+1/\QaI rt T/\T.flat=fl
 sm:Sm (m+k) (Yq mo ns W)
 len:ns.length<=(Yq mo ns W).length/\(Yq mo ns W).length<=ns.length+k
 last:X1 (Yq mo ns W)
theorem QiP{mo:Int}{lo hi rt:Nat}(hmo:mo=(hi:Int))(hlo:lo=hi/2)(hhi:hi<=900)(hrt:rt<=hi)(P:List Nat):∀(C:List Fr)(d m:Nat)(ns:List Nd)(T:BT),QU ns (plug C T)->(plug C T).idx=0->Ye lo hi rt d C->Bel lo hi d T ->
  ((C=[]->T.es.length<=rt+1)/\(C≠[]->lo<=T.es.length/\T.es.length<=hi+1))->Qea rt C T.es.length->(C=[]->QaI rt T)->Sm m ns->m+C.length<=899->ns.length+C.length<=899->X1 ns->P.take (C.length+1)=(T.idx::C.map Fr.i).reverse ->
  Grown mo lo hi rt P m C.length ns (T.idx::C.map Fr.i) (plug C T).flat
 | [],d,m,ns,T,hR,h0,hC,hB,hb,hg,hn,hs,hm,hl,hu,hP=>by
  have h1:T.idx=0:=h0;have hat:=QU.at_ (C:=[]) hR
  have e:Yq mo ns [T.idx]=ns:=by
   show QbZ mo ns T.idx=ns;unfold QbZ;rw[if_neg (λh=>om)]
  have hroot:QU ns T:=hR;refine⟨⟨⟨hat.1,λh=>om⟩,trivial⟩,trivial,e.symm,?_,?_,?_,?_⟩
  ·show∃T' d',QU (Yq mo ns [T.idx]) T'/\_;rw[e];exact⟨T,d,hroot,h1,hB,hb.1 rfl,hn rfl,rfl⟩
  ·show Sm m (Yq mo ns [T.idx]);rw[e];exact hs
  ·show _<=(Yq mo ns [T.idx]).length/\(Yq mo ns [T.idx]).length<=_;rw[e];exact⟨Nat.le_refl _,Nat.le_refl _⟩
  ·show X1 (Yq mo ns [T.idx]);rw[e];exact hu
 | f::C,d,m,ns,.nd i es ks,hR,h0,hC,hB,hb,hg,hn,hs,hm,hl,hu,hP=>by
  have hne:i≠0:=by
   have:=Ql0 hR (by simp);rw[h0]at this;exact this
  have hat:i<ns.length/\nth ns i=⟨true,es,QP ks⟩:=QU.at_ (T:=.nd i es ks) hR;have hb1:lo<=es.length/\es.length<=hi+1:=hb.2 (by simp);have hlen2:(C.map Fr.i).length=C.length:=by simp
  have hP1:=QeF (A:=f.i::C.map Fr.i) (x:=i) (by
   rw[List.length_cons,hlen2];exact hP)
  rw[List.length_cons,hlen2]at hP1
  have hP2:=QeF (A:=C.map Fr.i) (x:=f.i) (by
   rw[hlen2];exact hP1.2)
  rw[hlen2]at hP2;have hCl:(f::C).length=C.length+1:=rfl;have hf:=hC.2.2.1
  have hgC:∀n,f.es.length<=n->Qea rt C n:=λn hle=>by
   cases C with
   | nil=>trivial
   | cons g C'=>exact Qea.mono (show Qea rt (g::C') f.es.length from hg) hle
  have hlt9:(nth ns (nth P (C.length+1))).es.length=es.length:=by rw[hP1.1,hat.2]
  by_cases hbig:es.length<=hi
  ·have e1:QbZ mo ns i=ns:=by
    unfold QbZ;rw[if_neg (λh=>by rw[hat.2]at h;have:=h.2;simp only[]at this;omega)]
   have hno:¬mo<((nth ns (nth P (C.length+1))).es.length:Int):=by rw[hlt9];omega
   have ih:=QiP hmo hlo hhi hrt P C (d+1) m ns (f.fill (.nd i es ks)) hR h0 hC.2.2.2 (Qhb hC (XI.2 ⟨hB,hb1.1,hbig⟩)) ⟨λh=>Nat.le_succ_of_le (hf.1 h),λh=>⟨(hf.2 h).1,Nat.le_succ_of_le (hf.2 h).2⟩⟩ (hgC _ (Nat.le_refl _)) (λh=>by
    subst h;intro e k hk;have h9:f.l++BT.nd i es ks::f.r=[k]:=hk;cases hfl:f.l with
    | nil=>
     rw[hfl]at h9;have:BT.nd i es ks=k:=(List.cons.inj h9).1;rw[<-this];exact hg e
    | cons a b=>
     rw[hfl]at h9;simp at h9) hs (by rw[hCl]at hm;omega) (by rw[hCl]at hl;omega) hu hP1.2
   have eW:Yq mo ns (i::(f::C).map Fr.i)=Yq mo ns ((f.fill (.nd i es ks)).idx::C.map Fr.i):=by
    show Yq mo (QbZ mo ns i) _=_;rw[e1];rfl
   refine⟨⟨⟨hat.1,λ_(h:mo<((nth ns i).es.length:Int))=>by rw[hat.2]at h;simp only[]at h;omega⟩,?_⟩,⟨⟨by rw[hP1.1];exact hat.1,λh=>absurd h hno⟩,?_⟩,?_,?_,?_,?_,?_⟩
   ·rw[show QbZ mo ns (BT.nd i es ks).idx=ns from e1];exact ih.ok
   ·rw[if_neg hno];exact ih.okR
   ·show Qcp mo P C.length (if _ then _ else _)=Yq mo ns (i::(f::C).map Fr.i);rw[if_neg hno,eW];exact ih.same
   ·show∃T d,QU (Yq mo ns (i::(f::C).map Fr.i)) T/\_;rw[eW];exact ih.tree
   ·show Sm _ (Yq mo ns (i::(f::C).map Fr.i));rw[eW];exact ih.sm.mono (by rw[hCl];omega)
   ·show _<=(Yq mo ns (i::(f::C).map Fr.i)).length/\(Yq mo ns (i::(f::C).map Fr.i)).length<=_;rw[eW];have:=ih.len;rw[hCl];omega
   ·show X1 (Yq mo ns (i::(f::C).map Fr.i));rw[eW];exact ih.last
  ·have hle:es.length=hi+1:=om
   have hmE:QD mo<es.length:=by unfold QD;omega
   have hyes:mo<((nth ns (nth P (C.length+1))).es.length:Int):=by rw[hlt9];omega
   have e1:QbZ mo ns i=Qb6 mo ns i:=by
    unfold QbZ;rw[if_pos ⟨om,by rw[hat.2];simp only[];omega⟩]
   have hok:=Qq4 hR hC hB om om (hs.mono om) hmE;have hokR:=QpQ hR h0 hok;have hsR:=QmK (mo:=mo) hR h0;have hsp:=(QbD (mo:=mo) hR).2.2;have hsl:=Qj6 mo ns i;generalize hup:nth es (QD mo)=up at hsp;have hflat:=QgF (mo:=mo) (o:=(Q3 ns).1) hC hB hmE;rw[hup]at hflat;have hbl:=QhB (o:=(Q3 ns).1) (up:=up) hmo hlo hC hB hle;have hil:(QT f.es f.l.length up).length=f.es.length+1:=Zz (by have:=hC.2.1;omega);generalize hT2:BT.nd f.i (QT f.es f.l.length up) (f.l++BT.nd i (es.take (QD mo)) (ks.take (QD mo+1))::BT.nd (Q3 ns).1 (es.drop (QD mo+1)) (ks.drop (QD mo+1))::f.r)=T2 at hsp hflat hbl;have hT2i:T2.idx=f.i:=by rw[<-hT2];rfl
   have hT2e:T2.es.length=f.es.length+1:=by rw[<-hT2];exact hil
   have ih:=QiP hmo hlo hhi hrt P C (d+1) (m+1) (Qb6 mo ns i) T2 hsp (by
    rw[Qam C T2 (f.fill (.nd i es ks)) hT2i];exact h0) hC.2.2.2 hbl ⟨λh=>by rw[hT2e];have:=hf.1 h;omega,λh=>by rw[hT2e];have:=hf.2 h;omega⟩ (hgC _ om) (λh e=>by rw[e]at hT2e;simp at hT2e) (hs.spl mo i) (by rw[hCl]at hm;omega) (by rw[hCl]at hl;omega) (hu.spl mo i) (by rw[hT2i];exact hP1.2)
   have eW:Yq mo ns (i::(f::C).map Fr.i)=Yq mo (Qb6 mo ns i) (T2.idx::C.map Fr.i):=by
    show Yq mo (QbZ mo ns i) _=_;rw[e1,hT2i];rfl
   have hpf:(plug C T2).flat=(plug (f::C) (.nd i es ks)).flat:=by
    show _=(plug C (f.fill (.nd i es ks))).flat;rw[Yx hC.2.2.2,Yx hC.2.2.2,hflat]
   refine⟨⟨⟨hat.1,λ_ _=>hok⟩,?_⟩,⟨⟨by rw[hP1.1];exact hat.1,λ_=>by rw[hP1.1,hP2.1];exact hokR⟩,?_⟩,?_,?_,?_,?_,?_⟩
   ·rw[show QbZ mo ns (BT.nd i es ks).idx=Qb6 mo ns i from e1];have:=ih.ok;rw[hT2i]at this;exact this
   ·rw[if_pos hyes,hP1.1,hP2.1,hsR];exact ih.okR
   ·show Qcp mo P C.length (if _ then _ else _)=Yq mo ns (i::(f::C).map Fr.i);rw[if_pos hyes,hP1.1,hP2.1,hsR,eW];exact ih.same
   ·show∃T d,QU (Yq mo ns (i::(f::C).map Fr.i)) T/\_;rw[eW,<-hpf];exact ih.tree
   ·show Sm _ (Yq mo ns (i::(f::C).map Fr.i));rw[eW];exact ih.sm.mono (by rw[hCl];omega)
   ·show _<=(Yq mo ns (i::(f::C).map Fr.i)).length/\(Yq mo ns (i::(f::C).map Fr.i)).length<=_;rw[eW];have:=ih.len;rw[hCl];omega
   ·show X1 (Yq mo ns (i::(f::C).map Fr.i));rw[eW];exact ih.last
def Srt(co:Int)(l:List TEnt):Prop:=l.Pairwise λa b=>QX co a.key b.key<0
theorem Qe4{co:Int}{a b:List UInt8}(h:¬QX co a b<0)(h2:QX co a b≠0):QX co b a<0:=by
 have:=QdC co a b;omega
theorem Srt.asc{co:Int}{l:List TEnt}(h:Srt co l):Asc co l:=λk hk=>by
 have:=List.pairwise_iff_getElem.1 h k (k+1) om hk om;rw[show nth l k=l[k]from Q2 (List.getElem?_eq_getElem om),show nth l (k+1)=l[k+1]from Q2 (List.getElem?_eq_getElem hk)];exact this
theorem Srt.of_asc{co:Int}{l:List TEnt}(h:Asc co l):Srt co l:=List.pairwise_iff_getElem.2 λi j hi hj hij=>by
 have:=h.lt hij hj;rw[show nth l i=l[i]from Q2 (List.getElem?_eq_getElem hi),show nth l j=l[j]from Q2 (List.getElem?_eq_getElem hj)]at this;exact this
theorem Qez{co:Int}{key:List UInt8}:∀{A l:List TEnt},(∀x∈A,QX co x.key key<0)->plc co (A++l) key=A.length+plc co l key
 | [],l,_=>by simp
 | a::A,l,h=>by
  rw[List.cons_append,plc,if_pos (h a (List.mem_cons_self ..)),Qez λx hx=>h x (List.mem_cons_of_mem _ hx),List.length_cons];omega
theorem QgO{co:Int}{key:List UInt8}:∀{l B:List TEnt},(∀x∈B,QX co key x.key<0)->plc co (l++B) key=plc co l key
 | [],[],_=>rfl
 | [],b::B,h=>by
  have h1:=h b (List.mem_cons_self ..);have h2:=QdC co b.key key;show plc co (b::B) key=0;rw[plc,if_neg om]
 | a::l,B,h=>by
  rw[List.cons_append,plc,plc,QgO h]
theorem QoC{α:Type}{A l B:List α}{p:Nat}{x:α}(hp:p<=l.length):QT (A++(l++B)) (A.length+p) x=A++(QT l p x++B):=by
 unfold QT;rw[List.take_length_add_append,List.drop_length_add_append,List.take_append_of_le_length hp,List.drop_append_of_le_length hp];simp only[List.append_assoc,List.cons_append]
def Qle(co:Int)(l:List TEnt)(key:List UInt8):Prop:=∃y∈l,QX co y.key key=0
theorem Qgf{co:Int}{key:List UInt8}:∀{l:List TEnt},Srt co l->(Qle co l key ↔ fnd co l key=true)
 | [],_=>by simp[Qle,fnd]
 | y::l,h=>by
  have hp:=List.pairwise_cons.1 h;have ih:=Qgf (key:=key) hp.2;unfold fnd at ih ⊢;rw[plc]
  by_cases h1:QX co y.key key<0
  ·rw[if_pos h1];have e:nth (y::l) (plc co l key+1)=nth l (plc co l key):=rfl;rw[e,List.length_cons]
   have hh:Qle co (y::l) key ↔ Qle co l key:=by
    constructor
    ·rintro⟨z,hz,h2⟩;rcases List.mem_cons.1 hz with rfl|hz
     ·omega
     ·exact⟨z,hz,h2⟩
    ·rintro⟨z,hz,h2⟩;exact⟨z,List.mem_cons_of_mem _ hz,h2⟩
   rw[hh,ih];simp
  ·rw[if_neg h1];have e:nth (y::l) 0=y:=rfl;rw[e];simp only[List.length_cons,Nat.zero_lt_succ,decide_true,Bool.true_and,decide_eq_true_eq];constructor
   ·rintro⟨z,hz,h2⟩;rcases List.mem_cons.1 hz with rfl|hz
    ·exact h2
    ·exfalso;have h3:=hp.1 z hz
     by_cases h4:QX co y.key key=0
     ·have h5:=QfD.1 h4;have h6:=QfD.1 h2;have h7:=QfD.2 (h5.trans h6.symm);omega
     ·have h5:=Qe4 h1 h4;have h6:=YU h5 h3;have h7:=QdC co z.key key;omega
   ·intro h2;exact⟨y,List.mem_cons_self ..,h2⟩
theorem Qmj{co:Int}{x:TEnt}:∀{l:List TEnt},Srt co l->¬Qle co l x.key->Srt co (QT l (plc co l x.key) x)
 | [],_,_=>by
  show Srt co [x];simp[Srt]
 | y::l,h,hn=>by
  have hp:=List.pairwise_cons.1 h;have ih:=Qmj (x:=x) hp.2 λ⟨z,hz,h2⟩=>hn ⟨z,List.mem_cons_of_mem _ hz,h2⟩;rw[plc]
  by_cases h1:QX co y.key x.key<0
  ·rw[if_pos h1];show Srt co (y::QT l (plc co l x.key) x);refine List.pairwise_cons.2 ⟨λz hz=>?_,ih⟩;unfold QT at hz;rcases List.mem_append.1 hz with hz|hz
   ·exact hp.1 z (List.mem_of_mem_take hz)
   ·rcases List.mem_cons.1 hz with rfl|hz
    ·exact h1
    ·exact hp.1 z (List.mem_of_mem_drop hz)
  ·rw[if_neg h1];show Srt co (x::y::l);have h2:=Qe4 h1 λh2=>hn ⟨y,List.mem_cons_self ..,h2⟩;refine List.pairwise_cons.2 ⟨λz hz=>?_,h⟩;rcases List.mem_cons.1 hz with rfl|hz
   ·exact h2
   ·exact YU h2 (hp.1 z hz)
theorem Qj2{co:Int}{key:List UInt8}:∀{es:List TEnt}{l:List BT},Srt co (Yd es l)->l.length<=es.length->(∀j,j<l.length->QX co (nth es j).key key<0)->∀x∈Yd es l,QX co x.key key<0
 | es,[],_,_,_,x,hx=>by
  have e:Yd es []=[]:=by cases es<;>rfl
  rw[e]at hx;cases hx
 | [],k::l,_,h,_,x,hx=>absurd h (by simp)
 | e::es,k::l,hs,hl,h,x,hx=>by
  rw[Yd]at hs hx;have h1:=List.pairwise_append.1 hs;have he:QX co e.key key<0:=h 0 (by simp);rcases List.mem_append.1 hx with hx|hx
  ·exact YU (h1.2.2 x hx e (List.mem_cons_self ..)) he
  ·rcases List.mem_cons.1 hx with rfl|hx
   ·exact he
   ·exact Qj2 (List.pairwise_cons.1 h1.2.1).2 (by simpa using hl) (λj hj=>h (j+1) (by simpa using hj)) x hx
theorem QiY{co:Int}{key:List UInt8}{lo hi rt:Nat}:∀{D:List Fr}{d:Nat},Ye lo hi rt d D->QmI co key D->Srt co (Qa4 D)->∀x∈Qa4 D,QX co x.key key<0
 | [],_,_,_,_,x,hx=>(nomatch hx)
 | f::D,d,hC,hL,hs,x,hx=>by
  rw[Qa4]at hs hx;have h1:=List.pairwise_append.1 hs;have hf:=hL f (List.mem_cons_self ..);have hlen:=hC.2.1;rcases List.mem_append.1 hx with hx|hx
  ·exact QiY hC.2.2.2 (λg hg=>hL g (List.mem_cons_of_mem _ hg)) h1.1 x hx
  ·exact Qj2 h1.2.1 om (λj hj=>Qce co key f.es j om) x hx
theorem Qi3{co:Int}{key:List UInt8}{lo hi rt:Nat}:∀{D:List Fr}{d:Nat},Ye lo hi rt d D->QmI co key D->Srt co (QaU D)->∀x∈QaU D,QX co key x.key<0
 | [],_,_,_,_,x,hx=>(nomatch hx)
 | f::D,d,hC,hL,hs,x,hx=>by
  rw[QaU]at hs hx;have h1:=List.pairwise_append.1 hs;have hf:=hL f (List.mem_cons_self ..);rcases List.mem_append.1 hx with hx|hx
  ·rcases Nat.lt_or_ge f.l.length f.es.length with h2|h2
   ·have e:f.es.drop f.l.length=nth f.es f.l.length::f.es.drop (f.l.length+1):=by
     rw[List.drop_eq_getElem_cons h2,show nth f.es f.l.length=f.es[f.l.length]from Q2 (List.getElem?_eq_getElem h2)]
    have hgt:QX co key (nth f.es f.l.length).key<0:=by
     refine Qe4 ?_ λh3=>?_
     ·rw[hf.1]at h2 ⊢;exact QiE co key f.es h2
     ·refine hf.2 ?_;unfold fnd;rw[<-hf.1,decide_eq_true h2,decide_eq_true h3];rfl
    rw[e]at hx h1;cases hr:f.r with
    | nil=>
     rw[hr]at hx;cases hx
    | cons k r=>
     rw[hr]at hx h1;rw[Qag]at hx h1;rcases List.mem_cons.1 hx with rfl|hx
     ·exact hgt
     ·exact YU hgt ((List.pairwise_cons.1 h1.1).1 x hx)
   ·rw[List.drop_of_length_le h2]at hx;cases hx
  ·exact Qi3 hC.2.2.2 (λg hg=>hL g (List.mem_cons_of_mem _ hg)) h1.2.1 x hx
structure Sz(mo rm:Int)(lo hi rt:Nat):Prop where
 emo:mo=(hi:Int)
 erm:rm=(rt:Int)
 elo:lo=hi/2
 hi3:3<=hi
 hi8:hi<=8
 lr:lo<=rt
 rh:rt<=hi
theorem QwP{mo rm:Int}(h:XW mo rm=0):Sz mo rm (mo.toNat/2) mo.toNat rm.toNat:=by
 have h1:=Qas h;constructor<;>omega
structure VT(co:Int)(lo hi rt d:Nat)(T:BT):Prop where
 idx:T.idx=0
 bel:Bel lo hi d T
 root:T.es.length<=rt
 gap:QaI rt T
 srt:Srt co T.flat
 ents:∀x∈T.flat,Yu co x=0
theorem QbV{k:BT}{p:Nat×Nd}:∀{ks:List BT},p∈nodesL ks->∃k∈ks,p∈k.nodes
 | [],h=>by
  rw[nodesL]at h;cases h
 | x::ks,h=>by
  rw[nodesL]at h;rcases List.mem_append.1 h with h|h
  ·exact⟨x,List.mem_cons_self ..,h⟩
  ·obtain⟨k,hk,h2⟩:=QbV (k:=k) h;exact⟨k,List.mem_cons_of_mem _ hk,h2⟩
theorem QjQ{lo hi:Nat}:∀{d:Nat}{T:BT},Bel lo hi d T->∀{n:Nat},hi<=n->T.es.length<=n->∀p∈T.nodes,p.2.es.length<=n+1/\p.2.cs.length<=n+1
 | 0,.nd i es ks,h,n,hn,hl,p,hp=>by
  have e:ks=[]:=h;rw[e,BT.nodes,nodesL]at hp;rcases List.mem_cons.1 hp with rfl|hp
  ·exact⟨Nat.le_succ_of_le hl,by show 0<=_;omega⟩
  ·cases hp
 | d+1,.nd i es ks,h,n,hn,hl,p,hp=>by
  rw[BT.nodes]at hp;have hl':es.length<=n:=hl;have h1:ks.length=es.length+1:=h.1;rcases List.mem_cons.1 hp with rfl|hp
  ·refine⟨Nat.le_succ_of_le hl,?_⟩;show(QP ks).length<=_;rw[QV];omega
  ·obtain⟨k,hk,hp⟩:=QbV (k:=default) hp;have h2:=XI.1 (h.2 k hk);exact QjQ h2.1 hn om p hp
theorem QU.sm{ns:List Nd}{T:BT}{lo hi d n:Nat}(h:QU ns T)(hB:Bel lo hi d T)(hn:hi<=n)(hl:T.es.length<=n):Sm (n+1) ns:=λk=>by
 rcases Nat.lt_or_ge k ns.length with hk|hk
 ·by_cases hm:k∈T.nodes.map Prod.fst
  ·obtain⟨p,hp,rfl⟩:=List.mem_map.1 hm;have h1:=RepN.at_ (i:=p.1) (x:=p.2) h hp;rw[h1.2];exact QjQ hB hn hl p hp
  ·rw[h.rest k hk hm];exact⟨Nat.zero_le _,Nat.zero_le _⟩
 ·rw[Zb hk];exact⟨Nat.zero_le _,Nat.zero_le _⟩
theorem Qpj{ns:List Nd}{T:BT}(h:QU ns T)(h0:T.idx=0):Qav ns=Yf ns:=by
 have hr:=h.root;rw[h0]at hr;unfold Qav Yf;rw[h.frs h0,QcV hr.1 (by rw[hr.2])]
structure RootGrown(mo rm:Int)(lo hi rt m:Nat)(ns:List Nd)(fl:List TEnt):Prop where
 ok:RootOk mo rm ns
 okR:RootROk mo rm ns
 same:Qgs mo rm ns=QbB mo rm ns
 tree:∃T d,QU (QbB mo rm ns) T/\T.idx=0/\Bel lo hi d T/\T.es.length<=rt/\QaI rt T/\T.flat=fl
 len:ns.length<=(QbB mo rm ns).length/\(QbB mo rm ns).length<=ns.length+2
 last:X1 (QbB mo rm ns)
theorem Qoz{mo rm:Int}{lo hi rt d m:Nat}{ns:List Nd}{T:BT}(hz:Sz mo rm lo hi rt)(hR:QU ns T)(h0:T.idx=0)(hB:Bel lo hi d T)(hb:T.es.length<=rt+1)(hg:QaI rt T)(hs:Sm m ns)(hm:1<=m/\m<=880)(hl:ns.length<=880)(hu:X1 ns):RootGrown mo rm lo hi rt m ns T.flat:=by
 cases T with
 | nd i es ks=>
 have hi0:i=0:=h0;subst hi0;have hmo:=hz.emo;have hrm:=hz.erm;have hlo:=hz.elo;have hi3:=hz.hi3;have hi8:=hz.hi8;have hlr:=hz.lr;have hrh:=hz.rh;have hat:0<ns.length/\nth ns 0=⟨true,es,QP ks⟩:=QU.root hR;have hb':es.length<=rt+1:=hb;have hlow:=Qpj hR h0;have hrl:=(Qsa hR).2;have hrl2:QU (Yf ns).2 (plug [⟨0,[],[],[]⟩] (.nd (Q3 ns).1 es ks)):=hrl;have hown:(Yf ns).1<(Yf ns).2.length/\nth (Yf ns).2 (Yf ns).1=⟨true,es,QP ks⟩:=QU.at_ hrl2;have hC:Ye lo hi rt d [⟨0,[],[],[]⟩]:=⟨⟨λk hk=>(nomatch hk),λk hk=>(nomatch hk)⟩,rfl,⟨λ_=>Nat.zero_le _,λh=>absurd rfl h⟩,trivial⟩;have hll:=Qq5 ns;have hsl:Sm 900 (Yf ns).2:=(hs.low hm.1).mono om;have hspl:QD mo<es.length->SpOk mo (Yf ns).2 (Yf ns).1:=λh=>Qq4 hrl2 hC (show Bel lo hi d (.nd (Q3 ns).1 es ks) by cases d<;>exact hB) om om hsl h;have hsplR:SpOk mo (Yf ns).2 (Yf ns).1->SpROk mo (Yf ns).2 0 (Yf ns).1:=λh=>QpQ hrl2 rfl h;have hspE:Qiz mo (Yf ns).2 0 (Yf ns).1=Qb6 mo (Yf ns).2 (Yf ns).1:=QmK (mo:=mo) hrl2 rfl
 have hbig:mo<((nth (Yf ns).2 (Yf ns).1).es.length:Int)->QD mo<es.length:=λh=>by
  rw[hown.2]at h;simp only[]at h;unfold QD;omega
 have hnB:Bel lo hi d (.nd (Q3 ns).1 es ks):=by cases d<;>exact hB
 refine⟨⟨hat.1,om,by rw[hat.2],λ_ h=>hspl (hbig h)⟩,⟨hat.1,om,by rw[hat.2],λ_ h=>by rw[hlow]at h ⊢;exact hsplR (hspl (hbig h))⟩,?_,?_,?_,?_⟩
 ·unfold Qgs QbB;rw[hlow,hspE]
 ·unfold QbB;rw[hat.2,hown.2];simp only[]
  by_cases h1:rm<(es.length:Int)
  ·rw[if_pos h1]
   by_cases h2:mo<(es.length:Int)
   ·rw[if_pos h2];have hsp:=(QbD (mo:=mo) hrl2).2.2;have hE:QD mo<es.length:=by unfold QD;omega
    have hle:es.length=hi+1:=om
    refine⟨_,d+1,hsp,rfl,QhB hmo hlo hC hnB hle,?_,λe=>?_,?_⟩
    ·show(QT ([]:List TEnt) 0 _).length<=rt;rw[Zz (Nat.zero_le _)];simp only[List.length_nil];omega
    ·exfalso;have e2:(QT ([]:List TEnt) 0 (nth es (QD mo))).length=0:=congrArg List.length e;rw[Zz (Nat.zero_le _)]at e2;simp at e2
    ·have hf:=QgF (mo:=mo) (o:=(Q3 (Yf ns).2).1) hC hnB hE;refine hf.trans ?_;show(BT.nd 0 [] [BT.nd (Q3 ns).1 es ks]).flat=_;rw[BT.flat,flatL,flatL,List.append_nil,BT.flat,BT.flat]
   ·rw[if_neg h2];refine⟨_,d+1,hrl,rfl,⟨rfl,λk hk=>?_⟩,Nat.zero_le _,λ_ k hk=>?_,?_⟩
    ·rcases List.mem_singleton.1 hk;exact XI.2 ⟨hnB,by show lo<=es.length/\es.length<=hi;omega⟩
    ·have:BT.nd (Q3 ns).1 es ks=k:=(List.cons.inj hk).1;rw[<-this];show rt<es.length;omega
    ·rw[BT.flat,flatL,flatL,List.append_nil,BT.flat,BT.flat]
  ·rw[if_neg h1];exact⟨_,d,hR,rfl,hB,by show es.length<=rt;omega,hg,rfl⟩
 ·unfold QbB;split
  ·split
   ·have:=Qj6 mo (Yf ns).2 (Yf ns).1;omega
   ·omega
  ·omega
 ·unfold QbB;split
  ·split
   ·exact hu.low.spl _ _
   ·exact hu.low
  ·exact hu
theorem Qiw{co:Int}{lo hi rt d:Nat}{ns:List Nd}{T:BT}(hR:QU ns T)(hV:VT co lo hi rt d T)(key:List UInt8):∃D T' d',plug D T'=T/\Ye lo hi rt d' D/\Bel lo hi d' T'/\((D=[]->T'.es.length<=rt)/\(D≠[]->lo<=T'.es.length/\T'.es.length<=hi))/\d'+D.length=d/\d<ns.length /\
  (Qj co ns key).1=(D.map Fr.i).reverse++[T'.idx]/\(Qj co ns key).2=(plc co T'.es key,fnd co T'.es key)/\(fnd co T'.es key=true\/T'.ks=[])/\QmI co key D:=by
 have h1:=Qf0 hV.bel;have h2:=hR.nlen;obtain⟨D,T',d',e1,e2,e3,e4,e5,e6,e7,e8,e9⟩:=desc (key:=key) (rt:=rt) (co:=co) ns.length d [] T hR trivial hV.bel ⟨λ_=>hV.root,λh=>absurd rfl h⟩ om;rw[hV.idx]at e6 e7;simp only[List.append_nil]at e2 e4;exact⟨D,T',d',e1,e2,e3,e4,e5,om,e6,e7,e8,e9⟩
theorem Qg8(A:List Nat)(i:Nat):QO (A++[i])=i:=by
 unfold QO;rw[List.length_append,List.length_singleton,Nat.add_sub_cancel];exact Qaf A i []
structure Inserted(co mo rm:Int)(lo hi rt:Nat)(ns:List Nd)(x:TEnt)(fl:List TEnt):Prop where
 ok:InsOk co mo rm ns x
 okR:InsROk co mo rm ns x
 same:Qtg co mo rm ns x=QaQ co mo rm ns x
 tree:∃T d,QU (QaQ co mo rm ns x) T/\VT co lo hi rt d T/\T.flat=QT fl (plc co fl x.key) x
 len:ns.length<=(QaQ co mo rm ns x).length/\(QaQ co mo rm ns x).length<=2*ns.length+2
 last:X1 (QaQ co mo rm ns x)
theorem Qik:∀(es:List TEnt)(ks:List BT),es.Sublist (flatL es ks)
 | es,[]=>by rw[Q5];exact List.Sublist.refl _
 | [],k::ks=>List.nil_sublist _
 | e::es,k::ks=>by
  rw[flatL];exact((Qik es ks).cons_cons e).trans (List.sublist_append_right _ _)
theorem Qrd{co:Int}{lo hi rt d:Nat}{ns:List Nd}{T:BT}(hR:QU ns T)(hV:VT co lo hi rt d T)(key:List UInt8):(Qj co ns key).2.2=true ↔ Qle co T.flat key:=by
 obtain⟨D,T',d',e1,e2,e3,e4,e5,e6,e7,e8,e9,e10⟩:=Qiw hR hV key;have hfl:T.flat=Qa4 D++(T'.flat++QaU D):=by rw[<-e1];exact Yx e2
 have hs:=hV.srt;rw[hfl]at hs;have h1:=List.pairwise_append.1 hs;have h2:=List.pairwise_append.1 h1.2.1;rw[e8,hfl];simp only[];cases T' with
 | nd i es ks=>
 constructor
 ·intro h;have hsub:=Qik es ks;have hses:Srt co es:=h2.1.sublist (by rw[BT.flat];exact hsub);obtain⟨y,hy,hc⟩:=(Qgf hses).2 h;exact⟨y,List.mem_append_right _ (List.mem_append_left _ (by rw[BT.flat];exact hsub.subset hy)),hc⟩
 ·intro h;rcases e9 with h9|h9
  ·exact h9
  ·have hk:ks=[]:=h9;subst hk;obtain⟨y,hy,hc⟩:=h;rw[QaF]at hy h2;refine(Qgf (show Srt co es from h2.1)).1 ?_;rcases List.mem_append.1 hy with hy|hy
   ·have:=QiY e2 e10 h1.1 y hy;omega
   ·rcases List.mem_append.1 hy with hy|hy
    ·exact⟨y,hy,hc⟩
    ·have:=Qi3 e2 e10 h2.2.1 y hy;have:=QdC co y.key key;omega
theorem Qmi{co mo rm:Int}{lo hi rt d:Nat}{ns:List Nd}{T:BT}{x:TEnt}(hz:Sz mo rm lo hi rt)(hR:QU ns T)(hV:VT co lo hi rt d T)(hl:ns.length<=400)(hu:X1 ns)(hx:Yu co x=0)(hnf:¬(Qj co ns x.key).2.2=true):Inserted co mo rm lo hi rt ns x T.flat:=by
 have hnk:¬Qle co T.flat x.key:=λh=>hnf ((Qrd hR hV x.key).2 h);have hsmT:=hR.sm hV.bel (Nat.le_refl hi) (Nat.le_trans hV.root hz.rh);obtain⟨D,T',d',e1,e2,e3,e4,e5,e6,e7,e8,e9,e10⟩:=Qiw hR hV x.key;rw[e8]at hnf;have hks:T'.ks=[]:=e9.resolve_left hnf;cases T' with
 | nd i es ks=>
 have hk0:ks=[]:=hks;subst hk0;have hi8:=hz.hi8;have hi3:=hz.hi3;have hrh:=hz.rh;have hR1:QU ns (plug D (.nd i es [])):=by rw[e1];exact hR
 have hat:i<ns.length/\nth ns i=⟨true,es,[]⟩:=QU.at_ hR1;have hfl:T.flat=Qa4 D++(es++QaU D):=by rw[<-e1,Yx e2,QaF]
 have hsr:=hV.srt;rw[hfl]at hsr;have hs1:=List.pairwise_append.1 hsr;have hs2:=List.pairwise_append.1 hs1.2.1;have hple:=Qbm co x.key es
 have hb4:es.length<=hi:=by
  by_cases hD:D=[]
  ·have:es.length<=rt:=e4.1 hD;omega
  ·exact(e4.2 hD).2
 have hlf:QO (Qj co ns x.key).1=i:=by rw[e7];exact Qg8 _ _
 have hlf2:Zv co ns x.key=i:=hlf;have hpl:(Qj co ns x.key).2.1=plc co es x.key:=by rw[e8];rfl
 have hinsB:Qic co ns x=esN ns i (QT es (plc co es x.key) x):=by
  unfold Qic;rw[hlf2,hpl,hat.2]
 have hPl:(Qj co ns x.key).1.length=D.length+1:=by rw[e7];simp
 have hPr:(Qj co ns x.key).1.reverse=i::D.map Fr.i:=by
  rw[e7];simp;rfl
 have hidx:(plug D (.nd i (QT es (plc co es x.key) x) [])).idx=0:=by
  rw[Qam D (.nd i (QT es (plc co es x.key) x) []) (.nd i es []) rfl,e1];exact hV.idx
 have hgc:Qea rt D es.length:=QfI (T:=.nd i es []) e2 (by rw[e1];exact hV.gap);have hil:(QT es (plc co es x.key) x).length=es.length+1:=Zz hple
 have hG:=QiP (lo:=lo) (hi:=hi) (rt:=rt) hz.emo hz.elo om hz.rh (Qj co ns x.key).1 D d' (hi+2) (esN ns i (QT es (plc co es x.key) x)) (.nd i (QT es (plc co es x.key) x) []) (QiZ hR1 _) hidx e2 (show Bel lo hi d' (.nd i _ []) by
   have:=e3.leaf rfl;subst this
   rfl) ⟨λh=>by show(QT es _ x).length<=_;rw[hil];have:=e4.1 h;exact Nat.succ_le_succ this,λh=>by show lo<=(QT es _ x).length/\(QT es _ x).length<=_;rw[hil];have h9:=e4.2 h;exact⟨Nat.le_succ_of_le h9.1,Nat.succ_le_succ h9.2⟩⟩ (hgc.mono (by show es.length<=(QT es _ x).length;omega)) (λ_ e=>by
    intro k hk;cases hk) ((hsmT.mono om).es i (by rw[hil];omega)) om (by rw[YF];omega) (hu.es _ _) (by
    show(Qj co ns x.key).1.take (D.length+1)=(i::D.map Fr.i).reverse;rw[<-hPl,List.take_length,<-hPr,List.reverse_reverse])
 have hfl2:(plug D (.nd i (QT es (plc co es x.key) x) [])).flat=QT T.flat (plc co T.flat x.key) x:=by
  rw[Yx e2,QaF,hfl,Qez (QiY e2 e10 hs1.1),QgO (Qi3 e2 e10 hs2.2.1),QoC hple]
 rw[hfl2]at hG;have hsrt:=Qmj (x:=x) hV.srt hnk;obtain⟨T1,d1,g1,g2,g3,g4,g5,g6⟩:=hG.tree;have hglen:=hG.len;rw[YF]at hglen;have hRt:=Qoz hz g1 g2 g3 g4 g5 hG.sm om om hG.last;rw[g6]at hRt
 have hiT:QaQ co mo rm ns x=QbB mo rm (Yq mo (esN ns i (QT es (plc co es x.key) x)) (i::D.map Fr.i)):=by
  unfold QaQ;rw[if_neg (by rw[e8];exact hnf),hinsB,hPr];rfl
 have hesR:esN ns (QO (Qj co ns x.key).1) (QT (nth ns (QO (Qj co ns x.key).1)).es (plc co (nth ns (QO (Qj co ns x.key).1)).es x.key) x)=esN ns i (QT es (plc co es x.key) x):=by
  rw[hlf,hat.2]
 have hsub:(Qj co ns x.key).1.length-1=D.length:=om
 refine⟨⟨om,om,by rw[hlf2];exact hat.1,by rw[hlf2,hat.2];show es.length<=900;omega,by rw[hlf2,hat.2,hpl];exact hple,by rw[hinsB,hPr];exact hG.ok,by rw[hinsB,hPr];exact hRt.ok⟩,⟨om,om,by rw[hlf];exact hat.1,by rw[hesR,hsub];exact hG.okR,by rw[hesR,hsub,hG.same];exact hRt.okR⟩,?_,?_,?_,?_⟩
 ·unfold Qtg;simp only[];rw[hesR,hsub,hG.same,hiT];exact hRt.same
 ·rw[hiT];obtain⟨T2,d2,t1,t2,t3,t4,t5,t6⟩:=hRt.tree;refine⟨T2,d2,t1,⟨t2,t3,t4,t5,by rw[t6];exact hsrt,λy hy=>?_⟩,t6⟩;rw[t6]at hy;unfold QT at hy;rcases List.mem_append.1 hy with hy|hy
  ·exact hV.ents y (List.mem_of_mem_take hy)
  ·rcases List.mem_cons.1 hy with rfl|hy
   ·exact hx
   ·exact hV.ents y (List.mem_of_mem_drop hy)
 ·rw[hiT];have h9:ns.length<=(Yq mo (esN ns i (QT es (plc co es x.key) x)) (i::D.map Fr.i)).length/\(Yq mo (esN ns i (QT es (plc co es x.key) x)) (i::D.map Fr.i)).length<=ns.length+D.length:=hglen;have h8:=hRt.len;simp only[BT.idx]at h8;omega
 ·rw[hiT];exact hRt.last
end Gx
namespace Go.Proofs
open Go Go.RowKit Gx
attribute [local irreducible] Go.Calls Gx.S Gx.O Gx.D Gx.OpP Gx.OpQ Gx.OpH
set_option maxRecDepth 20000
theorem c262(w:World)(n:LNd):CR 262 #[.agg #[.bool n.us,.slice n.ea n.es.length n.ec,.slice n.ca n.cs.length n.cc]] w (.bool (!n.us)):=by
 refine eN1 Tryz.func262 Tryz.ntmps262 ?_
 refine aU2 ?_
 refine oBx λb1 _=>?_
 refine aU9 ?_
 exact rV
theorem c248(w:World)(bt:Nat)(j:Nat)(mo rm:Int)(gn cap:Nat)(L:List LNd)(hw:HS w (fps [.blk bt 166 6 (tbV (j:Int) mo rm (some ⟨gn,0,none⟩) (L).length cap),.blk gn 69 (cap*3) ((L).flatMap LNd.vals),.star ((L).map (Qs 27))]) [.blk bt 166 6 (tbV (j:Int) mo rm (some ⟨gn,0,none⟩) (L).length cap),.blk gn 69 (cap*3) ((L).flatMap LNd.vals),.star ((L).map (Qs 27))] w)(hnc:L.length<=cap)(hcm:cap<=maxLen)(h0:0<L.length)(hl:L.length<=1000):CE 248 #[.pointer (some ⟨bt,0,none⟩)] w (fps [.blk bt 166 6 (tbV (j:Int) mo rm (some ⟨gn,0,none⟩) (L).length cap),.blk gn 69 (cap*3) ((L).flatMap LNd.vals),.star ((L).map (Qs 27))]) (λg:(Nat×Nat)×List LNd=>.int .i64 ((Q3 (pln L)).1:Int)) (λg=>(pln g.2=(Q3 (pln L)).2/\g.2.length<=g.1.2/\g.1.2<=maxLen)) λg=>[.blk bt 166 6 (tbV (j:Int) mo rm (some ⟨g.1.1,0,none⟩) (g.2).length g.1.2),.blk g.1.1 69 (g.1.2*3) ((g.2).flatMap LNd.vals),.star ((g.2).map (Qs 27))]:=by
 have hixe:ixB (L.map λn=>!n.us)=X7 (pln L):=by unfold X7;rw[List.map_map];rfl
 have hnl:(pln L).length=L.length:=Qb L
 refine eW1 Tryz.func248 Tryz.ntmps248 hw ?_
 refine Zl ?_
 refine oCq rfl (λw1 h1=>c201 w1 (some ⟨gn,0,none⟩) cap L 262 #[] (L.map λn=>!n.us) (h1.rw_blk nv3 aPk) om (by kernel_rfl) (by simp) (λk w2 hk h2=>by rw[Zh (d:=default) hk];exact c262 w2 (nth L k))) (aU8 ?_)
 refine XY (α:=(Nat×Nat)×List LNd) [3,12,13,14,15,16,17,18,19,20,21,22,23,24,25,26,27,28,29] (λx=>[(3,.int .i64 ((X7 (pln L)):Int))]) (λx=>HS w (fps [.blk bt 166 6 (tbV (j:Int) mo rm (some ⟨gn,0,none⟩) (L).length cap),.blk gn 69 (cap*3) ((L).flatMap LNd.vals),.star ((L).map (Qs 27))]) [.blk bt 166 6 (tbV (j:Int) mo rm (some ⟨x.1.1,0,none⟩) (x.2).length x.1.2),.blk x.1.1 69 (x.1.2*3) ((x.2).flatMap LNd.vals),.star ((x.2).map (Qs 27))]) (λx=>(X7 (pln L))<x.2.length/\x.2.length<=x.1.2/\x.1.2<=maxLen/\usN (pln x.2) (X7 (pln L)) true=(Q3 (pln L)).2/\x.2.length<=1001) ?_ ?_
 ·skip
  refine sCd rfl (λh1=>?_) λh1=>?_
  ·have hz:¬X7 (pln L)<L.length:=by have hq:=h1;unfold ixI at hq;rw[hixe,List.length_map]at hq;intro h9;rw[if_pos h9]at hq;omega
   have hz1:X7 (pln L)=L.length:=by have h9:=Qlo (L.map λn=>!n.us);rw[hixe,List.length_map]at h9;omega
   refine XG (λw h=>(HS.own_shut (n:=L.length) (h.ent (Bs:=[.blk gn 69 (cap*3) (L.flatMap LNd.vals),.star (L.map (Qs 27)),.blk bt 166 6 (tbV (j:Int) mo rm (some ⟨gn,0,none⟩) L.length cap)]) aEt) (Qi nv3 L) hnc hcm)) (aU17 ?_)
   refine o_p (QF (cs:=[_,_,_]) rfl rfl QbP Xj rfl) rfl (o_h (Qe (cs:=[_,_,_]) rfl rfl Qw Xj rfl rfl rfl) rfl (λb2 _=>?_))
   refine o_h (QL [_,_,_] rfl rfl rfl Qw Tryz.underlying35 Xj rfl aPk (Xb aPk) rfl (by intro u hu;simp only[List.mem_cons,List.mem_nil_iff,or_false]at hu;rcases hu with rfl|rfl|rfl<;>rfl) om (by simp only[maxLen];omega)) rfl (λb3 _=>Xm (λw h=>Qf7 (n:=L.length+1) om h aPk) (λhgn=>?_))
   obtain⟨⟨ga,gc⟩,hga⟩:∃q:Option Addr×Nat,b3=q:=⟨_,rfl⟩
   subst hga
   obtain⟨g9,e9,hn9,hm9⟩:=hgn
   simp only[]at e9 hn9 hm9
   subst e9
   refine QQ (λw h=>HS.own_at h aPk) (aU3 ?_)
   refine ZV (Xo rfl rfl rfl Yl rfl aPt (by show 4<=6;omega) rfl) (λ_ _=>aU ?_)
   exact Qo ((g9,gc),L++[⟨false,none,0,[],none,0,[]⟩]) ⟨by simp only[List.length_append,List.length_singleton];omega,by simp only[List.length_append,List.length_singleton];exact hn9,hm9,by unfold Q3 usN;rw[if_neg (by rw[hnl];exact hz),hz1,Qcd,List.set_append_right _ _ (by rw[Qb];omega),Qb,Nat.sub_self];simp only[];congr 1;show[_]=[_];congr 1;rw[show nth (pln L++pln [(⟨false,none,0,[],none,0,[]⟩:LNd)]) L.length=⟨false,[],[]⟩from Q2 (by rw[List.getElem?_append_right (by rw[Qb];omega),Qb,Nat.sub_self];rfl)],by simp only[List.length_append,List.length_singleton];omega⟩ (by rw[hz1];exact aSx) (λw h=>by have h2:=HS.sub_app (sub:=Qs 27) (l:=L) (x:=(⟨false,none,0,[],none,0,[]⟩:LNd)) (HS.star_close (Bs:=[_,_]) (((h.ent (Bs:=[.star (L.map (Qs 27)),.blk bt 166 6 (tbV (j:Int) mo rm (some ⟨g9,0,none⟩) (L.length+1) gc),.blk g9 69 (gc*3) (L.flatMap LNd.vals++[.bool false,.slice none 0 0,.slice none 0 0])]) aEt).own_nil 3 1).own_nil 27 2));have e8:(L++[(⟨false,none,0,[],none,0,[]⟩:LNd)]).flatMap LNd.vals=L.flatMap LNd.vals++[.bool false,.slice none 0 0,.slice none 0 0]:=(by rw[List.flatMap_append];rfl);have e7:(L++[(⟨false,none,0,[],none,0,[]⟩:LNd)]).length=L.length+1:=(by simp);dsimp only;rw[e8,e7];exact h2.ent aEt)
  have hz:X7 (pln L)<L.length:=by have hq:=h1;unfold ixI at hq;rw[hixe,List.length_map]at hq;split at hq<;>first|assumption|omega
  have hz2:ixI (L.map λn=>!n.us)=(X7 (pln L):Int):=by unfold ixI;rw[hixe,List.length_map,if_pos hz]
  refine aU ?_
  exact Qo ((gn,cap),L) ⟨hz,hnc,hcm,by unfold Q3;rw[if_pos (by rw[hnl];exact hz)],by show L.length<=1001;omega⟩ (by rw[hz2];exact aSx) (λw h=>h.ent aEt)
 intro⟨⟨gn1,cap1⟩,L1⟩ hx
 dsimp only
 obtain⟨hx1,hx2,hx3,hx4,hx5⟩:=hx
 simp only[]at hx1 hx2 hx3 hx4 hx5
 refine aU8 ?_
 refine o_p (Qa rfl rfl rfl Qw ((X7 (pln L))) om om rfl) rfl (aU ?_)
 refine ZV (Xo rfl rfl rfl Qcy rfl aPt (by rw[Qi nv3];show _+1<=_;omega) rfl) (λ_ _=>aU6 ?_)
 exact rT rfl rfl (λw' h'=>⟨((gn1,cap1),L1.set (X7 (pln L)) {nth L1 (X7 (pln L))with us:=true}),by unfold Q3;split<;>first|rfl|(have hq9:=Qlo (L.map λn=>!n.us);rw[hixe,List.length_map]at hq9;simp only[Xf];congr 2;rw[hnl]at *;congr 1;omega),⟨by rw[Qu4 hx1];exact hx4,by simp only[List.length_set];exact hx2,hx3⟩,by have h2:=h'.ent (Bs:=[.blk bt 166 6 (tbV (j:Int) mo rm (some ⟨gn1,0,none⟩) L1.length cap1),.blk gn1 69 (cap1*3) (Qu (L1.flatMap LNd.vals) (0+(X7 (pln L))*3+0) [.bool true]),.star (L1.map (Qs 27))]) aEt;rw[QrC hx1]at h2;simp only[List.length_set];rw[QsV hx1];exact h2.ent aEt⟩)
theorem c218(w:World)(bt:Nat)(j:Nat)(mo rm:Int)(a:Option Addr)(cap:Nat)(L:List LNd)(i:Int)(ht:TbR w [] bt (j:Int) mo rm a L.length cap)(hs:Nt w [] a L)(hl:L.length<=100000)(hcl:∀k,k<L.length->(nth L k).cs.length<=100000):CR 218 #[.pointer (some ⟨bt,0,none⟩),.int .i64 i] w (.tuple #[.int .i64 ((Xz i (pln L) 0).1:Int),.int .i64 ((Xz i (pln L) 0).2:Int)]):=by
 refine eN2 Tryz.func218 Tryz.ntmps218 ?_
 refine Zx ?_
 refine o_q (Qc rfl rfl Yl (ht 3 _ rfl)) rfl (aU4 ?_)
 refine Qx (α:=Nat) [4,5,6,7,8,15,16,17,18,19,20,21,22,23,24,25,26,27,28] (λk=>[(15,.int .i64 (k:Int))]) (λ_=>HS w [] []) (λk=>k<=L.length/\(Xz i (pln L) 0)=Xz i ((pln L).drop k) k) (λk=>L.length-k) 0 ⟨Nat.zero_le _,rfl⟩ aSx (λw h=>h.ent aEt) (λk hx=>?_)
 obtain⟨hk1,hk2⟩:=hx
 refine aU5 ?_
 refine sCd rfl (λh1=>?_) λh1=>?_
 ·have hkl:k<L.length:=by omega
  have hst:=QnT (i:=i) (ns:=pln L) (k:=k) (by rw[Qb];exact hkl)
  rw[Ql hkl]at hst
  simp only[LNd.pl]at hst
  refine aU6 ?_
  refine o_p (Qa rfl rfl rfl Qw (k) om om (Rw.some hs.1 om)) rfl (o_q (QB _ rfl rfl Xs rfl (Rw.rd hs.1 hkl)) rfl (oAl (λb2 _=>?_) Xj))
  refine aU8 ?_
  refine oCq rfl (λw1 h1=>c128 w1 (nth L k).ca (nth L k).cc (nth L k).cs i ((hs.cs hkl).later h1) (hcl k hkl)) (aU7 ?_)
  refine sCd rfl (λh3=>?_) λh3=>?_
  ·have hz:ixB (Z4 (nth L k).cs i)<(nth L k).cs.length:=by have hq:=h3;unfold ixI at hq;rw[YX]at hq;split at hq<;>first|assumption|omega
   have hz3:(Xz i (pln L) 0)=(k,ixB (Z4 (nth L k).cs i)):=(hk2.trans hst).trans (if_pos hz)
   have hz2:ixI (Z4 (nth L k).cs i)=(ixB (Z4 (nth L k).cs i):Int):=by unfold ixI;rw[YX,if_pos hz]
   refine aU7 ?_
   exact Qk (rs:=[.tmp 4,.tmp 5]) rfl (.tmp rfl (.tmp rfl (.nil))) (λw' h'=>⟨by rw[hz3,hz2];rfl,h'.below⟩)
  have hz:¬ixB (Z4 (nth L k).cs i)<(nth L k).cs.length:=by have hq:=h3;unfold ixI at hq;rw[YX]at hq;intro h9;rw[if_pos h9]at hq;omega
  refine aT4 ?_
  refine aU2 ?_
  exact sBk (k+1) om ⟨om,(hk2.trans hst).trans (if_neg hz)⟩
 have hz:(Xz i (pln L) 0)=(0,0):=by rw[hk2,List.drop_of_length_le (by rw[Qb];omega)];rfl
 refine Qn rfl ?_
 refine aU5 ?_
 exact Qk (rs:=[.tmp 4,.tmp 5]) rfl (.tmp rfl (.tmp rfl (.nil))) (λw' h'=>⟨by rw[hz];rfl,h'.below⟩)
end Go.Proofs
