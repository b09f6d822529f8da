/- Contracts of the program's functions, proved by walking them with the rules of the Gx texts; without conditions beyond those that each contract names. -/
import Derived.WalkKit
import Derived.Deep.Draws
import Derived.TacticsIn
import Derived.OrdersIn
import Derived.RangeFuncLeaves
import Derived.Lib.Strings
import Derived.Laws.BytesArg
import Derived.Laws.IdiomStrings
import Derived.Deep.Quiet
import Derived.ProofKit
import Derived.OpenShut
import Derived.Laws.StructEq
import Derived.ChangeKeysEq
import Derived.Laws.Externs
import Derived.Lib.Overlaps
import Derived.Carry
import Derived.Laws.Small
import Derived.Lib.Bytealg
import Derived.Lib.Builder
import Derived.Laws.Pointers
import Derived.RangeFuncRecord
import Derived.Test.YtpkhkcchibbhmaaGreatDoorProg
import Derived.KernelRfl
import Derived.Test.YtpkhkcchibbhmaaGreatDoorTie
import Derived.Test.YtpkhkcchibbhmaaGreatDoorCards
import Derived.SevenTiedAt
import Derived.LaidMore
import Derived.Lay
import Derived.Stop.Joined
import Derived.Test.YtpkhkcchibbhmaaGreatDoorP1
set_option linter.unusedSimpArgs false
set_option maxHeartbeats 1000000
set_option linter.unusedVariables false
set_option linter.unusedSectionVars false
set_option linter.unnecessarySimpa false
namespace Gx
open Go Go.RowKit
def StK(w:World)(p:Option Addr)(n:Nat)(o:Option (List UInt8)):Prop:=match o with
 | none=>n=0
 | some k=>n=1/\∃b off,p=some ⟨b,off,none⟩/\Rd w [] b off (.string (bs k))
theorem StK.later{w w':World}{As:List HA}{p:Option Addr}{n:Nat}{o:Option (List UInt8)}(h:StK w p n o)(hs:HS w [] As w'):StK w' p n o:=by
 cases o with
 | none=>exact h
 | some k=>
  obtain⟨h1,b,off,h2,h3⟩:=h;exact⟨h1,b,off,h2,h3.next hs⟩
theorem StK.of_pos{w:World}{p:Option Addr}{n:Nat}{o:Option (List UInt8)}(h:StK w p n o)(hn:0<n):∃k b off,o=some k/\n=1/\p=some ⟨b,off,none⟩/\Rd w [] b off (.string (bs k)):=by
 cases o with
 | none=>
  have:n=0:=h;omega
 | some k=>
  obtain⟨h1,b,off,h2,h3⟩:=h;exact⟨k,b,off,rfl,h1,h2,h3⟩
theorem StK.of_no{w:World}{p:Option Addr}{n:Nat}{o:Option (List UInt8)}(h:StK w p n o)(hn:¬0<n):o=none:=by
 cases o with
 | none=>rfl
 | some k=>
  obtain⟨h1,_⟩:=h;omega
theorem StK.new{w:World}{b:Nat}{k:List UInt8}(h:Rd w [] b 0 (.string (bs k))):StK w (some ⟨b,0,none⟩) 1 (some k):=⟨rfl,b,0,rfl,h⟩
theorem QfP{es:List TEnt}{k:Nat}{lo:Option (List UInt8)}(h:0<k):loK es k lo=some (nth es (k-1)).key:=if_pos h
theorem QiW{es:List TEnt}{k:Nat}{lo:Option (List UInt8)}(h:¬0<k):loK es k lo=lo:=if_neg h
theorem QfY{es:List TEnt}{k:Nat}{hi:Option (List UInt8)}(h:k<es.length):hiK es k hi=some (nth es k).key:=if_pos h
theorem QiA{es:List TEnt}{k:Nat}{hi:Option (List UInt8)}(h:¬k<es.length):hiK es k hi=hi:=if_neg h
theorem Yc{t:Tre}{deep:Int}:∀(A B:List Vis),X7 t deep (A++B)=if(X7 t deep A).2=0 then X7 t deep B else X7 t deep A
 | [],B=>rfl
 | v::A,B=>by
  rw[List.cons_append,X7,X7]
  by_cases h:QdX t deep v=0
  ·rw[if_pos h,if_pos h];exact Yc A B
  ·rw[if_neg h,if_neg h,if_neg h]
theorem Qtt{t:Tre}{v:Vis}{N R:Nd}(hN:nth t.ns v.i=N)(hR:nth t.ns 0=R)(h1:R.cs.length=0\/R.cs.length=R.es.length+1)(h2:∀c∈R.cs,1<=c):Qaf t v=true ↔ (v.i≠0/\(N.es.length:Int)<t.mo/2)\/(((R.es.length=0/\R.cs.length=1)/\R.cs.getD 0 0=(v.i:Int))/\(N.es.length:Int)<=t.rm):=by
 subst hN hR;unfold Qaf;simp only[Bool.and_eq_true,Bool.or_eq_true,decide_eq_true_eq];constructor
 ·rintro⟨h3,h4|⟨⟨h4,h5⟩,h6⟩⟩
  ·exact .inl ⟨om,h4⟩
  ·refine .inr ⟨⟨⟨h4,?_⟩,?_⟩,h6⟩
   ·rcases h1 with h1|h1
    ·rw[List.eq_nil_of_length_eq_zero h1]at h5;cases h5
    ·omega
   ·have hl:(nth t.ns 0).cs.length=1:=by
     rcases h1 with h1|h1
     ·rw[List.eq_nil_of_length_eq_zero h1]at h5;cases h5
     ·omega
    obtain⟨c,hc⟩:=List.length_eq_one_iff.1 hl;rw[hc]at h5 ⊢;exact(List.mem_singleton.1 h5).symm
 ·rintro(⟨h3,h4⟩|⟨⟨⟨h4,h5⟩,h6⟩,h7⟩)
  ·exact⟨om,.inl h4⟩
  ·obtain⟨c,hc⟩:=List.length_eq_one_iff.1 h5;have h8:=h2 c (by rw[hc];exact List.mem_singleton.2 rfl);rw[hc]at h6 ⊢;have h9:c=(v.i:Int):=h6;exact⟨om,.inr ⟨⟨h4,List.mem_singleton.2 h9.symm⟩,h7⟩⟩
theorem Qj7{t:Tre}{deep:Int}{v:Vis}(h:Qaf t v=true):QdX t deep v=14:=by rw[QcZ,if_pos h]
theorem Qpz{t:Tre}{deep:Int}{v:Vis}(h:¬Qaf t v=true)(h2:ZC t v=true):QdX t deep v=9:=by rw[QcZ,if_neg h,if_pos h2]
theorem QtL{t:Tre}{deep:Int}{v:Vis}(h:¬Qaf t v=true)(h2:¬ZC t v=true)(h3:(nth t.ns v.i).cs.length=0/\v.d≠deep+1):QdX t deep v=22:=by rw[QcZ,if_neg h,if_neg h2,if_pos h3]
theorem Qs2{t:Tre}{deep:Int}{v:Vis}(h:¬Qaf t v=true)(h2:¬ZC t v=true)(h3:¬((nth t.ns v.i).cs.length=0/\v.d≠deep+1)):QdX t deep v=0:=by rw[QcZ,if_neg h,if_neg h2,if_neg h3]
theorem Qq5{t:Tre}{v:Vis}{N:Nd}{k:Nat}(hN:nth t.ns v.i=N)(hk:k<N.es.length)(h:QaB t v (nth N.es k)=true):ZC t v=true:=by
 subst hN;exact List.any_eq_true.2 ⟨_,Qy hk,h⟩
theorem Qt1{t:Tre}{v:Vis}{N:Nd}(hN:nth t.ns v.i=N)(h:∀q,q<N.es.length->¬QaB t v (nth N.es q)=true):¬ZC t v=true:=λh2=>by
 subst hN;obtain⟨x,hx,h3⟩:=List.any_eq_true.1 h2;obtain⟨q,hq,e⟩:=List.getElem_of_mem hx;have e2:nth (nth t.ns v.i).es q=x:=YW (by rw[List.getElem?_eq_getElem hq,e]);exact h q hq (by rw[e2];exact h3)
theorem Qeb{t:Tre}{v:Vis}{x:TEnt}:QaB t v x=true ↔ (∃b,v.lo=some b/\0<=Xt t.co b x.key)\/(∃b,v.hi=some b/\0<=Xt t.co x.key b):=by
 unfold QaB;cases v.lo<;>cases v.hi<;>simp
section
variable{t:Tre}{v:Vis}{x:TEnt}{kl kh:List UInt8}
theorem Qw5(h1:v.lo=some kl)(h:0<=Xt t.co kl x.key):(true=true ↔ QaB t v x=true):=⟨λ_=>Qeb.2 (.inl ⟨kl,h1,h⟩),λ_=>rfl⟩
theorem Qw3(h1:v.lo=some kl)(h:¬0<=Xt t.co kl x.key)(h2:v.hi=some kh):(decide (Xt t.co x.key kh>=0)=true ↔ QaB t v x=true):=by
 rw[decide_eq_true_eq,Qeb,h1,h2];constructor
 ·exactλh9=>.inr ⟨kh,rfl,h9⟩
 ·rintro(⟨b,hb,h9⟩|⟨b,hb,h9⟩)
  ·cases hb;exact absurd h9 h
  ·cases hb;exact h9
theorem QwG(h1:v.lo=some kl)(h:¬0<=Xt t.co kl x.key)(h2:v.hi=none):(false=true ↔ QaB t v x=true):=by
 rw[Qeb,h1,h2];constructor
 ·exactλh9=>(nomatch h9)
 ·rintro(⟨b,hb,h9⟩|⟨b,hb,h9⟩)
  ·cases hb;exact absurd h9 h
  ·cases hb
theorem Qw0(h1:v.lo=none)(h2:v.hi=some kh):(decide (Xt t.co x.key kh>=0)=true ↔ QaB t v x=true):=by
 rw[decide_eq_true_eq,Qeb,h1,h2];constructor
 ·exactλh9=>.inr ⟨kh,rfl,h9⟩
 ·rintro(⟨b,hb,h9⟩|⟨b,hb,h9⟩)
  ·cases hb
  ·cases hb;exact h9
theorem QwZ(h1:v.lo=none)(h2:v.hi=none):(false=true ↔ QaB t v x=true):=by
 rw[Qeb,h1,h2];constructor
 ·exactλh9=>(nomatch h9)
 ·rintro(⟨b,hb,h9⟩|⟨b,hb,h9⟩)<;>cases hb
end
theorem QeH{t:Tre}{deep:Int}{f:Nat}{v:Vis}(h:¬QdX t deep v=0):X7 t deep (vis t.ns (f+1) v)=((v.i:Int),QdX t deep v):=by
 rw[vis,X7,if_neg h]
theorem Qwn{t:Tre}{deep:Int}{f:Nat}{v:Vis}(h:QdX t deep v=0):(X7 t deep (Qbq t.ns f v 0)).2=0:=by
 rw[QlL,X7,if_pos h];rfl
end Gx
namespace Go.Proofs
open Go Go.RowKit Gx
attribute [local irreducible] Go.Calls Gx.S Gx.O Gx.D Gx.OpP Gx.OpQ Gx.OpH
set_option maxRecDepth 20000
theorem Qe6:tsl Tryz.prog 241=some (9,1,16):=by kernel_rfl
theorem Qu8:QS Tryz.prog 9=some [.string (bs [])]:=by kernel_rfl
theorem QgG:QK Tryz.prog 138=true:=by kernel_rfl
instance:TFn Tryz.prog 138:=⟨QgG⟩
def PlC(j:Nat)(mo rm:Int)(a:Option Addr)(cap:Nat)(L:List LNd)(deep:Int)(f:Nat):Prop:=∀(w:World)(v:Vis)(P:List Nat)(lv:Int)(pa qa:Option Addr)(pn pc qn qc:Nat),(Nt w [] a L)->(j<=3)->((0<=mo/\mo<=1000)/\(0<=deep/\deep<=1000))->(TOk (j:Int) (pln L))->(Bd (pln L))->(0<L.length)->(Gx.Way (pln L) (v.i::P))->(v.d=(P.length:Int)+1)->(lv=deep+1-v.d)->(KOk (j:Int) v.lo)->(KOk (j:Int) v.hi)->(StK w pa pn v.lo)->(StK w qa qn v.hi)->P.length+f=L.length->Calls Tryz.prog 138 #[.agg #[.int .i64 (j:Int),.int .i64 mo,.int .i64 rm,.slice a L.length cap],.int .i64 (v.i:Int),.int .i64 lv,.slice pa pn pc,.slice qa qn qc] w λen w'=>en=.returned (.tuple #[.int .i64 (X7 (⟨(j:Int),mo,rm,pln L⟩:Tre) deep (vis (pln L) f v)).1,.int .i64 (X7 (⟨(j:Int),mo,rm,pln L⟩:Tre) deep (vis (pln L) f v)).2])/\Below w.heap.size w w'
theorem Qw1(w:World)(j:Nat)(mo rm:Int)(a:Option Addr)(cap:Nat)(L:List LNd)(deep:Int)(v:Vis)(P:List Nat)(lv:Int)(pa qa:Option Addr)(pn pc qn qc:Nat)(f:Nat)(hs:Nt w [] a L)(hj:j<=3)(hmo:(0<=mo/\mo<=1000)/\(0<=deep/\deep<=1000))(hT:TOk (j:Int) (pln L))(hB:Bd (pln L))(h0:0<L.length)(hway:Gx.Way (pln L) (v.i::P))(hd:v.d=(P.length:Int)+1)(hlv:lv=deep+1-v.d)(hko:KOk (j:Int) v.lo)(hkp:KOk (j:Int) v.hi)(hlo:StK w pa pn v.lo)(hhi:StK w qa qn v.hi)(hf:P.length+(f+1)=L.length)(ih:PlC j mo rm a cap L deep f):CR 138 #[.agg #[.int .i64 (j:Int),.int .i64 mo,.int .i64 rm,.slice a L.length cap],.int .i64 (v.i:Int),.int .i64 lv,.slice pa pn pc,.slice qa qn qc] w (.tuple #[.int .i64 (X7 (⟨(j:Int),mo,rm,pln L⟩:Tre) deep (vis (pln L) (f+1) v)).1,.int .i64 (X7 (⟨(j:Int),mo,rm,pln L⟩:Tre) deep (vis (pln L) (f+1) v)).2]):=by
 have hi0:=QdC hT (by rw[Qe];exact h0) hway v.i (List.mem_cons_self ..)
 have hi:v.i<L.length:=by rw[Qe]at hi0;exact hi0
 have hn:=Q0 hi
 have hn0:=Q0 h0
 have hle:=hB.len
 rw[Qe]at hle
 have hwl:=QbV hT (by rw[Qe];exact h0) hway
 rw[Qe,List.length_cons]at hwl
 have hcl:=hB.cs v.i hi0
 have hel:=hB.es v.i hi0
 rw[hn]at hcl hel
 simp only[LNd.pl]at hcl hel
 have hsh:=hT.shape v.i hi0
 rw[hn]at hsh
 simp only[LNd.pl]at hsh
 have hgi:=Qtt (t:=(⟨(j:Int),mo,rm,pln L⟩:Tre)) (v:=v) hn hn0 (hn0▸hT.shape 0 (by rw[Qe];exact h0)) (λc hc=>(hT.kid 0 (by rw[Qe];exact h0) c (by rw[hn0];exact hc)).1.1)
 simp only[LNd.pl]at hgi
 have hE9:=Qd4 hT hi0
 rw[hn]at hE9
 simp only[LNd.pl]at hE9
 refine eN5 Tryz.func138 Tryz.ntmps138 ?_
 refine aU2 ?_
 refine oBx λb1 _=>?_
 refine aU8 ?_
 refine o_p (Qa rfl rfl rfl QT (v.i) om om (Rw.some hs.1 om)) rfl (o_q (Qs _ rfl rfl Xo rfl (Rw.rd hs.1 hi)) rfl (oAl (λb2 _=>?_) Xr))
 refine aU8 ?_
 refine XP 8 27 35 rfl
  (λhg3 _=>by
   refine QbK ?_
   refine o_p (XC rfl rfl rfl om om om) rfl (aU2 ?_)
   exact oJt 8 35)
  (λhg5 _=>by
   refine aU7 ?_
   exact oJf 8 35) ?_
 refine aU ?_
 refine sCd rfl (λh7=>?_) λh7=>?_
 ·have hgp:Qaf (⟨(j:Int),mo,rm,pln L⟩:Tre) v=true:=hgi.2 (.inl (by have hq:=h7;omega))
  have hV:=Qj7 (deep:=deep) hgp
  refine aU6 ?_
  exact Ql (rs:=[.tmp 10,.tmp 11]) rfl (.tmp rfl (.tmp rfl (.nil))) (λw' h'=>⟨by rw[QeH (by rw[hV];decide),hV];rfl,h'.below⟩)
 have hng1:¬(v.i≠0/\((nth L v.i).es.length:Int)<mo/2):=by have hq:=h7;omega
 refine aU6 ?_
 refine o_p (Qa rfl rfl rfl QT (0) om om (Rw.some hs.1 om)) rfl (aU ?_)
 refine o_q (Qb rfl rfl Qds ((hs.1.rdj 1 h0 rfl))) rfl (aU3 ?_)
 refine XP 8 44 52 rfl
  (λhg8 _=>by
   refine aU5 ?_
   refine o_p (Qa rfl rfl rfl QT (0) om om (Rw.some hs.1 om)) rfl (aU3 ?_)
   refine o_q (Qb rfl rfl QcI ((hs.1.rdj 2 h0 rfl))) rfl (aU4 ?_)
   exact oJt 8 52)
  (λhg10 _=>by
   refine aU7 ?_
   exact oJf 8 52) ?_
 refine aU ?_
 refine XP 10 53 63 rfl
  (λhg12 _=>by
   refine aU5 ?_
   refine o_p (Qa rfl rfl rfl QT (0) om om (Rw.some hs.1 om)) rfl (aU3 ?_)
   refine o_q (Qb rfl rfl QcI ((hs.1.rdj 2 h0 rfl))) rfl (aU ?_)
   refine o_p (Qa rfl rfl rfl QW (0) om om (Rw.some (hs.cs h0) om)) rfl (aU ?_)
   refine o_q (Qb rfl rfl Zg (((hs.cs h0).rdj 0 (i:=0) om rfl))) rfl (aU4 ?_)
   exact oJt 10 63)
  (λhg14 _=>by
   refine aU9 ?_
   exact oJf 10 63) ?_
 refine aU ?_
 refine XP 7 64 71 rfl
  (λhg16 _=>by
   refine Qay ?_
   exact oJt 7 71)
  (λhg18 _=>by
   refine aU6 ?_
   exact oJf 7 71) ?_
 refine aU ?_
 refine sCd rfl (λh20=>?_) λh20=>?_
 ·have hgp:Qaf (⟨(j:Int),mo,rm,pln L⟩:Tre) v=true:=hgi.2 (.inr (by have hq:=h20;exact⟨⟨⟨om,om⟩,hq.1.2⟩,om⟩))
  have hV:=Qj7 (deep:=deep) hgp
  refine aU ?_
  refine Qj (L':=[(1,_),(2,_),(3,_),(4,_),(5,_),(10,_),(11,_),(12,_)]) aSx (λ_ h=>h) ?_
  refine aU5 ?_
  exact Ql (rs:=[.tmp 10,.tmp 11]) rfl (.tmp rfl (.tmp rfl (.nil))) (λw' h'=>⟨by rw[QeH (by rw[hV];decide),hV];rfl,h'.below⟩)
 have hgn:¬Qaf (⟨(j:Int),mo,rm,pln L⟩:Tre) v=true:=λh9=>(hgi.1 h9).elim hng1 (λh8=>by have hq:=h20;rcases hq with((hq|hq)|hq)|hq<;>first|omega|exact hq h8.1.2)
 refine aU3 ?_
 refine Qj (L':=[(1,_),(2,_),(3,_),(4,_),(5,_),(10,_),(11,_),(12,_)]) aSx (λ_ h=>h) ?_
 refine aU4 ?_
 refine Qt (α:=Nat) [10,11,13,14,73,74,75,76,77,78,79,80,81,82,83,84,85,86,87,88,89,90,91,92,93,94,95,96,97,98,99,100,101,102,103,104,105,106,107,108,109,110,111,112,113,114] (λk=>[(13,.int .i64 (k:Int))]) (λ_=>HS w [] [.blk b1 37 4 [.int .i64 (j:Int),.int .i64 mo,.int .i64 rm,.slice a L.length cap],.blk b2 69 3 (LNd.vals (nth L v.i))]) (λk=>k<=(nth L v.i).es.length/\∀q,q<k->¬QaB (⟨(j:Int),mo,rm,pln L⟩:Tre) v (nth (nth L v.i).es q)=true) (λk=>(nth L v.i).es.length-k) 0 ⟨Nat.zero_le _,λq h=>absurd h (Nat.not_lt_zero q)⟩ aSx (λw h=>h.ent aEt) (λk hx9=>?_)
 obtain⟨hk1,hk3⟩:=hx9
 refine aU9 ?_
 refine sCd rfl (λh21=>?_) λh21=>?_
 ·have hk5:k<(nth L v.i).es.length:=by omega
  refine aU8 ?_
  refine o_p (Qa rfl rfl rfl Q3 (k) om om (Rw.some (hs.es hi) om)) rfl (aU ?_)
  refine o_q (Qb rfl rfl Zu (((hs.es hi).rdj 0 hk5 rfl))) rfl (aU3 ?_)
  refine Qj (L':=[(1,_),(2,_),(3,_),(4,_),(5,_),(12,_),(13,_),(14,_)]) aSx (λ_ h=>h) ?_
  refine ZR (α:=Bool) [86,87,88,89,90,91,92,93,94,95,96,97,98,99,100,101,102,103,104,105,106,107,108,109,110,111,112,113] (λx=>[(113,.bool x)]) (λx=>x=true ↔ (QaB (⟨(j:Int),mo,rm,pln L⟩:Tre) v (nth (nth L v.i).es k))=true) ?_ ?_
  ·skip
   refine Qz [] QJ ?_
   refine dP 0 ?_
   refine dV 1 rfl (QR rfl rfl Tryz.underlying241) (dP 2 ?_)
   refine dP 3 ?_
   apply Xy 89
   ·exact rfl
   ·intro hg22
    have hs23:=hg22;try simp only[dT]at hs23
    refine dFo 4 89 hg22 ?_
    obtain⟨kl,bl,ol,hlo1,hlo2,hlo3,hlo4⟩:=hlo.of_pos om
    refine dQo 5 89 [] hg22 rfl rfl rfl (Yo rfl rfl Zg aPk rfl) ?_
    refine dPo 6 89 hg22 ?_
    refine dVo 7 89 hg22 rfl rfl rfl (Qa rfl rfl rfl Qe6 (0) om om hlo3) ?_
    refine dQo 8 89 [] hg22 rfl rfl rfl (Qb rfl rfl Zu (hlo4)) ?_
    refine dPo 9 89 hg22 ?_
    refine dQo 10 89 [] hg22 rfl rfl rfl (Qr rfl QkP rfl (λw1 h1=>c65 w1 j kl (nth (nth L v.i).es k).key hj (hko _ hlo1).1 (hE9 _ (Qy hk5)).1 (hko _ hlo1).2 (hE9 _ (Qy hk5)).2)) ?_
    refine dPo 11 89 hg22 ?_
    refine dV 12 rfl (Xv rfl rfl hg22 rfl) (dP 13 ?_)
    apply Xy 99
    ·exact rfl
    ·intro hg24
     have hs25:=hg24;try simp only[dT]at hs25
     refine dOf 14 99 hg24 ?_
     refine dOf 15 99 hg24 ?_
     refine dOf 16 99 hg24 ?_
     refine dOf 17 99 hg24 ?_
     refine dOu 18 103 ?_
     refine dOu 19 103 ?_
     refine dOu 20 103 ?_
     refine dOu 21 103 ?_
     refine dOu 22 103 ?_
     refine dOu 23 103 ?_
     refine dOu 24 103 ?_
     refine dOu 25 103 ?_
     refine dOf 26 99 hg24 ?_
     refine dV 27 rfl (Xv rfl rfl hg24 rfl) (dNi ?_)
     exact Qo true (Qw5 hlo1 (by show 0<=Xt (j:Int) kl _;omega)) aSx (λw h=>h.ent aEt)
    intro hg26
    have hs27:=hg26;try simp only[dN]at hs27
    refine dPo 14 99 hg26 ?_
    refine dVo 15 99 hg26 rfl rfl rfl (QR rfl rfl Tryz.underlying241) ?_
    refine dPo 16 99 hg26 ?_
    refine dPo 17 99 hg26 ?_
    apply Xy 103
    ·exact rfl
    ·intro hg28
     have hs29:=hg28;try simp only[dT]at hs29
     refine dFo 18 103 hg28 ?_
     obtain⟨kh,bh,oh,hhi1,hhi2,hhi3,hhi4⟩:=hhi.of_pos om
     refine dQo 19 103 [] hg28 rfl rfl rfl (Yo rfl rfl Zg aPk rfl) ?_
     refine dPo 20 103 hg28 ?_
     refine dPo 21 103 hg28 ?_
     refine dVo 22 103 hg28 rfl rfl rfl (Qa rfl rfl rfl Qe6 (0) om om hhi3) ?_
     refine dQo 23 103 [] hg28 rfl rfl rfl (Qb rfl rfl Zu (hhi4)) ?_
     refine dQo 24 103 [] hg28 rfl rfl rfl (Qr rfl QkP rfl (λw1 h1=>c65 w1 j (nth (nth L v.i).es k).key kh hj (hE9 _ (Qy hk5)).1 (hkp _ hhi1).1 (hE9 _ (Qy hk5)).2 (hkp _ hhi1).2)) ?_
     refine dPo 25 103 hg28 ?_
     refine dVo 26 99 hg26 rfl rfl rfl (Xv rfl rfl hg28 rfl) ?_
     refine dV 27 rfl (Q8 rfl rfl hg26 rfl) (dNi ?_)
     exact Qo (decide (Xt (j:Int) (nth (nth L v.i).es k).key kh>=0)) (Qw3 (t:=(⟨(j:Int),mo,rm,pln L⟩:Tre)) hlo1 (by show¬0<=Xt (j:Int) kl _;omega) hhi1) aSx (λw h=>h.ent aEt)
    intro hg30
    have hs31:=hg30;try simp only[dN]at hs31
    refine dOf 18 103 hg30 ?_
    refine dOf 19 103 hg30 ?_
    refine dOf 20 103 hg30 ?_
    refine dOf 21 103 hg30 ?_
    refine dOf 22 103 hg30 ?_
    refine dOf 23 103 hg30 ?_
    refine dOf 24 103 hg30 ?_
    refine dOf 25 103 hg30 ?_
    refine dVo 26 99 hg26 rfl rfl rfl (Q8 rfl rfl hg30 rfl) ?_
    refine dV 27 rfl (Q8 rfl rfl hg26 rfl) (dNi ?_)
    exact Qo false (QwG hlo1 (by show¬0<=Xt (j:Int) kl _;omega) (hhi.of_no om)) aSx (λw h=>h.ent aEt)
   intro hg32
   have hs33:=hg32;try simp only[dN]at hs33
   refine dOf 4 89 hg32 ?_
   refine dOf 5 89 hg32 ?_
   refine dOf 6 89 hg32 ?_
   refine dOf 7 89 hg32 ?_
   refine dOf 8 89 hg32 ?_
   refine dOf 9 89 hg32 ?_
   refine dOf 10 89 hg32 ?_
   refine dOf 11 89 hg32 ?_
   refine dV 12 rfl (Q8 rfl rfl hg32 rfl) (dP 13 ?_)
   apply Xy 99
   ·exact rfl
   ·intro hg34
    have hs35:=hg34;skip
    refine dOf 14 99 hg34 ?_
    refine dOf 15 99 hg34 ?_
    refine dOf 16 99 hg34 ?_
    refine dOf 17 99 hg34 ?_
    refine dOu 18 103 ?_
    refine dOu 19 103 ?_
    refine dOu 20 103 ?_
    refine dOu 21 103 ?_
    refine dOu 22 103 ?_
    refine dOu 23 103 ?_
    refine dOu 24 103 ?_
    refine dOu 25 103 ?_
    refine dOf 26 99 hg34 ?_
    refine dV 27 rfl (Xv rfl rfl hg34 rfl) (dNi ?_)
    exact Qo true (by exfalso;simp_all;done) aSx (λw h=>h.ent aEt)
   intro hg36
   have hs37:=hg36;skip
   refine dPo 14 99 hg36 ?_
   refine dVo 15 99 hg36 rfl rfl rfl (QR rfl rfl Tryz.underlying241) ?_
   refine dPo 16 99 hg36 ?_
   refine dPo 17 99 hg36 ?_
   apply Xy 103
   ·exact rfl
   ·intro hg38
    have hs39:=hg38;try simp only[dT]at hs39
    refine dFo 18 103 hg38 ?_
    obtain⟨kh,bh,oh,hhi1,hhi2,hhi3,hhi4⟩:=hhi.of_pos om
    refine dQo 19 103 [] hg38 rfl rfl rfl (Yo rfl rfl Zg aPk rfl) ?_
    refine dPo 20 103 hg38 ?_
    refine dPo 21 103 hg38 ?_
    refine dVo 22 103 hg38 rfl rfl rfl (Qa rfl rfl rfl Qe6 (0) om om hhi3) ?_
    refine dQo 23 103 [] hg38 rfl rfl rfl (Qb rfl rfl Zu (hhi4)) ?_
    refine dQo 24 103 [] hg38 rfl rfl rfl (Qr rfl QkP rfl (λw1 h1=>c65 w1 j (nth (nth L v.i).es k).key kh hj (hE9 _ (Qy hk5)).1 (hkp _ hhi1).1 (hE9 _ (Qy hk5)).2 (hkp _ hhi1).2)) ?_
    refine dPo 25 103 hg38 ?_
    refine dVo 26 99 hg36 rfl rfl rfl (Xv rfl rfl hg38 rfl) ?_
    refine dV 27 rfl (Q8 rfl rfl hg36 rfl) (dNi ?_)
    exact Qo (decide (Xt (j:Int) (nth (nth L v.i).es k).key kh>=0)) (Qw0 (t:=(⟨(j:Int),mo,rm,pln L⟩:Tre)) (hlo.of_no om) hhi1) aSx (λw h=>h.ent aEt)
   intro hg40
   have hs41:=hg40;try simp only[dN]at hs41
   refine dOf 18 103 hg40 ?_
   refine dOf 19 103 hg40 ?_
   refine dOf 20 103 hg40 ?_
   refine dOf 21 103 hg40 ?_
   refine dOf 22 103 hg40 ?_
   refine dOf 23 103 hg40 ?_
   refine dOf 24 103 hg40 ?_
   refine dOf 25 103 hg40 ?_
   refine dVo 26 99 hg36 rfl rfl rfl (Q8 rfl rfl hg40 rfl) ?_
   refine dV 27 rfl (Q8 rfl rfl hg36 rfl) (dNi ?_)
   exact Qo false (QwZ (hlo.of_no om) (hhi.of_no om)) aSx (λw h=>h.ent aEt)
  intro x hx
  refine sCd rfl (λh42=>?_) λh42=>?_
  ·have hV:=Qpz (deep:=deep) hgn (Qq5 hn hk5 (hx.1 h42))
   refine aU6 ?_
   exact Ql (rs:=[.tmp 10,.tmp 11]) rfl (.tmp rfl (.tmp rfl (.nil))) (λw' h'=>⟨by rw[QeH (by rw[hV];decide),hV];rfl,h'.below⟩)
  have hz3:¬(QaB (⟨(j:Int),mo,rm,pln L⟩:Tre) v (nth (nth L v.i).es k))=true:=λh9=>by have h8:=hx.2 h9;simp_all
  refine aT5 ?_
  refine aU2 ?_
  exact sBk (k+1) om ⟨om,λq hq=>(Nat.lt_or_ge q k).elim (hk3 q) (λh9=>by obtain rfl:q=k:=om;exact hz3)⟩
 have hon:¬ZC (⟨(j:Int),mo,rm,pln L⟩:Tre) v=true:=Qt1 hn (λq hq=>hk3 q (by have hq9:=hq;simp only[LNd.pl]at hq9;omega))
 refine Qh rfl ?_
 refine aU8 ?_
 refine XP 3 119 122 rfl
  (λhg43 _=>by
   refine aU4 ?_
   exact oJt 3 122)
  (λhg45 _=>by
   refine aU2 ?_
   exact oJf 3 122) ?_
 refine aU ?_
 refine sCd rfl (λh47=>?_) λh47=>?_
 ·have hV:=QtL (deep:=deep) hgn hon (by rw[show((⟨(j:Int),mo,rm,pln L⟩:Tre)).ns=pln L from rfl,hn];have hq:=h47;simp only[LNd.pl];omega)
  refine aU6 ?_
  exact Ql (rs:=[.tmp 10,.tmp 11]) rfl (.tmp rfl (.tmp rfl (.nil))) (λw' h'=>⟨by rw[QeH (by rw[hV];decide),hV];rfl,h'.below⟩)
 have hV0:=Qs2 (deep:=deep) hgn hon (by rw[show((⟨(j:Int),mo,rm,pln L⟩:Tre)).ns=pln L from rfl,hn];have hq:=h47;simp only[LNd.pl];omega)
 refine aU7 ?_
 refine Qj (L':=[(1,_),(2,_),(3,_),(4,_),(5,_),(12,_),(13,_),(15,_)]) aSx (λ_ h=>h) ?_
 refine Qt (α:=Nat) [10,11,15,16,17,18,19,124,125,126,127,128,129,130,131,132,133,134,135,136,137,138,139,140,141,142,143,144,145,146,147,148,149,150,151,152,153,154,155,156,157,158,159,160,161,162,163,164,165,166,167,168,169,170,171,172] (λk=>[(15,.int .i64 (k:Int))]) (λ_=>HS w [] [.blk b1 37 4 [.int .i64 (j:Int),.int .i64 mo,.int .i64 rm,.slice a L.length cap],.blk b2 69 3 (LNd.vals (nth L v.i))]) (λk=>k<=(nth L v.i).cs.length/\(X7 (⟨(j:Int),mo,rm,pln L⟩:Tre) deep (Qbq (pln L) f v k)).2=0) (λk=>(nth L v.i).cs.length-k) 0 ⟨Nat.zero_le _,Qwn hV0⟩ aSx (λw h=>h.ent aEt) (λk hx9=>?_)
 obtain⟨hk1,hk3⟩:=hx9
 refine aU9 ?_
 refine sCd rfl (λh48=>?_) λh48=>?_
 ·have hkl:k<(nth L v.i).cs.length:=by omega
  have hkid:=QgE hT hi0 (k:=k) (by rw[hn];exact hkl)
  rw[hn,Qe]at hkid
  simp only[LNd.pl]at hkid
  have hway2:=Qd1 hway hi0 (k:=k) (by rw[hn];exact hkl) (by rw[hn];simp only[LNd.pl];omega)
  refine aU16 ?_
  refine sCd rfl (λh49=>?_) λh49=>?_
  ·have hk0:0<k:=by have hq:=h49;omega
   refine aT5 ?_
   refine o_p (Qa rfl rfl rfl Q3 (k-1) om om (Rw.some (hs.es hi) om)) rfl (aU ?_)
   refine o_q (Qb rfl rfl Zu (((hs.es hi).rdj 0 (i:=k-1) om rfl))) rfl (o_h (Qk (cs:=[_]) rfl rfl Qe6 Qu8 rfl rfl rfl) rfl (λb50 _=>QbK ?_))
   refine sCd rfl (λh51=>?_) λh51=>?_
   ·have hk9:k<(nth L v.i).es.length:=by have hq:=h51;omega
    refine Qj (L':=[(1,_),(2,_),(3,_),(4,_),(5,_),(12,_),(13,_),(15,_),(16,_),(17,_)]) aSx (λ_ h=>h) ?_
    refine aU4 ?_
    refine o_p (Qa rfl rfl rfl Q3 (k) om om (Rw.some (hs.es hi) om)) rfl (aU ?_)
    refine o_q (Qb rfl rfl Zu (((hs.es hi).rdj 0 (i:=k) om rfl))) rfl (o_h (Qk (cs:=[_]) rfl rfl Qe6 Qu8 rfl rfl rfl) rfl (λb52 _=>aU3 ?_))
    refine Qz [] QJ ?_
    refine dLn 0 [] ?_
    refine dFa 1 ?_
    refine dLd 2 [] ?_
    refine dP 3 ?_
    refine dV 4 rfl (Qa rfl rfl rfl QW (k) om om (Rw.some (hs.cs hi) om)) (dQ 5 [] rfl (Qb rfl rfl Zg (((hs.cs hi).rdj 0 (i:=k) hkl rfl))) (QC (show _=Value.int .i64 ((XW (pln L) v k).i:Int)from by rw[XW,hn];exact congrArg (Value.int .i64) (Int.toNat_of_nonneg (show 0<=(nth L v.i).cs.getD k 0 by omega)).symm) (dP 6 ?_)))
    refine dP 7 ?_
    try refine dWr ?_
    refine dP 8 ?_
    refine dP 9 ?_
    refine dQ 10 [] rfl (Qr rfl QgG rfl (λw1 h1=>ih w1 (XW (pln L) v k) (v.i::P) (lv-1) _ _ _ _ _ _ (hs.later h1) hj hmo hT hB h0 hway2 (by simp only[XW,List.length_cons];omega) (by simp only[XW];omega) (Qgg hT hi0 (by rw[hn];show k<=(nth L v.i).es.length;omega) hko) (Qg2 hT hi0 hkp) (by show StK w1 _ _ (loK (nth (pln L) v.i).es k v.lo);rw[hn];show StK w1 _ _ (loK (nth L v.i).es k v.lo);first|(rw[QfP hk0];exact StK.new (h1.rd_blk (Mc:=[]) aPk rfl (by simp)))|(rw[QiW hk0];exact hlo.later h1)) (by show StK w1 _ _ (hiK (nth (pln L) v.i).es k v.hi);rw[hn];show StK w1 _ _ (hiK (nth L v.i).es k v.hi);first|(rw[QfY hk9];exact StK.new (h1.rd_blk (Mc:=[]) aPk rfl (by simp)))|(rw[QiA hk9];exact hhi.later h1)) (by simp only[List.length_cons];omega))) (dP 11 ?_)
    refine dP 12 ?_
    refine dP 13 ?_
    refine dP 14 ?_
    refine dP 15 ?_
    refine dNi ?_
    refine aU ?_
    refine Qj (L':=[(1,_),(2,_),(3,_),(4,_),(5,_),(12,_),(13,_),(15,_),(18,_),(19,_)]) aSx (λ_ h=>h) ?_
    refine aU4 ?_
    refine sCd rfl (λh53=>?_) λh53=>?_
    ·have hbad:X7 (⟨(j:Int),mo,rm,pln L⟩:Tre) deep (vis (pln L) (f+1) v)=X7 (⟨(j:Int),mo,rm,pln L⟩:Tre) deep (vis (pln L) f (XW (pln L) v k)):=by rw[Zr,hn];obtain⟨B9,hB9⟩:=Qbw (pln L) f v (show k+1<=(nth L v.i).pl.cs.length by show k+1<=(nth L v.i).cs.length;omega);rw[hB9,XZ,List.append_assoc,Yc,if_pos hk3,Yc,if_neg h53]
     refine aU7 ?_
     exact Ql (rs:=[.tmp 10,.tmp 11]) rfl (.tmp rfl (.tmp rfl (.nil))) (λw' h'=>⟨by rw[hbad];rfl,h'.below⟩)
    have hgood:(X7 (⟨(j:Int),mo,rm,pln L⟩:Tre) deep (Qbq (pln L) f v (k+1))).2=0:=by rw[XZ,Yc,if_pos hk3];have hq:=h53;omega
    refine aT5 ?_
    refine aU2 ?_
    exact sBk (k+1) om ⟨om,hgood⟩
   have hk9:¬k<(nth L v.i).es.length:=by have hq:=h51;omega
   refine aU2 ?_
   refine Qj (L':=[(1,_),(2,_),(3,_),(4,_),(5,_),(12,_),(13,_),(15,_),(16,_),(17,_)]) aSx (λ_ h=>h) ?_
   refine Qz [] QJ ?_
   refine dLn 0 [] ?_
   refine dFa 1 ?_
   refine dLd 2 [] ?_
   refine dP 3 ?_
   refine dV 4 rfl (Qa rfl rfl rfl QW (k) om om (Rw.some (hs.cs hi) om)) (dQ 5 [] rfl (Qb rfl rfl Zg (((hs.cs hi).rdj 0 (i:=k) hkl rfl))) (QC (show _=Value.int .i64 ((XW (pln L) v k).i:Int)from by rw[XW,hn];exact congrArg (Value.int .i64) (Int.toNat_of_nonneg (show 0<=(nth L v.i).cs.getD k 0 by omega)).symm) (dP 6 ?_)))
   refine dP 7 ?_
   try refine dWr ?_
   refine dP 8 ?_
   refine dP 9 ?_
   refine dQ 10 [] rfl (Qr rfl QgG rfl (λw1 h1=>ih w1 (XW (pln L) v k) (v.i::P) (lv-1) _ _ _ _ _ _ (hs.later h1) hj hmo hT hB h0 hway2 (by simp only[XW,List.length_cons];omega) (by simp only[XW];omega) (Qgg hT hi0 (by rw[hn];show k<=(nth L v.i).es.length;omega) hko) (Qg2 hT hi0 hkp) (by show StK w1 _ _ (loK (nth (pln L) v.i).es k v.lo);rw[hn];show StK w1 _ _ (loK (nth L v.i).es k v.lo);first|(rw[QfP hk0];exact StK.new (h1.rd_blk (Mc:=[]) aPk rfl (by simp)))|(rw[QiW hk0];exact hlo.later h1)) (by show StK w1 _ _ (hiK (nth (pln L) v.i).es k v.hi);rw[hn];show StK w1 _ _ (hiK (nth L v.i).es k v.hi);first|(rw[QfY hk9];exact StK.new (h1.rd_blk (Mc:=[]) aPk rfl (by simp)))|(rw[QiA hk9];exact hhi.later h1)) (by simp only[List.length_cons];omega))) (dP 11 ?_)
   refine dP 12 ?_
   refine dP 13 ?_
   refine dP 14 ?_
   refine dP 15 ?_
   refine dNi ?_
   refine aU5 ?_
   refine sCd rfl (λh54=>?_) λh54=>?_
   ·have hbad:X7 (⟨(j:Int),mo,rm,pln L⟩:Tre) deep (vis (pln L) (f+1) v)=X7 (⟨(j:Int),mo,rm,pln L⟩:Tre) deep (vis (pln L) f (XW (pln L) v k)):=by rw[Zr,hn];obtain⟨B9,hB9⟩:=Qbw (pln L) f v (show k+1<=(nth L v.i).pl.cs.length by show k+1<=(nth L v.i).cs.length;omega);rw[hB9,XZ,List.append_assoc,Yc,if_pos hk3,Yc,if_neg h54]
    refine aU7 ?_
    exact Ql (rs:=[.tmp 10,.tmp 11]) rfl (.tmp rfl (.tmp rfl (.nil))) (λw' h'=>⟨by rw[hbad];rfl,h'.below⟩)
   have hgood:(X7 (⟨(j:Int),mo,rm,pln L⟩:Tre) deep (Qbq (pln L) f v (k+1))).2=0:=by rw[XZ,Yc,if_pos hk3];have hq:=h54;omega
   refine aT5 ?_
   refine aU2 ?_
   exact sBk (k+1) om ⟨om,hgood⟩
  have hk0:¬0<k:=by have hq:=h49;omega
  refine YR ?_
  refine sCd rfl (λh55=>?_) λh55=>?_
  ·have hk9:k<(nth L v.i).es.length:=by have hq:=h55;omega
   refine aU4 ?_
   refine o_p (Qa rfl rfl rfl Q3 (k) om om (Rw.some (hs.es hi) om)) rfl (aU ?_)
   refine o_q (Qb rfl rfl Zu (((hs.es hi).rdj 0 (i:=k) om rfl))) rfl (o_h (Qk (cs:=[_]) rfl rfl Qe6 Qu8 rfl rfl rfl) rfl (λb56 _=>aU3 ?_))
   refine Qj (L':=[(1,_),(2,_),(3,_),(4,_),(5,_),(12,_),(13,_),(15,_),(16,_),(17,_)]) aSx (λ_ h=>h) ?_
   refine Qz [] QJ ?_
   refine dLn 0 [] ?_
   refine dFa 1 ?_
   refine dLd 2 [] ?_
   refine dP 3 ?_
   refine dV 4 rfl (Qa rfl rfl rfl QW (k) om om (Rw.some (hs.cs hi) om)) (dQ 5 [] rfl (Qb rfl rfl Zg (((hs.cs hi).rdj 0 (i:=k) hkl rfl))) (QC (show _=Value.int .i64 ((XW (pln L) v k).i:Int)from by rw[XW,hn];exact congrArg (Value.int .i64) (Int.toNat_of_nonneg (show 0<=(nth L v.i).cs.getD k 0 by omega)).symm) (dP 6 ?_)))
   refine dP 7 ?_
   try refine dWr ?_
   refine dP 8 ?_
   refine dP 9 ?_
   refine dQ 10 [] rfl (Qr rfl QgG rfl (λw1 h1=>ih w1 (XW (pln L) v k) (v.i::P) (lv-1) _ _ _ _ _ _ (hs.later h1) hj hmo hT hB h0 hway2 (by simp only[XW,List.length_cons];omega) (by simp only[XW];omega) (Qgg hT hi0 (by rw[hn];show k<=(nth L v.i).es.length;omega) hko) (Qg2 hT hi0 hkp) (by show StK w1 _ _ (loK (nth (pln L) v.i).es k v.lo);rw[hn];show StK w1 _ _ (loK (nth L v.i).es k v.lo);first|(rw[QfP hk0];exact StK.new (h1.rd_blk (Mc:=[]) aPk rfl (by simp)))|(rw[QiW hk0];exact hlo.later h1)) (by show StK w1 _ _ (hiK (nth (pln L) v.i).es k v.hi);rw[hn];show StK w1 _ _ (hiK (nth L v.i).es k v.hi);first|(rw[QfY hk9];exact StK.new (h1.rd_blk (Mc:=[]) aPk rfl (by simp)))|(rw[QiA hk9];exact hhi.later h1)) (by simp only[List.length_cons];omega))) (dP 11 ?_)
   refine dP 12 ?_
   refine dP 13 ?_
   refine dP 14 ?_
   refine dP 15 ?_
   refine dNi ?_
   refine aU5 ?_
   refine sCd rfl (λh57=>?_) λh57=>?_
   ·have hbad:X7 (⟨(j:Int),mo,rm,pln L⟩:Tre) deep (vis (pln L) (f+1) v)=X7 (⟨(j:Int),mo,rm,pln L⟩:Tre) deep (vis (pln L) f (XW (pln L) v k)):=by rw[Zr,hn];obtain⟨B9,hB9⟩:=Qbw (pln L) f v (show k+1<=(nth L v.i).pl.cs.length by show k+1<=(nth L v.i).cs.length;omega);rw[hB9,XZ,List.append_assoc,Yc,if_pos hk3,Yc,if_neg h57]
    refine aU7 ?_
    exact Ql (rs:=[.tmp 10,.tmp 11]) rfl (.tmp rfl (.tmp rfl (.nil))) (λw' h'=>⟨by rw[hbad];rfl,h'.below⟩)
   have hgood:(X7 (⟨(j:Int),mo,rm,pln L⟩:Tre) deep (Qbq (pln L) f v (k+1))).2=0:=by rw[XZ,Yc,if_pos hk3];have hq:=h57;omega
   refine aT5 ?_
   refine aU2 ?_
   exact sBk (k+1) om ⟨om,hgood⟩
  have hk9:¬k<(nth L v.i).es.length:=by have hq:=h55;omega
  refine aU2 ?_
  refine Qz [] QJ ?_
  refine dLn 0 [] ?_
  refine dFa 1 ?_
  refine dLd 2 [] ?_
  refine dP 3 ?_
  refine dV 4 rfl (Qa rfl rfl rfl QW (k) om om (Rw.some (hs.cs hi) om)) (dQ 5 [] rfl (Qb rfl rfl Zg (((hs.cs hi).rdj 0 (i:=k) hkl rfl))) (QC (show _=Value.int .i64 ((XW (pln L) v k).i:Int)from by rw[XW,hn];exact congrArg (Value.int .i64) (Int.toNat_of_nonneg (show 0<=(nth L v.i).cs.getD k 0 by omega)).symm) (dP 6 ?_)))
  refine dP 7 ?_
  try refine dWr ?_
  refine dP 8 ?_
  refine dP 9 ?_
  refine dQ 10 [] rfl (Qr rfl QgG rfl (λw1 h1=>ih w1 (XW (pln L) v k) (v.i::P) (lv-1) _ _ _ _ _ _ (hs.later h1) hj hmo hT hB h0 hway2 (by simp only[XW,List.length_cons];omega) (by simp only[XW];omega) (Qgg hT hi0 (by rw[hn];show k<=(nth L v.i).es.length;omega) hko) (Qg2 hT hi0 hkp) (by show StK w1 _ _ (loK (nth (pln L) v.i).es k v.lo);rw[hn];show StK w1 _ _ (loK (nth L v.i).es k v.lo);first|(rw[QfP hk0];exact StK.new (h1.rd_blk (Mc:=[]) aPk rfl (by simp)))|(rw[QiW hk0];exact hlo.later h1)) (by show StK w1 _ _ (hiK (nth (pln L) v.i).es k v.hi);rw[hn];show StK w1 _ _ (hiK (nth L v.i).es k v.hi);first|(rw[QfY hk9];exact StK.new (h1.rd_blk (Mc:=[]) aPk rfl (by simp)))|(rw[QiA hk9];exact hhi.later h1)) (by simp only[List.length_cons];omega))) (dP 11 ?_)
  refine dP 12 ?_
  refine dP 13 ?_
  refine dP 14 ?_
  refine dP 15 ?_
  refine dNi ?_
  refine aU ?_
  refine Qj (L':=[(1,_),(2,_),(3,_),(4,_),(5,_),(12,_),(13,_),(15,_),(18,_),(19,_)]) aSx (λ_ h=>h) ?_
  refine aU4 ?_
  refine sCd rfl (λh58=>?_) λh58=>?_
  ·have hbad:X7 (⟨(j:Int),mo,rm,pln L⟩:Tre) deep (vis (pln L) (f+1) v)=X7 (⟨(j:Int),mo,rm,pln L⟩:Tre) deep (vis (pln L) f (XW (pln L) v k)):=by rw[Zr,hn];obtain⟨B9,hB9⟩:=Qbw (pln L) f v (show k+1<=(nth L v.i).pl.cs.length by show k+1<=(nth L v.i).cs.length;omega);rw[hB9,XZ,List.append_assoc,Yc,if_pos hk3,Yc,if_neg h58]
   refine aU7 ?_
   exact Ql (rs:=[.tmp 10,.tmp 11]) rfl (.tmp rfl (.tmp rfl (.nil))) (λw' h'=>⟨by rw[hbad];rfl,h'.below⟩)
  have hgood:(X7 (⟨(j:Int),mo,rm,pln L⟩:Tre) deep (Qbq (pln L) f v (k+1))).2=0:=by rw[XZ,Yc,if_pos hk3];have hq:=h58;omega
  refine aT5 ?_
  refine aU2 ?_
  exact sBk (k+1) om ⟨om,hgood⟩
 obtain rfl:k=(nth L v.i).cs.length:=om
 have hfin:X7 (⟨(j:Int),mo,rm,pln L⟩:Tre) deep (vis (pln L) (f+1) v)=(0,0):=by rw[Zr,hn];exact QlD hk3
 refine Qh rfl ?_
 refine aU5 ?_
 exact Ql (rs:=[.tmp 10,.tmp 11]) rfl (.tmp rfl (.tmp rfl (.nil))) (λw' h'=>⟨by rw[hfin];rfl,h'.below⟩)
theorem c138(j:Nat)(mo rm:Int)(a:Option Addr)(cap:Nat)(L:List LNd)(deep:Int):∀f,PlC j mo rm a cap L deep f
  | 0=>λw v P lv pa qa pn pc qn qc hs hj hmo hT hB h0 hway hd hlv hko hkp hlo hhi hf=>by
    have h1:=QbV hT (by rw[Qe];exact h0) hway;rw[Qe,List.length_cons]at h1;omega
  | f+1=>λw v P lv pa qa pn pc qn qc hs hj hmo hT hB h0 hway hd hlv hko hkp hlo hhi hf=>Qw1 w j mo rm a cap L deep v P lv pa qa pn pc qn qc f hs hj hmo hT hB h0 hway hd hlv hko hkp hlo hhi hf (c138 j mo rm a cap L deep f)
end Go.Proofs
namespace Gx
open Go Go.RowKit
theorem Qu5{t:Tre}(h:¬Qv t.co=0):Yw t=(0,Qv t.co):=by rw[QcW (by rw[if_neg h];exact h),if_neg h]
theorem Quz{t:Tre}(h:Qv t.co=0)(h2:¬XF t.mo t.rm=0):Yw t=(0,XF t.mo t.rm):=by rw[QcW (by rw[if_pos h];exact h2),if_pos h]
theorem Qv5{t:Tre}(h:Qv t.co=0)(h2:XF t.mo t.rm=0)(h3:¬0<t.ns.length):Yw t=(0,10):=by
 have e:Zl t.ns.length=10:=if_neg h3;rw[Qek (by rw[if_pos h];exact h2) (by rw[e];decide),e]
theorem Quw{t:Tre}(h:Qv t.co=0)(h2:XF t.mo t.rm=0)(h3:0<t.ns.length)(h4:¬t.ns.length<=120):Yw t=(0,8):=by
 have e:Zl t.ns.length=8:=by rw[Zl,if_pos h3,if_neg h4]
 rw[Qek (by rw[if_pos h];exact h2) (by rw[e];decide),e]
theorem Qvh{t:Tre}(h:Qv t.co=0)(h2:XF t.mo t.rm=0)(h3:0<t.ns.length)(h4:t.ns.length<=120):Yw t=if(X6 t t.ns.length 0 []).2=0 then Qb5 t else X6 t t.ns.length 0 []:=QeU (by rw[if_pos h];exact h2) (by rw[Zl,if_pos h3,if_pos h4])
theorem QkH(n:Nat):XJ [Value.bool false] n=Xh n []:=by
 rw[QcJ];apply List.ext_getElem?;intro i
 by_cases hi:i<n
 ·rw[Qbr hi,List.getElem?_replicate,if_pos hi];rfl
 ·rw[List.getElem?_eq_none (by rw[List.length_replicate];omega),List.getElem?_eq_none (by rw[Qbg];omega)]
theorem QkA{vs:List Vis}{k:Nat}:((k:Nat):Int)∈mkS vs [] ↔ k∈vs.map Vis.i:=by
 rw[Qtl,List.mem_map];constructor
 ·rintro⟨v,hv,h⟩;exact⟨v,hv,om⟩
 ·rintro⟨v,hv,h⟩;exact⟨v,hv,om⟩
theorem Qks(ns:List Nd):∀(f i:Nat),0<=Za ns f i/\Za ns f i<=f
 | 0,i=>by rw[Za];omega
 | f+1,i=>by
  rw[Za];split
  ·omega
  ·have:=Qks ns f ((nth ns i).cs.getD 0 0).toNat;omega
theorem Qo6{ns:List Nd}{f i:Nat}(h:(nth ns i).cs.length=0):Za ns f i=0:=by
 cases f with
 | zero=>rfl
 | succ f=>rw[Za,if_pos h]
theorem QnK{ns:List Nd}{f i:Nat}(h0:0<f)(h:¬(nth ns i).cs.length=0):Za ns f i=Za ns (f-1) ((nth ns i).cs.getD 0 0).toNat+1:=by
 obtain⟨g,rfl⟩:∃g,f=g+1:=⟨f-1,om⟩;rw[Za,if_neg h];rfl
end Gx
namespace Go.Proofs
open Go Go.RowKit Gx
attribute [local irreducible] Go.Calls Gx.S Gx.O Gx.D Gx.OpP Gx.OpQ Gx.OpH
set_option maxRecDepth 20000
instance:TFn Tryz.prog 96:=⟨by kernel_rfl⟩
instance:TFn Tryz.prog 97:=⟨by kernel_rfl⟩
theorem Qv9:QK Tryz.prog 136=true:=by kernel_rfl
instance:TFn Tryz.prog 71:=⟨by kernel_rfl⟩
theorem c71(w:World)(co mo rm:Int)(a:Option Addr)(cap:Nat)(L:List LNd)(hs:Nt w [] a L)(hB:Bd (pln L))(hkl:∀i,i<L.length->∀x∈(nth L i).es,x.key.length<=1000000):CR 71 #[.agg #[.int .i64 co,.int .i64 mo,.int .i64 rm,.slice a L.length cap]] w (.tuple #[.int .i64 (Yw (⟨co,mo,rm,pln L⟩:Tre)).1,.int .i64 (Yw (⟨co,mo,rm,pln L⟩:Tre)).2]):=by
 have hle:=hB.len
 rw[Qe]at hle
 have hes9:∀i,i<L.length->(nth L i).es.length<=1000:=λi hi=>by have h9:=hB.es i (by rw[Qe];exact hi);rw[Q0 hi]at h9;exact h9
 have hcs9:∀i,i<L.length->(nth L i).cs.length<=1000:=λi hi=>by have h9:=hB.cs i (by rw[Qe];exact hi);rw[Q0 hi]at h9;exact h9
 refine eN1 Tryz.func71 Tryz.ntmps71 ?_
 refine aU2 ?_
 refine oBx λb1 _=>?_
 refine aU8 ?_
 refine oCq rfl (λw1 h1=>c96 w1 _) (aU7 ?_)
 refine sCd rfl (λh2=>?_) λh2=>?_
 ·have hz:=Qu5 (t:=(⟨co,mo,rm,pln L⟩:Tre)) h2
  refine aU6 ?_
  exact Ql (rs:=[.tmp 2,.tmp 3]) rfl (.tmp rfl (.tmp rfl (.nil))) (λw' h'=>⟨by rw[hz];rfl,h'.below⟩)
 have hc0:Qv co=0:=by have hq:=h2;omega
 obtain⟨j,rfl,hj⟩:=Qie hc0
 refine aU8 ?_
 refine oCq rfl (λw1 h1=>c97 w1 _ _) (aU7 ?_)
 refine sCd rfl (λh3=>?_) λh3=>?_
 ·have hz:=Quz (t:=(⟨(j:Int),mo,rm,pln L⟩:Tre)) hc0 h3
  refine aU6 ?_
  exact Ql (rs:=[.tmp 2,.tmp 3]) rfl (.tmp rfl (.tmp rfl (.nil))) (λw' h'=>⟨by rw[hz];rfl,h'.below⟩)
 have hc1:XF mo rm=0:=by have hq:=h3;omega
 have hsz2:(3<=mo/\mo<=8)/\(mo/2<=rm/\rm<=mo):=QpU hc1
 have hTL:((⟨(j:Int),mo,rm,pln L⟩:Tre)).ns.length=L.length:=Qe L
 refine aU9 ?_
 refine sCd rfl (λh4=>?_) λh4=>?_
 ·have hz:=Qv5 (t:=(⟨(j:Int),mo,rm,pln L⟩:Tre)) hc0 hc1 (by rw[hTL];have hq:=h4;omega)
  refine aU5 ?_
  exact Ql (rs:=[.tmp 2,.tmp 3]) rfl (.tmp rfl (.tmp rfl (.nil))) (λw' h'=>⟨by rw[hz];rfl,h'.below⟩)
 have h00:0<L.length:=by have hq:=h4;omega
 refine aU9 ?_
 refine sCd rfl (λh5=>?_) λh5=>?_
 ·have hz:=Quw (t:=(⟨(j:Int),mo,rm,pln L⟩:Tre)) hc0 hc1 (by rw[hTL];exact h00) (by rw[hTL];have hq:=h5;omega)
  refine aU5 ?_
  exact Ql (rs:=[.tmp 2,.tmp 3]) rfl (.tmp rfl (.tmp rfl (.nil))) (λw' h'=>⟨by rw[hz];rfl,h'.below⟩)
 have h120:L.length<=120:=by have hq:=h5;omega
 have hz:=Qvh (t:=(⟨(j:Int),mo,rm,pln L⟩:Tre)) hc0 hc1 (by rw[hTL];exact h00) (by rw[hTL];exact h120)
 rw[hTL]at hz
 refine aU6 ?_
 refine o_h (QeN (n:=L.length) rfl rfl rfl Qb3 Qv0 om om) rfl (λb6 _=>XB (λw h=>(show HS _ _ [.blk b6 4 L.length (Xh L.length []),.blk b1 37 4 [.int .i64 (j:Int),.int .i64 mo,.int .i64 rm,.slice a L.length cap]] w from by have h9:=h;rw[Nat.mul_one,QkH]at h9;exact h9.ent aEt)) (aU4 ?_))
 refine Qj (L':=[(1,_),(2,_),(3,_),(6,_)]) aSx (λ_ h=>h) ?_
 refine aU4 ?_
 refine Qt (α:=Nat×List Int) [2,3,7,8,39,40,41,42,43,44,45,46,47,48,49,50,51,52,53] (λx=>[(7,.int .i64 (x.1:Int))]) (λx=>HS w [] [.blk b6 4 L.length (Xh L.length x.2),.blk b1 37 4 [.int .i64 (j:Int),.int .i64 mo,.int .i64 rm,.slice a L.length cap]]) (λx=>x.1<=L.length/\(X6 (⟨(j:Int),mo,rm,pln L⟩:Tre) L.length 0 [])=X6 (⟨(j:Int),mo,rm,pln L⟩:Tre) (L.length-x.1) x.1 x.2) (λx=>L.length-x.1) (0,[]) ⟨Nat.zero_le _,rfl⟩ aSx (λw h=>h.ent aEt) (λ⟨k,S9⟩hx=>?_)
 dsimp only
 obtain⟨hk1,hk3⟩:=hx
 simp only[]at hk1 hk3
 refine aU9 ?_
 refine sCd rfl (λh7=>?_) λh7=>?_
 ·have hkl9:k<L.length:=by omega
  have hst:=Qhm (t:=(⟨(j:Int),mo,rm,pln L⟩:Tre)) (k:=k) (seen:=S9) (by rw[hTL];exact hkl9)
  rw[hTL]at hst
  refine aU8 ?_
  refine o_h (Q1 (Cs:=[.blk b6 4 L.length (Xh L.length S9)]) rfl Qv9 rfl aPs (λw1 h1 hf=>c136 w1 j mo rm a cap L k b6 L.length L.length S9 hf ((hs.keep h1).mono (Xb aPs)) hj hkl9 om (hes9 _ hkl9) (hcs9 _ hkl9) (hkl _ hkl9))) rfl (λ_ _=>aU7 ?_)
  refine sCd rfl (λh8=>?_) λh8=>?_
  ·have hz3:(X6 (⟨(j:Int),mo,rm,pln L⟩:Tre) L.length 0 [])=((k:Int),(XQ (⟨(j:Int),mo,rm,pln L⟩:Tre) k S9).1):=by rw[hk3,hst,if_neg h8]
   rw[hz3,if_neg (show¬(((k:Int),(XQ (⟨(j:Int),mo,rm,pln L⟩:Tre) k S9).1):Int×Int).2=0 from h8)]at hz
   refine aU7 ?_
   exact Ql (rs:=[.tmp 2,.tmp 3]) rfl (.tmp rfl (.tmp rfl (.nil))) (λw' h'=>⟨by rw[hz];rfl,h'.below⟩)
  have hz3:X6 (⟨(j:Int),mo,rm,pln L⟩:Tre) (L.length-k) k S9=X6 (⟨(j:Int),mo,rm,pln L⟩:Tre) (L.length-(k+1)) (k+1) (XQ (⟨(j:Int),mo,rm,pln L⟩:Tre) k S9).2:=by rw[hst,if_pos (by have hq:=h8;omega)]
  refine aT5 ?_
  refine aU2 ?_
  exact sBk (k+1,(XQ (⟨(j:Int),mo,rm,pln L⟩:Tre) k S9).2) (by(try simp only[]);omega) ⟨by(try simp only[]);omega,by simp only[];rw[hk3,hz3]⟩
 have hnd:(X6 (⟨(j:Int),mo,rm,pln L⟩:Tre) L.length 0 [])=(0,0):=by rw[hk3,show L.length-k=0 by omega];rfl
 rw[hnd,if_pos rfl]at hz
 have hT:TOk (j:Int) (pln L):=QgF (t:=(⟨(j:Int),mo,rm,pln L⟩:Tre)) (by show(X6 (⟨(j:Int),mo,rm,pln L⟩:Tre) (pln L).length 0 []).2=0;rw[Qe,hnd])
 have hvis:vis (pln L) L.length Qcr=YV (pln L):=by unfold YV;rw[Qe]
 refine Qh rfl ?_
 refine aU5 ?_
 refine o_h (QeN (n:=L.length) rfl rfl rfl Qb3 Qv0 om om) rfl (λb9 _=>XB (λw h=>(show HS _ _ [.blk b9 4 L.length (Xh L.length []),.blk b1 37 4 [.int .i64 (j:Int),.int .i64 mo,.int .i64 rm,.slice a L.length cap]] w from by have h9:=h;rw[Nat.mul_one,QkH]at h9;exact h9.ent aEt)) (aU6 ?_))
 refine o_h (Q1 (Cs:=[.blk b9 4 L.length (Xh L.length [])]) rfl Qp5 rfl aPs (λw1 h1 hf=>c137 j mo rm a cap L b9 L.length L.length L.length w1 [] Qcr [] hf ((hs.keep h1).mono (Xb aPs)) hT hB h00 rfl (by simp))) rfl (λ_ _=>aU7 ?_)
 refine Qj (L':=[(1,_),(6,_),(7,_),(9,_),(10,_)]) aSx (λ_ h=>h) ?_
 refine Qt (α:=Nat) [2,3,10,61,62,63,64,65,66,67,68,69,70,71,72,73,74,75,76,77,78,79,80,81] (λk=>[(10,.int .i64 (k:Int))]) (λ_=>HS w [] [.blk b9 4 L.length (Xh L.length (mkS (vis (pln L) L.length Qcr) [])),.blk b1 37 4 [.int .i64 (j:Int),.int .i64 mo,.int .i64 rm,.slice a L.length cap]]) (λk=>k<=L.length/\QaC (pln L) ((YV (pln L)).map Vis.i) L.length 0=QaC (pln L) ((YV (pln L)).map Vis.i) (L.length-k) k) (λk=>L.length-k) 0 ⟨Nat.zero_le _,rfl⟩ aSx (λw h=>h.ent aEt) (λk hx=>?_)
 obtain⟨hk1,hk2⟩:=hx
 refine aU9 ?_
 refine sCd rfl (λh10=>?_) λh10=>?_
 ·have hkl9:k<L.length:=by omega
  have hst:=QhK (ns:=pln L) (below:=((YV (pln L)).map Vis.i)) (k:=k) (by rw[Qe];exact hkl9)
  rw[Qe,Q0 hkl9]at hst
  refine aU8 ?_
  refine o_p (Qa rfl rfl rfl QT (k) om om (Rw.some hs.1 om)) rfl (aU ?_)
  refine o_q (Qb rfl rfl QdH ((hs.1.rdj 0 hkl9 rfl))) rfl (aU ?_)
  refine XP 6 74 80 rfl
   (λhg11 _=>by
    refine aU5 ?_
    refine o_p (Qa rfl rfl rfl Qb3 (k) om om rfl) rfl (Qm (show _=Value.pointer (some ⟨b9,k,none⟩)from by rw[Nat.zero_add,Nat.mul_one]) (aU ?_))
    refine o_q (XY rfl rfl QdH (λw h=>h.rd_blk (Mc:=[]) aPk (Qbr hkl9) (by simp))) rfl (aU2 ?_)
    exact oJt 6 80)
   (λhg13 _=>by
    refine aU5 ?_
    exact oJf 6 80) ?_
  refine aU ?_
  refine sCd rfl (λh15=>?_) λh15=>?_
  ·have hz7:(nth L k).pl.us=true/\k ∉ ((YV (pln L)).map Vis.i):=by have hq:=h15;rw[<-QkA,<-hvis];simp only[LNd.pl];simpa using hq
   have hz8:=hz.trans (QdL (t:=(⟨(j:Int),mo,rm,pln L⟩:Tre)) (i:=k) (show QaC (pln L) _ (pln L).length 0=some k from by rw[Qe,hk2,hst,if_pos hz7]))
   refine aU6 ?_
   exact Ql (rs:=[.tmp 2,.tmp 3]) rfl (.tmp rfl (.tmp rfl (.nil))) (λw' h'=>⟨by rw[hz8];rfl,h'.below⟩)
  have hz7:¬((nth L k).pl.us=true/\k ∉ ((YV (pln L)).map Vis.i)):=by have hq:=h15;rw[<-QkA,<-hvis];simp only[LNd.pl];intro h9;exact hq.elim (λh8=>by rw[h8]at h9;cases h9.1) (λh8=>h9.2 h8)
  refine aT5 ?_
  refine aU2 ?_
  exact sBk (k+1) om ⟨om,by rw[hk2,hst,if_neg hz7]⟩
 have hnone:QaC (pln L) ((YV (pln L)).map Vis.i) L.length 0=none:=by rw[hk2,show L.length-k=0 by omega];rfl
 have hz8:=hz.trans (QdN (t:=(⟨(j:Int),mo,rm,pln L⟩:Tre)) (show QaC (pln L) _ (pln L).length 0=none from by rw[Qe];exact hnone))
 refine Qh rfl ?_
 refine YR ?_
 refine Qt (α:=Nat×Nat×List Nat) [11,12,82,83,84,85,86,87,88,89,90,91,92,93,94,95,96,97,98,99] (λy=>[(11,.int .i64 (y.1:Int)),(12,.int .i64 (y.2.1:Int))]) (λ_=>HS w [] [.blk b1 37 4 [.int .i64 (j:Int),.int .i64 mo,.int .i64 rm,.slice a L.length cap]]) (λy=>Gx.Way (pln L) (y.2.1::y.2.2)/\y.2.2.length=y.1/\Za (pln L) L.length 0=(y.1:Int)+Za (pln L) (L.length-y.1) y.2.1) (λy=>L.length-y.1) (0,0,[]) ⟨rfl,rfl,by simp⟩ aSx (λw h=>h.ent aEt) (λ⟨d,i,P⟩hx=>?_)
 dsimp only
 obtain⟨hway,hpl,hdp⟩:=hx
 simp only[]at hway hpl hdp
 have hil0:=QdC hT (by rw[Qe];exact h00) hway i (List.mem_cons_self ..)
 have hil:i<L.length:=by rw[Qe]at hil0;exact hil0
 have hnI:=Q0 hil
 have hwl:=QbV hT (by rw[Qe];exact h00) hway
 rw[Qe,List.length_cons]at hwl
 have hcl:=hcs9 i hil
 refine aU6 ?_
 refine o_p (Qa rfl rfl rfl QT (i) om om (Rw.some hs.1 om)) rfl (aU ?_)
 refine o_q (Qb rfl rfl QcI ((hs.1.rdj 2 hil rfl))) rfl (aU3 ?_)
 refine sCd rfl (λh16=>?_) λh16=>?_
 ·have hcl0:0<(nth L i).cs.length:=by have hq:=h16;omega
  have hkid:=QgE hT (by rw[Qe];exact hil) (i:=i) (k:=0) (by rw[hnI];exact hcl0)
  rw[hnI,Qe]at hkid
  simp only[LNd.pl]at hkid
  have hway2:=Qd1 hway (by rw[Qe];exact hil) (k:=0) (by rw[hnI];exact hcl0) (by rw[hnI];simp only[LNd.pl];omega)
  rw[hnI]at hway2
  have hwl2:=QbV hT (by rw[Qe];exact h00) hway2
  rw[Qe,List.length_cons,List.length_cons]at hwl2
  have hdm:=QnK (ns:=pln L) (f:=L.length-d) (i:=i) om (by rw[hnI];show¬(nth L i).cs.length=0;omega)
  rw[hnI]at hdm
  refine aU7 ?_
  refine o_p (Qa rfl rfl rfl QT (i) om om (Rw.some hs.1 om)) rfl (aU ?_)
  refine o_q (Qb rfl rfl QcI ((hs.1.rdj 2 hil rfl))) rfl (o_p (Qa rfl rfl rfl QW (0) om om (Rw.some (hs.cs hil) om)) rfl (o_q (Qb rfl rfl Zg (((hs.cs hil).rdj 0 (i:=0) om rfl))) rfl (Qm (show _=Value.int .i64 (((nth L i).cs.getD 0 0).toNat:Int)from congrArg (Value.int .i64) (Int.toNat_of_nonneg (show 0<=(nth L i).cs.getD 0 0 by omega)).symm) (aT6 ?_))))
  refine aU2 ?_
  exact sBk (d+1,((nth L i).cs.getD 0 0).toNat,i::P) (by(try simp only[]);omega) ⟨hway2,by simp[hpl],by simp only[]at *;rw[show L.length-(d+1)=L.length-d-1 by omega];have h9:(nth L i).pl.cs=(nth L i).cs:=rfl;rw[h9]at hdm;omega⟩
 have hde:=Qo6 (ns:=pln L) (f:=L.length-d) (i:=i) (by rw[hnI];show(nth L i).cs.length=0;have hq:=h16;omega)
 rw[hde,Int.add_zero]at hdp
 have hdl:=Qks (pln L) L.length 0
 refine Qh rfl ?_
 refine aU4 ?_
 refine oCq rfl (λw1 h1=>c138 j mo rm a cap L (d:Int) L.length w1 Qcr [] (d:Int) none none 0 0 0 0 (hs.later h1) hj om hT hB h00 rfl rfl (by show(d:Int)=d+1-1;omega) (λ_ h=>by cases h) (λ_ h=>by cases h) rfl rfl (by simp)) (aU5 ?_)
 exact Ql (rs:=[.tmp 2,.tmp 3]) rfl (.tmp rfl (.tmp rfl (.nil))) (λw' h'=>⟨by rw[hz8,show Za ((⟨(j:Int),mo,rm,pln L⟩:Tre)).ns ((⟨(j:Int),mo,rm,pln L⟩:Tre)).ns.length 0=(d:Int)from by rw[hTL];exact hdp,show YV ((⟨(j:Int),mo,rm,pln L⟩:Tre)).ns=vis (pln L) L.length Qcr from hvis.symm];rfl,h'.below⟩)
theorem c84(w:World)(co mo rm:Int)(a:Option Addr)(cap:Nat)(L:List LNd)(hs:Nt w [] a L)(hB:Bd (pln L))(hkl:∀i,i<L.length->∀x∈(nth L i).es,x.key.length<=1000000):CR 84 #[.agg #[.int .i64 co,.int .i64 mo,.int .i64 rm,.slice a L.length cap]] w (.int .i64 (Yw (⟨co,mo,rm,pln L⟩:Tre)).2):=by
 refine eN1 Tryz.func84 Tryz.ntmps84 ?_
 refine aU2 ?_
 refine oBx λb1 _=>?_
 refine aU5 ?_
 refine oCq rfl (λw1 h1=>c71 w1 co mo rm a cap L (hs.later h1) hB hkl) (QbK ?_)
 exact rV
end Go.Proofs
namespace Gx
open Go Go.RowKit
def QbZ(x:TEnt):Bool:=decide (x.key.length<=44/\x.val.length<=70)
def QbG(es:List TEnt):Bool:=es.all QbZ
def QcH(n:Nd):Bool:=decide (n.es.length<=10/\n.cs.length<=11)&&QbG n.es
def Zb(ns:List Nd):Bool:=decide (ns.length<=122/\¬(60<ns.length/\ns.length<=120))&&ns.all QcH
theorem QsZ{n:Nd}(h1:n.es.length<=10)(h2:n.cs.length<=11)(h3:QbG n.es=true):QcH n=true:=by
 rw[QcH,decide_eq_true (And.intro h1 h2),h3];rfl
theorem QsI{n:Nd}(h:(10<n.es.length\/11<n.cs.length)\/QbG n.es=false):¬QcH n=true:=λh9=>by
 rw[QcH,Bool.and_eq_true,decide_eq_true_eq]at h9;rcases h with h|h
 ·omega
 ·rw[h]at h9;cases h9.2
theorem QnN{es:List TEnt}(h:∀q,q<es.length->QbZ (nth es q)=true):QbG es=true:=by
 refine List.all_eq_true.2 λx hx=>?_;obtain⟨q,hq,e⟩:=List.getElem_of_mem hx;have e2:nth es q=x:=YW (by rw[List.getElem?_eq_getElem hq,e]);rw[<-e2];exact h q hq
theorem QoA{es:List TEnt}{k:Nat}(hk:k<es.length)(h:¬QbZ (nth es k)=true):QbG es=false:=by
 cases e:QbG es
 ·rfl
 ·exact absurd (List.all_eq_true.1 e _ (Qy hk)) h
theorem Qtk{ns:List Nd}(h0:ns.length<=122/\¬(60<ns.length/\ns.length<=120))(h:∀q,q<ns.length->QcH (nth ns q)=true):Zb ns=true:=by
 rw[Zb,decide_eq_true h0,Bool.true_and];refine List.all_eq_true.2 λx hx=>?_;obtain⟨q,hq,e⟩:=List.getElem_of_mem hx;have e2:nth ns q=x:=YW (by rw[List.getElem?_eq_getElem hq,e]);rw[<-e2];exact h q hq
theorem QtR{ns:List Nd}{k:Nat}(hk:k<ns.length)(h:¬QcH (nth ns k)=true):Zb ns=false:=by
 cases e:Zb ns
 ·rfl
 ·rw[Zb,Bool.and_eq_true]at e;exact absurd (List.all_eq_true.1 e.2 _ (Qy hk)) h
theorem Qst{ns:List Nd}(h:¬(ns.length<=122/\¬(60<ns.length/\ns.length<=120))):Zb ns=false:=by
 rw[Zb,decide_eq_false h,Bool.false_and]
theorem Qp8{ns:List Nd}(h:Zb ns=true):ns.length<=122:=by
 rw[Zb,Bool.and_eq_true,decide_eq_true_eq]at h;exact h.1.1
theorem QcX{ns:List Nd}(h:Zb ns=true){k:Nat}(hk:k<ns.length):(nth ns k).es.length<=10/\(nth ns k).cs.length<=11/\∀x∈(nth ns k).es,x.key.length<=44/\x.val.length<=70:=by
 rw[Zb,Bool.and_eq_true]at h;have h2:=List.all_eq_true.1 h.2 _ (Qy hk);rw[QcH,Bool.and_eq_true,decide_eq_true_eq]at h2;refine⟨h2.1.1,h2.1.2,λx hx=>?_⟩;have h3:=List.all_eq_true.1 h2.2 _ hx;rw[QbZ,decide_eq_true_eq]at h3;exact h3
theorem Qsr{ns:List Nd}(h:Zb ns=true):Bd ns where
 len:=Nat.le_trans (Qp8 h) (by decide)
 es i hi:=Nat.le_trans (QcX h hi).1 (by decide)
 cs i hi:=Nat.le_trans (QcX h hi).2.1 (by decide)
theorem Qt0{ns:List Nd}(h:Zb ns=true):Sm 1000 ns:=λk=>by
 rcases Nat.lt_or_ge k ns.length with hk|hk
 ·exact⟨Nat.le_trans (QcX h hk).1 (by decide),Nat.le_trans (QcX h hk).2.1 (by decide)⟩
 ·rw[Z9 hk];exact⟨Nat.zero_le _,Nat.zero_le _⟩
theorem Qow{L:List LNd}(h:Zb (pln L)=true):∀i,i<L.length->∀x∈(nth L i).es,x.key.length<=1000000:=λi hi x hx=>by
 have h2:=(QcX h (k:=i) (by rw[Qe];exact hi)).2.2 x (by rw[Q0 hi];exact hx);omega
end Gx
namespace Go.Proofs
open Go Go.RowKit Gx
attribute [local irreducible] Go.Calls Gx.S Gx.O Gx.D Gx.OpP Gx.OpQ Gx.OpH
set_option maxRecDepth 20000
instance:TFn Tryz.prog 42:=⟨by kernel_rfl⟩
instance:TFn Tryz.prog 139:=⟨by kernel_rfl⟩
theorem c42(w:World)(x:TEnt):CR 42 #[.agg #[.string (bs x.key),.string (bs x.val)]] w (.bool (QbZ x)):=by
 refine eN1 Tryz.func42 Tryz.ntmps42 ?_
 refine aU2 ?_
 refine oBx λb1 _=>?_
 refine aU6 ?_
 refine o_p (Qg rfl rfl Tryz.underlying9) rfl (aU2 ?_)
 refine XP 5 7 12 rfl
  (λhg2 _=>by
   refine aU5 ?_
   refine o_p (Qg rfl rfl Tryz.underlying9) rfl (aU2 ?_)
   exact oJt 5 12)
  (λhg4 _=>by
   refine aU4 ?_
   exact oJf 5 12) ?_
 refine aU2 ?_
 exact rV (h:=by simp only[QX,QbZ,Bool.decide_and];congr 3<;>exact decide_eq_decide.2 om)
theorem c139(w:World)(a:Option Addr)(cap:Nat)(l:List TEnt)(hs:Rw TEnt.vals 2 w [] a l)(hl:l.length<=1000):CR 139 #[.slice a l.length cap] w (.bool (QbG l)):=by
 refine eN1 Tryz.func139 Tryz.ntmps139 ?_
 refine YR ?_
 refine Qt (α:=Nat) [2,3,4,5,6,7,8,9,10,11,12,13,14,15] (λk=>[(3,.int .i64 (k:Int))]) (λ_=>HS w [] []) (λk=>k<=l.length/\∀q,q<k->QbZ (nth l q)=true) (λk=>l.length-k) 0 ⟨Nat.zero_le _,λq h=>absurd h (Nat.not_lt_zero q)⟩ aSx (λw h=>h.ent aEt) (λk hx=>?_)
 obtain⟨hk1,hk3⟩:=hx
 refine aU8 ?_
 refine sCd rfl (λh1=>?_) λh1=>?_
 ·have hk5:k<l.length:=by omega
  refine aU7 ?_
  refine o_p (Qa rfl rfl rfl Q3 (k) om om (Rw.some hs om)) rfl (o_q (Qs _ rfl rfl QaM rfl (Rw.rd hs hk5)) rfl (oCq rfl (λw1 h1=>c42 w1 (nth l k)) (aU2 ?_)))
  refine sCd rfl (λh2=>?_) λh2=>?_
  ·have hz1:¬QbZ (nth l k)=true:=by have hq:=h2;simp[hq]
   have hbad:=QoA hk5 hz1
   refine aU4 ?_
   exact rV (h:=by rw[hbad];rfl)
  have hz1:QbZ (nth l k)=true:=by have hq:=h2;simpa using hq
  refine aT5 ?_
  refine aU2 ?_
  exact sBk (k+1) om ⟨om,λq hq=>(Nat.lt_or_ge q k).elim (hk3 q) (λh9=>by obtain rfl:q=k:=om;exact hz1)⟩
 have hall:=QnN (es:=l) (λq hq=>hk3 q om)
 refine Qh rfl ?_
 refine aU4 ?_
 exact rV (h:=by rw[hall];rfl)
theorem c74(w:World)(co mo rm:Int)(a:Option Addr)(cap:Nat)(L:List LNd)(hs:Nt w [] a L):CR 74 #[.agg #[.int .i64 co,.int .i64 mo,.int .i64 rm,.slice a L.length cap]] w (.bool (Zb (pln L))):=by
 have hnl:(pln L).length=L.length:=Qe L
 refine eN1 Tryz.func74 Tryz.ntmps74 ?_
 refine aU2 ?_
 refine oBx λb1 _=>?_
 refine YR ?_
 refine XP 5 8 13 rfl
  (λhg2 _=>by
   refine aU8 ?_
   exact oJt 5 13)
  (λhg4 _=>by
   refine aU4 ?_
   exact oJf 5 13) ?_
 refine aU ?_
 refine oOr 5 14 19 rfl
  (λhg6 _=>by
   refine aU8 ?_
   exact oJf 5 19)
  (λhg8 _=>by
   refine aU4 ?_
   exact oJt 5 19) ?_
 refine aU ?_
 refine sCd rfl (λh10=>?_) λh10=>?_
 ·have hbad:=Qst (ns:=pln L) (by rw[hnl];have hq:=h10;omega)
  refine aU4 ?_
  exact rV (h:=by rw[hbad];rfl)
 have hlen:L.length<=122/\¬(60<L.length/\L.length<=120):=by have hq:=h10;omega
 refine aU7 ?_
 refine Qt (α:=Nat) [2,3,20,21,22,23,24,25,26,27,28,29,30,31,32,33,34,35,36,37,38,39,40,41,42,43,44,45,46,47,48,49,50,51,52,53,54] (λk=>[(3,.int .i64 (k:Int))]) (λ_=>HS w [] [.blk b1 37 4 [.int .i64 co,.int .i64 mo,.int .i64 rm,.slice a L.length cap]]) (λk=>k<=L.length/\∀q,q<k->QcH (nth (pln L) q)=true) (λk=>L.length-k) 0 ⟨Nat.zero_le _,λq h=>absurd h (Nat.not_lt_zero q)⟩ aSx (λw h=>h.ent aEt) (λk hx=>?_)
 obtain⟨hk1,hk3⟩:=hx
 refine aU9 ?_
 refine sCd rfl (λh11=>?_) λh11=>?_
 ·have hk5:k<L.length:=by omega
  have hnk:=Q0 hk5
  refine aU8 ?_
  refine o_p (Qa rfl rfl rfl QT (k) om om (Rw.some hs.1 om)) rfl (aU ?_)
  refine o_q (Qb rfl rfl Qds ((hs.1.rdj 1 hk5 rfl))) rfl (aU3 ?_)
  refine oOr 9 35 44 rfl
   (λhg12 _=>by
    refine aU7 ?_
    refine o_p (Qa rfl rfl rfl QT (k) om om (Rw.some hs.1 om)) rfl (aU3 ?_)
    refine o_q (Qb rfl rfl QcI ((hs.1.rdj 2 hk5 rfl))) rfl (aU4 ?_)
    exact oJf 9 44)
   (λhg14 _=>by
    refine aU8 ?_
    exact oJt 9 44) ?_
  refine aU ?_
  refine oOr 9 45 54 rfl
   (λhg16 _=>by
    refine aU7 ?_
    refine o_p (Qa rfl rfl rfl QT (k) om om (Rw.some hs.1 om)) rfl (aU3 ?_)
    refine o_q (Qb rfl rfl Qds ((hs.1.rdj 1 hk5 rfl))) rfl (aU ?_)
    refine oCq rfl (λw1 h1=>c139 w1 (nth L k).ea (nth L k).ec (nth L k).es ((hs.es hk5).later h1) (by have hq:=hg16;omega)) (aU2 ?_)
    exact oJf 9 54)
   (λhg18 _=>by
    refine aU8 ?_
    exact oJt 9 54) ?_
  refine aU ?_
  refine sCd rfl (λh20=>?_) λh20=>?_
  ·have hz1:¬QcH (nth (pln L) k)=true:=by rw[hnk];have hq:=h20;exact QsI (hq.imp (λh9=>by show 10<(nth L k).es.length\/11<(nth L k).cs.length;omega) id)
   have hbad:=QtR (by rw[hnl];exact hk5) hz1
   refine aU4 ?_
   exact rV (h:=by rw[hbad];rfl)
  have hz1:QcH (nth (pln L) k)=true:=by rw[hnk];have hq:=h20;exact QsZ (by show(nth L k).es.length<=10;omega) (by show(nth L k).cs.length<=11;omega) hq.2
  refine aT5 ?_
  refine aU2 ?_
  exact sBk (k+1) om ⟨om,λq hq=>(Nat.lt_or_ge q k).elim (hk3 q) (λh9=>by obtain rfl:q=k:=om;exact hz1)⟩
 have hall:=Qtk (ns:=pln L) (by rw[hnl];exact hlen) (λq hq=>hk3 q (by rw[hnl]at hq;omega))
 refine Qh rfl ?_
 refine aU4 ?_
 exact rV (h:=by rw[hall];rfl)
theorem Qwb:QuA Tryz.prog 211 67 4:=⟨_,Tryz.func211,rfl,rfl,by kernel_rfl,by kernel_rfl⟩
theorem Qvc:QuA Tryz.prog 263 28 4:=⟨_,Tryz.func263,rfl,rfl,by kernel_rfl,by kernel_rfl⟩
theorem QwC(w:World)(a:Option Addr)(i n m cap:Nat)(xs news:List Value)(b0 c0 tot2:Nat)(hw:HS w (fps [.own (.slice a n cap) 27 2 n xs,.blk b0 27 tot2 news]) [.own (.slice a n cap) 27 2 n xs,.blk b0 27 tot2 news] w)(hm0:0<m)(hl:news.length=m*2)(hn1:∀u∈news,u.oneCell'=true)(hx1:∀u∈xs,u.oneCell'=true)(hmax:(n+m)*32<=140737488355328)(hi:i=n):CE 165 #[.slice a n cap,.int .i64 i,.slice (some ⟨b0,0,none⟩) m c0] w (fps [.own (.slice a n cap) 27 2 n xs,.blk b0 27 tot2 news]) (λg:Option Addr×Nat=>.slice g.1 (n+m) g.2) (λg=>True) λg=>[.own (.slice g.1 (n+m) g.2) 27 2 (n+m) (xs.take (i*2)++news++xs.drop (i*2)),.blk b0 27 tot2 news]:=by
 obtain⟨_,hnc,hcm,hxl⟩:=hw.own_facts .here
 refine eW3 Tryz.func165 Tryz.ntmps165 hw ?_
 refine aU8 ?_
 refine o_p (QA _ _ i n rfl rfl Q3 ⟨_,_,rfl,rfl⟩ rfl om om) rfl (QaU ?_)
 refine sCd rfl (λh1=>?_) λh1=>?_
 ·exfalso;first|omega|(simp at h1;done)|(simp_all;done)
 refine QgU ?_
 refine sCd rfl (λh2=>?_) λh2=>?_
 ·refine aU4 ?_
  refine o_h (Xe news rfl rfl rfl Q3 Tryz.underlying67 Z0 rfl aPk (Xg aPk) hl hn1 om (by simp only[maxLen];omega)) rfl (λb3 _=>aU2 ?_)
  exact rT rfl rfl (λw' h'=>⟨(_,_),rfl,trivial,by subst hi;rw[List.take_of_length_le om,List.drop_eq_nil_of_le om,List.append_nil];exact h'.ent aEt⟩)
 exfalso;first|omega|(simp at h2;done)|(simp_all;done)
theorem Qw4(w:World)(gg i n m cap:Nat)(xs news:List Value)(b0 c0 tot2:Nat)(M:List Nat)(hw:HS w M [.blk gg 27 (cap*2) xs,.blk b0 27 tot2 news] w)(hnc:n<=cap)(hcm:cap<=maxLen)(hxl:xs.length=n*2)(hm0:0<m)(hl:news.length=m*2)(hn1:∀u∈news,u.oneCell'=true)(hx1:∀u∈xs,u.oneCell'=true)(hmax:(n+m)*32<=140737488355328)(hi:i<n):CE 165 #[.slice (some ⟨gg,0,none⟩) n cap,.int .i64 i,.slice (some ⟨b0,0,none⟩) m c0] w M (λg:Option Addr×Nat=>.slice g.1 (n+m) g.2) (λg=>True) λg=>[.own (.slice g.1 (n+m) g.2) 27 2 (n+m) (xs.take (i*2)++news++xs.drop (i*2)),.blk b0 27 tot2 news]:=by
 have ht2:=(hw.blk_get (.there .here)).len_le
 have hcl:(cut xs 0 (i*2)).length=i*2:=XG _ _ _ om
 refine eW3 Tryz.func165 Tryz.ntmps165 hw ?_
 refine aU8 ?_
 refine o_p (QA _ _ i n rfl rfl Q3 ⟨_,_,rfl,rfl⟩ rfl om om) rfl (QaU ?_)
 refine sCd rfl (λh1=>?_) λh1=>?_
 ·exfalso;first|omega|(simp at h1;done)|(simp_all;done)
 refine QgU ?_
 refine sCd rfl (λh2=>?_) λh2=>?_
 ·exfalso;first|omega|(simp at h2;done)|(simp_all;done)
 refine aT7 ?_
 refine aU ?_
 refine o_p (Qpl rfl rfl Tryz.underlying67) rfl (aU2 ?_)
 refine sCd rfl (λh3=>?_) λh3=>?_
 ·refine aU4 ?_
  refine o_p (QA _ _ 0 i rfl rfl Q3 rfl ⟨_,_,rfl,rfl⟩ om om) rfl ?_
  refine Qm (show _=Value.slice (some ⟨gg,0,none⟩) (i) (cap)from by rw[Zv]<;>(congr 1<;>omega)) (aT3 ?_)
  refine aT2 ?_
  refine Qm (show _=Value.int .i64 ((n+m-i:Nat):Int)from by first|rfl|(congr 1<;>first|rfl|omega)) (o_h (Qav (m:=n+m-i) (olds:=cut xs 0 (i*2)) rfl rfl rfl Q3 YP Z0 rfl (by decide) om om (Qab 0 (i*2) (λ_=>rfl) aPk) hcl om (by simp only[maxLen];omega)) rfl (λ⟨b4,c5⟩⟨h6,k7⟩=>?_))
  refine Qm (show _=Value.slice (some ⟨b4,0,none⟩) (n+m) c5 from by first|rfl|(congr 1<;>first|rfl|omega)) (aU3 ?_)
  refine Qj (L':=[(0,_),(1,_),(2,_),(6,_),(7,_),(8,_),(9,_)]) aSx (λ_ h=>h) ?_
  refine aU3 ?_
  refine o_p (QA _ _ i (n+m) rfl rfl Q3 ⟨_,_,rfl,rfl⟩ rfl om om) rfl ?_
  refine Qm (show _=Value.slice (some ⟨b4,i*2,none⟩) (n+m-i) (c5-i)from by rw[XO om]<;>(congr 1<;>omega)) (aU ?_)
  refine o_h (QbI m news rfl rfl rfl Q3 aPt om hl (λ_=>rfl) (by simp only[QG,List.length_append,Qf];omega) (Xg aPk) hn1) rfl (λ_ _=>aU2 ?_)
  refine Qz [8] QJ ?_
  refine dP 0 ?_
  refine dP 1 ?_
  refine dP 2 ?_
  refine dP 3 ?_
  try refine dWr ?_
  refine dV 4 rfl (QA _ _ (i+m) (n+m) rfl rfl Q3 ⟨_,_,rfl,om⟩ rfl om om) ?_
  refine QC (show _=Value.slice (some ⟨b4,(i+m)*2,none⟩) (n-i) (c5-(i+m))from by rw[XO om]<;>(congr 1<;>omega)) (dP 5 ?_)
  refine dP 6 ?_
  refine dV 7 rfl (QA _ _ i n rfl rfl Q3 ⟨_,_,rfl,rfl⟩ rfl om om) ?_
  refine QC (show _=Value.slice (some ⟨gg,i*2,none⟩) (n-i) (cap-i)from by rw[XO om]<;>(congr 1<;>omega)) (dH 8 rfl (QbI (n-i) (cut xs (i*2) ((n-i)*2)) rfl rfl rfl Q3 aPt om (XG _ _ _ om) (λ_=>rfl) (by rw[XG _ _ _ om];simp only[QG,List.length_append,Qf];omega) (Qab (i*2) ((n-i)*2) (λ_=>rfl) aPk) (Qiy hx1 _ _)) (λ_ _=>dTu [] ?_))
  refine dNi ?_
  refine aU5 ?_
  exact rT rfl rfl (λw' h'=>⟨(some ⟨b4,0,none⟩,c5),rfl,trivial,(HS.to_own (n:=n+m) (xs:=xs.take (i*2)++news++xs.drop (i*2)) (ds:=[]) aPk h' (by have hq:=QkL (xs:=xs) (news:=news) (z:=XJ [.string (bs []),.string (bs [])] ((n+m-i)*2)) (p:=i*2) (q:=m*2) (N:=n*2) hxl om hl (by rw[QG];omega);rw[List.append_nil];rw[show(i+m)*2=i*2+m*2 from om,show(n-i)*2=n*2-i*2 from om];exact hq) (by simp only[List.length_append,List.length_take,List.length_drop];omega) om om).ent aEt⟩)
 refine aT7 ?_
 refine o_p (QA _ _ 0 (n+m) rfl rfl Q3 rfl ⟨_,_,rfl,om⟩ om om) rfl ?_
 refine Qm (show _=Value.slice (some ⟨gg,0,none⟩) (n+m) cap from by rw[Zv]<;>(congr 1<;>omega)) (o_ex (λw h=>HS.blk_full (b:=gg) aPk h) λds=>?_)
 refine Qr2 (λw h=>h.1) λhds=>XB (λw h=>h.2) (Qln ?_)
 refine o_p (QA _ _ (i+m) (n+m) rfl rfl Q3 ⟨_,_,rfl,om⟩ rfl om om) rfl ?_
 refine Qm (show _=Value.slice (some ⟨gg,(i+m)*2,none⟩) (n-i) (cap-(i+m))from by rw[XO om]<;>(congr 1<;>omega)) (o_q (QgI rfl Qwb rfl rfl Q3 (hp:=aPk) (hp':=aPk) (by decide) om om) rfl (aU2 ?_))
 refine sCd rfl (λh8=>?_) λh8=>?_
 ·refine aU ?_
  refine Qj (L':=[(0,_),(1,_),(2,_),(6,_),(7,_),(8,_)]) aSx (λ_ h=>h) ?_
  refine Qz [8] QJ ?_
  refine dP 0 ?_
  refine dP 1 ?_
  refine dP 2 ?_
  refine dP 3 ?_
  try refine dWr ?_
  refine dV 4 rfl (QA _ _ (i+m) (n+m) rfl rfl Q3 ⟨_,_,rfl,om⟩ rfl om om) ?_
  refine QC (show _=Value.slice (some ⟨gg,(i+m)*2,none⟩) (n-i) (cap-(i+m))from by rw[XO om]<;>(congr 1<;>omega)) (dP 5 ?_)
  refine dP 6 ?_
  refine dV 7 rfl (QA _ _ i (n+m) rfl rfl Q3 ⟨_,_,rfl,rfl⟩ rfl om om) ?_
  refine QC (show _=Value.slice (some ⟨gg,i*2,none⟩) (n+m-i) (cap-i)from by rw[XO om]<;>(congr 1<;>omega)) (dH 8 rfl (QbI (n-i) (cut (xs++ds) (i*2) ((n-i)*2)) rfl rfl rfl Q3 aPt om (XG _ _ _ (by simp only[QG,List.length_append,Qf];omega)) (λ_=>rfl) (by rw[XG _ _ _ (by simp only[QG,List.length_append,Qf];omega)];simp only[QG,List.length_append,Qf];omega) (Qab (i*2) ((n-i)*2) (λ_=>rfl) aPk) (QnA hx1 om)) (λ_ _=>dTu [] ?_))
  refine dNi ?_
  refine aU4 ?_
  refine o_p (QA _ _ i (n+m) rfl rfl Q3 ⟨_,_,rfl,rfl⟩ rfl om om) rfl ?_
  refine Qm (show _=Value.slice (some ⟨gg,i*2,none⟩) (n+m-i) (cap-i)from by rw[XO om]<;>(congr 1<;>omega)) (aU ?_)
  refine o_h (QbI m news rfl rfl rfl Q3 aPt om hl (λ_=>rfl) (by simp only[QG,List.length_append,Qf];omega) (Xg aPk) hn1) rfl (λ_ _=>aU6 ?_)
  exact rT rfl rfl (λw' h'=>⟨(some ⟨gg,0,none⟩,cap),rfl,trivial,(HS.to_own (n:=n+m) (xs:=xs.take (i*2)++news++xs.drop (i*2)) (ds:=ds.drop (m*2)) aPk h' (by have hq:=QrC (xs:=xs) (ds:=ds) (news:=news) (p:=i*2) (q:=m*2) (N:=n*2) hxl om hl om;rw[show(i+m)*2=i*2+m*2 from om,show(n-i)*2=n*2-i*2 from om];exact hq) (by simp only[List.length_append,List.length_take,List.length_drop];omega) om om).ent aEt⟩)
 exfalso;first|omega|(simp at h8;done)|(simp_all;done)
theorem c165(w:World)(a:Option Addr)(i n m cap:Nat)(xs news:List Value)(b0 c0 tot2:Nat)(hw:HS w (fps [.own (.slice a n cap) 27 2 n xs,.blk b0 27 tot2 news]) [.own (.slice a n cap) 27 2 n xs,.blk b0 27 tot2 news] w)(hm0:0<m)(hl:news.length=m*2)(hn1:∀u∈news,u.oneCell'=true)(hx1:∀u∈xs,u.oneCell'=true)(hmax:(n+m)*32<=140737488355328)(hi:i<=n):CE 165 #[.slice a n cap,.int .i64 i,.slice (some ⟨b0,0,none⟩) m c0] w (fps [.own (.slice a n cap) 27 2 n xs,.blk b0 27 tot2 news]) (λg:Option Addr×Nat=>.slice g.1 (n+m) g.2) (λg=>True) λg=>[.own (.slice g.1 (n+m) g.2) 27 2 (n+m) (xs.take (i*2)++news++xs.drop (i*2)),.blk b0 27 tot2 news]:=by
  rcases Nat.lt_or_ge i n with h|h
  · obtain⟨gg,rfl,_,hnc,hcm,hxl,hb⟩:=hw.own_blk om .here;exact Qw4 w gg i n m cap xs news b0 c0 tot2 _ hb hnc hcm hxl hm0 hl hn1 hx1 hmax h
  · exact QwC w a i n m cap xs news b0 c0 tot2 hw hm0 hl hn1 hx1 hmax om
theorem QwX(w:World)(a:Option Addr)(i n m cap:Nat)(xs news:List Value)(b0 c0 tot2:Nat)(hw:HS w (fps [.own (.slice a n cap) 3 1 n xs,.blk b0 3 tot2 news]) [.own (.slice a n cap) 3 1 n xs,.blk b0 3 tot2 news] w)(hm0:0<m)(hl:news.length=m*1)(hn1:∀u∈news,u.oneCell'=true)(hx1:∀u∈xs,u.oneCell'=true)(hmax:(n+m)*8<=140737488355328)(hi:i=n):CE 249 #[.slice a n cap,.int .i64 i,.slice (some ⟨b0,0,none⟩) m c0] w (fps [.own (.slice a n cap) 3 1 n xs,.blk b0 3 tot2 news]) (λg:Option Addr×Nat=>.slice g.1 (n+m) g.2) (λg=>True) λg=>[.own (.slice g.1 (n+m) g.2) 3 1 (n+m) (xs.take (i*1)++news++xs.drop (i*1)),.blk b0 3 tot2 news]:=by
 obtain⟨_,hnc,hcm,hxl⟩:=hw.own_facts .here
 refine eW3 Tryz.func249 Tryz.ntmps249 hw ?_
 refine aU8 ?_
 refine o_p (QA _ _ i n rfl rfl QW ⟨_,_,rfl,rfl⟩ rfl om om) rfl (QaU ?_)
 refine sCd rfl (λh1=>?_) λh1=>?_
 ·exfalso;first|omega|(simp at h1;done)|(simp_all;done)
 refine QgU ?_
 refine sCd rfl (λh2=>?_) λh2=>?_
 ·refine aU4 ?_
  refine o_h (Xe news rfl rfl rfl QW Tryz.underlying28 Qcf rfl aPk (Xg aPk) hl hn1 om (by simp only[maxLen];omega)) rfl (λb3 _=>aU2 ?_)
  exact rT rfl rfl (λw' h'=>⟨(_,_),rfl,trivial,by subst hi;rw[List.take_of_length_le om,List.drop_eq_nil_of_le om,List.append_nil];exact h'.ent aEt⟩)
 exfalso;first|omega|(simp at h2;done)|(simp_all;done)
theorem QwO(w:World)(gg i n m cap:Nat)(xs news:List Value)(b0 c0 tot2:Nat)(M:List Nat)(hw:HS w M [.blk gg 3 (cap*1) xs,.blk b0 3 tot2 news] w)(hnc:n<=cap)(hcm:cap<=maxLen)(hxl:xs.length=n*1)(hm0:0<m)(hl:news.length=m*1)(hn1:∀u∈news,u.oneCell'=true)(hx1:∀u∈xs,u.oneCell'=true)(hmax:(n+m)*8<=140737488355328)(hi:i<n):CE 249 #[.slice (some ⟨gg,0,none⟩) n cap,.int .i64 i,.slice (some ⟨b0,0,none⟩) m c0] w M (λg:Option Addr×Nat=>.slice g.1 (n+m) g.2) (λg=>True) λg=>[.own (.slice g.1 (n+m) g.2) 3 1 (n+m) (xs.take (i*1)++news++xs.drop (i*1)),.blk b0 3 tot2 news]:=by
 have ht2:=(hw.blk_get (.there .here)).len_le
 have hcl:(cut xs 0 (i*1)).length=i*1:=XG _ _ _ om
 refine eW3 Tryz.func249 Tryz.ntmps249 hw ?_
 refine aU8 ?_
 refine o_p (QA _ _ i n rfl rfl QW ⟨_,_,rfl,rfl⟩ rfl om om) rfl (QaU ?_)
 refine sCd rfl (λh1=>?_) λh1=>?_
 ·exfalso;first|omega|(simp at h1;done)|(simp_all;done)
 refine QgU ?_
 refine sCd rfl (λh2=>?_) λh2=>?_
 ·exfalso;first|omega|(simp at h2;done)|(simp_all;done)
 refine aT7 ?_
 refine aU ?_
 refine o_p (Qpl rfl rfl Tryz.underlying28) rfl (aU2 ?_)
 refine sCd rfl (λh3=>?_) λh3=>?_
 ·refine aU4 ?_
  refine o_p (QA _ _ 0 i rfl rfl QW rfl ⟨_,_,rfl,rfl⟩ om om) rfl ?_
  refine Qm (show _=Value.slice (some ⟨gg,0,none⟩) (i) (cap)from by rw[Zv]<;>(congr 1<;>omega)) (aT3 ?_)
  refine aT2 ?_
  refine Qm (show _=Value.int .i64 ((n+m-i:Nat):Int)from by first|rfl|(congr 1<;>first|rfl|omega)) (o_h (Qav (m:=n+m-i) (olds:=cut xs 0 (i*1)) rfl rfl rfl QW YP Qcf rfl (by decide) om om (Qab 0 (i*1) (λ_=>rfl) aPk) hcl om (by simp only[maxLen];omega)) rfl (λ⟨b4,c5⟩⟨h6,k7⟩=>?_))
  refine Qm (show _=Value.slice (some ⟨b4,0,none⟩) (n+m) c5 from by first|rfl|(congr 1<;>first|rfl|omega)) (aU3 ?_)
  refine Qj (L':=[(0,_),(1,_),(2,_),(6,_),(7,_),(8,_),(9,_)]) aSx (λ_ h=>h) ?_
  refine aU3 ?_
  refine o_p (QA _ _ i (n+m) rfl rfl QW ⟨_,_,rfl,rfl⟩ rfl om om) rfl ?_
  refine Qm (show _=Value.slice (some ⟨b4,i*1,none⟩) (n+m-i) (c5-i)from by rw[XO om]<;>(congr 1<;>omega)) (aU ?_)
  refine o_h (QbI m news rfl rfl rfl QW aPt om hl (λ_=>rfl) (by simp only[QG,List.length_append,Qf];omega) (Xg aPk) hn1) rfl (λ_ _=>aU2 ?_)
  refine Qz [8] QJ ?_
  refine dP 0 ?_
  refine dP 1 ?_
  refine dP 2 ?_
  refine dP 3 ?_
  try refine dWr ?_
  refine dV 4 rfl (QA _ _ (i+m) (n+m) rfl rfl QW ⟨_,_,rfl,om⟩ rfl om om) ?_
  refine QC (show _=Value.slice (some ⟨b4,(i+m)*1,none⟩) (n-i) (c5-(i+m))from by rw[XO om]<;>(congr 1<;>omega)) (dP 5 ?_)
  refine dP 6 ?_
  refine dV 7 rfl (QA _ _ i n rfl rfl QW ⟨_,_,rfl,rfl⟩ rfl om om) ?_
  refine QC (show _=Value.slice (some ⟨gg,i*1,none⟩) (n-i) (cap-i)from by rw[XO om]<;>(congr 1<;>omega)) (dH 8 rfl (QbI (n-i) (cut xs (i*1) ((n-i)*1)) rfl rfl rfl QW aPt om (XG _ _ _ om) (λ_=>rfl) (by rw[XG _ _ _ om];simp only[QG,List.length_append,Qf];omega) (Qab (i*1) ((n-i)*1) (λ_=>rfl) aPk) (Qiy hx1 _ _)) (λ_ _=>dTu [] ?_))
  refine dNi ?_
  refine aU5 ?_
  exact rT rfl rfl (λw' h'=>⟨(some ⟨b4,0,none⟩,c5),rfl,trivial,(HS.to_own (n:=n+m) (xs:=xs.take (i*1)++news++xs.drop (i*1)) (ds:=[]) aPk h' (by have hq:=QkL (xs:=xs) (news:=news) (z:=XJ [.int .i64 0] ((n+m-i)*1)) (p:=i*1) (q:=m*1) (N:=n*1) hxl om hl (by rw[QG];omega);rw[List.append_nil];rw[show(i+m)*1=i*1+m*1 from om,show(n-i)*1=n*1-i*1 from om];exact hq) (by simp only[List.length_append,List.length_take,List.length_drop];omega) om om).ent aEt⟩)
 refine aT7 ?_
 refine o_p (QA _ _ 0 (n+m) rfl rfl QW rfl ⟨_,_,rfl,om⟩ om om) rfl ?_
 refine Qm (show _=Value.slice (some ⟨gg,0,none⟩) (n+m) cap from by rw[Zv]<;>(congr 1<;>omega)) (o_ex (λw h=>HS.blk_full (b:=gg) aPk h) λds=>?_)
 refine Qr2 (λw h=>h.1) λhds=>XB (λw h=>h.2) (Qln ?_)
 refine o_p (QA _ _ (i+m) (n+m) rfl rfl QW ⟨_,_,rfl,om⟩ rfl om om) rfl ?_
 refine Qm (show _=Value.slice (some ⟨gg,(i+m)*1,none⟩) (n-i) (cap-(i+m))from by rw[XO om]<;>(congr 1<;>omega)) (o_q (QgI rfl Qvc rfl rfl QW (hp:=aPk) (hp':=aPk) (by decide) om om) rfl (aU2 ?_))
 refine sCd rfl (λh8=>?_) λh8=>?_
 ·refine aU ?_
  refine Qj (L':=[(0,_),(1,_),(2,_),(6,_),(7,_),(8,_)]) aSx (λ_ h=>h) ?_
  refine Qz [8] QJ ?_
  refine dP 0 ?_
  refine dP 1 ?_
  refine dP 2 ?_
  refine dP 3 ?_
  try refine dWr ?_
  refine dV 4 rfl (QA _ _ (i+m) (n+m) rfl rfl QW ⟨_,_,rfl,om⟩ rfl om om) ?_
  refine QC (show _=Value.slice (some ⟨gg,(i+m)*1,none⟩) (n-i) (cap-(i+m))from by rw[XO om]<;>(congr 1<;>omega)) (dP 5 ?_)
  refine dP 6 ?_
  refine dV 7 rfl (QA _ _ i (n+m) rfl rfl QW ⟨_,_,rfl,rfl⟩ rfl om om) ?_
  refine QC (show _=Value.slice (some ⟨gg,i*1,none⟩) (n+m-i) (cap-i)from by rw[XO om]<;>(congr 1<;>omega)) (dH 8 rfl (QbI (n-i) (cut (xs++ds) (i*1) ((n-i)*1)) rfl rfl rfl QW aPt om (XG _ _ _ (by simp only[QG,List.length_append,Qf];omega)) (λ_=>rfl) (by rw[XG _ _ _ (by simp only[QG,List.length_append,Qf];omega)];simp only[QG,List.length_append,Qf];omega) (Qab (i*1) ((n-i)*1) (λ_=>rfl) aPk) (QnA hx1 om)) (λ_ _=>dTu [] ?_))
  refine dNi ?_
  refine aU4 ?_
  refine o_p (QA _ _ i (n+m) rfl rfl QW ⟨_,_,rfl,rfl⟩ rfl om om) rfl ?_
  refine Qm (show _=Value.slice (some ⟨gg,i*1,none⟩) (n+m-i) (cap-i)from by rw[XO om]<;>(congr 1<;>omega)) (aU ?_)
  refine o_h (QbI m news rfl rfl rfl QW aPt om hl (λ_=>rfl) (by simp only[QG,List.length_append,Qf];omega) (Xg aPk) hn1) rfl (λ_ _=>aU6 ?_)
  exact rT rfl rfl (λw' h'=>⟨(some ⟨gg,0,none⟩,cap),rfl,trivial,(HS.to_own (n:=n+m) (xs:=xs.take (i*1)++news++xs.drop (i*1)) (ds:=ds.drop (m*1)) aPk h' (by have hq:=QrC (xs:=xs) (ds:=ds) (news:=news) (p:=i*1) (q:=m*1) (N:=n*1) hxl om hl om;rw[show(i+m)*1=i*1+m*1 from om,show(n-i)*1=n*1-i*1 from om];exact hq) (by simp only[List.length_append,List.length_take,List.length_drop];omega) om om).ent aEt⟩)
 exfalso;first|omega|(simp at h8;done)|(simp_all;done)
theorem c249(w:World)(a:Option Addr)(i n m cap:Nat)(xs news:List Value)(b0 c0 tot2:Nat)(hw:HS w (fps [.own (.slice a n cap) 3 1 n xs,.blk b0 3 tot2 news]) [.own (.slice a n cap) 3 1 n xs,.blk b0 3 tot2 news] w)(hm0:0<m)(hl:news.length=m*1)(hn1:∀u∈news,u.oneCell'=true)(hx1:∀u∈xs,u.oneCell'=true)(hmax:(n+m)*8<=140737488355328)(hi:i<=n):CE 249 #[.slice a n cap,.int .i64 i,.slice (some ⟨b0,0,none⟩) m c0] w (fps [.own (.slice a n cap) 3 1 n xs,.blk b0 3 tot2 news]) (λg:Option Addr×Nat=>.slice g.1 (n+m) g.2) (λg=>True) λg=>[.own (.slice g.1 (n+m) g.2) 3 1 (n+m) (xs.take (i*1)++news++xs.drop (i*1)),.blk b0 3 tot2 news]:=by
  rcases Nat.lt_or_ge i n with h|h
  · obtain⟨gg,rfl,_,hnc,hcm,hxl,hb⟩:=hw.own_blk om .here;exact QwO w gg i n m cap xs news b0 c0 tot2 _ hb hnc hcm hxl hm0 hl hn1 hx1 hmax h
  · exact QwX w a i n m cap xs news b0 c0 tot2 hw hm0 hl hn1 hx1 hmax om
end Go.Proofs
namespace Gx
open Go Go.RowKit
def Qe8(cap:Nat)(l:List UInt8):List Value:=l.map bv++List.replicate (cap-l.length) (bv 0)
def QwP(a:Option Addr)(cap:Nat)(l:List UInt8)(w:World):Prop:=
 (a=none/\cap=0/\l=[])\/∃g,a=some ⟨g,0,none⟩/\l.length<=cap/\cap<=maxLen/\Q5 g u8T cap (Qe8 cap l) w
theorem QjM{cap:Nat}{l:List UInt8}(h:l.length<=cap):(Qe8 cap l).length=cap:=by grind[Qe8]
def HA.byz(a:Option Addr)(cap:Nat)(l:List UInt8):HA:=⟨(Value.slice a l.length cap).ownBlock.toList,QwP a cap l,λw w' h ha=>by
  obtain⟨h1,h2,h3⟩|⟨g,rfl,h2,h3,hb⟩:=ha
  ·exact .inl ⟨h1,h2,h3⟩
  ·exact .inr ⟨g,rfl,h2,h3,Q5.loc (h g (by simp[Value.ownBlock])) hb⟩⟩
theorem HA.fp_byz(a:Option Addr)(cap:Nat)(l:List UInt8):(HA.byz a cap l).fp=(Value.slice a l.length cap).ownBlock.toList:=rfl
def Qck(a:Option Addr)(cap:Nat)(g:Option Addr×Nat)(n:Nat):Prop:=n<=cap->g.1=a/\g.2=cap
theorem Qck.trans{a:Option Addr}{cap:Nat}{g g':Option Addr×Nat}{n m:Nat}(h:Qck a cap g n)(h':Qck g.1 g.2 g' m)(hle:n<=m):Qck a cap g' m:=λhm=>by
 obtain⟨e1,e2⟩:=h (Nat.le_trans hle hm);obtain⟨e3,e4⟩:=h' (by rw[e2];exact hm)
 grind
section
variable{w0 w:World}{M:List Nat}{As As':List HA}
theorem HS.byz_nil(h:HS w0 M As w):HS w0 M (.byz none 0 []::As) w:=
 ⟨h.os,h.tape,h.output,h.size,h.old,λA hA=>by
  rcases List.mem_cons.1 hA with rfl|hA
  ·exact .inl ⟨rfl,rfl,rfl⟩
  ·exact h.ok A hA,λA hA b hb=>by
  rcases List.mem_cons.1 hA with rfl|hA
  ·simp[HA.fp_byz,Value.ownBlock]at hb
  ·exact h.lt A hA b hb,.cons (λB _ b hb=>by simp[HA.fp_byz,Value.ownBlock]at hb) h.sep⟩
theorem HS.byz_blk{g cap:Nat}{l:List UInt8}{cs:List Value}(hp:QP As (.blk g u8T cap cs) As')(h:HS w0 M As w)(hl:l.length<=cap)(hc:cap<=maxLen)(hcs:cs=Qe8 cap l):HS w0 M (.byz (some ⟨g,0,none⟩) cap l::As') w:=by
 subst hcs;exact(h.pick hp).turn (λb hb=>by simpa[HA.fp_byz,HA.fp_blk,Value.ownBlock]using hb) λhb=>.inr ⟨g,rfl,hl,hc,hb⟩
theorem HS.blk_byz{a:Option Addr}{cap:Nat}{l:List UInt8}(hp:QP As (.byz a cap l) As')(h:HS w0 M As w)(h0:0<cap):∃g,a=some ⟨g,0,none⟩/\l.length<=cap/\cap<=maxLen/\HS w0 M (.blk g u8T cap (Qe8 cap l)::As') w:=by
 have h1:=h.pick hp;rcases h1.head with⟨_,h2,_⟩|⟨g,rfl,h2,h3,hb⟩
 ·omega
 ·exact⟨g,rfl,h2,h3,h1.turn (λb hb=>by simpa[HA.fp_byz,HA.fp_blk,Value.ownBlock]using hb) λ_=>hb⟩
theorem HS.byz_own{a:Option Addr}{cap:Nat}{l:List UInt8}(hp:QP As (.byz a cap l) As')(h:HS w0 M As w):HS w0 M (.own (.slice a l.length cap) u8T 1 l.length (l.map bv)::As') w:=by
 have h1:=h.pick hp;refine h1.turn (λb hb=>hb) λho=>⟨by simp,?_⟩;rcases ho with⟨rfl,rfl,rfl⟩|⟨g,rfl,h2,h3,hb⟩
 ·grind
 ·refine .inr ⟨g,cap,rfl,h2,h3,?_⟩;rw[Nat.mul_one];exact hb.less
theorem HS.vl_byz{a:Option Addr}{cap:Nat}{l:List UInt8}(h:HS w0 M As w)(hp:QP As (.byz a cap l) As'):Vl w a (l.map bv):=(h.byz_own hp).vl_own .here
end
theorem Qff(A:List Value):∀(vs B:List Value),vs.length<=B.length->Qi (A++B) A.length vs=A++(vs++B.drop vs.length)
 | [],B,_=>by simp[Qi]
 | v::vs,[],h=>by simp at h
 | v::vs,b::B,h=>by
  rw[Qi,List.set_append_right _ _ (Nat.le_refl _),Nat.sub_self,List.set_cons_zero,show A++v::B=(A++[v])++B by simp,show A.length+1=(A++[v]).length by simp,Qff (A++[v]) vs B (by simpa using h)];simp
theorem QsL{cap:Nat}{l m:List UInt8}(h:(l++m).length<=cap):Qi (Qe8 cap l) l.length (m.map bv)=Qe8 cap (l++m):=by
 rw[List.length_append]at h;unfold Qe8;have e:=Qff (l.map bv) (m.map bv) (List.replicate (cap-l.length) (bv 0)) (by simp;omega)
 grind
theorem QkO(n:Nat):Builtin.zeroCells #[Value.int .u8 0] n=(List.replicate n (bv 0)).toArray:=by grind[Qau,bv,QcJ]
theorem Qmr(l:List UInt8):∀u∈l.map bv,u.oneCell'=true:=λu hu=>by
 obtain⟨b,_,rfl⟩:=List.mem_map.1 hu;rfl
theorem Qhi{P:Program}{t xt ty by':Nat}{a:Option Addr}{cap:Nat}{x:Value}{l m:List UInt8}{w w0:World}{M:List Nat}{As As':List HA}(ht:tsl P t=some (u8T,1,by'))(hxt:P.underlying xt=some .string\/∃e',P.underlying xt=some (.slice e'))(hz:QS P u8T=some [.int .u8 0])
  (hw:HS w0 M As w)(hp:QP As (.byz a cap l) As')(hlen:(Builtin.lenOf x).run P w=.ok m.length w)(hfc:(Builtin.firstCells 1 m.length x).run P w=.ok (m.map bv).toArray w)(hfc':(Builtin.firstCells 1 m.length x).run P w.drew=.ok (m.map bv).toArray w.drew)
  (hroom:(l.length+m.length)*by'<=140737488355328)(hmax:l.length+m.length<=maxLen) :
  ∃a' cap' w',(Builtin.append_ #[t,xt] ty #[.slice a l.length cap,x]).run P w=.ok (.slice a' (l++m).length cap') w'/\Qck a cap (a',cap') (l++m).length/\HS w0 M (.byz a' cap' (l++m)::As') w':=by
 obtain⟨hu,inf,hi,hs1,hs2⟩:=Xf ht;obtain⟨inf',zv,h4,h5,h6⟩:=YJ hz;rw[hi]at h4;injection h4 with h4
 subst h4;subst hs2;have hzv:zv.cells= #[Value.int .u8 0]:=Array.ext' (by rw[h6]);have hpk:=hw.pick hp;have hlm:(l++m).length=l.length+m.length:=List.length_append;have hmx:((l.length+m.length:Nat):Int)<=9223372036854775807:=by simp only[maxLen]at hmax;omega
 rw[<-hs1]at hfc hfc'
 have grow:cap<l.length+m.length->(Builtin.firstCells inf.size l.length (.slice a l.length cap)).run P w.drew=.ok (l.map bv).toArray w.drew ->
   ∃a' cap' w',(Builtin.append_ #[t,xt] ty #[.slice a l.length cap,x]).run P w=.ok (.slice a' (l++m).length cap') w'/\Qck a cap (a',cap') (l++m).length/\HS w0 M (.byz a' cap' (l++m)::As') w':=by
  intro hcap hold;have hfit:=growslice_fits hcap hroom;have hge:=grownCap_ge w (l.length+m.length) cap u8T;have hle:=grownCap_le_maxLen w (l.length+m.length) cap u8T hmax;refine⟨some ⟨w.heap.size,0,none⟩,grownCap w (l.length+m.length) cap u8T,w.drew.alloc (.cells ((l.map bv).toArray++(m.map bv).toArray++Builtin.zeroCells zv.cells (grownCap w (l.length+m.length) cap u8T-(l.length+m.length))) u8T),?_,λh=>om,?_⟩
  ·rw[hlm];exact QjI hu hxt hi h5 hlen hfc' hold hcap hmx hfit
  ·generalize grownCap w (l.length+m.length) cap u8T=N at *;refine((hw.drew.pick hp).tail).alloc _ _ rfl (.inr ⟨_,rfl,om,hle,_,_,heap_alloc_new _ _,?_,?_,λi hi=>?_,Nat.le_refl _,λ_ _ h=>absurd h (Nat.not_lt_zero _)⟩)
   ·rw[hzv,QkO];simp only[Array.size_append,List.size_toArray,List.length_map,List.length_replicate];omega
   ·rw[QjM om];exact Nat.le_refl _
   ·rw[hzv,QkO]
    have:Qe8 N (l++m)=l.map bv++m.map bv++List.replicate (N-(l.length+m.length)) (bv 0):=by
     unfold Qe8;rw[List.map_append,hlm]
    rw[this,<-Array.getElem?_toList];simp only[Array.toList_append,List.append_assoc]
 rcases hpk.head with⟨rfl,rfl,rfl⟩|⟨g,rfl,h2,h3,hb⟩
 ·rcases Nat.eq_zero_or_pos m.length with hm|hm
  ·have hm0:m=[]:=List.eq_nil_of_length_eq_zero hm;subst hm0;exact⟨none,0,w,Qg4 hu hxt hi hlen (by simpa using hfc),λ_=>⟨rfl,rfl⟩,hpk⟩
  ·exact grow (by simp only[List.length_nil];omega) (by simp[Builtin.firstCells])
 ·by_cases hr:l.length+m.length<=cap
  ·obtain⟨w',hst,hb',r1,r2,r3,r4,r5⟩:=XK (P:=P) (b:=g) (i:=l.length) (m.map bv) 0 (Qe8 cap l) w hb (by rw[QjM h2,List.length_map];omega) (Qmr m);refine⟨some ⟨g,0,none⟩,cap,w',?_,λ_=>⟨rfl,rfl⟩,HS.swap hpk (B:=.byz (some ⟨g,0,none⟩) cap (l++m)) (λ_ h=>h) r1 r2 r3 r4 (λk hk=>r5 k (by simpa[HA.fp_byz,Value.ownBlock]using hk)) (.inr ⟨g,rfl,om,h3,?_⟩)⟩
   ·rw[hlm];exact Qgl hu hxt hi hlen hfc (by rw[hs1,Nat.mul_one,XE,Nat.zero_add];exact hst) hr
   ·rw[Nat.add_zero,QsL om]at hb';exact hb'
  ·refine grow om ?_;rw[hs1]
   exact XS (w:=w.drew) (by simp) λ_=>⟨g,0,rfl,λj u hu=>by
    have hc:=hb.less.cell hu
    simpa using hc⟩
section
variable{P:Program}{o:Oper}{L:Qc}{w0:World}{M:List Nat}{As As':List HA}
theorem Qac{t xt e' by' c cap:Nat}{a b:Option Addr}{s x:Operand}{l:List UInt8}(m:List UInt8)(ho:o.op=.call {callee:=.builtin .append,args:=#[s,x],argTypes:=#[t,xt]})(hs:ev L s=some (.slice a l.length cap))(hx:ev L x=some (.slice b m.length c))(ht:tsl P t=some (u8T,1,by'))(hxt:P.underlying xt=some (.slice e'))(hz:QS P u8T=some [.int .u8 0])
  (hp:QP As (.byz a cap l) As')(hsrc:∀w,HS w0 M As w->Src b (m.map bv) w)(hroom:(l.length+m.length)*by'<=140737488355328)(hmax:l.length+m.length<=maxLen) :
  OpH P o L (HS w0 M As) (λg:Option Addr×Nat=>.slice g.1 (l++m).length g.2) (λg=>Qck a cap g (l++m).length) (λg=>HS w0 M (.byz g.1 g.2 (l++m)::As')):=by
 intro ρ w hρ hw;obtain⟨a',cap',w',hr,hk,hw'⟩:=Qhi (P:=P) (ty:=o.type) ht (.inr ⟨e',hxt⟩) hz hw hp (x:=.slice b m.length c) rfl (XS (by simp) (hsrc w hw)) (XS (w:=w.drew) (by simp) (hsrc w hw)) hroom hmax;simp only[execOp,ho,resolve,Sem.run_bind,Sem.run_pure,Result.andThen_ok,invoke,builtin,List.map_toArray,List.map_cons,List.map_nil,hρ _ _ hs,hρ _ _ hx,hr];exact⟨(a',cap'),rfl,hk,hw'⟩
theorem Qa7{t xt by' cap:Nat}{a:Option Addr}{s x:Operand}{l m:List UInt8}(ho:o.op=.call {callee:=.builtin .append,args:=#[s,x],argTypes:=#[t,xt]})(hs:ev L s=some (.slice a l.length cap))(hx:ev L x=some (.string (bs m)))(ht:tsl P t=some (u8T,1,by'))(hxt:P.underlying xt=some .string)(hz:QS P u8T=some [.int .u8 0])
  (hp:QP As (.byz a cap l) As')(hroom:(l.length+m.length)*by'<=140737488355328)(hmax:l.length+m.length<=maxLen) :
  OpH P o L (HS w0 M As) (λg:Option Addr×Nat=>.slice g.1 (l++m).length g.2) (λg=>Qck a cap g (l++m).length) (λg=>HS w0 M (.byz g.1 g.2 (l++m)::As')):=by
 intro ρ w hρ hw
 have hfc:∀w,(Builtin.firstCells 1 m.length (.string (bs m))).run P w=.ok (m.map bv).toArray w:=λw=>by
  have hx:(bs m).extract 0 m.length=bs m:=(QhE _).trans (congrArg bs (by rw[Lib.extract_data];simp));simp only[Builtin.firstCells,hx,Sem.run_pure];congr 1;simp[bs,bv]
 obtain⟨a',cap',w',hr,hk,hw'⟩:=Qhi (P:=P) (ty:=o.type) ht (.inl hxt) hz hw hp (x:=.string (bs m)) rfl (hfc _) (hfc _) hroom hmax;simp only[execOp,ho,resolve,Sem.run_bind,Sem.run_pure,Result.andThen_ok,invoke,builtin,List.map_toArray,List.map_cons,List.map_nil,hρ _ _ hs,hρ _ _ hx,hr];exact⟨(a',cap'),rfl,hk,hw'⟩
end
end Gx
namespace Gx
open Go Go.RowKit
def ub1(s:List UInt8)(i:Nat):Nat:=(s.getD i 0).toNat
def ub2(s:List UInt8)(i:Nat):Nat:=ub1 s i+ub1 s (i+1)*256
def ub4(s:List UInt8)(i:Nat):Nat:=ub2 s i+ub2 s (i+2)*65536
theorem Qko(s:List UInt8)(i:Nat):at1 s i=(ub1 s i:Int):=rfl
theorem Qcm(s:List UInt8)(i:Nat):at2 s i=(ub2 s i:Int):=by simp only[at2,ub2,Qko];omega
theorem Qgq(s:List UInt8)(i:Nat):at4 s i=(ub4 s i:Int):=by simp only[at4,ub4,Qcm];omega
theorem Yj(s:List UInt8)(i:Nat):ub1 s i<256:=UInt8.toNat_lt _
theorem QcO(s:List UInt8)(i:Nat):ub2 s i<65536:=by have:=Yj s i;have:=Yj s (i+1);unfold ub2;omega
theorem Qnn(s:List UInt8)(i:Nat):ub4 s i<4294967296:=by have:=QcO s i;have:=QcO s (i+2);unfold ub4;omega
theorem Qnx(s:List UInt8)(k i:Nat):ub1 (s.drop k) i=ub1 s (k+i):=by grind[ub1]
def QH(n:Nat):Nat:=(n+7)/8*8
theorem XT(n:Nat):n<=QH n/\QH n<n+8:=by unfold QH;omega
def Qq(s:List UInt8)(i n:Nat):List UInt8:=(s.drop i).take n
theorem Xm{s:List UInt8}{i n:Nat}(h:i+n<=s.length):(Qq s i n).length=n:=by simp only[Qq,List.length_take,List.length_drop];omega
theorem QeS(s:List UInt8)(k i n:Nat):Qq (s.drop k) i n=Qq s (k+i) n:=by simp only[Qq,List.drop_drop]
theorem ZG{s:List UInt8}{i n j:Nat}(h:j<n):(Qq s i n)[j]?=s[i+j]?:=by simp only[Qq,List.getElem?_take,h,if_true,List.getElem?_drop]
theorem Xu(s:List UInt8)(i n m:Nat):Qq s i (n+m)=Qq s i n++Qq s (i+n) m:=by
 simp only[Qq,List.take_add,List.drop_drop]
def zer(l:List UInt8):Bool:=l.all λb=>decide (b=0)
theorem QaT(l:List UInt8):zer l=true ↔ l=List.replicate l.length 0:=by
 simp only[zer,List.all_eq_true,decide_eq_true_eq];constructor
 ·intro h;exact List.eq_replicate_iff.2 ⟨rfl,h⟩
 grind
theorem Qex(n:Nat):zer (List.replicate n 0)=true:=by rw[QaT];simp
def TEnt.sz(x:TEnt):Nat:=8+x.key.length+x.val.length
def Yd(x:TEnt)(c:Int):List UInt8:=le2 (QH x.sz:Nat)++[by8 x.key.length,by8 x.val.length]++le4 c++x.key++x.val++List.replicate (QH x.sz-x.sz) 0
def Qa0(c:Int):List UInt8:=le2 8++[0,0]++le4 c
theorem Qd9(x:TEnt)(c:Int):(Yd x c).length=QH x.sz:=by
 have:=XT x.sz;have h:x.sz=8+x.key.length+x.val.length:=rfl
 grind[Yd,le2,le4]
theorem Qbp(c:Int):(Qa0 c).length=8:=rfl
theorem Qly(s:List UInt8)(i:Nat):by8 (ub1 s i:Int)=s.getD i 0:=by
 have:=Yj s i;unfold by8;rw[show((ub1 s i:Int)%256).toNat=(s.getD i 0).toNat by unfold ub1 at *;omega];simp
theorem QvH(s:List UInt8)(i:Nat):le2 (ub2 s i:Int)=[s.getD i 0,s.getD (i+1) 0]:=by grind[Yj,le2,QdR,ub2,ub1,Qly]
theorem QuS(s:List UInt8)(i:Nat):le4 (ub4 s i:Int)=[s.getD i 0,s.getD (i+1) 0,s.getD (i+2) 0,s.getD (i+3) 0]:=by
 have h1:=Yj s i;have h2:=Yj s (i+1);have h3:=Yj s (i+2);have h4:=Yj s (i+3);have e:ub4 s i=ub1 s i+ub1 s (i+1)*256+(ub1 s (i+2)+ub1 s (i+3)*256)*65536:=rfl;simp only[le4];rw[QdR (m:=(ub4 s i:Int)) (n:=(ub1 s i:Int)) om,QdR (m:=(ub4 s i:Int)/256) (n:=(ub1 s (i+1):Int)) om,QdR (m:=(ub4 s i:Int)/65536) (n:=(ub1 s (i+2):Int)) om,QdR (m:=(ub4 s i:Int)/16777216) (n:=(ub1 s (i+3):Int)) om];simp only[Qly]
theorem Qc3{s:List UInt8}{i n:Nat}(h:i<s.length):Qq s i (n+1)=s.getD i 0::Qq s (i+1) n:=by
 simp only[Qq];rw[List.drop_eq_getElem_cons h,List.take_succ_cons,List.getD_eq_getElem?_getD,List.getElem?_eq_getElem h];rfl
theorem QcT(s:List UInt8)(i:Nat):Qq s i 0=[]:=by simp[Qq]
theorem Qg3{s:List UInt8}{i:Nat}(h:i+2<=s.length):Qq s i 2=le2 (ub2 s i:Int):=by grind[QvH,Qc3,QcT]
theorem QiD{s:List UInt8}{i:Nat}(h:i+4<=s.length):Qq s i 4=le4 (ub4 s i:Int):=by grind[QuS,Qc3,QcT]
theorem Qmx{a b:Int}(h:by8 a=by8 b):a%256=b%256:=by grind[QI]
theorem Qs0{a b:Int}(h:le2 a=le2 b):a%65536=b%65536:=by grind[le2,Qmx]
theorem QsV{a b:Int}(h:le4 a=le4 b):a%4294967296=b%4294967296:=by grind[le4,Qmx]
def Xd(s:List UInt8)(p:Nat):TEnt:=⟨Qq s (p+8) (ub1 s (p+2)),Qq s (p+8+ub1 s (p+2)) (ub1 s (p+3))⟩
def Xq(s:List UInt8)(p:Nat):Nat:=8+ub1 s (p+2)+ub1 s (p+3)
def X8(x:TEnt)(c:Nat):Bool:=decide (1<=x.key.length/\x.key.length<=40/\x.val.length<=64/\x.key.length+x.val.length<=88/\c<=120)
def Zq(s:List UInt8)(p:Nat):Bool:=decide (p+8<=s.length/\ub2 s p=QH (Xq s p)/\p+ub2 s p<=s.length)&&(zer (Qq s (p+Xq s p) (ub2 s p-Xq s p))&&X8 (Xd s p) (ub4 s (p+4)))
theorem Qd7{s:List UInt8}{p:Nat}(h:p+Xq s p<=s.length):(Xd s p).sz=Xq s p/\(Xd s p).key.length=ub1 s (p+2)/\(Xd s p).val.length=ub1 s (p+3):=by grind[Xq,Xd,ub1,Xm,TEnt.sz]
theorem QsM{s:List UInt8}{p:Nat}(h:p+Xq s p<=s.length):Qq s p (Xq s p)=le2 (ub2 s p:Int)++[by8 (ub1 s (p+2):Int),by8 (ub1 s (p+3):Int)]++le4 (ub4 s (p+4):Int)++(Xd s p).key++(Xd s p).val:=by
 have h9:Xq s p=2+(1+(1+(4+(ub1 s (p+2)+ub1 s (p+3))))):=by unfold Xq;omega
 unfold Xq at h;rw[h9,Xu,Qg3 om,Xu,show(1:Nat)=0+1 from rfl,Qc3 om,QcT,Xu,show(1:Nat)=0+1 from rfl,Qc3 om,QcT,Xu,QiD om,Xu]
 grind[Qly,Xd]
theorem Qmg{s:List UInt8}{p:Nat}(hn:p+ub2 s p<=s.length)(ht:Xq s p<=ub2 s p):(Yd (Xd s p) (ub4 s (p+4):Int)=Qq s p (ub2 s p)) ↔ (ub2 s p=QH (Xq s p)/\zer (Qq s (p+Xq s p) (ub2 s p-Xq s p))=true):=by
 obtain⟨e1,e2,e3⟩:=Qd7 (s:=s) (p:=p) om;have hh:=QsM (s:=s) (p:=p) om;have hlt:=QcO s p;have hk:=Yj s (p+2);have hv:=Yj s (p+3);have hp:=XT (Xq s p);have hs:Xq s p=8+ub1 s (p+2)+ub1 s (p+3):=rfl;have hsplit:Qq s p (ub2 s p)=Qq s p (Xq s p)++Qq s (p+Xq s p) (ub2 s p-Xq s p):=by rw[<-Xu];congr 1;omega
 have hlen:(Qq s (p+Xq s p) (ub2 s p-Xq s p)).length=ub2 s p-Xq s p:=Xm om;have hE:Yd (Xd s p) (ub4 s (p+4):Int)=le2 (QH (Xq s p):Nat)++([by8 (ub1 s (p+2):Int),by8 (ub1 s (p+3):Int)]++le4 (ub4 s (p+4):Int)++(Xd s p).key++(Xd s p).val++List.replicate (QH (Xq s p)-Xq s p) 0):=by grind[Yd]
 have hS:Qq s p (ub2 s p)=le2 (ub2 s p:Nat)++([by8 (ub1 s (p+2):Int),by8 (ub1 s (p+3):Int)]++le4 (ub4 s (p+4):Int)++(Xd s p).key++(Xd s p).val++Qq s (p+Xq s p) (ub2 s p-Xq s p)):=by grind
 constructor
 ·intro h;rw[hE,hS]at h;obtain⟨h1,h2⟩:=List.append_inj h rfl;have h3:=Qs0 h1;have h4:ub2 s p=QH (Xq s p):=by omega
  refine⟨h4,?_⟩;have h5:=List.append_cancel_left h2;rw[<-h5];exact Qex _
 grind[QaT]
theorem Qmz{s:List UInt8}{p:Nat}(h8:p+8<=s.length)(hn:p+ub2 s p<=s.length)(ht:Xq s p<=ub2 s p):(Qa0 (ub4 s (p+4):Int)=Qq s p (ub2 s p)) ↔ (ub2 s p=8/\ub2 s (p+2)=0):=by
 have hs:Xq s p=8+ub1 s (p+2)+ub1 s (p+3):=rfl;have hd:ub2 s (p+2)=ub1 s (p+2)+ub1 s (p+3)*256:=rfl
 have h4:Qq s p 8=le2 (ub2 s p:Int)++(le2 (ub2 s (p+2):Int)++le4 (ub4 s (p+4):Int)):=by
  rw[show 8=2+(2+4)from rfl,Xu,Qg3 om,Xu,Qg3 om,QiD om]
 constructor
 ·grind[Qbp,Xm]
 ·rintro⟨h1,h2⟩;rw[h1,h4,h1,h2];rfl
structure RdS where
 es:List TEnt
 cs:List Int
 p:Nat
def rdE(s:List UInt8)(p0:Nat):Nat->Option RdS
 | 0=>some ⟨[],[],p0⟩
 | k+1=>match rdE s p0 k with
  | none=>none
  | some r=>if Zq s r.p then some ⟨r.es++[Xd s r.p],r.cs++[(ub4 s (r.p+4):Int)],r.p+ub2 s r.p⟩else none
def Y8(s:List UInt8)(p:Nat):Bool:=decide (p+8<=s.length/\ub2 s p=8/\ub2 s (p+2)=0/\ub4 s (p+4)<=120)
def noz(l:List Int):Bool:=l.all λc=>decide (c≠0)
def QdF(l:List Int):Bool:=l.all λc=>decide (c=0)
def rdN(s:List UInt8)(p0 k:Nat):Option (Nd×Nat):=match rdE s p0 k with
 | none=>none
 | some r=>if Y8 s r.p then(if noz (r.cs++[(ub4 s (r.p+4):Int)])then some (⟨true,r.es,r.cs++[(ub4 s (r.p+4):Int)]⟩,r.p+8)else if QdF (r.cs++[(ub4 s (r.p+4):Int)])then some (⟨true,r.es,[]⟩,r.p+8)else none)else none
theorem QqB{s:List UInt8}{p0 k:Nat}(h:rdE s p0 k=none):∀j,k<=j->rdE s p0 j=none:=by
 intro j hj
 induction j<;>grind[rdE]
theorem Qvn{s:List UInt8}{p0 k j:Nat}{r:RdS}(h:rdE s p0 k=some r)(hs:Zq s r.p=false)(hj:k<j):rdE s p0 j=none:=
 QqB (k:=k+1) (by simp only[rdE,h,hs];rfl) j hj
theorem Qcn{s:List UInt8}{p0 k:Nat}{r:RdS}(h:rdE s p0 k=some r)(hs:Zq s r.p=true):rdE s p0 (k+1)=some ⟨r.es++[Xd s r.p],r.cs++[(ub4 s (r.p+4):Int)],r.p+ub2 s r.p⟩:=by grind[rdE]
theorem Zf{s:List UInt8}{p:Nat}:Zq s p=true ↔ (p+8<=s.length/\ub2 s p=QH (Xq s p)/\p+ub2 s p<=s.length)/\zer (Qq s (p+Xq s p) (ub2 s p-Xq s p))=true/\X8 (Xd s p) (ub4 s (p+4))=true:=by grind[Zq]
theorem Qbz{s:List UInt8}{p0:Nat}(h0:p0<=s.length):∀{k:Nat}{r:RdS},rdE s p0 k=some r->r.es.length=k/\r.cs.length=k/\p0<=r.p/\r.p<=s.length/\r.p<=p0+96*k/\(∀x∈r.es,X8 x 0=true)/\∀c∈r.cs,0<=c/\c<=120
 | 0,r,h=>by
  injection h with h
  grind
 | k+1,r,h=>by
  cases hk:rdE s p0 k with
  | none=>simp only[rdE,hk]at h;cases h
  | some q=>
   obtain⟨h1,h2,h3,h4,h5,h6,h7⟩:=Qbz h0 hk;cases hs:Zq s q.p with
   | false=>simp only[rdE,hk,hs]at h;cases h
   | true=>
    rw[Qcn hk hs]at h;injection h with h
    subst h;obtain⟨⟨g1,g2,g3⟩,g4,g5⟩:=Zf.1 hs
    grind[XT,Xq,Qd7,X8,ub1,QH]
def Q7(cs:List Int)(i:Nat):Int:=if cs.length=0 then 0 else cs.getD i 0
def QQ(n:Nd):Nat->List UInt8
 | 0=>[]
 | k+1=>QQ n k++Yd (nth n.es k) (Q7 n.cs k)
def Q9(n:Nd):List UInt8:=QQ n n.es.length++Qa0 (Q7 n.cs n.es.length)
theorem Qiq{s:List UInt8}{p0:Nat}(h0:p0<=s.length){n:Nd}:∀{k:Nat}{r:RdS},rdE s p0 k=some r->k<=n.es.length->(∀i,i<k->nth n.es i=nth r.es i/\Q7 n.cs i=r.cs.getD i 0)->QQ n k=Qq s p0 (r.p-p0)
 | 0,r,h,_,_=>by
  injection h with h
  subst h;simp[QQ,Qq]
 | k+1,r,h,hk,hn=>by
  cases hq:rdE s p0 k with
  | none=>simp only[rdE,hq]at h;cases h
  | some q=>
   obtain⟨h1,h2,h3,h4,_⟩:=Qbz h0 hq;cases hs:Zq s q.p with
   | false=>simp only[rdE,hq,hs]at h;cases h
   | true=>
    rw[Qcn hq hs]at h;injection h with h
    subst h;obtain⟨⟨g1,g2,g3⟩,g4,g5⟩:=Zf.1 hs;have hp:=XT (Xq s q.p)
    have ih:=Qiq h0 (n:=n) hq om (λi hi=>by
     obtain⟨a1,a2⟩:=hn i om;rw[a1,a2];constructor
     ·unfold nth;rw[List.getD_eq_getElem?_getD,List.getElem?_append_left om,<-List.getD_eq_getElem?_getD]
     ·rw[List.getD_eq_getElem?_getD,List.getElem?_append_left om,<-List.getD_eq_getElem?_getD])
    obtain⟨a1,a2⟩:=hn k om;have ub1':nth (q.es++[Xd s q.p]) k=Xd s q.p:=by grind[nth]
    have ub2':(q.cs++[(ub4 s (q.p+4):Int)]).getD k 0=(ub4 s (q.p+4):Int):=by grind
    rw[QQ,ih,a1,a2,ub1',ub2',(Qmg g3 om).2 ⟨g2,g4⟩];simp only[];rw[show q.p+ub2 s q.p-p0=(q.p-p0)+ub2 s q.p by omega,Xu,show p0+(q.p-p0)=q.p by omega]
theorem Qip{s:List UInt8}{p0 k:Nat}(h0:p0<=s.length){n:Nd}{e:Nat}(h:rdN s p0 k=some (n,e)):Q9 n=Qq s p0 (e-p0)/\p0+8<=e/\e<=s.length/\e<=p0+96*k+8/\n.us=true/\n.es.length=k/\(n.cs.length=0\/n.cs.length=k+1)/\(∀x∈n.es,X8 x 0=true)/\∀c∈n.cs,1<=c/\c<=120:=by
 unfold rdN at h;cases hq:rdE s p0 k with
 | none=>rw[hq]at h;cases h
 | some r=>
  rw[hq]at h;simp only[]at h;obtain⟨h1,h2,h3,h4,h5,h6,h7⟩:=Qbz h0 hq;split at h
  ·rename_i he;simp only[Y8,decide_eq_true_eq]at he;obtain⟨g1,g2,g3,g4⟩:=he;have hb2:ub2 s (r.p+2)=ub1 s (r.p+2)+ub1 s (r.p+3)*256:=rfl;have hsz:Xq s r.p=8+ub1 s (r.p+2)+ub1 s (r.p+3):=rfl;have hend:=(Qmz (s:=s) (p:=r.p) g1 om om).2 ⟨g2,g3⟩;rw[g2]at hend
   have hfin:Qq s p0 (r.p+8-p0)=Qq s p0 (r.p-p0)++Qq s r.p 8:=by
    rw[show r.p+8-p0=(r.p-p0)+8 by omega,Xu,show p0+(r.p-p0)=r.p by omega]
   split at h
   ·rename_i hz;injection h with h
    injection h with e1 e2
    subst e1 e2
    grind[Q7,ub4,Q9,Qiq,hi,noz]
   ·split at h
    ·rename_i hz;injection h with h
     injection h with e1 e2
     subst e1 e2;refine⟨?_,om,om,om,rfl,h1,.inl rfl,h6,by simp⟩
     have hall:∀i,i<=k->(r.cs++[(ub4 s (r.p+4):Int)]).getD i 0=0:=λi hi=>by
      simp only[QdF,List.all_eq_true,decide_eq_true_eq]at hz;have hl:i<(r.cs++[(ub4 s (r.p+4):Int)]).length:=by simp;omega
      have:=hz _ (List.getElem_mem hl);rw[List.getD_eq_getElem?_getD,List.getElem?_eq_getElem hl];exact this
     have hlast:=hall k (Nat.le_refl _);rw[List.getD_eq_getElem?_getD,List.getElem?_append_right om,h2,Nat.sub_self]at hlast;have hlast:(ub4 s (r.p+4):Int)=0:=hlast;unfold Q9;simp only[]
     rw[h1,Qiq h0 (n:=⟨true,r.es,[]⟩) hq (Nat.le_of_eq h1.symm) (λi hi=>⟨rfl,by
      have:=hall i om;rw[List.getD_eq_getElem?_getD,List.getElem?_append_left om,<-List.getD_eq_getElem?_getD]at this;rw[this];rfl⟩),hfin,<-hend,hlast]
     rfl
    ·cases h
  ·cases h
theorem Qdg{s:List UInt8}{i n j m:Nat}(h:j+m<=n):Qq (Qq s i n) j m=Qq s (i+j) m:=by
 simp only[Qq,List.drop_take,List.take_take,List.drop_drop]
 grind
theorem Qsd{s:List UInt8}{p n j:Nat}(h:j<n):ub1 (Qq s p n) j=ub1 s (p+j):=by grind[ub1,ZG]
theorem Qf8{s:List UInt8}{p n j:Nat}(h:j+1<n):ub2 (Qq s p n) j=ub2 s (p+j):=by grind[ub2,Qsd]
theorem Qlz{s:List UInt8}{p n j:Nat}(h:j+3<n):ub4 (Qq s p n) j=ub4 s (p+j):=by grind[ub4,Qf8]
theorem QwS(x:TEnt)(c:Int)(hs:x.sz<60000)(hk:x.key.length<256)(hv:x.val.length<256)(hc:0<=c/\c<4294967296):ub2 (Yd x c) 0=QH x.sz/\ub1 (Yd x c) 2=x.key.length/\ub1 (Yd x c) 3=x.val.length/\(ub4 (Yd x c) 4:Int)=c:=by
 have hp:=XT x.sz;have e0:ub1 (Yd x c) 0=(by8 (QH x.sz:Nat)).toNat:=rfl;have e1:ub1 (Yd x c) 1=(by8 ((QH x.sz:Nat)/256:Int)).toNat:=rfl;have e2:ub1 (Yd x c) 2=(by8 (x.key.length:Int)).toNat:=rfl;have e3:ub1 (Yd x c) 3=(by8 (x.val.length:Int)).toNat:=rfl;have e4:ub1 (Yd x c) 4=(by8 c).toNat:=rfl;have e5:ub1 (Yd x c) 5=(by8 (c/256)).toNat:=rfl;have e6:ub1 (Yd x c) 6=(by8 (c/65536)).toNat:=rfl;have e7:ub1 (Yd x c) 7=(by8 (c/16777216)).toNat:=rfl;have f0:=QI (QH x.sz:Nat);have f1:=QI ((QH x.sz:Nat)/256:Int);have f2:=QI (x.key.length:Int);have f3:=QI (x.val.length:Int);have f4:=QI c;have f5:=QI (c/256);have f6:=QI (c/65536);have f7:=QI (c/16777216);refine⟨?_,?_,?_,?_⟩
 ·grind[ub2]
 ·rw[e2];omega
 ·rw[e3];omega
 ·unfold ub4 ub2;simp only[Nat.reduceAdd];rw[e4,e5,e6,e7];omega
theorem Qmb{A B C:List UInt8}{i n:Nat}(hi:A.length=i)(hn:B.length=n):Qq (A++(B++C)) i n=B:=by grind[Qq,hi]
theorem QtE(x:TEnt)(c:Int):Qq (Yd x c) 8 x.key.length=x.key:=by grind[Yd,le2,QH,by8,le4,Qmb]
theorem Qs7(x:TEnt)(c:Int):Qq (Yd x c) (8+x.key.length) x.val.length=x.val:=by grind[Yd,le2,QH,by8,le4,Qq]
theorem QpI(x:TEnt)(c:Int):Qq (Yd x c) x.sz (QH x.sz-x.sz)=List.replicate (QH x.sz-x.sz) 0:=by
 have:Yd x c=(le2 (QH x.sz:Nat)++[by8 x.key.length,by8 x.val.length]++le4 c++x.key++x.val)++(List.replicate (QH x.sz-x.sz) 0++[]):=by simp only[Yd,List.append_nil]
 grind[Qmb,TEnt.sz,le2,le4]
theorem QvR{s:List UInt8}{p:Nat}{x:TEnt}{c:Int}(hw:Qq s p (QH x.sz)=Yd x c)(hl:p+QH x.sz<=s.length)(hk:X8 x c.toNat=true)(hc:0<=c):Zq s p=true/\Xd s p=x/\(ub4 s (p+4):Int)=c/\ub2 s p=QH x.sz:=by
 have hkk:=hk;simp only[X8,decide_eq_true_eq]at hk;have hsz:x.sz=8+x.key.length+x.val.length:=rfl;have hp:=XT x.sz;obtain⟨a0,a2,a3,a4⟩:=QwS x c om om om om;rw[<-hw,Qf8 om,Nat.add_zero]at a0;rw[<-hw,Qsd om]at a2 a3;rw[<-hw,Qlz om]at a4
 have e:Xd s p=x:=by
  have k1:=QtE x c;have k2:=Qs7 x c;rw[<-hw,Qdg om]at k1 k2;unfold Xd;rw[a2,a3,k1,show p+8+x.key.length=p+(8+x.key.length) by omega,k2]
 grind[Xq,Zf,QpI,Qdg,Qex,ub4]
theorem QuB{s:List UInt8}{p:Nat}{c:Int}(hw:Qq s p 8=Qa0 c)(hl:p+8<=s.length)(hc:0<=c/\c<=120):Y8 s p=true/\(ub4 s (p+4):Int)=c:=by
 have f4:=QI c;have f5:=QI (c/256);have f6:=QI (c/65536);have f7:=QI (c/16777216)
 have e0:ub2 (Qa0 c) 0=8:=by
  show(by8 8).toNat+(by8 (8/256)).toNat*256=8;decide
 have e2:ub2 (Qa0 c) 2=0:=by
  show(0:UInt8).toNat+(0:UInt8).toNat*256=0;decide
 have e4:ub4 (Qa0 c) 4=(by8 c).toNat+(by8 (c/256)).toNat*256+((by8 (c/65536)).toNat+(by8 (c/16777216)).toNat*256)*65536:=by
  have g0:ub1 (Qa0 c) 4=(by8 c).toNat:=rfl;have g1:ub1 (Qa0 c) 5=(by8 (c/256)).toNat:=rfl;have g2:ub1 (Qa0 c) 6=(by8 (c/65536)).toNat:=rfl;have g3:ub1 (Qa0 c) 7=(by8 (c/16777216)).toNat:=rfl
  grind[ub4,ub2]
 grind[Qf8,Qlz,ub4,Y8]
structure NdW(n:Nd):Prop where
 us:n.us=true
 es:∀x∈n.es,X8 x 0=true
 cl:n.cs.length=0\/n.cs.length=n.es.length+1
 cs:∀c∈n.cs,1<=c/\c<=120
theorem NdW.kid{n:Nd}(h:NdW n){i:Nat}(hi:i<=n.es.length):0<=Q7 n.cs i/\Q7 n.cs i<=120/\(n.cs.length=0->Q7 n.cs i=0)/\(n.cs.length≠0->Q7 n.cs i=n.cs.getD i 0/\Q7 n.cs i≠0):=by
 unfold Q7
 by_cases h0:n.cs.length=0
 ·grind
 ·rw[if_neg h0];have hl:i<n.cs.length:=by have:=h.cl;omega
  have h1:=h.cs _ (List.getElem_mem hl)
  grind
theorem Qg9(n:Nd):∀k j,(QQ n k).length<=(QQ n (k+j)).length
 | k,0=>Nat.le_refl _
 | k,j+1=>by
  have:=Qg9 n k j
  grind[QQ]
theorem Qhz(n:Nd):∀k j,Qq (QQ n (k+j)) 0 (QQ n k).length=QQ n k
 | k,0=>by simp[Qq]
 | k,j+1=>by
  have ih:=Qhz n k j;have hl:=Qg9 n k j;show Qq (QQ n (k+j)++_) 0 _=_;unfold Qq at ih ⊢;rw[List.drop_zero]at ih ⊢;rw[List.take_append_of_le_length hl];exact ih
theorem Qkx{s:List UInt8}{p0:Nat}{n:Nd}(hn:NdW n)(hl:p0+(QQ n n.es.length).length<=s.length)(hw:Qq s p0 (QQ n n.es.length).length=QQ n n.es.length):∀k,k<=n.es.length->rdE s p0 k=some ⟨n.es.take k,(List.range k).map (Q7 n.cs),p0+(QQ n k).length⟩
 | 0,_=>by simp[rdE,QQ]
 | k+1,hk=>by
  have ih:=Qkx hn hl hw k om;have hx:=hn.es _ (List.getElem_mem (show k<n.es.length by omega));have hxe:nth n.es k=n.es[k]:=YW (by rw[List.getElem?_eq_getElem (show k<n.es.length by omega)]);obtain⟨c1,c2,_,_⟩:=hn.kid (i:=k) om;have hle:=Qg9 n (k+1) (n.es.length-(k+1));rw[show k+1+(n.es.length-(k+1))=n.es.length by omega]at hle;have hlk:(QQ n (k+1)).length=(QQ n k).length+QH (nth n.es k).sz:=by grind[QQ,Qd9]
  have hpre:=Qhz n (k+1) (n.es.length-(k+1));rw[show k+1+(n.es.length-(k+1))=n.es.length by omega,<-hw,Qdg om,Nat.add_zero]at hpre
  have hwin:Qq s (p0+(QQ n k).length) (QH (nth n.es k).sz)=Yd (nth n.es k) (Q7 n.cs k):=by
   rw[hlk,Xu]at hpre;have h2:Qq s p0 (QQ n k).length++Qq s (p0+(QQ n k).length) (QH (nth n.es k).sz)=QQ n k++Yd (nth n.es k) (Q7 n.cs k):=hpre;exact(List.append_inj h2 (Xm om)).2
  have hK:X8 (nth n.es k) (Q7 n.cs k).toNat=true:=by grind[X8]
  obtain⟨g1,g2,g3,g4⟩:=QvR hwin om hK c1;rw[Qcn ih g1];congr 1;have t1:n.es.take (k+1)=n.es.take k++[nth n.es k]:=by simp_all
  simp only[g2,g3,g4];rw[t1,List.range_succ,List.map_append,hlk,Nat.add_assoc];rfl
theorem Qki{s:List UInt8}{p0:Nat}{n:Nd}(hn:NdW n)(hl:p0+(Q9 n).length<=s.length)(hw:Qq s p0 (Q9 n).length=Q9 n):rdN s p0 n.es.length=some (n,p0+(Q9 n).length):=by
 have hcl:(Q9 n).length=(QQ n n.es.length).length+8:=by unfold Q9;rw[List.length_append,Qbp]
 have hw2:=hw;rw[hcl,Xu]at hw2;unfold Q9 at hw2;obtain⟨w1,w2⟩:=List.append_inj hw2 (Xm om);have hE:=Qkx hn om w1 n.es.length (Nat.le_refl _);obtain⟨c1,c2,c3,c4⟩:=hn.kid (Nat.le_refl n.es.length);obtain⟨g1,g2⟩:=QuB w2 om ⟨c1,c2⟩;have hch:(List.range n.es.length).map (Q7 n.cs)++[Q7 n.cs n.es.length]=(List.range (n.es.length+1)).map (Q7 n.cs):=by rw[List.range_succ,List.map_append];rfl
 unfold rdN;rw[hE];simp only[g1,if_true,g2,hch,List.take_length,hcl]
 by_cases h0:n.cs.length=0
 ·have hz:∀i,i<=n.es.length->Q7 n.cs i=0:=λi hi=>(hn.kid hi).2.2.1 h0;have hnz:noz ((List.range (n.es.length+1)).map (Q7 n.cs))=false:=by grind[noz,Q7]
  have haz:QdF ((List.range (n.es.length+1)).map (Q7 n.cs))=true:=by grind[QdF,hi]
  rw[hnz,haz];simp only[Bool.false_eq_true,if_false,if_true,Option.some.injEq,Prod.mk.injEq];refine⟨?_,om⟩;obtain⟨us,es,cs⟩:=n;have hcs:cs=[]:=List.eq_nil_of_length_eq_zero h0;have hu:=hn.us
  grind
 ·have hnz:noz ((List.range (n.es.length+1)).map (Q7 n.cs))=true:=by
   simp only[noz,List.all_eq_true,decide_eq_true_eq,List.mem_map,List.mem_range];rintro c ⟨i,hi,rfl⟩;exact((hn.kid (i:=i) om).2.2.2 h0).2
  rw[hnz];simp only[if_true,Option.some.injEq,Prod.mk.injEq];refine⟨?_,om⟩;have hlc:n.cs.length=n.es.length+1:=by have:=hn.cl;omega
  have hcs:(List.range (n.es.length+1)).map (Q7 n.cs)=n.cs:=by
   apply List.ext_getElem?;intro i;rcases Nat.lt_or_ge i (n.es.length+1)with hi|hi
   ·rw[List.getElem?_map,List.getElem?_range hi];simp only[Option.map_some];rw[((hn.kid (i:=i) om).2.2.2 h0).1,List.getD_eq_getElem?_getD,List.getElem?_eq_getElem (show i<n.cs.length by omega)];rfl
   grind
  rw[hcs];have hu:=hn.us;obtain⟨us,es,cs⟩:=n
  grind
def QN(s:List UInt8)(at':Nat)(l:List UInt8):List UInt8:=s.take at'++l++s.drop (at'+l.length)
theorem XM{s l:List UInt8}{a:Nat}(h:a+l.length<=s.length):(QN s a l).length=s.length:=by grind[QN]
theorem YF{s l:List UInt8}{a:Nat}(h:a+l.length<=s.length)(j:Nat):(QN s a l)[j]?=if j<a then s[j]? else if j<a+l.length then l[j-a]? else s[j]?:=by grind[QN]
theorem QbF{s l:List UInt8}{a i n:Nat}(h:a+l.length<=s.length)(hd:i+n<=a\/a+l.length<=i):Qq (QN s a l) i n=Qq s i n:=by
 apply List.ext_getElem?
 grind[ZG,YF,Qq]
def tlA(i:Nat):Nat:=64*i+62
def prI(s:List UInt8)(u:Int):Nat->List UInt8
 | 0=>QN s 40 (le2 u)
 | i+1=>QN (QN (prI s u i) (42+2*i) (Qq (prI s u i) (tlA i) 2)) (tlA i) (le2 u)
def Qb9(s:List UInt8)(u:Int):List UInt8:=prI s u 8
def opI(s:List UInt8):Nat->List UInt8
 | 0=>s
 | i+1=>QN (opI s i) (tlA i) (Qq (opI s i) (42+2*i) 2)
def Qbs(s:List UInt8)(i:Nat):Bool:=decide (ub2 s 40=0\/ub2 s (tlA i)≠ub2 s 40)
def XD(s:List UInt8):Bool:=(List.range 8).any (Qbs s)
def QL(s:List UInt8):List UInt8:=QN (opI s 8) 40 (List.replicate 18 0)
theorem Qee{s:List UInt8}{u:Int}(h:s.length=512):∀i,i<=8->(prI s u i).length=512
 | 0,_=>by
  show(QN s 40 (le2 u)).length=_
  grind[XM,le2]
 | i+1,hi=>by
  have ih:=Qee (u:=u) h i om;have h2:(Qq (prI s u i) (tlA i) 2).length=2:=Xm (by unfold tlA;omega);show(QN (QN _ _ _) _ (le2 u)).length=_
  grind[XM,le2,tlA]
theorem Z6{s:List UInt8}(h:s.length=512):∀i,i<=8->(opI s i).length=512
 | 0,_=>h
 | i+1,hi=>by
  have ih:=Z6 h i om
  grind[Qq,opI,Xm,QN,XM,tlA]
theorem Qm3{s:List UInt8}{u:Int}(h:s.length=512):∀i,i<=8->∀j,(prI s u i)[j]?=if j<40 then s[j]? else if j<42 then(le2 u)[j-40]? else if j<42+2*i then s[tlA ((j-42)/2)+(j-42)%2]? else if j<64*i/\62<=j%64 then(le2 u)[j%64-62]? else s[j]?
 | 0,_,j=>by
  have hle:(le2 u).length=2:=rfl;show(QN s 40 (le2 u))[j]?=_
  grind[YF]
 | i+1,hi,j=>by
  have hl:=Qee (u:=u) h i om;have ih:=Qm3 (u:=u) h i om;have h2:(Qq (prI s u i) (tlA i) 2).length=2:=Xm (by unfold tlA;omega);have h3:(QN (prI s u i) (42+2*i) (Qq (prI s u i) (tlA i) 2)).length=512:=by rw[XM (by rw[h2,hl];omega),hl]
  show(QN (QN _ _ _) _ (le2 u))[j]?=_;rw[YF (by rw[h3];simp only[le2,List.length_cons,List.length_nil,tlA];omega),YF (by rw[h2,hl];omega),h2];have hle:(le2 u).length=2:=rfl;rw[hle]
  have e1:∀k,(Qq (prI s u i) (tlA i) 2)[k]?=if k<2 then s[tlA i+k]? else none:=λk=>by
   by_cases hk:k<2
   ·rw[if_pos hk,ZG hk,ih];unfold tlA;rw[if_neg om]
    by_cases hi0:64*i+62+k<42
    ·omega
    ·rw[if_neg hi0];rw[if_neg om,if_neg om]
   ·rw[if_neg hk,List.getElem?_eq_none (by rw[h2];omega)]
  rw[e1,ih];unfold tlA
  repeat' split
  all_goals first|rfl|(exfalso;omega)|(congr 1;omega)
theorem Qqv{s:List UInt8}{i j:Nat}(h:i=j):s[i]?=s[j]?:=by rw[h]
theorem Qnw{s:List UInt8}(h:s.length=512):∀i,i<=8->∀j,(opI s i)[j]?=if j<64*i/\62<=j%64 then s[42+2*(j/64)+(j%64-62)]? else s[j]?
 | 0,_,j=>by
  rw[if_neg om];rfl
 | i+1,hi,j=>by
  have hl:=Z6 h i om;have ih:=Qnw h i om;have h2:(Qq (opI s i) (42+2*i) 2).length=2:=Xm om;show(QN _ _ _)[j]?=_;rw[YF (by rw[h2,hl];unfold tlA;omega),h2];unfold tlA
  by_cases c1:64*i+62<=j/\j<64*i+64
  ·rw[if_neg om,if_pos om,if_pos om,ZG om,ih,if_neg om];congr 1;omega
  ·have e:(if j<64*i+62 then(opI s i)[j]? else if j<64*i+62+2 then(Qq (opI s i) (42+2*i) 2)[j-(64*i+62)]? else(opI s i)[j]?)=(opI s i)[j]?:=by
    split
    ·rfl
    ·rw[if_neg om]
   refine e.trans ?_;rw[ih]
   by_cases d:j<64*i/\62<=j%64
   ·rw[if_pos d,if_pos om]
   ·rw[if_neg d,if_neg om]
theorem Y7{s:List UInt8}(h:s.length=512):(QL s).length=512:=by
 unfold QL;rw[XM (by rw[Z6 h 8 om];simp),Z6 h 8 om]
theorem Qbh{s:List UInt8}(h:s.length=512)(j:Nat):(QL s)[j]?=if 40<=j/\j<58 then some 0 else if j<512/\62<=j%64 then s[42+2*(j/64)+(j%64-62)]? else s[j]?:=by
 unfold QL;rw[YF (by rw[Z6 h 8 om];simp),Qnw h 8 om,List.length_replicate]
 by_cases c:40<=j/\j<58
 ·rw[if_pos c,if_neg om,if_pos om,List.getElem?_replicate,if_pos om]
 ·rw[if_neg c];split
  ·rfl
  ·rw[if_neg om]
theorem Qc9{s:List UInt8}{u:Int}(h:s.length=512):(Qb9 s u).length=512:=Qee h 8 om
theorem Zx{s:List UInt8}{u:Int}(h:s.length=512)(j:Nat):(Qb9 s u)[j]?=if j<40 then s[j]? else if j<42 then(le2 u)[j-40]? else if j<58 then s[tlA ((j-42)/2)+(j-42)%2]? else if j<512/\62<=j%64 then(le2 u)[j%64-62]? else s[j]?:=Qm3 h 8 om j
theorem Qql{s t:List UInt8}{i j:Nat}(h:s[i]?=t[j]?):ub1 s i=ub1 t j:=by simp only[ub1,List.getD_eq_getElem?_getD,h]
theorem QpB{s t:List UInt8}{i j:Nat}(h:s[i]?=t[j]?)(h2:s[i+1]?=t[j+1]?):ub2 s i=ub2 t j:=by simp only[ub2,Qql h,Qql h2]
theorem QpZ{u:Int}(h:0<=u/\u<65536):(ub2 (le2 u) 0:Int)=u:=by
 have e0:ub1 (le2 u) 0=(by8 u).toNat:=rfl;have e1:ub1 (le2 u) 1=(by8 (u/256)).toNat:=rfl;have f0:=QI u;have f1:=QI (u/256);unfold ub2;rw[e0,e1];omega
theorem Qng{s:List UInt8}{u:Int}(h:s.length=512)(hu:0<=u/\u<65536):(ub2 (Qb9 s u) 40:Int)=u:=by
 rw[QpB (t:=le2 u) (j:=0) (by rw[Zx h,if_neg om,if_pos om]) (by rw[Zx h,if_neg om,if_pos om])];exact QpZ hu
theorem QnO{s:List UInt8}{u:Int}(h:s.length=512)(hu:0<=u/\u<65536){i:Nat}(hi:i<8):(ub2 (Qb9 s u) (tlA i):Int)=u:=by
 rw[QpB (t:=le2 u) (j:=0) (by unfold tlA;rw[Zx h,if_neg om,if_neg om,if_neg om,if_pos om];congr 1;omega) (by unfold tlA;rw[Zx h,if_neg om,if_neg om,if_neg om,if_pos om];congr 1;omega)];exact QpZ hu
theorem Qov{s:List UInt8}{u:Int}(h:s.length=512)(hu:1<=u/\u<65536):XD (Qb9 s u)=false:=by
 cases hb:XD (Qb9 s u)with
 | false=>rfl
 | true=>
  simp only[XD,List.any_eq_true,List.mem_range,Qbs,decide_eq_true_eq]at hb;obtain⟨i,hi,hh⟩:=hb;have h1:=Qng h (u:=u) om;have h2:=QnO h (u:=u) om hi;omega
theorem Qpc{s:List UInt8}{i n:Nat}(h:zer (Qq s i n)=true)(hl:i+n<=s.length){j:Nat}(h1:i<=j)(h2:j<i+n):s[j]?=some 0:=by
 have h3:s[j]?=(Qq s i n)[j-i]?:=by rw[ZG om];congr 1;omega
 rw[QaT,Xm hl]at h;rw[h3,h,List.getElem?_replicate,if_pos om]
theorem QhD{s:List UInt8}{u:Int}(h:s.length=512)(hz:zer (Qq s 40 18)=true):QL (Qb9 s u)=s:=by
 have hl:=Qc9 (u:=u) h;apply List.ext_getElem?;intro j;rw[Qbh hl]
 by_cases c:40<=j/\j<58
 ·rw[if_pos c,Qpc hz om c.1 om]
 ·rw[if_neg c]
  by_cases c2:j<512/\62<=j%64
  ·rw[if_pos c2,Zx h,if_neg om,if_neg om,if_pos om];exact Qqv (by unfold tlA;omega)
  ·rw[if_neg c2,Zx h]
   by_cases d1:j<40
   ·rw[if_pos d1]
   ·rw[if_neg d1,if_neg om,if_neg om,if_neg om]
theorem Qhe{s:List UInt8}:XD s=false ↔ ub2 s 40≠0/\∀i,i<8->ub2 s (tlA i)=ub2 s 40:=by
 constructor
 ·intro h
  have h2:∀i,i<8->¬(ub2 s 40=0\/ub2 s (tlA i)≠ub2 s 40):=by
   intro i hi hb;have:XD s=true:=List.any_eq_true.2 ⟨i,List.mem_range.2 hi,decide_eq_true hb⟩;rw[this]at h;cases h
  have:=h2 0 om;exact⟨om,λi hi=>by have:=h2 i hi;omega⟩
 ·rintro⟨h1,h2⟩;cases hb:XD s with
  | false=>rfl
  | true=>
   simp only[XD,List.any_eq_true,List.mem_range,Qbs,decide_eq_true_eq]at hb;obtain⟨i,hi,hh⟩:=hb;have:=h2 i hi;omega
theorem Qky{s:List UInt8}{i j:Nat}(h:ub2 s i=ub2 s j):ub1 s i=ub1 s j/\ub1 s (i+1)=ub1 s (j+1):=by
 have h1:=Yj s i;have h2:=Yj s (i+1);have h3:=Yj s j;have h4:=Yj s (j+1);unfold ub2 at h;omega
theorem Ql3{s t:List UInt8}{i j:Nat}(hi:i<s.length)(hj:j<t.length)(h:ub1 s i=ub1 t j):s[i]?=t[j]?:=by
 simp only[ub1,List.getD_eq_getElem?_getD,List.getElem?_eq_getElem hi,List.getElem?_eq_getElem hj,Option.getD_some]at h;rw[List.getElem?_eq_getElem hi,List.getElem?_eq_getElem hj];exact congrArg _ (UInt8.toNat_inj.1 h)
theorem Qnl{s:List UInt8}{i j:Nat}(hi:i+1<s.length)(hj:j<2):(le2 (ub2 s i:Int))[j]?=s[i+j]?:=by
 rw[<-Qg3 om,ZG hj]
theorem QoL{s:List UInt8}(h:s.length=512)(ht:XD s=false):Qb9 (QL s) (ub2 s 40:Int)=s:=by
 have hl:=Y7 h;obtain⟨h1,h2⟩:=Qhe.1 ht;apply List.ext_getElem?;intro j;rw[Zx hl]
 by_cases c1:j<40
 ·rw[if_pos c1,Qbh h,if_neg om,if_neg om]
 ·rw[if_neg c1]
  by_cases c2:j<42
  ·rw[if_pos c2,Qnl om om];exact Qqv om
  ·rw[if_neg c2]
   by_cases c3:j<58
   ·rw[if_pos c3];unfold tlA;rw[Qbh h,if_neg om,if_pos om];exact Qqv om
   ·rw[if_neg c3]
    by_cases c4:j<512/\62<=j%64
    ·rw[if_pos c4,Qnl om om];have h3:=Qky (h2 (j/64) om);unfold tlA at h3
     by_cases c5:j%64=62
     ·rw[c5];exact Ql3 om om (by rw[show j=64*(j/64)+62 by omega];exact h3.1.symm)
     ·rw[show j%64-62=1 by omega];exact Ql3 om om (by rw[show j=64*(j/64)+62+1 by omega];exact h3.2.symm)
    ·rw[if_neg c4,Qbh h,if_neg om,if_neg c4]
theorem Qlx{s:List UInt8}(h:s.length=512):zer (Qq (QL s) 40 18)=true:=by
 have hl:=Y7 h;rw[QaT,Xm om];apply List.ext_getElem?;intro j;rcases Nat.lt_or_ge j 18 with hj|hj
 ·rw[ZG hj,Qbh h,if_pos om,List.getElem?_replicate,if_pos hj]
 ·rw[List.getElem?_eq_none (by rw[Xm om];omega),List.getElem?_eq_none (by simp;omega)]
def QeG:List UInt8:=[73,78,68,88]
def hdB(num lsn:Int)(count:Nat):List UInt8:=QeG++List.replicate 4 0++le4 lsn++le4 num++le2 count++List.replicate 46 0
def ZE(n:Nd)(num lsn:Int):List UInt8:=hdB num lsn n.es.length++Q9 n++List.replicate (448-(Q9 n).length) 0
def ZL(n:Nd)(num lsn usn:Int):List UInt8:=Qb9 (ZE n num lsn) usn
theorem QbT(num lsn:Int)(c:Nat):(hdB num lsn c).length=64:=rfl
theorem Qbm{n:Nd}{num lsn:Int}(h:(Q9 n).length<=448):(ZE n num lsn).length=512:=by
 unfold ZE;rw[List.length_append,List.length_append,QbT,List.length_replicate];omega
theorem QqD{n:Nd}{num lsn:Int}:Qq (ZE n num lsn) 64 (Q9 n).length=Q9 n:=by
 unfold ZE Qq;rw[List.append_assoc,show(64:Nat)=(hdB num lsn n.es.length).length from rfl,List.drop_left,List.take_left]
theorem QnH{n:Nd}{num lsn:Int}:Qq (ZE n num lsn) 0 64=hdB num lsn n.es.length:=by
 unfold ZE Qq;rw[List.append_assoc,List.drop_zero,show(64:Nat)=(hdB num lsn n.es.length).length from rfl,List.take_left]
theorem QqU{n:Nd}{num lsn:Int}:(ZE n num lsn).drop (64+(Q9 n).length)=List.replicate (448-(Q9 n).length) 0:=by
 unfold ZE;rw[show 64+(Q9 n).length=(hdB num lsn n.es.length++Q9 n).length by rw[List.length_append];rfl,List.drop_left]
theorem QcV{n:Nd}{num lsn:Int}:zer (Qq (ZE n num lsn) 40 18)=true:=by
 have h:Qq (Qq (ZE n num lsn) 0 64) 40 18=Qq (hdB num lsn n.es.length) 40 18:=by rw[QnH]
 rw[Qdg om,Nat.zero_add]at h;rw[h];rfl
def Qg6(s:List UInt8)(num:Int):Bool:=decide (s.take 4=QeG)&&(zer (Qq s 4 4)&&(decide (ub4 s 8<=2147483647)&&(decide ((ub4 s 12:Int)=num)&&(zer (Qq s 18 22)&&zer (Qq s 58 6)))))
theorem Qsg{s:List UInt8}{num:Int}{c:Nat}(h:64<=s.length)(hc:c=ub2 s 16)(hn:0<=num/\num<4294967296)(hz:zer (Qq s 40 18)=true)(hlsn:ub4 s 8<=2147483647):hdB num (ub4 s 8:Int) c=Qq s 0 64 ↔ Qg6 s num=true:=by
 subst hc
 have e:Qq s 0 64=s.take 4++Qq s 4 4++le4 (ub4 s 8:Int)++le4 (ub4 s 12:Int)++le2 (ub2 s 16:Int)++(Qq s 18 22++(Qq s 40 18++Qq s 58 6)):=by
  rw[show 64=4+(4+(4+(4+(2+(22+(18+6))))))from rfl,Xu,Xu,Xu,Xu,Xu,Xu,Xu];simp only[Nat.zero_add,Nat.reduceAdd];rw[QiD (i:=8) om,QiD (i:=12) om,Qg3 (i:=16) om,show Qq s 0 4=s.take 4 by simp[Qq]];simp only[List.append_assoc]
 have z18:=(QaT _).1 hz;rw[Xm om]at z18;have er:List.replicate 46 (0:UInt8)=List.replicate 22 0++(List.replicate 18 0++List.replicate 6 0):=rfl;have l4:(s.take 4).length=4:=by simp only[List.length_take];omega
 have l44:(Qq s 4 4).length=4:=Xm om;constructor
 ·intro hh;rw[e]at hh;unfold hdB at hh;obtain⟨hh,f6⟩:=List.append_inj hh (by simp only[List.length_append,l4,l44];rfl);obtain⟨hh,f5⟩:=List.append_inj hh (by simp only[List.length_append,l4,l44];rfl);obtain⟨hh,f4⟩:=List.append_inj hh (by simp only[List.length_append,l4,l44];rfl);obtain⟨hh,f3⟩:=List.append_inj hh (by simp only[List.length_append,l4,l44];rfl);obtain⟨f1,f2⟩:=List.append_inj hh (by rw[l4];rfl);rw[er]at f6;obtain⟨g1,f6⟩:=List.append_inj f6 (by rw[Xm om];rfl);obtain⟨g2,g3⟩:=List.append_inj f6 (by rw[Xm om];rfl);have f4':=QsV f4;have hb:=Qnn s 12;simp only[Qg6,Bool.and_eq_true,decide_eq_true_eq];refine⟨f1.symm,?_,hlsn,om,?_,?_⟩
  ·rw[<-f2];rfl
  ·rw[<-g1];rfl
  ·rw[<-g3];rfl
 ·intro hh;simp only[Qg6,Bool.and_eq_true,decide_eq_true_eq]at hh;obtain⟨f1,f2,_,f4,f5,f6⟩:=hh;rw[QaT,Xm om]at f2 f5 f6;rw[e,f1,f2,f4,f5,z18,f6];rfl
def rdB(s:List UInt8):Option (Nd×Nat):=if 1<=ub2 s 16/\ub2 s 16<=4 then rdN s 64 (ub2 s 16)else none
def QqC:Nd:=⟨false,[],[]⟩
structure NdR where
 n:Nd
 lsn:Int
 usn:Int
 e:Int
def ndE(e:Int):NdR:=⟨QqC,0,0,e⟩
def XR(b:List UInt8)(num:Int):NdR:=
 if b.length=512 then
  if 1<=num/\num<=120 then
   if XD b then ndE 31
   else match rdB (QL b)with
    | some (n,last)=>if Qg6 (QL b) num&&zer ((QL b).drop last)then⟨n,(ub4 (QL b) 8:Int),(ub2 b 40:Int),0⟩else ndE 3
    | none=>ndE 3
  else ndE 2
 else ndE 10
theorem Qdb{s:List UInt8}{n:Nd}{last:Nat}(hl:s.length=512)(h:rdB s=some (n,last)):Q9 n=Qq s 64 (last-64)/\72<=last/\last<=512/\n.es.length=ub2 s 16/\(1<=ub2 s 16/\ub2 s 16<=4)/\NdW n:=by
 unfold rdB at h;split at h
 ·rename_i hc;obtain⟨h1,h2,h3,h4,h5,h6,h7,h8,h9⟩:=Qip om h;exact⟨h1,om,om,h6,hc,⟨h5,h8,om,h9⟩⟩
 ·cases h
theorem Qkf{s:List UInt8}{n:Nd}{last:Nat}(hl:s.length=512)(h:rdB s=some (n,last)):(Q9 n).length=last-64:=by
 obtain⟨h1,h2,h3,_⟩:=Qdb hl h;rw[h1,Xm om]
theorem Ql7{b:List UInt8}{num:Int}{n:Nd}{last:Nat}(hl:b.length=512)(ht:XD b=false)(hn:0<=num/\num<4294967296)(h:rdB (QL b)=some (n,last))(hlsn:ub4 (QL b) 8<=2147483647) :
  ZL n num (ub4 (QL b) 8:Int) (ub2 b 40:Int)=b ↔ (Qg6 (QL b) num&&zer ((QL b).drop last))=true:=by
 have ho:=Y7 hl;obtain⟨h1,h2,h3,h4,h5,h6⟩:=Qdb ho h;have hc:=Qkf ho h;have hz:=Qlx hl;have hu:=QcO b 40;have hN:(ZE n num (ub4 (QL b) 8:Int)).length=512:=Qbm om
 have hiff:ZL n num (ub4 (QL b) 8:Int) (ub2 b 40:Int)=b ↔ ZE n num (ub4 (QL b) 8:Int)=QL b:=by
  constructor
  ·intro hh;have:=congrArg QL hh;unfold ZL at this
   rwa[QhD hN QcV]at this
  ·intro hh;unfold ZL;rw[hh];exact QoL hl ht
 rw[hiff]
 have hs:QL b=Qq (QL b) 0 64++Q9 n++(QL b).drop last:=by
  rw[h1]
  have e1:Qq (QL b) 0 64++Qq (QL b) 64 (last-64)=(QL b).take last:=by
   have:=Xu (QL b) 0 64 (last-64);rw[Nat.zero_add]at this;rw[<-this,show 64+(last-64)=last by omega];simp[Qq]
  rw[e1,List.take_append_drop]
 have hd:=Qsg (s:=QL b) (num:=num) (c:=n.es.length) om h4 hn hz hlsn;have l64:(Qq (QL b) 0 64).length=64:=Xm om;have hdl:((QL b).drop last).length=448-(Q9 n).length:=by rw[List.length_drop,ho,hc];omega
 constructor
 ·intro hh;rw[hs]at hh;have hh':hdB num (ub4 (Qq (QL b) 0 64++Q9 n++(QL b).drop last) 8:Int) n.es.length++Q9 n++List.replicate (448-(Q9 n).length) 0=Qq (QL b) 0 64++Q9 n++(QL b).drop last:=hh;rw[<-hs]at hh';have hh2:hdB num (ub4 (QL b) 8:Int) n.es.length++Q9 n++List.replicate (448-(Q9 n).length) 0=Qq (QL b) 0 64++Q9 n++(QL b).drop last:=by rw[hh',<-hs]
  obtain⟨f1,f2⟩:=List.append_inj hh2 (by rw[List.length_append,List.length_append,l64];rfl);have f3:=List.append_cancel_right f1;rw[Bool.and_eq_true];refine⟨hd.1 f3,?_⟩;rw[<-f2];exact Qex _
 ·intro hh;rw[Bool.and_eq_true]at hh;have f1:=hd.2 hh.1;have f2:=(QaT _).1 hh.2;rw[hdl]at f2;unfold ZE;rw[f1,<-f2,<-hs]
theorem Qpf{n:Nd}{num lsn usn:Int}(hn:NdW n)(h1:1<=n.es.length/\n.es.length<=4)(hc:(Q9 n).length<=448)(hnum:1<=num/\num<=120)(hlsn:0<=lsn/\lsn<=2147483647)(hu:1<=usn/\usn<=65535):XR (ZL n num lsn usn) num=⟨n,lsn,usn,0⟩:=by
 have hN:=Qbm (n:=n) (num:=num) (lsn:=lsn) hc;have hL:(ZL n num lsn usn).length=512:=Qc9 hN;have hT:XD (ZL n num lsn usn)=false:=Qov hN om;have hO:QL (ZL n num lsn usn)=ZE n num lsn:=QhD hN QcV;have h40:(ub2 (ZL n num lsn usn) 40:Int)=usn:=Qng hN om;have hh:=QnH (n:=n) (num:=num) (lsn:=lsn)
 have e16:ub2 (ZE n num lsn) 16=n.es.length:=by
  rw[show(16:Nat)=0+16 from rfl,<-Qf8 (show 16+1<64 by omega),hh];have f0:=QI (n.es.length:Int);have f1:=QI ((n.es.length:Int)/256);have a0:ub1 (hdB num lsn n.es.length) 16=(by8 (n.es.length:Int)).toNat:=rfl;have a1:ub1 (hdB num lsn n.es.length) 17=(by8 ((n.es.length:Int)/256)).toNat:=rfl;unfold ub2;rw[a0,a1];omega
 have e8:(ub4 (ZE n num lsn) 8:Int)=lsn:=by
  rw[show(8:Nat)=0+8 from rfl,<-Qlz (show 8+3<64 by omega),hh];have f4:=QI lsn;have f5:=QI (lsn/256);have f6:=QI (lsn/65536);have f7:=QI (lsn/16777216);have e:ub4 (hdB num lsn n.es.length) 8=(by8 lsn).toNat+(by8 (lsn/256)).toNat*256+((by8 (lsn/65536)).toNat+(by8 (lsn/16777216)).toNat*256)*65536:=rfl;rw[e];omega
 have hR:rdB (ZE n num lsn)=some (n,64+(Q9 n).length):=by
  unfold rdB;rw[e16,if_pos h1];exact Qki hn om QqD
 have hH:Qg6 (ZE n num lsn) num=true:=by
  refine(Qsg (c:=n.es.length) om e16.symm om QcV om).1 ?_;rw[e8,hh]
 unfold XR;rw[if_pos hL,if_pos hnum,hT,hO,hR];simp only[Bool.false_eq_true,if_false,hH,QqU,Qex,Bool.and_self,if_true,e8,h40]
def Zc:List UInt8:=[82,79,79,84]
def QaX(t:Tre):List UInt8:=Zc++[by8 t.co,by8 t.mo,by8 t.rm,by8 (nth t.ns 0).es.length]++Q9 (nth t.ns 0)
def noT:Tre:=⟨0,0,0,[]⟩
def Qbv(co:Int)(es:List TEnt)(i:Nat):Bool:=QZ co (nth es i).key&&decide (i=0\/Xt co (nth es (i-1)).key (nth es i).key<0)
def Qd5(co:Int)(es:List TEnt):Bool:=(List.range es.length).all (Qbv co es)
theorem Qct{co:Int}{es:List TEnt}:Qd5 co es=true ↔ ∀i,i<es.length->Qbv co es i=true:=by grind[Qd5]
theorem Qm2{co:Int}{es:List TEnt}{i:Nat}(hi:i<es.length)(h:Qbv co es i=false):Qd5 co es=false:=by
 cases hb:Qd5 co es with
 | false=>rfl
 | true=>rw[Qct.1 hb i hi]at h;cases h
def Qd(s:List UInt8):Tre×Int:=
 if s.length<16 then(noT,10)
 else if s.take 4=Zc then
  if Qv (at1 s 4)=0 then
   if XF (at1 s 5) (at1 s 6)=0 then
    if at1 s 5<=4 then
     if at1 s 7<=at1 s 6 then
      match rdN s 8 (ub1 s 7)with
      | some (n,last)=>if last=s.length/\Qd5 (at1 s 4) n.es=true then(⟨at1 s 4,at1 s 5,at1 s 6,[n]⟩,0)else(noT,3)
      | none=>(noT,3)
     else(noT,16)
    else(noT,8)
   else(noT,XF (at1 s 5) (at1 s 6))
  else(noT,Qv (at1 s 4))
 else(noT,3)
def Y4(x:TEnt):Bool:=decide (x.key.length+x.val.length<=88)
def ZT(n:Nd):Bool:=n.es.all Y4
def Yy(t:Tre):Int:=if(Yw t).2=0 then if t.mo<=4/\t.ns.all ZT=true then 0 else 8 else(Yw t).2
theorem Qgb{t:Tre}(h:Yy t=0):(Yw t).2=0/\t.mo<=4/\∀n∈t.ns,∀x∈n.es,x.key.length+x.val.length<=88:=by
 unfold Yy at h;split at h
 ·rename_i h1;split at h
  ·rename_i h2;refine⟨h1,h2.1,λn hn x hx=>?_⟩;have h3:=List.all_eq_true.1 h2.2 n hn;have h4:=List.all_eq_true.1 h3 x hx
   simpa[Y4]using h4
  ·cases h
 grind
theorem QoV{co:Int}{k:List UInt8}(h:QZ co k=true):1<=k.length/\k.length<=40:=by grind[QZ]
theorem QnC{co:Int}{x:TEnt}(h:Y5 co x=0):QZ co x.key=true/\x.val.length<=64:=by grind[Y5,Yh]
theorem Qfi{n:Nd}(h:∀x∈n.es,X8 x 0=true):∀k,k<=n.es.length->(QQ n k).length<=96*k
 | 0,_=>by simp[QQ]
 | k+1,hk=>by
  have ih:=Qfi h k om;have hx:=h _ (Qy (show k<n.es.length by omega));simp only[X8,decide_eq_true_eq]at hx;have hsz:(nth n.es k).sz=8+(nth n.es k).key.length+(nth n.es k).val.length:=rfl
  grind[QQ,Qd9,QH]
theorem QlY{n:Nd}(h:∀x∈n.es,X8 x 0=true):(Q9 n).length<=96*n.es.length+8:=by grind[Qfi,Q9,Qbp]
theorem Qam{t:Tre}(h:Yy t=0){i:Nat}(hi:i<t.ns.length)(hu:(nth t.ns i).us=true):NdW (nth t.ns i)/\(nth t.ns i).es.length<=4/\(Q9 (nth t.ns i)).length<=392/\Qd5 t.co (nth t.ns i).es=true/\t.ns.length<=120:=by
 obtain⟨h1,h2,h3⟩:=Qgb h;obtain⟨hc,hs,h0,hl,hn,_⟩:=Qjc h1;have hT:=QgF hn;obtain⟨hE,_⟩:=Qd6 om hn List.nodup_nil;obtain⟨sn,hE⟩:=hE i (Nat.zero_le _) hi;have hmo:XF t.mo t.rm=0:=hs;have hsz:(3<=t.mo/\t.mo<=8)/\(t.mo/2<=t.rm/\t.rm<=t.mo):=by grind[XF]
 have hm:((nth t.ns i).es.length:Int)<=YY t.mo t.rm i:=by grind[XQ]
 have hle:(nth t.ns i).es.length<=4:=by grind[YY]
 have hK:∀x∈(nth t.ns i).es,X8 x 0=true:=λx hx=>by
  obtain⟨a,b⟩:=QnC (hT.ents i hi x hx);have c:=QoV a;have d:=h3 _ (Qy hi) x hx;simp only[X8,decide_eq_true_eq];omega
 have hb:=QlY hK;refine⟨⟨hu,hK,hT.shape i hi,λc hc=>by have:=(hT.kid i hi c hc).1;omega⟩,hle,om,?_,hl⟩;rw[Qct];intro k hk;simp only[Qbv,Bool.and_eq_true,decide_eq_true_eq];refine⟨(QnC (hT.ents i hi _ (Qy hk))).1,?_⟩;rcases Nat.eq_zero_or_pos k with h0|h0
 ·exact .inl h0
 ·have:=hT.asc i hi (k-1) om
  grind
theorem ZM{t:Tre}(h:Yy t=0):0<t.ns.length/\(nth t.ns 0).us=true/\Qv t.co=0/\XF t.mo t.rm=0/\((nth t.ns 0).es.length:Int)<=t.rm:=by
 obtain⟨h1,h2,h3⟩:=Qgb h;obtain⟨hc,hs,h0,hl,hn,_⟩:=Qjc h1;have hT:=QgF hn;obtain⟨hE,_⟩:=Qd6 om hn List.nodup_nil
 grind[nth,XQ,YY]
theorem Qjo(t:Tre):(QaX t).length=8+(Q9 (nth t.ns 0)).length:=by
 unfold QaX;rw[List.length_append];rfl
theorem QlV{t:Tre}(h:Yy t=0):Qd (QaX t)=(⟨t.co,t.mo,t.rm,[nth t.ns 0]⟩,0):=by
 obtain⟨h0,hu,hc,hs,hr⟩:=ZM h;obtain⟨hW,h4,hb,ha,hl⟩:=Qam h h0 hu;obtain⟨_,hm4,_⟩:=Qgb h;have hsz:(3<=t.mo/\t.mo<=8)/\(t.mo/2<=t.rm/\t.rm<=t.mo):=by grind[XF]
 have hco:0<=t.co/\t.co<=3:=by grind[Qv]
 have hL:=Qjo t;have hcl:8<=(Q9 (nth t.ns 0)).length:=by unfold Q9;rw[List.length_append,Qbp];omega
 have e4:at1 (QaX t) 4=t.co:=by have:=QI t.co;show((by8 t.co).toNat:Int)=_;omega
 have e5:at1 (QaX t) 5=t.mo:=by have:=QI t.mo;show((by8 t.mo).toNat:Int)=_;omega
 have e6:at1 (QaX t) 6=t.rm:=by have:=QI t.rm;show((by8 t.rm).toNat:Int)=_;omega
 have e7:ub1 (QaX t) 7=(nth t.ns 0).es.length:=by have:=QI ((nth t.ns 0).es.length:Int);show(by8 ((nth t.ns 0).es.length:Int)).toNat=_;omega
 have e7':at1 (QaX t) 7=((nth t.ns 0).es.length:Int):=by rw[Qko,e7]
 have hsub:Qq (QaX t) 8 (Q9 (nth t.ns 0)).length=Q9 (nth t.ns 0):=by
  show List.take _ (Q9 (nth t.ns 0))=_;simp
 have hR:=Qki hW om hsub;unfold Qd;rw[if_neg om,if_pos (show(QaX t).take 4=Zc from rfl),e4,e5,e6,e7',e7,if_pos hc,if_pos hs,if_pos hm4,if_pos hr,hR]
 grind
theorem Qkw{ns:List Nd}{below:List Nat}:∀{f i:Nat},QaC ns below f i=none->∀j,i<=j->j<i+f->(nth ns j).us=true->j∈below
 | 0,i,_,j,h1,h2,_=>by omega
 | f+1,i,h,j,h1,h2,hu=>by
  rw[QaC]at h;split at h
  ·cases h
  ·rename_i hn;rcases Nat.eq_or_lt_of_le h1 with e|e
   ·grind
   ·exact Qkw h j e om hu
theorem Qnd{t:Tre}{deep:Int}:∀{vs:List Vis},(X7 t deep vs).2=0->∀v∈vs,QdX t deep v=0
 | [],_,v,hv=>by cases hv
 | u::vs,h,v,hv=>by
  rw[X7]at h;split at h
  ·rename_i h1;rcases List.mem_cons.1 hv with e|e
   ·rw[e];exact h1
   ·exact Qnd h v e
  grind
theorem Qty{t:Tre}(h:Yy t=0){i:Nat}(h0:0<i)(hi:i<t.ns.length)(hu:(nth t.ns i).us=true):1<=(nth t.ns i).es.length:=by
 obtain⟨h1,h2,_⟩:=Qgb h;obtain⟨hc,hs,hz,hl,hn,hsh,_⟩:=Qjc h1;have hsz:(3<=t.mo/\t.mo<=8)/\(t.mo/2<=t.rm/\t.rm<=t.mo):=by grind[XF]
 have hop:QaC t.ns ((YV t.ns).map Vis.i) t.ns.length 0=none:=by
  cases e:QaC t.ns ((YV t.ns).map Vis.i) t.ns.length 0 with
  | none=>rfl
  | some k=>rw[QdL e]at hsh;cases hsh
 rw[QdN hop]at hsh;have hin:=Qkw hop i (Nat.zero_le _) om hu;obtain⟨v,hv,rfl⟩:=List.mem_map.1 hin;have hE:=Qnd hsh v hv
 grind[QdX,nth]
structure Ixs where
 ro:List UInt8
 al:List UInt8
 bm:List UInt8
deriving DecidableEq,Inhabited
def Ixs.n(x:Ixs):Nat:=x.al.length/512
def Ixs.blk(x:Ixs)(i:Nat):List UInt8:=Qq x.al ((i-1)*512) 512
def ZW(bm:List UInt8)(j:Nat):Bool:=decide (ub1 bm (j/8)/2^(j%8)%2=1)
def Qa4(x:Ixs)(i:Nat):Bool:=decide (1<=i/\i<=x.n)&&ZW x.bm (i-1)
def Qdy(x:Ixs):Bool:=(List.range (8*x.bm.length)).any λj=>decide (x.n<=j)&&ZW x.bm j
def ixE(x:Ixs):Int:=
 if x.al.length<=61440/\x.ro.length<=200000 then
  if x.al.length%512=0/\x.bm.length=QH ((x.n+7)/8)then
   if(Qd x.ro).2=0 then
    if Qdy x then 3 else if x.n=0\/ZW x.bm (x.n-1)=true then 0 else 3
   else(Qd x.ro).2
  else 10
 else 8
def bkN(x:Ixs)(i:Nat):Nd:=if Qa4 x i then(XR (x.blk i) i).n else QqC
def bkE(x:Ixs)(i:Nat):Int:=if Qa4 x i then(XR (x.blk i) i).e else if zer (x.blk i)then 0 else 3
def Qge(x:Ixs):Nat->Nat->Option Nat
 | 0,_=>none
 | f+1,i=>if bkE x i=0 then Qge x f (i+1)else some i
def Qw(x:Ixs)(k:Nat):List Nd:=(Qd x.ro).1.ns++(List.range k).map λj=>bkN x (j+1)
def Qaz(x:Ixs):Tre:=⟨(Qd x.ro).1.co,(Qd x.ro).1.mo,(Qd x.ro).1.rm,Qw x x.n⟩
def rdI(x:Ixs):(Tre×Int)×Int:=
 if ixE x=0 then
  match Qge x x.n 1 with
  | some i=>((noT,(i:Int)),bkE x i)
  | none=>if(Yw (Qaz x)).2=0 then((Qaz x,0),0)else((noT,(Yw (Qaz x)).1),(Yw (Qaz x)).2)
 else((noT,0),ixE x)
theorem QbP(x:Ixs)(k:Nat):Qw x (k+1)=Qw x k++[bkN x (k+1)]:=by
 unfold Qw;rw[List.range_succ,List.map_append,List.append_assoc];rfl
theorem YN{x:Ixs}(h:(Qd x.ro).1.ns.length=1)(k:Nat):(Qw x k).length=k+1:=by grind[Qw]
theorem QeR{x:Ixs}:∀{f i:Nat},(∀j,i<=j->j<i+f->bkE x j=0)->Qge x f i=none
 | 0,_,_=>rfl
 | f+1,i,h=>by
  rw[Qge,if_pos (h i (Nat.le_refl _) om)];exact QeR λj h1 h2=>h j om om
theorem Qby{s:List UInt8}(h:(Qd s).2=0):∃n last,rdN s 8 (ub1 s 7)=some (n,last)/\last=s.length/\Qd5 (at1 s 4) n.es=true/\Qd s=(⟨at1 s 4,at1 s 5,at1 s 6,[n]⟩,0)/\16<=s.length/\s.take 4=Zc/\Qv (at1 s 4)=0/\XF (at1 s 5) (at1 s 6)=0/\at1 s 5<=4/\at1 s 7<=at1 s 6:=by grind[Qd]
theorem QdU{x:Ixs}(h:ixE x=0):(x.al.length<=61440/\x.ro.length<=200000)/\(x.al.length%512=0/\x.bm.length=QH ((x.n+7)/8))/\(Qd x.ro).2=0/\Qdy x=false/\(x.n=0\/ZW x.bm (x.n-1)=true):=by grind[ixE]
def Z8(ns:List Nd)(g:Nat):Nat->Nat
 | 0=>0
 | i+1=>Z8 ns g i+(if(nth ns (8*g+i+1)).us=true/\8*g+i+1<ns.length then 2^i else 0)
def YT(ns:List Nd):Nat:=QH ((ns.length-1+7)/8)
def bmB(ns:List Nd):List UInt8:=(List.range (YT ns)).map λg=>by8 (Z8 ns g 8:Nat)
def YB(blk:Nat->List UInt8):Nat->List UInt8
 | 0=>[]
 | k+1=>YB blk k++blk (k+1)
def Qd3:List UInt8:=List.replicate 512 0
def Qk9(t:Tre)(i:Nat):List UInt8:=if(nth t.ns i).us=true then ZL (nth t.ns i) i 0 1 else Qd3
theorem QfI(ns:List Nd)(g:Nat):∀i,Z8 ns g i<2^i
 | 0=>by simp[Z8]
 | i+1=>by
  have:=QfI ns g i
  grind[Z8]
theorem QkM(ns:List Nd)(g:Nat){j:Nat}:∀i,j<i->Z8 ns g i/2^j%2=if(nth ns (8*g+j+1)).us=true/\8*g+j+1<ns.length then 1 else 0
 | 0,h=>absurd h (Nat.not_lt_zero _)
 | i+1,h=>by
  have hlt:=QfI ns g i;rcases Nat.lt_or_ge j i with hj|hj
  ·have ih:=QkM ns g i hj;rw[<-ih,Z8];split
   ·rw[show 2^i=2^j*(2*2^(i-j-1)) by rw[<-Nat.mul_assoc,<-Nat.pow_succ,<-Nat.pow_add];congr 1;omega,Nat.add_mul_div_left _ _ (Nat.pow_pos om)];omega
   grind
  ·obtain rfl:j=i:=by omega
   rw[Z8];split
   ·rw[Nat.add_div_right _ (Nat.pow_pos om),Nat.div_eq_of_lt hlt]
   ·rw[Nat.add_zero,Nat.div_eq_of_lt hlt]
theorem Qjk(ns:List Nd):(bmB ns).length=YT ns:=by simp[bmB]
theorem QsP(ns:List Nd)(j:Nat):ZW (bmB ns) j=decide (j+1<ns.length/\(nth ns (j+1)).us=true):=by
 unfold ZW;rcases Nat.lt_or_ge (j/8) (YT ns)with hj|hj
 ·have h1:ub1 (bmB ns) (j/8)=Z8 ns (j/8) 8:=by
   unfold ub1 bmB;rw[List.getD_eq_getElem?_getD,List.getElem?_map,List.getElem?_range hj];have:=QfI ns (j/8) 8
   grind[QI,Z8]
  grind[QkM,nth]
 ·have h1:ub1 (bmB ns) (j/8)=0:=by simp_all[ub1,Qjk]
  have hlt:¬j+1<ns.length:=by grind[XT,YT]
  rw[h1,Nat.zero_div,decide_eq_false om,decide_eq_false (λh=>hlt h.1)]
theorem Qbe{blk:Nat->List UInt8}(h:∀i,(blk i).length=512):∀k,(YB blk k).length=512*k
 | 0=>rfl
 | k+1=>by rw[YB,List.length_append,Qbe h k,h];omega
theorem Qe1{blk:Nat->List UInt8}(h:∀i,(blk i).length=512){i:Nat}(h1:1<=i):∀k,i<=k->Qq (YB blk k) ((i-1)*512) 512=blk i
 | 0,hi=>by omega
 | k+1,hi=>by
  have hl:=Qbe h k;rcases Nat.lt_or_ge k i with hk|hk
  ·grind[YB,Qq]
  ·rw[<-Qe1 h h1 k hk,YB]
   grind[Qq]
structure Holds(t:Tre)(blk:Nat->List UInt8):Prop where
 len:∀i,(blk i).length=512
 us:∀i,1<=i->i<t.ns.length->(nth t.ns i).us=true->(XR (blk i) i).n=nth t.ns i/\(XR (blk i) i).e=0
 free:∀i,1<=i->i<t.ns.length->(nth t.ns i).us=false->zer (blk i)=true
def Qai(t:Tre)(blk:Nat->List UInt8):Ixs:=⟨QaX t,YB blk (t.ns.length-1),bmB t.ns⟩
theorem QjQ{t:Tre}{blk:Nat->List UInt8}(h:Yy t=0)(hb:Holds t blk):ixE (Qai t blk)=0/\rdI (Qai t blk)=((t,0),0):=by
 obtain⟨g1,g2,g3⟩:=Qgb h;obtain⟨hc,hs,h0,hl,hn,_⟩:=Qjc g1;have hT:=QgF hn;obtain⟨_,hu0,_⟩:=ZM h;obtain⟨hW,h4,hcl,_⟩:=Qam h h0 hu0;have hrt:=QlV h;have hal:=Qbe hb.len (t.ns.length-1)
 have hN:(Qai t blk).n=t.ns.length-1:=by
  show(YB blk (t.ns.length-1)).length/512=_;rw[hal];omega
 have hro:(Qd (Qai t blk).ro)=(⟨t.co,t.mo,t.rm,[nth t.ns 0]⟩,0):=hrt;have hbit:∀j,ZW (Qai t blk).bm j=decide (j+1<t.ns.length/\(nth t.ns (j+1)).us=true):=λj=>QsP t.ns j;have hblk:∀i,1<=i->i<t.ns.length->(Qai t blk).blk i=blk i:=λi a b=>Qe1 hb.len a _ om
 have hnam:∀i,1<=i->i<t.ns.length->Qa4 (Qai t blk) i=(nth t.ns i).us:=λi a b=>by
  unfold Qa4;rw[hN,hbit,show i-1+1=i by omega,decide_eq_true (show 1<=i/\i<=t.ns.length-1 by omega)];simp[b]
 have hE:ixE (Qai t blk)=0:=by
  unfold ixE;rw[if_pos (show(Qai t blk).al.length<=61440/\(Qai t blk).ro.length<=200000 from⟨by show(YB blk _).length<=_;rw[hal];omega,by show(QaX t).length<=_;rw[Qjo];omega⟩)];rw[if_pos (show(Qai t blk).al.length%512=0/\(Qai t blk).bm.length=QH (((Qai t blk).n+7)/8)from⟨by show(YB blk _).length%_=_;rw[hal];omega,by rw[hN];exact Qjk t.ns⟩)];rw[if_pos (show(Qd (Qai t blk).ro).2=0 by rw[hro])];have ho:Qdy (Qai t blk)=false:=by grind[Qdy,Qai]
  rw[ho];simp only[Bool.false_eq_true,if_false];rw[if_pos];rw[hN,hbit];rcases Nat.eq_zero_or_pos (t.ns.length-1)with hz|hz
  ·exact .inl hz
  ·refine .inr (decide_eq_true ?_);rw[show t.ns.length-1-1+1=t.ns.length-1 by omega];refine⟨om,?_⟩;cases hu:(nth t.ns (t.ns.length-1)).us with
   | true=>rfl
   | false=>have:=(hT.free _ om hu).1.2;omega
 have hbk:∀i,1<=i->i<t.ns.length->bkN (Qai t blk) i=nth t.ns i/\bkE (Qai t blk) i=0:=λi a b=>by
  unfold bkN bkE;rw[hnam i a b,hblk i a b];cases hu:(nth t.ns i).us with
  | true=>
   obtain⟨e1,e2⟩:=hb.us i a b hu;exact⟨e1,e2⟩
  | false=>
   obtain⟨_,e2,e3⟩:=hT.free i b hu;refine⟨?_,?_⟩
   ·show QqC=_;have:nth t.ns i=⟨(nth t.ns i).us,(nth t.ns i).es,(nth t.ns i).cs⟩:=rfl;rw[this,hu,e2,e3];rfl
   ·show(if zer (blk i)then(0:Int)else 3)=0;rw[hb.free i a b hu];rfl
 have hbad:Qge (Qai t blk) (Qai t blk).n 1=none:=QeR λj a b=>(hbk j a (by rw[hN]at b;omega)).2
 have htr:Qaz (Qai t blk)=t:=by
  unfold Qaz Qw;rw[hro,hN]
  have:[nth t.ns 0]++(List.range (t.ns.length-1)).map (λj=>bkN (Qai t blk) (j+1))=t.ns:=by
   apply List.ext_getElem?
   grind[hi,Z7]
  simp_all
 grind[rdI]
theorem Qe9:Qd3.length=512:=List.length_replicate ..
end Gx
namespace Go.Proofs
open Go Go.RowKit Gx
attribute [local irreducible] Go.Calls Gx.S Gx.O Gx.D Gx.OpP Gx.OpQ Gx.OpH
set_option maxRecDepth 20000
instance:TFn Tryz.prog 87:=⟨by kernel_rfl⟩
theorem Qez:QK Tryz.prog 60=true:=by kernel_rfl
instance:TFn Tryz.prog 60:=⟨Qez⟩
instance:TFn Tryz.prog 192:=⟨by kernel_rfl⟩
theorem QiU:QK Tryz.prog 131=true:=by kernel_rfl
instance:TFn Tryz.prog 131:=⟨QiU⟩
theorem Z5:QS Tryz.prog 5=some [.int .u8 0]:=by kernel_rfl
theorem QlU:QK Tryz.prog 152=true:=by kernel_rfl
theorem QrN:QK Tryz.prog 153=true:=by kernel_rfl
theorem c87(w:World)(n lo hi:Int):CR 87 #[.int .i64 n,.int .i64 lo,.int .i64 hi] w (.bool (decide (lo<=n)&&decide (n<=hi))):=by
 refine eN3 Tryz.func87 Tryz.ntmps87 ?_
 refine YR ?_
 refine XP 4 10 14 rfl
  (λhg1 _=>by
   refine aU6 ?_
   exact oJt 4 14)
  (λhg3 _=>by
   refine aU3 ?_
   exact oJf 4 14) ?_
 refine aU2 ?_
 exact rV
theorem c205(w:World)(n lo hi:Int):CR 205 #[.int .i64 n,.int .i64 lo,.int .i64 hi] w (.bool (decide (lo<=n)&&decide (n<=hi))):=by
 refine eN3 Tryz.func205 Tryz.ntmps205 ?_
 refine YR ?_
 refine XP 4 10 14 rfl
  (λhg1 _=>by
   refine aU6 ?_
   exact oJt 4 14)
  (λhg3 _=>by
   refine aU3 ?_
   exact oJf 4 14) ?_
 refine aU2 ?_
 exact rV
theorem c60(w:World)(ok:Bool)(e:Int):CR 60 #[.bool ok,.int .i64 e] w (.int .i64 (cond ok 0 e)):=by
 refine eN2 Tryz.func60 Tryz.ntmps60 ?_
 refine aU9 ?_
 refine sCd rfl (λh1=>?_) λh1=>?_
 ·refine aU4 ?_
  exact rV (h:=by simp_all[QX])
 refine aU6 ?_
 exact rV (h:=by simp_all[QX])
theorem QvW(w:World)(ok:Bool)(e:Int):CR 192 #[.bool ok,.int .i64 e] w (.int .i64 (cond ok 0 e)):=by
 refine eN2 Tryz.func192 Tryz.ntmps192 ?_
 refine aU9 ?_
 refine sCd rfl (λh1=>?_) λh1=>?_
 ·refine aU4 ?_
  exact rV (h:=by simp_all[QX])
 refine aU6 ?_
 exact rV (h:=by simp_all[QX])
theorem c59(w:World)(a:Option Addr)(cap:Nat)(es:List Int)(hs:Sl w [] a 1 es.length (λi=>[.int .i64 (es.getD i 0)]))(hm:es.length<=1000):CR 59 #[.slice a es.length cap] w (.int .i64 (YX es)):=by
 refine eN1 Tryz.func59 Tryz.ntmps59 ?_
 refine Qay ?_
 refine Qt (α:=Nat) [2,4,7,8,9,10,11,12,13,14] (λk=>[(7,.int .i64 (k:Int))]) (λ_=>_) (λk=>k<=es.length/\YX es=YX (es.drop k)) (λk=>es.length-k) 0 ⟨om,rfl⟩ aSx (λw h=>h) (λk hk=>?_)
 obtain⟨hk1,hk2⟩:=hk
 refine aU5 ?_
 refine sCd rfl (λh1=>?_) λh1=>?_
 ·refine aU5 ?_
  refine o_p (Qa rfl rfl rfl Yq _ rfl om (hs.some om)) rfl (o_q (Qb rfl rfl QpT (hs.rd (i:=k) (j:=0) om rfl)) rfl (aU7 ?_))
  refine sCd rfl (λh2=>?_) λh2=>?_
  ·refine aU5 ?_
   exact rV (h:=by simp only[QX];rw[hk2,Zd om,if_neg (by assumption)])
  refine aT4 ?_
  refine aU2 ?_
  exact QO (k+1) om ⟨om,by rw[hk2,Zd om,if_pos (by assumption)]⟩ aSx (λw h=>h)
 refine Qh rfl ?_
 refine aU4 ?_
 exact rV (h:=by simp only[QX];rw[hk2,QdW om])
theorem f59{w0 w:World}{M:List Nat}{As As':List HA}{b cap n:Nat}{t:TypeId}{tot:Nat}{cs:List Value}(h:HS w0 M As w)(hp:QP As (.blk b t tot cs) As')(hc:cs.all QhR=true)(hn:cs.length=n)(hl:n<=1000) :
    Calls Tryz.prog 59 #[.slice (some ⟨b,0,none⟩) n cap] w λen w'=>en=.returned (.int .i64 (Xp cs))/\Below w.heap.size w w':=by
  subst hn;have:=c59 w (some ⟨b,0,none⟩) cap (cs.map Go.RowKit.intOf) (by simpa using h.sl_ints hp hc) (by simpa using hl);rw[Qde hc]at this
  simpa using this
theorem c203(w:World)(a:Option Addr)(cap:Nat)(es:List Int)(hs:Sl w [] a 1 es.length (λi=>[.int .i64 (es.getD i 0)]))(hm:es.length<=1000):CR 203 #[.slice a es.length cap] w (.int .i64 (YX es)):=by
 refine eN1 Tryz.func203 Tryz.ntmps203 ?_
 refine Qay ?_
 refine Qt (α:=Nat) [2,4,7,8,9,10,11,12,13,14] (λk=>[(7,.int .i64 (k:Int))]) (λ_=>_) (λk=>k<=es.length/\YX es=YX (es.drop k)) (λk=>es.length-k) 0 ⟨om,rfl⟩ aSx (λw h=>h) (λk hk=>?_)
 obtain⟨hk1,hk2⟩:=hk
 refine aU5 ?_
 refine sCd rfl (λh1=>?_) λh1=>?_
 ·refine aU5 ?_
  refine o_p (Qa rfl rfl rfl Yq _ rfl om (hs.some om)) rfl (o_q (Qb rfl rfl QpT (hs.rd (i:=k) (j:=0) om rfl)) rfl (aU7 ?_))
  refine sCd rfl (λh2=>?_) λh2=>?_
  ·refine aU5 ?_
   exact rV (h:=by simp only[QX];rw[hk2,Zd om,if_neg (by assumption)])
  refine aT4 ?_
  refine aU2 ?_
  exact QO (k+1) om ⟨om,by rw[hk2,Zd om,if_pos (by assumption)]⟩ aSx (λw h=>h)
 refine Qh rfl ?_
 refine aU4 ?_
 exact rV (h:=by simp only[QX];rw[hk2,QdW om])
theorem f203{w0 w:World}{M:List Nat}{As As':List HA}{b cap n:Nat}{t:TypeId}{tot:Nat}{cs:List Value}(h:HS w0 M As w)(hp:QP As (.blk b t tot cs) As')(hc:cs.all QhR=true)(hn:cs.length=n)(hl:n<=1000) :
    Calls Tryz.prog 203 #[.slice (some ⟨b,0,none⟩) n cap] w λen w'=>en=.returned (.int .i64 (Xp cs))/\Below w.heap.size w w':=by
  subst hn;have:=c203 w (some ⟨b,0,none⟩) cap (cs.map Go.RowKit.intOf) (by simpa using h.sl_ints hp hc) (by simpa using hl);rw[Qde hc]at this
  simpa using this
theorem c88(w:World)(x:TEnt)(hk:x.key.length<=1000000)(hv:x.val.length<=1000000):CR 88 #[.agg #[.string (bs x.key),.string (bs x.val)]] w (.bool (Y4 x)):=by
 refine eN1 Tryz.func88 Tryz.ntmps88 ?_
 refine aU2 ?_
 refine oBx λb1 _=>?_
 refine aU6 ?_
 refine o_p (Qg rfl rfl Tryz.underlying9) rfl (aU2 ?_)
 refine o_p (Qg rfl rfl Tryz.underlying9) rfl (aT ?_)
 refine aU3 ?_
 exact rV (h:=by simp only[QX,Y4];congr 2;congr 1;first|omega|(rw[eq_iff_iff];omega)|(apply decide_eq_decide.2;omega))
theorem c100(w:World)(n:Int):CR 100 #[.int .i64 n] w (.int .i64 (cond (decide (0<=n)&&decide (n<=2147483647)) 0 2)):=by
 refine eN1 Tryz.func100 Tryz.ntmps100 ?_
 refine aU7 ?_
 refine oCq rfl (λw1 h1=>c87 w1 _ _ _) (oCq rfl (λw1 h1=>c60 w1 _ _) (aU2 ?_))
 exact rV
theorem Qwj(w:World)(s:List UInt8):CR 129 #[.string (bs s)] w (.int .i64 (cond (decide ((s.length:Int)=512)) 0 10)):=by
 refine eN1 Tryz.func129 Tryz.ntmps129 ?_
 refine aU7 ?_
 refine o_p (Qg rfl rfl Tryz.underlying9) rfl (aU ?_)
 refine oCq rfl (λw1 h1=>QvW w1 _ _) (aU2 ?_)
 exact rV
theorem Qtf(w:World)(a:Option Addr)(m cap:Nat)(x:List UInt8)(hs:Vl w a (x.map bv))(hm:x.length=m)(h2:2<=m)(hc:m<=cap)(hc9:cap<=9223372036854775807):CR 131 #[.slice a m cap] w (.int .u16 (at2 x 0)):=by
 refine eN1 Tryz.func131 Tryz.ntmps131 ?_
 refine aU5 ?_
 refine Qz [] QJ ?_
 refine dP 0 ?_
 refine dV 1 rfl (Qa rfl rfl rfl QB 0 rfl om (hs.some (by rw[List.length_map];omega))) (dQ 2 [] rfl (Qb rfl rfl Qen ((hs.rd (i:=0) (Qaj (l:=x) (k:=0) om)))) (dV 3 rfl (Qp rfl rfl Zh Ys) (dP 4 ?_)))
 refine dV 5 rfl (Qa rfl rfl rfl QB 1 rfl om (hs.some (by rw[List.length_map];omega))) (dQ 6 [] rfl (Qb rfl rfl Qen ((hs.rd (i:=1) (Qaj (l:=x) (k:=1) om)))) (dV 7 rfl (Qp rfl rfl Zh Ys) (dV 8 rfl (Qfp rfl rfl rfl (by decide) 8 rfl) (dP 9 ?_))))
 refine dP 10 ?_
 refine dNi ?_
 exact rV (h:=by rw[<-QjV];rfl)
theorem c132(w:World)(a:Option Addr)(m cap:Nat)(x:List UInt8)(hs:Vl w a (x.map bv))(hm:x.length=m)(h2:4<=m)(hc:m<=cap)(hc9:cap<=9223372036854775807):CR 132 #[.slice a m cap] w (.int .u32 (at4 x 0)):=by
 have hx2:=QaV x 0
 have hx3:=QaV x 2
 refine eN1 Tryz.func132 Tryz.ntmps132 ?_
 refine aU5 ?_
 refine Qz [] QJ ?_
 refine dP 0 ?_
 refine dQ 1 [] rfl (Qr rfl QiU rfl (λw1 h1=>Qtf w1 a m cap x (hs.later h1) hm om hc hc9)) (dV 2 rfl (Qp rfl rfl Ys Y3) (dP 3 ?_))
 refine dV 4 rfl (QA _ _ 2 m rfl rfl QB ⟨_,_,rfl,rfl⟩ rfl om om) (dQ 5 [] rfl (Qr rfl QiU rfl (λw1 h1=>Qtf w1 (XU a cap 2 1) (m-2) (cap-2) (x.drop 2) (by rw[List.map_drop];exact(hs.later h1).drop (by rw[List.length_map];omega) om) (by rw[List.length_drop];omega) om om om)) (dV 6 rfl (Qp rfl rfl Ys Y3) (dV 7 rfl (Qfp rfl rfl rfl (by decide) 16 rfl) (dP 8 ?_))))
 refine dP 9 ?_
 refine dNi ?_
 exact rV (h:=by have h9:=QjB (at2 x 0) (at2 (x.drop 2) 0) (QaV _ _) (QaV _ _);rw[Qba]at h9 ⊢;exact(congrArg Ending.returned h9))
theorem QuK(w:World)(a:Option Addr)(cap:Nat)(l:List UInt8)(n:Int)(hw:HS w (fps [.byz a cap (l)]) [.byz a cap (l)] w)(hn:0<=n/\n<65536)(hl:l.length<=1000000):CE 152 #[.slice a l.length cap,.int .u16 n] w (fps [.byz a cap (l)]) (λg:Option Addr×Nat=>.slice g.1 (l++le2 n).length g.2) (λg=>Qck a cap g (l++le2 n).length) λg=>[.byz g.1 g.2 (l++le2 n)]:=by
 refine eW2 Tryz.func152 Tryz.ntmps152 hw ?_
 refine aU8 ?_
 refine o_p (Qp rfl rfl Ys Zh) rfl (Qm (Ym _) (aU ?_))
 refine o_p (Qey rfl rfl rfl (by decide) 8 rfl) rfl (o_p (Qp rfl rfl Ys Zh) rfl (Qm (show _=bv (by8 (n/256))from Ym _) (o_h (Qk (cs:=[_,_]) rfl rfl QB Z5 rfl rfl rfl) rfl (λb1 _=>?_))))
 refine o_h (Qac [by8 n,by8 (n/256)] rfl rfl rfl QB Tryz.underlying139 Z5 aPk (Xg aPk) (by simp only[List.length_append,List.length_cons,List.length_nil,le2,le4]<;>omega) (by simp only[maxLen,List.length_append,List.length_cons,List.length_nil,le2,le4]<;>omega)) rfl (λ⟨b2,c3⟩h4=>aU2 ?_)
 exact rT rfl rfl (λw' h'=>⟨(b2,c3),rfl,h4,h'.ent aEt⟩)
theorem Qwr(w:World)(a:Option Addr)(cap:Nat)(l:List UInt8)(n:Int)(hw:HS w (fps [.byz a cap (l)]) [.byz a cap (l)] w)(hn:0<=n)(hl:l.length<=1000000):CE 152 #[.slice a l.length cap,.int .u16 (n%65536)] w (fps [.byz a cap (l)]) (λg:Option Addr×Nat=>.slice g.1 (l++le2 n).length g.2) (λg=>Qck a cap g (l++le2 n).length) λg=>[.byz g.1 g.2 (l++le2 n)]:=by
  have h9:=QuK w a cap l (n%65536) hw om hl;rw[QrF]at h9;exact h9
theorem c153(w:World)(a:Option Addr)(cap:Nat)(l:List UInt8)(n:Int)(hw:HS w (fps [.byz a cap (l)]) [.byz a cap (l)] w)(hn:0<=n/\n<4294967296)(hl:l.length<=1000000):CE 153 #[.slice a l.length cap,.int .u32 n] w (fps [.byz a cap (l)]) (λg:Option Addr×Nat=>.slice g.1 (l++le4 n).length g.2) (λg=>Qck a cap g (l++le4 n).length) λg=>[.byz g.1 g.2 (l++le4 n)]:=by
 have he9:l++le4 n=(l++le2 n)++[by8 (n/65536),by8 (n/16777216)]:=by rw[Qwd,List.append_assoc]
 refine eW2 Tryz.func153 Tryz.ntmps153 hw ?_
 refine aU8 ?_
 refine o_p (Qp rfl rfl Y3 Ys) rfl (Qm (show _=Value.int .u16 (n%65536)from by rw[QjC]) (o_h (Q1 (Cs:=[.byz a cap (l)]) rfl QlU rfl aPs (λw1 h1 hf=>Qwr w1 a cap l n hf om hl)) rfl (λ⟨b1,c2⟩hz3=>aU ?_)))
 refine o_p (Qey rfl rfl rfl (by decide) 16 rfl) rfl (o_p (Qp rfl rfl Y3 Zh) rfl (Qm (show _=bv (by8 (n/65536))from Ym _) (aU ?_)))
 refine o_p (Qey rfl rfl rfl (by decide) 24 rfl) rfl (o_p (Qp rfl rfl Y3 Zh) rfl (Qm (show _=bv (by8 (n/16777216))from Ym _) (o_h (Qk (cs:=[_,_]) rfl rfl QB Z5 rfl rfl rfl) rfl (λb4 _=>?_))))
 refine o_h (Qac (l:=l++le2 n) [by8 (n/65536),by8 (n/16777216)] rfl rfl rfl QB Tryz.underlying139 Z5 aPk (Xg aPk) (by simp only[List.length_append,List.length_cons,List.length_nil,le2,le4]<;>omega) (by simp only[maxLen,List.length_append,List.length_cons,List.length_nil,le2,le4]<;>omega)) rfl (λ⟨b5,c6⟩h7=>aU2 ?_)
 exact rT rfl rfl (λw' h'=>⟨(b5,c6),by rw[he9];rfl,by rw[he9];exact(hz3).trans h7 (by simp only[List.length_append];omega),by rw[he9];exact h'.ent aEt⟩)
theorem c154(w:World)(a:Option Addr)(cap:Nat)(l:List UInt8)(hw:HS w (fps [.byz a cap (l)]) [.byz a cap (l)] w)(hl:l.length<=1000000):CE 154 #[.slice a l.length cap] w (fps [.byz a cap (l)]) (λg:Option Addr×Nat=>.slice g.1 (l++List.replicate (QH l.length-l.length) 0).length g.2) (λg=>Qck a cap g (l++List.replicate (QH l.length-l.length) 0).length) λg=>[.byz g.1 g.2 (l++List.replicate (QH l.length-l.length) 0)]:=by
 have hp8:=XT l.length
 have hm8:QH l.length%8=0:=by unfold QH;omega
 refine eW1 Tryz.func154 Tryz.ntmps154 hw ?_
 refine aU6 ?_
 refine Qt (α:=Nat×Option Addr×Nat) [0,3,4,5,6,7,8,9] (λx=>[(0,.slice x.2.1 (l++List.replicate x.1 0).length x.2.2)]) (λx=>HS w (fps [.byz a cap (l)]) [.byz x.2.1 x.2.2 (l++List.replicate x.1 0)]) (λx=>x.1<=(QH l.length-l.length)/\Qck a cap (x.2.1,x.2.2) (l++List.replicate x.1 0).length) (λx=>(QH l.length-l.length)-x.1) (0,a,cap) ⟨Nat.zero_le _,λ_=>⟨rfl,rfl⟩⟩ (by simp only[List.replicate_zero,List.append_nil];exact aSx) (λw h=>(by simp only[List.replicate_zero,List.append_nil];exact h.ent aEt)) (λ⟨k,a2,c2⟩hk1=>?_)
 dsimp only
 simp only[]at hk1
 obtain⟨hk2,hk3⟩:=hk1
 have hlk:(l++List.replicate k 0).length=l.length+k:=by simp
 refine aU5 ?_
 refine o_p (YE rfl rfl rfl om om) rfl (aU2 ?_)
 refine sCd rfl (λh1=>?_) λh1=>?_
 ·have hk:k<(QH l.length-l.length):=by have hq:=h1;rw[hlk]at hq;omega
  have hrep:l++List.replicate (k+1) 0=(l++List.replicate k 0)++[0]:=by rw[List.replicate_succ',List.append_assoc]
  refine aU4 ?_
  refine o_h (Qk (cs:=[_]) rfl rfl QB Z5 rfl rfl rfl) rfl (λb2 _=>?_)
  refine o_h (Qac (l:=l++List.replicate k 0) [0] rfl rfl rfl QB Tryz.underlying139 Z5 aPk (Xg aPk) (by simp only[List.length_replicate,List.length_append,List.length_cons,List.length_nil,le2,le4]<;>omega) (by simp only[maxLen,List.length_replicate,List.length_append,List.length_cons,List.length_nil,le2,le4]<;>omega)) rfl (λ⟨b3,c4⟩h5=>aU3 ?_)
  exact QO (k+1,b3,c4) (by(try simp only[]);omega) (by simp only[];rw[hrep];exact⟨om,hk3.trans h5 (by simp only[List.length_append];omega)⟩) (by dsimp only;rw[hrep];exact aSx) (λw h=>by dsimp only;rw[hrep];exact h.ent aEt)
 have hk:k=(QH l.length-l.length):=by have hq:=h1;rw[hlk]at hq;omega
 subst hk
 refine Qh rfl ?_
 refine aU5 ?_
 exact rT rfl rfl (λw' h'=>⟨(a2,c2),rfl,hk3,h'.ent aEt⟩)
theorem c156(w:World)(a:Option Addr)(cap:Nat)(l:List UInt8)(c:Int)(hw:HS w (fps [.byz a cap (l)]) [.byz a cap (l)] w)(hc9:0<=c/\c<4294967296)(hl:l.length<=900000):CE 156 #[.slice a l.length cap,.int .i64 c] w (fps [.byz a cap (l)]) (λg:Option Addr×Nat=>.slice g.1 (l++Qa0 c).length g.2) (λg=>Qck a cap g (l++Qa0 c).length) λg=>[.byz g.1 g.2 (l++Qa0 c)]:=by
 have he9:l++Qa0 c=((l++le2 8)++[0,0])++le4 c:=by simp only[Qa0,List.append_assoc]
 have l2:(l++le2 8).length=l.length+2:=by rw[List.length_append];rfl
 have l3:((l++le2 8)++[0,0]).length=l.length+4:=by rw[List.length_append,l2];rfl
 refine eW2 Tryz.func156 Tryz.ntmps156 hw ?_
 refine aU7 ?_
 refine o_h (Q1 (Cs:=[.byz a cap (l)]) rfl QlU rfl aPs (λw1 h1 hf=>QuK w1 a cap l 8 hf om om)) rfl (λ⟨b1,c2⟩hz3=>aU5 ?_)
 refine o_h (Qk (cs:=[_,_]) rfl rfl QB Z5 rfl rfl rfl) rfl (λb4 _=>?_)
 refine o_h (Qac (l:=l++le2 8) [0,0] rfl rfl rfl QB Tryz.underlying139 Z5 aPk (Xg aPk) (by simp only[List.length_append,List.length_cons,List.length_nil,le2,le4]<;>omega) (by simp only[maxLen,List.length_append,List.length_cons,List.length_nil,le2,le4]<;>omega)) rfl (λ⟨b5,c6⟩h7=>aU6 ?_)
 refine o_p (Qp rfl rfl YP Y3) rfl (Qm (show _=Value.int .u32 c from by rw[Qfo];congr 1;omega) (o_h (Q1 (Cs:=[.byz b5 c6 ((l++le2 8)++[0,0])]) rfl QrN rfl aPs (λw1 h1 hf=>c153 w1 b5 c6 ((l++le2 8)++[0,0]) c hf hc9 om)) rfl (λ⟨b8,c9⟩hz10=>aU2 ?_)))
 exact rT rfl rfl (λw' h'=>⟨(b8,c9),by rw[he9];rfl,by rw[he9];exact((hz3).trans h7 (by simp only[List.length_append];omega)).trans hz10 (by simp only[List.length_append];omega),by rw[he9];exact h'.ent aEt⟩)
end Go.Proofs
namespace Gx
open Go Go.RowKit
theorem QrV{s:List UInt8}{k:Nat}(h:k<s.length):zer (s.take (k+1))=(zer (s.take k)&&decide (s.getD k 0=0)):=by
 unfold zer;rw[List.take_add_one,List.getElem?_eq_getElem h,List.all_append,List.getD_eq_getElem?_getD,List.getElem?_eq_getElem h];simp
theorem Qvx{s:List UInt8}{k:Nat}(h:k<s.length)(h2:¬s.getD k 0=0):zer s=false:=by
 cases hb:zer s with
 | false=>rfl
 | true=>
  unfold zer at hb;have:=List.all_eq_true.1 hb _ (List.getElem_mem h)
  grind
theorem Qj3{u:UInt8}:(u.toNat:Int)=0 ↔ u=0:=by
 constructor
 ·intro h;exact UInt8.toNat_inj.1 (by have:(0:UInt8).toNat=0:=rfl;omega)
 simp_all
def Qao(x:TEnt)(c:Int):Int:=if 1<=x.key.length/\x.key.length<=40 then if x.key.length+x.val.length<=88 then if 0<=c/\c<=120 then 0 else 2 else 8 else 3
structure NdP(n:Nd):Prop where
 el:n.es.length<=1000
 es:∀x∈n.es,x.key.length<=300/\x.val.length<=300
 cl:n.cs.length=0\/n.cs.length=n.es.length+1
 cs:∀c∈n.cs,0<=c/\c<4294967296
theorem NdW.ndp{n:Nd}(h:NdW n)(hl:n.es.length<=1000):NdP n:=
 ⟨hl,λx hx=>by have:=h.es x hx;simp only[X8,decide_eq_true_eq]at this;omega,h.cl,λc hc=>by have:=h.cs c hc;omega⟩
theorem NdP.kid{n:Nd}(h:NdP n){i:Nat}(hi:i<=n.es.length):0<=Q7 n.cs i/\Q7 n.cs i<4294967296:=by
 unfold Q7;split
 ·omega
 ·have hl:i<n.cs.length:=by have:=h.cl;omega
  rw[List.getD_eq_getElem?_getD,List.getElem?_eq_getElem hl];exact h.cs _ (List.getElem_mem hl)
theorem Qsl{n m:Nat}(h:n<=8*m):QH n<=8*m:=by unfold QH;omega
theorem QqH{n m:Nat}(h:n%8=0):QH (n+m)=n+QH m:=by unfold QH;omega
theorem NdP.ents{n:Nd}(h:NdP n):∀k,k<=n.es.length->(QQ n k).length<=608*k/\(QQ n k).length%8=0
 | 0,_=>by simp[QQ]
 | k+1,hk=>by
  have ih:=h.ents k om;have hx:=h.es _ (Qy (show k<n.es.length by omega));have hsz:(nth n.es k).sz=8+(nth n.es k).key.length+(nth n.es k).val.length:=rfl
  grind[Qsl,nth,QH,QQ,Qd9]
def Qiu(n:Nd)(k:Nat):List UInt8:=if k<=n.es.length then QQ n k else Q9 n
theorem Qnc{n:Nd}{k:Nat}(h:k<=n.es.length):Qiu n k=QQ n k:=if_pos h
theorem QkT(n:Nd):Qiu n (n.es.length+1)=Q9 n:=if_neg om
theorem QoQ{n:Nd}{k:Nat}(h:k<n.es.length):Qiu n (k+1)=QQ n k++Yd (nth n.es k) (Q7 n.cs k):=by
 rw[Qnc om];rfl
end Gx
namespace Go.Proofs
open Go Go.RowKit Gx
attribute [local irreducible] Go.Calls Gx.S Gx.O Gx.D Gx.OpP Gx.OpQ Gx.OpH
set_option maxRecDepth 20000
instance:TFn Tryz.prog 178:=⟨by kernel_rfl⟩
theorem Qo8:QK Tryz.prog 121=true:=by kernel_rfl
instance:TFn Tryz.prog 121:=⟨Qo8⟩
theorem Qnm:QK Tryz.prog 95=true:=by kernel_rfl
instance:TFn Tryz.prog 95:=⟨Qnm⟩
theorem Qb7:QK Tryz.prog 94=true:=by kernel_rfl
instance:TFn Tryz.prog 94:=⟨Qb7⟩
theorem Qmc:QK Tryz.prog 86=true:=by kernel_rfl
instance:TFn Tryz.prog 86:=⟨Qmc⟩
theorem c94(w:World)(n:Int)(c:Nat)(hn:0<=n/\n<=9223372036854775807)(hc:c<=1000):CR 94 #[.int .i64 n,.int .i64 (c:Int)] w (.string (bs (Qci c n))):=by
 refine eN2 Tryz.func94 Tryz.ntmps94 ?_
 refine QgU ?_
 refine Qt (α:=Nat×Int×List UInt8×Option Addr×Nat) [0,5,6,7,8,9,10,11,12,13,14,15,16,17,18,19] (λx=>[(6,.int .i64 (x.1:Int)),(0,.int .i64 x.2.1),(5,.slice x.2.2.2.1 x.2.2.1.length x.2.2.2.2)]) (λx=>HS w [] [.own (.slice x.2.2.2.1 x.2.2.1.length x.2.2.2.2) 5 1 (x.2.2.1.length) ((x.2.2.1).map bv)]) (λx=>x.1<=c/\x.2.2.1.length=x.1/\(0<=x.2.1/\x.2.1<=9223372036854775807)/\Qci c n=x.2.2.1++Qci (c-x.1) x.2.1) (λx=>c-x.1) (0,n,[],none,0) ⟨Nat.zero_le _,rfl,hn,rfl⟩ aSx (λw h=>(h.own_nil 5 1).ent aEt) (λ⟨k,m,p,ga,gc⟩hx=>?_)
 dsimp only
 obtain⟨hk1,hpl,hm,hst⟩:=hx
 simp only[]at hk1 hpl hm hst
 refine aU7 ?_
 refine sCd rfl (λh1=>?_) λh1=>?_
 ·have hk:k<c:=by omega
  refine aU7 ?_
  refine o_p (YE rfl rfl rfl om om) rfl (o_p (Qp rfl rfl YP Zh) rfl (Qm (show _=bv (by8 m)from(Ym _).trans (by rw[QdR (show m%256%256=m%256 by omega)])) (o_h (Qk (cs:=[_]) rfl rfl QB Z5 rfl rfl rfl) rfl (λb2 _=>o_h (Xe _ rfl rfl rfl QB Tryz.underlying139 Z5 rfl aPk (Xg aPk) rfl (by intro u hu;simp only[List.mem_cons,List.mem_nil_iff,or_false]at hu;subst hu;rfl) om (by simp only[maxLen];omega)) rfl (λb3 _=>aU4 ?_)))))
  refine o_p (XC rfl rfl rfl om om om) rfl (aT6 ?_)
  refine aU2 ?_
  exact QO (k+1,m/256,p++[by8 m],b3.1,b3.2) (by(try simp only[]);omega) ⟨by(try simp only[]);omega,by simp[hpl],by(try simp only[]);omega,by simp only[];rw[hst,show c-k=(c-(k+1))+1 by omega,Qci,List.append_assoc];rfl⟩ (by dsimp only;rw[List.length_append];exact aSx) (λw h=>by dsimp only;rw[List.length_append,List.map_append];exact h.ent aEt)
 obtain rfl:k=c:=om
 rw[Nat.sub_self,Qci,List.append_nil]at hst
 refine Qh rfl ?_
 refine aU3 ?_
 refine o_q (Qaa rfl rfl Tryz.underlying139 Tryz.underlying9 Tryz.underlying5 aPk (Zp _)) rfl (aU2 ?_)
 exact rV (h:=by rw[YG,hst];rfl)
theorem QeC(c:Nat):XJ [.int .u8 0] (c*1)=(List.replicate c (0:UInt8)).map bv:=by
  rw[Nat.mul_one,List.map_replicate];exact QcJ _ _
theorem Qpg{m:Int}(h:0<=m/\m<=1000000000000):Value.int .i64 (IntKind.i64.wrap ((-m).tdiv 8))=Value.int .i64 (-(m/8)):=by
  rw[Int.neg_tdiv,Int.tdiv_eq_ediv_of_nonneg h.1];exact QeY om om
theorem QpM{m:Int}(h:0<=m):(-m).tmod 8= -(m%8):=by rw[Int.neg_tmod,Int.tmod_eq_emod_of_nonneg h]
theorem c86(w:World)(c:Nat)(hc:c<=100000):CR 86 #[.int .i64 (c:Int)] w (.string (bs (List.replicate c 0))):=by
 refine eN1 Tryz.func86 Tryz.ntmps86 ?_
 refine aU7 ?_
 refine o_p (Qqf rfl rfl rfl ) rfl (o_p (QdT rfl rfl rfl ) rfl ?_)
 refine Qm (show _=Value.int .i64 (c:Int)from congrArg (Value.int .i64) (by split<;>split<;>omega)) (o_h (QeN (n:=c) rfl rfl rfl QB Z5 om om) rfl (λb1 _=>o_q (Yl rfl rfl Tryz.underlying139 Tryz.underlying9 Tryz.underlying5 aPk (by simp[QG]) (by intro v hv;rw[QeC]at hv;exact Zp _ v hv)) rfl (aU2 ?_)))
 exact rV (h:=by rw[QeC,YG];rfl)
theorem c53(w:World)(s:List UInt8)(hm:s.length<=1000000000):CR 53 #[.string (bs s)] w (.bool (zer s)):=by
 refine eN1 Tryz.func53 Tryz.ntmps53 ?_
 refine YR ?_
 refine Qt (α:=Nat) [2,3,4,5,6,7,8,9,10,11,12,13] (λk=>[(3,.int .i64 (k:Int))]) (λ_=>_) (λk=>k<=s.length/\zer (s.take k)=true) (λk=>s.length-k) 0 ⟨Nat.zero_le _,rfl⟩ aSx (λw h=>h) (λk hkk=>?_)
 obtain⟨hk1,hk2⟩:=hkk
 refine aU5 ?_
 refine o_p (Qg rfl rfl Tryz.underlying9) rfl (aU2 ?_)
 refine sCd rfl (λh1=>?_) λh1=>?_
 ·have hk:k<s.length:=by omega
  have hst:=QrV hk
  refine aU7 ?_
  refine o_p (Xk rfl rfl rfl Tryz.underlying9 (k) om om) rfl ?_
  refine aU2 ?_
  refine sCd rfl (λh2=>?_) λh2=>?_
  ·have hz:¬s.getD k 0=0:=by have hq:=h2;intro h9;exact hq (Qj3.2 h9)
   have hf:=Qvx hk hz
   refine aU4 ?_
   exact rV (h:=by rw[hf];rfl)
  have hz:s.getD k 0=0:=Qj3.1 (by have hq:=h2;simpa using hq)
  refine aT5 ?_
  refine aU2 ?_
  exact QO (k+1) om ⟨om,by rw[hst,hk2,hz];rfl⟩ aSx (λw h=>h)
 obtain rfl:k=s.length:=om
 rw[List.take_length]at hk2
 refine Qh rfl ?_
 refine aU4 ?_
 exact rV (h:=by rw[hk2];rfl)
theorem c54(w:World)(l:List UInt8)(p:Nat)(d:List UInt8)(hp:p+d.length<=l.length)(hl:l.length<=1000000000):CR 54 #[.string (bs l),.int .i64 (p:Int),.string (bs d)] w (.string (bs (QN l p d))):=by
 refine eN3 Tryz.func54 Tryz.ntmps54 ?_
 refine aU5 ?_
 refine Qz [] QJ ?_
 refine dP 0 ?_
 refine dP 1 ?_
 refine dV 2 rfl (Zt p rfl rfl rfl Tryz.underlying9 rfl om) (dP 3 ?_)
 refine dV 4 rfl (QF rfl rfl rfl (by(try simp only[List.length_append,List.length_cons,List.length_nil,List.length_replicate,List.length_take,List.length_drop]);omega)) (dP 5 ?_)
 refine dP 6 ?_
 refine dP 7 ?_
 refine dV 8 rfl (Qg rfl rfl Tryz.underlying9) (dP 9 ?_)
 try refine dWr ?_
 refine dV 10 rfl (YM (p+d.length) rfl rfl rfl Tryz.underlying9 om om) (dV 11 rfl (QF rfl rfl rfl (by(try simp only[List.length_append,List.length_cons,List.length_nil,List.length_replicate,List.length_take,List.length_drop]);omega)) (dP 12 ?_))
 refine dNi ?_
 exact rV
theorem c178(w:World)(m:Int)(hm:0<=m/\m<=1000000000000):CR 178 #[.int .i64 (-m),.int .i64 8] w (.int .i64 (-((m+7)/8))):=by
 refine eN2 Tryz.func178 Tryz.ntmps178 ?_
 refine aU8 ?_
 refine o_p (QqM rfl rfl rfl (by decide)) rfl (Qm (Qpg hm) (aU7 ?_))
 refine o_p (QmN rfl rfl rfl (by decide)) rfl (Qm (show _=Value.int .i64 (-(m%8))from by rw[QpM hm.1]) (aU2 ?_))
 refine sCd rfl (λh1=>?_) λh1=>?_
 ·refine aT3 ?_
  refine aU7 ?_
  exact rV (h:=by simp only[QX];congr 2;omega)
 refine aU6 ?_
 exact rV (h:=by simp only[QX];congr 2;omega)
theorem c121(w:World)(m:Int)(hm:0<=m/\m<=1000000000000):CR 121 #[.int .i64 m,.int .i64 8] w (.int .i64 ((m+7)/8)):=by
 refine eN2 Tryz.func121 Tryz.ntmps121 ?_
 refine aT8 ?_
 refine Qm (show _=Value.int .i64 (-m)from by rw[Int.zero_sub]) (aU ?_)
 refine oCq rfl (λw1 h1=>c178 w1 m hm) (aT ?_)
 refine Qm (show _=Value.int .i64 ((m+7)/8)from by congr 1;omega) (aU2 ?_)
 exact rV
theorem c95(w:World)(m:Nat)(hm:m<=1000000000):CR 95 #[.int .i64 (m:Int)] w (.int .i64 ((QH m:Nat):Int)):=by
 refine eN1 Tryz.func95 Tryz.ntmps95 ?_
 refine aU7 ?_
 refine oCq rfl (λw1 h1=>c121 w1 (m:Int) om) (aT ?_)
 refine aU2 ?_
 exact rV (h:=by simp only[QX,QH];congr 2)
theorem c29(w:World)(x:TEnt)(c:Int)(hk:x.key.length<=1000000)(hv:x.val.length<=1000000):CR 29 #[.agg #[.string (bs x.key),.string (bs x.val)],.int .i64 c] w (.int .i64 (Qao x c)):=by
 refine eN2 Tryz.func29 Tryz.ntmps29 ?_
 refine aU2 ?_
 refine oBx λb1 _=>?_
 refine aU7 ?_
 refine o_p (Qg rfl rfl Tryz.underlying9) rfl (oCq rfl (λw1 h1=>c40 w1 _ _ _) (aU2 ?_))
 refine sCd rfl (λh2=>?_) λh2=>?_
 ·have hz:Qao x c=3:=by have hq:=h2;unfold Qao;rw[if_neg (by first|omega|(simp at hq;omega))]
  refine aU4 ?_
  exact rV (h:=by rw[hz];rfl)
 have hk1:1<=x.key.length/\x.key.length<=40:=by have hq:=h2;first|omega|(simp at hq;omega)
 refine aU6 ?_
 refine o_p (Qg rfl rfl Tryz.underlying9) rfl (aU2 ?_)
 refine o_p (Qg rfl rfl Tryz.underlying9) rfl (aT ?_)
 refine aU2 ?_
 refine sCd rfl (λh3=>?_) λh3=>?_
 ·have hz:Qao x c=8:=by have hq:=h3;unfold Qao;rw[if_pos hk1,if_neg om]
  refine aU4 ?_
  exact rV (h:=by rw[hz];rfl)
 have hk2:x.key.length+x.val.length<=88:=by have hq:=h3;omega
 refine aU5 ?_
 refine oCq rfl (λw1 h1=>c40 w1 _ _ _) (aU2 ?_)
 refine sCd rfl (λh4=>?_) λh4=>?_
 ·have hz:Qao x c=2:=by have hq:=h4;unfold Qao;rw[if_pos hk1,if_pos hk2,if_neg (by first|omega|(simp at hq;omega))]
  refine aU4 ?_
  exact rV (h:=by rw[hz];rfl)
 have hz:Qao x c=0:=by have hq:=h4;unfold Qao;rw[if_pos hk1,if_pos hk2,if_pos (by first|omega|(simp at hq;omega))]
 refine aU5 ?_
 exact rV (h:=by rw[hz];rfl)
theorem c30(w:World)(x:TEnt)(c:Int)(hk:x.key.length<=300)(hv:x.val.length<=300)(hc:0<=c/\c<4294967296):CR 30 #[.agg #[.string (bs x.key),.string (bs x.val)],.int .i64 c] w (.string (bs (Yd x c))):=by
 have hsz:x.sz=8+x.key.length+x.val.length:=rfl
 have hp8:=XT x.sz
 have l2:=YI 2 ((QH x.sz:Nat):Int)
 have lk:=YI 1 (x.key.length:Int)
 have lv:=YI 1 (x.val.length:Int)
 have lc:=YI 4 c
 refine eN2 Tryz.func30 Tryz.ntmps30 ?_
 refine aU2 ?_
 refine oBx λb1 _=>?_
 refine aU6 ?_
 refine o_p (Qg rfl rfl Tryz.underlying9) rfl (aT ?_)
 refine aU2 ?_
 refine o_p (Qg rfl rfl Tryz.underlying9) rfl (aT ?_)
 refine aU ?_
 refine Qm (show _=Value.int .i64 ((x.sz:Nat):Int)from by congr 1) (aU2 ?_)
 refine Qz [] QJ ?_
 refine dP 0 ?_
 refine dQ 1 [] rfl (Qr rfl Qnm rfl (λw1 h1=>c95 w1 x.sz om)) (dQ 2 [] rfl (Qr rfl Qb7 rfl (λw1 h1=>c94 w1 ((QH x.sz:Nat):Int) 2 om om)) (dFa 3 ?_))
 refine dLd 4 [] ?_
 refine dV 5 rfl (Qg rfl rfl Tryz.underlying9) (dQ 6 [] rfl (Qr rfl Qb7 rfl (λw1 h1=>c94 w1 (x.key.length:Int) 1 om om)) (dV 7 rfl (QF rfl rfl rfl (by(try simp only[List.length_append,List.length_cons,List.length_nil,List.length_replicate,List.length_take,List.length_drop]);omega)) (dFa 8 ?_)))
 refine dLd 9 [] ?_
 refine dV 10 rfl (Qg rfl rfl Tryz.underlying9) (dQ 11 [] rfl (Qr rfl Qb7 rfl (λw1 h1=>c94 w1 (x.val.length:Int) 1 om om)) (dV 12 rfl (QF rfl rfl rfl (by(try simp only[List.length_append,List.length_cons,List.length_nil,List.length_replicate,List.length_take,List.length_drop]);omega)) (dP 13 ?_)))
 refine dQ 14 [] rfl (Qr rfl Qb7 rfl (λw1 h1=>c94 w1 c 4 om om)) (dV 15 rfl (QF rfl rfl rfl (by(try simp only[List.length_append,List.length_cons,List.length_nil,List.length_replicate,List.length_take,List.length_drop]);omega)) (dFa 16 ?_))
 refine dLd 17 [] ?_
 refine dV 18 rfl (QF rfl rfl rfl (by(try simp only[List.length_append,List.length_cons,List.length_nil,List.length_replicate,List.length_take,List.length_drop]);omega)) (dFa 19 ?_)
 refine dLd 20 [] ?_
 refine dV 21 rfl (QF rfl rfl rfl (by(try simp only[List.length_append,List.length_cons,List.length_nil,List.length_replicate,List.length_take,List.length_drop]);omega)) (dP 22 ?_)
 refine dQ 23 [] rfl (Qr rfl Qnm rfl (λw1 h1=>c95 w1 x.sz om)) (dP 24 ?_)
 refine dP 25 ?_
 try refine dWr ?_
 refine QC (show _=Value.int .i64 ((QH x.sz-x.sz:Nat):Int)from by congr 1;omega) (dQ 26 [] rfl (Qr rfl Qmc rfl (λw1 h1=>c86 w1 (QH x.sz-x.sz) om)) (dV 27 rfl (QF rfl rfl rfl (by(try simp only[List.length_append,List.length_cons,List.length_nil,List.length_replicate,List.length_take,List.length_drop]);omega)) (dP 28 ?_)))
 refine dNi ?_
 exact rV (h:=by simp only[QX,Yd,Qf0,QlA,Qis,List.append_assoc,List.cons_append,List.nil_append])
theorem Qpu:QK Tryz.prog 154=true:=by kernel_rfl
instance:TFn Tryz.prog 88:=⟨by kernel_rfl⟩
theorem Qj9:QK Tryz.prog 59=true:=by kernel_rfl
instance:TFn Tryz.prog 59:=⟨Qj9⟩
theorem Qum:QK Tryz.prog 89=true:=by kernel_rfl
theorem c89(w:World)(a:Option Addr)(cap:Nat)(l:List UInt8)(x:TEnt)(c:Int)(hw:HS w (fps [.byz a cap (l)]) [.byz a cap (l)] w)(hl:l.length<=900000)(hl8:l.length%8=0)(hk:x.key.length<=300)(hv:x.val.length<=300)(hc:0<=c/\c<4294967296):CE 89 #[.slice a l.length cap,.agg #[.string (bs x.key),.string (bs x.val)],.int .i64 c] w (fps [.byz a cap (l)]) (λg:Option Addr×Nat=>.slice g.1 (l++Yd x c).length g.2) (λg=>Qck a cap g (l++Yd x c).length) λg=>[.byz g.1 g.2 (l++Yd x c)]:=by
 have hsz:x.sz=8+x.key.length+x.val.length:=rfl
 have hp8:=XT x.sz
 have l1:(l++le2 ((QH x.sz:Nat):Int)).length=l.length+2:=by rw[List.length_append];rfl
 have l2:((l++le2 ((QH x.sz:Nat):Int))++[by8 x.key.length,by8 x.val.length]).length=l.length+4:=by rw[List.length_append,l1];rfl
 have l3:(((l++le2 ((QH x.sz:Nat):Int))++[by8 x.key.length,by8 x.val.length])++le4 c).length=l.length+8:=by rw[List.length_append,l2];rfl
 have l4:((((l++le2 ((QH x.sz:Nat):Int))++[by8 x.key.length,by8 x.val.length])++le4 c)++x.key).length=l.length+8+x.key.length:=by rw[List.length_append,l3]
 have l5:(((((l++le2 ((QH x.sz:Nat):Int))++[by8 x.key.length,by8 x.val.length])++le4 c)++x.key)++x.val).length=l.length+x.sz:=by rw[List.length_append,l4];omega
 have hpd:QH (((((l++le2 ((QH x.sz:Nat):Int))++[by8 x.key.length,by8 x.val.length])++le4 c)++x.key)++x.val).length-(((((l++le2 ((QH x.sz:Nat):Int))++[by8 x.key.length,by8 x.val.length])++le4 c)++x.key)++x.val).length=QH x.sz-x.sz:=by rw[l5,QqH hl8];omega
 have he9:l++Yd x c=(((((l++le2 ((QH x.sz:Nat):Int))++[by8 x.key.length,by8 x.val.length])++le4 c)++x.key)++x.val)++List.replicate (QH (((((l++le2 ((QH x.sz:Nat):Int))++[by8 x.key.length,by8 x.val.length])++le4 c)++x.key)++x.val).length-(((((l++le2 ((QH x.sz:Nat):Int))++[by8 x.key.length,by8 x.val.length])++le4 c)++x.key)++x.val).length) 0:=by rw[hpd];simp only[Yd,List.append_assoc]
 refine eW3 Tryz.func89 Tryz.ntmps89 hw ?_
 refine aU2 ?_
 refine oBx λb1 _=>?_
 refine aU6 ?_
 refine o_p (Qg rfl rfl Tryz.underlying9) rfl (aT ?_)
 refine aU2 ?_
 refine o_p (Qg rfl rfl Tryz.underlying9) rfl (aT ?_)
 refine aT ?_
 refine aT ?_
 refine o_p (XC rfl rfl rfl om om om) rfl (aT ?_)
 refine Qm (show _=Value.int .i64 ((QH x.sz:Nat):Int)from by congr 1;unfold QH;omega) (aU6 ?_)
 refine o_p (Qp rfl rfl YP Ys) rfl (Qm (show _=Value.int .u16 ((QH x.sz:Nat):Int)from by first|rfl|(rw[QjC];congr 1;omega)) (o_h (Q1 (Cs:=[.byz a cap (l)]) rfl QlU rfl aPs (λw1 h1 hf=>QuK w1 a cap l ((QH x.sz:Nat):Int) hf om om)) rfl (λ⟨b2,c3⟩hz4=>aU7 ?_)))
 refine o_p (Qg rfl rfl Tryz.underlying9) rfl (o_p (Qp rfl rfl YP Zh) rfl (Qm (Ym _) (aU2 ?_)))
 refine o_p (Qg rfl rfl Tryz.underlying9) rfl (o_p (Qp rfl rfl YP Zh) rfl (Qm (Ym _) (o_h (Qk (cs:=[_,_]) rfl rfl QB Z5 rfl rfl rfl) rfl (λb5 _=>?_))))
 refine o_h (Qac (l:=(l++le2 ((QH x.sz:Nat):Int))) [by8 x.key.length,by8 x.val.length] rfl rfl rfl QB Tryz.underlying139 Z5 aPk (Xg aPk) (by simp only[List.length_append,List.length_cons,List.length_nil,le2,le4]<;>omega) (by simp only[maxLen,List.length_append,List.length_cons,List.length_nil,le2,le4]<;>omega)) rfl (λ⟨b6,c7⟩h8=>aU3 ?_)
 refine Qj (L':=[(0,_),(2,_),(4,_),(6,_)]) aSx (λ_ h=>h) ?_
 refine aU3 ?_
 refine o_p (Qp rfl rfl YP Y3) rfl (Qm (show _=Value.int .u32 c from by first|rfl|(rw[Qfo];congr 1;omega)) (o_h (Q1 (Cs:=[.byz b6 c7 (((l++le2 ((QH x.sz:Nat):Int))++[by8 x.key.length,by8 x.val.length]))]) rfl QrN rfl aPs (λw1 h1 hf=>c153 w1 b6 c7 ((l++le2 ((QH x.sz:Nat):Int))++[by8 x.key.length,by8 x.val.length]) c hf hc om)) rfl (λ⟨b9,c10⟩hz11=>aU3 ?_)))
 refine Qjl [.blk b1 27 2 [.string (bs x.key),.string (bs x.val)]] [] QJ ?_
 refine dP 0 ?_
 refine dFa 1 ?_
 refine dLd 2 [] ?_
 refine dFa 4 ?_
 refine dLd 5 [] ?_
 refine dH 3 rfl (Qa7 (l:=(((l++le2 ((QH x.sz:Nat):Int))++[by8 x.key.length,by8 x.val.length])++le4 c)) rfl rfl rfl QB Tryz.underlying9 Z5 aPk (by simp only[List.length_append,List.length_cons,List.length_nil,le2,le4]<;>omega) (by simp only[maxLen,List.length_append,List.length_cons,List.length_nil,le2,le4]<;>omega)) (λ⟨b12,c13⟩h14=>?_)
 refine dH 6 rfl (Qa7 (l:=((((l++le2 ((QH x.sz:Nat):Int))++[by8 x.key.length,by8 x.val.length])++le4 c)++x.key)) rfl rfl rfl QB Tryz.underlying9 Z5 aPk (by simp only[List.length_append,List.length_cons,List.length_nil,le2,le4]<;>omega) (by simp only[maxLen,List.length_append,List.length_cons,List.length_nil,le2,le4]<;>omega)) (λ⟨b15,c16⟩h17=>dH 7 rfl (Q1 (Cs:=[.byz b15 c16 ((((((l++le2 ((QH x.sz:Nat):Int))++[by8 x.key.length,by8 x.val.length])++le4 c)++x.key)++x.val))]) rfl Qpu rfl aPs (λw1 h1 hf=>c154 w1 b15 c16 (((((l++le2 ((QH x.sz:Nat):Int))++[by8 x.key.length,by8 x.val.length])++le4 c)++x.key)++x.val) hf om)) (λ⟨b18,c19⟩hz20=>dP 8 ?_))
 refine dNi ?_
 exact rT rfl rfl (λw' h'=>⟨(b18,c19),by rw[he9];rfl,by rw[he9];exact(((((hz4).trans h8 (by simp only[List.length_append];omega)).trans hz11 (by simp only[List.length_append];omega)).trans h14 (by simp only[List.length_append];omega)).trans h17 (by simp only[List.length_append];omega)).trans hz20 (by simp only[List.length_append];omega),by rw[he9];exact h'.ent aEt⟩)
theorem Qqq:QK Tryz.prog 202=true:=by kernel_rfl
theorem Qpk:QK Tryz.prog 156=true:=by kernel_rfl
instance:TFn Tryz.prog 30:=⟨by kernel_rfl⟩
theorem c202(w:World)(b:Nat)(n:LNd)(i:Nat)(hb:Rd w [] b 2 (.slice n.ca n.cs.length n.cc))(hcs:Rw inV 1 w [] n.ca n.cs)(hl:n.cs.length<=1000000)(hi:n.cs.length=0\/i<n.cs.length):CR 202 #[.int .i64 (i:Int),.pointer (some ⟨b,0,none⟩)] w (.int .i64 (Q7 n.cs i)):=by
 refine eN2 Tryz.func202 Tryz.ntmps202 ?_
 refine aU8 ?_
 refine o_q (Qb rfl rfl QcI (hb)) rfl (aU3 ?_)
 refine sCd rfl (λh1=>?_) λh1=>?_
 ·have hz:Q7 n.cs i=0:=if_pos (by have hq:=h1;omega)
  refine aU4 ?_
  exact rV (h:=by rw[hz];rfl)
 have hc0:¬n.cs.length=0:=by have hq:=h1;omega
 have hz:Q7 n.cs i=nth n.cs i:=if_neg hc0
 refine aU4 ?_
 refine o_q (Qb rfl rfl QcI (hb)) rfl (aU ?_)
 refine o_p (Qa rfl rfl rfl QW (i) om om (Rw.some hcs om)) rfl (o_q (Qb rfl rfl Zg ((hcs.rdj (i:=i) 0 om rfl))) rfl (aU2 ?_))
 exact rV (h:=by rw[hz];rfl)
theorem c148(w:World)(a:Option Addr)(cap:Nat)(l:List UInt8)(n:LNd)(hw:HS w (fps [.byz a cap (l)]) [.byz a cap (l)] w)(hl:l.length<=100000)(hl8:l.length%8=0)(hes:Rw TEnt.vals 2 w (fps [.byz a cap (l)]) n.ea n.es)(hcs:Rw inV 1 w (fps [.byz a cap (l)]) n.ca n.cs)(hp:NdP n.pl):CE 148 #[.slice a l.length cap,.agg #[.bool n.us,.slice n.ea n.es.length n.ec,.slice n.ca n.cs.length n.cc]] w (fps [.byz a cap (l)]) (λg:Option Addr×Nat=>.slice g.1 (l++Q9 n.pl).length g.2) (λg=>Qck a cap g (l++Q9 n.pl).length) λg=>[.byz g.1 g.2 (l++Q9 n.pl)]:=by
 have hcl:n.cs.length=0\/n.cs.length=n.es.length+1:=hp.cl
 have hel:n.es.length<=1000:=hp.el
 have he9:l++Q9 n.pl=(l++QQ n.pl n.es.length)++Qa0 (Q7 n.cs n.es.length):=by rw[List.append_assoc];rfl
 have hee:=hp.ents n.es.length (Nat.le_refl _)
 have hle:(l++QQ n.pl n.es.length).length=l.length+(QQ n.pl n.es.length).length:=List.length_append
 have hke:0<=Q7 n.cs n.es.length/\Q7 n.cs n.es.length<4294967296:=hp.kid (i:=n.es.length) (Nat.le_refl _)
 refine eW2 Tryz.func148 Tryz.ntmps148 hw ?_
 refine aU2 ?_
 refine oBx λb1 _=>?_
 refine aU16 ?_
 refine Qt (α:=Nat×Option Addr×Nat) [0,6,7,12,13,14,15,16,17,18,19,20,21,22,23] (λx=>[(12,.int .i64 (x.1:Int)),(0,.slice x.2.1 (l++QQ n.pl x.1).length x.2.2)]) (λx=>HS w (fps [.byz a cap (l)]) [.byz x.2.1 x.2.2 (l++QQ n.pl x.1),.blk b1 69 3 (LNd.vals n)]) (λx=>x.1<=n.es.length/\Qck a cap (x.2.1,x.2.2) (l++QQ n.pl x.1).length) (λx=>n.es.length-x.1) (0,a,cap) ⟨Nat.zero_le _,λ_=>⟨rfl,rfl⟩⟩ (by simp only[QQ,List.append_nil];exact aSx) (λw h=>(by simp only[QQ,List.append_nil];exact h.ent aEt)) (λ⟨k,a2,c2⟩hk1=>?_)
 dsimp only
 simp only[]at hk1
 obtain⟨hk2,hk3⟩:=hk1
 have hek:=hp.ents k hk2
 have hlk:(l++QQ n.pl k).length=l.length+(QQ n.pl k).length:=List.length_append
 refine aU5 ?_
 refine sCd rfl (λh2=>?_) λh2=>?_
 ·have hk:k<n.es.length:=by omega
  have hst:l++QQ n.pl (k+1)=(l++QQ n.pl k)++Yd (nth n.es k) (Q7 n.cs k):=by rw[List.append_assoc];rfl
  have hkk:0<=Q7 n.cs k/\Q7 n.cs k<4294967296:=hp.kid (i:=k) (Nat.le_of_lt hk)
  have hx9:(nth n.es k).key.length<=300/\(nth n.es k).val.length<=300:=hp.es _ (Qy hk)
  refine aU6 ?_
  refine o_p (Qa rfl rfl rfl Q3 (k) om om (Rw.some hes om)) rfl (o_q (Qs _ rfl rfl QaM rfl (Rw.rd hes om)) rfl (oAl (λb3 _=>?_) Z0))
  refine aU3 ?_
  refine Qz [5] QJ ?_
  refine dP 0 ?_
  refine dLn 1 [[]] ?_
  refine dP 2 ?_
  refine dP 3 ?_
  refine dQ 4 [[]] rfl (YS rfl rfl Qqq rfl (λw1 h1=>c202 w1 b1 n k (h1.rd_blk (Mc:=[]) aPk rfl (by simp)) (hcs.later h1) om om)) (dH 5 rfl (Q1 (Cs:=[.byz a2 c2 (l++QQ n.pl k)]) rfl Qum rfl aPs (λw1 h1 hf=>c89 w1 a2 c2 (l++QQ n.pl k) (nth n.es k) (Q7 n.cs k) hf om om hx9.1 hx9.2 hkk)) (λ⟨b4,c5⟩hz6=>dTu [] ?_))
  refine dP 6 ?_
  refine dNi ?_
  refine aT3 ?_
  refine aU2 ?_
  exact QO (k+1,b4,c5) (by(try simp only[]);omega) (by simp only[];rw[hst];exact⟨om,hk3.trans hz6 (by simp only[List.length_append];omega)⟩) (by dsimp only;rw[hst];exact aSx) (λw h=>by dsimp only;rw[hst];exact h.ent aEt)
 obtain rfl:k=n.es.length:=om
 refine Qh rfl ?_
 refine aU7 ?_
 refine o_q (YS rfl rfl Qqq rfl (λw1 h1=>c202 w1 b1 n n.es.length (h1.rd_blk (Mc:=[]) aPk rfl (by simp)) (hcs.later h1) om om)) rfl (o_h (Q1 (Cs:=[.byz a2 c2 (l++QQ n.pl n.es.length)]) rfl Qpk rfl aPs (λw1 h1 hf=>c156 w1 a2 c2 (l++QQ n.pl n.es.length) (Q7 n.cs n.es.length) hf hke om)) rfl (λ⟨b7,c8⟩hz9=>aU2 ?_))
 exact rT rfl rfl (λw' h'=>⟨(b7,c8),by rw[he9];rfl,by rw[he9];exact hk3.trans hz9 (by simp only[List.length_append];omega),by rw[he9];exact h'.ent aEt⟩)
theorem c99(w:World)(n:LNd)(hes:Rw TEnt.vals 2 w [] n.ea n.es)(hcs:Rw inV 1 w [] n.ca n.cs)(hp:NdP n.pl):CR 99 #[.agg #[.bool n.us,.slice n.ea n.es.length n.ec,.slice n.ca n.cs.length n.cc]] w (.string (bs (Q9 n.pl))):=by
 have hcl:n.cs.length=0\/n.cs.length=n.es.length+1:=hp.cl
 have hel:n.es.length<=1000:=hp.el
 have hee:=hp.ents n.es.length (Nat.le_refl _)
 have l82:=YI 2 8
 have hcb:(Q9 n.pl).length=(QQ n.pl n.es.length).length+8:=by unfold Q9;rw[List.length_append,Qbp];rfl
 refine eN1 Tryz.func99 Tryz.ntmps99 ?_
 refine aU2 ?_
 refine oBx λb1 _=>?_
 refine Qay ?_
 refine Qt (α:=Nat) [3,4,5,6,7,8,9,10,11,12,13,14,15,16,17,18,19,20,21,22,23,24,25,26,27,28,29,30,31,32,33,34,35,36,37,38,39,40,41,42,43] (λk=>[(4,.int .i64 (k:Int)),(3,.string (bs (Qiu n.pl k)))]) (λ_=>HS w [] [.blk b1 69 3 (LNd.vals n)]) (λk=>k<=n.es.length+1) (λk=>n.es.length+1-k) 0 (Nat.zero_le _) aSx (λw h=>h.ent aEt) (λk hk1=>?_)
 refine aU9 ?_
 refine sCd rfl (λh2=>?_) λh2=>?_
 ·have hk:k<=n.es.length:=by omega
  have hkk:0<=Q7 n.cs k/\Q7 n.cs k<4294967296:=hp.kid (i:=k) hk
  have hek:=hp.ents k hk
  have lc4:=YI 4 (Q7 n.cs k)
  have hpk:Qiu n.pl k=QQ n.pl k:=Qnc hk
  rw[hpk]
  refine Qv4 ?_
  refine Ye (α:=Unit) [5,17,18,19,20,21] (λ_=>[(5,.int .i64 (Q7 n.cs k))]) (λ_=>HS w [] [.blk b1 69 3 (LNd.vals n)]) (λ_=>True) ?_ ?_
  ·skip
   refine sCd rfl (λh3=>?_) λh3=>?_
   ·have hc0:¬n.cs.length=0:=by have hq:=h3;omega
    have hz:Q7 n.cs k=nth n.cs k:=if_neg hc0
    refine aU4 ?_
    refine o_p (Qa rfl rfl rfl QW (k) om om (Rw.some hcs om)) rfl (o_q (Qb rfl rfl Zg ((hcs.rdj (i:=k) 0 om rfl))) rfl (aU2 ?_))
    exact Qo () trivial (by rw[hz];exact aSx) (λw h=>h.ent aEt)
   have hz:Q7 n.cs k=0:=if_pos (by have hq:=h3;omega)
   refine aU ?_
   exact Qo () trivial (by rw[hz];exact aSx) (λw h=>h.ent aEt)
  intro _ _
  refine aU8 ?_
  refine sCd rfl (λh4=>?_) λh4=>?_
  ·have hkl:k<n.es.length:=by have hq:=h4;omega
   have hst:Qiu n.pl (k+1)=QQ n.pl k++Yd (nth n.es k) (Q7 n.cs k):=QoQ hkl
   have hx9:(nth n.es k).key.length<=300/\(nth n.es k).val.length<=300:=hp.es _ (Qy hkl)
   have hen9:=Qd9 (nth n.es k) (Q7 n.cs k)
   have hp89:=XT (nth n.es k).sz
   have hsz9:(nth n.es k).sz=8+(nth n.es k).key.length+(nth n.es k).val.length:=rfl
   refine aU5 ?_
   refine o_p (Qa rfl rfl rfl Q3 (k) om om (Rw.some hes om)) rfl (o_q (Qs _ rfl rfl QaM rfl (Rw.rd hes om)) rfl (aU ?_))
   refine oCq rfl (λw1 h1=>c30 w1 (nth n.es k) (Q7 n.cs k) hx9.1 hx9.2 hkk) (o_p (QF rfl rfl rfl (by(try simp only[List.length_append,List.length_cons,List.length_nil,List.length_replicate,List.length_take,List.length_drop]);omega)) rfl (aT6 ?_))
   refine aU2 ?_
   exact sBk (k+1) om om (by rw[hst];exact aSx)
  obtain rfl:k=n.es.length:=by have hq:=h4;omega
  have hst:Qiu n.pl (n.es.length+1)=((QQ n.pl n.es.length++Qci 2 8)++List.replicate 2 0)++Qci 4 (Q7 n.cs n.es.length):=by rw[show Qiu n.pl (n.es.length+1)=Q9 n.pl from QkT n.pl];simp only[Q9,Qa0,Qf0,Qis,List.append_assoc];rfl
  refine aU2 ?_
  refine oCq rfl (λw1 h1=>c94 w1 8 2 om om) (o_p (QF rfl rfl rfl (by(try simp only[List.length_append,List.length_cons,List.length_nil,List.length_replicate,List.length_take,List.length_drop]);omega)) rfl (oCq rfl (λw1 h1=>c86 w1 2 om) (o_p (QF rfl rfl rfl (by(try simp only[List.length_append,List.length_cons,List.length_nil,List.length_replicate,List.length_take,List.length_drop]);omega)) rfl (aU ?_))))
  refine oCq rfl (λw1 h1=>c94 w1 (Q7 n.cs n.es.length) 4 om om) (o_p (QF rfl rfl rfl (by(try simp only[List.length_append,List.length_cons,List.length_nil,List.length_replicate,List.length_take,List.length_drop]);omega)) rfl (aT6 ?_))
  refine aU2 ?_
  exact sBk (n.es.length+1) om om (by rw[hst];exact aSx)
 obtain rfl:k=n.es.length+1:=om
 rw[show Qiu n.pl (n.es.length+1)=Q9 n.pl from QkT n.pl]
 refine Qh rfl ?_
 refine aU5 ?_
 exact rV
end Go.Proofs
namespace Gx
open Go Go.RowKit
theorem Qpv{t:Tre}{i j:Nat}(hi:i<t.ns.length)(hj:j<(nth t.ns i).es.length)(h:Y4 (nth (nth t.ns i).es j)=false):t.ns.all ZT=false:=by grind[ZT,Qy,hi]
theorem QnU{n:Nd}(h:∀j,j<n.es.length->Y4 (nth n.es j)=true):ZT n=true:=by
 refine List.all_eq_true.2 λx hx=>?_;obtain⟨i,hi,e⟩:=List.getElem_of_mem hx;have:=h i hi
 simp_all[YW,hi]
theorem QnI{ns:List Nd}(h:∀i,i<ns.length->ZT (nth ns i)=true):ns.all ZT=true:=by
 refine List.all_eq_true.2 λx hx=>?_;obtain⟨i,hi,e⟩:=List.getElem_of_mem hx;have:=h i hi
 simp_all[YW,hi]
def Qh2(L:List LNd):List Bool:=L.map λn=>!ZT n.pl
def QhN(es:List TEnt):List Bool:=es.map λx=>!Y4 x
theorem Qof(es:List TEnt):(QhN es).any id= !(es.all Y4):=by
 unfold QhN;rw[List.any_map,List.all_eq_not_any_not,Bool.not_not];rfl
theorem QoN(L:List LNd):(Qh2 L).any id= !((pln L).all ZT):=by
 unfold Qh2;rw[List.any_map,List.all_map,List.all_eq_not_any_not,Bool.not_not];rfl
theorem Qn6{es:List TEnt}{k:Nat}(h:k<es.length):(QhN es).getD k false= !Y4 (nth es k):=by
 unfold QhN;rw[Qcz (d:=default) h];rfl
theorem Qn1{L:List LNd}{k:Nat}(h:k<L.length):(Qh2 L).getD k false= !ZT (nth L k).pl:=by
 unfold Qh2;rw[Qcz (d:=default) h];rfl
end Gx
namespace Go.Proofs
open Go Go.RowKit Gx
attribute [local irreducible] Go.Calls Gx.S Gx.O Gx.D Gx.OpP Gx.OpQ Gx.OpH
set_option maxRecDepth 20000
theorem QuF:QK Tryz.prog 144=true:=by kernel_rfl
theorem Qu6:QK Tryz.prog 142=true:=by kernel_rfl
instance:TFn Tryz.prog 176:=⟨by kernel_rfl⟩
instance:TFn Tryz.prog 201:=⟨by kernel_rfl⟩
instance:TFn Tryz.prog 143:=⟨by kernel_rfl⟩
instance:TFn Tryz.prog 140:=⟨by kernel_rfl⟩
instance:TFn Tryz.prog 141:=⟨by kernel_rfl⟩
theorem c144(w:World)(x:TEnt)(hk:x.key.length<=1000000)(hv:x.val.length<=1000000):CR 144 #[.agg #[.string (bs x.key),.string (bs x.val)]] w (.bool (!Y4 x)):=by
 refine eN1 Tryz.func144 Tryz.ntmps144 ?_
 refine aU2 ?_
 refine oBx λb1 _=>?_
 refine aU5 ?_
 refine oCq rfl (λw1 h1=>c88 w1 _ om om) (aU3 ?_)
 exact rV
theorem c176(w:World)(a:Option Addr)(cap:Nat)(l:List TEnt)(q:Nat)(cv:Array Value)(bt:List Bool)(hs:Rw TEnt.vals 2 w [] a l)(hm:l.length<=1000000)(hq:QK Tryz.prog q=true)(hb:bt.length=l.length)(hc:∀k w1,k<l.length->HS w [] [] w1->Calls Tryz.prog q (#[]++[.agg (TEnt.vals (nth l k)).toArray].toArray++cv) w1 λen w2=>en=.returned (.bool (bt.getD k false))/\Below w1.heap.size w1 w2):CR 176 #[.slice a l.length cap,.func (.func q) #[] cv] w (.int .i64 (ixI bt)):=by
 refine eN2 Tryz.func176 Tryz.ntmps176 ?_
 refine Qay ?_
 refine Qt (α:=Nat) [4,5,8,9,10,11,12,13,14,15,16,17,18] (λk=>[(8,.int .i64 (k:Int))]) (λ_=>_) (λk=>k<=l.length/\∀i,i<k->bt.getD i false=false) (λk=>l.length-k) 0 ⟨om,λi h=>absurd h (Nat.not_lt_zero i)⟩ aSx (λw h=>h) (λk hk=>?_)
 obtain⟨hk1,hk2⟩:=hk
 refine aU5 ?_
 refine sCd rfl (λh1=>?_) λh1=>?_
 ·refine QaU ?_
  refine o_p (Qa rfl rfl rfl Q3 (k) om om (Rw.some hs om)) rfl (o_q (Qs _ rfl rfl QaM rfl (Rw.rd hs om)) rfl (o_q (YS rfl rfl hq rfl (λw1 h1=>hc k w1 om (h1.ent aEt))) rfl (aU ?_)))
  refine sCd rfl (λh2=>?_) λh2=>?_
  ·refine aU5 ?_
   exact rV (h:=by have e:=QbY (l:=bt) (k:=k) om hk2 (λ_=>by assumption);simp only[QX,ixI,e];rw[if_pos om])
  refine aT4 ?_
  refine aU2 ?_
  exact QO (k+1) om ⟨om,λi hi=>(Nat.lt_or_ge i k).elim (hk2 i) (λh=>by obtain rfl:i=k:=om;assumption)⟩ aSx (λw h=>h)
 refine Qh rfl ?_
 refine aU4 ?_
 exact rV (h:=by have e:=QbY (l:=bt) (k:=k) om hk2 (λh=>om);simp only[QX,ixI,e];rw[if_neg om])
theorem c143(w:World)(a:Option Addr)(cap:Nat)(l:List TEnt)(q:Nat)(cv:Array Value)(bt:List Bool)(hs:Rw TEnt.vals 2 w [] a l)(hm:l.length<=1000000)(hq:QK Tryz.prog q=true)(hb:bt.length=l.length)(hc:∀k w1,k<l.length->HS w [] [] w1->Calls Tryz.prog q (#[]++[.agg (TEnt.vals (nth l k)).toArray].toArray++cv) w1 λen w2=>en=.returned (.bool (bt.getD k false))/\Below w1.heap.size w1 w2):CR 143 #[.slice a l.length cap,.func (.func q) #[] cv] w (.bool (bt.any id)):=by
 refine eN2 Tryz.func143 Tryz.ntmps143 ?_
 refine aU8 ?_
 refine oCq rfl (λw1 h1=>c176 w1 a cap l q cv bt (hs.later h1) hm hq hb (λk w2 hk h2=>hc k w2 hk (by simpa using h1.call h2))) (aU3 ?_)
 exact rV (h:=by simp only[QX];rw[<-QfC])
theorem c201(w:World)(a:Option Addr)(cap:Nat)(l:List LNd)(q:Nat)(cv:Array Value)(bt:List Bool)(hs:Rw LNd.vals 3 w [] a l)(hm:l.length<=1000000)(hq:QK Tryz.prog q=true)(hb:bt.length=l.length)(hc:∀k w1,k<l.length->HS w [] [] w1->Calls Tryz.prog q (#[]++[.agg (LNd.vals (nth l k)).toArray].toArray++cv) w1 λen w2=>en=.returned (.bool (bt.getD k false))/\Below w1.heap.size w1 w2):CR 201 #[.slice a l.length cap,.func (.func q) #[] cv] w (.int .i64 (ixI bt)):=by
 refine eN2 Tryz.func201 Tryz.ntmps201 ?_
 refine Qay ?_
 refine Qt (α:=Nat) [4,5,8,9,10,11,12,13,14,15,16,17,18] (λk=>[(8,.int .i64 (k:Int))]) (λ_=>_) (λk=>k<=l.length/\∀i,i<k->bt.getD i false=false) (λk=>l.length-k) 0 ⟨om,λi h=>absurd h (Nat.not_lt_zero i)⟩ aSx (λw h=>h) (λk hk=>?_)
 obtain⟨hk1,hk2⟩:=hk
 refine aU5 ?_
 refine sCd rfl (λh1=>?_) λh1=>?_
 ·refine QaU ?_
  refine o_p (Qa rfl rfl rfl QT (k) om om (Rw.some hs om)) rfl (o_q (Qs _ rfl rfl Xo rfl (Rw.rd hs om)) rfl (o_q (YS rfl rfl hq rfl (λw1 h1=>hc k w1 om (h1.ent aEt))) rfl (aU ?_)))
  refine sCd rfl (λh2=>?_) λh2=>?_
  ·refine aU5 ?_
   exact rV (h:=by have e:=QbY (l:=bt) (k:=k) om hk2 (λ_=>by assumption);simp only[QX,ixI,e];rw[if_pos om])
  refine aT4 ?_
  refine aU2 ?_
  exact QO (k+1) om ⟨om,λi hi=>(Nat.lt_or_ge i k).elim (hk2 i) (λh=>by obtain rfl:i=k:=om;assumption)⟩ aSx (λw h=>h)
 refine Qh rfl ?_
 refine aU4 ?_
 exact rV (h:=by have e:=QbY (l:=bt) (k:=k) om hk2 (λh=>om);simp only[QX,ixI,e];rw[if_neg om])
theorem c141(w:World)(a:Option Addr)(cap:Nat)(l:List LNd)(q:Nat)(cv:Array Value)(bt:List Bool)(hs:Rw LNd.vals 3 w [] a l)(hm:l.length<=1000000)(hq:QK Tryz.prog q=true)(hb:bt.length=l.length)(hc:∀k w1,k<l.length->HS w [] [] w1->Calls Tryz.prog q (#[]++[.agg (LNd.vals (nth l k)).toArray].toArray++cv) w1 λen w2=>en=.returned (.bool (bt.getD k false))/\Below w1.heap.size w1 w2):CR 141 #[.slice a l.length cap,.func (.func q) #[] cv] w (.bool (bt.any id)):=by
 refine eN2 Tryz.func141 Tryz.ntmps141 ?_
 refine aU8 ?_
 refine oCq rfl (λw1 h1=>c201 w1 a cap l q cv bt (hs.later h1) hm hq hb (λk w2 hk h2=>hc k w2 hk (by simpa using h1.call h2))) (aU3 ?_)
 exact rV (h:=by simp only[QX];rw[<-QfC])
theorem c142(w:World)(n:LNd)(hes:Rw TEnt.vals 2 w [] n.ea n.es)(hl:n.es.length<=1000000)(hkl:∀x∈n.es,x.key.length<=1000000/\x.val.length<=1000000):CR 142 #[.agg #[.bool n.us,.slice n.ea n.es.length n.ec,.slice n.ca n.cs.length n.cc]] w (.bool (!ZT n.pl)):=by
 refine eN1 Tryz.func142 Tryz.ntmps142 ?_
 refine aU2 ?_
 refine oBx λb1 _=>?_
 refine aU6 ?_
 refine oCq rfl (λw1 h1=>c143 w1 n.ea n.ec n.es 144 #[] (QhN n.es) (hes.later h1) hl QuF (by simp[QhN]) (λk w2 hk h2=>by rw[Qn6 hk];exact c144 w2 (nth n.es k) (hkl _ (Qy hk)).1 (hkl _ (Qy hk)).2)) (aU2 ?_)
 exact rV (h:=by simp only[QX];rw[Qof];rfl)
theorem c75(w:World)(co mo rm:Int)(a:Option Addr)(cap:Nat)(L:List LNd)(hs:Nt w [] a L)(hB:Bd (pln L))(hkl:∀i,i<L.length->∀x∈(nth L i).es,x.key.length<=1000000/\x.val.length<=1000000):CR 75 #[.agg #[.int .i64 co,.int .i64 mo,.int .i64 rm,.slice a L.length cap]] w (.int .i64 (Yy (⟨co,mo,rm,pln L⟩:Tre))):=by
 have hLl:L.length<=1000:=by have:=hB.len;rwa[Qe]at this
 refine eN1 Tryz.func75 Tryz.ntmps75 ?_
 refine aU2 ?_
 refine oBx λb1 _=>?_
 refine aU5 ?_
 refine oCq rfl (λw1 h1=>c140 w1 co mo rm a cap L (hs.later h1.nil) hB (λi hi x hx=>(hkl i hi x hx).1)) (Qay ?_)
 refine oOr 4 14 18 rfl
  (λhg2 _=>by
   refine aU5 ?_
   refine oCq rfl (λw1 h1=>c141 w1 a cap L 142 #[] (Qh2 L) (Rw.later hs.1 h1) om Qu6 (by simp[Qh2]) (λk w2 hk h2=>by rw[Qn1 hk];exact c142 w2 (nth L k) ((hs.es hk).later (by simpa using h1.call h2)) (by have:=hB.es k (by rwa[Qe]);rw[Qu]at this;have h8:(nth L k).es.length<=1000:=this;omega) (hkl k hk))) ?_
   exact oJf 4 18)
  (λhg4 _=>by
   refine aU3 ?_
   exact oJt 4 18) ?_
 refine aU7 ?_
 refine oCq rfl (λw1 h1=>c60 w1 _ _) (o_h (Qk (cs:=[_,_]) rfl rfl Yq ZY rfl rfl rfl) rfl (λb6 _=>oCq rfl (λw1 h1=>f59 h1 aPk (by rfl) (by rfl) (by decide)) (aU2 ?_)))
 exact rV (h:=by simp only[QX,Xp,Yy,QoN];first|grind|(simp_all;done))
theorem QrW:QK Tryz.prog 148=true:=by kernel_rfl
instance:TFn Tryz.prog 75:=⟨by kernel_rfl⟩
theorem Quf:QK Tryz.prog 90=true:=by kernel_rfl
instance:TFn Tryz.prog 90:=⟨Quf⟩
theorem Qt3:QK Tryz.prog 99=true:=by kernel_rfl
instance:TFn Tryz.prog 84:=⟨by kernel_rfl⟩
theorem c90(w:World)(co mo rm:Int)(a:Option Addr)(cap:Nat)(L:List LNd)(hs:Nt w [] a L)(h0:0<L.length)(hp:NdP (nth L 0).pl):CR 90 #[.agg #[.int .i64 co,.int .i64 mo,.int .i64 rm,.slice a L.length cap]] w (.string (bs (QaX (⟨co,mo,rm,pln L⟩:Tre)))):=by
 have hel:(nth L 0).es.length<=1000:=hp.el
 have hee:(QQ (nth L 0).pl (nth L 0).es.length).length<=608*(nth L 0).es.length/\(QQ (nth L 0).pl (nth L 0).es.length).length%8=0:=hp.ents _ (Nat.le_refl _)
 have hR:QaX (⟨co,mo,rm,pln L⟩:Tre)=(Zc++[by8 co,by8 mo,by8 rm,by8 ((nth L 0).es.length:Int)])++Q9 (nth L 0).pl:=by simp only[QaX,Qu];rfl
 have l8:(Zc++[by8 co,by8 mo,by8 rm,by8 ((nth L 0).es.length:Int)]).length=8:=rfl
 refine eN1 Tryz.func90 Tryz.ntmps90 ?_
 refine aU2 ?_
 refine oBx λb1 _=>?_
 refine aU6 ?_
 refine o_p (Qa rfl rfl rfl QT 0 rfl om (Rw.some hs.1 om)) rfl (o_q (Qs _ rfl rfl Xo rfl (Rw.rd hs.1 om)) rfl (oAl (λb2 _=>?_) Xr))
 refine aU4 ?_
 refine o_h (Qk (cs:=[_,_,_,_]) rfl rfl QB Z5 rfl rfl rfl) rfl (λb3 _=>o_h (Qg5 rfl rfl Tryz.underlying139 Tryz.underlying5 aPt) rfl (λ_ _=>XB (λw h=>h.byz_blk (l:=Zc) aPk (by decide) (by decide) rfl) (aU2 ?_)))
 refine o_p (Qp rfl rfl YP Zh) rfl (Qm (Ym _) (aU2 ?_))
 refine o_p (Qp rfl rfl YP Zh) rfl (Qm (Ym _) (aU2 ?_))
 refine o_p (Qp rfl rfl YP Zh) rfl (Qm (Ym _) (aU3 ?_))
 refine o_p (Qp rfl rfl YP Zh) rfl (Qm (Ym _) (o_h (Qk (cs:=[_,_,_,_]) rfl rfl QB Z5 rfl rfl rfl) rfl (λb4 _=>o_h (Qac (l:=Zc) [by8 co,by8 mo,by8 rm,by8 ((nth L 0).es.length:Int)] rfl rfl rfl QB Tryz.underlying139 Z5 aPk (Xg aPk) (by show(4+4)*_<=_;omega) (by show 4+4<=maxLen;simp only[maxLen];omega)) rfl (λ⟨b5,c6⟩h7=>aU6 ?_))))
 refine o_h (Q1 (Cs:=[.byz b5 c6 ((Zc++[by8 co,by8 mo,by8 rm,by8 ((nth L 0).es.length:Int)]))]) rfl QrW rfl aPs (λw1 h1 hf=>c148 w1 b5 c6 (Zc++[by8 co,by8 mo,by8 rm,by8 ((nth L 0).es.length:Int)]) (nth L 0) hf om (by rw[l8]) (((hs.es h0).keep h1).mono (Xb aPs)) (((hs.cs h0).keep h1).mono (Xb aPs)) hp)) rfl (λ⟨b8,c9⟩hz10=>XB (λw h=>h.byz_own .here) (o_q (Qaa rfl rfl Tryz.underlying139 Tryz.underlying9 Tryz.underlying5 aPk (Zp _)) rfl (aU2 ?_)))
 exact rV (h:=by rw[YG,hR];rfl)
theorem c27(w:World)(co mo rm:Int)(a:Option Addr)(cap:Nat)(L:List LNd)(hs:Nt w [] a L)(hB:Bd (pln L))(hkl:∀i,i<L.length->∀x∈(nth L i).es,x.key.length<=1000000/\x.val.length<=1000000):CR 27 #[.agg #[.int .i64 co,.int .i64 mo,.int .i64 rm,.slice a L.length cap]] w (.tuple #[.string (bs (if Yy (⟨co,mo,rm,pln L⟩:Tre)=0 then QaX (⟨co,mo,rm,pln L⟩:Tre)else[])),.int .i64 (Yy (⟨co,mo,rm,pln L⟩:Tre))]):=by
 refine eN1 Tryz.func27 Tryz.ntmps27 ?_
 refine aU2 ?_
 refine oBx λb1 _=>?_
 refine aU7 ?_
 refine oCq rfl (λw1 h1=>c75 w1 co mo rm a cap L (hs.later h1.nil) hB hkl) (aU7 ?_)
 refine sCd rfl (λh2=>?_) λh2=>?_
 ·have hE:¬Yy (⟨co,mo,rm,pln L⟩:Tre)=0:=h2
  refine aU6 ?_
  exact Ql (rs:=[.tmp 2,.tmp 3]) rfl (.tmp rfl (.tmp rfl (.nil))) (λw' h'=>⟨by rw[if_neg hE];rfl,h'.below⟩)
 have hE:Yy (⟨co,mo,rm,pln L⟩:Tre)=0:=h2
 have hr9:=ZM hE
 have h09:0<L.length:=by have:=hr9.1;rwa[show(⟨co,mo,rm,pln L⟩:Tre).ns=pln L from rfl,Qe]at this
 have hn9:=Qam hE hr9.1 hr9.2.1
 have hp9:NdP (nth L 0).pl:=by have hq:=hn9.1.ndp (by have:=hn9.2.1;omega);rwa[show(⟨co,mo,rm,pln L⟩:Tre).ns=pln L from rfl,Qu]at hq
 refine aU4 ?_
 refine oCq rfl (λw1 h1=>c90 w1 co mo rm a cap L (hs.later h1.nil) h09 hp9) (aU3 ?_)
 exact Ql (rs:=[.tmp 2,.tmp 3]) rfl (.tmp rfl (.tmp rfl (.nil))) (λw' h'=>⟨by rw[if_pos hE,hE];rfl,h'.below⟩)
theorem c32(w:World)(co mo rm:Int)(a:Option Addr)(cap:Nat)(L:List LNd)(hs:Nt w [] a L)(h0:0<L.length)(hp:NdP (nth L 0).pl)(hb:(0<=co/\co<256)/\(0<=mo/\mo<256)/\0<=rm/\rm<256):CR 32 #[.agg #[.int .i64 co,.int .i64 mo,.int .i64 rm,.slice a L.length cap]] w (.string (bs (QaX (⟨co,mo,rm,pln L⟩:Tre)))):=by
 have hel:(nth L 0).es.length<=1000:=hp.el
 have hee:(QQ (nth L 0).pl (nth L 0).es.length).length<=608*(nth L 0).es.length/\(QQ (nth L 0).pl (nth L 0).es.length).length%8=0:=hp.ents _ (Nat.le_refl _)
 have hR:QaX (⟨co,mo,rm,pln L⟩:Tre)=((((Zc++Qci 1 co)++Qci 1 mo)++Qci 1 rm)++Qci 1 ((nth L 0).es.length:Int))++Q9 (nth L 0).pl:=by simp only[QaX,Qu,QlA,List.append_assoc];rfl
 have lco:=YI 1 co
 have lmo:=YI 1 mo
 have lrm:=YI 1 rm
 have lel:=YI 1 ((nth L 0).es.length:Int)
 have lcb:(Q9 (nth L 0).pl).length=(QQ (nth L 0).pl (nth L 0).es.length).length+8:=by unfold Q9;rw[List.length_append,Qbp];rfl
 refine eN1 Tryz.func32 Tryz.ntmps32 ?_
 refine aU2 ?_
 refine oBx λb1 _=>?_
 refine aU3 ?_
 refine Qz [] QJ ?_
 refine dFa 0 ?_
 refine dLd 1 [] ?_
 refine dQ 2 [] rfl (Qr rfl Qb7 rfl (λw1 h1=>c94 w1 co 1 om om)) (dV 3 rfl (QF rfl rfl rfl (by(try simp only[List.length_append,List.length_cons,List.length_nil,List.length_replicate,List.length_take,List.length_drop]);omega)) (dFa 4 ?_))
 refine dLd 5 [] ?_
 refine dQ 6 [] rfl (Qr rfl Qb7 rfl (λw1 h1=>c94 w1 mo 1 om om)) (dV 7 rfl (QF rfl rfl rfl (by(try simp only[List.length_append,List.length_cons,List.length_nil,List.length_replicate,List.length_take,List.length_drop]);omega)) (dFa 8 ?_))
 refine dLd 9 [] ?_
 refine dQ 10 [] rfl (Qr rfl Qb7 rfl (λw1 h1=>c94 w1 rm 1 om om)) (dV 11 rfl (QF rfl rfl rfl (by(try simp only[List.length_append,List.length_cons,List.length_nil,List.length_replicate,List.length_take,List.length_drop]);omega)) (dFa 12 ?_))
 refine dLd 13 [] ?_
 refine dV 14 rfl (Qa rfl rfl rfl QT 0 rfl om (Rw.some hs.1 om)) (dFa 15 ?_)
 refine dQ 16 [] rfl (Qb rfl rfl Qds ((hs.1.rdj (i:=0) 1 h0 rfl))) (dV 17 rfl (QR rfl rfl Tryz.underlying67) (dQ 18 [] rfl (Qr rfl Qb7 rfl (λw1 h1=>c94 w1 ((nth L 0).es.length:Int) 1 om om)) (dV 19 rfl (QF rfl rfl rfl (by(try simp only[List.length_append,List.length_cons,List.length_nil,List.length_replicate,List.length_take,List.length_drop]);omega)) (dFa 20 ?_))))
 refine dLd 21 [] ?_
 refine dV 22 rfl (Qa rfl rfl rfl QT 0 rfl om (Rw.some hs.1 om)) (dQ 23 [] rfl (Qs _ rfl rfl Xo rfl (Rw.rd hs.1 om)) (dQ 24 [] rfl (Qr rfl Qt3 rfl (λw1 h1=>c99 w1 (nth L 0) ((hs.es h0).later h1) ((hs.cs h0).later h1) hp)) (dV 25 rfl (QF rfl rfl rfl (by(try simp only[List.length_append,List.length_cons,List.length_nil,List.length_replicate,List.length_take,List.length_drop]);omega)) (dP 26 ?_))))
 refine dNi ?_
 exact rV (h:=by rw[hR];rfl)
theorem c24(w:World)(co mo rm:Int)(a:Option Addr)(cap:Nat)(L:List LNd)(hs:Nt w [] a L)(hB:Bd (pln L))(hkl:∀i,i<L.length->∀x∈(nth L i).es,x.key.length<=1000000/\x.val.length<=1000000):CR 24 #[.agg #[.int .i64 co,.int .i64 mo,.int .i64 rm,.slice a L.length cap]] w (.int .i64 (Yy (⟨co,mo,rm,pln L⟩:Tre))):=by
 have hLl:L.length<=1000:=by have:=hB.len;rwa[Qe]at this
 refine eN1 Tryz.func24 Tryz.ntmps24 ?_
 refine aU2 ?_
 refine oBx λb1 _=>?_
 refine aU6 ?_
 refine oCq rfl (λw1 h1=>c84 w1 co mo rm a cap L (hs.later h1.nil) hB (λi hi x hx=>(hkl i hi x hx).1)) (aU7 ?_)
 refine sCd rfl (λh2=>?_) λh2=>?_
 ·have hE:¬(Yw (⟨co,mo,rm,pln L⟩:Tre)).2=0:=h2
  have hI:Yy (⟨co,mo,rm,pln L⟩:Tre)=(Yw (⟨co,mo,rm,pln L⟩:Tre)).2:=if_neg hE
  refine aU5 ?_
  exact rV (h:=by rw[hI];rfl)
 have hE:(Yw (⟨co,mo,rm,pln L⟩:Tre)).2=0:=h2
 refine aU8 ?_
 refine sCd rfl (λh3=>?_) λh3=>?_
 ·have hI:Yy (⟨co,mo,rm,pln L⟩:Tre)=8:=by unfold Yy;rw[if_pos hE,if_neg (λh=>by have hq:=h3;have hq2:mo<=4:=h.1;omega)]
  refine aU4 ?_
  exact rV (h:=by rw[hI];rfl)
 have hmo:mo<=4:=by have hq:=h3;omega
 refine aU7 ?_
 refine Qt (α:=Nat) [2,4,5,6,15,16,17,18,19,20,21,22,23,24,25,26,27,28,29,30,31,32,33,34,35,36,37,38,39,40,41,42,43,44,45,46,47,48,49] (λk=>[(4,.int .i64 (k:Int))]) (λ_=>HS w [] [.blk b1 37 4 [.int .i64 co,.int .i64 mo,.int .i64 rm,.slice a L.length cap]]) (λk=>k<=L.length/\∀i,i<k->ZT (nth (pln L) i)=true) (λk=>L.length-k) 0 ⟨Nat.zero_le _,λi h=>absurd h (Nat.not_lt_zero _)⟩ aSx (λw h=>h.ent aEt) (λk hkk=>?_)
 obtain⟨hk1,hk2⟩:=hkk
 refine aU9 ?_
 refine sCd rfl (λh4=>?_) λh4=>?_
 ·have hk:k<L.length:=by omega
  have hkp:k<(pln L).length:=by rwa[Qe]
  have hel:(nth L k).es.length<=1000:=by have:=hB.es k hkp;rwa[Qu]at this
  refine aU8 ?_
  refine Qt (α:=Nat) [2,5,6,22,23,24,25,26,27,28,29,30,31,32,33,34,35,36,37,38,39,40,41,42,43,44,45,46,47,48,49] (λj=>[(5,.int .i64 (j:Int))]) (λ_=>HS w [] [.blk b1 37 4 [.int .i64 co,.int .i64 mo,.int .i64 rm,.slice a L.length cap]]) (λj=>j<=(nth L k).es.length/\∀i,i<j->Y4 (nth (nth L k).es i)=true) (λj=>(nth L k).es.length-j) 0 ⟨Nat.zero_le _,λi h=>absurd h (Nat.not_lt_zero _)⟩ aSx (λw h=>h.ent aEt) (λj hjj=>?_)
  obtain⟨hj1,hj2⟩:=hjj
  refine aU7 ?_
  refine o_p (Qa rfl rfl rfl QT (k) om om (Rw.some hs.1 om)) rfl (aU ?_)
  refine o_q (Qb rfl rfl Qds ((hs.1.rdj (i:=k) 1 om rfl))) rfl (aU3 ?_)
  refine sCd rfl (λh5=>?_) λh5=>?_
  ·have hj:j<(nth L k).es.length:=by omega
   have hx9:=hkl k hk _ (Qy hj)
   refine aU8 ?_
   refine o_p (Qa rfl rfl rfl QT (k) om om (Rw.some hs.1 om)) rfl (aU ?_)
   refine o_q (Qb rfl rfl Qds ((hs.1.rdj (i:=k) 1 om rfl))) rfl (aU ?_)
   refine o_p (Qa rfl rfl rfl Q3 (j) om om (Rw.some (hs.es hk) om)) rfl (o_q (Qs _ rfl rfl QaM rfl (Rw.rd (hs.es hk) om)) rfl (oAl (λb6 _=>?_) Z0))
   refine aU3 ?_
   refine Qj (L':=[(0,_),(1,_),(3,_),(4,_),(5,_),(6,_),(7,_),(8,_),(9,_),(10,_),(12,_),(13,_),(14,_),(15,_),(16,_),(17,_),(18,_),(19,_)]) aSx (λ_ h=>h) ?_
   refine aU3 ?_
   refine o_p (Qg rfl rfl Tryz.underlying9) rfl (aU2 ?_)
   refine o_p (Qg rfl rfl Tryz.underlying9) rfl (aT ?_)
   refine aU2 ?_
   refine sCd rfl (λh7=>?_) λh7=>?_
   ·have hI:Yy (⟨co,mo,rm,pln L⟩:Tre)=8:=by unfold Yy;rw[if_pos hE,if_neg];intro h9;have hq9:=Qpv (t:=(⟨co,mo,rm,pln L⟩:Tre)) (i:=k) (j:=j) hkp (by rw[show(⟨co,mo,rm,pln L⟩:Tre).ns=pln L from rfl,Qu];exact hj) (by rw[show(⟨co,mo,rm,pln L⟩:Tre).ns=pln L from rfl,Qu];unfold Y4;exact decide_eq_false (by have hq:=h7;have hq2:(nth L k).pl.es=(nth L k).es:=rfl;rw[hq2];omega));rw[h9.2]at hq9;cases hq9
    refine aU4 ?_
    exact rV (h:=by rw[hI];rfl)
   have hsm:Y4 (nth (nth L k).es j)=true:=decide_eq_true (by have hq:=h7;omega)
   refine aT5 ?_
   refine aU2 ?_
   exact sBk (j+1) om ⟨om,λi hi=>(Nat.lt_or_ge i j).elim (hj2 i) (λh=>by obtain rfl:i=j:=om;exact hsm)⟩
  obtain rfl:j=(nth L k).es.length:=om
  have hS:ZT (nth (pln L) k)=true:=by rw[Qu];exact QnU hj2
  refine Qh rfl ?_
  refine aT4 ?_
  refine aU2 ?_
  exact sBk (k+1) om ⟨om,λi hi=>(Nat.lt_or_ge i k).elim (hk2 i) (λh=>by obtain rfl:i=k:=om;exact hS)⟩
 obtain rfl:k=L.length:=om
 have hI:Yy (⟨co,mo,rm,pln L⟩:Tre)=0:=by unfold Yy;rw[if_pos hE,if_pos ⟨hmo,QnI (λi hi=>hk2 i (by rwa[<-Qe]))⟩]
 refine Qh rfl ?_
 refine aU4 ?_
 exact rV (h:=by rw[hI];rfl)
end Go.Proofs
namespace Gx
open Go Go.RowKit
section
variable{w:World}{a:Option Addr}{vs:List Value}
theorem Vl.nilA:Vl w a []:=⟨λhn=>absurd hn (Nat.lt_irrefl 0)⟩
theorem Vl.dropA{cap k:Nat}(h:Vl w a vs)(hk:k<=vs.length)(hc:vs.length<=cap):Vl w (XU a cap k 1) (vs.drop k):=by
 rcases Nat.eq_or_lt_of_le hk with e|e
 ·grind[Vl.nilA]
 ·exact h.drop e om
theorem Vl.takeA{n:Nat}(h:Vl w a vs):Vl w a (vs.take n):=by
 refine⟨λhn=>?_⟩;rw[List.length_take]at hn;obtain⟨b,o,rfl,h2⟩:=h.at_ om
 grind
theorem Vl.sub{cap lo n:Nat}{x:List UInt8}(h:Vl w a (x.map bv))(hlo:lo+n<=x.length)(hc:x.length<=cap):Vl w (XU a cap lo 1) ((Qq x lo n).map bv):=by
 unfold Qq;rw[List.map_take,List.map_drop];exact(h.dropA (by rw[List.length_map];omega) (by rw[List.length_map];omega)).takeA
end
section
variable{P:Program}{o:Oper}{L:Qc}{w0:World}{As:List HA}
theorem ZJ{src dst e n cap:Nat}{x:Operand}{a:Option Addr}(l:List UInt8)(ho:o.op=.convert src dst x)(hx:ev L x=some (.slice a n cap))(hs:P.underlying src=some (.slice e))(hd:P.underlying dst=some .string)(he:P.underlying e=some (.int .u8))(hl:l.length=n)(hv:Vl w0 a (l.map bv)):OpQ P o L (HS w0 [] As) (.string (bs l)):=by
 refine Qgx l ho hx hs hd he hl λw hw hn=>?_;have h1:=hv.later hw;have h2:=h1.some (by rw[List.length_map];omega);refine⟨ab a,ao a,h2,λj hj=>?_⟩;have h3:=h1.rd (i:=j) (v:=.int .u8 (l[j].toNat:Int)) (by rw[List.getElem?_map,List.getElem?_eq_getElem hj];rfl);have h4:=h3.2.2
 rwa[Nat.mul_one]at h4
end
theorem QfQ{s:List UInt8}{p0 k count:Nat}{r:RdS}(h:rdE s p0 k=some r)(hk:k<count)(hs:Zq s r.p=false):rdN s p0 count=none:=by
 unfold rdN;rw[Qvn h hs hk]
theorem QmQ{s:List UInt8}{p0 count:Nat}{r:RdS}(h:rdE s p0 count=some r)(hs:Y8 s r.p=false):rdN s p0 count=none:=by grind[rdN]
theorem QmF{s:List UInt8}{p0 count:Nat}{r:RdS}(h:rdE s p0 count=some r)(hs:Y8 s r.p=true):rdN s p0 count=if noz (r.cs++[(ub4 s (r.p+4):Int)])then some (⟨true,r.es,r.cs++[(ub4 s (r.p+4):Int)]⟩,r.p+8)else if QdF (r.cs++[(ub4 s (r.p+4):Int)])then some (⟨true,r.es,[]⟩,r.p+8)else none:=by grind[rdN]
def stR(s:List UInt8)(p0 count k:Nat):Option RdS:=if k<=count then rdE s p0 k else match rdE s p0 count with
 | none=>none
 | some r=>if Y8 s r.p then some ⟨r.es,r.cs++[(ub4 s (r.p+4):Int)],r.p+8⟩else none
theorem QeT{s:List UInt8}{p0 count k:Nat}(h:k<=count):stR s p0 count k=rdE s p0 k:=if_pos h
theorem QpX{s:List UInt8}{p0 count k:Nat}{r:RdS}(h:stR s p0 count k=some r)(hk:k<count)(hs:Zq s r.p=true):stR s p0 count (k+1)=some ⟨r.es++[Xd s r.p],r.cs++[(ub4 s (r.p+4):Int)],r.p+ub2 s r.p⟩:=by grind[QeT,Qcn]
theorem QpA{s:List UInt8}{p0 count:Nat}{r:RdS}(h:stR s p0 count count=some r)(hs:Y8 s r.p=true):stR s p0 count (count+1)=some ⟨r.es,r.cs++[(ub4 s (r.p+4):Int)],r.p+8⟩:=by grind[QeT,stR]
theorem QiQ{s:List UInt8}{p0 count k:Nat}{r:RdS}(h:stR s p0 count k=some r)(hk:k<count)(hs:Zq s r.p=false):rdN s p0 count=none:=by grind[QeT,QfQ]
theorem Ql9{s:List UInt8}{p0 count:Nat}{r:RdS}(h:stR s p0 count count=some r)(hs:Y8 s r.p=false):rdN s p0 count=none:=by grind[QeT,QmQ]
theorem QsO{s:List UInt8}{p0 count:Nat}{r:RdS}(h:stR s p0 count (count+1)=some r):rdN s p0 count=if noz r.cs then some (⟨true,r.es,r.cs⟩,r.p)else if QdF r.cs then some (⟨true,r.es,[]⟩,r.p)else none:=by grind[stR,rdE,QmF]
theorem QuJ{s:List UInt8}{p0 count k:Nat}(h0:p0<=s.length){r:RdS}(h:stR s p0 count k=some r)(hk:k<=count+1):p0<=r.p/\r.p<=s.length/\r.es.length<=k/\r.cs.length<=k:=by
 unfold stR at h;split at h
 ·obtain⟨h1,h2,h3,h4,_⟩:=Qbz h0 h;omega
 ·cases hq:rdE s p0 count with
  | none=>rw[hq]at h;cases h
  | some q=>
   rw[hq]at h;simp only[]at h;obtain⟨h1,h2,h3,h4,_⟩:=Qbz h0 hq
   grind[Y8]
theorem Qlf{s:List UInt8}{p:Nat}(h:¬(p+8<=s.length/\ub4 s (p+4)<=120/\p+ub2 s p<=s.length/\Xq s p<=ub2 s p)):Zq s p=false/\Y8 s p=false:=by
 have hp:=XT (Xq s p);have hb:ub2 s (p+2)=ub1 s (p+2)+ub1 s (p+3)*256:=rfl
 grind[Xq,ub1,Zq,Zf,X8,Y8]
theorem QmV{s:List UInt8}{p:Nat}(h:X8 (Xd s p) (ub4 s (p+4))=false):Zq s p=false:=by grind[Zq,Zf]
theorem Qnu{s:List UInt8}{p:Nat}(h:p+8<=s.length/\ub4 s (p+4)<=120/\p+ub2 s p<=s.length/\Xq s p<=ub2 s p)(hK:X8 (Xd s p) (ub4 s (p+4))=true):decide (Yd (Xd s p) (ub4 s (p+4):Int)=Qq s p (ub2 s p))=Zq s p:=by grind[Qmg,Zf]
theorem QkR{s:List UInt8}{p:Nat}(h:p+8<=s.length/\ub4 s (p+4)<=120/\p+ub2 s p<=s.length/\Xq s p<=ub2 s p):decide (Qa0 (ub4 s (p+4):Int)=Qq s p (ub2 s p))=Y8 s p:=by grind[Qmz,Y8]
def nzB(l:List Int):List Bool:=l.map λc=>decide (c≠0)
theorem QtJ{l:List Int}{k:Nat}(h:k<l.length):(nzB l).getD k false=decide (nth l k≠0):=by
 unfold nzB;rw[Qcz (d:=default) h];rfl
theorem QmO(l:List Int):(nzB l).any id= !(QdF l):=by simp[List.any_map,List.all_eq_not_any_not,Bool.not_not,nzB,QdF]
theorem QnE(l:List Int):noz l= !(decide ((0:Int)∈l)):=by grind[noz]
def Qs8(s:List UInt8)(p:Nat):Prop:=p+8<=s.length/\ub4 s (p+4)<=120/\p+ub2 s p<=s.length/\Xq s p<=ub2 s p
theorem QmC{s:List UInt8}{p0 count k:Nat}{r:RdS}(h:stR s p0 count k=some r)(hk:k<count+1)(hs:¬Qs8 s r.p):rdN s p0 count=none:=by
 rcases Nat.lt_or_ge k count with h9|h9
 ·exact QiQ h h9 (Qlf hs).1
 ·obtain rfl:k=count:=by omega
  exact Ql9 h (Qlf hs).2
def Qk1(s:List UInt8)(p k count:Nat):List UInt8:=if k<count then Yd (Xd s p) (ub4 s (p+4):Int)else Qa0 (ub4 s (p+4):Int)
def esR(s:List UInt8)(r:RdS)(k count:Nat):List TEnt:=if k<count then r.es++[Xd s r.p]else r.es
theorem QiX{s:List UInt8}{p k count:Nat}(h:k<count):Qk1 s p k count=Yd (Xd s p) (ub4 s (p+4):Int):=if_pos h
theorem Qjh{s:List UInt8}{p k count:Nat}(h:¬k<count):Qk1 s p k count=Qa0 (ub4 s (p+4):Int):=if_neg h
theorem QpP{s:List UInt8}{r:RdS}{k count:Nat}(h:k<count):esR s r k count=r.es++[Xd s r.p]:=if_pos h
theorem QpH{s:List UInt8}{r:RdS}{k count:Nat}(h:¬k<count):esR s r k count=r.es:=if_neg h
theorem Quy{s:List UInt8}{p0 count k:Nat}{r:RdS}(hst:stR s p0 count k=some r)(hk:k<count+1)(h4:Qs8 s r.p)(hK:k<count->X8 (Xd s r.p) (ub4 s (r.p+4))=true)(h:¬Qk1 s r.p k count=Qq s r.p (ub2 s r.p)):rdN s p0 count=none:=by
 rcases Nat.lt_or_ge k count with h9|h9
 ·rw[QiX h9]at h;refine QiQ hst h9 ?_;rw[<-Qnu h4 (hK h9)]
  grind
 ·obtain rfl:k=count:=by omega
  rw[Qjh (Nat.lt_irrefl _)]at h;refine Ql9 hst ?_;rw[<-QkR h4]
  grind
theorem QuZ{s:List UInt8}{p0 count k:Nat}{r:RdS}(hst:stR s p0 count k=some r)(hk:k<count+1)(h4:Qs8 s r.p)(hK:k<count->X8 (Xd s r.p) (ub4 s (r.p+4))=true)(h:Qk1 s r.p k count=Qq s r.p (ub2 s r.p)):stR s p0 count (k+1)=some ⟨esR s r k count,r.cs++[(ub4 s (r.p+4):Int)],r.p+ub2 s r.p⟩:=by
 rcases Nat.lt_or_ge k count with h9|h9
 ·rw[QiX h9]at h;rw[QpP h9];refine QpX hst h9 ?_;rw[<-Qnu h4 (hK h9)]
  grind
 ·obtain rfl:k=count:=by omega
  rw[Qjh (Nat.lt_irrefl _)]at h;rw[QpH (Nat.lt_irrefl _)];have he:Y8 s r.p=true:=by rw[<-QkR h4];exact decide_eq_true h
  grind[ub2,Y8,QpA]
theorem QdE{α β:Type}{f:α->List β}(l:List α)(x:α):(l++[x]).flatMap f=l.flatMap f++f x:=by simp
theorem Qf3{x:TEnt}{c:Nat}(hc:c<=120):X8 x c=((decide (1<=(x.key.length:Int))&&decide ((x.key.length:Int)<=40))&&(decide ((x.val.length:Int)<=64)&&Y4 x)):=by grind[X8,Y4]
end Gx
namespace Go.Proofs
open Go Go.RowKit Gx
attribute [local irreducible] Go.Calls Gx.S Gx.O Gx.D Gx.OpP Gx.OpQ Gx.OpH
set_option maxRecDepth 20000
instance:TFn Tryz.prog 207:=⟨by kernel_rfl⟩
theorem c157(w:World)(a b:Option Addr)(c d:Nat)(x y:List UInt8)(hx:Vl w a (x.map bv))(hy:Vl w b (y.map bv)):CR 157 #[.slice a x.length c,.slice b y.length d] w (.bool (decide (x=y))):=by
 refine eN2 Tryz.func157 Tryz.ntmps157 ?_
 refine aU7 ?_
 refine o_q (ZJ x rfl rfl Tryz.underlying139 Tryz.underlying9 Tryz.underlying5 rfl hx) rfl (aU ?_)
 refine o_q (ZJ y rfl rfl Tryz.underlying139 Tryz.underlying9 Tryz.underlying5 rfl hy) rfl (aU3 ?_)
 exact rV
theorem c159(w:World)(c:Int):CR 159 #[.int .i64 c] w (.bool (decide (c≠0))):=by
 refine eN1 Tryz.func159 Tryz.ntmps159 ?_
 refine YR ?_
 exact rV (h:=by simp only[QX];congr 2;simp)
theorem c207(w:World)(a:Option Addr)(cap:Nat)(l:List Int)(q:Nat)(cv:Array Value)(bt:List Bool)(hs:Rw inV 1 w [] a l)(hm:l.length<=1000000)(hq:QK Tryz.prog q=true)(hb:bt.length=l.length)(hc:∀k w1,k<l.length->HS w [] [] w1->Calls Tryz.prog q (#[]++[.int .i64 (nth l k)].toArray++cv) w1 λen w2=>en=.returned (.bool (bt.getD k false))/\Below w1.heap.size w1 w2):CR 207 #[.slice a l.length cap,.func (.func q) #[] cv] w (.int .i64 (ixI bt)):=by
 refine eN2 Tryz.func207 Tryz.ntmps207 ?_
 refine Qay ?_
 refine Qt (α:=Nat) [4,5,8,9,10,11,12,13,14,15,16,17,18] (λk=>[(8,.int .i64 (k:Int))]) (λ_=>_) (λk=>k<=l.length/\∀i,i<k->bt.getD i false=false) (λk=>l.length-k) 0 ⟨om,λi h=>absurd h (Nat.not_lt_zero i)⟩ aSx (λw h=>h) (λk hk=>?_)
 obtain⟨hk1,hk2⟩:=hk
 refine aU5 ?_
 refine sCd rfl (λh1=>?_) λh1=>?_
 ·refine QaU ?_
  refine o_p (Qa rfl rfl rfl QW (k) om om (Rw.some hs om)) rfl (o_q (Qb rfl rfl Zg ((hs.rdj (i:=k) 0 om rfl))) rfl (o_q (YS rfl rfl hq rfl (λw1 h1=>hc k w1 om (h1.ent aEt))) rfl (aU ?_)))
  refine sCd rfl (λh2=>?_) λh2=>?_
  ·refine aU5 ?_
   exact rV (h:=by have e:=QbY (l:=bt) (k:=k) om hk2 (λ_=>by assumption);simp only[QX,ixI,e];rw[if_pos om])
  refine aT4 ?_
  refine aU2 ?_
  exact QO (k+1) om ⟨om,λi hi=>(Nat.lt_or_ge i k).elim (hk2 i) (λh=>by obtain rfl:i=k:=om;assumption)⟩ aSx (λw h=>h)
 refine Qh rfl ?_
 refine aU4 ?_
 exact rV (h:=by have e:=QbY (l:=bt) (k:=k) om hk2 (λh=>om);simp only[QX,ixI,e];rw[if_neg om])
theorem c158(w:World)(a:Option Addr)(cap:Nat)(l:List Int)(q:Nat)(cv:Array Value)(bt:List Bool)(hs:Rw inV 1 w [] a l)(hm:l.length<=1000000)(hq:QK Tryz.prog q=true)(hb:bt.length=l.length)(hc:∀k w1,k<l.length->HS w [] [] w1->Calls Tryz.prog q (#[]++[.int .i64 (nth l k)].toArray++cv) w1 λen w2=>en=.returned (.bool (bt.getD k false))/\Below w1.heap.size w1 w2):CR 158 #[.slice a l.length cap,.func (.func q) #[] cv] w (.bool (bt.any id)):=by
 refine eN2 Tryz.func158 Tryz.ntmps158 ?_
 refine aU8 ?_
 refine oCq rfl (λw1 h1=>c207 w1 a cap l q cv bt (hs.later h1) hm hq hb (λk w2 hk h2=>hc k w2 hk (by simpa using h1.call h2))) (aU3 ?_)
 exact rV (h:=by simp only[QX];rw[<-QfC])
end Go.Proofs
namespace Gx
open Go Go.RowKit
def czI(l:List Int):Nat:=(l.filter λc=>decide (c=0)).length
theorem Qqc(l:List Int):czI l<=l.length:=List.length_filter_le _ _
theorem QqL{l:List Int}{k:Nat}(h:k<l.length):czI (l.take (k+1))=czI (l.take k)+(if nth l k=0 then 1 else 0):=by
 unfold czI;rw[List.take_add_one,List.getElem?_eq_getElem h,List.filter_append,List.length_append]
 grind[nth,YW]
theorem Quo{l:List Int}:czI l=0 ↔ noz l=true:=by simp_all[czI,noz]
theorem QmM{l:List Int}:czI l=l.length ↔ QdF l=true:=by simp_all[czI,QdF]
theorem Qa5(s:List UInt8)(a b:Nat):(s.take b).drop a=Qq s a (b-a):=by
 unfold Qq;rw[List.drop_take]
theorem QjD{x:TEnt}{c:Nat}:X8 x c=(decide (Qao x c=0)&&decide ((x.val.length:Int)<=64)):=by grind[X8,Qao]
theorem Qsm{s:List UInt8}{p:Nat}(h:¬(ub2 s p=QH (Xq s p)/\p+ub2 s p<=s.length/\zer (Qq s (p+Xq s p) (ub2 s p-Xq s p))=true)):Zq s p=false:=by grind[Zq,Zf]
theorem QsY{s:List UInt8}{p:Nat}(h8:p+8<=s.length)(h:ub2 s p=QH (Xq s p)/\p+ub2 s p<=s.length/\zer (Qq s (p+Xq s p) (ub2 s p-Xq s p))=true)(hK:X8 (Xd s p) (ub4 s (p+4))=true):Zq s p=true:=
 Zf.2 ⟨⟨h8,h.1,h.2.1⟩,h.2.2,hK⟩
section
variable{w0 w:World}{M:List Nat}{As As':List HA}{a:Option Addr}{cap et nt':Nat}{L:List LNd}
theorem HS.nodes_of1{n:LNd}(h:HS w0 M (.own (.slice a 1 cap) nt' 3 1 (LNd.vals n)::.ents et n.ea n.ec n.es::.kids n.ca n.cc n.cs::As) w):HS w0 M (.nodes et nt' a cap [n]::As) w:=by
 have h1:HS w0 M ([.ents et n.ea n.ec n.es,.kids n.ca n.cc n.cs]++(.own (.slice a 1 cap) nt' 3 1 (LNd.vals n)::As)) w:=h.perm ((List.Perm.swap ..).trans (List.Perm.cons _ (List.Perm.swap ..)));have h2:HS w0 M ([QaA et n]++(.own (.slice a 1 cap) nt' 3 1 (LNd.vals n)::As)) w:=HS.star_close h1;have h3:HS w0 M (.star ([n].map (QaA et))::.own (.slice a 1 cap) nt' 3 1 (LNd.vals n)::As) w:=HS.star_close h2;exact HS.row_shut (l:=[n]) (h3.perm (List.Perm.swap ..)) rfl (by simp)
theorem HS.nodes_own(h:HS w0 M As w)(hp:QP As (.nodes et nt' a cap L) As'):HS w0 M (.own (.slice a L.length cap) nt' 3 L.length (L.flatMap LNd.vals)::As') w:=by
 have h1:=HS.row_open (h.pick hp);exact(h1.perm ((List.Perm.swap ..))).tail
theorem HS.nodes_some(hn:0<L.length)(h:HS w0 M As w)(hp:QP As (.nodes et nt' a cap L) As'):∃g,a=some ⟨g,0,none⟩/\L.length<=cap/\cap<=maxLen:=by
 obtain⟨_,⟨_,h0⟩|⟨g,cap',e,h1,h2,_⟩⟩:=(h.nodes_own hp).head
 ·omega
 grind
theorem HS.nodes_blk{g:Nat}{x:LNd}(h:HS w0 M As w)(hp:QP As (.nodes et nt' (some ⟨g,0,none⟩) cap [x]) As'):HS w0 M (.blk g nt' (cap*3) (LNd.vals x)::As') w:=by
 have h1:=h.nodes_own hp;have h2:=HS.own_at h1 .here
 simpa using h2
end
theorem HS.ents_some{w0 w:World}{M:List Nat}{As As':List HA}{et cap:Nat}{a:Option Addr}{l:List TEnt}(hn:0<l.length)(h:HS w0 M As w)(hp:QP As (.ents et a cap l) As'):∃g,a=some ⟨g,0,none⟩:=by
 obtain⟨g,e,_⟩:=HS.own_blk hn hp h;exact⟨g,e⟩
theorem QuC{L:List LNd}{x:Nd}(h:pln L=[x]):∃y,L=[y]/\y.pl=x:=by simp_all
def Qdw(co:Int)(es:List TEnt):Bool:=es.all λx=>QZ co x.key
theorem Qpp{co:Int}{es:List TEnt}{k:Nat}(h:k<es.length)(h2:QZ co (nth es k).key=false):Qdw co es=false:=by
 cases hb:Qdw co es with
 | false=>rfl
 | true=>
  have:=List.all_eq_true.1 hb _ (Qy h)
  grind
theorem QhB{co:Int}{es:List TEnt}(h:∀i,i<es.length->QZ co (nth es i).key=true):Qdw co es=true:=by
 refine List.all_eq_true.2 λx hx=>?_;obtain⟨i,hi,e⟩:=List.getElem_of_mem hx;have:=h i hi
 simp_all[YW,hi]
theorem Qgr{co:Int}{es:List TEnt}(h:Qdw co es=true){k:Nat}(hk:k<es.length):QZ co (nth es k).key=true:=List.all_eq_true.1 h _ (Qy hk)
theorem Qvk{co:Int}{k:List UInt8}:Yh co k=0 ↔ QZ co k=true:=by grind[Yh]
theorem Qjw{s:List UInt8}(h:s.length<16):Qd s=(noT,10):=if_pos h
section
variable{s:List UInt8}(h1:¬s.length<16)
include h1
theorem Qmn(h2:¬s.take 4=Zc):Qd s=(noT,3):=by unfold Qd;rw[if_neg h1,if_neg h2]
variable(h2:s.take 4=Zc)
include h2
theorem Qpi(h3:¬Qv (at1 s 4)=0):Qd s=(noT,Qv (at1 s 4)):=by unfold Qd;rw[if_neg h1,if_pos h2,if_neg h3]
variable(h3:Qv (at1 s 4)=0)
include h3
theorem QqS(h4:¬XF (at1 s 5) (at1 s 6)=0):Qd s=(noT,XF (at1 s 5) (at1 s 6)):=by unfold Qd;rw[if_neg h1,if_pos h2,if_pos h3,if_neg h4]
variable(h4:XF (at1 s 5) (at1 s 6)=0)
include h4
theorem Qmi(h5:¬at1 s 5<=4):Qd s=(noT,8):=by unfold Qd;rw[if_neg h1,if_pos h2,if_pos h3,if_pos h4,if_neg h5]
variable(h5:at1 s 5<=4)
include h5
theorem QmG(h6:¬at1 s 7<=at1 s 6):Qd s=(noT,16):=by unfold Qd;rw[if_neg h1,if_pos h2,if_pos h3,if_pos h4,if_pos h5,if_neg h6]
variable(h6:at1 s 7<=at1 s 6)
include h6
theorem QlI(h7:∀n,rdN s 8 (ub1 s 7)=some (n,s.length)->Qd5 (at1 s 4) n.es=false):Qd s=(noT,3):=by grind[Qd,rdN,ub1]
theorem Qub{n:Nd}(h7:rdN s 8 (ub1 s 7)=some (n,s.length))(h8:Qd5 (at1 s 4) n.es=true):Qd s=(⟨at1 s 4,at1 s 5,at1 s 6,[n]⟩,0):=by grind[Qd]
end
def rtE(s:List UInt8):Int:=if Qv (at1 s 4)=0 then if XF (at1 s 5) (at1 s 6)=0 then if at1 s 5<=4 then if at1 s 7<=at1 s 6 then 0 else 16 else 8 else XF (at1 s 5) (at1 s 6)else Qv (at1 s 4)
theorem QwM{s:List UInt8}(h:rtE s=0):Qv (at1 s 4)=0/\XF (at1 s 5) (at1 s 6)=0/\at1 s 5<=4/\at1 s 7<=at1 s 6:=by grind[rtE]
theorem Qux{s:List UInt8}(h1:¬s.length<16)(h2:s.take 4=Zc)(h:¬rtE s=0):Qd s=(noT,rtE s):=by
 by_cases h3:Qv (at1 s 4)=0
 ·grind[XF,at1,rtE,QmG,Qmi,QqS]
 grind[Qpi,rtE]
section
variable{P:Program}{o:Oper}{L:Qc}{w0:World}{M:List Nat}{As As':List HA}
theorem QiE{src dst e n cap b bt tot:Nat}{x:Operand}(s:List UInt8)(ho:o.op=.convert src dst x)(hx:ev L x=some (.slice (some ⟨b,0,none⟩) n cap))(hs:P.underlying src=some (.slice e))(hd:P.underlying dst=some .string)(he:P.underlying e=some (.int .u8))(hn:n<=s.length)(hp:QP As (.blk b bt tot (s.map bv)) As'):OpQ P o L (HS w0 M As) (.string (bs (s.take n))):=by
 refine Qgx (s.take n) ho hx hs hd he (by rw[List.length_take];omega) λw hw _=>⟨b,0,rfl,λj hj=>?_⟩;rw[List.length_take]at hj;rw[Nat.zero_add];refine(hw.blk_get hp).cell ?_
 grind[bv]
end
theorem QbH{s:List UInt8}{p0 count k:Nat}(h0:p0<=s.length){r:RdS}(h:stR s p0 count k=some r)(hk:k<=count+1):r.es.length<=count/\∀x∈r.es,X8 x 0=true:=by
 unfold stR at h;split at h
 ·obtain⟨h1,_,_,_,_,h6,_⟩:=Qbz h0 h
  grind
 ·cases hq:rdE s p0 count with
  | none=>rw[hq]at h;cases h
  | some q=>
   rw[hq]at h;simp only[]at h;obtain⟨h1,_,_,_,_,h6,_⟩:=Qbz h0 hq
   grind
theorem Qvf{x:TEnt}{c:Nat}(h:X8 x c=true):X8 x 0=true:=by grind[X8]
theorem Qvo{s:List UInt8}{p0 count k:Nat}(h0:p0<=s.length){r:RdS}(h:stR s p0 count k=some r)(hk:k<count+1)(hK:k<count->X8 (Xd s r.p) (ub4 s (r.p+4))=true):(esR s r k count).length<=count/\∀x∈esR s r k count,X8 x 0=true:=by
 obtain⟨h1,h2⟩:=QbH h0 h om;rcases Nat.lt_or_ge k count with hc|hc
 ·rw[QpP hc];rw[QeT om]at h;have h3:=(Qbz h0 h).1
  grind[Qvf]
 grind[QpH]
end Gx
