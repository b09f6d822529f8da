/- Contracts of the program's functions, proved by walking them with the rules of the Gx texts; without conditions beyond those that each contract names. -/
import Derived.WalkKit
import Derived.Deep.Draws
import Derived.TacticsIn
import Derived.OrdersIn
import Derived.RangeFuncLeaves
import Derived.Lib.Strings
import Derived.Laws.BytesArg
import Derived.Laws.IdiomStrings
import Derived.Deep.Quiet
import Derived.ProofKit
import Derived.OpenShut
import Derived.Laws.StructEq
import Derived.ChangeKeysEq
import Derived.Laws.Externs
import Derived.Lib.Overlaps
import Derived.Carry
import Derived.Laws.Small
import Derived.Lib.Bytealg
import Derived.Shelf.Small.Strs
import Derived.Shelf.Small.Wraps
import Derived.Shelf.Strconv.Itoa0
import Derived.Shelf.Strconv.Itoa1
import Derived.Shelf.LaysM
import Derived.Shelf.Strconv.Itoa2
import Derived.Shelf.Strconv.Itoa3
import Derived.Shelf.Strings.Search1
import Derived.Shelf.Strings.Search2
import Derived.Shelf.Strings.Cut
import Derived.Shelf.Strings.Shaped
import Derived.Shelf.Strings.LastIndex
import Derived.Shelf.Strings.LastIndexAll
import Derived.Shelf.Strings.Prefix
import Derived.Shelf.Slices.Turned
import Derived.Shelf.Slices.Reverse
import Derived.Shelf.Slices.Equal
import Derived.Ground.Names2Prog
import Derived.Shelf.Slices.Clone
import Derived.Shelf.Slices.SearchI
import Derived.Shelf.Slices.Delete
import Derived.Shelf.Slices.Cells
import Derived.Shelf.Slices.Empties
import Derived.Shelf.Slices.Empties2
import Derived.Ground.SlgnProg
import Derived.Shelf.SlicesE.Reverse
import Derived.Shelf.SlicesE.Delete
import Derived.Shelf.SlicesE.Clone
import Derived.Test.YtmhkomoiamljeaaGreatDoorProg
import Derived.KernelRfl
import Derived.Lib.LastIndexByte
import Derived.Lib.ItoaNum
import Derived.Lib.SmallJoins
import Derived.Lib.AppendIntMem
import Derived.RangeFuncRecord
import Derived.Lib.Builder
import Derived.Laws.Pointers
import Derived.Test.YtmhkomoiamljeaaGreatDoorTie
import Derived.Test.YtmhkomoiamljeaaGreatDoorCards
import Derived.SevenTiedAt
import Derived.LaidMore
import Derived.Lay
import Derived.Stop.Joined
import Derived.Test.YtmhkomoiamljeaaGreatDoorP4
set_option linter.unusedSimpArgs false
set_option maxHeartbeats 1000000
set_option linter.unusedVariables false
set_option linter.unusedSectionVars false
set_option linter.unnecessarySimpa false
namespace Gx
open Go Go.RowKit
def Qeb(x:TEnt):Bool:=decide (x.key.length<=60/\x.val.length<=100)
def Qdi(n:Nd):Bool:=decide (n.es.length<=20/\n.cs.length<=30)&&n.es.all Qeb
def QbV:List Nd->Nat
 | []=>0
 | n::ns=>n.es.length+QbV ns
def ZT(ns:List Nd):Bool:=ns.all Qdi&&(decide (ns.length<=125)&&decide (QbV ns<=300))
theorem Qkf:∀(a b:List Nd),QbV (a++b)=QbV a+QbV b
 | [],b=>by simp[QbV]
 | n::a,b=>by rw[List.cons_append,QbV,QbV,Qkf a b];omega
theorem Qhk{ns:List Nd}{k:Nat}(hk:k<ns.length):QbV (ns.take (k+1))=QbV (ns.take k)+(nth ns k).es.length:=by
 rw[Xg (d:=default) hk,Qkf];simp only[QbV];rfl
theorem QsL{α:Type}[Inhabited α]{p:α->Bool}{l:List α}(h:∀q,q<l.length->p (nth l q)=true):l.all p=true:=by
 refine List.all_eq_true.2 λx hx=>?_;obtain⟨q,hq,e⟩:=List.getElem_of_mem hx;have e2:nth l q=x:=Yi (by rw[List.getElem?_eq_getElem hq,e]);rw[<-e2];exact h q hq
theorem Qs3{α:Type}[Inhabited α]{p:α->Bool}{l:List α}{k:Nat}(hk:k<l.length)(h:¬p (nth l k)=true):l.all p=false:=by
 cases e:l.all p
 ·rfl
 ·exact absurd (List.all_eq_true.1 e _ (Qt hk)) h
theorem QtW{n:Nd}(h:20<n.es.length\/30<n.cs.length):¬Qdi n=true:=λh9=>by
 rw[Qdi,Bool.and_eq_true,decide_eq_true_eq]at h9;omega
theorem Qth{n:Nd}{k:Nat}(hk:k<n.es.length)(h:¬Qeb (nth n.es k)=true):¬Qdi n=true:=λh9=>by
 rw[Qdi,Bool.and_eq_true,Qs3 hk h]at h9;exact absurd h9.2 (by decide)
theorem Qtz{n:Nd}(h1:n.es.length<=20)(h2:n.cs.length<=30)(h:∀q,q<n.es.length->Qeb (nth n.es q)=true):Qdi n=true:=by
 rw[Qdi,decide_eq_true (And.intro h1 h2),QsL h];rfl
theorem Ql9{ns:List Nd}{k:Nat}(hk:k<ns.length)(h:¬Qdi (nth ns k)=true):ZT ns=false:=by
 rw[ZT,Qs3 hk h];rfl
theorem Qso{ns:List Nd}(h:∀q,q<ns.length->Qdi (nth ns q)=true):ZT ns=(decide (ns.length<=125)&&decide (QbV ns<=300)):=by
 rw[ZT,QsL h];rfl
theorem QiY{ns:List Nd}:∀{i:Nat},(∀q,q<i->Qdi (nth ns q)=true)->i<=ns.length->QbV (ns.take i)<=20*i
 | 0,_,_=>by simp[QbV]
 | i+1,h,hi=>by
  have h1:=QiY (i:=i) (λq hq=>h q om) om;have h2:=h i om;rw[Qdi,Bool.and_eq_true,decide_eq_true_eq]at h2;rw[Qhk om];omega
theorem Qsb{e:Int}(h1: -9223372036854775808<=e)(h2:e<=9223372036854775807):IntKind.i64.wrap e=e:=by
 have h9:=QmQ h1 h2;injection h9
theorem Que{ns:List Nd}{i:Nat}{v:Int}(hi:i<ns.length)(h:∀q,q<i->Qdi (nth ns q)=true)(h9:ns.length<=125)(hv:v=((QbV (ns.take i):Nat):Int))(hl:(nth ns i).es.length<=20):IntKind.i64.wrap (v+((nth ns i).es.length:Int))=((QbV (ns.take (i+1)):Nat):Int):=by
 have h6:=QiY h om;rw[Qhk hi,hv,Qsb om om];omega
theorem Qkp{ns:List Nd}(h:ZT ns=true):ns.length<=125:=by
 rw[ZT,Bool.and_eq_true,Bool.and_eq_true,decide_eq_true_eq,decide_eq_true_eq]at h;exact h.2.1
theorem QcQ{ns:List Nd}(h:ZT ns=true){k:Nat}(hk:k<ns.length):(nth ns k).es.length<=20/\(nth ns k).cs.length<=30/\∀x∈(nth ns k).es,x.key.length<=60/\x.val.length<=100:=by
 rw[ZT,Bool.and_eq_true]at h;have h2:=List.all_eq_true.1 h.1 _ (Qt hk);rw[Qdi,Bool.and_eq_true,decide_eq_true_eq]at h2;refine⟨h2.1.1,h2.1.2,λx hx=>?_⟩;have h3:=List.all_eq_true.1 h2.2 _ hx;rw[Qeb,decide_eq_true_eq]at h3;exact h3
theorem QrZ{ns:List Nd}(h:ZT ns=true):Bd ns where
 len:=Nat.le_trans (Qkp h) (by decide)
 es i hi:=Nat.le_trans (QcQ h hi).1 (by decide)
 cs i hi:=Nat.le_trans (QcQ h hi).2.1 (by decide)
theorem Qrd{ns:List Nd}(h:ZT ns=true):Sm 1000 ns:=λk=>by
 rcases Nat.lt_or_ge k ns.length with hk|hk
 ·exact⟨Nat.le_trans (QcQ h hk).1 (by decide),Nat.le_trans (QcQ h hk).2.1 (by decide)⟩
 ·rw[Qsu hk];exact⟨Nat.zero_le _,Nat.zero_le _⟩
theorem Qhq{L:List LNd}(h:ZT (pln L)=true):∀i,i<L.length->∀x∈(nth L i).es,x.key.length<=1000000:=λi hi x hx=>by
 have h2:=(QcQ h (k:=i) (by rw[Qh];exact hi)).2.2 x (by rw[QR hi];exact hx);omega
def DV(t:Tre)(T:BT):Prop:=(Yb t).2=0->∃d lo hi rt,Qc0 t.ns T/\VT t.co lo hi rt d T
theorem QuK{t:Tre}(h:ZT t.ns=true):∃T,DT t T/\DV t T/\T.flat.length<=2500:=by
 by_cases h0:(Yb t).2=0
 ·obtain⟨T,d9,hR,hV,hZ,hU⟩:=Quw h0
  have hfl:T.flat.length<=2500:=by
   have h9:=hR.flat_len (m:=20) (λi hi=>(QcQ h hi).1);have h8:=Qkp h;omega
  refine⟨T,λ_=>⟨d9,_,_,hV.bel,hR.nin,hV.idx,om,λx hx=>?_⟩,λ_=>⟨d9,_,_,_,hR,hV⟩,hfl⟩;have h7:=hV.ents x hx;have h6:=QeH (QaU h7);have h5:x.val.length<=64:=by grind[YU]
  omega
 ·exact⟨.nd 0 [] [],λh9=>absurd h9 h0,λh9=>absurd h9 h0,by rw[show(BT.nd 0 [] []).flat=[]from rfl];simp⟩
theorem Qd1{s:List UInt8}(h:QT s=0):YM (1:Int) s=0:=by
 obtain⟨h1,h2,_⟩:=Qf4 h
 have hk:Q7 (1:Int) s=true:=by
  show decide (1<=s.length/\s.length<=32)=true;exact decide_eq_true ⟨h2,h1⟩
 unfold YM;rw[hk];rfl
theorem QnJ{l:List DEnt}{k:Nat}(hk:k<l.length):Qk (l.take (k+1))=if(nth l k).sp=1 then Qk (l.take k)else Qk (l.take k)++[nth l k]:=by
 unfold Qk;rw[List.take_add_one,Xw hk,List.filter_append]
 by_cases h:(nth l k).sp=1<;>simp[h]
theorem Qfa{l:List DEnt}:(Qk l).length<=l.length:=List.length_filter_le _ _
end Gx
namespace Go.Proofs
open Go Go.RowKit Gx
attribute [local irreducible] Go.Calls Gx.S Gx.O Gx.D Gx.OpP Gx.OpQ Gx.OpH
set_option maxRecDepth 20000
instance:TFn Tryz.prog 83:=⟨by kernel_rfl⟩
theorem str_get{l:List (List UInt8)}{k:Nat}(h:k<l.length):(l.map Qdq)[k]?=some (Qdq (nth l k)):=by
  rw[List.getElem?_map,Xw h];rfl
theorem c36(w:World)(a b:Option Addr)(ca cb:Nat)(l:List (List UInt8))(ha:Vl w a (l.map Qdq))(hb:Vl w b (l.map Qdq))(hm:l.length<=1000000):CR 36 #[.slice a l.length ca,.slice b l.length cb] w (.bool true):=by
 refine eN2 Tryz.func36 Tryz.ntmps36 ?_
 refine Qas ?_
 refine sCd rfl (λh1=>?_) λh1=>?_
 ·exfalso;first|omega|(simp at h1;done)|(simp_all;done)
 refine aU7 ?_
 refine Qp (α:=Nat) [4,5,11,12,13,14,15,16,17,18,19,20,21,22,23,24,25] (λk=>[(5,.int .i64 (k:Int))]) (λ_=>HS w [] []) (λk=>k<=l.length) (λk=>l.length-k) 0 (by simp) aSx (λw h=>h.ent aEt) (λk hk=>?_)
 refine aU8 ?_
 refine sCd rfl (λh2=>?_) λh2=>?_
 ·have hkl:k<l.length:=by omega
  refine aU4 ?_
  refine QH [] mixed ?_
  refine dP 0 ?_
  refine dP 1 ?_
  refine dV 2 rfl (Qa rfl rfl rfl Zf (k) om om (ha.some (by rw[List.length_map];omega))) (dQ 3 [] rfl (Qb rfl rfl X1 ((ha.rd (str_get (k:=k) hkl)))) (dP 4 ?_))
  refine dP 5 ?_
  refine dV 6 rfl (Qa rfl rfl rfl Zf (k) om om (hb.some (by rw[List.length_map];omega))) (dQ 7 [] rfl (Qb rfl rfl X1 ((hb.rd (str_get (k:=k) hkl)))) (dP 8 ?_))
  refine dNi ?_
  refine sCd rfl (λh3=>?_) λh3=>?_
  ·exfalso;first|omega|(simp at h3;done)|(simp_all;done)
  refine aT5 ?_
  refine aU2 ?_
  exact sBk (k+1)
 refine Qg rfl ?_
 refine aU4 ?_
 exact rV
set_option maxHeartbeats 2000000 in
theorem c12(w:World)(co mo rm:Int)(a:Option Addr)(cap:Nat)(L:List LNd)(hs:Nt w [] a L)(hml:L.length<=9223372036854775807):CR 12 #[.agg #[.int .i64 co,.int .i64 mo,.int .i64 rm,.slice a L.length cap]] w (.bool (ZT (pln L))):=by
 have hnl:(pln L).length=L.length:=Qh L
 refine eN1 Tryz.func12 Tryz.ntmps12 ?_
 refine aU2 ?_
 refine oBx λb1 _=>?_
 refine QbX ?_
 refine Qp (α:=Nat×Int) [2,3,4,5,6,7,8,9,10,11,12,13,14,15,16,17,18,19,20,21,22,23,24,25,26,27,28,29,30,31,32,33,34,35,36,37,38,39,40,41,42,43,44,45,46,47,48,49,50,51,52,53,54,55,56,57,58,59,60,61,62,63,64,65,66,67,68,69,70,71,72,73,74,75,76] (λx=>[(3,.int .i64 x.2),(4,.int .i64 (x.1:Int))]) (λ_=>HS w [] [.blk b1 24 4 [.int .i64 co,.int .i64 mo,.int .i64 rm,.slice a L.length cap]]) (λx=>x.1<=L.length/\(∀q,q<x.1->Qdi (nth (pln L) q)=true)/\(L.length<=125->x.2=((QbV ((pln L).take x.1):Nat):Int))) (λx=>L.length-x.1) (0,0) ⟨Nat.zero_le _,λq h=>absurd h (Nat.not_lt_zero q),λ_=>rfl⟩ aSx (λw h=>h.ent aEt) (λ⟨i,v⟩hx=>?_)
 dsimp only at hx ⊢
 obtain⟨hi1,hi3,hi4⟩:=hx
 refine aU9 ?_
 refine sCd rfl (λh2=>?_) λh2=>?_
 ·have hi5:i<L.length:=by have hq:=h2;omega
  have hnk:=QR hi5
  refine aU9 ?_
  refine o_p (Qa rfl rfl rfl XC (i) om om (Rw.some hs.1 om)) rfl (aU ?_)
  refine o_q (Qb rfl rfl Z5 ((hs.1.rdj 1 hi5 rfl))) rfl (aU3 ?_)
  refine oOr 9 21 30 rfl
   (λhg3 _=>by
    refine aU7 ?_
    refine o_p (Qa rfl rfl rfl XC (i) om om (Rw.some hs.1 om)) rfl (aU3 ?_)
    refine o_q (Qb rfl rfl QaL ((hs.1.rdj 2 hi5 rfl))) rfl (aU4 ?_)
    exact oJf 9 30)
   (λhg5 _=>by
    refine aU8 ?_
    exact oJt 9 30) ?_
  refine aU ?_
  refine sCd rfl (λh7=>?_) λh7=>?_
  ·have hbad:=Ql9 (ns:=pln L) (k:=i) (by rw[hnl];exact hi5) (by rw[hnk];exact QtW (by have hq:=h7;show 20<(nth L i).es.length\/30<(nth L i).cs.length;omega))
   refine aU4 ?_
   exact rV (h:=by rw[hbad];rfl)
  have hel:(nth L i).es.length<=20/\(nth L i).cs.length<=30:=by have hq:=h7;omega
  have hv9:L.length<=125->IntKind.i64.wrap (v+((nth L i).es.length:Int))=((QbV ((pln L).take (i+1)):Nat):Int):=λh9=>by have h8:=Que (ns:=pln L) (by rw[hnl];exact hi5) hi3 (by rw[hnl];exact h9) (hi4 h9) (by rw[hnk];exact hel.1);rw[hnk]at h8;exact h8
  refine aU7 ?_
  refine o_p (Qa rfl rfl rfl XC (i) om om (Rw.some hs.1 om)) rfl (aU ?_)
  refine o_q (Qb rfl rfl Z5 ((hs.1.rdj 1 hi5 rfl))) rfl (aT2 ?_)
  refine aU7 ?_
  refine Qd (L':=[(0,_),(1,_),(3,_),(4,_),(5,_)]) aSx (λ_ h=>h) ?_
  refine Qp (α:=Nat) [2,5,40,41,42,43,44,45,46,47,48,49,50,51,52,53,54,55,56,57,58,59,60,61,62,63,64,65,66,67,68,69,70,71,72,73,74,75,76] (λk=>[(5,.int .i64 (k:Int))]) (λ_=>HS w [] [.blk b1 24 4 [.int .i64 co,.int .i64 mo,.int .i64 rm,.slice a L.length cap]]) (λk=>k<=(nth L i).es.length/\∀q,q<k->Qeb (nth (nth L i).es q)=true) (λk=>(nth L i).es.length-k) 0 ⟨Nat.zero_le _,λq h=>absurd h (Nat.not_lt_zero q)⟩ aSx (λw h=>h.ent aEt) (λk hx=>?_)
  obtain⟨hk1,hk3⟩:=hx
  refine aU7 ?_
  refine o_p (Qa rfl rfl rfl XC (i) om om (Rw.some hs.1 om)) rfl (aU ?_)
  refine o_q (Qb rfl rfl Z5 ((hs.1.rdj 1 hi5 rfl))) rfl (aU3 ?_)
  refine sCd rfl (λh8=>?_) λh8=>?_
  ·have hk5:k<(nth L i).es.length:=by have hq:=h8;omega
   refine aU8 ?_
   refine o_p (Qa rfl rfl rfl XC (i) om om (Rw.some hs.1 om)) rfl (aU ?_)
   refine o_q (Qb rfl rfl Z5 ((hs.1.rdj 1 hi5 rfl))) rfl (aU ?_)
   refine o_p (Qa rfl rfl rfl QG (k) om om (Rw.some (hs.es hi5) om)) rfl (aU ?_)
   refine o_q (Qb rfl rfl X1 (((hs.es hi5).rdj 0 hk5 rfl))) rfl (o_p (Qn rfl rfl Tryz.underlying9) rfl (aU2 ?_))
   refine oOr 13 63 76 rfl
    (λhg9 _=>by
     refine aU7 ?_
     refine o_p (Qa rfl rfl rfl XC (i) om om (Rw.some hs.1 om)) rfl (aU3 ?_)
     refine o_q (Qb rfl rfl Z5 ((hs.1.rdj 1 hi5 rfl))) rfl (aU3 ?_)
     refine o_p (Qa rfl rfl rfl QG (k) om om (Rw.some (hs.es hi5) om)) rfl (aU3 ?_)
     refine o_q (Qb rfl rfl X1 (((hs.es hi5).rdj 1 hk5 rfl))) rfl (aU ?_)
     refine o_p (Qn rfl rfl Tryz.underlying9) rfl (aU2 ?_)
     exact oJf 13 76)
    (λhg11 _=>by
     refine QbX ?_
     exact oJt 13 76) ?_
   refine aU ?_
   refine sCd rfl (λh13=>?_) λh13=>?_
   ·have hz2:¬Qeb (nth (nth L i).es k)=true:=by have hq:=h13;unfold Qeb;rw[decide_eq_true_eq];omega
    have hbad:=Ql9 (ns:=pln L) (k:=i) (by rw[hnl];exact hi5) (by rw[hnk];exact Qth (k:=k) hk5 hz2)
    refine aU4 ?_
    exact rV (h:=by rw[hbad];rfl)
   have hz2:Qeb (nth (nth L i).es k)=true:=by have hq:=h13;unfold Qeb;rw[decide_eq_true_eq];omega
   refine aT5 ?_
   refine aU2 ?_
   exact sBk (k+1) om ⟨om,λq hq=>(Nat.lt_or_ge q k).elim (hk3 q) (λh9=>by obtain rfl:q=k:=om;exact hz2)⟩
  have hz1:Qdi (nth (pln L) i)=true:=by rw[hnk];exact Qtz hel.1 hel.2 (λq hq=>hk3 q (by have hq8:=h8;have hq7:q<(nth L i).es.length:=hq;omega))
  refine Qg rfl ?_
  refine aT4 ?_
  refine aU2 ?_
  exact sBk (i+1,IntKind.i64.wrap (v+((nth L i).es.length:Int))) (by dsimp only;omega) (by dsimp only;exact⟨om,λq hq=>(Nat.lt_or_ge q i).elim (hi3 q) (λh9=>by obtain rfl:q=i:=om;exact hz1),hv9⟩)
 have hall:=Qso (ns:=pln L) (λq hq=>hi3 q (by rw[hnl]at hq;omega))
 obtain rfl:i=L.length:=by have hq:=h2;omega
 refine Qg rfl ?_
 refine aU7 ?_
 refine Xi 3 81 84 rfl
  (λhg14 _=>by
   refine aU4 ?_
   exact oJt 3 84)
  (λhg16 _=>by
   refine aU2 ?_
   exact oJf 3 84) ?_
 refine aU2 ?_
 exact rV (h:=by rw[hall];simp only[QA];congr 1;by_cases h9:L.length<=125;(have h8:=hi4 h9;rw[List.take_of_length_le (by rw[hnl];exact Nat.le_refl _)]at h8;subst h8;simp only[hnl];grind);(simp only[hnl];grind))
theorem c83(w:World)(a:Option Addr)(cap:Nat)(l:List DEnt)(hs:Rw DEnt.vals 9 w [] a l)(hm:l.length<=100000):CE 83 #[.slice a l.length cap] w [] (λg:Option Addr×Nat=>.slice g.1 (Qk l).length g.2) (λg=>True) λg=>[.own (.slice g.1 (Qk l).length g.2) 66 9 (Qk l).length ((Qk l).flatMap DEnt.vals)]:=by
 refine eN1 Tryz.func83 Tryz.ntmps83 ?_
 refine Qkh ?_
 refine Qp (α:=Nat×(Option Addr×Nat)) [3,4,5,6,7,8,9,10,11,12,13,14,15,16,17,18,19,20,21,22,23] (λy=>[(4,.int .i64 (y.1:Int)),(3,.slice y.2.1 (Qk (l.take y.1)).length y.2.2)]) (λy=>HS w [] [.own (.slice y.2.1 (Qk (l.take y.1)).length y.2.2) 66 9 (Qk (l.take y.1)).length ((Qk (l.take y.1)).flatMap DEnt.vals)]) (λy=>y.1<=l.length) (λy=>l.length-y.1) (0,(none,0)) (Nat.zero_le _) aSx (λw h=>(h.own_nil 66 9).ent aEt) (λ⟨k,A⟩hk1=>?_)
 dsimp only at hk1 ⊢
 have hkl:=Qfa (l:=l.take k)
 rw[List.length_take]at hkl
 refine aU8 ?_
 refine sCd rfl (λh1=>?_) λh1=>?_
 ·have hk:k<l.length:=by have hq:=h1;omega
  have hst:=QnJ hk
  refine aU7 ?_
  refine o_p (Qa rfl rfl rfl QZ (k) om om (Rw.some hs om)) rfl (aU ?_)
  refine o_q (Qb rfl rfl Zh ((hs.rdj 1 hk rfl))) rfl (aU2 ?_)
  refine sCd rfl (λh2=>?_) λh2=>?_
  ·rw[if_neg (by have hq:=h2;simpa using hq)]at hst
   refine aU4 ?_
   refine o_p (Qa rfl rfl rfl QZ (k) om om (Rw.some hs om)) rfl (o_q (Qq _ rfl rfl YC rfl (Rw.rd hs hk)) rfl (o_h (Ql (cs:=[_,_,_,_,_,_,_,_,_]) rfl rfl QZ Xh rfl rfl rfl) rfl (λb3 _=>o_h (QF (n:=(Qk (l.take k)).length) (nth l k).vals rfl rfl rfl QZ Tryz.underlying33 Xh rfl aPk (Xk aPk) rfl (dv1 _) om (by simp only[maxLen];omega)) rfl (λb4 _=>aT6 ?_))))
   refine aU2 ?_
   exact Qs (k+1,b4) (by dsimp only;omega) (by dsimp only;omega) (by dsimp only;rw[hst,List.length_append];exact aSx) (λw h=>by dsimp only;rw[hst,List.length_append,XU];exact h.ent aEt)
  rw[if_pos (by have hq:=h2;simpa using hq)]at hst
  refine aT5 ?_
  refine aU2 ?_
  exact Qs (k+1,A) (by dsimp only;omega) (by dsimp only;omega) (by dsimp only;rw[hst];exact aSx) (λw h=>by dsimp only;rw[hst];exact h.ent aEt)
 obtain rfl:k=l.length:=by have hq:=h1;omega
 rw[List.take_length]
 refine Qg rfl ?_
 refine aU5 ?_
 exact rT rfl rfl (λw' h'=>⟨A,rfl,trivial,h'.ent aEt⟩)
instance:TFn Tryz.prog 79:=⟨by kernel_rfl⟩
theorem QtJ{t:Tre}{X:List TEnt}(h:(Xa t X).2=0):Qc1 t X=X.map Qe:=if_pos h
instance:TFn Tryz.prog 12:=⟨by kernel_rfl⟩
theorem QvK:QJ Tryz.prog 29=true:=by kernel_rfl
set_option maxHeartbeats 2000000 in
theorem c85(w:World)(t p s:List UInt8)(hl:t.length=128)(hp:∀c∈p,c.toNat<128)(hs:∀c∈s,c.toNat<128)(hmp:p.length<=1000000)(hms:s.length<=1000000):CR 85 #[.string (bs t),.string (bs p),.string (bs s)] w (.bool (mtU t p s)):=by
 refine eN3 Tryz.func85 Tryz.ntmps85 ?_
 refine aU7 ?_
 refine o_p (Qn rfl rfl Tryz.underlying9) rfl (aT ?_)
 refine o_h (Qbu (n:=(s.length+1)) rfl rfl rfl Xf Qk8 om om) rfl (λb1 _=>aU5 ?_)
 refine o_p (Qa rfl rfl rfl Xf (0) om om rfl) rfl (Qu (show _=Value.pointer (some ⟨b1,0*1,none⟩)from rfl) (QcX (Xr rfl rfl rfl Zm rfl aPt (by rw[Nat.mul_one,QB];omega) rfl) (λ_ _=>aU7 ?_)))
 refine Qp (α:=Nat×Nat) [7,8,9,10,17,18,19,20,21,22,23,24,25,26,27,28,29,30,31,32,33,34,35,36,37,38,39,40,41,42,43,44,45,46,47,48,49,50,51,52,53,54,55,56,57,58,59,60,61,62,63,64,65,66,67,68,69,70,71,72,73,74,75,76,77,78,79,80,81,82,83,84,85] (λy=>[(8,.int .i64 (y.1:Int)),(7,.slice (some ⟨y.2,0,none⟩) (s.length+1) (s.length+1))]) (λy=>HS w [] [.blk y.2 4 ((s.length+1)*1) ((Qdm t s (p.take y.1).reverse).map Value.bool)]) (λy=>y.1<=p.length) (λy=>p.length-y.1) (0,b1) (Nat.zero_le _) aSx (λw h=>by have h1:=HS.blk_to (b:=b1) h aPk (show Qf (XA [.bool false] ((s.length+1)*1)) (0*1) [.bool true]=(Qdm t s []).map Value.bool from by rw[Nat.mul_one,QaY,<-List.map_replicate (f:=Value.bool),Qel (by simp) rfl,Qke]);exact h1.ent aEt) (λ⟨k,b⟩hk1=>?_)
 dsimp only at hk1 ⊢
 refine aU5 ?_
 refine o_p (Qn rfl rfl Tryz.underlying9) rfl (aU2 ?_)
 refine sCd rfl (λh2=>?_) λh2=>?_
 ·have hk:k<p.length:=by omega
  have hpc:=hp (p.getD k 0) (XL hk)
  refine aU6 ?_
  refine o_p (Qn rfl rfl Tryz.underlying9) rfl (aT ?_)
  refine o_h (Qbu (n:=(s.length+1)) rfl rfl rfl Xf Qk8 om om) rfl (λb3 _=>aU8 ?_)
  refine Qp (α:=Nat) [10,27,28,29,30,31,32,33,34,35,36,37,38,39,40,41,42,43,44,45,46,47,48,49,50,51,52,53,54,55,56,57,58,59,60,61,62,63,64,65,66,67,68,69,70,71,72,73,74,75,76,77,78,79,80,81,82,83,84] (λi=>[(10,.int .i64 (i:Int))]) (λi=>HS w [] [.blk b3 4 ((s.length+1)*1) ((ZN t s (p.getD k 0::(p.take k).reverse) i).map Value.bool),.blk b 4 ((s.length+1)*1) ((Qdm t s (p.take k).reverse).map Value.bool)]) (λi=>i<=(s.length+1)) (λi=>(s.length+1)-i) 0 (Nat.zero_le _) aSx (λw h=>by have h1:=HS.blk_to (b:=b3) h aPk (show XA [.bool false] ((s.length+1)*1)=(ZN t s (p.getD k 0::(p.take k).reverse) 0).map Value.bool from by rw[Nat.mul_one,QaY,Qpu,List.map_replicate]);exact h1.ent aEt) (λi hi1=>?_)
  refine aU5 ?_
  refine o_p (Qn rfl rfl Tryz.underlying9) rfl (aU2 ?_)
  refine sCd rfl (λh4=>?_) λh4=>?_
  ·have hi:i<(s.length+1):=by omega
   refine aU7 ?_
   refine o_p (Qr rfl rfl rfl Tryz.underlying9 (k) om om) rfl ?_
   refine aU2 ?_
   refine sCd rfl (λh5=>?_) λh5=>?_
   ·have hc42:p.getD k 0=42:=UInt8.toNat_inj.1 (by show(p.getD k 0).toNat=42;have hq:=h5;omega)
    refine aU5 ?_
    refine o_p (Qa rfl rfl rfl Xf (i) om om rfl) rfl (o_q (QN rfl rfl Zm (λw h=>by rw[Nat.zero_add];exact h.rd_blk (Mc:=[]) (b:=b) aPk (by rw[Nat.mul_one,Qb9 (by rw[Yq];exact hi),Qa5 hi]) (by simp))) rfl (aU ?_))
    refine oOr 10 43 53 rfl
     (λhg6 _=>by
      refine aU6 ?_
      refine Xi 6 46 52 rfl
       (λhg8 _=>by
        refine aT6 ?_
        refine aU ?_
        refine o_p (Qa rfl rfl rfl Xf (i-1) om om rfl) rfl (aU ?_)
        refine o_q (QN rfl rfl Zm (λw h=>by rw[Nat.zero_add];exact h.rd_blk (Mc:=[]) (b:=b3) aPk (by rw[Nat.mul_one,Qb9 (by rw[XE om];omega),QjZ om (by have hq:=hg8;omega)]) (by simp))) rfl (aU ?_)
        exact oJt 6 52)
       (λhg10 _=>by
        refine aU6 ?_
        exact oJf 6 52) ?_
      exact oJf 5 53)
     (λhg12 _=>by
      refine aU9 ?_
      exact oJt 10 53) ?_
    refine Qu (show _=Value.bool (mtR t s (p.getD k 0::(p.take k).reverse) i)from by congr 1;rw[QlR (i:=i) hc42];simp) (o_p (Qa rfl rfl rfl Xf (i) om om rfl) rfl (Qu (show _=Value.pointer (some ⟨b3,i*1,none⟩)from by rw[Nat.zero_add]) (QcX (Xr rfl rfl rfl Zm rfl aPt (by rw[List.length_map,XE om];omega) rfl) (λ_ _=>aU2 ?_))))
    refine Qd (L':=[(0,_),(1,_),(2,_),(6,_),(7,_),(8,_),(9,_),(10,_),(11,_),(12,_),(13,_),(14,_),(15,_),(16,_),(17,_),(18,_),(19,_),(20,_),(23,_),(24,_),(25,_),(26,_)]) aSx (λ_ h=>h) ?_
    refine aT3 ?_
    refine aU2 ?_
    exact Qs (i+1) om om aSx (λw h=>by have h1:=HS.blk_to (b:=b3) h aPk (Qel (L:=ZN t s (p.getD k 0::(p.take k).reverse) i) (x:=(mtR t s (p.getD k 0::(p.take k).reverse) i)) (by rw[XE om];omega) rfl);rw[ZG hi]at h1;exact h1.ent aEt)
   have hc42:¬p.getD k 0=42:=by intro hA;have hq:=h5;rw[hA]at hq;exact hq rfl
   refine aU5 ?_
   refine sCd rfl (λh14=>?_) λh14=>?_
   ·have hi0:0<i:=by have hq:=h14;omega
    have hsi:=hs (s.getD (i-1) 0) (XL om)
    have e63:(((p.getD k 0).toNat:Nat):Int)=63 ↔ p.getD k 0=63:=⟨λh=>UInt8.toNat_inj.1 (by show(p.getD k 0).toNat=63;omega),λh=>by rw[h];rfl⟩
    have eT:((t.getD (p.getD k 0).toNat 0).toNat:Int)=((t.getD (s.getD (i-1) 0).toNat 0).toNat:Int) ↔ t.getD (p.getD k 0).toNat 0=t.getD (s.getD (i-1) 0).toNat 0:=⟨λh=>UInt8.toNat_inj.1 om,λh=>by rw[h]⟩
    refine Qd (L':=[(0,_),(1,_),(2,_),(6,_),(7,_),(8,_),(9,_),(10,_),(11,_),(12,_),(13,_),(14,_),(15,_),(16,_),(17,_),(18,_),(19,_),(20,_),(23,_),(24,_),(25,_),(26,_)]) aSx (λ_ h=>h) ?_
    refine QH [28] mixed ?_
    refine dP 0 ?_
    refine dP 1 ?_
    refine dP 2 ?_
    refine dP 3 ?_
    refine dP 4 ?_
    try refine dWr ?_
    refine dV 5 rfl (Qa rfl rfl rfl Xf (i-1) om om rfl) (dQ 6 [[]] rfl (QN rfl rfl Zm (λw h=>by rw[Nat.zero_add];exact h.rd_blk (Mc:=[]) (b:=b) aPk (by rw[Nat.mul_one,Qb9 (by rw[Yq];omega),Qa5 om]) (by simp))) (dP 7 ?_))
    apply QI 64
    ·exact rfl
    ·intro hg15
     have hs16:=hg15;skip
     refine dPo 8 64 hg15 ?_
     refine dPo 9 64 hg15 ?_
     refine dVo 10 64 hg15 rfl rfl rfl (Qr rfl rfl rfl Tryz.underlying9 (k) om om) ?_
     refine dPo 11 64 hg15 ?_
     refine dPo 12 64 hg15 ?_
     apply QI 69
     ·exact rfl
     ·intro hg17
      have hs18:=hg17;try simp only[dT]at hs18
      refine dOf 13 69 hg17 ?_
      refine dOf 14 69 hg17 ?_
      refine dOf 15 69 hg17 ?_
      refine dOf 16 69 hg17 ?_
      refine dOf 17 69 hg17 ?_
      refine dOf 18 69 hg17 ?_
      refine dOf 19 69 hg17 ?_
      refine dOf 20 69 hg17 ?_
      refine dOf 21 69 hg17 ?_
      refine dOf 22 69 hg17 ?_
      refine dOf 23 69 hg17 ?_
      refine dOf 24 69 hg17 ?_
      refine dVo 25 64 hg15 rfl rfl rfl (QE rfl rfl hg17 rfl) ?_
      refine Qz (show _=Value.bool (decide (p.getD k 0=63)||decide (t.getD (p.getD k 0).toNat 0=t.getD (s.getD (i-1) 0).toNat 0))from by first|(have hgA:=of_decide_eq_true hg17;rw[e63]at hgA;rw[decide_eq_true hgA];rfl)|(have hgA:=of_decide_eq_false hg17;rw[e63]at hgA;rw[decide_eq_false hgA,decide_eq_decide.2 eT];rfl)) (dV 26 rfl (QE rfl rfl hg15 rfl) (Qz (show _=Value.bool (mtR t s (p.getD k 0::(p.take k).reverse) i)from by rw[Qdo hc42,decide_eq_true hi0];simp only[*,Bool.true_and,Bool.false_and]) (dV 27 rfl (Qa rfl rfl rfl Xf (i) om om rfl) (Qz (show _=Value.pointer (some ⟨b3,i*1,none⟩)from by rw[Nat.zero_add]) (Qii 28 rfl (Xr rfl rfl rfl Zm rfl aPt (by rw[List.length_map,XE om];omega) rfl) (by kernel_rfl) (λw h=>h.ent aEt) (λ_ _=>?_))))))
      refine dTu [] ?_
      refine dNi ?_
      refine aU ?_
      refine Qd (L':=[(0,_),(1,_),(2,_),(6,_),(7,_),(8,_),(9,_),(10,_),(11,_),(12,_),(13,_),(14,_),(15,_),(16,_),(17,_),(18,_),(19,_),(20,_),(23,_),(24,_),(25,_),(26,_)]) aSx (λ_ h=>h) ?_
      refine aT3 ?_
      refine aU2 ?_
      exact Qs (i+1) om om aSx (λw h=>by have h1:=HS.blk_to (b:=b3) h aPk (Qel (L:=ZN t s (p.getD k 0::(p.take k).reverse) i) (x:=(mtR t s (p.getD k 0::(p.take k).reverse) i)) (by rw[XE om];omega) rfl);rw[ZG hi]at h1;exact h1.ent aEt)
     intro hg19
     have hs20:=hg19;try simp only[dN]at hs20
     refine dPo 13 69 hg19 ?_
     refine dPo 14 69 hg19 ?_
     refine dPo 15 69 hg19 ?_
     refine dVo 16 69 hg19 rfl rfl rfl (Qr rfl rfl rfl Tryz.underlying9 (k) om om) ?_
     refine dVo 17 69 hg19 rfl rfl rfl (Qr rfl rfl rfl Tryz.underlying9 ((p.getD k 0).toNat) om om) ?_
     refine dPo 18 69 hg19 ?_
     refine dPo 19 69 hg19 ?_
     refine dPo 20 69 hg19 ?_
     refine dPo 21 69 hg19 ?_
     try refine dWr ?_
     refine dVo 22 69 hg19 rfl rfl rfl (Qr rfl rfl rfl Tryz.underlying9 (i-1) om om) ?_
     refine dVo 23 69 hg19 rfl rfl rfl (Qr rfl rfl rfl Tryz.underlying9 ((s.getD (i-1) 0).toNat) om om) ?_
     refine dPo 24 69 hg19 ?_
     refine dVo 25 64 hg15 rfl rfl rfl (QC rfl rfl hg19 rfl) ?_
     refine Qz (show _=Value.bool (decide (p.getD k 0=63)||decide (t.getD (p.getD k 0).toNat 0=t.getD (s.getD (i-1) 0).toNat 0))from by first|(have hgA:=of_decide_eq_true hg19;rw[e63]at hgA;rw[decide_eq_true hgA];rfl)|(have hgA:=of_decide_eq_false hg19;rw[e63]at hgA;rw[decide_eq_false hgA,decide_eq_decide.2 eT];rfl)) (dV 26 rfl (QE rfl rfl hg15 rfl) (Qz (show _=Value.bool (mtR t s (p.getD k 0::(p.take k).reverse) i)from by rw[Qdo hc42,decide_eq_true hi0];simp only[*,Bool.true_and,Bool.false_and]) (dV 27 rfl (Qa rfl rfl rfl Xf (i) om om rfl) (Qz (show _=Value.pointer (some ⟨b3,i*1,none⟩)from by rw[Nat.zero_add]) (Qii 28 rfl (Xr rfl rfl rfl Zm rfl aPt (by rw[List.length_map,XE om];omega) rfl) (by kernel_rfl) (λw h=>h.ent aEt) (λ_ _=>?_))))))
     refine dTu [] ?_
     refine dNi ?_
     refine aU ?_
     refine Qd (L':=[(0,_),(1,_),(2,_),(6,_),(7,_),(8,_),(9,_),(10,_),(11,_),(12,_),(13,_),(14,_),(15,_),(16,_),(17,_),(18,_),(19,_),(20,_),(23,_),(24,_),(25,_),(26,_)]) aSx (λ_ h=>h) ?_
     refine aT3 ?_
     refine aU2 ?_
     exact Qs (i+1) om om aSx (λw h=>by have h1:=HS.blk_to (b:=b3) h aPk (Qel (L:=ZN t s (p.getD k 0::(p.take k).reverse) i) (x:=(mtR t s (p.getD k 0::(p.take k).reverse) i)) (by rw[XE om];omega) rfl);rw[ZG hi]at h1;exact h1.ent aEt)
    intro hg21
    have hs22:=hg21;skip
    refine dOf 8 64 hg21 ?_
    refine dOf 9 64 hg21 ?_
    refine dOf 10 64 hg21 ?_
    refine dOf 11 64 hg21 ?_
    refine dOf 12 64 hg21 ?_
    refine dOu 13 69 ?_
    refine dOu 14 69 ?_
    refine dOu 15 69 ?_
    refine dOu 16 69 ?_
    refine dOu 17 69 ?_
    refine dOu 18 69 ?_
    refine dOu 19 69 ?_
    refine dOu 20 69 ?_
    refine dOu 21 69 ?_
    refine dOu 22 69 ?_
    refine dOu 23 69 ?_
    refine dOu 24 69 ?_
    refine dOf 25 64 hg21 ?_
    refine dV 26 rfl (QC rfl rfl hg21 rfl) (Qz (show _=Value.bool (mtR t s (p.getD k 0::(p.take k).reverse) i)from by rw[Qdo hc42,decide_eq_true hi0];simp only[*,Bool.true_and,Bool.false_and]) (dV 27 rfl (Qa rfl rfl rfl Xf (i) om om rfl) (Qz (show _=Value.pointer (some ⟨b3,i*1,none⟩)from by rw[Nat.zero_add]) (Qii 28 rfl (Xr rfl rfl rfl Zm rfl aPt (by rw[List.length_map,XE om];omega) rfl) (by kernel_rfl) (λw h=>h.ent aEt) (λ_ _=>?_)))))
    refine dTu [] ?_
    refine dNi ?_
    refine aU ?_
    refine Qd (L':=[(0,_),(1,_),(2,_),(6,_),(7,_),(8,_),(9,_),(10,_),(11,_),(12,_),(13,_),(14,_),(15,_),(16,_),(17,_),(18,_),(19,_),(20,_),(23,_),(24,_),(25,_),(26,_)]) aSx (λ_ h=>h) ?_
    refine aT3 ?_
    refine aU2 ?_
    exact Qs (i+1) om om aSx (λw h=>by have h1:=HS.blk_to (b:=b3) h aPk (Qel (L:=ZN t s (p.getD k 0::(p.take k).reverse) i) (x:=(mtR t s (p.getD k 0::(p.take k).reverse) i)) (by rw[XE om];omega) rfl);rw[ZG hi]at h1;exact h1.ent aEt)
   have hi0:i=0:=by have hq:=h14;omega
   have hmf:(mtR t s (p.getD k 0::(p.take k).reverse) i)=false:=by rw[Qdo hc42,hi0];rfl
   refine aU2 ?_
   refine Qd (L':=[(0,_),(1,_),(2,_),(6,_),(7,_),(8,_),(9,_),(10,_),(11,_),(12,_),(13,_),(14,_),(15,_),(16,_),(17,_),(18,_),(19,_),(20,_),(23,_),(24,_),(25,_),(26,_)]) aSx (λ_ h=>h) ?_
   refine aT3 ?_
   refine aU2 ?_
   exact Qs (i+1) om om aSx (λw h=>by rw[<-Qhn hi hmf];exact h.ent aEt)
  obtain rfl:i=(s.length+1):=om
  rw[QiQ,<-rev_take hk]
  refine Qg rfl ?_
  refine aT8 ?_
  refine aU2 ?_
  exact sBk (k+1,b3) (by show p.length-(k+1)<p.length-k;omega) (by show k+1<=p.length;omega)
 obtain rfl:k=p.length:=om
 rw[List.take_length]
 refine Qg rfl ?_
 refine aU4 ?_
 refine o_p (Qn rfl rfl Tryz.underlying9) rfl (o_p (Qa rfl rfl rfl Xf (s.length) om om rfl) rfl (o_q (QN rfl rfl Zm (λw h=>by rw[Nat.zero_add];exact h.rd_blk (Mc:=[]) (b:=b) aPk (by rw[Nat.mul_one,Qb9 (by rw[Yq];omega),Qa5 om]) (by simp))) rfl (aU2 ?_)))
 exact rV
end Go.Proofs
namespace Gx
open Go Go.RowKit
def lsP(af pat:List UInt8)(e:DEnt):Bool:=(decide (af=[])||decide (0<QS 1 e.nm af))&&mtU QaN pat e.nm
def lsK(l:List DEnt)(af pat:List UInt8)(k:Nat):List DEnt:=(l.take k).filter (lsP af pat)
def lsR(l:List DEnt)(af pat:List UInt8)(most:Nat):List DEnt:=(l.filter (lsP af pat)).take most
def lsA(af:List UInt8)(l:List DEnt):List UInt8:=(l.getLast?.map DEnt.nm).getD af
theorem QdT(af:List UInt8)(l:List DEnt)(x:DEnt):lsA af (l++[x])=x.nm:=by
 unfold lsA;rw[List.getLast?_concat];rfl
section
variable{l:List DEnt}{af pat:List UInt8}{k most:Nat}
theorem QqD:(lsK l af pat k).length<=k:=by
 have h:=List.length_filter_le (lsP af pat) (l.take k);rw[List.length_take]at h;unfold lsK;omega
theorem QsT:lsK l af pat 0=[]:=rfl
theorem Qj4(hk:k<l.length):lsK l af pat (k+1)=if lsP af pat (nth l k)=true then lsK l af pat k++[nth l k]else lsK l af pat k:=by
 unfold lsK;rw[List.take_add_one,Xw hk,List.filter_append]
 by_cases h:lsP af pat (nth l k)=true<;>simp[h]
theorem QiS(h:(lsK l af pat k).length=most):lsR l af pat most=lsK l af pat k:=by
 unfold lsR
 have e:l.filter (lsP af pat)=lsK l af pat k++(l.drop k).filter (lsP af pat):=by
  unfold lsK;rw[<-List.filter_append,List.take_append_drop]
 rw[e,List.take_left' h]
theorem Qll(h:(lsK l af pat l.length).length<=most):lsR l af pat most=lsK l af pat l.length:=by
 unfold lsR
 have e:l.filter (lsP af pat)=lsK l af pat l.length:=by
  unfold lsK;rw[List.take_length]
 rw[e,List.take_of_length_le h]
theorem QpN(hk:k<=l.length)(h2:((lsK l af pat k).length:Int)<=(most:Int))(h:¬((k:Int)<(l.length:Int)/\((lsK l af pat k).length:Int)<(most:Int))):lsR l af pat most=lsK l af pat k:=by
 rcases Nat.lt_or_ge k l.length with h9|h9
 ·exact QiS om
 ·obtain rfl:k=l.length:=by omega
  exact Qll om
end
def Qba(af:List UInt8):Int:=if af=[]then 0 else QT af
def lsE(e:Int)(af pat:List UInt8)(most:Int):Int:=XZ e (XZ (Qba af) (XZ (ZO pat) (if 1<=most/\most<=100 then 0 else 2)))
theorem QsZ{e:Int}{af pat:List UInt8}{most:Int}(h:lsE e af pat most=0):e=0/\Qba af=0/\ZO pat=0/\1<=most/\most<=100:=by
 unfold lsE XZ at h
 grind
theorem Qk1{af:List UInt8}(h:Qba af=0)(hn:¬af=[]):QT af=0:=by
 unfold Qba at h
 rwa[if_neg hn]at h
theorem Qsg{af:List UInt8}(h:Qba af=0):af.length<=32/\∀c∈af,c.toNat<128:=by
 by_cases hn:af=[]
 ·subst hn;exact⟨by simp,λc hc=>by cases hc⟩
 ·have h1:=Qk1 h hn;exact⟨(Qf4 h1).1,Qcd h1⟩
def lsL(e:Int)(ds:List DEnt)(af pat:List UInt8)(most:Int):List DEnt:=if lsE e af pat most=0 then lsR (Qk ds) af pat most.toNat else[]
def lsN(e:Int)(ds:List DEnt)(af pat:List UInt8)(most:Int):List UInt8:=if lsE e af pat most=0 then lsA af (lsR (Qk ds) af pat most.toNat)else[]
theorem Qa0{l:List DEnt}{e:DEnt}(h:e∈Qk l):e∈l:=by
 unfold Qk at h;exact(List.mem_filter.1 h).1
end Gx
namespace Go.Proofs
open Go Go.RowKit Gx
attribute [local irreducible] Go.Calls Gx.S Gx.O Gx.D Gx.OpP Gx.OpQ Gx.OpH
set_option maxRecDepth 20000
theorem Qou:QJ Tryz.prog 81=true:=by kernel_rfl
instance:TFn Tryz.prog 81:=⟨Qou⟩
instance:TFd Tryz.prog 54 0 0 9:=⟨by kernel_rfl⟩
instance:TFd Tryz.prog 54 1 1 9:=⟨by kernel_rfl⟩
theorem Qv2:QJ Tryz.prog 76=true:=by kernel_rfl
instance:TFd Tryz.prog 54 2 2 3:=⟨by kernel_rfl⟩
instance:TFn Tryz.prog 80:=⟨by kernel_rfl⟩
theorem QqZ(a b c d:Int):XM [.int .i64 a,.int .i64 b,.int .i64 c,.int .i64 d]=XZ a (XZ b (XZ c d)):=by
  simp only[XM,XZ]
  grind
theorem Qpt(a most:Int)(af pat:List UInt8):XM [.int .i64 a,.int .i64 (Qba af),.int .i64 (ZO pat),.int .i64 (bif decide (1<=most)&&decide (most<=100)then 0 else 2)]=lsE a af pat most:=by
  rw[QqZ];unfold lsE;congr 3
  by_cases h1:1<=most<;>by_cases h2:most<=100<;>simp[h1,h2]
theorem QvB(p:List UInt8):QeC QaN p [97]=ZO p:=by
  unfold QeC;rw[if_pos (by rw[Qh3])];split
  · rename_i h;rw[h];decide
  · rfl
theorem Qs9{p s:List UInt8}(hp:ZO p=0)(hs:QT s=0):QeC QaN p s=0:=by
  unfold QeC;rw[if_pos (by rw[Qh3]),if_pos hp,hs]
theorem Qvy{a b:List UInt8}(ha:QT a=0)(hb:QT b=0):Qjx 1 a b=0:=by
  unfold Qjx;have h1:=Qd1 ha;have h2:=Qd1 hb;simp[QK,h1,h2]
theorem c76(w:World)(p:List UInt8)(hm:p.length<=1000000):CR 76 #[.string (bs p)] w (.int .i64 (ZO p)):=by
 refine eN1 Tryz.func76 Tryz.ntmps76 ?_
 refine aU6 ?_
 refine oCq rfl (λw1 h1=>c82 w1) (aU ?_)
 refine oCq rfl (λw1 h1=>c81 w1 QaN p [97] (by rw[YA];decide) hm (by decide)) (Qab ?_)
 exact rV (h:=by rw[QvB];rfl)
set_option maxHeartbeats 4000000 in
theorem c25(w:World)(co mo rm:Int)(a:Option Addr)(cap:Nat)(L:List LNd)(T:BT)(af pat:List UInt8)(most:Int)(hs:Nt w [] a L)(hB:Bd (pln L))(hkl:∀i,i<L.length->∀x∈(nth L i).es,x.key.length<=1000000)(hl2:L.length<=1000)(hT:DT (⟨co,mo,rm,pln L⟩:Tre) T)(hfl:T.flat.length<=2500)(hma:af.length<=1000000)(hmp:pat.length<=1000000):CE 25 #[.agg #[.int .i64 co,.int .i64 mo,.int .i64 rm,.slice a L.length cap],.agg #[.string (bs af),.string (bs pat),.int .i64 most]] w [] (λg:Option Addr×Nat=>.tuple #[.slice g.1 (lsL (Xa (⟨co,mo,rm,pln L⟩:Tre) T.flat).2 (T.flat.map Qe) af pat most).length g.2,.string (bs (lsN (Xa (⟨co,mo,rm,pln L⟩:Tre) T.flat).2 (T.flat.map Qe) af pat most)),.int .i64 (lsE (Xa (⟨co,mo,rm,pln L⟩:Tre) T.flat).2 af pat most)]) (λg=>True) λg=>[.own (.slice g.1 (lsL (Xa (⟨co,mo,rm,pln L⟩:Tre) T.flat).2 (T.flat.map Qe) af pat most).length g.2) 66 9 (lsL (Xa (⟨co,mo,rm,pln L⟩:Tre) T.flat).2 (T.flat.map Qe) af pat most).length ((lsL (Xa (⟨co,mo,rm,pln L⟩:Tre) T.flat).2 (T.flat.map Qe) af pat most).flatMap DEnt.vals)]:=by
 refine eN2 Tryz.func25 Tryz.ntmps25 ?_
 refine aU2 ?_
 refine oBx λb1 _=>?_
 refine oBx λb2 _=>?_
 refine aU7 ?_
 refine oCh rfl (λw1 h1=>c74 w1 co mo rm a cap L T (hs.later h1.nil) hB hkl hl2 hT) (λgO _=>aU19 ?_)
 refine Qd (L':=[(3,_),(4,_),(5,_),(6,_),(7,_),(9,_),(10,_),(27,_)]) aSx (λ_ h=>h) ?_
 refine Xy (α:=Unit) [10,28,29,30] (λ_=>[(10,.int .i64 (Qba af))]) (λ_=>HS w [] [.own (.slice gO.1 (Qc1 (⟨co,mo,rm,pln L⟩:Tre) T.flat).length gO.2) 66 9 (Qc1 (⟨co,mo,rm,pln L⟩:Tre) T.flat).length ((Qc1 (⟨co,mo,rm,pln L⟩:Tre) T.flat).flatMap DEnt.vals),.blk b2 54 3 [.string (bs af),.string (bs pat),.int .i64 most]]) (λ_=>True) ?_ ?_
 ·skip
  refine sCd rfl (λh3=>?_) λh3=>?_
  ·have hae:Qba af=QT af:=if_neg (by have hq:=h3;simpa using hq)
   refine aU3 ?_
   refine oCq rfl (λw1 h1=>c75 w1 af hma) (aU2 ?_)
   exact Qo () trivial (by rw[hae];exact aSx) (λw h=>h.ent aEt)
  have hae:Qba af=0:=if_pos (by have hq:=h3;simpa using hq)
  refine aU ?_
  exact Qo () trivial (by rw[hae];exact aSx) (λw h=>h.ent aEt)
 intro _ _
 refine aU2 ?_
 refine QH [] mixed ?_
 refine dP 0 ?_
 refine dP 1 ?_
 refine dFa 2 ?_
 refine dLd 3 [] ?_
 refine dQ 4 [] rfl (Qv rfl Qv2 rfl (λw1 h1=>c76 w1 pat hmp)) (dFa 5 ?_)
 refine dLd 6 [] ?_
 refine dQ 7 [] rfl (Qv rfl QsU rfl (λw1 h1=>c78 w1 _ _ _)) (dQ 8 [] rfl (Qv rfl Ql4 rfl (λw1 h1=>c77 w1 _ _)) (dH 9 rfl (Ql (cs:=[_,_,_,_]) rfl rfl Yw QaC rfl rfl rfl) (λb4 _=>dBa ?_)))
 refine dQ 10 [] rfl (Qv rfl QsY rfl (λw1 h1=>f62 h1 aPk (by rfl) (by rfl) (by decide))) (dP 11 ?_)
 refine dNi ?_
 refine aU5 ?_
 refine sCd rfl (λh5=>?_) λh5=>?_
 ·rw[Qpt]at h5
  have he:¬(lsE (Xa (⟨co,mo,rm,pln L⟩:Tre) T.flat).2 af pat most)=0:=by have hq:=h5;simpa using hq
  have hL:(lsL (Xa (⟨co,mo,rm,pln L⟩:Tre) T.flat).2 (T.flat.map Qe) af pat most)=[]:=if_neg he
  have hN:(lsN (Xa (⟨co,mo,rm,pln L⟩:Tre) T.flat).2 (T.flat.map Qe) af pat most)=[]:=if_neg he
  refine aU7 ?_
  exact Qm (rs:=[.tmp 4,.tmp 5,.tmp 6]) rfl (.tmp rfl (.tmp rfl (.tmp rfl (.nil)))) (λw' h'=>⟨(none,0),by rw[hL,hN,Qpt];rfl,trivial,by rw[hL];exact(h'.own_nil 66 9).ent aEt⟩)
 rw[Qpt]at h5
 have he:(lsE (Xa (⟨co,mo,rm,pln L⟩:Tre) T.flat).2 af pat most)=0:=by have hq:=h5;simpa using hq
 have hz:=QsZ he
 have hz0:=hz.1
 obtain⟨h0,hco,hall,_⟩:=Qoe hz0
 have hnm:∀e∈(Qk (T.flat.map Qe)),QT e.nm=0:=λe h9=>(QeA (QcV hall (Qa0 h9))).1
 have hL:(lsL (Xa (⟨co,mo,rm,pln L⟩:Tre) T.flat).2 (T.flat.map Qe) af pat most)=lsR (Qk (T.flat.map Qe)) af pat most.toNat:=if_pos he
 have hN:(lsN (Xa (⟨co,mo,rm,pln L⟩:Tre) T.flat).2 (T.flat.map Qe) af pat most)=lsA af (lsR (Qk (T.flat.map Qe)) af pat most.toNat):=if_pos he
 have hlo:=Qfa (l:=T.flat.map Qe)
 rw[List.length_map]at hlo
 rw[QtJ hz0]
 refine Qqw ?_
 refine oCh rfl (λw1 h1=>c79 w1 gO.1 gO.2 (T.flat.map Qe) (h1.rw_own dv9 aPk rfl) (by rw[List.length_map];omega)) (λgL _=>aU4 ?_)
 refine Qd (L':=[(3,_),(4,_),(5,_),(6,_),(11,_),(12,_),(48,_),(49,_),(50,_)]) aSx (λ_ h=>h) ?_
 refine Qp (α:=Nat×(Option Addr×Nat)) [11,12,14,15,16,17,18,50,51,52,53,54,55,56,57,58,59,60,61,62,63,64,65,66,67,68,69,70,71,72,73,74,75,76,77,78,79,80,81,82,83,84,85,86,87,88] (λy=>[(50,.int .i64 (y.1:Int)),(11,.slice y.2.1 (lsK (Qk (T.flat.map Qe)) af pat y.1).length y.2.2),(12,.string (bs (lsA af (lsK (Qk (T.flat.map Qe)) af pat y.1))))]) (λy=>HS w [] [.own (.slice y.2.1 (lsK (Qk (T.flat.map Qe)) af pat y.1).length y.2.2) 66 9 (lsK (Qk (T.flat.map Qe)) af pat y.1).length ((lsK (Qk (T.flat.map Qe)) af pat y.1).flatMap DEnt.vals),.own (.slice gL.1 (Qk (T.flat.map Qe)).length gL.2) 66 9 (Qk (T.flat.map Qe)).length ((Qk (T.flat.map Qe)).flatMap DEnt.vals),.blk b2 54 3 [.string (bs af),.string (bs pat),.int .i64 most]]) (λy=>y.1<=(Qk (T.flat.map Qe)).length/\((lsK (Qk (T.flat.map Qe)) af pat y.1).length:Int)<=most) (λy=>(Qk (T.flat.map Qe)).length-y.1) (0,(none,0)) ⟨Nat.zero_le _,by have h9:=hz.2.2.2.1;simp only[QsT,List.length_nil];omega⟩ aSx (λw h=>(h.own_nil 66 9).ent aEt) (λ⟨k,A⟩hkk=>?_)
 dsimp only at hkk ⊢
 obtain⟨hk1,hk2⟩:=hkk
 refine aU5 ?_
 refine sCd rfl (λh6=>?_) λh6=>?_
 ·have hk:k<(Qk (T.flat.map Qe)).length:=by have hq:=h6;omega
  have hst:=Qj4 (af:=af) (pat:=pat) hk
  have hkl9:=QqD (l:=(Qk (T.flat.map Qe))) (af:=af) (pat:=pat) (k:=k)
  refine Qdf (λw h=>Rw.some (show Rw DEnt.vals 9 w [] gL.1 (Qk (T.flat.map Qe))from h.rw_own dv9 aPk rfl) om) λhsm=>aU5 ?_
  refine o_p (Qa rfl rfl rfl Zr (k) om om hsm) rfl (o_q (Xx _ rfl rfl YC rfl (λw h=>Rw.rd (show Rw DEnt.vals 9 w [] gL.1 (Qk (T.flat.map Qe))from h.rw_own dv9 aPk rfl) hk)) rfl (oAl (λb7 _=>?_) Xh))
  refine Qab ?_
  refine sCd rfl (λh8=>?_) λh8=>?_
  ·have hR:lsR (Qk (T.flat.map Qe)) af pat most.toNat=(lsK (Qk (T.flat.map Qe)) af pat k):=QiS (by have hq:=h8;omega)
   refine Qg rfl ?_
   refine aU8 ?_
   exact Qm (rs:=[.tmp 4,.tmp 5,.tmp 6]) rfl (.tmp rfl (.tmp rfl (.tmp rfl (.nil)))) (λw' h'=>⟨A,by rw[hL,hN,hR,he];rfl,trivial,by rw[hL,hR];exact h'.ent aEt⟩)
  refine aU8 ?_
  refine sCd rfl (λh9=>?_) λh9=>?_
  ·have hne:¬af=[]:=by have hq:=h9;simpa using hq
   refine aU6 ?_
   refine oCq rfl (λw1 h1=>by have h9:=c80 w1 1 (nth (Qk (T.flat.map Qe)) k).nm af (by have:=(Zc (hnm (nth (Qk (T.flat.map Qe)) k) (Qt hk))).2;omega) hma;rw[Qvy (hnm (nth (Qk (T.flat.map Qe)) k) (Qt hk)) (Qk1 hz.2.1 hne),if_pos rfl]at h9;exact h9) (aU7 ?_)
   refine Qd (L':=[(3,_),(4,_),(5,_),(6,_),(11,_),(12,_),(14,_),(15,_),(48,_),(49,_),(50,_)]) aSx (λ_ h=>h) ?_
   refine aU4 ?_
   refine sCd rfl (λh10=>?_) λh10=>?_
   ·have hp:¬lsP af pat (nth (Qk (T.flat.map Qe)) k)=true:=by unfold lsP;rw[decide_eq_false hne,decide_eq_false (by have hq:=h10;omega)];simp
    rw[if_neg hp]at hst
    refine Qg rfl ?_
    refine aT2 ?_
    refine aU2 ?_
    exact Qs (k+1,A) (by dsimp only;omega) (by dsimp only;rw[hst];exact⟨om,hk2⟩) (by dsimp only;rw[hst];exact aSx) (λw h=>by dsimp only;rw[hst];exact h.ent aEt)
   have hgt:(decide (af=[])||decide (0<QS 1 (nth (Qk (T.flat.map Qe)) k).nm af))=true:=by rw[decide_eq_true (show 0<QS 1 (nth (Qk (T.flat.map Qe)) k).nm af from by have hq:=h10;omega)];simp
   refine aU2 ?_
   refine QH [] mixed ?_
   refine dQ 0 [] rfl (Qv rfl Qo1 rfl (λw1 h1=>c82 w1)) (dFa 1 ?_)
   refine dLd 2 [] ?_
   refine dFa 3 ?_
   refine dLd 4 [] ?_
   refine dQ 5 [] rfl (Qv rfl Qou rfl (λw1 h1=>by have h9:=c81 w1 QaN pat (nth (Qk (T.flat.map Qe)) k).nm (by rw[YA];decide) hmp (by have:=(Zc (hnm (nth (Qk (T.flat.map Qe)) k) (Qt hk))).2;omega);rw[Qs9 hz.2.2.1 (hnm (nth (Qk (T.flat.map Qe)) k) (Qt hk)),if_pos rfl]at h9;exact h9)) (dP 6 ?_)
   refine dP 7 ?_
   refine dP 8 ?_
   refine dP 9 ?_
   refine dP 10 ?_
   refine dNi ?_
   refine aU4 ?_
   refine sCd rfl (λh11=>?_) λh11=>?_
   ·have hp:lsP af pat (nth (Qk (T.flat.map Qe)) k)=true:=by unfold lsP;rw[hgt];have hq:=h11;simpa using hq
    rw[if_pos hp]at hst
    refine aU4 ?_
    refine o_h (Ql (cs:=[_,_,_,_,_,_,_,_,_]) rfl rfl QZ Xh rfl rfl rfl) rfl (λb12 _=>o_h (QF (n:=(lsK (Qk (T.flat.map Qe)) af pat k).length) (nth (Qk (T.flat.map Qe)) k).vals rfl rfl rfl QZ Tryz.underlying33 Xh rfl aPk (Xk aPk) rfl (dv1 _) om (by simp only[maxLen];omega)) rfl (λb13 _=>aU8 ?_))
    refine Qd (L':=[(3,_),(4,_),(5,_),(6,_),(11,_),(12,_),(48,_),(49,_),(50,_)]) aSx (λ_ h=>h) ?_
    refine aT2 ?_
    refine aU2 ?_
    exact Qs (k+1,b13) (by dsimp only;omega) (by dsimp only;rw[hst,List.length_append,List.length_singleton];exact⟨om,om⟩) (by dsimp only;rw[hst,QdT,List.length_append];exact aSx) (λw h=>by dsimp only;rw[hst,List.length_append,XU];exact h.ent aEt)
   have hp:¬lsP af pat (nth (Qk (T.flat.map Qe)) k)=true:=by unfold lsP;rw[hgt];have hq:=h11;simpa using hq
   rw[if_neg hp]at hst
   refine aT4 ?_
   refine aU2 ?_
   exact Qs (k+1,A) (by dsimp only;omega) (by dsimp only;rw[hst];exact⟨om,hk2⟩) (by dsimp only;rw[hst];exact aSx) (λw h=>by dsimp only;rw[hst];exact h.ent aEt)
  have hgt:(decide (af=[])||decide (0<QS 1 (nth (Qk (T.flat.map Qe)) k).nm af))=true:=by have hq:=h9;rw[decide_eq_true (show af=[]from by simpa using hq)];rfl
  refine aU2 ?_
  refine QH [] mixed ?_
  refine dQ 0 [] rfl (Qv rfl Qo1 rfl (λw1 h1=>c82 w1)) (dFa 1 ?_)
  refine dLd 2 [] ?_
  refine dFa 3 ?_
  refine dLd 4 [] ?_
  refine dQ 5 [] rfl (Qv rfl Qou rfl (λw1 h1=>by have h9:=c81 w1 QaN pat (nth (Qk (T.flat.map Qe)) k).nm (by rw[YA];decide) hmp (by have:=(Zc (hnm (nth (Qk (T.flat.map Qe)) k) (Qt hk))).2;omega);rw[Qs9 hz.2.2.1 (hnm (nth (Qk (T.flat.map Qe)) k) (Qt hk)),if_pos rfl]at h9;exact h9)) (dP 6 ?_)
  refine dP 7 ?_
  refine dP 8 ?_
  refine dP 9 ?_
  refine dP 10 ?_
  refine dNi ?_
  refine aU ?_
  refine Qd (L':=[(3,_),(4,_),(5,_),(6,_),(11,_),(12,_),(14,_),(17,_),(48,_),(49,_),(50,_)]) aSx (λ_ h=>h) ?_
  refine aU3 ?_
  refine sCd rfl (λh14=>?_) λh14=>?_
  ·have hp:lsP af pat (nth (Qk (T.flat.map Qe)) k)=true:=by unfold lsP;rw[hgt];have hq:=h14;simpa using hq
   rw[if_pos hp]at hst
   refine aU4 ?_
   refine o_h (Ql (cs:=[_,_,_,_,_,_,_,_,_]) rfl rfl QZ Xh rfl rfl rfl) rfl (λb15 _=>o_h (QF (n:=(lsK (Qk (T.flat.map Qe)) af pat k).length) (nth (Qk (T.flat.map Qe)) k).vals rfl rfl rfl QZ Tryz.underlying33 Xh rfl aPk (Xk aPk) rfl (dv1 _) om (by simp only[maxLen];omega)) rfl (λb16 _=>Qro ?_))
   refine aU2 ?_
   exact Qs (k+1,b16) (by dsimp only;omega) (by dsimp only;rw[hst,List.length_append,List.length_singleton];exact⟨om,om⟩) (by dsimp only;rw[hst,QdT,List.length_append];exact aSx) (λw h=>by dsimp only;rw[hst,List.length_append,XU];exact h.ent aEt)
  have hp:¬lsP af pat (nth (Qk (T.flat.map Qe)) k)=true:=by unfold lsP;rw[hgt];have hq:=h14;simpa using hq
  rw[if_neg hp]at hst
  refine aT4 ?_
  refine aU2 ?_
  exact Qs (k+1,A) (by dsimp only;omega) (by dsimp only;rw[hst];exact⟨om,hk2⟩) (by dsimp only;rw[hst];exact aSx) (λw h=>by dsimp only;rw[hst];exact h.ent aEt)
 obtain rfl:k=(Qk (T.flat.map Qe)).length:=by have hq:=h6;omega
 have hR:lsR (Qk (T.flat.map Qe)) af pat most.toNat=(lsK (Qk (T.flat.map Qe)) af pat (Qk (T.flat.map Qe)).length):=Qll om
 refine Qg rfl ?_
 refine aU8 ?_
 exact Qm (rs:=[.tmp 4,.tmp 5,.tmp 6]) rfl (.tmp rfl (.tmp rfl (.tmp rfl (.nil)))) (λw' h'=>⟨A,by rw[hL,hN,hR,he];rfl,trivial,by rw[hL,hR];exact h'.ent aEt⟩)
theorem Qtf:QJ Tryz.prog 85=true:=by kernel_rfl
set_option maxHeartbeats 4000000 in
theorem c28(w:World)(a:Option Addr)(cap:Nat)(l:List DEnt)(af pat:List UInt8)(most:Int)(hs:Rw DEnt.vals 9 w [] a l)(hm:l.length<=100000)(hnm:∀e∈l,QT e.nm=0)(ha:Qba af=0)(hp:ZO pat=0)(hmo:1<=most/\most<=100):CE 28 #[.slice a l.length cap,.agg #[.string (bs af),.string (bs pat),.int .i64 most]] w [] (λg:Option Addr×Nat=>.tuple #[.slice g.1 (lsR (Qk l) af pat most.toNat).length g.2,.string (bs (lsA af (lsR (Qk l) af pat most.toNat)))]) (λg=>True) λg=>[.own (.slice g.1 (lsR (Qk l) af pat most.toNat).length g.2) 66 9 (lsR (Qk l) af pat most.toNat).length ((lsR (Qk l) af pat most.toNat).flatMap DEnt.vals)]:=by
 have hlo:=Qfa (l:=l)
 obtain⟨hpl,_,hpc⟩:=QlW hp
 obtain⟨hal,hac⟩:=Qsg ha
 refine eN2 Tryz.func28 Tryz.ntmps28 ?_
 refine aU2 ?_
 refine oBx λb1 _=>?_
 refine aU6 ?_
 refine oCh rfl (λw1 h1=>c83 w1 a cap l (hs.later h1.nil) hm) (λgL _=>Qud ?_)
 refine Qp (α:=Nat×(Option Addr×Nat)) [7,8,9,14,15,16,17,18,19,20,21,22,23,24,25,26,27,28,29,30,31,32,33,34,35,36,37,38,39,40,41,42,43,44,45,46,47,48,49,50,51,52,53,54,55,56,57,58,59,60,61,62,63] (λy=>[(9,.int .i64 (y.1:Int)),(8,.slice y.2.1 (lsK (Qk l) af pat y.1).length y.2.2),(7,.string (bs (lsA af (lsK (Qk l) af pat y.1))))]) (λy=>HS w [] [.own (.slice y.2.1 (lsK (Qk l) af pat y.1).length y.2.2) 66 9 (lsK (Qk l) af pat y.1).length ((lsK (Qk l) af pat y.1).flatMap DEnt.vals),.own (.slice gL.1 (Qk l).length gL.2) 66 9 (Qk l).length ((Qk l).flatMap DEnt.vals),.blk b1 54 3 [.string (bs af),.string (bs pat),.int .i64 most]]) (λy=>y.1<=(Qk l).length/\((lsK (Qk l) af pat y.1).length:Int)<=most) (λy=>(Qk l).length-y.1) (0,(none,0)) ⟨Nat.zero_le _,by simp only[QsT,List.length_nil];omega⟩ aSx (λw h=>(h.own_nil 66 9).ent aEt) (λ⟨k,A⟩hkk=>?_)
 dsimp only at hkk ⊢
 obtain⟨hk1,hk2⟩:=hkk
 refine aU8 ?_
 refine Xi 6 18 24 rfl
  (λhg2 _=>by
   refine Qbf ?_
   exact oJt 6 24)
  (λhg4 _=>by
   refine aU5 ?_
   exact oJf 6 24) ?_
 refine aU ?_
 refine sCd rfl (λh6=>?_) λh6=>?_
 ·have hk:k<(Qk l).length:=by have hq:=h6;omega
  have hlt:((lsK (Qk l) af pat k).length:Int)<most:=by have hq:=h6;omega
  have hst:=Qj4 (af:=af) (pat:=pat) hk
  have hkl9:=QqD (l:=(Qk l)) (af:=af) (pat:=pat) (k:=k)
  refine Qdf (λw h=>Rw.some (show Rw DEnt.vals 9 w [] gL.1 (Qk l)from h.rw_own dv9 aPk rfl) om) λhsm=>aU4 ?_
  refine QH [] mixed ?_
  refine dFa 0 ?_
  refine dLd 1 [] ?_
  refine dP 2 ?_
  refine dP 3 ?_
  apply QI 30
  ·exact rfl
  ·intro hg7
   have hs8:=hg7;try simp only[dT]at hs8
   refine dOf 4 30 hg7 ?_
   refine dOf 5 30 hg7 ?_
   refine dOf 6 30 hg7 ?_
   refine dOf 7 30 hg7 ?_
   refine dOf 8 30 hg7 ?_
   refine dOf 9 30 hg7 ?_
   refine dOf 10 30 hg7 ?_
   refine dOf 11 30 hg7 ?_
   refine dOf 12 30 hg7 ?_
   refine dV 13 rfl (QE rfl rfl hg7 rfl) (dP 14 ?_)
   apply QI 41
   ·exact rfl
   ·intro hg9
    have hs10:=hg9;skip
    refine dQo 15 41 [] hg9 rfl rfl rfl (Qv rfl Qoc rfl (λw1 h1=>c86 w1)) ?_
    refine dFo 16 41 hg9 ?_
    refine dQo 17 41 [] hg9 rfl rfl rfl (Yj rfl rfl X1 aPk rfl) ?_
    refine dPo 18 41 hg9 ?_
    refine dPo 19 41 hg9 ?_
    refine dVo 20 41 hg9 rfl rfl rfl (Qa rfl rfl rfl QZ (k) om om hsm) ?_
    refine dFo 21 41 hg9 ?_
    refine dQo 22 41 [] hg9 rfl rfl rfl (QN rfl rfl X1 ((λw h=>(show Rw DEnt.vals 9 w [] gL.1 (Qk l)from h.rw_own dv9 aPk rfl).rdj 0 hk rfl))) ?_
    refine dQo 23 41 [] hg9 rfl rfl rfl (Qv rfl Qtf rfl (λw1 h1=>by have h9:=Zc (hnm (nth (Qk l) k) (Qa0 (Qt hk)));exact c85 w1 QaN pat (nth (Qk l) k).nm YA hpc h9.1 om om)) ?_
    refine dV 24 rfl (QE rfl rfl hg9 rfl) ?_
    refine Qz (show _=Value.bool (lsP af pat (nth (Qk l) k))from by unfold lsP;congr 1;simp_all<;>(intro _;omega)) (dNi ?_)
    refine sCd rfl (λh11=>?_) λh11=>?_
    ·have hp1:lsP af pat (nth (Qk l) k)=true:=h11
     rw[if_pos hp1]at hst
     refine Qd (L':=[(0,_),(1,_),(3,_),(4,_),(5,_),(6,_),(7,_),(8,_),(9,_),(10,_),(11,_),(12,_),(13,_)]) aSx (λ_ h=>h) ?_
     refine Qfc [.own (.slice gL.1 (Qk l).length gL.2) 66 9 (Qk l).length ((Qk l).flatMap DEnt.vals),.blk b1 54 3 [.string (bs af),.string (bs pat),.int .i64 most]] [] mixed ?_
     refine dP 0 ?_
     refine dP 1 ?_
     refine dP 2 ?_
     refine dV 3 rfl (Qa rfl rfl rfl QZ (k) om om hsm) (dQ 4 [] rfl (Xx _ rfl rfl YC rfl (λw h=>Rw.rd (show Rw DEnt.vals 9 w [] gL.1 (Qk l)from h.rw_own dv9 aPk rfl) hk)) (dP 7 ?_))
     refine dP 8 ?_
     refine dV 9 rfl (Qa rfl rfl rfl QZ (k) om om hsm) (dFa 10 ?_)
     refine dQ 11 [] rfl (QN rfl rfl X1 ((λw h=>(show Rw DEnt.vals 9 w [] gL.1 (Qk l)from h.rw_own dv9 aPk rfl).rdj 0 hk rfl))) (dH 5 rfl (Ql (cs:=[_,_,_,_,_,_,_,_,_]) rfl rfl QZ Xh rfl rfl rfl) (λb12 _=>dH 6 rfl (QF (n:=(lsK (Qk l) af pat k).length) (nth (Qk l) k).vals rfl rfl rfl QZ Tryz.underlying33 Xh rfl aPk (Xk aPk) rfl (dv1 _) om (by simp only[maxLen];omega)) (λb13 _=>dP 12 ?_)))
     refine dP 13 ?_
     refine dNi ?_
     refine aT4 ?_
     refine aU2 ?_
     exact Qs (k+1,b13) (by dsimp only;omega) (by dsimp only;rw[hst,List.length_append,List.length_singleton];exact⟨om,om⟩) (by dsimp only;rw[hst,QdT,List.length_append];exact aSx) (λw h=>by dsimp only;rw[hst,List.length_append,XU];exact h.ent aEt)
    have hp1:¬lsP af pat (nth (Qk l) k)=true:=by have hq:=h11;simpa using hq
    rw[if_neg hp1]at hst
    refine aU2 ?_
    refine Qd (L':=[(0,_),(1,_),(3,_),(4,_),(5,_),(6,_),(7,_),(8,_),(9,_),(10,_),(11,_),(12,_),(13,_)]) aSx (λ_ h=>h) ?_
    refine aT3 ?_
    refine aU2 ?_
    exact Qs (k+1,A) (by dsimp only;omega) (by dsimp only;rw[hst];exact⟨om,hk2⟩) (by dsimp only;rw[hst];exact aSx) (λw h=>by dsimp only;rw[hst];exact h.ent aEt)
   intro hg14
   have hs15:=hg14;skip
   exfalso;simp at hg14
  intro hg16
  have hs17:=hg16;try simp only[dN]at hs17
  refine dPo 4 30 hg16 ?_
  refine dPo 5 30 hg16 ?_
  refine dVo 6 30 hg16 rfl rfl rfl (Qa rfl rfl rfl QZ (k) om om hsm) ?_
  refine dFo 7 30 hg16 ?_
  refine dQo 8 30 [] hg16 rfl rfl rfl (QN rfl rfl X1 ((λw h=>(show Rw DEnt.vals 9 w [] gL.1 (Qk l)from h.rw_own dv9 aPk rfl).rdj 0 hk rfl))) ?_
  refine dFo 9 30 hg16 ?_
  refine dQo 10 30 [] hg16 rfl rfl rfl (Yj rfl rfl X1 aPk rfl) ?_
  refine dQo 11 30 [] hg16 rfl rfl rfl (Qv rfl Qkg rfl (λw1 h1=>by have h9:=Zc (hnm (nth (Qk l) k) (Qa0 (Qt hk)));exact c84 w1 1 (nth (Qk l) k).nm af (by decide) (keyE_ok (Qd1 (hnm (nth (Qk l) k) (Qa0 (Qt hk))))) (keyE_ok (Qd1 (Qk1 ha (by have hq:=hg16;simpa using hq)))) om om)) ?_
  refine dPo 12 30 hg16 ?_
  refine dV 13 rfl (QC rfl rfl hg16 rfl) (dP 14 ?_)
  apply QI 41
  ·exact rfl
  ·intro hg18
   have hs19:=hg18;try simp only[dT]at hs19
   refine dQo 15 41 [] hg18 rfl rfl rfl (Qv rfl Qoc rfl (λw1 h1=>c86 w1)) ?_
   refine dFo 16 41 hg18 ?_
   refine dQo 17 41 [] hg18 rfl rfl rfl (Yj rfl rfl X1 aPk rfl) ?_
   refine dPo 18 41 hg18 ?_
   refine dPo 19 41 hg18 ?_
   refine dVo 20 41 hg18 rfl rfl rfl (Qa rfl rfl rfl QZ (k) om om hsm) ?_
   refine dFo 21 41 hg18 ?_
   refine dQo 22 41 [] hg18 rfl rfl rfl (QN rfl rfl X1 ((λw h=>(show Rw DEnt.vals 9 w [] gL.1 (Qk l)from h.rw_own dv9 aPk rfl).rdj 0 hk rfl))) ?_
   refine dQo 23 41 [] hg18 rfl rfl rfl (Qv rfl Qtf rfl (λw1 h1=>by have h9:=Zc (hnm (nth (Qk l) k) (Qa0 (Qt hk)));exact c85 w1 QaN pat (nth (Qk l) k).nm YA hpc h9.1 om om)) ?_
   refine dV 24 rfl (QE rfl rfl hg18 rfl) ?_
   refine Qz (show _=Value.bool (lsP af pat (nth (Qk l) k))from by unfold lsP;congr 1;simp_all<;>(intro _;omega)) (dNi ?_)
   refine sCd rfl (λh20=>?_) λh20=>?_
   ·have hp1:lsP af pat (nth (Qk l) k)=true:=h20
    rw[if_pos hp1]at hst
    refine Qd (L':=[(0,_),(1,_),(3,_),(4,_),(5,_),(6,_),(7,_),(8,_),(9,_),(10,_),(11,_),(12,_),(13,_)]) aSx (λ_ h=>h) ?_
    refine Qfc [.own (.slice gL.1 (Qk l).length gL.2) 66 9 (Qk l).length ((Qk l).flatMap DEnt.vals),.blk b1 54 3 [.string (bs af),.string (bs pat),.int .i64 most]] [] mixed ?_
    refine dP 0 ?_
    refine dP 1 ?_
    refine dP 2 ?_
    refine dV 3 rfl (Qa rfl rfl rfl QZ (k) om om hsm) (dQ 4 [] rfl (Xx _ rfl rfl YC rfl (λw h=>Rw.rd (show Rw DEnt.vals 9 w [] gL.1 (Qk l)from h.rw_own dv9 aPk rfl) hk)) (dP 7 ?_))
    refine dP 8 ?_
    refine dV 9 rfl (Qa rfl rfl rfl QZ (k) om om hsm) (dFa 10 ?_)
    refine dQ 11 [] rfl (QN rfl rfl X1 ((λw h=>(show Rw DEnt.vals 9 w [] gL.1 (Qk l)from h.rw_own dv9 aPk rfl).rdj 0 hk rfl))) (dH 5 rfl (Ql (cs:=[_,_,_,_,_,_,_,_,_]) rfl rfl QZ Xh rfl rfl rfl) (λb21 _=>dH 6 rfl (QF (n:=(lsK (Qk l) af pat k).length) (nth (Qk l) k).vals rfl rfl rfl QZ Tryz.underlying33 Xh rfl aPk (Xk aPk) rfl (dv1 _) om (by simp only[maxLen];omega)) (λb22 _=>dP 12 ?_)))
    refine dP 13 ?_
    refine dNi ?_
    refine aT4 ?_
    refine aU2 ?_
    exact Qs (k+1,b22) (by dsimp only;omega) (by dsimp only;rw[hst,List.length_append,List.length_singleton];exact⟨om,om⟩) (by dsimp only;rw[hst,QdT,List.length_append];exact aSx) (λw h=>by dsimp only;rw[hst,List.length_append,XU];exact h.ent aEt)
   have hp1:¬lsP af pat (nth (Qk l) k)=true:=by have hq:=h20;simpa using hq
   rw[if_neg hp1]at hst
   refine aU2 ?_
   refine Qd (L':=[(0,_),(1,_),(3,_),(4,_),(5,_),(6,_),(7,_),(8,_),(9,_),(10,_),(11,_),(12,_),(13,_)]) aSx (λ_ h=>h) ?_
   refine aT3 ?_
   refine aU2 ?_
   exact Qs (k+1,A) (by dsimp only;omega) (by dsimp only;rw[hst];exact⟨om,hk2⟩) (by dsimp only;rw[hst];exact aSx) (λw h=>by dsimp only;rw[hst];exact h.ent aEt)
  intro hg23
  have hs24:=hg23;try simp only[dN]at hs24
  refine dOf 15 41 hg23 ?_
  refine dOf 16 41 hg23 ?_
  refine dOf 17 41 hg23 ?_
  refine dOf 18 41 hg23 ?_
  refine dOf 19 41 hg23 ?_
  refine dOf 20 41 hg23 ?_
  refine dOf 21 41 hg23 ?_
  refine dOf 22 41 hg23 ?_
  refine dOf 23 41 hg23 ?_
  refine dV 24 rfl (QC rfl rfl hg23 rfl) ?_
  refine Qz (show _=Value.bool (lsP af pat (nth (Qk l) k))from by unfold lsP;congr 1;simp_all<;>(intro _;omega)) (dNi ?_)
  refine sCd rfl (λh25=>?_) λh25=>?_
  ·have hp1:lsP af pat (nth (Qk l) k)=true:=h25
   rw[if_pos hp1]at hst
   refine Qd (L':=[(0,_),(1,_),(3,_),(4,_),(5,_),(6,_),(7,_),(8,_),(9,_),(10,_),(11,_),(12,_),(13,_)]) aSx (λ_ h=>h) ?_
   refine Qfc [.own (.slice gL.1 (Qk l).length gL.2) 66 9 (Qk l).length ((Qk l).flatMap DEnt.vals),.blk b1 54 3 [.string (bs af),.string (bs pat),.int .i64 most]] [] mixed ?_
   refine dP 0 ?_
   refine dP 1 ?_
   refine dP 2 ?_
   refine dV 3 rfl (Qa rfl rfl rfl QZ (k) om om hsm) (dQ 4 [] rfl (Xx _ rfl rfl YC rfl (λw h=>Rw.rd (show Rw DEnt.vals 9 w [] gL.1 (Qk l)from h.rw_own dv9 aPk rfl) hk)) (dP 7 ?_))
   refine dP 8 ?_
   refine dV 9 rfl (Qa rfl rfl rfl QZ (k) om om hsm) (dFa 10 ?_)
   refine dQ 11 [] rfl (QN rfl rfl X1 ((λw h=>(show Rw DEnt.vals 9 w [] gL.1 (Qk l)from h.rw_own dv9 aPk rfl).rdj 0 hk rfl))) (dH 5 rfl (Ql (cs:=[_,_,_,_,_,_,_,_,_]) rfl rfl QZ Xh rfl rfl rfl) (λb26 _=>dH 6 rfl (QF (n:=(lsK (Qk l) af pat k).length) (nth (Qk l) k).vals rfl rfl rfl QZ Tryz.underlying33 Xh rfl aPk (Xk aPk) rfl (dv1 _) om (by simp only[maxLen];omega)) (λb27 _=>dP 12 ?_)))
   refine dP 13 ?_
   refine dNi ?_
   refine aT4 ?_
   refine aU2 ?_
   exact Qs (k+1,b27) (by dsimp only;omega) (by dsimp only;rw[hst,List.length_append,List.length_singleton];exact⟨om,om⟩) (by dsimp only;rw[hst,QdT,List.length_append];exact aSx) (λw h=>by dsimp only;rw[hst,List.length_append,XU];exact h.ent aEt)
  have hp1:¬lsP af pat (nth (Qk l) k)=true:=by have hq:=h25;simpa using hq
  rw[if_neg hp1]at hst
  refine aU2 ?_
  refine Qd (L':=[(0,_),(1,_),(3,_),(4,_),(5,_),(6,_),(7,_),(8,_),(9,_),(10,_),(11,_),(12,_),(13,_)]) aSx (λ_ h=>h) ?_
  refine aT3 ?_
  refine aU2 ?_
  exact Qs (k+1,A) (by dsimp only;omega) (by dsimp only;rw[hst];exact⟨om,hk2⟩) (by dsimp only;rw[hst];exact aSx) (λw h=>by dsimp only;rw[hst];exact h.ent aEt)
 have hR:(lsR (Qk l) af pat most.toNat)=(lsK (Qk l) af pat k):=QpN hk1 om (by have hq:=h6;omega)
 refine Qg rfl ?_
 refine aU7 ?_
 exact Qm (rs:=[.tmp 4,.tmp 5]) rfl (.tmp rfl (.tmp rfl (.nil))) (λw' h'=>⟨A,by rw[hR];rfl,trivial,by rw[hR];exact h'.ent aEt⟩)
set_option maxHeartbeats 2000000 in
theorem c30(w:World)(a b:Option Addr)(ca cb:Nat)(l:List DEnt)(ha:Rw DEnt.vals 9 w [] a l)(hb:Rw DEnt.vals 9 w [] b l)(hm:l.length<=1000000):CR 30 #[.slice a l.length ca,.slice b l.length cb] w (.bool true):=by
 refine eN2 Tryz.func30 Tryz.ntmps30 ?_
 refine Qas ?_
 refine sCd rfl (λh1=>?_) λh1=>?_
 ·exfalso;first|omega|(simp at h1;done)|(simp_all;done)
 refine aU7 ?_
 refine Qp (α:=Nat) [4,5,11,12,13,14,15,16,17,18,19,20,21,22,23,24,25] (λk=>[(5,.int .i64 (k:Int))]) (λ_=>HS w [] []) (λk=>k<=l.length) (λk=>l.length-k) 0 (by simp) aSx (λw h=>h.ent aEt) (λk hk=>?_)
 refine aU8 ?_
 refine sCd rfl (λh2=>?_) λh2=>?_
 ·have hkl:k<l.length:=by omega
  refine aU4 ?_
  refine QH [] mixed ?_
  refine dP 0 ?_
  refine dP 1 ?_
  refine dV 2 rfl (Qa rfl rfl rfl QZ (k) om om (Rw.some ha om)) (dQ 3 [] rfl (Qq _ rfl rfl YC rfl (Rw.rd ha hkl)) (dP 4 ?_))
  refine dP 5 ?_
  refine dV 6 rfl (Qa rfl rfl rfl QZ (k) om om (Rw.some hb om)) (dQ 7 [] rfl (Qq _ rfl rfl YC rfl (Rw.rd hb hkl)) (dV 8 rfl (QkS rfl rfl rfl QtX (by rfl) (by rfl) (by rfl)) (dNi ?_)))
  refine sCd rfl (λh3=>?_) λh3=>?_
  ·exfalso;first|omega|(simp at h3;done)|(simp_all;done)
  refine aT5 ?_
  refine aU2 ?_
  exact sBk (k+1)
 refine Qg rfl ?_
 refine aU4 ?_
 exact rV
instance:TSz Tryz.prog 54 3 true:=⟨by kernel_rfl⟩
theorem QvT:QJ Tryz.prog 25=true:=by kernel_rfl
instance:TFn Tryz.prog 15:=⟨by kernel_rfl⟩
instance:TFn Tryz.prog 26:=⟨by kernel_rfl⟩
theorem QvI:QJ Tryz.prog 28=true:=by kernel_rfl
instance:TFn Tryz.prog 30:=⟨by kernel_rfl⟩
theorem c5z(w:World)(co mo rm:Int)(a:Option Addr)(cap:Nat)(L:List LNd)(af pat:List UInt8)(most:Int)(hs:Nt w [] a L)(hml:L.length<=9223372036854775807)(hz:¬(ZT (pln L)=true/\af.length<=60/\pat.length<=80)):CR 5 #[.agg #[.int .i64 co,.int .i64 mo,.int .i64 rm,.slice a L.length cap],.agg #[.string (bs af),.string (bs pat),.int .i64 most]] w (.bool true):=by
 refine eN2 Tryz.func5 Tryz.ntmps5 ?_
 refine aU2 ?_
 refine oBx λb1 _=>?_
 refine oBx λb2 _=>?_
 refine aU5 ?_
 refine oCq rfl (λw1 h1=>c11 w1) (aU2 ?_)
 refine sCd rfl (λh3=>?_) λh3=>?_
 ·exfalso;simp at h3
 refine aU5 ?_
 refine oCq rfl (λw1 h1=>c12 w1 co mo rm a cap L (hs.later h1.nil) hml) (aU2 ?_)
 refine oOr 5 16 21 rfl
  (λhg4 _=>by
   refine aU5 ?_
   refine o_p (Qn rfl rfl Tryz.underlying9) rfl (aU2 ?_)
   exact oJf 5 21)
  (λhg6 _=>by
   refine aU4 ?_
   exact oJt 5 21) ?_
 refine aU ?_
 refine oOr 5 22 27 rfl
  (λhg8 _=>by
   refine aU5 ?_
   refine o_p (Qn rfl rfl Tryz.underlying9) rfl (aU2 ?_)
   exact oJf 5 27)
  (λhg10 _=>by
   refine aU4 ?_
   exact oJt 5 27) ?_
 refine aU ?_
 refine sCd rfl (λh12=>?_) λh12=>?_
 ·refine aU4 ?_
  exact rV
 exfalso;have hq:=h12;simp at hq;exact hz ⟨hq.1.1,om,om⟩
set_option maxHeartbeats 8000000 in
theorem c5w(w:World)(co mo rm:Int)(a:Option Addr)(cap:Nat)(L:List LNd)(T:BT)(af pat:List UInt8)(most:Int)(hs:Nt w [] a L)(hfw:ZT (pln L)=true)(hal:af.length<=60)(hpl:pat.length<=80)(hT:DT (⟨co,mo,rm,pln L⟩:Tre) T)(hfl:T.flat.length<=2500):CR 5 #[.agg #[.int .i64 co,.int .i64 mo,.int .i64 rm,.slice a L.length cap],.agg #[.string (bs af),.string (bs pat),.int .i64 most]] w (.bool true):=by
 have hB:=QrZ hfw
 have hkl:=Qhq hfw
 have hsm:=Qrd hfw
 have hle:=hB.len
 rw[Qh]at hle
 have hml:L.length<=9223372036854775807:=om
 refine eN2 Tryz.func5 Tryz.ntmps5 ?_
 refine aU2 ?_
 refine oBx λb1 _=>?_
 refine oBx λb2 _=>?_
 refine aU5 ?_
 refine oCq rfl (λw1 h1=>c11 w1) (aU2 ?_)
 refine sCd rfl (λh3=>?_) λh3=>?_
 ·exfalso;simp at h3
 refine aU5 ?_
 refine oCq rfl (λw1 h1=>c12 w1 co mo rm a cap L (hs.later h1.nil) hml) (aU2 ?_)
 refine oOr 5 16 21 rfl
  (λhg4 _=>by
   refine aU5 ?_
   refine o_p (Qn rfl rfl Tryz.underlying9) rfl (aU2 ?_)
   exact oJf 5 21)
  (λhg6 _=>by
   refine aU4 ?_
   exact oJt 5 21) ?_
 refine aU ?_
 refine oOr 5 22 27 rfl
  (λhg8 _=>by
   refine aU5 ?_
   refine o_p (Qn rfl rfl Tryz.underlying9) rfl (aU2 ?_)
   exact oJf 5 27)
  (λhg10 _=>by
   refine aU4 ?_
   exact oJt 5 27) ?_
 refine aU ?_
 refine sCd rfl (λh12=>?_) λh12=>?_
 ·exfalso;have hq:=h12;simp[hfw]at hq;omega
 refine aU2 ?_
 refine QH [] mixed ?_
 refine dLn 0 [] ?_
 refine dLn 2 [] ?_
 refine dH 1 rfl (QaJ rfl Qvi rfl (λw1 h1=>c14 w1 co mo rm a cap L (hs.later h1.nil) hle hsm)) (λ⟨⟨ga1,gc1⟩,LC1⟩hLC1=>dBa ?_)
 refine dH 3 rfl (QaJ rfl QvT rfl (λw1 h1=>by have h9:=c25 w1 co mo rm ga1 gc1 LC1 T af pat most (HS.nt h1 aPk) (by rw[hLC1];exact hB) (Qhq (by rw[hLC1];exact hfw)) (by have h8:=congrArg List.length (show pln LC1=pln L from hLC1);rw[Qh,Qh]at h8;omega) (by rw[hLC1];exact hT) hfl om om;rw[hLC1]at h9;exact h9)) (λgN _=>dBa ?_)
 refine dP 4 ?_
 refine dP 5 ?_
 refine dP 6 ?_
 refine dP 7 ?_
 refine dP 8 ?_
 refine dP 9 ?_
 refine dP 10 ?_
 refine dNi ?_
 refine aU3 ?_
 refine oCq rfl (λw1 h1=>c15 w1 co mo rm a cap L T (hs.later h1.nil) hB hkl hle hT) (aU8 ?_)
 refine Xi 4 40 44 rfl
  (λhg13 _=>by
   refine aU6 ?_
   exact oJt 4 44)
  (λhg15 _=>by
   refine aU3 ?_
   exact oJf 4 44) ?_
 refine aU ?_
 refine Qd (L':=[(2,_),(3,_),(4,_),(5,_),(6,_),(7,_),(8,_),(44,_)]) aSx (λ_ h=>h) ?_
 refine Xy (α:=Unit) [8,45,46,47] (λ_=>[(8,.int .i64 (XZ (Xa (⟨co,mo,rm,pln L⟩:Tre) T.flat).2 (Qba af)))]) (λ_=>HS w [] [.blk b1 24 4 [.int .i64 co,.int .i64 mo,.int .i64 rm,.slice a L.length cap],.blk b2 54 3 [.string (bs af),.string (bs pat),.int .i64 most],.own (.slice gN.1 (lsL (Xa (⟨co,mo,rm,pln L⟩:Tre) T.flat).2 (T.flat.map Qe) af pat most).length gN.2) 66 9 (lsL (Xa (⟨co,mo,rm,pln L⟩:Tre) T.flat).2 (T.flat.map Qe) af pat most).length ((lsL (Xa (⟨co,mo,rm,pln L⟩:Tre) T.flat).2 (T.flat.map Qe) af pat most).flatMap DEnt.vals)]) (λ_=>True) ?_ ?_
 ·skip
  refine sCd rfl (λh17=>?_) λh17=>?_
  ·have hc2:(XZ (Xa (⟨co,mo,rm,pln L⟩:Tre) T.flat).2 (Qba af))=QT af:=by have hq:=h17;unfold XZ Qba;grind
   refine aU3 ?_
   refine oCq rfl (λw1 h1=>c16 w1 af om) (aU2 ?_)
   exact Qo () trivial (by rw[hc2];exact aSx) (λw h=>h.ent aEt)
  have hc2:(XZ (Xa (⟨co,mo,rm,pln L⟩:Tre) T.flat).2 (Qba af))=(Xa (⟨co,mo,rm,pln L⟩:Tre) T.flat).2:=by have hq:=h17;unfold XZ Qba;grind
  refine aU ?_
  exact Qo () trivial (by rw[hc2];exact aSx) (λw h=>h.ent aEt)
 intro _ _
 refine aU6 ?_
 refine Xy (α:=Unit) [8,50,51,52] (λ_=>[(8,.int .i64 (XZ (Xa (⟨co,mo,rm,pln L⟩:Tre) T.flat).2 (XZ (Qba af) (ZO pat))))]) (λ_=>HS w [] [.blk b1 24 4 [.int .i64 co,.int .i64 mo,.int .i64 rm,.slice a L.length cap],.blk b2 54 3 [.string (bs af),.string (bs pat),.int .i64 most],.own (.slice gN.1 (lsL (Xa (⟨co,mo,rm,pln L⟩:Tre) T.flat).2 (T.flat.map Qe) af pat most).length gN.2) 66 9 (lsL (Xa (⟨co,mo,rm,pln L⟩:Tre) T.flat).2 (T.flat.map Qe) af pat most).length ((lsL (Xa (⟨co,mo,rm,pln L⟩:Tre) T.flat).2 (T.flat.map Qe) af pat most).flatMap DEnt.vals)]) (λ_=>True) ?_ ?_
 ·skip
  refine sCd rfl (λh18=>?_) λh18=>?_
  ·have hc3:(XZ (Xa (⟨co,mo,rm,pln L⟩:Tre) T.flat).2 (XZ (Qba af) (ZO pat)))=ZO pat:=by have hq:=h18;unfold XZ at hq ⊢;grind
   refine aU3 ?_
   refine oCq rfl (λw1 h1=>c26 w1 pat om) (aU2 ?_)
   exact Qo () trivial (by rw[hc3];exact aSx) (λw h=>h.ent aEt)
  have hc3:(XZ (Xa (⟨co,mo,rm,pln L⟩:Tre) T.flat).2 (XZ (Qba af) (ZO pat)))=(XZ (Xa (⟨co,mo,rm,pln L⟩:Tre) T.flat).2 (Qba af)):=by have hq:=h18;unfold XZ at hq ⊢;grind
  refine aU ?_
  exact Qo () trivial (by rw[hc3];exact aSx) (λw h=>h.ent aEt)
 intro _ _
 refine aU6 ?_
 refine Xi 5 55 60 rfl
  (λhg19 _=>by
   refine aU5 ?_
   refine oCq rfl (λw1 h1=>c27 w1 most 1 100) (aU2 ?_)
   exact oJt 5 60)
  (λhg21 _=>by
   refine aU4 ?_
   exact oJf 5 60) ?_
 refine aU ?_
 refine Xy (α:=Unit) [8] (λ_=>[(8,.int .i64 (lsE (Xa (⟨co,mo,rm,pln L⟩:Tre) T.flat).2 af pat most))]) (λ_=>HS w [] [.blk b1 24 4 [.int .i64 co,.int .i64 mo,.int .i64 rm,.slice a L.length cap],.blk b2 54 3 [.string (bs af),.string (bs pat),.int .i64 most],.own (.slice gN.1 (lsL (Xa (⟨co,mo,rm,pln L⟩:Tre) T.flat).2 (T.flat.map Qe) af pat most).length gN.2) 66 9 (lsL (Xa (⟨co,mo,rm,pln L⟩:Tre) T.flat).2 (T.flat.map Qe) af pat most).length ((lsL (Xa (⟨co,mo,rm,pln L⟩:Tre) T.flat).2 (T.flat.map Qe) af pat most).flatMap DEnt.vals)]) (λ_=>True) ?_ ?_
 ·skip
  refine sCd rfl (λh23=>?_) λh23=>?_
  ·have hc4:(lsE (Xa (⟨co,mo,rm,pln L⟩:Tre) T.flat).2 af pat most)=2:=by have hq:=h23;unfold lsE;unfold XZ at hq ⊢;(try simp at hq);grind
   refine aU3 ?_
   exact Qo () trivial (by rw[hc4];exact aSx) (λw h=>h.ent aEt)
  have hc4:(lsE (Xa (⟨co,mo,rm,pln L⟩:Tre) T.flat).2 af pat most)=(XZ (Xa (⟨co,mo,rm,pln L⟩:Tre) T.flat).2 (XZ (Qba af) (ZO pat))):=by have hq:=h23;unfold lsE;unfold XZ at hq ⊢;(try simp at hq);grind
  refine aU ?_
  exact Qo () trivial (by rw[hc4];exact aSx) (λw h=>h.ent aEt)
 intro _ _
 refine aU6 ?_
 refine sCd rfl (λh24=>?_) λh24=>?_
 ·have he:¬(lsE (Xa (⟨co,mo,rm,pln L⟩:Tre) T.flat).2 af pat most)=0:=by have hq:=h24;simpa using hq
  have hL:(lsL (Xa (⟨co,mo,rm,pln L⟩:Tre) T.flat).2 (T.flat.map Qe) af pat most)=[]:=if_neg he
  have hN:(lsN (Xa (⟨co,mo,rm,pln L⟩:Tre) T.flat).2 (T.flat.map Qe) af pat most)=[]:=if_neg he
  refine aU6 ?_
  refine Xi 4 66 70 rfl
   (λhg25 _=>by
    refine aU6 ?_
    exact oJt 4 70)
   (λhg27 _=>by
    refine aU3 ?_
    exact oJf 4 70) ?_
  refine aU ?_
  refine Xi 3 71 74 rfl
   (λhg29 _=>by
    refine aU4 ?_
    exact oJt 3 74)
   (λhg31 _=>by
    refine aU2 ?_
    exact oJf 3 74) ?_
  refine aU2 ?_
  exact rV (h:=by first|rfl|(rw[hL,hN];simp[QA];done)|(simp[QA,he];done))
 have he:(lsE (Xa (⟨co,mo,rm,pln L⟩:Tre) T.flat).2 af pat most)=0:=by have hq:=h24;simpa using hq
 have hz:=QsZ he
 have hz0:=hz.1
 obtain⟨h0,hco,hall,_⟩:=Qoe hz0
 have hle9:∀e∈(T.flat.map Qe),QT e.nm=0:=λe h9=>(QeA (QcV hall h9)).1
 have hL:(lsL (Xa (⟨co,mo,rm,pln L⟩:Tre) T.flat).2 (T.flat.map Qe) af pat most)=(lsR (Qk (T.flat.map Qe)) af pat most.toNat):=if_pos he
 have hN:(lsN (Xa (⟨co,mo,rm,pln L⟩:Tre) T.flat).2 (T.flat.map Qe) af pat most)=lsA af (lsR (Qk (T.flat.map Qe)) af pat most.toNat):=if_pos he
 rw[hL,hN]
 have hlo:=Qfa (l:=(T.flat.map Qe))
 rw[List.length_map]at hlo
 have hRl:(lsR (Qk (T.flat.map Qe)) af pat most.toNat).length<=2500:=by unfold lsR;rw[List.length_take];have h9:=List.length_filter_le (lsP af pat) (Qk (T.flat.map Qe));omega
 refine aU2 ?_
 refine QH [] mixed ?_
 refine dLn 0 [] ?_
 refine dLn 2 [] ?_
 refine dH 1 rfl (QaJ rfl QvK rfl (λw1 h1=>c29 w1 co mo rm a cap L T (hs.later h1.nil) hB hkl hle hT hz0)) (λgE _=>dBa ?_)
 refine dH 3 rfl (QaJ rfl QvI rfl (λw1 h1=>c28 w1 gE.1 gE.2 (T.flat.map Qe) af pat most (h1.rw_own dv9 aPk rfl) (by rw[List.length_map];omega) hle9 hz.2.1 hz.2.2.1 hz.2.2.2)) (λgM _=>dBa ?_)
 refine dP 4 ?_
 refine dP 5 ?_
 refine dP 6 ?_
 refine dP 7 ?_
 refine dP 8 ?_
 refine dNi ?_
 refine aU5 ?_
 refine Xi 4 84 88 rfl
  (λhg33 _=>by
   refine aU5 ?_
   refine oCq rfl (λw1 h1=>c30 w1 gN.1 gM.1 gN.2 gM.2 (lsR (Qk (T.flat.map Qe)) af pat most.toNat) (h1.rw_own dv9 aPk rfl) (h1.rw_own dv9 aPk rfl) (by have h9:=hRl;omega)) ?_
   exact oJt 4 88)
  (λhg35 _=>by
   refine aU3 ?_
   exact oJf 4 88) ?_
 refine aU ?_
 refine Xi 4 89 93 rfl
  (λhg37 _=>by
   refine aU6 ?_
   exact oJt 4 93)
  (λhg39 _=>by
   refine aU3 ?_
   exact oJf 4 93) ?_
 refine aU2 ?_
 exact rV (h:=by first|rfl|(rw[hL,hN];simp[QA];done)|(simp[QA,he];done))
theorem c5(w:World)(co mo rm:Int)(a:Option Addr)(cap:Nat)(L:List LNd)(af pat:List UInt8)(most:Int)(hs:Nt w [] a L)(hml:L.length<=9223372036854775807):CR 5 #[.agg #[.int .i64 co,.int .i64 mo,.int .i64 rm,.slice a L.length cap],.agg #[.string (bs af),.string (bs pat),.int .i64 most]] w (.bool true):=by
  by_cases hz:ZT (pln L)=true/\af.length<=60/\pat.length<=80
  · obtain⟨T,hT,_,hfl⟩:=QuK (t:=⟨co,mo,rm,pln L⟩) hz.1;exact c5w w co mo rm a cap L T af pat most hs hz.1 hz.2.1 hz.2.2 hT hfl
  · exact c5z w co mo rm a cap L af pat most hs hml hz
end Go.Proofs
namespace Go.Proofs.YtmhkomoiamljeaaGreatDoor
open Go Go.RowKit Go.ChangeShapes Go.WideShapes Go.ChangeAt Gx Go.Proofs
theorem Quy{n:Nat}(h:n<=maxLen):n<=9223372036854775807:=by
 simp only[maxLen]at h;omega
theorem len3{cs:List Value}(h:cs.length=3):∃x0 x1 x2,cs=[x0,x1,x2]:=by
 match cs,h with
 | [x0,x1,x2],_=>exact⟨x0,x1,x2,rfl⟩
theorem len4{cs:List Value}(h:cs.length=4):∃x0 x1 x2 x3,cs=[x0,x1,x2,x3]:=by
 match cs,h with
 | [x0,x1,x2,x3],_=>exact⟨x0,x1,x2,x3,rfl⟩
theorem QiM:Tryz.prog.cellsOf 3=1:=by kernel_rfl
theorem Qqb:Tryz.prog.cellsOf 9=1:=by kernel_rfl
theorem Qr3:Tryz.prog.cellsOf 22=1:=by kernel_rfl
theorem Qrz:Tryz.prog.cellsOf 24=4:=by kernel_rfl
theorem QsD:Tryz.prog.cellsOf 54=3:=by kernel_rfl
theorem QiO:Tryz.prog.cellsOf 127=3:=by kernel_rfl
theorem own5:ownKnob Tryz.prog.godebug=none:=by kernel_rfl
theorem Qvt:laidOutB Tryz.prog=true:=by kernel_rfl
def QlA:List (String×DataW Unit):=[("math/bits.deBruijn32tab",Rows.laid_math_bits_deBruijn32tab),("math/bits.deBruijn64tab",Rows.laid_math_bits_deBruijn64tab),("internal/strconv.uint64pow10",Rows.laid_internal_strconv_uint64pow10)]
set_option maxRecDepth 100000 in
theorem QrF(os:Os)(started:os.Started)(H:Type)(enc:TypeId×Value->H) :
  ReturnsInHanded {} Tryz.checked os 5 .any (λw args=>(Rows.directoryListsSpec.pre enc Tryz.prog Tryz.f5 [] false w args/\laidMetH Tryz.prog QlA w)/\sizedMet enc Tryz.prog Tryz.f5 (OpenSpec.ofChange Rows.directoryListsSpec) false w args)
   (Rows.directoryListsSpec.post enc Tryz.prog Tryz.f5 false true false false):=by
 refine returnsInHanded_of_change_and (C:=Tryz.checked) (X:=λw _=>laidMetH Tryz.prog QlA w) (λ_ _ _ hh h=>h.of_heap hh) own5 started (by kernel_rfl) Tryz.func5
  (ChangeSpec.witness_shaped (enc:=enc) (C:=Tryz.checked) (os:=os) (X:=λw _=>laidMetH Tryz.prog QlA w) false (World.laidAll Tryz.prog os QlA) #[.agg #[.int .i64 0,.int .i64 0,.int .i64 0,.slice none 0 0],.agg #[.string (bs []),.string (bs []),.int .i64 0]] 8 (World.laidAll_os _ _ _) (World.shaped_of_ZipB (by kernel_rfl) (by kernel_rfl)) (by kernel_rfl) (by kernel_rfl) (by kernel_rfl) (by rw[MakeChecks.laidMetH_plain _ _ _ (by kernel_rfl)];exact laidMet_laidAll _ (by kernel_rfl) (by kernel_rfl))) ?_
 intro W base args ds gs before hval0 hW _ hsz hL _
 have hval:∀(j:Nat)t v,Tryz.f5.params[j]?=some t->args[j]?=some v->Value.okWide Tryz.prog W .any base t v:=hval0
 have hW':=hW
 obtain⟨p,q,hA0,hV,rfl,hfz,hnd⟩:=hW
 have hA:DataW.TrodAll enc Tryz.prog W 0 (λ_=>true) true Tryz.f5.params.toList args.toList ds p:=hA0
 rw[Tryz.params5]at hA hval
 obtain⟨v0,vs0,d0,ds0,p0,q0,hargs0,rfl,rfl,h0,r0⟩:=trodAll_cons hA
 obtain⟨v1,vs1,d1,ds1,p1,q1,hargs1,rfl,rfl,h1,r1⟩:=trodAll_cons r0
 obtain⟨rfl,rfl,rfl⟩:=trodAll_nil r1
 obtain rfl:args= #[v0,v1]:=by cases args;simp_all
 obtain⟨d2,o1⟩:=Qko h0
 obtain⟨cs3,rfl,hc4⟩:=QqP (hval 0 24 v0 rfl rfl) (by rw[Tryz.underlying24])
 rw[hc4]at o1
 obtain⟨d6,len5,o7⟩:=Qix o1 Tryz.underlying24
 rw[Qrz]at len5
 obtain⟨x8,x9,x10,x11,rfl⟩:=len4 len5
 simp only[List.mem_cons,List.mem_nil_iff,or_false,forall_eq_or_imp,forall_eq]at o7
 have h12:=o7.1
 rw[QiM]at h12
 change okT _ _ _ 3 [x8]at h12
 obtain⟨n13,e14,g15⟩:=Qeg h12 Tryz.underlying3
 have wf16:=Qig g15
 cases e14
 have h17:=o7.2.1
 rw[QiM]at h17
 change okT _ _ _ 3 [x9]at h17
 obtain⟨n18,e19,g20⟩:=Qeg h17 Tryz.underlying3
 have wf21:=Qig g20
 cases e19
 have h22:=o7.2.2.1
 rw[QiM]at h22
 change okT _ _ _ 3 [x10]at h22
 obtain⟨n23,e24,g25⟩:=Qeg h22 Tryz.underlying3
 have wf26:=Qig g25
 cases e24
 have h27:=o7.2.2.2
 rw[Qr3]at h27
 change okT _ _ _ 22 [x11]at h27
 obtain⟨d37,a28,n29,cap30,cell31,e32,hn33,hcap34,sl35,rows36⟩:=Qks h27 Tryz.underlying22 (by rw[QiO];decide)
 rw[QiO]at sl35
 cases e32
 obtain⟨d39,o38⟩:=Qko h1
 obtain⟨cs40,rfl,hc41⟩:=QqP (hval 1 54 v1 rfl rfl) (by rw[Tryz.underlying54])
 rw[hc41]at o38
 obtain⟨d43,len42,o44⟩:=Qix o38 Tryz.underlying54
 rw[QsD]at len42
 obtain⟨x45,x46,x47,rfl⟩:=len3 len42
 simp only[List.mem_cons,List.mem_nil_iff,or_false,forall_eq_or_imp,forall_eq]at o44
 have h48:=o44.1
 rw[Qqb]at h48
 change okT _ _ _ 9 [x45]at h48
 obtain⟨l49,e50,g51⟩:=QiG h48 Tryz.underlying9
 cases e50
 have h52:=o44.2.1
 rw[Qqb]at h52
 change okT _ _ _ 9 [x46]at h52
 obtain⟨l53,e54,g55⟩:=QiG h52 Tryz.underlying9
 cases e54
 have h56:=o44.2.2
 rw[QiM]at h56
 change okT _ _ _ 3 [x47]at h56
 obtain⟨n57,e58,g59⟩:=Qeg h56 Tryz.underlying3
 have wf60:=Qig g59
 cases e58
 obtain⟨L,hn_L,hR_L⟩:=Qot sl35 rows36
 subst hn_L
 have hcall:=c5 W n13 n18 n23 a28 cap30 L l49 l53 n57 hR_L (Quy (Nat.le_trans hn33 hcap34))
 refine(hcall).mono λe W'⟨he,hb⟩=>?_
 subst he
 exact⟨_,rfl,Qnb Qvt (by kernel_rfl) rfl Tryz.underlying4 rfl rfl hW' hb⟩
set_option maxHeartbeats 4000000 in
set_option maxRecDepth 100000 in
theorem QtG:joinedFacts Tryz.pinned.checked.prog 5 Tryz.f5 Rows.directoryListsSpec Rows.directoryListsRow=true:=by
 unfold joinedFacts
 simp only[Bool.and_eq_true]
 repeat' apply And.intro
 all_goals (as_aux_lemma=>kernel_rfl)
set_option maxRecDepth 100000 in
theorem Qb3:Rows.DirectoryListsSaid:=
 OpenClaim.holds_of_wide 5 Tryz.f5 rfl rfl rfl rfl rfl rfl rfl ⟨rfl,rfl,rfl,rfl,rfl⟩ rfl rfl rfl rfl rfl (by kernel_rfl) Tryz.func5 QtG
  (of_decide_eq_true (by kernel_rfl)) (by unfold Func.isWrapper;first|(rw[if_pos (by decide +kernel)];kernel_rfl)|(rw[if_neg (by decide +kernel)];exact⟨rfl,rfl⟩))
  (λos started H enc _=>QrF os started H enc)
end Go.Proofs.YtmhkomoiamljeaaGreatDoor
