/- Contracts of the program's functions, proved by walking them with the rules of the Gx texts; without conditions beyond those that each contract names. -/
import Derived.WalkKit
import Derived.Deep.Draws
import Derived.TacticsIn
import Derived.OrdersIn
import Derived.RangeFuncLeaves
import Derived.Lib.Strings
import Derived.Laws.BytesArg
import Derived.Laws.IdiomStrings
import Derived.Deep.Quiet
import Derived.ProofKit
import Derived.OpenShut
import Derived.Laws.StructEq
import Derived.ChangeKeysEq
import Derived.Laws.Externs
import Derived.Lib.Overlaps
import Derived.Carry
import Derived.Laws.Small
import Derived.Lib.Bytealg
import Derived.Lib.Builder
import Derived.Laws.Pointers
import Derived.RangeFuncRecord
import Derived.Test.YtpkhkcchibbhmaaGreatDoorProg
import Derived.KernelRfl
import Derived.Test.YtpkhkcchibbhmaaGreatDoorTie
import Derived.Test.YtpkhkcchibbhmaaGreatDoorCards
import Derived.SevenTiedAt
import Derived.LaidMore
import Derived.Lay
import Derived.Stop.Joined
import Derived.Test.YtpkhkcchibbhmaaGreatDoorP1
set_option linter.unusedSimpArgs false
set_option maxHeartbeats 1000000
set_option linter.unusedVariables false
set_option linter.unusedSectionVars false
set_option linter.unnecessarySimpa false
namespace Gx
open Go Go.RowKit
def chB(x:Ixs)(os ts:List Nd)(lsn:Int)(i:Nat):List UInt8:=
 if i=0 then Qe0
 else if(nth ts i).us=true then
  if os.length<=i\/¬(nth os i).us=true then QaD (nth ts i) i lsn 1
  else if nth os i=nth ts i then x.blk i
  else QaD (nth ts i) i lsn ((ub2 (x.blk i) 40%65535+1:Nat):Int)
 else Qe0
def chX(x:Ixs)(os:List Nd)(t:Tre)(lsn:Int):Ixs:=Qaj t (chB x os t.ns lsn)
def chD(x y:Ixs)(i:Nat):Bool:=decide (x.n<i)||(decide (y.n<i)||decide (x.blk i≠y.blk i))
def Qb0(x y:Ixs):Nat->List Nat
 | 0=>[]
 | k+1=>if chD x y (k+1)=true then Qb0 x y k++[k+1]else Qb0 x y k
def chL(x y:Ixs):List Nat:=Qb0 x y (max x.n y.n)
theorem Qjb(x y:Ixs):∀k,(Qb0 x y k).length<=k
 | 0=>Nat.le_refl _
 | k+1=>by
  have:=Qjb x y k;rw[Qb0];split
  ·rw[List.length_append,List.length_singleton];omega
  ·omega
theorem QgF{b:List UInt8}{num:Int}(h:(Xl b num).e=0):b.length=512/\XB b=false/\1<=ub2 b 40:=by
 have h1:b.length=512/\XB b=false:=by
  unfold Xl at h
  grind[ndE]
 have h2:=(Qbh.1 h1.2).1;exact⟨h1.1,h1.2,om⟩
theorem Qwp{b:List UInt8}{num:Int}(h:(Xl b num).e=0):(Xl b num).n.us=true:=by
 have key:∃n last,rdB (Q0 b)=some (n,last)/\b.length=512/\(Xl b num).n=n:=by
  unfold Xl at h ⊢
  grind[ndE]
 obtain⟨n,last,h4,h1,e⟩:=key;rw[e];exact(QaW (YT h1) h4).2.2.2.2.2.us
theorem Qmw{x:Ixs}(h:(rdI x).2=0){i:Nat}(h1:1<=i/\i<=x.n):((nth (Xf x x.n) i).us=true->(Xl (x.blk i) i).n=nth (Xf x x.n) i/\(Xl (x.blk i) i).e=0/\zer (x.blk i)=false)/\(¬(nth (Xf x x.n) i).us=true->zer (x.blk i)=true):=by
 obtain⟨h0,ht,he,hr,hb⟩:=QaE h;rw[Qgn hr h1];have hbe:=hb i h1.1 h1.2;cases hn:Yb x i with
 | true=>
  rw[QcU hn];rw[ZU hn]at hbe;obtain⟨q1,q2,q3⟩:=QgF hbe;refine⟨λ_=>⟨rfl,hbe,?_⟩,λh9=>?_⟩
  ·cases hz:zer (x.blk i)with
   | false=>rfl
   | true=>
    have h8:∀b∈x.blk i,b=0:=λb hb=>of_decide_eq_true (List.all_eq_true.1 hz b hb)
    have e:∀p,ub1 (x.blk i) p=0:=λp=>by
     unfold ub1;rcases Nat.lt_or_ge p (x.blk i).length with hp|hp
     ·rw[List.getD_eq_getElem?_getD,List.getElem?_eq_getElem hp,Option.getD_some,h8 _ (List.getElem_mem hp)];rfl
     ·rw[List.getD_eq_getElem?_getD,List.getElem?_eq_none hp];rfl
    have h7:ub2 (x.blk i) 40=0:=by simp only[ub2,e]
    omega
  ·exact absurd (Qwp hbe) h9
 | false=>
  rw[Qci hn];rw[QcA hn]at hbe;refine⟨λh9=>(by cases h9),λ_=>?_⟩
  by_cases hz:zer (x.blk i)=true
  ·exact hz
  ·rw[if_neg hz]at hbe;cases hbe
theorem Qeg{x:Ixs}{t:Tre}{lsn:Int}(h:(rdI x).2=0)(hi:Zy t=0)(hl:0<=lsn/\lsn<=2147483647):Holds t (chB x (Xf x x.n) t.ns lsn):=by
 obtain⟨h0,ht,he,hr,hb⟩:=QaE h;have hnl:=Y3 hr x.n;have hout:∀i,t.ns.length<=i->(nth t.ns i).us=false:=λi h9=>by rw[Yy h9];rfl
 have hnode:∀i(usn:Int),1<=i->(nth t.ns i).us=true->1<=usn/\usn<=65535->(QaD (nth t.ns i) i lsn usn).length=512/\(Xl (QaD (nth t.ns i) i lsn usn) i).n=nth t.ns i/\(Xl (QaD (nth t.ns i) i lsn usn) i).e=0:=λi usn h1 hu hs=>by
  have hil:i<t.ns.length:=by
   rcases Nat.lt_or_ge i t.ns.length with h9|h9
   ·exact h9
   ·rw[hout i h9]at hu;cases hu
  obtain⟨q1,q2,q3,_,q5⟩:=ZA hi hil hu;have q6:=Ql5 hi om hil hu;have e:=Qkk (num:=(i:Int)) (lsn:=lsn) (usn:=usn) q1 ⟨q6,q2⟩ om om hl hs;rw[e];exact⟨Qbo (QaJ om),rfl,rfl⟩
 have hU:∀s:List UInt8,(1:Int)<=((ub2 s 40%65535+1:Nat):Int)/\((ub2 s 40%65535+1:Nat):Int)<=65535:=λs=>om
 have hold:∀i,1<=i->¬((Xf x x.n).length<=i\/¬(nth (Xf x x.n) i).us=true)->(x.blk i).length=512/\(Xl (x.blk i) i).n=nth (Xf x x.n) i/\(Xl (x.blk i) i).e=0:=λi h1 h9=>by
  have h8:i<=x.n:=by
   rcases Nat.lt_or_ge x.n i with h7|h7
   ·exact absurd (.inl om) h9
   ·exact h7
  have h7:=(Qmw h ⟨h1,h8⟩).1 (by
   cases hq:(nth (Xf x x.n) i).us with
   | true=>rfl
   | false=>exact absurd (.inr (by rw[hq];decide)) h9)
  exact⟨(QgF h7.2.1).1,h7.1,h7.2.1⟩
 refine⟨λi=>?_,λi a b hu=>?_,λi a b hu=>?_⟩
 ·unfold chB;split
  ·exact Qbv
  ·split
   ·rename_i h1 hu;split
    ·exact(hnode i 1 om hu om).1
    ·rename_i h9;split
     ·exact(hold i om h9).1
     ·exact(hnode i _ om hu (hU _)).1
   ·exact Qbv
 ·unfold chB;rw[if_neg om,if_pos hu];split
  ·exact(hnode i 1 a hu om).2
  ·rename_i h9;split
   ·rename_i h8;have h7:=hold i a h9;exact⟨h7.2.1.trans h8,h7.2.2⟩
   ·exact(hnode i _ a hu (hU _)).2
 ·unfold chB;rw[if_neg om,hu,if_neg (by decide)];exact QcT 512
theorem QwA{x:Ixs}{t:Tre}{lsn:Int}(h:(rdI x).2=0)(hi:Zy t=0)(hl:0<=lsn/\lsn<=2147483647):rdI (chX x (Xf x x.n) t lsn)=((t,0),0):=(Qks hi (Qeg h hi hl)).2
theorem ch_n{x:Ixs}{t:Tre}{lsn:Int}(h:(rdI x).2=0)(hi:Zy t=0)(hl:0<=lsn/\lsn<=2147483647):(chX x (Xf x x.n) t lsn).al.length=512*(t.ns.length-1)/\(chX x (Xf x x.n) t lsn).n=t.ns.length-1:=by
 have h1:=QcS (Qeg h hi hl).len (t.ns.length-1);refine⟨h1,?_⟩;show(ZG _ _).length/512=_;rw[h1];omega
theorem HS.sub_oneT{w0 w:World}{M:List Nat}{As:List HA}{a:Option Addr}{c:Nat}{et nt:Nat}(h:HS w0 M (.own (.slice none 0 0) et 2 0 []::.own (.slice none 0 0) 3 1 0 []::.own (.slice a 1 c) nt 3 1 [.bool true,.slice none 0 0,.slice none 0 0]::As) w):HS w0 M (.own (.slice a 1 c) nt 3 1 [.bool true,.slice none 0 0,.slice none 0 0]::.star ([(LNd.fre:LNd)].map (QB et))::As) w:=
 (HS.star_close (Bs:=[_]) (HS.star_close (Bs:=[_,_]) h)).perm (List.Perm.swap ..)
def inE(t:Tre)(x:TEnt):Int:=if Yc t.co x=0 then QdF t.co t.mo t.rm t.ns x else Yc t.co x
def inT(t:Tre)(x:TEnt):Tre:=⟨t.co,t.mo,t.rm,Qac t.co t.mo t.rm t.ns x⟩
structure InsP(t:Tre)(x:TEnt):Prop where
 ok:Yc t.co x=0->¬(Qt t.co t.ns x.key).2.2=true->InsOk t.co t.mo t.rm t.ns x
 sm:inE t x=0->Sm 100000 (inT t x).ns
def opE(x:Ixs)(E lsn:Int):Int:=if(rdI x).2=0 then if E=0 then if 0<=lsn/\lsn<=2147483647 then 0 else 2 else E else(rdI x).2
def opX(x:Ixs)(t:Tre)(E lsn:Int):Ixs:=if opE x E lsn=0 then chX x (rdI x).1.1.ns t lsn else⟨[],[],[]⟩
def opL(x:Ixs)(t:Tre)(E lsn:Int):List Nat:=if opE x E lsn=0 then chL x (chX x (rdI x).1.1.ns t lsn)else[]
theorem Qox{x:Ixs}{E lsn:Int}(h:opE x E lsn=0):(rdI x).2=0/\E=0/\0<=lsn/\lsn<=2147483647:=by grind[opE]
def YA(t:Tre)(x:TEnt):Int:=if inE t x=0 then if x.key.length+x.val.length<=88 then 0 else 8 else inE t x
theorem QbH{x:Ixs}(h:(rdI x).2=0):(XQ (rdI x).1.1).2=0/\(rdI x).1.1.ns=Xf x x.n/\Bd (Xf x x.n)/\∀n∈Xf x x.n,∀e∈n.es,e.key.length<=1000000:=by
 obtain⟨h0,ht,he,hr,hb⟩:=QaE h;have hro:=(QbO h0).2.2.1;have hn:(rdI x).1.1.ns=Xf x x.n:=by rw[ht];rfl
 rw[ht];refine⟨he,rfl,QfP hro ?_,λn hn e he=>((Qcf hro x.n n hn).ent e he).1⟩;obtain⟨_,_,hl0,hl120,_⟩:=ZC he;have h1:(QaK x).ns.length=x.n+1:=Y3 hr x.n;omega
structure InsX(x:Ixs)(e:TEnt):Prop where
 ok:InsP (rdI x).1.1 e
 ix:YA (rdI x).1.1 e=0->Zy (inT (rdI x).1.1 e)=0
end Gx
namespace Gx
open Go Go.RowKit
inductive BT where
 | nd (i:Nat) (es:List TEnt) (ks:List BT)
namespace BT
def idx:BT->Nat|nd i _ _=>i
def es:BT->List TEnt|nd _ es _=>es
def ks:BT->List BT|nd _ _ ks=>ks
end BT
instance:Inhabited BT:=⟨.nd 0 [] []⟩
def Xd(ks:List BT):List Int:=ks.map λk=>(k.idx:Int)
theorem QgL(a b:List BT):Xd (a++b)=Xd a++Xd b:=by simp[Xd]
theorem Qal(a:BT)(b:List BT):Xd (a::b)=(a.idx:Int)::Xd b:=rfl
theorem XH(a:List BT):(Xd a).length=a.length:=by simp[Xd]
theorem Qnx(a:List BT)(n:Nat):Xd (a.take n)=(Xd a).take n:=by simp[Xd,List.map_take]
theorem QnB(a:List BT)(n:Nat):Xd (a.drop n)=(Xd a).drop n:=by simp[Xd,List.map_drop]
mutual
def BT.nodes:BT->List (Nat×Nd)
 | .nd i es ks=>(i,⟨true,es,Xd ks⟩)::nodesL ks
def nodesL:List BT->List (Nat×Nd)
 | []=>[]
 | k::ks=>k.nodes++nodesL ks
end
mutual
def BT.flat:BT->List TEnt
 | .nd _ es ks=>flatL es ks
def flatL:List TEnt->List BT->List TEnt
 | es,[]=>es
 | [],k::ks=>k.flat++flatL [] ks
 | e::es,k::ks=>k.flat++e::flatL es ks
end
theorem QdA(a b:List BT):nodesL (a++b)=nodesL a++nodesL b:=by
 induction a with
 | nil=>rfl
 | cons x a ih=>rw[List.cons_append,nodesL,nodesL,ih,List.append_assoc]
structure RepN(ns:List Nd)(N:List (Nat×Nd)):Prop where
 get:∀p∈N,ns[p.1]?=some p.2
 nd:(N.map Prod.fst).Nodup
 rest:∀i,i<ns.length->i ∉ N.map Prod.fst->nth ns i=⟨false,[],[]⟩
section
variable{ns:List Nd}{N N':List (Nat×Nd)}{i:Nat}{x y:Nd}
theorem RepN.perm(h:RepN ns N)(hp:N.Perm N'):RepN ns N':=
 ⟨λp hp'=>h.get p (hp.mem_iff.2 hp'),(hp.map _).nodup_iff.1 h.nd,λi hi hn=>h.rest i hi λhm=>hn ((hp.map _).mem_iff.1 hm)⟩
theorem RepN.lt(h:RepN ns N){p:Nat×Nd}(hp:p∈N):p.1<ns.length:=(List.getElem?_eq_some_iff.1 (h.get p hp)).1
theorem RepN.head(h:RepN ns ((i,x)::N)):i<ns.length/\nth ns i=x:=⟨h.lt (List.mem_cons_self ..),QS (h.get _ (List.mem_cons_self ..))⟩
theorem RepN.at_(h:RepN ns N)(hp:(i,x)∈N):i<ns.length/\nth ns i=x:=⟨h.lt hp,QS (h.get _ hp)⟩
theorem RepN.set(h:RepN ns ((i,x)::N))(y:Nd):RepN (ns.set i y) ((i,y)::N):=by
 have hn:=List.nodup_cons.1 h.nd;refine⟨λp hp=>?_,h.nd,λj hj hm=>?_⟩
 ·rcases List.mem_cons.1 hp with rfl|hp
  ·exact List.getElem?_set_self h.head.1
  ·have hne:i≠p.1:=λe=>hn.1 (e▸List.mem_map.2 ⟨p,hp,rfl⟩);rw[List.getElem?_set_ne hne];exact h.get p (List.mem_cons_of_mem _ hp)
 ·have hne:i≠j:=λe=>hm (e▸List.mem_cons_self ..);rw[List.length_set]at hj;rw[<-h.rest j hj hm];exact QS (by rw[List.getElem?_set_ne hne];exact QV hj)
theorem RepN.es(h:RepN ns ((i,x)::N))(es:List TEnt):RepN (esN ns i es) ((i,{x with es:=es})::N):=by
 have:=h.set {x with es:=es};unfold esN;rw[h.head.2];exact this
theorem RepN.cs(h:RepN ns ((i,x)::N))(cs:List Int):RepN (csN ns i cs) ((i,{x with cs:=cs})::N):=by
 have:=h.set {x with cs:=cs};unfold csN;rw[h.head.2];exact this
theorem RepN.free(h:RepN ns N)(hu:∀p∈N,p.2.us=true):(QT ns).1 ∉ N.map Prod.fst/\RepN (QT ns).2 (((QT ns).1,⟨true,[],[]⟩)::N):=by
 have hnu:(QT ns).1 ∉ N.map Prod.fst:=λhm=>by
  obtain⟨p,hp,e⟩:=List.mem_map.1 hm;have h1:=h.at_ (i:=p.1) (x:=p.2) hp;exact QfJ h1.1 (by rw[h1.2];exact hu p hp) e.symm
 refine⟨hnu,?_⟩;have hnd:((((QT ns).1,(⟨true,[],[]⟩:Nd))::N).map Prod.fst).Nodup:=List.nodup_cons.2 ⟨hnu,h.nd⟩
 have hget:∀p∈N,(QT ns).2[p.1]?=some p.2:=λp hp=>by
  have h1:=h.at_ (i:=p.1) (x:=p.2) hp;have h2:=Qct h1.1 (by rw[h1.2];exact hu p hp);rw[QV (Nat.lt_of_lt_of_le h1.1 (Qcm ns).1),h2,h1.2]
 have hown:nth (QT ns).2 (QT ns).1=⟨true,[],[]⟩:=by
  unfold QT at hnu ⊢;split
  ·rename_i hlt;rw[if_pos hlt]at hnu;simp only[]at hnu ⊢;unfold usN;rw[h.rest _ hlt hnu];exact QS (List.getElem?_set_self hlt)
  ·exact QS (by simp)
 refine⟨λp hp=>?_,hnd,λj hj hm=>?_⟩
 ·rcases List.mem_cons.1 hp with rfl|hp
  ·rw[QV (Qfj ns),hown]
  ·exact hget p hp
 ·have hne:(QT ns).1≠j:=λe=>hm (e▸List.mem_cons_self ..);have hm2:j ∉ N.map Prod.fst:=λh9=>hm (List.mem_cons_of_mem _ h9);unfold QT at hj hne ⊢;split
  ·rename_i hlt;rw[if_pos hlt]at hj hne;simp only[QiM]at hj hne ⊢;rw[<-h.rest j hj hm2];exact QS (by unfold usN;rw[List.getElem?_set_ne hne];exact QV hj)
  ·rename_i hlt;rw[if_neg hlt]at hj hne;simp only[List.length_append,List.length_singleton]at hj hne ⊢;have hj2:j<ns.length:=by omega
   rw[<-h.rest j hj2 hm2];exact QS (by rw[List.getElem?_append_left hj2];exact QV hj2)
end
def YI(N:List (Nat×Nd)):List Int:=N.flatMap λp=>p.2.cs
theorem Qgl(A B:List (Nat×Nd)):YI (A++B)=YI A++YI B:=List.flatMap_append
theorem QcL(p:Nat×Nd)(B:List (Nat×Nd)):YI (p::B)=p.2.cs++YI B:=List.flatMap_cons
theorem QpD{cs:List Int}{n:Int}(h:n ∉ cs):¬ixB (ZB cs n)<cs.length:=λhl=>by
 have h1:(ZB cs n).getD (ixB (ZB cs n)) false=true:=Qf7 (by rw[YS];exact hl);rw[Qcw hl]at h1;refine h (of_decide_eq_true h1▸?_);rw[List.getD_eq_getElem?_getD,List.getElem?_eq_getElem hl];exact List.getElem_mem hl
theorem Qh8{A B:List Int}{n:Int}(h:n ∉ A):ixB (ZB (A++n::B) n)=A.length:=by
 induction A with
 | nil=>
  show ixB (decide (n=n)::_)=0;simp[ixB]
 | cons a A ih=>
  have h1:n≠a:=λe=>h (e▸List.mem_cons_self ..);show ixB (decide (n=a)::ZB (A++n::B) n)=_;rw[decide_eq_false h1];simp only[ixB,List.length_cons];rw[ih λhm=>h (List.mem_cons_of_mem _ hm)]
  first|rfl|simp
theorem QmG{i:Nat}:∀{l:List Nd}{s p:Nat}{A B:List Int},p<l.length->(nth l p).cs=A++(i:Int)::B->(i:Int) ∉ A->(∀j,j<p->(i:Int) ∉ (nth l j).cs)->Xz i l s=(s+p,A.length)
 | [],s,p,A,B,hp,_,_,_=>absurd hp (Nat.not_lt_zero _)
 | n::l,s,0,A,B,hp,he,hA,_=>by
  have e:n.cs=A++(i:Int)::B:=he;rw[Xz,e,Qh8 hA,if_pos (by simp)];rfl
 | n::l,s,p+1,A,B,hp,he,hA,hn=>by
  have hn0:(i:Int) ∉ n.cs:=hn 0 (Nat.succ_pos _);rw[Xz,if_neg (QpD hn0),QmG (l:=l) (s:=s+1) (p:=p) (by simpa using hp) he hA λj hj=>hn (j+1) om];congr 1;omega
theorem RepN.par{ns:List Nd}{N:List (Nat×Nd)}{p i:Nat}{x:Nd}{A B:List Int}(h:RepN ns ((p,x)::N))(hk:(YI ((p,x)::N)).Nodup)(he:x.cs=A++(i:Int)::B):Xz i ns 0=(p,A.length):=by
 rw[QcL,he]at hk;have h1:=List.nodup_append.1 hk;have hA:(i:Int) ∉ A:=λhm=>(List.nodup_append.1 h1.1).2.2 _ hm _ (List.mem_cons_self ..) rfl;have h2:=h.head
 have:=QmG (i:=i) (l:=ns) (s:=0) (p:=p) h2.1 (by rw[h2.2];exact he) hA λj hj hm=>by
  by_cases hjm:j∈N.map Prod.fst
  ·obtain⟨q,hq,e⟩:=List.mem_map.1 hjm;have h3:=h.at_ (i:=q.1) (x:=q.2) (List.mem_cons_of_mem _ hq);rw[e]at h3;rw[h3.2]at hm;exact h1.2.2 (i:Int) (by simp) (i:Int) (List.mem_flatMap.2 ⟨q,hq,hm⟩) rfl
  ·have h3:=h.rest j om (λh9=>by
    rcases List.mem_cons.1 h9 with e|h9
    ·have:j=p:=e;omega
    ·exact hjm h9)
   rw[h3]at hm;cases hm
 rw[this,Nat.zero_add]
mutual
theorem Qdz:∀T:BT,(((T.idx:Nat):Int)::YI T.nodes).Perm (T.nodes.map λp=>((p.1:Nat):Int))
 | .nd i es ks=>by
  rw[BT.nodes,QcL,List.map_cons];exact List.Perm.cons _ (kids_nodesL ks)
theorem kids_nodesL:∀ks:List BT,(Xd ks++YI (nodesL ks)).Perm ((nodesL ks).map λp=>((p.1:Nat):Int))
 | []=>.refl _
 | k::ks=>by
  rw[nodesL,Qgl,List.map_append,Qal,List.cons_append];have h1:=Qdz k;have h2:=kids_nodesL ks
  have h3:((k.idx:Int)::(Xd ks++(YI k.nodes++YI (nodesL ks)))).Perm (((k.idx:Int)::YI k.nodes)++(Xd ks++YI (nodesL ks))):=by
   rw[List.cons_append];refine List.Perm.cons _ ?_;rw[<-List.append_assoc,<-List.append_assoc];exact List.perm_append_comm.append_right _
  exact h3.trans (h1.append h2)
end
theorem QuF{l:List (Nat×Nd)}(h:(l.map Prod.fst).Nodup):(l.map λp=>((p.1:Nat):Int)).Nodup:=by
 have e:(l.map λp=>((p.1:Nat):Int))=(l.map Prod.fst).map λn:Nat=>(n:Int):=by simp
 rw[e];exact List.Pairwise.map _ (λa b hab e=>hab om) h
theorem Qlq{T:BT}(h:(T.nodes.map Prod.fst).Nodup):(YI T.nodes).Nodup:=(List.nodup_cons.1 ((Qdz T).nodup_iff.2 (QuF h))).2
mutual
theorem Qbe:∀T:BT,∀p∈T.nodes,p.2.us=true
 | .nd i es ks=>λp hp=>by
  rw[BT.nodes]at hp;rcases List.mem_cons.1 hp with rfl|hp
  ·rfl
  ·exact nodesL_us ks p hp
theorem nodesL_us:∀ks:List BT,∀p∈nodesL ks,p.2.us=true
 | []=>λp hp=>(nomatch hp)
 | k::ks=>λp hp=>by
  rw[nodesL]at hp;rcases List.mem_append.1 hp with hp|hp
  ·exact Qbe k p hp
  ·exact nodesL_us ks p hp
end
structure Fr where
 i:Nat
 es:List TEnt
 l:List BT
 r:List BT
instance:Inhabited Fr:=⟨⟨0,[],[],[]⟩⟩
def Fr.fill(f:Fr)(T:BT):BT:=.nd f.i f.es (f.l++T::f.r)
def plug:List Fr->BT->BT
 | [],T=>T
 | f::C,T=>plug C (f.fill T)
def Fr.nodes(f:Fr)(h:Nat):List (Nat×Nd):=(f.i,⟨true,f.es,Xd f.l++(h:Int)::Xd f.r⟩)::(nodesL f.l++nodesL f.r)
def Xx:List Fr->Nat->List (Nat×Nd)
 | [],_=>[]
 | f::C,h=>f.nodes h++Xx C f.i
theorem Qlo(f:Fr)(T:BT):(f.fill T).nodes.Perm (f.nodes T.idx++T.nodes):=by
 unfold Fr.fill Fr.nodes;rw[BT.nodes,QdA,nodesL,QgL,Qal,List.cons_append];refine List.Perm.cons _ ?_;rw[List.append_assoc];exact List.Perm.append_left _ List.perm_append_comm
theorem Qau:∀(C:List Fr)(T:BT),(plug C T).nodes.Perm (Xx C T.idx++T.nodes)
 | [],T=>.refl _
 | f::C,T=>by
  refine(Qau C (f.fill T)).trans ?_;show(Xx C f.i++(f.fill T).nodes).Perm (f.nodes T.idx++Xx C f.i++T.nodes);refine((Qlo f T).append_left _).trans ?_;rw[<-List.append_assoc];exact List.perm_append_comm.append_right _
theorem Qpv(C D:List Fr)(T:BT):plug (C++D) T=plug D (plug C T):=by
 induction C generalizing T with
 | nil=>rfl
 | cons f C ih=>exact ih _
def Xt(ns:List Nd)(T:BT):Prop:=RepN ns T.nodes
theorem Xt.plug{ns:List Nd}{C:List Fr}{T:BT}(h:Xt ns (plug C T)):RepN ns (Xx C T.idx++T.nodes):=RepN.perm h (Qau C T)
theorem Xt.of_plug{ns:List Nd}{C:List Fr}{T:BT}(h:RepN ns (Xx C T.idx++T.nodes)):Xt ns (Gx.plug C T):=RepN.perm h (Qau C T).symm
theorem Xt.at_{ns:List Nd}{C:List Fr}{T:BT}(h:Xt ns (Gx.plug C T)):T.idx<ns.length/\nth ns T.idx=⟨true,T.es,Xd T.ks⟩:=by
 cases T with
 | nd i es ks=>exact RepN.at_ h.plug (List.mem_append_right _ (by rw[BT.nodes];exact List.mem_cons_self ..))
theorem Qiv{α:Type}[BEq α][LawfulBEq α]{a b:List α}(h:∀x,a.count x=b.count x):a.Perm b:=List.perm_iff_count.2 h
theorem Qor{α:Type}[BEq α](l:List α)(n:Nat)(x:α):l.count x=(l.take n).count x+(l.drop n).count x:=by
 rw[<-List.count_append,List.take_append_drop]
theorem Qig(ks:List BT)(n:Nat):nodesL ks=nodesL (ks.take n)++nodesL (ks.drop n):=by
 rw[<-QdA,List.take_append_drop]
theorem QgU(l r:List BT)(i own:Nat):QP (Xd l++(i:Int)::Xd r) (l.length+1) (own:Int)=Xd l++(i:Int)::(own:Int)::Xd r:=by
 unfold QP;rw[List.take_append,List.drop_append,XH,List.take_of_length_le (by rw[XH];omega),List.drop_of_length_le (by rw[XH];omega),show l.length+1-l.length=1 by omega];simp
section
variable{ns:List Nd}{mo rm:Int}{f:Fr}{C:List Fr}{i:Nat}{es:List TEnt}{ks:List BT}
theorem Qpi{T:BT}(h:Xt ns T):(YI T.nodes).Nodup:=Qlq h.nd
theorem Qi3(h:Xt ns (plug C (.nd i es ks))):(QT ns).1 ∉ (plug C (.nd i es ks)).nodes.map Prod.fst /\
  RepN (splA mo ns i) ((i,⟨true,es.take (Qw mo),(Xd ks).take (Qw mo+1)⟩)::((QT ns).1,⟨true,es.drop (Qw mo+1),(Xd ks).drop (Qw mo+1)⟩)::(Xx C i++nodesL ks)):=by
 have hf:=RepN.free h (Qbe _);refine⟨hf.1,?_⟩
 have h1:=hf.2.perm (N':=((QT ns).1,⟨true,[],[]⟩)::(i,⟨true,es,Xd ks⟩)::(Xx C i++nodesL ks)) (List.Perm.cons _ ((Qau C (.nd i es ks)).trans (by
  show(Xx C i++(BT.nd i es ks).nodes).Perm _;rw[BT.nodes];exact List.perm_middle)))
 have h2:=h1.perm (List.Perm.swap ..);have hi:=h2.head;have h3:=((h1.es (es.drop (Qw mo+1))).perm (List.Perm.swap ..)).es (es.take (Qw mo));unfold splA;rw[hi.2];simp only[];split
 ·rename_i h0;have h0':Xd ks=[]:=List.eq_nil_of_length_eq_zero h0;rw[h0']at h3;rw[h0',List.take_nil,List.drop_nil];exact h3
 ·have h4:=(h3.perm (List.Perm.swap ..)).cs ((Xd ks).drop (Qw mo+1));exact(h4.perm (List.Perm.swap ..)).cs ((Xd ks).take (Qw mo+1))
theorem Qhp(h:Xt ns (plug C (.nd i es ks))):(YI ((i,(⟨true,es.take (Qw mo),(Xd ks).take (Qw mo+1)⟩:Nd))::((QT ns).1,⟨true,es.drop (Qw mo+1),(Xd ks).drop (Qw mo+1)⟩)::(Xx C i++nodesL ks))).Nodup:=by
 have h1:=((Qau C (.nd i es ks)).flatMap_right (λp:Nat×Nd=>p.2.cs)).nodup_iff.1 (Qpi h);refine(List.Perm.nodup_iff ?_).1 h1;rw[BT.nodes];show(YI (Xx C i++(i,⟨true,es,Xd ks⟩)::nodesL ks)).Perm _;refine Qiv λx=>?_;simp only[QcL,Qgl,List.count_append,Qor (Xd ks) (Qw mo+1) x];omega
theorem Qbm(h:Xt ns (plug (f::C) (.nd i es ks))) :
  (QT ns).1 ∉ (plug (f::C) (.nd i es ks)).nodes.map Prod.fst/\Xz (i:Int) (splA mo ns i) 0=(f.i,f.l.length) /\
  Xt (Qa2 mo ns i) (plug C (.nd f.i (QP f.es f.l.length (nth es (Qw mo))) (f.l++.nd i (es.take (Qw mo)) (ks.take (Qw mo+1))::.nd (QT ns).1 (es.drop (Qw mo+1)) (ks.drop (Qw mo+1))::f.r))):=by
 obtain⟨h0,h1⟩:=Qi3 (mo:=mo) h;have hk:=Qhp (mo:=mo) h
 have hp:(((i,(⟨true,es.take (Qw mo),(Xd ks).take (Qw mo+1)⟩:Nd))::((QT ns).1,⟨true,es.drop (Qw mo+1),(Xd ks).drop (Qw mo+1)⟩)::(Xx (f::C) i++nodesL ks))).Perm
   ((f.i,⟨true,f.es,Xd f.l++(i:Int)::Xd f.r⟩)::(i,(⟨true,es.take (Qw mo),(Xd ks).take (Qw mo+1)⟩:Nd))::((QT ns).1,⟨true,es.drop (Qw mo+1),(Xd ks).drop (Qw mo+1)⟩)::(nodesL f.l++nodesL f.r++Xx C f.i++nodesL ks)):=by
  refine Qiv λx=>?_;simp only[Xx,Fr.nodes,List.count_append,List.count_cons,List.cons_append];omega
 have h2:=h1.perm hp;have hpar:=h2.par ((hp.flatMap_right (λp:Nat×Nd=>p.2.cs)).nodup_iff.1 hk) rfl;rw[XH]at hpar;refine⟨h0,hpar,?_⟩;unfold Qa2;rw[hpar]
 have hi:nth (nth (QT ns).2 i).es (Qw mo)=nth es (Qw mo):=by
  have h4:i<ns.length/\nth ns i=⟨true,es,Xd ks⟩:=Xt.at_ (T:=.nd i es ks) h;rw[Qct h4.1 (by rw[h4.2]),h4.2]
 rw[hi];unfold addP;simp only[];have h5:=h2.head;have h6:=(h2.es (QP f.es f.l.length (nth es (Qw mo)))).cs (QP (Xd f.l++(i:Int)::Xd f.r) (f.l.length+1) ((QT ns).1:Int));rw[QgU]at h6;rw[h5.2];simp only[];rw[QgU];refine Xt.of_plug (h6.perm ?_);show List.Perm _ (Xx C f.i++BT.nodes _);rw[BT.nodes,QdA,nodesL,nodesL,BT.nodes,BT.nodes,QgL,Qal,Qal,Qnx,QnB];refine Qiv λx=>?_;simp only[List.count_append,List.count_cons,List.cons_append,Qig ks (Qw mo+1),BT.idx];omega
end
theorem Qsx{ns:List Nd}{es:List TEnt}{ks:List BT}(h:Xt ns (.nd 0 es ks)):(QT ns).1 ∉ (BT.nd 0 es ks).nodes.map Prod.fst/\Xt (XZ ns).2 (.nd 0 [] [.nd (QT ns).1 es ks]):=by
 have hf:=RepN.free h (Qbe _);refine⟨hf.1,?_⟩;have h0:=Xt.at_ (C:=[]) h;unfold XZ;rw[show nth ns 0=nth ns (BT.nd 0 es ks).idx from rfl,h0.2];simp only[BT.es,BT.ks]
 have h1:RepN (QT ns).2 (((QT ns).1,⟨true,[],[]⟩)::(0,⟨true,es,Xd ks⟩)::nodesL ks):=by
  have:=hf.2;rw[BT.nodes]at this;exact this
 have h2:=(((h1.es es).cs (Xd ks)).perm (List.Perm.swap ..)).es [];have h3:=h2.cs [((QT ns).1:Int)];refine RepN.perm h3 ?_;rw[BT.nodes,nodesL,BT.nodes,nodesL,List.append_nil];exact .refl _
def Bal(lo hi:Nat):Nat->BT->Prop
 | 0,T=>T.ks=[]/\lo<=T.es.length/\T.es.length<=hi
 | d+1,T=>(T.ks.length=T.es.length+1/\∀k∈T.ks,Bal lo hi d k)/\lo<=T.es.length/\T.es.length<=hi
def Bel(lo hi:Nat):Nat->BT->Prop
 | 0,T=>T.ks=[]
 | d+1,T=>T.ks.length=T.es.length+1/\∀k∈T.ks,Bal lo hi d k
theorem ZZ{lo hi d:Nat}{T:BT}:Bal lo hi d T ↔ Bel lo hi d T/\lo<=T.es.length/\T.es.length<=hi:=by
 cases d<;>simp only[Bal,Bel]
theorem Bel.cs{lo hi d:Nat}{T:BT}(h:Bel lo hi d T):T.ks=[]\/T.ks.length=T.es.length+1:=by
 cases d with
 | zero=>exact .inl h
 | succ d=>exact .inr h.1
theorem Bel.leaf{lo hi d:Nat}{T:BT}(h:Bel lo hi d T)(hk:T.ks=[]):d=0:=by
 cases d with
 | zero=>rfl
 | succ d=>
  have:=h.1;rw[hk]at this;simp at this
def Qax(lo hi rt:Nat):Nat->List Fr->Prop
 | _,[]=>True
 | d,f::C=>((∀k∈f.l,Bal lo hi d k)/\(∀k∈f.r,Bal lo hi d k))/\f.l.length+f.r.length=f.es.length/\((C=[]->f.es.length<=rt)/\(C≠[]->lo<=f.es.length/\f.es.length<=hi))/\Qax lo hi rt (d+1) C
theorem QqT{lo hi rt d:Nat}{f:Fr}{C:List Fr}{T:BT}(hC:Qax lo hi rt d (f::C))(h:Bal lo hi d T):Bel lo hi (d+1) (f.fill T):=by
 refine⟨?_,λk hk=>?_⟩
 ·show(f.l++T::f.r).length=f.es.length+1;have:=hC.2.1;simp only[List.length_append,List.length_cons];omega
 ·rcases List.mem_append.1 hk with hk|hk
  ·exact hC.1.1 k hk
  ·rcases List.mem_cons.1 hk with rfl|hk
   ·exact h
   ·exact hC.1.2 k hk
theorem Yk(es:List TEnt):flatL es []=es:=by cases es<;>rfl
theorem QeC(i:Nat)(es:List TEnt):(BT.nd i es []).flat=es:=by rw[BT.flat,Yk]
def ZR:List TEnt->List BT->List TEnt
 | e::es,k::ks=>k.flat++e::ZR es ks
 | _,_=>[]
def Qga:List TEnt->List BT->List TEnt
 | e::es,k::ks=>e::(k.flat++Qga es ks)
 | _,_=>[]
theorem QeY:∀(es:List TEnt)(T:BT)(r:List BT),r.length=es.length->flatL es (T::r)=T.flat++Qga es r
 | [],T,[],_=>by
  rw[flatL,Yk];rfl
 | [],T,k::r,h=>absurd h (by simp)
 | e::es,T,[],h=>absurd h (by simp)
 | e::es,T,k::r,h=>by
  rw[flatL,QeY es k r (by simpa using h)];rfl
theorem QcZ:∀(l:List BT)(es:List TEnt)(T:BT)(r:List BT),l.length+r.length=es.length->flatL es (l++T::r)=ZR es l++(T.flat++Qga (es.drop l.length) r)
 | [],es,T,r,h=>by
  have e:ZR es []=[]:=by cases es<;>rfl
  rw[e];exact QeY es T r (by simpa using h)
 | k::l,[],T,r,h=>absurd h (by simp only[List.length_cons,List.length_nil];omega)
 | k::l,e::es,T,r,h=>by
  rw[List.cons_append,flatL,QcZ l es T r (by simp only[List.length_cons]at h;omega),ZR,List.length_cons,List.drop_succ_cons];simp only[List.append_assoc,List.cons_append]
theorem Qey:∀(a b:List TEnt)(l:List BT),l.length<=a.length->ZR (a++b) l=ZR a l
 | a,b,[],_=>by
  have e:∀c:List TEnt,ZR c []=[]:=λc=>by cases c<;>rfl
  rw[e,e]
 | [],b,k::l,h=>absurd h (by simp)
 | x::a,b,k::l,h=>by
  rw[List.cons_append,ZR,ZR,Qey a b l (by simpa using h)]
theorem QkO{es:List TEnt}{l:List BT}(h:l.length<=es.length):ZR (es.take l.length) l=ZR es l:=by
 have:=Qey (es.take l.length) (es.drop l.length) l (by rw[List.length_take];omega);rw[List.take_append_drop]at this;exact this.symm
theorem QnQ{l r:List BT}{es:List TEnt}{A B:BT}{up:TEnt}(h:l.length+r.length=es.length):flatL (QP es l.length up) (l++A::B::r)=ZR es l++((A.flat++up::B.flat)++Qga (es.drop l.length) r):=by
 have hl:(es.take l.length).length=l.length:=by rw[List.length_take];omega
 rw[QcZ l _ A (B::r) (by rw[Zj om,List.length_cons];omega)];unfold QP;rw[Qey _ _ _ om,QkO om,List.drop_append,List.drop_of_length_le (by omega:(es.take l.length).length<=l.length),hl,Nat.sub_self,List.nil_append,List.drop_zero];show ZR es l++(A.flat++(up::(B.flat++Qga (es.drop l.length) r)))=_;simp only[List.append_assoc,List.cons_append]
theorem Qe9:∀(m:Nat)(es:List TEnt)(ks:List BT),m<es.length->(ks=[]\/ks.length=es.length+1)->flatL (es.take m) (ks.take (m+1))++nth es m::flatL (es.drop (m+1)) (ks.drop (m+1))=flatL es ks
 | m,es,[],h,_=>by
  rw[List.take_nil,List.drop_nil,Yk,Yk,Yk];have e:nth es m=es[m]:=QS (List.getElem?_eq_getElem h);rw[e,<-List.drop_eq_getElem_cons h,List.take_append_drop]
 | m,[],k::ks,h,_=>absurd h (by simp)
 | 0,e::es,k::ks,h,h2=>by
  rw[List.take_zero,List.take_succ_cons,List.take_zero,flatL,Yk,List.drop_succ_cons,List.drop_zero,List.drop_succ_cons,List.drop_zero,flatL,List.append_nil];rfl
 | m+1,e::es,k::ks,h,h2=>by
  have hk:ks.length=es.length+1:=by
   rcases h2 with h2|h2
   ·cases h2
   ·simpa using h2
  rw[List.take_succ_cons,List.take_succ_cons,flatL,List.drop_succ_cons,List.drop_succ_cons,flatL];have:=Qe9 m es ks (by simpa using h) (.inr hk);show k.flat++e::flatL (es.take m) (ks.take (m+1))++nth es m::flatL (es.drop (m+1)) (ks.drop (m+1))=_;rw[<-this];simp only[List.append_assoc,List.cons_append]
def Qis:List Fr->List TEnt
 | []=>[]
 | f::C=>Qis C++ZR f.es f.l
def Qif:List Fr->List TEnt
 | []=>[]
 | f::C=>Qga (f.es.drop f.l.length) f.r++Qif C
theorem Qao{lo hi rt:Nat}:∀{C:List Fr}{d:Nat}{T:BT},Qax lo hi rt d C->(plug C T).flat=Qis C++(T.flat++Qif C)
 | [],d,T,_=>by
  show T.flat=[]++(T.flat++[]);simp
 | f::C,d,T,hC=>by
  show(plug C (f.fill T)).flat=_;rw[Qao (C:=C) hC.2.2.2];show Qis C++((BT.nd f.i f.es (f.l++T::f.r)).flat++Qif C)=_;rw[BT.flat,QcZ f.l f.es T f.r hC.2.1];simp only[Qis,Qif,List.append_assoc]
theorem Qf2:∀(C:List Fr)(T T':BT),T.idx=T'.idx->(plug C T).idx=(plug C T').idx
 | [],T,T',h=>h
 | f::C,T,T',_=>Qf2 C (f.fill T) (f.fill T') rfl
theorem QmQ:∀(C:List Fr)(T:BT)(h:Nat),C≠[]->(plug C T).idx∈(Xx C h).map Prod.fst
 | [],T,h,hne=>absurd rfl hne
 | [f],T,h,_=>by
  show f.i∈_;simp[Xx,Fr.nodes]
 | f::g::C,T,h,_=>by
  have:=QmQ (g::C) (f.fill T) f.i (by simp);show(plug (g::C) (f.fill T)).idx∈_;rw[Xx,List.map_append];exact List.mem_append_right _ this
theorem BT.idx_mem(T:BT):T.idx∈T.nodes.map Prod.fst:=by
 cases T with
 | nd i es ks=>
  rw[BT.nodes];exact List.mem_cons_self ..
theorem QsL{ns:List Nd}{C:List Fr}{T:BT}(h:Xt ns (plug C T))(hC:C≠[]):T.idx≠(plug C T).idx:=λe=>by
 have h1:=h.plug.nd;rw[List.map_append]at h1;exact(List.nodup_append.1 h1).2.2 _ (e▸QmQ C T T.idx hC) _ T.idx_mem rfl
theorem QtG{ns:List Nd}{C:List Fr}{i:Nat}{es:List TEnt}{ks:List BT}(h:Xt ns (plug C (.nd i es ks)))(es':List TEnt):Xt (esN ns i es') (plug C (.nd i es' ks)):=by
 refine Xt.of_plug ?_;have h1:=h.plug;rw[BT.nodes]at h1 ⊢;have h2:=(h1.perm List.perm_middle).es es';exact h2.perm List.perm_middle.symm
theorem QjL(ns:List Nd):∀f i j,i<=j->j<Qcd ns f i->(nth ns j).us=true
 | 0,i,j,h,h2=>by
  rw[Qcd]at h2;omega
 | f+1,i,j,h,h2=>by
  rw[Qcd]at h2;split at h2
  ·split at h2
   ·rcases Nat.eq_or_lt_of_le h with rfl|h3
    ·assumption
    ·exact QjL ns f (i+1) j h3 h2
   ·omega
  ·omega
theorem Qlt{ns:List Nd}{j:Nat}(h:j<XS ns)(hl:j<ns.length):(nth ns j).us=true:=by
 have h1:=Qhx (l:=ns.map λn=>!n.us) h;rw[YX (d:=default) hl]at h1;show(ns.getD j default).us=true
 simpa using h1
theorem Qsv{ns:List Nd}(h0:0<ns.length)(hu:(nth ns 0).us=true)(hb:∀i,i<ns.length->(nth ns i).us=false->nth ns i=⟨false,[],[]⟩):Xi ns=QT ns:=by
 have hle:XS ns<=ns.length:=by
  have:=QlC (ns.map λn=>!n.us);rw[List.length_map]at this;exact this
 have hfl:QdH ns<=ns.length:=QlO ns _ 1 h0;have hge:1<=QdH ns:=Qiy ns _ 1
 have e:QdH ns=XS ns:=by
  rcases Nat.lt_trichotomy (QdH ns) (XS ns)with h|h|h
  ·have h1:=QiS ns ns.length 1 (by show QdH ns<_;omega) om;have h2:=Qlt (ns:=ns) h om;rw[show Qcd ns ns.length 1=QdH ns from rfl,h2]at h1;cases h1
  ·exact h
  ·have h1:=QeQ (ns:=ns) om
   have h2:1<=XS ns:=by
    rcases Nat.eq_zero_or_pos (XS ns)with h3|h3
    ·rw[h3,hu]at h1;cases h1
    ·exact h3
   have h3:=QjL ns ns.length 1 (XS ns) h2 h;rw[h3]at h1;cases h1
 unfold Xi QT;rw[e];split
 ·rename_i h;unfold usN;rw[hb _ h (QeQ h)]
 ·rfl
theorem Xt.blank{ns:List Nd}{T:BT}(h:Xt ns T){i:Nat}(hi:i<ns.length)(hu:(nth ns i).us=false):nth ns i=⟨false,[],[]⟩:=by
 by_cases hm:i∈T.nodes.map Prod.fst
 ·obtain⟨p,hp,rfl⟩:=List.mem_map.1 hm;have h1:=RepN.at_ (i:=p.1) (x:=p.2) h hp;rw[h1.2,Qbe T p hp]at hu;cases hu
 ·exact h.rest i hi hm
theorem Xt.root{ns:List Nd}{T:BT}(h:Xt ns T):T.idx<ns.length/\nth ns T.idx=⟨true,T.es,Xd T.ks⟩:=Xt.at_ (C:=[]) h
theorem Xt.frs{ns:List Nd}{T:BT}(h:Xt ns T)(h0:T.idx=0):Xi ns=QT ns:=by
 have h1:=h.root;rw[h0]at h1;exact Qsv h1.1 (by rw[h1.2]) λi hi hu=>h.blank hi hu
def Qme(co:Int)(key:List UInt8)(C:List Fr):Prop:=∀f∈C,f.l.length=plc co f.es key/\¬fnd co f.es key=true
theorem QjX{α:Type}[Inhabited α](l:List α)(x:α)(r:List α):nth (l++x::r) l.length=x:=QS (by simp)
theorem QqM{α:Type}(l:List α)(x d:α)(r:List α):(l++x::r).getD l.length d=x:=by simp
theorem BT.eta(T:BT):T=.nd T.idx T.es T.ks:=by cases T;rfl
theorem QqG{α:Type}[Inhabited α]{ks:List α}{p:Nat}(h:p<ks.length):ks=ks.take p++nth ks p::ks.drop (p+1):=by
 have e:nth ks p=ks[p]:=QS (List.getElem?_eq_getElem h);rw[e,<-List.drop_eq_getElem_cons h,List.take_append_drop]
theorem desc{co:Int}{ns:List Nd}{key:List UInt8}{lo hi rt:Nat}:∀(f d:Nat)(C:List Fr)(T:BT),Xt ns (plug C T)->Qax lo hi rt d C->Bel lo hi d T->((C=[]->T.es.length<=rt)/\(C≠[]->lo<=T.es.length/\T.es.length<=hi))->d<f ->
  ∃D T' d',plug D T'=T/\Qax lo hi rt d' (D++C)/\Bel lo hi d' T'/\((D++C=[]->T'.es.length<=rt)/\(D++C≠[]->lo<=T'.es.length/\T'.es.length<=hi))/\d'+D.length=d /\
   (Qdk co ns key f T.idx).1=(D.map Fr.i).reverse++[T'.idx]/\(Qdk co ns key f T.idx).2=(plc co T'.es key,fnd co T'.es key)/\(fnd co T'.es key=true\/T'.ks=[])/\Qme co key D
 | 0,d,C,T,_,_,_,_,h=>absurd h (Nat.not_lt_zero _)
 | f+1,d,C,T,hR,hC,hB,hb,hd=>by
  have hat:=hR.at_;have hes:(nth ns T.idx).es=T.es:=by rw[hat.2]
  have hcs:(nth ns T.idx).cs=Xd T.ks:=by rw[hat.2]
  rw[Qdk,hes,hcs,XH]
  by_cases h1:fnd co T.es key=true\/T.ks.length=0
  ·rw[if_pos h1];exact⟨[],T,d,rfl,hC,hB,hb,by simp,rfl,rfl,h1.imp id λh=>List.eq_nil_of_length_eq_zero h,λf hf=>(nomatch hf)⟩
  ·rw[if_neg h1];have hk:¬T.ks.length=0:=λh=>h1 (.inr h)
   obtain⟨d',rfl⟩:∃d',d=d'+1:=by
    cases d with
    | zero=>exact absurd (show T.ks.length=0 by rw[show T.ks=[]from hB];rfl) hk
    | succ d'=>exact⟨d',rfl⟩
   have hp:plc co T.es key<T.ks.length:=by
    have:=Qat co key T.es;have:=hB.1;omega
   have hsp:=QqG hp;generalize hl:T.ks.take (plc co T.es key)=l at hsp;generalize hr:T.ks.drop (plc co T.es key+1)=r at hsp;generalize hK:nth T.ks (plc co T.es key)=K at hsp;have hll:l.length=plc co T.es key:=by rw[<-hl,List.length_take];omega
   have hT:T=Fr.fill ⟨T.idx,T.es,l,r⟩ K:=by
    have:=T.eta;rw[hsp]at this;exact this
   have hbal:∀k∈T.ks,Bal lo hi d' k:=hB.2;have hBK:Bal lo hi d' K:=hbal K (by rw[hsp];simp)
   have hci:((Xd T.ks).getD (plc co T.es key) 0).toNat=K.idx:=by
    rw[hsp,QgL,Qal,<-hll,<-XH l,QqM];rfl
   rw[hci]
   have hctx:Qax lo hi rt d' (⟨T.idx,T.es,l,r⟩::C):=⟨⟨λk hk=>hbal k (by rw[hsp];simp[hk]),λk hk=>hbal k (by rw[hsp];simp[hk])⟩,by
    show l.length+r.length=T.es.length;have h9:=hB.1;rw[hsp]at h9;simp only[List.length_append,List.length_cons]at h9;omega,hb,hC⟩
   have hb2:=ZZ.1 hBK
   obtain⟨D,T',d9,e1,e2,e3,e4,e5,e6,e7,e8,e9⟩:=desc f d' (⟨T.idx,T.es,l,r⟩::C) K (by
    show Xt ns (plug C (Fr.fill _ K));rw[<-hT];exact hR) hctx hb2.1 ⟨λh=>(nomatch h),λ_=>hb2.2⟩ om
   refine⟨D++[⟨T.idx,T.es,l,r⟩],T',d9,?_,?_,e3,?_,?_,?_,e7,e8,λg hg=>?_⟩
   ·rw[Qpv,e1];exact hT.symm
   ·rw[List.append_assoc];exact e2
   ·rw[List.append_assoc];exact e4
   ·simp only[List.length_append,List.length_singleton];omega
   ·rw[e6];simp
   ·rcases List.mem_append.1 hg with hg|hg
    ·exact e9 g hg
    ·rcases List.mem_singleton.1 hg;exact⟨hll,λh=>h1 (.inl h)⟩
theorem QgX{k:BT}:∀{ks:List BT},k∈ks->k.nodes.length<=(nodesL ks).length
 | [],h=>(nomatch h)
 | x::ks,h=>by
  rw[nodesL,List.length_append];rcases List.mem_cons.1 h with rfl|h
  ·omega
  ·have:=QgX (ks:=ks) h;omega
theorem Qhu(T:BT):T.nodes.length=(nodesL T.ks).length+1:=by
 cases T with
 | nd i es ks=>rw[BT.nodes,List.length_cons];rfl
theorem QjN{lo hi:Nat}:∀{d:Nat}{T:BT},Bel lo hi d T->d+1<=T.nodes.length
 | 0,T,_=>by
  rw[Qhu];omega
 | d+1,T,h=>by
  obtain⟨k,ks,e⟩:∃k ks,T.ks=k::ks:=by
   cases hk:T.ks with
   | nil=>
    have:=h.1;rw[hk]at this;simp at this
   | cons k ks=>exact⟨k,ks,rfl⟩
  have hm:k∈T.ks:=by rw[e];exact List.mem_cons_self ..
  have h1:=QjN (ZZ.1 (h.2 k hm)).1;have h2:=QgX hm;rw[Qhu];omega
theorem Xt.nlen{ns:List Nd}{T:BT}(h:Xt ns T):T.nodes.length<=ns.length:=by
 have:=Qee ns.length (T.nodes.map Prod.fst) h.nd λx hx=>by
  obtain⟨p,hp,rfl⟩:=List.mem_map.1 hx;exact RepN.lt h hp
 rwa[List.length_map]at this
section
variable{ns:List Nd}{mo:Int}{f:Fr}{C:List Fr}{i:Nat}{es:List TEnt}{ks:List BT}
theorem QkT(h:Xt ns (plug (f::C) (.nd i es ks))):f.i<(splA mo ns i).length/\nth (splA mo ns i) f.i=⟨true,f.es,Xd f.l++(i:Int)::Xd f.r⟩/\(i:Int) ∉ Xd f.l:=by
 have h1:=(Qi3 (mo:=mo) h).2;have hk:=Qhp (mo:=mo) h
 have hm:(f.i,(⟨true,f.es,Xd f.l++(i:Int)::Xd f.r⟩:Nd))∈((i,(⟨true,es.take (Qw mo),(Xd ks).take (Qw mo+1)⟩:Nd))::((QT ns).1,⟨true,es.drop (Qw mo+1),(Xd ks).drop (Qw mo+1)⟩)::(Xx (f::C) i++nodesL ks)):=by
  refine List.mem_cons_of_mem _ (List.mem_cons_of_mem _ (List.mem_append_left _ ?_));rw[Xx,Fr.nodes];exact List.mem_cons_self ..
 have h2:=h1.at_ hm;refine⟨h2.1,h2.2,λhi=>?_⟩;have h3:=(List.pairwise_flatMap.1 hk).1 _ hm;exact(List.nodup_append.1 h3).2.2 _ hi _ (List.mem_cons_self ..) rfl
theorem QlK(h:Xt ns (plug (f::C) (.nd i es ks)))(h0:(plug (f::C) (.nd i es ks)).idx=0):QhZ mo ns f.i i=Qa2 mo ns i:=by
 have hA:splRA mo ns i=splA mo ns i:=by
  unfold splRA splA;rw[h.frs h0]
 have h1:=QkT (mo:=mo) h;have h2:=(Qbm (mo:=mo) h).2.1;unfold QhZ Qa2;rw[hA,h2,h1.2.1,h.frs h0];simp only[];have h3:=Qh8 (B:=Xd f.r) h1.2.2;unfold ixR;rw[h3,if_pos (by simp),XH]
theorem Qrj{lo hi rt d:Nat}(h:Xt ns (plug (f::C) (.nd i es ks)))(hC:Qax lo hi rt d (f::C))(hB:Bel lo hi d (.nd i es ks))(hmo:0<=mo/\mo<=1000)(hlen:ns.length<=900)(hsm:Sm 900 ns)(hes:Qw mo<es.length):SpOk mo ns i:=by
 have hat:i<ns.length/\nth ns i=⟨true,es,Xd ks⟩:=Xt.at_ (T:=.nd i es ks) h;have h1:=QkT (mo:=mo) h;have h2:=(Qbm (mo:=mo) h).2.1;have h3:=hC.2.1;refine⟨hmo,hlen,hsm,hat.1,by rw[hat.2],by rw[hat.2];exact hes,?_,?_,?_,?_⟩
 ·rw[hat.2];rcases hB.cs with hk|hk
  ·left;show(Xd ks).length=0;rw[show ks=[]from hk];rfl
  ·right;have:ks.length=es.length+1:=hk;show _<=(Xd ks).length;rw[XH];omega
 ·rw[h2];exact h1.1
 ·rw[h2];simp only[];rw[h1.2.1];show f.l.length<=f.es.length;omega
 ·rw[h2];simp only[];rw[h1.2.1];simp only[List.length_append,List.length_cons,XH];omega
theorem Qrq(h:Xt ns (plug (f::C) (.nd i es ks)))(h0:(plug (f::C) (.nd i es ks)).idx=0)(hs:SpOk mo ns i):SpROk mo ns f.i i:=by
 have hA:splRA mo ns i=splA mo ns i:=by
  unfold splRA splA;rw[h.frs h0]
 have h1:=QkT (mo:=mo) h;have h2:=(Qbm (mo:=mo) h).2.1;have h3:=Qh8 (B:=Xd f.r) h1.2.2
 have hx:ixR (nth (splRA mo ns i) f.i).cs (i:Int)=f.l.length:=by
  rw[hA,h1.2.1];unfold ixR;simp only[];rw[h3,if_pos (by simp),XH]
 have hp:f.i<ns.length:=by
  have:=h.plug;exact this.lt (p:=(f.i,⟨true,f.es,Xd f.l++(i:Int)::Xd f.r⟩)) (List.mem_append_left _ (by rw[Xx,Fr.nodes];exact List.mem_cons_self ..))
 refine⟨hs.mo0,hs.len,hs.sm,hs.lt,hs.us,hs.es,hs.cs,hp,?_,?_⟩
 ·rw[hx,hA,h1.2.1];have:=hs.parE;rw[h2]at this;simp only[]at this;rw[h1.2.1]at this;exact this
 ·rw[hx,hA,h1.2.1];simp only[List.length_append,List.length_cons,XH];omega
end
def Qhq(rt:Nat)(T:BT):Prop:=T.es=[]->∀k,T.ks=[k]->rt<k.es.length
def Qg5(rt:Nat):List Fr->Nat->Prop
 | [],_=>True
 | [f],n=>f.es=[]->rt<n
 | f::g::C,_=>Qg5 rt (g::C) f.es.length
theorem Qg5.mono{rt:Nat}:∀{C:List Fr}{n m:Nat},Qg5 rt C n->n<=m->Qg5 rt C m
 | [],_,_,_,_=>trivial
 | [f],n,m,h,hm=>λe=>Nat.lt_of_lt_of_le (h e) hm
 | f::g::C,_,_,h,_=>h
theorem QmK{lo hi rt:Nat}:∀{D:List Fr}{d:Nat}{T:BT},Qax lo hi rt d D->Qhq rt (plug D T)->Qg5 rt D T.es.length
 | [],_,T,_,_=>trivial
 | [f],_,T,hC,h=>λe=>by
  have h1:=hC.2.1;rw[e]at h1;have hl:f.l=[]:=List.eq_nil_of_length_eq_zero (by simp only[List.length_nil]at h1;omega);have hr:f.r=[]:=List.eq_nil_of_length_eq_zero (by simp only[List.length_nil]at h1;omega);refine h e T ?_;show f.l++T::f.r=[T];rw[hl,hr];rfl
 | f::g::C,d,T,hC,h=>QmK (D:=g::C) (T:=f.fill T) hC.2.2.2 h
theorem Qi0{P A:List Nat}{x:Nat}(h:P.take (A.length+1)=(x::A).reverse):nth P A.length=x/\P.take A.length=A.reverse:=by
 rw[List.reverse_cons]at h;constructor
 ·apply QS
  have h1:(P.take (A.length+1))[A.length]?=some x:=by
   rw[h,List.getElem?_append_right (by simp)];simp
  rw[List.getElem?_take]at h1
  simpa using h1
 ·have h1:(P.take (A.length+1)).take A.length=A.reverse:=by
   rw[h,List.take_append_of_le_length (by simp),List.take_of_length_le (by simp)]
  rw[List.take_take]at h1;rw[<-h1];congr 1;omega
theorem QpK{mo:Int}{lo hi d i o:Nat}{es:List TEnt}{ks:List BT}(hmo:mo=(hi:Int))(hlo:lo=hi/2)(hB:Bel lo hi d (.nd i es ks))(hl:es.length=hi+1) :
  Bal lo hi d (.nd i (es.take (Qw mo)) (ks.take (Qw mo+1)))/\Bal lo hi d (.nd o (es.drop (Qw mo+1)) (ks.drop (Qw mo+1))):=by
 have hm:Qw mo=(hi+1)/2:=by unfold Qw;omega
 rw[ZZ,ZZ];have e1:lo<=(es.take (Qw mo)).length/\(es.take (Qw mo)).length<=hi:=by rw[List.length_take];omega
 have e2:lo<=(es.drop (Qw mo+1)).length/\(es.drop (Qw mo+1)).length<=hi:=by rw[List.length_drop];omega
 refine⟨⟨?_,e1⟩,⟨?_,e2⟩⟩
 ·cases d with
  | zero=>
   show ks.take _=[];rw[show ks=[]from hB,List.take_nil]
  | succ d=>
   have h1:ks.length=es.length+1:=hB.1;refine⟨?_,λk hk=>hB.2 k (List.mem_of_mem_take hk)⟩;show(ks.take (Qw mo+1)).length=(es.take (Qw mo)).length+1;rw[List.length_take,List.length_take];omega
 ·cases d with
  | zero=>
   show ks.drop _=[];rw[show ks=[]from hB,List.drop_nil]
  | succ d=>
   have h1:ks.length=es.length+1:=hB.1;refine⟨?_,λk hk=>hB.2 k (List.mem_of_mem_drop hk)⟩;show(ks.drop (Qw mo+1)).length=(es.drop (Qw mo+1)).length+1;rw[List.length_drop,List.length_drop];omega
theorem Qhm{mo:Int}{lo hi rt d i o:Nat}{f:Fr}{C:List Fr}{es:List TEnt}{ks:List BT}{up:TEnt}(hmo:mo=(hi:Int))(hlo:lo=hi/2)(hC:Qax lo hi rt d (f::C))(hB:Bel lo hi d (.nd i es ks))(hl:es.length=hi+1) :
  Bel lo hi (d+1) (.nd f.i (QP f.es f.l.length up) (f.l++.nd i (es.take (Qw mo)) (ks.take (Qw mo+1))::.nd o (es.drop (Qw mo+1)) (ks.drop (Qw mo+1))::f.r)):=by
 have h1:=QpK (o:=o) hmo hlo hB hl;have h2:=hC.2.1;refine⟨?_,λk hk=>?_⟩
 ·show(f.l++_::_::f.r).length=(QP f.es f.l.length up).length+1;rw[Zj om];simp only[List.length_append,List.length_cons];omega
 ·rcases List.mem_append.1 hk with hk|hk
  ·exact hC.1.1 k hk
  ·rcases List.mem_cons.1 hk with rfl|hk
   ·exact h1.1
   ·rcases List.mem_cons.1 hk with rfl|hk
    ·exact h1.2
    ·exact hC.1.2 k hk
theorem QfR{mo:Int}{lo hi rt d i o:Nat}{f:Fr}{C:List Fr}{es:List TEnt}{ks:List BT}(hC:Qax lo hi rt d (f::C))(hB:Bel lo hi d (.nd i es ks))(hl:Qw mo<es.length) :
  (BT.nd f.i (QP f.es f.l.length (nth es (Qw mo))) (f.l++.nd i (es.take (Qw mo)) (ks.take (Qw mo+1))::.nd o (es.drop (Qw mo+1)) (ks.drop (Qw mo+1))::f.r)).flat=(f.fill (.nd i es ks)).flat:=by
 rw[BT.flat,QnQ hC.2.1,BT.flat,BT.flat,Qe9 (Qw mo) es ks hl hB.cs];show _=(BT.nd f.i f.es (f.l++BT.nd i es ks::f.r)).flat;rw[BT.flat,QcZ _ _ _ _ hC.2.1,BT.flat]
def XT(ns:List Nd):Prop:=(nth ns (ns.length-1)).us=true
theorem Qrh{ns:List Nd}{i:Nat}{x:Nd}(hx:x.us=(nth ns i).us)(k:Nat):(nth (ns.set i x) k).us=(nth ns k).us:=by
 rw[QaO];split
 ·rename_i h;rw[hx,h.1]
 ·rfl
theorem Qs5(ns:List Nd)(i:Nat)(es:List TEnt)(k:Nat):(nth (esN ns i es) k).us=(nth ns k).us:=Qrh (x:={nth ns i with es:=es}) rfl k
theorem Qs7(ns:List Nd)(i:Nat)(cs:List Int)(k:Nat):(nth (csN ns i cs) k).us=(nth ns k).us:=Qrh (x:={nth ns i with cs:=cs}) rfl k
theorem XT.es{ns:List Nd}(h:XT ns)(i:Nat)(es:List TEnt):XT (esN ns i es):=by
 unfold XT;rw[QbW,Qs5];exact h
theorem XT.cs{ns:List Nd}(h:XT ns)(i:Nat)(cs:List Int):XT (csN ns i cs):=by
 unfold XT;rw[Qd2,Qs7];exact h
theorem XT.fre{ns:List Nd}(h:XT ns):XT (QT ns).2:=by
 unfold QT;split
 ·unfold XT usN;simp only[List.length_set];rw[QaO];split
  ·rfl
  ·exact h
 ·unfold XT;simp only[List.length_append,List.length_singleton,Nat.add_sub_cancel];rw[QjX]
theorem XT.spl{ns:List Nd}(h:XT ns)(mo:Int)(i:Nat):XT (Qa2 mo ns i):=by
 unfold Qa2 addP;refine XT.cs (XT.es ?_ _ _) _ _;unfold splA;split
 ·exact(h.fre.es _ _).es _ _
 ·exact(((h.fre.es _ _).es _ _).cs _ _).cs _ _
theorem XT.low{ns:List Nd}(h:XT ns):XT (XZ ns).2:=by
 unfold XZ;exact(((h.fre.es _ _).cs _ _).es _ _).cs _ _
structure Grown(mo:Int)(lo hi rt:Nat)(P:List Nat)(m k:Nat)(ns:List Nd)(W:List Nat)(fl:List TEnt):Prop where
 ok:Qcs mo ns W
 okR:QfZ mo P k ns
 same:Qb8 mo P k ns=X6 mo ns W
 tree:∃T d,Xt (X6 mo ns W) T/\T.idx=0/\Bel lo hi d T/\T.es.length<=rt+1/\Qhq rt T/\T.flat=fl
 sm:Sm (m+k) (X6 mo ns W)
 len:ns.length<=(X6 mo ns W).length/\(X6 mo ns W).length<=ns.length+k
 last:XT (X6 mo ns W)
theorem QiO{mo:Int}{lo hi rt:Nat}(hmo:mo=(hi:Int))(hlo:lo=hi/2)(hhi:hi<=900)(hrt:rt<=hi)(P:List Nat):∀(C:List Fr)(d m:Nat)(ns:List Nd)(T:BT),Xt ns (plug C T)->(plug C T).idx=0->Qax lo hi rt d C->Bel lo hi d T ->
  ((C=[]->T.es.length<=rt+1)/\(C≠[]->lo<=T.es.length/\T.es.length<=hi+1))->Qg5 rt C T.es.length->(C=[]->Qhq rt T)->Sm m ns->m+C.length<=899->ns.length+C.length<=899->XT ns->P.take (C.length+1)=(T.idx::C.map Fr.i).reverse ->
  Grown mo lo hi rt P m C.length ns (T.idx::C.map Fr.i) (plug C T).flat
 | [],d,m,ns,T,hR,h0,hC,hB,hb,hg,hn,hs,hm,hl,hu,hP=>by
  have h1:T.idx=0:=h0;have hat:=Xt.at_ (C:=[]) hR
  have e:X6 mo ns [T.idx]=ns:=by
   show Qbf mo ns T.idx=ns;unfold Qbf;rw[if_neg (λh=>om)]
  have hroot:Xt ns T:=hR;refine⟨⟨⟨hat.1,λh=>om⟩,trivial⟩,trivial,e.symm,?_,?_,?_,?_⟩
  ·show∃T' d',Xt (X6 mo ns [T.idx]) T'/\_;rw[e];exact⟨T,d,hroot,h1,hB,hb.1 rfl,hn rfl,rfl⟩
  ·show Sm m (X6 mo ns [T.idx]);rw[e];exact hs
  ·show _<=(X6 mo ns [T.idx]).length/\(X6 mo ns [T.idx]).length<=_;rw[e];exact⟨Nat.le_refl _,Nat.le_refl _⟩
  ·show XT (X6 mo ns [T.idx]);rw[e];exact hu
 | f::C,d,m,ns,.nd i es ks,hR,h0,hC,hB,hb,hg,hn,hs,hm,hl,hu,hP=>by
  have hne:i≠0:=by
   have:=QsL hR (by simp);rw[h0]at this;exact this
  have hat:i<ns.length/\nth ns i=⟨true,es,Xd ks⟩:=Xt.at_ (T:=.nd i es ks) hR;have hb1:lo<=es.length/\es.length<=hi+1:=hb.2 (by simp);have hlen2:(C.map Fr.i).length=C.length:=by simp
  have hP1:=Qi0 (A:=f.i::C.map Fr.i) (x:=i) (by
   rw[List.length_cons,hlen2];exact hP)
  rw[List.length_cons,hlen2]at hP1
  have hP2:=Qi0 (A:=C.map Fr.i) (x:=f.i) (by
   rw[hlen2];exact hP1.2)
  rw[hlen2]at hP2;have hCl:(f::C).length=C.length+1:=rfl;have hf:=hC.2.2.1
  have hgC:∀n,f.es.length<=n->Qg5 rt C n:=λn hle=>by
   cases C with
   | nil=>trivial
   | cons g C'=>exact Qg5.mono (show Qg5 rt (g::C') f.es.length from hg) hle
  have hlt9:(nth ns (nth P (C.length+1))).es.length=es.length:=by rw[hP1.1,hat.2]
  by_cases hbig:es.length<=hi
  ·have e1:Qbf mo ns i=ns:=by
    unfold Qbf;rw[if_neg (λh=>by rw[hat.2]at h;have:=h.2;simp only[]at this;omega)]
   have hno:¬mo<((nth ns (nth P (C.length+1))).es.length:Int):=by rw[hlt9];omega
   have ih:=QiO hmo hlo hhi hrt P C (d+1) m ns (f.fill (.nd i es ks)) hR h0 hC.2.2.2 (QqT hC (ZZ.2 ⟨hB,hb1.1,hbig⟩)) ⟨λh=>Nat.le_succ_of_le (hf.1 h),λh=>⟨(hf.2 h).1,Nat.le_succ_of_le (hf.2 h).2⟩⟩ (hgC _ (Nat.le_refl _)) (λh=>by
    subst h;intro e k hk;have h9:f.l++BT.nd i es ks::f.r=[k]:=hk;cases hfl:f.l with
    | nil=>
     rw[hfl]at h9;have:BT.nd i es ks=k:=(List.cons.inj h9).1;rw[<-this];exact hg e
    | cons a b=>
     rw[hfl]at h9;simp at h9) hs (by rw[hCl]at hm;omega) (by rw[hCl]at hl;omega) hu hP1.2
   have eW:X6 mo ns (i::(f::C).map Fr.i)=X6 mo ns ((f.fill (.nd i es ks)).idx::C.map Fr.i):=by
    show X6 mo (Qbf mo ns i) _=_;rw[e1];rfl
   refine⟨⟨⟨hat.1,λ_(h:mo<((nth ns i).es.length:Int))=>by rw[hat.2]at h;simp only[]at h;omega⟩,?_⟩,⟨⟨by rw[hP1.1];exact hat.1,λh=>absurd h hno⟩,?_⟩,?_,?_,?_,?_,?_⟩
   ·rw[show Qbf mo ns (BT.nd i es ks).idx=ns from e1];exact ih.ok
   ·rw[if_neg hno];exact ih.okR
   ·show Qb8 mo P C.length (if _ then _ else _)=X6 mo ns (i::(f::C).map Fr.i);rw[if_neg hno,eW];exact ih.same
   ·show∃T d,Xt (X6 mo ns (i::(f::C).map Fr.i)) T/\_;rw[eW];exact ih.tree
   ·show Sm _ (X6 mo ns (i::(f::C).map Fr.i));rw[eW];exact ih.sm.mono (by rw[hCl];omega)
   ·show _<=(X6 mo ns (i::(f::C).map Fr.i)).length/\(X6 mo ns (i::(f::C).map Fr.i)).length<=_;rw[eW];have:=ih.len;rw[hCl];omega
   ·show XT (X6 mo ns (i::(f::C).map Fr.i));rw[eW];exact ih.last
  ·have hle:es.length=hi+1:=om
   have hmE:Qw mo<es.length:=by unfold Qw;omega
   have hyes:mo<((nth ns (nth P (C.length+1))).es.length:Int):=by rw[hlt9];omega
   have e1:Qbf mo ns i=Qa2 mo ns i:=by
    unfold Qbf;rw[if_pos ⟨om,by rw[hat.2];simp only[];omega⟩]
   have hok:=Qrj hR hC hB om om (hs.mono om) hmE;have hokR:=Qrq hR h0 hok;have hsR:=QlK (mo:=mo) hR h0;have hsp:=(Qbm (mo:=mo) hR).2.2;have hsl:=QkE mo ns i;generalize hup:nth es (Qw mo)=up at hsp;have hflat:=QfR (mo:=mo) (o:=(QT ns).1) hC hB hmE;rw[hup]at hflat;have hbl:=Qhm (o:=(QT ns).1) (up:=up) hmo hlo hC hB hle;have hil:(QP f.es f.l.length up).length=f.es.length+1:=Zj (by have:=hC.2.1;omega);generalize hT2:BT.nd f.i (QP f.es f.l.length up) (f.l++BT.nd i (es.take (Qw mo)) (ks.take (Qw mo+1))::BT.nd (QT ns).1 (es.drop (Qw mo+1)) (ks.drop (Qw mo+1))::f.r)=T2 at hsp hflat hbl;have hT2i:T2.idx=f.i:=by rw[<-hT2];rfl
   have hT2e:T2.es.length=f.es.length+1:=by rw[<-hT2];exact hil
   have ih:=QiO hmo hlo hhi hrt P C (d+1) (m+1) (Qa2 mo ns i) T2 hsp (by
    rw[Qf2 C T2 (f.fill (.nd i es ks)) hT2i];exact h0) hC.2.2.2 hbl ⟨λh=>by rw[hT2e];have:=hf.1 h;omega,λh=>by rw[hT2e];have:=hf.2 h;omega⟩ (hgC _ om) (λh e=>by rw[e]at hT2e;simp at hT2e) (hs.spl mo i) (by rw[hCl]at hm;omega) (by rw[hCl]at hl;omega) (hu.spl mo i) (by rw[hT2i];exact hP1.2)
   have eW:X6 mo ns (i::(f::C).map Fr.i)=X6 mo (Qa2 mo ns i) (T2.idx::C.map Fr.i):=by
    show X6 mo (Qbf mo ns i) _=_;rw[e1,hT2i];rfl
   have hpf:(plug C T2).flat=(plug (f::C) (.nd i es ks)).flat:=by
    show _=(plug C (f.fill (.nd i es ks))).flat;rw[Qao hC.2.2.2,Qao hC.2.2.2,hflat]
   refine⟨⟨⟨hat.1,λ_ _=>hok⟩,?_⟩,⟨⟨by rw[hP1.1];exact hat.1,λ_=>by rw[hP1.1,hP2.1];exact hokR⟩,?_⟩,?_,?_,?_,?_,?_⟩
   ·rw[show Qbf mo ns (BT.nd i es ks).idx=Qa2 mo ns i from e1];have:=ih.ok;rw[hT2i]at this;exact this
   ·rw[if_pos hyes,hP1.1,hP2.1,hsR];exact ih.okR
   ·show Qb8 mo P C.length (if _ then _ else _)=X6 mo ns (i::(f::C).map Fr.i);rw[if_pos hyes,hP1.1,hP2.1,hsR,eW];exact ih.same
   ·show∃T d,Xt (X6 mo ns (i::(f::C).map Fr.i)) T/\_;rw[eW,<-hpf];exact ih.tree
   ·show Sm _ (X6 mo ns (i::(f::C).map Fr.i));rw[eW];exact ih.sm.mono (by rw[hCl];omega)
   ·show _<=(X6 mo ns (i::(f::C).map Fr.i)).length/\(X6 mo ns (i::(f::C).map Fr.i)).length<=_;rw[eW];have:=ih.len;rw[hCl];omega
   ·show XT (X6 mo ns (i::(f::C).map Fr.i));rw[eW];exact ih.last
def Srt(co:Int)(l:List TEnt):Prop:=l.Pairwise λa b=>QN co a.key b.key<0
theorem QeL{co:Int}{a b:List UInt8}(h:¬QN co a b<0)(h2:QN co a b≠0):QN co b a<0:=by
 have:=ZT co a b;omega
theorem Srt.asc{co:Int}{l:List TEnt}(h:Srt co l):Asc co l:=λk hk=>by
 have:=List.pairwise_iff_getElem.1 h k (k+1) om hk om;rw[show nth l k=l[k]from QS (List.getElem?_eq_getElem om),show nth l (k+1)=l[k+1]from QS (List.getElem?_eq_getElem hk)];exact this
theorem Srt.of_asc{co:Int}{l:List TEnt}(h:Asc co l):Srt co l:=List.pairwise_iff_getElem.2 λi j hi hj hij=>by
 have:=h.lt hij hj;rw[show nth l i=l[i]from QS (List.getElem?_eq_getElem hi),show nth l j=l[j]from QS (List.getElem?_eq_getElem hj)]at this;exact this
theorem Qkq{co:Int}{key:List UInt8}:∀{A l:List TEnt},(∀x∈A,QN co x.key key<0)->plc co (A++l) key=A.length+plc co l key
 | [],l,_=>by simp
 | a::A,l,h=>by
  rw[List.cons_append,plc,if_pos (h a (List.mem_cons_self ..)),Qkq λx hx=>h x (List.mem_cons_of_mem _ hx),List.length_cons];omega
theorem QjM{co:Int}{key:List UInt8}:∀{l B:List TEnt},(∀x∈B,QN co key x.key<0)->plc co (l++B) key=plc co l key
 | [],[],_=>rfl
 | [],b::B,h=>by
  have h1:=h b (List.mem_cons_self ..);have h2:=ZT co b.key key;show plc co (b::B) key=0;rw[plc,if_neg om]
 | a::l,B,h=>by
  rw[List.cons_append,plc,plc,QjM h]
theorem QnX{α:Type}{A l B:List α}{p:Nat}{x:α}(hp:p<=l.length):QP (A++(l++B)) (A.length+p) x=A++(QP l p x++B):=by
 unfold QP;rw[List.take_length_add_append,List.drop_length_add_append,List.take_append_of_le_length hp,List.drop_append_of_le_length hp];simp only[List.append_assoc,List.cons_append]
def Qg3(co:Int)(l:List TEnt)(key:List UInt8):Prop:=∃y∈l,QN co y.key key=0
theorem Qbp{co:Int}{key:List UInt8}:∀{l:List TEnt},Srt co l->(Qg3 co l key ↔ fnd co l key=true)
 | [],_=>by simp[Qg3,fnd]
 | y::l,h=>by
  have hp:=List.pairwise_cons.1 h;have ih:=Qbp (key:=key) hp.2;unfold fnd at ih ⊢;rw[plc]
  by_cases h1:QN co y.key key<0
  ·rw[if_pos h1];have e:nth (y::l) (plc co l key+1)=nth l (plc co l key):=rfl;rw[e,List.length_cons]
   have hh:Qg3 co (y::l) key ↔ Qg3 co l key:=by
    constructor
    ·rintro⟨z,hz,h2⟩;rcases List.mem_cons.1 hz with rfl|hz
     ·omega
     ·exact⟨z,hz,h2⟩
    ·rintro⟨z,hz,h2⟩;exact⟨z,List.mem_cons_of_mem _ hz,h2⟩
   rw[hh,ih];simp
  ·rw[if_neg h1];have e:nth (y::l) 0=y:=rfl;rw[e];simp only[List.length_cons,Nat.zero_lt_succ,decide_true,Bool.true_and,decide_eq_true_eq];constructor
   ·rintro⟨z,hz,h2⟩;rcases List.mem_cons.1 hz with rfl|hz
    ·exact h2
    ·exfalso;have h3:=hp.1 z hz
     by_cases h4:QN co y.key key=0
     ·have h5:=QfC.1 h4;have h6:=QfC.1 h2;have h7:=QfC.2 (h5.trans h6.symm);omega
     ·have h5:=QeL h1 h4;have h6:=Yu h5 h3;have h7:=ZT co z.key key;omega
   ·intro h2;exact⟨y,List.mem_cons_self ..,h2⟩
theorem QiI{co:Int}{x:TEnt}:∀{l:List TEnt},Srt co l->¬Qg3 co l x.key->Srt co (QP l (plc co l x.key) x)
 | [],_,_=>by
  show Srt co [x];simp[Srt]
 | y::l,h,hn=>by
  have hp:=List.pairwise_cons.1 h;have ih:=QiI (x:=x) hp.2 λ⟨z,hz,h2⟩=>hn ⟨z,List.mem_cons_of_mem _ hz,h2⟩;rw[plc]
  by_cases h1:QN co y.key x.key<0
  ·rw[if_pos h1];show Srt co (y::QP l (plc co l x.key) x);refine List.pairwise_cons.2 ⟨λz hz=>?_,ih⟩;unfold QP at hz;rcases List.mem_append.1 hz with hz|hz
   ·exact hp.1 z (List.mem_of_mem_take hz)
   ·rcases List.mem_cons.1 hz with rfl|hz
    ·exact h1
    ·exact hp.1 z (List.mem_of_mem_drop hz)
  ·rw[if_neg h1];show Srt co (x::y::l);have h2:=QeL h1 λh2=>hn ⟨y,List.mem_cons_self ..,h2⟩;refine List.pairwise_cons.2 ⟨λz hz=>?_,h⟩;rcases List.mem_cons.1 hz with rfl|hz
   ·exact h2
   ·exact Yu h2 (hp.1 z hz)
theorem Qj7{co:Int}{key:List UInt8}:∀{es:List TEnt}{l:List BT},Srt co (ZR es l)->l.length<=es.length->(∀j,j<l.length->QN co (nth es j).key key<0)->∀x∈ZR es l,QN co x.key key<0
 | es,[],_,_,_,x,hx=>by
  have e:ZR es []=[]:=by cases es<;>rfl
  rw[e]at hx;cases hx
 | [],k::l,_,h,_,x,hx=>absurd h (by simp)
 | e::es,k::l,hs,hl,h,x,hx=>by
  rw[ZR]at hs hx;have h1:=List.pairwise_append.1 hs;have he:QN co e.key key<0:=h 0 (by simp);rcases List.mem_append.1 hx with hx|hx
  ·exact Yu (h1.2.2 x hx e (List.mem_cons_self ..)) he
  ·rcases List.mem_cons.1 hx with rfl|hx
   ·exact he
   ·exact Qj7 (List.pairwise_cons.1 h1.2.1).2 (by simpa using hl) (λj hj=>h (j+1) (by simpa using hj)) x hx
theorem Qly{co:Int}{key:List UInt8}{lo hi rt:Nat}:∀{D:List Fr}{d:Nat},Qax lo hi rt d D->Qme co key D->Srt co (Qis D)->∀x∈Qis D,QN co x.key key<0
 | [],_,_,_,_,x,hx=>(nomatch hx)
 | f::D,d,hC,hL,hs,x,hx=>by
  rw[Qis]at hs hx;have h1:=List.pairwise_append.1 hs;have hf:=hL f (List.mem_cons_self ..);have hlen:=hC.2.1;rcases List.mem_append.1 hx with hx|hx
  ·exact Qly hC.2.2.2 (λg hg=>hL g (List.mem_cons_of_mem _ hg)) h1.1 x hx
  ·exact Qj7 h1.2.1 om (λj hj=>QbE co key f.es j om) x hx
theorem Qk1{co:Int}{key:List UInt8}{lo hi rt:Nat}:∀{D:List Fr}{d:Nat},Qax lo hi rt d D->Qme co key D->Srt co (Qif D)->∀x∈Qif D,QN co key x.key<0
 | [],_,_,_,_,x,hx=>(nomatch hx)
 | f::D,d,hC,hL,hs,x,hx=>by
  rw[Qif]at hs hx;have h1:=List.pairwise_append.1 hs;have hf:=hL f (List.mem_cons_self ..);rcases List.mem_append.1 hx with hx|hx
  ·rcases Nat.lt_or_ge f.l.length f.es.length with h2|h2
   ·have e:f.es.drop f.l.length=nth f.es f.l.length::f.es.drop (f.l.length+1):=by
     rw[List.drop_eq_getElem_cons h2,show nth f.es f.l.length=f.es[f.l.length]from QS (List.getElem?_eq_getElem h2)]
    have hgt:QN co key (nth f.es f.l.length).key<0:=by
     refine QeL ?_ λh3=>?_
     ·rw[hf.1]at h2 ⊢;exact Qik co key f.es h2
     ·refine hf.2 ?_;unfold fnd;rw[<-hf.1,decide_eq_true h2,decide_eq_true h3];rfl
    rw[e]at hx h1;cases hr:f.r with
    | nil=>
     rw[hr]at hx;cases hx
    | cons k r=>
     rw[hr]at hx h1;rw[Qga]at hx h1;rcases List.mem_cons.1 hx with rfl|hx
     ·exact hgt
     ·exact Yu hgt ((List.pairwise_cons.1 h1.1).1 x hx)
   ·rw[List.drop_of_length_le h2]at hx;cases hx
  ·exact Qk1 hC.2.2.2 (λg hg=>hL g (List.mem_cons_of_mem _ hg)) h1.2.1 x hx
structure Sz(mo rm:Int)(lo hi rt:Nat):Prop where
 emo:mo=(hi:Int)
 erm:rm=(rt:Int)
 elo:lo=hi/2
 hi3:3<=hi
 hi8:hi<=8
 lr:lo<=rt
 rh:rt<=hi
theorem Qwm{mo rm:Int}(h:XI mo rm=0):Sz mo rm (mo.toNat/2) mo.toNat rm.toNat:=by
 have h1:=Qcn h;constructor<;>omega
structure VT(co:Int)(lo hi rt d:Nat)(T:BT):Prop where
 idx:T.idx=0
 bel:Bel lo hi d T
 root:T.es.length<=rt
 gap:Qhq rt T
 srt:Srt co T.flat
 ents:∀x∈T.flat,Yc co x=0
theorem Qby{k:BT}{p:Nat×Nd}:∀{ks:List BT},p∈nodesL ks->∃k∈ks,p∈k.nodes
 | [],h=>by
  rw[nodesL]at h;cases h
 | x::ks,h=>by
  rw[nodesL]at h;rcases List.mem_append.1 h with h|h
  ·exact⟨x,List.mem_cons_self ..,h⟩
  ·obtain⟨k,hk,h2⟩:=Qby (k:=k) h;exact⟨k,List.mem_cons_of_mem _ hk,h2⟩
theorem Qi7{lo hi:Nat}:∀{d:Nat}{T:BT},Bel lo hi d T->∀{n:Nat},hi<=n->T.es.length<=n->∀p∈T.nodes,p.2.es.length<=n+1/\p.2.cs.length<=n+1
 | 0,.nd i es ks,h,n,hn,hl,p,hp=>by
  have e:ks=[]:=h;rw[e,BT.nodes,nodesL]at hp;rcases List.mem_cons.1 hp with rfl|hp
  ·exact⟨Nat.le_succ_of_le hl,by show 0<=_;omega⟩
  ·cases hp
 | d+1,.nd i es ks,h,n,hn,hl,p,hp=>by
  rw[BT.nodes]at hp;have hl':es.length<=n:=hl;have h1:ks.length=es.length+1:=h.1;rcases List.mem_cons.1 hp with rfl|hp
  ·refine⟨Nat.le_succ_of_le hl,?_⟩;show(Xd ks).length<=_;rw[XH];omega
  ·obtain⟨k,hk,hp⟩:=Qby (k:=default) hp;have h2:=ZZ.1 (h.2 k hk);exact Qi7 h2.1 hn om p hp
theorem Xt.sm{ns:List Nd}{T:BT}{lo hi d n:Nat}(h:Xt ns T)(hB:Bel lo hi d T)(hn:hi<=n)(hl:T.es.length<=n):Sm (n+1) ns:=λk=>by
 rcases Nat.lt_or_ge k ns.length with hk|hk
 ·by_cases hm:k∈T.nodes.map Prod.fst
  ·obtain⟨p,hp,rfl⟩:=List.mem_map.1 hm;have h1:=RepN.at_ (i:=p.1) (x:=p.2) h hp;rw[h1.2];exact Qi7 hB hn hl p hp
  ·rw[h.rest k hk hm];exact⟨Nat.zero_le _,Nat.zero_le _⟩
 ·rw[Yy hk];exact⟨Nat.zero_le _,Nat.zero_le _⟩
theorem QqO{ns:List Nd}{T:BT}(h:Xt ns T)(h0:T.idx=0):Qak ns=XZ ns:=by
 have hr:=h.root;rw[h0]at hr;unfold Qak XZ;rw[h.frs h0,Qct hr.1 (by rw[hr.2])]
structure RootGrown(mo rm:Int)(lo hi rt m:Nat)(ns:List Nd)(fl:List TEnt):Prop where
 ok:RootOk mo rm ns
 okR:RootROk mo rm ns
 same:QfV mo rm ns=Qa4 mo rm ns
 tree:∃T d,Xt (Qa4 mo rm ns) T/\T.idx=0/\Bel lo hi d T/\T.es.length<=rt/\Qhq rt T/\T.flat=fl
 len:ns.length<=(Qa4 mo rm ns).length/\(Qa4 mo rm ns).length<=ns.length+2
 last:XT (Qa4 mo rm ns)
theorem QnF{mo rm:Int}{lo hi rt d m:Nat}{ns:List Nd}{T:BT}(hz:Sz mo rm lo hi rt)(hR:Xt ns T)(h0:T.idx=0)(hB:Bel lo hi d T)(hb:T.es.length<=rt+1)(hg:Qhq rt T)(hs:Sm m ns)(hm:1<=m/\m<=880)(hl:ns.length<=880)(hu:XT ns):RootGrown mo rm lo hi rt m ns T.flat:=by
 cases T with
 | nd i es ks=>
 have hi0:i=0:=h0;subst hi0;have hmo:=hz.emo;have hrm:=hz.erm;have hlo:=hz.elo;have hi3:=hz.hi3;have hi8:=hz.hi8;have hlr:=hz.lr;have hrh:=hz.rh;have hat:0<ns.length/\nth ns 0=⟨true,es,Xd ks⟩:=Xt.root hR;have hb':es.length<=rt+1:=hb;have hlow:=QqO hR h0;have hrl:=(Qsx hR).2;have hrl2:Xt (XZ ns).2 (plug [⟨0,[],[],[]⟩] (.nd (QT ns).1 es ks)):=hrl;have hown:(XZ ns).1<(XZ ns).2.length/\nth (XZ ns).2 (XZ ns).1=⟨true,es,Xd ks⟩:=Xt.at_ hrl2;have hC:Qax lo hi rt d [⟨0,[],[],[]⟩]:=⟨⟨λk hk=>(nomatch hk),λk hk=>(nomatch hk)⟩,rfl,⟨λ_=>Nat.zero_le _,λh=>absurd rfl h⟩,trivial⟩;have hll:=Qp0 ns;have hsl:Sm 900 (XZ ns).2:=(hs.low hm.1).mono om;have hspl:Qw mo<es.length->SpOk mo (XZ ns).2 (XZ ns).1:=λh=>Qrj hrl2 hC (show Bel lo hi d (.nd (QT ns).1 es ks) by cases d<;>exact hB) om om hsl h;have hsplR:SpOk mo (XZ ns).2 (XZ ns).1->SpROk mo (XZ ns).2 0 (XZ ns).1:=λh=>Qrq hrl2 rfl h;have hspE:QhZ mo (XZ ns).2 0 (XZ ns).1=Qa2 mo (XZ ns).2 (XZ ns).1:=QlK (mo:=mo) hrl2 rfl
 have hbig:mo<((nth (XZ ns).2 (XZ ns).1).es.length:Int)->Qw mo<es.length:=λh=>by
  rw[hown.2]at h;simp only[]at h;unfold Qw;omega
 have hnB:Bel lo hi d (.nd (QT ns).1 es ks):=by cases d<;>exact hB
 refine⟨⟨hat.1,om,by rw[hat.2],λ_ h=>hspl (hbig h)⟩,⟨hat.1,om,by rw[hat.2],λ_ h=>by rw[hlow]at h ⊢;exact hsplR (hspl (hbig h))⟩,?_,?_,?_,?_⟩
 ·unfold QfV Qa4;rw[hlow,hspE]
 ·unfold Qa4;rw[hat.2,hown.2];simp only[]
  by_cases h1:rm<(es.length:Int)
  ·rw[if_pos h1]
   by_cases h2:mo<(es.length:Int)
   ·rw[if_pos h2];have hsp:=(Qbm (mo:=mo) hrl2).2.2;have hE:Qw mo<es.length:=by unfold Qw;omega
    have hle:es.length=hi+1:=om
    refine⟨_,d+1,hsp,rfl,Qhm hmo hlo hC hnB hle,?_,λe=>?_,?_⟩
    ·show(QP ([]:List TEnt) 0 _).length<=rt;rw[Zj (Nat.zero_le _)];simp only[List.length_nil];omega
    ·exfalso;have e2:(QP ([]:List TEnt) 0 (nth es (Qw mo))).length=0:=congrArg List.length e;rw[Zj (Nat.zero_le _)]at e2;simp at e2
    ·have hf:=QfR (mo:=mo) (o:=(QT (XZ ns).2).1) hC hnB hE;refine hf.trans ?_;show(BT.nd 0 [] [BT.nd (QT ns).1 es ks]).flat=_;rw[BT.flat,flatL,flatL,List.append_nil,BT.flat,BT.flat]
   ·rw[if_neg h2];refine⟨_,d+1,hrl,rfl,⟨rfl,λk hk=>?_⟩,Nat.zero_le _,λ_ k hk=>?_,?_⟩
    ·rcases List.mem_singleton.1 hk;exact ZZ.2 ⟨hnB,by show lo<=es.length/\es.length<=hi;omega⟩
    ·have:BT.nd (QT ns).1 es ks=k:=(List.cons.inj hk).1;rw[<-this];show rt<es.length;omega
    ·rw[BT.flat,flatL,flatL,List.append_nil,BT.flat,BT.flat]
  ·rw[if_neg h1];exact⟨_,d,hR,rfl,hB,by show es.length<=rt;omega,hg,rfl⟩
 ·unfold Qa4;split
  ·split
   ·have:=QkE mo (XZ ns).2 (XZ ns).1;omega
   ·omega
  ·omega
 ·unfold Qa4;split
  ·split
   ·exact hu.low.spl _ _
   ·exact hu.low
  ·exact hu
theorem Qmd{co:Int}{lo hi rt d:Nat}{ns:List Nd}{T:BT}(hR:Xt ns T)(hV:VT co lo hi rt d T)(key:List UInt8):∃D T' d',plug D T'=T/\Qax lo hi rt d' D/\Bel lo hi d' T'/\((D=[]->T'.es.length<=rt)/\(D≠[]->lo<=T'.es.length/\T'.es.length<=hi))/\d'+D.length=d/\d<ns.length /\
  (Qt co ns key).1=(D.map Fr.i).reverse++[T'.idx]/\(Qt co ns key).2=(plc co T'.es key,fnd co T'.es key)/\(fnd co T'.es key=true\/T'.ks=[])/\Qme co key D:=by
 have h1:=QjN hV.bel;have h2:=hR.nlen;obtain⟨D,T',d',e1,e2,e3,e4,e5,e6,e7,e8,e9⟩:=desc (key:=key) (rt:=rt) (co:=co) ns.length d [] T hR trivial hV.bel ⟨λ_=>hV.root,λh=>absurd rfl h⟩ om;rw[hV.idx]at e6 e7;simp only[List.append_nil]at e2 e4;exact⟨D,T',d',e1,e2,e3,e4,e5,om,e6,e7,e8,e9⟩
theorem QoC(A:List Nat)(i:Nat):Yf (A++[i])=i:=by
 unfold Yf;rw[List.length_append,List.length_singleton,Nat.add_sub_cancel];exact QjX A i []
structure Inserted(co mo rm:Int)(lo hi rt:Nat)(ns:List Nd)(x:TEnt)(fl:List TEnt):Prop where
 ok:InsOk co mo rm ns x
 okR:InsROk co mo rm ns x
 same:Qsy co mo rm ns x=Qac co mo rm ns x
 tree:∃T d,Xt (Qac co mo rm ns x) T/\VT co lo hi rt d T/\T.flat=QP fl (plc co fl x.key) x
 len:ns.length<=(Qac co mo rm ns x).length/\(Qac co mo rm ns x).length<=2*ns.length+2
 last:XT (Qac co mo rm ns x)
theorem Qia:∀(es:List TEnt)(ks:List BT),es.Sublist (flatL es ks)
 | es,[]=>by rw[Yk];exact List.Sublist.refl _
 | [],k::ks=>List.nil_sublist _
 | e::es,k::ks=>by
  rw[flatL];exact((Qia es ks).cons_cons e).trans (List.sublist_append_right _ _)
theorem QoP{co:Int}{lo hi rt d:Nat}{ns:List Nd}{T:BT}(hR:Xt ns T)(hV:VT co lo hi rt d T)(key:List UInt8):(Qt co ns key).2.2=true ↔ Qg3 co T.flat key:=by
 obtain⟨D,T',d',e1,e2,e3,e4,e5,e6,e7,e8,e9,e10⟩:=Qmd hR hV key;have hfl:T.flat=Qis D++(T'.flat++Qif D):=by rw[<-e1];exact Qao e2
 have hs:=hV.srt;rw[hfl]at hs;have h1:=List.pairwise_append.1 hs;have h2:=List.pairwise_append.1 h1.2.1;rw[e8,hfl];simp only[];cases T' with
 | nd i es ks=>
 constructor
 ·intro h;have hsub:=Qia es ks;have hses:Srt co es:=h2.1.sublist (by rw[BT.flat];exact hsub);obtain⟨y,hy,hc⟩:=(Qbp hses).2 h;exact⟨y,List.mem_append_right _ (List.mem_append_left _ (by rw[BT.flat];exact hsub.subset hy)),hc⟩
 ·intro h;rcases e9 with h9|h9
  ·exact h9
  ·have hk:ks=[]:=h9;subst hk;obtain⟨y,hy,hc⟩:=h;rw[QeC]at hy h2;refine(Qbp (show Srt co es from h2.1)).1 ?_;rcases List.mem_append.1 hy with hy|hy
   ·have:=Qly e2 e10 h1.1 y hy;omega
   ·rcases List.mem_append.1 hy with hy|hy
    ·exact⟨y,hy,hc⟩
    ·have:=Qk1 e2 e10 h2.2.1 y hy;have:=ZT co y.key key;omega
theorem QmN{co mo rm:Int}{lo hi rt d:Nat}{ns:List Nd}{T:BT}{x:TEnt}(hz:Sz mo rm lo hi rt)(hR:Xt ns T)(hV:VT co lo hi rt d T)(hl:ns.length<=400)(hu:XT ns)(hx:Yc co x=0)(hnf:¬(Qt co ns x.key).2.2=true):Inserted co mo rm lo hi rt ns x T.flat:=by
 have hnk:¬Qg3 co T.flat x.key:=λh=>hnf ((QoP hR hV x.key).2 h);have hsmT:=hR.sm hV.bel (Nat.le_refl hi) (Nat.le_trans hV.root hz.rh);obtain⟨D,T',d',e1,e2,e3,e4,e5,e6,e7,e8,e9,e10⟩:=Qmd hR hV x.key;rw[e8]at hnf;have hks:T'.ks=[]:=e9.resolve_left hnf;cases T' with
 | nd i es ks=>
 have hk0:ks=[]:=hks;subst hk0;have hi8:=hz.hi8;have hi3:=hz.hi3;have hrh:=hz.rh;have hR1:Xt ns (plug D (.nd i es [])):=by rw[e1];exact hR
 have hat:i<ns.length/\nth ns i=⟨true,es,[]⟩:=Xt.at_ hR1;have hfl:T.flat=Qis D++(es++Qif D):=by rw[<-e1,Qao e2,QeC]
 have hsr:=hV.srt;rw[hfl]at hsr;have hs1:=List.pairwise_append.1 hsr;have hs2:=List.pairwise_append.1 hs1.2.1;have hple:=Qat co x.key es
 have hb4:es.length<=hi:=by
  by_cases hD:D=[]
  ·have:es.length<=rt:=e4.1 hD;omega
  ·exact(e4.2 hD).2
 have hlf:Yf (Qt co ns x.key).1=i:=by rw[e7];exact QoC _ _
 have hlf2:YZ co ns x.key=i:=hlf;have hpl:(Qt co ns x.key).2.1=plc co es x.key:=by rw[e8];rfl
 have hinsB:QiE co ns x=esN ns i (QP es (plc co es x.key) x):=by
  unfold QiE;rw[hlf2,hpl,hat.2]
 have hPl:(Qt co ns x.key).1.length=D.length+1:=by rw[e7];simp
 have hPr:(Qt co ns x.key).1.reverse=i::D.map Fr.i:=by
  rw[e7];simp;rfl
 have hidx:(plug D (.nd i (QP es (plc co es x.key) x) [])).idx=0:=by
  rw[Qf2 D (.nd i (QP es (plc co es x.key) x) []) (.nd i es []) rfl,e1];exact hV.idx
 have hgc:Qg5 rt D es.length:=QmK (T:=.nd i es []) e2 (by rw[e1];exact hV.gap);have hil:(QP es (plc co es x.key) x).length=es.length+1:=Zj hple
 have hG:=QiO (lo:=lo) (hi:=hi) (rt:=rt) hz.emo hz.elo om hz.rh (Qt co ns x.key).1 D d' (hi+2) (esN ns i (QP es (plc co es x.key) x)) (.nd i (QP es (plc co es x.key) x) []) (QtG hR1 _) hidx e2 (show Bel lo hi d' (.nd i _ []) by
   have:=e3.leaf rfl;subst this
   rfl) ⟨λh=>by show(QP es _ x).length<=_;rw[hil];have:=e4.1 h;exact Nat.succ_le_succ this,λh=>by show lo<=(QP es _ x).length/\(QP es _ x).length<=_;rw[hil];have h9:=e4.2 h;exact⟨Nat.le_succ_of_le h9.1,Nat.succ_le_succ h9.2⟩⟩ (hgc.mono (by show es.length<=(QP es _ x).length;omega)) (λ_ e=>by
    intro k hk;cases hk) ((hsmT.mono om).es i (by rw[hil];omega)) om (by rw[QbW];omega) (hu.es _ _) (by
    show(Qt co ns x.key).1.take (D.length+1)=(i::D.map Fr.i).reverse;rw[<-hPl,List.take_length,<-hPr,List.reverse_reverse])
 have hfl2:(plug D (.nd i (QP es (plc co es x.key) x) [])).flat=QP T.flat (plc co T.flat x.key) x:=by
  rw[Qao e2,QeC,hfl,Qkq (Qly e2 e10 hs1.1),QjM (Qk1 e2 e10 hs2.2.1),QnX hple]
 rw[hfl2]at hG;have hsrt:=QiI (x:=x) hV.srt hnk;obtain⟨T1,d1,g1,g2,g3,g4,g5,g6⟩:=hG.tree;have hglen:=hG.len;rw[QbW]at hglen;have hRt:=QnF hz g1 g2 g3 g4 g5 hG.sm om om hG.last;rw[g6]at hRt
 have hiT:Qac co mo rm ns x=Qa4 mo rm (X6 mo (esN ns i (QP es (plc co es x.key) x)) (i::D.map Fr.i)):=by
  unfold Qac;rw[if_neg (by rw[e8];exact hnf),hinsB,hPr];rfl
 have hesR:esN ns (Yf (Qt co ns x.key).1) (QP (nth ns (Yf (Qt co ns x.key).1)).es (plc co (nth ns (Yf (Qt co ns x.key).1)).es x.key) x)=esN ns i (QP es (plc co es x.key) x):=by
  rw[hlf,hat.2]
 have hsub:(Qt co ns x.key).1.length-1=D.length:=om
 refine⟨⟨om,om,by rw[hlf2];exact hat.1,by rw[hlf2,hat.2];show es.length<=900;omega,by rw[hlf2,hat.2,hpl];exact hple,by rw[hinsB,hPr];exact hG.ok,by rw[hinsB,hPr];exact hRt.ok⟩,⟨om,om,by rw[hlf];exact hat.1,by rw[hesR,hsub];exact hG.okR,by rw[hesR,hsub,hG.same];exact hRt.okR⟩,?_,?_,?_,?_⟩
 ·unfold Qsy;simp only[];rw[hesR,hsub,hG.same,hiT];exact hRt.same
 ·rw[hiT];obtain⟨T2,d2,t1,t2,t3,t4,t5,t6⟩:=hRt.tree;refine⟨T2,d2,t1,⟨t2,t3,t4,t5,by rw[t6];exact hsrt,λy hy=>?_⟩,t6⟩;rw[t6]at hy;unfold QP at hy;rcases List.mem_append.1 hy with hy|hy
  ·exact hV.ents y (List.mem_of_mem_take hy)
  ·rcases List.mem_cons.1 hy with rfl|hy
   ·exact hx
   ·exact hV.ents y (List.mem_of_mem_drop hy)
 ·rw[hiT];have h9:ns.length<=(X6 mo (esN ns i (QP es (plc co es x.key) x)) (i::D.map Fr.i)).length/\(X6 mo (esN ns i (QP es (plc co es x.key) x)) (i::D.map Fr.i)).length<=ns.length+D.length:=hglen;have h8:=hRt.len;simp only[BT.idx]at h8;omega
 ·rw[hiT];exact hRt.last
def btN(ns:List Nd):Nat->Nat->BT
 | 0,i=>.nd i [] []
 | f+1,i=>.nd i (nth ns i).es ((nth ns i).cs.map λc=>btN ns f c.toNat)
theorem QfG(ns:List Nd)(f i:Nat):(btN ns f i).idx=i:=by cases f<;>rfl
theorem Qj0{ns:List Nd}{f:Nat}:∀{cs:List Int},(∀c∈cs,0<=c)->Xd (cs.map λc=>btN ns f c.toNat)=cs
 | [],_=>rfl
 | c::cs,h=>by
  rw[List.map_cons,Qal,Qj0 λx hx=>h x (List.mem_cons_of_mem _ hx),QfG,Int.toNat_of_nonneg (h c (List.mem_cons_self ..))]
theorem QaM{α:Type}(g:α->BT):∀(cs:List α),nodesL (cs.map g)=cs.flatMap λc=>(g c).nodes
 | []=>rfl
 | c::cs=>by rw[List.map_cons,nodesL,QaM g cs,List.flatMap_cons]
theorem QgS{α β:Type}{f g:α->List β}:∀{l:List α},(∀x∈l,f x=g x)->l.flatMap f=l.flatMap g
 | [],_=>rfl
 | a::l,h=>by rw[List.flatMap_cons,List.flatMap_cons,h a (List.mem_cons_self ..),QgS λx hx=>h x (List.mem_cons_of_mem _ hx)]
theorem Qgb{α:Type}(F:Int->List α):∀(cs:List Int),((List.range cs.length).flatMap λk=>F (cs.getD k 0))=cs.flatMap F
 | []=>rfl
 | c::cs=>by
  rw[List.length_cons,List.range_succ_eq_map,List.flatMap_cons,List.flatMap_map,List.flatMap_cons,<-Qgb F cs];rfl
theorem Qgc{co:Int}{ns:List Nd}(hT:TOk co ns):∀{A B:List Nat}{c:Nat},Gx.Way ns (c::A)->Gx.Way ns (c::B)->A=B
 | [],[],_,_,_=>rfl
 | [],q::B,c,h,h2=>by
  have h0:c=0:=h;have:=(hT.kid q h2.1.2 _ h2.1.1).1.1;omega
 | p::A,[],c,h,h2=>by
  have h0:c=0:=h2;have:=(hT.kid p h.1.2 _ h.1.1).1.1;omega
 | p::A,q::B,c,h,h2=>by
  have e:p=q:=QcM (f:=Nd.cs) hT.once h.1.2 h2.1.2 h.1.1 h2.1.1;subst e;rw[Qgc hT h.2 h2.2]
section
variable{co:Int}{ns:List Nd}
theorem Qe6(hT:TOk co ns){i:Nat}{P:List Nat}{c:Int}(hw:Gx.Way ns (i::P))(hi:i<ns.length)(hc:c∈(nth ns i).cs):Gx.Way ns (c.toNat::i::P):=by
 refine⟨⟨?_,hi⟩,hw⟩;rw[Int.toNat_of_nonneg (by have:=(hT.kid i hi c hc).1.1;omega)];exact hc
theorem Qez(hT:TOk co ns)(h0:0<ns.length){i:Nat}{P:List Nat}(hw:Gx.Way ns (i::P)):i<ns.length:=Qcy hT h0 hw i (List.mem_cons_self ..)
theorem QqW(hT:TOk co ns)(h0:0<ns.length):∀{i:Nat}{P:List Nat},Gx.Way ns (i::P)->(nth ns i).us=true
 | i,[],h=>by
  have e:i=0:=h;subst e;cases hu:(nth ns 0).us with
  | true=>rfl
  | false=>
   have:=(hT.free 0 h0 hu).1.1;omega
 | i,p::P,h=>by
  have:=(hT.kid p h.1.2 _ h.1.1).2;exact this
theorem Qd0(hT:TOk co ns)(h0:0<ns.length):∀(f i:Nat)(P:List Nat),Gx.Way ns (i::P)->P.length+f=ns.length->∀p∈(btN ns f i).nodes,ns[p.1]?=some p.2/\∃Q R,Gx.Way ns (Q++i::P)/\Q++i::P=p.1::R
 | 0,i,P,hw,hf,p,hp=>by
  have:=YK hT h0 hw;simp only[List.length_cons]at this;omega
 | f+1,i,P,hw,hf,p,hp=>by
  have hi:=Qez hT h0 hw
  have hk:∀c∈(nth ns i).cs,0<=c:=λc hc=>by
   have:=(hT.kid i hi c hc).1.1;omega
  rw[btN,BT.nodes,Qj0 hk,QaM]at hp;rcases List.mem_cons.1 hp with rfl|hp
  ·refine⟨?_,[],P,hw,rfl⟩;have hu:=QqW hT h0 hw;rw[QV hi];show some (nth ns i)=some ⟨true,(nth ns i).es,(nth ns i).cs⟩;rw[<-hu]
  ·obtain⟨c,hc,hp⟩:=List.mem_flatMap.1 hp;obtain⟨h1,Q,R,h2,h3⟩:=Qd0 hT h0 f c.toNat (i::P) (Qe6 hT hw hi hc) (by simp only[List.length_cons];omega) p hp;refine⟨h1,Q++[c.toNat],R,?_,?_⟩
   ·rw[List.append_assoc];exact h2
   ·rw[List.append_assoc];exact h3
theorem QpN(hT:TOk co ns)(h0:0<ns.length):∀(f i:Nat)(P:List Nat),Gx.Way ns (i::P)->P.length+f=ns.length->((btN ns f i).nodes.map Prod.fst).Nodup
 | 0,i,P,hw,hf=>by
  have:=YK hT h0 hw;simp only[List.length_cons]at this;omega
 | f+1,i,P,hw,hf=>by
  have hi:=Qez hT h0 hw;have hlen:(i::P).length+f=ns.length:=by simp only[List.length_cons];omega
  rw[btN,BT.nodes,QaM,List.map_cons,List.map_flatMap];refine List.nodup_cons.2 ⟨λhm=>?_,?_⟩
  ·obtain⟨c,hc,hm⟩:=List.mem_flatMap.1 hm;obtain⟨p,hp,e⟩:=List.mem_map.1 hm;obtain⟨_,Q,R,h2,h3⟩:=Qd0 hT h0 f c.toNat (i::P) (Qe6 hT hw hi hc) hlen p hp;rw[h3,e]at h2;have h4:=Qgc hT h2 hw;have h5:=congrArg List.length h3;rw[h4]at h5;simp only[List.length_append,List.length_cons]at h5;omega
  ·refine List.pairwise_flatMap.2 ⟨λc hc=>QpN hT h0 f c.toNat (i::P) (Qe6 hT hw hi hc) hlen,?_⟩;refine(QfY (f:=Nd.cs) hT.once hi).imp_of_mem λ{c c'}hc hc' hne x hx y hy exy=>?_;subst exy;obtain⟨p,hp,e⟩:=List.mem_map.1 hx;obtain⟨q,hq,e'⟩:=List.mem_map.1 hy;obtain⟨_,Q,R,h2,h3⟩:=Qd0 hT h0 f c.toNat (i::P) (Qe6 hT hw hi hc) hlen p hp;obtain⟨_,Q',R',h2',h3'⟩:=Qd0 hT h0 f c'.toNat (i::P) (Qe6 hT hw hi hc') hlen q hq;rw[e]at h3;rw[e']at h3';have h4:=Qgc hT (h3▸h2) (h3'▸h2');have h5:Q++c.toNat::i::P=Q'++c'.toNat::i::P:=by rw[h3,h3',h4]
   have h6:Q.length=Q'.length:=by
    have:=congrArg List.length h5;simp only[List.length_append,List.length_cons]at this;omega
   have h7:=(List.append_inj h5 h6).2;have h8:c.toNat=c'.toNat:=(List.cons.inj h7).1;have k1:=(hT.kid i hi c hc).1.1;have k2:=(hT.kid i hi c' hc').1.1;exact hne om
theorem Qlz(hT:TOk co ns)(h0:0<ns.length):∀(f:Nat)(v:Vis)(P:List Nat),Gx.Way ns (v.i::P)->P.length+f=ns.length->(vis ns f v).map Vis.i=(btN ns f v.i).nodes.map Prod.fst
 | 0,v,P,hw,hf=>by
  have:=YK hT h0 hw;simp only[List.length_cons]at this;omega
 | f+1,v,P,hw,hf=>by
  have hi:=Qez hT h0 hw;rw[vis,btN,BT.nodes,QaM,List.map_cons,List.map_cons,List.map_flatMap,List.map_flatMap];congr 1;rw[<-Qgb];refine QgS λk hk=>?_;have hkl:=List.mem_range.1 hk
  have hc:(nth ns v.i).cs.getD k 0∈(nth ns v.i).cs:=by
   rw[List.getD_eq_getElem?_getD,List.getElem?_eq_getElem hkl];exact List.getElem_mem hkl
  exact Qlz hT h0 f ⟨((nth ns v.i).cs.getD k 0).toNat,v.d+1,loK (nth ns v.i).es k v.lo,hiK (nth ns v.i).es k v.hi⟩ (v.i::P) (Qe6 hT hw hi hc) (by simp only[List.length_cons];omega)
end
def InB(co:Int)(lo hi:Option (List UInt8))(x:TEnt):Prop:=(∀b,lo=some b->QN co b x.key<0)/\(∀b,hi=some b->QN co x.key b<0)
theorem Qjs{t:Tre}{v:Vis}{x:TEnt}:Qae t v x=true ↔ (∃b,v.lo=some b/\0<=QN t.co b x.key)\/(∃b,v.hi=some b/\0<=QN t.co x.key b):=by
 unfold Qae;cases v.lo<;>cases v.hi<;>simp
theorem Quo{t:Tre}{v:Vis}{x:TEnt}(h:¬Qae t v x=true):InB t.co v.lo v.hi x:=by
 rw[Qjs]at h;refine⟨λb hb=>?_,λb hb=>?_⟩
 ·rcases Int.lt_or_le (QN t.co b x.key) 0 with h1|h1
  ·exact h1
  ·exact absurd (.inl ⟨b,hb,h1⟩) h
 ·rcases Int.lt_or_le (QN t.co x.key b) 0 with h1|h1
  ·exact h1
  ·exact absurd (.inr ⟨b,hb,h1⟩) h
theorem Qg9{co:Int}{hi:Option (List UInt8)}:∀{es:List TEnt}{ks:List BT}{lo:Option (List UInt8)},ks.length=es.length+1->Srt co es->(∀x∈es,InB co lo hi x) ->
  (∀k,k<ks.length->Srt co (nth ks k).flat/\∀x∈(nth ks k).flat,InB co (loK es k lo) (hiK es k hi) x)->Srt co (flatL es ks)/\∀x∈flatL es ks,InB co lo hi x
 | [],[],_,h,_,_,_=>absurd h (by simp)
 | [],k::k'::ks,_,h,_,_,_=>absurd h (by simp)
 | [],[k],lo,_,_,_,hk=>by
  rw[flatL,flatL,List.append_nil];exact hk 0 (by simp)
 | e::es,[],_,h,_,_,_=>absurd h (by simp)
 | e::es,k::ks,lo,hl,hs,hb,hk=>by
  have hp:=List.pairwise_cons.1 hs;have he:=hb e (List.mem_cons_self ..);have h0:=hk 0 (by simp);have e0:nth (k::ks) 0=k:=rfl;have e1:loK (e::es) 0 lo=lo:=if_neg (Nat.lt_irrefl 0);have e2:hiK (e::es) 0 hi=some e.key:=if_pos (by simp);rw[e0,e1,e2]at h0
  have ih:=Qg9 (co:=co) (hi:=hi) (es:=es) (ks:=ks) (lo:=some e.key) (by simpa using hl) hp.2 (λx hx=>⟨λb hb'=>by injection hb' with hb';subst hb';exact hp.1 x hx,(hb x (List.mem_cons_of_mem _ hx)).2⟩) (λq hq=>by
   have h1:=hk (q+1) (by simpa using hq);have e3:nth (k::ks) (q+1)=nth ks q:=rfl
   have e4:loK (e::es) (q+1) lo=loK es q (some e.key):=by
    unfold loK;rw[if_pos om];rcases Nat.eq_zero_or_pos q with h9|h9
    ·subst h9;rfl
    ·rw[if_pos h9];obtain⟨r,rfl⟩:∃r,q=r+1:=⟨q-1,om⟩;rfl
   have e5:hiK (e::es) (q+1) hi=hiK es q hi:=by
    unfold hiK
    by_cases h9:q<es.length
    ·rw[if_pos h9,if_pos (by simpa using h9)];rfl
    ·rw[if_neg h9,if_neg (by simpa using h9)]
   rw[e3,e4,e5]at h1;exact h1)
  rw[flatL];have hge:∀x∈flatL es ks,QN co e.key x.key<0:=λx hx=>(ih.2 x hx).1 _ rfl;have hle:∀x∈k.flat,QN co x.key e.key<0:=λx hx=>(h0.2 x hx).2 _ rfl;refine⟨List.pairwise_append.2 ⟨h0.1,List.pairwise_cons.2 ⟨hge,ih.1⟩,λx hx y hy=>?_⟩,λx hx=>?_⟩
  ·rcases List.mem_cons.1 hy with rfl|hy
   ·exact hle x hx
   ·exact Yu (hle x hx) (hge y hy)
  ·rcases List.mem_append.1 hx with hx|hx
   ·exact⟨(h0.2 x hx).1,λb hb'=>Yu (hle x hx) (he.2 b hb')⟩
   ·rcases List.mem_cons.1 hx with rfl|hx
    ·exact he
    ·exact⟨λb hb'=>Yu (he.1 b hb') (hge x hx),(ih.2 x hx).2⟩
theorem Qk7{t:Tre}{deep:Int}{v:Vis}(h:Qcc t deep v=0):¬ZS t v=true/\(∀x∈(nth t.ns v.i).es,InB t.co v.lo v.hi x)/\((nth t.ns v.i).cs.length=0->v.d=deep+1):=by
 rw[QaZ]at h;split at h
 ·exact absurd h (by decide)
 ·rename_i h1;split at h
  ·exact absurd h (by decide)
  ·rename_i h2;split at h
   ·exact absurd h (by decide)
   ·rename_i h3;refine⟨h1,λx hx=>Quo λh4=>h2 ?_,λh4=>?_⟩
    ·unfold ZO;exact List.any_eq_true.2 ⟨x,hx,h4⟩
    ·rcases Int.lt_trichotomy v.d (deep+1)with h5|h5|h5
     ·exact absurd ⟨h4,om⟩ h3
     ·exact h5
     ·exact absurd ⟨h4,om⟩ h3
theorem QnG{t:Tre}(h:(X9 t t.ns.length 0 []).2=0){i:Nat}(hi:i<t.ns.length)(hu:(nth t.ns i).us=true):((nth t.ns i).es.length:Int)<=Yr t.mo t.rm i:=by
 obtain⟨s,hs⟩:=(QcD (f:=t.ns.length) (i:=0) om h List.nodup_nil).1 i (Nat.zero_le _) hi;rw[Qhl t i hu]at hs;have h4:nE4 t i s=0:=hs;unfold nE4 at h4;split at h4
 ·rename_i h3;have h2:=Qs9 t i h3;unfold nE2 at h2;split at h2
  ·rename_i h1;unfold nE1 at h1;split at h1
   ·assumption
   ·exact absurd h1 (by decide)
  ·rename_i h1;exact absurd h2 h1
 ·rename_i h3;exact absurd h4 h3
theorem Qno{t:Tre}{deep:Int}{lo hi rt:Nat}(hz:Sz t.mo t.rm lo hi rt)(hT:TOk t.co t.ns)(h0:0<t.ns.length)(hmost:∀i,i<t.ns.length->(nth t.ns i).us=true->((nth t.ns i).es.length:Int)<=Yr t.mo t.rm i):∀(f:Nat)(v:Vis)(P:List Nat),Gx.Way t.ns (v.i::P)->P.length+f=t.ns.length->(∀u∈vis t.ns f v,Qcc t deep u=0) ->
  ∃d:Nat,v.d+(d:Int)=deep+1/\Bel lo hi d (btN t.ns f v.i)/\Srt t.co (btN t.ns f v.i).flat/\∀x∈(btN t.ns f v.i).flat,InB t.co v.lo v.hi x
 | 0,v,P,hw,hf,_=>by
  have:=YK hT h0 hw;simp only[List.length_cons]at this;omega
 | f+1,v,P,hw,hf,hE=>by
  have hi':=Qez hT h0 hw;have hv:=Qk7 (hE v (by rw[vis];exact List.mem_cons_self ..));have hasc:=Srt.of_asc (hT.asc v.i hi');rw[btN,BT.flat];rcases hT.shape v.i hi' with hs|hs
  ·have hcs:(nth t.ns v.i).cs=[]:=List.eq_nil_of_length_eq_zero hs;rw[hcs,List.map_nil,Yk];exact⟨0,by have:=hv.2.2 hs;simpa using this,rfl,hasc,hv.2.1⟩
  ·have key:∀k,k<(nth t.ns v.i).cs.length->∃d:Nat,v.d+1+(d:Int)=deep+1/\Bal lo hi d (btN t.ns f ((nth t.ns v.i).cs.getD k 0).toNat)/\Srt t.co (btN t.ns f ((nth t.ns v.i).cs.getD k 0).toNat).flat/\∀x∈(btN t.ns f ((nth t.ns v.i).cs.getD k 0).toNat).flat,InB t.co (loK (nth t.ns v.i).es k v.lo) (hiK (nth t.ns v.i).es k v.hi) x:=λk hk=>by
    have hc:(nth t.ns v.i).cs.getD k 0∈(nth t.ns v.i).cs:=by
     rw[List.getD_eq_getElem?_getD,List.getElem?_eq_getElem hk];exact List.getElem_mem hk
    have hwk:=Qe6 hT hw hi' hc
    have hmem:∀u∈vis t.ns f (X8 t.ns v k),u∈vis t.ns (f+1) v:=λu hu=>by
     rw[vis];exact List.mem_cons_of_mem _ (List.mem_flatMap.2 ⟨k,List.mem_range.2 hk,hu⟩)
    obtain⟨d,h1,h2,h3,h4⟩:=Qno hz hT h0 hmost f (X8 t.ns v k) (v.i::P) hwk (by simp only[List.length_cons];omega) λu hu=>hE u (hmem u hu);have hki:=Qez hT h0 hwk;have hku:=QqW hT h0 hwk;have hk1:=(hT.kid v.i hi' _ hc).1.1
    obtain⟨f',rfl⟩:∃f',f=f'+1:=by
     cases f with
     | zero=>
      have:=YK hT h0 hwk;simp only[List.length_cons]at this;omega
     | succ f'=>exact⟨f',rfl⟩
    have hkv:=Qk7 (hE (X8 t.ns v k) (hmem _ (by rw[vis];exact List.mem_cons_self ..)));refine⟨d,h1,ZZ.2 ⟨h2,?_,?_⟩,h3,h4⟩
    ·have hg:=hkv.1;unfold ZS at hg;simp only[Bool.and_eq_true,Bool.or_eq_true,decide_eq_true_eq,not_and,not_or]at hg;have h5:=(hg (show 0<(X8 t.ns v k).i by show 0<((nth t.ns v.i).cs.getD k 0).toNat;omega)).1;have e1:=hz.emo;have e2:=hz.elo;show lo<=(nth t.ns ((nth t.ns v.i).cs.getD k 0).toNat).es.length;have h6:¬((nth t.ns ((nth t.ns v.i).cs.getD k 0).toNat).es.length:Int)<t.mo/2:=h5;omega
    ·have h5:=hmost _ hki hku;unfold Yr at h5;rw[if_neg om]at h5;have e1:=hz.emo;show(nth t.ns ((nth t.ns v.i).cs.getD k 0).toNat).es.length<=hi;omega
   obtain⟨d,hd,_⟩:=key 0 om
   have hnk:∀k,k<(nth t.ns v.i).cs.length->nth ((nth t.ns v.i).cs.map λc=>btN t.ns f c.toNat) k=btN t.ns f ((nth t.ns v.i).cs.getD k 0).toNat:=λk hk=>QS (by
    rw[List.getElem?_map,List.getElem?_eq_getElem hk,List.getD_eq_getElem?_getD,List.getElem?_eq_getElem hk];rfl)
   have hfl:=Qg9 (co:=t.co) (hi:=v.hi) (es:=(nth t.ns v.i).es) (ks:=(nth t.ns v.i).cs.map λc=>btN t.ns f c.toNat) (lo:=v.lo) (by rw[List.length_map];exact hs) hasc hv.2.1 λk hk=>by
    rw[List.length_map]at hk;rw[hnk k hk];obtain⟨_,_,_,h3,h4⟩:=key k hk;exact⟨h3,h4⟩
   refine⟨d+1,by simp only[Int.natCast_add,Int.natCast_one];omega,⟨by show(List.map _ _).length=_;rw[List.length_map];exact hs,λk hk=>?_⟩,hfl.1,hfl.2⟩;obtain⟨c,hc,rfl⟩:=List.mem_map.1 hk;obtain⟨q,hq,rfl⟩:=List.getElem_of_mem hc;obtain⟨d2,hd2,h2,_⟩:=key q hq;have e:d2=d:=om
   subst e;rw[List.getD_eq_getElem?_getD,List.getElem?_eq_getElem hq]at h2;exact h2
mutual
theorem QbU:∀(T:BT)(x:TEnt),x∈T.flat->∃p∈T.nodes,x∈p.2.es
 | .nd i es ks,x,h=>by
  rw[BT.flat]at h;rw[BT.nodes];rcases flat_nodesL es ks x h with h|⟨p,hp,hx⟩
  ·exact⟨_,List.mem_cons_self ..,h⟩
  ·exact⟨p,List.mem_cons_of_mem _ hp,hx⟩
theorem flat_nodesL:∀(es:List TEnt)(ks:List BT)(x:TEnt),x∈flatL es ks->x∈es\/∃p∈nodesL ks,x∈p.2.es
 | es,[],x,h=>by
  rw[Yk]at h;exact .inl h
 | [],k::ks,x,h=>by
  rw[flatL]at h;rw[nodesL];rcases List.mem_append.1 h with h|h
  ·obtain⟨p,hp,hx⟩:=QbU k x h;exact .inr ⟨p,List.mem_append_left _ hp,hx⟩
  ·rcases flat_nodesL [] ks x h with h|⟨p,hp,hx⟩
   ·exact .inl h
   ·exact .inr ⟨p,List.mem_append_right _ hp,hx⟩
 | e::es,k::ks,x,h=>by
  rw[flatL]at h;rw[nodesL];rcases List.mem_append.1 h with h|h
  ·obtain⟨p,hp,hx⟩:=QbU k x h;exact .inr ⟨p,List.mem_append_left _ hp,hx⟩
  ·rcases List.mem_cons.1 h with rfl|h
   ·exact .inl (List.mem_cons_self ..)
   ·rcases flat_nodesL es ks x h with h|⟨p,hp,hx⟩
    ·exact .inl (List.mem_cons_of_mem _ h)
    ·exact .inr ⟨p,List.mem_append_right _ hp,hx⟩
end
theorem QpO{t:Tre}(h:(XQ t).2=0):∃T d,Xt t.ns T/\VT t.co (t.mo.toNat/2) t.mo.toNat t.rm.toNat d T/\Sz t.mo t.rm (t.mo.toNat/2) t.mo.toNat t.rm.toNat/\XT t.ns:=by
 obtain⟨hc,hs,h0,hl,hn,hsh,_⟩:=ZC h;have hT:=Qaa hn;have hz:=Qwm hs
 have hop:ZX t.ns ((YR t.ns).map Vis.i) t.ns.length 0=none:=by
  cases e:ZX t.ns ((YR t.ns).map Vis.i) t.ns.length 0 with
  | none=>rfl
  | some i=>
   rw[QbF e]at hsh;have h21:(21:Int)=0:=hsh;exact absurd h21 (by decide)
 rw[QbQ hop]at hsh;have hall:=Qir hsh;have hmost:=λi hi hu=>QnG (t:=t) hn (i:=i) hi hu;have hw:Gx.Way t.ns [0]:=rfl;obtain⟨d,hd,hB,hS,_⟩:=Qno hz hT h0 hmost t.ns.length Zr [] hw (by simp) hall;have hvb:=Qlz hT h0 t.ns.length Zr [] hw (by simp);have hget:=Qd0 hT h0 t.ns.length 0 [] hw (by simp)
 have hR:Xt t.ns (btN t.ns t.ns.length 0):=by
  refine⟨λp hp=>(hget p hp).1,QpN hT h0 t.ns.length 0 [] hw (by simp),λi hi hm=>?_⟩;cases hu:(nth t.ns i).us with
  | true=>
   have:=Qgi hop i (Nat.zero_le _) om hu;exact absurd (hvb▸this) hm
  | false=>
   have h1:=hT.free i hi hu;have h2:=h1.2;cases hnd:nth t.ns i with
   | mk us es cs=>
    rw[hnd]at h2 hu;simp only at h2 hu;rw[hu,h2.1,h2.2]
 have hroot:=hR.root;rw[QfG]at hroot;have hes:(btN t.ns t.ns.length 0).es=(nth t.ns 0).es:=by rw[hroot.2]
 have hu0:(nth t.ns 0).us=true:=by rw[hroot.2]
 refine⟨_,d,hR,⟨QfG _ _ _,hB,?_,λe k hk=>?_,hS,λx hx=>?_⟩,hz,?_⟩
 ·have h1:=hmost 0 h0 hu0;unfold Yr at h1;rw[if_pos rfl]at h1;rw[hes];have:=hz.erm;omega
 ·obtain⟨f,hf⟩:∃f,t.ns.length=f+1:=⟨t.ns.length-1,om⟩;have hkm:k∈(btN t.ns t.ns.length 0).ks:=by rw[hk];exact List.mem_cons_self ..
  have hk':=hkm;rw[hf]at hk';obtain⟨c,hcm,rfl⟩:=List.mem_map.1 (show k∈(nth t.ns 0).cs.map λc=>btN t.ns f c.toNat from hk');have hwk:=Qe6 hT hw h0 hcm;have hki:=Qez hT h0 hwk
  obtain⟨f',rfl⟩:∃f',f=f'+1:=by
   cases f with
   | zero=>
    have:=YK hT h0 hwk;simp only[List.length_cons,List.length_nil]at this;omega
   | succ f'=>exact⟨f',rfl⟩
  have hk1:=(hT.kid 0 h0 c hcm).1.1
  have hgv:∃v∈YR t.ns,v.i=c.toNat:=by
   have:c.toNat∈(YR t.ns).map Vis.i:=by
    show c.toNat∈(vis t.ns t.ns.length Zr).map Vis.i;rw[hvb,hf];rw[show Zr.i=0 from rfl,btN,BT.nodes,QaM,List.map_cons];refine List.mem_cons_of_mem _ (List.mem_map.2 ?_);have hid:=(btN t.ns (f'+1) c.toNat).idx_mem;rw[QfG]at hid;obtain⟨p,hp,ep⟩:=List.mem_map.1 hid;exact⟨p,List.mem_flatMap.2 ⟨c,hcm,hp⟩,ep⟩
   obtain⟨v,hv,e⟩:=List.mem_map.1 this;exact⟨v,hv,e⟩
  obtain⟨v,hv,hvi⟩:=hgv;have hg:=(Qk7 (hall v hv)).1;unfold ZS at hg;simp only[Bool.and_eq_true,Bool.or_eq_true,decide_eq_true_eq,not_and,not_or]at hg;have h5:=(hg om).2 ⟨by rw[<-hes,e];rfl,by rw[hvi,Int.toNat_of_nonneg om];exact hcm⟩;rw[hvi]at h5;show t.rm.toNat<(nth t.ns c.toNat).es.length;have:=hz.erm;omega
 ·obtain⟨p,hp,hx⟩:=QbU _ x hx;have h1:=RepN.at_ (i:=p.1) (x:=p.2) hR hp;exact hT.ents p.1 h1.1 x (by rw[h1.2];exact hx)
 ·unfold XT;cases hu:(nth t.ns (t.ns.length-1)).us with
  | true=>rfl
  | false=>
   have:=(hT.free (t.ns.length-1) om hu).1.2;omega
theorem Qp9{α:Type}[Inhabited α]{l r:List α}{x:Nat}(h:x<l.length):nth (l++r) x=nth l x:=QS (by rw[List.getElem?_append_left h];exact QV h)
mutual
theorem Qbs:∀(T:BT)(p:Nat×Nd),p∈T.nodes->p.2.es.Sublist T.flat
 | .nd i es ks,p,h=>by
  rw[BT.nodes]at h;rw[BT.flat];rcases List.mem_cons.1 h with rfl|h
  ·exact Qia es ks
  ·exact nodesL_es es ks p h
theorem nodesL_es:∀(es:List TEnt)(ks:List BT)(p:Nat×Nd),p∈nodesL ks->p.2.es.Sublist (flatL es ks)
 | es,[],p,h=>by
  rw[nodesL]at h;cases h
 | [],k::ks,p,h=>by
  rw[nodesL]at h;rw[flatL];rcases List.mem_append.1 h with h|h
  ·exact(Qbs k p h).trans (List.sublist_append_left ..)
  ·exact(nodesL_es [] ks p h).trans (List.sublist_append_right ..)
 | e::es,k::ks,p,h=>by
  rw[nodesL]at h;rw[flatL];rcases List.mem_append.1 h with h|h
  ·exact(Qbs k p h).trans (List.sublist_append_left ..)
  ·exact((nodesL_es es ks p h).cons e).trans (List.sublist_append_right ..)
end
theorem Qj4{lo hi:Nat}:∀{d:Nat}{T:BT},Bel lo hi d T->∀p∈T.nodes,p.2.cs.length=0\/p.2.cs.length=p.2.es.length+1
 | 0,.nd i es ks,h,p,hp=>by
  have e:ks=[]:=h;rw[e,BT.nodes,nodesL]at hp;rcases List.mem_cons.1 hp with rfl|hp
  ·exact .inl rfl
  ·cases hp
 | d+1,.nd i es ks,h,p,hp=>by
  rw[BT.nodes]at hp;rcases List.mem_cons.1 hp with rfl|hp
  ·exact .inr (by show(Xd ks).length=_;rw[XH];exact h.1)
  ·obtain⟨k,hk,hp⟩:=Qby (k:=default) hp;exact Qj4 (ZZ.1 (h.2 k hk)).1 p hp
theorem QsM{co:Int}{lo hi rt d:Nat}{ns:List Nd}{T:BT}(hR:Xt ns T)(hV:VT co lo hi rt d T)(hu:XT ns):TOk co ns:=by
 have hat:∀p∈T.nodes,p.1<ns.length/\nth ns p.1=p.2:=λp hp=>RepN.at_ (i:=p.1) (x:=p.2) hR hp
 have hcs:∀i,i<ns.length->(i∈T.nodes.map Prod.fst/\(i,nth ns i)∈T.nodes)\/nth ns i=⟨false,[],[]⟩:=λi hi=>by
  by_cases hm:i∈T.nodes.map Prod.fst
  ·refine .inl ⟨hm,?_⟩;obtain⟨p,hp,rfl⟩:=List.mem_map.1 hm;rw[(hat p hp).2];exact hp
  ·exact .inr (RepN.rest hR i hi hm)
 have hkp:=Qdz T
 have hnd:((((T.idx:Nat):Int)::YI T.nodes)).Nodup:=hkp.nodup_iff.2 (by
  have h1:=RepN.nd hR;unfold List.Nodup at h1 ⊢;rw[List.pairwise_map]at h1 ⊢;exact h1.imp λh e=>h om)
 refine⟨λi hi c hc=>?_,?_,λi hi=>?_,λi hi hus=>?_,λi hi=>?_,λi hi x hx=>?_⟩
 ·rcases hcs i hi with⟨_,hm⟩|he
  ·have hck:c∈YI T.nodes:=List.mem_flatMap.2 ⟨_,hm,hc⟩;obtain⟨q,hq,rfl⟩:=List.mem_map.1 (hkp.mem_iff.1 (List.mem_cons_of_mem _ hck));have h1:=hat q hq
   have h2:q.1≠0:=λe=>by
    have h3:=(List.nodup_cons.1 hnd).1;rw[hV.idx]at h3;rw[e]at hck;exact h3 hck
   refine⟨om,?_⟩;rw[Int.toNat_natCast,h1.2];exact Qbe T q hq
  ·rw[he]at hc;cases hc
 ·have hk2:=(List.nodup_cons.1 hnd).2;unfold YI List.Nodup at hk2;rw[List.pairwise_flatMap]at hk2;unfold List.Nodup;rw[List.pairwise_flatMap];refine⟨λx hx=>?_,List.pairwise_iff_getElem.2 λi j hi hj hij=>?_⟩
  ·obtain⟨i,hi,rfl⟩:=List.getElem_of_mem hx;rw[<-QS (List.getElem?_eq_getElem hi)];rcases hcs i hi with⟨_,hm⟩|he
   ·exact hk2.1 _ hm
   ·rw[he];exact List.Pairwise.nil
  ·rw[<-QS (List.getElem?_eq_getElem hi),<-QS (List.getElem?_eq_getElem hj)];intro x hx y hy e;rcases hcs i hi with⟨_,hm⟩|he
   ·rcases hcs j hj with⟨_,hm2⟩|he
    ·obtain⟨a,ha,ea⟩:=List.getElem_of_mem hm;obtain⟨b,hb,eb⟩:=List.getElem_of_mem hm2;have hp:=List.pairwise_iff_getElem.1 hk2.2;rcases Nat.lt_trichotomy a b with h|h|h
     ·exact hp a b ha hb h x (by rw[ea];exact hx) y (by rw[eb];exact hy) e
     ·subst h;rw[ea]at eb;have:=congrArg Prod.fst eb;simp only at this;omega
     ·exact hp b a hb ha h y (by rw[eb];exact hy) x (by rw[ea];exact hx) e.symm
    ·rw[he]at hy;cases hy
   ·rw[he]at hx;cases hx
 ·rcases hcs i hi with⟨_,hm⟩|he
  ·exact Qj4 hV.bel _ hm
  ·rw[he];exact .inl rfl
 ·rcases hcs i hi with⟨_,hm⟩|he
  ·have:=Qbe T _ hm;simp only at this;rw[hus]at this;cases this
  ·refine⟨⟨?_,?_⟩,by rw[he],by rw[he]⟩
   ·have h1:=(Xt.root hR).2;rw[hV.idx]at h1;rcases Nat.eq_zero_or_pos i with e|h
    ·rw[e,h1]at hus;cases hus
    ·exact h
   ·unfold XT at hu
    by_cases e:i=ns.length-1
    ·rw[e,hu]at hus;cases hus
    ·omega
 ·rcases hcs i hi with⟨_,hm⟩|he
  ·exact Srt.asc (List.Pairwise.sublist (Qbs T _ hm) hV.srt)
  ·rw[he];intro k hk;exact absurd hk (by simp)
 ·rcases hcs i hi with⟨_,hm⟩|he
  ·exact hV.ents x ((Qbs T _ hm).subset hx)
  ·rw[he]at hx;cases hx
section
variable{es:List TEnt}{ks:List BT}{k:Nat}
def Qcb(es:List TEnt)(ks:List BT):Nat->List TEnt
 | 0=>[]
 | k+1=>(Qcb es ks k++if 0<ks.length then(nth ks k).flat else[])++if k<es.length then[nth es k]else[]
def QeD(es:List TEnt)(ks:List BT)(k:Nat):List TEnt:=Qcb es ks k++if 0<ks.length then(nth ks k).flat else[]
theorem Qbu:Qcb es ks (k+1)=QeD es ks k++if k<es.length then[nth es k]else[]:=rfl
theorem Qek(h:k<es.length):Qcb es ks (k+1)=QeD es ks k++[nth es k]:=by rw[Qbu,if_pos h]
theorem QmO(h:¬k<es.length):Qcb es ks (k+1)=QeD es ks k:=by rw[Qbu,if_neg h,List.append_nil]
theorem Qbr(h:0<ks.length):QeD es ks k=Qcb es ks k++(nth ks k).flat:=by rw[QeD,if_pos h]
theorem QmE(h:¬0<ks.length):QeD es ks k=Qcb es ks k:=by rw[QeD,if_neg h,List.append_nil]
theorem Qej{α:Type}[Inhabited α]{l:List α}{i:Nat}(h:i<l.length):l.drop i=nth l i::l.drop (i+1):=by
 rw[List.drop_eq_getElem_cons h,show nth l i=l[i]from QS (List.getElem?_eq_getElem h)]
theorem Qht:∀{k:Nat},k<=es.length->Qcb es [] k=es.take k
 | 0,_=>by rw[Qcb,List.take_zero]
 | k+1,h=>by
  rw[Qek om,QmE (by simp),Qht om,List.take_add_one,QV om];rfl
theorem QhK(h:ks.length=es.length+1):∀{k:Nat},k<=es.length->Qcb es ks k++flatL (es.drop k) (ks.drop k)=flatL es ks
 | 0,_=>by rw[Qcb,List.drop_zero,List.drop_zero,List.nil_append]
 | k+1,hk=>by
  have h1:=QhK (k:=k) h om;rw[Qej (l:=es) (i:=k) om,Qej (l:=ks) (i:=k) om,flatL]at h1;rw[Qek om,Qbr om,<-h1];simp
theorem Qji(h:ks=[]\/ks.length=es.length+1):Qcb es ks (es.length+1)=flatL es ks:=by
 rcases h with h|h
 ·subst h;rw[QmO om,QmE (by simp),Qht (Nat.le_refl _),List.take_length,Yk]
 ·have h1:=QhK (k:=es.length) h (Nat.le_refl _);rw[Qej (l:=ks) (i:=es.length) om,List.drop_length,flatL,List.drop_of_length_le om,flatL]at h1;rw[QmO om,Qbr om,<-h1,List.append_nil]
theorem Qrf:(Qcb es ks k).length<=(QeD es ks k).length:=by
 unfold QeD;rw[List.length_append];omega
theorem QkD:(QeD es ks k).length<=(Qcb es ks (k+1)).length:=by
 rw[Qbu,List.length_append];omega
theorem QrW{m:Nat}(h:k<=m):(Qcb es ks k).length<=(Qcb es ks m).length:=by
 obtain⟨d,rfl⟩:=Nat.exists_eq_add_of_le h
 clear h
 induction d with
 | zero=>exact Nat.le_refl _
 | succ d ih=>exact Nat.le_trans ih (Nat.le_trans Qrf QkD)
theorem Qo8(h:ks=[]\/ks.length=es.length+1)(hk:k<=es.length+1):(Qcb es ks k).length<=(flatL es ks).length:=by
 rw[<-Qji h];exact QrW hk
theorem Qwj(h:ks=[]\/ks.length=es.length+1)(hk:k<=es.length):(QeD es ks k).length<=(flatL es ks).length:=Nat.le_trans QkD (Qo8 h om)
theorem Qmu(h:ks=[]\/ks.length=es.length+1){k:Nat}(hk:k<=es.length+1):∃B,flatL es ks=Qcb es ks k++B:=by
 rw[<-Qji h];obtain⟨d,hd⟩:=Nat.exists_eq_add_of_le hk;rw[hd]
 clear hd hk h
 induction d with
 | zero=>exact⟨[],by rw[List.append_nil];rfl⟩
 | succ d ih=>
  obtain⟨B,hB⟩:=ih;rw[show k+(d+1)=(k+d)+1 from rfl,Qbu,QeD,hB,List.append_assoc,List.append_assoc];exact⟨_,rfl⟩
theorem Qiq(h:ks=[]\/ks.length=es.length+1){k:Nat}(hk:k<=es.length):∃B,flatL es ks=QeD es ks k++B:=by
 obtain⟨B,hB⟩:=Qmu h (k:=k+1) om;rw[hB,Qbu,List.append_assoc];exact⟨_,rfl⟩
theorem Qr3(h:ks.length=es.length+1){k:Nat}(hk:k<ks.length){x:TEnt}(hx:x∈(nth ks k).flat):x∈flatL es ks:=by
 obtain⟨B,hB⟩:=Qiq (.inr h) (k:=k) om;rw[hB,Qbr om];exact List.mem_append_left _ (List.mem_append_right _ hx)
def NIn(ns:List Nd)(T:BT):Prop:=∀p∈T.nodes,p.1<ns.length/\nth ns p.1=p.2
theorem Xt.nin{ns:List Nd}{T:BT}(h:Xt ns T):NIn ns T:=λp hp=>RepN.at_ (i:=p.1) (x:=p.2) h hp
theorem NIn.root{ns:List Nd}{i:Nat}(h:NIn ns (.nd i es ks)):i<ns.length/\nth ns i=⟨true,es,Xd ks⟩:=by
 refine h (i,⟨true,es,Xd ks⟩) ?_;rw[BT.nodes];exact List.mem_cons_self ..
theorem Qdw{k:BT}{p:Nat×Nd}:∀{ks:List BT},k∈ks->p∈k.nodes->p∈nodesL ks
 | [],h,_=>(nomatch h)
 | x::ks,h,hp=>by
  rw[nodesL];rcases List.mem_cons.1 h with rfl|h
  ·exact List.mem_append_left _ hp
  ·exact List.mem_append_right _ (Qdw h hp)
theorem Qrx{ks:List BT}{k:Nat}(h:k<ks.length):nth ks k∈ks:=Qz h
theorem NIn.kid{ns:List Nd}{i:Nat}(h:NIn ns (.nd i es ks))(hk:k<ks.length):NIn ns (nth ks k):=λp hp=>h p (by
 rw[BT.nodes];exact List.mem_cons_of_mem _ (Qdw (Qrx hk) hp))
theorem Qit(hk:k<ks.length):(Xd ks).getD k 0=((nth ks k).idx:Int):=by
 unfold Xd;rw[List.getD_eq_getElem?_getD,List.getElem?_map,QV hk];rfl
theorem Qfr{lo hi d i:Nat}(h:Bel lo hi (d+1) (.nd i es ks))(hk:k<ks.length):Bel lo hi d (nth ks k):=(ZZ.1 (h.2 _ (Qrx hk))).1
theorem Qmh{lo hi i:Nat}(h:Bel lo hi 0 (.nd i es ks)):ks=[]:=h
end
end Gx
namespace Go.Proofs
open Go Go.RowKit Gx
attribute [local irreducible] Go.Calls Gx.S Gx.O Gx.D Gx.OpP Gx.OpQ Gx.OpH
set_option maxRecDepth 20000
theorem Zz:tki Tryz.prog 5=some .u8:=by kernel_rfl
theorem Yn:tki Tryz.prog 3=some .i64:=by kernel_rfl
instance:TFn Tryz.prog 151:=⟨by kernel_rfl⟩
theorem Qqk(a b:Int):Value.int .i64 (IntKind.i64.wrap ((if decide (b<a)=true then 1 else 0)-(if decide (a<b)=true then 1 else 0)))=Value.int .i64 (Yi a b):=by
  unfold Yi
  by_cases h1:a<b
  · have h2:¬b<a:=by omega
    simp only[h1,h2,decide_true,decide_false,Bool.false_eq_true,if_true,if_false];rfl
  · by_cases h2:b<a
    · simp only[h1,h2,decide_true,decide_false,Bool.false_eq_true,if_true,if_false];rfl
    · simp only[h1,h2,decide_true,decide_false,Bool.false_eq_true,if_true,if_false];rfl
def Qg8(c:Int):Int:=if 97<=c/\c<=122 then c-32 else c
theorem Qf5(u:UInt8):Qg8 (u.toNat:Int)=((QcO u).toNat:Int):=by
  have hu:=u.toNat_lt;unfold Qg8 QcO
  by_cases h:97<=u/\u<=122
  · have h2:=h;rw[UInt8.le_iff_toNat_le,UInt8.le_iff_toNat_le]at h2;have e97:(97:UInt8).toNat=97:=rfl;have e122:(122:UInt8).toNat=122:=rfl;rw[e97,e122]at h2;rw[if_pos h,if_pos om,UInt8.toNat_sub_of_le _ _ (by rw[UInt8.le_iff_toNat_le];show 32<=_;omega)];show(u.toNat:Int)-32=((u.toNat-32:Nat):Int);omega
  · have h2:=h;rw[UInt8.le_iff_toNat_le,UInt8.le_iff_toNat_le]at h2;have e97:(97:UInt8).toNat=97:=rfl;have e122:(122:UInt8).toNat=122:=rfl;rw[e97,e122]at h2;rw[if_neg h,if_neg om]
theorem c72(w:World)(s:List UInt8)(at' c:Nat)(hm:s.length<=1000000000)(hc:c<=7)(hac:at'+c<=s.length):CR 72 #[.string (bs s),.int .i64 (at':Int),.int .i64 (c:Int)] w (.int .i64 (QbR s at' c)):=by
 refine eN3 Tryz.func72 Tryz.ntmps72 ?_
 refine aT13 ?_
 refine aU3 ?_
 refine Qo (α:=Nat) [7,8,11,12,13,14,15,16,17,18,19,20,21,22,23] (λj=>[(8,.int .i64 ((j:Int)-1)),(7,.int .i64 (QbR s (at'+j) (c-j)))]) (λ_=>_) (λj=>j<=c) (λj=>j) c (Nat.le_refl _) (by rw[Nat.sub_self];exact aSx) (λw h=>h) (λj hj=>?_)
 refine aU6 ?_
 refine sCd rfl (λh1=>?_) λh1=>?_
 ·obtain⟨i,rfl⟩:∃i,j=i+1:=⟨j-1,om⟩
  have hst:QbR s (at'+i) (c-i)=at1 s (at'+i)+256*QbR s (at'+(i+1)) (c-(i+1)):=by rw[show c-i=(c-(i+1))+1 by omega,QbR];rfl
  have hb1:=Qcv s (at'+i)
  have hn6:=Qtx s (at'+(i+1)) (k:=c-(i+1)) om
  have hb9:=(s.getD (at'+i) 0).toNat_lt
  refine aT6 ?_
  refine aT4 ?_
  refine Qf (show _=Value.int .i64 ((at'+i:Nat):Int)from by congr 1;omega) (o_p (XE rfl rfl rfl Tryz.underlying9 (at'+i) om om) rfl ?_)
  refine o_p (Qm rfl rfl Zz Yn) rfl ?_
  try refine oWr ?_
  refine aT ?_
  refine Qf (show _=Value.int .i64 (QbR s (at'+i) (c-i))from by rw[hst];congr 1;show _*256+at1 s (at'+i)=_;omega) (aT6 ?_)
  refine aU2 ?_
  exact QK i om om (by rw[show((i:Int)-1)=((i+1:Nat):Int)-1-1 from om];exact aSx) (λw h=>h)
 obtain rfl:j=0:=om
 rw[Nat.add_zero,Nat.sub_zero]
 refine Qh rfl ?_
 refine aU5 ?_
 exact rV
theorem Qus(w:World)(b:Bool):CR 151 #[.bool b] w (.int .i64 (if b then 1 else 0)):=by
 refine eN1 Tryz.func151 Tryz.ntmps151 ?_
 refine aU9 ?_
 refine sCd rfl (λh1=>?_) λh1=>?_
 ·refine aU4 ?_
  exact rV (h:=by simp_all[Q3])
 refine aU5 ?_
 exact rV (h:=by simp_all[Q3])
theorem c35(w:World)(n:Int):CR 35 #[.int .i64 n] w (.bool (decide (0<=n)&&decide (n<=2147483647))):=by
 refine eN1 Tryz.func35 Tryz.ntmps35 ?_
 refine aU7 ?_
 refine oCq rfl (λw1 h1=>c40 w1 _ _ _) (aU2 ?_)
 exact rV
theorem Qp5(w:World)(a b:Int):CR 133 #[.int .i64 a,.int .i64 b] w (.int .i64 (Yi a b)):=by
 refine eN2 Tryz.func133 Tryz.ntmps133 ?_
 refine aU9 ?_
 refine oCq rfl (λw1 h1=>Qus w1 _) (aU3 ?_)
 refine oCq rfl (λw1 h1=>Qus w1 _) (aU ?_)
 refine Qf (show _=Value.int .i64 (Yi a b)from Qqk a b) (aU2 ?_)
 exact rV
theorem c134(w:World)(c:Int)(h0:0<=c/\c<=255):CR 134 #[.int .i64 c] w (.int .i64 (Qg8 c)):=by
 refine eN1 Tryz.func134 Tryz.ntmps134 ?_
 refine aU8 ?_
 refine oCq rfl (λw1 h1=>c40 w1 _ _ _) (aU ?_)
 refine sCd rfl (λh1=>?_) λh1=>?_
 ·have hz:Qg8 c=c-97+65:=by have hq:=h1;unfold Qg8;rw[if_pos (by first|exact hq|(simp at hq;omega))];omega
  refine aT4 ?_
  refine aT ?_
  refine aU2 ?_
  exact rV (h:=by rw[hz];rfl)
 have hz:Qg8 c=c:=by have hq:=h1;unfold Qg8;rw[if_neg (by intro h9;first|exact hq h9|(simp at hq;omega))]
 refine aU6 ?_
 exact rV (h:=by rw[hz];rfl)
theorem QR:tsl Tryz.prog 139=some (5,1,1):=by kernel_rfl
theorem QdU:tsz Tryz.prog 5=some (1,false):=by kernel_rfl
instance:TSz Tryz.prog 5 1 false:=⟨QdU⟩
theorem YO:tki Tryz.prog 188=some .u16:=by kernel_rfl
theorem QG:Tryz.prog.follows .mixedOrders=true:=by kernel_rfl
theorem Qrv:QQ Tryz.prog 268=true:=by kernel_rfl
theorem Zl:tki Tryz.prog 190=some .u32:=by kernel_rfl
instance:TFn Tryz.prog 255:=⟨by kernel_rfl⟩
instance:TFn Tryz.prog 256:=⟨by kernel_rfl⟩
theorem Qvf:isCS Tryz.prog 254:=⟨_,Tryz.func254,rfl,rfl,by kernel_rfl,by kernel_rfl⟩
instance:TFn Tryz.prog 226:=⟨by kernel_rfl⟩
theorem c268(w:World)(a:Option Addr)(m cap:Nat)(x:List UInt8)(hs:Vl w a (x.map bv))(hm:x.length=m)(h2:2<=m)(hc:m<=cap)(hc9:cap<=9223372036854775807):CR 268 #[.slice a m cap] w (.int .u16 (at2 x 0)):=by
 refine eN1 Tryz.func268 Tryz.ntmps268 ?_
 refine aU5 ?_
 refine Qu [] QG ?_
 refine dP 0 ?_
 refine dV 1 rfl (Qa rfl rfl rfl QR 0 rfl om (hs.some (by rw[List.length_map];omega))) (dQ 2 [] rfl (Qc rfl rfl QdU ((hs.rd (i:=0) (QaQ (l:=x) (k:=0) om)))) (dV 3 rfl (Qm rfl rfl Zz YO) (dP 4 ?_)))
 refine dV 5 rfl (Qa rfl rfl rfl QR 1 rfl om (hs.some (by rw[List.length_map];omega))) (dQ 6 [] rfl (Qc rfl rfl QdU ((hs.rd (i:=1) (QaQ (l:=x) (k:=1) om)))) (dV 7 rfl (Qm rfl rfl Zz YO) (dV 8 rfl (Qgs rfl rfl rfl (by decide) 8 rfl) (dP 9 ?_))))
 refine dP 10 ?_
 refine dNi ?_
 exact rV (h:=by rw[<-Qjx];rfl)
theorem c255(w:World)(a:Option Addr)(m cap:Nat)(x:List UInt8)(hs:Vl w a (x.map bv))(hm:x.length=m)(h2:4<=m)(hc:m<=cap)(hc9:cap<=9223372036854775807):CR 255 #[.slice a m cap] w (.int .u32 (at4 x 0)):=by
 have hx2:=Qba x 0
 have hx3:=Qba x 2
 refine eN1 Tryz.func255 Tryz.ntmps255 ?_
 refine aU5 ?_
 refine Qu [] QG ?_
 refine dP 0 ?_
 refine dQ 1 [] rfl (QA rfl Qrv rfl (λw1 h1=>c268 w1 a m cap x (hs.later h1) hm om hc hc9)) (dV 2 rfl (Qm rfl rfl YO Zl) (dP 3 ?_))
 refine dV 4 rfl (QJ _ _ 2 m rfl rfl QR ⟨_,_,rfl,rfl⟩ rfl om om) (dQ 5 [] rfl (QA rfl Qrv rfl (λw1 h1=>c268 w1 (YW a cap 2 1) (m-2) (cap-2) (x.drop 2) (by rw[List.map_drop];exact(hs.later h1).drop (by rw[List.length_map];omega) om) (by rw[List.length_drop];omega) om om om)) (dV 6 rfl (Qm rfl rfl YO Zl) (dV 7 rfl (Qgs rfl rfl rfl (by decide) 16 rfl) (dP 8 ?_))))
 refine dP 9 ?_
 refine dNi ?_
 exact rV (h:=by have h9:=Qi1 (at2 x 0) (at2 (x.drop 2) 0) (Qba _ _) (Qba _ _);rw[Qbt]at h9 ⊢;exact(congrArg Ending.returned h9))
theorem QuZ(w:World)(s:List UInt8)(p:Nat)(hm:s.length<=1000000)(hp:p+4<=s.length):CR 227 #[.string (bs s),.int .i64 (p:Int)] w (.int .u32 (at4 s p)):=by
 have h4:=QiD s p
 have hdl:(s.drop p).length=s.length-p:=List.length_drop
 refine eN2 Tryz.func227 Tryz.ntmps227 ?_
 refine aU8 ?_
 refine o_p (Y6 p rfl rfl rfl Tryz.underlying9 rfl om) rfl (o_h (QbG rfl rfl Tryz.underlying9 Tryz.underlying139 Tryz.underlying5 rfl (by simp only[maxLen];omega)) rfl (λ⟨b1,c2⟩⟨h3,k4⟩=>oCq rfl (λw1 h1=>by have h9:=c255 w1 (some ⟨b1,0,none⟩) (s.drop p).length c2 (s.drop p) (h1.vl_blk aPk) rfl om (by assumption) (by have hq9:c2<=maxLen:=(by assumption);simp only[maxLen]at hq9;omega);rw[Qgu,Nat.add_zero]at h9;exact h9) (aU2 ?_)))
 exact rV
theorem c256(w:World)(x:Int):CR 256 #[.int .u32 x] w (.bool false):=by
 refine eN1 Tryz.func256 Tryz.ntmps256 ?_
 refine Zw ?_
 exact rV (h:=by simp[Q3])
theorem c228(w:World)(x y:Int):CR 228 #[.int .u32 x,.int .u32 y] w (.int .i64 (Yi x y)):=by
 refine eN2 Tryz.func228 Tryz.ntmps228 ?_
 refine aU7 ?_
 refine oCq rfl (λw1 h1=>c256 w1 _) (aU5 ?_)
 refine oCq rfl (λw1 h1=>c256 w1 _) (aU7 ?_)
 refine sCd rfl (λh1=>?_) λh1=>?_
 ·exfalso;simp at h1
 refine aU6 ?_
 refine sCd rfl (λh2=>?_) λh2=>?_
 ·exfalso;simp at h2
 refine aU8 ?_
 refine sCd rfl (λh3=>?_) λh3=>?_
 ·have hz:Yi x y= -1:=by have hq:=h3;unfold Yi;rw[if_pos hq]
  refine aU4 ?_
  exact rV (h:=by rw[hz];rfl)
 refine aU8 ?_
 refine sCd rfl (λh4=>?_) λh4=>?_
 ·have hz:Yi x y=1:=by have hq:=h4;unfold Yi;rw[if_neg om,if_pos hq]
  refine aU4 ?_
  exact rV (h:=by rw[hz];rfl)
 have hz:Yi x y=0:=by have hq:=h4;unfold Yi;rw[if_neg om,if_neg hq]
 refine aU5 ?_
 exact rV (h:=by rw[hz];rfl)
theorem c226(w:World)(a b:List UInt8):CR 226 #[.string (bs a),.string (bs b)] w (.int .i64 (Yp a b)):=by
 refine eN2 Tryz.func226 Tryz.ntmps226 ?_
 refine aU8 ?_
 refine o_q (QjU rfl rfl rfl Qvf) rfl (aU2 ?_)
 exact rV
theorem c184(w:World)(a b:List UInt8):CR 184 #[.string (bs a),.string (bs b)] w (.int .i64 (Yp a b)):=by
 refine eN2 Tryz.func184 Tryz.ntmps184 ?_
 refine aU8 ?_
 refine oCq rfl (λw1 h1=>c226 w1 _ _) (aU2 ?_)
 exact rV
instance:TFn Tryz.prog 227:=⟨by kernel_rfl⟩
instance:TFn Tryz.prog 228:=⟨by kernel_rfl⟩
instance:TFn Tryz.prog 189:=⟨by kernel_rfl⟩
def Qb2(s:List UInt8)(q:Nat):Bool:=(List.range q).all λi=>QeX s (4*i)
theorem Qn6{s:List UInt8}{q k:Nat}(hk:k<q)(h:2147483647<at4 s (4*k)):Qb2 s q=false:=by
  unfold Qb2;rw[List.all_eq_false];exact⟨k,List.mem_range.2 hk,by unfold QeX;simp;omega⟩
theorem QkG{s:List UInt8}{k:Nat}(h:Qb2 s k=true)(h2:¬2147483647<at4 s (4*k)):Qb2 s (k+1)=true:=by
  unfold Qb2 at h ⊢;rw[List.range_succ,List.all_append,h];unfold QeX;simp;omega
def QcP(a b:List UInt8):Nat->Nat->Int
  | 0,_=>0
  | f+1,k=>if Yi (at4 a (4*k)) (at4 b (4*k))≠0 then Yi (at4 a (4*k)) (at4 b (4*k))else QcP a b f (k+1)
theorem c189(w:World)(s:List UInt8)(q:Nat)(hm:s.length<=1000000)(hq:q<=1000):CR 189 #[.string (bs s),.int .i64 ((4*q:Nat):Int)] w (.bool (decide (s.length=4*q)&&Qb2 s q)):=by
 refine eN2 Tryz.func189 Tryz.ntmps189 ?_
 refine aU8 ?_
 refine o_p (Qn rfl rfl Tryz.underlying9) rfl (aU3 ?_)
 refine sCd rfl (λh1=>?_) λh1=>?_
 ·have hne:¬s.length=4*q:=by have hq9:=h1;omega
  refine aU4 ?_
  exact rV (h:=by simp[Q3,hne])
 have heq:s.length=4*q:=by have hq9:=h1;omega
 refine aU7 ?_
 refine Qo (α:=Nat) [4,5,10,11,12,13,14,15,16,17,18] (λk=>[(5,.int .i64 ((4*k:Nat):Int))]) (λ_=>_) (λk=>k<=q/\Qb2 s k=true) (λk=>q-k) 0 ⟨Nat.zero_le _,rfl⟩ aSx (λw h=>h) (λk hx=>?_)
 obtain⟨hk1,hok⟩:=hx
 refine aU7 ?_
 refine sCd rfl (λh2=>?_) λh2=>?_
 ·have hk:k<q:=by omega
  refine aU7 ?_
  refine oCq rfl (λw1 h1=>QuZ w1 s (4*k) om om) (aU2 ?_)
  refine sCd rfl (λh3=>?_) λh3=>?_
  ·have hz:=Qn6 hk h3
   refine aU4 ?_
   exact rV (h:=by simp[Q3,hz])
  have hz:=QkG hok h3
  refine aT5 ?_
  refine aU2 ?_
  exact QK (k+1) om ⟨om,hz⟩ (by rw[show(((4*k:Nat)):Int)+4=((4*(k+1):Nat):Int)from om];exact aSx) (λw h=>h)
 obtain rfl:k=q:=om
 refine Qh rfl ?_
 refine aU4 ?_
 exact rV (h:=by simp[Q3,heq,hok])
theorem c190(w:World)(a b:List UInt8)(q:Nat)(ha:a.length=4*q)(hb:b.length=4*q)(hq:q<=1000):CR 190 #[.string (bs a),.string (bs b)] w (.int .i64 (QcP a b q 0)):=by
 refine eN2 Tryz.func190 Tryz.ntmps190 ?_
 refine Zo ?_
 refine Qo (α:=Nat) [4,5,6,7,8,9,10,11,12,13,14,15,16,17,18,19,20,21,22] (λk=>[(5,.int .i64 ((4*k:Nat):Int))]) (λ_=>_) (λk=>k<=q/\QcP a b q 0=QcP a b (q-k) k) (λk=>q-k) 0 ⟨Nat.zero_le _,rfl⟩ aSx (λw h=>h) (λk hx=>?_)
 obtain⟨hk1,hx2⟩:=hx
 refine aU5 ?_
 refine o_p (Qn rfl rfl Tryz.underlying9) rfl (aU2 ?_)
 refine sCd rfl (λh1=>?_) λh1=>?_
 ·have hk:k<q:=by omega
  have hst:QcP a b (q-k) k=if Yi (at4 a (4*k)) (at4 b (4*k))≠0 then Yi (at4 a (4*k)) (at4 b (4*k))else QcP a b (q-(k+1)) (k+1):=by rw[show q-k=(q-(k+1))+1 by omega,QcP]
  refine aU7 ?_
  refine oCq rfl (λw1 h1=>QuZ w1 a (4*k) om om) (aU2 ?_)
  refine oCq rfl (λw1 h1=>QuZ w1 b (4*k) om om) (oCq rfl (λw1 h1=>c228 w1 _ _) (aU7 ?_))
  refine sCd rfl (λh2=>?_) λh2=>?_
  ·have hq9:Yi (at4 a (4*k)) (at4 b (4*k))≠0:=h2
   rw[hst,if_pos hq9]at hx2
   refine aU5 ?_
   exact rV (h:=by rw[hx2];rfl)
  have hq9:¬Yi (at4 a (4*k)) (at4 b (4*k))≠0:=by have hq8:=h2;simpa using hq8
  rw[hst,if_neg hq9]at hx2
  refine aT5 ?_
  refine aU2 ?_
  exact QK (k+1) om ⟨om,hx2⟩ (by rw[show(((4*k:Nat)):Int)+4=((4*(k+1):Nat):Int)from om];exact aSx) (λw h=>h)
 obtain rfl:k=q:=om
 rw[Nat.sub_self,QcP]at hx2
 refine Qh rfl ?_
 refine aU4 ?_
 exact rV (h:=by rw[hx2];rfl)
theorem c188(w:World)(s:List UInt8)(hm:s.length<=1000000):CR 188 #[.string (bs s)] w (.bool (QL 2 s)):=by
 refine eN1 Tryz.func188 Tryz.ntmps188 ?_
 refine aU7 ?_
 refine oCq rfl (λw1 h1=>c189 w1 s 1 hm (by decide)) (aU2 ?_)
 exact rV (h:=by simp[Q3,QL,Qb2,List.range_succ,List.range_zero])
theorem c191(w:World)(s:List UInt8)(hm:s.length<=1000000):CR 191 #[.string (bs s)] w (.bool (QL 3 s)):=by
 refine eN1 Tryz.func191 Tryz.ntmps191 ?_
 refine aU7 ?_
 refine oCq rfl (λw1 h1=>c189 w1 s 2 hm (by decide)) (aU2 ?_)
 exact rV (h:=by simp[Q3,QL,Qb2,List.range_succ,List.range_zero])
theorem c183(w:World)(s:List UInt8):CR 183 #[.string (bs s)] w (.bool (QL 0 s)):=by
 refine eN1 Tryz.func183 Tryz.ntmps183 ?_
 refine aU7 ?_
 refine o_p (Qn rfl rfl Tryz.underlying9) rfl (oCq rfl (λw1 h1=>QnN w1 _ _ _) (aU2 ?_))
 exact rV (h:=by simp[Q3,QL,Bool.decide_and];first|done|(congr 1<;>simp<;>omega)|grind)
theorem c185(w:World)(s:List UInt8):CR 185 #[.string (bs s)] w (.bool (QL 1 s)):=by
 refine eN1 Tryz.func185 Tryz.ntmps185 ?_
 refine aU7 ?_
 refine o_p (Qn rfl rfl Tryz.underlying9) rfl (oCq rfl (λw1 h1=>QnN w1 _ _ _) (aU2 ?_))
 exact rV (h:=by simp[Q3,QL,Bool.decide_and];first|done|(congr 1<;>simp<;>omega)|grind)
theorem Qqo:XX Tryz.prog 181=some [.nilFunc,.nilFunc,.nilFunc,.nilFunc,.nilFunc,.nilFunc,.nilFunc,.nilFunc]:=by kernel_rfl
theorem QiF:ZY Tryz.prog 164=some [(0,1),(1,1)]:=by kernel_rfl
theorem Qh7:XX Tryz.prog 164=some [.nilFunc,.nilFunc]:=by kernel_rfl
theorem Qgp:tar Tryz.prog 181=some (4,164,2):=by kernel_rfl
theorem Qqy:tsz Tryz.prog 181=some (8,true):=by kernel_rfl
instance:TSz Tryz.prog 181 8 true:=⟨Qqy⟩
theorem Qlw:QQ Tryz.prog 127=true:=by kernel_rfl
instance:TFn Tryz.prog 127:=⟨Qlw⟩
theorem QfS:tsz Tryz.prog 164=some (2,true):=by kernel_rfl
instance:TSz Tryz.prog 164 2 true:=⟨QfS⟩
theorem Qpg:tfd Tryz.prog 164 0=some (0,103):=by kernel_rfl
theorem QuH:tsz Tryz.prog 103=some (1,false):=by kernel_rfl
def QeW(co:Int):Nat:=if co=0 then 183 else if co=1 then 185 else if co=2 then 188 else 191
def QeH(co:Int):Nat:=if co=0 then 184 else if co=1 then 186 else 190
def Qbj(f:Nat):Value:=.func (.func f) #[] #[]
def ordV(co:Int):Value:=.agg #[Qbj (QeW co),Qbj (QeH co)]
theorem QrO(w:World):CR 127 #[] w (.agg #[Qbj (QeW 0),Qbj (QeH 0),Qbj (QeW 1),Qbj (QeH 1),Qbj (QeW 2),Qbj (QeH 2),Qbj (QeW 3),Qbj (QeH 3)]):=by
 refine eN0 Tryz.func127 Tryz.ntmps127 ?_
 refine aU2 ?_
 refine oAl (λb1 _=>?_) Qqo
 refine aU3 ?_
 refine o_p (QF (cs:=[_,_]) rfl rfl QiF Qh7 rfl) rfl (o_p (QF (cs:=[_,_]) rfl rfl QiF Qh7 rfl) rfl (o_p (QF (cs:=[_,_]) rfl rfl QiF Qh7 rfl) rfl (o_p (QF (cs:=[_,_]) rfl rfl QiF Qh7 rfl) rfl (o_p (QkK (cs:=[_,_,_,_,_,_,_,_]) rfl rfl Qgp Qqo rfl) rfl (aU2 ?_)))))
 exact Qj (rs:=[.cell 0 181]) rfl (.cell rfl Qqy aPk rfl (.nil)) (λw' h'=>⟨by rfl,h'.below⟩)
theorem QuD(co:Int):QQ Tryz.prog (QeW co)=true:=by
  unfold QeW;split
  · kernel_rfl
  · split
    · kernel_rfl
    · split<;>kernel_rfl
theorem Qod(w:World)(j:Nat)(s:List UInt8)(hj:j<=3)(hm:s.length<=1000000):Calls Tryz.prog (QeW (j:Int)) #[.string (bs s)] w λen w'=>en=.returned (.bool (QL (j:Int) s))/\Below w.heap.size w w':=by
  match j,hj with
  | 0,_=>exact c183 w s
  | 1,_=>exact c185 w s
  | 2,_=>exact c188 w s hm
  | 3,_=>exact c191 w s hm
theorem Qer(j:Nat)(hj:j<=3):Value.agg (cut [Qbj (QeW 0),Qbj (QeH 0),Qbj (QeW 1),Qbj (QeH 1),Qbj (QeW 2),Qbj (QeH 2),Qbj (QeW 3),Qbj (QeH 3)] (j*2) 2).toArray=ordV (j:Int):=by
  match j,hj with
  | 0,_=>rfl
  | 1,_=>rfl
  | 2,_=>rfl
  | 3,_=>rfl
theorem QtS(w:World)(j:Nat)(s:List UInt8)(hj:j<=3)(hm:s.length<=1000000):CR 126 #[.int .i64 (j:Int),.string (bs s)] w (.int .i64 (X3 (j:Int) s)):=by
 refine eN2 Tryz.func126 Tryz.ntmps126 ?_
 refine aU6 ?_
 refine oCq rfl (λw1 h1=>QrO w1) (aU ?_)
 refine o_p (QdW rfl rfl rfl Qgp QfS j rfl om) rfl (Qf (Qer j hj) (o_p (Qi6 rfl rfl Qpg QuH rfl) rfl (aU ?_)))
 refine o_q (Xj rfl rfl (QuD _) rfl (λw1 h1=>Qod w1 j s hj hm)) rfl (oCq rfl (λw1 h1=>QdM w1 _ _) (aU2 ?_))
 exact rV (h:=by simp only[Q3,X3,cond_eq_ite])
instance:TFn Tryz.prog 187:=⟨by kernel_rfl⟩
instance:TFn Tryz.prog 184:=⟨by kernel_rfl⟩
theorem bset{L:List UInt8}{k:Nat}{x:UInt8}{v:Value}(h:k<L.length)(hv:v=bv x):Qq (L.map bv) (k*1) [v]=(L.set k x).map bv:=by
  subst hv;have h9:=Z2 (vals:=byV) (sz:=1) (λ_=>rfl) L k 0 [bv x] (L.getD k 0) x (by rw[List.getElem?_eq_getElem h,List.getD_eq_getElem?_getD,List.getElem?_eq_getElem h];rfl) rfl (by simp);rw[Nat.add_zero]at h9;have e:∀M:List UInt8,M.flatMap byV=M.map bv:=λM=>Qph bv M;rw[e,e]at h9;exact h9
def Qdj(s:List UInt8)(k:Nat):List UInt8:=(s.map QcO).take k++s.drop k
theorem QcE{s:List UInt8}{k:Nat}(h:k<=s.length):(Qdj s k).length=s.length:=by simp[Qdj];omega
theorem Qj3{s:List UInt8}{k:Nat}(h:k<s.length):(Qdj s k).getD k 0=s.getD k 0:=by
  unfold Qdj;rw[List.getD_eq_getElem?_getD,List.getElem?_append_right (by simp;omega),List.getElem?_drop,List.getD_eq_getElem?_getD];congr 2;simp;omega
theorem Qjg{s:List UInt8}{k:Nat}(h:k<s.length):(Qdj s k).set k (QcO (s.getD k 0))=Qdj s (k+1):=by
  unfold Qdj;apply List.ext_getElem?;intro j;simp only[List.getElem?_set,List.getElem?_append,List.getElem?_take,List.getElem?_drop,List.length_append,List.length_take,List.length_map,List.length_drop,List.getElem?_map,List.getD_eq_getElem?_getD];have hk:=List.getElem?_eq_getElem h
  grind
theorem Qvw(s:List UInt8):Qdj s 0=s:=by simp[Qdj]
theorem QpE(s:List UInt8):Qdj s s.length=s.map QcO:=by
  unfold Qdj;rw[List.drop_length,List.append_nil,List.take_of_length_le (by simp)]
theorem QnY{s:List UInt8}{k:Nat}(h:k<s.length)(hc:QcO (s.getD k 0)=s.getD k 0):Qdj s k=Qdj s (k+1):=by
  rw[<-Qjg h,hc];apply List.ext_getElem?;intro j;rw[List.getElem?_set];split
  · rename_i e;subst e;rw[<-Qj3 h,List.getD_eq_getElem?_getD];rw[if_pos (by rw[QcE om];exact h),List.getElem?_eq_getElem (by rw[QcE om];exact h)];rfl
  · rfl
theorem Qpr{x:UInt8}(h:97<=x.toNat/\x.toNat<=122):Value.int .u8 (IntKind.u8.wrap (IntKind.u8.wrap ((x.toNat:Int)-97)+65))=bv (QcO x):=by
  have h2:=Qf5 x;unfold Qg8 at h2;rw[if_pos om]at h2;rw[show(x.toNat:Int)-97=((x.toNat-97:Nat):Int) by omega,QlG _ om,show((x.toNat-97:Nat):Int)+65=((x.toNat-32:Nat):Int) by omega,QlG _ om];unfold bv;exact congrArg (Value.int .u8) om
theorem QuB{x:UInt8}(h:¬(97<=x.toNat/\x.toNat<=122)):QcO x=x:=by
  have h2:=Qf5 x;unfold Qg8 at h2;rw[if_neg om]at h2;exact UInt8.toNat_inj.1 om
theorem c187(w:World)(s:List UInt8)(hm:s.length<=1000000):CR 187 #[.string (bs s)] w (.string (bs (s.map QcO))):=by
 refine eN1 Tryz.func187 Tryz.ntmps187 ?_
 refine aU7 ?_
 refine o_h (QbG rfl rfl Tryz.underlying9 Tryz.underlying139 Tryz.underlying5 rfl (by simp only[maxLen];omega)) rfl (λ⟨b1,c2⟩⟨h3,k4⟩=>Zo ?_)
 refine Qo (α:=Nat) [4,5,10,11,12,13,14,15,16,17,18,19,20,21,22,23,24,25,26,27] (λk=>[(10,.int .i64 (k:Int))]) (λk=>HS w [] [.blk b1 5 c2 ((Qdj s k).map bv)]) (λk=>k<=s.length) (λk=>s.length-k) 0 (Nat.zero_le _) aSx (λw h=>by rw[Qvw];exact h.ent aEt) (λk hk1=>?_)
 refine aU5 ?_
 refine sCd rfl (λh5=>?_) λh5=>?_
 ·have hk:k<s.length:=by omega
  have hb9:=(s.getD k 0).toNat_lt
  refine aU6 ?_
  refine o_p (Qa rfl rfl rfl QR (k) om om rfl) rfl (o_q (Qx rfl rfl QdU (λw h=>by rw[Nat.zero_add];exact h.rd_blk (Mc:=[]) aPk (by rw[Nat.mul_one,QaQ (by rw[QcE hk1];exact hk),Qj3 hk]) (by simp))) rfl (aU8 ?_))
  refine X0 3 17 20 rfl
   (λhg6 _=>by
    refine aU4 ?_
    exact oJt 3 20)
   (λhg8 _=>by
    refine aU2 ?_
    exact oJf 3 20) ?_
  refine aU ?_
  refine XP (α:=Unit) [21,22,23,24,25,26] (λ_=>[]) (λ_=>HS w [] [.blk b1 5 c2 ((Qdj s (k+1)).map bv)]) (λ_=>True) ?_ ?_
  ·skip
   refine sCd rfl (λh10=>?_) λh10=>?_
   ·have hcc:97<=(s.getD k 0).toNat/\(s.getD k 0).toNat<=122:=by have hq:=h10;omega
    refine aU6 ?_
    try (refine Qf (u8add _ _) ?_)
    refine Qf (Qpr hcc) (o_p (Qa rfl rfl rfl QR (k) om om rfl) rfl (Qf (show _=Value.pointer (some ⟨b1,k*1,none⟩)from by rw[Nat.zero_add]) (Qah (Q8 rfl rfl rfl QdU rfl aPt (by rw[List.length_map,QcE hk1];omega) rfl) (λ_ _=>aU ?_))))
    exact Qp () trivial aSx (λw h=>by have h2:=HS.blk_to (b:=b1) h aPk (bset (L:=Qdj s k) (x:=QcO (s.getD k 0)) (by rw[QcE hk1];exact hk) rfl);rw[Qjg hk]at h2;exact h2.ent aEt)
   have hno:QcO (s.getD k 0)=s.getD k 0:=QuB (by have hq:=h10;omega)
   refine aU ?_
   exact Qp () trivial aSx (λw h=>by rw[<-QnY hk hno];exact h.ent aEt)
  intro _ _
  refine aT3 ?_
  refine aU2 ?_
  exact sBk (k+1)
 obtain rfl:k=s.length:=om
 rw[QpE]
 refine Qh rfl ?_
 refine aU3 ?_
 refine o_q (Ym rfl rfl Tryz.underlying139 Tryz.underlying9 Tryz.underlying5 aPk (by simp[List.length_map]) (Zi _)) rfl (aU2 ?_)
 exact rV (h:=by simp only[YQ];rfl)
theorem c186(w:World)(a b:List UInt8)(ha:a.length<=1000000)(hb:b.length<=1000000):CR 186 #[.string (bs a),.string (bs b)] w (.int .i64 (Yp (a.map QcO) (b.map QcO))):=by
 refine eN2 Tryz.func186 Tryz.ntmps186 ?_
 refine aU7 ?_
 refine oCq rfl (λw1 h1=>c187 w1 a ha) (aU ?_)
 refine oCq rfl (λw1 h1=>c187 w1 b hb) (oCq rfl (λw1 h1=>c184 w1 _ _) (aU2 ?_))
 exact rV
theorem QoI:QQ Tryz.prog 126=true:=by kernel_rfl
instance:TFn Tryz.prog 126:=⟨QoI⟩
theorem QjF:tfd Tryz.prog 164 1=some (1,162):=by kernel_rfl
instance:TFd Tryz.prog 164 1 1 162:=⟨QjF⟩
theorem QdJ:tsz Tryz.prog 162=some (1,false):=by kernel_rfl
instance:TSz Tryz.prog 162 1 false:=⟨QdJ⟩
theorem QrQ(a b:List UInt8):QcP a b 1 0=QN 2 a b:=by
  simp only[QcP,QN,Nat.mul_zero];split
  · rfl
  · rename_i h;simp only[ne_eq,Decidable.not_not]at h;rw[h];rfl
theorem QrV(a b:List UInt8):QcP a b 2 0=QN 3 a b:=by
  have e:QN 3 a b=if Yi (at4 a 0) (at4 b 0)≠0 then Yi (at4 a 0) (at4 b 0)else Yi (at4 a 4) (at4 b 4):=rfl
  rw[e];show(if Yi (at4 a 0) (at4 b 0)≠0 then Yi (at4 a 0) (at4 b 0)else if Yi (at4 a 4) (at4 b 4)≠0 then Yi (at4 a 4) (at4 b 4)else 0)=_
  by_cases h:Yi (at4 a 0) (at4 b 0)≠0
  · rw[if_pos h,if_pos h]
  · rw[if_neg h,if_neg h];split
    · rfl
    · rename_i h2;simp only[ne_eq,Decidable.not_not]at h2;exact h2.symm
theorem QfA{s:List UInt8}(h:QL 2 s=true):s.length=4:=by
  unfold QL at h;simp at h;exact h.1
theorem Qfy{s:List UInt8}(h:QL 3 s=true):s.length=8:=by
  unfold QL at h;simp at h;exact h.1
theorem Qeu(co:Int):QQ Tryz.prog (QeH co)=true:=by
  unfold QeH;split
  · kernel_rfl
  · split<;>kernel_rfl
theorem Qan(w:World)(j:Nat)(a b:List UInt8)(hj:j<=3)(hka:QL (j:Int) a=true)(hkb:QL (j:Int) b=true)(ha:a.length<=1000000)(hb:b.length<=1000000):Calls Tryz.prog (QeH (j:Int)) #[.string (bs a),.string (bs b)] w λen w'=>en=.returned (.int .i64 (QN (j:Int) a b))/\Below w.heap.size w w':=by
  match j,hj with
  | 0,_=>exact c184 w a b
  | 1,_=>exact c186 w a b ha hb
  | 2,_=>
    have h:=c190 w a b 1 (QfA hka) (QfA hkb) (by decide);rw[QrQ]at h;exact h
  | 3,_=>
    have h:=c190 w a b 2 (Qfy hka) (Qfy hkb) (by decide);rw[QrV]at h;exact h
theorem keyE_ok{co:Int}{k:List UInt8}(h:X3 co k=0):QL co k=true:=by
  unfold X3 at h;split at h
  · assumption
  · cases h
def Qbw(co:Int)(a b:List UInt8):Int:=if QC co=0 then if X3 co a=0 then X3 co b else X3 co a else QC co
theorem Qa7{co:Int}(h:QC co=0):∃j:Nat,co=(j:Int)/\j<=3:=by
  unfold QC at h;split at h
  · exact⟨co.toNat,om,om⟩
  · cases h
theorem c58(w:World)(co:Int)(a b:List UInt8)(ha:a.length<=1000000)(hb:b.length<=1000000):CR 58 #[.int .i64 co,.string (bs a),.string (bs b)] w (.tuple #[.int .i64 (if Qbw co a b=0 then QN co a b else 0),.int .i64 (Qbw co a b)]):=by
 refine eN3 Tryz.func58 Tryz.ntmps58 ?_
 refine aU9 ?_
 refine oCq rfl (λw1 h1=>c124 w1 _) (aU7 ?_)
 refine sCd rfl (λh1=>?_) λh1=>?_
 ·have h0:¬QC co=0:=h1
  have hz:Qbw co a b=QC co:=by unfold Qbw;rw[if_neg h0]
  refine aU6 ?_
  exact Qj (rs:=[.tmp 6,.tmp 7]) rfl (.tmp rfl (.tmp rfl (.nil))) (λw' h'=>⟨by rw[hz,if_neg h0];rfl,h'.below⟩)
 have h0:QC co=0:=h1
 obtain⟨j,rfl,hj⟩:=Qa7 h0
 have hz:Qbw (j:Int) a b=Xs [.int .i64 (X3 (j:Int) a),.int .i64 (X3 (j:Int) b)]:=by rw[Qb4];unfold Qbw;rw[if_pos h0]
 refine aU6 ?_
 refine oCq rfl (λw1 h1=>QtS w1 j a hj ha) (aU2 ?_)
 refine oCq rfl (λw1 h1=>QtS w1 j b hj hb) (o_h (Qg (cs:=[_,_]) rfl rfl Yt ZP rfl rfl rfl) rfl (λb2 _=>oCq rfl (λw1 h1=>Qog h1 aPk (by rfl) (by rfl) (by decide)) (aU7 ?_)))
 refine sCd rfl (λh3=>?_) λh3=>?_
 ·have h1:¬Xs [.int .i64 (X3 (j:Int) a),.int .i64 (X3 (j:Int) b)]=0:=h3
  refine aU6 ?_
  exact Qj (rs:=[.tmp 6,.tmp 7]) rfl (.tmp rfl (.tmp rfl (.nil))) (λw' h'=>⟨by rw[hz,if_neg h1];rfl,h'.below⟩)
 have h1:Xs [.int .i64 (X3 (j:Int) a),.int .i64 (X3 (j:Int) b)]=0:=h3
 obtain⟨hka,hkb⟩:X3 (j:Int) a=0/\X3 (j:Int) b=0:=by rw[Qb4]at h1;split at h1;exact⟨by assumption,h1⟩;rename_i h9;exact absurd h1 h9
 refine aU3 ?_
 refine oCq rfl (λw1 h1=>QrO w1) (aU ?_)
 refine o_p (QdW rfl rfl rfl Qgp QfS j rfl om) rfl (Qf (Qer j hj) (o_p (Qi6 rfl rfl QjF QdJ rfl) rfl (aU2 ?_)))
 refine o_q (Xj rfl rfl (Qeu _) rfl (λw1 h1=>Qan w1 j a b hj (keyE_ok hka) (keyE_ok hkb) ha hb)) rfl (aU3 ?_)
 exact Qj (rs:=[.tmp 6,.tmp 7]) rfl (.tmp rfl (.tmp rfl (.nil))) (λw' h'=>⟨by rw[hz,if_pos h1,h1];rfl,h'.below⟩)
instance:TFd Tryz.prog 27 0 0 9:=⟨by kernel_rfl⟩
theorem Zd:tsz Tryz.prog 9=some (1,false):=by kernel_rfl
instance:TSz Tryz.prog 9 1 false:=⟨Zd⟩
instance:TFd Tryz.prog 27 1 1 9:=⟨by kernel_rfl⟩
theorem Qkm(co:Int)(x:TEnt):Ending.returned (Value.int .i64 (if X3 co x.key=0 then cond (decide ((x.val.length:Int)<=64)) 0 8 else X3 co x.key))=Ending.returned (Value.int .i64 (Yc co x)):=by
  unfold Yc
  by_cases h:X3 co x.key=0
  · rw[if_pos h,if_pos h]
    by_cases h2:x.val.length<=64
    · rw[if_pos h2,decide_eq_true om];rfl
    · rw[if_neg h2,decide_eq_false om];rfl
  · rw[if_neg h,if_neg h];unfold X3 at h ⊢;split at h
    · exact absurd rfl h
    · rename_i h3;rw[if_neg h3]
theorem c164(w:World)(j:Nat)(x:TEnt)(hj:j<=3)(hm:x.key.length<=1000000):CR 164 #[.int .i64 (j:Int),.agg #[.string (bs x.key),.string (bs x.val)]] w (.int .i64 (Yc (j:Int) x)):=by
 refine eN2 Tryz.func164 Tryz.ntmps164 ?_
 refine aU2 ?_
 refine oBx λb1 _=>?_
 refine aU3 ?_
 refine Qu [] QG ?_
 refine dP 0 ?_
 refine dFa 1 ?_
 refine dLd 2 [] ?_
 refine dQ 3 [] rfl (QA rfl QoI rfl (λw1 h1=>QtS w1 j x.key hj hm)) (dFa 4 ?_)
 refine dLd 5 [] ?_
 refine dV 6 rfl (Qn rfl rfl Tryz.underlying9) (dP 7 ?_)
 refine dQ 8 [] rfl (QA rfl Qb1 rfl (λw1 h1=>QdM w1 _ _)) (dH 9 rfl (Qg (cs:=[_,_]) rfl rfl Yt ZP rfl rfl rfl) (λb2 _=>dBa ?_))
 refine dQ 10 [] rfl (QA rfl Qgh rfl (λw1 h1=>Qog h1 aPk (by rfl) (by rfl) (by decide))) (dP 11 ?_)
 refine dNi ?_
 exact rV (h:=by simp only[Q3];rw[Qb4];exact Qkm _ _)
theorem Qs6:QQ Tryz.prog 72=true:=by kernel_rfl
instance:TFn Tryz.prog 72:=⟨Qs6⟩
instance:TFn Tryz.prog 35:=⟨by kernel_rfl⟩
theorem kok0(s:List UInt8):QL ((0:Nat):Int) s=(decide ((1:Int)<=(s.length:Int))&&decide ((s.length:Int)<=40)):=by
  rw[Bool.eq_iff_iff];simp[QL];omega
theorem kok1(s:List UInt8):QL ((1:Nat):Int) s=(decide ((1:Int)<=(s.length:Int))&&decide ((s.length:Int)<=32)):=by
  rw[Bool.eq_iff_iff];simp[QL];omega
theorem kok2(s:List UInt8):QL ((2:Nat):Int) s=(decide ((s.length:Int)=4)&&(decide (0<=at4 s 0)&&decide (at4 s 0<=2147483647))):=by
  have:=QiD s 0;rw[Bool.eq_iff_iff];simp[QL,QeX];omega
theorem kok3(s:List UInt8):QL ((3:Nat):Int) s=(decide ((s.length:Int)=8)&&(decide (0<=at4 s 0)&&decide (at4 s 0<=2147483647))&&(decide (0<=at4 s 4)&&decide (at4 s 4<=2147483647))):=by
  have:=QiD s 0;have:=QiD s 4;rw[Bool.eq_iff_iff];simp[QL,QeX];omega
theorem c17(w:World)(j:Nat)(s:List UInt8)(hj:j<=3)(hm:s.length<=1000000):CR 17 #[.int .i64 (j:Int),.string (bs s)] w (.int .i64 (X3 (j:Int) s)):=by
 refine eN2 Tryz.func17 Tryz.ntmps17 ?_
 refine aU7 ?_
 refine o_p (Qn rfl rfl Tryz.underlying9) rfl (oCq rfl (λw1 h1=>c40 w1 _ _ _) (Qa5 ?_))
 refine XP (α:=Unit) [5,12,13,14,15,16,17,18,19,20,21,22,23,24,25,26,27,28,29,30,31,32,33,34,35,36,37,38,39] (λ_=>[(5,.bool (QL (j:Int) s))]) (λ_=>HS w [] []) (λ_=>True) ?_ ?_
 ·skip
  refine sCd rfl (λh1=>?_) λh1=>?_
  ·obtain rfl:j=1:=by have hq:=h1;omega
   refine aU2 ?_
   refine o_p (Qn rfl rfl Tryz.underlying9) rfl (oCq rfl (λw1 h1=>c40 w1 _ _ _) (aU2 ?_))
   exact Qp () trivial (by rw[kok1];exact aSx) (λw h=>h.ent aEt)
  have hn1:¬(j:Int)=1:=h1
  refine aU5 ?_
  refine sCd rfl (λh2=>?_) λh2=>?_
  ·obtain rfl:j=2:=by have hq:=h2;omega
   refine aU2 ?_
   refine o_p (Qn rfl rfl Tryz.underlying9) rfl (aU2 ?_)
   refine X0 4 20 24 rfl
    (λhg3 _=>by
     refine aU3 ?_
     refine oCq rfl (λw1 h1=>by have h9:=c72 w1 s 0 4 om om (by have hq:=hg3;first|omega|(simp at hq;omega));rw[ZF]at h9;exact h9) (aU ?_)
     refine oCq rfl (λw1 h1=>c35 w1 _) ?_
     exact oJt 4 24)
    (λhg5 _=>by
     refine aU3 ?_
     exact oJf 4 24) ?_
   refine aU2 ?_
   exact Qp () trivial (by rw[kok2];exact aSx) (λw h=>h.ent aEt)
  have hn2:¬(j:Int)=2:=h2
  refine aU5 ?_
  refine sCd rfl (λh7=>?_) λh7=>?_
  ·obtain rfl:j=3:=by have hq:=h7;omega
   refine aU2 ?_
   refine o_p (Qn rfl rfl Tryz.underlying9) rfl (aU2 ?_)
   refine X0 4 30 34 rfl
    (λhg8 _=>by
     refine aU3 ?_
     refine oCq rfl (λw1 h1=>by have h9:=c72 w1 s 0 4 om om (by have hq:=hg8;first|omega|(simp at hq;omega));rw[ZF]at h9;exact h9) (aU ?_)
     refine oCq rfl (λw1 h1=>c35 w1 _) ?_
     exact oJt 4 34)
    (λhg10 _=>by
     refine aU3 ?_
     exact oJf 4 34) ?_
   refine aU ?_
   refine X0 4 35 39 rfl
    (λhg12 _=>by
     refine aU3 ?_
     refine oCq rfl (λw1 h1=>by have h9:=c72 w1 s 4 4 om om (by have hq:=hg12;first|omega|(simp at hq;omega));rw[ZF]at h9;exact h9) (aU ?_)
     refine oCq rfl (λw1 h1=>c35 w1 _) ?_
     exact oJt 4 39)
    (λhg14 _=>by
     refine aU3 ?_
     exact oJf 4 39) ?_
   refine aU2 ?_
   exact Qp () trivial (by rw[kok3];exact aSx) (λw h=>h.ent aEt)
  have hn3:¬(j:Int)=3:=h7
  obtain rfl:j=0:=om
  refine aU ?_
  exact Qp () trivial (by rw[kok0];exact aSx) (λw h=>h.ent aEt)
 intro _ _
 refine aU7 ?_
 refine sCd rfl (λh16=>?_) λh16=>?_
 ·have hz:X3 (j:Int) s=3:=by have hq:=h16;unfold X3;rw[if_neg (by simpa using hq)]
  refine aU4 ?_
  exact rV (h:=by rw[hz];rfl)
 have hz:X3 (j:Int) s=0:=by have hq:=h16;unfold X3;rw[if_pos (by simpa using hq)]
 refine aU5 ?_
 exact rV (h:=by rw[hz];rfl)
instance:TFn Tryz.prog 17:=⟨by kernel_rfl⟩
theorem c198(w:World)(j:Nat)(x:TEnt)(hj:j<=3)(hm:x.key.length<=1000000):CR 198 #[.int .i64 (j:Int),.agg #[.string (bs x.key),.string (bs x.val)]] w (.int .i64 (Yc (j:Int) x)):=by
 refine eN2 Tryz.func198 Tryz.ntmps198 ?_
 refine aU2 ?_
 refine oBx λb1 _=>?_
 refine aU8 ?_
 refine oCq rfl (λw1 h1=>c17 w1 j x.key hj hm) (aU7 ?_)
 refine sCd rfl (λh2=>?_) λh2=>?_
 ·have h0:¬X3 (j:Int) x.key=0:=h2
  have hz:Yc (j:Int) x=X3 (j:Int) x.key:=by have h9:=Qkm (j:Int) x;rw[if_neg h0]at h9;injection h9 with h9;injection h9 with _ h9;exact h9.symm
  refine aU5 ?_
  exact rV (h:=by rw[hz];rfl)
 have h0:X3 (j:Int) x.key=0:=h2
 refine aU6 ?_
 refine o_p (Qn rfl rfl Tryz.underlying9) rfl (aU2 ?_)
 refine sCd rfl (λh3=>?_) λh3=>?_
 ·have hz:Yc (j:Int) x=8:=by have hq:=h3;unfold Yc;rw[if_pos h0,if_neg om]
  refine aU4 ?_
  exact rV (h:=by rw[hz];rfl)
 have hz:Yc (j:Int) x=0:=by have hq:=h3;unfold Yc;rw[if_pos h0,if_pos om]
 refine aU5 ?_
 exact rV (h:=by rw[hz];rfl)
instance:TFn Tryz.prog 133:=⟨by kernel_rfl⟩
instance:TFn Tryz.prog 134:=⟨by kernel_rfl⟩
def mpK(j:Int)(l:List UInt8):List UInt8:=if j=1 then l.map QcO else l
theorem QaX(j:Int)(l:List UInt8):(mpK j l).length=l.length:=by unfold mpK;split<;>simp
theorem Qsg{j:Nat}(h2:¬(j:Int)=2)(h3:¬(j:Int)=3)(a b:List UInt8):QN (j:Int) a b=Yp (mpK (j:Int) a) (mpK (j:Int) b):=by
  unfold QN mpK;rw[if_neg h2,if_neg h3];split<;>rfl
theorem Qnz{x y:List UInt8}{k:Nat}(hx:k<x.length)(hy:k<y.length):Yp (x.drop k) (y.drop k)=if Yi ((x.getD k 0).toNat:Int) ((y.getD k 0).toNat:Int)≠0 then Yi ((x.getD k 0).toNat:Int) ((y.getD k 0).toNat:Int)else Yp (x.drop (k+1)) (y.drop (k+1)):=by
  rw[List.drop_eq_getElem_cons hx,List.drop_eq_getElem_cons hy,List.getD_eq_getElem?_getD,List.getD_eq_getElem?_getD,List.getElem?_eq_getElem hx,List.getElem?_eq_getElem hy];simp only[Yp,Option.getD_some,Yi,UInt8.lt_iff_toNat_lt];split
  · rename_i h;rw[if_pos om,if_pos om]
  · rename_i h;rw[if_neg (show¬((x[k].toNat:Int)<y[k].toNat) by omega)];split
    · rename_i h2;rw[if_pos om,if_pos om]
    · rename_i h2;rw[if_neg om]
theorem Qp7{x y:List UInt8}{k:Nat}(hx:k<=x.length)(hy:k<=y.length)(h:¬(k<x.length/\k<y.length)):Yp (x.drop k) (y.drop k)=Yi (x.length:Int) (y.length:Int):=by
  unfold Yi;rcases Nat.lt_or_ge k x.length with h1|h1
  · have e:y.drop k=[]:=List.drop_of_length_le om;rw[e,List.drop_eq_getElem_cons h1,if_neg om,if_pos om];rfl
  · have e:x.drop k=[]:=List.drop_of_length_le h1;rw[e];rcases Nat.lt_or_ge k y.length with h2|h2
    · rw[List.drop_eq_getElem_cons h2,if_pos om];rfl
    · have e2:y.drop k=[]:=List.drop_of_length_le h2;rw[e2,if_neg om,if_neg om];rfl
theorem QlN{a:List UInt8}{k:Nat}(h:k<a.length):(((mpK 1 a).getD k 0).toNat:Int)=Qg8 ((a.getD k 0).toNat:Int):=by
  unfold mpK;rw[if_pos rfl,Qf5,List.getD_eq_getElem?_getD,List.getElem?_map,List.getElem?_eq_getElem h,List.getD_eq_getElem?_getD,List.getElem?_eq_getElem h];rfl
theorem Qqp{j:Int}(hj:¬j=1)(a:List UInt8):mpK j a=a:=by unfold mpK;rw[if_neg hj]
theorem c65(w:World)(j:Nat)(a b:List UInt8)(hj:j<=3)(hka:QL (j:Int) a=true)(hkb:QL (j:Int) b=true)(ha:a.length<=1000000)(hb:b.length<=1000000):CR 65 #[.int .i64 (j:Int),.string (bs a),.string (bs b)] w (.int .i64 (QN (j:Int) a b)):=by
 refine eN3 Tryz.func65 Tryz.ntmps65 ?_
 refine aU15 ?_
 refine sCd rfl (λh1=>?_) λh1=>?_
 ·obtain rfl:j=2:=by have hq:=h1;omega
  have hl1:=QfA hka
  have hl2:=QfA hkb
  have hz:QN ((2:Nat):Int) a b=Yi (at4 a 0) (at4 b 0):=rfl
  refine aU3 ?_
  refine oCq rfl (λw1 h1=>by have h9:=c72 w1 a 0 4 om om om;rw[ZF]at h9;exact h9) (aU ?_)
  refine oCq rfl (λw1 h1=>by have h9:=c72 w1 b 0 4 om om om;rw[ZF]at h9;exact h9) (oCq rfl (λw1 h1=>Qp5 w1 _ _) (aU2 ?_))
  exact rV (h:=by rw[hz];rfl)
 have hn2:¬(j:Int)=2:=h1
 refine aU5 ?_
 refine sCd rfl (λh2=>?_) λh2=>?_
 ·obtain rfl:j=3:=by have hq:=h2;omega
  have hl1:=Qfy hka
  have hl2:=Qfy hkb
  have hz:QN ((3:Nat):Int) a b=if Yi (at4 a 0) (at4 b 0)≠0 then Yi (at4 a 0) (at4 b 0)else Yi (at4 a 4) (at4 b 4):=rfl
  refine aU4 ?_
  refine oCq rfl (λw1 h1=>by have h9:=c72 w1 a 0 4 om om om;rw[ZF]at h9;exact h9) (aU ?_)
  refine oCq rfl (λw1 h1=>by have h9:=c72 w1 b 0 4 om om om;rw[ZF]at h9;exact h9) (oCq rfl (λw1 h1=>Qp5 w1 _ _) (aU7 ?_))
  refine sCd rfl (λh3=>?_) λh3=>?_
  ·have hq9:Yi (at4 a 0) (at4 b 0)≠0:=h3
   rw[if_pos hq9]at hz
   refine aU5 ?_
   exact rV (h:=by rw[hz];rfl)
  have hq9:¬Yi (at4 a 0) (at4 b 0)≠0:=by have hq8:=h3;simpa using hq8
  rw[if_neg hq9]at hz
  refine aU4 ?_
  refine oCq rfl (λw1 h1=>by have h9:=c72 w1 a 4 4 om om om;rw[ZF]at h9;exact h9) (aU ?_)
  refine oCq rfl (λw1 h1=>by have h9:=c72 w1 b 4 4 om om om;rw[ZF]at h9;exact h9) (oCq rfl (λw1 h1=>Qp5 w1 _ _) (aU2 ?_))
  exact rV (h:=by rw[hz];rfl)
 have hn3:¬(j:Int)=3:=h2
 have hmp:=Qsg hn2 hn3 a b
 refine aU8 ?_
 refine Qo (α:=Nat) [6,8,9,10,11,35,36,37,38,39,40,41,42,43,44,45,46,47,48,49,50,51,52,53,54,55,56,57,58,59,60,61,62,63,64,65,66] (λk=>[(8,.int .i64 (k:Int))]) (λ_=>_) (λk=>k<=a.length/\k<=b.length/\Yp (mpK (j:Int) a) (mpK (j:Int) b)=Yp ((mpK (j:Int) a).drop k) ((mpK (j:Int) b).drop k)) (λk=>a.length-k) 0 ⟨Nat.zero_le _,Nat.zero_le _,rfl⟩ aSx (λw h=>h) (λk hx=>?_)
 obtain⟨hk1,hk2,hk3⟩:=hx
 refine aU5 ?_
 refine o_p (Qn rfl rfl Tryz.underlying9) rfl (aU2 ?_)
 refine X0 5 39 44 rfl
  (λhg4 _=>by
   refine aU5 ?_
   refine o_p (Qn rfl rfl Tryz.underlying9) rfl (aU2 ?_)
   exact oJt 5 44)
  (λhg6 _=>by
   refine aU4 ?_
   exact oJf 5 44) ?_
 refine aU ?_
 refine sCd rfl (λh8=>?_) λh8=>?_
 ·obtain⟨hka1,hkb1⟩:k<a.length/\k<b.length:=by have hq:=h8;omega
  have hb1:=(a.getD k 0).toNat_lt
  have hb2:=(b.getD k 0).toNat_lt
  have hst:=Qnz (x:=mpK (j:Int) a) (y:=mpK (j:Int) b) (k:=k) (by rw[QaX];exact hka1) (by rw[QaX];exact hkb1)
  refine aU4 ?_
  refine Qu [] QG ?_
  refine dP 0 ?_
  refine dP 1 ?_
  refine dV 2 rfl (XE rfl rfl rfl Tryz.underlying9 (k) om om) ?_
  refine dV 3 rfl (Qm rfl rfl Zz Yn) ?_
  try refine dWr ?_
  refine dP 4 ?_
  refine dP 5 ?_
  refine dV 6 rfl (XE rfl rfl rfl Tryz.underlying9 (k) om om) ?_
  refine dV 7 rfl (Qm rfl rfl Zz Yn) ?_
  try refine dWr ?_
  refine dP 8 ?_
  refine dP 9 ?_
  refine dNi ?_
  refine aU6 ?_
  refine Qe (L':=[(0,_),(1,_),(2,_),(8,_),(9,_),(10,_),(12,_),(13,_),(14,_),(20,_),(21,_),(56,_)]) aSx (λ_ h=>h) ?_
  refine XP (α:=Unit) [9,10,57,58,59,60] (λ_=>[(9,.int .i64 (((mpK (j:Int) a).getD k 0).toNat:Int)),(10,.int .i64 (((mpK (j:Int) b).getD k 0).toNat:Int))]) (λ_=>HS w [] []) (λ_=>True) ?_ ?_
  ·skip
   refine sCd rfl (λh9=>?_) λh9=>?_
   ·obtain rfl:j=1:=by have hq:=h9;omega
    refine aU2 ?_
    refine oCq rfl (λw1 h1=>c134 w1 _ om) (aU ?_)
    refine oCq rfl (λw1 h1=>c134 w1 _ om) (aU3 ?_)
    exact Qp () trivial (by rw[show(((1:Nat):Int))=1 from rfl,QlN hka1,QlN hkb1];exact aSx) (λw h=>h.ent aEt)
   have hn1:¬(j:Int)=1:=h9
   refine aU ?_
   exact Qp () trivial (by rw[Qqp hn1,Qqp hn1];exact aSx) (λw h=>h.ent aEt)
  intro _ _
  refine aU4 ?_
  refine oCq rfl (λw1 h1=>Qp5 w1 _ _) (aU7 ?_)
  refine sCd rfl (λh10=>?_) λh10=>?_
  ·have hq9:Yi (((mpK (j:Int) a).getD k 0).toNat:Int) (((mpK (j:Int) b).getD k 0).toNat:Int)≠0:=h10
   have hz:=hmp.trans (hk3.trans (hst.trans (if_pos hq9)))
   refine aU5 ?_
   exact rV (h:=by rw[hz];rfl)
  have hq9:¬Yi (((mpK (j:Int) a).getD k 0).toNat:Int) (((mpK (j:Int) b).getD k 0).toNat:Int)≠0:=by have hq8:=h10;simpa using hq8
  have hz:=hk3.trans (hst.trans (if_neg hq9))
  refine aT5 ?_
  refine aU2 ?_
  exact QK (k+1) om ⟨om,om,hz⟩ aSx (λw h=>h)
 have hz:=Qp7 (x:=mpK (j:Int) a) (y:=mpK (j:Int) b) (k:=k) (by rw[QaX];exact hk1) (by rw[QaX];exact hk2) (by rw[QaX,QaX];have hq:=h8;omega)
 rw[<-hk3,<-hmp,QaX,QaX]at hz
 refine Qh rfl ?_
 refine aU3 ?_
 refine o_p (Qn rfl rfl Tryz.underlying9) rfl (aU ?_)
 refine o_p (Qn rfl rfl Tryz.underlying9) rfl (oCq rfl (λw1 h1=>Qp5 w1 _ _) (aU2 ?_))
 exact rV (h:=by rw[hz];rfl)
theorem Xn:XX Tryz.prog 37=some [.int .i64 0,.int .i64 0,.int .i64 0,.slice none 0 0]:=by kernel_rfl
theorem Qco:ZY Tryz.prog 69=some [(0,1),(1,1),(2,1)]:=by kernel_rfl
theorem Xc:XX Tryz.prog 69=some [.bool false,.slice none 0 0,.slice none 0 0]:=by kernel_rfl
theorem QH:tsl Tryz.prog 35=some (69,3,56):=by kernel_rfl
theorem ZQ:ZY Tryz.prog 37=some [(0,1),(1,1),(2,1),(3,1)]:=by kernel_rfl
theorem XM:tsz Tryz.prog 37=some (4,true):=by kernel_rfl
instance:TSz Tryz.prog 37 4 true:=⟨XM⟩
theorem c122(w:World)(co mo rm:Int):CE 122 #[.int .i64 co,.int .i64 mo,.int .i64 rm] w [] (λg:Option Addr×Nat=>.agg #[.int .i64 co,.int .i64 mo,.int .i64 rm,.slice g.1 1 g.2]) (λg=>True) λg=>[.own (.slice g.1 1 g.2) 69 3 1 [.bool true,.slice none 0 0,.slice none 0 0]]:=by
 refine eN3 Tryz.func122 Tryz.ntmps122 ?_
 refine aU2 ?_
 refine oAl (λb1 _=>?_) Xn
 refine aU6 ?_
 refine o_p (QF (cs:=[_,_,_]) rfl rfl Qco Xc rfl) rfl (o_h (Qg (cs:=[_,_,_]) rfl rfl QH Xc rfl rfl rfl) rfl (λb2 _=>o_p (QF (cs:=[_,_,_,_]) rfl rfl ZQ Xn rfl) rfl (aU2 ?_)))
 exact Qj (rs:=[.cell 6 37]) rfl (.cell rfl XM aPk rfl (.nil)) (λw' h'=>⟨(some ⟨b2,0,none⟩,1),rfl,trivial,(HS.own_shut (n:=1) (cap:=1) (sz:=3) h' rfl (by decide) (by decide)).ent aEt⟩)
instance:TFn Tryz.prog 155:=⟨by kernel_rfl⟩
theorem Qy:tsl Tryz.prog 67=some (27,2,32):=by kernel_rfl
theorem Xb:tsz Tryz.prog 27=some (2,true):=by kernel_rfl
instance:TSz Tryz.prog 27 2 true:=⟨Xb⟩
theorem XD:XX Tryz.prog 27=some [.string (bs []),.string (bs [])]:=by kernel_rfl
instance:TFd Tryz.prog 166 0 0 37:=⟨by kernel_rfl⟩
instance:TFd Tryz.prog 37 1 1 3:=⟨by kernel_rfl⟩
theorem Ye:tsz Tryz.prog 3=some (1,false):=by kernel_rfl
instance:TSz Tryz.prog 3 1 false:=⟨Ye⟩
instance:TFd Tryz.prog 37 2 2 3:=⟨by kernel_rfl⟩
theorem Zk:tsz Tryz.prog 158=some (1,false):=by kernel_rfl
instance:TSz Tryz.prog 158 1 false:=⟨Zk⟩
instance:TFd Tryz.prog 37 0 0 3:=⟨by kernel_rfl⟩
theorem QpB:QQ Tryz.prog 164=true:=by kernel_rfl
instance:TFn Tryz.prog 164:=⟨QpB⟩
instance:TFd Tryz.prog 166 1 4 164:=⟨by kernel_rfl⟩
instance:TFd Tryz.prog 69 1 1 67:=⟨by kernel_rfl⟩
theorem YE:tsz Tryz.prog 67=some (1,false):=by kernel_rfl
instance:TSz Tryz.prog 67 1 false:=⟨YE⟩
def tbV(co mo rm:Int)(a:Option Addr)(n cap:Nat):List Value:=[.int .i64 co,.int .i64 mo,.int .i64 rm,.slice a n cap,Qbj (QeW co),Qbj (QeH co)]
def TbR(w:World)(M:List Nat)(bt:Nat)(co mo rm:Int)(a:Option Addr)(n cap:Nat):Prop:=∀k v,(tbV co mo rm a n cap)[k]?=some v->Rd w M bt k v
section
variable{w w':World}{M M':List Nat}{As As':List HA}{bt:Nat}{co mo rm:Int}{a:Option Addr}{n cap:Nat}
theorem TbR.next(h:TbR w M bt co mo rm a n cap)(hs:HS w M As w'):TbR w' [] bt co mo rm a n cap:=λk v hv=>(h k v hv).next hs
theorem TbR.keep(h:TbR w M bt co mo rm a n cap)(hs:HS w M As w'):TbR w' (fps As) bt co mo rm a n cap:=λk v hv=>hs.keep (h k v hv)
theorem TbR.mono(h:TbR w M bt co mo rm a n cap)(hM:∀b∈M',b∈M):TbR w M' bt co mo rm a n cap:=λk v hv=>(h k v hv).mono hM
theorem HS.tbr{w0:World}{tot t:Nat}(h:HS w0 M As w)(hp:QD As (.blk bt t tot (tbV co mo rm a n cap)) As'):TbR w [] bt co mo rm a n cap:=λk v hv=>h.rd_blk (Mc:=[]) hp hv (by simp)
end
def Qg7(co mo rm:Int):Tre:=if(if QC co=0 then XI mo rm else QC co)=0 then⟨co,mo,rm,[⟨true,[],[]⟩]⟩else⟨0,0,0,[]⟩
theorem Q9{w0 w:World}{M:List Nat}{As:List HA}(et nt:Nat)(h:HS w0 M As w):HS w0 M (.nodes et nt none 0 []::As) w:=by
  have h1:HS w0 M (.own (.slice none 0 0) nt 3 0 []::.star []::As) w:=(h.star_nil).own_nil nt 3;exact HS.row_shut (l:=([]:List LNd)) h1 rfl rfl
theorem Qn4{w0 w:World}{M:List Nat}{As:List HA}{a:Option Addr}{cap nt:Nat}(et:Nat)(h:HS w0 M (.own (.slice a 1 cap) nt 3 1 [.bool true,.slice none 0 0,.slice none 0 0]::As) w):HS w0 M (.nodes et nt a cap [⟨true,none,0,[],none,0,[]⟩]::As) w:=by
  have h1:HS w0 M (.star ([(⟨true,none,0,[],none,0,[]⟩:LNd)].map (QB et))::As) w:=HS.star_close (Bs:=[_]) (HS.star_close (Bs:=[_,_]) ((h.tail.own_nil 3 1).own_nil et 2));have h2:HS w0 M (.star []::.own (.slice a 1 cap) nt 3 1 [.bool true,.slice none 0 0,.slice none 0 0]::As) w:=h.star_nil
  have h3:HS w0 M (.own (.slice a 1 cap) nt 3 1 [.bool true,.slice none 0 0,.slice none 0 0]::.star ([(⟨true,none,0,[],none,0,[]⟩:LNd)].map (QB et))::As) w:=
    HS.perm (HS.star_close (Bs:=[_]) (HS.star_close (Bs:=[_,_]) ((h.own_nil 3 1).own_nil et 2))) (List.Perm.swap ..)
  exact HS.row_shut (l:=[(⟨true,none,0,[],none,0,[]⟩:LNd)]) h3 rfl rfl
theorem c91(w:World)(co mo rm:Int):CE 91 #[.int .i64 co,.int .i64 mo,.int .i64 rm] w [] (λg:(Option Addr×Nat)×List LNd=>.tuple #[.agg #[.int .i64 (Qg7 co mo rm).co,.int .i64 (Qg7 co mo rm).mo,.int .i64 (Qg7 co mo rm).rm,.slice g.1.1 g.2.length g.1.2],.int .i64 (if QC co=0 then XI mo rm else QC co)]) (λg=>pln g.2=(Qg7 co mo rm).ns) λg=>[.nodes 27 69 g.1.1 g.1.2 g.2]:=by
 refine eN3 Tryz.func91 Tryz.ntmps91 ?_
 refine aU2 ?_
 refine oAl (λb1 _=>?_) Xn
 refine aU8 ?_
 refine oCq rfl (λw1 h1=>c155 w1 _ _ _) (aU7 ?_)
 refine sCd rfl (λh2=>?_) λh2=>?_
 ·have hz:Qg7 co mo rm=⟨0,0,0,[]⟩:=by unfold Qg7;rw[if_neg h2]
  refine aU2 ?_
  refine o_p (QF (cs:=[_,_,_,_]) rfl rfl ZQ Xn rfl) rfl (aU4 ?_)
  exact Qj (rs:=[.cell 6 37,.tmp 7]) rfl (.cell rfl XM aPk rfl (.tmp rfl (.nil))) (λw' h'=>⟨((none,0),[]),by rw[hz];rfl,by rw[hz];rfl,(Q9 27 69 h'.nil).ent aEt⟩)
 have hz:Qg7 co mo rm=⟨co,mo,rm,[⟨true,[],[]⟩]⟩:=by unfold Qg7;rw[if_pos h2]
 refine aU6 ?_
 refine o_p (QF (cs:=[_,_,_]) rfl rfl Qco Xc rfl) rfl (o_h (Qg (cs:=[_,_,_]) rfl rfl QH Xc rfl rfl rfl) rfl (λb3 _=>o_p (QF (cs:=[_,_,_,_]) rfl rfl ZQ Xn rfl) rfl (aU3 ?_)))
 exact Qj (rs:=[.cell 6 37,.tmp 7]) rfl (.cell rfl XM aPk rfl (.tmp rfl (.nil))) (λw' h'=>⟨((some ⟨b3,0,none⟩,1),[⟨true,none,0,[],none,0,[]⟩]),by rw[hz,h2];rfl,by rw[hz];rfl,(Qn4 27 (HS.own_shut (n:=1) (cap:=1) (sz:=3) (h'.ent (Bs:=[.blk b3 69 (1*3) [.bool true,.slice none 0 0,.slice none 0 0]]) aEt) rfl (by decide) (by decide))).ent aEt⟩)
theorem c230(w:World)(a:Option Addr)(cap:Nat)(l:List TEnt)(q:Nat)(cv:Array Value)(es:List Int)(hs:Rw TEnt.vals 2 w [] a l)(hm:l.length<=1000000)(hq:QQ Tryz.prog q=true)(he:es.length=l.length)(hc:∀k w1,k<l.length->(∀j,j<k->es.getD j 0=0)->HS w [] [] w1->Calls Tryz.prog q (#[]++[.int .i64 (k:Int),.agg (TEnt.vals (nth l k)).toArray].toArray++cv) w1 λen w2=>en=.returned (.int .i64 (es.getD k 0))/\Below w1.heap.size w1 w2):CR 230 #[.slice a l.length cap,.func (.func q) #[] cv] w (.tuple #[.int .i64 (Y9 es 0).1,.int .i64 (Y9 es 0).2]):=by
 refine eN2 Tryz.func230 Tryz.ntmps230 ?_
 refine Qa5 ?_
 refine Qo (α:=Nat) [4,5,6,7,8,11,12,13,14,15,16,17,18,19,20,21,22,23,24] (λk=>[(11,.int .i64 (k:Int))]) (λ_=>HS w [] []) (λk=>k<=l.length/\Y9 es 0=Y9 (es.drop k) k/\∀j,j<k->es.getD j 0=0) (λk=>l.length-k) 0 ⟨om,rfl,λi h=>absurd h (Nat.not_lt_zero i)⟩ aSx (λw h=>h.ent aEt) (λk hk=>?_)
 obtain⟨hk1,hk2,hk3⟩:=hk
 refine aU5 ?_
 refine sCd rfl (λh1=>?_) λh1=>?_
 ·refine aU6 ?_
  refine o_p (Qa rfl rfl rfl Qy (k) om om (Rw.some hs om)) rfl (o_q (QI _ rfl rfl Xb rfl (Rw.rd hs om)) rfl (oAl (λb2 _=>?_) XD))
  refine aU8 ?_
  refine o_q (Xj rfl rfl hq rfl (λw1 h1=>hc k w1 om hk3 (h1.ent aEt))) rfl (aU7 ?_)
  refine sCd rfl (λh3=>?_) λh3=>?_
  ·refine aU7 ?_
   exact Qj (rs:=[.tmp 4,.tmp 5]) rfl (.tmp rfl (.tmp rfl (.nil))) (λw' h'=>⟨by simp only[Q3];rw[hk2,Qaq om,if_neg (by assumption)],h'.below⟩)
  refine aT4 ?_
  refine aU2 ?_
  exact sBk (k+1) om ⟨om,by rw[hk2,Qaq om,if_pos (by assumption)],λj hj=>(Nat.lt_or_ge j k).elim (hk3 j) (λh=>by obtain rfl:j=k:=om;assumption)⟩
 refine Qh rfl ?_
 refine aU5 ?_
 exact Qj (rs:=[.tmp 4,.tmp 5]) rfl (.tmp rfl (.tmp rfl (.nil))) (λw' h'=>⟨by simp only[Q3];rw[hk2,Qn1 om],h'.below⟩)
theorem c173(w:World)(bt:Nat)(j:Nat)(mo rm:Int)(a:Option Addr)(n cap:Nat)(hmo:0<=mo/\mo<=1000)(ht:TbR w [] bt (j:Int) mo rm a n cap):CR 173 #[.pointer (some ⟨bt,0,none⟩)] w (.int .i64 (mo/2)):=by
 refine eN1 Tryz.func173 Tryz.ntmps173 ?_
 refine Zo ?_
 refine o_q (Qc rfl rfl Ye (ht 1 _ rfl)) rfl (o_p (XC rfl rfl rfl om om om) rfl (aU2 ?_))
 exact rV
theorem c229(w:World)(bt:Nat)(j:Nat)(mo rm:Int)(a:Option Addr)(n cap:Nat)(i:Nat)(ht:TbR w [] bt (j:Int) mo rm a n cap):CR 229 #[.pointer (some ⟨bt,0,none⟩),.int .i64 (i:Int)] w (.int .i64 (Yr mo rm i)):=by
 refine eN2 Tryz.func229 Tryz.ntmps229 ?_
 refine Zo ?_
 refine sCd rfl (λh1=>?_) λh1=>?_
 ·obtain rfl:i=0:=by have hq:=h1;omega
  refine aU6 ?_
  refine o_q (Qc rfl rfl Ye (ht 2 _ rfl)) rfl (aU2 ?_)
  exact rV
 have hn0:¬i=0:=by have hq:=h1;omega
 refine aU7 ?_
 refine o_q (Qc rfl rfl Ye (ht 1 _ rfl)) rfl (aU2 ?_)
 exact rV (h:=by simp only[Q3,Yr];rw[if_neg hn0])
theorem c231(w:World)(c0:Nat)(k:Int)(x:TEnt)(bt:Nat)(j:Nat)(mo rm:Int)(a:Option Addr)(n cap:Nat)(hj:j<=3)(hx:x.key.length<=1000000)(hc0:Rd w [] c0 0 (.pointer (some ⟨bt,0,none⟩)))(ht:TbR w [] bt (j:Int) mo rm a n cap):CR 231 #[.int .i64 k,.agg #[.string (bs x.key),.string (bs x.val)],.pointer (some ⟨c0,0,none⟩)] w (.int .i64 (Yc (j:Int) x)):=by
 refine eN3 Tryz.func231 Tryz.ntmps231 ?_
 refine aU2 ?_
 refine oBx λb1 _=>?_
 refine aU3 ?_
 refine Qu [] QG ?_
 refine dQ 0 [] rfl (Qc rfl rfl Zk (hc0)) (dP 1 ?_)
 refine dFa 2 ?_
 refine dFa 3 ?_
 refine dQ 4 [] rfl (Qc rfl rfl Ye (ht 0 _ rfl)) (dLn 5 [] ?_)
 refine dQ 6 [] rfl (QA rfl QpB rfl (λw1 h1=>c164 w1 j x hj hx)) (dP 7 ?_)
 refine dNi ?_
 exact rV
theorem c234(w:World)(c0 c7:Nat)(k:Nat)(us:Bool)(ea:Option Addr)(ec:Nat)(es:List TEnt)(kids:Value)(bt:Nat)(j:Nat)(mo rm:Int)(a:Option Addr)(n cap:Nat)(hj:j<=3)(hk:k<es.length)(hl:es.length<=1000000)(hx:∀x∈es,QL (j:Int) x.key=true/\x.key.length<=1000000)(hc0:Rd w [] c0 0 (.pointer (some ⟨bt,0,none⟩)))(hc7:Rd w [] c7 1 (.slice ea es.length ec))(hes:Rw TEnt.vals 2 w [] ea es)(ht:TbR w [] bt (j:Int) mo rm a n cap):CR 234 #[.int .i64 (k:Int),.agg #[.string (bs (nth es k).key),.string (bs (nth es k).val)],.pointer (some ⟨c0,0,none⟩),.pointer (some ⟨c7,0,none⟩)] w (.int .i64 (Qa9 (j:Int) es k)):=by
 refine eN4 Tryz.func234 Tryz.ntmps234 ?_
 refine aU2 ?_
 refine oBx λb1 _=>?_
 refine aU3 ?_
 refine Qu [] QG ?_
 refine dP 0 ?_
 refine dP 1 ?_
 refine dP 2 ?_
 apply Xu 9
 ·exact rfl
 ·intro hg2
  have hs3:=hg2;try simp only[dT]at hs3
  refine dOf 3 9 hg2 ?_
  refine dOf 4 9 hg2 ?_
  refine dOf 5 9 hg2 ?_
  refine dOf 6 9 hg2 ?_
  refine dOf 7 9 hg2 ?_
  refine dOf 8 9 hg2 ?_
  refine dOf 9 9 hg2 ?_
  refine dOf 10 9 hg2 ?_
  refine dOf 11 9 hg2 ?_
  refine dOf 12 9 hg2 ?_
  refine dOf 13 9 hg2 ?_
  refine dOf 14 9 hg2 ?_
  refine dOf 15 9 hg2 ?_
  refine dOf 16 9 hg2 ?_
  refine dOf 17 9 hg2 ?_
  refine dOf 18 9 hg2 ?_
  refine dOf 19 9 hg2 ?_
  refine dV 20 rfl (Xq rfl rfl hg2 rfl) (dQ 21 [] rfl (QA rfl Qb1 rfl (λw1 h1=>QdM w1 _ _)) (dP 22 ?_))
  refine dNi ?_
  exact rV (h:=by simp only[Q3,Qa9];first|(split<;>simp_all<;>done)|(simp_all;done)|(grind))
 intro hg4
 have hs5:=hg4;try simp only[dN]at hs5
 refine dQo 3 9 [] hg4 rfl rfl rfl (Qc rfl rfl Zk (hc0)) ?_
 refine dPo 4 9 hg4 ?_
 refine dFo 5 9 hg4 ?_
 refine dFo 6 9 hg4 ?_
 refine dQo 7 9 [] hg4 rfl rfl rfl (Qc rfl rfl QdJ (ht 5 _ rfl)) ?_
 refine dFo 8 9 hg4 ?_
 refine dQo 9 9 [] hg4 rfl rfl rfl (Qc rfl rfl YE (hc7)) ?_
 refine dPo 10 9 hg4 ?_
 refine dPo 11 9 hg4 ?_
 try refine dWr ?_
 refine dVo 12 9 hg4 rfl rfl rfl (Qgg rfl rfl rfl ) ?_
 refine dVo 13 9 hg4 rfl rfl rfl (Qa rfl rfl rfl Qy (k-1) om om (Rw.some hes om)) ?_
 refine dFo 14 9 hg4 ?_
 refine dQo 15 9 [] hg4 rfl rfl rfl (Qc rfl rfl Zd ((hes.rdj (i:=k-1) 0 om rfl))) ?_
 refine dFo 16 9 hg4 ?_
 refine dQo 17 9 [] hg4 rfl rfl rfl (Yh rfl rfl Zd aPk rfl) ?_
 refine dQo 18 9 [] hg4 rfl rfl rfl (Xj rfl rfl (Qeu _) rfl (λw1 h1=>Qan w1 j (nth es (k-1)).key (nth es k).key hj (hx _ (Qz om)).1 (hx _ (Qz hk)).1 (hx _ (Qz om)).2 (hx _ (Qz hk)).2)) ?_
 refine dPo 19 9 hg4 ?_
 refine dV 20 rfl (Xe rfl rfl hg4 rfl) (dQ 21 [] rfl (QA rfl Qb1 rfl (λw1 h1=>QdM w1 _ _)) (dP 22 ?_))
 refine dNi ?_
 exact rV (h:=by simp only[Q3,Qa9];first|(split<;>simp_all<;>done)|(simp_all;done)|(grind))
theorem Qa6:tki Tryz.prog 239=some .u64:=by kernel_rfl
instance:TFd Tryz.prog 37 3 3 35:=⟨by kernel_rfl⟩
theorem Yz:tsz Tryz.prog 35=some (1,false):=by kernel_rfl
instance:TSz Tryz.prog 35 1 false:=⟨Yz⟩
instance:TFn Tryz.prog 215:=⟨by kernel_rfl⟩
theorem QM:tsl Tryz.prog 28=some (3,1,8):=by kernel_rfl
theorem YP:XX Tryz.prog 3=some [.int .i64 0]:=by kernel_rfl
instance:TFn Tryz.prog 170:=⟨by kernel_rfl⟩
instance:TFd Tryz.prog 69 2 2 28:=⟨by kernel_rfl⟩
theorem Ya:tsz Tryz.prog 28=some (1,false):=by kernel_rfl
instance:TSz Tryz.prog 28 1 false:=⟨Ya⟩
theorem c215(w:World)(a:Option Addr)(cap:Nat)(l:List TEnt)(q:Nat)(cv:Array Value)(cs:List Int)(key:List UInt8)(hs:Rw TEnt.vals 2 w [] a l)(hm:l.length<=1000000)(hq:QQ Tryz.prog q=true)(hb:cs.length=l.length)(hc:∀k w1,k<l.length->HS w [] [] w1->Calls Tryz.prog q (#[]++[.agg (TEnt.vals (nth l k)).toArray,.string (bs key)].toArray++cv) w1 λen w2=>en=.returned (.int .i64 (cs.getD k 0))/\Below w1.heap.size w1 w2):CR 215 #[.slice a l.length cap,.string (bs key),.func (.func q) #[] cv] w (.tuple #[.int .i64 (bsL cs:Int),.bool (Qsj cs)]):=by
 refine eN3 Tryz.func215 Tryz.ntmps215 ?_
 refine aU19 ?_
 refine Qo (α:=Nat×Nat×Nat) [9,10,11,15,16,17,18,19,20,21,22,23,24,25,26,27,28,29,30,31,32,33,34] (λx=>[(9,.int .i64 (x.2.1:Int)),(10,.int .i64 (x.2.2:Int))]) (λ_=>_) (λx=>x.2.1<=x.2.2/\x.2.2<=l.length/\x.2.2-x.2.1<=x.1/\bsC cs x.1 x.2.1 x.2.2=bsL cs) (λx=>x.1) (l.length,0,l.length) ⟨by simp,by simp,by simp,by rw[<-hb];rfl⟩ aSx (λw h=>h.ent aEt) (λ⟨m,lo,hi⟩hx=>?_)
 dsimp only
 obtain⟨hx1,hx2,hx3,hx4⟩:=hx
 simp only[]at hx1 hx2 hx3 hx4
 refine aU7 ?_
 refine sCd rfl (λh1=>?_) λh1=>?_
 ·refine aT7 ?_
  refine o_p (Qm rfl rfl Yn Qa6) rfl ?_
  rw[show IntKind.u64.wrap ((lo:Int)+(hi:Int))=((lo+hi:Nat):Int)from Qge _ om]
  refine o_p (Qbl rfl rfl rfl (by decide) 1 rfl) rfl (o_p (Qm rfl rfl Qa6 Yn) rfl ?_)
  try refine oWr ?_
  refine Qf (show _=Value.int .i64 (((lo+hi)/2:Nat):Int)from by congr 1) ?_
  obtain⟨q2,hq1,hq2⟩:=Qqe (cs:=cs) (show lo<hi by omega) hx3
  refine aU7 ?_
  refine o_p (Qa rfl rfl rfl Qy ((lo+hi)/2) om om (Rw.some hs om)) rfl (o_q (QI _ rfl rfl Xb rfl (Rw.rd hs (i:=(lo+hi)/2) om)) rfl (aU ?_))
  refine o_q (Xj rfl rfl hq rfl (λw1 h1=>hc ((lo+hi)/2) w1 om (h1.ent aEt))) rfl (aU2 ?_)
  refine sCd rfl (λh2=>?_) λh2=>?_
  ·refine aT3 ?_
   refine aU3 ?_
   exact sBk (q2,(lo+hi)/2+1,hi) (by(try simp only[]);omega) ⟨by(try simp only[]);omega,hx2,by(try simp only[]);omega,by simp only[];rw[<-hx4,hq2,if_pos h2]⟩ (by refine Zm (congrArg (λe=>some (Value.int .i64 e)) (show(((lo+hi)/2:Nat):Int)+1=(((lo+hi)/2+1:Nat):Int) by omega)) ?_;repeat (first|exact QdL|refine Zm rfl ?_))
  refine aU5 ?_
  exact sBk (q2,lo,(lo+hi)/2) (by(try simp only[]);omega) ⟨by(try simp only[]);omega,by(try simp only[]);omega,by(try simp only[]);omega,by simp only[];rw[<-hx4,hq2,if_neg h2]⟩
 refine Qh rfl ?_
 refine aU3 ?_
 have hlo:bsL cs=lo:=by rw[<-hx4,QrI _ _ _ _ om]
 refine aU4 ?_
 refine X0 9 39 48 rfl
  (λhg3 _=>by
   refine aU7 ?_
   refine o_p (Qa rfl rfl rfl Qy (lo) om om (Rw.some hs om)) rfl (aU ?_)
   refine o_q (QI _ rfl rfl Xb rfl (Rw.rd hs (i:=lo) om)) rfl (aU3 ?_)
   refine o_q (Xj rfl rfl hq rfl (λw1 h1=>hc lo w1 om (h1.ent aEt))) rfl (aU2 ?_)
   exact oJt 9 48)
  (λhg5 _=>by
   refine aU8 ?_
   exact oJf 9 48) ?_
 refine aU3 ?_
 exact Qj (rs:=[.tmp 6,.tmp 7]) rfl (.tmp rfl (.tmp rfl (.nil))) (λw' h'=>⟨by simp only[Q3,Qsj,hlo];first|(rw[hb];simp;done)|(have:¬lo<cs.length:=om;simp[this];done)|(have:lo<cs.length:=om;simp[this];done)|(have:lo<cs.length:=om;have hl9:lo<l.length:=om;simp only[this,hl9,decide_true,Bool.true_and,Bool.and_true];rfl)|(have:lo<cs.length:=om;have hl9:lo<l.length:=om;simp[this,hl9]),h'.below⟩)
theorem c216(w:World)(c0:Nat)(x:TEnt)(key:List UInt8)(bt:Nat)(j:Nat)(mo rm:Int)(a:Option Addr)(n cap:Nat)(hj:j<=3)(hx:QL (j:Int) x.key=true)(hk:QL (j:Int) key=true)(hxl:x.key.length<=1000000)(hkl:key.length<=1000000)(hc0:Rd w [] c0 0 (.pointer (some ⟨bt,0,none⟩)))(ht:TbR w [] bt (j:Int) mo rm a n cap):CR 216 #[.agg #[.string (bs x.key),.string (bs x.val)],.string (bs key),.pointer (some ⟨c0,0,none⟩)] w (.int .i64 (QN (j:Int) x.key key)):=by
 refine eN3 Tryz.func216 Tryz.ntmps216 ?_
 refine aU2 ?_
 refine oBx λb1 _=>?_
 refine aU3 ?_
 refine Qu [] QG ?_
 refine dQ 0 [] rfl (Qc rfl rfl Zk (hc0)) (dP 1 ?_)
 refine dFa 2 ?_
 refine dFa 3 ?_
 refine dQ 4 [] rfl (Qc rfl rfl QdJ (ht 5 _ rfl)) (dFa 5 ?_)
 refine dLd 6 [] ?_
 refine dP 7 ?_
 refine dQ 8 [] rfl (Xj rfl rfl (Qeu _) rfl (λw1 h1=>Qan w1 j x.key key hj hx hk hxl hkl)) (dP 9 ?_)
 refine dNi ?_
 exact rV
theorem c170(w:World)(bt:Nat)(j:Nat)(mo rm:Int)(a:Option Addr)(cap:Nat)(L:List LNd)(key:List UInt8)(i:Nat)(hj:j<=3)(hi:i<L.length)(hl:L.length<=1000)(hel:(nth L i).es.length<=1000)(hK:∀i,i<L.length->∀x∈(nth L i).es,QL (j:Int) x.key=true/\x.key.length<=1000000)(hk:QL (j:Int) key=true)(hkl:key.length<=1000000)(hasc:Asc (j:Int) (nth L i).es)(hs:Nt w [] a L)(ht:TbR w [] bt (j:Int) mo rm a L.length cap):CR 170 #[.pointer (some ⟨bt,0,none⟩),.int .i64 (i:Int),.string (bs key)] w (.tuple #[.int .i64 (plc (j:Int) (nth L i).es key:Int),.bool (fnd (j:Int) (nth L i).es key)]):=by
 refine eN3 Tryz.func170 Tryz.ntmps170 ?_
 refine aU2 ?_
 refine oBx λb1 _=>?_
 refine aU9 ?_
 refine o_q (Qc rfl rfl Yz (ht 3 _ rfl)) rfl (aU ?_)
 refine o_p (Qa rfl rfl rfl QH (i) om om (Rw.some hs.1 om)) rfl (aU ?_)
 refine o_q (Qc rfl rfl YE ((hs.1.rdj 1 hi rfl))) rfl (aU2 ?_)
 refine oCq rfl (λw1 h1=>by have h9:=c215 w1 (nth L i).ea (nth L i).ec (nth L i).es 216 #[.pointer (some ⟨b1,0,none⟩)] (Qgk (j:Int) (nth L i).es key) key ((hs.es hi).later h1) om (by kernel_rfl) (Qdh _ _ _) (λk w2 hk9 h2=>by rw[QcY hk9];exact c216 w2 b1 (nth (nth L i).es k) key bt j mo rm a L.length cap hj (hK i hi _ (Qz hk9)).1 hk (hK i hi _ (Qz hk9)).2 hkl ((h1.rd_blk (Mc:=[]) aPk rfl (by simp)).next h2) ((ht.next h1).next h2));rw[Qrk hasc,Quz hasc]at h9;exact h9) (aU5 ?_)
 exact Qj (rs:=[.tmp 6,.tmp 7]) rfl (.tmp rfl (.tmp rfl (.nil))) (λw' h'=>⟨rfl,h'.below⟩)
theorem Qhj{co:Int}{ns:List Nd}{key:List UInt8}{f i:Nat}(h:¬(fnd co (nth ns i).es key=true\/(nth ns i).cs.length=0)):Qdk co ns key (f+1) i=(i::(Qdk co ns key f ((nth ns i).cs.getD (plc co (nth ns i).es key) 0).toNat).1,(Qdk co ns key f ((nth ns i).cs.getD (plc co (nth ns i).es key) 0).toNat).2):=by
  rw[Qdk,if_neg h]
theorem QcW{co:Int}{ns:List Nd}{key:List UInt8}{f i:Nat}(h:fnd co (nth ns i).es key=true\/(nth ns i).cs.length=0):Qdk co ns key (f+1) i=([i],plc co (nth ns i).es key,fnd co (nth ns i).es key):=by
  rw[Qdk,if_pos h]
theorem QsN(l:List Nat):(l.map λi:Nat=>(i:Int)).flatMap inV=l.map λi:Nat=>Value.int .i64 (i:Int):=by
  induction l with
  | nil=>rfl
  | cons x l ih=>
    rw[List.map_cons,List.flatMap_cons,List.map_cons,ih];rfl
theorem c111(w:World)(bt:Nat)(j:Nat)(mo rm:Int)(a:Option Addr)(cap:Nat)(L:List LNd)(key:List UInt8)(hj:j<=3)(h0:0<L.length)(hB:Bd (pln L))(hT:TOk (j:Int) (pln L))(hK:∀i,i<L.length->∀x∈(nth L i).es,QL (j:Int) x.key=true/\x.key.length<=1000000)(hk:QL (j:Int) key=true)(hkl:key.length<=1000000)(hs:Nt w [] a L)(ht:TbR w [] bt (j:Int) mo rm a L.length cap):CE 111 #[.pointer (some ⟨bt,0,none⟩),.string (bs key)] w [] (λg:Option Addr×Nat=>.tuple #[.slice g.1 (Qt (j:Int) (pln L) key).1.length g.2,.int .i64 ((Qt (j:Int) (pln L) key).2.1:Int),.bool (Qt (j:Int) (pln L) key).2.2]) (λg=>True) λg=>[.kids g.1 g.2 ((Qt (j:Int) (pln L) key).1.map λi:Nat=>(i:Int))]:=by
 refine eN2 Tryz.func111 Tryz.ntmps111 ?_
 refine Zw ?_
 refine Qo (α:=(Option Addr×Nat)×List Nat×Nat×Nat) [4,5,6,7,8,9,10,11,12,13,14,15,16,17,18,19,20,21,22,23,24,25,26,27,28,29,30,31,32,33,34,35,36,37,38,39,40,41,42,43,44,45,46,47] (λx=>[(4,.slice x.1.1 x.2.1.length x.1.2),(7,.int .i64 (x.2.2.1:Int))]) (λx=>HS w [] [.own (.slice x.1.1 x.2.1.length x.1.2) 3 1 x.2.1.length (x.2.1.map λi:Nat=>Value.int .i64 (i:Int))]) (λx=>x.2.2.1<L.length/\x.2.1.length+x.2.2.2=L.length/\Gx.Way (pln L) (x.2.2.1::x.2.1.reverse)/\(Qt (j:Int) (pln L) key)=(x.2.1++(Qdk (j:Int) (pln L) key x.2.2.2 x.2.2.1).1,(Qdk (j:Int) (pln L) key x.2.2.2 x.2.2.1).2)) (λx=>x.2.2.2) ((none,0),[],0,L.length) ⟨h0,by simp,rfl,by rw[Qt,Qd];rfl⟩ aSx (λw h=>(h.own_nil 3 1).ent aEt) (λ⟨⟨ga,gc⟩,P,i,f⟩hx=>?_)
 dsimp only
 obtain⟨hi,hlen,hway,hpath⟩:=hx
 simp only[]at hi hlen hway hpath
 have hwl:=YK hT (by rw[Qd];exact h0) hway
 simp only[List.length_cons,List.length_reverse,Qd]at hwl
 obtain⟨f,rfl⟩:∃f9,f=f9+1:=⟨f-1,om⟩
 have hni:=Qr hi
 have hle:=hB.len
 rw[Qd]at hle
 have hes9:=hB.es i (by rw[Qd];exact hi)
 have hcs9:=hB.cs i (by rw[Qd];exact hi)
 rw[hni]at hes9 hcs9
 have hasc:=hT.asc i (by rw[Qd];exact hi)
 rw[hni]at hasc
 refine aU5 ?_
 refine o_h (Qg (cs:=[_]) rfl rfl QM YP rfl rfl rfl) rfl (λb1 _=>o_h (QO [_] rfl rfl rfl QM Tryz.underlying28 YP rfl aPk (Q7 aPk) rfl (by intro u hu;simp only[List.mem_cons,List.mem_nil_iff,or_false]at hu;subst hu;rfl) om (by simp only[maxLen];omega)) rfl (λb2 _=>aU7 ?_))
 refine oCq rfl (λw1 h1=>c170 w1 bt j mo rm a cap L key i hj hi om hes9 hK hk hkl hasc (hs.later h1.nil) (ht.next h1.nil)) (Zw ?_)
 refine oOr 12 20 32 rfl
  (λhg3 _=>by
   refine aU9 ?_
   refine o_q (Qc rfl rfl Yz (ht 3 _ rfl)) rfl (aU3 ?_)
   refine o_p (Qa rfl rfl rfl QH (i) om om (Rw.some hs.1 om)) rfl (aU3 ?_)
   refine o_q (Qc rfl rfl Ya ((hs.1.rdj 2 hi rfl))) rfl (aU4 ?_)
   exact oJf 12 32)
  (λhg5 _=>by
   refine Zw ?_
   exact oJt 12 32) ?_
 refine aU ?_
 refine sCd rfl (λh7=>?_) λh7=>?_
 ·have hst:fnd (j:Int) (nth (pln L) i).es key=true\/(nth (pln L) i).cs.length=0:=by rw[hni];have hq:=h7;first|exact hq|(simp at hq;simpa[LNd.pl]using hq)
  refine aU9 ?_
  exact Qj (rs:=[.tmp 4,.tmp 5,.tmp 6]) rfl (.tmp rfl (.tmp rfl (.tmp rfl (.nil)))) (λw' h'=>⟨(b2.1,b2.2),by rw[hpath,QcW hst,hni];simp[Q3,LNd.pl],trivial,by rw[hpath,QcW hst];have h2:=h';unfold HA.kids;rw[QsN];simp only[List.length_map,List.length_append,List.length_singleton,List.map_append,List.map_cons,List.map_nil];exact h2.ent aEt⟩)
 have hst:¬(fnd (j:Int) (nth (pln L) i).es key=true\/(nth (pln L) i).cs.length=0):=by rw[hni];have hq:=h7;first|exact hq|(simp at hq;simpa[LNd.pl]using hq)
 have hcl:(nth L i).cs.length=(nth L i).es.length+1:=by rcases hT.shape i (by rw[Qd];exact hi)with h9|h9;exact absurd (.inr h9) hst;rw[hni]at h9;exact h9
 have hple:=Qat (j:Int) key (nth L i).es
 have hpk:plc (j:Int) (nth L i).es key<(nth L i).cs.length:=om
 have hkid:=Qdx hT (by rw[Qd];exact hi) (i:=i) (k:=plc (j:Int) (nth L i).es key) (by rw[hni];exact hpk)
 rw[hni,Qd]at hkid
 simp only[LNd.pl]at hkid
 have hway2:=QbT hway (by rw[Qd];exact hi) (k:=plc (j:Int) (nth L i).es key) (by rw[hni];exact hpk) (by rw[hni];simp only[LNd.pl];omega)
 rw[hni]at hway2
 simp only[LNd.pl]at hway2
 refine aU6 ?_
 refine o_q (Qc rfl rfl Yz (ht 3 _ rfl)) rfl (aU ?_)
 refine o_p (Qa rfl rfl rfl QH (i) om om (Rw.some hs.1 om)) rfl (aU ?_)
 refine o_q (Qc rfl rfl Ya ((hs.1.rdj 2 hi rfl))) rfl (aU ?_)
 refine o_p (Qa rfl rfl rfl QM (plc (j:Int) (nth L i).es key) om om (Rw.some (hs.cs hi) om)) rfl (o_q (Qc rfl rfl Ye (((hs.cs hi).rdj 0 (i:=plc (j:Int) (nth L i).es key) hpk rfl))) rfl (aU3 ?_))
 exact QK ((b2.1,b2.2),P++[i],((nth L i).cs.getD (plc (j:Int) (nth L i).es key) 0).toNat,f) (by(try simp only[]);omega) ⟨by simp only[];omega,by simp only[List.length_append,List.length_singleton];omega,by simp only[List.reverse_append,List.reverse_singleton,List.singleton_append];exact hway2,by simp only[];rw[hpath,Qhj hst];simp[hni,LNd.pl]⟩ (by simp only[List.length_append,List.length_singleton];rw[Int.toNat_of_nonneg om];exact aSx) (λw h=>by have h2:=h;simp only[List.length_append,List.length_singleton,List.map_append,List.map_cons,List.map_nil];exact h2.ent aEt)
theorem Qvp:QQ Tryz.prog 233=true:=by kernel_rfl
instance:TFd Tryz.prog 69 0 0 4:=⟨by kernel_rfl⟩
theorem Qdm:tsz Tryz.prog 4=some (1,false):=by kernel_rfl
instance:TSz Tryz.prog 4 1 false:=⟨Qdm⟩
theorem QpQ:tsz Tryz.prog 242=some (1,false):=by kernel_rfl
theorem zv_4:tzv Tryz.prog 4=some (.bool false):=by kernel_rfl
abbrev KI:Int->Value:=λn=>Value.int .i64 n
theorem Qo3{ks:List Int}{c x:Int}:x∈Qe4 ks c ↔ x=c\/x∈ks:=by
  unfold Qe4;split
  · rename_i h;constructor
    · exactλh1=>.inr h1
    · rintro(rfl|h1)
      · exact h
      · exact h1
  · rw[List.mem_append,List.mem_singleton];exact Or.comm
theorem c233(w:World)(i c:Int)(c0 c5 r:Nat)(ks seen:List Int)(bt:Nat)(j:Nat)(mo rm:Int)(a:Option Addr)(cap:Nat)(L:List LNd)(hw:HS w (fps [.mp r KI ks]) [.mp r KI ks] w)(hst:∀x,x∈ks ↔ x∈seen)(hc0:Rd w (fps [.mp r KI ks]) c0 0 (.pointer (some ⟨bt,0,none⟩)))(hc5:Rd w (fps [.mp r KI ks]) c5 0 (.map (some r)))(ht:TbR w (fps [.mp r KI ks]) bt (j:Int) mo rm a L.length cap)(hs:Nt w (fps [.mp r KI ks]) a L)(hl:L.length<=1000):CE 233 #[.int .i64 i,.int .i64 c,.pointer (some ⟨c0,0,none⟩),.pointer (some ⟨c5,0,none⟩)] w (fps [.mp r KI ks]) (λg:List Int=>.int .i64 (QcJ (pln L) c seen)) (λg=>(∀x,x∈g ↔ x∈(Qd3 (pln L) c seen))) λg=>[.mp r KI g]:=by
 refine eW4 Tryz.func233 Tryz.ntmps233 hw ?_
 refine aU8 ?_
 refine o_q (Qc rfl rfl Zk (hc0)) rfl (aU3 ?_)
 refine o_q (Qc rfl rfl Yz (ht 3 _ rfl)) rfl (aT2 ?_)
 refine oCq rfl (λw1 h1=>QnN w1 _ _ _) (aU2 ?_)
 refine oOr 11 18 29 rfl
  (λhg1 _=>by
   refine aU ?_
   refine o_q (Qc rfl rfl Zk (hc0)) rfl (aU7 ?_)
   refine o_q (Qc rfl rfl Yz (ht 3 _ rfl)) rfl (aU3 ?_)
   refine o_p (Qa rfl rfl rfl QH c.toNat om om (Rw.some hs.1 om)) rfl (aU3 ?_)
   refine o_q (Qc rfl rfl Qdm ((hs.1.rdj 0 (i:=c.toNat) om rfl))) rfl (aU2 ?_)
   exact oJf 11 29)
  (λhg3 _=>by
   refine Zo ?_
   exact oJt 11 29) ?_
 refine aU ?_
 refine sCd rfl (λh5=>?_) λh5=>?_
 ·have hz:¬Qdt (pln L) c:=by unfold Qdt;rw[Qd];intro h9;rw[Qr om]at h9;have hq:=h5;simp[LNd.pl]at h9;rcases hq with hq|hq<;>simp_all<;>omega
  refine aU4 ?_
  exact rT rfl rfl (λw' h'=>⟨ks,by unfold QcJ;rw[if_neg hz];rfl,by unfold Qd3;rw[if_neg hz];exact hst,h'.ent aEt⟩)
 have hz:Qdt (pln L) c:=by have hq:=h5;have hq1:1<=c/\c<=(L.length:Int)-1:=(by first|omega|(simp at hq;omega));unfold Qdt;rw[Qd,Qr om];exact⟨hq1,by simp only[LNd.pl];first|exact hq.2|exact hq.2.2|(simp at hq;first|exact hq.2|exact hq.2.2)⟩
 refine aU3 ?_
 refine o_q (Qc rfl rfl QpQ (hc5)) rfl (aU ?_)
 refine o_q (Qo4 rfl rfl rfl Tryz.underlying242 zv_4 (Qm6 Yn) aPk) rfl (aU ?_)
 refine oCq rfl (λw1 h1=>QdM w1 _ _) (aU4 ?_)
 refine o_q (Qc rfl rfl QpQ (hc5)) rfl (aU ?_)
 refine Qah (QjI (.inl rfl) rfl rfl rfl Tryz.underlying242 (Qm6 Yn) aPt) (λ_ _=>aU6 ?_)
 exact rT rfl rfl (λw' h'=>⟨Qe4 ks c,by unfold QcJ;rw[if_pos hz];simp only[Q3];by_cases h9:c∈seen<;>simp[h9,(hst c)],by unfold Qd3;rw[if_pos hz];intro x;rw[Qo3,List.mem_cons,hst],h'.ent aEt⟩)
theorem c232(w:World)(ca:Option Addr)(cc:Nat)(cs:List Int)(c0 c5 r:Nat)(ks seen:List Int)(bt:Nat)(j:Nat)(mo rm:Int)(a:Option Addr)(cap:Nat)(L:List LNd)(hw:HS w (fps [.mp r KI ks]) [.mp r KI ks] w)(hst:∀x,x∈ks ↔ x∈seen)(hc0:Rd w (fps [.mp r KI ks]) c0 0 (.pointer (some ⟨bt,0,none⟩)))(hc5:Rd w (fps [.mp r KI ks]) c5 0 (.map (some r)))(ht:TbR w (fps [.mp r KI ks]) bt (j:Int) mo rm a L.length cap)(hs:Nt w (fps [.mp r KI ks]) a L)(hl:L.length<=1000)(hcs:Rw inV 1 w (fps [.mp r KI ks]) ca cs)(hcl:cs.length<=1000):CE 232 #[.slice ca cs.length cc,.func (.func 233) #[] #[.pointer (some ⟨c0,0,none⟩),.pointer (some ⟨c5,0,none⟩)]] w (fps [.mp r KI ks]) (λg:Int×List Int=>.tuple #[.int .i64 g.1,.int .i64 (Yg (pln L) cs seen).1]) (λg=>(∀x,x∈g.2 ↔ x∈(Yg (pln L) cs seen).2)) λg=>[.mp r KI g.2]:=by
 refine eW2 Tryz.func232 Tryz.ntmps232 hw ?_
 refine Qa5 ?_
 refine Qo (α:=Nat×List Int×List Int) [4,5,6,7,8,11,12,13,14,15,16,17,18,19,20,21,22,23,24] (λx=>[(11,.int .i64 (x.1:Int))]) (λx=>HS w (fps [.mp r KI ks]) [.mp r KI x.2.1]) (λx=>x.1<=cs.length/\(∀y,y∈x.2.1 ↔ y∈x.2.2)/\(Yg (pln L) cs seen)=Yg (pln L) (cs.drop x.1) x.2.2) (λx=>cs.length-x.1) (0,ks,seen) ⟨Nat.zero_le _,hst,rfl⟩ aSx (λw h=>h.ent aEt) (λ⟨k,K,S9⟩hx=>?_)
 dsimp only
 obtain⟨hk1,hk2,hk3⟩:=hx
 simp only[]at hk1 hk2 hk3
 refine aU5 ?_
 refine sCd rfl (λh1=>?_) λh1=>?_
 ·have hkl:k<cs.length:=by omega
  refine aU6 ?_
  refine o_p (Qa rfl rfl rfl QM (k) om om (Rw.some hcs om)) rfl (o_q (Qc rfl rfl Ye ((hcs.rdj 0 (i:=k) om rfl))) rfl (aU8 ?_))
  refine o_h (QjV (Cs:=[.mp r KI K]) rfl rfl Qvp rfl aPs (λw1 h1 hf=>c233 w1 (k:Int) (cs.getD k 0) c0 c5 r K S9 bt j mo rm a cap L hf hk2 (h1.keep hc0) (h1.keep hc5) (ht.keep h1) (hs.keep h1) hl)) rfl (λb2 hkG=>?_)
  have hkg:=hkG
  refine aU7 ?_
  refine sCd rfl (λh3=>?_) λh3=>?_
  ·refine aU7 ?_
   exact Qj (rs:=[.tmp 4,.tmp 5]) rfl (.tmp rfl (.tmp rfl (.nil))) (λw' h'=>⟨((k:Int),b2),by rw[hk3,Qc8 hkl,QbM,if_neg h3];rfl,by rw[hk3,Qc8 hkl,QbM,if_neg h3];exact hkG,h'.ent aEt⟩)
  refine aT4 ?_
  refine aU2 ?_
  exact sBk (k+1,b2,Qd3 (pln L) (cs.getD k 0) S9) (by(try simp only[]);omega) ⟨by(try simp only[]);omega,hkg,by simp only[];rw[hk3,Qc8 hkl,QbM,if_pos h3]⟩
 refine Qh rfl ?_
 refine aU5 ?_
 exact Qj (rs:=[.tmp 4,.tmp 5]) rfl (.tmp rfl (.tmp rfl (.nil))) (λw' h'=>⟨(0,K),by rw[hk3,List.drop_of_length_le om];rfl,by rw[hk3,List.drop_of_length_le om];exact hk2,h'.ent aEt⟩)
theorem Xv:tsz Tryz.prog 69=some (3,true):=by kernel_rfl
instance:TSz Tryz.prog 69 3 true:=⟨Xv⟩
theorem QvA:QQ Tryz.prog 229=true:=by kernel_rfl
instance:TFn Tryz.prog 230:=⟨by kernel_rfl⟩
theorem QuO:QQ Tryz.prog 232=true:=by kernel_rfl
theorem Qti{t:Tre}{i:Nat}{es:List TEnt}{cs:List Int}(h:nth t.ns i=⟨true,es,cs⟩)(b:Bool)(hb:b=true ↔ (cs.length=0\/cs.length=es.length+1)):(if(bif decide ((es.length:Int)<=Yr t.mo t.rm i)then(0:Int)else 16)=0 then(bif b then(0:Int)else 10)else(bif decide ((es.length:Int)<=Yr t.mo t.rm i)then(0:Int)else 16))=nE1 t i:=by
  unfold nE1;rw[h]
  by_cases h1:(es.length:Int)<=Yr t.mo t.rm i
  · rw[decide_eq_true h1,if_pos h1]
    by_cases h2:cs.length=0\/cs.length=es.length+1
    · rw[if_pos h2,hb.2 h2];rfl
    · rw[if_neg h2,show b=false by cases b;rfl;exact absurd (hb.1 rfl) h2];rfl
  · rw[decide_eq_false h1,if_neg h1];rfl
theorem c199(w:World)(i r:Nat)(ks seen:List Int)(bt:Nat)(j:Nat)(mo rm:Int)(a:Option Addr)(cap:Nat)(L:List LNd)(hw:HS w (fps [.mp r KI ks]) [.mp r KI ks] w)(hst:∀x,x∈ks ↔ x∈seen)(ht:TbR w (fps [.mp r KI ks]) bt (j:Int) mo rm a L.length cap)(hs:Nt w (fps [.mp r KI ks]) a L)(hl:L.length<=1000)(hj:j<=3)(hi:i<L.length)(hel:(nth L i).es.length<=1000)(hcl:(nth L i).cs.length<=1000)(hkl:∀x∈(nth L i).es,x.key.length<=1000000):CE 199 #[.pointer (some ⟨bt,0,none⟩),.int .i64 (i:Int),.map (some r)] w (fps [.mp r KI ks]) (λg:List Int=>.int .i64 (X7 (⟨(j:Int),mo,rm,pln L⟩:Tre) i seen).1) (λg=>(∀x,x∈g ↔ x∈(X7 (⟨(j:Int),mo,rm,pln L⟩:Tre) i seen).2)) λg=>[.mp r KI g]:=by
 have hn:nth (pln L) i=(nth L i).pl:=Qr hi
 have hE2:nE2 (⟨(j:Int),mo,rm,pln L⟩:Tre) i=if nE1 (⟨(j:Int),mo,rm,pln L⟩:Tre) i=0 then(Y9 ((nth L i).es.map (Yc (j:Int))) 0).2 else nE1 (⟨(j:Int),mo,rm,pln L⟩:Tre) i:=by unfold nE2 ZH;rw[hn];rfl
 have hE3:nE3 (⟨(j:Int),mo,rm,pln L⟩:Tre) i seen=if nE2 (⟨(j:Int),mo,rm,pln L⟩:Tre) i=0 then Yg (pln L) (nth L i).cs seen else(nE2 (⟨(j:Int),mo,rm,pln L⟩:Tre) i,seen):=by unfold nE3;rw[hn];rfl
 have hE4:nE4 (⟨(j:Int),mo,rm,pln L⟩:Tre) i seen=if(nE3 (⟨(j:Int),mo,rm,pln L⟩:Tre) i seen).1=0 then(Y9 ((List.range (nth L i).es.length).map (Qa9 (j:Int) (nth L i).es)) 0).2 else(nE3 (⟨(j:Int),mo,rm,pln L⟩:Tre) i seen).1:=by unfold nE4 QaN;rw[hn];rfl
 refine eW3 Tryz.func199 Tryz.ntmps199 hw ?_
 refine aU2 ?_
 refine oBx λb1 _=>?_
 refine oBx λb2 _=>?_
 refine aU8 ?_
 refine o_q (Qc rfl rfl Yz (ht 3 _ rfl)) rfl (aU ?_)
 refine o_p (Qa rfl rfl rfl QH (i) om om (Rw.some hs.1 om)) rfl (o_q (QI _ rfl rfl Xv rfl (Rw.rd hs.1 hi)) rfl (oAl (λb3 _=>?_) Xc))
 refine aU9 ?_
 refine sCd rfl (λh4=>?_) λh4=>?_
 ·have hu:(nth (pln L) i).us=false:=by rw[hn];have hq:=h4;simpa[LNd.pl]using hq
  refine aU5 ?_
  refine X0 10 22 32 rfl
   (λhg5 _=>by
    refine Zw ?_
    refine o_q (Qc rfl rfl Yz (ht 3 _ rfl)) rfl (aT4 ?_)
    refine aU2 ?_
    exact oJt 10 32)
   (λhg7 _=>by
    refine aU9 ?_
    exact oJf 10 32) ?_
  refine aU ?_
  refine X0 9 33 42 rfl
   (λhg9 _=>by
    refine aT14 ?_
    refine aU2 ?_
    exact oJt 9 42)
   (λhg11 _=>by
    refine aU8 ?_
    exact oJf 9 42) ?_
  refine oCq rfl (λw1 h1=>QdM w1 _ _) (aU2 ?_)
  exact rT rfl rfl (λw' h'=>⟨ks,by unfold X7;simp only[];rw[if_neg (by rw[hu];decide),hn];simp only[Q3,LNd.pl];simp only[cond_eq_ite,Bool.and_eq_true,decide_eq_true_eq,Qd];(split<;>split<;>first|rfl|omega),by unfold X7;simp only[];rw[if_neg (by rw[hu];decide)];split<;>exact hst,h'.ent aEt⟩)
 have hu:(nth (pln L) i).us=true:=by rw[hn];have hq:=h4;simpa[LNd.pl]using hq
 have hN1:nth ((⟨(j:Int),mo,rm,pln L⟩:Tre)).ns i=⟨true,(nth L i).es,(nth L i).cs⟩:=by show nth (pln L) i=_;rw[hn]at hu ⊢;simp only[LNd.pl]at hu ⊢;rw[hu]
 rw[Qhl (⟨(j:Int),mo,rm,pln L⟩:Tre) i hu]
 refine aU2 ?_
 refine Qe (L':=[(1,_),(3,_),(5,_),(6,_),(7,_)]) aSx (λ_ h=>h) ?_
 refine XP (α:=Unit) [8,44,45,46,47,48,49,50,51,52,53,54,55,56,57,58,59,60,61,62,63,64,65,66,67,68] (λ_=>[(8,.int .i64 (nE1 (⟨(j:Int),mo,rm,pln L⟩:Tre) i))]) (λ_=>HS w (fps [.mp r KI ks]) [.blk b1 158 1 [.pointer (some ⟨bt,0,none⟩)],.blk b2 242 1 [.map (some r)],.blk b3 69 3 (nth L i).vals,.mp r KI ks]) (λ_=>True) ?_ ?_
 ·skip
  refine Qu [] QG ?_
  refine dFa 0 ?_
  refine dLd 1 [] ?_
  refine dV 2 rfl (QX rfl rfl Tryz.underlying67) (dLd 3 [] ?_)
  refine dP 4 ?_
  refine dQ 5 [] rfl (QA rfl QvA rfl (λw1 h1=>c229 w1 bt j mo rm a L.length cap i (ht.next h1))) (dP 6 ?_)
  refine dQ 7 [] rfl (QA rfl Qb1 rfl (λw1 h1=>QdM w1 _ _)) (dFa 8 ?_)
  refine dLd 9 [] ?_
  refine dV 10 rfl (QX rfl rfl Tryz.underlying28) (dP 11 ?_)
  refine dP 12 ?_
  apply Xu 56
  ·exact rfl
  ·intro hg13
   have hs14:=hg13;try simp only[dT]at hs14
   refine dOf 13 56 hg13 ?_
   refine dOf 14 56 hg13 ?_
   refine dOf 15 56 hg13 ?_
   refine dOf 16 56 hg13 ?_
   refine dOf 17 56 hg13 ?_
   refine dOf 18 56 hg13 ?_
   refine dOf 19 56 hg13 ?_
   refine dOf 20 56 hg13 ?_
   refine dV 21 rfl (Xq rfl rfl hg13 rfl) (dQ 22 [] rfl (QA rfl Qb1 rfl (λw1 h1=>QdM w1 _ _)) (dH 23 rfl (Qg (cs:=[_,_]) rfl rfl Yt ZP rfl rfl rfl) (λb15 _=>dBa ?_)))
   refine dQ 24 [] rfl (QA rfl Qgh rfl (λw1 h1=>Qog h1 aPk (by rfl) (by rfl) (by decide))) (Qv (show _=Value.int .i64 (nE1 (⟨(j:Int),mo,rm,pln L⟩:Tre) i)from by congr 1;rw[Qb4];exact Qti hN1 _ (by first|(simp only[true_iff];left;have hq:=hg13;simp at hq ⊢;omega)|(have hq:¬(((nth L i).cs.length:Int)=0):=of_decide_eq_false hg13;rw[decide_eq_true_eq];omega))) (dP 25 ?_))
   refine dNi ?_
   exact Qp () trivial aSx (λw h=>h.ent aEt)
  intro hg16
  have hs17:=hg16;try simp only[dN]at hs17
  refine dFo 13 56 hg16 ?_
  refine dQo 14 56 [] hg16 rfl rfl rfl (Yh rfl rfl Ya aPk rfl) ?_
  refine dVo 15 56 hg16 rfl rfl rfl (QX rfl rfl Tryz.underlying28) ?_
  refine dFo 16 56 hg16 ?_
  refine dQo 17 56 [] hg16 rfl rfl rfl (Yh rfl rfl YE aPk rfl) ?_
  refine dVo 18 56 hg16 rfl rfl rfl (QX rfl rfl Tryz.underlying67) ?_
  refine dPo 19 56 hg16 ?_
  try refine dWr ?_
  refine dPo 20 56 hg16 ?_
  refine dV 21 rfl (Xe rfl rfl hg16 rfl) (dQ 22 [] rfl (QA rfl Qb1 rfl (λw1 h1=>QdM w1 _ _)) (dH 23 rfl (Qg (cs:=[_,_]) rfl rfl Yt ZP rfl rfl rfl) (λb18 _=>dBa ?_)))
  refine dQ 24 [] rfl (QA rfl Qgh rfl (λw1 h1=>Qog h1 aPk (by rfl) (by rfl) (by decide))) (Qv (show _=Value.int .i64 (nE1 (⟨(j:Int),mo,rm,pln L⟩:Tre) i)from by congr 1;rw[Qb4];exact Qti hN1 _ (by first|(simp only[true_iff];left;have hq:=hg16;simp at hq ⊢;omega)|(have hq:¬(((nth L i).cs.length:Int)=0):=of_decide_eq_false hg16;rw[decide_eq_true_eq];omega))) (dP 25 ?_))
  refine dNi ?_
  exact Qp () trivial aSx (λw h=>h.ent aEt)
 intro _ _
 refine aU6 ?_
 refine XP (α:=Unit) [8,71,72,73,74,75,76,77] (λ_=>[(8,.int .i64 (nE2 (⟨(j:Int),mo,rm,pln L⟩:Tre) i))]) (λ_=>HS w (fps [.mp r KI ks]) [.blk b1 158 1 [.pointer (some ⟨bt,0,none⟩)],.blk b2 242 1 [.map (some r)],.blk b3 69 3 (nth L i).vals,.mp r KI ks]) (λ_=>True) ?_ ?_
 ·skip
  refine sCd rfl (λh19=>?_) λh19=>?_
  ·refine aU4 ?_
   refine oCq rfl (λw1 h1=>c230 w1 (nth L i).ea (nth L i).ec (nth L i).es 231 #[.pointer (some ⟨b1,0,none⟩)] ((nth L i).es.map (Yc (j:Int))) ((hs.es hi).later h1) om (by kernel_rfl) (by simp) (λk w2 hk9 _ h2=>by rw[Qcp hk9];exact c231 w2 b1 (k:Int) (nth (nth L i).es k) bt j mo rm a L.length cap hj (hkl _ (Qz hk9)) ((h1.rd_blk (Mc:=[]) (b:=b1) aPk rfl (by simp)).next h2) ((ht.next h1).next h2))) (aU5 ?_)
   exact Qp () trivial (by rw[hE2,if_pos h19];exact aSx) (λw h=>h.ent aEt)
  refine aU ?_
  exact Qp () trivial (by rw[hE2,if_neg h19];exact aSx) (λw h=>h.ent aEt)
 intro _ _
 refine aU6 ?_
 refine XP (α:=List Int) [8,80,81,82,83,84,85,86] (λ_=>[(8,.int .i64 (nE3 (⟨(j:Int),mo,rm,pln L⟩:Tre) i seen).1)]) (λq=>HS w (fps [.mp r KI ks]) [.blk b1 158 1 [.pointer (some ⟨bt,0,none⟩)],.blk b2 242 1 [.map (some r)],.blk b3 69 3 (nth L i).vals,.mp r KI q]) (λq=>∀x,x∈q ↔ x∈(nE3 (⟨(j:Int),mo,rm,pln L⟩:Tre) i seen).2) ?_ ?_
 ·skip
  refine sCd rfl (λh20=>?_) λh20=>?_
  ·refine aU4 ?_
   refine o_h (QE (Cs:=[.mp r KI ks]) rfl QuO rfl aPs (λw1 h1 hf=>c232 w1 (nth L i).ca (nth L i).cc (nth L i).cs b1 b2 r ks seen bt j mo rm a cap L hf hst (h1.rd_blkF aPs (b:=b1) aPk rfl) (h1.rd_blkF aPs (b:=b2) aPk rfl) ((ht.keep h1).mono (Xm aPs)) ((hs.keep h1).mono (Xm aPs)) hl (((hs.cs hi).keep h1).mono (Xm aPs)) hcl)) rfl (λb21 hkG=>aU5 ?_)
   exact Qp b21.2 (by rw[hE3,if_pos h20];exact hkG) (by rw[hE3,if_pos h20];exact aSx) (λw h=>h.ent aEt)
  refine aU ?_
  exact Qp ks (by rw[hE3,if_neg h20];exact hst) (by rw[hE3,if_neg h20];exact aSx) (λw h=>h.ent aEt)
 intro ks2 hks2
 refine aU6 ?_
 refine XP (α:=Unit) [8,89,90,91,92,93,94,95] (λ_=>[(8,.int .i64 (nE4 (⟨(j:Int),mo,rm,pln L⟩:Tre) i seen))]) (λ_=>HS w (fps [.mp r KI ks]) [.blk b1 158 1 [.pointer (some ⟨bt,0,none⟩)],.blk b2 242 1 [.map (some r)],.blk b3 69 3 (nth L i).vals,.mp r KI ks2]) (λ_=>True) ?_ ?_
 ·skip
  refine sCd rfl (λh22=>?_) λh22=>?_
  ·have he0:=Qm7 (Qwb _ _ (Qs9 _ _ h22))
   rw[hn]at he0
   have hkok:∀x∈(nth L i).es,QL (j:Int) x.key=true/\x.key.length<=1000000:=λx hx=>⟨QaB (he0 x hx),hkl x hx⟩
   refine aU4 ?_
   refine oCq rfl (λw1 h1=>c230 w1 (nth L i).ea (nth L i).ec (nth L i).es 234 #[.pointer (some ⟨b1,0,none⟩),.pointer (some ⟨b3,0,none⟩)] ((List.range (nth L i).es.length).map (Qa9 (j:Int) (nth L i).es)) ((hs.es hi).later h1) om (by kernel_rfl) (by simp) (λk w2 hk9 _ h2=>by rw[Qch hk9];exact c234 w2 b1 b3 k true (nth L i).ea (nth L i).ec (nth L i).es (.bool true) bt j mo rm a L.length cap hj hk9 om hkok ((h1.rd_blk (Mc:=[]) (b:=b1) aPk rfl (by simp)).next h2) ((h1.rd_blk (Mc:=[]) (b:=b3) aPk rfl (by simp)).next h2) (((hs.es hi).later h1).later h2) ((ht.next h1).next h2))) (aU5 ?_)
   exact Qp () trivial (by rw[hE4,if_pos h22];exact aSx) (λw h=>h.ent aEt)
  refine aU ?_
  exact Qp () trivial (by rw[hE4,if_neg h22];exact aSx) (λw h=>h.ent aEt)
 intro _ _
 refine aU5 ?_
 exact rT rfl rfl (λw' h'=>⟨ks2,rfl,hks2,h'.ent aEt⟩)
instance:TFn Tryz.prog 128:=⟨by kernel_rfl⟩
theorem Qln:QQ Tryz.prog 235=true:=by kernel_rfl
theorem QoL:tsz Tryz.prog 102=some (1,false):=by kernel_rfl
instance:TSz Tryz.prog 102 1 false:=⟨QoL⟩
theorem Qbc:tsl Tryz.prog 102=some (4,1,1):=by kernel_rfl
theorem c128(w:World)(ua:Option Addr)(uc:Nat)(u:List Int)(n:Int)(hu:Rw inV 1 w [] ua u)(hum:u.length<=100000):CR 128 #[.slice ua u.length uc,.int .i64 n] w (.int .i64 (ixI (ZB u n))):=by
 refine eN2 Tryz.func128 Tryz.ntmps128 ?_
 refine Zg ?_
 refine Qo (α:=Nat) [4,5,8,9,10,11,12,13,14,15,16,17,18] (λk=>[(8,.int .i64 (k:Int))]) (λ_=>_) (λk=>k<=u.length/\∀i,i<k->(ZB u n).getD i false=false) (λk=>u.length-k) 0 ⟨Nat.zero_le _,λi h=>absurd h (Nat.not_lt_zero i)⟩ aSx (λw h=>h) (λk hkk=>?_)
 obtain⟨hk1,hk2⟩:=hkk
 refine aU5 ?_
 refine sCd rfl (λh1=>?_) λh1=>?_
 ·have hk:k<u.length:=by omega
  refine Qa5 ?_
  refine o_p (Qa rfl rfl rfl QM (k) om om (Rw.some hu om)) rfl (o_q (Qc rfl rfl Ye ((hu.rdj 0 hk rfl))) rfl (aU2 ?_))
  refine sCd rfl (λh2=>?_) λh2=>?_
  ·have hq9:n=u.getD k 0:=h2
   have e:=QaA (l:=ZB u n) (k:=k) (by rw[YS];omega) hk2 (λ_=>by rw[Qcw hk];exact decide_eq_true hq9)
   refine aU5 ?_
   exact rV (h:=by simp only[Q3,ixI,e,YS];rw[if_pos hk])
  have hq9:¬n=u.getD k 0:=h2
  refine aT4 ?_
  refine aU2 ?_
  exact QK (k+1) om ⟨om,λi hi=>(Nat.lt_or_ge i k).elim (hk2 i) (λh=>by obtain rfl:i=k:=om;rw[Qcw hk];exact decide_eq_false hq9)⟩ aSx (λw h=>h)
 obtain rfl:k=u.length:=om
 refine Qh rfl ?_
 refine aU4 ?_
 exact rV (h:=by have e:=QaA (l:=ZB u n) (k:=u.length) (by rw[YS];omega) hk2 (λh=>by rw[YS]at h;omega);simp only[Q3,ixI,e,YS];rw[if_neg om])
theorem c62(w:World)(ua:Option Addr)(uc:Nat)(u:List Int)(n:Int)(hu:Rw inV 1 w [] ua u)(hum:u.length<=100000):CR 62 #[.slice ua u.length uc,.int .i64 n] w (.bool (decide (n∈u))):=by
 refine eN2 Tryz.func62 Tryz.ntmps62 ?_
 refine aU8 ?_
 refine oCq rfl (λw1 h1=>c128 w1 ua uc u n (hu.later h1) hum) (aU3 ?_)
 exact rV (h:=by rw[<-QqH,<-Qfn];rfl)
def WkC(S:Type)(I:S->Prop)(C:S->HA)(st:S->Vis->S)(er:S->Vis->Int×Int)(q:Nat)(cv:Array Value)(bt:Nat)(j:Nat)(mo rm:Int)(a:Option Addr)(cap:Nat)(L:List LNd)(f:Nat):Prop:=∀(w:World)(s:S)(v:Vis)(pl ph:Option Addr)(P:List Nat),(HS w (fps [C s]) [C s] w)->(QQ Tryz.prog q=true)->(∀s1 s2:S,(C s1).fp=(C s2).fp)->(∀s2 v2,I s2->I (st s2 v2))->(I s)->(∀(s2:S)(v2:Vis)(p2 p3:Option Addr)(w1:World),HS w (fps [C s]) [C s2] w1->I s2->v2.i<L.length->KOk (j:Int) v2.lo->KOk (j:Int) v2.hi->QaR w1 (fps [C s2]) p2 v2.lo->QaR w1 (fps [C s2]) p3 v2.hi->Calls Tryz.prog q (#[]++[.int .i64 (v2.i:Int),.int .i64 v2.d,.pointer p2,.pointer p3].toArray++cv) w1 λen w2=>∃g:Unit,en=.returned (.tuple #[.int .i64 (er s2 v2).1,.int .i64 (er s2 v2).2])/\True/\HS w1 (fps [C s2]) [C (st s2 v2)] w2)->(TbR w (fps [C s]) bt (j:Int) mo rm a L.length cap)->(Nt w (fps [C s]) a L)->(TOk (j:Int) (pln L))->(Bd (pln L))->(QaR w (fps [C s]) pl v.lo)->(QaR w (fps [C s]) ph v.hi)->(0<L.length)->(Gx.Way (pln L) (v.i::P))->(P.length+f=L.length)->(v.d=(P.length:Int)+1)->(KOk (j:Int) v.lo)->(KOk (j:Int) v.hi)->Calls Tryz.prog 235 #[.pointer (some ⟨bt,0,none⟩),.int .i64 (v.i:Int),.int .i64 v.d,.pointer pl,.pointer ph,.func (.func q) #[] cv] w λen w'=>∃g:Unit,en=.returned (.tuple #[.int .i64 (XU st er s (vis (pln L) f v)).1.1,.int .i64 (XU st er s (vis (pln L) f v)).1.2])/\True/\HS w (fps [C s]) [C (XU st er s (vis (pln L) f v)).2] w'
theorem QvS(w:World)(S:Type)(I:S->Prop)(C:S->HA)(st:S->Vis->S)(er:S->Vis->Int×Int)(q:Nat)(cv:Array Value)(bt:Nat)(j:Nat)(mo rm:Int)(a:Option Addr)(cap:Nat)(L:List LNd)(s:S)(v:Vis)(pl ph:Option Addr)(P:List Nat)(f:Nat)(hw:HS w (fps [C s]) [C s] w)(hq:QQ Tryz.prog q=true)(hfp:∀s1 s2:S,(C s1).fp=(C s2).fp)(hI:∀s2 v2,I s2->I (st s2 v2))(hIs:I s)(hv:∀(s2:S)(v2:Vis)(p2 p3:Option Addr)(w1:World),HS w (fps [C s]) [C s2] w1->I s2->v2.i<L.length->KOk (j:Int) v2.lo->KOk (j:Int) v2.hi->QaR w1 (fps [C s2]) p2 v2.lo->QaR w1 (fps [C s2]) p3 v2.hi->Calls Tryz.prog q (#[]++[.int .i64 (v2.i:Int),.int .i64 v2.d,.pointer p2,.pointer p3].toArray++cv) w1 λen w2=>∃g:Unit,en=.returned (.tuple #[.int .i64 (er s2 v2).1,.int .i64 (er s2 v2).2])/\True/\HS w1 (fps [C s2]) [C (st s2 v2)] w2)(ht:TbR w (fps [C s]) bt (j:Int) mo rm a L.length cap)(hs:Nt w (fps [C s]) a L)(hT:TOk (j:Int) (pln L))(hB:Bd (pln L))(hpl:QaR w (fps [C s]) pl v.lo)(hph:QaR w (fps [C s]) ph v.hi)(h0:0<L.length)(hway:Gx.Way (pln L) (v.i::P))(hf:P.length+(f+1)=L.length)(hd:v.d=(P.length:Int)+1)(hko:KOk (j:Int) v.lo)(hkp:KOk (j:Int) v.hi)(ih:WkC S I C st er q cv bt j mo rm a cap L f):CE 235 #[.pointer (some ⟨bt,0,none⟩),.int .i64 (v.i:Int),.int .i64 v.d,.pointer pl,.pointer ph,.func (.func q) #[] cv] w (fps [C s]) (λg:Unit=>.tuple #[.int .i64 (XU st er s (vis (pln L) (f+1) v)).1.1,.int .i64 (XU st er s (vis (pln L) (f+1) v)).1.2]) (λg=>True) λg=>[C (XU st er s (vis (pln L) (f+1) v)).2]:=by
 have hi0:=Qcy hT (by rw[Qd];exact h0) hway v.i (List.mem_cons_self ..)
 have hi:v.i<L.length:=by rw[Qd]at hi0;exact hi0
 have hn:=Qr hi
 have hle:=hB.len
 rw[Qd]at hle
 have hel:=hB.es v.i hi0
 have hcl:=hB.cs v.i hi0
 rw[hn]at hel hcl
 simp only[LNd.pl]at hel hcl
 have hsh:=hT.shape v.i hi0
 rw[hn]at hsh
 simp only[LNd.pl]at hsh
 refine eW6 Tryz.func235 Tryz.ntmps235 hw ?_
 refine Qa5 ?_
 refine o_h (QjV (Cs:=[C s]) rfl rfl hq rfl aPs (λw1 h1 hf9=>hv s v pl ph w1 (h1.ent aEt) hIs hi hko hkp ((hpl.keep h1).mono (Xm aPs)) ((hph.keep h1).mono (Xm aPs)))) rfl (λ_ _=>Zw ?_)
 refine sCd rfl (λh1=>?_) λh1=>?_
 ·have hz:XU st er s (vis (pln L) (f+1) v)=(er s v,st s v):=by rw[vis,XU,if_neg h1]
  refine aU7 ?_
  exact Qj (rs:=[.tmp 12,.tmp 13]) rfl (.tmp rfl (.tmp rfl (.nil))) (λw' h'=>⟨(),by rw[hz];rfl,trivial,by rw[hz];exact h'.ent aEt⟩)
 have hz0:XU st er s [v]=((0,0),st s v):=by rw[XU,if_pos h1,XU]
 refine aU7 ?_
 refine o_q (Qc rfl rfl Yz (ht 3 _ rfl)) rfl (aU ?_)
 refine o_p (Qa rfl rfl rfl QH (v.i) om om (Rw.some hs.1 om)) rfl (o_q (QI _ rfl rfl Xv rfl (Rw.rd hs.1 hi)) rfl (oAl (λb2 _=>?_) Xc))
 refine aU4 ?_
 refine Qe (L':=[(0,_),(2,_),(3,_),(4,_),(5,_),(12,_),(13,_),(16,_)]) aSx (λ_ h=>h) ?_
 refine aU7 ?_
 refine Qo (α:=Nat×S) [12,13,17,18,19,20,21,22,47,48,49,50,51,52,53,54,55,56,57,58,59,60,61,62,63,64,65,66,67,68,69,70,71,72,73,74,75,76,77,78,79,80,81,82,83,84,85,86,87] (λx=>[(47,.int .i64 (x.1:Int))]) (λx=>HS w (fps [C s]) [.blk b2 69 3 (nth L v.i).vals,C x.2]) (λx=>x.1<=(nth L v.i).cs.length/\(XU st er s (QbA (pln L) f v x.1)).1.2=0/\(XU st er s (QbA (pln L) f v x.1)).2=x.2) (λx=>(nth L v.i).cs.length-x.1) (0,st s v) ⟨Nat.zero_le _,by rw[Qlh,hz0],by rw[Qlh,hz0]⟩ aSx (λw h=>h.ent aEt) (λ⟨k,sk⟩hx=>?_)
 dsimp only
 obtain⟨hk1,hk2,hk3⟩:=hx
 simp only[]at hk1 hk2 hk3
 refine aU5 ?_
 refine sCd rfl (λh3=>?_) λh3=>?_
 ·have hkl:k<(nth L v.i).cs.length:=by omega
  have hkid:=Qdx hT hi0 (k:=k) (by rw[hn];exact hkl)
  have hwk:=QbT hway hi0 (k:=k) (by rw[hn];exact hkl) om
  have hki:((X8 (pln L) v k).i:Int)=(nth L v.i).cs.getD k 0:=by unfold X8;rw[hn]at hkid ⊢;simp only[LNd.pl]at hkid ⊢;rw[Int.toNat_of_nonneg om]
  rw[Qd]at hkid
  refine aU6 ?_
  refine o_p (Qa rfl rfl rfl QM (k) om om (Rw.some (hs.cs hi) om)) rfl (o_q (Qc rfl rfl Ye (((hs.cs hi).rdj 0 (i:=k) hkl rfl))) rfl (aU2 ?_))
  refine Qf (show _=Value.int .i64 ((X8 (pln L) v k).i:Int)from by rw[hki];rfl) (QgE ?_)
  refine XP (α:=Option Addr) [19,56,57,58,59,60,61] (λp=>[(19,.pointer p)]) (λ_=>HS w (fps [C s]) [.blk b2 69 3 (nth L v.i).vals,C sk]) (λp=>QaR w (fps [C s]) p (loK (nth L v.i).es k v.lo)) ?_ ?_
  ·skip
   refine sCd rfl (λh4=>?_) λh4=>?_
   ·refine aT5 ?_
    refine o_p (Qa rfl rfl rfl Qy (k-1) om om (Rw.some (hs.es hi) om)) rfl (aU3 ?_)
    exact Qp (some ⟨ab (nth L v.i).ea,ao (nth L v.i).ea+(k-1)*2,none⟩) (by rw[show loK (nth L v.i).es k v.lo=some (nth (nth L v.i).es (k-1)).key from if_pos om];exact⟨_,_,rfl,((hs.es hi).rdj 0 om rfl)⟩) aSx (λw h=>h.ent aEt)
   refine aU ?_
   exact Qp pl (by rw[show loK (nth L v.i).es k v.lo=v.lo from if_neg om];exact hpl) aSx (λw h=>h.ent aEt)
  intro p1 hp1
  refine aU9 ?_
  refine Qe (L':=[(0,_),(2,_),(3,_),(4,_),(5,_),(16,_),(17,_),(18,_),(19,_),(20,_),(44,_),(45,_),(46,_),(47,_),(66,_)]) aSx (λ_ h=>h) ?_
  refine XP (α:=Option Addr) [20,67,68,69,70,71] (λp=>[(20,.pointer p)]) (λ_=>HS w (fps [C s]) [.blk b2 69 3 (nth L v.i).vals,C sk]) (λp=>QaR w (fps [C s]) p (hiK (nth L v.i).es k v.hi)) ?_ ?_
  ·skip
   refine sCd rfl (λh5=>?_) λh5=>?_
   ·refine aU4 ?_
    refine o_p (Qa rfl rfl rfl Qy (k) om om (Rw.some (hs.es hi) om)) rfl (aU3 ?_)
    exact Qp (some ⟨ab (nth L v.i).ea,ao (nth L v.i).ea+k*2,none⟩) (by rw[show hiK (nth L v.i).es k v.hi=some (nth (nth L v.i).es k).key from if_pos om];exact⟨_,_,rfl,((hs.es hi).rdj 0 om rfl)⟩) aSx (λw h=>h.ent aEt)
   refine aU ?_
   exact Qp ph (by rw[show hiK (nth L v.i).es k v.hi=v.hi from if_neg om];exact hph) aSx (λw h=>h.ent aEt)
  intro p2 hp2
  refine aT6 ?_
  refine aU3 ?_
  refine o_h (QE (Cs:=[C sk]) rfl Qln rfl aPs (λw1 h1 hf9=>ih w1 sk (X8 (pln L) v k) p1 p2 (v.i::P) hf9 hq hfp hI (hk3▸Qjo hI _ _ hIs) (λs2 v2 p3 p4 w2 h2 hs2 hi2 ha2 hb2 hp3 hp4=>hv s2 v2 p3 p4 w2 (HS.thenF (h1.ent (Bs:=[C sk]) aEt) h2) hs2 hi2 ha2 hb2 hp3 hp4) ((ht.keep h1).mono (Xm aPs)) ((hs.keep h1).mono (Xm aPs)) hT hB (by unfold X8;rw[hn];exact(hp1.keep h1).mono (Xm aPs)) (by unfold X8;rw[hn];exact(hp2.keep h1).mono (Xm aPs)) h0 hwk (by simp only[List.length_cons];omega) (by show v.d+1=_;simp only[List.length_cons];omega) (Qf0 hT hi0 (by rw[hn];simp only[LNd.pl];omega) hko) (QgG hT hi0 hkp))) rfl (λ_ _=>Zw ?_)
  refine sCd rfl (λh6=>?_) λh6=>?_
  ·have e9:XU st er s (QbA (pln L) f v k++vis (pln L) f (X8 (pln L) v k))=XU st er sk (vis (pln L) f (X8 (pln L) v k)):=by rw[Qm8 _ _ hk2,hk3]
   have hz:XU st er s (vis (pln L) (f+1) v)=XU st er sk (vis (pln L) f (X8 (pln L) v k)):=by rw[ZN,hn];simp only[LNd.pl];obtain⟨B,eB⟩:=Qbq (pln L) f v (show k+1<=(nth L v.i).cs.length by omega);rw[eB,Yj,Qrl _ _ (by rw[e9];exact h6),e9]
   refine aU ?_
   refine Qe (L':=[(0,_),(2,_),(3,_),(4,_),(5,_),(16,_),(21,_),(22,_),(44,_),(45,_),(46,_),(47,_)]) aSx (λ_ h=>h) ?_
   refine aU6 ?_
   exact Qj (rs:=[.tmp 12,.tmp 13]) rfl (.tmp rfl (.tmp rfl (.nil))) (λw' h'=>⟨(),by rw[hz];rfl,trivial,by rw[hz];exact h'.ent aEt⟩)
  have hz:XU st er s (QbA (pln L) f v (k+1))=XU st er sk (vis (pln L) f (X8 (pln L) v k)):=by rw[Yj,Qm8 _ _ hk2,hk3]
  refine aU2 ?_
  refine Qe (L':=[(0,_),(2,_),(3,_),(4,_),(5,_),(16,_),(44,_),(45,_),(46,_),(47,_)]) aSx (λ_ h=>h) ?_
  refine aT2 ?_
  refine aU2 ?_
  exact sBk (k+1,(XU st er sk (vis (pln L) f (X8 (pln L) v k))).2) (by(try simp only[]);omega) ⟨by(try simp only[]);omega,by simp only[];rw[hz];exact h6,by simp only[];rw[hz]⟩
 refine Qh rfl ?_
 refine aU5 ?_
 exact Qj (rs:=[.tmp 12,.tmp 13]) rfl (.tmp rfl (.tmp rfl (.nil))) (λw' h'=>⟨(),by have hke:k=(nth L v.i).cs.length:=om;rw[ZN,hn];simp only[LNd.pl];rw[<-hke,Qoz _ _ hk2];rfl,trivial,by have hke:k=(nth L v.i).cs.length:=om;rw[ZN,hn];simp only[LNd.pl];rw[<-hke,hk3];exact h'.ent aEt⟩)
theorem Qlf(S:Type)(I:S->Prop)(C:S->HA)(st:S->Vis->S)(er:S->Vis->Int×Int)(q:Nat)(cv:Array Value)(bt:Nat)(j:Nat)(mo rm:Int)(a:Option Addr)(cap:Nat)(L:List LNd):∀f,WkC S I C st er q cv bt j mo rm a cap L f
  | 0=>λw s v pl ph P hw hq hfp hI hIs hv ht hs hT hB hpl hph h0 hway hf hd hko hkp=>by
    have hl:=YK hT (by rw[Qd];exact h0) hway;rw[Qd]at hl;simp only[List.length_cons]at hl;omega
  | f+1=>λw s v pl ph P hw hq hfp hI hIs hv ht hs hT hB hpl hph h0 hway hf hd hko hkp=>QvS w S I C st er q cv bt j mo rm a cap L s v pl ph P f hw hq hfp hI hIs hv ht hs hT hB hpl hph h0 hway hf hd hko hkp (Qlf S I C st er q cv bt j mo rm a cap L f)
theorem c236(w:World)(i:Nat)(d:Int)(pl ph:Option Addr)(c4 bb n:Nat)(s:List Bool)(hw:HS w (fps [.blk bb 4 n (s.map Value.bool)]) [.blk bb 4 n (s.map Value.bool)] w)(hc4:Rd w (fps [.blk bb 4 n (s.map Value.bool)]) c4 0 (.slice (some ⟨bb,0,none⟩) n n))(hi:i<n)(hn:s.length=n):CE 236 #[.int .i64 (i:Int),.int .i64 d,.pointer pl,.pointer ph,.pointer (some ⟨c4,0,none⟩)] w (fps [.blk bb 4 n (s.map Value.bool)]) (λg:Unit=>.tuple #[.int .i64 0,.int .i64 0]) (λg=>True) λg=>[.blk bb 4 n ((s.set i true).map Value.bool)]:=by
 refine eW5 Tryz.func236 Tryz.ntmps236 hw ?_
 refine aU7 ?_
 refine o_q (Qc rfl rfl QoL (hc4)) rfl (aU ?_)
 refine o_p (Qa rfl rfl rfl Qbc (i) om om rfl) rfl (Qah (Q8 rfl rfl rfl Qdm rfl aPt (by first|(simp only[List.length_map,List.length_singleton,List.length_cons,List.length_nil];omega)|(simp;omega)) rfl) (λ_ _=>aU6 ?_))
 exact Qj (rs:=[.tmp 9,.tmp 10]) rfl (.tmp rfl (.tmp rfl (.nil))) (λw' h'=>⟨(),rfl,trivial,by have h2:=h';rw[List.map_set];simp only[Qq,Nat.zero_add,Nat.mul_one]at h2;exact h2.ent aEt⟩)
instance:TFn Tryz.prog 62:=⟨by kernel_rfl⟩
theorem Qu9:QQ Tryz.prog 173=true:=by kernel_rfl
theorem Qio:QtQ Tryz.prog 266 9:=QsW Tryz.underlying266 Zd (by decide)
theorem c237(w:World)(v:Vis)(pl ph:Option Addr)(c1 c7:Nat)(s:Int)(bt:Nat)(j:Nat)(mo rm:Int)(a:Option Addr)(cap:Nat)(L:List LNd)(hw:HS w (fps [.blk c7 3 1 [.int .i64 s]]) [.blk c7 3 1 [.int .i64 s]] w)(hc1:Rd w (fps [.blk c7 3 1 [.int .i64 s]]) c1 0 (.pointer (some ⟨bt,0,none⟩)))(ht:TbR w (fps [.blk c7 3 1 [.int .i64 s]]) bt (j:Int) mo rm a L.length cap)(hs:Nt w (fps [.blk c7 3 1 [.int .i64 s]]) a L)(hj:j<=3)(hmo:0<=mo/\mo<=1000)(hi:v.i<L.length)(hl:L.length<=1000)(hel:(nth L v.i).es.length<=1000)(hcl:(nth L v.i).cs.length<=1000)(hc0:(nth L 0).cs.length<=1000)(he0:(nth L 0).es.length<=1000)(hpl:QaR w (fps [.blk c7 3 1 [.int .i64 s]]) pl v.lo)(hph:QaR w (fps [.blk c7 3 1 [.int .i64 s]]) ph v.hi)(hlo:∀k,v.lo=some k->(QL (j:Int) k=true/\k.length<=1000000))(hhi:∀k,v.hi=some k->(QL (j:Int) k=true/\k.length<=1000000))(hok:∀x∈(nth L v.i).es,QL (j:Int) x.key=true/\x.key.length<=1000000):CE 237 #[.int .i64 (v.i:Int),.int .i64 v.d,.pointer pl,.pointer ph,.pointer (some ⟨c1,0,none⟩),.pointer (some ⟨c7,0,none⟩)] w (fps [.blk c7 3 1 [.int .i64 s]]) (λg:Unit=>.tuple #[.int .i64 (erV (⟨(j:Int),mo,rm,pln L⟩:Tre) s v).1,.int .i64 (erV (⟨(j:Int),mo,rm,pln L⟩:Tre) s v).2]) (λg=>True) λg=>[.blk c7 3 1 [.int .i64 (stV (⟨(j:Int),mo,rm,pln L⟩:Tre) s v)]]:=by
 have h00:0<L.length:=om
 have hn:nth (pln L) v.i=(nth L v.i).pl:=Qr hi
 have hn0:nth (pln L) 0=(nth L 0).pl:=Qr h00
 have hG:ZS (⟨(j:Int),mo,rm,pln L⟩:Tre) v=(decide (0<v.i)&&(decide (((nth L v.i).es.length:Int)<mo/2)||((decide (((nth L 0).es.length:Int)=0)&&decide ((v.i:Int)∈(nth L 0).cs))&&decide (((nth L v.i).es.length:Int)<=rm)))):=by unfold ZS;rw[hn,hn0];simp only[LNd.pl];congr 3;congr 1;apply decide_eq_decide.2;omega
 have hO:ZO (⟨(j:Int),mo,rm,pln L⟩:Tre) v=(nth L v.i).es.any (Qae (⟨(j:Int),mo,rm,pln L⟩:Tre) v):=by unfold ZO;rw[hn];rfl
 have hE:erV (⟨(j:Int),mo,rm,pln L⟩:Tre) s v=((v.i:Int),if ZS (⟨(j:Int),mo,rm,pln L⟩:Tre) v=true then 14 else if ZO (⟨(j:Int),mo,rm,pln L⟩:Tre) v=true then 9 else if(nth L v.i).cs.length=0 then(if(if s=0 then v.d else s)=v.d then 0 else 22)else 0):=by unfold erV;rw[hn];rfl
 have hS:stV (⟨(j:Int),mo,rm,pln L⟩:Tre) s v=if ZS (⟨(j:Int),mo,rm,pln L⟩:Tre) v=true then s else if ZO (⟨(j:Int),mo,rm,pln L⟩:Tre) v=true then s else if(nth L v.i).cs.length=0 then(if s=0 then v.d else s)else s:=by unfold stV;rw[hn];rfl
 refine eW6 Tryz.func237 Tryz.ntmps237 hw ?_
 refine aU7 ?_
 refine o_q (Qc rfl rfl Zk (hc1)) rfl (aU3 ?_)
 refine o_q (Qc rfl rfl Yz (ht 3 _ rfl)) rfl (aU ?_)
 refine o_p (Qa rfl rfl rfl QH (v.i) om om (Rw.some hs.1 om)) rfl (o_q (QI _ rfl rfl Xv rfl (Rw.rd hs.1 hi)) rfl (oAl (λb1 _=>?_) Xc))
 refine aU5 ?_
 refine o_q (Qc rfl rfl Zk (hc1)) rfl (aU3 ?_)
 refine o_q (Qc rfl rfl Yz (ht 3 _ rfl)) rfl (o_p (Qa rfl rfl rfl QH (0) om om (Rw.some hs.1 om)) rfl (o_q (QI _ rfl rfl Xv rfl (Rw.rd hs.1 (i:=0) h00)) rfl (oAl (λb2 _=>?_) Xc)))
 refine aU7 ?_
 refine Qe (L':=[(0,_),(1,_),(2,_),(3,_),(4,_),(5,_),(10,_),(11,_),(12,_),(13,_),(33,_)]) aSx (λ_ h=>h) ?_
 refine XP (α:=Unit) [10,11,14,34,35,36,37,38,39,40,41,42,43,44,45,46,47,48,49,50,51,52,53,54,55,56,57,58,59,60,61,62,63,64] (λ_=>[]) (λ_=>HS w (fps [.blk c7 3 1 [.int .i64 s]]) [.blk b2 69 3 (nth L 0).vals,.blk b1 69 3 (nth L v.i).vals,.blk c7 3 1 [.int .i64 s]]) (λ_=>ZS (⟨(j:Int),mo,rm,pln L⟩:Tre) v=false) ?_ ?_
 ·skip
  refine sCd rfl (λh3=>?_) λh3=>?_
  ·refine aU7 ?_
   refine X0 5 38 43 rfl
    (λhg4 _=>by
     refine aU7 ?_
     refine oCq rfl (λw1 h1=>c62 w1 (nth L 0).ca (nth L 0).cc (nth L 0).cs (v.i:Int) ((hs.cs h00).later h1) om) ?_
     exact oJt 5 43)
    (λhg6 _=>by
     refine aU4 ?_
     exact oJf 5 43) ?_
   refine aU3 ?_
   refine XP (α:=Unit) [44,45,46,47,48,49,50,51,52,53,54,55,56,57,58,59,60,61,62,63] (λ_=>[(63,.bool (decide (((nth L v.i).es.length:Int)<mo/2)||((decide (((nth L 0).es.length:Int)=0)&&decide ((v.i:Int)∈(nth L 0).cs))&&decide (((nth L v.i).es.length:Int)<=rm))))]) (λ_=>HS w (fps [.blk c7 3 1 [.int .i64 s]]) [.blk b2 69 3 (nth L 0).vals,.blk b1 69 3 (nth L v.i).vals,.blk c7 3 1 [.int .i64 s]]) (λ_=>True) ?_ ?_
   ·skip
    refine Qu [] QG ?_
    refine dFa 0 ?_
    refine dLd 1 [] ?_
    refine dV 2 rfl (QX rfl rfl Tryz.underlying67) (dQ 3 [] rfl (Qc rfl rfl Zk (hc1)) (dQ 4 [] rfl (QA rfl Qu9 rfl (λw1 h1=>c173 w1 bt j mo rm a L.length cap hmo (ht.next h1))) (dP 5 ?_)))
    refine dP 6 ?_
    apply Xu 50
    ·exact rfl
    ·intro hg8
     have hs9:=hg8;try simp only[dT]at hs9
     refine dOf 7 50 hg8 ?_
     refine dOf 8 50 hg8 ?_
     refine dOu 9 52 ?_
     refine dOu 10 52 ?_
     refine dOu 11 52 ?_
     refine dOu 12 52 ?_
     refine dOu 13 52 ?_
     refine dOu 14 52 ?_
     refine dOu 15 52 ?_
     refine dOu 16 52 ?_
     refine dOu 17 52 ?_
     refine dOf 18 50 hg8 ?_
     refine dV 19 rfl (Xq rfl rfl hg8 rfl) (Qv (show _=Value.bool (decide (((nth L v.i).es.length:Int)<mo/2)||((decide (((nth L 0).es.length:Int)=0)&&decide ((v.i:Int)∈(nth L 0).cs))&&decide (((nth L v.i).es.length:Int)<=rm)))from by congr 1;first|(simp_all;done)|(simp_all;omega)) (dNi ?_))
     exact Qp () trivial aSx (λw h=>h.ent aEt)
    intro hg10
    have hs11:=hg10;try simp only[dN]at hs11
    refine dPo 7 50 hg10 ?_
    refine dPo 8 50 hg10 ?_
    apply Xu 52
    ·exact rfl
    ·intro hg12
     have hs13:=hg12;try simp only[Bool.and_eq_true,decide_eq_true_eq]at hs13
     refine dFo 9 52 hg12 ?_
     refine dQo 10 52 [] hg12 rfl rfl rfl (Yh rfl rfl YE aPk rfl) ?_
     refine dVo 11 52 hg12 rfl rfl rfl (QX rfl rfl Tryz.underlying67) ?_
     refine dQo 12 52 [] hg12 rfl rfl rfl (Qc rfl rfl Zk (hc1)) ?_
     refine dPo 13 52 hg12 ?_
     refine dFo 14 52 hg12 ?_
     refine dFo 15 52 hg12 ?_
     refine dQo 16 52 [] hg12 rfl rfl rfl (Qc rfl rfl Ye (ht 2 _ rfl)) ?_
     refine dPo 17 52 hg12 ?_
     refine dVo 18 50 hg10 rfl rfl rfl (Xq rfl rfl hg12 rfl) ?_
     refine dV 19 rfl (Xe rfl rfl hg10 rfl) (Qv (show _=Value.bool (decide (((nth L v.i).es.length:Int)<mo/2)||((decide (((nth L 0).es.length:Int)=0)&&decide ((v.i:Int)∈(nth L 0).cs))&&decide (((nth L v.i).es.length:Int)<=rm)))from by congr 1;first|(simp_all;done)|(simp_all;omega)) (dNi ?_))
     exact Qp () trivial aSx (λw h=>h.ent aEt)
    intro hg14
    have hs15:=hg14;try simp only[Bool.and_eq_false_iff,decide_eq_false_iff_not]at hs15
    refine dOf 9 52 hg14 ?_
    refine dOf 10 52 hg14 ?_
    refine dOf 11 52 hg14 ?_
    refine dOf 12 52 hg14 ?_
    refine dOf 13 52 hg14 ?_
    refine dOf 14 52 hg14 ?_
    refine dOf 15 52 hg14 ?_
    refine dOf 16 52 hg14 ?_
    refine dOf 17 52 hg14 ?_
    refine dVo 18 50 hg10 rfl rfl rfl (Xe rfl rfl hg14 rfl) ?_
    refine dV 19 rfl (Xe rfl rfl hg10 rfl) (Qv (show _=Value.bool (decide (((nth L v.i).es.length:Int)<mo/2)||((decide (((nth L 0).es.length:Int)=0)&&decide ((v.i:Int)∈(nth L 0).cs))&&decide (((nth L v.i).es.length:Int)<=rm)))from by congr 1;first|(simp_all;done)|(simp_all;omega)) (dNi ?_))
    exact Qp () trivial aSx (λw h=>h.ent aEt)
   intro _ _
   refine sCd rfl (λh16=>?_) λh16=>?_
   ·have hz:ZS (⟨(j:Int),mo,rm,pln L⟩:Tre) v=true:=by rw[hG];have hq:=h16;simp only[Bool.and_eq_true,Bool.or_eq_true,decide_eq_true_eq];exact⟨om,hq⟩
    refine aU6 ?_
    exact Qj (rs:=[.tmp 10,.tmp 11]) rfl (.tmp rfl (.tmp rfl (.nil))) (λw' h'=>⟨(),by rw[hE];simp only[];rw[if_pos hz];rfl,trivial,by rw[hS,if_pos hz];exact h'.ent aEt⟩)
   refine aU ?_
   exact Qp () (by rw[hG,decide_eq_true om,Bool.true_and];apply Bool.eq_false_iff.2;intro h9;simp only[Bool.and_eq_true,Bool.or_eq_true,decide_eq_true_eq]at h9;have hq:=h16;simp at hq h9;grind) aSx (λw h=>h.ent aEt)
  refine aU ?_
  exact Qp () (by rw[hG,decide_eq_false om];rfl) aSx (λw h=>h.ent aEt)
 intro _ hz1
 refine aU9 ?_
 refine Qo (α:=Nat) [10,11,16,68,69,70,71,72,73,74,75,76,77,78,79,80,81,82,83,84,85,86,87,88,89,90,91,92,93,94,95,96,97,98,99,100,101,102,103,104,105,106,107] (λk=>[(68,.int .i64 (k:Int))]) (λ_=>HS w (fps [.blk c7 3 1 [.int .i64 s]]) [.blk b2 69 3 (nth L 0).vals,.blk b1 69 3 (nth L v.i).vals,.blk c7 3 1 [.int .i64 s]]) (λk=>k<=(nth L v.i).es.length/\∀i,i<k->Qae (⟨(j:Int),mo,rm,pln L⟩:Tre) v (nth (nth L v.i).es i)=false) (λk=>(nth L v.i).es.length-k) 0 ⟨Nat.zero_le _,λi h=>absurd h (Nat.not_lt_zero i)⟩ aSx (λw h=>h.ent aEt) (λk hx=>?_)
 obtain⟨hk1,hk2⟩:=hx
 refine aU5 ?_
 refine sCd rfl (λh17=>?_) λh17=>?_
 ·have hkl:k<(nth L v.i).es.length:=by omega
  refine aU5 ?_
  refine o_p (Qa rfl rfl rfl Qy (k) om om (Rw.some (hs.es hi) om)) rfl (o_q (QI _ rfl rfl Xb rfl (Rw.rd (hs.es hi) (i:=k) hkl)) rfl (oAl (λb18 _=>?_) XD))
  refine aU3 ?_
  refine XP (α:=Unit) [72,73,74,75,76,77,78,79,80,81,82,83,84,85,86,87,88,89,90,91,92,93,94,95,96,97,98,99,100,101,102,103,104,105] (λ_=>[(105,.bool (Qae (⟨(j:Int),mo,rm,pln L⟩:Tre) v (nth (nth L v.i).es k)))]) (λ_=>HS w (fps [.blk c7 3 1 [.int .i64 s]]) [.blk b2 69 3 (nth L 0).vals,.blk b1 69 3 (nth L v.i).vals,.blk c7 3 1 [.int .i64 s]]) (λ_=>True) ?_ ?_
  ·skip
   refine Qu [] QG ?_
   refine dP 0 ?_
   refine dV 1 rfl (QgC rfl rfl rfl Qio) (dP 2 ?_)
   apply Xu 74
   ·exact rfl
   ·intro hg19
    have hs20:=hg19;skip
    refine dQo 3 74 [] hg19 rfl rfl rfl (Qc rfl rfl Zk (hc1)) ?_
    obtain⟨k9,b9,o9,hlo9,rfl,hr9⟩:=hpl.of_some hg19
    refine dPo 4 74 hg19 ?_
    refine dFo 5 74 hg19 ?_
    refine dFo 6 74 hg19 ?_
    refine dQo 7 74 [] hg19 rfl rfl rfl (Qc rfl rfl QdJ (ht 5 _ rfl)) ?_
    refine dPo 8 74 hg19 ?_
    refine dPo 9 74 hg19 ?_
    refine dQo 10 74 [] hg19 rfl rfl rfl (Qc rfl rfl Zd (hr9)) ?_
    refine dFo 11 74 hg19 ?_
    refine dQo 12 74 [] hg19 rfl rfl rfl (Yh rfl rfl Zd aPk rfl) ?_
    refine dQo 13 74 [] hg19 rfl rfl rfl (Xj rfl rfl (Qeu _) rfl (λw1 h1=>Qan w1 j k9 (nth (nth L v.i).es k).key hj (hlo _ hlo9).1 (hok _ (Qz hkl)).1 (hlo _ hlo9).2 (hok _ (Qz hkl)).2)) ?_
    refine dPo 14 74 hg19 ?_
    refine dV 15 rfl (Xq rfl rfl hg19 rfl) (Qv (show _=Value.bool (v.lo.any λb=>decide (0<=QN (j:Int) b (nth (nth L v.i).es k).key))from by congr 1;first|(rw[hlo9];rfl)|(rw[hpl.of_none hg19];rfl)) (dP 16 ?_))
    apply Xu 88
    ·exact rfl
    ·intro hg21
     have hs22:=hg21;skip
     refine dOf 17 88 hg21 ?_
     refine dOf 18 88 hg21 ?_
     refine dOf 19 88 hg21 ?_
     refine dOu 20 91 ?_
     refine dOu 21 91 ?_
     refine dOu 22 91 ?_
     refine dOu 23 91 ?_
     refine dOu 24 91 ?_
     refine dOu 25 91 ?_
     refine dOu 26 91 ?_
     refine dOu 27 91 ?_
     refine dOu 28 91 ?_
     refine dOu 29 91 ?_
     refine dOu 30 91 ?_
     refine dOu 31 91 ?_
     refine dOf 32 88 hg21 ?_
     refine dV 33 rfl (Xq rfl rfl hg21 rfl) (Qv (show _=Value.bool (Qae (⟨(j:Int),mo,rm,pln L⟩:Tre) v (nth (nth L v.i).es k))from by congr 1;show _=((v.lo.any λb=>decide (0<=QN (j:Int) b (nth (nth L v.i).es k).key))||(v.hi.any λb=>decide (0<=QN (j:Int) (nth (nth L v.i).es k).key b)));first|(rw[show(v.lo.any λb=>decide (0<=QN (j:Int) b (nth (nth L v.i).es k).key))=true by assumption];rfl)|(rw[show(v.lo.any λb=>decide (0<=QN (j:Int) b (nth (nth L v.i).es k).key))=false by assumption];rfl)) (dNi ?_))
     exact Qp () trivial aSx (λw h=>h.ent aEt)
    intro hg23
    have hs24:=hg23;skip
    refine dPo 17 88 hg23 ?_
    refine dVo 18 88 hg23 rfl rfl rfl (QgC rfl rfl rfl Qio) ?_
    refine dPo 19 88 hg23 ?_
    apply Xu 91
    ·exact rfl
    ·intro hg25
     have hs26:=hg25;skip
     refine dQo 20 91 [] hg25 rfl rfl rfl (Qc rfl rfl Zk (hc1)) ?_
     obtain⟨k8,b8,o8,hhi8,rfl,hr8⟩:=hph.of_some hg25
     refine dPo 21 91 hg25 ?_
     refine dFo 22 91 hg25 ?_
     refine dFo 23 91 hg25 ?_
     refine dQo 24 91 [] hg25 rfl rfl rfl (Qc rfl rfl QdJ (ht 5 _ rfl)) ?_
     refine dFo 25 91 hg25 ?_
     refine dQo 26 91 [] hg25 rfl rfl rfl (Yh rfl rfl Zd aPk rfl) ?_
     refine dPo 27 91 hg25 ?_
     refine dPo 28 91 hg25 ?_
     refine dQo 29 91 [] hg25 rfl rfl rfl (Qc rfl rfl Zd (hr8)) ?_
     refine dQo 30 91 [] hg25 rfl rfl rfl (Xj rfl rfl (Qeu _) rfl (λw1 h1=>Qan w1 j (nth (nth L v.i).es k).key k8 hj (hok _ (Qz hkl)).1 (hhi _ hhi8).1 (hok _ (Qz hkl)).2 (hhi _ hhi8).2)) ?_
     refine dPo 31 91 hg25 ?_
     refine dVo 32 88 hg23 rfl rfl rfl (Xq rfl rfl hg25 rfl) ?_
     refine Qv (show _=Value.bool (v.hi.any λb=>decide (0<=QN (j:Int) (nth (nth L v.i).es k).key b))from by congr 1;first|(rw[hhi8];rfl)|(rw[hph.of_none hg25];rfl)) (dV 33 rfl (Xe rfl rfl hg23 rfl) (Qv (show _=Value.bool (Qae (⟨(j:Int),mo,rm,pln L⟩:Tre) v (nth (nth L v.i).es k))from by congr 1;show _=((v.lo.any λb=>decide (0<=QN (j:Int) b (nth (nth L v.i).es k).key))||(v.hi.any λb=>decide (0<=QN (j:Int) (nth (nth L v.i).es k).key b)));first|(rw[show(v.lo.any λb=>decide (0<=QN (j:Int) b (nth (nth L v.i).es k).key))=true by assumption];rfl)|(rw[show(v.lo.any λb=>decide (0<=QN (j:Int) b (nth (nth L v.i).es k).key))=false by assumption];rfl)) (dNi ?_)))
     exact Qp () trivial aSx (λw h=>h.ent aEt)
    intro hg27
    have hs28:=hg27;skip
    refine dOf 20 91 hg27 ?_
    refine dOf 21 91 hg27 ?_
    refine dOf 22 91 hg27 ?_
    refine dOf 23 91 hg27 ?_
    refine dOf 24 91 hg27 ?_
    refine dOf 25 91 hg27 ?_
    refine dOf 26 91 hg27 ?_
    refine dOf 27 91 hg27 ?_
    refine dOf 28 91 hg27 ?_
    refine dOf 29 91 hg27 ?_
    refine dOf 30 91 hg27 ?_
    refine dOf 31 91 hg27 ?_
    refine dVo 32 88 hg23 rfl rfl rfl (Xe rfl rfl hg27 rfl) ?_
    refine Qv (show _=Value.bool (v.hi.any λb=>decide (0<=QN (j:Int) (nth (nth L v.i).es k).key b))from by congr 1;first|(rw[hhi8];rfl)|(rw[hph.of_none hg27];rfl)) (dV 33 rfl (Xe rfl rfl hg23 rfl) (Qv (show _=Value.bool (Qae (⟨(j:Int),mo,rm,pln L⟩:Tre) v (nth (nth L v.i).es k))from by congr 1;show _=((v.lo.any λb=>decide (0<=QN (j:Int) b (nth (nth L v.i).es k).key))||(v.hi.any λb=>decide (0<=QN (j:Int) (nth (nth L v.i).es k).key b)));first|(rw[show(v.lo.any λb=>decide (0<=QN (j:Int) b (nth (nth L v.i).es k).key))=true by assumption];rfl)|(rw[show(v.lo.any λb=>decide (0<=QN (j:Int) b (nth (nth L v.i).es k).key))=false by assumption];rfl)) (dNi ?_)))
    exact Qp () trivial aSx (λw h=>h.ent aEt)
   intro hg29
   have hs30:=hg29;skip
   refine dOf 3 74 hg29 ?_
   refine dOf 4 74 hg29 ?_
   refine dOf 5 74 hg29 ?_
   refine dOf 6 74 hg29 ?_
   refine dOf 7 74 hg29 ?_
   refine dOf 8 74 hg29 ?_
   refine dOf 9 74 hg29 ?_
   refine dOf 10 74 hg29 ?_
   refine dOf 11 74 hg29 ?_
   refine dOf 12 74 hg29 ?_
   refine dOf 13 74 hg29 ?_
   refine dOf 14 74 hg29 ?_
   refine dV 15 rfl (Xe rfl rfl hg29 rfl) (Qv (show _=Value.bool (v.lo.any λb=>decide (0<=QN (j:Int) b (nth (nth L v.i).es k).key))from by congr 1;first|(rw[hlo9];rfl)|(rw[hpl.of_none hg29];rfl)) (dP 16 ?_))
   apply Xu 88
   ·exact rfl
   ·intro hg31
    have hs32:=hg31;skip
    refine dOf 17 88 hg31 ?_
    refine dOf 18 88 hg31 ?_
    refine dOf 19 88 hg31 ?_
    refine dOu 20 91 ?_
    refine dOu 21 91 ?_
    refine dOu 22 91 ?_
    refine dOu 23 91 ?_
    refine dOu 24 91 ?_
    refine dOu 25 91 ?_
    refine dOu 26 91 ?_
    refine dOu 27 91 ?_
    refine dOu 28 91 ?_
    refine dOu 29 91 ?_
    refine dOu 30 91 ?_
    refine dOu 31 91 ?_
    refine dOf 32 88 hg31 ?_
    refine dV 33 rfl (Xq rfl rfl hg31 rfl) (Qv (show _=Value.bool (Qae (⟨(j:Int),mo,rm,pln L⟩:Tre) v (nth (nth L v.i).es k))from by congr 1;show _=((v.lo.any λb=>decide (0<=QN (j:Int) b (nth (nth L v.i).es k).key))||(v.hi.any λb=>decide (0<=QN (j:Int) (nth (nth L v.i).es k).key b)));first|(rw[show(v.lo.any λb=>decide (0<=QN (j:Int) b (nth (nth L v.i).es k).key))=true by assumption];rfl)|(rw[show(v.lo.any λb=>decide (0<=QN (j:Int) b (nth (nth L v.i).es k).key))=false by assumption];rfl)) (dNi ?_))
    exact Qp () trivial aSx (λw h=>h.ent aEt)
   intro hg33
   have hs34:=hg33;skip
   refine dPo 17 88 hg33 ?_
   refine dVo 18 88 hg33 rfl rfl rfl (QgC rfl rfl rfl Qio) ?_
   refine dPo 19 88 hg33 ?_
   apply Xu 91
   ·exact rfl
   ·intro hg35
    have hs36:=hg35;skip
    refine dQo 20 91 [] hg35 rfl rfl rfl (Qc rfl rfl Zk (hc1)) ?_
    obtain⟨k8,b8,o8,hhi8,rfl,hr8⟩:=hph.of_some hg35
    refine dPo 21 91 hg35 ?_
    refine dFo 22 91 hg35 ?_
    refine dFo 23 91 hg35 ?_
    refine dQo 24 91 [] hg35 rfl rfl rfl (Qc rfl rfl QdJ (ht 5 _ rfl)) ?_
    refine dFo 25 91 hg35 ?_
    refine dQo 26 91 [] hg35 rfl rfl rfl (Yh rfl rfl Zd aPk rfl) ?_
    refine dPo 27 91 hg35 ?_
    refine dPo 28 91 hg35 ?_
    refine dQo 29 91 [] hg35 rfl rfl rfl (Qc rfl rfl Zd (hr8)) ?_
    refine dQo 30 91 [] hg35 rfl rfl rfl (Xj rfl rfl (Qeu _) rfl (λw1 h1=>Qan w1 j (nth (nth L v.i).es k).key k8 hj (hok _ (Qz hkl)).1 (hhi _ hhi8).1 (hok _ (Qz hkl)).2 (hhi _ hhi8).2)) ?_
    refine dPo 31 91 hg35 ?_
    refine dVo 32 88 hg33 rfl rfl rfl (Xq rfl rfl hg35 rfl) ?_
    refine Qv (show _=Value.bool (v.hi.any λb=>decide (0<=QN (j:Int) (nth (nth L v.i).es k).key b))from by congr 1;first|(rw[hhi8];rfl)|(rw[hph.of_none hg35];rfl)) (dV 33 rfl (Xe rfl rfl hg33 rfl) (Qv (show _=Value.bool (Qae (⟨(j:Int),mo,rm,pln L⟩:Tre) v (nth (nth L v.i).es k))from by congr 1;show _=((v.lo.any λb=>decide (0<=QN (j:Int) b (nth (nth L v.i).es k).key))||(v.hi.any λb=>decide (0<=QN (j:Int) (nth (nth L v.i).es k).key b)));first|(rw[show(v.lo.any λb=>decide (0<=QN (j:Int) b (nth (nth L v.i).es k).key))=true by assumption];rfl)|(rw[show(v.lo.any λb=>decide (0<=QN (j:Int) b (nth (nth L v.i).es k).key))=false by assumption];rfl)) (dNi ?_)))
    exact Qp () trivial aSx (λw h=>h.ent aEt)
   intro hg37
   have hs38:=hg37;skip
   refine dOf 20 91 hg37 ?_
   refine dOf 21 91 hg37 ?_
   refine dOf 22 91 hg37 ?_
   refine dOf 23 91 hg37 ?_
   refine dOf 24 91 hg37 ?_
   refine dOf 25 91 hg37 ?_
   refine dOf 26 91 hg37 ?_
   refine dOf 27 91 hg37 ?_
   refine dOf 28 91 hg37 ?_
   refine dOf 29 91 hg37 ?_
   refine dOf 30 91 hg37 ?_
   refine dOf 31 91 hg37 ?_
   refine dVo 32 88 hg33 rfl rfl rfl (Xe rfl rfl hg37 rfl) ?_
   refine Qv (show _=Value.bool (v.hi.any λb=>decide (0<=QN (j:Int) (nth (nth L v.i).es k).key b))from by congr 1;first|(rw[hhi8];rfl)|(rw[hph.of_none hg37];rfl)) (dV 33 rfl (Xe rfl rfl hg33 rfl) (Qv (show _=Value.bool (Qae (⟨(j:Int),mo,rm,pln L⟩:Tre) v (nth (nth L v.i).es k))from by congr 1;show _=((v.lo.any λb=>decide (0<=QN (j:Int) b (nth (nth L v.i).es k).key))||(v.hi.any λb=>decide (0<=QN (j:Int) (nth (nth L v.i).es k).key b)));first|(rw[show(v.lo.any λb=>decide (0<=QN (j:Int) b (nth (nth L v.i).es k).key))=true by assumption];rfl)|(rw[show(v.lo.any λb=>decide (0<=QN (j:Int) b (nth (nth L v.i).es k).key))=false by assumption];rfl)) (dNi ?_)))
   exact Qp () trivial aSx (λw h=>h.ent aEt)
  intro _ _
  refine sCd rfl (λh39=>?_) λh39=>?_
  ·have hz2:ZO (⟨(j:Int),mo,rm,pln L⟩:Tre) v=true:=by rw[hO,List.any_eq_true];exact⟨_,Qz hkl,h39⟩
   refine aU6 ?_
   exact Qj (rs:=[.tmp 10,.tmp 11]) rfl (.tmp rfl (.tmp rfl (.nil))) (λw' h'=>⟨(),by rw[hE];simp only[];rw[if_neg (by rw[hz1];decide),if_pos hz2];rfl,trivial,by rw[hS,if_neg (by rw[hz1];decide),if_pos hz2];exact h'.ent aEt⟩)
  refine aT4 ?_
  refine aU2 ?_
  exact sBk (k+1) om ⟨om,λi hi9=>(Nat.lt_or_ge i k).elim (hk2 i) (λh=>by obtain rfl:i=k:=om;have hq:=h39;simpa using hq)⟩
 obtain rfl:k=(nth L v.i).es.length:=om
 have hz2:ZO (⟨(j:Int),mo,rm,pln L⟩:Tre) v=false:=by rw[hO,List.any_eq_false];intro x hx;obtain⟨i9,hi9,e9⟩:=List.getElem_of_mem hx;have e8:nth (nth L v.i).es i9=x:=QS (by rw[List.getElem?_eq_getElem hi9,e9]);rw[<-e8,hk2 i9 hi9];decide
 refine Qh rfl ?_
 refine aU8 ?_
 refine sCd rfl (λh40=>?_) λh40=>?_
 ·have hc9:(nth L v.i).cs.length=0:=by have hq:=h40;omega
  have hEv:erV (⟨(j:Int),mo,rm,pln L⟩:Tre) s v=((v.i:Int),if(if s=0 then v.d else s)=v.d then 0 else 22):=by rw[hE,if_neg (by rw[hz1];decide),if_neg (by rw[hz2];decide),if_pos hc9]
  refine aU6 ?_
  refine XP (α:=Unit) [114] (λ_=>[]) (λ_=>HS w (fps [.blk c7 3 1 [.int .i64 s]]) [.blk b2 69 3 (nth L 0).vals,.blk b1 69 3 (nth L v.i).vals,.blk c7 3 1 [.int .i64 (if s=0 then v.d else s)]]) (λ_=>True) ?_ ?_
  ·skip
   refine sCd rfl (λh41=>?_) λh41=>?_
   ·refine aU4 ?_
    exact Qp () trivial aSx (λw h=>by rw[if_pos h41];exact h.ent aEt)
   refine aU ?_
   exact Qp () trivial aSx (λw h=>by rw[if_neg h41];exact h.ent aEt)
  intro _ _
  refine aU6 ?_
  refine oCq rfl (λw1 h1=>QdM w1 _ _) (aU3 ?_)
  exact Qj (rs:=[.tmp 10,.tmp 11]) rfl (.tmp rfl (.tmp rfl (.nil))) (λw' h'=>⟨(),by rw[hEv];simp only[Q3,cond_eq_ite,decide_eq_true_eq],trivial,by rw[hS,if_neg (by rw[hz1];decide),if_neg (by rw[hz2];decide),if_pos hc9];exact h'.ent aEt⟩)
 have hc9:¬(nth L v.i).cs.length=0:=by have hq:=h40;omega
 refine aU7 ?_
 exact Qj (rs:=[.tmp 10,.tmp 11]) rfl (.tmp rfl (.tmp rfl (.nil))) (λw' h'=>⟨(),by rw[hE];simp only[];rw[if_neg (by rw[hz1];decide),if_neg (by rw[hz2];decide),if_neg hc9];rfl,trivial,by rw[hS,if_neg (by rw[hz1];decide),if_neg (by rw[hz2];decide),if_neg hc9];exact h'.ent aEt⟩)
theorem Que:XX Tryz.prog 4=some [.bool false]:=by kernel_rfl
theorem QuM:XX Tryz.prog 102=some [.slice none 0 0]:=by kernel_rfl
theorem c200(w:World)(bt:Nat)(j:Nat)(mo rm:Int)(a:Option Addr)(cap:Nat)(L:List LNd)(ht:TbR w [] bt (j:Int) mo rm a L.length cap)(hs:Nt w [] a L)(hj:j<=3)(hmo:0<=mo/\mo<=1000)(h0:0<L.length)(hB:Bd (pln L))(hT:TOk (j:Int) (pln L)):CR 200 #[.pointer (some ⟨bt,0,none⟩)] w (.tuple #[.int .i64 (Qb6 (⟨(j:Int),mo,rm,pln L⟩:Tre)).1,.int .i64 (Qb6 (⟨(j:Int),mo,rm,pln L⟩:Tre)).2]):=by
 have hle:=hB.len
 rw[Qd]at hle
 have hvis:vis (pln L) L.length Zr=YR (pln L):=by unfold YR;rw[Qd]
 have hmar:=QlW (YR (pln L)) (List.replicate L.length false)
 rw[List.length_replicate]at hmar
 have hbel:∀i,i<L.length->(XU Qg2 (λ_ _=>(0,0)) (List.replicate L.length false) (YR (pln L))).2.getD i false=decide (i∈(YR (pln L)).map Vis.i):=λi hi=>by rw[hmar.2.2 i hi,show(List.replicate L.length false).getD i false=false from by rw[List.getD_eq_getElem?_getD,List.getElem?_replicate];split<;>rfl,Bool.false_or]
 have hes9:∀i,i<L.length->(nth L i).es.length<=1000:=λi hi=>by have h9:=hB.es i (by rw[Qd];exact hi);rw[Qr hi]at h9;exact h9
 have hcs9:∀i,i<L.length->(nth L i).cs.length<=1000:=λi hi=>by have h9:=hB.cs i (by rw[Qd];exact hi);rw[Qr hi]at h9;exact h9
 have hok9:∀i,i<L.length->∀x∈(nth L i).es,QL (j:Int) x.key=true/\x.key.length<=1000000:=λi hi=>by have h9:=Qeb hT (i:=i) (by rw[Qd];exact hi);rw[Qr hi]at h9;exact h9
 refine eN1 Tryz.func200 Tryz.ntmps200 ?_
 refine aU2 ?_
 refine oBx λb1 _=>?_
 refine aU9 ?_
 refine o_q (Qc rfl rfl Yz (ht 3 _ rfl)) rfl (aU ?_)
 refine o_h (QeI (n:=L.length) rfl rfl rfl Qbc Que om om) rfl (λb2 _=>QZ (λw h=>(show HS _ _ [.blk b2 4 L.length ((List.replicate L.length false).map Value.bool),.blk b1 158 1 [.pointer (some ⟨bt,0,none⟩)]] w from by have h9:=h;rw[Nat.mul_one,Qcx,<-List.map_replicate]at h9;exact h9.ent aEt)) (oAl (λb3 _=>?_) QuM))
 refine aU6 ?_
 refine o_h (QE (Cs:=[.blk b2 4 L.length ((List.replicate L.length false).map Value.bool)]) rfl Qln rfl aPs (λw1 h1 hf=>by have h9:=Qlf (List Bool) (λs=>s.length=L.length) (λs=>.blk b2 4 L.length (s.map Value.bool)) Qg2 (λ_ _=>(0,0)) 236 #[.pointer (some ⟨b3,0,none⟩)] bt j mo rm a cap L L.length w1 (List.replicate L.length false) Zr none none [] hf (by kernel_rfl) (λ_ _=>rfl) (λs v h=>by simpa[Qg2]using h) (by simp) (λs2 v2 p2 p3 w2 h2 hs2 hi2 _ _ _ _=>c236 w2 v2.i v2.d p2 p3 b3 b2 L.length s2 (HS.focus (Cs:=[_]) (Ds:=[]) h2) (h2.keep (h1.rd_blkF aPs (b:=b3) aPk rfl)) hi2 hs2) ((ht.keep h1).mono (Xm aPs)) ((hs.keep h1).mono (Xm aPs)) hT hB rfl rfl h0 rfl (by simp) rfl (λ_ h=>by cases h) (λ_ h=>by cases h);rw[hvis]at h9;exact h9)) rfl (λ_ _=>aU3 ?_)
 refine QZ (λw h=>(show HS _ _ [.blk b2 4 L.length ((XU Qg2 (λ_ _=>(0,0)) (List.replicate L.length false) (YR (pln L))).2.map Value.bool),.blk b3 102 1 [.slice (some ⟨b2,0,none⟩) L.length L.length],.blk b1 158 1 [.pointer (some ⟨bt,0,none⟩)]] w from h.ent aEt)) (aU8 ?_)
 refine o_q (Qc rfl rfl Yz (ht 3 _ rfl)) rfl (aU4 ?_)
 refine Qe (L':=[(1,_),(2,_),(3,_),(4,_),(25,_),(26,_),(27,_)]) aSx (λ_ h=>h) ?_
 refine Qo (α:=Nat) [2,3,5,6,27,28,29,30,31,32,33,34,35,36,37,38,39,40,41,42] (λk=>[(27,.int .i64 (k:Int))]) (λ_=>HS w [] [.blk b2 4 L.length ((XU Qg2 (λ_ _=>(0,0)) (List.replicate L.length false) (YR (pln L))).2.map Value.bool),.blk b3 102 1 [.slice (some ⟨b2,0,none⟩) L.length L.length],.blk b1 158 1 [.pointer (some ⟨bt,0,none⟩)]]) (λk=>k<=L.length/\ZX (pln L) ((YR (pln L)).map Vis.i) L.length 0=ZX (pln L) ((YR (pln L)).map Vis.i) (L.length-k) k) (λk=>L.length-k) 0 ⟨Nat.zero_le _,rfl⟩ aSx (λw h=>h.ent aEt) (λk hx=>?_)
 obtain⟨hk1,hk2⟩:=hx
 refine aU5 ?_
 refine sCd rfl (λh4=>?_) λh4=>?_
 ·have hkl:k<L.length:=by omega
  have hst:=QhL (ns:=pln L) (below:=(YR (pln L)).map Vis.i) (k:=k) (by rw[Qd];exact hkl)
  rw[Qd,Qr hkl]at hst
  refine aU6 ?_
  refine o_p (Qa rfl rfl rfl QH (k) om om (Rw.some hs.1 om)) rfl (o_q (QI _ rfl rfl Xv rfl (Rw.rd hs.1 hkl)) rfl (oAl (λb5 _=>?_) Xc))
  refine aU8 ?_
  refine X0 6 34 40 rfl
   (λhg6 _=>by
    refine aU5 ?_
    refine o_p (Qa rfl rfl rfl Qbc (k) om om rfl) rfl (aU ?_)
    refine o_q (Qx rfl rfl Qdm (λw h=>by rw[Nat.zero_add,Nat.mul_one];exact h.rd_blk (Mc:=[]) (b:=b2) aPk (Qqc (by rw[hmar.2.1];exact hkl)) (by simp))) rfl (aU2 ?_)
    exact oJt 6 40)
   (λhg8 _=>by
    refine aU5 ?_
    exact oJf 6 40) ?_
  refine aU ?_
  refine sCd rfl (λh10=>?_) λh10=>?_
  ·have hz:(nth L k).pl.us=true/\k ∉ (YR (pln L)).map Vis.i:=by have hq:=h10;rw[hbel k hkl]at hq;simp only[LNd.pl];simpa using hq
   refine aU6 ?_
   exact Qj (rs:=[.tmp 2,.tmp 3]) rfl (.tmp rfl (.tmp rfl (.nil))) (λw' h'=>⟨by rw[QbF (t:=(⟨(j:Int),mo,rm,pln L⟩:Tre)) (i:=k) (show ZX (pln L) _ (pln L).length 0=some k from by rw[Qd,hk2,hst,if_pos hz])];rfl,h'.below⟩)
  have hz:¬((nth L k).pl.us=true/\k ∉ (YR (pln L)).map Vis.i):=by have hq:=h10;rw[hbel k hkl]at hq;simp only[LNd.pl];intro h9;simp at hq h9;grind
  refine aT4 ?_
  refine aU2 ?_
  exact sBk (k+1) om ⟨om,by rw[hk2,hst,if_neg hz]⟩
 have hnone:ZX (pln L) ((YR (pln L)).map Vis.i) L.length 0=none:=by rw[hk2,show L.length-k=0 by omega];rfl
 refine Qh rfl ?_
 refine aU2 ?_
 refine oAl (λb11 _=>?_) YP
 refine aU6 ?_
 refine o_h (QE (Cs:=[.blk b11 3 1 [.int .i64 0]]) rfl Qln rfl aPs (λw1 h1 hf=>by have h9:=Qlf Int (λ_=>True) (λs=>.blk b11 3 1 [.int .i64 s]) (stV (⟨(j:Int),mo,rm,pln L⟩:Tre)) (erV (⟨(j:Int),mo,rm,pln L⟩:Tre)) 237 #[.pointer (some ⟨b1,0,none⟩),.pointer (some ⟨b11,0,none⟩)] bt j mo rm a cap L L.length w1 0 Zr none none [] hf (by kernel_rfl) (λ_ _=>rfl) (λ_ _ _=>trivial) trivial (λs2 v2 p2 p3 w2 h2 _ hi2 ha2 hb2 hp2 hp3=>c237 w2 v2 p2 p3 b1 b11 s2 bt j mo rm a cap L (HS.focus (Cs:=[_]) (Ds:=[]) h2) (h2.keep (h1.rd_blkF aPs (b:=b1) aPk rfl)) (((ht.keep h1).mono (Xm aPs)).keep h2) (((hs.keep h1).mono (Xm aPs)).keep h2) hj hmo hi2 hle (hes9 _ hi2) (hcs9 _ hi2) (hcs9 _ h0) (hes9 _ h0) hp2 hp3 ha2 hb2 (hok9 _ hi2)) ((ht.keep h1).mono (Xm aPs)) ((hs.keep h1).mono (Xm aPs)) hT hB rfl rfl h0 rfl (by simp) rfl (λ_ h=>by cases h) (λ_ h=>by cases h);rw[hvis,Gx.run_shape (t:=(⟨(j:Int),mo,rm,pln L⟩:Tre)) hT (by show 0<(pln L).length;rw[Qd];exact h0)]at h9;exact h9)) rfl (λ_ _=>aU5 ?_)
 exact Qj (rs:=[.tmp 2,.tmp 3]) rfl (.tmp rfl (.tmp rfl (.nil))) (λw' h'=>⟨by rw[QbQ (t:=(⟨(j:Int),mo,rm,pln L⟩:Tre)) (show ZX (pln L) _ (pln L).length 0=none from by rw[Qd];exact hnone)];rfl,h'.below⟩)
end Go.Proofs
