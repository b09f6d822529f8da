/- Contracts of the program's functions, proved by walking them with the rules of the Gx texts; without conditions beyond those that each contract names. -/
import Derived.WalkKit
import Derived.Deep.Draws
import Derived.TacticsIn
import Derived.OrdersIn
import Derived.RangeFuncLeaves
import Derived.Lib.Strings
import Derived.Laws.BytesArg
import Derived.Laws.IdiomStrings
import Derived.Deep.Quiet
import Derived.ProofKit
import Derived.OpenShut
import Derived.Laws.StructEq
import Derived.ChangeKeysEq
import Derived.Laws.Externs
import Derived.Lib.Overlaps
import Derived.Carry
import Derived.Laws.Small
import Derived.Lib.Bytealg
import Derived.Lib.Builder
import Derived.Laws.Pointers
import Derived.RangeFuncRecord
import Derived.Test.YtpkhkcchibbhmaaGreatDoorProg
import Derived.KernelRfl
import Derived.Test.YtpkhkcchibbhmaaGreatDoorTie
import Derived.Test.YtpkhkcchibbhmaaGreatDoorCards
import Derived.SevenTiedAt
import Derived.LaidMore
import Derived.Lay
import Derived.Stop.Joined
import Derived.Test.YtpkhkcchibbhmaaGreatDoorP0
set_option linter.unusedSimpArgs false
set_option maxHeartbeats 1000000
set_option linter.unusedVariables false
set_option linter.unusedSectionVars false
set_option linter.unnecessarySimpa false
namespace Gx
open Go Go.RowKit
section
variable{S:Type}(st:S->Vis->S)(er:S->Vis->Int×Int)
def XI:S->List Vis->(Int×Int)×S
 | s,[]=>((0,0),s)
 | s,v::vs=>if(er s v).2=0 then XI (st s v) vs else(er s v,st s v)
theorem Qcs:∀(A B:List Vis)(s:S),XI st er s (A++B)=if(XI st er s A).1.2=0 then XI st er (XI st er s A).2 B else XI st er s A
 | [],B,s=>rfl
 | v::A,B,s=>by
  rw[List.cons_append,XI,XI]
  by_cases h:(er s v).2=0
  ·simp_all[Qcs]
  grind
theorem Qpd{A B:List Vis}{s:S}(h:¬(XI st er s A).1.2=0):XI st er s (A++B)=XI st er s A:=by rw[Qcs,if_neg h]
theorem Qnt{A B:List Vis}{s:S}(h:(XI st er s A).1.2=0):XI st er s (A++B)=XI st er (XI st er s A).2 B:=by rw[Qcs,if_pos h]
theorem QpS:∀{A:List Vis}{s:S},(XI st er s A).1.2=0->(XI st er s A).1=(0,0)
 | [],s,_=>rfl
 | v::A,s,h=>by
  rw[XI]at h ⊢;split at h
  ·simp_all[QpS]
  grind
end
def XW(ns:List Nd)(v:Vis)(k:Nat):Vis:=⟨((nth ns v.i).cs.getD k 0).toNat,v.d+1,loK (nth ns v.i).es k v.lo,hiK (nth ns v.i).es k v.hi⟩
def Qbq(ns:List Nd)(f:Nat)(v:Vis)(k:Nat):List Vis:=v::(List.range k).flatMap λk=>vis ns f (XW ns v k)
theorem QlL(ns:List Nd)(f:Nat)(v:Vis):Qbq ns f v 0=[v]:=rfl
theorem XZ(ns:List Nd)(f:Nat)(v:Vis)(k:Nat):Qbq ns f v (k+1)=Qbq ns f v k++vis ns f (XW ns v k):=by
 unfold Qbq;rw[List.range_succ,List.flatMap_append,List.flatMap_singleton];rfl
theorem Zr(ns:List Nd)(f:Nat)(v:Vis):vis ns (f+1) v=Qbq ns f v (nth ns v.i).cs.length:=rfl
theorem Qbw(ns:List Nd)(f:Nat)(v:Vis){k m:Nat}(h:k<=m):∃B,Qbq ns f v m=Qbq ns f v k++B:=by
 induction m with
 | zero=>simp_all
 | succ m ih=>
  rcases Nat.lt_or_ge m k with h1|h1
  ·obtain rfl:k=m+1:=by omega
   simp_all
  grind[vis,XW,XZ]
theorem Qd1{ns:List Nd}{i:Nat}{P:List Nat}(h:Way ns (i::P))(hi:i<ns.length){k:Nat}(hk:k<(nth ns i).cs.length)(hc:0<=(nth ns i).cs.getD k 0):Way ns (((nth ns i).cs.getD k 0).toNat::i::P):=by
 refine⟨⟨?_,hi⟩,h⟩
 grind
theorem QgE{co:Int}{ns:List Nd}(ht:TOk co ns){i k:Nat}(hi:i<ns.length)(hk:k<(nth ns i).cs.length):1<=(nth ns i).cs.getD k 0/\(nth ns i).cs.getD k 0<=(ns.length:Int)-1/\(nth ns ((nth ns i).cs.getD k 0).toNat).us=true:=by
 have hm:(nth ns i).cs.getD k 0∈(nth ns i).cs:=by grind
 have h:=ht.kid i hi _ hm
 grind
structure Bd(ns:List Nd):Prop where
 len:ns.length<=1000
 es:∀i,i<ns.length->(nth ns i).es.length<=1000
 cs:∀i,i<ns.length->(nth ns i).cs.length<=1000
theorem Qe(L:List LNd):(pln L).length=L.length:=by simp
theorem Q0{L:List LNd}{i:Nat}(h:i<L.length):nth (pln L) i=(nth L i).pl:=by simp_all[YW,Z7]
theorem Qeg(L M:List LNd):pln (L++M)=pln L++pln M:=by simp
def QaD(w:World)(M:List Nat)(p:Option Addr)(o:Option (List UInt8)):Prop:=match o with
 | none=>p=none
 | some k=>∃b off,p=some ⟨b,off,none⟩/\Rd w M b off (.string (bs k))
theorem QaD.keep{w w':World}{M:List Nat}{As:List HA}{p:Option Addr}{o:Option (List UInt8)}(h:QaD w M p o)(hs:HS w M As w'):QaD w' (fps As) p o:=by
 cases o with
 | none=>exact h
 | some k=>
  obtain⟨b,off,e,hr⟩:=h;exact⟨b,off,e,hs.keep hr⟩
theorem QaD.mono{w:World}{M M':List Nat}{p:Option Addr}{o:Option (List UInt8)}(h:QaD w M p o)(hM:∀b∈M',b∈M):QaD w M' p o:=by
 cases o with
 | none=>exact h
 | some k=>
  obtain⟨b,off,e,hr⟩:=h;exact⟨b,off,e,hr.mono hM⟩
theorem QaD.of_some{w:World}{M:List Nat}{p:Option Addr}{o:Option (List UInt8)}(h:QaD w M p o)(hp:p.isSome=true):∃k b off,o=some k/\p=some ⟨b,off,none⟩/\Rd w M b off (.string (bs k)):=by
 cases o with
 | none=>
  have:p=none:=h
  grind
 | some k=>
  obtain⟨b,off,e,hr⟩:=h
  grind
theorem QaD.of_none{w:World}{M:List Nat}{p:Option Addr}{o:Option (List UInt8)}(h:QaD w M p o)(hp:p.isSome=false):o=none:=by
 cases o with
 | none=>rfl
 | some k=>
  obtain⟨b,off,e,hr⟩:=h;subst e;cases hp
theorem Xb{As Cs Ds:List HA}(h:Qbd As Cs Ds):∀b∈fps Cs,b∈fps As:=λb hb=>by
 obtain⟨A,hA,hb⟩:=List.mem_flatMap.1 hb;exact List.mem_flatMap.2 ⟨A,(List.Perm.mem_iff h).2 (List.mem_append_left _ hA),hb⟩
theorem HS.rd_blkF{w0 w:World}{M:List Nat}{As Cs Ds Es:List HA}{b i t tot:Nat}{cs:List Value}{v:Value}(h:HS w0 M As w)(hp:Qbd As Cs Ds)(hp2:QP Ds (.blk b t tot cs) Es)(hv:cs[i]?=some v):Rd w (fps Cs) b i v:=by
 have h1:HS w0 M (Cs++Ds) w:=h.perm hp;refine⟨(h1.ok _ (List.mem_append_right _ hp2.mem)|>Q5.lt),λhb=>?_,Q5.cell (h1.ok _ (List.mem_append_right _ hp2.mem)) hv⟩;obtain⟨A,hA,hb⟩:=List.mem_flatMap.1 hb;exact(List.pairwise_append.1 h1.sep).2.2 A hA _ hp2.mem b hb (List.mem_singleton.2 rfl)
section
variable(t:Tre)(i:Nat)
def nE1:Int:=if((nth t.ns i).es.length:Int)<=YY t.mo t.rm i then if(nth t.ns i).cs.length=0\/(nth t.ns i).cs.length=(nth t.ns i).es.length+1 then 0 else 10 else 16
def nE2:Int:=if nE1 t i=0 then ZP t.co (nth t.ns i).es else nE1 t i
def nE3(seen:List Int):Int×List Int:=if nE2 t i=0 then X5 t.ns (nth t.ns i).cs seen else(nE2 t i,seen)
def nE4(seen:List Int):Int:=if(nE3 t i seen).1=0 then Qa8 t.co (nth t.ns i).es else(nE3 t i seen).1
theorem QoO{seen:List Int}(h:(nth t.ns i).us=true):XQ t i seen=(nE4 t i seen,(nE3 t i seen).2):=by
 unfold XQ nE4 nE3 nE2 nE1
 grind
theorem QwK(h:nE2 t i=0):ZP t.co (nth t.ns i).es=0:=by grind[nE2]
theorem Qwt{seen:List Int}(h:(nE3 t i seen).1=0):nE2 t i=0:=by grind[nE3]
end
def Qdm(ns:List Nd)(c:Int):Prop:=(1<=c/\c<=(ns.length:Int)-1)/\(nth ns c.toNat).us=true
instance(ns:List Nd)(c:Int):Decidable (Qdm ns c):=inferInstanceAs (Decidable (_/\_))
def QcD(ns:List Nd)(c:Int)(seen:List Int):Int:=if Qdm ns c then if c∈seen then 23 else 0 else 6
def QeA(ns:List Nd)(c:Int)(seen:List Int):List Int:=if Qdm ns c then c::seen else seen
theorem QbO(ns:List Nd)(c:Int)(cs seen:List Int):X5 ns (c::cs) seen=if QcD ns c seen=0 then X5 ns cs (QeA ns c seen)else(QcD ns c seen,QeA ns c seen):=by grind[QcD,QeA,X5,Qdm,nth]
theorem Qda{cs:List Int}{k:Nat}(h:k<cs.length):cs.drop k=cs.getD k 0::cs.drop (k+1):=by simp_all
theorem QcF{co:Int}{es:List TEnt}{k:Nat}(h:k<es.length):(es.map (Y5 co)).getD k 0=Y5 co (nth es k):=by
 rw[Qcz (d:=default) h];rfl
theorem Qcj{co:Int}{es:List TEnt}{k:Nat}(h:k<es.length):((List.range es.length).map (Qbc co es)).getD k 0=Qbc co es k:=by grind
theorem Qd2{co:Int}{x:TEnt}(h:Y5 co x=0):QZ co x.key=true:=by grind[Y5,Yh]
theorem QnL{co:Int}{k:List UInt8}(h:QZ co k=true):1<=k.length/\k.length<=40:=by grind[QZ]
theorem HS.thenF{w w1 w2:World}{M:List Nat}{As Bs:List HA}(h:HS w M As w1)(hc:HS w1 (fps As) Bs w2):HS w M Bs w2:=by
 have h1:HS w M (As++[]) w1:=by rw[List.append_nil];exact h
 have h2:=h1.callM (Mc:=fps As) (λb hb=>by obtain⟨A,hA,hb⟩:=List.mem_flatMap.1 hb;exact⟨A,hA,hb⟩) hc
 grind
def Qhu(cs:List Int)(n:Int):List Bool:=cs.map λc=>decide (n=c)
theorem Qcp(cs:List Int)(n:Int):(Qhu cs n).length=cs.length:=by simp[Qhu]
theorem QkX{cs:List Int}{n:Int}{k:Nat}(h:k<cs.length):(Qhu cs n).getD k false=decide (n=cs.getD k 0):=by grind[Qhu,Qcz]
theorem QqK(cs:List Int)(n:Int):(Qhu cs n).any id=decide (n∈cs):=by
 unfold Qhu;rw[List.any_map]
 grind
def Qaf(t:Tre)(v:Vis):Bool:=decide (0<v.i)&&(decide (((nth t.ns v.i).es.length:Int)<t.mo/2)||((decide ((nth t.ns 0).es.length=0)&&decide ((v.i:Int)∈(nth t.ns 0).cs))&&decide (((nth t.ns v.i).es.length:Int)<=t.rm)))
def QaB(t:Tre)(v:Vis)(x:TEnt):Bool:=(v.lo.any λb=>decide (0<=Xt t.co b x.key))||(v.hi.any λb=>decide (0<=Xt t.co x.key b))
def ZC(t:Tre)(v:Vis):Bool:=(nth t.ns v.i).es.any (QaB t v)
def erV(t:Tre)(s:Int)(v:Vis):Int×Int:=((v.i:Int),if Qaf t v=true then 14 else if ZC t v=true then 9 else if(nth t.ns v.i).cs.length=0 then(if(if s=0 then v.d else s)=v.d then 0 else 22)else 0)
def stV(t:Tre)(s:Int)(v:Vis):Int:=if Qaf t v=true then s else if ZC t v=true then s else if(nth t.ns v.i).cs.length=0 then(if s=0 then v.d else s)else s
theorem QcZ(t:Tre)(deep:Int)(v:Vis):QdX t deep v=if Qaf t v=true then 14 else if ZC t v=true then 9 else if(nth t.ns v.i).cs.length=0/\v.d≠deep+1 then 22 else 0:=by
 unfold QdX;simp only[];have h:Qaf t v=true ↔ (0<v.i/\(((nth t.ns v.i).es.length:Int)<t.mo/2\/((nth t.ns 0).es.length=0/\(v.i:Int)∈(nth t.ns 0).cs)/\((nth t.ns v.i).es.length:Int)<=t.rm)):=by grind[Qaf]
 by_cases h1:Qaf t v=true
 ·grind
 ·rw[if_neg (λh2=>h1 (h.2 h2)),if_neg h1];rfl
theorem QhU(t:Tre):∀(vs:List Vis)(s:Int),s≠0->(XI (stV t) (erV t) s vs).1=X7 t (s-1) vs
 | [],s,_=>rfl
 | v::vs,s,hs=>by
  have he:(erV t s v).2=QdX t (s-1) v:=by grind[QcZ,erV,Qaf,ZC,nth]
  have hst:stV t s v=s:=by grind[stV]
  rw[XI,X7,he,hst];split
  ·exact QhU t vs s hs
  grind[erV]
theorem QhH{t:Tre}(hT:TOk t.co t.ns)(h0:0<t.ns.length)(deep:Int):∀(f:Nat)(v:Vis)(P:List Nat)(rest:List Vis),Gx.Way t.ns (v.i::P)->P.length+f=t.ns.length->1<=v.d->deep+1=v.d+Za t.ns f v.i->(XI (stV t) (erV t) 0 (vis t.ns f v++rest)).1=X7 t deep (vis t.ns f v++rest)
 | 0,v,P,rest,hw,hf,_,_=>by
  have:=QbV hT h0 hw
  grind
 | f+1,v,P,rest,hw,hf,hd,he=>by
  have hi:=QdC hT h0 hw v.i (List.mem_cons_self ..);rw[Za]at he;rw[vis,List.cons_append,XI,X7,QcZ]
  by_cases h1:Qaf t v=true
  ·grind[erV]
  ·rw[if_neg h1]
   by_cases h2:ZC t v=true
   ·grind[erV]
   ·rw[if_neg h2]
    by_cases h3:(nth t.ns v.i).cs.length=0
    ·grind[erV,stV,nth,QhU]
    ·rw[if_neg h3]at he;have e1:(erV t 0 v).2=0:=by unfold erV;simp only[if_neg h1,if_neg h2,if_neg h3]
     have e2:stV t 0 v=0:=by unfold stV;rw[if_neg h1,if_neg h2,if_neg h3]
     have hk:=QgE hT hi (k:=0) om;have e3:(if(nth t.ns v.i).cs.length=0/\v.d≠deep+1 then(22:Int)else 0)=0:=if_neg (λh5=>h3 h5.1);rw[e1,if_pos rfl,e2,e3,if_pos rfl];obtain⟨m,hm⟩:∃m,(nth t.ns v.i).cs.length=m+1:=⟨(nth t.ns v.i).cs.length-1,om⟩;rw[hm,List.range_succ_eq_map,List.flatMap_cons,List.append_assoc];refine QhH hT h0 deep f _ (v.i::P) _ (Qd1 hw hi om om) (by simp only[List.length_cons];omega) (by show 1<=v.d+1;omega) ?_
     grind
theorem run_shape{t:Tre}(hT:TOk t.co t.ns)(h0:0<t.ns.length):(XI (stV t) (erV t) 0 (YV t.ns)).1=X7 t (Za t.ns t.ns.length 0) (YV t.ns):=by
 have h:=QhH hT h0 (Za t.ns t.ns.length 0) t.ns.length Qcr [] [] rfl (by simp) (by decide) (by show _=1+_;rw[show Qcr.i=0 from rfl];omega);rw[List.append_nil]at h;exact h
def Qhs(s:List Bool)(v:Vis):List Bool:=s.set v.i true
theorem Qmo:∀(vs:List Vis)(s:List Bool),(XI Qhs (λ_ _=>(0,0)) s vs).1=(0,0)/\(XI Qhs (λ_ _=>(0,0)) s vs).2.length=s.length/\∀i,i<s.length->(XI Qhs (λ_ _=>(0,0)) s vs).2.getD i false=(s.getD i false||decide (i∈vs.map Vis.i))
 | [],s=>⟨rfl,rfl,λi _=>by simp[XI]⟩
 | v::vs,s=>by
  obtain⟨h1,h2,h3⟩:=Qmo vs (Qhs s v)
  grind[XI,Qhs,hi]
theorem Qjz{S:Type}{st:S->Vis->S}{er:S->Vis->Int×Int}{I:S->Prop}(hI:∀s v,I s->I (st s v)):∀(vs:List Vis)(s:S),I s->I (XI st er s vs).2
 | [],s,h=>h
 | v::vs,s,h=>by
  rw[XI];split
  ·simp_all[Qjz]
  ·exact hI _ _ h
def KOk(co:Int)(o:Option (List UInt8)):Prop:=∀k,o=some k->QZ co k=true/\k.length<=1000000
theorem Qd4{co:Int}{ns:List Nd}(hT:TOk co ns){i:Nat}(hi:i<ns.length):∀x∈(nth ns i).es,QZ co x.key=true/\x.key.length<=1000000:=λx hx=>by
 have h:=Qd2 (hT.ents i hi x hx)
 grind[QnL]
theorem Qgg{co:Int}{ns:List Nd}(hT:TOk co ns){v:Vis}(hi:v.i<ns.length){k:Nat}(hk:k<=(nth ns v.i).es.length)(h:KOk co v.lo):KOk co (XW ns v k).lo:=by
 intro x hx;unfold XW loK at hx;simp only[]at hx;split at hx
 ·grind[Qd4,hi,Qy]
 ·exact h x hx
theorem Qg2{co:Int}{ns:List Nd}(hT:TOk co ns){v:Vis}(hi:v.i<ns.length){k:Nat}(h:KOk co v.hi):KOk co (XW ns v k).hi:=by
 intro x hx;unfold XW hiK at hx;simp only[]at hx;split at hx
 ·grind[Qd4,hi,Qy]
 ·exact h x hx
def Qb5(t:Tre):Int×Int:=match QaC t.ns ((YV t.ns).map Vis.i) t.ns.length 0 with
 | some i=>((i:Int),21)
 | none=>X7 t (Za t.ns t.ns.length 0) (YV t.ns)
theorem QlD{t:Tre}{deep:Int}:∀{vs:List Vis},(X7 t deep vs).2=0->X7 t deep vs=(0,0)
 | [],_=>rfl
 | v::vs,h=>by
  rw[X7]at h ⊢;split at h
  ·simp_all[QlD]
  grind
theorem Qmw{t:Tre}(h:(Qb5 t).2=0):(Qb5 t).1=0:=by grind[Qb5,QlD]
def Zl(n:Nat):Int:=if 0<n then if n<=120 then 0 else 8 else 10
theorem QcW{t:Tre}(h:¬(if Qv t.co=0 then XF t.mo t.rm else Qv t.co)=0):Yw t=(0,if Qv t.co=0 then XF t.mo t.rm else Qv t.co):=by grind[Yw,Qv,XF]
theorem Qit{t:Tre}(h:(if Qv t.co=0 then XF t.mo t.rm else Qv t.co)=0):Qv t.co=0/\XF t.mo t.rm=0:=by grind
theorem QpU{mo rm:Int}(h:XF mo rm=0):(3<=mo/\mo<=8)/\(mo/2<=rm/\rm<=mo):=by grind[XF]
theorem Qek{t:Tre}(h:(if Qv t.co=0 then XF t.mo t.rm else Qv t.co)=0)(h2:¬Zl t.ns.length=0):Yw t=(0,Zl t.ns.length):=by grind[Qit,Yw,Zl]
theorem QlB{n:Nat}(h:Zl n=0):0<n/\n<=120:=by grind[Zl]
theorem QeU{t:Tre}(h:(if Qv t.co=0 then XF t.mo t.rm else Qv t.co)=0)(h2:Zl t.ns.length=0):Yw t=if(X6 t t.ns.length 0 []).2=0 then Qb5 t else X6 t t.ns.length 0 []:=by
 obtain⟨h3,h4⟩:=Qit h;obtain⟨h5,h6⟩:=QlB h2;unfold Yw;rw[if_pos h3,if_pos h4,if_pos h5,if_pos h6];rfl
theorem Qjc{t:Tre}(h:(Yw t).2=0):Qv t.co=0/\XF t.mo t.rm=0/\0<t.ns.length/\t.ns.length<=120/\(X6 t t.ns.length 0 []).2=0/\(Qb5 t).2=0/\Yw t=(0,0):=by
 by_cases h1:(if Qv t.co=0 then XF t.mo t.rm else Qv t.co)=0
 ·grind[Zl,QeU,Qit,QlB,Qmw,Qek]
 grind[QcW]
theorem Qrd{l:List Bool}{k:Nat}(h:k<l.length):(l.map Value.bool)[k]?=some (.bool (l.getD k false)):=by grind
theorem Qhm{t:Tre}{k:Nat}{seen:List Int}(h:k<t.ns.length):X6 t (t.ns.length-k) k seen=if(XQ t k seen).1=0 then X6 t (t.ns.length-(k+1)) (k+1) (XQ t k seen).2 else((k:Int),(XQ t k seen).1):=by
 rw[show t.ns.length-k=t.ns.length-(k+1)+1 by omega,X6]
theorem QhK{ns:List Nd}{below:List Nat}{k:Nat}(h:k<ns.length):QaC ns below (ns.length-k) k=if(nth ns k).us=true/\k ∉ below then some k else QaC ns below (ns.length-(k+1)) (k+1):=by
 rw[show ns.length-k=ns.length-(k+1)+1 by omega,QaC]
theorem QdL{t:Tre}{i:Nat}(h:QaC t.ns ((YV t.ns).map Vis.i) t.ns.length 0=some i):Qb5 t=((i:Int),21):=by
 unfold Qb5;rw[h]
theorem QdN{t:Tre}(h:QaC t.ns ((YV t.ns).map Vis.i) t.ns.length 0=none):Qb5 t=X7 t (Za t.ns t.ns.length 0) (YV t.ns):=by
 unfold Qb5;rw[h]
theorem Qpw{L:List LNd}{k:Nat}(hk:k<L.length){D:List LNd}(hD:pln D=(pln L).take k){x:LNd}(hx:x.pl=(nth L k).pl):pln (D++[x])=(pln L).take (k+1):=by
 rw[Qeg,hD,List.take_succ_eq_append_getElem (by rw[Qe];exact hk)]
 simp_all[pln,Qe,nth,YW,Q0]
end Gx
namespace Gx
open Go Go.RowKit
section
variable{P:Program}{o:Oper}{L:Qc}{w0:World}{M:List Nat}{As As':List HA}
def Qrw(P:Program)(t te:TypeId):Prop:=P.underlying t=some (.pointer te)/\∃j,P.info? te=some j/\j.size≠0
theorem Qm8{t te:TypeId}{n:Nat}{b:Bool}(h:P.underlying t=some (.pointer te))(h2:tsz P te=some (n,b))(hn:n≠0):Qrw P t te:=by
 refine⟨h,?_⟩
 grind[tsz,hi]
theorem ptee{t te:TypeId}(h:P.underlying t=some (.pointer te)):P.underlying t=some (.pointer (P.pointee t)):=by
 rw[h];simp[Program.pointee,h]
theorem Qia{t t' te:TypeId}{x y:Operand}{p:Option Addr}(ho:o.op=.binOp .eql t x y t')(hx:ev L x=some (.pointer p))(hy:ev L y=some (.pointer none))(ht:Qrw P t te):OpP P o L (.bool p.isNone):=by
 intro ρ w hρ;have hg:(eqGuard .eql t x y (.pointer p) (.pointer none)).run P w=.ok () w:=by unfold eqGuard;simp
 simp only[execOp,ho,hρ _ _ hx,hρ _ _ hy,Sem.run_bind,hg,run_eql_pointer_nil w t p (ptee ht.1),Result.andThen_ok,Sem.run_pure]
theorem QcL{t t' te:TypeId}{x y:Operand}{p:Option Addr}(ho:o.op=.binOp .neq t x y t')(hx:ev L x=some (.pointer p))(hy:ev L y=some (.pointer none))(ht:Qrw P t te):OpP P o L (.bool p.isSome):=by
 intro ρ w hρ;have hg:(eqGuard .neq t x y (.pointer p) (.pointer none)).run P w=.ok () w:=by unfold eqGuard;simp
 have h:=run_neq_pointer_nil w t p (ptee ht.1);simp only[execOp,ho,hρ _ _ hx,hρ _ _ hy,Sem.run_bind,hg,h,Result.andThen_ok,Sem.run_pure];cases p<;>rfl
end
end Gx
namespace Gx
open Go Go.RowKit
theorem Rw.cut{α:Type}[Inhabited α]{vals:α->List Value}{sz:Nat}{w:World}{M:List Nat}{a:Option Addr}{l:List α}(h:Rw vals sz w M a l){cap i:Nat}(hc:l.length<=cap):Rw vals sz w M (XU a cap i sz) (l.drop i):=
 ⟨λhn=>by
  rw[List.length_drop]at hn;obtain⟨b,o,rfl,h2⟩:=h.at_ om;refine⟨b,o+i*sz,?_,λj hj=>?_⟩
  ·unfold XU;rw[if_neg om];simp[XE]
  ·rw[List.length_drop]at hj;have e:nth (l.drop i) j=nth l (i+j):=YW (by rw[List.getElem?_drop];exact Z7 om);have h3:=h2 (i+j) om;simp only[e];refine⟨h3.1,λq v hv=>?_⟩;have h4:=h3.2 q v hv;rw[show o+(i+j)*sz+q=o+i*sz+j*sz+q by rw[Nat.add_mul];omega]at h4;exact h4⟩
def Sm(m:Nat)(ns:List Nd):Prop:=∀k,(nth ns k).es.length<=m/\(nth ns k).cs.length<=m
theorem Z9{α:Type}[Inhabited α]{l:List α}{k:Nat}(h:l.length<=k):nth l k=default:=by grind[nth]
end Gx
namespace Gx
open Go Go.RowKit
def HA.obj(b:Nat)(o:Obj):HA:=⟨[b],λw=>w.heap[b]?=some o,λw w' h hk=>(h b (List.mem_singleton.2 rfl)).trans hk⟩
section
variable{w0 w:World}{M:List Nat}{As As':List HA}
theorem HS.allocObj(h:HS w0 M As w)(o:Obj):HS w0 M (.obj w.heap.size o::As) (w.alloc o):=h.alloc o _ rfl (World.alloc_heap_new w o)
theorem HS.obj_get{b:Nat}{o:Obj}(h:HS w0 M As w)(hp:QP As (.obj b o) As'):w.heap[b]?=some o:=h.ok _ hp.mem
theorem HS.putObj{b:Nat}{o:Obj}(h:HS w0 M As w)(hp:QP As (.obj b o) As')(o':Obj):HS w0 M (.obj b o'::As') (w.putObj b o'):=by
 have h1:=h.pick hp;have hb:w.heap[b]?=some o:=h1.head;have hlt:b<w.heap.size:=(Array.getElem?_eq_some_iff.1 hb).1;refine h1.swap (λ_ hx=>hx) rfl rfl rfl (by simp[World.putObj]) (λc hc=>World.putObj_heap_other (λe=>hc (by subst e;exact List.mem_singleton.2 rfl))) (World.putObj_heap_same hlt)
end
def Qi5(P:Program)(l:Nat)(args:Array Value)(w:World)(R:Ending->World->Prop):Prop:=
 ∃f tmps assign body,(Instr.yield l args).run P w=.ok (.round l f tmps assign body) w/\RoundIn Fence.wide 0 P l f tmps assign body w R
section
variable{P:Program}{o:Oper}{L:Qc}
theorem QsN{C:World->Prop}{G:Type}{V:G->Value}{F:G->Prop}{C':G->World->Prop}{x:Operand}{args:Array Operand}{vs:List Value}{ts:Array TypeId}{l:Nat}(ho:o.op=.call {callee:=.value x,args:=args,argTypes:=ts})(hx:ev L x=some (.func (.yield l) #[] #[]))
  (ha:evs L args.toList=some vs)(hy:∀w,C w->Qi5 P l vs.toArray w λe w'=>∃g,e=.returned (V g)/\F g/\C' g w'):OpH P o L C V F C':=by
 intro ρ w hρ hw;obtain⟨f,tmps,assign,body,hr,hR⟩:=hy w hw;have e1:args.map ρ=vs.toArray:=by rw[<-Qet hρ ha,<-List.map_toArray]
 unfold execOp;simp only[ho,resolve,Sem.run_bind,hρ _ _ hx,Deferred.ofValue,e1,Sem.run_pure,Result.andThen_ok,invoke,Array.empty_append,hr];exact RoundIn.mono hR λe w'⟨g,he,hf,hc⟩=>⟨V g,he,g,rfl,hf,hc⟩
end
def rdy(fid:FuncId)(tmps:Array Value)(ps:Array Tmp)(assign body:Code)(D:Nat):Loop:={state:=.ready,pending:=none,fn:=fid,tmps:=tmps,params:=ps,assign:=assign,body:=body,defers:=D}
section
variable{X:Ctx}{k:List KI}{L:Qc}{w0:World}{M:List Nat}{As As':List HA}
theorem Qjn{C:World->Prop}{l:Nat}(hrd:X.rd=some l)(h:∀w,C w->∃r,w.heap[l]?=some (.loop r)/\X.R (.returned (.bool true)) (w.putObj l (.loop {r with state:=.ready,pending:=none}))):S X [] L C:=by
 intro a w ha hw;show(match X.rd with|none=>bodyPostM X.F 0 X.P X.fn X.R .normal a w|some l=>roundPost X.P l X.R .normal a w);rw[hrd];obtain⟨r,h1,h2⟩:=h w hw;exact⟨_,_,run_endRound none h1,h2⟩
theorem Qqx{l D:Nat}{fid:FuncId}{tmps:Array Value}{ps:Array Tmp}{assign body:Code}(hrd:X.rd=some l)(hp:QP As (.obj l (.loop {rdy fid tmps ps assign body D with state:=.busy})) As')(h:∀w,HS w0 M (.obj l (.loop (rdy fid tmps ps assign body D))::As') w->X.R (.returned (.bool true)) w):S X [] L (HS w0 M As):=
 Qjn hrd λw hw=>⟨_,hw.obj_get hp,h _ (hw.putObj hp _)⟩
theorem QfA(d:List Nat):∀k,post {X with df:=d} k=post X k
 | []=>by funext e a w;rfl
 | Sum.inl c::k=>by funext e a w;cases e<;>simp only[post,QfA d k]
 | Sum.inr (Sum.inl id)::k=>by funext e a w;cases e<;>simp only[post,QfA d k]
 | Sum.inr (Sum.inr J)::k=>by funext e a w;cases e<;>simp only[post,QfA d k]
theorem QtY{g:Operand}{ps:Array Tmp}{assign body:Code}{gf:FuncId}{lb:Array Value}{G:Type}{Bs:G->List HA}(hrd:X.rd=none)(hdf:X.df=[])(hg:ev L g=some (.func (.func gf) #[] lb))(hfn:QK X.P gf=true)
  (hit:∀(fid:FuncId)(D l:Nat)(a:Act)(w1:World)(ob:Obj),ob=.loop (rdy fid a.tmps ps assign body D)->FR X.n [] L a->HS w0 M (.obj l ob::.obj D (.deferred (some []))::As) w1 ->
   Calls X.P gf (#[.func (.yield l) #[] #[]]++lb) w1 λe w2=>(∃v,e=.returned v)/\∃x,HS w0 M (.obj l ob::.obj D (.deferred (some []))::Bs x) w2)
  (next:∀D x,S {X with df:=[D]} k L (HS w0 M (.obj D (.deferred (some []))::Bs x))):S X (.c (.rangeFunc g ps assign body)::k) L (HS w0 M As):=by
 intro a w ha hw;have ha0:FR X.n [] L a:=by rw[<-hdf];exact ha
 refine wpIn_rangeFunc (F:=X.F) (n:=0) λfid _=>?_;have hro:X.F.round=none:=hrd;rw[hro];have hw1:=(hw.allocObj (.deferred (some []))).allocObj (.loop (rdy fid a.tmps ps assign body w.heap.size));rw[World.size_alloc]at hw1;have hen:=run_enterLoop_outer (P:=X.P) (w:=w) fid a.tmps ps assign body;obtain⟨W1,hW1⟩:∃W1,(w.alloc (.deferred (some []))).alloc (.loop (rdy fid a.tmps ps assign body w.heap.size))=W1:=⟨_,rfl⟩;rw[hW1]at hw1;rw[show(Loop.mk .ready none fid a.tmps ps assign body w.heap.size)=rdy fid a.tmps ps assign body w.heap.size from rfl,hW1]at hen
 refine⟨w.heap.size+1,[{target:=.collected w.heap.size,args:=#[]}],W1,{target:=.fn (.func gf) lb,args:=#[.func (.yield (w.heap.size+1)) #[] #[]]},W1,gf,
  #[.func (.yield (w.heap.size+1)) #[] #[]]++lb,W1,hen,?_,λ_ _=>trivial,?_,λh=>(by cases h),?_⟩
 ·simp only[resolve,ha.evl hg];simp[go_sem]
 ·simp[invoke,go_sem,Qeq hfn]
 ·refine CallsIn.mono (X.callsIn (hit fid _ _ a _ _ rfl ha0 hw1)) λe w2 he=>?_;obtain⟨⟨v,rfl⟩,x,hx⟩:=he;refine⟨none,_,run_endLoop (hx.obj_get .here) (by simp[rdy]),?_⟩;have h3:=next w.heap.size x {a with defers:=[{target:=.collected w.heap.size,args:=#[]}]++a.defers} _ ⟨by show _++a.defers=_;rw[ha0.defers];rfl,ha0.size,ha0.slot⟩ (hx.putObj .here (.loop {rdy fid a.tmps ps assign body w.heap.size with state:=.exhausted})).tail
  rw[QfA]at h3;exact h3
end
end Gx
namespace Gx
open Go Go.RowKit
theorem ZR{X:Ctx}{k:List KI}{L:Qc}{C:World->Prop}{α:Type}{c:Code}(md:List Nat)(Lm:α->Qc)(I:α->Prop)(h1:S X (.c c::.join (AtI X.n X.df (λx=>Lm x++Qdv md L) (λ_=>C) I)::k) L C)(h2:∀x,I x->S X k (Lm x++Qdv md L) C):S X (.c c::k) L C:=
 Ye md Lm (λ_=>C) I h1 h2
end Gx
namespace Gx
open Go Go.RowKit
section
variable{w0 w:World}{M:List Nat}{As As':List HA}{p:Prop}
theorem QuN{X:Ctx}{L:Qc}{D:Nat}(hr:X.fn.results= #[])(hp:QP As (.obj D (.deferred (some []))) As')(h:∀w,HS w0 M As' w->X.R (.returned (.tuple #[])) w)(hrd:X.rd=none:=by rfl)(hdf:X.df=[D]:=by rfl):S X [] L (HS w0 M As):=by
 intro a w ha hw;show(match X.rd with|none=>bodyPostM X.F 0 X.P X.fn X.R .normal a w|some l=>roundPost X.P l X.R .normal a w);rw[hrd];show LeavesInM X.F 0 X.P X.fn a.tmps X.R a.defers .returning w;rw[ha.defers,hdf];have h1:=(hw.putObj hp (.deferred none)).tail;exact⟨by simp,.inl ⟨D,_,rfl,run_takeDeferred (hw.obj_get hp),.tuple #[],results_none hr _ _ _,h _ h1⟩⟩
end
end Gx
namespace Gx
open Go Go.RowKit
abbrev iN(P:List Nat):List Int:=P.map λi:Nat=>(i:Int)
theorem Qgd(P:List Nat):(iN P).length=P.length:=by simp
section
variable{w0 w:World}{M:List Nat}{As As':List HA}{a:Option Addr}{cap:Nat}{P:List Nat}
theorem HS.kids_some{l:List Int}(hn:0<l.length)(h:HS w0 M As w)(hp:QP As (.kids a cap l) As'):∃g,a=some ⟨g,0,none⟩:=by
 obtain⟨g,e,_⟩:=HS.own_blk hn hp h;exact⟨g,e⟩
end
abbrev ownP(a:Option Addr)(c:Nat)(P:List Nat):HA:=.own (.slice a P.length c) 3 1 P.length (P.map λi:Nat=>Value.int .i64 (i:Int))
theorem QtT(l:List Nat):(iN l).flatMap inV=l.map λi:Nat=>Value.int .i64 (i:Int):=by
 induction l with
 | nil=>rfl
 | cons x l ih=>
  rw[iN,List.map_cons,List.flatMap_cons,List.map_cons,<-ih];rfl
theorem Qox(a:Option Addr)(c:Nat)(P:List Nat):HA.kids a c (iN P)=ownP a c P:=by
 unfold HA.kids;rw[QtT,Qgd]
section
variable{w0 w:World}{M:List Nat}{As A1 A2 A3:List HA}{a:Option Addr}{c:Nat}{P:List Nat}
theorem HS.pown_row(h:HS w0 M As w)(hp:QP As (ownP a c P) A1):Rw inV 1 w [] a (iN P):=by
 have h1:=h.pick hp;rw[<-Qox]at h1;exact h1.rw_own (l:=iN P) iv1 .here rfl
end
theorem Z4{α:Type}[Inhabited α]{l m:List α}(hl:l.length=m.length)(h:∀j,j<l.length->nth l j=nth m j):l=m:=by
 apply List.ext_getElem?
 grind[Z7]
def QeO(a b:List Nd)(k:Nat):List Nat:=(List.range k).filter λi=>decide (nth a i≠nth b i)
def QiV(a b:List Nd):List Nat:=QeO a b (max a.length b.length)
theorem Qti{a b:List Nd}{k:Nat}(h:nth a k=nth b k):QeO a b (k+1)=QeO a b k:=by
 unfold QeO;rw[List.range_succ,List.filter_append];simp[h]
theorem QtV{a b:List Nd}{k:Nat}(h:nth a k≠nth b k):QeO a b (k+1)=QeO a b k++[k]:=by
 unfold QeO;rw[List.range_succ,List.filter_append];simp[h]
theorem Qrq(a b:List Nd)(k:Nat):(QeO a b k).length<=k:=by
 have:=List.length_filter_le (λi=>decide (nth a i≠nth b i)) (List.range k);rw[List.length_range]at this;exact this
theorem Qi4{x y:TEnt}(h1:(bs x.key).data.toList=(bs y.key).data.toList)(h2:(bs x.val).data.toList=(bs y.val).data.toList):x=y:=by
 cases x
 simp_all
theorem Qu(L:List LNd)(k:Nat):nth (pln L) k=(nth L k).pl:=by
 rcases Nat.lt_or_ge k L.length with h|h
 ·exact Q0 h
 ·rw[Z9 (by rw[Qe];exact h),Z9 h];rfl
theorem Rw.nilR{α:Type}[Inhabited α]{vals:α->List Value}{sz:Nat}{w:World}{M:List Nat}{a:Option Addr}:Rw vals sz w M a ([]:List α):=⟨λh=>absurd h (Nat.lt_irrefl _)⟩
theorem Nt.esA{w:World}{M:List Nat}{a:Option Addr}{L:List LNd}(h:Nt w M a L)(k:Nat):Rw TEnt.vals 2 w M (nth L k).ea (nth L k).es:=by
 rcases Nat.lt_or_ge k L.length with hk|hk
 ·exact h.es hk
 ·rw[Z9 hk];exact Rw.nilR
theorem Nt.csA{w:World}{M:List Nat}{a:Option Addr}{L:List LNd}(h:Nt w M a L)(k:Nat):Rw inV 1 w M (nth L k).ca (nth L k).cs:=by
 rcases Nat.lt_or_ge k L.length with hk|hk
 ·exact h.cs hk
 ·rw[Z9 hk];exact Rw.nilR
theorem QwJ(n m:Nd):decide (n=m)=(decide (n.us=m.us)&&(decide (n.es=m.es)&&decide (n.cs=m.cs))):=by
 cases n;cases m
 grind
theorem Qka(n m:LNd):((n.us==m.us&&decide (n.es=m.es))&&decide (n.cs=m.cs))=decide (n.pl=m.pl):=by
 rw[QwJ,Bool.and_assoc];rfl
theorem keyE_ok{co:Int}{k:List UInt8}(h:Yh co k=0):QZ co k=true:=by grind[Yh]
theorem QrY{a b:List Nd}(h:a=b):QiV a b=[]:=by
 subst h;unfold QiV QeO;simp
end Gx
namespace Gx
open Go Go.RowKit
section
variable{X:Ctx}{ops:Array Oper}{F:List Nat}{fuel i:Nat}{listed:Array Bool}{k:List KI}{L:Qc}{d ty:Nat}{op:Op}{pos:String}{aft:Array Edge}{w0:World}{M:List Nat}{As Bs:List HA}
theorem Qui{B:World->Prop}{G:Type}{V:G->Value}{Fg:G->Prop}{C':G->World->Prop}{j:Nat}{want b:Bool}(i dj:Nat)(hi:ops[i]?=some ⟨some d,op,ty,pos,aft,some (j,want)⟩)(hj:(ops[j]?).bind (·.dst)=some dj)(hb:Qc.get L dj=some (.bool b))(hw:b=want)(h:OpH X.P ⟨some d,op,ty,pos,aft,none⟩ L (HS w0 M As) V Fg C')(hr:(Region.ready .any ops listed==[i])=true)(hB:∀w,HS w0 M As w->B w)(hd:Nat.blt d X.n=true)
  (next:∀g,Fg g->D X ops F B fuel (listed.setIfInBounds i true) k ((d,V g)::L) (C' g)):D X ops F B (fuel+1) listed k L (HS w0 M As):=by
 intro hcl a ha;have hy:yielded ops a.tmps j=some b:=by simp[yielded,hj,ha.slot _ _ hb]
 have hr':Region.ready .any ops listed=[i]:=by simpa using hr
 refine QfG hr' (λ_=>⟨hB,HS.stab _ _ _⟩) ?_;unfold Yu;simp only[hi];rw[if_pos (by simp[Region.wanted,hy,hw])];exact⟨G,V,Fg,C',λw hw=>h a.eval w ha.agr hw,λg hg=>next g hg (hcl.set (by rw[hr'];exact List.mem_singleton.2 rfl)) _ (ha.put d _ hd)⟩
end
class TFd(P:Program)(t f:Nat)(off ft:outParam Nat):Prop where h:tfd P t f=some (off,ft)
class TSz(P:Program)(t:Nat)(n:outParam Nat)(ag:outParam Bool):Prop where h:tsz P t=some (n,ag)
class TSe(P:Program)(t:Nat)(e:outParam Nat):Prop where h:P.underlying t=some (.slice e)
section
variable{X:Ctx}{ops:Array Oper}{rest:List Oper}{k:List KI}{L:Qc}{d ty:Nat}{pos:String}{aft:Array Edge}{C:World->Prop}
theorem oFa{st f x b i off ft sz:Nat}{ag:Bool}[h1:TFd X.P st f off ft][h2:TSz X.P ft sz ag](next:O X ops rest k ((d,.pointer (some ⟨b,i+off,none⟩))::L) C)(hx:Qc.get L x=some (.pointer (some ⟨b,i,none⟩)):=by rfl)(hs:Nat.blt 0 sz=true:=by rfl)(hd:Nat.blt d X.n=true:=by rfl) :
  O X ops (⟨some d,.fieldAddr st (.tmp x) f,ty,pos,aft,none⟩::rest) k L C:=o_p (QaI rfl hx h1.h h2.h hs) hd next
theorem oLs{t e x n cap:Nat}{a:Option Addr}[h1:TSe X.P t e](next:O X ops rest k ((d,.int .i64 n)::L) C)(hx:Qc.get L x=some (.slice a n cap):=by rfl)(hd:Nat.blt d X.n=true:=by rfl) :
  O X ops (⟨some d,.call {callee:=.builtin .len,args:=#[.tmp x],argTypes:=#[t]},ty,pos,aft,none⟩::rest) k L C:=o_p (QR (x:=.tmp x) rfl hx h1.h) hd next
theorem oLd{w0:World}{M:List Nat}{As As':List HA}{t x b tot i:Nat}{bt:TypeId}{cs:List Value}{v:Value}[h1:TSz X.P t 1 false](next:O X ops rest k ((d,v)::L) (HS w0 M As))(hx:Qc.get L x=some (.pointer (some ⟨b,i,none⟩)):=by rfl)(hp:QP As (.blk b bt tot cs) As':=by repeat (first|exact .here|apply QP.there))(hv:cs[i]?=some v:=by rfl)(hd:Nat.blt d X.n=true:=by rfl) :
  O X ops (⟨some d,.load t (.tmp x),ty,pos,aft,none⟩::rest) k L (HS w0 M As):=o_q (Yo rfl hx h1.h hp hv) hd next
theorem oLn{w0:World}{M:List Nat}{As As':List HA}{t x b tot i n:Nat}{bt:TypeId}{cs:List Value}[h1:TSz X.P t n true](next:O X ops rest k ((d,.agg (cut cs i n).toArray)::L) (HS w0 M As))(hx:Qc.get L x=some (.pointer (some ⟨b,i,none⟩)):=by rfl)(hp:QP As (.blk b bt tot cs) As':=by repeat (first|exact .here|apply QP.there))(hl:Nat.ble (i+n) cs.length=true:=by rfl)(hd:Nat.blt d X.n=true:=by rfl) :
  O X ops (⟨some d,.load t (.tmp x),ty,pos,aft,none⟩::rest) k L (HS w0 M As):=o_q (Zy rfl hx h1.h hp hl) hd next
end
section
variable{X:Ctx}{ops:Array Oper}{F:List Nat}{fuel:Nat}{listed:Array Bool}{k:List KI}{L:Qc}{d ty:Nat}{pos:String}{aft:Array Edge}{C B:World->Prop}{w0:World}{M:List Nat}{As As' Bs:List HA}
theorem dFa(i:Nat){st f x b o off ft sz:Nat}{ag:Bool}(next:D X ops F B fuel (listed.setIfInBounds i true) k ((d,.pointer (some ⟨b,o+off,none⟩))::L) C)(hi:ops[i]?=some ⟨some d,.fieldAddr st (.tmp x) f,ty,pos,aft,none⟩:=by rfl)(hx:Qc.get L x=some (.pointer (some ⟨b,o,none⟩)):=by rfl)(h1:TFd X.P st f off ft:=by infer_instance)(h2:TSz X.P ft sz ag:=by infer_instance)(hs:Nat.blt 0 sz=true:=by rfl)(hok:QV ops listed i=true:=by kernel_rfl)(hF:F.all (λf=>!Nat.beq f i)=true:=by rfl)(hd:Nat.blt d X.n=true:=by rfl):D X ops F B (fuel+1) listed k L C:=d_p i hi (QaI rfl hx h1.h h2.h hs) hok hF hd next
theorem dFo{j:Nat}{want c:Bool}(i dj:Nat){st f x b o off ft sz:Nat}{ag:Bool}(hw:c=want)(next:D X ops F B fuel (listed.setIfInBounds i true) k ((d,.pointer (some ⟨b,o+off,none⟩))::L) C)(hi:ops[i]?=some ⟨some d,.fieldAddr st (.tmp x) f,ty,pos,aft,some (j,want)⟩:=by rfl)(hj:(ops[j]?).bind (·.dst)=some dj:=by rfl)(hb:Qc.get L dj=some (.bool c):=by rfl)(hx:Qc.get L x=some (.pointer (some ⟨b,o,none⟩)):=by rfl)(h1:TFd X.P st f off ft:=by infer_instance)(h2:TSz X.P ft sz ag:=by infer_instance)(hs:Nat.blt 0 sz=true:=by rfl)(hok:QV ops listed i=true:=by kernel_rfl)(hF:F.all (λf=>!Nat.beq f i)=true:=by rfl)(hd:Nat.blt d X.n=true:=by rfl):D X ops F B (fuel+1) listed k L C:=Qny i dj hi hj hb hw (QaI rfl hx h1.h h2.h hs) hok hF hd next
theorem dPo{j:Nat}{want c:Bool}{op:Op}{v:Value}(i dj:Nat)(hw:c=want)(next:D X ops F B fuel (listed.setIfInBounds i true) k ((d,v)::L) C)(hi:ops[i]?=some ⟨some d,op,ty,pos,aft,some (j,want)⟩:=by rfl)(hj:(ops[j]?).bind (·.dst)=some dj:=by rfl)(hb:Qc.get L dj=some (.bool c):=by rfl)(h:OpP X.P ⟨some d,op,ty,pos,aft,none⟩ L v:=by exact Qar rfl)(hok:QV ops listed i=true:=by kernel_rfl)(hF:F.all (λf=>!Nat.beq f i)=true:=by rfl)(hd:Nat.blt d X.n=true:=by rfl):D X ops F B (fuel+1) listed k L C:=Qny i dj hi hj hb hw h hok hF hd next
theorem dOf{j:Nat}{want c:Bool}{op:Op}(i dj:Nat)(hw:c= !want)(next:D X ops F B fuel (listed.setIfInBounds i true) k ((d,undef)::L) C)(hi:ops[i]?=some ⟨some d,op,ty,pos,aft,some (j,want)⟩:=by rfl)(hj:(ops[j]?).bind (·.dst)=some dj:=by rfl)(hb:Qc.get L dj=some (.bool c):=by rfl)(hok:QV ops listed i=true:=by kernel_rfl)(hF:F.all (λf=>!Nat.beq f i)=true:=by rfl)(hd:Nat.blt d X.n=true:=by rfl):D X ops F B (fuel+1) listed k L C:=Qud i dj hi hj hb hw hok hF hd next
theorem dOu{j:Nat}{want:Bool}{op:Op}(i dj:Nat)(next:D X ops F B fuel (listed.setIfInBounds i true) k ((d,undef)::L) C)(hi:ops[i]?=some ⟨some d,op,ty,pos,aft,some (j,want)⟩:=by rfl)(hj:(ops[j]?).bind (·.dst)=some dj:=by rfl)(hb:Qc.get L dj=some undef:=by rfl)(hok:QV ops listed i=true:=by kernel_rfl)(hF:F.all (λf=>!Nat.beq f i)=true:=by rfl)(hd:Nat.blt d X.n=true:=by rfl):D X ops F B (fuel+1) listed k L C:=Qp0 i dj hi hj hb hok hF hd next
theorem dNi(next:S X k L (HS w0 M As))(hB:∀w,HS w0 M As w->B w:=by(intro w h;first|exact h|exact h.ent aEt))(hr:(Region.ready .any ops listed==[])=true:=by kernel_rfl):D X ops F B 0 listed k L (HS w0 M As):=Qul hr hB next
theorem dBa(next:D X ops F (HS w0 M As) fuel listed k L (HS w0 M As))(hB:∀w,HS w0 M As w->B w:=by(intro w h;exact h.ent aEt)):D X ops F B fuel listed k L (HS w0 M As):=Qvd hB next
theorem dLd(i:Nat)(ps:List (List Nat)){t x b tot o:Nat}{bt:TypeId}{cs:List Value}{v:Value}(next:D X ops F (HS w0 M Bs) fuel (listed.setIfInBounds i true) k ((d,v)::L) C)(hi:ops[i]?=some ⟨some d,.load t (.tmp x),ty,pos,aft,none⟩:=by rfl)(hx:Qc.get L x=some (.pointer (some ⟨b,o,none⟩)):=by rfl)(h1:TSz X.P t 1 false:=by infer_instance)(hp:QP Bs (.blk b bt tot cs) As':=by repeat (first|exact .here|apply QP.there))(hv:cs[o]?=some v:=by rfl)(hok:QV ops listed i=true:=by kernel_rfl)(hF:Yf ops F i ps=true:=by kernel_rfl)(hn:Qax F listed=true:=by kernel_rfl)(hd:Nat.blt d X.n=true:=by rfl):D X ops F (HS w0 M Bs) (fuel+1) listed k L C:=d_q i ps hi (Yo rfl hx h1.h hp hv) hok hF hn hd next
theorem dLn(i:Nat)(ps:List (List Nat)){t x b tot o n:Nat}{bt:TypeId}{cs:List Value}(next:D X ops F (HS w0 M Bs) fuel (listed.setIfInBounds i true) k ((d,.agg (cut cs o n).toArray)::L) C)(hi:ops[i]?=some ⟨some d,.load t (.tmp x),ty,pos,aft,none⟩:=by rfl)(hx:Qc.get L x=some (.pointer (some ⟨b,o,none⟩)):=by rfl)(h1:TSz X.P t n true:=by infer_instance)(hp:QP Bs (.blk b bt tot cs) As':=by repeat (first|exact .here|apply QP.there))(hl:Nat.ble (o+n) cs.length=true:=by rfl)(hok:QV ops listed i=true:=by kernel_rfl)(hF:Yf ops F i ps=true:=by kernel_rfl)(hn:Qax F listed=true:=by kernel_rfl)(hd:Nat.blt d X.n=true:=by rfl):D X ops F (HS w0 M Bs) (fuel+1) listed k L C:=d_q i ps hi (Zy rfl hx h1.h hp hl) hok hF hn hd next
end
section
variable{X:Ctx}{ops:Array Oper}{F:List Nat}{fuel:Nat}{listed:Array Bool}{rest:List Oper}{k:List KI}{L:Qc}{d ty:Nat}{pos:String}{aft:Array Edge}{w0:World}{M:List Nat}{As As':List HA}
theorem oSt{t x b tot i n:Nat}{y:Operand}{bt:TypeId}{ag:Bool}{cs:List Value}{v:Value}[hs:TSz X.P t n ag](next:O X ops rest k L (HS w0 M As'))(hx:Qc.get L x=some (.pointer (some ⟨b,i,none⟩)):=by rfl)(hy:ev L y=some v:=by rfl)(hn:v.cells.toList.length=n:=by rfl)
  (hp:Put As (.blk b bt tot cs) (.blk b bt tot (Qi cs i v.cells.toList)) As':=by repeat (first|exact .here|apply Put.there))(hl:i+n<=cs.length:=by(simp only[Qf,List.length_set,List.length_cons,List.length_nil,List.length_map];omega))(h1:v.cells.toList.all (·.oneCell')=true:=by rfl) :
  O X ops (⟨none,.store t (.tmp x) y,ty,pos,aft,none⟩::rest) k L (HS w0 M As):=Qkv (Qb1 rfl hx hy hs.h hn hp hl h1) λ_ _=>next
theorem oAl{t:TypeId}{z:List Value}(next:∀b,True->O X ops rest k ((d,.pointer (some ⟨b,0,none⟩))::L) (HS w0 M (.blk b t z.length z::As)))(hz:QS X.P t=some z)(hd:Nat.blt d X.n=true:=by rfl):O X ops (⟨some d,.alloc t,ty,pos,aft,none⟩::rest) k L (HS w0 M As):=o_h (ZA rfl hz) hd next
theorem oBx{t:TypeId}{x:Operand}{v:Value}(next:∀b,True->O X ops rest k ((d,.pointer (some ⟨b,0,none⟩))::L) (HS w0 M (.blk b t v.cells.toList.length v.cells.toList::As)))(hx:ev L x=some v:=by rfl)(hd:Nat.blt d X.n=true:=by rfl):O X ops (⟨some d,.box t x,ty,pos,aft,none⟩::rest) k L (HS w0 M As):=o_h (Qm6 rfl hx) hd next
theorem oWr{v:Int}{C:World->Prop}(next:O X ops rest k ((d,.int .i64 v)::L) C)(h1: -9223372036854775808<=v:=by omega)(h2:v<=9223372036854775807:=by omega):O X ops rest k ((d,.int .i64 (IntKind.i64.wrap v))::L) C:=Qm (QeY h1 h2) next
theorem dWr{v:Int}{C B:World->Prop}(next:D X ops F B fuel listed k ((d,.int .i64 v)::L) C)(h1: -9223372036854775808<=v:=by omega)(h2:v<=9223372036854775807:=by omega):D X ops F B fuel listed k ((d,.int .i64 (IntKind.i64.wrap v))::L) C:=QC (QeY h1 h2) next
theorem dSt{B:World->Prop}(i:Nat){t x b tot o n:Nat}{y:Operand}{bt:TypeId}{ag:Bool}{cs:List Value}{v:Value}(next:D X ops F B fuel (listed.setIfInBounds i true) k L (HS w0 M As'))(hi:ops[i]?=some ⟨none,.store t (.tmp x) y,ty,pos,aft,none⟩:=by rfl)(hx:Qc.get L x=some (.pointer (some ⟨b,o,none⟩)):=by rfl)(hy:ev L y=some v:=by rfl)(hs:TSz X.P t n ag:=by infer_instance)(hn:v.cells.toList.length=n:=by rfl)
  (hp:Put As (.blk b bt tot cs) (.blk b bt tot (Qi cs o v.cells.toList)) As':=by repeat (first|exact .here|apply Put.there))(hl:o+n<=cs.length)(h1:v.cells.toList.all (·.oneCell')=true:=by rfl)(hr:(Region.ready .any ops listed==[i])=true:=by kernel_rfl)(hB:∀w,HS w0 M As w->B w:=by(intro w h;exact h.ent aEt)) :
  D X ops F B (fuel+1) listed k L (HS w0 M As):=d_h0 i hi (Qb1 rfl hx hy hs.h hn hp hl h1) hr hB λ_ _=>next
theorem dTu{B:World->Prop}(F':List Nat)(next:D X ops F' (HS w0 M As) fuel listed k L (HS w0 M As))(hf:F.any (λf=>listed.getD f false)=true:=by kernel_rfl):D X ops F B fuel listed k L (HS w0 M As):=QuL F' hf next
end
section
variable{X:Ctx}{ops:Array Oper}{F:List Nat}{fuel:Nat}{listed:Array Bool}{k:List KI}{L:Qc}{d ty:Nat}{pos:String}{aft:Array Edge}{op:Op}{w0:World}{M:List Nat}{As Bs:List HA}
theorem dQ{C:World->Prop}{v:Value}(i:Nat)(ps:List (List Nat))(hi:ops[i]?=some ⟨some d,op,ty,pos,aft,none⟩)(h:OpQ X.P ⟨some d,op,ty,pos,aft,none⟩ L (HS w0 M Bs) v)(next:D X ops F (HS w0 M Bs) fuel (listed.setIfInBounds i true) k ((d,v)::L) C)(hok:QV ops listed i=true:=by kernel_rfl)(hF:Yf ops F i ps=true:=by kernel_rfl)(hn:Qax F listed=true:=by kernel_rfl)(hd:Nat.blt d X.n=true:=by rfl):D X ops F (HS w0 M Bs) (fuel+1) listed k L C:=d_q i ps hi h hok hF hn hd next
theorem dV{C:World->Prop}{B:World->Prop}{v:Value}(i:Nat)(hi:ops[i]?=some ⟨some d,op,ty,pos,aft,none⟩)(h:OpP X.P ⟨some d,op,ty,pos,aft,none⟩ L v)(next:D X ops F B fuel (listed.setIfInBounds i true) k ((d,v)::L) C)(hok:QV ops listed i=true:=by kernel_rfl)(hF:F.all (λf=>!Nat.beq f i)=true:=by rfl)(hd:Nat.blt d X.n=true:=by rfl):D X ops F B (fuel+1) listed k L C:=d_p i hi h hok hF hd next
theorem dH{B:World->Prop}{G:Type}{V:G->Value}{Fg:G->Prop}{C':G->World->Prop}(i:Nat)(hi:ops[i]?=some ⟨some d,op,ty,pos,aft,none⟩)(h:OpH X.P ⟨some d,op,ty,pos,aft,none⟩ L (HS w0 M As) V Fg C')(next:∀g,Fg g->D X ops F B fuel (listed.setIfInBounds i true) k ((d,V g)::L) (C' g))(hr:(Region.ready .any ops listed==[i])=true:=by kernel_rfl)(hB:∀w,HS w0 M As w->B w:=by(intro w h;exact h.ent aEt))(hd:Nat.blt d X.n=true:=by rfl):D X ops F B (fuel+1) listed k L (HS w0 M As):=d_h i hi h hr hB hd next
theorem dVo{C:World->Prop}{B:World->Prop}{v:Value}{j:Nat}{want b:Bool}(i dj:Nat)(hw:b=want)(hi:ops[i]?=some ⟨some d,op,ty,pos,aft,some (j,want)⟩)(hj:(ops[j]?).bind (·.dst)=some dj)(hb:Qc.get L dj=some (.bool b))(h:OpP X.P ⟨some d,op,ty,pos,aft,none⟩ L v)(next:D X ops F B fuel (listed.setIfInBounds i true) k ((d,v)::L) C)(hok:QV ops listed i=true:=by kernel_rfl)(hF:F.all (λf=>!Nat.beq f i)=true:=by rfl)(hd:Nat.blt d X.n=true:=by rfl):D X ops F B (fuel+1) listed k L C:=Qny i dj hi hj hb hw h hok hF hd next
theorem dQo{C:World->Prop}{v:Value}{j:Nat}{want b:Bool}(i dj:Nat)(ps:List (List Nat))(hw:b=want)(hi:ops[i]?=some ⟨some d,op,ty,pos,aft,some (j,want)⟩)(hj:(ops[j]?).bind (·.dst)=some dj)(hb:Qc.get L dj=some (.bool b))(h:OpQ X.P ⟨some d,op,ty,pos,aft,none⟩ L (HS w0 M Bs) v)(next:D X ops F (HS w0 M Bs) fuel (listed.setIfInBounds i true) k ((d,v)::L) C)(hok:QV ops listed i=true:=by kernel_rfl)(hF:Yf ops F i ps=true:=by kernel_rfl)(hn:Qax F listed=true:=by kernel_rfl)(hd:Nat.blt d X.n=true:=by rfl):D X ops F (HS w0 M Bs) (fuel+1) listed k L C:=Qt4 i dj ps hi hj hb hw h hok hF hn hd next
theorem rT{t:Nat}{v:Value}(hr:X.fn.results=[ResultVar.tmp t].toArray)(hv:Qc.get L t=some v)(h:∀w,HS w0 M As w->X.R (.returned (QX [v])) w)(hrd:X.rd=none:=by rfl)(hdf:X.df=[]:=by rfl):S X (.c .ret::k) L (HS w0 M As):=Ql hr (.tmp hv .nil) h hrd hdf
end
theorem dT{p:Prop}[Decidable p]:(decide p=true)=p:=decide_eq_true_eq
theorem dN{p:Prop}[Decidable p]:decide p=false ↔ ¬p:=decide_eq_false_iff_not
class BP(b:Bool)(p n:outParam Prop):Prop where
 t:b=true->p
 f:b=false->n
instance(priority:=low) bp0(b:Bool):BP b (b=true) (b=false):=⟨id,id⟩
instance bpD(p:Prop)[Decidable p]:BP (decide p) p (¬p):=⟨of_decide_eq_true,of_decide_eq_false⟩
instance bpN(b:Bool)(p n:Prop)[h:BP b p n]:BP (!b) n p:=⟨λh9=>h.f (by simpa using h9),λh9=>h.t (by simpa using h9)⟩
instance bpA(a b:Bool)(p n p' n':Prop)[h:BP a p n][h':BP b p' n']:BP (a&&b) (p/\p') (n\/n'):=⟨λh9=>⟨h.t (by simp at h9;exact h9.1),h'.t (by simp at h9;exact h9.2)⟩,λh9=>by cases a with
 | true=>exact .inr (h'.f (by simpa using h9))
 | false=>exact .inl (h.f rfl)⟩
instance bpO(a b:Bool)(p n p' n':Prop)[h:BP a p n][h':BP b p' n']:BP (a||b) (p\/p') (n/\n'):=⟨λh9=>by cases a with
 | true=>exact .inl (h.t rfl)
 | false=>exact .inr (h'.t (by simpa using h9)),λh9=>⟨h.f (by simp at h9;exact h9.1),h'.f (by simp at h9;exact h9.2)⟩⟩
class TFn(P:Program)(f:Nat):Prop where h:QK P f=true
section
variable{X:Ctx}{k:List KI}{L:Qc}{C:World->Prop}
theorem sCd{c:Operand}{x y:Code}{b:Bool}{p n:Prop}(hc:ev L c=some (.bool b))[hB:BP b p n](ht:p->S X (.c x::k) L C)(hf:n->S X (.c y::k) L C):S X (.c (.cond c x y)::k) L C:=QgZ hc (λh=>ht (hB.t h)) λh=>hf (hB.f h)
variable{ops:Array Oper}{rest:List Oper}{d ty:Nat}{pos:String}{aft:Array Edge}{op:Op}
theorem XP(m dj dp:Nat){b c:Bool}{p n:Prop}{l:List Oper}(hb:Qc.get L dj=some (.bool b))[hB:BP b p n]
  (h1:b=true->p->O X ops (l.take m) (.join (At X.n X.df (λ_:Unit=>(dp,.bool c)::L) (λ_=>C))::k) L C)
  (h0:b=false->n->O X ops (l.take m) (.join (At X.n X.df (λ_:Unit=>(dp,.bool false)::L) (λ_=>C))::k) L C)
  (h2:O X ops (l.drop m) k ((dp,.bool (b&&c))::L) C):O X ops l k L C:=QwW m dj dp b c hb (λh=>h1 h (hB.t h)) (λh=>h0 h (hB.f h)) h2
theorem oOr(m dj dp:Nat){b c:Bool}{p n:Prop}{l:List Oper}(hb:Qc.get L dj=some (.bool b))[hB:BP b p n]
  (h1:b=false->n->O X ops (l.take m) (.join (At X.n X.df (λ_:Unit=>(dp,.bool c)::L) (λ_=>C))::k) L C)
  (h0:b=true->p->O X ops (l.take m) (.join (At X.n X.df (λ_:Unit=>(dp,.bool true)::L) (λ_=>C))::k) L C)
  (h2:O X ops (l.drop m) k ((dp,.bool (b||c))::L) C):O X ops l k L C:=o_or m dj dp b c hb (λh=>h1 h (hB.f h)) (λh=>h0 h (hB.t h)) h2
theorem oNo{j dj:Nat}{want b:Bool}{dst:Option Nat}(next:O X ops (⟨dst,op,ty,pos,aft,none⟩::rest) k L C)(hj:(ops[j]?).bind (·.dst)=some dj:=by rfl)(hs:Qc.get L dj=some (.bool b):=by rfl)(hb:b=want:=by assumption):O X ops (⟨dst,op,ty,pos,aft,some (j,want)⟩::rest) k L C:=o_on dj b hj hs hb next
theorem oFt{j dj:Nat}{b:Bool}(next:O X ops rest k ((d,undef)::L) C)(hj:(ops[j]?).bind (·.dst)=some dj:=by rfl)(hs:Qc.get L dj=some (.bool b):=by rfl)(hb:b=false:=by assumption)(hd:Nat.blt d X.n=true:=by rfl):O X ops (⟨some d,op,ty,pos,aft,some (j,true)⟩::rest) k L C:=Qo7 dj b hj hs hb hd next
theorem oFf{j dj:Nat}{b:Bool}(next:O X ops rest k ((d,undef)::L) C)(hj:(ops[j]?).bind (·.dst)=some dj:=by rfl)(hs:Qc.get L dj=some (.bool b):=by rfl)(hb:b=true:=by assumption)(hd:Nat.blt d X.n=true:=by rfl):O X ops (⟨some d,op,ty,pos,aft,some (j,false)⟩::rest) k L C:=Qo7 dj b hj hs hb hd next
theorem oFu{j dj:Nat}{want:Bool}(next:O X ops rest k ((d,undef)::L) C)(hj:(ops[j]?).bind (·.dst)=some dj:=by rfl)(hs:Qc.get L dj=some undef:=by rfl)(hd:Nat.blt d X.n=true:=by rfl):O X ops (⟨some d,op,ty,pos,aft,some (j,want)⟩::rest) k L C:=Qqo dj hj hs hd next
variable{w0:World}{M:List Nat}{As:List HA}
theorem rV{t:Nat}{v v':Value}(hr:X.fn.results=[ResultVar.tmp t].toArray:=by rfl)(hv:Qc.get L t=some v:=by rfl)(hR:X.R=λen w'=>en=.returned v'/\Below w0.heap.size w0 w':=by rfl)(hrd:X.rd=none:=by rfl)(hdf:X.df=[]:=by rfl)(h:Ending.returned (QX [v])=.returned v':=by rfl):S X (.c .ret::k) L (HS w0 [] As):=Ql hr (.tmp hv .nil) (λw' h'=>hR▸⟨h,h'.below⟩) hrd hdf
theorem oCq{f:FuncId}{args:Array Operand}{vs:List Value}{v:Value}{at':Array TypeId}(ha:evs L args.toList=some vs)[hf:TFn X.P f](hc:∀w,HS w0 M As w->Calls X.P f vs.toArray w λe w'=>e=.returned v/\Below w.heap.size w w')(next:O X ops rest k ((d,v)::L) (HS w0 M As))(hd:Nat.blt d X.n=true:=by rfl) :
  O X ops (⟨some d,.call {callee:=.value (.func f),args:=args,argTypes:=at'},ty,pos,aft,none⟩::rest) k L (HS w0 M As):=o_q (Qr rfl hf.h ha hc) hd next
theorem oCh{G:Type}{V:G->Value}{F:G->Prop}{Bs:G->List HA}{f:FuncId}{args:Array Operand}{vs:List Value}{at':Array TypeId}(ha:evs L args.toList=some vs)[hf:TFn X.P f](hc:∀w,HS w0 M As w->Calls X.P f vs.toArray w λe w'=>∃g,e=.returned (V g)/\F g/\HS w [] (Bs g) w')(next:∀g,F g->O X ops rest k ((d,V g)::L) (HS w0 M (Bs g++As)))(hd:Nat.blt d X.n=true:=by rfl) :
  O X ops (⟨some d,.call {callee:=.value (.func f),args:=args,argTypes:=at'},ty,pos,aft,none⟩::rest) k L (HS w0 M As):=o_h (Qcl rfl hf.h ha hc) hd next
theorem sBk{α:Type}{LJ:α->Qc}{CJ:α->World->Prop}{I:α->Prop}{m:α->Nat}{x:α}(y:α)(hm:m y<m x:=by omega)(hI:I y:=by omega)(hL:Qcg L (LJ y):=by repeat (first|exact sl_n|refine sl_c rfl ?_))(hC:∀w,HS w0 M As w->CJ y w:=by(intro w h;exact h.ent aEt)):S X (.join (Qr8 X.n X.df LJ CJ I m x)::k) L (HS w0 M As):=QO y hm hI hL hC
end
section
variable{X:Ctx}{k:List KI}{L:Qc}{C:World->Prop}{ops:Array Oper}{rest:List Oper}{d ty:Nat}{pos:String}{aft:Array Edge}{op:Op}{LJ:Unit->Qc}{CJ:Unit->World->Prop}
theorem o0t{j dj:Nat}{b:Bool}(next:O X ops rest k L C)(hj:(ops[j]?).bind (·.dst)=some dj:=by rfl)(hs:Qc.get L dj=some (.bool b):=by rfl)(hb:b=false:=by assumption):O X ops (⟨none,op,ty,pos,aft,some (j,true)⟩::rest) k L C:=QlO dj b hj hs hb next
theorem o0f{j dj:Nat}{b:Bool}(next:O X ops rest k L C)(hj:(ops[j]?).bind (·.dst)=some dj:=by rfl)(hs:Qc.get L dj=some (.bool b):=by rfl)(hb:b=true:=by assumption):O X ops (⟨none,op,ty,pos,aft,some (j,false)⟩::rest) k L C:=QlO dj b hj hs hb next
theorem oJt(m dp:Nat){c x y:Operand}{b:Bool}{v:Value}(hc:ev L c=some (.bool b):=by rfl)(hb:b=true:=by assumption)(hx:ev L x=some v:=by rfl)(hd:Nat.blt dp X.n=true:=by rfl)(hJ:LJ ()=(dp,v)::((dp,v)::L).drop m:=by exact rfl)(hf:Qhn ((dp,v)::L) m=true:=by exact rfl)(hC:∀w,C w->CJ () w:=by(intro w h;first|exact h|exact h.ent aEt)) :
  O X ops [⟨some dp,.pick c x y,ty,pos,aft,none⟩] (.join (At X.n X.df LJ CJ)::k) L C:=o_p (Xv rfl hc hb hx) hd (Qmk (Qnv m dp v hJ (by rw[Qc.get_cons,if_pos rfl]) hf hC))
theorem oJf(m dp:Nat){c x y:Operand}{b:Bool}{v:Value}(hc:ev L c=some (.bool b):=by rfl)(hb:b=false:=by assumption)(hx:ev L y=some v:=by rfl)(hd:Nat.blt dp X.n=true:=by rfl)(hJ:LJ ()=(dp,v)::((dp,v)::L).drop m:=by exact rfl)(hf:Qhn ((dp,v)::L) m=true:=by exact rfl)(hC:∀w,C w->CJ () w:=by(intro w h;first|exact h|exact h.ent aEt)) :
  O X ops [⟨some dp,.pick c x y,ty,pos,aft,none⟩] (.join (At X.n X.df LJ CJ)::k) L C:=o_p (Q8 rfl hc hb hx) hd (Qmk (Qnv m dp v hJ (by rw[Qc.get_cons,if_pos rfl]) hf hC))
end
section
variable{P:Program}{f:FuncId}{fn:Func}{n:Nat}{c:Code}{w w1:World}{R:Ending->World->Prop}{M:List Nat}{As:List HA}
theorem eN0(hf:P.funcs[f]?=some fn)(hn:fn.ntmps=n)(h:S {P:=P,fn:=fn,n:=n,R:=R} [.c c] (Qcy 0 []) (HS w [] []))(hb:fn.body=some c:=by rfl)(hl:Nat.ble 0 n=true:=by rfl):Calls P f #[] w R:=enter (args:=[]) hf hn hb hl (HS.refl w []) h
theorem eN1{x0:Value}(hf:P.funcs[f]?=some fn)(hn:fn.ntmps=n)(h:S {P:=P,fn:=fn,n:=n,R:=R} [.c c] (Qcy 0 [x0]) (HS w [] []))(hb:fn.body=some c:=by rfl)(hl:Nat.ble 1 n=true:=by rfl):Calls P f #[x0] w R:=enter (args:=[x0]) hf hn hb hl (HS.refl w []) h
theorem eW1{x0:Value}(hf:P.funcs[f]?=some fn)(hn:fn.ntmps=n)(hw:HS w1 M As w)(h:S {P:=P,fn:=fn,n:=n,R:=R} [.c c] (Qcy 0 [x0]) (HS w1 M As))(hb:fn.body=some c:=by rfl)(hl:Nat.ble 1 n=true:=by rfl):Calls P f #[x0] w R:=enter (args:=[x0]) hf hn hb hl hw h
theorem eN2{x0:Value}{x1:Value}(hf:P.funcs[f]?=some fn)(hn:fn.ntmps=n)(h:S {P:=P,fn:=fn,n:=n,R:=R} [.c c] (Qcy 0 [x0,x1]) (HS w [] []))(hb:fn.body=some c:=by rfl)(hl:Nat.ble 2 n=true:=by rfl):Calls P f #[x0,x1] w R:=enter (args:=[x0,x1]) hf hn hb hl (HS.refl w []) h
theorem eW2{x0:Value}{x1:Value}(hf:P.funcs[f]?=some fn)(hn:fn.ntmps=n)(hw:HS w1 M As w)(h:S {P:=P,fn:=fn,n:=n,R:=R} [.c c] (Qcy 0 [x0,x1]) (HS w1 M As))(hb:fn.body=some c:=by rfl)(hl:Nat.ble 2 n=true:=by rfl):Calls P f #[x0,x1] w R:=enter (args:=[x0,x1]) hf hn hb hl hw h
theorem eN3{x0:Value}{x1:Value}{x2:Value}(hf:P.funcs[f]?=some fn)(hn:fn.ntmps=n)(h:S {P:=P,fn:=fn,n:=n,R:=R} [.c c] (Qcy 0 [x0,x1,x2]) (HS w [] []))(hb:fn.body=some c:=by rfl)(hl:Nat.ble 3 n=true:=by rfl):Calls P f #[x0,x1,x2] w R:=enter (args:=[x0,x1,x2]) hf hn hb hl (HS.refl w []) h
theorem eW3{x0:Value}{x1:Value}{x2:Value}(hf:P.funcs[f]?=some fn)(hn:fn.ntmps=n)(hw:HS w1 M As w)(h:S {P:=P,fn:=fn,n:=n,R:=R} [.c c] (Qcy 0 [x0,x1,x2]) (HS w1 M As))(hb:fn.body=some c:=by rfl)(hl:Nat.ble 3 n=true:=by rfl):Calls P f #[x0,x1,x2] w R:=enter (args:=[x0,x1,x2]) hf hn hb hl hw h
theorem eN4{x0:Value}{x1:Value}{x2:Value}{x3:Value}(hf:P.funcs[f]?=some fn)(hn:fn.ntmps=n)(h:S {P:=P,fn:=fn,n:=n,R:=R} [.c c] (Qcy 0 [x0,x1,x2,x3]) (HS w [] []))(hb:fn.body=some c:=by rfl)(hl:Nat.ble 4 n=true:=by rfl):Calls P f #[x0,x1,x2,x3] w R:=enter (args:=[x0,x1,x2,x3]) hf hn hb hl (HS.refl w []) h
theorem eW4{x0:Value}{x1:Value}{x2:Value}{x3:Value}(hf:P.funcs[f]?=some fn)(hn:fn.ntmps=n)(hw:HS w1 M As w)(h:S {P:=P,fn:=fn,n:=n,R:=R} [.c c] (Qcy 0 [x0,x1,x2,x3]) (HS w1 M As))(hb:fn.body=some c:=by rfl)(hl:Nat.ble 4 n=true:=by rfl):Calls P f #[x0,x1,x2,x3] w R:=enter (args:=[x0,x1,x2,x3]) hf hn hb hl hw h
theorem eN5{x0:Value}{x1:Value}{x2:Value}{x3:Value}{x4:Value}(hf:P.funcs[f]?=some fn)(hn:fn.ntmps=n)(h:S {P:=P,fn:=fn,n:=n,R:=R} [.c c] (Qcy 0 [x0,x1,x2,x3,x4]) (HS w [] []))(hb:fn.body=some c:=by rfl)(hl:Nat.ble 5 n=true:=by rfl):Calls P f #[x0,x1,x2,x3,x4] w R:=enter (args:=[x0,x1,x2,x3,x4]) hf hn hb hl (HS.refl w []) h
theorem eW5{x0:Value}{x1:Value}{x2:Value}{x3:Value}{x4:Value}(hf:P.funcs[f]?=some fn)(hn:fn.ntmps=n)(hw:HS w1 M As w)(h:S {P:=P,fn:=fn,n:=n,R:=R} [.c c] (Qcy 0 [x0,x1,x2,x3,x4]) (HS w1 M As))(hb:fn.body=some c:=by rfl)(hl:Nat.ble 5 n=true:=by rfl):Calls P f #[x0,x1,x2,x3,x4] w R:=enter (args:=[x0,x1,x2,x3,x4]) hf hn hb hl hw h
theorem eW6{x0:Value}{x1:Value}{x2:Value}{x3:Value}{x4:Value}{x5:Value}(hf:P.funcs[f]?=some fn)(hn:fn.ntmps=n)(hw:HS w1 M As w)(h:S {P:=P,fn:=fn,n:=n,R:=R} [.c c] (Qcy 0 [x0,x1,x2,x3,x4,x5]) (HS w1 M As))(hb:fn.body=some c:=by rfl)(hl:Nat.ble 6 n=true:=by rfl):Calls P f #[x0,x1,x2,x3,x4,x5] w R:=enter (args:=[x0,x1,x2,x3,x4,x5]) hf hn hb hl hw h
end
theorem aU{p q:Prop}(hq:q)(h:(Unit->q)->p:=by(intro hq;first|refine Qmj ?_|refine Qkd ?_|refine Qmk ?_|refine QrZ ?_|refine QiZ ?_|refine Qt9 ?_|refine oP ?_|refine oNo ?_|refine oFt ?_|refine oFf ?_|refine oFu ?_|refine o0t ?_|refine o0f ?_|refine oFa ?_|refine oLs ?_|refine oLd ?_|refine oLn ?_|refine oSt ?_);exact hq ()):p:=h λ_=>hq
theorem aT{p q:Prop}(hq:q)(h:(Unit->q)->p:=by(intro hq;refine aU ?_;try refine oWr ?_);exact hq ()):p:=h λ_=>hq
theorem aU2{p q:Prop}(hq:q)(h:(Unit->q)->p:=by(intro hq;iterate 2 refine aU ?_);exact hq ()):p:=h λ_=>hq
theorem aT2{p q:Prop}(hq:q)(h:(Unit->q)->p:=by(intro hq;(iterate 2 refine aU ?_);try refine oWr ?_);exact hq ()):p:=h λ_=>hq
theorem aU3{p q:Prop}(hq:q)(h:(Unit->q)->p:=by(intro hq;iterate 3 refine aU ?_);exact hq ()):p:=h λ_=>hq
theorem aT3{p q:Prop}(hq:q)(h:(Unit->q)->p:=by(intro hq;(iterate 3 refine aU ?_);try refine oWr ?_);exact hq ()):p:=h λ_=>hq
theorem aU4{p q:Prop}(hq:q)(h:(Unit->q)->p:=by(intro hq;iterate 4 refine aU ?_);exact hq ()):p:=h λ_=>hq
theorem aT4{p q:Prop}(hq:q)(h:(Unit->q)->p:=by(intro hq;(iterate 4 refine aU ?_);try refine oWr ?_);exact hq ()):p:=h λ_=>hq
theorem aU5{p q:Prop}(hq:q)(h:(Unit->q)->p:=by(intro hq;iterate 5 refine aU ?_);exact hq ()):p:=h λ_=>hq
theorem aT5{p q:Prop}(hq:q)(h:(Unit->q)->p:=by(intro hq;(iterate 5 refine aU ?_);try refine oWr ?_);exact hq ()):p:=h λ_=>hq
theorem aU6{p q:Prop}(hq:q)(h:(Unit->q)->p:=by(intro hq;iterate 6 refine aU ?_);exact hq ()):p:=h λ_=>hq
theorem aT6{p q:Prop}(hq:q)(h:(Unit->q)->p:=by(intro hq;(iterate 6 refine aU ?_);try refine oWr ?_);exact hq ()):p:=h λ_=>hq
theorem aU7{p q:Prop}(hq:q)(h:(Unit->q)->p:=by(intro hq;iterate 7 refine aU ?_);exact hq ()):p:=h λ_=>hq
theorem aT7{p q:Prop}(hq:q)(h:(Unit->q)->p:=by(intro hq;(iterate 7 refine aU ?_);try refine oWr ?_);exact hq ()):p:=h λ_=>hq
theorem aU8{p q:Prop}(hq:q)(h:(Unit->q)->p:=by(intro hq;iterate 8 refine aU ?_);exact hq ()):p:=h λ_=>hq
theorem aT8{p q:Prop}(hq:q)(h:(Unit->q)->p:=by(intro hq;(iterate 8 refine aU ?_);try refine oWr ?_);exact hq ()):p:=h λ_=>hq
theorem aU9{p q:Prop}(hq:q)(h:(Unit->q)->p:=by(intro hq;iterate 9 refine aU ?_);exact hq ()):p:=h λ_=>hq
theorem aT9{p q:Prop}(hq:q)(h:(Unit->q)->p:=by(intro hq;(iterate 9 refine aU ?_);try refine oWr ?_);exact hq ()):p:=h λ_=>hq
theorem YR{p q:Prop}(hq:q)(h:(Unit->q)->p:=by(intro hq;iterate 10 refine aU ?_);exact hq ()):p:=h λ_=>hq
theorem Qln{p q:Prop}(hq:q)(h:(Unit->q)->p:=by(intro hq;(iterate 10 refine aU ?_);try refine oWr ?_);exact hq ()):p:=h λ_=>hq
theorem QbK{p q:Prop}(hq:q)(h:(Unit->q)->p:=by(intro hq;iterate 11 refine aU ?_);exact hq ()):p:=h λ_=>hq
theorem Qay{p q:Prop}(hq:q)(h:(Unit->q)->p:=by(intro hq;iterate 12 refine aU ?_);exact hq ()):p:=h λ_=>hq
theorem QaU{p q:Prop}(hq:q)(h:(Unit->q)->p:=by(intro hq;iterate 13 refine aU ?_);exact hq ()):p:=h λ_=>hq
theorem aT13{p q:Prop}(hq:q)(h:(Unit->q)->p:=by(intro hq;(iterate 13 refine aU ?_);try refine oWr ?_);exact hq ()):p:=h λ_=>hq
theorem QgU{p q:Prop}(hq:q)(h:(Unit->q)->p:=by(intro hq;iterate 14 refine aU ?_);exact hq ()):p:=h λ_=>hq
theorem aT14{p q:Prop}(hq:q)(h:(Unit->q)->p:=by(intro hq;(iterate 14 refine aU ?_);try refine oWr ?_);exact hq ()):p:=h λ_=>hq
theorem Qv4{p q:Prop}(hq:q)(h:(Unit->q)->p:=by(intro hq;iterate 15 refine aU ?_);exact hq ()):p:=h λ_=>hq
theorem aU16{p q:Prop}(hq:q)(h:(Unit->q)->p:=by(intro hq;iterate 16 refine aU ?_);exact hq ()):p:=h λ_=>hq
theorem aT17{p q:Prop}(hq:q)(h:(Unit->q)->p:=by(intro hq;(iterate 17 refine aU ?_);try refine oWr ?_);exact hq ()):p:=h λ_=>hq
theorem aU19{p q:Prop}(hq:q)(h:(Unit->q)->p:=by(intro hq;iterate 19 refine aU ?_);exact hq ()):p:=h λ_=>hq
end Gx
namespace Go.Proofs
open Go Go.RowKit Gx
instance:TSe Tryz.prog 28 3:=⟨Tryz.underlying28⟩
instance:TSe Tryz.prog 35 69:=⟨Tryz.underlying35⟩
instance:TSe Tryz.prog 67 27:=⟨Tryz.underlying67⟩
instance:TSe Tryz.prog 139 5:=⟨Tryz.underlying139⟩
instance:TSe Tryz.prog 183 29:=⟨Tryz.underlying183⟩
/-- A call that answers v and writes to no old block. -/
abbrev CR(f:FuncId)(x:Array Value)(w:World)(v:Value):Prop:=Calls Tryz.prog f x w λen w'=>en=.returned v/\Below w.heap.size w w'
/-- A call that makes blocks. -/
abbrev CE{G:Type}(f:FuncId)(x:Array Value)(w:World)(M:List Nat)(V:G->Value)(F:G->Prop)(B:G->List HA):Prop:=Calls Tryz.prog f x w λen w'=>∃g,en=.returned (V g)/\F g/\HS w M (B g) w'
end Go.Proofs
/- What chapter 13's texts stand on. -/
namespace Go.Proofs
open Go Go.RowKit Gx
attribute [local irreducible] Go.Calls Gx.S Gx.O Gx.D Gx.OpP Gx.OpQ Gx.OpH
set_option maxRecDepth 20000
theorem Yq:tsl Tryz.prog 183=some (29,1,8):=by kernel_rfl
theorem QpT:tsz Tryz.prog 29=some (1,false):=by kernel_rfl
instance:TFn Tryz.prog 182:=⟨by kernel_rfl⟩
theorem QbE:QK Tryz.prog 167=true:=by kernel_rfl
instance:TFn Tryz.prog 167:=⟨QbE⟩
instance:TFn Tryz.prog 124:=⟨by kernel_rfl⟩
theorem ZY:QS Tryz.prog 29=some [.int .i64 0]:=by kernel_rfl
theorem Qgn:QK Tryz.prog 125=true:=by kernel_rfl
instance:TFn Tryz.prog 125:=⟨Qgn⟩
instance:TFn Tryz.prog 40:=⟨by kernel_rfl⟩
theorem Qoj(w:World)(n lo hi:Int):CR 182 #[.int .i64 n,.int .i64 lo,.int .i64 hi] w (.bool (decide (lo<=n)&&decide (n<=hi))):=by
 refine eN3 Tryz.func182 Tryz.ntmps182 ?_
 refine YR ?_
 refine XP 4 10 14 rfl
  (λhg1 _=>by
   refine aU6 ?_
   exact oJt 4 14)
  (λhg3 _=>by
   refine aU3 ?_
   exact oJf 4 14) ?_
 refine aU2 ?_
 exact rV
theorem c40(w:World)(n lo hi:Int):CR 40 #[.int .i64 n,.int .i64 lo,.int .i64 hi] w (.bool (decide (lo<=n)&&decide (n<=hi))):=by
 refine eN3 Tryz.func40 Tryz.ntmps40 ?_
 refine YR ?_
 refine XP 4 10 14 rfl
  (λhg1 _=>by
   refine aU6 ?_
   exact oJt 4 14)
  (λhg3 _=>by
   refine aU3 ?_
   exact oJf 4 14) ?_
 refine aU2 ?_
 exact rV
theorem Qd8(w:World)(ok:Bool)(e:Int):CR 167 #[.bool ok,.int .i64 e] w (.int .i64 (cond ok 0 e)):=by
 refine eN2 Tryz.func167 Tryz.ntmps167 ?_
 refine aU9 ?_
 refine sCd rfl (λh1=>?_) λh1=>?_
 ·refine aU4 ?_
  exact rV (h:=by simp_all[QX])
 refine aU6 ?_
 exact rV (h:=by simp_all[QX])
theorem c125(w:World)(a:Option Addr)(cap:Nat)(es:List Int)(hs:Sl w [] a 1 es.length (λi=>[.int .i64 (es.getD i 0)]))(hm:es.length<=1000):CR 125 #[.slice a es.length cap] w (.int .i64 (YX es)):=by
 refine eN1 Tryz.func125 Tryz.ntmps125 ?_
 refine Qay ?_
 refine Qt (α:=Nat) [2,4,7,8,9,10,11,12,13,14] (λk=>[(7,.int .i64 (k:Int))]) (λ_=>_) (λk=>k<=es.length/\YX es=YX (es.drop k)) (λk=>es.length-k) 0 ⟨om,rfl⟩ aSx (λw h=>h) (λk hk=>?_)
 obtain⟨hk1,hk2⟩:=hk
 refine aU5 ?_
 refine sCd rfl (λh1=>?_) λh1=>?_
 ·refine aU5 ?_
  refine o_p (Qa rfl rfl rfl Yq _ rfl om (hs.some om)) rfl (o_q (Qb rfl rfl QpT (hs.rd (i:=k) (j:=0) om rfl)) rfl (aU7 ?_))
  refine sCd rfl (λh2=>?_) λh2=>?_
  ·refine aU5 ?_
   exact rV (h:=by simp only[QX];rw[hk2,Zd om,if_neg (by assumption)])
  refine aT4 ?_
  refine aU2 ?_
  exact QO (k+1) om ⟨om,by rw[hk2,Zd om,if_pos (by assumption)]⟩ aSx (λw h=>h)
 refine Qh rfl ?_
 refine aU4 ?_
 exact rV (h:=by simp only[QX];rw[hk2,QdW om])
theorem Qot{w0 w:World}{M:List Nat}{As As':List HA}{b cap n:Nat}{t:TypeId}{tot:Nat}{cs:List Value}(h:HS w0 M As w)(hp:QP As (.blk b t tot cs) As')(hc:cs.all QhR=true)(hn:cs.length=n)(hl:n<=1000) :
    Calls Tryz.prog 125 #[.slice (some ⟨b,0,none⟩) n cap] w λen w'=>en=.returned (.int .i64 (Xp cs))/\Below w.heap.size w w':=by
  subst hn;have:=c125 w (some ⟨b,0,none⟩) cap (cs.map Go.RowKit.intOf) (by simpa using h.sl_ints hp hc) (by simpa using hl);rw[Qde hc]at this
  simpa using this
theorem c124(w:World)(n:Int):CR 124 #[.int .i64 n] w (.int .i64 (Qv n)):=by
 refine eN1 Tryz.func124 Tryz.ntmps124 ?_
 refine aU7 ?_
 refine oCq rfl (λw1 h1=>Qoj w1 _ _ _) (oCq rfl (λw1 h1=>Qd8 w1 _ _) (aU2 ?_))
 exact rV (h:=by simp only[QX,Qv,cond_eq_ite,Bool.and_eq_true,decide_eq_true_eq])
theorem QbU{a b:Int}:Xp [.int .i64 a,.int .i64 b]=if a=0 then b else a:=by
  simp only[Xp]
  grind
theorem c155(w:World)(co mo rm:Int):CR 155 #[.int .i64 co,.int .i64 mo,.int .i64 rm] w (.int .i64 (if Qv co=0 then XF mo rm else Qv co)):=by
 refine eN3 Tryz.func155 Tryz.ntmps155 ?_
 refine aU7 ?_
 refine oCq rfl (λw1 h1=>Qoj w1 _ _ _) (aU ?_)
 refine XP 6 10 16 rfl
  (λhg1 _=>by
   refine aU5 ?_
   refine o_p (XC rfl rfl rfl om om om) rfl (aU3 ?_)
   refine oCq rfl (λw1 h1=>Qoj w1 _ _ _) ?_
   exact oJt 6 16)
  (λhg3 _=>by
   refine aU5 ?_
   exact oJf 6 16) ?_
 refine aU5 ?_
 refine oCq rfl (λw1 h1=>c124 w1 _) (aU ?_)
 refine oCq rfl (λw1 h1=>Qd8 w1 _ _) (o_h (Qk (cs:=[_,_]) rfl rfl Yq ZY rfl rfl rfl) rfl (λb5 _=>oCq rfl (λw1 h1=>Qot h1 aPk (by rfl) (by rfl) (by decide)) (aU2 ?_)))
 exact rV (h:=by simp only[QX];rw[QbU];simp only[XF,cond_eq_ite,Bool.and_eq_true,decide_eq_true_eq])
theorem c96(w:World)(n:Int):CR 96 #[.int .i64 n] w (.int .i64 (Qv n)):=by
 refine eN1 Tryz.func96 Tryz.ntmps96 ?_
 refine aU8 ?_
 refine oCq rfl (λw1 h1=>c40 w1 _ _ _) (aU2 ?_)
 refine sCd rfl (λh1=>?_) λh1=>?_
 ·have hz:Qv n=15:=by have hq:=h1;unfold Qv;rw[if_neg (by first|omega|(simp at hq;omega))]
  refine aU4 ?_
  exact rV (h:=by rw[hz];rfl)
 have hz:Qv n=0:=by have hq:=h1;unfold Qv;rw[if_pos (by first|omega|(simp at hq;omega))]
 refine aU5 ?_
 exact rV (h:=by rw[hz];rfl)
theorem c97(w:World)(mo rm:Int):CR 97 #[.int .i64 mo,.int .i64 rm] w (.int .i64 (XF mo rm)):=by
 refine eN2 Tryz.func97 Tryz.ntmps97 ?_
 refine aU8 ?_
 refine oCq rfl (λw1 h1=>c40 w1 _ _ _) (aU2 ?_)
 refine oOr 7 8 15 rfl
  (λhg1 _=>by
   refine aU5 ?_
   refine o_p (XC rfl rfl rfl om om om) rfl (aU3 ?_)
   refine oCq rfl (λw1 h1=>c40 w1 _ _ _) (aU2 ?_)
   exact oJf 7 15)
  (λhg3 _=>by
   refine aU6 ?_
   exact oJt 7 15) ?_
 refine aU ?_
 refine sCd rfl (λh5=>?_) λh5=>?_
 ·have hz:XF mo rm=2:=by have hq:=h5;unfold XF;rw[if_neg (by first|omega|(simp at hq;omega))]
  refine aU4 ?_
  exact rV (h:=by rw[hz];rfl)
 have hz:XF mo rm=0:=by have hq:=h5;unfold XF;rw[if_pos (by first|omega|(simp at hq;omega))]
 refine aU5 ?_
 exact rV (h:=by rw[hz];rfl)
end Go.Proofs
namespace Go.Proofs
open Go Go.RowKit Gx
theorem Qrf{α:Type}[Inhabited α]{vals:α->List Value}{sz n:Nat}{W:World}{a:Option Addr}{cell:Nat->List Value}{Q:α->Prop}(hs:Sl W [] a sz n cell)(hr:∀i,i<n->∃x,cell i=vals x/\Q x):∃l:List α,n=l.length/\Rw vals sz W [] a l/\(∀x∈l,Q x)/\∀i,i<n->cell i=vals (nth l i):=by
 have hr2:∀i,∃x,i<n->cell i=vals x/\Q x:=λi=>by
  by_cases hi:i<n
  ·obtain⟨x,h⟩:=hr i hi;exact⟨x,λ_=>h⟩
  ·exact⟨default,λh=>absurd h hi⟩
 obtain⟨f,hf⟩:=Classical.axiomOfChoice hr2
 have hg:∀i,i<n->nth ((List.range n).map f) i=f i:=λi hi=>by
  simp only[nth,List.getD_eq_getElem?_getD,List.getElem?_map,List.getElem?_range hi,Option.map_some,Option.getD_some]
 refine⟨(List.range n).map f,by simp,⟨λhn=>?_⟩,λx hx=>?_,λi hi=>?_⟩
 ·rw[List.length_map,List.length_range]at hn;obtain⟨b,o,e,h2⟩:=hs.at_ hn;refine⟨b,o,e,λi hi=>?_⟩;rw[List.length_map,List.length_range]at hi;have h3:=h2 i hi;rw[(hf i hi).1]at h3;rw[hg i hi];exact h3
 ·obtain⟨i,hi,rfl⟩:=List.mem_map.1 hx;exact(hf i (List.mem_range.1 hi)).2
 ·rw[hg i hi];exact(hf i hi).1
theorem Qnh:Tryz.prog.cellsOf 3=1:=by kernel_rfl
theorem Qs4:Tryz.prog.cellsOf 4=1:=by kernel_rfl
theorem QtC:Tryz.prog.cellsOf 9=1:=by kernel_rfl
theorem Qgy:Tryz.prog.cellsOf 27=2:=by kernel_rfl
theorem Qr0:Tryz.prog.cellsOf 28=1:=by kernel_rfl
theorem Qr7:Tryz.prog.cellsOf 67=1:=by kernel_rfl
theorem Qp9:Tryz.prog.cellsOf 69=3:=by kernel_rfl
section
variable{W:World}{d:Nat}
theorem ln2{cs:List Value}(h:cs.length=2):∃x0 x1,cs=[x0,x1]:=by
 match cs,h with
 | [x0,x1],_=>exact⟨x0,x1,rfl⟩
theorem ln3{cs:List Value}(h:cs.length=3):∃x0 x1 x2,cs=[x0,x1,x2]:=by
 match cs,h with
 | [x0,x1,x2],_=>exact⟨x0,x1,x2,rfl⟩
theorem Qsw{x:Value}(h:okT Tryz.prog W d 4 [x]):∃n,x=.bool n:=by
 obtain⟨n,e⟩:=Qq0 h Tryz.underlying4;cases e;exact⟨n,rfl⟩
theorem QpJ{x:Value}(h:okT Tryz.prog W d 9 [x]):∃l:List UInt8,x=.string (bs l)/\l.length<=maxLen:=by
 obtain⟨l,e,g⟩:=QfK h Tryz.underlying9;cases e;exact⟨l,rfl,g⟩
theorem Qwf{cs:List Value}(h:okT Tryz.prog W d 27 cs):∃x:TEnt,cs=x.vals/\True:=by
 obtain⟨d2,l,o⟩:=Qi2 h Tryz.underlying27;rw[Qgy]at l;obtain⟨x0,x1,rfl⟩:=ln2 l;simp only[List.mem_cons,List.mem_nil_iff,or_false,forall_eq_or_imp,forall_eq]at o;rw[QtC]at o;obtain⟨s,rfl,hs⟩:=QpJ (x:=x0) o.1;obtain⟨t,rfl,ht⟩:=QpJ (x:=x1) o.2;exact⟨⟨s,t⟩,rfl,trivial⟩
theorem QsX{x:Value}(h:okT Tryz.prog W d 67 [x]):∃a c l,x=.slice a (List.length (α:=TEnt) l) c/\Rw TEnt.vals 2 W [] a l:=by
 obtain⟨d2,a,n,cap,cell,e,h1,h2,sl,rows⟩:=Qlp h Tryz.underlying67 (by rw[Qgy];decide);rw[Qgy]at sl;cases e;obtain⟨l,rfl,hl,_⟩:=Qrf (vals:=TEnt.vals) (Q:=λ_=>True) sl λi hi=>Qwf (rows i hi);exact⟨a,cap,l,rfl,hl⟩
theorem QtF{x:Value}(h:okT Tryz.prog W d 28 [x]):∃a c l,x=.slice a (List.length (α:=Int) l) c/\Rw inV 1 W [] a l:=by
 obtain⟨d2,a,n,cap,cell,e,h1,h2,sl,rows⟩:=Qlp h Tryz.underlying28 (by rw[Qnh];decide);rw[Qnh]at sl;cases e
 obtain⟨l,rfl,hl,_⟩:=Qrf (vals:=inV) (Q:=λ_=>True) sl λi hi=>by
  obtain⟨m,e,g⟩:=QeL (rows i hi) Tryz.underlying3;exact⟨m,e,trivial⟩
 exact⟨a,cap,l,rfl,hl⟩
theorem QwV{cs:List Value}(h:okT Tryz.prog W d 69 cs):∃k:LNd,cs=k.vals/\Rw TEnt.vals 2 W [] k.ea k.es/\Rw inV 1 W [] k.ca k.cs:=by
 obtain⟨d2,l,o⟩:=Qi2 h Tryz.underlying69;rw[Qp9]at l;obtain⟨x0,x1,x2,rfl⟩:=ln3 l;simp only[List.mem_cons,List.mem_nil_iff,or_false,forall_eq_or_imp,forall_eq]at o;rw[Qs4,Qr7,Qr0]at o;obtain⟨n0,rfl⟩:=Qsw (x:=x0) o.1;obtain⟨ea,ec,es,rfl,he⟩:=QsX (x:=x1) o.2.1;obtain⟨ca,cc,ks,rfl,hk⟩:=QtF (x:=x2) o.2.2;exact⟨⟨n0,ea,ec,es,ca,cc,ks⟩,rfl,he,hk⟩
theorem QoX{n:Nat}{a:Option Addr}{cell:Nat->List Value}(sl:Sl W [] a 3 n cell)(rows:∀i,i<n->okT Tryz.prog W d 69 (cell i)):∃l:List LNd,n=l.length/\Nt W [] a l:=by
 obtain⟨l,rfl,hl,hk,_⟩:=Qrf (vals:=LNd.vals) (Q:=λk=>Rw TEnt.vals 2 W [] k.ea k.es/\Rw inV 1 W [] k.ca k.cs) sl λi hi=>QwV (rows i hi);exact⟨l,rfl,hl,hk⟩
end
end Go.Proofs
namespace Go.Proofs
open Go Go.RowKit Gx
attribute [local irreducible] Go.Calls Gx.S Gx.O Gx.D Gx.OpP Gx.OpQ Gx.OpH
set_option maxRecDepth 20000
theorem Zh:tki Tryz.prog 5=some .u8:=by kernel_rfl
theorem YP:tki Tryz.prog 3=some .i64:=by kernel_rfl
instance:TFn Tryz.prog 151:=⟨by kernel_rfl⟩
theorem Qre(a b:Int):Value.int .i64 (IntKind.i64.wrap ((if decide (b<a)=true then 1 else 0)-(if decide (a<b)=true then 1 else 0)))=Value.int .i64 (X9 a b):=by
  unfold X9
  by_cases h1:a<b
  · have h2:¬b<a:=by omega
    simp only[h1,h2,decide_true,decide_false,Bool.false_eq_true,if_true,if_false];rfl
  · by_cases h2:b<a
    · simp only[h1,h2,decide_true,decide_false,Bool.false_eq_true,if_true,if_false];rfl
    · simp only[h1,h2,decide_true,decide_false,Bool.false_eq_true,if_true,if_false];rfl
def Qho(c:Int):Int:=if 97<=c/\c<=122 then c-32 else c
theorem Qgf(u:UInt8):Qho (u.toNat:Int)=((Qdk u).toNat:Int):=by
  have hu:=u.toNat_lt;unfold Qho Qdk
  by_cases h:97<=u/\u<=122
  · have h2:=h;rw[UInt8.le_iff_toNat_le,UInt8.le_iff_toNat_le]at h2;have e97:(97:UInt8).toNat=97:=rfl;have e122:(122:UInt8).toNat=122:=rfl;rw[e97,e122]at h2;rw[if_pos h,if_pos om,UInt8.toNat_sub_of_le _ _ (by rw[UInt8.le_iff_toNat_le];show 32<=_;omega)];show(u.toNat:Int)-32=((u.toNat-32:Nat):Int);omega
  · have h2:=h;rw[UInt8.le_iff_toNat_le,UInt8.le_iff_toNat_le]at h2;have e97:(97:UInt8).toNat=97:=rfl;have e122:(122:UInt8).toNat=122:=rfl;rw[e97,e122]at h2;rw[if_neg h,if_neg om]
theorem c72(w:World)(s:List UInt8)(at' c:Nat)(hm:s.length<=1000000000)(hc:c<=7)(hac:at'+c<=s.length):CR 72 #[.string (bs s),.int .i64 (at':Int),.int .i64 (c:Int)] w (.int .i64 (QbR s at' c)):=by
 refine eN3 Tryz.func72 Tryz.ntmps72 ?_
 refine aT13 ?_
 refine aU3 ?_
 refine Qt (α:=Nat) [7,8,11,12,13,14,15,16,17,18,19,20,21,22,23] (λj=>[(8,.int .i64 ((j:Int)-1)),(7,.int .i64 (QbR s (at'+j) (c-j)))]) (λ_=>_) (λj=>j<=c) (λj=>j) c (Nat.le_refl _) (by rw[Nat.sub_self];exact aSx) (λw h=>h) (λj hj=>?_)
 refine aU6 ?_
 refine sCd rfl (λh1=>?_) λh1=>?_
 ·obtain⟨i,rfl⟩:∃i,j=i+1:=⟨j-1,om⟩
  have hst:QbR s (at'+i) (c-i)=at1 s (at'+i)+256*QbR s (at'+(i+1)) (c-(i+1)):=by rw[show c-i=(c-(i+1))+1 by omega,QbR];rfl
  have hb1:=QcA s (at'+i)
  have hn6:=QuV s (at'+(i+1)) (k:=c-(i+1)) om
  have hb9:=(s.getD (at'+i) 0).toNat_lt
  refine aT6 ?_
  refine aT4 ?_
  refine Qm (show _=Value.int .i64 ((at'+i:Nat):Int)from by congr 1;omega) (o_p (Xk rfl rfl rfl Tryz.underlying9 (at'+i) om om) rfl ?_)
  refine o_p (Qp rfl rfl Zh YP) rfl ?_
  try refine oWr ?_
  refine aT ?_
  refine Qm (show _=Value.int .i64 (QbR s (at'+i) (c-i))from by rw[hst];congr 1;show _*256+at1 s (at'+i)=_;omega) (aT6 ?_)
  refine aU2 ?_
  exact QO i om om (by rw[show((i:Int)-1)=((i+1:Nat):Int)-1-1 from om];exact aSx) (λw h=>h)
 obtain rfl:j=0:=om
 rw[Nat.add_zero,Nat.sub_zero]
 refine Qh rfl ?_
 refine aU5 ?_
 exact rV
theorem QsW(w:World)(b:Bool):CR 151 #[.bool b] w (.int .i64 (if b then 1 else 0)):=by
 refine eN1 Tryz.func151 Tryz.ntmps151 ?_
 refine aU9 ?_
 refine sCd rfl (λh1=>?_) λh1=>?_
 ·refine aU4 ?_
  exact rV (h:=by simp_all[QX])
 refine aU5 ?_
 exact rV (h:=by simp_all[QX])
theorem c35(w:World)(n:Int):CR 35 #[.int .i64 n] w (.bool (decide (0<=n)&&decide (n<=2147483647))):=by
 refine eN1 Tryz.func35 Tryz.ntmps35 ?_
 refine aU7 ?_
 refine oCq rfl (λw1 h1=>c40 w1 _ _ _) (aU2 ?_)
 exact rV
theorem QrQ(w:World)(a b:Int):CR 133 #[.int .i64 a,.int .i64 b] w (.int .i64 (X9 a b)):=by
 refine eN2 Tryz.func133 Tryz.ntmps133 ?_
 refine aU9 ?_
 refine oCq rfl (λw1 h1=>QsW w1 _) (aU3 ?_)
 refine oCq rfl (λw1 h1=>QsW w1 _) (aU ?_)
 refine Qm (show _=Value.int .i64 (X9 a b)from Qre a b) (aU2 ?_)
 exact rV
theorem c134(w:World)(c:Int)(h0:0<=c/\c<=255):CR 134 #[.int .i64 c] w (.int .i64 (Qho c)):=by
 refine eN1 Tryz.func134 Tryz.ntmps134 ?_
 refine aU8 ?_
 refine oCq rfl (λw1 h1=>c40 w1 _ _ _) (aU ?_)
 refine sCd rfl (λh1=>?_) λh1=>?_
 ·have hz:Qho c=c-97+65:=by have hq:=h1;unfold Qho;rw[if_pos (by first|exact hq|(simp at hq;omega))];omega
  refine aT4 ?_
  refine aT ?_
  refine aU2 ?_
  exact rV (h:=by rw[hz];rfl)
 have hz:Qho c=c:=by have hq:=h1;unfold Qho;rw[if_neg (by intro h9;first|exact hq h9|(simp at hq;omega))]
 refine aU6 ?_
 exact rV (h:=by rw[hz];rfl)
theorem QB:tsl Tryz.prog 139=some (5,1,1):=by kernel_rfl
theorem Qen:tsz Tryz.prog 5=some (1,false):=by kernel_rfl
instance:TSz Tryz.prog 5 1 false:=⟨Qen⟩
theorem Ys:tki Tryz.prog 188=some .u16:=by kernel_rfl
theorem QJ:Tryz.prog.follows .mixedOrders=true:=by kernel_rfl
theorem Qqn:QK Tryz.prog 268=true:=by kernel_rfl
theorem Y3:tki Tryz.prog 190=some .u32:=by kernel_rfl
instance:TFn Tryz.prog 255:=⟨by kernel_rfl⟩
instance:TFn Tryz.prog 256:=⟨by kernel_rfl⟩
theorem QpL:Qu3 Tryz.prog 254:=⟨_,Tryz.func254,rfl,rfl,by kernel_rfl,by kernel_rfl⟩
instance:TFn Tryz.prog 226:=⟨by kernel_rfl⟩
theorem c268(w:World)(a:Option Addr)(m cap:Nat)(x:List UInt8)(hs:Vl w a (x.map bv))(hm:x.length=m)(h2:2<=m)(hc:m<=cap)(hc9:cap<=9223372036854775807):CR 268 #[.slice a m cap] w (.int .u16 (at2 x 0)):=by
 refine eN1 Tryz.func268 Tryz.ntmps268 ?_
 refine aU5 ?_
 refine Qz [] QJ ?_
 refine dP 0 ?_
 refine dV 1 rfl (Qa rfl rfl rfl QB 0 rfl om (hs.some (by rw[List.length_map];omega))) (dQ 2 [] rfl (Qb rfl rfl Qen ((hs.rd (i:=0) (Qaj (l:=x) (k:=0) om)))) (dV 3 rfl (Qp rfl rfl Zh Ys) (dP 4 ?_)))
 refine dV 5 rfl (Qa rfl rfl rfl QB 1 rfl om (hs.some (by rw[List.length_map];omega))) (dQ 6 [] rfl (Qb rfl rfl Qen ((hs.rd (i:=1) (Qaj (l:=x) (k:=1) om)))) (dV 7 rfl (Qp rfl rfl Zh Ys) (dV 8 rfl (Qfp rfl rfl rfl (by decide) 8 rfl) (dP 9 ?_))))
 refine dP 10 ?_
 refine dNi ?_
 exact rV (h:=by rw[<-QjV];rfl)
theorem c255(w:World)(a:Option Addr)(m cap:Nat)(x:List UInt8)(hs:Vl w a (x.map bv))(hm:x.length=m)(h2:4<=m)(hc:m<=cap)(hc9:cap<=9223372036854775807):CR 255 #[.slice a m cap] w (.int .u32 (at4 x 0)):=by
 have hx2:=QaV x 0
 have hx3:=QaV x 2
 refine eN1 Tryz.func255 Tryz.ntmps255 ?_
 refine aU5 ?_
 refine Qz [] QJ ?_
 refine dP 0 ?_
 refine dQ 1 [] rfl (Qr rfl Qqn rfl (λw1 h1=>c268 w1 a m cap x (hs.later h1) hm om hc hc9)) (dV 2 rfl (Qp rfl rfl Ys Y3) (dP 3 ?_))
 refine dV 4 rfl (QA _ _ 2 m rfl rfl QB ⟨_,_,rfl,rfl⟩ rfl om om) (dQ 5 [] rfl (Qr rfl Qqn rfl (λw1 h1=>c268 w1 (XU a cap 2 1) (m-2) (cap-2) (x.drop 2) (by rw[List.map_drop];exact(hs.later h1).drop (by rw[List.length_map];omega) om) (by rw[List.length_drop];omega) om om om)) (dV 6 rfl (Qp rfl rfl Ys Y3) (dV 7 rfl (Qfp rfl rfl rfl (by decide) 16 rfl) (dP 8 ?_))))
 refine dP 9 ?_
 refine dNi ?_
 exact rV (h:=by have h9:=QjB (at2 x 0) (at2 (x.drop 2) 0) (QaV _ _) (QaV _ _);rw[Qba]at h9 ⊢;exact(congrArg Ending.returned h9))
theorem Qvi(w:World)(s:List UInt8)(p:Nat)(hm:s.length<=1000000)(hp:p+4<=s.length):CR 227 #[.string (bs s),.int .i64 (p:Int)] w (.int .u32 (at4 s p)):=by
 have h4:=QiL s p
 have hdl:(s.drop p).length=s.length-p:=List.length_drop
 refine eN2 Tryz.func227 Tryz.ntmps227 ?_
 refine aU8 ?_
 refine o_p (YM p rfl rfl rfl Tryz.underlying9 rfl om) rfl (o_h (QaK rfl rfl Tryz.underlying9 Tryz.underlying139 Tryz.underlying5 rfl (by simp only[maxLen];omega)) rfl (λ⟨b1,c2⟩⟨h3,k4⟩=>oCq rfl (λw1 h1=>by have h9:=c255 w1 (some ⟨b1,0,none⟩) (s.drop p).length c2 (s.drop p) (h1.vl_blk aPk) rfl om (by assumption) (by have hq9:c2<=maxLen:=(by assumption);simp only[maxLen]at hq9;omega);rw[Qgo,Nat.add_zero]at h9;exact h9) (aU2 ?_)))
 exact rV
theorem c256(w:World)(x:Int):CR 256 #[.int .u32 x] w (.bool false):=by
 refine eN1 Tryz.func256 Tryz.ntmps256 ?_
 refine QbK ?_
 exact rV (h:=by simp[QX])
theorem c228(w:World)(x y:Int):CR 228 #[.int .u32 x,.int .u32 y] w (.int .i64 (X9 x y)):=by
 refine eN2 Tryz.func228 Tryz.ntmps228 ?_
 refine aU7 ?_
 refine oCq rfl (λw1 h1=>c256 w1 _) (aU5 ?_)
 refine oCq rfl (λw1 h1=>c256 w1 _) (aU7 ?_)
 refine sCd rfl (λh1=>?_) λh1=>?_
 ·exfalso;simp at h1
 refine aU6 ?_
 refine sCd rfl (λh2=>?_) λh2=>?_
 ·exfalso;simp at h2
 refine aU8 ?_
 refine sCd rfl (λh3=>?_) λh3=>?_
 ·have hz:X9 x y= -1:=by have hq:=h3;unfold X9;rw[if_pos hq]
  refine aU4 ?_
  exact rV (h:=by rw[hz];rfl)
 refine aU8 ?_
 refine sCd rfl (λh4=>?_) λh4=>?_
 ·have hz:X9 x y=1:=by have hq:=h4;unfold X9;rw[if_neg om,if_pos hq]
  refine aU4 ?_
  exact rV (h:=by rw[hz];rfl)
 have hz:X9 x y=0:=by have hq:=h4;unfold X9;rw[if_neg om,if_neg hq]
 refine aU5 ?_
 exact rV (h:=by rw[hz];rfl)
theorem c226(w:World)(a b:List UInt8):CR 226 #[.string (bs a),.string (bs b)] w (.int .i64 (Qch a b)):=by
 refine eN2 Tryz.func226 Tryz.ntmps226 ?_
 refine aU8 ?_
 refine o_q (Qfg rfl rfl rfl QpL) rfl (aU2 ?_)
 exact rV
theorem c184(w:World)(a b:List UInt8):CR 184 #[.string (bs a),.string (bs b)] w (.int .i64 (Qch a b)):=by
 refine eN2 Tryz.func184 Tryz.ntmps184 ?_
 refine aU8 ?_
 refine oCq rfl (λw1 h1=>c226 w1 _ _) (aU2 ?_)
 exact rV
instance:TFn Tryz.prog 227:=⟨by kernel_rfl⟩
instance:TFn Tryz.prog 228:=⟨by kernel_rfl⟩
instance:TFn Tryz.prog 189:=⟨by kernel_rfl⟩
def QbC(s:List UInt8)(q:Nat):Bool:=(List.range q).all λi=>Qfq s (4*i)
theorem QoB{s:List UInt8}{q k:Nat}(hk:k<q)(h:2147483647<at4 s (4*k)):QbC s q=false:=by
  unfold QbC;rw[List.all_eq_false];exact⟨k,List.mem_range.2 hk,by unfold Qfq;simp;omega⟩
theorem Qk2{s:List UInt8}{k:Nat}(h:QbC s k=true)(h2:¬2147483647<at4 s (4*k)):QbC s (k+1)=true:=by
  unfold QbC at h ⊢;rw[List.range_succ,List.all_append,h];unfold Qfq;simp;omega
def QcC(a b:List UInt8):Nat->Nat->Int
  | 0,_=>0
  | f+1,k=>if X9 (at4 a (4*k)) (at4 b (4*k))≠0 then X9 (at4 a (4*k)) (at4 b (4*k))else QcC a b f (k+1)
theorem c189(w:World)(s:List UInt8)(q:Nat)(hm:s.length<=1000000)(hq:q<=1000):CR 189 #[.string (bs s),.int .i64 ((4*q:Nat):Int)] w (.bool (decide (s.length=4*q)&&QbC s q)):=by
 refine eN2 Tryz.func189 Tryz.ntmps189 ?_
 refine aU8 ?_
 refine o_p (Qg rfl rfl Tryz.underlying9) rfl (aU3 ?_)
 refine sCd rfl (λh1=>?_) λh1=>?_
 ·have hne:¬s.length=4*q:=by have hq9:=h1;omega
  refine aU4 ?_
  exact rV (h:=by simp[QX,hne])
 have heq:s.length=4*q:=by have hq9:=h1;omega
 refine aU7 ?_
 refine Qt (α:=Nat) [4,5,10,11,12,13,14,15,16,17,18] (λk=>[(5,.int .i64 ((4*k:Nat):Int))]) (λ_=>_) (λk=>k<=q/\QbC s k=true) (λk=>q-k) 0 ⟨Nat.zero_le _,rfl⟩ aSx (λw h=>h) (λk hx=>?_)
 obtain⟨hk1,hok⟩:=hx
 refine aU7 ?_
 refine sCd rfl (λh2=>?_) λh2=>?_
 ·have hk:k<q:=by omega
  refine aU7 ?_
  refine oCq rfl (λw1 h1=>Qvi w1 s (4*k) om om) (aU2 ?_)
  refine sCd rfl (λh3=>?_) λh3=>?_
  ·have hz:=QoB hk h3
   refine aU4 ?_
   exact rV (h:=by simp[QX,hz])
  have hz:=Qk2 hok h3
  refine aT5 ?_
  refine aU2 ?_
  exact QO (k+1) om ⟨om,hz⟩ (by rw[show(((4*k:Nat)):Int)+4=((4*(k+1):Nat):Int)from om];exact aSx) (λw h=>h)
 obtain rfl:k=q:=om
 refine Qh rfl ?_
 refine aU4 ?_
 exact rV (h:=by simp[QX,heq,hok])
theorem c190(w:World)(a b:List UInt8)(q:Nat)(ha:a.length=4*q)(hb:b.length=4*q)(hq:q<=1000):CR 190 #[.string (bs a),.string (bs b)] w (.int .i64 (QcC a b q 0)):=by
 refine eN2 Tryz.func190 Tryz.ntmps190 ?_
 refine YR ?_
 refine Qt (α:=Nat) [4,5,6,7,8,9,10,11,12,13,14,15,16,17,18,19,20,21,22] (λk=>[(5,.int .i64 ((4*k:Nat):Int))]) (λ_=>_) (λk=>k<=q/\QcC a b q 0=QcC a b (q-k) k) (λk=>q-k) 0 ⟨Nat.zero_le _,rfl⟩ aSx (λw h=>h) (λk hx=>?_)
 obtain⟨hk1,hx2⟩:=hx
 refine aU5 ?_
 refine o_p (Qg rfl rfl Tryz.underlying9) rfl (aU2 ?_)
 refine sCd rfl (λh1=>?_) λh1=>?_
 ·have hk:k<q:=by omega
  have hst:QcC a b (q-k) k=if X9 (at4 a (4*k)) (at4 b (4*k))≠0 then X9 (at4 a (4*k)) (at4 b (4*k))else QcC a b (q-(k+1)) (k+1):=by rw[show q-k=(q-(k+1))+1 by omega,QcC]
  refine aU7 ?_
  refine oCq rfl (λw1 h1=>Qvi w1 a (4*k) om om) (aU2 ?_)
  refine oCq rfl (λw1 h1=>Qvi w1 b (4*k) om om) (oCq rfl (λw1 h1=>c228 w1 _ _) (aU7 ?_))
  refine sCd rfl (λh2=>?_) λh2=>?_
  ·have hq9:X9 (at4 a (4*k)) (at4 b (4*k))≠0:=h2
   rw[hst,if_pos hq9]at hx2
   refine aU5 ?_
   exact rV (h:=by rw[hx2];rfl)
  have hq9:¬X9 (at4 a (4*k)) (at4 b (4*k))≠0:=by have hq8:=h2;simpa using hq8
  rw[hst,if_neg hq9]at hx2
  refine aT5 ?_
  refine aU2 ?_
  exact QO (k+1) om ⟨om,hx2⟩ (by rw[show(((4*k:Nat)):Int)+4=((4*(k+1):Nat):Int)from om];exact aSx) (λw h=>h)
 obtain rfl:k=q:=om
 rw[Nat.sub_self,QcC]at hx2
 refine Qh rfl ?_
 refine aU4 ?_
 exact rV (h:=by rw[hx2];rfl)
theorem c188(w:World)(s:List UInt8)(hm:s.length<=1000000):CR 188 #[.string (bs s)] w (.bool (QZ 2 s)):=by
 refine eN1 Tryz.func188 Tryz.ntmps188 ?_
 refine aU7 ?_
 refine oCq rfl (λw1 h1=>c189 w1 s 1 hm (by decide)) (aU2 ?_)
 exact rV (h:=by simp[QX,QZ,QbC,List.range_succ,List.range_zero])
theorem c191(w:World)(s:List UInt8)(hm:s.length<=1000000):CR 191 #[.string (bs s)] w (.bool (QZ 3 s)):=by
 refine eN1 Tryz.func191 Tryz.ntmps191 ?_
 refine aU7 ?_
 refine oCq rfl (λw1 h1=>c189 w1 s 2 hm (by decide)) (aU2 ?_)
 exact rV (h:=by simp[QX,QZ,QbC,List.range_succ,List.range_zero])
theorem c183(w:World)(s:List UInt8):CR 183 #[.string (bs s)] w (.bool (QZ 0 s)):=by
 refine eN1 Tryz.func183 Tryz.ntmps183 ?_
 refine aU7 ?_
 refine o_p (Qg rfl rfl Tryz.underlying9) rfl (oCq rfl (λw1 h1=>Qoj w1 _ _ _) (aU2 ?_))
 exact rV (h:=by simp[QX,QZ,Bool.decide_and];first|done|(congr 1<;>simp<;>omega)|grind)
theorem c185(w:World)(s:List UInt8):CR 185 #[.string (bs s)] w (.bool (QZ 1 s)):=by
 refine eN1 Tryz.func185 Tryz.ntmps185 ?_
 refine aU7 ?_
 refine o_p (Qg rfl rfl Tryz.underlying9) rfl (oCq rfl (λw1 h1=>Qoj w1 _ _ _) (aU2 ?_))
 exact rV (h:=by simp[QX,QZ,Bool.decide_and];first|done|(congr 1<;>simp<;>omega)|grind)
theorem QpG:QS Tryz.prog 181=some [.nilFunc,.nilFunc,.nilFunc,.nilFunc,.nilFunc,.nilFunc,.nilFunc,.nilFunc]:=by kernel_rfl
theorem Qiw:Y2 Tryz.prog 164=some [(0,1),(1,1)]:=by kernel_rfl
theorem Qjg:QS Tryz.prog 164=some [.nilFunc,.nilFunc]:=by kernel_rfl
theorem Qiz:tar Tryz.prog 181=some (4,164,2):=by kernel_rfl
theorem QpW:tsz Tryz.prog 181=some (8,true):=by kernel_rfl
instance:TSz Tryz.prog 181 8 true:=⟨QpW⟩
theorem Qsh:QK Tryz.prog 127=true:=by kernel_rfl
instance:TFn Tryz.prog 127:=⟨Qsh⟩
theorem Qik:tsz Tryz.prog 164=some (2,true):=by kernel_rfl
instance:TSz Tryz.prog 164 2 true:=⟨Qik⟩
theorem Qr9:tfd Tryz.prog 164 0=some (0,103):=by kernel_rfl
theorem QvM:tsz Tryz.prog 103=some (1,false):=by kernel_rfl
def QeX(co:Int):Nat:=if co=0 then 183 else if co=1 then 185 else if co=2 then 188 else 191
def QeZ(co:Int):Nat:=if co=0 then 184 else if co=1 then 186 else 190
def Qbo(f:Nat):Value:=.func (.func f) #[] #[]
def ordV(co:Int):Value:=.agg #[Qbo (QeX co),Qbo (QeZ co)]
theorem Qwh(w:World):CR 127 #[] w (.agg #[Qbo (QeX 0),Qbo (QeZ 0),Qbo (QeX 1),Qbo (QeZ 1),Qbo (QeX 2),Qbo (QeZ 2),Qbo (QeX 3),Qbo (QeZ 3)]):=by
 refine eN0 Tryz.func127 Tryz.ntmps127 ?_
 refine aU2 ?_
 refine oAl (λb1 _=>?_) QpG
 refine aU3 ?_
 refine o_p (QE (cs:=[_,_]) rfl rfl Qiw Qjg rfl) rfl (o_p (QE (cs:=[_,_]) rfl rfl Qiw Qjg rfl) rfl (o_p (QE (cs:=[_,_]) rfl rfl Qiw Qjg rfl) rfl (o_p (QE (cs:=[_,_]) rfl rfl Qiw Qjg rfl) rfl (o_p (Qfr (cs:=[_,_,_,_,_,_,_,_]) rfl rfl Qiz QpG rfl) rfl (aU2 ?_)))))
 exact Ql (rs:=[.cell 0 181]) rfl (.cell rfl QpW aPk rfl (.nil)) (λw' h'=>⟨by rfl,h'.below⟩)
theorem Quv(co:Int):QK Tryz.prog (QeX co)=true:=by
  unfold QeX;split
  · kernel_rfl
  · split
    · kernel_rfl
    · split<;>kernel_rfl
theorem Qos(w:World)(j:Nat)(s:List UInt8)(hj:j<=3)(hm:s.length<=1000000):Calls Tryz.prog (QeX (j:Int)) #[.string (bs s)] w λen w'=>en=.returned (.bool (QZ (j:Int) s))/\Below w.heap.size w w':=by
  match j,hj with
  | 0,_=>exact c183 w s
  | 1,_=>exact c185 w s
  | 2,_=>exact c188 w s hm
  | 3,_=>exact c191 w s hm
theorem Qg7(j:Nat)(hj:j<=3):Value.agg (cut [Qbo (QeX 0),Qbo (QeZ 0),Qbo (QeX 1),Qbo (QeZ 1),Qbo (QeX 2),Qbo (QeZ 2),Qbo (QeX 3),Qbo (QeZ 3)] (j*2) 2).toArray=ordV (j:Int):=by
  match j,hj with
  | 0,_=>rfl
  | 1,_=>rfl
  | 2,_=>rfl
  | 3,_=>rfl
theorem QvV(w:World)(j:Nat)(s:List UInt8)(hj:j<=3)(hm:s.length<=1000000):CR 126 #[.int .i64 (j:Int),.string (bs s)] w (.int .i64 (Yh (j:Int) s)):=by
 refine eN2 Tryz.func126 Tryz.ntmps126 ?_
 refine aU6 ?_
 refine oCq rfl (λw1 h1=>Qwh w1) (aU ?_)
 refine o_p (Qd0 rfl rfl rfl Qiz Qik j rfl om) rfl (Qm (Qg7 j hj) (o_p (Qgt rfl rfl Qr9 QvM rfl) rfl (aU ?_)))
 refine o_q (YS rfl rfl (Quv _) rfl (λw1 h1=>Qos w1 j s hj hm)) rfl (oCq rfl (λw1 h1=>Qd8 w1 _ _) (aU2 ?_))
 exact rV (h:=by simp only[QX,Yh,cond_eq_ite])
instance:TFn Tryz.prog 187:=⟨by kernel_rfl⟩
instance:TFn Tryz.prog 184:=⟨by kernel_rfl⟩
theorem bset{L:List UInt8}{k:Nat}{x:UInt8}{v:Value}(h:k<L.length)(hv:v=bv x):Qi (L.map bv) (k*1) [v]=(L.set k x).map bv:=by
  subst hv;have h9:=Qj6 (vals:=byV) (sz:=1) (λ_=>rfl) L k 0 [bv x] (L.getD k 0) x (by rw[List.getElem?_eq_getElem h,List.getD_eq_getElem?_getD,List.getElem?_eq_getElem h];rfl) rfl (by simp);rw[Nat.add_zero]at h9;have e:∀M:List UInt8,M.flatMap byV=M.map bv:=λM=>Qrp bv M;rw[e,e]at h9;exact h9
def Qdl(s:List UInt8)(k:Nat):List UInt8:=(s.map Qdk).take k++s.drop k
theorem QcE{s:List UInt8}{k:Nat}(h:k<=s.length):(Qdl s k).length=s.length:=by simp[Qdl];omega
theorem Qju{s:List UInt8}{k:Nat}(h:k<s.length):(Qdl s k).getD k 0=s.getD k 0:=by
  unfold Qdl;rw[List.getD_eq_getElem?_getD,List.getElem?_append_right (by simp;omega),List.getElem?_drop,List.getD_eq_getElem?_getD];congr 2;simp;omega
theorem Qkl{s:List UInt8}{k:Nat}(h:k<s.length):(Qdl s k).set k (Qdk (s.getD k 0))=Qdl s (k+1):=by
  unfold Qdl;apply List.ext_getElem?;intro j;simp only[List.getElem?_set,List.getElem?_append,List.getElem?_take,List.getElem?_drop,List.length_append,List.length_take,List.length_map,List.length_drop,List.getElem?_map,List.getD_eq_getElem?_getD];have hk:=List.getElem?_eq_getElem h
  grind
theorem QuH(s:List UInt8):Qdl s 0=s:=by simp[Qdl]
theorem Qrg(s:List UInt8):Qdl s s.length=s.map Qdk:=by
  unfold Qdl;rw[List.drop_length,List.append_nil,List.take_of_length_le (by simp)]
theorem QoU{s:List UInt8}{k:Nat}(h:k<s.length)(hc:Qdk (s.getD k 0)=s.getD k 0):Qdl s k=Qdl s (k+1):=by
  rw[<-Qkl h,hc];apply List.ext_getElem?;intro j;rw[List.getElem?_set];split
  · rename_i e;subst e;rw[<-Qju h,List.getD_eq_getElem?_getD];rw[if_pos (by rw[QcE om];exact h),List.getElem?_eq_getElem (by rw[QcE om];exact h)];rfl
  · rfl
theorem Qqy{x:UInt8}(h:97<=x.toNat/\x.toNat<=122):Value.int .u8 (IntKind.u8.wrap (IntKind.u8.wrap ((x.toNat:Int)-97)+65))=bv (Qdk x):=by
  have h2:=Qgf x;unfold Qho at h2;rw[if_pos om]at h2;rw[show(x.toNat:Int)-97=((x.toNat-97:Nat):Int) by omega,QmZ _ om,show((x.toNat-97:Nat):Int)+65=((x.toNat-32:Nat):Int) by omega,QmZ _ om];unfold bv;exact congrArg (Value.int .u8) om
theorem QvF{x:UInt8}(h:¬(97<=x.toNat/\x.toNat<=122)):Qdk x=x:=by
  have h2:=Qgf x;unfold Qho at h2;rw[if_neg om]at h2;exact UInt8.toNat_inj.1 om
theorem c187(w:World)(s:List UInt8)(hm:s.length<=1000000):CR 187 #[.string (bs s)] w (.string (bs (s.map Qdk))):=by
 refine eN1 Tryz.func187 Tryz.ntmps187 ?_
 refine aU7 ?_
 refine o_h (QaK rfl rfl Tryz.underlying9 Tryz.underlying139 Tryz.underlying5 rfl (by simp only[maxLen];omega)) rfl (λ⟨b1,c2⟩⟨h3,k4⟩=>YR ?_)
 refine Qt (α:=Nat) [4,5,10,11,12,13,14,15,16,17,18,19,20,21,22,23,24,25,26,27] (λk=>[(10,.int .i64 (k:Int))]) (λk=>HS w [] [.blk b1 5 c2 ((Qdl s k).map bv)]) (λk=>k<=s.length) (λk=>s.length-k) 0 (Nat.zero_le _) aSx (λw h=>by rw[QuH];exact h.ent aEt) (λk hk1=>?_)
 refine aU5 ?_
 refine sCd rfl (λh5=>?_) λh5=>?_
 ·have hk:k<s.length:=by omega
  have hb9:=(s.getD k 0).toNat_lt
  refine aU6 ?_
  refine o_p (Qa rfl rfl rfl QB (k) om om rfl) rfl (o_q (XY rfl rfl Qen (λw h=>by rw[Nat.zero_add];exact h.rd_blk (Mc:=[]) aPk (by rw[Nat.mul_one,Qaj (by rw[QcE hk1];exact hk),Qju hk]) (by simp))) rfl (aU8 ?_))
  refine XP 3 17 20 rfl
   (λhg6 _=>by
    refine aU4 ?_
    exact oJt 3 20)
   (λhg8 _=>by
    refine aU2 ?_
    exact oJf 3 20) ?_
  refine aU ?_
  refine Ye (α:=Unit) [21,22,23,24,25,26] (λ_=>[]) (λ_=>HS w [] [.blk b1 5 c2 ((Qdl s (k+1)).map bv)]) (λ_=>True) ?_ ?_
  ·skip
   refine sCd rfl (λh10=>?_) λh10=>?_
   ·have hcc:97<=(s.getD k 0).toNat/\(s.getD k 0).toNat<=122:=by have hq:=h10;omega
    refine aU6 ?_
    try (refine Qm (u8add _ _) ?_)
    refine Qm (Qqy hcc) (o_p (Qa rfl rfl rfl QB (k) om om rfl) rfl (Qm (show _=Value.pointer (some ⟨b1,k*1,none⟩)from by rw[Nat.zero_add]) (Qkv (Qb1 rfl rfl rfl Qen rfl aPt (by rw[List.length_map,QcE hk1];omega) rfl) (λ_ _=>aU ?_))))
    exact Qo () trivial aSx (λw h=>by have h2:=HS.blk_to (b:=b1) h aPk (bset (L:=Qdl s k) (x:=Qdk (s.getD k 0)) (by rw[QcE hk1];exact hk) rfl);rw[Qkl hk]at h2;exact h2.ent aEt)
   have hno:Qdk (s.getD k 0)=s.getD k 0:=QvF (by have hq:=h10;omega)
   refine aU ?_
   exact Qo () trivial aSx (λw h=>by rw[<-QoU hk hno];exact h.ent aEt)
  intro _ _
  refine aT3 ?_
  refine aU2 ?_
  exact sBk (k+1)
 obtain rfl:k=s.length:=om
 rw[Qrg]
 refine Qh rfl ?_
 refine aU3 ?_
 refine o_q (Yl rfl rfl Tryz.underlying139 Tryz.underlying9 Tryz.underlying5 aPk (by simp[List.length_map]) (Zp _)) rfl (aU2 ?_)
 exact rV (h:=by simp only[YG];rfl)
theorem c186(w:World)(a b:List UInt8)(ha:a.length<=1000000)(hb:b.length<=1000000):CR 186 #[.string (bs a),.string (bs b)] w (.int .i64 (Qch (a.map Qdk) (b.map Qdk))):=by
 refine eN2 Tryz.func186 Tryz.ntmps186 ?_
 refine aU7 ?_
 refine oCq rfl (λw1 h1=>c187 w1 a ha) (aU ?_)
 refine oCq rfl (λw1 h1=>c187 w1 b hb) (oCq rfl (λw1 h1=>c184 w1 _ _) (aU2 ?_))
 exact rV
theorem Qq1:QK Tryz.prog 126=true:=by kernel_rfl
instance:TFn Tryz.prog 126:=⟨Qq1⟩
theorem QjU:tfd Tryz.prog 164 1=some (1,162):=by kernel_rfl
instance:TFd Tryz.prog 164 1 1 162:=⟨QjU⟩
theorem Qe2:tsz Tryz.prog 162=some (1,false):=by kernel_rfl
instance:TSz Tryz.prog 162 1 false:=⟨Qe2⟩
theorem QsK(a b:List UInt8):QcC a b 1 0=Xt 2 a b:=by
  simp only[QcC,Xt,Nat.mul_zero];split
  · rfl
  · rename_i h;simp only[ne_eq,Decidable.not_not]at h;rw[h];rfl
theorem Qtc(a b:List UInt8):QcC a b 2 0=Xt 3 a b:=by
  have e:Xt 3 a b=if X9 (at4 a 0) (at4 b 0)≠0 then X9 (at4 a 0) (at4 b 0)else X9 (at4 a 4) (at4 b 4):=rfl
  rw[e];show(if X9 (at4 a 0) (at4 b 0)≠0 then X9 (at4 a 0) (at4 b 0)else if X9 (at4 a 4) (at4 b 4)≠0 then X9 (at4 a 4) (at4 b 4)else 0)=_
  by_cases h:X9 (at4 a 0) (at4 b 0)≠0
  · rw[if_pos h,if_pos h]
  · rw[if_neg h,if_neg h];split
    · rfl
    · rename_i h2;simp only[ne_eq,Decidable.not_not]at h2;exact h2.symm
theorem QfS{s:List UInt8}(h:QZ 2 s=true):s.length=4:=by
  unfold QZ at h;simp at h;exact h.1
theorem QfW{s:List UInt8}(h:QZ 3 s=true):s.length=8:=by
  unfold QZ at h;simp at h;exact h.1
theorem Qf1(co:Int):QK Tryz.prog (QeZ co)=true:=by
  unfold QeZ;split
  · kernel_rfl
  · split<;>kernel_rfl
theorem Qbx(w:World)(j:Nat)(a b:List UInt8)(hj:j<=3)(hka:QZ (j:Int) a=true)(hkb:QZ (j:Int) b=true)(ha:a.length<=1000000)(hb:b.length<=1000000):Calls Tryz.prog (QeZ (j:Int)) #[.string (bs a),.string (bs b)] w λen w'=>en=.returned (.int .i64 (Xt (j:Int) a b))/\Below w.heap.size w w':=by
  match j,hj with
  | 0,_=>exact c184 w a b
  | 1,_=>exact c186 w a b ha hb
  | 2,_=>
    have h:=c190 w a b 1 (QfS hka) (QfS hkb) (by decide);rw[QsK]at h;exact h
  | 3,_=>
    have h:=c190 w a b 2 (QfW hka) (QfW hkb) (by decide);rw[Qtc]at h;exact h
theorem keyE_ok{co:Int}{k:List UInt8}(h:Yh co k=0):QZ co k=true:=by
  unfold Yh at h;split at h
  · assumption
  · cases h
def Qjs(co:Int)(a b:List UInt8):Int:=if Qv co=0 then if Yh co a=0 then Yh co b else Yh co a else Qv co
theorem Qie{co:Int}(h:Qv co=0):∃j:Nat,co=(j:Int)/\j<=3:=by
  unfold Qv at h;split at h
  · exact⟨co.toNat,om,om⟩
  · cases h
theorem c58(w:World)(co:Int)(a b:List UInt8)(ha:a.length<=1000000)(hb:b.length<=1000000):CR 58 #[.int .i64 co,.string (bs a),.string (bs b)] w (.tuple #[.int .i64 (if Qjs co a b=0 then Xt co a b else 0),.int .i64 (Qjs co a b)]):=by
 refine eN3 Tryz.func58 Tryz.ntmps58 ?_
 refine aU9 ?_
 refine oCq rfl (λw1 h1=>c124 w1 _) (aU7 ?_)
 refine sCd rfl (λh1=>?_) λh1=>?_
 ·have h0:¬Qv co=0:=h1
  have hz:Qjs co a b=Qv co:=by unfold Qjs;rw[if_neg h0]
  refine aU6 ?_
  exact Ql (rs:=[.tmp 6,.tmp 7]) rfl (.tmp rfl (.tmp rfl (.nil))) (λw' h'=>⟨by rw[hz,if_neg h0];rfl,h'.below⟩)
 have h0:Qv co=0:=h1
 obtain⟨j,rfl,hj⟩:=Qie h0
 have hz:Qjs (j:Int) a b=Xp [.int .i64 (Yh (j:Int) a),.int .i64 (Yh (j:Int) b)]:=by rw[QbU];unfold Qjs;rw[if_pos h0]
 refine aU6 ?_
 refine oCq rfl (λw1 h1=>QvV w1 j a hj ha) (aU2 ?_)
 refine oCq rfl (λw1 h1=>QvV w1 j b hj hb) (o_h (Qk (cs:=[_,_]) rfl rfl Yq ZY rfl rfl rfl) rfl (λb2 _=>oCq rfl (λw1 h1=>Qot h1 aPk (by rfl) (by rfl) (by decide)) (aU7 ?_)))
 refine sCd rfl (λh3=>?_) λh3=>?_
 ·have h1:¬Xp [.int .i64 (Yh (j:Int) a),.int .i64 (Yh (j:Int) b)]=0:=h3
  refine aU6 ?_
  exact Ql (rs:=[.tmp 6,.tmp 7]) rfl (.tmp rfl (.tmp rfl (.nil))) (λw' h'=>⟨by rw[hz,if_neg h1];rfl,h'.below⟩)
 have h1:Xp [.int .i64 (Yh (j:Int) a),.int .i64 (Yh (j:Int) b)]=0:=h3
 obtain⟨hka,hkb⟩:Yh (j:Int) a=0/\Yh (j:Int) b=0:=by rw[QbU]at h1;split at h1;exact⟨by assumption,h1⟩;rename_i h9;exact absurd h1 h9
 refine aU3 ?_
 refine oCq rfl (λw1 h1=>Qwh w1) (aU ?_)
 refine o_p (Qd0 rfl rfl rfl Qiz Qik j rfl om) rfl (Qm (Qg7 j hj) (o_p (Qgt rfl rfl QjU Qe2 rfl) rfl (aU2 ?_)))
 refine o_q (YS rfl rfl (Qf1 _) rfl (λw1 h1=>Qbx w1 j a b hj (keyE_ok hka) (keyE_ok hkb) ha hb)) rfl (aU3 ?_)
 exact Ql (rs:=[.tmp 6,.tmp 7]) rfl (.tmp rfl (.tmp rfl (.nil))) (λw' h'=>⟨by rw[hz,if_pos h1,h1];rfl,h'.below⟩)
instance:TFd Tryz.prog 27 0 0 9:=⟨by kernel_rfl⟩
theorem Zu:tsz Tryz.prog 9=some (1,false):=by kernel_rfl
instance:TSz Tryz.prog 9 1 false:=⟨Zu⟩
instance:TFd Tryz.prog 27 1 1 9:=⟨by kernel_rfl⟩
theorem QkB(co:Int)(x:TEnt):Ending.returned (Value.int .i64 (if Yh co x.key=0 then cond (decide ((x.val.length:Int)<=64)) 0 8 else Yh co x.key))=Ending.returned (Value.int .i64 (Y5 co x)):=by
  unfold Y5
  by_cases h:Yh co x.key=0
  · rw[if_pos h,if_pos h]
    by_cases h2:x.val.length<=64
    · rw[if_pos h2,decide_eq_true om];rfl
    · rw[if_neg h2,decide_eq_false om];rfl
  · rw[if_neg h,if_neg h];unfold Yh at h ⊢;split at h
    · exact absurd rfl h
    · rename_i h3;rw[if_neg h3]
theorem c164(w:World)(j:Nat)(x:TEnt)(hj:j<=3)(hm:x.key.length<=1000000):CR 164 #[.int .i64 (j:Int),.agg #[.string (bs x.key),.string (bs x.val)]] w (.int .i64 (Y5 (j:Int) x)):=by
 refine eN2 Tryz.func164 Tryz.ntmps164 ?_
 refine aU2 ?_
 refine oBx λb1 _=>?_
 refine aU3 ?_
 refine Qz [] QJ ?_
 refine dP 0 ?_
 refine dFa 1 ?_
 refine dLd 2 [] ?_
 refine dQ 3 [] rfl (Qr rfl Qq1 rfl (λw1 h1=>QvV w1 j x.key hj hm)) (dFa 4 ?_)
 refine dLd 5 [] ?_
 refine dV 6 rfl (Qg rfl rfl Tryz.underlying9) (dP 7 ?_)
 refine dQ 8 [] rfl (Qr rfl QbE rfl (λw1 h1=>Qd8 w1 _ _)) (dH 9 rfl (Qk (cs:=[_,_]) rfl rfl Yq ZY rfl rfl rfl) (λb2 _=>dBa ?_))
 refine dQ 10 [] rfl (Qr rfl Qgn rfl (λw1 h1=>Qot h1 aPk (by rfl) (by rfl) (by decide))) (dP 11 ?_)
 refine dNi ?_
 exact rV (h:=by simp only[QX];rw[QbU];exact QkB _ _)
theorem Que:QK Tryz.prog 72=true:=by kernel_rfl
instance:TFn Tryz.prog 72:=⟨Que⟩
instance:TFn Tryz.prog 35:=⟨by kernel_rfl⟩
theorem kok0(s:List UInt8):QZ ((0:Nat):Int) s=(decide ((1:Int)<=(s.length:Int))&&decide ((s.length:Int)<=40)):=by
  rw[Bool.eq_iff_iff];simp[QZ];omega
theorem kok1(s:List UInt8):QZ ((1:Nat):Int) s=(decide ((1:Int)<=(s.length:Int))&&decide ((s.length:Int)<=32)):=by
  rw[Bool.eq_iff_iff];simp[QZ];omega
theorem kok2(s:List UInt8):QZ ((2:Nat):Int) s=(decide ((s.length:Int)=4)&&(decide (0<=at4 s 0)&&decide (at4 s 0<=2147483647))):=by
  have:=QiL s 0;rw[Bool.eq_iff_iff];simp[QZ,Qfq];omega
theorem kok3(s:List UInt8):QZ ((3:Nat):Int) s=(decide ((s.length:Int)=8)&&(decide (0<=at4 s 0)&&decide (at4 s 0<=2147483647))&&(decide (0<=at4 s 4)&&decide (at4 s 4<=2147483647))):=by
  have:=QiL s 0;have:=QiL s 4;rw[Bool.eq_iff_iff];simp[QZ,Qfq];omega
theorem c17(w:World)(j:Nat)(s:List UInt8)(hj:j<=3)(hm:s.length<=1000000):CR 17 #[.int .i64 (j:Int),.string (bs s)] w (.int .i64 (Yh (j:Int) s)):=by
 refine eN2 Tryz.func17 Tryz.ntmps17 ?_
 refine aU7 ?_
 refine o_p (Qg rfl rfl Tryz.underlying9) rfl (oCq rfl (λw1 h1=>c40 w1 _ _ _) (QaU ?_))
 refine Ye (α:=Unit) [5,12,13,14,15,16,17,18,19,20,21,22,23,24,25,26,27,28,29,30,31,32,33,34,35,36,37,38,39] (λ_=>[(5,.bool (QZ (j:Int) s))]) (λ_=>HS w [] []) (λ_=>True) ?_ ?_
 ·skip
  refine sCd rfl (λh1=>?_) λh1=>?_
  ·obtain rfl:j=1:=by have hq:=h1;omega
   refine aU2 ?_
   refine o_p (Qg rfl rfl Tryz.underlying9) rfl (oCq rfl (λw1 h1=>c40 w1 _ _ _) (aU2 ?_))
   exact Qo () trivial (by rw[kok1];exact aSx) (λw h=>h.ent aEt)
  have hn1:¬(j:Int)=1:=h1
  refine aU5 ?_
  refine sCd rfl (λh2=>?_) λh2=>?_
  ·obtain rfl:j=2:=by have hq:=h2;omega
   refine aU2 ?_
   refine o_p (Qg rfl rfl Tryz.underlying9) rfl (aU2 ?_)
   refine XP 4 20 24 rfl
    (λhg3 _=>by
     refine aU3 ?_
     refine oCq rfl (λw1 h1=>by have h9:=c72 w1 s 0 4 om om (by have hq:=hg3;first|omega|(simp at hq;omega));rw[Zo]at h9;exact h9) (aU ?_)
     refine oCq rfl (λw1 h1=>c35 w1 _) ?_
     exact oJt 4 24)
    (λhg5 _=>by
     refine aU3 ?_
     exact oJf 4 24) ?_
   refine aU2 ?_
   exact Qo () trivial (by rw[kok2];exact aSx) (λw h=>h.ent aEt)
  have hn2:¬(j:Int)=2:=h2
  refine aU5 ?_
  refine sCd rfl (λh7=>?_) λh7=>?_
  ·obtain rfl:j=3:=by have hq:=h7;omega
   refine aU2 ?_
   refine o_p (Qg rfl rfl Tryz.underlying9) rfl (aU2 ?_)
   refine XP 4 30 34 rfl
    (λhg8 _=>by
     refine aU3 ?_
     refine oCq rfl (λw1 h1=>by have h9:=c72 w1 s 0 4 om om (by have hq:=hg8;first|omega|(simp at hq;omega));rw[Zo]at h9;exact h9) (aU ?_)
     refine oCq rfl (λw1 h1=>c35 w1 _) ?_
     exact oJt 4 34)
    (λhg10 _=>by
     refine aU3 ?_
     exact oJf 4 34) ?_
   refine aU ?_
   refine XP 4 35 39 rfl
    (λhg12 _=>by
     refine aU3 ?_
     refine oCq rfl (λw1 h1=>by have h9:=c72 w1 s 4 4 om om (by have hq:=hg12;first|omega|(simp at hq;omega));rw[Zo]at h9;exact h9) (aU ?_)
     refine oCq rfl (λw1 h1=>c35 w1 _) ?_
     exact oJt 4 39)
    (λhg14 _=>by
     refine aU3 ?_
     exact oJf 4 39) ?_
   refine aU2 ?_
   exact Qo () trivial (by rw[kok3];exact aSx) (λw h=>h.ent aEt)
  have hn3:¬(j:Int)=3:=h7
  obtain rfl:j=0:=om
  refine aU ?_
  exact Qo () trivial (by rw[kok0];exact aSx) (λw h=>h.ent aEt)
 intro _ _
 refine aU7 ?_
 refine sCd rfl (λh16=>?_) λh16=>?_
 ·have hz:Yh (j:Int) s=3:=by have hq:=h16;unfold Yh;rw[if_neg (by simpa using hq)]
  refine aU4 ?_
  exact rV (h:=by rw[hz];rfl)
 have hz:Yh (j:Int) s=0:=by have hq:=h16;unfold Yh;rw[if_pos (by simpa using hq)]
 refine aU5 ?_
 exact rV (h:=by rw[hz];rfl)
instance:TFn Tryz.prog 17:=⟨by kernel_rfl⟩
theorem c198(w:World)(j:Nat)(x:TEnt)(hj:j<=3)(hm:x.key.length<=1000000):CR 198 #[.int .i64 (j:Int),.agg #[.string (bs x.key),.string (bs x.val)]] w (.int .i64 (Y5 (j:Int) x)):=by
 refine eN2 Tryz.func198 Tryz.ntmps198 ?_
 refine aU2 ?_
 refine oBx λb1 _=>?_
 refine aU8 ?_
 refine oCq rfl (λw1 h1=>c17 w1 j x.key hj hm) (aU7 ?_)
 refine sCd rfl (λh2=>?_) λh2=>?_
 ·have h0:¬Yh (j:Int) x.key=0:=h2
  have hz:Y5 (j:Int) x=Yh (j:Int) x.key:=by have h9:=QkB (j:Int) x;rw[if_neg h0]at h9;injection h9 with h9;injection h9 with _ h9;exact h9.symm
  refine aU5 ?_
  exact rV (h:=by rw[hz];rfl)
 have h0:Yh (j:Int) x.key=0:=h2
 refine aU6 ?_
 refine o_p (Qg rfl rfl Tryz.underlying9) rfl (aU2 ?_)
 refine sCd rfl (λh3=>?_) λh3=>?_
 ·have hz:Y5 (j:Int) x=8:=by have hq:=h3;unfold Y5;rw[if_pos h0,if_neg om]
  refine aU4 ?_
  exact rV (h:=by rw[hz];rfl)
 have hz:Y5 (j:Int) x=0:=by have hq:=h3;unfold Y5;rw[if_pos h0,if_pos om]
 refine aU5 ?_
 exact rV (h:=by rw[hz];rfl)
instance:TFn Tryz.prog 133:=⟨by kernel_rfl⟩
instance:TFn Tryz.prog 134:=⟨by kernel_rfl⟩
def mpK(j:Int)(l:List UInt8):List UInt8:=if j=1 then l.map Qdk else l
theorem QaJ(j:Int)(l:List UInt8):(mpK j l).length=l.length:=by unfold mpK;split<;>simp
theorem QtD{j:Nat}(h2:¬(j:Int)=2)(h3:¬(j:Int)=3)(a b:List UInt8):Xt (j:Int) a b=Qch (mpK (j:Int) a) (mpK (j:Int) b):=by
  unfold Xt mpK;rw[if_neg h2,if_neg h3];split<;>rfl
theorem Qog{x y:List UInt8}{k:Nat}(hx:k<x.length)(hy:k<y.length):Qch (x.drop k) (y.drop k)=if X9 ((x.getD k 0).toNat:Int) ((y.getD k 0).toNat:Int)≠0 then X9 ((x.getD k 0).toNat:Int) ((y.getD k 0).toNat:Int)else Qch (x.drop (k+1)) (y.drop (k+1)):=by
  rw[List.drop_eq_getElem_cons hx,List.drop_eq_getElem_cons hy,List.getD_eq_getElem?_getD,List.getD_eq_getElem?_getD,List.getElem?_eq_getElem hx,List.getElem?_eq_getElem hy];simp only[Qch,Option.getD_some,X9,UInt8.lt_iff_toNat_lt];split
  · rename_i h;rw[if_pos om,if_pos om]
  · rename_i h;rw[if_neg (show¬((x[k].toNat:Int)<y[k].toNat) by omega)];split
    · rename_i h2;rw[if_pos om,if_pos om]
    · rename_i h2;rw[if_neg om]
theorem Qrv{x y:List UInt8}{k:Nat}(hx:k<=x.length)(hy:k<=y.length)(h:¬(k<x.length/\k<y.length)):Qch (x.drop k) (y.drop k)=X9 (x.length:Int) (y.length:Int):=by
  unfold X9;rcases Nat.lt_or_ge k x.length with h1|h1
  · have e:y.drop k=[]:=List.drop_of_length_le om;rw[e,List.drop_eq_getElem_cons h1,if_neg om,if_pos om];rfl
  · have e:x.drop k=[]:=List.drop_of_length_le h1;rw[e];rcases Nat.lt_or_ge k y.length with h2|h2
    · rw[List.drop_eq_getElem_cons h2,if_pos om];rfl
    · have e2:y.drop k=[]:=List.drop_of_length_le h2;rw[e2,if_neg om,if_neg om];rfl
theorem QmS{a:List UInt8}{k:Nat}(h:k<a.length):(((mpK 1 a).getD k 0).toNat:Int)=Qho ((a.getD k 0).toNat:Int):=by
  unfold mpK;rw[if_pos rfl,Qgf,List.getD_eq_getElem?_getD,List.getElem?_map,List.getElem?_eq_getElem h,List.getD_eq_getElem?_getD,List.getElem?_eq_getElem h];rfl
theorem QrK{j:Int}(hj:¬j=1)(a:List UInt8):mpK j a=a:=by unfold mpK;rw[if_neg hj]
theorem c65(w:World)(j:Nat)(a b:List UInt8)(hj:j<=3)(hka:QZ (j:Int) a=true)(hkb:QZ (j:Int) b=true)(ha:a.length<=1000000)(hb:b.length<=1000000):CR 65 #[.int .i64 (j:Int),.string (bs a),.string (bs b)] w (.int .i64 (Xt (j:Int) a b)):=by
 refine eN3 Tryz.func65 Tryz.ntmps65 ?_
 refine Qv4 ?_
 refine sCd rfl (λh1=>?_) λh1=>?_
 ·obtain rfl:j=2:=by have hq:=h1;omega
  have hl1:=QfS hka
  have hl2:=QfS hkb
  have hz:Xt ((2:Nat):Int) a b=X9 (at4 a 0) (at4 b 0):=rfl
  refine aU3 ?_
  refine oCq rfl (λw1 h1=>by have h9:=c72 w1 a 0 4 om om om;rw[Zo]at h9;exact h9) (aU ?_)
  refine oCq rfl (λw1 h1=>by have h9:=c72 w1 b 0 4 om om om;rw[Zo]at h9;exact h9) (oCq rfl (λw1 h1=>QrQ w1 _ _) (aU2 ?_))
  exact rV (h:=by rw[hz];rfl)
 have hn2:¬(j:Int)=2:=h1
 refine aU5 ?_
 refine sCd rfl (λh2=>?_) λh2=>?_
 ·obtain rfl:j=3:=by have hq:=h2;omega
  have hl1:=QfW hka
  have hl2:=QfW hkb
  have hz:Xt ((3:Nat):Int) a b=if X9 (at4 a 0) (at4 b 0)≠0 then X9 (at4 a 0) (at4 b 0)else X9 (at4 a 4) (at4 b 4):=rfl
  refine aU4 ?_
  refine oCq rfl (λw1 h1=>by have h9:=c72 w1 a 0 4 om om om;rw[Zo]at h9;exact h9) (aU ?_)
  refine oCq rfl (λw1 h1=>by have h9:=c72 w1 b 0 4 om om om;rw[Zo]at h9;exact h9) (oCq rfl (λw1 h1=>QrQ w1 _ _) (aU7 ?_))
  refine sCd rfl (λh3=>?_) λh3=>?_
  ·have hq9:X9 (at4 a 0) (at4 b 0)≠0:=h3
   rw[if_pos hq9]at hz
   refine aU5 ?_
   exact rV (h:=by rw[hz];rfl)
  have hq9:¬X9 (at4 a 0) (at4 b 0)≠0:=by have hq8:=h3;simpa using hq8
  rw[if_neg hq9]at hz
  refine aU4 ?_
  refine oCq rfl (λw1 h1=>by have h9:=c72 w1 a 4 4 om om om;rw[Zo]at h9;exact h9) (aU ?_)
  refine oCq rfl (λw1 h1=>by have h9:=c72 w1 b 4 4 om om om;rw[Zo]at h9;exact h9) (oCq rfl (λw1 h1=>QrQ w1 _ _) (aU2 ?_))
  exact rV (h:=by rw[hz];rfl)
 have hn3:¬(j:Int)=3:=h2
 have hmp:=QtD hn2 hn3 a b
 refine aU8 ?_
 refine Qt (α:=Nat) [6,8,9,10,11,35,36,37,38,39,40,41,42,43,44,45,46,47,48,49,50,51,52,53,54,55,56,57,58,59,60,61,62,63,64,65,66] (λk=>[(8,.int .i64 (k:Int))]) (λ_=>_) (λk=>k<=a.length/\k<=b.length/\Qch (mpK (j:Int) a) (mpK (j:Int) b)=Qch ((mpK (j:Int) a).drop k) ((mpK (j:Int) b).drop k)) (λk=>a.length-k) 0 ⟨Nat.zero_le _,Nat.zero_le _,rfl⟩ aSx (λw h=>h) (λk hx=>?_)
 obtain⟨hk1,hk2,hk3⟩:=hx
 refine aU5 ?_
 refine o_p (Qg rfl rfl Tryz.underlying9) rfl (aU2 ?_)
 refine XP 5 39 44 rfl
  (λhg4 _=>by
   refine aU5 ?_
   refine o_p (Qg rfl rfl Tryz.underlying9) rfl (aU2 ?_)
   exact oJt 5 44)
  (λhg6 _=>by
   refine aU4 ?_
   exact oJf 5 44) ?_
 refine aU ?_
 refine sCd rfl (λh8=>?_) λh8=>?_
 ·obtain⟨hka1,hkb1⟩:k<a.length/\k<b.length:=by have hq:=h8;omega
  have hb1:=(a.getD k 0).toNat_lt
  have hb2:=(b.getD k 0).toNat_lt
  have hst:=Qog (x:=mpK (j:Int) a) (y:=mpK (j:Int) b) (k:=k) (by rw[QaJ];exact hka1) (by rw[QaJ];exact hkb1)
  refine aU4 ?_
  refine Qz [] QJ ?_
  refine dP 0 ?_
  refine dP 1 ?_
  refine dV 2 rfl (Xk rfl rfl rfl Tryz.underlying9 (k) om om) ?_
  refine dV 3 rfl (Qp rfl rfl Zh YP) ?_
  try refine dWr ?_
  refine dP 4 ?_
  refine dP 5 ?_
  refine dV 6 rfl (Xk rfl rfl rfl Tryz.underlying9 (k) om om) ?_
  refine dV 7 rfl (Qp rfl rfl Zh YP) ?_
  try refine dWr ?_
  refine dP 8 ?_
  refine dP 9 ?_
  refine dNi ?_
  refine aU6 ?_
  refine Qj (L':=[(0,_),(1,_),(2,_),(8,_),(9,_),(10,_),(12,_),(13,_),(14,_),(20,_),(21,_),(56,_)]) aSx (λ_ h=>h) ?_
  refine Ye (α:=Unit) [9,10,57,58,59,60] (λ_=>[(9,.int .i64 (((mpK (j:Int) a).getD k 0).toNat:Int)),(10,.int .i64 (((mpK (j:Int) b).getD k 0).toNat:Int))]) (λ_=>HS w [] []) (λ_=>True) ?_ ?_
  ·skip
   refine sCd rfl (λh9=>?_) λh9=>?_
   ·obtain rfl:j=1:=by have hq:=h9;omega
    refine aU2 ?_
    refine oCq rfl (λw1 h1=>c134 w1 _ om) (aU ?_)
    refine oCq rfl (λw1 h1=>c134 w1 _ om) (aU3 ?_)
    exact Qo () trivial (by rw[show(((1:Nat):Int))=1 from rfl,QmS hka1,QmS hkb1];exact aSx) (λw h=>h.ent aEt)
   have hn1:¬(j:Int)=1:=h9
   refine aU ?_
   exact Qo () trivial (by rw[QrK hn1,QrK hn1];exact aSx) (λw h=>h.ent aEt)
  intro _ _
  refine aU4 ?_
  refine oCq rfl (λw1 h1=>QrQ w1 _ _) (aU7 ?_)
  refine sCd rfl (λh10=>?_) λh10=>?_
  ·have hq9:X9 (((mpK (j:Int) a).getD k 0).toNat:Int) (((mpK (j:Int) b).getD k 0).toNat:Int)≠0:=h10
   have hz:=hmp.trans (hk3.trans (hst.trans (if_pos hq9)))
   refine aU5 ?_
   exact rV (h:=by rw[hz];rfl)
  have hq9:¬X9 (((mpK (j:Int) a).getD k 0).toNat:Int) (((mpK (j:Int) b).getD k 0).toNat:Int)≠0:=by have hq8:=h10;simpa using hq8
  have hz:=hk3.trans (hst.trans (if_neg hq9))
  refine aT5 ?_
  refine aU2 ?_
  exact QO (k+1) om ⟨om,om,hz⟩ aSx (λw h=>h)
 have hz:=Qrv (x:=mpK (j:Int) a) (y:=mpK (j:Int) b) (k:=k) (by rw[QaJ];exact hk1) (by rw[QaJ];exact hk2) (by rw[QaJ,QaJ];have hq:=h8;omega)
 rw[<-hk3,<-hmp,QaJ,QaJ]at hz
 refine Qh rfl ?_
 refine aU3 ?_
 refine o_p (Qg rfl rfl Tryz.underlying9) rfl (aU ?_)
 refine o_p (Qg rfl rfl Tryz.underlying9) rfl (oCq rfl (λw1 h1=>QrQ w1 _ _) (aU2 ?_))
 exact rV (h:=by rw[hz];rfl)
theorem XN:QS Tryz.prog 37=some [.int .i64 0,.int .i64 0,.int .i64 0,.slice none 0 0]:=by kernel_rfl
theorem Qfj:Y2 Tryz.prog 69=some [(0,1),(1,1),(2,1)]:=by kernel_rfl
theorem Xr:QS Tryz.prog 69=some [.bool false,.slice none 0 0,.slice none 0 0]:=by kernel_rfl
theorem QT:tsl Tryz.prog 35=some (69,3,56):=by kernel_rfl
theorem QaQ:Y2 Tryz.prog 37=some [(0,1),(1,1),(2,1),(3,1)]:=by kernel_rfl
theorem X2:tsz Tryz.prog 37=some (4,true):=by kernel_rfl
instance:TSz Tryz.prog 37 4 true:=⟨X2⟩
instance:TFn Tryz.prog 155:=⟨by kernel_rfl⟩
theorem Q3:tsl Tryz.prog 67=some (27,2,32):=by kernel_rfl
theorem QaM:tsz Tryz.prog 27=some (2,true):=by kernel_rfl
instance:TSz Tryz.prog 27 2 true:=⟨QaM⟩
theorem Z0:QS Tryz.prog 27=some [.string (bs []),.string (bs [])]:=by kernel_rfl
instance:TFd Tryz.prog 166 0 0 37:=⟨by kernel_rfl⟩
instance:TFd Tryz.prog 37 1 1 3:=⟨by kernel_rfl⟩
theorem Zg:tsz Tryz.prog 3=some (1,false):=by kernel_rfl
instance:TSz Tryz.prog 3 1 false:=⟨Zg⟩
instance:TFd Tryz.prog 37 2 2 3:=⟨by kernel_rfl⟩
theorem ZV:tsz Tryz.prog 158=some (1,false):=by kernel_rfl
instance:TSz Tryz.prog 158 1 false:=⟨ZV⟩
instance:TFd Tryz.prog 37 0 0 3:=⟨by kernel_rfl⟩
theorem QuR:QK Tryz.prog 164=true:=by kernel_rfl
instance:TFd Tryz.prog 166 1 4 164:=⟨by kernel_rfl⟩
instance:TFd Tryz.prog 69 1 1 67:=⟨by kernel_rfl⟩
theorem Qds:tsz Tryz.prog 67=some (1,false):=by kernel_rfl
instance:TSz Tryz.prog 67 1 false:=⟨Qds⟩
def tbV(co mo rm:Int)(a:Option Addr)(n cap:Nat):List Value:=[.int .i64 co,.int .i64 mo,.int .i64 rm,.slice a n cap,Qbo (QeX co),Qbo (QeZ co)]
def TbR(w:World)(M:List Nat)(bt:Nat)(co mo rm:Int)(a:Option Addr)(n cap:Nat):Prop:=∀k v,(tbV co mo rm a n cap)[k]?=some v->Rd w M bt k v
section
variable{w w':World}{M M':List Nat}{As As':List HA}{bt:Nat}{co mo rm:Int}{a:Option Addr}{n cap:Nat}
theorem TbR.next(h:TbR w M bt co mo rm a n cap)(hs:HS w M As w'):TbR w' [] bt co mo rm a n cap:=λk v hv=>(h k v hv).next hs
theorem TbR.keep(h:TbR w M bt co mo rm a n cap)(hs:HS w M As w'):TbR w' (fps As) bt co mo rm a n cap:=λk v hv=>hs.keep (h k v hv)
theorem TbR.mono(h:TbR w M bt co mo rm a n cap)(hM:∀b∈M',b∈M):TbR w M' bt co mo rm a n cap:=λk v hv=>(h k v hv).mono hM
theorem HS.tbr{w0:World}{tot t:Nat}(h:HS w0 M As w)(hp:QP As (.blk bt t tot (tbV co mo rm a n cap)) As'):TbR w [] bt co mo rm a n cap:=λk v hv=>h.rd_blk (Mc:=[]) hp hv (by simp)
end
def Qhp(co mo rm:Int):Tre:=if(if Qv co=0 then XF mo rm else Qv co)=0 then⟨co,mo,rm,[⟨true,[],[]⟩]⟩else⟨0,0,0,[]⟩
theorem QY{w0 w:World}{M:List Nat}{As:List HA}(et nt:Nat)(h:HS w0 M As w):HS w0 M (.nodes et nt none 0 []::As) w:=by
  have h1:HS w0 M (.own (.slice none 0 0) nt 3 0 []::.star []::As) w:=(h.star_nil).own_nil nt 3;exact HS.row_shut (l:=([]:List LNd)) h1 rfl rfl
theorem Qok{w0 w:World}{M:List Nat}{As:List HA}{a:Option Addr}{cap nt:Nat}(et:Nat)(h:HS w0 M (.own (.slice a 1 cap) nt 3 1 [.bool true,.slice none 0 0,.slice none 0 0]::As) w):HS w0 M (.nodes et nt a cap [⟨true,none,0,[],none,0,[]⟩]::As) w:=by
  have h1:HS w0 M (.star ([(⟨true,none,0,[],none,0,[]⟩:LNd)].map (QaA et))::As) w:=HS.star_close (Bs:=[_]) (HS.star_close (Bs:=[_,_]) ((h.tail.own_nil 3 1).own_nil et 2));have h2:HS w0 M (.star []::.own (.slice a 1 cap) nt 3 1 [.bool true,.slice none 0 0,.slice none 0 0]::As) w:=h.star_nil
  have h3:HS w0 M (.own (.slice a 1 cap) nt 3 1 [.bool true,.slice none 0 0,.slice none 0 0]::.star ([(⟨true,none,0,[],none,0,[]⟩:LNd)].map (QaA et))::As) w:=
    HS.perm (HS.star_close (Bs:=[_]) (HS.star_close (Bs:=[_,_]) ((h.own_nil 3 1).own_nil et 2))) (List.Perm.swap ..)
  exact HS.row_shut (l:=[(⟨true,none,0,[],none,0,[]⟩:LNd)]) h3 rfl rfl
theorem c91(w:World)(co mo rm:Int):CE 91 #[.int .i64 co,.int .i64 mo,.int .i64 rm] w [] (λg:(Option Addr×Nat)×List LNd=>.tuple #[.agg #[.int .i64 (Qhp co mo rm).co,.int .i64 (Qhp co mo rm).mo,.int .i64 (Qhp co mo rm).rm,.slice g.1.1 g.2.length g.1.2],.int .i64 (if Qv co=0 then XF mo rm else Qv co)]) (λg=>pln g.2=(Qhp co mo rm).ns) λg=>[.nodes 27 69 g.1.1 g.1.2 g.2]:=by
 refine eN3 Tryz.func91 Tryz.ntmps91 ?_
 refine aU2 ?_
 refine oAl (λb1 _=>?_) XN
 refine aU8 ?_
 refine oCq rfl (λw1 h1=>c155 w1 _ _ _) (aU7 ?_)
 refine sCd rfl (λh2=>?_) λh2=>?_
 ·have hz:Qhp co mo rm=⟨0,0,0,[]⟩:=by unfold Qhp;rw[if_neg h2]
  refine aU2 ?_
  refine o_p (QE (cs:=[_,_,_,_]) rfl rfl QaQ XN rfl) rfl (aU4 ?_)
  exact Ql (rs:=[.cell 6 37,.tmp 7]) rfl (.cell rfl X2 aPk rfl (.tmp rfl (.nil))) (λw' h'=>⟨((none,0),[]),by rw[hz];rfl,by rw[hz];rfl,(QY 27 69 h'.nil).ent aEt⟩)
 have hz:Qhp co mo rm=⟨co,mo,rm,[⟨true,[],[]⟩]⟩:=by unfold Qhp;rw[if_pos h2]
 refine aU6 ?_
 refine o_p (QE (cs:=[_,_,_]) rfl rfl Qfj Xr rfl) rfl (o_h (Qk (cs:=[_,_,_]) rfl rfl QT Xr rfl rfl rfl) rfl (λb3 _=>o_p (QE (cs:=[_,_,_,_]) rfl rfl QaQ XN rfl) rfl (aU3 ?_)))
 exact Ql (rs:=[.cell 6 37,.tmp 7]) rfl (.cell rfl X2 aPk rfl (.tmp rfl (.nil))) (λw' h'=>⟨((some ⟨b3,0,none⟩,1),[⟨true,none,0,[],none,0,[]⟩]),by rw[hz,h2];rfl,by rw[hz];rfl,(Qok 27 (HS.own_shut (n:=1) (cap:=1) (sz:=3) (h'.ent (Bs:=[.blk b3 69 (1*3) [.bool true,.slice none 0 0,.slice none 0 0]]) aEt) rfl (by decide) (by decide))).ent aEt⟩)
theorem c230(w:World)(a:Option Addr)(cap:Nat)(l:List TEnt)(q:Nat)(cv:Array Value)(es:List Int)(hs:Rw TEnt.vals 2 w [] a l)(hm:l.length<=1000000)(hq:QK Tryz.prog q=true)(he:es.length=l.length)(hc:∀k w1,k<l.length->(∀j,j<k->es.getD j 0=0)->HS w [] [] w1->Calls Tryz.prog q (#[]++[.int .i64 (k:Int),.agg (TEnt.vals (nth l k)).toArray].toArray++cv) w1 λen w2=>en=.returned (.int .i64 (es.getD k 0))/\Below w1.heap.size w1 w2):CR 230 #[.slice a l.length cap,.func (.func q) #[] cv] w (.tuple #[.int .i64 (YU es 0).1,.int .i64 (YU es 0).2]):=by
 refine eN2 Tryz.func230 Tryz.ntmps230 ?_
 refine QaU ?_
 refine Qt (α:=Nat) [4,5,6,7,8,11,12,13,14,15,16,17,18,19,20,21,22,23,24] (λk=>[(11,.int .i64 (k:Int))]) (λ_=>HS w [] []) (λk=>k<=l.length/\YU es 0=YU (es.drop k) k/\∀j,j<k->es.getD j 0=0) (λk=>l.length-k) 0 ⟨om,rfl,λi h=>absurd h (Nat.not_lt_zero i)⟩ aSx (λw h=>h.ent aEt) (λk hk=>?_)
 obtain⟨hk1,hk2,hk3⟩:=hk
 refine aU5 ?_
 refine sCd rfl (λh1=>?_) λh1=>?_
 ·refine aU6 ?_
  refine o_p (Qa rfl rfl rfl Q3 (k) om om (Rw.some hs om)) rfl (o_q (Qs _ rfl rfl QaM rfl (Rw.rd hs om)) rfl (oAl (λb2 _=>?_) Z0))
  refine aU8 ?_
  refine o_q (YS rfl rfl hq rfl (λw1 h1=>hc k w1 om hk3 (h1.ent aEt))) rfl (aU7 ?_)
  refine sCd rfl (λh3=>?_) λh3=>?_
  ·refine aU7 ?_
   exact Ql (rs:=[.tmp 4,.tmp 5]) rfl (.tmp rfl (.tmp rfl (.nil))) (λw' h'=>⟨by simp only[QX];rw[hk2,Qas om,if_neg (by assumption)],h'.below⟩)
  refine aT4 ?_
  refine aU2 ?_
  exact sBk (k+1) om ⟨om,by rw[hk2,Qas om,if_pos (by assumption)],λj hj=>(Nat.lt_or_ge j k).elim (hk3 j) (λh=>by obtain rfl:j=k:=om;assumption)⟩
 refine Qh rfl ?_
 refine aU5 ?_
 exact Ql (rs:=[.tmp 4,.tmp 5]) rfl (.tmp rfl (.tmp rfl (.nil))) (λw' h'=>⟨by simp only[QX];rw[hk2,Qoh om],h'.below⟩)
theorem c173(w:World)(bt:Nat)(j:Nat)(mo rm:Int)(a:Option Addr)(n cap:Nat)(hmo:0<=mo/\mo<=1000)(ht:TbR w [] bt (j:Int) mo rm a n cap):CR 173 #[.pointer (some ⟨bt,0,none⟩)] w (.int .i64 (mo/2)):=by
 refine eN1 Tryz.func173 Tryz.ntmps173 ?_
 refine YR ?_
 refine o_q (Qb rfl rfl Zg (ht 1 _ rfl)) rfl (o_p (XC rfl rfl rfl om om om) rfl (aU2 ?_))
 exact rV
theorem c229(w:World)(bt:Nat)(j:Nat)(mo rm:Int)(a:Option Addr)(n cap:Nat)(i:Nat)(ht:TbR w [] bt (j:Int) mo rm a n cap):CR 229 #[.pointer (some ⟨bt,0,none⟩),.int .i64 (i:Int)] w (.int .i64 (YY mo rm i)):=by
 refine eN2 Tryz.func229 Tryz.ntmps229 ?_
 refine YR ?_
 refine sCd rfl (λh1=>?_) λh1=>?_
 ·obtain rfl:i=0:=by have hq:=h1;omega
  refine aU6 ?_
  refine o_q (Qb rfl rfl Zg (ht 2 _ rfl)) rfl (aU2 ?_)
  exact rV
 have hn0:¬i=0:=by have hq:=h1;omega
 refine aU7 ?_
 refine o_q (Qb rfl rfl Zg (ht 1 _ rfl)) rfl (aU2 ?_)
 exact rV (h:=by simp only[QX,YY];rw[if_neg hn0])
theorem c231(w:World)(c0:Nat)(k:Int)(x:TEnt)(bt:Nat)(j:Nat)(mo rm:Int)(a:Option Addr)(n cap:Nat)(hj:j<=3)(hx:x.key.length<=1000000)(hc0:Rd w [] c0 0 (.pointer (some ⟨bt,0,none⟩)))(ht:TbR w [] bt (j:Int) mo rm a n cap):CR 231 #[.int .i64 k,.agg #[.string (bs x.key),.string (bs x.val)],.pointer (some ⟨c0,0,none⟩)] w (.int .i64 (Y5 (j:Int) x)):=by
 refine eN3 Tryz.func231 Tryz.ntmps231 ?_
 refine aU2 ?_
 refine oBx λb1 _=>?_
 refine aU3 ?_
 refine Qz [] QJ ?_
 refine dQ 0 [] rfl (Qb rfl rfl ZV (hc0)) (dP 1 ?_)
 refine dFa 2 ?_
 refine dFa 3 ?_
 refine dQ 4 [] rfl (Qb rfl rfl Zg (ht 0 _ rfl)) (dLn 5 [] ?_)
 refine dQ 6 [] rfl (Qr rfl QuR rfl (λw1 h1=>c164 w1 j x hj hx)) (dP 7 ?_)
 refine dNi ?_
 exact rV
theorem c234(w:World)(c0 c7:Nat)(k:Nat)(us:Bool)(ea:Option Addr)(ec:Nat)(es:List TEnt)(kids:Value)(bt:Nat)(j:Nat)(mo rm:Int)(a:Option Addr)(n cap:Nat)(hj:j<=3)(hk:k<es.length)(hl:es.length<=1000000)(hx:∀x∈es,QZ (j:Int) x.key=true/\x.key.length<=1000000)(hc0:Rd w [] c0 0 (.pointer (some ⟨bt,0,none⟩)))(hc7:Rd w [] c7 1 (.slice ea es.length ec))(hes:Rw TEnt.vals 2 w [] ea es)(ht:TbR w [] bt (j:Int) mo rm a n cap):CR 234 #[.int .i64 (k:Int),.agg #[.string (bs (nth es k).key),.string (bs (nth es k).val)],.pointer (some ⟨c0,0,none⟩),.pointer (some ⟨c7,0,none⟩)] w (.int .i64 (Qbc (j:Int) es k)):=by
 refine eN4 Tryz.func234 Tryz.ntmps234 ?_
 refine aU2 ?_
 refine oBx λb1 _=>?_
 refine aU3 ?_
 refine Qz [] QJ ?_
 refine dP 0 ?_
 refine dP 1 ?_
 refine dP 2 ?_
 apply Xy 9
 ·exact rfl
 ·intro hg2
  have hs3:=hg2;try simp only[dT]at hs3
  refine dOf 3 9 hg2 ?_
  refine dOf 4 9 hg2 ?_
  refine dOf 5 9 hg2 ?_
  refine dOf 6 9 hg2 ?_
  refine dOf 7 9 hg2 ?_
  refine dOf 8 9 hg2 ?_
  refine dOf 9 9 hg2 ?_
  refine dOf 10 9 hg2 ?_
  refine dOf 11 9 hg2 ?_
  refine dOf 12 9 hg2 ?_
  refine dOf 13 9 hg2 ?_
  refine dOf 14 9 hg2 ?_
  refine dOf 15 9 hg2 ?_
  refine dOf 16 9 hg2 ?_
  refine dOf 17 9 hg2 ?_
  refine dOf 18 9 hg2 ?_
  refine dOf 19 9 hg2 ?_
  refine dV 20 rfl (Xv rfl rfl hg2 rfl) (dQ 21 [] rfl (Qr rfl QbE rfl (λw1 h1=>Qd8 w1 _ _)) (dP 22 ?_))
  refine dNi ?_
  exact rV (h:=by simp only[QX,Qbc];first|(split<;>simp_all<;>done)|(simp_all;done)|(grind))
 intro hg4
 have hs5:=hg4;try simp only[dN]at hs5
 refine dQo 3 9 [] hg4 rfl rfl rfl (Qb rfl rfl ZV (hc0)) ?_
 refine dPo 4 9 hg4 ?_
 refine dFo 5 9 hg4 ?_
 refine dFo 6 9 hg4 ?_
 refine dQo 7 9 [] hg4 rfl rfl rfl (Qb rfl rfl Qe2 (ht 5 _ rfl)) ?_
 refine dFo 8 9 hg4 ?_
 refine dQo 9 9 [] hg4 rfl rfl rfl (Qb rfl rfl Qds (hc7)) ?_
 refine dPo 10 9 hg4 ?_
 refine dPo 11 9 hg4 ?_
 try refine dWr ?_
 refine dVo 12 9 hg4 rfl rfl rfl (QdT rfl rfl rfl ) ?_
 refine dVo 13 9 hg4 rfl rfl rfl (Qa rfl rfl rfl Q3 (k-1) om om (Rw.some hes om)) ?_
 refine dFo 14 9 hg4 ?_
 refine dQo 15 9 [] hg4 rfl rfl rfl (Qb rfl rfl Zu ((hes.rdj (i:=k-1) 0 om rfl))) ?_
 refine dFo 16 9 hg4 ?_
 refine dQo 17 9 [] hg4 rfl rfl rfl (Yo rfl rfl Zu aPk rfl) ?_
 refine dQo 18 9 [] hg4 rfl rfl rfl (YS rfl rfl (Qf1 _) rfl (λw1 h1=>Qbx w1 j (nth es (k-1)).key (nth es k).key hj (hx _ (Qy om)).1 (hx _ (Qy hk)).1 (hx _ (Qy om)).2 (hx _ (Qy hk)).2)) ?_
 refine dPo 19 9 hg4 ?_
 refine dV 20 rfl (Q8 rfl rfl hg4 rfl) (dQ 21 [] rfl (Qr rfl QbE rfl (λw1 h1=>Qd8 w1 _ _)) (dP 22 ?_))
 refine dNi ?_
 exact rV (h:=by simp only[QX,Qbc];first|(split<;>simp_all<;>done)|(simp_all;done)|(grind))
instance:TFd Tryz.prog 37 3 3 35:=⟨by kernel_rfl⟩
theorem Y0:tsz Tryz.prog 35=some (1,false):=by kernel_rfl
instance:TSz Tryz.prog 35 1 false:=⟨Y0⟩
theorem QW:tsl Tryz.prog 28=some (3,1,8):=by kernel_rfl
theorem Qcf:QS Tryz.prog 3=some [.int .i64 0]:=by kernel_rfl
instance:TFd Tryz.prog 69 2 2 28:=⟨by kernel_rfl⟩
theorem QcI:tsz Tryz.prog 28=some (1,false):=by kernel_rfl
instance:TSz Tryz.prog 28 1 false:=⟨QcI⟩
theorem Quu:QK Tryz.prog 233=true:=by kernel_rfl
instance:TFd Tryz.prog 69 0 0 4:=⟨by kernel_rfl⟩
theorem QdH:tsz Tryz.prog 4=some (1,false):=by kernel_rfl
instance:TSz Tryz.prog 4 1 false:=⟨QdH⟩
theorem Qqd:tsz Tryz.prog 242=some (1,false):=by kernel_rfl
theorem zv_4:tzv Tryz.prog 4=some (.bool false):=by kernel_rfl
abbrev KI:Int->Value:=λn=>Value.int .i64 n
theorem Qr4{ks:List Int}{c x:Int}:x∈Qce ks c ↔ x=c\/x∈ks:=by
  unfold Qce;split
  · rename_i h;constructor
    · exactλh1=>.inr h1
    · rintro(rfl|h1)
      · exact h
      · exact h1
  · rw[List.mem_append,List.mem_singleton];exact Or.comm
theorem c233(w:World)(i c:Int)(c0 c5 r:Nat)(ks seen:List Int)(bt:Nat)(j:Nat)(mo rm:Int)(a:Option Addr)(cap:Nat)(L:List LNd)(hw:HS w (fps [.mp r KI ks]) [.mp r KI ks] w)(hst:∀x,x∈ks ↔ x∈seen)(hc0:Rd w (fps [.mp r KI ks]) c0 0 (.pointer (some ⟨bt,0,none⟩)))(hc5:Rd w (fps [.mp r KI ks]) c5 0 (.map (some r)))(ht:TbR w (fps [.mp r KI ks]) bt (j:Int) mo rm a L.length cap)(hs:Nt w (fps [.mp r KI ks]) a L)(hl:L.length<=1000):CE 233 #[.int .i64 i,.int .i64 c,.pointer (some ⟨c0,0,none⟩),.pointer (some ⟨c5,0,none⟩)] w (fps [.mp r KI ks]) (λg:List Int=>.int .i64 (QcD (pln L) c seen)) (λg=>(∀x,x∈g ↔ x∈(QeA (pln L) c seen))) λg=>[.mp r KI g]:=by
 refine eW4 Tryz.func233 Tryz.ntmps233 hw ?_
 refine aU8 ?_
 refine o_q (Qb rfl rfl ZV (hc0)) rfl (aU3 ?_)
 refine o_q (Qb rfl rfl Y0 (ht 3 _ rfl)) rfl (aT2 ?_)
 refine oCq rfl (λw1 h1=>Qoj w1 _ _ _) (aU2 ?_)
 refine oOr 11 18 29 rfl
  (λhg1 _=>by
   refine aU ?_
   refine o_q (Qb rfl rfl ZV (hc0)) rfl (aU7 ?_)
   refine o_q (Qb rfl rfl Y0 (ht 3 _ rfl)) rfl (aU3 ?_)
   refine o_p (Qa rfl rfl rfl QT c.toNat om om (Rw.some hs.1 om)) rfl (aU3 ?_)
   refine o_q (Qb rfl rfl QdH ((hs.1.rdj 0 (i:=c.toNat) om rfl))) rfl (aU2 ?_)
   exact oJf 11 29)
  (λhg3 _=>by
   refine YR ?_
   exact oJt 11 29) ?_
 refine aU ?_
 refine sCd rfl (λh5=>?_) λh5=>?_
 ·have hz:¬Qdm (pln L) c:=by unfold Qdm;rw[Qe];intro h9;rw[Q0 om]at h9;have hq:=h5;simp[LNd.pl]at h9;rcases hq with hq|hq<;>simp_all<;>omega
  refine aU4 ?_
  exact rT rfl rfl (λw' h'=>⟨ks,by unfold QcD;rw[if_neg hz];rfl,by unfold QeA;rw[if_neg hz];exact hst,h'.ent aEt⟩)
 have hz:Qdm (pln L) c:=by have hq:=h5;have hq1:1<=c/\c<=(L.length:Int)-1:=(by first|omega|(simp at hq;omega));unfold Qdm;rw[Qe,Q0 om];exact⟨hq1,by simp only[LNd.pl];first|exact hq.2|exact hq.2.2|(simp at hq;first|exact hq.2|exact hq.2.2)⟩
 refine aU3 ?_
 refine o_q (Qb rfl rfl Qqd (hc5)) rfl (aU ?_)
 refine o_q (Qkz rfl rfl rfl Tryz.underlying242 zv_4 (QfV YP) aPk) rfl (aU ?_)
 refine oCq rfl (λw1 h1=>Qd8 w1 _ _) (aU4 ?_)
 refine o_q (Qb rfl rfl Qqd (hc5)) rfl (aU ?_)
 refine Qkv (Qfl (.inl rfl) rfl rfl rfl Tryz.underlying242 (QfV YP) aPt) (λ_ _=>aU6 ?_)
 exact rT rfl rfl (λw' h'=>⟨Qce ks c,by unfold QcD;rw[if_pos hz];simp only[QX];by_cases h9:c∈seen<;>simp[h9,(hst c)],by unfold QeA;rw[if_pos hz];intro x;rw[Qr4,List.mem_cons,hst],h'.ent aEt⟩)
theorem c232(w:World)(ca:Option Addr)(cc:Nat)(cs:List Int)(c0 c5 r:Nat)(ks seen:List Int)(bt:Nat)(j:Nat)(mo rm:Int)(a:Option Addr)(cap:Nat)(L:List LNd)(hw:HS w (fps [.mp r KI ks]) [.mp r KI ks] w)(hst:∀x,x∈ks ↔ x∈seen)(hc0:Rd w (fps [.mp r KI ks]) c0 0 (.pointer (some ⟨bt,0,none⟩)))(hc5:Rd w (fps [.mp r KI ks]) c5 0 (.map (some r)))(ht:TbR w (fps [.mp r KI ks]) bt (j:Int) mo rm a L.length cap)(hs:Nt w (fps [.mp r KI ks]) a L)(hl:L.length<=1000)(hcs:Rw inV 1 w (fps [.mp r KI ks]) ca cs)(hcl:cs.length<=1000):CE 232 #[.slice ca cs.length cc,.func (.func 233) #[] #[.pointer (some ⟨c0,0,none⟩),.pointer (some ⟨c5,0,none⟩)]] w (fps [.mp r KI ks]) (λg:Int×List Int=>.tuple #[.int .i64 g.1,.int .i64 (X5 (pln L) cs seen).1]) (λg=>(∀x,x∈g.2 ↔ x∈(X5 (pln L) cs seen).2)) λg=>[.mp r KI g.2]:=by
 refine eW2 Tryz.func232 Tryz.ntmps232 hw ?_
 refine QaU ?_
 refine Qt (α:=Nat×List Int×List Int) [4,5,6,7,8,11,12,13,14,15,16,17,18,19,20,21,22,23,24] (λx=>[(11,.int .i64 (x.1:Int))]) (λx=>HS w (fps [.mp r KI ks]) [.mp r KI x.2.1]) (λx=>x.1<=cs.length/\(∀y,y∈x.2.1 ↔ y∈x.2.2)/\(X5 (pln L) cs seen)=X5 (pln L) (cs.drop x.1) x.2.2) (λx=>cs.length-x.1) (0,ks,seen) ⟨Nat.zero_le _,hst,rfl⟩ aSx (λw h=>h.ent aEt) (λ⟨k,K,S9⟩hx=>?_)
 dsimp only
 obtain⟨hk1,hk2,hk3⟩:=hx
 simp only[]at hk1 hk2 hk3
 refine aU5 ?_
 refine sCd rfl (λh1=>?_) λh1=>?_
 ·have hkl:k<cs.length:=by omega
  refine aU6 ?_
  refine o_p (Qa rfl rfl rfl QW (k) om om (Rw.some hcs om)) rfl (o_q (Qb rfl rfl Zg ((hcs.rdj 0 (i:=k) om rfl))) rfl (aU8 ?_))
  refine o_h (QkD (Cs:=[.mp r KI K]) rfl rfl Quu rfl aPs (λw1 h1 hf=>c233 w1 (k:Int) (cs.getD k 0) c0 c5 r K S9 bt j mo rm a cap L hf hk2 (h1.keep hc0) (h1.keep hc5) (ht.keep h1) (hs.keep h1) hl)) rfl (λb2 hkG=>?_)
  have hkg:=hkG
  refine aU7 ?_
  refine sCd rfl (λh3=>?_) λh3=>?_
  ·refine aU7 ?_
   exact Ql (rs:=[.tmp 4,.tmp 5]) rfl (.tmp rfl (.tmp rfl (.nil))) (λw' h'=>⟨((k:Int),b2),by rw[hk3,Qda hkl,QbO,if_neg h3];rfl,by rw[hk3,Qda hkl,QbO,if_neg h3];exact hkG,h'.ent aEt⟩)
  refine aT4 ?_
  refine aU2 ?_
  exact sBk (k+1,b2,QeA (pln L) (cs.getD k 0) S9) (by(try simp only[]);omega) ⟨by(try simp only[]);omega,hkg,by simp only[];rw[hk3,Qda hkl,QbO,if_pos h3]⟩
 refine Qh rfl ?_
 refine aU5 ?_
 exact Ql (rs:=[.tmp 4,.tmp 5]) rfl (.tmp rfl (.tmp rfl (.nil))) (λw' h'=>⟨(0,K),by rw[hk3,List.drop_of_length_le om];rfl,by rw[hk3,List.drop_of_length_le om];exact hk2,h'.ent aEt⟩)
theorem Xo:tsz Tryz.prog 69=some (3,true):=by kernel_rfl
instance:TSz Tryz.prog 69 3 true:=⟨Xo⟩
theorem QvD:QK Tryz.prog 229=true:=by kernel_rfl
instance:TFn Tryz.prog 230:=⟨by kernel_rfl⟩
theorem Qu0:QK Tryz.prog 232=true:=by kernel_rfl
theorem Qup{t:Tre}{i:Nat}{es:List TEnt}{cs:List Int}(h:nth t.ns i=⟨true,es,cs⟩)(b:Bool)(hb:b=true ↔ (cs.length=0\/cs.length=es.length+1)):(if(bif decide ((es.length:Int)<=YY t.mo t.rm i)then(0:Int)else 16)=0 then(bif b then(0:Int)else 10)else(bif decide ((es.length:Int)<=YY t.mo t.rm i)then(0:Int)else 16))=nE1 t i:=by
  unfold nE1;rw[h]
  by_cases h1:(es.length:Int)<=YY t.mo t.rm i
  · rw[decide_eq_true h1,if_pos h1]
    by_cases h2:cs.length=0\/cs.length=es.length+1
    · rw[if_pos h2,hb.2 h2];rfl
    · rw[if_neg h2,show b=false by cases b;rfl;exact absurd (hb.1 rfl) h2];rfl
  · rw[decide_eq_false h1,if_neg h1];rfl
theorem c199(w:World)(i r:Nat)(ks seen:List Int)(bt:Nat)(j:Nat)(mo rm:Int)(a:Option Addr)(cap:Nat)(L:List LNd)(hw:HS w (fps [.mp r KI ks]) [.mp r KI ks] w)(hst:∀x,x∈ks ↔ x∈seen)(ht:TbR w (fps [.mp r KI ks]) bt (j:Int) mo rm a L.length cap)(hs:Nt w (fps [.mp r KI ks]) a L)(hl:L.length<=1000)(hj:j<=3)(hi:i<L.length)(hel:(nth L i).es.length<=1000)(hcl:(nth L i).cs.length<=1000)(hkl:∀x∈(nth L i).es,x.key.length<=1000000):CE 199 #[.pointer (some ⟨bt,0,none⟩),.int .i64 (i:Int),.map (some r)] w (fps [.mp r KI ks]) (λg:List Int=>.int .i64 (XQ (⟨(j:Int),mo,rm,pln L⟩:Tre) i seen).1) (λg=>(∀x,x∈g ↔ x∈(XQ (⟨(j:Int),mo,rm,pln L⟩:Tre) i seen).2)) λg=>[.mp r KI g]:=by
 have hn:nth (pln L) i=(nth L i).pl:=Q0 hi
 have hE2:nE2 (⟨(j:Int),mo,rm,pln L⟩:Tre) i=if nE1 (⟨(j:Int),mo,rm,pln L⟩:Tre) i=0 then(YU ((nth L i).es.map (Y5 (j:Int))) 0).2 else nE1 (⟨(j:Int),mo,rm,pln L⟩:Tre) i:=by unfold nE2 ZP;rw[hn];rfl
 have hE3:nE3 (⟨(j:Int),mo,rm,pln L⟩:Tre) i seen=if nE2 (⟨(j:Int),mo,rm,pln L⟩:Tre) i=0 then X5 (pln L) (nth L i).cs seen else(nE2 (⟨(j:Int),mo,rm,pln L⟩:Tre) i,seen):=by unfold nE3;rw[hn];rfl
 have hE4:nE4 (⟨(j:Int),mo,rm,pln L⟩:Tre) i seen=if(nE3 (⟨(j:Int),mo,rm,pln L⟩:Tre) i seen).1=0 then(YU ((List.range (nth L i).es.length).map (Qbc (j:Int) (nth L i).es)) 0).2 else(nE3 (⟨(j:Int),mo,rm,pln L⟩:Tre) i seen).1:=by unfold nE4 Qa8;rw[hn];rfl
 refine eW3 Tryz.func199 Tryz.ntmps199 hw ?_
 refine aU2 ?_
 refine oBx λb1 _=>?_
 refine oBx λb2 _=>?_
 refine aU8 ?_
 refine o_q (Qb rfl rfl Y0 (ht 3 _ rfl)) rfl (aU ?_)
 refine o_p (Qa rfl rfl rfl QT (i) om om (Rw.some hs.1 om)) rfl (o_q (Qs _ rfl rfl Xo rfl (Rw.rd hs.1 hi)) rfl (oAl (λb3 _=>?_) Xr))
 refine aU9 ?_
 refine sCd rfl (λh4=>?_) λh4=>?_
 ·have hu:(nth (pln L) i).us=false:=by rw[hn];have hq:=h4;simpa[LNd.pl]using hq
  refine aU5 ?_
  refine XP 10 22 32 rfl
   (λhg5 _=>by
    refine QbK ?_
    refine o_q (Qb rfl rfl Y0 (ht 3 _ rfl)) rfl (aT4 ?_)
    refine aU2 ?_
    exact oJt 10 32)
   (λhg7 _=>by
    refine aU9 ?_
    exact oJf 10 32) ?_
  refine aU ?_
  refine XP 9 33 42 rfl
   (λhg9 _=>by
    refine aT14 ?_
    refine aU2 ?_
    exact oJt 9 42)
   (λhg11 _=>by
    refine aU8 ?_
    exact oJf 9 42) ?_
  refine oCq rfl (λw1 h1=>Qd8 w1 _ _) (aU2 ?_)
  exact rT rfl rfl (λw' h'=>⟨ks,by unfold XQ;simp only[];rw[if_neg (by rw[hu];decide),hn];simp only[QX,LNd.pl];simp only[cond_eq_ite,Bool.and_eq_true,decide_eq_true_eq,Qe];(split<;>split<;>first|rfl|omega),by unfold XQ;simp only[];rw[if_neg (by rw[hu];decide)];split<;>exact hst,h'.ent aEt⟩)
 have hu:(nth (pln L) i).us=true:=by rw[hn];have hq:=h4;simpa[LNd.pl]using hq
 have hN1:nth ((⟨(j:Int),mo,rm,pln L⟩:Tre)).ns i=⟨true,(nth L i).es,(nth L i).cs⟩:=by show nth (pln L) i=_;rw[hn]at hu ⊢;simp only[LNd.pl]at hu ⊢;rw[hu]
 rw[QoO (⟨(j:Int),mo,rm,pln L⟩:Tre) i hu]
 refine aU2 ?_
 refine Qj (L':=[(1,_),(3,_),(5,_),(6,_),(7,_)]) aSx (λ_ h=>h) ?_
 refine Ye (α:=Unit) [8,44,45,46,47,48,49,50,51,52,53,54,55,56,57,58,59,60,61,62,63,64,65,66,67,68] (λ_=>[(8,.int .i64 (nE1 (⟨(j:Int),mo,rm,pln L⟩:Tre) i))]) (λ_=>HS w (fps [.mp r KI ks]) [.blk b1 158 1 [.pointer (some ⟨bt,0,none⟩)],.blk b2 242 1 [.map (some r)],.blk b3 69 3 (nth L i).vals,.mp r KI ks]) (λ_=>True) ?_ ?_
 ·skip
  refine Qz [] QJ ?_
  refine dFa 0 ?_
  refine dLd 1 [] ?_
  refine dV 2 rfl (QR rfl rfl Tryz.underlying67) (dLd 3 [] ?_)
  refine dP 4 ?_
  refine dQ 5 [] rfl (Qr rfl QvD rfl (λw1 h1=>c229 w1 bt j mo rm a L.length cap i (ht.next h1))) (dP 6 ?_)
  refine dQ 7 [] rfl (Qr rfl QbE rfl (λw1 h1=>Qd8 w1 _ _)) (dFa 8 ?_)
  refine dLd 9 [] ?_
  refine dV 10 rfl (QR rfl rfl Tryz.underlying28) (dP 11 ?_)
  refine dP 12 ?_
  apply Xy 56
  ·exact rfl
  ·intro hg13
   have hs14:=hg13;try simp only[dT]at hs14
   refine dOf 13 56 hg13 ?_
   refine dOf 14 56 hg13 ?_
   refine dOf 15 56 hg13 ?_
   refine dOf 16 56 hg13 ?_
   refine dOf 17 56 hg13 ?_
   refine dOf 18 56 hg13 ?_
   refine dOf 19 56 hg13 ?_
   refine dOf 20 56 hg13 ?_
   refine dV 21 rfl (Xv rfl rfl hg13 rfl) (dQ 22 [] rfl (Qr rfl QbE rfl (λw1 h1=>Qd8 w1 _ _)) (dH 23 rfl (Qk (cs:=[_,_]) rfl rfl Yq ZY rfl rfl rfl) (λb15 _=>dBa ?_)))
   refine dQ 24 [] rfl (Qr rfl Qgn rfl (λw1 h1=>Qot h1 aPk (by rfl) (by rfl) (by decide))) (QC (show _=Value.int .i64 (nE1 (⟨(j:Int),mo,rm,pln L⟩:Tre) i)from by congr 1;rw[QbU];exact Qup hN1 _ (by first|(simp only[true_iff];left;have hq:=hg13;simp at hq ⊢;omega)|(have hq:¬(((nth L i).cs.length:Int)=0):=of_decide_eq_false hg13;rw[decide_eq_true_eq];omega))) (dP 25 ?_))
   refine dNi ?_
   exact Qo () trivial aSx (λw h=>h.ent aEt)
  intro hg16
  have hs17:=hg16;try simp only[dN]at hs17
  refine dFo 13 56 hg16 ?_
  refine dQo 14 56 [] hg16 rfl rfl rfl (Yo rfl rfl QcI aPk rfl) ?_
  refine dVo 15 56 hg16 rfl rfl rfl (QR rfl rfl Tryz.underlying28) ?_
  refine dFo 16 56 hg16 ?_
  refine dQo 17 56 [] hg16 rfl rfl rfl (Yo rfl rfl Qds aPk rfl) ?_
  refine dVo 18 56 hg16 rfl rfl rfl (QR rfl rfl Tryz.underlying67) ?_
  refine dPo 19 56 hg16 ?_
  try refine dWr ?_
  refine dPo 20 56 hg16 ?_
  refine dV 21 rfl (Q8 rfl rfl hg16 rfl) (dQ 22 [] rfl (Qr rfl QbE rfl (λw1 h1=>Qd8 w1 _ _)) (dH 23 rfl (Qk (cs:=[_,_]) rfl rfl Yq ZY rfl rfl rfl) (λb18 _=>dBa ?_)))
  refine dQ 24 [] rfl (Qr rfl Qgn rfl (λw1 h1=>Qot h1 aPk (by rfl) (by rfl) (by decide))) (QC (show _=Value.int .i64 (nE1 (⟨(j:Int),mo,rm,pln L⟩:Tre) i)from by congr 1;rw[QbU];exact Qup hN1 _ (by first|(simp only[true_iff];left;have hq:=hg16;simp at hq ⊢;omega)|(have hq:¬(((nth L i).cs.length:Int)=0):=of_decide_eq_false hg16;rw[decide_eq_true_eq];omega))) (dP 25 ?_))
  refine dNi ?_
  exact Qo () trivial aSx (λw h=>h.ent aEt)
 intro _ _
 refine aU6 ?_
 refine Ye (α:=Unit) [8,71,72,73,74,75,76,77] (λ_=>[(8,.int .i64 (nE2 (⟨(j:Int),mo,rm,pln L⟩:Tre) i))]) (λ_=>HS w (fps [.mp r KI ks]) [.blk b1 158 1 [.pointer (some ⟨bt,0,none⟩)],.blk b2 242 1 [.map (some r)],.blk b3 69 3 (nth L i).vals,.mp r KI ks]) (λ_=>True) ?_ ?_
 ·skip
  refine sCd rfl (λh19=>?_) λh19=>?_
  ·refine aU4 ?_
   refine oCq rfl (λw1 h1=>c230 w1 (nth L i).ea (nth L i).ec (nth L i).es 231 #[.pointer (some ⟨b1,0,none⟩)] ((nth L i).es.map (Y5 (j:Int))) ((hs.es hi).later h1) om (by kernel_rfl) (by simp) (λk w2 hk9 _ h2=>by rw[QcF hk9];exact c231 w2 b1 (k:Int) (nth (nth L i).es k) bt j mo rm a L.length cap hj (hkl _ (Qy hk9)) ((h1.rd_blk (Mc:=[]) (b:=b1) aPk rfl (by simp)).next h2) ((ht.next h1).next h2))) (aU5 ?_)
   exact Qo () trivial (by rw[hE2,if_pos h19];exact aSx) (λw h=>h.ent aEt)
  refine aU ?_
  exact Qo () trivial (by rw[hE2,if_neg h19];exact aSx) (λw h=>h.ent aEt)
 intro _ _
 refine aU6 ?_
 refine Ye (α:=List Int) [8,80,81,82,83,84,85,86] (λ_=>[(8,.int .i64 (nE3 (⟨(j:Int),mo,rm,pln L⟩:Tre) i seen).1)]) (λq=>HS w (fps [.mp r KI ks]) [.blk b1 158 1 [.pointer (some ⟨bt,0,none⟩)],.blk b2 242 1 [.map (some r)],.blk b3 69 3 (nth L i).vals,.mp r KI q]) (λq=>∀x,x∈q ↔ x∈(nE3 (⟨(j:Int),mo,rm,pln L⟩:Tre) i seen).2) ?_ ?_
 ·skip
  refine sCd rfl (λh20=>?_) λh20=>?_
  ·refine aU4 ?_
   refine o_h (Q1 (Cs:=[.mp r KI ks]) rfl Qu0 rfl aPs (λw1 h1 hf=>c232 w1 (nth L i).ca (nth L i).cc (nth L i).cs b1 b2 r ks seen bt j mo rm a cap L hf hst (h1.rd_blkF aPs (b:=b1) aPk rfl) (h1.rd_blkF aPs (b:=b2) aPk rfl) ((ht.keep h1).mono (Xb aPs)) ((hs.keep h1).mono (Xb aPs)) hl (((hs.cs hi).keep h1).mono (Xb aPs)) hcl)) rfl (λb21 hkG=>aU5 ?_)
   exact Qo b21.2 (by rw[hE3,if_pos h20];exact hkG) (by rw[hE3,if_pos h20];exact aSx) (λw h=>h.ent aEt)
  refine aU ?_
  exact Qo ks (by rw[hE3,if_neg h20];exact hst) (by rw[hE3,if_neg h20];exact aSx) (λw h=>h.ent aEt)
 intro ks2 hks2
 refine aU6 ?_
 refine Ye (α:=Unit) [8,89,90,91,92,93,94,95] (λ_=>[(8,.int .i64 (nE4 (⟨(j:Int),mo,rm,pln L⟩:Tre) i seen))]) (λ_=>HS w (fps [.mp r KI ks]) [.blk b1 158 1 [.pointer (some ⟨bt,0,none⟩)],.blk b2 242 1 [.map (some r)],.blk b3 69 3 (nth L i).vals,.mp r KI ks2]) (λ_=>True) ?_ ?_
 ·skip
  refine sCd rfl (λh22=>?_) λh22=>?_
  ·have he0:=Qnj (QwK _ _ (Qwt _ _ h22))
   rw[hn]at he0
   have hkok:∀x∈(nth L i).es,QZ (j:Int) x.key=true/\x.key.length<=1000000:=λx hx=>⟨Qd2 (he0 x hx),hkl x hx⟩
   refine aU4 ?_
   refine oCq rfl (λw1 h1=>c230 w1 (nth L i).ea (nth L i).ec (nth L i).es 234 #[.pointer (some ⟨b1,0,none⟩),.pointer (some ⟨b3,0,none⟩)] ((List.range (nth L i).es.length).map (Qbc (j:Int) (nth L i).es)) ((hs.es hi).later h1) om (by kernel_rfl) (by simp) (λk w2 hk9 _ h2=>by rw[Qcj hk9];exact c234 w2 b1 b3 k true (nth L i).ea (nth L i).ec (nth L i).es (.bool true) bt j mo rm a L.length cap hj hk9 om hkok ((h1.rd_blk (Mc:=[]) (b:=b1) aPk rfl (by simp)).next h2) ((h1.rd_blk (Mc:=[]) (b:=b3) aPk rfl (by simp)).next h2) (((hs.es hi).later h1).later h2) ((ht.next h1).next h2))) (aU5 ?_)
   exact Qo () trivial (by rw[hE4,if_pos h22];exact aSx) (λw h=>h.ent aEt)
  refine aU ?_
  exact Qo () trivial (by rw[hE4,if_neg h22];exact aSx) (λw h=>h.ent aEt)
 intro _ _
 refine aU5 ?_
 exact rT rfl rfl (λw' h'=>⟨ks2,rfl,hks2,h'.ent aEt⟩)
instance:TFn Tryz.prog 128:=⟨by kernel_rfl⟩
theorem Qlw:QK Tryz.prog 235=true:=by kernel_rfl
theorem Qpe:tsz Tryz.prog 102=some (1,false):=by kernel_rfl
instance:TSz Tryz.prog 102 1 false:=⟨Qpe⟩
theorem Qb3:tsl Tryz.prog 102=some (4,1,1):=by kernel_rfl
theorem c128(w:World)(ua:Option Addr)(uc:Nat)(u:List Int)(n:Int)(hu:Rw inV 1 w [] ua u)(hum:u.length<=100000):CR 128 #[.slice ua u.length uc,.int .i64 n] w (.int .i64 (ixI (Qhu u n))):=by
 refine eN2 Tryz.func128 Tryz.ntmps128 ?_
 refine Qay ?_
 refine Qt (α:=Nat) [4,5,8,9,10,11,12,13,14,15,16,17,18] (λk=>[(8,.int .i64 (k:Int))]) (λ_=>_) (λk=>k<=u.length/\∀i,i<k->(Qhu u n).getD i false=false) (λk=>u.length-k) 0 ⟨Nat.zero_le _,λi h=>absurd h (Nat.not_lt_zero i)⟩ aSx (λw h=>h) (λk hkk=>?_)
 obtain⟨hk1,hk2⟩:=hkk
 refine aU5 ?_
 refine sCd rfl (λh1=>?_) λh1=>?_
 ·have hk:k<u.length:=by omega
  refine QaU ?_
  refine o_p (Qa rfl rfl rfl QW (k) om om (Rw.some hu om)) rfl (o_q (Qb rfl rfl Zg ((hu.rdj 0 hk rfl))) rfl (aU2 ?_))
  refine sCd rfl (λh2=>?_) λh2=>?_
  ·have hq9:n=u.getD k 0:=h2
   have e:=QbY (l:=Qhu u n) (k:=k) (by rw[Qcp];omega) hk2 (λ_=>by rw[QkX hk];exact decide_eq_true hq9)
   refine aU5 ?_
   exact rV (h:=by simp only[QX,ixI,e,Qcp];rw[if_pos hk])
  have hq9:¬n=u.getD k 0:=h2
  refine aT4 ?_
  refine aU2 ?_
  exact QO (k+1) om ⟨om,λi hi=>(Nat.lt_or_ge i k).elim (hk2 i) (λh=>by obtain rfl:i=k:=om;rw[QkX hk];exact decide_eq_false hq9)⟩ aSx (λw h=>h)
 obtain rfl:k=u.length:=om
 refine Qh rfl ?_
 refine aU4 ?_
 exact rV (h:=by have e:=QbY (l:=Qhu u n) (k:=u.length) (by rw[Qcp];omega) hk2 (λh=>by rw[Qcp]at h;omega);simp only[QX,ixI,e,Qcp];rw[if_neg om])
theorem c62(w:World)(ua:Option Addr)(uc:Nat)(u:List Int)(n:Int)(hu:Rw inV 1 w [] ua u)(hum:u.length<=100000):CR 62 #[.slice ua u.length uc,.int .i64 n] w (.bool (decide (n∈u))):=by
 refine eN2 Tryz.func62 Tryz.ntmps62 ?_
 refine aU8 ?_
 refine oCq rfl (λw1 h1=>c128 w1 ua uc u n (hu.later h1) hum) (aU3 ?_)
 exact rV (h:=by rw[<-QqK,<-QfC];rfl)
def WkC(S:Type)(I:S->Prop)(C:S->HA)(st:S->Vis->S)(er:S->Vis->Int×Int)(q:Nat)(cv:Array Value)(bt:Nat)(j:Nat)(mo rm:Int)(a:Option Addr)(cap:Nat)(L:List LNd)(f:Nat):Prop:=∀(w:World)(s:S)(v:Vis)(pl ph:Option Addr)(P:List Nat),(HS w (fps [C s]) [C s] w)->(QK Tryz.prog q=true)->(∀s1 s2:S,(C s1).fp=(C s2).fp)->(∀s2 v2,I s2->I (st s2 v2))->(I s)->(∀(s2:S)(v2:Vis)(p2 p3:Option Addr)(w1:World),HS w (fps [C s]) [C s2] w1->I s2->v2.i<L.length->KOk (j:Int) v2.lo->KOk (j:Int) v2.hi->QaD w1 (fps [C s2]) p2 v2.lo->QaD w1 (fps [C s2]) p3 v2.hi->Calls Tryz.prog q (#[]++[.int .i64 (v2.i:Int),.int .i64 v2.d,.pointer p2,.pointer p3].toArray++cv) w1 λen w2=>∃g:Unit,en=.returned (.tuple #[.int .i64 (er s2 v2).1,.int .i64 (er s2 v2).2])/\True/\HS w1 (fps [C s2]) [C (st s2 v2)] w2)->(TbR w (fps [C s]) bt (j:Int) mo rm a L.length cap)->(Nt w (fps [C s]) a L)->(TOk (j:Int) (pln L))->(Bd (pln L))->(QaD w (fps [C s]) pl v.lo)->(QaD w (fps [C s]) ph v.hi)->(0<L.length)->(Gx.Way (pln L) (v.i::P))->(P.length+f=L.length)->(v.d=(P.length:Int)+1)->(KOk (j:Int) v.lo)->(KOk (j:Int) v.hi)->Calls Tryz.prog 235 #[.pointer (some ⟨bt,0,none⟩),.int .i64 (v.i:Int),.int .i64 v.d,.pointer pl,.pointer ph,.func (.func q) #[] cv] w λen w'=>∃g:Unit,en=.returned (.tuple #[.int .i64 (XI st er s (vis (pln L) f v)).1.1,.int .i64 (XI st er s (vis (pln L) f v)).1.2])/\True/\HS w (fps [C s]) [C (XI st er s (vis (pln L) f v)).2] w'
theorem QwH(w:World)(S:Type)(I:S->Prop)(C:S->HA)(st:S->Vis->S)(er:S->Vis->Int×Int)(q:Nat)(cv:Array Value)(bt:Nat)(j:Nat)(mo rm:Int)(a:Option Addr)(cap:Nat)(L:List LNd)(s:S)(v:Vis)(pl ph:Option Addr)(P:List Nat)(f:Nat)(hw:HS w (fps [C s]) [C s] w)(hq:QK Tryz.prog q=true)(hfp:∀s1 s2:S,(C s1).fp=(C s2).fp)(hI:∀s2 v2,I s2->I (st s2 v2))(hIs:I s)(hv:∀(s2:S)(v2:Vis)(p2 p3:Option Addr)(w1:World),HS w (fps [C s]) [C s2] w1->I s2->v2.i<L.length->KOk (j:Int) v2.lo->KOk (j:Int) v2.hi->QaD w1 (fps [C s2]) p2 v2.lo->QaD w1 (fps [C s2]) p3 v2.hi->Calls Tryz.prog q (#[]++[.int .i64 (v2.i:Int),.int .i64 v2.d,.pointer p2,.pointer p3].toArray++cv) w1 λen w2=>∃g:Unit,en=.returned (.tuple #[.int .i64 (er s2 v2).1,.int .i64 (er s2 v2).2])/\True/\HS w1 (fps [C s2]) [C (st s2 v2)] w2)(ht:TbR w (fps [C s]) bt (j:Int) mo rm a L.length cap)(hs:Nt w (fps [C s]) a L)(hT:TOk (j:Int) (pln L))(hB:Bd (pln L))(hpl:QaD w (fps [C s]) pl v.lo)(hph:QaD w (fps [C s]) ph v.hi)(h0:0<L.length)(hway:Gx.Way (pln L) (v.i::P))(hf:P.length+(f+1)=L.length)(hd:v.d=(P.length:Int)+1)(hko:KOk (j:Int) v.lo)(hkp:KOk (j:Int) v.hi)(ih:WkC S I C st er q cv bt j mo rm a cap L f):CE 235 #[.pointer (some ⟨bt,0,none⟩),.int .i64 (v.i:Int),.int .i64 v.d,.pointer pl,.pointer ph,.func (.func q) #[] cv] w (fps [C s]) (λg:Unit=>.tuple #[.int .i64 (XI st er s (vis (pln L) (f+1) v)).1.1,.int .i64 (XI st er s (vis (pln L) (f+1) v)).1.2]) (λg=>True) λg=>[C (XI st er s (vis (pln L) (f+1) v)).2]:=by
 have hi0:=QdC hT (by rw[Qe];exact h0) hway v.i (List.mem_cons_self ..)
 have hi:v.i<L.length:=by rw[Qe]at hi0;exact hi0
 have hn:=Q0 hi
 have hle:=hB.len
 rw[Qe]at hle
 have hel:=hB.es v.i hi0
 have hcl:=hB.cs v.i hi0
 rw[hn]at hel hcl
 simp only[LNd.pl]at hel hcl
 have hsh:=hT.shape v.i hi0
 rw[hn]at hsh
 simp only[LNd.pl]at hsh
 refine eW6 Tryz.func235 Tryz.ntmps235 hw ?_
 refine QaU ?_
 refine o_h (QkD (Cs:=[C s]) rfl rfl hq rfl aPs (λw1 h1 hf9=>hv s v pl ph w1 (h1.ent aEt) hIs hi hko hkp ((hpl.keep h1).mono (Xb aPs)) ((hph.keep h1).mono (Xb aPs)))) rfl (λ_ _=>QbK ?_)
 refine sCd rfl (λh1=>?_) λh1=>?_
 ·have hz:XI st er s (vis (pln L) (f+1) v)=(er s v,st s v):=by rw[vis,XI,if_neg h1]
  refine aU7 ?_
  exact Ql (rs:=[.tmp 12,.tmp 13]) rfl (.tmp rfl (.tmp rfl (.nil))) (λw' h'=>⟨(),by rw[hz];rfl,trivial,by rw[hz];exact h'.ent aEt⟩)
 have hz0:XI st er s [v]=((0,0),st s v):=by rw[XI,if_pos h1,XI]
 refine aU7 ?_
 refine o_q (Qb rfl rfl Y0 (ht 3 _ rfl)) rfl (aU ?_)
 refine o_p (Qa rfl rfl rfl QT (v.i) om om (Rw.some hs.1 om)) rfl (o_q (Qs _ rfl rfl Xo rfl (Rw.rd hs.1 hi)) rfl (oAl (λb2 _=>?_) Xr))
 refine aU4 ?_
 refine Qj (L':=[(0,_),(2,_),(3,_),(4,_),(5,_),(12,_),(13,_),(16,_)]) aSx (λ_ h=>h) ?_
 refine aU7 ?_
 refine Qt (α:=Nat×S) [12,13,17,18,19,20,21,22,47,48,49,50,51,52,53,54,55,56,57,58,59,60,61,62,63,64,65,66,67,68,69,70,71,72,73,74,75,76,77,78,79,80,81,82,83,84,85,86,87] (λx=>[(47,.int .i64 (x.1:Int))]) (λx=>HS w (fps [C s]) [.blk b2 69 3 (nth L v.i).vals,C x.2]) (λx=>x.1<=(nth L v.i).cs.length/\(XI st er s (Qbq (pln L) f v x.1)).1.2=0/\(XI st er s (Qbq (pln L) f v x.1)).2=x.2) (λx=>(nth L v.i).cs.length-x.1) (0,st s v) ⟨Nat.zero_le _,by rw[QlL,hz0],by rw[QlL,hz0]⟩ aSx (λw h=>h.ent aEt) (λ⟨k,sk⟩hx=>?_)
 dsimp only
 obtain⟨hk1,hk2,hk3⟩:=hx
 simp only[]at hk1 hk2 hk3
 refine aU5 ?_
 refine sCd rfl (λh3=>?_) λh3=>?_
 ·have hkl:k<(nth L v.i).cs.length:=by omega
  have hkid:=QgE hT hi0 (k:=k) (by rw[hn];exact hkl)
  have hwk:=Qd1 hway hi0 (k:=k) (by rw[hn];exact hkl) om
  have hki:((XW (pln L) v k).i:Int)=(nth L v.i).cs.getD k 0:=by unfold XW;rw[hn]at hkid ⊢;simp only[LNd.pl]at hkid ⊢;rw[Int.toNat_of_nonneg om]
  rw[Qe]at hkid
  refine aU6 ?_
  refine o_p (Qa rfl rfl rfl QW (k) om om (Rw.some (hs.cs hi) om)) rfl (o_q (Qb rfl rfl Zg (((hs.cs hi).rdj 0 (i:=k) hkl rfl))) rfl (aU2 ?_))
  refine Qm (show _=Value.int .i64 ((XW (pln L) v k).i:Int)from by rw[hki];rfl) (QgU ?_)
  refine Ye (α:=Option Addr) [19,56,57,58,59,60,61] (λp=>[(19,.pointer p)]) (λ_=>HS w (fps [C s]) [.blk b2 69 3 (nth L v.i).vals,C sk]) (λp=>QaD w (fps [C s]) p (loK (nth L v.i).es k v.lo)) ?_ ?_
  ·skip
   refine sCd rfl (λh4=>?_) λh4=>?_
   ·refine aT5 ?_
    refine o_p (Qa rfl rfl rfl Q3 (k-1) om om (Rw.some (hs.es hi) om)) rfl (aU3 ?_)
    exact Qo (some ⟨ab (nth L v.i).ea,ao (nth L v.i).ea+(k-1)*2,none⟩) (by rw[show loK (nth L v.i).es k v.lo=some (nth (nth L v.i).es (k-1)).key from if_pos om];exact⟨_,_,rfl,((hs.es hi).rdj 0 om rfl)⟩) aSx (λw h=>h.ent aEt)
   refine aU ?_
   exact Qo pl (by rw[show loK (nth L v.i).es k v.lo=v.lo from if_neg om];exact hpl) aSx (λw h=>h.ent aEt)
  intro p1 hp1
  refine aU9 ?_
  refine Qj (L':=[(0,_),(2,_),(3,_),(4,_),(5,_),(16,_),(17,_),(18,_),(19,_),(20,_),(44,_),(45,_),(46,_),(47,_),(66,_)]) aSx (λ_ h=>h) ?_
  refine Ye (α:=Option Addr) [20,67,68,69,70,71] (λp=>[(20,.pointer p)]) (λ_=>HS w (fps [C s]) [.blk b2 69 3 (nth L v.i).vals,C sk]) (λp=>QaD w (fps [C s]) p (hiK (nth L v.i).es k v.hi)) ?_ ?_
  ·skip
   refine sCd rfl (λh5=>?_) λh5=>?_
   ·refine aU4 ?_
    refine o_p (Qa rfl rfl rfl Q3 (k) om om (Rw.some (hs.es hi) om)) rfl (aU3 ?_)
    exact Qo (some ⟨ab (nth L v.i).ea,ao (nth L v.i).ea+k*2,none⟩) (by rw[show hiK (nth L v.i).es k v.hi=some (nth (nth L v.i).es k).key from if_pos om];exact⟨_,_,rfl,((hs.es hi).rdj 0 om rfl)⟩) aSx (λw h=>h.ent aEt)
   refine aU ?_
   exact Qo ph (by rw[show hiK (nth L v.i).es k v.hi=v.hi from if_neg om];exact hph) aSx (λw h=>h.ent aEt)
  intro p2 hp2
  refine aT6 ?_
  refine aU3 ?_
  refine o_h (Q1 (Cs:=[C sk]) rfl Qlw rfl aPs (λw1 h1 hf9=>ih w1 sk (XW (pln L) v k) p1 p2 (v.i::P) hf9 hq hfp hI (hk3▸Qjz hI _ _ hIs) (λs2 v2 p3 p4 w2 h2 hs2 hi2 ha2 hb2 hp3 hp4=>hv s2 v2 p3 p4 w2 (HS.thenF (h1.ent (Bs:=[C sk]) aEt) h2) hs2 hi2 ha2 hb2 hp3 hp4) ((ht.keep h1).mono (Xb aPs)) ((hs.keep h1).mono (Xb aPs)) hT hB (by unfold XW;rw[hn];exact(hp1.keep h1).mono (Xb aPs)) (by unfold XW;rw[hn];exact(hp2.keep h1).mono (Xb aPs)) h0 hwk (by simp only[List.length_cons];omega) (by show v.d+1=_;simp only[List.length_cons];omega) (Qgg hT hi0 (by rw[hn];simp only[LNd.pl];omega) hko) (Qg2 hT hi0 hkp))) rfl (λ_ _=>QbK ?_)
  refine sCd rfl (λh6=>?_) λh6=>?_
  ·have e9:XI st er s (Qbq (pln L) f v k++vis (pln L) f (XW (pln L) v k))=XI st er sk (vis (pln L) f (XW (pln L) v k)):=by rw[Qnt _ _ hk2,hk3]
   have hz:XI st er s (vis (pln L) (f+1) v)=XI st er sk (vis (pln L) f (XW (pln L) v k)):=by rw[Zr,hn];simp only[LNd.pl];obtain⟨B,eB⟩:=Qbw (pln L) f v (show k+1<=(nth L v.i).cs.length by omega);rw[eB,XZ,Qpd _ _ (by rw[e9];exact h6),e9]
   refine aU ?_
   refine Qj (L':=[(0,_),(2,_),(3,_),(4,_),(5,_),(16,_),(21,_),(22,_),(44,_),(45,_),(46,_),(47,_)]) aSx (λ_ h=>h) ?_
   refine aU6 ?_
   exact Ql (rs:=[.tmp 12,.tmp 13]) rfl (.tmp rfl (.tmp rfl (.nil))) (λw' h'=>⟨(),by rw[hz];rfl,trivial,by rw[hz];exact h'.ent aEt⟩)
  have hz:XI st er s (Qbq (pln L) f v (k+1))=XI st er sk (vis (pln L) f (XW (pln L) v k)):=by rw[XZ,Qnt _ _ hk2,hk3]
  refine aU2 ?_
  refine Qj (L':=[(0,_),(2,_),(3,_),(4,_),(5,_),(16,_),(44,_),(45,_),(46,_),(47,_)]) aSx (λ_ h=>h) ?_
  refine aT2 ?_
  refine aU2 ?_
  exact sBk (k+1,(XI st er sk (vis (pln L) f (XW (pln L) v k))).2) (by(try simp only[]);omega) ⟨by(try simp only[]);omega,by simp only[];rw[hz];exact h6,by simp only[];rw[hz]⟩
 refine Qh rfl ?_
 refine aU5 ?_
 exact Ql (rs:=[.tmp 12,.tmp 13]) rfl (.tmp rfl (.tmp rfl (.nil))) (λw' h'=>⟨(),by have hke:k=(nth L v.i).cs.length:=om;rw[Zr,hn];simp only[LNd.pl];rw[<-hke,QpS _ _ hk2];rfl,trivial,by have hke:k=(nth L v.i).cs.length:=om;rw[Zr,hn];simp only[LNd.pl];rw[<-hke,hk3];exact h'.ent aEt⟩)
theorem QlQ(S:Type)(I:S->Prop)(C:S->HA)(st:S->Vis->S)(er:S->Vis->Int×Int)(q:Nat)(cv:Array Value)(bt:Nat)(j:Nat)(mo rm:Int)(a:Option Addr)(cap:Nat)(L:List LNd):∀f,WkC S I C st er q cv bt j mo rm a cap L f
  | 0=>λw s v pl ph P hw hq hfp hI hIs hv ht hs hT hB hpl hph h0 hway hf hd hko hkp=>by
    have hl:=QbV hT (by rw[Qe];exact h0) hway;rw[Qe]at hl;simp only[List.length_cons]at hl;omega
  | f+1=>λw s v pl ph P hw hq hfp hI hIs hv ht hs hT hB hpl hph h0 hway hf hd hko hkp=>QwH w S I C st er q cv bt j mo rm a cap L s v pl ph P f hw hq hfp hI hIs hv ht hs hT hB hpl hph h0 hway hf hd hko hkp (QlQ S I C st er q cv bt j mo rm a cap L f)
theorem c236(w:World)(i:Nat)(d:Int)(pl ph:Option Addr)(c4 bb n:Nat)(s:List Bool)(hw:HS w (fps [.blk bb 4 n (s.map Value.bool)]) [.blk bb 4 n (s.map Value.bool)] w)(hc4:Rd w (fps [.blk bb 4 n (s.map Value.bool)]) c4 0 (.slice (some ⟨bb,0,none⟩) n n))(hi:i<n)(hn:s.length=n):CE 236 #[.int .i64 (i:Int),.int .i64 d,.pointer pl,.pointer ph,.pointer (some ⟨c4,0,none⟩)] w (fps [.blk bb 4 n (s.map Value.bool)]) (λg:Unit=>.tuple #[.int .i64 0,.int .i64 0]) (λg=>True) λg=>[.blk bb 4 n ((s.set i true).map Value.bool)]:=by
 refine eW5 Tryz.func236 Tryz.ntmps236 hw ?_
 refine aU7 ?_
 refine o_q (Qb rfl rfl Qpe (hc4)) rfl (aU ?_)
 refine o_p (Qa rfl rfl rfl Qb3 (i) om om rfl) rfl (Qkv (Qb1 rfl rfl rfl QdH rfl aPt (by first|(simp only[List.length_map,List.length_singleton,List.length_cons,List.length_nil];omega)|(simp;omega)) rfl) (λ_ _=>aU6 ?_))
 exact Ql (rs:=[.tmp 9,.tmp 10]) rfl (.tmp rfl (.tmp rfl (.nil))) (λw' h'=>⟨(),rfl,trivial,by have h2:=h';rw[List.map_set];simp only[Qi,Nat.zero_add,Nat.mul_one]at h2;exact h2.ent aEt⟩)
instance:TFn Tryz.prog 62:=⟨by kernel_rfl⟩
theorem QvQ:QK Tryz.prog 173=true:=by kernel_rfl
theorem Qig:Qrw Tryz.prog 266 9:=Qm8 Tryz.underlying266 Zu (by decide)
theorem c237(w:World)(v:Vis)(pl ph:Option Addr)(c1 c7:Nat)(s:Int)(bt:Nat)(j:Nat)(mo rm:Int)(a:Option Addr)(cap:Nat)(L:List LNd)(hw:HS w (fps [.blk c7 3 1 [.int .i64 s]]) [.blk c7 3 1 [.int .i64 s]] w)(hc1:Rd w (fps [.blk c7 3 1 [.int .i64 s]]) c1 0 (.pointer (some ⟨bt,0,none⟩)))(ht:TbR w (fps [.blk c7 3 1 [.int .i64 s]]) bt (j:Int) mo rm a L.length cap)(hs:Nt w (fps [.blk c7 3 1 [.int .i64 s]]) a L)(hj:j<=3)(hmo:0<=mo/\mo<=1000)(hi:v.i<L.length)(hl:L.length<=1000)(hel:(nth L v.i).es.length<=1000)(hcl:(nth L v.i).cs.length<=1000)(hc0:(nth L 0).cs.length<=1000)(he0:(nth L 0).es.length<=1000)(hpl:QaD w (fps [.blk c7 3 1 [.int .i64 s]]) pl v.lo)(hph:QaD w (fps [.blk c7 3 1 [.int .i64 s]]) ph v.hi)(hlo:∀k,v.lo=some k->(QZ (j:Int) k=true/\k.length<=1000000))(hhi:∀k,v.hi=some k->(QZ (j:Int) k=true/\k.length<=1000000))(hok:∀x∈(nth L v.i).es,QZ (j:Int) x.key=true/\x.key.length<=1000000):CE 237 #[.int .i64 (v.i:Int),.int .i64 v.d,.pointer pl,.pointer ph,.pointer (some ⟨c1,0,none⟩),.pointer (some ⟨c7,0,none⟩)] w (fps [.blk c7 3 1 [.int .i64 s]]) (λg:Unit=>.tuple #[.int .i64 (erV (⟨(j:Int),mo,rm,pln L⟩:Tre) s v).1,.int .i64 (erV (⟨(j:Int),mo,rm,pln L⟩:Tre) s v).2]) (λg=>True) λg=>[.blk c7 3 1 [.int .i64 (stV (⟨(j:Int),mo,rm,pln L⟩:Tre) s v)]]:=by
 have h00:0<L.length:=om
 have hn:nth (pln L) v.i=(nth L v.i).pl:=Q0 hi
 have hn0:nth (pln L) 0=(nth L 0).pl:=Q0 h00
 have hG:Qaf (⟨(j:Int),mo,rm,pln L⟩:Tre) v=(decide (0<v.i)&&(decide (((nth L v.i).es.length:Int)<mo/2)||((decide (((nth L 0).es.length:Int)=0)&&decide ((v.i:Int)∈(nth L 0).cs))&&decide (((nth L v.i).es.length:Int)<=rm)))):=by unfold Qaf;rw[hn,hn0];simp only[LNd.pl];congr 3;congr 1;apply decide_eq_decide.2;omega
 have hO:ZC (⟨(j:Int),mo,rm,pln L⟩:Tre) v=(nth L v.i).es.any (QaB (⟨(j:Int),mo,rm,pln L⟩:Tre) v):=by unfold ZC;rw[hn];rfl
 have hE:erV (⟨(j:Int),mo,rm,pln L⟩:Tre) s v=((v.i:Int),if Qaf (⟨(j:Int),mo,rm,pln L⟩:Tre) v=true then 14 else if ZC (⟨(j:Int),mo,rm,pln L⟩:Tre) v=true then 9 else if(nth L v.i).cs.length=0 then(if(if s=0 then v.d else s)=v.d then 0 else 22)else 0):=by unfold erV;rw[hn];rfl
 have hS:stV (⟨(j:Int),mo,rm,pln L⟩:Tre) s v=if Qaf (⟨(j:Int),mo,rm,pln L⟩:Tre) v=true then s else if ZC (⟨(j:Int),mo,rm,pln L⟩:Tre) v=true then s else if(nth L v.i).cs.length=0 then(if s=0 then v.d else s)else s:=by unfold stV;rw[hn];rfl
 refine eW6 Tryz.func237 Tryz.ntmps237 hw ?_
 refine aU7 ?_
 refine o_q (Qb rfl rfl ZV (hc1)) rfl (aU3 ?_)
 refine o_q (Qb rfl rfl Y0 (ht 3 _ rfl)) rfl (aU ?_)
 refine o_p (Qa rfl rfl rfl QT (v.i) om om (Rw.some hs.1 om)) rfl (o_q (Qs _ rfl rfl Xo rfl (Rw.rd hs.1 hi)) rfl (oAl (λb1 _=>?_) Xr))
 refine aU5 ?_
 refine o_q (Qb rfl rfl ZV (hc1)) rfl (aU3 ?_)
 refine o_q (Qb rfl rfl Y0 (ht 3 _ rfl)) rfl (o_p (Qa rfl rfl rfl QT (0) om om (Rw.some hs.1 om)) rfl (o_q (Qs _ rfl rfl Xo rfl (Rw.rd hs.1 (i:=0) h00)) rfl (oAl (λb2 _=>?_) Xr)))
 refine aU7 ?_
 refine Qj (L':=[(0,_),(1,_),(2,_),(3,_),(4,_),(5,_),(10,_),(11,_),(12,_),(13,_),(33,_)]) aSx (λ_ h=>h) ?_
 refine Ye (α:=Unit) [10,11,14,34,35,36,37,38,39,40,41,42,43,44,45,46,47,48,49,50,51,52,53,54,55,56,57,58,59,60,61,62,63,64] (λ_=>[]) (λ_=>HS w (fps [.blk c7 3 1 [.int .i64 s]]) [.blk b2 69 3 (nth L 0).vals,.blk b1 69 3 (nth L v.i).vals,.blk c7 3 1 [.int .i64 s]]) (λ_=>Qaf (⟨(j:Int),mo,rm,pln L⟩:Tre) v=false) ?_ ?_
 ·skip
  refine sCd rfl (λh3=>?_) λh3=>?_
  ·refine aU7 ?_
   refine XP 5 38 43 rfl
    (λhg4 _=>by
     refine aU7 ?_
     refine oCq rfl (λw1 h1=>c62 w1 (nth L 0).ca (nth L 0).cc (nth L 0).cs (v.i:Int) ((hs.cs h00).later h1) om) ?_
     exact oJt 5 43)
    (λhg6 _=>by
     refine aU4 ?_
     exact oJf 5 43) ?_
   refine aU3 ?_
   refine Ye (α:=Unit) [44,45,46,47,48,49,50,51,52,53,54,55,56,57,58,59,60,61,62,63] (λ_=>[(63,.bool (decide (((nth L v.i).es.length:Int)<mo/2)||((decide (((nth L 0).es.length:Int)=0)&&decide ((v.i:Int)∈(nth L 0).cs))&&decide (((nth L v.i).es.length:Int)<=rm))))]) (λ_=>HS w (fps [.blk c7 3 1 [.int .i64 s]]) [.blk b2 69 3 (nth L 0).vals,.blk b1 69 3 (nth L v.i).vals,.blk c7 3 1 [.int .i64 s]]) (λ_=>True) ?_ ?_
   ·skip
    refine Qz [] QJ ?_
    refine dFa 0 ?_
    refine dLd 1 [] ?_
    refine dV 2 rfl (QR rfl rfl Tryz.underlying67) (dQ 3 [] rfl (Qb rfl rfl ZV (hc1)) (dQ 4 [] rfl (Qr rfl QvQ rfl (λw1 h1=>c173 w1 bt j mo rm a L.length cap hmo (ht.next h1))) (dP 5 ?_)))
    refine dP 6 ?_
    apply Xy 50
    ·exact rfl
    ·intro hg8
     have hs9:=hg8;try simp only[dT]at hs9
     refine dOf 7 50 hg8 ?_
     refine dOf 8 50 hg8 ?_
     refine dOu 9 52 ?_
     refine dOu 10 52 ?_
     refine dOu 11 52 ?_
     refine dOu 12 52 ?_
     refine dOu 13 52 ?_
     refine dOu 14 52 ?_
     refine dOu 15 52 ?_
     refine dOu 16 52 ?_
     refine dOu 17 52 ?_
     refine dOf 18 50 hg8 ?_
     refine dV 19 rfl (Xv rfl rfl hg8 rfl) (QC (show _=Value.bool (decide (((nth L v.i).es.length:Int)<mo/2)||((decide (((nth L 0).es.length:Int)=0)&&decide ((v.i:Int)∈(nth L 0).cs))&&decide (((nth L v.i).es.length:Int)<=rm)))from by congr 1;first|(simp_all;done)|(simp_all;omega)) (dNi ?_))
     exact Qo () trivial aSx (λw h=>h.ent aEt)
    intro hg10
    have hs11:=hg10;try simp only[dN]at hs11
    refine dPo 7 50 hg10 ?_
    refine dPo 8 50 hg10 ?_
    apply Xy 52
    ·exact rfl
    ·intro hg12
     have hs13:=hg12;try simp only[Bool.and_eq_true,decide_eq_true_eq]at hs13
     refine dFo 9 52 hg12 ?_
     refine dQo 10 52 [] hg12 rfl rfl rfl (Yo rfl rfl Qds aPk rfl) ?_
     refine dVo 11 52 hg12 rfl rfl rfl (QR rfl rfl Tryz.underlying67) ?_
     refine dQo 12 52 [] hg12 rfl rfl rfl (Qb rfl rfl ZV (hc1)) ?_
     refine dPo 13 52 hg12 ?_
     refine dFo 14 52 hg12 ?_
     refine dFo 15 52 hg12 ?_
     refine dQo 16 52 [] hg12 rfl rfl rfl (Qb rfl rfl Zg (ht 2 _ rfl)) ?_
     refine dPo 17 52 hg12 ?_
     refine dVo 18 50 hg10 rfl rfl rfl (Xv rfl rfl hg12 rfl) ?_
     refine dV 19 rfl (Q8 rfl rfl hg10 rfl) (QC (show _=Value.bool (decide (((nth L v.i).es.length:Int)<mo/2)||((decide (((nth L 0).es.length:Int)=0)&&decide ((v.i:Int)∈(nth L 0).cs))&&decide (((nth L v.i).es.length:Int)<=rm)))from by congr 1;first|(simp_all;done)|(simp_all;omega)) (dNi ?_))
     exact Qo () trivial aSx (λw h=>h.ent aEt)
    intro hg14
    have hs15:=hg14;try simp only[Bool.and_eq_false_iff,decide_eq_false_iff_not]at hs15
    refine dOf 9 52 hg14 ?_
    refine dOf 10 52 hg14 ?_
    refine dOf 11 52 hg14 ?_
    refine dOf 12 52 hg14 ?_
    refine dOf 13 52 hg14 ?_
    refine dOf 14 52 hg14 ?_
    refine dOf 15 52 hg14 ?_
    refine dOf 16 52 hg14 ?_
    refine dOf 17 52 hg14 ?_
    refine dVo 18 50 hg10 rfl rfl rfl (Q8 rfl rfl hg14 rfl) ?_
    refine dV 19 rfl (Q8 rfl rfl hg10 rfl) (QC (show _=Value.bool (decide (((nth L v.i).es.length:Int)<mo/2)||((decide (((nth L 0).es.length:Int)=0)&&decide ((v.i:Int)∈(nth L 0).cs))&&decide (((nth L v.i).es.length:Int)<=rm)))from by congr 1;first|(simp_all;done)|(simp_all;omega)) (dNi ?_))
    exact Qo () trivial aSx (λw h=>h.ent aEt)
   intro _ _
   refine sCd rfl (λh16=>?_) λh16=>?_
   ·have hz:Qaf (⟨(j:Int),mo,rm,pln L⟩:Tre) v=true:=by rw[hG];have hq:=h16;simp only[Bool.and_eq_true,Bool.or_eq_true,decide_eq_true_eq];exact⟨om,hq⟩
    refine aU6 ?_
    exact Ql (rs:=[.tmp 10,.tmp 11]) rfl (.tmp rfl (.tmp rfl (.nil))) (λw' h'=>⟨(),by rw[hE];simp only[];rw[if_pos hz];rfl,trivial,by rw[hS,if_pos hz];exact h'.ent aEt⟩)
   refine aU ?_
   exact Qo () (by rw[hG,decide_eq_true om,Bool.true_and];apply Bool.eq_false_iff.2;intro h9;simp only[Bool.and_eq_true,Bool.or_eq_true,decide_eq_true_eq]at h9;have hq:=h16;simp at hq h9;grind) aSx (λw h=>h.ent aEt)
  refine aU ?_
  exact Qo () (by rw[hG,decide_eq_false om];rfl) aSx (λw h=>h.ent aEt)
 intro _ hz1
 refine aU9 ?_
 refine Qt (α:=Nat) [10,11,16,68,69,70,71,72,73,74,75,76,77,78,79,80,81,82,83,84,85,86,87,88,89,90,91,92,93,94,95,96,97,98,99,100,101,102,103,104,105,106,107] (λk=>[(68,.int .i64 (k:Int))]) (λ_=>HS w (fps [.blk c7 3 1 [.int .i64 s]]) [.blk b2 69 3 (nth L 0).vals,.blk b1 69 3 (nth L v.i).vals,.blk c7 3 1 [.int .i64 s]]) (λk=>k<=(nth L v.i).es.length/\∀i,i<k->QaB (⟨(j:Int),mo,rm,pln L⟩:Tre) v (nth (nth L v.i).es i)=false) (λk=>(nth L v.i).es.length-k) 0 ⟨Nat.zero_le _,λi h=>absurd h (Nat.not_lt_zero i)⟩ aSx (λw h=>h.ent aEt) (λk hx=>?_)
 obtain⟨hk1,hk2⟩:=hx
 refine aU5 ?_
 refine sCd rfl (λh17=>?_) λh17=>?_
 ·have hkl:k<(nth L v.i).es.length:=by omega
  refine aU5 ?_
  refine o_p (Qa rfl rfl rfl Q3 (k) om om (Rw.some (hs.es hi) om)) rfl (o_q (Qs _ rfl rfl QaM rfl (Rw.rd (hs.es hi) (i:=k) hkl)) rfl (oAl (λb18 _=>?_) Z0))
  refine aU3 ?_
  refine Ye (α:=Unit) [72,73,74,75,76,77,78,79,80,81,82,83,84,85,86,87,88,89,90,91,92,93,94,95,96,97,98,99,100,101,102,103,104,105] (λ_=>[(105,.bool (QaB (⟨(j:Int),mo,rm,pln L⟩:Tre) v (nth (nth L v.i).es k)))]) (λ_=>HS w (fps [.blk c7 3 1 [.int .i64 s]]) [.blk b2 69 3 (nth L 0).vals,.blk b1 69 3 (nth L v.i).vals,.blk c7 3 1 [.int .i64 s]]) (λ_=>True) ?_ ?_
  ·skip
   refine Qz [] QJ ?_
   refine dP 0 ?_
   refine dV 1 rfl (QcL rfl rfl rfl Qig) (dP 2 ?_)
   apply Xy 74
   ·exact rfl
   ·intro hg19
    have hs20:=hg19;skip
    refine dQo 3 74 [] hg19 rfl rfl rfl (Qb rfl rfl ZV (hc1)) ?_
    obtain⟨k9,b9,o9,hlo9,rfl,hr9⟩:=hpl.of_some hg19
    refine dPo 4 74 hg19 ?_
    refine dFo 5 74 hg19 ?_
    refine dFo 6 74 hg19 ?_
    refine dQo 7 74 [] hg19 rfl rfl rfl (Qb rfl rfl Qe2 (ht 5 _ rfl)) ?_
    refine dPo 8 74 hg19 ?_
    refine dPo 9 74 hg19 ?_
    refine dQo 10 74 [] hg19 rfl rfl rfl (Qb rfl rfl Zu (hr9)) ?_
    refine dFo 11 74 hg19 ?_
    refine dQo 12 74 [] hg19 rfl rfl rfl (Yo rfl rfl Zu aPk rfl) ?_
    refine dQo 13 74 [] hg19 rfl rfl rfl (YS rfl rfl (Qf1 _) rfl (λw1 h1=>Qbx w1 j k9 (nth (nth L v.i).es k).key hj (hlo _ hlo9).1 (hok _ (Qy hkl)).1 (hlo _ hlo9).2 (hok _ (Qy hkl)).2)) ?_
    refine dPo 14 74 hg19 ?_
    refine dV 15 rfl (Xv rfl rfl hg19 rfl) (QC (show _=Value.bool (v.lo.any λb=>decide (0<=Xt (j:Int) b (nth (nth L v.i).es k).key))from by congr 1;first|(rw[hlo9];rfl)|(rw[hpl.of_none hg19];rfl)) (dP 16 ?_))
    apply Xy 88
    ·exact rfl
    ·intro hg21
     have hs22:=hg21;skip
     refine dOf 17 88 hg21 ?_
     refine dOf 18 88 hg21 ?_
     refine dOf 19 88 hg21 ?_
     refine dOu 20 91 ?_
     refine dOu 21 91 ?_
     refine dOu 22 91 ?_
     refine dOu 23 91 ?_
     refine dOu 24 91 ?_
     refine dOu 25 91 ?_
     refine dOu 26 91 ?_
     refine dOu 27 91 ?_
     refine dOu 28 91 ?_
     refine dOu 29 91 ?_
     refine dOu 30 91 ?_
     refine dOu 31 91 ?_
     refine dOf 32 88 hg21 ?_
     refine dV 33 rfl (Xv rfl rfl hg21 rfl) (QC (show _=Value.bool (QaB (⟨(j:Int),mo,rm,pln L⟩:Tre) v (nth (nth L v.i).es k))from by congr 1;show _=((v.lo.any λb=>decide (0<=Xt (j:Int) b (nth (nth L v.i).es k).key))||(v.hi.any λb=>decide (0<=Xt (j:Int) (nth (nth L v.i).es k).key b)));first|(rw[show(v.lo.any λb=>decide (0<=Xt (j:Int) b (nth (nth L v.i).es k).key))=true by assumption];rfl)|(rw[show(v.lo.any λb=>decide (0<=Xt (j:Int) b (nth (nth L v.i).es k).key))=false by assumption];rfl)) (dNi ?_))
     exact Qo () trivial aSx (λw h=>h.ent aEt)
    intro hg23
    have hs24:=hg23;skip
    refine dPo 17 88 hg23 ?_
    refine dVo 18 88 hg23 rfl rfl rfl (QcL rfl rfl rfl Qig) ?_
    refine dPo 19 88 hg23 ?_
    apply Xy 91
    ·exact rfl
    ·intro hg25
     have hs26:=hg25;skip
     refine dQo 20 91 [] hg25 rfl rfl rfl (Qb rfl rfl ZV (hc1)) ?_
     obtain⟨k8,b8,o8,hhi8,rfl,hr8⟩:=hph.of_some hg25
     refine dPo 21 91 hg25 ?_
     refine dFo 22 91 hg25 ?_
     refine dFo 23 91 hg25 ?_
     refine dQo 24 91 [] hg25 rfl rfl rfl (Qb rfl rfl Qe2 (ht 5 _ rfl)) ?_
     refine dFo 25 91 hg25 ?_
     refine dQo 26 91 [] hg25 rfl rfl rfl (Yo rfl rfl Zu aPk rfl) ?_
     refine dPo 27 91 hg25 ?_
     refine dPo 28 91 hg25 ?_
     refine dQo 29 91 [] hg25 rfl rfl rfl (Qb rfl rfl Zu (hr8)) ?_
     refine dQo 30 91 [] hg25 rfl rfl rfl (YS rfl rfl (Qf1 _) rfl (λw1 h1=>Qbx w1 j (nth (nth L v.i).es k).key k8 hj (hok _ (Qy hkl)).1 (hhi _ hhi8).1 (hok _ (Qy hkl)).2 (hhi _ hhi8).2)) ?_
     refine dPo 31 91 hg25 ?_
     refine dVo 32 88 hg23 rfl rfl rfl (Xv rfl rfl hg25 rfl) ?_
     refine QC (show _=Value.bool (v.hi.any λb=>decide (0<=Xt (j:Int) (nth (nth L v.i).es k).key b))from by congr 1;first|(rw[hhi8];rfl)|(rw[hph.of_none hg25];rfl)) (dV 33 rfl (Q8 rfl rfl hg23 rfl) (QC (show _=Value.bool (QaB (⟨(j:Int),mo,rm,pln L⟩:Tre) v (nth (nth L v.i).es k))from by congr 1;show _=((v.lo.any λb=>decide (0<=Xt (j:Int) b (nth (nth L v.i).es k).key))||(v.hi.any λb=>decide (0<=Xt (j:Int) (nth (nth L v.i).es k).key b)));first|(rw[show(v.lo.any λb=>decide (0<=Xt (j:Int) b (nth (nth L v.i).es k).key))=true by assumption];rfl)|(rw[show(v.lo.any λb=>decide (0<=Xt (j:Int) b (nth (nth L v.i).es k).key))=false by assumption];rfl)) (dNi ?_)))
     exact Qo () trivial aSx (λw h=>h.ent aEt)
    intro hg27
    have hs28:=hg27;skip
    refine dOf 20 91 hg27 ?_
    refine dOf 21 91 hg27 ?_
    refine dOf 22 91 hg27 ?_
    refine dOf 23 91 hg27 ?_
    refine dOf 24 91 hg27 ?_
    refine dOf 25 91 hg27 ?_
    refine dOf 26 91 hg27 ?_
    refine dOf 27 91 hg27 ?_
    refine dOf 28 91 hg27 ?_
    refine dOf 29 91 hg27 ?_
    refine dOf 30 91 hg27 ?_
    refine dOf 31 91 hg27 ?_
    refine dVo 32 88 hg23 rfl rfl rfl (Q8 rfl rfl hg27 rfl) ?_
    refine QC (show _=Value.bool (v.hi.any λb=>decide (0<=Xt (j:Int) (nth (nth L v.i).es k).key b))from by congr 1;first|(rw[hhi8];rfl)|(rw[hph.of_none hg27];rfl)) (dV 33 rfl (Q8 rfl rfl hg23 rfl) (QC (show _=Value.bool (QaB (⟨(j:Int),mo,rm,pln L⟩:Tre) v (nth (nth L v.i).es k))from by congr 1;show _=((v.lo.any λb=>decide (0<=Xt (j:Int) b (nth (nth L v.i).es k).key))||(v.hi.any λb=>decide (0<=Xt (j:Int) (nth (nth L v.i).es k).key b)));first|(rw[show(v.lo.any λb=>decide (0<=Xt (j:Int) b (nth (nth L v.i).es k).key))=true by assumption];rfl)|(rw[show(v.lo.any λb=>decide (0<=Xt (j:Int) b (nth (nth L v.i).es k).key))=false by assumption];rfl)) (dNi ?_)))
    exact Qo () trivial aSx (λw h=>h.ent aEt)
   intro hg29
   have hs30:=hg29;skip
   refine dOf 3 74 hg29 ?_
   refine dOf 4 74 hg29 ?_
   refine dOf 5 74 hg29 ?_
   refine dOf 6 74 hg29 ?_
   refine dOf 7 74 hg29 ?_
   refine dOf 8 74 hg29 ?_
   refine dOf 9 74 hg29 ?_
   refine dOf 10 74 hg29 ?_
   refine dOf 11 74 hg29 ?_
   refine dOf 12 74 hg29 ?_
   refine dOf 13 74 hg29 ?_
   refine dOf 14 74 hg29 ?_
   refine dV 15 rfl (Q8 rfl rfl hg29 rfl) (QC (show _=Value.bool (v.lo.any λb=>decide (0<=Xt (j:Int) b (nth (nth L v.i).es k).key))from by congr 1;first|(rw[hlo9];rfl)|(rw[hpl.of_none hg29];rfl)) (dP 16 ?_))
   apply Xy 88
   ·exact rfl
   ·intro hg31
    have hs32:=hg31;skip
    refine dOf 17 88 hg31 ?_
    refine dOf 18 88 hg31 ?_
    refine dOf 19 88 hg31 ?_
    refine dOu 20 91 ?_
    refine dOu 21 91 ?_
    refine dOu 22 91 ?_
    refine dOu 23 91 ?_
    refine dOu 24 91 ?_
    refine dOu 25 91 ?_
    refine dOu 26 91 ?_
    refine dOu 27 91 ?_
    refine dOu 28 91 ?_
    refine dOu 29 91 ?_
    refine dOu 30 91 ?_
    refine dOu 31 91 ?_
    refine dOf 32 88 hg31 ?_
    refine dV 33 rfl (Xv rfl rfl hg31 rfl) (QC (show _=Value.bool (QaB (⟨(j:Int),mo,rm,pln L⟩:Tre) v (nth (nth L v.i).es k))from by congr 1;show _=((v.lo.any λb=>decide (0<=Xt (j:Int) b (nth (nth L v.i).es k).key))||(v.hi.any λb=>decide (0<=Xt (j:Int) (nth (nth L v.i).es k).key b)));first|(rw[show(v.lo.any λb=>decide (0<=Xt (j:Int) b (nth (nth L v.i).es k).key))=true by assumption];rfl)|(rw[show(v.lo.any λb=>decide (0<=Xt (j:Int) b (nth (nth L v.i).es k).key))=false by assumption];rfl)) (dNi ?_))
    exact Qo () trivial aSx (λw h=>h.ent aEt)
   intro hg33
   have hs34:=hg33;skip
   refine dPo 17 88 hg33 ?_
   refine dVo 18 88 hg33 rfl rfl rfl (QcL rfl rfl rfl Qig) ?_
   refine dPo 19 88 hg33 ?_
   apply Xy 91
   ·exact rfl
   ·intro hg35
    have hs36:=hg35;skip
    refine dQo 20 91 [] hg35 rfl rfl rfl (Qb rfl rfl ZV (hc1)) ?_
    obtain⟨k8,b8,o8,hhi8,rfl,hr8⟩:=hph.of_some hg35
    refine dPo 21 91 hg35 ?_
    refine dFo 22 91 hg35 ?_
    refine dFo 23 91 hg35 ?_
    refine dQo 24 91 [] hg35 rfl rfl rfl (Qb rfl rfl Qe2 (ht 5 _ rfl)) ?_
    refine dFo 25 91 hg35 ?_
    refine dQo 26 91 [] hg35 rfl rfl rfl (Yo rfl rfl Zu aPk rfl) ?_
    refine dPo 27 91 hg35 ?_
    refine dPo 28 91 hg35 ?_
    refine dQo 29 91 [] hg35 rfl rfl rfl (Qb rfl rfl Zu (hr8)) ?_
    refine dQo 30 91 [] hg35 rfl rfl rfl (YS rfl rfl (Qf1 _) rfl (λw1 h1=>Qbx w1 j (nth (nth L v.i).es k).key k8 hj (hok _ (Qy hkl)).1 (hhi _ hhi8).1 (hok _ (Qy hkl)).2 (hhi _ hhi8).2)) ?_
    refine dPo 31 91 hg35 ?_
    refine dVo 32 88 hg33 rfl rfl rfl (Xv rfl rfl hg35 rfl) ?_
    refine QC (show _=Value.bool (v.hi.any λb=>decide (0<=Xt (j:Int) (nth (nth L v.i).es k).key b))from by congr 1;first|(rw[hhi8];rfl)|(rw[hph.of_none hg35];rfl)) (dV 33 rfl (Q8 rfl rfl hg33 rfl) (QC (show _=Value.bool (QaB (⟨(j:Int),mo,rm,pln L⟩:Tre) v (nth (nth L v.i).es k))from by congr 1;show _=((v.lo.any λb=>decide (0<=Xt (j:Int) b (nth (nth L v.i).es k).key))||(v.hi.any λb=>decide (0<=Xt (j:Int) (nth (nth L v.i).es k).key b)));first|(rw[show(v.lo.any λb=>decide (0<=Xt (j:Int) b (nth (nth L v.i).es k).key))=true by assumption];rfl)|(rw[show(v.lo.any λb=>decide (0<=Xt (j:Int) b (nth (nth L v.i).es k).key))=false by assumption];rfl)) (dNi ?_)))
    exact Qo () trivial aSx (λw h=>h.ent aEt)
   intro hg37
   have hs38:=hg37;skip
   refine dOf 20 91 hg37 ?_
   refine dOf 21 91 hg37 ?_
   refine dOf 22 91 hg37 ?_
   refine dOf 23 91 hg37 ?_
   refine dOf 24 91 hg37 ?_
   refine dOf 25 91 hg37 ?_
   refine dOf 26 91 hg37 ?_
   refine dOf 27 91 hg37 ?_
   refine dOf 28 91 hg37 ?_
   refine dOf 29 91 hg37 ?_
   refine dOf 30 91 hg37 ?_
   refine dOf 31 91 hg37 ?_
   refine dVo 32 88 hg33 rfl rfl rfl (Q8 rfl rfl hg37 rfl) ?_
   refine QC (show _=Value.bool (v.hi.any λb=>decide (0<=Xt (j:Int) (nth (nth L v.i).es k).key b))from by congr 1;first|(rw[hhi8];rfl)|(rw[hph.of_none hg37];rfl)) (dV 33 rfl (Q8 rfl rfl hg33 rfl) (QC (show _=Value.bool (QaB (⟨(j:Int),mo,rm,pln L⟩:Tre) v (nth (nth L v.i).es k))from by congr 1;show _=((v.lo.any λb=>decide (0<=Xt (j:Int) b (nth (nth L v.i).es k).key))||(v.hi.any λb=>decide (0<=Xt (j:Int) (nth (nth L v.i).es k).key b)));first|(rw[show(v.lo.any λb=>decide (0<=Xt (j:Int) b (nth (nth L v.i).es k).key))=true by assumption];rfl)|(rw[show(v.lo.any λb=>decide (0<=Xt (j:Int) b (nth (nth L v.i).es k).key))=false by assumption];rfl)) (dNi ?_)))
   exact Qo () trivial aSx (λw h=>h.ent aEt)
  intro _ _
  refine sCd rfl (λh39=>?_) λh39=>?_
  ·have hz2:ZC (⟨(j:Int),mo,rm,pln L⟩:Tre) v=true:=by rw[hO,List.any_eq_true];exact⟨_,Qy hkl,h39⟩
   refine aU6 ?_
   exact Ql (rs:=[.tmp 10,.tmp 11]) rfl (.tmp rfl (.tmp rfl (.nil))) (λw' h'=>⟨(),by rw[hE];simp only[];rw[if_neg (by rw[hz1];decide),if_pos hz2];rfl,trivial,by rw[hS,if_neg (by rw[hz1];decide),if_pos hz2];exact h'.ent aEt⟩)
  refine aT4 ?_
  refine aU2 ?_
  exact sBk (k+1) om ⟨om,λi hi9=>(Nat.lt_or_ge i k).elim (hk2 i) (λh=>by obtain rfl:i=k:=om;have hq:=h39;simpa using hq)⟩
 obtain rfl:k=(nth L v.i).es.length:=om
 have hz2:ZC (⟨(j:Int),mo,rm,pln L⟩:Tre) v=false:=by rw[hO,List.any_eq_false];intro x hx;obtain⟨i9,hi9,e9⟩:=List.getElem_of_mem hx;have e8:nth (nth L v.i).es i9=x:=YW (by rw[List.getElem?_eq_getElem hi9,e9]);rw[<-e8,hk2 i9 hi9];decide
 refine Qh rfl ?_
 refine aU8 ?_
 refine sCd rfl (λh40=>?_) λh40=>?_
 ·have hc9:(nth L v.i).cs.length=0:=by have hq:=h40;omega
  have hEv:erV (⟨(j:Int),mo,rm,pln L⟩:Tre) s v=((v.i:Int),if(if s=0 then v.d else s)=v.d then 0 else 22):=by rw[hE,if_neg (by rw[hz1];decide),if_neg (by rw[hz2];decide),if_pos hc9]
  refine aU6 ?_
  refine Ye (α:=Unit) [114] (λ_=>[]) (λ_=>HS w (fps [.blk c7 3 1 [.int .i64 s]]) [.blk b2 69 3 (nth L 0).vals,.blk b1 69 3 (nth L v.i).vals,.blk c7 3 1 [.int .i64 (if s=0 then v.d else s)]]) (λ_=>True) ?_ ?_
  ·skip
   refine sCd rfl (λh41=>?_) λh41=>?_
   ·refine aU4 ?_
    exact Qo () trivial aSx (λw h=>by rw[if_pos h41];exact h.ent aEt)
   refine aU ?_
   exact Qo () trivial aSx (λw h=>by rw[if_neg h41];exact h.ent aEt)
  intro _ _
  refine aU6 ?_
  refine oCq rfl (λw1 h1=>Qd8 w1 _ _) (aU3 ?_)
  exact Ql (rs:=[.tmp 10,.tmp 11]) rfl (.tmp rfl (.tmp rfl (.nil))) (λw' h'=>⟨(),by rw[hEv];simp only[QX,cond_eq_ite,decide_eq_true_eq],trivial,by rw[hS,if_neg (by rw[hz1];decide),if_neg (by rw[hz2];decide),if_pos hc9];exact h'.ent aEt⟩)
 have hc9:¬(nth L v.i).cs.length=0:=by have hq:=h40;omega
 refine aU7 ?_
 exact Ql (rs:=[.tmp 10,.tmp 11]) rfl (.tmp rfl (.tmp rfl (.nil))) (λw' h'=>⟨(),by rw[hE];simp only[];rw[if_neg (by rw[hz1];decide),if_neg (by rw[hz2];decide),if_neg hc9];rfl,trivial,by rw[hS,if_neg (by rw[hz1];decide),if_neg (by rw[hz2];decide),if_neg hc9];exact h'.ent aEt⟩)
theorem Qv0:QS Tryz.prog 4=some [.bool false]:=by kernel_rfl
theorem Qvl:QS Tryz.prog 102=some [.slice none 0 0]:=by kernel_rfl
theorem c200(w:World)(bt:Nat)(j:Nat)(mo rm:Int)(a:Option Addr)(cap:Nat)(L:List LNd)(ht:TbR w [] bt (j:Int) mo rm a L.length cap)(hs:Nt w [] a L)(hj:j<=3)(hmo:0<=mo/\mo<=1000)(h0:0<L.length)(hB:Bd (pln L))(hT:TOk (j:Int) (pln L)):CR 200 #[.pointer (some ⟨bt,0,none⟩)] w (.tuple #[.int .i64 (Qb5 (⟨(j:Int),mo,rm,pln L⟩:Tre)).1,.int .i64 (Qb5 (⟨(j:Int),mo,rm,pln L⟩:Tre)).2]):=by
 have hle:=hB.len
 rw[Qe]at hle
 have hvis:vis (pln L) L.length Qcr=YV (pln L):=by unfold YV;rw[Qe]
 have hmar:=Qmo (YV (pln L)) (List.replicate L.length false)
 rw[List.length_replicate]at hmar
 have hbel:∀i,i<L.length->(XI Qhs (λ_ _=>(0,0)) (List.replicate L.length false) (YV (pln L))).2.getD i false=decide (i∈(YV (pln L)).map Vis.i):=λi hi=>by rw[hmar.2.2 i hi,show(List.replicate L.length false).getD i false=false from by rw[List.getD_eq_getElem?_getD,List.getElem?_replicate];split<;>rfl,Bool.false_or]
 have hes9:∀i,i<L.length->(nth L i).es.length<=1000:=λi hi=>by have h9:=hB.es i (by rw[Qe];exact hi);rw[Q0 hi]at h9;exact h9
 have hcs9:∀i,i<L.length->(nth L i).cs.length<=1000:=λi hi=>by have h9:=hB.cs i (by rw[Qe];exact hi);rw[Q0 hi]at h9;exact h9
 have hok9:∀i,i<L.length->∀x∈(nth L i).es,QZ (j:Int) x.key=true/\x.key.length<=1000000:=λi hi=>by have h9:=Qd4 hT (i:=i) (by rw[Qe];exact hi);rw[Q0 hi]at h9;exact h9
 refine eN1 Tryz.func200 Tryz.ntmps200 ?_
 refine aU2 ?_
 refine oBx λb1 _=>?_
 refine aU9 ?_
 refine o_q (Qb rfl rfl Y0 (ht 3 _ rfl)) rfl (aU ?_)
 refine o_h (QeN (n:=L.length) rfl rfl rfl Qb3 Qv0 om om) rfl (λb2 _=>XB (λw h=>(show HS _ _ [.blk b2 4 L.length ((List.replicate L.length false).map Value.bool),.blk b1 158 1 [.pointer (some ⟨bt,0,none⟩)]] w from by have h9:=h;rw[Nat.mul_one,QcJ,<-List.map_replicate]at h9;exact h9.ent aEt)) (oAl (λb3 _=>?_) Qvl))
 refine aU6 ?_
 refine o_h (Q1 (Cs:=[.blk b2 4 L.length ((List.replicate L.length false).map Value.bool)]) rfl Qlw rfl aPs (λw1 h1 hf=>by have h9:=QlQ (List Bool) (λs=>s.length=L.length) (λs=>.blk b2 4 L.length (s.map Value.bool)) Qhs (λ_ _=>(0,0)) 236 #[.pointer (some ⟨b3,0,none⟩)] bt j mo rm a cap L L.length w1 (List.replicate L.length false) Qcr none none [] hf (by kernel_rfl) (λ_ _=>rfl) (λs v h=>by simpa[Qhs]using h) (by simp) (λs2 v2 p2 p3 w2 h2 hs2 hi2 _ _ _ _=>c236 w2 v2.i v2.d p2 p3 b3 b2 L.length s2 (HS.focus (Cs:=[_]) (Ds:=[]) h2) (h2.keep (h1.rd_blkF aPs (b:=b3) aPk rfl)) hi2 hs2) ((ht.keep h1).mono (Xb aPs)) ((hs.keep h1).mono (Xb aPs)) hT hB rfl rfl h0 rfl (by simp) rfl (λ_ h=>by cases h) (λ_ h=>by cases h);rw[hvis]at h9;exact h9)) rfl (λ_ _=>aU3 ?_)
 refine XB (λw h=>(show HS _ _ [.blk b2 4 L.length ((XI Qhs (λ_ _=>(0,0)) (List.replicate L.length false) (YV (pln L))).2.map Value.bool),.blk b3 102 1 [.slice (some ⟨b2,0,none⟩) L.length L.length],.blk b1 158 1 [.pointer (some ⟨bt,0,none⟩)]] w from h.ent aEt)) (aU8 ?_)
 refine o_q (Qb rfl rfl Y0 (ht 3 _ rfl)) rfl (aU4 ?_)
 refine Qj (L':=[(1,_),(2,_),(3,_),(4,_),(25,_),(26,_),(27,_)]) aSx (λ_ h=>h) ?_
 refine Qt (α:=Nat) [2,3,5,6,27,28,29,30,31,32,33,34,35,36,37,38,39,40,41,42] (λk=>[(27,.int .i64 (k:Int))]) (λ_=>HS w [] [.blk b2 4 L.length ((XI Qhs (λ_ _=>(0,0)) (List.replicate L.length false) (YV (pln L))).2.map Value.bool),.blk b3 102 1 [.slice (some ⟨b2,0,none⟩) L.length L.length],.blk b1 158 1 [.pointer (some ⟨bt,0,none⟩)]]) (λk=>k<=L.length/\QaC (pln L) ((YV (pln L)).map Vis.i) L.length 0=QaC (pln L) ((YV (pln L)).map Vis.i) (L.length-k) k) (λk=>L.length-k) 0 ⟨Nat.zero_le _,rfl⟩ aSx (λw h=>h.ent aEt) (λk hx=>?_)
 obtain⟨hk1,hk2⟩:=hx
 refine aU5 ?_
 refine sCd rfl (λh4=>?_) λh4=>?_
 ·have hkl:k<L.length:=by omega
  have hst:=QhK (ns:=pln L) (below:=(YV (pln L)).map Vis.i) (k:=k) (by rw[Qe];exact hkl)
  rw[Qe,Q0 hkl]at hst
  refine aU6 ?_
  refine o_p (Qa rfl rfl rfl QT (k) om om (Rw.some hs.1 om)) rfl (o_q (Qs _ rfl rfl Xo rfl (Rw.rd hs.1 hkl)) rfl (oAl (λb5 _=>?_) Xr))
  refine aU8 ?_
  refine XP 6 34 40 rfl
   (λhg6 _=>by
    refine aU5 ?_
    refine o_p (Qa rfl rfl rfl Qb3 (k) om om rfl) rfl (aU ?_)
    refine o_q (XY rfl rfl QdH (λw h=>by rw[Nat.zero_add,Nat.mul_one];exact h.rd_blk (Mc:=[]) (b:=b2) aPk (Qrd (by rw[hmar.2.1];exact hkl)) (by simp))) rfl (aU2 ?_)
    exact oJt 6 40)
   (λhg8 _=>by
    refine aU5 ?_
    exact oJf 6 40) ?_
  refine aU ?_
  refine sCd rfl (λh10=>?_) λh10=>?_
  ·have hz:(nth L k).pl.us=true/\k ∉ (YV (pln L)).map Vis.i:=by have hq:=h10;rw[hbel k hkl]at hq;simp only[LNd.pl];simpa using hq
   refine aU6 ?_
   exact Ql (rs:=[.tmp 2,.tmp 3]) rfl (.tmp rfl (.tmp rfl (.nil))) (λw' h'=>⟨by rw[QdL (t:=(⟨(j:Int),mo,rm,pln L⟩:Tre)) (i:=k) (show QaC (pln L) _ (pln L).length 0=some k from by rw[Qe,hk2,hst,if_pos hz])];rfl,h'.below⟩)
  have hz:¬((nth L k).pl.us=true/\k ∉ (YV (pln L)).map Vis.i):=by have hq:=h10;rw[hbel k hkl]at hq;simp only[LNd.pl];intro h9;simp at hq h9;grind
  refine aT4 ?_
  refine aU2 ?_
  exact sBk (k+1) om ⟨om,by rw[hk2,hst,if_neg hz]⟩
 have hnone:QaC (pln L) ((YV (pln L)).map Vis.i) L.length 0=none:=by rw[hk2,show L.length-k=0 by omega];rfl
 refine Qh rfl ?_
 refine aU2 ?_
 refine oAl (λb11 _=>?_) Qcf
 refine aU6 ?_
 refine o_h (Q1 (Cs:=[.blk b11 3 1 [.int .i64 0]]) rfl Qlw rfl aPs (λw1 h1 hf=>by have h9:=QlQ Int (λ_=>True) (λs=>.blk b11 3 1 [.int .i64 s]) (stV (⟨(j:Int),mo,rm,pln L⟩:Tre)) (erV (⟨(j:Int),mo,rm,pln L⟩:Tre)) 237 #[.pointer (some ⟨b1,0,none⟩),.pointer (some ⟨b11,0,none⟩)] bt j mo rm a cap L L.length w1 0 Qcr none none [] hf (by kernel_rfl) (λ_ _=>rfl) (λ_ _ _=>trivial) trivial (λs2 v2 p2 p3 w2 h2 _ hi2 ha2 hb2 hp2 hp3=>c237 w2 v2 p2 p3 b1 b11 s2 bt j mo rm a cap L (HS.focus (Cs:=[_]) (Ds:=[]) h2) (h2.keep (h1.rd_blkF aPs (b:=b1) aPk rfl)) (((ht.keep h1).mono (Xb aPs)).keep h2) (((hs.keep h1).mono (Xb aPs)).keep h2) hj hmo hi2 hle (hes9 _ hi2) (hcs9 _ hi2) (hcs9 _ h0) (hes9 _ h0) hp2 hp3 ha2 hb2 (hok9 _ hi2)) ((ht.keep h1).mono (Xb aPs)) ((hs.keep h1).mono (Xb aPs)) hT hB rfl rfl h0 rfl (by simp) rfl (λ_ h=>by cases h) (λ_ h=>by cases h);rw[hvis,Gx.run_shape (t:=(⟨(j:Int),mo,rm,pln L⟩:Tre)) hT (by show 0<(pln L).length;rw[Qe];exact h0)]at h9;exact h9)) rfl (λ_ _=>aU5 ?_)
 exact Ql (rs:=[.tmp 2,.tmp 3]) rfl (.tmp rfl (.tmp rfl (.nil))) (λw' h'=>⟨by rw[QdN (t:=(⟨(j:Int),mo,rm,pln L⟩:Tre)) (show QaC (pln L) _ (pln L).length 0=none from by rw[Qe];exact hnone)];rfl,h'.below⟩)
theorem Qwl:Y2 Tryz.prog 166=some [(0,4),(4,2)]:=by kernel_rfl
theorem Qvq:QS Tryz.prog 166=some [.int .i64 0,.int .i64 0,.int .i64 0,.slice none 0 0,.nilFunc,.nilFunc]:=by kernel_rfl
theorem Qva:QK Tryz.prog 199=true:=by kernel_rfl
instance:TFn Tryz.prog 200:=⟨by kernel_rfl⟩
theorem c140(w:World)(co mo rm:Int)(a:Option Addr)(cap:Nat)(L:List LNd)(hs:Nt w [] a L)(hB:Bd (pln L))(hkl:∀i,i<L.length->∀x∈(nth L i).es,x.key.length<=1000000):CR 140 #[.agg #[.int .i64 co,.int .i64 mo,.int .i64 rm,.slice a L.length cap]] w (.tuple #[.int .i64 (Yw (⟨co,mo,rm,pln L⟩:Tre)).1,.int .i64 (Yw (⟨co,mo,rm,pln L⟩:Tre)).2]):=by
 have hle:=hB.len
 rw[Qe]at hle
 have hes9:∀i,i<L.length->(nth L i).es.length<=1000:=λi hi=>by have h9:=hB.es i (by rw[Qe];exact hi);rw[Q0 hi]at h9;exact h9
 have hcs9:∀i,i<L.length->(nth L i).cs.length<=1000:=λi hi=>by have h9:=hB.cs i (by rw[Qe];exact hi);rw[Q0 hi]at h9;exact h9
 refine eN1 Tryz.func140 Tryz.ntmps140 ?_
 refine aU2 ?_
 refine oBx λb1 _=>?_
 refine Qay ?_
 refine oCq rfl (λw1 h1=>c155 w1 _ _ _) (aU7 ?_)
 refine sCd rfl (λh2=>?_) λh2=>?_
 ·have hz:=QcW (t:=(⟨co,mo,rm,pln L⟩:Tre)) h2
  refine aU6 ?_
  exact Ql (rs:=[.tmp 2,.tmp 3]) rfl (.tmp rfl (.tmp rfl (.nil))) (λw' h'=>⟨by rw[hz];rfl,h'.below⟩)
 have hc0:(if Qv co=0 then XF mo rm else Qv co)=0:=h2
 obtain⟨hco,hsz⟩:=Qit (t:=(⟨co,mo,rm,pln L⟩:Tre)) hc0
 obtain⟨j,rfl,hj⟩:=Qie hco
 have hsz2:(3<=mo/\mo<=8)/\(mo/2<=rm/\rm<=mo):=QpU hsz
 refine aU3 ?_
 refine Qz [] QJ ?_
 refine dFa 0 ?_
 refine dLd 1 [] ?_
 refine dV 2 rfl (QR rfl rfl Tryz.underlying35) (dP 3 ?_)
 refine dQ 4 [] rfl (Qr rfl QbE rfl (λw1 h1=>Qd8 w1 _ _)) (dFa 5 ?_)
 refine dLd 6 [] ?_
 refine dV 7 rfl (QR rfl rfl Tryz.underlying35) (dP 8 ?_)
 refine dQ 9 [] rfl (Qr rfl QbE rfl (λw1 h1=>Qd8 w1 _ _)) (dH 10 rfl (Qk (cs:=[_,_]) rfl rfl Yq ZY rfl rfl rfl) (λb3 _=>dBa ?_))
 refine dQ 11 [] rfl (Qr rfl Qgn rfl (λw1 h1=>Qot h1 aPk (by rfl) (by rfl) (by decide))) ?_
 refine QC (show _=Value.int .i64 (Zl L.length)from by congr 1;rw[QbU];unfold Zl;simp only[cond_eq_ite,decide_eq_true_eq];first|(split<;>(try split)<;>(try split)<;>(try split)<;>first|rfl|omega)) (dP 12 ?_)
 refine dNi ?_
 refine aU5 ?_
 refine sCd rfl (λh4=>?_) λh4=>?_
 ·have hz:=Qek (t:=(⟨(j:Int),mo,rm,pln L⟩:Tre)) hc0 (by rw[show((⟨(j:Int),mo,rm,pln L⟩:Tre)).ns.length=L.length from Qe L];exact h4)
  rw[show((⟨(j:Int),mo,rm,pln L⟩:Tre)).ns.length=L.length from Qe L]at hz
  refine aU6 ?_
  exact Ql (rs:=[.tmp 2,.tmp 3]) rfl (.tmp rfl (.tmp rfl (.nil))) (λw' h'=>⟨by rw[hz];rfl,h'.below⟩)
 have hc1:Zl L.length=0:=h4
 have hz:=QeU (t:=(⟨(j:Int),mo,rm,pln L⟩:Tre)) hc0 (by rw[show((⟨(j:Int),mo,rm,pln L⟩:Tre)).ns.length=L.length from Qe L];exact hc1)
 rw[show((⟨(j:Int),mo,rm,pln L⟩:Tre)).ns.length=L.length from Qe L]at hz
 obtain⟨h00,h120⟩:=QlB hc1
 refine aU2 ?_
 refine Qj (L':=[(1,_),(2,_),(3,_)]) aSx (λ_ h=>h) ?_
 refine Ye (α:=Nat×Nat) [6,7,37,38,39,40,41,42,43,44] (λx=>[(6,.pointer (some ⟨x.1,0,none⟩)),(7,.map (some x.2))]) (λx=>HS w [] [.blk b1 37 4 [.int .i64 (j:Int),.int .i64 mo,.int .i64 rm,.slice a L.length cap],.blk x.1 166 6 (tbV (j:Int) mo rm a L.length cap),.mp x.2 KI []]) (λ_=>True) ?_ ?_
 ·skip
  refine Qz [] QJ ?_
  refine dLn 0 [] ?_
  refine dQ 1 [] rfl (Qr rfl Qsh rfl (λw1 h1=>Qwh w1)) (dFa 2 ?_)
  refine dLd 3 [] ?_
  refine dV 4 rfl (Qd0 rfl rfl rfl Qiz Qik j rfl om) (QC (Qg7 j hj) (dV 5 rfl (QE (cs:=[_,_,_,_,_,_]) rfl rfl Qwl Qvq rfl) (QqX 6 7 rfl rfl (Qm6 rfl rfl) (Qc7 rfl KI) (by kernel_rfl) (λw h=>h.ent aEt) rfl rfl (λb5 _=>?_) (λb6 _=>?_))))
  ·skip
   refine dBa ?_
   refine dP 8 ?_
   refine dH 7 rfl (Qc7 rfl KI) (λb7 _=>dBa ?_)
   refine dP 9 ?_
   refine dNi ?_
   exact Qo (b5,b7) trivial aSx (λw h=>h.ent aEt)
  skip
  refine dBa ?_
  refine dH 6 rfl (Qm6 rfl rfl) (λb8 _=>dBa ?_)
  refine dP 8 ?_
  refine dP 9 ?_
  refine dNi ?_
  exact Qo (b8,b6) trivial aSx (λw h=>h.ent aEt)
 intro⟨bt,r⟩ _
 refine aU9 ?_
 refine Qt (α:=Nat×List Int×List Int) [2,3,8,9,48,49,50,51,52,53,54,55,56,57,58,59] (λx=>[(48,.int .i64 (x.1:Int))]) (λx=>HS w [] [.blk b1 37 4 [.int .i64 (j:Int),.int .i64 mo,.int .i64 rm,.slice a L.length cap],.blk bt 166 6 (tbV (j:Int) mo rm a L.length cap),.mp r KI x.2.1]) (λx=>x.1<=L.length/\(∀y,y∈x.2.1 ↔ y∈x.2.2)/\(X6 (⟨(j:Int),mo,rm,pln L⟩:Tre) L.length 0 [])=X6 (⟨(j:Int),mo,rm,pln L⟩:Tre) (L.length-x.1) x.1 x.2.2) (λx=>L.length-x.1) (0,[],[]) ⟨Nat.zero_le _,λ_=>Iff.rfl,rfl⟩ aSx (λw h=>h.ent aEt) (λ⟨k,K,S9⟩hx=>?_)
 dsimp only
 obtain⟨hk1,hk2,hk3⟩:=hx
 simp only[]at hk1 hk2 hk3
 refine aU5 ?_
 refine sCd rfl (λh9=>?_) λh9=>?_
 ·have hkl9:k<L.length:=by omega
  have hst:=Qhm (t:=(⟨(j:Int),mo,rm,pln L⟩:Tre)) (k:=k) (seen:=S9) (by rw[show((⟨(j:Int),mo,rm,pln L⟩:Tre)).ns.length=L.length from Qe L];exact hkl9)
  rw[show((⟨(j:Int),mo,rm,pln L⟩:Tre)).ns.length=L.length from Qe L]at hst
  refine QaU ?_
  refine o_h (Q1 (Cs:=[.mp r KI K]) rfl Qva rfl aPs (λw1 h1 hf=>c199 w1 k r K S9 bt j mo rm a cap L hf hk2 (λk9 v9 hv9=>h1.rd_blkF aPs (b:=bt) aPk hv9) ((hs.keep h1).mono (Xb aPs)) hle hj hkl9 (hes9 _ hkl9) (hcs9 _ hkl9) (hkl _ hkl9))) rfl (λb10 hkG=>aU7 ?_)
  refine sCd rfl (λh11=>?_) λh11=>?_
  ·have hz3:(X6 (⟨(j:Int),mo,rm,pln L⟩:Tre) L.length 0 [])=((k:Int),(XQ (⟨(j:Int),mo,rm,pln L⟩:Tre) k S9).1):=by rw[hk3,hst,if_neg h11]
   rw[hz3,if_neg (show¬(((k:Int),(XQ (⟨(j:Int),mo,rm,pln L⟩:Tre) k S9).1):Int×Int).2=0 from h11)]at hz
   refine aU7 ?_
   exact Ql (rs:=[.tmp 2,.tmp 3]) rfl (.tmp rfl (.tmp rfl (.nil))) (λw' h'=>⟨by rw[hz];rfl,h'.below⟩)
  have hz3:X6 (⟨(j:Int),mo,rm,pln L⟩:Tre) (L.length-k) k S9=X6 (⟨(j:Int),mo,rm,pln L⟩:Tre) (L.length-(k+1)) (k+1) (XQ (⟨(j:Int),mo,rm,pln L⟩:Tre) k S9).2:=by rw[hst,if_pos h11]
  refine aT4 ?_
  refine aU2 ?_
  exact sBk (k+1,b10,(XQ (⟨(j:Int),mo,rm,pln L⟩:Tre) k S9).2) (by(try simp only[]);omega) ⟨by(try simp only[]);omega,hkG,by simp only[];rw[hk3,hz3]⟩
 have hnd:(X6 (⟨(j:Int),mo,rm,pln L⟩:Tre) L.length 0 [])=(0,0):=by rw[hk3,show L.length-k=0 by omega];rfl
 rw[hnd,if_pos rfl]at hz
 have hT:TOk (j:Int) (pln L):=QgF (t:=(⟨(j:Int),mo,rm,pln L⟩:Tre)) (by show(X6 (⟨(j:Int),mo,rm,pln L⟩:Tre) (pln L).length 0 []).2=0;rw[Qe,hnd])
 refine Qh rfl ?_
 refine aU3 ?_
 refine oCq rfl (λw1 h1=>c200 w1 bt j mo rm a cap L (HS.tbr h1 aPk) (hs.later h1) hj om h00 hB hT) (Qay ?_)
 refine Ye (α:=Unit) [10] (λ_=>[(10,.int .i64 (Yw (⟨(j:Int),mo,rm,pln L⟩:Tre)).1)]) (λ_=>HS w [] []) (λ_=>True) ?_ ?_
 ·skip
  refine sCd rfl (λh12=>?_) λh12=>?_
  ·refine aU3 ?_
   exact Qo () trivial (by rw[hz,Qmw h12];exact aSx) (λw h=>h.ent aEt)
  refine aU ?_
  exact Qo () trivial (by rw[hz];exact aSx) (λw h=>h.ent aEt)
 intro _ _
 refine aU7 ?_
 exact Ql (rs:=[.tmp 2,.tmp 3]) rfl (.tmp rfl (.tmp rfl (.nil))) (λw' h'=>⟨by simp only[QX];rw[hz],h'.below⟩)
theorem QwI:QK Tryz.prog 80=true:=by kernel_rfl
theorem QwY:QK Tryz.prog 81=true:=by kernel_rfl
theorem c80(w:World)(a:Option Addr)(cap:Nat)(l:List TEnt)(hs:Rw TEnt.vals 2 w [] a l)(hl:l.length<=100000):CE 80 #[.slice a l.length cap] w [] (λg:Option Addr×Nat=>.slice g.1 l.length g.2) (λg=>True) λg=>[.own (.slice g.1 l.length g.2) 27 2 l.length (l.flatMap TEnt.vals)]:=by
 refine eN1 Tryz.func80 Tryz.ntmps80 ?_
 refine aU6 ?_
 refine o_h (Qa6 rfl Q3) rfl (λb1 _=>aU ?_)
 refine o_h (Xe (l.flatMap TEnt.vals) rfl rfl rfl Q3 Tryz.underlying67 Z0 rfl aPk (λw h=>Rw.src ev2 hs h) (QaH ev2 _) (Qjr ev1 _) om (by simp only[maxLen];omega)) rfl (λb2 _=>aU2 ?_)
 exact rT rfl rfl (λw' h'=>⟨b2,by simp only[QX,Nat.zero_add],trivial,by have h2:=h';simp only[Nat.zero_add,List.nil_append]at h2;exact h2.ent aEt⟩)
theorem c81(w:World)(a:Option Addr)(cap:Nat)(l:List Int)(hs:Rw inV 1 w [] a l)(hl:l.length<=100000):CE 81 #[.slice a l.length cap] w [] (λg:Option Addr×Nat=>.slice g.1 l.length g.2) (λg=>True) λg=>[.own (.slice g.1 l.length g.2) 3 1 l.length (l.flatMap inV)]:=by
 refine eN1 Tryz.func81 Tryz.ntmps81 ?_
 refine aU6 ?_
 refine o_h (Qa6 rfl QW) rfl (λb1 _=>aU ?_)
 refine o_h (Xe (l.flatMap inV) rfl rfl rfl QW Tryz.underlying28 Qcf rfl aPk (λw h=>Rw.src iv1 hs h) (QaH iv1 _) (Qjr Qs1 _) om (by simp only[maxLen];omega)) rfl (λb2 _=>aU2 ?_)
 exact rT rfl rfl (λw' h'=>⟨b2,by simp only[QX,Nat.zero_add],trivial,by have h2:=h';simp only[Nat.zero_add,List.nil_append]at h2;exact h2.ent aEt⟩)
theorem c21(w:World)(co mo rm:Int)(a:Option Addr)(cap:Nat)(L:List LNd)(hs:Nt w [] a L)(hl:L.length<=1000)(hsm:Sm 1000 (pln L)):CE 21 #[.agg #[.int .i64 co,.int .i64 mo,.int .i64 rm,.slice a L.length cap]] w [] (λg:(Option Addr×Nat)×List LNd=>.agg #[.int .i64 co,.int .i64 mo,.int .i64 rm,.slice g.1.1 g.2.length g.1.2]) (λg=>pln g.2=pln L) λg=>[.nodes 27 69 g.1.1 g.1.2 g.2]:=by
 refine eN1 Tryz.func21 Tryz.ntmps21 ?_
 refine aU2 ?_
 refine oBx λb1 _=>?_
 refine oAl (λb2 _=>?_) XN
 refine aU9 ?_
 refine o_p (QE (cs:=[_,_,_,_]) rfl rfl QaQ XN rfl) rfl (oAl (λb3 _=>?_) XN)
 refine aU8 ?_
 refine Qt (α:=Nat×(Option Addr×Nat)×List LNd) [4,5,13,14,15,16,17,18,19,20,21,22,23,24,25,26,27,28,29,30,31,32,33,34,35,36,37,38] (λx=>[(4,.int .i64 (x.1:Int))]) (λx=>HS w [] [.own (.slice x.2.1.1 (x.2.2).length x.2.1.2) 69 3 (x.2.2).length ((x.2.2).flatMap LNd.vals),.star ((x.2.2).map (QaA 27)),.blk b3 37 4 [.int .i64 co,.int .i64 mo,.int .i64 rm,.slice x.2.1.1 (x.2.2).length x.2.1.2],.blk b2 37 4 [.int .i64 0,.int .i64 0,.int .i64 0,.slice none 0 0],.blk b1 37 4 [.int .i64 co,.int .i64 mo,.int .i64 rm,.slice a L.length cap]]) (λx=>x.1<=L.length/\x.2.2.length=x.1/\pln x.2.2=(pln L).take x.1) (λx=>L.length-x.1) (0,(none,0),[]) ⟨Nat.zero_le _,rfl,rfl⟩ aSx (λw h=>((h.own_nil 69 3).star_nil).ent aEt) (λ⟨k,⟨ga,gc⟩,D⟩hx=>?_)
 dsimp only
 obtain⟨hk1,hk2,hk3⟩:=hx
 simp only[]at hk1 hk2 hk3
 refine aU9 ?_
 refine sCd rfl (λh4=>?_) λh4=>?_
 ·have hkl:k<L.length:=by omega
  have hsk:=hsm k
  rw[Q0 hkl]at hsk
  simp only[LNd.pl]at hsk
  refine aU8 ?_
  refine o_p (Qa rfl rfl rfl QT (k) om om (Rw.some hs.1 om)) rfl (o_q (Qs _ rfl rfl Xo rfl (Rw.rd hs.1 hkl)) rfl (oAl (λb5 _=>?_) Xr))
  refine aU2 ?_
  refine Qz [12,14] QJ ?_
  refine dFa 0 ?_
  refine dLd 1 [[],[]] ?_
  refine dFa 2 ?_
  refine dLd 3 [[11,10],[]] ?_
  refine dFa 4 ?_
  refine dLd 5 [[9,6],[]] ?_
  refine dFa 7 ?_
  refine dLd 8 [[9],[]] ?_
  refine dH 6 rfl (Qcl rfl QwI rfl (λw1 h1=>c80 w1 (nth L k).ea (nth L k).ec (nth L k).es ((hs.es hkl).later h1) om)) (λb6 _=>dBa ?_)
  refine dH 9 rfl (Qcl rfl QwY rfl (λw1 h1=>c81 w1 (nth L k).ca (nth L k).cc (nth L k).cs ((hs.cs hkl).later h1) om)) (λb7 _=>dBa ?_)
  refine dV 10 rfl (QE (cs:=[_,_,_]) rfl rfl Qfj Xr rfl) (dH 11 rfl (Qk (cs:=[_,_,_]) rfl rfl QT Xr rfl rfl rfl) (λb8 _=>dBa ?_))
  refine dH 12 rfl (Xe (LNd.vals (⟨(nth L k).us,b6.1,b6.2,(nth L k).es,b7.1,b7.2,(nth L k).cs⟩:LNd)) rfl rfl rfl QT Tryz.underlying35 Xr rfl aPk (Xg aPk) rfl (nv1 _) om (by simp only[maxLen];omega)) (λb9 _=>dTu [14] ?_)
  refine dFa 13 ?_
  refine dSt 14 ?_ (hl:=(by simp only[Qf,List.length_set,List.length_cons,List.length_nil,List.length_map];omega))
  refine dTu [] ?_
  refine dNi ?_
  refine aU ?_
  refine Qj (L':=[(0,_),(1,_),(2,_),(3,_),(4,_),(6,_),(7,_),(8,_),(9,_),(10,_),(11,_),(12,_)]) aSx (λ_ h=>h) ?_
  refine aT3 ?_
  refine aU2 ?_
  exact QO (k+1,(b9.1,b9.2),D++[⟨(nth L k).us,b6.1,b6.2,(nth L k).es,b7.1,b7.2,(nth L k).cs⟩]) (by(try simp only[]);omega) ⟨by(try simp only[]);omega,by simp[hk2],Qpw hkl hk3 rfl⟩ aSx (λw h=>by have h2:=HS.sub_app (sub:=QaA 27) (l:=D) (x:=(⟨(nth L k).us,b6.1,b6.2,(nth L k).es,b7.1,b7.2,(nth L k).cs⟩:LNd)) (HS.star_close (Bs:=[_,_]) (h.ent (Bs:=[.own (.slice b6.1 (nth L k).es.length b6.2) 27 2 (nth L k).es.length ((nth L k).es.flatMap TEnt.vals),.own (.slice b7.1 (nth L k).cs.length b7.2) 3 1 (nth L k).cs.length ((nth L k).cs.flatMap inV),.star (D.map (QaA 27)),.own (.slice b9.1 (D.length+1) b9.2) 69 3 (D.length+1) (D.flatMap LNd.vals++LNd.vals (⟨(nth L k).us,b6.1,b6.2,(nth L k).es,b7.1,b7.2,(nth L k).cs⟩:LNd)),.blk b3 37 4 [.int .i64 co,.int .i64 mo,.int .i64 rm,.slice b9.1 (D.length+1) b9.2],.blk b2 37 4 [.int .i64 0,.int .i64 0,.int .i64 0,.slice none 0 0],.blk b1 37 4 [.int .i64 co,.int .i64 mo,.int .i64 rm,.slice a L.length cap]]) aEt));simp only[List.length_append,List.length_singleton,List.flatMap_append,List.flatMap_singleton];exact h2.ent aEt)
 obtain rfl:k=L.length:=om
 have hD:pln D=pln L:=by rw[hk3,<-Qe L,List.take_length]
 refine Qh rfl ?_
 refine aU5 ?_
 exact Ql (rs:=[.cell 2 37]) rfl (.cell rfl X2 aPk rfl (.nil)) (λw' h'=>⟨((ga,gc),D),by simp only[QX];rw[hk2];rfl,hD,by have h3:=HS.row_shut (a:=ga) (cap:=gc) (l:=D) (sub:=QaA 27) (t:=69) (sz:=3) (vals:=LNd.vals) (h'.ent (Bs:=[.own (.slice ga D.length gc) 69 3 D.length (D.flatMap LNd.vals),.star (D.map (QaA 27))]) aEt) rfl rfl;exact h3⟩)
theorem QkP:QK Tryz.prog 65=true:=by kernel_rfl
theorem c15(w:World)(a b:Option Addr)(c d:Nat)(l m:List Int)(hs:Rw inV 1 w [] a l)(ht:Rw inV 1 w [] b m)(hl:l.length<=100000)(hm:m.length<=100000):CR 15 #[.slice a l.length c,.slice b m.length d] w (.bool (decide (l=m))):=by
 refine eN2 Tryz.func15 Tryz.ntmps15 ?_
 refine QaU ?_
 refine sCd rfl (λh1=>?_) λh1=>?_
 ·have hn9:l≠m:=λe=>by have hq:=h1;rw[e]at hq;simp at hq
  refine aU4 ?_
  exact rV (h:=by rw[decide_eq_false hn9];rfl)
 have hlm:l.length=m.length:=by have hq:=h1;omega
 refine aU7 ?_
 refine Qt (α:=Nat) [4,5,11,12,13,14,15,16,17,18,19,20,21,22,23,24,25] (λk=>[(5,.int .i64 (k:Int))]) (λ_=>HS w [] []) (λk=>k<=l.length/\∀j,j<k->nth l j=nth m j) (λk=>l.length-k) 0 ⟨Nat.zero_le _,λj h=>absurd h (Nat.not_lt_zero j)⟩ aSx (λw h=>h.ent aEt) (λk hx=>?_)
 obtain⟨hk1,hk3⟩:=hx
 refine aU8 ?_
 refine sCd rfl (λh2=>?_) λh2=>?_
 ·have hk:k<l.length:=by omega
  have hk2:k<m.length:=om
  refine aU4 ?_
  refine Qz [] QJ ?_
  refine dP 0 ?_
  refine dP 1 ?_
  refine dV 2 rfl (Qa rfl rfl rfl QW (k) om om (Rw.some hs om)) (dQ 3 [] rfl (Qb rfl rfl Zg ((hs.rdj 0 om rfl))) (dP 4 ?_))
  refine dP 5 ?_
  refine dV 6 rfl (Qa rfl rfl rfl QW (k) om om (Rw.some ht om)) (dQ 7 [] rfl (Qb rfl rfl Zg ((ht.rdj 0 om rfl))) (dP 8 ?_))
  refine dNi ?_
  refine sCd rfl (λh3=>?_) λh3=>?_
  ·have hn9:l≠m:=λe=>by have hq:=h3;rw[e]at hq;simp at hq
   refine aU4 ?_
   exact rV (h:=by rw[decide_eq_false hn9];rfl)
  have he9:nth l k=nth m k:=by have hq:=h3;exact hq
  refine aT5 ?_
  refine aU2 ?_
  exact sBk (k+1) om ⟨om,λj hj=>(Nat.lt_or_ge j k).elim (hk3 j) (λh9=>by obtain rfl:j=k:=om;exact he9)⟩
 have hl9:l=m:=Z4 hlm λj hj=>hk3 j om
 refine Qh rfl ?_
 refine aU4 ?_
 exact rV (h:=by rw[decide_eq_true hl9];rfl)
theorem Qse:Qkm Tryz.prog 27=some [1,1]:=by kernel_rfl
instance:TFn Tryz.prog 51:=⟨by kernel_rfl⟩
instance:TFn Tryz.prog 15:=⟨by kernel_rfl⟩
theorem Qo5:QK Tryz.prog 150=true:=by kernel_rfl
theorem Quq:QK Tryz.prog 33=true:=by kernel_rfl
instance:TFn Tryz.prog 83:=⟨by kernel_rfl⟩
theorem c51(w:World)(a b:Option Addr)(c d:Nat)(l m:List TEnt)(hs:Rw TEnt.vals 2 w [] a l)(ht:Rw TEnt.vals 2 w [] b m)(hl:l.length<=100000)(hm:m.length<=100000):CR 51 #[.slice a l.length c,.slice b m.length d] w (.bool (decide (l=m))):=by
 refine eN2 Tryz.func51 Tryz.ntmps51 ?_
 refine QaU ?_
 refine sCd rfl (λh1=>?_) λh1=>?_
 ·have hn9:l≠m:=λe=>by have hq:=h1;rw[e]at hq;simp at hq
  refine aU4 ?_
  exact rV (h:=by rw[decide_eq_false hn9];rfl)
 have hlm:l.length=m.length:=by have hq:=h1;omega
 refine aU7 ?_
 refine Qt (α:=Nat) [4,5,11,12,13,14,15,16,17,18,19,20,21,22,23,24,25] (λk=>[(5,.int .i64 (k:Int))]) (λ_=>HS w [] []) (λk=>k<=l.length/\∀j,j<k->nth l j=nth m j) (λk=>l.length-k) 0 ⟨Nat.zero_le _,λj h=>absurd h (Nat.not_lt_zero j)⟩ aSx (λw h=>h.ent aEt) (λk hx=>?_)
 obtain⟨hk1,hk3⟩:=hx
 refine aU8 ?_
 refine sCd rfl (λh2=>?_) λh2=>?_
 ·have hk:k<l.length:=by omega
  have hk2:k<m.length:=om
  refine aU4 ?_
  refine Qz [] QJ ?_
  refine dP 0 ?_
  refine dP 1 ?_
  refine dV 2 rfl (Qa rfl rfl rfl Q3 (k) om om (Rw.some hs om)) (dQ 3 [] rfl (Qs _ rfl rfl QaM rfl (Rw.rd hs om)) (dP 4 ?_))
  refine dP 5 ?_
  refine dV 6 rfl (Qa rfl rfl rfl Q3 (k) om om (Rw.some ht om)) (dQ 7 [] rfl (Qs _ rfl rfl QaM rfl (Rw.rd ht om)) (dV 8 rfl (Qdc rfl rfl rfl Qse (by rfl) (by rfl) (by rfl)) (dNi ?_)))
  refine sCd rfl (λh3=>?_) λh3=>?_
  ·have hn9:l≠m:=λe=>by have hq:=h3;rw[e]at hq;simp at hq
   refine aU4 ?_
   exact rV (h:=by rw[decide_eq_false hn9];rfl)
  have he9:nth l k=nth m k:=by have hq:=h3;exact Qi4 hq.1 hq.2.1
  refine aT5 ?_
  refine aU2 ?_
  exact sBk (k+1) om ⟨om,λj hj=>(Nat.lt_or_ge j k).elim (hk3 j) (λh9=>by obtain rfl:j=k:=om;exact he9)⟩
 have hl9:l=m:=Z4 hlm λj hj=>hk3 j om
 refine Qh rfl ?_
 refine aU4 ?_
 exact rV (h:=by rw[decide_eq_true hl9];rfl)
theorem c33(w:World)(n m:LNd)(hne:Rw TEnt.vals 2 w [] n.ea n.es)(hnc:Rw inV 1 w [] n.ca n.cs)(hme:Rw TEnt.vals 2 w [] m.ea m.es)(hmc:Rw inV 1 w [] m.ca m.cs)(h1:n.es.length<=100000/\n.cs.length<=100000)(h2:m.es.length<=100000/\m.cs.length<=100000):CR 33 #[.agg #[.bool n.us,.slice n.ea n.es.length n.ec,.slice n.ca n.cs.length n.cc],.agg #[.bool m.us,.slice m.ea m.es.length m.ec,.slice m.ca m.cs.length m.cc]] w (.bool (decide (n.pl=m.pl))):=by
 refine eN2 Tryz.func33 Tryz.ntmps33 ?_
 refine aU2 ?_
 refine oBx λb1 _=>?_
 refine oBx λb2 _=>?_
 refine aU8 ?_
 refine o_p (QdJ rfl rfl rfl Tryz.underlying4) rfl (aU ?_)
 refine XP 6 10 16 rfl
  (λhg3 _=>by
   refine aU9 ?_
   refine oCq rfl (λw1 h1=>c51 w1 n.ea m.ea n.ec m.ec n.es m.es (hne.later h1.nil) (hme.later h1.nil) om om) ?_
   exact oJt 6 16)
  (λhg5 _=>by
   refine aU5 ?_
   exact oJf 6 16) ?_
 refine aU ?_
 refine XP 6 17 23 rfl
  (λhg7 _=>by
   refine aU9 ?_
   refine oCq rfl (λw1 h1=>c15 w1 n.ca m.ca n.cc m.cc n.cs m.cs (hnc.later h1.nil) (hmc.later h1.nil) om om) ?_
   exact oJt 6 23)
  (λhg9 _=>by
   refine aU5 ?_
   exact oJf 6 23) ?_
 refine aU2 ?_
 exact rV (h:=by simp only[QX];rw[Qka])
theorem c150(w:World)(co mo rm:Int)(a:Option Addr)(cap:Nat)(L:List LNd)(k:Nat)(hs:Rw LNd.vals 3 w [] a L):CR 150 #[.agg #[.int .i64 co,.int .i64 mo,.int .i64 rm,.slice a L.length cap],.int .i64 (k:Int)] w (.agg (LNd.vals (nth L k)).toArray):=by
 refine eN2 Tryz.func150 Tryz.ntmps150 ?_
 refine aU2 ?_
 refine oBx λb1 _=>?_
 refine oAl (λb2 _=>?_) Xr
 refine YR ?_
 refine sCd rfl (λh3=>?_) λh3=>?_
 ·refine aU5 ?_
  refine o_p (Qa rfl rfl rfl QT (k) om om (Rw.some hs om)) rfl (o_q (Qs _ rfl rfl Xo rfl (Rw.rd hs om)) rfl (aU2 ?_))
  exact Ql (rs:=[.cell 4 69]) rfl (.cell rfl Xo aPk rfl (.nil)) (λw' h'=>⟨by first|rfl|(rw[Z9 om];rfl),h'.below⟩)
 refine aU3 ?_
 refine o_p (QE (cs:=[_,_,_]) rfl rfl Qfj Xr rfl) rfl (aU2 ?_)
 exact Ql (rs:=[.cell 4 69]) rfl (.cell rfl Xo aPk rfl (.nil)) (λw' h'=>⟨by first|rfl|(rw[Z9 om];rfl),h'.below⟩)
theorem c83(w:World)(co mo rm co2 mo2 rm2:Int)(a b:Option Addr)(ca cb:Nat)(L M:List LNd)(hs:Nt w [] a L)(ht:Nt w [] b M)(hL:L.length<=1000)(hM:M.length<=1000)(hLs:Sm 100000 (pln L))(hMs:Sm 100000 (pln M)):CE 83 #[.agg #[.int .i64 co,.int .i64 mo,.int .i64 rm,.slice a L.length ca],.agg #[.int .i64 co2,.int .i64 mo2,.int .i64 rm2,.slice b M.length cb]] w [] (λg:Option Addr×Nat=>.slice g.1 (QiV (pln L) (pln M)).length g.2) (λg=>True) λg=>[.own (.slice g.1 ((QiV (pln L) (pln M))).length g.2) 3 1 ((QiV (pln L) (pln M))).length (((QiV (pln L) (pln M))).map λi:Nat=>Value.int .i64 (i:Int))]:=by
 refine eN2 Tryz.func83 Tryz.ntmps83 ?_
 refine aU2 ?_
 refine oBx λb1 _=>?_
 refine oBx λb2 _=>?_
 refine Qay ?_
 refine Qt (α:=Nat×Option Addr×Nat) [5,6,7,8,9,10,11,12,13,14,15,16,17,18,19,20,21,22,23,24,25,26,27,28,29] (λx=>[(6,.int .i64 (x.1:Int)),(5,.slice x.2.1 (QeO (pln L) (pln M) x.1).length x.2.2)]) (λx=>HS w [] [.own (.slice x.2.1 ((QeO (pln L) (pln M) x.1)).length x.2.2) 3 1 ((QeO (pln L) (pln M) x.1)).length (((QeO (pln L) (pln M) x.1)).map λi:Nat=>Value.int .i64 (i:Int)),.blk b1 37 4 [.int .i64 co,.int .i64 mo,.int .i64 rm,.slice a L.length ca],.blk b2 37 4 [.int .i64 co2,.int .i64 mo2,.int .i64 rm2,.slice b M.length cb]]) (λx=>x.1<=(max L.length M.length)) (λx=>(max L.length M.length)-x.1) (0,none,0) (Nat.zero_le _) aSx (λw h=>(h.own_nil 3 1).ent aEt) (λ⟨k,ga,gc⟩hk1=>?_)
 dsimp only
 simp only[]at hk1
 refine YR ?_
 refine o_p (QdT rfl rfl rfl ) rfl (aU2 ?_)
 refine sCd rfl (λh3=>?_) λh3=>?_
 ·have hk:k<(max L.length M.length):=by have hq:=h3;omega
  have hkl:=Qrq (pln L) (pln M) k
  refine aU4 ?_
  refine Qz [] QJ ?_
  refine dLn 0 [] ?_
  refine dP 1 ?_
  refine dQ 2 [] rfl (Qr rfl Qo5 rfl (λw1 h1=>c150 w1 co mo rm a ca L k (Rw.later hs.1 h1.nil))) (dLn 3 [] ?_)
  refine dP 4 ?_
  refine dQ 5 [] rfl (Qr rfl Qo5 rfl (λw1 h1=>c150 w1 co2 mo2 rm2 b cb M k (Rw.later ht.1 h1.nil))) (dQ 6 [] rfl (Qr rfl Quq rfl (λw1 h1=>c33 w1 (nth L k) (nth M k) ((hs.esA k).later h1.nil) ((hs.csA k).later h1.nil) ((ht.esA k).later h1.nil) ((ht.csA k).later h1.nil) (by have:=hLs k;rw[Qu]at this;exact this) (by have:=hMs k;rw[Qu]at this;exact this))) (dP 7 ?_))
  refine dNi ?_
  refine sCd rfl (λh4=>?_) λh4=>?_
  ·have hne9:nth (pln L) k≠nth (pln M) k:=by rw[Qu,Qu];have hq:=h4;simpa using hq
   have hst:=QtV hne9
   refine aU3 ?_
   refine o_h (Qk (cs:=[_]) rfl rfl QW Qcf rfl rfl rfl) rfl (λb5 _=>o_h (Xe [_] rfl rfl rfl QW Tryz.underlying28 Qcf rfl aPk (Xg aPk) rfl (by intro u hu;simp only[List.mem_cons,List.mem_nil_iff,or_false]at hu;subst hu;rfl) om (by simp only[maxLen];omega)) rfl (λb6 _=>aT6 ?_))
   refine aU2 ?_
   exact QO (k+1,b6.1,b6.2) (by(try simp only[]);omega) (by(try simp only[]);omega) (by dsimp only;rw[hst];simp only[List.length_append,List.length_singleton];exact aSx) (λw h=>by have h2:=h;dsimp only;rw[hst];simp only[List.length_append,List.length_singleton,List.map_append,List.map_cons,List.map_nil];exact h2.ent aEt)
  have hne9:nth (pln L) k=nth (pln M) k:=by rw[Qu,Qu];have hq:=h4;simpa using hq
  have hst:=Qti hne9
  refine aT5 ?_
  refine aU2 ?_
  exact QO (k+1,ga,gc) (by(try simp only[]);omega) (by(try simp only[]);omega) (by dsimp only;rw[hst];exact aSx) (λw h=>by dsimp only;rw[hst];exact h.ent aEt)
 obtain rfl:k=(max L.length M.length):=om
 refine Qh rfl ?_
 refine aU5 ?_
 exact rT rfl rfl (λw' h'=>⟨(ga,gc),by unfold QiV;rw[Qe,Qe];rfl,trivial,by unfold QiV;rw[Qe,Qe];exact h'.ent aEt⟩)
theorem c23(w:World)(co mo rm:Int)(a b:Option Addr)(ca cb:Nat)(L M:List LNd)(hs:Nt w [] a L)(ht:Nt w [] b M)(hL:L.length<=1000)(hM:M.length<=1000)(hLs:Sm 100000 (pln L))(hMs:Sm 100000 (pln M))(he:pln L=pln M):CR 23 #[.agg #[.int .i64 co,.int .i64 mo,.int .i64 rm,.slice a L.length ca],.agg #[.int .i64 co,.int .i64 mo,.int .i64 rm,.slice b M.length cb]] w (.bool true):=by
 have hl9:L.length=M.length:=by rw[<-Qe L,he,Qe]
 have hch:(QiV (pln L) (pln M))=[]:=QrY he
 refine eN2 Tryz.func23 Tryz.ntmps23 ?_
 refine aU2 ?_
 refine oBx λb1 _=>?_
 refine oBx λb2 _=>?_
 refine QbK ?_
 refine oOr 6 10 16 rfl
  (λhg3 _=>by
   refine YR ?_
   exact oJf 6 16)
  (λhg5 _=>by
   refine aU5 ?_
   exact oJt 6 16) ?_
 refine aU ?_
 refine oOr 6 17 23 rfl
  (λhg7 _=>by
   refine YR ?_
   exact oJf 6 23)
  (λhg9 _=>by
   refine aU5 ?_
   exact oJt 6 23) ?_
 refine aU ?_
 refine oOr 8 24 32 rfl
  (λhg11 _=>by
   refine QgU ?_
   exact oJf 8 32)
  (λhg13 _=>by
   refine aU7 ?_
   exact oJt 8 32) ?_
 refine aU ?_
 refine sCd rfl (λh15=>?_) λh15=>?_
 ·exfalso;have hq9:=h15;simp[hl9]at hq9
 refine aU5 ?_
 refine oCh rfl (λw1 h1=>c83 w1 co mo rm co mo rm a b ca cb L M (hs.later h1.nil) (ht.later h1.nil) hL hM hLs hMs) (λb16 _=>?_)
 rw[hch]
 refine aU4 ?_
 exact rV
end Go.Proofs
namespace Gx
open Go Go.RowKit
def Xh(n:Nat)(S:List Int):List Value:=(List.range n).map λk=>Value.bool (decide (((k:Nat):Int)∈S))
theorem Qbg(n:Nat)(S:List Int):(Xh n S).length=n:=by simp[Xh]
theorem Qbr{n k:Nat}{S:List Int}(h:k<n):(Xh n S)[k]?=some (.bool (decide (((k:Nat):Int)∈S))):=by
 unfold Xh;rw[List.getElem?_map,List.getElem?_range h];rfl
theorem QkF{n k:Nat}{S:List Int}(h:k<n):Qi (Xh n S) k [.bool true]=Xh n (((k:Nat):Int)::S):=by
 apply List.ext_getElem?;intro i;show((Xh n S).set k (.bool true))[i]?=_;rw[List.getElem?_set]
 by_cases hi:i<n
 ·rw[Qbr hi]
  by_cases e:k=i
  ·subst e;rw[if_pos rfl,if_pos (by rw[Qbg];exact h),Qbr h,decide_eq_true (List.mem_cons_self ..)]
  ·rw[if_neg e,Qbr hi];congr 2;have hne:((i:Nat):Int)≠((k:Nat):Int):=by omega
   simp[List.mem_cons,hne]
 ·rw[if_neg om,List.getElem?_eq_none (by rw[Qbg];omega),List.getElem?_eq_none (by rw[Qbg];omega)]
theorem Qq2{n:Nat}{c:Int}{S:List Int}(h:c∈S):Xh n (c::S)=Xh n S:=by
 unfold Xh;apply List.map_congr_left;intro k _;congr 1
 by_cases e:((k:Nat):Int)∈S
 ·rw[decide_eq_true e,decide_eq_true (List.mem_cons_of_mem _ e)]
 ·rw[decide_eq_false e,decide_eq_false (λh2=>by
   rcases List.mem_cons.1 h2 with h3|h3
   ·exact e (h3▸h)
   ·exact e h3)]
theorem Qsy{t:Tre}{i:Nat}{S:List Int}(h:¬(nth t.ns i).us=true):XQ t i S=if(0<i/\i+1<t.ns.length)/\(nth t.ns i).es.length+(nth t.ns i).cs.length=0 then(0,S)else(3,S):=by
 unfold XQ;simp only[];rw[if_neg h]
section
variable{t:Tre}{i:Nat}{S:List Int}{n:Nd}
theorem QtP(hn:nth t.ns i=n)(hu:n.us=true)(h:¬(n.es.length:Int)<=YY t.mo t.rm i):XQ t i S=(16,S):=by
 subst hn;unfold XQ;simp only[];rw[if_pos hu,if_neg h]
theorem QtH(hn:nth t.ns i=n)(hu:n.us=true)(h:(n.es.length:Int)<=YY t.mo t.rm i)(h2:¬(n.cs.length=0\/n.cs.length=n.es.length+1)):XQ t i S=(10,S):=by
 subst hn;unfold XQ;simp only[];rw[if_pos hu,if_pos h,if_neg h2]
theorem Qtp(hn:nth t.ns i=n)(hu:n.us=true)(h:(n.es.length:Int)<=YY t.mo t.rm i)(h2:n.cs.length=0\/n.cs.length=n.es.length+1)(h3:¬ZP t.co n.es=0):XQ t i S=(ZP t.co n.es,S):=by
 subst hn;unfold XQ;simp only[];rw[if_pos hu,if_pos h,if_pos h2,if_neg h3]
theorem Ql5(hn:nth t.ns i=n)(hu:n.us=true)(h:(n.es.length:Int)<=YY t.mo t.rm i)(h2:n.cs.length=0\/n.cs.length=n.es.length+1)(h3:ZP t.co n.es=0)(h4:¬(X5 t.ns n.cs S).1=0):XQ t i S=X5 t.ns n.cs S:=by
 subst hn;unfold XQ;simp only[];rw[if_pos hu,if_pos h,if_pos h2,if_pos h3,if_neg h4]
theorem Qts(hn:nth t.ns i=n)(hu:n.us=true)(h:(n.es.length:Int)<=YY t.mo t.rm i)(h2:n.cs.length=0\/n.cs.length=n.es.length+1)(h3:ZP t.co n.es=0)(h4:(X5 t.ns n.cs S).1=0):XQ t i S=(Qa8 t.co n.es,(X5 t.ns n.cs S).2):=by
 subst hn;unfold XQ;simp only[];rw[if_pos hu,if_pos h,if_pos h2,if_pos h3,if_pos h4]
end
theorem QjJ{es:List Int}{k:Nat}(hk:k<es.length)(h:∀j,j<k->es.getD j 0=0)(h2:es.getD k 0≠0):YU es 0=((k:Int),es.getD k 0):=by
 have key:∀i,i<=k->YU es 0=YU (es.drop i) i:=by
  intro i
  induction i with
  | zero=>intro _;rfl
  | succ i ih=>
   intro hi;rw[ih om,Qas om,if_pos (h i om)]
 rw[key k (Nat.le_refl _),Qas hk,if_neg h2]
theorem Qib{es:List Int}(h:∀j,j<es.length->es.getD j 0=0):YU es 0=(0,0):=by
 have key:∀i,i<=es.length->YU es 0=YU (es.drop i) i:=by
  intro i
  induction i with
  | zero=>intro _;rfl
  | succ i ih=>
   intro hi;rw[ih om,Qas om,if_pos (h i om)]
 rw[key _ (Nat.le_refl _),List.drop_length];rfl
theorem QrX{co:Int}{es:List TEnt}{k:Nat}(hk:k<es.length)(h1:∀q,q<k->Y5 co (nth es q)=0)(h2:¬Y5 co (nth es k)=0):ZP co es=Y5 co (nth es k):=by
 unfold ZP;rw[QjJ (es:=es.map (Y5 co)) (k:=k) (by rw[List.length_map];exact hk) (λq hq=>by rw[QcF om];exact h1 q hq) (by rw[QcF hk];exact h2),QcF hk]
theorem QrD{co:Int}{es:List TEnt}(h1:∀q,q<es.length->Y5 co (nth es q)=0):ZP co es=0:=by
 unfold ZP;rw[Qib (λq hq=>by rw[List.length_map]at hq;rw[QcF hq];exact h1 q hq)]
theorem Qrb{co:Int}{es:List TEnt}{k:Nat}(hk:k<es.length)(h1:∀q,q<k->Qbc co es q=0)(h2:¬Qbc co es k=0):Qa8 co es=Qbc co es k:=by
 unfold Qa8;rw[QjJ (es:=(List.range es.length).map (Qbc co es)) (k:=k) (by simpa using hk) (λq hq=>by rw[Qcj om];exact h1 q hq) (by rw[Qcj hk];exact h2),Qcj hk]
theorem QrR{co:Int}{es:List TEnt}(h1:∀q,q<es.length->Qbc co es q=0):Qa8 co es=0:=by
 unfold Qa8;rw[Qib (λq hq=>by rw[List.length_map,List.length_range]at hq;rw[Qcj hq];exact h1 q hq)]
end Gx
namespace Go.Proofs
open Go Go.RowKit Gx
attribute [local irreducible] Go.Calls Gx.S Gx.O Gx.D Gx.OpP Gx.OpQ Gx.OpH
set_option maxRecDepth 20000
theorem Qvg:QK Tryz.prog 198=true:=by kernel_rfl
theorem c136(w:World)(j:Nat)(mo rm:Int)(a:Option Addr)(cap:Nat)(L:List LNd)(i sb scap tot:Nat)(S:List Int)(hw:HS w (fps [.blk sb 4 tot (Xh L.length S)]) [.blk sb 4 tot (Xh L.length S)] w)(hs:Nt w (fps [.blk sb 4 tot (Xh L.length S)]) a L)(hj:j<=3)(hi:i<L.length)(hl:L.length<=1000)(hel:(nth L i).es.length<=1000)(hcl:(nth L i).cs.length<=1000)(hK:∀x∈(nth L i).es,x.key.length<=1000000):CE 136 #[.agg #[.int .i64 (j:Int),.int .i64 mo,.int .i64 rm,.slice a L.length cap],.int .i64 (i:Int),.slice (some ⟨sb,0,none⟩) L.length scap] w (fps [.blk sb 4 tot (Xh L.length S)]) (λg:Unit=>.int .i64 (XQ (⟨(j:Int),mo,rm,pln L⟩:Tre) i S).1) (λg=>True) λg=>[.blk sb 4 tot (Xh L.length (XQ (⟨(j:Int),mo,rm,pln L⟩:Tre) i S).2)]:=by
 have hNI:=Q0 hi
 have hnl:(pln L).length=L.length:=Qe L
 refine eW3 Tryz.func136 Tryz.ntmps136 hw ?_
 refine aU2 ?_
 refine oBx λb1 _=>?_
 refine aU7 ?_
 refine o_p (Qa rfl rfl rfl QT (i) om om (Rw.some hs.1 om)) rfl (o_q (Qs _ rfl rfl Xo rfl (Rw.rd hs.1 hi)) rfl (oAl (λb2 _=>?_) Xr))
 refine aU9 ?_
 refine sCd rfl (λh3=>?_) λh3=>?_
 ·have hu9:¬(nth L i).us=true:=by have hq:=h3;simp[hq]
  have hun:=Qsy (t:=(⟨(j:Int),mo,rm,pln L⟩:Tre)) (S:=S) (i:=i) (by rw[show((⟨(j:Int),mo,rm,pln L⟩:Tre)).ns=pln L from rfl,hNI];exact hu9)
  rw[show((⟨(j:Int),mo,rm,pln L⟩:Tre)).ns=pln L from rfl,hNI,hnl]at hun
  refine aU6 ?_
  refine oOr 7 24 31 rfl
   (λhg4 _=>by
    refine aT4 ?_
    refine aU8 ?_
    exact oJf 7 31)
   (λhg6 _=>by
    refine aU6 ?_
    exact oJt 7 31) ?_
  refine aU ?_
  refine oOr 5 32 37 rfl
   (λhg8 _=>by
    refine aU8 ?_
    exact oJf 5 37)
   (λhg10 _=>by
    refine aU4 ?_
    exact oJt 5 37) ?_
  refine aU ?_
  refine oOr 5 38 43 rfl
   (λhg12 _=>by
    refine aU8 ?_
    exact oJf 5 43)
   (λhg14 _=>by
    refine aU4 ?_
    exact oJt 5 43) ?_
  refine aU ?_
  refine sCd rfl (λh16=>?_) λh16=>?_
  ·have hn9:¬((0<i/\i+1<L.length)/\(nth L i).es.length+(nth L i).cs.length=0):=by have hq:=h16;omega
   have hun2:(XQ (⟨(j:Int),mo,rm,pln L⟩:Tre) i S)=(3,S):=by rw[hun];exact if_neg hn9
   refine aU4 ?_
   exact rT rfl rfl (λw' h'=>⟨(),by rw[hun2];rfl,trivial,by rw[hun2];exact h'.ent aEt⟩)
  have hn9:(0<i/\i+1<L.length)/\(nth L i).es.length+(nth L i).cs.length=0:=by have hq:=h16;omega
  have hun2:(XQ (⟨(j:Int),mo,rm,pln L⟩:Tre) i S)=(0,S):=by rw[hun];exact if_pos hn9
  refine aU5 ?_
  exact rT rfl rfl (λw' h'=>⟨(),by rw[hun2];rfl,trivial,by rw[hun2];exact h'.ent aEt⟩)
 have hu9:(nth L i).us=true:=by have hq:=h3;simpa using hq
 refine QaU ?_
 refine Qj (L':=[(2,_),(3,_),(6,_),(7,_),(8,_),(47,_)]) aSx (λ_ h=>h) ?_
 refine ZR (α:=Unit) [8,48,49] (λ_=>[(8,.int .i64 (YY mo rm i))]) (λ_=>True) ?_ ?_
 ·skip
  refine sCd rfl (λh17=>?_) λh17=>?_
  ·have hi0:i=0:=by have hq:=h17;omega
   refine aU5 ?_
   exact Qo () trivial (by rw[show YY mo rm i=rm from if_pos hi0];exact aSx) (λw h=>h)
  have hi0:¬i=0:=by have hq:=h17;omega
  refine aU ?_
  exact Qo () trivial (by rw[show YY mo rm i=mo from if_neg hi0];exact aSx) (λw h=>h)
 intro _ _
 refine aU9 ?_
 refine sCd rfl (λh18=>?_) λh18=>?_
 ·have h16:(XQ (⟨(j:Int),mo,rm,pln L⟩:Tre) i S)=(16,S):=QtP (t:=(⟨(j:Int),mo,rm,pln L⟩:Tre)) hNI hu9 (by show¬((nth L i).es.length:Int)<=YY mo rm i;have hq:=h18;omega)
  refine aU4 ?_
  exact rT rfl rfl (λw' h'=>⟨(),by rw[h16];rfl,trivial,by rw[h16];exact h'.ent aEt⟩)
 have hM9:((nth L i).es.length:Int)<=YY mo rm i:=by have hq:=h18;omega
 refine aU9 ?_
 refine XP 9 59 68 rfl
  (λhg19 _=>by
   refine aT14 ?_
   refine aU2 ?_
   exact oJt 9 68)
  (λhg21 _=>by
   refine aU8 ?_
   exact oJf 9 68) ?_
 refine aU ?_
 refine sCd rfl (λh23=>?_) λh23=>?_
 ·have h10:(XQ (⟨(j:Int),mo,rm,pln L⟩:Tre) i S)=(10,S):=QtH (t:=(⟨(j:Int),mo,rm,pln L⟩:Tre)) hNI hu9 hM9 (by show¬((nth L i).cs.length=0\/(nth L i).cs.length=(nth L i).es.length+1);have hq:=h23;omega)
  refine aU4 ?_
  exact rT rfl rfl (λw' h'=>⟨(),by rw[h10];rfl,trivial,by rw[h10];exact h'.ent aEt⟩)
 have hS9:(nth L i).cs.length=0\/(nth L i).cs.length=(nth L i).es.length+1:=by have hq:=h23;omega
 refine aU7 ?_
 refine Qj (L':=[(2,_),(3,_),(6,_),(7,_),(9,_)]) aSx (λ_ h=>h) ?_
 refine Qt (α:=Nat) [6,9,10,69,70,71,72,73,74,75,76,77,78,79,80,81,82,83,84,85,86] (λk=>[(9,.int .i64 (k:Int))]) (λ_=>HS w (fps [.blk sb 4 tot (Xh L.length S)]) [.blk sb 4 tot (Xh L.length S),.blk b1 37 4 [.int .i64 (j:Int),.int .i64 mo,.int .i64 rm,.slice a L.length cap],.blk b2 69 3 (LNd.vals (nth L i))]) (λk=>k<=(nth L i).es.length/\∀q,q<k->Y5 (j:Int) (nth (nth L i).es q)=0) (λk=>(nth L i).es.length-k) 0 ⟨Nat.zero_le _,λj h=>absurd h (Nat.not_lt_zero j)⟩ aSx (λw h=>h.ent aEt) (λk hx=>?_)
 obtain⟨hk1,hk3⟩:=hx
 refine aU9 ?_
 refine sCd rfl (λh24=>?_) λh24=>?_
 ·have hk5:k<(nth L i).es.length:=by omega
  refine aU4 ?_
  refine Qz [] QJ ?_
  refine dFa 0 ?_
  refine dLd 1 [] ?_
  refine dFa 2 ?_
  refine dLd 3 [] ?_
  refine dP 4 ?_
  refine dV 5 rfl (Qa rfl rfl rfl Q3 (k) om om (Rw.some (hs.es hi) om)) (dQ 6 [] rfl (Qs _ rfl rfl QaM rfl (Rw.rd (hs.es hi) hk5)) (dQ 7 [] rfl (Qr rfl Qvg rfl (λw1 h1=>c198 w1 j (nth (nth L i).es k) hj (hK _ (Qy hk5)))) (dP 8 ?_)))
  refine dNi ?_
  refine aU5 ?_
  refine sCd rfl (λh25=>?_) λh25=>?_
  ·have hz6:¬Y5 (j:Int) (nth (nth L i).es k)=0:=h25
   have hEb:=QrX hk5 hk3 hz6
   have hEe:(XQ (⟨(j:Int),mo,rm,pln L⟩:Tre) i S)=(Y5 (j:Int) (nth (nth L i).es k),S):=by rw[<-hEb];exact Qtp (t:=(⟨(j:Int),mo,rm,pln L⟩:Tre)) hNI hu9 hM9 hS9 (by show¬ZP (j:Int) (nth L i).es=0;rw[hEb];exact hz6)
   refine aU5 ?_
   exact rT rfl rfl (λw' h'=>⟨(),by rw[hEe];rfl,trivial,by rw[hEe];exact h'.ent aEt⟩)
  have hz6:Y5 (j:Int) (nth (nth L i).es k)=0:=by have hq:=h25;omega
  refine aT5 ?_
  refine aU2 ?_
  exact sBk (k+1) om ⟨om,λq hq=>(Nat.lt_or_ge q k).elim (hk3 q) (λh9=>by obtain rfl:q=k:=om;exact hz6)⟩
 have hEn:∀q,q<(nth L i).es.length->Y5 (j:Int) (nth (nth L i).es q)=0:=λq hq=>hk3 q om
 have hE0:ZP (j:Int) (nth L i).es=0:=QrD hEn
 refine Qh rfl ?_
 refine aU6 ?_
 refine Qt (α:=Nat×List Int) [6,11,12,87,88,89,90,91,92,93,94,95,96,97,98,99,100,101,102,103,104,105,106,107,108,109,110,111,112,113,114,115,116,117,118,119,120,121] (λy=>[(11,.int .i64 (y.1:Int))]) (λy=>HS w (fps [.blk sb 4 tot (Xh L.length S)]) [.blk sb 4 tot (Xh L.length y.2),.blk b1 37 4 [.int .i64 (j:Int),.int .i64 mo,.int .i64 rm,.slice a L.length cap],.blk b2 69 3 (LNd.vals (nth L i))]) (λy=>y.1<=(nth L i).cs.length/\(X5 (pln L) (nth L i).cs S)=X5 (pln L) ((nth L i).cs.drop y.1) y.2) (λy=>(nth L i).cs.length-y.1) (0,S) ⟨Nat.zero_le _,rfl⟩ aSx (λw h=>h.ent aEt) (λ⟨k,Sk⟩hx=>?_)
 dsimp only
 obtain⟨hk1,hk3⟩:=hx
 simp only[]at hk1 hk3
 refine aU9 ?_
 refine sCd rfl (λh26=>?_) λh26=>?_
 ·have hk5:k<(nth L i).cs.length:=by omega
  have hkd9:nth (nth L i).cs k=((nth L i).cs.getD k 0):=rfl
  have hst:=Qda hk5
  rw[hst,QbO]at hk3
  refine aU8 ?_
  refine o_p (Qa rfl rfl rfl QW (k) om om (Rw.some (hs.cs hi) om)) rfl (o_q (Qb rfl rfl Zg (((hs.cs hi).rdj 0 hk5 rfl))) rfl (Qm (show _=Value.int .i64 ((nth L i).cs.getD k 0)from rfl) (Qln ?_)))
  refine oCq rfl (λw1 h1=>c40 w1 _ _ _) (aU2 ?_)
  refine oOr 8 106 114 rfl
   (λhg27 _=>by
    refine aU7 ?_
    refine o_p (Qa rfl rfl rfl QT (((nth L i).cs.getD k 0).toNat) om om (Rw.some hs.1 om)) rfl (aU3 ?_)
    refine o_q (Qb rfl rfl QdH ((hs.1.rdj 0 (i:=((nth L i).cs.getD k 0).toNat) om rfl))) rfl (aU2 ?_)
    exact oJf 8 114)
   (λhg29 _=>by
    refine aU7 ?_
    exact oJt 8 114) ?_
  refine aU ?_
  refine sCd rfl (λh31=>?_) λh31=>?_
  ·have hko:¬Qdm (pln L) ((nth L i).cs.getD k 0):=by rintro⟨h91,h92⟩;rw[hnl]at h91;rw[Q0 om]at h92;have hq:=h31;exact hq.elim (λhq=>om) (λhq=>by rw[show(nth L ((nth L i).cs.getD k 0).toNat).pl.us=(nth L ((nth L i).cs.getD k 0).toNat).us from rfl,hq]at h92;cases h92)
   have hk6e:(XQ (⟨(j:Int),mo,rm,pln L⟩:Tre) i S)=(6,Sk):=by have h8:QcD (pln L) ((nth L i).cs.getD k 0) Sk=6:=if_neg hko;have h7:QeA (pln L) ((nth L i).cs.getD k 0) Sk=Sk:=if_neg hko;rw[h8,h7,if_neg (by decide)]at hk3;rw[<-hk3];exact Ql5 (t:=(⟨(j:Int),mo,rm,pln L⟩:Tre)) hNI hu9 hM9 hS9 hE0 (by show¬(X5 (pln L) (nth L i).cs S).1=0;rw[hk3];show¬(6:Int)=0;decide)
   refine aU ?_
   refine Qj (L':=[(2,_),(3,_),(7,_),(9,_),(11,_),(12,_),(69,_),(70,_),(71,_),(72,_),(73,_)]) aSx (λ_ h=>h) ?_
   refine aU3 ?_
   exact rT rfl rfl (λw' h'=>⟨(),by rw[hk6e];rfl,trivial,by rw[hk6e];exact h'.ent aEt⟩)
  have hko:Qdm (pln L) ((nth L i).cs.getD k 0):=by have hq:=h31;refine⟨by rw[hnl];exact hq.1,?_⟩;rw[Q0 om];exact hq.2
  have hko1:=hko.1
  rw[hnl]at hko1
  have hcv2:((nth L i).cs.getD k 0).toNat<L.length:=om
  have hcc:((((nth L i).cs.getD k 0).toNat:Nat):Int)=((nth L i).cs.getD k 0):=Int.toNat_of_nonneg om
  have h7:QeA (pln L) ((nth L i).cs.getD k 0) Sk=((nth L i).cs.getD k 0)::Sk:=if_pos hko
  rw[h7]at hk3
  have hsv:=QkF (n:=L.length) (S:=Sk) hcv2
  rw[hcc]at hsv
  refine aU3 ?_
  refine Qj (L':=[(2,_),(3,_),(7,_),(9,_),(11,_),(12,_),(69,_),(70,_),(71,_),(72,_),(73,_)]) aSx (λ_ h=>h) ?_
  refine aU3 ?_
  refine o_p (Qa rfl rfl rfl Qb3 (((nth L i).cs.getD k 0).toNat) om om rfl) rfl (Qm (show _=Value.pointer (some ⟨sb,((nth L i).cs.getD k 0).toNat,none⟩)from by rw[Nat.zero_add,Nat.mul_one]) (o_q (XY rfl rfl QdH (λw h=>h.rd_blk (Mc:=[]) aPk (Qbr hcv2) (by simp))) rfl (aU ?_)))
  refine sCd rfl (λh32=>?_) λh32=>?_
  ·have hmem:((nth L i).cs.getD k 0)∈Sk:=by have hq:=h32;rw[hcc]at hq;exact hq
   have h8:QcD (pln L) ((nth L i).cs.getD k 0) Sk=23:=by rw[QcD,if_pos hko,if_pos hmem]
   rw[h8,if_neg (by decide)]at hk3
   have hk23:(XQ (⟨(j:Int),mo,rm,pln L⟩:Tre) i S)=(23,((nth L i).cs.getD k 0)::Sk):=by rw[<-hk3];exact Ql5 (t:=(⟨(j:Int),mo,rm,pln L⟩:Tre)) hNI hu9 hM9 hS9 hE0 (by show¬(X5 (pln L) (nth L i).cs S).1=0;rw[hk3];show¬(23:Int)=0;decide)
   refine aU4 ?_
   exact rT rfl rfl (λw' h'=>⟨(),by rw[hk23];rfl,trivial,by rw[hk23,Qq2 hmem];exact h'.ent aEt⟩)
  have hmem:¬((nth L i).cs.getD k 0)∈Sk:=by have hq:=h32;rw[hcc]at hq;exact hq
  have h8:QcD (pln L) ((nth L i).cs.getD k 0) Sk=0:=by rw[QcD,if_pos hko,if_neg hmem]
  rw[h8,if_pos rfl]at hk3
  have hk9:=hk3
  refine aU4 ?_
  refine o_p (Qa rfl rfl rfl Qb3 (((nth L i).cs.getD k 0).toNat) om om rfl) rfl (Qm (show _=Value.pointer (some ⟨sb,((nth L i).cs.getD k 0).toNat,none⟩)from by rw[Nat.zero_add,Nat.mul_one]) (Qkv (Qb1 rfl rfl rfl QdH rfl aPt (by rw[Qbg];show _+1<=_;omega) rfl) (λ_ _=>aT5 ?_)))
  refine aU2 ?_
  exact QO (k+1,((nth L i).cs.getD k 0)::Sk) (by(try simp only[]);omega) ⟨by(try simp only[]);omega,hk9⟩ aSx (λw h=>by have h2:=h;rw[show Qi (Xh L.length Sk) ((nth L i).cs.getD k 0).toNat (Value.cells (.bool true)).toList=Xh L.length (((nth L i).cs.getD k 0)::Sk)from hsv]at h2;exact h2.ent aEt)
 have hdr9:(nth L i).cs.drop k=[]:=List.drop_of_length_le om
 rw[hdr9]at hk3
 have hK0:(X5 (pln L) (nth L i).cs S).1=0:=by rw[hk3];rfl
 have hK2:(X5 (pln L) (nth L i).cs S).2=Sk:=by rw[hk3];rfl
 have hOr:(XQ (⟨(j:Int),mo,rm,pln L⟩:Tre) i S)=(Qa8 (j:Int) (nth L i).es,(X5 (pln L) (nth L i).cs S).2):=by have h9:=Qts (t:=(⟨(j:Int),mo,rm,pln L⟩:Tre)) (i:=i) (S:=S) (n:=(nth L i).pl) hNI hu9 hM9 hS9 hE0 hK0;exact h9
 refine Qh rfl ?_
 refine aU6 ?_
 refine Qt (α:=Nat) [6,13,122,123,124,125,126,127,128,129,130,131,132,133,134,135,136,137,138,139,140,141,142,143,144,145] (λk=>[(13,.int .i64 (k:Int))]) (λ_=>HS w (fps [.blk sb 4 tot (Xh L.length S)]) [.blk sb 4 tot (Xh L.length (X5 (pln L) (nth L i).cs S).2),.blk b1 37 4 [.int .i64 (j:Int),.int .i64 mo,.int .i64 rm,.slice a L.length cap],.blk b2 69 3 (LNd.vals (nth L i))]) (λk=>1<=k/\∀q,q<k->Qbc (j:Int) (nth L i).es q=0) (λk=>(nth L i).es.length-k) 1 ⟨Nat.le_refl _,λq h=>if_pos (.inl om)⟩ aSx (λw h=>by rw[hK2];exact h.ent aEt) (λk hx=>?_)
 obtain⟨hk1,hk3b⟩:=hx
 refine aU9 ?_
 refine sCd rfl (λh33=>?_) λh33=>?_
 ·have hk5:k<(nth L i).es.length:=by omega
  have hk6:k-1<(nth L i).es.length:=om
  refine aU4 ?_
  refine Qz [] QJ ?_
  refine dFa 0 ?_
  refine dLd 1 [] ?_
  refine dFa 2 ?_
  refine dLd 3 [] ?_
  refine dP 4 ?_
  refine dP 5 ?_
  try refine dWr ?_
  refine dV 6 rfl (Qa rfl rfl rfl Q3 (k-1) om om (Rw.some (hs.es hi) om)) (dFa 7 ?_)
  refine dQ 8 [] rfl (Qb rfl rfl Zu (((hs.es hi).rdj 0 hk6 rfl))) (dFa 9 ?_)
  refine dLd 10 [] ?_
  refine dP 11 ?_
  refine dV 12 rfl (Qa rfl rfl rfl Q3 (k) om om (Rw.some (hs.es hi) om)) (dFa 13 ?_)
  refine dQ 14 [] rfl (Qb rfl rfl Zu (((hs.es hi).rdj 0 hk5 rfl))) (dQ 15 [] rfl (Qr rfl QkP rfl (λw1 h1=>c65 w1 j (nth (nth L i).es (k-1)).key (nth (nth L i).es k).key hj (Qd2 (hEn _ hk6)) (Qd2 (hEn _ hk5)) (hK _ (Qy hk6)) (hK _ (Qy hk5)))) (dP 16 ?_))
  refine dNi ?_
  refine sCd rfl (λh34=>?_) λh34=>?_
  ·have hz11:¬Qbc (j:Int) (nth L i).es k=0:=by unfold Qbc;rw[if_neg (by have hq:=h34;omega)];decide
   have hOb:=Qrb hk5 hk3b hz11
   have hOv:Qbc (j:Int) (nth L i).es k=9:=if_neg (by have hq:=h34;omega)
   refine aU ?_
   refine Qj (L':=[(2,_),(3,_),(7,_),(9,_),(11,_),(13,_),(69,_),(70,_),(71,_),(72,_),(73,_),(87,_),(88,_),(89,_),(90,_),(91,_)]) aSx (λ_ h=>h) ?_
   refine aU3 ?_
   exact rT rfl rfl (λw' h'=>⟨(),by rw[hOr,hOb,hOv];rfl,trivial,by rw[hOr];exact h'.ent aEt⟩)
  have hz11:Qbc (j:Int) (nth L i).es k=0:=if_pos (.inr (by have hq:=h34;omega))
  refine aU2 ?_
  refine Qj (L':=[(2,_),(3,_),(7,_),(9,_),(11,_),(13,_),(69,_),(70,_),(71,_),(72,_),(73,_),(87,_),(88,_),(89,_),(90,_),(91,_)]) aSx (λ_ h=>h) ?_
  refine aT3 ?_
  refine aU2 ?_
  exact sBk (k+1) om ⟨om,λq hq=>(Nat.lt_or_ge q k).elim (hk3b q) (λh9=>by obtain rfl:q=k:=om;exact hz11)⟩
 have hO0:Qa8 (j:Int) (nth L i).es=0:=QrR (λq hq=>hk3b q om)
 refine Qh rfl ?_
 refine aU4 ?_
 exact rT rfl rfl (λw' h'=>⟨(),by rw[hOr,hO0];rfl,trivial,by rw[hOr];exact h'.ent aEt⟩)
end Go.Proofs
namespace Gx
open Go Go.RowKit
def mkS(vs:List Vis)(S:List Int):List Int:=(vs.map λv=>((v.i:Nat):Int)).reverse++S
theorem Qtv(A B:List Vis)(S:List Int):mkS (A++B) S=mkS B (mkS A S):=by simp[mkS]
theorem Qtl{vs:List Vis}{c:Int}:c∈mkS vs [] ↔ ∃v∈vs,((v.i:Nat):Int)=c:=by simp[mkS]
end Gx
namespace Go.Proofs
open Go Go.RowKit Gx
attribute [local irreducible] Go.Calls Gx.S Gx.O Gx.D Gx.OpP Gx.OpQ Gx.OpH
set_option maxRecDepth 20000
theorem Qp5:QK Tryz.prog 137=true:=by kernel_rfl
def MkC(j:Nat)(mo rm:Int)(a:Option Addr)(cap:Nat)(L:List LNd)(sb scap tot:Nat)(f:Nat):Prop:=∀(w:World)(S:List Int)(v:Vis)(P:List Nat),(HS w (fps [.blk sb 4 tot (Xh L.length S)]) [.blk sb 4 tot (Xh L.length S)] w)->(Nt w (fps [.blk sb 4 tot (Xh L.length S)]) a L)->(TOk (j:Int) (pln L))->(Bd (pln L))->(0<L.length)->(Gx.Way (pln L) (v.i::P))->P.length+f=L.length->Calls Tryz.prog 137 #[.agg #[.int .i64 (j:Int),.int .i64 mo,.int .i64 rm,.slice a L.length cap],.int .i64 (v.i:Int),.slice (some ⟨sb,0,none⟩) L.length scap] w λen w'=>∃g:Unit,en=.returned (.tuple #[])/\True/\HS w (fps [.blk sb 4 tot (Xh L.length S)]) [.blk sb 4 tot (Xh L.length (mkS (vis (pln L) f v) S))] w'
theorem Qwx(w:World)(j:Nat)(mo rm:Int)(a:Option Addr)(cap:Nat)(L:List LNd)(sb scap tot:Nat)(S:List Int)(v:Vis)(P:List Nat)(f:Nat)(hw:HS w (fps [.blk sb 4 tot (Xh L.length S)]) [.blk sb 4 tot (Xh L.length S)] w)(hs:Nt w (fps [.blk sb 4 tot (Xh L.length S)]) a L)(hT:TOk (j:Int) (pln L))(hB:Bd (pln L))(h0:0<L.length)(hway:Gx.Way (pln L) (v.i::P))(hf:P.length+(f+1)=L.length)(ih:MkC j mo rm a cap L sb scap tot f):CE 137 #[.agg #[.int .i64 (j:Int),.int .i64 mo,.int .i64 rm,.slice a L.length cap],.int .i64 (v.i:Int),.slice (some ⟨sb,0,none⟩) L.length scap] w (fps [.blk sb 4 tot (Xh L.length S)]) (λg:Unit=>.tuple #[]) (λg=>True) λg=>[.blk sb 4 tot (Xh L.length (mkS (vis (pln L) (f+1) v) S))]:=by
 have hi0:=QdC hT (by rw[Qe];exact h0) hway v.i (List.mem_cons_self ..)
 have hi:v.i<L.length:=by rw[Qe]at hi0;exact hi0
 have hn:=Q0 hi
 have hle:=hB.len
 rw[Qe]at hle
 have hcl:=hB.cs v.i hi0
 rw[hn]at hcl
 simp only[LNd.pl]at hcl
 refine eW3 Tryz.func137 Tryz.ntmps137 hw ?_
 refine aU2 ?_
 refine oBx λb1 _=>?_
 refine aU5 ?_
 refine o_p (Qa rfl rfl rfl Qb3 (v.i) om om rfl) rfl (Qm (show _=Value.pointer (some ⟨sb,v.i,none⟩)from by rw[Nat.zero_add,Nat.mul_one]) (Qkv (Qb1 rfl rfl rfl QdH rfl aPt (by rw[Qbg];show _+1<=_;omega) rfl) (λ_ _=>aU6 ?_)))
 refine Qt (α:=Nat) [6,10,11,12,13,14,15,16,17,18,19,20,21,22,23,24,25,26,27,28,29,30,31,32] (λk=>[(6,.int .i64 (k:Int))]) (λk=>HS w (fps [.blk sb 4 tot (Xh L.length S)]) [.blk sb 4 tot (Xh L.length (mkS (Qbq (pln L) f v k) S)),.blk b1 37 4 [.int .i64 (j:Int),.int .i64 mo,.int .i64 rm,.slice a L.length cap]]) (λk=>k<=(nth L v.i).cs.length) (λk=>(nth L v.i).cs.length-k) 0 (Nat.zero_le _) aSx (λw h=>by have h2:=h;rw[show Qi (Xh L.length S) v.i (Value.cells (.bool true)).toList=Xh L.length (((v.i:Nat):Int)::S)from QkF hi]at h2;exact h2.ent aEt) (λk hk1=>?_)
 refine aU7 ?_
 refine o_p (Qa rfl rfl rfl QT (v.i) om om (Rw.some hs.1 om)) rfl (aU ?_)
 refine o_q (Qb rfl rfl QcI ((hs.1.rdj 2 hi rfl))) rfl (aU3 ?_)
 refine sCd rfl (λh2=>?_) λh2=>?_
 ·have hkl:k<(nth L v.i).cs.length:=by omega
  have hkid:=QgE hT hi0 (k:=k) (by rw[hn];exact hkl)
  rw[hn,Qe]at hkid
  simp only[LNd.pl]at hkid
  have hway2:=Qd1 hway hi0 (k:=k) (by rw[hn];exact hkl) (by rw[hn];simp only[LNd.pl];omega)
  refine aU3 ?_
  refine Qz [11] QJ ?_
  refine dLn 0 [[]] ?_
  refine dFa 1 ?_
  refine dLd 2 [[9,8,6,5,4]] ?_
  refine dP 3 ?_
  refine dV 4 rfl (Qa rfl rfl rfl QT (v.i) om om (Rw.some hs.1 om)) (dFa 5 ?_)
  refine dQ 6 [[9,8]] rfl (Qb rfl rfl QcI ((hs.1.rdj 2 hi rfl))) (dP 7 ?_)
  refine dV 8 rfl (Qa rfl rfl rfl QW (k) om om (Rw.some (hs.cs hi) om)) (dQ 9 [[]] rfl (Qb rfl rfl Zg (((hs.cs hi).rdj 0 (i:=k) hkl rfl))) (QC (show _=Value.int .i64 ((XW (pln L) v k).i:Int)from by rw[XW,hn];exact congrArg (Value.int .i64) (Int.toNat_of_nonneg (show 0<=(nth L v.i).cs.getD k 0 by omega)).symm) (dP 10 ?_)))
  refine dH 11 rfl (Q1 (Cs:=[.blk sb 4 tot (Xh L.length (mkS (Qbq (pln L) f v k) S))]) rfl Qp5 rfl aPs (λw1 h1 hf9=>ih w1 (mkS (Qbq (pln L) f v k) S) (XW (pln L) v k) (v.i::P) hf9 ((hs.keep h1).mono (Xb aPs)) hT hB h0 hway2 (by simp only[List.length_cons];omega))) (λ_ _=>dTu [] ?_)
  refine dNi ?_
  refine aT4 ?_
  refine aU2 ?_
  exact QO (k+1) om om aSx (λw h=>by rw[XZ,Qtv];exact h.ent aEt)
 obtain rfl:k=(nth L v.i).cs.length:=om
 refine Qh rfl ?_
 exact QgV rfl (λw' h'=>⟨(),rfl,trivial,by rw[Zr,hn];exact h'.ent aEt⟩)
theorem c137(j:Nat)(mo rm:Int)(a:Option Addr)(cap:Nat)(L:List LNd)(sb scap tot:Nat):∀f,MkC j mo rm a cap L sb scap tot f
  | 0=>λw S v P hw hs hT hB h0 hway hf=>by
    have h1:=QbV hT (by rw[Qe];exact h0) hway;rw[Qe,List.length_cons]at h1;omega
  | f+1=>λw S v P hw hs hT hB h0 hway hf=>Qwx w j mo rm a cap L sb scap tot S v P f hw hs hT hB h0 hway hf (c137 j mo rm a cap L sb scap tot f)
end Go.Proofs
