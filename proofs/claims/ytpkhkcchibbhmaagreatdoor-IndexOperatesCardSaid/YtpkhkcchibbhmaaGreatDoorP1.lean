/- Contracts of the program's functions, proved by walking them with the rules of the Gx texts; without conditions beyond those that each contract names. -/
import Derived.WalkKit
import Derived.Deep.Draws
import Derived.TacticsIn
import Derived.OrdersIn
import Derived.RangeFuncLeaves
import Derived.Lib.Strings
import Derived.Laws.BytesArg
import Derived.Laws.IdiomStrings
import Derived.Deep.Quiet
import Derived.ProofKit
import Derived.OpenShut
import Derived.Laws.StructEq
import Derived.ChangeKeysEq
import Derived.Laws.Externs
import Derived.Lib.Overlaps
import Derived.Carry
import Derived.Laws.Small
import Derived.Lib.Bytealg
import Derived.Lib.Builder
import Derived.Laws.Pointers
import Derived.RangeFuncRecord
import Derived.Test.YtpkhkcchibbhmaaGreatDoorProg
import Derived.KernelRfl
import Derived.Test.YtpkhkcchibbhmaaGreatDoorTie
import Derived.Test.YtpkhkcchibbhmaaGreatDoorCards
import Derived.SevenTiedAt
import Derived.LaidMore
import Derived.Lay
import Derived.Stop.Joined
import Derived.Test.YtpkhkcchibbhmaaGreatDoorP0
set_option linter.unusedSimpArgs false
set_option maxHeartbeats 1000000
set_option linter.unusedVariables false
set_option linter.unusedSectionVars false
set_option linter.unnecessarySimpa false
namespace Gx
open Go Go.RowKit
section
variable{S:Type}(st:S->Vis->S)(er:S->Vis->Int×Int)
def Yb:S->List Vis->(Int×Int)×S
 | s,[]=>((0,0),s)
 | s,v::vs=>if(er s v).2=0 then Yb (st s v) vs else(er s v,st s v)
theorem QcP:∀(A B:List Vis)(s:S),Yb st er s (A++B)=if(Yb st er s A).1.2=0 then Yb st er (Yb st er s A).2 B else Yb st er s A
 | [],B,s=>rfl
 | v::A,B,s=>by
  rw[List.cons_append,Yb,Yb]
  by_cases h:(er s v).2=0
  ·simp_all[QcP]
  grind
theorem QpR{A B:List Vis}{s:S}(h:¬(Yb st er s A).1.2=0):Yb st er s (A++B)=Yb st er s A:=by rw[QcP,if_neg h]
theorem Qmv{A B:List Vis}{s:S}(h:(Yb st er s A).1.2=0):Yb st er s (A++B)=Yb st er (Yb st er s A).2 B:=by rw[QcP,if_pos h]
theorem QqV:∀{A:List Vis}{s:S},(Yb st er s A).1.2=0->(Yb st er s A).1=(0,0)
 | [],s,_=>rfl
 | v::A,s,h=>by
  rw[Yb]at h ⊢;split at h
  ·simp_all[QqV]
  grind
end
def Yj(ns:List Nd)(v:Vis)(k:Nat):Vis:=⟨((nth ns v.i).cs.getD k 0).toNat,v.d+1,loK (nth ns v.i).es k v.lo,hiK (nth ns v.i).es k v.hi⟩
def QbY(ns:List Nd)(f:Nat)(v:Vis)(k:Nat):List Vis:=v::(List.range k).flatMap λk=>vis ns f (Yj ns v k)
theorem QlJ(ns:List Nd)(f:Nat)(v:Vis):QbY ns f v 0=[v]:=rfl
theorem Yv(ns:List Nd)(f:Nat)(v:Vis)(k:Nat):QbY ns f v (k+1)=QbY ns f v k++vis ns f (Yj ns v k):=by
 unfold QbY;rw[List.range_succ,List.flatMap_append,List.flatMap_singleton];rfl
theorem Z6(ns:List Nd)(f:Nat)(v:Vis):vis ns (f+1) v=QbY ns f v (nth ns v.i).cs.length:=rfl
theorem QbF(ns:List Nd)(f:Nat)(v:Vis){k m:Nat}(h:k<=m):∃B,QbY ns f v m=QbY ns f v k++B:=by
 induction m with
 | zero=>simp_all
 | succ m ih=>
  rcases Nat.lt_or_ge m k with h1|h1
  ·obtain rfl:k=m+1:=by omega
   simp_all
  grind[vis,Yj,Yv]
theorem Qb5{ns:List Nd}{i:Nat}{P:List Nat}(h:Way ns (i::P))(hi:i<ns.length){k:Nat}(hk:k<(nth ns i).cs.length)(hc:0<=(nth ns i).cs.getD k 0):Way ns (((nth ns i).cs.getD k 0).toNat::i::P):=by
 refine⟨⟨?_,hi⟩,h⟩
 grind
theorem Qd2{co:Int}{ns:List Nd}(ht:TOk co ns){i k:Nat}(hi:i<ns.length)(hk:k<(nth ns i).cs.length):1<=(nth ns i).cs.getD k 0/\(nth ns i).cs.getD k 0<=(ns.length:Int)-1/\(nth ns ((nth ns i).cs.getD k 0).toNat).us=true:=by
 have hm:(nth ns i).cs.getD k 0∈(nth ns i).cs:=by grind
 have h:=ht.kid i hi _ hm
 grind
def QdG(co:Int)(ns:List Nd)(key:List UInt8):Nat->Nat->List Nat×Nat×Bool
 | 0,_=>([],0,false)
 | f+1,i=>if fnd co (nth ns i).es key=true\/(nth ns i).cs.length=0 then([i],plc co (nth ns i).es key,fnd co (nth ns i).es key)
   else(i::(QdG co ns key f ((nth ns i).cs.getD (plc co (nth ns i).es key) 0).toNat).1,(QdG co ns key f ((nth ns i).cs.getD (plc co (nth ns i).es key) 0).toNat).2)
def Qj(co:Int)(ns:List Nd)(key:List UInt8):List Nat×Nat×Bool:=QdG co ns key ns.length 0
structure Bd(ns:List Nd):Prop where
 len:ns.length<=1000
 es:∀i,i<ns.length->(nth ns i).es.length<=1000
 cs:∀i,i<ns.length->(nth ns i).cs.length<=1000
theorem Qb(L:List LNd):(pln L).length=L.length:=by simp
theorem Ql{L:List LNd}{i:Nat}(h:i<L.length):nth (pln L) i=(nth L i).pl:=by simp_all[Q2,Xk]
theorem Qdg(L:List LNd)(i:Nat)(n:LNd):pln (L.set i n)=(pln L).set i n.pl:=by simp[List.map_set]
theorem Qcd(L M:List LNd):pln (L++M)=pln L++pln M:=by simp
def Qa3(w:World)(M:List Nat)(p:Option Addr)(o:Option (List UInt8)):Prop:=match o with
 | none=>p=none
 | some k=>∃b off,p=some ⟨b,off,none⟩/\Rd w M b off (.string (bs k))
theorem Qa3.keep{w w':World}{M:List Nat}{As:List HA}{p:Option Addr}{o:Option (List UInt8)}(h:Qa3 w M p o)(hs:HS w M As w'):Qa3 w' (fps As) p o:=by
 cases o with
 | none=>exact h
 | some k=>
  obtain⟨b,off,e,hr⟩:=h;exact⟨b,off,e,hs.keep hr⟩
theorem Qa3.mono{w:World}{M M':List Nat}{p:Option Addr}{o:Option (List UInt8)}(h:Qa3 w M p o)(hM:∀b∈M',b∈M):Qa3 w M' p o:=by
 cases o with
 | none=>exact h
 | some k=>
  obtain⟨b,off,e,hr⟩:=h;exact⟨b,off,e,hr.mono hM⟩
theorem Qa3.of_some{w:World}{M:List Nat}{p:Option Addr}{o:Option (List UInt8)}(h:Qa3 w M p o)(hp:p.isSome=true):∃k b off,o=some k/\p=some ⟨b,off,none⟩/\Rd w M b off (.string (bs k)):=by
 cases o with
 | none=>
  have:p=none:=h
  grind
 | some k=>
  obtain⟨b,off,e,hr⟩:=h
  grind
theorem Qa3.of_none{w:World}{M:List Nat}{p:Option Addr}{o:Option (List UInt8)}(h:Qa3 w M p o)(hp:p.isSome=false):o=none:=by
 cases o with
 | none=>rfl
 | some k=>
  obtain⟨b,off,e,hr⟩:=h;subst e;cases hp
theorem XB{As Cs Ds:List HA}(h:Qbg As Cs Ds):∀b∈fps Cs,b∈fps As:=λb hb=>by
 obtain⟨A,hA,hb⟩:=List.mem_flatMap.1 hb;exact List.mem_flatMap.2 ⟨A,(List.Perm.mem_iff h).2 (List.mem_append_left _ hA),hb⟩
theorem HS.rd_blkF{w0 w:World}{M:List Nat}{As Cs Ds Es:List HA}{b i t tot:Nat}{cs:List Value}{v:Value}(h:HS w0 M As w)(hp:Qbg As Cs Ds)(hp2:QE Ds (.blk b t tot cs) Es)(hv:cs[i]?=some v):Rd w (fps Cs) b i v:=by
 have h1:HS w0 M (Cs++Ds) w:=h.perm hp;refine⟨(h1.ok _ (List.mem_append_right _ hp2.mem)|>Xt.lt),λhb=>?_,Xt.cell (h1.ok _ (List.mem_append_right _ hp2.mem)) hv⟩;obtain⟨A,hA,hb⟩:=List.mem_flatMap.1 hb;exact(List.pairwise_append.1 h1.sep).2.2 A hA _ hp2.mem b hb (List.mem_singleton.2 rfl)
section
variable(t:Tre)(i:Nat)
def nE1:Int:=if((nth t.ns i).es.length:Int)<=YB t.mo t.rm i then if(nth t.ns i).cs.length=0\/(nth t.ns i).cs.length=(nth t.ns i).es.length+1 then 0 else 10 else 16
def nE2:Int:=if nE1 t i=0 then Z5 t.co (nth t.ns i).es else nE1 t i
def nE3(seen:List Int):Int×List Int:=if nE2 t i=0 then Ys t.ns (nth t.ns i).cs seen else(nE2 t i,seen)
def nE4(seen:List Int):Int:=if(nE3 t i seen).1=0 then QaW t.co (nth t.ns i).es else(nE3 t i seen).1
theorem Qhv{seen:List Int}(h:(nth t.ns i).us=true):Yh t i seen=(nE4 t i seen,(nE3 t i seen).2):=by
 unfold Yh nE4 nE3 nE2 nE1
 grind
theorem Qv4(h:nE2 t i=0):Z5 t.co (nth t.ns i).es=0:=by grind[nE2]
theorem QtJ{seen:List Int}(h:(nE3 t i seen).1=0):nE2 t i=0:=by grind[nE3]
end
def QdM(ns:List Nd)(c:Int):Prop:=(1<=c/\c<=(ns.length:Int)-1)/\(nth ns c.toNat).us=true
instance(ns:List Nd)(c:Int):Decidable (QdM ns c):=inferInstanceAs (Decidable (_/\_))
def QcK(ns:List Nd)(c:Int)(seen:List Int):Int:=if QdM ns c then if c∈seen then 23 else 0 else 6
def Qer(ns:List Nd)(c:Int)(seen:List Int):List Int:=if QdM ns c then c::seen else seen
theorem Qb3(ns:List Nd)(c:Int)(cs seen:List Int):Ys ns (c::cs) seen=if QcK ns c seen=0 then Ys ns cs (Qer ns c seen)else(QcK ns c seen,Qer ns c seen):=by grind[QcK,Qer,Ys,QdM,nth]
theorem Qds{cs:List Int}{k:Nat}(h:k<cs.length):cs.drop k=cs.getD k 0::cs.drop (k+1):=by simp_all
theorem QcD{co:Int}{es:List TEnt}{k:Nat}(h:k<es.length):(es.map (Yu co)).getD k 0=Yu co (nth es k):=by
 rw[Zh (d:=default) h];rfl
theorem QcU{co:Int}{es:List TEnt}{k:Nat}(h:k<es.length):((List.range es.length).map (Qbu co es)).getD k 0=Qbu co es k:=by grind
theorem QaV{co:Int}{x:TEnt}(h:Yu co x=0):QW co x.key=true:=by grind[Yu,X3]
theorem Qff{co:Int}{k:List UInt8}(h:QW co k=true):1<=k.length/\k.length<=40:=by grind[QW]
theorem HS.thenF{w w1 w2:World}{M:List Nat}{As Bs:List HA}(h:HS w M As w1)(hc:HS w1 (fps As) Bs w2):HS w M Bs w2:=by
 have h1:HS w M (As++[]) w1:=by rw[List.append_nil];exact h
 have h2:=h1.callM (Mc:=fps As) (λb hb=>by obtain⟨A,hA,hb⟩:=List.mem_flatMap.1 hb;exact⟨A,hA,hb⟩) hc
 grind
def Z4(cs:List Int)(n:Int):List Bool:=cs.map λc=>decide (n=c)
theorem YX(cs:List Int)(n:Int):(Z4 cs n).length=cs.length:=by simp[Z4]
theorem QcZ{cs:List Int}{n:Int}{k:Nat}(h:k<cs.length):(Z4 cs n).getD k false=decide (n=cs.getD k 0):=by grind[Z4,Zh]
theorem QpL(cs:List Int)(n:Int):(Z4 cs n).any id=decide (n∈cs):=by
 unfold Z4;rw[List.any_map]
 grind
def Z8(t:Tre)(v:Vis):Bool:=decide (0<v.i)&&(decide (((nth t.ns v.i).es.length:Int)<t.mo/2)||((decide ((nth t.ns 0).es.length=0)&&decide ((v.i:Int)∈(nth t.ns 0).cs))&&decide (((nth t.ns v.i).es.length:Int)<=t.rm)))
def Qaq(t:Tre)(v:Vis)(x:TEnt):Bool:=(v.lo.any λb=>decide (0<=QX t.co b x.key))||(v.hi.any λb=>decide (0<=QX t.co x.key b))
def Z2(t:Tre)(v:Vis):Bool:=(nth t.ns v.i).es.any (Qaq t v)
def erV(t:Tre)(s:Int)(v:Vis):Int×Int:=((v.i:Int),if Z8 t v=true then 14 else if Z2 t v=true then 9 else if(nth t.ns v.i).cs.length=0 then(if(if s=0 then v.d else s)=v.d then 0 else 22)else 0)
def stV(t:Tre)(s:Int)(v:Vis):Int:=if Z8 t v=true then s else if Z2 t v=true then s else if(nth t.ns v.i).cs.length=0 then(if s=0 then v.d else s)else s
theorem Qbd(t:Tre)(deep:Int)(v:Vis):Qct t deep v=if Z8 t v=true then 14 else if Z2 t v=true then 9 else if(nth t.ns v.i).cs.length=0/\v.d≠deep+1 then 22 else 0:=by
 unfold Qct;simp only[];have h:Z8 t v=true ↔ (0<v.i/\(((nth t.ns v.i).es.length:Int)<t.mo/2\/((nth t.ns 0).es.length=0/\(v.i:Int)∈(nth t.ns 0).cs)/\((nth t.ns v.i).es.length:Int)<=t.rm)):=by grind[Z8]
 by_cases h1:Z8 t v=true
 ·grind
 ·rw[if_neg (λh2=>h1 (h.2 h2)),if_neg h1];rfl
theorem QhJ(t:Tre):∀(vs:List Vis)(s:Int),s≠0->(Yb (stV t) (erV t) s vs).1=YA t (s-1) vs
 | [],s,_=>rfl
 | v::vs,s,hs=>by
  have he:(erV t s v).2=Qct t (s-1) v:=by grind[Qbd,erV,Z8,Z2,nth]
  have hst:stV t s v=s:=by grind[stV]
  rw[Yb,YA,he,hst];split
  ·exact QhJ t vs s hs
  grind[erV]
theorem QhY{t:Tre}(hT:TOk t.co t.ns)(h0:0<t.ns.length)(deep:Int):∀(f:Nat)(v:Vis)(P:List Nat)(rest:List Vis),Gx.Way t.ns (v.i::P)->P.length+f=t.ns.length->1<=v.d->deep+1=v.d+YH t.ns f v.i->(Yb (stV t) (erV t) 0 (vis t.ns f v++rest)).1=YA t deep (vis t.ns f v++rest)
 | 0,v,P,rest,hw,hf,_,_=>by
  have:=YP hT h0 hw
  grind
 | f+1,v,P,rest,hw,hf,hd,he=>by
  have hi:=QcL hT h0 hw v.i (List.mem_cons_self ..);rw[YH]at he;rw[vis,List.cons_append,Yb,YA,Qbd]
  by_cases h1:Z8 t v=true
  ·grind[erV]
  ·rw[if_neg h1]
   by_cases h2:Z2 t v=true
   ·grind[erV]
   ·rw[if_neg h2]
    by_cases h3:(nth t.ns v.i).cs.length=0
    ·grind[erV,stV,nth,QhJ]
    ·rw[if_neg h3]at he;have e1:(erV t 0 v).2=0:=by unfold erV;simp only[if_neg h1,if_neg h2,if_neg h3]
     have e2:stV t 0 v=0:=by unfold stV;rw[if_neg h1,if_neg h2,if_neg h3]
     have hk:=Qd2 hT hi (k:=0) om;have e3:(if(nth t.ns v.i).cs.length=0/\v.d≠deep+1 then(22:Int)else 0)=0:=if_neg (λh5=>h3 h5.1);rw[e1,if_pos rfl,e2,e3,if_pos rfl];obtain⟨m,hm⟩:∃m,(nth t.ns v.i).cs.length=m+1:=⟨(nth t.ns v.i).cs.length-1,om⟩;rw[hm,List.range_succ_eq_map,List.flatMap_cons,List.append_assoc];refine QhY hT h0 deep f _ (v.i::P) _ (Qb5 hw hi om om) (by simp only[List.length_cons];omega) (by show 1<=v.d+1;omega) ?_
     grind
theorem run_shape{t:Tre}(hT:TOk t.co t.ns)(h0:0<t.ns.length):(Yb (stV t) (erV t) 0 (Y2 t.ns)).1=YA t (YH t.ns t.ns.length 0) (Y2 t.ns):=by
 have h:=QhY hT h0 (YH t.ns t.ns.length 0) t.ns.length ZF [] [] rfl (by simp) (by decide) (by show _=1+_;rw[show ZF.i=0 from rfl];omega);rw[List.append_nil]at h;exact h
def Qhj(s:List Bool)(v:Vis):List Bool:=s.set v.i true
theorem Qnh:∀(vs:List Vis)(s:List Bool),(Yb Qhj (λ_ _=>(0,0)) s vs).1=(0,0)/\(Yb Qhj (λ_ _=>(0,0)) s vs).2.length=s.length/\∀i,i<s.length->(Yb Qhj (λ_ _=>(0,0)) s vs).2.getD i false=(s.getD i false||decide (i∈vs.map Vis.i))
 | [],s=>⟨rfl,rfl,λi _=>by simp[Yb]⟩
 | v::vs,s=>by
  obtain⟨h1,h2,h3⟩:=Qnh vs (Qhj s v)
  grind[Yb,Qhj,hi]
theorem QkN{S:Type}{st:S->Vis->S}{er:S->Vis->Int×Int}{I:S->Prop}(hI:∀s v,I s->I (st s v)):∀(vs:List Vis)(s:S),I s->I (Yb st er s vs).2
 | [],s,h=>h
 | v::vs,s,h=>by
  rw[Yb];split
  ·simp_all[QkN]
  ·exact hI _ _ h
def KOk(co:Int)(o:Option (List UInt8)):Prop:=∀k,o=some k->QW co k=true/\k.length<=1000000
theorem Qex{co:Int}{ns:List Nd}(hT:TOk co ns){i:Nat}(hi:i<ns.length):∀x∈(nth ns i).es,QW co x.key=true/\x.key.length<=1000000:=λx hx=>by
 have h:=QaV (hT.ents i hi x hx)
 grind[Qff]
theorem Qf9{co:Int}{ns:List Nd}(hT:TOk co ns){v:Vis}(hi:v.i<ns.length){k:Nat}(hk:k<=(nth ns v.i).es.length)(h:KOk co v.lo):KOk co (Yj ns v k).lo:=by
 intro x hx;unfold Yj loK at hx;simp only[]at hx;split at hx
 ·grind[Qex,hi,QI]
 ·exact h x hx
theorem Qgo{co:Int}{ns:List Nd}(hT:TOk co ns){v:Vis}(hi:v.i<ns.length){k:Nat}(h:KOk co v.hi):KOk co (Yj ns v k).hi:=by
 intro x hx;unfold Yj hiK at hx;simp only[]at hx;split at hx
 ·grind[Qex,hi,QI]
 ·exact h x hx
def Qcq(t:Tre):Int×Int:=match Z9 t.ns ((Y2 t.ns).map Vis.i) t.ns.length 0 with
 | some i=>((i:Int),21)
 | none=>YA t (YH t.ns t.ns.length 0) (Y2 t.ns)
theorem Qly{t:Tre}{deep:Int}:∀{vs:List Vis},(YA t deep vs).2=0->YA t deep vs=(0,0)
 | [],_=>rfl
 | v::vs,h=>by
  rw[YA]at h ⊢;split at h
  ·simp_all[Qly]
  grind
theorem QnG{t:Tre}(h:(Qcq t).2=0):(Qcq t).1=0:=by grind[Qcq,Qly]
def ZY(n:Nat):Int:=if 0<n then if n<=120 then 0 else 8 else 10
theorem Qdy{t:Tre}(h:¬(if QJ t.co=0 then XW t.mo t.rm else QJ t.co)=0):XV t=(0,if QJ t.co=0 then XW t.mo t.rm else QJ t.co):=by grind[XV,QJ,XW]
theorem Qi4{t:Tre}(h:(if QJ t.co=0 then XW t.mo t.rm else QJ t.co)=0):QJ t.co=0/\XW t.mo t.rm=0:=by grind
theorem Qas{mo rm:Int}(h:XW mo rm=0):(3<=mo/\mo<=8)/\(mo/2<=rm/\rm<=mo):=by grind[XW]
theorem Qei{t:Tre}(h:(if QJ t.co=0 then XW t.mo t.rm else QJ t.co)=0)(h2:¬ZY t.ns.length=0):XV t=(0,ZY t.ns.length):=by grind[Qi4,XV,ZY]
theorem Qlf{n:Nat}(h:ZY n=0):0<n/\n<=120:=by grind[ZY]
theorem QeQ{t:Tre}(h:(if QJ t.co=0 then XW t.mo t.rm else QJ t.co)=0)(h2:ZY t.ns.length=0):XV t=if(Ym t t.ns.length 0 []).2=0 then Qcq t else Ym t t.ns.length 0 []:=by
 obtain⟨h3,h4⟩:=Qi4 h;obtain⟨h5,h6⟩:=Qlf h2;unfold XV;rw[if_pos h3,if_pos h4,if_pos h5,if_pos h6];rfl
theorem YJ{t:Tre}(h:(XV t).2=0):QJ t.co=0/\XW t.mo t.rm=0/\0<t.ns.length/\t.ns.length<=120/\(Ym t t.ns.length 0 []).2=0/\(Qcq t).2=0/\XV t=(0,0):=by
 by_cases h1:(if QJ t.co=0 then XW t.mo t.rm else QJ t.co)=0
 ·grind[ZY,QeQ,Qi4,Qlf,QnG,Qei]
 grind[Qdy]
theorem Qrf{l:List Bool}{k:Nat}(h:k<l.length):(l.map Value.bool)[k]?=some (.bool (l.getD k false)):=by grind
theorem Qgu{t:Tre}{k:Nat}{seen:List Int}(h:k<t.ns.length):Ym t (t.ns.length-k) k seen=if(Yh t k seen).1=0 then Ym t (t.ns.length-(k+1)) (k+1) (Yh t k seen).2 else((k:Int),(Yh t k seen).1):=by
 rw[show t.ns.length-k=t.ns.length-(k+1)+1 by omega,Ym]
theorem QhO{ns:List Nd}{below:List Nat}{k:Nat}(h:k<ns.length):Z9 ns below (ns.length-k) k=if(nth ns k).us=true/\k ∉ below then some k else Z9 ns below (ns.length-(k+1)) (k+1):=by
 rw[show ns.length-k=ns.length-(k+1)+1 by omega,Z9]
theorem Qch{t:Tre}{i:Nat}(h:Z9 t.ns ((Y2 t.ns).map Vis.i) t.ns.length 0=some i):Qcq t=((i:Int),21):=by
 unfold Qcq;rw[h]
theorem Qcb{t:Tre}(h:Z9 t.ns ((Y2 t.ns).map Vis.i) t.ns.length 0=none):Qcq t=YA t (YH t.ns t.ns.length 0) (Y2 t.ns):=by
 unfold Qcq;rw[h]
theorem Qdf{l:List LNd}{k:Nat}(hk:k<l.length)(ea:Option Addr)(ec:Nat)(es:List TEnt):Qu (l.flatMap LNd.vals) (k*3+1) [.slice ea es.length ec]=(l.set k {nth l k with ea:=ea,ec:=ec,es:=es}).flatMap LNd.vals:=
 QaL nv3 l k 1 _ (nth l k) _ (Xk hk) rfl (by simp)
theorem Qfy{l:List LNd}{k:Nat}(hk:k<l.length)(ca:Option Addr)(cc:Nat)(cs:List Int):Qu (l.flatMap LNd.vals) (k*3+2) [.slice ca cs.length cc]=(l.set k {nth l k with ca:=ca,cc:=cc,cs:=cs}).flatMap LNd.vals:=
 QaL nv3 l k 2 _ (nth l k) _ (Xk hk) rfl (by simp)
theorem Qsk{l:List LNd}{k:Nat}(hk:k<l.length)(us:Bool):Qu (l.flatMap LNd.vals) (k*3) [.bool us]=(l.set k {nth l k with us:=us}).flatMap LNd.vals:=by
 have h:=QaL nv3 l k 0 [.bool us] (nth l k) {nth l k with us:=us} (Xk hk) rfl (by simp)
 grind
theorem Qfe{l:List LNd}{k:Nat}(hk:k<l.length)(ea:Option Addr)(ec:Nat)(es:List TEnt)(ca:Option Addr)(cc:Nat)(cs:List Int):Qu (Qu (l.flatMap LNd.vals) (k*3+1) [.slice ea es.length ec]) (k*3+2) [.slice ca cs.length cc]=(l.set k ⟨(nth l k).us,ea,ec,es,ca,cc,cs⟩).flatMap LNd.vals:=by simp_all[Qdf,Qfy,QlG]
theorem QmJ{l m:List LNd}{k:Nat}(hl:l.length=k)(hk:k<m.length):nth (l++m.drop k) k=nth m k:=by
 apply Q2
 grind[Xk]
theorem Qsw{l m:List LNd}{k:Nat}(hl:l.length=k)(hk:k<m.length)(x:LNd):(l++m.drop k).set k x=l++[x]++m.drop (k+1):=by
 rw[List.set_append_right _ _ om,hl,Nat.sub_self,List.drop_eq_getElem_cons hk,List.set_cons_zero,List.append_assoc];rfl
theorem QkK{L:List LNd}{k:Nat}(hk:k<L.length){D:List LNd}(hD:pln D=(pln L).take k){x:LNd}(hx:x.pl=(nth L k).pl):pln (D++[x])=(pln L).take (k+1):=by
 rw[Qcd,hD,List.take_succ_eq_append_getElem (by rw[Qb];exact hk)]
 simp_all[pln,Qb,nth,Q2,Ql]
end Gx
namespace Gx
open Go Go.RowKit
section
variable{P:Program}{o:Oper}{L:Qq}{w0:World}{M:List Nat}{As As':List HA}
def QtR(P:Program)(t te:TypeId):Prop:=P.underlying t=some (.pointer te)/\∃j,P.info? te=some j/\j.size≠0
theorem Qsq{t te:TypeId}{n:Nat}{b:Bool}(h:P.underlying t=some (.pointer te))(h2:tsz P te=some (n,b))(hn:n≠0):QtR P t te:=by
 refine⟨h,?_⟩
 grind[tsz,hi]
theorem ptee{t te:TypeId}(h:P.underlying t=some (.pointer te)):P.underlying t=some (.pointer (P.pointee t)):=by
 rw[h];simp[Program.pointee,h]
theorem Qf6{t t' te:TypeId}{x y:Operand}{p:Option Addr}(ho:o.op=.binOp .neq t x y t')(hx:ev L x=some (.pointer p))(hy:ev L y=some (.pointer none))(ht:QtR P t te):OpP P o L (.bool p.isSome):=by
 intro ρ w hρ;have hg:(eqGuard .neq t x y (.pointer p) (.pointer none)).run P w=.ok () w:=by unfold eqGuard;simp
 have h:=run_neq_pointer_nil w t p (ptee ht.1);simp only[execOp,ho,hρ _ _ hx,hρ _ _ hy,Sem.run_bind,hg,h,Result.andThen_ok,Sem.run_pure];cases p<;>rfl
end
end Gx
namespace Gx
open Go Go.RowKit
section
variable{P:Program}{o:Oper}{L:Qq}{w0:World}{M:List Nat}{As As':List HA}
theorem QhI{t e sz by':Nat}{x hi mx:Operand}{a:Option Addr}{n cap:Nat}{k2 k3:IntKind}{i2 i3:Int}(j m:Nat)(ho:o.op=.slice t x none (some hi) (some mx))(hx:ev L x=some (.slice a n cap))(hh:ev L hi=some (.int k2 i2))(hm:ev L mx=some (.int k3 i3))(ht:tsl P t=some (e,sz,by'))(e2:i2=(j:Int))(e3:i3=(m:Int))(hjm:j<=m)(hmc:m<=cap) :
  OpP P o L (.slice (YY a m 0 sz) j m):=by
 intro ρ w hρ;obtain⟨hu,inf,h1,h2,_⟩:=XS ht;subst e2 e3;simp[execOp,ho,hρ _ _ hx,hρ _ _ hh,hρ _ _ hm,Instr.sliceAt,Instr.slice,Instr.sliceBounds,Instr.sliceBound,asIntOf,run_underlying hu,hjm,hmc,Go.sizeOf,typeInfo,h1,h2,YY]
end
theorem Qh9(a:Option Addr)(cap sz:Nat)(ha:∀x,a=some x->x.off=0/\x=⟨x.block,0,none⟩):YY a cap 0 sz=a:=by
 unfold YY;split
 ·rfl
 ·cases a with
  | none=>rfl
  | some x=>
   rw[(ha x rfl).2];simp[X5]
theorem Rw.cut{α:Type}[Inhabited α]{vals:α->List Value}{sz:Nat}{w:World}{M:List Nat}{a:Option Addr}{l:List α}(h:Rw vals sz w M a l){cap i:Nat}(hc:l.length<=cap):Rw vals sz w M (YY a cap i sz) (l.drop i):=
 ⟨λhn=>by
  rw[List.length_drop]at hn;obtain⟨b,o,rfl,h2⟩:=h.at_ om;refine⟨b,o+i*sz,?_,λj hj=>?_⟩
  ·unfold YY;rw[if_neg om];simp[X5]
  ·rw[List.length_drop]at hj;have e:nth (l.drop i) j=nth l (i+j):=Q2 (by rw[List.getElem?_drop];exact Xk om);have h3:=h2 (i+j) om;simp only[e];refine⟨h3.1,λq v hv=>?_⟩;have h4:=h3.2 q v hv;rw[show o+(i+j)*sz+q=o+i*sz+j*sz+q by rw[Nat.add_mul];omega]at h4;exact h4⟩
section
variable{w0 w:World}{M:List Nat}{As As' As'':List HA}{gn cap et nt':Nat}{a:Option Addr}{L:List LNd}
theorem Qfn(h0:0<L.length)(h:HS w0 M As w)(hp:QE As (.nodes et nt' a cap L) As'):∃gn,a=some ⟨gn,0,none⟩/\L.length<=cap/\cap<=maxLen/\HS w0 M (.blk gn nt' (cap*3) (L.flatMap LNd.vals)::.star (L.map (Qs et))::As') w:=by
 have h1:=HS.row_open (h.pick hp);obtain⟨gn,e,_,h2,h3,_,h4⟩:=h1.own_blk h0 .here
 grind
theorem QdV(h:HS w0 M (.blk gn nt' (cap*3) (L.flatMap LNd.vals)::.star (L.map (Qs et))::As) w)(h1:L.length<=cap)(h2:cap<=maxLen):HS w0 M (.nodes et nt' (some ⟨gn,0,none⟩) cap L::As) w:=
 HS.row_shut (l:=L) (sub:=Qs et) (HS.own_shut (n:=L.length) h (Qi nv3 L) h1 h2) rfl rfl
theorem HS.nt_at(h:HS w0 M As w)(hp:QE As (.blk gn nt' (cap*3) (L.flatMap LNd.vals)) As')(hp2:QE As' (.star (L.map (Qs et))) As''):Nt w [] (some ⟨gn,0,none⟩) L:=by
 refine⟨h.rw_blk nv3 hp,λn hn=>?_⟩;obtain⟨i,hi,e⟩:=List.getElem_of_mem hn;have e2:nth L i=n:=Q2 (by rw[List.getElem?_eq_getElem hi,e]);have h2:=HS.sub_open hi ((h.pick hp).tail.pick hp2);rw[e2]at h2;have h3:=HS.star_open h2;exact⟨h3.rw_own ev2 .here rfl,h3.rw_own iv1 (.there .here) rfl⟩
theorem HS.node_out{i:Nat}(hi:i<L.length)(h:HS w0 M As w)(hp:QE As (.star (L.map (Qs et))) As'):HS w0 M (.own (.slice (nth L i).ea (nth L i).es.length (nth L i).ec) et 2 (nth L i).es.length ((nth L i).es.flatMap TEnt.vals)::.own (.slice (nth L i).ca (nth L i).cs.length (nth L i).cc) 3 1 (nth L i).cs.length ((nth L i).cs.flatMap inV)::.star ((QK L i).map (Qs et))::As') w:=
 HS.star_open (Bs:=[_,_]) (HS.sub_open hi (h.pick hp))
theorem HS.node_in{i:Nat}(hi:i<L.length)(x:LNd)(h:HS w0 M (.own (.slice x.ea x.es.length x.ec) et 2 x.es.length (x.es.flatMap TEnt.vals)::.own (.slice x.ca x.cs.length x.cc) 3 1 x.cs.length (x.cs.flatMap inV)::.star ((QK L i).map (Qs et))::As) w):HS w0 M (.star ((L.set i x).map (Qs et))::As) w:=
 HS.sub_shut (sub:=Qs et) hi (HS.star_close (Bs:=[_,_]) h)
theorem Qks{a:Option Addr}{n n' c t sz:Nat}{xs:List Value}{w:World}(h:Ql8 (.slice a n c) t sz n' xs w):∀x,a=some x->x.off=0/\x=⟨x.block,0,none⟩:=by
 obtain⟨_,⟨e,_⟩|⟨g,cap,e,_⟩⟩:=h
 ·grind
 grind
end
theorem QrC{l:List LNd}{k:Nat}(hk:k<l.length)(us:Bool):Qu (l.flatMap LNd.vals) (0+k*3+0) [.bool us]=(l.set k {nth l k with us:=us}).flatMap LNd.vals:=by grind[Qsk]
theorem QsV{et:Nat}{L:List LNd}{i:Nat}(hi:i<L.length)(us:Bool):((L.set i {nth L i with us:=us}).map (Qs et))=L.map (Qs et):=by
 rw[List.map_set];have e:Qs et {nth L i with us:=us}=Qs et (nth L i):=rfl;rw[e];apply List.ext_getElem?
 grind[hi,Xk]
def usN(ns:List Nd)(i:Nat)(us:Bool):List Nd:=ns.set i {nth ns i with us:=us}
def esN(ns:List Nd)(i:Nat)(es:List TEnt):List Nd:=ns.set i {nth ns i with es:=es}
def csN(ns:List Nd)(i:Nat)(cs:List Int):List Nd:=ns.set i {nth ns i with cs:=cs}
theorem YF(ns:List Nd)(i:Nat)(es:List TEnt):(esN ns i es).length=ns.length:=by simp[esN]
theorem Qbc(ns:List Nd)(i:Nat)(cs:List Int):(csN ns i cs).length=ns.length:=by simp[csN]
theorem QiS(ns:List Nd)(i:Nat)(us:Bool):(usN ns i us).length=ns.length:=by simp[usN]
theorem Qms{ns:List Nd}{i k:Nat}(hk:k<ns.length)(es:List TEnt):nth (esN ns i es) k=if i=k then{nth ns k with es:=es}else nth ns k:=by
 unfold esN;apply Q2
 grind[Xk]
theorem Quv{L:List LNd}{i:Nat}(hi:i<L.length)(ea:Option Addr)(ec:Nat)(es:List TEnt):pln (L.set i {nth L i with ea:=ea,ec:=ec,es:=es})=esN (pln L) i es:=by
 rw[Qdg,esN,Ql hi];rfl
theorem Qvk{L:List LNd}{i:Nat}(hi:i<L.length)(ca:Option Addr)(cc:Nat)(cs:List Int):pln (L.set i {nth L i with ca:=ca,cc:=cc,cs:=cs})=csN (pln L) i cs:=by
 rw[Qdg,csN,Ql hi];rfl
theorem Qu4{L:List LNd}{i:Nat}(hi:i<L.length)(us:Bool):pln (L.set i {nth L i with us:=us})=usN (pln L) i us:=by
 rw[Qdg,usN,Ql hi];rfl
def X7(ns:List Nd):Nat:=ixB (ns.map λn=>!n.us)
def Q3(ns:List Nd):Nat×List Nd:=if X7 ns<ns.length then(X7 ns,usN ns (X7 ns) true)else(ns.length,ns++[⟨true,[],[]⟩])
def Xz(i:Int):List Nd->Nat->Nat×Nat
 | [],_=>(0,0)
 | n::ns,p=>if ixB (Z4 n.cs i)<n.cs.length then(p,ixB (Z4 n.cs i))else Xz i ns (p+1)
theorem QnT{i:Int}{ns:List Nd}{k:Nat}(hk:k<ns.length):Xz i (ns.drop k) k=if ixB (Z4 (nth ns k).cs i)<(nth ns k).cs.length then(k,ixB (Z4 (nth ns k).cs i))else Xz i (ns.drop (k+1)) (k+1):=by
 rw[List.drop_eq_getElem_cons hk,Xz]
 grind[nth,Q2]
def QD(mo:Int):Nat:=((mo+1)/2).toNat
def splA(mo:Int)(ns:List Nd)(i:Nat):List Nd:=
 if(nth (Q3 ns).2 i).cs.length=0 then esN (esN (Q3 ns).2 (Q3 ns).1 ((nth (Q3 ns).2 i).es.drop (QD mo+1))) i ((nth (Q3 ns).2 i).es.take (QD mo))
 else csN (csN (esN (esN (Q3 ns).2 (Q3 ns).1 ((nth (Q3 ns).2 i).es.drop (QD mo+1))) i ((nth (Q3 ns).2 i).es.take (QD mo))) (Q3 ns).1 ((nth (Q3 ns).2 i).cs.drop (QD mo+1))) i ((nth (Q3 ns).2 i).cs.take (QD mo+1))
def addP(ns:List Nd)(p k:Nat)(up:TEnt)(own:Nat):List Nd:=csN (esN ns p (QT (nth ns p).es k up)) p (QT (nth ns p).cs (k+1) (own:Int))
def Qb6(mo:Int)(ns:List Nd)(i:Nat):List Nd:=addP (splA mo ns i) (Xz (i:Int) (splA mo ns i) 0).1 (Xz (i:Int) (splA mo ns i) 0).2 (nth (nth (Q3 ns).2 i).es (QD mo)) (Q3 ns).1
theorem QeS{ns:List Nd}(h:X7 ns<ns.length):(nth ns (X7 ns)).us=false:=by
 have h1:(ns.map λn=>!n.us).getD (X7 ns) false=true:=Qgv (l:=ns.map λn=>!n.us) (by rw[List.length_map];exact h);rw[Zh (d:=default) h]at h1;show(ns.getD (X7 ns) default).us=false
 simpa using h1
theorem QfV{ns:List Nd}{i:Nat}(hi:i<ns.length)(hu:(nth ns i).us=true):(Q3 ns).1≠i:=by grind[Q3,QeS]
theorem QfP(ns:List Nd):(Q3 ns).1<(Q3 ns).2.length:=by grind[Q3,QiS]
theorem QcG(ns:List Nd):ns.length<=(Q3 ns).2.length/\(Q3 ns).2.length<=ns.length+1:=by grind[Q3,QiS]
theorem QcV{ns:List Nd}{i:Nat}(hi:i<ns.length)(hu:(nth ns i).us=true):nth (Q3 ns).2 i=nth ns i:=by
 have hne:=QfV hi hu;unfold Q3 at hne ⊢;split
 ·simp_all[usN,Q2,Xk,hi]
 ·apply Q2
  grind[hi,Xk]
theorem QkZ(mo:Int)(ns:List Nd)(i:Nat):(splA mo ns i).length=(Q3 ns).2.length:=by grind[splA,YF,Qbc]
def Yf(ns:List Nd):Nat×List Nd:=((Q3 ns).1,csN (esN (csN (esN (Q3 ns).2 (Q3 ns).1 (nth ns 0).es) (Q3 ns).1 (nth ns 0).cs) 0 []) 0 [((Q3 ns).1:Int)])
def QbZ(mo:Int)(ns:List Nd)(i:Nat):List Nd:=if 0<i/\mo<((nth ns i).es.length:Int)then Qb6 mo ns i else ns
def Yq(mo:Int)(ns:List Nd)(P:List Nat):List Nd:=P.foldl (QbZ mo) ns
def QbB(mo rm:Int)(ns:List Nd):List Nd:=if rm<((nth ns 0).es.length:Int)then if mo<((nth (Yf ns).2 (Yf ns).1).es.length:Int)then Qb6 mo (Yf ns).2 (Yf ns).1 else(Yf ns).2 else ns
def QgI(mo rm:Int)(ns:List Nd)(P:List Nat):List Nd:=QbB mo rm (Yq mo ns P)
abbrev LNd.noE(n:LNd):LNd:={n with ea:=none,ec:=0,es:=[]}
abbrev LNd.noC(n:LNd):LNd:={n with ca:=none,cc:=0,cs:=[]}
abbrev Qji(et:Nat)(n:LNd):HA:=.own (.slice n.ea n.es.length n.ec) et 2 n.es.length (n.es.flatMap TEnt.vals)
abbrev QnZ(n:LNd):HA:=.own (.slice n.ca n.cs.length n.cc) 3 1 n.cs.length (n.cs.flatMap inV)
theorem Qay{L:List LNd}{i:Nat}(hi:i<L.length)(x:LNd):nth (L.set i x) i=x:=Q2 (List.getElem?_set_self hi)
theorem Qbo{L:List LNd}{i k:Nat}(hk:k<L.length)(hne:i≠k)(x:LNd):nth (L.set i x) k=nth L k:=Q2 (by rw[List.getElem?_set_ne hne];exact Xk hk)
section
variable{w0 w:World}{M:List Nat}{As As' As'':List HA}{et:Nat}{L:List LNd}{i:Nat}
theorem HS.es_take(hi:i<L.length)(h:HS w0 M As w)(hp:QE As (.star (L.map (Qs et))) As'):HS w0 M (Qji et (nth L i)::.star ((L.set i (nth L i).noE).map (Qs et))::As') w:=by
 have h1:=(h.node_out hi hp).own_nil et 2;have h2:=h1.perm (As':=_::_::_::Qji et (nth L i)::As') (List.Perm.cons _ (List.perm_middle (l₁:=[_,_])).symm);exact(HS.node_in hi (nth L i).noE h2).perm (List.Perm.swap ..)
theorem HS.cs_take(hi:i<L.length)(h:HS w0 M As w)(hp:QE As (.star (L.map (Qs et))) As'):HS w0 M (QnZ (nth L i)::.star ((L.set i (nth L i).noC).map (Qs et))::As') w:=by
 have h1:=(h.node_out hi hp).own_nil 3 1;have h2:=h1.perm (As':=_::_::_::QnZ (nth L i)::As') ((List.perm_middle (l₁:=[_]) (a:=Qji et (nth L i))).trans (List.Perm.cons _ (List.Perm.cons _ (List.Perm.swap ..))));exact(HS.node_in hi (nth L i).noC h2).perm (List.Perm.swap ..)
theorem HS.es_put(hi:i<L.length){ea:Option Addr}{ec:Nat}{es:List TEnt}(h:HS w0 M As w)(hp:QE As (.own (.slice ea es.length ec) et 2 es.length (es.flatMap TEnt.vals)) As')(hp2:QE As' (.star (L.map (Qs et))) As''):HS w0 M (.star ((L.set i {nth L i with ea:=ea,ec:=ec,es:=es}).map (Qs et))::As'') w:=by
 have h1:=(h.pick hp).perm (List.Perm.cons _ hp2.perm);have h2:=(HS.node_out hi h1 (.there .here)).tail;have h3:=h2.perm (As':=(.own (.slice ea es.length ec) et 2 es.length (es.flatMap TEnt.vals))::_::_::As'') (List.perm_middle (l₁:=[_,_]));exact HS.node_in hi {nth L i with ea:=ea,ec:=ec,es:=es} h3
theorem HS.cs_put(hi:i<L.length){ca:Option Addr}{cc:Nat}{cs:List Int}(h:HS w0 M As w)(hp:QE As (.own (.slice ca cs.length cc) 3 1 cs.length (cs.flatMap inV)) As')(hp2:QE As' (.star (L.map (Qs et))) As''):HS w0 M (.star ((L.set i {nth L i with ca:=ca,cc:=cc,cs:=cs}).map (Qs et))::As'') w:=by
 have h1:=(h.pick hp).perm (List.Perm.cons _ hp2.perm);have h2:=(HS.node_out hi h1 (.there .here));have h3:=(h2.perm (List.Perm.swap ..)).tail;have h4:=h3.perm (As':=Qji et (nth L i)::(.own (.slice ca cs.length cc) 3 1 cs.length (cs.flatMap inV))::_::As'') (List.Perm.cons _ (List.perm_middle (l₁:=[_])))
 grind[HS.node_in,hi,nth]
theorem HS.es_back(hi:i<L.length){ea:Option Addr}{ec:Nat}{es:List TEnt}(h:HS w0 M As w)(hp:QE As (.own (.slice ea es.length ec) et 2 es.length (es.flatMap TEnt.vals)) As')(hp2:QE As' (.star ((L.set i (nth L i).noE).map (Qs et))) As''):HS w0 M (.star ((L.set i {nth L i with ea:=ea,ec:=ec,es:=es}).map (Qs et))::As'') w:=by
 have h1:=HS.es_put (L:=L.set i (nth L i).noE) (i:=i) (by rw[List.length_set];exact hi) h hp hp2
 simp_all[Qay,hi]
theorem HS.cs_back(hi:i<L.length){ca:Option Addr}{cc:Nat}{cs:List Int}(h:HS w0 M As w)(hp:QE As (.own (.slice ca cs.length cc) 3 1 cs.length (cs.flatMap inV)) As')(hp2:QE As' (.star ((L.set i (nth L i).noC).map (Qs et))) As''):HS w0 M (.star ((L.set i {nth L i with ca:=ca,cc:=cc,cs:=cs}).map (Qs et))::As'') w:=by
 have h1:=HS.cs_put (L:=L.set i (nth L i).noC) (i:=i) (by rw[List.length_set];exact hi) h hp hp2
 simp_all[Qay,hi]
theorem HS.es_cut(hi:i<L.length){m c:Nat}(hm:m<=c)(hc:c<=(nth L i).ec)(hml:m<=(nth L i).es.length)(h0:m=0->(nth L i).ea=none->c=0)(h:HS w0 M As w)(hp:QE As (.star (L.map (Qs et))) As'):HS w0 M (.star ((L.set i {nth L i with ec:=c,es:=(nth L i).es.take m}).map (Qs et))::As') w:=by
 have h1:=HS.es_take hi h hp;have e1:((nth L i).es.take m).length=m:=by rw[List.length_take];omega
 have h2:=HS.own_room (a:=(nth L i).ea) (n':=c) (xs:=((nth L i).es.take m).flatMap TEnt.vals) (ds:=((nth L i).es.drop m).flatMap TEnt.vals) .here (by rw[<-List.flatMap_append,List.take_append_drop];exact h1) (by rw[Qi ev2,e1]) hm hc h0;refine HS.es_back hi (es:=(nth L i).es.take m) ?_ .here .here;rw[e1];exact h2
theorem HS.cs_cut(hi:i<L.length){m c:Nat}(hm:m<=c)(hc:c<=(nth L i).cc)(hml:m<=(nth L i).cs.length)(h0:m=0->(nth L i).ca=none->c=0)(h:HS w0 M As w)(hp:QE As (.star (L.map (Qs et))) As'):HS w0 M (.star ((L.set i {nth L i with cc:=c,cs:=(nth L i).cs.take m}).map (Qs et))::As') w:=by
 have h1:=HS.cs_take hi h hp;have e1:((nth L i).cs.take m).length=m:=by rw[List.length_take];omega
 have h2:=HS.own_room (a:=(nth L i).ca) (n':=c) (xs:=((nth L i).cs.take m).flatMap inV) (ds:=((nth L i).cs.drop m).flatMap inV) .here (by rw[<-List.flatMap_append,List.take_append_drop];exact h1) (by rw[Qi iv1,e1]) hm hc h0;refine HS.cs_back hi (cs:=(nth L i).cs.take m) ?_ .here .here;rw[e1];exact h2
theorem HS.es_room(hi:i<L.length)(h:HS w0 M As w)(hp:QE As (.star (L.map (Qs et))) As'):(nth L i).es.length<=(nth L i).ec/\(nth L i).ec<=maxLen:=by
 have h1:=HS.own_facts .here (HS.es_take hi h hp)
 grind
theorem HS.cs_room(hi:i<L.length)(h:HS w0 M As w)(hp:QE As (.star (L.map (Qs et))) As'):(nth L i).cs.length<=(nth L i).cc/\(nth L i).cc<=maxLen:=by
 have h1:=HS.own_facts .here (HS.cs_take hi h hp)
 grind
theorem HS.es_form(hi:i<L.length)(h:HS w0 M As w)(hp:QE As (.star (L.map (Qs et))) As'):∀x,(nth L i).ea=some x->x.off=0/\x=⟨x.block,0,none⟩:=Qks (HS.es_take hi h hp).head
theorem HS.cs_form(hi:i<L.length)(h:HS w0 M As w)(hp:QE As (.star (L.map (Qs et))) As'):∀x,(nth L i).ca=some x->x.off=0/\x=⟨x.block,0,none⟩:=Qks (HS.cs_take hi h hp).head
theorem HS.es_some(hi:i<L.length)(hn:0<(nth L i).es.length)(h:HS w0 M As w)(hp:QE As (.star (L.map (Qs et))) As'):∃g,(nth L i).ea=some ⟨g,0,none⟩:=by
 obtain⟨g,e,_⟩:=HS.own_blk hn .here (HS.es_take hi h hp);exact⟨g,e⟩
theorem HS.cs_some(hi:i<L.length)(hn:0<(nth L i).cs.length)(h:HS w0 M As w)(hp:QE As (.star (L.map (Qs et))) As'):∃g,(nth L i).ca=some ⟨g,0,none⟩:=by
 obtain⟨g,e,_⟩:=HS.own_blk hn .here (HS.cs_take hi h hp);exact⟨g,e⟩
theorem HS.es_row(hi:i<L.length)(h:HS w0 M As w)(hp:QE As (.star (L.map (Qs et))) As'):Rw TEnt.vals 2 w [] (nth L i).ea (nth L i).es:=(HS.es_take hi h hp).rw_own ev2 .here rfl
theorem HS.cs_row(hi:i<L.length)(h:HS w0 M As w)(hp:QE As (.star (L.map (Qs et))) As'):Rw inV 1 w [] (nth L i).ca (nth L i).cs:=(HS.cs_take hi h hp).rw_own iv1 .here rfl
theorem HS.es_rd{k g:Nat}(hi:i<L.length)(hk:k<(nth L i).es.length)(hg:(nth L i).ea=some ⟨g,0,none⟩)(h:HS w0 M As w)(hp:QE As (.star (L.map (Qs et))) As'):∀j v,(TEnt.vals (nth (nth L i).es k))[j]?=some v->Rd w [] g (0+k*2+j) v:=by
 have h1:=Rw.rd (HS.es_row hi h hp) hk;rw[hg]at h1;exact h1
theorem HS.cs_rd{k g:Nat}(hi:i<L.length)(hk:k<(nth L i).cs.length)(hg:(nth L i).ca=some ⟨g,0,none⟩)(h:HS w0 M As w)(hp:QE As (.star (L.map (Qs et))) As'):Rd w [] g (0+k*1) (.int .i64 ((nth L i).cs.getD k 0)):=by
 have h1:=Rw.rd (HS.cs_row hi h hp) hk 0 (.int .i64 ((nth L i).cs.getD k 0)) rfl;rw[hg]at h1;exact h1
theorem HS.nd_cell{gn cap nt':Nat}(hi:i<L.length)(h:HS w0 M As w)(hp:QE As (.blk gn nt' (cap*3) (L.flatMap LNd.vals)) As')(j:Nat){v:Value}(hj:(LNd.vals (nth L i))[j]?=some v)(hj3:j<3):Rd w [] gn (i*3+j) v:=
 h.rd_blk hp (by rw[Qc8 nv3 L i j _ (Xk hi) hj3];exact hj) (by simp)
end
structure NdSet(L L':List LNd)(i:Nat)(x:LNd):Prop where
 lt:i<L.length
 eq:L'=L.set i x
theorem NdSet.len{L L':List LNd}{i:Nat}{x:LNd}(h:NdSet L L' i x):L'.length=L.length:=by rw[h.eq,List.length_set]
theorem NdSet.at_{L L':List LNd}{i:Nat}{x:LNd}(h:NdSet L L' i x):nth L' i=x:=by rw[h.eq,Qay h.lt]
theorem NdSet.other{L L':List LNd}{i k:Nat}{x:LNd}(h:NdSet L L' i x)(hk:k<L.length)(hne:i≠k):nth L' k=nth L k:=by rw[h.eq,Qbo hk hne]
theorem NdSet.pl{L L':List LNd}{i:Nat}{x:LNd}(h:NdSet L L' i x):pln L'=(pln L).set i x.pl:=by rw[h.eq,Qdg]
theorem NdSet.es{L L':List LNd}{i:Nat}{ea:Option Addr}{ec:Nat}{es:List TEnt}(h:NdSet L L' i {nth L i with ea:=ea,ec:=ec,es:=es}):pln L'=esN (pln L) i es:=by rw[h.eq,Quv h.lt]
theorem NdSet.cs{L L':List LNd}{i:Nat}{ca:Option Addr}{cc:Nat}{cs:List Int}(h:NdSet L L' i {nth L i with ca:=ca,cc:=cc,cs:=cs}):pln L'=csN (pln L) i cs:=by rw[h.eq,Qvk h.lt]
section
variable{w0 w:World}{M:List Nat}{As A1 A2 A3:List HA}{et:Nat}{L:List LNd}{i gn cap nt':Nat}
theorem HS.es_set(hi:i<L.length){ea:Option Addr}{ec:Nat}{es:List TEnt}(h:HS w0 M As w)(hp:QE As (.blk gn nt' (cap*3) (Qu (L.flatMap LNd.vals) (i*3+1) [.slice ea es.length ec])) A1)(hp2:QE A1 (.own (.slice ea es.length ec) et 2 es.length (es.flatMap TEnt.vals)) A2)(hp3:QE A2 (.star (L.map (Qs et))) A3) :
  ∃L',NdSet L L' i {nth L i with ea:=ea,ec:=ec,es:=es}/\HS w0 M (.blk gn nt' (cap*3) (L'.flatMap LNd.vals)::.star (L'.map (Qs et))::A3) w:=by
 refine⟨_,⟨hi,rfl⟩,?_⟩;rw[<-Qdf hi];exact(HS.es_put hi (h.pick hp) (.there hp2) (.there hp3)).perm (List.Perm.swap ..)
theorem HS.cs_set(hi:i<L.length){ca:Option Addr}{cc:Nat}{cs:List Int}(h:HS w0 M As w)(hp:QE As (.blk gn nt' (cap*3) (Qu (L.flatMap LNd.vals) (i*3+2) [.slice ca cs.length cc])) A1)(hp2:QE A1 (.own (.slice ca cs.length cc) 3 1 cs.length (cs.flatMap inV)) A2)(hp3:QE A2 (.star (L.map (Qs et))) A3) :
  ∃L',NdSet L L' i {nth L i with ca:=ca,cc:=cc,cs:=cs}/\HS w0 M (.blk gn nt' (cap*3) (L'.flatMap LNd.vals)::.star (L'.map (Qs et))::A3) w:=by
 refine⟨_,⟨hi,rfl⟩,?_⟩;rw[<-Qfy hi];exact(HS.cs_put hi (h.pick hp) (.there hp2) (.there hp3)).perm (List.Perm.swap ..)
theorem HS.es_setB(hi:i<L.length){ea:Option Addr}{ec:Nat}{es:List TEnt}(h:HS w0 M As w)(hp:QE As (.blk gn nt' (cap*3) (Qu (L.flatMap LNd.vals) (i*3+1) [.slice ea es.length ec])) A1)(hp2:QE A1 (.own (.slice ea es.length ec) et 2 es.length (es.flatMap TEnt.vals)) A2)(hp3:QE A2 (.star ((L.set i (nth L i).noE).map (Qs et))) A3) :
  ∃L',NdSet L L' i {nth L i with ea:=ea,ec:=ec,es:=es}/\HS w0 M (.blk gn nt' (cap*3) (L'.flatMap LNd.vals)::.star (L'.map (Qs et))::A3) w:=by
 refine⟨_,⟨hi,rfl⟩,?_⟩;rw[<-Qdf hi];exact(HS.es_back hi (h.pick hp) (.there hp2) (.there hp3)).perm (List.Perm.swap ..)
theorem HS.cs_setB(hi:i<L.length){ca:Option Addr}{cc:Nat}{cs:List Int}(h:HS w0 M As w)(hp:QE As (.blk gn nt' (cap*3) (Qu (L.flatMap LNd.vals) (i*3+2) [.slice ca cs.length cc])) A1)(hp2:QE A1 (.own (.slice ca cs.length cc) 3 1 cs.length (cs.flatMap inV)) A2)(hp3:QE A2 (.star ((L.set i (nth L i).noC).map (Qs et))) A3) :
  ∃L',NdSet L L' i {nth L i with ca:=ca,cc:=cc,cs:=cs}/\HS w0 M (.blk gn nt' (cap*3) (L'.flatMap LNd.vals)::.star (L'.map (Qs et))::A3) w:=by
 refine⟨_,⟨hi,rfl⟩,?_⟩;rw[<-Qfy hi];exact(HS.cs_back hi (h.pick hp) (.there hp2) (.there hp3)).perm (List.Perm.swap ..)
theorem HS.es_setC(hi:i<L.length){m c:Nat}(hm:m<=c)(hc:c<=(nth L i).ec)(hml:m<=(nth L i).es.length)(h0:m=0->(nth L i).ea=none->c=0)(h:HS w0 M As w)(hp:QE As (.blk gn nt' (cap*3) (Qu (L.flatMap LNd.vals) (i*3+1) [.slice (nth L i).ea m c])) A1)(hp3:QE A1 (.star (L.map (Qs et))) A3) :
  ∃L',NdSet L L' i {nth L i with ec:=c,es:=(nth L i).es.take m}/\HS w0 M (.blk gn nt' (cap*3) (L'.flatMap LNd.vals)::.star (L'.map (Qs et))::A3) w:=by
 refine⟨_,⟨hi,rfl⟩,?_⟩;have e:=Qdf hi (nth L i).ea c ((nth L i).es.take m);rw[List.length_take,Nat.min_eq_left hml]at e;rw[<-e];exact(HS.es_cut hi hm hc hml h0 (h.pick hp) (.there hp3)).perm (List.Perm.swap ..)
theorem HS.cs_setC(hi:i<L.length){m c:Nat}(hm:m<=c)(hc:c<=(nth L i).cc)(hml:m<=(nth L i).cs.length)(h0:m=0->(nth L i).ca=none->c=0)(h:HS w0 M As w)(hp:QE As (.blk gn nt' (cap*3) (Qu (L.flatMap LNd.vals) (i*3+2) [.slice (nth L i).ca m c])) A1)(hp3:QE A1 (.star (L.map (Qs et))) A3) :
  ∃L',NdSet L L' i {nth L i with cc:=c,cs:=(nth L i).cs.take m}/\HS w0 M (.blk gn nt' (cap*3) (L'.flatMap LNd.vals)::.star (L'.map (Qs et))::A3) w:=by
 refine⟨_,⟨hi,rfl⟩,?_⟩;have e:=Qfy hi (nth L i).ca c ((nth L i).cs.take m);rw[List.length_take,Nat.min_eq_left hml]at e;rw[<-e];exact(HS.cs_cut hi hm hc hml h0 (h.pick hp) (.there hp3)).perm (List.Perm.swap ..)
end
theorem Zz{α:Type}{l:List α}{i:Nat}{x:α}(h:i<=l.length):(QT l i x).length=l.length+1:=by grind[QT]
theorem Qju{α:Type}{vals:α->List Value}{sz:Nat}(hv:∀x,(vals x).length=sz)(l:List α)(i:Nat)(x:α):(l.flatMap vals).take (i*sz)++vals x++(l.flatMap vals).drop (i*sz)=(QT l i x).flatMap vals:=by grind[QhR,Qho,QT]
theorem QeG{α:Type}{l:List α}{i:Nat}(h:i<l.length):(QK l i).length=l.length-1:=by grind[QK]
theorem Qjv{α:Type}{vals:α->List Value}{sz:Nat}(hv:∀x,(vals x).length=sz)(l:List α)(i:Nat):(l.flatMap vals).take (i*sz)++(l.flatMap vals).drop ((i+1)*sz)=(QK l i).flatMap vals:=by grind[QhR,Qho,QK]
def Sm(m:Nat)(ns:List Nd):Prop:=∀k,(nth ns k).es.length<=m/\(nth ns k).cs.length<=m
theorem Zb{α:Type}[Inhabited α]{l:List α}{k:Nat}(h:l.length<=k):nth l k=default:=by grind[nth]
theorem Qa2(ns:List Nd)(i k:Nat)(x:Nd):nth (ns.set i x) k=if i=k/\k<ns.length then x else nth ns k:=by
 by_cases hk:k<ns.length
 ·apply Q2
  grind[Xk]
 grind[Zb]
theorem Sm.mono{m m':Nat}{ns:List Nd}(h:Sm m ns)(hm:m<=m'):Sm m' ns:=λk=>⟨Nat.le_trans (h k).1 hm,Nat.le_trans (h k).2 hm⟩
theorem Sm.set{m:Nat}{ns:List Nd}(h:Sm m ns)(i:Nat)(x:Nd)(hx:x.es.length<=m/\x.cs.length<=m):Sm m (ns.set i x):=λk=>by
 rw[Qa2];split
 ·exact hx
 ·exact h k
theorem Sm.es{m:Nat}{ns:List Nd}(h:Sm m ns)(i:Nat){es:List TEnt}(hx:es.length<=m):Sm m (esN ns i es):=h.set i _ ⟨hx,(h i).2⟩
theorem Sm.cs{m:Nat}{ns:List Nd}(h:Sm m ns)(i:Nat){cs:List Int}(hx:cs.length<=m):Sm m (csN ns i cs):=h.set i _ ⟨(h i).1,hx⟩
theorem Sm.us{m:Nat}{ns:List Nd}(h:Sm m ns)(i:Nat)(b:Bool):Sm m (usN ns i b):=h.set i _ (h i)
theorem Sm.app{m:Nat}{ns:List Nd}(h:Sm m ns)(x:Nd)(hx:x.es.length<=m/\x.cs.length<=m):Sm m (ns++[x]):=λk=>by
 rcases Nat.lt_trichotomy k ns.length with hk|hk|hk
 ·rw[show nth (ns++[x]) k=nth ns k from Q2 (by rw[List.getElem?_append_left hk];exact Xk hk)];exact h k
 ·grind[nth,Q2]
 ·rw[Zb (by simp;omega)];exact⟨Nat.zero_le _,Nat.zero_le _⟩
theorem Sm.fre{m:Nat}{ns:List Nd}(h:Sm m ns):Sm m (Q3 ns).2:=by
 unfold Q3;split
 ·exact h.us _ _
 ·exact h.app _ ⟨Nat.zero_le _,Nat.zero_le _⟩
theorem Sm.splA{m:Nat}{ns:List Nd}(h:Sm m ns)(mo:Int)(i:Nat):Sm m (splA mo ns i):=by
 have h1:=h.fre;have e1:=(h1 i).1;have e2:=(h1 i).2;have h2:=(h1.es (Q3 ns).1 (es:=(nth (Q3 ns).2 i).es.drop (QD mo+1)) (by rw[List.length_drop];omega)).es i (es:=(nth (Q3 ns).2 i).es.take (QD mo)) (by rw[List.length_take];omega);unfold Gx.splA;split
 ·exact h2
 ·exact(h2.cs _ (by rw[List.length_drop];omega)).cs _ (by rw[List.length_take];omega)
theorem Qqw{α:Type}(l:List α)(i:Nat)(x:α):(QT l i x).length<=l.length+1:=by grind[QT]
theorem Sm.addP{m:Nat}{ns:List Nd}(h:Sm m ns)(p k:Nat)(up:TEnt)(own:Nat):Sm (m+1) (addP ns p k up own):=by
 have e1:=Qqw (nth ns p).es k up;have e2:=Qqw (nth ns p).cs (k+1) (own:Int);have e3:=(h p).1;have e4:=(h p).2;exact((h.mono (Nat.le_succ m)).es p om).cs p om
theorem Sm.spl{m:Nat}{ns:List Nd}(h:Sm m ns)(mo:Int)(i:Nat):Sm (m+1) (Qb6 mo ns i):=(h.splA mo i).addP _ _ _ _
theorem Qpv(ns:List Nd)(p k:Nat)(up:TEnt)(own:Nat):(addP ns p k up own).length=ns.length:=by
 unfold addP;rw[Qbc,YF]
theorem Qj6(mo:Int)(ns:List Nd)(i:Nat):ns.length<=(Qb6 mo ns i).length/\(Qb6 mo ns i).length<=ns.length+1:=by
 unfold Qb6;rw[Qpv,QkZ];exact QcG ns
theorem Sm.low{m:Nat}{ns:List Nd}(h:Sm m ns)(hm:1<=m):Sm m (Yf ns).2:=by
 unfold Yf;exact(((h.fre.es _ (h 0).1).cs _ (h 0).2).es 0 (Nat.zero_le _)).cs 0 (by simpa using hm)
theorem Qq5(ns:List Nd):ns.length<=(Yf ns).2.length/\(Yf ns).2.length<=ns.length+1:=by grind[Yf,Qbc,YF,QcG]
structure SpOk(mo:Int)(ns:List Nd)(i:Nat):Prop where
 mo0:0<=mo/\mo<=1000
 len:ns.length<=900
 sm:Sm 900 ns
 lt:i<ns.length
 us:(nth ns i).us=true
 es:QD mo<(nth ns i).es.length
 cs:(nth ns i).cs.length=0\/QD mo+1<=(nth ns i).cs.length
 par:(Xz (i:Int) (splA mo ns i) 0).1<(splA mo ns i).length
 parE:(Xz (i:Int) (splA mo ns i) 0).2<=(nth (splA mo ns i) (Xz (i:Int) (splA mo ns i) 0).1).es.length
 parC:(Xz (i:Int) (splA mo ns i) 0).2+1<=(nth (splA mo ns i) (Xz (i:Int) (splA mo ns i) 0).1).cs.length
abbrev LNd.non(n:LNd):LNd:=⟨n.us,none,0,[],none,0,[]⟩
section
variable{w0 w:World}{M:List Nat}{As A1 A2 A3:List HA}{et:Nat}{L:List LNd}{i j gn cap nt':Nat}
theorem HS.star_move(hi:i<L.length)(hj:j<L.length)(hne:i≠j)(us:Bool)(h:HS w0 M As w)(hp:QE As (.star (L.map (Qs et))) A1):HS w0 M (.star (((L.set j {nth L i with us:=us}).set i (nth L i).non).map (Qs et))::A1) w:=by
 have h1:=((h.node_out hi hp).own_nil 3 1).own_nil et 2
 have h2:=h1.perm (As':=_::_::_::Qji et (nth L i)::QnZ (nth L i)::A1) (List.Perm.cons _ (List.Perm.cons _ (List.perm_middle (l₁:=[Qji et (nth L i),QnZ (nth L i)]))));have h3:=HS.node_in hi (nth L i).non h2;have h4:=HS.node_out (L:=L.set i (nth L i).non) (i:=j) (by rw[List.length_set];exact hj) h3 .here;have h5:=h4.tail.tail;have h6:=h5.perm (As':=Qji et (nth L i)::QnZ (nth L i)::_::A1) (List.perm_middle (l₁:=[Qji et (nth L i),QnZ (nth L i)])).symm;have h7:=HS.node_in (L:=L.set i (nth L i).non) (i:=j) (by rw[List.length_set];exact hj) {nth L i with us:=us} h6;rw[List.set_comm _ _ hne]at h7;exact h7
theorem HS.node_move(hi:i<L.length)(hj:j<L.length)(hne:i≠j)(h:HS w0 M As w)
  (hp:QE As (.blk gn nt' (cap*3) (Qu (Qu (L.flatMap LNd.vals) (j*3+1) [.slice (nth L i).ea (nth L i).es.length (nth L i).ec]) (j*3+2) [.slice (nth L i).ca (nth L i).cs.length (nth L i).cc])) A1)(hp3:QE A1 (.star (L.map (Qs et))) A3) :
  ∃L',NdSet L L' j {nth L i with us:=(nth L j).us}/\HS w0 M (.blk gn nt' (cap*3) (L'.flatMap LNd.vals)::.star ((L'.set i (nth L i).non).map (Qs et))::A3) w:=by
 refine⟨_,⟨hj,rfl⟩,?_⟩;have e:=Qfe hj (nth L i).ea (nth L i).ec (nth L i).es (nth L i).ca (nth L i).cc (nth L i).cs;rw[<-e];exact(HS.star_move hi hj hne (nth L j).us (h.pick hp) (.there hp3)).perm (List.Perm.swap ..)
theorem HS.node_low(hi:i<L.length){ca:Option Addr}{cc:Nat}{cs:List Int}(h:HS w0 M As w)
  (hp:QE As (.blk gn nt' (cap*3) (Qu (Qu (L.flatMap LNd.vals) (i*3+1) [.slice none 0 0]) (i*3+2) [.slice ca cs.length cc])) A1)(hp2:QE A1 (.own (.slice ca cs.length cc) 3 1 cs.length (cs.flatMap inV)) A2)(hp3:QE A2 (.star ((L.set i ⟨(nth L i).us,none,0,[],none,0,[]⟩).map (Qs et))) A3) :
  ∃L',NdSet L L' i ⟨(nth L i).us,none,0,[],ca,cc,cs⟩/\HS w0 M (.blk gn nt' (cap*3) (L'.flatMap LNd.vals)::.star (L'.map (Qs et))::A3) w:=by
 refine⟨_,⟨hi,rfl⟩,?_⟩;have e:=Qfe hi none 0 [] ca cc cs;rw[<-e];have h1:=HS.cs_put (L:=L.set i ⟨(nth L i).us,none,0,[],none,0,[]⟩) (i:=i) (by rw[List.length_set];exact hi) (h.pick hp) (.there hp2) (.there hp3);rw[Qay hi,List.set_set]at h1;exact h1.perm (List.Perm.swap ..)
end
theorem QfL{ns:List Nd}{i:Nat}(hi:i<ns.length)(es:List TEnt)(cs:List Int):csN (esN ns i es) i cs=ns.set i ⟨(nth ns i).us,es,cs⟩:=by
 unfold csN;rw[Qms hi,if_pos rfl,esN,List.set_set]
theorem Qr7{ns:List Nd}(h0:0<ns.length)(hu:(nth ns 0).us=true):(Q3 ns).1≠0/\(Q3 ns).1<(Q3 ns).2.length/\nth (Q3 ns).2 0=nth ns 0:=⟨QfV h0 hu,QfP ns,QcV h0 hu⟩
end Gx
namespace Gx
open Go Go.RowKit
def HA.obj(b:Nat)(o:Obj):HA:=⟨[b],λw=>w.heap[b]?=some o,λw w' h hk=>(h b (List.mem_singleton.2 rfl)).trans hk⟩
section
variable{w0 w:World}{M:List Nat}{As As':List HA}
theorem HS.allocObj(h:HS w0 M As w)(o:Obj):HS w0 M (.obj w.heap.size o::As) (w.alloc o):=h.alloc o _ rfl (World.alloc_heap_new w o)
theorem HS.obj_get{b:Nat}{o:Obj}(h:HS w0 M As w)(hp:QE As (.obj b o) As'):w.heap[b]?=some o:=h.ok _ hp.mem
theorem HS.putObj{b:Nat}{o:Obj}(h:HS w0 M As w)(hp:QE As (.obj b o) As')(o':Obj):HS w0 M (.obj b o'::As') (w.putObj b o'):=by
 have h1:=h.pick hp;have hb:w.heap[b]?=some o:=h1.head;have hlt:b<w.heap.size:=(Array.getElem?_eq_some_iff.1 hb).1;refine h1.swap (λ_ hx=>hx) rfl rfl rfl (by simp[World.putObj]) (λc hc=>World.putObj_heap_other (λe=>hc (by subst e;exact List.mem_singleton.2 rfl))) (World.putObj_heap_same hlt)
end
def QiO(P:Program)(l:Nat)(args:Array Value)(w:World)(R:Ending->World->Prop):Prop:=
 ∃f tmps assign body,(Instr.yield l args).run P w=.ok (.round l f tmps assign body) w/\RoundIn Fence.wide 0 P l f tmps assign body w R
section
variable{P:Program}{o:Oper}{L:Qq}
theorem QsW{C:World->Prop}{G:Type}{V:G->Value}{F:G->Prop}{C':G->World->Prop}{x:Operand}{args:Array Operand}{vs:List Value}{ts:Array TypeId}{l:Nat}(ho:o.op=.call {callee:=.value x,args:=args,argTypes:=ts})(hx:ev L x=some (.func (.yield l) #[] #[]))
  (ha:evs L args.toList=some vs)(hy:∀w,C w->QiO P l vs.toArray w λe w'=>∃g,e=.returned (V g)/\F g/\C' g w'):OpH P o L C V F C':=by
 intro ρ w hρ hw;obtain⟨f,tmps,assign,body,hr,hR⟩:=hy w hw;have e1:args.map ρ=vs.toArray:=by rw[<-Qeh hρ ha,<-List.map_toArray]
 unfold execOp;simp only[ho,resolve,Sem.run_bind,hρ _ _ hx,Deferred.ofValue,e1,Sem.run_pure,Result.andThen_ok,invoke,Array.empty_append,hr];exact RoundIn.mono hR λe w'⟨g,he,hf,hc⟩=>⟨V g,he,g,rfl,hf,hc⟩
end
def rdy(fid:FuncId)(tmps:Array Value)(ps:Array Tmp)(assign body:Code)(D:Nat):Loop:={state:=.ready,pending:=none,fn:=fid,tmps:=tmps,params:=ps,assign:=assign,body:=body,defers:=D}
theorem Qmu{P:Program}{fn:Func}{n l D:Nat}{fid:FuncId}{tmps:Array Value}{ps:Array Tmp}{assign body:Code}{args:Array Value}{L0 L1:Qq}{w0 W:World}{M:List Nat}{As As1:List HA}{Rr:Ending->World->Prop}
  (hC:HS w0 M (.obj l (.loop (rdy fid tmps ps assign body D))::As) W)(hps:args.size=ps.size)(hf:FR n [] L0 {tmps:=(ps.zip args).foldl (λt(p,v)=>t.setIfInBounds p v) tmps,defers:=[]})
  (h1:S {P:=P,fn:=fn,n:=n,R:=λ_ _=>False,rd:=some l} [.c assign,.join (At n [] (λ_:Unit=>L1) (λ_=>HS w0 M (.obj l (.loop (rdy fid tmps ps assign body D))::As1)))] L0 (HS w0 M (.obj l (.loop (rdy fid tmps ps assign body D))::As)))
  (h2:S {P:=P,fn:=fn,n:=n,R:=Rr,rd:=some l} [.c body] L1 (HS w0 M (.obj l (.loop {rdy fid tmps ps assign body D with state:=.busy})::As1))):QiO P l args W Rr:=by
 refine⟨fid,_,assign,body,run_yield (hC.obj_get .here) hps,roundIn_of_wpIn trivial ?_⟩;refine wpIn_mono (h1 _ W hf hC) λe a w he=>?_;cases e with
 | normal=>
  obtain⟨_,hfr,hc⟩:=he;exact⟨_,run_beginRound (hc.obj_get .here) rfl,h2 _ _ hfr (hc.putObj .here _)⟩
 | ret=>obtain⟨v,w',_,hx⟩:=he;exact hx
 | exit id=>obtain⟨v,w',_,hx⟩:=he;exact hx
 | goto t=>obtain⟨v,w',_,hx⟩:=he;exact hx
 | panic ch=>exact he
 | outgrown=>exact he
section
variable{X:Ctx}{k:List KI}{L:Qq}{w0:World}{M:List Nat}{As As':List HA}
theorem Qj5{C:World->Prop}{l:Nat}(hrd:X.rd=some l)(h:∀w,C w->∃r,w.heap[l]?=some (.loop r)/\X.R (.returned (.bool true)) (w.putObj l (.loop {r with state:=.ready,pending:=none}))):S X [] L C:=by
 intro a w ha hw;show(match X.rd with|none=>bodyPostM X.F 0 X.P X.fn X.R .normal a w|some l=>roundPost X.P l X.R .normal a w);rw[hrd];obtain⟨r,h1,h2⟩:=h w hw;exact⟨_,_,run_endRound none h1,h2⟩
theorem QeA{l D:Nat}{fid:FuncId}{tmps:Array Value}{ps:Array Tmp}{assign body:Code}(hrd:X.rd=some l)(hp:QE As (.obj l (.loop {rdy fid tmps ps assign body D with state:=.busy})) As')(h:∀w,HS w0 M (.obj l (.loop (rdy fid tmps ps assign body D))::As') w->X.R (.returned (.bool true)) w):S X [] L (HS w0 M As):=
 Qj5 hrd λw hw=>⟨_,hw.obj_get hp,h _ (hw.putObj hp _)⟩
theorem QfX(d:List Nat):∀k,post {X with df:=d} k=post X k
 | []=>by funext e a w;rfl
 | Sum.inl c::k=>by funext e a w;cases e<;>simp only[post,QfX d k]
 | Sum.inr (Sum.inl id)::k=>by funext e a w;cases e<;>simp only[post,QfX d k]
 | Sum.inr (Sum.inr J)::k=>by funext e a w;cases e<;>simp only[post,QfX d k]
theorem QmA{g:Operand}{ps:Array Tmp}{assign body:Code}{gf:FuncId}{lb:Array Value}{G:Type}{Bs:G->List HA}(hrd:X.rd=none)(hdf:X.df=[])(hg:ev L g=some (.func (.func gf) #[] lb))(hfn:QY X.P gf=true)
  (hit:∀(fid:FuncId)(D l:Nat)(a:Act)(w1:World)(ob:Obj),ob=.loop (rdy fid a.tmps ps assign body D)->FR X.n [] L a->HS w0 M (.obj l ob::.obj D (.deferred (some []))::As) w1 ->
   Calls X.P gf (#[.func (.yield l) #[] #[]]++lb) w1 λe w2=>(∃v,e=.returned v)/\∃x,HS w0 M (.obj l ob::.obj D (.deferred (some []))::Bs x) w2)
  (next:∀D x,S {X with df:=[D]} k L (HS w0 M (.obj D (.deferred (some []))::Bs x))):S X (.c (.rangeFunc g ps assign body)::k) L (HS w0 M As):=by
 intro a w ha hw;have ha0:FR X.n [] L a:=by rw[<-hdf];exact ha
 refine wpIn_rangeFunc (F:=X.F) (n:=0) λfid _=>?_;have hro:X.F.round=none:=hrd;rw[hro];have hw1:=(hw.allocObj (.deferred (some []))).allocObj (.loop (rdy fid a.tmps ps assign body w.heap.size));rw[World.size_alloc]at hw1;have hen:=run_enterLoop_outer (P:=X.P) (w:=w) fid a.tmps ps assign body;obtain⟨W1,hW1⟩:∃W1,(w.alloc (.deferred (some []))).alloc (.loop (rdy fid a.tmps ps assign body w.heap.size))=W1:=⟨_,rfl⟩;rw[hW1]at hw1;rw[show(Loop.mk .ready none fid a.tmps ps assign body w.heap.size)=rdy fid a.tmps ps assign body w.heap.size from rfl,hW1]at hen
 refine⟨w.heap.size+1,[{target:=.collected w.heap.size,args:=#[]}],W1,{target:=.fn (.func gf) lb,args:=#[.func (.yield (w.heap.size+1)) #[] #[]]},W1,gf,
  #[.func (.yield (w.heap.size+1)) #[] #[]]++lb,W1,hen,?_,λ_ _=>trivial,?_,λh=>(by cases h),?_⟩
 ·simp only[resolve,ha.evl hg];simp[go_sem]
 ·simp[invoke,go_sem,Qep hfn]
 ·refine CallsIn.mono (X.callsIn (hit fid _ _ a _ _ rfl ha0 hw1)) λe w2 he=>?_;obtain⟨⟨v,rfl⟩,x,hx⟩:=he;refine⟨none,_,run_endLoop (hx.obj_get .here) (by simp[rdy]),?_⟩;have h3:=next w.heap.size x {a with defers:=[{target:=.collected w.heap.size,args:=#[]}]++a.defers} _ ⟨by show _++a.defers=_;rw[ha0.defers];rfl,ha0.size,ha0.slot⟩ (hx.putObj .here (.loop {rdy fid a.tmps ps assign body w.heap.size with state:=.exhausted})).tail
  rw[QfX]at h3;exact h3
end
end Gx
namespace Gx
open Go Go.RowKit
theorem ZC{X:Ctx}{k:List KI}{L:Qq}{C:World->Prop}{α:Type}{c:Code}(md:List Nat)(Lm:α->Qq)(I:α->Prop)(h1:S X (.c c::.join (AtI X.n X.df (λx=>Lm x++QdP md L) (λ_=>C) I)::k) L C)(h2:∀x,I x->S X k (Lm x++QdP md L) C):S X (.c c::k) L C:=
 XY md Lm (λ_=>C) I h1 h2
end Gx
namespace Gx
open Go Go.RowKit
theorem FR.round2{n:Nat}{L:Qq}{a:Act}(h:FR n [] L a)(d d':Nat)(v v':Value)(hd:Nat.blt d n=true)(hd':Nat.blt d' n=true):FR n [] ((d',v')::(d,v)::L) {tmps:=((#[d,d']:Array Tmp).zip #[v,v']).foldl (λt(p,v)=>t.setIfInBounds p v) a.tmps,defers:=[]}:=by
 have h1:=(h.put d v hd).put d' v' hd';have e:((#[d,d']:Array Tmp).zip #[v,v']).foldl (λt(p,v)=>t.setIfInBounds p v) a.tmps=(a.tmps.setIfInBounds d v).setIfInBounds d' v':=by simp
 rw[e];exact⟨rfl,h1.size,h1.slot⟩
def HA.pure(p:Prop):HA:=⟨[],λ_=>p,λ_ _ _ h=>h⟩
section
variable{w0 w:World}{M:List Nat}{As As':List HA}{p:Prop}
theorem HS.add_pure(hp:p)(h:HS w0 M As w):HS w0 M (.pure p::As) w:=
 ⟨h.os,h.tape,h.output,h.size,h.old,λA hA=>by
  rcases List.mem_cons.1 hA with rfl|hA
  ·exact hp
  ·exact h.ok A hA,λA hA b hb=>by
  rcases List.mem_cons.1 hA with rfl|hA
  ·cases hb
  ·exact h.lt A hA b hb,List.pairwise_cons.2 ⟨λA _ b hb=>(nomatch hb),h.sep⟩⟩
theorem HS.get_pure(h:HS w0 M As w)(hp:QE As (.pure p) As'):p:=(h.pick hp).head
theorem HS.rw_ownF{α:Type}[Inhabited α]{vals:α->List Value}{sz:Nat}(hv:∀x,(vals x).length=sz){Cs Ds Es:List HA}{a:Option Addr}{cap n t:Nat}{l:List α}(h:HS w0 M As w)(hp:Qbg As Cs Ds)(hp2:QE Ds (.own (.slice a n cap) t sz n (l.flatMap vals)) Es)(hn:n=l.length):Rw vals sz w (fps Cs) a l:=by
 subst hn;refine⟨λhn=>?_⟩;have h1:HS w0 M (.own (.slice a l.length cap) t sz l.length (l.flatMap vals)::(Cs++Es)) w:=h.perm (hp.trans ((hp2.perm.append_left Cs).trans List.perm_middle));obtain⟨g,cap',e,_,_,_,h2⟩:=h1.own_open' hn;injection e with e1 e2 e3
 subst e1;have h3:HS w0 M (Cs++.blk g t (cap'*sz) (l.flatMap vals)::Es) w:=h2.perm List.perm_middle.symm;refine⟨g,0,rfl,λi hi=>⟨hv _,λj v hjv=>?_⟩⟩;have hj:j<sz:=by grind
 have:=HS.rd_blkF (i:=i*sz+j) h3 (.refl _) .here (v:=v) (by rw[Qc8 hv l i j _ (Xk hi) hj];exact hjv)
 grind
theorem Qif{X:Ctx}{L:Qq}{D:Nat}(hr:X.fn.results= #[])(hp:QE As (.obj D (.deferred (some []))) As')(h:∀w,HS w0 M As' w->X.R (.returned (.tuple #[])) w)(hrd:X.rd=none:=by rfl)(hdf:X.df=[D]:=by rfl):S X [] L (HS w0 M As):=by
 intro a w ha hw;show(match X.rd with|none=>bodyPostM X.F 0 X.P X.fn X.R .normal a w|some l=>roundPost X.P l X.R .normal a w);rw[hrd];show LeavesInM X.F 0 X.P X.fn a.tmps X.R a.defers .returning w;rw[ha.defers,hdf];have h1:=(hw.putObj hp (.deferred none)).tail;exact⟨by simp,.inl ⟨D,_,rfl,run_takeDeferred (hw.obj_get hp),.tuple #[],results_none hr _ _ _,h _ h1⟩⟩
end
end Gx
namespace Gx
open Go Go.RowKit
abbrev iN(P:List Nat):List Int:=P.map λi:Nat=>(i:Int)
theorem QvS{P:List Nat}{k:Nat}(h:k<P.length):(iN P).getD k 0=((nth P k:Nat):Int):=by
 rw[Zh (d:=0) h];rfl
theorem Qk8{P:List Nat}{k:Nat}(h:k<P.length):nth (iN P) k=((nth P k:Nat):Int):=QvS h
theorem Qan(P:List Nat):(iN P).length=P.length:=by simp
def QcX(mo:Int):List Nd->List Nat->Prop
 | _,[]=>True
 | ns,i::P=>(i<ns.length/\(0<i->mo<((nth ns i).es.length:Int)->SpOk mo ns i))/\QcX mo (QbZ mo ns i) P
structure RootOk(mo rm:Int)(ns:List Nd):Prop where
 lt:0<ns.length
 len:ns.length<=900
 us:(nth ns 0).us=true
 spl:rm<((nth ns 0).es.length:Int)->mo<((nth (Yf ns).2 (Yf ns).1).es.length:Int)->SpOk mo (Yf ns).2 (Yf ns).1
theorem Qs6(ns:List Nd):(Yf ns).1<(Yf ns).2.length:=Nat.lt_of_lt_of_le (QfP ns) (by unfold Yf;simp only[Qbc,YF];exact Nat.le_refl _)
theorem Qny{P:List Nat}{k:Nat}(h:k<P.length):P.reverse[k]?=some (nth P (P.length-1-k)):=by grind[Xk]
theorem Qkj{P:List Nat}{k:Nat}(h:k<P.length):P.reverse.drop k=nth P (P.length-1-k)::P.reverse.drop (k+1):=by
 have h1:k<P.reverse.length:=by rw[List.length_reverse];exact h
 rw[List.drop_eq_getElem_cons h1];congr 1;have:=Qny h
 grind
theorem Qki{P:List Nat}{k:Nat}(h:k<P.length):P.reverse.take (k+1)=P.reverse.take k++[nth P (P.length-1-k)]:=by
 rw[List.take_add_one,Qny h];rfl
theorem Qov(mo:Int)(ns:List Nd)(P:List Nat)(i:Nat):Yq mo ns (P++[i])=QbZ mo (Yq mo ns P) i:=by grind[Yq]
def Zv(co:Int)(ns:List Nd)(key:List UInt8):Nat:=nth (Qj co ns key).1 ((Qj co ns key).1.length-1)
def Qic(co:Int)(ns:List Nd)(x:TEnt):List Nd:=esN ns (Zv co ns x.key) (QT (nth ns (Zv co ns x.key)).es (Qj co ns x.key).2.1 x)
def QaQ(co mo rm:Int)(ns:List Nd)(x:TEnt):List Nd:=if(Qj co ns x.key).2.2=true then ns else QgI mo rm (Qic co ns x) (Qj co ns x.key).1.reverse
def QdU(co mo rm:Int)(ns:List Nd)(x:TEnt):Int:=if(Qj co ns x.key).2.2=true then 5 else if(QaQ co mo rm ns x).length<=120 then 0 else 16
structure InsOk(co mo rm:Int)(ns:List Nd)(x:TEnt):Prop where
 ne:0<(Qj co ns x.key).1.length
 len:(Qj co ns x.key).1.length<=900
 lf:Zv co ns x.key<ns.length
 es:(nth ns (Zv co ns x.key)).es.length<=900
 pl:(Qj co ns x.key).2.1<=(nth ns (Zv co ns x.key)).es.length
 grw:QcX mo (Qic co ns x) (Qj co ns x.key).1.reverse
 root:RootOk mo rm (Yq mo (Qic co ns x) (Qj co ns x.key).1.reverse)
section
variable{w0 w:World}{M:List Nat}{As As':List HA}{a:Option Addr}{cap:Nat}{P:List Nat}
theorem HS.kids_some{l:List Int}(hn:0<l.length)(h:HS w0 M As w)(hp:QE As (.kids a cap l) As'):∃g,a=some ⟨g,0,none⟩:=by
 obtain⟨g,e,_⟩:=HS.own_blk hn hp h;exact⟨g,e⟩
theorem HS.path_rd{k g:Nat}(hk:k<P.length)(hg:a=some ⟨g,0,none⟩)(h:HS w0 M As w)(hp:QE As (.kids a cap (iN P)) As'):Rd w [] g (0+k*1) (.int .i64 ((nth P k:Nat):Int)):=by
 have h1:=Rw.rd (h.rw_own (vals:=inV) (l:=iN P) iv1 hp rfl) (i:=k) (by rw[Qan];exact hk) 0 (.int .i64 ((nth P k:Nat):Int)) (by rw[Qk8 hk];rfl);rw[hg]at h1;exact h1
end
theorem Qaw{co:Int}{ns:List Nd}(h:TOk co ns):∀i,i<ns.length->∀x∈(nth ns i).es,QW co x.key=true/\x.key.length<=1000000:=λi hi x hx=>by
 have h1:=QaV (h.ents i hi x hx)
 grind[Qff]
theorem Qk1{L:List LNd}{i:Nat}(hi:i<L.length):L.set i (nth L i)=L:=by
 apply List.ext_getElem?
 grind[Xk,hi]
section
variable{w0 w:World}{M:List Nat}{As A1 A2 A3:List HA}{et:Nat}{L:List LNd}{i t gn cap nt':Nat}{y:LNd}
theorem HS.es_rdB{k g:Nat}(hi:i<L.length)(hne:t≠i)(hk:k<(nth L i).es.length)(hg:(nth L i).ea=some ⟨g,0,none⟩)(h:HS w0 M As w)(hp:QE As (.star ((L.set t y).map (Qs et))) A1):∀j v,(TEnt.vals (nth (nth L i).es k))[j]?=some v->Rd w [] g (0+k*2+j) v:=by
 have e:=Qbo (L:=L) hi hne y;have h1:=HS.es_rd (L:=L.set t y) (i:=i) (k:=k) (g:=g) (by rw[List.length_set];exact hi) (by rw[e];exact hk) (by rw[e];exact hg) h hp
 grind
theorem HS.cs_rdB{k g:Nat}(hi:i<L.length)(hne:t≠i)(hk:k<(nth L i).cs.length)(hg:(nth L i).ca=some ⟨g,0,none⟩)(h:HS w0 M As w)(hp:QE As (.star ((L.set t y).map (Qs et))) A1):Rd w [] g (0+k*1) (.int .i64 ((nth L i).cs.getD k 0)):=by
 have e:=Qbo (L:=L) hi hne y
 grind[HS.cs_rd,hi]
theorem HS.es_open{g:Nat}(hi:i<L.length)(hn:0<(nth L i).es.length)(hg:(nth L i).ea=some ⟨g,0,none⟩)(h:HS w0 M As w)(hp:QE As (.star (L.map (Qs et))) A1):HS w0 M (.blk g et ((nth L i).ec*2) ((nth L i).es.flatMap TEnt.vals)::.star ((L.set i (nth L i).noE).map (Qs et))::A1) w:=by
 obtain⟨g',e,_,_,_,_,h1⟩:=HS.own_blk hn .here (HS.es_take hi h hp)
 grind
theorem Qry{es:List TEnt}{k:Nat}(hk:k<es.length)(x:TEnt):Qu (es.flatMap TEnt.vals) (k*2) (TEnt.vals x)=(es.set k x).flatMap TEnt.vals:=by
 have h:=QaL ev2 es k 0 (TEnt.vals x) (nth es k) x (Xk hk) rfl (by simp[TEnt.vals])
 grind
theorem HS.es_upd{g k:Nat}{x:TEnt}(hi:i<L.length)(hk:k<(nth L i).es.length)(hg:(nth L i).ea=some ⟨g,0,none⟩)(h:HS w0 M As w)
  (hp:QE As (.blk g et ((nth L i).ec*2) (Qu ((nth L i).es.flatMap TEnt.vals) (k*2) (TEnt.vals x))) A1)(hp2:QE A1 (.star ((L.set i (nth L i).noE).map (Qs et))) A2)(hp3:QE A2 (.blk gn nt' (cap*3) (L.flatMap LNd.vals)) A3)(hc:(nth L i).es.length<=(nth L i).ec/\(nth L i).ec<=maxLen) :
  ∃L',NdSet L L' i {nth L i with es:=(nth L i).es.set k x}/\HS w0 M (.blk gn nt' (cap*3) (L'.flatMap LNd.vals)::.star (L'.map (Qs et))::A3) w:=by
 refine⟨_,⟨hi,rfl⟩,?_⟩;have h1:=h.pick hp;rw[Qry hk]at h1;have e1:((nth L i).es.set k x).length=(nth L i).es.length:=List.length_set;have h2:=HS.own_shut (n:=((nth L i).es.set k x).length) h1 (Qi ev2 _) (by rw[e1];exact hc.1) hc.2;have h3:=HS.es_back hi (es:=(nth L i).es.set k x) h2 .here hp2;have h4:=h3.pick (.there hp3)
 have e:(L.set i {nth L i with es:=(nth L i).es.set k x}).flatMap LNd.vals=L.flatMap LNd.vals:=by
  have e2:=Qdf hi (nth L i).ea (nth L i).ec ((nth L i).es.set k x);rw[e1]at e2;have e3:=Qdf hi (nth L i).ea (nth L i).ec (nth L i).es;have e4:L.set i {nth L i with ea:=(nth L i).ea,ec:=(nth L i).ec,es:=(nth L i).es}=L:=Qk1 hi;rw[e4]at e3;rw[<-e2,e3]
 rw[e]
 have e5:({nth L i with ea:=some ⟨g,0,none⟩,ec:=(nth L i).ec,es:=(nth L i).es.set k x}:LNd)={nth L i with es:=(nth L i).es.set k x}:=by
  show LNd.mk _ _ _ _ _ _ _=LNd.mk _ _ _ _ _ _ _;rw[<-hg]
 rw[e5]at h4;exact h4
end
section
variable{w0 w:World}{M:List Nat}{As A1 A2 A3:List HA}{et:Nat}{L:List LNd}{i gn cap nt':Nat}
theorem HS.es_setA(hi:i<L.length){ea:Option Addr}{ec:Nat}{x:TEnt}(h:HS w0 M As w)(hp:QE As (.blk gn nt' (cap*3) (Qu (L.flatMap LNd.vals) (i*3+1) [.slice ea ((nth L i).es.length+1) ec])) A1)(hp2:QE A1 (.own (.slice ea ((nth L i).es.length+1) ec) et 2 ((nth L i).es.length+1) ((nth L i).es.flatMap TEnt.vals++TEnt.vals x)) A2)(hp3:QE A2 (.star ((L.set i (nth L i).noE).map (Qs et))) A3) :
  ∃L',NdSet L L' i {nth L i with ea:=ea,ec:=ec,es:=(nth L i).es++[x]}/\HS w0 M (.blk gn nt' (cap*3) (L'.flatMap LNd.vals)::.star (L'.map (Qs et))::A3) w:=by
 have e1:((nth L i).es++[x]).length=(nth L i).es.length+1:=by simp
 have e2:((nth L i).es++[x]).flatMap TEnt.vals=(nth L i).es.flatMap TEnt.vals++TEnt.vals x:=by simp
 have h1:=h.pick hp;have h2:=h1.perm (List.Perm.cons _ hp2.perm);rw[<-e1,<-e2]at h2;exact HS.es_setB hi (es:=(nth L i).es++[x]) h2 .here .here hp3
theorem HS.cs_setA(hi:i<L.length){ca:Option Addr}{cc:Nat}{x:Int}(h:HS w0 M As w)(hp:QE As (.blk gn nt' (cap*3) (Qu (L.flatMap LNd.vals) (i*3+2) [.slice ca ((nth L i).cs.length+1) cc])) A1)(hp2:QE A1 (.own (.slice ca ((nth L i).cs.length+1) cc) 3 1 ((nth L i).cs.length+1) ((nth L i).cs.flatMap inV++inV x)) A2)(hp3:QE A2 (.star ((L.set i (nth L i).noC).map (Qs et))) A3) :
  ∃L',NdSet L L' i {nth L i with ca:=ca,cc:=cc,cs:=(nth L i).cs++[x]}/\HS w0 M (.blk gn nt' (cap*3) (L'.flatMap LNd.vals)::.star (L'.map (Qs et))::A3) w:=by
 have e1:((nth L i).cs++[x]).length=(nth L i).cs.length+1:=by simp
 have e2:((nth L i).cs++[x]).flatMap inV=(nth L i).cs.flatMap inV++inV x:=by simp
 grind[HS.cs_setB,hi,nth]
end
def QjR(ns:List Nd)(p k f t:Nat):List Nd:=
 let P:=nth ns p;let F:=nth ns f;let T:=nth ns t
 let n:=esN (esN (esN ns t (QT T.es 0 (nth P.es k))) p (P.es.set k (nth F.es (F.es.length-1)))) f (F.es.take (F.es.length-1))
 if F.cs.length=0 then n else csN (csN n t (QT T.cs 0 (F.cs.getD (F.cs.length-1) 0))) f (F.cs.take (F.cs.length-1))
def Qg2(ns:List Nd)(p k f t:Nat):List Nd:=
 let P:=nth ns p;let F:=nth ns f;let T:=nth ns t
 let n:=esN (esN (esN ns t (T.es++[nth P.es k])) p (P.es.set k (nth F.es 0))) f (QK F.es 0)
 if F.cs.length=0 then n else csN (csN n t (T.cs++[F.cs.getD 0 0])) f (QK F.cs 0)
theorem Qps{ns:List Nd}{p k f t:Nat}{P F T:Nd}(hP:nth ns p=P)(hF:nth ns f=F)(hT:nth ns t=T)(h:F.cs.length=0):QjR ns p k f t=esN (esN (esN ns t (QT T.es 0 (nth P.es k))) p (P.es.set k (nth F.es (F.es.length-1)))) f (F.es.take (F.es.length-1)):=by
 subst hP hF hT;exact if_pos h
theorem Qrs{ns:List Nd}{p k f t:Nat}{P F T:Nd}(hP:nth ns p=P)(hF:nth ns f=F)(hT:nth ns t=T)(h:0<F.cs.length):QjR ns p k f t=csN (csN (esN (esN (esN ns t (QT T.es 0 (nth P.es k))) p (P.es.set k (nth F.es (F.es.length-1)))) f (F.es.take (F.es.length-1))) t (QT T.cs 0 (F.cs.getD (F.cs.length-1) 0))) f (F.cs.take (F.cs.length-1)):=by
 subst hP hF hT;exact if_neg om
theorem QqM{ns:List Nd}{p k f t:Nat}{P F T:Nd}(hP:nth ns p=P)(hF:nth ns f=F)(hT:nth ns t=T)(h:F.cs.length=0):Qg2 ns p k f t=esN (esN (esN ns t (T.es++[nth P.es k])) p (P.es.set k (nth F.es 0))) f (QK F.es 0):=by
 subst hP hF hT;exact if_pos h
theorem Qpo{ns:List Nd}{p k f t:Nat}{P F T:Nd}(hP:nth ns p=P)(hF:nth ns f=F)(hT:nth ns t=T)(h:0<F.cs.length):Qg2 ns p k f t=csN (csN (esN (esN (esN ns t (T.es++[nth P.es k])) p (P.es.set k (nth F.es 0))) f (QK F.es 0)) t (T.cs++[F.cs.getD 0 0])) f (QK F.cs 0):=by
 subst hP hF hT;exact if_neg om
structure GivOk(ns:List Nd)(p k f t:Nat):Prop where
 pl:p<ns.length
 fl:f<ns.length
 tl:t<ns.length
 pf:p≠f
 pt:p≠t
 ft:f≠t
 ke:k<(nth ns p).es.length
 kc:k+1<(nth ns p).cs.length
 fe:0<(nth ns f).es.length
 len:ns.length<=900
 sm:Sm 900 ns
abbrev LNd.gone:LNd:=⟨false,none,0,[],none,0,[]⟩
theorem Qdu{l:List LNd}{k:Nat}(hk:k<l.length)(x:LNd):Qu (l.flatMap LNd.vals) (k*3) (LNd.vals x)=(l.set k x).flatMap LNd.vals:=by
 have h:=QaL nv3 l k 0 (LNd.vals x) (nth l k) x (Xk hk) rfl (by simp[LNd.vals])
 grind
section
variable{w0 w:World}{M:List Nat}{As A1 A2 A3:List HA}{et:Nat}{L:List LNd}{i j gn cap nt':Nat}
theorem HS.star_gone(hi:i<L.length)(h:HS w0 M As w)(hp:QE As (.star (L.map (Qs et))) A1):HS w0 M (.star ((L.set i LNd.gone).map (Qs et))::A1) w:=by
 have h1:=((h.node_out hi hp).tail.tail.own_nil 3 1).own_nil et 2;exact HS.node_in hi LNd.gone h1
theorem HS.node_gone(hi:i<L.length)(h:HS w0 M As w)
  (hp:QE As (.blk gn nt' (cap*3) (Qu (L.flatMap LNd.vals) (i*3) [.bool false,.slice none 0 0,.slice none 0 0])) A1)(hp3:QE A1 (.star (L.map (Qs et))) A3) :
  ∃L',NdSet L L' i LNd.gone/\HS w0 M (.blk gn nt' (cap*3) (L'.flatMap LNd.vals)::.star (L'.map (Qs et))::A3) w:=by
 refine⟨_,⟨hi,rfl⟩,?_⟩;rw[<-Qdu hi];exact(HS.star_gone hi (h.pick hp) (.there hp3)).perm (List.Perm.swap ..)
end
def QgL(ns:List Nd)(p k t f:Nat):List Nd:=
 (csN (esN (csN (esN ns t ((nth ns t).es++nth (nth ns p).es k::(nth ns f).es)) t ((nth ns t).cs++(nth ns f).cs)) p (QK (nth ns p).es k)) p (QK (nth ns p).cs (k+1))).set f ⟨false,[],[]⟩
structure MrgOk(ns:List Nd)(p k f t:Nat):Prop where
 pl:p<ns.length
 fl:f<ns.length
 tl:t<ns.length
 pf:p≠f
 pt:p≠t
 ft:f≠t
 ke:k<(nth ns p).es.length
 kc:k+1<(nth ns p).cs.length
 len:ns.length<=900
 sm:Sm 900 ns
theorem cat3{α:Type}(a b c:RowV α):[a,b,c].flatMap RowV.l=a.l++(b.l++c.l):=by simp
theorem cat2{α:Type}(a b:RowV α):[a,b].flatMap RowV.l=a.l++b.l:=by simp
def kdN(ns:List Nd)(p k:Nat):Nat:=((nth ns p).cs.getD k 0).toNat
def Y0(mo:Int)(ns:List Nd)(p:Nat)(x:Int):Bool:=(decide (0<=x)&&decide (x<=((nth ns p).cs.length:Int)-1))&&decide (mo/2<((nth ns (kdN ns p x.toNat)).es.length:Int))
def Y3(mo:Int)(ns:List Nd)(p k:Nat):List Nd:=
 if Y0 mo ns p ((k:Int)-1)=true then QjR ns p (k-1) (kdN ns p (k-1)) (kdN ns p k)
 else if Y0 mo ns p ((k:Int)+1)=true then Qg2 ns p k (kdN ns p (k+1)) (kdN ns p k)
 else if 0<k then QgL ns p (k-1) (kdN ns p (k-1)) (kdN ns p k)
 else if 1<(nth ns p).cs.length then QgL ns p k (kdN ns p k) (kdN ns p (k+1))
 else ns
def filN(mo:Int)(ns:List Nd)(i:Nat):List Nd:=Y3 mo ns (Xz (i:Int) ns 0).1 (Xz (i:Int) ns 0).2
structure FilOk(mo:Int)(ns:List Nd)(p k:Nat):Prop where
 mo0:0<=mo/\mo<=1000
 pl:p<ns.length
 kl:k<(nth ns p).cs.length
 sh:(nth ns p).cs.length=(nth ns p).es.length+1
 kid:∀x,x<(nth ns p).cs.length->0<=(nth ns p).cs.getD x 0/\kdN ns p x<ns.length/\p≠kdN ns p x
 dis:∀x y,x<(nth ns p).cs.length->y<(nth ns p).cs.length->x≠y->kdN ns p x≠kdN ns p y
 len:ns.length<=900
 sm:Sm 900 ns
section
variable{mo:Int}{ns:List Nd}{p k:Nat}
theorem FilOk.kd(h:FilOk mo ns p k){x:Nat}(hx:x<(nth ns p).cs.length):(nth ns p).cs.getD x 0=(kdN ns p x:Int):=(Int.toNat_of_nonneg (h.kid x hx).1).symm
theorem FilOk.giv(h:FilOk mo ns p k){e x y:Nat}(hx:x<(nth ns p).cs.length)(hy:y<(nth ns p).cs.length)(hxy:x≠y)(he:e+1<(nth ns p).cs.length)(hf:0<(nth ns (kdN ns p x)).es.length):GivOk ns p e (kdN ns p x) (kdN ns p y):=
 ⟨h.pl,(h.kid x hx).2.1,(h.kid y hy).2.1,(h.kid x hx).2.2,(h.kid y hy).2.2,h.dis x y hx hy hxy,by have:=h.sh;omega,he,hf,h.len,h.sm⟩
theorem FilOk.mrg(h:FilOk mo ns p k){e x y:Nat}(hx:x<(nth ns p).cs.length)(hy:y<(nth ns p).cs.length)(hxy:x≠y)(he:e+1<(nth ns p).cs.length):MrgOk ns p e (kdN ns p x) (kdN ns p y):=
 ⟨h.pl,(h.kid x hx).2.1,(h.kid y hy).2.1,(h.kid x hx).2.2,(h.kid y hy).2.2,h.dis x y hx hy hxy,by have:=h.sh;omega,he,h.len,h.sm⟩
theorem Qm7{x:Int}(h:Y0 mo ns p x=true):0<=x/\x<=((nth ns p).cs.length:Int)-1/\mo/2<((nth ns (kdN ns p x.toNat)).es.length:Int):=by grind[Y0]
theorem Qlj{P:Nd}{x:Int}(hP:nth ns p=P)(h:0<=x/\x<=(P.cs.length:Int)-1):Y0 mo ns p x=decide (mo/2<((nth ns (kdN ns p x.toNat)).es.length:Int)):=by grind[Y0]
theorem QlA{P:Nd}{x:Int}(hP:nth ns p=P)(h:(decide (0<=x)&&decide (x<=(P.cs.length:Int)-1))=false):Y0 mo ns p x=false:=by grind[Y0]
end
def tln(ns:List Nd):Nat->Nat
 | 0=>0
 | n+1=>if(nth ns n).us=true then n+1 else tln ns n
def QdS(ns:List Nd):List Nd:=ns.take (tln ns ns.length)
theorem QqS{ns:List Nd}{m:Nat}(h0:0<m)(h:(nth ns (m-1)).us=true):tln ns m=m:=by
 obtain⟨n,rfl⟩:∃n,m=n+1:=⟨m-1,om⟩;exact if_pos h
theorem QrM{ns:List Nd}{m:Nat}(h0:0<m)(h:¬(nth ns (m-1)).us=true):tln ns m=tln ns (m-1):=by
 obtain⟨n,rfl⟩:∃n,m=n+1:=⟨m-1,om⟩;exact if_neg h
theorem Qo4(ns:List Nd):∀m,tln ns m<=m
 | 0=>Nat.le_refl _
 | m+1=>by
  rw[tln];split
  ·grind
  ·exact Nat.le_succ_of_le (Qo4 ns m)
section
variable{w0 w:World}{M:List Nat}{As As':List HA}{et:Nat}{L:List LNd}
theorem HS.drop_all:∀(Bs:List HA),HS w0 M (Bs++As) w->HS w0 M As w
 | [],h=>h
 | B::Bs,h=>HS.drop_all Bs h.tail
theorem HS.star_take(m:Nat)(h:HS w0 M As w)(hp:QE As (.star (L.map (Qs et))) As'):HS w0 M (.star ((L.take m).map (Qs et))::As') w:=by
 have h1:=h.pick hp;rw[<-List.take_append_drop m L,List.map_append]at h1;have h2:=h1.star_open;rw[List.append_assoc]at h2;have h3:=h2.perm (As':=(L.drop m).map (Qs et)++((L.take m).map (Qs et)++As')) (by rw[<-List.append_assoc,<-List.append_assoc];exact List.perm_append_comm.append_right _)
 grind[HS.star_close,HS.drop_all]
end
theorem QoE{L:List LNd}{m:Nat}:L.flatMap LNd.vals=(L.take m).flatMap LNd.vals++(L.drop m).flatMap LNd.vals:=by
 rw[<-List.flatMap_append,List.take_append_drop]
def Qib(ns:List Nd):Nat->Nat->List Nat
 | 0,i=>[i]
 | f+1,i=>if(nth ns i).cs.length=0 then[i]else i::Qib ns f (kdN ns i ((nth ns i).cs.length-1))
def Qjz(ns:List Nd):Nat->Nat->Prop
 | 0,_=>False
 | f+1,i=>i<ns.length/\((nth ns i).cs.length=0\/(0<=(nth ns i).cs.getD ((nth ns i).cs.length-1) 0/\Qjz ns f (kdN ns i ((nth ns i).cs.length-1))))
def QO(P:List Nat):Nat:=nth P (P.length-1)
def QZ(ns:List Nd)(P:List Nat)(at':Nat):List Nat:=if(nth ns (QO P)).cs.length=0 then P else P++Qib ns ns.length (kdN ns (QO P) at')
def Qg0(ns:List Nd)(P:List Nat)(at':Nat):Nat:=if(nth ns (QO P)).cs.length=0 then at' else(nth ns (QO (QZ ns P at'))).es.length-1
def QgT(ns:List Nd)(P:List Nat)(at':Nat):List Nd:=if(nth ns (QO P)).cs.length=0 then ns else esN ns (QO P) ((nth ns (QO P)).es.set at' (nth (nth ns (QO (QZ ns P at'))).es ((nth ns (QO (QZ ns P at'))).es.length-1)))
def QbT(ns:List Nd)(P:List Nat)(at':Nat):List Nd:=esN (QgT ns P at') (QO (QZ ns P at')) (QK (nth (QgT ns P at') (QO (QZ ns P at'))).es (Qg0 ns P at'))
def QdH(mo:Int)(ns:List Nd)(i:Nat):List Nd:=if 0<i/\((nth ns i).es.length:Int)<mo/2 then filN mo ns i else ns
def Zr(mo:Int)(ns:List Nd)(P:List Nat):List Nd:=P.foldl (QdH mo) ns
def Qcw(rm:Int)(ns:List Nd):List Nd:=
 if(nth ns 0).es.length=0/\(nth ns 0).cs.length=1 then
  if((nth ns (kdN ns 0 0)).es.length:Int)<=rm then(ns.set 0 (nth ns (kdN ns 0 0))).set (kdN ns 0 0) ⟨false,[],[]⟩else ns
 else ns
def Qbv(mo rm:Int)(ns:List Nd)(P:List Nat)(at':Nat):List Nd:=QdS (Qcw rm (Zr mo (QbT ns P at') (QZ ns P at').reverse))
theorem Qos(mo:Int)(ns:List Nd)(P:List Nat)(i:Nat):Zr mo ns (P++[i])=QdH mo (Zr mo ns P) i:=by grind[Zr]
def Qbw(mo:Int):List Nd->List Nat->Prop
 | _,[]=>True
 | ns,i::P=>(i<ns.length/\(0<i->((nth ns i).es.length:Int)<mo/2->FilOk mo ns (Xz (i:Int) ns 0).1 (Xz (i:Int) ns 0).2))/\Qbw mo (QdH mo ns i) P
structure RotOk(rm:Int)(ns:List Nd):Prop where
 lt:0<ns.length
 len:ns.length<=900
 us:(nth ns 0).us=true
 kid:(nth ns 0).cs.length=1->0<(nth ns 0).cs.getD 0 0/\kdN ns 0 0<ns.length/\(nth ns (kdN ns 0 0)).us=true
structure RemOk(mo rm:Int)(ns:List Nd)(P:List Nat)(at':Nat):Prop where
 mo0:0<=mo/\mo<=1000
 ne:0<P.length
 len:P.length<=900
 nl:ns.length<=900
 sm:Sm 900 ns
 lst:QO P<ns.length
 atk:at'<(nth ns (QO P)).es.length
 rgt:0<(nth ns (QO P)).cs.length->at'<(nth ns (QO P)).cs.length/\0<=(nth ns (QO P)).cs.getD at' 0/\Qjz ns ns.length (kdN ns (QO P) at')/\QO P≠QO (QZ ns P at')/\0<(nth ns (QO (QZ ns P at'))).es.length/\QO (QZ ns P at')<ns.length
 qn:0<(QZ ns P at').length/\(QZ ns P at').length<=1900
 ql:QO (QZ ns P at')<ns.length
 dl:Qg0 ns P at'<(nth (QgT ns P at') (QO (QZ ns P at'))).es.length
 sm1:Sm 900 (QgT ns P at')
 fil:Qbw mo (QbT ns P at') (QZ ns P at').reverse
 rot:RotOk rm (Zr mo (QbT ns P at') (QZ ns P at').reverse)
abbrev Qqv(a:Option Addr)(c:Nat)(P:List Nat):HA:=.own (.slice a P.length c) 3 1 P.length (P.map λi:Nat=>Value.int .i64 (i:Int))
theorem Qsc(l:List Nat):(iN l).flatMap inV=l.map λi:Nat=>Value.int .i64 (i:Int):=by
 induction l with
 | nil=>rfl
 | cons x l ih=>
  rw[iN,List.map_cons,List.flatMap_cons,List.map_cons,<-ih];rfl
theorem Qhr(a:Option Addr)(c:Nat)(P:List Nat):HA.kids a c (iN P)=Qqv a c P:=by
 unfold HA.kids;rw[Qsc,Qan]
section
variable{w0 w:World}{M:List Nat}{As A1 A2 A3:List HA}{a:Option Addr}{c:Nat}{P:List Nat}
theorem HS.of_kids(h:HS w0 M As w)(hp:QE As (.kids a c (iN P)) A1):HS w0 M (Qqv a c P::A1) w:=by
 rw[<-Qhr];exact h.pick hp
theorem HS.pown_some(hn:0<P.length)(h:HS w0 M As w)(hp:QE As (Qqv a c P) A1):∃g,a=some ⟨g,0,none⟩:=by grind[HS.own_blk]
theorem HS.pown_row(h:HS w0 M As w)(hp:QE As (Qqv a c P) A1):Rw inV 1 w [] a (iN P):=by
 have h1:=h.pick hp;rw[<-Qhr]at h1;exact h1.rw_own (l:=iN P) iv1 .here rfl
theorem HS.pown_rd{k g:Nat}(hk:k<P.length)(hg:a=some ⟨g,0,none⟩)(h:HS w0 M As w)(hp:QE As (Qqv a c P) A1):Rd w [] g (0+k*1) (.int .i64 ((nth P k:Nat):Int)):=by
 have h1:=Rw.rd (h.pown_row hp) (i:=k) (by rw[Qan];exact hk) 0 (.int .i64 ((nth P k:Nat):Int)) (by rw[Qk8 hk];rfl);rw[hg]at h1;exact h1
end
section
variable{w0 w:World}{M:List Nat}{As A1 A2 A3:List HA}{et:Nat}{L:List LNd}{i j gn cap nt':Nat}
theorem HS.node_rot(hi:i<L.length)(hj:j<L.length)(hne:i≠j)(h:HS w0 M As w)
  (hp:QE As (.blk gn nt' (cap*3) (Qu (Qu (L.flatMap LNd.vals) (j*3) (LNd.vals (nth L i))) (i*3) [.bool false,.slice none 0 0,.slice none 0 0])) A1)(hp3:QE A1 (.star (L.map (Qs et))) A3) :
  ∃L',(pln L'=((pln L).set j (nth (pln L) i)).set i ⟨false,[],[]⟩/\L'.length=L.length)/\HS w0 M (.blk gn nt' (cap*3) (L'.flatMap LNd.vals)::.star (L'.map (Qs et))::A3) w:=by
 refine⟨(L.set j (nth L i)).set i LNd.gone,⟨by rw[Qdg,Qdg,Ql hi];rfl,by rw[List.length_set,List.length_set]⟩,?_⟩;have e1:=Qdu hj (nth L i);have e2:=Qdu (l:=L.set j (nth L i)) (k:=i) (by rw[List.length_set];exact hi) LNd.gone;rw[<-e2,<-e1];have h1:=HS.star_move hi hj hne (nth L i).us (h.pick hp) (.there hp3);have h2:=HS.star_gone (L:=(L.set j (nth L i)).set i (nth L i).non) (i:=i) (by rw[List.length_set,List.length_set];exact hi) h1 .here;rw[List.set_set]at h2;exact h2.perm (List.Perm.swap ..)
end
theorem HS.nd_cells{w0 w:World}{M:List Nat}{As A1:List HA}{L:List LNd}{i gn cap nt':Nat}(hi:i<L.length)(h:HS w0 M As w)(hp:QE As (.blk gn nt' (cap*3) (L.flatMap LNd.vals)) A1):∀j v,(LNd.vals (nth L i))[j]?=some v->Rd w [] gn (i*3+j) v:=λj v hv=>by
 have hj:j<3:=by
  have:=(List.getElem?_eq_some_iff.1 hv).1;exact this
 exact HS.nd_cell hi h hp j hv hj
theorem QqW{ns:List Nd}{f i:Nat}(h:(nth ns i).cs.length=0):Qib ns (f+1) i=[i]:=if_pos h
theorem QqH{ns:List Nd}{f i:Nat}(h:¬(nth ns i).cs.length=0):Qib ns (f+1) i=i::Qib ns f (kdN ns i ((nth ns i).cs.length-1)):=if_neg h
theorem Qn8(E:List Nat)(i:Nat):QO (E++[i])=i:=by simp_all[QO,Q2]
theorem Qnr{ns:List Nd}{p x:Nat}{P:Nd}(hP:nth ns p=P)(h:0<=P.cs.getD x 0):P.cs.getD x 0=((kdN ns p x:Nat):Int):=by
 subst hP;exact(Int.toNat_of_nonneg h).symm
section
variable{ns:List Nd}{P:List Nat}{k:Nat}{I F:Nd}{rm:Int}
theorem QuI(hI:nth ns (QO P)=I)(h:I.cs.length=0):QgT ns P k=ns:=by
 subst hI;exact if_pos h
theorem QuZ(hI:nth ns (QO P)=I)(hF:nth ns (QO (QZ ns P k))=F)(h:0<I.cs.length):QgT ns P k=esN ns (QO P) (I.es.set k (nth F.es (F.es.length-1))):=by
 subst hI hF;exact if_neg om
theorem QvW(hI:nth ns (QO P)=I)(h:I.cs.length=0):Qg0 ns P k=k:=by
 subst hI;exact if_pos h
theorem QtZ(hI:nth ns (QO P)=I)(hF:nth ns (QO (QZ ns P k))=F)(h:0<I.cs.length):Qg0 ns P k=F.es.length-1:=by
 subst hI hF;exact if_neg om
theorem Qup(hI:nth ns 0=I)(h:I.es.length=0/\I.cs.length=1)(hF:nth ns (kdN ns 0 0)=F)(h2:(F.es.length:Int)<=rm):Qcw rm ns=(ns.set 0 (nth ns (kdN ns 0 0))).set (kdN ns 0 0) ⟨false,[],[]⟩:=by grind[Qcw]
theorem Qvw(hI:nth ns 0=I)(h:I.es.length=0/\I.cs.length=1)(hF:nth ns (kdN ns 0 0)=F)(h2:¬(F.es.length:Int)<=rm):Qcw rm ns=ns:=by grind[Qcw]
theorem Quf(hI:nth ns 0=I)(h:¬(I.es.length=0/\I.cs.length=1)):Qcw rm ns=ns:=by grind[Qcw]
theorem Quz(h:RotOk rm ns):(nth (Qcw rm ns) 0).us=true:=by
 unfold Qcw;split
 ·rename_i h1;split
  ·obtain⟨h2,h3,h4⟩:=h.kid h1.2
   grind[kdN,Qa2]
  ·exact h.us
 ·exact h.us
end
theorem QaC{α:Type}[Inhabited α]{l m:List α}(hl:l.length=m.length)(h:∀j,j<l.length->nth l j=nth m j):l=m:=by
 apply List.ext_getElem?
 grind[Xk]
def Qfx(a b:List Nd)(k:Nat):List Nat:=(List.range k).filter λi=>decide (nth a i≠nth b i)
def QbN(a b:List Nd):List Nat:=Qfx a b (max a.length b.length)
theorem QsK{a b:List Nd}{k:Nat}(h:nth a k=nth b k):Qfx a b (k+1)=Qfx a b k:=by
 unfold Qfx;rw[List.range_succ,List.filter_append];simp[h]
theorem QsG{a b:List Nd}{k:Nat}(h:nth a k≠nth b k):Qfx a b (k+1)=Qfx a b k++[k]:=by
 unfold Qfx;rw[List.range_succ,List.filter_append];simp[h]
theorem QpF(a b:List Nd)(k:Nat):(Qfx a b k).length<=k:=by
 have:=List.length_filter_le (λi=>decide (nth a i≠nth b i)) (List.range k);rw[List.length_range]at this;exact this
theorem Qin{x y:TEnt}(h1:(bs x.key).data.toList=(bs y.key).data.toList)(h2:(bs x.val).data.toList=(bs y.val).data.toList):x=y:=by
 cases x
 simp_all
theorem QR(L:List LNd)(k:Nat):nth (pln L) k=(nth L k).pl:=by
 rcases Nat.lt_or_ge k L.length with h|h
 ·exact Ql h
 ·rw[Zb (by rw[Qb];exact h),Zb h];rfl
theorem Rw.nilR{α:Type}[Inhabited α]{vals:α->List Value}{sz:Nat}{w:World}{M:List Nat}{a:Option Addr}:Rw vals sz w M a ([]:List α):=⟨λh=>absurd h (Nat.lt_irrefl _)⟩
theorem Nt.esA{w:World}{M:List Nat}{a:Option Addr}{L:List LNd}(h:Nt w M a L)(k:Nat):Rw TEnt.vals 2 w M (nth L k).ea (nth L k).es:=by
 rcases Nat.lt_or_ge k L.length with hk|hk
 ·exact h.es hk
 ·rw[Zb hk];exact Rw.nilR
theorem Nt.csA{w:World}{M:List Nat}{a:Option Addr}{L:List LNd}(h:Nt w M a L)(k:Nat):Rw inV 1 w M (nth L k).ca (nth L k).cs:=by
 rcases Nat.lt_or_ge k L.length with hk|hk
 ·exact h.cs hk
 ·rw[Zb hk];exact Rw.nilR
theorem Qwh(n m:Nd):decide (n=m)=(decide (n.us=m.us)&&(decide (n.es=m.es)&&decide (n.cs=m.cs))):=by
 cases n;cases m
 grind
theorem Qf8(n m:LNd):((n.us==m.us&&decide (n.es=m.es))&&decide (n.cs=m.cs))=decide (n.pl=m.pl):=by
 rw[Qwh,Bool.and_assoc];rfl
theorem keyE_ok{co:Int}{k:List UInt8}(h:X3 co k=0):QW co k=true:=by grind[X3]
theorem Qtv{ns:List Nd}(h:Bd ns):Sm 100000 ns:=λk=>by
 rcases Nat.lt_or_ge k ns.length with hk|hk
 ·have h1:=h.es k hk;have h2:=h.cs k hk;omega
 ·rw[Zb hk];exact⟨Nat.zero_le _,Nat.zero_le _⟩
theorem Qut{co mo rm:Int}{ns:List Nd}{x:TEnt}(h:QdU co mo rm ns x=0):¬(Qj co ns x.key).2.2=true/\(QaQ co mo rm ns x).length<=120:=by grind[QdU]
theorem QfC{α:Type}[Inhabited α]{vals:α->List Value}{sz:Nat}{w:World}{M:List Nat}{a:Option Addr}{l:List α}(h:Rw vals sz w M a l)(i:Nat):Rw vals sz w M a (l.take i):=
 ⟨λhn=>by
  rw[List.length_take]at hn;obtain⟨b,o,rfl,h2⟩:=h.at_ om;refine⟨b,o,rfl,λj hj=>?_⟩;rw[List.length_take]at hj;have e:nth (l.take i) j=nth l j:=QjL om;have h3:=h2 j om;simp only[e];exact h3⟩
theorem Qvz{co:Int}{key:List UInt8}:∀{es:List TEnt}{k:Nat},k<=es.length->(∀q,q<k->QX co (nth es q).key key<0)->¬(k<es.length/\QX co (nth es k).key key<0)->plc co es key=k:=by
 intro es k hk h1 h2;have h3:=Qbm co key es;rcases Nat.lt_trichotomy (plc co es key) k with h|h|h
 ·exact absurd (h1 _ h) (QiE co key es om)
 ·exact h
 ·exact absurd ⟨om,Qce co key es k h⟩ h2
abbrev LNd.fre:LNd:=⟨true,none,0,[],none,0,[]⟩
section
variable{w0 w:World}{M:List Nat}{As A1 A2 A3:List HA}{et:Nat}{L:List LNd}{i j gn cap nt':Nat}
theorem HS.node_fre(hi:i<L.length)(h:HS w0 M As w)
  (hp:QE As (.blk gn nt' (cap*3) (Qu (L.flatMap LNd.vals) (i*3) [.bool true,.slice none 0 0,.slice none 0 0])) A1)(hp3:QE A1 (.star (L.map (Qs et))) A3) :
  ∃L',NdSet L L' i LNd.fre/\HS w0 M (.blk gn nt' (cap*3) (L'.flatMap LNd.vals)::.star (L'.map (Qs et))::A3) w:=by
 refine⟨_,⟨hi,rfl⟩,?_⟩;rw[<-Qdu hi];have h1:=(((h.pick hp).node_out hi (.there hp3)).tail.tail.own_nil 3 1).own_nil et 2;exact(HS.node_in hi LNd.fre h1).perm (List.Perm.swap ..)
end
section
variable{w0 w:World}{M:List Nat}{As A1 A2 A3:List HA}{et:Nat}{L:List LNd}{i gn cap nt':Nat}
theorem HS.es_setN(hi:i<L.length){ea:Option Addr}{ec n:Nat}{es:List TEnt}{xs:List Value}(hn:n=es.length)(hx:xs=es.flatMap TEnt.vals)(h:HS w0 M As w)(hp:QE As (.blk gn nt' (cap*3) (Qu (L.flatMap LNd.vals) (i*3+1) [.slice ea n ec])) A1)(hp2:QE A1 (.own (.slice ea n ec) et 2 n xs) A2)(hp3:QE A2 (.star (L.map (Qs et))) A3) :
  ∃L',NdSet L L' i {nth L i with ea:=ea,ec:=ec,es:=es}/\HS w0 M (.blk gn nt' (cap*3) (L'.flatMap LNd.vals)::.star (L'.map (Qs et))::A3) w:=by
 grind[HS.es_set,hi]
theorem HS.cs_setN(hi:i<L.length){ca:Option Addr}{cc n:Nat}{cs:List Int}{xs:List Value}(hn:n=cs.length)(hx:xs=cs.flatMap inV)(h:HS w0 M As w)(hp:QE As (.blk gn nt' (cap*3) (Qu (L.flatMap LNd.vals) (i*3+2) [.slice ca n cc])) A1)(hp2:QE A1 (.own (.slice ca n cc) 3 1 n xs) A2)(hp3:QE A2 (.star (L.map (Qs et))) A3) :
  ∃L',NdSet L L' i {nth L i with ca:=ca,cc:=cc,cs:=cs}/\HS w0 M (.blk gn nt' (cap*3) (L'.flatMap LNd.vals)::.star (L'.map (Qs et))::A3) w:=by
 grind[HS.cs_set,hi]
end
theorem Qmg{w:World}{n m:LNd}(he:n.ca=m.ca/\n.cc=m.cc/\n.cs=m.cs)(h:Rw inV 1 w [] n.ca n.cs):Rw inV 1 w [] m.ca m.cs:=by grind
def Qcv(ns:List Nd):Nat->Nat->Nat
 | 0,i=>i
 | f+1,i=>if i<ns.length then if(nth ns i).us=true then Qcv ns f (i+1)else i else i
def QdY(ns:List Nd):Nat:=Qcv ns ns.length 1
def Xx(ns:List Nd):Nat×List Nd:=if QdY ns<ns.length then(QdY ns,ns.set (QdY ns) ⟨true,[],[]⟩)else(ns.length,ns++[⟨true,[],[]⟩])
theorem Qml(ns:List Nd):∀f i,i<=ns.length->Qcv ns f i<=ns.length
 | 0,i,h=>h
 | f+1,i,h=>by
  rw[Qcv];split
  ·split
   ·exact Qml ns f (i+1) om
   ·exact h
  ·exact h
theorem QiC(ns:List Nd):∀f i,i<=Qcv ns f i
 | 0,i=>Nat.le_refl _
 | f+1,i=>by
  rw[Qcv];split
  ·split
   ·simp[Nat.le_of_succ_le,QiC]
   grind
  grind
theorem Qs3{ns:List Nd}(h0:0<ns.length):1<=(Xx ns).1:=by
 unfold Xx;split
 ·exact QiC ns _ 1
 ·exact h0
theorem Qmd(ns:List Nd):(Xx ns).1<(Xx ns).2.length:=by grind[Xx]
theorem QjF(ns:List Nd):ns.length<=(Xx ns).2.length/\(Xx ns).2.length<=ns.length+1:=by grind[Xx]
theorem Qir(ns:List Nd):∀f i,Qcv ns f i<ns.length->ns.length<i+f->(nth ns (Qcv ns f i)).us=false
 | 0,i,h,hf=>by
  rw[Qcv]at h;omega
 | f+1,i,h,hf=>by
  rw[Qcv]at h ⊢;split
  ·rename_i h1;rw[if_pos h1]at h;split
   ·rename_i h2;rw[if_pos h2]at h;exact Qir ns f (i+1) h om
   grind
  grind
theorem Qtn{ns:List Nd}{i:Nat}(hi:i<ns.length)(hu:(nth ns i).us=true):(Xx ns).1≠i:=by
 unfold Xx;split
 ·rename_i h;intro e;have h2:=Qir ns ns.length 1 h om;rw[show Qcv ns ns.length 1=i from e,hu]at h2;cases h2
 grind
theorem QpK{ns:List Nd}{i:Nat}(hi:i<ns.length)(hne:(Xx ns).1≠i):nth (Xx ns).2 i=nth ns i:=by
 unfold Xx at hne ⊢;split
 ·grind[Qa2]
 ·apply Q2
  grind[hi,Xk]
def ixR(cs:List Int)(c:Int):Nat:=if ixB (Z4 cs c)<cs.length then ixB (Z4 cs c)else 0
def splRA(mo:Int)(ns:List Nd)(i:Nat):List Nd:=
 let F:=(Xx ns).2;let o:=(Xx ns).1;let x:=nth F i
 let n:=esN (esN F o (x.es.drop (QD mo+1))) i (x.es.take (QD mo))
 if x.cs.length=0 then n else csN (csN n o (x.cs.drop (QD mo+1))) i (x.cs.take (QD mo+1))
def Qiz(mo:Int)(ns:List Nd)(p i:Nat):List Nd:=addP (splRA mo ns i) p (ixR (nth (splRA mo ns i) p).cs (i:Int)) (nth (nth (Xx ns).2 i).es (QD mo)) (Xx ns).1
def Qav(ns:List Nd):Nat×List Nd:=((Xx ns).1,csN (esN (csN (esN (Xx ns).2 (Xx ns).1 (nth (Xx ns).2 0).es) (Xx ns).1 (nth (Xx ns).2 0).cs) 0 []) 0 [((Xx ns).1:Int)])
def Qcp(mo:Int)(P:List Nat):Nat->List Nd->List Nd
 | 0,ns=>ns
 | k+1,ns=>Qcp mo P k (if mo<((nth ns (nth P (k+1))).es.length:Int)then Qiz mo ns (nth P k) (nth P (k+1))else ns)
def Qgs(mo rm:Int)(ns:List Nd):List Nd:=if rm<((nth ns 0).es.length:Int)then if mo<((nth (Qav ns).2 (Qav ns).1).es.length:Int)then Qiz mo (Qav ns).2 0 (Qav ns).1 else(Qav ns).2 else ns
def Qtg(co mo rm:Int)(ns:List Nd)(x:TEnt):List Nd:=
 let P:=(Qj co ns x.key).1;let lf:=QO P
 Qgs mo rm (Qcp mo P (P.length-1) (esN ns lf (QT (nth ns lf).es (plc co (nth ns lf).es x.key) x)))
structure SpROk(mo:Int)(ns:List Nd)(p i:Nat):Prop where
 mo0:0<=mo/\mo<=1000
 len:ns.length<=900
 sm:Sm 900 ns
 lt:i<ns.length
 us:(nth ns i).us=true
 es:QD mo<(nth ns i).es.length
 cs:(nth ns i).cs.length=0\/QD mo+1<=(nth ns i).cs.length
 par:p<ns.length
 parE:ixR (nth (splRA mo ns i) p).cs (i:Int)<=(nth (splRA mo ns i) p).es.length
 parC:ixR (nth (splRA mo ns i) p).cs (i:Int)+1<=(nth (splRA mo ns i) p).cs.length
def QgZ(mo:Int)(P:List Nat):Nat->List Nd->Prop
 | 0,_=>True
 | k+1,ns=>(nth P (k+1)<ns.length/\(mo<((nth ns (nth P (k+1))).es.length:Int)->SpROk mo ns (nth P k) (nth P (k+1))))/\QgZ mo P k (if mo<((nth ns (nth P (k+1))).es.length:Int)then Qiz mo ns (nth P k) (nth P (k+1))else ns)
structure RootROk(mo rm:Int)(ns:List Nd):Prop where
 lt:0<ns.length
 len:ns.length<=900
 us:(nth ns 0).us=true
 spl:rm<((nth ns 0).es.length:Int)->mo<((nth (Qav ns).2 (Qav ns).1).es.length:Int)->SpROk mo (Qav ns).2 0 (Qav ns).1
structure InsROk(co mo rm:Int)(ns:List Nd)(x:TEnt):Prop where
 ne:0<(Qj co ns x.key).1.length
 len:(Qj co ns x.key).1.length<=900
 lf:QO (Qj co ns x.key).1<ns.length
 grw:QgZ mo (Qj co ns x.key).1 ((Qj co ns x.key).1.length-1) (esN ns (QO (Qj co ns x.key).1) (QT (nth ns (QO (Qj co ns x.key).1)).es (plc co (nth ns (QO (Qj co ns x.key).1)).es x.key) x))
 root:RootROk mo rm (Qcp mo (Qj co ns x.key).1 ((Qj co ns x.key).1.length-1) (esN ns (QO (Qj co ns x.key).1) (QT (nth ns (QO (Qj co ns x.key).1)).es (plc co (nth ns (QO (Qj co ns x.key).1)).es x.key) x)))
theorem Sm.frs{m:Nat}{ns:List Nd}(h:Sm m ns):Sm m (Xx ns).2:=by
 unfold Xx;split
 ·exact h.set _ _ ⟨Nat.zero_le _,Nat.zero_le _⟩
 ·exact h.app _ ⟨Nat.zero_le _,Nat.zero_le _⟩
theorem Sm.splRA{m:Nat}{ns:List Nd}(h:Sm m ns)(mo:Int)(i:Nat):Sm m (splRA mo ns i):=by
 have h1:=h.frs;have e1:=(h1 i).1;have e2:=(h1 i).2;have h2:=(h1.es (Xx ns).1 (es:=(nth (Xx ns).2 i).es.drop (QD mo+1)) (by rw[List.length_drop];omega)).es i (es:=(nth (Xx ns).2 i).es.take (QD mo)) (by rw[List.length_take];omega);unfold Gx.splRA;simp only[];split
 ·exact h2
 ·exact(h2.cs _ (by rw[List.length_drop];omega)).cs _ (by rw[List.length_take];omega)
theorem QsP{mo:Int}{ns F:List Nd}{i:Nat}{x:Nd}(hF:(Xx ns).2=F)(hx:nth F i=x)(h:x.cs.length=0):splRA mo ns i=esN (esN F (Xx ns).1 (x.es.drop (QD mo+1))) i (x.es.take (QD mo)):=by
 subst hF hx;exact if_pos h
theorem QsU{mo:Int}{ns F:List Nd}{i:Nat}{x:Nd}(hF:(Xx ns).2=F)(hx:nth F i=x)(h:¬x.cs.length=0):splRA mo ns i=csN (csN (esN (esN F (Xx ns).1 (x.es.drop (QD mo+1))) i (x.es.take (QD mo))) (Xx ns).1 (x.cs.drop (QD mo+1))) i (x.cs.take (QD mo+1)):=by
 subst hF hx;exact if_neg h
theorem QtT{ns:List Nd}(h:Bd ns):Sm 1000 ns:=λk=>by
 rcases Nat.lt_or_ge k ns.length with hk|hk
 ·exact⟨h.es k hk,h.cs k hk⟩
 ·rw[Zb hk];exact⟨Nat.zero_le _,Nat.zero_le _⟩
def QhA(co:Int)(ns:List Nd)(x:TEnt):List Nd:=esN ns (QO (Qj co ns x.key).1) (QT (nth ns (QO (Qj co ns x.key).1)).es (plc co (nth ns (QO (Qj co ns x.key).1)).es x.key) x)
theorem Qtf{LG L6 L7 L8:List LNd}{b:Option Addr}{c:Nat}(hL6:pln L6=(Xx (pln LG)).2)(hi6:0<L6.length)(ho6:(Xx (pln LG)).1<L6.length)(hS7:NdSet L6 L7 (Xx (pln LG)).1 {nth L6 0 with us:=(nth L6 (Xx (pln LG)).1).us})(hS8:NdSet L7 L8 0 ⟨(nth L7 0).us,none,0,[],b,c,[((Xx (pln LG)).1:Int)]⟩)(hi7:0<L7.length):pln L8=(Qav (pln LG)).2:=by
 have e2:pln L7=csN (esN (pln L6) (Xx (pln LG)).1 (nth (pln L6) 0).es) (Xx (pln LG)).1 (nth (pln L6) 0).cs:=by
  rw[QfL (by rw[Qb];exact ho6),hS7.pl,Ql ho6,Ql hi6];rfl
 rw[hS8.pl,Qav,<-hL6,<-e2,QfL (by rw[Qb];exact hi7),Ql hi7];rfl
def smB(m:Nat)(ns:List Nd):Bool:=ns.all λn=>decide (n.es.length<=m)&&decide (n.cs.length<=m)
theorem Qf2{m:Nat}{ns:List Nd}(h:smB m ns=true):Sm m ns:=λk=>by
 rcases Nat.lt_or_ge k ns.length with hk|hk
 ·have h1:=List.all_eq_true.1 h _ (QI hk)
  grind
 ·rw[Zb hk];exact⟨Nat.zero_le _,Nat.zero_le _⟩
def bdB(ns:List Nd):Bool:=decide (ns.length<=1000)&&smB 1000 ns
theorem QrS{ns:List Nd}(h:bdB ns=true):Bd ns:=by
 unfold bdB at h;simp only[Bool.and_eq_true,decide_eq_true_eq]at h;exact⟨h.1,λi _=>(Qf2 h.2 i).1,λi _=>(Qf2 h.2 i).2⟩
def QvG(mo:Int)(ns:List Nd)(p i:Nat):Bool:=decide ((0<=mo/\mo<=1000)/\ns.length<=900/\smB 900 ns=true/\i<ns.length/\(nth ns i).us=true/\QD mo<(nth ns i).es.length/\((nth ns i).cs.length=0\/QD mo+1<=(nth ns i).cs.length)/\p<ns.length/\ixR (nth (splRA mo ns i) p).cs (i:Int)<=(nth (splRA mo ns i) p).es.length/\ixR (nth (splRA mo ns i) p).cs (i:Int)+1<=(nth (splRA mo ns i) p).cs.length)
theorem Qnu{mo:Int}{ns:List Nd}{p i:Nat}(h:QvG mo ns p i=true):SpROk mo ns p i:=by
 obtain⟨h1,h2,h3,h4,h5,h6,h7,h8,h9,h10⟩:=of_decide_eq_true h;exact⟨h1,h2,Qf2 h3,h4,h5,h6,h7,h8,h9,h10⟩
def Ql1(mo:Int)(P:List Nat):Nat->List Nd->Bool
 | 0,_=>true
 | k+1,ns=>(decide (nth P (k+1)<ns.length)&&(!decide (mo<((nth ns (nth P (k+1))).es.length:Int))||QvG mo ns (nth P k) (nth P (k+1))))&&Ql1 mo P k (if mo<((nth ns (nth P (k+1))).es.length:Int)then Qiz mo ns (nth P k) (nth P (k+1))else ns)
theorem QpB{p:Prop}[Decidable p]{b:Bool}(h:(!decide p||b)=true)(hp:p):b=true:=by grind
theorem Qjs{mo:Int}{P:List Nat}:∀{k:Nat}{ns:List Nd},Ql1 mo P k ns=true->QgZ mo P k ns
 | 0,_,_=>trivial
 | k+1,ns,h=>by
  unfold Ql1 at h;rw[Bool.and_eq_true,Bool.and_eq_true,decide_eq_true_eq]at h;exact⟨⟨h.1.1,λhp=>Qnu (QpB h.1.2 hp)⟩,Qjs h.2⟩
def Qqm(mo rm:Int)(ns:List Nd):Bool:=decide (0<ns.length/\ns.length<=900/\(nth ns 0).us=true/\(rm<((nth ns 0).es.length:Int)->mo<((nth (Qav ns).2 (Qav ns).1).es.length:Int)->QvG mo (Qav ns).2 0 (Qav ns).1=true))
theorem QoA{mo rm:Int}{ns:List Nd}(h:Qqm mo rm ns=true):RootROk mo rm ns:=by
 obtain⟨h1,h2,h3,h4⟩:=of_decide_eq_true h;exact⟨h1,h2,h3,λa b=>Qnu (h4 a b)⟩
def Qpl(co mo rm:Int)(ns:List Nd)(x:TEnt):Bool:=decide (0<(Qj co ns x.key).1.length/\(Qj co ns x.key).1.length<=900/\QO (Qj co ns x.key).1<ns.length/\Ql1 mo (Qj co ns x.key).1 ((Qj co ns x.key).1.length-1) (QhA co ns x)=true/\Qqm mo rm (Qcp mo (Qj co ns x.key).1 ((Qj co ns x.key).1.length-1) (QhA co ns x))=true)
theorem Qoy{co mo rm:Int}{ns:List Nd}{x:TEnt}(h:Qpl co mo rm ns x=true):InsROk co mo rm ns x:=by
 obtain⟨h1,h2,h3,h4,h5⟩:=of_decide_eq_true h;exact⟨h1,h2,h3,Qjs h4,QoA h5⟩
def spB(mo:Int)(ns:List Nd)(i:Nat):Bool:=decide ((0<=mo/\mo<=1000)/\ns.length<=900/\smB 900 ns=true/\i<ns.length/\(nth ns i).us=true/\QD mo<(nth ns i).es.length/\((nth ns i).cs.length=0\/QD mo+1<=(nth ns i).cs.length)/\(Xz (i:Int) (splA mo ns i) 0).1<(splA mo ns i).length/\(Xz (i:Int) (splA mo ns i) 0).2<=(nth (splA mo ns i) (Xz (i:Int) (splA mo ns i) 0).1).es.length/\(Xz (i:Int) (splA mo ns i) 0).2+1<=(nth (splA mo ns i) (Xz (i:Int) (splA mo ns i) 0).1).cs.length)
theorem Qqz{mo:Int}{ns:List Nd}{i:Nat}(h:spB mo ns i=true):SpOk mo ns i:=by
 obtain⟨h1,h2,h3,h4,h5,h6,h7,h8,h9,h10⟩:=of_decide_eq_true h;exact⟨h1,h2,Qf2 h3,h4,h5,h6,h7,h8,h9,h10⟩
def Qtm(mo:Int):List Nd->List Nat->Bool
 | _,[]=>true
 | ns,i::P=>(decide (i<ns.length)&&(!decide (0<i/\mo<((nth ns i).es.length:Int))||spB mo ns i))&&Qtm mo (QbZ mo ns i) P
theorem QmO{mo:Int}:∀{P:List Nat}{ns:List Nd},Qtm mo ns P=true->QcX mo ns P
 | [],_,_=>trivial
 | i::P,ns,h=>by
  unfold Qtm at h;rw[Bool.and_eq_true,Bool.and_eq_true,decide_eq_true_eq]at h;exact⟨⟨h.1.1,λa b=>Qqz (QpB h.1.2 ⟨a,b⟩)⟩,QmO h.2⟩
def Qtu(mo rm:Int)(ns:List Nd):Bool:=decide (0<ns.length/\ns.length<=900/\(nth ns 0).us=true/\(rm<((nth ns 0).es.length:Int)->mo<((nth (Yf ns).2 (Yf ns).1).es.length:Int)->spB mo (Yf ns).2 (Yf ns).1=true))
theorem QpA{mo rm:Int}{ns:List Nd}(h:Qtu mo rm ns=true):RootOk mo rm ns:=by
 obtain⟨h1,h2,h3,h4⟩:=of_decide_eq_true h;exact⟨h1,h2,h3,λa b=>Qqz (h4 a b)⟩
def QtG(co mo rm:Int)(ns:List Nd)(x:TEnt):Bool:=decide (0<(Qj co ns x.key).1.length/\(Qj co ns x.key).1.length<=900/\Zv co ns x.key<ns.length/\(nth ns (Zv co ns x.key)).es.length<=900/\(Qj co ns x.key).2.1<=(nth ns (Zv co ns x.key)).es.length/\Qtm mo (Qic co ns x) (Qj co ns x.key).1.reverse=true/\Qtu mo rm (Yq mo (Qic co ns x) (Qj co ns x.key).1.reverse)=true)
theorem Qra{co mo rm:Int}{ns:List Nd}{x:TEnt}(h:QtG co mo rm ns x=true):InsOk co mo rm ns x:=by
 obtain⟨h1,h2,h3,h4,h5,h6,h7⟩:=of_decide_eq_true h;exact⟨h1,h2,h3,h4,h5,QmO h6,QpA h7⟩
def Qn5(k:Nat):TEnt:=⟨[UInt8.ofNat (97+k)],[]⟩
def Qcu:Nat->List Nd
 | 0=>[⟨true,[],[]⟩]
 | k+1=>Qtg 0 4 2 (Qcu k) (Qn5 k)
theorem QpH:∀k,k<11->IntKind.u8.wrap (((97+k:Nat):Int)+1)=((97+(k+1):Nat):Int):=by decide
def QvH(k:Nat):Bool:=decide (0<(Qcu k).length)&&(bdB (Qcu k)&&(decide ((Ym ⟨0,4,2,Qcu k⟩ (Qcu k).length 0 []).2=0)&&(Qpl 0 4 2 (Qcu k) (Qn5 k)&&QW 0 (Qn5 k).key)))
structure LetOk(k:Nat):Prop where
 n0:0<(Qcu k).length
 bd:Bd (Qcu k)
 tok:TOk 0 (Qcu k)
 ins:InsROk 0 4 2 (Qcu k) (Qn5 k)
 key:QW 0 (Qn5 k).key=true
theorem Qsb{k:Nat}(h:QvH k=true):LetOk k:=by
 unfold QvH at h;simp only[Bool.and_eq_true,decide_eq_true_eq]at h;exact⟨h.1,QrS h.2.1,Zp (t:=⟨0,4,2,Qcu k⟩) h.2.2.1,Qoy h.2.2.2.1,h.2.2.2.2⟩
set_option maxRecDepth 100000 in
theorem QqO:(List.range 11).all QvH=true:=by decide +kernel
theorem Qwz{k:Nat}(h:k<11):LetOk k:=Qsb (List.all_eq_true.1 QqO k (List.mem_range.2 h))
end Gx
namespace Gx
open Go Go.RowKit
class TFd(P:Program)(t f:Nat)(off ft:outParam Nat):Prop where h:tfd P t f=some (off,ft)
class TSz(P:Program)(t:Nat)(n:outParam Nat)(ag:outParam Bool):Prop where h:tsz P t=some (n,ag)
class TSe(P:Program)(t:Nat)(e:outParam Nat):Prop where h:P.underlying t=some (.slice e)
section
variable{X:Ctx}{ops:Array Oper}{rest:List Oper}{k:List KI}{L:Qq}{d ty:Nat}{pos:String}{aft:Array Edge}{C:World->Prop}
theorem oFa{st f x b i off ft sz:Nat}{ag:Bool}[h1:TFd X.P st f off ft][h2:TSz X.P ft sz ag](next:O X ops rest k ((d,.pointer (some ⟨b,i+off,none⟩))::L) C)(hx:Qq.get L x=some (.pointer (some ⟨b,i,none⟩)):=by rfl)(hs:Nat.blt 0 sz=true:=by rfl)(hd:Nat.blt d X.n=true:=by rfl) :
  O X ops (⟨some d,.fieldAddr st (.tmp x) f,ty,pos,aft,none⟩::rest) k L C:=o_p (QcM rfl hx h1.h h2.h hs) hd next
theorem oLs{t e x n cap:Nat}{a:Option Addr}[h1:TSe X.P t e](next:O X ops rest k ((d,.int .i64 n)::L) C)(hx:Qq.get L x=some (.slice a n cap):=by rfl)(hd:Nat.blt d X.n=true:=by rfl) :
  O X ops (⟨some d,.call {callee:=.builtin .len,args:=#[.tmp x],argTypes:=#[t]},ty,pos,aft,none⟩::rest) k L C:=o_p (QS (x:=.tmp x) rfl hx h1.h) hd next
theorem oLd{w0:World}{M:List Nat}{As As':List HA}{t x b tot i:Nat}{bt:TypeId}{cs:List Value}{v:Value}[h1:TSz X.P t 1 false](next:O X ops rest k ((d,v)::L) (HS w0 M As))(hx:Qq.get L x=some (.pointer (some ⟨b,i,none⟩)):=by rfl)(hp:QE As (.blk b bt tot cs) As':=by repeat (first|exact .here|apply QE.there))(hv:cs[i]?=some v:=by rfl)(hd:Nat.blt d X.n=true:=by rfl) :
  O X ops (⟨some d,.load t (.tmp x),ty,pos,aft,none⟩::rest) k L (HS w0 M As):=o_q (X8 rfl hx h1.h hp hv) hd next
theorem oLn{w0:World}{M:List Nat}{As As':List HA}{t x b tot i n:Nat}{bt:TypeId}{cs:List Value}[h1:TSz X.P t n true](next:O X ops rest k ((d,.agg (cut cs i n).toArray)::L) (HS w0 M As))(hx:Qq.get L x=some (.pointer (some ⟨b,i,none⟩)):=by rfl)(hp:QE As (.blk b bt tot cs) As':=by repeat (first|exact .here|apply QE.there))(hl:Nat.ble (i+n) cs.length=true:=by rfl)(hd:Nat.blt d X.n=true:=by rfl) :
  O X ops (⟨some d,.load t (.tmp x),ty,pos,aft,none⟩::rest) k L (HS w0 M As):=o_q (QaD rfl hx h1.h hp hl) hd next
end
section
variable{X:Ctx}{ops:Array Oper}{F:List Nat}{fuel:Nat}{listed:Array Bool}{k:List KI}{L:Qq}{d ty:Nat}{pos:String}{aft:Array Edge}{C B:World->Prop}{w0:World}{M:List Nat}{As As' Bs:List HA}
theorem dFa(i:Nat){st f x b o off ft sz:Nat}{ag:Bool}(next:D X ops F B fuel (listed.setIfInBounds i true) k ((d,.pointer (some ⟨b,o+off,none⟩))::L) C)(hi:ops[i]?=some ⟨some d,.fieldAddr st (.tmp x) f,ty,pos,aft,none⟩:=by rfl)(hx:Qq.get L x=some (.pointer (some ⟨b,o,none⟩)):=by rfl)(h1:TFd X.P st f off ft:=by infer_instance)(h2:TSz X.P ft sz ag:=by infer_instance)(hs:Nat.blt 0 sz=true:=by rfl)(hok:XU ops listed i=true:=by kernel_rfl)(hF:F.all (λf=>!Nat.beq f i)=true:=by rfl)(hd:Nat.blt d X.n=true:=by rfl):D X ops F B (fuel+1) listed k L C:=d_p i hi (QcM rfl hx h1.h h2.h hs) hok hF hd next
theorem dFo{j:Nat}{want c:Bool}(i dj:Nat){st f x b o off ft sz:Nat}{ag:Bool}(hw:c=want)(next:D X ops F B fuel (listed.setIfInBounds i true) k ((d,.pointer (some ⟨b,o+off,none⟩))::L) C)(hi:ops[i]?=some ⟨some d,.fieldAddr st (.tmp x) f,ty,pos,aft,some (j,want)⟩:=by rfl)(hj:(ops[j]?).bind (·.dst)=some dj:=by rfl)(hb:Qq.get L dj=some (.bool c):=by rfl)(hx:Qq.get L x=some (.pointer (some ⟨b,o,none⟩)):=by rfl)(h1:TFd X.P st f off ft:=by infer_instance)(h2:TSz X.P ft sz ag:=by infer_instance)(hs:Nat.blt 0 sz=true:=by rfl)(hok:XU ops listed i=true:=by kernel_rfl)(hF:F.all (λf=>!Nat.beq f i)=true:=by rfl)(hd:Nat.blt d X.n=true:=by rfl):D X ops F B (fuel+1) listed k L C:=Qpf i dj hi hj hb hw (QcM rfl hx h1.h h2.h hs) hok hF hd next
theorem dPo{j:Nat}{want c:Bool}{op:Op}{v:Value}(i dj:Nat)(hw:c=want)(next:D X ops F B fuel (listed.setIfInBounds i true) k ((d,v)::L) C)(hi:ops[i]?=some ⟨some d,op,ty,pos,aft,some (j,want)⟩:=by rfl)(hj:(ops[j]?).bind (·.dst)=some dj:=by rfl)(hb:Qq.get L dj=some (.bool c):=by rfl)(h:OpP X.P ⟨some d,op,ty,pos,aft,none⟩ L v:=by exact QlD rfl)(hok:XU ops listed i=true:=by kernel_rfl)(hF:F.all (λf=>!Nat.beq f i)=true:=by rfl)(hd:Nat.blt d X.n=true:=by rfl):D X ops F B (fuel+1) listed k L C:=Qpf i dj hi hj hb hw h hok hF hd next
theorem dOf{j:Nat}{want c:Bool}{op:Op}(i dj:Nat)(hw:c= !want)(next:D X ops F B fuel (listed.setIfInBounds i true) k ((d,undef)::L) C)(hi:ops[i]?=some ⟨some d,op,ty,pos,aft,some (j,want)⟩:=by rfl)(hj:(ops[j]?).bind (·.dst)=some dj:=by rfl)(hb:Qq.get L dj=some (.bool c):=by rfl)(hok:XU ops listed i=true:=by kernel_rfl)(hF:F.all (λf=>!Nat.beq f i)=true:=by rfl)(hd:Nat.blt d X.n=true:=by rfl):D X ops F B (fuel+1) listed k L C:=Qwq i dj hi hj hb hw hok hF hd next
theorem dOu{j:Nat}{want:Bool}{op:Op}(i dj:Nat)(next:D X ops F B fuel (listed.setIfInBounds i true) k ((d,undef)::L) C)(hi:ops[i]?=some ⟨some d,op,ty,pos,aft,some (j,want)⟩:=by rfl)(hj:(ops[j]?).bind (·.dst)=some dj:=by rfl)(hb:Qq.get L dj=some undef:=by rfl)(hok:XU ops listed i=true:=by kernel_rfl)(hF:F.all (λf=>!Nat.beq f i)=true:=by rfl)(hd:Nat.blt d X.n=true:=by rfl):D X ops F B (fuel+1) listed k L C:=QuH i dj hi hj hb hok hF hd next
theorem dNi(next:S X k L (HS w0 M As))(hB:∀w,HS w0 M As w->B w:=by(intro w h;first|exact h|exact h.ent aEt))(hr:(Region.ready .any ops listed==[])=true:=by kernel_rfl):D X ops F B 0 listed k L (HS w0 M As):=Qv0 hr hB next
theorem dBa(next:D X ops F (HS w0 M As) fuel listed k L (HS w0 M As))(hB:∀w,HS w0 M As w->B w:=by(intro w h;exact h.ent aEt)):D X ops F B fuel listed k L (HS w0 M As):=Qu7 hB next
theorem dLd(i:Nat)(ps:List (List Nat)){t x b tot o:Nat}{bt:TypeId}{cs:List Value}{v:Value}(next:D X ops F (HS w0 M Bs) fuel (listed.setIfInBounds i true) k ((d,v)::L) C)(hi:ops[i]?=some ⟨some d,.load t (.tmp x),ty,pos,aft,none⟩:=by rfl)(hx:Qq.get L x=some (.pointer (some ⟨b,o,none⟩)):=by rfl)(h1:TSz X.P t 1 false:=by infer_instance)(hp:QE Bs (.blk b bt tot cs) As':=by repeat (first|exact .here|apply QE.there))(hv:cs[o]?=some v:=by rfl)(hok:XU ops listed i=true:=by kernel_rfl)(hF:Qa1 ops F i ps=true:=by kernel_rfl)(hn:QdT F listed=true:=by kernel_rfl)(hd:Nat.blt d X.n=true:=by rfl):D X ops F (HS w0 M Bs) (fuel+1) listed k L C:=d_q i ps hi (X8 rfl hx h1.h hp hv) hok hF hn hd next
theorem dLn(i:Nat)(ps:List (List Nat)){t x b tot o n:Nat}{bt:TypeId}{cs:List Value}(next:D X ops F (HS w0 M Bs) fuel (listed.setIfInBounds i true) k ((d,.agg (cut cs o n).toArray)::L) C)(hi:ops[i]?=some ⟨some d,.load t (.tmp x),ty,pos,aft,none⟩:=by rfl)(hx:Qq.get L x=some (.pointer (some ⟨b,o,none⟩)):=by rfl)(h1:TSz X.P t n true:=by infer_instance)(hp:QE Bs (.blk b bt tot cs) As':=by repeat (first|exact .here|apply QE.there))(hl:Nat.ble (o+n) cs.length=true:=by rfl)(hok:XU ops listed i=true:=by kernel_rfl)(hF:Qa1 ops F i ps=true:=by kernel_rfl)(hn:QdT F listed=true:=by kernel_rfl)(hd:Nat.blt d X.n=true:=by rfl):D X ops F (HS w0 M Bs) (fuel+1) listed k L C:=d_q i ps hi (QaD rfl hx h1.h hp hl) hok hF hn hd next
end
section
variable{X:Ctx}{ops:Array Oper}{F:List Nat}{fuel:Nat}{listed:Array Bool}{rest:List Oper}{k:List KI}{L:Qq}{d ty:Nat}{pos:String}{aft:Array Edge}{w0:World}{M:List Nat}{As As':List HA}
theorem oSt{t x b tot i n:Nat}{y:Operand}{bt:TypeId}{ag:Bool}{cs:List Value}{v:Value}[hs:TSz X.P t n ag](next:O X ops rest k L (HS w0 M As'))(hx:Qq.get L x=some (.pointer (some ⟨b,i,none⟩)):=by rfl)(hy:ev L y=some v:=by rfl)(hn:v.cells.toList.length=n:=by rfl)
  (hp:Put As (.blk b bt tot cs) (.blk b bt tot (Qu cs i v.cells.toList)) As':=by repeat (first|exact .here|apply Put.there))(hl:i+n<=cs.length:=by(simp only[Qm,List.length_set,List.length_cons,List.length_nil,List.length_map];omega))(h1:v.cells.toList.all (·.oneCell')=true:=by rfl) :
  O X ops (⟨none,.store t (.tmp x) y,ty,pos,aft,none⟩::rest) k L (HS w0 M As):=ZV (Xo rfl hx hy hs.h hn hp hl h1) λ_ _=>next
theorem oAl{t:TypeId}{z:List Value}(next:∀b,True->O X ops rest k ((d,.pointer (some ⟨b,0,none⟩))::L) (HS w0 M (.blk b t z.length z::As)))(hz:X9 X.P t=some z)(hd:Nat.blt d X.n=true:=by rfl):O X ops (⟨some d,.alloc t,ty,pos,aft,none⟩::rest) k L (HS w0 M As):=o_h (ZX rfl hz) hd next
theorem oBx{t:TypeId}{x:Operand}{v:Value}(next:∀b,True->O X ops rest k ((d,.pointer (some ⟨b,0,none⟩))::L) (HS w0 M (.blk b t v.cells.toList.length v.cells.toList::As)))(hx:ev L x=some v:=by rfl)(hd:Nat.blt d X.n=true:=by rfl):O X ops (⟨some d,.box t x,ty,pos,aft,none⟩::rest) k L (HS w0 M As):=o_h (Qm4 rfl hx) hd next
theorem oWr{v:Int}{C:World->Prop}(next:O X ops rest k ((d,.int .i64 v)::L) C)(h1: -9223372036854775808<=v:=by omega)(h2:v<=9223372036854775807:=by omega):O X ops rest k ((d,.int .i64 (IntKind.i64.wrap v))::L) C:=Qh (QeP h1 h2) next
theorem dWr{v:Int}{C B:World->Prop}(next:D X ops F B fuel listed k ((d,.int .i64 v)::L) C)(h1: -9223372036854775808<=v:=by omega)(h2:v<=9223372036854775807:=by omega):D X ops F B fuel listed k ((d,.int .i64 (IntKind.i64.wrap v))::L) C:=Qr (QeP h1 h2) next
theorem dSt{B:World->Prop}(i:Nat){t x b tot o n:Nat}{y:Operand}{bt:TypeId}{ag:Bool}{cs:List Value}{v:Value}(next:D X ops F B fuel (listed.setIfInBounds i true) k L (HS w0 M As'))(hi:ops[i]?=some ⟨none,.store t (.tmp x) y,ty,pos,aft,none⟩:=by rfl)(hx:Qq.get L x=some (.pointer (some ⟨b,o,none⟩)):=by rfl)(hy:ev L y=some v:=by rfl)(hs:TSz X.P t n ag:=by infer_instance)(hn:v.cells.toList.length=n:=by rfl)
  (hp:Put As (.blk b bt tot cs) (.blk b bt tot (Qu cs o v.cells.toList)) As':=by repeat (first|exact .here|apply Put.there))(hl:o+n<=cs.length)(h1:v.cells.toList.all (·.oneCell')=true:=by rfl)(hr:(Region.ready .any ops listed==[i])=true:=by kernel_rfl)(hB:∀w,HS w0 M As w->B w:=by(intro w h;exact h.ent aEt)) :
  D X ops F B (fuel+1) listed k L (HS w0 M As):=Qlk i hi (Xo rfl hx hy hs.h hn hp hl h1) hr hB λ_ _=>next
theorem dTu{B:World->Prop}(F':List Nat)(next:D X ops F' (HS w0 M As) fuel listed k L (HS w0 M As))(hf:F.any (λf=>listed.getD f false)=true:=by kernel_rfl):D X ops F B fuel listed k L (HS w0 M As):=Quk F' hf next
end
section
variable{X:Ctx}{ops:Array Oper}{F:List Nat}{fuel:Nat}{listed:Array Bool}{k:List KI}{L:Qq}{d ty:Nat}{pos:String}{aft:Array Edge}{op:Op}{w0:World}{M:List Nat}{As Bs:List HA}
theorem dQ{C:World->Prop}{v:Value}(i:Nat)(ps:List (List Nat))(hi:ops[i]?=some ⟨some d,op,ty,pos,aft,none⟩)(h:OpQ X.P ⟨some d,op,ty,pos,aft,none⟩ L (HS w0 M Bs) v)(next:D X ops F (HS w0 M Bs) fuel (listed.setIfInBounds i true) k ((d,v)::L) C)(hok:XU ops listed i=true:=by kernel_rfl)(hF:Qa1 ops F i ps=true:=by kernel_rfl)(hn:QdT F listed=true:=by kernel_rfl)(hd:Nat.blt d X.n=true:=by rfl):D X ops F (HS w0 M Bs) (fuel+1) listed k L C:=d_q i ps hi h hok hF hn hd next
theorem dV{C:World->Prop}{B:World->Prop}{v:Value}(i:Nat)(hi:ops[i]?=some ⟨some d,op,ty,pos,aft,none⟩)(h:OpP X.P ⟨some d,op,ty,pos,aft,none⟩ L v)(next:D X ops F B fuel (listed.setIfInBounds i true) k ((d,v)::L) C)(hok:XU ops listed i=true:=by kernel_rfl)(hF:F.all (λf=>!Nat.beq f i)=true:=by rfl)(hd:Nat.blt d X.n=true:=by rfl):D X ops F B (fuel+1) listed k L C:=d_p i hi h hok hF hd next
theorem dH{B:World->Prop}{G:Type}{V:G->Value}{Fg:G->Prop}{C':G->World->Prop}(i:Nat)(hi:ops[i]?=some ⟨some d,op,ty,pos,aft,none⟩)(h:OpH X.P ⟨some d,op,ty,pos,aft,none⟩ L (HS w0 M As) V Fg C')(next:∀g,Fg g->D X ops F B fuel (listed.setIfInBounds i true) k ((d,V g)::L) (C' g))(hr:(Region.ready .any ops listed==[i])=true:=by kernel_rfl)(hB:∀w,HS w0 M As w->B w:=by(intro w h;exact h.ent aEt))(hd:Nat.blt d X.n=true:=by rfl):D X ops F B (fuel+1) listed k L (HS w0 M As):=d_h i hi h hr hB hd next
theorem dVo{C:World->Prop}{B:World->Prop}{v:Value}{j:Nat}{want b:Bool}(i dj:Nat)(hw:b=want)(hi:ops[i]?=some ⟨some d,op,ty,pos,aft,some (j,want)⟩)(hj:(ops[j]?).bind (·.dst)=some dj)(hb:Qq.get L dj=some (.bool b))(h:OpP X.P ⟨some d,op,ty,pos,aft,none⟩ L v)(next:D X ops F B fuel (listed.setIfInBounds i true) k ((d,v)::L) C)(hok:XU ops listed i=true:=by kernel_rfl)(hF:F.all (λf=>!Nat.beq f i)=true:=by rfl)(hd:Nat.blt d X.n=true:=by rfl):D X ops F B (fuel+1) listed k L C:=Qpf i dj hi hj hb hw h hok hF hd next
theorem dQo{C:World->Prop}{v:Value}{j:Nat}{want b:Bool}(i dj:Nat)(ps:List (List Nat))(hw:b=want)(hi:ops[i]?=some ⟨some d,op,ty,pos,aft,some (j,want)⟩)(hj:(ops[j]?).bind (·.dst)=some dj)(hb:Qq.get L dj=some (.bool b))(h:OpQ X.P ⟨some d,op,ty,pos,aft,none⟩ L (HS w0 M Bs) v)(next:D X ops F (HS w0 M Bs) fuel (listed.setIfInBounds i true) k ((d,v)::L) C)(hok:XU ops listed i=true:=by kernel_rfl)(hF:Qa1 ops F i ps=true:=by kernel_rfl)(hn:QdT F listed=true:=by kernel_rfl)(hd:Nat.blt d X.n=true:=by rfl):D X ops F (HS w0 M Bs) (fuel+1) listed k L C:=Qwm i dj ps hi hj hb hw h hok hF hn hd next
theorem rT{t:Nat}{v:Value}(hr:X.fn.results=[ResultVar.tmp t].toArray)(hv:Qq.get L t=some v)(h:∀w,HS w0 M As w->X.R (.returned (Xf [v])) w)(hrd:X.rd=none:=by rfl)(hdf:X.df=[]:=by rfl):S X (.c .ret::k) L (HS w0 M As):=Qk hr (.tmp hv .nil) h hrd hdf
end
theorem dT{p:Prop}[Decidable p]:(decide p=true)=p:=decide_eq_true_eq
theorem dN{p:Prop}[Decidable p]:decide p=false ↔ ¬p:=decide_eq_false_iff_not
class BP(b:Bool)(p n:outParam Prop):Prop where
 t:b=true->p
 f:b=false->n
instance(priority:=low) bp0(b:Bool):BP b (b=true) (b=false):=⟨id,id⟩
instance bpD(p:Prop)[Decidable p]:BP (decide p) p (¬p):=⟨of_decide_eq_true,of_decide_eq_false⟩
instance bpN(b:Bool)(p n:Prop)[h:BP b p n]:BP (!b) n p:=⟨λh9=>h.f (by simpa using h9),λh9=>h.t (by simpa using h9)⟩
instance bpA(a b:Bool)(p n p' n':Prop)[h:BP a p n][h':BP b p' n']:BP (a&&b) (p/\p') (n\/n'):=⟨λh9=>⟨h.t (by simp at h9;exact h9.1),h'.t (by simp at h9;exact h9.2)⟩,λh9=>by cases a with
 | true=>exact .inr (h'.f (by simpa using h9))
 | false=>exact .inl (h.f rfl)⟩
instance bpO(a b:Bool)(p n p' n':Prop)[h:BP a p n][h':BP b p' n']:BP (a||b) (p\/p') (n/\n'):=⟨λh9=>by cases a with
 | true=>exact .inl (h.t rfl)
 | false=>exact .inr (h'.t (by simpa using h9)),λh9=>⟨h.f (by simp at h9;exact h9.1),h'.f (by simp at h9;exact h9.2)⟩⟩
class TFn(P:Program)(f:Nat):Prop where h:QY P f=true
section
variable{X:Ctx}{k:List KI}{L:Qq}{C:World->Prop}
theorem sCd{c:Operand}{x y:Code}{b:Bool}{p n:Prop}(hc:ev L c=some (.bool b))[hB:BP b p n](ht:p->S X (.c x::k) L C)(hf:n->S X (.c y::k) L C):S X (.c (.cond c x y)::k) L C:=Qu8 hc (λh=>ht (hB.t h)) λh=>hf (hB.f h)
variable{ops:Array Oper}{rest:List Oper}{d ty:Nat}{pos:String}{aft:Array Edge}{op:Op}
theorem XF(m dj dp:Nat){b c:Bool}{p n:Prop}{l:List Oper}(hb:Qq.get L dj=some (.bool b))[hB:BP b p n]
  (h1:b=true->p->O X ops (l.take m) (.join (At X.n X.df (λ_:Unit=>(dp,.bool c)::L) (λ_=>C))::k) L C)
  (h0:b=false->n->O X ops (l.take m) (.join (At X.n X.df (λ_:Unit=>(dp,.bool false)::L) (λ_=>C))::k) L C)
  (h2:O X ops (l.drop m) k ((dp,.bool (b&&c))::L) C):O X ops l k L C:=QwD m dj dp b c hb (λh=>h1 h (hB.t h)) (λh=>h0 h (hB.f h)) h2
theorem oOr(m dj dp:Nat){b c:Bool}{p n:Prop}{l:List Oper}(hb:Qq.get L dj=some (.bool b))[hB:BP b p n]
  (h1:b=false->n->O X ops (l.take m) (.join (At X.n X.df (λ_:Unit=>(dp,.bool c)::L) (λ_=>C))::k) L C)
  (h0:b=true->p->O X ops (l.take m) (.join (At X.n X.df (λ_:Unit=>(dp,.bool true)::L) (λ_=>C))::k) L C)
  (h2:O X ops (l.drop m) k ((dp,.bool (b||c))::L) C):O X ops l k L C:=o_or m dj dp b c hb (λh=>h1 h (hB.f h)) (λh=>h0 h (hB.t h)) h2
theorem oNo{j dj:Nat}{want b:Bool}{dst:Option Nat}(next:O X ops (⟨dst,op,ty,pos,aft,none⟩::rest) k L C)(hj:(ops[j]?).bind (·.dst)=some dj:=by rfl)(hs:Qq.get L dj=some (.bool b):=by rfl)(hb:b=want:=by assumption):O X ops (⟨dst,op,ty,pos,aft,some (j,want)⟩::rest) k L C:=o_on dj b hj hs hb next
theorem oFt{j dj:Nat}{b:Bool}(next:O X ops rest k ((d,undef)::L) C)(hj:(ops[j]?).bind (·.dst)=some dj:=by rfl)(hs:Qq.get L dj=some (.bool b):=by rfl)(hb:b=false:=by assumption)(hd:Nat.blt d X.n=true:=by rfl):O X ops (⟨some d,op,ty,pos,aft,some (j,true)⟩::rest) k L C:=QtH dj b hj hs hb hd next
theorem oFf{j dj:Nat}{b:Bool}(next:O X ops rest k ((d,undef)::L) C)(hj:(ops[j]?).bind (·.dst)=some dj:=by rfl)(hs:Qq.get L dj=some (.bool b):=by rfl)(hb:b=true:=by assumption)(hd:Nat.blt d X.n=true:=by rfl):O X ops (⟨some d,op,ty,pos,aft,some (j,false)⟩::rest) k L C:=QtH dj b hj hs hb hd next
theorem oFu{j dj:Nat}{want:Bool}(next:O X ops rest k ((d,undef)::L) C)(hj:(ops[j]?).bind (·.dst)=some dj:=by rfl)(hs:Qq.get L dj=some undef:=by rfl)(hd:Nat.blt d X.n=true:=by rfl):O X ops (⟨some d,op,ty,pos,aft,some (j,want)⟩::rest) k L C:=QtY dj hj hs hd next
variable{w0:World}{M:List Nat}{As:List HA}
theorem rV{t:Nat}{v v':Value}(hr:X.fn.results=[ResultVar.tmp t].toArray:=by rfl)(hv:Qq.get L t=some v:=by rfl)(hR:X.R=λen w'=>en=.returned v'/\Below w0.heap.size w0 w':=by rfl)(hrd:X.rd=none:=by rfl)(hdf:X.df=[]:=by rfl)(h:Ending.returned (Xf [v])=.returned v':=by rfl):S X (.c .ret::k) L (HS w0 [] As):=Qk hr (.tmp hv .nil) (λw' h'=>hR▸⟨h,h'.below⟩) hrd hdf
theorem oCq{f:FuncId}{args:Array Operand}{vs:List Value}{v:Value}{at':Array TypeId}(ha:evs L args.toList=some vs)[hf:TFn X.P f](hc:∀w,HS w0 M As w->Calls X.P f vs.toArray w λe w'=>e=.returned v/\Below w.heap.size w w')(next:O X ops rest k ((d,v)::L) (HS w0 M As))(hd:Nat.blt d X.n=true:=by rfl) :
  O X ops (⟨some d,.call {callee:=.value (.func f),args:=args,argTypes:=at'},ty,pos,aft,none⟩::rest) k L (HS w0 M As):=o_q (Qv rfl hf.h ha hc) hd next
theorem oCh{G:Type}{V:G->Value}{F:G->Prop}{Bs:G->List HA}{f:FuncId}{args:Array Operand}{vs:List Value}{at':Array TypeId}(ha:evs L args.toList=some vs)[hf:TFn X.P f](hc:∀w,HS w0 M As w->Calls X.P f vs.toArray w λe w'=>∃g,e=.returned (V g)/\F g/\HS w [] (Bs g) w')(next:∀g,F g->O X ops rest k ((d,V g)::L) (HS w0 M (Bs g++As)))(hd:Nat.blt d X.n=true:=by rfl) :
  O X ops (⟨some d,.call {callee:=.value (.func f),args:=args,argTypes:=at'},ty,pos,aft,none⟩::rest) k L (HS w0 M As):=o_h (Yi rfl hf.h ha hc) hd next
theorem sBk{α:Type}{LJ:α->Qq}{CJ:α->World->Prop}{I:α->Prop}{m:α->Nat}{x:α}(y:α)(hm:m y<m x:=by omega)(hI:I y:=by omega)(hL:QdJ L (LJ y):=by repeat (first|exact QlS|refine Qfw rfl ?_))(hC:∀w,HS w0 M As w->CJ y w:=by(intro w h;exact h.ent aEt)):S X (.join (Qq9 X.n X.df LJ CJ I m x)::k) L (HS w0 M As):=Q1 y hm hI hL hC
end
section
variable{X:Ctx}{k:List KI}{L:Qq}{C:World->Prop}{ops:Array Oper}{rest:List Oper}{d ty:Nat}{pos:String}{aft:Array Edge}{op:Op}{LJ:Unit->Qq}{CJ:Unit->World->Prop}
theorem o0t{j dj:Nat}{b:Bool}(next:O X ops rest k L C)(hj:(ops[j]?).bind (·.dst)=some dj:=by rfl)(hs:Qq.get L dj=some (.bool b):=by rfl)(hb:b=false:=by assumption):O X ops (⟨none,op,ty,pos,aft,some (j,true)⟩::rest) k L C:=QoO dj b hj hs hb next
theorem o0f{j dj:Nat}{b:Bool}(next:O X ops rest k L C)(hj:(ops[j]?).bind (·.dst)=some dj:=by rfl)(hs:Qq.get L dj=some (.bool b):=by rfl)(hb:b=true:=by assumption):O X ops (⟨none,op,ty,pos,aft,some (j,false)⟩::rest) k L C:=QoO dj b hj hs hb next
theorem oJt(m dp:Nat){c x y:Operand}{b:Bool}{v:Value}(hc:ev L c=some (.bool b):=by rfl)(hb:b=true:=by assumption)(hx:ev L x=some v:=by rfl)(hd:Nat.blt dp X.n=true:=by rfl)(hJ:LJ ()=(dp,v)::((dp,v)::L).drop m:=by exact rfl)(hf:Qhd ((dp,v)::L) m=true:=by exact rfl)(hC:∀w,C w->CJ () w:=by(intro w h;first|exact h|exact h.ent aEt)) :
  O X ops [⟨some dp,.pick c x y,ty,pos,aft,none⟩] (.join (At X.n X.df LJ CJ)::k) L C:=o_p (Xv rfl hc hb hx) hd (QqB (Qm8 m dp v hJ (by rw[Qq.get_cons,if_pos rfl]) hf hC))
theorem oJf(m dp:Nat){c x y:Operand}{b:Bool}{v:Value}(hc:ev L c=some (.bool b):=by rfl)(hb:b=false:=by assumption)(hx:ev L y=some v:=by rfl)(hd:Nat.blt dp X.n=true:=by rfl)(hJ:LJ ()=(dp,v)::((dp,v)::L).drop m:=by exact rfl)(hf:Qhd ((dp,v)::L) m=true:=by exact rfl)(hC:∀w,C w->CJ () w:=by(intro w h;first|exact h|exact h.ent aEt)) :
  O X ops [⟨some dp,.pick c x y,ty,pos,aft,none⟩] (.join (At X.n X.df LJ CJ)::k) L C:=o_p (Xl rfl hc hb hx) hd (QqB (Qm8 m dp v hJ (by rw[Qq.get_cons,if_pos rfl]) hf hC))
end
section
variable{P:Program}{f:FuncId}{fn:Func}{n:Nat}{c:Code}{w w1:World}{R:Ending->World->Prop}{M:List Nat}{As:List HA}
theorem eN0(hf:P.funcs[f]?=some fn)(hn:fn.ntmps=n)(h:S {P:=P,fn:=fn,n:=n,R:=R} [.c c] (QdF 0 []) (HS w [] []))(hb:fn.body=some c:=by rfl)(hl:Nat.ble 0 n=true:=by rfl):Calls P f #[] w R:=enter (args:=[]) hf hn hb hl (HS.refl w []) h
theorem eN1{x0:Value}(hf:P.funcs[f]?=some fn)(hn:fn.ntmps=n)(h:S {P:=P,fn:=fn,n:=n,R:=R} [.c c] (QdF 0 [x0]) (HS w [] []))(hb:fn.body=some c:=by rfl)(hl:Nat.ble 1 n=true:=by rfl):Calls P f #[x0] w R:=enter (args:=[x0]) hf hn hb hl (HS.refl w []) h
theorem eW1{x0:Value}(hf:P.funcs[f]?=some fn)(hn:fn.ntmps=n)(hw:HS w1 M As w)(h:S {P:=P,fn:=fn,n:=n,R:=R} [.c c] (QdF 0 [x0]) (HS w1 M As))(hb:fn.body=some c:=by rfl)(hl:Nat.ble 1 n=true:=by rfl):Calls P f #[x0] w R:=enter (args:=[x0]) hf hn hb hl hw h
theorem eN2{x0:Value}{x1:Value}(hf:P.funcs[f]?=some fn)(hn:fn.ntmps=n)(h:S {P:=P,fn:=fn,n:=n,R:=R} [.c c] (QdF 0 [x0,x1]) (HS w [] []))(hb:fn.body=some c:=by rfl)(hl:Nat.ble 2 n=true:=by rfl):Calls P f #[x0,x1] w R:=enter (args:=[x0,x1]) hf hn hb hl (HS.refl w []) h
theorem eW2{x0:Value}{x1:Value}(hf:P.funcs[f]?=some fn)(hn:fn.ntmps=n)(hw:HS w1 M As w)(h:S {P:=P,fn:=fn,n:=n,R:=R} [.c c] (QdF 0 [x0,x1]) (HS w1 M As))(hb:fn.body=some c:=by rfl)(hl:Nat.ble 2 n=true:=by rfl):Calls P f #[x0,x1] w R:=enter (args:=[x0,x1]) hf hn hb hl hw h
theorem eN3{x0:Value}{x1:Value}{x2:Value}(hf:P.funcs[f]?=some fn)(hn:fn.ntmps=n)(h:S {P:=P,fn:=fn,n:=n,R:=R} [.c c] (QdF 0 [x0,x1,x2]) (HS w [] []))(hb:fn.body=some c:=by rfl)(hl:Nat.ble 3 n=true:=by rfl):Calls P f #[x0,x1,x2] w R:=enter (args:=[x0,x1,x2]) hf hn hb hl (HS.refl w []) h
theorem eW3{x0:Value}{x1:Value}{x2:Value}(hf:P.funcs[f]?=some fn)(hn:fn.ntmps=n)(hw:HS w1 M As w)(h:S {P:=P,fn:=fn,n:=n,R:=R} [.c c] (QdF 0 [x0,x1,x2]) (HS w1 M As))(hb:fn.body=some c:=by rfl)(hl:Nat.ble 3 n=true:=by rfl):Calls P f #[x0,x1,x2] w R:=enter (args:=[x0,x1,x2]) hf hn hb hl hw h
theorem eN4{x0:Value}{x1:Value}{x2:Value}{x3:Value}(hf:P.funcs[f]?=some fn)(hn:fn.ntmps=n)(h:S {P:=P,fn:=fn,n:=n,R:=R} [.c c] (QdF 0 [x0,x1,x2,x3]) (HS w [] []))(hb:fn.body=some c:=by rfl)(hl:Nat.ble 4 n=true:=by rfl):Calls P f #[x0,x1,x2,x3] w R:=enter (args:=[x0,x1,x2,x3]) hf hn hb hl (HS.refl w []) h
theorem eW4{x0:Value}{x1:Value}{x2:Value}{x3:Value}(hf:P.funcs[f]?=some fn)(hn:fn.ntmps=n)(hw:HS w1 M As w)(h:S {P:=P,fn:=fn,n:=n,R:=R} [.c c] (QdF 0 [x0,x1,x2,x3]) (HS w1 M As))(hb:fn.body=some c:=by rfl)(hl:Nat.ble 4 n=true:=by rfl):Calls P f #[x0,x1,x2,x3] w R:=enter (args:=[x0,x1,x2,x3]) hf hn hb hl hw h
theorem eN5{x0:Value}{x1:Value}{x2:Value}{x3:Value}{x4:Value}(hf:P.funcs[f]?=some fn)(hn:fn.ntmps=n)(h:S {P:=P,fn:=fn,n:=n,R:=R} [.c c] (QdF 0 [x0,x1,x2,x3,x4]) (HS w [] []))(hb:fn.body=some c:=by rfl)(hl:Nat.ble 5 n=true:=by rfl):Calls P f #[x0,x1,x2,x3,x4] w R:=enter (args:=[x0,x1,x2,x3,x4]) hf hn hb hl (HS.refl w []) h
theorem eW5{x0:Value}{x1:Value}{x2:Value}{x3:Value}{x4:Value}(hf:P.funcs[f]?=some fn)(hn:fn.ntmps=n)(hw:HS w1 M As w)(h:S {P:=P,fn:=fn,n:=n,R:=R} [.c c] (QdF 0 [x0,x1,x2,x3,x4]) (HS w1 M As))(hb:fn.body=some c:=by rfl)(hl:Nat.ble 5 n=true:=by rfl):Calls P f #[x0,x1,x2,x3,x4] w R:=enter (args:=[x0,x1,x2,x3,x4]) hf hn hb hl hw h
theorem eW6{x0:Value}{x1:Value}{x2:Value}{x3:Value}{x4:Value}{x5:Value}(hf:P.funcs[f]?=some fn)(hn:fn.ntmps=n)(hw:HS w1 M As w)(h:S {P:=P,fn:=fn,n:=n,R:=R} [.c c] (QdF 0 [x0,x1,x2,x3,x4,x5]) (HS w1 M As))(hb:fn.body=some c:=by rfl)(hl:Nat.ble 6 n=true:=by rfl):Calls P f #[x0,x1,x2,x3,x4,x5] w R:=enter (args:=[x0,x1,x2,x3,x4,x5]) hf hn hb hl hw h
end
theorem aU{p q:Prop}(hq:q)(h:(Unit->q)->p:=by(intro hq;first|refine Qwg ?_|refine Qo8 ?_|refine QqB ?_|refine QuW ?_|refine QsI ?_|refine Qwr ?_|refine oP ?_|refine oNo ?_|refine oFt ?_|refine oFf ?_|refine oFu ?_|refine o0t ?_|refine o0f ?_|refine oFa ?_|refine oLs ?_|refine oLd ?_|refine oLn ?_|refine oSt ?_);exact hq ()):p:=h λ_=>hq
theorem aT{p q:Prop}(hq:q)(h:(Unit->q)->p:=by(intro hq;refine aU ?_;try refine oWr ?_);exact hq ()):p:=h λ_=>hq
theorem aU2{p q:Prop}(hq:q)(h:(Unit->q)->p:=by(intro hq;iterate 2 refine aU ?_);exact hq ()):p:=h λ_=>hq
theorem aT2{p q:Prop}(hq:q)(h:(Unit->q)->p:=by(intro hq;(iterate 2 refine aU ?_);try refine oWr ?_);exact hq ()):p:=h λ_=>hq
theorem aU3{p q:Prop}(hq:q)(h:(Unit->q)->p:=by(intro hq;iterate 3 refine aU ?_);exact hq ()):p:=h λ_=>hq
theorem aT3{p q:Prop}(hq:q)(h:(Unit->q)->p:=by(intro hq;(iterate 3 refine aU ?_);try refine oWr ?_);exact hq ()):p:=h λ_=>hq
theorem aU4{p q:Prop}(hq:q)(h:(Unit->q)->p:=by(intro hq;iterate 4 refine aU ?_);exact hq ()):p:=h λ_=>hq
theorem aT4{p q:Prop}(hq:q)(h:(Unit->q)->p:=by(intro hq;(iterate 4 refine aU ?_);try refine oWr ?_);exact hq ()):p:=h λ_=>hq
theorem aU5{p q:Prop}(hq:q)(h:(Unit->q)->p:=by(intro hq;iterate 5 refine aU ?_);exact hq ()):p:=h λ_=>hq
theorem aT5{p q:Prop}(hq:q)(h:(Unit->q)->p:=by(intro hq;(iterate 5 refine aU ?_);try refine oWr ?_);exact hq ()):p:=h λ_=>hq
theorem aU6{p q:Prop}(hq:q)(h:(Unit->q)->p:=by(intro hq;iterate 6 refine aU ?_);exact hq ()):p:=h λ_=>hq
theorem aT6{p q:Prop}(hq:q)(h:(Unit->q)->p:=by(intro hq;(iterate 6 refine aU ?_);try refine oWr ?_);exact hq ()):p:=h λ_=>hq
theorem aU7{p q:Prop}(hq:q)(h:(Unit->q)->p:=by(intro hq;iterate 7 refine aU ?_);exact hq ()):p:=h λ_=>hq
theorem aT7{p q:Prop}(hq:q)(h:(Unit->q)->p:=by(intro hq;(iterate 7 refine aU ?_);try refine oWr ?_);exact hq ()):p:=h λ_=>hq
theorem aU8{p q:Prop}(hq:q)(h:(Unit->q)->p:=by(intro hq;iterate 8 refine aU ?_);exact hq ()):p:=h λ_=>hq
theorem aT8{p q:Prop}(hq:q)(h:(Unit->q)->p:=by(intro hq;(iterate 8 refine aU ?_);try refine oWr ?_);exact hq ()):p:=h λ_=>hq
theorem aU9{p q:Prop}(hq:q)(h:(Unit->q)->p:=by(intro hq;iterate 9 refine aU ?_);exact hq ()):p:=h λ_=>hq
theorem aT9{p q:Prop}(hq:q)(h:(Unit->q)->p:=by(intro hq;(iterate 9 refine aU ?_);try refine oWr ?_);exact hq ()):p:=h λ_=>hq
theorem Za{p q:Prop}(hq:q)(h:(Unit->q)->p:=by(intro hq;iterate 10 refine aU ?_);exact hq ()):p:=h λ_=>hq
theorem Qhi{p q:Prop}(hq:q)(h:(Unit->q)->p:=by(intro hq;(iterate 10 refine aU ?_);try refine oWr ?_);exact hq ()):p:=h λ_=>hq
theorem Zl{p q:Prop}(hq:q)(h:(Unit->q)->p:=by(intro hq;iterate 11 refine aU ?_);exact hq ()):p:=h λ_=>hq
theorem Zx{p q:Prop}(hq:q)(h:(Unit->q)->p:=by(intro hq;iterate 12 refine aU ?_);exact hq ()):p:=h λ_=>hq
theorem aT12{p q:Prop}(hq:q)(h:(Unit->q)->p:=by(intro hq;(iterate 12 refine aU ?_);try refine oWr ?_);exact hq ()):p:=h λ_=>hq
theorem Qau{p q:Prop}(hq:q)(h:(Unit->q)->p:=by(intro hq;iterate 13 refine aU ?_);exact hq ()):p:=h λ_=>hq
theorem QuP{p q:Prop}(hq:q)(h:(Unit->q)->p:=by(intro hq;(iterate 13 refine aU ?_);try refine oWr ?_);exact hq ()):p:=h λ_=>hq
theorem QeV{p q:Prop}(hq:q)(h:(Unit->q)->p:=by(intro hq;iterate 14 refine aU ?_);exact hq ()):p:=h λ_=>hq
theorem aT14{p q:Prop}(hq:q)(h:(Unit->q)->p:=by(intro hq;(iterate 14 refine aU ?_);try refine oWr ?_);exact hq ()):p:=h λ_=>hq
theorem QuK{p q:Prop}(hq:q)(h:(Unit->q)->p:=by(intro hq;iterate 15 refine aU ?_);exact hq ()):p:=h λ_=>hq
theorem QsN{p q:Prop}(hq:q)(h:(Unit->q)->p:=by(intro hq;iterate 16 refine aU ?_);exact hq ()):p:=h λ_=>hq
theorem aT16{p q:Prop}(hq:q)(h:(Unit->q)->p:=by(intro hq;(iterate 16 refine aU ?_);try refine oWr ?_);exact hq ()):p:=h λ_=>hq
theorem aU17{p q:Prop}(hq:q)(h:(Unit->q)->p:=by(intro hq;iterate 17 refine aU ?_);exact hq ()):p:=h λ_=>hq
theorem aT17{p q:Prop}(hq:q)(h:(Unit->q)->p:=by(intro hq;(iterate 17 refine aU ?_);try refine oWr ?_);exact hq ()):p:=h λ_=>hq
theorem aU19{p q:Prop}(hq:q)(h:(Unit->q)->p:=by(intro hq;iterate 19 refine aU ?_);exact hq ()):p:=h λ_=>hq
end Gx
namespace Go.Proofs
open Go Go.RowKit Gx
instance:TSe Tryz.prog 28 3:=⟨Tryz.underlying28⟩
instance:TSe Tryz.prog 35 69:=⟨Tryz.underlying35⟩
instance:TSe Tryz.prog 67 27:=⟨Tryz.underlying67⟩
instance:TSe Tryz.prog 139 5:=⟨Tryz.underlying139⟩
instance:TSe Tryz.prog 183 29:=⟨Tryz.underlying183⟩
instance:TSe Tryz.prog 285 67:=⟨Tryz.underlying285⟩
instance:TSe Tryz.prog 287 28:=⟨Tryz.underlying287⟩
/-- A call that answers v and writes to no old block. -/
abbrev CR(f:FuncId)(x:Array Value)(w:World)(v:Value):Prop:=Calls Tryz.prog f x w λen w'=>en=.returned v/\Below w.heap.size w w'
/-- A call that makes blocks. -/
abbrev CE{G:Type}(f:FuncId)(x:Array Value)(w:World)(M:List Nat)(V:G->Value)(F:G->Prop)(B:G->List HA):Prop:=Calls Tryz.prog f x w λen w'=>∃g,en=.returned (V g)/\F g/\HS w M (B g) w'
end Go.Proofs
/- What chapter 13's texts stand on. -/
namespace Go.Proofs
open Go Go.RowKit Gx
attribute [local irreducible] Go.Calls Gx.S Gx.O Gx.D Gx.OpP Gx.OpQ Gx.OpH
set_option maxRecDepth 20000
theorem Yo:tsl Tryz.prog 183=some (29,1,8):=by kernel_rfl
theorem Qrh:tsz Tryz.prog 29=some (1,false):=by kernel_rfl
theorem QpM:QY Tryz.prog 182=true:=by kernel_rfl
instance:TFn Tryz.prog 182:=⟨QpM⟩
theorem Qb8:QY Tryz.prog 167=true:=by kernel_rfl
instance:TFn Tryz.prog 167:=⟨Qb8⟩
instance:TFn Tryz.prog 124:=⟨by kernel_rfl⟩
theorem ZR:X9 Tryz.prog 29=some [.int .i64 0]:=by kernel_rfl
theorem QgX:QY Tryz.prog 125=true:=by kernel_rfl
instance:TFn Tryz.prog 125:=⟨QgX⟩
instance:TFn Tryz.prog 40:=⟨by kernel_rfl⟩
theorem Qlw(w:World)(n lo hi:Int):CR 182 #[.int .i64 n,.int .i64 lo,.int .i64 hi] w (.bool (decide (lo<=n)&&decide (n<=hi))):=by
 refine eN3 Tryz.func182 Tryz.ntmps182 ?_
 refine Za ?_
 refine XF 4 10 14 rfl
  (λhg1 _=>by
   refine aU6 ?_
   exact oJt 4 14)
  (λhg3 _=>by
   refine aU3 ?_
   exact oJf 4 14) ?_
 refine aU2 ?_
 exact rV
theorem c40(w:World)(n lo hi:Int):CR 40 #[.int .i64 n,.int .i64 lo,.int .i64 hi] w (.bool (decide (lo<=n)&&decide (n<=hi))):=by
 refine eN3 Tryz.func40 Tryz.ntmps40 ?_
 refine Za ?_
 refine XF 4 10 14 rfl
  (λhg1 _=>by
   refine aU6 ?_
   exact oJt 4 14)
  (λhg3 _=>by
   refine aU3 ?_
   exact oJf 4 14) ?_
 refine aU2 ?_
 exact rV
theorem Qd4(w:World)(ok:Bool)(e:Int):CR 167 #[.bool ok,.int .i64 e] w (.int .i64 (cond ok 0 e)):=by
 refine eN2 Tryz.func167 Tryz.ntmps167 ?_
 refine aU9 ?_
 refine sCd rfl (λh1=>?_) λh1=>?_
 ·refine aU4 ?_
  exact rV (h:=by simp_all[Xf])
 refine aU6 ?_
 exact rV (h:=by simp_all[Xf])
theorem c125(w:World)(a:Option Addr)(cap:Nat)(es:List Int)(hs:Sl w [] a 1 es.length (λi=>[.int .i64 (es.getD i 0)]))(hm:es.length<=1000):CR 125 #[.slice a es.length cap] w (.int .i64 (Zq es)):=by
 refine eN1 Tryz.func125 Tryz.ntmps125 ?_
 refine Zx ?_
 refine Qx (α:=Nat) [2,4,7,8,9,10,11,12,13,14] (λk=>[(7,.int .i64 (k:Int))]) (λ_=>_) (λk=>k<=es.length/\Zq es=Zq (es.drop k)) (λk=>es.length-k) 0 ⟨om,rfl⟩ aSx (λw h=>h) (λk hk=>?_)
 obtain⟨hk1,hk2⟩:=hk
 refine aU5 ?_
 refine sCd rfl (λh1=>?_) λh1=>?_
 ·refine aU5 ?_
  refine o_p (Qa rfl rfl rfl Yo _ rfl om (hs.some om)) rfl (o_q (Qc rfl rfl Qrh (hs.rd (i:=k) (j:=0) om rfl)) rfl (aU7 ?_))
  refine sCd rfl (λh2=>?_) λh2=>?_
  ·refine aU5 ?_
   exact rV (h:=by simp only[Xf];rw[hk2,ZQ om,if_neg (by assumption)])
  refine aT4 ?_
  refine aU2 ?_
  exact Q1 (k+1) om ⟨om,by rw[hk2,ZQ om,if_pos (by assumption)]⟩ aSx (λw h=>h)
 refine Qn rfl ?_
 refine aU4 ?_
 exact rV (h:=by simp only[Xf];rw[hk2,Qd8 om])
theorem QnS{w0 w:World}{M:List Nat}{As As':List HA}{b cap n:Nat}{t:TypeId}{tot:Nat}{cs:List Value}(h:HS w0 M As w)(hp:QE As (.blk b t tot cs) As')(hc:cs.all QhC=true)(hn:cs.length=n)(hl:n<=1000) :
    Calls Tryz.prog 125 #[.slice (some ⟨b,0,none⟩) n cap] w λen w'=>en=.returned (.int .i64 (Xr cs))/\Below w.heap.size w w':=by
  subst hn;have:=c125 w (some ⟨b,0,none⟩) cap (cs.map Go.RowKit.intOf) (by simpa using h.sl_ints hp hc) (by simpa using hl);rw[Qdz hc]at this
  simpa using this
theorem c124(w:World)(n:Int):CR 124 #[.int .i64 n] w (.int .i64 (QJ n)):=by
 refine eN1 Tryz.func124 Tryz.ntmps124 ?_
 refine aU7 ?_
 refine oCq rfl (λw1 h1=>Qlw w1 _ _ _) (oCq rfl (λw1 h1=>Qd4 w1 _ _) (aU2 ?_))
 exact rV (h:=by simp only[Xf,QJ,cond_eq_ite,Bool.and_eq_true,decide_eq_true_eq])
theorem Qb7{a b:Int}:Xr [.int .i64 a,.int .i64 b]=if a=0 then b else a:=by
  simp only[Xr]
  grind
theorem c155(w:World)(co mo rm:Int):CR 155 #[.int .i64 co,.int .i64 mo,.int .i64 rm] w (.int .i64 (if QJ co=0 then XW mo rm else QJ co)):=by
 refine eN3 Tryz.func155 Tryz.ntmps155 ?_
 refine aU7 ?_
 refine oCq rfl (λw1 h1=>Qlw w1 _ _ _) (aU ?_)
 refine XF 6 10 16 rfl
  (λhg1 _=>by
   refine aU5 ?_
   refine o_p (XQ rfl rfl rfl om om om) rfl (aU3 ?_)
   refine oCq rfl (λw1 h1=>Qlw w1 _ _ _) ?_
   exact oJt 6 16)
  (λhg3 _=>by
   refine aU5 ?_
   exact oJf 6 16) ?_
 refine aU5 ?_
 refine oCq rfl (λw1 h1=>c124 w1 _) (aU ?_)
 refine oCq rfl (λw1 h1=>Qd4 w1 _ _) (o_h (Qe (cs:=[_,_]) rfl rfl Yo ZR rfl rfl rfl) rfl (λb5 _=>oCq rfl (λw1 h1=>QnS h1 aPk (by rfl) (by rfl) (by decide)) (aU2 ?_)))
 exact rV (h:=by simp only[Xf];rw[Qb7];simp only[XW,cond_eq_ite,Bool.and_eq_true,decide_eq_true_eq])
theorem c96(w:World)(n:Int):CR 96 #[.int .i64 n] w (.int .i64 (QJ n)):=by
 refine eN1 Tryz.func96 Tryz.ntmps96 ?_
 refine aU8 ?_
 refine oCq rfl (λw1 h1=>c40 w1 _ _ _) (aU2 ?_)
 refine sCd rfl (λh1=>?_) λh1=>?_
 ·have hz:QJ n=15:=by have hq:=h1;unfold QJ;rw[if_neg (by first|omega|(simp at hq;omega))]
  refine aU4 ?_
  exact rV (h:=by rw[hz];rfl)
 have hz:QJ n=0:=by have hq:=h1;unfold QJ;rw[if_pos (by first|omega|(simp at hq;omega))]
 refine aU5 ?_
 exact rV (h:=by rw[hz];rfl)
theorem c97(w:World)(mo rm:Int):CR 97 #[.int .i64 mo,.int .i64 rm] w (.int .i64 (XW mo rm)):=by
 refine eN2 Tryz.func97 Tryz.ntmps97 ?_
 refine aU8 ?_
 refine oCq rfl (λw1 h1=>c40 w1 _ _ _) (aU2 ?_)
 refine oOr 7 8 15 rfl
  (λhg1 _=>by
   refine aU5 ?_
   refine o_p (XQ rfl rfl rfl om om om) rfl (aU3 ?_)
   refine oCq rfl (λw1 h1=>c40 w1 _ _ _) (aU2 ?_)
   exact oJf 7 15)
  (λhg3 _=>by
   refine aU6 ?_
   exact oJt 7 15) ?_
 refine aU ?_
 refine sCd rfl (λh5=>?_) λh5=>?_
 ·have hz:XW mo rm=2:=by have hq:=h5;unfold XW;rw[if_neg (by first|omega|(simp at hq;omega))]
  refine aU4 ?_
  exact rV (h:=by rw[hz];rfl)
 have hz:XW mo rm=0:=by have hq:=h5;unfold XW;rw[if_pos (by first|omega|(simp at hq;omega))]
 refine aU5 ?_
 exact rV (h:=by rw[hz];rfl)
theorem ZU:tki Tryz.prog 5=some .u8:=by kernel_rfl
theorem Y1:tki Tryz.prog 3=some .i64:=by kernel_rfl
instance:TFn Tryz.prog 151:=⟨by kernel_rfl⟩
theorem QoZ(a b:Int):Value.int .i64 (IntKind.i64.wrap ((if decide (b<a)=true then 1 else 0)-(if decide (a<b)=true then 1 else 0)))=Value.int .i64 (Yt a b):=by
  unfold Yt
  by_cases h1:a<b
  · have h2:¬b<a:=by omega
    simp only[h1,h2,decide_true,decide_false,Bool.false_eq_true,if_true,if_false];rfl
  · by_cases h2:b<a
    · simp only[h1,h2,decide_true,decide_false,Bool.false_eq_true,if_true,if_false];rfl
    · simp only[h1,h2,decide_true,decide_false,Bool.false_eq_true,if_true,if_false];rfl
def Qhn(c:Int):Int:=if 97<=c/\c<=122 then c-32 else c
theorem Qg9(u:UInt8):Qhn (u.toNat:Int)=((Qda u).toNat:Int):=by
  have hu:=u.toNat_lt;unfold Qhn Qda
  by_cases h:97<=u/\u<=122
  · have h2:=h;rw[UInt8.le_iff_toNat_le,UInt8.le_iff_toNat_le]at h2;have e97:(97:UInt8).toNat=97:=rfl;have e122:(122:UInt8).toNat=122:=rfl;rw[e97,e122]at h2;rw[if_pos h,if_pos om,UInt8.toNat_sub_of_le _ _ (by rw[UInt8.le_iff_toNat_le];show 32<=_;omega)];show(u.toNat:Int)-32=((u.toNat-32:Nat):Int);omega
  · have h2:=h;rw[UInt8.le_iff_toNat_le,UInt8.le_iff_toNat_le]at h2;have e97:(97:UInt8).toNat=97:=rfl;have e122:(122:UInt8).toNat=122:=rfl;rw[e97,e122]at h2;rw[if_neg h,if_neg om]
theorem c72(w:World)(s:List UInt8)(at' c:Nat)(hm:s.length<=1000000000)(hc:c<=7)(hac:at'+c<=s.length):CR 72 #[.string (bs s),.int .i64 (at':Int),.int .i64 (c:Int)] w (.int .i64 (Qb9 s at' c)):=by
 refine eN3 Tryz.func72 Tryz.ntmps72 ?_
 refine QuP ?_
 refine aU3 ?_
 refine Qx (α:=Nat) [7,8,11,12,13,14,15,16,17,18,19,20,21,22,23] (λj=>[(8,.int .i64 ((j:Int)-1)),(7,.int .i64 (Qb9 s (at'+j) (c-j)))]) (λ_=>_) (λj=>j<=c) (λj=>j) c (Nat.le_refl _) (by rw[Nat.sub_self];exact aSx) (λw h=>h) (λj hj=>?_)
 refine aU6 ?_
 refine sCd rfl (λh1=>?_) λh1=>?_
 ·obtain⟨i,rfl⟩:∃i,j=i+1:=⟨j-1,om⟩
  have hst:Qb9 s (at'+i) (c-i)=at1 s (at'+i)+256*Qb9 s (at'+(i+1)) (c-(i+1)):=by rw[show c-i=(c-(i+1))+1 by omega,Qb9];rfl
  have hb1:=Qdb s (at'+i)
  have hn6:=Qug s (at'+(i+1)) (k:=c-(i+1)) om
  have hb9:=(s.getD (at'+i) 0).toNat_lt
  refine aT6 ?_
  refine aT4 ?_
  refine Qh (show _=Value.int .i64 ((at'+i:Nat):Int)from by congr 1;omega) (o_p (XO rfl rfl rfl Tryz.underlying9 (at'+i) om om) rfl ?_)
  refine o_p (Qy rfl rfl ZU Y1) rfl ?_
  try refine oWr ?_
  refine aT ?_
  refine Qh (show _=Value.int .i64 (Qb9 s (at'+i) (c-i))from by rw[hst];congr 1;show _*256+at1 s (at'+i)=_;omega) (aT6 ?_)
  refine aU2 ?_
  exact Q1 i om om (by rw[show((i:Int)-1)=((i+1:Nat):Int)-1-1 from om];exact aSx) (λw h=>h)
 obtain rfl:j=0:=om
 rw[Nat.add_zero,Nat.sub_zero]
 refine Qn rfl ?_
 refine aU5 ?_
 exact rV
theorem Qr8(w:World)(b:Bool):CR 151 #[.bool b] w (.int .i64 (if b then 1 else 0)):=by
 refine eN1 Tryz.func151 Tryz.ntmps151 ?_
 refine aU9 ?_
 refine sCd rfl (λh1=>?_) λh1=>?_
 ·refine aU4 ?_
  exact rV (h:=by simp_all[Xf])
 refine aU5 ?_
 exact rV (h:=by simp_all[Xf])
theorem c35(w:World)(n:Int):CR 35 #[.int .i64 n] w (.bool (decide (0<=n)&&decide (n<=2147483647))):=by
 refine eN1 Tryz.func35 Tryz.ntmps35 ?_
 refine aU7 ?_
 refine oCq rfl (λw1 h1=>c40 w1 _ _ _) (aU2 ?_)
 exact rV
theorem Qrk(w:World)(a b:Int):CR 133 #[.int .i64 a,.int .i64 b] w (.int .i64 (Yt a b)):=by
 refine eN2 Tryz.func133 Tryz.ntmps133 ?_
 refine aU9 ?_
 refine oCq rfl (λw1 h1=>Qr8 w1 _) (aU3 ?_)
 refine oCq rfl (λw1 h1=>Qr8 w1 _) (aU ?_)
 refine Qh (show _=Value.int .i64 (Yt a b)from QoZ a b) (aU2 ?_)
 exact rV
theorem c134(w:World)(c:Int)(h0:0<=c/\c<=255):CR 134 #[.int .i64 c] w (.int .i64 (Qhn c)):=by
 refine eN1 Tryz.func134 Tryz.ntmps134 ?_
 refine aU8 ?_
 refine oCq rfl (λw1 h1=>c40 w1 _ _ _) (aU ?_)
 refine sCd rfl (λh1=>?_) λh1=>?_
 ·have hz:Qhn c=c-97+65:=by have hq:=h1;unfold Qhn;rw[if_pos (by first|exact hq|(simp at hq;omega))];omega
  refine aT4 ?_
  refine aT ?_
  refine aU2 ?_
  exact rV (h:=by rw[hz];rfl)
 have hz:Qhn c=c:=by have hq:=h1;unfold Qhn;rw[if_neg (by intro h9;first|exact hq h9|(simp at hq;omega))]
 refine aU6 ?_
 exact rV (h:=by rw[hz];rfl)
theorem Q0:tsl Tryz.prog 139=some (5,1,1):=by kernel_rfl
theorem Qef:tsz Tryz.prog 5=some (1,false):=by kernel_rfl
instance:TSz Tryz.prog 5 1 false:=⟨Qef⟩
theorem YR:tki Tryz.prog 188=some .u16:=by kernel_rfl
theorem QC:Tryz.prog.follows .mixedOrders=true:=by kernel_rfl
theorem QpG:QY Tryz.prog 268=true:=by kernel_rfl
theorem ZA:tki Tryz.prog 190=some .u32:=by kernel_rfl
instance:TFn Tryz.prog 255:=⟨by kernel_rfl⟩
instance:TFn Tryz.prog 256:=⟨by kernel_rfl⟩
theorem Quu:isCS Tryz.prog 254:=⟨_,Tryz.func254,rfl,rfl,by kernel_rfl,by kernel_rfl⟩
instance:TFn Tryz.prog 226:=⟨by kernel_rfl⟩
theorem c268(w:World)(a:Option Addr)(m cap:Nat)(x:List UInt8)(hs:Vl w a (x.map bv))(hm:x.length=m)(h2:2<=m)(hc:m<=cap)(hc9:cap<=9223372036854775807):CR 268 #[.slice a m cap] w (.int .u16 (at2 x 0)):=by
 refine eN1 Tryz.func268 Tryz.ntmps268 ?_
 refine aU5 ?_
 refine Qt [] QC ?_
 refine dP 0 ?_
 refine dV 1 rfl (Qa rfl rfl rfl Q0 0 rfl om (hs.some (by rw[List.length_map];omega))) (dQ 2 [] rfl (Qc rfl rfl Qef ((hs.rd (i:=0) (QaP (l:=x) (k:=0) om)))) (dV 3 rfl (Qy rfl rfl ZU YR) (dP 4 ?_)))
 refine dV 5 rfl (Qa rfl rfl rfl Q0 1 rfl om (hs.some (by rw[List.length_map];omega))) (dQ 6 [] rfl (Qc rfl rfl Qef ((hs.rd (i:=1) (QaP (l:=x) (k:=1) om)))) (dV 7 rfl (Qy rfl rfl ZU YR) (dV 8 rfl (QgK rfl rfl rfl (by decide) 8 rfl) (dP 9 ?_))))
 refine dP 10 ?_
 refine dNi ?_
 exact rV (h:=by rw[<-Qj3];rfl)
theorem c255(w:World)(a:Option Addr)(m cap:Nat)(x:List UInt8)(hs:Vl w a (x.map bv))(hm:x.length=m)(h2:4<=m)(hc:m<=cap)(hc9:cap<=9223372036854775807):CR 255 #[.slice a m cap] w (.int .u32 (at4 x 0)):=by
 have hx2:=Qbn x 0
 have hx3:=Qbn x 2
 refine eN1 Tryz.func255 Tryz.ntmps255 ?_
 refine aU5 ?_
 refine Qt [] QC ?_
 refine dP 0 ?_
 refine dQ 1 [] rfl (Qv rfl QpG rfl (λw1 h1=>c268 w1 a m cap x (hs.later h1) hm om hc hc9)) (dV 2 rfl (Qy rfl rfl YR ZA) (dP 3 ?_))
 refine dV 4 rfl (QG _ _ 2 m rfl rfl Q0 ⟨_,_,rfl,rfl⟩ rfl om om) (dQ 5 [] rfl (Qv rfl QpG rfl (λw1 h1=>c268 w1 (YY a cap 2 1) (m-2) (cap-2) (x.drop 2) (by rw[List.map_drop];exact(hs.later h1).drop (by rw[List.length_map];omega) om) (by rw[List.length_drop];omega) om om om)) (dV 6 rfl (Qy rfl rfl YR ZA) (dV 7 rfl (QgK rfl rfl rfl (by decide) 16 rfl) (dP 8 ?_))))
 refine dP 9 ?_
 refine dNi ?_
 exact rV (h:=by have h9:=Qjr (at2 x 0) (at2 (x.drop 2) 0) (Qbn _ _) (Qbn _ _);rw[QbW]at h9 ⊢;exact(congrArg Ending.returned h9))
theorem Qu2(w:World)(s:List UInt8)(p:Nat)(hm:s.length<=1000000)(hp:p+4<=s.length):CR 227 #[.string (bs s),.int .i64 (p:Int)] w (.int .u32 (at4 s p)):=by
 have h4:=Qie s p
 have hdl:(s.drop p).length=s.length-p:=List.length_drop
 refine eN2 Tryz.func227 Tryz.ntmps227 ?_
 refine aU8 ?_
 refine o_p (Zj p rfl rfl rfl Tryz.underlying9 rfl om) rfl (o_h (Qcc rfl rfl Tryz.underlying9 Tryz.underlying139 Tryz.underlying5 rfl (by simp only[maxLen];omega)) rfl (λ⟨b1,c2⟩⟨h3,k4⟩=>oCq rfl (λw1 h1=>by have h9:=c255 w1 (some ⟨b1,0,none⟩) (s.drop p).length c2 (s.drop p) (h1.vl_blk aPk) rfl om (by assumption) (by have hq9:c2<=maxLen:=(by assumption);simp only[maxLen]at hq9;omega);rw[Qf3,Nat.add_zero]at h9;exact h9) (aU2 ?_)))
 exact rV
theorem c256(w:World)(x:Int):CR 256 #[.int .u32 x] w (.bool false):=by
 refine eN1 Tryz.func256 Tryz.ntmps256 ?_
 refine Zl ?_
 exact rV (h:=by simp[Xf])
theorem c228(w:World)(x y:Int):CR 228 #[.int .u32 x,.int .u32 y] w (.int .i64 (Yt x y)):=by
 refine eN2 Tryz.func228 Tryz.ntmps228 ?_
 refine aU7 ?_
 refine oCq rfl (λw1 h1=>c256 w1 _) (aU5 ?_)
 refine oCq rfl (λw1 h1=>c256 w1 _) (aU7 ?_)
 refine sCd rfl (λh1=>?_) λh1=>?_
 ·exfalso;simp at h1
 refine aU6 ?_
 refine sCd rfl (λh2=>?_) λh2=>?_
 ·exfalso;simp at h2
 refine aU8 ?_
 refine sCd rfl (λh3=>?_) λh3=>?_
 ·have hz:Yt x y= -1:=by have hq:=h3;unfold Yt;rw[if_pos hq]
  refine aU4 ?_
  exact rV (h:=by rw[hz];rfl)
 refine aU8 ?_
 refine sCd rfl (λh4=>?_) λh4=>?_
 ·have hz:Yt x y=1:=by have hq:=h4;unfold Yt;rw[if_neg om,if_pos hq]
  refine aU4 ?_
  exact rV (h:=by rw[hz];rfl)
 have hz:Yt x y=0:=by have hq:=h4;unfold Yt;rw[if_neg om,if_neg hq]
 refine aU5 ?_
 exact rV (h:=by rw[hz];rfl)
theorem c226(w:World)(a b:List UInt8):CR 226 #[.string (bs a),.string (bs b)] w (.int .i64 (Yz a b)):=by
 refine eN2 Tryz.func226 Tryz.ntmps226 ?_
 refine aU8 ?_
 refine o_q (QjZ rfl rfl rfl Quu) rfl (aU2 ?_)
 exact rV
theorem c184(w:World)(a b:List UInt8):CR 184 #[.string (bs a),.string (bs b)] w (.int .i64 (Yz a b)):=by
 refine eN2 Tryz.func184 Tryz.ntmps184 ?_
 refine aU8 ?_
 refine oCq rfl (λw1 h1=>c226 w1 _ _) (aU2 ?_)
 exact rV
instance:TFn Tryz.prog 227:=⟨by kernel_rfl⟩
instance:TFn Tryz.prog 228:=⟨by kernel_rfl⟩
instance:TFn Tryz.prog 189:=⟨by kernel_rfl⟩
def Qcl(s:List UInt8)(q:Nat):Bool:=(List.range q).all λi=>Qfh s (4*i)
theorem Qn9{s:List UInt8}{q k:Nat}(hk:k<q)(h:2147483647<at4 s (4*k)):Qcl s q=false:=by
  unfold Qcl;rw[List.all_eq_false];exact⟨k,List.mem_range.2 hk,by unfold Qfh;simp;omega⟩
theorem Qjo{s:List UInt8}{k:Nat}(h:Qcl s k=true)(h2:¬2147483647<at4 s (4*k)):Qcl s (k+1)=true:=by
  unfold Qcl at h ⊢;rw[List.range_succ,List.all_append,h];unfold Qfh;simp;omega
def Qc6(a b:List UInt8):Nat->Nat->Int
  | 0,_=>0
  | f+1,k=>if Yt (at4 a (4*k)) (at4 b (4*k))≠0 then Yt (at4 a (4*k)) (at4 b (4*k))else Qc6 a b f (k+1)
theorem c189(w:World)(s:List UInt8)(q:Nat)(hm:s.length<=1000000)(hq:q<=1000):CR 189 #[.string (bs s),.int .i64 ((4*q:Nat):Int)] w (.bool (decide (s.length=4*q)&&Qcl s q)):=by
 refine eN2 Tryz.func189 Tryz.ntmps189 ?_
 refine aU8 ?_
 refine o_p (Qp rfl rfl Tryz.underlying9) rfl (aU3 ?_)
 refine sCd rfl (λh1=>?_) λh1=>?_
 ·have hne:¬s.length=4*q:=by have hq9:=h1;omega
  refine aU4 ?_
  exact rV (h:=by simp[Xf,hne])
 have heq:s.length=4*q:=by have hq9:=h1;omega
 refine aU7 ?_
 refine Qx (α:=Nat) [4,5,10,11,12,13,14,15,16,17,18] (λk=>[(5,.int .i64 ((4*k:Nat):Int))]) (λ_=>_) (λk=>k<=q/\Qcl s k=true) (λk=>q-k) 0 ⟨Nat.zero_le _,rfl⟩ aSx (λw h=>h) (λk hx=>?_)
 obtain⟨hk1,hok⟩:=hx
 refine aU7 ?_
 refine sCd rfl (λh2=>?_) λh2=>?_
 ·have hk:k<q:=by omega
  refine aU7 ?_
  refine oCq rfl (λw1 h1=>Qu2 w1 s (4*k) om om) (aU2 ?_)
  refine sCd rfl (λh3=>?_) λh3=>?_
  ·have hz:=Qn9 hk h3
   refine aU4 ?_
   exact rV (h:=by simp[Xf,hz])
  have hz:=Qjo hok h3
  refine aT5 ?_
  refine aU2 ?_
  exact Q1 (k+1) om ⟨om,hz⟩ (by rw[show(((4*k:Nat)):Int)+4=((4*(k+1):Nat):Int)from om];exact aSx) (λw h=>h)
 obtain rfl:k=q:=om
 refine Qn rfl ?_
 refine aU4 ?_
 exact rV (h:=by simp[Xf,heq,hok])
theorem c190(w:World)(a b:List UInt8)(q:Nat)(ha:a.length=4*q)(hb:b.length=4*q)(hq:q<=1000):CR 190 #[.string (bs a),.string (bs b)] w (.int .i64 (Qc6 a b q 0)):=by
 refine eN2 Tryz.func190 Tryz.ntmps190 ?_
 refine Za ?_
 refine Qx (α:=Nat) [4,5,6,7,8,9,10,11,12,13,14,15,16,17,18,19,20,21,22] (λk=>[(5,.int .i64 ((4*k:Nat):Int))]) (λ_=>_) (λk=>k<=q/\Qc6 a b q 0=Qc6 a b (q-k) k) (λk=>q-k) 0 ⟨Nat.zero_le _,rfl⟩ aSx (λw h=>h) (λk hx=>?_)
 obtain⟨hk1,hx2⟩:=hx
 refine aU5 ?_
 refine o_p (Qp rfl rfl Tryz.underlying9) rfl (aU2 ?_)
 refine sCd rfl (λh1=>?_) λh1=>?_
 ·have hk:k<q:=by omega
  have hst:Qc6 a b (q-k) k=if Yt (at4 a (4*k)) (at4 b (4*k))≠0 then Yt (at4 a (4*k)) (at4 b (4*k))else Qc6 a b (q-(k+1)) (k+1):=by rw[show q-k=(q-(k+1))+1 by omega,Qc6]
  refine aU7 ?_
  refine oCq rfl (λw1 h1=>Qu2 w1 a (4*k) om om) (aU2 ?_)
  refine oCq rfl (λw1 h1=>Qu2 w1 b (4*k) om om) (oCq rfl (λw1 h1=>c228 w1 _ _) (aU7 ?_))
  refine sCd rfl (λh2=>?_) λh2=>?_
  ·have hq9:Yt (at4 a (4*k)) (at4 b (4*k))≠0:=h2
   rw[hst,if_pos hq9]at hx2
   refine aU5 ?_
   exact rV (h:=by rw[hx2];rfl)
  have hq9:¬Yt (at4 a (4*k)) (at4 b (4*k))≠0:=by have hq8:=h2;simpa using hq8
  rw[hst,if_neg hq9]at hx2
  refine aT5 ?_
  refine aU2 ?_
  exact Q1 (k+1) om ⟨om,hx2⟩ (by rw[show(((4*k:Nat)):Int)+4=((4*(k+1):Nat):Int)from om];exact aSx) (λw h=>h)
 obtain rfl:k=q:=om
 rw[Nat.sub_self,Qc6]at hx2
 refine Qn rfl ?_
 refine aU4 ?_
 exact rV (h:=by rw[hx2];rfl)
theorem c188(w:World)(s:List UInt8)(hm:s.length<=1000000):CR 188 #[.string (bs s)] w (.bool (QW 2 s)):=by
 refine eN1 Tryz.func188 Tryz.ntmps188 ?_
 refine aU7 ?_
 refine oCq rfl (λw1 h1=>c189 w1 s 1 hm (by decide)) (aU2 ?_)
 exact rV (h:=by simp[Xf,QW,Qcl,List.range_succ,List.range_zero])
theorem c191(w:World)(s:List UInt8)(hm:s.length<=1000000):CR 191 #[.string (bs s)] w (.bool (QW 3 s)):=by
 refine eN1 Tryz.func191 Tryz.ntmps191 ?_
 refine aU7 ?_
 refine oCq rfl (λw1 h1=>c189 w1 s 2 hm (by decide)) (aU2 ?_)
 exact rV (h:=by simp[Xf,QW,Qcl,List.range_succ,List.range_zero])
theorem c183(w:World)(s:List UInt8):CR 183 #[.string (bs s)] w (.bool (QW 0 s)):=by
 refine eN1 Tryz.func183 Tryz.ntmps183 ?_
 refine aU7 ?_
 refine o_p (Qp rfl rfl Tryz.underlying9) rfl (oCq rfl (λw1 h1=>Qlw w1 _ _ _) (aU2 ?_))
 exact rV (h:=by simp[Xf,QW,Bool.decide_and];first|done|(congr 1<;>simp<;>omega)|grind)
theorem c185(w:World)(s:List UInt8):CR 185 #[.string (bs s)] w (.bool (QW 1 s)):=by
 refine eN1 Tryz.func185 Tryz.ntmps185 ?_
 refine aU7 ?_
 refine o_p (Qp rfl rfl Tryz.underlying9) rfl (oCq rfl (λw1 h1=>Qlw w1 _ _ _) (aU2 ?_))
 exact rV (h:=by simp[Xf,QW,Bool.decide_and];first|done|(congr 1<;>simp<;>omega)|grind)
theorem Qpr:X9 Tryz.prog 181=some [.nilFunc,.nilFunc,.nilFunc,.nilFunc,.nilFunc,.nilFunc,.nilFunc,.nilFunc]:=by kernel_rfl
theorem QiH:Qab Tryz.prog 164=some [(0,1),(1,1)]:=by kernel_rfl
theorem QiF:X9 Tryz.prog 164=some [.nilFunc,.nilFunc]:=by kernel_rfl
theorem QgV:tar Tryz.prog 181=some (4,164,2):=by kernel_rfl
theorem Qq1:tsz Tryz.prog 181=some (8,true):=by kernel_rfl
instance:TSz Tryz.prog 181 8 true:=⟨Qq1⟩
theorem Qk9:QY Tryz.prog 127=true:=by kernel_rfl
instance:TFn Tryz.prog 127:=⟨Qk9⟩
theorem QgQ:tsz Tryz.prog 164=some (2,true):=by kernel_rfl
instance:TSz Tryz.prog 164 2 true:=⟨QgQ⟩
theorem QpO:tfd Tryz.prog 164 0=some (0,103):=by kernel_rfl
theorem Qvu:tsz Tryz.prog 103=some (1,false):=by kernel_rfl
def QeT(co:Int):Nat:=if co=0 then 183 else if co=1 then 185 else if co=2 then 188 else 191
def Qe0(co:Int):Nat:=if co=0 then 184 else if co=1 then 186 else 190
def Qby(f:Nat):Value:=.func (.func f) #[] #[]
def ordV(co:Int):Value:=.agg #[Qby (QeT co),Qby (Qe0 co)]
theorem Qsu(w:World):CR 127 #[] w (.agg #[Qby (QeT 0),Qby (Qe0 0),Qby (QeT 1),Qby (Qe0 1),Qby (QeT 2),Qby (Qe0 2),Qby (QeT 3),Qby (Qe0 3)]):=by
 refine eN0 Tryz.func127 Tryz.ntmps127 ?_
 refine aU2 ?_
 refine oAl (λb1 _=>?_) Qpr
 refine aU3 ?_
 refine o_p (QF (cs:=[_,_]) rfl rfl QiH QiF rfl) rfl (o_p (QF (cs:=[_,_]) rfl rfl QiH QiF rfl) rfl (o_p (QF (cs:=[_,_]) rfl rfl QiH QiF rfl) rfl (o_p (QF (cs:=[_,_]) rfl rfl QiH QiF rfl) rfl (o_p (QkX (cs:=[_,_,_,_,_,_,_,_]) rfl rfl QgV Qpr rfl) rfl (aU2 ?_)))))
 exact Qk (rs:=[.cell 0 181]) rfl (.cell rfl Qq1 aPk rfl (.nil)) (λw' h'=>⟨by rfl,h'.below⟩)
theorem QvO(co:Int):QY Tryz.prog (QeT co)=true:=by
  unfold QeT;split
  · kernel_rfl
  · split
    · kernel_rfl
    · split<;>kernel_rfl
theorem Qom(w:World)(j:Nat)(s:List UInt8)(hj:j<=3)(hm:s.length<=1000000):Calls Tryz.prog (QeT (j:Int)) #[.string (bs s)] w λen w'=>en=.returned (.bool (QW (j:Int) s))/\Below w.heap.size w w':=by
  match j,hj with
  | 0,_=>exact c183 w s
  | 1,_=>exact c185 w s
  | 2,_=>exact c188 w s hm
  | 3,_=>exact c191 w s hm
theorem Qem(j:Nat)(hj:j<=3):Value.agg (cut [Qby (QeT 0),Qby (Qe0 0),Qby (QeT 1),Qby (Qe0 1),Qby (QeT 2),Qby (Qe0 2),Qby (QeT 3),Qby (Qe0 3)] (j*2) 2).toArray=ordV (j:Int):=by
  match j,hj with
  | 0,_=>rfl
  | 1,_=>rfl
  | 2,_=>rfl
  | 3,_=>rfl
theorem QsZ(w:World)(j:Nat)(s:List UInt8)(hj:j<=3)(hm:s.length<=1000000):CR 126 #[.int .i64 (j:Int),.string (bs s)] w (.int .i64 (X3 (j:Int) s)):=by
 refine eN2 Tryz.func126 Tryz.ntmps126 ?_
 refine aU6 ?_
 refine oCq rfl (λw1 h1=>Qsu w1) (aU ?_)
 refine o_p (Qev rfl rfl rfl QgV QgQ j rfl om) rfl (Qh (Qem j hj) (o_p (Qjc rfl rfl QpO Qvu rfl) rfl (aU ?_)))
 refine o_q (XX rfl rfl (QvO _) rfl (λw1 h1=>Qom w1 j s hj hm)) rfl (oCq rfl (λw1 h1=>Qd4 w1 _ _) (aU2 ?_))
 exact rV (h:=by simp only[Xf,X3,cond_eq_ite])
instance:TFn Tryz.prog 187:=⟨by kernel_rfl⟩
instance:TFn Tryz.prog 184:=⟨by kernel_rfl⟩
theorem bset{L:List UInt8}{k:Nat}{x:UInt8}{v:Value}(h:k<L.length)(hv:v=bv x):Qu (L.map bv) (k*1) [v]=(L.set k x).map bv:=by
  subst hv;have h9:=QaL (vals:=byV) (sz:=1) (λ_=>rfl) L k 0 [bv x] (L.getD k 0) x (by rw[List.getElem?_eq_getElem h,List.getD_eq_getElem?_getD,List.getElem?_eq_getElem h];rfl) rfl (by simp);rw[Nat.add_zero]at h9;have e:∀M:List UInt8,M.flatMap byV=M.map bv:=λM=>QqF bv M;rw[e,e]at h9;exact h9
def QdI(s:List UInt8)(k:Nat):List UInt8:=(s.map Qda).take k++s.drop k
theorem QcF{s:List UInt8}{k:Nat}(h:k<=s.length):(QdI s k).length=s.length:=by simp[QdI];omega
theorem Qjh{s:List UInt8}{k:Nat}(h:k<s.length):(QdI s k).getD k 0=s.getD k 0:=by
  unfold QdI;rw[List.getD_eq_getElem?_getD,List.getElem?_append_right (by simp;omega),List.getElem?_drop,List.getD_eq_getElem?_getD];congr 2;simp;omega
theorem QjH{s:List UInt8}{k:Nat}(h:k<s.length):(QdI s k).set k (Qda (s.getD k 0))=QdI s (k+1):=by
  unfold QdI;apply List.ext_getElem?;intro j;simp only[List.getElem?_set,List.getElem?_append,List.getElem?_take,List.getElem?_drop,List.length_append,List.length_take,List.length_map,List.length_drop,List.getElem?_map,List.getD_eq_getElem?_getD];have hk:=List.getElem?_eq_getElem h
  grind
theorem Quw(s:List UInt8):QdI s 0=s:=by simp[QdI]
theorem Qqy(s:List UInt8):QdI s s.length=s.map Qda:=by
  unfold QdI;rw[List.drop_length,List.append_nil,List.take_of_length_le (by simp)]
theorem Qop{s:List UInt8}{k:Nat}(h:k<s.length)(hc:Qda (s.getD k 0)=s.getD k 0):QdI s k=QdI s (k+1):=by
  rw[<-QjH h,hc];apply List.ext_getElem?;intro j;rw[List.getElem?_set];split
  · rename_i e;subst e;rw[<-Qjh h,List.getD_eq_getElem?_getD];rw[if_pos (by rw[QcF om];exact h),List.getElem?_eq_getElem (by rw[QcF om];exact h)];rfl
  · rfl
theorem Qrn{x:UInt8}(h:97<=x.toNat/\x.toNat<=122):Value.int .u8 (IntKind.u8.wrap (IntKind.u8.wrap ((x.toNat:Int)-97)+65))=bv (Qda x):=by
  have h2:=Qg9 x;unfold Qhn at h2;rw[if_pos om]at h2;rw[show(x.toNat:Int)-97=((x.toNat-97:Nat):Int) by omega,QmH _ om,show((x.toNat-97:Nat):Int)+65=((x.toNat-32:Nat):Int) by omega,QmH _ om];unfold bv;exact congrArg (Value.int .u8) om
theorem Qu9{x:UInt8}(h:¬(97<=x.toNat/\x.toNat<=122)):Qda x=x:=by
  have h2:=Qg9 x;unfold Qhn at h2;rw[if_neg om]at h2;exact UInt8.toNat_inj.1 om
theorem c187(w:World)(s:List UInt8)(hm:s.length<=1000000):CR 187 #[.string (bs s)] w (.string (bs (s.map Qda))):=by
 refine eN1 Tryz.func187 Tryz.ntmps187 ?_
 refine aU7 ?_
 refine o_h (Qcc rfl rfl Tryz.underlying9 Tryz.underlying139 Tryz.underlying5 rfl (by simp only[maxLen];omega)) rfl (λ⟨b1,c2⟩⟨h3,k4⟩=>Za ?_)
 refine Qx (α:=Nat) [4,5,10,11,12,13,14,15,16,17,18,19,20,21,22,23,24,25,26,27] (λk=>[(10,.int .i64 (k:Int))]) (λk=>HS w [] [.blk b1 5 c2 ((QdI s k).map bv)]) (λk=>k<=s.length) (λk=>s.length-k) 0 (Nat.zero_le _) aSx (λw h=>by rw[Quw];exact h.ent aEt) (λk hk1=>?_)
 refine aU5 ?_
 refine sCd rfl (λh5=>?_) λh5=>?_
 ·have hk:k<s.length:=by omega
  have hb9:=(s.getD k 0).toNat_lt
  refine aU6 ?_
  refine o_p (Qa rfl rfl rfl Q0 (k) om om rfl) rfl (o_q (Qf rfl rfl Qef (λw h=>by rw[Nat.zero_add];exact h.rd_blk (Mc:=[]) aPk (by rw[Nat.mul_one,QaP (by rw[QcF hk1];exact hk),Qjh hk]) (by simp))) rfl (aU8 ?_))
  refine XF 3 17 20 rfl
   (λhg6 _=>by
    refine aU4 ?_
    exact oJt 3 20)
   (λhg8 _=>by
    refine aU2 ?_
    exact oJf 3 20) ?_
  refine aU ?_
  refine XY (α:=Unit) [21,22,23,24,25,26] (λ_=>[]) (λ_=>HS w [] [.blk b1 5 c2 ((QdI s (k+1)).map bv)]) (λ_=>True) ?_ ?_
  ·skip
   refine sCd rfl (λh10=>?_) λh10=>?_
   ·have hcc:97<=(s.getD k 0).toNat/\(s.getD k 0).toNat<=122:=by have hq:=h10;omega
    refine aU6 ?_
    try (refine Qh (u8add _ _) ?_)
    refine Qh (Qrn hcc) (o_p (Qa rfl rfl rfl Q0 (k) om om rfl) rfl (Qh (show _=Value.pointer (some ⟨b1,k*1,none⟩)from by rw[Nat.zero_add]) (ZV (Xo rfl rfl rfl Qef rfl aPt (by rw[List.length_map,QcF hk1];omega) rfl) (λ_ _=>aU ?_))))
    exact Qo () trivial aSx (λw h=>by have h2:=HS.blk_to (b:=b1) h aPk (bset (L:=QdI s k) (x:=Qda (s.getD k 0)) (by rw[QcF hk1];exact hk) rfl);rw[QjH hk]at h2;exact h2.ent aEt)
   have hno:Qda (s.getD k 0)=s.getD k 0:=Qu9 (by have hq:=h10;omega)
   refine aU ?_
   exact Qo () trivial aSx (λw h=>by rw[<-Qop hk hno];exact h.ent aEt)
  intro _ _
  refine aT3 ?_
  refine aU2 ?_
  exact sBk (k+1)
 obtain rfl:k=s.length:=om
 rw[Qqy]
 refine Qn rfl ?_
 refine aU3 ?_
 refine o_q (YC rfl rfl Tryz.underlying139 Tryz.underlying9 Tryz.underlying5 aPk (by simp[List.length_map]) (Zy _)) rfl (aU2 ?_)
 exact rV (h:=by simp only[Y4];rfl)
theorem c186(w:World)(a b:List UInt8)(ha:a.length<=1000000)(hb:b.length<=1000000):CR 186 #[.string (bs a),.string (bs b)] w (.int .i64 (Yz (a.map Qda) (b.map Qda))):=by
 refine eN2 Tryz.func186 Tryz.ntmps186 ?_
 refine aU7 ?_
 refine oCq rfl (λw1 h1=>c187 w1 a ha) (aU ?_)
 refine oCq rfl (λw1 h1=>c187 w1 b hb) (oCq rfl (λw1 h1=>c184 w1 _ _) (aU2 ?_))
 exact rV
theorem Qp1:QY Tryz.prog 126=true:=by kernel_rfl
instance:TFn Tryz.prog 126:=⟨Qp1⟩
theorem QjA:tfd Tryz.prog 164 1=some (1,162):=by kernel_rfl
instance:TFd Tryz.prog 164 1 1 162:=⟨QjA⟩
theorem QdW:tsz Tryz.prog 162=some (1,false):=by kernel_rfl
instance:TSz Tryz.prog 162 1 false:=⟨QdW⟩
theorem QsL(a b:List UInt8):Qc6 a b 1 0=QX 2 a b:=by
  simp only[Qc6,QX,Nat.mul_zero];split
  · rfl
  · rename_i h;simp only[ne_eq,Decidable.not_not]at h;rw[h];rfl
theorem Qs7(a b:List UInt8):Qc6 a b 2 0=QX 3 a b:=by
  have e:QX 3 a b=if Yt (at4 a 0) (at4 b 0)≠0 then Yt (at4 a 0) (at4 b 0)else Yt (at4 a 4) (at4 b 4):=rfl
  rw[e];show(if Yt (at4 a 0) (at4 b 0)≠0 then Yt (at4 a 0) (at4 b 0)else if Yt (at4 a 4) (at4 b 4)≠0 then Yt (at4 a 4) (at4 b 4)else 0)=_
  by_cases h:Yt (at4 a 0) (at4 b 0)≠0
  · rw[if_pos h,if_pos h]
  · rw[if_neg h,if_neg h];split
    · rfl
    · rename_i h2;simp only[ne_eq,Decidable.not_not]at h2;exact h2.symm
theorem QfR{s:List UInt8}(h:QW 2 s=true):s.length=4:=by
  unfold QW at h;simp at h;exact h.1
theorem QfM{s:List UInt8}(h:QW 3 s=true):s.length=8:=by
  unfold QW at h;simp at h;exact h.1
theorem Qfd(co:Int):QY Tryz.prog (Qe0 co)=true:=by
  unfold Qe0;split
  · kernel_rfl
  · split<;>kernel_rfl
theorem QaH(w:World)(j:Nat)(a b:List UInt8)(hj:j<=3)(hka:QW (j:Int) a=true)(hkb:QW (j:Int) b=true)(ha:a.length<=1000000)(hb:b.length<=1000000):Calls Tryz.prog (Qe0 (j:Int)) #[.string (bs a),.string (bs b)] w λen w'=>en=.returned (.int .i64 (QX (j:Int) a b))/\Below w.heap.size w w':=by
  match j,hj with
  | 0,_=>exact c184 w a b
  | 1,_=>exact c186 w a b ha hb
  | 2,_=>
    have h:=c190 w a b 1 (QfR hka) (QfR hkb) (by decide);rw[QsL]at h;exact h
  | 3,_=>
    have h:=c190 w a b 2 (QfM hka) (QfM hkb) (by decide);rw[Qs7]at h;exact h
theorem keyE_ok{co:Int}{k:List UInt8}(h:X3 co k=0):QW co k=true:=by
  unfold X3 at h;split at h
  · assumption
  · cases h
def Qcs(co:Int)(a b:List UInt8):Int:=if QJ co=0 then if X3 co a=0 then X3 co b else X3 co a else QJ co
theorem ZD{co:Int}(h:QJ co=0):∃j:Nat,co=(j:Int)/\j<=3:=by
  unfold QJ at h;split at h
  · exact⟨co.toNat,om,om⟩
  · cases h
theorem c58(w:World)(co:Int)(a b:List UInt8)(ha:a.length<=1000000)(hb:b.length<=1000000):CR 58 #[.int .i64 co,.string (bs a),.string (bs b)] w (.tuple #[.int .i64 (if Qcs co a b=0 then QX co a b else 0),.int .i64 (Qcs co a b)]):=by
 refine eN3 Tryz.func58 Tryz.ntmps58 ?_
 refine aU9 ?_
 refine oCq rfl (λw1 h1=>c124 w1 _) (aU7 ?_)
 refine sCd rfl (λh1=>?_) λh1=>?_
 ·have h0:¬QJ co=0:=h1
  have hz:Qcs co a b=QJ co:=by unfold Qcs;rw[if_neg h0]
  refine aU6 ?_
  exact Qk (rs:=[.tmp 6,.tmp 7]) rfl (.tmp rfl (.tmp rfl (.nil))) (λw' h'=>⟨by rw[hz,if_neg h0];rfl,h'.below⟩)
 have h0:QJ co=0:=h1
 obtain⟨j,rfl,hj⟩:=ZD h0
 have hz:Qcs (j:Int) a b=Xr [.int .i64 (X3 (j:Int) a),.int .i64 (X3 (j:Int) b)]:=by rw[Qb7];unfold Qcs;rw[if_pos h0]
 refine aU6 ?_
 refine oCq rfl (λw1 h1=>QsZ w1 j a hj ha) (aU2 ?_)
 refine oCq rfl (λw1 h1=>QsZ w1 j b hj hb) (o_h (Qe (cs:=[_,_]) rfl rfl Yo ZR rfl rfl rfl) rfl (λb2 _=>oCq rfl (λw1 h1=>QnS h1 aPk (by rfl) (by rfl) (by decide)) (aU7 ?_)))
 refine sCd rfl (λh3=>?_) λh3=>?_
 ·have h1:¬Xr [.int .i64 (X3 (j:Int) a),.int .i64 (X3 (j:Int) b)]=0:=h3
  refine aU6 ?_
  exact Qk (rs:=[.tmp 6,.tmp 7]) rfl (.tmp rfl (.tmp rfl (.nil))) (λw' h'=>⟨by rw[hz,if_neg h1];rfl,h'.below⟩)
 have h1:Xr [.int .i64 (X3 (j:Int) a),.int .i64 (X3 (j:Int) b)]=0:=h3
 obtain⟨hka,hkb⟩:X3 (j:Int) a=0/\X3 (j:Int) b=0:=by rw[Qb7]at h1;split at h1;exact⟨by assumption,h1⟩;rename_i h9;exact absurd h1 h9
 refine aU3 ?_
 refine oCq rfl (λw1 h1=>Qsu w1) (aU ?_)
 refine o_p (Qev rfl rfl rfl QgV QgQ j rfl om) rfl (Qh (Qem j hj) (o_p (Qjc rfl rfl QjA QdW rfl) rfl (aU2 ?_)))
 refine o_q (XX rfl rfl (Qfd _) rfl (λw1 h1=>QaH w1 j a b hj (keyE_ok hka) (keyE_ok hkb) ha hb)) rfl (aU3 ?_)
 exact Qk (rs:=[.tmp 6,.tmp 7]) rfl (.tmp rfl (.tmp rfl (.nil))) (λw' h'=>⟨by rw[hz,if_pos h1,h1];rfl,h'.below⟩)
instance:TFd Tryz.prog 27 0 0 9:=⟨by kernel_rfl⟩
theorem Zt:tsz Tryz.prog 9=some (1,false):=by kernel_rfl
instance:TSz Tryz.prog 9 1 false:=⟨Zt⟩
instance:TFd Tryz.prog 27 1 1 9:=⟨by kernel_rfl⟩
theorem QkV(co:Int)(x:TEnt):Ending.returned (Value.int .i64 (if X3 co x.key=0 then cond (decide ((x.val.length:Int)<=64)) 0 8 else X3 co x.key))=Ending.returned (Value.int .i64 (Yu co x)):=by
  unfold Yu
  by_cases h:X3 co x.key=0
  · rw[if_pos h,if_pos h]
    by_cases h2:x.val.length<=64
    · rw[if_pos h2,decide_eq_true om];rfl
    · rw[if_neg h2,decide_eq_false om];rfl
  · rw[if_neg h,if_neg h];unfold X3 at h ⊢;split at h
    · exact absurd rfl h
    · rename_i h3;rw[if_neg h3]
theorem c164(w:World)(j:Nat)(x:TEnt)(hj:j<=3)(hm:x.key.length<=1000000):CR 164 #[.int .i64 (j:Int),.agg #[.string (bs x.key),.string (bs x.val)]] w (.int .i64 (Yu (j:Int) x)):=by
 refine eN2 Tryz.func164 Tryz.ntmps164 ?_
 refine aU2 ?_
 refine oBx λb1 _=>?_
 refine aU3 ?_
 refine Qt [] QC ?_
 refine dP 0 ?_
 refine dFa 1 ?_
 refine dLd 2 [] ?_
 refine dQ 3 [] rfl (Qv rfl Qp1 rfl (λw1 h1=>QsZ w1 j x.key hj hm)) (dFa 4 ?_)
 refine dLd 5 [] ?_
 refine dV 6 rfl (Qp rfl rfl Tryz.underlying9) (dP 7 ?_)
 refine dQ 8 [] rfl (Qv rfl Qb8 rfl (λw1 h1=>Qd4 w1 _ _)) (dH 9 rfl (Qe (cs:=[_,_]) rfl rfl Yo ZR rfl rfl rfl) (λb2 _=>dBa ?_))
 refine dQ 10 [] rfl (Qv rfl QgX rfl (λw1 h1=>QnS h1 aPk (by rfl) (by rfl) (by decide))) (dP 11 ?_)
 refine dNi ?_
 exact rV (h:=by simp only[Xf];rw[Qb7];exact QkV _ _)
theorem Qty:QY Tryz.prog 72=true:=by kernel_rfl
instance:TFn Tryz.prog 72:=⟨Qty⟩
instance:TFn Tryz.prog 35:=⟨by kernel_rfl⟩
theorem kok0(s:List UInt8):QW ((0:Nat):Int) s=(decide ((1:Int)<=(s.length:Int))&&decide ((s.length:Int)<=40)):=by
  rw[Bool.eq_iff_iff];simp[QW];omega
theorem kok1(s:List UInt8):QW ((1:Nat):Int) s=(decide ((1:Int)<=(s.length:Int))&&decide ((s.length:Int)<=32)):=by
  rw[Bool.eq_iff_iff];simp[QW];omega
theorem kok2(s:List UInt8):QW ((2:Nat):Int) s=(decide ((s.length:Int)=4)&&(decide (0<=at4 s 0)&&decide (at4 s 0<=2147483647))):=by
  have:=Qie s 0;rw[Bool.eq_iff_iff];simp[QW,Qfh];omega
theorem kok3(s:List UInt8):QW ((3:Nat):Int) s=(decide ((s.length:Int)=8)&&(decide (0<=at4 s 0)&&decide (at4 s 0<=2147483647))&&(decide (0<=at4 s 4)&&decide (at4 s 4<=2147483647))):=by
  have:=Qie s 0;have:=Qie s 4;rw[Bool.eq_iff_iff];simp[QW,Qfh];omega
theorem c17(w:World)(j:Nat)(s:List UInt8)(hj:j<=3)(hm:s.length<=1000000):CR 17 #[.int .i64 (j:Int),.string (bs s)] w (.int .i64 (X3 (j:Int) s)):=by
 refine eN2 Tryz.func17 Tryz.ntmps17 ?_
 refine aU7 ?_
 refine o_p (Qp rfl rfl Tryz.underlying9) rfl (oCq rfl (λw1 h1=>c40 w1 _ _ _) (Qau ?_))
 refine XY (α:=Unit) [5,12,13,14,15,16,17,18,19,20,21,22,23,24,25,26,27,28,29,30,31,32,33,34,35,36,37,38,39] (λ_=>[(5,.bool (QW (j:Int) s))]) (λ_=>HS w [] []) (λ_=>True) ?_ ?_
 ·skip
  refine sCd rfl (λh1=>?_) λh1=>?_
  ·obtain rfl:j=1:=by have hq:=h1;omega
   refine aU2 ?_
   refine o_p (Qp rfl rfl Tryz.underlying9) rfl (oCq rfl (λw1 h1=>c40 w1 _ _ _) (aU2 ?_))
   exact Qo () trivial (by rw[kok1];exact aSx) (λw h=>h.ent aEt)
  have hn1:¬(j:Int)=1:=h1
  refine aU5 ?_
  refine sCd rfl (λh2=>?_) λh2=>?_
  ·obtain rfl:j=2:=by have hq:=h2;omega
   refine aU2 ?_
   refine o_p (Qp rfl rfl Tryz.underlying9) rfl (aU2 ?_)
   refine XF 4 20 24 rfl
    (λhg3 _=>by
     refine aU3 ?_
     refine oCq rfl (λw1 h1=>by have h9:=c72 w1 s 0 4 om om (by have hq:=hg3;first|omega|(simp at hq;omega));rw[Z1]at h9;exact h9) (aU ?_)
     refine oCq rfl (λw1 h1=>c35 w1 _) ?_
     exact oJt 4 24)
    (λhg5 _=>by
     refine aU3 ?_
     exact oJf 4 24) ?_
   refine aU2 ?_
   exact Qo () trivial (by rw[kok2];exact aSx) (λw h=>h.ent aEt)
  have hn2:¬(j:Int)=2:=h2
  refine aU5 ?_
  refine sCd rfl (λh7=>?_) λh7=>?_
  ·obtain rfl:j=3:=by have hq:=h7;omega
   refine aU2 ?_
   refine o_p (Qp rfl rfl Tryz.underlying9) rfl (aU2 ?_)
   refine XF 4 30 34 rfl
    (λhg8 _=>by
     refine aU3 ?_
     refine oCq rfl (λw1 h1=>by have h9:=c72 w1 s 0 4 om om (by have hq:=hg8;first|omega|(simp at hq;omega));rw[Z1]at h9;exact h9) (aU ?_)
     refine oCq rfl (λw1 h1=>c35 w1 _) ?_
     exact oJt 4 34)
    (λhg10 _=>by
     refine aU3 ?_
     exact oJf 4 34) ?_
   refine aU ?_
   refine XF 4 35 39 rfl
    (λhg12 _=>by
     refine aU3 ?_
     refine oCq rfl (λw1 h1=>by have h9:=c72 w1 s 4 4 om om (by have hq:=hg12;first|omega|(simp at hq;omega));rw[Z1]at h9;exact h9) (aU ?_)
     refine oCq rfl (λw1 h1=>c35 w1 _) ?_
     exact oJt 4 39)
    (λhg14 _=>by
     refine aU3 ?_
     exact oJf 4 39) ?_
   refine aU2 ?_
   exact Qo () trivial (by rw[kok3];exact aSx) (λw h=>h.ent aEt)
  have hn3:¬(j:Int)=3:=h7
  obtain rfl:j=0:=om
  refine aU ?_
  exact Qo () trivial (by rw[kok0];exact aSx) (λw h=>h.ent aEt)
 intro _ _
 refine aU7 ?_
 refine sCd rfl (λh16=>?_) λh16=>?_
 ·have hz:X3 (j:Int) s=3:=by have hq:=h16;unfold X3;rw[if_neg (by simpa using hq)]
  refine aU4 ?_
  exact rV (h:=by rw[hz];rfl)
 have hz:X3 (j:Int) s=0:=by have hq:=h16;unfold X3;rw[if_pos (by simpa using hq)]
 refine aU5 ?_
 exact rV (h:=by rw[hz];rfl)
instance:TFn Tryz.prog 17:=⟨by kernel_rfl⟩
theorem c198(w:World)(j:Nat)(x:TEnt)(hj:j<=3)(hm:x.key.length<=1000000):CR 198 #[.int .i64 (j:Int),.agg #[.string (bs x.key),.string (bs x.val)]] w (.int .i64 (Yu (j:Int) x)):=by
 refine eN2 Tryz.func198 Tryz.ntmps198 ?_
 refine aU2 ?_
 refine oBx λb1 _=>?_
 refine aU8 ?_
 refine oCq rfl (λw1 h1=>c17 w1 j x.key hj hm) (aU7 ?_)
 refine sCd rfl (λh2=>?_) λh2=>?_
 ·have h0:¬X3 (j:Int) x.key=0:=h2
  have hz:Yu (j:Int) x=X3 (j:Int) x.key:=by have h9:=QkV (j:Int) x;rw[if_neg h0]at h9;injection h9 with h9;injection h9 with _ h9;exact h9.symm
  refine aU5 ?_
  exact rV (h:=by rw[hz];rfl)
 have h0:X3 (j:Int) x.key=0:=h2
 refine aU6 ?_
 refine o_p (Qp rfl rfl Tryz.underlying9) rfl (aU2 ?_)
 refine sCd rfl (λh3=>?_) λh3=>?_
 ·have hz:Yu (j:Int) x=8:=by have hq:=h3;unfold Yu;rw[if_pos h0,if_neg om]
  refine aU4 ?_
  exact rV (h:=by rw[hz];rfl)
 have hz:Yu (j:Int) x=0:=by have hq:=h3;unfold Yu;rw[if_pos h0,if_pos om]
 refine aU5 ?_
 exact rV (h:=by rw[hz];rfl)
instance:TFn Tryz.prog 133:=⟨by kernel_rfl⟩
instance:TFn Tryz.prog 134:=⟨by kernel_rfl⟩
def mpK(j:Int)(l:List UInt8):List UInt8:=if j=1 then l.map Qda else l
theorem Qbi(j:Int)(l:List UInt8):(mpK j l).length=l.length:=by unfold mpK;split<;>simp
theorem Qtp{j:Nat}(h2:¬(j:Int)=2)(h3:¬(j:Int)=3)(a b:List UInt8):QX (j:Int) a b=Yz (mpK (j:Int) a) (mpK (j:Int) b):=by
  unfold QX mpK;rw[if_neg h2,if_neg h3];split<;>rfl
theorem Qod{x y:List UInt8}{k:Nat}(hx:k<x.length)(hy:k<y.length):Yz (x.drop k) (y.drop k)=if Yt ((x.getD k 0).toNat:Int) ((y.getD k 0).toNat:Int)≠0 then Yt ((x.getD k 0).toNat:Int) ((y.getD k 0).toNat:Int)else Yz (x.drop (k+1)) (y.drop (k+1)):=by
  rw[List.drop_eq_getElem_cons hx,List.drop_eq_getElem_cons hy,List.getD_eq_getElem?_getD,List.getD_eq_getElem?_getD,List.getElem?_eq_getElem hx,List.getElem?_eq_getElem hy];simp only[Yz,Option.getD_some,Yt,UInt8.lt_iff_toNat_lt];split
  · rename_i h;rw[if_pos om,if_pos om]
  · rename_i h;rw[if_neg (show¬((x[k].toNat:Int)<y[k].toNat) by omega)];split
    · rename_i h2;rw[if_pos om,if_pos om]
    · rename_i h2;rw[if_neg om]
theorem QoY{x y:List UInt8}{k:Nat}(hx:k<=x.length)(hy:k<=y.length)(h:¬(k<x.length/\k<y.length)):Yz (x.drop k) (y.drop k)=Yt (x.length:Int) (y.length:Int):=by
  unfold Yt;rcases Nat.lt_or_ge k x.length with h1|h1
  · have e:y.drop k=[]:=List.drop_of_length_le om;rw[e,List.drop_eq_getElem_cons h1,if_neg om,if_pos om];rfl
  · have e:x.drop k=[]:=List.drop_of_length_le h1;rw[e];rcases Nat.lt_or_ge k y.length with h2|h2
    · rw[List.drop_eq_getElem_cons h2,if_pos om];rfl
    · have e2:y.drop k=[]:=List.drop_of_length_le h2;rw[e2,if_neg om,if_neg om];rfl
theorem QnP{a:List UInt8}{k:Nat}(h:k<a.length):(((mpK 1 a).getD k 0).toNat:Int)=Qhn ((a.getD k 0).toNat:Int):=by
  unfold mpK;rw[if_pos rfl,Qg9,List.getD_eq_getElem?_getD,List.getElem?_map,List.getElem?_eq_getElem h,List.getD_eq_getElem?_getD,List.getElem?_eq_getElem h];rfl
theorem QrH{j:Int}(hj:¬j=1)(a:List UInt8):mpK j a=a:=by unfold mpK;rw[if_neg hj]
theorem c65(w:World)(j:Nat)(a b:List UInt8)(hj:j<=3)(hka:QW (j:Int) a=true)(hkb:QW (j:Int) b=true)(ha:a.length<=1000000)(hb:b.length<=1000000):CR 65 #[.int .i64 (j:Int),.string (bs a),.string (bs b)] w (.int .i64 (QX (j:Int) a b)):=by
 refine eN3 Tryz.func65 Tryz.ntmps65 ?_
 refine QuK ?_
 refine sCd rfl (λh1=>?_) λh1=>?_
 ·obtain rfl:j=2:=by have hq:=h1;omega
  have hl1:=QfR hka
  have hl2:=QfR hkb
  have hz:QX ((2:Nat):Int) a b=Yt (at4 a 0) (at4 b 0):=rfl
  refine aU3 ?_
  refine oCq rfl (λw1 h1=>by have h9:=c72 w1 a 0 4 om om om;rw[Z1]at h9;exact h9) (aU ?_)
  refine oCq rfl (λw1 h1=>by have h9:=c72 w1 b 0 4 om om om;rw[Z1]at h9;exact h9) (oCq rfl (λw1 h1=>Qrk w1 _ _) (aU2 ?_))
  exact rV (h:=by rw[hz];rfl)
 have hn2:¬(j:Int)=2:=h1
 refine aU5 ?_
 refine sCd rfl (λh2=>?_) λh2=>?_
 ·obtain rfl:j=3:=by have hq:=h2;omega
  have hl1:=QfM hka
  have hl2:=QfM hkb
  have hz:QX ((3:Nat):Int) a b=if Yt (at4 a 0) (at4 b 0)≠0 then Yt (at4 a 0) (at4 b 0)else Yt (at4 a 4) (at4 b 4):=rfl
  refine aU4 ?_
  refine oCq rfl (λw1 h1=>by have h9:=c72 w1 a 0 4 om om om;rw[Z1]at h9;exact h9) (aU ?_)
  refine oCq rfl (λw1 h1=>by have h9:=c72 w1 b 0 4 om om om;rw[Z1]at h9;exact h9) (oCq rfl (λw1 h1=>Qrk w1 _ _) (aU7 ?_))
  refine sCd rfl (λh3=>?_) λh3=>?_
  ·have hq9:Yt (at4 a 0) (at4 b 0)≠0:=h3
   rw[if_pos hq9]at hz
   refine aU5 ?_
   exact rV (h:=by rw[hz];rfl)
  have hq9:¬Yt (at4 a 0) (at4 b 0)≠0:=by have hq8:=h3;simpa using hq8
  rw[if_neg hq9]at hz
  refine aU4 ?_
  refine oCq rfl (λw1 h1=>by have h9:=c72 w1 a 4 4 om om om;rw[Z1]at h9;exact h9) (aU ?_)
  refine oCq rfl (λw1 h1=>by have h9:=c72 w1 b 4 4 om om om;rw[Z1]at h9;exact h9) (oCq rfl (λw1 h1=>Qrk w1 _ _) (aU2 ?_))
  exact rV (h:=by rw[hz];rfl)
 have hn3:¬(j:Int)=3:=h2
 have hmp:=Qtp hn2 hn3 a b
 refine aU8 ?_
 refine Qx (α:=Nat) [6,8,9,10,11,35,36,37,38,39,40,41,42,43,44,45,46,47,48,49,50,51,52,53,54,55,56,57,58,59,60,61,62,63,64,65,66] (λk=>[(8,.int .i64 (k:Int))]) (λ_=>_) (λk=>k<=a.length/\k<=b.length/\Yz (mpK (j:Int) a) (mpK (j:Int) b)=Yz ((mpK (j:Int) a).drop k) ((mpK (j:Int) b).drop k)) (λk=>a.length-k) 0 ⟨Nat.zero_le _,Nat.zero_le _,rfl⟩ aSx (λw h=>h) (λk hx=>?_)
 obtain⟨hk1,hk2,hk3⟩:=hx
 refine aU5 ?_
 refine o_p (Qp rfl rfl Tryz.underlying9) rfl (aU2 ?_)
 refine XF 5 39 44 rfl
  (λhg4 _=>by
   refine aU5 ?_
   refine o_p (Qp rfl rfl Tryz.underlying9) rfl (aU2 ?_)
   exact oJt 5 44)
  (λhg6 _=>by
   refine aU4 ?_
   exact oJf 5 44) ?_
 refine aU ?_
 refine sCd rfl (λh8=>?_) λh8=>?_
 ·obtain⟨hka1,hkb1⟩:k<a.length/\k<b.length:=by have hq:=h8;omega
  have hb1:=(a.getD k 0).toNat_lt
  have hb2:=(b.getD k 0).toNat_lt
  have hst:=Qod (x:=mpK (j:Int) a) (y:=mpK (j:Int) b) (k:=k) (by rw[Qbi];exact hka1) (by rw[Qbi];exact hkb1)
  refine aU4 ?_
  refine Qt [] QC ?_
  refine dP 0 ?_
  refine dP 1 ?_
  refine dV 2 rfl (XO rfl rfl rfl Tryz.underlying9 (k) om om) ?_
  refine dV 3 rfl (Qy rfl rfl ZU Y1) ?_
  try refine dWr ?_
  refine dP 4 ?_
  refine dP 5 ?_
  refine dV 6 rfl (XO rfl rfl rfl Tryz.underlying9 (k) om om) ?_
  refine dV 7 rfl (Qy rfl rfl ZU Y1) ?_
  try refine dWr ?_
  refine dP 8 ?_
  refine dP 9 ?_
  refine dNi ?_
  refine aU6 ?_
  refine Qg (L':=[(0,_),(1,_),(2,_),(8,_),(9,_),(10,_),(12,_),(13,_),(14,_),(20,_),(21,_),(56,_)]) aSx (λ_ h=>h) ?_
  refine XY (α:=Unit) [9,10,57,58,59,60] (λ_=>[(9,.int .i64 (((mpK (j:Int) a).getD k 0).toNat:Int)),(10,.int .i64 (((mpK (j:Int) b).getD k 0).toNat:Int))]) (λ_=>HS w [] []) (λ_=>True) ?_ ?_
  ·skip
   refine sCd rfl (λh9=>?_) λh9=>?_
   ·obtain rfl:j=1:=by have hq:=h9;omega
    refine aU2 ?_
    refine oCq rfl (λw1 h1=>c134 w1 _ om) (aU ?_)
    refine oCq rfl (λw1 h1=>c134 w1 _ om) (aU3 ?_)
    exact Qo () trivial (by rw[show(((1:Nat):Int))=1 from rfl,QnP hka1,QnP hkb1];exact aSx) (λw h=>h.ent aEt)
   have hn1:¬(j:Int)=1:=h9
   refine aU ?_
   exact Qo () trivial (by rw[QrH hn1,QrH hn1];exact aSx) (λw h=>h.ent aEt)
  intro _ _
  refine aU4 ?_
  refine oCq rfl (λw1 h1=>Qrk w1 _ _) (aU7 ?_)
  refine sCd rfl (λh10=>?_) λh10=>?_
  ·have hq9:Yt (((mpK (j:Int) a).getD k 0).toNat:Int) (((mpK (j:Int) b).getD k 0).toNat:Int)≠0:=h10
   have hz:=hmp.trans (hk3.trans (hst.trans (if_pos hq9)))
   refine aU5 ?_
   exact rV (h:=by rw[hz];rfl)
  have hq9:¬Yt (((mpK (j:Int) a).getD k 0).toNat:Int) (((mpK (j:Int) b).getD k 0).toNat:Int)≠0:=by have hq8:=h10;simpa using hq8
  have hz:=hk3.trans (hst.trans (if_neg hq9))
  refine aT5 ?_
  refine aU2 ?_
  exact Q1 (k+1) om ⟨om,om,hz⟩ aSx (λw h=>h)
 have hz:=QoY (x:=mpK (j:Int) a) (y:=mpK (j:Int) b) (k:=k) (by rw[Qbi];exact hk1) (by rw[Qbi];exact hk2) (by rw[Qbi,Qbi];have hq:=h8;omega)
 rw[<-hk3,<-hmp,Qbi,Qbi]at hz
 refine Qn rfl ?_
 refine aU3 ?_
 refine o_p (Qp rfl rfl Tryz.underlying9) rfl (aU ?_)
 refine o_p (Qp rfl rfl Tryz.underlying9) rfl (oCq rfl (λw1 h1=>Qrk w1 _ _) (aU2 ?_))
 exact rV (h:=by rw[hz];rfl)
theorem Xh:X9 Tryz.prog 37=some [.int .i64 0,.int .i64 0,.int .i64 0,.slice none 0 0]:=by kernel_rfl
theorem QbP:Qab Tryz.prog 69=some [(0,1),(1,1),(2,1)]:=by kernel_rfl
theorem Xj:X9 Tryz.prog 69=some [.bool false,.slice none 0 0,.slice none 0 0]:=by kernel_rfl
theorem Qw:tsl Tryz.prog 35=some (69,3,56):=by kernel_rfl
theorem ZP:Qab Tryz.prog 37=some [(0,1),(1,1),(2,1),(3,1)]:=by kernel_rfl
theorem XR:tsz Tryz.prog 37=some (4,true):=by kernel_rfl
instance:TSz Tryz.prog 37 4 true:=⟨XR⟩
theorem c122(w:World)(co mo rm:Int):CE 122 #[.int .i64 co,.int .i64 mo,.int .i64 rm] w [] (λg:Option Addr×Nat=>.agg #[.int .i64 co,.int .i64 mo,.int .i64 rm,.slice g.1 1 g.2]) (λg=>True) λg=>[.own (.slice g.1 1 g.2) 69 3 1 [.bool true,.slice none 0 0,.slice none 0 0]]:=by
 refine eN3 Tryz.func122 Tryz.ntmps122 ?_
 refine aU2 ?_
 refine oAl (λb1 _=>?_) Xh
 refine aU6 ?_
 refine o_p (QF (cs:=[_,_,_]) rfl rfl QbP Xj rfl) rfl (o_h (Qe (cs:=[_,_,_]) rfl rfl Qw Xj rfl rfl rfl) rfl (λb2 _=>o_p (QF (cs:=[_,_,_,_]) rfl rfl ZP Xh rfl) rfl (aU2 ?_)))
 exact Qk (rs:=[.cell 6 37]) rfl (.cell rfl XR aPk rfl (.nil)) (λw' h'=>⟨(some ⟨b2,0,none⟩,1),rfl,trivial,(HS.own_shut (n:=1) (cap:=1) (sz:=3) h' rfl (by decide) (by decide)).ent aEt⟩)
instance:TFn Tryz.prog 155:=⟨by kernel_rfl⟩
theorem QN:tsl Tryz.prog 67=some (27,2,32):=by kernel_rfl
theorem Yk:tsz Tryz.prog 27=some (2,true):=by kernel_rfl
instance:TSz Tryz.prog 27 2 true:=⟨Yk⟩
theorem XH:X9 Tryz.prog 27=some [.string (bs []),.string (bs [])]:=by kernel_rfl
instance:TFd Tryz.prog 166 0 0 37:=⟨by kernel_rfl⟩
instance:TFd Tryz.prog 37 1 1 3:=⟨by kernel_rfl⟩
theorem X4:tsz Tryz.prog 3=some (1,false):=by kernel_rfl
instance:TSz Tryz.prog 3 1 false:=⟨X4⟩
instance:TFd Tryz.prog 37 2 2 3:=⟨by kernel_rfl⟩
theorem YW:tsz Tryz.prog 158=some (1,false):=by kernel_rfl
instance:TSz Tryz.prog 158 1 false:=⟨YW⟩
instance:TFd Tryz.prog 37 0 0 3:=⟨by kernel_rfl⟩
theorem Qpe:QY Tryz.prog 164=true:=by kernel_rfl
instance:TFn Tryz.prog 164:=⟨Qpe⟩
instance:TFd Tryz.prog 166 1 4 164:=⟨by kernel_rfl⟩
instance:TFd Tryz.prog 69 1 1 67:=⟨by kernel_rfl⟩
theorem Xq:tsz Tryz.prog 67=some (1,false):=by kernel_rfl
instance:TSz Tryz.prog 67 1 false:=⟨Xq⟩
def tbV(co mo rm:Int)(a:Option Addr)(n cap:Nat):List Value:=[.int .i64 co,.int .i64 mo,.int .i64 rm,.slice a n cap,Qby (QeT co),Qby (Qe0 co)]
def TbR(w:World)(M:List Nat)(bt:Nat)(co mo rm:Int)(a:Option Addr)(n cap:Nat):Prop:=∀k v,(tbV co mo rm a n cap)[k]?=some v->Rd w M bt k v
section
variable{w w':World}{M M':List Nat}{As As':List HA}{bt:Nat}{co mo rm:Int}{a:Option Addr}{n cap:Nat}
theorem TbR.next(h:TbR w M bt co mo rm a n cap)(hs:HS w M As w'):TbR w' [] bt co mo rm a n cap:=λk v hv=>(h k v hv).next hs
theorem TbR.keep(h:TbR w M bt co mo rm a n cap)(hs:HS w M As w'):TbR w' (fps As) bt co mo rm a n cap:=λk v hv=>hs.keep (h k v hv)
theorem TbR.mono(h:TbR w M bt co mo rm a n cap)(hM:∀b∈M',b∈M):TbR w M' bt co mo rm a n cap:=λk v hv=>(h k v hv).mono hM
theorem HS.tbr{w0:World}{tot t:Nat}(h:HS w0 M As w)(hp:QE As (.blk bt t tot (tbV co mo rm a n cap)) As'):TbR w [] bt co mo rm a n cap:=λk v hv=>h.rd_blk (Mc:=[]) hp hv (by simp)
end
def Qhk(co mo rm:Int):Tre:=if(if QJ co=0 then XW mo rm else QJ co)=0 then⟨co,mo,rm,[⟨true,[],[]⟩]⟩else⟨0,0,0,[]⟩
theorem Xe{w0 w:World}{M:List Nat}{As:List HA}(et nt:Nat)(h:HS w0 M As w):HS w0 M (.nodes et nt none 0 []::As) w:=by
  have h1:HS w0 M (.own (.slice none 0 0) nt 3 0 []::.star []::As) w:=(h.star_nil).own_nil nt 3;exact HS.row_shut (l:=([]:List LNd)) h1 rfl rfl
theorem Qn1{w0 w:World}{M:List Nat}{As:List HA}{a:Option Addr}{cap nt:Nat}(et:Nat)(h:HS w0 M (.own (.slice a 1 cap) nt 3 1 [.bool true,.slice none 0 0,.slice none 0 0]::As) w):HS w0 M (.nodes et nt a cap [⟨true,none,0,[],none,0,[]⟩]::As) w:=by
  have h1:HS w0 M (.star ([(⟨true,none,0,[],none,0,[]⟩:LNd)].map (Qs et))::As) w:=HS.star_close (Bs:=[_]) (HS.star_close (Bs:=[_,_]) ((h.tail.own_nil 3 1).own_nil et 2));have h2:HS w0 M (.star []::.own (.slice a 1 cap) nt 3 1 [.bool true,.slice none 0 0,.slice none 0 0]::As) w:=h.star_nil
  have h3:HS w0 M (.own (.slice a 1 cap) nt 3 1 [.bool true,.slice none 0 0,.slice none 0 0]::.star ([(⟨true,none,0,[],none,0,[]⟩:LNd)].map (Qs et))::As) w:=
    HS.perm (HS.star_close (Bs:=[_]) (HS.star_close (Bs:=[_,_]) ((h.own_nil 3 1).own_nil et 2))) (List.Perm.swap ..)
  exact HS.row_shut (l:=[(⟨true,none,0,[],none,0,[]⟩:LNd)]) h3 rfl rfl
theorem c91(w:World)(co mo rm:Int):CE 91 #[.int .i64 co,.int .i64 mo,.int .i64 rm] w [] (λg:(Option Addr×Nat)×List LNd=>.tuple #[.agg #[.int .i64 (Qhk co mo rm).co,.int .i64 (Qhk co mo rm).mo,.int .i64 (Qhk co mo rm).rm,.slice g.1.1 g.2.length g.1.2],.int .i64 (if QJ co=0 then XW mo rm else QJ co)]) (λg=>pln g.2=(Qhk co mo rm).ns) λg=>[.nodes 27 69 g.1.1 g.1.2 g.2]:=by
 refine eN3 Tryz.func91 Tryz.ntmps91 ?_
 refine aU2 ?_
 refine oAl (λb1 _=>?_) Xh
 refine aU8 ?_
 refine oCq rfl (λw1 h1=>c155 w1 _ _ _) (aU7 ?_)
 refine sCd rfl (λh2=>?_) λh2=>?_
 ·have hz:Qhk co mo rm=⟨0,0,0,[]⟩:=by unfold Qhk;rw[if_neg h2]
  refine aU2 ?_
  refine o_p (QF (cs:=[_,_,_,_]) rfl rfl ZP Xh rfl) rfl (aU4 ?_)
  exact Qk (rs:=[.cell 6 37,.tmp 7]) rfl (.cell rfl XR aPk rfl (.tmp rfl (.nil))) (λw' h'=>⟨((none,0),[]),by rw[hz];rfl,by rw[hz];rfl,(Xe 27 69 h'.nil).ent aEt⟩)
 have hz:Qhk co mo rm=⟨co,mo,rm,[⟨true,[],[]⟩]⟩:=by unfold Qhk;rw[if_pos h2]
 refine aU6 ?_
 refine o_p (QF (cs:=[_,_,_]) rfl rfl QbP Xj rfl) rfl (o_h (Qe (cs:=[_,_,_]) rfl rfl Qw Xj rfl rfl rfl) rfl (λb3 _=>o_p (QF (cs:=[_,_,_,_]) rfl rfl ZP Xh rfl) rfl (aU3 ?_)))
 exact Qk (rs:=[.cell 6 37,.tmp 7]) rfl (.cell rfl XR aPk rfl (.tmp rfl (.nil))) (λw' h'=>⟨((some ⟨b3,0,none⟩,1),[⟨true,none,0,[],none,0,[]⟩]),by rw[hz,h2];rfl,by rw[hz];rfl,(Qn1 27 (HS.own_shut (n:=1) (cap:=1) (sz:=3) (h'.ent (Bs:=[.blk b3 69 (1*3) [.bool true,.slice none 0 0,.slice none 0 0]]) aEt) rfl (by decide) (by decide))).ent aEt⟩)
theorem c230(w:World)(a:Option Addr)(cap:Nat)(l:List TEnt)(q:Nat)(cv:Array Value)(es:List Int)(hs:Rw TEnt.vals 2 w [] a l)(hm:l.length<=1000000)(hq:QY Tryz.prog q=true)(he:es.length=l.length)(hc:∀k w1,k<l.length->(∀j,j<k->es.getD j 0=0)->HS w [] [] w1->Calls Tryz.prog q (#[]++[.int .i64 (k:Int),.agg (TEnt.vals (nth l k)).toArray].toArray++cv) w1 λen w2=>en=.returned (.int .i64 (es.getD k 0))/\Below w1.heap.size w1 w2):CR 230 #[.slice a l.length cap,.func (.func q) #[] cv] w (.tuple #[.int .i64 (Zn es 0).1,.int .i64 (Zn es 0).2]):=by
 refine eN2 Tryz.func230 Tryz.ntmps230 ?_
 refine Qau ?_
 refine Qx (α:=Nat) [4,5,6,7,8,11,12,13,14,15,16,17,18,19,20,21,22,23,24] (λk=>[(11,.int .i64 (k:Int))]) (λ_=>HS w [] []) (λk=>k<=l.length/\Zn es 0=Zn (es.drop k) k/\∀j,j<k->es.getD j 0=0) (λk=>l.length-k) 0 ⟨om,rfl,λi h=>absurd h (Nat.not_lt_zero i)⟩ aSx (λw h=>h.ent aEt) (λk hk=>?_)
 obtain⟨hk1,hk2,hk3⟩:=hk
 refine aU5 ?_
 refine sCd rfl (λh1=>?_) λh1=>?_
 ·refine aU6 ?_
  refine o_p (Qa rfl rfl rfl QN (k) om om (Rw.some hs om)) rfl (o_q (QB _ rfl rfl Yk rfl (Rw.rd hs om)) rfl (oAl (λb2 _=>?_) XH))
  refine aU8 ?_
  refine o_q (XX rfl rfl hq rfl (λw1 h1=>hc k w1 om hk3 (h1.ent aEt))) rfl (aU7 ?_)
  refine sCd rfl (λh3=>?_) λh3=>?_
  ·refine aU7 ?_
   exact Qk (rs:=[.tmp 4,.tmp 5]) rfl (.tmp rfl (.tmp rfl (.nil))) (λw' h'=>⟨by simp only[Xf];rw[hk2,Qa0 om,if_neg (by assumption)],h'.below⟩)
  refine aT4 ?_
  refine aU2 ?_
  exact sBk (k+1) om ⟨om,by rw[hk2,Qa0 om,if_pos (by assumption)],λj hj=>(Nat.lt_or_ge j k).elim (hk3 j) (λh=>by obtain rfl:j=k:=om;assumption)⟩
 refine Qn rfl ?_
 refine aU5 ?_
 exact Qk (rs:=[.tmp 4,.tmp 5]) rfl (.tmp rfl (.tmp rfl (.nil))) (λw' h'=>⟨by simp only[Xf];rw[hk2,Qoa om],h'.below⟩)
theorem Qvd(w:World)(bt:Nat)(j:Nat)(mo rm:Int)(a:Option Addr)(n cap:Nat)(hmo:0<=mo/\mo<=1000)(ht:TbR w [] bt (j:Int) mo rm a n cap):CR 173 #[.pointer (some ⟨bt,0,none⟩)] w (.int .i64 (mo/2)):=by
 refine eN1 Tryz.func173 Tryz.ntmps173 ?_
 refine Za ?_
 refine o_q (Qc rfl rfl X4 (ht 1 _ rfl)) rfl (o_p (XQ rfl rfl rfl om om om) rfl (aU2 ?_))
 exact rV
theorem c229(w:World)(bt:Nat)(j:Nat)(mo rm:Int)(a:Option Addr)(n cap:Nat)(i:Nat)(ht:TbR w [] bt (j:Int) mo rm a n cap):CR 229 #[.pointer (some ⟨bt,0,none⟩),.int .i64 (i:Int)] w (.int .i64 (YB mo rm i)):=by
 refine eN2 Tryz.func229 Tryz.ntmps229 ?_
 refine Za ?_
 refine sCd rfl (λh1=>?_) λh1=>?_
 ·obtain rfl:i=0:=by have hq:=h1;omega
  refine aU6 ?_
  refine o_q (Qc rfl rfl X4 (ht 2 _ rfl)) rfl (aU2 ?_)
  exact rV
 have hn0:¬i=0:=by have hq:=h1;omega
 refine aU7 ?_
 refine o_q (Qc rfl rfl X4 (ht 1 _ rfl)) rfl (aU2 ?_)
 exact rV (h:=by simp only[Xf,YB];rw[if_neg hn0])
theorem c231(w:World)(c0:Nat)(k:Int)(x:TEnt)(bt:Nat)(j:Nat)(mo rm:Int)(a:Option Addr)(n cap:Nat)(hj:j<=3)(hx:x.key.length<=1000000)(hc0:Rd w [] c0 0 (.pointer (some ⟨bt,0,none⟩)))(ht:TbR w [] bt (j:Int) mo rm a n cap):CR 231 #[.int .i64 k,.agg #[.string (bs x.key),.string (bs x.val)],.pointer (some ⟨c0,0,none⟩)] w (.int .i64 (Yu (j:Int) x)):=by
 refine eN3 Tryz.func231 Tryz.ntmps231 ?_
 refine aU2 ?_
 refine oBx λb1 _=>?_
 refine aU3 ?_
 refine Qt [] QC ?_
 refine dQ 0 [] rfl (Qc rfl rfl YW (hc0)) (dP 1 ?_)
 refine dFa 2 ?_
 refine dFa 3 ?_
 refine dQ 4 [] rfl (Qc rfl rfl X4 (ht 0 _ rfl)) (dLn 5 [] ?_)
 refine dQ 6 [] rfl (Qv rfl Qpe rfl (λw1 h1=>c164 w1 j x hj hx)) (dP 7 ?_)
 refine dNi ?_
 exact rV
theorem c234(w:World)(c0 c7:Nat)(k:Nat)(us:Bool)(ea:Option Addr)(ec:Nat)(es:List TEnt)(kids:Value)(bt:Nat)(j:Nat)(mo rm:Int)(a:Option Addr)(n cap:Nat)(hj:j<=3)(hk:k<es.length)(hl:es.length<=1000000)(hx:∀x∈es,QW (j:Int) x.key=true/\x.key.length<=1000000)(hc0:Rd w [] c0 0 (.pointer (some ⟨bt,0,none⟩)))(hc7:Rd w [] c7 1 (.slice ea es.length ec))(hes:Rw TEnt.vals 2 w [] ea es)(ht:TbR w [] bt (j:Int) mo rm a n cap):CR 234 #[.int .i64 (k:Int),.agg #[.string (bs (nth es k).key),.string (bs (nth es k).val)],.pointer (some ⟨c0,0,none⟩),.pointer (some ⟨c7,0,none⟩)] w (.int .i64 (Qbu (j:Int) es k)):=by
 refine eN4 Tryz.func234 Tryz.ntmps234 ?_
 refine aU2 ?_
 refine oBx λb1 _=>?_
 refine aU3 ?_
 refine Qt [] QC ?_
 refine dP 0 ?_
 refine dP 1 ?_
 refine dP 2 ?_
 apply XA 9
 ·exact rfl
 ·intro hg2
  have hs3:=hg2;try simp only[dT]at hs3
  refine dOf 3 9 hg2 ?_
  refine dOf 4 9 hg2 ?_
  refine dOf 5 9 hg2 ?_
  refine dOf 6 9 hg2 ?_
  refine dOf 7 9 hg2 ?_
  refine dOf 8 9 hg2 ?_
  refine dOf 9 9 hg2 ?_
  refine dOf 10 9 hg2 ?_
  refine dOf 11 9 hg2 ?_
  refine dOf 12 9 hg2 ?_
  refine dOf 13 9 hg2 ?_
  refine dOf 14 9 hg2 ?_
  refine dOf 15 9 hg2 ?_
  refine dOf 16 9 hg2 ?_
  refine dOf 17 9 hg2 ?_
  refine dOf 18 9 hg2 ?_
  refine dOf 19 9 hg2 ?_
  refine dV 20 rfl (Xv rfl rfl hg2 rfl) (dQ 21 [] rfl (Qv rfl Qb8 rfl (λw1 h1=>Qd4 w1 _ _)) (dP 22 ?_))
  refine dNi ?_
  exact rV (h:=by simp only[Xf,Qbu];first|(split<;>simp_all<;>done)|(simp_all;done)|(grind))
 intro hg4
 have hs5:=hg4;try simp only[dN]at hs5
 refine dQo 3 9 [] hg4 rfl rfl rfl (Qc rfl rfl YW (hc0)) ?_
 refine dPo 4 9 hg4 ?_
 refine dFo 5 9 hg4 ?_
 refine dFo 6 9 hg4 ?_
 refine dQo 7 9 [] hg4 rfl rfl rfl (Qc rfl rfl QdW (ht 5 _ rfl)) ?_
 refine dFo 8 9 hg4 ?_
 refine dQo 9 9 [] hg4 rfl rfl rfl (Qc rfl rfl Xq (hc7)) ?_
 refine dPo 10 9 hg4 ?_
 refine dPo 11 9 hg4 ?_
 try refine dWr ?_
 refine dVo 12 9 hg4 rfl rfl rfl (QeU rfl rfl rfl ) ?_
 refine dVo 13 9 hg4 rfl rfl rfl (Qa rfl rfl rfl QN (k-1) om om (Rw.some hes om)) ?_
 refine dFo 14 9 hg4 ?_
 refine dQo 15 9 [] hg4 rfl rfl rfl (Qc rfl rfl Zt ((hes.rdj (i:=k-1) 0 om rfl))) ?_
 refine dFo 16 9 hg4 ?_
 refine dQo 17 9 [] hg4 rfl rfl rfl (X8 rfl rfl Zt aPk rfl) ?_
 refine dQo 18 9 [] hg4 rfl rfl rfl (XX rfl rfl (Qfd _) rfl (λw1 h1=>QaH w1 j (nth es (k-1)).key (nth es k).key hj (hx _ (QI om)).1 (hx _ (QI hk)).1 (hx _ (QI om)).2 (hx _ (QI hk)).2)) ?_
 refine dPo 19 9 hg4 ?_
 refine dV 20 rfl (Xl rfl rfl hg4 rfl) (dQ 21 [] rfl (Qv rfl Qb8 rfl (λw1 h1=>Qd4 w1 _ _)) (dP 22 ?_))
 refine dNi ?_
 exact rV (h:=by simp only[Xf,Qbu];first|(split<;>simp_all<;>done)|(simp_all;done)|(grind))
theorem QqE:tki Tryz.prog 239=some .u64:=by kernel_rfl
instance:TFd Tryz.prog 37 3 3 35:=⟨by kernel_rfl⟩
theorem Yl:tsz Tryz.prog 35=some (1,false):=by kernel_rfl
instance:TSz Tryz.prog 35 1 false:=⟨Yl⟩
instance:TFn Tryz.prog 215:=⟨by kernel_rfl⟩
theorem QA:tsl Tryz.prog 28=some (3,1,8):=by kernel_rfl
theorem Yp:X9 Tryz.prog 3=some [.int .i64 0]:=by kernel_rfl
instance:TFn Tryz.prog 170:=⟨by kernel_rfl⟩
instance:TFd Tryz.prog 69 2 2 28:=⟨by kernel_rfl⟩
theorem Xg:tsz Tryz.prog 28=some (1,false):=by kernel_rfl
instance:TSz Tryz.prog 28 1 false:=⟨Xg⟩
theorem c215(w:World)(a:Option Addr)(cap:Nat)(l:List TEnt)(q:Nat)(cv:Array Value)(cs:List Int)(key:List UInt8)(hs:Rw TEnt.vals 2 w [] a l)(hm:l.length<=1000000)(hq:QY Tryz.prog q=true)(hb:cs.length=l.length)(hc:∀k w1,k<l.length->HS w [] [] w1->Calls Tryz.prog q (#[]++[.agg (TEnt.vals (nth l k)).toArray,.string (bs key)].toArray++cv) w1 λen w2=>en=.returned (.int .i64 (cs.getD k 0))/\Below w1.heap.size w1 w2):CR 215 #[.slice a l.length cap,.string (bs key),.func (.func q) #[] cv] w (.tuple #[.int .i64 (bsL cs:Int),.bool (Qs0 cs)]):=by
 refine eN3 Tryz.func215 Tryz.ntmps215 ?_
 refine aU19 ?_
 refine Qx (α:=Nat×Nat×Nat) [9,10,11,15,16,17,18,19,20,21,22,23,24,25,26,27,28,29,30,31,32,33,34] (λx=>[(9,.int .i64 (x.2.1:Int)),(10,.int .i64 (x.2.2:Int))]) (λ_=>_) (λx=>x.2.1<=x.2.2/\x.2.2<=l.length/\x.2.2-x.2.1<=x.1/\bsC cs x.1 x.2.1 x.2.2=bsL cs) (λx=>x.1) (l.length,0,l.length) ⟨by simp,by simp,by simp,by rw[<-hb];rfl⟩ aSx (λw h=>h.ent aEt) (λ⟨m,lo,hi⟩hx=>?_)
 dsimp only
 obtain⟨hx1,hx2,hx3,hx4⟩:=hx
 simp only[]at hx1 hx2 hx3 hx4
 refine aU7 ?_
 refine sCd rfl (λh1=>?_) λh1=>?_
 ·refine aT7 ?_
  refine o_p (Qy rfl rfl Y1 QqE) rfl ?_
  rw[show IntKind.u64.wrap ((lo:Int)+(hi:Int))=((lo+hi:Nat):Int)from Qu1 _ om]
  refine o_p (Qed rfl rfl rfl (by decide) 1 rfl) rfl (o_p (Qy rfl rfl QqE Y1) rfl ?_)
  try refine oWr ?_
  refine Qh (show _=Value.int .i64 (((lo+hi)/2:Nat):Int)from by congr 1) ?_
  obtain⟨q2,hq1,hq2⟩:=QrI (cs:=cs) (show lo<hi by omega) hx3
  refine aU7 ?_
  refine o_p (Qa rfl rfl rfl QN ((lo+hi)/2) om om (Rw.some hs om)) rfl (o_q (QB _ rfl rfl Yk rfl (Rw.rd hs (i:=(lo+hi)/2) om)) rfl (aU ?_))
  refine o_q (XX rfl rfl hq rfl (λw1 h1=>hc ((lo+hi)/2) w1 om (h1.ent aEt))) rfl (aU2 ?_)
  refine sCd rfl (λh2=>?_) λh2=>?_
  ·refine aT3 ?_
   refine aU3 ?_
   exact sBk (q2,(lo+hi)/2+1,hi) (by(try simp only[]);omega) ⟨by(try simp only[]);omega,hx2,by(try simp only[]);omega,by simp only[];rw[<-hx4,hq2,if_pos h2]⟩ (by refine Qfw (congrArg (λe=>some (Value.int .i64 e)) (show(((lo+hi)/2:Nat):Int)+1=(((lo+hi)/2+1:Nat):Int) by omega)) ?_;repeat (first|exact QlS|refine Qfw rfl ?_))
  refine aU5 ?_
  exact sBk (q2,lo,(lo+hi)/2) (by(try simp only[]);omega) ⟨by(try simp only[]);omega,by(try simp only[]);omega,by(try simp only[]);omega,by simp only[];rw[<-hx4,hq2,if_neg h2]⟩
 refine Qn rfl ?_
 refine aU3 ?_
 have hlo:bsL cs=lo:=by rw[<-hx4,QsQ _ _ _ _ om]
 refine aU4 ?_
 refine XF 9 39 48 rfl
  (λhg3 _=>by
   refine aU7 ?_
   refine o_p (Qa rfl rfl rfl QN (lo) om om (Rw.some hs om)) rfl (aU ?_)
   refine o_q (QB _ rfl rfl Yk rfl (Rw.rd hs (i:=lo) om)) rfl (aU3 ?_)
   refine o_q (XX rfl rfl hq rfl (λw1 h1=>hc lo w1 om (h1.ent aEt))) rfl (aU2 ?_)
   exact oJt 9 48)
  (λhg5 _=>by
   refine aU8 ?_
   exact oJf 9 48) ?_
 refine aU3 ?_
 exact Qk (rs:=[.tmp 6,.tmp 7]) rfl (.tmp rfl (.tmp rfl (.nil))) (λw' h'=>⟨by simp only[Xf,Qs0,hlo];first|(rw[hb];simp;done)|(have:¬lo<cs.length:=om;simp[this];done)|(have:lo<cs.length:=om;simp[this];done)|(have:lo<cs.length:=om;have hl9:lo<l.length:=om;simp only[this,hl9,decide_true,Bool.true_and,Bool.and_true];rfl)|(have:lo<cs.length:=om;have hl9:lo<l.length:=om;simp[this,hl9]),h'.below⟩)
theorem c216(w:World)(c0:Nat)(x:TEnt)(key:List UInt8)(bt:Nat)(j:Nat)(mo rm:Int)(a:Option Addr)(n cap:Nat)(hj:j<=3)(hx:QW (j:Int) x.key=true)(hk:QW (j:Int) key=true)(hxl:x.key.length<=1000000)(hkl:key.length<=1000000)(hc0:Rd w [] c0 0 (.pointer (some ⟨bt,0,none⟩)))(ht:TbR w [] bt (j:Int) mo rm a n cap):CR 216 #[.agg #[.string (bs x.key),.string (bs x.val)],.string (bs key),.pointer (some ⟨c0,0,none⟩)] w (.int .i64 (QX (j:Int) x.key key)):=by
 refine eN3 Tryz.func216 Tryz.ntmps216 ?_
 refine aU2 ?_
 refine oBx λb1 _=>?_
 refine aU3 ?_
 refine Qt [] QC ?_
 refine dQ 0 [] rfl (Qc rfl rfl YW (hc0)) (dP 1 ?_)
 refine dFa 2 ?_
 refine dFa 3 ?_
 refine dQ 4 [] rfl (Qc rfl rfl QdW (ht 5 _ rfl)) (dFa 5 ?_)
 refine dLd 6 [] ?_
 refine dP 7 ?_
 refine dQ 8 [] rfl (XX rfl rfl (Qfd _) rfl (λw1 h1=>QaH w1 j x.key key hj hx hk hxl hkl)) (dP 9 ?_)
 refine dNi ?_
 exact rV
theorem c170(w:World)(bt:Nat)(j:Nat)(mo rm:Int)(a:Option Addr)(cap:Nat)(L:List LNd)(key:List UInt8)(i:Nat)(hj:j<=3)(hi:i<L.length)(hl:L.length<=1000)(hel:(nth L i).es.length<=1000)(hK:∀i,i<L.length->∀x∈(nth L i).es,QW (j:Int) x.key=true/\x.key.length<=1000000)(hk:QW (j:Int) key=true)(hkl:key.length<=1000000)(hasc:Asc (j:Int) (nth L i).es)(hs:Nt w [] a L)(ht:TbR w [] bt (j:Int) mo rm a L.length cap):CR 170 #[.pointer (some ⟨bt,0,none⟩),.int .i64 (i:Int),.string (bs key)] w (.tuple #[.int .i64 (plc (j:Int) (nth L i).es key:Int),.bool (fnd (j:Int) (nth L i).es key)]):=by
 refine eN3 Tryz.func170 Tryz.ntmps170 ?_
 refine aU2 ?_
 refine oBx λb1 _=>?_
 refine aU9 ?_
 refine o_q (Qc rfl rfl Yl (ht 3 _ rfl)) rfl (aU ?_)
 refine o_p (Qa rfl rfl rfl Qw (i) om om (Rw.some hs.1 om)) rfl (aU ?_)
 refine o_q (Qc rfl rfl Xq ((hs.1.rdj 1 hi rfl))) rfl (aU2 ?_)
 refine oCq rfl (λw1 h1=>by have h9:=c215 w1 (nth L i).ea (nth L i).ec (nth L i).es 216 #[.pointer (some ⟨b1,0,none⟩)] (Qg7 (j:Int) (nth L i).es key) key ((hs.es hi).later h1) om (by kernel_rfl) (Qdr _ _ _) (λk w2 hk9 h2=>by rw[Qdq hk9];exact c216 w2 b1 (nth (nth L i).es k) key bt j mo rm a L.length cap hj (hK i hi _ (QI hk9)).1 hk (hK i hi _ (QI hk9)).2 hkl ((h1.rd_blk (Mc:=[]) aPk rfl (by simp)).next h2) ((ht.next h1).next h2));rw[QpU hasc,Qvg hasc]at h9;exact h9) (aU5 ?_)
 exact Qk (rs:=[.tmp 6,.tmp 7]) rfl (.tmp rfl (.tmp rfl (.nil))) (λw' h'=>⟨rfl,h'.below⟩)
theorem Qh2{co:Int}{ns:List Nd}{key:List UInt8}{f i:Nat}(h:¬(fnd co (nth ns i).es key=true\/(nth ns i).cs.length=0)):QdG co ns key (f+1) i=(i::(QdG co ns key f ((nth ns i).cs.getD (plc co (nth ns i).es key) 0).toNat).1,(QdG co ns key f ((nth ns i).cs.getD (plc co (nth ns i).es key) 0).toNat).2):=by
  rw[QdG,if_neg h]
theorem QdE{co:Int}{ns:List Nd}{key:List UInt8}{f i:Nat}(h:fnd co (nth ns i).es key=true\/(nth ns i).cs.length=0):QdG co ns key (f+1) i=([i],plc co (nth ns i).es key,fnd co (nth ns i).es key):=by
  rw[QdG,if_pos h]
theorem Qr4(l:List Nat):(l.map λi:Nat=>(i:Int)).flatMap inV=l.map λi:Nat=>Value.int .i64 (i:Int):=by
  induction l with
  | nil=>rfl
  | cons x l ih=>
    rw[List.map_cons,List.flatMap_cons,List.map_cons,ih];rfl
theorem QvB(w:World)(bt:Nat)(j:Nat)(mo rm:Int)(a:Option Addr)(cap:Nat)(L:List LNd)(key:List UInt8)(hj:j<=3)(h0:0<L.length)(hB:Bd (pln L))(hT:TOk (j:Int) (pln L))(hK:∀i,i<L.length->∀x∈(nth L i).es,QW (j:Int) x.key=true/\x.key.length<=1000000)(hk:QW (j:Int) key=true)(hkl:key.length<=1000000)(hs:Nt w [] a L)(ht:TbR w [] bt (j:Int) mo rm a L.length cap):CE 111 #[.pointer (some ⟨bt,0,none⟩),.string (bs key)] w [] (λg:Option Addr×Nat=>.tuple #[.slice g.1 (Qj (j:Int) (pln L) key).1.length g.2,.int .i64 ((Qj (j:Int) (pln L) key).2.1:Int),.bool (Qj (j:Int) (pln L) key).2.2]) (λg=>True) λg=>[.kids g.1 g.2 ((Qj (j:Int) (pln L) key).1.map λi:Nat=>(i:Int))]:=by
 refine eN2 Tryz.func111 Tryz.ntmps111 ?_
 refine Zl ?_
 refine Qx (α:=(Option Addr×Nat)×List Nat×Nat×Nat) [4,5,6,7,8,9,10,11,12,13,14,15,16,17,18,19,20,21,22,23,24,25,26,27,28,29,30,31,32,33,34,35,36,37,38,39,40,41,42,43,44,45,46,47] (λx=>[(4,.slice x.1.1 x.2.1.length x.1.2),(7,.int .i64 (x.2.2.1:Int))]) (λx=>HS w [] [.own (.slice x.1.1 x.2.1.length x.1.2) 3 1 x.2.1.length (x.2.1.map λi:Nat=>Value.int .i64 (i:Int))]) (λx=>x.2.2.1<L.length/\x.2.1.length+x.2.2.2=L.length/\Gx.Way (pln L) (x.2.2.1::x.2.1.reverse)/\(Qj (j:Int) (pln L) key)=(x.2.1++(QdG (j:Int) (pln L) key x.2.2.2 x.2.2.1).1,(QdG (j:Int) (pln L) key x.2.2.2 x.2.2.1).2)) (λx=>x.2.2.2) ((none,0),[],0,L.length) ⟨h0,by simp,rfl,by rw[Qj,Qb];rfl⟩ aSx (λw h=>(h.own_nil 3 1).ent aEt) (λ⟨⟨ga,gc⟩,P,i,f⟩hx=>?_)
 dsimp only
 obtain⟨hi,hlen,hway,hpath⟩:=hx
 simp only[]at hi hlen hway hpath
 have hwl:=YP hT (by rw[Qb];exact h0) hway
 simp only[List.length_cons,List.length_reverse,Qb]at hwl
 obtain⟨f,rfl⟩:∃f9,f=f9+1:=⟨f-1,om⟩
 have hni:=Ql hi
 have hle:=hB.len
 rw[Qb]at hle
 have hes9:=hB.es i (by rw[Qb];exact hi)
 have hcs9:=hB.cs i (by rw[Qb];exact hi)
 rw[hni]at hes9 hcs9
 have hasc:=hT.asc i (by rw[Qb];exact hi)
 rw[hni]at hasc
 refine aU5 ?_
 refine o_h (Qe (cs:=[_]) rfl rfl QA Yp rfl rfl rfl) rfl (λb1 _=>o_h (QL [_] rfl rfl rfl QA Tryz.underlying28 Yp rfl aPk (Xb aPk) rfl (by intro u hu;simp only[List.mem_cons,List.mem_nil_iff,or_false]at hu;subst hu;rfl) om (by simp only[maxLen];omega)) rfl (λb2 _=>aU7 ?_))
 refine oCq rfl (λw1 h1=>c170 w1 bt j mo rm a cap L key i hj hi om hes9 hK hk hkl hasc (hs.later h1.nil) (ht.next h1.nil)) (Zl ?_)
 refine oOr 12 20 32 rfl
  (λhg3 _=>by
   refine aU9 ?_
   refine o_q (Qc rfl rfl Yl (ht 3 _ rfl)) rfl (aU3 ?_)
   refine o_p (Qa rfl rfl rfl Qw (i) om om (Rw.some hs.1 om)) rfl (aU3 ?_)
   refine o_q (Qc rfl rfl Xg ((hs.1.rdj 2 hi rfl))) rfl (aU4 ?_)
   exact oJf 12 32)
  (λhg5 _=>by
   refine Zl ?_
   exact oJt 12 32) ?_
 refine aU ?_
 refine sCd rfl (λh7=>?_) λh7=>?_
 ·have hst:fnd (j:Int) (nth (pln L) i).es key=true\/(nth (pln L) i).cs.length=0:=by rw[hni];have hq:=h7;first|exact hq|(simp at hq;simpa[LNd.pl]using hq)
  refine aU9 ?_
  exact Qk (rs:=[.tmp 4,.tmp 5,.tmp 6]) rfl (.tmp rfl (.tmp rfl (.tmp rfl (.nil)))) (λw' h'=>⟨(b2.1,b2.2),by rw[hpath,QdE hst,hni];simp[Xf,LNd.pl],trivial,by rw[hpath,QdE hst];have h2:=h';unfold HA.kids;rw[Qr4];simp only[List.length_map,List.length_append,List.length_singleton,List.map_append,List.map_cons,List.map_nil];exact h2.ent aEt⟩)
 have hst:¬(fnd (j:Int) (nth (pln L) i).es key=true\/(nth (pln L) i).cs.length=0):=by rw[hni];have hq:=h7;first|exact hq|(simp at hq;simpa[LNd.pl]using hq)
 have hcl:(nth L i).cs.length=(nth L i).es.length+1:=by rcases hT.shape i (by rw[Qb];exact hi)with h9|h9;exact absurd (.inr h9) hst;rw[hni]at h9;exact h9
 have hple:=Qbm (j:Int) key (nth L i).es
 have hpk:plc (j:Int) (nth L i).es key<(nth L i).cs.length:=om
 have hkid:=Qd2 hT (by rw[Qb];exact hi) (i:=i) (k:=plc (j:Int) (nth L i).es key) (by rw[hni];exact hpk)
 rw[hni,Qb]at hkid
 simp only[LNd.pl]at hkid
 have hway2:=Qb5 hway (by rw[Qb];exact hi) (k:=plc (j:Int) (nth L i).es key) (by rw[hni];exact hpk) (by rw[hni];simp only[LNd.pl];omega)
 rw[hni]at hway2
 simp only[LNd.pl]at hway2
 refine aU6 ?_
 refine o_q (Qc rfl rfl Yl (ht 3 _ rfl)) rfl (aU ?_)
 refine o_p (Qa rfl rfl rfl Qw (i) om om (Rw.some hs.1 om)) rfl (aU ?_)
 refine o_q (Qc rfl rfl Xg ((hs.1.rdj 2 hi rfl))) rfl (aU ?_)
 refine o_p (Qa rfl rfl rfl QA (plc (j:Int) (nth L i).es key) om om (Rw.some (hs.cs hi) om)) rfl (o_q (Qc rfl rfl X4 (((hs.cs hi).rdj 0 (i:=plc (j:Int) (nth L i).es key) hpk rfl))) rfl (aU3 ?_))
 exact Q1 ((b2.1,b2.2),P++[i],((nth L i).cs.getD (plc (j:Int) (nth L i).es key) 0).toNat,f) (by(try simp only[]);omega) ⟨by simp only[];omega,by simp only[List.length_append,List.length_singleton];omega,by simp only[List.reverse_append,List.reverse_singleton,List.singleton_append];exact hway2,by simp only[];rw[hpath,Qh2 hst];simp[hni,LNd.pl]⟩ (by simp only[List.length_append,List.length_singleton];rw[Int.toNat_of_nonneg om];exact aSx) (λw h=>by have h2:=h;simp only[List.length_append,List.length_singleton,List.map_append,List.map_cons,List.map_nil];exact h2.ent aEt)
theorem QuN:QY Tryz.prog 233=true:=by kernel_rfl
instance:TFd Tryz.prog 69 0 0 4:=⟨by kernel_rfl⟩
theorem Qcy:tsz Tryz.prog 4=some (1,false):=by kernel_rfl
instance:TSz Tryz.prog 4 1 false:=⟨Qcy⟩
theorem Qrr:tsz Tryz.prog 242=some (1,false):=by kernel_rfl
theorem zv_4:tzv Tryz.prog 4=some (.bool false):=by kernel_rfl
abbrev KI:Int->Value:=λn=>Value.int .i64 n
theorem Qqn{ks:List Int}{c x:Int}:x∈Qfj ks c ↔ x=c\/x∈ks:=by
  unfold Qfj;split
  · rename_i h;constructor
    · exactλh1=>.inr h1
    · rintro(rfl|h1)
      · exact h
      · exact h1
  · rw[List.mem_append,List.mem_singleton];exact Or.comm
theorem c233(w:World)(i c:Int)(c0 c5 r:Nat)(ks seen:List Int)(bt:Nat)(j:Nat)(mo rm:Int)(a:Option Addr)(cap:Nat)(L:List LNd)(hw:HS w (fps [.mp r KI ks]) [.mp r KI ks] w)(hst:∀x,x∈ks ↔ x∈seen)(hc0:Rd w (fps [.mp r KI ks]) c0 0 (.pointer (some ⟨bt,0,none⟩)))(hc5:Rd w (fps [.mp r KI ks]) c5 0 (.map (some r)))(ht:TbR w (fps [.mp r KI ks]) bt (j:Int) mo rm a L.length cap)(hs:Nt w (fps [.mp r KI ks]) a L)(hl:L.length<=1000):CE 233 #[.int .i64 i,.int .i64 c,.pointer (some ⟨c0,0,none⟩),.pointer (some ⟨c5,0,none⟩)] w (fps [.mp r KI ks]) (λg:List Int=>.int .i64 (QcK (pln L) c seen)) (λg=>(∀x,x∈g ↔ x∈(Qer (pln L) c seen))) λg=>[.mp r KI g]:=by
 refine eW4 Tryz.func233 Tryz.ntmps233 hw ?_
 refine aU8 ?_
 refine o_q (Qc rfl rfl YW (hc0)) rfl (aU3 ?_)
 refine o_q (Qc rfl rfl Yl (ht 3 _ rfl)) rfl (aT2 ?_)
 refine oCq rfl (λw1 h1=>Qlw w1 _ _ _) (aU2 ?_)
 refine oOr 11 18 29 rfl
  (λhg1 _=>by
   refine aU ?_
   refine o_q (Qc rfl rfl YW (hc0)) rfl (aU7 ?_)
   refine o_q (Qc rfl rfl Yl (ht 3 _ rfl)) rfl (aU3 ?_)
   refine o_p (Qa rfl rfl rfl Qw c.toNat om om (Rw.some hs.1 om)) rfl (aU3 ?_)
   refine o_q (Qc rfl rfl Qcy ((hs.1.rdj 0 (i:=c.toNat) om rfl))) rfl (aU2 ?_)
   exact oJf 11 29)
  (λhg3 _=>by
   refine Za ?_
   exact oJt 11 29) ?_
 refine aU ?_
 refine sCd rfl (λh5=>?_) λh5=>?_
 ·have hz:¬QdM (pln L) c:=by unfold QdM;rw[Qb];intro h9;rw[Ql om]at h9;have hq:=h5;simp[LNd.pl]at h9;rcases hq with hq|hq<;>simp_all<;>omega
  refine aU4 ?_
  exact rT rfl rfl (λw' h'=>⟨ks,by unfold QcK;rw[if_neg hz];rfl,by unfold Qer;rw[if_neg hz];exact hst,h'.ent aEt⟩)
 have hz:QdM (pln L) c:=by have hq:=h5;have hq1:1<=c/\c<=(L.length:Int)-1:=(by first|omega|(simp at hq;omega));unfold QdM;rw[Qb,Ql om];exact⟨hq1,by simp only[LNd.pl];first|exact hq.2|exact hq.2.2|(simp at hq;first|exact hq.2|exact hq.2.2)⟩
 refine aU3 ?_
 refine o_q (Qc rfl rfl Qrr (hc5)) rfl (aU ?_)
 refine o_q (Qrw rfl rfl rfl Tryz.underlying242 zv_4 (Qnf Y1) aPk) rfl (aU ?_)
 refine oCq rfl (λw1 h1=>Qd4 w1 _ _) (aU4 ?_)
 refine o_q (Qc rfl rfl Qrr (hc5)) rfl (aU ?_)
 refine ZV (QkR (.inl rfl) rfl rfl rfl Tryz.underlying242 (Qnf Y1) aPt) (λ_ _=>aU6 ?_)
 exact rT rfl rfl (λw' h'=>⟨Qfj ks c,by unfold QcK;rw[if_pos hz];simp only[Xf];by_cases h9:c∈seen<;>simp[h9,(hst c)],by unfold Qer;rw[if_pos hz];intro x;rw[Qqn,List.mem_cons,hst],h'.ent aEt⟩)
theorem c232(w:World)(ca:Option Addr)(cc:Nat)(cs:List Int)(c0 c5 r:Nat)(ks seen:List Int)(bt:Nat)(j:Nat)(mo rm:Int)(a:Option Addr)(cap:Nat)(L:List LNd)(hw:HS w (fps [.mp r KI ks]) [.mp r KI ks] w)(hst:∀x,x∈ks ↔ x∈seen)(hc0:Rd w (fps [.mp r KI ks]) c0 0 (.pointer (some ⟨bt,0,none⟩)))(hc5:Rd w (fps [.mp r KI ks]) c5 0 (.map (some r)))(ht:TbR w (fps [.mp r KI ks]) bt (j:Int) mo rm a L.length cap)(hs:Nt w (fps [.mp r KI ks]) a L)(hl:L.length<=1000)(hcs:Rw inV 1 w (fps [.mp r KI ks]) ca cs)(hcl:cs.length<=1000):CE 232 #[.slice ca cs.length cc,.func (.func 233) #[] #[.pointer (some ⟨c0,0,none⟩),.pointer (some ⟨c5,0,none⟩)]] w (fps [.mp r KI ks]) (λg:Int×List Int=>.tuple #[.int .i64 g.1,.int .i64 (Ys (pln L) cs seen).1]) (λg=>(∀x,x∈g.2 ↔ x∈(Ys (pln L) cs seen).2)) λg=>[.mp r KI g.2]:=by
 refine eW2 Tryz.func232 Tryz.ntmps232 hw ?_
 refine Qau ?_
 refine Qx (α:=Nat×List Int×List Int) [4,5,6,7,8,11,12,13,14,15,16,17,18,19,20,21,22,23,24] (λx=>[(11,.int .i64 (x.1:Int))]) (λx=>HS w (fps [.mp r KI ks]) [.mp r KI x.2.1]) (λx=>x.1<=cs.length/\(∀y,y∈x.2.1 ↔ y∈x.2.2)/\(Ys (pln L) cs seen)=Ys (pln L) (cs.drop x.1) x.2.2) (λx=>cs.length-x.1) (0,ks,seen) ⟨Nat.zero_le _,hst,rfl⟩ aSx (λw h=>h.ent aEt) (λ⟨k,K,S9⟩hx=>?_)
 dsimp only
 obtain⟨hk1,hk2,hk3⟩:=hx
 simp only[]at hk1 hk2 hk3
 refine aU5 ?_
 refine sCd rfl (λh1=>?_) λh1=>?_
 ·have hkl:k<cs.length:=by omega
  refine aU6 ?_
  refine o_p (Qa rfl rfl rfl QA (k) om om (Rw.some hcs om)) rfl (o_q (Qc rfl rfl X4 ((hcs.rdj 0 (i:=k) om rfl))) rfl (aU8 ?_))
  refine o_h (Qkl (Cs:=[.mp r KI K]) rfl rfl QuN rfl aPs (λw1 h1 hf=>c233 w1 (k:Int) (cs.getD k 0) c0 c5 r K S9 bt j mo rm a cap L hf hk2 (h1.keep hc0) (h1.keep hc5) (ht.keep h1) (hs.keep h1) hl)) rfl (λb2 hkG=>?_)
  have hkg:=hkG
  refine aU7 ?_
  refine sCd rfl (λh3=>?_) λh3=>?_
  ·refine aU7 ?_
   exact Qk (rs:=[.tmp 4,.tmp 5]) rfl (.tmp rfl (.tmp rfl (.nil))) (λw' h'=>⟨((k:Int),b2),by rw[hk3,Qds hkl,Qb3,if_neg h3];rfl,by rw[hk3,Qds hkl,Qb3,if_neg h3];exact hkG,h'.ent aEt⟩)
  refine aT4 ?_
  refine aU2 ?_
  exact sBk (k+1,b2,Qer (pln L) (cs.getD k 0) S9) (by(try simp only[]);omega) ⟨by(try simp only[]);omega,hkg,by simp only[];rw[hk3,Qds hkl,Qb3,if_pos h3]⟩
 refine Qn rfl ?_
 refine aU5 ?_
 exact Qk (rs:=[.tmp 4,.tmp 5]) rfl (.tmp rfl (.tmp rfl (.nil))) (λw' h'=>⟨(0,K),by rw[hk3,List.drop_of_length_le om];rfl,by rw[hk3,List.drop_of_length_le om];exact hk2,h'.ent aEt⟩)
theorem Xs:tsz Tryz.prog 69=some (3,true):=by kernel_rfl
instance:TSz Tryz.prog 69 3 true:=⟨Xs⟩
theorem Quh:QY Tryz.prog 229=true:=by kernel_rfl
instance:TFn Tryz.prog 230:=⟨by kernel_rfl⟩
theorem QuE:QY Tryz.prog 232=true:=by kernel_rfl
theorem QtK{t:Tre}{i:Nat}{es:List TEnt}{cs:List Int}(h:nth t.ns i=⟨true,es,cs⟩)(b:Bool)(hb:b=true ↔ (cs.length=0\/cs.length=es.length+1)):(if(bif decide ((es.length:Int)<=YB t.mo t.rm i)then(0:Int)else 16)=0 then(bif b then(0:Int)else 10)else(bif decide ((es.length:Int)<=YB t.mo t.rm i)then(0:Int)else 16))=nE1 t i:=by
  unfold nE1;rw[h]
  by_cases h1:(es.length:Int)<=YB t.mo t.rm i
  · rw[decide_eq_true h1,if_pos h1]
    by_cases h2:cs.length=0\/cs.length=es.length+1
    · rw[if_pos h2,hb.2 h2];rfl
    · rw[if_neg h2,show b=false by cases b;rfl;exact absurd (hb.1 rfl) h2];rfl
  · rw[decide_eq_false h1,if_neg h1];rfl
theorem c199(w:World)(i r:Nat)(ks seen:List Int)(bt:Nat)(j:Nat)(mo rm:Int)(a:Option Addr)(cap:Nat)(L:List LNd)(hw:HS w (fps [.mp r KI ks]) [.mp r KI ks] w)(hst:∀x,x∈ks ↔ x∈seen)(ht:TbR w (fps [.mp r KI ks]) bt (j:Int) mo rm a L.length cap)(hs:Nt w (fps [.mp r KI ks]) a L)(hl:L.length<=1000)(hj:j<=3)(hi:i<L.length)(hel:(nth L i).es.length<=1000)(hcl:(nth L i).cs.length<=1000)(hkl:∀x∈(nth L i).es,x.key.length<=1000000):CE 199 #[.pointer (some ⟨bt,0,none⟩),.int .i64 (i:Int),.map (some r)] w (fps [.mp r KI ks]) (λg:List Int=>.int .i64 (Yh (⟨(j:Int),mo,rm,pln L⟩:Tre) i seen).1) (λg=>(∀x,x∈g ↔ x∈(Yh (⟨(j:Int),mo,rm,pln L⟩:Tre) i seen).2)) λg=>[.mp r KI g]:=by
 have hn:nth (pln L) i=(nth L i).pl:=Ql hi
 have hE2:nE2 (⟨(j:Int),mo,rm,pln L⟩:Tre) i=if nE1 (⟨(j:Int),mo,rm,pln L⟩:Tre) i=0 then(Zn ((nth L i).es.map (Yu (j:Int))) 0).2 else nE1 (⟨(j:Int),mo,rm,pln L⟩:Tre) i:=by unfold nE2 Z5;rw[hn];rfl
 have hE3:nE3 (⟨(j:Int),mo,rm,pln L⟩:Tre) i seen=if nE2 (⟨(j:Int),mo,rm,pln L⟩:Tre) i=0 then Ys (pln L) (nth L i).cs seen else(nE2 (⟨(j:Int),mo,rm,pln L⟩:Tre) i,seen):=by unfold nE3;rw[hn];rfl
 have hE4:nE4 (⟨(j:Int),mo,rm,pln L⟩:Tre) i seen=if(nE3 (⟨(j:Int),mo,rm,pln L⟩:Tre) i seen).1=0 then(Zn ((List.range (nth L i).es.length).map (Qbu (j:Int) (nth L i).es)) 0).2 else(nE3 (⟨(j:Int),mo,rm,pln L⟩:Tre) i seen).1:=by unfold nE4 QaW;rw[hn];rfl
 refine eW3 Tryz.func199 Tryz.ntmps199 hw ?_
 refine aU2 ?_
 refine oBx λb1 _=>?_
 refine oBx λb2 _=>?_
 refine aU8 ?_
 refine o_q (Qc rfl rfl Yl (ht 3 _ rfl)) rfl (aU ?_)
 refine o_p (Qa rfl rfl rfl Qw (i) om om (Rw.some hs.1 om)) rfl (o_q (QB _ rfl rfl Xs rfl (Rw.rd hs.1 hi)) rfl (oAl (λb3 _=>?_) Xj))
 refine aU9 ?_
 refine sCd rfl (λh4=>?_) λh4=>?_
 ·have hu:(nth (pln L) i).us=false:=by rw[hn];have hq:=h4;simpa[LNd.pl]using hq
  refine aU5 ?_
  refine XF 10 22 32 rfl
   (λhg5 _=>by
    refine Zl ?_
    refine o_q (Qc rfl rfl Yl (ht 3 _ rfl)) rfl (aT4 ?_)
    refine aU2 ?_
    exact oJt 10 32)
   (λhg7 _=>by
    refine aU9 ?_
    exact oJf 10 32) ?_
  refine aU ?_
  refine XF 9 33 42 rfl
   (λhg9 _=>by
    refine aT14 ?_
    refine aU2 ?_
    exact oJt 9 42)
   (λhg11 _=>by
    refine aU8 ?_
    exact oJf 9 42) ?_
  refine oCq rfl (λw1 h1=>Qd4 w1 _ _) (aU2 ?_)
  exact rT rfl rfl (λw' h'=>⟨ks,by unfold Yh;simp only[];rw[if_neg (by rw[hu];decide),hn];simp only[Xf,LNd.pl];simp only[cond_eq_ite,Bool.and_eq_true,decide_eq_true_eq,Qb];(split<;>split<;>first|rfl|omega),by unfold Yh;simp only[];rw[if_neg (by rw[hu];decide)];split<;>exact hst,h'.ent aEt⟩)
 have hu:(nth (pln L) i).us=true:=by rw[hn];have hq:=h4;simpa[LNd.pl]using hq
 have hN1:nth ((⟨(j:Int),mo,rm,pln L⟩:Tre)).ns i=⟨true,(nth L i).es,(nth L i).cs⟩:=by show nth (pln L) i=_;rw[hn]at hu ⊢;simp only[LNd.pl]at hu ⊢;rw[hu]
 rw[Qhv (⟨(j:Int),mo,rm,pln L⟩:Tre) i hu]
 refine aU2 ?_
 refine Qg (L':=[(1,_),(3,_),(5,_),(6,_),(7,_)]) aSx (λ_ h=>h) ?_
 refine XY (α:=Unit) [8,44,45,46,47,48,49,50,51,52,53,54,55,56,57,58,59,60,61,62,63,64,65,66,67,68] (λ_=>[(8,.int .i64 (nE1 (⟨(j:Int),mo,rm,pln L⟩:Tre) i))]) (λ_=>HS w (fps [.mp r KI ks]) [.blk b1 158 1 [.pointer (some ⟨bt,0,none⟩)],.blk b2 242 1 [.map (some r)],.blk b3 69 3 (nth L i).vals,.mp r KI ks]) (λ_=>True) ?_ ?_
 ·skip
  refine Qt [] QC ?_
  refine dFa 0 ?_
  refine dLd 1 [] ?_
  refine dV 2 rfl (QS rfl rfl Tryz.underlying67) (dLd 3 [] ?_)
  refine dP 4 ?_
  refine dQ 5 [] rfl (Qv rfl Quh rfl (λw1 h1=>c229 w1 bt j mo rm a L.length cap i (ht.next h1))) (dP 6 ?_)
  refine dQ 7 [] rfl (Qv rfl Qb8 rfl (λw1 h1=>Qd4 w1 _ _)) (dFa 8 ?_)
  refine dLd 9 [] ?_
  refine dV 10 rfl (QS rfl rfl Tryz.underlying28) (dP 11 ?_)
  refine dP 12 ?_
  apply XA 56
  ·exact rfl
  ·intro hg13
   have hs14:=hg13;try simp only[dT]at hs14
   refine dOf 13 56 hg13 ?_
   refine dOf 14 56 hg13 ?_
   refine dOf 15 56 hg13 ?_
   refine dOf 16 56 hg13 ?_
   refine dOf 17 56 hg13 ?_
   refine dOf 18 56 hg13 ?_
   refine dOf 19 56 hg13 ?_
   refine dOf 20 56 hg13 ?_
   refine dV 21 rfl (Xv rfl rfl hg13 rfl) (dQ 22 [] rfl (Qv rfl Qb8 rfl (λw1 h1=>Qd4 w1 _ _)) (dH 23 rfl (Qe (cs:=[_,_]) rfl rfl Yo ZR rfl rfl rfl) (λb15 _=>dBa ?_)))
   refine dQ 24 [] rfl (Qv rfl QgX rfl (λw1 h1=>QnS h1 aPk (by rfl) (by rfl) (by decide))) (Qr (show _=Value.int .i64 (nE1 (⟨(j:Int),mo,rm,pln L⟩:Tre) i)from by congr 1;rw[Qb7];exact QtK hN1 _ (by first|(simp only[true_iff];left;have hq:=hg13;simp at hq ⊢;omega)|(have hq:¬(((nth L i).cs.length:Int)=0):=of_decide_eq_false hg13;rw[decide_eq_true_eq];omega))) (dP 25 ?_))
   refine dNi ?_
   exact Qo () trivial aSx (λw h=>h.ent aEt)
  intro hg16
  have hs17:=hg16;try simp only[dN]at hs17
  refine dFo 13 56 hg16 ?_
  refine dQo 14 56 [] hg16 rfl rfl rfl (X8 rfl rfl Xg aPk rfl) ?_
  refine dVo 15 56 hg16 rfl rfl rfl (QS rfl rfl Tryz.underlying28) ?_
  refine dFo 16 56 hg16 ?_
  refine dQo 17 56 [] hg16 rfl rfl rfl (X8 rfl rfl Xq aPk rfl) ?_
  refine dVo 18 56 hg16 rfl rfl rfl (QS rfl rfl Tryz.underlying67) ?_
  refine dPo 19 56 hg16 ?_
  try refine dWr ?_
  refine dPo 20 56 hg16 ?_
  refine dV 21 rfl (Xl rfl rfl hg16 rfl) (dQ 22 [] rfl (Qv rfl Qb8 rfl (λw1 h1=>Qd4 w1 _ _)) (dH 23 rfl (Qe (cs:=[_,_]) rfl rfl Yo ZR rfl rfl rfl) (λb18 _=>dBa ?_)))
  refine dQ 24 [] rfl (Qv rfl QgX rfl (λw1 h1=>QnS h1 aPk (by rfl) (by rfl) (by decide))) (Qr (show _=Value.int .i64 (nE1 (⟨(j:Int),mo,rm,pln L⟩:Tre) i)from by congr 1;rw[Qb7];exact QtK hN1 _ (by first|(simp only[true_iff];left;have hq:=hg16;simp at hq ⊢;omega)|(have hq:¬(((nth L i).cs.length:Int)=0):=of_decide_eq_false hg16;rw[decide_eq_true_eq];omega))) (dP 25 ?_))
  refine dNi ?_
  exact Qo () trivial aSx (λw h=>h.ent aEt)
 intro _ _
 refine aU6 ?_
 refine XY (α:=Unit) [8,71,72,73,74,75,76,77] (λ_=>[(8,.int .i64 (nE2 (⟨(j:Int),mo,rm,pln L⟩:Tre) i))]) (λ_=>HS w (fps [.mp r KI ks]) [.blk b1 158 1 [.pointer (some ⟨bt,0,none⟩)],.blk b2 242 1 [.map (some r)],.blk b3 69 3 (nth L i).vals,.mp r KI ks]) (λ_=>True) ?_ ?_
 ·skip
  refine sCd rfl (λh19=>?_) λh19=>?_
  ·refine aU4 ?_
   refine oCq rfl (λw1 h1=>c230 w1 (nth L i).ea (nth L i).ec (nth L i).es 231 #[.pointer (some ⟨b1,0,none⟩)] ((nth L i).es.map (Yu (j:Int))) ((hs.es hi).later h1) om (by kernel_rfl) (by simp) (λk w2 hk9 _ h2=>by rw[QcD hk9];exact c231 w2 b1 (k:Int) (nth (nth L i).es k) bt j mo rm a L.length cap hj (hkl _ (QI hk9)) ((h1.rd_blk (Mc:=[]) (b:=b1) aPk rfl (by simp)).next h2) ((ht.next h1).next h2))) (aU5 ?_)
   exact Qo () trivial (by rw[hE2,if_pos h19];exact aSx) (λw h=>h.ent aEt)
  refine aU ?_
  exact Qo () trivial (by rw[hE2,if_neg h19];exact aSx) (λw h=>h.ent aEt)
 intro _ _
 refine aU6 ?_
 refine XY (α:=List Int) [8,80,81,82,83,84,85,86] (λ_=>[(8,.int .i64 (nE3 (⟨(j:Int),mo,rm,pln L⟩:Tre) i seen).1)]) (λq=>HS w (fps [.mp r KI ks]) [.blk b1 158 1 [.pointer (some ⟨bt,0,none⟩)],.blk b2 242 1 [.map (some r)],.blk b3 69 3 (nth L i).vals,.mp r KI q]) (λq=>∀x,x∈q ↔ x∈(nE3 (⟨(j:Int),mo,rm,pln L⟩:Tre) i seen).2) ?_ ?_
 ·skip
  refine sCd rfl (λh20=>?_) λh20=>?_
  ·refine aU4 ?_
   refine o_h (QM (Cs:=[.mp r KI ks]) rfl QuE rfl aPs (λw1 h1 hf=>c232 w1 (nth L i).ca (nth L i).cc (nth L i).cs b1 b2 r ks seen bt j mo rm a cap L hf hst (h1.rd_blkF aPs (b:=b1) aPk rfl) (h1.rd_blkF aPs (b:=b2) aPk rfl) ((ht.keep h1).mono (XB aPs)) ((hs.keep h1).mono (XB aPs)) hl (((hs.cs hi).keep h1).mono (XB aPs)) hcl)) rfl (λb21 hkG=>aU5 ?_)
   exact Qo b21.2 (by rw[hE3,if_pos h20];exact hkG) (by rw[hE3,if_pos h20];exact aSx) (λw h=>h.ent aEt)
  refine aU ?_
  exact Qo ks (by rw[hE3,if_neg h20];exact hst) (by rw[hE3,if_neg h20];exact aSx) (λw h=>h.ent aEt)
 intro ks2 hks2
 refine aU6 ?_
 refine XY (α:=Unit) [8,89,90,91,92,93,94,95] (λ_=>[(8,.int .i64 (nE4 (⟨(j:Int),mo,rm,pln L⟩:Tre) i seen))]) (λ_=>HS w (fps [.mp r KI ks]) [.blk b1 158 1 [.pointer (some ⟨bt,0,none⟩)],.blk b2 242 1 [.map (some r)],.blk b3 69 3 (nth L i).vals,.mp r KI ks2]) (λ_=>True) ?_ ?_
 ·skip
  refine sCd rfl (λh22=>?_) λh22=>?_
  ·have he0:=Qmn (Qv4 _ _ (QtJ _ _ h22))
   rw[hn]at he0
   have hkok:∀x∈(nth L i).es,QW (j:Int) x.key=true/\x.key.length<=1000000:=λx hx=>⟨QaV (he0 x hx),hkl x hx⟩
   refine aU4 ?_
   refine oCq rfl (λw1 h1=>c230 w1 (nth L i).ea (nth L i).ec (nth L i).es 234 #[.pointer (some ⟨b1,0,none⟩),.pointer (some ⟨b3,0,none⟩)] ((List.range (nth L i).es.length).map (Qbu (j:Int) (nth L i).es)) ((hs.es hi).later h1) om (by kernel_rfl) (by simp) (λk w2 hk9 _ h2=>by rw[QcU hk9];exact c234 w2 b1 b3 k true (nth L i).ea (nth L i).ec (nth L i).es (.bool true) bt j mo rm a L.length cap hj hk9 om hkok ((h1.rd_blk (Mc:=[]) (b:=b1) aPk rfl (by simp)).next h2) ((h1.rd_blk (Mc:=[]) (b:=b3) aPk rfl (by simp)).next h2) (((hs.es hi).later h1).later h2) ((ht.next h1).next h2))) (aU5 ?_)
   exact Qo () trivial (by rw[hE4,if_pos h22];exact aSx) (λw h=>h.ent aEt)
  refine aU ?_
  exact Qo () trivial (by rw[hE4,if_neg h22];exact aSx) (λw h=>h.ent aEt)
 intro _ _
 refine aU5 ?_
 exact rT rfl rfl (λw' h'=>⟨ks2,rfl,hks2,h'.ent aEt⟩)
end Go.Proofs
