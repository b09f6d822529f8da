/- Contracts of the program's functions, proved by walking them with the rules of the Gx texts; without conditions beyond those that each contract names. -/
import Derived.WalkKit
import Derived.Deep.Draws
import Derived.TacticsIn
import Derived.OrdersIn
import Derived.RangeFuncLeaves
import Derived.Lib.Strings
import Derived.Laws.BytesArg
import Derived.Laws.IdiomStrings
import Derived.Deep.Quiet
import Derived.ProofKit
import Derived.OpenShut
import Derived.Laws.StructEq
import Derived.ChangeKeysEq
import Derived.Laws.Externs
import Derived.Lib.Overlaps
import Derived.Carry
import Derived.Laws.Small
import Derived.Lib.Bytealg
import Derived.Lib.Builder
import Derived.Laws.Pointers
import Derived.RangeFuncRecord
import Derived.Test.YtpkhkcchibbhmaaGreatDoorProg
import Derived.KernelRfl
import Derived.Test.YtpkhkcchibbhmaaGreatDoorTie
import Derived.Test.YtpkhkcchibbhmaaGreatDoorCards
import Derived.SevenTiedAt
import Derived.LaidMore
import Derived.Lay
import Derived.Stop.Joined
import Derived.Test.YtpkhkcchibbhmaaGreatDoorP0
set_option linter.unusedSimpArgs false
set_option maxHeartbeats 1000000
set_option linter.unusedVariables false
set_option linter.unusedSectionVars false
set_option linter.unnecessarySimpa false
namespace Gx
open Go Go.RowKit
section
variable{S:Type}(st:S->Vis->S)(er:S->Vis->Int×Int)
def XU:S->List Vis->(Int×Int)×S
 | s,[]=>((0,0),s)
 | s,v::vs=>if(er s v).2=0 then XU (st s v) vs else(er s v,st s v)
theorem Qcu:∀(A B:List Vis)(s:S),XU st er s (A++B)=if(XU st er s A).1.2=0 then XU st er (XU st er s A).2 B else XU st er s A
 | [],B,s=>rfl
 | v::A,B,s=>by
  rw[List.cons_append,XU,XU]
  by_cases h:(er s v).2=0
  ·simp_all[Qcu]
  grind
theorem Qrl{A B:List Vis}{s:S}(h:¬(XU st er s A).1.2=0):XU st er s (A++B)=XU st er s A:=by rw[Qcu,if_neg h]
theorem Qm8{A B:List Vis}{s:S}(h:(XU st er s A).1.2=0):XU st er s (A++B)=XU st er (XU st er s A).2 B:=by rw[Qcu,if_pos h]
theorem Qoz:∀{A:List Vis}{s:S},(XU st er s A).1.2=0->(XU st er s A).1=(0,0)
 | [],s,_=>rfl
 | v::A,s,h=>by
  rw[XU]at h ⊢;split at h
  ·simp_all[Qoz]
  grind
end
def X8(ns:List Nd)(v:Vis)(k:Nat):Vis:=⟨((nth ns v.i).cs.getD k 0).toNat,v.d+1,loK (nth ns v.i).es k v.lo,hiK (nth ns v.i).es k v.hi⟩
def QbA(ns:List Nd)(f:Nat)(v:Vis)(k:Nat):List Vis:=v::(List.range k).flatMap λk=>vis ns f (X8 ns v k)
theorem Qlh(ns:List Nd)(f:Nat)(v:Vis):QbA ns f v 0=[v]:=rfl
theorem Yj(ns:List Nd)(f:Nat)(v:Vis)(k:Nat):QbA ns f v (k+1)=QbA ns f v k++vis ns f (X8 ns v k):=by
 unfold QbA;rw[List.range_succ,List.flatMap_append,List.flatMap_singleton];rfl
theorem ZN(ns:List Nd)(f:Nat)(v:Vis):vis ns (f+1) v=QbA ns f v (nth ns v.i).cs.length:=rfl
theorem Qbq(ns:List Nd)(f:Nat)(v:Vis){k m:Nat}(h:k<=m):∃B,QbA ns f v m=QbA ns f v k++B:=by
 induction m with
 | zero=>simp_all
 | succ m ih=>
  rcases Nat.lt_or_ge m k with h1|h1
  ·obtain rfl:k=m+1:=by omega
   simp_all
  grind[vis,X8,Yj]
theorem QbT{ns:List Nd}{i:Nat}{P:List Nat}(h:Way ns (i::P))(hi:i<ns.length){k:Nat}(hk:k<(nth ns i).cs.length)(hc:0<=(nth ns i).cs.getD k 0):Way ns (((nth ns i).cs.getD k 0).toNat::i::P):=by
 refine⟨⟨?_,hi⟩,h⟩
 grind
theorem Qdx{co:Int}{ns:List Nd}(ht:TOk co ns){i k:Nat}(hi:i<ns.length)(hk:k<(nth ns i).cs.length):1<=(nth ns i).cs.getD k 0/\(nth ns i).cs.getD k 0<=(ns.length:Int)-1/\(nth ns ((nth ns i).cs.getD k 0).toNat).us=true:=by
 have hm:(nth ns i).cs.getD k 0∈(nth ns i).cs:=by grind
 have h:=ht.kid i hi _ hm
 grind
def Qdk(co:Int)(ns:List Nd)(key:List UInt8):Nat->Nat->List Nat×Nat×Bool
 | 0,_=>([],0,false)
 | f+1,i=>if fnd co (nth ns i).es key=true\/(nth ns i).cs.length=0 then([i],plc co (nth ns i).es key,fnd co (nth ns i).es key)
   else(i::(Qdk co ns key f ((nth ns i).cs.getD (plc co (nth ns i).es key) 0).toNat).1,(Qdk co ns key f ((nth ns i).cs.getD (plc co (nth ns i).es key) 0).toNat).2)
def Qt(co:Int)(ns:List Nd)(key:List UInt8):List Nat×Nat×Bool:=Qdk co ns key ns.length 0
structure Bd(ns:List Nd):Prop where
 len:ns.length<=1000
 es:∀i,i<ns.length->(nth ns i).es.length<=1000
 cs:∀i,i<ns.length->(nth ns i).cs.length<=1000
theorem Qd(L:List LNd):(pln L).length=L.length:=by simp
theorem Qr{L:List LNd}{i:Nat}(h:i<L.length):nth (pln L) i=(nth L i).pl:=by simp_all[QS,QV]
theorem Qfk(L:List LNd)(i:Nat)(n:LNd):pln (L.set i n)=(pln L).set i n.pl:=by simp[List.map_set]
theorem QbI(L M:List LNd):pln (L++M)=pln L++pln M:=by simp
def QaR(w:World)(M:List Nat)(p:Option Addr)(o:Option (List UInt8)):Prop:=match o with
 | none=>p=none
 | some k=>∃b off,p=some ⟨b,off,none⟩/\Rd w M b off (.string (bs k))
theorem QaR.keep{w w':World}{M:List Nat}{As:List HA}{p:Option Addr}{o:Option (List UInt8)}(h:QaR w M p o)(hs:HS w M As w'):QaR w' (fps As) p o:=by
 cases o with
 | none=>exact h
 | some k=>
  obtain⟨b,off,e,hr⟩:=h;exact⟨b,off,e,hs.keep hr⟩
theorem QaR.mono{w:World}{M M':List Nat}{p:Option Addr}{o:Option (List UInt8)}(h:QaR w M p o)(hM:∀b∈M',b∈M):QaR w M' p o:=by
 cases o with
 | none=>exact h
 | some k=>
  obtain⟨b,off,e,hr⟩:=h;exact⟨b,off,e,hr.mono hM⟩
theorem QaR.of_some{w:World}{M:List Nat}{p:Option Addr}{o:Option (List UInt8)}(h:QaR w M p o)(hp:p.isSome=true):∃k b off,o=some k/\p=some ⟨b,off,none⟩/\Rd w M b off (.string (bs k)):=by
 cases o with
 | none=>
  have:p=none:=h
  grind
 | some k=>
  obtain⟨b,off,e,hr⟩:=h
  grind
theorem QaR.of_none{w:World}{M:List Nat}{p:Option Addr}{o:Option (List UInt8)}(h:QaR w M p o)(hp:p.isSome=false):o=none:=by
 cases o with
 | none=>rfl
 | some k=>
  obtain⟨b,off,e,hr⟩:=h;subst e;cases hp
theorem Xm{As Cs Ds:List HA}(h:QaS As Cs Ds):∀b∈fps Cs,b∈fps As:=λb hb=>by
 obtain⟨A,hA,hb⟩:=List.mem_flatMap.1 hb;exact List.mem_flatMap.2 ⟨A,(List.Perm.mem_iff h).2 (List.mem_append_left _ hA),hb⟩
theorem HS.rd_blkF{w0 w:World}{M:List Nat}{As Cs Ds Es:List HA}{b i t tot:Nat}{cs:List Value}{v:Value}(h:HS w0 M As w)(hp:QaS As Cs Ds)(hp2:QD Ds (.blk b t tot cs) Es)(hv:cs[i]?=some v):Rd w (fps Cs) b i v:=by
 have h1:HS w0 M (Cs++Ds) w:=h.perm hp;refine⟨(h1.ok _ (List.mem_append_right _ hp2.mem)|>Xg.lt),λhb=>?_,Xg.cell (h1.ok _ (List.mem_append_right _ hp2.mem)) hv⟩;obtain⟨A,hA,hb⟩:=List.mem_flatMap.1 hb;exact(List.pairwise_append.1 h1.sep).2.2 A hA _ hp2.mem b hb (List.mem_singleton.2 rfl)
section
variable(t:Tre)(i:Nat)
def nE1:Int:=if((nth t.ns i).es.length:Int)<=Yr t.mo t.rm i then if(nth t.ns i).cs.length=0\/(nth t.ns i).cs.length=(nth t.ns i).es.length+1 then 0 else 10 else 16
def nE2:Int:=if nE1 t i=0 then ZH t.co (nth t.ns i).es else nE1 t i
def nE3(seen:List Int):Int×List Int:=if nE2 t i=0 then Yg t.ns (nth t.ns i).cs seen else(nE2 t i,seen)
def nE4(seen:List Int):Int:=if(nE3 t i seen).1=0 then QaN t.co (nth t.ns i).es else(nE3 t i seen).1
theorem Qhl{seen:List Int}(h:(nth t.ns i).us=true):X7 t i seen=(nE4 t i seen,(nE3 t i seen).2):=by
 unfold X7 nE4 nE3 nE2 nE1
 grind
theorem Qwb(h:nE2 t i=0):ZH t.co (nth t.ns i).es=0:=by grind[nE2]
theorem Qs9{seen:List Int}(h:(nE3 t i seen).1=0):nE2 t i=0:=by grind[nE3]
end
def Qdt(ns:List Nd)(c:Int):Prop:=(1<=c/\c<=(ns.length:Int)-1)/\(nth ns c.toNat).us=true
instance(ns:List Nd)(c:Int):Decidable (Qdt ns c):=inferInstanceAs (Decidable (_/\_))
def QcJ(ns:List Nd)(c:Int)(seen:List Int):Int:=if Qdt ns c then if c∈seen then 23 else 0 else 6
def Qd3(ns:List Nd)(c:Int)(seen:List Int):List Int:=if Qdt ns c then c::seen else seen
theorem QbM(ns:List Nd)(c:Int)(cs seen:List Int):Yg ns (c::cs) seen=if QcJ ns c seen=0 then Yg ns cs (Qd3 ns c seen)else(QcJ ns c seen,Qd3 ns c seen):=by grind[QcJ,Qd3,Yg,Qdt,nth]
theorem Qc8{cs:List Int}{k:Nat}(h:k<cs.length):cs.drop k=cs.getD k 0::cs.drop (k+1):=by simp_all
theorem Qcp{co:Int}{es:List TEnt}{k:Nat}(h:k<es.length):(es.map (Yc co)).getD k 0=Yc co (nth es k):=by
 rw[YX (d:=default) h];rfl
theorem Qch{co:Int}{es:List TEnt}{k:Nat}(h:k<es.length):((List.range es.length).map (Qa9 co es)).getD k 0=Qa9 co es k:=by grind
theorem QaB{co:Int}{x:TEnt}(h:Yc co x=0):QL co x.key=true:=by grind[Yc,X3]
theorem QeK{co:Int}{k:List UInt8}(h:QL co k=true):1<=k.length/\k.length<=40:=by grind[QL]
theorem HS.thenF{w w1 w2:World}{M:List Nat}{As Bs:List HA}(h:HS w M As w1)(hc:HS w1 (fps As) Bs w2):HS w M Bs w2:=by
 have h1:HS w M (As++[]) w1:=by rw[List.append_nil];exact h
 have h2:=h1.callM (Mc:=fps As) (λb hb=>by obtain⟨A,hA,hb⟩:=List.mem_flatMap.1 hb;exact⟨A,hA,hb⟩) hc
 grind
def ZB(cs:List Int)(n:Int):List Bool:=cs.map λc=>decide (n=c)
theorem YS(cs:List Int)(n:Int):(ZB cs n).length=cs.length:=by simp[ZB]
theorem Qcw{cs:List Int}{n:Int}{k:Nat}(h:k<cs.length):(ZB cs n).getD k false=decide (n=cs.getD k 0):=by grind[ZB,YX]
theorem QqH(cs:List Int)(n:Int):(ZB cs n).any id=decide (n∈cs):=by
 unfold ZB;rw[List.any_map]
 grind
def ZS(t:Tre)(v:Vis):Bool:=decide (0<v.i)&&(decide (((nth t.ns v.i).es.length:Int)<t.mo/2)||((decide ((nth t.ns 0).es.length=0)&&decide ((v.i:Int)∈(nth t.ns 0).cs))&&decide (((nth t.ns v.i).es.length:Int)<=t.rm)))
def Qae(t:Tre)(v:Vis)(x:TEnt):Bool:=(v.lo.any λb=>decide (0<=QN t.co b x.key))||(v.hi.any λb=>decide (0<=QN t.co x.key b))
def ZO(t:Tre)(v:Vis):Bool:=(nth t.ns v.i).es.any (Qae t v)
def erV(t:Tre)(s:Int)(v:Vis):Int×Int:=((v.i:Int),if ZS t v=true then 14 else if ZO t v=true then 9 else if(nth t.ns v.i).cs.length=0 then(if(if s=0 then v.d else s)=v.d then 0 else 22)else 0)
def stV(t:Tre)(s:Int)(v:Vis):Int:=if ZS t v=true then s else if ZO t v=true then s else if(nth t.ns v.i).cs.length=0 then(if s=0 then v.d else s)else s
theorem QaZ(t:Tre)(deep:Int)(v:Vis):Qcc t deep v=if ZS t v=true then 14 else if ZO t v=true then 9 else if(nth t.ns v.i).cs.length=0/\v.d≠deep+1 then 22 else 0:=by
 unfold Qcc;simp only[];have h:ZS t v=true ↔ (0<v.i/\(((nth t.ns v.i).es.length:Int)<t.mo/2\/((nth t.ns 0).es.length=0/\(v.i:Int)∈(nth t.ns 0).cs)/\((nth t.ns v.i).es.length:Int)<=t.rm)):=by grind[ZS]
 by_cases h1:ZS t v=true
 ·grind
 ·rw[if_neg (λh2=>h1 (h.2 h2)),if_neg h1];rfl
theorem QhA(t:Tre):∀(vs:List Vis)(s:Int),s≠0->(XU (stV t) (erV t) s vs).1=Ys t (s-1) vs
 | [],s,_=>rfl
 | v::vs,s,hs=>by
  have he:(erV t s v).2=Qcc t (s-1) v:=by grind[QaZ,erV,ZS,ZO,nth]
  have hst:stV t s v=s:=by grind[stV]
  rw[XU,Ys,he,hst];split
  ·exact QhA t vs s hs
  grind[erV]
theorem Qha{t:Tre}(hT:TOk t.co t.ns)(h0:0<t.ns.length)(deep:Int):∀(f:Nat)(v:Vis)(P:List Nat)(rest:List Vis),Gx.Way t.ns (v.i::P)->P.length+f=t.ns.length->1<=v.d->deep+1=v.d+YD t.ns f v.i->(XU (stV t) (erV t) 0 (vis t.ns f v++rest)).1=Ys t deep (vis t.ns f v++rest)
 | 0,v,P,rest,hw,hf,_,_=>by
  have:=YK hT h0 hw
  grind
 | f+1,v,P,rest,hw,hf,hd,he=>by
  have hi:=Qcy hT h0 hw v.i (List.mem_cons_self ..);rw[YD]at he;rw[vis,List.cons_append,XU,Ys,QaZ]
  by_cases h1:ZS t v=true
  ·grind[erV]
  ·rw[if_neg h1]
   by_cases h2:ZO t v=true
   ·grind[erV]
   ·rw[if_neg h2]
    by_cases h3:(nth t.ns v.i).cs.length=0
    ·grind[erV,stV,nth,QhA]
    ·rw[if_neg h3]at he;have e1:(erV t 0 v).2=0:=by unfold erV;simp only[if_neg h1,if_neg h2,if_neg h3]
     have e2:stV t 0 v=0:=by unfold stV;rw[if_neg h1,if_neg h2,if_neg h3]
     have hk:=Qdx hT hi (k:=0) om;have e3:(if(nth t.ns v.i).cs.length=0/\v.d≠deep+1 then(22:Int)else 0)=0:=if_neg (λh5=>h3 h5.1);rw[e1,if_pos rfl,e2,e3,if_pos rfl];obtain⟨m,hm⟩:∃m,(nth t.ns v.i).cs.length=m+1:=⟨(nth t.ns v.i).cs.length-1,om⟩;rw[hm,List.range_succ_eq_map,List.flatMap_cons,List.append_assoc];refine Qha hT h0 deep f _ (v.i::P) _ (QbT hw hi om om) (by simp only[List.length_cons];omega) (by show 1<=v.d+1;omega) ?_
     grind
theorem run_shape{t:Tre}(hT:TOk t.co t.ns)(h0:0<t.ns.length):(XU (stV t) (erV t) 0 (YR t.ns)).1=Ys t (YD t.ns t.ns.length 0) (YR t.ns):=by
 have h:=Qha hT h0 (YD t.ns t.ns.length 0) t.ns.length Zr [] [] rfl (by simp) (by decide) (by show _=1+_;rw[show Zr.i=0 from rfl];omega);rw[List.append_nil]at h;exact h
def Qg2(s:List Bool)(v:Vis):List Bool:=s.set v.i true
theorem QlW:∀(vs:List Vis)(s:List Bool),(XU Qg2 (λ_ _=>(0,0)) s vs).1=(0,0)/\(XU Qg2 (λ_ _=>(0,0)) s vs).2.length=s.length/\∀i,i<s.length->(XU Qg2 (λ_ _=>(0,0)) s vs).2.getD i false=(s.getD i false||decide (i∈vs.map Vis.i))
 | [],s=>⟨rfl,rfl,λi _=>by simp[XU]⟩
 | v::vs,s=>by
  obtain⟨h1,h2,h3⟩:=QlW vs (Qg2 s v)
  grind[XU,Qg2,hi]
theorem Qjo{S:Type}{st:S->Vis->S}{er:S->Vis->Int×Int}{I:S->Prop}(hI:∀s v,I s->I (st s v)):∀(vs:List Vis)(s:S),I s->I (XU st er s vs).2
 | [],s,h=>h
 | v::vs,s,h=>by
  rw[XU];split
  ·simp_all[Qjo]
  ·exact hI _ _ h
def KOk(co:Int)(o:Option (List UInt8)):Prop:=∀k,o=some k->QL co k=true/\k.length<=1000000
theorem Qeb{co:Int}{ns:List Nd}(hT:TOk co ns){i:Nat}(hi:i<ns.length):∀x∈(nth ns i).es,QL co x.key=true/\x.key.length<=1000000:=λx hx=>by
 have h:=QaB (hT.ents i hi x hx)
 grind[QeK]
theorem Qf0{co:Int}{ns:List Nd}(hT:TOk co ns){v:Vis}(hi:v.i<ns.length){k:Nat}(hk:k<=(nth ns v.i).es.length)(h:KOk co v.lo):KOk co (X8 ns v k).lo:=by
 intro x hx;unfold X8 loK at hx;simp only[]at hx;split at hx
 ·grind[Qeb,hi,Qz]
 ·exact h x hx
theorem QgG{co:Int}{ns:List Nd}(hT:TOk co ns){v:Vis}(hi:v.i<ns.length){k:Nat}(h:KOk co v.hi):KOk co (X8 ns v k).hi:=by
 intro x hx;unfold X8 hiK at hx;simp only[]at hx;split at hx
 ·grind[Qeb,hi,Qz]
 ·exact h x hx
def Qb6(t:Tre):Int×Int:=match ZX t.ns ((YR t.ns).map Vis.i) t.ns.length 0 with
 | some i=>((i:Int),21)
 | none=>Ys t (YD t.ns t.ns.length 0) (YR t.ns)
theorem Qle{t:Tre}{deep:Int}:∀{vs:List Vis},(Ys t deep vs).2=0->Ys t deep vs=(0,0)
 | [],_=>rfl
 | v::vs,h=>by
  rw[Ys]at h ⊢;split at h
  ·simp_all[Qle]
  grind
theorem QlL{t:Tre}(h:(Qb6 t).2=0):(Qb6 t).1=0:=by grind[Qb6,Qle]
def ZM(n:Nat):Int:=if 0<n then if n<=120 then 0 else 8 else 10
theorem Qdb{t:Tre}(h:¬(if QC t.co=0 then XI t.mo t.rm else QC t.co)=0):XQ t=(0,if QC t.co=0 then XI t.mo t.rm else QC t.co):=by grind[XQ,QC,XI]
theorem Qin{t:Tre}(h:(if QC t.co=0 then XI t.mo t.rm else QC t.co)=0):QC t.co=0/\XI t.mo t.rm=0:=by grind
theorem Qcn{mo rm:Int}(h:XI mo rm=0):(3<=mo/\mo<=8)/\(mo/2<=rm/\rm<=mo):=by grind[XI]
theorem Qd6{t:Tre}(h:(if QC t.co=0 then XI t.mo t.rm else QC t.co)=0)(h2:¬ZM t.ns.length=0):XQ t=(0,ZM t.ns.length):=by grind[Qin,XQ,ZM]
theorem QkW{n:Nat}(h:ZM n=0):0<n/\n<=120:=by grind[ZM]
theorem QeB{t:Tre}(h:(if QC t.co=0 then XI t.mo t.rm else QC t.co)=0)(h2:ZM t.ns.length=0):XQ t=if(X9 t t.ns.length 0 []).2=0 then Qb6 t else X9 t t.ns.length 0 []:=by
 obtain⟨h3,h4⟩:=Qin h;obtain⟨h5,h6⟩:=QkW h2;unfold XQ;rw[if_pos h3,if_pos h4,if_pos h5,if_pos h6];rfl
theorem ZC{t:Tre}(h:(XQ t).2=0):QC t.co=0/\XI t.mo t.rm=0/\0<t.ns.length/\t.ns.length<=120/\(X9 t t.ns.length 0 []).2=0/\(Qb6 t).2=0/\XQ t=(0,0):=by
 by_cases h1:(if QC t.co=0 then XI t.mo t.rm else QC t.co)=0
 ·grind[ZM,QeB,Qin,QkW,QlL,Qd6]
 grind[Qdb]
theorem Qqc{l:List Bool}{k:Nat}(h:k<l.length):(l.map Value.bool)[k]?=some (.bool (l.getD k false)):=by grind
theorem QgI{t:Tre}{k:Nat}{seen:List Int}(h:k<t.ns.length):X9 t (t.ns.length-k) k seen=if(X7 t k seen).1=0 then X9 t (t.ns.length-(k+1)) (k+1) (X7 t k seen).2 else((k:Int),(X7 t k seen).1):=by
 rw[show t.ns.length-k=t.ns.length-(k+1)+1 by omega,X9]
theorem QhL{ns:List Nd}{below:List Nat}{k:Nat}(h:k<ns.length):ZX ns below (ns.length-k) k=if(nth ns k).us=true/\k ∉ below then some k else ZX ns below (ns.length-(k+1)) (k+1):=by
 rw[show ns.length-k=ns.length-(k+1)+1 by omega,ZX]
theorem QbF{t:Tre}{i:Nat}(h:ZX t.ns ((YR t.ns).map Vis.i) t.ns.length 0=some i):Qb6 t=((i:Int),21):=by
 unfold Qb6;rw[h]
theorem QbQ{t:Tre}(h:ZX t.ns ((YR t.ns).map Vis.i) t.ns.length 0=none):Qb6 t=Ys t (YD t.ns t.ns.length 0) (YR t.ns):=by
 unfold Qb6;rw[h]
theorem Qfz{l:List LNd}{k:Nat}(hk:k<l.length)(ea:Option Addr)(ec:Nat)(es:List TEnt):Qq (l.flatMap LNd.vals) (k*3+1) [.slice ea es.length ec]=(l.set k {nth l k with ea:=ea,ec:=ec,es:=es}).flatMap LNd.vals:=
 Z2 nv3 l k 1 _ (nth l k) _ (QV hk) rfl (by simp)
theorem QfF{l:List LNd}{k:Nat}(hk:k<l.length)(ca:Option Addr)(cc:Nat)(cs:List Int):Qq (l.flatMap LNd.vals) (k*3+2) [.slice ca cs.length cc]=(l.set k {nth l k with ca:=ca,cc:=cc,cs:=cs}).flatMap LNd.vals:=
 Z2 nv3 l k 2 _ (nth l k) _ (QV hk) rfl (by simp)
theorem QrG{l:List LNd}{k:Nat}(hk:k<l.length)(us:Bool):Qq (l.flatMap LNd.vals) (k*3) [.bool us]=(l.set k {nth l k with us:=us}).flatMap LNd.vals:=by
 have h:=Z2 nv3 l k 0 [.bool us] (nth l k) {nth l k with us:=us} (QV hk) rfl (by simp)
 grind
theorem QeO{l:List LNd}{k:Nat}(hk:k<l.length)(ea:Option Addr)(ec:Nat)(es:List TEnt)(ca:Option Addr)(cc:Nat)(cs:List Int):Qq (Qq (l.flatMap LNd.vals) (k*3+1) [.slice ea es.length ec]) (k*3+2) [.slice ca cs.length cc]=(l.set k ⟨(nth l k).us,ea,ec,es,ca,cc,cs⟩).flatMap LNd.vals:=by simp_all[Qfz,QfF,Qk9]
theorem Ql8{l m:List LNd}{k:Nat}(hl:l.length=k)(hk:k<m.length):nth (l++m.drop k) k=nth m k:=by
 apply QS
 grind[QV]
theorem QsO{l m:List LNd}{k:Nat}(hl:l.length=k)(hk:k<m.length)(x:LNd):(l++m.drop k).set k x=l++[x]++m.drop (k+1):=by
 rw[List.set_append_right _ _ om,hl,Nat.sub_self,List.drop_eq_getElem_cons hk,List.set_cons_zero,List.append_assoc];rfl
theorem Qjm{L:List LNd}{k:Nat}(hk:k<L.length){D:List LNd}(hD:pln D=(pln L).take k){x:LNd}(hx:x.pl=(nth L k).pl):pln (D++[x])=(pln L).take (k+1):=by
 rw[QbI,hD,List.take_succ_eq_append_getElem (by rw[Qd];exact hk)]
 simp_all[pln,Qd,nth,QS,Qr]
end Gx
namespace Gx
open Go Go.RowKit
section
variable{P:Program}{o:Oper}{L:Ql}{w0:World}{M:List Nat}{As As':List HA}
def QtQ(P:Program)(t te:TypeId):Prop:=P.underlying t=some (.pointer te)/\∃j,P.info? te=some j/\j.size≠0
theorem QsW{t te:TypeId}{n:Nat}{b:Bool}(h:P.underlying t=some (.pointer te))(h2:tsz P te=some (n,b))(hn:n≠0):QtQ P t te:=by
 refine⟨h,?_⟩
 grind[tsz,hi]
theorem ptee{t te:TypeId}(h:P.underlying t=some (.pointer te)):P.underlying t=some (.pointer (P.pointee t)):=by
 rw[h];simp[Program.pointee,h]
theorem QgC{t t' te:TypeId}{x y:Operand}{p:Option Addr}(ho:o.op=.binOp .neq t x y t')(hx:ev L x=some (.pointer p))(hy:ev L y=some (.pointer none))(ht:QtQ P t te):OpP P o L (.bool p.isSome):=by
 intro ρ w hρ;have hg:(eqGuard .neq t x y (.pointer p) (.pointer none)).run P w=.ok () w:=by unfold eqGuard;simp
 have h:=run_neq_pointer_nil w t p (ptee ht.1);simp only[execOp,ho,hρ _ _ hx,hρ _ _ hy,Sem.run_bind,hg,h,Result.andThen_ok,Sem.run_pure];cases p<;>rfl
end
end Gx
namespace Gx
open Go Go.RowKit
section
variable{P:Program}{o:Oper}{L:Ql}{w0:World}{M:List Nat}{As As':List HA}
theorem QhN{t e sz by':Nat}{x hi mx:Operand}{a:Option Addr}{n cap:Nat}{k2 k3:IntKind}{i2 i3:Int}(j m:Nat)(ho:o.op=.slice t x none (some hi) (some mx))(hx:ev L x=some (.slice a n cap))(hh:ev L hi=some (.int k2 i2))(hm:ev L mx=some (.int k3 i3))(ht:tsl P t=some (e,sz,by'))(e2:i2=(j:Int))(e3:i3=(m:Int))(hjm:j<=m)(hmc:m<=cap) :
  OpP P o L (.slice (YW a m 0 sz) j m):=by
 intro ρ w hρ;obtain⟨hu,inf,h1,h2,_⟩:=XO ht;subst e2 e3;simp[execOp,ho,hρ _ _ hx,hρ _ _ hh,hρ _ _ hm,Instr.sliceAt,Instr.slice,Instr.sliceBounds,Instr.sliceBound,asIntOf,run_underlying hu,hjm,hmc,Go.sizeOf,typeInfo,h1,h2,YW]
end
theorem Qq4(a:Option Addr)(cap sz:Nat)(ha:∀x,a=some x->x.off=0/\x=⟨x.block,0,none⟩):YW a cap 0 sz=a:=by
 unfold YW;split
 ·rfl
 ·cases a with
  | none=>rfl
  | some x=>
   rw[(ha x rfl).2];simp[XV]
theorem Rw.cut{α:Type}[Inhabited α]{vals:α->List Value}{sz:Nat}{w:World}{M:List Nat}{a:Option Addr}{l:List α}(h:Rw vals sz w M a l){cap i:Nat}(hc:l.length<=cap):Rw vals sz w M (YW a cap i sz) (l.drop i):=
 ⟨λhn=>by
  rw[List.length_drop]at hn;obtain⟨b,o,rfl,h2⟩:=h.at_ om;refine⟨b,o+i*sz,?_,λj hj=>?_⟩
  ·unfold YW;rw[if_neg om];simp[XV]
  ·rw[List.length_drop]at hj;have e:nth (l.drop i) j=nth l (i+j):=QS (by rw[List.getElem?_drop];exact QV om);have h3:=h2 (i+j) om;simp only[e];refine⟨h3.1,λq v hv=>?_⟩;have h4:=h3.2 q v hv;rw[show o+(i+j)*sz+q=o+i*sz+j*sz+q by rw[Nat.add_mul];omega]at h4;exact h4⟩
section
variable{w0 w:World}{M:List Nat}{As As' As'':List HA}{gn cap et nt':Nat}{a:Option Addr}{L:List LNd}
theorem QeZ(h0:0<L.length)(h:HS w0 M As w)(hp:QD As (.nodes et nt' a cap L) As'):∃gn,a=some ⟨gn,0,none⟩/\L.length<=cap/\cap<=maxLen/\HS w0 M (.blk gn nt' (cap*3) (L.flatMap LNd.vals)::.star (L.map (QB et))::As') w:=by
 have h1:=HS.row_open (h.pick hp);obtain⟨gn,e,_,h2,h3,_,h4⟩:=h1.own_blk h0 .here
 grind
theorem QgB(h:HS w0 M (.blk gn nt' (cap*3) (L.flatMap LNd.vals)::.star (L.map (QB et))::As) w)(h1:L.length<=cap)(h2:cap<=maxLen):HS w0 M (.nodes et nt' (some ⟨gn,0,none⟩) cap L::As) w:=
 HS.row_shut (l:=L) (sub:=QB et) (HS.own_shut (n:=L.length) h (Qi nv3 L) h1 h2) rfl rfl
theorem HS.nt_at(h:HS w0 M As w)(hp:QD As (.blk gn nt' (cap*3) (L.flatMap LNd.vals)) As')(hp2:QD As' (.star (L.map (QB et))) As''):Nt w [] (some ⟨gn,0,none⟩) L:=by
 refine⟨h.rw_blk nv3 hp,λn hn=>?_⟩;obtain⟨i,hi,e⟩:=List.getElem_of_mem hn;have e2:nth L i=n:=QS (by rw[List.getElem?_eq_getElem hi,e]);have h2:=HS.sub_open hi ((h.pick hp).tail.pick hp2);rw[e2]at h2;have h3:=HS.star_open h2;exact⟨h3.rw_own ev2 .here rfl,h3.rw_own iv1 (.there .here) rfl⟩
theorem HS.node_out{i:Nat}(hi:i<L.length)(h:HS w0 M As w)(hp:QD As (.star (L.map (QB et))) As'):HS w0 M (.own (.slice (nth L i).ea (nth L i).es.length (nth L i).ec) et 2 (nth L i).es.length ((nth L i).es.flatMap TEnt.vals)::.own (.slice (nth L i).ca (nth L i).cs.length (nth L i).cc) 3 1 (nth L i).cs.length ((nth L i).cs.flatMap inV)::.star ((Qcr L i).map (QB et))::As') w:=
 HS.star_open (Bs:=[_,_]) (HS.sub_open hi (h.pick hp))
theorem HS.node_in{i:Nat}(hi:i<L.length)(x:LNd)(h:HS w0 M (.own (.slice x.ea x.es.length x.ec) et 2 x.es.length (x.es.flatMap TEnt.vals)::.own (.slice x.ca x.cs.length x.cc) 3 1 x.cs.length (x.cs.flatMap inV)::.star ((Qcr L i).map (QB et))::As) w):HS w0 M (.star ((L.set i x).map (QB et))::As) w:=
 HS.sub_shut (sub:=QB et) hi (HS.star_close (Bs:=[_,_]) h)
theorem QkF{a:Option Addr}{n n' c t sz:Nat}{xs:List Value}{w:World}(h:Qmy (.slice a n c) t sz n' xs w):∀x,a=some x->x.off=0/\x=⟨x.block,0,none⟩:=by
 obtain⟨_,⟨e,_⟩|⟨g,cap,e,_⟩⟩:=h
 ·grind
 grind
end
theorem QpV{l:List LNd}{k:Nat}(hk:k<l.length)(us:Bool):Qq (l.flatMap LNd.vals) (0+k*3+0) [.bool us]=(l.set k {nth l k with us:=us}).flatMap LNd.vals:=by grind[QrG]
theorem Qsp{et:Nat}{L:List LNd}{i:Nat}(hi:i<L.length)(us:Bool):((L.set i {nth L i with us:=us}).map (QB et))=L.map (QB et):=by
 rw[List.map_set];have e:QB et {nth L i with us:=us}=QB et (nth L i):=rfl;rw[e];apply List.ext_getElem?
 grind[hi,QV]
def usN(ns:List Nd)(i:Nat)(us:Bool):List Nd:=ns.set i {nth ns i with us:=us}
def esN(ns:List Nd)(i:Nat)(es:List TEnt):List Nd:=ns.set i {nth ns i with es:=es}
def csN(ns:List Nd)(i:Nat)(cs:List Int):List Nd:=ns.set i {nth ns i with cs:=cs}
theorem QbW(ns:List Nd)(i:Nat)(es:List TEnt):(esN ns i es).length=ns.length:=by simp[esN]
theorem Qd2(ns:List Nd)(i:Nat)(cs:List Int):(csN ns i cs).length=ns.length:=by simp[csN]
theorem QiM(ns:List Nd)(i:Nat)(us:Bool):(usN ns i us).length=ns.length:=by simp[usN]
theorem QrL{ns:List Nd}{i k:Nat}(hk:k<ns.length)(es:List TEnt):nth (esN ns i es) k=if i=k then{nth ns k with es:=es}else nth ns k:=by
 unfold esN;apply QS
 grind[QV]
theorem Qvi{L:List LNd}{i:Nat}(hi:i<L.length)(ea:Option Addr)(ec:Nat)(es:List TEnt):pln (L.set i {nth L i with ea:=ea,ec:=ec,es:=es})=esN (pln L) i es:=by
 rw[Qfk,esN,Qr hi];rfl
theorem Quy{L:List LNd}{i:Nat}(hi:i<L.length)(ca:Option Addr)(cc:Nat)(cs:List Int):pln (L.set i {nth L i with ca:=ca,cc:=cc,cs:=cs})=csN (pln L) i cs:=by
 rw[Qfk,csN,Qr hi];rfl
theorem Qu8{L:List LNd}{i:Nat}(hi:i<L.length)(us:Bool):pln (L.set i {nth L i with us:=us})=usN (pln L) i us:=by
 rw[Qfk,usN,Qr hi];rfl
def XS(ns:List Nd):Nat:=ixB (ns.map λn=>!n.us)
def QT(ns:List Nd):Nat×List Nd:=if XS ns<ns.length then(XS ns,usN ns (XS ns) true)else(ns.length,ns++[⟨true,[],[]⟩])
def Xz(i:Int):List Nd->Nat->Nat×Nat
 | [],_=>(0,0)
 | n::ns,p=>if ixB (ZB n.cs i)<n.cs.length then(p,ixB (ZB n.cs i))else Xz i ns (p+1)
theorem Qok{i:Int}{ns:List Nd}{k:Nat}(hk:k<ns.length):Xz i (ns.drop k) k=if ixB (ZB (nth ns k).cs i)<(nth ns k).cs.length then(k,ixB (ZB (nth ns k).cs i))else Xz i (ns.drop (k+1)) (k+1):=by
 rw[List.drop_eq_getElem_cons hk,Xz]
 grind[nth,QS]
def Qw(mo:Int):Nat:=((mo+1)/2).toNat
def splA(mo:Int)(ns:List Nd)(i:Nat):List Nd:=
 if(nth (QT ns).2 i).cs.length=0 then esN (esN (QT ns).2 (QT ns).1 ((nth (QT ns).2 i).es.drop (Qw mo+1))) i ((nth (QT ns).2 i).es.take (Qw mo))
 else csN (csN (esN (esN (QT ns).2 (QT ns).1 ((nth (QT ns).2 i).es.drop (Qw mo+1))) i ((nth (QT ns).2 i).es.take (Qw mo))) (QT ns).1 ((nth (QT ns).2 i).cs.drop (Qw mo+1))) i ((nth (QT ns).2 i).cs.take (Qw mo+1))
def addP(ns:List Nd)(p k:Nat)(up:TEnt)(own:Nat):List Nd:=csN (esN ns p (QP (nth ns p).es k up)) p (QP (nth ns p).cs (k+1) (own:Int))
def Qa2(mo:Int)(ns:List Nd)(i:Nat):List Nd:=addP (splA mo ns i) (Xz (i:Int) (splA mo ns i) 0).1 (Xz (i:Int) (splA mo ns i) 0).2 (nth (nth (QT ns).2 i).es (Qw mo)) (QT ns).1
theorem QeQ{ns:List Nd}(h:XS ns<ns.length):(nth ns (XS ns)).us=false:=by
 have h1:(ns.map λn=>!n.us).getD (XS ns) false=true:=Qf7 (l:=ns.map λn=>!n.us) (by rw[List.length_map];exact h);rw[YX (d:=default) h]at h1;show(ns.getD (XS ns) default).us=false
 simpa using h1
theorem QfJ{ns:List Nd}{i:Nat}(hi:i<ns.length)(hu:(nth ns i).us=true):(QT ns).1≠i:=by grind[QT,QeQ]
theorem Qfj(ns:List Nd):(QT ns).1<(QT ns).2.length:=by grind[QT,QiM]
theorem Qcm(ns:List Nd):ns.length<=(QT ns).2.length/\(QT ns).2.length<=ns.length+1:=by grind[QT,QiM]
theorem Qct{ns:List Nd}{i:Nat}(hi:i<ns.length)(hu:(nth ns i).us=true):nth (QT ns).2 i=nth ns i:=by
 have hne:=QfJ hi hu;unfold QT at hne ⊢;split
 ·simp_all[usN,QS,QV,hi]
 ·apply QS
  grind[hi,QV]
theorem Qjw(mo:Int)(ns:List Nd)(i:Nat):(splA mo ns i).length=(QT ns).2.length:=by grind[splA,QbW,Qd2]
def XZ(ns:List Nd):Nat×List Nd:=((QT ns).1,csN (esN (csN (esN (QT ns).2 (QT ns).1 (nth ns 0).es) (QT ns).1 (nth ns 0).cs) 0 []) 0 [((QT ns).1:Int)])
def Qbf(mo:Int)(ns:List Nd)(i:Nat):List Nd:=if 0<i/\mo<((nth ns i).es.length:Int)then Qa2 mo ns i else ns
def X6(mo:Int)(ns:List Nd)(P:List Nat):List Nd:=P.foldl (Qbf mo) ns
def Qa4(mo rm:Int)(ns:List Nd):List Nd:=if rm<((nth ns 0).es.length:Int)then if mo<((nth (XZ ns).2 (XZ ns).1).es.length:Int)then Qa2 mo (XZ ns).2 (XZ ns).1 else(XZ ns).2 else ns
def Qff(mo rm:Int)(ns:List Nd)(P:List Nat):List Nd:=Qa4 mo rm (X6 mo ns P)
abbrev LNd.noE(n:LNd):LNd:={n with ea:=none,ec:=0,es:=[]}
abbrev LNd.noC(n:LNd):LNd:={n with ca:=none,cc:=0,cs:=[]}
abbrev QiV(et:Nat)(n:LNd):HA:=.own (.slice n.ea n.es.length n.ec) et 2 n.es.length (n.es.flatMap TEnt.vals)
abbrev Qn3(n:LNd):HA:=.own (.slice n.ca n.cs.length n.cc) 3 1 n.cs.length (n.cs.flatMap inV)
theorem Qag{L:List LNd}{i:Nat}(hi:i<L.length)(x:LNd):nth (L.set i x) i=x:=QS (List.getElem?_set_self hi)
theorem Qg1{L:List LNd}{i k:Nat}(hk:k<L.length)(hne:i≠k)(x:LNd):nth (L.set i x) k=nth L k:=QS (by rw[List.getElem?_set_ne hne];exact QV hk)
section
variable{w0 w:World}{M:List Nat}{As As' As'':List HA}{et:Nat}{L:List LNd}{i:Nat}
theorem HS.es_take(hi:i<L.length)(h:HS w0 M As w)(hp:QD As (.star (L.map (QB et))) As'):HS w0 M (QiV et (nth L i)::.star ((L.set i (nth L i).noE).map (QB et))::As') w:=by
 have h1:=(h.node_out hi hp).own_nil et 2;have h2:=h1.perm (As':=_::_::_::QiV et (nth L i)::As') (List.Perm.cons _ (List.perm_middle (l₁:=[_,_])).symm);exact(HS.node_in hi (nth L i).noE h2).perm (List.Perm.swap ..)
theorem HS.cs_take(hi:i<L.length)(h:HS w0 M As w)(hp:QD As (.star (L.map (QB et))) As'):HS w0 M (Qn3 (nth L i)::.star ((L.set i (nth L i).noC).map (QB et))::As') w:=by
 have h1:=(h.node_out hi hp).own_nil 3 1;have h2:=h1.perm (As':=_::_::_::Qn3 (nth L i)::As') ((List.perm_middle (l₁:=[_]) (a:=QiV et (nth L i))).trans (List.Perm.cons _ (List.Perm.cons _ (List.Perm.swap ..))));exact(HS.node_in hi (nth L i).noC h2).perm (List.Perm.swap ..)
theorem HS.es_put(hi:i<L.length){ea:Option Addr}{ec:Nat}{es:List TEnt}(h:HS w0 M As w)(hp:QD As (.own (.slice ea es.length ec) et 2 es.length (es.flatMap TEnt.vals)) As')(hp2:QD As' (.star (L.map (QB et))) As''):HS w0 M (.star ((L.set i {nth L i with ea:=ea,ec:=ec,es:=es}).map (QB et))::As'') w:=by
 have h1:=(h.pick hp).perm (List.Perm.cons _ hp2.perm);have h2:=(HS.node_out hi h1 (.there .here)).tail;have h3:=h2.perm (As':=(.own (.slice ea es.length ec) et 2 es.length (es.flatMap TEnt.vals))::_::_::As'') (List.perm_middle (l₁:=[_,_]));exact HS.node_in hi {nth L i with ea:=ea,ec:=ec,es:=es} h3
theorem HS.cs_put(hi:i<L.length){ca:Option Addr}{cc:Nat}{cs:List Int}(h:HS w0 M As w)(hp:QD As (.own (.slice ca cs.length cc) 3 1 cs.length (cs.flatMap inV)) As')(hp2:QD As' (.star (L.map (QB et))) As''):HS w0 M (.star ((L.set i {nth L i with ca:=ca,cc:=cc,cs:=cs}).map (QB et))::As'') w:=by
 have h1:=(h.pick hp).perm (List.Perm.cons _ hp2.perm);have h2:=(HS.node_out hi h1 (.there .here));have h3:=(h2.perm (List.Perm.swap ..)).tail;have h4:=h3.perm (As':=QiV et (nth L i)::(.own (.slice ca cs.length cc) 3 1 cs.length (cs.flatMap inV))::_::As'') (List.Perm.cons _ (List.perm_middle (l₁:=[_])))
 grind[HS.node_in,hi,nth]
theorem HS.es_back(hi:i<L.length){ea:Option Addr}{ec:Nat}{es:List TEnt}(h:HS w0 M As w)(hp:QD As (.own (.slice ea es.length ec) et 2 es.length (es.flatMap TEnt.vals)) As')(hp2:QD As' (.star ((L.set i (nth L i).noE).map (QB et))) As''):HS w0 M (.star ((L.set i {nth L i with ea:=ea,ec:=ec,es:=es}).map (QB et))::As'') w:=by
 have h1:=HS.es_put (L:=L.set i (nth L i).noE) (i:=i) (by rw[List.length_set];exact hi) h hp hp2
 simp_all[Qag,hi]
theorem HS.cs_back(hi:i<L.length){ca:Option Addr}{cc:Nat}{cs:List Int}(h:HS w0 M As w)(hp:QD As (.own (.slice ca cs.length cc) 3 1 cs.length (cs.flatMap inV)) As')(hp2:QD As' (.star ((L.set i (nth L i).noC).map (QB et))) As''):HS w0 M (.star ((L.set i {nth L i with ca:=ca,cc:=cc,cs:=cs}).map (QB et))::As'') w:=by
 have h1:=HS.cs_put (L:=L.set i (nth L i).noC) (i:=i) (by rw[List.length_set];exact hi) h hp hp2
 simp_all[Qag,hi]
theorem HS.es_cut(hi:i<L.length){m c:Nat}(hm:m<=c)(hc:c<=(nth L i).ec)(hml:m<=(nth L i).es.length)(h0:m=0->(nth L i).ea=none->c=0)(h:HS w0 M As w)(hp:QD As (.star (L.map (QB et))) As'):HS w0 M (.star ((L.set i {nth L i with ec:=c,es:=(nth L i).es.take m}).map (QB et))::As') w:=by
 have h1:=HS.es_take hi h hp;have e1:((nth L i).es.take m).length=m:=by rw[List.length_take];omega
 have h2:=HS.own_room (a:=(nth L i).ea) (n':=c) (xs:=((nth L i).es.take m).flatMap TEnt.vals) (ds:=((nth L i).es.drop m).flatMap TEnt.vals) .here (by rw[<-List.flatMap_append,List.take_append_drop];exact h1) (by rw[Qi ev2,e1]) hm hc h0;refine HS.es_back hi (es:=(nth L i).es.take m) ?_ .here .here;rw[e1];exact h2
theorem HS.cs_cut(hi:i<L.length){m c:Nat}(hm:m<=c)(hc:c<=(nth L i).cc)(hml:m<=(nth L i).cs.length)(h0:m=0->(nth L i).ca=none->c=0)(h:HS w0 M As w)(hp:QD As (.star (L.map (QB et))) As'):HS w0 M (.star ((L.set i {nth L i with cc:=c,cs:=(nth L i).cs.take m}).map (QB et))::As') w:=by
 have h1:=HS.cs_take hi h hp;have e1:((nth L i).cs.take m).length=m:=by rw[List.length_take];omega
 have h2:=HS.own_room (a:=(nth L i).ca) (n':=c) (xs:=((nth L i).cs.take m).flatMap inV) (ds:=((nth L i).cs.drop m).flatMap inV) .here (by rw[<-List.flatMap_append,List.take_append_drop];exact h1) (by rw[Qi iv1,e1]) hm hc h0;refine HS.cs_back hi (cs:=(nth L i).cs.take m) ?_ .here .here;rw[e1];exact h2
theorem HS.es_room(hi:i<L.length)(h:HS w0 M As w)(hp:QD As (.star (L.map (QB et))) As'):(nth L i).es.length<=(nth L i).ec/\(nth L i).ec<=maxLen:=by
 have h1:=HS.own_facts .here (HS.es_take hi h hp)
 grind
theorem HS.cs_room(hi:i<L.length)(h:HS w0 M As w)(hp:QD As (.star (L.map (QB et))) As'):(nth L i).cs.length<=(nth L i).cc/\(nth L i).cc<=maxLen:=by
 have h1:=HS.own_facts .here (HS.cs_take hi h hp)
 grind
theorem HS.es_form(hi:i<L.length)(h:HS w0 M As w)(hp:QD As (.star (L.map (QB et))) As'):∀x,(nth L i).ea=some x->x.off=0/\x=⟨x.block,0,none⟩:=QkF (HS.es_take hi h hp).head
theorem HS.cs_form(hi:i<L.length)(h:HS w0 M As w)(hp:QD As (.star (L.map (QB et))) As'):∀x,(nth L i).ca=some x->x.off=0/\x=⟨x.block,0,none⟩:=QkF (HS.cs_take hi h hp).head
theorem HS.es_some(hi:i<L.length)(hn:0<(nth L i).es.length)(h:HS w0 M As w)(hp:QD As (.star (L.map (QB et))) As'):∃g,(nth L i).ea=some ⟨g,0,none⟩:=by
 obtain⟨g,e,_⟩:=HS.own_blk hn .here (HS.es_take hi h hp);exact⟨g,e⟩
theorem HS.es_row(hi:i<L.length)(h:HS w0 M As w)(hp:QD As (.star (L.map (QB et))) As'):Rw TEnt.vals 2 w [] (nth L i).ea (nth L i).es:=(HS.es_take hi h hp).rw_own ev2 .here rfl
theorem HS.cs_row(hi:i<L.length)(h:HS w0 M As w)(hp:QD As (.star (L.map (QB et))) As'):Rw inV 1 w [] (nth L i).ca (nth L i).cs:=(HS.cs_take hi h hp).rw_own iv1 .here rfl
theorem HS.es_rd{k g:Nat}(hi:i<L.length)(hk:k<(nth L i).es.length)(hg:(nth L i).ea=some ⟨g,0,none⟩)(h:HS w0 M As w)(hp:QD As (.star (L.map (QB et))) As'):∀j v,(TEnt.vals (nth (nth L i).es k))[j]?=some v->Rd w [] g (0+k*2+j) v:=by
 have h1:=Rw.rd (HS.es_row hi h hp) hk;rw[hg]at h1;exact h1
theorem HS.nd_cell{gn cap nt':Nat}(hi:i<L.length)(h:HS w0 M As w)(hp:QD As (.blk gn nt' (cap*3) (L.flatMap LNd.vals)) As')(j:Nat){v:Value}(hj:(LNd.vals (nth L i))[j]?=some v)(hj3:j<3):Rd w [] gn (i*3+j) v:=
 h.rd_blk hp (by rw[QaI nv3 L i j _ (QV hi) hj3];exact hj) (by simp)
end
structure NdSet(L L':List LNd)(i:Nat)(x:LNd):Prop where
 lt:i<L.length
 eq:L'=L.set i x
theorem NdSet.len{L L':List LNd}{i:Nat}{x:LNd}(h:NdSet L L' i x):L'.length=L.length:=by rw[h.eq,List.length_set]
theorem NdSet.at_{L L':List LNd}{i:Nat}{x:LNd}(h:NdSet L L' i x):nth L' i=x:=by rw[h.eq,Qag h.lt]
theorem NdSet.other{L L':List LNd}{i k:Nat}{x:LNd}(h:NdSet L L' i x)(hk:k<L.length)(hne:i≠k):nth L' k=nth L k:=by rw[h.eq,Qg1 hk hne]
theorem NdSet.pl{L L':List LNd}{i:Nat}{x:LNd}(h:NdSet L L' i x):pln L'=(pln L).set i x.pl:=by rw[h.eq,Qfk]
theorem NdSet.es{L L':List LNd}{i:Nat}{ea:Option Addr}{ec:Nat}{es:List TEnt}(h:NdSet L L' i {nth L i with ea:=ea,ec:=ec,es:=es}):pln L'=esN (pln L) i es:=by rw[h.eq,Qvi h.lt]
theorem NdSet.cs{L L':List LNd}{i:Nat}{ca:Option Addr}{cc:Nat}{cs:List Int}(h:NdSet L L' i {nth L i with ca:=ca,cc:=cc,cs:=cs}):pln L'=csN (pln L) i cs:=by rw[h.eq,Quy h.lt]
section
variable{w0 w:World}{M:List Nat}{As A1 A2 A3:List HA}{et:Nat}{L:List LNd}{i gn cap nt':Nat}
theorem HS.es_set(hi:i<L.length){ea:Option Addr}{ec:Nat}{es:List TEnt}(h:HS w0 M As w)(hp:QD As (.blk gn nt' (cap*3) (Qq (L.flatMap LNd.vals) (i*3+1) [.slice ea es.length ec])) A1)(hp2:QD A1 (.own (.slice ea es.length ec) et 2 es.length (es.flatMap TEnt.vals)) A2)(hp3:QD A2 (.star (L.map (QB et))) A3) :
  ∃L',NdSet L L' i {nth L i with ea:=ea,ec:=ec,es:=es}/\HS w0 M (.blk gn nt' (cap*3) (L'.flatMap LNd.vals)::.star (L'.map (QB et))::A3) w:=by
 refine⟨_,⟨hi,rfl⟩,?_⟩;rw[<-Qfz hi];exact(HS.es_put hi (h.pick hp) (.there hp2) (.there hp3)).perm (List.Perm.swap ..)
theorem HS.cs_set(hi:i<L.length){ca:Option Addr}{cc:Nat}{cs:List Int}(h:HS w0 M As w)(hp:QD As (.blk gn nt' (cap*3) (Qq (L.flatMap LNd.vals) (i*3+2) [.slice ca cs.length cc])) A1)(hp2:QD A1 (.own (.slice ca cs.length cc) 3 1 cs.length (cs.flatMap inV)) A2)(hp3:QD A2 (.star (L.map (QB et))) A3) :
  ∃L',NdSet L L' i {nth L i with ca:=ca,cc:=cc,cs:=cs}/\HS w0 M (.blk gn nt' (cap*3) (L'.flatMap LNd.vals)::.star (L'.map (QB et))::A3) w:=by
 refine⟨_,⟨hi,rfl⟩,?_⟩;rw[<-QfF hi];exact(HS.cs_put hi (h.pick hp) (.there hp2) (.there hp3)).perm (List.Perm.swap ..)
theorem HS.es_setB(hi:i<L.length){ea:Option Addr}{ec:Nat}{es:List TEnt}(h:HS w0 M As w)(hp:QD As (.blk gn nt' (cap*3) (Qq (L.flatMap LNd.vals) (i*3+1) [.slice ea es.length ec])) A1)(hp2:QD A1 (.own (.slice ea es.length ec) et 2 es.length (es.flatMap TEnt.vals)) A2)(hp3:QD A2 (.star ((L.set i (nth L i).noE).map (QB et))) A3) :
  ∃L',NdSet L L' i {nth L i with ea:=ea,ec:=ec,es:=es}/\HS w0 M (.blk gn nt' (cap*3) (L'.flatMap LNd.vals)::.star (L'.map (QB et))::A3) w:=by
 refine⟨_,⟨hi,rfl⟩,?_⟩;rw[<-Qfz hi];exact(HS.es_back hi (h.pick hp) (.there hp2) (.there hp3)).perm (List.Perm.swap ..)
theorem HS.cs_setB(hi:i<L.length){ca:Option Addr}{cc:Nat}{cs:List Int}(h:HS w0 M As w)(hp:QD As (.blk gn nt' (cap*3) (Qq (L.flatMap LNd.vals) (i*3+2) [.slice ca cs.length cc])) A1)(hp2:QD A1 (.own (.slice ca cs.length cc) 3 1 cs.length (cs.flatMap inV)) A2)(hp3:QD A2 (.star ((L.set i (nth L i).noC).map (QB et))) A3) :
  ∃L',NdSet L L' i {nth L i with ca:=ca,cc:=cc,cs:=cs}/\HS w0 M (.blk gn nt' (cap*3) (L'.flatMap LNd.vals)::.star (L'.map (QB et))::A3) w:=by
 refine⟨_,⟨hi,rfl⟩,?_⟩;rw[<-QfF hi];exact(HS.cs_back hi (h.pick hp) (.there hp2) (.there hp3)).perm (List.Perm.swap ..)
theorem HS.es_setC(hi:i<L.length){m c:Nat}(hm:m<=c)(hc:c<=(nth L i).ec)(hml:m<=(nth L i).es.length)(h0:m=0->(nth L i).ea=none->c=0)(h:HS w0 M As w)(hp:QD As (.blk gn nt' (cap*3) (Qq (L.flatMap LNd.vals) (i*3+1) [.slice (nth L i).ea m c])) A1)(hp3:QD A1 (.star (L.map (QB et))) A3) :
  ∃L',NdSet L L' i {nth L i with ec:=c,es:=(nth L i).es.take m}/\HS w0 M (.blk gn nt' (cap*3) (L'.flatMap LNd.vals)::.star (L'.map (QB et))::A3) w:=by
 refine⟨_,⟨hi,rfl⟩,?_⟩;have e:=Qfz hi (nth L i).ea c ((nth L i).es.take m);rw[List.length_take,Nat.min_eq_left hml]at e;rw[<-e];exact(HS.es_cut hi hm hc hml h0 (h.pick hp) (.there hp3)).perm (List.Perm.swap ..)
theorem HS.cs_setC(hi:i<L.length){m c:Nat}(hm:m<=c)(hc:c<=(nth L i).cc)(hml:m<=(nth L i).cs.length)(h0:m=0->(nth L i).ca=none->c=0)(h:HS w0 M As w)(hp:QD As (.blk gn nt' (cap*3) (Qq (L.flatMap LNd.vals) (i*3+2) [.slice (nth L i).ca m c])) A1)(hp3:QD A1 (.star (L.map (QB et))) A3) :
  ∃L',NdSet L L' i {nth L i with cc:=c,cs:=(nth L i).cs.take m}/\HS w0 M (.blk gn nt' (cap*3) (L'.flatMap LNd.vals)::.star (L'.map (QB et))::A3) w:=by
 refine⟨_,⟨hi,rfl⟩,?_⟩;have e:=QfF hi (nth L i).ca c ((nth L i).cs.take m);rw[List.length_take,Nat.min_eq_left hml]at e;rw[<-e];exact(HS.cs_cut hi hm hc hml h0 (h.pick hp) (.there hp3)).perm (List.Perm.swap ..)
end
theorem Zj{α:Type}{l:List α}{i:Nat}{x:α}(h:i<=l.length):(QP l i x).length=l.length+1:=by grind[QP]
theorem Qjk{α:Type}{vals:α->List Value}{sz:Nat}(hv:∀x,(vals x).length=sz)(l:List α)(i:Nat)(x:α):(l.flatMap vals).take (i*sz)++vals x++(l.flatMap vals).drop (i*sz)=(QP l i x).flatMap vals:=by grind[Qn5,Qny,QP]
def Sm(m:Nat)(ns:List Nd):Prop:=∀k,(nth ns k).es.length<=m/\(nth ns k).cs.length<=m
theorem Yy{α:Type}[Inhabited α]{l:List α}{k:Nat}(h:l.length<=k):nth l k=default:=by grind[nth]
theorem QaO(ns:List Nd)(i k:Nat)(x:Nd):nth (ns.set i x) k=if i=k/\k<ns.length then x else nth ns k:=by
 by_cases hk:k<ns.length
 ·apply QS
  grind[QV]
 grind[Yy]
theorem Sm.mono{m m':Nat}{ns:List Nd}(h:Sm m ns)(hm:m<=m'):Sm m' ns:=λk=>⟨Nat.le_trans (h k).1 hm,Nat.le_trans (h k).2 hm⟩
theorem Sm.set{m:Nat}{ns:List Nd}(h:Sm m ns)(i:Nat)(x:Nd)(hx:x.es.length<=m/\x.cs.length<=m):Sm m (ns.set i x):=λk=>by
 rw[QaO];split
 ·exact hx
 ·exact h k
theorem Sm.es{m:Nat}{ns:List Nd}(h:Sm m ns)(i:Nat){es:List TEnt}(hx:es.length<=m):Sm m (esN ns i es):=h.set i _ ⟨hx,(h i).2⟩
theorem Sm.cs{m:Nat}{ns:List Nd}(h:Sm m ns)(i:Nat){cs:List Int}(hx:cs.length<=m):Sm m (csN ns i cs):=h.set i _ ⟨(h i).1,hx⟩
theorem Sm.us{m:Nat}{ns:List Nd}(h:Sm m ns)(i:Nat)(b:Bool):Sm m (usN ns i b):=h.set i _ (h i)
theorem Sm.app{m:Nat}{ns:List Nd}(h:Sm m ns)(x:Nd)(hx:x.es.length<=m/\x.cs.length<=m):Sm m (ns++[x]):=λk=>by
 rcases Nat.lt_trichotomy k ns.length with hk|hk|hk
 ·rw[show nth (ns++[x]) k=nth ns k from QS (by rw[List.getElem?_append_left hk];exact QV hk)];exact h k
 ·grind[nth,QS]
 ·rw[Yy (by simp;omega)];exact⟨Nat.zero_le _,Nat.zero_le _⟩
theorem Sm.fre{m:Nat}{ns:List Nd}(h:Sm m ns):Sm m (QT ns).2:=by
 unfold QT;split
 ·exact h.us _ _
 ·exact h.app _ ⟨Nat.zero_le _,Nat.zero_le _⟩
theorem Sm.splA{m:Nat}{ns:List Nd}(h:Sm m ns)(mo:Int)(i:Nat):Sm m (splA mo ns i):=by
 have h1:=h.fre;have e1:=(h1 i).1;have e2:=(h1 i).2;have h2:=(h1.es (QT ns).1 (es:=(nth (QT ns).2 i).es.drop (Qw mo+1)) (by rw[List.length_drop];omega)).es i (es:=(nth (QT ns).2 i).es.take (Qw mo)) (by rw[List.length_take];omega);unfold Gx.splA;split
 ·exact h2
 ·exact(h2.cs _ (by rw[List.length_drop];omega)).cs _ (by rw[List.length_take];omega)
theorem QqU{α:Type}(l:List α)(i:Nat)(x:α):(QP l i x).length<=l.length+1:=by grind[QP]
theorem Sm.addP{m:Nat}{ns:List Nd}(h:Sm m ns)(p k:Nat)(up:TEnt)(own:Nat):Sm (m+1) (addP ns p k up own):=by
 have e1:=QqU (nth ns p).es k up;have e2:=QqU (nth ns p).cs (k+1) (own:Int);have e3:=(h p).1;have e4:=(h p).2;exact((h.mono (Nat.le_succ m)).es p om).cs p om
theorem Sm.spl{m:Nat}{ns:List Nd}(h:Sm m ns)(mo:Int)(i:Nat):Sm (m+1) (Qa2 mo ns i):=(h.splA mo i).addP _ _ _ _
theorem Qpy(ns:List Nd)(p k:Nat)(up:TEnt)(own:Nat):(addP ns p k up own).length=ns.length:=by
 unfold addP;rw[Qd2,QbW]
theorem QkE(mo:Int)(ns:List Nd)(i:Nat):ns.length<=(Qa2 mo ns i).length/\(Qa2 mo ns i).length<=ns.length+1:=by
 unfold Qa2;rw[Qpy,Qjw];exact Qcm ns
theorem Sm.low{m:Nat}{ns:List Nd}(h:Sm m ns)(hm:1<=m):Sm m (XZ ns).2:=by
 unfold XZ;exact(((h.fre.es _ (h 0).1).cs _ (h 0).2).es 0 (Nat.zero_le _)).cs 0 (by simpa using hm)
theorem Qp0(ns:List Nd):ns.length<=(XZ ns).2.length/\(XZ ns).2.length<=ns.length+1:=by grind[XZ,Qd2,QbW,Qcm]
structure SpOk(mo:Int)(ns:List Nd)(i:Nat):Prop where
 mo0:0<=mo/\mo<=1000
 len:ns.length<=900
 sm:Sm 900 ns
 lt:i<ns.length
 us:(nth ns i).us=true
 es:Qw mo<(nth ns i).es.length
 cs:(nth ns i).cs.length=0\/Qw mo+1<=(nth ns i).cs.length
 par:(Xz (i:Int) (splA mo ns i) 0).1<(splA mo ns i).length
 parE:(Xz (i:Int) (splA mo ns i) 0).2<=(nth (splA mo ns i) (Xz (i:Int) (splA mo ns i) 0).1).es.length
 parC:(Xz (i:Int) (splA mo ns i) 0).2+1<=(nth (splA mo ns i) (Xz (i:Int) (splA mo ns i) 0).1).cs.length
abbrev LNd.non(n:LNd):LNd:=⟨n.us,none,0,[],none,0,[]⟩
section
variable{w0 w:World}{M:List Nat}{As A1 A2 A3:List HA}{et:Nat}{L:List LNd}{i j gn cap nt':Nat}
theorem HS.star_move(hi:i<L.length)(hj:j<L.length)(hne:i≠j)(us:Bool)(h:HS w0 M As w)(hp:QD As (.star (L.map (QB et))) A1):HS w0 M (.star (((L.set j {nth L i with us:=us}).set i (nth L i).non).map (QB et))::A1) w:=by
 have h1:=((h.node_out hi hp).own_nil 3 1).own_nil et 2
 have h2:=h1.perm (As':=_::_::_::QiV et (nth L i)::Qn3 (nth L i)::A1) (List.Perm.cons _ (List.Perm.cons _ (List.perm_middle (l₁:=[QiV et (nth L i),Qn3 (nth L i)]))));have h3:=HS.node_in hi (nth L i).non h2;have h4:=HS.node_out (L:=L.set i (nth L i).non) (i:=j) (by rw[List.length_set];exact hj) h3 .here;have h5:=h4.tail.tail;have h6:=h5.perm (As':=QiV et (nth L i)::Qn3 (nth L i)::_::A1) (List.perm_middle (l₁:=[QiV et (nth L i),Qn3 (nth L i)])).symm;have h7:=HS.node_in (L:=L.set i (nth L i).non) (i:=j) (by rw[List.length_set];exact hj) {nth L i with us:=us} h6;rw[List.set_comm _ _ hne]at h7;exact h7
theorem HS.node_move(hi:i<L.length)(hj:j<L.length)(hne:i≠j)(h:HS w0 M As w)
  (hp:QD As (.blk gn nt' (cap*3) (Qq (Qq (L.flatMap LNd.vals) (j*3+1) [.slice (nth L i).ea (nth L i).es.length (nth L i).ec]) (j*3+2) [.slice (nth L i).ca (nth L i).cs.length (nth L i).cc])) A1)(hp3:QD A1 (.star (L.map (QB et))) A3) :
  ∃L',NdSet L L' j {nth L i with us:=(nth L j).us}/\HS w0 M (.blk gn nt' (cap*3) (L'.flatMap LNd.vals)::.star ((L'.set i (nth L i).non).map (QB et))::A3) w:=by
 refine⟨_,⟨hj,rfl⟩,?_⟩;have e:=QeO hj (nth L i).ea (nth L i).ec (nth L i).es (nth L i).ca (nth L i).cc (nth L i).cs;rw[<-e];exact(HS.star_move hi hj hne (nth L j).us (h.pick hp) (.there hp3)).perm (List.Perm.swap ..)
theorem HS.node_low(hi:i<L.length){ca:Option Addr}{cc:Nat}{cs:List Int}(h:HS w0 M As w)
  (hp:QD As (.blk gn nt' (cap*3) (Qq (Qq (L.flatMap LNd.vals) (i*3+1) [.slice none 0 0]) (i*3+2) [.slice ca cs.length cc])) A1)(hp2:QD A1 (.own (.slice ca cs.length cc) 3 1 cs.length (cs.flatMap inV)) A2)(hp3:QD A2 (.star ((L.set i ⟨(nth L i).us,none,0,[],none,0,[]⟩).map (QB et))) A3) :
  ∃L',NdSet L L' i ⟨(nth L i).us,none,0,[],ca,cc,cs⟩/\HS w0 M (.blk gn nt' (cap*3) (L'.flatMap LNd.vals)::.star (L'.map (QB et))::A3) w:=by
 refine⟨_,⟨hi,rfl⟩,?_⟩;have e:=QeO hi none 0 [] ca cc cs;rw[<-e];have h1:=HS.cs_put (L:=L.set i ⟨(nth L i).us,none,0,[],none,0,[]⟩) (i:=i) (by rw[List.length_set];exact hi) (h.pick hp) (.there hp2) (.there hp3);rw[Qag hi,List.set_set]at h1;exact h1.perm (List.Perm.swap ..)
end
theorem Qfq{ns:List Nd}{i:Nat}(hi:i<ns.length)(es:List TEnt)(cs:List Int):csN (esN ns i es) i cs=ns.set i ⟨(nth ns i).us,es,cs⟩:=by
 unfold csN;rw[QrL hi,if_pos rfl,esN,List.set_set]
theorem Qsk{ns:List Nd}(h0:0<ns.length)(hu:(nth ns 0).us=true):(QT ns).1≠0/\(QT ns).1<(QT ns).2.length/\nth (QT ns).2 0=nth ns 0:=⟨QfJ h0 hu,Qfj ns,Qct h0 hu⟩
end Gx
namespace Gx
open Go Go.RowKit
def HA.obj(b:Nat)(o:Obj):HA:=⟨[b],λw=>w.heap[b]?=some o,λw w' h hk=>(h b (List.mem_singleton.2 rfl)).trans hk⟩
section
variable{w0 w:World}{M:List Nat}{As As':List HA}
theorem HS.allocObj(h:HS w0 M As w)(o:Obj):HS w0 M (.obj w.heap.size o::As) (w.alloc o):=h.alloc o _ rfl (World.alloc_heap_new w o)
theorem HS.obj_get{b:Nat}{o:Obj}(h:HS w0 M As w)(hp:QD As (.obj b o) As'):w.heap[b]?=some o:=h.ok _ hp.mem
theorem HS.putObj{b:Nat}{o:Obj}(h:HS w0 M As w)(hp:QD As (.obj b o) As')(o':Obj):HS w0 M (.obj b o'::As') (w.putObj b o'):=by
 have h1:=h.pick hp;have hb:w.heap[b]?=some o:=h1.head;have hlt:b<w.heap.size:=(Array.getElem?_eq_some_iff.1 hb).1;refine h1.swap (λ_ hx=>hx) rfl rfl rfl (by simp[World.putObj]) (λc hc=>World.putObj_heap_other (λe=>hc (by subst e;exact List.mem_singleton.2 rfl))) (World.putObj_heap_same hlt)
end
def Qie(P:Program)(l:Nat)(args:Array Value)(w:World)(R:Ending->World->Prop):Prop:=
 ∃f tmps assign body,(Instr.yield l args).run P w=.ok (.round l f tmps assign body) w/\RoundIn Fence.wide 0 P l f tmps assign body w R
section
variable{P:Program}{o:Oper}{L:Ql}
theorem QrP{C:World->Prop}{G:Type}{V:G->Value}{F:G->Prop}{C':G->World->Prop}{x:Operand}{args:Array Operand}{vs:List Value}{ts:Array TypeId}{l:Nat}(ho:o.op=.call {callee:=.value x,args:=args,argTypes:=ts})(hx:ev L x=some (.func (.yield l) #[] #[]))
  (ha:evs L args.toList=some vs)(hy:∀w,C w->Qie P l vs.toArray w λe w'=>∃g,e=.returned (V g)/\F g/\C' g w'):OpH P o L C V F C':=by
 intro ρ w hρ hw;obtain⟨f,tmps,assign,body,hr,hR⟩:=hy w hw;have e1:args.map ρ=vs.toArray:=by rw[<-Qec hρ ha,<-List.map_toArray]
 unfold execOp;simp only[ho,resolve,Sem.run_bind,hρ _ _ hx,Deferred.ofValue,e1,Sem.run_pure,Result.andThen_ok,invoke,Array.empty_append,hr];exact RoundIn.mono hR λe w'⟨g,he,hf,hc⟩=>⟨V g,he,g,rfl,hf,hc⟩
end
def rdy(fid:FuncId)(tmps:Array Value)(ps:Array Tmp)(assign body:Code)(D:Nat):Loop:={state:=.ready,pending:=none,fn:=fid,tmps:=tmps,params:=ps,assign:=assign,body:=body,defers:=D}
theorem Qr0{P:Program}{fn:Func}{n l D:Nat}{fid:FuncId}{tmps:Array Value}{ps:Array Tmp}{assign body:Code}{args:Array Value}{L0 L1:Ql}{w0 W:World}{M:List Nat}{As As1:List HA}{Rr:Ending->World->Prop}
  (hC:HS w0 M (.obj l (.loop (rdy fid tmps ps assign body D))::As) W)(hps:args.size=ps.size)(hf:FR n [] L0 {tmps:=(ps.zip args).foldl (λt(p,v)=>t.setIfInBounds p v) tmps,defers:=[]})
  (h1:S {P:=P,fn:=fn,n:=n,R:=λ_ _=>False,rd:=some l} [.c assign,.join (At n [] (λ_:Unit=>L1) (λ_=>HS w0 M (.obj l (.loop (rdy fid tmps ps assign body D))::As1)))] L0 (HS w0 M (.obj l (.loop (rdy fid tmps ps assign body D))::As)))
  (h2:S {P:=P,fn:=fn,n:=n,R:=Rr,rd:=some l} [.c body] L1 (HS w0 M (.obj l (.loop {rdy fid tmps ps assign body D with state:=.busy})::As1))):Qie P l args W Rr:=by
 refine⟨fid,_,assign,body,run_yield (hC.obj_get .here) hps,roundIn_of_wpIn trivial ?_⟩;refine wpIn_mono (h1 _ W hf hC) λe a w he=>?_;cases e with
 | normal=>
  obtain⟨_,hfr,hc⟩:=he;exact⟨_,run_beginRound (hc.obj_get .here) rfl,h2 _ _ hfr (hc.putObj .here _)⟩
 | ret=>obtain⟨v,w',_,hx⟩:=he;exact hx
 | exit id=>obtain⟨v,w',_,hx⟩:=he;exact hx
 | goto t=>obtain⟨v,w',_,hx⟩:=he;exact hx
 | panic ch=>exact he
 | outgrown=>exact he
section
variable{X:Ctx}{k:List KI}{L:Ql}{w0:World}{M:List Nat}{As As':List HA}
theorem Qj1{C:World->Prop}{l:Nat}(hrd:X.rd=some l)(h:∀w,C w->∃r,w.heap[l]?=some (.loop r)/\X.R (.returned (.bool true)) (w.putObj l (.loop {r with state:=.ready,pending:=none}))):S X [] L C:=by
 intro a w ha hw;show(match X.rd with|none=>bodyPostM X.F 0 X.P X.fn X.R .normal a w|some l=>roundPost X.P l X.R .normal a w);rw[hrd];obtain⟨r,h1,h2⟩:=h w hw;exact⟨_,_,run_endRound none h1,h2⟩
theorem QjP{l D:Nat}{fid:FuncId}{tmps:Array Value}{ps:Array Tmp}{assign body:Code}(hrd:X.rd=some l)(hp:QD As (.obj l (.loop {rdy fid tmps ps assign body D with state:=.busy})) As')(h:∀w,HS w0 M (.obj l (.loop (rdy fid tmps ps assign body D))::As') w->X.R (.returned (.bool true)) w):S X [] L (HS w0 M As):=
 Qj1 hrd λw hw=>⟨_,hw.obj_get hp,h _ (hw.putObj hp _)⟩
theorem Qfw(d:List Nat):∀k,post {X with df:=d} k=post X k
 | []=>by funext e a w;rfl
 | Sum.inl c::k=>by funext e a w;cases e<;>simp only[post,Qfw d k]
 | Sum.inr (Sum.inl id)::k=>by funext e a w;cases e<;>simp only[post,Qfw d k]
 | Sum.inr (Sum.inr J)::k=>by funext e a w;cases e<;>simp only[post,Qfw d k]
theorem QsV{g:Operand}{ps:Array Tmp}{assign body:Code}{gf:FuncId}{lb:Array Value}{G:Type}{Bs:G->List HA}(hrd:X.rd=none)(hdf:X.df=[])(hg:ev L g=some (.func (.func gf) #[] lb))(hfn:QQ X.P gf=true)
  (hit:∀(fid:FuncId)(D l:Nat)(a:Act)(w1:World)(ob:Obj),ob=.loop (rdy fid a.tmps ps assign body D)->FR X.n [] L a->HS w0 M (.obj l ob::.obj D (.deferred (some []))::As) w1 ->
   Calls X.P gf (#[.func (.yield l) #[] #[]]++lb) w1 λe w2=>(∃v,e=.returned v)/\∃x,HS w0 M (.obj l ob::.obj D (.deferred (some []))::Bs x) w2)
  (next:∀D x,S {X with df:=[D]} k L (HS w0 M (.obj D (.deferred (some []))::Bs x))):S X (.c (.rangeFunc g ps assign body)::k) L (HS w0 M As):=by
 intro a w ha hw;have ha0:FR X.n [] L a:=by rw[<-hdf];exact ha
 refine wpIn_rangeFunc (F:=X.F) (n:=0) λfid _=>?_;have hro:X.F.round=none:=hrd;rw[hro];have hw1:=(hw.allocObj (.deferred (some []))).allocObj (.loop (rdy fid a.tmps ps assign body w.heap.size));rw[World.size_alloc]at hw1;have hen:=run_enterLoop_outer (P:=X.P) (w:=w) fid a.tmps ps assign body;obtain⟨W1,hW1⟩:∃W1,(w.alloc (.deferred (some []))).alloc (.loop (rdy fid a.tmps ps assign body w.heap.size))=W1:=⟨_,rfl⟩;rw[hW1]at hw1;rw[show(Loop.mk .ready none fid a.tmps ps assign body w.heap.size)=rdy fid a.tmps ps assign body w.heap.size from rfl,hW1]at hen
 refine⟨w.heap.size+1,[{target:=.collected w.heap.size,args:=#[]}],W1,{target:=.fn (.func gf) lb,args:=#[.func (.yield (w.heap.size+1)) #[] #[]]},W1,gf,
  #[.func (.yield (w.heap.size+1)) #[] #[]]++lb,W1,hen,?_,λ_ _=>trivial,?_,λh=>(by cases h),?_⟩
 ·simp only[resolve,ha.evl hg];simp[go_sem]
 ·simp[invoke,go_sem,QdP hfn]
 ·refine CallsIn.mono (X.callsIn (hit fid _ _ a _ _ rfl ha0 hw1)) λe w2 he=>?_;obtain⟨⟨v,rfl⟩,x,hx⟩:=he;refine⟨none,_,run_endLoop (hx.obj_get .here) (by simp[rdy]),?_⟩;have h3:=next w.heap.size x {a with defers:=[{target:=.collected w.heap.size,args:=#[]}]++a.defers} _ ⟨by show _++a.defers=_;rw[ha0.defers];rfl,ha0.size,ha0.slot⟩ (hx.putObj .here (.loop {rdy fid a.tmps ps assign body w.heap.size with state:=.exhausted})).tail
  rw[Qfw]at h3;exact h3
end
end Gx
namespace Gx
open Go Go.RowKit
theorem QbX{X:Ctx}{k:List KI}{L:Ql}{C:World->Prop}{α:Type}{c:Code}(md:List Nat)(Lm:α->Ql)(I:α->Prop)(h1:S X (.c c::.join (AtI X.n X.df (λx=>Lm x++Qdp md L) (λ_=>C) I)::k) L C)(h2:∀x,I x->S X k (Lm x++Qdp md L) C):S X (.c c::k) L C:=
 XP md Lm (λ_=>C) I h1 h2
end Gx
namespace Gx
open Go Go.RowKit
theorem FR.round2{n:Nat}{L:Ql}{a:Act}(h:FR n [] L a)(d d':Nat)(v v':Value)(hd:Nat.blt d n=true)(hd':Nat.blt d' n=true):FR n [] ((d',v')::(d,v)::L) {tmps:=((#[d,d']:Array Tmp).zip #[v,v']).foldl (λt(p,v)=>t.setIfInBounds p v) a.tmps,defers:=[]}:=by
 have h1:=(h.put d v hd).put d' v' hd';have e:((#[d,d']:Array Tmp).zip #[v,v']).foldl (λt(p,v)=>t.setIfInBounds p v) a.tmps=(a.tmps.setIfInBounds d v).setIfInBounds d' v':=by simp
 rw[e];exact⟨rfl,h1.size,h1.slot⟩
def HA.pure(p:Prop):HA:=⟨[],λ_=>p,λ_ _ _ h=>h⟩
section
variable{w0 w:World}{M:List Nat}{As As':List HA}{p:Prop}
theorem HS.add_pure(hp:p)(h:HS w0 M As w):HS w0 M (.pure p::As) w:=
 ⟨h.os,h.tape,h.output,h.size,h.old,λA hA=>by
  rcases List.mem_cons.1 hA with rfl|hA
  ·exact hp
  ·exact h.ok A hA,λA hA b hb=>by
  rcases List.mem_cons.1 hA with rfl|hA
  ·cases hb
  ·exact h.lt A hA b hb,List.pairwise_cons.2 ⟨λA _ b hb=>(nomatch hb),h.sep⟩⟩
theorem HS.get_pure(h:HS w0 M As w)(hp:QD As (.pure p) As'):p:=(h.pick hp).head
theorem HS.rw_ownF{α:Type}[Inhabited α]{vals:α->List Value}{sz:Nat}(hv:∀x,(vals x).length=sz){Cs Ds Es:List HA}{a:Option Addr}{cap n t:Nat}{l:List α}(h:HS w0 M As w)(hp:QaS As Cs Ds)(hp2:QD Ds (.own (.slice a n cap) t sz n (l.flatMap vals)) Es)(hn:n=l.length):Rw vals sz w (fps Cs) a l:=by
 subst hn;refine⟨λhn=>?_⟩;have h1:HS w0 M (.own (.slice a l.length cap) t sz l.length (l.flatMap vals)::(Cs++Es)) w:=h.perm (hp.trans ((hp2.perm.append_left Cs).trans List.perm_middle));obtain⟨g,cap',e,_,_,_,h2⟩:=h1.own_open' hn;injection e with e1 e2 e3
 subst e1;have h3:HS w0 M (Cs++.blk g t (cap'*sz) (l.flatMap vals)::Es) w:=h2.perm List.perm_middle.symm;refine⟨g,0,rfl,λi hi=>⟨hv _,λj v hjv=>?_⟩⟩;have hj:j<sz:=by grind
 have:=HS.rd_blkF (i:=i*sz+j) h3 (.refl _) .here (v:=v) (by rw[QaI hv l i j _ (QV hi) hj];exact hjv)
 grind
theorem Qla{X:Ctx}{L:Ql}{D:Nat}(hr:X.fn.results= #[])(hp:QD As (.obj D (.deferred (some []))) As')(h:∀w,HS w0 M As' w->X.R (.returned (.tuple #[])) w)(hrd:X.rd=none:=by rfl)(hdf:X.df=[D]:=by rfl):S X [] L (HS w0 M As):=by
 intro a w ha hw;show(match X.rd with|none=>bodyPostM X.F 0 X.P X.fn X.R .normal a w|some l=>roundPost X.P l X.R .normal a w);rw[hrd];show LeavesInM X.F 0 X.P X.fn a.tmps X.R a.defers .returning w;rw[ha.defers,hdf];have h1:=(hw.putObj hp (.deferred none)).tail;exact⟨by simp,.inl ⟨D,_,rfl,run_takeDeferred (hw.obj_get hp),.tuple #[],results_none hr _ _ _,h _ h1⟩⟩
end
end Gx
namespace Gx
open Go Go.RowKit
abbrev iN(P:List Nat):List Int:=P.map λi:Nat=>(i:Int)
theorem QvB{P:List Nat}{k:Nat}(h:k<P.length):(iN P).getD k 0=((nth P k:Nat):Int):=by
 rw[YX (d:=0) h];rfl
theorem Qlu{P:List Nat}{k:Nat}(h:k<P.length):nth (iN P) k=((nth P k:Nat):Int):=QvB h
theorem Z7(P:List Nat):(iN P).length=P.length:=by simp
def Qcs(mo:Int):List Nd->List Nat->Prop
 | _,[]=>True
 | ns,i::P=>(i<ns.length/\(0<i->mo<((nth ns i).es.length:Int)->SpOk mo ns i))/\Qcs mo (Qbf mo ns i) P
structure RootOk(mo rm:Int)(ns:List Nd):Prop where
 lt:0<ns.length
 len:ns.length<=900
 us:(nth ns 0).us=true
 spl:rm<((nth ns 0).es.length:Int)->mo<((nth (XZ ns).2 (XZ ns).1).es.length:Int)->SpOk mo (XZ ns).2 (XZ ns).1
theorem Qse(ns:List Nd):(XZ ns).1<(XZ ns).2.length:=Nat.lt_of_lt_of_le (Qfj ns) (by unfold XZ;simp only[Qd2,QbW];exact Nat.le_refl _)
theorem Ql6{P:List Nat}{k:Nat}(h:k<P.length):P.reverse[k]?=some (nth P (P.length-1-k)):=by grind[QV]
theorem QoX{P:List Nat}{k:Nat}(h:k<P.length):P.reverse.drop k=nth P (P.length-1-k)::P.reverse.drop (k+1):=by
 have h1:k<P.reverse.length:=by rw[List.length_reverse];exact h
 rw[List.drop_eq_getElem_cons h1];congr 1;have:=Ql6 h
 grind
theorem Qpk{P:List Nat}{k:Nat}(h:k<P.length):P.reverse.take (k+1)=P.reverse.take k++[nth P (P.length-1-k)]:=by
 rw[List.take_add_one,Ql6 h];rfl
theorem QnR(mo:Int)(ns:List Nd)(P:List Nat)(i:Nat):X6 mo ns (P++[i])=Qbf mo (X6 mo ns P) i:=by grind[X6]
def YZ(co:Int)(ns:List Nd)(key:List UInt8):Nat:=nth (Qt co ns key).1 ((Qt co ns key).1.length-1)
def QiE(co:Int)(ns:List Nd)(x:TEnt):List Nd:=esN ns (YZ co ns x.key) (QP (nth ns (YZ co ns x.key)).es (Qt co ns x.key).2.1 x)
def Qac(co mo rm:Int)(ns:List Nd)(x:TEnt):List Nd:=if(Qt co ns x.key).2.2=true then ns else Qff mo rm (QiE co ns x) (Qt co ns x.key).1.reverse
def QdF(co mo rm:Int)(ns:List Nd)(x:TEnt):Int:=if(Qt co ns x.key).2.2=true then 5 else if(Qac co mo rm ns x).length<=120 then 0 else 16
structure InsOk(co mo rm:Int)(ns:List Nd)(x:TEnt):Prop where
 ne:0<(Qt co ns x.key).1.length
 len:(Qt co ns x.key).1.length<=900
 lf:YZ co ns x.key<ns.length
 es:(nth ns (YZ co ns x.key)).es.length<=900
 pl:(Qt co ns x.key).2.1<=(nth ns (YZ co ns x.key)).es.length
 grw:Qcs mo (QiE co ns x) (Qt co ns x.key).1.reverse
 root:RootOk mo rm (X6 mo (QiE co ns x) (Qt co ns x.key).1.reverse)
section
variable{w0 w:World}{M:List Nat}{As As':List HA}{a:Option Addr}{cap:Nat}{P:List Nat}
theorem HS.kids_some{l:List Int}(hn:0<l.length)(h:HS w0 M As w)(hp:QD As (.kids a cap l) As'):∃g,a=some ⟨g,0,none⟩:=by
 obtain⟨g,e,_⟩:=HS.own_blk hn hp h;exact⟨g,e⟩
theorem HS.path_rd{k g:Nat}(hk:k<P.length)(hg:a=some ⟨g,0,none⟩)(h:HS w0 M As w)(hp:QD As (.kids a cap (iN P)) As'):Rd w [] g (0+k*1) (.int .i64 ((nth P k:Nat):Int)):=by
 have h1:=Rw.rd (h.rw_own (vals:=inV) (l:=iN P) iv1 hp rfl) (i:=k) (by rw[Z7];exact hk) 0 (.int .i64 ((nth P k:Nat):Int)) (by rw[Qlu hk];rfl);rw[hg]at h1;exact h1
end
theorem QcR{co:Int}{ns:List Nd}(h:TOk co ns):∀i,i<ns.length->∀x∈(nth ns i).es,QL co x.key=true/\x.key.length<=1000000:=λi hi x hx=>by
 have h1:=QaB (h.ents i hi x hx)
 grind[QeK]
theorem Qn9{l:List LNd}{k:Nat}(hk:k<l.length)(x:LNd):Qq (l.flatMap LNd.vals) (k*3) (LNd.vals x)=(l.set k x).flatMap LNd.vals:=by
 have h:=Z2 nv3 l k 0 (LNd.vals x) (nth l k) x (QV hk) rfl (by simp[LNd.vals])
 grind
def Yf(P:List Nat):Nat:=nth P (P.length-1)
abbrev QrR(a:Option Addr)(c:Nat)(P:List Nat):HA:=.own (.slice a P.length c) 3 1 P.length (P.map λi:Nat=>Value.int .i64 (i:Int))
theorem QsU(l:List Nat):(iN l).flatMap inV=l.map λi:Nat=>Value.int .i64 (i:Int):=by
 induction l with
 | nil=>rfl
 | cons x l ih=>
  rw[iN,List.map_cons,List.flatMap_cons,List.map_cons,<-ih];rfl
theorem QnU(a:Option Addr)(c:Nat)(P:List Nat):HA.kids a c (iN P)=QrR a c P:=by
 unfold HA.kids;rw[QsU,Z7]
section
variable{w0 w:World}{M:List Nat}{As A1 A2 A3:List HA}{a:Option Addr}{c:Nat}{P:List Nat}
theorem HS.pown_some(hn:0<P.length)(h:HS w0 M As w)(hp:QD As (QrR a c P) A1):∃g,a=some ⟨g,0,none⟩:=by grind[HS.own_blk]
theorem HS.pown_row(h:HS w0 M As w)(hp:QD As (QrR a c P) A1):Rw inV 1 w [] a (iN P):=by
 have h1:=h.pick hp;rw[<-QnU]at h1;exact h1.rw_own (l:=iN P) iv1 .here rfl
theorem HS.pown_rd{k g:Nat}(hk:k<P.length)(hg:a=some ⟨g,0,none⟩)(h:HS w0 M As w)(hp:QD As (QrR a c P) A1):Rd w [] g (0+k*1) (.int .i64 ((nth P k:Nat):Int)):=by
 have h1:=Rw.rd (h.pown_row hp) (i:=k) (by rw[Z7];exact hk) 0 (.int .i64 ((nth P k:Nat):Int)) (by rw[Qlu hk];rfl);rw[hg]at h1;exact h1
end
theorem HS.nd_cells{w0 w:World}{M:List Nat}{As A1:List HA}{L:List LNd}{i gn cap nt':Nat}(hi:i<L.length)(h:HS w0 M As w)(hp:QD As (.blk gn nt' (cap*3) (L.flatMap LNd.vals)) A1):∀j v,(LNd.vals (nth L i))[j]?=some v->Rd w [] gn (i*3+j) v:=λj v hv=>by
 have hj:j<3:=by
  have:=(List.getElem?_eq_some_iff.1 hv).1;exact this
 exact HS.nd_cell hi h hp j hv hj
theorem QbN{α:Type}[Inhabited α]{l m:List α}(hl:l.length=m.length)(h:∀j,j<l.length->nth l j=nth m j):l=m:=by
 apply List.ext_getElem?
 grind[QV]
def Qfi(a b:List Nd)(k:Nat):List Nat:=(List.range k).filter λi=>decide (nth a i≠nth b i)
def QeS(a b:List Nd):List Nat:=Qfi a b (max a.length b.length)
theorem QsE{a b:List Nd}{k:Nat}(h:nth a k=nth b k):Qfi a b (k+1)=Qfi a b k:=by
 unfold Qfi;rw[List.range_succ,List.filter_append];simp[h]
theorem Qs0{a b:List Nd}{k:Nat}(h:nth a k≠nth b k):Qfi a b (k+1)=Qfi a b k++[k]:=by
 unfold Qfi;rw[List.range_succ,List.filter_append];simp[h]
theorem Qqz(a b:List Nd)(k:Nat):(Qfi a b k).length<=k:=by
 have:=List.length_filter_le (λi=>decide (nth a i≠nth b i)) (List.range k);rw[List.length_range]at this;exact this
theorem QlE{x y:TEnt}(h1:(bs x.key).data.toList=(bs y.key).data.toList)(h2:(bs x.val).data.toList=(bs y.val).data.toList):x=y:=by
 cases x
 simp_all
theorem Q1(L:List LNd)(k:Nat):nth (pln L) k=(nth L k).pl:=by
 rcases Nat.lt_or_ge k L.length with h|h
 ·exact Qr h
 ·rw[Yy (by rw[Qd];exact h),Yy h];rfl
theorem Rw.nilR{α:Type}[Inhabited α]{vals:α->List Value}{sz:Nat}{w:World}{M:List Nat}{a:Option Addr}:Rw vals sz w M a ([]:List α):=⟨λh=>absurd h (Nat.lt_irrefl _)⟩
theorem Nt.esA{w:World}{M:List Nat}{a:Option Addr}{L:List LNd}(h:Nt w M a L)(k:Nat):Rw TEnt.vals 2 w M (nth L k).ea (nth L k).es:=by
 rcases Nat.lt_or_ge k L.length with hk|hk
 ·exact h.es hk
 ·rw[Yy hk];exact Rw.nilR
theorem Nt.csA{w:World}{M:List Nat}{a:Option Addr}{L:List LNd}(h:Nt w M a L)(k:Nat):Rw inV 1 w M (nth L k).ca (nth L k).cs:=by
 rcases Nat.lt_or_ge k L.length with hk|hk
 ·exact h.cs hk
 ·rw[Yy hk];exact Rw.nilR
theorem QvQ(n m:Nd):decide (n=m)=(decide (n.us=m.us)&&(decide (n.es=m.es)&&decide (n.cs=m.cs))):=by
 cases n;cases m
 grind
theorem QkI(n m:LNd):((n.us==m.us&&decide (n.es=m.es))&&decide (n.cs=m.cs))=decide (n.pl=m.pl):=by
 rw[QvQ,Bool.and_assoc];rfl
theorem keyE_ok{co:Int}{k:List UInt8}(h:X3 co k=0):QL co k=true:=by grind[X3]
theorem Qwk{ns:List Nd}(h:Bd ns):Sm 100000 ns:=λk=>by
 rcases Nat.lt_or_ge k ns.length with hk|hk
 ·have h1:=h.es k hk;have h2:=h.cs k hk;omega
 ·rw[Yy hk];exact⟨Nat.zero_le _,Nat.zero_le _⟩
theorem Qut{co mo rm:Int}{ns:List Nd}{x:TEnt}(h:QdF co mo rm ns x=0):¬(Qt co ns x.key).2.2=true/\(Qac co mo rm ns x).length<=120:=by grind[QdF]
theorem QfI{α:Type}[Inhabited α]{vals:α->List Value}{sz:Nat}{w:World}{M:List Nat}{a:Option Addr}{l:List α}(h:Rw vals sz w M a l)(i:Nat):Rw vals sz w M a (l.take i):=
 ⟨λhn=>by
  rw[List.length_take]at hn;obtain⟨b,o,rfl,h2⟩:=h.at_ om;refine⟨b,o,rfl,λj hj=>?_⟩;rw[List.length_take]at hj;have e:nth (l.take i) j=nth l j:=Qou om;have h3:=h2 j om;simp only[e];exact h3⟩
theorem Qvo{co:Int}{key:List UInt8}:∀{es:List TEnt}{k:Nat},k<=es.length->(∀q,q<k->QN co (nth es q).key key<0)->¬(k<es.length/\QN co (nth es k).key key<0)->plc co es key=k:=by
 intro es k hk h1 h2;have h3:=Qat co key es;rcases Nat.lt_trichotomy (plc co es key) k with h|h|h
 ·exact absurd (h1 _ h) (Qik co key es om)
 ·exact h
 ·exact absurd ⟨om,QbE co key es k h⟩ h2
abbrev LNd.fre:LNd:=⟨true,none,0,[],none,0,[]⟩
section
variable{w0 w:World}{M:List Nat}{As A1 A2 A3:List HA}{et:Nat}{L:List LNd}{i j gn cap nt':Nat}
theorem HS.node_fre(hi:i<L.length)(h:HS w0 M As w)
  (hp:QD As (.blk gn nt' (cap*3) (Qq (L.flatMap LNd.vals) (i*3) [.bool true,.slice none 0 0,.slice none 0 0])) A1)(hp3:QD A1 (.star (L.map (QB et))) A3) :
  ∃L',NdSet L L' i LNd.fre/\HS w0 M (.blk gn nt' (cap*3) (L'.flatMap LNd.vals)::.star (L'.map (QB et))::A3) w:=by
 refine⟨_,⟨hi,rfl⟩,?_⟩;rw[<-Qn9 hi];have h1:=(((h.pick hp).node_out hi (.there hp3)).tail.tail.own_nil 3 1).own_nil et 2;exact(HS.node_in hi LNd.fre h1).perm (List.Perm.swap ..)
end
section
variable{w0 w:World}{M:List Nat}{As A1 A2 A3:List HA}{et:Nat}{L:List LNd}{i gn cap nt':Nat}
theorem HS.es_setN(hi:i<L.length){ea:Option Addr}{ec n:Nat}{es:List TEnt}{xs:List Value}(hn:n=es.length)(hx:xs=es.flatMap TEnt.vals)(h:HS w0 M As w)(hp:QD As (.blk gn nt' (cap*3) (Qq (L.flatMap LNd.vals) (i*3+1) [.slice ea n ec])) A1)(hp2:QD A1 (.own (.slice ea n ec) et 2 n xs) A2)(hp3:QD A2 (.star (L.map (QB et))) A3) :
  ∃L',NdSet L L' i {nth L i with ea:=ea,ec:=ec,es:=es}/\HS w0 M (.blk gn nt' (cap*3) (L'.flatMap LNd.vals)::.star (L'.map (QB et))::A3) w:=by
 grind[HS.es_set,hi]
theorem HS.cs_setN(hi:i<L.length){ca:Option Addr}{cc n:Nat}{cs:List Int}{xs:List Value}(hn:n=cs.length)(hx:xs=cs.flatMap inV)(h:HS w0 M As w)(hp:QD As (.blk gn nt' (cap*3) (Qq (L.flatMap LNd.vals) (i*3+2) [.slice ca n cc])) A1)(hp2:QD A1 (.own (.slice ca n cc) 3 1 n xs) A2)(hp3:QD A2 (.star (L.map (QB et))) A3) :
  ∃L',NdSet L L' i {nth L i with ca:=ca,cc:=cc,cs:=cs}/\HS w0 M (.blk gn nt' (cap*3) (L'.flatMap LNd.vals)::.star (L'.map (QB et))::A3) w:=by
 grind[HS.cs_set,hi]
end
theorem QlI{w:World}{n m:LNd}(he:n.ca=m.ca/\n.cc=m.cc/\n.cs=m.cs)(h:Rw inV 1 w [] n.ca n.cs):Rw inV 1 w [] m.ca m.cs:=by grind
def Qcd(ns:List Nd):Nat->Nat->Nat
 | 0,i=>i
 | f+1,i=>if i<ns.length then if(nth ns i).us=true then Qcd ns f (i+1)else i else i
def QdH(ns:List Nd):Nat:=Qcd ns ns.length 1
def Xi(ns:List Nd):Nat×List Nd:=if QdH ns<ns.length then(QdH ns,ns.set (QdH ns) ⟨true,[],[]⟩)else(ns.length,ns++[⟨true,[],[]⟩])
theorem QlO(ns:List Nd):∀f i,i<=ns.length->Qcd ns f i<=ns.length
 | 0,i,h=>h
 | f+1,i,h=>by
  rw[Qcd];split
  ·split
   ·exact QlO ns f (i+1) om
   ·exact h
  ·exact h
theorem Qiy(ns:List Nd):∀f i,i<=Qcd ns f i
 | 0,i=>Nat.le_refl _
 | f+1,i=>by
  rw[Qcd];split
  ·split
   ·simp[Nat.le_of_succ_le,Qiy]
   grind
  grind
theorem QsY{ns:List Nd}(h0:0<ns.length):1<=(Xi ns).1:=by
 unfold Xi;split
 ·exact Qiy ns _ 1
 ·exact h0
theorem QlP(ns:List Nd):(Xi ns).1<(Xi ns).2.length:=by grind[Xi]
theorem Qi4(ns:List Nd):ns.length<=(Xi ns).2.length/\(Xi ns).2.length<=ns.length+1:=by grind[Xi]
theorem QiS(ns:List Nd):∀f i,Qcd ns f i<ns.length->ns.length<i+f->(nth ns (Qcd ns f i)).us=false
 | 0,i,h,hf=>by
  rw[Qcd]at h;omega
 | f+1,i,h,hf=>by
  rw[Qcd]at h ⊢;split
  ·rename_i h1;rw[if_pos h1]at h;split
   ·rename_i h2;rw[if_pos h2]at h;exact QiS ns f (i+1) h om
   grind
  grind
theorem QsA{ns:List Nd}{i:Nat}(hi:i<ns.length)(hu:(nth ns i).us=true):(Xi ns).1≠i:=by
 unfold Xi;split
 ·rename_i h;intro e;have h2:=QiS ns ns.length 1 h om;rw[show Qcd ns ns.length 1=i from e,hu]at h2;cases h2
 grind
theorem Qp2{ns:List Nd}{i:Nat}(hi:i<ns.length)(hne:(Xi ns).1≠i):nth (Xi ns).2 i=nth ns i:=by
 unfold Xi at hne ⊢;split
 ·grind[QaO]
 ·apply QS
  grind[hi,QV]
def ixR(cs:List Int)(c:Int):Nat:=if ixB (ZB cs c)<cs.length then ixB (ZB cs c)else 0
def splRA(mo:Int)(ns:List Nd)(i:Nat):List Nd:=
 let F:=(Xi ns).2;let o:=(Xi ns).1;let x:=nth F i
 let n:=esN (esN F o (x.es.drop (Qw mo+1))) i (x.es.take (Qw mo))
 if x.cs.length=0 then n else csN (csN n o (x.cs.drop (Qw mo+1))) i (x.cs.take (Qw mo+1))
def QhZ(mo:Int)(ns:List Nd)(p i:Nat):List Nd:=addP (splRA mo ns i) p (ixR (nth (splRA mo ns i) p).cs (i:Int)) (nth (nth (Xi ns).2 i).es (Qw mo)) (Xi ns).1
def Qak(ns:List Nd):Nat×List Nd:=((Xi ns).1,csN (esN (csN (esN (Xi ns).2 (Xi ns).1 (nth (Xi ns).2 0).es) (Xi ns).1 (nth (Xi ns).2 0).cs) 0 []) 0 [((Xi ns).1:Int)])
def Qb8(mo:Int)(P:List Nat):Nat->List Nd->List Nd
 | 0,ns=>ns
 | k+1,ns=>Qb8 mo P k (if mo<((nth ns (nth P (k+1))).es.length:Int)then QhZ mo ns (nth P k) (nth P (k+1))else ns)
def QfV(mo rm:Int)(ns:List Nd):List Nd:=if rm<((nth ns 0).es.length:Int)then if mo<((nth (Qak ns).2 (Qak ns).1).es.length:Int)then QhZ mo (Qak ns).2 0 (Qak ns).1 else(Qak ns).2 else ns
def Qsy(co mo rm:Int)(ns:List Nd)(x:TEnt):List Nd:=
 let P:=(Qt co ns x.key).1;let lf:=Yf P
 QfV mo rm (Qb8 mo P (P.length-1) (esN ns lf (QP (nth ns lf).es (plc co (nth ns lf).es x.key) x)))
structure SpROk(mo:Int)(ns:List Nd)(p i:Nat):Prop where
 mo0:0<=mo/\mo<=1000
 len:ns.length<=900
 sm:Sm 900 ns
 lt:i<ns.length
 us:(nth ns i).us=true
 es:Qw mo<(nth ns i).es.length
 cs:(nth ns i).cs.length=0\/Qw mo+1<=(nth ns i).cs.length
 par:p<ns.length
 parE:ixR (nth (splRA mo ns i) p).cs (i:Int)<=(nth (splRA mo ns i) p).es.length
 parC:ixR (nth (splRA mo ns i) p).cs (i:Int)+1<=(nth (splRA mo ns i) p).cs.length
def QfZ(mo:Int)(P:List Nat):Nat->List Nd->Prop
 | 0,_=>True
 | k+1,ns=>(nth P (k+1)<ns.length/\(mo<((nth ns (nth P (k+1))).es.length:Int)->SpROk mo ns (nth P k) (nth P (k+1))))/\QfZ mo P k (if mo<((nth ns (nth P (k+1))).es.length:Int)then QhZ mo ns (nth P k) (nth P (k+1))else ns)
structure RootROk(mo rm:Int)(ns:List Nd):Prop where
 lt:0<ns.length
 len:ns.length<=900
 us:(nth ns 0).us=true
 spl:rm<((nth ns 0).es.length:Int)->mo<((nth (Qak ns).2 (Qak ns).1).es.length:Int)->SpROk mo (Qak ns).2 0 (Qak ns).1
structure InsROk(co mo rm:Int)(ns:List Nd)(x:TEnt):Prop where
 ne:0<(Qt co ns x.key).1.length
 len:(Qt co ns x.key).1.length<=900
 lf:Yf (Qt co ns x.key).1<ns.length
 grw:QfZ mo (Qt co ns x.key).1 ((Qt co ns x.key).1.length-1) (esN ns (Yf (Qt co ns x.key).1) (QP (nth ns (Yf (Qt co ns x.key).1)).es (plc co (nth ns (Yf (Qt co ns x.key).1)).es x.key) x))
 root:RootROk mo rm (Qb8 mo (Qt co ns x.key).1 ((Qt co ns x.key).1.length-1) (esN ns (Yf (Qt co ns x.key).1) (QP (nth ns (Yf (Qt co ns x.key).1)).es (plc co (nth ns (Yf (Qt co ns x.key).1)).es x.key) x)))
theorem Sm.frs{m:Nat}{ns:List Nd}(h:Sm m ns):Sm m (Xi ns).2:=by
 unfold Xi;split
 ·exact h.set _ _ ⟨Nat.zero_le _,Nat.zero_le _⟩
 ·exact h.app _ ⟨Nat.zero_le _,Nat.zero_le _⟩
theorem Sm.splRA{m:Nat}{ns:List Nd}(h:Sm m ns)(mo:Int)(i:Nat):Sm m (splRA mo ns i):=by
 have h1:=h.frs;have e1:=(h1 i).1;have e2:=(h1 i).2;have h2:=(h1.es (Xi ns).1 (es:=(nth (Xi ns).2 i).es.drop (Qw mo+1)) (by rw[List.length_drop];omega)).es i (es:=(nth (Xi ns).2 i).es.take (Qw mo)) (by rw[List.length_take];omega);unfold Gx.splRA;simp only[];split
 ·exact h2
 ·exact(h2.cs _ (by rw[List.length_drop];omega)).cs _ (by rw[List.length_take];omega)
theorem Qsc{mo:Int}{ns F:List Nd}{i:Nat}{x:Nd}(hF:(Xi ns).2=F)(hx:nth F i=x)(h:x.cs.length=0):splRA mo ns i=esN (esN F (Xi ns).1 (x.es.drop (Qw mo+1))) i (x.es.take (Qw mo)):=by
 subst hF hx;exact if_pos h
theorem Qsz{mo:Int}{ns F:List Nd}{i:Nat}{x:Nd}(hF:(Xi ns).2=F)(hx:nth F i=x)(h:¬x.cs.length=0):splRA mo ns i=csN (csN (esN (esN F (Xi ns).1 (x.es.drop (Qw mo+1))) i (x.es.take (Qw mo))) (Xi ns).1 (x.cs.drop (Qw mo+1))) i (x.cs.take (Qw mo+1)):=by
 subst hF hx;exact if_neg h
theorem Qve{ns:List Nd}(h:Bd ns):Sm 1000 ns:=λk=>by
 rcases Nat.lt_or_ge k ns.length with hk|hk
 ·exact⟨h.es k hk,h.cs k hk⟩
 ·rw[Yy hk];exact⟨Nat.zero_le _,Nat.zero_le _⟩
def QhP(co:Int)(ns:List Nd)(x:TEnt):List Nd:=esN ns (Yf (Qt co ns x.key).1) (QP (nth ns (Yf (Qt co ns x.key).1)).es (plc co (nth ns (Yf (Qt co ns x.key).1)).es x.key) x)
theorem Qr6{LG L6 L7 L8:List LNd}{b:Option Addr}{c:Nat}(hL6:pln L6=(Xi (pln LG)).2)(hi6:0<L6.length)(ho6:(Xi (pln LG)).1<L6.length)(hS7:NdSet L6 L7 (Xi (pln LG)).1 {nth L6 0 with us:=(nth L6 (Xi (pln LG)).1).us})(hS8:NdSet L7 L8 0 ⟨(nth L7 0).us,none,0,[],b,c,[((Xi (pln LG)).1:Int)]⟩)(hi7:0<L7.length):pln L8=(Qak (pln LG)).2:=by
 have e2:pln L7=csN (esN (pln L6) (Xi (pln LG)).1 (nth (pln L6) 0).es) (Xi (pln LG)).1 (nth (pln L6) 0).cs:=by
  rw[Qfq (by rw[Qd];exact ho6),hS7.pl,Qr ho6,Qr hi6];rfl
 rw[hS8.pl,Qak,<-hL6,<-e2,Qfq (by rw[Qd];exact hi7),Qr hi7];rfl
def smB(m:Nat)(ns:List Nd):Bool:=ns.all λn=>decide (n.es.length<=m)&&decide (n.cs.length<=m)
theorem QgR{m:Nat}{ns:List Nd}(h:smB m ns=true):Sm m ns:=λk=>by
 rcases Nat.lt_or_ge k ns.length with hk|hk
 ·have h1:=List.all_eq_true.1 h _ (Qz hk)
  grind
 ·rw[Yy hk];exact⟨Nat.zero_le _,Nat.zero_le _⟩
def bdB(ns:List Nd):Bool:=decide (ns.length<=1000)&&smB 1000 ns
theorem QpA{ns:List Nd}(h:bdB ns=true):Bd ns:=by
 unfold bdB at h;simp only[Bool.and_eq_true,decide_eq_true_eq]at h;exact⟨h.1,λi _=>(QgR h.2 i).1,λi _=>(QgR h.2 i).2⟩
def QuC(mo:Int)(ns:List Nd)(p i:Nat):Bool:=decide ((0<=mo/\mo<=1000)/\ns.length<=900/\smB 900 ns=true/\i<ns.length/\(nth ns i).us=true/\Qw mo<(nth ns i).es.length/\((nth ns i).cs.length=0\/Qw mo+1<=(nth ns i).cs.length)/\p<ns.length/\ixR (nth (splRA mo ns i) p).cs (i:Int)<=(nth (splRA mo ns i) p).es.length/\ixR (nth (splRA mo ns i) p).cs (i:Int)+1<=(nth (splRA mo ns i) p).cs.length)
theorem Qm9{mo:Int}{ns:List Nd}{p i:Nat}(h:QuC mo ns p i=true):SpROk mo ns p i:=by
 obtain⟨h1,h2,h3,h4,h5,h6,h7,h8,h9,h10⟩:=of_decide_eq_true h;exact⟨h1,h2,QgR h3,h4,h5,h6,h7,h8,h9,h10⟩
def Qmt(mo:Int)(P:List Nat):Nat->List Nd->Bool
 | 0,_=>true
 | k+1,ns=>(decide (nth P (k+1)<ns.length)&&(!decide (mo<((nth ns (nth P (k+1))).es.length:Int))||QuC mo ns (nth P k) (nth P (k+1))))&&Qmt mo P k (if mo<((nth ns (nth P (k+1))).es.length:Int)then QhZ mo ns (nth P k) (nth P (k+1))else ns)
theorem Qqw{p:Prop}[Decidable p]{b:Bool}(h:(!decide p||b)=true)(hp:p):b=true:=by grind
theorem QiZ{mo:Int}{P:List Nat}:∀{k:Nat}{ns:List Nd},Qmt mo P k ns=true->QfZ mo P k ns
 | 0,_,_=>trivial
 | k+1,ns,h=>by
  unfold Qmt at h;rw[Bool.and_eq_true,Bool.and_eq_true,decide_eq_true_eq]at h;exact⟨⟨h.1.1,λhp=>Qm9 (Qqw h.1.2 hp)⟩,QiZ h.2⟩
def Qq1(mo rm:Int)(ns:List Nd):Bool:=decide (0<ns.length/\ns.length<=900/\(nth ns 0).us=true/\(rm<((nth ns 0).es.length:Int)->mo<((nth (Qak ns).2 (Qak ns).1).es.length:Int)->QuC mo (Qak ns).2 0 (Qak ns).1=true))
theorem QnA{mo rm:Int}{ns:List Nd}(h:Qq1 mo rm ns=true):RootROk mo rm ns:=by
 obtain⟨h1,h2,h3,h4⟩:=of_decide_eq_true h;exact⟨h1,h2,h3,λa b=>Qm9 (h4 a b)⟩
def QoJ(co mo rm:Int)(ns:List Nd)(x:TEnt):Bool:=decide (0<(Qt co ns x.key).1.length/\(Qt co ns x.key).1.length<=900/\Yf (Qt co ns x.key).1<ns.length/\Qmt mo (Qt co ns x.key).1 ((Qt co ns x.key).1.length-1) (QhP co ns x)=true/\Qq1 mo rm (Qb8 mo (Qt co ns x.key).1 ((Qt co ns x.key).1.length-1) (QhP co ns x))=true)
theorem Qn8{co mo rm:Int}{ns:List Nd}{x:TEnt}(h:QoJ co mo rm ns x=true):InsROk co mo rm ns x:=by
 obtain⟨h1,h2,h3,h4,h5⟩:=of_decide_eq_true h;exact⟨h1,h2,h3,QiZ h4,QnA h5⟩
def spB(mo:Int)(ns:List Nd)(i:Nat):Bool:=decide ((0<=mo/\mo<=1000)/\ns.length<=900/\smB 900 ns=true/\i<ns.length/\(nth ns i).us=true/\Qw mo<(nth ns i).es.length/\((nth ns i).cs.length=0\/Qw mo+1<=(nth ns i).cs.length)/\(Xz (i:Int) (splA mo ns i) 0).1<(splA mo ns i).length/\(Xz (i:Int) (splA mo ns i) 0).2<=(nth (splA mo ns i) (Xz (i:Int) (splA mo ns i) 0).1).es.length/\(Xz (i:Int) (splA mo ns i) 0).2+1<=(nth (splA mo ns i) (Xz (i:Int) (splA mo ns i) 0).1).cs.length)
theorem Qqd{mo:Int}{ns:List Nd}{i:Nat}(h:spB mo ns i=true):SpOk mo ns i:=by
 obtain⟨h1,h2,h3,h4,h5,h6,h7,h8,h9,h10⟩:=of_decide_eq_true h;exact⟨h1,h2,QgR h3,h4,h5,h6,h7,h8,h9,h10⟩
def QrJ(mo:Int):List Nd->List Nat->Bool
 | _,[]=>true
 | ns,i::P=>(decide (i<ns.length)&&(!decide (0<i/\mo<((nth ns i).es.length:Int))||spB mo ns i))&&QrJ mo (Qbf mo ns i) P
theorem Ql0{mo:Int}:∀{P:List Nat}{ns:List Nd},QrJ mo ns P=true->Qcs mo ns P
 | [],_,_=>trivial
 | i::P,ns,h=>by
  unfold QrJ at h;rw[Bool.and_eq_true,Bool.and_eq_true,decide_eq_true_eq]at h;exact⟨⟨h.1.1,λa b=>Qqd (Qqw h.1.2 ⟨a,b⟩)⟩,Ql0 h.2⟩
def Qs8(mo rm:Int)(ns:List Nd):Bool:=decide (0<ns.length/\ns.length<=900/\(nth ns 0).us=true/\(rm<((nth ns 0).es.length:Int)->mo<((nth (XZ ns).2 (XZ ns).1).es.length:Int)->spB mo (XZ ns).2 (XZ ns).1=true))
theorem Qqm{mo rm:Int}{ns:List Nd}(h:Qs8 mo rm ns=true):RootOk mo rm ns:=by
 obtain⟨h1,h2,h3,h4⟩:=of_decide_eq_true h;exact⟨h1,h2,h3,λa b=>Qqd (h4 a b)⟩
def Qtl(co mo rm:Int)(ns:List Nd)(x:TEnt):Bool:=decide (0<(Qt co ns x.key).1.length/\(Qt co ns x.key).1.length<=900/\YZ co ns x.key<ns.length/\(nth ns (YZ co ns x.key)).es.length<=900/\(Qt co ns x.key).2.1<=(nth ns (YZ co ns x.key)).es.length/\QrJ mo (QiE co ns x) (Qt co ns x.key).1.reverse=true/\Qs8 mo rm (X6 mo (QiE co ns x) (Qt co ns x.key).1.reverse)=true)
theorem QoV{co mo rm:Int}{ns:List Nd}{x:TEnt}(h:Qtl co mo rm ns x=true):InsOk co mo rm ns x:=by
 obtain⟨h1,h2,h3,h4,h5,h6,h7⟩:=of_decide_eq_true h;exact⟨h1,h2,h3,h4,h5,Ql0 h6,Qqm h7⟩
def QnL(k:Nat):TEnt:=⟨[UInt8.ofNat (97+k)],[]⟩
def Qca:Nat->List Nd
 | 0=>[⟨true,[],[]⟩]
 | k+1=>Qsy 0 4 2 (Qca k) (QnL k)
theorem QpR:∀k,k<11->IntKind.u8.wrap (((97+k:Nat):Int)+1)=((97+(k+1):Nat):Int):=by decide
def Qvq(k:Nat):Bool:=decide (0<(Qca k).length)&&(bdB (Qca k)&&(decide ((X9 ⟨0,4,2,Qca k⟩ (Qca k).length 0 []).2=0)&&(QoJ 0 4 2 (Qca k) (QnL k)&&QL 0 (QnL k).key)))
structure LetOk(k:Nat):Prop where
 n0:0<(Qca k).length
 bd:Bd (Qca k)
 tok:TOk 0 (Qca k)
 ins:InsROk 0 4 2 (Qca k) (QnL k)
 key:QL 0 (QnL k).key=true
theorem Qs4{k:Nat}(h:Qvq k=true):LetOk k:=by
 unfold Qvq at h;simp only[Bool.and_eq_true,decide_eq_true_eq]at h;exact⟨h.1,QpA h.2.1,Qaa (t:=⟨0,4,2,Qca k⟩) h.2.2.1,Qn8 h.2.2.2.1,h.2.2.2.2⟩
set_option maxRecDepth 100000 in
theorem Qo7:(List.range 11).all Qvq=true:=by decide +kernel
theorem Qwi{k:Nat}(h:k<11):LetOk k:=Qs4 (List.all_eq_true.1 Qo7 k (List.mem_range.2 h))
end Gx
namespace Gx
open Go Go.RowKit
class TFd(P:Program)(t f:Nat)(off ft:outParam Nat):Prop where h:tfd P t f=some (off,ft)
class TSz(P:Program)(t:Nat)(n:outParam Nat)(ag:outParam Bool):Prop where h:tsz P t=some (n,ag)
class TSe(P:Program)(t:Nat)(e:outParam Nat):Prop where h:P.underlying t=some (.slice e)
section
variable{X:Ctx}{ops:Array Oper}{rest:List Oper}{k:List KI}{L:Ql}{d ty:Nat}{pos:String}{aft:Array Edge}{C:World->Prop}
theorem oFa{st f x b i off ft sz:Nat}{ag:Bool}[h1:TFd X.P st f off ft][h2:TSz X.P ft sz ag](next:O X ops rest k ((d,.pointer (some ⟨b,i+off,none⟩))::L) C)(hx:Ql.get L x=some (.pointer (some ⟨b,i,none⟩)):=by rfl)(hs:Nat.blt 0 sz=true:=by rfl)(hd:Nat.blt d X.n=true:=by rfl) :
  O X ops (⟨some d,.fieldAddr st (.tmp x) f,ty,pos,aft,none⟩::rest) k L C:=o_p (QcK rfl hx h1.h h2.h hs) hd next
theorem oLs{t e x n cap:Nat}{a:Option Addr}[h1:TSe X.P t e](next:O X ops rest k ((d,.int .i64 n)::L) C)(hx:Ql.get L x=some (.slice a n cap):=by rfl)(hd:Nat.blt d X.n=true:=by rfl) :
  O X ops (⟨some d,.call {callee:=.builtin .len,args:=#[.tmp x],argTypes:=#[t]},ty,pos,aft,none⟩::rest) k L C:=o_p (QX (x:=.tmp x) rfl hx h1.h) hd next
theorem oLd{w0:World}{M:List Nat}{As As':List HA}{t x b tot i:Nat}{bt:TypeId}{cs:List Value}{v:Value}[h1:TSz X.P t 1 false](next:O X ops rest k ((d,v)::L) (HS w0 M As))(hx:Ql.get L x=some (.pointer (some ⟨b,i,none⟩)):=by rfl)(hp:QD As (.blk b bt tot cs) As':=by repeat (first|exact .here|apply QD.there))(hv:cs[i]?=some v:=by rfl)(hd:Nat.blt d X.n=true:=by rfl) :
  O X ops (⟨some d,.load t (.tmp x),ty,pos,aft,none⟩::rest) k L (HS w0 M As):=o_q (Yh rfl hx h1.h hp hv) hd next
theorem oLn{w0:World}{M:List Nat}{As As':List HA}{t x b tot i n:Nat}{bt:TypeId}{cs:List Value}[h1:TSz X.P t n true](next:O X ops rest k ((d,.agg (cut cs i n).toArray)::L) (HS w0 M As))(hx:Ql.get L x=some (.pointer (some ⟨b,i,none⟩)):=by rfl)(hp:QD As (.blk b bt tot cs) As':=by repeat (first|exact .here|apply QD.there))(hl:Nat.ble (i+n) cs.length=true:=by rfl)(hd:Nat.blt d X.n=true:=by rfl) :
  O X ops (⟨some d,.load t (.tmp x),ty,pos,aft,none⟩::rest) k L (HS w0 M As):=o_q (Qaf rfl hx h1.h hp hl) hd next
end
section
variable{X:Ctx}{ops:Array Oper}{F:List Nat}{fuel:Nat}{listed:Array Bool}{k:List KI}{L:Ql}{d ty:Nat}{pos:String}{aft:Array Edge}{C B:World->Prop}{w0:World}{M:List Nat}{As As' Bs:List HA}
theorem dFa(i:Nat){st f x b o off ft sz:Nat}{ag:Bool}(next:D X ops F B fuel (listed.setIfInBounds i true) k ((d,.pointer (some ⟨b,o+off,none⟩))::L) C)(hi:ops[i]?=some ⟨some d,.fieldAddr st (.tmp x) f,ty,pos,aft,none⟩:=by rfl)(hx:Ql.get L x=some (.pointer (some ⟨b,o,none⟩)):=by rfl)(h1:TFd X.P st f off ft:=by infer_instance)(h2:TSz X.P ft sz ag:=by infer_instance)(hs:Nat.blt 0 sz=true:=by rfl)(hok:XG ops listed i=true:=by kernel_rfl)(hF:F.all (λf=>!Nat.beq f i)=true:=by rfl)(hd:Nat.blt d X.n=true:=by rfl):D X ops F B (fuel+1) listed k L C:=d_p i hi (QcK rfl hx h1.h h2.h hs) hok hF hd next
theorem dFo{j:Nat}{want c:Bool}(i dj:Nat){st f x b o off ft sz:Nat}{ag:Bool}(hw:c=want)(next:D X ops F B fuel (listed.setIfInBounds i true) k ((d,.pointer (some ⟨b,o+off,none⟩))::L) C)(hi:ops[i]?=some ⟨some d,.fieldAddr st (.tmp x) f,ty,pos,aft,some (j,want)⟩:=by rfl)(hj:(ops[j]?).bind (·.dst)=some dj:=by rfl)(hb:Ql.get L dj=some (.bool c):=by rfl)(hx:Ql.get L x=some (.pointer (some ⟨b,o,none⟩)):=by rfl)(h1:TFd X.P st f off ft:=by infer_instance)(h2:TSz X.P ft sz ag:=by infer_instance)(hs:Nat.blt 0 sz=true:=by rfl)(hok:XG ops listed i=true:=by kernel_rfl)(hF:F.all (λf=>!Nat.beq f i)=true:=by rfl)(hd:Nat.blt d X.n=true:=by rfl):D X ops F B (fuel+1) listed k L C:=Qre i dj hi hj hb hw (QcK rfl hx h1.h h2.h hs) hok hF hd next
theorem dPo{j:Nat}{want c:Bool}{op:Op}{v:Value}(i dj:Nat)(hw:c=want)(next:D X ops F B fuel (listed.setIfInBounds i true) k ((d,v)::L) C)(hi:ops[i]?=some ⟨some d,op,ty,pos,aft,some (j,want)⟩:=by rfl)(hj:(ops[j]?).bind (·.dst)=some dj:=by rfl)(hb:Ql.get L dj=some (.bool c):=by rfl)(h:OpP X.P ⟨some d,op,ty,pos,aft,none⟩ L v:=by exact Qlx rfl)(hok:XG ops listed i=true:=by kernel_rfl)(hF:F.all (λf=>!Nat.beq f i)=true:=by rfl)(hd:Nat.blt d X.n=true:=by rfl):D X ops F B (fuel+1) listed k L C:=Qre i dj hi hj hb hw h hok hF hd next
theorem dOf{j:Nat}{want c:Bool}{op:Op}(i dj:Nat)(hw:c= !want)(next:D X ops F B fuel (listed.setIfInBounds i true) k ((d,undef)::L) C)(hi:ops[i]?=some ⟨some d,op,ty,pos,aft,some (j,want)⟩:=by rfl)(hj:(ops[j]?).bind (·.dst)=some dj:=by rfl)(hb:Ql.get L dj=some (.bool c):=by rfl)(hok:XG ops listed i=true:=by kernel_rfl)(hF:F.all (λf=>!Nat.beq f i)=true:=by rfl)(hd:Nat.blt d X.n=true:=by rfl):D X ops F B (fuel+1) listed k L C:=QvU i dj hi hj hb hw hok hF hd next
theorem dOu{j:Nat}{want:Bool}{op:Op}(i dj:Nat)(next:D X ops F B fuel (listed.setIfInBounds i true) k ((d,undef)::L) C)(hi:ops[i]?=some ⟨some d,op,ty,pos,aft,some (j,want)⟩:=by rfl)(hj:(ops[j]?).bind (·.dst)=some dj:=by rfl)(hb:Ql.get L dj=some undef:=by rfl)(hok:XG ops listed i=true:=by kernel_rfl)(hF:F.all (λf=>!Nat.beq f i)=true:=by rfl)(hd:Nat.blt d X.n=true:=by rfl):D X ops F B (fuel+1) listed k L C:=Qul i dj hi hj hb hok hF hd next
theorem dNi(next:S X k L (HS w0 M As))(hB:∀w,HS w0 M As w->B w:=by(intro w h;first|exact h|exact h.ent aEt))(hr:(Region.ready .any ops listed==[])=true:=by kernel_rfl):D X ops F B 0 listed k L (HS w0 M As):=QvZ hr hB next
theorem dBa(next:D X ops F (HS w0 M As) fuel listed k L (HS w0 M As))(hB:∀w,HS w0 M As w->B w:=by(intro w h;exact h.ent aEt)):D X ops F B fuel listed k L (HS w0 M As):=Qt6 hB next
theorem dLd(i:Nat)(ps:List (List Nat)){t x b tot o:Nat}{bt:TypeId}{cs:List Value}{v:Value}(next:D X ops F (HS w0 M Bs) fuel (listed.setIfInBounds i true) k ((d,v)::L) C)(hi:ops[i]?=some ⟨some d,.load t (.tmp x),ty,pos,aft,none⟩:=by rfl)(hx:Ql.get L x=some (.pointer (some ⟨b,o,none⟩)):=by rfl)(h1:TSz X.P t 1 false:=by infer_instance)(hp:QD Bs (.blk b bt tot cs) As':=by repeat (first|exact .here|apply QD.there))(hv:cs[o]?=some v:=by rfl)(hok:XG ops listed i=true:=by kernel_rfl)(hF:QaF ops F i ps=true:=by kernel_rfl)(hn:QdK F listed=true:=by kernel_rfl)(hd:Nat.blt d X.n=true:=by rfl):D X ops F (HS w0 M Bs) (fuel+1) listed k L C:=d_q i ps hi (Yh rfl hx h1.h hp hv) hok hF hn hd next
theorem dLn(i:Nat)(ps:List (List Nat)){t x b tot o n:Nat}{bt:TypeId}{cs:List Value}(next:D X ops F (HS w0 M Bs) fuel (listed.setIfInBounds i true) k ((d,.agg (cut cs o n).toArray)::L) C)(hi:ops[i]?=some ⟨some d,.load t (.tmp x),ty,pos,aft,none⟩:=by rfl)(hx:Ql.get L x=some (.pointer (some ⟨b,o,none⟩)):=by rfl)(h1:TSz X.P t n true:=by infer_instance)(hp:QD Bs (.blk b bt tot cs) As':=by repeat (first|exact .here|apply QD.there))(hl:Nat.ble (o+n) cs.length=true:=by rfl)(hok:XG ops listed i=true:=by kernel_rfl)(hF:QaF ops F i ps=true:=by kernel_rfl)(hn:QdK F listed=true:=by kernel_rfl)(hd:Nat.blt d X.n=true:=by rfl):D X ops F (HS w0 M Bs) (fuel+1) listed k L C:=d_q i ps hi (Qaf rfl hx h1.h hp hl) hok hF hn hd next
end
section
variable{X:Ctx}{ops:Array Oper}{F:List Nat}{fuel:Nat}{listed:Array Bool}{rest:List Oper}{k:List KI}{L:Ql}{d ty:Nat}{pos:String}{aft:Array Edge}{w0:World}{M:List Nat}{As As':List HA}
theorem oSt{t x b tot i n:Nat}{y:Operand}{bt:TypeId}{ag:Bool}{cs:List Value}{v:Value}[hs:TSz X.P t n ag](next:O X ops rest k L (HS w0 M As'))(hx:Ql.get L x=some (.pointer (some ⟨b,i,none⟩)):=by rfl)(hy:ev L y=some v:=by rfl)(hn:v.cells.toList.length=n:=by rfl)
  (hp:Put As (.blk b bt tot cs) (.blk b bt tot (Qq cs i v.cells.toList)) As':=by repeat (first|exact .here|apply Put.there))(hl:i+n<=cs.length:=by(simp only[Qk,List.length_set,List.length_cons,List.length_nil,List.length_map];omega))(h1:v.cells.toList.all (·.oneCell')=true:=by rfl) :
  O X ops (⟨none,.store t (.tmp x) y,ty,pos,aft,none⟩::rest) k L (HS w0 M As):=Qah (Q8 rfl hx hy hs.h hn hp hl h1) λ_ _=>next
theorem oAl{t:TypeId}{z:List Value}(next:∀b,True->O X ops rest k ((d,.pointer (some ⟨b,0,none⟩))::L) (HS w0 M (.blk b t z.length z::As)))(hz:XX X.P t=some z)(hd:Nat.blt d X.n=true:=by rfl):O X ops (⟨some d,.alloc t,ty,pos,aft,none⟩::rest) k L (HS w0 M As):=o_h (Qfm rfl hz) hd next
theorem oBx{t:TypeId}{x:Operand}{v:Value}(next:∀b,True->O X ops rest k ((d,.pointer (some ⟨b,0,none⟩))::L) (HS w0 M (.blk b t v.cells.toList.length v.cells.toList::As)))(hx:ev L x=some v:=by rfl)(hd:Nat.blt d X.n=true:=by rfl):O X ops (⟨some d,.box t x,ty,pos,aft,none⟩::rest) k L (HS w0 M As):=o_h (Qmi rfl hx) hd next
theorem oWr{v:Int}{C:World->Prop}(next:O X ops rest k ((d,.int .i64 v)::L) C)(h1: -9223372036854775808<=v:=by omega)(h2:v<=9223372036854775807:=by omega):O X ops rest k ((d,.int .i64 (IntKind.i64.wrap v))::L) C:=Qf (Qfd h1 h2) next
theorem dWr{v:Int}{C B:World->Prop}(next:D X ops F B fuel listed k ((d,.int .i64 v)::L) C)(h1: -9223372036854775808<=v:=by omega)(h2:v<=9223372036854775807:=by omega):D X ops F B fuel listed k ((d,.int .i64 (IntKind.i64.wrap v))::L) C:=Qv (Qfd h1 h2) next
theorem dSt{B:World->Prop}(i:Nat){t x b tot o n:Nat}{y:Operand}{bt:TypeId}{ag:Bool}{cs:List Value}{v:Value}(next:D X ops F B fuel (listed.setIfInBounds i true) k L (HS w0 M As'))(hi:ops[i]?=some ⟨none,.store t (.tmp x) y,ty,pos,aft,none⟩:=by rfl)(hx:Ql.get L x=some (.pointer (some ⟨b,o,none⟩)):=by rfl)(hy:ev L y=some v:=by rfl)(hs:TSz X.P t n ag:=by infer_instance)(hn:v.cells.toList.length=n:=by rfl)
  (hp:Put As (.blk b bt tot cs) (.blk b bt tot (Qq cs o v.cells.toList)) As':=by repeat (first|exact .here|apply Put.there))(hl:o+n<=cs.length)(h1:v.cells.toList.all (·.oneCell')=true:=by rfl)(hr:(Region.ready .any ops listed==[i])=true:=by kernel_rfl)(hB:∀w,HS w0 M As w->B w:=by(intro w h;exact h.ent aEt)) :
  D X ops F B (fuel+1) listed k L (HS w0 M As):=Qep i hi (Q8 rfl hx hy hs.h hn hp hl h1) hr hB λ_ _=>next
theorem dTu{B:World->Prop}(F':List Nat)(next:D X ops F' (HS w0 M As) fuel listed k L (HS w0 M As))(hf:F.any (λf=>listed.getD f false)=true:=by kernel_rfl):D X ops F B fuel listed k L (HS w0 M As):=QuG F' hf next
end
section
variable{X:Ctx}{ops:Array Oper}{F:List Nat}{fuel:Nat}{listed:Array Bool}{k:List KI}{L:Ql}{d ty:Nat}{pos:String}{aft:Array Edge}{op:Op}{w0:World}{M:List Nat}{As Bs:List HA}
theorem dQ{C:World->Prop}{v:Value}(i:Nat)(ps:List (List Nat))(hi:ops[i]?=some ⟨some d,op,ty,pos,aft,none⟩)(h:OpQ X.P ⟨some d,op,ty,pos,aft,none⟩ L (HS w0 M Bs) v)(next:D X ops F (HS w0 M Bs) fuel (listed.setIfInBounds i true) k ((d,v)::L) C)(hok:XG ops listed i=true:=by kernel_rfl)(hF:QaF ops F i ps=true:=by kernel_rfl)(hn:QdK F listed=true:=by kernel_rfl)(hd:Nat.blt d X.n=true:=by rfl):D X ops F (HS w0 M Bs) (fuel+1) listed k L C:=d_q i ps hi h hok hF hn hd next
theorem dV{C:World->Prop}{B:World->Prop}{v:Value}(i:Nat)(hi:ops[i]?=some ⟨some d,op,ty,pos,aft,none⟩)(h:OpP X.P ⟨some d,op,ty,pos,aft,none⟩ L v)(next:D X ops F B fuel (listed.setIfInBounds i true) k ((d,v)::L) C)(hok:XG ops listed i=true:=by kernel_rfl)(hF:F.all (λf=>!Nat.beq f i)=true:=by rfl)(hd:Nat.blt d X.n=true:=by rfl):D X ops F B (fuel+1) listed k L C:=d_p i hi h hok hF hd next
theorem dH{B:World->Prop}{G:Type}{V:G->Value}{Fg:G->Prop}{C':G->World->Prop}(i:Nat)(hi:ops[i]?=some ⟨some d,op,ty,pos,aft,none⟩)(h:OpH X.P ⟨some d,op,ty,pos,aft,none⟩ L (HS w0 M As) V Fg C')(next:∀g,Fg g->D X ops F B fuel (listed.setIfInBounds i true) k ((d,V g)::L) (C' g))(hr:(Region.ready .any ops listed==[i])=true:=by kernel_rfl)(hB:∀w,HS w0 M As w->B w:=by(intro w h;exact h.ent aEt))(hd:Nat.blt d X.n=true:=by rfl):D X ops F B (fuel+1) listed k L (HS w0 M As):=d_h i hi h hr hB hd next
theorem dVo{C:World->Prop}{B:World->Prop}{v:Value}{j:Nat}{want b:Bool}(i dj:Nat)(hw:b=want)(hi:ops[i]?=some ⟨some d,op,ty,pos,aft,some (j,want)⟩)(hj:(ops[j]?).bind (·.dst)=some dj)(hb:Ql.get L dj=some (.bool b))(h:OpP X.P ⟨some d,op,ty,pos,aft,none⟩ L v)(next:D X ops F B fuel (listed.setIfInBounds i true) k ((d,v)::L) C)(hok:XG ops listed i=true:=by kernel_rfl)(hF:F.all (λf=>!Nat.beq f i)=true:=by rfl)(hd:Nat.blt d X.n=true:=by rfl):D X ops F B (fuel+1) listed k L C:=Qre i dj hi hj hb hw h hok hF hd next
theorem dQo{C:World->Prop}{v:Value}{j:Nat}{want b:Bool}(i dj:Nat)(ps:List (List Nat))(hw:b=want)(hi:ops[i]?=some ⟨some d,op,ty,pos,aft,some (j,want)⟩)(hj:(ops[j]?).bind (·.dst)=some dj)(hb:Ql.get L dj=some (.bool b))(h:OpQ X.P ⟨some d,op,ty,pos,aft,none⟩ L (HS w0 M Bs) v)(next:D X ops F (HS w0 M Bs) fuel (listed.setIfInBounds i true) k ((d,v)::L) C)(hok:XG ops listed i=true:=by kernel_rfl)(hF:QaF ops F i ps=true:=by kernel_rfl)(hn:QdK F listed=true:=by kernel_rfl)(hd:Nat.blt d X.n=true:=by rfl):D X ops F (HS w0 M Bs) (fuel+1) listed k L C:=Qwl i dj ps hi hj hb hw h hok hF hn hd next
theorem rT{t:Nat}{v:Value}(hr:X.fn.results=[ResultVar.tmp t].toArray)(hv:Ql.get L t=some v)(h:∀w,HS w0 M As w->X.R (.returned (Q3 [v])) w)(hrd:X.rd=none:=by rfl)(hdf:X.df=[]:=by rfl):S X (.c .ret::k) L (HS w0 M As):=Qj hr (.tmp hv .nil) h hrd hdf
end
theorem dT{p:Prop}[Decidable p]:(decide p=true)=p:=decide_eq_true_eq
theorem dN{p:Prop}[Decidable p]:decide p=false ↔ ¬p:=decide_eq_false_iff_not
class BP(b:Bool)(p n:outParam Prop):Prop where
 t:b=true->p
 f:b=false->n
instance(priority:=low) bp0(b:Bool):BP b (b=true) (b=false):=⟨id,id⟩
instance bpD(p:Prop)[Decidable p]:BP (decide p) p (¬p):=⟨of_decide_eq_true,of_decide_eq_false⟩
instance bpN(b:Bool)(p n:Prop)[h:BP b p n]:BP (!b) n p:=⟨λh9=>h.f (by simpa using h9),λh9=>h.t (by simpa using h9)⟩
instance bpA(a b:Bool)(p n p' n':Prop)[h:BP a p n][h':BP b p' n']:BP (a&&b) (p/\p') (n\/n'):=⟨λh9=>⟨h.t (by simp at h9;exact h9.1),h'.t (by simp at h9;exact h9.2)⟩,λh9=>by cases a with
 | true=>exact .inr (h'.f (by simpa using h9))
 | false=>exact .inl (h.f rfl)⟩
instance bpO(a b:Bool)(p n p' n':Prop)[h:BP a p n][h':BP b p' n']:BP (a||b) (p\/p') (n/\n'):=⟨λh9=>by cases a with
 | true=>exact .inl (h.t rfl)
 | false=>exact .inr (h'.t (by simpa using h9)),λh9=>⟨h.f (by simp at h9;exact h9.1),h'.f (by simp at h9;exact h9.2)⟩⟩
class TFn(P:Program)(f:Nat):Prop where h:QQ P f=true
section
variable{X:Ctx}{k:List KI}{L:Ql}{C:World->Prop}
theorem sCd{c:Operand}{x y:Code}{b:Bool}{p n:Prop}(hc:ev L c=some (.bool b))[hB:BP b p n](ht:p->S X (.c x::k) L C)(hf:n->S X (.c y::k) L C):S X (.c (.cond c x y)::k) L C:=Qvm hc (λh=>ht (hB.t h)) λh=>hf (hB.f h)
variable{ops:Array Oper}{rest:List Oper}{d ty:Nat}{pos:String}{aft:Array Edge}{op:Op}
theorem X0(m dj dp:Nat){b c:Bool}{p n:Prop}{l:List Oper}(hb:Ql.get L dj=some (.bool b))[hB:BP b p n]
  (h1:b=true->p->O X ops (l.take m) (.join (At X.n X.df (λ_:Unit=>(dp,.bool c)::L) (λ_=>C))::k) L C)
  (h0:b=false->n->O X ops (l.take m) (.join (At X.n X.df (λ_:Unit=>(dp,.bool false)::L) (λ_=>C))::k) L C)
  (h2:O X ops (l.drop m) k ((dp,.bool (b&&c))::L) C):O X ops l k L C:=Qwh m dj dp b c hb (λh=>h1 h (hB.t h)) (λh=>h0 h (hB.f h)) h2
theorem oOr(m dj dp:Nat){b c:Bool}{p n:Prop}{l:List Oper}(hb:Ql.get L dj=some (.bool b))[hB:BP b p n]
  (h1:b=false->n->O X ops (l.take m) (.join (At X.n X.df (λ_:Unit=>(dp,.bool c)::L) (λ_=>C))::k) L C)
  (h0:b=true->p->O X ops (l.take m) (.join (At X.n X.df (λ_:Unit=>(dp,.bool true)::L) (λ_=>C))::k) L C)
  (h2:O X ops (l.drop m) k ((dp,.bool (b||c))::L) C):O X ops l k L C:=o_or m dj dp b c hb (λh=>h1 h (hB.f h)) (λh=>h0 h (hB.t h)) h2
theorem oNo{j dj:Nat}{want b:Bool}{dst:Option Nat}(next:O X ops (⟨dst,op,ty,pos,aft,none⟩::rest) k L C)(hj:(ops[j]?).bind (·.dst)=some dj:=by rfl)(hs:Ql.get L dj=some (.bool b):=by rfl)(hb:b=want:=by assumption):O X ops (⟨dst,op,ty,pos,aft,some (j,want)⟩::rest) k L C:=o_on dj b hj hs hb next
theorem oFt{j dj:Nat}{b:Bool}(next:O X ops rest k ((d,undef)::L) C)(hj:(ops[j]?).bind (·.dst)=some dj:=by rfl)(hs:Ql.get L dj=some (.bool b):=by rfl)(hb:b=false:=by assumption)(hd:Nat.blt d X.n=true:=by rfl):O X ops (⟨some d,op,ty,pos,aft,some (j,true)⟩::rest) k L C:=Qtd dj b hj hs hb hd next
theorem oFf{j dj:Nat}{b:Bool}(next:O X ops rest k ((d,undef)::L) C)(hj:(ops[j]?).bind (·.dst)=some dj:=by rfl)(hs:Ql.get L dj=some (.bool b):=by rfl)(hb:b=true:=by assumption)(hd:Nat.blt d X.n=true:=by rfl):O X ops (⟨some d,op,ty,pos,aft,some (j,false)⟩::rest) k L C:=Qtd dj b hj hs hb hd next
theorem oFu{j dj:Nat}{want:Bool}(next:O X ops rest k ((d,undef)::L) C)(hj:(ops[j]?).bind (·.dst)=some dj:=by rfl)(hs:Ql.get L dj=some undef:=by rfl)(hd:Nat.blt d X.n=true:=by rfl):O X ops (⟨some d,op,ty,pos,aft,some (j,want)⟩::rest) k L C:=Quc dj hj hs hd next
variable{w0:World}{M:List Nat}{As:List HA}
theorem rV{t:Nat}{v v':Value}(hr:X.fn.results=[ResultVar.tmp t].toArray:=by rfl)(hv:Ql.get L t=some v:=by rfl)(hR:X.R=λen w'=>en=.returned v'/\Below w0.heap.size w0 w':=by rfl)(hrd:X.rd=none:=by rfl)(hdf:X.df=[]:=by rfl)(h:Ending.returned (Q3 [v])=.returned v':=by rfl):S X (.c .ret::k) L (HS w0 [] As):=Qj hr (.tmp hv .nil) (λw' h'=>hR▸⟨h,h'.below⟩) hrd hdf
theorem oCq{f:FuncId}{args:Array Operand}{vs:List Value}{v:Value}{at':Array TypeId}(ha:evs L args.toList=some vs)[hf:TFn X.P f](hc:∀w,HS w0 M As w->Calls X.P f vs.toArray w λe w'=>e=.returned v/\Below w.heap.size w w')(next:O X ops rest k ((d,v)::L) (HS w0 M As))(hd:Nat.blt d X.n=true:=by rfl) :
  O X ops (⟨some d,.call {callee:=.value (.func f),args:=args,argTypes:=at'},ty,pos,aft,none⟩::rest) k L (HS w0 M As):=o_q (QA rfl hf.h ha hc) hd next
theorem oCh{G:Type}{V:G->Value}{F:G->Prop}{Bs:G->List HA}{f:FuncId}{args:Array Operand}{vs:List Value}{at':Array TypeId}(ha:evs L args.toList=some vs)[hf:TFn X.P f](hc:∀w,HS w0 M As w->Calls X.P f vs.toArray w λe w'=>∃g,e=.returned (V g)/\F g/\HS w [] (Bs g) w')(next:∀g,F g->O X ops rest k ((d,V g)::L) (HS w0 M (Bs g++As)))(hd:Nat.blt d X.n=true:=by rfl) :
  O X ops (⟨some d,.call {callee:=.value (.func f),args:=args,argTypes:=at'},ty,pos,aft,none⟩::rest) k L (HS w0 M As):=o_h (Qav rfl hf.h ha hc) hd next
theorem sBk{α:Type}{LJ:α->Ql}{CJ:α->World->Prop}{I:α->Prop}{m:α->Nat}{x:α}(y:α)(hm:m y<m x:=by omega)(hI:I y:=by omega)(hL:Qdi L (LJ y):=by repeat (first|exact QdL|refine Zm rfl ?_))(hC:∀w,HS w0 M As w->CJ y w:=by(intro w h;exact h.ent aEt)):S X (.join (QpS X.n X.df LJ CJ I m x)::k) L (HS w0 M As):=QK y hm hI hL hC
end
section
variable{X:Ctx}{k:List KI}{L:Ql}{C:World->Prop}{ops:Array Oper}{rest:List Oper}{d ty:Nat}{pos:String}{aft:Array Edge}{op:Op}{LJ:Unit->Ql}{CJ:Unit->World->Prop}
theorem o0t{j dj:Nat}{b:Bool}(next:O X ops rest k L C)(hj:(ops[j]?).bind (·.dst)=some dj:=by rfl)(hs:Ql.get L dj=some (.bool b):=by rfl)(hb:b=false:=by assumption):O X ops (⟨none,op,ty,pos,aft,some (j,true)⟩::rest) k L C:=Qro dj b hj hs hb next
theorem o0f{j dj:Nat}{b:Bool}(next:O X ops rest k L C)(hj:(ops[j]?).bind (·.dst)=some dj:=by rfl)(hs:Ql.get L dj=some (.bool b):=by rfl)(hb:b=true:=by assumption):O X ops (⟨none,op,ty,pos,aft,some (j,false)⟩::rest) k L C:=Qro dj b hj hs hb next
theorem oJt(m dp:Nat){c x y:Operand}{b:Bool}{v:Value}(hc:ev L c=some (.bool b):=by rfl)(hb:b=true:=by assumption)(hx:ev L x=some v:=by rfl)(hd:Nat.blt dp X.n=true:=by rfl)(hJ:LJ ()=(dp,v)::((dp,v)::L).drop m:=by exact rfl)(hf:QgH ((dp,v)::L) m=true:=by exact rfl)(hC:∀w,C w->CJ () w:=by(intro w h;first|exact h|exact h.ent aEt)) :
  O X ops [⟨some dp,.pick c x y,ty,pos,aft,none⟩] (.join (At X.n X.df LJ CJ)::k) L C:=o_p (Xq rfl hc hb hx) hd (QpJ (QmS m dp v hJ (by rw[Ql.get_cons,if_pos rfl]) hf hC))
theorem oJf(m dp:Nat){c x y:Operand}{b:Bool}{v:Value}(hc:ev L c=some (.bool b):=by rfl)(hb:b=false:=by assumption)(hx:ev L y=some v:=by rfl)(hd:Nat.blt dp X.n=true:=by rfl)(hJ:LJ ()=(dp,v)::((dp,v)::L).drop m:=by exact rfl)(hf:QgH ((dp,v)::L) m=true:=by exact rfl)(hC:∀w,C w->CJ () w:=by(intro w h;first|exact h|exact h.ent aEt)) :
  O X ops [⟨some dp,.pick c x y,ty,pos,aft,none⟩] (.join (At X.n X.df LJ CJ)::k) L C:=o_p (Xe rfl hc hb hx) hd (QpJ (QmS m dp v hJ (by rw[Ql.get_cons,if_pos rfl]) hf hC))
end
section
variable{P:Program}{f:FuncId}{fn:Func}{n:Nat}{c:Code}{w w1:World}{R:Ending->World->Prop}{M:List Nat}{As:List HA}
theorem eN0(hf:P.funcs[f]?=some fn)(hn:fn.ntmps=n)(h:S {P:=P,fn:=fn,n:=n,R:=R} [.c c] (Qdl 0 []) (HS w [] []))(hb:fn.body=some c:=by rfl)(hl:Nat.ble 0 n=true:=by rfl):Calls P f #[] w R:=enter (args:=[]) hf hn hb hl (HS.refl w []) h
theorem eN1{x0:Value}(hf:P.funcs[f]?=some fn)(hn:fn.ntmps=n)(h:S {P:=P,fn:=fn,n:=n,R:=R} [.c c] (Qdl 0 [x0]) (HS w [] []))(hb:fn.body=some c:=by rfl)(hl:Nat.ble 1 n=true:=by rfl):Calls P f #[x0] w R:=enter (args:=[x0]) hf hn hb hl (HS.refl w []) h
theorem eW1{x0:Value}(hf:P.funcs[f]?=some fn)(hn:fn.ntmps=n)(hw:HS w1 M As w)(h:S {P:=P,fn:=fn,n:=n,R:=R} [.c c] (Qdl 0 [x0]) (HS w1 M As))(hb:fn.body=some c:=by rfl)(hl:Nat.ble 1 n=true:=by rfl):Calls P f #[x0] w R:=enter (args:=[x0]) hf hn hb hl hw h
theorem eN2{x0:Value}{x1:Value}(hf:P.funcs[f]?=some fn)(hn:fn.ntmps=n)(h:S {P:=P,fn:=fn,n:=n,R:=R} [.c c] (Qdl 0 [x0,x1]) (HS w [] []))(hb:fn.body=some c:=by rfl)(hl:Nat.ble 2 n=true:=by rfl):Calls P f #[x0,x1] w R:=enter (args:=[x0,x1]) hf hn hb hl (HS.refl w []) h
theorem eW2{x0:Value}{x1:Value}(hf:P.funcs[f]?=some fn)(hn:fn.ntmps=n)(hw:HS w1 M As w)(h:S {P:=P,fn:=fn,n:=n,R:=R} [.c c] (Qdl 0 [x0,x1]) (HS w1 M As))(hb:fn.body=some c:=by rfl)(hl:Nat.ble 2 n=true:=by rfl):Calls P f #[x0,x1] w R:=enter (args:=[x0,x1]) hf hn hb hl hw h
theorem eN3{x0:Value}{x1:Value}{x2:Value}(hf:P.funcs[f]?=some fn)(hn:fn.ntmps=n)(h:S {P:=P,fn:=fn,n:=n,R:=R} [.c c] (Qdl 0 [x0,x1,x2]) (HS w [] []))(hb:fn.body=some c:=by rfl)(hl:Nat.ble 3 n=true:=by rfl):Calls P f #[x0,x1,x2] w R:=enter (args:=[x0,x1,x2]) hf hn hb hl (HS.refl w []) h
theorem eW3{x0:Value}{x1:Value}{x2:Value}(hf:P.funcs[f]?=some fn)(hn:fn.ntmps=n)(hw:HS w1 M As w)(h:S {P:=P,fn:=fn,n:=n,R:=R} [.c c] (Qdl 0 [x0,x1,x2]) (HS w1 M As))(hb:fn.body=some c:=by rfl)(hl:Nat.ble 3 n=true:=by rfl):Calls P f #[x0,x1,x2] w R:=enter (args:=[x0,x1,x2]) hf hn hb hl hw h
theorem eN4{x0:Value}{x1:Value}{x2:Value}{x3:Value}(hf:P.funcs[f]?=some fn)(hn:fn.ntmps=n)(h:S {P:=P,fn:=fn,n:=n,R:=R} [.c c] (Qdl 0 [x0,x1,x2,x3]) (HS w [] []))(hb:fn.body=some c:=by rfl)(hl:Nat.ble 4 n=true:=by rfl):Calls P f #[x0,x1,x2,x3] w R:=enter (args:=[x0,x1,x2,x3]) hf hn hb hl (HS.refl w []) h
theorem eW4{x0:Value}{x1:Value}{x2:Value}{x3:Value}(hf:P.funcs[f]?=some fn)(hn:fn.ntmps=n)(hw:HS w1 M As w)(h:S {P:=P,fn:=fn,n:=n,R:=R} [.c c] (Qdl 0 [x0,x1,x2,x3]) (HS w1 M As))(hb:fn.body=some c:=by rfl)(hl:Nat.ble 4 n=true:=by rfl):Calls P f #[x0,x1,x2,x3] w R:=enter (args:=[x0,x1,x2,x3]) hf hn hb hl hw h
theorem eN5{x0:Value}{x1:Value}{x2:Value}{x3:Value}{x4:Value}(hf:P.funcs[f]?=some fn)(hn:fn.ntmps=n)(h:S {P:=P,fn:=fn,n:=n,R:=R} [.c c] (Qdl 0 [x0,x1,x2,x3,x4]) (HS w [] []))(hb:fn.body=some c:=by rfl)(hl:Nat.ble 5 n=true:=by rfl):Calls P f #[x0,x1,x2,x3,x4] w R:=enter (args:=[x0,x1,x2,x3,x4]) hf hn hb hl (HS.refl w []) h
theorem eW5{x0:Value}{x1:Value}{x2:Value}{x3:Value}{x4:Value}(hf:P.funcs[f]?=some fn)(hn:fn.ntmps=n)(hw:HS w1 M As w)(h:S {P:=P,fn:=fn,n:=n,R:=R} [.c c] (Qdl 0 [x0,x1,x2,x3,x4]) (HS w1 M As))(hb:fn.body=some c:=by rfl)(hl:Nat.ble 5 n=true:=by rfl):Calls P f #[x0,x1,x2,x3,x4] w R:=enter (args:=[x0,x1,x2,x3,x4]) hf hn hb hl hw h
theorem eW6{x0:Value}{x1:Value}{x2:Value}{x3:Value}{x4:Value}{x5:Value}(hf:P.funcs[f]?=some fn)(hn:fn.ntmps=n)(hw:HS w1 M As w)(h:S {P:=P,fn:=fn,n:=n,R:=R} [.c c] (Qdl 0 [x0,x1,x2,x3,x4,x5]) (HS w1 M As))(hb:fn.body=some c:=by rfl)(hl:Nat.ble 6 n=true:=by rfl):Calls P f #[x0,x1,x2,x3,x4,x5] w R:=enter (args:=[x0,x1,x2,x3,x4,x5]) hf hn hb hl hw h
end
theorem aU{p q:Prop}(hq:q)(h:(Unit->q)->p:=by(intro hq;first|refine QvV ?_|refine QqV ?_|refine QpJ ?_|refine QuL ?_|refine Qsb ?_|refine QvR ?_|refine oP ?_|refine oNo ?_|refine oFt ?_|refine oFf ?_|refine oFu ?_|refine o0t ?_|refine o0f ?_|refine oFa ?_|refine oLs ?_|refine oLd ?_|refine oLn ?_|refine oSt ?_);exact hq ()):p:=h λ_=>hq
theorem aT{p q:Prop}(hq:q)(h:(Unit->q)->p:=by(intro hq;refine aU ?_;try refine oWr ?_);exact hq ()):p:=h λ_=>hq
theorem aU2{p q:Prop}(hq:q)(h:(Unit->q)->p:=by(intro hq;iterate 2 refine aU ?_);exact hq ()):p:=h λ_=>hq
theorem aT2{p q:Prop}(hq:q)(h:(Unit->q)->p:=by(intro hq;(iterate 2 refine aU ?_);try refine oWr ?_);exact hq ()):p:=h λ_=>hq
theorem aU3{p q:Prop}(hq:q)(h:(Unit->q)->p:=by(intro hq;iterate 3 refine aU ?_);exact hq ()):p:=h λ_=>hq
theorem aT3{p q:Prop}(hq:q)(h:(Unit->q)->p:=by(intro hq;(iterate 3 refine aU ?_);try refine oWr ?_);exact hq ()):p:=h λ_=>hq
theorem aU4{p q:Prop}(hq:q)(h:(Unit->q)->p:=by(intro hq;iterate 4 refine aU ?_);exact hq ()):p:=h λ_=>hq
theorem aT4{p q:Prop}(hq:q)(h:(Unit->q)->p:=by(intro hq;(iterate 4 refine aU ?_);try refine oWr ?_);exact hq ()):p:=h λ_=>hq
theorem aU5{p q:Prop}(hq:q)(h:(Unit->q)->p:=by(intro hq;iterate 5 refine aU ?_);exact hq ()):p:=h λ_=>hq
theorem aT5{p q:Prop}(hq:q)(h:(Unit->q)->p:=by(intro hq;(iterate 5 refine aU ?_);try refine oWr ?_);exact hq ()):p:=h λ_=>hq
theorem aU6{p q:Prop}(hq:q)(h:(Unit->q)->p:=by(intro hq;iterate 6 refine aU ?_);exact hq ()):p:=h λ_=>hq
theorem aT6{p q:Prop}(hq:q)(h:(Unit->q)->p:=by(intro hq;(iterate 6 refine aU ?_);try refine oWr ?_);exact hq ()):p:=h λ_=>hq
theorem aU7{p q:Prop}(hq:q)(h:(Unit->q)->p:=by(intro hq;iterate 7 refine aU ?_);exact hq ()):p:=h λ_=>hq
theorem aT7{p q:Prop}(hq:q)(h:(Unit->q)->p:=by(intro hq;(iterate 7 refine aU ?_);try refine oWr ?_);exact hq ()):p:=h λ_=>hq
theorem aU8{p q:Prop}(hq:q)(h:(Unit->q)->p:=by(intro hq;iterate 8 refine aU ?_);exact hq ()):p:=h λ_=>hq
theorem aT8{p q:Prop}(hq:q)(h:(Unit->q)->p:=by(intro hq;(iterate 8 refine aU ?_);try refine oWr ?_);exact hq ()):p:=h λ_=>hq
theorem aU9{p q:Prop}(hq:q)(h:(Unit->q)->p:=by(intro hq;iterate 9 refine aU ?_);exact hq ()):p:=h λ_=>hq
theorem aT9{p q:Prop}(hq:q)(h:(Unit->q)->p:=by(intro hq;(iterate 9 refine aU ?_);try refine oWr ?_);exact hq ()):p:=h λ_=>hq
theorem Zo{p q:Prop}(hq:q)(h:(Unit->q)->p:=by(intro hq;iterate 10 refine aU ?_);exact hq ()):p:=h λ_=>hq
theorem QjE{p q:Prop}(hq:q)(h:(Unit->q)->p:=by(intro hq;(iterate 10 refine aU ?_);try refine oWr ?_);exact hq ()):p:=h λ_=>hq
theorem Zw{p q:Prop}(hq:q)(h:(Unit->q)->p:=by(intro hq;iterate 11 refine aU ?_);exact hq ()):p:=h λ_=>hq
theorem Zg{p q:Prop}(hq:q)(h:(Unit->q)->p:=by(intro hq;iterate 12 refine aU ?_);exact hq ()):p:=h λ_=>hq
theorem aT12{p q:Prop}(hq:q)(h:(Unit->q)->p:=by(intro hq;(iterate 12 refine aU ?_);try refine oWr ?_);exact hq ()):p:=h λ_=>hq
theorem Qa5{p q:Prop}(hq:q)(h:(Unit->q)->p:=by(intro hq;iterate 13 refine aU ?_);exact hq ()):p:=h λ_=>hq
theorem aT13{p q:Prop}(hq:q)(h:(Unit->q)->p:=by(intro hq;(iterate 13 refine aU ?_);try refine oWr ?_);exact hq ()):p:=h λ_=>hq
theorem QgE{p q:Prop}(hq:q)(h:(Unit->q)->p:=by(intro hq;iterate 14 refine aU ?_);exact hq ()):p:=h λ_=>hq
theorem aT14{p q:Prop}(hq:q)(h:(Unit->q)->p:=by(intro hq;(iterate 14 refine aU ?_);try refine oWr ?_);exact hq ()):p:=h λ_=>hq
theorem aU15{p q:Prop}(hq:q)(h:(Unit->q)->p:=by(intro hq;iterate 15 refine aU ?_);exact hq ()):p:=h λ_=>hq
theorem aU16{p q:Prop}(hq:q)(h:(Unit->q)->p:=by(intro hq;iterate 16 refine aU ?_);exact hq ()):p:=h λ_=>hq
theorem aT16{p q:Prop}(hq:q)(h:(Unit->q)->p:=by(intro hq;(iterate 16 refine aU ?_);try refine oWr ?_);exact hq ()):p:=h λ_=>hq
theorem aU17{p q:Prop}(hq:q)(h:(Unit->q)->p:=by(intro hq;iterate 17 refine aU ?_);exact hq ()):p:=h λ_=>hq
theorem aT17{p q:Prop}(hq:q)(h:(Unit->q)->p:=by(intro hq;(iterate 17 refine aU ?_);try refine oWr ?_);exact hq ()):p:=h λ_=>hq
theorem aU19{p q:Prop}(hq:q)(h:(Unit->q)->p:=by(intro hq;iterate 19 refine aU ?_);exact hq ()):p:=h λ_=>hq
end Gx
namespace Go.Proofs
open Go Go.RowKit Gx
instance:TSe Tryz.prog 28 3:=⟨Tryz.underlying28⟩
instance:TSe Tryz.prog 35 69:=⟨Tryz.underlying35⟩
instance:TSe Tryz.prog 67 27:=⟨Tryz.underlying67⟩
instance:TSe Tryz.prog 102 4:=⟨Tryz.underlying102⟩
instance:TSe Tryz.prog 139 5:=⟨Tryz.underlying139⟩
instance:TSe Tryz.prog 183 29:=⟨Tryz.underlying183⟩
/-- A call that answers v and writes to no old block. -/
abbrev CR(f:FuncId)(x:Array Value)(w:World)(v:Value):Prop:=Calls Tryz.prog f x w λen w'=>en=.returned v/\Below w.heap.size w w'
/-- A call that makes blocks. -/
abbrev CE{G:Type}(f:FuncId)(x:Array Value)(w:World)(M:List Nat)(V:G->Value)(F:G->Prop)(B:G->List HA):Prop:=Calls Tryz.prog f x w λen w'=>∃g,en=.returned (V g)/\F g/\HS w M (B g) w'
end Go.Proofs
/- What chapter 13's texts stand on. -/
namespace Go.Proofs
open Go Go.RowKit Gx
attribute [local irreducible] Go.Calls Gx.S Gx.O Gx.D Gx.OpP Gx.OpQ Gx.OpH
set_option maxRecDepth 20000
theorem Yt:tsl Tryz.prog 183=some (29,1,8):=by kernel_rfl
theorem Qrn:tsz Tryz.prog 29=some (1,false):=by kernel_rfl
instance:TFn Tryz.prog 182:=⟨by kernel_rfl⟩
theorem Qb1:QQ Tryz.prog 167=true:=by kernel_rfl
instance:TFn Tryz.prog 167:=⟨Qb1⟩
instance:TFn Tryz.prog 124:=⟨by kernel_rfl⟩
theorem ZP:XX Tryz.prog 29=some [.int .i64 0]:=by kernel_rfl
theorem Qgh:QQ Tryz.prog 125=true:=by kernel_rfl
instance:TFn Tryz.prog 125:=⟨Qgh⟩
instance:TFn Tryz.prog 40:=⟨by kernel_rfl⟩
theorem QnN(w:World)(n lo hi:Int):CR 182 #[.int .i64 n,.int .i64 lo,.int .i64 hi] w (.bool (decide (lo<=n)&&decide (n<=hi))):=by
 refine eN3 Tryz.func182 Tryz.ntmps182 ?_
 refine Zo ?_
 refine X0 4 10 14 rfl
  (λhg1 _=>by
   refine aU6 ?_
   exact oJt 4 14)
  (λhg3 _=>by
   refine aU3 ?_
   exact oJf 4 14) ?_
 refine aU2 ?_
 exact rV
theorem c40(w:World)(n lo hi:Int):CR 40 #[.int .i64 n,.int .i64 lo,.int .i64 hi] w (.bool (decide (lo<=n)&&decide (n<=hi))):=by
 refine eN3 Tryz.func40 Tryz.ntmps40 ?_
 refine Zo ?_
 refine X0 4 10 14 rfl
  (λhg1 _=>by
   refine aU6 ?_
   exact oJt 4 14)
  (λhg3 _=>by
   refine aU3 ?_
   exact oJf 4 14) ?_
 refine aU2 ?_
 exact rV
theorem QdM(w:World)(ok:Bool)(e:Int):CR 167 #[.bool ok,.int .i64 e] w (.int .i64 (cond ok 0 e)):=by
 refine eN2 Tryz.func167 Tryz.ntmps167 ?_
 refine aU9 ?_
 refine sCd rfl (λh1=>?_) λh1=>?_
 ·refine aU4 ?_
  exact rV (h:=by simp_all[Q3])
 refine aU6 ?_
 exact rV (h:=by simp_all[Q3])
theorem c125(w:World)(a:Option Addr)(cap:Nat)(es:List Int)(hs:Sl w [] a 1 es.length (λi=>[.int .i64 (es.getD i 0)]))(hm:es.length<=1000):CR 125 #[.slice a es.length cap] w (.int .i64 (Zb es)):=by
 refine eN1 Tryz.func125 Tryz.ntmps125 ?_
 refine Zg ?_
 refine Qo (α:=Nat) [2,4,7,8,9,10,11,12,13,14] (λk=>[(7,.int .i64 (k:Int))]) (λ_=>_) (λk=>k<=es.length/\Zb es=Zb (es.drop k)) (λk=>es.length-k) 0 ⟨om,rfl⟩ aSx (λw h=>h) (λk hk=>?_)
 obtain⟨hk1,hk2⟩:=hk
 refine aU5 ?_
 refine sCd rfl (λh1=>?_) λh1=>?_
 ·refine aU5 ?_
  refine o_p (Qa rfl rfl rfl Yt _ rfl om (hs.some om)) rfl (o_q (Qc rfl rfl Qrn (hs.rd (i:=k) (j:=0) om rfl)) rfl (aU7 ?_))
  refine sCd rfl (λh2=>?_) λh2=>?_
  ·refine aU5 ?_
   exact rV (h:=by simp only[Q3];rw[hk2,Zq om,if_neg (by assumption)])
  refine aT4 ?_
  refine aU2 ?_
  exact QK (k+1) om ⟨om,by rw[hk2,Zq om,if_pos (by assumption)]⟩ aSx (λw h=>h)
 refine Qh rfl ?_
 refine aU4 ?_
 exact rV (h:=by simp only[Q3];rw[hk2,Qdy om])
theorem Qog{w0 w:World}{M:List Nat}{As As':List HA}{b cap n:Nat}{t:TypeId}{tot:Nat}{cs:List Value}(h:HS w0 M As w)(hp:QD As (.blk b t tot cs) As')(hc:cs.all Qhf=true)(hn:cs.length=n)(hl:n<=1000) :
    Calls Tryz.prog 125 #[.slice (some ⟨b,0,none⟩) n cap] w λen w'=>en=.returned (.int .i64 (Xs cs))/\Below w.heap.size w w':=by
  subst hn;have:=c125 w (some ⟨b,0,none⟩) cap (cs.map Go.RowKit.intOf) (by simpa using h.sl_ints hp hc) (by simpa using hl);rw[Qc3 hc]at this
  simpa using this
theorem c124(w:World)(n:Int):CR 124 #[.int .i64 n] w (.int .i64 (QC n)):=by
 refine eN1 Tryz.func124 Tryz.ntmps124 ?_
 refine aU7 ?_
 refine oCq rfl (λw1 h1=>QnN w1 _ _ _) (oCq rfl (λw1 h1=>QdM w1 _ _) (aU2 ?_))
 exact rV (h:=by simp only[Q3,QC,cond_eq_ite,Bool.and_eq_true,decide_eq_true_eq])
theorem Qb4{a b:Int}:Xs [.int .i64 a,.int .i64 b]=if a=0 then b else a:=by
  simp only[Xs]
  grind
theorem c155(w:World)(co mo rm:Int):CR 155 #[.int .i64 co,.int .i64 mo,.int .i64 rm] w (.int .i64 (if QC co=0 then XI mo rm else QC co)):=by
 refine eN3 Tryz.func155 Tryz.ntmps155 ?_
 refine aU7 ?_
 refine oCq rfl (λw1 h1=>QnN w1 _ _ _) (aU ?_)
 refine X0 6 10 16 rfl
  (λhg1 _=>by
   refine aU5 ?_
   refine o_p (XC rfl rfl rfl om om om) rfl (aU3 ?_)
   refine oCq rfl (λw1 h1=>QnN w1 _ _ _) ?_
   exact oJt 6 16)
  (λhg3 _=>by
   refine aU5 ?_
   exact oJf 6 16) ?_
 refine aU5 ?_
 refine oCq rfl (λw1 h1=>c124 w1 _) (aU ?_)
 refine oCq rfl (λw1 h1=>QdM w1 _ _) (o_h (Qg (cs:=[_,_]) rfl rfl Yt ZP rfl rfl rfl) rfl (λb5 _=>oCq rfl (λw1 h1=>Qog h1 aPk (by rfl) (by rfl) (by decide)) (aU2 ?_)))
 exact rV (h:=by simp only[Q3];rw[Qb4];simp only[XI,cond_eq_ite,Bool.and_eq_true,decide_eq_true_eq])
theorem c96(w:World)(n:Int):CR 96 #[.int .i64 n] w (.int .i64 (QC n)):=by
 refine eN1 Tryz.func96 Tryz.ntmps96 ?_
 refine aU8 ?_
 refine oCq rfl (λw1 h1=>c40 w1 _ _ _) (aU2 ?_)
 refine sCd rfl (λh1=>?_) λh1=>?_
 ·have hz:QC n=15:=by have hq:=h1;unfold QC;rw[if_neg (by first|omega|(simp at hq;omega))]
  refine aU4 ?_
  exact rV (h:=by rw[hz];rfl)
 have hz:QC n=0:=by have hq:=h1;unfold QC;rw[if_pos (by first|omega|(simp at hq;omega))]
 refine aU5 ?_
 exact rV (h:=by rw[hz];rfl)
theorem c97(w:World)(mo rm:Int):CR 97 #[.int .i64 mo,.int .i64 rm] w (.int .i64 (XI mo rm)):=by
 refine eN2 Tryz.func97 Tryz.ntmps97 ?_
 refine aU8 ?_
 refine oCq rfl (λw1 h1=>c40 w1 _ _ _) (aU2 ?_)
 refine oOr 7 8 15 rfl
  (λhg1 _=>by
   refine aU5 ?_
   refine o_p (XC rfl rfl rfl om om om) rfl (aU3 ?_)
   refine oCq rfl (λw1 h1=>c40 w1 _ _ _) (aU2 ?_)
   exact oJf 7 15)
  (λhg3 _=>by
   refine aU6 ?_
   exact oJt 7 15) ?_
 refine aU ?_
 refine sCd rfl (λh5=>?_) λh5=>?_
 ·have hz:XI mo rm=2:=by have hq:=h5;unfold XI;rw[if_neg (by first|omega|(simp at hq;omega))]
  refine aU4 ?_
  exact rV (h:=by rw[hz];rfl)
 have hz:XI mo rm=0:=by have hq:=h5;unfold XI;rw[if_pos (by first|omega|(simp at hq;omega))]
 refine aU5 ?_
 exact rV (h:=by rw[hz];rfl)
end Go.Proofs
namespace Go.Proofs
open Go Go.RowKit Gx
theorem Qww{α:Type}[Inhabited α]{vals:α->List Value}{sz n:Nat}{W:World}{a:Option Addr}{cell:Nat->List Value}{Q:α->Prop}(hs:Sl W [] a sz n cell)(hr:∀i,i<n->∃x,cell i=vals x/\Q x):∃l:List α,n=l.length/\Rw vals sz W [] a l/\(∀x∈l,Q x)/\∀i,i<n->cell i=vals (nth l i):=by
 have hr2:∀i,∃x,i<n->cell i=vals x/\Q x:=λi=>by
  by_cases hi:i<n
  ·obtain⟨x,h⟩:=hr i hi;exact⟨x,λ_=>h⟩
  ·exact⟨default,λh=>absurd h hi⟩
 obtain⟨f,hf⟩:=Classical.axiomOfChoice hr2
 have hg:∀i,i<n->nth ((List.range n).map f) i=f i:=λi hi=>by
  simp only[nth,List.getD_eq_getElem?_getD,List.getElem?_map,List.getElem?_range hi,Option.map_some,Option.getD_some]
 refine⟨(List.range n).map f,by simp,⟨λhn=>?_⟩,λx hx=>?_,λi hi=>?_⟩
 ·rw[List.length_map,List.length_range]at hn;obtain⟨b,o,e,h2⟩:=hs.at_ hn;refine⟨b,o,e,λi hi=>?_⟩;rw[List.length_map,List.length_range]at hi;have h3:=h2 i hi;rw[(hf i hi).1]at h3;rw[hg i hi];exact h3
 ·obtain⟨i,hi,rfl⟩:=List.mem_map.1 hx;exact(hf i (List.mem_range.1 hi)).2
 ·rw[hg i hi];exact(hf i hi).1
end Go.Proofs
namespace Gx
open Go Go.RowKit
def ub1(s:List UInt8)(i:Nat):Nat:=(s.getD i 0).toNat
def ub2(s:List UInt8)(i:Nat):Nat:=ub1 s i+ub1 s (i+1)*256
def ub4(s:List UInt8)(i:Nat):Nat:=ub2 s i+ub2 s (i+2)*65536
theorem QkB(s:List UInt8)(i:Nat):at1 s i=(ub1 s i:Int):=rfl
theorem Qdv(s:List UInt8)(i:Nat):at2 s i=(ub2 s i:Int):=by simp only[at2,ub2,QkB];omega
theorem Qf1(s:List UInt8)(i:Nat):at4 s i=(ub4 s i:Int):=by simp only[at4,ub4,Qdv];omega
theorem YC(s:List UInt8)(i:Nat):ub1 s i<256:=UInt8.toNat_lt _
theorem Qds(s:List UInt8)(i:Nat):ub2 s i<65536:=by have:=YC s i;have:=YC s (i+1);unfold ub2;omega
theorem Qnp(s:List UInt8)(i:Nat):ub4 s i<4294967296:=by have:=Qds s i;have:=Qds s (i+2);unfold ub4;omega
theorem Qml(s:List UInt8)(k i:Nat):ub1 (s.drop k) i=ub1 s (k+i):=by grind[ub1]
def Q5(n:Nat):Nat:=(n+7)/8*8
theorem Yx(n:Nat):n<=Q5 n/\Q5 n<n+8:=by unfold Q5;omega
def Qs(s:List UInt8)(i n:Nat):List UInt8:=(s.drop i).take n
theorem Xw{s:List UInt8}{i n:Nat}(h:i+n<=s.length):(Qs s i n).length=n:=by simp only[Qs,List.length_take,List.length_drop];omega
theorem QeN(s:List UInt8)(k i n:Nat):Qs (s.drop k) i n=Qs s (k+i) n:=by simp only[Qs,List.drop_drop]
theorem Yl{s:List UInt8}{i n j:Nat}(h:j<n):(Qs s i n)[j]?=s[i+j]?:=by simp only[Qs,List.getElem?_take,h,if_true,List.getElem?_drop]
theorem XF(s:List UInt8)(i n m:Nat):Qs s i (n+m)=Qs s i n++Qs s (i+n) m:=by
 simp only[Qs,List.take_add,List.drop_drop]
def zer(l:List UInt8):Bool:=l.all λb=>decide (b=0)
theorem QaU(l:List UInt8):zer l=true ↔ l=List.replicate l.length 0:=by
 simp only[zer,List.all_eq_true,decide_eq_true_eq];constructor
 ·intro h;exact List.eq_replicate_iff.2 ⟨rfl,h⟩
 grind
theorem QcT(n:Nat):zer (List.replicate n 0)=true:=by rw[QaU];simp
def TEnt.sz(x:TEnt):Nat:=8+x.key.length+x.val.length
def YG(x:TEnt)(c:Int):List UInt8:=le2 (Q5 x.sz:Nat)++[by8 x.key.length,by8 x.val.length]++le4 c++x.key++x.val++List.replicate (Q5 x.sz-x.sz) 0
def Qbg(c:Int):List UInt8:=le2 8++[0,0]++le4 c
theorem Qf6(x:TEnt)(c:Int):(YG x c).length=Q5 x.sz:=by
 have:=Yx x.sz;have h:x.sz=8+x.key.length+x.val.length:=rfl
 grind[YG,le2,le4]
theorem QdZ(c:Int):(Qbg c).length=8:=rfl
theorem Qk3(s:List UInt8)(i:Nat):by8 (ub1 s i:Int)=s.getD i 0:=by
 have:=YC s i;unfold by8;rw[show((ub1 s i:Int)%256).toNat=(s.getD i 0).toNat by unfold ub1 at *;omega];simp
theorem Qub(s:List UInt8)(i:Nat):le2 (ub2 s i:Int)=[s.getD i 0,s.getD (i+1) 0]:=by grind[YC,le2,QdB,ub2,ub1,Qk3]
theorem Quk(s:List UInt8)(i:Nat):le4 (ub4 s i:Int)=[s.getD i 0,s.getD (i+1) 0,s.getD (i+2) 0,s.getD (i+3) 0]:=by
 have h1:=YC s i;have h2:=YC s (i+1);have h3:=YC s (i+2);have h4:=YC s (i+3);have e:ub4 s i=ub1 s i+ub1 s (i+1)*256+(ub1 s (i+2)+ub1 s (i+3)*256)*65536:=rfl;simp only[le4];rw[QdB (m:=(ub4 s i:Int)) (n:=(ub1 s i:Int)) om,QdB (m:=(ub4 s i:Int)/256) (n:=(ub1 s (i+1):Int)) om,QdB (m:=(ub4 s i:Int)/65536) (n:=(ub1 s (i+2):Int)) om,QdB (m:=(ub4 s i:Int)/16777216) (n:=(ub1 s (i+3):Int)) om];simp only[Qk3]
theorem Qc6{s:List UInt8}{i n:Nat}(h:i<s.length):Qs s i (n+1)=s.getD i 0::Qs s (i+1) n:=by
 simp only[Qs];rw[List.drop_eq_getElem_cons h,List.take_succ_cons,List.getD_eq_getElem?_getD,List.getElem?_eq_getElem h];rfl
theorem QcV(s:List UInt8)(i:Nat):Qs s i 0=[]:=by simp[Qs]
theorem QgW{s:List UInt8}{i:Nat}(h:i+2<=s.length):Qs s i 2=le2 (ub2 s i:Int):=by grind[Qub,Qc6,QcV]
theorem QiK{s:List UInt8}{i:Nat}(h:i+4<=s.length):Qs s i 4=le4 (ub4 s i:Int):=by grind[Quk,Qc6,QcV]
theorem QmR{a b:Int}(h:by8 a=by8 b):a%256=b%256:=by grind[QY]
theorem QrE{a b:Int}(h:le2 a=le2 b):a%65536=b%65536:=by grind[le2,QmR]
theorem QrH{a b:Int}(h:le4 a=le4 b):a%4294967296=b%4294967296:=by grind[le4,QmR]
def Xp(s:List UInt8)(p:Nat):TEnt:=⟨Qs s (p+8) (ub1 s (p+2)),Qs s (p+8+ub1 s (p+2)) (ub1 s (p+3))⟩
def XA(s:List UInt8)(p:Nat):Nat:=8+ub1 s (p+2)+ub1 s (p+3)
def Yq(x:TEnt)(c:Nat):Bool:=decide (1<=x.key.length/\x.key.length<=40/\x.val.length<=64/\x.key.length+x.val.length<=88/\c<=120)
def ZL(s:List UInt8)(p:Nat):Bool:=decide (p+8<=s.length/\ub2 s p=Q5 (XA s p)/\p+ub2 s p<=s.length)&&(zer (Qs s (p+XA s p) (ub2 s p-XA s p))&&Yq (Xp s p) (ub4 s (p+4)))
theorem QdV{s:List UInt8}{p:Nat}(h:p+XA s p<=s.length):(Xp s p).sz=XA s p/\(Xp s p).key.length=ub1 s (p+2)/\(Xp s p).val.length=ub1 s (p+3):=by grind[XA,Xp,ub1,Xw,TEnt.sz]
theorem Qsh{s:List UInt8}{p:Nat}(h:p+XA s p<=s.length):Qs s p (XA s p)=le2 (ub2 s p:Int)++[by8 (ub1 s (p+2):Int),by8 (ub1 s (p+3):Int)]++le4 (ub4 s (p+4):Int)++(Xp s p).key++(Xp s p).val:=by
 have h9:XA s p=2+(1+(1+(4+(ub1 s (p+2)+ub1 s (p+3))))):=by unfold XA;omega
 unfold XA at h;rw[h9,XF,QgW om,XF,show(1:Nat)=0+1 from rfl,Qc6 om,QcV,XF,show(1:Nat)=0+1 from rfl,Qc6 om,QcV,XF,QiK om,XF]
 grind[Qk3,Xp]
theorem Qmq{s:List UInt8}{p:Nat}(hn:p+ub2 s p<=s.length)(ht:XA s p<=ub2 s p):(YG (Xp s p) (ub4 s (p+4):Int)=Qs s p (ub2 s p)) ↔ (ub2 s p=Q5 (XA s p)/\zer (Qs s (p+XA s p) (ub2 s p-XA s p))=true):=by
 obtain⟨e1,e2,e3⟩:=QdV (s:=s) (p:=p) om;have hh:=Qsh (s:=s) (p:=p) om;have hlt:=Qds s p;have hk:=YC s (p+2);have hv:=YC s (p+3);have hp:=Yx (XA s p);have hs:XA s p=8+ub1 s (p+2)+ub1 s (p+3):=rfl;have hsplit:Qs s p (ub2 s p)=Qs s p (XA s p)++Qs s (p+XA s p) (ub2 s p-XA s p):=by rw[<-XF];congr 1;omega
 have hlen:(Qs s (p+XA s p) (ub2 s p-XA s p)).length=ub2 s p-XA s p:=Xw om;have hE:YG (Xp s p) (ub4 s (p+4):Int)=le2 (Q5 (XA s p):Nat)++([by8 (ub1 s (p+2):Int),by8 (ub1 s (p+3):Int)]++le4 (ub4 s (p+4):Int)++(Xp s p).key++(Xp s p).val++List.replicate (Q5 (XA s p)-XA s p) 0):=by grind[YG]
 have hS:Qs s p (ub2 s p)=le2 (ub2 s p:Nat)++([by8 (ub1 s (p+2):Int),by8 (ub1 s (p+3):Int)]++le4 (ub4 s (p+4):Int)++(Xp s p).key++(Xp s p).val++Qs s (p+XA s p) (ub2 s p-XA s p)):=by grind
 constructor
 ·intro h;rw[hE,hS]at h;obtain⟨h1,h2⟩:=List.append_inj h rfl;have h3:=QrE h1;have h4:ub2 s p=Q5 (XA s p):=by omega
  refine⟨h4,?_⟩;have h5:=List.append_cancel_left h2;rw[<-h5];exact QcT _
 grind[QaU]
theorem QmJ{s:List UInt8}{p:Nat}(h8:p+8<=s.length)(hn:p+ub2 s p<=s.length)(ht:XA s p<=ub2 s p):(Qbg (ub4 s (p+4):Int)=Qs s p (ub2 s p)) ↔ (ub2 s p=8/\ub2 s (p+2)=0):=by
 have hs:XA s p=8+ub1 s (p+2)+ub1 s (p+3):=rfl;have hd:ub2 s (p+2)=ub1 s (p+2)+ub1 s (p+3)*256:=rfl
 have h4:Qs s p 8=le2 (ub2 s p:Int)++(le2 (ub2 s (p+2):Int)++le4 (ub4 s (p+4):Int)):=by
  rw[show 8=2+(2+4)from rfl,XF,QgW om,XF,QgW om,QiK om]
 constructor
 ·grind[QdZ,Xw]
 ·rintro⟨h1,h2⟩;rw[h1,h4,h1,h2];rfl
structure RdS where
 es:List TEnt
 cs:List Int
 p:Nat
def rdE(s:List UInt8)(p0:Nat):Nat->Option RdS
 | 0=>some ⟨[],[],p0⟩
 | k+1=>match rdE s p0 k with
  | none=>none
  | some r=>if ZL s r.p then some ⟨r.es++[Xp s r.p],r.cs++[(ub4 s (r.p+4):Int)],r.p+ub2 s r.p⟩else none
def Zu(s:List UInt8)(p:Nat):Bool:=decide (p+8<=s.length/\ub2 s p=8/\ub2 s (p+2)=0/\ub4 s (p+4)<=120)
def noz(l:List Int):Bool:=l.all λc=>decide (c≠0)
def QdD(l:List Int):Bool:=l.all λc=>decide (c=0)
def rdN(s:List UInt8)(p0 k:Nat):Option (Nd×Nat):=match rdE s p0 k with
 | none=>none
 | some r=>if Zu s r.p then(if noz (r.cs++[(ub4 s (r.p+4):Int)])then some (⟨true,r.es,r.cs++[(ub4 s (r.p+4):Int)]⟩,r.p+8)else if QdD (r.cs++[(ub4 s (r.p+4):Int)])then some (⟨true,r.es,[]⟩,r.p+8)else none)else none
theorem QpF{s:List UInt8}{p0 k:Nat}(h:rdE s p0 k=none):∀j,k<=j->rdE s p0 j=none:=by
 intro j hj
 induction j<;>grind[rdE]
theorem QuT{s:List UInt8}{p0 k j:Nat}{r:RdS}(h:rdE s p0 k=some r)(hs:ZL s r.p=false)(hj:k<j):rdE s p0 j=none:=
 QpF (k:=k+1) (by simp only[rdE,h,hs];rfl) j hj
theorem QcN{s:List UInt8}{p0 k:Nat}{r:RdS}(h:rdE s p0 k=some r)(hs:ZL s r.p=true):rdE s p0 (k+1)=some ⟨r.es++[Xp s r.p],r.cs++[(ub4 s (r.p+4):Int)],r.p+ub2 s r.p⟩:=by grind[rdE]
theorem Zp{s:List UInt8}{p:Nat}:ZL s p=true ↔ (p+8<=s.length/\ub2 s p=Q5 (XA s p)/\p+ub2 s p<=s.length)/\zer (Qs s (p+XA s p) (ub2 s p-XA s p))=true/\Yq (Xp s p) (ub4 s (p+4))=true:=by grind[ZL]
theorem QbK{s:List UInt8}{p0:Nat}(h0:p0<=s.length):∀{k:Nat}{r:RdS},rdE s p0 k=some r->r.es.length=k/\r.cs.length=k/\p0<=r.p/\r.p<=s.length/\r.p<=p0+96*k/\(∀x∈r.es,Yq x 0=true)/\∀c∈r.cs,0<=c/\c<=120
 | 0,r,h=>by
  injection h with h
  grind
 | k+1,r,h=>by
  cases hk:rdE s p0 k with
  | none=>simp only[rdE,hk]at h;cases h
  | some q=>
   obtain⟨h1,h2,h3,h4,h5,h6,h7⟩:=QbK h0 hk;cases hs:ZL s q.p with
   | false=>simp only[rdE,hk,hs]at h;cases h
   | true=>
    rw[QcN hk hs]at h;injection h with h
    subst h;obtain⟨⟨g1,g2,g3⟩,g4,g5⟩:=Zp.1 hs
    grind[Yx,XA,QdV,Yq,ub1,Q5]
def XN(cs:List Int)(i:Nat):Int:=if cs.length=0 then 0 else cs.getD i 0
def Xh(n:Nd):Nat->List UInt8
 | 0=>[]
 | k+1=>Xh n k++YG (nth n.es k) (XN n.cs k)
def XK(n:Nd):List UInt8:=Xh n n.es.length++Qbg (XN n.cs n.es.length)
theorem Qh6{s:List UInt8}{p0:Nat}(h0:p0<=s.length){n:Nd}:∀{k:Nat}{r:RdS},rdE s p0 k=some r->k<=n.es.length->(∀i,i<k->nth n.es i=nth r.es i/\XN n.cs i=r.cs.getD i 0)->Xh n k=Qs s p0 (r.p-p0)
 | 0,r,h,_,_=>by
  injection h with h
  subst h;simp[Xh,Qs]
 | k+1,r,h,hk,hn=>by
  cases hq:rdE s p0 k with
  | none=>simp only[rdE,hq]at h;cases h
  | some q=>
   obtain⟨h1,h2,h3,h4,_⟩:=QbK h0 hq;cases hs:ZL s q.p with
   | false=>simp only[rdE,hq,hs]at h;cases h
   | true=>
    rw[QcN hq hs]at h;injection h with h
    subst h;obtain⟨⟨g1,g2,g3⟩,g4,g5⟩:=Zp.1 hs;have hp:=Yx (XA s q.p)
    have ih:=Qh6 h0 (n:=n) hq om (λi hi=>by
     obtain⟨a1,a2⟩:=hn i om;rw[a1,a2];constructor
     ·unfold nth;rw[List.getD_eq_getElem?_getD,List.getElem?_append_left om,<-List.getD_eq_getElem?_getD]
     ·rw[List.getD_eq_getElem?_getD,List.getElem?_append_left om,<-List.getD_eq_getElem?_getD])
    obtain⟨a1,a2⟩:=hn k om;have ub1':nth (q.es++[Xp s q.p]) k=Xp s q.p:=by grind[nth]
    have ub2':(q.cs++[(ub4 s (q.p+4):Int)]).getD k 0=(ub4 s (q.p+4):Int):=by grind
    rw[Xh,ih,a1,a2,ub1',ub2',(Qmq g3 om).2 ⟨g2,g4⟩];simp only[];rw[show q.p+ub2 s q.p-p0=(q.p-p0)+ub2 s q.p by omega,XF,show p0+(q.p-p0)=q.p by omega]
theorem Qef{s:List UInt8}{p0 k:Nat}(h0:p0<=s.length){n:Nd}{e:Nat}(h:rdN s p0 k=some (n,e)):XK n=Qs s p0 (e-p0)/\p0+8<=e/\e<=s.length/\e<=p0+96*k+8/\n.us=true/\n.es.length=k/\(n.cs.length=0\/n.cs.length=k+1)/\(∀x∈n.es,Yq x 0=true)/\∀c∈n.cs,1<=c/\c<=120:=by
 unfold rdN at h;cases hq:rdE s p0 k with
 | none=>rw[hq]at h;cases h
 | some r=>
  rw[hq]at h;simp only[]at h;obtain⟨h1,h2,h3,h4,h5,h6,h7⟩:=QbK h0 hq;split at h
  ·rename_i he;simp only[Zu,decide_eq_true_eq]at he;obtain⟨g1,g2,g3,g4⟩:=he;have hb2:ub2 s (r.p+2)=ub1 s (r.p+2)+ub1 s (r.p+3)*256:=rfl;have hsz:XA s r.p=8+ub1 s (r.p+2)+ub1 s (r.p+3):=rfl;have hend:=(QmJ (s:=s) (p:=r.p) g1 om om).2 ⟨g2,g3⟩;rw[g2]at hend
   have hfin:Qs s p0 (r.p+8-p0)=Qs s p0 (r.p-p0)++Qs s r.p 8:=by
    rw[show r.p+8-p0=(r.p-p0)+8 by omega,XF,show p0+(r.p-p0)=r.p by omega]
   split at h
   ·rename_i hz;injection h with h
    injection h with e1 e2
    subst e1 e2
    grind[XN,ub4,XK,Qh6,hi,noz]
   ·split at h
    ·rename_i hz;injection h with h
     injection h with e1 e2
     subst e1 e2;refine⟨?_,om,om,om,rfl,h1,.inl rfl,h6,by simp⟩
     have hall:∀i,i<=k->(r.cs++[(ub4 s (r.p+4):Int)]).getD i 0=0:=λi hi=>by
      simp only[QdD,List.all_eq_true,decide_eq_true_eq]at hz;have hl:i<(r.cs++[(ub4 s (r.p+4):Int)]).length:=by simp;omega
      have:=hz _ (List.getElem_mem hl);rw[List.getD_eq_getElem?_getD,List.getElem?_eq_getElem hl];exact this
     have hlast:=hall k (Nat.le_refl _);rw[List.getD_eq_getElem?_getD,List.getElem?_append_right om,h2,Nat.sub_self]at hlast;have hlast:(ub4 s (r.p+4):Int)=0:=hlast;unfold XK;simp only[]
     rw[h1,Qh6 h0 (n:=⟨true,r.es,[]⟩) hq (Nat.le_of_eq h1.symm) (λi hi=>⟨rfl,by
      have:=hall i om;rw[List.getD_eq_getElem?_getD,List.getElem?_append_left om,<-List.getD_eq_getElem?_getD]at this;rw[this];rfl⟩),hfin,<-hend,hlast]
     rfl
    ·cases h
  ·cases h
theorem Qda{s:List UInt8}{i n j m:Nat}(h:j+m<=n):Qs (Qs s i n) j m=Qs s (i+j) m:=by
 simp only[Qs,List.drop_take,List.take_take,List.drop_drop]
 grind
theorem Qqj{s:List UInt8}{p n j:Nat}(h:j<n):ub1 (Qs s p n) j=ub1 s (p+j):=by grind[ub1,Yl]
theorem QfX{s:List UInt8}{p n j:Nat}(h:j+1<n):ub2 (Qs s p n) j=ub2 s (p+j):=by grind[ub2,Qqj]
theorem Qk2{s:List UInt8}{p n j:Nat}(h:j+3<n):ub4 (Qs s p n) j=ub4 s (p+j):=by grind[ub4,QfX]
theorem Qwg(x:TEnt)(c:Int)(hs:x.sz<60000)(hk:x.key.length<256)(hv:x.val.length<256)(hc:0<=c/\c<4294967296):ub2 (YG x c) 0=Q5 x.sz/\ub1 (YG x c) 2=x.key.length/\ub1 (YG x c) 3=x.val.length/\(ub4 (YG x c) 4:Int)=c:=by
 have hp:=Yx x.sz;have e0:ub1 (YG x c) 0=(by8 (Q5 x.sz:Nat)).toNat:=rfl;have e1:ub1 (YG x c) 1=(by8 ((Q5 x.sz:Nat)/256:Int)).toNat:=rfl;have e2:ub1 (YG x c) 2=(by8 (x.key.length:Int)).toNat:=rfl;have e3:ub1 (YG x c) 3=(by8 (x.val.length:Int)).toNat:=rfl;have e4:ub1 (YG x c) 4=(by8 c).toNat:=rfl;have e5:ub1 (YG x c) 5=(by8 (c/256)).toNat:=rfl;have e6:ub1 (YG x c) 6=(by8 (c/65536)).toNat:=rfl;have e7:ub1 (YG x c) 7=(by8 (c/16777216)).toNat:=rfl;have f0:=QY (Q5 x.sz:Nat);have f1:=QY ((Q5 x.sz:Nat)/256:Int);have f2:=QY (x.key.length:Int);have f3:=QY (x.val.length:Int);have f4:=QY c;have f5:=QY (c/256);have f6:=QY (c/65536);have f7:=QY (c/16777216);refine⟨?_,?_,?_,?_⟩
 ·grind[ub2]
 ·rw[e2];omega
 ·rw[e3];omega
 ·unfold ub4 ub2;simp only[Nat.reduceAdd];rw[e4,e5,e6,e7];omega
theorem QlT{A B C:List UInt8}{i n:Nat}(hi:A.length=i)(hn:B.length=n):Qs (A++(B++C)) i n=B:=by grind[Qs,hi]
theorem QrM(x:TEnt)(c:Int):Qs (YG x c) 8 x.key.length=x.key:=by grind[YG,le2,Q5,by8,le4,QlT]
theorem QrT(x:TEnt)(c:Int):Qs (YG x c) (8+x.key.length) x.val.length=x.val:=by grind[YG,le2,Q5,by8,le4,Qs]
theorem QpW(x:TEnt)(c:Int):Qs (YG x c) x.sz (Q5 x.sz-x.sz)=List.replicate (Q5 x.sz-x.sz) 0:=by
 have:YG x c=(le2 (Q5 x.sz:Nat)++[by8 x.key.length,by8 x.val.length]++le4 c++x.key++x.val)++(List.replicate (Q5 x.sz-x.sz) 0++[]):=by simp only[YG,List.append_nil]
 grind[QlT,TEnt.sz,le2,le4]
theorem Qty{s:List UInt8}{p:Nat}{x:TEnt}{c:Int}(hw:Qs s p (Q5 x.sz)=YG x c)(hl:p+Q5 x.sz<=s.length)(hk:Yq x c.toNat=true)(hc:0<=c):ZL s p=true/\Xp s p=x/\(ub4 s (p+4):Int)=c/\ub2 s p=Q5 x.sz:=by
 have hkk:=hk;simp only[Yq,decide_eq_true_eq]at hk;have hsz:x.sz=8+x.key.length+x.val.length:=rfl;have hp:=Yx x.sz;obtain⟨a0,a2,a3,a4⟩:=Qwg x c om om om om;rw[<-hw,QfX om,Nat.add_zero]at a0;rw[<-hw,Qqj om]at a2 a3;rw[<-hw,Qk2 om]at a4
 have e:Xp s p=x:=by
  have k1:=QrM x c;have k2:=QrT x c;rw[<-hw,Qda om]at k1 k2;unfold Xp;rw[a2,a3,k1,show p+8+x.key.length=p+(8+x.key.length) by omega,k2]
 grind[XA,Zp,QpW,Qda,QcT,ub4]
theorem QtI{s:List UInt8}{p:Nat}{c:Int}(hw:Qs s p 8=Qbg c)(hl:p+8<=s.length)(hc:0<=c/\c<=120):Zu s p=true/\(ub4 s (p+4):Int)=c:=by
 have f4:=QY c;have f5:=QY (c/256);have f6:=QY (c/65536);have f7:=QY (c/16777216)
 have e0:ub2 (Qbg c) 0=8:=by
  show(by8 8).toNat+(by8 (8/256)).toNat*256=8;decide
 have e2:ub2 (Qbg c) 2=0:=by
  show(0:UInt8).toNat+(0:UInt8).toNat*256=0;decide
 have e4:ub4 (Qbg c) 4=(by8 c).toNat+(by8 (c/256)).toNat*256+((by8 (c/65536)).toNat+(by8 (c/16777216)).toNat*256)*65536:=by
  have g0:ub1 (Qbg c) 4=(by8 c).toNat:=rfl;have g1:ub1 (Qbg c) 5=(by8 (c/256)).toNat:=rfl;have g2:ub1 (Qbg c) 6=(by8 (c/65536)).toNat:=rfl;have g3:ub1 (Qbg c) 7=(by8 (c/16777216)).toNat:=rfl
  grind[ub4,ub2]
 grind[QfX,Qk2,ub4,Zu]
structure NdW(n:Nd):Prop where
 us:n.us=true
 es:∀x∈n.es,Yq x 0=true
 cl:n.cs.length=0\/n.cs.length=n.es.length+1
 cs:∀c∈n.cs,1<=c/\c<=120
theorem NdW.kid{n:Nd}(h:NdW n){i:Nat}(hi:i<=n.es.length):0<=XN n.cs i/\XN n.cs i<=120/\(n.cs.length=0->XN n.cs i=0)/\(n.cs.length≠0->XN n.cs i=n.cs.getD i 0/\XN n.cs i≠0):=by
 unfold XN
 by_cases h0:n.cs.length=0
 ·grind
 ·rw[if_neg h0];have hl:i<n.cs.length:=by have:=h.cl;omega
  have h1:=h.cs _ (List.getElem_mem hl)
  grind
theorem QgM(n:Nd):∀k j,(Xh n k).length<=(Xh n (k+j)).length
 | k,0=>Nat.le_refl _
 | k,j+1=>by
  have:=QgM n k j
  grind[Xh]
theorem QhE(n:Nd):∀k j,Qs (Xh n (k+j)) 0 (Xh n k).length=Xh n k
 | k,0=>by simp[Qs]
 | k,j+1=>by
  have ih:=QhE n k j;have hl:=QgM n k j;show Qs (Xh n (k+j)++_) 0 _=_;unfold Qs at ih ⊢;rw[List.drop_zero]at ih ⊢;rw[List.take_append_of_le_length hl];exact ih
theorem Qj5{s:List UInt8}{p0:Nat}{n:Nd}(hn:NdW n)(hl:p0+(Xh n n.es.length).length<=s.length)(hw:Qs s p0 (Xh n n.es.length).length=Xh n n.es.length):∀k,k<=n.es.length->rdE s p0 k=some ⟨n.es.take k,(List.range k).map (XN n.cs),p0+(Xh n k).length⟩
 | 0,_=>by simp[rdE,Xh]
 | k+1,hk=>by
  have ih:=Qj5 hn hl hw k om;have hx:=hn.es _ (List.getElem_mem (show k<n.es.length by omega));have hxe:nth n.es k=n.es[k]:=QS (by rw[List.getElem?_eq_getElem (show k<n.es.length by omega)]);obtain⟨c1,c2,_,_⟩:=hn.kid (i:=k) om;have hle:=QgM n (k+1) (n.es.length-(k+1));rw[show k+1+(n.es.length-(k+1))=n.es.length by omega]at hle;have hlk:(Xh n (k+1)).length=(Xh n k).length+Q5 (nth n.es k).sz:=by grind[Xh,Qf6]
  have hpre:=QhE n (k+1) (n.es.length-(k+1));rw[show k+1+(n.es.length-(k+1))=n.es.length by omega,<-hw,Qda om,Nat.add_zero]at hpre
  have hwin:Qs s (p0+(Xh n k).length) (Q5 (nth n.es k).sz)=YG (nth n.es k) (XN n.cs k):=by
   rw[hlk,XF]at hpre;have h2:Qs s p0 (Xh n k).length++Qs s (p0+(Xh n k).length) (Q5 (nth n.es k).sz)=Xh n k++YG (nth n.es k) (XN n.cs k):=hpre;exact(List.append_inj h2 (Xw om)).2
  have hK:Yq (nth n.es k) (XN n.cs k).toNat=true:=by grind[Yq]
  obtain⟨g1,g2,g3,g4⟩:=Qty hwin om hK c1;rw[QcN ih g1];congr 1;have t1:n.es.take (k+1)=n.es.take k++[nth n.es k]:=by simp_all
  simp only[g2,g3,g4];rw[t1,List.range_succ,List.map_append,hlk,Nat.add_assoc];rfl
theorem Qko{s:List UInt8}{p0:Nat}{n:Nd}(hn:NdW n)(hl:p0+(XK n).length<=s.length)(hw:Qs s p0 (XK n).length=XK n):rdN s p0 n.es.length=some (n,p0+(XK n).length):=by
 have hcl:(XK n).length=(Xh n n.es.length).length+8:=by unfold XK;rw[List.length_append,QdZ]
 have hw2:=hw;rw[hcl,XF]at hw2;unfold XK at hw2;obtain⟨w1,w2⟩:=List.append_inj hw2 (Xw om);have hE:=Qj5 hn om w1 n.es.length (Nat.le_refl _);obtain⟨c1,c2,c3,c4⟩:=hn.kid (Nat.le_refl n.es.length);obtain⟨g1,g2⟩:=QtI w2 om ⟨c1,c2⟩;have hch:(List.range n.es.length).map (XN n.cs)++[XN n.cs n.es.length]=(List.range (n.es.length+1)).map (XN n.cs):=by rw[List.range_succ,List.map_append];rfl
 unfold rdN;rw[hE];simp only[g1,if_true,g2,hch,List.take_length,hcl]
 by_cases h0:n.cs.length=0
 ·have hz:∀i,i<=n.es.length->XN n.cs i=0:=λi hi=>(hn.kid hi).2.2.1 h0;have hnz:noz ((List.range (n.es.length+1)).map (XN n.cs))=false:=by grind[noz,XN]
  have haz:QdD ((List.range (n.es.length+1)).map (XN n.cs))=true:=by grind[QdD,hi]
  rw[hnz,haz];simp only[Bool.false_eq_true,if_false,if_true,Option.some.injEq,Prod.mk.injEq];refine⟨?_,om⟩;obtain⟨us,es,cs⟩:=n;have hcs:cs=[]:=List.eq_nil_of_length_eq_zero h0;have hu:=hn.us
  grind
 ·have hnz:noz ((List.range (n.es.length+1)).map (XN n.cs))=true:=by
   simp only[noz,List.all_eq_true,decide_eq_true_eq,List.mem_map,List.mem_range];rintro c ⟨i,hi,rfl⟩;exact((hn.kid (i:=i) om).2.2.2 h0).2
  rw[hnz];simp only[if_true,Option.some.injEq,Prod.mk.injEq];refine⟨?_,om⟩;have hlc:n.cs.length=n.es.length+1:=by have:=hn.cl;omega
  have hcs:(List.range (n.es.length+1)).map (XN n.cs)=n.cs:=by
   apply List.ext_getElem?;intro i;rcases Nat.lt_or_ge i (n.es.length+1)with hi|hi
   ·rw[List.getElem?_map,List.getElem?_range hi];simp only[Option.map_some];rw[((hn.kid (i:=i) om).2.2.2 h0).1,List.getD_eq_getElem?_getD,List.getElem?_eq_getElem (show i<n.cs.length by omega)];rfl
   grind
  rw[hcs];have hu:=hn.us;obtain⟨us,es,cs⟩:=n
  grind
def Q2(s:List UInt8)(at':Nat)(l:List UInt8):List UInt8:=s.take at'++l++s.drop (at'+l.length)
theorem XY{s l:List UInt8}{a:Nat}(h:a+l.length<=s.length):(Q2 s a l).length=s.length:=by grind[Q2]
theorem Yo{s l:List UInt8}{a:Nat}(h:a+l.length<=s.length)(j:Nat):(Q2 s a l)[j]?=if j<a then s[j]? else if j<a+l.length then l[j-a]? else s[j]?:=by grind[Q2]
theorem Qb5{s l:List UInt8}{a i n:Nat}(h:a+l.length<=s.length)(hd:i+n<=a\/a+l.length<=i):Qs (Q2 s a l) i n=Qs s i n:=by
 apply List.ext_getElem?
 grind[Yl,Yo,Qs]
def tlA(i:Nat):Nat:=64*i+62
def prI(s:List UInt8)(u:Int):Nat->List UInt8
 | 0=>Q2 s 40 (le2 u)
 | i+1=>Q2 (Q2 (prI s u i) (42+2*i) (Qs (prI s u i) (tlA i) 2)) (tlA i) (le2 u)
def Qb9(s:List UInt8)(u:Int):List UInt8:=prI s u 8
def opI(s:List UInt8):Nat->List UInt8
 | 0=>s
 | i+1=>Q2 (opI s i) (tlA i) (Qs (opI s i) (42+2*i) 2)
def QbB(s:List UInt8)(i:Nat):Bool:=decide (ub2 s 40=0\/ub2 s (tlA i)≠ub2 s 40)
def XB(s:List UInt8):Bool:=(List.range 8).any (QbB s)
def Q0(s:List UInt8):List UInt8:=Q2 (opI s 8) 40 (List.replicate 18 0)
theorem Qea{s:List UInt8}{u:Int}(h:s.length=512):∀i,i<=8->(prI s u i).length=512
 | 0,_=>by
  show(Q2 s 40 (le2 u)).length=_
  grind[XY,le2]
 | i+1,hi=>by
  have ih:=Qea (u:=u) h i om;have h2:(Qs (prI s u i) (tlA i) 2).length=2:=Xw (by unfold tlA;omega);show(Q2 (Q2 _ _ _) _ (le2 u)).length=_
  grind[XY,le2,tlA]
theorem Qai{s:List UInt8}(h:s.length=512):∀i,i<=8->(opI s i).length=512
 | 0,_=>h
 | i+1,hi=>by
  have ih:=Qai h i om
  grind[Qs,opI,Xw,Q2,XY,tlA]
theorem QmP{s:List UInt8}{u:Int}(h:s.length=512):∀i,i<=8->∀j,(prI s u i)[j]?=if j<40 then s[j]? else if j<42 then(le2 u)[j-40]? else if j<42+2*i then s[tlA ((j-42)/2)+(j-42)%2]? else if j<64*i/\62<=j%64 then(le2 u)[j%64-62]? else s[j]?
 | 0,_,j=>by
  have hle:(le2 u).length=2:=rfl;show(Q2 s 40 (le2 u))[j]?=_
  grind[Yo]
 | i+1,hi,j=>by
  have hl:=Qea (u:=u) h i om;have ih:=QmP (u:=u) h i om;have h2:(Qs (prI s u i) (tlA i) 2).length=2:=Xw (by unfold tlA;omega);have h3:(Q2 (prI s u i) (42+2*i) (Qs (prI s u i) (tlA i) 2)).length=512:=by rw[XY (by rw[h2,hl];omega),hl]
  show(Q2 (Q2 _ _ _) _ (le2 u))[j]?=_;rw[Yo (by rw[h3];simp only[le2,List.length_cons,List.length_nil,tlA];omega),Yo (by rw[h2,hl];omega),h2];have hle:(le2 u).length=2:=rfl;rw[hle]
  have e1:∀k,(Qs (prI s u i) (tlA i) 2)[k]?=if k<2 then s[tlA i+k]? else none:=λk=>by
   by_cases hk:k<2
   ·rw[if_pos hk,Yl hk,ih];unfold tlA;rw[if_neg om]
    by_cases hi0:64*i+62+k<42
    ·omega
    ·rw[if_neg hi0];rw[if_neg om,if_neg om]
   ·rw[if_neg hk,List.getElem?_eq_none (by rw[h2];omega)]
  rw[e1,ih];unfold tlA
  repeat' split
  all_goals first|rfl|(exfalso;omega)|(congr 1;omega)
theorem Qov{s:List UInt8}{i j:Nat}(h:i=j):s[i]?=s[j]?:=by rw[h]
theorem Qnj{s:List UInt8}(h:s.length=512):∀i,i<=8->∀j,(opI s i)[j]?=if j<64*i/\62<=j%64 then s[42+2*(j/64)+(j%64-62)]? else s[j]?
 | 0,_,j=>by
  rw[if_neg om];rfl
 | i+1,hi,j=>by
  have hl:=Qai h i om;have ih:=Qnj h i om;have h2:(Qs (opI s i) (42+2*i) 2).length=2:=Xw om;show(Q2 _ _ _)[j]?=_;rw[Yo (by rw[h2,hl];unfold tlA;omega),h2];unfold tlA
  by_cases c1:64*i+62<=j/\j<64*i+64
  ·rw[if_neg om,if_pos om,if_pos om,Yl om,ih,if_neg om];congr 1;omega
  ·have e:(if j<64*i+62 then(opI s i)[j]? else if j<64*i+62+2 then(Qs (opI s i) (42+2*i) 2)[j-(64*i+62)]? else(opI s i)[j]?)=(opI s i)[j]?:=by
    split
    ·rfl
    ·rw[if_neg om]
   refine e.trans ?_;rw[ih]
   by_cases d:j<64*i/\62<=j%64
   ·rw[if_pos d,if_pos om]
   ·rw[if_neg d,if_neg om]
theorem YT{s:List UInt8}(h:s.length=512):(Q0 s).length=512:=by
 unfold Q0;rw[XY (by rw[Qai h 8 om];simp),Qai h 8 om]
theorem Qbk{s:List UInt8}(h:s.length=512)(j:Nat):(Q0 s)[j]?=if 40<=j/\j<58 then some 0 else if j<512/\62<=j%64 then s[42+2*(j/64)+(j%64-62)]? else s[j]?:=by
 unfold Q0;rw[Yo (by rw[Qai h 8 om];simp),Qnj h 8 om,List.length_replicate]
 by_cases c:40<=j/\j<58
 ·rw[if_pos c,if_neg om,if_pos om,List.getElem?_replicate,if_pos om]
 ·rw[if_neg c];split
  ·rfl
  ·rw[if_neg om]
theorem Qbo{s:List UInt8}{u:Int}(h:s.length=512):(Qb9 s u).length=512:=Qea h 8 om
theorem ZV{s:List UInt8}{u:Int}(h:s.length=512)(j:Nat):(Qb9 s u)[j]?=if j<40 then s[j]? else if j<42 then(le2 u)[j-40]? else if j<58 then s[tlA ((j-42)/2)+(j-42)%2]? else if j<512/\62<=j%64 then(le2 u)[j%64-62]? else s[j]?:=QmP h 8 om j
theorem QqJ{s t:List UInt8}{i j:Nat}(h:s[i]?=t[j]?):ub1 s i=ub1 t j:=by simp only[ub1,List.getD_eq_getElem?_getD,h]
theorem QiH{s t:List UInt8}{i j:Nat}(h:s[i]?=t[j]?)(h2:s[i+1]?=t[j+1]?):ub2 s i=ub2 t j:=by simp only[ub2,QqJ h,QqJ h2]
theorem QpX{u:Int}(h:0<=u/\u<65536):(ub2 (le2 u) 0:Int)=u:=by
 have e0:ub1 (le2 u) 0=(by8 u).toNat:=rfl;have e1:ub1 (le2 u) 1=(by8 (u/256)).toNat:=rfl;have f0:=QY u;have f1:=QY (u/256);unfold ub2;rw[e0,e1];omega
theorem Qiu{s:List UInt8}{u:Int}(h:s.length=512)(hu:0<=u/\u<65536):(ub2 (Qb9 s u) 40:Int)=u:=by
 rw[QiH (t:=le2 u) (j:=0) (by rw[ZV h,if_neg om,if_pos om]) (by rw[ZV h,if_neg om,if_pos om])];exact QpX hu
theorem Qn7{s:List UInt8}{u:Int}(h:s.length=512)(hu:0<=u/\u<65536){i:Nat}(hi:i<8):(ub2 (Qb9 s u) (tlA i):Int)=u:=by
 rw[QiH (t:=le2 u) (j:=0) (by unfold tlA;rw[ZV h,if_neg om,if_neg om,if_neg om,if_pos om];congr 1;omega) (by unfold tlA;rw[ZV h,if_neg om,if_neg om,if_neg om,if_pos om];congr 1;omega)];exact QpX hu
theorem QnO{s:List UInt8}{u:Int}(h:s.length=512)(hu:1<=u/\u<65536):XB (Qb9 s u)=false:=by
 cases hb:XB (Qb9 s u)with
 | false=>rfl
 | true=>
  simp only[XB,List.any_eq_true,List.mem_range,QbB,decide_eq_true_eq]at hb;obtain⟨i,hi,hh⟩:=hb;have h1:=Qiu h (u:=u) om;have h2:=Qn7 h (u:=u) om hi;omega
theorem Qpb{s:List UInt8}{i n:Nat}(h:zer (Qs s i n)=true)(hl:i+n<=s.length){j:Nat}(h1:i<=j)(h2:j<i+n):s[j]?=some 0:=by
 have h3:s[j]?=(Qs s i n)[j-i]?:=by rw[Yl om];congr 1;omega
 rw[QaU,Xw hl]at h;rw[h3,h,List.getElem?_replicate,if_pos om]
theorem Qhz{s:List UInt8}{u:Int}(h:s.length=512)(hz:zer (Qs s 40 18)=true):Q0 (Qb9 s u)=s:=by
 have hl:=Qbo (u:=u) h;apply List.ext_getElem?;intro j;rw[Qbk hl]
 by_cases c:40<=j/\j<58
 ·rw[if_pos c,Qpb hz om c.1 om]
 ·rw[if_neg c]
  by_cases c2:j<512/\62<=j%64
  ·rw[if_pos c2,ZV h,if_neg om,if_neg om,if_pos om];exact Qov (by unfold tlA;omega)
  ·rw[if_neg c2,ZV h]
   by_cases d1:j<40
   ·rw[if_pos d1]
   ·rw[if_neg d1,if_neg om,if_neg om,if_neg om]
theorem Qbh{s:List UInt8}:XB s=false ↔ ub2 s 40≠0/\∀i,i<8->ub2 s (tlA i)=ub2 s 40:=by
 constructor
 ·intro h
  have h2:∀i,i<8->¬(ub2 s 40=0\/ub2 s (tlA i)≠ub2 s 40):=by
   intro i hi hb;have:XB s=true:=List.any_eq_true.2 ⟨i,List.mem_range.2 hi,decide_eq_true hb⟩;rw[this]at h;cases h
  have:=h2 0 om;exact⟨om,λi hi=>by have:=h2 i hi;omega⟩
 ·rintro⟨h1,h2⟩;cases hb:XB s with
  | false=>rfl
  | true=>
   simp only[XB,List.any_eq_true,List.mem_range,QbB,decide_eq_true_eq]at hb;obtain⟨i,hi,hh⟩:=hb;have:=h2 i hi;omega
theorem Qi9{s:List UInt8}{i j:Nat}(h:ub2 s i=ub2 s j):ub1 s i=ub1 s j/\ub1 s (i+1)=ub1 s (j+1):=by
 have h1:=YC s i;have h2:=YC s (i+1);have h3:=YC s j;have h4:=YC s (j+1);unfold ub2 at h;omega
theorem Qlc{s t:List UInt8}{i j:Nat}(hi:i<s.length)(hj:j<t.length)(h:ub1 s i=ub1 t j):s[i]?=t[j]?:=by
 simp only[ub1,List.getD_eq_getElem?_getD,List.getElem?_eq_getElem hi,List.getElem?_eq_getElem hj,Option.getD_some]at h;rw[List.getElem?_eq_getElem hi,List.getElem?_eq_getElem hj];exact congrArg _ (UInt8.toNat_inj.1 h)
theorem QlV{s:List UInt8}{i j:Nat}(hi:i+1<s.length)(hj:j<2):(le2 (ub2 s i:Int))[j]?=s[i+j]?:=by
 rw[<-QgW om,Yl hj]
theorem Qoa{s:List UInt8}(h:s.length=512)(ht:XB s=false):Qb9 (Q0 s) (ub2 s 40:Int)=s:=by
 have hl:=YT h;obtain⟨h1,h2⟩:=Qbh.1 ht;apply List.ext_getElem?;intro j;rw[ZV hl]
 by_cases c1:j<40
 ·rw[if_pos c1,Qbk h,if_neg om,if_neg om]
 ·rw[if_neg c1]
  by_cases c2:j<42
  ·rw[if_pos c2,QlV om om];exact Qov om
  ·rw[if_neg c2]
   by_cases c3:j<58
   ·rw[if_pos c3];unfold tlA;rw[Qbk h,if_neg om,if_pos om];exact Qov om
   ·rw[if_neg c3]
    by_cases c4:j<512/\62<=j%64
    ·rw[if_pos c4,QlV om om];have h3:=Qi9 (h2 (j/64) om);unfold tlA at h3
     by_cases c5:j%64=62
     ·rw[c5];exact Qlc om om (by rw[show j=64*(j/64)+62 by omega];exact h3.1.symm)
     ·rw[show j%64-62=1 by omega];exact Qlc om om (by rw[show j=64*(j/64)+62+1 by omega];exact h3.2.symm)
    ·rw[if_neg c4,Qbk h,if_neg om,if_neg c4]
theorem Qk5{s:List UInt8}(h:s.length=512):zer (Qs (Q0 s) 40 18)=true:=by
 have hl:=YT h;rw[QaU,Xw om];apply List.ext_getElem?;intro j;rcases Nat.lt_or_ge j 18 with hj|hj
 ·rw[Yl hj,Qbk h,if_pos om,List.getElem?_replicate,if_pos hj]
 ·rw[List.getElem?_eq_none (by rw[Xw om];omega),List.getElem?_eq_none (by simp;omega)]
def Qeh:List UInt8:=[73,78,68,88]
def hdB(num lsn:Int)(count:Nat):List UInt8:=Qeh++List.replicate 4 0++le4 lsn++le4 num++le2 count++List.replicate 46 0
def Qab(n:Nd)(num lsn:Int):List UInt8:=hdB num lsn n.es.length++XK n++List.replicate (448-(XK n).length) 0
def QaD(n:Nd)(num lsn usn:Int):List UInt8:=Qb9 (Qab n num lsn) usn
theorem QbS(num lsn:Int)(c:Nat):(hdB num lsn c).length=64:=rfl
theorem QaJ{n:Nd}{num lsn:Int}(h:(XK n).length<=448):(Qab n num lsn).length=512:=by
 unfold Qab;rw[List.length_append,List.length_append,QbS,List.length_replicate];omega
theorem QrA{n:Nd}{num lsn:Int}:Qs (Qab n num lsn) 64 (XK n).length=XK n:=by
 unfold Qab Qs;rw[List.append_assoc,show(64:Nat)=(hdB num lsn n.es.length).length from rfl,List.drop_left,List.take_left]
theorem Qmn{n:Nd}{num lsn:Int}:Qs (Qab n num lsn) 0 64=hdB num lsn n.es.length:=by
 unfold Qab Qs;rw[List.append_assoc,List.drop_zero,show(64:Nat)=(hdB num lsn n.es.length).length from rfl,List.take_left]
theorem QpZ{n:Nd}{num lsn:Int}:(Qab n num lsn).drop (64+(XK n).length)=List.replicate (448-(XK n).length) 0:=by
 unfold Qab;rw[show 64+(XK n).length=(hdB num lsn n.es.length++XK n).length by rw[List.length_append];rfl,List.drop_left]
theorem Qc2{n:Nd}{num lsn:Int}:zer (Qs (Qab n num lsn) 40 18)=true:=by
 have h:Qs (Qs (Qab n num lsn) 0 64) 40 18=Qs (hdB num lsn n.es.length) 40 18:=by rw[Qmn]
 rw[Qda om,Nat.zero_add]at h;rw[h];rfl
def Qgx(s:List UInt8)(num:Int):Bool:=decide (s.take 4=Qeh)&&(zer (Qs s 4 4)&&(decide (ub4 s 8<=2147483647)&&(decide ((ub4 s 12:Int)=num)&&(zer (Qs s 18 22)&&zer (Qs s 58 6)))))
theorem Qpa{s:List UInt8}{num:Int}{c:Nat}(h:64<=s.length)(hc:c=ub2 s 16)(hn:0<=num/\num<4294967296)(hz:zer (Qs s 40 18)=true)(hlsn:ub4 s 8<=2147483647):hdB num (ub4 s 8:Int) c=Qs s 0 64 ↔ Qgx s num=true:=by
 subst hc
 have e:Qs s 0 64=s.take 4++Qs s 4 4++le4 (ub4 s 8:Int)++le4 (ub4 s 12:Int)++le2 (ub2 s 16:Int)++(Qs s 18 22++(Qs s 40 18++Qs s 58 6)):=by
  rw[show 64=4+(4+(4+(4+(2+(22+(18+6))))))from rfl,XF,XF,XF,XF,XF,XF,XF];simp only[Nat.zero_add,Nat.reduceAdd];rw[QiK (i:=8) om,QiK (i:=12) om,QgW (i:=16) om,show Qs s 0 4=s.take 4 by simp[Qs]];simp only[List.append_assoc]
 have z18:=(QaU _).1 hz;rw[Xw om]at z18;have er:List.replicate 46 (0:UInt8)=List.replicate 22 0++(List.replicate 18 0++List.replicate 6 0):=rfl;have l4:(s.take 4).length=4:=by simp only[List.length_take];omega
 have l44:(Qs s 4 4).length=4:=Xw om;constructor
 ·intro hh;rw[e]at hh;unfold hdB at hh;obtain⟨hh,f6⟩:=List.append_inj hh (by simp only[List.length_append,l4,l44];rfl);obtain⟨hh,f5⟩:=List.append_inj hh (by simp only[List.length_append,l4,l44];rfl);obtain⟨hh,f4⟩:=List.append_inj hh (by simp only[List.length_append,l4,l44];rfl);obtain⟨hh,f3⟩:=List.append_inj hh (by simp only[List.length_append,l4,l44];rfl);obtain⟨f1,f2⟩:=List.append_inj hh (by rw[l4];rfl);rw[er]at f6;obtain⟨g1,f6⟩:=List.append_inj f6 (by rw[Xw om];rfl);obtain⟨g2,g3⟩:=List.append_inj f6 (by rw[Xw om];rfl);have f4':=QrH f4;have hb:=Qnp s 12;simp only[Qgx,Bool.and_eq_true,decide_eq_true_eq];refine⟨f1.symm,?_,hlsn,om,?_,?_⟩
  ·rw[<-f2];rfl
  ·rw[<-g1];rfl
  ·rw[<-g3];rfl
 ·intro hh;simp only[Qgx,Bool.and_eq_true,decide_eq_true_eq]at hh;obtain⟨f1,f2,_,f4,f5,f6⟩:=hh;rw[QaU,Xw om]at f2 f5 f6;rw[e,f1,f2,f4,f5,z18,f6];rfl
def rdB(s:List UInt8):Option (Nd×Nat):=if 1<=ub2 s 16/\ub2 s 16<=4 then rdN s 64 (ub2 s 16)else none
def Qlk:Nd:=⟨false,[],[]⟩
structure NdR where
 n:Nd
 lsn:Int
 usn:Int
 e:Int
def ndE(e:Int):NdR:=⟨Qlk,0,0,e⟩
def Xl(b:List UInt8)(num:Int):NdR:=
 if b.length=512 then
  if 1<=num/\num<=120 then
   if XB b then ndE 31
   else match rdB (Q0 b)with
    | some (n,last)=>if Qgx (Q0 b) num&&zer ((Q0 b).drop last)then⟨n,(ub4 (Q0 b) 8:Int),(ub2 b 40:Int),0⟩else ndE 3
    | none=>ndE 3
  else ndE 2
 else ndE 10
theorem QaW{s:List UInt8}{n:Nd}{last:Nat}(hl:s.length=512)(h:rdB s=some (n,last)):XK n=Qs s 64 (last-64)/\72<=last/\last<=512/\n.es.length=ub2 s 16/\(1<=ub2 s 16/\ub2 s 16<=4)/\NdW n:=by
 unfold rdB at h;split at h
 ·rename_i hc;obtain⟨h1,h2,h3,h4,h5,h6,h7,h8,h9⟩:=Qef om h;exact⟨h1,om,om,h6,hc,⟨h5,h8,om,h9⟩⟩
 ·cases h
theorem QjG{s:List UInt8}{n:Nd}{last:Nat}(hl:s.length=512)(h:rdB s=some (n,last)):(XK n).length=last-64:=by
 obtain⟨h1,h2,h3,_⟩:=QaW hl h;rw[h1,Xw om]
theorem Qmg{b:List UInt8}{num:Int}{n:Nd}{last:Nat}(hl:b.length=512)(ht:XB b=false)(hn:0<=num/\num<4294967296)(h:rdB (Q0 b)=some (n,last))(hlsn:ub4 (Q0 b) 8<=2147483647) :
  QaD n num (ub4 (Q0 b) 8:Int) (ub2 b 40:Int)=b ↔ (Qgx (Q0 b) num&&zer ((Q0 b).drop last))=true:=by
 have ho:=YT hl;obtain⟨h1,h2,h3,h4,h5,h6⟩:=QaW ho h;have hc:=QjG ho h;have hz:=Qk5 hl;have hu:=Qds b 40;have hN:(Qab n num (ub4 (Q0 b) 8:Int)).length=512:=QaJ om
 have hiff:QaD n num (ub4 (Q0 b) 8:Int) (ub2 b 40:Int)=b ↔ Qab n num (ub4 (Q0 b) 8:Int)=Q0 b:=by
  constructor
  ·intro hh;have:=congrArg Q0 hh;unfold QaD at this
   rwa[Qhz hN Qc2]at this
  ·intro hh;unfold QaD;rw[hh];exact Qoa hl ht
 rw[hiff]
 have hs:Q0 b=Qs (Q0 b) 0 64++XK n++(Q0 b).drop last:=by
  rw[h1]
  have e1:Qs (Q0 b) 0 64++Qs (Q0 b) 64 (last-64)=(Q0 b).take last:=by
   have:=XF (Q0 b) 0 64 (last-64);rw[Nat.zero_add]at this;rw[<-this,show 64+(last-64)=last by omega];simp[Qs]
  rw[e1,List.take_append_drop]
 have hd:=Qpa (s:=Q0 b) (num:=num) (c:=n.es.length) om h4 hn hz hlsn;have l64:(Qs (Q0 b) 0 64).length=64:=Xw om;have hdl:((Q0 b).drop last).length=448-(XK n).length:=by rw[List.length_drop,ho,hc];omega
 constructor
 ·intro hh;rw[hs]at hh;have hh':hdB num (ub4 (Qs (Q0 b) 0 64++XK n++(Q0 b).drop last) 8:Int) n.es.length++XK n++List.replicate (448-(XK n).length) 0=Qs (Q0 b) 0 64++XK n++(Q0 b).drop last:=hh;rw[<-hs]at hh';have hh2:hdB num (ub4 (Q0 b) 8:Int) n.es.length++XK n++List.replicate (448-(XK n).length) 0=Qs (Q0 b) 0 64++XK n++(Q0 b).drop last:=by rw[hh',<-hs]
  obtain⟨f1,f2⟩:=List.append_inj hh2 (by rw[List.length_append,List.length_append,l64];rfl);have f3:=List.append_cancel_right f1;rw[Bool.and_eq_true];refine⟨hd.1 f3,?_⟩;rw[<-f2];exact QcT _
 ·intro hh;rw[Bool.and_eq_true]at hh;have f1:=hd.2 hh.1;have f2:=(QaU _).1 hh.2;rw[hdl]at f2;unfold Qab;rw[f1,<-f2,<-hs]
theorem Qkk{n:Nd}{num lsn usn:Int}(hn:NdW n)(h1:1<=n.es.length/\n.es.length<=4)(hc:(XK n).length<=448)(hnum:1<=num/\num<=120)(hlsn:0<=lsn/\lsn<=2147483647)(hu:1<=usn/\usn<=65535):Xl (QaD n num lsn usn) num=⟨n,lsn,usn,0⟩:=by
 have hN:=QaJ (n:=n) (num:=num) (lsn:=lsn) hc;have hL:(QaD n num lsn usn).length=512:=Qbo hN;have hT:XB (QaD n num lsn usn)=false:=QnO hN om;have hO:Q0 (QaD n num lsn usn)=Qab n num lsn:=Qhz hN Qc2;have h40:(ub2 (QaD n num lsn usn) 40:Int)=usn:=Qiu hN om;have hh:=Qmn (n:=n) (num:=num) (lsn:=lsn)
 have e16:ub2 (Qab n num lsn) 16=n.es.length:=by
  rw[show(16:Nat)=0+16 from rfl,<-QfX (show 16+1<64 by omega),hh];have f0:=QY (n.es.length:Int);have f1:=QY ((n.es.length:Int)/256);have a0:ub1 (hdB num lsn n.es.length) 16=(by8 (n.es.length:Int)).toNat:=rfl;have a1:ub1 (hdB num lsn n.es.length) 17=(by8 ((n.es.length:Int)/256)).toNat:=rfl;unfold ub2;rw[a0,a1];omega
 have e8:(ub4 (Qab n num lsn) 8:Int)=lsn:=by
  rw[show(8:Nat)=0+8 from rfl,<-Qk2 (show 8+3<64 by omega),hh];have f4:=QY lsn;have f5:=QY (lsn/256);have f6:=QY (lsn/65536);have f7:=QY (lsn/16777216);have e:ub4 (hdB num lsn n.es.length) 8=(by8 lsn).toNat+(by8 (lsn/256)).toNat*256+((by8 (lsn/65536)).toNat+(by8 (lsn/16777216)).toNat*256)*65536:=rfl;rw[e];omega
 have hR:rdB (Qab n num lsn)=some (n,64+(XK n).length):=by
  unfold rdB;rw[e16,if_pos h1];exact Qko hn om QrA
 have hH:Qgx (Qab n num lsn) num=true:=by
  refine(Qpa (c:=n.es.length) om e16.symm om Qc2 om).1 ?_;rw[e8,hh]
 unfold Xl;rw[if_pos hL,if_pos hnum,hT,hO,hR];simp only[Bool.false_eq_true,if_false,hH,QpZ,QcT,Bool.and_self,if_true,e8,h40]
def ZI:List UInt8:=[82,79,79,84]
def Qcl(t:Tre):List UInt8:=ZI++[by8 t.co,by8 t.mo,by8 t.rm,by8 (nth t.ns 0).es.length]++XK (nth t.ns 0)
def noT:Tre:=⟨0,0,0,[]⟩
def QaT(co:Int)(es:List TEnt)(i:Nat):Bool:=QL co (nth es i).key&&decide (i=0\/QN co (nth es (i-1)).key (nth es i).key<0)
def Qd7(co:Int)(es:List TEnt):Bool:=(List.range es.length).all (QaT co es)
theorem Qbn{co:Int}{es:List TEnt}:Qd7 co es=true ↔ ∀i,i<es.length->QaT co es i=true:=by grind[Qd7]
theorem QlU{co:Int}{es:List TEnt}{i:Nat}(hi:i<es.length)(h:QaT co es i=false):Qd7 co es=false:=by
 cases hb:Qd7 co es with
 | false=>rfl
 | true=>rw[Qbn.1 hb i hi]at h;cases h
def Qb(s:List UInt8):Tre×Int:=
 if s.length<16 then(noT,10)
 else if s.take 4=ZI then
  if QC (at1 s 4)=0 then
   if XI (at1 s 5) (at1 s 6)=0 then
    if at1 s 5<=4 then
     if at1 s 7<=at1 s 6 then
      match rdN s 8 (ub1 s 7)with
      | some (n,last)=>if last=s.length/\Qd7 (at1 s 4) n.es=true then(⟨at1 s 4,at1 s 5,at1 s 6,[n]⟩,0)else(noT,3)
      | none=>(noT,3)
     else(noT,16)
    else(noT,8)
   else(noT,XI (at1 s 5) (at1 s 6))
  else(noT,QC (at1 s 4))
 else(noT,3)
def YJ(x:TEnt):Bool:=decide (x.key.length+x.val.length<=88)
def Zn(n:Nd):Bool:=n.es.all YJ
def Zy(t:Tre):Int:=if(XQ t).2=0 then if t.mo<=4/\t.ns.all Zn=true then 0 else 8 else(XQ t).2
theorem QeP{t:Tre}(h:Zy t=0):(XQ t).2=0/\t.mo<=4/\∀n∈t.ns,∀x∈n.es,x.key.length+x.val.length<=88:=by
 unfold Zy at h;split at h
 ·rename_i h1;split at h
  ·rename_i h2;refine⟨h1,h2.1,λn hn x hx=>?_⟩;have h3:=List.all_eq_true.1 h2.2 n hn;have h4:=List.all_eq_true.1 h3 x hx
   simpa[YJ]using h4
  ·cases h
 grind
theorem QnH{co:Int}{k:List UInt8}(h:QL co k=true):1<=k.length/\k.length<=40:=by grind[QL]
theorem Qma{co:Int}{x:TEnt}(h:Yc co x=0):QL co x.key=true/\x.val.length<=64:=by grind[Yc,X3]
theorem Qe8{n:Nd}(h:∀x∈n.es,Yq x 0=true):∀k,k<=n.es.length->(Xh n k).length<=96*k
 | 0,_=>by simp[Xh]
 | k+1,hk=>by
  have ih:=Qe8 h k om;have hx:=h _ (Qz (show k<n.es.length by omega));simp only[Yq,decide_eq_true_eq]at hx;have hsz:(nth n.es k).sz=8+(nth n.es k).key.length+(nth n.es k).val.length:=rfl
  grind[Xh,Qf6,Q5]
theorem QkX{n:Nd}(h:∀x∈n.es,Yq x 0=true):(XK n).length<=96*n.es.length+8:=by grind[Qe8,XK,QdZ]
theorem ZA{t:Tre}(h:Zy t=0){i:Nat}(hi:i<t.ns.length)(hu:(nth t.ns i).us=true):NdW (nth t.ns i)/\(nth t.ns i).es.length<=4/\(XK (nth t.ns i)).length<=392/\Qd7 t.co (nth t.ns i).es=true/\t.ns.length<=120:=by
 obtain⟨h1,h2,h3⟩:=QeP h;obtain⟨hc,hs,h0,hl,hn,_⟩:=ZC h1;have hT:=Qaa hn;obtain⟨hE,_⟩:=QcD om hn List.nodup_nil;obtain⟨sn,hE⟩:=hE i (Nat.zero_le _) hi;have hmo:XI t.mo t.rm=0:=hs;have hsz:(3<=t.mo/\t.mo<=8)/\(t.mo/2<=t.rm/\t.rm<=t.mo):=by grind[XI]
 have hm:((nth t.ns i).es.length:Int)<=Yr t.mo t.rm i:=by grind[X7]
 have hle:(nth t.ns i).es.length<=4:=by grind[Yr]
 have hK:∀x∈(nth t.ns i).es,Yq x 0=true:=λx hx=>by
  obtain⟨a,b⟩:=Qma (hT.ents i hi x hx);have c:=QnH a;have d:=h3 _ (Qz hi) x hx;simp only[Yq,decide_eq_true_eq];omega
 have hb:=QkX hK;refine⟨⟨hu,hK,hT.shape i hi,λc hc=>by have:=(hT.kid i hi c hc).1;omega⟩,hle,om,?_,hl⟩;rw[Qbn];intro k hk;simp only[QaT,Bool.and_eq_true,decide_eq_true_eq];refine⟨(Qma (hT.ents i hi _ (Qz hk))).1,?_⟩;rcases Nat.eq_zero_or_pos k with h0|h0
 ·exact .inl h0
 ·have:=hT.asc i hi (k-1) om
  grind
theorem Z4{t:Tre}(h:Zy t=0):0<t.ns.length/\(nth t.ns 0).us=true/\QC t.co=0/\XI t.mo t.rm=0/\((nth t.ns 0).es.length:Int)<=t.rm:=by
 obtain⟨h1,h2,h3⟩:=QeP h;obtain⟨hc,hs,h0,hl,hn,_⟩:=ZC h1;have hT:=Qaa hn;obtain⟨hE,_⟩:=QcD om hn List.nodup_nil
 grind[nth,X7,Yr]
theorem Qjl(t:Tre):(Qcl t).length=8+(XK (nth t.ns 0)).length:=by
 unfold Qcl;rw[List.length_append];rfl
theorem QlB{t:Tre}(h:Zy t=0):Qb (Qcl t)=(⟨t.co,t.mo,t.rm,[nth t.ns 0]⟩,0):=by
 obtain⟨h0,hu,hc,hs,hr⟩:=Z4 h;obtain⟨hW,h4,hb,ha,hl⟩:=ZA h h0 hu;obtain⟨_,hm4,_⟩:=QeP h;have hsz:(3<=t.mo/\t.mo<=8)/\(t.mo/2<=t.rm/\t.rm<=t.mo):=by grind[XI]
 have hco:0<=t.co/\t.co<=3:=by grind[QC]
 have hL:=Qjl t;have hcl:8<=(XK (nth t.ns 0)).length:=by unfold XK;rw[List.length_append,QdZ];omega
 have e4:at1 (Qcl t) 4=t.co:=by have:=QY t.co;show((by8 t.co).toNat:Int)=_;omega
 have e5:at1 (Qcl t) 5=t.mo:=by have:=QY t.mo;show((by8 t.mo).toNat:Int)=_;omega
 have e6:at1 (Qcl t) 6=t.rm:=by have:=QY t.rm;show((by8 t.rm).toNat:Int)=_;omega
 have e7:ub1 (Qcl t) 7=(nth t.ns 0).es.length:=by have:=QY ((nth t.ns 0).es.length:Int);show(by8 ((nth t.ns 0).es.length:Int)).toNat=_;omega
 have e7':at1 (Qcl t) 7=((nth t.ns 0).es.length:Int):=by rw[QkB,e7]
 have hsub:Qs (Qcl t) 8 (XK (nth t.ns 0)).length=XK (nth t.ns 0):=by
  show List.take _ (XK (nth t.ns 0))=_;simp
 have hR:=Qko hW om hsub;unfold Qb;rw[if_neg om,if_pos (show(Qcl t).take 4=ZI from rfl),e4,e5,e6,e7',e7,if_pos hc,if_pos hs,if_pos hm4,if_pos hr,hR]
 grind
theorem Qgi{ns:List Nd}{below:List Nat}:∀{f i:Nat},ZX ns below f i=none->∀j,i<=j->j<i+f->(nth ns j).us=true->j∈below
 | 0,i,_,j,h1,h2,_=>by omega
 | f+1,i,h,j,h1,h2,hu=>by
  rw[ZX]at h;split at h
  ·cases h
  ·rename_i hn;rcases Nat.eq_or_lt_of_le h1 with e|e
   ·grind
   ·exact Qgi h j e om hu
theorem Qir{t:Tre}{deep:Int}:∀{vs:List Vis},(Ys t deep vs).2=0->∀v∈vs,Qcc t deep v=0
 | [],_,v,hv=>by cases hv
 | u::vs,h,v,hv=>by
  rw[Ys]at h;split at h
  ·rename_i h1;rcases List.mem_cons.1 hv with e|e
   ·rw[e];exact h1
   ·exact Qir h v e
  grind
theorem Ql5{t:Tre}(h:Zy t=0){i:Nat}(h0:0<i)(hi:i<t.ns.length)(hu:(nth t.ns i).us=true):1<=(nth t.ns i).es.length:=by
 obtain⟨h1,h2,_⟩:=QeP h;obtain⟨hc,hs,hz,hl,hn,hsh,_⟩:=ZC h1;have hsz:(3<=t.mo/\t.mo<=8)/\(t.mo/2<=t.rm/\t.rm<=t.mo):=by grind[XI]
 have hop:ZX t.ns ((YR t.ns).map Vis.i) t.ns.length 0=none:=by
  cases e:ZX t.ns ((YR t.ns).map Vis.i) t.ns.length 0 with
  | none=>rfl
  | some k=>rw[QbF e]at hsh;cases hsh
 rw[QbQ hop]at hsh;have hin:=Qgi hop i (Nat.zero_le _) om hu;obtain⟨v,hv,rfl⟩:=List.mem_map.1 hin;have hE:=Qir hsh v hv
 grind[Qcc,nth]
structure Ixs where
 ro:List UInt8
 al:List UInt8
 bm:List UInt8
deriving DecidableEq,Inhabited
def Ixs.n(x:Ixs):Nat:=x.al.length/512
def Ixs.blk(x:Ixs)(i:Nat):List UInt8:=Qs x.al ((i-1)*512) 512
def Z8(bm:List UInt8)(j:Nat):Bool:=decide (ub1 bm (j/8)/2^(j%8)%2=1)
def Yb(x:Ixs)(i:Nat):Bool:=decide (1<=i/\i<=x.n)&&Z8 x.bm (i-1)
def QcI(x:Ixs):Bool:=(List.range (8*x.bm.length)).any λj=>decide (x.n<=j)&&Z8 x.bm j
def ixE(x:Ixs):Int:=
 if x.al.length<=61440/\x.ro.length<=200000 then
  if x.al.length%512=0/\x.bm.length=Q5 ((x.n+7)/8)then
   if(Qb x.ro).2=0 then
    if QcI x then 3 else if x.n=0\/Z8 x.bm (x.n-1)=true then 0 else 3
   else(Qb x.ro).2
  else 10
 else 8
def bkN(x:Ixs)(i:Nat):Nd:=if Yb x i then(Xl (x.blk i) i).n else Qlk
def bkE(x:Ixs)(i:Nat):Int:=if Yb x i then(Xl (x.blk i) i).e else if zer (x.blk i)then 0 else 3
def Qg4(x:Ixs):Nat->Nat->Option Nat
 | 0,_=>none
 | f+1,i=>if bkE x i=0 then Qg4 x f (i+1)else some i
def Xf(x:Ixs)(k:Nat):List Nd:=(Qb x.ro).1.ns++(List.range k).map λj=>bkN x (j+1)
def QaK(x:Ixs):Tre:=⟨(Qb x.ro).1.co,(Qb x.ro).1.mo,(Qb x.ro).1.rm,Xf x x.n⟩
def rdI(x:Ixs):(Tre×Int)×Int:=
 if ixE x=0 then
  match Qg4 x x.n 1 with
  | some i=>((noT,(i:Int)),bkE x i)
  | none=>if(XQ (QaK x)).2=0 then((QaK x,0),0)else((noT,(XQ (QaK x)).1),(XQ (QaK x)).2)
 else((noT,0),ixE x)
theorem QbZ(x:Ixs)(k:Nat):Xf x (k+1)=Xf x k++[bkN x (k+1)]:=by
 unfold Xf;rw[List.range_succ,List.map_append,List.append_assoc];rfl
theorem Y3{x:Ixs}(h:(Qb x.ro).1.ns.length=1)(k:Nat):(Xf x k).length=k+1:=by grind[Xf]
theorem QeJ{x:Ixs}:∀{f i:Nat},(∀j,i<=j->j<i+f->bkE x j=0)->Qg4 x f i=none
 | 0,_,_=>rfl
 | f+1,i,h=>by
  rw[Qg4,if_pos (h i (Nat.le_refl _) om)];exact QeJ λj h1 h2=>h j om om
theorem Y1{s:List UInt8}(h:(Qb s).2=0):∃n last,rdN s 8 (ub1 s 7)=some (n,last)/\last=s.length/\Qd7 (at1 s 4) n.es=true/\Qb s=(⟨at1 s 4,at1 s 5,at1 s 6,[n]⟩,0)/\16<=s.length/\s.take 4=ZI/\QC (at1 s 4)=0/\XI (at1 s 5) (at1 s 6)=0/\at1 s 5<=4/\at1 s 7<=at1 s 6:=by grind[Qb]
theorem QbO{x:Ixs}(h:ixE x=0):(x.al.length<=61440/\x.ro.length<=200000)/\(x.al.length%512=0/\x.bm.length=Q5 ((x.n+7)/8))/\(Qb x.ro).2=0/\QcI x=false/\(x.n=0\/Z8 x.bm (x.n-1)=true):=by grind[ixE]
def Qet(ns:List Nd)(g:Nat):Nat->Nat
 | 0=>0
 | i+1=>Qet ns g i+(if(nth ns (8*g+i+1)).us=true/\8*g+i+1<ns.length then 2^i else 0)
def ZE(ns:List Nd):Nat:=Q5 ((ns.length-1+7)/8)
def bmB(ns:List Nd):List UInt8:=(List.range (ZE ns)).map λg=>by8 (Qet ns g 8:Nat)
def ZG(blk:Nat->List UInt8):Nat->List UInt8
 | 0=>[]
 | k+1=>ZG blk k++blk (k+1)
def Qe0:List UInt8:=List.replicate 512 0
def QcF(t:Tre)(i:Nat):List UInt8:=if(nth t.ns i).us=true then QaD (nth t.ns i) i 0 1 else Qe0
def wrI(t:Tre):Ixs:=⟨Qcl t,ZG (QcF t) (t.ns.length-1),bmB t.ns⟩
theorem QhY(ns:List Nd)(g:Nat):∀i,Qet ns g i<2^i
 | 0=>by simp[Qet]
 | i+1=>by
  have:=QhY ns g i
  grind[Qet]
theorem QjA(ns:List Nd)(g:Nat){j:Nat}:∀i,j<i->Qet ns g i/2^j%2=if(nth ns (8*g+j+1)).us=true/\8*g+j+1<ns.length then 1 else 0
 | 0,h=>absurd h (Nat.not_lt_zero _)
 | i+1,h=>by
  have hlt:=QhY ns g i;rcases Nat.lt_or_ge j i with hj|hj
  ·have ih:=QjA ns g i hj;rw[<-ih,Qet];split
   ·rw[show 2^i=2^j*(2*2^(i-j-1)) by rw[<-Nat.mul_assoc,<-Nat.pow_succ,<-Nat.pow_add];congr 1;omega,Nat.add_mul_div_left _ _ (Nat.pow_pos om)];omega
   grind
  ·obtain rfl:j=i:=by omega
   rw[Qet];split
   ·rw[Nat.add_div_right _ (Nat.pow_pos om),Nat.div_eq_of_lt hlt]
   ·rw[Nat.add_zero,Nat.div_eq_of_lt hlt]
theorem QmI(ns:List Nd):(bmB ns).length=ZE ns:=by simp[bmB]
theorem QsZ(ns:List Nd)(j:Nat):Z8 (bmB ns) j=decide (j+1<ns.length/\(nth ns (j+1)).us=true):=by
 unfold Z8;rcases Nat.lt_or_ge (j/8) (ZE ns)with hj|hj
 ·have h1:ub1 (bmB ns) (j/8)=Qet ns (j/8) 8:=by
   unfold ub1 bmB;rw[List.getD_eq_getElem?_getD,List.getElem?_map,List.getElem?_range hj];have:=QhY ns (j/8) 8
   grind[QY,Qet]
  grind[QjA,nth]
 ·have h1:ub1 (bmB ns) (j/8)=0:=by simp_all[ub1,QmI]
  have hlt:¬j+1<ns.length:=by grind[Yx,ZE]
  rw[h1,Nat.zero_div,decide_eq_false om,decide_eq_false (λh=>hlt h.1)]
theorem QcS{blk:Nat->List UInt8}(h:∀i,(blk i).length=512):∀k,(ZG blk k).length=512*k
 | 0=>rfl
 | k+1=>by rw[ZG,List.length_append,QcS h k,h];omega
theorem Qex{blk:Nat->List UInt8}(h:∀i,(blk i).length=512){i:Nat}(h1:1<=i):∀k,i<=k->Qs (ZG blk k) ((i-1)*512) 512=blk i
 | 0,hi=>by omega
 | k+1,hi=>by
  have hl:=QcS h k;rcases Nat.lt_or_ge k i with hk|hk
  ·grind[ZG,Qs]
  ·rw[<-Qex h h1 k hk,ZG]
   grind[Qs]
structure Holds(t:Tre)(blk:Nat->List UInt8):Prop where
 len:∀i,(blk i).length=512
 us:∀i,1<=i->i<t.ns.length->(nth t.ns i).us=true->(Xl (blk i) i).n=nth t.ns i/\(Xl (blk i) i).e=0
 free:∀i,1<=i->i<t.ns.length->(nth t.ns i).us=false->zer (blk i)=true
def Qaj(t:Tre)(blk:Nat->List UInt8):Ixs:=⟨Qcl t,ZG blk (t.ns.length-1),bmB t.ns⟩
theorem Qks{t:Tre}{blk:Nat->List UInt8}(h:Zy t=0)(hb:Holds t blk):ixE (Qaj t blk)=0/\rdI (Qaj t blk)=((t,0),0):=by
 obtain⟨g1,g2,g3⟩:=QeP h;obtain⟨hc,hs,h0,hl,hn,_⟩:=ZC g1;have hT:=Qaa hn;obtain⟨_,hu0,_⟩:=Z4 h;obtain⟨hW,h4,hcl,_⟩:=ZA h h0 hu0;have hrt:=QlB h;have hal:=QcS hb.len (t.ns.length-1)
 have hN:(Qaj t blk).n=t.ns.length-1:=by
  show(ZG blk (t.ns.length-1)).length/512=_;rw[hal];omega
 have hro:(Qb (Qaj t blk).ro)=(⟨t.co,t.mo,t.rm,[nth t.ns 0]⟩,0):=hrt;have hbit:∀j,Z8 (Qaj t blk).bm j=decide (j+1<t.ns.length/\(nth t.ns (j+1)).us=true):=λj=>QsZ t.ns j;have hblk:∀i,1<=i->i<t.ns.length->(Qaj t blk).blk i=blk i:=λi a b=>Qex hb.len a _ om
 have hnam:∀i,1<=i->i<t.ns.length->Yb (Qaj t blk) i=(nth t.ns i).us:=λi a b=>by
  unfold Yb;rw[hN,hbit,show i-1+1=i by omega,decide_eq_true (show 1<=i/\i<=t.ns.length-1 by omega)];simp[b]
 have hE:ixE (Qaj t blk)=0:=by
  unfold ixE;rw[if_pos (show(Qaj t blk).al.length<=61440/\(Qaj t blk).ro.length<=200000 from⟨by show(ZG blk _).length<=_;rw[hal];omega,by show(Qcl t).length<=_;rw[Qjl];omega⟩)];rw[if_pos (show(Qaj t blk).al.length%512=0/\(Qaj t blk).bm.length=Q5 (((Qaj t blk).n+7)/8)from⟨by show(ZG blk _).length%_=_;rw[hal];omega,by rw[hN];exact QmI t.ns⟩)];rw[if_pos (show(Qb (Qaj t blk).ro).2=0 by rw[hro])];have ho:QcI (Qaj t blk)=false:=by grind[QcI,Qaj]
  rw[ho];simp only[Bool.false_eq_true,if_false];rw[if_pos];rw[hN,hbit];rcases Nat.eq_zero_or_pos (t.ns.length-1)with hz|hz
  ·exact .inl hz
  ·refine .inr (decide_eq_true ?_);rw[show t.ns.length-1-1+1=t.ns.length-1 by omega];refine⟨om,?_⟩;cases hu:(nth t.ns (t.ns.length-1)).us with
   | true=>rfl
   | false=>have:=(hT.free _ om hu).1.2;omega
 have hbk:∀i,1<=i->i<t.ns.length->bkN (Qaj t blk) i=nth t.ns i/\bkE (Qaj t blk) i=0:=λi a b=>by
  unfold bkN bkE;rw[hnam i a b,hblk i a b];cases hu:(nth t.ns i).us with
  | true=>
   obtain⟨e1,e2⟩:=hb.us i a b hu;exact⟨e1,e2⟩
  | false=>
   obtain⟨_,e2,e3⟩:=hT.free i b hu;refine⟨?_,?_⟩
   ·show Qlk=_;have:nth t.ns i=⟨(nth t.ns i).us,(nth t.ns i).es,(nth t.ns i).cs⟩:=rfl;rw[this,hu,e2,e3];rfl
   ·show(if zer (blk i)then(0:Int)else 3)=0;rw[hb.free i a b hu];rfl
 have hbad:Qg4 (Qaj t blk) (Qaj t blk).n 1=none:=QeJ λj a b=>(hbk j a (by rw[hN]at b;omega)).2
 have htr:QaK (Qaj t blk)=t:=by
  unfold QaK Xf;rw[hro,hN]
  have:[nth t.ns 0]++(List.range (t.ns.length-1)).map (λj=>bkN (Qaj t blk) (j+1))=t.ns:=by
   apply List.ext_getElem?
   grind[hi,QV]
  simp_all
 grind[rdI]
theorem Qbv:Qe0.length=512:=List.length_replicate ..
theorem QjK{t:Tre}(h:Zy t=0):Holds t (QcF t)/\wrI t=Qaj t (QcF t):=by
 obtain⟨g1,g2,g3⟩:=QeP h;obtain⟨hc,hs,h0,hl,hn,_⟩:=ZC g1
 have hlen:∀i,i<t.ns.length->(QcF t i).length=512:=λi hi=>by
  unfold QcF;split
  ·rename_i hu;have:=ZA h hi hu;exact Qbo (QaJ om)
  ·exact Qbv
 refine⟨⟨λi=>?_,λi a b hu=>?_,λi a b hu=>?_⟩,rfl⟩
 ·rcases Nat.lt_or_ge i t.ns.length with hi|hi
  ·exact hlen i hi
  ·unfold QcF;rw[if_neg]
   ·exact Qbv
   ·unfold nth;rw[List.getD_eq_getElem?_getD,List.getElem?_eq_none hi];intro hh;cases hh
 ·grind[ZA,Ql5,Qkk,QcF]
 ·unfold QcF;rw[hu];exact QcT 512
theorem QwD{t:Tre}(h:Zy t=0):rdI (wrI t)=((t,0),0):=by simp_all[QjK,Qks]
end Gx
namespace Gx
open Go Go.RowKit
def QeU(cap:Nat)(l:List UInt8):List Value:=l.map bv++List.replicate (cap-l.length) (bv 0)
def QvK(a:Option Addr)(cap:Nat)(l:List UInt8)(w:World):Prop:=
 (a=none/\cap=0/\l=[])\/∃g,a=some ⟨g,0,none⟩/\l.length<=cap/\cap<=maxLen/\Xg g u8T cap (QeU cap l) w
theorem QjC{cap:Nat}{l:List UInt8}(h:l.length<=cap):(QeU cap l).length=cap:=by grind[QeU]
def HA.byz(a:Option Addr)(cap:Nat)(l:List UInt8):HA:=⟨(Value.slice a l.length cap).ownBlock.toList,QvK a cap l,λw w' h ha=>by
  obtain⟨h1,h2,h3⟩|⟨g,rfl,h2,h3,hb⟩:=ha
  ·exact .inl ⟨h1,h2,h3⟩
  ·exact .inr ⟨g,rfl,h2,h3,Xg.loc (h g (by simp[Value.ownBlock])) hb⟩⟩
theorem HA.fp_byz(a:Option Addr)(cap:Nat)(l:List UInt8):(HA.byz a cap l).fp=(Value.slice a l.length cap).ownBlock.toList:=rfl
def QcB(a:Option Addr)(cap:Nat)(g:Option Addr×Nat)(n:Nat):Prop:=n<=cap->g.1=a/\g.2=cap
theorem QcB.trans{a:Option Addr}{cap:Nat}{g g':Option Addr×Nat}{n m:Nat}(h:QcB a cap g n)(h':QcB g.1 g.2 g' m)(hle:n<=m):QcB a cap g' m:=λhm=>by
 obtain⟨e1,e2⟩:=h (Nat.le_trans hle hm);obtain⟨e3,e4⟩:=h' (by rw[e2];exact hm)
 grind
section
variable{w0 w:World}{M:List Nat}{As As':List HA}
theorem HS.byz_nil(h:HS w0 M As w):HS w0 M (.byz none 0 []::As) w:=
 ⟨h.os,h.tape,h.output,h.size,h.old,λA hA=>by
  rcases List.mem_cons.1 hA with rfl|hA
  ·exact .inl ⟨rfl,rfl,rfl⟩
  ·exact h.ok A hA,λA hA b hb=>by
  rcases List.mem_cons.1 hA with rfl|hA
  ·simp[HA.fp_byz,Value.ownBlock]at hb
  ·exact h.lt A hA b hb,.cons (λB _ b hb=>by simp[HA.fp_byz,Value.ownBlock]at hb) h.sep⟩
theorem HS.byz_blk{g cap:Nat}{l:List UInt8}{cs:List Value}(hp:QD As (.blk g u8T cap cs) As')(h:HS w0 M As w)(hl:l.length<=cap)(hc:cap<=maxLen)(hcs:cs=QeU cap l):HS w0 M (.byz (some ⟨g,0,none⟩) cap l::As') w:=by
 subst hcs;exact(h.pick hp).turn (λb hb=>by simpa[HA.fp_byz,HA.fp_blk,Value.ownBlock]using hb) λhb=>.inr ⟨g,rfl,hl,hc,hb⟩
theorem HS.blk_byz{a:Option Addr}{cap:Nat}{l:List UInt8}(hp:QD As (.byz a cap l) As')(h:HS w0 M As w)(h0:0<cap):∃g,a=some ⟨g,0,none⟩/\l.length<=cap/\cap<=maxLen/\HS w0 M (.blk g u8T cap (QeU cap l)::As') w:=by
 have h1:=h.pick hp;rcases h1.head with⟨_,h2,_⟩|⟨g,rfl,h2,h3,hb⟩
 ·omega
 ·exact⟨g,rfl,h2,h3,h1.turn (λb hb=>by simpa[HA.fp_byz,HA.fp_blk,Value.ownBlock]using hb) λ_=>hb⟩
theorem HS.byz_own{a:Option Addr}{cap:Nat}{l:List UInt8}(hp:QD As (.byz a cap l) As')(h:HS w0 M As w):HS w0 M (.own (.slice a l.length cap) u8T 1 l.length (l.map bv)::As') w:=by
 have h1:=h.pick hp;refine h1.turn (λb hb=>hb) λho=>⟨by simp,?_⟩;rcases ho with⟨rfl,rfl,rfl⟩|⟨g,rfl,h2,h3,hb⟩
 ·grind
 ·refine .inr ⟨g,cap,rfl,h2,h3,?_⟩;rw[Nat.mul_one];exact hb.less
theorem HS.vl_byz{a:Option Addr}{cap:Nat}{l:List UInt8}(h:HS w0 M As w)(hp:QD As (.byz a cap l) As'):Vl w a (l.map bv):=(h.byz_own hp).vl_own .here
end
theorem Qe1(A:List Value):∀(vs B:List Value),vs.length<=B.length->Qq (A++B) A.length vs=A++(vs++B.drop vs.length)
 | [],B,_=>by simp[Qq]
 | v::vs,[],h=>by simp at h
 | v::vs,b::B,h=>by
  rw[Qq,List.set_append_right _ _ (Nat.le_refl _),Nat.sub_self,List.set_cons_zero,show A++v::B=(A++[v])++B by simp,show A.length+1=(A++[v]).length by simp,Qe1 (A++[v]) vs B (by simpa using h)];simp
theorem QsD{cap:Nat}{l m:List UInt8}(h:(l++m).length<=cap):Qq (QeU cap l) l.length (m.map bv)=QeU cap (l++m):=by
 rw[List.length_append]at h;unfold QeU;have e:=Qe1 (l.map bv) (m.map bv) (List.replicate (cap-l.length) (bv 0)) (by simp;omega)
 grind
theorem Qjr(n:Nat):Builtin.zeroCells #[Value.int .u8 0] n=(List.replicate n (bv 0)).toArray:=by grind[QaH,bv,Qcx]
theorem Ql7(l:List UInt8):∀u∈l.map bv,u.oneCell'=true:=λu hu=>by
 obtain⟨b,_,rfl⟩:=List.mem_map.1 hu;rfl
theorem QgA{P:Program}{t xt ty by':Nat}{a:Option Addr}{cap:Nat}{x:Value}{l m:List UInt8}{w w0:World}{M:List Nat}{As As':List HA}(ht:tsl P t=some (u8T,1,by'))(hxt:P.underlying xt=some .string\/∃e',P.underlying xt=some (.slice e'))(hz:XX P u8T=some [.int .u8 0])
  (hw:HS w0 M As w)(hp:QD As (.byz a cap l) As')(hlen:(Builtin.lenOf x).run P w=.ok m.length w)(hfc:(Builtin.firstCells 1 m.length x).run P w=.ok (m.map bv).toArray w)(hfc':(Builtin.firstCells 1 m.length x).run P w.drew=.ok (m.map bv).toArray w.drew)
  (hroom:(l.length+m.length)*by'<=140737488355328)(hmax:l.length+m.length<=maxLen) :
  ∃a' cap' w',(Builtin.append_ #[t,xt] ty #[.slice a l.length cap,x]).run P w=.ok (.slice a' (l++m).length cap') w'/\QcB a cap (a',cap') (l++m).length/\HS w0 M (.byz a' cap' (l++m)::As') w':=by
 obtain⟨hu,inf,hi,hs1,hs2⟩:=XO ht;obtain⟨inf',zv,h4,h5,h6⟩:=YY hz;rw[hi]at h4;injection h4 with h4
 subst h4;subst hs2;have hzv:zv.cells= #[Value.int .u8 0]:=Array.ext' (by rw[h6]);have hpk:=hw.pick hp;have hlm:(l++m).length=l.length+m.length:=List.length_append;have hmx:((l.length+m.length:Nat):Int)<=9223372036854775807:=by simp only[maxLen]at hmax;omega
 rw[<-hs1]at hfc hfc'
 have grow:cap<l.length+m.length->(Builtin.firstCells inf.size l.length (.slice a l.length cap)).run P w.drew=.ok (l.map bv).toArray w.drew ->
   ∃a' cap' w',(Builtin.append_ #[t,xt] ty #[.slice a l.length cap,x]).run P w=.ok (.slice a' (l++m).length cap') w'/\QcB a cap (a',cap') (l++m).length/\HS w0 M (.byz a' cap' (l++m)::As') w':=by
  intro hcap hold;have hfit:=growslice_fits hcap hroom;have hge:=grownCap_ge w (l.length+m.length) cap u8T;have hle:=grownCap_le_maxLen w (l.length+m.length) cap u8T hmax;refine⟨some ⟨w.heap.size,0,none⟩,grownCap w (l.length+m.length) cap u8T,w.drew.alloc (.cells ((l.map bv).toArray++(m.map bv).toArray++Builtin.zeroCells zv.cells (grownCap w (l.length+m.length) cap u8T-(l.length+m.length))) u8T),?_,λh=>om,?_⟩
  ·rw[hlm];exact Qjt hu hxt hi h5 hlen hfc' hold hcap hmx hfit
  ·generalize grownCap w (l.length+m.length) cap u8T=N at *;refine((hw.drew.pick hp).tail).alloc _ _ rfl (.inr ⟨_,rfl,om,hle,_,_,heap_alloc_new _ _,?_,?_,λi hi=>?_,Nat.le_refl _,λ_ _ h=>absurd h (Nat.not_lt_zero _)⟩)
   ·rw[hzv,Qjr];simp only[Array.size_append,List.size_toArray,List.length_map,List.length_replicate];omega
   ·rw[QjC om];exact Nat.le_refl _
   ·rw[hzv,Qjr]
    have:QeU N (l++m)=l.map bv++m.map bv++List.replicate (N-(l.length+m.length)) (bv 0):=by
     unfold QeU;rw[List.map_append,hlm]
    rw[this,<-Array.getElem?_toList];simp only[Array.toList_append,List.append_assoc]
 rcases hpk.head with⟨rfl,rfl,rfl⟩|⟨g,rfl,h2,h3,hb⟩
 ·rcases Nat.eq_zero_or_pos m.length with hm|hm
  ·have hm0:m=[]:=List.eq_nil_of_length_eq_zero hm;subst hm0;exact⟨none,0,w,QjY hu hxt hi hlen (by simpa using hfc),λ_=>⟨rfl,rfl⟩,hpk⟩
  ·exact grow (by simp only[List.length_nil];omega) (by simp[Builtin.firstCells])
 ·by_cases hr:l.length+m.length<=cap
  ·obtain⟨w',hst,hb',r1,r2,r3,r4,r5⟩:=YB (P:=P) (b:=g) (i:=l.length) (m.map bv) 0 (QeU cap l) w hb (by rw[QjC h2,List.length_map];omega) (Ql7 m);refine⟨some ⟨g,0,none⟩,cap,w',?_,λ_=>⟨rfl,rfl⟩,HS.swap hpk (B:=.byz (some ⟨g,0,none⟩) cap (l++m)) (λ_ h=>h) r1 r2 r3 r4 (λk hk=>r5 k (by simpa[HA.fp_byz,Value.ownBlock]using hk)) (.inr ⟨g,rfl,om,h3,?_⟩)⟩
   ·rw[hlm];exact QjZ hu hxt hi hlen hfc (by rw[hs1,Nat.mul_one,XV,Nat.zero_add];exact hst) hr
   ·rw[Nat.add_zero,QsD om]at hb';exact hb'
  ·refine grow om ?_;rw[hs1]
   exact Yd (w:=w.drew) (by simp) λ_=>⟨g,0,rfl,λj u hu=>by
    have hc:=hb.less.cell hu
    simpa using hc⟩
section
variable{P:Program}{o:Oper}{L:Ql}{w0:World}{M:List Nat}{As As':List HA}
theorem Qap{t xt e' by' c cap:Nat}{a b:Option Addr}{s x:Operand}{l:List UInt8}(m:List UInt8)(ho:o.op=.call {callee:=.builtin .append,args:=#[s,x],argTypes:=#[t,xt]})(hs:ev L s=some (.slice a l.length cap))(hx:ev L x=some (.slice b m.length c))(ht:tsl P t=some (u8T,1,by'))(hxt:P.underlying xt=some (.slice e'))(hz:XX P u8T=some [.int .u8 0])
  (hp:QD As (.byz a cap l) As')(hsrc:∀w,HS w0 M As w->Src b (m.map bv) w)(hroom:(l.length+m.length)*by'<=140737488355328)(hmax:l.length+m.length<=maxLen) :
  OpH P o L (HS w0 M As) (λg:Option Addr×Nat=>.slice g.1 (l++m).length g.2) (λg=>QcB a cap g (l++m).length) (λg=>HS w0 M (.byz g.1 g.2 (l++m)::As')):=by
 intro ρ w hρ hw;obtain⟨a',cap',w',hr,hk,hw'⟩:=QgA (P:=P) (ty:=o.type) ht (.inr ⟨e',hxt⟩) hz hw hp (x:=.slice b m.length c) rfl (Yd (by simp) (hsrc w hw)) (Yd (w:=w.drew) (by simp) (hsrc w hw)) hroom hmax;simp only[execOp,ho,resolve,Sem.run_bind,Sem.run_pure,Result.andThen_ok,invoke,builtin,List.map_toArray,List.map_cons,List.map_nil,hρ _ _ hs,hρ _ _ hx,hr];exact⟨(a',cap'),rfl,hk,hw'⟩
theorem Qa8{t xt by' cap:Nat}{a:Option Addr}{s x:Operand}{l m:List UInt8}(ho:o.op=.call {callee:=.builtin .append,args:=#[s,x],argTypes:=#[t,xt]})(hs:ev L s=some (.slice a l.length cap))(hx:ev L x=some (.string (bs m)))(ht:tsl P t=some (u8T,1,by'))(hxt:P.underlying xt=some .string)(hz:XX P u8T=some [.int .u8 0])
  (hp:QD As (.byz a cap l) As')(hroom:(l.length+m.length)*by'<=140737488355328)(hmax:l.length+m.length<=maxLen) :
  OpH P o L (HS w0 M As) (λg:Option Addr×Nat=>.slice g.1 (l++m).length g.2) (λg=>QcB a cap g (l++m).length) (λg=>HS w0 M (.byz g.1 g.2 (l++m)::As')):=by
 intro ρ w hρ hw
 have hfc:∀w,(Builtin.firstCells 1 m.length (.string (bs m))).run P w=.ok (m.map bv).toArray w:=λw=>by
  have hx:(bs m).extract 0 m.length=bs m:=(Qng _).trans (congrArg bs (by rw[Lib.extract_data];simp));simp only[Builtin.firstCells,hx,Sem.run_pure];congr 1;simp[bs,bv]
 obtain⟨a',cap',w',hr,hk,hw'⟩:=QgA (P:=P) (ty:=o.type) ht (.inl hxt) hz hw hp (x:=.string (bs m)) rfl (hfc _) (hfc _) hroom hmax;simp only[execOp,ho,resolve,Sem.run_bind,Sem.run_pure,Result.andThen_ok,invoke,builtin,List.map_toArray,List.map_cons,List.map_nil,hρ _ _ hs,hρ _ _ hx,hr];exact⟨(a',cap'),rfl,hk,hw'⟩
end
end Gx
namespace Gx
open Go Go.RowKit
theorem QpI{s:List UInt8}{k:Nat}(h:k<s.length):zer (s.take (k+1))=(zer (s.take k)&&decide (s.getD k 0=0)):=by
 unfold zer;rw[List.take_add_one,List.getElem?_eq_getElem h,List.all_append,List.getD_eq_getElem?_getD,List.getElem?_eq_getElem h];simp
theorem QtW{s:List UInt8}{k:Nat}(h:k<s.length)(h2:¬s.getD k 0=0):zer s=false:=by
 cases hb:zer s with
 | false=>rfl
 | true=>
  unfold zer at hb;have:=List.all_eq_true.1 hb _ (List.getElem_mem h)
  grind
theorem QkL{u:UInt8}:(u.toNat:Int)=0 ↔ u=0:=by
 constructor
 ·intro h;exact UInt8.toNat_inj.1 (by have:(0:UInt8).toNat=0:=rfl;omega)
 simp_all
def YH(x:TEnt)(c:Int):Int:=if 1<=x.key.length/\x.key.length<=40 then if x.key.length+x.val.length<=88 then if 0<=c/\c<=120 then 0 else 2 else 8 else 3
structure NdP(n:Nd):Prop where
 el:n.es.length<=1000
 es:∀x∈n.es,x.key.length<=300/\x.val.length<=300
 cl:n.cs.length=0\/n.cs.length=n.es.length+1
 cs:∀c∈n.cs,0<=c/\c<4294967296
theorem NdW.ndp{n:Nd}(h:NdW n)(hl:n.es.length<=1000):NdP n:=
 ⟨hl,λx hx=>by have:=h.es x hx;simp only[Yq,decide_eq_true_eq]at this;omega,h.cl,λc hc=>by have:=h.cs c hc;omega⟩
theorem NdP.kid{n:Nd}(h:NdP n){i:Nat}(hi:i<=n.es.length):0<=XN n.cs i/\XN n.cs i<4294967296:=by
 unfold XN;split
 ·omega
 ·have hl:i<n.cs.length:=by have:=h.cl;omega
  rw[List.getD_eq_getElem?_getD,List.getElem?_eq_getElem hl];exact h.cs _ (List.getElem_mem hl)
theorem Qs1{n m:Nat}(h:n<=8*m):Q5 n<=8*m:=by unfold Q5;omega
theorem QoH{n m:Nat}(h:n%8=0):Q5 (n+m)=n+Q5 m:=by unfold Q5;omega
theorem NdP.ents{n:Nd}(h:NdP n):∀k,k<=n.es.length->(Xh n k).length<=608*k/\(Xh n k).length%8=0
 | 0,_=>by simp[Xh]
 | k+1,hk=>by
  have ih:=h.ents k om;have hx:=h.es _ (Qz (show k<n.es.length by omega));have hsz:(nth n.es k).sz=8+(nth n.es k).key.length+(nth n.es k).val.length:=rfl
  grind[Qs1,nth,Q5,Xh,Qf6]
theorem QnI{ns:List Nd}(h:∀i,i<ns.length->Zn (nth ns i)=true):ns.all Zn=true:=by
 refine List.all_eq_true.2 λx hx=>?_;obtain⟨i,hi,e⟩:=List.getElem_of_mem hx;have:=h i hi
 simp_all[QS,hi]
def Qhn(L:List LNd):List Bool:=L.map λn=>!Zn n.pl
def Qhc(es:List TEnt):List Bool:=es.map λx=>!YJ x
theorem Qol(es:List TEnt):(Qhc es).any id= !(es.all YJ):=by
 unfold Qhc;rw[List.any_map,List.all_eq_not_any_not,Bool.not_not];rfl
theorem QnP(L:List LNd):(Qhn L).any id= !((pln L).all Zn):=by
 unfold Qhn;rw[List.any_map,List.all_map,List.all_eq_not_any_not,Bool.not_not];rfl
theorem QnE{es:List TEnt}{k:Nat}(h:k<es.length):(Qhc es).getD k false= !YJ (nth es k):=by
 unfold Qhc;rw[YX (d:=default) h];rfl
theorem Qoe{L:List LNd}{k:Nat}(h:k<L.length):(Qhn L).getD k false= !Zn (nth L k).pl:=by
 unfold Qhn;rw[YX (d:=default) h];rfl
section
variable{w:World}{a:Option Addr}{vs:List Value}
theorem Vl.nilA:Vl w a []:=⟨λhn=>absurd hn (Nat.lt_irrefl 0)⟩
theorem Vl.dropA{cap k:Nat}(h:Vl w a vs)(hk:k<=vs.length)(hc:vs.length<=cap):Vl w (YW a cap k 1) (vs.drop k):=by
 rcases Nat.eq_or_lt_of_le hk with e|e
 ·grind[Vl.nilA]
 ·exact h.drop e om
theorem Vl.takeA{n:Nat}(h:Vl w a vs):Vl w a (vs.take n):=by
 refine⟨λhn=>?_⟩;rw[List.length_take]at hn;obtain⟨b,o,rfl,h2⟩:=h.at_ om
 grind
theorem Vl.sub{cap lo n:Nat}{x:List UInt8}(h:Vl w a (x.map bv))(hlo:lo+n<=x.length)(hc:x.length<=cap):Vl w (YW a cap lo 1) ((Qs x lo n).map bv):=by
 unfold Qs;rw[List.map_take,List.map_drop];exact(h.dropA (by rw[List.length_map];omega) (by rw[List.length_map];omega)).takeA
end
section
variable{P:Program}{o:Oper}{L:Ql}{w0:World}{As:List HA}
theorem Z1{src dst e n cap:Nat}{x:Operand}{a:Option Addr}(l:List UInt8)(ho:o.op=.convert src dst x)(hx:ev L x=some (.slice a n cap))(hs:P.underlying src=some (.slice e))(hd:P.underlying dst=some .string)(he:P.underlying e=some (.int .u8))(hl:l.length=n)(hv:Vl w0 a (l.map bv)):OpQ P o L (HS w0 [] As) (.string (bs l)):=by
 refine QjJ l ho hx hs hd he hl λw hw hn=>?_;have h1:=hv.later hw;have h2:=h1.some (by rw[List.length_map];omega);refine⟨ab a,ao a,h2,λj hj=>?_⟩;have h3:=h1.rd (i:=j) (v:=.int .u8 (l[j].toNat:Int)) (by rw[List.getElem?_map,List.getElem?_eq_getElem hj];rfl);have h4:=h3.2.2
 rwa[Nat.mul_one]at h4
end
theorem QfD{s:List UInt8}{p0 k count:Nat}{r:RdS}(h:rdE s p0 k=some r)(hk:k<count)(hs:ZL s r.p=false):rdN s p0 count=none:=by
 unfold rdN;rw[QuT h hs hk]
theorem Qm4{s:List UInt8}{p0 count:Nat}{r:RdS}(h:rdE s p0 count=some r)(hs:Zu s r.p=false):rdN s p0 count=none:=by grind[rdN]
theorem QlR{s:List UInt8}{p0 count:Nat}{r:RdS}(h:rdE s p0 count=some r)(hs:Zu s r.p=true):rdN s p0 count=if noz (r.cs++[(ub4 s (r.p+4):Int)])then some (⟨true,r.es,r.cs++[(ub4 s (r.p+4):Int)]⟩,r.p+8)else if QdD (r.cs++[(ub4 s (r.p+4):Int)])then some (⟨true,r.es,[]⟩,r.p+8)else none:=by grind[rdN]
def stR(s:List UInt8)(p0 count k:Nat):Option RdS:=if k<=count then rdE s p0 k else match rdE s p0 count with
 | none=>none
 | some r=>if Zu s r.p then some ⟨r.es,r.cs++[(ub4 s (r.p+4):Int)],r.p+8⟩else none
theorem QeA{s:List UInt8}{p0 count k:Nat}(h:k<=count):stR s p0 count k=rdE s p0 k:=if_pos h
theorem QoT{s:List UInt8}{p0 count k:Nat}{r:RdS}(h:stR s p0 count k=some r)(hk:k<count)(hs:ZL s r.p=true):stR s p0 count (k+1)=some ⟨r.es++[Xp s r.p],r.cs++[(ub4 s (r.p+4):Int)],r.p+ub2 s r.p⟩:=by grind[QeA,QcN]
theorem QrB{s:List UInt8}{p0 count:Nat}{r:RdS}(h:stR s p0 count count=some r)(hs:Zu s r.p=true):stR s p0 count (count+1)=some ⟨r.es,r.cs++[(ub4 s (r.p+4):Int)],r.p+8⟩:=by grind[QeA,stR]
theorem Qh4{s:List UInt8}{p0 count k:Nat}{r:RdS}(h:stR s p0 count k=some r)(hk:k<count)(hs:ZL s r.p=false):rdN s p0 count=none:=by grind[QeA,QfD]
theorem QmV{s:List UInt8}{p0 count:Nat}{r:RdS}(h:stR s p0 count count=some r)(hs:Zu s r.p=false):rdN s p0 count=none:=by grind[QeA,Qm4]
theorem QsP{s:List UInt8}{p0 count:Nat}{r:RdS}(h:stR s p0 count (count+1)=some r):rdN s p0 count=if noz r.cs then some (⟨true,r.es,r.cs⟩,r.p)else if QdD r.cs then some (⟨true,r.es,[]⟩,r.p)else none:=by grind[stR,rdE,QlR]
theorem Qvv{s:List UInt8}{p0 count k:Nat}(h0:p0<=s.length){r:RdS}(h:stR s p0 count k=some r)(hk:k<=count+1):p0<=r.p/\r.p<=s.length/\r.es.length<=k/\r.cs.length<=k:=by
 unfold stR at h;split at h
 ·obtain⟨h1,h2,h3,h4,_⟩:=QbK h0 h;omega
 ·cases hq:rdE s p0 count with
  | none=>rw[hq]at h;cases h
  | some q=>
   rw[hq]at h;simp only[]at h;obtain⟨h1,h2,h3,h4,_⟩:=QbK h0 hq
   grind[Zu]
theorem QkR{s:List UInt8}{p:Nat}(h:¬(p+8<=s.length/\ub4 s (p+4)<=120/\p+ub2 s p<=s.length/\XA s p<=ub2 s p)):ZL s p=false/\Zu s p=false:=by
 have hp:=Yx (XA s p);have hb:ub2 s (p+2)=ub1 s (p+2)+ub1 s (p+3)*256:=rfl
 grind[XA,ub1,ZL,Zp,Yq,Zu]
theorem Qm5{s:List UInt8}{p:Nat}(h:Yq (Xp s p) (ub4 s (p+4))=false):ZL s p=false:=by grind[ZL,Zp]
theorem QmZ{s:List UInt8}{p:Nat}(h:p+8<=s.length/\ub4 s (p+4)<=120/\p+ub2 s p<=s.length/\XA s p<=ub2 s p)(hK:Yq (Xp s p) (ub4 s (p+4))=true):decide (YG (Xp s p) (ub4 s (p+4):Int)=Qs s p (ub2 s p))=ZL s p:=by grind[Qmq,Zp]
theorem Qki{s:List UInt8}{p:Nat}(h:p+8<=s.length/\ub4 s (p+4)<=120/\p+ub2 s p<=s.length/\XA s p<=ub2 s p):decide (Qbg (ub4 s (p+4):Int)=Qs s p (ub2 s p))=Zu s p:=by grind[QmJ,Zu]
def nzB(l:List Int):List Bool:=l.map λc=>decide (c≠0)
theorem QsT{l:List Int}{k:Nat}(h:k<l.length):(nzB l).getD k false=decide (nth l k≠0):=by
 unfold nzB;rw[YX (d:=default) h];rfl
theorem Qmc(l:List Int):(nzB l).any id= !(QdD l):=by simp[List.any_map,List.all_eq_not_any_not,Bool.not_not,nzB,QdD]
theorem Qm0(l:List Int):noz l= !(decide ((0:Int)∈l)):=by grind[noz]
def Qr2(s:List UInt8)(p:Nat):Prop:=p+8<=s.length/\ub4 s (p+4)<=120/\p+ub2 s p<=s.length/\XA s p<=ub2 s p
theorem Ql3{s:List UInt8}{p0 count k:Nat}{r:RdS}(h:stR s p0 count k=some r)(hk:k<count+1)(hs:¬Qr2 s r.p):rdN s p0 count=none:=by
 rcases Nat.lt_or_ge k count with h9|h9
 ·exact Qh4 h h9 (QkR hs).1
 ·obtain rfl:k=count:=by omega
  exact QmV h (QkR hs).2
def Qjj(s:List UInt8)(p k count:Nat):List UInt8:=if k<count then YG (Xp s p) (ub4 s (p+4):Int)else Qbg (ub4 s (p+4):Int)
def esR(s:List UInt8)(r:RdS)(k count:Nat):List TEnt:=if k<count then r.es++[Xp s r.p]else r.es
theorem QiQ{s:List UInt8}{p k count:Nat}(h:k<count):Qjj s p k count=YG (Xp s p) (ub4 s (p+4):Int):=if_pos h
theorem QiT{s:List UInt8}{p k count:Nat}(h:¬k<count):Qjj s p k count=Qbg (ub4 s (p+4):Int):=if_neg h
theorem Qo2{s:List UInt8}{r:RdS}{k count:Nat}(h:k<count):esR s r k count=r.es++[Xp s r.p]:=if_pos h
theorem QqE{s:List UInt8}{r:RdS}{k count:Nat}(h:¬k<count):esR s r k count=r.es:=if_neg h
theorem QtO{s:List UInt8}{p0 count k:Nat}{r:RdS}(hst:stR s p0 count k=some r)(hk:k<count+1)(h4:Qr2 s r.p)(hK:k<count->Yq (Xp s r.p) (ub4 s (r.p+4))=true)(h:¬Qjj s r.p k count=Qs s r.p (ub2 s r.p)):rdN s p0 count=none:=by
 rcases Nat.lt_or_ge k count with h9|h9
 ·rw[QiQ h9]at h;refine Qh4 hst h9 ?_;rw[<-QmZ h4 (hK h9)]
  grind
 ·obtain rfl:k=count:=by omega
  rw[QiT (Nat.lt_irrefl _)]at h;refine QmV hst ?_;rw[<-Qki h4]
  grind
theorem QvG{s:List UInt8}{p0 count k:Nat}{r:RdS}(hst:stR s p0 count k=some r)(hk:k<count+1)(h4:Qr2 s r.p)(hK:k<count->Yq (Xp s r.p) (ub4 s (r.p+4))=true)(h:Qjj s r.p k count=Qs s r.p (ub2 s r.p)):stR s p0 count (k+1)=some ⟨esR s r k count,r.cs++[(ub4 s (r.p+4):Int)],r.p+ub2 s r.p⟩:=by
 rcases Nat.lt_or_ge k count with h9|h9
 ·rw[QiQ h9]at h;rw[Qo2 h9];refine QoT hst h9 ?_;rw[<-QmZ h4 (hK h9)]
  grind
 ·obtain rfl:k=count:=by omega
  rw[QiT (Nat.lt_irrefl _)]at h;rw[QqE (Nat.lt_irrefl _)];have he:Zu s r.p=true:=by rw[<-Qki h4];exact decide_eq_true h
  grind[ub2,Zu,QrB]
theorem QdG{α β:Type}{f:α->List β}(l:List α)(x:α):(l++[x]).flatMap f=l.flatMap f++f x:=by simp
theorem QfN{x:TEnt}{c:Nat}(hc:c<=120):Yq x c=((decide (1<=(x.key.length:Int))&&decide ((x.key.length:Int)<=40))&&(decide ((x.val.length:Int)<=64)&&YJ x)):=by grind[Yq,YJ]
def czI(l:List Int):Nat:=(l.filter λc=>decide (c=0)).length
theorem QqA(l:List Int):czI l<=l.length:=List.length_filter_le _ _
theorem QpM{l:List Int}{k:Nat}(h:k<l.length):czI (l.take (k+1))=czI (l.take k)+(if nth l k=0 then 1 else 0):=by
 unfold czI;rw[List.take_add_one,List.getElem?_eq_getElem h,List.filter_append,List.length_append]
 grind[nth,QS]
theorem Qte{l:List Int}:czI l=0 ↔ noz l=true:=by simp_all[czI,noz]
theorem Qnb{l:List Int}:czI l=l.length ↔ QdD l=true:=by simp_all[czI,QdD]
theorem Qbb(s:List UInt8)(a b:Nat):(s.take b).drop a=Qs s a (b-a):=by
 unfold Qs;rw[List.drop_take]
theorem QjQ{x:TEnt}{c:Nat}:Yq x c=(decide (YH x c=0)&&decide ((x.val.length:Int)<=64)):=by grind[Yq,YH]
theorem QsR{s:List UInt8}{p:Nat}(h:¬(ub2 s p=Q5 (XA s p)/\p+ub2 s p<=s.length/\zer (Qs s (p+XA s p) (ub2 s p-XA s p))=true)):ZL s p=false:=by grind[ZL,Zp]
theorem QsF{s:List UInt8}{p:Nat}(h8:p+8<=s.length)(h:ub2 s p=Q5 (XA s p)/\p+ub2 s p<=s.length/\zer (Qs s (p+XA s p) (ub2 s p-XA s p))=true)(hK:Yq (Xp s p) (ub4 s (p+4))=true):ZL s p=true:=
 Zp.2 ⟨⟨h8,h.1,h.2.1⟩,h.2.2,hK⟩
section
variable{w0 w:World}{M:List Nat}{As As':List HA}{a:Option Addr}{cap et nt':Nat}{L:List LNd}
theorem HS.nodes_of1{n:LNd}(h:HS w0 M (.own (.slice a 1 cap) nt' 3 1 (LNd.vals n)::.ents et n.ea n.ec n.es::.kids n.ca n.cc n.cs::As) w):HS w0 M (.nodes et nt' a cap [n]::As) w:=by
 have h1:HS w0 M ([.ents et n.ea n.ec n.es,.kids n.ca n.cc n.cs]++(.own (.slice a 1 cap) nt' 3 1 (LNd.vals n)::As)) w:=h.perm ((List.Perm.swap ..).trans (List.Perm.cons _ (List.Perm.swap ..)));have h2:HS w0 M ([QB et n]++(.own (.slice a 1 cap) nt' 3 1 (LNd.vals n)::As)) w:=HS.star_close h1;have h3:HS w0 M (.star ([n].map (QB et))::.own (.slice a 1 cap) nt' 3 1 (LNd.vals n)::As) w:=HS.star_close h2;exact HS.row_shut (l:=[n]) (h3.perm (List.Perm.swap ..)) rfl (by simp)
theorem HS.nodes_own(h:HS w0 M As w)(hp:QD As (.nodes et nt' a cap L) As'):HS w0 M (.own (.slice a L.length cap) nt' 3 L.length (L.flatMap LNd.vals)::As') w:=by
 have h1:=HS.row_open (h.pick hp);exact(h1.perm ((List.Perm.swap ..))).tail
theorem HS.nodes_some(hn:0<L.length)(h:HS w0 M As w)(hp:QD As (.nodes et nt' a cap L) As'):∃g,a=some ⟨g,0,none⟩/\L.length<=cap/\cap<=maxLen:=by
 obtain⟨_,⟨_,h0⟩|⟨g,cap',e,h1,h2,_⟩⟩:=(h.nodes_own hp).head
 ·omega
 grind
theorem HS.nodes_blk{g:Nat}{x:LNd}(h:HS w0 M As w)(hp:QD As (.nodes et nt' (some ⟨g,0,none⟩) cap [x]) As'):HS w0 M (.blk g nt' (cap*3) (LNd.vals x)::As') w:=by
 have h1:=h.nodes_own hp;have h2:=HS.own_at h1 .here
 simpa using h2
end
theorem HS.ents_some{w0 w:World}{M:List Nat}{As As':List HA}{et cap:Nat}{a:Option Addr}{l:List TEnt}(hn:0<l.length)(h:HS w0 M As w)(hp:QD As (.ents et a cap l) As'):∃g,a=some ⟨g,0,none⟩:=by
 obtain⟨g,e,_⟩:=HS.own_blk hn hp h;exact⟨g,e⟩
theorem Qlp{L:List LNd}{x:Nd}(h:pln L=[x]):∃y,L=[y]/\y.pl=x:=by simp_all
def Zv(co:Int)(es:List TEnt):Bool:=es.all λx=>QL co x.key
theorem QkJ{co:Int}{es:List TEnt}{k:Nat}(h:k<es.length)(h2:QL co (nth es k).key=false):Zv co es=false:=by
 cases hb:Zv co es with
 | false=>rfl
 | true=>
  have:=List.all_eq_true.1 hb _ (Qz h)
  grind
theorem Qdd{co:Int}{es:List TEnt}(h:∀i,i<es.length->QL co (nth es i).key=true):Zv co es=true:=by
 refine List.all_eq_true.2 λx hx=>?_;obtain⟨i,hi,e⟩:=List.getElem_of_mem hx;have:=h i hi
 simp_all[QS,hi]
theorem QgD{co:Int}{es:List TEnt}(h:Zv co es=true){k:Nat}(hk:k<es.length):QL co (nth es k).key=true:=List.all_eq_true.1 h _ (Qz hk)
theorem Qqt{co:Int}{k:List UInt8}:X3 co k=0 ↔ QL co k=true:=by grind[X3]
theorem Qkx{s:List UInt8}(h:s.length<16):Qb s=(noT,10):=if_pos h
section
variable{s:List UInt8}(h1:¬s.length<16)
include h1
theorem QmF(h2:¬s.take 4=ZI):Qb s=(noT,3):=by unfold Qb;rw[if_neg h1,if_neg h2]
variable(h2:s.take 4=ZI)
include h2
theorem Qqh(h3:¬QC (at1 s 4)=0):Qb s=(noT,QC (at1 s 4)):=by unfold Qb;rw[if_neg h1,if_pos h2,if_neg h3]
variable(h3:QC (at1 s 4)=0)
include h3
theorem Qq3(h4:¬XI (at1 s 5) (at1 s 6)=0):Qb s=(noT,XI (at1 s 5) (at1 s 6)):=by unfold Qb;rw[if_neg h1,if_pos h2,if_pos h3,if_neg h4]
variable(h4:XI (at1 s 5) (at1 s 6)=0)
include h4
theorem Qm3(h5:¬at1 s 5<=4):Qb s=(noT,8):=by unfold Qb;rw[if_neg h1,if_pos h2,if_pos h3,if_pos h4,if_neg h5]
variable(h5:at1 s 5<=4)
include h5
theorem QmT(h6:¬at1 s 7<=at1 s 6):Qb s=(noT,16):=by unfold Qb;rw[if_neg h1,if_pos h2,if_pos h3,if_pos h4,if_pos h5,if_neg h6]
variable(h6:at1 s 7<=at1 s 6)
include h6
theorem Qk4(h7:∀n,rdN s 8 (ub1 s 7)=some (n,s.length)->Qd7 (at1 s 4) n.es=false):Qb s=(noT,3):=by grind[Qb,rdN,ub1]
theorem Qtc{n:Nd}(h7:rdN s 8 (ub1 s 7)=some (n,s.length))(h8:Qd7 (at1 s 4) n.es=true):Qb s=(⟨at1 s 4,at1 s 5,at1 s 6,[n]⟩,0):=by grind[Qb]
end
def rtE(s:List UInt8):Int:=if QC (at1 s 4)=0 then if XI (at1 s 5) (at1 s 6)=0 then if at1 s 5<=4 then if at1 s 7<=at1 s 6 then 0 else 16 else 8 else XI (at1 s 5) (at1 s 6)else QC (at1 s 4)
theorem Qwt{s:List UInt8}(h:rtE s=0):QC (at1 s 4)=0/\XI (at1 s 5) (at1 s 6)=0/\at1 s 5<=4/\at1 s 7<=at1 s 6:=by grind[rtE]
theorem Quf{s:List UInt8}(h1:¬s.length<16)(h2:s.take 4=ZI)(h:¬rtE s=0):Qb s=(noT,rtE s):=by
 by_cases h3:QC (at1 s 4)=0
 ·grind[XI,at1,rtE,QmT,Qm3,Qq3]
 grind[Qqh,rtE]
section
variable{P:Program}{o:Oper}{L:Ql}{w0:World}{M:List Nat}{As As':List HA}
theorem Qh1{src dst e n cap b bt tot:Nat}{x:Operand}(s:List UInt8)(ho:o.op=.convert src dst x)(hx:ev L x=some (.slice (some ⟨b,0,none⟩) n cap))(hs:P.underlying src=some (.slice e))(hd:P.underlying dst=some .string)(he:P.underlying e=some (.int .u8))(hn:n<=s.length)(hp:QD As (.blk b bt tot (s.map bv)) As'):OpQ P o L (HS w0 M As) (.string (bs (s.take n))):=by
 refine QjJ (s.take n) ho hx hs hd he (by rw[List.length_take];omega) λw hw _=>⟨b,0,rfl,λj hj=>?_⟩;rw[List.length_take]at hj;rw[Nat.zero_add];refine(hw.blk_get hp).cell ?_
 grind[bv]
end
theorem QbJ{s:List UInt8}{p0 count k:Nat}(h0:p0<=s.length){r:RdS}(h:stR s p0 count k=some r)(hk:k<=count+1):r.es.length<=count/\∀x∈r.es,Yq x 0=true:=by
 unfold stR at h;split at h
 ·obtain⟨h1,_,_,_,_,h6,_⟩:=QbK h0 h
  grind
 ·cases hq:rdE s p0 count with
  | none=>rw[hq]at h;cases h
  | some q=>
   rw[hq]at h;simp only[]at h;obtain⟨h1,_,_,_,_,h6,_⟩:=QbK h0 hq
   grind
theorem Qvt{x:TEnt}{c:Nat}(h:Yq x c=true):Yq x 0=true:=by grind[Yq]
theorem Qtw{s:List UInt8}{p0 count k:Nat}(h0:p0<=s.length){r:RdS}(h:stR s p0 count k=some r)(hk:k<count+1)(hK:k<count->Yq (Xp s r.p) (ub4 s (r.p+4))=true):(esR s r k count).length<=count/\∀x∈esR s r k count,Yq x 0=true:=by
 obtain⟨h1,h2⟩:=QbJ h0 h om;rcases Nat.lt_or_ge k count with hc|hc
 ·rw[Qo2 hc];rw[QeA om]at h;have h3:=(QbK h0 h).1
  grind[Qvt]
 grind[QqE]
section
variable{P:Program}{o:Oper}{L:Ql}{w0:World}{M:List Nat}{As As':List HA}
theorem QgV{dt st by' m cd b tot i:Nat}{d s:Operand}{ad:Option Addr}{bt:TypeId}{x l:List UInt8}{e:TypeId}(ho:o.op=.call {callee:=.builtin .copy,args:=#[d,s],argTypes:=#[dt,st]})(hd:Gx.ev L d=some (.slice ad m cd))(ha:0<m->ad=some ⟨b,i,none⟩)(hx:Gx.ev L s=some (.string (bs l)))(ht:tsl P dt=some (e,1,by'))
  (hp:Put As (.blk b bt tot (x.map bv)) (.blk b bt tot ((Q2 x i l).map bv)) As')(hm0:0<m)(hk:l.length<=m)(hr:i+l.length<=x.length) :
  OpH P o L (HS w0 M As) (λ_:Unit=>.int .i64 (l.length:Int)) (λ_=>True) (λ_=>HS w0 M As'):=by
 rw[ha hm0]at hd;intro ρ w hρ hw;obtain⟨hu,inf,hi,hs1,hs2⟩:=XO ht;have hsz:(Go.sizeOf e).run P w=.ok 1 w:=by simp[Go.sizeOf,typeInfo,hi,hs1]
 have hfc:(Builtin.firstCells 1 l.length (.string (bs l))).run P w=.ok (l.map bv).toArray w:=by
  have hx:(bs l).extract 0 l.length=bs l:=(Qng _).trans (congrArg bs (by rw[Lib.extract_data];simp));simp only[Builtin.firstCells,hx,Sem.run_pure];congr 1;simp[bs,bv]
 have hbl:(bs l).size=l.length:=rfl;have hk':Nat.min l.length m=l.length:=Nat.min_eq_left hk;obtain⟨Rs,h3,h4⟩:=hp.ex;have hpk:=hw.pick h3;obtain⟨w',hst,hb,r1,r2,r3,r4,r5⟩:=YB (P:=P) (l.map bv) 0 (x.map bv) w hpk.head (by simpa using hr) (Ql7 l) (i:=i)
 have he:(Builtin.copy_ #[dt,st] o.type #[.slice (some ⟨b,i,none⟩) m cd,.string (bs l)]).run P w=.ok (.int .i64 (l.length:Int)) w':=by
  unfold Builtin.copy_;simp[run_underlying hu,Builtin.lenOf,hbl,hk',hsz,hfc,goInt,hst]
 have hcs:Qq (x.map bv) i (l.map bv)=(Q2 x i l).map bv:=by
  rw[Qaz _ _ _ (by simpa using hr),Q2];simp only[List.map_append,List.map_take,List.map_drop,List.length_map]
 simp only[execOp,ho,resolve,Sem.run_bind,Sem.run_pure,Result.andThen_ok,invoke,builtin,List.map_toArray,List.map_cons,List.map_nil,hρ _ _ hd,hρ _ _ hx,he];exact⟨(),rfl,trivial,(HS.swap hpk (B:=.blk b bt tot ((Q2 x i l).map bv)) (λ_ h=>h) r1 r2 r3 r4 (λk hk=>r5 k (by simpa[HA.fp_blk]using hk)) (show Xg b bt tot ((Q2 x i l).map bv) w' by rw[<-hcs];simpa using hb)).perm h4⟩
end
theorem Qpz(s:List UInt8):Value.int .i64 (bits .or .i64 (IntKind.i64.wrap ((s.getD 0 0).toNat:Int)) (IntKind.i64.wrap (IntKind.i64.wrap ((s.getD 1 0).toNat:Int)*2^8)))=.int .i64 ((ub2 s 0:Nat):Int):=by
 have ha:=(s.getD 0 0).toNat_lt;have hb:=(s.getD 1 0).toNat_lt;have e2:IntKind.i64.wrap ((s.getD 1 0).toNat:Int)=(((s.getD 1 0).toNat:Nat):Int):=IntWalk.i64_in _ ⟨om,om⟩;have e1:IntKind.i64.wrap ((s.getD 0 0).toNat:Int)=(((s.getD 0 0).toNat:Nat):Int):=IntWalk.i64_in _ ⟨om,om⟩;have e3:(((s.getD 1 0).toNat:Nat):Int)*2^8=((256*(s.getD 1 0).toNat:Nat):Int):=om
 have e4:IntKind.i64.wrap ((256*(s.getD 1 0).toNat:Nat):Int)=((256*(s.getD 1 0).toNat:Nat):Int):=IntWalk.i64_in _ ⟨om,om⟩;rw[e2,e1,e3,e4,QnJ _ _ om om,Qst _ _ om]
 grind[ub2,ub1]
def trL:List UInt8->List UInt8
 | []=>[]
 | b::l=>if b=0 then trL l else b::l
def trR(s:List UInt8):List UInt8:=(trL s.reverse).reverse
theorem QoS:∀s:List UInt8,(trL s).length<=s.length
 | []=>Nat.le_refl _
 | b::l=>by
  unfold trL;split
  ·exact Nat.le_succ_of_le (QoS l)
  grind
theorem Quu(s:List UInt8):(trR s).length<=s.length:=by grind[QoS,trR]
theorem QlS:∀s:List UInt8,trL s=[] ↔ zer s=true
 | []=>⟨λ_=>rfl,λ_=>rfl⟩
 | b::l=>by
  unfold trL zer;rw[List.all_cons];split
  ·simp_all[QlS,zer]
  grind
theorem Qmk(s:List UInt8):zer s.reverse=zer s:=by unfold zer;rw[List.all_reverse]
theorem Qkz:∀s:List UInt8,zer (trL s)=zer s
 | []=>rfl
 | b::l=>by
  unfold trL;split
  ·rename_i h;rw[Qkz l];simp[zer,h]
  ·rfl
theorem QqL(s:List UInt8):trL (trR s)=[] ↔ zer s=true:=by
 unfold trR;rw[QlS,Qmk,Qkz,Qmk]
theorem QjT{s:List UInt8}(h0:0<s.length)(h:s.getD 0 0=0):trL (s.drop 1)=trL s:=by
 match s,h0,h with
 | b::l,_,h=>grind[trL]
theorem Qi5{s:List UInt8}(h:¬(0<s.length/\s.getD 0 0=0)):trL s=s:=by
 match s,h with
 | [],_=>rfl
 | b::l,h=>grind[trL]
theorem Qjh(s:List UInt8)(h0:0<s.length):s.reverse.getD 0 0=s.getD (s.length-1) 0:=by grind
theorem QoQ{s:List UInt8}(h0:0<s.length)(h:s.getD (s.length-1) 0=0):trR (s.take (s.length-1))=trR s:=by
 unfold trR;rw[List.reverse_take,show s.length-(s.length-1)=1 by omega,QjT (by simpa using h0) (by rw[Qjh s h0];exact h)]
theorem QpH{s:List UInt8}(h:¬(0<s.length/\s.getD (s.length-1) 0=0)):trR s=s:=by grind[trR,Qi5,Qjh]
def YU(s:List UInt8)(k:Nat):List Int:=((List.range k).filter (QbB s)).map λi=>((i:Nat):Int)
theorem QkV{s:List UInt8}{k:Nat}(h:QbB s k=true):YU s (k+1)=YU s k++[(k:Int)]:=by
 unfold YU;rw[List.range_succ,List.filter_append,List.map_append];simp[h]
theorem Qoi{s:List UInt8}{k:Nat}(h:QbB s k=false):YU s (k+1)=YU s k:=by
 unfold YU;rw[List.range_succ,List.filter_append,List.map_append];simp[h]
theorem QlA(s:List UInt8)(k:Nat):(YU s k).length<=k:=by grind[YU]
theorem Qhs{s:List UInt8}:0<(YU s 8).length ↔ XB s=true:=by simp_all[YU,XB,QbB]
theorem QhX{s:List UInt8}{p:Nat}(h:p+2<=s.length):ub2 (Qs s p 2) 0=ub2 s p:=QfX (s:=s) (p:=p) (n:=2) (j:=0) om
theorem Qr8{s:List UInt8}{p q:Nat}(hp:p+2<=s.length)(hq:q+2<=s.length):Qs s p 2=Qs s q 2 ↔ ub2 s p=ub2 s q:=by
 constructor
 ·grind[QhX]
 ·intro h;obtain⟨h1,h2⟩:=Qi9 h;apply List.ext_getElem?;intro j;rcases Nat.lt_or_ge j 2 with hj|hj
  ·grind[Yl,Qlc]
  grind[Qs]
theorem QhD{s:List UInt8}{i:Nat}(hs:s.length=512)(hi:i<8):QbB s i=true ↔ (ub2 s 40=0\/Qs s (tlA i) 2≠Qs s 40 2):=by grind[QbB,Qr8,tlA]
theorem Qjn(c:Nat):Y4 [.int .u8 0] (c*1)=(List.replicate c (0:UInt8)).map bv:=by
 rw[Nat.mul_one,List.map_replicate];exact Qcx _ _
theorem Qm2{x l:List UInt8}{i:Nat}(h:i+l.length<=x.length):Qq (x.map bv) i (l.map bv)=(Q2 x i l).map bv:=by simp_all[Qaz,Q2]
theorem Y2{s:List UInt8}{p q n:Nat}(h:q=p+n):(s.take q).drop p=Qs s p n:=by
 subst h;rw[List.drop_take,Nat.add_sub_cancel_left,Qs]
theorem Q6{s:List UInt8}{p n:Nat}(h:p+n<=s.length):(Qs s p n).length=n:=by grind[Qs]
theorem QsS(i:Nat)(h:i<=1000):((i:Int)+1)*64-2=((tlA i:Nat):Int):=by unfold tlA;omega
end Gx
namespace Gx
namespace Ev
open Go Go.RowKit
section
variable{P:Program}{o:Oper}{L':Ql}{w0:World}{n:Nat}{As:List HA}
theorem h_make2{t e sz by' k n:Nat}{x y:Operand}{z:List Value}(ho:o.op=.makeSlice t x y)(hx:Gx.ev L' x=some (.int .i64 (k:Int)))(hy:Gx.ev L' y=some (.int .i64 (n:Int)))(ht:tsl P t=some (e,sz,by'))(hz:XX P e=some z)(hlen:n*by'<=281474976710656)(hn:n<=16777216)(hkn:k<=n) :
  OpH P o L' (HS w0 [] As) (λb:Nat=>.slice (some ⟨b,0,none⟩) k n) (λ_=>True) (λb=>HS w0 [] (.blk b e (n*sz) (Y4 z (n*sz))::As)):=by
 intro ρ w hρ hw;obtain⟨hu,inf,h1,h2,h3⟩:=XO ht;have hsz:∀w,(Go.sizeOf e).run P w=.ok sz w:=λw=>by simp[Go.sizeOf,typeInfo,h1,h2]
 have hti:(typeInfo e).run P w=.ok inf w:=by simp[typeInfo,h1]
 obtain⟨zv,hz',hzr⟩:∃zv:Value,zv.cells.toList=z/\∀w,(zeroValue e).run P w=.ok zv w:=by
  unfold XX at hz;rw[h1]at hz;simp only[Option.bind_some]at hz;cases hzz:inf.zero with
  | none=>rw[hzz]at hz;cases hz
  | some v=>rw[hzz]at hz;simp only[Option.map_some,Option.some.injEq]at hz;exact⟨v,hz,λw=>by simp[zeroValue,typeInfo,h1,hzz]⟩
 have hwr:IntKind.i64.wrap (n:Int)=n:=IntWalk.i64_in _ ⟨om,om⟩;have hwk:IntKind.i64.wrap (k:Int)=k:=IntWalk.i64_in _ ⟨om,om⟩;have hz'':zv.cells=z.toArray:=by rw[<-hz']
 have hpr:((inf.bytes:Nat):Int)*(n:Int)<=281474976710656:=by grind
 have e2:(2:Int)^48=281474976710656:=by decide
 have d1:¬((inf.bytes:Nat):Int)*(n:Int)>2^48:=by rw[e2];omega
 have d1k:¬((inf.bytes:Nat):Int)*(k:Int)>2^48:=by
  have h8:((inf.bytes:Nat):Int)*(k:Int)<=((inf.bytes:Nat):Int)*(n:Int):=Int.mul_le_mul_of_nonneg_left om om;rw[e2];omega
 have d2:¬(n:Int)<0:=om
 have d2k:¬(k:Int)<0:=om
 have d3:¬(k:Int)>n:=om
 have hai:∀(q:Nat)w,(asInt (.int .i64 (q:Int))).run P w=.ok (q:Int) w:=λq w=>by simp[asInt,asIntOf]
 have hb:(Instr.makeSlice t (.int .i64 k) (.int .i64 n)).run P w=.ok (.slice (some ⟨w.heap.size,0,none⟩) k n) (w.alloc (.cells (Y4 z (n*sz)).toArray e)):=by
  unfold Instr.makeSlice;simp only[Sem.run_bind,run_underlying hu,Result.andThen_ok,hsz,hai,Sem.run_pure,hti,hwr,hwk,d1,d1k,d2,d2k,d3,decide_false,Bool.or_false,Bool.false_eq_true,if_false,run_askRoom,Int.toNat_natCast]
  by_cases h0:n*sz=0
  ·have e1:∀q:Array Value,(Array.map (λx=>q[x%q.size]!) (Array.range 0))= #[]:=λq=>Array.eq_empty_of_size_eq_zero (by simp);have e3:(Y4 z (n*sz)).toArray= #[]:=by rw[h0];rfl
   simp only[h0,if_true,Sem.run_bind,Sem.run_pure,Result.andThen_ok,newRow,run_newObj,World.alloc_eq,e1,e3];simp only[h0]at e3;rw[e3]
  ·simp only[if_neg h0,Sem.run_bind,hzr,Sem.run_pure,Result.andThen_ok,newRow,run_newObj,World.alloc_eq,hz''];congr 2;simp[Y4,<-List.toArray_range]
 simp only[execOp,ho,Sem.run_bind,hρ _ _ hx,hρ _ _ hy,hb,Result.andThen_ok,Sem.run_pure];have h4:=hw.blk_new e (Y4 z (n*sz)).toArray;refine⟨w.heap.size,rfl,trivial,?_⟩
 simpa[QW]using h4
end
end Ev
end Gx
namespace Gx
open Go Go.RowKit
section
variable{w0 w:World}{M:List Nat}{As As':List HA}
theorem HS.byz_full{g cap:Nat}{l:List UInt8}(hp:QD As (.byz (some ⟨g,0,none⟩) cap l) As')(h:HS w0 M As w)(h0:0<cap):HS w0 M (.blk g u8T cap ((l++List.replicate (cap-l.length) 0).map bv)::As') w:=by
 obtain⟨g',e,_,_,h1⟩:=HS.blk_byz hp h h0;injection e with e
 injection e with e
 subst e
 rwa[List.map_append,List.map_replicate]
theorem QtC{cap:Nat}{l:List UInt8}(n:Nat)(h:n=cap-l.length):(l++List.replicate n 0).map bv=QeU cap l:=by
 subst h;rw[List.map_append,List.map_replicate];rfl
end
theorem QhR{l x y:List UInt8}{p q:Nat}(hq:q=p+x.length)(h:p+x.length+y.length<=l.length):Q2 (Q2 l p x) q y=Q2 l p (x++y):=by
 subst hq;apply List.ext_getElem?
 grind[Yo,XY]
theorem QtJ(num lsn:Int)(c:Nat):Q2 (Q2 (Q2 (Q2 (List.replicate 512 0) 0 Qeh) 8 (le4 lsn)) 12 (le4 num)) 16 (le2 c)=hdB num lsn c++List.replicate 448 0:=by
 have e0:(List.replicate 512 (0:UInt8))=List.replicate 64 0++List.replicate 448 0:=by rw[List.replicate_append_replicate]
 have hp:∀(A B x:List UInt8)(p:Nat),p+x.length<=A.length->Q2 (A++B) p x=Q2 A p x++B:=λA B x p h=>by
  unfold Q2;rw[List.take_append_of_le_length om,List.drop_append_of_le_length om];simp only[List.append_assoc]
 rw[e0,hp _ _ _ _ (by decide),hp _ _ _ _ (by show 8+4<=64;decide),hp _ _ _ _ (by show 12+4<=64;decide),hp _ _ _ _ (by show 16+2<=64;decide)];rfl
section
variable{b:List UInt8}{num:Int}{n:Nd}{last:Nat}
theorem Qil(h:¬b.length=512):Xl b num=ndE 10:=by unfold Xl;rw[if_neg h]
theorem QhS(h:b.length=512)(hn:¬(1<=num/\num<=120)):Xl b num=ndE 2:=by unfold Xl;rw[if_pos h,if_neg hn]
theorem Qd5(h:b.length=512)(hn:1<=num/\num<=120)(ht:XB b=true):Xl b num=ndE 31:=by unfold Xl;rw[if_pos h,if_pos hn,if_pos ht]
theorem QdX(h:b.length=512)(hn:1<=num/\num<=120)(ht:XB b=false)(hr:rdB (Q0 b)=none):Xl b num=ndE 3:=by grind[Xl]
theorem QcQ(h:b.length=512)(hn:1<=num/\num<=120)(ht:XB b=false)(hr:rdB (Q0 b)=some (n,last)) :
  Xl b num=if Qgx (Q0 b) num&&zer ((Q0 b).drop last)then⟨n,(ub4 (Q0 b) 8:Int),(ub2 b 40:Int),0⟩else ndE 3:=by
 grind[Xl]
theorem QtT{s:List UInt8}(h:Qgx s num=true):ub4 s 8<=2147483647:=by grind[Qgx]
theorem Qt2(h:b.length=512)(hn:1<=num/\num<=120)(ht:XB b=false)(hr:rdB (Q0 b)=some (n,last))(hx:¬(ub4 (Q0 b) 8<=2147483647/\QaD n num (ub4 (Q0 b) 8:Int) (ub2 b 40:Int)=b)):Xl b num=ndE 3:=by
 rw[QcQ h hn ht hr,if_neg]
 grind[ub4,Q0,QtT,Qmg]
theorem QvP(h:b.length=512)(hn:1<=num/\num<=120)(ht:XB b=false)(hr:rdB (Q0 b)=some (n,last))(hl:ub4 (Q0 b) 8<=2147483647)(hx:QaD n num (ub4 (Q0 b) 8:Int) (ub2 b 40:Int)=b):Xl b num=⟨n,(ub4 (Q0 b) 8:Int),(ub2 b 40:Int),0⟩:=by
 rw[QcQ h hn ht hr,if_pos ((Qmg h ht om hr hl).1 hx)]
theorem QqD{u v:Bool}(hu:u=true ↔ b.length=512)(hv:v=true ↔ 1<=num/\num<=120) :
  (Xs [.int .i64 (bif u then 0 else 10),.int .i64 (bif v then 0 else 2)]=0->b.length=512/\(1<=num/\num<=120)) /\
  (¬Xs [.int .i64 (bif u then 0 else 10),.int .i64 (bif v then 0 else 2)]=0->Xl b num=ndE (Xs [.int .i64 (bif u then 0 else 10),.int .i64 (bif v then 0 else 2)])):=by
 cases u with
 | false=>exact⟨λh=>absurd (show(10:Int)=0 from h) (by decide),λ_=>Qil λh9=>by cases hu.2 h9⟩
 | true=>
  cases v with
  | false=>exact⟨λh=>absurd h (by decide),λ_=>QhS (hu.1 rfl) λh9=>by cases hv.2 h9⟩
  | true=>exact⟨λ_=>⟨hu.1 rfl,hv.1 rfl⟩,λh=>absurd rfl h⟩
theorem QpG{s:List UInt8}(h:1<=ub2 s 16/\ub2 s 16<=4):rdB s=rdN s 64 (ub2 s 16):=by unfold rdB;rw[if_pos h]
theorem Qp8{s:List UInt8}(h:¬(1<=ub2 s 16/\ub2 s 16<=4)):rdB s=none:=by unfold rdB;rw[if_neg h]
end
theorem Qtt(n:Nat)(h:n<256):bits .and .u8 (n:Int) 1=((n%2:Nat):Int):=by
 have:∀k<256,bits .and .u8 ((k:Nat):Int) 1=((k%2:Nat):Int):=by decide +kernel
 exact this n h
theorem QrU(n m:Nat):(n:Int)/2^m=((n/2^m:Nat):Int):=by grind
theorem QgO(bm:List UInt8)(j:Nat):decide (bits .and .u8 (((ub1 bm (j/8):Nat):Int)/2^(j%8)) 1=1)=Z8 bm j:=by
 have hb:=YC bm (j/8);have hd:ub1 bm (j/8)/2^(j%8)<256:=Nat.lt_of_le_of_lt (Nat.div_le_self _ _) hb;rw[QrU,Qtt _ hd];unfold Z8;exact decide_eq_decide.2 om
theorem Qsr(bm:List UInt8)(j:Nat):decide (((ub1 bm (j/8):Nat):Int)/((2^(j%8):Nat):Int)%2=1)=Z8 bm j:=by grind[Z8]
theorem Qpj{bm:List UInt8}{j:Nat}(h:bm.length<=j/8):Z8 bm j=false:=by simp_all[Z8,ub1]
section
variable{x:Ixs}
theorem Qj9(h:¬(x.al.length<=61440/\x.ro.length<=200000)):ixE x=8:=by unfold ixE;rw[if_neg h]
theorem Qkl(h:x.al.length<=61440/\x.ro.length<=200000)(h2:¬(x.al.length%512=0/\x.bm.length=Q5 ((x.n+7)/8))):ixE x=10:=by unfold ixE;rw[if_pos h,if_neg h2]
theorem Qnq(h:x.al.length<=61440/\x.ro.length<=200000)(h2:x.al.length%512=0/\x.bm.length=Q5 ((x.n+7)/8))(h3:¬(Qb x.ro).2=0):ixE x=(Qb x.ro).2:=by unfold ixE;rw[if_pos h,if_pos h2,if_neg h3]
theorem QlQ(h:x.al.length<=61440/\x.ro.length<=200000)(h2:x.al.length%512=0/\x.bm.length=Q5 ((x.n+7)/8))(h3:(Qb x.ro).2=0)(h4:QcI x=true):ixE x=3:=by unfold ixE;rw[if_pos h,if_pos h2,if_pos h3,if_pos h4]
theorem Ql9(h:x.al.length<=61440/\x.ro.length<=200000)(h2:x.al.length%512=0/\x.bm.length=Q5 ((x.n+7)/8))(h3:(Qb x.ro).2=0)(h4:QcI x=false):ixE x=if x.n=0\/Z8 x.bm (x.n-1)=true then 0 else 3:=by grind[ixE]
theorem Qjf{j:Nat}(h:x.n<=j)(h2:j<8*x.bm.length)(h3:Z8 x.bm j=true):QcI x=true:=by grind[QcI]
theorem QmH(h:∀j,x.n<=j->j<8*x.bm.length->Z8 x.bm j=false):QcI x=false:=by grind[QcI]
end
theorem QnD{ns:List Nd}{g i:Nat}(h:ns.length<=8*g+i+1):∀j,Qet ns g (i+j)=Qet ns g i
 | 0=>rfl
 | j+1=>by
  rw[<-Nat.add_assoc,Qet,QnD h j,if_neg om];rfl
def Zx(ns:List Nd)(K g:Nat):Nat->Nat
 | 0=>0
 | i+1=>Zx ns K g i+(if(nth ns (8*g+i+1)).us=true/\8*g+i+1<K then 2^i else 0)
theorem Ql2(ns:List Nd)(K g:Nat):∀i,Zx ns K g i<2^i
 | 0=>by simp[Zx]
 | i+1=>by
  have:=Ql2 ns K g i
  grind[Zx]
theorem QpY(ns:List Nd)(g:Nat):∀i,Zx ns 1 g i=0
 | 0=>rfl
 | i+1=>by rw[Zx,QpY ns g i,if_neg om]
theorem Qnd{ns:List Nd}{k g:Nat}(h:(nth ns (k+1)).us=false):∀i,Zx ns (k+2) g i=Zx ns (k+1) g i
 | 0=>rfl
 | i+1=>by
  rw[Zx,Zx,Qnd h i]
  grind
theorem Qna{ns:List Nd}{k g:Nat}(hg:g≠k/8):∀i,i<=8->Zx ns (k+2) g i=Zx ns (k+1) g i
 | 0,_=>rfl
 | i+1,hi=>by
  rw[Zx,Zx,Qna hg i om]
  grind
theorem Qkd{ns:List Nd}{k:Nat}(h:(nth ns (k+1)).us=true):∀i,i<=8->Zx ns (k+2) (k/8) i=Zx ns (k+1) (k/8) i+(if k%8<i then 2^(k%8)else 0)
 | 0,_=>rfl
 | i+1,hi=>by
  have e1:(if(nth ns (8*(k/8)+i+1)).us=true/\8*(k/8)+i+1<k+2 then 2^i else 0)=(if(nth ns (8*(k/8)+i+1)).us=true/\8*(k/8)+i+1<k+1 then 2^i else 0)+(if i=k%8 then 2^(k%8)else 0):=by grind
  have e2:(if k%8<i+1 then 2^(k%8)else 0)=(if k%8<i then 2^(k%8)else 0)+(if i=k%8 then 2^(k%8)else 0):=by grind
  rw[Zx,Zx,Qkd h i om,e1,e2]
  ac_rfl
theorem Qju(ns:List Nd)(k:Nat):∀j,Zx ns (k+1) (k/8) (k%8+j)<2^(k%8)
 | 0=>Ql2 ns (k+1) (k/8) (k%8)
 | j+1=>by
  rw[<-Nat.add_assoc,Zx,if_neg om];exact Qju ns k j
theorem QuY:∀m<8,∀n<2^m,bits .or .u8 ((n:Nat):Int) (IntKind.u8.wrap (1*2^m))=((n+2^m:Nat):Int):=by decide +kernel
def bmW(ns:List Nd)(r K:Nat):List UInt8:=(List.range r).map λg=>by8 ((Zx ns K g 8:Nat):Int)
theorem Qfv(ns:List Nd)(r K:Nat):(bmW ns r K).length=r:=by simp[bmW]
theorem Qwe(ns:List Nd)(r:Nat):bmW ns r 1=List.replicate r 0:=by
 unfold bmW;rw[List.eq_replicate_iff];refine⟨by simp,λb hb=>?_⟩;obtain⟨g,_,rfl⟩:=List.mem_map.1 hb;rw[QpY]
 try rfl
theorem QrX{ns:List Nd}:bmW ns (ZE ns) ns.length=bmB ns:=by
 unfold bmW bmB;congr 1
theorem QtR{ns:List Nd}{r k:Nat}(h:(nth ns (k+1)).us=false):bmW ns r (k+2)=bmW ns r (k+1):=by grind[bmW,Qnd]
theorem QmY{ns:List Nd}{r K g:Nat}(h:g<r):(bmW ns r K)[g]?=some (by8 ((Zx ns K g 8:Nat):Int)):=by grind[bmW]
theorem Qsq{ns:List Nd}{r k:Nat}(h:(nth ns (k+1)).us=true)(hk:k/8<r):bmW ns r (k+2)=(bmW ns r (k+1)).set (k/8) (by8 ((Zx ns (k+1) (k/8) 8+2^(k%8):Nat):Int)):=by
 apply List.ext_getElem?
 grind[Qfv,QmY,Qkd,Qna]
section
variable{w0 w:World}{M:List Nat}{As As':List HA}{a:Option Addr}{cap et nt':Nat}{L:List LNd}
theorem HS.nodes_open(h:HS w0 M As w)(hp:QD As (.nodes et nt' a cap L) As'):HS w0 M (.own (.slice a L.length cap) nt' 3 L.length (L.flatMap LNd.vals)::.star (L.map (QB et))::As') w:=HS.row_open (h.pick hp)
theorem HS.nodes_app{n:LNd}(h:HS w0 M (.ents et n.ea n.ec n.es::.kids n.ca n.cc n.cs::.star (L.map (QB et))::.own (.slice a (L.length+1) cap) nt' 3 (L.length+1) (L.flatMap LNd.vals++LNd.vals n)::As) w):HS w0 M (.nodes et nt' a cap (L++[n])::As) w:=by
 have h2:HS w0 M (QB et n::.star (L.map (QB et))::.own (.slice a (L.length+1) cap) nt' 3 (L.length+1) (L.flatMap LNd.vals++LNd.vals n)::As) w:=HS.star_close (Bs:=[_,_]) h;have h3:=HS.sub_app h2;exact HS.row_shut (l:=L++[n]) (h3.perm (List.Perm.swap ..)) (by simp) (by simp[List.flatMap_append])
end
theorem Qb3{x:Ixs}{i:Nat}(h:1<=i/\i*512<=x.al.length):(x.blk i).length=512:=Q6 om
theorem Qnl{x:Ixs}{i:Nat}(h:1<=i/\i*512<=x.al.length):x.blk i=Qe0 ↔ zer (x.blk i)=true:=by
 rw[QaU,Qb3 h];rfl
theorem Qci{x:Ixs}{i:Nat}(h:Yb x i=false):bkN x i=Qlk:=by unfold bkN;rw[h];rfl
theorem QcA{x:Ixs}{i:Nat}(h:Yb x i=false):bkE x i=if zer (x.blk i)=true then 0 else 3:=by unfold bkE;rw[h];rfl
theorem QcU{x:Ixs}{i:Nat}(h:Yb x i=true):bkN x i=(Xl (x.blk i) i).n:=by unfold bkN;rw[h];rfl
theorem ZU{x:Ixs}{i:Nat}(h:Yb x i=true):bkE x i=(Xl (x.blk i) i).e:=by unfold bkE;rw[h];rfl
theorem Qhr{x:Ixs}:∀(m f i:Nat),(∀j,i<=j->j<i+m->bkE x j=0)->m<f->¬bkE x (i+m)=0->Qg4 x f i=some (i+m)
 | 0,0,_,_,h,_=>absurd h (Nat.lt_irrefl _)
 | 0,f+1,i,_,_,hb=>by grind[Qg4]
 | m+1,0,_,_,h,_=>absurd h (Nat.not_lt_zero _)
 | m+1,f+1,i,h,hf,hb=>by
  rw[Qg4,if_pos (h i (Nat.le_refl _) om),Qhr m f (i+1) (λj h1 h2=>h j om om) om (by rw[show i+1+m=i+(m+1) by omega];exact hb)];congr 1;omega
theorem Qlj{x:Ixs}(h:¬ixE x=0):rdI x=((noT,0),ixE x):=by unfold rdI;rw[if_neg h]
theorem Qgq{x:Ixs}{k:Nat}(h:ixE x=0)(hk:k<x.n)(h1:∀j,j<k->bkE x (j+1)=0)(h2:¬bkE x (k+1)=0):rdI x=((noT,((k+1:Nat):Int)),bkE x (k+1)):=by
 have e:Qg4 x x.n 1=some (k+1):=by
  have h9:=Qhr (x:=x) k x.n 1 (λj a b=>by
   obtain⟨j,rfl⟩:∃q,j=q+1:=⟨j-1,om⟩;exact h1 j om) hk (by rw[Nat.add_comm];exact h2)
  grind
 grind[rdI]
theorem Qli{x:Ixs}(h:ixE x=0)(h1:∀j,j<x.n->bkE x (j+1)=0):rdI x=if(XQ (QaK x)).2=0 then((QaK x,0),0)else((noT,(XQ (QaK x)).1),(XQ (QaK x)).2):=by
 have e:Qg4 x x.n 1=none:=QeJ λj a b=>by
  obtain⟨j,rfl⟩:∃q,j=q+1:=⟨j-1,om⟩;exact h1 j om
 grind[rdI]
structure NdS(n:Nd):Prop where
 es:n.es.length<=255
 cs:n.cs.length<=256
 ent:∀x∈n.es,x.key.length<=1000000/\x.val.length<=1000000
theorem NdS.no:NdS Qlk:=⟨Nat.zero_le _,Nat.zero_le _,λx hx=>by cases hx⟩
theorem Qij{x:TEnt}(h:Yq x 0=true):x.key.length<=1000000/\x.val.length<=1000000:=by grind[Yq]
theorem NdS.of(b:List UInt8)(num:Int):NdS (Xl b num).n:=by
 by_cases h1:b.length=512
 ·by_cases h2:1<=num/\num<=120
  ·cases h3:XB b with
   | true=>rw[Qd5 h1 h2 h3];exact NdS.no
   | false=>
    cases h4:rdB (Q0 b)with
    | none=>rw[QdX h1 h2 h3 h4];exact NdS.no
    | some q=>
     obtain⟨m,last⟩:=q;have e:=QcQ h1 h2 h3 h4;obtain⟨_,_,_,q4,q5,q6⟩:=QaW (YT h1) h4;have hcl:=q6.cl;rw[e];split
     ·exact⟨by show m.es.length<=_;omega,by show m.cs.length<=_;omega,λx hx=>Qij (q6.es x hx)⟩
     ·exact NdS.no
  ·rw[QhS h1 h2];exact NdS.no
 ·rw[Qil h1];exact NdS.no
theorem NdS.bk(x:Ixs)(i:Nat):NdS (bkN x i):=by grind[bkN,NdS.of,NdS.no]
theorem Qcf{x:Ixs}(h:(Qb x.ro).2=0)(k:Nat):∀n∈Xf x k,NdS n:=by
 obtain⟨n0,l0,hr,_,_,hrt,hl,_⟩:=Y1 h;intro n hn;unfold Xf at hn;rw[List.mem_append,hrt]at hn;rcases hn with hn|hn
 ·have hn:n=n0:=by simpa using hn
  subst hn;obtain⟨_,_,_,_,_,q6,q7,q8,_⟩:=Qef om hr;have:=YC x.ro 7;exact⟨om,om,λy hy=>Qij (q8 y hy)⟩
 grind[NdS.bk]
theorem QfP{x:Ixs}(h:(Qb x.ro).2=0){k:Nat}(hk:k<=900):Bd (Xf x k):=by
 obtain⟨n0,l0,_,_,_,hrt,_⟩:=Y1 h;have hl:=Y3 (x:=x) (by rw[hrt];rfl) k;exact⟨om,λi hi=>by have:=(Qcf h k _ (Qz hi)).es;omega,λi hi=>by have:=(Qcf h k _ (Qz hi)).cs;omega⟩
theorem Qjy{x:Ixs}(h:(Qb x.ro).2=0){k:Nat}{L:List LNd}(hL:pln L=Xf x k):∀i,i<L.length->∀y∈(nth L i).es,y.key.length<=1000000/\y.val.length<=1000000:=λi hi y hy=>by
 have h1:=(Qcf h k (nth (pln L) i) (by rw[<-hL];exact Qz (by rwa[Qd]))).ent y;rw[Qr hi]at h1;exact h1 hy
section
variable{w0 w:World}{M:List Nat}{As As':List HA}{a:Option Addr}{cap et nt':Nat}{L:List LNd}
theorem HS.nodes_cap(h:HS w0 M As w)(hp:QD As (.nodes et nt' a cap L) As'):L.length<=cap/\cap<=maxLen:=by
 obtain⟨_,⟨e,h0⟩|⟨g,cap',e,h1,h2,_⟩⟩:=(h.nodes_own hp).head
 ·grind
 grind
end
def Z0:TEnt:=⟨[],[]⟩
def XW(co:Int)(n:Nd)(key:List UInt8):Nat:=(n.cs.getD (plc co n.es key) 0).toNat
def fbI(x:Ixs)(co:Int)(key:List UInt8):Nat->Nd->List Nat->(TEnt×List Nat)×Int
 | 0,_,_=>((Z0,[]),25)
 | f+1,n,P=>
  if Zv co n.es=true then
   if fnd co n.es key=true then((nth n.es (plc co n.es key),P),0)
   else if n.cs.length=0 then((Z0,[]),6)
   else if Yb x (XW co n key)=true then
    if XW co n key∈P then((Z0,[]),25)
    else if(Xl (x.blk (XW co n key)) (XW co n key)).e=0 then fbI x co key f (Xl (x.blk (XW co n key)) (XW co n key)).n (P++[XW co n key])
    else((Z0,[]),(Xl (x.blk (XW co n key)) (XW co n key)).e)
   else((Z0,[]),6)
  else((Z0,[]),3)
def QaC(x:Ixs)(key:List UInt8):(TEnt×List Nat)×Int:=
 if ixE x=0 then
  if QL (Qb x.ro).1.co key=true then fbI x (Qb x.ro).1.co key (x.n+1) (nth (Qb x.ro).1.ns 0) []
  else((Z0,[]),3)
 else((Z0,[]),ixE x)
theorem Qgn{x:Ixs}(h:(Qb x.ro).1.ns.length=1){i:Nat}(h1:1<=i/\i<=x.n):nth (Xf x x.n) i=bkN x i:=by
 apply QS
 grind[Xf]
theorem QnK{x:Ixs}(h:(Qb x.ro).1.ns.length=1):nth (Xf x x.n) 0=nth (Qb x.ro).1.ns 0:=by
 apply QS
 grind[Xf,QV]
theorem QaE{x:Ixs}(h:(rdI x).2=0):ixE x=0/\(rdI x).1.1=QaK x/\(XQ (QaK x)).2=0/\(Qb x.ro).1.ns.length=1/\∀i,1<=i->i<=x.n->bkE x i=0:=by
 have h0:ixE x=0:=by grind[ixE,Qlj]
 have hr:(Qb x.ro).1.ns.length=1:=by
  obtain⟨n0,l0,_,_,_,hrt,_⟩:=Y1 (QbO h0).2.2.1;rw[hrt];rfl
 have hb:∀k,k<=x.n->∀j,j<k->bkE x (j+1)=0:=by
  intro k
  induction k with
  | zero=>exactλ_ j hj=>absurd hj (Nat.not_lt_zero _)
  | succ k ih=>
   intro hk j hj;rcases Nat.lt_or_ge j k with h1|h1
   ·grind
   ·obtain rfl:j=k:=by omega
    by_cases h9:bkE x (j+1)=0
    ·exact h9
    ·rw[Qgq h0 om (ih om) h9]at h;exact absurd h h9
 have ha:=Qli h0 (hb x.n (Nat.le_refl _))
 by_cases h9:(XQ (QaK x)).2=0
 ·rw[if_pos h9]at ha;refine⟨h0,by rw[ha],h9,hr,λi h1 h2=>?_⟩;have:=hb x.n (Nat.le_refl _) (i-1) om
  grind
 grind
structure NdF(n:Nd):Prop where
 sm:NdS n
 cl:n.cs.length=0\/n.cs.length=n.es.length+1
 cs:∀c∈n.cs,1<=c/\c<=120
theorem NdF.of{b:List UInt8}{num:Int}(h:(Xl b num).e=0):NdF (Xl b num).n:=by
 have key:∃n last,rdB (Q0 b)=some (n,last)/\b.length=512/\(Xl b num).n=n:=by grind[Xl,ndE]
 obtain⟨n,last,h4,h1,e⟩:=key;have q6:=(QaW (YT h1) h4).2.2.2.2.2;exact⟨NdS.of b num,by rw[e];exact q6.cl,by rw[e];exact q6.cs⟩
theorem NdF.root{s:List UInt8}(h:(Qb s).2=0):NdF (nth (Qb s).1.ns 0)/\Zv (Qb s).1.co (nth (Qb s).1.ns 0).es=true:=by
 obtain⟨n,last,hr,_,hk,e,hl,_⟩:=Y1 h;obtain⟨_,_,_,_,_,h6,h7,h8,h9⟩:=Qef om hr;have hb:=YC s 7;rw[e];refine⟨⟨⟨by show n.es.length<=_;omega,by show n.cs.length<=_;omega,λx hx=>Qij (h8 x hx)⟩,by show n.cs.length=0\/n.cs.length=n.es.length+1;omega,h9⟩,Qdd λi hi=>?_⟩;have h1:=Qbn.1 hk i hi;unfold QaT at h1;rw[Bool.and_eq_true]at h1;exact h1.1
theorem NdF.kid{n:Nd}(h:NdF n)(hc:¬n.cs.length=0)(co:Int)(key:List UInt8):plc co n.es key<n.cs.length/\((XW co n key:Nat):Int)=n.cs.getD (plc co n.es key) 0/\1<=XW co n key/\XW co n key<=120:=by
 have h1:=h.cl.resolve_left hc;have h2:=Qat co key n.es;have h3:plc co n.es key<n.cs.length:=om
 have h4:n.cs.getD (plc co n.es key) 0∈n.cs:=by grind
 have h5:=h.cs _ h4
 grind[XW]
theorem QqP{co:Int}{es:List TEnt}{key:List UInt8}{m:Nat}(h:m<es.length):plc co (es.drop m) key=if QN co (nth es m).key key<0 then plc co (es.drop (m+1)) key+1 else 0:=by
 rw[List.drop_eq_getElem_cons h,plc,show es[m]=nth es m from(QS (List.getElem?_eq_getElem h)).symm]
section
variable{x:Ixs}{co:Int}{key:List UInt8}{f:Nat}{n:Nd}{P:List Nat}
theorem Qt5(h:Zv co n.es=false):fbI x co key (f+1) n P=((Z0,[]),3):=by rw[fbI,if_neg (by rw[h];decide)]
theorem Qt9(h:Zv co n.es=true)(h1:fnd co n.es key=true):fbI x co key (f+1) n P=((nth n.es (plc co n.es key),P),0):=by rw[fbI,if_pos h,if_pos h1]
theorem Qsm(h:Zv co n.es=true)(h1:¬fnd co n.es key=true)(h2:n.cs.length=0):fbI x co key (f+1) n P=((Z0,[]),6):=by rw[fbI,if_pos h,if_neg h1,if_pos h2]
theorem Qtu(h:Zv co n.es=true)(h1:¬fnd co n.es key=true)(h2:¬n.cs.length=0)(h3:Yb x (XW co n key)=true)(h4:¬XW co n key∈P)(h5:¬(Xl (x.blk (XW co n key)) (XW co n key)).e=0):fbI x co key (f+1) n P=((Z0,[]),(Xl (x.blk (XW co n key)) (XW co n key)).e):=by rw[fbI,if_pos h,if_neg h1,if_neg h2,if_pos h3,if_neg h4,if_neg h5]
theorem Qr4(h:Zv co n.es=true)(h1:¬fnd co n.es key=true)(h2:¬n.cs.length=0)(h3:Yb x (XW co n key)=true)(h4:¬XW co n key∈P)(h5:(Xl (x.blk (XW co n key)) (XW co n key)).e=0):fbI x co key (f+1) n P=fbI x co key f (Xl (x.blk (XW co n key)) (XW co n key)).n (P++[XW co n key]):=by rw[fbI,if_pos h,if_neg h1,if_neg h2,if_pos h3,if_neg h4,if_pos h5]
theorem QuP(h:Zv co n.es=true)(h1:¬fnd co n.es key=true)(h2:¬n.cs.length=0){e:Int}(he:e=if Yb x (XW co n key)=true then if XW co n key∈P then 25 else 0 else 6)(h0:¬e=0):fbI x co key (f+1) n P=((Z0,[]),e):=by grind[fbI]
end
theorem Qes{x:Ixs}{c:Nat}(h:Yb x c=true):1<=c/\c<=x.n/\c*512<=x.al.length:=by
 unfold Yb at h;rw[Bool.and_eq_true]at h;have h1:=of_decide_eq_true h.1;have h2:x.n=x.al.length/512:=rfl;omega
theorem QnT{n f:Nat}{P:List Nat}(hd:P.Nodup)(hr:∀i∈P,1<=i/\i<=n)(h:P.length+f=n+1):∃g,f=g+1:=by
 have h1:=Qee (n+1) (0::P) (List.nodup_cons.2 ⟨λh0=>by have:=hr 0 h0;omega,hd⟩) (λi hi=>by
  rcases List.mem_cons.1 hi with rfl|hi
  ·omega
  ·have:=hr i hi;omega)
 rw[List.length_cons]at h1;exact⟨f-1,om⟩
theorem Qso{co:Int}{es:List TEnt}{key:List UInt8}(h:fnd co es key=true):plc co es key<es.length:=by grind[fnd]
theorem Qls{P:List Nat}{c:Nat}(h:P.Nodup)(hc:¬c∈P):(P++[c]).Nodup:=by grind
section
variable{w0 w:World}{M:List Nat}{As As':List HA}{et nt' cap g:Nat}{x:LNd}
theorem Qhe(h:HS w0 M As w)(hp:QD As (.nodes et nt' (some ⟨g,0,none⟩) cap [x]) As'):HS w0 M (.blk g nt' (cap*3) (LNd.vals x)::.ents et x.ea x.ec x.es::.kids x.ca x.cc x.cs::As') w:=by
 have h1:=HS.nodes_open h hp;have h2:=HS.own_at h1 .here;have h3:HS w0 M (.star [QB et x]::.blk g nt' (cap*3) (LNd.vals x++[])::As') w:=h2.perm (List.Perm.swap ..);rw[List.append_nil]at h3;have h4:HS w0 M ([.ents et x.ea x.ec x.es,.kids x.ca x.cc x.cs]++(.blk g nt' (cap*3) (LNd.vals x)::As')) w:=HS.star_open (HS.star_open h3);exact h4.perm (List.perm_middle (l₁:=[_,_]))
end
end Gx
