/- Contracts of the program's functions, proved by walking them with the rules of the Gx texts; without conditions beyond those that each contract names. -/
import Derived.WalkKit
import Derived.Deep.Draws
import Derived.TacticsIn
import Derived.OrdersIn
import Derived.RangeFuncLeaves
import Derived.Lib.Strings
import Derived.Laws.BytesArg
import Derived.Laws.IdiomStrings
import Derived.Deep.Quiet
import Derived.Laws.StructEq
import Derived.ChangeKeysEq
import Derived.Laws.Externs
import Derived.Lib.Overlaps
import Derived.Carry
import Derived.Laws.Small
import Derived.Lib.Bytealg
import Derived.Lib.Builder
import Derived.Laws.Pointers
import Derived.RangeFuncRecord
import Derived.Test.YtldegbfcaelpdaaGreatDoorProg
import Derived.KernelRfl
import Derived.ProofKit
import Derived.OpenShut
import Derived.Lib.UnsafeStr
import Derived.LaidEqlPtr
import Derived.Shelf.Strings.Builder1
import Derived.Shelf.Strings.Builder2
import Derived.Shelf.Strings.Trim
import Derived.Shelf.Small.Utf8
import Derived.Shelf.Small.Strs
import Derived.Shelf.Strings.BuilderF
import Derived.Shelf.Strings.BuilderK
import Derived.Shelf.Strings.Builder2Cap
import Derived.Shelf.Strings.Search1
import Derived.Shelf.Strings.Prefix
import Derived.Shelf.Unicode.Decode
import Derived.Shelf.Strings.Runes
import Derived.Shelf.Strings.AsciiSet
import Derived.Shelf.Bits.Mul64
import Derived.Shelf.Strings.Repeat
import Derived.Shelf.Unicode.DecodeSlow
import Derived.Shelf.Unicode.DecodeAny
import Derived.Shelf.Unicode.DecodeLast
import Derived.Shelf.Slices.Turned
import Derived.Shelf.Slices.Reverse
import Derived.Ground.Names2Prog
import Derived.Shelf.Slices.Clone
import Derived.Shelf.Slices.Cells
import Derived.Ground.SlgnProg
import Derived.Shelf.SlicesE.Reverse
import Derived.Shelf.SlicesE.Clone
import Derived.Test.YtldegbfcaelpdaaGreatDoorTie
import Derived.Test.YtldegbfcaelpdaaGreatDoorCards
import Derived.SevenTiedAt
import Derived.LaidMore
import Derived.Lay
import Derived.Stop.Joined
import Derived.Test.YtldegbfcaelpdaaGreatDoorP0
set_option linter.unusedSimpArgs false
set_option maxHeartbeats 1000000
set_option linter.unusedVariables false
set_option linter.unusedSectionVars false
set_option linter.unnecessarySimpa false
namespace Gx
open Go Go.RowKit
section
variable{S:Type}(st:S->Vis->S)(er:S->Vis->Int×Int)
def Xc:S->List Vis->(Int×Int)×S
 | s,[]=>((0,0),s)
 | s,v::vs=>if(er s v).2=0 then Xc (st s v) vs else(er s v,st s v)
theorem QaC:∀(A B:List Vis)(s:S),Xc st er s (A++B)=if(Xc st er s A).1.2=0 then Xc st er (Xc st er s A).2 B else Xc st er s A
 | [],B,s=>rfl
 | v::A,B,s=>by
  rw[List.cons_append,Xc,Xc]
  by_cases h:(er s v).2=0
  ·simp_all[QaC]
  grind
theorem Qk9{A B:List Vis}{s:S}(h:¬(Xc st er s A).1.2=0):Xc st er s (A++B)=Xc st er s A:=by rw[QaC,if_neg h]
theorem QhM{A B:List Vis}{s:S}(h:(Xc st er s A).1.2=0):Xc st er s (A++B)=Xc st er (Xc st er s A).2 B:=by rw[QaC,if_pos h]
theorem QjH:∀{A:List Vis}{s:S},(Xc st er s A).1.2=0->(Xc st er s A).1=(0,0)
 | [],s,_=>rfl
 | v::A,s,h=>by
  rw[Xc]at h ⊢;split at h
  ·simp_all[QjH]
  grind
end
def Xl(ns:List Nd)(v:Vis)(k:Nat):Vis:=⟨((nth ns v.i).cs.getD k 0).toNat,v.d+1,loK (nth ns v.i).es k v.lo,hiK (nth ns v.i).es k v.hi⟩
def ZX(ns:List Nd)(f:Nat)(v:Vis)(k:Nat):List Vis:=v::(List.range k).flatMap λk=>vis ns f (Xl ns v k)
theorem Qhq(ns:List Nd)(f:Nat)(v:Vis):ZX ns f v 0=[v]:=rfl
theorem Xu(ns:List Nd)(f:Nat)(v:Vis)(k:Nat):ZX ns f v (k+1)=ZX ns f v k++vis ns f (Xl ns v k):=by
 unfold ZX;rw[List.range_succ,List.flatMap_append,List.flatMap_singleton];rfl
theorem YA(ns:List Nd)(f:Nat)(v:Vis):vis ns (f+1) v=ZX ns f v (nth ns v.i).cs.length:=rfl
theorem ZG(ns:List Nd)(f:Nat)(v:Vis){k m:Nat}(h:k<=m):∃B,ZX ns f v m=ZX ns f v k++B:=by
 induction m with
 | zero=>simp_all
 | succ m ih=>
  rcases Nat.lt_or_ge m k with h1|h1
  ·obtain rfl:k=m+1:=by omega
   simp_all
  grind[vis,Xl,Xu]
theorem ZC{ns:List Nd}{i:Nat}{P:List Nat}(h:Way ns (i::P))(hi:i<ns.length){k:Nat}(hk:k<(nth ns i).cs.length)(hc:0<=(nth ns i).cs.getD k 0):Way ns (((nth ns i).cs.getD k 0).toNat::i::P):=by
 refine⟨⟨?_,hi⟩,h⟩
 grind
theorem QaJ{co:Int}{ns:List Nd}(ht:TOk co ns){i k:Nat}(hi:i<ns.length)(hk:k<(nth ns i).cs.length):1<=(nth ns i).cs.getD k 0/\(nth ns i).cs.getD k 0<=(ns.length:Int)-1/\(nth ns ((nth ns i).cs.getD k 0).toNat).us=true:=by
 have hm:(nth ns i).cs.getD k 0∈(nth ns i).cs:=by grind
 have h:=ht.kid i hi _ hm
 grind
def Zp(co:Int)(ns:List Nd)(key:List UInt8):Nat->Nat->List Nat×Nat×Bool
 | 0,_=>([],0,false)
 | f+1,i=>if fnd co (nth ns i).es key=true\/(nth ns i).cs.length=0 then([i],plc co (nth ns i).es key,fnd co (nth ns i).es key)
   else(i::(Zp co ns key f ((nth ns i).cs.getD (plc co (nth ns i).es key) 0).toNat).1,(Zp co ns key f ((nth ns i).cs.getD (plc co (nth ns i).es key) 0).toNat).2)
def Qu(co:Int)(ns:List Nd)(key:List UInt8):List Nat×Nat×Bool:=Zp co ns key ns.length 0
structure Bd(ns:List Nd):Prop where
 len:ns.length<=1000
 es:∀i,i<ns.length->(nth ns i).es.length<=1000
 cs:∀i,i<ns.length->(nth ns i).cs.length<=1000
theorem Qd(L:List LNd):(pln L).length=L.length:=by simp
theorem QB{L:List LNd}{i:Nat}(h:i<L.length):nth (pln L) i=(nth L i).pl:=by simp_all[Xr,XO]
theorem Qlx(L M:List LNd):pln (L++M)=pln L++pln M:=by simp
def Zo(w:World)(M:List Nat)(p:Option Addr)(o:Option (List UInt8)):Prop:=match o with
 | none=>p=none
 | some k=>∃b off,p=some ⟨b,off,none⟩/\Rd w M b off (.string (bs k))
theorem Zo.keep{w w':World}{M:List Nat}{As:List HA}{p:Option Addr}{o:Option (List UInt8)}(h:Zo w M p o)(hs:HS w M As w'):Zo w' (fps As) p o:=by
 cases o with
 | none=>exact h
 | some k=>
  obtain⟨b,off,e,hr⟩:=h;exact⟨b,off,e,hs.keep hr⟩
theorem Zo.mono{w:World}{M M':List Nat}{p:Option Addr}{o:Option (List UInt8)}(h:Zo w M p o)(hM:∀b∈M',b∈M):Zo w M' p o:=by
 cases o with
 | none=>exact h
 | some k=>
  obtain⟨b,off,e,hr⟩:=h;exact⟨b,off,e,hr.mono hM⟩
theorem Zo.of_some{w:World}{M:List Nat}{p:Option Addr}{o:Option (List UInt8)}(h:Zo w M p o)(hp:p.isSome=true):∃k b off,o=some k/\p=some ⟨b,off,none⟩/\Rd w M b off (.string (bs k)):=by
 cases o with
 | none=>
  have:p=none:=h
  grind
 | some k=>
  obtain⟨b,off,e,hr⟩:=h
  grind
theorem Zo.of_none{w:World}{M:List Nat}{p:Option Addr}{o:Option (List UInt8)}(h:Zo w M p o)(hp:p.isSome=false):o=none:=by
 cases o with
 | none=>rfl
 | some k=>
  obtain⟨b,off,e,hr⟩:=h;subst e;cases hp
theorem QS{As Cs Ds:List HA}(h:Zj As Cs Ds):∀b∈fps Cs,b∈fps As:=λb hb=>by
 obtain⟨A,hA,hb⟩:=List.mem_flatMap.1 hb;exact List.mem_flatMap.2 ⟨A,(List.Perm.mem_iff h).2 (List.mem_append_left _ hA),hb⟩
theorem HS.rd_blkF{w0 w:World}{M:List Nat}{As Cs Ds Es:List HA}{b i t tot:Nat}{cs:List Value}{v:Value}(h:HS w0 M As w)(hp:Zj As Cs Ds)(hp2:QG Ds (.blk b t tot cs) Es)(hv:cs[i]?=some v):Rd w (fps Cs) b i v:=by
 have h1:HS w0 M (Cs++Ds) w:=h.perm hp;refine⟨(h1.ok _ (List.mem_append_right _ hp2.mem)|>Q9.lt),λhb=>?_,Q9.cell (h1.ok _ (List.mem_append_right _ hp2.mem)) hv⟩;obtain⟨A,hA,hb⟩:=List.mem_flatMap.1 hb;exact(List.pairwise_append.1 h1.sep).2.2 A hA _ hp2.mem b hb (List.mem_singleton.2 rfl)
section
variable(t:Tre)(i:Nat)
def nE1:Int:=if((nth t.ns i).es.length:Int)<=X4 t.mo t.rm i then if(nth t.ns i).cs.length=0\/(nth t.ns i).cs.length=(nth t.ns i).es.length+1 then 0 else 10 else 16
def nE2:Int:=if nE1 t i=0 then YP t.co (nth t.ns i).es else nE1 t i
def nE3(seen:List Int):Int×List Int:=if nE2 t i=0 then XA t.ns (nth t.ns i).cs seen else(nE2 t i,seen)
def nE4(seen:List Int):Int:=if(nE3 t i seen).1=0 then ZU t.co (nth t.ns i).es else(nE3 t i seen).1
theorem QeU{seen:List Int}(h:(nth t.ns i).us=true):Xp t i seen=(nE4 t i seen,(nE3 t i seen).2):=by
 unfold Xp nE4 nE3 nE2 nE1
 grind
theorem Qou(h:nE2 t i=0):YP t.co (nth t.ns i).es=0:=by grind[nE2]
theorem QmE{seen:List Int}(h:(nE3 t i seen).1=0):nE2 t i=0:=by grind[nE3]
end
def Qby(ns:List Nd)(c:Int):Prop:=(1<=c/\c<=(ns.length:Int)-1)/\(nth ns c.toNat).us=true
instance(ns:List Nd)(c:Int):Decidable (Qby ns c):=inferInstanceAs (Decidable (_/\_))
def QaN(ns:List Nd)(c:Int)(seen:List Int):Int:=if Qby ns c then if c∈seen then 23 else 0 else 6
def Qb8(ns:List Nd)(c:Int)(seen:List Int):List Int:=if Qby ns c then c::seen else seen
theorem Z7(ns:List Nd)(c:Int)(cs seen:List Int):XA ns (c::cs) seen=if QaN ns c seen=0 then XA ns cs (Qb8 ns c seen)else(QaN ns c seen,Qb8 ns c seen):=by grind[QaN,Qb8,XA,Qby,nth]
theorem Qa2{cs:List Int}{k:Nat}(h:k<cs.length):cs.drop k=cs.getD k 0::cs.drop (k+1):=by simp_all
theorem QaU{co:Int}{es:List TEnt}{k:Nat}(h:k<es.length):(es.map (Yj co)).getD k 0=Yj co (nth es k):=by
 rw[Y6 (d:=default) h];rfl
theorem QaI{co:Int}{es:List TEnt}{k:Nat}(h:k<es.length):((List.range es.length).map (ZO co es)).getD k 0=ZO co es k:=by grind
theorem Qav{co:Int}{x:TEnt}(h:Yj co x=0):QE co x.key=true:=by grind[Yj,X6]
theorem Qfe{co:Int}{k:List UInt8}(h:QE co k=true):1<=k.length/\k.length<=40:=by grind[QE]
theorem HS.thenF{w w1 w2:World}{M:List Nat}{As Bs:List HA}(h:HS w M As w1)(hc:HS w1 (fps As) Bs w2):HS w M Bs w2:=by
 have h1:HS w M (As++[]) w1:=by rw[List.append_nil];exact h
 have h2:=h1.callM (Mc:=fps As) (λb hb=>by obtain⟨A,hA,hb⟩:=List.mem_flatMap.1 hb;exact⟨A,hA,hb⟩) hc
 grind
def QeR(cs:List Int)(n:Int):List Bool:=cs.map λc=>decide (n=c)
theorem QaR(cs:List Int)(n:Int):(QeR cs n).length=cs.length:=by simp[QeR]
theorem QgA{cs:List Int}{n:Int}{k:Nat}(h:k<cs.length):(QeR cs n).getD k false=decide (n=cs.getD k 0):=by grind[QeR,Y6]
theorem QjN(cs:List Int)(n:Int):(QeR cs n).any id=decide (n∈cs):=by
 unfold QeR;rw[List.any_map]
 grind
def YT(t:Tre)(v:Vis):Bool:=decide (0<v.i)&&(decide (((nth t.ns v.i).es.length:Int)<t.mo/2)||((decide ((nth t.ns 0).es.length=0)&&decide ((v.i:Int)∈(nth t.ns 0).cs))&&decide (((nth t.ns v.i).es.length:Int)<=t.rm)))
def YU(t:Tre)(v:Vis)(x:TEnt):Bool:=(v.lo.any λb=>decide (0<=QI t.co b x.key))||(v.hi.any λb=>decide (0<=QI t.co x.key b))
def YE(t:Tre)(v:Vis):Bool:=(nth t.ns v.i).es.any (YU t v)
def erV(t:Tre)(s:Int)(v:Vis):Int×Int:=((v.i:Int),if YT t v=true then 14 else if YE t v=true then 9 else if(nth t.ns v.i).cs.length=0 then(if(if s=0 then v.d else s)=v.d then 0 else 22)else 0)
def stV(t:Tre)(s:Int)(v:Vis):Int:=if YT t v=true then s else if YE t v=true then s else if(nth t.ns v.i).cs.length=0 then(if s=0 then v.d else s)else s
theorem Qah(t:Tre)(deep:Int)(v:Vis):Qbu t deep v=if YT t v=true then 14 else if YE t v=true then 9 else if(nth t.ns v.i).cs.length=0/\v.d≠deep+1 then 22 else 0:=by
 unfold Qbu;simp only[];have h:YT t v=true ↔ (0<v.i/\(((nth t.ns v.i).es.length:Int)<t.mo/2\/((nth t.ns 0).es.length=0/\(v.i:Int)∈(nth t.ns 0).cs)/\((nth t.ns v.i).es.length:Int)<=t.rm)):=by grind[YT]
 by_cases h1:YT t v=true
 ·grind
 ·rw[if_neg (λh2=>h1 (h.2 h2)),if_neg h1];rfl
theorem QeV(t:Tre):∀(vs:List Vis)(s:Int),s≠0->(Xc (stV t) (erV t) s vs).1=XC t (s-1) vs
 | [],s,_=>rfl
 | v::vs,s,hs=>by
  have he:(erV t s v).2=Qbu t (s-1) v:=by grind[Qah,erV,YT,YE,nth]
  have hst:stV t s v=s:=by grind[stV]
  rw[Xc,XC,he,hst];split
  ·exact QeV t vs s hs
  grind[erV]
theorem Qfh{t:Tre}(hT:TOk t.co t.ns)(h0:0<t.ns.length)(deep:Int):∀(f:Nat)(v:Vis)(P:List Nat)(rest:List Vis),Gx.Way t.ns (v.i::P)->P.length+f=t.ns.length->1<=v.d->deep+1=v.d+Yn t.ns f v.i->(Xc (stV t) (erV t) 0 (vis t.ns f v++rest)).1=XC t deep (vis t.ns f v++rest)
 | 0,v,P,rest,hw,hf,_,_=>by
  have:=XD hT h0 hw
  grind
 | f+1,v,P,rest,hw,hf,hd,he=>by
  have hi:=ZE hT h0 hw v.i (List.mem_cons_self ..);rw[Yn]at he;rw[vis,List.cons_append,Xc,XC,Qah]
  by_cases h1:YT t v=true
  ·grind[erV]
  ·rw[if_neg h1]
   by_cases h2:YE t v=true
   ·grind[erV]
   ·rw[if_neg h2]
    by_cases h3:(nth t.ns v.i).cs.length=0
    ·grind[erV,stV,nth,QeV]
    ·rw[if_neg h3]at he;have e1:(erV t 0 v).2=0:=by unfold erV;simp only[if_neg h1,if_neg h2,if_neg h3]
     have e2:stV t 0 v=0:=by unfold stV;rw[if_neg h1,if_neg h2,if_neg h3]
     have hk:=QaJ hT hi (k:=0) om;have e3:(if(nth t.ns v.i).cs.length=0/\v.d≠deep+1 then(22:Int)else 0)=0:=if_neg (λh5=>h3 h5.1);rw[e1,if_pos rfl,e2,e3,if_pos rfl];obtain⟨m,hm⟩:∃m,(nth t.ns v.i).cs.length=m+1:=⟨(nth t.ns v.i).cs.length-1,om⟩;rw[hm,List.range_succ_eq_map,List.flatMap_cons,List.append_assoc];refine Qfh hT h0 deep f _ (v.i::P) _ (ZC hw hi om om) (by simp only[List.length_cons];omega) (by show 1<=v.d+1;omega) ?_
     grind
theorem run_shape{t:Tre}(hT:TOk t.co t.ns)(h0:0<t.ns.length):(Xc (stV t) (erV t) 0 (XX t.ns)).1=XC t (Yn t.ns t.ns.length 0) (XX t.ns):=by
 have h:=Qfh hT h0 (Yn t.ns t.ns.length 0) t.ns.length Zh [] [] rfl (by simp) (by decide) (by show _=1+_;rw[show Zh.i=0 from rfl];omega);rw[List.append_nil]at h;exact h
def QeK(s:List Bool)(v:Vis):List Bool:=s.set v.i true
theorem Qir:∀(vs:List Vis)(s:List Bool),(Xc QeK (λ_ _=>(0,0)) s vs).1=(0,0)/\(Xc QeK (λ_ _=>(0,0)) s vs).2.length=s.length/\∀i,i<s.length->(Xc QeK (λ_ _=>(0,0)) s vs).2.getD i false=(s.getD i false||decide (i∈vs.map Vis.i))
 | [],s=>⟨rfl,rfl,λi _=>by simp[Xc]⟩
 | v::vs,s=>by
  obtain⟨h1,h2,h3⟩:=Qir vs (QeK s v)
  grind[Xc,QeK,hi]
theorem Qf6{S:Type}{st:S->Vis->S}{er:S->Vis->Int×Int}{I:S->Prop}(hI:∀s v,I s->I (st s v)):∀(vs:List Vis)(s:S),I s->I (Xc st er s vs).2
 | [],s,h=>h
 | v::vs,s,h=>by
  rw[Xc];split
  ·simp_all[Qf6]
  ·exact hI _ _ h
def KOk(co:Int)(o:Option (List UInt8)):Prop:=∀k,o=some k->QE co k=true/\k.length<=1000000
theorem Qb3{co:Int}{ns:List Nd}(hT:TOk co ns){i:Nat}(hi:i<ns.length):∀x∈(nth ns i).es,QE co x.key=true/\x.key.length<=1000000:=λx hx=>by
 have h:=Qav (hT.ents i hi x hx)
 grind[Qfe]
theorem Qdy{co:Int}{ns:List Nd}(hT:TOk co ns){v:Vis}(hi:v.i<ns.length){k:Nat}(hk:k<=(nth ns v.i).es.length)(h:KOk co v.lo):KOk co (Xl ns v k).lo:=by
 intro x hx;unfold Xl loK at hx;simp only[]at hx;split at hx
 ·grind[Qb3,hi,QA]
 ·exact h x hx
theorem Qet{co:Int}{ns:List Nd}(hT:TOk co ns){v:Vis}(hi:v.i<ns.length){k:Nat}(h:KOk co v.hi):KOk co (Xl ns v k).hi:=by
 intro x hx;unfold Xl hiK at hx;simp only[]at hx;split at hx
 ·grind[Qb3,hi,QA]
 ·exact h x hx
def Qak(t:Tre):Int×Int:=match Zq t.ns ((XX t.ns).map Vis.i) t.ns.length 0 with
 | some i=>((i:Int),21)
 | none=>XC t (Yn t.ns t.ns.length 0) (XX t.ns)
theorem Qho{t:Tre}{deep:Int}:∀{vs:List Vis},(XC t deep vs).2=0->XC t deep vs=(0,0)
 | [],_=>rfl
 | v::vs,h=>by
  rw[XC]at h ⊢;split at h
  ·simp_all[Qho]
  grind
theorem Qio{t:Tre}(h:(Qak t).2=0):(Qak t).1=0:=by grind[Qak,Qho]
def Yz(n:Nat):Int:=if 0<n then if n<=120 then 0 else 8 else 10
theorem Qbc{t:Tre}(h:¬(if QL t.co=0 then Yy t.mo t.rm else QL t.co)=0):Ql t=(0,if QL t.co=0 then Yy t.mo t.rm else QL t.co):=by grind[Ql,QL,Yy]
theorem QfA{t:Tre}(h:(if QL t.co=0 then Yy t.mo t.rm else QL t.co)=0):QL t.co=0/\Yy t.mo t.rm=0:=by grind
theorem Qab{mo rm:Int}(h:Yy mo rm=0):(3<=mo/\mo<=8)/\(mo/2<=rm/\rm<=mo):=by grind[Yy]
theorem QbX{t:Tre}(h:(if QL t.co=0 then Yy t.mo t.rm else QL t.co)=0)(h2:¬Yz t.ns.length=0):Ql t=(0,Yz t.ns.length):=by grind[QfA,Ql,Yz]
theorem Qhk{n:Nat}(h:Yz n=0):0<n/\n<=120:=by grind[Yz]
theorem QcB{t:Tre}(h:(if QL t.co=0 then Yy t.mo t.rm else QL t.co)=0)(h2:Yz t.ns.length=0):Ql t=if(Xw t t.ns.length 0 []).2=0 then Qak t else Xw t t.ns.length 0 []:=by
 obtain⟨h3,h4⟩:=QfA h;obtain⟨h5,h6⟩:=Qhk h2;unfold Ql;rw[if_pos h3,if_pos h4,if_pos h5,if_pos h6];rfl
theorem Zd{t:Tre}(h:(Ql t).2=0):QL t.co=0/\Yy t.mo t.rm=0/\0<t.ns.length/\t.ns.length<=120/\(Xw t t.ns.length 0 []).2=0/\(Qak t).2=0/\Ql t=(0,0):=by
 by_cases h1:(if QL t.co=0 then Yy t.mo t.rm else QL t.co)=0
 ·grind[Yz,QcB,QfA,Qhk,Qio,QbX]
 grind[Qbc]
theorem Qkp{l:List Bool}{k:Nat}(h:k<l.length):(l.map Value.bool)[k]?=some (.bool (l.getD k false)):=by grind
theorem Qds{t:Tre}{k:Nat}{seen:List Int}(h:k<t.ns.length):Xw t (t.ns.length-k) k seen=if(Xp t k seen).1=0 then Xw t (t.ns.length-(k+1)) (k+1) (Xp t k seen).2 else((k:Int),(Xp t k seen).1):=by
 rw[show t.ns.length-k=t.ns.length-(k+1)+1 by omega,Xw]
theorem QeY{ns:List Nd}{below:List Nat}{k:Nat}(h:k<ns.length):Zq ns below (ns.length-k) k=if(nth ns k).us=true/\k ∉ below then some k else Zq ns below (ns.length-(k+1)) (k+1):=by
 rw[show ns.length-k=ns.length-(k+1)+1 by omega,Zq]
theorem QbO{t:Tre}{i:Nat}(h:Zq t.ns ((XX t.ns).map Vis.i) t.ns.length 0=some i):Qak t=((i:Int),21):=by
 unfold Qak;rw[h]
theorem QbQ{t:Tre}(h:Zq t.ns ((XX t.ns).map Vis.i) t.ns.length 0=none):Qak t=XC t (Yn t.ns t.ns.length 0) (XX t.ns):=by
 unfold Qak;rw[h]
theorem Ql6{l:List LNd}{k:Nat}(hk:k<l.length)(ea:Option Addr)(ec:Nat)(es:List TEnt):QK (l.flatMap LNd.vals) (k*3+1) [.slice ea es.length ec]=(l.set k {nth l k with ea:=ea,ec:=ec,es:=es}).flatMap LNd.vals:=
 Qb4 nv3 l k 1 _ (nth l k) _ (XO hk) rfl (by simp)
theorem QlE{l:List LNd}{k:Nat}(hk:k<l.length)(ca:Option Addr)(cc:Nat)(cs:List Int):QK (l.flatMap LNd.vals) (k*3+2) [.slice ca cs.length cc]=(l.set k {nth l k with ca:=ca,cc:=cc,cs:=cs}).flatMap LNd.vals:=
 Qb4 nv3 l k 2 _ (nth l k) _ (XO hk) rfl (by simp)
theorem Qi7{l:List LNd}{k:Nat}(hk:k<l.length)(ea:Option Addr)(ec:Nat)(es:List TEnt)(ca:Option Addr)(cc:Nat)(cs:List Int):QK (QK (l.flatMap LNd.vals) (k*3+1) [.slice ea es.length ec]) (k*3+2) [.slice ca cs.length cc]=(l.set k ⟨(nth l k).us,ea,ec,es,ca,cc,cs⟩).flatMap LNd.vals:=by simp_all[Ql6,QlE,Qg6]
theorem Qiq{l m:List LNd}{k:Nat}(hl:l.length=k)(hk:k<m.length):nth (l++m.drop k) k=nth m k:=by
 apply Xr
 grind[XO]
theorem Qmi{l m:List LNd}{k:Nat}(hl:l.length=k)(hk:k<m.length)(x:LNd):(l++m.drop k).set k x=l++[x]++m.drop (k+1):=by
 rw[List.set_append_right _ _ om,hl,Nat.sub_self,List.drop_eq_getElem_cons hk,List.set_cons_zero,List.append_assoc];rfl
theorem Qgt{L:List LNd}{k:Nat}(hk:k<L.length){D:List LNd}(hD:pln D=(pln L).take k){x:LNd}(hx:x.pl=(nth L k).pl):pln (D++[x])=(pln L).take (k+1):=by
 rw[Qlx,hD,List.take_succ_eq_append_getElem (by rw[Qd];exact hk)]
 simp_all[pln,Qd,nth,Xr,QB]
end Gx
namespace Gx
open Go Go.RowKit
section
variable{P:Program}{o:Oper}{L:Qh}{w0:World}{M:List Nat}{As As':List HA}
def Qgl(P:Program)(t te:TypeId):Prop:=P.underlying t=some (.pointer te)/\∃j,P.info? te=some j/\j.size≠0
theorem Qia{t te:TypeId}{n:Nat}{b:Bool}(h:P.underlying t=some (.pointer te))(h2:tsz P te=some (n,b))(hn:n≠0):Qgl P t te:=by
 refine⟨h,?_⟩
 grind[tsz,hi]
theorem ptee{t te:TypeId}(h:P.underlying t=some (.pointer te)):P.underlying t=some (.pointer (P.pointee t)):=by
 rw[h];simp[Program.pointee,h]
theorem QeW{t t' te:TypeId}{x y:Operand}{p:Option Addr}(ho:o.op=.binOp .eql t x y t')(hx:ev L x=some (.pointer p))(hy:ev L y=some (.pointer none))(ht:Qgl P t te):OpP P o L (.bool p.isNone):=by
 intro ρ w hρ;have hg:(eqGuard .eql t x y (.pointer p) (.pointer none)).run P w=.ok () w:=by unfold eqGuard;simp
 simp only[execOp,ho,hρ _ _ hx,hρ _ _ hy,Sem.run_bind,hg,run_eql_pointer_nil w t p (ptee ht.1),Result.andThen_ok,Sem.run_pure]
theorem QdR{t t' te:TypeId}{x y:Operand}{a:Addr}(ho:o.op=.binOp .neq t x y t')(hx:ev L x=some (.pointer (some a)))(hy:ev L y=some (.pointer (some a)))(ht:Qgl P t te):OpP P o L (.bool false):=by
 intro ρ w hρ;obtain⟨h1,j,h2,_⟩:=ht;have hg:(eqGuard .neq t x y (.pointer (some a)) (.pointer (some a))).run P w=.ok () w:=by unfold eqGuard;simp
 simp only[execOp,ho,hρ _ _ hx,hρ _ _ hy,Sem.run_bind,hg,Lib.run_neq_ptr_same w a h1 h2,Result.andThen_ok,Sem.run_pure]
theorem QdF{t t' te:TypeId}{x y:Operand}{p:Option Addr}(ho:o.op=.binOp .neq t x y t')(hx:ev L x=some (.pointer p))(hy:ev L y=some (.pointer none))(ht:Qgl P t te):OpP P o L (.bool p.isSome):=by
 intro ρ w hρ;have hg:(eqGuard .neq t x y (.pointer p) (.pointer none)).run P w=.ok () w:=by unfold eqGuard;simp
 have h:=run_neq_pointer_nil w t p (ptee ht.1);simp only[execOp,ho,hρ _ _ hx,hρ _ _ hy,Sem.run_bind,hg,h,Result.andThen_ok,Sem.run_pure];cases p<;>rfl
end
end Gx
namespace Gx
open Go Go.RowKit
section
variable{w0 w:World}{M:List Nat}{As As' As'':List HA}{gn cap et nt':Nat}{a:Option Addr}{L:List LNd}
theorem Qf5(h0:0<L.length)(h:HS w0 M As w)(hp:QG As (.nodes et nt' a cap L) As'):∃gn,a=some ⟨gn,0,none⟩/\L.length<=cap/\cap<=maxLen/\HS w0 M (.blk gn nt' (cap*3) (L.flatMap LNd.vals)::.star (L.map (YJ et))::As') w:=by
 have h1:=HS.row_open (h.pick hp);obtain⟨gn,e,_,h2,h3,_,h4⟩:=h1.own_blk h0 .here
 grind
theorem HS.nt_at(h:HS w0 M As w)(hp:QG As (.blk gn nt' (cap*3) (L.flatMap LNd.vals)) As')(hp2:QG As' (.star (L.map (YJ et))) As''):Nt w [] (some ⟨gn,0,none⟩) L:=by
 refine⟨h.rw_blk nv3 hp,λn hn=>?_⟩;obtain⟨i,hi,e⟩:=List.getElem_of_mem hn;have e2:nth L i=n:=Xr (by rw[List.getElem?_eq_getElem hi,e]);have h2:=HS.sub_open hi ((h.pick hp).tail.pick hp2);rw[e2]at h2;have h3:=HS.star_open h2;exact⟨h3.rw_own ev2 .here rfl,h3.rw_own iv1 (.there .here) rfl⟩
theorem HS.node_out{i:Nat}(hi:i<L.length)(h:HS w0 M As w)(hp:QG As (.star (L.map (YJ et))) As'):HS w0 M (.own (.slice (nth L i).ea (nth L i).es.length (nth L i).ec) et 2 (nth L i).es.length ((nth L i).es.flatMap TEnt.vals)::.own (.slice (nth L i).ca (nth L i).cs.length (nth L i).cc) 3 1 (nth L i).cs.length ((nth L i).cs.flatMap inV)::.star ((QaY L i).map (YJ et))::As') w:=
 HS.star_open (Bs:=[_,_]) (HS.sub_open hi (h.pick hp))
theorem HS.node_in{i:Nat}(hi:i<L.length)(x:LNd)(h:HS w0 M (.own (.slice x.ea x.es.length x.ec) et 2 x.es.length (x.es.flatMap TEnt.vals)::.own (.slice x.ca x.cs.length x.cc) 3 1 x.cs.length (x.cs.flatMap inV)::.star ((QaY L i).map (YJ et))::As) w):HS w0 M (.star ((L.set i x).map (YJ et))::As) w:=
 HS.sub_shut (sub:=YJ et) hi (HS.star_close (Bs:=[_,_]) h)
end
abbrev LNd.noE(n:LNd):LNd:={n with ea:=none,ec:=0,es:=[]}
abbrev ownE(et:Nat)(n:LNd):HA:=.own (.slice n.ea n.es.length n.ec) et 2 n.es.length (n.es.flatMap TEnt.vals)
section
variable{w0 w:World}{M:List Nat}{As As' As'':List HA}{et:Nat}{L:List LNd}{i:Nat}
theorem HS.es_take(hi:i<L.length)(h:HS w0 M As w)(hp:QG As (.star (L.map (YJ et))) As'):HS w0 M (ownE et (nth L i)::.star ((L.set i (nth L i).noE).map (YJ et))::As') w:=by
 have h1:=(h.node_out hi hp).own_nil et 2;have h2:=h1.perm (As':=_::_::_::ownE et (nth L i)::As') (List.Perm.cons _ (List.perm_middle (l₁:=[_,_])).symm);exact(HS.node_in hi (nth L i).noE h2).perm (List.Perm.swap ..)
theorem HS.es_some(hi:i<L.length)(hn:0<(nth L i).es.length)(h:HS w0 M As w)(hp:QG As (.star (L.map (YJ et))) As'):∃g,(nth L i).ea=some ⟨g,0,none⟩:=by
 obtain⟨g,e,_⟩:=HS.own_blk hn .here (HS.es_take hi h hp);exact⟨g,e⟩
theorem HS.es_row(hi:i<L.length)(h:HS w0 M As w)(hp:QG As (.star (L.map (YJ et))) As'):Rw TEnt.vals 2 w [] (nth L i).ea (nth L i).es:=(HS.es_take hi h hp).rw_own ev2 .here rfl
theorem HS.es_rd{k g:Nat}(hi:i<L.length)(hk:k<(nth L i).es.length)(hg:(nth L i).ea=some ⟨g,0,none⟩)(h:HS w0 M As w)(hp:QG As (.star (L.map (YJ et))) As'):∀j v,(TEnt.vals (nth (nth L i).es k))[j]?=some v->Rd w [] g (0+k*2+j) v:=by
 have h1:=Rw.rd (HS.es_row hi h hp) hk;rw[hg]at h1;exact h1
theorem HS.nd_cell{gn cap nt':Nat}(hi:i<L.length)(h:HS w0 M As w)(hp:QG As (.blk gn nt' (cap*3) (L.flatMap LNd.vals)) As')(j:Nat){v:Value}(hj:(LNd.vals (nth L i))[j]?=some v)(hj3:j<3):Rd w [] gn (i*3+j) v:=
 h.rd_blk hp (by rw[Qch nv3 L i j _ (XO hi) hj3];exact hj) (by simp)
end
def Sm(m:Nat)(ns:List Nd):Prop:=∀k,(nth ns k).es.length<=m/\(nth ns k).cs.length<=m
theorem QfX{α:Type}[Inhabited α]{l:List α}{k:Nat}(h:l.length<=k):nth l k=default:=by grind[nth]
end Gx
namespace Gx
open Go Go.RowKit
def HA.obj(b:Nat)(o:Obj):HA:=⟨[b],λw=>w.heap[b]?=some o,λw w' h hk=>(h b (List.mem_singleton.2 rfl)).trans hk⟩
section
variable{w0 w:World}{M:List Nat}{As As':List HA}
theorem HS.allocObj(h:HS w0 M As w)(o:Obj):HS w0 M (.obj w.heap.size o::As) (w.alloc o):=h.alloc o _ rfl (World.alloc_heap_new w o)
theorem HS.obj_get{b:Nat}{o:Obj}(h:HS w0 M As w)(hp:QG As (.obj b o) As'):w.heap[b]?=some o:=h.ok _ hp.mem
theorem HS.putObj{b:Nat}{o:Obj}(h:HS w0 M As w)(hp:QG As (.obj b o) As')(o':Obj):HS w0 M (.obj b o'::As') (w.putObj b o'):=by
 have h1:=h.pick hp;have hb:w.heap[b]?=some o:=h1.head;have hlt:b<w.heap.size:=(Array.getElem?_eq_some_iff.1 hb).1;refine h1.swap (λ_ hx=>hx) rfl rfl rfl (by simp[World.putObj]) (λc hc=>World.putObj_heap_other (λe=>hc (by subst e;exact List.mem_singleton.2 rfl))) (World.putObj_heap_same hlt)
end
def YM(P:Program)(l:Nat)(args:Array Value)(w:World)(R:Ending->World->Prop):Prop:=
 ∃f tmps assign body,(Instr.yield l args).run P w=.ok (.round l f tmps assign body) w/\RoundIn Fence.wide 0 P l f tmps assign body w R
section
variable{P:Program}{o:Oper}{L:Qh}
theorem QhJ{C:World->Prop}{G:Type}{V:G->Value}{F:G->Prop}{C':G->World->Prop}{x:Operand}{args:Array Operand}{vs:List Value}{ts:Array TypeId}{l:Nat}(ho:o.op=.call {callee:=.value x,args:=args,argTypes:=ts})(hx:ev L x=some (.func (.yield l) #[] #[]))
  (ha:evs L args.toList=some vs)(hy:∀w,C w->YM P l vs.toArray w λe w'=>∃g,e=.returned (V g)/\F g/\C' g w'):OpH P o L C V F C':=by
 intro ρ w hρ hw;obtain⟨f,tmps,assign,body,hr,hR⟩:=hy w hw;have e1:args.map ρ=vs.toArray:=by rw[<-Qct hρ ha,<-List.map_toArray]
 unfold execOp;simp only[ho,resolve,Sem.run_bind,hρ _ _ hx,Deferred.ofValue,e1,Sem.run_pure,Result.andThen_ok,invoke,Array.empty_append,hr];exact RoundIn.mono hR λe w'⟨g,he,hf,hc⟩=>⟨V g,he,g,rfl,hf,hc⟩
end
def rdy(fid:FuncId)(tmps:Array Value)(ps:Array Tmp)(assign body:Code)(D:Nat):Loop:={state:=.ready,pending:=none,fn:=fid,tmps:=tmps,params:=ps,assign:=assign,body:=body,defers:=D}
theorem QhN{P:Program}{fn:Func}{n l D:Nat}{fid:FuncId}{tmps:Array Value}{ps:Array Tmp}{assign body:Code}{args:Array Value}{L0 L1:Qh}{w0 W:World}{M:List Nat}{As As1:List HA}{Rr:Ending->World->Prop}
  (hC:HS w0 M (.obj l (.loop (rdy fid tmps ps assign body D))::As) W)(hps:args.size=ps.size)(hf:FR n [] L0 {tmps:=(ps.zip args).foldl (λt(p,v)=>t.setIfInBounds p v) tmps,defers:=[]})
  (h1:S {P:=P,fn:=fn,n:=n,R:=λ_ _=>False,rd:=some l} [.c assign,.join (At n [] (λ_:Unit=>L1) (λ_=>HS w0 M (.obj l (.loop (rdy fid tmps ps assign body D))::As1)))] L0 (HS w0 M (.obj l (.loop (rdy fid tmps ps assign body D))::As)))
  (h2:S {P:=P,fn:=fn,n:=n,R:=Rr,rd:=some l} [.c body] L1 (HS w0 M (.obj l (.loop {rdy fid tmps ps assign body D with state:=.busy})::As1))):YM P l args W Rr:=by
 refine⟨fid,_,assign,body,run_yield (hC.obj_get .here) hps,roundIn_of_wpIn trivial ?_⟩;refine wpIn_mono (h1 _ W hf hC) λe a w he=>?_;cases e with
 | normal=>
  obtain⟨_,hfr,hc⟩:=he;exact⟨_,run_beginRound (hc.obj_get .here) rfl,h2 _ _ hfr (hc.putObj .here _)⟩
 | ret=>obtain⟨v,w',_,hx⟩:=he;exact hx
 | exit id=>obtain⟨v,w',_,hx⟩:=he;exact hx
 | goto t=>obtain⟨v,w',_,hx⟩:=he;exact hx
 | panic ch=>exact he
 | outgrown=>exact he
theorem FR.round1{n:Nat}{L:Qh}{a:Act}(h:FR n [] L a)(d:Nat)(v:Value)(hd:Nat.blt d n=true):FR n [] ((d,v)::L) {tmps:=((#[d]:Array Tmp).zip #[v]).foldl (λt(p,v)=>t.setIfInBounds p v) a.tmps,defers:=[]}:=by
 have h1:=h.put d v hd;have e:((#[d]:Array Tmp).zip #[v]).foldl (λt(p,v)=>t.setIfInBounds p v) a.tmps=a.tmps.setIfInBounds d v:=by simp
 rw[e];exact⟨rfl,h1.size,h1.slot⟩
section
variable{X:Ctx}{k:List KI}{L:Qh}{w0:World}{M:List Nat}{As As':List HA}
theorem Qgi{C:World->Prop}{l:Nat}(hrd:X.rd=some l)(h:∀w,C w->∃r,w.heap[l]?=some (.loop r)/\X.R (.returned (.bool true)) (w.putObj l (.loop {r with state:=.ready,pending:=none}))):S X [] L C:=by
 intro a w ha hw;show(match X.rd with|none=>bodyPostM X.F 0 X.P X.fn X.R .normal a w|some l=>roundPost X.P l X.R .normal a w);rw[hrd];obtain⟨r,h1,h2⟩:=h w hw;exact⟨_,_,run_endRound none h1,h2⟩
theorem ZL{l D:Nat}{fid:FuncId}{tmps:Array Value}{ps:Array Tmp}{assign body:Code}(hrd:X.rd=some l)(hp:QG As (.obj l (.loop {rdy fid tmps ps assign body D with state:=.busy})) As')(h:∀w,HS w0 M (.obj l (.loop (rdy fid tmps ps assign body D))::As') w->X.R (.returned (.bool true)) w):S X [] L (HS w0 M As):=
 Qgi hrd λw hw=>⟨_,hw.obj_get hp,h _ (hw.putObj hp _)⟩
theorem Y3(d:List Nat):∀k,post {X with df:=d} k=post X k
 | []=>by funext e a w;rfl
 | Sum.inl c::k=>by funext e a w;cases e<;>simp only[post,Y3 d k]
 | Sum.inr (Sum.inl id)::k=>by funext e a w;cases e<;>simp only[post,Y3 d k]
 | Sum.inr (Sum.inr J)::k=>by funext e a w;cases e<;>simp only[post,Y3 d k]
theorem QhU{g:Operand}{ps:Array Tmp}{assign body:Code}{gf:FuncId}{lb:Array Value}{G:Type}{Bs:G->List HA}(hrd:X.rd=none)(hdf:X.df=[])(hg:ev L g=some (.func (.func gf) #[] lb))(hfn:QC X.P gf=true)
  (hit:∀(fid:FuncId)(D l:Nat)(a:Act)(w1:World)(ob:Obj),ob=.loop (rdy fid a.tmps ps assign body D)->FR X.n [] L a->HS w0 M (.obj l ob::.obj D (.deferred (some []))::As) w1 ->
   Calls X.P gf (#[.func (.yield l) #[] #[]]++lb) w1 λe w2=>(∃v,e=.returned v)/\∃x,HS w0 M (.obj l ob::.obj D (.deferred (some []))::Bs x) w2)
  (next:∀D x,S {X with df:=[D]} k L (HS w0 M (.obj D (.deferred (some []))::Bs x))):S X (.c (.rangeFunc g ps assign body)::k) L (HS w0 M As):=by
 intro a w ha hw;have ha0:FR X.n [] L a:=by rw[<-hdf];exact ha
 refine wpIn_rangeFunc (F:=X.F) (n:=0) λfid _=>?_;have hro:X.F.round=none:=hrd;rw[hro];have hw1:=(hw.allocObj (.deferred (some []))).allocObj (.loop (rdy fid a.tmps ps assign body w.heap.size));rw[World.size_alloc]at hw1;have hen:=run_enterLoop_outer (P:=X.P) (w:=w) fid a.tmps ps assign body;obtain⟨W1,hW1⟩:∃W1,(w.alloc (.deferred (some []))).alloc (.loop (rdy fid a.tmps ps assign body w.heap.size))=W1:=⟨_,rfl⟩;rw[hW1]at hw1;rw[show(Loop.mk .ready none fid a.tmps ps assign body w.heap.size)=rdy fid a.tmps ps assign body w.heap.size from rfl,hW1]at hen
 refine⟨w.heap.size+1,[{target:=.collected w.heap.size,args:=#[]}],W1,{target:=.fn (.func gf) lb,args:=#[.func (.yield (w.heap.size+1)) #[] #[]]},W1,gf,
  #[.func (.yield (w.heap.size+1)) #[] #[]]++lb,W1,hen,?_,λ_ _=>trivial,?_,λh=>(by cases h),?_⟩
 ·simp only[resolve,ha.evl hg];simp[go_sem]
 ·simp[invoke,go_sem,Y1 hfn]
 ·refine CallsIn.mono (X.callsIn (hit fid _ _ a _ _ rfl ha0 hw1)) λe w2 he=>?_;obtain⟨⟨v,rfl⟩,x,hx⟩:=he;refine⟨none,_,run_endLoop (hx.obj_get .here) (by simp[rdy]),?_⟩;have h3:=next w.heap.size x {a with defers:=[{target:=.collected w.heap.size,args:=#[]}]++a.defers} _ ⟨by show _++a.defers=_;rw[ha0.defers];rfl,ha0.size,ha0.slot⟩ (hx.putObj .here (.loop {rdy fid a.tmps ps assign body w.heap.size with state:=.exhausted})).tail
  rw[Y3]at h3;exact h3
theorem Z1{D:Nat}{rs:List ResultVar}{vs:List Value}(hr:X.fn.results=rs.toArray)(hp:QG As (.obj D (.deferred (some []))) As')(hv:RV X.P L As' rs vs)(h:∀w,HS w0 M As' w->X.R (.returned (Qw vs)) w)(hrd:X.rd=none:=by rfl)(hdf:X.df=[D]:=by rfl):S X (.c .ret::k) L (HS w0 M As):=by
 refine Qg1 (XW λa w ha hw=>?_);show(match X.rd with|none=>bodyPostM X.F 0 X.P X.fn X.R .ret a w|some l=>roundPost X.P l X.R .ret a w);rw[hrd];show LeavesInM X.F 0 X.P X.fn a.tmps X.R a.defers .returning w;rw[ha.defers,hdf];have h1:=(hw.putObj hp (.deferred none)).tail;refine⟨by simp,.inl ⟨D,_,rfl,run_takeDeferred (hw.obj_get hp),Qw vs,?_,h _ h1⟩⟩;have hm:=hv.run ha h1;rw[QbS hr,Array.mapM_eq_mapM_toList];simp only[Sem.run_bind,Sem.run_map,hm,Result.andThen_ok,Sem.run_pure]
 match vs with
 | []=>rfl
 | [v]=>rfl
 | u::v::vs=>simp[Qw]
end
end Gx
namespace Gx
open Go Go.RowKit
theorem Xn{X:Ctx}{k:List KI}{L:Qh}{C:World->Prop}{α:Type}{c:Code}(md:List Nat)(Lm:α->Qh)(I:α->Prop)(h1:S X (.c c::.join (AtI X.n X.df (λx=>Lm x++Zy md L) (λ_=>C) I)::k) L C)(h2:∀x,I x->S X k (Lm x++Zy md L) C):S X (.c c::k) L C:=
 Q7 md Lm (λ_=>C) I h1 h2
end Gx
namespace Gx
open Go Go.RowKit
abbrev iN(P:List Nat):List Int:=P.map λi:Nat=>(i:Int)
theorem Qnq{P:List Nat}{k:Nat}(h:k<P.length):(iN P).getD k 0=((nth P k:Nat):Int):=by
 rw[Y6 (d:=0) h];rfl
theorem Qjp{P:List Nat}{k:Nat}(h:k<P.length):nth (iN P) k=((nth P k:Nat):Int):=Qnq h
theorem Qfz(P:List Nat):(iN P).length=P.length:=by simp
section
variable{w0 w:World}{M:List Nat}{As As':List HA}{a:Option Addr}{cap:Nat}{P:List Nat}
theorem HS.kids_some{l:List Int}(hn:0<l.length)(h:HS w0 M As w)(hp:QG As (.kids a cap l) As'):∃g,a=some ⟨g,0,none⟩:=by
 obtain⟨g,e,_⟩:=HS.own_blk hn hp h;exact⟨g,e⟩
theorem HS.path_rd{k g:Nat}(hk:k<P.length)(hg:a=some ⟨g,0,none⟩)(h:HS w0 M As w)(hp:QG As (.kids a cap (iN P)) As'):Rd w [] g (0+k*1) (.int .i64 ((nth P k:Nat):Int)):=by
 have h1:=Rw.rd (h.rw_own (vals:=inV) (l:=iN P) iv1 hp rfl) (i:=k) (by rw[Qfz];exact hk) 0 (.int .i64 ((nth P k:Nat):Int)) (by rw[Qjp hk];rfl);rw[hg]at h1;exact h1
end
theorem Qa4{co:Int}{ns:List Nd}(h:TOk co ns):∀i,i<ns.length->∀x∈(nth ns i).es,QE co x.key=true/\x.key.length<=1000000:=λi hi x hx=>by
 have h1:=Qav (h.ents i hi x hx)
 grind[Qfe]
theorem cat2{α:Type}(a b:RowV α):[a,b].flatMap RowV.l=a.l++b.l:=by simp
def Xv(P:List Nat):Nat:=nth P (P.length-1)
abbrev QlO(a:Option Addr)(c:Nat)(P:List Nat):HA:=.own (.slice a P.length c) 3 1 P.length (P.map λi:Nat=>Value.int .i64 (i:Int))
theorem QlB(l:List Nat):(iN l).flatMap inV=l.map λi:Nat=>Value.int .i64 (i:Int):=by
 induction l with
 | nil=>rfl
 | cons x l ih=>
  rw[iN,List.map_cons,List.flatMap_cons,List.map_cons,<-ih];rfl
theorem Qja(a:Option Addr)(c:Nat)(P:List Nat):HA.kids a c (iN P)=QlO a c P:=by
 unfold HA.kids;rw[QlB,Qfz]
section
variable{w0 w:World}{M:List Nat}{As A1 A2 A3:List HA}{a:Option Addr}{c:Nat}{P:List Nat}
theorem HS.pown_some(hn:0<P.length)(h:HS w0 M As w)(hp:QG As (QlO a c P) A1):∃g,a=some ⟨g,0,none⟩:=by grind[HS.own_blk]
theorem HS.pown_row(h:HS w0 M As w)(hp:QG As (QlO a c P) A1):Rw inV 1 w [] a (iN P):=by
 have h1:=h.pick hp;rw[<-Qja]at h1;exact h1.rw_own (l:=iN P) iv1 .here rfl
theorem HS.pown_rd{k g:Nat}(hk:k<P.length)(hg:a=some ⟨g,0,none⟩)(h:HS w0 M As w)(hp:QG As (QlO a c P) A1):Rd w [] g (0+k*1) (.int .i64 ((nth P k:Nat):Int)):=by
 have h1:=Rw.rd (h.pown_row hp) (i:=k) (by rw[Qfz];exact hk) 0 (.int .i64 ((nth P k:Nat):Int)) (by rw[Qjp hk];rfl);rw[hg]at h1;exact h1
end
theorem Qfu{α:Type}[Inhabited α]{l m:List α}(hl:l.length=m.length)(h:∀j,j<l.length->nth l j=nth m j):l=m:=by
 apply List.ext_getElem?
 grind[XO]
theorem keyE_ok{co:Int}{k:List UInt8}(h:X6 co k=0):QE co k=true:=by grind[X6]
theorem Qoa{co:Int}{key:List UInt8}:∀{es:List TEnt}{k:Nat},k<=es.length->(∀q,q<k->QI co (nth es q).key key<0)->¬(k<es.length/\QI co (nth es k).key key<0)->plc co es key=k:=by
 intro es k hk h1 h2;have h3:=QbV co key es;rcases Nat.lt_trichotomy (plc co es key) k with h|h|h
 ·exact absurd (h1 _ h) (Qhd co key es om)
 ·exact h
 ·exact absurd ⟨om,QbI co key es k h⟩ h2
end Gx
namespace Gx
open Go Go.RowKit
section
variable{X:Ctx}{ops:Array Oper}{k:List KI}{L:Qh}{C:World->Prop}
theorem Qhr{α:Type}(m dj dp:Nat)(b:Bool)(v:α->Bool)(CJ:α->World->Prop)(I:α->Prop){l:List Oper}(hb:Qh.get L dj=some (.bool b))
  (h1:b=true->O X ops (l.take m) (.join (AtI X.n X.df (λx:α=>(dp,.bool (v x))::L) CJ I)::k) L C)
  (h0:b=false->O X ops (l.take m) (.join (AtI X.n X.df (λx:α=>(dp,.bool (v x))::L) CJ I)::k) L C)
  (h2:∀x,I x->O X ops (l.drop m) k ((dp,.bool (v x))::L) (CJ x)):O X ops l k L C:=by
 intro a w ha hw
 have hh:O X ops (l.take m) (.join (AtI X.n X.df (λx:α=>(dp,.bool (v x))::L) CJ I)::k) L C:=by
  cases b with
  | true=>exact h1 rfl
  | false=>exact h0 rfl
 have:=YL (Q:=post X k) _ (l.drop m) a w (hh a w ha hw) (λa w⟨x,hI,hx,hc⟩=>h2 x hI a w hx hc) (λe a w he h=>QaB e a w he h)
 rwa[List.take_append_drop]at this
end
end Gx
namespace Gx
open Go Go.RowKit
section
variable{P:Program}{o:Oper}{L:Qh}{w0:World}{M:List Nat}{As:List HA}
theorem QgG{G:Type}{V:G->Value}{F:G->Prop}{Bs:G->List HA}{Cs Ds:List HA}{x:Operand}{args:Array Operand}{vs:List Value}{ts:Array TypeId}{l:Nat}(ho:o.op=.call {callee:=.value x,args:=args,argTypes:=ts})(hx:ev L x=some (.func (.yield l) #[] #[]))
  (ha:evs L args.toList=some vs)(hp:Zj As Cs Ds)(hy:∀w,HS w0 M As w->HS w (fps Cs) Cs w->YM P l vs.toArray w λe w'=>∃g,e=.returned (V g)/\F g/\HS w (fps Cs) (Bs g) w'):OpH P o L (HS w0 M As) V F (λg=>HS w0 M (Bs g++Ds)):=
 QhJ (C:=HS w0 M As) ho hx ha λw hw=>by
  obtain⟨f,tmps,assign,body,hr,hR⟩:=hy w hw (HS.focus (hw.perm hp));refine⟨f,tmps,assign,body,hr,RoundIn.mono hR λe w'⟨g,he,hf,hc⟩=>⟨g,he,hf,?_⟩⟩;exact HS.callM (hw.perm hp) (λb hb=>by obtain⟨A,hA,hb⟩:=List.mem_flatMap.1 hb;exact⟨A,hA,hb⟩) hc
end
def Qor(fid:FuncId)(tmps:Array Value)(ps:Array Tmp)(assign body:Code)(D:Nat):Option Nat->Obj
 | none=>.loop (rdy fid tmps ps assign body D)
 | some id=>.loop {rdy fid tmps ps assign body D with state:=.done,pending:=some (.exit id)}
section
variable{X:Ctx}{k:List KI}{L:Qh}{w0:World}{M:List Nat}{As As':List HA}
def rngK(k:List KI):Option Nat->List KI
 | none=>k
 | some id=>.c (.exit id)::k
theorem QiZ{id:Nat}{j:Option Nat}(hj:j=none\/j=some id)(h:S X k L (HS w0 M As)):S X (rngK (.blk id::k) j) L (HS w0 M As):=by
 rcases hj with rfl|rfl
 ·exact QmC h
 ·exact Qk (show(bif Nat.beq id id then some k else Qe2 id k)=some k from by rw[Nat.beq_refl];rfl) h
theorem Qkt{g:Operand}{ps:Array Tmp}{assign body:Code}{gf:FuncId}{fa lb:Array Value}{G:Type}{Bs:G->List HA}{jmp:G->Option Nat}(hrd:X.rd=none)(hdf:X.df=[])(hg:ev L g=some (.func (.func gf) fa lb))(hfn:QC X.P gf=true)
  (hit:∀(fid:FuncId)(D l:Nat)(a:Act)(w1:World)(ob:Obj),ob=.loop (rdy fid a.tmps ps assign body D)->FR X.n [] L a->HS w0 M (.obj l ob::.obj D (.deferred (some []))::As) w1 ->
   Calls X.P gf (fa++ #[.func (.yield l) #[] #[]]++lb) w1 λe w2=>(∃v,e=.returned v)/\∃x,HS w0 M (.obj l (Qor fid a.tmps ps assign body D (jmp x))::.obj D (.deferred (some []))::Bs x) w2)
  (next:∀D x,S {X with df:=[D]} (rngK k (jmp x)) L (HS w0 M (.obj D (.deferred (some []))::Bs x))):S X (.c (.rangeFunc g ps assign body)::k) L (HS w0 M As):=by
 intro a w ha hw;have ha0:FR X.n [] L a:=by rw[<-hdf];exact ha
 refine wpIn_rangeFunc (F:=X.F) (n:=0) λfid _=>?_;have hro:X.F.round=none:=hrd;rw[hro];have hw1:=(hw.allocObj (.deferred (some []))).allocObj (.loop (rdy fid a.tmps ps assign body w.heap.size));rw[World.size_alloc]at hw1;have hen:=run_enterLoop_outer (P:=X.P) (w:=w) fid a.tmps ps assign body;obtain⟨W1,hW1⟩:∃W1,(w.alloc (.deferred (some []))).alloc (.loop (rdy fid a.tmps ps assign body w.heap.size))=W1:=⟨_,rfl⟩;rw[hW1]at hw1;rw[show(Loop.mk .ready none fid a.tmps ps assign body w.heap.size)=rdy fid a.tmps ps assign body w.heap.size from rfl,hW1]at hen
 refine⟨w.heap.size+1,[{target:=.collected w.heap.size,args:=#[]}],W1,{target:=.fn (.func gf) lb,args:=fa++ #[.func (.yield (w.heap.size+1)) #[] #[]]},W1,gf,
  fa++ #[.func (.yield (w.heap.size+1)) #[] #[]]++lb,W1,hen,?_,λ_ _=>trivial,?_,λh=>(by cases h),?_⟩
 ·simp only[resolve,ha.evl hg];simp[go_sem]
 ·simp[invoke,go_sem,Y1 hfn]
 ·refine CallsIn.mono (X.callsIn (hit fid _ _ a _ _ rfl ha0 hw1)) λe w2 he=>?_;obtain⟨⟨v,rfl⟩,x,hx⟩:=he;have h3:=next w.heap.size x {a with defers:=[{target:=.collected w.heap.size,args:=#[]}]++a.defers}
  have hfr:FR X.n [w.heap.size] L {a with defers:=[{target:=.collected w.heap.size,args:=#[]}]++a.defers}:=⟨by show _++a.defers=_;rw[ha0.defers];rfl,ha0.size,ha0.slot⟩;cases hj:jmp x with
  | none=>
   rw[hj]at hx h3;refine⟨none,_,run_endLoop (hx.obj_get .here) (by simp[rdy]),?_⟩;have h4:=h3 _ hfr (hx.putObj .here (.loop {rdy fid a.tmps ps assign body w.heap.size with state:=.exhausted})).tail;rw[Y3]at h4;exact h4
  | some id=>
   rw[hj]at hx h3;refine⟨some (.exit id),_,run_endLoop (hx.obj_get .here) (by simp),?_⟩;have h4:=h3 _ hfr (hx.putObj .here (.loop {rdy fid a.tmps ps assign body w.heap.size with state:=.exhausted,pending:=some (.exit id)})).tail;rw[Y3]at h4;exact h4
end
theorem HS.callA{w0 w1 w2:World}{M:List Nat}{A:HA}{Ds Bs:List HA}(h:HS w0 M (A::Ds) w1)(hc:HS w1 (fps [A]) Bs w2):HS w0 M (Bs++Ds) w2:=
 HS.callM (Cs:=[A]) (As:=Ds) h (λb hb=>by obtain⟨A,hA,hb⟩:=List.mem_flatMap.1 hb;exact⟨A,hA,hb⟩) hc
theorem Qaa{A:HA}{Ds:List HA}:Zj (A::Ds) [A] Ds:=List.Perm.refl _
theorem QbW{α:Type}{P:Program}{fn:Func}{n l D:Nat}{fid:FuncId}{tmps:Array Value}{ps:Array Tmp}{assign body:Code}{args:Array Value}{L0:Qh}{L1:α->Qh}{w0 W:World}{M:List Nat}{As:List HA}{As1:α->List HA}{Rr:Ending->World->Prop}
  (hC:HS w0 M (.obj l (.loop (rdy fid tmps ps assign body D))::As) W)(hps:args.size=ps.size)(hf:FR n [] L0 {tmps:=(ps.zip args).foldl (λt(p,v)=>t.setIfInBounds p v) tmps,defers:=[]})
  (h1:S {P:=P,fn:=fn,n:=n,R:=λ_ _=>False,rd:=some l} [.c assign,.join (At n [] L1 (λx=>HS w0 M (.obj l (.loop (rdy fid tmps ps assign body D))::As1 x)))] L0 (HS w0 M (.obj l (.loop (rdy fid tmps ps assign body D))::As)))
  (h2:∀x,S {P:=P,fn:=fn,n:=n,R:=Rr,rd:=some l} [.c body] (L1 x) (HS w0 M (.obj l (.loop {rdy fid tmps ps assign body D with state:=.busy})::As1 x))):YM P l args W Rr:=by
 refine⟨fid,_,assign,body,run_yield (hC.obj_get .here) hps,roundIn_of_wpIn trivial ?_⟩;refine wpIn_mono (h1 _ W hf hC) λe a w he=>?_;cases e with
 | normal=>
  obtain⟨x,hfr,hc⟩:=he;exact⟨_,run_beginRound (hc.obj_get .here) rfl,h2 x _ _ hfr (hc.putObj .here _)⟩
 | ret=>obtain⟨v,w',_,hx⟩:=he;exact hx
 | exit id=>obtain⟨v,w',_,hx⟩:=he;exact hx
 | goto t=>obtain⟨v,w',_,hx⟩:=he;exact hx
 | panic ch=>exact he
 | outgrown=>exact he
inductive RunY{S α:Type}(st:S->α->S->Prop)(co:S->Bool):S->List α->S->Bool->Prop
 | nil (s:S):RunY st co s [] s true
 | go {s s' s'':S} {x:α} {l:List α} {b:Bool} (h:st s x s') (hc:co s'=true) (hr:RunY st co s' l s'' b):RunY st co s (x::l) s'' b
 | stop {s s':S} {x:α} {l:List α} (h:st s x s') (hc:co s'=false):RunY st co s (x::l) s' false
section
variable{S α:Type}{st:S->α->S->Prop}{co:S->Bool}{s s1 s2:S}{A B:List α}{b:Bool}
theorem RunY.app(h:RunY st co s A s1 true)(h2:RunY st co s1 B s2 b):RunY st co s (A++B) s2 b:=by
 generalize hb:true=c at h
 induction h with
 | nil s=>exact h2
 | go h hc _ ih=>exact .go h hc (ih h2 hb)
 | stop h hc=>cases hb
theorem RunY.off(h:RunY st co s A s1 false)(B:List α):RunY st co s (A++B) s1 false:=by
 generalize hb:false=c at h
 induction h with
 | nil s=>cases hb
 | go h hc _ ih=>exact .go h hc (ih hb)
 | stop h hc=>exact .stop h hc
theorem RunY.one{x:α}(h:st s x s1):RunY st co s [x] s1 (co s1):=by
 cases hc:co s1 with
 | true=>exact .go h hc (.nil s1)
 | false=>exact .stop h hc
end
end Gx
namespace Gx
open Go Go.RowKit
class TFd(P:Program)(t f:Nat)(off ft:outParam Nat):Prop where h:tfd P t f=some (off,ft)
class TSz(P:Program)(t:Nat)(n:outParam Nat)(ag:outParam Bool):Prop where h:tsz P t=some (n,ag)
class TSe(P:Program)(t:Nat)(e:outParam Nat):Prop where h:P.underlying t=some (.slice e)
section
variable{X:Ctx}{ops:Array Oper}{rest:List Oper}{k:List KI}{L:Qh}{d ty:Nat}{pos:String}{aft:Array Edge}{C:World->Prop}
theorem oFa{st f x b i off ft sz:Nat}{ag:Bool}[h1:TFd X.P st f off ft][h2:TSz X.P ft sz ag](next:O X ops rest k ((d,.pointer (some ⟨b,i+off,none⟩))::L) C)(hx:Qh.get L x=some (.pointer (some ⟨b,i,none⟩)):=by rfl)(hs:Nat.blt 0 sz=true:=by rfl)(hd:Nat.blt d X.n=true:=by rfl) :
  O X ops (⟨some d,.fieldAddr st (.tmp x) f,ty,pos,aft,none⟩::rest) k L C:=o_p (Qaz rfl hx h1.h h2.h hs) hd next
theorem oLs{t e x n cap:Nat}{a:Option Addr}[h1:TSe X.P t e](next:O X ops rest k ((d,.int .i64 n)::L) C)(hx:Qh.get L x=some (.slice a n cap):=by rfl)(hd:Nat.blt d X.n=true:=by rfl) :
  O X ops (⟨some d,.call {callee:=.builtin .len,args:=#[.tmp x],argTypes:=#[t]},ty,pos,aft,none⟩::rest) k L C:=o_p (Qx (x:=.tmp x) rfl hx h1.h) hd next
theorem oLd{w0:World}{M:List Nat}{As As':List HA}{t x b tot i:Nat}{bt:TypeId}{cs:List Value}{v:Value}[h1:TSz X.P t 1 false](next:O X ops rest k ((d,v)::L) (HS w0 M As))(hx:Qh.get L x=some (.pointer (some ⟨b,i,none⟩)):=by rfl)(hp:QG As (.blk b bt tot cs) As':=by repeat (first|exact .here|apply QG.there))(hv:cs[i]?=some v:=by rfl)(hd:Nat.blt d X.n=true:=by rfl) :
  O X ops (⟨some d,.load t (.tmp x),ty,pos,aft,none⟩::rest) k L (HS w0 M As):=o_q (XY rfl hx h1.h hp hv) hd next
theorem oLn{w0:World}{M:List Nat}{As As':List HA}{t x b tot i n:Nat}{bt:TypeId}{cs:List Value}[h1:TSz X.P t n true](next:O X ops rest k ((d,.agg (cut cs i n).toArray)::L) (HS w0 M As))(hx:Qh.get L x=some (.pointer (some ⟨b,i,none⟩)):=by rfl)(hp:QG As (.blk b bt tot cs) As':=by repeat (first|exact .here|apply QG.there))(hl:Nat.ble (i+n) cs.length=true:=by rfl)(hd:Nat.blt d X.n=true:=by rfl) :
  O X ops (⟨some d,.load t (.tmp x),ty,pos,aft,none⟩::rest) k L (HS w0 M As):=o_q (Qh4 rfl hx h1.h hp hl) hd next
end
section
variable{X:Ctx}{ops:Array Oper}{F:List Nat}{fuel:Nat}{listed:Array Bool}{k:List KI}{L:Qh}{d ty:Nat}{pos:String}{aft:Array Edge}{C B:World->Prop}{w0:World}{M:List Nat}{As As' Bs:List HA}
theorem dFa(i:Nat){st f x b o off ft sz:Nat}{ag:Bool}(next:D X ops F B fuel (listed.setIfInBounds i true) k ((d,.pointer (some ⟨b,o+off,none⟩))::L) C)(hi:ops[i]?=some ⟨some d,.fieldAddr st (.tmp x) f,ty,pos,aft,none⟩:=by rfl)(hx:Qh.get L x=some (.pointer (some ⟨b,o,none⟩)):=by rfl)(h1:TFd X.P st f off ft:=by infer_instance)(h2:TSz X.P ft sz ag:=by infer_instance)(hs:Nat.blt 0 sz=true:=by rfl)(hok:Q0 ops listed i=true:=by kernel_rfl)(hF:F.all (λf=>!Nat.beq f i)=true:=by rfl)(hd:Nat.blt d X.n=true:=by rfl):D X ops F B (fuel+1) listed k L C:=d_p i hi (Qaz rfl hx h1.h h2.h hs) hok hF hd next
theorem dFo{j:Nat}{want c:Bool}(i dj:Nat){st f x b o off ft sz:Nat}{ag:Bool}(hw:c=want)(next:D X ops F B fuel (listed.setIfInBounds i true) k ((d,.pointer (some ⟨b,o+off,none⟩))::L) C)(hi:ops[i]?=some ⟨some d,.fieldAddr st (.tmp x) f,ty,pos,aft,some (j,want)⟩:=by rfl)(hj:(ops[j]?).bind (·.dst)=some dj:=by rfl)(hb:Qh.get L dj=some (.bool c):=by rfl)(hx:Qh.get L x=some (.pointer (some ⟨b,o,none⟩)):=by rfl)(h1:TFd X.P st f off ft:=by infer_instance)(h2:TSz X.P ft sz ag:=by infer_instance)(hs:Nat.blt 0 sz=true:=by rfl)(hok:Q0 ops listed i=true:=by kernel_rfl)(hF:F.all (λf=>!Nat.beq f i)=true:=by rfl)(hd:Nat.blt d X.n=true:=by rfl):D X ops F B (fuel+1) listed k L C:=QkM i dj hi hj hb hw (Qaz rfl hx h1.h h2.h hs) hok hF hd next
theorem dPo{j:Nat}{want c:Bool}{op:Op}{v:Value}(i dj:Nat)(hw:c=want)(next:D X ops F B fuel (listed.setIfInBounds i true) k ((d,v)::L) C)(hi:ops[i]?=some ⟨some d,op,ty,pos,aft,some (j,want)⟩:=by rfl)(hj:(ops[j]?).bind (·.dst)=some dj:=by rfl)(hb:Qh.get L dj=some (.bool c):=by rfl)(h:OpP X.P ⟨some d,op,ty,pos,aft,none⟩ L v:=by exact Qhp rfl)(hok:Q0 ops listed i=true:=by kernel_rfl)(hF:F.all (λf=>!Nat.beq f i)=true:=by rfl)(hd:Nat.blt d X.n=true:=by rfl):D X ops F B (fuel+1) listed k L C:=QkM i dj hi hj hb hw h hok hF hd next
theorem dOf{j:Nat}{want c:Bool}{op:Op}(i dj:Nat)(hw:c= !want)(next:D X ops F B fuel (listed.setIfInBounds i true) k ((d,undef)::L) C)(hi:ops[i]?=some ⟨some d,op,ty,pos,aft,some (j,want)⟩:=by rfl)(hj:(ops[j]?).bind (·.dst)=some dj:=by rfl)(hb:Qh.get L dj=some (.bool c):=by rfl)(hok:Q0 ops listed i=true:=by kernel_rfl)(hF:F.all (λf=>!Nat.beq f i)=true:=by rfl)(hd:Nat.blt d X.n=true:=by rfl):D X ops F B (fuel+1) listed k L C:=QoT i dj hi hj hb hw hok hF hd next
theorem dOu{j:Nat}{want:Bool}{op:Op}(i dj:Nat)(next:D X ops F B fuel (listed.setIfInBounds i true) k ((d,undef)::L) C)(hi:ops[i]?=some ⟨some d,op,ty,pos,aft,some (j,want)⟩:=by rfl)(hj:(ops[j]?).bind (·.dst)=some dj:=by rfl)(hb:Qh.get L dj=some undef:=by rfl)(hok:Q0 ops listed i=true:=by kernel_rfl)(hF:F.all (λf=>!Nat.beq f i)=true:=by rfl)(hd:Nat.blt d X.n=true:=by rfl):D X ops F B (fuel+1) listed k L C:=Qob i dj hi hj hb hok hF hd next
theorem dNi(next:S X k L (HS w0 M As))(hB:∀w,HS w0 M As w->B w:=by(intro w h;first|exact h|exact h.ent aEt))(hr:(Region.ready .any ops listed==[])=true:=by kernel_rfl):D X ops F B 0 listed k L (HS w0 M As):=QoH hr hB next
theorem dBa(next:D X ops F (HS w0 M As) fuel listed k L (HS w0 M As))(hB:∀w,HS w0 M As w->B w:=by(intro w h;exact h.ent aEt)):D X ops F B fuel listed k L (HS w0 M As):=QnG hB next
theorem dLd(i:Nat)(ps:List (List Nat)){t x b tot o:Nat}{bt:TypeId}{cs:List Value}{v:Value}(next:D X ops F (HS w0 M Bs) fuel (listed.setIfInBounds i true) k ((d,v)::L) C)(hi:ops[i]?=some ⟨some d,.load t (.tmp x),ty,pos,aft,none⟩:=by rfl)(hx:Qh.get L x=some (.pointer (some ⟨b,o,none⟩)):=by rfl)(h1:TSz X.P t 1 false:=by infer_instance)(hp:QG Bs (.blk b bt tot cs) As':=by repeat (first|exact .here|apply QG.there))(hv:cs[o]?=some v:=by rfl)(hok:Q0 ops listed i=true:=by kernel_rfl)(hF:Zi ops F i ps=true:=by kernel_rfl)(hn:QbG F listed=true:=by kernel_rfl)(hd:Nat.blt d X.n=true:=by rfl):D X ops F (HS w0 M Bs) (fuel+1) listed k L C:=d_q i ps hi (XY rfl hx h1.h hp hv) hok hF hn hd next
theorem dLn(i:Nat)(ps:List (List Nat)){t x b tot o n:Nat}{bt:TypeId}{cs:List Value}(next:D X ops F (HS w0 M Bs) fuel (listed.setIfInBounds i true) k ((d,.agg (cut cs o n).toArray)::L) C)(hi:ops[i]?=some ⟨some d,.load t (.tmp x),ty,pos,aft,none⟩:=by rfl)(hx:Qh.get L x=some (.pointer (some ⟨b,o,none⟩)):=by rfl)(h1:TSz X.P t n true:=by infer_instance)(hp:QG Bs (.blk b bt tot cs) As':=by repeat (first|exact .here|apply QG.there))(hl:Nat.ble (o+n) cs.length=true:=by rfl)(hok:Q0 ops listed i=true:=by kernel_rfl)(hF:Zi ops F i ps=true:=by kernel_rfl)(hn:QbG F listed=true:=by kernel_rfl)(hd:Nat.blt d X.n=true:=by rfl):D X ops F (HS w0 M Bs) (fuel+1) listed k L C:=d_q i ps hi (Qh4 rfl hx h1.h hp hl) hok hF hn hd next
end
section
variable{X:Ctx}{ops:Array Oper}{F:List Nat}{fuel:Nat}{listed:Array Bool}{rest:List Oper}{k:List KI}{L:Qh}{d ty:Nat}{pos:String}{aft:Array Edge}{w0:World}{M:List Nat}{As As':List HA}
theorem oSt{t x b tot i n:Nat}{y:Operand}{bt:TypeId}{ag:Bool}{cs:List Value}{v:Value}[hs:TSz X.P t n ag](next:O X ops rest k L (HS w0 M As'))(hx:Qh.get L x=some (.pointer (some ⟨b,i,none⟩)):=by rfl)(hy:ev L y=some v:=by rfl)(hn:v.cells.toList.length=n:=by rfl)
  (hp:Put As (.blk b bt tot cs) (.blk b bt tot (QK cs i v.cells.toList)) As':=by repeat (first|exact .here|apply Put.there))(hl:i+n<=cs.length:=by(simp only[Qj,List.length_set,List.length_cons,List.length_nil,List.length_map];omega))(h1:v.cells.toList.all (·.oneCell')=true:=by rfl) :
  O X ops (⟨none,.store t (.tmp x) y,ty,pos,aft,none⟩::rest) k L (HS w0 M As):=Qf0 (Y2 rfl hx hy hs.h hn hp hl h1) λ_ _=>next
theorem oAl{t:TypeId}{z:List Value}(next:∀b,True->O X ops rest k ((d,.pointer (some ⟨b,0,none⟩))::L) (HS w0 M (.blk b t z.length z::As)))(hz:Q8 X.P t=some z)(hd:Nat.blt d X.n=true:=by rfl):O X ops (⟨some d,.alloc t,ty,pos,aft,none⟩::rest) k L (HS w0 M As):=o_h (Xo rfl hz) hd next
theorem oBx{t:TypeId}{x:Operand}{v:Value}(next:∀b,True->O X ops rest k ((d,.pointer (some ⟨b,0,none⟩))::L) (HS w0 M (.blk b t v.cells.toList.length v.cells.toList::As)))(hx:ev L x=some v:=by rfl)(hd:Nat.blt d X.n=true:=by rfl):O X ops (⟨some d,.box t x,ty,pos,aft,none⟩::rest) k L (HS w0 M As):=o_h (QhK rfl hx) hd next
theorem oWr{v:Int}{C:World->Prop}(next:O X ops rest k ((d,.int .i64 v)::L) C)(h1: -9223372036854775808<=v:=by omega)(h2:v<=9223372036854775807:=by omega):O X ops rest k ((d,.int .i64 (IntKind.i64.wrap v))::L) C:=Qn (Qgy h1 h2) next
theorem dWr{v:Int}{C B:World->Prop}(next:D X ops F B fuel listed k ((d,.int .i64 v)::L) C)(h1: -9223372036854775808<=v:=by omega)(h2:v<=9223372036854775807:=by omega):D X ops F B fuel listed k ((d,.int .i64 (IntKind.i64.wrap v))::L) C:=Qy (Qgy h1 h2) next
theorem dSt{B:World->Prop}(i:Nat){t x b tot o n:Nat}{y:Operand}{bt:TypeId}{ag:Bool}{cs:List Value}{v:Value}(next:D X ops F B fuel (listed.setIfInBounds i true) k L (HS w0 M As'))(hi:ops[i]?=some ⟨none,.store t (.tmp x) y,ty,pos,aft,none⟩:=by rfl)(hx:Qh.get L x=some (.pointer (some ⟨b,o,none⟩)):=by rfl)(hy:ev L y=some v:=by rfl)(hs:TSz X.P t n ag:=by infer_instance)(hn:v.cells.toList.length=n:=by rfl)
  (hp:Put As (.blk b bt tot cs) (.blk b bt tot (QK cs o v.cells.toList)) As':=by repeat (first|exact .here|apply Put.there))(hl:o+n<=cs.length)(h1:v.cells.toList.all (·.oneCell')=true:=by rfl)(hr:(Region.ready .any ops listed==[i])=true:=by kernel_rfl)(hB:∀w,HS w0 M As w->B w:=by(intro w h;exact h.ent aEt)) :
  D X ops F B (fuel+1) listed k L (HS w0 M As):=Qm3 i hi (Y2 rfl hx hy hs.h hn hp hl h1) hr hB λ_ _=>next
theorem dTu{B:World->Prop}(F':List Nat)(next:D X ops F' (HS w0 M As) fuel listed k L (HS w0 M As))(hf:F.any (λf=>listed.getD f false)=true:=by kernel_rfl):D X ops F B fuel listed k L (HS w0 M As):=QnK F' hf next
end
section
variable{X:Ctx}{ops:Array Oper}{F:List Nat}{fuel:Nat}{listed:Array Bool}{k:List KI}{L:Qh}{d ty:Nat}{pos:String}{aft:Array Edge}{op:Op}{w0:World}{M:List Nat}{As Bs:List HA}
theorem dQ{C:World->Prop}{v:Value}(i:Nat)(ps:List (List Nat))(hi:ops[i]?=some ⟨some d,op,ty,pos,aft,none⟩)(h:OpQ X.P ⟨some d,op,ty,pos,aft,none⟩ L (HS w0 M Bs) v)(next:D X ops F (HS w0 M Bs) fuel (listed.setIfInBounds i true) k ((d,v)::L) C)(hok:Q0 ops listed i=true:=by kernel_rfl)(hF:Zi ops F i ps=true:=by kernel_rfl)(hn:QbG F listed=true:=by kernel_rfl)(hd:Nat.blt d X.n=true:=by rfl):D X ops F (HS w0 M Bs) (fuel+1) listed k L C:=d_q i ps hi h hok hF hn hd next
theorem dV{C:World->Prop}{B:World->Prop}{v:Value}(i:Nat)(hi:ops[i]?=some ⟨some d,op,ty,pos,aft,none⟩)(h:OpP X.P ⟨some d,op,ty,pos,aft,none⟩ L v)(next:D X ops F B fuel (listed.setIfInBounds i true) k ((d,v)::L) C)(hok:Q0 ops listed i=true:=by kernel_rfl)(hF:F.all (λf=>!Nat.beq f i)=true:=by rfl)(hd:Nat.blt d X.n=true:=by rfl):D X ops F B (fuel+1) listed k L C:=d_p i hi h hok hF hd next
theorem dH{B:World->Prop}{G:Type}{V:G->Value}{Fg:G->Prop}{C':G->World->Prop}(i:Nat)(hi:ops[i]?=some ⟨some d,op,ty,pos,aft,none⟩)(h:OpH X.P ⟨some d,op,ty,pos,aft,none⟩ L (HS w0 M As) V Fg C')(next:∀g,Fg g->D X ops F B fuel (listed.setIfInBounds i true) k ((d,V g)::L) (C' g))(hr:(Region.ready .any ops listed==[i])=true:=by kernel_rfl)(hB:∀w,HS w0 M As w->B w:=by(intro w h;exact h.ent aEt))(hd:Nat.blt d X.n=true:=by rfl):D X ops F B (fuel+1) listed k L (HS w0 M As):=d_h i hi h hr hB hd next
theorem dVo{C:World->Prop}{B:World->Prop}{v:Value}{j:Nat}{want b:Bool}(i dj:Nat)(hw:b=want)(hi:ops[i]?=some ⟨some d,op,ty,pos,aft,some (j,want)⟩)(hj:(ops[j]?).bind (·.dst)=some dj)(hb:Qh.get L dj=some (.bool b))(h:OpP X.P ⟨some d,op,ty,pos,aft,none⟩ L v)(next:D X ops F B fuel (listed.setIfInBounds i true) k ((d,v)::L) C)(hok:Q0 ops listed i=true:=by kernel_rfl)(hF:F.all (λf=>!Nat.beq f i)=true:=by rfl)(hd:Nat.blt d X.n=true:=by rfl):D X ops F B (fuel+1) listed k L C:=QkM i dj hi hj hb hw h hok hF hd next
theorem dQo{C:World->Prop}{v:Value}{j:Nat}{want b:Bool}(i dj:Nat)(ps:List (List Nat))(hw:b=want)(hi:ops[i]?=some ⟨some d,op,ty,pos,aft,some (j,want)⟩)(hj:(ops[j]?).bind (·.dst)=some dj)(hb:Qh.get L dj=some (.bool b))(h:OpQ X.P ⟨some d,op,ty,pos,aft,none⟩ L (HS w0 M Bs) v)(next:D X ops F (HS w0 M Bs) fuel (listed.setIfInBounds i true) k ((d,v)::L) C)(hok:Q0 ops listed i=true:=by kernel_rfl)(hF:Zi ops F i ps=true:=by kernel_rfl)(hn:QbG F listed=true:=by kernel_rfl)(hd:Nat.blt d X.n=true:=by rfl):D X ops F (HS w0 M Bs) (fuel+1) listed k L C:=QoC i dj ps hi hj hb hw h hok hF hn hd next
theorem rT{t:Nat}{v:Value}(hr:X.fn.results=[ResultVar.tmp t].toArray)(hv:Qh.get L t=some v)(h:∀w,HS w0 M As w->X.R (.returned (Qw [v])) w)(hrd:X.rd=none:=by rfl)(hdf:X.df=[]:=by rfl):S X (.c .ret::k) L (HS w0 M As):=Qg hr (.tmp hv .nil) h hrd hdf
end
theorem dT{p:Prop}[Decidable p]:(decide p=true)=p:=decide_eq_true_eq
theorem dN{p:Prop}[Decidable p]:decide p=false ↔ ¬p:=decide_eq_false_iff_not
class BP(b:Bool)(p n:outParam Prop):Prop where
 t:b=true->p
 f:b=false->n
instance(priority:=low) bp0(b:Bool):BP b (b=true) (b=false):=⟨id,id⟩
instance bpD(p:Prop)[Decidable p]:BP (decide p) p (¬p):=⟨of_decide_eq_true,of_decide_eq_false⟩
instance bpN(b:Bool)(p n:Prop)[h:BP b p n]:BP (!b) n p:=⟨λh9=>h.f (by simpa using h9),λh9=>h.t (by simpa using h9)⟩
instance bpA(a b:Bool)(p n p' n':Prop)[h:BP a p n][h':BP b p' n']:BP (a&&b) (p/\p') (n\/n'):=⟨λh9=>⟨h.t (by simp at h9;exact h9.1),h'.t (by simp at h9;exact h9.2)⟩,λh9=>by cases a with
 | true=>exact .inr (h'.f (by simpa using h9))
 | false=>exact .inl (h.f rfl)⟩
instance bpO(a b:Bool)(p n p' n':Prop)[h:BP a p n][h':BP b p' n']:BP (a||b) (p\/p') (n/\n'):=⟨λh9=>by cases a with
 | true=>exact .inl (h.t rfl)
 | false=>exact .inr (h'.t (by simpa using h9)),λh9=>⟨h.f (by simp at h9;exact h9.1),h'.f (by simp at h9;exact h9.2)⟩⟩
class TFn(P:Program)(f:Nat):Prop where h:QC P f=true
section
variable{X:Ctx}{k:List KI}{L:Qh}{C:World->Prop}
theorem sCd{c:Operand}{x y:Code}{b:Bool}{p n:Prop}(hc:ev L c=some (.bool b))[hB:BP b p n](ht:p->S X (.c x::k) L C)(hf:n->S X (.c y::k) L C):S X (.c (.cond c x y)::k) L C:=QnN hc (λh=>ht (hB.t h)) λh=>hf (hB.f h)
variable{ops:Array Oper}{rest:List Oper}{d ty:Nat}{pos:String}{aft:Array Edge}{op:Op}
theorem QJ(m dj dp:Nat){b c:Bool}{p n:Prop}{l:List Oper}(hb:Qh.get L dj=some (.bool b))[hB:BP b p n]
  (h1:b=true->p->O X ops (l.take m) (.join (At X.n X.df (λ_:Unit=>(dp,.bool c)::L) (λ_=>C))::k) L C)
  (h0:b=false->n->O X ops (l.take m) (.join (At X.n X.df (λ_:Unit=>(dp,.bool false)::L) (λ_=>C))::k) L C)
  (h2:O X ops (l.drop m) k ((dp,.bool (b&&c))::L) C):O X ops l k L C:=QoV m dj dp b c hb (λh=>h1 h (hB.t h)) (λh=>h0 h (hB.f h)) h2
theorem oOr(m dj dp:Nat){b c:Bool}{p n:Prop}{l:List Oper}(hb:Qh.get L dj=some (.bool b))[hB:BP b p n]
  (h1:b=false->n->O X ops (l.take m) (.join (At X.n X.df (λ_:Unit=>(dp,.bool c)::L) (λ_=>C))::k) L C)
  (h0:b=true->p->O X ops (l.take m) (.join (At X.n X.df (λ_:Unit=>(dp,.bool true)::L) (λ_=>C))::k) L C)
  (h2:O X ops (l.drop m) k ((dp,.bool (b||c))::L) C):O X ops l k L C:=o_or m dj dp b c hb (λh=>h1 h (hB.f h)) (λh=>h0 h (hB.t h)) h2
theorem oNo{j dj:Nat}{want b:Bool}{dst:Option Nat}(next:O X ops (⟨dst,op,ty,pos,aft,none⟩::rest) k L C)(hj:(ops[j]?).bind (·.dst)=some dj:=by rfl)(hs:Qh.get L dj=some (.bool b):=by rfl)(hb:b=want:=by assumption):O X ops (⟨dst,op,ty,pos,aft,some (j,want)⟩::rest) k L C:=o_on dj b hj hs hb next
theorem oFt{j dj:Nat}{b:Bool}(next:O X ops rest k ((d,undef)::L) C)(hj:(ops[j]?).bind (·.dst)=some dj:=by rfl)(hs:Qh.get L dj=some (.bool b):=by rfl)(hb:b=false:=by assumption)(hd:Nat.blt d X.n=true:=by rfl):O X ops (⟨some d,op,ty,pos,aft,some (j,true)⟩::rest) k L C:=QmS dj b hj hs hb hd next
theorem oFf{j dj:Nat}{b:Bool}(next:O X ops rest k ((d,undef)::L) C)(hj:(ops[j]?).bind (·.dst)=some dj:=by rfl)(hs:Qh.get L dj=some (.bool b):=by rfl)(hb:b=true:=by assumption)(hd:Nat.blt d X.n=true:=by rfl):O X ops (⟨some d,op,ty,pos,aft,some (j,false)⟩::rest) k L C:=QmS dj b hj hs hb hd next
theorem oFu{j dj:Nat}{want:Bool}(next:O X ops rest k ((d,undef)::L) C)(hj:(ops[j]?).bind (·.dst)=some dj:=by rfl)(hs:Qh.get L dj=some undef:=by rfl)(hd:Nat.blt d X.n=true:=by rfl):O X ops (⟨some d,op,ty,pos,aft,some (j,want)⟩::rest) k L C:=Qm4 dj hj hs hd next
variable{w0:World}{M:List Nat}{As:List HA}
theorem rV{t:Nat}{v v':Value}(hr:X.fn.results=[ResultVar.tmp t].toArray:=by rfl)(hv:Qh.get L t=some v:=by rfl)(hR:X.R=λen w'=>en=.returned v'/\Below w0.heap.size w0 w':=by rfl)(hrd:X.rd=none:=by rfl)(hdf:X.df=[]:=by rfl)(h:Ending.returned (Qw [v])=.returned v':=by rfl):S X (.c .ret::k) L (HS w0 [] As):=Qg hr (.tmp hv .nil) (λw' h'=>hR▸⟨h,h'.below⟩) hrd hdf
theorem oCq{f:FuncId}{args:Array Operand}{vs:List Value}{v:Value}{at':Array TypeId}(ha:evs L args.toList=some vs)[hf:TFn X.P f](hc:∀w,HS w0 M As w->Calls X.P f vs.toArray w λe w'=>e=.returned v/\Below w.heap.size w w')(next:O X ops rest k ((d,v)::L) (HS w0 M As))(hd:Nat.blt d X.n=true:=by rfl) :
  O X ops (⟨some d,.call {callee:=.value (.func f),args:=args,argTypes:=at'},ty,pos,aft,none⟩::rest) k L (HS w0 M As):=o_q (Qe rfl hf.h ha hc) hd next
theorem oCh{G:Type}{V:G->Value}{F:G->Prop}{Bs:G->List HA}{f:FuncId}{args:Array Operand}{vs:List Value}{at':Array TypeId}(ha:evs L args.toList=some vs)[hf:TFn X.P f](hc:∀w,HS w0 M As w->Calls X.P f vs.toArray w λe w'=>∃g,e=.returned (V g)/\F g/\HS w [] (Bs g) w')(next:∀g,F g->O X ops rest k ((d,V g)::L) (HS w0 M (Bs g++As)))(hd:Nat.blt d X.n=true:=by rfl) :
  O X ops (⟨some d,.call {callee:=.value (.func f),args:=args,argTypes:=at'},ty,pos,aft,none⟩::rest) k L (HS w0 M As):=o_h (Xy rfl hf.h ha hc) hd next
theorem sBk{α:Type}{LJ:α->Qh}{CJ:α->World->Prop}{I:α->Prop}{m:α->Nat}{x:α}(y:α)(hm:m y<m x:=by omega)(hI:I y:=by omega)(hL:Qas L (LJ y):=by repeat (first|exact Qme|refine QiN rfl ?_))(hC:∀w,HS w0 M As w->CJ y w:=by(intro w h;exact h.ent aEt)):S X (.join (Qji X.n X.df LJ CJ I m x)::k) L (HS w0 M As):=QH y hm hI hL hC
end
section
variable{X:Ctx}{k:List KI}{L:Qh}{C:World->Prop}{ops:Array Oper}{rest:List Oper}{d ty:Nat}{pos:String}{aft:Array Edge}{op:Op}{LJ:Unit->Qh}{CJ:Unit->World->Prop}
theorem o0t{j dj:Nat}{b:Bool}(next:O X ops rest k L C)(hj:(ops[j]?).bind (·.dst)=some dj:=by rfl)(hs:Qh.get L dj=some (.bool b):=by rfl)(hb:b=false:=by assumption):O X ops (⟨none,op,ty,pos,aft,some (j,true)⟩::rest) k L C:=Qjk dj b hj hs hb next
theorem o0f{j dj:Nat}{b:Bool}(next:O X ops rest k L C)(hj:(ops[j]?).bind (·.dst)=some dj:=by rfl)(hs:Qh.get L dj=some (.bool b):=by rfl)(hb:b=true:=by assumption):O X ops (⟨none,op,ty,pos,aft,some (j,false)⟩::rest) k L C:=Qjk dj b hj hs hb next
theorem oJt(m dp:Nat){c x y:Operand}{b:Bool}{v:Value}(hc:ev L c=some (.bool b):=by rfl)(hb:b=true:=by assumption)(hx:ev L x=some v:=by rfl)(hd:Nat.blt dp X.n=true:=by rfl)(hJ:LJ ()=(dp,v)::((dp,v)::L).drop m:=by exact rfl)(hf:QdV ((dp,v)::L) m=true:=by exact rfl)(hC:∀w,C w->CJ () w:=by(intro w h;first|exact h|exact h.ent aEt)) :
  O X ops [⟨some dp,.pick c x y,ty,pos,aft,none⟩] (.join (At X.n X.df LJ CJ)::k) L C:=o_p (QZ rfl hc hb hx) hd (Qlr (Qif m dp v hJ (by rw[Qh.get_cons,if_pos rfl]) hf hC))
theorem oJf(m dp:Nat){c x y:Operand}{b:Bool}{v:Value}(hc:ev L c=some (.bool b):=by rfl)(hb:b=false:=by assumption)(hx:ev L y=some v:=by rfl)(hd:Nat.blt dp X.n=true:=by rfl)(hJ:LJ ()=(dp,v)::((dp,v)::L).drop m:=by exact rfl)(hf:QdV ((dp,v)::L) m=true:=by exact rfl)(hC:∀w,C w->CJ () w:=by(intro w h;first|exact h|exact h.ent aEt)) :
  O X ops [⟨some dp,.pick c x y,ty,pos,aft,none⟩] (.join (At X.n X.df LJ CJ)::k) L C:=o_p (QN rfl hc hb hx) hd (Qlr (Qif m dp v hJ (by rw[Qh.get_cons,if_pos rfl]) hf hC))
end
section
variable{P:Program}{f:FuncId}{fn:Func}{n:Nat}{c:Code}{w w1:World}{R:Ending->World->Prop}{M:List Nat}{As:List HA}
theorem eN0(hf:P.funcs[f]?=some fn)(hn:fn.ntmps=n)(h:S {P:=P,fn:=fn,n:=n,R:=R} [.c c] (Qbx 0 []) (HS w [] []))(hb:fn.body=some c:=by rfl)(hl:Nat.ble 0 n=true:=by rfl):Calls P f #[] w R:=enter (args:=[]) hf hn hb hl (HS.refl w []) h
theorem eN1{x0:Value}(hf:P.funcs[f]?=some fn)(hn:fn.ntmps=n)(h:S {P:=P,fn:=fn,n:=n,R:=R} [.c c] (Qbx 0 [x0]) (HS w [] []))(hb:fn.body=some c:=by rfl)(hl:Nat.ble 1 n=true:=by rfl):Calls P f #[x0] w R:=enter (args:=[x0]) hf hn hb hl (HS.refl w []) h
theorem eW1{x0:Value}(hf:P.funcs[f]?=some fn)(hn:fn.ntmps=n)(hw:HS w1 M As w)(h:S {P:=P,fn:=fn,n:=n,R:=R} [.c c] (Qbx 0 [x0]) (HS w1 M As))(hb:fn.body=some c:=by rfl)(hl:Nat.ble 1 n=true:=by rfl):Calls P f #[x0] w R:=enter (args:=[x0]) hf hn hb hl hw h
theorem eN2{x0:Value}{x1:Value}(hf:P.funcs[f]?=some fn)(hn:fn.ntmps=n)(h:S {P:=P,fn:=fn,n:=n,R:=R} [.c c] (Qbx 0 [x0,x1]) (HS w [] []))(hb:fn.body=some c:=by rfl)(hl:Nat.ble 2 n=true:=by rfl):Calls P f #[x0,x1] w R:=enter (args:=[x0,x1]) hf hn hb hl (HS.refl w []) h
theorem eW2{x0:Value}{x1:Value}(hf:P.funcs[f]?=some fn)(hn:fn.ntmps=n)(hw:HS w1 M As w)(h:S {P:=P,fn:=fn,n:=n,R:=R} [.c c] (Qbx 0 [x0,x1]) (HS w1 M As))(hb:fn.body=some c:=by rfl)(hl:Nat.ble 2 n=true:=by rfl):Calls P f #[x0,x1] w R:=enter (args:=[x0,x1]) hf hn hb hl hw h
theorem eN3{x0:Value}{x1:Value}{x2:Value}(hf:P.funcs[f]?=some fn)(hn:fn.ntmps=n)(h:S {P:=P,fn:=fn,n:=n,R:=R} [.c c] (Qbx 0 [x0,x1,x2]) (HS w [] []))(hb:fn.body=some c:=by rfl)(hl:Nat.ble 3 n=true:=by rfl):Calls P f #[x0,x1,x2] w R:=enter (args:=[x0,x1,x2]) hf hn hb hl (HS.refl w []) h
theorem eW3{x0:Value}{x1:Value}{x2:Value}(hf:P.funcs[f]?=some fn)(hn:fn.ntmps=n)(hw:HS w1 M As w)(h:S {P:=P,fn:=fn,n:=n,R:=R} [.c c] (Qbx 0 [x0,x1,x2]) (HS w1 M As))(hb:fn.body=some c:=by rfl)(hl:Nat.ble 3 n=true:=by rfl):Calls P f #[x0,x1,x2] w R:=enter (args:=[x0,x1,x2]) hf hn hb hl hw h
theorem eN4{x0:Value}{x1:Value}{x2:Value}{x3:Value}(hf:P.funcs[f]?=some fn)(hn:fn.ntmps=n)(h:S {P:=P,fn:=fn,n:=n,R:=R} [.c c] (Qbx 0 [x0,x1,x2,x3]) (HS w [] []))(hb:fn.body=some c:=by rfl)(hl:Nat.ble 4 n=true:=by rfl):Calls P f #[x0,x1,x2,x3] w R:=enter (args:=[x0,x1,x2,x3]) hf hn hb hl (HS.refl w []) h
theorem eW4{x0:Value}{x1:Value}{x2:Value}{x3:Value}(hf:P.funcs[f]?=some fn)(hn:fn.ntmps=n)(hw:HS w1 M As w)(h:S {P:=P,fn:=fn,n:=n,R:=R} [.c c] (Qbx 0 [x0,x1,x2,x3]) (HS w1 M As))(hb:fn.body=some c:=by rfl)(hl:Nat.ble 4 n=true:=by rfl):Calls P f #[x0,x1,x2,x3] w R:=enter (args:=[x0,x1,x2,x3]) hf hn hb hl hw h
theorem eN5{x0:Value}{x1:Value}{x2:Value}{x3:Value}{x4:Value}(hf:P.funcs[f]?=some fn)(hn:fn.ntmps=n)(h:S {P:=P,fn:=fn,n:=n,R:=R} [.c c] (Qbx 0 [x0,x1,x2,x3,x4]) (HS w [] []))(hb:fn.body=some c:=by rfl)(hl:Nat.ble 5 n=true:=by rfl):Calls P f #[x0,x1,x2,x3,x4] w R:=enter (args:=[x0,x1,x2,x3,x4]) hf hn hb hl (HS.refl w []) h
theorem eW5{x0:Value}{x1:Value}{x2:Value}{x3:Value}{x4:Value}(hf:P.funcs[f]?=some fn)(hn:fn.ntmps=n)(hw:HS w1 M As w)(h:S {P:=P,fn:=fn,n:=n,R:=R} [.c c] (Qbx 0 [x0,x1,x2,x3,x4]) (HS w1 M As))(hb:fn.body=some c:=by rfl)(hl:Nat.ble 5 n=true:=by rfl):Calls P f #[x0,x1,x2,x3,x4] w R:=enter (args:=[x0,x1,x2,x3,x4]) hf hn hb hl hw h
theorem eW6{x0:Value}{x1:Value}{x2:Value}{x3:Value}{x4:Value}{x5:Value}(hf:P.funcs[f]?=some fn)(hn:fn.ntmps=n)(hw:HS w1 M As w)(h:S {P:=P,fn:=fn,n:=n,R:=R} [.c c] (Qbx 0 [x0,x1,x2,x3,x4,x5]) (HS w1 M As))(hb:fn.body=some c:=by rfl)(hl:Nat.ble 6 n=true:=by rfl):Calls P f #[x0,x1,x2,x3,x4,x5] w R:=enter (args:=[x0,x1,x2,x3,x4,x5]) hf hn hb hl hw h
end
theorem aU{p q:Prop}(hq:q)(h:(Unit->q)->p:=by(intro hq;first|refine QoI ?_|refine QkC ?_|refine Qlr ?_|refine QnM ?_|refine Qlv ?_|refine QmC ?_|refine oP ?_|refine oNo ?_|refine oFt ?_|refine oFf ?_|refine oFu ?_|refine o0t ?_|refine o0f ?_|refine oFa ?_|refine oLs ?_|refine oLd ?_|refine oLn ?_|refine oSt ?_);exact hq ()):p:=h λ_=>hq
theorem aT{p q:Prop}(hq:q)(h:(Unit->q)->p:=by(intro hq;refine aU ?_;try refine oWr ?_);exact hq ()):p:=h λ_=>hq
theorem aU2{p q:Prop}(hq:q)(h:(Unit->q)->p:=by(intro hq;iterate 2 refine aU ?_);exact hq ()):p:=h λ_=>hq
theorem aT2{p q:Prop}(hq:q)(h:(Unit->q)->p:=by(intro hq;(iterate 2 refine aU ?_);try refine oWr ?_);exact hq ()):p:=h λ_=>hq
theorem aU3{p q:Prop}(hq:q)(h:(Unit->q)->p:=by(intro hq;iterate 3 refine aU ?_);exact hq ()):p:=h λ_=>hq
theorem aT3{p q:Prop}(hq:q)(h:(Unit->q)->p:=by(intro hq;(iterate 3 refine aU ?_);try refine oWr ?_);exact hq ()):p:=h λ_=>hq
theorem aU4{p q:Prop}(hq:q)(h:(Unit->q)->p:=by(intro hq;iterate 4 refine aU ?_);exact hq ()):p:=h λ_=>hq
theorem aT4{p q:Prop}(hq:q)(h:(Unit->q)->p:=by(intro hq;(iterate 4 refine aU ?_);try refine oWr ?_);exact hq ()):p:=h λ_=>hq
theorem aU5{p q:Prop}(hq:q)(h:(Unit->q)->p:=by(intro hq;iterate 5 refine aU ?_);exact hq ()):p:=h λ_=>hq
theorem aT5{p q:Prop}(hq:q)(h:(Unit->q)->p:=by(intro hq;(iterate 5 refine aU ?_);try refine oWr ?_);exact hq ()):p:=h λ_=>hq
theorem aU6{p q:Prop}(hq:q)(h:(Unit->q)->p:=by(intro hq;iterate 6 refine aU ?_);exact hq ()):p:=h λ_=>hq
theorem aT6{p q:Prop}(hq:q)(h:(Unit->q)->p:=by(intro hq;(iterate 6 refine aU ?_);try refine oWr ?_);exact hq ()):p:=h λ_=>hq
theorem aU7{p q:Prop}(hq:q)(h:(Unit->q)->p:=by(intro hq;iterate 7 refine aU ?_);exact hq ()):p:=h λ_=>hq
theorem aT7{p q:Prop}(hq:q)(h:(Unit->q)->p:=by(intro hq;(iterate 7 refine aU ?_);try refine oWr ?_);exact hq ()):p:=h λ_=>hq
theorem aU8{p q:Prop}(hq:q)(h:(Unit->q)->p:=by(intro hq;iterate 8 refine aU ?_);exact hq ()):p:=h λ_=>hq
theorem aT8{p q:Prop}(hq:q)(h:(Unit->q)->p:=by(intro hq;(iterate 8 refine aU ?_);try refine oWr ?_);exact hq ()):p:=h λ_=>hq
theorem aU9{p q:Prop}(hq:q)(h:(Unit->q)->p:=by(intro hq;iterate 9 refine aU ?_);exact hq ()):p:=h λ_=>hq
theorem aT9{p q:Prop}(hq:q)(h:(Unit->q)->p:=by(intro hq;(iterate 9 refine aU ?_);try refine oWr ?_);exact hq ()):p:=h λ_=>hq
theorem YO{p q:Prop}(hq:q)(h:(Unit->q)->p:=by(intro hq;iterate 10 refine aU ?_);exact hq ()):p:=h λ_=>hq
theorem aT10{p q:Prop}(hq:q)(h:(Unit->q)->p:=by(intro hq;(iterate 10 refine aU ?_);try refine oWr ?_);exact hq ()):p:=h λ_=>hq
theorem Y0{p q:Prop}(hq:q)(h:(Unit->q)->p:=by(intro hq;iterate 11 refine aU ?_);exact hq ()):p:=h λ_=>hq
theorem aT11{p q:Prop}(hq:q)(h:(Unit->q)->p:=by(intro hq;(iterate 11 refine aU ?_);try refine oWr ?_);exact hq ()):p:=h λ_=>hq
theorem Zr{p q:Prop}(hq:q)(h:(Unit->q)->p:=by(intro hq;iterate 12 refine aU ?_);exact hq ()):p:=h λ_=>hq
theorem Qb9{p q:Prop}(hq:q)(h:(Unit->q)->p:=by(intro hq;iterate 13 refine aU ?_);exact hq ()):p:=h λ_=>hq
theorem aT13{p q:Prop}(hq:q)(h:(Unit->q)->p:=by(intro hq;(iterate 13 refine aU ?_);try refine oWr ?_);exact hq ()):p:=h λ_=>hq
theorem Qg0{p q:Prop}(hq:q)(h:(Unit->q)->p:=by(intro hq;iterate 14 refine aU ?_);exact hq ()):p:=h λ_=>hq
theorem aT14{p q:Prop}(hq:q)(h:(Unit->q)->p:=by(intro hq;(iterate 14 refine aU ?_);try refine oWr ?_);exact hq ()):p:=h λ_=>hq
theorem aU15{p q:Prop}(hq:q)(h:(Unit->q)->p:=by(intro hq;iterate 15 refine aU ?_);exact hq ()):p:=h λ_=>hq
theorem Qmj{p q:Prop}(hq:q)(h:(Unit->q)->p:=by(intro hq;iterate 16 refine aU ?_);exact hq ()):p:=h λ_=>hq
theorem aU19{p q:Prop}(hq:q)(h:(Unit->q)->p:=by(intro hq;iterate 19 refine aU ?_);exact hq ()):p:=h λ_=>hq
theorem aU21{p q:Prop}(hq:q)(h:(Unit->q)->p:=by(intro hq;iterate 21 refine aU ?_);exact hq ()):p:=h λ_=>hq
end Gx
namespace Go.Proofs
open Go Go.RowKit Gx
instance:TSe Tryz.prog 22 87:=⟨Tryz.underlying22⟩
instance:TSe Tryz.prog 26 119:=⟨Tryz.underlying26⟩
instance:TSe Tryz.prog 61 72:=⟨Tryz.underlying61⟩
instance:TSe Tryz.prog 65 3:=⟨Tryz.underlying65⟩
instance:TSe Tryz.prog 85 50:=⟨Tryz.underlying85⟩
instance:TSe Tryz.prog 124 5:=⟨Tryz.underlying124⟩
instance:TSe Tryz.prog 139 34:=⟨Tryz.underlying139⟩
instance:TSe Tryz.prog 211 26:=⟨Tryz.underlying211⟩
/-- A call that answers v and writes to no old block. -/
abbrev CR(f:FuncId)(x:Array Value)(w:World)(v:Value):Prop:=Calls Tryz.prog f x w λen w'=>en=.returned v/\Below w.heap.size w w'
/-- A call that makes blocks. -/
abbrev CE{G:Type}(f:FuncId)(x:Array Value)(w:World)(M:List Nat)(V:G->Value)(F:G->Prop)(B:G->List HA):Prop:=Calls Tryz.prog f x w λen w'=>∃g,en=.returned (V g)/\F g/\HS w M (B g) w'
end Go.Proofs
/- What chapter 13's texts stand on. -/
namespace Go.Proofs
open Go Go.RowKit Gx
attribute [local irreducible] Go.Calls Gx.S Gx.O Gx.D Gx.OpP Gx.OpQ Gx.OpH
set_option maxRecDepth 20000
theorem Q6:tsl Tryz.prog 139=some (34,1,8):=by kernel_rfl
theorem Zc:tsz Tryz.prog 34=some (1,false):=by kernel_rfl
instance:TSz Tryz.prog 34 1 false:=⟨Zc⟩
instance:TFn Tryz.prog 171:=⟨by kernel_rfl⟩
theorem Z8:QC Tryz.prog 133=true:=by kernel_rfl
instance:TFn Tryz.prog 133:=⟨Z8⟩
instance:TFn Tryz.prog 172:=⟨by kernel_rfl⟩
theorem Xx:Q8 Tryz.prog 34=some [.int .i64 0]:=by kernel_rfl
theorem QdW:QC Tryz.prog 132=true:=by kernel_rfl
instance:TFn Tryz.prog 132:=⟨QdW⟩
instance:TFn Tryz.prog 56:=⟨by kernel_rfl⟩
theorem QiT(w:World)(n lo hi:Int):CR 171 #[.int .i64 n,.int .i64 lo,.int .i64 hi] w (.bool (decide (lo<=n)&&decide (n<=hi))):=by
 refine eN3 Tryz.func171 Tryz.ntmps171 ?_
 refine YO ?_
 refine QJ 4 10 14 rfl
  (λhg1 _=>by
   refine aU6 ?_
   exact oJt 4 14)
  (λhg3 _=>by
   refine aU3 ?_
   exact oJf 4 14) ?_
 refine aU2 ?_
 exact rV
theorem c56(w:World)(n lo hi:Int):CR 56 #[.int .i64 n,.int .i64 lo,.int .i64 hi] w (.bool (decide (lo<=n)&&decide (n<=hi))):=by
 refine eN3 Tryz.func56 Tryz.ntmps56 ?_
 refine YO ?_
 refine QJ 4 10 14 rfl
  (λhg1 _=>by
   refine aU6 ?_
   exact oJt 4 14)
  (λhg3 _=>by
   refine aU3 ?_
   exact oJf 4 14) ?_
 refine aU2 ?_
 exact rV
theorem Qcs(w:World)(ok:Bool)(e:Int):CR 133 #[.bool ok,.int .i64 e] w (.int .i64 (cond ok 0 e)):=by
 refine eN2 Tryz.func133 Tryz.ntmps133 ?_
 refine aU9 ?_
 refine sCd rfl (λh1=>?_) λh1=>?_
 ·refine aU4 ?_
  exact rV (h:=by simp_all[Qw])
 refine aU6 ?_
 exact rV (h:=by simp_all[Qw])
theorem c132(w:World)(a:Option Addr)(cap:Nat)(es:List Int)(hs:Sl w [] a 1 es.length (λi=>[.int .i64 (es.getD i 0)]))(hm:es.length<=1000):CR 132 #[.slice a es.length cap] w (.int .i64 (X7 es)):=by
 refine eN1 Tryz.func132 Tryz.ntmps132 ?_
 refine Zr ?_
 refine Qp (α:=Nat) [2,4,7,8,9,10,11,12,13,14] (λk=>[(7,.int .i64 (k:Int))]) (λ_=>_) (λk=>k<=es.length/\X7 es=X7 (es.drop k)) (λk=>es.length-k) 0 ⟨om,rfl⟩ aSx (λw h=>h) (λk hk=>?_)
 obtain⟨hk1,hk2⟩:=hk
 refine aU5 ?_
 refine sCd rfl (λh1=>?_) λh1=>?_
 ·refine aU5 ?_
  refine o_p (Qa rfl rfl rfl Q6 _ rfl om (hs.some om)) rfl (o_q (Qb rfl rfl Zc (hs.rd (i:=k) (j:=0) om rfl)) rfl (aU7 ?_))
  refine sCd rfl (λh2=>?_) λh2=>?_
  ·refine aU5 ?_
   exact rV (h:=by simp only[Qw];rw[hk2,Ym om,if_neg (by assumption)])
  refine aT4 ?_
  refine aU2 ?_
  exact QH (k+1) om ⟨om,by rw[hk2,Ym om,if_pos (by assumption)]⟩ aSx (λw h=>h)
 refine Qk rfl ?_
 refine aU4 ?_
 exact rV (h:=by simp only[Qw];rw[hk2,QbJ om])
theorem QjC{w0 w:World}{M:List Nat}{As As':List HA}{b cap n:Nat}{t:TypeId}{tot:Nat}{cs:List Value}(h:HS w0 M As w)(hp:QG As (.blk b t tot cs) As')(hc:cs.all Qe3=true)(hn:cs.length=n)(hl:n<=1000) :
    Calls Tryz.prog 132 #[.slice (some ⟨b,0,none⟩) n cap] w λen w'=>en=.returned (.int .i64 (QV cs))/\Below w.heap.size w w':=by
  subst hn;have:=c132 w (some ⟨b,0,none⟩) cap (cs.map Go.RowKit.intOf) (by simpa using h.sl_ints hp hc) (by simpa using hl);rw[Qbp hc]at this
  simpa using this
theorem c172(w:World)(n:Int):CR 172 #[.int .i64 n] w (.int .i64 (QL n)):=by
 refine eN1 Tryz.func172 Tryz.ntmps172 ?_
 refine aU7 ?_
 refine oCq rfl (λw1 h1=>QiT w1 _ _ _) (oCq rfl (λw1 h1=>Qcs w1 _ _) (aU2 ?_))
 exact rV (h:=by simp only[Qw,QL,cond_eq_ite,Bool.and_eq_true,decide_eq_true_eq])
theorem Qag{a b:Int}:QV [.int .i64 a,.int .i64 b]=if a=0 then b else a:=by
  simp only[QV]
  grind
theorem c131(w:World)(co mo rm:Int):CR 131 #[.int .i64 co,.int .i64 mo,.int .i64 rm] w (.int .i64 (if QL co=0 then Yy mo rm else QL co)):=by
 refine eN3 Tryz.func131 Tryz.ntmps131 ?_
 refine aU7 ?_
 refine oCq rfl (λw1 h1=>QiT w1 _ _ _) (aU ?_)
 refine QJ 6 10 16 rfl
  (λhg1 _=>by
   refine aU5 ?_
   refine o_p (Y5 rfl rfl rfl om om om) rfl (aU3 ?_)
   refine oCq rfl (λw1 h1=>QiT w1 _ _ _) ?_
   exact oJt 6 16)
  (λhg3 _=>by
   refine aU5 ?_
   exact oJf 6 16) ?_
 refine aU5 ?_
 refine oCq rfl (λw1 h1=>c172 w1 _) (aU ?_)
 refine oCq rfl (λw1 h1=>Qcs w1 _ _) (o_h (Qc (cs:=[_,_]) rfl rfl Q6 Xx rfl rfl rfl) rfl (λb5 _=>oCq rfl (λw1 h1=>QjC h1 aPk (by rfl) (by rfl) (by decide)) (aU2 ?_)))
 exact rV (h:=by simp only[Qw];rw[Qag];simp only[Yy,cond_eq_ite,Bool.and_eq_true,decide_eq_true_eq])
theorem c104(w:World)(n:Int):CR 104 #[.int .i64 n] w (.int .i64 (QL n)):=by
 refine eN1 Tryz.func104 Tryz.ntmps104 ?_
 refine aU8 ?_
 refine oCq rfl (λw1 h1=>c56 w1 _ _ _) (aU2 ?_)
 refine sCd rfl (λh1=>?_) λh1=>?_
 ·have hz:QL n=15:=by have hq:=h1;unfold QL;rw[if_neg (by first|omega|(simp at hq;omega))]
  refine aU4 ?_
  exact rV (h:=by rw[hz];rfl)
 have hz:QL n=0:=by have hq:=h1;unfold QL;rw[if_pos (by first|omega|(simp at hq;omega))]
 refine aU5 ?_
 exact rV (h:=by rw[hz];rfl)
theorem c105(w:World)(mo rm:Int):CR 105 #[.int .i64 mo,.int .i64 rm] w (.int .i64 (Yy mo rm)):=by
 refine eN2 Tryz.func105 Tryz.ntmps105 ?_
 refine aU8 ?_
 refine oCq rfl (λw1 h1=>c56 w1 _ _ _) (aU2 ?_)
 refine oOr 7 8 15 rfl
  (λhg1 _=>by
   refine aU5 ?_
   refine o_p (Y5 rfl rfl rfl om om om) rfl (aU3 ?_)
   refine oCq rfl (λw1 h1=>c56 w1 _ _ _) (aU2 ?_)
   exact oJf 7 15)
  (λhg3 _=>by
   refine aU6 ?_
   exact oJt 7 15) ?_
 refine aU ?_
 refine sCd rfl (λh5=>?_) λh5=>?_
 ·have hz:Yy mo rm=2:=by have hq:=h5;unfold Yy;rw[if_neg (by first|omega|(simp at hq;omega))]
  refine aU4 ?_
  exact rV (h:=by rw[hz];rfl)
 have hz:Yy mo rm=0:=by have hq:=h5;unfold Yy;rw[if_pos (by first|omega|(simp at hq;omega))]
 refine aU5 ?_
 exact rV (h:=by rw[hz];rfl)
theorem Yx:tki Tryz.prog 5=some .u8:=by kernel_rfl
theorem X2:tki Tryz.prog 3=some .i64:=by kernel_rfl
theorem Qks:QC Tryz.prog 63=true:=by kernel_rfl
instance:TFn Tryz.prog 63:=⟨Qks⟩
theorem Qj0(a b:Int):Value.int .i64 (IntKind.i64.wrap ((if decide (b<a)=true then 1 else 0)-(if decide (a<b)=true then 1 else 0)))=Value.int .i64 (Xs a b):=by
  unfold Xs
  by_cases h1:a<b
  · have h2:¬b<a:=by omega
    simp only[h1,h2,decide_true,decide_false,Bool.false_eq_true,if_true,if_false];rfl
  · by_cases h2:b<a
    · simp only[h1,h2,decide_true,decide_false,Bool.false_eq_true,if_true,if_false];rfl
    · simp only[h1,h2,decide_true,decide_false,Bool.false_eq_true,if_true,if_false];rfl
def QeQ(c:Int):Int:=if 97<=c/\c<=122 then c-32 else c
theorem QdO(u:UInt8):QeQ (u.toNat:Int)=((QaH u).toNat:Int):=by
  have hu:=u.toNat_lt;unfold QeQ QaH
  by_cases h:97<=u/\u<=122
  · have h2:=h;rw[UInt8.le_iff_toNat_le,UInt8.le_iff_toNat_le]at h2;have e97:(97:UInt8).toNat=97:=rfl;have e122:(122:UInt8).toNat=122:=rfl;rw[e97,e122]at h2;rw[if_pos h,if_pos om,UInt8.toNat_sub_of_le _ _ (by rw[UInt8.le_iff_toNat_le];show 32<=_;omega)];show(u.toNat:Int)-32=((u.toNat-32:Nat):Int);omega
  · have h2:=h;rw[UInt8.le_iff_toNat_le,UInt8.le_iff_toNat_le]at h2;have e97:(97:UInt8).toNat=97:=rfl;have e122:(122:UInt8).toNat=122:=rfl;rw[e97,e122]at h2;rw[if_neg h,if_neg om]
theorem c60(w:World)(s:List UInt8)(at' c:Nat)(hm:s.length<=1000000000)(hc:c<=7)(hac:at'+c<=s.length):CR 60 #[.string (bs s),.int .i64 (at':Int),.int .i64 (c:Int)] w (.int .i64 (Z5 s at' c)):=by
 refine eN3 Tryz.func60 Tryz.ntmps60 ?_
 refine aT13 ?_
 refine aU3 ?_
 refine Qp (α:=Nat) [7,8,11,12,13,14,15,16,17,18,19,20,21,22,23] (λj=>[(8,.int .i64 ((j:Int)-1)),(7,.int .i64 (Z5 s (at'+j) (c-j)))]) (λ_=>_) (λj=>j<=c) (λj=>j) c (Nat.le_refl _) (by rw[Nat.sub_self];exact aSx) (λw h=>h) (λj hj=>?_)
 refine aU6 ?_
 refine sCd rfl (λh1=>?_) λh1=>?_
 ·obtain⟨i,rfl⟩:∃i,j=i+1:=⟨j-1,om⟩
  have hst:Z5 s (at'+i) (c-i)=at1 s (at'+i)+256*Z5 s (at'+(i+1)) (c-(i+1)):=by rw[show c-i=(c-(i+1))+1 by omega,Z5];rfl
  have hb1:=YW s (at'+i)
  have hn6:=Qno s (at'+(i+1)) (k:=c-(i+1)) om
  have hb9:=(s.getD (at'+i) 0).toNat_lt
  refine aT6 ?_
  refine aT4 ?_
  refine Qn (show _=Value.int .i64 ((at'+i:Nat):Int)from by congr 1;omega) (o_p (Xm rfl rfl rfl Tryz.underlying9 (at'+i) om om) rfl ?_)
  refine o_p (Qm rfl rfl Yx X2) rfl ?_
  try refine oWr ?_
  refine aT ?_
  refine Qn (show _=Value.int .i64 (Z5 s (at'+i) (c-i))from by rw[hst];congr 1;show _*256+at1 s (at'+i)=_;omega) (aT6 ?_)
  refine aU2 ?_
  exact QH i om om (by rw[show((i:Int)-1)=((i+1:Nat):Int)-1-1 from om];exact aSx) (λw h=>h)
 obtain rfl:j=0:=om
 rw[Nat.add_zero,Nat.sub_zero]
 refine Qk rfl ?_
 refine aU5 ?_
 exact rV
theorem c63(w:World)(b:Bool):CR 63 #[.bool b] w (.int .i64 (if b then 1 else 0)):=by
 refine eN1 Tryz.func63 Tryz.ntmps63 ?_
 refine aU9 ?_
 refine sCd rfl (λh1=>?_) λh1=>?_
 ·refine aU4 ?_
  exact rV (h:=by simp_all[Qw])
 refine aU5 ?_
 exact rV (h:=by simp_all[Qw])
theorem c17(w:World)(n:Int):CR 17 #[.int .i64 n] w (.bool (decide (0<=n)&&decide (n<=2147483647))):=by
 refine eN1 Tryz.func17 Tryz.ntmps17 ?_
 refine aU7 ?_
 refine oCq rfl (λw1 h1=>c56 w1 _ _ _) (aU2 ?_)
 exact rV
theorem Qkb(w:World)(a b:Int):CR 156 #[.int .i64 a,.int .i64 b] w (.int .i64 (Xs a b)):=by
 refine eN2 Tryz.func156 Tryz.ntmps156 ?_
 refine aU9 ?_
 refine oCq rfl (λw1 h1=>c63 w1 _) (aU3 ?_)
 refine oCq rfl (λw1 h1=>c63 w1 _) (aU ?_)
 refine Qn (show _=Value.int .i64 (Xs a b)from Qj0 a b) (aU2 ?_)
 exact rV
theorem c157(w:World)(c:Int)(h0:0<=c/\c<=255):CR 157 #[.int .i64 c] w (.int .i64 (QeQ c)):=by
 refine eN1 Tryz.func157 Tryz.ntmps157 ?_
 refine aU8 ?_
 refine oCq rfl (λw1 h1=>c56 w1 _ _ _) (aU ?_)
 refine sCd rfl (λh1=>?_) λh1=>?_
 ·have hz:QeQ c=c-97+65:=by have hq:=h1;unfold QeQ;rw[if_pos (by first|exact hq|(simp at hq;omega))];omega
  refine aT4 ?_
  refine aT ?_
  refine aU2 ?_
  exact rV (h:=by rw[hz];rfl)
 have hz:QeQ c=c:=by have hq:=h1;unfold QeQ;rw[if_neg (by intro h9;first|exact hq h9|(simp at hq;omega))]
 refine aU6 ?_
 exact rV (h:=by rw[hz];rfl)
theorem QD:tsl Tryz.prog 124=some (5,1,1):=by kernel_rfl
theorem ZZ:tsz Tryz.prog 5=some (1,false):=by kernel_rfl
theorem XE:tki Tryz.prog 146=some .u16:=by kernel_rfl
theorem mixed:Tryz.prog.follows .mixedOrders=true:=by kernel_rfl
theorem Qkq:QC Tryz.prog 245=true:=by kernel_rfl
theorem Xt:tki Tryz.prog 143=some .u32:=by kernel_rfl
instance:TFn Tryz.prog 234:=⟨by kernel_rfl⟩
instance:TFn Tryz.prog 235:=⟨by kernel_rfl⟩
theorem Qom:isCS Tryz.prog 233:=⟨_,Tryz.func233,rfl,rfl,by kernel_rfl,by kernel_rfl⟩
instance:TFn Tryz.prog 216:=⟨by kernel_rfl⟩
theorem c245(w:World)(a:Option Addr)(m cap:Nat)(x:List UInt8)(hs:Vl w a (x.map bv))(hm:x.length=m)(h2:2<=m)(hc:m<=cap)(hc9:cap<=9223372036854775807):CR 245 #[.slice a m cap] w (.int .u16 (at2 x 0)):=by
 refine eN1 Tryz.func245 Tryz.ntmps245 ?_
 refine aU5 ?_
 refine Qq [] mixed ?_
 refine dP 0 ?_
 refine dV 1 rfl (Qa rfl rfl rfl QD 0 rfl om (hs.some (by rw[List.length_map];omega))) (dQ 2 [] rfl (Qb rfl rfl ZZ ((hs.rd (i:=0) (XR (l:=x) (k:=0) om)))) (dV 3 rfl (Qm rfl rfl Yx XE) (dP 4 ?_)))
 refine dV 5 rfl (Qa rfl rfl rfl QD 1 rfl om (hs.some (by rw[List.length_map];omega))) (dQ 6 [] rfl (Qb rfl rfl ZZ ((hs.rd (i:=1) (XR (l:=x) (k:=1) om)))) (dV 7 rfl (Qm rfl rfl Yx XE) (dV 8 rfl (Qem rfl rfl rfl (by decide) 8 rfl) (dP 9 ?_))))
 refine dP 10 ?_
 refine dNi ?_
 exact rV (h:=by rw[<-Qdo];rfl)
theorem c234(w:World)(a:Option Addr)(m cap:Nat)(x:List UInt8)(hs:Vl w a (x.map bv))(hm:x.length=m)(h2:4<=m)(hc:m<=cap)(hc9:cap<=9223372036854775807):CR 234 #[.slice a m cap] w (.int .u32 (at4 x 0)):=by
 have hx2:=Yi x 0
 have hx3:=Yi x 2
 refine eN1 Tryz.func234 Tryz.ntmps234 ?_
 refine aU5 ?_
 refine Qq [] mixed ?_
 refine dP 0 ?_
 refine dQ 1 [] rfl (Qe rfl Qkq rfl (λw1 h1=>c245 w1 a m cap x (hs.later h1) hm om hc hc9)) (dV 2 rfl (Qm rfl rfl XE Xt) (dP 3 ?_))
 refine dV 4 rfl (XU _ _ 2 m rfl rfl QD ⟨_,_,rfl,rfl⟩ rfl om om) (dQ 5 [] rfl (Qe rfl Qkq rfl (λw1 h1=>c245 w1 (YC a cap 2 1) (m-2) (cap-2) (x.drop 2) (by rw[List.map_drop];exact(hs.later h1).drop (by rw[List.length_map];omega) om) (by rw[List.length_drop];omega) om om om)) (dV 6 rfl (Qm rfl rfl XE Xt) (dV 7 rfl (Qem rfl rfl rfl (by decide) 16 rfl) (dP 8 ?_))))
 refine dP 9 ?_
 refine dNi ?_
 exact rV (h:=by have h9:=QdP (at2 x 0) (at2 (x.drop 2) 0) (Yi _ _) (Yi _ _);rw[ZK]at h9 ⊢;exact(congrArg Ending.returned h9))
theorem Qne(w:World)(s:List UInt8)(p:Nat)(hm:s.length<=1000000)(hp:p+4<=s.length):CR 217 #[.string (bs s),.int .i64 (p:Int)] w (.int .u32 (at4 s p)):=by
 have h4:=X9 s p
 have hdl:(s.drop p).length=s.length-p:=List.length_drop
 refine eN2 Tryz.func217 Tryz.ntmps217 ?_
 refine aU8 ?_
 refine o_p (X1 p rfl rfl rfl Tryz.underlying9 rfl om) rfl (o_h (Qcb rfl rfl Tryz.underlying9 Tryz.underlying124 Tryz.underlying5 rfl (by simp only[maxLen];omega)) rfl (λ⟨b1,c2⟩⟨h3,k4⟩=>oCq rfl (λw1 h1=>by have h9:=c234 w1 (some ⟨b1,0,none⟩) (s.drop p).length c2 (s.drop p) (h1.vl_blk aPk) rfl om (by assumption) (by have hq9:c2<=maxLen:=(by assumption);simp only[maxLen]at hq9;omega);rw[YN,Nat.add_zero]at h9;exact h9) (aU2 ?_)))
 exact rV
theorem c235(w:World)(x:Int):CR 235 #[.int .u32 x] w (.bool false):=by
 refine eN1 Tryz.func235 Tryz.ntmps235 ?_
 refine Y0 ?_
 exact rV (h:=by simp[Qw])
theorem c218(w:World)(x y:Int):CR 218 #[.int .u32 x,.int .u32 y] w (.int .i64 (Xs x y)):=by
 refine eN2 Tryz.func218 Tryz.ntmps218 ?_
 refine aU7 ?_
 refine oCq rfl (λw1 h1=>c235 w1 _) (aU5 ?_)
 refine oCq rfl (λw1 h1=>c235 w1 _) (aU7 ?_)
 refine sCd rfl (λh1=>?_) λh1=>?_
 ·exfalso;simp at h1
 refine aU6 ?_
 refine sCd rfl (λh2=>?_) λh2=>?_
 ·exfalso;simp at h2
 refine aU8 ?_
 refine sCd rfl (λh3=>?_) λh3=>?_
 ·have hz:Xs x y= -1:=by have hq:=h3;unfold Xs;rw[if_pos hq]
  refine aU4 ?_
  exact rV (h:=by rw[hz];rfl)
 refine aU8 ?_
 refine sCd rfl (λh4=>?_) λh4=>?_
 ·have hz:Xs x y=1:=by have hq:=h4;unfold Xs;rw[if_neg om,if_pos hq]
  refine aU4 ?_
  exact rV (h:=by rw[hz];rfl)
 have hz:Xs x y=0:=by have hq:=h4;unfold Xs;rw[if_neg om,if_neg hq]
 refine aU5 ?_
 exact rV (h:=by rw[hz];rfl)
theorem c216(w:World)(a b:List UInt8):CR 216 #[.string (bs a),.string (bs b)] w (.int .i64 (Ya a b)):=by
 refine eN2 Tryz.func216 Tryz.ntmps216 ?_
 refine aU8 ?_
 refine o_q (Qgg rfl rfl rfl Qom) rfl (aU2 ?_)
 exact rV
theorem c174(w:World)(a b:List UInt8):CR 174 #[.string (bs a),.string (bs b)] w (.int .i64 (Ya a b)):=by
 refine eN2 Tryz.func174 Tryz.ntmps174 ?_
 refine aU8 ?_
 refine oCq rfl (λw1 h1=>c216 w1 _ _) (aU2 ?_)
 exact rV
instance:TFn Tryz.prog 217:=⟨by kernel_rfl⟩
instance:TFn Tryz.prog 218:=⟨by kernel_rfl⟩
instance:TFn Tryz.prog 179:=⟨by kernel_rfl⟩
def Qai(s:List UInt8)(q:Nat):Bool:=(List.range q).all λi=>QbD s (4*i)
theorem Qi4{s:List UInt8}{q k:Nat}(hk:k<q)(h:2147483647<at4 s (4*k)):Qai s q=false:=by
  unfold Qai;rw[List.all_eq_false];exact⟨k,List.mem_range.2 hk,by unfold QbD;simp;omega⟩
theorem Qga{s:List UInt8}{k:Nat}(h:Qai s k=true)(h2:¬2147483647<at4 s (4*k)):Qai s (k+1)=true:=by
  unfold Qai at h ⊢;rw[List.range_succ,List.all_append,h];unfold QbD;simp;omega
def Qa0(a b:List UInt8):Nat->Nat->Int
  | 0,_=>0
  | f+1,k=>if Xs (at4 a (4*k)) (at4 b (4*k))≠0 then Xs (at4 a (4*k)) (at4 b (4*k))else Qa0 a b f (k+1)
theorem c179(w:World)(s:List UInt8)(q:Nat)(hm:s.length<=1000000)(hq:q<=1000):CR 179 #[.string (bs s),.int .i64 ((4*q:Nat):Int)] w (.bool (decide (s.length=4*q)&&Qai s q)):=by
 refine eN2 Tryz.func179 Tryz.ntmps179 ?_
 refine aU8 ?_
 refine o_p (Qr rfl rfl Tryz.underlying9) rfl (aU3 ?_)
 refine sCd rfl (λh1=>?_) λh1=>?_
 ·have hne:¬s.length=4*q:=by have hq9:=h1;omega
  refine aU4 ?_
  exact rV (h:=by simp[Qw,hne])
 have heq:s.length=4*q:=by have hq9:=h1;omega
 refine aU7 ?_
 refine Qp (α:=Nat) [4,5,10,11,12,13,14,15,16,17,18] (λk=>[(5,.int .i64 ((4*k:Nat):Int))]) (λ_=>_) (λk=>k<=q/\Qai s k=true) (λk=>q-k) 0 ⟨Nat.zero_le _,rfl⟩ aSx (λw h=>h) (λk hx=>?_)
 obtain⟨hk1,hok⟩:=hx
 refine aU7 ?_
 refine sCd rfl (λh2=>?_) λh2=>?_
 ·have hk:k<q:=by omega
  refine aU7 ?_
  refine oCq rfl (λw1 h1=>Qne w1 s (4*k) om om) (aU2 ?_)
  refine sCd rfl (λh3=>?_) λh3=>?_
  ·have hz:=Qi4 hk h3
   refine aU4 ?_
   exact rV (h:=by simp[Qw,hz])
  have hz:=Qga hok h3
  refine aT5 ?_
  refine aU2 ?_
  exact QH (k+1) om ⟨om,hz⟩ (by rw[show(((4*k:Nat)):Int)+4=((4*(k+1):Nat):Int)from om];exact aSx) (λw h=>h)
 obtain rfl:k=q:=om
 refine Qk rfl ?_
 refine aU4 ?_
 exact rV (h:=by simp[Qw,heq,hok])
theorem c180(w:World)(a b:List UInt8)(q:Nat)(ha:a.length=4*q)(hb:b.length=4*q)(hq:q<=1000):CR 180 #[.string (bs a),.string (bs b)] w (.int .i64 (Qa0 a b q 0)):=by
 refine eN2 Tryz.func180 Tryz.ntmps180 ?_
 refine YO ?_
 refine Qp (α:=Nat) [4,5,6,7,8,9,10,11,12,13,14,15,16,17,18,19,20,21,22] (λk=>[(5,.int .i64 ((4*k:Nat):Int))]) (λ_=>_) (λk=>k<=q/\Qa0 a b q 0=Qa0 a b (q-k) k) (λk=>q-k) 0 ⟨Nat.zero_le _,rfl⟩ aSx (λw h=>h) (λk hx=>?_)
 obtain⟨hk1,hx2⟩:=hx
 refine aU5 ?_
 refine o_p (Qr rfl rfl Tryz.underlying9) rfl (aU2 ?_)
 refine sCd rfl (λh1=>?_) λh1=>?_
 ·have hk:k<q:=by omega
  have hst:Qa0 a b (q-k) k=if Xs (at4 a (4*k)) (at4 b (4*k))≠0 then Xs (at4 a (4*k)) (at4 b (4*k))else Qa0 a b (q-(k+1)) (k+1):=by rw[show q-k=(q-(k+1))+1 by omega,Qa0]
  refine aU7 ?_
  refine oCq rfl (λw1 h1=>Qne w1 a (4*k) om om) (aU2 ?_)
  refine oCq rfl (λw1 h1=>Qne w1 b (4*k) om om) (oCq rfl (λw1 h1=>c218 w1 _ _) (aU7 ?_))
  refine sCd rfl (λh2=>?_) λh2=>?_
  ·have hq9:Xs (at4 a (4*k)) (at4 b (4*k))≠0:=h2
   rw[hst,if_pos hq9]at hx2
   refine aU5 ?_
   exact rV (h:=by rw[hx2];rfl)
  have hq9:¬Xs (at4 a (4*k)) (at4 b (4*k))≠0:=by have hq8:=h2;simpa using hq8
  rw[hst,if_neg hq9]at hx2
  refine aT5 ?_
  refine aU2 ?_
  exact QH (k+1) om ⟨om,hx2⟩ (by rw[show(((4*k:Nat)):Int)+4=((4*(k+1):Nat):Int)from om];exact aSx) (λw h=>h)
 obtain rfl:k=q:=om
 rw[Nat.sub_self,Qa0]at hx2
 refine Qk rfl ?_
 refine aU4 ?_
 exact rV (h:=by rw[hx2];rfl)
theorem c178(w:World)(s:List UInt8)(hm:s.length<=1000000):CR 178 #[.string (bs s)] w (.bool (QE 2 s)):=by
 refine eN1 Tryz.func178 Tryz.ntmps178 ?_
 refine aU7 ?_
 refine oCq rfl (λw1 h1=>c179 w1 s 1 hm (by decide)) (aU2 ?_)
 exact rV (h:=by simp[Qw,QE,Qai,List.range_succ,List.range_zero])
theorem c181(w:World)(s:List UInt8)(hm:s.length<=1000000):CR 181 #[.string (bs s)] w (.bool (QE 3 s)):=by
 refine eN1 Tryz.func181 Tryz.ntmps181 ?_
 refine aU7 ?_
 refine oCq rfl (λw1 h1=>c179 w1 s 2 hm (by decide)) (aU2 ?_)
 exact rV (h:=by simp[Qw,QE,Qai,List.range_succ,List.range_zero])
theorem c173(w:World)(s:List UInt8):CR 173 #[.string (bs s)] w (.bool (QE 0 s)):=by
 refine eN1 Tryz.func173 Tryz.ntmps173 ?_
 refine aU7 ?_
 refine o_p (Qr rfl rfl Tryz.underlying9) rfl (oCq rfl (λw1 h1=>QiT w1 _ _ _) (aU2 ?_))
 exact rV (h:=by simp[Qw,QE,Bool.decide_and];first|done|(congr 1<;>simp<;>omega)|grind)
theorem c175(w:World)(s:List UInt8):CR 175 #[.string (bs s)] w (.bool (QE 1 s)):=by
 refine eN1 Tryz.func175 Tryz.ntmps175 ?_
 refine aU7 ?_
 refine o_p (Qr rfl rfl Tryz.underlying9) rfl (oCq rfl (λw1 h1=>QiT w1 _ _ _) (aU2 ?_))
 exact rV (h:=by simp[Qw,QE,Bool.decide_and];first|done|(congr 1<;>simp<;>omega)|grind)
theorem Qj8:Q8 Tryz.prog 205=some [.nilFunc,.nilFunc,.nilFunc,.nilFunc,.nilFunc,.nilFunc,.nilFunc,.nilFunc]:=by kernel_rfl
theorem QfT:Yh Tryz.prog 165=some [(0,1),(1,1)]:=by kernel_rfl
theorem QfC:Q8 Tryz.prog 165=some [.nilFunc,.nilFunc]:=by kernel_rfl
theorem QfD:tar Tryz.prog 205=some (4,165,2):=by kernel_rfl
theorem QkL:tsz Tryz.prog 205=some (8,true):=by kernel_rfl
instance:TSz Tryz.prog 205 8 true:=⟨QkL⟩
theorem Qhw:QC Tryz.prog 134=true:=by kernel_rfl
instance:TFn Tryz.prog 134:=⟨Qhw⟩
theorem Qfn:tsz Tryz.prog 165=some (2,true):=by kernel_rfl
instance:TSz Tryz.prog 165 2 true:=⟨Qfn⟩
theorem QkJ:tfd Tryz.prog 165 0=some (0,162):=by kernel_rfl
theorem Qm0:tsz Tryz.prog 162=some (1,false):=by kernel_rfl
def Qcz(co:Int):Nat:=if co=0 then 173 else if co=1 then 175 else if co=2 then 178 else 181
def Qcy(co:Int):Nat:=if co=0 then 174 else if co=1 then 176 else 180
def ZT(f:Nat):Value:=.func (.func f) #[] #[]
def ordV(co:Int):Value:=.agg #[ZT (Qcz co),ZT (Qcy co)]
theorem Qnk(w:World):CR 134 #[] w (.agg #[ZT (Qcz 0),ZT (Qcy 0),ZT (Qcz 1),ZT (Qcy 1),ZT (Qcz 2),ZT (Qcy 2),ZT (Qcz 3),ZT (Qcy 3)]):=by
 refine eN0 Tryz.func134 Tryz.ntmps134 ?_
 refine aU2 ?_
 refine oAl (λb1 _=>?_) Qj8
 refine aU3 ?_
 refine o_p (Qs (cs:=[_,_]) rfl rfl QfT QfC rfl) rfl (o_p (Qs (cs:=[_,_]) rfl rfl QfT QfC rfl) rfl (o_p (Qs (cs:=[_,_]) rfl rfl QfT QfC rfl) rfl (o_p (Qs (cs:=[_,_]) rfl rfl QfT QfC rfl) rfl (o_p (Qc2 (cs:=[_,_,_,_,_,_,_,_]) rfl rfl QfD Qj8 rfl) rfl (aU2 ?_)))))
 exact Qg (rs:=[.cell 0 205]) rfl (.cell rfl QkL aPk rfl (.nil)) (λw' h'=>⟨by rfl,h'.below⟩)
theorem Qn6(co:Int):QC Tryz.prog (Qcz co)=true:=by
  unfold Qcz;split
  · kernel_rfl
  · split
    · kernel_rfl
    · split<;>kernel_rfl
theorem QiM(w:World)(j:Nat)(s:List UInt8)(hj:j<=3)(hm:s.length<=1000000):Calls Tryz.prog (Qcz (j:Int)) #[.string (bs s)] w λen w'=>en=.returned (.bool (QE (j:Int) s))/\Below w.heap.size w w':=by
  match j,hj with
  | 0,_=>exact c173 w s
  | 1,_=>exact c175 w s
  | 2,_=>exact c178 w s hm
  | 3,_=>exact c181 w s hm
theorem QeA(j:Nat)(hj:j<=3):Value.agg (cut [ZT (Qcz 0),ZT (Qcy 0),ZT (Qcz 1),ZT (Qcy 1),ZT (Qcz 2),ZT (Qcy 2),ZT (Qcz 3),ZT (Qcy 3)] (j*2) 2).toArray=ordV (j:Int):=by
  match j,hj with
  | 0,_=>rfl
  | 1,_=>rfl
  | 2,_=>rfl
  | 3,_=>rfl
theorem c146(w:World)(j:Nat)(s:List UInt8)(hj:j<=3)(hm:s.length<=1000000):CR 146 #[.int .i64 (j:Int),.string (bs s)] w (.int .i64 (X6 (j:Int) s)):=by
 refine eN2 Tryz.func146 Tryz.ntmps146 ?_
 refine aU6 ?_
 refine oCq rfl (λw1 h1=>Qnk w1) (aU ?_)
 refine o_p (Qd5 rfl rfl rfl QfD Qfn j rfl om) rfl (Qn (QeA j hj) (o_p (ZW rfl rfl QkJ Qm0 rfl) rfl (aU ?_)))
 refine o_q (XM rfl rfl (Qn6 _) rfl (λw1 h1=>QiM w1 j s hj hm)) rfl (oCq rfl (λw1 h1=>Qcs w1 _ _) (aU2 ?_))
 exact rV (h:=by simp only[Qw,X6,cond_eq_ite])
instance:TFn Tryz.prog 177:=⟨by kernel_rfl⟩
instance:TFn Tryz.prog 174:=⟨by kernel_rfl⟩
theorem bset{L:List UInt8}{k:Nat}{x:UInt8}{v:Value}(h:k<L.length)(hv:v=bv x):QK (L.map bv) (k*1) [v]=(L.set k x).map bv:=by
  subst hv;have h9:=Qb4 (vals:=byV) (sz:=1) (λ_=>rfl) L k 0 [bv x] (L.getD k 0) x (by rw[List.getElem?_eq_getElem h,List.getD_eq_getElem?_getD,List.getElem?_eq_getElem h];rfl) rfl (by simp);rw[Nat.add_zero]at h9;have e:∀M:List UInt8,M.flatMap byV=M.map bv:=λM=>QjP bv M;rw[e,e]at h9;exact h9
def Qbw(s:List UInt8)(k:Nat):List UInt8:=(s.map QaH).take k++s.drop k
theorem QaQ{s:List UInt8}{k:Nat}(h:k<=s.length):(Qbw s k).length=s.length:=by simp[Qbw];omega
theorem QgO{s:List UInt8}{k:Nat}(h:k<s.length):(Qbw s k).getD k 0=s.getD k 0:=by
  unfold Qbw;rw[List.getD_eq_getElem?_getD,List.getElem?_append_right (by simp;omega),List.getElem?_drop,List.getD_eq_getElem?_getD];congr 2;simp;omega
theorem Qgq{s:List UInt8}{k:Nat}(h:k<s.length):(Qbw s k).set k (QaH (s.getD k 0))=Qbw s (k+1):=by
  unfold Qbw;apply List.ext_getElem?;intro j;simp only[List.getElem?_set,List.getElem?_append,List.getElem?_take,List.getElem?_drop,List.length_append,List.length_take,List.length_map,List.length_drop,List.getElem?_map,List.getD_eq_getElem?_getD];have hk:=List.getElem?_eq_getElem h
  grind
theorem Qm9(s:List UInt8):Qbw s 0=s:=by simp[Qbw]
theorem QjD(s:List UInt8):Qbw s s.length=s.map QaH:=by
  unfold Qbw;rw[List.drop_length,List.append_nil,List.take_of_length_le (by simp)]
theorem QiH{s:List UInt8}{k:Nat}(h:k<s.length)(hc:QaH (s.getD k 0)=s.getD k 0):Qbw s k=Qbw s (k+1):=by
  rw[<-Qgq h,hc];apply List.ext_getElem?;intro j;rw[List.getElem?_set];split
  · rename_i e;subst e;rw[<-QgO h,List.getD_eq_getElem?_getD];rw[if_pos (by rw[QaQ om];exact h),List.getElem?_eq_getElem (by rw[QaQ om];exact h)];rfl
  · rfl
theorem Qli{x:UInt8}(h:97<=x.toNat/\x.toNat<=122):Value.int .u8 (IntKind.u8.wrap (IntKind.u8.wrap ((x.toNat:Int)-97)+65))=bv (QaH x):=by
  have h2:=QdO x;unfold QeQ at h2;rw[if_pos om]at h2;rw[show(x.toNat:Int)-97=((x.toNat-97:Nat):Int) by omega,Qh8 _ om,show((x.toNat-97:Nat):Int)+65=((x.toNat-32:Nat):Int) by omega,Qh8 _ om];unfold bv;exact congrArg (Value.int .u8) om
theorem Qn2{x:UInt8}(h:¬(97<=x.toNat/\x.toNat<=122)):QaH x=x:=by
  have h2:=QdO x;unfold QeQ at h2;rw[if_neg om]at h2;exact UInt8.toNat_inj.1 om
theorem c177(w:World)(s:List UInt8)(hm:s.length<=1000000):CR 177 #[.string (bs s)] w (.string (bs (s.map QaH))):=by
 refine eN1 Tryz.func177 Tryz.ntmps177 ?_
 refine aU7 ?_
 refine o_h (Qcb rfl rfl Tryz.underlying9 Tryz.underlying124 Tryz.underlying5 rfl (by simp only[maxLen];omega)) rfl (λ⟨b1,c2⟩⟨h3,k4⟩=>YO ?_)
 refine Qp (α:=Nat) [4,5,10,11,12,13,14,15,16,17,18,19,20,21,22,23,24,25,26,27] (λk=>[(10,.int .i64 (k:Int))]) (λk=>HS w [] [.blk b1 5 c2 ((Qbw s k).map bv)]) (λk=>k<=s.length) (λk=>s.length-k) 0 (Nat.zero_le _) aSx (λw h=>by rw[Qm9];exact h.ent aEt) (λk hk1=>?_)
 refine aU5 ?_
 refine sCd rfl (λh5=>?_) λh5=>?_
 ·have hk:k<s.length:=by omega
  have hb9:=(s.getD k 0).toNat_lt
  refine aU6 ?_
  refine o_p (Qa rfl rfl rfl QD (k) om om rfl) rfl (o_q (Qv rfl rfl ZZ (λw h=>by rw[Nat.zero_add];exact h.rd_blk (Mc:=[]) aPk (by rw[Nat.mul_one,XR (by rw[QaQ hk1];exact hk),QgO hk]) (by simp))) rfl (aU8 ?_))
  refine QJ 3 17 20 rfl
   (λhg6 _=>by
    refine aU4 ?_
    exact oJt 3 20)
   (λhg8 _=>by
    refine aU2 ?_
    exact oJf 3 20) ?_
  refine aU ?_
  refine Q7 (α:=Unit) [21,22,23,24,25,26] (λ_=>[]) (λ_=>HS w [] [.blk b1 5 c2 ((Qbw s (k+1)).map bv)]) (λ_=>True) ?_ ?_
  ·skip
   refine sCd rfl (λh10=>?_) λh10=>?_
   ·have hcc:97<=(s.getD k 0).toNat/\(s.getD k 0).toNat<=122:=by have hq:=h10;omega
    refine aU6 ?_
    try (refine Qn (u8add _ _) ?_)
    refine Qn (Qli hcc) (o_p (Qa rfl rfl rfl QD (k) om om rfl) rfl (Qn (show _=Value.pointer (some ⟨b1,k*1,none⟩)from by rw[Nat.zero_add]) (Qf0 (Y2 rfl rfl rfl ZZ rfl aPt (by rw[List.length_map,QaQ hk1];omega) rfl) (λ_ _=>aU ?_))))
    exact Qf () trivial aSx (λw h=>by have h2:=HS.blk_to (b:=b1) h aPk (bset (L:=Qbw s k) (x:=QaH (s.getD k 0)) (by rw[QaQ hk1];exact hk) rfl);rw[Qgq hk]at h2;exact h2.ent aEt)
   have hno:QaH (s.getD k 0)=s.getD k 0:=Qn2 (by have hq:=h10;omega)
   refine aU ?_
   exact Qf () trivial aSx (λw h=>by rw[<-QiH hk hno];exact h.ent aEt)
  intro _ _
  refine aT3 ?_
  refine aU2 ?_
  exact sBk (k+1)
 obtain rfl:k=s.length:=om
 rw[QjD]
 refine Qk rfl ?_
 refine aU3 ?_
 refine o_q (Qfo rfl rfl Tryz.underlying124 Tryz.underlying9 Tryz.underlying5 aPk (by simp[List.length_map]) (Qdn _)) rfl (aU2 ?_)
 exact rV (h:=by simp only[Qca];rfl)
theorem c176(w:World)(a b:List UInt8)(ha:a.length<=1000000)(hb:b.length<=1000000):CR 176 #[.string (bs a),.string (bs b)] w (.int .i64 (Ya (a.map QaH) (b.map QaH))):=by
 refine eN2 Tryz.func176 Tryz.ntmps176 ?_
 refine aU7 ?_
 refine oCq rfl (λw1 h1=>c177 w1 a ha) (aU ?_)
 refine oCq rfl (λw1 h1=>c177 w1 b hb) (oCq rfl (λw1 h1=>c174 w1 _ _) (aU2 ?_))
 exact rV
theorem QlC(a b:List UInt8):Qa0 a b 1 0=QI 2 a b:=by
  simp only[Qa0,QI,Nat.mul_zero];split
  · rfl
  · rename_i h;simp only[ne_eq,Decidable.not_not]at h;rw[h];rfl
theorem QlF(a b:List UInt8):Qa0 a b 2 0=QI 3 a b:=by
  have e:QI 3 a b=if Xs (at4 a 0) (at4 b 0)≠0 then Xs (at4 a 0) (at4 b 0)else Xs (at4 a 4) (at4 b 4):=rfl
  rw[e];show(if Xs (at4 a 0) (at4 b 0)≠0 then Xs (at4 a 0) (at4 b 0)else if Xs (at4 a 4) (at4 b 4)≠0 then Xs (at4 a 4) (at4 b 4)else 0)=_
  by_cases h:Xs (at4 a 0) (at4 b 0)≠0
  · rw[if_pos h,if_pos h]
  · rw[if_neg h,if_neg h];split
    · rfl
    · rename_i h2;simp only[ne_eq,Decidable.not_not]at h2;exact h2.symm
theorem Qdc{s:List UInt8}(h:QE 2 s=true):s.length=4:=by
  unfold QE at h;simp at h;exact h.1
theorem Qdl{s:List UInt8}(h:QE 3 s=true):s.length=8:=by
  unfold QE at h;simp at h;exact h.1
theorem Qej(co:Int):QC Tryz.prog (Qcy co)=true:=by
  unfold Qcy;split
  · kernel_rfl
  · split<;>kernel_rfl
theorem ZH(w:World)(j:Nat)(a b:List UInt8)(hj:j<=3)(hka:QE (j:Int) a=true)(hkb:QE (j:Int) b=true)(ha:a.length<=1000000)(hb:b.length<=1000000):Calls Tryz.prog (Qcy (j:Int)) #[.string (bs a),.string (bs b)] w λen w'=>en=.returned (.int .i64 (QI (j:Int) a b))/\Below w.heap.size w w':=by
  match j,hj with
  | 0,_=>exact c174 w a b
  | 1,_=>exact c176 w a b ha hb
  | 2,_=>
    have h:=c180 w a b 1 (Qdc hka) (Qdc hkb) (by decide);rw[QlC]at h;exact h
  | 3,_=>
    have h:=c180 w a b 2 (Qdl hka) (Qdl hkb) (by decide);rw[QlF]at h;exact h
theorem keyE_ok{co:Int}{k:List UInt8}(h:X6 co k=0):QE co k=true:=by
  unfold X6 at h;split at h
  · assumption
  · cases h
theorem Qa1{co:Int}(h:QL co=0):∃j:Nat,co=(j:Int)/\j<=3:=by
  unfold QL at h;split at h
  · exact⟨co.toNat,om,om⟩
  · cases h
instance:TFd Tryz.prog 50 0 0 9:=⟨by kernel_rfl⟩
theorem X5:tsz Tryz.prog 9=some (1,false):=by kernel_rfl
instance:TSz Tryz.prog 9 1 false:=⟨X5⟩
theorem Qlf:QC Tryz.prog 146=true:=by kernel_rfl
instance:TFn Tryz.prog 146:=⟨Qlf⟩
instance:TFd Tryz.prog 50 1 1 9:=⟨by kernel_rfl⟩
theorem QgL(co:Int)(x:TEnt):Ending.returned (Value.int .i64 (if X6 co x.key=0 then cond (decide ((x.val.length:Int)<=64)) 0 8 else X6 co x.key))=Ending.returned (Value.int .i64 (Yj co x)):=by
  unfold Yj
  by_cases h:X6 co x.key=0
  · rw[if_pos h,if_pos h]
    by_cases h2:x.val.length<=64
    · rw[if_pos h2,decide_eq_true om];rfl
    · rw[if_neg h2,decide_eq_false om];rfl
  · rw[if_neg h,if_neg h];unfold X6 at h ⊢;split at h
    · exact absurd rfl h
    · rename_i h3;rw[if_neg h3]
theorem c169(w:World)(j:Nat)(x:TEnt)(hj:j<=3)(hm:x.key.length<=1000000):CR 169 #[.int .i64 (j:Int),.agg #[.string (bs x.key),.string (bs x.val)]] w (.int .i64 (Yj (j:Int) x)):=by
 refine eN2 Tryz.func169 Tryz.ntmps169 ?_
 refine aU2 ?_
 refine oBx λb1 _=>?_
 refine aU3 ?_
 refine Qq [] mixed ?_
 refine dP 0 ?_
 refine dFa 1 ?_
 refine dLd 2 [] ?_
 refine dQ 3 [] rfl (Qe rfl Qlf rfl (λw1 h1=>c146 w1 j x.key hj hm)) (dFa 4 ?_)
 refine dLd 5 [] ?_
 refine dV 6 rfl (Qr rfl rfl Tryz.underlying9) (dP 7 ?_)
 refine dQ 8 [] rfl (Qe rfl Z8 rfl (λw1 h1=>Qcs w1 _ _)) (dH 9 rfl (Qc (cs:=[_,_]) rfl rfl Q6 Xx rfl rfl rfl) (λb2 _=>dBa ?_))
 refine dQ 10 [] rfl (Qe rfl QdW rfl (λw1 h1=>QjC h1 aPk (by rfl) (by rfl) (by decide))) (dP 11 ?_)
 refine dNi ?_
 exact rV (h:=by simp only[Qw];rw[Qag];exact QgL _ _)
instance:TFn Tryz.prog 60:=⟨by kernel_rfl⟩
instance:TFn Tryz.prog 17:=⟨by kernel_rfl⟩
theorem kok0(s:List UInt8):QE ((0:Nat):Int) s=(decide ((1:Int)<=(s.length:Int))&&decide ((s.length:Int)<=40)):=by
  rw[Bool.eq_iff_iff];simp[QE];omega
theorem kok1(s:List UInt8):QE ((1:Nat):Int) s=(decide ((1:Int)<=(s.length:Int))&&decide ((s.length:Int)<=32)):=by
  rw[Bool.eq_iff_iff];simp[QE];omega
theorem kok2(s:List UInt8):QE ((2:Nat):Int) s=(decide ((s.length:Int)=4)&&(decide (0<=at4 s 0)&&decide (at4 s 0<=2147483647))):=by
  have:=X9 s 0;rw[Bool.eq_iff_iff];simp[QE,QbD];omega
theorem kok3(s:List UInt8):QE ((3:Nat):Int) s=(decide ((s.length:Int)=8)&&(decide (0<=at4 s 0)&&decide (at4 s 0<=2147483647))&&(decide (0<=at4 s 4)&&decide (at4 s 4<=2147483647))):=by
  have:=X9 s 0;have:=X9 s 4;rw[Bool.eq_iff_iff];simp[QE,QbD];omega
theorem c208(w:World)(j:Nat)(s:List UInt8)(hj:j<=3)(hm:s.length<=1000000):CR 208 #[.int .i64 (j:Int),.string (bs s)] w (.int .i64 (X6 (j:Int) s)):=by
 refine eN2 Tryz.func208 Tryz.ntmps208 ?_
 refine aU7 ?_
 refine o_p (Qr rfl rfl Tryz.underlying9) rfl (oCq rfl (λw1 h1=>c56 w1 _ _ _) (Qb9 ?_))
 refine Q7 (α:=Unit) [5,12,13,14,15,16,17,18,19,20,21,22,23,24,25,26,27,28,29,30,31,32,33,34,35,36,37,38,39] (λ_=>[(5,.bool (QE (j:Int) s))]) (λ_=>HS w [] []) (λ_=>True) ?_ ?_
 ·skip
  refine sCd rfl (λh1=>?_) λh1=>?_
  ·obtain rfl:j=1:=by have hq:=h1;omega
   refine aU2 ?_
   refine o_p (Qr rfl rfl Tryz.underlying9) rfl (oCq rfl (λw1 h1=>c56 w1 _ _ _) (aU2 ?_))
   exact Qf () trivial (by rw[kok1];exact aSx) (λw h=>h.ent aEt)
  have hn1:¬(j:Int)=1:=h1
  refine aU5 ?_
  refine sCd rfl (λh2=>?_) λh2=>?_
  ·obtain rfl:j=2:=by have hq:=h2;omega
   refine aU2 ?_
   refine o_p (Qr rfl rfl Tryz.underlying9) rfl (aU2 ?_)
   refine QJ 4 20 24 rfl
    (λhg3 _=>by
     refine aU3 ?_
     refine oCq rfl (λw1 h1=>by have h9:=c60 w1 s 0 4 om om (by have hq:=hg3;first|omega|(simp at hq;omega));rw[XN]at h9;exact h9) (aU ?_)
     refine oCq rfl (λw1 h1=>c17 w1 _) ?_
     exact oJt 4 24)
    (λhg5 _=>by
     refine aU3 ?_
     exact oJf 4 24) ?_
   refine aU2 ?_
   exact Qf () trivial (by rw[kok2];exact aSx) (λw h=>h.ent aEt)
  have hn2:¬(j:Int)=2:=h2
  refine aU5 ?_
  refine sCd rfl (λh7=>?_) λh7=>?_
  ·obtain rfl:j=3:=by have hq:=h7;omega
   refine aU2 ?_
   refine o_p (Qr rfl rfl Tryz.underlying9) rfl (aU2 ?_)
   refine QJ 4 30 34 rfl
    (λhg8 _=>by
     refine aU3 ?_
     refine oCq rfl (λw1 h1=>by have h9:=c60 w1 s 0 4 om om (by have hq:=hg8;first|omega|(simp at hq;omega));rw[XN]at h9;exact h9) (aU ?_)
     refine oCq rfl (λw1 h1=>c17 w1 _) ?_
     exact oJt 4 34)
    (λhg10 _=>by
     refine aU3 ?_
     exact oJf 4 34) ?_
   refine aU ?_
   refine QJ 4 35 39 rfl
    (λhg12 _=>by
     refine aU3 ?_
     refine oCq rfl (λw1 h1=>by have h9:=c60 w1 s 4 4 om om (by have hq:=hg12;first|omega|(simp at hq;omega));rw[XN]at h9;exact h9) (aU ?_)
     refine oCq rfl (λw1 h1=>c17 w1 _) ?_
     exact oJt 4 39)
    (λhg14 _=>by
     refine aU3 ?_
     exact oJf 4 39) ?_
   refine aU2 ?_
   exact Qf () trivial (by rw[kok3];exact aSx) (λw h=>h.ent aEt)
  have hn3:¬(j:Int)=3:=h7
  obtain rfl:j=0:=om
  refine aU ?_
  exact Qf () trivial (by rw[kok0];exact aSx) (λw h=>h.ent aEt)
 intro _ _
 refine aU7 ?_
 refine sCd rfl (λh16=>?_) λh16=>?_
 ·have hz:X6 (j:Int) s=3:=by have hq:=h16;unfold X6;rw[if_neg (by simpa using hq)]
  refine aU4 ?_
  exact rV (h:=by rw[hz];rfl)
 have hz:X6 (j:Int) s=0:=by have hq:=h16;unfold X6;rw[if_pos (by simpa using hq)]
 refine aU5 ?_
 exact rV (h:=by rw[hz];rfl)
instance:TFn Tryz.prog 208:=⟨by kernel_rfl⟩
theorem c151(w:World)(j:Nat)(x:TEnt)(hj:j<=3)(hm:x.key.length<=1000000):CR 151 #[.int .i64 (j:Int),.agg #[.string (bs x.key),.string (bs x.val)]] w (.int .i64 (Yj (j:Int) x)):=by
 refine eN2 Tryz.func151 Tryz.ntmps151 ?_
 refine aU2 ?_
 refine oBx λb1 _=>?_
 refine aU8 ?_
 refine oCq rfl (λw1 h1=>c208 w1 j x.key hj hm) (aU7 ?_)
 refine sCd rfl (λh2=>?_) λh2=>?_
 ·have h0:¬X6 (j:Int) x.key=0:=h2
  have hz:Yj (j:Int) x=X6 (j:Int) x.key:=by have h9:=QgL (j:Int) x;rw[if_neg h0]at h9;injection h9 with h9;injection h9 with _ h9;exact h9.symm
  refine aU5 ?_
  exact rV (h:=by rw[hz];rfl)
 have h0:X6 (j:Int) x.key=0:=h2
 refine aU6 ?_
 refine o_p (Qr rfl rfl Tryz.underlying9) rfl (aU2 ?_)
 refine sCd rfl (λh3=>?_) λh3=>?_
 ·have hz:Yj (j:Int) x=8:=by have hq:=h3;unfold Yj;rw[if_pos h0,if_neg om]
  refine aU4 ?_
  exact rV (h:=by rw[hz];rfl)
 have hz:Yj (j:Int) x=0:=by have hq:=h3;unfold Yj;rw[if_pos h0,if_pos om]
 refine aU5 ?_
 exact rV (h:=by rw[hz];rfl)
instance:TFn Tryz.prog 156:=⟨by kernel_rfl⟩
instance:TFn Tryz.prog 157:=⟨by kernel_rfl⟩
def mpK(j:Int)(l:List UInt8):List UInt8:=if j=1 then l.map QaH else l
theorem Zx(j:Int)(l:List UInt8):(mpK j l).length=l.length:=by unfold mpK;split<;>simp
theorem QlQ{j:Nat}(h2:¬(j:Int)=2)(h3:¬(j:Int)=3)(a b:List UInt8):QI (j:Int) a b=Ya (mpK (j:Int) a) (mpK (j:Int) b):=by
  unfold QI mpK;rw[if_neg h2,if_neg h3];split<;>rfl
theorem QiX{x y:List UInt8}{k:Nat}(hx:k<x.length)(hy:k<y.length):Ya (x.drop k) (y.drop k)=if Xs ((x.getD k 0).toNat:Int) ((y.getD k 0).toNat:Int)≠0 then Xs ((x.getD k 0).toNat:Int) ((y.getD k 0).toNat:Int)else Ya (x.drop (k+1)) (y.drop (k+1)):=by
  rw[List.drop_eq_getElem_cons hx,List.drop_eq_getElem_cons hy,List.getD_eq_getElem?_getD,List.getD_eq_getElem?_getD,List.getElem?_eq_getElem hx,List.getElem?_eq_getElem hy];simp only[Ya,Option.getD_some,Xs,UInt8.lt_iff_toNat_lt];split
  · rename_i h;rw[if_pos om,if_pos om]
  · rename_i h;rw[if_neg (show¬((x[k].toNat:Int)<y[k].toNat) by omega)];split
    · rename_i h2;rw[if_pos om,if_pos om]
    · rename_i h2;rw[if_neg om]
theorem Qjh{x y:List UInt8}{k:Nat}(hx:k<=x.length)(hy:k<=y.length)(h:¬(k<x.length/\k<y.length)):Ya (x.drop k) (y.drop k)=Xs (x.length:Int) (y.length:Int):=by
  unfold Xs;rcases Nat.lt_or_ge k x.length with h1|h1
  · have e:y.drop k=[]:=List.drop_of_length_le om;rw[e,List.drop_eq_getElem_cons h1,if_neg om,if_pos om];rfl
  · have e:x.drop k=[]:=List.drop_of_length_le h1;rw[e];rcases Nat.lt_or_ge k y.length with h2|h2
    · rw[List.drop_eq_getElem_cons h2,if_pos om];rfl
    · have e2:y.drop k=[]:=List.drop_of_length_le h2;rw[e2,if_neg om,if_neg om];rfl
theorem Qip{a:List UInt8}{k:Nat}(h:k<a.length):(((mpK 1 a).getD k 0).toNat:Int)=QeQ ((a.getD k 0).toNat:Int):=by
  unfold mpK;rw[if_pos rfl,QdO,List.getD_eq_getElem?_getD,List.getElem?_map,List.getElem?_eq_getElem h,List.getD_eq_getElem?_getD,List.getElem?_eq_getElem h];rfl
theorem Qj9{j:Int}(hj:¬j=1)(a:List UInt8):mpK j a=a:=by unfold mpK;rw[if_neg hj]
theorem Qjb(w:World)(j:Nat)(a b:List UInt8)(hj:j<=3)(hka:QE (j:Int) a=true)(hkb:QE (j:Int) b=true)(ha:a.length<=1000000)(hb:b.length<=1000000):CR 113 #[.int .i64 (j:Int),.string (bs a),.string (bs b)] w (.int .i64 (QI (j:Int) a b)):=by
 refine eN3 Tryz.func113 Tryz.ntmps113 ?_
 refine aU15 ?_
 refine sCd rfl (λh1=>?_) λh1=>?_
 ·obtain rfl:j=2:=by have hq:=h1;omega
  have hl1:=Qdc hka
  have hl2:=Qdc hkb
  have hz:QI ((2:Nat):Int) a b=Xs (at4 a 0) (at4 b 0):=rfl
  refine aU3 ?_
  refine oCq rfl (λw1 h1=>by have h9:=c60 w1 a 0 4 om om om;rw[XN]at h9;exact h9) (aU ?_)
  refine oCq rfl (λw1 h1=>by have h9:=c60 w1 b 0 4 om om om;rw[XN]at h9;exact h9) (oCq rfl (λw1 h1=>Qkb w1 _ _) (aU2 ?_))
  exact rV (h:=by rw[hz];rfl)
 have hn2:¬(j:Int)=2:=h1
 refine aU5 ?_
 refine sCd rfl (λh2=>?_) λh2=>?_
 ·obtain rfl:j=3:=by have hq:=h2;omega
  have hl1:=Qdl hka
  have hl2:=Qdl hkb
  have hz:QI ((3:Nat):Int) a b=if Xs (at4 a 0) (at4 b 0)≠0 then Xs (at4 a 0) (at4 b 0)else Xs (at4 a 4) (at4 b 4):=rfl
  refine aU4 ?_
  refine oCq rfl (λw1 h1=>by have h9:=c60 w1 a 0 4 om om om;rw[XN]at h9;exact h9) (aU ?_)
  refine oCq rfl (λw1 h1=>by have h9:=c60 w1 b 0 4 om om om;rw[XN]at h9;exact h9) (oCq rfl (λw1 h1=>Qkb w1 _ _) (aU7 ?_))
  refine sCd rfl (λh3=>?_) λh3=>?_
  ·have hq9:Xs (at4 a 0) (at4 b 0)≠0:=h3
   rw[if_pos hq9]at hz
   refine aU5 ?_
   exact rV (h:=by rw[hz];rfl)
  have hq9:¬Xs (at4 a 0) (at4 b 0)≠0:=by have hq8:=h3;simpa using hq8
  rw[if_neg hq9]at hz
  refine aU4 ?_
  refine oCq rfl (λw1 h1=>by have h9:=c60 w1 a 4 4 om om om;rw[XN]at h9;exact h9) (aU ?_)
  refine oCq rfl (λw1 h1=>by have h9:=c60 w1 b 4 4 om om om;rw[XN]at h9;exact h9) (oCq rfl (λw1 h1=>Qkb w1 _ _) (aU2 ?_))
  exact rV (h:=by rw[hz];rfl)
 have hn3:¬(j:Int)=3:=h2
 have hmp:=QlQ hn2 hn3 a b
 refine aU8 ?_
 refine Qp (α:=Nat) [6,8,9,10,11,35,36,37,38,39,40,41,42,43,44,45,46,47,48,49,50,51,52,53,54,55,56,57,58,59,60,61,62,63,64,65,66] (λk=>[(8,.int .i64 (k:Int))]) (λ_=>_) (λk=>k<=a.length/\k<=b.length/\Ya (mpK (j:Int) a) (mpK (j:Int) b)=Ya ((mpK (j:Int) a).drop k) ((mpK (j:Int) b).drop k)) (λk=>a.length-k) 0 ⟨Nat.zero_le _,Nat.zero_le _,rfl⟩ aSx (λw h=>h) (λk hx=>?_)
 obtain⟨hk1,hk2,hk3⟩:=hx
 refine aU5 ?_
 refine o_p (Qr rfl rfl Tryz.underlying9) rfl (aU2 ?_)
 refine QJ 5 39 44 rfl
  (λhg4 _=>by
   refine aU5 ?_
   refine o_p (Qr rfl rfl Tryz.underlying9) rfl (aU2 ?_)
   exact oJt 5 44)
  (λhg6 _=>by
   refine aU4 ?_
   exact oJf 5 44) ?_
 refine aU ?_
 refine sCd rfl (λh8=>?_) λh8=>?_
 ·obtain⟨hka1,hkb1⟩:k<a.length/\k<b.length:=by have hq:=h8;omega
  have hb1:=(a.getD k 0).toNat_lt
  have hb2:=(b.getD k 0).toNat_lt
  have hst:=QiX (x:=mpK (j:Int) a) (y:=mpK (j:Int) b) (k:=k) (by rw[Zx];exact hka1) (by rw[Zx];exact hkb1)
  refine aU4 ?_
  refine Qq [] mixed ?_
  refine dP 0 ?_
  refine dP 1 ?_
  refine dV 2 rfl (Xm rfl rfl rfl Tryz.underlying9 (k) om om) ?_
  refine dV 3 rfl (Qm rfl rfl Yx X2) ?_
  try refine dWr ?_
  refine dP 4 ?_
  refine dP 5 ?_
  refine dV 6 rfl (Xm rfl rfl rfl Tryz.underlying9 (k) om om) ?_
  refine dV 7 rfl (Qm rfl rfl Yx X2) ?_
  try refine dWr ?_
  refine dP 8 ?_
  refine dP 9 ?_
  refine dNi ?_
  refine aU6 ?_
  refine Qi (L':=[(0,_),(1,_),(2,_),(8,_),(9,_),(10,_),(12,_),(13,_),(14,_),(20,_),(21,_),(56,_)]) aSx (λ_ h=>h) ?_
  refine Q7 (α:=Unit) [9,10,57,58,59,60] (λ_=>[(9,.int .i64 (((mpK (j:Int) a).getD k 0).toNat:Int)),(10,.int .i64 (((mpK (j:Int) b).getD k 0).toNat:Int))]) (λ_=>HS w [] []) (λ_=>True) ?_ ?_
  ·skip
   refine sCd rfl (λh9=>?_) λh9=>?_
   ·obtain rfl:j=1:=by have hq:=h9;omega
    refine aU2 ?_
    refine oCq rfl (λw1 h1=>c157 w1 _ om) (aU ?_)
    refine oCq rfl (λw1 h1=>c157 w1 _ om) (aU3 ?_)
    exact Qf () trivial (by rw[show(((1:Nat):Int))=1 from rfl,Qip hka1,Qip hkb1];exact aSx) (λw h=>h.ent aEt)
   have hn1:¬(j:Int)=1:=h9
   refine aU ?_
   exact Qf () trivial (by rw[Qj9 hn1,Qj9 hn1];exact aSx) (λw h=>h.ent aEt)
  intro _ _
  refine aU4 ?_
  refine oCq rfl (λw1 h1=>Qkb w1 _ _) (aU7 ?_)
  refine sCd rfl (λh10=>?_) λh10=>?_
  ·have hq9:Xs (((mpK (j:Int) a).getD k 0).toNat:Int) (((mpK (j:Int) b).getD k 0).toNat:Int)≠0:=h10
   have hz:=hmp.trans (hk3.trans (hst.trans (if_pos hq9)))
   refine aU5 ?_
   exact rV (h:=by rw[hz];rfl)
  have hq9:¬Xs (((mpK (j:Int) a).getD k 0).toNat:Int) (((mpK (j:Int) b).getD k 0).toNat:Int)≠0:=by have hq8:=h10;simpa using hq8
  have hz:=hk3.trans (hst.trans (if_neg hq9))
  refine aT5 ?_
  refine aU2 ?_
  exact QH (k+1) om ⟨om,om,hz⟩ aSx (λw h=>h)
 have hz:=Qjh (x:=mpK (j:Int) a) (y:=mpK (j:Int) b) (k:=k) (by rw[Zx];exact hk1) (by rw[Zx];exact hk2) (by rw[Zx,Zx];have hq:=h8;omega)
 rw[<-hk3,<-hmp,Zx,Zx]at hz
 refine Qk rfl ?_
 refine aU3 ?_
 refine o_p (Qr rfl rfl Tryz.underlying9) rfl (aU ?_)
 refine o_p (Qr rfl rfl Tryz.underlying9) rfl (oCq rfl (λw1 h1=>Qkb w1 _ _) (aU2 ?_))
 exact rV (h:=by rw[hz];rfl)
theorem Qfc:Q8 Tryz.prog 24=some [.int .i64 0,.int .i64 0,.int .i64 0,.slice none 0 0]:=by kernel_rfl
instance:TFn Tryz.prog 131:=⟨by kernel_rfl⟩
theorem QjV:Yh Tryz.prog 24=some [(0,1),(1,1),(2,1),(3,1)]:=by kernel_rfl
theorem Qib:tsz Tryz.prog 24=some (4,true):=by kernel_rfl
instance:TSz Tryz.prog 24 4 true:=⟨Qib⟩
theorem QmR:Yh Tryz.prog 87=some [(0,1),(1,1),(2,1)]:=by kernel_rfl
theorem YS:Q8 Tryz.prog 87=some [.bool false,.slice none 0 0,.slice none 0 0]:=by kernel_rfl
theorem Q2:tsl Tryz.prog 22=some (87,3,56):=by kernel_rfl
theorem Xi:tsl Tryz.prog 85=some (50,2,32):=by kernel_rfl
theorem YF:tsz Tryz.prog 50=some (2,true):=by kernel_rfl
instance:TSz Tryz.prog 50 2 true:=⟨YF⟩
theorem XB:Q8 Tryz.prog 50=some [.string (bs []),.string (bs [])]:=by kernel_rfl
instance:TFd Tryz.prog 167 0 0 24:=⟨by kernel_rfl⟩
instance:TFd Tryz.prog 24 1 1 3:=⟨by kernel_rfl⟩
theorem Q3:tsz Tryz.prog 3=some (1,false):=by kernel_rfl
instance:TSz Tryz.prog 3 1 false:=⟨Q3⟩
instance:TFd Tryz.prog 24 2 2 3:=⟨by kernel_rfl⟩
theorem YK:tsz Tryz.prog 147=some (1,false):=by kernel_rfl
instance:TSz Tryz.prog 147 1 false:=⟨YK⟩
instance:TFd Tryz.prog 24 0 0 3:=⟨by kernel_rfl⟩
theorem Qnm:QC Tryz.prog 169=true:=by kernel_rfl
instance:TFd Tryz.prog 167 1 4 165:=⟨by kernel_rfl⟩
instance:TFd Tryz.prog 165 1 1 163:=⟨by kernel_rfl⟩
theorem QcO:tsz Tryz.prog 163=some (1,false):=by kernel_rfl
instance:TSz Tryz.prog 163 1 false:=⟨QcO⟩
instance:TFd Tryz.prog 87 1 1 85:=⟨by kernel_rfl⟩
theorem Qao:tsz Tryz.prog 85=some (1,false):=by kernel_rfl
instance:TSz Tryz.prog 85 1 false:=⟨Qao⟩
def tbV(co mo rm:Int)(a:Option Addr)(n cap:Nat):List Value:=[.int .i64 co,.int .i64 mo,.int .i64 rm,.slice a n cap,ZT (Qcz co),ZT (Qcy co)]
def TbR(w:World)(M:List Nat)(bt:Nat)(co mo rm:Int)(a:Option Addr)(n cap:Nat):Prop:=∀k v,(tbV co mo rm a n cap)[k]?=some v->Rd w M bt k v
section
variable{w w':World}{M M':List Nat}{As As':List HA}{bt:Nat}{co mo rm:Int}{a:Option Addr}{n cap:Nat}
theorem TbR.next(h:TbR w M bt co mo rm a n cap)(hs:HS w M As w'):TbR w' [] bt co mo rm a n cap:=λk v hv=>(h k v hv).next hs
theorem TbR.keep(h:TbR w M bt co mo rm a n cap)(hs:HS w M As w'):TbR w' (fps As) bt co mo rm a n cap:=λk v hv=>hs.keep (h k v hv)
theorem TbR.mono(h:TbR w M bt co mo rm a n cap)(hM:∀b∈M',b∈M):TbR w M' bt co mo rm a n cap:=λk v hv=>(h k v hv).mono hM
theorem HS.tbr{w0:World}{tot t:Nat}(h:HS w0 M As w)(hp:QG As (.blk bt t tot (tbV co mo rm a n cap)) As'):TbR w [] bt co mo rm a n cap:=λk v hv=>h.rd_blk (Mc:=[]) hp hv (by simp)
end
def Qgj(co mo rm:Int):Tre:=if(if QL co=0 then Yy mo rm else QL co)=0 then⟨co,mo,rm,[⟨true,[],[]⟩]⟩else⟨0,0,0,[]⟩
theorem QiU{w0 w:World}{M:List Nat}{As:List HA}(et nt:Nat)(h:HS w0 M As w):HS w0 M (.nodes et nt none 0 []::As) w:=by
  have h1:HS w0 M (.own (.slice none 0 0) nt 3 0 []::.star []::As) w:=(h.star_nil).own_nil nt 3;exact HS.row_shut (l:=([]:List LNd)) h1 rfl rfl
theorem QiV{w0 w:World}{M:List Nat}{As:List HA}{a:Option Addr}{cap nt:Nat}(et:Nat)(h:HS w0 M (.own (.slice a 1 cap) nt 3 1 [.bool true,.slice none 0 0,.slice none 0 0]::As) w):HS w0 M (.nodes et nt a cap [⟨true,none,0,[],none,0,[]⟩]::As) w:=by
  have h1:HS w0 M (.star ([(⟨true,none,0,[],none,0,[]⟩:LNd)].map (YJ et))::As) w:=HS.star_close (Bs:=[_]) (HS.star_close (Bs:=[_,_]) ((h.tail.own_nil 3 1).own_nil et 2));have h2:HS w0 M (.star []::.own (.slice a 1 cap) nt 3 1 [.bool true,.slice none 0 0,.slice none 0 0]::As) w:=h.star_nil
  have h3:HS w0 M (.own (.slice a 1 cap) nt 3 1 [.bool true,.slice none 0 0,.slice none 0 0]::.star ([(⟨true,none,0,[],none,0,[]⟩:LNd)].map (YJ et))::As) w:=
    HS.perm (HS.star_close (Bs:=[_]) (HS.star_close (Bs:=[_,_]) ((h.own_nil 3 1).own_nil et 2))) (List.Perm.swap ..)
  exact HS.row_shut (l:=[(⟨true,none,0,[],none,0,[]⟩:LNd)]) h3 rfl rfl
theorem c166(w:World)(co mo rm:Int):CE 166 #[.int .i64 co,.int .i64 mo,.int .i64 rm] w [] (λg:(Option Addr×Nat)×List LNd=>.tuple #[.agg #[.int .i64 (Qgj co mo rm).co,.int .i64 (Qgj co mo rm).mo,.int .i64 (Qgj co mo rm).rm,.slice g.1.1 g.2.length g.1.2],.int .i64 (if QL co=0 then Yy mo rm else QL co)]) (λg=>pln g.2=(Qgj co mo rm).ns) λg=>[.nodes 50 87 g.1.1 g.1.2 g.2]:=by
 refine eN3 Tryz.func166 Tryz.ntmps166 ?_
 refine aU2 ?_
 refine oAl (λb1 _=>?_) Qfc
 refine aU8 ?_
 refine oCq rfl (λw1 h1=>c131 w1 _ _ _) (aU7 ?_)
 refine sCd rfl (λh2=>?_) λh2=>?_
 ·have hz:Qgj co mo rm=⟨0,0,0,[]⟩:=by unfold Qgj;rw[if_neg h2]
  refine aU2 ?_
  refine o_p (Qs (cs:=[_,_,_,_]) rfl rfl QjV Qfc rfl) rfl (aU4 ?_)
  exact Qg (rs:=[.cell 6 24,.tmp 7]) rfl (.cell rfl Qib aPk rfl (.tmp rfl (.nil))) (λw' h'=>⟨((none,0),[]),by rw[hz];rfl,by rw[hz];rfl,(QiU 50 87 h'.nil).ent aEt⟩)
 have hz:Qgj co mo rm=⟨co,mo,rm,[⟨true,[],[]⟩]⟩:=by unfold Qgj;rw[if_pos h2]
 refine aU6 ?_
 refine o_p (Qs (cs:=[_,_,_]) rfl rfl QmR YS rfl) rfl (o_h (Qc (cs:=[_,_,_]) rfl rfl Q2 YS rfl rfl rfl) rfl (λb3 _=>o_p (Qs (cs:=[_,_,_,_]) rfl rfl QjV Qfc rfl) rfl (aU3 ?_)))
 exact Qg (rs:=[.cell 6 24,.tmp 7]) rfl (.cell rfl Qib aPk rfl (.tmp rfl (.nil))) (λw' h'=>⟨((some ⟨b3,0,none⟩,1),[⟨true,none,0,[],none,0,[]⟩]),by rw[hz,h2];rfl,by rw[hz];rfl,(QiV 50 (HS.own_shut (n:=1) (cap:=1) (sz:=3) (h'.ent (Bs:=[.blk b3 87 (1*3) [.bool true,.slice none 0 0,.slice none 0 0]]) aEt) rfl (by decide) (by decide))).ent aEt⟩)
theorem c167(w:World)(a:Option Addr)(cap:Nat)(l:List TEnt)(q:Nat)(cv:Array Value)(es:List Int)(hs:Rw TEnt.vals 2 w [] a l)(hm:l.length<=1000000)(hq:QC Tryz.prog q=true)(he:es.length=l.length)(hc:∀k w1,k<l.length->(∀j,j<k->es.getD j 0=0)->HS w [] [] w1->Calls Tryz.prog q (#[]++[.int .i64 (k:Int),.agg (TEnt.vals (nth l k)).toArray].toArray++cv) w1 λen w2=>en=.returned (.int .i64 (es.getD k 0))/\Below w1.heap.size w1 w2):CR 167 #[.slice a l.length cap,.func (.func q) #[] cv] w (.tuple #[.int .i64 (QM es 0).1,.int .i64 (QM es 0).2]):=by
 refine eN2 Tryz.func167 Tryz.ntmps167 ?_
 refine Qb9 ?_
 refine Qp (α:=Nat) [4,5,6,7,8,11,12,13,14,15,16,17,18,19,20,21,22,23,24] (λk=>[(11,.int .i64 (k:Int))]) (λ_=>HS w [] []) (λk=>k<=l.length/\QM es 0=QM (es.drop k) k/\∀j,j<k->es.getD j 0=0) (λk=>l.length-k) 0 ⟨om,rfl,λi h=>absurd h (Nat.not_lt_zero i)⟩ aSx (λw h=>h.ent aEt) (λk hk=>?_)
 obtain⟨hk1,hk2,hk3⟩:=hk
 refine aU5 ?_
 refine sCd rfl (λh1=>?_) λh1=>?_
 ·refine aU6 ?_
  refine o_p (Qa rfl rfl rfl Xi (k) om om (Rw.some hs om)) rfl (o_q (Qt _ rfl rfl YF rfl (Rw.rd hs om)) rfl (oAl (λb2 _=>?_) XB))
  refine aU8 ?_
  refine o_q (XM rfl rfl hq rfl (λw1 h1=>hc k w1 om hk3 (h1.ent aEt))) rfl (aU7 ?_)
  refine sCd rfl (λh3=>?_) λh3=>?_
  ·refine aU7 ?_
   exact Qg (rs:=[.tmp 4,.tmp 5]) rfl (.tmp rfl (.tmp rfl (.nil))) (λw' h'=>⟨by simp only[Qw];rw[hk2,Xh om,if_neg (by assumption)],h'.below⟩)
  refine aT4 ?_
  refine aU2 ?_
  exact sBk (k+1) om ⟨om,by rw[hk2,Xh om,if_pos (by assumption)],λj hj=>(Nat.lt_or_ge j k).elim (hk3 j) (λh=>by obtain rfl:j=k:=om;assumption)⟩
 refine Qk rfl ?_
 refine aU5 ?_
 exact Qg (rs:=[.tmp 4,.tmp 5]) rfl (.tmp rfl (.tmp rfl (.nil))) (λw' h'=>⟨by simp only[Qw];rw[hk2,QcP om],h'.below⟩)
theorem c190(w:World)(bt:Nat)(j:Nat)(mo rm:Int)(a:Option Addr)(n cap:Nat)(hmo:0<=mo/\mo<=1000)(ht:TbR w [] bt (j:Int) mo rm a n cap):CR 190 #[.pointer (some ⟨bt,0,none⟩)] w (.int .i64 (mo/2)):=by
 refine eN1 Tryz.func190 Tryz.ntmps190 ?_
 refine YO ?_
 refine o_q (Qb rfl rfl Q3 (ht 1 _ rfl)) rfl (o_p (Y5 rfl rfl rfl om om om) rfl (aU2 ?_))
 exact rV
theorem c182(w:World)(bt:Nat)(j:Nat)(mo rm:Int)(a:Option Addr)(n cap:Nat)(i:Nat)(ht:TbR w [] bt (j:Int) mo rm a n cap):CR 182 #[.pointer (some ⟨bt,0,none⟩),.int .i64 (i:Int)] w (.int .i64 (X4 mo rm i)):=by
 refine eN2 Tryz.func182 Tryz.ntmps182 ?_
 refine YO ?_
 refine sCd rfl (λh1=>?_) λh1=>?_
 ·obtain rfl:i=0:=by have hq:=h1;omega
  refine aU6 ?_
  refine o_q (Qb rfl rfl Q3 (ht 2 _ rfl)) rfl (aU2 ?_)
  exact rV
 have hn0:¬i=0:=by have hq:=h1;omega
 refine aU7 ?_
 refine o_q (Qb rfl rfl Q3 (ht 1 _ rfl)) rfl (aU2 ?_)
 exact rV (h:=by simp only[Qw,X4];rw[if_neg hn0])
theorem c183(w:World)(c0:Nat)(k:Int)(x:TEnt)(bt:Nat)(j:Nat)(mo rm:Int)(a:Option Addr)(n cap:Nat)(hj:j<=3)(hx:x.key.length<=1000000)(hc0:Rd w [] c0 0 (.pointer (some ⟨bt,0,none⟩)))(ht:TbR w [] bt (j:Int) mo rm a n cap):CR 183 #[.int .i64 k,.agg #[.string (bs x.key),.string (bs x.val)],.pointer (some ⟨c0,0,none⟩)] w (.int .i64 (Yj (j:Int) x)):=by
 refine eN3 Tryz.func183 Tryz.ntmps183 ?_
 refine aU2 ?_
 refine oBx λb1 _=>?_
 refine aU3 ?_
 refine Qq [] mixed ?_
 refine dQ 0 [] rfl (Qb rfl rfl YK (hc0)) (dP 1 ?_)
 refine dFa 2 ?_
 refine dFa 3 ?_
 refine dQ 4 [] rfl (Qb rfl rfl Q3 (ht 0 _ rfl)) (dLn 5 [] ?_)
 refine dQ 6 [] rfl (Qe rfl Qnm rfl (λw1 h1=>c169 w1 j x hj hx)) (dP 7 ?_)
 refine dNi ?_
 exact rV
theorem c186(w:World)(c0 c7:Nat)(k:Nat)(us:Bool)(ea:Option Addr)(ec:Nat)(es:List TEnt)(kids:Value)(bt:Nat)(j:Nat)(mo rm:Int)(a:Option Addr)(n cap:Nat)(hj:j<=3)(hk:k<es.length)(hl:es.length<=1000000)(hx:∀x∈es,QE (j:Int) x.key=true/\x.key.length<=1000000)(hc0:Rd w [] c0 0 (.pointer (some ⟨bt,0,none⟩)))(hc7:Rd w [] c7 1 (.slice ea es.length ec))(hes:Rw TEnt.vals 2 w [] ea es)(ht:TbR w [] bt (j:Int) mo rm a n cap):CR 186 #[.int .i64 (k:Int),.agg #[.string (bs (nth es k).key),.string (bs (nth es k).val)],.pointer (some ⟨c0,0,none⟩),.pointer (some ⟨c7,0,none⟩)] w (.int .i64 (ZO (j:Int) es k)):=by
 refine eN4 Tryz.func186 Tryz.ntmps186 ?_
 refine aU2 ?_
 refine oBx λb1 _=>?_
 refine aU3 ?_
 refine Qq [] mixed ?_
 refine dP 0 ?_
 refine dP 1 ?_
 refine dP 2 ?_
 apply Xg 9
 ·exact rfl
 ·intro hg2
  have hs3:=hg2;try simp only[dT]at hs3
  refine dOf 3 9 hg2 ?_
  refine dOf 4 9 hg2 ?_
  refine dOf 5 9 hg2 ?_
  refine dOf 6 9 hg2 ?_
  refine dOf 7 9 hg2 ?_
  refine dOf 8 9 hg2 ?_
  refine dOf 9 9 hg2 ?_
  refine dOf 10 9 hg2 ?_
  refine dOf 11 9 hg2 ?_
  refine dOf 12 9 hg2 ?_
  refine dOf 13 9 hg2 ?_
  refine dOf 14 9 hg2 ?_
  refine dOf 15 9 hg2 ?_
  refine dOf 16 9 hg2 ?_
  refine dOf 17 9 hg2 ?_
  refine dOf 18 9 hg2 ?_
  refine dOf 19 9 hg2 ?_
  refine dV 20 rfl (QZ rfl rfl hg2 rfl) (dQ 21 [] rfl (Qe rfl Z8 rfl (λw1 h1=>Qcs w1 _ _)) (dP 22 ?_))
  refine dNi ?_
  exact rV (h:=by simp only[Qw,ZO];first|(split<;>simp_all<;>done)|(simp_all;done)|(grind))
 intro hg4
 have hs5:=hg4;try simp only[dN]at hs5
 refine dQo 3 9 [] hg4 rfl rfl rfl (Qb rfl rfl YK (hc0)) ?_
 refine dPo 4 9 hg4 ?_
 refine dFo 5 9 hg4 ?_
 refine dFo 6 9 hg4 ?_
 refine dQo 7 9 [] hg4 rfl rfl rfl (Qb rfl rfl QcO (ht 5 _ rfl)) ?_
 refine dFo 8 9 hg4 ?_
 refine dQo 9 9 [] hg4 rfl rfl rfl (Qb rfl rfl Qao (hc7)) ?_
 refine dPo 10 9 hg4 ?_
 refine dPo 11 9 hg4 ?_
 try refine dWr ?_
 refine dVo 12 9 hg4 rfl rfl rfl (QcD rfl rfl rfl ) ?_
 refine dVo 13 9 hg4 rfl rfl rfl (Qa rfl rfl rfl Xi (k-1) om om (Rw.some hes om)) ?_
 refine dFo 14 9 hg4 ?_
 refine dQo 15 9 [] hg4 rfl rfl rfl (Qb rfl rfl X5 ((hes.rdj (i:=k-1) 0 om rfl))) ?_
 refine dFo 16 9 hg4 ?_
 refine dQo 17 9 [] hg4 rfl rfl rfl (XY rfl rfl X5 aPk rfl) ?_
 refine dQo 18 9 [] hg4 rfl rfl rfl (XM rfl rfl (Qej _) rfl (λw1 h1=>ZH w1 j (nth es (k-1)).key (nth es k).key hj (hx _ (QA om)).1 (hx _ (QA hk)).1 (hx _ (QA om)).2 (hx _ (QA hk)).2)) ?_
 refine dPo 19 9 hg4 ?_
 refine dV 20 rfl (QN rfl rfl hg4 rfl) (dQ 21 [] rfl (Qe rfl Z8 rfl (λw1 h1=>Qcs w1 _ _)) (dP 22 ?_))
 refine dNi ?_
 exact rV (h:=by simp only[Qw,ZO];first|(split<;>simp_all<;>done)|(simp_all;done)|(grind))
theorem Qft:tki Tryz.prog 195=some .u64:=by kernel_rfl
instance:TFd Tryz.prog 24 3 3 22:=⟨by kernel_rfl⟩
theorem Za:tsz Tryz.prog 22=some (1,false):=by kernel_rfl
instance:TSz Tryz.prog 22 1 false:=⟨Za⟩
instance:TFn Tryz.prog 206:=⟨by kernel_rfl⟩
theorem QU:tsl Tryz.prog 65=some (3,1,8):=by kernel_rfl
theorem YX:Q8 Tryz.prog 3=some [.int .i64 0]:=by kernel_rfl
instance:TFn Tryz.prog 147:=⟨by kernel_rfl⟩
instance:TFd Tryz.prog 87 2 2 65:=⟨by kernel_rfl⟩
theorem Ze:tsz Tryz.prog 65=some (1,false):=by kernel_rfl
instance:TSz Tryz.prog 65 1 false:=⟨Ze⟩
theorem c206(w:World)(a:Option Addr)(cap:Nat)(l:List TEnt)(q:Nat)(cv:Array Value)(cs:List Int)(key:List UInt8)(hs:Rw TEnt.vals 2 w [] a l)(hm:l.length<=1000000)(hq:QC Tryz.prog q=true)(hb:cs.length=l.length)(hc:∀k w1,k<l.length->HS w [] [] w1->Calls Tryz.prog q (#[]++[.agg (TEnt.vals (nth l k)).toArray,.string (bs key)].toArray++cv) w1 λen w2=>en=.returned (.int .i64 (cs.getD k 0))/\Below w1.heap.size w1 w2):CR 206 #[.slice a l.length cap,.string (bs key),.func (.func q) #[] cv] w (.tuple #[.int .i64 (bsL cs:Int),.bool (QeM cs)]):=by
 refine eN3 Tryz.func206 Tryz.ntmps206 ?_
 refine aU19 ?_
 refine Qp (α:=Nat×Nat×Nat) [9,10,11,15,16,17,18,19,20,21,22,23,24,25,26,27,28,29,30,31,32,33,34] (λx=>[(9,.int .i64 (x.2.1:Int)),(10,.int .i64 (x.2.2:Int))]) (λ_=>_) (λx=>x.2.1<=x.2.2/\x.2.2<=l.length/\x.2.2-x.2.1<=x.1/\bsC cs x.1 x.2.1 x.2.2=bsL cs) (λx=>x.1) (l.length,0,l.length) ⟨by simp,by simp,by simp,by rw[<-hb];rfl⟩ aSx (λw h=>h.ent aEt) (λ⟨m,lo,hi⟩hx=>?_)
 dsimp only
 obtain⟨hx1,hx2,hx3,hx4⟩:=hx
 simp only[]at hx1 hx2 hx3 hx4
 refine aU7 ?_
 refine sCd rfl (λh1=>?_) λh1=>?_
 ·refine aT7 ?_
  refine o_p (Qm rfl rfl X2 Qft) rfl ?_
  rw[show IntKind.u64.wrap ((lo:Int)+(hi:Int))=((lo+hi:Nat):Int)from QkN _ om]
  refine o_p (Qci rfl rfl rfl (by decide) 1 rfl) rfl (o_p (Qm rfl rfl Qft X2) rfl ?_)
  try refine oWr ?_
  refine Qn (show _=Value.int .i64 (((lo+hi)/2:Nat):Int)from by congr 1) ?_
  obtain⟨q2,hq1,hq2⟩:=QgK (cs:=cs) (show lo<hi by omega) hx3
  refine aU7 ?_
  refine o_p (Qa rfl rfl rfl Xi ((lo+hi)/2) om om (Rw.some hs om)) rfl (o_q (Qt _ rfl rfl YF rfl (Rw.rd hs (i:=(lo+hi)/2) om)) rfl (aU ?_))
  refine o_q (XM rfl rfl hq rfl (λw1 h1=>hc ((lo+hi)/2) w1 om (h1.ent aEt))) rfl (aU2 ?_)
  refine sCd rfl (λh2=>?_) λh2=>?_
  ·refine aT3 ?_
   refine aU3 ?_
   exact sBk (q2,(lo+hi)/2+1,hi) (by(try simp only[]);omega) ⟨by(try simp only[]);omega,hx2,by(try simp only[]);omega,by simp only[];rw[<-hx4,hq2,if_pos h2]⟩ (by refine QiN (congrArg (λe=>some (Value.int .i64 e)) (show(((lo+hi)/2:Nat):Int)+1=(((lo+hi)/2+1:Nat):Int) by omega)) ?_;repeat (first|exact Qme|refine QiN rfl ?_))
  refine aU5 ?_
  exact sBk (q2,lo,(lo+hi)/2) (by(try simp only[]);omega) ⟨by(try simp only[]);omega,by(try simp only[]);omega,by(try simp only[]);omega,by simp only[];rw[<-hx4,hq2,if_neg h2]⟩
 refine Qk rfl ?_
 refine aU3 ?_
 have hlo:bsL cs=lo:=by rw[<-hx4,Qh6 _ _ _ _ om]
 refine aU4 ?_
 refine QJ 9 39 48 rfl
  (λhg3 _=>by
   refine aU7 ?_
   refine o_p (Qa rfl rfl rfl Xi (lo) om om (Rw.some hs om)) rfl (aU ?_)
   refine o_q (Qt _ rfl rfl YF rfl (Rw.rd hs (i:=lo) om)) rfl (aU3 ?_)
   refine o_q (XM rfl rfl hq rfl (λw1 h1=>hc lo w1 om (h1.ent aEt))) rfl (aU2 ?_)
   exact oJt 9 48)
  (λhg5 _=>by
   refine aU8 ?_
   exact oJf 9 48) ?_
 refine aU3 ?_
 exact Qg (rs:=[.tmp 6,.tmp 7]) rfl (.tmp rfl (.tmp rfl (.nil))) (λw' h'=>⟨by simp only[Qw,QeM,hlo];first|(rw[hb];simp;done)|(have:¬lo<cs.length:=om;simp[this];done)|(have:lo<cs.length:=om;simp[this];done)|(have:lo<cs.length:=om;have hl9:lo<l.length:=om;simp only[this,hl9,decide_true,Bool.true_and,Bool.and_true];rfl)|(have:lo<cs.length:=om;have hl9:lo<l.length:=om;simp[this,hl9]),h'.below⟩)
theorem c207(w:World)(c0:Nat)(x:TEnt)(key:List UInt8)(bt:Nat)(j:Nat)(mo rm:Int)(a:Option Addr)(n cap:Nat)(hj:j<=3)(hx:QE (j:Int) x.key=true)(hk:QE (j:Int) key=true)(hxl:x.key.length<=1000000)(hkl:key.length<=1000000)(hc0:Rd w [] c0 0 (.pointer (some ⟨bt,0,none⟩)))(ht:TbR w [] bt (j:Int) mo rm a n cap):CR 207 #[.agg #[.string (bs x.key),.string (bs x.val)],.string (bs key),.pointer (some ⟨c0,0,none⟩)] w (.int .i64 (QI (j:Int) x.key key)):=by
 refine eN3 Tryz.func207 Tryz.ntmps207 ?_
 refine aU2 ?_
 refine oBx λb1 _=>?_
 refine aU3 ?_
 refine Qq [] mixed ?_
 refine dQ 0 [] rfl (Qb rfl rfl YK (hc0)) (dP 1 ?_)
 refine dFa 2 ?_
 refine dFa 3 ?_
 refine dQ 4 [] rfl (Qb rfl rfl QcO (ht 5 _ rfl)) (dFa 5 ?_)
 refine dLd 6 [] ?_
 refine dP 7 ?_
 refine dQ 8 [] rfl (XM rfl rfl (Qej _) rfl (λw1 h1=>ZH w1 j x.key key hj hx hk hxl hkl)) (dP 9 ?_)
 refine dNi ?_
 exact rV
theorem c147(w:World)(bt:Nat)(j:Nat)(mo rm:Int)(a:Option Addr)(cap:Nat)(L:List LNd)(key:List UInt8)(i:Nat)(hj:j<=3)(hi:i<L.length)(hl:L.length<=1000)(hel:(nth L i).es.length<=1000)(hK:∀i,i<L.length->∀x∈(nth L i).es,QE (j:Int) x.key=true/\x.key.length<=1000000)(hk:QE (j:Int) key=true)(hkl:key.length<=1000000)(hasc:Asc (j:Int) (nth L i).es)(hs:Nt w [] a L)(ht:TbR w [] bt (j:Int) mo rm a L.length cap):CR 147 #[.pointer (some ⟨bt,0,none⟩),.int .i64 (i:Int),.string (bs key)] w (.tuple #[.int .i64 (plc (j:Int) (nth L i).es key:Int),.bool (fnd (j:Int) (nth L i).es key)]):=by
 refine eN3 Tryz.func147 Tryz.ntmps147 ?_
 refine aU2 ?_
 refine oBx λb1 _=>?_
 refine aU9 ?_
 refine o_q (Qb rfl rfl Za (ht 3 _ rfl)) rfl (aU ?_)
 refine o_p (Qa rfl rfl rfl Q2 (i) om om (Rw.some hs.1 om)) rfl (aU ?_)
 refine o_q (Qb rfl rfl Qao ((hs.1.rdj 1 hi rfl))) rfl (aU2 ?_)
 refine oCq rfl (λw1 h1=>by have h9:=c206 w1 (nth L i).ea (nth L i).ec (nth L i).es 207 #[.pointer (some ⟨b1,0,none⟩)] (QdT (j:Int) (nth L i).es key) key ((hs.es hi).later h1) om (by kernel_rfl) (Qbt _ _ _) (λk w2 hk9 h2=>by rw[Qbe hk9];exact c207 w2 b1 (nth (nth L i).es k) key bt j mo rm a L.length cap hj (hK i hi _ (QA hk9)).1 hk (hK i hi _ (QA hk9)).2 hkl ((h1.rd_blk (Mc:=[]) aPk rfl (by simp)).next h2) ((ht.next h1).next h2));rw[Qj4 hasc,QnQ hasc]at h9;exact h9) (aU5 ?_)
 exact Qg (rs:=[.tmp 6,.tmp 7]) rfl (.tmp rfl (.tmp rfl (.nil))) (λw' h'=>⟨rfl,h'.below⟩)
theorem QeT{co:Int}{ns:List Nd}{key:List UInt8}{f i:Nat}(h:¬(fnd co (nth ns i).es key=true\/(nth ns i).cs.length=0)):Zp co ns key (f+1) i=(i::(Zp co ns key f ((nth ns i).cs.getD (plc co (nth ns i).es key) 0).toNat).1,(Zp co ns key f ((nth ns i).cs.getD (plc co (nth ns i).es key) 0).toNat).2):=by
  rw[Zp,if_neg h]
theorem Qa8{co:Int}{ns:List Nd}{key:List UInt8}{f i:Nat}(h:fnd co (nth ns i).es key=true\/(nth ns i).cs.length=0):Zp co ns key (f+1) i=([i],plc co (nth ns i).es key,fnd co (nth ns i).es key):=by
  rw[Zp,if_pos h]
theorem Qmd(l:List Nat):(l.map λi:Nat=>(i:Int)).flatMap inV=l.map λi:Nat=>Value.int .i64 (i:Int):=by
  induction l with
  | nil=>rfl
  | cons x l ih=>
    rw[List.map_cons,List.flatMap_cons,List.map_cons,ih];rfl
theorem c97(w:World)(bt:Nat)(j:Nat)(mo rm:Int)(a:Option Addr)(cap:Nat)(L:List LNd)(key:List UInt8)(hj:j<=3)(h0:0<L.length)(hB:Bd (pln L))(hT:TOk (j:Int) (pln L))(hK:∀i,i<L.length->∀x∈(nth L i).es,QE (j:Int) x.key=true/\x.key.length<=1000000)(hk:QE (j:Int) key=true)(hkl:key.length<=1000000)(hs:Nt w [] a L)(ht:TbR w [] bt (j:Int) mo rm a L.length cap):CE 97 #[.pointer (some ⟨bt,0,none⟩),.string (bs key)] w [] (λg:Option Addr×Nat=>.tuple #[.slice g.1 (Qu (j:Int) (pln L) key).1.length g.2,.int .i64 ((Qu (j:Int) (pln L) key).2.1:Int),.bool (Qu (j:Int) (pln L) key).2.2]) (λg=>True) λg=>[.kids g.1 g.2 ((Qu (j:Int) (pln L) key).1.map λi:Nat=>(i:Int))]:=by
 refine eN2 Tryz.func97 Tryz.ntmps97 ?_
 refine Y0 ?_
 refine Qp (α:=(Option Addr×Nat)×List Nat×Nat×Nat) [4,5,6,7,8,9,10,11,12,13,14,15,16,17,18,19,20,21,22,23,24,25,26,27,28,29,30,31,32,33,34,35,36,37,38,39,40,41,42,43,44,45,46,47] (λx=>[(4,.slice x.1.1 x.2.1.length x.1.2),(7,.int .i64 (x.2.2.1:Int))]) (λx=>HS w [] [.own (.slice x.1.1 x.2.1.length x.1.2) 3 1 x.2.1.length (x.2.1.map λi:Nat=>Value.int .i64 (i:Int))]) (λx=>x.2.2.1<L.length/\x.2.1.length+x.2.2.2=L.length/\Gx.Way (pln L) (x.2.2.1::x.2.1.reverse)/\(Qu (j:Int) (pln L) key)=(x.2.1++(Zp (j:Int) (pln L) key x.2.2.2 x.2.2.1).1,(Zp (j:Int) (pln L) key x.2.2.2 x.2.2.1).2)) (λx=>x.2.2.2) ((none,0),[],0,L.length) ⟨h0,by simp,rfl,by rw[Qu,Qd];rfl⟩ aSx (λw h=>(h.own_nil 3 1).ent aEt) (λ⟨⟨ga,gc⟩,P,i,f⟩hx=>?_)
 dsimp only
 obtain⟨hi,hlen,hway,hpath⟩:=hx
 simp only[]at hi hlen hway hpath
 have hwl:=XD hT (by rw[Qd];exact h0) hway
 simp only[List.length_cons,List.length_reverse,Qd]at hwl
 obtain⟨f,rfl⟩:∃f9,f=f9+1:=⟨f-1,om⟩
 have hni:=QB hi
 have hle:=hB.len
 rw[Qd]at hle
 have hes9:=hB.es i (by rw[Qd];exact hi)
 have hcs9:=hB.cs i (by rw[Qd];exact hi)
 rw[hni]at hes9 hcs9
 have hasc:=hT.asc i (by rw[Qd];exact hi)
 rw[hni]at hasc
 refine aU5 ?_
 refine o_h (Qc (cs:=[_]) rfl rfl QU YX rfl rfl rfl) rfl (λb1 _=>o_h (Qz [_] rfl rfl rfl QU Tryz.underlying65 YX rfl aPk (Q5 aPk) rfl (by intro u hu;simp only[List.mem_cons,List.mem_nil_iff,or_false]at hu;subst hu;rfl) om (by simp only[maxLen];omega)) rfl (λb2 _=>aU7 ?_))
 refine oCq rfl (λw1 h1=>c147 w1 bt j mo rm a cap L key i hj hi om hes9 hK hk hkl hasc (hs.later h1.nil) (ht.next h1.nil)) (Y0 ?_)
 refine oOr 12 20 32 rfl
  (λhg3 _=>by
   refine aU9 ?_
   refine o_q (Qb rfl rfl Za (ht 3 _ rfl)) rfl (aU3 ?_)
   refine o_p (Qa rfl rfl rfl Q2 (i) om om (Rw.some hs.1 om)) rfl (aU3 ?_)
   refine o_q (Qb rfl rfl Ze ((hs.1.rdj 2 hi rfl))) rfl (aU4 ?_)
   exact oJf 12 32)
  (λhg5 _=>by
   refine Y0 ?_
   exact oJt 12 32) ?_
 refine aU ?_
 refine sCd rfl (λh7=>?_) λh7=>?_
 ·have hst:fnd (j:Int) (nth (pln L) i).es key=true\/(nth (pln L) i).cs.length=0:=by rw[hni];have hq:=h7;first|exact hq|(simp at hq;simpa[LNd.pl]using hq)
  refine aU9 ?_
  exact Qg (rs:=[.tmp 4,.tmp 5,.tmp 6]) rfl (.tmp rfl (.tmp rfl (.tmp rfl (.nil)))) (λw' h'=>⟨(b2.1,b2.2),by rw[hpath,Qa8 hst,hni];simp[Qw,LNd.pl],trivial,by rw[hpath,Qa8 hst];have h2:=h';unfold HA.kids;rw[Qmd];simp only[List.length_map,List.length_append,List.length_singleton,List.map_append,List.map_cons,List.map_nil];exact h2.ent aEt⟩)
 have hst:¬(fnd (j:Int) (nth (pln L) i).es key=true\/(nth (pln L) i).cs.length=0):=by rw[hni];have hq:=h7;first|exact hq|(simp at hq;simpa[LNd.pl]using hq)
 have hcl:(nth L i).cs.length=(nth L i).es.length+1:=by rcases hT.shape i (by rw[Qd];exact hi)with h9|h9;exact absurd (.inr h9) hst;rw[hni]at h9;exact h9
 have hple:=QbV (j:Int) key (nth L i).es
 have hpk:plc (j:Int) (nth L i).es key<(nth L i).cs.length:=om
 have hkid:=QaJ hT (by rw[Qd];exact hi) (i:=i) (k:=plc (j:Int) (nth L i).es key) (by rw[hni];exact hpk)
 rw[hni,Qd]at hkid
 simp only[LNd.pl]at hkid
 have hway2:=ZC hway (by rw[Qd];exact hi) (k:=plc (j:Int) (nth L i).es key) (by rw[hni];exact hpk) (by rw[hni];simp only[LNd.pl];omega)
 rw[hni]at hway2
 simp only[LNd.pl]at hway2
 refine aU6 ?_
 refine o_q (Qb rfl rfl Za (ht 3 _ rfl)) rfl (aU ?_)
 refine o_p (Qa rfl rfl rfl Q2 (i) om om (Rw.some hs.1 om)) rfl (aU ?_)
 refine o_q (Qb rfl rfl Ze ((hs.1.rdj 2 hi rfl))) rfl (aU ?_)
 refine o_p (Qa rfl rfl rfl QU (plc (j:Int) (nth L i).es key) om om (Rw.some (hs.cs hi) om)) rfl (o_q (Qb rfl rfl Q3 (((hs.cs hi).rdj 0 (i:=plc (j:Int) (nth L i).es key) hpk rfl))) rfl (aU3 ?_))
 exact QH ((b2.1,b2.2),P++[i],((nth L i).cs.getD (plc (j:Int) (nth L i).es key) 0).toNat,f) (by(try simp only[]);omega) ⟨by simp only[];omega,by simp only[List.length_append,List.length_singleton];omega,by simp only[List.reverse_append,List.reverse_singleton,List.singleton_append];exact hway2,by simp only[];rw[hpath,QeT hst];simp[hni,LNd.pl]⟩ (by simp only[List.length_append,List.length_singleton];rw[Int.toNat_of_nonneg om];exact aSx) (λw h=>by have h2:=h;simp only[List.length_append,List.length_singleton,List.map_append,List.map_cons,List.map_nil];exact h2.ent aEt)
theorem Qnu:QC Tryz.prog 185=true:=by kernel_rfl
instance:TFd Tryz.prog 87 0 0 4:=⟨by kernel_rfl⟩
theorem QeN:tsz Tryz.prog 4=some (1,false):=by kernel_rfl
instance:TSz Tryz.prog 4 1 false:=⟨QeN⟩
theorem Qkn:tsz Tryz.prog 207=some (1,false):=by kernel_rfl
theorem Qn1:tzv Tryz.prog 4=some (.bool false):=by kernel_rfl
abbrev KI:Int->Value:=λn=>Value.int .i64 n
theorem QkO{ks:List Int}{c x:Int}:x∈Qal ks c ↔ x=c\/x∈ks:=by
  unfold Qal;split
  · rename_i h;constructor
    · exactλh1=>.inr h1
    · rintro(rfl|h1)
      · exact h
      · exact h1
  · rw[List.mem_append,List.mem_singleton];exact Or.comm
theorem c185(w:World)(i c:Int)(c0 c5 r:Nat)(ks seen:List Int)(bt:Nat)(j:Nat)(mo rm:Int)(a:Option Addr)(cap:Nat)(L:List LNd)(hw:HS w (fps [.mp r KI ks]) [.mp r KI ks] w)(hst:∀x,x∈ks ↔ x∈seen)(hc0:Rd w (fps [.mp r KI ks]) c0 0 (.pointer (some ⟨bt,0,none⟩)))(hc5:Rd w (fps [.mp r KI ks]) c5 0 (.map (some r)))(ht:TbR w (fps [.mp r KI ks]) bt (j:Int) mo rm a L.length cap)(hs:Nt w (fps [.mp r KI ks]) a L)(hl:L.length<=1000):CE 185 #[.int .i64 i,.int .i64 c,.pointer (some ⟨c0,0,none⟩),.pointer (some ⟨c5,0,none⟩)] w (fps [.mp r KI ks]) (λg:List Int=>.int .i64 (QaN (pln L) c seen)) (λg=>(∀x,x∈g ↔ x∈(Qb8 (pln L) c seen))) λg=>[.mp r KI g]:=by
 refine eW4 Tryz.func185 Tryz.ntmps185 hw ?_
 refine aU8 ?_
 refine o_q (Qb rfl rfl YK (hc0)) rfl (aU3 ?_)
 refine o_q (Qb rfl rfl Za (ht 3 _ rfl)) rfl (aT2 ?_)
 refine oCq rfl (λw1 h1=>QiT w1 _ _ _) (aU2 ?_)
 refine oOr 11 18 29 rfl
  (λhg1 _=>by
   refine aU ?_
   refine o_q (Qb rfl rfl YK (hc0)) rfl (aU7 ?_)
   refine o_q (Qb rfl rfl Za (ht 3 _ rfl)) rfl (aU3 ?_)
   refine o_p (Qa rfl rfl rfl Q2 c.toNat om om (Rw.some hs.1 om)) rfl (aU3 ?_)
   refine o_q (Qb rfl rfl QeN ((hs.1.rdj 0 (i:=c.toNat) om rfl))) rfl (aU2 ?_)
   exact oJf 11 29)
  (λhg3 _=>by
   refine YO ?_
   exact oJt 11 29) ?_
 refine aU ?_
 refine sCd rfl (λh5=>?_) λh5=>?_
 ·have hz:¬Qby (pln L) c:=by unfold Qby;rw[Qd];intro h9;rw[QB om]at h9;have hq:=h5;simp[LNd.pl]at h9;rcases hq with hq|hq<;>simp_all<;>omega
  refine aU4 ?_
  exact rT rfl rfl (λw' h'=>⟨ks,by unfold QaN;rw[if_neg hz];rfl,by unfold Qb8;rw[if_neg hz];exact hst,h'.ent aEt⟩)
 have hz:Qby (pln L) c:=by have hq:=h5;have hq1:1<=c/\c<=(L.length:Int)-1:=(by first|omega|(simp at hq;omega));unfold Qby;rw[Qd,QB om];exact⟨hq1,by simp only[LNd.pl];first|exact hq.2|exact hq.2.2|(simp at hq;first|exact hq.2|exact hq.2.2)⟩
 refine aU3 ?_
 refine o_q (Qb rfl rfl Qkn (hc5)) rfl (aU ?_)
 refine o_q (QeJ rfl rfl rfl Tryz.underlying207 Qn1 (Qii X2) aPk) rfl (aU ?_)
 refine oCq rfl (λw1 h1=>Qcs w1 _ _) (aU4 ?_)
 refine o_q (Qb rfl rfl Qkn (hc5)) rfl (aU ?_)
 refine Qf0 (QaV (.inl rfl) rfl rfl rfl Tryz.underlying207 (Qii X2) aPt) (λ_ _=>aU6 ?_)
 exact rT rfl rfl (λw' h'=>⟨Qal ks c,by unfold QaN;rw[if_pos hz];simp only[Qw];by_cases h9:c∈seen<;>simp[h9,(hst c)],by unfold Qb8;rw[if_pos hz];intro x;rw[QkO,List.mem_cons,hst],h'.ent aEt⟩)
theorem c184(w:World)(ca:Option Addr)(cc:Nat)(cs:List Int)(c0 c5 r:Nat)(ks seen:List Int)(bt:Nat)(j:Nat)(mo rm:Int)(a:Option Addr)(cap:Nat)(L:List LNd)(hw:HS w (fps [.mp r KI ks]) [.mp r KI ks] w)(hst:∀x,x∈ks ↔ x∈seen)(hc0:Rd w (fps [.mp r KI ks]) c0 0 (.pointer (some ⟨bt,0,none⟩)))(hc5:Rd w (fps [.mp r KI ks]) c5 0 (.map (some r)))(ht:TbR w (fps [.mp r KI ks]) bt (j:Int) mo rm a L.length cap)(hs:Nt w (fps [.mp r KI ks]) a L)(hl:L.length<=1000)(hcs:Rw inV 1 w (fps [.mp r KI ks]) ca cs)(hcl:cs.length<=1000):CE 184 #[.slice ca cs.length cc,.func (.func 185) #[] #[.pointer (some ⟨c0,0,none⟩),.pointer (some ⟨c5,0,none⟩)]] w (fps [.mp r KI ks]) (λg:Int×List Int=>.tuple #[.int .i64 g.1,.int .i64 (XA (pln L) cs seen).1]) (λg=>(∀x,x∈g.2 ↔ x∈(XA (pln L) cs seen).2)) λg=>[.mp r KI g.2]:=by
 refine eW2 Tryz.func184 Tryz.ntmps184 hw ?_
 refine Qb9 ?_
 refine Qp (α:=Nat×List Int×List Int) [4,5,6,7,8,11,12,13,14,15,16,17,18,19,20,21,22,23,24] (λx=>[(11,.int .i64 (x.1:Int))]) (λx=>HS w (fps [.mp r KI ks]) [.mp r KI x.2.1]) (λx=>x.1<=cs.length/\(∀y,y∈x.2.1 ↔ y∈x.2.2)/\(XA (pln L) cs seen)=XA (pln L) (cs.drop x.1) x.2.2) (λx=>cs.length-x.1) (0,ks,seen) ⟨Nat.zero_le _,hst,rfl⟩ aSx (λw h=>h.ent aEt) (λ⟨k,K,S9⟩hx=>?_)
 dsimp only
 obtain⟨hk1,hk2,hk3⟩:=hx
 simp only[]at hk1 hk2 hk3
 refine aU5 ?_
 refine sCd rfl (λh1=>?_) λh1=>?_
 ·have hkl:k<cs.length:=by omega
  refine aU6 ?_
  refine o_p (Qa rfl rfl rfl QU (k) om om (Rw.some hcs om)) rfl (o_q (Qb rfl rfl Q3 ((hcs.rdj 0 (i:=k) om rfl))) rfl (aU8 ?_))
  refine o_h (QeF (Cs:=[.mp r KI K]) rfl rfl Qnu rfl aPs (λw1 h1 hf=>c185 w1 (k:Int) (cs.getD k 0) c0 c5 r K S9 bt j mo rm a cap L hf hk2 (h1.keep hc0) (h1.keep hc5) (ht.keep h1) (hs.keep h1) hl)) rfl (λb2 hkG=>?_)
  have hkg:=hkG
  refine aU7 ?_
  refine sCd rfl (λh3=>?_) λh3=>?_
  ·refine aU7 ?_
   exact Qg (rs:=[.tmp 4,.tmp 5]) rfl (.tmp rfl (.tmp rfl (.nil))) (λw' h'=>⟨((k:Int),b2),by rw[hk3,Qa2 hkl,Z7,if_neg h3];rfl,by rw[hk3,Qa2 hkl,Z7,if_neg h3];exact hkG,h'.ent aEt⟩)
  refine aT4 ?_
  refine aU2 ?_
  exact sBk (k+1,b2,Qb8 (pln L) (cs.getD k 0) S9) (by(try simp only[]);omega) ⟨by(try simp only[]);omega,hkg,by simp only[];rw[hk3,Qa2 hkl,Z7,if_pos h3]⟩
 refine Qk rfl ?_
 refine aU5 ?_
 exact Qg (rs:=[.tmp 4,.tmp 5]) rfl (.tmp rfl (.tmp rfl (.nil))) (λw' h'=>⟨(0,K),by rw[hk3,List.drop_of_length_le om];rfl,by rw[hk3,List.drop_of_length_le om];exact hk2,h'.ent aEt⟩)
theorem Qaq:tsz Tryz.prog 87=some (3,true):=by kernel_rfl
instance:TSz Tryz.prog 87 3 true:=⟨Qaq⟩
theorem Qof:QC Tryz.prog 182=true:=by kernel_rfl
instance:TFn Tryz.prog 167:=⟨by kernel_rfl⟩
theorem Qnn:QC Tryz.prog 184=true:=by kernel_rfl
theorem QmH{t:Tre}{i:Nat}{es:List TEnt}{cs:List Int}(h:nth t.ns i=⟨true,es,cs⟩)(b:Bool)(hb:b=true ↔ (cs.length=0\/cs.length=es.length+1)):(if(bif decide ((es.length:Int)<=X4 t.mo t.rm i)then(0:Int)else 16)=0 then(bif b then(0:Int)else 10)else(bif decide ((es.length:Int)<=X4 t.mo t.rm i)then(0:Int)else 16))=nE1 t i:=by
  unfold nE1;rw[h]
  by_cases h1:(es.length:Int)<=X4 t.mo t.rm i
  · rw[decide_eq_true h1,if_pos h1]
    by_cases h2:cs.length=0\/cs.length=es.length+1
    · rw[if_pos h2,hb.2 h2];rfl
    · rw[if_neg h2,show b=false by cases b;rfl;exact absurd (hb.1 rfl) h2];rfl
  · rw[decide_eq_false h1,if_neg h1];rfl
theorem c135(w:World)(i r:Nat)(ks seen:List Int)(bt:Nat)(j:Nat)(mo rm:Int)(a:Option Addr)(cap:Nat)(L:List LNd)(hw:HS w (fps [.mp r KI ks]) [.mp r KI ks] w)(hst:∀x,x∈ks ↔ x∈seen)(ht:TbR w (fps [.mp r KI ks]) bt (j:Int) mo rm a L.length cap)(hs:Nt w (fps [.mp r KI ks]) a L)(hl:L.length<=1000)(hj:j<=3)(hi:i<L.length)(hel:(nth L i).es.length<=1000)(hcl:(nth L i).cs.length<=1000)(hkl:∀x∈(nth L i).es,x.key.length<=1000000):CE 135 #[.pointer (some ⟨bt,0,none⟩),.int .i64 (i:Int),.map (some r)] w (fps [.mp r KI ks]) (λg:List Int=>.int .i64 (Xp (⟨(j:Int),mo,rm,pln L⟩:Tre) i seen).1) (λg=>(∀x,x∈g ↔ x∈(Xp (⟨(j:Int),mo,rm,pln L⟩:Tre) i seen).2)) λg=>[.mp r KI g]:=by
 have hn:nth (pln L) i=(nth L i).pl:=QB hi
 have hE2:nE2 (⟨(j:Int),mo,rm,pln L⟩:Tre) i=if nE1 (⟨(j:Int),mo,rm,pln L⟩:Tre) i=0 then(QM ((nth L i).es.map (Yj (j:Int))) 0).2 else nE1 (⟨(j:Int),mo,rm,pln L⟩:Tre) i:=by unfold nE2 YP;rw[hn];rfl
 have hE3:nE3 (⟨(j:Int),mo,rm,pln L⟩:Tre) i seen=if nE2 (⟨(j:Int),mo,rm,pln L⟩:Tre) i=0 then XA (pln L) (nth L i).cs seen else(nE2 (⟨(j:Int),mo,rm,pln L⟩:Tre) i,seen):=by unfold nE3;rw[hn];rfl
 have hE4:nE4 (⟨(j:Int),mo,rm,pln L⟩:Tre) i seen=if(nE3 (⟨(j:Int),mo,rm,pln L⟩:Tre) i seen).1=0 then(QM ((List.range (nth L i).es.length).map (ZO (j:Int) (nth L i).es)) 0).2 else(nE3 (⟨(j:Int),mo,rm,pln L⟩:Tre) i seen).1:=by unfold nE4 ZU;rw[hn];rfl
 refine eW3 Tryz.func135 Tryz.ntmps135 hw ?_
 refine aU2 ?_
 refine oBx λb1 _=>?_
 refine oBx λb2 _=>?_
 refine aU8 ?_
 refine o_q (Qb rfl rfl Za (ht 3 _ rfl)) rfl (aU ?_)
 refine o_p (Qa rfl rfl rfl Q2 (i) om om (Rw.some hs.1 om)) rfl (o_q (Qt _ rfl rfl Qaq rfl (Rw.rd hs.1 hi)) rfl (oAl (λb3 _=>?_) YS))
 refine aU9 ?_
 refine sCd rfl (λh4=>?_) λh4=>?_
 ·have hu:(nth (pln L) i).us=false:=by rw[hn];have hq:=h4;simpa[LNd.pl]using hq
  refine aU5 ?_
  refine QJ 10 22 32 rfl
   (λhg5 _=>by
    refine Y0 ?_
    refine o_q (Qb rfl rfl Za (ht 3 _ rfl)) rfl (aT4 ?_)
    refine aU2 ?_
    exact oJt 10 32)
   (λhg7 _=>by
    refine aU9 ?_
    exact oJf 10 32) ?_
  refine aU ?_
  refine QJ 9 33 42 rfl
   (λhg9 _=>by
    refine aT14 ?_
    refine aU2 ?_
    exact oJt 9 42)
   (λhg11 _=>by
    refine aU8 ?_
    exact oJf 9 42) ?_
  refine oCq rfl (λw1 h1=>Qcs w1 _ _) (aU2 ?_)
  exact rT rfl rfl (λw' h'=>⟨ks,by unfold Xp;simp only[];rw[if_neg (by rw[hu];decide),hn];simp only[Qw,LNd.pl];simp only[cond_eq_ite,Bool.and_eq_true,decide_eq_true_eq,Qd];(split<;>split<;>first|rfl|omega),by unfold Xp;simp only[];rw[if_neg (by rw[hu];decide)];split<;>exact hst,h'.ent aEt⟩)
 have hu:(nth (pln L) i).us=true:=by rw[hn];have hq:=h4;simpa[LNd.pl]using hq
 have hN1:nth ((⟨(j:Int),mo,rm,pln L⟩:Tre)).ns i=⟨true,(nth L i).es,(nth L i).cs⟩:=by show nth (pln L) i=_;rw[hn]at hu ⊢;simp only[LNd.pl]at hu ⊢;rw[hu]
 rw[QeU (⟨(j:Int),mo,rm,pln L⟩:Tre) i hu]
 refine aU2 ?_
 refine Qi (L':=[(1,_),(3,_),(5,_),(6,_),(7,_)]) aSx (λ_ h=>h) ?_
 refine Q7 (α:=Unit) [8,44,45,46,47,48,49,50,51,52,53,54,55,56,57,58,59,60,61,62,63,64,65,66,67,68] (λ_=>[(8,.int .i64 (nE1 (⟨(j:Int),mo,rm,pln L⟩:Tre) i))]) (λ_=>HS w (fps [.mp r KI ks]) [.blk b1 147 1 [.pointer (some ⟨bt,0,none⟩)],.blk b2 207 1 [.map (some r)],.blk b3 87 3 (nth L i).vals,.mp r KI ks]) (λ_=>True) ?_ ?_
 ·skip
  refine Qq [] mixed ?_
  refine dFa 0 ?_
  refine dLd 1 [] ?_
  refine dV 2 rfl (Qx rfl rfl Tryz.underlying85) (dLd 3 [] ?_)
  refine dP 4 ?_
  refine dQ 5 [] rfl (Qe rfl Qof rfl (λw1 h1=>c182 w1 bt j mo rm a L.length cap i (ht.next h1))) (dP 6 ?_)
  refine dQ 7 [] rfl (Qe rfl Z8 rfl (λw1 h1=>Qcs w1 _ _)) (dFa 8 ?_)
  refine dLd 9 [] ?_
  refine dV 10 rfl (Qx rfl rfl Tryz.underlying65) (dP 11 ?_)
  refine dP 12 ?_
  apply Xg 56
  ·exact rfl
  ·intro hg13
   have hs14:=hg13;try simp only[dT]at hs14
   refine dOf 13 56 hg13 ?_
   refine dOf 14 56 hg13 ?_
   refine dOf 15 56 hg13 ?_
   refine dOf 16 56 hg13 ?_
   refine dOf 17 56 hg13 ?_
   refine dOf 18 56 hg13 ?_
   refine dOf 19 56 hg13 ?_
   refine dOf 20 56 hg13 ?_
   refine dV 21 rfl (QZ rfl rfl hg13 rfl) (dQ 22 [] rfl (Qe rfl Z8 rfl (λw1 h1=>Qcs w1 _ _)) (dH 23 rfl (Qc (cs:=[_,_]) rfl rfl Q6 Xx rfl rfl rfl) (λb15 _=>dBa ?_)))
   refine dQ 24 [] rfl (Qe rfl QdW rfl (λw1 h1=>QjC h1 aPk (by rfl) (by rfl) (by decide))) (Qy (show _=Value.int .i64 (nE1 (⟨(j:Int),mo,rm,pln L⟩:Tre) i)from by congr 1;rw[Qag];exact QmH hN1 _ (by first|(simp only[true_iff];left;have hq:=hg13;simp at hq ⊢;omega)|(have hq:¬(((nth L i).cs.length:Int)=0):=of_decide_eq_false hg13;rw[decide_eq_true_eq];omega))) (dP 25 ?_))
   refine dNi ?_
   exact Qf () trivial aSx (λw h=>h.ent aEt)
  intro hg16
  have hs17:=hg16;try simp only[dN]at hs17
  refine dFo 13 56 hg16 ?_
  refine dQo 14 56 [] hg16 rfl rfl rfl (XY rfl rfl Ze aPk rfl) ?_
  refine dVo 15 56 hg16 rfl rfl rfl (Qx rfl rfl Tryz.underlying65) ?_
  refine dFo 16 56 hg16 ?_
  refine dQo 17 56 [] hg16 rfl rfl rfl (XY rfl rfl Qao aPk rfl) ?_
  refine dVo 18 56 hg16 rfl rfl rfl (Qx rfl rfl Tryz.underlying85) ?_
  refine dPo 19 56 hg16 ?_
  try refine dWr ?_
  refine dPo 20 56 hg16 ?_
  refine dV 21 rfl (QN rfl rfl hg16 rfl) (dQ 22 [] rfl (Qe rfl Z8 rfl (λw1 h1=>Qcs w1 _ _)) (dH 23 rfl (Qc (cs:=[_,_]) rfl rfl Q6 Xx rfl rfl rfl) (λb18 _=>dBa ?_)))
  refine dQ 24 [] rfl (Qe rfl QdW rfl (λw1 h1=>QjC h1 aPk (by rfl) (by rfl) (by decide))) (Qy (show _=Value.int .i64 (nE1 (⟨(j:Int),mo,rm,pln L⟩:Tre) i)from by congr 1;rw[Qag];exact QmH hN1 _ (by first|(simp only[true_iff];left;have hq:=hg16;simp at hq ⊢;omega)|(have hq:¬(((nth L i).cs.length:Int)=0):=of_decide_eq_false hg16;rw[decide_eq_true_eq];omega))) (dP 25 ?_))
  refine dNi ?_
  exact Qf () trivial aSx (λw h=>h.ent aEt)
 intro _ _
 refine aU6 ?_
 refine Q7 (α:=Unit) [8,71,72,73,74,75,76,77] (λ_=>[(8,.int .i64 (nE2 (⟨(j:Int),mo,rm,pln L⟩:Tre) i))]) (λ_=>HS w (fps [.mp r KI ks]) [.blk b1 147 1 [.pointer (some ⟨bt,0,none⟩)],.blk b2 207 1 [.map (some r)],.blk b3 87 3 (nth L i).vals,.mp r KI ks]) (λ_=>True) ?_ ?_
 ·skip
  refine sCd rfl (λh19=>?_) λh19=>?_
  ·refine aU4 ?_
   refine oCq rfl (λw1 h1=>c167 w1 (nth L i).ea (nth L i).ec (nth L i).es 183 #[.pointer (some ⟨b1,0,none⟩)] ((nth L i).es.map (Yj (j:Int))) ((hs.es hi).later h1) om (by kernel_rfl) (by simp) (λk w2 hk9 _ h2=>by rw[QaU hk9];exact c183 w2 b1 (k:Int) (nth (nth L i).es k) bt j mo rm a L.length cap hj (hkl _ (QA hk9)) ((h1.rd_blk (Mc:=[]) (b:=b1) aPk rfl (by simp)).next h2) ((ht.next h1).next h2))) (aU5 ?_)
   exact Qf () trivial (by rw[hE2,if_pos h19];exact aSx) (λw h=>h.ent aEt)
  refine aU ?_
  exact Qf () trivial (by rw[hE2,if_neg h19];exact aSx) (λw h=>h.ent aEt)
 intro _ _
 refine aU6 ?_
 refine Q7 (α:=List Int) [8,80,81,82,83,84,85,86] (λ_=>[(8,.int .i64 (nE3 (⟨(j:Int),mo,rm,pln L⟩:Tre) i seen).1)]) (λq=>HS w (fps [.mp r KI ks]) [.blk b1 147 1 [.pointer (some ⟨bt,0,none⟩)],.blk b2 207 1 [.map (some r)],.blk b3 87 3 (nth L i).vals,.mp r KI q]) (λq=>∀x,x∈q ↔ x∈(nE3 (⟨(j:Int),mo,rm,pln L⟩:Tre) i seen).2) ?_ ?_
 ·skip
  refine sCd rfl (λh20=>?_) λh20=>?_
  ·refine aU4 ?_
   refine o_h (Q1 (Cs:=[.mp r KI ks]) rfl Qnn rfl aPs (λw1 h1 hf=>c184 w1 (nth L i).ca (nth L i).cc (nth L i).cs b1 b2 r ks seen bt j mo rm a cap L hf hst (h1.rd_blkF aPs (b:=b1) aPk rfl) (h1.rd_blkF aPs (b:=b2) aPk rfl) ((ht.keep h1).mono (QS aPs)) ((hs.keep h1).mono (QS aPs)) hl (((hs.cs hi).keep h1).mono (QS aPs)) hcl)) rfl (λb21 hkG=>aU5 ?_)
   exact Qf b21.2 (by rw[hE3,if_pos h20];exact hkG) (by rw[hE3,if_pos h20];exact aSx) (λw h=>h.ent aEt)
  refine aU ?_
  exact Qf ks (by rw[hE3,if_neg h20];exact hst) (by rw[hE3,if_neg h20];exact aSx) (λw h=>h.ent aEt)
 intro ks2 hks2
 refine aU6 ?_
 refine Q7 (α:=Unit) [8,89,90,91,92,93,94,95] (λ_=>[(8,.int .i64 (nE4 (⟨(j:Int),mo,rm,pln L⟩:Tre) i seen))]) (λ_=>HS w (fps [.mp r KI ks]) [.blk b1 147 1 [.pointer (some ⟨bt,0,none⟩)],.blk b2 207 1 [.map (some r)],.blk b3 87 3 (nth L i).vals,.mp r KI ks2]) (λ_=>True) ?_ ?_
 ·skip
  refine sCd rfl (λh22=>?_) λh22=>?_
  ·have he0:=Qh7 (Qou _ _ (QmE _ _ h22))
   rw[hn]at he0
   have hkok:∀x∈(nth L i).es,QE (j:Int) x.key=true/\x.key.length<=1000000:=λx hx=>⟨Qav (he0 x hx),hkl x hx⟩
   refine aU4 ?_
   refine oCq rfl (λw1 h1=>c167 w1 (nth L i).ea (nth L i).ec (nth L i).es 186 #[.pointer (some ⟨b1,0,none⟩),.pointer (some ⟨b3,0,none⟩)] ((List.range (nth L i).es.length).map (ZO (j:Int) (nth L i).es)) ((hs.es hi).later h1) om (by kernel_rfl) (by simp) (λk w2 hk9 _ h2=>by rw[QaI hk9];exact c186 w2 b1 b3 k true (nth L i).ea (nth L i).ec (nth L i).es (.bool true) bt j mo rm a L.length cap hj hk9 om hkok ((h1.rd_blk (Mc:=[]) (b:=b1) aPk rfl (by simp)).next h2) ((h1.rd_blk (Mc:=[]) (b:=b3) aPk rfl (by simp)).next h2) (((hs.es hi).later h1).later h2) ((ht.next h1).next h2))) (aU5 ?_)
   exact Qf () trivial (by rw[hE4,if_pos h22];exact aSx) (λw h=>h.ent aEt)
  refine aU ?_
  exact Qf () trivial (by rw[hE4,if_neg h22];exact aSx) (λw h=>h.ent aEt)
 intro _ _
 refine aU5 ?_
 exact rT rfl rfl (λw' h'=>⟨ks2,rfl,hks2,h'.ent aEt⟩)
instance:TFn Tryz.prog 121:=⟨by kernel_rfl⟩
theorem Qhs:QC Tryz.prog 187=true:=by kernel_rfl
theorem QmP:tsz Tryz.prog 60=some (1,false):=by kernel_rfl
instance:TSz Tryz.prog 60 1 false:=⟨QmP⟩
theorem QbY:tsl Tryz.prog 60=some (4,1,1):=by kernel_rfl
theorem c121(w:World)(ua:Option Addr)(uc:Nat)(u:List Int)(n:Int)(hu:Rw inV 1 w [] ua u)(hum:u.length<=100000):CR 121 #[.slice ua u.length uc,.int .i64 n] w (.int .i64 (ixI (QeR u n))):=by
 refine eN2 Tryz.func121 Tryz.ntmps121 ?_
 refine Zr ?_
 refine Qp (α:=Nat) [4,5,8,9,10,11,12,13,14,15,16,17,18] (λk=>[(8,.int .i64 (k:Int))]) (λ_=>_) (λk=>k<=u.length/\∀i,i<k->(QeR u n).getD i false=false) (λk=>u.length-k) 0 ⟨Nat.zero_le _,λi h=>absurd h (Nat.not_lt_zero i)⟩ aSx (λw h=>h) (λk hkk=>?_)
 obtain⟨hk1,hk2⟩:=hkk
 refine aU5 ?_
 refine sCd rfl (λh1=>?_) λh1=>?_
 ·have hk:k<u.length:=by omega
  refine Qb9 ?_
  refine o_p (Qa rfl rfl rfl QU (k) om om (Rw.some hu om)) rfl (o_q (Qb rfl rfl Q3 ((hu.rdj 0 hk rfl))) rfl (aU2 ?_))
  refine sCd rfl (λh2=>?_) λh2=>?_
  ·have hq9:n=u.getD k 0:=h2
   have e:=Qdq (l:=QeR u n) (k:=k) (by rw[QaR];omega) hk2 (λ_=>by rw[QgA hk];exact decide_eq_true hq9)
   refine aU5 ?_
   exact rV (h:=by simp only[Qw,ixI,e,QaR];rw[if_pos hk])
  have hq9:¬n=u.getD k 0:=h2
  refine aT4 ?_
  refine aU2 ?_
  exact QH (k+1) om ⟨om,λi hi=>(Nat.lt_or_ge i k).elim (hk2 i) (λh=>by obtain rfl:i=k:=om;rw[QgA hk];exact decide_eq_false hq9)⟩ aSx (λw h=>h)
 obtain rfl:k=u.length:=om
 refine Qk rfl ?_
 refine aU4 ?_
 exact rV (h:=by have e:=Qdq (l:=QeR u n) (k:=u.length) (by rw[QaR];omega) hk2 (λh=>by rw[QaR]at h;omega);simp only[Qw,ixI,e,QaR];rw[if_neg om])
theorem c76(w:World)(ua:Option Addr)(uc:Nat)(u:List Int)(n:Int)(hu:Rw inV 1 w [] ua u)(hum:u.length<=100000):CR 76 #[.slice ua u.length uc,.int .i64 n] w (.bool (decide (n∈u))):=by
 refine eN2 Tryz.func76 Tryz.ntmps76 ?_
 refine aU8 ?_
 refine oCq rfl (λw1 h1=>c121 w1 ua uc u n (hu.later h1) hum) (aU3 ?_)
 exact rV (h:=by rw[<-QjN,<-Qmp];rfl)
def WkC(S:Type)(I:S->Prop)(C:S->HA)(st:S->Vis->S)(er:S->Vis->Int×Int)(q:Nat)(cv:Array Value)(bt:Nat)(j:Nat)(mo rm:Int)(a:Option Addr)(cap:Nat)(L:List LNd)(f:Nat):Prop:=∀(w:World)(s:S)(v:Vis)(pl ph:Option Addr)(P:List Nat),(HS w (fps [C s]) [C s] w)->(QC Tryz.prog q=true)->(∀s1 s2:S,(C s1).fp=(C s2).fp)->(∀s2 v2,I s2->I (st s2 v2))->(I s)->(∀(s2:S)(v2:Vis)(p2 p3:Option Addr)(w1:World),HS w (fps [C s]) [C s2] w1->I s2->v2.i<L.length->KOk (j:Int) v2.lo->KOk (j:Int) v2.hi->Zo w1 (fps [C s2]) p2 v2.lo->Zo w1 (fps [C s2]) p3 v2.hi->Calls Tryz.prog q (#[]++[.int .i64 (v2.i:Int),.int .i64 v2.d,.pointer p2,.pointer p3].toArray++cv) w1 λen w2=>∃g:Unit,en=.returned (.tuple #[.int .i64 (er s2 v2).1,.int .i64 (er s2 v2).2])/\True/\HS w1 (fps [C s2]) [C (st s2 v2)] w2)->(TbR w (fps [C s]) bt (j:Int) mo rm a L.length cap)->(Nt w (fps [C s]) a L)->(TOk (j:Int) (pln L))->(Bd (pln L))->(Zo w (fps [C s]) pl v.lo)->(Zo w (fps [C s]) ph v.hi)->(0<L.length)->(Gx.Way (pln L) (v.i::P))->(P.length+f=L.length)->(v.d=(P.length:Int)+1)->(KOk (j:Int) v.lo)->(KOk (j:Int) v.hi)->Calls Tryz.prog 187 #[.pointer (some ⟨bt,0,none⟩),.int .i64 (v.i:Int),.int .i64 v.d,.pointer pl,.pointer ph,.func (.func q) #[] cv] w λen w'=>∃g:Unit,en=.returned (.tuple #[.int .i64 (Xc st er s (vis (pln L) f v)).1.1,.int .i64 (Xc st er s (vis (pln L) f v)).1.2])/\True/\HS w (fps [C s]) [C (Xc st er s (vis (pln L) f v)).2] w'
theorem Qox(w:World)(S:Type)(I:S->Prop)(C:S->HA)(st:S->Vis->S)(er:S->Vis->Int×Int)(q:Nat)(cv:Array Value)(bt:Nat)(j:Nat)(mo rm:Int)(a:Option Addr)(cap:Nat)(L:List LNd)(s:S)(v:Vis)(pl ph:Option Addr)(P:List Nat)(f:Nat)(hw:HS w (fps [C s]) [C s] w)(hq:QC Tryz.prog q=true)(hfp:∀s1 s2:S,(C s1).fp=(C s2).fp)(hI:∀s2 v2,I s2->I (st s2 v2))(hIs:I s)(hv:∀(s2:S)(v2:Vis)(p2 p3:Option Addr)(w1:World),HS w (fps [C s]) [C s2] w1->I s2->v2.i<L.length->KOk (j:Int) v2.lo->KOk (j:Int) v2.hi->Zo w1 (fps [C s2]) p2 v2.lo->Zo w1 (fps [C s2]) p3 v2.hi->Calls Tryz.prog q (#[]++[.int .i64 (v2.i:Int),.int .i64 v2.d,.pointer p2,.pointer p3].toArray++cv) w1 λen w2=>∃g:Unit,en=.returned (.tuple #[.int .i64 (er s2 v2).1,.int .i64 (er s2 v2).2])/\True/\HS w1 (fps [C s2]) [C (st s2 v2)] w2)(ht:TbR w (fps [C s]) bt (j:Int) mo rm a L.length cap)(hs:Nt w (fps [C s]) a L)(hT:TOk (j:Int) (pln L))(hB:Bd (pln L))(hpl:Zo w (fps [C s]) pl v.lo)(hph:Zo w (fps [C s]) ph v.hi)(h0:0<L.length)(hway:Gx.Way (pln L) (v.i::P))(hf:P.length+(f+1)=L.length)(hd:v.d=(P.length:Int)+1)(hko:KOk (j:Int) v.lo)(hkp:KOk (j:Int) v.hi)(ih:WkC S I C st er q cv bt j mo rm a cap L f):CE 187 #[.pointer (some ⟨bt,0,none⟩),.int .i64 (v.i:Int),.int .i64 v.d,.pointer pl,.pointer ph,.func (.func q) #[] cv] w (fps [C s]) (λg:Unit=>.tuple #[.int .i64 (Xc st er s (vis (pln L) (f+1) v)).1.1,.int .i64 (Xc st er s (vis (pln L) (f+1) v)).1.2]) (λg=>True) λg=>[C (Xc st er s (vis (pln L) (f+1) v)).2]:=by
 have hi0:=ZE hT (by rw[Qd];exact h0) hway v.i (List.mem_cons_self ..)
 have hi:v.i<L.length:=by rw[Qd]at hi0;exact hi0
 have hn:=QB hi
 have hle:=hB.len
 rw[Qd]at hle
 have hel:=hB.es v.i hi0
 have hcl:=hB.cs v.i hi0
 rw[hn]at hel hcl
 simp only[LNd.pl]at hel hcl
 have hsh:=hT.shape v.i hi0
 rw[hn]at hsh
 simp only[LNd.pl]at hsh
 refine eW6 Tryz.func187 Tryz.ntmps187 hw ?_
 refine Qb9 ?_
 refine o_h (QeF (Cs:=[C s]) rfl rfl hq rfl aPs (λw1 h1 hf9=>hv s v pl ph w1 (h1.ent aEt) hIs hi hko hkp ((hpl.keep h1).mono (QS aPs)) ((hph.keep h1).mono (QS aPs)))) rfl (λ_ _=>Y0 ?_)
 refine sCd rfl (λh1=>?_) λh1=>?_
 ·have hz:Xc st er s (vis (pln L) (f+1) v)=(er s v,st s v):=by rw[vis,Xc,if_neg h1]
  refine aU7 ?_
  exact Qg (rs:=[.tmp 12,.tmp 13]) rfl (.tmp rfl (.tmp rfl (.nil))) (λw' h'=>⟨(),by rw[hz];rfl,trivial,by rw[hz];exact h'.ent aEt⟩)
 have hz0:Xc st er s [v]=((0,0),st s v):=by rw[Xc,if_pos h1,Xc]
 refine aU7 ?_
 refine o_q (Qb rfl rfl Za (ht 3 _ rfl)) rfl (aU ?_)
 refine o_p (Qa rfl rfl rfl Q2 (v.i) om om (Rw.some hs.1 om)) rfl (o_q (Qt _ rfl rfl Qaq rfl (Rw.rd hs.1 hi)) rfl (oAl (λb2 _=>?_) YS))
 refine aU4 ?_
 refine Qi (L':=[(0,_),(2,_),(3,_),(4,_),(5,_),(12,_),(13,_),(16,_)]) aSx (λ_ h=>h) ?_
 refine aU7 ?_
 refine Qp (α:=Nat×S) [12,13,17,18,19,20,21,22,47,48,49,50,51,52,53,54,55,56,57,58,59,60,61,62,63,64,65,66,67,68,69,70,71,72,73,74,75,76,77,78,79,80,81,82,83,84,85,86,87] (λx=>[(47,.int .i64 (x.1:Int))]) (λx=>HS w (fps [C s]) [.blk b2 87 3 (nth L v.i).vals,C x.2]) (λx=>x.1<=(nth L v.i).cs.length/\(Xc st er s (ZX (pln L) f v x.1)).1.2=0/\(Xc st er s (ZX (pln L) f v x.1)).2=x.2) (λx=>(nth L v.i).cs.length-x.1) (0,st s v) ⟨Nat.zero_le _,by rw[Qhq,hz0],by rw[Qhq,hz0]⟩ aSx (λw h=>h.ent aEt) (λ⟨k,sk⟩hx=>?_)
 dsimp only
 obtain⟨hk1,hk2,hk3⟩:=hx
 simp only[]at hk1 hk2 hk3
 refine aU5 ?_
 refine sCd rfl (λh3=>?_) λh3=>?_
 ·have hkl:k<(nth L v.i).cs.length:=by omega
  have hkid:=QaJ hT hi0 (k:=k) (by rw[hn];exact hkl)
  have hwk:=ZC hway hi0 (k:=k) (by rw[hn];exact hkl) om
  have hki:((Xl (pln L) v k).i:Int)=(nth L v.i).cs.getD k 0:=by unfold Xl;rw[hn]at hkid ⊢;simp only[LNd.pl]at hkid ⊢;rw[Int.toNat_of_nonneg om]
  rw[Qd]at hkid
  refine aU6 ?_
  refine o_p (Qa rfl rfl rfl QU (k) om om (Rw.some (hs.cs hi) om)) rfl (o_q (Qb rfl rfl Q3 (((hs.cs hi).rdj 0 (i:=k) hkl rfl))) rfl (aU2 ?_))
  refine Qn (show _=Value.int .i64 ((Xl (pln L) v k).i:Int)from by rw[hki];rfl) (Qg0 ?_)
  refine Q7 (α:=Option Addr) [19,56,57,58,59,60,61] (λp=>[(19,.pointer p)]) (λ_=>HS w (fps [C s]) [.blk b2 87 3 (nth L v.i).vals,C sk]) (λp=>Zo w (fps [C s]) p (loK (nth L v.i).es k v.lo)) ?_ ?_
  ·skip
   refine sCd rfl (λh4=>?_) λh4=>?_
   ·refine aT5 ?_
    refine o_p (Qa rfl rfl rfl Xi (k-1) om om (Rw.some (hs.es hi) om)) rfl (aU3 ?_)
    exact Qf (some ⟨ab (nth L v.i).ea,ao (nth L v.i).ea+(k-1)*2,none⟩) (by rw[show loK (nth L v.i).es k v.lo=some (nth (nth L v.i).es (k-1)).key from if_pos om];exact⟨_,_,rfl,((hs.es hi).rdj 0 om rfl)⟩) aSx (λw h=>h.ent aEt)
   refine aU ?_
   exact Qf pl (by rw[show loK (nth L v.i).es k v.lo=v.lo from if_neg om];exact hpl) aSx (λw h=>h.ent aEt)
  intro p1 hp1
  refine aU9 ?_
  refine Qi (L':=[(0,_),(2,_),(3,_),(4,_),(5,_),(16,_),(17,_),(18,_),(19,_),(20,_),(44,_),(45,_),(46,_),(47,_),(66,_)]) aSx (λ_ h=>h) ?_
  refine Q7 (α:=Option Addr) [20,67,68,69,70,71] (λp=>[(20,.pointer p)]) (λ_=>HS w (fps [C s]) [.blk b2 87 3 (nth L v.i).vals,C sk]) (λp=>Zo w (fps [C s]) p (hiK (nth L v.i).es k v.hi)) ?_ ?_
  ·skip
   refine sCd rfl (λh5=>?_) λh5=>?_
   ·refine aU4 ?_
    refine o_p (Qa rfl rfl rfl Xi (k) om om (Rw.some (hs.es hi) om)) rfl (aU3 ?_)
    exact Qf (some ⟨ab (nth L v.i).ea,ao (nth L v.i).ea+k*2,none⟩) (by rw[show hiK (nth L v.i).es k v.hi=some (nth (nth L v.i).es k).key from if_pos om];exact⟨_,_,rfl,((hs.es hi).rdj 0 om rfl)⟩) aSx (λw h=>h.ent aEt)
   refine aU ?_
   exact Qf ph (by rw[show hiK (nth L v.i).es k v.hi=v.hi from if_neg om];exact hph) aSx (λw h=>h.ent aEt)
  intro p2 hp2
  refine aT6 ?_
  refine aU3 ?_
  refine o_h (Q1 (Cs:=[C sk]) rfl Qhs rfl aPs (λw1 h1 hf9=>ih w1 sk (Xl (pln L) v k) p1 p2 (v.i::P) hf9 hq hfp hI (hk3▸Qf6 hI _ _ hIs) (λs2 v2 p3 p4 w2 h2 hs2 hi2 ha2 hb2 hp3 hp4=>hv s2 v2 p3 p4 w2 (HS.thenF (h1.ent (Bs:=[C sk]) aEt) h2) hs2 hi2 ha2 hb2 hp3 hp4) ((ht.keep h1).mono (QS aPs)) ((hs.keep h1).mono (QS aPs)) hT hB (by unfold Xl;rw[hn];exact(hp1.keep h1).mono (QS aPs)) (by unfold Xl;rw[hn];exact(hp2.keep h1).mono (QS aPs)) h0 hwk (by simp only[List.length_cons];omega) (by show v.d+1=_;simp only[List.length_cons];omega) (Qdy hT hi0 (by rw[hn];simp only[LNd.pl];omega) hko) (Qet hT hi0 hkp))) rfl (λ_ _=>Y0 ?_)
  refine sCd rfl (λh6=>?_) λh6=>?_
  ·have e9:Xc st er s (ZX (pln L) f v k++vis (pln L) f (Xl (pln L) v k))=Xc st er sk (vis (pln L) f (Xl (pln L) v k)):=by rw[QhM _ _ hk2,hk3]
   have hz:Xc st er s (vis (pln L) (f+1) v)=Xc st er sk (vis (pln L) f (Xl (pln L) v k)):=by rw[YA,hn];simp only[LNd.pl];obtain⟨B,eB⟩:=ZG (pln L) f v (show k+1<=(nth L v.i).cs.length by omega);rw[eB,Xu,Qk9 _ _ (by rw[e9];exact h6),e9]
   refine aU ?_
   refine Qi (L':=[(0,_),(2,_),(3,_),(4,_),(5,_),(16,_),(21,_),(22,_),(44,_),(45,_),(46,_),(47,_)]) aSx (λ_ h=>h) ?_
   refine aU6 ?_
   exact Qg (rs:=[.tmp 12,.tmp 13]) rfl (.tmp rfl (.tmp rfl (.nil))) (λw' h'=>⟨(),by rw[hz];rfl,trivial,by rw[hz];exact h'.ent aEt⟩)
  have hz:Xc st er s (ZX (pln L) f v (k+1))=Xc st er sk (vis (pln L) f (Xl (pln L) v k)):=by rw[Xu,QhM _ _ hk2,hk3]
  refine aU2 ?_
  refine Qi (L':=[(0,_),(2,_),(3,_),(4,_),(5,_),(16,_),(44,_),(45,_),(46,_),(47,_)]) aSx (λ_ h=>h) ?_
  refine aT2 ?_
  refine aU2 ?_
  exact sBk (k+1,(Xc st er sk (vis (pln L) f (Xl (pln L) v k))).2) (by(try simp only[]);omega) ⟨by(try simp only[]);omega,by simp only[];rw[hz];exact h6,by simp only[];rw[hz]⟩
 refine Qk rfl ?_
 refine aU5 ?_
 exact Qg (rs:=[.tmp 12,.tmp 13]) rfl (.tmp rfl (.tmp rfl (.nil))) (λw' h'=>⟨(),by have hke:k=(nth L v.i).cs.length:=om;rw[YA,hn];simp only[LNd.pl];rw[<-hke,QjH _ _ hk2];rfl,trivial,by have hke:k=(nth L v.i).cs.length:=om;rw[YA,hn];simp only[LNd.pl];rw[<-hke,hk3];exact h'.ent aEt⟩)
theorem QhA(S:Type)(I:S->Prop)(C:S->HA)(st:S->Vis->S)(er:S->Vis->Int×Int)(q:Nat)(cv:Array Value)(bt:Nat)(j:Nat)(mo rm:Int)(a:Option Addr)(cap:Nat)(L:List LNd):∀f,WkC S I C st er q cv bt j mo rm a cap L f
  | 0=>λw s v pl ph P hw hq hfp hI hIs hv ht hs hT hB hpl hph h0 hway hf hd hko hkp=>by
    have hl:=XD hT (by rw[Qd];exact h0) hway;rw[Qd]at hl;simp only[List.length_cons]at hl;omega
  | f+1=>λw s v pl ph P hw hq hfp hI hIs hv ht hs hT hB hpl hph h0 hway hf hd hko hkp=>Qox w S I C st er q cv bt j mo rm a cap L s v pl ph P f hw hq hfp hI hIs hv ht hs hT hB hpl hph h0 hway hf hd hko hkp (QhA S I C st er q cv bt j mo rm a cap L f)
theorem c188(w:World)(i:Nat)(d:Int)(pl ph:Option Addr)(c4 bb n:Nat)(s:List Bool)(hw:HS w (fps [.blk bb 4 n (s.map Value.bool)]) [.blk bb 4 n (s.map Value.bool)] w)(hc4:Rd w (fps [.blk bb 4 n (s.map Value.bool)]) c4 0 (.slice (some ⟨bb,0,none⟩) n n))(hi:i<n)(hn:s.length=n):CE 188 #[.int .i64 (i:Int),.int .i64 d,.pointer pl,.pointer ph,.pointer (some ⟨c4,0,none⟩)] w (fps [.blk bb 4 n (s.map Value.bool)]) (λg:Unit=>.tuple #[.int .i64 0,.int .i64 0]) (λg=>True) λg=>[.blk bb 4 n ((s.set i true).map Value.bool)]:=by
 refine eW5 Tryz.func188 Tryz.ntmps188 hw ?_
 refine aU7 ?_
 refine o_q (Qb rfl rfl QmP (hc4)) rfl (aU ?_)
 refine o_p (Qa rfl rfl rfl QbY (i) om om rfl) rfl (Qf0 (Y2 rfl rfl rfl QeN rfl aPt (by first|(simp only[List.length_map,List.length_singleton,List.length_cons,List.length_nil];omega)|(simp;omega)) rfl) (λ_ _=>aU6 ?_))
 exact Qg (rs:=[.tmp 9,.tmp 10]) rfl (.tmp rfl (.tmp rfl (.nil))) (λw' h'=>⟨(),rfl,trivial,by have h2:=h';rw[List.map_set];simp only[QK,Nat.zero_add,Nat.mul_one]at h2;exact h2.ent aEt⟩)
instance:TFn Tryz.prog 76:=⟨by kernel_rfl⟩
theorem Qnl:QC Tryz.prog 190=true:=by kernel_rfl
theorem QfW:Qgl Tryz.prog 242 9:=Qia Tryz.underlying242 X5 (by decide)
theorem c189(w:World)(v:Vis)(pl ph:Option Addr)(c1 c7:Nat)(s:Int)(bt:Nat)(j:Nat)(mo rm:Int)(a:Option Addr)(cap:Nat)(L:List LNd)(hw:HS w (fps [.blk c7 3 1 [.int .i64 s]]) [.blk c7 3 1 [.int .i64 s]] w)(hc1:Rd w (fps [.blk c7 3 1 [.int .i64 s]]) c1 0 (.pointer (some ⟨bt,0,none⟩)))(ht:TbR w (fps [.blk c7 3 1 [.int .i64 s]]) bt (j:Int) mo rm a L.length cap)(hs:Nt w (fps [.blk c7 3 1 [.int .i64 s]]) a L)(hj:j<=3)(hmo:0<=mo/\mo<=1000)(hi:v.i<L.length)(hl:L.length<=1000)(hel:(nth L v.i).es.length<=1000)(hcl:(nth L v.i).cs.length<=1000)(hc0:(nth L 0).cs.length<=1000)(he0:(nth L 0).es.length<=1000)(hpl:Zo w (fps [.blk c7 3 1 [.int .i64 s]]) pl v.lo)(hph:Zo w (fps [.blk c7 3 1 [.int .i64 s]]) ph v.hi)(hlo:∀k,v.lo=some k->(QE (j:Int) k=true/\k.length<=1000000))(hhi:∀k,v.hi=some k->(QE (j:Int) k=true/\k.length<=1000000))(hok:∀x∈(nth L v.i).es,QE (j:Int) x.key=true/\x.key.length<=1000000):CE 189 #[.int .i64 (v.i:Int),.int .i64 v.d,.pointer pl,.pointer ph,.pointer (some ⟨c1,0,none⟩),.pointer (some ⟨c7,0,none⟩)] w (fps [.blk c7 3 1 [.int .i64 s]]) (λg:Unit=>.tuple #[.int .i64 (erV (⟨(j:Int),mo,rm,pln L⟩:Tre) s v).1,.int .i64 (erV (⟨(j:Int),mo,rm,pln L⟩:Tre) s v).2]) (λg=>True) λg=>[.blk c7 3 1 [.int .i64 (stV (⟨(j:Int),mo,rm,pln L⟩:Tre) s v)]]:=by
 have h00:0<L.length:=om
 have hn:nth (pln L) v.i=(nth L v.i).pl:=QB hi
 have hn0:nth (pln L) 0=(nth L 0).pl:=QB h00
 have hG:YT (⟨(j:Int),mo,rm,pln L⟩:Tre) v=(decide (0<v.i)&&(decide (((nth L v.i).es.length:Int)<mo/2)||((decide (((nth L 0).es.length:Int)=0)&&decide ((v.i:Int)∈(nth L 0).cs))&&decide (((nth L v.i).es.length:Int)<=rm)))):=by unfold YT;rw[hn,hn0];simp only[LNd.pl];congr 3;congr 1;apply decide_eq_decide.2;omega
 have hO:YE (⟨(j:Int),mo,rm,pln L⟩:Tre) v=(nth L v.i).es.any (YU (⟨(j:Int),mo,rm,pln L⟩:Tre) v):=by unfold YE;rw[hn];rfl
 have hE:erV (⟨(j:Int),mo,rm,pln L⟩:Tre) s v=((v.i:Int),if YT (⟨(j:Int),mo,rm,pln L⟩:Tre) v=true then 14 else if YE (⟨(j:Int),mo,rm,pln L⟩:Tre) v=true then 9 else if(nth L v.i).cs.length=0 then(if(if s=0 then v.d else s)=v.d then 0 else 22)else 0):=by unfold erV;rw[hn];rfl
 have hS:stV (⟨(j:Int),mo,rm,pln L⟩:Tre) s v=if YT (⟨(j:Int),mo,rm,pln L⟩:Tre) v=true then s else if YE (⟨(j:Int),mo,rm,pln L⟩:Tre) v=true then s else if(nth L v.i).cs.length=0 then(if s=0 then v.d else s)else s:=by unfold stV;rw[hn];rfl
 refine eW6 Tryz.func189 Tryz.ntmps189 hw ?_
 refine aU7 ?_
 refine o_q (Qb rfl rfl YK (hc1)) rfl (aU3 ?_)
 refine o_q (Qb rfl rfl Za (ht 3 _ rfl)) rfl (aU ?_)
 refine o_p (Qa rfl rfl rfl Q2 (v.i) om om (Rw.some hs.1 om)) rfl (o_q (Qt _ rfl rfl Qaq rfl (Rw.rd hs.1 hi)) rfl (oAl (λb1 _=>?_) YS))
 refine aU5 ?_
 refine o_q (Qb rfl rfl YK (hc1)) rfl (aU3 ?_)
 refine o_q (Qb rfl rfl Za (ht 3 _ rfl)) rfl (o_p (Qa rfl rfl rfl Q2 (0) om om (Rw.some hs.1 om)) rfl (o_q (Qt _ rfl rfl Qaq rfl (Rw.rd hs.1 (i:=0) h00)) rfl (oAl (λb2 _=>?_) YS)))
 refine aU7 ?_
 refine Qi (L':=[(0,_),(1,_),(2,_),(3,_),(4,_),(5,_),(10,_),(11,_),(12,_),(13,_),(33,_)]) aSx (λ_ h=>h) ?_
 refine Q7 (α:=Unit) [10,11,14,34,35,36,37,38,39,40,41,42,43,44,45,46,47,48,49,50,51,52,53,54,55,56,57,58,59,60,61,62,63,64] (λ_=>[]) (λ_=>HS w (fps [.blk c7 3 1 [.int .i64 s]]) [.blk b2 87 3 (nth L 0).vals,.blk b1 87 3 (nth L v.i).vals,.blk c7 3 1 [.int .i64 s]]) (λ_=>YT (⟨(j:Int),mo,rm,pln L⟩:Tre) v=false) ?_ ?_
 ·skip
  refine sCd rfl (λh3=>?_) λh3=>?_
  ·refine aU7 ?_
   refine QJ 5 38 43 rfl
    (λhg4 _=>by
     refine aU7 ?_
     refine oCq rfl (λw1 h1=>c76 w1 (nth L 0).ca (nth L 0).cc (nth L 0).cs (v.i:Int) ((hs.cs h00).later h1) om) ?_
     exact oJt 5 43)
    (λhg6 _=>by
     refine aU4 ?_
     exact oJf 5 43) ?_
   refine aU3 ?_
   refine Q7 (α:=Unit) [44,45,46,47,48,49,50,51,52,53,54,55,56,57,58,59,60,61,62,63] (λ_=>[(63,.bool (decide (((nth L v.i).es.length:Int)<mo/2)||((decide (((nth L 0).es.length:Int)=0)&&decide ((v.i:Int)∈(nth L 0).cs))&&decide (((nth L v.i).es.length:Int)<=rm))))]) (λ_=>HS w (fps [.blk c7 3 1 [.int .i64 s]]) [.blk b2 87 3 (nth L 0).vals,.blk b1 87 3 (nth L v.i).vals,.blk c7 3 1 [.int .i64 s]]) (λ_=>True) ?_ ?_
   ·skip
    refine Qq [] mixed ?_
    refine dFa 0 ?_
    refine dLd 1 [] ?_
    refine dV 2 rfl (Qx rfl rfl Tryz.underlying85) (dQ 3 [] rfl (Qb rfl rfl YK (hc1)) (dQ 4 [] rfl (Qe rfl Qnl rfl (λw1 h1=>c190 w1 bt j mo rm a L.length cap hmo (ht.next h1))) (dP 5 ?_)))
    refine dP 6 ?_
    apply Xg 50
    ·exact rfl
    ·intro hg8
     have hs9:=hg8;try simp only[dT]at hs9
     refine dOf 7 50 hg8 ?_
     refine dOf 8 50 hg8 ?_
     refine dOu 9 52 ?_
     refine dOu 10 52 ?_
     refine dOu 11 52 ?_
     refine dOu 12 52 ?_
     refine dOu 13 52 ?_
     refine dOu 14 52 ?_
     refine dOu 15 52 ?_
     refine dOu 16 52 ?_
     refine dOu 17 52 ?_
     refine dOf 18 50 hg8 ?_
     refine dV 19 rfl (QZ rfl rfl hg8 rfl) (Qy (show _=Value.bool (decide (((nth L v.i).es.length:Int)<mo/2)||((decide (((nth L 0).es.length:Int)=0)&&decide ((v.i:Int)∈(nth L 0).cs))&&decide (((nth L v.i).es.length:Int)<=rm)))from by congr 1;first|(simp_all;done)|(simp_all;omega)) (dNi ?_))
     exact Qf () trivial aSx (λw h=>h.ent aEt)
    intro hg10
    have hs11:=hg10;try simp only[dN]at hs11
    refine dPo 7 50 hg10 ?_
    refine dPo 8 50 hg10 ?_
    apply Xg 52
    ·exact rfl
    ·intro hg12
     have hs13:=hg12;try simp only[Bool.and_eq_true,decide_eq_true_eq]at hs13
     refine dFo 9 52 hg12 ?_
     refine dQo 10 52 [] hg12 rfl rfl rfl (XY rfl rfl Qao aPk rfl) ?_
     refine dVo 11 52 hg12 rfl rfl rfl (Qx rfl rfl Tryz.underlying85) ?_
     refine dQo 12 52 [] hg12 rfl rfl rfl (Qb rfl rfl YK (hc1)) ?_
     refine dPo 13 52 hg12 ?_
     refine dFo 14 52 hg12 ?_
     refine dFo 15 52 hg12 ?_
     refine dQo 16 52 [] hg12 rfl rfl rfl (Qb rfl rfl Q3 (ht 2 _ rfl)) ?_
     refine dPo 17 52 hg12 ?_
     refine dVo 18 50 hg10 rfl rfl rfl (QZ rfl rfl hg12 rfl) ?_
     refine dV 19 rfl (QN rfl rfl hg10 rfl) (Qy (show _=Value.bool (decide (((nth L v.i).es.length:Int)<mo/2)||((decide (((nth L 0).es.length:Int)=0)&&decide ((v.i:Int)∈(nth L 0).cs))&&decide (((nth L v.i).es.length:Int)<=rm)))from by congr 1;first|(simp_all;done)|(simp_all;omega)) (dNi ?_))
     exact Qf () trivial aSx (λw h=>h.ent aEt)
    intro hg14
    have hs15:=hg14;try simp only[Bool.and_eq_false_iff,decide_eq_false_iff_not]at hs15
    refine dOf 9 52 hg14 ?_
    refine dOf 10 52 hg14 ?_
    refine dOf 11 52 hg14 ?_
    refine dOf 12 52 hg14 ?_
    refine dOf 13 52 hg14 ?_
    refine dOf 14 52 hg14 ?_
    refine dOf 15 52 hg14 ?_
    refine dOf 16 52 hg14 ?_
    refine dOf 17 52 hg14 ?_
    refine dVo 18 50 hg10 rfl rfl rfl (QN rfl rfl hg14 rfl) ?_
    refine dV 19 rfl (QN rfl rfl hg10 rfl) (Qy (show _=Value.bool (decide (((nth L v.i).es.length:Int)<mo/2)||((decide (((nth L 0).es.length:Int)=0)&&decide ((v.i:Int)∈(nth L 0).cs))&&decide (((nth L v.i).es.length:Int)<=rm)))from by congr 1;first|(simp_all;done)|(simp_all;omega)) (dNi ?_))
    exact Qf () trivial aSx (λw h=>h.ent aEt)
   intro _ _
   refine sCd rfl (λh16=>?_) λh16=>?_
   ·have hz:YT (⟨(j:Int),mo,rm,pln L⟩:Tre) v=true:=by rw[hG];have hq:=h16;simp only[Bool.and_eq_true,Bool.or_eq_true,decide_eq_true_eq];exact⟨om,hq⟩
    refine aU6 ?_
    exact Qg (rs:=[.tmp 10,.tmp 11]) rfl (.tmp rfl (.tmp rfl (.nil))) (λw' h'=>⟨(),by rw[hE];simp only[];rw[if_pos hz];rfl,trivial,by rw[hS,if_pos hz];exact h'.ent aEt⟩)
   refine aU ?_
   exact Qf () (by rw[hG,decide_eq_true om,Bool.true_and];apply Bool.eq_false_iff.2;intro h9;simp only[Bool.and_eq_true,Bool.or_eq_true,decide_eq_true_eq]at h9;have hq:=h16;simp at hq h9;grind) aSx (λw h=>h.ent aEt)
  refine aU ?_
  exact Qf () (by rw[hG,decide_eq_false om];rfl) aSx (λw h=>h.ent aEt)
 intro _ hz1
 refine aU9 ?_
 refine Qp (α:=Nat) [10,11,16,68,69,70,71,72,73,74,75,76,77,78,79,80,81,82,83,84,85,86,87,88,89,90,91,92,93,94,95,96,97,98,99,100,101,102,103,104,105,106,107] (λk=>[(68,.int .i64 (k:Int))]) (λ_=>HS w (fps [.blk c7 3 1 [.int .i64 s]]) [.blk b2 87 3 (nth L 0).vals,.blk b1 87 3 (nth L v.i).vals,.blk c7 3 1 [.int .i64 s]]) (λk=>k<=(nth L v.i).es.length/\∀i,i<k->YU (⟨(j:Int),mo,rm,pln L⟩:Tre) v (nth (nth L v.i).es i)=false) (λk=>(nth L v.i).es.length-k) 0 ⟨Nat.zero_le _,λi h=>absurd h (Nat.not_lt_zero i)⟩ aSx (λw h=>h.ent aEt) (λk hx=>?_)
 obtain⟨hk1,hk2⟩:=hx
 refine aU5 ?_
 refine sCd rfl (λh17=>?_) λh17=>?_
 ·have hkl:k<(nth L v.i).es.length:=by omega
  refine aU5 ?_
  refine o_p (Qa rfl rfl rfl Xi (k) om om (Rw.some (hs.es hi) om)) rfl (o_q (Qt _ rfl rfl YF rfl (Rw.rd (hs.es hi) (i:=k) hkl)) rfl (oAl (λb18 _=>?_) XB))
  refine aU3 ?_
  refine Q7 (α:=Unit) [72,73,74,75,76,77,78,79,80,81,82,83,84,85,86,87,88,89,90,91,92,93,94,95,96,97,98,99,100,101,102,103,104,105] (λ_=>[(105,.bool (YU (⟨(j:Int),mo,rm,pln L⟩:Tre) v (nth (nth L v.i).es k)))]) (λ_=>HS w (fps [.blk c7 3 1 [.int .i64 s]]) [.blk b2 87 3 (nth L 0).vals,.blk b1 87 3 (nth L v.i).vals,.blk c7 3 1 [.int .i64 s]]) (λ_=>True) ?_ ?_
  ·skip
   refine Qq [] mixed ?_
   refine dP 0 ?_
   refine dV 1 rfl (QdF rfl rfl rfl QfW) (dP 2 ?_)
   apply Xg 74
   ·exact rfl
   ·intro hg19
    have hs20:=hg19;skip
    refine dQo 3 74 [] hg19 rfl rfl rfl (Qb rfl rfl YK (hc1)) ?_
    obtain⟨k9,b9,o9,hlo9,rfl,hr9⟩:=hpl.of_some hg19
    refine dPo 4 74 hg19 ?_
    refine dFo 5 74 hg19 ?_
    refine dFo 6 74 hg19 ?_
    refine dQo 7 74 [] hg19 rfl rfl rfl (Qb rfl rfl QcO (ht 5 _ rfl)) ?_
    refine dPo 8 74 hg19 ?_
    refine dPo 9 74 hg19 ?_
    refine dQo 10 74 [] hg19 rfl rfl rfl (Qb rfl rfl X5 (hr9)) ?_
    refine dFo 11 74 hg19 ?_
    refine dQo 12 74 [] hg19 rfl rfl rfl (XY rfl rfl X5 aPk rfl) ?_
    refine dQo 13 74 [] hg19 rfl rfl rfl (XM rfl rfl (Qej _) rfl (λw1 h1=>ZH w1 j k9 (nth (nth L v.i).es k).key hj (hlo _ hlo9).1 (hok _ (QA hkl)).1 (hlo _ hlo9).2 (hok _ (QA hkl)).2)) ?_
    refine dPo 14 74 hg19 ?_
    refine dV 15 rfl (QZ rfl rfl hg19 rfl) (Qy (show _=Value.bool (v.lo.any λb=>decide (0<=QI (j:Int) b (nth (nth L v.i).es k).key))from by congr 1;first|(rw[hlo9];rfl)|(rw[hpl.of_none hg19];rfl)) (dP 16 ?_))
    apply Xg 88
    ·exact rfl
    ·intro hg21
     have hs22:=hg21;skip
     refine dOf 17 88 hg21 ?_
     refine dOf 18 88 hg21 ?_
     refine dOf 19 88 hg21 ?_
     refine dOu 20 91 ?_
     refine dOu 21 91 ?_
     refine dOu 22 91 ?_
     refine dOu 23 91 ?_
     refine dOu 24 91 ?_
     refine dOu 25 91 ?_
     refine dOu 26 91 ?_
     refine dOu 27 91 ?_
     refine dOu 28 91 ?_
     refine dOu 29 91 ?_
     refine dOu 30 91 ?_
     refine dOu 31 91 ?_
     refine dOf 32 88 hg21 ?_
     refine dV 33 rfl (QZ rfl rfl hg21 rfl) (Qy (show _=Value.bool (YU (⟨(j:Int),mo,rm,pln L⟩:Tre) v (nth (nth L v.i).es k))from by congr 1;show _=((v.lo.any λb=>decide (0<=QI (j:Int) b (nth (nth L v.i).es k).key))||(v.hi.any λb=>decide (0<=QI (j:Int) (nth (nth L v.i).es k).key b)));first|(rw[show(v.lo.any λb=>decide (0<=QI (j:Int) b (nth (nth L v.i).es k).key))=true by assumption];rfl)|(rw[show(v.lo.any λb=>decide (0<=QI (j:Int) b (nth (nth L v.i).es k).key))=false by assumption];rfl)) (dNi ?_))
     exact Qf () trivial aSx (λw h=>h.ent aEt)
    intro hg23
    have hs24:=hg23;skip
    refine dPo 17 88 hg23 ?_
    refine dVo 18 88 hg23 rfl rfl rfl (QdF rfl rfl rfl QfW) ?_
    refine dPo 19 88 hg23 ?_
    apply Xg 91
    ·exact rfl
    ·intro hg25
     have hs26:=hg25;skip
     refine dQo 20 91 [] hg25 rfl rfl rfl (Qb rfl rfl YK (hc1)) ?_
     obtain⟨k8,b8,o8,hhi8,rfl,hr8⟩:=hph.of_some hg25
     refine dPo 21 91 hg25 ?_
     refine dFo 22 91 hg25 ?_
     refine dFo 23 91 hg25 ?_
     refine dQo 24 91 [] hg25 rfl rfl rfl (Qb rfl rfl QcO (ht 5 _ rfl)) ?_
     refine dFo 25 91 hg25 ?_
     refine dQo 26 91 [] hg25 rfl rfl rfl (XY rfl rfl X5 aPk rfl) ?_
     refine dPo 27 91 hg25 ?_
     refine dPo 28 91 hg25 ?_
     refine dQo 29 91 [] hg25 rfl rfl rfl (Qb rfl rfl X5 (hr8)) ?_
     refine dQo 30 91 [] hg25 rfl rfl rfl (XM rfl rfl (Qej _) rfl (λw1 h1=>ZH w1 j (nth (nth L v.i).es k).key k8 hj (hok _ (QA hkl)).1 (hhi _ hhi8).1 (hok _ (QA hkl)).2 (hhi _ hhi8).2)) ?_
     refine dPo 31 91 hg25 ?_
     refine dVo 32 88 hg23 rfl rfl rfl (QZ rfl rfl hg25 rfl) ?_
     refine Qy (show _=Value.bool (v.hi.any λb=>decide (0<=QI (j:Int) (nth (nth L v.i).es k).key b))from by congr 1;first|(rw[hhi8];rfl)|(rw[hph.of_none hg25];rfl)) (dV 33 rfl (QN rfl rfl hg23 rfl) (Qy (show _=Value.bool (YU (⟨(j:Int),mo,rm,pln L⟩:Tre) v (nth (nth L v.i).es k))from by congr 1;show _=((v.lo.any λb=>decide (0<=QI (j:Int) b (nth (nth L v.i).es k).key))||(v.hi.any λb=>decide (0<=QI (j:Int) (nth (nth L v.i).es k).key b)));first|(rw[show(v.lo.any λb=>decide (0<=QI (j:Int) b (nth (nth L v.i).es k).key))=true by assumption];rfl)|(rw[show(v.lo.any λb=>decide (0<=QI (j:Int) b (nth (nth L v.i).es k).key))=false by assumption];rfl)) (dNi ?_)))
     exact Qf () trivial aSx (λw h=>h.ent aEt)
    intro hg27
    have hs28:=hg27;skip
    refine dOf 20 91 hg27 ?_
    refine dOf 21 91 hg27 ?_
    refine dOf 22 91 hg27 ?_
    refine dOf 23 91 hg27 ?_
    refine dOf 24 91 hg27 ?_
    refine dOf 25 91 hg27 ?_
    refine dOf 26 91 hg27 ?_
    refine dOf 27 91 hg27 ?_
    refine dOf 28 91 hg27 ?_
    refine dOf 29 91 hg27 ?_
    refine dOf 30 91 hg27 ?_
    refine dOf 31 91 hg27 ?_
    refine dVo 32 88 hg23 rfl rfl rfl (QN rfl rfl hg27 rfl) ?_
    refine Qy (show _=Value.bool (v.hi.any λb=>decide (0<=QI (j:Int) (nth (nth L v.i).es k).key b))from by congr 1;first|(rw[hhi8];rfl)|(rw[hph.of_none hg27];rfl)) (dV 33 rfl (QN rfl rfl hg23 rfl) (Qy (show _=Value.bool (YU (⟨(j:Int),mo,rm,pln L⟩:Tre) v (nth (nth L v.i).es k))from by congr 1;show _=((v.lo.any λb=>decide (0<=QI (j:Int) b (nth (nth L v.i).es k).key))||(v.hi.any λb=>decide (0<=QI (j:Int) (nth (nth L v.i).es k).key b)));first|(rw[show(v.lo.any λb=>decide (0<=QI (j:Int) b (nth (nth L v.i).es k).key))=true by assumption];rfl)|(rw[show(v.lo.any λb=>decide (0<=QI (j:Int) b (nth (nth L v.i).es k).key))=false by assumption];rfl)) (dNi ?_)))
    exact Qf () trivial aSx (λw h=>h.ent aEt)
   intro hg29
   have hs30:=hg29;skip
   refine dOf 3 74 hg29 ?_
   refine dOf 4 74 hg29 ?_
   refine dOf 5 74 hg29 ?_
   refine dOf 6 74 hg29 ?_
   refine dOf 7 74 hg29 ?_
   refine dOf 8 74 hg29 ?_
   refine dOf 9 74 hg29 ?_
   refine dOf 10 74 hg29 ?_
   refine dOf 11 74 hg29 ?_
   refine dOf 12 74 hg29 ?_
   refine dOf 13 74 hg29 ?_
   refine dOf 14 74 hg29 ?_
   refine dV 15 rfl (QN rfl rfl hg29 rfl) (Qy (show _=Value.bool (v.lo.any λb=>decide (0<=QI (j:Int) b (nth (nth L v.i).es k).key))from by congr 1;first|(rw[hlo9];rfl)|(rw[hpl.of_none hg29];rfl)) (dP 16 ?_))
   apply Xg 88
   ·exact rfl
   ·intro hg31
    have hs32:=hg31;skip
    refine dOf 17 88 hg31 ?_
    refine dOf 18 88 hg31 ?_
    refine dOf 19 88 hg31 ?_
    refine dOu 20 91 ?_
    refine dOu 21 91 ?_
    refine dOu 22 91 ?_
    refine dOu 23 91 ?_
    refine dOu 24 91 ?_
    refine dOu 25 91 ?_
    refine dOu 26 91 ?_
    refine dOu 27 91 ?_
    refine dOu 28 91 ?_
    refine dOu 29 91 ?_
    refine dOu 30 91 ?_
    refine dOu 31 91 ?_
    refine dOf 32 88 hg31 ?_
    refine dV 33 rfl (QZ rfl rfl hg31 rfl) (Qy (show _=Value.bool (YU (⟨(j:Int),mo,rm,pln L⟩:Tre) v (nth (nth L v.i).es k))from by congr 1;show _=((v.lo.any λb=>decide (0<=QI (j:Int) b (nth (nth L v.i).es k).key))||(v.hi.any λb=>decide (0<=QI (j:Int) (nth (nth L v.i).es k).key b)));first|(rw[show(v.lo.any λb=>decide (0<=QI (j:Int) b (nth (nth L v.i).es k).key))=true by assumption];rfl)|(rw[show(v.lo.any λb=>decide (0<=QI (j:Int) b (nth (nth L v.i).es k).key))=false by assumption];rfl)) (dNi ?_))
    exact Qf () trivial aSx (λw h=>h.ent aEt)
   intro hg33
   have hs34:=hg33;skip
   refine dPo 17 88 hg33 ?_
   refine dVo 18 88 hg33 rfl rfl rfl (QdF rfl rfl rfl QfW) ?_
   refine dPo 19 88 hg33 ?_
   apply Xg 91
   ·exact rfl
   ·intro hg35
    have hs36:=hg35;skip
    refine dQo 20 91 [] hg35 rfl rfl rfl (Qb rfl rfl YK (hc1)) ?_
    obtain⟨k8,b8,o8,hhi8,rfl,hr8⟩:=hph.of_some hg35
    refine dPo 21 91 hg35 ?_
    refine dFo 22 91 hg35 ?_
    refine dFo 23 91 hg35 ?_
    refine dQo 24 91 [] hg35 rfl rfl rfl (Qb rfl rfl QcO (ht 5 _ rfl)) ?_
    refine dFo 25 91 hg35 ?_
    refine dQo 26 91 [] hg35 rfl rfl rfl (XY rfl rfl X5 aPk rfl) ?_
    refine dPo 27 91 hg35 ?_
    refine dPo 28 91 hg35 ?_
    refine dQo 29 91 [] hg35 rfl rfl rfl (Qb rfl rfl X5 (hr8)) ?_
    refine dQo 30 91 [] hg35 rfl rfl rfl (XM rfl rfl (Qej _) rfl (λw1 h1=>ZH w1 j (nth (nth L v.i).es k).key k8 hj (hok _ (QA hkl)).1 (hhi _ hhi8).1 (hok _ (QA hkl)).2 (hhi _ hhi8).2)) ?_
    refine dPo 31 91 hg35 ?_
    refine dVo 32 88 hg33 rfl rfl rfl (QZ rfl rfl hg35 rfl) ?_
    refine Qy (show _=Value.bool (v.hi.any λb=>decide (0<=QI (j:Int) (nth (nth L v.i).es k).key b))from by congr 1;first|(rw[hhi8];rfl)|(rw[hph.of_none hg35];rfl)) (dV 33 rfl (QN rfl rfl hg33 rfl) (Qy (show _=Value.bool (YU (⟨(j:Int),mo,rm,pln L⟩:Tre) v (nth (nth L v.i).es k))from by congr 1;show _=((v.lo.any λb=>decide (0<=QI (j:Int) b (nth (nth L v.i).es k).key))||(v.hi.any λb=>decide (0<=QI (j:Int) (nth (nth L v.i).es k).key b)));first|(rw[show(v.lo.any λb=>decide (0<=QI (j:Int) b (nth (nth L v.i).es k).key))=true by assumption];rfl)|(rw[show(v.lo.any λb=>decide (0<=QI (j:Int) b (nth (nth L v.i).es k).key))=false by assumption];rfl)) (dNi ?_)))
    exact Qf () trivial aSx (λw h=>h.ent aEt)
   intro hg37
   have hs38:=hg37;skip
   refine dOf 20 91 hg37 ?_
   refine dOf 21 91 hg37 ?_
   refine dOf 22 91 hg37 ?_
   refine dOf 23 91 hg37 ?_
   refine dOf 24 91 hg37 ?_
   refine dOf 25 91 hg37 ?_
   refine dOf 26 91 hg37 ?_
   refine dOf 27 91 hg37 ?_
   refine dOf 28 91 hg37 ?_
   refine dOf 29 91 hg37 ?_
   refine dOf 30 91 hg37 ?_
   refine dOf 31 91 hg37 ?_
   refine dVo 32 88 hg33 rfl rfl rfl (QN rfl rfl hg37 rfl) ?_
   refine Qy (show _=Value.bool (v.hi.any λb=>decide (0<=QI (j:Int) (nth (nth L v.i).es k).key b))from by congr 1;first|(rw[hhi8];rfl)|(rw[hph.of_none hg37];rfl)) (dV 33 rfl (QN rfl rfl hg33 rfl) (Qy (show _=Value.bool (YU (⟨(j:Int),mo,rm,pln L⟩:Tre) v (nth (nth L v.i).es k))from by congr 1;show _=((v.lo.any λb=>decide (0<=QI (j:Int) b (nth (nth L v.i).es k).key))||(v.hi.any λb=>decide (0<=QI (j:Int) (nth (nth L v.i).es k).key b)));first|(rw[show(v.lo.any λb=>decide (0<=QI (j:Int) b (nth (nth L v.i).es k).key))=true by assumption];rfl)|(rw[show(v.lo.any λb=>decide (0<=QI (j:Int) b (nth (nth L v.i).es k).key))=false by assumption];rfl)) (dNi ?_)))
   exact Qf () trivial aSx (λw h=>h.ent aEt)
  intro _ _
  refine sCd rfl (λh39=>?_) λh39=>?_
  ·have hz2:YE (⟨(j:Int),mo,rm,pln L⟩:Tre) v=true:=by rw[hO,List.any_eq_true];exact⟨_,QA hkl,h39⟩
   refine aU6 ?_
   exact Qg (rs:=[.tmp 10,.tmp 11]) rfl (.tmp rfl (.tmp rfl (.nil))) (λw' h'=>⟨(),by rw[hE];simp only[];rw[if_neg (by rw[hz1];decide),if_pos hz2];rfl,trivial,by rw[hS,if_neg (by rw[hz1];decide),if_pos hz2];exact h'.ent aEt⟩)
  refine aT4 ?_
  refine aU2 ?_
  exact sBk (k+1) om ⟨om,λi hi9=>(Nat.lt_or_ge i k).elim (hk2 i) (λh=>by obtain rfl:i=k:=om;have hq:=h39;simpa using hq)⟩
 obtain rfl:k=(nth L v.i).es.length:=om
 have hz2:YE (⟨(j:Int),mo,rm,pln L⟩:Tre) v=false:=by rw[hO,List.any_eq_false];intro x hx;obtain⟨i9,hi9,e9⟩:=List.getElem_of_mem hx;have e8:nth (nth L v.i).es i9=x:=Xr (by rw[List.getElem?_eq_getElem hi9,e9]);rw[<-e8,hk2 i9 hi9];decide
 refine Qk rfl ?_
 refine aU8 ?_
 refine sCd rfl (λh40=>?_) λh40=>?_
 ·have hc9:(nth L v.i).cs.length=0:=by have hq:=h40;omega
  have hEv:erV (⟨(j:Int),mo,rm,pln L⟩:Tre) s v=((v.i:Int),if(if s=0 then v.d else s)=v.d then 0 else 22):=by rw[hE,if_neg (by rw[hz1];decide),if_neg (by rw[hz2];decide),if_pos hc9]
  refine aU6 ?_
  refine Q7 (α:=Unit) [114] (λ_=>[]) (λ_=>HS w (fps [.blk c7 3 1 [.int .i64 s]]) [.blk b2 87 3 (nth L 0).vals,.blk b1 87 3 (nth L v.i).vals,.blk c7 3 1 [.int .i64 (if s=0 then v.d else s)]]) (λ_=>True) ?_ ?_
  ·skip
   refine sCd rfl (λh41=>?_) λh41=>?_
   ·refine aU4 ?_
    exact Qf () trivial aSx (λw h=>by rw[if_pos h41];exact h.ent aEt)
   refine aU ?_
   exact Qf () trivial aSx (λw h=>by rw[if_neg h41];exact h.ent aEt)
  intro _ _
  refine aU6 ?_
  refine oCq rfl (λw1 h1=>Qcs w1 _ _) (aU3 ?_)
  exact Qg (rs:=[.tmp 10,.tmp 11]) rfl (.tmp rfl (.tmp rfl (.nil))) (λw' h'=>⟨(),by rw[hEv];simp only[Qw,cond_eq_ite,decide_eq_true_eq],trivial,by rw[hS,if_neg (by rw[hz1];decide),if_neg (by rw[hz2];decide),if_pos hc9];exact h'.ent aEt⟩)
 have hc9:¬(nth L v.i).cs.length=0:=by have hq:=h40;omega
 refine aU7 ?_
 exact Qg (rs:=[.tmp 10,.tmp 11]) rfl (.tmp rfl (.tmp rfl (.nil))) (λw' h'=>⟨(),by rw[hE];simp only[];rw[if_neg (by rw[hz1];decide),if_neg (by rw[hz2];decide),if_neg hc9];rfl,trivial,by rw[hS,if_neg (by rw[hz1];decide),if_neg (by rw[hz2];decide),if_neg hc9];exact h'.ent aEt⟩)
theorem Qm2:Q8 Tryz.prog 4=some [.bool false]:=by kernel_rfl
theorem Qoq:Q8 Tryz.prog 60=some [.slice none 0 0]:=by kernel_rfl
theorem c136(w:World)(bt:Nat)(j:Nat)(mo rm:Int)(a:Option Addr)(cap:Nat)(L:List LNd)(ht:TbR w [] bt (j:Int) mo rm a L.length cap)(hs:Nt w [] a L)(hj:j<=3)(hmo:0<=mo/\mo<=1000)(h0:0<L.length)(hB:Bd (pln L))(hT:TOk (j:Int) (pln L)):CR 136 #[.pointer (some ⟨bt,0,none⟩)] w (.tuple #[.int .i64 (Qak (⟨(j:Int),mo,rm,pln L⟩:Tre)).1,.int .i64 (Qak (⟨(j:Int),mo,rm,pln L⟩:Tre)).2]):=by
 have hle:=hB.len
 rw[Qd]at hle
 have hvis:vis (pln L) L.length Zh=XX (pln L):=by unfold XX;rw[Qd]
 have hmar:=Qir (XX (pln L)) (List.replicate L.length false)
 rw[List.length_replicate]at hmar
 have hbel:∀i,i<L.length->(Xc QeK (λ_ _=>(0,0)) (List.replicate L.length false) (XX (pln L))).2.getD i false=decide (i∈(XX (pln L)).map Vis.i):=λi hi=>by rw[hmar.2.2 i hi,show(List.replicate L.length false).getD i false=false from by rw[List.getD_eq_getElem?_getD,List.getElem?_replicate];split<;>rfl,Bool.false_or]
 have hes9:∀i,i<L.length->(nth L i).es.length<=1000:=λi hi=>by have h9:=hB.es i (by rw[Qd];exact hi);rw[QB hi]at h9;exact h9
 have hcs9:∀i,i<L.length->(nth L i).cs.length<=1000:=λi hi=>by have h9:=hB.cs i (by rw[Qd];exact hi);rw[QB hi]at h9;exact h9
 have hok9:∀i,i<L.length->∀x∈(nth L i).es,QE (j:Int) x.key=true/\x.key.length<=1000000:=λi hi=>by have h9:=Qb3 hT (i:=i) (by rw[Qd];exact hi);rw[QB hi]at h9;exact h9
 refine eN1 Tryz.func136 Tryz.ntmps136 ?_
 refine aU2 ?_
 refine oBx λb1 _=>?_
 refine aU9 ?_
 refine o_q (Qb rfl rfl Za (ht 3 _ rfl)) rfl (aU ?_)
 refine o_h (Qhy (n:=L.length) rfl rfl rfl QbY Qm2 om om) rfl (λb2 _=>Yf (λw h=>(show HS _ _ [.blk b2 4 L.length ((List.replicate L.length false).map Value.bool),.blk b1 147 1 [.pointer (some ⟨bt,0,none⟩)]] w from by have h9:=h;rw[Nat.mul_one,QgZ,<-List.map_replicate]at h9;exact h9.ent aEt)) (oAl (λb3 _=>?_) Qoq))
 refine aU6 ?_
 refine o_h (Q1 (Cs:=[.blk b2 4 L.length ((List.replicate L.length false).map Value.bool)]) rfl Qhs rfl aPs (λw1 h1 hf=>by have h9:=QhA (List Bool) (λs=>s.length=L.length) (λs=>.blk b2 4 L.length (s.map Value.bool)) QeK (λ_ _=>(0,0)) 188 #[.pointer (some ⟨b3,0,none⟩)] bt j mo rm a cap L L.length w1 (List.replicate L.length false) Zh none none [] hf (by kernel_rfl) (λ_ _=>rfl) (λs v h=>by simpa[QeK]using h) (by simp) (λs2 v2 p2 p3 w2 h2 hs2 hi2 _ _ _ _=>c188 w2 v2.i v2.d p2 p3 b3 b2 L.length s2 (HS.focus (Cs:=[_]) (Ds:=[]) h2) (h2.keep (h1.rd_blkF aPs (b:=b3) aPk rfl)) hi2 hs2) ((ht.keep h1).mono (QS aPs)) ((hs.keep h1).mono (QS aPs)) hT hB rfl rfl h0 rfl (by simp) rfl (λ_ h=>by cases h) (λ_ h=>by cases h);rw[hvis]at h9;exact h9)) rfl (λ_ _=>aU3 ?_)
 refine Yf (λw h=>(show HS _ _ [.blk b2 4 L.length ((Xc QeK (λ_ _=>(0,0)) (List.replicate L.length false) (XX (pln L))).2.map Value.bool),.blk b3 60 1 [.slice (some ⟨b2,0,none⟩) L.length L.length],.blk b1 147 1 [.pointer (some ⟨bt,0,none⟩)]] w from h.ent aEt)) (aU8 ?_)
 refine o_q (Qb rfl rfl Za (ht 3 _ rfl)) rfl (aU4 ?_)
 refine Qi (L':=[(1,_),(2,_),(3,_),(4,_),(25,_),(26,_),(27,_)]) aSx (λ_ h=>h) ?_
 refine Qp (α:=Nat) [2,3,5,6,27,28,29,30,31,32,33,34,35,36,37,38,39,40,41,42] (λk=>[(27,.int .i64 (k:Int))]) (λ_=>HS w [] [.blk b2 4 L.length ((Xc QeK (λ_ _=>(0,0)) (List.replicate L.length false) (XX (pln L))).2.map Value.bool),.blk b3 60 1 [.slice (some ⟨b2,0,none⟩) L.length L.length],.blk b1 147 1 [.pointer (some ⟨bt,0,none⟩)]]) (λk=>k<=L.length/\Zq (pln L) ((XX (pln L)).map Vis.i) L.length 0=Zq (pln L) ((XX (pln L)).map Vis.i) (L.length-k) k) (λk=>L.length-k) 0 ⟨Nat.zero_le _,rfl⟩ aSx (λw h=>h.ent aEt) (λk hx=>?_)
 obtain⟨hk1,hk2⟩:=hx
 refine aU5 ?_
 refine sCd rfl (λh4=>?_) λh4=>?_
 ·have hkl:k<L.length:=by omega
  have hst:=QeY (ns:=pln L) (below:=(XX (pln L)).map Vis.i) (k:=k) (by rw[Qd];exact hkl)
  rw[Qd,QB hkl]at hst
  refine aU6 ?_
  refine o_p (Qa rfl rfl rfl Q2 (k) om om (Rw.some hs.1 om)) rfl (o_q (Qt _ rfl rfl Qaq rfl (Rw.rd hs.1 hkl)) rfl (oAl (λb5 _=>?_) YS))
  refine aU8 ?_
  refine QJ 6 34 40 rfl
   (λhg6 _=>by
    refine aU5 ?_
    refine o_p (Qa rfl rfl rfl QbY (k) om om rfl) rfl (aU ?_)
    refine o_q (Qv rfl rfl QeN (λw h=>by rw[Nat.zero_add,Nat.mul_one];exact h.rd_blk (Mc:=[]) (b:=b2) aPk (Qkp (by rw[hmar.2.1];exact hkl)) (by simp))) rfl (aU2 ?_)
    exact oJt 6 40)
   (λhg8 _=>by
    refine aU5 ?_
    exact oJf 6 40) ?_
  refine aU ?_
  refine sCd rfl (λh10=>?_) λh10=>?_
  ·have hz:(nth L k).pl.us=true/\k ∉ (XX (pln L)).map Vis.i:=by have hq:=h10;rw[hbel k hkl]at hq;simp only[LNd.pl];simpa using hq
   refine aU6 ?_
   exact Qg (rs:=[.tmp 2,.tmp 3]) rfl (.tmp rfl (.tmp rfl (.nil))) (λw' h'=>⟨by rw[QbO (t:=(⟨(j:Int),mo,rm,pln L⟩:Tre)) (i:=k) (show Zq (pln L) _ (pln L).length 0=some k from by rw[Qd,hk2,hst,if_pos hz])];rfl,h'.below⟩)
  have hz:¬((nth L k).pl.us=true/\k ∉ (XX (pln L)).map Vis.i):=by have hq:=h10;rw[hbel k hkl]at hq;simp only[LNd.pl];intro h9;simp at hq h9;grind
  refine aT4 ?_
  refine aU2 ?_
  exact sBk (k+1) om ⟨om,by rw[hk2,hst,if_neg hz]⟩
 have hnone:Zq (pln L) ((XX (pln L)).map Vis.i) L.length 0=none:=by rw[hk2,show L.length-k=0 by omega];rfl
 refine Qk rfl ?_
 refine aU2 ?_
 refine oAl (λb11 _=>?_) YX
 refine aU6 ?_
 refine o_h (Q1 (Cs:=[.blk b11 3 1 [.int .i64 0]]) rfl Qhs rfl aPs (λw1 h1 hf=>by have h9:=QhA Int (λ_=>True) (λs=>.blk b11 3 1 [.int .i64 s]) (stV (⟨(j:Int),mo,rm,pln L⟩:Tre)) (erV (⟨(j:Int),mo,rm,pln L⟩:Tre)) 189 #[.pointer (some ⟨b1,0,none⟩),.pointer (some ⟨b11,0,none⟩)] bt j mo rm a cap L L.length w1 0 Zh none none [] hf (by kernel_rfl) (λ_ _=>rfl) (λ_ _ _=>trivial) trivial (λs2 v2 p2 p3 w2 h2 _ hi2 ha2 hb2 hp2 hp3=>c189 w2 v2 p2 p3 b1 b11 s2 bt j mo rm a cap L (HS.focus (Cs:=[_]) (Ds:=[]) h2) (h2.keep (h1.rd_blkF aPs (b:=b1) aPk rfl)) (((ht.keep h1).mono (QS aPs)).keep h2) (((hs.keep h1).mono (QS aPs)).keep h2) hj hmo hi2 hle (hes9 _ hi2) (hcs9 _ hi2) (hcs9 _ h0) (hes9 _ h0) hp2 hp3 ha2 hb2 (hok9 _ hi2)) ((ht.keep h1).mono (QS aPs)) ((hs.keep h1).mono (QS aPs)) hT hB rfl rfl h0 rfl (by simp) rfl (λ_ h=>by cases h) (λ_ h=>by cases h);rw[hvis,Gx.run_shape (t:=(⟨(j:Int),mo,rm,pln L⟩:Tre)) hT (by show 0<(pln L).length;rw[Qd];exact h0)]at h9;exact h9)) rfl (λ_ _=>aU5 ?_)
 exact Qg (rs:=[.tmp 2,.tmp 3]) rfl (.tmp rfl (.tmp rfl (.nil))) (λw' h'=>⟨by rw[QbQ (t:=(⟨(j:Int),mo,rm,pln L⟩:Tre)) (show Zq (pln L) _ (pln L).length 0=none from by rw[Qd];exact hnone)];rfl,h'.below⟩)
theorem QkQ:Yh Tryz.prog 167=some [(0,4),(4,2)]:=by kernel_rfl
theorem Qjt:Q8 Tryz.prog 167=some [.int .i64 0,.int .i64 0,.int .i64 0,.slice none 0 0,.nilFunc,.nilFunc]:=by kernel_rfl
theorem Qna:QC Tryz.prog 135=true:=by kernel_rfl
instance:TFn Tryz.prog 136:=⟨by kernel_rfl⟩
instance:TFn Tryz.prog 195:=⟨by kernel_rfl⟩
theorem Qnd:QC Tryz.prog 196=true:=by kernel_rfl
theorem QnX:QC Tryz.prog 197=true:=by kernel_rfl
theorem c81(w:World)(co mo rm:Int)(a:Option Addr)(cap:Nat)(L:List LNd)(hs:Nt w [] a L)(hB:Bd (pln L))(hkl:∀i,i<L.length->∀x∈(nth L i).es,x.key.length<=1000000):CR 81 #[.agg #[.int .i64 co,.int .i64 mo,.int .i64 rm,.slice a L.length cap]] w (.tuple #[.int .i64 (Ql (⟨co,mo,rm,pln L⟩:Tre)).1,.int .i64 (Ql (⟨co,mo,rm,pln L⟩:Tre)).2]):=by
 have hle:=hB.len
 rw[Qd]at hle
 have hes9:∀i,i<L.length->(nth L i).es.length<=1000:=λi hi=>by have h9:=hB.es i (by rw[Qd];exact hi);rw[QB hi]at h9;exact h9
 have hcs9:∀i,i<L.length->(nth L i).cs.length<=1000:=λi hi=>by have h9:=hB.cs i (by rw[Qd];exact hi);rw[QB hi]at h9;exact h9
 refine eN1 Tryz.func81 Tryz.ntmps81 ?_
 refine aU2 ?_
 refine oBx λb1 _=>?_
 refine Zr ?_
 refine oCq rfl (λw1 h1=>c131 w1 _ _ _) (aU7 ?_)
 refine sCd rfl (λh2=>?_) λh2=>?_
 ·have hz:=Qbc (t:=(⟨co,mo,rm,pln L⟩:Tre)) h2
  refine aU6 ?_
  exact Qg (rs:=[.tmp 2,.tmp 3]) rfl (.tmp rfl (.tmp rfl (.nil))) (λw' h'=>⟨by rw[hz];rfl,h'.below⟩)
 have hc0:(if QL co=0 then Yy mo rm else QL co)=0:=h2
 obtain⟨hco,hsz⟩:=QfA (t:=(⟨co,mo,rm,pln L⟩:Tre)) hc0
 obtain⟨j,rfl,hj⟩:=Qa1 hco
 have hsz2:(3<=mo/\mo<=8)/\(mo/2<=rm/\rm<=mo):=Qab hsz
 refine aU3 ?_
 refine Qq [] mixed ?_
 refine dFa 0 ?_
 refine dLd 1 [] ?_
 refine dV 2 rfl (Qx rfl rfl Tryz.underlying22) (dP 3 ?_)
 refine dQ 4 [] rfl (Qe rfl Z8 rfl (λw1 h1=>Qcs w1 _ _)) (dFa 5 ?_)
 refine dLd 6 [] ?_
 refine dV 7 rfl (Qx rfl rfl Tryz.underlying22) (dP 8 ?_)
 refine dQ 9 [] rfl (Qe rfl Z8 rfl (λw1 h1=>Qcs w1 _ _)) (dH 10 rfl (Qc (cs:=[_,_]) rfl rfl Q6 Xx rfl rfl rfl) (λb3 _=>dBa ?_))
 refine dQ 11 [] rfl (Qe rfl QdW rfl (λw1 h1=>QjC h1 aPk (by rfl) (by rfl) (by decide))) ?_
 refine Qy (show _=Value.int .i64 (Yz L.length)from by congr 1;rw[Qag];unfold Yz;simp only[cond_eq_ite,decide_eq_true_eq];first|(split<;>(try split)<;>(try split)<;>(try split)<;>first|rfl|omega)) (dP 12 ?_)
 refine dNi ?_
 refine aU5 ?_
 refine sCd rfl (λh4=>?_) λh4=>?_
 ·have hz:=QbX (t:=(⟨(j:Int),mo,rm,pln L⟩:Tre)) hc0 (by rw[show((⟨(j:Int),mo,rm,pln L⟩:Tre)).ns.length=L.length from Qd L];exact h4)
  rw[show((⟨(j:Int),mo,rm,pln L⟩:Tre)).ns.length=L.length from Qd L]at hz
  refine aU6 ?_
  exact Qg (rs:=[.tmp 2,.tmp 3]) rfl (.tmp rfl (.tmp rfl (.nil))) (λw' h'=>⟨by rw[hz];rfl,h'.below⟩)
 have hc1:Yz L.length=0:=h4
 have hz:=QcB (t:=(⟨(j:Int),mo,rm,pln L⟩:Tre)) hc0 (by rw[show((⟨(j:Int),mo,rm,pln L⟩:Tre)).ns.length=L.length from Qd L];exact hc1)
 rw[show((⟨(j:Int),mo,rm,pln L⟩:Tre)).ns.length=L.length from Qd L]at hz
 obtain⟨h00,h120⟩:=Qhk hc1
 refine aU2 ?_
 refine Qi (L':=[(1,_),(2,_),(3,_)]) aSx (λ_ h=>h) ?_
 refine Q7 (α:=Nat×Nat) [6,7,37,38,39,40,41,42,43,44] (λx=>[(6,.pointer (some ⟨x.1,0,none⟩)),(7,.map (some x.2))]) (λx=>HS w [] [.blk b1 24 4 [.int .i64 (j:Int),.int .i64 mo,.int .i64 rm,.slice a L.length cap],.blk x.1 167 6 (tbV (j:Int) mo rm a L.length cap),.mp x.2 KI []]) (λ_=>True) ?_ ?_
 ·skip
  refine Qq [] mixed ?_
  refine dLn 0 [] ?_
  refine dQ 1 [] rfl (Qe rfl Qhw rfl (λw1 h1=>Qnk w1)) (dFa 2 ?_)
  refine dLd 3 [] ?_
  refine dV 4 rfl (Qd5 rfl rfl rfl QfD Qfn j rfl om) (Qy (QeA j hj) (dV 5 rfl (Qs (cs:=[_,_,_,_,_,_]) rfl rfl QkQ Qjt rfl) (QeC 6 7 rfl rfl (QhK rfl rfl) (QcH rfl KI) (by kernel_rfl) (λw h=>h.ent aEt) rfl rfl (λb5 _=>?_) (λb6 _=>?_))))
  ·skip
   refine dBa ?_
   refine dP 8 ?_
   refine dH 7 rfl (QcH rfl KI) (λb7 _=>dBa ?_)
   refine dP 9 ?_
   refine dNi ?_
   exact Qf (b5,b7) trivial aSx (λw h=>h.ent aEt)
  skip
  refine dBa ?_
  refine dH 6 rfl (QhK rfl rfl) (λb8 _=>dBa ?_)
  refine dP 8 ?_
  refine dP 9 ?_
  refine dNi ?_
  exact Qf (b8,b6) trivial aSx (λw h=>h.ent aEt)
 intro⟨bt,r⟩ _
 refine aU9 ?_
 refine Qp (α:=Nat×List Int×List Int) [2,3,8,9,48,49,50,51,52,53,54,55,56,57,58,59] (λx=>[(48,.int .i64 (x.1:Int))]) (λx=>HS w [] [.blk b1 24 4 [.int .i64 (j:Int),.int .i64 mo,.int .i64 rm,.slice a L.length cap],.blk bt 167 6 (tbV (j:Int) mo rm a L.length cap),.mp r KI x.2.1]) (λx=>x.1<=L.length/\(∀y,y∈x.2.1 ↔ y∈x.2.2)/\(Xw (⟨(j:Int),mo,rm,pln L⟩:Tre) L.length 0 [])=Xw (⟨(j:Int),mo,rm,pln L⟩:Tre) (L.length-x.1) x.1 x.2.2) (λx=>L.length-x.1) (0,[],[]) ⟨Nat.zero_le _,λ_=>Iff.rfl,rfl⟩ aSx (λw h=>h.ent aEt) (λ⟨k,K,S9⟩hx=>?_)
 dsimp only
 obtain⟨hk1,hk2,hk3⟩:=hx
 simp only[]at hk1 hk2 hk3
 refine aU5 ?_
 refine sCd rfl (λh9=>?_) λh9=>?_
 ·have hkl9:k<L.length:=by omega
  have hst:=Qds (t:=(⟨(j:Int),mo,rm,pln L⟩:Tre)) (k:=k) (seen:=S9) (by rw[show((⟨(j:Int),mo,rm,pln L⟩:Tre)).ns.length=L.length from Qd L];exact hkl9)
  rw[show((⟨(j:Int),mo,rm,pln L⟩:Tre)).ns.length=L.length from Qd L]at hst
  refine Qb9 ?_
  refine o_h (Q1 (Cs:=[.mp r KI K]) rfl Qna rfl aPs (λw1 h1 hf=>c135 w1 k r K S9 bt j mo rm a cap L hf hk2 (λk9 v9 hv9=>h1.rd_blkF aPs (b:=bt) aPk hv9) ((hs.keep h1).mono (QS aPs)) hle hj hkl9 (hes9 _ hkl9) (hcs9 _ hkl9) (hkl _ hkl9))) rfl (λb10 hkG=>aU7 ?_)
  refine sCd rfl (λh11=>?_) λh11=>?_
  ·have hz3:(Xw (⟨(j:Int),mo,rm,pln L⟩:Tre) L.length 0 [])=((k:Int),(Xp (⟨(j:Int),mo,rm,pln L⟩:Tre) k S9).1):=by rw[hk3,hst,if_neg h11]
   rw[hz3,if_neg (show¬(((k:Int),(Xp (⟨(j:Int),mo,rm,pln L⟩:Tre) k S9).1):Int×Int).2=0 from h11)]at hz
   refine aU7 ?_
   exact Qg (rs:=[.tmp 2,.tmp 3]) rfl (.tmp rfl (.tmp rfl (.nil))) (λw' h'=>⟨by rw[hz];rfl,h'.below⟩)
  have hz3:Xw (⟨(j:Int),mo,rm,pln L⟩:Tre) (L.length-k) k S9=Xw (⟨(j:Int),mo,rm,pln L⟩:Tre) (L.length-(k+1)) (k+1) (Xp (⟨(j:Int),mo,rm,pln L⟩:Tre) k S9).2:=by rw[hst,if_pos h11]
  refine aT4 ?_
  refine aU2 ?_
  exact sBk (k+1,b10,(Xp (⟨(j:Int),mo,rm,pln L⟩:Tre) k S9).2) (by(try simp only[]);omega) ⟨by(try simp only[]);omega,hkG,by simp only[];rw[hk3,hz3]⟩
 have hnd:(Xw (⟨(j:Int),mo,rm,pln L⟩:Tre) L.length 0 [])=(0,0):=by rw[hk3,show L.length-k=0 by omega];rfl
 rw[hnd,if_pos rfl]at hz
 have hT:TOk (j:Int) (pln L):=Z2 (t:=(⟨(j:Int),mo,rm,pln L⟩:Tre)) (by show(Xw (⟨(j:Int),mo,rm,pln L⟩:Tre) (pln L).length 0 []).2=0;rw[Qd,hnd])
 refine Qk rfl ?_
 refine aU3 ?_
 refine oCq rfl (λw1 h1=>c136 w1 bt j mo rm a cap L (HS.tbr h1 aPk) (hs.later h1) hj om h00 hB hT) (Zr ?_)
 refine Q7 (α:=Unit) [10] (λ_=>[(10,.int .i64 (Ql (⟨(j:Int),mo,rm,pln L⟩:Tre)).1)]) (λ_=>HS w [] []) (λ_=>True) ?_ ?_
 ·skip
  refine sCd rfl (λh12=>?_) λh12=>?_
  ·refine aU3 ?_
   exact Qf () trivial (by rw[hz,Qio h12];exact aSx) (λw h=>h.ent aEt)
  refine aU ?_
  exact Qf () trivial (by rw[hz];exact aSx) (λw h=>h.ent aEt)
 intro _ _
 refine aU7 ?_
 exact Qg (rs:=[.tmp 2,.tmp 3]) rfl (.tmp rfl (.tmp rfl (.nil))) (λw' h'=>⟨by simp only[Qw];rw[hz],h'.below⟩)
theorem c195(w:World)(a:Option Addr)(cap:Nat)(l:List LNd)(hs:Rw LNd.vals 3 w [] a l)(hm:l.length<=1000000):CE 195 #[.slice a l.length cap] w [] (λg:Option Addr×Nat=>.slice g.1 l.length g.2) (λg=>True) λg=>[.own (.slice g.1 l.length g.2) 87 3 l.length (l.flatMap LNd.vals)]:=by
 refine eN1 Tryz.func195 Tryz.ntmps195 ?_
 refine aU8 ?_
 refine o_p (Yg rfl rfl rfl Tryz.underlying22) rfl (aU ?_)
 refine sCd rfl (λh1=>?_) λh1=>?_
 ·have ha0:a=none:=by cases a with|none=>rfl|some b=>simp at h1
  subst ha0
  have hl0:l=[]:=Rw.none hs
  refine aU4 ?_
  exact rT rfl rfl (λw' h'=>⟨(none,0),by rw[hl0];rfl,trivial,by rw[hl0];exact(h'.own_nil 87 3).ent aEt⟩)
 refine aU3 ?_
 refine o_h (Xz rfl Q2) rfl (λb2 _=>aU ?_)
 refine o_h (Qz (l.flatMap LNd.vals) rfl rfl rfl Q2 Tryz.underlying22 YS rfl aPk (λw h=>Rw.src nv3 hs h) (QR nv3 l) (Ye nv1 l) om (by simp only[maxLen];omega)) rfl (λb3 _=>aU2 ?_)
 exact rT rfl rfl (λw' h'=>⟨b3,by simp only[Qw,Nat.zero_add],trivial,by have h2:=h';simp only[Nat.zero_add,List.nil_append]at h2;exact h2.ent aEt⟩)
theorem c196(w:World)(a:Option Addr)(cap:Nat)(l:List TEnt)(hs:Rw TEnt.vals 2 w [] a l)(hm:l.length<=1000000):CE 196 #[.slice a l.length cap] w [] (λg:Option Addr×Nat=>.slice g.1 l.length g.2) (λg=>True) λg=>[.own (.slice g.1 l.length g.2) 50 2 l.length (l.flatMap TEnt.vals)]:=by
 refine eN1 Tryz.func196 Tryz.ntmps196 ?_
 refine aU8 ?_
 refine o_p (Yg rfl rfl rfl Tryz.underlying85) rfl (aU ?_)
 refine sCd rfl (λh1=>?_) λh1=>?_
 ·have ha0:a=none:=by cases a with|none=>rfl|some b=>simp at h1
  subst ha0
  have hl0:l=[]:=Rw.none hs
  refine aU4 ?_
  exact rT rfl rfl (λw' h'=>⟨(none,0),by rw[hl0];rfl,trivial,by rw[hl0];exact(h'.own_nil 50 2).ent aEt⟩)
 refine aU3 ?_
 refine o_h (Xz rfl Xi) rfl (λb2 _=>aU ?_)
 refine o_h (Qz (l.flatMap TEnt.vals) rfl rfl rfl Xi Tryz.underlying85 XB rfl aPk (λw h=>Rw.src ev2 hs h) (QR ev2 l) (Ye ev1 l) om (by simp only[maxLen];omega)) rfl (λb3 _=>aU2 ?_)
 exact rT rfl rfl (λw' h'=>⟨b3,by simp only[Qw,Nat.zero_add],trivial,by have h2:=h';simp only[Nat.zero_add,List.nil_append]at h2;exact h2.ent aEt⟩)
theorem c197(w:World)(a:Option Addr)(cap:Nat)(l:List Int)(hs:Rw inV 1 w [] a l)(hm:l.length<=1000000):CE 197 #[.slice a l.length cap] w [] (λg:Option Addr×Nat=>.slice g.1 l.length g.2) (λg=>True) λg=>[.own (.slice g.1 l.length g.2) 3 1 l.length (l.flatMap inV)]:=by
 refine eN1 Tryz.func197 Tryz.ntmps197 ?_
 refine aU8 ?_
 refine o_p (Yg rfl rfl rfl Tryz.underlying65) rfl (aU ?_)
 refine sCd rfl (λh1=>?_) λh1=>?_
 ·have ha0:a=none:=by cases a with|none=>rfl|some b=>simp at h1
  subst ha0
  have hl0:l=[]:=Rw.none hs
  refine aU4 ?_
  exact rT rfl rfl (λw' h'=>⟨(none,0),by rw[hl0];rfl,trivial,by rw[hl0];exact(h'.own_nil 3 1).ent aEt⟩)
 refine aU3 ?_
 refine o_h (Xz rfl QU) rfl (λb2 _=>aU ?_)
 refine o_h (Qz (l.flatMap inV) rfl rfl rfl QU Tryz.underlying65 YX rfl aPk (λw h=>Rw.src iv1 hs h) (QR iv1 l) (Ye iv1c l) om (by simp only[maxLen];omega)) rfl (λb3 _=>aU2 ?_)
 exact rT rfl rfl (λw' h'=>⟨b3,by simp only[Qw,Nat.zero_add],trivial,by have h2:=h';simp only[Nat.zero_add,List.nil_append]at h2;exact h2.ent aEt⟩)
theorem c139(w:World)(j:Nat)(mo rm:Int)(a:Option Addr)(cap:Nat)(L:List LNd)(hs:Nt w [] a L)(hB:Bd (pln L))(hj:j<=3)(h0:0<L.length):CE 139 #[.agg #[.int .i64 (j:Int),.int .i64 mo,.int .i64 rm,.slice a L.length cap]] w [] (λg:Nat×(Option Addr×Nat)×List LNd=>.pointer (some ⟨g.1,0,none⟩)) (λg=>pln g.2.2=pln L) λg=>[.blk g.1 167 6 (tbV (j:Int) mo rm g.2.1.1 g.2.2.length g.2.1.2),.nodes 50 87 g.2.1.1 g.2.1.2 g.2.2]:=by
 have hle:=hB.len
 rw[Qd]at hle
 have hes9:∀i,i<L.length->(nth L i).es.length<=1000:=λi hi=>by have h9:=hB.es i (by rw[Qd];exact hi);rw[QB hi]at h9;exact h9
 have hcs9:∀i,i<L.length->(nth L i).cs.length<=1000:=λi hi=>by have h9:=hB.cs i (by rw[Qd];exact hi);rw[QB hi]at h9;exact h9
 refine eN1 Tryz.func139 Tryz.ntmps139 ?_
 refine aU2 ?_
 refine oBx λb1 _=>?_
 refine aU3 ?_
 refine Qq [] mixed ?_
 refine dLn 0 [] ?_
 refine dQ 1 [] rfl (Qe rfl Qhw rfl (λw1 h1=>Qnk w1)) (dFa 2 ?_)
 refine dLd 3 [] ?_
 refine dV 4 rfl (Qd5 rfl rfl rfl QfD Qfn j rfl om) (Qy (QeA j hj) (dV 5 rfl (Qs (cs:=[_,_,_,_,_,_]) rfl rfl QkQ Qjt rfl) (dH 6 rfl (QhK rfl rfl) (λb2 _=>dBa ?_))))
 refine dP 7 ?_
 refine dNi ?_
 refine aU5 ?_
 refine oCh rfl (λw1 h1=>c195 w1 a cap L (hs.1.later h1) om) (λ⟨b3,c4⟩_=>Qj3 (λw h=>QaP h0 h aPk) (λhgn=>?_))
 obtain⟨gn,rfl,hcap,hcm⟩:=hgn
 refine Yf (λw h=>HS.own_at h aPk) (aU3 ?_)
 refine Qf0 (Y2 rfl rfl rfl Za rfl aPt (by show 4<=6;omega) rfl) (λ_ _=>Qb9 ?_)
 refine Qi (L':=[(2,_),(3,_),(24,_),(25,_),(26,_)]) aSx (λ_ h=>h) ?_
 refine Qp (α:=Nat×List LNd) [4,5,26,27,28,29,30,31,32,33,34,35,36,37,38,39,40,41,42,43,44,45,46,47,48,49,50,51,52,53] (λx=>[(26,.int .i64 (x.1:Int))]) (λx=>HS w [] [.blk gn 87 (c4*3) ((x.2++L.drop x.1).flatMap LNd.vals),.star (x.2.map (YJ 50)),.blk b2 167 6 (tbV (j:Int) mo rm (some ⟨gn,0,none⟩) L.length c4)]) (λx=>x.1<=L.length/\x.2.length=x.1/\pln x.2=(pln L).take x.1) (λx=>L.length-x.1) (0,[]) ⟨Nat.zero_le _,rfl,rfl⟩ aSx (λw h=>(h.star_nil).ent aEt) (λ⟨k,D⟩hx=>?_)
 dsimp only
 obtain⟨hk1,hk2,hk3⟩:=hx
 simp only[]at hk1 hk2 hk3
 refine aU5 ?_
 refine sCd rfl (λh5=>?_) λh5=>?_
 ·have hkl:k<L.length:=by omega
  refine aU6 ?_
  refine o_p (Qa rfl rfl rfl Q2 (k) om om rfl) rfl (o_q (Qae (LNd.vals (nth L k)) rfl rfl Qaq rfl (λw h=>by have h9:=Rw.rd (h.rw_blk nv3 aPk) (i:=k) (by simp only[List.length_append,List.length_drop];omega);rw[Qiq hk2 hkl]at h9;exact h9)) rfl (oAl (λb6 _=>?_) YS))
  refine aU3 ?_
  refine Qq [20,23] mixed ?_
  refine dP 0 ?_
  refine dP 1 ?_
  refine dFa 2 ?_
  refine dFa 3 ?_
  refine dLd 4 [[],[]] ?_
  refine dP 5 ?_
  refine dP 6 ?_
  refine dP 7 ?_
  refine dFa 8 ?_
  refine dFa 9 ?_
  refine dLd 10 [[],[]] ?_
  refine dP 11 ?_
  refine dFa 12 ?_
  refine dLd 13 [[],[]] ?_
  refine dFa 15 ?_
  refine dLd 16 [[17],[]] ?_
  refine dH 14 rfl (Xy rfl Qnd rfl (λw1 h1=>c196 w1 (nth L k).ea (nth L k).ec (nth L k).es ((hs.es hkl).later h1) (by have:=hes9 k hkl;omega))) (λb7 _=>dBa ?_)
  refine dH 17 rfl (Xy rfl QnX rfl (λw1 h1=>c197 w1 (nth L k).ca (nth L k).cc (nth L k).cs ((hs.cs hkl).later h1) (by have:=hcs9 k hkl;omega))) (λb8 _=>dBa ?_)
  refine dV 18 rfl (Qa rfl rfl rfl Q2 (k) om om rfl) (dFa 19 ?_)
  refine Qm3 20 rfl (Y2 rfl rfl rfl Qao rfl aPt (by simp only[Qj,QR nv3,List.length_append,List.length_drop,Nat.zero_add];show _+1<=_;omega) rfl) (by kernel_rfl) (λw h=>h.ent aEt) (λ_ _=>?_)
  refine dTu [23] ?_
  refine dV 21 rfl (Qa rfl rfl rfl Q2 (k) om om rfl) (dFa 22 ?_)
  refine Qm3 23 rfl (Y2 rfl rfl rfl Ze rfl aPt (by simp only[Qj,QR nv3,List.length_append,List.length_drop,Nat.zero_add];show _+1<=_;omega) rfl) (by kernel_rfl) (λw h=>h.ent aEt) (λ_ _=>?_)
  refine dTu [] ?_
  refine dNi ?_
  refine aU ?_
  refine Qi (L':=[(2,_),(3,_),(24,_),(25,_),(26,_)]) aSx (λ_ h=>h) ?_
  refine aT2 ?_
  refine aU2 ?_
  exact QH (k+1,D++[⟨(nth L k).us,b7.1,b7.2,(nth L k).es,b8.1,b8.2,(nth L k).cs⟩]) (by(try simp only[]);omega) ⟨by(try simp only[]);omega,by simp[hk2],Qgt hkl hk3 rfl⟩ aSx (λw h=>by have e9:=Qi7 (l:=D++L.drop k) (k:=k) (by simp only[List.length_append,List.length_drop];omega) b7.1 b7.2 (nth L k).es b8.1 b8.2 (nth L k).cs;rw[Qiq hk2 hkl,Qmi hk2 hkl]at e9;have h2:=h.ent (Bs:=[.own (.slice b7.1 (nth L k).es.length b7.2) 50 2 (nth L k).es.length ((nth L k).es.flatMap TEnt.vals),.own (.slice b8.1 (nth L k).cs.length b8.2) 3 1 (nth L k).cs.length ((nth L k).cs.flatMap inV),.star (D.map (YJ 50)),.blk gn 87 (c4*3) (QK (QK ((D++L.drop k).flatMap LNd.vals) (0+k*3+1) [.slice b7.1 (nth L k).es.length b7.2]) (0+k*3+2) [.slice b8.1 (nth L k).cs.length b8.2]),.blk b2 167 6 (tbV (j:Int) mo rm (some ⟨gn,0,none⟩) L.length c4)]) aEt;rw[Nat.zero_add,e9]at h2;exact(HS.sub_app (sub:=YJ 50) (l:=D) (x:=(⟨(nth L k).us,b7.1,b7.2,(nth L k).es,b8.1,b8.2,(nth L k).cs⟩:LNd)) (HS.star_close (Bs:=[_,_]) h2)).ent aEt)
 obtain rfl:k=L.length:=om
 have hD:pln D=pln L:=by rw[hk3,<-Qd L,List.take_length]
 refine Qk rfl ?_
 refine aU5 ?_
 exact rT rfl rfl (λw' h'=>⟨(b2,(some ⟨gn,0,none⟩,c4),D),rfl,hD,by have h2:=h';rw[List.drop_length,List.append_nil]at h2;have h3:=HS.own_shut (n:=D.length) (h2.ent (Bs:=[.blk gn 87 (c4*3) (D.flatMap LNd.vals),.star (D.map (YJ 50)),.blk b2 167 6 (tbV (j:Int) mo rm (some ⟨gn,0,none⟩) L.length c4)]) aEt) (QR nv3 D) om hcm;have h4:=HS.row_shut (l:=D) (sub:=YJ 50) h3 rfl rfl;have h5:HS w [] [.nodes 50 87 (some ⟨gn,0,none⟩) c4 D,.blk b2 167 6 (tbV (j:Int) mo rm (some ⟨gn,0,none⟩) L.length c4)] w':=h4;rw[hk2];exact h5.ent aEt⟩)
instance:TFn Tryz.prog 97:=⟨by kernel_rfl⟩
instance:TFn Tryz.prog 81:=⟨by kernel_rfl⟩
instance:TFn Tryz.prog 139:=⟨by kernel_rfl⟩
instance:TFn Tryz.prog 87:=⟨by kernel_rfl⟩
theorem c87e(w:World)(co mo rm:Int)(a:Option Addr)(cap:Nat)(L:List LNd)(hs:Nt w [] a L)(hB:Bd (pln L))(hkl:∀i,i<L.length->∀x∈(nth L i).es,x.key.length<=1000000)(he:¬(Ql (⟨co,mo,rm,pln L⟩:Tre)).2=0):CR 87 #[.agg #[.int .i64 co,.int .i64 mo,.int .i64 rm,.slice a L.length cap]] w (.tuple #[.pointer none,.int .i64 (Ql (⟨co,mo,rm,pln L⟩:Tre)).2]):=by
 refine eN1 Tryz.func87 Tryz.ntmps87 ?_
 refine aU2 ?_
 refine oBx λb1 _=>?_
 refine aU7 ?_
 refine oCq rfl (λw1 h1=>c81 w1 co mo rm a cap L (hs.later h1.nil) hB hkl) (Y0 ?_)
 refine sCd rfl (λh2=>?_) λh2=>?_
 ·refine aU6 ?_
  exact Qg (rs:=[.tmp 2,.tmp 3]) rfl (.tmp rfl (.tmp rfl (.nil))) (λw' h'=>⟨rfl,h'.below⟩)
 exfalso;first|omega|(simp at h2;done)|(simp_all;done)
theorem c87o(w:World)(j:Nat)(mo rm:Int)(a:Option Addr)(cap:Nat)(L:List LNd)(hs:Nt w [] a L)(hB:Bd (pln L))(hkl:∀i,i<L.length->∀x∈(nth L i).es,x.key.length<=1000000)(h0:(Ql (⟨(j:Int),mo,rm,pln L⟩:Tre)).2=0):CE 87 #[.agg #[.int .i64 (j:Int),.int .i64 mo,.int .i64 rm,.slice a L.length cap]] w [] (λg:Nat×(Nat×Nat)×List LNd=>.tuple #[.pointer (some ⟨g.1,0,none⟩),.int .i64 (0)]) (λg=>(pln g.2.2=pln L/\g.2.2.length<=g.2.1.2/\g.2.1.2<=maxLen)) λg=>[.blk g.1 167 6 (tbV (j:Int) mo rm (some ⟨g.2.1.1,0,none⟩) (g.2.2).length g.2.1.2),.blk g.2.1.1 87 (g.2.1.2*3) ((g.2.2).flatMap LNd.vals),.star ((g.2.2).map (YJ 50))]:=by
 obtain⟨hc0,hz0,hl0,hl120,hn0,_,_⟩:=Zd h0
 rw[show((⟨(j:Int),mo,rm,pln L⟩:Tre)).ns=pln L from rfl,Qd]at hl0 hl120
 have hj:j<=3:=by obtain⟨j9,e9,hj9⟩:=Qa1 hc0;have e8:((j:Nat):Int)=(j9:Int):=e9;omega
 have hT:TOk (j:Int) (pln L):=Z2 (t:=(⟨(j:Int),mo,rm,pln L⟩:Tre)) hn0
 have hmo:=(Qab hz0).1
 simp only[]at hmo
 refine eN1 Tryz.func87 Tryz.ntmps87 ?_
 refine aU2 ?_
 refine oBx λb1 _=>?_
 refine aU7 ?_
 refine oCq rfl (λw1 h1=>c81 w1 (j:Int) mo rm a cap L (hs.later h1.nil) hB hkl) (Y0 ?_)
 refine sCd rfl (λh2=>?_) λh2=>?_
 ·exfalso;first|omega|(simp at h2;done)|(simp_all;done)
 refine aU4 ?_
 refine oCh rfl (λw1 h1=>c139 w1 j mo rm a cap L (hs.later h1.nil) hB hj hl0) (λ⟨b9,⟨a9,c9⟩,L9⟩hF9=>?_)
 dsimp only
 refine aU3 ?_
 exact Qg (rs:=[.tmp 2,.tmp 3]) rfl (.tmp rfl (.tmp rfl (.nil))) (λw' h'=>by obtain⟨g9,rfl,hl9,hm9,h2⟩:=Qf5 (by rw[<-Qd,hF9,Qd];exact hl0) h' aPk;exact⟨(b9,(g9,c9),L9),rfl,⟨hF9,hl9,hm9⟩,h2.ent aEt⟩)
theorem c96e(w:World)(co mo rm:Int)(a:Option Addr)(cap:Nat)(L:List LNd)(key:List UInt8)(hs:Nt w [] a L)(hB:Bd (pln L))(hkl:∀i,i<L.length->∀x∈(nth L i).es,x.key.length<=1000000)(he:¬(Ql (⟨co,mo,rm,pln L⟩:Tre)).2=0):CR 96 #[.agg #[.int .i64 co,.int .i64 mo,.int .i64 rm,.slice a L.length cap],.string (bs key)] w (.tuple #[.pointer none,.int .i64 (Ql (⟨co,mo,rm,pln L⟩:Tre)).2]):=by
 refine eN2 Tryz.func96 Tryz.ntmps96 ?_
 refine aU2 ?_
 refine oBx λb1 _=>?_
 refine aU6 ?_
 refine oCq rfl (λw1 h1=>c87e w1 co mo rm a cap L (hs.later h1.nil) hB hkl he) (Zr ?_)
 refine sCd rfl (λh2=>?_) λh2=>?_
 ·exfalso;first|omega|(simp at h2;done)|(simp_all;done)
 refine aU8 ?_
 exact Qg (rs:=[.tmp 4,.tmp 5]) rfl (.tmp rfl (.tmp rfl (.nil))) (λw' h'=>⟨rfl,h'.below⟩)
theorem QnZ(w:World)(j:Nat)(mo rm:Int)(a:Option Addr)(cap:Nat)(L:List LNd)(key:List UInt8)(hs:Nt w [] a L)(hB:Bd (pln L))(hkl:∀i,i<L.length->∀x∈(nth L i).es,x.key.length<=1000000)(hkk:key.length<=1000000)(h0:(Ql (⟨(j:Int),mo,rm,pln L⟩:Tre)).2=0):CE 96 #[.agg #[.int .i64 (j:Int),.int .i64 mo,.int .i64 rm,.slice a L.length cap],.string (bs key)] w [] (λg:Nat×(Nat×Nat)×List LNd=>.tuple #[.pointer (some ⟨g.1,0,none⟩),.int .i64 (X6 (j:Int) key)]) (λg=>(pln g.2.2=pln L/\g.2.2.length<=g.2.1.2/\g.2.1.2<=maxLen)) λg=>[.blk g.1 167 6 (tbV (j:Int) mo rm (some ⟨g.2.1.1,0,none⟩) (g.2.2).length g.2.1.2),.blk g.2.1.1 87 (g.2.1.2*3) ((g.2.2).flatMap LNd.vals),.star ((g.2.2).map (YJ 50))]:=by
 obtain⟨hc0,hz0,hl0,hl120,hn0,_,_⟩:=Zd h0
 rw[show((⟨(j:Int),mo,rm,pln L⟩:Tre)).ns=pln L from rfl,Qd]at hl0 hl120
 have hj:j<=3:=by obtain⟨j9,e9,hj9⟩:=Qa1 hc0;have e8:((j:Nat):Int)=(j9:Int):=e9;omega
 have hT:TOk (j:Int) (pln L):=Z2 (t:=(⟨(j:Int),mo,rm,pln L⟩:Tre)) hn0
 have hmo:=(Qab hz0).1
 simp only[]at hmo
 refine eN2 Tryz.func96 Tryz.ntmps96 ?_
 refine aU2 ?_
 refine oBx λb1 _=>?_
 refine aU6 ?_
 refine oCh rfl (λw1 h1=>c87o w1 j mo rm a cap L (hs.later h1.nil) hB hkl h0) (λg9 hF9=>Zr ?_)
 refine sCd rfl (λh2=>?_) λh2=>?_
 ·refine aU4 ?_
  refine oCq rfl (λw1 h1=>c146 w1 j key hj hkk) (aU9 ?_)
  exact Qg (rs:=[.tmp 4,.tmp 5]) rfl (.tmp rfl (.tmp rfl (.nil))) (λw' h'=>⟨g9,rfl,hF9,h'.ent aEt⟩)
 exfalso;first|omega|(simp at h2;done)|(simp_all;done)
theorem QoK:QC Tryz.prog 48=true:=by kernel_rfl
theorem QoE:QC Tryz.prog 49=true:=by kernel_rfl
theorem c48(w:World)(a:Option Addr)(cap:Nat)(l:List TEnt)(hs:Rw TEnt.vals 2 w [] a l)(hl:l.length<=100000):CE 48 #[.slice a l.length cap] w [] (λg:Option Addr×Nat=>.slice g.1 l.length g.2) (λg=>True) λg=>[.own (.slice g.1 l.length g.2) 50 2 l.length (l.flatMap TEnt.vals)]:=by
 refine eN1 Tryz.func48 Tryz.ntmps48 ?_
 refine aU6 ?_
 refine o_h (Xz rfl Xi) rfl (λb1 _=>aU ?_)
 refine o_h (Qz (l.flatMap TEnt.vals) rfl rfl rfl Xi Tryz.underlying85 XB rfl aPk (λw h=>Rw.src ev2 hs h) (QR ev2 _) (Ye ev1 _) om (by simp only[maxLen];omega)) rfl (λb2 _=>aU2 ?_)
 exact rT rfl rfl (λw' h'=>⟨b2,by simp only[Qw,Nat.zero_add],trivial,by have h2:=h';simp only[Nat.zero_add,List.nil_append]at h2;exact h2.ent aEt⟩)
theorem c49(w:World)(a:Option Addr)(cap:Nat)(l:List Int)(hs:Rw inV 1 w [] a l)(hl:l.length<=100000):CE 49 #[.slice a l.length cap] w [] (λg:Option Addr×Nat=>.slice g.1 l.length g.2) (λg=>True) λg=>[.own (.slice g.1 l.length g.2) 3 1 l.length (l.flatMap inV)]:=by
 refine eN1 Tryz.func49 Tryz.ntmps49 ?_
 refine aU6 ?_
 refine o_h (Xz rfl QU) rfl (λb1 _=>aU ?_)
 refine o_h (Qz (l.flatMap inV) rfl rfl rfl QU Tryz.underlying65 YX rfl aPk (λw h=>Rw.src iv1 hs h) (QR iv1 _) (Ye iv1c _) om (by simp only[maxLen];omega)) rfl (λb2 _=>aU2 ?_)
 exact rT rfl rfl (λw' h'=>⟨b2,by simp only[Qw,Nat.zero_add],trivial,by have h2:=h';simp only[Nat.zero_add,List.nil_append]at h2;exact h2.ent aEt⟩)
theorem c9(w:World)(co mo rm:Int)(a:Option Addr)(cap:Nat)(L:List LNd)(hs:Nt w [] a L)(hl:L.length<=1000)(hsm:Sm 1000 (pln L)):CE 9 #[.agg #[.int .i64 co,.int .i64 mo,.int .i64 rm,.slice a L.length cap]] w [] (λg:(Option Addr×Nat)×List LNd=>.agg #[.int .i64 co,.int .i64 mo,.int .i64 rm,.slice g.1.1 g.2.length g.1.2]) (λg=>pln g.2=pln L) λg=>[.nodes 50 87 g.1.1 g.1.2 g.2]:=by
 refine eN1 Tryz.func9 Tryz.ntmps9 ?_
 refine aU2 ?_
 refine oBx λb1 _=>?_
 refine oAl (λb2 _=>?_) Qfc
 refine aU9 ?_
 refine o_p (Qs (cs:=[_,_,_,_]) rfl rfl QjV Qfc rfl) rfl (oAl (λb3 _=>?_) Qfc)
 refine aU8 ?_
 refine Qp (α:=Nat×(Option Addr×Nat)×List LNd) [4,5,13,14,15,16,17,18,19,20,21,22,23,24,25,26,27,28,29,30,31,32,33,34,35,36,37,38] (λx=>[(4,.int .i64 (x.1:Int))]) (λx=>HS w [] [.own (.slice x.2.1.1 (x.2.2).length x.2.1.2) 87 3 (x.2.2).length ((x.2.2).flatMap LNd.vals),.star ((x.2.2).map (YJ 50)),.blk b3 24 4 [.int .i64 co,.int .i64 mo,.int .i64 rm,.slice x.2.1.1 (x.2.2).length x.2.1.2],.blk b2 24 4 [.int .i64 0,.int .i64 0,.int .i64 0,.slice none 0 0],.blk b1 24 4 [.int .i64 co,.int .i64 mo,.int .i64 rm,.slice a L.length cap]]) (λx=>x.1<=L.length/\x.2.2.length=x.1/\pln x.2.2=(pln L).take x.1) (λx=>L.length-x.1) (0,(none,0),[]) ⟨Nat.zero_le _,rfl,rfl⟩ aSx (λw h=>((h.own_nil 87 3).star_nil).ent aEt) (λ⟨k,⟨ga,gc⟩,D⟩hx=>?_)
 dsimp only
 obtain⟨hk1,hk2,hk3⟩:=hx
 simp only[]at hk1 hk2 hk3
 refine aU9 ?_
 refine sCd rfl (λh4=>?_) λh4=>?_
 ·have hkl:k<L.length:=by omega
  have hsk:=hsm k
  rw[QB hkl]at hsk
  simp only[LNd.pl]at hsk
  refine aU8 ?_
  refine o_p (Qa rfl rfl rfl Q2 (k) om om (Rw.some hs.1 om)) rfl (o_q (Qt _ rfl rfl Qaq rfl (Rw.rd hs.1 hkl)) rfl (oAl (λb5 _=>?_) YS))
  refine aU2 ?_
  refine Qq [12,14] mixed ?_
  refine dFa 0 ?_
  refine dLd 1 [[],[]] ?_
  refine dFa 2 ?_
  refine dLd 3 [[11,10],[]] ?_
  refine dFa 4 ?_
  refine dLd 5 [[9,6],[]] ?_
  refine dFa 7 ?_
  refine dLd 8 [[9],[]] ?_
  refine dH 6 rfl (Xy rfl QoK rfl (λw1 h1=>c48 w1 (nth L k).ea (nth L k).ec (nth L k).es ((hs.es hkl).later h1) om)) (λb6 _=>dBa ?_)
  refine dH 9 rfl (Xy rfl QoE rfl (λw1 h1=>c49 w1 (nth L k).ca (nth L k).cc (nth L k).cs ((hs.cs hkl).later h1) om)) (λb7 _=>dBa ?_)
  refine dV 10 rfl (Qs (cs:=[_,_,_]) rfl rfl QmR YS rfl) (dH 11 rfl (Qc (cs:=[_,_,_]) rfl rfl Q2 YS rfl rfl rfl) (λb8 _=>dBa ?_))
  refine dH 12 rfl (Qz (LNd.vals (⟨(nth L k).us,b6.1,b6.2,(nth L k).es,b7.1,b7.2,(nth L k).cs⟩:LNd)) rfl rfl rfl Q2 Tryz.underlying22 YS rfl aPk (Q5 aPk) rfl (nv1 _) om (by simp only[maxLen];omega)) (λb9 _=>dTu [14] ?_)
  refine dFa 13 ?_
  refine dSt 14 ?_ (hl:=(by simp only[Qj,List.length_set,List.length_cons,List.length_nil,List.length_map];omega))
  refine dTu [] ?_
  refine dNi ?_
  refine aU ?_
  refine Qi (L':=[(0,_),(1,_),(2,_),(3,_),(4,_),(6,_),(7,_),(8,_),(9,_),(10,_),(11,_),(12,_)]) aSx (λ_ h=>h) ?_
  refine aT3 ?_
  refine aU2 ?_
  exact QH (k+1,(b9.1,b9.2),D++[⟨(nth L k).us,b6.1,b6.2,(nth L k).es,b7.1,b7.2,(nth L k).cs⟩]) (by(try simp only[]);omega) ⟨by(try simp only[]);omega,by simp[hk2],Qgt hkl hk3 rfl⟩ aSx (λw h=>by have h2:=HS.sub_app (sub:=YJ 50) (l:=D) (x:=(⟨(nth L k).us,b6.1,b6.2,(nth L k).es,b7.1,b7.2,(nth L k).cs⟩:LNd)) (HS.star_close (Bs:=[_,_]) (h.ent (Bs:=[.own (.slice b6.1 (nth L k).es.length b6.2) 50 2 (nth L k).es.length ((nth L k).es.flatMap TEnt.vals),.own (.slice b7.1 (nth L k).cs.length b7.2) 3 1 (nth L k).cs.length ((nth L k).cs.flatMap inV),.star (D.map (YJ 50)),.own (.slice b9.1 (D.length+1) b9.2) 87 3 (D.length+1) (D.flatMap LNd.vals++LNd.vals (⟨(nth L k).us,b6.1,b6.2,(nth L k).es,b7.1,b7.2,(nth L k).cs⟩:LNd)),.blk b3 24 4 [.int .i64 co,.int .i64 mo,.int .i64 rm,.slice b9.1 (D.length+1) b9.2],.blk b2 24 4 [.int .i64 0,.int .i64 0,.int .i64 0,.slice none 0 0],.blk b1 24 4 [.int .i64 co,.int .i64 mo,.int .i64 rm,.slice a L.length cap]]) aEt));simp only[List.length_append,List.length_singleton,List.flatMap_append,List.flatMap_singleton];exact h2.ent aEt)
 obtain rfl:k=L.length:=om
 have hD:pln D=pln L:=by rw[hk3,<-Qd L,List.take_length]
 refine Qk rfl ?_
 refine aU5 ?_
 exact Qg (rs:=[.cell 2 24]) rfl (.cell rfl Qib aPk rfl (.nil)) (λw' h'=>⟨((ga,gc),D),by simp only[Qw];rw[hk2];rfl,hD,by have h3:=HS.row_shut (a:=ga) (cap:=gc) (l:=D) (sub:=YJ 50) (t:=87) (sz:=3) (vals:=LNd.vals) (h'.ent (Bs:=[.own (.slice ga D.length gc) 87 3 D.length (D.flatMap LNd.vals),.star (D.map (YJ 50))]) aEt) rfl rfl;exact h3⟩)
end Go.Proofs
