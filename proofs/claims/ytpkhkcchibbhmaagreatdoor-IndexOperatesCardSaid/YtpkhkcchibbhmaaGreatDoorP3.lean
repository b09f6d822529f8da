/- Contracts of the program's functions, proved by walking them with the rules of the Gx texts; without conditions beyond those that each contract names. -/
import Derived.WalkKit
import Derived.Deep.Draws
import Derived.TacticsIn
import Derived.OrdersIn
import Derived.RangeFuncLeaves
import Derived.Lib.Strings
import Derived.Laws.BytesArg
import Derived.Laws.IdiomStrings
import Derived.Deep.Quiet
import Derived.ProofKit
import Derived.OpenShut
import Derived.Laws.StructEq
import Derived.ChangeKeysEq
import Derived.Laws.Externs
import Derived.Lib.Overlaps
import Derived.Carry
import Derived.Laws.Small
import Derived.Lib.Bytealg
import Derived.Lib.Builder
import Derived.Laws.Pointers
import Derived.RangeFuncRecord
import Derived.Test.YtpkhkcchibbhmaaGreatDoorProg
import Derived.KernelRfl
import Derived.Test.YtpkhkcchibbhmaaGreatDoorTie
import Derived.Test.YtpkhkcchibbhmaaGreatDoorCards
import Derived.SevenTiedAt
import Derived.LaidMore
import Derived.Lay
import Derived.Stop.Joined
import Derived.Test.YtpkhkcchibbhmaaGreatDoorP2
set_option linter.unusedSimpArgs false
set_option maxHeartbeats 1000000
set_option linter.unusedVariables false
set_option linter.unusedSectionVars false
set_option linter.unnecessarySimpa false
namespace Gx
open Go Go.RowKit
def ZG:List UInt8:=[82,79,79,84]
def Qbl(t:Tre):List UInt8:=ZG++[by8 t.co,by8 t.mo,by8 t.rm,by8 (nth t.ns 0).es.length]++Xy (nth t.ns 0)
def noT:Tre:=⟨0,0,0,[]⟩
def Qbj(co:Int)(es:List TEnt)(i:Nat):Bool:=QW co (nth es i).key&&decide (i=0\/QX co (nth es (i-1)).key (nth es i).key<0)
def Qeb(co:Int)(es:List TEnt):Bool:=(List.range es.length).all (Qbj co es)
theorem QbH{co:Int}{es:List TEnt}:Qeb co es=true ↔ ∀i,i<es.length->Qbj co es i=true:=by grind[Qeb]
theorem QmG{co:Int}{es:List TEnt}{i:Nat}(hi:i<es.length)(h:Qbj co es i=false):Qeb co es=false:=by
 cases hb:Qeb co es with
 | false=>rfl
 | true=>rw[QbH.1 hb i hi]at h;cases h
def Qd(s:List UInt8):Tre×Int:=
 if s.length<16 then(noT,10)
 else if s.take 4=ZG then
  if QJ (at1 s 4)=0 then
   if XW (at1 s 5) (at1 s 6)=0 then
    if at1 s 5<=4 then
     if at1 s 7<=at1 s 6 then
      match rdN s 8 (ub1 s 7)with
      | some (n,last)=>if last=s.length/\Qeb (at1 s 4) n.es=true then(⟨at1 s 4,at1 s 5,at1 s 6,[n]⟩,0)else(noT,3)
      | none=>(noT,3)
     else(noT,16)
    else(noT,8)
   else(noT,XW (at1 s 5) (at1 s 6))
  else(noT,QJ (at1 s 4))
 else(noT,3)
def YS(x:TEnt):Bool:=decide (x.key.length+x.val.length<=88)
def Zo(n:Nd):Bool:=n.es.all YS
def YM(t:Tre):Int:=if(XV t).2=0 then if t.mo<=4/\t.ns.all Zo=true then 0 else 8 else(XV t).2
theorem Qe6{t:Tre}(h:YM t=0):(XV t).2=0/\t.mo<=4/\∀n∈t.ns,∀x∈n.es,x.key.length+x.val.length<=88:=by
 unfold YM at h;split at h
 ·rename_i h1;split at h
  ·rename_i h2;refine⟨h1,h2.1,λn hn x hx=>?_⟩;have h3:=List.all_eq_true.1 h2.2 n hn;have h4:=List.all_eq_true.1 h3 x hx
   simpa[YS]using h4
  ·cases h
 grind
theorem Qob{co:Int}{k:List UInt8}(h:QW co k=true):1<=k.length/\k.length<=40:=by grind[QW]
theorem QnM{co:Int}{x:TEnt}(h:Yu co x=0):QW co x.key=true/\x.val.length<=64:=by grind[Yu,X3]
theorem Qfp{n:Nd}(h:∀x∈n.es,Yy x 0=true):∀k,k<=n.es.length->(Xi n k).length<=96*k
 | 0,_=>by simp[Xi]
 | k+1,hk=>by
  have ih:=Qfp h k om;have hx:=h _ (QI (show k<n.es.length by omega));simp only[Yy,decide_eq_true_eq]at hx;have hsz:(nth n.es k).sz=8+(nth n.es k).key.length+(nth n.es k).val.length:=rfl
  grind[Xi,Qec,Q7]
theorem Qlx{n:Nd}(h:∀x∈n.es,Yy x 0=true):(Xy n).length<=96*n.es.length+8:=by grind[Qfp,Xy,QbM]
theorem ZB{t:Tre}(h:YM t=0){i:Nat}(hi:i<t.ns.length)(hu:(nth t.ns i).us=true):NdW (nth t.ns i)/\(nth t.ns i).es.length<=4/\(Xy (nth t.ns i)).length<=392/\Qeb t.co (nth t.ns i).es=true/\t.ns.length<=120:=by
 obtain⟨h1,h2,h3⟩:=Qe6 h;obtain⟨hc,hs,h0,hl,hn,_⟩:=YJ h1;have hT:=Zp hn;obtain⟨hE,_⟩:=Qc3 om hn List.nodup_nil;obtain⟨sn,hE⟩:=hE i (Nat.zero_le _) hi;have hmo:XW t.mo t.rm=0:=hs;have hsz:(3<=t.mo/\t.mo<=8)/\(t.mo/2<=t.rm/\t.rm<=t.mo):=by grind[XW]
 have hm:((nth t.ns i).es.length:Int)<=YB t.mo t.rm i:=by grind[Yh]
 have hle:(nth t.ns i).es.length<=4:=by grind[YB]
 have hK:∀x∈(nth t.ns i).es,Yy x 0=true:=λx hx=>by
  obtain⟨a,b⟩:=QnM (hT.ents i hi x hx);have c:=Qob a;have d:=h3 _ (QI hi) x hx;simp only[Yy,decide_eq_true_eq];omega
 have hb:=Qlx hK;refine⟨⟨hu,hK,hT.shape i hi,λc hc=>by have:=(hT.kid i hi c hc).1;omega⟩,hle,om,?_,hl⟩;rw[QbH];intro k hk;simp only[Qbj,Bool.and_eq_true,decide_eq_true_eq];refine⟨(QnM (hT.ents i hi _ (QI hk))).1,?_⟩;rcases Nat.eq_zero_or_pos k with h0|h0
 ·exact .inl h0
 ·have:=hT.asc i hi (k-1) om
  grind
theorem YZ{t:Tre}(h:YM t=0):0<t.ns.length/\(nth t.ns 0).us=true/\QJ t.co=0/\XW t.mo t.rm=0/\((nth t.ns 0).es.length:Int)<=t.rm:=by
 obtain⟨h1,h2,h3⟩:=Qe6 h;obtain⟨hc,hs,h0,hl,hn,_⟩:=YJ h1;have hT:=Zp hn;obtain⟨hE,_⟩:=Qc3 om hn List.nodup_nil
 grind[nth,Yh,YB]
theorem Qjn(t:Tre):(Qbl t).length=8+(Xy (nth t.ns 0)).length:=by
 unfold Qbl;rw[List.length_append];rfl
theorem QlC{t:Tre}(h:YM t=0):Qd (Qbl t)=(⟨t.co,t.mo,t.rm,[nth t.ns 0]⟩,0):=by
 obtain⟨h0,hu,hc,hs,hr⟩:=YZ h;obtain⟨hW,h4,hb,ha,hl⟩:=ZB h h0 hu;obtain⟨_,hm4,_⟩:=Qe6 h;have hsz:(3<=t.mo/\t.mo<=8)/\(t.mo/2<=t.rm/\t.rm<=t.mo):=by grind[XW]
 have hco:0<=t.co/\t.co<=3:=by grind[QJ]
 have hL:=Qjn t;have hcl:8<=(Xy (nth t.ns 0)).length:=by unfold Xy;rw[List.length_append,QbM];omega
 have e4:at1 (Qbl t) 4=t.co:=by have:=Q9 t.co;show((by8 t.co).toNat:Int)=_;omega
 have e5:at1 (Qbl t) 5=t.mo:=by have:=Q9 t.mo;show((by8 t.mo).toNat:Int)=_;omega
 have e6:at1 (Qbl t) 6=t.rm:=by have:=Q9 t.rm;show((by8 t.rm).toNat:Int)=_;omega
 have e7:ub1 (Qbl t) 7=(nth t.ns 0).es.length:=by have:=Q9 ((nth t.ns 0).es.length:Int);show(by8 ((nth t.ns 0).es.length:Int)).toNat=_;omega
 have e7':at1 (Qbl t) 7=((nth t.ns 0).es.length:Int):=by rw[Qjt,e7]
 have hsub:Qz (Qbl t) 8 (Xy (nth t.ns 0)).length=Xy (nth t.ns 0):=by
  show List.take _ (Xy (nth t.ns 0))=_;simp
 have hR:=Qi7 hW om hsub;unfold Qd;rw[if_neg om,if_pos (show(Qbl t).take 4=ZG from rfl),e4,e5,e6,e7',e7,if_pos hc,if_pos hs,if_pos hm4,if_pos hr,hR]
 grind
theorem Qgw{ns:List Nd}{below:List Nat}:∀{f i:Nat},Z9 ns below f i=none->∀j,i<=j->j<i+f->(nth ns j).us=true->j∈below
 | 0,i,_,j,h1,h2,_=>by omega
 | f+1,i,h,j,h1,h2,hu=>by
  rw[Z9]at h;split at h
  ·cases h
  ·rename_i hn;rcases Nat.eq_or_lt_of_le h1 with e|e
   ·grind
   ·exact Qgw h j e om hu
theorem Qiy{t:Tre}{deep:Int}:∀{vs:List Vis},(YA t deep vs).2=0->∀v∈vs,Qct t deep v=0
 | [],_,v,hv=>by cases hv
 | u::vs,h,v,hv=>by
  rw[YA]at h;split at h
  ·rename_i h1;rcases List.mem_cons.1 hv with e|e
   ·rw[e];exact h1
   ·exact Qiy h v e
  grind
theorem Qnn{t:Tre}(h:YM t=0){i:Nat}(h0:0<i)(hi:i<t.ns.length)(hu:(nth t.ns i).us=true):1<=(nth t.ns i).es.length:=by
 obtain⟨h1,h2,_⟩:=Qe6 h;obtain⟨hc,hs,hz,hl,hn,hsh,_⟩:=YJ h1;have hsz:(3<=t.mo/\t.mo<=8)/\(t.mo/2<=t.rm/\t.rm<=t.mo):=by grind[XW]
 have hop:Z9 t.ns ((Y2 t.ns).map Vis.i) t.ns.length 0=none:=by
  cases e:Z9 t.ns ((Y2 t.ns).map Vis.i) t.ns.length 0 with
  | none=>rfl
  | some k=>rw[Qch e]at hsh;cases hsh
 rw[Qcb hop]at hsh;have hin:=Qgw hop i (Nat.zero_le _) om hu;obtain⟨v,hv,rfl⟩:=List.mem_map.1 hin;have hE:=Qiy hsh v hv
 grind[Qct,nth]
structure Ixs where
 ro:List UInt8
 al:List UInt8
 bm:List UInt8
deriving DecidableEq,Inhabited
def Ixs.n(x:Ixs):Nat:=x.al.length/512
def Ixs.blk(x:Ixs)(i:Nat):List UInt8:=Qz x.al ((i-1)*512) 512
def Qao(bm:List UInt8)(j:Nat):Bool:=decide (ub1 bm (j/8)/2^(j%8)%2=1)
def ZZ(x:Ixs)(i:Nat):Bool:=decide (1<=i/\i<=x.n)&&Qao x.bm (i-1)
def QdL(x:Ixs):Bool:=(List.range (8*x.bm.length)).any λj=>decide (x.n<=j)&&Qao x.bm j
def ixE(x:Ixs):Int:=
 if x.al.length<=61440/\x.ro.length<=200000 then
  if x.al.length%512=0/\x.bm.length=Q7 ((x.n+7)/8)then
   if(Qd x.ro).2=0 then
    if QdL x then 3 else if x.n=0\/Qao x.bm (x.n-1)=true then 0 else 3
   else(Qd x.ro).2
  else 10
 else 8
def bkN(x:Ixs)(i:Nat):Nd:=if ZZ x i then(XN (x.blk i) i).n else Qk2
def bkE(x:Ixs)(i:Nat):Int:=if ZZ x i then(XN (x.blk i) i).e else if zer (x.blk i)then 0 else 3
def Qhm(x:Ixs):Nat->Nat->Option Nat
 | 0,_=>none
 | f+1,i=>if bkE x i=0 then Qhm x f (i+1)else some i
def QH(x:Ixs)(k:Nat):List Nd:=(Qd x.ro).1.ns++(List.range k).map λj=>bkN x (j+1)
def Qa5(x:Ixs):Tre:=⟨(Qd x.ro).1.co,(Qd x.ro).1.mo,(Qd x.ro).1.rm,QH x x.n⟩
def rdI(x:Ixs):(Tre×Int)×Int:=
 if ixE x=0 then
  match Qhm x x.n 1 with
  | some i=>((noT,(i:Int)),bkE x i)
  | none=>if(XV (Qa5 x)).2=0 then((Qa5 x,0),0)else((noT,(XV (Qa5 x)).1),(XV (Qa5 x)).2)
 else((noT,0),ixE x)
theorem Qcg(x:Ixs)(k:Nat):QH x (k+1)=QH x k++[bkN x (k+1)]:=by
 unfold QH;rw[List.range_succ,List.map_append,List.append_assoc];rfl
theorem Y7{x:Ixs}(h:(Qd x.ro).1.ns.length=1)(k:Nat):(QH x k).length=k+1:=by grind[QH]
theorem Qe7{x:Ixs}:∀{f i:Nat},(∀j,i<=j->j<i+f->bkE x j=0)->Qhm x f i=none
 | 0,_,_=>rfl
 | f+1,i,h=>by
  rw[Qhm,if_pos (h i (Nat.le_refl _) om)];exact Qe7 λj h1 h2=>h j om om
theorem ZE{s:List UInt8}(h:(Qd s).2=0):∃n last,rdN s 8 (ub1 s 7)=some (n,last)/\last=s.length/\Qeb (at1 s 4) n.es=true/\Qd s=(⟨at1 s 4,at1 s 5,at1 s 6,[n]⟩,0)/\16<=s.length/\s.take 4=ZG/\QJ (at1 s 4)=0/\XW (at1 s 5) (at1 s 6)=0/\at1 s 5<=4/\at1 s 7<=at1 s 6:=by grind[Qd]
theorem QcQ{x:Ixs}(h:ixE x=0):(x.al.length<=61440/\x.ro.length<=200000)/\(x.al.length%512=0/\x.bm.length=Q7 ((x.n+7)/8))/\(Qd x.ro).2=0/\QdL x=false/\(x.n=0\/Qao x.bm (x.n-1)=true):=by grind[ixE]
def QaB(ns:List Nd)(g:Nat):Nat->Nat
 | 0=>0
 | i+1=>QaB ns g i+(if(nth ns (8*g+i+1)).us=true/\8*g+i+1<ns.length then 2^i else 0)
def Zw(ns:List Nd):Nat:=Q7 ((ns.length-1+7)/8)
def bmB(ns:List Nd):List UInt8:=(List.range (Zw ns)).map λg=>by8 (QaB ns g 8:Nat)
def Y5(blk:Nat->List UInt8):Nat->List UInt8
 | 0=>[]
 | k+1=>Y5 blk k++blk (k+1)
def QeM:List UInt8:=List.replicate 512 0
def QcA(t:Tre)(i:Nat):List UInt8:=if(nth t.ns i).us=true then Qak (nth t.ns i) i 0 1 else QeM
def wrI(t:Tre):Ixs:=⟨Qbl t,Y5 (QcA t) (t.ns.length-1),bmB t.ns⟩
theorem QfK(ns:List Nd)(g:Nat):∀i,QaB ns g i<2^i
 | 0=>by simp[QaB]
 | i+1=>by
  have:=QfK ns g i
  grind[QaB]
theorem Qjy(ns:List Nd)(g:Nat){j:Nat}:∀i,j<i->QaB ns g i/2^j%2=if(nth ns (8*g+j+1)).us=true/\8*g+j+1<ns.length then 1 else 0
 | 0,h=>absurd h (Nat.not_lt_zero _)
 | i+1,h=>by
  have hlt:=QfK ns g i;rcases Nat.lt_or_ge j i with hj|hj
  ·have ih:=Qjy ns g i hj;rw[<-ih,QaB];split
   ·rw[show 2^i=2^j*(2*2^(i-j-1)) by rw[<-Nat.mul_assoc,<-Nat.pow_succ,<-Nat.pow_add];congr 1;omega,Nat.add_mul_div_left _ _ (Nat.pow_pos om)];omega
   grind
  ·obtain rfl:j=i:=by omega
   rw[QaB];split
   ·rw[Nat.add_div_right _ (Nat.pow_pos om),Nat.div_eq_of_lt hlt]
   ·rw[Nat.add_zero,Nat.div_eq_of_lt hlt]
theorem QmL(ns:List Nd):(bmB ns).length=Zw ns:=by simp[bmB]
theorem Qst(ns:List Nd)(j:Nat):Qao (bmB ns) j=decide (j+1<ns.length/\(nth ns (j+1)).us=true):=by
 unfold Qao;rcases Nat.lt_or_ge (j/8) (Zw ns)with hj|hj
 ·have h1:ub1 (bmB ns) (j/8)=QaB ns (j/8) 8:=by
   unfold ub1 bmB;rw[List.getD_eq_getElem?_getD,List.getElem?_map,List.getElem?_range hj];have:=QfK ns (j/8) 8
   grind[Q9,QaB]
  grind[Qjy,nth]
 ·have h1:ub1 (bmB ns) (j/8)=0:=by simp_all[ub1,QmL]
  have hlt:¬j+1<ns.length:=by grind[Yr,Zw]
  rw[h1,Nat.zero_div,decide_eq_false om,decide_eq_false (λh=>hlt h.1)]
theorem QbR{blk:Nat->List UInt8}(h:∀i,(blk i).length=512):∀k,(Y5 blk k).length=512*k
 | 0=>rfl
 | k+1=>by rw[Y5,List.length_append,QbR h k,h];omega
theorem QeX{blk:Nat->List UInt8}(h:∀i,(blk i).length=512){i:Nat}(h1:1<=i):∀k,i<=k->Qz (Y5 blk k) ((i-1)*512) 512=blk i
 | 0,hi=>by omega
 | k+1,hi=>by
  have hl:=QbR h k;rcases Nat.lt_or_ge k i with hk|hk
  ·grind[Y5,Qz]
  ·rw[<-QeX h h1 k hk,Y5]
   grind[Qz]
structure Holds(t:Tre)(blk:Nat->List UInt8):Prop where
 len:∀i,(blk i).length=512
 us:∀i,1<=i->i<t.ns.length->(nth t.ns i).us=true->(XN (blk i) i).n=nth t.ns i/\(XN (blk i) i).e=0
 free:∀i,1<=i->i<t.ns.length->(nth t.ns i).us=false->zer (blk i)=true
def QaA(t:Tre)(blk:Nat->List UInt8):Ixs:=⟨Qbl t,Y5 blk (t.ns.length-1),bmB t.ns⟩
theorem QpS{t:Tre}{blk:Nat->List UInt8}(h:YM t=0)(hb:Holds t blk):ixE (QaA t blk)=0/\rdI (QaA t blk)=((t,0),0):=by
 obtain⟨g1,g2,g3⟩:=Qe6 h;obtain⟨hc,hs,h0,hl,hn,_⟩:=YJ g1;have hT:=Zp hn;obtain⟨_,hu0,_⟩:=YZ h;obtain⟨hW,h4,hcl,_⟩:=ZB h h0 hu0;have hrt:=QlC h;have hal:=QbR hb.len (t.ns.length-1)
 have hN:(QaA t blk).n=t.ns.length-1:=by
  show(Y5 blk (t.ns.length-1)).length/512=_;rw[hal];omega
 have hro:(Qd (QaA t blk).ro)=(⟨t.co,t.mo,t.rm,[nth t.ns 0]⟩,0):=hrt;have hbit:∀j,Qao (QaA t blk).bm j=decide (j+1<t.ns.length/\(nth t.ns (j+1)).us=true):=λj=>Qst t.ns j;have hblk:∀i,1<=i->i<t.ns.length->(QaA t blk).blk i=blk i:=λi a b=>QeX hb.len a _ om
 have hnam:∀i,1<=i->i<t.ns.length->ZZ (QaA t blk) i=(nth t.ns i).us:=λi a b=>by
  unfold ZZ;rw[hN,hbit,show i-1+1=i by omega,decide_eq_true (show 1<=i/\i<=t.ns.length-1 by omega)];simp[b]
 have hE:ixE (QaA t blk)=0:=by
  unfold ixE;rw[if_pos (show(QaA t blk).al.length<=61440/\(QaA t blk).ro.length<=200000 from⟨by show(Y5 blk _).length<=_;rw[hal];omega,by show(Qbl t).length<=_;rw[Qjn];omega⟩)];rw[if_pos (show(QaA t blk).al.length%512=0/\(QaA t blk).bm.length=Q7 (((QaA t blk).n+7)/8)from⟨by show(Y5 blk _).length%_=_;rw[hal];omega,by rw[hN];exact QmL t.ns⟩)];rw[if_pos (show(Qd (QaA t blk).ro).2=0 by rw[hro])];have ho:QdL (QaA t blk)=false:=by grind[QdL,QaA]
  rw[ho];simp only[Bool.false_eq_true,if_false];rw[if_pos];rw[hN,hbit];rcases Nat.eq_zero_or_pos (t.ns.length-1)with hz|hz
  ·exact .inl hz
  ·refine .inr (decide_eq_true ?_);rw[show t.ns.length-1-1+1=t.ns.length-1 by omega];refine⟨om,?_⟩;cases hu:(nth t.ns (t.ns.length-1)).us with
   | true=>rfl
   | false=>have:=(hT.free _ om hu).1.2;omega
 have hbk:∀i,1<=i->i<t.ns.length->bkN (QaA t blk) i=nth t.ns i/\bkE (QaA t blk) i=0:=λi a b=>by
  unfold bkN bkE;rw[hnam i a b,hblk i a b];cases hu:(nth t.ns i).us with
  | true=>
   obtain⟨e1,e2⟩:=hb.us i a b hu;exact⟨e1,e2⟩
  | false=>
   obtain⟨_,e2,e3⟩:=hT.free i b hu;refine⟨?_,?_⟩
   ·show Qk2=_;have:nth t.ns i=⟨(nth t.ns i).us,(nth t.ns i).es,(nth t.ns i).cs⟩:=rfl;rw[this,hu,e2,e3];rfl
   ·show(if zer (blk i)then(0:Int)else 3)=0;rw[hb.free i a b hu];rfl
 have hbad:Qhm (QaA t blk) (QaA t blk).n 1=none:=Qe7 λj a b=>(hbk j a (by rw[hN]at b;omega)).2
 have htr:Qa5 (QaA t blk)=t:=by
  unfold Qa5 QH;rw[hro,hN]
  have:[nth t.ns 0]++(List.range (t.ns.length-1)).map (λj=>bkN (QaA t blk) (j+1))=t.ns:=by
   apply List.ext_getElem?
   grind[hi,Xk]
  simp_all
 grind[rdI]
theorem QbA:QeM.length=512:=List.length_replicate ..
theorem QjM{t:Tre}(h:YM t=0):Holds t (QcA t)/\wrI t=QaA t (QcA t):=by
 obtain⟨g1,g2,g3⟩:=Qe6 h;obtain⟨hc,hs,h0,hl,hn,_⟩:=YJ g1
 have hlen:∀i,i<t.ns.length->(QcA t i).length=512:=λi hi=>by
  unfold QcA;split
  ·rename_i hu;have:=ZB h hi hu;exact QbS (QaJ om)
  ·exact QbA
 refine⟨⟨λi=>?_,λi a b hu=>?_,λi a b hu=>?_⟩,rfl⟩
 ·rcases Nat.lt_or_ge i t.ns.length with hi|hi
  ·exact hlen i hi
  ·unfold QcA;rw[if_neg]
   ·exact QbA
   ·unfold nth;rw[List.getD_eq_getElem?_getD,List.getElem?_eq_none hi];intro hh;cases hh
 ·grind[ZB,Qnn,QkT,QcA]
 ·unfold QcA;rw[hu];exact Qdk 512
theorem Qwo{t:Tre}(h:YM t=0):rdI (wrI t)=((t,0),0):=by simp_all[QjM,QpS]
end Gx
namespace Go.Proofs
open Go Go.RowKit Gx
attribute [local irreducible] Go.Calls Gx.S Gx.O Gx.D Gx.OpP Gx.OpQ Gx.OpH
set_option maxRecDepth 20000
theorem QqQ:QY Tryz.prog 87=true:=by kernel_rfl
instance:TFn Tryz.prog 87:=⟨QqQ⟩
theorem QbI:QY Tryz.prog 60=true:=by kernel_rfl
instance:TFn Tryz.prog 60:=⟨QbI⟩
instance:TFn Tryz.prog 192:=⟨by kernel_rfl⟩
theorem Qiq:QY Tryz.prog 131=true:=by kernel_rfl
instance:TFn Tryz.prog 131:=⟨Qiq⟩
theorem Qap:X9 Tryz.prog 5=some [.int .u8 0]:=by kernel_rfl
theorem QlQ:QY Tryz.prog 152=true:=by kernel_rfl
theorem QpX:QY Tryz.prog 153=true:=by kernel_rfl
theorem c87(w:World)(n lo hi:Int):CR 87 #[.int .i64 n,.int .i64 lo,.int .i64 hi] w (.bool (decide (lo<=n)&&decide (n<=hi))):=by
 refine eN3 Tryz.func87 Tryz.ntmps87 ?_
 refine Za ?_
 refine XF 4 10 14 rfl
  (λhg1 _=>by
   refine aU6 ?_
   exact oJt 4 14)
  (λhg3 _=>by
   refine aU3 ?_
   exact oJf 4 14) ?_
 refine aU2 ?_
 exact rV
theorem c205(w:World)(n lo hi:Int):CR 205 #[.int .i64 n,.int .i64 lo,.int .i64 hi] w (.bool (decide (lo<=n)&&decide (n<=hi))):=by
 refine eN3 Tryz.func205 Tryz.ntmps205 ?_
 refine Za ?_
 refine XF 4 10 14 rfl
  (λhg1 _=>by
   refine aU6 ?_
   exact oJt 4 14)
  (λhg3 _=>by
   refine aU3 ?_
   exact oJf 4 14) ?_
 refine aU2 ?_
 exact rV
theorem c60(w:World)(ok:Bool)(e:Int):CR 60 #[.bool ok,.int .i64 e] w (.int .i64 (cond ok 0 e)):=by
 refine eN2 Tryz.func60 Tryz.ntmps60 ?_
 refine aU9 ?_
 refine sCd rfl (λh1=>?_) λh1=>?_
 ·refine aU4 ?_
  exact rV (h:=by simp_all[Xf])
 refine aU6 ?_
 exact rV (h:=by simp_all[Xf])
theorem Qt4(w:World)(ok:Bool)(e:Int):CR 192 #[.bool ok,.int .i64 e] w (.int .i64 (cond ok 0 e)):=by
 refine eN2 Tryz.func192 Tryz.ntmps192 ?_
 refine aU9 ?_
 refine sCd rfl (λh1=>?_) λh1=>?_
 ·refine aU4 ?_
  exact rV (h:=by simp_all[Xf])
 refine aU6 ?_
 exact rV (h:=by simp_all[Xf])
theorem c59(w:World)(a:Option Addr)(cap:Nat)(es:List Int)(hs:Sl w [] a 1 es.length (λi=>[.int .i64 (es.getD i 0)]))(hm:es.length<=1000):CR 59 #[.slice a es.length cap] w (.int .i64 (Zq es)):=by
 refine eN1 Tryz.func59 Tryz.ntmps59 ?_
 refine Zx ?_
 refine Qx (α:=Nat) [2,4,7,8,9,10,11,12,13,14] (λk=>[(7,.int .i64 (k:Int))]) (λ_=>_) (λk=>k<=es.length/\Zq es=Zq (es.drop k)) (λk=>es.length-k) 0 ⟨om,rfl⟩ aSx (λw h=>h) (λk hk=>?_)
 obtain⟨hk1,hk2⟩:=hk
 refine aU5 ?_
 refine sCd rfl (λh1=>?_) λh1=>?_
 ·refine aU5 ?_
  refine o_p (Qa rfl rfl rfl Yo _ rfl om (hs.some om)) rfl (o_q (Qc rfl rfl Qrh (hs.rd (i:=k) (j:=0) om rfl)) rfl (aU7 ?_))
  refine sCd rfl (λh2=>?_) λh2=>?_
  ·refine aU5 ?_
   exact rV (h:=by simp only[Xf];rw[hk2,ZQ om,if_neg (by assumption)])
  refine aT4 ?_
  refine aU2 ?_
  exact Q1 (k+1) om ⟨om,by rw[hk2,ZQ om,if_pos (by assumption)]⟩ aSx (λw h=>h)
 refine Qn rfl ?_
 refine aU4 ?_
 exact rV (h:=by simp only[Xf];rw[hk2,Qd8 om])
theorem f59{w0 w:World}{M:List Nat}{As As':List HA}{b cap n:Nat}{t:TypeId}{tot:Nat}{cs:List Value}(h:HS w0 M As w)(hp:QE As (.blk b t tot cs) As')(hc:cs.all QhC=true)(hn:cs.length=n)(hl:n<=1000) :
    Calls Tryz.prog 59 #[.slice (some ⟨b,0,none⟩) n cap] w λen w'=>en=.returned (.int .i64 (Xr cs))/\Below w.heap.size w w':=by
  subst hn;have:=c59 w (some ⟨b,0,none⟩) cap (cs.map Go.RowKit.intOf) (by simpa using h.sl_ints hp hc) (by simpa using hl);rw[Qdz hc]at this
  simpa using this
theorem c203(w:World)(a:Option Addr)(cap:Nat)(es:List Int)(hs:Sl w [] a 1 es.length (λi=>[.int .i64 (es.getD i 0)]))(hm:es.length<=1000):CR 203 #[.slice a es.length cap] w (.int .i64 (Zq es)):=by
 refine eN1 Tryz.func203 Tryz.ntmps203 ?_
 refine Zx ?_
 refine Qx (α:=Nat) [2,4,7,8,9,10,11,12,13,14] (λk=>[(7,.int .i64 (k:Int))]) (λ_=>_) (λk=>k<=es.length/\Zq es=Zq (es.drop k)) (λk=>es.length-k) 0 ⟨om,rfl⟩ aSx (λw h=>h) (λk hk=>?_)
 obtain⟨hk1,hk2⟩:=hk
 refine aU5 ?_
 refine sCd rfl (λh1=>?_) λh1=>?_
 ·refine aU5 ?_
  refine o_p (Qa rfl rfl rfl Yo _ rfl om (hs.some om)) rfl (o_q (Qc rfl rfl Qrh (hs.rd (i:=k) (j:=0) om rfl)) rfl (aU7 ?_))
  refine sCd rfl (λh2=>?_) λh2=>?_
  ·refine aU5 ?_
   exact rV (h:=by simp only[Xf];rw[hk2,ZQ om,if_neg (by assumption)])
  refine aT4 ?_
  refine aU2 ?_
  exact Q1 (k+1) om ⟨om,by rw[hk2,ZQ om,if_pos (by assumption)]⟩ aSx (λw h=>h)
 refine Qn rfl ?_
 refine aU4 ?_
 exact rV (h:=by simp only[Xf];rw[hk2,Qd8 om])
theorem f203{w0 w:World}{M:List Nat}{As As':List HA}{b cap n:Nat}{t:TypeId}{tot:Nat}{cs:List Value}(h:HS w0 M As w)(hp:QE As (.blk b t tot cs) As')(hc:cs.all QhC=true)(hn:cs.length=n)(hl:n<=1000) :
    Calls Tryz.prog 203 #[.slice (some ⟨b,0,none⟩) n cap] w λen w'=>en=.returned (.int .i64 (Xr cs))/\Below w.heap.size w w':=by
  subst hn;have:=c203 w (some ⟨b,0,none⟩) cap (cs.map Go.RowKit.intOf) (by simpa using h.sl_ints hp hc) (by simpa using hl);rw[Qdz hc]at this
  simpa using this
theorem c88(w:World)(x:TEnt)(hk:x.key.length<=1000000)(hv:x.val.length<=1000000):CR 88 #[.agg #[.string (bs x.key),.string (bs x.val)]] w (.bool (YS x)):=by
 refine eN1 Tryz.func88 Tryz.ntmps88 ?_
 refine aU2 ?_
 refine oBx λb1 _=>?_
 refine aU6 ?_
 refine o_p (Qp rfl rfl Tryz.underlying9) rfl (aU2 ?_)
 refine o_p (Qp rfl rfl Tryz.underlying9) rfl (aT ?_)
 refine aU3 ?_
 exact rV (h:=by simp only[Xf,YS];congr 2;congr 1;first|omega|(rw[eq_iff_iff];omega)|(apply decide_eq_decide.2;omega))
theorem c100(w:World)(n:Int):CR 100 #[.int .i64 n] w (.int .i64 (cond (decide (0<=n)&&decide (n<=2147483647)) 0 2)):=by
 refine eN1 Tryz.func100 Tryz.ntmps100 ?_
 refine aU7 ?_
 refine oCq rfl (λw1 h1=>c87 w1 _ _ _) (oCq rfl (λw1 h1=>c60 w1 _ _) (aU2 ?_))
 exact rV
theorem Qvh(w:World)(s:List UInt8):CR 129 #[.string (bs s)] w (.int .i64 (cond (decide ((s.length:Int)=512)) 0 10)):=by
 refine eN1 Tryz.func129 Tryz.ntmps129 ?_
 refine aU7 ?_
 refine o_p (Qp rfl rfl Tryz.underlying9) rfl (aU ?_)
 refine oCq rfl (λw1 h1=>Qt4 w1 _ _) (aU2 ?_)
 exact rV
theorem Qsd(w:World)(a:Option Addr)(m cap:Nat)(x:List UInt8)(hs:Vl w a (x.map bv))(hm:x.length=m)(h2:2<=m)(hc:m<=cap)(hc9:cap<=9223372036854775807):CR 131 #[.slice a m cap] w (.int .u16 (at2 x 0)):=by
 refine eN1 Tryz.func131 Tryz.ntmps131 ?_
 refine aU5 ?_
 refine Qt [] QC ?_
 refine dP 0 ?_
 refine dV 1 rfl (Qa rfl rfl rfl Q0 0 rfl om (hs.some (by rw[List.length_map];omega))) (dQ 2 [] rfl (Qc rfl rfl Qef ((hs.rd (i:=0) (QaP (l:=x) (k:=0) om)))) (dV 3 rfl (Qy rfl rfl ZU YR) (dP 4 ?_)))
 refine dV 5 rfl (Qa rfl rfl rfl Q0 1 rfl om (hs.some (by rw[List.length_map];omega))) (dQ 6 [] rfl (Qc rfl rfl Qef ((hs.rd (i:=1) (QaP (l:=x) (k:=1) om)))) (dV 7 rfl (Qy rfl rfl ZU YR) (dV 8 rfl (QgK rfl rfl rfl (by decide) 8 rfl) (dP 9 ?_))))
 refine dP 10 ?_
 refine dNi ?_
 exact rV (h:=by rw[<-Qj3];rfl)
theorem c132(w:World)(a:Option Addr)(m cap:Nat)(x:List UInt8)(hs:Vl w a (x.map bv))(hm:x.length=m)(h2:4<=m)(hc:m<=cap)(hc9:cap<=9223372036854775807):CR 132 #[.slice a m cap] w (.int .u32 (at4 x 0)):=by
 have hx2:=Qbn x 0
 have hx3:=Qbn x 2
 refine eN1 Tryz.func132 Tryz.ntmps132 ?_
 refine aU5 ?_
 refine Qt [] QC ?_
 refine dP 0 ?_
 refine dQ 1 [] rfl (Qv rfl Qiq rfl (λw1 h1=>Qsd w1 a m cap x (hs.later h1) hm om hc hc9)) (dV 2 rfl (Qy rfl rfl YR ZA) (dP 3 ?_))
 refine dV 4 rfl (QG _ _ 2 m rfl rfl Q0 ⟨_,_,rfl,rfl⟩ rfl om om) (dQ 5 [] rfl (Qv rfl Qiq rfl (λw1 h1=>Qsd w1 (YY a cap 2 1) (m-2) (cap-2) (x.drop 2) (by rw[List.map_drop];exact(hs.later h1).drop (by rw[List.length_map];omega) om) (by rw[List.length_drop];omega) om om om)) (dV 6 rfl (Qy rfl rfl YR ZA) (dV 7 rfl (QgK rfl rfl rfl (by decide) 16 rfl) (dP 8 ?_))))
 refine dP 9 ?_
 refine dNi ?_
 exact rV (h:=by have h9:=Qjr (at2 x 0) (at2 (x.drop 2) 0) (Qbn _ _) (Qbn _ _);rw[QbW]at h9 ⊢;exact(congrArg Ending.returned h9))
theorem Quo(w:World)(a:Option Addr)(cap:Nat)(l:List UInt8)(n:Int)(hw:HS w (fps [.byz a cap (l)]) [.byz a cap (l)] w)(hn:0<=n/\n<65536)(hl:l.length<=1000000):CE 152 #[.slice a l.length cap,.int .u16 n] w (fps [.byz a cap (l)]) (λg:Option Addr×Nat=>.slice g.1 (l++le2 n).length g.2) (λg=>QcR a cap g (l++le2 n).length) λg=>[.byz g.1 g.2 (l++le2 n)]:=by
 refine eW2 Tryz.func152 Tryz.ntmps152 hw ?_
 refine aU8 ?_
 refine o_p (Qy rfl rfl YR ZU) rfl (Qh (YQ _) (aU ?_))
 refine o_p (Qed rfl rfl rfl (by decide) 8 rfl) rfl (o_p (Qy rfl rfl YR ZU) rfl (Qh (show _=bv (by8 (n/256))from YQ _) (o_h (Qe (cs:=[_,_]) rfl rfl Q0 Qap rfl rfl rfl) rfl (λb1 _=>?_))))
 refine o_h (QaE [by8 n,by8 (n/256)] rfl rfl rfl Q0 Tryz.underlying139 Qap aPk (Xb aPk) (by simp only[List.length_append,List.length_cons,List.length_nil,le2,le4]<;>omega) (by simp only[maxLen,List.length_append,List.length_cons,List.length_nil,le2,le4]<;>omega)) rfl (λ⟨b2,c3⟩h4=>aU2 ?_)
 exact rT rfl rfl (λw' h'=>⟨(b2,c3),rfl,h4,h'.ent aEt⟩)
theorem QvZ(w:World)(a:Option Addr)(cap:Nat)(l:List UInt8)(n:Int)(hw:HS w (fps [.byz a cap (l)]) [.byz a cap (l)] w)(hn:0<=n)(hl:l.length<=1000000):CE 152 #[.slice a l.length cap,.int .u16 (n%65536)] w (fps [.byz a cap (l)]) (λg:Option Addr×Nat=>.slice g.1 (l++le2 n).length g.2) (λg=>QcR a cap g (l++le2 n).length) λg=>[.byz g.1 g.2 (l++le2 n)]:=by
  have h9:=Quo w a cap l (n%65536) hw om hl;rw[Qqc]at h9;exact h9
theorem c153(w:World)(a:Option Addr)(cap:Nat)(l:List UInt8)(n:Int)(hw:HS w (fps [.byz a cap (l)]) [.byz a cap (l)] w)(hn:0<=n/\n<4294967296)(hl:l.length<=1000000):CE 153 #[.slice a l.length cap,.int .u32 n] w (fps [.byz a cap (l)]) (λg:Option Addr×Nat=>.slice g.1 (l++le4 n).length g.2) (λg=>QcR a cap g (l++le4 n).length) λg=>[.byz g.1 g.2 (l++le4 n)]:=by
 have he9:l++le4 n=(l++le2 n)++[by8 (n/65536),by8 (n/16777216)]:=by rw[Qvl,List.append_assoc]
 refine eW2 Tryz.func153 Tryz.ntmps153 hw ?_
 refine aU8 ?_
 refine o_p (Qy rfl rfl ZA YR) rfl (Qh (show _=Value.int .u16 (n%65536)from by rw[Qkv]) (o_h (QM (Cs:=[.byz a cap (l)]) rfl QlQ rfl aPs (λw1 h1 hf=>QvZ w1 a cap l n hf om hl)) rfl (λ⟨b1,c2⟩hz3=>aU ?_)))
 refine o_p (Qed rfl rfl rfl (by decide) 16 rfl) rfl (o_p (Qy rfl rfl ZA ZU) rfl (Qh (show _=bv (by8 (n/65536))from YQ _) (aU ?_)))
 refine o_p (Qed rfl rfl rfl (by decide) 24 rfl) rfl (o_p (Qy rfl rfl ZA ZU) rfl (Qh (show _=bv (by8 (n/16777216))from YQ _) (o_h (Qe (cs:=[_,_]) rfl rfl Q0 Qap rfl rfl rfl) rfl (λb4 _=>?_))))
 refine o_h (QaE (l:=l++le2 n) [by8 (n/65536),by8 (n/16777216)] rfl rfl rfl Q0 Tryz.underlying139 Qap aPk (Xb aPk) (by simp only[List.length_append,List.length_cons,List.length_nil,le2,le4]<;>omega) (by simp only[maxLen,List.length_append,List.length_cons,List.length_nil,le2,le4]<;>omega)) rfl (λ⟨b5,c6⟩h7=>aU2 ?_)
 exact rT rfl rfl (λw' h'=>⟨(b5,c6),by rw[he9];rfl,by rw[he9];exact(hz3).trans h7 (by simp only[List.length_append];omega),by rw[he9];exact h'.ent aEt⟩)
theorem c154(w:World)(a:Option Addr)(cap:Nat)(l:List UInt8)(hw:HS w (fps [.byz a cap (l)]) [.byz a cap (l)] w)(hl:l.length<=1000000):CE 154 #[.slice a l.length cap] w (fps [.byz a cap (l)]) (λg:Option Addr×Nat=>.slice g.1 (l++List.replicate (Q7 l.length-l.length) 0).length g.2) (λg=>QcR a cap g (l++List.replicate (Q7 l.length-l.length) 0).length) λg=>[.byz g.1 g.2 (l++List.replicate (Q7 l.length-l.length) 0)]:=by
 have hp8:=Yr l.length
 have hm8:Q7 l.length%8=0:=by unfold Q7;omega
 refine eW1 Tryz.func154 Tryz.ntmps154 hw ?_
 refine aU6 ?_
 refine Qx (α:=Nat×Option Addr×Nat) [0,3,4,5,6,7,8,9] (λx=>[(0,.slice x.2.1 (l++List.replicate x.1 0).length x.2.2)]) (λx=>HS w (fps [.byz a cap (l)]) [.byz x.2.1 x.2.2 (l++List.replicate x.1 0)]) (λx=>x.1<=(Q7 l.length-l.length)/\QcR a cap (x.2.1,x.2.2) (l++List.replicate x.1 0).length) (λx=>(Q7 l.length-l.length)-x.1) (0,a,cap) ⟨Nat.zero_le _,λ_=>⟨rfl,rfl⟩⟩ (by simp only[List.replicate_zero,List.append_nil];exact aSx) (λw h=>(by simp only[List.replicate_zero,List.append_nil];exact h.ent aEt)) (λ⟨k,a2,c2⟩hk1=>?_)
 dsimp only
 simp only[]at hk1
 obtain⟨hk2,hk3⟩:=hk1
 have hlk:(l++List.replicate k 0).length=l.length+k:=by simp
 refine aU5 ?_
 refine o_p (Zd rfl rfl rfl om om) rfl (aU2 ?_)
 refine sCd rfl (λh1=>?_) λh1=>?_
 ·have hk:k<(Q7 l.length-l.length):=by have hq:=h1;rw[hlk]at hq;omega
  have hrep:l++List.replicate (k+1) 0=(l++List.replicate k 0)++[0]:=by rw[List.replicate_succ',List.append_assoc]
  refine aU4 ?_
  refine o_h (Qe (cs:=[_]) rfl rfl Q0 Qap rfl rfl rfl) rfl (λb2 _=>?_)
  refine o_h (QaE (l:=l++List.replicate k 0) [0] rfl rfl rfl Q0 Tryz.underlying139 Qap aPk (Xb aPk) (by simp only[List.length_replicate,List.length_append,List.length_cons,List.length_nil,le2,le4]<;>omega) (by simp only[maxLen,List.length_replicate,List.length_append,List.length_cons,List.length_nil,le2,le4]<;>omega)) rfl (λ⟨b3,c4⟩h5=>aU3 ?_)
  exact Q1 (k+1,b3,c4) (by(try simp only[]);omega) (by simp only[];rw[hrep];exact⟨om,hk3.trans h5 (by simp only[List.length_append];omega)⟩) (by dsimp only;rw[hrep];exact aSx) (λw h=>by dsimp only;rw[hrep];exact h.ent aEt)
 have hk:k=(Q7 l.length-l.length):=by have hq:=h1;rw[hlk]at hq;omega
 subst hk
 refine Qn rfl ?_
 refine aU5 ?_
 exact rT rfl rfl (λw' h'=>⟨(a2,c2),rfl,hk3,h'.ent aEt⟩)
theorem c156(w:World)(a:Option Addr)(cap:Nat)(l:List UInt8)(c:Int)(hw:HS w (fps [.byz a cap (l)]) [.byz a cap (l)] w)(hc9:0<=c/\c<4294967296)(hl:l.length<=900000):CE 156 #[.slice a l.length cap,.int .i64 c] w (fps [.byz a cap (l)]) (λg:Option Addr×Nat=>.slice g.1 (l++Qbt c).length g.2) (λg=>QcR a cap g (l++Qbt c).length) λg=>[.byz g.1 g.2 (l++Qbt c)]:=by
 have he9:l++Qbt c=((l++le2 8)++[0,0])++le4 c:=by simp only[Qbt,List.append_assoc]
 have l2:(l++le2 8).length=l.length+2:=by rw[List.length_append];rfl
 have l3:((l++le2 8)++[0,0]).length=l.length+4:=by rw[List.length_append,l2];rfl
 refine eW2 Tryz.func156 Tryz.ntmps156 hw ?_
 refine aU7 ?_
 refine o_h (QM (Cs:=[.byz a cap (l)]) rfl QlQ rfl aPs (λw1 h1 hf=>Quo w1 a cap l 8 hf om om)) rfl (λ⟨b1,c2⟩hz3=>aU5 ?_)
 refine o_h (Qe (cs:=[_,_]) rfl rfl Q0 Qap rfl rfl rfl) rfl (λb4 _=>?_)
 refine o_h (QaE (l:=l++le2 8) [0,0] rfl rfl rfl Q0 Tryz.underlying139 Qap aPk (Xb aPk) (by simp only[List.length_append,List.length_cons,List.length_nil,le2,le4]<;>omega) (by simp only[maxLen,List.length_append,List.length_cons,List.length_nil,le2,le4]<;>omega)) rfl (λ⟨b5,c6⟩h7=>aU6 ?_)
 refine o_p (Qy rfl rfl Y1 ZA) rfl (Qh (show _=Value.int .u32 c from by rw[Qfo];congr 1;omega) (o_h (QM (Cs:=[.byz b5 c6 ((l++le2 8)++[0,0])]) rfl QpX rfl aPs (λw1 h1 hf=>c153 w1 b5 c6 ((l++le2 8)++[0,0]) c hf hc9 om)) rfl (λ⟨b8,c9⟩hz10=>aU2 ?_)))
 exact rT rfl rfl (λw' h'=>⟨(b8,c9),by rw[he9];rfl,by rw[he9];exact((hz3).trans h7 (by simp only[List.length_append];omega)).trans hz10 (by simp only[List.length_append];omega),by rw[he9];exact h'.ent aEt⟩)
end Go.Proofs
namespace Gx
open Go Go.RowKit
theorem Qru{s:List UInt8}{k:Nat}(h:k<s.length):zer (s.take (k+1))=(zer (s.take k)&&decide (s.getD k 0=0)):=by
 unfold zer;rw[List.take_add_one,List.getElem?_eq_getElem h,List.all_append,List.getD_eq_getElem?_getD,List.getElem?_eq_getElem h];simp
theorem Qva{s:List UInt8}{k:Nat}(h:k<s.length)(h2:¬s.getD k 0=0):zer s=false:=by
 cases hb:zer s with
 | false=>rfl
 | true=>
  unfold zer at hb;have:=List.all_eq_true.1 hb _ (List.getElem_mem h)
  grind
theorem QkC{u:UInt8}:(u.toNat:Int)=0 ↔ u=0:=by
 constructor
 ·intro h;exact UInt8.toNat_inj.1 (by have:(0:UInt8).toNat=0:=rfl;omega)
 simp_all
def YV(x:TEnt)(c:Int):Int:=if 1<=x.key.length/\x.key.length<=40 then if x.key.length+x.val.length<=88 then if 0<=c/\c<=120 then 0 else 2 else 8 else 3
structure NdP(n:Nd):Prop where
 el:n.es.length<=1000
 es:∀x∈n.es,x.key.length<=300/\x.val.length<=300
 cl:n.cs.length=0\/n.cs.length=n.es.length+1
 cs:∀c∈n.cs,0<=c/\c<4294967296
theorem NdW.ndp{n:Nd}(h:NdW n)(hl:n.es.length<=1000):NdP n:=
 ⟨hl,λx hx=>by have:=h.es x hx;simp only[Yy,decide_eq_true_eq]at this;omega,h.cl,λc hc=>by have:=h.cs c hc;omega⟩
theorem NdP.kid{n:Nd}(h:NdP n){i:Nat}(hi:i<=n.es.length):0<=Xw n.cs i/\Xw n.cs i<4294967296:=by
 unfold Xw;split
 ·omega
 ·have hl:i<n.cs.length:=by have:=h.cl;omega
  rw[List.getD_eq_getElem?_getD,List.getElem?_eq_getElem hl];exact h.cs _ (List.getElem_mem hl)
theorem QsE{n m:Nat}(h:n<=8*m):Q7 n<=8*m:=by unfold Q7;omega
theorem QrJ{n m:Nat}(h:n%8=0):Q7 (n+m)=n+Q7 m:=by unfold Q7;omega
theorem NdP.ents{n:Nd}(h:NdP n):∀k,k<=n.es.length->(Xi n k).length<=608*k/\(Xi n k).length%8=0
 | 0,_=>by simp[Xi]
 | k+1,hk=>by
  have ih:=h.ents k om;have hx:=h.es _ (QI (show k<n.es.length by omega));have hsz:(nth n.es k).sz=8+(nth n.es k).key.length+(nth n.es k).val.length:=rfl
  grind[QsE,nth,Q7,Xi,Qec]
def Qit(n:Nd)(k:Nat):List UInt8:=if k<=n.es.length then Xi n k else Xy n
theorem Qnp{n:Nd}{k:Nat}(h:k<=n.es.length):Qit n k=Xi n k:=if_pos h
theorem QjS(n:Nd):Qit n (n.es.length+1)=Xy n:=if_neg om
theorem Qon{n:Nd}{k:Nat}(h:k<n.es.length):Qit n (k+1)=Xi n k++YD (nth n.es k) (Xw n.cs k):=by
 rw[Qnp om];rfl
end Gx
namespace Go.Proofs
open Go Go.RowKit Gx
attribute [local irreducible] Go.Calls Gx.S Gx.O Gx.D Gx.OpP Gx.OpQ Gx.OpH
set_option maxRecDepth 20000
instance:TFn Tryz.prog 178:=⟨by kernel_rfl⟩
theorem Qqg:QY Tryz.prog 121=true:=by kernel_rfl
instance:TFn Tryz.prog 121:=⟨Qqg⟩
theorem QnL:QY Tryz.prog 95=true:=by kernel_rfl
instance:TFn Tryz.prog 95:=⟨QnL⟩
theorem Qcn:QY Tryz.prog 94=true:=by kernel_rfl
instance:TFn Tryz.prog 94:=⟨Qcn⟩
theorem Qm5:QY Tryz.prog 86=true:=by kernel_rfl
instance:TFn Tryz.prog 86:=⟨Qm5⟩
theorem c94(w:World)(n:Int)(c:Nat)(hn:0<=n/\n<=9223372036854775807)(hc:c<=1000):CR 94 #[.int .i64 n,.int .i64 (c:Int)] w (.string (bs (Qcr c n))):=by
 refine eN2 Tryz.func94 Tryz.ntmps94 ?_
 refine QeV ?_
 refine Qx (α:=Nat×Int×List UInt8×Option Addr×Nat) [0,5,6,7,8,9,10,11,12,13,14,15,16,17,18,19] (λx=>[(6,.int .i64 (x.1:Int)),(0,.int .i64 x.2.1),(5,.slice x.2.2.2.1 x.2.2.1.length x.2.2.2.2)]) (λx=>HS w [] [.own (.slice x.2.2.2.1 x.2.2.1.length x.2.2.2.2) 5 1 (x.2.2.1.length) ((x.2.2.1).map bv)]) (λx=>x.1<=c/\x.2.2.1.length=x.1/\(0<=x.2.1/\x.2.1<=9223372036854775807)/\Qcr c n=x.2.2.1++Qcr (c-x.1) x.2.1) (λx=>c-x.1) (0,n,[],none,0) ⟨Nat.zero_le _,rfl,hn,rfl⟩ aSx (λw h=>(h.own_nil 5 1).ent aEt) (λ⟨k,m,p,ga,gc⟩hx=>?_)
 dsimp only
 obtain⟨hk1,hpl,hm,hst⟩:=hx
 simp only[]at hk1 hpl hm hst
 refine aU7 ?_
 refine sCd rfl (λh1=>?_) λh1=>?_
 ·have hk:k<c:=by omega
  refine aU7 ?_
  refine o_p (Zd rfl rfl rfl om om) rfl (o_p (Qy rfl rfl Y1 ZU) rfl (Qh (show _=bv (by8 m)from(YQ _).trans (by rw[QdZ (show m%256%256=m%256 by omega)])) (o_h (Qe (cs:=[_]) rfl rfl Q0 Qap rfl rfl rfl) rfl (λb2 _=>o_h (QL _ rfl rfl rfl Q0 Tryz.underlying139 Qap rfl aPk (Xb aPk) rfl (by intro u hu;simp only[List.mem_cons,List.mem_nil_iff,or_false]at hu;subst hu;rfl) om (by simp only[maxLen];omega)) rfl (λb3 _=>aU4 ?_)))))
  refine o_p (XQ rfl rfl rfl om om om) rfl (aT6 ?_)
  refine aU2 ?_
  exact Q1 (k+1,m/256,p++[by8 m],b3.1,b3.2) (by(try simp only[]);omega) ⟨by(try simp only[]);omega,by simp[hpl],by(try simp only[]);omega,by simp only[];rw[hst,show c-k=(c-(k+1))+1 by omega,Qcr,List.append_assoc];rfl⟩ (by dsimp only;rw[List.length_append];exact aSx) (λw h=>by dsimp only;rw[List.length_append,List.map_append];exact h.ent aEt)
 obtain rfl:k=c:=om
 rw[Nat.sub_self,Qcr,List.append_nil]at hst
 refine Qn rfl ?_
 refine aU3 ?_
 refine o_q (ZW rfl rfl Tryz.underlying139 Tryz.underlying9 Tryz.underlying5 aPk (Zy _)) rfl (aU2 ?_)
 exact rV (h:=by rw[Y4,hst];rfl)
theorem Qeo(c:Nat):YE [.int .u8 0] (c*1)=(List.replicate c (0:UInt8)).map bv:=by
  rw[Nat.mul_one,List.map_replicate];exact QcO _ _
theorem QrP{m:Int}(h:0<=m/\m<=1000000000000):Value.int .i64 (IntKind.i64.wrap ((-m).tdiv 8))=Value.int .i64 (-(m/8)):=by
  rw[Int.neg_tdiv,Int.tdiv_eq_ediv_of_nonneg h.1];exact QeP om om
theorem QoP{m:Int}(h:0<=m):(-m).tmod 8= -(m%8):=by rw[Int.neg_tmod,Int.tmod_eq_emod_of_nonneg h]
theorem c86(w:World)(c:Nat)(hc:c<=100000):CR 86 #[.int .i64 (c:Int)] w (.string (bs (List.replicate c 0))):=by
 refine eN1 Tryz.func86 Tryz.ntmps86 ?_
 refine aU7 ?_
 refine o_p (QvK rfl rfl rfl ) rfl (o_p (QeU rfl rfl rfl ) rfl ?_)
 refine Qh (show _=Value.int .i64 (c:Int)from congrArg (Value.int .i64) (by split<;>split<;>omega)) (o_h (Qfc (n:=c) rfl rfl rfl Q0 Qap om om) rfl (λb1 _=>o_q (YC rfl rfl Tryz.underlying139 Tryz.underlying9 Tryz.underlying5 aPk (by simp[Q6]) (by intro v hv;rw[Qeo]at hv;exact Zy _ v hv)) rfl (aU2 ?_)))
 exact rV (h:=by rw[Qeo,Y4];rfl)
theorem c53(w:World)(s:List UInt8)(hm:s.length<=1000000000):CR 53 #[.string (bs s)] w (.bool (zer s)):=by
 refine eN1 Tryz.func53 Tryz.ntmps53 ?_
 refine Za ?_
 refine Qx (α:=Nat) [2,3,4,5,6,7,8,9,10,11,12,13] (λk=>[(3,.int .i64 (k:Int))]) (λ_=>_) (λk=>k<=s.length/\zer (s.take k)=true) (λk=>s.length-k) 0 ⟨Nat.zero_le _,rfl⟩ aSx (λw h=>h) (λk hkk=>?_)
 obtain⟨hk1,hk2⟩:=hkk
 refine aU5 ?_
 refine o_p (Qp rfl rfl Tryz.underlying9) rfl (aU2 ?_)
 refine sCd rfl (λh1=>?_) λh1=>?_
 ·have hk:k<s.length:=by omega
  have hst:=Qru hk
  refine aU7 ?_
  refine o_p (XO rfl rfl rfl Tryz.underlying9 (k) om om) rfl ?_
  refine aU2 ?_
  refine sCd rfl (λh2=>?_) λh2=>?_
  ·have hz:¬s.getD k 0=0:=by have hq:=h2;intro h9;exact hq (QkC.2 h9)
   have hf:=Qva hk hz
   refine aU4 ?_
   exact rV (h:=by rw[hf];rfl)
  have hz:s.getD k 0=0:=QkC.1 (by have hq:=h2;simpa using hq)
  refine aT5 ?_
  refine aU2 ?_
  exact Q1 (k+1) om ⟨om,by rw[hst,hk2,hz];rfl⟩ aSx (λw h=>h)
 obtain rfl:k=s.length:=om
 rw[List.take_length]at hk2
 refine Qn rfl ?_
 refine aU4 ?_
 exact rV (h:=by rw[hk2];rfl)
theorem c54(w:World)(l:List UInt8)(p:Nat)(d:List UInt8)(hp:p+d.length<=l.length)(hl:l.length<=1000000000):CR 54 #[.string (bs l),.int .i64 (p:Int),.string (bs d)] w (.string (bs (Xd l p d))):=by
 refine eN3 Tryz.func54 Tryz.ntmps54 ?_
 refine aU5 ?_
 refine Qt [] QC ?_
 refine dP 0 ?_
 refine dP 1 ?_
 refine dV 2 rfl (Z3 p rfl rfl rfl Tryz.underlying9 rfl om) (dP 3 ?_)
 refine dV 4 rfl (Q8 rfl rfl rfl (by(try simp only[List.length_append,List.length_cons,List.length_nil,List.length_replicate,List.length_take,List.length_drop]);omega)) (dP 5 ?_)
 refine dP 6 ?_
 refine dP 7 ?_
 refine dV 8 rfl (Qp rfl rfl Tryz.underlying9) (dP 9 ?_)
 try refine dWr ?_
 refine dV 10 rfl (Zj (p+d.length) rfl rfl rfl Tryz.underlying9 om om) (dV 11 rfl (Q8 rfl rfl rfl (by(try simp only[List.length_append,List.length_cons,List.length_nil,List.length_replicate,List.length_take,List.length_drop]);omega)) (dP 12 ?_))
 refine dNi ?_
 exact rV
theorem c178(w:World)(m:Int)(hm:0<=m/\m<=1000000000000):CR 178 #[.int .i64 (-m),.int .i64 8] w (.int .i64 (-((m+7)/8))):=by
 refine eN2 Tryz.func178 Tryz.ntmps178 ?_
 refine aU8 ?_
 refine o_p (QtB rfl rfl rfl (by decide)) rfl (Qh (QrP hm) (aU7 ?_))
 refine o_p (QrT rfl rfl rfl (by decide)) rfl (Qh (show _=Value.int .i64 (-(m%8))from by rw[QoP hm.1]) (aU2 ?_))
 refine sCd rfl (λh1=>?_) λh1=>?_
 ·refine aT3 ?_
  refine aU7 ?_
  exact rV (h:=by simp only[Xf];congr 2;omega)
 refine aU6 ?_
 exact rV (h:=by simp only[Xf];congr 2;omega)
theorem c121(w:World)(m:Int)(hm:0<=m/\m<=1000000000000):CR 121 #[.int .i64 m,.int .i64 8] w (.int .i64 ((m+7)/8)):=by
 refine eN2 Tryz.func121 Tryz.ntmps121 ?_
 refine aT8 ?_
 refine Qh (show _=Value.int .i64 (-m)from by rw[Int.zero_sub]) (aU ?_)
 refine oCq rfl (λw1 h1=>c178 w1 m hm) (aT ?_)
 refine Qh (show _=Value.int .i64 ((m+7)/8)from by congr 1;omega) (aU2 ?_)
 exact rV
theorem c95(w:World)(m:Nat)(hm:m<=1000000000):CR 95 #[.int .i64 (m:Int)] w (.int .i64 ((Q7 m:Nat):Int)):=by
 refine eN1 Tryz.func95 Tryz.ntmps95 ?_
 refine aU7 ?_
 refine oCq rfl (λw1 h1=>c121 w1 (m:Int) om) (aT ?_)
 refine aU2 ?_
 exact rV (h:=by simp only[Xf,Q7];congr 2)
theorem c29(w:World)(x:TEnt)(c:Int)(hk:x.key.length<=1000000)(hv:x.val.length<=1000000):CR 29 #[.agg #[.string (bs x.key),.string (bs x.val)],.int .i64 c] w (.int .i64 (YV x c)):=by
 refine eN2 Tryz.func29 Tryz.ntmps29 ?_
 refine aU2 ?_
 refine oBx λb1 _=>?_
 refine aU7 ?_
 refine o_p (Qp rfl rfl Tryz.underlying9) rfl (oCq rfl (λw1 h1=>c40 w1 _ _ _) (aU2 ?_))
 refine sCd rfl (λh2=>?_) λh2=>?_
 ·have hz:YV x c=3:=by have hq:=h2;unfold YV;rw[if_neg (by first|omega|(simp at hq;omega))]
  refine aU4 ?_
  exact rV (h:=by rw[hz];rfl)
 have hk1:1<=x.key.length/\x.key.length<=40:=by have hq:=h2;first|omega|(simp at hq;omega)
 refine aU6 ?_
 refine o_p (Qp rfl rfl Tryz.underlying9) rfl (aU2 ?_)
 refine o_p (Qp rfl rfl Tryz.underlying9) rfl (aT ?_)
 refine aU2 ?_
 refine sCd rfl (λh3=>?_) λh3=>?_
 ·have hz:YV x c=8:=by have hq:=h3;unfold YV;rw[if_pos hk1,if_neg om]
  refine aU4 ?_
  exact rV (h:=by rw[hz];rfl)
 have hk2:x.key.length+x.val.length<=88:=by have hq:=h3;omega
 refine aU5 ?_
 refine oCq rfl (λw1 h1=>c40 w1 _ _ _) (aU2 ?_)
 refine sCd rfl (λh4=>?_) λh4=>?_
 ·have hz:YV x c=2:=by have hq:=h4;unfold YV;rw[if_pos hk1,if_pos hk2,if_neg (by first|omega|(simp at hq;omega))]
  refine aU4 ?_
  exact rV (h:=by rw[hz];rfl)
 have hz:YV x c=0:=by have hq:=h4;unfold YV;rw[if_pos hk1,if_pos hk2,if_pos (by first|omega|(simp at hq;omega))]
 refine aU5 ?_
 exact rV (h:=by rw[hz];rfl)
theorem c30(w:World)(x:TEnt)(c:Int)(hk:x.key.length<=300)(hv:x.val.length<=300)(hc:0<=c/\c<4294967296):CR 30 #[.agg #[.string (bs x.key),.string (bs x.val)],.int .i64 c] w (.string (bs (YD x c))):=by
 have hsz:x.sz=8+x.key.length+x.val.length:=rfl
 have hp8:=Yr x.sz
 have l2:=Zf 2 ((Q7 x.sz:Nat):Int)
 have lk:=Zf 1 (x.key.length:Int)
 have lv:=Zf 1 (x.val.length:Int)
 have lc:=Zf 4 c
 refine eN2 Tryz.func30 Tryz.ntmps30 ?_
 refine aU2 ?_
 refine oBx λb1 _=>?_
 refine aU6 ?_
 refine o_p (Qp rfl rfl Tryz.underlying9) rfl (aT ?_)
 refine aU2 ?_
 refine o_p (Qp rfl rfl Tryz.underlying9) rfl (aT ?_)
 refine aU ?_
 refine Qh (show _=Value.int .i64 ((x.sz:Nat):Int)from by congr 1) (aU2 ?_)
 refine Qt [] QC ?_
 refine dP 0 ?_
 refine dQ 1 [] rfl (Qv rfl QnL rfl (λw1 h1=>c95 w1 x.sz om)) (dQ 2 [] rfl (Qv rfl Qcn rfl (λw1 h1=>c94 w1 ((Q7 x.sz:Nat):Int) 2 om om)) (dFa 3 ?_))
 refine dLd 4 [] ?_
 refine dV 5 rfl (Qp rfl rfl Tryz.underlying9) (dQ 6 [] rfl (Qv rfl Qcn rfl (λw1 h1=>c94 w1 (x.key.length:Int) 1 om om)) (dV 7 rfl (Q8 rfl rfl rfl (by(try simp only[List.length_append,List.length_cons,List.length_nil,List.length_replicate,List.length_take,List.length_drop]);omega)) (dFa 8 ?_)))
 refine dLd 9 [] ?_
 refine dV 10 rfl (Qp rfl rfl Tryz.underlying9) (dQ 11 [] rfl (Qv rfl Qcn rfl (λw1 h1=>c94 w1 (x.val.length:Int) 1 om om)) (dV 12 rfl (Q8 rfl rfl rfl (by(try simp only[List.length_append,List.length_cons,List.length_nil,List.length_replicate,List.length_take,List.length_drop]);omega)) (dP 13 ?_)))
 refine dQ 14 [] rfl (Qv rfl Qcn rfl (λw1 h1=>c94 w1 c 4 om om)) (dV 15 rfl (Q8 rfl rfl rfl (by(try simp only[List.length_append,List.length_cons,List.length_nil,List.length_replicate,List.length_take,List.length_drop]);omega)) (dFa 16 ?_))
 refine dLd 17 [] ?_
 refine dV 18 rfl (Q8 rfl rfl rfl (by(try simp only[List.length_append,List.length_cons,List.length_nil,List.length_replicate,List.length_take,List.length_drop]);omega)) (dFa 19 ?_)
 refine dLd 20 [] ?_
 refine dV 21 rfl (Q8 rfl rfl rfl (by(try simp only[List.length_append,List.length_cons,List.length_nil,List.length_replicate,List.length_take,List.length_drop]);omega)) (dP 22 ?_)
 refine dQ 23 [] rfl (Qv rfl QnL rfl (λw1 h1=>c95 w1 x.sz om)) (dP 24 ?_)
 refine dP 25 ?_
 try refine dWr ?_
 refine Qr (show _=Value.int .i64 ((Q7 x.sz-x.sz:Nat):Int)from by congr 1;omega) (dQ 26 [] rfl (Qv rfl Qm5 rfl (λw1 h1=>c86 w1 (Q7 x.sz-x.sz) om)) (dV 27 rfl (Q8 rfl rfl rfl (by(try simp only[List.length_append,List.length_cons,List.length_nil,List.length_replicate,List.length_take,List.length_drop]);omega)) (dP 28 ?_)))
 refine dNi ?_
 exact rV (h:=by simp only[Xf,YD,Qg4,QlW,Qij,List.append_assoc,List.cons_append,List.nil_append])
theorem QqU:QY Tryz.prog 154=true:=by kernel_rfl
theorem Qpi:QY Tryz.prog 88=true:=by kernel_rfl
instance:TFn Tryz.prog 88:=⟨Qpi⟩
theorem Qgp:QY Tryz.prog 59=true:=by kernel_rfl
instance:TFn Tryz.prog 59:=⟨Qgp⟩
theorem QoR:QY Tryz.prog 89=true:=by kernel_rfl
theorem c89(w:World)(a:Option Addr)(cap:Nat)(l:List UInt8)(x:TEnt)(c:Int)(hw:HS w (fps [.byz a cap (l)]) [.byz a cap (l)] w)(hl:l.length<=900000)(hl8:l.length%8=0)(hk:x.key.length<=300)(hv:x.val.length<=300)(hc:0<=c/\c<4294967296):CE 89 #[.slice a l.length cap,.agg #[.string (bs x.key),.string (bs x.val)],.int .i64 c] w (fps [.byz a cap (l)]) (λg:Option Addr×Nat=>.slice g.1 (l++YD x c).length g.2) (λg=>QcR a cap g (l++YD x c).length) λg=>[.byz g.1 g.2 (l++YD x c)]:=by
 have hsz:x.sz=8+x.key.length+x.val.length:=rfl
 have hp8:=Yr x.sz
 have l1:(l++le2 ((Q7 x.sz:Nat):Int)).length=l.length+2:=by rw[List.length_append];rfl
 have l2:((l++le2 ((Q7 x.sz:Nat):Int))++[by8 x.key.length,by8 x.val.length]).length=l.length+4:=by rw[List.length_append,l1];rfl
 have l3:(((l++le2 ((Q7 x.sz:Nat):Int))++[by8 x.key.length,by8 x.val.length])++le4 c).length=l.length+8:=by rw[List.length_append,l2];rfl
 have l4:((((l++le2 ((Q7 x.sz:Nat):Int))++[by8 x.key.length,by8 x.val.length])++le4 c)++x.key).length=l.length+8+x.key.length:=by rw[List.length_append,l3]
 have l5:(((((l++le2 ((Q7 x.sz:Nat):Int))++[by8 x.key.length,by8 x.val.length])++le4 c)++x.key)++x.val).length=l.length+x.sz:=by rw[List.length_append,l4];omega
 have hpd:Q7 (((((l++le2 ((Q7 x.sz:Nat):Int))++[by8 x.key.length,by8 x.val.length])++le4 c)++x.key)++x.val).length-(((((l++le2 ((Q7 x.sz:Nat):Int))++[by8 x.key.length,by8 x.val.length])++le4 c)++x.key)++x.val).length=Q7 x.sz-x.sz:=by rw[l5,QrJ hl8];omega
 have he9:l++YD x c=(((((l++le2 ((Q7 x.sz:Nat):Int))++[by8 x.key.length,by8 x.val.length])++le4 c)++x.key)++x.val)++List.replicate (Q7 (((((l++le2 ((Q7 x.sz:Nat):Int))++[by8 x.key.length,by8 x.val.length])++le4 c)++x.key)++x.val).length-(((((l++le2 ((Q7 x.sz:Nat):Int))++[by8 x.key.length,by8 x.val.length])++le4 c)++x.key)++x.val).length) 0:=by rw[hpd];simp only[YD,List.append_assoc]
 refine eW3 Tryz.func89 Tryz.ntmps89 hw ?_
 refine aU2 ?_
 refine oBx λb1 _=>?_
 refine aU6 ?_
 refine o_p (Qp rfl rfl Tryz.underlying9) rfl (aT ?_)
 refine aU2 ?_
 refine o_p (Qp rfl rfl Tryz.underlying9) rfl (aT ?_)
 refine aT ?_
 refine aT ?_
 refine o_p (XQ rfl rfl rfl om om om) rfl (aT ?_)
 refine Qh (show _=Value.int .i64 ((Q7 x.sz:Nat):Int)from by congr 1;unfold Q7;omega) (aU6 ?_)
 refine o_p (Qy rfl rfl Y1 YR) rfl (Qh (show _=Value.int .u16 ((Q7 x.sz:Nat):Int)from by first|rfl|(rw[Qkv];congr 1;omega)) (o_h (QM (Cs:=[.byz a cap (l)]) rfl QlQ rfl aPs (λw1 h1 hf=>Quo w1 a cap l ((Q7 x.sz:Nat):Int) hf om om)) rfl (λ⟨b2,c3⟩hz4=>aU7 ?_)))
 refine o_p (Qp rfl rfl Tryz.underlying9) rfl (o_p (Qy rfl rfl Y1 ZU) rfl (Qh (YQ _) (aU2 ?_)))
 refine o_p (Qp rfl rfl Tryz.underlying9) rfl (o_p (Qy rfl rfl Y1 ZU) rfl (Qh (YQ _) (o_h (Qe (cs:=[_,_]) rfl rfl Q0 Qap rfl rfl rfl) rfl (λb5 _=>?_))))
 refine o_h (QaE (l:=(l++le2 ((Q7 x.sz:Nat):Int))) [by8 x.key.length,by8 x.val.length] rfl rfl rfl Q0 Tryz.underlying139 Qap aPk (Xb aPk) (by simp only[List.length_append,List.length_cons,List.length_nil,le2,le4]<;>omega) (by simp only[maxLen,List.length_append,List.length_cons,List.length_nil,le2,le4]<;>omega)) rfl (λ⟨b6,c7⟩h8=>aU3 ?_)
 refine Qg (L':=[(0,_),(2,_),(4,_),(6,_)]) aSx (λ_ h=>h) ?_
 refine aU3 ?_
 refine o_p (Qy rfl rfl Y1 ZA) rfl (Qh (show _=Value.int .u32 c from by first|rfl|(rw[Qfo];congr 1;omega)) (o_h (QM (Cs:=[.byz b6 c7 (((l++le2 ((Q7 x.sz:Nat):Int))++[by8 x.key.length,by8 x.val.length]))]) rfl QpX rfl aPs (λw1 h1 hf=>c153 w1 b6 c7 ((l++le2 ((Q7 x.sz:Nat):Int))++[by8 x.key.length,by8 x.val.length]) c hf hc om)) rfl (λ⟨b9,c10⟩hz11=>aU3 ?_)))
 refine Qbe [.blk b1 27 2 [.string (bs x.key),.string (bs x.val)]] [] QC ?_
 refine dP 0 ?_
 refine dFa 1 ?_
 refine dLd 2 [] ?_
 refine dFa 4 ?_
 refine dLd 5 [] ?_
 refine dH 3 rfl (Qbp (l:=(((l++le2 ((Q7 x.sz:Nat):Int))++[by8 x.key.length,by8 x.val.length])++le4 c)) rfl rfl rfl Q0 Tryz.underlying9 Qap aPk (by simp only[List.length_append,List.length_cons,List.length_nil,le2,le4]<;>omega) (by simp only[maxLen,List.length_append,List.length_cons,List.length_nil,le2,le4]<;>omega)) (λ⟨b12,c13⟩h14=>?_)
 refine dH 6 rfl (Qbp (l:=((((l++le2 ((Q7 x.sz:Nat):Int))++[by8 x.key.length,by8 x.val.length])++le4 c)++x.key)) rfl rfl rfl Q0 Tryz.underlying9 Qap aPk (by simp only[List.length_append,List.length_cons,List.length_nil,le2,le4]<;>omega) (by simp only[maxLen,List.length_append,List.length_cons,List.length_nil,le2,le4]<;>omega)) (λ⟨b15,c16⟩h17=>dH 7 rfl (QM (Cs:=[.byz b15 c16 ((((((l++le2 ((Q7 x.sz:Nat):Int))++[by8 x.key.length,by8 x.val.length])++le4 c)++x.key)++x.val))]) rfl QqU rfl aPs (λw1 h1 hf=>c154 w1 b15 c16 (((((l++le2 ((Q7 x.sz:Nat):Int))++[by8 x.key.length,by8 x.val.length])++le4 c)++x.key)++x.val) hf om)) (λ⟨b18,c19⟩hz20=>dP 8 ?_))
 refine dNi ?_
 exact rT rfl rfl (λw' h'=>⟨(b18,c19),by rw[he9];rfl,by rw[he9];exact(((((hz4).trans h8 (by simp only[List.length_append];omega)).trans hz11 (by simp only[List.length_append];omega)).trans h14 (by simp only[List.length_append];omega)).trans h17 (by simp only[List.length_append];omega)).trans hz20 (by simp only[List.length_append];omega),by rw[he9];exact h'.ent aEt⟩)
theorem c26(w:World)(x:TEnt)(c:Int)(hk:x.key.length<=1000000)(hv:x.val.length<=1000000):CR 26 #[.agg #[.string (bs x.key),.string (bs x.val)],.int .i64 c] w (.tuple #[.string (bs (if YV x c=0 then YD x c else[])),.int .i64 (YV x c)]):=by
 have hf9:Xr [.int .i64 (cond (decide (1<=(x.key.length:Int))&&decide ((x.key.length:Int)<=40)) 0 3),.int .i64 (cond (YS x) 0 8),.int .i64 (cond (decide (0<=c)&&decide (c<=120)) 0 2)]=YV x c:=by simp only[Xr,YV,YS,cond_eq_ite,Bool.and_eq_true,decide_eq_true_eq];grind
 refine eN2 Tryz.func26 Tryz.ntmps26 ?_
 refine aU2 ?_
 refine oBx λb1 _=>?_
 refine aU4 ?_
 refine Qt [] QC ?_
 refine dFa 0 ?_
 refine dLd 1 [] ?_
 refine dV 2 rfl (Qp rfl rfl Tryz.underlying9) (dQ 3 [] rfl (Qv rfl QqQ rfl (λw1 h1=>c87 w1 _ _ _)) (dQ 4 [] rfl (Qv rfl QbI rfl (λw1 h1=>c60 w1 _ _)) (dLn 5 [] ?_)))
 refine dQ 6 [] rfl (Qv rfl Qpi rfl (λw1 h1=>c88 w1 _ om om)) (dQ 7 [] rfl (Qv rfl QbI rfl (λw1 h1=>c60 w1 _ _)) (dP 8 ?_))
 refine dQ 9 [] rfl (Qv rfl QqQ rfl (λw1 h1=>c87 w1 _ _ _)) (dQ 10 [] rfl (Qv rfl QbI rfl (λw1 h1=>c60 w1 _ _)) (dH 11 rfl (Qe (cs:=[_,_,_]) rfl rfl Yo ZR rfl rfl rfl) (λb2 _=>dBa ?_)))
 refine dQ 12 [] rfl (Qv rfl Qgp rfl (λw1 h1=>f59 h1 aPk (by rfl) (by rfl) (by decide))) (dP 13 ?_)
 refine dNi ?_
 refine aU6 ?_
 refine sCd rfl (λh3=>?_) λh3=>?_
 ·have h0:¬YV x c=0:=by have hq:=h3;rw[hf9]at hq;exact hq
  refine aU6 ?_
  exact Qk (rs:=[.tmp 4,.tmp 5]) rfl (.tmp rfl (.tmp rfl (.nil))) (λw' h'=>⟨by rw[hf9,if_neg h0];rfl,h'.below⟩)
 have h0:YV x c=0:=by have hq:=h3;rw[hf9]at hq;exact hq
 have hk9:x.key.length<=300/\x.val.length<=300/\0<=c/\c<4294967296:=by have hq:=h0;unfold YV at hq;split at hq;(split at hq;(split at hq;omega;cases hq);cases hq);cases hq
 refine aU5 ?_
 refine QQ (λw h=>h.byz_nil) (o_h (QM (Cs:=[.byz none 0 []]) rfl QoR rfl aPs (λw1 h1 hf=>c89 w1 none 0 [] x c hf (Nat.zero_le _) rfl hk9.1 hk9.2.1 hk9.2.2)) rfl (λ⟨b4,c5⟩hz6=>QQ (λw h=>h.byz_own .here) (o_q (ZW rfl rfl Tryz.underlying139 Tryz.underlying9 Tryz.underlying5 aPk (Zy _)) rfl (aU3 ?_))))
 exact Qk (rs:=[.tmp 4,.tmp 5]) rfl (.tmp rfl (.tmp rfl (.nil))) (λw' h'=>⟨by rw[if_pos h0,h0,Y4];rfl,h'.below⟩)
theorem Qrx:QY Tryz.prog 202=true:=by kernel_rfl
theorem Qo5:QY Tryz.prog 156=true:=by kernel_rfl
instance:TFn Tryz.prog 30:=⟨by kernel_rfl⟩
theorem c202(w:World)(b:Nat)(n:LNd)(i:Nat)(hb:Rd w [] b 2 (.slice n.ca n.cs.length n.cc))(hcs:Rw inV 1 w [] n.ca n.cs)(hl:n.cs.length<=1000000)(hi:n.cs.length=0\/i<n.cs.length):CR 202 #[.int .i64 (i:Int),.pointer (some ⟨b,0,none⟩)] w (.int .i64 (Xw n.cs i)):=by
 refine eN2 Tryz.func202 Tryz.ntmps202 ?_
 refine aU8 ?_
 refine o_q (Qc rfl rfl Xg (hb)) rfl (aU3 ?_)
 refine sCd rfl (λh1=>?_) λh1=>?_
 ·have hz:Xw n.cs i=0:=if_pos (by have hq:=h1;omega)
  refine aU4 ?_
  exact rV (h:=by rw[hz];rfl)
 have hc0:¬n.cs.length=0:=by have hq:=h1;omega
 have hz:Xw n.cs i=nth n.cs i:=if_neg hc0
 refine aU4 ?_
 refine o_q (Qc rfl rfl Xg (hb)) rfl (aU ?_)
 refine o_p (Qa rfl rfl rfl QA (i) om om (Rw.some hcs om)) rfl (o_q (Qc rfl rfl X4 ((hcs.rdj (i:=i) 0 om rfl))) rfl (aU2 ?_))
 exact rV (h:=by rw[hz];rfl)
theorem c148(w:World)(a:Option Addr)(cap:Nat)(l:List UInt8)(n:LNd)(hw:HS w (fps [.byz a cap (l)]) [.byz a cap (l)] w)(hl:l.length<=100000)(hl8:l.length%8=0)(hes:Rw TEnt.vals 2 w (fps [.byz a cap (l)]) n.ea n.es)(hcs:Rw inV 1 w (fps [.byz a cap (l)]) n.ca n.cs)(hp:NdP n.pl):CE 148 #[.slice a l.length cap,.agg #[.bool n.us,.slice n.ea n.es.length n.ec,.slice n.ca n.cs.length n.cc]] w (fps [.byz a cap (l)]) (λg:Option Addr×Nat=>.slice g.1 (l++Xy n.pl).length g.2) (λg=>QcR a cap g (l++Xy n.pl).length) λg=>[.byz g.1 g.2 (l++Xy n.pl)]:=by
 have hcl:n.cs.length=0\/n.cs.length=n.es.length+1:=hp.cl
 have hel:n.es.length<=1000:=hp.el
 have he9:l++Xy n.pl=(l++Xi n.pl n.es.length)++Qbt (Xw n.cs n.es.length):=by rw[List.append_assoc];rfl
 have hee:=hp.ents n.es.length (Nat.le_refl _)
 have hle:(l++Xi n.pl n.es.length).length=l.length+(Xi n.pl n.es.length).length:=List.length_append
 have hke:0<=Xw n.cs n.es.length/\Xw n.cs n.es.length<4294967296:=hp.kid (i:=n.es.length) (Nat.le_refl _)
 refine eW2 Tryz.func148 Tryz.ntmps148 hw ?_
 refine aU2 ?_
 refine oBx λb1 _=>?_
 refine QsN ?_
 refine Qx (α:=Nat×Option Addr×Nat) [0,6,7,12,13,14,15,16,17,18,19,20,21,22,23] (λx=>[(12,.int .i64 (x.1:Int)),(0,.slice x.2.1 (l++Xi n.pl x.1).length x.2.2)]) (λx=>HS w (fps [.byz a cap (l)]) [.byz x.2.1 x.2.2 (l++Xi n.pl x.1),.blk b1 69 3 (LNd.vals n)]) (λx=>x.1<=n.es.length/\QcR a cap (x.2.1,x.2.2) (l++Xi n.pl x.1).length) (λx=>n.es.length-x.1) (0,a,cap) ⟨Nat.zero_le _,λ_=>⟨rfl,rfl⟩⟩ (by simp only[Xi,List.append_nil];exact aSx) (λw h=>(by simp only[Xi,List.append_nil];exact h.ent aEt)) (λ⟨k,a2,c2⟩hk1=>?_)
 dsimp only
 simp only[]at hk1
 obtain⟨hk2,hk3⟩:=hk1
 have hek:=hp.ents k hk2
 have hlk:(l++Xi n.pl k).length=l.length+(Xi n.pl k).length:=List.length_append
 refine aU5 ?_
 refine sCd rfl (λh2=>?_) λh2=>?_
 ·have hk:k<n.es.length:=by omega
  have hst:l++Xi n.pl (k+1)=(l++Xi n.pl k)++YD (nth n.es k) (Xw n.cs k):=by rw[List.append_assoc];rfl
  have hkk:0<=Xw n.cs k/\Xw n.cs k<4294967296:=hp.kid (i:=k) (Nat.le_of_lt hk)
  have hx9:(nth n.es k).key.length<=300/\(nth n.es k).val.length<=300:=hp.es _ (QI hk)
  refine aU6 ?_
  refine o_p (Qa rfl rfl rfl QN (k) om om (Rw.some hes om)) rfl (o_q (QB _ rfl rfl Yk rfl (Rw.rd hes om)) rfl (oAl (λb3 _=>?_) XH))
  refine aU3 ?_
  refine Qt [5] QC ?_
  refine dP 0 ?_
  refine dLn 1 [[]] ?_
  refine dP 2 ?_
  refine dP 3 ?_
  refine dQ 4 [[]] rfl (XX rfl rfl Qrx rfl (λw1 h1=>c202 w1 b1 n k (h1.rd_blk (Mc:=[]) aPk rfl (by simp)) (hcs.later h1) om om)) (dH 5 rfl (QM (Cs:=[.byz a2 c2 (l++Xi n.pl k)]) rfl QoR rfl aPs (λw1 h1 hf=>c89 w1 a2 c2 (l++Xi n.pl k) (nth n.es k) (Xw n.cs k) hf om om hx9.1 hx9.2 hkk)) (λ⟨b4,c5⟩hz6=>dTu [] ?_))
  refine dP 6 ?_
  refine dNi ?_
  refine aT3 ?_
  refine aU2 ?_
  exact Q1 (k+1,b4,c5) (by(try simp only[]);omega) (by simp only[];rw[hst];exact⟨om,hk3.trans hz6 (by simp only[List.length_append];omega)⟩) (by dsimp only;rw[hst];exact aSx) (λw h=>by dsimp only;rw[hst];exact h.ent aEt)
 obtain rfl:k=n.es.length:=om
 refine Qn rfl ?_
 refine aU7 ?_
 refine o_q (XX rfl rfl Qrx rfl (λw1 h1=>c202 w1 b1 n n.es.length (h1.rd_blk (Mc:=[]) aPk rfl (by simp)) (hcs.later h1) om om)) rfl (o_h (QM (Cs:=[.byz a2 c2 (l++Xi n.pl n.es.length)]) rfl Qo5 rfl aPs (λw1 h1 hf=>c156 w1 a2 c2 (l++Xi n.pl n.es.length) (Xw n.cs n.es.length) hf hke om)) rfl (λ⟨b7,c8⟩hz9=>aU2 ?_))
 exact rT rfl rfl (λw' h'=>⟨(b7,c8),by rw[he9];rfl,by rw[he9];exact hk3.trans hz9 (by simp only[List.length_append];omega),by rw[he9];exact h'.ent aEt⟩)
theorem c99(w:World)(n:LNd)(hes:Rw TEnt.vals 2 w [] n.ea n.es)(hcs:Rw inV 1 w [] n.ca n.cs)(hp:NdP n.pl):CR 99 #[.agg #[.bool n.us,.slice n.ea n.es.length n.ec,.slice n.ca n.cs.length n.cc]] w (.string (bs (Xy n.pl))):=by
 have hcl:n.cs.length=0\/n.cs.length=n.es.length+1:=hp.cl
 have hel:n.es.length<=1000:=hp.el
 have hee:=hp.ents n.es.length (Nat.le_refl _)
 have l82:=Zf 2 8
 have hcb:(Xy n.pl).length=(Xi n.pl n.es.length).length+8:=by unfold Xy;rw[List.length_append,QbM];rfl
 refine eN1 Tryz.func99 Tryz.ntmps99 ?_
 refine aU2 ?_
 refine oBx λb1 _=>?_
 refine Zx ?_
 refine Qx (α:=Nat) [3,4,5,6,7,8,9,10,11,12,13,14,15,16,17,18,19,20,21,22,23,24,25,26,27,28,29,30,31,32,33,34,35,36,37,38,39,40,41,42,43] (λk=>[(4,.int .i64 (k:Int)),(3,.string (bs (Qit n.pl k)))]) (λ_=>HS w [] [.blk b1 69 3 (LNd.vals n)]) (λk=>k<=n.es.length+1) (λk=>n.es.length+1-k) 0 (Nat.zero_le _) aSx (λw h=>h.ent aEt) (λk hk1=>?_)
 refine aU9 ?_
 refine sCd rfl (λh2=>?_) λh2=>?_
 ·have hk:k<=n.es.length:=by omega
  have hkk:0<=Xw n.cs k/\Xw n.cs k<4294967296:=hp.kid (i:=k) hk
  have hek:=hp.ents k hk
  have lc4:=Zf 4 (Xw n.cs k)
  have hpk:Qit n.pl k=Xi n.pl k:=Qnp hk
  rw[hpk]
  refine QuK ?_
  refine XY (α:=Unit) [5,17,18,19,20,21] (λ_=>[(5,.int .i64 (Xw n.cs k))]) (λ_=>HS w [] [.blk b1 69 3 (LNd.vals n)]) (λ_=>True) ?_ ?_
  ·skip
   refine sCd rfl (λh3=>?_) λh3=>?_
   ·have hc0:¬n.cs.length=0:=by have hq:=h3;omega
    have hz:Xw n.cs k=nth n.cs k:=if_neg hc0
    refine aU4 ?_
    refine o_p (Qa rfl rfl rfl QA (k) om om (Rw.some hcs om)) rfl (o_q (Qc rfl rfl X4 ((hcs.rdj (i:=k) 0 om rfl))) rfl (aU2 ?_))
    exact Qo () trivial (by rw[hz];exact aSx) (λw h=>h.ent aEt)
   have hz:Xw n.cs k=0:=if_pos (by have hq:=h3;omega)
   refine aU ?_
   exact Qo () trivial (by rw[hz];exact aSx) (λw h=>h.ent aEt)
  intro _ _
  refine aU8 ?_
  refine sCd rfl (λh4=>?_) λh4=>?_
  ·have hkl:k<n.es.length:=by have hq:=h4;omega
   have hst:Qit n.pl (k+1)=Xi n.pl k++YD (nth n.es k) (Xw n.cs k):=Qon hkl
   have hx9:(nth n.es k).key.length<=300/\(nth n.es k).val.length<=300:=hp.es _ (QI hkl)
   have hen9:=Qec (nth n.es k) (Xw n.cs k)
   have hp89:=Yr (nth n.es k).sz
   have hsz9:(nth n.es k).sz=8+(nth n.es k).key.length+(nth n.es k).val.length:=rfl
   refine aU5 ?_
   refine o_p (Qa rfl rfl rfl QN (k) om om (Rw.some hes om)) rfl (o_q (QB _ rfl rfl Yk rfl (Rw.rd hes om)) rfl (aU ?_))
   refine oCq rfl (λw1 h1=>c30 w1 (nth n.es k) (Xw n.cs k) hx9.1 hx9.2 hkk) (o_p (Q8 rfl rfl rfl (by(try simp only[List.length_append,List.length_cons,List.length_nil,List.length_replicate,List.length_take,List.length_drop]);omega)) rfl (aT6 ?_))
   refine aU2 ?_
   exact sBk (k+1) om om (by rw[hst];exact aSx)
  obtain rfl:k=n.es.length:=by have hq:=h4;omega
  have hst:Qit n.pl (n.es.length+1)=((Xi n.pl n.es.length++Qcr 2 8)++List.replicate 2 0)++Qcr 4 (Xw n.cs n.es.length):=by rw[show Qit n.pl (n.es.length+1)=Xy n.pl from QjS n.pl];simp only[Xy,Qbt,Qg4,Qij,List.append_assoc];rfl
  refine aU2 ?_
  refine oCq rfl (λw1 h1=>c94 w1 8 2 om om) (o_p (Q8 rfl rfl rfl (by(try simp only[List.length_append,List.length_cons,List.length_nil,List.length_replicate,List.length_take,List.length_drop]);omega)) rfl (oCq rfl (λw1 h1=>c86 w1 2 om) (o_p (Q8 rfl rfl rfl (by(try simp only[List.length_append,List.length_cons,List.length_nil,List.length_replicate,List.length_take,List.length_drop]);omega)) rfl (aU ?_))))
  refine oCq rfl (λw1 h1=>c94 w1 (Xw n.cs n.es.length) 4 om om) (o_p (Q8 rfl rfl rfl (by(try simp only[List.length_append,List.length_cons,List.length_nil,List.length_replicate,List.length_take,List.length_drop]);omega)) rfl (aT6 ?_))
  refine aU2 ?_
  exact sBk (n.es.length+1) om om (by rw[hst];exact aSx)
 obtain rfl:k=n.es.length+1:=om
 rw[show Qit n.pl (n.es.length+1)=Xy n.pl from QjS n.pl]
 refine Qn rfl ?_
 refine aU5 ?_
 exact rV
end Go.Proofs
namespace Gx
open Go Go.RowKit
theorem Qox{ns:List Nd}(h:∀i,i<ns.length->Zo (nth ns i)=true):ns.all Zo=true:=by
 refine List.all_eq_true.2 λx hx=>?_;obtain⟨i,hi,e⟩:=List.getElem_of_mem hx;have:=h i hi
 simp_all[Q2,hi]
def QhH(L:List LNd):List Bool:=L.map λn=>!Zo n.pl
def QhV(es:List TEnt):List Bool:=es.map λx=>!YS x
theorem Qof(es:List TEnt):(QhV es).any id= !(es.all YS):=by
 unfold QhV;rw[List.any_map,List.all_eq_not_any_not,Bool.not_not];rfl
theorem Qok(L:List LNd):(QhH L).any id= !((pln L).all Zo):=by
 unfold QhH;rw[List.any_map,List.all_map,List.all_eq_not_any_not,Bool.not_not];rfl
theorem Qn2{es:List TEnt}{k:Nat}(h:k<es.length):(QhV es).getD k false= !YS (nth es k):=by
 unfold QhV;rw[Zh (d:=default) h];rfl
theorem QnY{L:List LNd}{k:Nat}(h:k<L.length):(QhH L).getD k false= !Zo (nth L k).pl:=by
 unfold QhH;rw[Zh (d:=default) h];rfl
end Gx
namespace Go.Proofs
open Go Go.RowKit Gx
attribute [local irreducible] Go.Calls Gx.S Gx.O Gx.D Gx.OpP Gx.OpQ Gx.OpH
set_option maxRecDepth 20000
theorem Qvb:QY Tryz.prog 144=true:=by kernel_rfl
theorem Qvy:QY Tryz.prog 142=true:=by kernel_rfl
instance:TFn Tryz.prog 176:=⟨by kernel_rfl⟩
instance:TFn Tryz.prog 201:=⟨by kernel_rfl⟩
instance:TFn Tryz.prog 143:=⟨by kernel_rfl⟩
instance:TFn Tryz.prog 140:=⟨by kernel_rfl⟩
instance:TFn Tryz.prog 141:=⟨by kernel_rfl⟩
theorem c144(w:World)(x:TEnt)(hk:x.key.length<=1000000)(hv:x.val.length<=1000000):CR 144 #[.agg #[.string (bs x.key),.string (bs x.val)]] w (.bool (!YS x)):=by
 refine eN1 Tryz.func144 Tryz.ntmps144 ?_
 refine aU2 ?_
 refine oBx λb1 _=>?_
 refine aU5 ?_
 refine oCq rfl (λw1 h1=>c88 w1 _ om om) (aU3 ?_)
 exact rV
theorem c176(w:World)(a:Option Addr)(cap:Nat)(l:List TEnt)(q:Nat)(cv:Array Value)(bt:List Bool)(hs:Rw TEnt.vals 2 w [] a l)(hm:l.length<=1000000)(hq:QY Tryz.prog q=true)(hb:bt.length=l.length)(hc:∀k w1,k<l.length->HS w [] [] w1->Calls Tryz.prog q (#[]++[.agg (TEnt.vals (nth l k)).toArray].toArray++cv) w1 λen w2=>en=.returned (.bool (bt.getD k false))/\Below w1.heap.size w1 w2):CR 176 #[.slice a l.length cap,.func (.func q) #[] cv] w (.int .i64 (ixI bt)):=by
 refine eN2 Tryz.func176 Tryz.ntmps176 ?_
 refine Zx ?_
 refine Qx (α:=Nat) [4,5,8,9,10,11,12,13,14,15,16,17,18] (λk=>[(8,.int .i64 (k:Int))]) (λ_=>_) (λk=>k<=l.length/\∀i,i<k->bt.getD i false=false) (λk=>l.length-k) 0 ⟨om,λi h=>absurd h (Nat.not_lt_zero i)⟩ aSx (λw h=>h) (λk hk=>?_)
 obtain⟨hk1,hk2⟩:=hk
 refine aU5 ?_
 refine sCd rfl (λh1=>?_) λh1=>?_
 ·refine Qau ?_
  refine o_p (Qa rfl rfl rfl QN (k) om om (Rw.some hs om)) rfl (o_q (QB _ rfl rfl Yk rfl (Rw.rd hs om)) rfl (o_q (XX rfl rfl hq rfl (λw1 h1=>hc k w1 om (h1.ent aEt))) rfl (aU ?_)))
  refine sCd rfl (λh2=>?_) λh2=>?_
  ·refine aU5 ?_
   exact rV (h:=by have e:=QaM (l:=bt) (k:=k) om hk2 (λ_=>by assumption);simp only[Xf,ixI,e];rw[if_pos om])
  refine aT4 ?_
  refine aU2 ?_
  exact Q1 (k+1) om ⟨om,λi hi=>(Nat.lt_or_ge i k).elim (hk2 i) (λh=>by obtain rfl:i=k:=om;assumption)⟩ aSx (λw h=>h)
 refine Qn rfl ?_
 refine aU4 ?_
 exact rV (h:=by have e:=QaM (l:=bt) (k:=k) om hk2 (λh=>om);simp only[Xf,ixI,e];rw[if_neg om])
theorem c143(w:World)(a:Option Addr)(cap:Nat)(l:List TEnt)(q:Nat)(cv:Array Value)(bt:List Bool)(hs:Rw TEnt.vals 2 w [] a l)(hm:l.length<=1000000)(hq:QY Tryz.prog q=true)(hb:bt.length=l.length)(hc:∀k w1,k<l.length->HS w [] [] w1->Calls Tryz.prog q (#[]++[.agg (TEnt.vals (nth l k)).toArray].toArray++cv) w1 λen w2=>en=.returned (.bool (bt.getD k false))/\Below w1.heap.size w1 w2):CR 143 #[.slice a l.length cap,.func (.func q) #[] cv] w (.bool (bt.any id)):=by
 refine eN2 Tryz.func143 Tryz.ntmps143 ?_
 refine aU8 ?_
 refine oCq rfl (λw1 h1=>c176 w1 a cap l q cv bt (hs.later h1) hm hq hb (λk w2 hk h2=>hc k w2 hk (by simpa using h1.call h2))) (aU3 ?_)
 exact rV (h:=by simp only[Xf];rw[<-Qfz])
theorem c201(w:World)(a:Option Addr)(cap:Nat)(l:List LNd)(q:Nat)(cv:Array Value)(bt:List Bool)(hs:Rw LNd.vals 3 w [] a l)(hm:l.length<=1000000)(hq:QY Tryz.prog q=true)(hb:bt.length=l.length)(hc:∀k w1,k<l.length->HS w [] [] w1->Calls Tryz.prog q (#[]++[.agg (LNd.vals (nth l k)).toArray].toArray++cv) w1 λen w2=>en=.returned (.bool (bt.getD k false))/\Below w1.heap.size w1 w2):CR 201 #[.slice a l.length cap,.func (.func q) #[] cv] w (.int .i64 (ixI bt)):=by
 refine eN2 Tryz.func201 Tryz.ntmps201 ?_
 refine Zx ?_
 refine Qx (α:=Nat) [4,5,8,9,10,11,12,13,14,15,16,17,18] (λk=>[(8,.int .i64 (k:Int))]) (λ_=>_) (λk=>k<=l.length/\∀i,i<k->bt.getD i false=false) (λk=>l.length-k) 0 ⟨om,λi h=>absurd h (Nat.not_lt_zero i)⟩ aSx (λw h=>h) (λk hk=>?_)
 obtain⟨hk1,hk2⟩:=hk
 refine aU5 ?_
 refine sCd rfl (λh1=>?_) λh1=>?_
 ·refine Qau ?_
  refine o_p (Qa rfl rfl rfl Qw (k) om om (Rw.some hs om)) rfl (o_q (QB _ rfl rfl Xs rfl (Rw.rd hs om)) rfl (o_q (XX rfl rfl hq rfl (λw1 h1=>hc k w1 om (h1.ent aEt))) rfl (aU ?_)))
  refine sCd rfl (λh2=>?_) λh2=>?_
  ·refine aU5 ?_
   exact rV (h:=by have e:=QaM (l:=bt) (k:=k) om hk2 (λ_=>by assumption);simp only[Xf,ixI,e];rw[if_pos om])
  refine aT4 ?_
  refine aU2 ?_
  exact Q1 (k+1) om ⟨om,λi hi=>(Nat.lt_or_ge i k).elim (hk2 i) (λh=>by obtain rfl:i=k:=om;assumption)⟩ aSx (λw h=>h)
 refine Qn rfl ?_
 refine aU4 ?_
 exact rV (h:=by have e:=QaM (l:=bt) (k:=k) om hk2 (λh=>om);simp only[Xf,ixI,e];rw[if_neg om])
theorem c141(w:World)(a:Option Addr)(cap:Nat)(l:List LNd)(q:Nat)(cv:Array Value)(bt:List Bool)(hs:Rw LNd.vals 3 w [] a l)(hm:l.length<=1000000)(hq:QY Tryz.prog q=true)(hb:bt.length=l.length)(hc:∀k w1,k<l.length->HS w [] [] w1->Calls Tryz.prog q (#[]++[.agg (LNd.vals (nth l k)).toArray].toArray++cv) w1 λen w2=>en=.returned (.bool (bt.getD k false))/\Below w1.heap.size w1 w2):CR 141 #[.slice a l.length cap,.func (.func q) #[] cv] w (.bool (bt.any id)):=by
 refine eN2 Tryz.func141 Tryz.ntmps141 ?_
 refine aU8 ?_
 refine oCq rfl (λw1 h1=>c201 w1 a cap l q cv bt (hs.later h1) hm hq hb (λk w2 hk h2=>hc k w2 hk (by simpa using h1.call h2))) (aU3 ?_)
 exact rV (h:=by simp only[Xf];rw[<-Qfz])
theorem c142(w:World)(n:LNd)(hes:Rw TEnt.vals 2 w [] n.ea n.es)(hl:n.es.length<=1000000)(hkl:∀x∈n.es,x.key.length<=1000000/\x.val.length<=1000000):CR 142 #[.agg #[.bool n.us,.slice n.ea n.es.length n.ec,.slice n.ca n.cs.length n.cc]] w (.bool (!Zo n.pl)):=by
 refine eN1 Tryz.func142 Tryz.ntmps142 ?_
 refine aU2 ?_
 refine oBx λb1 _=>?_
 refine aU6 ?_
 refine oCq rfl (λw1 h1=>c143 w1 n.ea n.ec n.es 144 #[] (QhV n.es) (hes.later h1) hl Qvb (by simp[QhV]) (λk w2 hk h2=>by rw[Qn2 hk];exact c144 w2 (nth n.es k) (hkl _ (QI hk)).1 (hkl _ (QI hk)).2)) (aU2 ?_)
 exact rV (h:=by simp only[Xf];rw[Qof];rfl)
theorem c75(w:World)(co mo rm:Int)(a:Option Addr)(cap:Nat)(L:List LNd)(hs:Nt w [] a L)(hB:Bd (pln L))(hkl:∀i,i<L.length->∀x∈(nth L i).es,x.key.length<=1000000/\x.val.length<=1000000):CR 75 #[.agg #[.int .i64 co,.int .i64 mo,.int .i64 rm,.slice a L.length cap]] w (.int .i64 (YM (⟨co,mo,rm,pln L⟩:Tre))):=by
 have hLl:L.length<=1000:=by have:=hB.len;rwa[Qb]at this
 refine eN1 Tryz.func75 Tryz.ntmps75 ?_
 refine aU2 ?_
 refine oBx λb1 _=>?_
 refine aU5 ?_
 refine oCq rfl (λw1 h1=>QsM w1 co mo rm a cap L (hs.later h1.nil) hB (λi hi x hx=>(hkl i hi x hx).1)) (Zx ?_)
 refine oOr 4 14 18 rfl
  (λhg2 _=>by
   refine aU5 ?_
   refine oCq rfl (λw1 h1=>c141 w1 a cap L 142 #[] (QhH L) (Rw.later hs.1 h1) om Qvy (by simp[QhH]) (λk w2 hk h2=>by rw[QnY hk];exact c142 w2 (nth L k) ((hs.es hk).later (by simpa using h1.call h2)) (by have:=hB.es k (by rwa[Qb]);rw[QR]at this;have h8:(nth L k).es.length<=1000:=this;omega) (hkl k hk))) ?_
   exact oJf 4 18)
  (λhg4 _=>by
   refine aU3 ?_
   exact oJt 4 18) ?_
 refine aU7 ?_
 refine oCq rfl (λw1 h1=>c60 w1 _ _) (o_h (Qe (cs:=[_,_]) rfl rfl Yo ZR rfl rfl rfl) rfl (λb6 _=>oCq rfl (λw1 h1=>f59 h1 aPk (by rfl) (by rfl) (by decide)) (aU2 ?_)))
 exact rV (h:=by simp only[Xf,Xr,YM,Qok];first|grind|(simp_all;done))
theorem QpY:QY Tryz.prog 148=true:=by kernel_rfl
instance:TFn Tryz.prog 75:=⟨by kernel_rfl⟩
theorem Qv3:QY Tryz.prog 90=true:=by kernel_rfl
theorem QtL:QY Tryz.prog 99=true:=by kernel_rfl
theorem c90(w:World)(co mo rm:Int)(a:Option Addr)(cap:Nat)(L:List LNd)(hs:Nt w [] a L)(h0:0<L.length)(hp:NdP (nth L 0).pl):CR 90 #[.agg #[.int .i64 co,.int .i64 mo,.int .i64 rm,.slice a L.length cap]] w (.string (bs (Qbl (⟨co,mo,rm,pln L⟩:Tre)))):=by
 have hel:(nth L 0).es.length<=1000:=hp.el
 have hee:(Xi (nth L 0).pl (nth L 0).es.length).length<=608*(nth L 0).es.length/\(Xi (nth L 0).pl (nth L 0).es.length).length%8=0:=hp.ents _ (Nat.le_refl _)
 have hR:Qbl (⟨co,mo,rm,pln L⟩:Tre)=(ZG++[by8 co,by8 mo,by8 rm,by8 ((nth L 0).es.length:Int)])++Xy (nth L 0).pl:=by simp only[Qbl,QR];rfl
 have l8:(ZG++[by8 co,by8 mo,by8 rm,by8 ((nth L 0).es.length:Int)]).length=8:=rfl
 refine eN1 Tryz.func90 Tryz.ntmps90 ?_
 refine aU2 ?_
 refine oBx λb1 _=>?_
 refine aU6 ?_
 refine o_p (Qa rfl rfl rfl Qw 0 rfl om (Rw.some hs.1 om)) rfl (o_q (QB _ rfl rfl Xs rfl (Rw.rd hs.1 om)) rfl (oAl (λb2 _=>?_) Xj))
 refine aU4 ?_
 refine o_h (Qe (cs:=[_,_,_,_]) rfl rfl Q0 Qap rfl rfl rfl) rfl (λb3 _=>o_h (Qlh rfl rfl Tryz.underlying139 Tryz.underlying5 aPt) rfl (λ_ _=>QQ (λw h=>h.byz_blk (l:=ZG) aPk (by decide) (by decide) rfl) (aU2 ?_)))
 refine o_p (Qy rfl rfl Y1 ZU) rfl (Qh (YQ _) (aU2 ?_))
 refine o_p (Qy rfl rfl Y1 ZU) rfl (Qh (YQ _) (aU2 ?_))
 refine o_p (Qy rfl rfl Y1 ZU) rfl (Qh (YQ _) (aU3 ?_))
 refine o_p (Qy rfl rfl Y1 ZU) rfl (Qh (YQ _) (o_h (Qe (cs:=[_,_,_,_]) rfl rfl Q0 Qap rfl rfl rfl) rfl (λb4 _=>o_h (QaE (l:=ZG) [by8 co,by8 mo,by8 rm,by8 ((nth L 0).es.length:Int)] rfl rfl rfl Q0 Tryz.underlying139 Qap aPk (Xb aPk) (by show(4+4)*_<=_;omega) (by show 4+4<=maxLen;simp only[maxLen];omega)) rfl (λ⟨b5,c6⟩h7=>aU6 ?_))))
 refine o_h (QM (Cs:=[.byz b5 c6 ((ZG++[by8 co,by8 mo,by8 rm,by8 ((nth L 0).es.length:Int)]))]) rfl QpY rfl aPs (λw1 h1 hf=>c148 w1 b5 c6 (ZG++[by8 co,by8 mo,by8 rm,by8 ((nth L 0).es.length:Int)]) (nth L 0) hf om (by rw[l8]) (((hs.es h0).keep h1).mono (XB aPs)) (((hs.cs h0).keep h1).mono (XB aPs)) hp)) rfl (λ⟨b8,c9⟩hz10=>QQ (λw h=>h.byz_own .here) (o_q (ZW rfl rfl Tryz.underlying139 Tryz.underlying9 Tryz.underlying5 aPk (Zy _)) rfl (aU2 ?_)))
 exact rV (h:=by rw[Y4,hR];rfl)
theorem c32(w:World)(co mo rm:Int)(a:Option Addr)(cap:Nat)(L:List LNd)(hs:Nt w [] a L)(h0:0<L.length)(hp:NdP (nth L 0).pl)(hb:(0<=co/\co<256)/\(0<=mo/\mo<256)/\0<=rm/\rm<256):CR 32 #[.agg #[.int .i64 co,.int .i64 mo,.int .i64 rm,.slice a L.length cap]] w (.string (bs (Qbl (⟨co,mo,rm,pln L⟩:Tre)))):=by
 have hel:(nth L 0).es.length<=1000:=hp.el
 have hee:(Xi (nth L 0).pl (nth L 0).es.length).length<=608*(nth L 0).es.length/\(Xi (nth L 0).pl (nth L 0).es.length).length%8=0:=hp.ents _ (Nat.le_refl _)
 have hR:Qbl (⟨co,mo,rm,pln L⟩:Tre)=((((ZG++Qcr 1 co)++Qcr 1 mo)++Qcr 1 rm)++Qcr 1 ((nth L 0).es.length:Int))++Xy (nth L 0).pl:=by simp only[Qbl,QR,QlW,List.append_assoc];rfl
 have lco:=Zf 1 co
 have lmo:=Zf 1 mo
 have lrm:=Zf 1 rm
 have lel:=Zf 1 ((nth L 0).es.length:Int)
 have lcb:(Xy (nth L 0).pl).length=(Xi (nth L 0).pl (nth L 0).es.length).length+8:=by unfold Xy;rw[List.length_append,QbM];rfl
 refine eN1 Tryz.func32 Tryz.ntmps32 ?_
 refine aU2 ?_
 refine oBx λb1 _=>?_
 refine aU3 ?_
 refine Qt [] QC ?_
 refine dFa 0 ?_
 refine dLd 1 [] ?_
 refine dQ 2 [] rfl (Qv rfl Qcn rfl (λw1 h1=>c94 w1 co 1 om om)) (dV 3 rfl (Q8 rfl rfl rfl (by(try simp only[List.length_append,List.length_cons,List.length_nil,List.length_replicate,List.length_take,List.length_drop]);omega)) (dFa 4 ?_))
 refine dLd 5 [] ?_
 refine dQ 6 [] rfl (Qv rfl Qcn rfl (λw1 h1=>c94 w1 mo 1 om om)) (dV 7 rfl (Q8 rfl rfl rfl (by(try simp only[List.length_append,List.length_cons,List.length_nil,List.length_replicate,List.length_take,List.length_drop]);omega)) (dFa 8 ?_))
 refine dLd 9 [] ?_
 refine dQ 10 [] rfl (Qv rfl Qcn rfl (λw1 h1=>c94 w1 rm 1 om om)) (dV 11 rfl (Q8 rfl rfl rfl (by(try simp only[List.length_append,List.length_cons,List.length_nil,List.length_replicate,List.length_take,List.length_drop]);omega)) (dFa 12 ?_))
 refine dLd 13 [] ?_
 refine dV 14 rfl (Qa rfl rfl rfl Qw 0 rfl om (Rw.some hs.1 om)) (dFa 15 ?_)
 refine dQ 16 [] rfl (Qc rfl rfl Xq ((hs.1.rdj (i:=0) 1 h0 rfl))) (dV 17 rfl (QS rfl rfl Tryz.underlying67) (dQ 18 [] rfl (Qv rfl Qcn rfl (λw1 h1=>c94 w1 ((nth L 0).es.length:Int) 1 om om)) (dV 19 rfl (Q8 rfl rfl rfl (by(try simp only[List.length_append,List.length_cons,List.length_nil,List.length_replicate,List.length_take,List.length_drop]);omega)) (dFa 20 ?_))))
 refine dLd 21 [] ?_
 refine dV 22 rfl (Qa rfl rfl rfl Qw 0 rfl om (Rw.some hs.1 om)) (dQ 23 [] rfl (QB _ rfl rfl Xs rfl (Rw.rd hs.1 om)) (dQ 24 [] rfl (Qv rfl QtL rfl (λw1 h1=>c99 w1 (nth L 0) ((hs.es h0).later h1) ((hs.cs h0).later h1) hp)) (dV 25 rfl (Q8 rfl rfl rfl (by(try simp only[List.length_append,List.length_cons,List.length_nil,List.length_replicate,List.length_take,List.length_drop]);omega)) (dP 26 ?_))))
 refine dNi ?_
 exact rV (h:=by rw[hR];rfl)
end Go.Proofs
namespace Gx
open Go Go.RowKit
section
variable{w:World}{a:Option Addr}{vs:List Value}
theorem Vl.nilA:Vl w a []:=⟨λhn=>absurd hn (Nat.lt_irrefl 0)⟩
theorem Vl.dropA{cap k:Nat}(h:Vl w a vs)(hk:k<=vs.length)(hc:vs.length<=cap):Vl w (YY a cap k 1) (vs.drop k):=by
 rcases Nat.eq_or_lt_of_le hk with e|e
 ·grind[Vl.nilA]
 ·exact h.drop e om
theorem Vl.takeA{n:Nat}(h:Vl w a vs):Vl w a (vs.take n):=by
 refine⟨λhn=>?_⟩;rw[List.length_take]at hn;obtain⟨b,o,rfl,h2⟩:=h.at_ om
 grind
theorem Vl.sub{cap lo n:Nat}{x:List UInt8}(h:Vl w a (x.map bv))(hlo:lo+n<=x.length)(hc:x.length<=cap):Vl w (YY a cap lo 1) ((Qz x lo n).map bv):=by
 unfold Qz;rw[List.map_take,List.map_drop];exact(h.dropA (by rw[List.length_map];omega) (by rw[List.length_map];omega)).takeA
end
section
variable{P:Program}{o:Oper}{L:Qq}{w0:World}{As:List HA}
theorem Qai{src dst e n cap:Nat}{x:Operand}{a:Option Addr}(l:List UInt8)(ho:o.op=.convert src dst x)(hx:ev L x=some (.slice a n cap))(hs:P.underlying src=some (.slice e))(hd:P.underlying dst=some .string)(he:P.underlying e=some (.int .u8))(hl:l.length=n)(hv:Vl w0 a (l.map bv)):OpQ P o L (HS w0 [] As) (.string (bs l)):=by
 refine QjU l ho hx hs hd he hl λw hw hn=>?_;have h1:=hv.later hw;have h2:=h1.some (by rw[List.length_map];omega);refine⟨ab a,ao a,h2,λj hj=>?_⟩;have h3:=h1.rd (i:=j) (v:=.int .u8 (l[j].toNat:Int)) (by rw[List.getElem?_map,List.getElem?_eq_getElem hj];rfl);have h4:=h3.2.2
 rwa[Nat.mul_one]at h4
end
theorem QfQ{s:List UInt8}{p0 k count:Nat}{r:RdS}(h:rdE s p0 k=some r)(hk:k<count)(hs:Z7 s r.p=false):rdN s p0 count=none:=by
 unfold rdN;rw[Qvv h hs hk]
theorem QmY{s:List UInt8}{p0 count:Nat}{r:RdS}(h:rdE s p0 count=some r)(hs:ZK s r.p=false):rdN s p0 count=none:=by grind[rdN]
theorem QmQ{s:List UInt8}{p0 count:Nat}{r:RdS}(h:rdE s p0 count=some r)(hs:ZK s r.p=true):rdN s p0 count=if noz (r.cs++[(ub4 s (r.p+4):Int)])then some (⟨true,r.es,r.cs++[(ub4 s (r.p+4):Int)]⟩,r.p+8)else if Qd7 (r.cs++[(ub4 s (r.p+4):Int)])then some (⟨true,r.es,[]⟩,r.p+8)else none:=by grind[rdN]
def stR(s:List UInt8)(p0 count k:Nat):Option RdS:=if k<=count then rdE s p0 k else match rdE s p0 count with
 | none=>none
 | some r=>if ZK s r.p then some ⟨r.es,r.cs++[(ub4 s (r.p+4):Int)],r.p+8⟩else none
theorem Qfb{s:List UInt8}{p0 count k:Nat}(h:k<=count):stR s p0 count k=rdE s p0 k:=if_pos h
theorem Qqp{s:List UInt8}{p0 count k:Nat}{r:RdS}(h:stR s p0 count k=some r)(hk:k<count)(hs:Z7 s r.p=true):stR s p0 count (k+1)=some ⟨r.es++[XD s r.p],r.cs++[(ub4 s (r.p+4):Int)],r.p+ub2 s r.p⟩:=by grind[Qfb,QcW]
theorem Qp0{s:List UInt8}{p0 count:Nat}{r:RdS}(h:stR s p0 count count=some r)(hs:ZK s r.p=true):stR s p0 count (count+1)=some ⟨r.es,r.cs++[(ub4 s (r.p+4):Int)],r.p+8⟩:=by grind[Qfb,stR]
theorem QiR{s:List UInt8}{p0 count k:Nat}{r:RdS}(h:stR s p0 count k=some r)(hk:k<count)(hs:Z7 s r.p=false):rdN s p0 count=none:=by grind[Qfb,QfQ]
theorem Qnd{s:List UInt8}{p0 count:Nat}{r:RdS}(h:stR s p0 count count=some r)(hs:ZK s r.p=false):rdN s p0 count=none:=by grind[Qfb,QmY]
theorem Qr3{s:List UInt8}{p0 count:Nat}{r:RdS}(h:stR s p0 count (count+1)=some r):rdN s p0 count=if noz r.cs then some (⟨true,r.es,r.cs⟩,r.p)else if Qd7 r.cs then some (⟨true,r.es,[]⟩,r.p)else none:=by grind[stR,rdE,QmQ]
theorem Qt9{s:List UInt8}{p0 count k:Nat}(h0:p0<=s.length){r:RdS}(h:stR s p0 count k=some r)(hk:k<=count+1):p0<=r.p/\r.p<=s.length/\r.es.length<=k/\r.cs.length<=k:=by
 unfold stR at h;split at h
 ·obtain⟨h1,h2,h3,h4,_⟩:=Qcj h0 h;omega
 ·cases hq:rdE s p0 count with
  | none=>rw[hq]at h;cases h
  | some q=>
   rw[hq]at h;simp only[]at h;obtain⟨h1,h2,h3,h4,_⟩:=Qcj h0 hq
   grind[ZK]
theorem Qk4{s:List UInt8}{p:Nat}(h:¬(p+8<=s.length/\ub4 s (p+4)<=120/\p+ub2 s p<=s.length/\XM s p<=ub2 s p)):Z7 s p=false/\ZK s p=false:=by
 have hp:=Yr (XM s p);have hb:ub2 s (p+2)=ub1 s (p+2)+ub1 s (p+3)*256:=rfl
 grind[XM,ub1,Z7,ZL,Yy,ZK]
theorem Ql9{s:List UInt8}{p:Nat}(h:Yy (XD s p) (ub4 s (p+4))=false):Z7 s p=false:=by grind[Z7,ZL]
theorem QnA{s:List UInt8}{p:Nat}(h:p+8<=s.length/\ub4 s (p+4)<=120/\p+ub2 s p<=s.length/\XM s p<=ub2 s p)(hK:Yy (XD s p) (ub4 s (p+4))=true):decide (YD (XD s p) (ub4 s (p+4):Int)=Qz s p (ub2 s p))=Z7 s p:=by grind[Qmm,ZL]
theorem Qkz{s:List UInt8}{p:Nat}(h:p+8<=s.length/\ub4 s (p+4)<=120/\p+ub2 s p<=s.length/\XM s p<=ub2 s p):decide (Qbt (ub4 s (p+4):Int)=Qz s p (ub2 s p))=ZK s p:=by grind[Qmc,ZK]
def nzB(l:List Int):List Bool:=l.map λc=>decide (c≠0)
theorem QsT{l:List Int}{k:Nat}(h:k<l.length):(nzB l).getD k false=decide (nth l k≠0):=by
 unfold nzB;rw[Zh (d:=default) h];rfl
theorem Qmy(l:List Int):(nzB l).any id= !(Qd7 l):=by simp[List.any_map,List.all_eq_not_any_not,Bool.not_not,nzB,Qd7]
theorem QmR(l:List Int):noz l= !(decide ((0:Int)∈l)):=by grind[noz]
def Qs9(s:List UInt8)(p:Nat):Prop:=p+8<=s.length/\ub4 s (p+4)<=120/\p+ub2 s p<=s.length/\XM s p<=ub2 s p
theorem QnE{s:List UInt8}{p0 count k:Nat}{r:RdS}(h:stR s p0 count k=some r)(hk:k<count+1)(hs:¬Qs9 s r.p):rdN s p0 count=none:=by
 rcases Nat.lt_or_ge k count with h9|h9
 ·exact QiR h h9 (Qk4 hs).1
 ·obtain rfl:k=count:=by omega
  exact Qnd h (Qk4 hs).2
def Qkq(s:List UInt8)(p k count:Nat):List UInt8:=if k<count then YD (XD s p) (ub4 s (p+4):Int)else Qbt (ub4 s (p+4):Int)
def esR(s:List UInt8)(r:RdS)(k count:Nat):List TEnt:=if k<count then r.es++[XD s r.p]else r.es
theorem QiX{s:List UInt8}{p k count:Nat}(h:k<count):Qkq s p k count=YD (XD s p) (ub4 s (p+4):Int):=if_pos h
theorem Qiu{s:List UInt8}{p k count:Nat}(h:¬k<count):Qkq s p k count=Qbt (ub4 s (p+4):Int):=if_neg h
theorem QpD{s:List UInt8}{r:RdS}{k count:Nat}(h:k<count):esR s r k count=r.es++[XD s r.p]:=if_pos h
theorem QpN{s:List UInt8}{r:RdS}{k count:Nat}(h:¬k<count):esR s r k count=r.es:=if_neg h
theorem Qt8{s:List UInt8}{p0 count k:Nat}{r:RdS}(hst:stR s p0 count k=some r)(hk:k<count+1)(h4:Qs9 s r.p)(hK:k<count->Yy (XD s r.p) (ub4 s (r.p+4))=true)(h:¬Qkq s r.p k count=Qz s r.p (ub2 s r.p)):rdN s p0 count=none:=by
 rcases Nat.lt_or_ge k count with h9|h9
 ·rw[QiX h9]at h;refine QiR hst h9 ?_;rw[<-QnA h4 (hK h9)]
  grind
 ·obtain rfl:k=count:=by omega
  rw[Qiu (Nat.lt_irrefl _)]at h;refine Qnd hst ?_;rw[<-Qkz h4]
  grind
theorem Qvo{s:List UInt8}{p0 count k:Nat}{r:RdS}(hst:stR s p0 count k=some r)(hk:k<count+1)(h4:Qs9 s r.p)(hK:k<count->Yy (XD s r.p) (ub4 s (r.p+4))=true)(h:Qkq s r.p k count=Qz s r.p (ub2 s r.p)):stR s p0 count (k+1)=some ⟨esR s r k count,r.cs++[(ub4 s (r.p+4):Int)],r.p+ub2 s r.p⟩:=by
 rcases Nat.lt_or_ge k count with h9|h9
 ·rw[QiX h9]at h;rw[QpD h9];refine Qqp hst h9 ?_;rw[<-QnA h4 (hK h9)]
  grind
 ·obtain rfl:k=count:=by omega
  rw[Qiu (Nat.lt_irrefl _)]at h;rw[QpN (Nat.lt_irrefl _)];have he:ZK s r.p=true:=by rw[<-Qkz h4];exact decide_eq_true h
  grind[ub2,ZK,Qp0]
theorem QdQ{α β:Type}{f:α->List β}(l:List α)(x:α):(l++[x]).flatMap f=l.flatMap f++f x:=by simp
theorem Qgm{x:TEnt}{c:Nat}(hc:c<=120):Yy x c=((decide (1<=(x.key.length:Int))&&decide ((x.key.length:Int)<=40))&&(decide ((x.val.length:Int)<=64)&&YS x)):=by grind[Yy,YS]
end Gx
namespace Go.Proofs
open Go Go.RowKit Gx
attribute [local irreducible] Go.Calls Gx.S Gx.O Gx.D Gx.OpP Gx.OpQ Gx.OpH
set_option maxRecDepth 20000
instance:TFn Tryz.prog 207:=⟨by kernel_rfl⟩
theorem c157(w:World)(a b:Option Addr)(c d:Nat)(x y:List UInt8)(hx:Vl w a (x.map bv))(hy:Vl w b (y.map bv)):CR 157 #[.slice a x.length c,.slice b y.length d] w (.bool (decide (x=y))):=by
 refine eN2 Tryz.func157 Tryz.ntmps157 ?_
 refine aU7 ?_
 refine o_q (Qai x rfl rfl Tryz.underlying139 Tryz.underlying9 Tryz.underlying5 rfl hx) rfl (aU ?_)
 refine o_q (Qai y rfl rfl Tryz.underlying139 Tryz.underlying9 Tryz.underlying5 rfl hy) rfl (aU3 ?_)
 exact rV
theorem c159(w:World)(c:Int):CR 159 #[.int .i64 c] w (.bool (decide (c≠0))):=by
 refine eN1 Tryz.func159 Tryz.ntmps159 ?_
 refine Za ?_
 exact rV (h:=by simp only[Xf];congr 2;simp)
theorem c207(w:World)(a:Option Addr)(cap:Nat)(l:List Int)(q:Nat)(cv:Array Value)(bt:List Bool)(hs:Rw inV 1 w [] a l)(hm:l.length<=1000000)(hq:QY Tryz.prog q=true)(hb:bt.length=l.length)(hc:∀k w1,k<l.length->HS w [] [] w1->Calls Tryz.prog q (#[]++[.int .i64 (nth l k)].toArray++cv) w1 λen w2=>en=.returned (.bool (bt.getD k false))/\Below w1.heap.size w1 w2):CR 207 #[.slice a l.length cap,.func (.func q) #[] cv] w (.int .i64 (ixI bt)):=by
 refine eN2 Tryz.func207 Tryz.ntmps207 ?_
 refine Zx ?_
 refine Qx (α:=Nat) [4,5,8,9,10,11,12,13,14,15,16,17,18] (λk=>[(8,.int .i64 (k:Int))]) (λ_=>_) (λk=>k<=l.length/\∀i,i<k->bt.getD i false=false) (λk=>l.length-k) 0 ⟨om,λi h=>absurd h (Nat.not_lt_zero i)⟩ aSx (λw h=>h) (λk hk=>?_)
 obtain⟨hk1,hk2⟩:=hk
 refine aU5 ?_
 refine sCd rfl (λh1=>?_) λh1=>?_
 ·refine Qau ?_
  refine o_p (Qa rfl rfl rfl QA (k) om om (Rw.some hs om)) rfl (o_q (Qc rfl rfl X4 ((hs.rdj (i:=k) 0 om rfl))) rfl (o_q (XX rfl rfl hq rfl (λw1 h1=>hc k w1 om (h1.ent aEt))) rfl (aU ?_)))
  refine sCd rfl (λh2=>?_) λh2=>?_
  ·refine aU5 ?_
   exact rV (h:=by have e:=QaM (l:=bt) (k:=k) om hk2 (λ_=>by assumption);simp only[Xf,ixI,e];rw[if_pos om])
  refine aT4 ?_
  refine aU2 ?_
  exact Q1 (k+1) om ⟨om,λi hi=>(Nat.lt_or_ge i k).elim (hk2 i) (λh=>by obtain rfl:i=k:=om;assumption)⟩ aSx (λw h=>h)
 refine Qn rfl ?_
 refine aU4 ?_
 exact rV (h:=by have e:=QaM (l:=bt) (k:=k) om hk2 (λh=>om);simp only[Xf,ixI,e];rw[if_neg om])
theorem c158(w:World)(a:Option Addr)(cap:Nat)(l:List Int)(q:Nat)(cv:Array Value)(bt:List Bool)(hs:Rw inV 1 w [] a l)(hm:l.length<=1000000)(hq:QY Tryz.prog q=true)(hb:bt.length=l.length)(hc:∀k w1,k<l.length->HS w [] [] w1->Calls Tryz.prog q (#[]++[.int .i64 (nth l k)].toArray++cv) w1 λen w2=>en=.returned (.bool (bt.getD k false))/\Below w1.heap.size w1 w2):CR 158 #[.slice a l.length cap,.func (.func q) #[] cv] w (.bool (bt.any id)):=by
 refine eN2 Tryz.func158 Tryz.ntmps158 ?_
 refine aU8 ?_
 refine oCq rfl (λw1 h1=>c207 w1 a cap l q cv bt (hs.later h1) hm hq hb (λk w2 hk h2=>hc k w2 hk (by simpa using h1.call h2))) (aU3 ?_)
 exact rV (h:=by simp only[Xf];rw[<-Qfz])
end Go.Proofs
namespace Gx
open Go Go.RowKit
def czI(l:List Int):Nat:=(l.filter λc=>decide (c=0)).length
theorem QoM(l:List Int):czI l<=l.length:=List.length_filter_le _ _
theorem QpW{l:List Int}{k:Nat}(h:k<l.length):czI (l.take (k+1))=czI (l.take k)+(if nth l k=0 then 1 else 0):=by
 unfold czI;rw[List.take_add_one,List.getElem?_eq_getElem h,List.filter_append,List.length_append]
 grind[nth,Q2]
theorem Qtt{l:List Int}:czI l=0 ↔ noz l=true:=by simp_all[czI,noz]
theorem Ql5{l:List Int}:czI l=l.length ↔ Qd7 l=true:=by simp_all[czI,Qd7]
theorem Qbq(s:List UInt8)(a b:Nat):(s.take b).drop a=Qz s a (b-a):=by
 unfold Qz;rw[List.drop_take]
theorem QkE{x:TEnt}{c:Nat}:Yy x c=(decide (YV x c=0)&&decide ((x.val.length:Int)<=64)):=by grind[Yy,YV]
theorem QsX{s:List UInt8}{p:Nat}(h:¬(ub2 s p=Q7 (XM s p)/\p+ub2 s p<=s.length/\zer (Qz s (p+XM s p) (ub2 s p-XM s p))=true)):Z7 s p=false:=by grind[Z7,ZL]
theorem Qr6{s:List UInt8}{p:Nat}(h8:p+8<=s.length)(h:ub2 s p=Q7 (XM s p)/\p+ub2 s p<=s.length/\zer (Qz s (p+XM s p) (ub2 s p-XM s p))=true)(hK:Yy (XD s p) (ub4 s (p+4))=true):Z7 s p=true:=
 ZL.2 ⟨⟨h8,h.1,h.2.1⟩,h.2.2,hK⟩
section
variable{w0 w:World}{M:List Nat}{As As':List HA}{a:Option Addr}{cap et nt':Nat}{L:List LNd}
theorem HS.nodes_of1{n:LNd}(h:HS w0 M (.own (.slice a 1 cap) nt' 3 1 (LNd.vals n)::.ents et n.ea n.ec n.es::.kids n.ca n.cc n.cs::As) w):HS w0 M (.nodes et nt' a cap [n]::As) w:=by
 have h1:HS w0 M ([.ents et n.ea n.ec n.es,.kids n.ca n.cc n.cs]++(.own (.slice a 1 cap) nt' 3 1 (LNd.vals n)::As)) w:=h.perm ((List.Perm.swap ..).trans (List.Perm.cons _ (List.Perm.swap ..)));have h2:HS w0 M ([Qs et n]++(.own (.slice a 1 cap) nt' 3 1 (LNd.vals n)::As)) w:=HS.star_close h1;have h3:HS w0 M (.star ([n].map (Qs et))::.own (.slice a 1 cap) nt' 3 1 (LNd.vals n)::As) w:=HS.star_close h2;exact HS.row_shut (l:=[n]) (h3.perm (List.Perm.swap ..)) rfl (by simp)
theorem HS.nodes_own(h:HS w0 M As w)(hp:QE As (.nodes et nt' a cap L) As'):HS w0 M (.own (.slice a L.length cap) nt' 3 L.length (L.flatMap LNd.vals)::As') w:=by
 have h1:=HS.row_open (h.pick hp);exact(h1.perm ((List.Perm.swap ..))).tail
theorem HS.nodes_some(hn:0<L.length)(h:HS w0 M As w)(hp:QE As (.nodes et nt' a cap L) As'):∃g,a=some ⟨g,0,none⟩/\L.length<=cap/\cap<=maxLen:=by
 obtain⟨_,⟨_,h0⟩|⟨g,cap',e,h1,h2,_⟩⟩:=(h.nodes_own hp).head
 ·omega
 grind
theorem HS.nodes_blk{g:Nat}{x:LNd}(h:HS w0 M As w)(hp:QE As (.nodes et nt' (some ⟨g,0,none⟩) cap [x]) As'):HS w0 M (.blk g nt' (cap*3) (LNd.vals x)::As') w:=by
 have h1:=h.nodes_own hp;have h2:=HS.own_at h1 .here
 simpa using h2
end
theorem HS.ents_some{w0 w:World}{M:List Nat}{As As':List HA}{et cap:Nat}{a:Option Addr}{l:List TEnt}(hn:0<l.length)(h:HS w0 M As w)(hp:QE As (.ents et a cap l) As'):∃g,a=some ⟨g,0,none⟩:=by
 obtain⟨g,e,_⟩:=HS.own_blk hn hp h;exact⟨g,e⟩
theorem Qpt{L:List LNd}{x:Nd}(h:pln L=[x]):∃y,L=[y]/\y.pl=x:=by simp_all
def ZJ(co:Int)(es:List TEnt):Bool:=es.all λx=>QW co x.key
theorem Qka{co:Int}{es:List TEnt}{k:Nat}(h:k<es.length)(h2:QW co (nth es k).key=false):ZJ co es=false:=by
 cases hb:ZJ co es with
 | false=>rfl
 | true=>
  have:=List.all_eq_true.1 hb _ (QI h)
  grind
theorem QdB{co:Int}{es:List TEnt}(h:∀i,i<es.length->QW co (nth es i).key=true):ZJ co es=true:=by
 refine List.all_eq_true.2 λx hx=>?_;obtain⟨i,hi,e⟩:=List.getElem_of_mem hx;have:=h i hi
 simp_all[Q2,hi]
theorem QgD{co:Int}{es:List TEnt}(h:ZJ co es=true){k:Nat}(hk:k<es.length):QW co (nth es k).key=true:=List.all_eq_true.1 h _ (QI hk)
theorem Qr1{co:Int}{k:List UInt8}:X3 co k=0 ↔ QW co k=true:=by grind[X3]
theorem Qjx{s:List UInt8}(h:s.length<16):Qd s=(noT,10):=if_pos h
section
variable{s:List UInt8}(h1:¬s.length<16)
include h1
theorem QnC(h2:¬s.take 4=ZG):Qd s=(noT,3):=by unfold Qd;rw[if_neg h1,if_neg h2]
variable(h2:s.take 4=ZG)
include h2
theorem Qri(h3:¬QJ (at1 s 4)=0):Qd s=(noT,QJ (at1 s 4)):=by unfold Qd;rw[if_neg h1,if_pos h2,if_neg h3]
variable(h3:QJ (at1 s 4)=0)
include h3
theorem Qpx(h4:¬XW (at1 s 5) (at1 s 6)=0):Qd s=(noT,XW (at1 s 5) (at1 s 6)):=by unfold Qd;rw[if_neg h1,if_pos h2,if_pos h3,if_neg h4]
variable(h4:XW (at1 s 5) (at1 s 6)=0)
include h4
theorem Ql4(h5:¬at1 s 5<=4):Qd s=(noT,8):=by unfold Qd;rw[if_neg h1,if_pos h2,if_pos h3,if_pos h4,if_neg h5]
variable(h5:at1 s 5<=4)
include h5
theorem Qnb(h6:¬at1 s 7<=at1 s 6):Qd s=(noT,16):=by unfold Qd;rw[if_neg h1,if_pos h2,if_pos h3,if_pos h4,if_pos h5,if_neg h6]
variable(h6:at1 s 7<=at1 s 6)
include h6
theorem Qln(h7:∀n,rdN s 8 (ub1 s 7)=some (n,s.length)->Qeb (at1 s 4) n.es=false):Qd s=(noT,3):=by grind[Qd,rdN,ub1]
theorem QtC{n:Nd}(h7:rdN s 8 (ub1 s 7)=some (n,s.length))(h8:Qeb (at1 s 4) n.es=true):Qd s=(⟨at1 s 4,at1 s 5,at1 s 6,[n]⟩,0):=by grind[Qd]
end
def rtE(s:List UInt8):Int:=if QJ (at1 s 4)=0 then if XW (at1 s 5) (at1 s 6)=0 then if at1 s 5<=4 then if at1 s 7<=at1 s 6 then 0 else 16 else 8 else XW (at1 s 5) (at1 s 6)else QJ (at1 s 4)
theorem QwF{s:List UInt8}(h:rtE s=0):QJ (at1 s 4)=0/\XW (at1 s 5) (at1 s 6)=0/\at1 s 5<=4/\at1 s 7<=at1 s 6:=by grind[rtE]
theorem QtM{s:List UInt8}(h1:¬s.length<16)(h2:s.take 4=ZG)(h:¬rtE s=0):Qd s=(noT,rtE s):=by
 by_cases h3:QJ (at1 s 4)=0
 ·grind[XW,at1,rtE,Qnb,Ql4,Qpx]
 grind[Qri,rtE]
section
variable{P:Program}{o:Oper}{L:Qq}{w0:World}{M:List Nat}{As As':List HA}
theorem QiB{src dst e n cap b bt tot:Nat}{x:Operand}(s:List UInt8)(ho:o.op=.convert src dst x)(hx:ev L x=some (.slice (some ⟨b,0,none⟩) n cap))(hs:P.underlying src=some (.slice e))(hd:P.underlying dst=some .string)(he:P.underlying e=some (.int .u8))(hn:n<=s.length)(hp:QE As (.blk b bt tot (s.map bv)) As'):OpQ P o L (HS w0 M As) (.string (bs (s.take n))):=by
 refine QjU (s.take n) ho hx hs hd he (by rw[List.length_take];omega) λw hw _=>⟨b,0,rfl,λj hj=>?_⟩;rw[List.length_take]at hj;rw[Nat.zero_add];refine(hw.blk_get hp).cell ?_
 grind[bv]
end
theorem Qcf{s:List UInt8}{p0 count k:Nat}(h0:p0<=s.length){r:RdS}(h:stR s p0 count k=some r)(hk:k<=count+1):r.es.length<=count/\∀x∈r.es,Yy x 0=true:=by
 unfold stR at h;split at h
 ·obtain⟨h1,_,_,_,_,h6,_⟩:=Qcj h0 h
  grind
 ·cases hq:rdE s p0 count with
  | none=>rw[hq]at h;cases h
  | some q=>
   rw[hq]at h;simp only[]at h;obtain⟨h1,_,_,_,_,h6,_⟩:=Qcj h0 hq
   grind
theorem QvP{x:TEnt}{c:Nat}(h:Yy x c=true):Yy x 0=true:=by grind[Yy]
theorem Qvi{s:List UInt8}{p0 count k:Nat}(h0:p0<=s.length){r:RdS}(h:stR s p0 count k=some r)(hk:k<count+1)(hK:k<count->Yy (XD s r.p) (ub4 s (r.p+4))=true):(esR s r k count).length<=count/\∀x∈esR s r k count,Yy x 0=true:=by
 obtain⟨h1,h2⟩:=Qcf h0 h om;rcases Nat.lt_or_ge k count with hc|hc
 ·rw[QpD hc];rw[Qfb om]at h;have h3:=(Qcj h0 h).1
  grind[QvP]
 grind[QpN]
end Gx
namespace Go.Proofs
open Go Go.RowKit Gx
attribute [local irreducible] Go.Calls Gx.S Gx.O Gx.D Gx.OpP Gx.OpQ Gx.OpH
set_option maxRecDepth 20000
theorem QtQ:QY Tryz.prog 159=true:=by kernel_rfl
theorem Qrz:QY Tryz.prog 132=true:=by kernel_rfl
theorem Qcz:Qab Tryz.prog 27=some [(0,1),(1,1)]:=by kernel_rfl
instance:TFn Tryz.prog 157:=⟨by kernel_rfl⟩
instance:TFn Tryz.prog 158:=⟨by kernel_rfl⟩
theorem c92(w:World)(s:List UInt8)(p0 count:Nat)(a:Option Addr)(cap:Nat)(hs:Vl w a ((s.drop p0).map bv))(hp0:p0<=s.length)(hsl:s.length<=1000000)(hcap:s.length-p0<=cap)(hc9:cap<=9223372036854775807)(hct:count<=1000):CE 92 #[.slice a (s.length-p0) cap,.int .i64 (count:Int)] w [] (λg:LNd×Option Addr×Nat×Nat=>.tuple #[.agg (LNd.vals g.1).toArray,.slice g.2.1 g.2.2.1 g.2.2.2,.bool (rdN s p0 count).isSome]) (λg=>((∀nd e,rdN s p0 count=some (nd,e)->g.1.pl=nd/\g.2.2.1=s.length-e)/\g.1.es.length<=count/\∀x∈g.1.es,Yy x 0=true)) λg=>[.ents 27 g.1.ea g.1.ec g.1.es,.kids g.1.ca g.1.cc g.1.cs]:=by
 refine eN2 Tryz.func92 Tryz.ntmps92 ?_
 refine aU2 ?_
 refine oAl (λb1 _=>?_) Xj
 refine aT17 ?_
 refine aU3 ?_
 refine Qx (α:=Nat×RdS×(Option Addr×Nat)×(Option Addr×Nat)×(Option Addr×Nat)) [0,5,6,7,8,9,10,11,12,13,14,19,20,21,22,23,24,25,26,27,28,29,30,31,32,33,34,35,36,37,38,39,40,41,42,43,44,45,46,47,48,49,50,51,52,53,54,55,56,57,58,59,60,61,62,63,64,65,66,67,68,69,70,71,72,73,74,75,76,77,78,79,80,81,82,83,84,85,86,87,88,89,90,91,92,93,94,95,96,97,98,99,100,101,102,103,104,105,106,107,108,109,110,111,112,113,114] (λx=>[(19,.int .i64 (x.1:Int)),(7,.slice x.2.2.2.1.1 x.2.1.cs.length x.2.2.2.1.2),(0,.slice x.2.2.2.2.1 (s.length-x.2.1.p) x.2.2.2.2.2)]) (λx=>HS w [] [.blk b1 69 3 [.bool true,.slice x.2.2.1.1 x.2.1.es.length x.2.2.1.2,.slice none 0 0],.own (.slice x.2.2.1.1 x.2.1.es.length x.2.2.1.2) 27 2 x.2.1.es.length (x.2.1.es.flatMap TEnt.vals),.own (.slice x.2.2.2.1.1 x.2.1.cs.length x.2.2.2.1.2) 3 1 x.2.1.cs.length (x.2.1.cs.flatMap inV)]) (λx=>x.1<=count+1/\stR s p0 count x.1=some x.2.1/\Vl w x.2.2.2.2.1 ((s.drop x.2.1.p).map bv)/\s.length-x.2.1.p<=x.2.2.2.2.2/\x.2.2.2.2.2<=9223372036854775807) (λx=>count+1-x.1) (0,⟨[],[],p0⟩,(none,0),(none,0),(a,cap)) ⟨Nat.zero_le _,Qfb (Nat.zero_le _),hs,hcap,hc9⟩ aSx (λw h=>((h.own_nil 27 2).own_nil 3 1).ent aEt) (λ⟨k,r,⟨ea,ec⟩,⟨da,dc⟩,⟨ba,bc⟩⟩hk1=>?_)
 dsimp only
 simp only[]at hk1
 obtain⟨hk2,hst,hv,hbc,hbm⟩:=hk1
 obtain⟨hp1,hp2,hle,hlc⟩:=Qt9 hp0 hst hk2
 have hdl:(s.drop r.p).length=s.length-r.p:=List.length_drop
 refine aU5 ?_
 refine sCd rfl (λh2=>?_) λh2=>?_
 ·have hk:k<count+1:=by omega
  refine QuK ?_
  refine sCd rfl (λh3=>?_) λh3=>?_
  ·have hN:rdN s p0 count=none:=QnE hst hk (λh9=>by have hq:=h3;have:=h9.1;omega)
   refine aU7 ?_
   exact Qk (rs:=[.cell 4 69,.tmp 5,.tmp 6]) rfl (.cell rfl Xs aPk rfl (.tmp rfl (.tmp rfl (.nil)))) (λw' h'=>⟨(⟨true,ea,ec,r.es,none,0,[]⟩,none,0,0),by rw[hN];rfl,⟨λ_ _ h9=>(by rw[hN]at h9;cases h9),Qcf hp0 hst hk2⟩,(h'.own_nil 3 1).ent aEt⟩)
  have h8:r.p+8<=s.length:=by have hq:=h3;omega
  have hb2:=Qc9 s r.p
  have hbk:=YG s (r.p+2)
  have hbv:=YG s (r.p+3)
  have hb4:=Qmq s (r.p+4)
  have hsz:XM s r.p=8+ub1 s (r.p+2)+ub1 s (r.p+3):=rfl
  have hb12:((s.drop r.p).getD 2 0).toNat=ub1 s (r.p+2):=Ql7 s r.p 2
  have hb13:((s.drop r.p).getD 3 0).toNat=ub1 s (r.p+3):=Ql7 s r.p 3
  have ha2:at2 (s.drop r.p) 0=((ub2 s r.p:Nat):Int):=by rw[QbW,Nat.add_zero,Qc1]
  have ha4:at4 (s.drop (r.p+4)) 0=((ub4 s (r.p+4):Nat):Int):=by rw[Qf3,Nat.add_zero,Qgk]
  refine aU2 ?_
  refine Qt [] QC ?_
  refine dP 0 ?_
  refine dQ 1 [] rfl (Qv rfl Qiq rfl (λw1 h1=>Qsd w1 ba (s.length-r.p) bc (s.drop r.p) (hv.later h1) hdl om hbc hbm)) (dV 2 rfl (Qy rfl rfl YR Y1) ?_)
  try refine dWr ?_
  refine Qr (show _=Value.int .i64 ((ub2 s r.p:Nat):Int)from by first|exact congrArg (Value.int .i64) ha2|(rw[ha2];exact QeP om om)) (dP 3 ?_)
  refine dV 4 rfl (Qa rfl rfl rfl Q0 2 rfl om (hv.some (by rw[List.length_map,List.length_drop];omega))) (dQ 5 [] rfl (Qc rfl rfl Qef ((hv.rd (i:=2) (QaP (l:=(s.drop r.p)) (k:=2) om)))) (dV 6 rfl (Qy rfl rfl ZU Y1) ?_))
  try refine dWr ?_
  refine Qr (show _=Value.int .i64 ((ub1 s (r.p+2):Nat):Int)from by first|exact congrArg (λz:Nat=>Value.int .i64 (z:Int)) hb12|(rw[hb12];exact QeP om om)) (dP 7 ?_)
  refine dV 8 rfl (Qa rfl rfl rfl Q0 3 rfl om (hv.some (by rw[List.length_map,List.length_drop];omega))) (dQ 9 [] rfl (Qc rfl rfl Qef ((hv.rd (i:=3) (QaP (l:=(s.drop r.p)) (k:=3) om)))) (dV 10 rfl (Qy rfl rfl ZU Y1) ?_))
  try refine dWr ?_
  refine Qr (show _=Value.int .i64 ((ub1 s (r.p+3):Nat):Int)from by first|exact congrArg (λz:Nat=>Value.int .i64 (z:Int)) hb13|(rw[hb13];exact QeP om om)) (dP 11 ?_)
  refine dV 12 rfl (QG _ _ 4 (s.length-r.p) rfl rfl Q0 ⟨_,_,rfl,rfl⟩ rfl om om) (dQ 13 [] rfl (Qv rfl Qrz rfl (λw1 h1=>c132 w1 (YY ba bc 4 1) (s.length-r.p-4) (bc-4) (s.drop (r.p+4)) (by have h9:=(hv.later h1).dropA (k:=4) (cap:=bc) (by rw[List.length_map,hdl];omega) (by rw[List.length_map,hdl];omega);rw[<-List.map_drop,List.drop_drop]at h9;exact h9) (by rw[List.length_drop];omega) om om om)) (dV 14 rfl (Qy rfl rfl ZA Y1) ?_))
  try refine dWr ?_
  refine Qr (show _=Value.int .i64 ((ub4 s (r.p+4):Nat):Int)from by first|exact congrArg (Value.int .i64) ha4|(rw[ha4];exact QeP om om)) (dP 15 ?_)
  refine dP 16 ?_
  refine dP 17 ?_
  refine dP 18 ?_
  refine dNi ?_
  refine aU2 ?_
  refine Qg (L':=[(0,_),(1,_),(4,_),(7,_),(8,_),(9,_),(10,_),(11,_),(12,_),(16,_),(17,_),(18,_),(19,_)]) aSx (λ_ h=>h) ?_
  refine aU4 ?_
  refine oOr 5 43 48 rfl
   (λhg4 _=>by
    refine aU8 ?_
    exact oJf 5 48)
   (λhg6 _=>by
    refine aU4 ?_
    exact oJt 5 48) ?_
  refine aU ?_
  refine oOr 7 49 56 rfl
   (λhg8 _=>by
    refine aT6 ?_
    refine aT4 ?_
    refine aU2 ?_
    exact oJf 7 56)
   (λhg10 _=>by
    refine aU6 ?_
    exact oJt 7 56) ?_
  refine aU ?_
  refine sCd rfl (λh12=>?_) λh12=>?_
  ·have hN:rdN s p0 count=none:=QnE hst hk (λh9=>by have hq:=h12;obtain⟨q1,q2,q3,q4⟩:=h9;grind)
   refine aU7 ?_
   exact Qk (rs:=[.cell 4 69,.tmp 5,.tmp 6]) rfl (.cell rfl Xs aPk rfl (.tmp rfl (.tmp rfl (.nil)))) (λw' h'=>⟨(⟨true,ea,ec,r.es,none,0,[]⟩,none,0,0),by rw[hN];rfl,⟨λ_ _ h9=>(by rw[hN]at h9;cases h9),Qcf hp0 hst hk2⟩,(h'.own_nil 3 1).ent aEt⟩)
  have h4:Qs9 s r.p:=by have hq:=h12;refine⟨h8,?_,?_,?_⟩<;>grind
  obtain⟨_,h41,h42,h43⟩:=id h4
  obtain⟨hes,hkl,hvl⟩:=Qes (s:=s) (p:=r.p) om
  refine aU2 ?_
  refine Qt [16] QC ?_
  refine dP 0 ?_
  refine dP 1 ?_
  refine dP 2 ?_
  try refine dWr ?_
  refine dV 3 rfl (QG _ _ 8 (8+ub1 s (r.p+2)) rfl rfl Q0 ⟨_,_,rfl,rfl⟩ ⟨_,_,rfl,om⟩ om om) (dQ 4 [[]] rfl (Qai (XD s r.p).key rfl rfl Tryz.underlying139 Tryz.underlying9 Tryz.underlying5 (by rw[hkl];omega) (by have h9:=hv.sub (cap:=bc) (lo:=8) (n:=ub1 s (r.p+2)) (by rw[hdl];omega) (by rw[hdl];omega);rw[QeY]at h9;exact h9)) (dP 5 ?_))
  refine dP 6 ?_
  refine dP 7 ?_
  try refine dWr ?_
  refine dP 8 ?_
  refine dP 9 ?_
  try refine dWr ?_
  refine dP 10 ?_
  refine dP 11 ?_
  try refine dWr ?_
  refine dV 12 rfl (QG _ _ (8+ub1 s (r.p+2)) (8+ub1 s (r.p+2)+ub1 s (r.p+3)) rfl rfl Q0 ⟨_,_,rfl,om⟩ ⟨_,_,rfl,om⟩ om om) (dQ 13 [[]] rfl (Qai (XD s r.p).val rfl rfl Tryz.underlying139 Tryz.underlying9 Tryz.underlying5 (by rw[hvl];omega) (by have h9:=hv.sub (cap:=bc) (lo:=8+ub1 s (r.p+2)) (n:=ub1 s (r.p+3)) (by rw[hdl];omega) (by rw[hdl];omega);rw[QeY,<-Nat.add_assoc]at h9;exact h9)) (dV 14 rfl (QF (cs:=[_,_]) rfl rfl Qcz XH rfl) (dH 15 rfl (ZX rfl XH) (λb13 _=>dBa ?_))))
  refine dSt 16 ?_ (hl:=(by simp only[Qm,List.length_set,List.length_cons,List.length_nil,List.length_map];omega))
  refine dTu [] ?_
  refine dNi ?_
  refine aU ?_
  refine Qg (L':=[(0,_),(1,_),(4,_),(7,_),(8,_),(9,_),(10,_),(11,_),(12,_),(13,_),(16,_),(17,_),(18,_),(19,_)]) aSx (λ_ h=>h) ?_
  refine aU2 ?_
  refine QQ (λw h=>h.byz_nil) (o_h (QM (Cs:=[.byz none 0 []]) rfl Qo5 rfl aPs (λw1 h1 hf=>c156 w1 none 0 [] ((ub4 s (r.p+4):Nat):Int) hf om (Nat.zero_le _))) rfl (λ⟨b14,c15⟩hz16=>aU9 ?_))
  refine XY (α:=(Option Addr×Nat)×(Option Addr×Nat)) [5,6,14,78,79,80,81,82,83,84,85,86,87,88,89,90,91,92,93,94,95,96,97,98,99] (λy=>[(14,.slice y.1.1 (Qkq s r.p k count).length y.1.2)]) (λy=>HS w [] [.blk b1 69 3 [.bool true,.slice y.2.1 (esR s r k count).length y.2.2,.slice none 0 0],.own (.slice y.2.1 (esR s r k count).length y.2.2) 27 2 (esR s r k count).length ((esR s r k count).flatMap TEnt.vals),.own (.slice da r.cs.length dc) 3 1 r.cs.length (r.cs.flatMap inV),.byz y.1.1 y.1.2 (Qkq s r.p k count)]) (λ_=>k<count->Yy (XD s r.p) (ub4 s (r.p+4))=true) ?_ ?_
  ·skip
   refine sCd rfl (λh17=>?_) λh17=>?_
   ·have hkc:k<count:=by have hq:=h17;omega
    refine aU4 ?_
    refine oCq rfl (λw1 h1=>c87 w1 _ _ _) (aU2 ?_)
    refine oOr 3 81 84 rfl
     (λhg18 _=>by
      refine aU4 ?_
      exact oJf 3 84)
     (λhg20 _=>by
      refine aU2 ?_
      exact oJt 3 84) ?_
    refine aU ?_
    refine oOr 4 85 89 rfl
     (λhg22 _=>by
      refine aU3 ?_
      refine oCq rfl (λw1 h1=>c88 w1 _ om om) (aU2 ?_)
      exact oJf 4 89)
     (λhg24 _=>by
      refine aU3 ?_
      exact oJt 4 89) ?_
    refine aU ?_
    refine sCd rfl (λh26=>?_) λh26=>?_
    ·have hN:rdN s p0 count=none:=QiR hst hkc (Ql9 (by rw[Qgm h41];have hq:=h26;grind))
     refine aU7 ?_
     exact Qk (rs:=[.cell 4 69,.tmp 5,.tmp 6]) rfl (.cell rfl Xs aPk rfl (.tmp rfl (.tmp rfl (.nil)))) (λw' h'=>⟨(⟨true,ea,ec,r.es,none,0,[]⟩,none,0,0),by rw[hN];rfl,⟨λ_ _ h9=>(by rw[hN]at h9;cases h9),Qcf hp0 hst hk2⟩,(h'.own_nil 3 1).ent aEt⟩)
    have hK:Yy (XD s r.p) (ub4 s (r.p+4))=true:=by rw[Qgm h41];have hq:=h26;grind
    refine aU5 ?_
    refine QQ (λw h=>h.byz_nil) (o_h (QM (Cs:=[.byz none 0 []]) rfl QoR rfl aPs (λw1 h1 hf=>c89 w1 none 0 [] (XD s r.p) ((ub4 s (r.p+4):Nat):Int) hf (Nat.zero_le _) rfl om om om)) rfl (λ⟨b27,c28⟩hz29=>aU2 ?_))
    refine Qg (L':=[(0,_),(1,_),(4,_),(7,_),(8,_),(9,_),(10,_),(11,_),(12,_),(13,_),(14,_),(16,_),(17,_),(18,_),(19,_),(73,_),(74,_),(75,_),(76,_),(77,_)]) aSx (λ_ h=>h) ?_
    refine aU4 ?_
    refine o_h (Qe (cs:=[_,_]) rfl rfl QN XH rfl rfl rfl) rfl (λb30 _=>o_h (QL ((XD s r.p).vals) rfl rfl rfl QN Tryz.underlying67 XH rfl aPk (Xb aPk) rfl (ev1 _) om (by simp only[maxLen];omega)) rfl (λb31 _=>aU3 ?_))
    exact Qo ((b27,c28),(b31.1,b31.2)) (λ_=>hK) (by dsimp only;rw[QiX hkc];exact aSx) (λw h=>by dsimp only;rw[QiX hkc,QpD hkc,List.length_append,QdQ];exact h.ent aEt)
   have hkc:¬k<count:=by have hq:=h17;omega
   refine aU ?_
   exact Qo ((b14,c15),(ea,ec)) (λh9=>absurd h9 hkc) (by dsimp only;rw[Qiu hkc];exact aSx) (λw h=>by dsimp only;rw[Qiu hkc,QpN hkc];exact h.ent aEt)
  intro⟨⟨o1,o2⟩,⟨e1,e2⟩⟩ hKK
  refine aU6 ?_
  refine o_p (QG _ _ 0 (ub2 s r.p) rfl rfl Q0 rfl ⟨_,_,rfl,rfl⟩ om om) rfl (Qh (show _=Value.slice (YY ba bc 0 1) (Qz s r.p (ub2 s r.p)).length (bc-0)from by rw[XJ h42];rfl) (oCq rfl (λw1 h1=>c157 w1 o1 (YY ba bc 0 1) o2 (bc-0) (Qkq s r.p k count) (Qz s r.p (ub2 s r.p)) (h1.vl_byz aPk) (by have h9:=(hv.later h1).sub (cap:=bc) (lo:=0) (n:=(ub2 s r.p)) (by rw[hdl];omega) (by rw[hdl];omega);rw[QeY,Nat.add_zero]at h9;exact h9)) (aU2 ?_)))
  refine sCd rfl (λh32=>?_) λh32=>?_
  ·have hN:rdN s p0 count=none:=Qt8 hst hk h4 hKK (by have hq:=h32;simpa using hq)
   refine aU7 ?_
   exact Qk (rs:=[.cell 4 69,.tmp 5,.tmp 6]) rfl (.cell rfl Xs aPk rfl (.tmp rfl (.tmp rfl (.nil)))) (λw' h'=>⟨(⟨true,e1,e2,esR s r k count,none,0,[]⟩,none,0,0),by rw[hN];rfl,⟨λ_ _ h9=>(by rw[hN]at h9;cases h9),Qvi hp0 hst hk hKK⟩,(h'.own_nil 3 1).ent aEt⟩)
  have how:Qkq s r.p k count=Qz s r.p (ub2 s r.p):=by have hq:=h32;simpa using hq
  have hnx:=Qvo hst hk h4 hKK how
  have hvn:Vl w (YY ba bc (ub2 s r.p) 1) ((s.drop (r.p+(ub2 s r.p))).map bv):=by have h9:=hv.dropA (k:=(ub2 s r.p)) (cap:=bc) (by rw[List.length_map,hdl];omega) (by rw[List.length_map,hdl];omega);rw[<-List.map_drop,List.drop_drop]at h9;exact h9
  refine aU ?_
  refine Qt [3] QC ?_
  refine dP 0 ?_
  refine dP 1 ?_
  refine dP 4 ?_
  refine dP 5 ?_
  refine dV 6 rfl (QG _ _ (ub2 s r.p) (s.length-r.p) rfl rfl Q0 ⟨_,_,rfl,rfl⟩ rfl om om) (Qr (show _=Value.slice (YY ba bc (ub2 s r.p) 1) (s.length-(r.p+(ub2 s r.p))) (bc-(ub2 s r.p))from by rw[Nat.sub_sub]) (dH 2 rfl (Qe (cs:=[_]) rfl rfl QA Yp rfl rfl rfl) (λb33 _=>dBa ?_)))
  refine dH 3 rfl (QL (inV ((ub4 s (r.p+4):Nat):Int)) rfl rfl rfl QA Tryz.underlying28 Yp rfl aPk (Xb aPk) rfl (QdX _) om (by simp only[maxLen];omega)) (λb34 _=>dTu [] ?_)
  refine dP 7 ?_
  refine dP 8 ?_
  refine dNi ?_
  refine aU ?_
  refine Qg (L':=[(0,_),(1,_),(4,_),(7,_),(16,_),(17,_),(18,_),(19,_)]) aSx (λ_ h=>h) ?_
  refine aT2 ?_
  refine aU2 ?_
  exact Q1 (k+1,⟨esR s r k count,r.cs++[((ub4 s (r.p+4):Nat):Int)],r.p+(ub2 s r.p)⟩,(e1,e2),(b34.1,b34.2),(YY ba bc (ub2 s r.p) 1,bc-(ub2 s r.p))) (by(try simp only[]);omega) (by simp only[];exact⟨om,hnx,hvn,om,om⟩) (by dsimp only;rw[List.length_append];exact aSx) (λw h=>by dsimp only;rw[List.length_append,QdQ];exact h.ent aEt)
 obtain rfl:k=count+1:=om
 have hN:=Qr3 hst
 refine Qn rfl ?_
 refine aU4 ?_
 refine oCq rfl (λw1 h1=>c62 w1 da dc r.cs 0 (h1.rw_own iv1 aPk rfl) om) (aU9 ?_)
 refine sCd rfl (λh35=>?_) λh35=>?_
 ·have hz:noz r.cs=true:=by rw[QmR];have hq:=h35;simpa using hq
  rw[hz]at hN
  have hN:rdN s p0 count=some (⟨true,r.es,r.cs⟩,r.p):=hN
  refine QeV ?_
  exact Qk (rs:=[.cell 4 69,.tmp 5,.tmp 6]) rfl (.cell rfl Xs aPk rfl (.tmp rfl (.tmp rfl (.nil)))) (λw' h'=>by first|exact⟨(⟨true,ea,ec,r.es,da,dc,r.cs⟩,ba,s.length-r.p,bc),by rw[hN];rfl,⟨λnd e h9=>by(rw[hN]at h9;injection h9 with h9;injection h9 with q1 q2;subst q1 q2;exact⟨rfl,rfl⟩),Qcf hp0 hst hk2⟩,h'.ent aEt⟩|exact⟨(⟨true,ea,ec,r.es,none,0,[]⟩,ba,s.length-r.p,bc),by rw[hN];rfl,⟨λnd e h9=>by(rw[hN]at h9;injection h9 with h9;injection h9 with q1 q2;subst q1 q2;exact⟨rfl,rfl⟩),Qcf hp0 hst hk2⟩,(h'.own_nil 3 1).ent aEt⟩)
 have hz:noz r.cs=false:=by rw[QmR];have hq:=h35;simpa using hq
 rw[hz]at hN
 refine aU3 ?_
 refine oCq rfl (λw1 h1=>c158 w1 da dc r.cs 159 #[] (nzB r.cs) (h1.rw_own iv1 aPk rfl) om QtQ (by simp[nzB]) (λk w2 hk h2=>by rw[QsT hk];exact c159 w2 (nth r.cs k))) (aU2 ?_)
 refine sCd rfl (λh36=>?_) λh36=>?_
 ·have hz2:Qd7 r.cs=false:=by have hq:=h36;rw[Qmy]at hq;simpa using hq
  rw[hz2]at hN
  have hN:rdN s p0 count=none:=hN
  refine aU7 ?_
  exact Qk (rs:=[.cell 4 69,.tmp 5,.tmp 6]) rfl (.cell rfl Xs aPk rfl (.tmp rfl (.tmp rfl (.nil)))) (λw' h'=>⟨(⟨true,ea,ec,r.es,none,0,[]⟩,none,0,0),by rw[hN];rfl,⟨λ_ _ h9=>(by rw[hN]at h9;cases h9),Qcf hp0 hst hk2⟩,(h'.own_nil 3 1).ent aEt⟩)
 have hz2:Qd7 r.cs=true:=by have hq:=h36;rw[Qmy]at hq;simpa using hq
 rw[hz2]at hN
 have hN:rdN s p0 count=some (⟨true,r.es,[]⟩,r.p):=hN
 refine Za ?_
 exact Qk (rs:=[.cell 4 69,.tmp 5,.tmp 6]) rfl (.cell rfl Xs aPk rfl (.tmp rfl (.tmp rfl (.nil)))) (λw' h'=>by first|exact⟨(⟨true,ea,ec,r.es,da,dc,r.cs⟩,ba,s.length-r.p,bc),by rw[hN];rfl,⟨λnd e h9=>by(rw[hN]at h9;injection h9 with h9;injection h9 with q1 q2;subst q1 q2;exact⟨rfl,rfl⟩),Qcf hp0 hst hk2⟩,h'.ent aEt⟩|exact⟨(⟨true,ea,ec,r.es,none,0,[]⟩,ba,s.length-r.p,bc),by rw[hN];rfl,⟨λnd e h9=>by(rw[hN]at h9;injection h9 with h9;injection h9 with q1 q2;subst q1 q2;exact⟨rfl,rfl⟩),Qcf hp0 hst hk2⟩,(h'.own_nil 3 1).ent aEt⟩)
instance:TFn Tryz.prog 53:=⟨by kernel_rfl⟩
instance:TFn Tryz.prog 29:=⟨by kernel_rfl⟩
theorem c98(w:World)(s:List UInt8)(p0 count:Nat)(hp0:p0<=s.length)(hsl:s.length<=1000000)(hct:count<=1000):CE 98 #[.string (bs s),.int .i64 (p0:Int),.int .i64 (count:Int)] w [] (λg:LNd×Nat=>.tuple #[.agg (LNd.vals g.1).toArray,.int .i64 (g.2:Int),.bool (rdN s p0 count).isSome]) (λg=>((∀nd e,rdN s p0 count=some (nd,e)->g.1.pl=nd/\g.2=e)/\g.1.es.length<=count/\∀x∈g.1.es,Yy x 0=true)) λg=>[.ents 27 g.1.ea g.1.ec g.1.es,.kids g.1.ca g.1.cc g.1.cs]:=by
 refine eN3 Tryz.func98 Tryz.ntmps98 ?_
 refine aU2 ?_
 refine oAl (λb1 _=>?_) Xj
 refine aU5 ?_
 refine o_p (QF (cs:=[_,_,_]) rfl rfl QbP Xj rfl) rfl (oAl (λb2 _=>?_) Xj)
 refine Zx ?_
 refine Qx (α:=Nat×RdS×(Option Addr×Nat)×(Option Addr×Nat)) [1,7,8,10,11,12,13,14,15,16,17,21,22,23,24,25,26,27,28,29,30,31,32,33,34,35,36,37,38,39,40,41,42,43,44,45,46,47,48,49,50,51,52,53,54,55,56,57,58,59,60,61,62,63,64,65,66,67,68,69,70,71,72,73,74,75,76,77,78,79,80,81,82,83,84,85,86,87,88,89,90,91,92,93,94,95,96,97,98,99,100,101,102,103,104,105,106,107,108,109,110,111,112,113,114,115,116,117] (λx=>[(11,.int .i64 (x.1:Int)),(1,.int .i64 (x.2.1.p:Int)),(10,.slice x.2.2.2.1 x.2.1.cs.length x.2.2.2.2)]) (λx=>HS w [] [.blk b2 69 3 [.bool true,.slice x.2.2.1.1 x.2.1.es.length x.2.2.1.2,.slice none 0 0],.own (.slice x.2.2.1.1 x.2.1.es.length x.2.2.1.2) 27 2 x.2.1.es.length (x.2.1.es.flatMap TEnt.vals),.own (.slice x.2.2.2.1 x.2.1.cs.length x.2.2.2.2) 3 1 x.2.1.cs.length (x.2.1.cs.flatMap inV),.blk b1 69 3 [.bool false,.slice none 0 0,.slice none 0 0]]) (λx=>x.1<=count/\rdE s p0 x.1=some x.2.1) (λx=>count-x.1) (0,⟨[],[],p0⟩,(none,0),(none,0)) ⟨Nat.zero_le _,rfl⟩ aSx (λw h=>((h.own_nil 27 2).own_nil 3 1).ent aEt) (λ⟨k,r,⟨ea,ec⟩,⟨da,dc⟩⟩hk1=>?_)
 dsimp only
 simp only[]at hk1
 obtain⟨hk2,hst⟩:=hk1
 obtain⟨hle,hlc,hp1,hp2,_,hee,_⟩:=Qcj hp0 hst
 refine aU7 ?_
 refine sCd rfl (λh3=>?_) λh3=>?_
 ·have hk:k<count:=by omega
  refine aT8 ?_
  refine aU ?_
  refine o_p (Qp rfl rfl Tryz.underlying9) rfl (aU2 ?_)
  refine sCd rfl (λh4=>?_) λh4=>?_
  ·have hN:rdN s p0 count=none:=QfQ hst hk (Qk4 (λh9=>by have hq:=h4;have:=h9.1;omega)).1
   refine aU7 ?_
   exact Qk (rs:=[.cell 6 69,.tmp 7,.tmp 8]) rfl (.cell rfl Xs aPk rfl (.tmp rfl (.tmp rfl (.nil)))) (λw' h'=>⟨(⟨true,ea,ec,r.es,none,0,[]⟩,0),by rw[hN];rfl,⟨λ_ _ h9=>(by rw[hN]at h9;cases h9),by show r.es.length<=_;omega,hee⟩,(h'.own_nil 3 1).ent aEt⟩)
  have h8:r.p+8<=s.length:=by have hq:=h4;omega
  have hb2:=Qc9 s r.p
  have hbk:=YG s (r.p+2)
  have hbv:=YG s (r.p+3)
  have hb4:=Qmq s (r.p+4)
  have hsz:XM s r.p=8+ub1 s (r.p+2)+ub1 s (r.p+3):=rfl
  have hp8:=Yr (XM s r.p)
  refine aU5 ?_
  refine oCq rfl (λw1 h1=>by have h9:=c72 w1 s (r.p) 2 om om om;rw[QcB,Qc1]at h9;exact h9) (aT3 ?_)
  refine oCq rfl (λw1 h1=>by have h9:=c72 w1 s (r.p+2) 1 om om om;rw[QdR,Qjt]at h9;exact h9) (aT3 ?_)
  refine oCq rfl (λw1 h1=>by have h9:=c72 w1 s (r.p+3) 1 om om om;rw[QdR,Qjt]at h9;exact h9) (aT3 ?_)
  refine oCq rfl (λw1 h1=>by have h9:=c72 w1 s (r.p+4) 4 om om om;rw[Z1,Qgk]at h9;exact h9) (aU6 ?_)
  refine Qg (L':=[(0,_),(1,_),(2,_),(6,_),(9,_),(10,_),(11,_),(12,_),(13,_),(14,_),(15,_),(20,_)]) aSx (λ_ h=>h) ?_
  refine aT3 ?_
  refine aT2 ?_
  refine Qh (show _=Value.int .i64 ((XM s r.p:Nat):Int)from congrArg (Value.int .i64) om) (aU7 ?_)
  refine oCq rfl (λw1 h1=>c95 w1 (XM s r.p) om) (aU2 ?_)
  refine oOr 7 55 62 rfl
   (λhg5 _=>by
    refine aT6 ?_
    refine aU3 ?_
    refine o_p (Qp rfl rfl Tryz.underlying9) rfl (aU2 ?_)
    exact oJf 7 62)
   (λhg7 _=>by
    refine aU6 ?_
    exact oJt 7 62) ?_
  refine aU ?_
  refine oOr 11 63 74 rfl
   (λhg9 _=>by
    refine aT8 ?_
    refine aT6 ?_
    refine aU ?_
    refine o_p (XP _ _ (r.p+XM s r.p) (r.p+ub2 s r.p) rfl rfl Tryz.underlying9 ⟨_,_,rfl,om⟩ ⟨_,_,rfl,om⟩ om om) rfl (Qh (show _=Value.string (bs (Qz s (r.p+XM s r.p) (ub2 s r.p-XM s r.p)))from by rw[Qbq];congr 3;omega) (aU ?_))
    refine oCq rfl (λw1 h1=>c53 w1 (Qz s (r.p+XM s r.p) (ub2 s r.p-XM s r.p)) (by rw[XJ om];omega)) (aU2 ?_)
    exact oJf 11 74)
   (λhg11 _=>by
    refine Za ?_
    exact oJt 11 74) ?_
  refine aU ?_
  refine sCd rfl (λh13=>?_) λh13=>?_
  ·have hN:rdN s p0 count=none:=QfQ hst hk (QsX (λh9=>by have hq:=h13;obtain⟨q1,q2,q3⟩:=h9;grind))
   refine aU7 ?_
   exact Qk (rs:=[.cell 6 69,.tmp 7,.tmp 8]) rfl (.cell rfl Xs aPk rfl (.tmp rfl (.tmp rfl (.nil)))) (λw' h'=>⟨(⟨true,ea,ec,r.es,none,0,[]⟩,0),by rw[hN];rfl,⟨λ_ _ h9=>(by rw[hN]at h9;cases h9),by show r.es.length<=_;omega,hee⟩,(h'.own_nil 3 1).ent aEt⟩)
  have h4:ub2 s r.p=Q7 (XM s r.p)/\r.p+ub2 s r.p<=s.length/\zer (Qz s (r.p+XM s r.p) (ub2 s r.p-XM s r.p))=true:=by have hq:=h13;grind
  obtain⟨hes,hkl,hvl⟩:=Qes (s:=s) (p:=r.p) om
  refine aU2 ?_
  refine Qt [19] QC ?_
  refine dP 0 ?_
  refine dP 1 ?_
  refine dP 2 ?_
  try refine dWr ?_
  refine dP 3 ?_
  refine dP 4 ?_
  try refine dWr ?_
  refine dP 5 ?_
  refine dP 6 ?_
  try refine dWr ?_
  refine dV 7 rfl (XP _ _ (r.p+8) (r.p+8+ub1 s (r.p+2)) rfl rfl Tryz.underlying9 ⟨_,_,rfl,om⟩ ⟨_,_,rfl,om⟩ om om) (Qr (show _=Value.string (bs (XD s r.p).key)from by rw[Qbq];congr 2;show Qz _ _ _=Qz _ _ _;congr 1;omega) (dP 8 ?_))
  refine dP 9 ?_
  refine dP 10 ?_
  try refine dWr ?_
  refine dP 11 ?_
  refine dP 12 ?_
  try refine dWr ?_
  refine dP 13 ?_
  refine dP 14 ?_
  refine dP 15 ?_
  try refine dWr ?_
  refine dV 16 rfl (XP _ _ (r.p+8+ub1 s (r.p+2)) (r.p+XM s r.p) rfl rfl Tryz.underlying9 ⟨_,_,rfl,om⟩ ⟨_,_,rfl,om⟩ om om) (Qr (show _=Value.string (bs (XD s r.p).val)from by rw[Qbq];congr 2;show Qz _ _ _=Qz _ _ _;congr 1;omega) (dV 17 rfl (QF (cs:=[_,_]) rfl rfl Qcz XH rfl) (dH 18 rfl (ZX rfl XH) (λb14 _=>dBa ?_))))
  refine dSt 19 ?_ (hl:=(by simp only[Qm,List.length_set,List.length_cons,List.length_nil,List.length_map];omega))
  refine dTu [] ?_
  refine dNi ?_
  refine aU2 ?_
  refine Qg (L':=[(0,_),(1,_),(2,_),(6,_),(9,_),(10,_),(11,_),(12,_),(15,_),(17,_),(20,_)]) aSx (λ_ h=>h) ?_
  refine aU3 ?_
  refine oCq rfl (λw1 h1=>c29 w1 (XD s r.p) ((ub4 s (r.p+4):Nat):Int) om om) (aU2 ?_)
  refine oOr 5 98 103 rfl
   (λhg15 _=>by
    refine aU5 ?_
    refine o_p (Qp rfl rfl Tryz.underlying9) rfl (aU2 ?_)
    exact oJf 5 103)
   (λhg17 _=>by
    refine aU4 ?_
    exact oJt 5 103) ?_
  refine aU ?_
  refine sCd rfl (λh19=>?_) λh19=>?_
  ·have hN:rdN s p0 count=none:=QfQ hst hk (Ql9 (by rw[QkE];have hq:=h19;grind))
   refine aU7 ?_
   exact Qk (rs:=[.cell 6 69,.tmp 7,.tmp 8]) rfl (.cell rfl Xs aPk rfl (.tmp rfl (.tmp rfl (.nil)))) (λw' h'=>⟨(⟨true,ea,ec,r.es,none,0,[]⟩,0),by rw[hN];rfl,⟨λ_ _ h9=>(by rw[hN]at h9;cases h9),by show r.es.length<=_;omega,hee⟩,(h'.own_nil 3 1).ent aEt⟩)
  have hK:Yy (XD s r.p) (ub4 s (r.p+4))=true:=by rw[QkE];have hq:=h19;grind
  have hok:=Qr6 h8 h4 hK
  refine aU6 ?_
  refine o_h (Qe (cs:=[_,_]) rfl rfl QN XH rfl rfl rfl) rfl (λb20 _=>o_h (QL ((XD s r.p).vals) rfl rfl rfl QN Tryz.underlying67 XH rfl aPk (Xb aPk) rfl (ev1 _) om (by simp only[maxLen];omega)) rfl (λb21 _=>aU2 ?_))
  refine o_h (Qe (cs:=[_]) rfl rfl QA Yp rfl rfl rfl) rfl (λb22 _=>o_h (QL (inV ((ub4 s (r.p+4):Nat):Int)) rfl rfl rfl QA Tryz.underlying28 Yp rfl aPk (Xb aPk) rfl (QdX _) om (by simp only[maxLen];omega)) rfl (λb23 _=>aT8 ?_))
  refine aU3 ?_
  refine Qg (L':=[(0,_),(1,_),(2,_),(6,_),(9,_),(10,_),(11,_),(20,_)]) aSx (λ_ h=>h) ?_
  refine aT3 ?_
  refine aU2 ?_
  exact Q1 (k+1,⟨r.es++[XD s r.p],r.cs++[((ub4 s (r.p+4):Nat):Int)],r.p+ub2 s r.p⟩,(b21.1,b21.2),(b23.1,b23.2)) (by(try simp only[]);omega) ⟨by(try simp only[]);omega,QcW hst hok⟩ (by dsimp only;rw[List.length_append];exact aSx) (λw h=>by dsimp only;rw[@List.length_append _ r.es _,@List.length_append _ r.cs _,QdQ,QdQ];exact h.ent aEt)
 obtain rfl:k=count:=om
 refine Qn rfl ?_
 refine aT5 ?_
 refine aU ?_
 refine o_p (Qp rfl rfl Tryz.underlying9) rfl (aU2 ?_)
 refine oOr 5 123 128 rfl
  (λhg24 _=>by
   refine aU5 ?_
   refine oCq rfl (λw1 h1=>by have h9:=c72 w1 s (r.p) 2 om om om;rw[QcB,Qc1]at h9;exact h9) (aU2 ?_)
   exact oJf 5 128)
  (λhg26 _=>by
   refine aU4 ?_
   exact oJt 5 128) ?_
 refine aU ?_
 refine oOr 6 129 135 rfl
  (λhg28 _=>by
   refine aT6 ?_
   refine aU ?_
   refine oCq rfl (λw1 h1=>by have h9:=c72 w1 s (r.p+2) 2 om om om;rw[QcB,Qc1]at h9;exact h9) (aU2 ?_)
   exact oJf 6 135)
  (λhg30 _=>by
   refine aU5 ?_
   exact oJt 6 135) ?_
 refine aU ?_
 refine oOr 7 136 143 rfl
  (λhg32 _=>by
   refine aT6 ?_
   refine aU ?_
   refine oCq rfl (λw1 h1=>by have h9:=c72 w1 s (r.p+4) 4 om om om;rw[Z1,Qgk]at h9;exact h9) (aU ?_)
   refine oCq rfl (λw1 h1=>c40 w1 _ _ _) (aU2 ?_)
   exact oJf 7 143)
  (λhg34 _=>by
   refine aU6 ?_
   exact oJt 7 143) ?_
 refine aU ?_
 refine sCd rfl (λh36=>?_) λh36=>?_
 ·have hN:rdN s p0 k=none:=QmY hst (by unfold ZK;have hq:=h36;grind)
  refine aU7 ?_
  exact Qk (rs:=[.cell 6 69,.tmp 7,.tmp 8]) rfl (.cell rfl Xs aPk rfl (.tmp rfl (.tmp rfl (.nil)))) (λw' h'=>⟨(⟨true,ea,ec,r.es,none,0,[]⟩,0),by rw[hN];rfl,⟨λ_ _ h9=>(by rw[hN]at h9;cases h9),by show r.es.length<=_;omega,hee⟩,(h'.own_nil 3 1).ent aEt⟩)
 have hE:ZK s r.p=true:=by unfold ZK;have hq:=h36;grind
 have hN:=QmQ hst hE
 obtain⟨h8,_,_,_⟩:r.p+8<=s.length/\ub2 s r.p=8/\ub2 s (r.p+2)=0/\ub4 s (r.p+4)<=120:=by simpa[ZK]using hE
 obtain⟨ch,hch⟩:∃ch:List Int,ch=r.cs++[((ub4 s (r.p+4):Nat):Int)]:=⟨_,rfl⟩
 rw[<-hch]at hN
 have hchl:ch.length<=1001:=by rw[hch,List.length_append];simp only[List.length_cons,List.length_nil];omega
 refine aT7 ?_
 refine oCq rfl (λw1 h1=>by have h9:=c72 w1 s (r.p+4) 4 om om om;rw[Z1,Qgk]at h9;exact h9) (o_h (Qe (cs:=[_]) rfl rfl QA Yp rfl rfl rfl) rfl (λb37 _=>o_h (QL (inV ((ub4 s (r.p+4):Nat):Int)) rfl rfl rfl QA Tryz.underlying28 Yp rfl aPk (Xb aPk) rfl (QdX _) om (by simp only[maxLen];omega)) rfl (λb38 _=>Qh (show _=Value.slice b38.1 ch.length b38.2 from by rw[hch,List.length_append];rfl) (aU8 ?_))))
 refine Qg (L':=[(0,_),(1,_),(2,_),(6,_),(9,_),(10,_),(11,_),(18,_),(20,_)]) aSx (λ_ h=>h) ?_
 refine aU4 ?_
 obtain⟨fa,fc⟩:=b38
 dsimp only
 refine Xp (λw9 h=>HS.kids_some (l:=ch) (by rw[hch,List.length_append];exact Nat.succ_pos _) (show HS w [] [.kids fa fc ch] w9 from by rw[hch,HA.kids,@List.length_append _ r.cs _,QdQ];exact h.ent aEt) .here) λhfa=>?_
 obtain⟨gf,rfl⟩:=hfa
 refine Qx (α:=Nat) [18,19,152,153,154,155,156,157,158,159,160,161,162,163,164,165] (λi=>[(19,.int .i64 (i:Int)),(18,.int .i64 ((czI (ch.take i):Nat):Int))]) (λ_=>HS w [] [.blk b2 69 3 [.bool true,.slice ea r.es.length ec,.slice none 0 0],.own (.slice ea r.es.length ec) 27 2 r.es.length (r.es.flatMap TEnt.vals),.own (.slice (some ⟨gf,0,none⟩) ch.length fc) 3 1 ch.length (ch.flatMap inV),.blk b1 69 3 [.bool false,.slice none 0 0,.slice none 0 0]]) (λi=>i<=ch.length) (λi=>ch.length-i) 0 (Nat.zero_le _) aSx (λw h=>by rw[hch,@List.length_append _ r.cs _,QdQ];exact h.ent aEt) (λi hi1=>?_)
 refine aU8 ?_
 refine sCd rfl (λh39=>?_) λh39=>?_
 ·have hi:i<ch.length:=by omega
  have hcz:((czI (ch.take (i+1)):Nat):Int)=((czI (ch.take i):Nat):Int)+(if nth ch i=0 then 1 else 0):=by rw[QpW hi];split<;>simp
  have hczl:=QoM (ch.take i)
  rw[List.length_take]at hczl
  refine aU7 ?_
  refine o_p (Qa rfl rfl rfl QA (i) om om rfl) rfl (o_q (Qf rfl rfl X4 (λw9 h=>(show Rd w9 [] gf (0+i*1) (.int .i64 (nth ch i))from(h.rw_own (a:=some ⟨gf,0,none⟩) (l:=ch) iv1 aPk rfl).rdj (i:=i) 0 hi rfl))) rfl (aU ?_))
  refine oCq rfl (λw1 h1=>Qr8 w1 _) (aT ?_)
  refine Qh (show _=Value.int .i64 ((czI (ch.take (i+1)):Nat):Int)from by rw[hcz];by_cases hz9:nth ch i=0<;>simp only[hz9,decide_true,decide_false,if_true,if_false,Bool.false_eq_true]<;>first|rfl|exact QeP om om) (aT6 ?_)
  refine aU2 ?_
  exact sBk (i+1) om om (by exact aSx)
 obtain rfl:i=ch.length:=om
 rw[List.take_length]
 refine Qn rfl ?_
 refine aU6 ?_
 refine sCd rfl (λh40=>?_) λh40=>?_
 ·have hz:noz ch=true:=Qtt.1 (by have hq:=h40;omega)
  rw[hz]at hN
  have hN:rdN s p0 k=some (⟨true,r.es,ch⟩,r.p+8):=hN
  refine Qhi ?_
  refine aU4 ?_
  exact Qk (rs:=[.cell 6 69,.tmp 7,.tmp 8]) rfl (.cell rfl Xs aPk rfl (.tmp rfl (.tmp rfl (.nil)))) (λw' h'=>by first|exact⟨(⟨true,ea,ec,r.es,some ⟨gf,0,none⟩,fc,ch⟩,r.p+8),by rw[hN];rfl,⟨λnd e h9=>(by rw[hN]at h9;injection h9 with h9;injection h9 with q1 q2;subst q1 q2;exact⟨rfl,rfl⟩),by show r.es.length<=_;omega,hee⟩,h'.ent aEt⟩|exact⟨(⟨true,ea,ec,r.es,none,0,[]⟩,r.p+8),by rw[hN];rfl,⟨λnd e h9=>(by rw[hN]at h9;injection h9 with h9;injection h9 with q1 q2;subst q1 q2;exact⟨rfl,rfl⟩),by show r.es.length<=_;omega,hee⟩,(h'.own_nil 3 1).ent aEt⟩)
 have hz0:¬czI ch=0:=by have hq:=h40;omega
 have hz:noz ch=false:=by cases hb:noz ch;rfl;exact absurd (Qtt.2 hb) hz0
 rw[hz]at hN
 refine aU7 ?_
 refine sCd rfl (λh41=>?_) λh41=>?_
 ·have hz2:Qd7 ch=false:=by cases hb:Qd7 ch;rfl;have:=Ql5.2 hb;have hq:=h41;omega
  rw[hz2]at hN
  have hN:rdN s p0 k=none:=hN
  refine aU7 ?_
  exact Qk (rs:=[.cell 6 69,.tmp 7,.tmp 8]) rfl (.cell rfl Xs aPk rfl (.tmp rfl (.tmp rfl (.nil)))) (λw' h'=>⟨(⟨true,ea,ec,r.es,none,0,[]⟩,0),by rw[hN];rfl,⟨λ_ _ h9=>(by rw[hN]at h9;cases h9),by show r.es.length<=_;omega,hee⟩,(h'.own_nil 3 1).ent aEt⟩)
 have hz2:Qd7 ch=true:=Ql5.1 (by have:=QoM ch;have hq:=h41;omega)
 rw[hz2]at hN
 have hN:rdN s p0 k=some (⟨true,r.es,[]⟩,r.p+8):=hN
 refine aT6 ?_
 refine aU4 ?_
 exact Qk (rs:=[.cell 6 69,.tmp 7,.tmp 8]) rfl (.cell rfl Xs aPk rfl (.tmp rfl (.tmp rfl (.nil)))) (λw' h'=>by first|exact⟨(⟨true,ea,ec,r.es,some ⟨gf,0,none⟩,fc,ch⟩,r.p+8),by rw[hN];rfl,⟨λnd e h9=>(by rw[hN]at h9;injection h9 with h9;injection h9 with q1 q2;subst q1 q2;exact⟨rfl,rfl⟩),by show r.es.length<=_;omega,hee⟩,h'.ent aEt⟩|exact⟨(⟨true,ea,ec,r.es,none,0,[]⟩,r.p+8),by rw[hN];rfl,⟨λnd e h9=>(by rw[hN]at h9;injection h9 with h9;injection h9 with q1 q2;subst q1 q2;exact⟨rfl,rfl⟩),by show r.es.length<=_;omega,hee⟩,(h'.own_nil 3 1).ent aEt⟩)
theorem Qts:QY Tryz.prog 58=true:=by kernel_rfl
instance:TFn Tryz.prog 58:=⟨Qts⟩
theorem Qs1{co:Int}{l:List TEnt}{k:Nat}(hco:QJ co=0)(hk:k<l.length)(h:∀i,i<k->Qbj co l i=true):Qcs co (nth l (k-1)).key (nth l k).key=X3 co (nth l k).key:=by
  unfold Qcs;rw[if_pos hco];rcases Nat.eq_zero_or_pos k with h0|h0
  · subst h0
    by_cases hz:X3 co (nth l 0).key=0
    · rw[if_pos hz]
    · rw[if_neg hz]
  · have h1:=h (k-1) om;unfold Qbj at h1;rw[Bool.and_eq_true]at h1;rw[if_pos (Qr1.2 h1.1)]
theorem c93(w:World)(co:Int)(a:Option Addr)(cap:Nat)(l:List TEnt)(hs:Rw TEnt.vals 2 w [] a l)(hl:l.length<=100000)(hkl:∀x∈l,x.key.length<=1000000)(hco:QJ co=0):CR 93 #[.int .i64 co,.slice a l.length cap] w (.bool (Qeb co l)):=by
 refine eN2 Tryz.func93 Tryz.ntmps93 ?_
 refine Zx ?_
 refine Qx (α:=Nat) [4,5,6,7,8,11,12,13,14,15,16,17,18,19,20,21,22,23,24,25,26,27,28,29,30,31,32,33,34,35,36,37,38,39,40] (λk=>[(11,.int .i64 (k:Int))]) (λ_=>HS w [] []) (λk=>k<=l.length/\∀i,i<k->Qbj co l i=true) (λk=>l.length-k) 0 ⟨Nat.zero_le _,λi h=>absurd h (Nat.not_lt_zero _)⟩ aSx (λw h=>h.ent aEt) (λk hkk=>?_)
 obtain⟨hk1,hk2⟩:=hkk
 refine aU5 ?_
 refine sCd rfl (λh1=>?_) λh1=>?_
 ·have hk:k<l.length:=by omega
  have hcm:=Qs1 hco hk hk2
  refine aU6 ?_
  refine o_p (Qa rfl rfl rfl QN (k) om om (Rw.some hs om)) rfl (o_q (QB _ rfl rfl Yk rfl (Rw.rd hs om)) rfl (oAl (λb2 _=>?_) XH))
  refine aU4 ?_
  refine Qt [] QC ?_
  refine dP 0 ?_
  refine dP 1 ?_
  refine dP 2 ?_
  refine dP 3 ?_
  try refine dWr ?_
  refine dV 4 rfl (QeU rfl rfl rfl ) ?_
  refine Qr (show _=Value.int .i64 ((k-1:Nat):Int)from congrArg (Value.int .i64) (by split<;>omega)) (dV 5 rfl (Qa rfl rfl rfl QN (k-1) om om (Rw.some hs om)) (dFa 6 ?_))
  refine dQ 7 [] rfl (Qc rfl rfl Zt ((hs.rdj (i:=k-1) 0 om rfl))) (dFa 8 ?_)
  refine dLd 9 [] ?_
  refine dQ 10 [] rfl (Qv rfl Qts rfl (λw1 h1=>c58 w1 co (nth l (k-1)).key (nth l k).key (hkl _ (QI om)) (hkl _ (QI hk)))) (dP 11 ?_)
  refine dP 12 ?_
  refine dP 13 ?_
  refine dP 14 ?_
  refine dP 15 ?_
  refine dNi ?_
  refine aU5 ?_
  refine oOr 7 32 39 rfl
   (λhg3 _=>by
    refine aU6 ?_
    refine XF 3 35 38 rfl
     (λhg5 _=>by
      refine aU5 ?_
      exact oJt 3 38)
     (λhg7 _=>by
      refine aU3 ?_
      exact oJf 3 38) ?_
    exact oJf 5 39)
   (λhg9 _=>by
    refine aU6 ?_
    exact oJt 7 39) ?_
  refine aU ?_
  refine sCd rfl (λh11=>?_) λh11=>?_
  ·have hF:Qeb co l=false:=QmG hk (by unfold Qbj;have hq:=h11;rw[hcm]at hq;unfold X3 at hq;grind)
   refine aU ?_
   refine Qg (L':=[(0,_),(1,_),(9,_),(10,_),(11,_)]) aSx (λ_ h=>h) ?_
   refine aU3 ?_
   exact rV (h:=by rw[hF];rfl)
  have hA:Qbj co l k=true:=by unfold Qbj;have hq:=h11;rw[hcm]at hq;unfold X3 at hq;grind
  refine aU2 ?_
  refine Qg (L':=[(0,_),(1,_),(9,_),(10,_),(11,_)]) aSx (λ_ h=>h) ?_
  refine aT2 ?_
  refine aU2 ?_
  exact sBk (k+1) om ⟨om,λi hi=>(Nat.lt_or_ge i k).elim (hk2 i) (λh=>by obtain rfl:i=k:=om;exact hA)⟩
 obtain rfl:k=l.length:=om
 have hT:Qeb co l=true:=QbH.2 hk2
 refine Qn rfl ?_
 refine aU4 ?_
 exact rV (h:=by rw[hT];rfl)
theorem c70(w:World)(j:Nat)(n:LNd)(hj:j<=3)(hes:Rw TEnt.vals 2 w [] n.ea n.es)(hl:n.es.length<=100000)(hkl:∀x∈n.es,x.key.length<=1000000):CR 70 #[.int .i64 (j:Int),.agg #[.bool n.us,.slice n.ea n.es.length n.ec,.slice n.ca n.cs.length n.cc]] w (.bool (ZJ (j:Int) n.es)):=by
 refine eN2 Tryz.func70 Tryz.ntmps70 ?_
 refine aU2 ?_
 refine oBx λb1 _=>?_
 refine aU8 ?_
 refine Qx (α:=Nat) [4,5,6,7,8,9,10,11,12,13,14,15,16,17,18,19,20,21] (λk=>[(5,.int .i64 (k:Int))]) (λ_=>HS w [] [.blk b1 69 3 (LNd.vals n)]) (λk=>k<=n.es.length/\∀i,i<k->QW (j:Int) (nth n.es i).key=true) (λk=>n.es.length-k) 0 ⟨Nat.zero_le _,λi h=>absurd h (Nat.not_lt_zero _)⟩ aSx (λw h=>h.ent aEt) (λk hkk=>?_)
 obtain⟨hk1,hk2⟩:=hkk
 refine aU9 ?_
 refine sCd rfl (λh2=>?_) λh2=>?_
 ·have hk:k<n.es.length:=by omega
  refine aU9 ?_
  refine o_p (Qa rfl rfl rfl QN (k) om om (Rw.some hes om)) rfl (aU ?_)
  refine o_q (Qc rfl rfl Zt ((hes.rdj (i:=k) 0 om rfl))) rfl (oCq rfl (λw1 h1=>c17 w1 j (nth n.es k).key hj (hkl _ (QI hk))) (aU2 ?_))
  refine sCd rfl (λh3=>?_) λh3=>?_
  ·have hF:ZJ (j:Int) n.es=false:=Qka hk (by have hq:=h3;unfold X3 at hq;grind)
   refine aU4 ?_
   exact rV (h:=by rw[hF];rfl)
  have hA:QW (j:Int) (nth n.es k).key=true:=by have hq:=h3;unfold X3 at hq;grind
  refine aT5 ?_
  refine aU2 ?_
  exact sBk (k+1) om ⟨om,λi hi=>(Nat.lt_or_ge i k).elim (hk2 i) (λh=>by obtain rfl:i=k:=om;exact hA)⟩
 obtain rfl:k=n.es.length:=om
 have hT:ZJ (j:Int) n.es=true:=QdB hk2
 refine Qn rfl ?_
 refine aU4 ?_
 exact rV (h:=by rw[hT];rfl)
instance:TFn Tryz.prog 91:=⟨by kernel_rfl⟩
instance:TFn Tryz.prog 92:=⟨by kernel_rfl⟩
instance:TFn Tryz.prog 93:=⟨by kernel_rfl⟩
theorem c28(w:World)(s:List UInt8)(hsl:s.length<=1000000):CE 28 #[.string (bs s)] w [] (λg:(Option Addr×Nat)×List LNd=>.tuple #[.agg #[.int .i64 (Qd s).1.co,.int .i64 (Qd s).1.mo,.int .i64 (Qd s).1.rm,.slice g.1.1 g.2.length g.1.2],.int .i64 (Qd s).2]) (λg=>pln g.2=(Qd s).1.ns) λg=>[.nodes 27 69 g.1.1 g.1.2 g.2]:=by
 have hb4:=(s.getD 4 0).toNat_lt
 have hb5:=(s.getD 5 0).toNat_lt
 have hb6:=(s.getD 6 0).toNat_lt
 have hb7:=(s.getD 7 0).toNat_lt
 have hf9:Xr [.int .i64 (if QJ (at1 s 4)=0 then XW (at1 s 5) (at1 s 6)else QJ (at1 s 4)),.int .i64 (cond (decide (at1 s 5<=4)) 0 8),.int .i64 (cond (decide (at1 s 7<=at1 s 6)) 0 16)]=rtE s:=by simp only[Xr,rtE,cond_eq_ite,decide_eq_true_eq];grind
 refine eN1 Tryz.func28 Tryz.ntmps28 ?_
 refine aU2 ?_
 refine oAl (λb1 _=>?_) Xh
 refine aU5 ?_
 refine o_h (Qcc rfl rfl Tryz.underlying9 Tryz.underlying139 Tryz.underlying5 rfl (by simp only[maxLen];omega)) rfl (λ⟨b2,c3⟩⟨h4,k5⟩=>aU9 ?_)
 refine sCd rfl (λh6=>?_) λh6=>?_
 ·have hR:Qd s=(noT,10):=Qjx (by have hq:=h6;omega)
  refine aU2 ?_
  refine o_p (QF (cs:=[_,_,_,_]) rfl rfl ZP Xh rfl) rfl (aU3 ?_)
  exact Qk (rs:=[.cell 2 37,.tmp 3]) rfl (.cell rfl XR aPk rfl (.tmp rfl (.nil))) (λw' h'=>⟨((none,0),[]),by rw[hR];rfl,by rw[hR];rfl,(Xe 27 69 h'.nil).ent aEt⟩)
 have h16:¬s.length<16:=by have hq:=h6;omega
 refine aU5 ?_
 refine o_p (QG _ _ 0 4 rfl rfl Q0 rfl ⟨_,_,rfl,rfl⟩ om om) rfl (Qh (show _=Value.slice (some ⟨b2,0,none⟩) 4 c3 from by rw[Yw];rfl) (o_q (QiB s rfl rfl Tryz.underlying139 Tryz.underlying9 Tryz.underlying5 om aPk) rfl (aU2 ?_)))
 refine sCd rfl (λh7=>?_) λh7=>?_
 ·have hR:Qd s=(noT,3):=QnC h16 (by have hq:=h7;intro h9;rw[h9]at hq;simp[ZG]at hq)
  refine aU2 ?_
  refine o_p (QF (cs:=[_,_,_,_]) rfl rfl ZP Xh rfl) rfl (aU3 ?_)
  exact Qk (rs:=[.cell 2 37,.tmp 3]) rfl (.cell rfl XR aPk rfl (.tmp rfl (.nil))) (λw' h'=>⟨((none,0),[]),by rw[hR];rfl,by rw[hR];rfl,(Xe 27 69 h'.nil).ent aEt⟩)
 have hs4:s.take 4=ZG:=by have hq:=h7;first|exact hq|simpa[ZG]using hq
 refine aU2 ?_
 refine Qt [] QC ?_
 refine dP 0 ?_
 refine dV 1 rfl (Qa rfl rfl rfl Q0 4 rfl om rfl) (dQ 2 [] rfl (Qf rfl rfl Qef (λw9 h=>by rw[Nat.zero_add];exact h.rd_blk (Mc:=[]) aPk (by rw[Nat.mul_one];exact QaP (l:=s) (k:=4) om) (by simp))) (dV 3 rfl (Qy rfl rfl ZU Y1) ?_))
 try refine dWr ?_
 refine Qr (show _=Value.int .i64 (at1 s 4)from by first|rfl|exact QeP om om) (dP 4 ?_)
 refine dV 5 rfl (Qa rfl rfl rfl Q0 5 rfl om rfl) (dQ 6 [] rfl (Qf rfl rfl Qef (λw9 h=>by rw[Nat.zero_add];exact h.rd_blk (Mc:=[]) aPk (by rw[Nat.mul_one];exact QaP (l:=s) (k:=5) om) (by simp))) (dV 7 rfl (Qy rfl rfl ZU Y1) ?_))
 try refine dWr ?_
 refine Qr (show _=Value.int .i64 (at1 s 5)from by first|rfl|exact QeP om om) (dP 8 ?_)
 refine dV 9 rfl (Qa rfl rfl rfl Q0 6 rfl om rfl) (dQ 10 [] rfl (Qf rfl rfl Qef (λw9 h=>by rw[Nat.zero_add];exact h.rd_blk (Mc:=[]) aPk (by rw[Nat.mul_one];exact QaP (l:=s) (k:=6) om) (by simp))) (dV 11 rfl (Qy rfl rfl ZU Y1) ?_))
 try refine dWr ?_
 refine Qr (show _=Value.int .i64 (at1 s 6)from by first|rfl|exact QeP om om) (dP 12 ?_)
 refine dV 13 rfl (Qa rfl rfl rfl Q0 7 rfl om rfl) (dQ 14 [] rfl (Qf rfl rfl Qef (λw9 h=>by rw[Nat.zero_add];exact h.rd_blk (Mc:=[]) aPk (by rw[Nat.mul_one];exact QaP (l:=s) (k:=7) om) (by simp))) (dV 15 rfl (Qy rfl rfl ZU Y1) ?_))
 try refine dWr ?_
 refine Qr (show _=Value.int .i64 (at1 s 7)from by first|rfl|exact QeP om om) (dP 16 ?_)
 refine dP 17 ?_
 refine dP 18 ?_
 refine dP 19 ?_
 refine dNi ?_
 refine aU ?_
 refine Qg (L':=[(2,_),(3,_),(4,_),(5,_),(6,_),(7,_),(8,_)]) aSx (λ_ h=>h) ?_
 refine aU4 ?_
 refine oCh rfl (λw1 h1=>c91 w1 (at1 s 4) (at1 s 5) (at1 s 6)) (λ⟨⟨na,nc⟩,nL⟩hnL=>aU3 ?_)
 refine oAl (λb8 _=>?_) Xh
 refine aU9 ?_
 refine oCq rfl (λw1 h1=>c60 w1 _ _) (aU3 ?_)
 refine oCq rfl (λw1 h1=>c60 w1 _ _) (o_h (Qe (cs:=[_,_,_]) rfl rfl Yo ZR rfl rfl rfl) rfl (λb9 _=>oCq rfl (λw1 h1=>f59 h1 aPk (by rfl) (by rfl) (by decide)) (aU7 ?_)))
 refine sCd rfl (λh10=>?_) λh10=>?_
 ·have hR:Qd s=(noT,Xr [.int .i64 (if QJ (at1 s 4)=0 then XW (at1 s 5) (at1 s 6)else QJ (at1 s 4)),.int .i64 (cond (decide (at1 s 5<=4)) 0 8),.int .i64 (cond (decide (at1 s 7<=at1 s 6)) 0 16)]):=by rw[hf9];exact QtM h16 hs4 (by have hq:=h10;rwa[hf9]at hq)
  refine aU2 ?_
  refine o_p (QF (cs:=[_,_,_,_]) rfl rfl ZP Xh rfl) rfl (aU4 ?_)
  exact Qk (rs:=[.cell 2 37,.tmp 3]) rfl (.cell rfl XR aPk rfl (.tmp rfl (.nil))) (λw' h'=>⟨((none,0),[]),by rw[hR];rfl,by rw[hR];rfl,(Xe 27 69 h'.nil).ent aEt⟩)
 have hE:rtE s=0:=by have hq:=h10;rwa[hf9]at hq
 obtain⟨h3,h4,h5,h6⟩:=QwF hE
 have hem:Qhk (at1 s 4) (at1 s 5) (at1 s 6)=⟨at1 s 4,at1 s 5,at1 s 6,[⟨true,[],[]⟩]⟩:=by unfold Qhk;rw[if_pos h3,if_pos h4]
 rw[hem]at hnL
 obtain⟨x9,hx9,_⟩:=Qpt hnL
 subst hx9
 rw[hem]
 dsimp only
 refine Xp (λw9 h=>HS.nodes_some (L:=[x9]) (Nat.succ_pos _) h aPk) λhna=>?_
 obtain⟨g9,rfl,hna1,hna2⟩:=hna
 refine XG (λw9 h=>(show HS w [] (.blk g9 69 (nc*3) [.bool x9.us,.slice x9.ea x9.es.length x9.ec,.slice x9.ca x9.cs.length x9.cc]::_) w9 from HS.nodes_blk h aPk)) (aU4 ?_)
 refine o_p (QG _ _ 8 s.length rfl rfl Q0 ⟨_,_,rfl,rfl⟩ rfl om om) rfl (aU ?_)
 refine oCh rfl (λw1 h1=>c92 w1 s 8 (ub1 s 7) (YY (some ⟨b2,0,none⟩) c3 8 1) (c3-8) (by have h9:=(h1.vl_blk (cs:=s.map bv) aPk).dropA (k:=8) (cap:=c3) (by rw[List.length_map];omega) (by rw[List.length_map];omega);rw[<-List.map_drop]at h9;exact h9) om hsl om (by have hq9:c3<=maxLen:=(by assumption);simp only[maxLen]at hq9;omega) (by have:=YG s 7;omega)) (λ⟨gn,gr,gl,gc⟩hgn=>aU4 ?_)
 refine oAl (λb11 _=>?_) Xj
 refine aU6 ?_
 refine Qg (L':=[(2,_),(3,_),(5,_),(9,_),(11,_),(12,_),(13,_)]) aSx (λ_ h=>h) ?_
 refine aU4 ?_
 refine oOr 4 72 76 rfl
  (λhg12 _=>by
   refine aU6 ?_
   exact oJf 4 76)
  (λhg14 _=>by
   refine aU3 ?_
   exact oJt 4 76) ?_
 refine aU ?_
 refine oOr 6 77 83 rfl
  (λhg16 _=>by
   refine aU7 ?_
   refine oCq rfl (λw1 h1=>c93 w1 (at1 s 4) gn.ea gn.ec gn.es (h1.rw_own ev2 aPk rfl) (by have h9:gn.es.length<=ub1 s 7:=hgn.2.1;have:=YG s 7;omega) (λx hx=>by have:=hgn.2.2 x hx;simp only[Yy,decide_eq_true_eq]at this;omega) h3) (aU2 ?_)
   exact oJf 6 83)
  (λhg18 _=>by
   refine aU5 ?_
   exact oJt 6 83) ?_
 refine aU ?_
 refine sCd rfl (λh20=>?_) λh20=>?_
 ·have hR:Qd s=(noT,3):=Qln h16 hs4 h3 h4 h5 h6 (λn9 hn9=>by have hq:=h20;have h91:=hgn.1 _ _ hn9;rw[hn9]at hq;have h92:gn.es=n9.es:=congrArg Nd.es h91.1;rw[h92]at hq;have h93:=h91.2;(try simp only[Option.isSome_some]at hq);grind)
  refine aU2 ?_
  refine o_p (QF (cs:=[_,_,_,_]) rfl rfl ZP Xh rfl) rfl (aU3 ?_)
  exact Qk (rs:=[.cell 2 37,.tmp 3]) rfl (.cell rfl XR aPk rfl (.tmp rfl (.nil))) (λw' h'=>⟨((none,0),[]),by rw[hR];rfl,by rw[hR];rfl,(Xe 27 69 h'.nil).ent aEt⟩)
 obtain⟨⟨n9,e9⟩,hrd⟩:∃q,rdN s 8 (ub1 s 7)=some q:=Option.isSome_iff_exists.1 (by have hq:=h20;grind)
 obtain⟨hpl9,hgl9⟩:=hgn.1 _ _ hrd
 have he9:=(QeN om hrd).2.2.1
 have hee:e9=s.length:=by have hq:=h20;grind
 subst hee
 have hes9:gn.es=n9.es:=congrArg Nd.es hpl9
 have hR:=QtC h16 hs4 h3 h4 h5 h6 hrd (by rw[<-hes9];have hq:=h20;grind)
 refine aU5 ?_
 refine Qh (show _=Value.slice (some ⟨g9,0,none⟩) 1 nc from rfl) (aU ?_)
 refine o_p (Qa rfl rfl rfl Qw 0 rfl om rfl) rfl (Qh (show _=Value.pointer (some ⟨g9,0,none⟩)from rfl) (aU8 ?_))
 exact Qk (rs:=[.cell 2 37,.tmp 3]) rfl (.cell rfl XR aPk rfl (.tmp rfl (.nil))) (λw' h'=>⟨((some ⟨g9,0,none⟩,nc),[gn]),by rw[hR];rfl,by rw[hR];show[gn.pl]=_;rw[hpl9],(HS.nodes_of1 (HS.own_shut (n:=1) (cap:=nc) (sz:=3) (h'.ent (Bs:=[.blk g9 69 (nc*3) (LNd.vals gn),.ents 27 gn.ea gn.ec gn.es,.kids gn.ca gn.cc gn.cs]) aEt) rfl hna1 hna2)).ent aEt⟩)
instance:TFn Tryz.prog 98:=⟨by kernel_rfl⟩
instance:TFn Tryz.prog 70:=⟨by kernel_rfl⟩
theorem c31(w:World)(s:List UInt8)(hsl:s.length<=1000000):CE 31 #[.string (bs s)] w [] (λg:(Option Addr×Nat)×List LNd=>.tuple #[.agg #[.int .i64 (Qd s).1.co,.int .i64 (Qd s).1.mo,.int .i64 (Qd s).1.rm,.slice g.1.1 g.2.length g.1.2],.int .i64 (Qd s).2]) (λg=>pln g.2=(Qd s).1.ns) λg=>[.nodes 27 69 g.1.1 g.1.2 g.2]:=by
 have hb4:=Qdb s 4
 have hb5:=Qdb s 5
 have hb6:=Qdb s 6
 have hb7:=Qdb s 7
 refine eN1 Tryz.func31 Tryz.ntmps31 ?_
 refine aU2 ?_
 refine oAl (λb1 _=>?_) Xh
 refine aU4 ?_
 refine o_p (QF (cs:=[_,_,_,_]) rfl rfl ZP Xh rfl) rfl (oAl (λb2 _=>?_) Xh)
 refine aU6 ?_
 refine o_p (Qp rfl rfl Tryz.underlying9) rfl (aU2 ?_)
 refine sCd rfl (λh3=>?_) λh3=>?_
 ·have hR:Qd s=(noT,10):=Qjx (by have hq:=h3;omega)
  refine aU6 ?_
  exact Qk (rs:=[.cell 2 37,.tmp 3]) rfl (.cell rfl XR aPk rfl (.tmp rfl (.nil))) (λw' h'=>⟨((none,0),[]),by rw[hR];rfl,by rw[hR];rfl,(Xe 27 69 h'.nil).ent aEt⟩)
 have h16:¬s.length<16:=by have hq:=h3;omega
 refine aU5 ?_
 refine o_p (Z3 4 rfl rfl rfl Tryz.underlying9 rfl om) rfl (aU2 ?_)
 refine sCd rfl (λh4=>?_) λh4=>?_
 ·have hR:Qd s=(noT,3):=QnC h16 (by have hq:=h4;intro h9;rw[h9]at hq;simp[ZG]at hq)
  refine aU6 ?_
  exact Qk (rs:=[.cell 2 37,.tmp 3]) rfl (.cell rfl XR aPk rfl (.tmp rfl (.nil))) (λw' h'=>⟨((none,0),[]),by rw[hR];rfl,by rw[hR];rfl,(Xe 27 69 h'.nil).ent aEt⟩)
 have hs4:s.take 4=ZG:=by have hq:=h4;first|exact hq|simpa[ZG]using hq
 refine aU4 ?_
 refine oCq rfl (λw1 h1=>by have h9:=c72 w1 s 4 1 om om om;rw[QdR]at h9;exact h9) (aU ?_)
 refine oCq rfl (λw1 h1=>by have h9:=c72 w1 s 5 1 om om om;rw[QdR]at h9;exact h9) (aU ?_)
 refine oCq rfl (λw1 h1=>by have h9:=c72 w1 s 6 1 om om om;rw[QdR]at h9;exact h9) (o_p (QF (cs:=[_,_,_,_]) rfl rfl ZP Xh rfl) rfl (oAl (λb5 _=>?_) Xh))
 refine aU7 ?_
 refine oCq rfl (λw1 h1=>c96 w1 _) (aU7 ?_)
 refine sCd rfl (λh6=>?_) λh6=>?_
 ·have hR:Qd s=(noT,QJ (at1 s 4)):=Qri h16 hs4 h6
  refine aU7 ?_
  exact Qk (rs:=[.cell 2 37,.tmp 3]) rfl (.cell rfl XR aPk rfl (.tmp rfl (.nil))) (λw' h'=>⟨((none,0),[]),by rw[hR];rfl,by rw[hR];rfl,(Xe 27 69 h'.nil).ent aEt⟩)
 have h3:QJ (at1 s 4)=0:=h6
 obtain⟨j,hj,hj3⟩:=ZD h3
 refine aU8 ?_
 refine oCq rfl (λw1 h1=>c97 w1 _ _) (aU3 ?_)
 refine Qg (L':=[(0,_),(2,_),(3,_),(4,_),(5,_),(7,_)]) aSx (λ_ h=>h) ?_
 refine aU4 ?_
 refine sCd rfl (λh7=>?_) λh7=>?_
 ·have hR:Qd s=(noT,XW (at1 s 5) (at1 s 6)):=Qpx h16 hs4 h3 h7
  refine aU7 ?_
  exact Qk (rs:=[.cell 2 37,.tmp 3]) rfl (.cell rfl XR aPk rfl (.tmp rfl (.nil))) (λw' h'=>⟨((none,0),[]),by rw[hR];rfl,by rw[hR];rfl,(Xe 27 69 h'.nil).ent aEt⟩)
 have h4:XW (at1 s 5) (at1 s 6)=0:=h7
 refine aU8 ?_
 refine sCd rfl (λh8=>?_) λh8=>?_
 ·have hR:Qd s=(noT,8):=Ql4 h16 hs4 h3 h4 (by have hq:=h8;omega)
  refine aU6 ?_
  exact Qk (rs:=[.cell 2 37,.tmp 3]) rfl (.cell rfl XR aPk rfl (.tmp rfl (.nil))) (λw' h'=>⟨((none,0),[]),by rw[hR];rfl,by rw[hR];rfl,(Xe 27 69 h'.nil).ent aEt⟩)
 have h5:at1 s 5<=4:=by have hq:=h8;omega
 refine aU4 ?_
 refine oCq rfl (λw1 h1=>by have h9:=c72 w1 s 7 1 om om om;rw[QdR]at h9;exact h9) (Za ?_)
 refine sCd rfl (λh9=>?_) λh9=>?_
 ·have hR:Qd s=(noT,16):=Qnb h16 hs4 h3 h4 h5 (by have hq:=h9;omega)
  refine aU6 ?_
  exact Qk (rs:=[.cell 2 37,.tmp 3]) rfl (.cell rfl XR aPk rfl (.tmp rfl (.nil))) (λw' h'=>⟨((none,0),[]),by rw[hR];rfl,by rw[hR];rfl,(Xe 27 69 h'.nil).ent aEt⟩)
 have h6:at1 s 7<=at1 s 6:=by have hq:=h9;omega
 refine aU5 ?_
 refine oCh rfl (λw1 h1=>c98 w1 s 8 (ub1 s 7) om hsl (by have:=YG s 7;omega)) (λ⟨gn,gl⟩hgn=>aU4 ?_)
 refine oAl (λb10 _=>?_) Xj
 refine Za ?_
 refine oOr 5 65 70 rfl
  (λhg11 _=>by
   refine aU5 ?_
   refine o_p (Qp rfl rfl Tryz.underlying9) rfl (aU2 ?_)
   exact oJf 5 70)
  (λhg13 _=>by
   refine aU4 ?_
   exact oJt 5 70) ?_
 refine aU ?_
 refine oOr 6 71 77 rfl
  (λhg15 _=>by
   refine aU7 ?_
   refine oCq rfl (λw1 h1=>by have h9:=c70 w1 j gn hj3 (h1.rw_own ev2 aPk rfl) (by have h9:gn.es.length<=ub1 s 7:=hgn.2.1;have:=YG s 7;omega) (λx hx=>by have:=hgn.2.2 x hx;simp only[Yy,decide_eq_true_eq]at this;omega);rw[<-hj]at h9;exact h9) (aU2 ?_)
   exact oJf 6 77)
  (λhg17 _=>by
   refine aU5 ?_
   exact oJt 6 77) ?_
 refine aU ?_
 refine sCd rfl (λh19=>?_) λh19=>?_
 ·have hR:Qd s=(noT,3):=Qln h16 hs4 h3 h4 h5 h6 (λn9 hn9=>by have hq:=h19;have h91:=hgn.1 _ _ hn9;rw[hn9]at hq;have h92:gn.es=n9.es:=congrArg Nd.es h91.1;(try simp only[Option.isSome_some]at hq);have h93:gl=s.length:=h91.2;have h94:ZJ (at1 s 4) gn.es=false:=(by grind);rw[<-h92];cases hb9:Qeb (at1 s 4) gn.es;rfl;have h95:ZJ (at1 s 4) gn.es=true:=QdB (λi hi=>(by have:=QbH.1 hb9 i hi;unfold Qbj at this;rw[Bool.and_eq_true]at this;exact this.1));rw[h94]at h95;cases h95)
  refine aU ?_
  refine Qg (L':=[(2,_),(3,_),(4,_),(5,_),(9,_)]) aSx (λ_ h=>h) ?_
  refine aU5 ?_
  exact Qk (rs:=[.cell 2 37,.tmp 3]) rfl (.cell rfl XR aPk rfl (.tmp rfl (.nil))) (λw' h'=>⟨((none,0),[]),by rw[hR];rfl,by rw[hR];rfl,(Xe 27 69 h'.nil).ent aEt⟩)
 obtain⟨⟨n9,e9⟩,hrd⟩:∃q,rdN s 8 (ub1 s 7)=some q:=Option.isSome_iff_exists.1 (by have hq:=h19;grind)
 obtain⟨hpl9,hgl9⟩:=hgn.1 _ _ hrd
 have hee:e9=s.length:=by have hq:=h19;grind
 subst hee
 have hes9:gn.es=n9.es:=congrArg Nd.es hpl9
 have hky:ZJ (at1 s 4) gn.es=true:=by have hq:=h19;grind
 have hgl:gn.es.length<=255:=by have h9:gn.es.length<=ub1 s 7:=hgn.2.1;have:=YG s 7;omega
 have hkl9:∀x∈gn.es,x.key.length<=1000000:=(λx hx=>by have:=hgn.2.2 x hx;simp only[Yy,decide_eq_true_eq]at this;omega)
 refine aU3 ?_
 refine Qg (L':=[(2,_),(3,_),(4,_),(5,_),(9,_)]) aSx (λ_ h=>h) ?_
 refine aU4 ?_
 refine Qx (α:=Nat) [3,12,79,80,81,82,83,84,85,86,87,88,89,90,91,92,93,94,95,96,97,98,99,100,101,102,103] (λi=>[(12,.int .i64 (i:Int))]) (λ_=>HS w [] [.blk b10 69 3 [.bool gn.us,.slice gn.ea gn.es.length gn.ec,.slice gn.ca gn.cs.length gn.cc],.ents 27 gn.ea gn.ec gn.es,.kids gn.ca gn.cc gn.cs,.blk b5 37 4 [.int .i64 (at1 s 4),.int .i64 (at1 s 5),.int .i64 (at1 s 6),.slice none 0 0],.blk b2 37 4 [.int .i64 0,.int .i64 0,.int .i64 0,.slice none 0 0],.blk b1 37 4 [.int .i64 0,.int .i64 0,.int .i64 0,.slice none 0 0]]) (λi=>1<=i/\∀i9,0<i9->i9<i->QX (at1 s 4) (nth gn.es (i9-1)).key (nth gn.es i9).key<0) (λi=>gn.es.length+1-i) 1 ⟨Nat.le_refl _,λi h1 h2=>om⟩ aSx (λw h=>h.ent aEt) (λi hii=>?_)
 obtain⟨hi1,hi2⟩:=hii
 refine aU9 ?_
 refine sCd rfl (λh20=>?_) λh20=>?_
 ·have hi:i<gn.es.length:=by omega
  refine Xp (λw9 h=>HS.ents_some (l:=gn.es) om h aPk) λhge=>?_
  obtain⟨ge,hge⟩:=hge
  refine aU4 ?_
  refine Qt [] QC ?_
  refine dFa 0 ?_
  refine dLd 1 [] ?_
  refine dFa 2 ?_
  refine dLd 3 [] ?_
  refine dP 4 ?_
  refine dP 5 ?_
  try refine dWr ?_
  refine dV 6 rfl (Qa rfl rfl rfl QN (i-1) om om hge) (dFa 7 ?_)
  refine dQ 8 [] rfl (Qf rfl rfl Zt (λw9 h=>by have h8:=(h.rw_own (a:=gn.ea) (l:=gn.es) ev2 aPk rfl).rdj (i:=i-1) 0 om rfl;rw[hge]at h8;exact h8)) (dFa 9 ?_)
  refine dLd 10 [] ?_
  refine dP 11 ?_
  refine dV 12 rfl (Qa rfl rfl rfl QN (i) om om hge) (dFa 13 ?_)
  refine dQ 14 [] rfl (Qf rfl rfl Zt (λw9 h=>by have h8:=(h.rw_own (a:=gn.ea) (l:=gn.es) ev2 aPk rfl).rdj (i:=i) 0 hi rfl;rw[hge]at h8;exact h8)) (dQ 15 [] rfl (Qv rfl Qg5 rfl (λw1 h1=>by have h9:=c65 w1 j (nth gn.es (i-1)).key (nth gn.es i).key hj3 (by rw[<-hj];exact QgD hky om) (by rw[<-hj];exact QgD hky hi) (hkl9 _ (QI om)) (hkl9 _ (QI hi));rw[<-hj]at h9;exact h9)) (dP 16 ?_))
  refine dNi ?_
  refine sCd rfl (λh21=>?_) λh21=>?_
  ·have hR:Qd s=(noT,3):=Qln h16 hs4 h3 h4 h5 h6 (λm9 hm9=>by rw[hrd]at hm9;injection hm9 with hm9;injection hm9 with q1 q2;subst q1;rw[<-hes9];refine QmG hi (i:=i) ?_;unfold Qbj;have hq:=h21;rw[Bool.and_eq_false_iff];exact .inr (decide_eq_false om))
   refine aU6 ?_
   exact Qk (rs:=[.cell 2 37,.tmp 3]) rfl (.cell rfl XR aPk rfl (.tmp rfl (.nil))) (λw' h'=>⟨((none,0),[]),by rw[hR];rfl,by rw[hR];rfl,(Xe 27 69 h'.nil).ent aEt⟩)
  have hlt:QX (at1 s 4) (nth gn.es (i-1)).key (nth gn.es i).key<0:=by have hq:=h21;omega
  refine aT5 ?_
  refine aU2 ?_
  exact sBk (i+1) om ⟨om,λi9 h91 h92=>(Nat.lt_or_ge i9 i).elim (hi2 i9 h91) (λh=>by obtain rfl:i9=i:=om;exact hlt)⟩
 have hA:Qeb (at1 s 4) gn.es=true:=QbH.2 (λi9 h9=>by unfold Qbj;rw[QgD hky h9,Bool.true_and];exact decide_eq_true (Nat.eq_zero_or_pos i9 |>.imp id (λhp=>hi2 i9 hp om)))
 have hR:=QtC h16 hs4 h3 h4 h5 h6 hrd (by rw[<-hes9];exact hA)
 refine Qn rfl ?_
 refine aU3 ?_
 refine o_h (Qe (cs:=[_,_,_]) rfl rfl Qw Xj rfl rfl rfl) rfl (λb22 _=>aU9 ?_)
 exact Qk (rs:=[.cell 2 37,.tmp 3]) rfl (.cell rfl XR aPk rfl (.tmp rfl (.nil))) (λw' h'=>⟨((some ⟨b22,0,none⟩,1),[gn]),by rw[hR];rfl,by rw[hR];show[gn.pl]=_;rw[hpl9],(HS.nodes_of1 (HS.own_shut (n:=1) (cap:=1) (sz:=3) (h'.ent (Bs:=[.blk b22 69 (1*3) (LNd.vals gn),.ents 27 gn.ea gn.ec gn.es,.kids gn.ca gn.cc gn.cs]) aEt) rfl (by decide) (by decide))).ent aEt⟩)
end Go.Proofs
namespace Gx
namespace Ev
open Go Go.RowKit
section
variable{P:Program}{o:Oper}{L':Qq}{w0:World}{n:Nat}{As:List HA}
theorem h_make2{t e sz by' k n:Nat}{x y:Operand}{z:List Value}(ho:o.op=.makeSlice t x y)(hx:Gx.ev L' x=some (.int .i64 (k:Int)))(hy:Gx.ev L' y=some (.int .i64 (n:Int)))(ht:tsl P t=some (e,sz,by'))(hz:X9 P e=some z)(hlen:n*by'<=281474976710656)(hn:n<=16777216)(hkn:k<=n) :
  OpH P o L' (HS w0 [] As) (λb:Nat=>.slice (some ⟨b,0,none⟩) k n) (λ_=>True) (λb=>HS w0 [] (.blk b e (n*sz) (YE z (n*sz))::As)):=by
 intro ρ w hρ hw;obtain⟨hu,inf,h1,h2,h3⟩:=XS ht;have hsz:∀w,(Go.sizeOf e).run P w=.ok sz w:=λw=>by simp[Go.sizeOf,typeInfo,h1,h2]
 have hti:(typeInfo e).run P w=.ok inf w:=by simp[typeInfo,h1]
 obtain⟨zv,hz',hzr⟩:∃zv:Value,zv.cells.toList=z/\∀w,(zeroValue e).run P w=.ok zv w:=by
  unfold X9 at hz;rw[h1]at hz;simp only[Option.bind_some]at hz;cases hzz:inf.zero with
  | none=>rw[hzz]at hz;cases hz
  | some v=>rw[hzz]at hz;simp only[Option.map_some,Option.some.injEq]at hz;exact⟨v,hz,λw=>by simp[zeroValue,typeInfo,h1,hzz]⟩
 have hwr:IntKind.i64.wrap (n:Int)=n:=IntWalk.i64_in _ ⟨om,om⟩;have hwk:IntKind.i64.wrap (k:Int)=k:=IntWalk.i64_in _ ⟨om,om⟩;have hz'':zv.cells=z.toArray:=by rw[<-hz']
 have hpr:((inf.bytes:Nat):Int)*(n:Int)<=281474976710656:=by grind
 have e2:(2:Int)^48=281474976710656:=by decide
 have d1:¬((inf.bytes:Nat):Int)*(n:Int)>2^48:=by rw[e2];omega
 have d1k:¬((inf.bytes:Nat):Int)*(k:Int)>2^48:=by
  have h8:((inf.bytes:Nat):Int)*(k:Int)<=((inf.bytes:Nat):Int)*(n:Int):=Int.mul_le_mul_of_nonneg_left om om;rw[e2];omega
 have d2:¬(n:Int)<0:=om
 have d2k:¬(k:Int)<0:=om
 have d3:¬(k:Int)>n:=om
 have hai:∀(q:Nat)w,(asInt (.int .i64 (q:Int))).run P w=.ok (q:Int) w:=λq w=>by simp[asInt,asIntOf]
 have hb:(Instr.makeSlice t (.int .i64 k) (.int .i64 n)).run P w=.ok (.slice (some ⟨w.heap.size,0,none⟩) k n) (w.alloc (.cells (YE z (n*sz)).toArray e)):=by
  unfold Instr.makeSlice;simp only[Sem.run_bind,run_underlying hu,Result.andThen_ok,hsz,hai,Sem.run_pure,hti,hwr,hwk,d1,d1k,d2,d2k,d3,decide_false,Bool.or_false,Bool.false_eq_true,if_false,run_askRoom,Int.toNat_natCast]
  by_cases h0:n*sz=0
  ·have e1:∀q:Array Value,(Array.map (λx=>q[x%q.size]!) (Array.range 0))= #[]:=λq=>Array.eq_empty_of_size_eq_zero (by simp);have e3:(YE z (n*sz)).toArray= #[]:=by rw[h0];rfl
   simp only[h0,if_true,Sem.run_bind,Sem.run_pure,Result.andThen_ok,newRow,run_newObj,World.alloc_eq,e1,e3];simp only[h0]at e3;rw[e3]
  ·simp only[if_neg h0,Sem.run_bind,hzr,Sem.run_pure,Result.andThen_ok,newRow,run_newObj,World.alloc_eq,hz''];congr 2;simp[YE,<-List.toArray_range]
 simp only[execOp,ho,Sem.run_bind,hρ _ _ hx,hρ _ _ hy,hb,Result.andThen_ok,Sem.run_pure];have h4:=hw.blk_new e (YE z (n*sz)).toArray;refine⟨w.heap.size,rfl,trivial,?_⟩
 simpa[Q6]using h4
end
end Ev
namespace Ev
open Go Go.RowKit
section
variable{ops:List Oper}
theorem b3{a b c:Bool}(h:(Bool.rec (Bool.rec false c b) false a:Bool)=true):a=false/\b=true/\c=true:=by
 cases a<;>cases b<;>cases c<;>first|exact⟨rfl,rfl,rfl⟩|cases h
end
end Ev
end Gx
namespace Go.Proofs
open Go Go.RowKit Gx
attribute [local irreducible] Go.Calls Gx.S Gx.O Gx.D Gx.OpP Gx.OpQ Gx.OpH
set_option maxRecDepth 20000
instance:TFn Tryz.prog 11:=⟨by kernel_rfl⟩
instance:TFn Tryz.prog 26:=⟨by kernel_rfl⟩
theorem Qja:QY Tryz.prog 21=true:=by kernel_rfl
instance:TFn Tryz.prog 21:=⟨Qja⟩
instance:TFn Tryz.prog 28:=⟨by kernel_rfl⟩
instance:TFn Tryz.prog 31:=⟨by kernel_rfl⟩
theorem Qwf:QY Tryz.prog 32=true:=by kernel_rfl
end Go.Proofs
namespace Gx
open Go Go.RowKit
section
variable{P:Program}{o:Oper}{L:Qq}{w0:World}{M:List Nat}{As As':List HA}
theorem QgG{dt st by' m cd b tot i:Nat}{d s:Operand}{ad:Option Addr}{bt:TypeId}{x l:List UInt8}{e:TypeId}(ho:o.op=.call {callee:=.builtin .copy,args:=#[d,s],argTypes:=#[dt,st]})(hd:Gx.ev L d=some (.slice ad m cd))(ha:0<m->ad=some ⟨b,i,none⟩)(hx:Gx.ev L s=some (.string (bs l)))(ht:tsl P dt=some (e,1,by'))
  (hp:Put As (.blk b bt tot (x.map bv)) (.blk b bt tot ((Xd x i l).map bv)) As')(hm0:0<m)(hk:l.length<=m)(hr:i+l.length<=x.length) :
  OpH P o L (HS w0 M As) (λ_:Unit=>.int .i64 (l.length:Int)) (λ_=>True) (λ_=>HS w0 M As'):=by
 rw[ha hm0]at hd;intro ρ w hρ hw;obtain⟨hu,inf,hi,hs1,hs2⟩:=XS ht;have hsz:(Go.sizeOf e).run P w=.ok 1 w:=by simp[Go.sizeOf,typeInfo,hi,hs1]
 have hfc:(Builtin.firstCells 1 l.length (.string (bs l))).run P w=.ok (l.map bv).toArray w:=by
  have hx:(bs l).extract 0 l.length=bs l:=(QmD _).trans (congrArg bs (by rw[Lib.extract_data];simp));simp only[Builtin.firstCells,hx,Sem.run_pure];congr 1;simp[bs,bv]
 have hbl:(bs l).size=l.length:=rfl;have hk':Nat.min l.length m=l.length:=Nat.min_eq_left hk;obtain⟨Rs,h3,h4⟩:=hp.ex;have hpk:=hw.pick h3;obtain⟨w',hst,hb,r1,r2,r3,r4,r5⟩:=Yn (P:=P) (l.map bv) 0 (x.map bv) w hpk.head (by simpa using hr) (QmC l) (i:=i)
 have he:(Builtin.copy_ #[dt,st] o.type #[.slice (some ⟨b,i,none⟩) m cd,.string (bs l)]).run P w=.ok (.int .i64 (l.length:Int)) w':=by
  unfold Builtin.copy_;simp[run_underlying hu,Builtin.lenOf,hbl,hk',hsz,hfc,goInt,hst]
 have hcs:Qu (x.map bv) i (l.map bv)=(Xd x i l).map bv:=by
  rw[Qd0 _ _ _ (by simpa using hr),Xd];simp only[List.map_append,List.map_take,List.map_drop,List.length_map]
 simp only[execOp,ho,resolve,Sem.run_bind,Sem.run_pure,Result.andThen_ok,invoke,builtin,List.map_toArray,List.map_cons,List.map_nil,hρ _ _ hd,hρ _ _ hx,he];exact⟨(),rfl,trivial,(HS.swap hpk (B:=.blk b bt tot ((Xd x i l).map bv)) (λ_ h=>h) r1 r2 r3 r4 (λk hk=>r5 k (by simpa[HA.fp_blk]using hk)) (show Xt b bt tot ((Xd x i l).map bv) w' by rw[<-hcs];simpa using hb)).perm h4⟩
end
theorem Qr2(s:List UInt8):Value.int .i64 (bits .or .i64 (IntKind.i64.wrap ((s.getD 0 0).toNat:Int)) (IntKind.i64.wrap (IntKind.i64.wrap ((s.getD 1 0).toNat:Int)*2^8)))=.int .i64 ((ub2 s 0:Nat):Int):=by
 have ha:=(s.getD 0 0).toNat_lt;have hb:=(s.getD 1 0).toNat_lt;have e2:IntKind.i64.wrap ((s.getD 1 0).toNat:Int)=(((s.getD 1 0).toNat:Nat):Int):=IntWalk.i64_in _ ⟨om,om⟩;have e1:IntKind.i64.wrap ((s.getD 0 0).toNat:Int)=(((s.getD 0 0).toNat:Nat):Int):=IntWalk.i64_in _ ⟨om,om⟩;have e3:(((s.getD 1 0).toNat:Nat):Int)*2^8=((256*(s.getD 1 0).toNat:Nat):Int):=om
 have e4:IntKind.i64.wrap ((256*(s.getD 1 0).toNat:Nat):Int)=((256*(s.getD 1 0).toNat:Nat):Int):=IntWalk.i64_in _ ⟨om,om⟩;rw[e2,e1,e3,e4,Qor _ _ om om,Qss _ _ om]
 grind[ub2,ub1]
def trL:List UInt8->List UInt8
 | []=>[]
 | b::l=>if b=0 then trL l else b::l
def trR(s:List UInt8):List UInt8:=(trL s.reverse).reverse
theorem Qpn:∀s:List UInt8,(trL s).length<=s.length
 | []=>Nat.le_refl _
 | b::l=>by
  unfold trL;split
  ·exact Nat.le_succ_of_le (Qpn l)
  grind
theorem Qt2(s:List UInt8):(trR s).length<=s.length:=by grind[Qpn,trR]
theorem QmN:∀s:List UInt8,trL s=[] ↔ zer s=true
 | []=>⟨λ_=>rfl,λ_=>rfl⟩
 | b::l=>by
  unfold trL zer;rw[List.all_cons];split
  ·simp_all[QmN,zer]
  grind
theorem Qm0(s:List UInt8):zer s.reverse=zer s:=by unfold zer;rw[List.all_reverse]
theorem QjC:∀s:List UInt8,zer (trL s)=zer s
 | []=>rfl
 | b::l=>by
  unfold trL;split
  ·rename_i h;rw[QjC l];simp[zer,h]
  ·rfl
theorem QoX(s:List UInt8):trL (trR s)=[] ↔ zer s=true:=by
 unfold trR;rw[QmN,Qm0,QjC,Qm0]
theorem QkU{s:List UInt8}(h0:0<s.length)(h:s.getD 0 0=0):trL (s.drop 1)=trL s:=by
 match s,h0,h with
 | b::l,_,h=>grind[trL]
theorem QkG{s:List UInt8}(h:¬(0<s.length/\s.getD 0 0=0)):trL s=s:=by
 match s,h with
 | [],_=>rfl
 | b::l,h=>grind[trL]
theorem Qkx(s:List UInt8)(h0:0<s.length):s.reverse.getD 0 0=s.getD (s.length-1) 0:=by grind
theorem QrU{s:List UInt8}(h0:0<s.length)(h:s.getD (s.length-1) 0=0):trR (s.take (s.length-1))=trR s:=by
 unfold trR;rw[List.reverse_take,show s.length-(s.length-1)=1 by omega,QkU (by simpa using h0) (by rw[Qkx s h0];exact h)]
theorem QpI{s:List UInt8}(h:¬(0<s.length/\s.getD (s.length-1) 0=0)):trR s=s:=by grind[trR,QkG,Qkx]
def Y8(s:List UInt8)(k:Nat):List Int:=((List.range k).filter (QbE s)).map λi=>((i:Nat):Int)
theorem QlK{s:List UInt8}{k:Nat}(h:QbE s k=true):Y8 s (k+1)=Y8 s k++[(k:Int)]:=by
 unfold Y8;rw[List.range_succ,List.filter_append,List.map_append];simp[h]
theorem Qot{s:List UInt8}{k:Nat}(h:QbE s k=false):Y8 s (k+1)=Y8 s k:=by
 unfold Y8;rw[List.range_succ,List.filter_append,List.map_append];simp[h]
theorem Qlp(s:List UInt8)(k:Nat):(Y8 s k).length<=k:=by grind[Y8]
theorem Qhs{s:List UInt8}:0<(Y8 s 8).length ↔ X2 s=true:=by simp_all[Y8,X2,QbE]
theorem QiJ{s:List UInt8}{p:Nat}(h:p+2<=s.length):ub2 (Qz s p 2) 0=ub2 s p:=Qgy (s:=s) (p:=p) (n:=2) (j:=0) om
theorem QsY{s:List UInt8}{p q:Nat}(hp:p+2<=s.length)(hq:q+2<=s.length):Qz s p 2=Qz s q 2 ↔ ub2 s p=ub2 s q:=by
 constructor
 ·grind[QiJ]
 ·intro h;obtain⟨h1,h2⟩:=Qkr h;apply List.ext_getElem?;intro j;rcases Nat.lt_or_ge j 2 with hj|hj
  ·grind[Qac,Qlu]
  grind[Qz]
theorem Qht{s:List UInt8}{i:Nat}(hs:s.length=512)(hi:i<8):QbE s i=true ↔ (ub2 s 40=0\/Qz s (tlA i) 2≠Qz s 40 2):=by grind[QbE,QsY,tlA]
theorem Qjm(c:Nat):YE [.int .u8 0] (c*1)=(List.replicate c (0:UInt8)).map bv:=by
 rw[Nat.mul_one,List.map_replicate];exact QcO _ _
theorem Qnm{x l:List UInt8}{i:Nat}(h:i+l.length<=x.length):Qu (x.map bv) i (l.map bv)=(Xd x i l).map bv:=by simp_all[Qd0,Xd]
theorem Qbk{s:List UInt8}{p q n:Nat}(h:q=p+n):(s.take q).drop p=Qz s p n:=by
 subst h;rw[List.drop_take,Nat.add_sub_cancel_left,Qz]
theorem Xn{s:List UInt8}{p n:Nat}(h:p+n<=s.length):(Qz s p n).length=n:=by grind[Qz]
theorem Qsv(i:Nat)(h:i<=1000):((i:Int)+1)*64-2=((tlA i:Nat):Int):=by unfold tlA;omega
end Gx
namespace Go.Proofs
open Go Go.RowKit Gx
attribute [local irreducible] Go.Calls Gx.S Gx.O Gx.D Gx.OpP Gx.OpQ Gx.OpH
set_option maxRecDepth 20000
theorem Qgc:tsl Tryz.prog 236=some (5,1,1):=by kernel_rfl
theorem Qto(w:World)(i:Nat)(hi:i<=1000):CR 197 #[.int .i64 (i:Int)] w (.int .i64 ((tlA i:Nat):Int)):=by
 refine eN1 Tryz.func197 Tryz.ntmps197 ?_
 refine aT8 ?_
 refine aT ?_
 refine aT ?_
 refine aU2 ?_
 exact rV (h:=by rw[<-Qsv i hi];rfl)
theorem c194(w:World)(s:List UInt8)(hl:2<=s.length):CR 194 #[.string (bs s)] w (.int .i64 ((ub2 s 0:Nat):Int)):=by
 refine eN1 Tryz.func194 Tryz.ntmps194 ?_
 refine aU5 ?_
 refine Qt [] QC ?_
 refine dP 0 ?_
 refine dV 1 rfl (XO rfl rfl rfl Tryz.underlying9 0 rfl om) ?_
 refine dV 2 rfl (Qy rfl rfl ZU Y1) ?_
 try refine dWr ?_
 refine dP 3 ?_
 refine dV 4 rfl (XO rfl rfl rfl Tryz.underlying9 1 rfl om) ?_
 refine dV 5 rfl (Qy rfl rfl ZU Y1) ?_
 try refine dWr ?_
 refine dV 6 rfl (QgK rfl rfl rfl (by decide) 8 rfl) (dP 7 ?_)
 refine dP 8 ?_
 refine dNi ?_
 exact rV (h:=by rw[<-Qr2];rfl)
theorem c206(w:World)(u:Int)(hu:0<=u/\u<65536):CR 206 #[.int .i64 u] w (.string (bs (le2 u))):=by
 refine eN1 Tryz.func206 Tryz.ntmps206 ?_
 refine aU7 ?_
 refine o_p (Qy rfl rfl Y1 ZU) rfl (Qh (show _=bv (by8 u)from YQ _) (aU ?_))
 refine o_p (Qed rfl rfl rfl (by decide) 8 rfl) rfl (o_p (Qy rfl rfl Y1 ZU) rfl (Qh (show _=bv (by8 (u/256))from YQ _) (o_h (Qe (cs:=[_,_]) rfl rfl Q0 Qap rfl rfl rfl) rfl (λb1 _=>o_q (YC rfl rfl Tryz.underlying139 Tryz.underlying9 Tryz.underlying5 aPk (by simp[le2]) (Zy (le2 u))) rfl (aU2 ?_)))))
 exact rV (h:=by exact congrArg (λz=>Ending.returned (Value.string (bs z))) (Y4 (le2 u)))
theorem Qoj(w:World)(a:Option Addr)(cap m i:Nat)(l:List UInt8)(hs:Vl w a (l.map bv))(hm:l.length=m)(hi:i+2<=m)(hc:m<=cap)(hc9:cap<=9223372036854775807):CR 195 #[.slice a m cap,.int .i64 (i:Int)] w (.string (bs (Qz l i 2))):=by
 refine eN2 Tryz.func195 Tryz.ntmps195 ?_
 refine Qhi ?_
 refine o_p (QG _ _ i (i+2) rfl rfl Qgc ⟨_,_,rfl,rfl⟩ ⟨_,_,rfl,om⟩ om om) rfl (o_q (Qai (Qz l i 2) rfl rfl Tryz.underlying236 Tryz.underlying9 Tryz.underlying5 (by rw[Xn om];omega) (hs.sub om om)) rfl (aU2 ?_))
 exact rV
theorem Qs2(w:World)(g cap m tot p:Nat)(l x:List UInt8)(hw:HS w (fps [.blk g u8T tot ((l).map bv)]) [.blk g u8T tot ((l).map bv)] w)(hm:l.length=m)(hp:p+x.length<=m)(hpm:p<m)(hc:m<=cap)(hc9:cap<=9223372036854775807):Calls Tryz.prog 196 #[.slice (some ⟨g,0,none⟩) m cap,.int .i64 (p:Int),.string (bs x)] w λen w'=>∃_:Unit,en=.returned (.tuple #[])/\True/\HS w (fps [.blk g u8T tot ((l).map bv)]) [.blk g u8T tot ((Xd l p x).map bv)] w':=by
 refine eW3 Tryz.func196 Tryz.ntmps196 hw ?_
 refine aU3 ?_
 refine o_p (QG _ _ p m rfl rfl Qgc ⟨_,_,rfl,rfl⟩ rfl om om) rfl (aU ?_)
 refine o_h (QgG (b:=g) (i:=p) rfl rfl (λ_=>by rw[X0 om]<;>(congr 2<;>omega)) rfl Qgc aPt om om om) rfl (λ_ _=>aU ?_)
 exact Zs rfl (λw' h'=>⟨(),rfl,trivial,h'.ent aEt⟩)
theorem c238(w:World)(s:List UInt8)(hl:s.length<=1000000):CR 238 #[.string (bs s),.int .u8 0] w (.string (bs (trL s))):=by
 refine eN2 Tryz.func238 Tryz.ntmps238 ?_
 refine aU6 ?_
 refine Qx (α:=List UInt8) [0,5,6,7,8,9,10,11,12,13,14,15] (λl=>[(0,.string (bs l))]) (λ_=>_) (λl=>l.length<=s.length/\trL l=trL s) (λl=>l.length) s ⟨Nat.le_refl _,rfl⟩ aSx (λw h=>h) (λl hl9=>?_)
 obtain⟨hl1,hl2⟩:=hl9
 refine aU4 ?_
 refine o_p (Qp rfl rfl Tryz.underlying9) rfl (aU2 ?_)
 refine XF 5 8 13 rfl
  (λhg1 _=>by
   refine aU3 ?_
   refine o_p (XO rfl rfl rfl Tryz.underlying9 0 rfl om) rfl ?_
   refine aU4 ?_
   exact oJt 5 13)
  (λhg3 _=>by
   refine aU4 ?_
   exact oJf 5 13) ?_
 refine aU ?_
 refine sCd rfl (λh5=>?_) λh5=>?_
 ·have hk:0<l.length/\l.getD 0 0=0:=by have hq:=h5;first|(exact⟨om,QkC.1 hq.2⟩)|(simp[QkC]at hq;exact⟨om,hq.2⟩)
  refine aU4 ?_
  refine o_p (Zj 1 rfl rfl rfl Tryz.underlying9 rfl om) rfl (aU3 ?_)
  exact Q1 (l.drop 1) (by rw[List.length_drop];omega) ⟨by rw[List.length_drop];omega,(QkU hk.1 hk.2).trans hl2⟩ aSx (λw h=>h)
 have hk:¬(0<l.length/\l.getD 0 0=0):=λh9=>by have hq:=h5;have h8:=QkC.2 h9.2;simp[h8]at hq;omega
 refine Qn rfl ?_
 refine aU5 ?_
 exact rV (h:=by rw[<-hl2,QkG hk];rfl)
theorem c239(w:World)(s:List UInt8)(hl:s.length<=1000000):CR 239 #[.string (bs s),.int .u8 0] w (.string (bs (trR s))):=by
 refine eN2 Tryz.func239 Tryz.ntmps239 ?_
 refine aU6 ?_
 refine Qx (α:=List UInt8) [0,5,6,7,8,9,10,11,12,13,14,15,16,17,18,19,20,21] (λl=>[(0,.string (bs l))]) (λ_=>_) (λl=>l.length<=s.length/\trR l=trR s) (λl=>l.length) s ⟨Nat.le_refl _,rfl⟩ aSx (λw h=>h) (λl hl9=>?_)
 obtain⟨hl1,hl2⟩:=hl9
 refine aU4 ?_
 refine o_p (Qp rfl rfl Tryz.underlying9) rfl (aU2 ?_)
 refine XF 8 8 16 rfl
  (λhg1 _=>by
   refine aU5 ?_
   refine o_p (Qp rfl rfl Tryz.underlying9) rfl (aT2 ?_)
   refine aU ?_
   refine o_p (XO rfl rfl rfl Tryz.underlying9 (l.length-1) om om) rfl ?_
   refine aU4 ?_
   exact oJt 8 16)
  (λhg3 _=>by
   refine aU7 ?_
   exact oJf 8 16) ?_
 refine aU ?_
 refine sCd rfl (λh5=>?_) λh5=>?_
 ·have hk:0<l.length/\l.getD (l.length-1) 0=0:=by have hq:=h5;first|(exact⟨om,QkC.1 hq.2⟩)|(simp[QkC]at hq;exact⟨om,hq.2⟩)
  refine aU5 ?_
  refine o_p (Qp rfl rfl Tryz.underlying9) rfl (aT ?_)
  refine o_p (Z3 (l.length-1) rfl rfl rfl Tryz.underlying9 om om) rfl (aU3 ?_)
  exact Q1 (l.take (l.length-1)) (by rw[List.length_take];omega) ⟨by rw[List.length_take];omega,(QrU hk.1 hk.2).trans hl2⟩ aSx (λw h=>h)
 have hk:¬(0<l.length/\l.getD (l.length-1) 0=0):=λh9=>by have hq:=h5;have h8:=QkC.2 h9.2;simp[h8]at hq;omega
 refine Qn rfl ?_
 refine aU5 ?_
 exact rV (h:=by rw[<-hl2,QpI hk];rfl)
theorem QvF:QY Tryz.prog 239=true:=by kernel_rfl
theorem QtX:QY Tryz.prog 238=true:=by kernel_rfl
instance:TFn Tryz.prog 129:=⟨by kernel_rfl⟩
instance:TFn Tryz.prog 204:=⟨by kernel_rfl⟩
instance:TFn Tryz.prog 205:=⟨by kernel_rfl⟩
instance:TFn Tryz.prog 203:=⟨by kernel_rfl⟩
instance:TFn Tryz.prog 206:=⟨by kernel_rfl⟩
theorem QiM:QY Tryz.prog 196=true:=by kernel_rfl
instance:TFn Tryz.prog 197:=⟨by kernel_rfl⟩
instance:TFn Tryz.prog 195:=⟨by kernel_rfl⟩
instance:TFn Tryz.prog 194:=⟨by kernel_rfl⟩
theorem c204(w:World)(s:List UInt8)(hl:s.length<=1000000):CR 204 #[.string (bs s),.string (bs [0])] w (.string (bs (trL (trR s)))):=by
 have hT:=Qt2 s
 refine eN2 Tryz.func204 Tryz.ntmps204 ?_
 refine Za ?_
 refine oOr 3 9 12 rfl
  (λhg1 _=>by
   refine aU4 ?_
   exact oJf 3 12)
  (λhg3 _=>by
   refine aU2 ?_
   exact oJt 3 12) ?_
 refine aU ?_
 refine sCd rfl (λh5=>?_) λh5=>?_
 ·have h0:s=[]:=by have hq:=h5;simpa using hq
  refine aU5 ?_
  exact rV (h:=by subst h0;rfl)
 refine aU5 ?_
 refine o_p (Qp rfl rfl Tryz.underlying9) rfl (aU2 ?_)
 refine XF 4 17 21 rfl
  (λhg6 _=>by
   refine aU3 ?_
   refine o_p (XO rfl rfl rfl Tryz.underlying9 0 rfl om) rfl ?_
   refine aU2 ?_
   exact oJt 4 21)
  (λhg8 _=>by
   refine aU3 ?_
   exact oJf 4 21) ?_
 refine aU ?_
 refine sCd rfl (λh10=>?_) λh10=>?_
 ·refine aU ?_
  refine Qt [] QC ?_
  refine dP 0 ?_
  refine dP 1 ?_
  refine dV 2 rfl (XO rfl rfl rfl Tryz.underlying9 0 rfl om) ?_
  refine dQ 3 [] rfl (Qv rfl QvF rfl (λw1 h1=>c239 w1 s hl)) (dP 4 ?_)
  refine dV 5 rfl (XO rfl rfl rfl Tryz.underlying9 0 rfl om) ?_
  refine dQ 6 [] rfl (Qv rfl QtX rfl (λw1 h1=>c238 w1 (trR s) om)) (dP 7 ?_)
  refine dNi ?_
  exact rV
 exfalso;simp at h10
theorem c149(w:World)(s:List UInt8)(u:Int)(h5:s.length=512)(hz:zer (Qz s 40 18)=true)(hu:1<=u/\u<=65535):CR 149 #[.string (bs s),.int .i64 u] w (.tuple #[.string (bs (Qcm s u)),.int .i64 0]):=by
 have hsl:Qz s 40 18=(s.drop 40).take 18:=rfl
 have hb:(Qz s 40 18).length=18:=Xn om
 have hzt:=(QoX (Qz s 40 18)).2 hz
 have h0l:s.length=s.length:=rfl
 refine eN2 Tryz.func149 Tryz.ntmps149 ?_
 refine aU9 ?_
 refine oCq rfl (λw1 h1=>Qvh w1 _) (aU7 ?_)
 refine sCd rfl (λh1=>?_) λh1=>?_
 ·exfalso;have hq:=h1;simp[h5]at hq
 refine aU5 ?_
 refine o_p (XP _ _ 40 58 rfl rfl Tryz.underlying9 ⟨_,_,rfl,rfl⟩ ⟨_,_,rfl,rfl⟩ om om) rfl (Qh (show _=Value.string (bs (Qz s 40 18))from by rw[Qbk (n:=18) rfl]) (oCq rfl (λw1 h1=>c204 w1 (Qz s 40 18) om) (aU ?_)))
 refine oCq rfl (λw1 h1=>Qt4 w1 _ _) (aU ?_)
 refine oCq rfl (λw1 h1=>c205 w1 _ _ _) (oCq rfl (λw1 h1=>Qt4 w1 _ _) (o_h (Qe (cs:=[_,_]) rfl rfl Yo ZR rfl rfl rfl) rfl (λb2 _=>oCq rfl (λw1 h1=>f203 h1 aPk (by rfl) (by rfl) (by decide)) (aU7 ?_))))
 refine sCd rfl (λh3=>?_) λh3=>?_
 ·exfalso;have hq:=h3;simp[hzt,hu]at hq;exact hq rfl
 refine aU4 ?_
 refine o_h (Qcc rfl rfl Tryz.underlying9 Tryz.underlying236 Tryz.underlying5 rfl (by simp only[maxLen];omega)) rfl (λ⟨b4,c5⟩⟨h6,k7⟩=>aU6 ?_)
 refine oCq rfl (λw1 h1=>c206 w1 u om) (o_h (QM (Cs:=[.blk b4 u8T c5 ((s).map bv)]) rfl QiM rfl aPs (λw1 h1 hf=>Qs2 w1 b4 c5 s.length c5 40 s (le2 u) hf rfl (by rw[show((le2 u)).length=2 from rfl];first|omega|(unfold tlA;omega)) (by first|omega|(unfold tlA;omega)) om (by simp only[maxLen]at *;omega))) rfl (λ_ _=>aU7 ?_))
 refine Qg (L':=[(1,_),(4,_),(5,_),(8,_),(34,_)]) aSx (λ_ h=>h) ?_
 refine Qx (α:=Nat) [9,34,35,36,37,38,39,40,41,42,43,44,45,46,47,48,49,50,51,52] (λk=>[(34,.int .i64 (k:Int))]) (λk=>HS w [] [.blk b4 u8T c5 ((prI s u k).map bv)]) (λk=>k<=8) (λk=>8-k) 0 (Nat.zero_le _) aSx (λw h=>h.ent aEt) (λk hk8=>?_)
 refine aU5 ?_
 refine sCd rfl (λh8=>?_) λh8=>?_
 ·have hk:k<8:=by omega
  have hpl:(prI s u k).length=s.length:=by rw[Qej h5 k om,h5]
  have hpl1:(Xd (prI s u k) (42+2*k) (Qz (prI s u k) (tlA k) 2)).length=s.length:=by rw[Yg (by rw[show(Qz (prI s u k) (tlA k) 2).length=2 from Xn (by rw[hpl];unfold tlA;omega),hpl];omega),hpl]
  refine QuP ?_
  refine aT ?_
  refine Qh (show _=Value.int .i64 ((42+2*k:Nat):Int)from by congr 1) (aU2 ?_)
  refine oCq rfl (λw1 h1=>Qto w1 k om) (oCq rfl (λw1 h1=>Qoj w1 (some ⟨b4,0,none⟩) c5 s.length (tlA k) (prI s u k) (h1.vl_blk aPk) hpl (by unfold tlA;omega) om (by simp only[maxLen]at *;omega)) (o_h (QM (Cs:=[.blk b4 u8T c5 (((prI s u k)).map bv)]) rfl QiM rfl aPs (λw1 h1 hf=>Qs2 w1 b4 c5 s.length c5 (42+2*k) (prI s u k) (Qz (prI s u k) (tlA k) 2) hf hpl (by rw[show((Qz (prI s u k) (tlA k) 2)).length=2 from Xn (by rw[hpl];unfold tlA;omega)];first|omega|(unfold tlA;omega)) (by first|omega|(unfold tlA;omega)) om (by simp only[maxLen]at *;omega))) rfl (λ_ _=>aU4 ?_)))
  refine oCq rfl (λw1 h1=>Qto w1 k om) (aU ?_)
  refine oCq rfl (λw1 h1=>c206 w1 u om) (o_h (QM (Cs:=[.blk b4 u8T c5 (((Xd (prI s u k) (42+2*k) (Qz (prI s u k) (tlA k) 2))).map bv)]) rfl QiM rfl aPs (λw1 h1 hf=>Qs2 w1 b4 c5 s.length c5 (tlA k) (Xd (prI s u k) (42+2*k) (Qz (prI s u k) (tlA k) 2)) (le2 u) hf hpl1 (by rw[show((le2 u)).length=2 from rfl];first|omega|(unfold tlA;omega)) (by first|omega|(unfold tlA;omega)) om (by simp only[maxLen]at *;omega))) rfl (λ_ _=>aT4 ?_))
  refine aU2 ?_
  exact sBk (k+1)
 obtain rfl:k=8:=om
 have hpl:(prI s u 8).length=s.length:=by rw[Qej h5 8 om,h5]
 refine Qn rfl ?_
 refine aU3 ?_
 refine o_q (YC rfl rfl Tryz.underlying236 Tryz.underlying9 Tryz.underlying5 aPk (by simp[hpl]) (Zy _)) rfl (aU3 ?_)
 exact Qk (rs:=[.tmp 4,.tmp 5]) rfl (.tmp rfl (.tmp rfl (.nil))) (λw' h'=>⟨by rw[Y4];rfl,h'.below⟩)
theorem c193(w:World)(s:List UInt8)(hs5:s.length=512):CE 193 #[.string (bs s)] w [] (λg:Option Addr×Nat=>.slice g.1 (Y8 s 8).length g.2) (λg=>True) λg=>[.own (.slice g.1 (Y8 s 8).length g.2) 3 1 (Y8 s 8).length ((Y8 s 8).flatMap inV)]:=by
 refine eN1 Tryz.func193 Tryz.ntmps193 ?_
 refine aU7 ?_
 refine o_h (Qcc rfl rfl Tryz.underlying9 Tryz.underlying236 Tryz.underlying5 rfl (by simp only[maxLen];omega)) rfl (λ⟨b1,c2⟩⟨h3,k4⟩=>Zx ?_)
 refine Qx (α:=Nat×Option Addr×Nat) [4,5,8,9,10,11,12,13,14,15,16,17,18,19,20,21,22,23,24,25,26,27,28] (λx=>[(8,.int .i64 (x.1:Int)),(4,.slice x.2.1 (Y8 s x.1).length x.2.2)]) (λx=>HS w [] [.blk b1 5 c2 (s.map bv),.own (.slice x.2.1 (Y8 s x.1).length x.2.2) 3 1 (Y8 s x.1).length ((Y8 s x.1).flatMap inV)]) (λx=>x.1<=8) (λx=>8-x.1) (0,none,0) (Nat.zero_le _) aSx (λw h=>((h.own_nil 3 1).ent aEt)) (λ⟨k,ga,gc⟩hk8=>?_)
 dsimp only
 simp only[]at hk8
 have htl:=Qlp s k
 refine aU5 ?_
 refine sCd rfl (λh5=>?_) λh5=>?_
 ·have hk:k<8:=by omega
  have h40:=QiJ (s:=s) (p:=40) om
  refine Zl ?_
  refine oCq rfl (λw1 h1=>Qoj w1 (some ⟨b1,0,none⟩) c2 s.length 40 s (h1.vl_blk aPk) rfl (by first|omega|(unfold tlA;omega)) om (by simp only[maxLen]at *;omega)) (oCq rfl (λw1 h1=>c194 w1 (Qz s 40 2) (by rw[Xn om];exact Nat.le_refl _)) (aU2 ?_))
  refine oOr 8 15 23 rfl
   (λhg6 _=>by
    refine aU5 ?_
    refine oCq rfl (λw1 h1=>Qto w1 k om) (aU ?_)
    refine oCq rfl (λw1 h1=>Qoj w1 (some ⟨b1,0,none⟩) c2 s.length (tlA k) s (h1.vl_blk aPk) rfl (by first|omega|(unfold tlA;omega)) om (by simp only[maxLen]at *;omega)) (aU3 ?_)
    refine oCq rfl (λw1 h1=>Qoj w1 (some ⟨b1,0,none⟩) c2 s.length 40 s (h1.vl_blk aPk) rfl (by first|omega|(unfold tlA;omega)) om (by simp only[maxLen]at *;omega)) (aU2 ?_)
    exact oJf 8 23)
   (λhg8 _=>by
    refine aU7 ?_
    exact oJt 8 23) ?_
  refine aU ?_
  refine sCd rfl (λh10=>?_) λh10=>?_
  ·have hnx:=QlK (s:=s) (k:=k) ((Qht hs5 hk).2 (by have hq:=h10;rw[h40]at hq;simpa using hq))
   refine aU3 ?_
   refine o_h (Qe (cs:=[_]) rfl rfl QA Yp rfl rfl rfl) rfl (λb11 _=>o_h (QL _ rfl rfl rfl QA Tryz.underlying28 Yp rfl aPk (Xb aPk) rfl (by intro u hu;simp only[List.mem_cons,List.mem_nil_iff,or_false]at hu;subst hu;rfl) om (by simp only[maxLen];omega)) rfl (λb12 _=>aT5 ?_))
   refine aU2 ?_
   exact Q1 (k+1,b12.1,b12.2) (by(try simp only[]);omega) (by simp only[];omega) (by dsimp only;rw[hnx,List.length_append];exact aSx) (λw h=>by dsimp only;rw[hnx,List.length_append,QdQ];exact h.ent aEt)
  have hnx:=Qot (s:=s) (k:=k) (Bool.eq_false_iff.2 λh9=>by have hq:=h10;rw[h40]at hq;have h8:=(Qht hs5 hk).1 h9;simp at hq;rcases h8 with h8|h8;exact hq.1 h8;exact h8 hq.2)
  refine aT4 ?_
  refine aU2 ?_
  exact Q1 (k+1,ga,gc) (by(try simp only[]);omega) (by simp only[];omega) (by dsimp only;rw[hnx];exact aSx) (λw h=>by dsimp only;rw[hnx];exact h.ent aEt)
 obtain rfl:k=8:=om
 refine Qn rfl ?_
 refine aU5 ?_
 exact rT rfl rfl (λw' h'=>⟨(ga,gc),rfl,trivial,h'.ent aEt⟩)
instance:TFn Tryz.prog 193:=⟨by kernel_rfl⟩
def QiW(s:List UInt8):List UInt8×Int×Int:=if s.length=512 then if X2 s then([],0,31)else(Xa s,((ub2 s 40:Nat):Int),0)else([],0,10)
theorem QoF{s:List UInt8}(h:¬s.length=512):QiW s=([],0,10):=by unfold QiW;rw[if_neg h]
theorem Qhu{s:List UInt8}(h:s.length=512)(ht:X2 s=true):QiW s=([],0,31):=by unfold QiW;rw[if_pos h,if_pos ht]
theorem QfO{s:List UInt8}(h:s.length=512)(ht:X2 s=false):QiW s=(Xa s,((ub2 s 40:Nat):Int),0):=by unfold QiW;rw[if_pos h,ht];rfl
theorem c130(w:World)(s:List UInt8)(hsl:s.length<=1000000):CR 130 #[.string (bs s)] w (.tuple #[.string (bs (QiW s).1),.int .i64 (QiW s).2.1,.int .i64 (QiW s).2.2]):=by
 refine eN1 Tryz.func130 Tryz.ntmps130 ?_
 refine Za ?_
 refine oCq rfl (λw1 h1=>Qvh w1 _) (aU7 ?_)
 refine sCd rfl (λh1=>?_) λh1=>?_
 ·have hn5:¬s.length=512:=λh9=>by have hq:=h1;simp[h9]at hq
  have hV:=QoF hn5
  have hd9:decide ((s.length:Int)=512)=false:=decide_eq_false om
  refine aU7 ?_
  exact Qk (rs:=[.tmp 2,.tmp 3,.tmp 4]) rfl (.tmp rfl (.tmp rfl (.tmp rfl (.nil)))) (λw' h'=>⟨by rw[hV,hd9];rfl,h'.below⟩)
 have hs5:s.length=512:=by have hq:=h1;cases hd9:decide ((s.length:Int)=512);rw[hd9]at hq;cases hq;have:=of_decide_eq_true hd9;omega
 refine aU5 ?_
 refine oCh rfl (λw1 h1=>c193 w1 s hs5) (λ⟨ga,gc⟩_=>aU3 ?_)
 refine sCd rfl (λh2=>?_) λh2=>?_
 ·have hV:=Qhu hs5 (Qhs.1 (by have hq:=h2;omega))
  refine aU6 ?_
  exact Qk (rs:=[.tmp 2,.tmp 3,.tmp 4]) rfl (.tmp rfl (.tmp rfl (.tmp rfl (.nil)))) (λw' h'=>⟨by rw[hV];rfl,h'.below⟩)
 have ht:X2 s=false:=Bool.eq_false_iff.2 λh9=>by have hq:=h2;have:=Qhs.2 h9;omega
 have hV:=QfO hs5 ht
 refine aU4 ?_
 refine o_h (Qcc rfl rfl Tryz.underlying9 Tryz.underlying236 Tryz.underlying5 rfl (by simp only[maxLen];omega)) rfl (λ⟨b3,c4⟩⟨h5,k6⟩=>aU5 ?_)
 refine oCq rfl (λw1 h1=>Qoj w1 (some ⟨b3,0,none⟩) c4 s.length 40 s (h1.vl_blk aPk) rfl om om (by simp only[maxLen]at *;omega)) (oCq rfl (λw1 h1=>by have h9:=c194 w1 (Qz s 40 2) (by rw[Xn om];exact Nat.le_refl _);rw[QiJ om]at h9;exact h9) (aU8 ?_))
 refine Qg (L':=[(2,_),(3,_),(4,_),(6,_),(7,_),(23,_)]) aSx (λ_ h=>h) ?_
 refine Qx (α:=Nat) [8,23,24,25,26,27,28,29,30,31,32,33,34,35] (λk=>[(23,.int .i64 (k:Int))]) (λk=>HS w [] [.blk b3 u8T c4 ((opI s k).map bv)]) (λk=>k<=8) (λk=>8-k) 0 (Nat.zero_le _) aSx (λw h=>h.ent aEt) (λk hk8=>?_)
 refine aU5 ?_
 refine sCd rfl (λh7=>?_) λh7=>?_
 ·have hk:k<8:=by omega
  have hpl:(opI s k).length=s.length:=by rw[Qaz hs5 k om,hs5]
  have hxl:(Qz (opI s k) (42+2*k) 2).length=2:=Xn (by rw[hpl];omega)
  have htl:tlA k=64*k+62:=rfl
  refine Zl ?_
  refine oCq rfl (λw1 h1=>Qto w1 k om) (aT3 ?_)
  refine aT ?_
  refine Qh (show _=Value.int .i64 ((42+2*k:Nat):Int)from by congr 1) (oCq rfl (λw1 h1=>Qoj w1 (some ⟨b3,0,none⟩) c4 s.length (42+2*k) (opI s k) (h1.vl_blk aPk) hpl om om (by simp only[maxLen]at *;omega)) (o_h (QM (Cs:=[.blk b3 u8T c4 (((opI s k)).map bv)]) rfl QiM rfl aPs (λw1 h1 hf=>Qs2 w1 b3 c4 s.length c4 (tlA k) (opI s k) (Qz (opI s k) (42+2*k) 2) hf hpl om om om (by simp only[maxLen]at *;omega))) rfl (λ_ _=>aT4 ?_)))
  refine aU2 ?_
  exact sBk (k+1)
 obtain rfl:k=8:=om
 have hpl:(opI s 8).length=s.length:=by rw[Qaz hs5 8 om,hs5]
 have hop:(Xa s).length=s.length:=by rw[Y6 hs5,hs5]
 have hpu:=Qnm (x:=(opI s 8)) (l:=List.replicate 18 (0:UInt8)) (i:=40) (by rw[hpl,List.length_replicate];omega)
 have hcl:Qu ((opI s 8).map bv) 40 (YE [.int .u8 0] (18*1))=(Xa s).map bv:=by rw[Qjm];exact hpu
 refine Qn rfl ?_
 refine aU3 ?_
 refine o_p (QG _ _ 40 58 rfl rfl Qgc ⟨_,_,rfl,rfl⟩ ⟨_,_,rfl,rfl⟩ om om) rfl ?_
 refine ZV (QiQ (b:=b3) (i:=40) rfl rfl Qgc Qap rfl rfl (by simp) aPt (λ_=>by rw[X0 om]<;>(congr 2<;>omega)) (by rw[List.length_map,hpl];omega)) (λ_ _=>aU4 ?_)
 refine QQ (L:=_) (C':=HS w [] [.blk b3 u8T c4 ((Xa s).map bv)]) (λw9 h=>by have h9:HS w [] [.blk b3 u8T c4 (Qu ((opI s 8).map bv) 40 (YE [.int .u8 0] (18*1)))] w9:=h;rwa[hcl]at h9) (o_q (YC rfl rfl Tryz.underlying236 Tryz.underlying9 Tryz.underlying5 aPk (by simp[hop]) (Zy _)) rfl (aU5 ?_))
 exact Qk (rs:=[.tmp 2,.tmp 3,.tmp 4]) rfl (.tmp rfl (.tmp rfl (.tmp rfl (.nil)))) (λw' h'=>⟨by rw[hV,Y4];rfl,h'.below⟩)
theorem Qvm(w:World)(g m cap tot p:Nat)(l:List UInt8)(u:Int)(hw:HS w (fps [.blk g u8T tot ((l).map bv)]) [.blk g u8T tot ((l).map bv)] w)(hp:p+m<=l.length)(hm:2<=m)(hu:0<=u/\u<65536):Calls Tryz.prog 147 #[.slice (some ⟨g,p,none⟩) m cap,.int .u16 u] w λen w'=>∃_:Unit,en=.returned (.tuple #[])/\True/\HS w (fps [.blk g u8T tot ((l).map bv)]) [.blk g u8T tot ((Xd l p (le2 u)).map bv)] w':=by
 refine eW2 Tryz.func147 Tryz.ntmps147 hw ?_
 refine aU4 ?_
 refine o_p (Qy rfl rfl YR ZU) rfl (Qh (show _=bv (by8 u)from YQ _) (aU ?_))
 refine o_p (Qed rfl rfl rfl (by decide) 8 rfl) rfl (o_p (Qy rfl rfl YR ZU) rfl (Qh (show _=bv (by8 (u/256))from YQ _) (o_p (Qa rfl rfl rfl Q0 0 rfl om rfl) rfl (aU ?_))))
 refine o_p (Qa rfl rfl rfl Q0 1 rfl om rfl) rfl (aU2 ?_)
 exact Zs rfl (λw' h'=>⟨(),rfl,trivial,by have h9:=Qnm (x:=l) (l:=le2 u) (i:=p) (by simp only[le2,List.length_cons,List.length_nil];omega);rw[<-h9];exact h'.ent aEt⟩)
end Go.Proofs
namespace Gx
open Go Go.RowKit
section
variable{w0 w:World}{M:List Nat}{As As':List HA}
theorem HS.byz_full{g cap:Nat}{l:List UInt8}(hp:QE As (.byz (some ⟨g,0,none⟩) cap l) As')(h:HS w0 M As w)(h0:0<cap):HS w0 M (.blk g u8T cap ((l++List.replicate (cap-l.length) 0).map bv)::As') w:=by
 obtain⟨g',e,_,_,h1⟩:=HS.blk_byz hp h h0;injection e with e
 injection e with e
 subst e
 rwa[List.map_append,List.map_replicate]
theorem QvX{cap:Nat}{l:List UInt8}(n:Nat)(h:n=cap-l.length):(l++List.replicate n 0).map bv=Qe2 cap l:=by
 subst h;rw[List.map_append,List.map_replicate];rfl
end
theorem QhL{l x y:List UInt8}{p q:Nat}(hq:q=p+x.length)(h:p+x.length+y.length<=l.length):Xd (Xd l p x) q y=Xd l p (x++y):=by
 subst hq;apply List.ext_getElem?
 grind[Zi,Yg]
theorem Que(num lsn:Int)(c:Nat):Xd (Xd (Xd (Xd (List.replicate 512 0) 0 Qen) 8 (le4 lsn)) 12 (le4 num)) 16 (le2 c)=hdB num lsn c++List.replicate 448 0:=by
 have e0:(List.replicate 512 (0:UInt8))=List.replicate 64 0++List.replicate 448 0:=by rw[List.replicate_append_replicate]
 have hp:∀(A B x:List UInt8)(p:Nat),p+x.length<=A.length->Xd (A++B) p x=Xd A p x++B:=λA B x p h=>by
  unfold Xd;rw[List.take_append_of_le_length om,List.drop_append_of_le_length om];simp only[List.append_assoc]
 rw[e0,hp _ _ _ _ (by decide),hp _ _ _ _ (by show 8+4<=64;decide),hp _ _ _ _ (by show 12+4<=64;decide),hp _ _ _ _ (by show 16+2<=64;decide)];rfl
end Gx
namespace Go.Proofs
open Go Go.RowKit Gx
attribute [local irreducible] Go.Calls Gx.S Gx.O Gx.D Gx.OpP Gx.OpQ Gx.OpH
set_option maxRecDepth 20000
theorem QlI:QY Tryz.prog 147=true:=by kernel_rfl
instance:TFd Tryz.prog 118 1 3 3:=⟨by kernel_rfl⟩
theorem Qqk:QY Tryz.prog 146=true:=by kernel_rfl
instance:TFd Tryz.prog 118 0 0 69:=⟨by kernel_rfl⟩
instance:TFd Tryz.prog 118 2 4 3:=⟨by kernel_rfl⟩
theorem QvE:QY Tryz.prog 149=true:=by kernel_rfl
theorem QwL(w:World)(g m cap tot p:Nat)(l:List UInt8)(u:Int)(hw:HS w (fps [.blk g u8T tot ((l).map bv)]) [.blk g u8T tot ((l).map bv)] w)(hp:p+m<=l.length)(hm:2<=m):Calls Tryz.prog 147 #[.slice (some ⟨g,p,none⟩) m cap,.int .u16 (u%65536)] w λen w'=>∃_:Unit,en=.returned (.tuple #[])/\True/\HS w (fps [.blk g u8T tot ((l).map bv)]) [.blk g u8T tot ((Xd l p (le2 u)).map bv)] w':=by
  have h9:=Qvm w g m cap tot p l (u%65536) hw hp hm om;rw[Qqc]at h9;exact h9
theorem c146(w:World)(g m cap tot p:Nat)(l:List UInt8)(u:Int)(hw:HS w (fps [.blk g u8T tot ((l).map bv)]) [.blk g u8T tot ((l).map bv)] w)(hp:p+m<=l.length)(hm:4<=m)(hmc:m<=cap)(hc9:cap<=9223372036854775807)(hu:0<=u/\u<4294967296):Calls Tryz.prog 146 #[.slice (some ⟨g,p,none⟩) m cap,.int .u32 u] w λen w'=>∃_:Unit,en=.returned (.tuple #[])/\True/\HS w (fps [.blk g u8T tot ((l).map bv)]) [.blk g u8T tot ((Xd l p (le4 u)).map bv)] w':=by
 have hl1:(Xd l p (le2 u)).length=l.length:=Yg (by show p+2<=_;omega)
 have he9:Xd (Xd l p (le2 u)) (p+2) (le2 (u/65536))=Xd l p (le4 u):=by rw[QhL (l:=l) (p:=p) (q:=p+2) (x:=le2 u) rfl (by show p+2+2<=_;omega),show le2 (u/65536)=[by8 (u/65536),by8 (u/16777216)]from by unfold le2;rw[show u/65536/256=u/16777216 from om]];rfl
 refine eW2 Tryz.func146 Tryz.ntmps146 hw ?_
 refine aU4 ?_
 refine o_p (Qy rfl rfl ZA YR) rfl (Qh (show _=Value.int .u16 (u%65536)from by rw[Qkv]) (o_h (QM (Cs:=[.blk g u8T tot ((l).map bv)]) rfl QlI rfl aPs (λw1 h1 hf=>QwL w1 g m cap tot p l u hf hp om)) rfl (λ_ _=>aU3 ?_)))
 refine o_p (QG _ _ 2 m rfl rfl Q0 ⟨_,_,rfl,rfl⟩ rfl om om) rfl (Qh (show _=Value.slice (some ⟨g,p+2,none⟩) (m-2) (cap-2)from by rw[QkO rfl om]) (aU ?_))
 refine o_p (Qed rfl rfl rfl (by decide) 16 rfl) rfl (o_p (Qy rfl rfl ZA YR) rfl (Qh (show _=Value.int .u16 (u/65536)from by rw[Qkv];congr 1;omega) (o_h (QM (Cs:=[.blk g u8T tot (((Xd l p (le2 u))).map bv)]) rfl QlI rfl aPs (λw1 h1 hf=>Qvm w1 g (m-2) (cap-2) tot (p+2) (Xd l p (le2 u)) (u/65536) hf om om om)) rfl (λ_ _=>aU ?_))))
 exact Zs rfl (λw' h'=>⟨(),rfl,trivial,by rw[<-he9];exact h'.ent aEt⟩)
theorem c79(w:World)(n:LNd)(num lsn usn:Int)(hes:Rw TEnt.vals 2 w [] n.ea n.es)(hcs:Rw inV 1 w [] n.ca n.cs)(hp:NdP n.pl)(hcb:(Xy n.pl).length<=448)(hnum:0<=num/\num<4294967296)(hlsn:0<=lsn/\lsn<4294967296)(hu:1<=usn/\usn<=65535):CR 79 #[.agg #[.bool n.us,.slice n.ea n.es.length n.ec,.slice n.ca n.cs.length n.cc,.int .i64 lsn,.int .i64 usn],.int .i64 num] w (.string (bs (Qak n.pl num lsn usn))):=by
 have hel:n.es.length<=1000:=hp.el
 have z0:(List.replicate 512 (0:UInt8)).length=512:=List.length_replicate
 have z1:(Xd (List.replicate 512 (0:UInt8)) 0 Qen).length=512:=by rw[Yg (by rw[z0];decide),z0]
 have z2:(Xd (Xd (List.replicate 512 (0:UInt8)) 0 Qen) 8 (le4 lsn)).length=512:=by rw[Yg (by rw[z1];show 8+4<=512;decide),z1]
 have z3:(Xd (Xd (Xd (List.replicate 512 (0:UInt8)) 0 Qen) 8 (le4 lsn)) 12 (le4 num)).length=512:=by rw[Yg (by rw[z2];show 12+4<=512;decide),z2]
 have hd9:=Que num lsn n.es.length
 have hfu:((hdB num lsn n.es.length)++Xy n.pl)++List.replicate (512-((hdB num lsn n.es.length)++Xy n.pl).length) 0=Qah n.pl num lsn:=by rw[List.length_append,Qb4,show 512-(64+(Xy n.pl).length)=448-(Xy n.pl).length by omega];rfl
 have hnl:=QaJ (num:=num) (lsn:=lsn) hcb
 refine eN2 Tryz.func79 Tryz.ntmps79 ?_
 refine aU2 ?_
 refine oBx λb1 _=>?_
 refine aU4 ?_
 refine o_h (Ev.h_make2 (k:=64) (n:=512) rfl rfl rfl Q0 Qap (by decide) (by decide) (by decide)) rfl (λb2 _=>QQ (C':=HS w [] [.blk b1 118 5 _,.blk b2 u8T 512 (((List.replicate 512 (0:UInt8))).map bv)]) (λw9 h=>by have h9:=h.ent (Bs:=[.blk b1 118 5 _,.blk b2 u8T 512 (YE [.int .u8 0] (512*1))]) aEt;rwa[Qjm]at h9) (aU5 ?_))
 refine o_h (QgG (b:=b2) (i:=0) (l:=Qen) (x:=(List.replicate 512 (0:UInt8))) rfl rfl (λ_=>rfl) rfl Q0 aPt (by decide) (by decide) (by rw[z0];decide)) rfl (λ_ _=>aU2 ?_)
 refine Qt [5] QC ?_
 refine dP 0 ?_
 refine dV 1 rfl (QG _ _ 8 64 rfl rfl Q0 ⟨_,_,rfl,rfl⟩ rfl om om) (Qr (show _=Value.slice (some ⟨b2,8,none⟩) 56 504 from by rw[X0 (by decide)]) (dFa 2 ?_))
 refine dLd 3 [[4]] ?_
 refine dV 4 rfl (Qy rfl rfl Y1 ZA) (Qr (show _=Value.int .u32 lsn from by rw[Qfo];congr 1;omega) (dH 5 rfl (QM (Cs:=[.blk b2 u8T 512 (((Xd (List.replicate 512 (0:UInt8)) 0 Qen)).map bv)]) rfl Qqk rfl aPs (λw1 h1 hf=>c146 w1 b2 56 504 512 8 (Xd (List.replicate 512 (0:UInt8)) 0 Qen) lsn hf (by rw[z1];decide) (by decide) (by decide) (by decide) hlsn)) (λ_ _=>dTu [] ?_)))
 refine dNi ?_
 refine aU3 ?_
 refine o_p (QG _ _ 12 64 rfl rfl Q0 ⟨_,_,rfl,rfl⟩ rfl om om) rfl (Qh (show _=Value.slice (some ⟨b2,12,none⟩) 52 500 from by rw[X0 (by decide)]) (aU ?_))
 refine o_p (Qy rfl rfl Y1 ZA) rfl (Qh (show _=Value.int .u32 num from by rw[Qfo];congr 1;omega) (o_h (QM (Cs:=[.blk b2 u8T 512 (((Xd (Xd (List.replicate 512 (0:UInt8)) 0 Qen) 8 (le4 lsn))).map bv)]) rfl Qqk rfl aPs (λw1 h1 hf=>c146 w1 b2 52 500 512 12 (Xd (Xd (List.replicate 512 (0:UInt8)) 0 Qen) 8 (le4 lsn)) num hf (by rw[z2];decide) (by decide) (by decide) (by decide) hnum)) rfl (λ_ _=>aU2 ?_)))
 refine Qt [7] QC ?_
 refine dP 0 ?_
 refine dV 1 rfl (QG _ _ 16 64 rfl rfl Q0 ⟨_,_,rfl,rfl⟩ rfl om om) (Qr (show _=Value.slice (some ⟨b2,16,none⟩) 48 496 from by rw[X0 (by decide)]) (dFa 2 ?_))
 refine dFa 3 ?_
 refine dLd 4 [[6,5]] ?_
 refine dV 5 rfl (QS rfl rfl Tryz.underlying67) (dV 6 rfl (Qy rfl rfl Y1 YR) (Qr (show _=Value.int .u16 (n.es.length:Int)from by rw[Qkv];congr 1;omega) (dH 7 rfl (QM (Cs:=[.blk b2 u8T 512 (((Xd (Xd (Xd (List.replicate 512 (0:UInt8)) 0 Qen) 8 (le4 lsn)) 12 (le4 num))).map bv)]) rfl QlI rfl aPs (λw1 h1 hf=>Qvm w1 b2 48 496 512 16 (Xd (Xd (Xd (List.replicate 512 (0:UInt8)) 0 Qen) 8 (le4 lsn)) 12 (le4 num)) (n.es.length:Int) hf (by rw[z3];decide) (by decide) om)) (λ_ _=>dTu [] ?_))))
 refine dNi ?_
 refine aU3 ?_
 refine QQ (λw9 h=>(HS.byz_blk (l:=(hdB num lsn n.es.length)) (cap:=512) (g:=b2) (cs:=(Xd (Xd (Xd (Xd (List.replicate 512 (0:UInt8)) 0 Qen) 8 (le4 lsn)) 12 (le4 num)) 16 (le2 (n.es.length:Int))).map bv) aPk h (by rw[Qb4];decide) (by decide) (by rw[hd9,QvX (cap:=512) 448 (by rw[Qb4])]))) (aU2 ?_)
 refine o_h (QM (Cs:=[.byz (some ⟨b2,0,none⟩) 512 ((hdB num lsn n.es.length))]) rfl QpY rfl aPs (λw1 h1 hf=>c148 w1 (some ⟨b2,0,none⟩) 512 (hdB num lsn n.es.length) n hf (by rw[Qb4];decide) (by rw[Qb4]) ((hes.keep h1).mono (XB aPs)) ((hcs.keep h1).mono (XB aPs)) hp)) rfl (λ⟨b3,c4⟩hz5=>?_)
 obtain⟨hB9,hC9⟩:=hz5 (by rw[List.length_append,Qb4];omega)
 simp only[]at hB9 hC9
 subst hB9 hC9
 refine QQ (C':=HS w [] [.blk b2 u8T 512 (((Qah n.pl num lsn)).map bv),.blk b1 118 5 _]) (λw9 h=>by have h8:=HS.byz_full (l:=(hdB num lsn n.es.length)++Xy n.pl) (cap:=512) (g:=b2) aPk h (by decide);rw[hfu]at h8;exact h8) (aU3 ?_)
 refine Qg (L':=[(2,_),(4,_),(5,_)]) aSx (λ_ h=>h) ?_
 refine Qt [] QC ?_
 refine dP 0 ?_
 refine dV 1 rfl (QG _ _ 0 512 rfl rfl Q0 rfl ⟨_,_,rfl,rfl⟩ om om) (Qr (show _=Value.slice (some ⟨b2,0,none⟩) 512 512 from by first|(simp only[Yw];done)|(simp only[Yw];rfl)) (dQ 2 [] rfl (YC rfl rfl Tryz.underlying139 Tryz.underlying9 Tryz.underlying5 aPk (by simp[hnl]) (Zy (Qah n.pl num lsn))) (Qr (show _=Value.string (bs (Qah n.pl num lsn))from by rw[Y4]) (dFa 3 ?_))))
 refine dLd 4 [] ?_
 refine dQ 5 [] rfl (Qv rfl QvE rfl (λw1 h1=>c149 w1 (Qah n.pl num lsn) usn hnl Qdv hu)) (dP 6 ?_)
 refine dP 7 ?_
 refine dP 8 ?_
 refine dP 9 ?_
 refine dP 10 ?_
 refine dNi ?_
 refine aU5 ?_
 exact rV
end Go.Proofs
namespace Gx
open Go Go.RowKit
section
variable{b:List UInt8}{num:Int}{n:Nd}{last:Nat}
theorem QiN(h:¬b.length=512):XN b num=ndE 10:=by unfold XN;rw[if_neg h]
theorem QiA(h:b.length=512)(hn:¬(1<=num/\num<=120)):XN b num=ndE 2:=by unfold XN;rw[if_pos h,if_neg hn]
theorem QfB(h:b.length=512)(hn:1<=num/\num<=120)(ht:X2 b=true):XN b num=ndE 31:=by unfold XN;rw[if_pos h,if_pos hn,if_pos ht]
theorem QeK(h:b.length=512)(hn:1<=num/\num<=120)(ht:X2 b=false)(hr:rdB (Xa b)=none):XN b num=ndE 3:=by grind[XN]
theorem Qdj(h:b.length=512)(hn:1<=num/\num<=120)(ht:X2 b=false)(hr:rdB (Xa b)=some (n,last)) :
  XN b num=if QgH (Xa b) num&&zer ((Xa b).drop last)then⟨n,(ub4 (Xa b) 8:Int),(ub2 b 40:Int),0⟩else ndE 3:=by
 grind[XN]
theorem Qvj{s:List UInt8}(h:QgH s num=true):ub4 s 8<=2147483647:=by grind[QgH]
theorem QuQ(h:b.length=512)(hn:1<=num/\num<=120)(ht:X2 b=false)(hr:rdB (Xa b)=some (n,last))(hx:¬(ub4 (Xa b) 8<=2147483647/\Qak n num (ub4 (Xa b) 8:Int) (ub2 b 40:Int)=b)):XN b num=ndE 3:=by
 rw[Qdj h hn ht hr,if_neg]
 grind[ub4,Xa,Qvj,Ql6]
theorem Qwt(h:b.length=512)(hn:1<=num/\num<=120)(ht:X2 b=false)(hr:rdB (Xa b)=some (n,last))(hl:ub4 (Xa b) 8<=2147483647)(hx:Qak n num (ub4 (Xa b) 8:Int) (ub2 b 40:Int)=b):XN b num=⟨n,(ub4 (Xa b) 8:Int),(ub2 b 40:Int),0⟩:=by
 rw[Qdj h hn ht hr,if_pos ((Ql6 h ht om hr hl).1 hx)]
theorem Qph{u v:Bool}(hu:u=true ↔ b.length=512)(hv:v=true ↔ 1<=num/\num<=120) :
  (Xr [.int .i64 (bif u then 0 else 10),.int .i64 (bif v then 0 else 2)]=0->b.length=512/\(1<=num/\num<=120)) /\
  (¬Xr [.int .i64 (bif u then 0 else 10),.int .i64 (bif v then 0 else 2)]=0->XN b num=ndE (Xr [.int .i64 (bif u then 0 else 10),.int .i64 (bif v then 0 else 2)])):=by
 cases u with
 | false=>exact⟨λh=>absurd (show(10:Int)=0 from h) (by decide),λ_=>QiN λh9=>by cases hu.2 h9⟩
 | true=>
  cases v with
  | false=>exact⟨λh=>absurd h (by decide),λ_=>QiA (hu.1 rfl) λh9=>by cases hv.2 h9⟩
  | true=>exact⟨λ_=>⟨hu.1 rfl,hv.1 rfl⟩,λh=>absurd rfl h⟩
theorem QoV{s:List UInt8}(h:1<=ub2 s 16/\ub2 s 16<=4):rdB s=rdN s 64 (ub2 s 16):=by unfold rdB;rw[if_pos h]
theorem Qp5{s:List UInt8}(h:¬(1<=ub2 s 16/\ub2 s 16<=4)):rdB s=none:=by unfold rdB;rw[if_neg h]
end
end Gx
namespace Go.Proofs
open Go Go.RowKit Gx
attribute [local irreducible] Go.Calls Gx.S Gx.O Gx.D Gx.OpP Gx.OpQ Gx.OpH
set_option maxRecDepth 20000
instance:TFn Tryz.prog 100:=⟨by kernel_rfl⟩
theorem QcH:Qab Tryz.prog 118=some [(0,3),(3,1),(4,1)]:=by kernel_rfl
theorem Qat:X9 Tryz.prog 118=some [.bool false,.slice none 0 0,.slice none 0 0,.int .i64 0,.int .i64 0]:=by kernel_rfl
theorem QrR:QY Tryz.prog 79=true:=by kernel_rfl
instance:TFn Tryz.prog 79:=⟨QrR⟩
theorem Qe9:tsz Tryz.prog 118=some (5,true):=by kernel_rfl
instance:TSz Tryz.prog 118 5 true:=⟨Qe9⟩
instance:TFn Tryz.prog 130:=⟨by kernel_rfl⟩
theorem c63(w:World)(s:List UInt8)(num:Int)(hsl:s.length<=1000000):CE 63 #[.string (bs s),.int .i64 num] w [] (λg:LNd=>.tuple #[.agg #[.bool g.us,.slice g.ea g.es.length g.ec,.slice g.ca g.cs.length g.cc,.int .i64 (XN s num).lsn,.int .i64 (XN s num).usn],.int .i64 (XN s num).e]) (λg=>g.pl=(XN s num).n) λg=>[.ents 27 g.ea g.ec g.es,.kids g.ca g.cc g.cs]:=by
 have hF:=Qph (b:=s) (num:=num) (u:=decide ((s.length:Int)=512)) (v:=decide (1<=num)&&decide (num<=120)) (by rw[decide_eq_true_eq];omega) (by simp only[Bool.and_eq_true,decide_eq_true_eq])
 refine eN2 Tryz.func63 Tryz.ntmps63 ?_
 refine aU2 ?_
 refine oAl (λb1 _=>?_) Qat
 refine aU6 ?_
 refine oCq rfl (λw1 h1=>Qvh w1 _) (aU ?_)
 refine oCq rfl (λw1 h1=>c87 w1 _ _ _) (oCq rfl (λw1 h1=>c60 w1 _ _) (o_h (Qe (cs:=[_,_]) rfl rfl Yo ZR rfl rfl rfl) rfl (λb2 _=>oCq rfl (λw1 h1=>f59 h1 aPk (by rfl) (by rfl) (by decide)) (aU7 ?_))))
 refine sCd rfl (λh3=>?_) λh3=>?_
 ·have hR:=hF.2 h3
  refine aU2 ?_
  refine o_p (QF (cs:=[_,_,_,_,_]) rfl rfl QcH Qat rfl) rfl (aU4 ?_)
  exact Qk (rs:=[.cell 4 118,.tmp 5]) rfl (.cell rfl Qe9 aPk rfl (.tmp rfl (.nil))) (λw' h'=>⟨⟨false,none,0,[],none,0,[]⟩,by rw[hR];rfl,by rw[hR];rfl,((h'.nil.own_nil 3 1).own_nil 27 2).ent aEt⟩)
 obtain⟨hs5,hn5⟩:=hF.1 h3
 refine aU4 ?_
 refine oCq rfl (λw1 h1=>c130 w1 s hsl) (QeV ?_)
 refine sCd rfl (λh4=>?_) λh4=>?_
 ·have ht:X2 s=true:=by cases ht:X2 s;have hq:=h4;rw[QfO hs5 ht]at hq;exact absurd rfl hq;rfl
  have hR:=QfB hs5 hn5 ht
  refine aU2 ?_
  refine o_p (QF (cs:=[_,_,_,_,_]) rfl rfl QcH Qat rfl) rfl (aU3 ?_)
  exact Qk (rs:=[.cell 4 118,.tmp 5]) rfl (.cell rfl Qe9 aPk rfl (.tmp rfl (.nil))) (λw' h'=>⟨⟨false,none,0,[],none,0,[]⟩,by rw[hR];rfl,by rw[hR];rfl,((h'.nil.own_nil 3 1).own_nil 27 2).ent aEt⟩)
 have ht:X2 s=false:=by cases ht:X2 s;rfl;have hq:=h4;rw[Qhu hs5 ht]at hq;cases hq
 rw[QfO hs5 ht]
 dsimp only
 have hol9:=Y6 hs5
 obtain⟨o,ho⟩:∃o,o=Xa s:=⟨_,rfl⟩
 rw[<-ho]
 rw[<-ho]at hol9
 have hol:o.length=512:=hol9
 have hdl:∀k,k<=512->(o.drop k).length=512-k:=λk hk=>by rw[List.length_drop,hol]
 have hb4:=Qmq o 8
 have hb2:=Qc9 o 16
 have hu40:=Qc9 s 40
 have hu0:1<=ub2 s 40:=by have:=(Qgr.1 ht).1;omega
 refine aU4 ?_
 refine o_h (Qcc rfl rfl Tryz.underlying9 Tryz.underlying139 Tryz.underlying5 rfl (by simp only[maxLen];omega)) rfl (λ⟨b5,c6⟩⟨h7,k8⟩=>aU5 ?_)
 refine o_p (QG _ _ 16 o.length rfl rfl Q0 ⟨_,_,rfl,rfl⟩ rfl om om) rfl (Qh (show _=Value.slice (YY (some ⟨b5,0,none⟩) c6 16 1) (512-16) (c6-16)from by rw[hol]) (oCq rfl (λw1 h1=>Qsd w1 (YY (some ⟨b5,0,none⟩) c6 16 1) (512-16) (c6-16) (o.drop 16) (by have h9:=(h1.vl_blk (cs:=o.map bv) aPk).dropA (k:=16) (cap:=c6) (by rw[List.length_map];omega) (by rw[List.length_map];omega);rw[<-List.map_drop]at h9;exact h9) (hdl 16 om) om om (by simp only[maxLen]at *;omega)) (Qh (show _=Value.int .u16 ((ub2 o 16:Nat):Int)from by rw[QbW,Nat.add_zero,Qc1]) (o_p (Qy rfl rfl YR Y1) rfl ?_))))
 try refine oWr ?_
 refine aU4 ?_
 refine Qg (L':=[(0,_),(1,_),(4,_),(5,_),(8,_),(10,_),(11,_)]) aSx (λ_ h=>h) ?_
 refine aU2 ?_
 refine oCq rfl (λw1 h1=>c87 w1 _ _ _) (aU2 ?_)
 refine sCd rfl (λh9=>?_) λh9=>?_
 ·have hR:=QeK hs5 hn5 ht (by rw[<-ho];exact Qp5 (by have hq:=h9;intro h9;simp at hq;omega))
  refine aU2 ?_
  refine o_p (QF (cs:=[_,_,_,_,_]) rfl rfl QcH Qat rfl) rfl (aU3 ?_)
  exact Qk (rs:=[.cell 4 118,.tmp 5]) rfl (.cell rfl Qe9 aPk rfl (.tmp rfl (.nil))) (λw' h'=>⟨⟨false,none,0,[],none,0,[]⟩,by rw[hR];rfl,by rw[hR];rfl,((h'.nil.own_nil 3 1).own_nil 27 2).ent aEt⟩)
 have hct:1<=ub2 o 16/\ub2 o 16<=4:=by have hq:=h9;omega
 have hrb:=QoV hct
 refine aU4 ?_
 refine o_p (QG _ _ 64 o.length rfl rfl Q0 ⟨_,_,rfl,rfl⟩ rfl om om) rfl (aU ?_)
 refine oCh rfl (λw1 h1=>c92 w1 o 64 (ub2 o 16) (YY (some ⟨b5,0,none⟩) c6 64 1) (c6-64) (by have h9:=(h1.vl_blk (cs:=o.map bv) aPk).dropA (k:=64) (cap:=c6) (by rw[List.length_map];omega) (by rw[List.length_map];omega);rw[<-List.map_drop]at h9;exact h9) (by rw[hol];decide) (by rw[hol];decide) (by rw[hol];omega) (by simp only[maxLen]at *;omega) om) (λ⟨gn,gr,gl,gc⟩hgn=>aU4 ?_)
 refine oAl (λb10 _=>?_) Xj
 refine aU5 ?_
 refine Qt [8] QC ?_
 refine dLn 0 [[]] ?_
 refine dP 1 ?_
 refine dV 2 rfl (QG _ _ 8 o.length rfl rfl Q0 ⟨_,_,rfl,rfl⟩ rfl om om) (Qr (show _=Value.slice (YY (some ⟨b5,0,none⟩) c6 8 1) (512-8) (c6-8)from by rw[hol]) (dQ 3 [[]] rfl (Qv rfl Qrz rfl (λw1 h1=>c132 w1 (YY (some ⟨b5,0,none⟩) c6 8 1) (512-8) (c6-8) (o.drop 8) (by have h9:=(h1.vl_blk (cs:=o.map bv) aPk).dropA (k:=8) (cap:=c6) (by rw[List.length_map];omega) (by rw[List.length_map];omega);rw[<-List.map_drop]at h9;exact h9) (hdl 8 om) om om (by simp only[maxLen]at *;omega))) (Qr (show _=Value.int .u32 ((ub4 o 8:Nat):Int)from by rw[Qf3,Nat.add_zero,Qgk]) (dV 4 rfl (Qy rfl rfl ZA Y1) ?_))))
 try refine dWr ?_
 refine dP 5 ?_
 refine dV 6 rfl (QF (cs:=[_,_,_,_,_]) rfl rfl QcH Qat rfl) (dH 7 rfl (ZX rfl Qat) (λb11 _=>dBa ?_))
 refine dSt 8 ?_ (hl:=(by simp only[Qm,List.length_set,List.length_cons,List.length_nil,List.length_map];omega))
 refine dTu [] ?_
 refine dNi ?_
 refine aU6 ?_
 refine oOr 4 63 67 rfl
  (λhg12 _=>by
   refine aU6 ?_
   exact oJf 4 67)
  (λhg14 _=>by
   refine aU3 ?_
   exact oJt 4 67) ?_
 refine aU ?_
 refine oOr 6 68 74 rfl
  (λhg16 _=>by
   refine aU4 ?_
   have hq9:=hg16
   obtain⟨⟨n9,e9⟩,hrd⟩:∃q,rdN o 64 (ub2 o 16)=some q:=Option.isSome_iff_exists.1 (by grind)
   have hls:ub4 o 8<=2147483647:=by grind
   obtain⟨hpl9,_⟩:=hgn.1 _ _ hrd
   obtain⟨_,q2,q3,q4,q5,q6⟩:=Qba hol (hrb.trans hrd)
   have hcb:(Xy gn.pl).length<=448:=by rw[hpl9,Qkf hol (hrb.trans hrd)];omega
   have hnp:NdP gn.pl:=by rw[hpl9];exact q6.ndp om
   refine aU ?_
   refine oCq rfl (λw1 h1=>c79 w1 gn num ((ub4 o 8:Nat):Int) ((ub2 s 40:Nat):Int) (h1.rw_own ev2 aPk rfl) (h1.rw_own iv1 aPk rfl) hnp hcb om om om) (aU4 ?_)
   exact oJf 6 74)
  (λhg18 _=>by
   refine aU5 ?_
   exact oJt 6 74) ?_
 refine aU ?_
 refine sCd rfl (λh20=>?_) λh20=>?_
 ·have hR:XN s num=ndE 3:=by cases hr:rdN o 64 (ub2 o 16)with|none=>exact QeK hs5 hn5 ht (by rw[<-ho];exact hrb.trans hr)|some q=>(obtain⟨n9,e9⟩:=q;have hp9:=(hgn.1 _ _ hr).1;refine QuQ hs5 hn5 ht (by rw[<-ho];exact hrb.trans hr) (λh9=>?_);rw[<-ho]at h9;have hq:=h20;rw[hr,hp9]at hq;have h91:=h9.1;have h92:=h9.2;simp[h92]at hq;omega)
  refine aU ?_
  refine Qg (L':=[(4,_),(5,_),(15,_)]) aSx (λ_ h=>h) ?_
  refine aU ?_
  refine o_p (QF (cs:=[_,_,_,_,_]) rfl rfl QcH Qat rfl) rfl (aU3 ?_)
  exact Qk (rs:=[.cell 4 118,.tmp 5]) rfl (.cell rfl Qe9 aPk rfl (.tmp rfl (.nil))) (λw' h'=>⟨⟨false,none,0,[],none,0,[]⟩,by rw[hR];rfl,by rw[hR];rfl,((h'.nil.own_nil 3 1).own_nil 27 2).ent aEt⟩)
 obtain⟨⟨n9,e9⟩,hrd⟩:∃q,rdN o 64 (ub2 o 16)=some q:=Option.isSome_iff_exists.1 (by have hq:=h20;grind)
 obtain⟨hpl9,_⟩:=hgn.1 _ _ hrd
 have hR:=Qwt hs5 hn5 ht (by rw[<-ho];exact hrb.trans hrd) (by rw[<-ho];have hq:=h20;grind) (by rw[<-ho,<-hpl9];have hq:=h20;grind)
 rw[<-ho]at hR
 refine aU2 ?_
 refine Qg (L':=[(4,_),(5,_),(15,_)]) aSx (λ_ h=>h) ?_
 refine aU5 ?_
 exact Qk (rs:=[.cell 4 118,.tmp 5]) rfl (.cell rfl Qe9 aPk rfl (.tmp rfl (.nil))) (λw' h'=>⟨gn,by rw[hR];rfl,by rw[hR];exact hpl9,h'.ent aEt⟩)
instance:TFn Tryz.prog 63:=⟨by kernel_rfl⟩
def rpT(s:List UInt8)(u:Int):Nat->List UInt8
  | 0=>le2 u
  | i+1=>rpT s u i++Qz s (tlA i) 2
def rpS(s:List UInt8)(u:Int):Nat->List UInt8
  | 0=>s
  | i+1=>Xd (rpS s u i) (tlA i) (le2 u)
theorem QeL{s:List UInt8}{u:Int}(h:s.length=512):∀i,i<=8->(rpS s u i).length=512
  | 0,_=>h
  | i+1,hi=>by
    have h1:=QeL (u:=u) h i om;show(Xd _ _ _).length=512;rw[Yg (by rw[h1];show tlA i+2<=512;unfold tlA;omega),h1]
theorem Qiv{s:List UInt8}{u:Int}(h:s.length=512):∀i,i<=8->∀j,i<=j->j<8->Qz (rpS s u i) (tlA j) 2=Qz s (tlA j) 2
  | 0,_,_,_,_=>rfl
  | i+1,hi,j,hj,h8=>by
    have h1:=QeL (u:=u) h i om;show Qz (Xd _ _ _) _ _=_;rw[Qci (by rw[h1];show tlA i+2<=512;unfold tlA;omega) (.inr (by show tlA i+2<=tlA j;unfold tlA;omega))];exact Qiv h i om j om h8
theorem QfT{s:List UInt8}{u:Int}(h:s.length=512):∀i,i<=8->(rpT s u i).length=2+2*i
  | 0,_=>rfl
  | i+1,hi=>by
    show(rpT s u i++Qz s (tlA i) 2).length=_;rw[List.length_append,QfT h i om,Xn (by unfold tlA;omega)];omega
theorem Qhx{l x y:List UInt8}{p q:Nat}(hp:p+x.length<=l.length)(hq:q+y.length<=l.length)(hd:p+x.length<=q\/q+y.length<=p):Xd (Xd l p x) q y=Xd (Xd l q y) p x:=by
  apply List.ext_getElem?;intro j;rw[Zi (by rw[Yg hp];exact hq),Zi hp,Zi (by rw[Yg hq];exact hp),Zi hq]
  by_cases h1:j<p<;>by_cases h2:j<q<;>by_cases h3:j<p+x.length<;>by_cases h4:j<q+y.length<;>simp only[h1,h2,h3,h4,if_true,if_false]<;>omega
theorem QqY{s:List UInt8}{u:Int}(h:s.length=512):∀i,i<=8->prI s u i=Xd (rpS s u i) 40 (rpT s u i)
  | 0,_=>rfl
  | i+1,hi=>by
    have ih:=QqY (u:=u) h i om;have hS:=QeL (u:=u) h i om;have hT:=QfT (u:=u) h i om
    have hsub:Qz (prI s u i) (tlA i) 2=Qz s (tlA i) 2:=by
      rw[ih,Qci (by rw[hS,hT];omega) (.inr (by rw[hT];unfold tlA;omega)),Qiv h i om i (Nat.le_refl _) om]
    have h2:(Qz s (tlA i) 2).length=2:=Xn (by unfold tlA;omega);show Xd (Xd (prI s u i) (42+2*i) (Qz (prI s u i) (tlA i) 2)) (tlA i) (le2 u)=Xd (Xd (rpS s u i) (tlA i) (le2 u)) 40 (rpT s u i++Qz s (tlA i) 2);have e9:=QhL (l:=rpS s u i) (p:=40) (q:=42+2*i) (x:=rpT s u i) (y:=Qz s (tlA i) 2) (by rw[hT];omega) (by rw[hT,hS,h2];omega);rw[hsub,ih,e9];have hx:(rpT s u i++Qz s (tlA i) 2).length=4+2*i:=by rw[List.length_append,hT,h2];omega
    exact Qhx (by rw[hx,hS];omega) (by rw[hS];show tlA i+2<=512;unfold tlA;omega) (.inl (by rw[hx];unfold tlA;omega))
theorem Qse{s:List UInt8}{u:Int}(h:s.length=512):Qcm s u=Xd (rpS s u 8) 40 (rpT s u 8):=QqY h 8 (Nat.le_refl _)
instance:TFn Tryz.prog 54:=⟨by kernel_rfl⟩
theorem c103(w:World)(s:List UInt8)(u:Int)(h5:s.length=512)(hu:0<=u/\u<65536):CR 103 #[.string (bs s),.int .i64 u] w (.string (bs (Qcm s u))):=by
 refine eN2 Tryz.func103 Tryz.ntmps103 ?_
 refine aU7 ?_
 refine oCq rfl (λw1 h1=>by have h9:=c94 w1 (u) 2 om om;rw[Qg4]at h9;exact h9) (aU8 ?_)
 refine Qx (α:=Nat) [0,5,6,7,10,11,12,13,14,15,16,17,18,19,20,21,22,23,24,25,26,27,28] (λk=>[(6,.int .i64 ((k:Int)+1)),(0,.string (bs (rpS s u k))),(5,.string (bs (rpT s u k)))]) (λ_=>HS w [] []) (λk=>k<=8) (λk=>8-k) 0 (Nat.zero_le _) aSx (λw h=>h.ent aEt) (λk hk8=>?_)
 refine aU6 ?_
 refine sCd rfl (λh1=>?_) λh1=>?_
 ·have hk:k<8:=by omega
  have hsl:=QeL (u:=u) h5 k hk8
  have htl:=QfT (u:=u) h5 k hk8
  have hsb:=Qiv (u:=u) h5 k hk8 k (Nat.le_refl _) hk
  have ht9:tlA k=64*k+62:=rfl
  have hxl:(Qz (rpS s u k) (tlA k) 2).length=2:=Xn om
  refine aT7 ?_
  refine aT ?_
  refine Qh (show _=Value.int .i64 ((tlA k:Nat):Int)from congrArg (Value.int .i64) (by unfold tlA;omega)) (aT9 ?_)
  refine o_p (XP _ _ (tlA k) (tlA k+2) rfl rfl Tryz.underlying9 ⟨_,_,rfl,rfl⟩ ⟨_,_,rfl,om⟩ om om) rfl (Qh (show _=Value.string (bs (Qz (rpS s u k) (tlA k) 2))from by rw[Qbk (n:=2) rfl]) (o_p (Q8 rfl rfl rfl (by(try simp only[List.length_append,List.length_cons,List.length_nil,List.length_replicate,List.length_take,List.length_drop]);omega)) rfl (aU6 ?_)))
  refine oCq rfl (λw1 h1=>by have h9:=c94 w1 (u) 2 om om;rw[Qg4]at h9;exact h9) (oCq rfl (λw1 h1=>c54 w1 (rpS s u k) (tlA k) (le2 u) (by show tlA k+2<=_;omega) om) (aT6 ?_))
  refine Qh (show _=Value.int .i64 (((k+1:Nat):Int)+1)from congrArg (Value.int .i64) om) (aU2 ?_)
  exact sBk (k+1) om om (by rw[show(rpT s u (k+1))=rpT s u k++Qz s (tlA k) 2 from rfl,<-hsb];exact aSx)
 obtain rfl:k=8:=om
 have hsl:=QeL (u:=u) h5 8 hk8
 have htl:=QfT (u:=u) h5 8 hk8
 refine Qn rfl ?_
 refine aU4 ?_
 refine oCq rfl (λw1 h1=>c54 w1 (rpS s u 8) 40 (rpT s u 8) om om) (aU2 ?_)
 exact rV (h:=by rw[Qse h5];rfl)
def roI(s:List UInt8):Nat->List UInt8
  | 0=>Xd s 40 (List.replicate 18 0)
  | i+1=>Xd (roI s i) (tlA i) (Qz s (42+2*i) 2)
theorem Qnl{s:List UInt8}(h:s.length=512):∀i,i<=8->(roI s i).length=512
  | 0,_=>by
    show(Xd _ _ _).length=512;rw[Yg (by rw[h];decide),h]
  | i+1,hi=>by
    have h1:=Qnl h i om;have h2:(Qz s (42+2*i) 2).length=2:=Xn om;show(Xd _ _ _).length=512;rw[Yg (by rw[h1,h2];unfold tlA;omega),h1]
theorem QmV{s:List UInt8}(h:s.length=512):∀i,i<=8->∀j,j<8->Qz (opI s i) (42+2*j) 2=Qz s (42+2*j) 2
  | 0,_,_,_=>rfl
  | i+1,hi,j,h8=>by
    have h1:=Qaz h i om;have h2:(Qz (opI s i) (42+2*i) 2).length=2:=Xn om;show Qz (Xd _ _ _) _ _=_;rw[Qci (by rw[h1,h2];unfold tlA;omega) (.inl (by unfold tlA;omega))];exact QmV h i om j h8
theorem QpC{s:List UInt8}(h:s.length=512):∀i,i<=8->roI s i=Xd (opI s i) 40 (List.replicate 18 0)
  | 0,_=>rfl
  | i+1,hi=>by
    have ih:=QpC h i om;have h1:=Qaz h i om;have h2:(Qz s (42+2*i) 2).length=2:=Xn om;show Xd (roI s i) (tlA i) (Qz s (42+2*i) 2)=Xd (Xd (opI s i) (tlA i) (Qz (opI s i) (42+2*i) 2)) 40 (List.replicate 18 0);rw[ih,QmV h i om i om];exact Qhx (by rw[h1];decide) (by rw[h1,h2];unfold tlA;omega) (.inl (by show 40+18<=tlA i;unfold tlA;omega))
theorem Qsm{s:List UInt8}(h:s.length=512):Xa s=roI s 8:=(QpC h 8 (Nat.le_refl _)).symm
theorem QrY{s:List UInt8}(h:∀i,i<8->QbE s i=false):X2 s=false:=by
  cases hb:X2 s with
  | false=>rfl
  | true=>
    obtain⟨i,hi,h1⟩:=List.any_eq_true.1 hb;rw[h i (List.mem_range.1 hi)]at h1;cases h1
theorem Qo6{s:List UInt8}{i:Nat}(hi:i<8)(h:QbE s i=true):X2 s=true:=List.any_eq_true.2 ⟨i,List.mem_range.2 hi,h⟩
theorem c102(w:World)(s:List UInt8)(h5:s.length=512):CR 102 #[.string (bs s)] w (.tuple #[.string (bs (if X2 s=true then[]else Xa s)),.bool (!X2 s)]):=by
 refine eN1 Tryz.func102 Tryz.ntmps102 ?_
 refine aU8 ?_
 refine oCq rfl (λw1 h1=>by have h9:=c72 w1 s (40) 2 om om om;rw[QcB,Qc1]at h9;exact h9) (aU5 ?_)
 refine oCq rfl (λw1 h1=>c86 w1 18 om) (oCq rfl (λw1 h1=>c54 w1 s 40 (List.replicate 18 0) (by rw[List.length_replicate];omega) om) (aU8 ?_))
 refine Qx (α:=Nat) [2,3,5,6,7,13,14,15,16,17,18,19,20,21,22,23,24,25,26,27,28,29,30,31,32,33,34,35,36,37,38,39,40] (λk=>[(6,.int .i64 ((k:Int)+1)),(5,.string (bs (roI s k)))]) (λ_=>HS w [] []) (λk=>k<=8/\∀i,i<k->QbE s i=false) (λk=>8-k) 0 ⟨Nat.zero_le _,λi h=>absurd h (Nat.not_lt_zero _)⟩ aSx (λw h=>h.ent aEt) (λk hkk=>?_)
 obtain⟨hk8,hkt⟩:=hkk
 refine aU6 ?_
 refine sCd rfl (λh1=>?_) λh1=>?_
 ·have hk:k<8:=by omega
  have hol:=Qnl h5 k hk8
  have ht9:tlA k=64*k+62:=rfl
  have hxl:(Qz s (42+2*k) 2).length=2:=Xn om
  refine aT7 ?_
  refine aT ?_
  refine Qh (show _=Value.int .i64 ((tlA k:Nat):Int)from congrArg (Value.int .i64) (by unfold tlA;omega)) (aU8 ?_)
  refine oOr 6 22 28 rfl
   (λhg2 _=>by
    refine aU5 ?_
    refine oCq rfl (λw1 h1=>by have h9:=c72 w1 s (tlA k) 2 om om om;rw[QcB,Qc1]at h9;exact h9) (aU4 ?_)
    exact oJf 6 28)
   (λhg4 _=>by
    refine aU5 ?_
    exact oJt 6 28) ?_
  refine aU ?_
  refine sCd rfl (λh6=>?_) λh6=>?_
  ·have hTB:X2 s=true:=Qo6 hk (decide_eq_true (by have hq:=h6;omega))
   refine aU5 ?_
   exact Qk (rs:=[.tmp 2,.tmp 3]) rfl (.tmp rfl (.tmp rfl (.nil))) (λw' h'=>⟨by rw[hTB];rfl,h'.below⟩)
  have hT:QbE s k=false:=decide_eq_false (by have hq:=h6;omega)
  refine aT7 ?_
  refine aT ?_
  refine aT2 ?_
  refine aT ?_
  refine aT ?_
  refine o_p (XP _ _ (42+2*k) (42+2*k+2) rfl rfl Tryz.underlying9 ⟨_,_,rfl,om⟩ ⟨_,_,rfl,om⟩ om om) rfl (Qh (show _=Value.string (bs (Qz s (42+2*k) 2))from by rw[Qbk (n:=2) rfl]) (oCq rfl (λw1 h1=>c54 w1 (roI s k) (tlA k) (Qz s (42+2*k) 2) om om) (aU3 ?_)))
  refine Qg (L':=[(0,_),(4,_),(5,_),(6,_),(8,_),(9,_),(10,_),(11,_),(12,_)]) aSx (λ_ h=>h) ?_
  refine aT3 ?_
  refine Qh (show _=Value.int .i64 (((k+1:Nat):Int)+1)from congrArg (Value.int .i64) om) (aU2 ?_)
  exact sBk (k+1) om ⟨om,λi hi=>(Nat.lt_or_ge i k).elim (hkt i) (λh=>by obtain rfl:i=k:=om;exact hT)⟩
 obtain rfl:k=8:=om
 have hTB:=QrY hkt
 refine Qn rfl ?_
 refine aU6 ?_
 exact Qk (rs:=[.tmp 2,.tmp 3]) rfl (.tmp rfl (.tmp rfl (.nil))) (λw' h'=>⟨by rw[hTB,Qsm h5];rfl,h'.below⟩)
instance:TFn Tryz.prog 103:=⟨by kernel_rfl⟩
instance:TFn Tryz.prog 102:=⟨by kernel_rfl⟩
theorem c41(w:World)(co mo rm:Int)(a:Option Addr)(cap:Nat)(L:List LNd)(num lsn usn:Int)(hs:Nt w [] a L)(h0:0<=num/\num<4294967296)(hk:num.toNat<L.length)(hp:NdP (nth L num.toNat).pl)(hcb:(Xy (nth L num.toNat).pl).length<=448)(hlsn:0<=lsn/\lsn<4294967296)(hu:0<=usn/\usn<65536):CR 41 #[.agg #[.int .i64 co,.int .i64 mo,.int .i64 rm,.slice a L.length cap],.int .i64 num,.int .i64 lsn,.int .i64 usn] w (.string (bs (Qak (nth L num.toNat).pl num lsn usn))):=by
 have hel:(nth L num.toNat).es.length<=1000:=hp.el
 have l42:(le4 lsn).length=4:=rfl
 have l43:(le4 num).length=4:=rfl
 have l44:(le2 ((nth L num.toNat).es.length:Int)).length=2:=rfl
 have l41:∀x:Int,(le4 x).length=4:=λ_=>rfl
 have l21:∀x:Int,(le2 x).length=2:=λ_=>rfl
 refine eN4 Tryz.func41 Tryz.ntmps41 ?_
 refine aU2 ?_
 refine oBx λb1 _=>?_
 refine aU7 ?_
 refine o_p (Qa rfl rfl rfl Qw num.toNat om om (Rw.some hs.1 om)) rfl (o_q (QB _ rfl rfl Xs rfl (Rw.rd hs.1 om)) rfl (oAl (λb2 _=>?_) Xj))
 refine aU3 ?_
 refine Qt [] QC ?_
 refine dQ 0 [] rfl (Qv rfl Qm5 rfl (λw1 h1=>c86 w1 4 om)) (dV 1 rfl (Q8 rfl rfl rfl (by(try simp only[List.length_append,List.length_cons,List.length_nil,List.length_replicate,List.length_take,List.length_drop]);omega)) (dP 2 ?_))
 refine dQ 3 [] rfl (Qv rfl Qcn rfl (λw1 h1=>by have h9:=c94 w1 (lsn) 4 om om;rw[Qij]at h9;exact h9)) (dV 4 rfl (Q8 rfl rfl rfl (by(try simp only[List.length_append,List.length_cons,List.length_nil,List.length_replicate,List.length_take,List.length_drop]);omega)) (dP 5 ?_))
 refine dQ 6 [] rfl (Qv rfl Qcn rfl (λw1 h1=>by have h9:=c94 w1 (num) 4 om om;rw[Qij]at h9;exact h9)) (dV 7 rfl (Q8 rfl rfl rfl (by(try simp only[List.length_append,List.length_cons,List.length_nil,List.length_replicate,List.length_take,List.length_drop]);omega)) (dFa 8 ?_))
 refine dLd 9 [] ?_
 refine dV 10 rfl (QS rfl rfl Tryz.underlying67) (dQ 11 [] rfl (Qv rfl Qcn rfl (λw1 h1=>by have h9:=c94 w1 (((nth L num.toNat).es.length:Int)) 2 om om;rw[Qg4]at h9;exact h9)) (dV 12 rfl (Q8 rfl rfl rfl (by(try simp only[List.length_append,List.length_cons,List.length_nil,List.length_replicate,List.length_take,List.length_drop]);omega)) (dQ 13 [] rfl (Qv rfl Qm5 rfl (λw1 h1=>c86 w1 46 om)) (dV 14 rfl (Q8 rfl rfl rfl (by(try simp only[List.length_append,List.length_cons,List.length_nil,List.length_replicate,List.length_take,List.length_drop]);omega)) (dLn 15 [] ?_)))))
 refine dQ 16 [] rfl (Qv rfl QtL rfl (λw1 h1=>c99 w1 (nth L num.toNat) ((hs.es hk).later h1) ((hs.cs hk).later h1) hp)) (dV 17 rfl (Q8 rfl rfl rfl (by(try simp only[List.length_append,List.length_cons,List.length_nil,List.length_replicate,List.length_take,List.length_drop]);omega)) (dP 18 ?_))
 refine dNi ?_
 refine aU ?_
 refine Qg (L':=[(3,_),(8,_),(10,_)]) aSx (λ_ h=>h) ?_
 refine aU3 ?_
 refine o_p (Qp rfl rfl Tryz.underlying9) rfl (Qh (show _=Value.int .i64 ((64+(Xy (nth L num.toNat).pl).length:Nat):Int)from congrArg (Value.int .i64) (by first|(simp only[List.length_append,List.length_replicate,l41,l21,List.length_cons,List.length_nil];done)|(simp only[List.length_append,List.length_replicate,l41,l21,List.length_cons,List.length_nil];omega))) (aT ?_))
 refine Qh (show _=Value.int .i64 ((448-(Xy (nth L num.toNat).pl).length:Nat):Int)from congrArg (Value.int .i64) om) (oCq rfl (λw1 h1=>c86 w1 (448-(Xy (nth L num.toNat).pl).length) om) (o_p (Q8 rfl rfl rfl (by(try simp only[List.length_append,List.length_cons,List.length_nil,List.length_replicate,List.length_take,List.length_drop]);omega)) rfl (Qh (show _=Value.string (bs (Qah (nth L num.toNat).pl num lsn))from rfl) (aU ?_))))
 refine oCq rfl (λw1 h1=>c103 w1 (Qah (nth L num.toNat).pl num lsn) usn (QaJ hcb) hu) (aU2 ?_)
 exact rV
theorem c39(w:World)(s:List UInt8)(num:Int)(hsl:s.length<=1000000):CE 39 #[.string (bs s),.int .i64 num] w [] (λg:LNd=>.tuple #[.agg #[.bool g.us,.slice g.ea g.es.length g.ec,.slice g.ca g.cs.length g.cc],.int .i64 (XN s num).lsn,.int .i64 (XN s num).usn,.int .i64 (XN s num).e]) (λg=>g.pl=(XN s num).n) λg=>[.ents 27 g.ea g.ec g.es,.kids g.ca g.cc g.cs]:=by
 refine eN2 Tryz.func39 Tryz.ntmps39 ?_
 refine aU2 ?_
 refine oAl (λb1 _=>?_) Xj
 refine aU6 ?_
 refine o_p (QF (cs:=[_,_,_]) rfl rfl QbP Xj rfl) rfl (oAl (λb2 _=>?_) Xj)
 refine aU6 ?_
 refine o_p (Qp rfl rfl Tryz.underlying9) rfl (aU2 ?_)
 refine sCd rfl (λh3=>?_) λh3=>?_
 ·have hR:XN s num=ndE 10:=QiN (by have hq:=h3;omega)
  refine aU8 ?_
  exact Qk (rs:=[.cell 4 69,.tmp 5,.tmp 6,.tmp 7]) rfl (.cell rfl Xs aPk rfl (.tmp rfl (.tmp rfl (.tmp rfl (.nil))))) (λw' h'=>⟨⟨false,none,0,[],none,0,[]⟩,by rw[hR];rfl,by rw[hR];rfl,((h'.nil.own_nil 3 1).own_nil 27 2).ent aEt⟩)
 have hs5:s.length=512:=by have hq:=h3;omega
 refine aU5 ?_
 refine oCq rfl (λw1 h1=>c40 w1 _ _ _) (aU2 ?_)
 refine sCd rfl (λh4=>?_) λh4=>?_
 ·have hR:XN s num=ndE 2:=QiA hs5 (by have hq:=h4;grind)
  refine aU8 ?_
  exact Qk (rs:=[.cell 4 69,.tmp 5,.tmp 6,.tmp 7]) rfl (.cell rfl Xs aPk rfl (.tmp rfl (.tmp rfl (.tmp rfl (.nil))))) (λw' h'=>⟨⟨false,none,0,[],none,0,[]⟩,by rw[hR];rfl,by rw[hR];rfl,((h'.nil.own_nil 3 1).own_nil 27 2).ent aEt⟩)
 have hn5:1<=num/\num<=120:=by have hq:=h4;grind
 refine aU4 ?_
 refine oCq rfl (λw1 h1=>c102 w1 s hs5) (Zx ?_)
 refine sCd rfl (λh5=>?_) λh5=>?_
 ·have ht:X2 s=true:=by have hq:=h5;grind
  have hR:=QfB hs5 hn5 ht
  refine aU8 ?_
  exact Qk (rs:=[.cell 4 69,.tmp 5,.tmp 6,.tmp 7]) rfl (.cell rfl Xs aPk rfl (.tmp rfl (.tmp rfl (.tmp rfl (.nil))))) (λw' h'=>⟨⟨false,none,0,[],none,0,[]⟩,by rw[hR];rfl,by rw[hR];rfl,((h'.nil.own_nil 3 1).own_nil 27 2).ent aEt⟩)
 have ht:X2 s=false:=by have hq:=h5;grind
 rw[ht]
 rw[if_neg Bool.false_ne_true]
 have hol9:=Y6 hs5
 obtain⟨o,ho⟩:∃o,o=Xa s:=⟨_,rfl⟩
 rw[<-ho]
 rw[<-ho]at hol9
 have hol:o.length=512:=hol9
 have hb2:=Qc9 o 16
 refine aU4 ?_
 refine oCq rfl (λw1 h1=>by have h9:=c72 w1 o (8) 4 om om om;rw[Z1,Qgk]at h9;exact h9) (aU ?_)
 refine oCq rfl (λw1 h1=>by have h9:=c72 w1 o (16) 2 om om om;rw[QcB,Qc1]at h9;exact h9) (aU5 ?_)
 refine o_p (QF (cs:=[_,_,_]) rfl rfl QbP Xj rfl) rfl (oAl (λb6 _=>?_) Xj)
 refine aU6 ?_
 refine Qg (L':=[(0,_),(1,_),(4,_),(5,_),(6,_),(7,_),(8,_),(9,_),(11,_),(12,_),(13,_),(14,_),(15,_)]) aSx (λ_ h=>h) ?_
 refine aU2 ?_
 refine oCq rfl (λw1 h1=>c40 w1 _ _ _) (aU ?_)
 refine XY (α:=LNd×Nat×Bool) [14,15,40,41,42,43,44,45,46] (λx=>[(14,.int .i64 (x.2.1:Int)),(15,.bool x.2.2)]) (λx=>HS w [] [.blk b6 69 3 (LNd.vals x.1),.ents 27 x.1.ea x.1.ec x.1.es,.kids x.1.ca x.1.cc x.1.cs,.blk b2 69 3 [.bool false,.slice none 0 0,.slice none 0 0],.blk b1 69 3 [.bool false,.slice none 0 0,.slice none 0 0]]) (λx=>x.2.2=(rdB o).isSome/\(∀nd e,rdB o=some (nd,e)->x.1.pl=nd/\x.2.1=e)) ?_ ?_
 ·skip
  refine sCd rfl (λh7=>?_) λh7=>?_
  ·have hct:1<=ub2 o 16/\ub2 o 16<=4:=by have hq:=h7;omega
   have hrb:=QoV hct
   refine aU3 ?_
   refine oCh rfl (λw1 h1=>c98 w1 o 64 (ub2 o 16) om om om) (λ⟨gn,gl⟩hgn=>aU8 ?_)
   exact Qo (gn,gl,(rdN o 64 (ub2 o 16)).isSome) ⟨by rw[hrb],λnd e h9=>hgn.1 nd e (by rw[<-hrb];exact h9)⟩ aSx (λw h=>h.ent aEt)
  have hrb:rdB o=none:=Qp5 (by have hq:=h7;omega)
  refine aU ?_
  exact Qo (⟨false,none,0,[],none,0,[]⟩,0,false) ⟨by rw[hrb];rfl,λnd e h9=>(by rw[hrb]at h9;cases h9)⟩ aSx (λw h=>((h.own_nil 3 1).own_nil 27 2).ent aEt)
 intro⟨gn,gl,gk⟩ ⟨hg8,hg9⟩
 dsimp only
 simp only[]at hg8 hg9
 refine aU6 ?_
 refine oOr 4 49 53 rfl
  (λhg8 _=>by
   refine aU3 ?_
   refine o_p (Z3 4 rfl rfl rfl Tryz.underlying9 rfl om) rfl (Qh (show _=Value.string (bs (o.take 4))from rfl) (aU2 ?_))
   exact oJf 4 53)
  (λhg10 _=>by
   refine aU3 ?_
   exact oJt 4 53) ?_
 refine aU ?_
 refine oOr 5 54 59 rfl
  (λhg12 _=>by
   refine aU3 ?_
   refine o_p (XP _ _ 4 8 rfl rfl Tryz.underlying9 ⟨_,_,rfl,rfl⟩ ⟨_,_,rfl,rfl⟩ om om) rfl (Qh (show _=Value.string (bs (Qz o 4 4))from by rw[Qbk (n:=4) rfl]) (aU ?_))
   refine oCq rfl (λw1 h1=>c53 w1 (Qz o 4 4) (by rw[Xn om];omega)) (aU2 ?_)
   exact oJf 5 59)
  (λhg14 _=>by
   refine aU4 ?_
   exact oJt 5 59) ?_
 refine aU ?_
 refine oOr 4 60 64 rfl
  (λhg16 _=>by
   refine aU3 ?_
   refine oCq rfl (λw1 h1=>c35 w1 _) (aU2 ?_)
   exact oJf 4 64)
  (λhg18 _=>by
   refine aU3 ?_
   exact oJt 4 64) ?_
 refine aU ?_
 refine oOr 5 65 70 rfl
  (λhg20 _=>by
   refine aU3 ?_
   refine oCq rfl (λw1 h1=>by have h9:=c72 w1 o (12) 4 om om om;rw[Z1,Qgk]at h9;exact h9) (aU4 ?_)
   exact oJf 5 70)
  (λhg22 _=>by
   refine aU4 ?_
   exact oJt 5 70) ?_
 refine aU ?_
 refine oOr 5 71 76 rfl
  (λhg24 _=>by
   refine aU3 ?_
   refine o_p (XP _ _ 18 40 rfl rfl Tryz.underlying9 ⟨_,_,rfl,rfl⟩ ⟨_,_,rfl,rfl⟩ om om) rfl (Qh (show _=Value.string (bs (Qz o 18 22))from by rw[Qbk (n:=22) rfl]) (aU ?_))
   refine oCq rfl (λw1 h1=>c53 w1 (Qz o 18 22) (by rw[Xn om];omega)) (aU2 ?_)
   exact oJf 5 76)
  (λhg26 _=>by
   refine aU4 ?_
   exact oJt 5 76) ?_
 refine aU ?_
 refine oOr 5 77 82 rfl
  (λhg28 _=>by
   refine aU3 ?_
   refine o_p (XP _ _ 58 64 rfl rfl Tryz.underlying9 ⟨_,_,rfl,rfl⟩ ⟨_,_,rfl,rfl⟩ om om) rfl (Qh (show _=Value.string (bs (Qz o 58 6))from by rw[Qbk (n:=6) rfl]) (aU ?_))
   refine oCq rfl (λw1 h1=>c53 w1 (Qz o 58 6) (by rw[Xn om];omega)) (aU2 ?_)
   exact oJf 5 82)
  (λhg30 _=>by
   refine aU4 ?_
   exact oJt 5 82) ?_
 refine aU ?_
 refine oOr 6 83 89 rfl
  (λhg32 _=>by
   refine aU4 ?_
   have hq9:=hg32
   have hgl:gl<=512:=by have hgk:gk=true:=(by grind);rw[hg8]at hgk;obtain⟨⟨n9,e9⟩,hrd⟩:=Option.isSome_iff_exists.1 hgk;obtain⟨_,e⟩:=hg9 _ _ hrd;have h3:=(Qba hol hrd).2.2.1;omega
   refine aU ?_
   refine o_p (Zj gl rfl rfl rfl Tryz.underlying9 rfl om) rfl (aU ?_)
   refine oCq rfl (λw1 h1=>c53 w1 (o.drop gl) (by rw[List.length_drop];omega)) (aU2 ?_)
   exact oJf 6 89)
  (λhg34 _=>by
   refine aU5 ?_
   exact oJt 6 89) ?_
 refine aU ?_
 refine sCd rfl (λh36=>?_) λh36=>?_
 ·have hR:XN s num=ndE 3:=by cases hr:rdB o with|none=>exact QeK hs5 hn5 ht (by rw[<-ho];exact hr)|some q=>(obtain⟨n9,e9⟩:=q;obtain⟨_,hp9⟩:=hg9 _ _ hr;rw[Qdj hs5 hn5 ht (by rw[<-ho];exact hr),if_neg];rw[<-ho];intro h9;have hq:=h36;rw[hg8,hr]at hq;simp only[QgH,Bool.and_eq_true,decide_eq_true_eq]at h9;obtain⟨⟨a1,a2,a3,a4,a5,a6⟩,a7⟩:=h9;rw[hp9]at hq;have a0:List.take 4 o=[73,78,68,88]:=a1;simp[a0,a2,a4,a5,a6,a7]at hq;omega)
  refine aU ?_
  refine Qg (L':=[(0,_),(4,_),(5,_),(6,_),(7,_),(8,_),(11,_),(13,_)]) aSx (λ_ h=>h) ?_
  refine aU7 ?_
  exact Qk (rs:=[.cell 4 69,.tmp 5,.tmp 6,.tmp 7]) rfl (.cell rfl Xs aPk rfl (.tmp rfl (.tmp rfl (.tmp rfl (.nil))))) (λw' h'=>⟨⟨false,none,0,[],none,0,[]⟩,by rw[hR];rfl,by rw[hR];rfl,((h'.nil.own_nil 3 1).own_nil 27 2).ent aEt⟩)
 obtain⟨⟨n9,e9⟩,hrd⟩:∃q,rdB o=some q:=Option.isSome_iff_exists.1 (by rw[<-hg8];have hq:=h36;grind)
 obtain⟨hpl9,hl9⟩:=hg9 _ _ hrd
 have hR:XN s num=⟨n9,(ub4 o 8:Int),(ub2 s 40:Int),0⟩:=by rw[Qdj hs5 hn5 ht (by rw[<-ho];exact hrd),if_pos];(rw[<-ho]);rw[<-ho];have hq:=h36;rw[hl9]at hq;simp only[QgH,Bool.and_eq_true,decide_eq_true_eq];obtain⟨⟨⟨⟨⟨⟨⟨q1,q2⟩,q3⟩,q4⟩,q5⟩,q6⟩,q7⟩,q8⟩:=hq;exact⟨⟨q2,q3,om,q5,q6,q7⟩,q8⟩
 refine aU2 ?_
 refine Qg (L':=[(0,_),(4,_),(5,_),(6,_),(7,_),(11,_),(13,_)]) aSx (λ_ h=>h) ?_
 refine Qt [4] QC ?_
 refine dLn 0 [[]] ?_
 refine dP 1 ?_
 refine dP 2 ?_
 refine dQ 3 [[]] rfl (Qv rfl Qty rfl (λw1 h1=>by have h9:=c72 w1 s (40) 2 om om om;rw[QcB,Qc1]at h9;exact h9)) (dSt 4 ?_ (hl:=(by simp only[Qm,List.length_set,List.length_cons,List.length_nil,List.length_map];omega)))
 refine dTu [] ?_
 refine dP 5 ?_
 refine dP 6 ?_
 refine dP 7 ?_
 refine dNi ?_
 exact Qk (rs:=[.cell 4 69,.tmp 5,.tmp 6,.tmp 7]) rfl (.cell rfl Xs aPk rfl (.tmp rfl (.tmp rfl (.tmp rfl (.nil))))) (λw' h'=>⟨gn,by rw[hR];rfl,by rw[hR];exact hpl9,h'.ent aEt⟩)
instance:TFn Tryz.prog 39:=⟨by kernel_rfl⟩
instance:TFn Tryz.prog 41:=⟨by kernel_rfl⟩
theorem QpE{m:Nd}{num lsn usn:Int}(h:(Xy m).length<=448):(Qak m num lsn usn).length=512:=QbS (QaJ h)
end Go.Proofs
namespace Gx
open Go Go.RowKit
theorem QtU(n:Nat)(h:n<256):bits .and .u8 (n:Int) 1=((n%2:Nat):Int):=by
 have:∀k<256,bits .and .u8 ((k:Nat):Int) 1=((k%2:Nat):Int):=by decide +kernel
 exact this n h
theorem Qsi(n m:Nat):(n:Int)/2^m=((n/2^m:Nat):Int):=by grind
theorem QgP(bm:List UInt8)(j:Nat):decide (bits .and .u8 (((ub1 bm (j/8):Nat):Int)/2^(j%8)) 1=1)=Qao bm j:=by
 have hb:=YG bm (j/8);have hd:ub1 bm (j/8)/2^(j%8)<256:=Nat.lt_of_le_of_lt (Nat.div_le_self _ _) hb;rw[Qsi,QtU _ hd];unfold Qao;exact decide_eq_decide.2 om
theorem Qsr(bm:List UInt8)(j:Nat):decide (((ub1 bm (j/8):Nat):Int)/((2^(j%8):Nat):Int)%2=1)=Qao bm j:=by grind[Qao]
theorem QqT{bm:List UInt8}{j:Nat}(h:bm.length<=j/8):Qao bm j=false:=by simp_all[Qao,ub1]
end Gx
namespace Go.Proofs
open Go Go.RowKit Gx
attribute [local irreducible] Go.Calls Gx.S Gx.O Gx.D Gx.OpP Gx.OpQ Gx.OpH
set_option maxRecDepth 20000
instance:TFd Tryz.prog 108 0 0 23:=⟨by kernel_rfl⟩
theorem Qa8:tsz Tryz.prog 23=some (3,true):=by kernel_rfl
instance:TSz Tryz.prog 23 3 true:=⟨Qa8⟩
instance:TFd Tryz.prog 23 1 1 9:=⟨by kernel_rfl⟩
theorem YT:tsz Tryz.prog 108=some (7,true):=by kernel_rfl
instance:TSz Tryz.prog 108 7 true:=⟨YT⟩
theorem QgC:QY Tryz.prog 113=true:=by kernel_rfl
instance:TFn Tryz.prog 113:=⟨QgC⟩
instance:TFd Tryz.prog 23 2 2 9:=⟨by kernel_rfl⟩
theorem c78(w:World):CR 78 #[] w (.string (bs QeM)):=by
 refine eN0 Tryz.func78 Tryz.ntmps78 ?_
 refine aU6 ?_
 refine o_h (Qfc (n:=512) rfl rfl rfl Q0 Qap om om) rfl (λb1 _=>o_q (YC rfl rfl Tryz.underlying139 Tryz.underlying9 Tryz.underlying5 aPk (by simp[Q6]) (by intro v hv;rw[Qeo]at hv;exact Zy _ v hv)) rfl (aU2 ?_))
 exact rV (h:=by rw[Qeo,Y4];rfl)
theorem Qk5(w:World)(x:Ixs)(co mo rm:Int)(ra:Option Addr)(rn rc:Nat)(hl:x.al.length<=1000000000):CR 113 #[.agg #[.string (bs x.ro),.string (bs x.al),.string (bs x.bm),.int .i64 co,.int .i64 mo,.int .i64 rm,.slice ra rn rc]] w (.int .i64 ((x.n:Nat):Int)):=by
 refine eN1 Tryz.func113 Tryz.ntmps113 ?_
 refine aU2 ?_
 refine oBx λb1 _=>?_
 refine aU7 ?_
 refine o_p (Qp rfl rfl Tryz.underlying9) rfl (o_p (XQ rfl rfl rfl om om om) rfl (aU2 ?_))
 exact rV
theorem c64(w:World)(x:Ixs)(co mo rm:Int)(ra:Option Addr)(rn rc:Nat)(i:Nat)(hl:x.al.length<=1000000000)(hi:1<=i/\i*512<=x.al.length):CR 64 #[.agg #[.string (bs x.ro),.string (bs x.al),.string (bs x.bm),.int .i64 co,.int .i64 mo,.int .i64 rm,.slice ra rn rc],.int .i64 (i:Int)] w (.string (bs (x.blk i))):=by
 refine eN2 Tryz.func64 Tryz.ntmps64 ?_
 refine aU2 ?_
 refine oBx λb1 _=>?_
 refine aT9 ?_
 refine aT ?_
 refine aT2 ?_
 refine o_p (XP _ _ ((i-1)*512) (i*512) rfl rfl Tryz.underlying9 ⟨_,_,rfl,om⟩ ⟨_,_,rfl,om⟩ om om) rfl (aU2 ?_)
 exact rV (h:=by rw[Qbk (n:=512) om];rfl)
theorem c66(w:World)(x:Ixs)(hl:x.al.length<=1000000000):CR 66 #[.agg #[.string (bs x.ro),.string (bs x.al),.string (bs x.bm)]] w (.int .i64 ((x.n:Nat):Int)):=by
 refine eN1 Tryz.func66 Tryz.ntmps66 ?_
 refine aU2 ?_
 refine oBx λb1 _=>?_
 refine aU6 ?_
 refine o_p (Qp rfl rfl Tryz.underlying9) rfl (o_p (XQ rfl rfl rfl om om om) rfl (aU2 ?_))
 exact rV
theorem c69(w:World)(x:Ixs)(i:Nat)(hl:x.al.length<=1000000000)(hi:1<=i/\i*512<=x.al.length):CR 69 #[.agg #[.string (bs x.ro),.string (bs x.al),.string (bs x.bm)],.int .i64 (i:Int)] w (.string (bs (x.blk i))):=by
 refine eN2 Tryz.func69 Tryz.ntmps69 ?_
 refine aU2 ?_
 refine oBx λb1 _=>?_
 refine aT8 ?_
 refine aT ?_
 refine aT2 ?_
 refine o_p (XP _ _ ((i-1)*512) (i*512) rfl rfl Tryz.underlying9 ⟨_,_,rfl,om⟩ ⟨_,_,rfl,om⟩ om om) rfl (aU2 ?_)
 exact rV (h:=by rw[Qbk (n:=512) om];rfl)
theorem c135(w:World)(m:Nat)(hm:m<=8):CR 135 #[.int .i64 (m:Int)] w (.int .i64 ((2^m:Nat):Int)):=by
 refine eN1 Tryz.func135 Tryz.ntmps135 ?_
 refine aU7 ?_
 refine o_p (QgK rfl rfl rfl om m (by show min _ 64=_;omega)) rfl (aU2 ?_)
 exact rV (h:=by have h9:m=0\/m=1\/m=2\/m=3\/m=4\/m=5\/m=6\/m=7\/m=8:=om;rcases h9 with rfl|rfl|rfl|rfl|rfl|rfl|rfl|rfl|rfl<;>rfl)
theorem c61(w:World)(x:Ixs)(co mo rm:Int)(ra:Option Addr)(rn rc:Nat)(i:Nat)(hl:x.al.length<=1000000000)(hb:x.n<=8*x.bm.length):CR 61 #[.agg #[.string (bs x.ro),.string (bs x.al),.string (bs x.bm),.int .i64 co,.int .i64 mo,.int .i64 rm,.slice ra rn rc],.int .i64 (i:Int)] w (.bool (ZZ x i)):=by
 have hn9:x.n<=x.al.length:=Nat.div_le_self _ _
 refine eN2 Tryz.func61 Tryz.ntmps61 ?_
 refine aU2 ?_
 refine oBx λb1 _=>?_
 refine aU6 ?_
 refine oCq rfl (λw1 h1=>Qk5 w1 x co mo rm ra rn rc hl) (oCq rfl (λw1 h1=>c87 w1 _ _ _) (aU ?_))
 refine XF 14 9 23 rfl
  (λhg2 _=>by
   refine Qhi ?_
   refine aU ?_
   refine o_p (XQ rfl rfl rfl om om om) rfl (aU ?_)
   refine o_p (XO rfl rfl rfl Tryz.underlying9 ((i-1)/8) om om) rfl ?_
   refine Qh (show _=Value.int .u8 ((ub1 x.bm ((i-1)/8):Nat):Int)from rfl) (aT4 ?_)
   refine aU ?_
   refine o_p (Zd rfl rfl rfl om om) rfl (aU ?_)
   refine o_p (Qed rfl rfl rfl om ((i-1)%8) (by show min _ 8=_;omega)) rfl (aU4 ?_)
   exact oJt 14 23)
  (λhg4 _=>by
   refine Qau ?_
   exact oJf 14 23) ?_
 refine aU2 ?_
 exact rV (h:=by simp only[Xf,ZZ];rw[QgP];congr 3;rw[<-Bool.decide_and];exact decide_eq_decide.2 om)
instance:TFn Tryz.prog 135:=⟨by kernel_rfl⟩
theorem QuR(i:Nat):1<=2^(i%8)/\2^(i%8)<=128:=by
  have h:i%8=0\/i%8=1\/i%8=2\/i%8=3\/i%8=4\/i%8=5\/i%8=6\/i%8=7:=om
  rcases h with h|h|h|h|h|h|h|h<;>rw[h]<;>decide
theorem c67(w:World)(x:Ixs)(i:Nat)(hi:1<=i/\i<=1000000)(hb:x.bm.length<=1000000):CR 67 #[.agg #[.string (bs x.ro),.string (bs x.al),.string (bs x.bm)],.int .i64 (i:Int)] w (.bool (Qao x.bm (i-1))):=by
 have hpw:=QuR (i-1)
 have hbl:=YG x.bm ((i-1)/8)
 have hdv:ub1 x.bm ((i-1)/8)/2^((i-1)%8)<=ub1 x.bm ((i-1)/8):=Nat.div_le_self _ _
 refine eN2 Tryz.func67 Tryz.ntmps67 ?_
 refine aU2 ?_
 refine oBx λb1 _=>?_
 refine aT6 ?_
 refine Qh (show _=Value.int .i64 ((i-1:Nat):Int)from congrArg (Value.int .i64) om) (aU5 ?_)
 refine o_p (XQ rfl rfl rfl om om om) rfl (Qh (show _=Value.int .i64 (((i-1)/8:Nat):Int)from congrArg (Value.int .i64) om) (aU2 ?_))
 refine o_p (Qp rfl rfl Tryz.underlying9) rfl (aU2 ?_)
 refine XF 12 14 26 rfl
  (λhg2 _=>by
   refine aU7 ?_
   refine o_p (XQ rfl rfl rfl om om om) rfl (Qh (show _=Value.int .i64 (((i-1)/8:Nat):Int)from congrArg (Value.int .i64) om) (aU ?_))
   refine oCq rfl (λw1 h1=>by have h9:=c72 w1 x.bm ((i-1)/8) 1 om om om;rw[QdR,Qjt]at h9;exact h9) (aU3 ?_)
   refine o_p (Zd rfl rfl rfl om om) rfl (Qh (show _=Value.int .i64 (((i-1)%8:Nat):Int)from congrArg (Value.int .i64) om) (aU ?_))
   refine oCq rfl (λw1 h1=>c135 w1 ((i-1)%8) om) (aU ?_)
   refine o_p (XQ rfl rfl rfl om om om) rfl (Qh (show _=Value.int .i64 ((ub1 x.bm ((i-1)/8)/2^((i-1)%8):Nat):Int)from congrArg (Value.int .i64) (Int.natCast_ediv _ _).symm) (aU ?_))
   refine o_p (QrT rfl rfl rfl (by decide)) rfl (aU2 ?_)
   exact oJt 12 26)
  (λhg4 _=>by
   refine Zl ?_
   exact oJf 12 26) ?_
 refine aU2 ?_
 exact rV (h:=by simp only[Xf];congr 2;by_cases hq9:(i-1)/8<x.bm.length;rw[show decide ((((i-1)/8:Nat):Int)<(x.bm.length:Int))=true from decide_eq_true om,Bool.true_and,<-Qsr];rfl;rw[show decide ((((i-1)/8:Nat):Int)<(x.bm.length:Int))=false from decide_eq_false om,Bool.false_and,QqT om])
end Go.Proofs
