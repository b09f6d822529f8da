/- Contracts of the program's functions, proved by walking them with the rules of the Gx texts; without conditions beyond those that each contract names. -/
import Derived.WalkKit
import Derived.Deep.Draws
import Derived.TacticsIn
import Derived.OrdersIn
import Derived.RangeFuncLeaves
import Derived.Lib.Strings
import Derived.Laws.BytesArg
import Derived.Laws.IdiomStrings
import Derived.Deep.Quiet
import Derived.Laws.StructEq
import Derived.ChangeKeysEq
import Derived.Laws.Externs
import Derived.Lib.Overlaps
import Derived.Carry
import Derived.Laws.Small
import Derived.Lib.Bytealg
import Derived.Lib.Builder
import Derived.Laws.Pointers
import Derived.RangeFuncRecord
import Derived.Test.YtldegbfcaelpdaaGreatProg
import Derived.KernelRfl
import Derived.ProofKit
import Derived.OpenShut
import Derived.Lib.UnsafeStr
import Derived.LaidEqlPtr
import Derived.Shelf.Strings.Builder1
import Derived.Shelf.Strings.Builder2
import Derived.Shelf.Small.Strs
import Derived.Shelf.Strings.BuilderF
import Derived.Shelf.Strings.Prefix
import Derived.Shelf.Bits.Mul64
import Derived.Shelf.Strings.Repeat
import Derived.Shelf.Slices.Reverse
import Derived.Ground.Names2Prog
import Derived.Shelf.Slices.Clone
import Derived.Shelf.Slices.Cells
import Derived.Ground.SlgnProg
import Derived.Shelf.SlicesE.Clone
import Derived.Test.YtldegbfcaelpdaaGreatP0
set_option linter.unusedSimpArgs false
set_option maxHeartbeats 1000000
set_option linter.unusedVariables false
set_option linter.unusedSectionVars false
set_option linter.unnecessarySimpa false
namespace Gx
open Go Go.RowKit
structure TOk(co:Int)(ns:List Nd):Prop where
 kid:∀i,i<ns.length->∀c∈(nth ns i).cs,(1<=c/\c<=(ns.length:Int)-1)/\(nth ns c.toNat).us=true
 once:(ns.flatMap Nd.cs).Nodup
 shape:∀i,i<ns.length->(nth ns i).cs.length=0\/(nth ns i).cs.length=(nth ns i).es.length+1
 free:∀i,i<ns.length->(nth ns i).us=false->(0<i/\i+1<ns.length)/\(nth ns i).es=[]/\(nth ns i).cs=[]
 asc:∀i,i<ns.length->Asc co (nth ns i).es
 ents:∀i,i<ns.length->∀x∈(nth ns i).es,XP co x=0
theorem QiF{ns:List Nd}:∀{cs seen:List Int},(X7 ns cs seen).1=0->(∀c∈cs,(1<=c/\c<=(ns.length:Int)-1)/\(nth ns c.toNat).us=true)/\(X7 ns cs seen).2=cs.reverse++seen/\(seen.Nodup->(cs.reverse++seen).Nodup)
 | [],seen,_=>⟨λc hc=>(nomatch hc),rfl,λh=>h⟩
 | c::cs,seen,h=>by
  unfold X7 at h ⊢;split at h
  ·rename_i h1;split at h
   ·cases h
   ·rename_i h2;rw[if_pos h1,if_neg h2];obtain⟨h3,h4,h5⟩:=QiF h
    grind
  ·cases h
theorem Qks{t:Tre}{i:Nat}{seen:List Int}(h:(XX t i seen).1=0) :
  ((nth t.ns i).us=true->(∀c∈(nth t.ns i).cs,(1<=c/\c<=(t.ns.length:Int)-1)/\(nth t.ns c.toNat).us=true)/\((nth t.ns i).es.length:Int)<=YD t.mo t.rm i/\((nth t.ns i).cs.length=0\/(nth t.ns i).cs.length=(nth t.ns i).es.length+1)/\Zn t.co (nth t.ns i).es=0/\Qaw t.co (nth t.ns i).es=0) /\
  ((nth t.ns i).us=false->(0<i/\i+1<t.ns.length)/\(nth t.ns i).es=[]/\(nth t.ns i).cs=[]) /\
  (XX t i seen).2=(nth t.ns i).cs.reverse++seen/\(seen.Nodup->((nth t.ns i).cs.reverse++seen).Nodup):=by
 unfold XX at h ⊢;simp only[]at h ⊢;split at h
 ·rename_i hu;split at h
  ·rename_i h1;split at h
   ·rename_i h2;split at h
    ·rename_i h3;split at h
     ·rename_i h4;obtain⟨k1,k2,k3⟩:=QiF h4;rw[if_pos hu,if_pos h1,if_pos h2,if_pos h3,if_pos h4];exact⟨λ_=>⟨k1,h1,h2,h3,h⟩,λhf=>absurd (hu.symm.trans hf) (by decide),k2,k3⟩
     ·rename_i h4;exact absurd h h4
    ·rename_i h3;exact absurd h h3
   ·cases h
  ·cases h
 ·rename_i hu;split at h
  ·rename_i h1;obtain⟨h2,h3⟩:=h1;have e1:(nth t.ns i).es=[]:=List.eq_nil_of_length_eq_zero om;have e2:(nth t.ns i).cs=[]:=List.eq_nil_of_length_eq_zero om;rw[if_neg hu,if_pos ⟨h2,h3⟩,e2];exact⟨λh9=>absurd h9 hu,λ_=>⟨h2,e1,rfl⟩,rfl,λh9=>h9⟩
  ·cases h
theorem QfC{t:Tre}:∀{f i:Nat}{seen:List Int},i+f=t.ns.length->(X5 t f i seen).2=0->seen.Nodup->(∀j,i<=j->j<t.ns.length->∃s,(XX t j s).1=0)/\((seen.reverse++(t.ns.drop i).flatMap Nd.cs)).Nodup
 | 0,i,seen,hi,h,hs=>by grind
 | f+1,i,seen,hi,h,hs=>by
  unfold X5 at h;split at h
  ·rename_i h1;obtain⟨h2,h3,h4,h5⟩:=Qks h1;obtain⟨h6,h7⟩:=QfC (f:=f) (i:=i+1) om h (by rw[h4];exact h5 hs);refine⟨λj hj1 hj2=>?_,?_⟩
   ·grind
   ·rw[h4,List.reverse_append,List.reverse_reverse,List.append_assoc]at h7;rw[List.drop_eq_getElem_cons (show i<t.ns.length by omega),List.flatMap_cons];have e:t.ns[i]=nth t.ns i:=(QP (List.getElem?_eq_getElem om)).symm;rw[e];exact h7
  grind
theorem Qj1{co:Int}{es:List TEnt}(h:Zn co es=0):∀x∈es,XP co x=0:=λx hx=>QaV.1 h _ (List.mem_map.2 ⟨x,hx,rfl⟩)
theorem QaK{t:Tre}(h:(X5 t t.ns.length 0 []).2=0):TOk t.co t.ns:=by
 obtain⟨h1,h2⟩:=QfC (f:=t.ns.length) (i:=0) om h List.nodup_nil;have key:=λi(hi:i<t.ns.length)=>Qks (h1 i (Nat.zero_le _) hi).choose_spec;have hF:∀i,i<t.ns.length->(nth t.ns i).us=false->(0<i/\i+1<t.ns.length)/\(nth t.ns i).es=[]/\(nth t.ns i).cs=[]:=λi hi=>(key i hi).2.1;refine⟨λi hi c hc=>?_,by simpa using h2,λi hi=>?_,hF,λi hi=>?_,λi hi x hx=>?_⟩
 ·grind
 ·grind
 ·cases e:(nth t.ns i).us with
  | true=>exact Qmf ((key i hi).1 e).2.2.2.2
  | false=>
   rw[(hF i hi e).2.1];intro k hk
   grind
 grind[nth,Qj1,hi]
theorem Qgr{α:Type}:∀{A B:List α}{x:α},(A++B).Nodup->x∈A->x∈B->False:=λh h1 h2=>(List.nodup_append.1 h).2.2 _ h1 _ h2 rfl
theorem Qbq{α β:Type}[Inhabited α]{f:α->List β}:∀{l:List α},(l.flatMap f).Nodup->∀{i j:Nat}{c:β},i<l.length->j<l.length->c∈f (nth l i)->c∈f (nth l j)->i=j
 | [],_,i,j,c,hi,_,_,_=>absurd hi (Nat.not_lt_zero _)
 | x::l,h,i,j,c,hi,hj,h1,h2=>by
  rw[List.flatMap_cons]at h;have hm:∀k,k<l.length->c∈f (nth l k)->c∈l.flatMap f:=λk hk hc=>List.mem_flatMap.2 ⟨_,QQ hk,hc⟩;cases i with
  | zero=>
   cases j with
   | zero=>rfl
   | succ j=>exact(Qgr h h1 (hm j (by simpa using hj) h2)).elim
  | succ i=>
   cases j with
   | zero=>exact(Qgr h h2 (hm i (by simpa using hi) h1)).elim
   | succ j=>rw[Qbq (List.nodup_append.1 h).2.1 (by simpa using hi) (by simpa using hj) h1 h2]
theorem Qe1{α β:Type}[Inhabited α]{f:α->List β}:∀{l:List α},(l.flatMap f).Nodup->∀{i:Nat},i<l.length->(f (nth l i)).Nodup
 | [],_,i,hi=>absurd hi (Nat.not_lt_zero _)
 | x::l,h,i,hi=>by
  rw[List.flatMap_cons]at h;cases i with
  | zero=>exact(List.nodup_append.1 h).1
  | succ i=>exact Qe1 (List.nodup_append.1 h).2.1 (by simpa using hi)
def Way(ns:List Nd):List Nat->Prop
 | []=>False
 | [r]=>r=0
 | c::p::P=>((c:Int)∈(nth ns p).cs/\p<ns.length)/\Way ns (p::P)
theorem ZK{co:Int}{ns:List Nd}(ht:TOk co ns)(h0:0<ns.length):∀{P:List Nat},Way ns P->∀x∈P,x<ns.length
 | [],h,_,_=>h.elim
 | [r],h,x,hx=>by
  rw[List.mem_singleton.1 hx,show r=0 from h];exact h0
 | c::p::P,h,x,hx=>by
  rcases List.mem_cons.1 hx with rfl|hx
  ·have:=(ht.kid p h.1.2 _ h.1.1).1;omega
  ·exact ZK ht h0 h.2 x hx
theorem QjM{ns:List Nd}:∀{P:List Nat},Way ns P->∀j,j+1<P.length->((nth P j:Nat):Int)∈(nth ns (nth P (j+1))).cs/\nth P (j+1)<ns.length
 | [],h,_,_=>h.elim
 | [r],h,j,hj=>absurd hj (by simp)
 | c::p::P,h,0,hj=>h.1
 | c::p::P,h,j+1,hj=>QjM h.2 j (by simpa using hj)
theorem QhV{ns:List Nd}:∀{P:List Nat},Way ns P->nth P (P.length-1)=0
 | [],h=>h.elim
 | [r],h=>h
 | c::p::P,h=>by
  have h1:=QhV h.2
  grind[nth]
theorem QgB{co:Int}{ns:List Nd}(ht:TOk co ns):∀{P:List Nat},Way ns P->P.Nodup
 | [],h=>h.elim
 | [r],h=>by simp
 | c::p::P,h=>by
  have h1:=QgB ht h.2;refine List.nodup_cons.2 ⟨λhc=>?_,h1⟩;obtain⟨j,hj,e⟩:=List.getElem_of_mem hc;have e2:nth (p::P) j=c:=QP (by rw[List.getElem?_eq_getElem hj,e]);have hk:=ht.kid p h.1.2 _ h.1.1;rcases Nat.lt_or_ge (j+1) (p::P).length with h2|h2
  ·have h3:=QjM h.2 j h2;rw[e2]at h3;have h4:=Qbq ht.once h.1.2 h3.2 h.1.1 h3.1
   have h5:(p::P)[0]?=(p::P)[j+1]?:=by
    rw[QY h2,<-h4];rfl
   have:=(List.getElem?_inj (by simp) h1).1 h5;omega
  ·have h3:=QhV h.2
   grind
theorem Qfa:∀(n:Nat)(l:List Nat),l.Nodup->(∀x∈l,x<n)->l.length<=n
 | 0,l,_,h=>by
  cases l with
  | nil=>exact Nat.le_refl _
  | cons x l=>exact absurd (h x (List.mem_cons_self ..)) (Nat.not_lt_zero _)
 | n+1,l,hd,h=>by
  have h1:=Qfa n (l.erase n) (hd.erase n) (λx hx=>by
   have h2:=(hd.mem_erase_iff).1 hx;have:=h x h2.2;omega)
  have h2:=List.length_erase_le (a:=n) (l:=l);rw[List.length_erase]at h1;split at h1<;>omega
theorem XW{co:Int}{ns:List Nd}(ht:TOk co ns)(h0:0<ns.length){P:List Nat}(h:Way ns P):P.length<=ns.length:=Qfa _ _ (QgB ht h) (ZK ht h0 h)
end Gx
namespace Gx
open Go Go.RowKit
theorem QiM:∀a b,Lib.compareBytes a b=X2 a b
 | [],[]=>rfl
 | [],_::_=>rfl
 | _::_,[]=>rfl
 | a::x,b::y=>by
  unfold Lib.compareBytes X2;rw[QiM x y]
section
variable{P:Program}{o:Oper}{L:Qk}
def isCS(P:Program)(f:FuncId):Prop:=∃fn,P.funcs[f]?=some fn/\(fn.name== "runtime.NumGoroutine")=false/\fn.body.isNone=true/\Extern.findNext fn=none/\Extern.find fn=some Extern.BytealgCompare.compare
theorem Qii{f:FuncId}{x y:Operand}{a b:List UInt8}{at':Array TypeId}{C:World->Prop}(ho:o.op=.call {callee:=.value (.func f),args:=#[x,y],argTypes:=at'})(hx:ev L x=some (.string (bs a)))(hy:ev L y=some (.string (bs b)))(hf:isCS P f):OpQ P o L C (.int .i64 (X2 a b)):=by
 intro ρ w hρ hw;obtain⟨fn,h1,h2,h3,h4,h5⟩:=hf;have hcall:=run_callFunc_extern h1 h2 h3 h4 h5 #[.string (bs a),.string (bs b)] w;rw[Lib.run_compareString,bs_data,bs_data,QiM]at hcall
 have:(execOp ρ o).run P w=.ok (.value (.int .i64 (X2 a b))) w:=by
  unfold execOp;simp only[ho,resolve,Sem.run_bind,hρ (.func f) _ rfl,Deferred.ofValue,Sem.run_pure,Result.andThen_ok,invoke,List.map_toArray,List.map_cons,List.map_nil,hρ _ _ hx,hρ _ _ hy,Array.empty_append,Array.append_empty,hcall]
 rw[this];exact⟨rfl,Below.refl _ _⟩
end
end Gx
namespace Gx
open Go Go.RowKit
theorem HS.own_at{w0 w:World}{M:List Nat}{As As':List HA}{g n n' cap t sz:Nat}{xs:List Value}(h:HS w0 M As w)(hp:QC As (.own (.slice (some ⟨g,0,none⟩) n' cap) t sz n xs) As'):HS w0 M (.blk g t (cap*sz) xs::As') w:=by
 have h1:=h.pick hp;refine h1.turn (λb hb=>by simpa[HA.fp_own,HA.fp_blk,Value.ownBlock]using hb) λho=>?_;obtain⟨_,⟨e,_⟩|⟨g',cap',e,_,_,hb⟩⟩:=ho
 ·grind
 ·injection e with e1 e2 e3
  injection e1 with e1
  injection e1 with e1
  subst e1 e3;exact hb
end Gx
namespace Gx
open Go Go.RowKit
section
variable{S:Type}(st:S->Vis->S)(er:S->Vis->Int×Int)
def XK:S->List Vis->(Int×Int)×S
 | s,[]=>((0,0),s)
 | s,v::vs=>if(er s v).2=0 then XK (st s v) vs else(er s v,st s v)
theorem QbH:∀(A B:List Vis)(s:S),XK st er s (A++B)=if(XK st er s A).1.2=0 then XK st er (XK st er s A).2 B else XK st er s A
 | [],B,s=>rfl
 | v::A,B,s=>by
  rw[List.cons_append,XK,XK]
  by_cases h:(er s v).2=0
  ·simp_all[QbH]
  grind
theorem Qna{A B:List Vis}{s:S}(h:¬(XK st er s A).1.2=0):XK st er s (A++B)=XK st er s A:=by rw[QbH,if_neg h]
theorem Qkh{A B:List Vis}{s:S}(h:(XK st er s A).1.2=0):XK st er s (A++B)=XK st er (XK st er s A).2 B:=by rw[QbH,if_pos h]
theorem Qnf:∀{A:List Vis}{s:S},(XK st er s A).1.2=0->(XK st er s A).1=(0,0)
 | [],s,_=>rfl
 | v::A,s,h=>by
  rw[XK]at h ⊢;split at h
  ·simp_all[Qnf]
  grind
end
def XT(ns:List Nd)(v:Vis)(k:Nat):Vis:=⟨((nth ns v.i).cs.getD k 0).toNat,v.d+1,loK (nth ns v.i).es k v.lo,hiK (nth ns v.i).es k v.hi⟩
def Qau(ns:List Nd)(f:Nat)(v:Vis)(k:Nat):List Vis:=v::(List.range k).flatMap λk=>vis ns f (XT ns v k)
theorem Qjz(ns:List Nd)(f:Nat)(v:Vis):Qau ns f v 0=[v]:=rfl
theorem X1(ns:List Nd)(f:Nat)(v:Vis)(k:Nat):Qau ns f v (k+1)=Qau ns f v k++vis ns f (XT ns v k):=by
 unfold Qau;rw[List.range_succ,List.flatMap_append,List.flatMap_singleton];rfl
theorem Y2(ns:List Nd)(f:Nat)(v:Vis):vis ns (f+1) v=Qau ns f v (nth ns v.i).cs.length:=rfl
theorem QaB(ns:List Nd)(f:Nat)(v:Vis){k m:Nat}(h:k<=m):∃B,Qau ns f v m=Qau ns f v k++B:=by
 induction m with
 | zero=>simp_all
 | succ m ih=>
  rcases Nat.lt_or_ge m k with h1|h1
  ·obtain rfl:k=m+1:=by omega
   simp_all
  grind[vis,XT,X1]
theorem ZD{ns:List Nd}{i:Nat}{P:List Nat}(h:Way ns (i::P))(hi:i<ns.length){k:Nat}(hk:k<(nth ns i).cs.length)(hc:0<=(nth ns i).cs.getD k 0):Way ns (((nth ns i).cs.getD k 0).toNat::i::P):=by
 refine⟨⟨?_,hi⟩,h⟩
 grind
theorem QaS{co:Int}{ns:List Nd}(ht:TOk co ns){i k:Nat}(hi:i<ns.length)(hk:k<(nth ns i).cs.length):1<=(nth ns i).cs.getD k 0/\(nth ns i).cs.getD k 0<=(ns.length:Int)-1/\(nth ns ((nth ns i).cs.getD k 0).toNat).us=true:=by
 have hm:(nth ns i).cs.getD k 0∈(nth ns i).cs:=by grind
 have h:=ht.kid i hi _ hm
 grind
def Zu(co:Int)(ns:List Nd)(key:List UInt8):Nat->Nat->List Nat×Nat×Bool
 | 0,_=>([],0,false)
 | f+1,i=>if fnd co (nth ns i).es key=true\/(nth ns i).cs.length=0 then([i],plc co (nth ns i).es key,fnd co (nth ns i).es key)
   else(i::(Zu co ns key f ((nth ns i).cs.getD (plc co (nth ns i).es key) 0).toNat).1,(Zu co ns key f ((nth ns i).cs.getD (plc co (nth ns i).es key) 0).toNat).2)
def Qh(co:Int)(ns:List Nd)(key:List UInt8):List Nat×Nat×Bool:=Zu co ns key ns.length 0
structure Bd(ns:List Nd):Prop where
 len:ns.length<=1000
 es:∀i,i<ns.length->(nth ns i).es.length<=1000
 cs:∀i,i<ns.length->(nth ns i).cs.length<=1000
theorem Qb(L:List LNd):(pln L).length=L.length:=by simp
theorem Qp{L:List LNd}{i:Nat}(h:i<L.length):nth (pln L) i=(nth L i).pl:=by simp_all[QP,QY]
theorem Qeo(L:List LNd)(i:Nat)(n:LNd):pln (L.set i n)=(pln L).set i n.pl:=by simp[List.map_set]
theorem Qhn(L M:List LNd):pln (L++M)=pln L++pln M:=by simp
def Z4(w:World)(M:List Nat)(p:Option Addr)(o:Option (List UInt8)):Prop:=match o with
 | none=>p=none
 | some k=>∃b off,p=some ⟨b,off,none⟩/\Rd w M b off (.string (bs k))
theorem Z4.keep{w w':World}{M:List Nat}{As:List HA}{p:Option Addr}{o:Option (List UInt8)}(h:Z4 w M p o)(hs:HS w M As w'):Z4 w' (fps As) p o:=by
 cases o with
 | none=>exact h
 | some k=>
  obtain⟨b,off,e,hr⟩:=h;exact⟨b,off,e,hs.keep hr⟩
theorem Z4.mono{w:World}{M M':List Nat}{p:Option Addr}{o:Option (List UInt8)}(h:Z4 w M p o)(hM:∀b∈M',b∈M):Z4 w M' p o:=by
 cases o with
 | none=>exact h
 | some k=>
  obtain⟨b,off,e,hr⟩:=h;exact⟨b,off,e,hr.mono hM⟩
theorem Z4.of_some{w:World}{M:List Nat}{p:Option Addr}{o:Option (List UInt8)}(h:Z4 w M p o)(hp:p.isSome=true):∃k b off,o=some k/\p=some ⟨b,off,none⟩/\Rd w M b off (.string (bs k)):=by
 cases o with
 | none=>
  have:p=none:=h
  grind
 | some k=>
  obtain⟨b,off,e,hr⟩:=h
  grind
theorem Z4.of_none{w:World}{M:List Nat}{p:Option Addr}{o:Option (List UInt8)}(h:Z4 w M p o)(hp:p.isSome=false):o=none:=by
 cases o with
 | none=>rfl
 | some k=>
  obtain⟨b,off,e,hr⟩:=h;subst e;cases hp
theorem Xf{As Cs Ds:List HA}(h:Qaf As Cs Ds):∀b∈fps Cs,b∈fps As:=λb hb=>by
 obtain⟨A,hA,hb⟩:=List.mem_flatMap.1 hb;exact List.mem_flatMap.2 ⟨A,(List.Perm.mem_iff h).2 (List.mem_append_left _ hA),hb⟩
theorem HS.rd_blkF{w0 w:World}{M:List Nat}{As Cs Ds Es:List HA}{b i t tot:Nat}{cs:List Value}{v:Value}(h:HS w0 M As w)(hp:Qaf As Cs Ds)(hp2:QC Ds (.blk b t tot cs) Es)(hv:cs[i]?=some v):Rd w (fps Cs) b i v:=by
 have h1:HS w0 M (Cs++Ds) w:=h.perm hp;refine⟨(h1.ok _ (List.mem_append_right _ hp2.mem)|>Xl.lt),λhb=>?_,Xl.cell (h1.ok _ (List.mem_append_right _ hp2.mem)) hv⟩;obtain⟨A,hA,hb⟩:=List.mem_flatMap.1 hb;exact(List.pairwise_append.1 h1.sep).2.2 A hA _ hp2.mem b hb (List.mem_singleton.2 rfl)
section
variable(t:Tre)(i:Nat)
def nE1:Int:=if((nth t.ns i).es.length:Int)<=YD t.mo t.rm i then if(nth t.ns i).cs.length=0\/(nth t.ns i).cs.length=(nth t.ns i).es.length+1 then 0 else 10 else 16
def nE2:Int:=if nE1 t i=0 then Zn t.co (nth t.ns i).es else nE1 t i
def nE3(seen:List Int):Int×List Int:=if nE2 t i=0 then X7 t.ns (nth t.ns i).cs seen else(nE2 t i,seen)
def nE4(seen:List Int):Int:=if(nE3 t i seen).1=0 then Qaw t.co (nth t.ns i).es else(nE3 t i seen).1
theorem Qgq{seen:List Int}(h:(nth t.ns i).us=true):XX t i seen=(nE4 t i seen,(nE3 t i seen).2):=by
 unfold XX nE4 nE3 nE2 nE1
 grind
theorem QrA(h:nE2 t i=0):Zn t.co (nth t.ns i).es=0:=by grind[nE2]
theorem QpF{seen:List Int}(h:(nE3 t i seen).1=0):nE2 t i=0:=by grind[nE3]
end
def Qcw(ns:List Nd)(c:Int):Prop:=(1<=c/\c<=(ns.length:Int)-1)/\(nth ns c.toNat).us=true
instance(ns:List Nd)(c:Int):Decidable (Qcw ns c):=inferInstanceAs (Decidable (_/\_))
def Qbs(ns:List Nd)(c:Int)(seen:List Int):Int:=if Qcw ns c then if c∈seen then 23 else 0 else 6
def Qc7(ns:List Nd)(c:Int)(seen:List Int):List Int:=if Qcw ns c then c::seen else seen
theorem QaM(ns:List Nd)(c:Int)(cs seen:List Int):X7 ns (c::cs) seen=if Qbs ns c seen=0 then X7 ns cs (Qc7 ns c seen)else(Qbs ns c seen,Qc7 ns c seen):=by grind[Qbs,Qc7,X7,Qcw,nth]
theorem Qb6{cs:List Int}{k:Nat}(h:k<cs.length):cs.drop k=cs.getD k 0::cs.drop (k+1):=by simp_all
theorem QbX{co:Int}{es:List TEnt}{k:Nat}(h:k<es.length):(es.map (XP co)).getD k 0=XP co (nth es k):=by
 rw[YL (d:=default) h];rfl
theorem QbU{co:Int}{es:List TEnt}{k:Nat}(h:k<es.length):((List.range es.length).map (QaE co es)).getD k 0=QaE co es k:=by grind
theorem Zq{co:Int}{x:TEnt}(h:XP co x=0):QS co x.key=true:=by grind[XP,YU]
theorem QdD{co:Int}{k:List UInt8}(h:QS co k=true):1<=k.length/\k.length<=40:=by grind[QS]
theorem HS.thenF{w w1 w2:World}{M:List Nat}{As Bs:List HA}(h:HS w M As w1)(hc:HS w1 (fps As) Bs w2):HS w M Bs w2:=by
 have h1:HS w M (As++[]) w1:=by rw[List.append_nil];exact h
 have h2:=h1.callM (Mc:=fps As) (λb hb=>by obtain⟨A,hA,hb⟩:=List.mem_flatMap.1 hb;exact⟨A,hA,hb⟩) hc
 grind
def Y7(cs:List Int)(n:Int):List Bool:=cs.map λc=>decide (n=c)
theorem Ym(cs:List Int)(n:Int):(Y7 cs n).length=cs.length:=by simp[Y7]
theorem QbT{cs:List Int}{n:Int}{k:Nat}(h:k<cs.length):(Y7 cs n).getD k false=decide (n=cs.getD k 0):=by grind[Y7,YL]
theorem QnS(cs:List Int)(n:Int):(Y7 cs n).any id=decide (n∈cs):=by
 unfold Y7;rw[List.any_map]
 grind
def Zo(t:Tre)(v:Vis):Bool:=decide (0<v.i)&&(decide (((nth t.ns v.i).es.length:Int)<t.mo/2)||((decide ((nth t.ns 0).es.length=0)&&decide ((v.i:Int)∈(nth t.ns 0).cs))&&decide (((nth t.ns v.i).es.length:Int)<=t.rm)))
def Zx(t:Tre)(v:Vis)(x:TEnt):Bool:=(v.lo.any λb=>decide (0<=QM t.co b x.key))||(v.hi.any λb=>decide (0<=QM t.co x.key b))
def Zb(t:Tre)(v:Vis):Bool:=(nth t.ns v.i).es.any (Zx t v)
def erV(t:Tre)(s:Int)(v:Vis):Int×Int:=((v.i:Int),if Zo t v=true then 14 else if Zb t v=true then 9 else if(nth t.ns v.i).cs.length=0 then(if(if s=0 then v.d else s)=v.d then 0 else 22)else 0)
def stV(t:Tre)(s:Int)(v:Vis):Int:=if Zo t v=true then s else if Zb t v=true then s else if(nth t.ns v.i).cs.length=0 then(if s=0 then v.d else s)else s
theorem Qba(t:Tre)(deep:Int)(v:Vis):Qcu t deep v=if Zo t v=true then 14 else if Zb t v=true then 9 else if(nth t.ns v.i).cs.length=0/\v.d≠deep+1 then 22 else 0:=by
 unfold Qcu;simp only[];have h:Zo t v=true ↔ (0<v.i/\(((nth t.ns v.i).es.length:Int)<t.mo/2\/((nth t.ns 0).es.length=0/\(v.i:Int)∈(nth t.ns 0).cs)/\((nth t.ns v.i).es.length:Int)<=t.rm)):=by grind[Zo]
 by_cases h1:Zo t v=true
 ·grind
 ·rw[if_neg (λh2=>h1 (h.2 h2)),if_neg h1];rfl
theorem QgE(t:Tre):∀(vs:List Vis)(s:Int),s≠0->(XK (stV t) (erV t) s vs).1=X8 t (s-1) vs
 | [],s,_=>rfl
 | v::vs,s,hs=>by
  have he:(erV t s v).2=Qcu t (s-1) v:=by grind[Qba,erV,Zo,Zb,nth]
  have hst:stV t s v=s:=by grind[stV]
  rw[XK,X8,he,hst];split
  ·exact QgE t vs s hs
  grind[erV]
theorem Qgm{t:Tre}(hT:TOk t.co t.ns)(h0:0<t.ns.length)(deep:Int):∀(f:Nat)(v:Vis)(P:List Nat)(rest:List Vis),Gx.Way t.ns (v.i::P)->P.length+f=t.ns.length->1<=v.d->deep+1=v.d+Yy t.ns f v.i->(XK (stV t) (erV t) 0 (vis t.ns f v++rest)).1=X8 t deep (vis t.ns f v++rest)
 | 0,v,P,rest,hw,hf,_,_=>by
  have:=XW hT h0 hw
  grind
 | f+1,v,P,rest,hw,hf,hd,he=>by
  have hi:=ZK hT h0 hw v.i (List.mem_cons_self ..);rw[Yy]at he;rw[vis,List.cons_append,XK,X8,Qba]
  by_cases h1:Zo t v=true
  ·grind[erV]
  ·rw[if_neg h1]
   by_cases h2:Zb t v=true
   ·grind[erV]
   ·rw[if_neg h2]
    by_cases h3:(nth t.ns v.i).cs.length=0
    ·grind[erV,stV,nth,QgE]
    ·rw[if_neg h3]at he;have e1:(erV t 0 v).2=0:=by unfold erV;simp only[if_neg h1,if_neg h2,if_neg h3]
     have e2:stV t 0 v=0:=by unfold stV;rw[if_neg h1,if_neg h2,if_neg h3]
     have hk:=QaS hT hi (k:=0) om;have e3:(if(nth t.ns v.i).cs.length=0/\v.d≠deep+1 then(22:Int)else 0)=0:=if_neg (λh5=>h3 h5.1);rw[e1,if_pos rfl,e2,e3,if_pos rfl];obtain⟨m,hm⟩:∃m,(nth t.ns v.i).cs.length=m+1:=⟨(nth t.ns v.i).cs.length-1,om⟩;rw[hm,List.range_succ_eq_map,List.flatMap_cons,List.append_assoc];refine Qgm hT h0 deep f _ (v.i::P) _ (ZD hw hi om om) (by simp only[List.length_cons];omega) (by show 1<=v.d+1;omega) ?_
     grind
theorem run_shape{t:Tre}(hT:TOk t.co t.ns)(h0:0<t.ns.length):(XK (stV t) (erV t) 0 (Yx t.ns)).1=X8 t (Yy t.ns t.ns.length 0) (Yx t.ns):=by
 have h:=Qgm hT h0 (Yy t.ns t.ns.length 0) t.ns.length ZU [] [] rfl (by simp) (by decide) (by show _=1+_;rw[show ZU.i=0 from rfl];omega);rw[List.append_nil]at h;exact h
def Qgi(s:List Bool)(v:Vis):List Bool:=s.set v.i true
theorem Qj3:∀(vs:List Vis)(s:List Bool),(XK Qgi (λ_ _=>(0,0)) s vs).1=(0,0)/\(XK Qgi (λ_ _=>(0,0)) s vs).2.length=s.length/\∀i,i<s.length->(XK Qgi (λ_ _=>(0,0)) s vs).2.getD i false=(s.getD i false||decide (i∈vs.map Vis.i))
 | [],s=>⟨rfl,rfl,λi _=>by simp[XK]⟩
 | v::vs,s=>by
  obtain⟨h1,h2,h3⟩:=Qj3 vs (Qgi s v)
  grind[XK,Qgi,hi]
theorem Qh3{S:Type}{st:S->Vis->S}{er:S->Vis->Int×Int}{I:S->Prop}(hI:∀s v,I s->I (st s v)):∀(vs:List Vis)(s:S),I s->I (XK st er s vs).2
 | [],s,h=>h
 | v::vs,s,h=>by
  rw[XK];split
  ·simp_all[Qh3]
  ·exact hI _ _ h
def KOk(co:Int)(o:Option (List UInt8)):Prop:=∀k,o=some k->QS co k=true/\k.length<=1000000
theorem Qc2{co:Int}{ns:List Nd}(hT:TOk co ns){i:Nat}(hi:i<ns.length):∀x∈(nth ns i).es,QS co x.key=true/\x.key.length<=1000000:=λx hx=>by
 have h:=Zq (hT.ents i hi x hx)
 grind[QdD]
theorem QfI{co:Int}{ns:List Nd}(hT:TOk co ns){v:Vis}(hi:v.i<ns.length){k:Nat}(hk:k<=(nth ns v.i).es.length)(h:KOk co v.lo):KOk co (XT ns v k).lo:=by
 intro x hx;unfold XT loK at hx;simp only[]at hx;split at hx
 ·grind[Qc2,hi,QQ]
 ·exact h x hx
theorem QeO{co:Int}{ns:List Nd}(hT:TOk co ns){v:Vis}(hi:v.i<ns.length){k:Nat}(h:KOk co v.hi):KOk co (XT ns v k).hi:=by
 intro x hx;unfold XT hiK at hx;simp only[]at hx;split at hx
 ·grind[Qc2,hi,QQ]
 ·exact h x hx
def Qbc(t:Tre):Int×Int:=match Z3 t.ns ((Yx t.ns).map Vis.i) t.ns.length 0 with
 | some i=>((i:Int),21)
 | none=>X8 t (Yy t.ns t.ns.length 0) (Yx t.ns)
theorem Qjg{t:Tre}{deep:Int}:∀{vs:List Vis},(X8 t deep vs).2=0->X8 t deep vs=(0,0)
 | [],_=>rfl
 | v::vs,h=>by
  rw[X8]at h ⊢;split at h
  ·simp_all[Qjg]
  grind
theorem Qkw{t:Tre}(h:(Qbc t).2=0):(Qbc t).1=0:=by grind[Qbc,Qjg]
def Y4(n:Nat):Int:=if 0<n then if n<=120 then 0 else 8 else 10
theorem Qcl{t:Tre}(h:¬(if Q0 t.co=0 then YI t.mo t.rm else Q0 t.co)=0):QZ t=(0,if Q0 t.co=0 then YI t.mo t.rm else Q0 t.co):=by grind[QZ,Q0,YI]
theorem QgT{t:Tre}(h:(if Q0 t.co=0 then YI t.mo t.rm else Q0 t.co)=0):Q0 t.co=0/\YI t.mo t.rm=0:=by grind
theorem QaN{mo rm:Int}(h:YI mo rm=0):(3<=mo/\mo<=8)/\(mo/2<=rm/\rm<=mo):=by grind[YI]
theorem Qdm{t:Tre}(h:(if Q0 t.co=0 then YI t.mo t.rm else Q0 t.co)=0)(h2:¬Y4 t.ns.length=0):QZ t=(0,Y4 t.ns.length):=by grind[QgT,QZ,Y4]
theorem Qjy{n:Nat}(h:Y4 n=0):0<n/\n<=120:=by grind[Y4]
theorem QdK{t:Tre}(h:(if Q0 t.co=0 then YI t.mo t.rm else Q0 t.co)=0)(h2:Y4 t.ns.length=0):QZ t=if(X5 t t.ns.length 0 []).2=0 then Qbc t else X5 t t.ns.length 0 []:=by
 obtain⟨h3,h4⟩:=QgT h;obtain⟨h5,h6⟩:=Qjy h2;unfold QZ;rw[if_pos h3,if_pos h4,if_pos h5,if_pos h6];rfl
theorem ZQ{t:Tre}(h:(QZ t).2=0):Q0 t.co=0/\YI t.mo t.rm=0/\0<t.ns.length/\t.ns.length<=120/\(X5 t t.ns.length 0 []).2=0/\(Qbc t).2=0/\QZ t=(0,0):=by
 by_cases h1:(if Q0 t.co=0 then YI t.mo t.rm else Q0 t.co)=0
 ·grind[Y4,QdK,QgT,Qjy,Qkw,Qdm]
 grind[Qcl]
theorem Qmr{l:List Bool}{k:Nat}(h:k<l.length):(l.map Value.bool)[k]?=some (.bool (l.getD k false)):=by grind
theorem QeX{t:Tre}{k:Nat}{seen:List Int}(h:k<t.ns.length):X5 t (t.ns.length-k) k seen=if(XX t k seen).1=0 then X5 t (t.ns.length-(k+1)) (k+1) (XX t k seen).2 else((k:Int),(XX t k seen).1):=by
 rw[show t.ns.length-k=t.ns.length-(k+1)+1 by omega,X5]
theorem Qgl{ns:List Nd}{below:List Nat}{k:Nat}(h:k<ns.length):Z3 ns below (ns.length-k) k=if(nth ns k).us=true/\k ∉ below then some k else Z3 ns below (ns.length-(k+1)) (k+1):=by
 rw[show ns.length-k=ns.length-(k+1)+1 by omega,Z3]
theorem QcJ{t:Tre}{i:Nat}(h:Z3 t.ns ((Yx t.ns).map Vis.i) t.ns.length 0=some i):Qbc t=((i:Int),21):=by
 unfold Qbc;rw[h]
theorem QcD{t:Tre}(h:Z3 t.ns ((Yx t.ns).map Vis.i) t.ns.length 0=none):Qbc t=X8 t (Yy t.ns t.ns.length 0) (Yx t.ns):=by
 unfold Qbc;rw[h]
theorem QeL{l:List LNd}{k:Nat}(hk:k<l.length)(ea:Option Addr)(ec:Nat)(es:List TEnt):QA (l.flatMap LNd.vals) (k*3+1) [.slice ea es.length ec]=(l.set k {nth l k with ea:=ea,ec:=ec,es:=es}).flatMap LNd.vals:=
 Qao nv3 l k 1 _ (nth l k) _ (QY hk) rfl (by simp)
theorem QeN{l:List LNd}{k:Nat}(hk:k<l.length)(ca:Option Addr)(cc:Nat)(cs:List Int):QA (l.flatMap LNd.vals) (k*3+2) [.slice ca cs.length cc]=(l.set k {nth l k with ca:=ca,cc:=cc,cs:=cs}).flatMap LNd.vals:=
 Qao nv3 l k 2 _ (nth l k) _ (QY hk) rfl (by simp)
theorem Qo0{l:List LNd}{k:Nat}(hk:k<l.length)(us:Bool):QA (l.flatMap LNd.vals) (k*3) [.bool us]=(l.set k {nth l k with us:=us}).flatMap LNd.vals:=by
 have h:=Qao nv3 l k 0 [.bool us] (nth l k) {nth l k with us:=us} (QY hk) rfl (by simp)
 grind
theorem QdY{l:List LNd}{k:Nat}(hk:k<l.length)(ea:Option Addr)(ec:Nat)(es:List TEnt)(ca:Option Addr)(cc:Nat)(cs:List Int):QA (QA (l.flatMap LNd.vals) (k*3+1) [.slice ea es.length ec]) (k*3+2) [.slice ca cs.length cc]=(l.set k ⟨(nth l k).us,ea,ec,es,ca,cc,cs⟩).flatMap LNd.vals:=by simp_all[QeL,QeN,Qi5]
theorem QjO{l m:List LNd}{k:Nat}(hl:l.length=k)(hk:k<m.length):nth (l++m.drop k) k=nth m k:=by
 apply QP
 grind[QY]
theorem Qn9{l m:List LNd}{k:Nat}(hl:l.length=k)(hk:k<m.length)(x:LNd):(l++m.drop k).set k x=l++[x]++m.drop (k+1):=by
 rw[List.set_append_right _ _ om,hl,Nat.sub_self,List.drop_eq_getElem_cons hk,List.set_cons_zero,List.append_assoc];rfl
theorem Qij{L:List LNd}{k:Nat}(hk:k<L.length){D:List LNd}(hD:pln D=(pln L).take k){x:LNd}(hx:x.pl=(nth L k).pl):pln (D++[x])=(pln L).take (k+1):=by
 rw[Qhn,hD,List.take_succ_eq_append_getElem (by rw[Qb];exact hk)]
 simp_all[pln,Qb,nth,QP,Qp]
end Gx
namespace Gx
open Go Go.RowKit
section
variable{P:Program}{o:Oper}{L:Qk}{w0:World}{M:List Nat}{As As':List HA}
def QiX(P:Program)(t te:TypeId):Prop:=P.underlying t=some (.pointer te)/\∃j,P.info? te=some j/\j.size≠0
theorem QkF{t te:TypeId}{n:Nat}{b:Bool}(h:P.underlying t=some (.pointer te))(h2:tsz P te=some (n,b))(hn:n≠0):QiX P t te:=by
 refine⟨h,?_⟩
 grind[tsz,hi]
theorem ptee{t te:TypeId}(h:P.underlying t=some (.pointer te)):P.underlying t=some (.pointer (P.pointee t)):=by
 rw[h];simp[Program.pointee,h]
theorem QgK{t t' te:TypeId}{x y:Operand}{p:Option Addr}(ho:o.op=.binOp .eql t x y t')(hx:ev L x=some (.pointer p))(hy:ev L y=some (.pointer none))(ht:QiX P t te):OpP P o L (.bool p.isNone):=by
 intro ρ w hρ;have hg:(eqGuard .eql t x y (.pointer p) (.pointer none)).run P w=.ok () w:=by unfold eqGuard;simp
 simp only[execOp,ho,hρ _ _ hx,hρ _ _ hy,Sem.run_bind,hg,run_eql_pointer_nil w t p (ptee ht.1),Result.andThen_ok,Sem.run_pure]
theorem Qe7{t t' te:TypeId}{x y:Operand}{a:Addr}(ho:o.op=.binOp .neq t x y t')(hx:ev L x=some (.pointer (some a)))(hy:ev L y=some (.pointer (some a)))(ht:QiX P t te):OpP P o L (.bool false):=by
 intro ρ w hρ;obtain⟨h1,j,h2,_⟩:=ht;have hg:(eqGuard .neq t x y (.pointer (some a)) (.pointer (some a))).run P w=.ok () w:=by unfold eqGuard;simp
 simp only[execOp,ho,hρ _ _ hx,hρ _ _ hy,Sem.run_bind,hg,Lib.run_neq_ptr_same w a h1 h2,Result.andThen_ok,Sem.run_pure]
theorem Qfy{t t' te:TypeId}{x y:Operand}{p:Option Addr}(ho:o.op=.binOp .neq t x y t')(hx:ev L x=some (.pointer p))(hy:ev L y=some (.pointer none))(ht:QiX P t te):OpP P o L (.bool p.isSome):=by
 intro ρ w hρ;have hg:(eqGuard .neq t x y (.pointer p) (.pointer none)).run P w=.ok () w:=by unfold eqGuard;simp
 have h:=run_neq_pointer_nil w t p (ptee ht.1);simp only[execOp,ho,hρ _ _ hx,hρ _ _ hy,Sem.run_bind,hg,h,Result.andThen_ok,Sem.run_pure];cases p<;>rfl
end
end Gx
namespace Gx
open Go Go.RowKit
section
variable{P:Program}{o:Oper}{L:Qk}{w0:World}{M:List Nat}{As As':List HA}
theorem Qgu{t e sz by':Nat}{x hi mx:Operand}{a:Option Addr}{n cap:Nat}{k2 k3:IntKind}{i2 i3:Int}(j m:Nat)(ho:o.op=.slice t x none (some hi) (some mx))(hx:ev L x=some (.slice a n cap))(hh:ev L hi=some (.int k2 i2))(hm:ev L mx=some (.int k3 i3))(ht:tsl P t=some (e,sz,by'))(e2:i2=(j:Int))(e3:i3=(m:Int))(hjm:j<=m)(hmc:m<=cap) :
  OpP P o L (.slice (Yh a m 0 sz) j m):=by
 intro ρ w hρ;obtain⟨hu,inf,h1,h2,_⟩:=Yb ht;subst e2 e3;simp[execOp,ho,hρ _ _ hx,hρ _ _ hh,hρ _ _ hm,Instr.sliceAt,Instr.slice,Instr.sliceBounds,Instr.sliceBound,asIntOf,run_underlying hu,hjm,hmc,Go.sizeOf,typeInfo,h1,h2,Yh]
end
theorem QlR(a:Option Addr)(cap sz:Nat)(ha:∀x,a=some x->x.off=0/\x=⟨x.block,0,none⟩):Yh a cap 0 sz=a:=by
 unfold Yh;split
 ·rfl
 ·cases a with
  | none=>rfl
  | some x=>
   rw[(ha x rfl).2];simp[XR]
theorem Rw.cut{α:Type}[Inhabited α]{vals:α->List Value}{sz:Nat}{w:World}{M:List Nat}{a:Option Addr}{l:List α}(h:Rw vals sz w M a l){cap i:Nat}(hc:l.length<=cap):Rw vals sz w M (Yh a cap i sz) (l.drop i):=
 ⟨λhn=>by
  rw[List.length_drop]at hn;obtain⟨b,o,rfl,h2⟩:=h.at_ om;refine⟨b,o+i*sz,?_,λj hj=>?_⟩
  ·unfold Yh;rw[if_neg om];simp[XR]
  ·rw[List.length_drop]at hj;have e:nth (l.drop i) j=nth l (i+j):=QP (by rw[List.getElem?_drop];exact QY om);have h3:=h2 (i+j) om;simp only[e];refine⟨h3.1,λq v hv=>?_⟩;have h4:=h3.2 q v hv;rw[show o+(i+j)*sz+q=o+i*sz+j*sz+q by rw[Nat.add_mul];omega]at h4;exact h4⟩
section
variable{w0 w:World}{M:List Nat}{As As' As'':List HA}{gn cap et nt':Nat}{a:Option Addr}{L:List LNd}
theorem Qai(h0:0<L.length)(h:HS w0 M As w)(hp:QC As (.nodes et nt' a cap L) As'):∃gn,a=some ⟨gn,0,none⟩/\L.length<=cap/\cap<=maxLen/\HS w0 M (.blk gn nt' (cap*3) (L.flatMap LNd.vals)::.star (L.map (Qw et))::As') w:=by
 have h1:=HS.row_open (h.pick hp);obtain⟨gn,e,_,h2,h3,_,h4⟩:=h1.own_blk h0 .here
 grind
theorem QeW(h:HS w0 M (.blk gn nt' (cap*3) (L.flatMap LNd.vals)::.star (L.map (Qw et))::As) w)(h1:L.length<=cap)(h2:cap<=maxLen):HS w0 M (.nodes et nt' (some ⟨gn,0,none⟩) cap L::As) w:=
 HS.row_shut (l:=L) (sub:=Qw et) (HS.own_shut (n:=L.length) h (Qj nv3 L) h1 h2) rfl rfl
theorem HS.nt_at(h:HS w0 M As w)(hp:QC As (.blk gn nt' (cap*3) (L.flatMap LNd.vals)) As')(hp2:QC As' (.star (L.map (Qw et))) As''):Nt w [] (some ⟨gn,0,none⟩) L:=by
 refine⟨h.rw_blk nv3 hp,λn hn=>?_⟩;obtain⟨i,hi,e⟩:=List.getElem_of_mem hn;have e2:nth L i=n:=QP (by rw[List.getElem?_eq_getElem hi,e]);have h2:=HS.sub_open hi ((h.pick hp).tail.pick hp2);rw[e2]at h2;have h3:=HS.star_open h2;exact⟨h3.rw_own ev2 .here rfl,h3.rw_own iv1 (.there .here) rfl⟩
theorem HS.node_out{i:Nat}(hi:i<L.length)(h:HS w0 M As w)(hp:QC As (.star (L.map (Qw et))) As'):HS w0 M (.own (.slice (nth L i).ea (nth L i).es.length (nth L i).ec) et 2 (nth L i).es.length ((nth L i).es.flatMap TEnt.vals)::.own (.slice (nth L i).ca (nth L i).cs.length (nth L i).cc) 3 1 (nth L i).cs.length ((nth L i).cs.flatMap inV)::.star ((Qbp L i).map (Qw et))::As') w:=
 HS.star_open (Bs:=[_,_]) (HS.sub_open hi (h.pick hp))
theorem HS.node_in{i:Nat}(hi:i<L.length)(x:LNd)(h:HS w0 M (.own (.slice x.ea x.es.length x.ec) et 2 x.es.length (x.es.flatMap TEnt.vals)::.own (.slice x.ca x.cs.length x.cc) 3 1 x.cs.length (x.cs.flatMap inV)::.star ((Qbp L i).map (Qw et))::As) w):HS w0 M (.star ((L.set i x).map (Qw et))::As) w:=
 HS.sub_shut (sub:=Qw et) hi (HS.star_close (Bs:=[_,_]) h)
theorem QhS{a:Option Addr}{n n' c t sz:Nat}{xs:List Value}{w:World}(h:QjI (.slice a n c) t sz n' xs w):∀x,a=some x->x.off=0/\x=⟨x.block,0,none⟩:=by
 obtain⟨_,⟨e,_⟩|⟨g,cap,e,_⟩⟩:=h
 ·grind
 grind
end
theorem Qlw{l:List LNd}{k:Nat}(hk:k<l.length)(us:Bool):QA (l.flatMap LNd.vals) (0+k*3+0) [.bool us]=(l.set k {nth l k with us:=us}).flatMap LNd.vals:=by grind[Qo0]
theorem QoP{et:Nat}{L:List LNd}{i:Nat}(hi:i<L.length)(us:Bool):((L.set i {nth L i with us:=us}).map (Qw et))=L.map (Qw et):=by
 rw[List.map_set];have e:Qw et {nth L i with us:=us}=Qw et (nth L i):=rfl;rw[e];apply List.ext_getElem?
 grind[hi,QY]
def usN(ns:List Nd)(i:Nat)(us:Bool):List Nd:=ns.set i {nth ns i with us:=us}
def esN(ns:List Nd)(i:Nat)(es:List TEnt):List Nd:=ns.set i {nth ns i with es:=es}
def csN(ns:List Nd)(i:Nat)(cs:List Int):List Nd:=ns.set i {nth ns i with cs:=cs}
theorem Z9(ns:List Nd)(i:Nat)(es:List TEnt):(esN ns i es).length=ns.length:=by simp[esN]
theorem Qb3(ns:List Nd)(i:Nat)(cs:List Int):(csN ns i cs).length=ns.length:=by simp[csN]
theorem QgU(ns:List Nd)(i:Nat)(us:Bool):(usN ns i us).length=ns.length:=by simp[usN]
theorem QoH{ns:List Nd}{i k:Nat}(hk:k<ns.length)(es:List TEnt):nth (esN ns i es) k=if i=k then{nth ns k with es:=es}else nth ns k:=by
 unfold esN;apply QP
 grind[QY]
theorem QqU{L:List LNd}{i:Nat}(hi:i<L.length)(ea:Option Addr)(ec:Nat)(es:List TEnt):pln (L.set i {nth L i with ea:=ea,ec:=ec,es:=es})=esN (pln L) i es:=by
 rw[Qeo,esN,Qp hi];rfl
theorem QpX{L:List LNd}{i:Nat}(hi:i<L.length)(ca:Option Addr)(cc:Nat)(cs:List Int):pln (L.set i {nth L i with ca:=ca,cc:=cc,cs:=cs})=csN (pln L) i cs:=by
 rw[Qeo,csN,Qp hi];rfl
theorem Qq5{L:List LNd}{i:Nat}(hi:i<L.length)(us:Bool):pln (L.set i {nth L i with us:=us})=usN (pln L) i us:=by
 rw[Qeo,usN,Qp hi];rfl
def XA(ns:List Nd):Nat:=ixB (ns.map λn=>!n.us)
def QK(ns:List Nd):Nat×List Nd:=if XA ns<ns.length then(XA ns,usN ns (XA ns) true)else(ns.length,ns++[⟨true,[],[]⟩])
def Xx(i:Int):List Nd->Nat->Nat×Nat
 | [],_=>(0,0)
 | n::ns,p=>if ixB (Y7 n.cs i)<n.cs.length then(p,ixB (Y7 n.cs i))else Xx i ns (p+1)
theorem Qlh{i:Int}{ns:List Nd}{k:Nat}(hk:k<ns.length):Xx i (ns.drop k) k=if ixB (Y7 (nth ns k).cs i)<(nth ns k).cs.length then(k,ixB (Y7 (nth ns k).cs i))else Xx i (ns.drop (k+1)) (k+1):=by
 rw[List.drop_eq_getElem_cons hk,Xx]
 grind[nth,QP]
def Qv(mo:Int):Nat:=((mo+1)/2).toNat
def splA(mo:Int)(ns:List Nd)(i:Nat):List Nd:=
 if(nth (QK ns).2 i).cs.length=0 then esN (esN (QK ns).2 (QK ns).1 ((nth (QK ns).2 i).es.drop (Qv mo+1))) i ((nth (QK ns).2 i).es.take (Qv mo))
 else csN (csN (esN (esN (QK ns).2 (QK ns).1 ((nth (QK ns).2 i).es.drop (Qv mo+1))) i ((nth (QK ns).2 i).es.take (Qv mo))) (QK ns).1 ((nth (QK ns).2 i).cs.drop (Qv mo+1))) i ((nth (QK ns).2 i).cs.take (Qv mo+1))
def addP(ns:List Nd)(p k:Nat)(up:TEnt)(own:Nat):List Nd:=csN (esN ns p (QF (nth ns p).es k up)) p (QF (nth ns p).cs (k+1) (own:Int))
def Qak(mo:Int)(ns:List Nd)(i:Nat):List Nd:=addP (splA mo ns i) (Xx (i:Int) (splA mo ns i) 0).1 (Xx (i:Int) (splA mo ns i) 0).2 (nth (nth (QK ns).2 i).es (Qv mo)) (QK ns).1
theorem Qd0{ns:List Nd}(h:XA ns<ns.length):(nth ns (XA ns)).us=false:=by
 have h1:(ns.map λn=>!n.us).getD (XA ns) false=true:=Qdt (l:=ns.map λn=>!n.us) (by rw[List.length_map];exact h);rw[YL (d:=default) h]at h1;show(ns.getD (XA ns) default).us=false
 simpa using h1
theorem Qew{ns:List Nd}{i:Nat}(hi:i<ns.length)(hu:(nth ns i).us=true):(QK ns).1≠i:=by grind[QK,Qd0]
theorem QeK(ns:List Nd):(QK ns).1<(QK ns).2.length:=by grind[QK,QgU]
theorem Qbv(ns:List Nd):ns.length<=(QK ns).2.length/\(QK ns).2.length<=ns.length+1:=by grind[QK,QgU]
theorem QbE{ns:List Nd}{i:Nat}(hi:i<ns.length)(hu:(nth ns i).us=true):nth (QK ns).2 i=nth ns i:=by
 have hne:=Qew hi hu;unfold QK at hne ⊢;split
 ·simp_all[usN,QP,QY,hi]
 ·apply QP
  grind[hi,QY]
theorem QiK(mo:Int)(ns:List Nd)(i:Nat):(splA mo ns i).length=(QK ns).2.length:=by grind[splA,Z9,Qb3]
def XU(ns:List Nd):Nat×List Nd:=((QK ns).1,csN (esN (csN (esN (QK ns).2 (QK ns).1 (nth ns 0).es) (QK ns).1 (nth ns 0).cs) 0 []) 0 [((QK ns).1:Int)])
def QaZ(mo:Int)(ns:List Nd)(i:Nat):List Nd:=if 0<i/\mo<((nth ns i).es.length:Int)then Qak mo ns i else ns
def XV(mo:Int)(ns:List Nd)(P:List Nat):List Nd:=P.foldl (QaZ mo) ns
def Qan(mo rm:Int)(ns:List Nd):List Nd:=if rm<((nth ns 0).es.length:Int)then if mo<((nth (XU ns).2 (XU ns).1).es.length:Int)then Qak mo (XU ns).2 (XU ns).1 else(XU ns).2 else ns
def Qej(mo rm:Int)(ns:List Nd)(P:List Nat):List Nd:=Qan mo rm (XV mo ns P)
abbrev LNd.noE(n:LNd):LNd:={n with ea:=none,ec:=0,es:=[]}
abbrev LNd.noC(n:LNd):LNd:={n with ca:=none,cc:=0,cs:=[]}
abbrev Qiw(et:Nat)(n:LNd):HA:=.own (.slice n.ea n.es.length n.ec) et 2 n.es.length (n.es.flatMap TEnt.vals)
abbrev Qk7(n:LNd):HA:=.own (.slice n.ca n.cs.length n.cc) 3 1 n.cs.length (n.cs.flatMap inV)
theorem ZB{L:List LNd}{i:Nat}(hi:i<L.length)(x:LNd):nth (L.set i x) i=x:=QP (List.getElem?_set_self hi)
theorem Qgb{L:List LNd}{i k:Nat}(hk:k<L.length)(hne:i≠k)(x:LNd):nth (L.set i x) k=nth L k:=QP (by rw[List.getElem?_set_ne hne];exact QY hk)
section
variable{w0 w:World}{M:List Nat}{As As' As'':List HA}{et:Nat}{L:List LNd}{i:Nat}
theorem HS.es_take(hi:i<L.length)(h:HS w0 M As w)(hp:QC As (.star (L.map (Qw et))) As'):HS w0 M (Qiw et (nth L i)::.star ((L.set i (nth L i).noE).map (Qw et))::As') w:=by
 have h1:=(h.node_out hi hp).own_nil et 2;have h2:=h1.perm (As':=_::_::_::Qiw et (nth L i)::As') (List.Perm.cons _ (List.perm_middle (l₁:=[_,_])).symm);exact(HS.node_in hi (nth L i).noE h2).perm (List.Perm.swap ..)
theorem HS.cs_take(hi:i<L.length)(h:HS w0 M As w)(hp:QC As (.star (L.map (Qw et))) As'):HS w0 M (Qk7 (nth L i)::.star ((L.set i (nth L i).noC).map (Qw et))::As') w:=by
 have h1:=(h.node_out hi hp).own_nil 3 1;have h2:=h1.perm (As':=_::_::_::Qk7 (nth L i)::As') ((List.perm_middle (l₁:=[_]) (a:=Qiw et (nth L i))).trans (List.Perm.cons _ (List.Perm.cons _ (List.Perm.swap ..))));exact(HS.node_in hi (nth L i).noC h2).perm (List.Perm.swap ..)
theorem HS.es_put(hi:i<L.length){ea:Option Addr}{ec:Nat}{es:List TEnt}(h:HS w0 M As w)(hp:QC As (.own (.slice ea es.length ec) et 2 es.length (es.flatMap TEnt.vals)) As')(hp2:QC As' (.star (L.map (Qw et))) As''):HS w0 M (.star ((L.set i {nth L i with ea:=ea,ec:=ec,es:=es}).map (Qw et))::As'') w:=by
 have h1:=(h.pick hp).perm (List.Perm.cons _ hp2.perm);have h2:=(HS.node_out hi h1 (.there .here)).tail;have h3:=h2.perm (As':=(.own (.slice ea es.length ec) et 2 es.length (es.flatMap TEnt.vals))::_::_::As'') (List.perm_middle (l₁:=[_,_]));exact HS.node_in hi {nth L i with ea:=ea,ec:=ec,es:=es} h3
theorem HS.cs_put(hi:i<L.length){ca:Option Addr}{cc:Nat}{cs:List Int}(h:HS w0 M As w)(hp:QC As (.own (.slice ca cs.length cc) 3 1 cs.length (cs.flatMap inV)) As')(hp2:QC As' (.star (L.map (Qw et))) As''):HS w0 M (.star ((L.set i {nth L i with ca:=ca,cc:=cc,cs:=cs}).map (Qw et))::As'') w:=by
 have h1:=(h.pick hp).perm (List.Perm.cons _ hp2.perm);have h2:=(HS.node_out hi h1 (.there .here));have h3:=(h2.perm (List.Perm.swap ..)).tail;have h4:=h3.perm (As':=Qiw et (nth L i)::(.own (.slice ca cs.length cc) 3 1 cs.length (cs.flatMap inV))::_::As'') (List.Perm.cons _ (List.perm_middle (l₁:=[_])))
 grind[HS.node_in,hi,nth]
theorem HS.es_back(hi:i<L.length){ea:Option Addr}{ec:Nat}{es:List TEnt}(h:HS w0 M As w)(hp:QC As (.own (.slice ea es.length ec) et 2 es.length (es.flatMap TEnt.vals)) As')(hp2:QC As' (.star ((L.set i (nth L i).noE).map (Qw et))) As''):HS w0 M (.star ((L.set i {nth L i with ea:=ea,ec:=ec,es:=es}).map (Qw et))::As'') w:=by
 have h1:=HS.es_put (L:=L.set i (nth L i).noE) (i:=i) (by rw[List.length_set];exact hi) h hp hp2
 simp_all[ZB,hi]
theorem HS.cs_back(hi:i<L.length){ca:Option Addr}{cc:Nat}{cs:List Int}(h:HS w0 M As w)(hp:QC As (.own (.slice ca cs.length cc) 3 1 cs.length (cs.flatMap inV)) As')(hp2:QC As' (.star ((L.set i (nth L i).noC).map (Qw et))) As''):HS w0 M (.star ((L.set i {nth L i with ca:=ca,cc:=cc,cs:=cs}).map (Qw et))::As'') w:=by
 have h1:=HS.cs_put (L:=L.set i (nth L i).noC) (i:=i) (by rw[List.length_set];exact hi) h hp hp2
 simp_all[ZB,hi]
theorem HS.es_cut(hi:i<L.length){m c:Nat}(hm:m<=c)(hc:c<=(nth L i).ec)(hml:m<=(nth L i).es.length)(h0:m=0->(nth L i).ea=none->c=0)(h:HS w0 M As w)(hp:QC As (.star (L.map (Qw et))) As'):HS w0 M (.star ((L.set i {nth L i with ec:=c,es:=(nth L i).es.take m}).map (Qw et))::As') w:=by
 have h1:=HS.es_take hi h hp;have e1:((nth L i).es.take m).length=m:=by rw[List.length_take];omega
 have h2:=HS.own_room (a:=(nth L i).ea) (n':=c) (xs:=((nth L i).es.take m).flatMap TEnt.vals) (ds:=((nth L i).es.drop m).flatMap TEnt.vals) .here (by rw[<-List.flatMap_append,List.take_append_drop];exact h1) (by rw[Qj ev2,e1]) hm hc h0;refine HS.es_back hi (es:=(nth L i).es.take m) ?_ .here .here;rw[e1];exact h2
theorem HS.cs_cut(hi:i<L.length){m c:Nat}(hm:m<=c)(hc:c<=(nth L i).cc)(hml:m<=(nth L i).cs.length)(h0:m=0->(nth L i).ca=none->c=0)(h:HS w0 M As w)(hp:QC As (.star (L.map (Qw et))) As'):HS w0 M (.star ((L.set i {nth L i with cc:=c,cs:=(nth L i).cs.take m}).map (Qw et))::As') w:=by
 have h1:=HS.cs_take hi h hp;have e1:((nth L i).cs.take m).length=m:=by rw[List.length_take];omega
 have h2:=HS.own_room (a:=(nth L i).ca) (n':=c) (xs:=((nth L i).cs.take m).flatMap inV) (ds:=((nth L i).cs.drop m).flatMap inV) .here (by rw[<-List.flatMap_append,List.take_append_drop];exact h1) (by rw[Qj iv1,e1]) hm hc h0;refine HS.cs_back hi (cs:=(nth L i).cs.take m) ?_ .here .here;rw[e1];exact h2
theorem HS.es_room(hi:i<L.length)(h:HS w0 M As w)(hp:QC As (.star (L.map (Qw et))) As'):(nth L i).es.length<=(nth L i).ec/\(nth L i).ec<=maxLen:=by
 have h1:=HS.own_facts .here (HS.es_take hi h hp)
 grind
theorem HS.cs_room(hi:i<L.length)(h:HS w0 M As w)(hp:QC As (.star (L.map (Qw et))) As'):(nth L i).cs.length<=(nth L i).cc/\(nth L i).cc<=maxLen:=by
 have h1:=HS.own_facts .here (HS.cs_take hi h hp)
 grind
theorem HS.es_form(hi:i<L.length)(h:HS w0 M As w)(hp:QC As (.star (L.map (Qw et))) As'):∀x,(nth L i).ea=some x->x.off=0/\x=⟨x.block,0,none⟩:=QhS (HS.es_take hi h hp).head
theorem HS.cs_form(hi:i<L.length)(h:HS w0 M As w)(hp:QC As (.star (L.map (Qw et))) As'):∀x,(nth L i).ca=some x->x.off=0/\x=⟨x.block,0,none⟩:=QhS (HS.cs_take hi h hp).head
theorem HS.es_some(hi:i<L.length)(hn:0<(nth L i).es.length)(h:HS w0 M As w)(hp:QC As (.star (L.map (Qw et))) As'):∃g,(nth L i).ea=some ⟨g,0,none⟩:=by
 obtain⟨g,e,_⟩:=HS.own_blk hn .here (HS.es_take hi h hp);exact⟨g,e⟩
theorem HS.cs_some(hi:i<L.length)(hn:0<(nth L i).cs.length)(h:HS w0 M As w)(hp:QC As (.star (L.map (Qw et))) As'):∃g,(nth L i).ca=some ⟨g,0,none⟩:=by
 obtain⟨g,e,_⟩:=HS.own_blk hn .here (HS.cs_take hi h hp);exact⟨g,e⟩
theorem HS.es_row(hi:i<L.length)(h:HS w0 M As w)(hp:QC As (.star (L.map (Qw et))) As'):Rw TEnt.vals 2 w [] (nth L i).ea (nth L i).es:=(HS.es_take hi h hp).rw_own ev2 .here rfl
theorem HS.cs_row(hi:i<L.length)(h:HS w0 M As w)(hp:QC As (.star (L.map (Qw et))) As'):Rw inV 1 w [] (nth L i).ca (nth L i).cs:=(HS.cs_take hi h hp).rw_own iv1 .here rfl
theorem HS.es_rd{k g:Nat}(hi:i<L.length)(hk:k<(nth L i).es.length)(hg:(nth L i).ea=some ⟨g,0,none⟩)(h:HS w0 M As w)(hp:QC As (.star (L.map (Qw et))) As'):∀j v,(TEnt.vals (nth (nth L i).es k))[j]?=some v->Rd w [] g (0+k*2+j) v:=by
 have h1:=Rw.rd (HS.es_row hi h hp) hk;rw[hg]at h1;exact h1
theorem HS.cs_rd{k g:Nat}(hi:i<L.length)(hk:k<(nth L i).cs.length)(hg:(nth L i).ca=some ⟨g,0,none⟩)(h:HS w0 M As w)(hp:QC As (.star (L.map (Qw et))) As'):Rd w [] g (0+k*1) (.int .i64 ((nth L i).cs.getD k 0)):=by
 have h1:=Rw.rd (HS.cs_row hi h hp) hk 0 (.int .i64 ((nth L i).cs.getD k 0)) rfl;rw[hg]at h1;exact h1
theorem HS.nd_cell{gn cap nt':Nat}(hi:i<L.length)(h:HS w0 M As w)(hp:QC As (.blk gn nt' (cap*3) (L.flatMap LNd.vals)) As')(j:Nat){v:Value}(hj:(LNd.vals (nth L i))[j]?=some v)(hj3:j<3):Rd w [] gn (i*3+j) v:=
 h.rd_blk hp (by rw[QbM nv3 L i j _ (QY hi) hj3];exact hj) (by simp)
end
structure NdSet(L L':List LNd)(i:Nat)(x:LNd):Prop where
 lt:i<L.length
 eq:L'=L.set i x
theorem NdSet.len{L L':List LNd}{i:Nat}{x:LNd}(h:NdSet L L' i x):L'.length=L.length:=by rw[h.eq,List.length_set]
theorem NdSet.at_{L L':List LNd}{i:Nat}{x:LNd}(h:NdSet L L' i x):nth L' i=x:=by rw[h.eq,ZB h.lt]
theorem NdSet.other{L L':List LNd}{i k:Nat}{x:LNd}(h:NdSet L L' i x)(hk:k<L.length)(hne:i≠k):nth L' k=nth L k:=by rw[h.eq,Qgb hk hne]
theorem NdSet.pl{L L':List LNd}{i:Nat}{x:LNd}(h:NdSet L L' i x):pln L'=(pln L).set i x.pl:=by rw[h.eq,Qeo]
theorem NdSet.es{L L':List LNd}{i:Nat}{ea:Option Addr}{ec:Nat}{es:List TEnt}(h:NdSet L L' i {nth L i with ea:=ea,ec:=ec,es:=es}):pln L'=esN (pln L) i es:=by rw[h.eq,QqU h.lt]
theorem NdSet.cs{L L':List LNd}{i:Nat}{ca:Option Addr}{cc:Nat}{cs:List Int}(h:NdSet L L' i {nth L i with ca:=ca,cc:=cc,cs:=cs}):pln L'=csN (pln L) i cs:=by rw[h.eq,QpX h.lt]
section
variable{w0 w:World}{M:List Nat}{As A1 A2 A3:List HA}{et:Nat}{L:List LNd}{i gn cap nt':Nat}
theorem HS.es_set(hi:i<L.length){ea:Option Addr}{ec:Nat}{es:List TEnt}(h:HS w0 M As w)(hp:QC As (.blk gn nt' (cap*3) (QA (L.flatMap LNd.vals) (i*3+1) [.slice ea es.length ec])) A1)(hp2:QC A1 (.own (.slice ea es.length ec) et 2 es.length (es.flatMap TEnt.vals)) A2)(hp3:QC A2 (.star (L.map (Qw et))) A3) :
  ∃L',NdSet L L' i {nth L i with ea:=ea,ec:=ec,es:=es}/\HS w0 M (.blk gn nt' (cap*3) (L'.flatMap LNd.vals)::.star (L'.map (Qw et))::A3) w:=by
 refine⟨_,⟨hi,rfl⟩,?_⟩;rw[<-QeL hi];exact(HS.es_put hi (h.pick hp) (.there hp2) (.there hp3)).perm (List.Perm.swap ..)
theorem HS.cs_set(hi:i<L.length){ca:Option Addr}{cc:Nat}{cs:List Int}(h:HS w0 M As w)(hp:QC As (.blk gn nt' (cap*3) (QA (L.flatMap LNd.vals) (i*3+2) [.slice ca cs.length cc])) A1)(hp2:QC A1 (.own (.slice ca cs.length cc) 3 1 cs.length (cs.flatMap inV)) A2)(hp3:QC A2 (.star (L.map (Qw et))) A3) :
  ∃L',NdSet L L' i {nth L i with ca:=ca,cc:=cc,cs:=cs}/\HS w0 M (.blk gn nt' (cap*3) (L'.flatMap LNd.vals)::.star (L'.map (Qw et))::A3) w:=by
 refine⟨_,⟨hi,rfl⟩,?_⟩;rw[<-QeN hi];exact(HS.cs_put hi (h.pick hp) (.there hp2) (.there hp3)).perm (List.Perm.swap ..)
theorem HS.es_setB(hi:i<L.length){ea:Option Addr}{ec:Nat}{es:List TEnt}(h:HS w0 M As w)(hp:QC As (.blk gn nt' (cap*3) (QA (L.flatMap LNd.vals) (i*3+1) [.slice ea es.length ec])) A1)(hp2:QC A1 (.own (.slice ea es.length ec) et 2 es.length (es.flatMap TEnt.vals)) A2)(hp3:QC A2 (.star ((L.set i (nth L i).noE).map (Qw et))) A3) :
  ∃L',NdSet L L' i {nth L i with ea:=ea,ec:=ec,es:=es}/\HS w0 M (.blk gn nt' (cap*3) (L'.flatMap LNd.vals)::.star (L'.map (Qw et))::A3) w:=by
 refine⟨_,⟨hi,rfl⟩,?_⟩;rw[<-QeL hi];exact(HS.es_back hi (h.pick hp) (.there hp2) (.there hp3)).perm (List.Perm.swap ..)
theorem HS.cs_setB(hi:i<L.length){ca:Option Addr}{cc:Nat}{cs:List Int}(h:HS w0 M As w)(hp:QC As (.blk gn nt' (cap*3) (QA (L.flatMap LNd.vals) (i*3+2) [.slice ca cs.length cc])) A1)(hp2:QC A1 (.own (.slice ca cs.length cc) 3 1 cs.length (cs.flatMap inV)) A2)(hp3:QC A2 (.star ((L.set i (nth L i).noC).map (Qw et))) A3) :
  ∃L',NdSet L L' i {nth L i with ca:=ca,cc:=cc,cs:=cs}/\HS w0 M (.blk gn nt' (cap*3) (L'.flatMap LNd.vals)::.star (L'.map (Qw et))::A3) w:=by
 refine⟨_,⟨hi,rfl⟩,?_⟩;rw[<-QeN hi];exact(HS.cs_back hi (h.pick hp) (.there hp2) (.there hp3)).perm (List.Perm.swap ..)
theorem HS.es_setC(hi:i<L.length){m c:Nat}(hm:m<=c)(hc:c<=(nth L i).ec)(hml:m<=(nth L i).es.length)(h0:m=0->(nth L i).ea=none->c=0)(h:HS w0 M As w)(hp:QC As (.blk gn nt' (cap*3) (QA (L.flatMap LNd.vals) (i*3+1) [.slice (nth L i).ea m c])) A1)(hp3:QC A1 (.star (L.map (Qw et))) A3) :
  ∃L',NdSet L L' i {nth L i with ec:=c,es:=(nth L i).es.take m}/\HS w0 M (.blk gn nt' (cap*3) (L'.flatMap LNd.vals)::.star (L'.map (Qw et))::A3) w:=by
 refine⟨_,⟨hi,rfl⟩,?_⟩;have e:=QeL hi (nth L i).ea c ((nth L i).es.take m);rw[List.length_take,Nat.min_eq_left hml]at e;rw[<-e];exact(HS.es_cut hi hm hc hml h0 (h.pick hp) (.there hp3)).perm (List.Perm.swap ..)
theorem HS.cs_setC(hi:i<L.length){m c:Nat}(hm:m<=c)(hc:c<=(nth L i).cc)(hml:m<=(nth L i).cs.length)(h0:m=0->(nth L i).ca=none->c=0)(h:HS w0 M As w)(hp:QC As (.blk gn nt' (cap*3) (QA (L.flatMap LNd.vals) (i*3+2) [.slice (nth L i).ca m c])) A1)(hp3:QC A1 (.star (L.map (Qw et))) A3) :
  ∃L',NdSet L L' i {nth L i with cc:=c,cs:=(nth L i).cs.take m}/\HS w0 M (.blk gn nt' (cap*3) (L'.flatMap LNd.vals)::.star (L'.map (Qw et))::A3) w:=by
 refine⟨_,⟨hi,rfl⟩,?_⟩;have e:=QeN hi (nth L i).ca c ((nth L i).cs.take m);rw[List.length_take,Nat.min_eq_left hml]at e;rw[<-e];exact(HS.cs_cut hi hm hc hml h0 (h.pick hp) (.there hp3)).perm (List.Perm.swap ..)
end
theorem YB{α:Type}{l:List α}{i:Nat}{x:α}(h:i<=l.length):(QF l i x).length=l.length+1:=by grind[QF]
theorem QiU{α:Type}{vals:α->List Value}{sz:Nat}(hv:∀x,(vals x).length=sz)(l:List α)(i:Nat)(x:α):(l.flatMap vals).take (i*sz)++vals x++(l.flatMap vals).drop (i*sz)=(QF l i x).flatMap vals:=by grind[Qk5,Qll,QF]
def Sm(m:Nat)(ns:List Nd):Prop:=∀k,(nth ns k).es.length<=m/\(nth ns k).cs.length<=m
theorem YO{α:Type}[Inhabited α]{l:List α}{k:Nat}(h:l.length<=k):nth l k=default:=by grind[nth]
theorem ZR(ns:List Nd)(i k:Nat)(x:Nd):nth (ns.set i x) k=if i=k/\k<ns.length then x else nth ns k:=by
 by_cases hk:k<ns.length
 ·apply QP
  grind[QY]
 grind[YO]
theorem Sm.mono{m m':Nat}{ns:List Nd}(h:Sm m ns)(hm:m<=m'):Sm m' ns:=λk=>⟨Nat.le_trans (h k).1 hm,Nat.le_trans (h k).2 hm⟩
theorem Sm.set{m:Nat}{ns:List Nd}(h:Sm m ns)(i:Nat)(x:Nd)(hx:x.es.length<=m/\x.cs.length<=m):Sm m (ns.set i x):=λk=>by
 rw[ZR];split
 ·exact hx
 ·exact h k
theorem Sm.es{m:Nat}{ns:List Nd}(h:Sm m ns)(i:Nat){es:List TEnt}(hx:es.length<=m):Sm m (esN ns i es):=h.set i _ ⟨hx,(h i).2⟩
theorem Sm.cs{m:Nat}{ns:List Nd}(h:Sm m ns)(i:Nat){cs:List Int}(hx:cs.length<=m):Sm m (csN ns i cs):=h.set i _ ⟨(h i).1,hx⟩
theorem Sm.us{m:Nat}{ns:List Nd}(h:Sm m ns)(i:Nat)(b:Bool):Sm m (usN ns i b):=h.set i _ (h i)
theorem Sm.app{m:Nat}{ns:List Nd}(h:Sm m ns)(x:Nd)(hx:x.es.length<=m/\x.cs.length<=m):Sm m (ns++[x]):=λk=>by
 rcases Nat.lt_trichotomy k ns.length with hk|hk|hk
 ·rw[show nth (ns++[x]) k=nth ns k from QP (by rw[List.getElem?_append_left hk];exact QY hk)];exact h k
 ·grind[nth,QP]
 ·rw[YO (by simp;omega)];exact⟨Nat.zero_le _,Nat.zero_le _⟩
theorem Sm.fre{m:Nat}{ns:List Nd}(h:Sm m ns):Sm m (QK ns).2:=by
 unfold QK;split
 ·exact h.us _ _
 ·exact h.app _ ⟨Nat.zero_le _,Nat.zero_le _⟩
theorem Sm.splA{m:Nat}{ns:List Nd}(h:Sm m ns)(mo:Int)(i:Nat):Sm m (splA mo ns i):=by
 have h1:=h.fre;have e1:=(h1 i).1;have e2:=(h1 i).2;have h2:=(h1.es (QK ns).1 (es:=(nth (QK ns).2 i).es.drop (Qv mo+1)) (by rw[List.length_drop];omega)).es i (es:=(nth (QK ns).2 i).es.take (Qv mo)) (by rw[List.length_take];omega);unfold Gx.splA;split
 ·exact h2
 ·exact(h2.cs _ (by rw[List.length_drop];omega)).cs _ (by rw[List.length_take];omega)
theorem QnC{α:Type}(l:List α)(i:Nat)(x:α):(QF l i x).length<=l.length+1:=by grind[QF]
theorem Sm.addP{m:Nat}{ns:List Nd}(h:Sm m ns)(p k:Nat)(up:TEnt)(own:Nat):Sm (m+1) (addP ns p k up own):=by
 have e1:=QnC (nth ns p).es k up;have e2:=QnC (nth ns p).cs (k+1) (own:Int);have e3:=(h p).1;have e4:=(h p).2;exact((h.mono (Nat.le_succ m)).es p om).cs p om
theorem Sm.spl{m:Nat}{ns:List Nd}(h:Sm m ns)(mo:Int)(i:Nat):Sm (m+1) (Qak mo ns i):=(h.splA mo i).addP _ _ _ _
theorem Qly(ns:List Nd)(p k:Nat)(up:TEnt)(own:Nat):(addP ns p k up own).length=ns.length:=by
 unfold addP;rw[Qb3,Z9]
theorem Qh8(mo:Int)(ns:List Nd)(i:Nat):ns.length<=(Qak mo ns i).length/\(Qak mo ns i).length<=ns.length+1:=by
 unfold Qak;rw[Qly,QiK];exact Qbv ns
theorem Sm.low{m:Nat}{ns:List Nd}(h:Sm m ns)(hm:1<=m):Sm m (XU ns).2:=by
 unfold XU;exact(((h.fre.es _ (h 0).1).cs _ (h 0).2).es 0 (Nat.zero_le _)).cs 0 (by simpa using hm)
theorem QmG(ns:List Nd):ns.length<=(XU ns).2.length/\(XU ns).2.length<=ns.length+1:=by grind[XU,Qb3,Z9,Qbv]
structure SpOk(mo:Int)(ns:List Nd)(i:Nat):Prop where
 mo0:0<=mo/\mo<=1000
 len:ns.length<=900
 sm:Sm 900 ns
 lt:i<ns.length
 us:(nth ns i).us=true
 es:Qv mo<(nth ns i).es.length
 cs:(nth ns i).cs.length=0\/Qv mo+1<=(nth ns i).cs.length
 par:(Xx (i:Int) (splA mo ns i) 0).1<(splA mo ns i).length
 parE:(Xx (i:Int) (splA mo ns i) 0).2<=(nth (splA mo ns i) (Xx (i:Int) (splA mo ns i) 0).1).es.length
 parC:(Xx (i:Int) (splA mo ns i) 0).2+1<=(nth (splA mo ns i) (Xx (i:Int) (splA mo ns i) 0).1).cs.length
abbrev LNd.non(n:LNd):LNd:=⟨n.us,none,0,[],none,0,[]⟩
section
variable{w0 w:World}{M:List Nat}{As A1 A2 A3:List HA}{et:Nat}{L:List LNd}{i j gn cap nt':Nat}
theorem HS.star_move(hi:i<L.length)(hj:j<L.length)(hne:i≠j)(us:Bool)(h:HS w0 M As w)(hp:QC As (.star (L.map (Qw et))) A1):HS w0 M (.star (((L.set j {nth L i with us:=us}).set i (nth L i).non).map (Qw et))::A1) w:=by
 have h1:=((h.node_out hi hp).own_nil 3 1).own_nil et 2
 have h2:=h1.perm (As':=_::_::_::Qiw et (nth L i)::Qk7 (nth L i)::A1) (List.Perm.cons _ (List.Perm.cons _ (List.perm_middle (l₁:=[Qiw et (nth L i),Qk7 (nth L i)]))));have h3:=HS.node_in hi (nth L i).non h2;have h4:=HS.node_out (L:=L.set i (nth L i).non) (i:=j) (by rw[List.length_set];exact hj) h3 .here;have h5:=h4.tail.tail;have h6:=h5.perm (As':=Qiw et (nth L i)::Qk7 (nth L i)::_::A1) (List.perm_middle (l₁:=[Qiw et (nth L i),Qk7 (nth L i)])).symm;have h7:=HS.node_in (L:=L.set i (nth L i).non) (i:=j) (by rw[List.length_set];exact hj) {nth L i with us:=us} h6;rw[List.set_comm _ _ hne]at h7;exact h7
theorem HS.node_move(hi:i<L.length)(hj:j<L.length)(hne:i≠j)(h:HS w0 M As w)
  (hp:QC As (.blk gn nt' (cap*3) (QA (QA (L.flatMap LNd.vals) (j*3+1) [.slice (nth L i).ea (nth L i).es.length (nth L i).ec]) (j*3+2) [.slice (nth L i).ca (nth L i).cs.length (nth L i).cc])) A1)(hp3:QC A1 (.star (L.map (Qw et))) A3) :
  ∃L',NdSet L L' j {nth L i with us:=(nth L j).us}/\HS w0 M (.blk gn nt' (cap*3) (L'.flatMap LNd.vals)::.star ((L'.set i (nth L i).non).map (Qw et))::A3) w:=by
 refine⟨_,⟨hj,rfl⟩,?_⟩;have e:=QdY hj (nth L i).ea (nth L i).ec (nth L i).es (nth L i).ca (nth L i).cc (nth L i).cs;rw[<-e];exact(HS.star_move hi hj hne (nth L j).us (h.pick hp) (.there hp3)).perm (List.Perm.swap ..)
theorem HS.node_low(hi:i<L.length){ca:Option Addr}{cc:Nat}{cs:List Int}(h:HS w0 M As w)
  (hp:QC As (.blk gn nt' (cap*3) (QA (QA (L.flatMap LNd.vals) (i*3+1) [.slice none 0 0]) (i*3+2) [.slice ca cs.length cc])) A1)(hp2:QC A1 (.own (.slice ca cs.length cc) 3 1 cs.length (cs.flatMap inV)) A2)(hp3:QC A2 (.star ((L.set i ⟨(nth L i).us,none,0,[],none,0,[]⟩).map (Qw et))) A3) :
  ∃L',NdSet L L' i ⟨(nth L i).us,none,0,[],ca,cc,cs⟩/\HS w0 M (.blk gn nt' (cap*3) (L'.flatMap LNd.vals)::.star (L'.map (Qw et))::A3) w:=by
 refine⟨_,⟨hi,rfl⟩,?_⟩;have e:=QdY hi none 0 [] ca cc cs;rw[<-e];have h1:=HS.cs_put (L:=L.set i ⟨(nth L i).us,none,0,[],none,0,[]⟩) (i:=i) (by rw[List.length_set];exact hi) (h.pick hp) (.there hp2) (.there hp3);rw[ZB hi,List.set_set]at h1;exact h1.perm (List.Perm.swap ..)
end
theorem Qex{ns:List Nd}{i:Nat}(hi:i<ns.length)(es:List TEnt)(cs:List Int):csN (esN ns i es) i cs=ns.set i ⟨(nth ns i).us,es,cs⟩:=by
 unfold csN;rw[QoH hi,if_pos rfl,esN,List.set_set]
theorem Qoo{ns:List Nd}(h0:0<ns.length)(hu:(nth ns 0).us=true):(QK ns).1≠0/\(QK ns).1<(QK ns).2.length/\nth (QK ns).2 0=nth ns 0:=⟨Qew h0 hu,QeK ns,QbE h0 hu⟩
end Gx
namespace Gx
open Go Go.RowKit
def HA.obj(b:Nat)(o:Obj):HA:=⟨[b],λw=>w.heap[b]?=some o,λw w' h hk=>(h b (List.mem_singleton.2 rfl)).trans hk⟩
section
variable{w0 w:World}{M:List Nat}{As As':List HA}
theorem HS.allocObj(h:HS w0 M As w)(o:Obj):HS w0 M (.obj w.heap.size o::As) (w.alloc o):=h.alloc o _ rfl (World.alloc_heap_new w o)
theorem HS.obj_get{b:Nat}{o:Obj}(h:HS w0 M As w)(hp:QC As (.obj b o) As'):w.heap[b]?=some o:=h.ok _ hp.mem
theorem HS.putObj{b:Nat}{o:Obj}(h:HS w0 M As w)(hp:QC As (.obj b o) As')(o':Obj):HS w0 M (.obj b o'::As') (w.putObj b o'):=by
 have h1:=h.pick hp;have hb:w.heap[b]?=some o:=h1.head;have hlt:b<w.heap.size:=(Array.getElem?_eq_some_iff.1 hb).1;refine h1.swap (λ_ hx=>hx) rfl rfl rfl (by simp[World.putObj]) (λc hc=>World.putObj_heap_other (λe=>hc (by subst e;exact List.mem_singleton.2 rfl))) (World.putObj_heap_same hlt)
end
def QeB(P:Program)(l:Nat)(args:Array Value)(w:World)(R:Ending->World->Prop):Prop:=
 ∃f tmps assign body,(Instr.yield l args).run P w=.ok (.round l f tmps assign body) w/\RoundIn Fence.wide 0 P l f tmps assign body w R
section
variable{P:Program}{o:Oper}{L:Qk}
theorem QjY{C:World->Prop}{G:Type}{V:G->Value}{F:G->Prop}{C':G->World->Prop}{x:Operand}{args:Array Operand}{vs:List Value}{ts:Array TypeId}{l:Nat}(ho:o.op=.call {callee:=.value x,args:=args,argTypes:=ts})(hx:ev L x=some (.func (.yield l) #[] #[]))
  (ha:evs L args.toList=some vs)(hy:∀w,C w->QeB P l vs.toArray w λe w'=>∃g,e=.returned (V g)/\F g/\C' g w'):OpH P o L C V F C':=by
 intro ρ w hρ hw;obtain⟨f,tmps,assign,body,hr,hR⟩:=hy w hw;have e1:args.map ρ=vs.toArray:=by rw[<-Qdh hρ ha,<-List.map_toArray]
 unfold execOp;simp only[ho,resolve,Sem.run_bind,hρ _ _ hx,Deferred.ofValue,e1,Sem.run_pure,Result.andThen_ok,invoke,Array.empty_append,hr];exact RoundIn.mono hR λe w'⟨g,he,hf,hc⟩=>⟨V g,he,g,rfl,hf,hc⟩
end
def rdy(fid:FuncId)(tmps:Array Value)(ps:Array Tmp)(assign body:Code)(D:Nat):Loop:={state:=.ready,pending:=none,fn:=fid,tmps:=tmps,params:=ps,assign:=assign,body:=body,defers:=D}
theorem Qhy{P:Program}{fn:Func}{n l D:Nat}{fid:FuncId}{tmps:Array Value}{ps:Array Tmp}{assign body:Code}{args:Array Value}{L0 L1:Qk}{w0 W:World}{M:List Nat}{As As1:List HA}{Rr:Ending->World->Prop}
  (hC:HS w0 M (.obj l (.loop (rdy fid tmps ps assign body D))::As) W)(hps:args.size=ps.size)(hf:FR n [] L0 {tmps:=(ps.zip args).foldl (λt(p,v)=>t.setIfInBounds p v) tmps,defers:=[]})
  (h1:S {P:=P,fn:=fn,n:=n,R:=λ_ _=>False,rd:=some l} [.c assign,.join (At n [] (λ_:Unit=>L1) (λ_=>HS w0 M (.obj l (.loop (rdy fid tmps ps assign body D))::As1)))] L0 (HS w0 M (.obj l (.loop (rdy fid tmps ps assign body D))::As)))
  (h2:S {P:=P,fn:=fn,n:=n,R:=Rr,rd:=some l} [.c body] L1 (HS w0 M (.obj l (.loop {rdy fid tmps ps assign body D with state:=.busy})::As1))):QeB P l args W Rr:=by
 refine⟨fid,_,assign,body,run_yield (hC.obj_get .here) hps,roundIn_of_wpIn trivial ?_⟩;refine wpIn_mono (h1 _ W hf hC) λe a w he=>?_;cases e with
 | normal=>
  obtain⟨_,hfr,hc⟩:=he;exact⟨_,run_beginRound (hc.obj_get .here) rfl,h2 _ _ hfr (hc.putObj .here _)⟩
 | ret=>obtain⟨v,w',_,hx⟩:=he;exact hx
 | exit id=>obtain⟨v,w',_,hx⟩:=he;exact hx
 | goto t=>obtain⟨v,w',_,hx⟩:=he;exact hx
 | panic ch=>exact he
 | outgrown=>exact he
theorem FR.round1{n:Nat}{L:Qk}{a:Act}(h:FR n [] L a)(d:Nat)(v:Value)(hd:Nat.blt d n=true):FR n [] ((d,v)::L) {tmps:=((#[d]:Array Tmp).zip #[v]).foldl (λt(p,v)=>t.setIfInBounds p v) a.tmps,defers:=[]}:=by
 have h1:=h.put d v hd;have e:((#[d]:Array Tmp).zip #[v]).foldl (λt(p,v)=>t.setIfInBounds p v) a.tmps=a.tmps.setIfInBounds d v:=by simp
 rw[e];exact⟨rfl,h1.size,h1.slot⟩
section
variable{X:Ctx}{k:List KI}{L:Qk}{w0:World}{M:List Nat}{As As':List HA}
theorem QiW{C:World->Prop}{l:Nat}(hrd:X.rd=some l)(h:∀w,C w->∃r,w.heap[l]?=some (.loop r)/\X.R (.returned (.bool true)) (w.putObj l (.loop {r with state:=.ready,pending:=none}))):S X [] L C:=by
 intro a w ha hw;show(match X.rd with|none=>bodyPostM X.F 0 X.P X.fn X.R .normal a w|some l=>roundPost X.P l X.R .normal a w);rw[hrd];obtain⟨r,h1,h2⟩:=h w hw;exact⟨_,_,run_endRound none h1,h2⟩
theorem QaA{l D:Nat}{fid:FuncId}{tmps:Array Value}{ps:Array Tmp}{assign body:Code}(hrd:X.rd=some l)(hp:QC As (.obj l (.loop {rdy fid tmps ps assign body D with state:=.busy})) As')(h:∀w,HS w0 M (.obj l (.loop (rdy fid tmps ps assign body D))::As') w->X.R (.returned (.bool true)) w):S X [] L (HS w0 M As):=
 QiW hrd λw hw=>⟨_,hw.obj_get hp,h _ (hw.putObj hp _)⟩
theorem Qes(d:List Nat):∀k,post {X with df:=d} k=post X k
 | []=>by funext e a w;rfl
 | Sum.inl c::k=>by funext e a w;cases e<;>simp only[post,Qes d k]
 | Sum.inr (Sum.inl id)::k=>by funext e a w;cases e<;>simp only[post,Qes d k]
 | Sum.inr (Sum.inr J)::k=>by funext e a w;cases e<;>simp only[post,Qes d k]
theorem Qho{g:Operand}{ps:Array Tmp}{assign body:Code}{gf:FuncId}{lb:Array Value}{G:Type}{Bs:G->List HA}(hrd:X.rd=none)(hdf:X.df=[])(hg:ev L g=some (.func (.func gf) #[] lb))(hfn:QH X.P gf=true)
  (hit:∀(fid:FuncId)(D l:Nat)(a:Act)(w1:World)(ob:Obj),ob=.loop (rdy fid a.tmps ps assign body D)->FR X.n [] L a->HS w0 M (.obj l ob::.obj D (.deferred (some []))::As) w1 ->
   Calls X.P gf (#[.func (.yield l) #[] #[]]++lb) w1 λe w2=>(∃v,e=.returned v)/\∃x,HS w0 M (.obj l ob::.obj D (.deferred (some []))::Bs x) w2)
  (next:∀D x,S {X with df:=[D]} k L (HS w0 M (.obj D (.deferred (some []))::Bs x))):S X (.c (.rangeFunc g ps assign body)::k) L (HS w0 M As):=by
 intro a w ha hw;have ha0:FR X.n [] L a:=by rw[<-hdf];exact ha
 refine wpIn_rangeFunc (F:=X.F) (n:=0) λfid _=>?_;have hro:X.F.round=none:=hrd;rw[hro];have hw1:=(hw.allocObj (.deferred (some []))).allocObj (.loop (rdy fid a.tmps ps assign body w.heap.size));rw[World.size_alloc]at hw1;have hen:=run_enterLoop_outer (P:=X.P) (w:=w) fid a.tmps ps assign body;obtain⟨W1,hW1⟩:∃W1,(w.alloc (.deferred (some []))).alloc (.loop (rdy fid a.tmps ps assign body w.heap.size))=W1:=⟨_,rfl⟩;rw[hW1]at hw1;rw[show(Loop.mk .ready none fid a.tmps ps assign body w.heap.size)=rdy fid a.tmps ps assign body w.heap.size from rfl,hW1]at hen
 refine⟨w.heap.size+1,[{target:=.collected w.heap.size,args:=#[]}],W1,{target:=.fn (.func gf) lb,args:=#[.func (.yield (w.heap.size+1)) #[] #[]]},W1,gf,
  #[.func (.yield (w.heap.size+1)) #[] #[]]++lb,W1,hen,?_,λ_ _=>trivial,?_,λh=>(by cases h),?_⟩
 ·simp only[resolve,ha.evl hg];simp[go_sem]
 ·simp[invoke,go_sem,Qde hfn]
 ·refine CallsIn.mono (X.callsIn (hit fid _ _ a _ _ rfl ha0 hw1)) λe w2 he=>?_;obtain⟨⟨v,rfl⟩,x,hx⟩:=he;refine⟨none,_,run_endLoop (hx.obj_get .here) (by simp[rdy]),?_⟩;have h3:=next w.heap.size x {a with defers:=[{target:=.collected w.heap.size,args:=#[]}]++a.defers} _ ⟨by show _++a.defers=_;rw[ha0.defers];rfl,ha0.size,ha0.slot⟩ (hx.putObj .here (.loop {rdy fid a.tmps ps assign body w.heap.size with state:=.exhausted})).tail
  rw[Qes]at h3;exact h3
theorem Qg3{D:Nat}{rs:List ResultVar}{vs:List Value}(hr:X.fn.results=rs.toArray)(hp:QC As (.obj D (.deferred (some []))) As')(hv:RV X.P L As' rs vs)(h:∀w,HS w0 M As' w->X.R (.returned (QV vs)) w)(hrd:X.rd=none:=by rfl)(hdf:X.df=[D]:=by rfl):S X (.c .ret::k) L (HS w0 M As):=by
 refine QpC (ZM λa w ha hw=>?_);show(match X.rd with|none=>bodyPostM X.F 0 X.P X.fn X.R .ret a w|some l=>roundPost X.P l X.R .ret a w);rw[hrd];show LeavesInM X.F 0 X.P X.fn a.tmps X.R a.defers .returning w;rw[ha.defers,hdf];have h1:=(hw.putObj hp (.deferred none)).tail;refine⟨by simp,.inl ⟨D,_,rfl,run_takeDeferred (hw.obj_get hp),QV vs,?_,h _ h1⟩⟩;have hm:=hv.run ha h1;rw[QfJ hr,Array.mapM_eq_mapM_toList];simp only[Sem.run_bind,Sem.run_map,hm,Result.andThen_ok,Sem.run_pure]
 match vs with
 | []=>rfl
 | [v]=>rfl
 | u::v::vs=>simp[QV]
end
end Gx
namespace Gx
open Go Go.RowKit
theorem Qg1{X:Ctx}{k:List KI}{L:Qk}{C:World->Prop}{α:Type}{c:Code}(md:List Nat)(Lm:α->Qk)(I:α->Prop)(h1:S X (.c c::.join (AtI X.n X.df (λx=>Lm x++QcB md L) (λ_=>C) I)::k) L C)(h2:∀x,I x->S X k (Lm x++QcB md L) C):S X (.c c::k) L C:=
 Xe md Lm (λ_=>C) I h1 h2
end Gx
namespace Gx
open Go Go.RowKit
theorem FR.round2{n:Nat}{L:Qk}{a:Act}(h:FR n [] L a)(d d':Nat)(v v':Value)(hd:Nat.blt d n=true)(hd':Nat.blt d' n=true):FR n [] ((d',v')::(d,v)::L) {tmps:=((#[d,d']:Array Tmp).zip #[v,v']).foldl (λt(p,v)=>t.setIfInBounds p v) a.tmps,defers:=[]}:=by
 have h1:=(h.put d v hd).put d' v' hd';have e:((#[d,d']:Array Tmp).zip #[v,v']).foldl (λt(p,v)=>t.setIfInBounds p v) a.tmps=(a.tmps.setIfInBounds d v).setIfInBounds d' v':=by simp
 rw[e];exact⟨rfl,h1.size,h1.slot⟩
def HA.pure(p:Prop):HA:=⟨[],λ_=>p,λ_ _ _ h=>h⟩
section
variable{w0 w:World}{M:List Nat}{As As':List HA}{p:Prop}
theorem HS.add_pure(hp:p)(h:HS w0 M As w):HS w0 M (.pure p::As) w:=
 ⟨h.os,h.tape,h.output,h.size,h.old,λA hA=>by
  rcases List.mem_cons.1 hA with rfl|hA
  ·exact hp
  ·exact h.ok A hA,λA hA b hb=>by
  rcases List.mem_cons.1 hA with rfl|hA
  ·cases hb
  ·exact h.lt A hA b hb,List.pairwise_cons.2 ⟨λA _ b hb=>(nomatch hb),h.sep⟩⟩
theorem HS.get_pure(h:HS w0 M As w)(hp:QC As (.pure p) As'):p:=(h.pick hp).head
theorem HS.rw_ownF{α:Type}[Inhabited α]{vals:α->List Value}{sz:Nat}(hv:∀x,(vals x).length=sz){Cs Ds Es:List HA}{a:Option Addr}{cap n t:Nat}{l:List α}(h:HS w0 M As w)(hp:Qaf As Cs Ds)(hp2:QC Ds (.own (.slice a n cap) t sz n (l.flatMap vals)) Es)(hn:n=l.length):Rw vals sz w (fps Cs) a l:=by
 subst hn;refine⟨λhn=>?_⟩;have h1:HS w0 M (.own (.slice a l.length cap) t sz l.length (l.flatMap vals)::(Cs++Es)) w:=h.perm (hp.trans ((hp2.perm.append_left Cs).trans List.perm_middle));obtain⟨g,cap',e,_,_,_,h2⟩:=h1.own_open' hn;injection e with e1 e2 e3
 subst e1;have h3:HS w0 M (Cs++.blk g t (cap'*sz) (l.flatMap vals)::Es) w:=h2.perm List.perm_middle.symm;refine⟨g,0,rfl,λi hi=>⟨hv _,λj v hjv=>?_⟩⟩;have hj:j<sz:=by grind
 have:=HS.rd_blkF (i:=i*sz+j) h3 (.refl _) .here (v:=v) (by rw[QbM hv l i j _ (QY hi) hj];exact hjv)
 grind
theorem Qjh{X:Ctx}{L:Qk}{D:Nat}(hr:X.fn.results= #[])(hp:QC As (.obj D (.deferred (some []))) As')(h:∀w,HS w0 M As' w->X.R (.returned (.tuple #[])) w)(hrd:X.rd=none:=by rfl)(hdf:X.df=[D]:=by rfl):S X [] L (HS w0 M As):=by
 intro a w ha hw;show(match X.rd with|none=>bodyPostM X.F 0 X.P X.fn X.R .normal a w|some l=>roundPost X.P l X.R .normal a w);rw[hrd];show LeavesInM X.F 0 X.P X.fn a.tmps X.R a.defers .returning w;rw[ha.defers,hdf];have h1:=(hw.putObj hp (.deferred none)).tail;exact⟨by simp,.inl ⟨D,_,rfl,run_takeDeferred (hw.obj_get hp),.tuple #[],results_none hr _ _ _,h _ h1⟩⟩
end
end Gx
namespace Gx
open Go Go.RowKit
abbrev iN(P:List Nat):List Int:=P.map λi:Nat=>(i:Int)
theorem QqP{P:List Nat}{k:Nat}(h:k<P.length):(iN P).getD k 0=((nth P k:Nat):Int):=by
 rw[YL (d:=0) h];rfl
theorem Qjd{P:List Nat}{k:Nat}(h:k<P.length):nth (iN P) k=((nth P k:Nat):Int):=QqP h
theorem QcX(P:List Nat):(iN P).length=P.length:=by simp
def Qcx(mo:Int):List Nd->List Nat->Prop
 | _,[]=>True
 | ns,i::P=>(i<ns.length/\(0<i->mo<((nth ns i).es.length:Int)->SpOk mo ns i))/\Qcx mo (QaZ mo ns i) P
structure RootOk(mo rm:Int)(ns:List Nd):Prop where
 lt:0<ns.length
 len:ns.length<=900
 us:(nth ns 0).us=true
 spl:rm<((nth ns 0).es.length:Int)->mo<((nth (XU ns).2 (XU ns).1).es.length:Int)->SpOk mo (XU ns).2 (XU ns).1
theorem Qo3(ns:List Nd):(XU ns).1<(XU ns).2.length:=Nat.lt_of_lt_of_le (QeK ns) (by unfold XU;simp only[Qb3,Z9];exact Nat.le_refl _)
theorem Qky{P:List Nat}{k:Nat}(h:k<P.length):P.reverse[k]?=some (nth P (P.length-1-k)):=by grind[QY]
theorem Qnz{P:List Nat}{k:Nat}(h:k<P.length):P.reverse.drop k=nth P (P.length-1-k)::P.reverse.drop (k+1):=by
 have h1:k<P.reverse.length:=by rw[List.length_reverse];exact h
 rw[List.drop_eq_getElem_cons h1];congr 1;have:=Qky h
 grind
theorem Qnv{P:List Nat}{k:Nat}(h:k<P.length):P.reverse.take (k+1)=P.reverse.take k++[nth P (P.length-1-k)]:=by
 rw[List.take_add_one,Qky h];rfl
theorem Qlo(mo:Int)(ns:List Nd)(P:List Nat)(i:Nat):XV mo ns (P++[i])=QaZ mo (XV mo ns P) i:=by grind[XV]
def YX(co:Int)(ns:List Nd)(key:List UInt8):Nat:=nth (Qh co ns key).1 ((Qh co ns key).1.length-1)
def Qjn(co:Int)(ns:List Nd)(x:TEnt):List Nd:=esN ns (YX co ns x.key) (QF (nth ns (YX co ns x.key)).es (Qh co ns x.key).2.1 x)
def Z1(co mo rm:Int)(ns:List Nd)(x:TEnt):List Nd:=if(Qh co ns x.key).2.2=true then ns else Qej mo rm (Qjn co ns x) (Qh co ns x.key).1.reverse
def Qgf(co mo rm:Int)(ns:List Nd)(x:TEnt):Int:=if(Qh co ns x.key).2.2=true then 5 else if(Z1 co mo rm ns x).length<=120 then 0 else 16
structure InsOk(co mo rm:Int)(ns:List Nd)(x:TEnt):Prop where
 ne:0<(Qh co ns x.key).1.length
 len:(Qh co ns x.key).1.length<=900
 lf:YX co ns x.key<ns.length
 es:(nth ns (YX co ns x.key)).es.length<=900
 pl:(Qh co ns x.key).2.1<=(nth ns (YX co ns x.key)).es.length
 grw:Qcx mo (Qjn co ns x) (Qh co ns x.key).1.reverse
 root:RootOk mo rm (XV mo (Qjn co ns x) (Qh co ns x.key).1.reverse)
section
variable{w0 w:World}{M:List Nat}{As As':List HA}{a:Option Addr}{cap:Nat}{P:List Nat}
theorem HS.kids_some{l:List Int}(hn:0<l.length)(h:HS w0 M As w)(hp:QC As (.kids a cap l) As'):∃g,a=some ⟨g,0,none⟩:=by
 obtain⟨g,e,_⟩:=HS.own_blk hn hp h;exact⟨g,e⟩
theorem HS.path_rd{k g:Nat}(hk:k<P.length)(hg:a=some ⟨g,0,none⟩)(h:HS w0 M As w)(hp:QC As (.kids a cap (iN P)) As'):Rd w [] g (0+k*1) (.int .i64 ((nth P k:Nat):Int)):=by
 have h1:=Rw.rd (h.rw_own (vals:=inV) (l:=iN P) iv1 hp rfl) (i:=k) (by rw[QcX];exact hk) 0 (.int .i64 ((nth P k:Nat):Int)) (by rw[Qjd hk];rfl);rw[hg]at h1;exact h1
end
theorem Qa5{co:Int}{ns:List Nd}(h:TOk co ns):∀i,i<ns.length->∀x∈(nth ns i).es,QS co x.key=true/\x.key.length<=1000000:=λi hi x hx=>by
 have h1:=Zq (h.ents i hi x hx)
 grind[QdD]
theorem QkT{l:List LNd}{k:Nat}(hk:k<l.length)(x:LNd):QA (l.flatMap LNd.vals) (k*3) (LNd.vals x)=(l.set k x).flatMap LNd.vals:=by
 have h:=Qao nv3 l k 0 (LNd.vals x) (nth l k) x (QY hk) rfl (by simp[LNd.vals])
 grind
theorem cat2{α:Type}(a b:RowV α):[a,b].flatMap RowV.l=a.l++b.l:=by simp
def Q2(P:List Nat):Nat:=nth P (P.length-1)
abbrev Qog(a:Option Addr)(c:Nat)(P:List Nat):HA:=.own (.slice a P.length c) 3 1 P.length (P.map λi:Nat=>Value.int .i64 (i:Int))
theorem Qn1(l:List Nat):(iN l).flatMap inV=l.map λi:Nat=>Value.int .i64 (i:Int):=by
 induction l with
 | nil=>rfl
 | cons x l ih=>
  rw[iN,List.map_cons,List.flatMap_cons,List.map_cons,<-ih];rfl
theorem Qk8(a:Option Addr)(c:Nat)(P:List Nat):HA.kids a c (iN P)=Qog a c P:=by
 unfold HA.kids;rw[Qn1,QcX]
section
variable{w0 w:World}{M:List Nat}{As A1 A2 A3:List HA}{a:Option Addr}{c:Nat}{P:List Nat}
theorem HS.pown_some(hn:0<P.length)(h:HS w0 M As w)(hp:QC As (Qog a c P) A1):∃g,a=some ⟨g,0,none⟩:=by grind[HS.own_blk]
theorem HS.pown_row(h:HS w0 M As w)(hp:QC As (Qog a c P) A1):Rw inV 1 w [] a (iN P):=by
 have h1:=h.pick hp;rw[<-Qk8]at h1;exact h1.rw_own (l:=iN P) iv1 .here rfl
theorem HS.pown_rd{k g:Nat}(hk:k<P.length)(hg:a=some ⟨g,0,none⟩)(h:HS w0 M As w)(hp:QC As (Qog a c P) A1):Rd w [] g (0+k*1) (.int .i64 ((nth P k:Nat):Int)):=by
 have h1:=Rw.rd (h.pown_row hp) (i:=k) (by rw[QcX];exact hk) 0 (.int .i64 ((nth P k:Nat):Int)) (by rw[Qjd hk];rfl);rw[hg]at h1;exact h1
end
theorem HS.nd_cells{w0 w:World}{M:List Nat}{As A1:List HA}{L:List LNd}{i gn cap nt':Nat}(hi:i<L.length)(h:HS w0 M As w)(hp:QC As (.blk gn nt' (cap*3) (L.flatMap LNd.vals)) A1):∀j v,(LNd.vals (nth L i))[j]?=some v->Rd w [] gn (i*3+j) v:=λj v hv=>by
 have hj:j<3:=by
  have:=(List.getElem?_eq_some_iff.1 hv).1;exact this
 exact HS.nd_cell hi h hp j hv hj
theorem Qc1{α:Type}[Inhabited α]{l m:List α}(hl:l.length=m.length)(h:∀j,j<l.length->nth l j=nth m j):l=m:=by
 apply List.ext_getElem?
 grind[QY]
def QdI(a b:List Nd)(k:Nat):List Nat:=(List.range k).filter λi=>decide (nth a i≠nth b i)
def QgW(a b:List Nd):List Nat:=QdI a b (max a.length b.length)
theorem QoM{a b:List Nd}{k:Nat}(h:nth a k=nth b k):QdI a b (k+1)=QdI a b k:=by
 unfold QdI;rw[List.range_succ,List.filter_append];simp[h]
theorem Qoi{a b:List Nd}{k:Nat}(h:nth a k≠nth b k):QdI a b (k+1)=QdI a b k++[k]:=by
 unfold QdI;rw[List.range_succ,List.filter_append];simp[h]
theorem QlY(a b:List Nd)(k:Nat):(QdI a b k).length<=k:=by
 have:=List.length_filter_le (λi=>decide (nth a i≠nth b i)) (List.range k);rw[List.length_range]at this;exact this
theorem QoU{x y:TEnt}(h1:(bs x.key).data.toList=(bs y.key).data.toList)(h2:(bs x.val).data.toList=(bs y.val).data.toList):x=y:=by
 cases x
 simp_all
theorem QaG(L:List LNd)(k:Nat):nth (pln L) k=(nth L k).pl:=by
 rcases Nat.lt_or_ge k L.length with h|h
 ·exact Qp h
 ·rw[YO (by rw[Qb];exact h),YO h];rfl
theorem Rw.nilR{α:Type}[Inhabited α]{vals:α->List Value}{sz:Nat}{w:World}{M:List Nat}{a:Option Addr}:Rw vals sz w M a ([]:List α):=⟨λh=>absurd h (Nat.lt_irrefl _)⟩
theorem Nt.esA{w:World}{M:List Nat}{a:Option Addr}{L:List LNd}(h:Nt w M a L)(k:Nat):Rw TEnt.vals 2 w M (nth L k).ea (nth L k).es:=by
 rcases Nat.lt_or_ge k L.length with hk|hk
 ·exact h.es hk
 ·rw[YO hk];exact Rw.nilR
theorem Nt.csA{w:World}{M:List Nat}{a:Option Addr}{L:List LNd}(h:Nt w M a L)(k:Nat):Rw inV 1 w M (nth L k).ca (nth L k).cs:=by
 rcases Nat.lt_or_ge k L.length with hk|hk
 ·exact h.cs hk
 ·rw[YO hk];exact Rw.nilR
theorem Qrz(n m:Nd):decide (n=m)=(decide (n.us=m.us)&&(decide (n.es=m.es)&&decide (n.cs=m.cs))):=by
 cases n;cases m
 grind
theorem Qmh(n m:LNd):((n.us==m.us&&decide (n.es=m.es))&&decide (n.cs=m.cs))=decide (n.pl=m.pl):=by
 rw[Qrz,Bool.and_assoc];rfl
theorem keyE_ok{co:Int}{k:List UInt8}(h:YU co k=0):QS co k=true:=by grind[YU]
theorem QmP{co mo rm:Int}{ns:List Nd}{x:TEnt}(h:Qgf co mo rm ns x=0):¬(Qh co ns x.key).2.2=true/\(Z1 co mo rm ns x).length<=120:=by grind[Qgf]
theorem Qey{α:Type}[Inhabited α]{vals:α->List Value}{sz:Nat}{w:World}{M:List Nat}{a:Option Addr}{l:List α}(h:Rw vals sz w M a l)(i:Nat):Rw vals sz w M a (l.take i):=
 ⟨λhn=>by
  rw[List.length_take]at hn;obtain⟨b,o,rfl,h2⟩:=h.at_ om;refine⟨b,o,rfl,λj hj=>?_⟩;rw[List.length_take]at hj;have e:nth (l.take i) j=nth l j:=Qme om;have h3:=h2 j om;simp only[e];exact h3⟩
theorem QqI{co:Int}{key:List UInt8}:∀{es:List TEnt}{k:Nat},k<=es.length->(∀q,q<k->QM co (nth es q).key key<0)->¬(k<es.length/\QM co (nth es k).key key<0)->plc co es key=k:=by
 intro es k hk h1 h2;have h3:=ZJ co key es;rcases Nat.lt_trichotomy (plc co es key) k with h|h|h
 ·exact absurd (h1 _ h) (Qhb co key es om)
 ·exact h
 ·exact absurd ⟨om,QaU co key es k h⟩ h2
abbrev LNd.fre:LNd:=⟨true,none,0,[],none,0,[]⟩
section
variable{w0 w:World}{M:List Nat}{As A1 A2 A3:List HA}{et:Nat}{L:List LNd}{i j gn cap nt':Nat}
theorem HS.node_fre(hi:i<L.length)(h:HS w0 M As w)
  (hp:QC As (.blk gn nt' (cap*3) (QA (L.flatMap LNd.vals) (i*3) [.bool true,.slice none 0 0,.slice none 0 0])) A1)(hp3:QC A1 (.star (L.map (Qw et))) A3) :
  ∃L',NdSet L L' i LNd.fre/\HS w0 M (.blk gn nt' (cap*3) (L'.flatMap LNd.vals)::.star (L'.map (Qw et))::A3) w:=by
 refine⟨_,⟨hi,rfl⟩,?_⟩;rw[<-QkT hi];have h1:=(((h.pick hp).node_out hi (.there hp3)).tail.tail.own_nil 3 1).own_nil et 2;exact(HS.node_in hi LNd.fre h1).perm (List.Perm.swap ..)
end
section
variable{w0 w:World}{M:List Nat}{As A1 A2 A3:List HA}{et:Nat}{L:List LNd}{i gn cap nt':Nat}
theorem HS.es_setN(hi:i<L.length){ea:Option Addr}{ec n:Nat}{es:List TEnt}{xs:List Value}(hn:n=es.length)(hx:xs=es.flatMap TEnt.vals)(h:HS w0 M As w)(hp:QC As (.blk gn nt' (cap*3) (QA (L.flatMap LNd.vals) (i*3+1) [.slice ea n ec])) A1)(hp2:QC A1 (.own (.slice ea n ec) et 2 n xs) A2)(hp3:QC A2 (.star (L.map (Qw et))) A3) :
  ∃L',NdSet L L' i {nth L i with ea:=ea,ec:=ec,es:=es}/\HS w0 M (.blk gn nt' (cap*3) (L'.flatMap LNd.vals)::.star (L'.map (Qw et))::A3) w:=by
 grind[HS.es_set,hi]
theorem HS.cs_setN(hi:i<L.length){ca:Option Addr}{cc n:Nat}{cs:List Int}{xs:List Value}(hn:n=cs.length)(hx:xs=cs.flatMap inV)(h:HS w0 M As w)(hp:QC As (.blk gn nt' (cap*3) (QA (L.flatMap LNd.vals) (i*3+2) [.slice ca n cc])) A1)(hp2:QC A1 (.own (.slice ca n cc) 3 1 n xs) A2)(hp3:QC A2 (.star (L.map (Qw et))) A3) :
  ∃L',NdSet L L' i {nth L i with ca:=ca,cc:=cc,cs:=cs}/\HS w0 M (.blk gn nt' (cap*3) (L'.flatMap LNd.vals)::.star (L'.map (Qw et))::A3) w:=by
 grind[HS.cs_set,hi]
end
theorem QjK{w:World}{n m:LNd}(he:n.ca=m.ca/\n.cc=m.cc/\n.cs=m.cs)(h:Rw inV 1 w [] n.ca n.cs):Rw inV 1 w [] m.ca m.cs:=by grind
def Qbi(ns:List Nd):Nat->Nat->Nat
 | 0,i=>i
 | f+1,i=>if i<ns.length then if(nth ns i).us=true then Qbi ns f (i+1)else i else i
def QcL(ns:List Nd):Nat:=Qbi ns ns.length 1
def Xb(ns:List Nd):Nat×List Nd:=if QcL ns<ns.length then(QcL ns,ns.set (QcL ns) ⟨true,[],[]⟩)else(ns.length,ns++[⟨true,[],[]⟩])
theorem Qkm(ns:List Nd):∀f i,i<=ns.length->Qbi ns f i<=ns.length
 | 0,i,h=>h
 | f+1,i,h=>by
  rw[Qbi];split
  ·split
   ·exact Qkm ns f (i+1) om
   ·exact h
  ·exact h
theorem Qg8(ns:List Nd):∀f i,i<=Qbi ns f i
 | 0,i=>Nat.le_refl _
 | f+1,i=>by
  rw[Qbi];split
  ·split
   ·simp[Nat.le_of_succ_le,Qg8]
   grind
  grind
theorem Qo8{ns:List Nd}(h0:0<ns.length):1<=(Xb ns).1:=by
 unfold Xb;split
 ·exact Qg8 ns _ 1
 ·exact h0
theorem Qkl(ns:List Nd):(Xb ns).1<(Xb ns).2.length:=by grind[Xb]
theorem Qh0(ns:List Nd):ns.length<=(Xb ns).2.length/\(Xb ns).2.length<=ns.length+1:=by grind[Xb]
theorem Qhp(ns:List Nd):∀f i,Qbi ns f i<ns.length->ns.length<i+f->(nth ns (Qbi ns f i)).us=false
 | 0,i,h,hf=>by
  rw[Qbi]at h;omega
 | f+1,i,h,hf=>by
  rw[Qbi]at h ⊢;split
  ·rename_i h1;rw[if_pos h1]at h;split
   ·rename_i h2;rw[if_pos h2]at h;exact Qhp ns f (i+1) h om
   grind
  grind
theorem QoI{ns:List Nd}{i:Nat}(hi:i<ns.length)(hu:(nth ns i).us=true):(Xb ns).1≠i:=by
 unfold Xb;split
 ·rename_i h;intro e;have h2:=Qhp ns ns.length 1 h om;rw[show Qbi ns ns.length 1=i from e,hu]at h2;cases h2
 grind
theorem QnU{ns:List Nd}{i:Nat}(hi:i<ns.length)(hne:(Xb ns).1≠i):nth (Xb ns).2 i=nth ns i:=by
 unfold Xb at hne ⊢;split
 ·grind[ZR]
 ·apply QP
  grind[hi,QY]
def ixR(cs:List Int)(c:Int):Nat:=if ixB (Y7 cs c)<cs.length then ixB (Y7 cs c)else 0
def splRA(mo:Int)(ns:List Nd)(i:Nat):List Nd:=
 let F:=(Xb ns).2;let o:=(Xb ns).1;let x:=nth F i
 let n:=esN (esN F o (x.es.drop (Qv mo+1))) i (x.es.take (Qv mo))
 if x.cs.length=0 then n else csN (csN n o (x.cs.drop (Qv mo+1))) i (x.cs.take (Qv mo+1))
def Qi0(mo:Int)(ns:List Nd)(p i:Nat):List Nd:=addP (splRA mo ns i) p (ixR (nth (splRA mo ns i) p).cs (i:Int)) (nth (nth (Xb ns).2 i).es (Qv mo)) (Xb ns).1
def QaH(ns:List Nd):Nat×List Nd:=((Xb ns).1,csN (esN (csN (esN (Xb ns).2 (Xb ns).1 (nth (Xb ns).2 0).es) (Xb ns).1 (nth (Xb ns).2 0).cs) 0 []) 0 [((Xb ns).1:Int)])
def Qbl(mo:Int)(P:List Nat):Nat->List Nd->List Nd
 | 0,ns=>ns
 | k+1,ns=>Qbl mo P k (if mo<((nth ns (nth P (k+1))).es.length:Int)then Qi0 mo ns (nth P k) (nth P (k+1))else ns)
def Qe0(mo rm:Int)(ns:List Nd):List Nd:=if rm<((nth ns 0).es.length:Int)then if mo<((nth (QaH ns).2 (QaH ns).1).es.length:Int)then Qi0 mo (QaH ns).2 0 (QaH ns).1 else(QaH ns).2 else ns
def Qlk(co mo rm:Int)(ns:List Nd)(x:TEnt):List Nd:=
 let P:=(Qh co ns x.key).1;let lf:=Q2 P
 Qe0 mo rm (Qbl mo P (P.length-1) (esN ns lf (QF (nth ns lf).es (plc co (nth ns lf).es x.key) x)))
structure SpROk(mo:Int)(ns:List Nd)(p i:Nat):Prop where
 mo0:0<=mo/\mo<=1000
 len:ns.length<=900
 sm:Sm 900 ns
 lt:i<ns.length
 us:(nth ns i).us=true
 es:Qv mo<(nth ns i).es.length
 cs:(nth ns i).cs.length=0\/Qv mo+1<=(nth ns i).cs.length
 par:p<ns.length
 parE:ixR (nth (splRA mo ns i) p).cs (i:Int)<=(nth (splRA mo ns i) p).es.length
 parC:ixR (nth (splRA mo ns i) p).cs (i:Int)+1<=(nth (splRA mo ns i) p).cs.length
def Qhw(mo:Int)(P:List Nat):Nat->List Nd->Prop
 | 0,_=>True
 | k+1,ns=>(nth P (k+1)<ns.length/\(mo<((nth ns (nth P (k+1))).es.length:Int)->SpROk mo ns (nth P k) (nth P (k+1))))/\Qhw mo P k (if mo<((nth ns (nth P (k+1))).es.length:Int)then Qi0 mo ns (nth P k) (nth P (k+1))else ns)
structure RootROk(mo rm:Int)(ns:List Nd):Prop where
 lt:0<ns.length
 len:ns.length<=900
 us:(nth ns 0).us=true
 spl:rm<((nth ns 0).es.length:Int)->mo<((nth (QaH ns).2 (QaH ns).1).es.length:Int)->SpROk mo (QaH ns).2 0 (QaH ns).1
structure InsROk(co mo rm:Int)(ns:List Nd)(x:TEnt):Prop where
 ne:0<(Qh co ns x.key).1.length
 len:(Qh co ns x.key).1.length<=900
 lf:Q2 (Qh co ns x.key).1<ns.length
 grw:Qhw mo (Qh co ns x.key).1 ((Qh co ns x.key).1.length-1) (esN ns (Q2 (Qh co ns x.key).1) (QF (nth ns (Q2 (Qh co ns x.key).1)).es (plc co (nth ns (Q2 (Qh co ns x.key).1)).es x.key) x))
 root:RootROk mo rm (Qbl mo (Qh co ns x.key).1 ((Qh co ns x.key).1.length-1) (esN ns (Q2 (Qh co ns x.key).1) (QF (nth ns (Q2 (Qh co ns x.key).1)).es (plc co (nth ns (Q2 (Qh co ns x.key).1)).es x.key) x)))
theorem Sm.frs{m:Nat}{ns:List Nd}(h:Sm m ns):Sm m (Xb ns).2:=by
 unfold Xb;split
 ·exact h.set _ _ ⟨Nat.zero_le _,Nat.zero_le _⟩
 ·exact h.app _ ⟨Nat.zero_le _,Nat.zero_le _⟩
theorem Sm.splRA{m:Nat}{ns:List Nd}(h:Sm m ns)(mo:Int)(i:Nat):Sm m (splRA mo ns i):=by
 have h1:=h.frs;have e1:=(h1 i).1;have e2:=(h1 i).2;have h2:=(h1.es (Xb ns).1 (es:=(nth (Xb ns).2 i).es.drop (Qv mo+1)) (by rw[List.length_drop];omega)).es i (es:=(nth (Xb ns).2 i).es.take (Qv mo)) (by rw[List.length_take];omega);unfold Gx.splRA;simp only[];split
 ·exact h2
 ·exact(h2.cs _ (by rw[List.length_drop];omega)).cs _ (by rw[List.length_take];omega)
theorem Qn7{mo:Int}{ns F:List Nd}{i:Nat}{x:Nd}(hF:(Xb ns).2=F)(hx:nth F i=x)(h:x.cs.length=0):splRA mo ns i=esN (esN F (Xb ns).1 (x.es.drop (Qv mo+1))) i (x.es.take (Qv mo)):=by
 subst hF hx;exact if_pos h
theorem Qoc{mo:Int}{ns F:List Nd}{i:Nat}{x:Nd}(hF:(Xb ns).2=F)(hx:nth F i=x)(h:¬x.cs.length=0):splRA mo ns i=csN (csN (esN (esN F (Xb ns).1 (x.es.drop (Qv mo+1))) i (x.es.take (Qv mo))) (Xb ns).1 (x.cs.drop (Qv mo+1))) i (x.cs.take (Qv mo+1)):=by
 subst hF hx;exact if_neg h
theorem QqL{ns:List Nd}(h:Bd ns):Sm 1000 ns:=λk=>by
 rcases Nat.lt_or_ge k ns.length with hk|hk
 ·exact⟨h.es k hk,h.cs k hk⟩
 ·rw[YO hk];exact⟨Nat.zero_le _,Nat.zero_le _⟩
def Qj2(co:Int)(ns:List Nd)(x:TEnt):List Nd:=esN ns (Q2 (Qh co ns x.key).1) (QF (nth ns (Q2 (Qh co ns x.key).1)).es (plc co (nth ns (Q2 (Qh co ns x.key).1)).es x.key) x)
theorem Qo7{LG L6 L7 L8:List LNd}{b:Option Addr}{c:Nat}(hL6:pln L6=(Xb (pln LG)).2)(hi6:0<L6.length)(ho6:(Xb (pln LG)).1<L6.length)(hS7:NdSet L6 L7 (Xb (pln LG)).1 {nth L6 0 with us:=(nth L6 (Xb (pln LG)).1).us})(hS8:NdSet L7 L8 0 ⟨(nth L7 0).us,none,0,[],b,c,[((Xb (pln LG)).1:Int)]⟩)(hi7:0<L7.length):pln L8=(QaH (pln LG)).2:=by
 have e2:pln L7=csN (esN (pln L6) (Xb (pln LG)).1 (nth (pln L6) 0).es) (Xb (pln LG)).1 (nth (pln L6) 0).cs:=by
  rw[Qex (by rw[Qb];exact ho6),hS7.pl,Qp ho6,Qp hi6];rfl
 rw[hS8.pl,QaH,<-hL6,<-e2,Qex (by rw[Qb];exact hi7),Qp hi7];rfl
theorem Qlx{a b:List Nd}(h:a=b):QgW a b=[]:=by
 subst h;unfold QgW QdI;simp
end Gx
namespace Gx
open Go Go.RowKit
section
variable{X:Ctx}{ops:Array Oper}{F:List Nat}{fuel i:Nat}{listed:Array Bool}{k:List KI}{L:Qk}{d ty:Nat}{op:Op}{pos:String}{aft:Array Edge}{w0:World}{M:List Nat}{As Bs:List HA}
theorem QhU{B:World->Prop}{G:Type}{V:G->Value}{Fg:G->Prop}{C':G->World->Prop}{j:Nat}{want b:Bool}(i dj:Nat)(hi:ops[i]?=some ⟨some d,op,ty,pos,aft,some (j,want)⟩)(hj:(ops[j]?).bind (·.dst)=some dj)(hb:Qk.get L dj=some (.bool b))(hw:b=want)(h:OpH X.P ⟨some d,op,ty,pos,aft,none⟩ L (HS w0 M As) V Fg C')(hr:(Region.ready .any ops listed==[i])=true)(hB:∀w,HS w0 M As w->B w)(hd:Nat.blt d X.n=true)
  (next:∀g,Fg g->D X ops F B fuel (listed.setIfInBounds i true) k ((d,V g)::L) (C' g)):D X ops F B (fuel+1) listed k L (HS w0 M As):=by
 intro hcl a ha;have hy:yielded ops a.tmps j=some b:=by simp[yielded,hj,ha.slot _ _ hb]
 have hr':Region.ready .any ops listed=[i]:=by simpa using hr
 refine Qht hr' (λ_=>⟨hB,HS.stab _ _ _⟩) ?_;unfold YK;simp only[hi];rw[if_pos (by simp[Region.wanted,hy,hw])];exact⟨G,V,Fg,C',λw hw=>h a.eval w ha.agr hw,λg hg=>next g hg (hcl.set (by rw[hr'];exact List.mem_singleton.2 rfl)) _ (ha.put d _ hd)⟩
end
class TFd(P:Program)(t f:Nat)(off ft:outParam Nat):Prop where h:tfd P t f=some (off,ft)
class TSz(P:Program)(t:Nat)(n:outParam Nat)(ag:outParam Bool):Prop where h:tsz P t=some (n,ag)
class TSe(P:Program)(t:Nat)(e:outParam Nat):Prop where h:P.underlying t=some (.slice e)
section
variable{X:Ctx}{ops:Array Oper}{rest:List Oper}{k:List KI}{L:Qk}{d ty:Nat}{pos:String}{aft:Array Edge}{C:World->Prop}
theorem oFa{st f x b i off ft sz:Nat}{ag:Bool}[h1:TFd X.P st f off ft][h2:TSz X.P ft sz ag](next:O X ops rest k ((d,.pointer (some ⟨b,i+off,none⟩))::L) C)(hx:Qk.get L x=some (.pointer (some ⟨b,i,none⟩)):=by rfl)(hs:Nat.blt 0 sz=true:=by rfl)(hd:Nat.blt d X.n=true:=by rfl) :
  O X ops (⟨some d,.fieldAddr st (.tmp x) f,ty,pos,aft,none⟩::rest) k L C:=o_p (QbS rfl hx h1.h h2.h hs) hd next
theorem oLs{t e x n cap:Nat}{a:Option Addr}[h1:TSe X.P t e](next:O X ops rest k ((d,.int .i64 n)::L) C)(hx:Qk.get L x=some (.slice a n cap):=by rfl)(hd:Nat.blt d X.n=true:=by rfl) :
  O X ops (⟨some d,.call {callee:=.builtin .len,args:=#[.tmp x],argTypes:=#[t]},ty,pos,aft,none⟩::rest) k L C:=o_p (Qz (x:=.tmp x) rfl hx h1.h) hd next
theorem oLd{w0:World}{M:List Nat}{As As':List HA}{t x b tot i:Nat}{bt:TypeId}{cs:List Value}{v:Value}[h1:TSz X.P t 1 false](next:O X ops rest k ((d,v)::L) (HS w0 M As))(hx:Qk.get L x=some (.pointer (some ⟨b,i,none⟩)):=by rfl)(hp:QC As (.blk b bt tot cs) As':=by repeat (first|exact .here|apply QC.there))(hv:cs[i]?=some v:=by rfl)(hd:Nat.blt d X.n=true:=by rfl) :
  O X ops (⟨some d,.load t (.tmp x),ty,pos,aft,none⟩::rest) k L (HS w0 M As):=o_q (XO rfl hx h1.h hp hv) hd next
theorem oLn{w0:World}{M:List Nat}{As As':List HA}{t x b tot i n:Nat}{bt:TypeId}{cs:List Value}[h1:TSz X.P t n true](next:O X ops rest k ((d,.agg (cut cs i n).toArray)::L) (HS w0 M As))(hx:Qk.get L x=some (.pointer (some ⟨b,i,none⟩)):=by rfl)(hp:QC As (.blk b bt tot cs) As':=by repeat (first|exact .here|apply QC.there))(hl:Nat.ble (i+n) cs.length=true:=by rfl)(hd:Nat.blt d X.n=true:=by rfl) :
  O X ops (⟨some d,.load t (.tmp x),ty,pos,aft,none⟩::rest) k L (HS w0 M As):=o_q (YP rfl hx h1.h hp hl) hd next
end
section
variable{X:Ctx}{ops:Array Oper}{F:List Nat}{fuel:Nat}{listed:Array Bool}{k:List KI}{L:Qk}{d ty:Nat}{pos:String}{aft:Array Edge}{C B:World->Prop}{w0:World}{M:List Nat}{As As' Bs:List HA}
theorem dFa(i:Nat){st f x b o off ft sz:Nat}{ag:Bool}(next:D X ops F B fuel (listed.setIfInBounds i true) k ((d,.pointer (some ⟨b,o+off,none⟩))::L) C)(hi:ops[i]?=some ⟨some d,.fieldAddr st (.tmp x) f,ty,pos,aft,none⟩:=by rfl)(hx:Qk.get L x=some (.pointer (some ⟨b,o,none⟩)):=by rfl)(h1:TFd X.P st f off ft:=by infer_instance)(h2:TSz X.P ft sz ag:=by infer_instance)(hs:Nat.blt 0 sz=true:=by rfl)(hok:Xs ops listed i=true:=by kernel_rfl)(hF:F.all (λf=>!Nat.beq f i)=true:=by rfl)(hd:Nat.blt d X.n=true:=by rfl):D X ops F B (fuel+1) listed k L C:=d_p i hi (QbS rfl hx h1.h h2.h hs) hok hF hd next
theorem dFo{j:Nat}{want c:Bool}(i dj:Nat){st f x b o off ft sz:Nat}{ag:Bool}(hw:c=want)(next:D X ops F B fuel (listed.setIfInBounds i true) k ((d,.pointer (some ⟨b,o+off,none⟩))::L) C)(hi:ops[i]?=some ⟨some d,.fieldAddr st (.tmp x) f,ty,pos,aft,some (j,want)⟩:=by rfl)(hj:(ops[j]?).bind (·.dst)=some dj:=by rfl)(hb:Qk.get L dj=some (.bool c):=by rfl)(hx:Qk.get L x=some (.pointer (some ⟨b,o,none⟩)):=by rfl)(h1:TFd X.P st f off ft:=by infer_instance)(h2:TSz X.P ft sz ag:=by infer_instance)(hs:Nat.blt 0 sz=true:=by rfl)(hok:Xs ops listed i=true:=by kernel_rfl)(hF:F.all (λf=>!Nat.beq f i)=true:=by rfl)(hd:Nat.blt d X.n=true:=by rfl):D X ops F B (fuel+1) listed k L C:=Qmq i dj hi hj hb hw (QbS rfl hx h1.h h2.h hs) hok hF hd next
theorem dPo{j:Nat}{want c:Bool}{op:Op}{v:Value}(i dj:Nat)(hw:c=want)(next:D X ops F B fuel (listed.setIfInBounds i true) k ((d,v)::L) C)(hi:ops[i]?=some ⟨some d,op,ty,pos,aft,some (j,want)⟩:=by rfl)(hj:(ops[j]?).bind (·.dst)=some dj:=by rfl)(hb:Qk.get L dj=some (.bool c):=by rfl)(h:OpP X.P ⟨some d,op,ty,pos,aft,none⟩ L v:=by exact QjE rfl)(hok:Xs ops listed i=true:=by kernel_rfl)(hF:F.all (λf=>!Nat.beq f i)=true:=by rfl)(hd:Nat.blt d X.n=true:=by rfl):D X ops F B (fuel+1) listed k L C:=Qmq i dj hi hj hb hw h hok hF hd next
theorem dOf{j:Nat}{want c:Bool}{op:Op}(i dj:Nat)(hw:c= !want)(next:D X ops F B fuel (listed.setIfInBounds i true) k ((d,undef)::L) C)(hi:ops[i]?=some ⟨some d,op,ty,pos,aft,some (j,want)⟩:=by rfl)(hj:(ops[j]?).bind (·.dst)=some dj:=by rfl)(hb:Qk.get L dj=some (.bool c):=by rfl)(hok:Xs ops listed i=true:=by kernel_rfl)(hF:F.all (λf=>!Nat.beq f i)=true:=by rfl)(hd:Nat.blt d X.n=true:=by rfl):D X ops F B (fuel+1) listed k L C:=QrC i dj hi hj hb hw hok hF hd next
theorem dOu{j:Nat}{want:Bool}{op:Op}(i dj:Nat)(next:D X ops F B fuel (listed.setIfInBounds i true) k ((d,undef)::L) C)(hi:ops[i]?=some ⟨some d,op,ty,pos,aft,some (j,want)⟩:=by rfl)(hj:(ops[j]?).bind (·.dst)=some dj:=by rfl)(hb:Qk.get L dj=some undef:=by rfl)(hok:Xs ops listed i=true:=by kernel_rfl)(hF:F.all (λf=>!Nat.beq f i)=true:=by rfl)(hd:Nat.blt d X.n=true:=by rfl):D X ops F B (fuel+1) listed k L C:=Qrc i dj hi hj hb hok hF hd next
theorem dNi(next:S X k L (HS w0 M As))(hB:∀w,HS w0 M As w->B w:=by(intro w h;first|exact h|exact h.ent aEt))(hr:(Region.ready .any ops listed==[])=true:=by kernel_rfl):D X ops F B 0 listed k L (HS w0 M As):=QrU hr hB next
theorem dBa(next:D X ops F (HS w0 M As) fuel listed k L (HS w0 M As))(hB:∀w,HS w0 M As w->B w:=by(intro w h;exact h.ent aEt)):D X ops F B fuel listed k L (HS w0 M As):=Qre hB next
theorem dLd(i:Nat)(ps:List (List Nat)){t x b tot o:Nat}{bt:TypeId}{cs:List Value}{v:Value}(next:D X ops F (HS w0 M Bs) fuel (listed.setIfInBounds i true) k ((d,v)::L) C)(hi:ops[i]?=some ⟨some d,.load t (.tmp x),ty,pos,aft,none⟩:=by rfl)(hx:Qk.get L x=some (.pointer (some ⟨b,o,none⟩)):=by rfl)(h1:TSz X.P t 1 false:=by infer_instance)(hp:QC Bs (.blk b bt tot cs) As':=by repeat (first|exact .here|apply QC.there))(hv:cs[o]?=some v:=by rfl)(hok:Xs ops listed i=true:=by kernel_rfl)(hF:ZP ops F i ps=true:=by kernel_rfl)(hn:QcG F listed=true:=by kernel_rfl)(hd:Nat.blt d X.n=true:=by rfl):D X ops F (HS w0 M Bs) (fuel+1) listed k L C:=d_q i ps hi (XO rfl hx h1.h hp hv) hok hF hn hd next
theorem dLn(i:Nat)(ps:List (List Nat)){t x b tot o n:Nat}{bt:TypeId}{cs:List Value}(next:D X ops F (HS w0 M Bs) fuel (listed.setIfInBounds i true) k ((d,.agg (cut cs o n).toArray)::L) C)(hi:ops[i]?=some ⟨some d,.load t (.tmp x),ty,pos,aft,none⟩:=by rfl)(hx:Qk.get L x=some (.pointer (some ⟨b,o,none⟩)):=by rfl)(h1:TSz X.P t n true:=by infer_instance)(hp:QC Bs (.blk b bt tot cs) As':=by repeat (first|exact .here|apply QC.there))(hl:Nat.ble (o+n) cs.length=true:=by rfl)(hok:Xs ops listed i=true:=by kernel_rfl)(hF:ZP ops F i ps=true:=by kernel_rfl)(hn:QcG F listed=true:=by kernel_rfl)(hd:Nat.blt d X.n=true:=by rfl):D X ops F (HS w0 M Bs) (fuel+1) listed k L C:=d_q i ps hi (YP rfl hx h1.h hp hl) hok hF hn hd next
end
section
variable{X:Ctx}{ops:Array Oper}{F:List Nat}{fuel:Nat}{listed:Array Bool}{rest:List Oper}{k:List KI}{L:Qk}{d ty:Nat}{pos:String}{aft:Array Edge}{w0:World}{M:List Nat}{As As':List HA}
theorem oSt{t x b tot i n:Nat}{y:Operand}{bt:TypeId}{ag:Bool}{cs:List Value}{v:Value}[hs:TSz X.P t n ag](next:O X ops rest k L (HS w0 M As'))(hx:Qk.get L x=some (.pointer (some ⟨b,i,none⟩)):=by rfl)(hy:ev L y=some v:=by rfl)(hn:v.cells.toList.length=n:=by rfl)
  (hp:Put As (.blk b bt tot cs) (.blk b bt tot (QA cs i v.cells.toList)) As':=by repeat (first|exact .here|apply Put.there))(hl:i+n<=cs.length:=by(simp only[Qe,List.length_set,List.length_cons,List.length_nil,List.length_map];omega))(h1:v.cells.toList.all (·.oneCell')=true:=by rfl) :
  O X ops (⟨none,.store t (.tmp x) y,ty,pos,aft,none⟩::rest) k L (HS w0 M As):=Qal (Xt rfl hx hy hs.h hn hp hl h1) λ_ _=>next
theorem oAl{t:TypeId}{z:List Value}(next:∀b,True->O X ops rest k ((d,.pointer (some ⟨b,0,none⟩))::L) (HS w0 M (.blk b t z.length z::As)))(hz:Xy X.P t=some z)(hd:Nat.blt d X.n=true:=by rfl):O X ops (⟨some d,.alloc t,ty,pos,aft,none⟩::rest) k L (HS w0 M As):=o_h (X9 rfl hz) hd next
theorem oBx{t:TypeId}{x:Operand}{v:Value}(next:∀b,True->O X ops rest k ((d,.pointer (some ⟨b,0,none⟩))::L) (HS w0 M (.blk b t v.cells.toList.length v.cells.toList::As)))(hx:ev L x=some v:=by rfl)(hd:Nat.blt d X.n=true:=by rfl):O X ops (⟨some d,.box t x,ty,pos,aft,none⟩::rest) k L (HS w0 M As):=o_h (QkC rfl hx) hd next
theorem oWr{v:Int}{C:World->Prop}(next:O X ops rest k ((d,.int .i64 v)::L) C)(h1: -9223372036854775808<=v:=by omega)(h2:v<=9223372036854775807:=by omega):O X ops rest k ((d,.int .i64 (IntKind.i64.wrap v))::L) C:=Qm (Qi2 h1 h2) next
theorem dWr{v:Int}{C B:World->Prop}(next:D X ops F B fuel listed k ((d,.int .i64 v)::L) C)(h1: -9223372036854775808<=v:=by omega)(h2:v<=9223372036854775807:=by omega):D X ops F B fuel listed k ((d,.int .i64 (IntKind.i64.wrap v))::L) C:=Qs (Qi2 h1 h2) next
theorem dSt{B:World->Prop}(i:Nat){t x b tot o n:Nat}{y:Operand}{bt:TypeId}{ag:Bool}{cs:List Value}{v:Value}(next:D X ops F B fuel (listed.setIfInBounds i true) k L (HS w0 M As'))(hi:ops[i]?=some ⟨none,.store t (.tmp x) y,ty,pos,aft,none⟩:=by rfl)(hx:Qk.get L x=some (.pointer (some ⟨b,o,none⟩)):=by rfl)(hy:ev L y=some v:=by rfl)(hs:TSz X.P t n ag:=by infer_instance)(hn:v.cells.toList.length=n:=by rfl)
  (hp:Put As (.blk b bt tot cs) (.blk b bt tot (QA cs o v.cells.toList)) As':=by repeat (first|exact .here|apply Put.there))(hl:o+n<=cs.length)(h1:v.cells.toList.all (·.oneCell')=true:=by rfl)(hr:(Region.ready .any ops listed==[i])=true:=by kernel_rfl)(hB:∀w,HS w0 M As w->B w:=by(intro w h;exact h.ent aEt)) :
  D X ops F B (fuel+1) listed k L (HS w0 M As):=QmZ i hi (Xt rfl hx hy hs.h hn hp hl h1) hr hB λ_ _=>next
theorem dTu{B:World->Prop}(F':List Nat)(next:D X ops F' (HS w0 M As) fuel listed k L (HS w0 M As))(hf:F.any (λf=>listed.getD f false)=true:=by kernel_rfl):D X ops F B fuel listed k L (HS w0 M As):=Qp3 F' hf next
end
section
variable{X:Ctx}{ops:Array Oper}{F:List Nat}{fuel:Nat}{listed:Array Bool}{k:List KI}{L:Qk}{d ty:Nat}{pos:String}{aft:Array Edge}{op:Op}{w0:World}{M:List Nat}{As Bs:List HA}
theorem dQ{C:World->Prop}{v:Value}(i:Nat)(ps:List (List Nat))(hi:ops[i]?=some ⟨some d,op,ty,pos,aft,none⟩)(h:OpQ X.P ⟨some d,op,ty,pos,aft,none⟩ L (HS w0 M Bs) v)(next:D X ops F (HS w0 M Bs) fuel (listed.setIfInBounds i true) k ((d,v)::L) C)(hok:Xs ops listed i=true:=by kernel_rfl)(hF:ZP ops F i ps=true:=by kernel_rfl)(hn:QcG F listed=true:=by kernel_rfl)(hd:Nat.blt d X.n=true:=by rfl):D X ops F (HS w0 M Bs) (fuel+1) listed k L C:=d_q i ps hi h hok hF hn hd next
theorem dV{C:World->Prop}{B:World->Prop}{v:Value}(i:Nat)(hi:ops[i]?=some ⟨some d,op,ty,pos,aft,none⟩)(h:OpP X.P ⟨some d,op,ty,pos,aft,none⟩ L v)(next:D X ops F B fuel (listed.setIfInBounds i true) k ((d,v)::L) C)(hok:Xs ops listed i=true:=by kernel_rfl)(hF:F.all (λf=>!Nat.beq f i)=true:=by rfl)(hd:Nat.blt d X.n=true:=by rfl):D X ops F B (fuel+1) listed k L C:=d_p i hi h hok hF hd next
theorem dH{B:World->Prop}{G:Type}{V:G->Value}{Fg:G->Prop}{C':G->World->Prop}(i:Nat)(hi:ops[i]?=some ⟨some d,op,ty,pos,aft,none⟩)(h:OpH X.P ⟨some d,op,ty,pos,aft,none⟩ L (HS w0 M As) V Fg C')(next:∀g,Fg g->D X ops F B fuel (listed.setIfInBounds i true) k ((d,V g)::L) (C' g))(hr:(Region.ready .any ops listed==[i])=true:=by kernel_rfl)(hB:∀w,HS w0 M As w->B w:=by(intro w h;exact h.ent aEt))(hd:Nat.blt d X.n=true:=by rfl):D X ops F B (fuel+1) listed k L (HS w0 M As):=d_h i hi h hr hB hd next
theorem dVo{C:World->Prop}{B:World->Prop}{v:Value}{j:Nat}{want b:Bool}(i dj:Nat)(hw:b=want)(hi:ops[i]?=some ⟨some d,op,ty,pos,aft,some (j,want)⟩)(hj:(ops[j]?).bind (·.dst)=some dj)(hb:Qk.get L dj=some (.bool b))(h:OpP X.P ⟨some d,op,ty,pos,aft,none⟩ L v)(next:D X ops F B fuel (listed.setIfInBounds i true) k ((d,v)::L) C)(hok:Xs ops listed i=true:=by kernel_rfl)(hF:F.all (λf=>!Nat.beq f i)=true:=by rfl)(hd:Nat.blt d X.n=true:=by rfl):D X ops F B (fuel+1) listed k L C:=Qmq i dj hi hj hb hw h hok hF hd next
theorem dQo{C:World->Prop}{v:Value}{j:Nat}{want b:Bool}(i dj:Nat)(ps:List (List Nat))(hw:b=want)(hi:ops[i]?=some ⟨some d,op,ty,pos,aft,some (j,want)⟩)(hj:(ops[j]?).bind (·.dst)=some dj)(hb:Qk.get L dj=some (.bool b))(h:OpQ X.P ⟨some d,op,ty,pos,aft,none⟩ L (HS w0 M Bs) v)(next:D X ops F (HS w0 M Bs) fuel (listed.setIfInBounds i true) k ((d,v)::L) C)(hok:Xs ops listed i=true:=by kernel_rfl)(hF:ZP ops F i ps=true:=by kernel_rfl)(hn:QcG F listed=true:=by kernel_rfl)(hd:Nat.blt d X.n=true:=by rfl):D X ops F (HS w0 M Bs) (fuel+1) listed k L C:=QrK i dj ps hi hj hb hw h hok hF hn hd next
theorem rT{t:Nat}{v:Value}(hr:X.fn.results=[ResultVar.tmp t].toArray)(hv:Qk.get L t=some v)(h:∀w,HS w0 M As w->X.R (.returned (QV [v])) w)(hrd:X.rd=none:=by rfl)(hdf:X.df=[]:=by rfl):S X (.c .ret::k) L (HS w0 M As):=Qf hr (.tmp hv .nil) h hrd hdf
end
theorem dT{p:Prop}[Decidable p]:(decide p=true)=p:=decide_eq_true_eq
theorem dN{p:Prop}[Decidable p]:decide p=false ↔ ¬p:=decide_eq_false_iff_not
class BP(b:Bool)(p n:outParam Prop):Prop where
 t:b=true->p
 f:b=false->n
instance(priority:=low) bp0(b:Bool):BP b (b=true) (b=false):=⟨id,id⟩
instance bpD(p:Prop)[Decidable p]:BP (decide p) p (¬p):=⟨of_decide_eq_true,of_decide_eq_false⟩
instance bpN(b:Bool)(p n:Prop)[h:BP b p n]:BP (!b) n p:=⟨λh9=>h.f (by simpa using h9),λh9=>h.t (by simpa using h9)⟩
instance bpA(a b:Bool)(p n p' n':Prop)[h:BP a p n][h':BP b p' n']:BP (a&&b) (p/\p') (n\/n'):=⟨λh9=>⟨h.t (by simp at h9;exact h9.1),h'.t (by simp at h9;exact h9.2)⟩,λh9=>by cases a with
 | true=>exact .inr (h'.f (by simpa using h9))
 | false=>exact .inl (h.f rfl)⟩
instance bpO(a b:Bool)(p n p' n':Prop)[h:BP a p n][h':BP b p' n']:BP (a||b) (p\/p') (n/\n'):=⟨λh9=>by cases a with
 | true=>exact .inl (h.t rfl)
 | false=>exact .inr (h'.t (by simpa using h9)),λh9=>⟨h.f (by simp at h9;exact h9.1),h'.f (by simp at h9;exact h9.2)⟩⟩
class TFn(P:Program)(f:Nat):Prop where h:QH P f=true
section
variable{X:Ctx}{k:List KI}{L:Qk}{C:World->Prop}
theorem sCd{c:Operand}{x y:Code}{b:Bool}{p n:Prop}(hc:ev L c=some (.bool b))[hB:BP b p n](ht:p->S X (.c x::k) L C)(hf:n->S X (.c y::k) L C):S X (.c (.cond c x y)::k) L C:=Qrb hc (λh=>ht (hB.t h)) λh=>hf (hB.f h)
variable{ops:Array Oper}{rest:List Oper}{d ty:Nat}{pos:String}{aft:Array Edge}{op:Op}
theorem XJ(m dj dp:Nat){b c:Bool}{p n:Prop}{l:List Oper}(hb:Qk.get L dj=some (.bool b))[hB:BP b p n]
  (h1:b=true->p->O X ops (l.take m) (.join (At X.n X.df (λ_:Unit=>(dp,.bool c)::L) (λ_=>C))::k) L C)
  (h0:b=false->n->O X ops (l.take m) (.join (At X.n X.df (λ_:Unit=>(dp,.bool false)::L) (λ_=>C))::k) L C)
  (h2:O X ops (l.drop m) k ((dp,.bool (b&&c))::L) C):O X ops l k L C:=QrE m dj dp b c hb (λh=>h1 h (hB.t h)) (λh=>h0 h (hB.f h)) h2
theorem oOr(m dj dp:Nat){b c:Bool}{p n:Prop}{l:List Oper}(hb:Qk.get L dj=some (.bool b))[hB:BP b p n]
  (h1:b=false->n->O X ops (l.take m) (.join (At X.n X.df (λ_:Unit=>(dp,.bool c)::L) (λ_=>C))::k) L C)
  (h0:b=true->p->O X ops (l.take m) (.join (At X.n X.df (λ_:Unit=>(dp,.bool true)::L) (λ_=>C))::k) L C)
  (h2:O X ops (l.drop m) k ((dp,.bool (b||c))::L) C):O X ops l k L C:=o_or m dj dp b c hb (λh=>h1 h (hB.f h)) (λh=>h0 h (hB.t h)) h2
theorem oNo{j dj:Nat}{want b:Bool}{dst:Option Nat}(next:O X ops (⟨dst,op,ty,pos,aft,none⟩::rest) k L C)(hj:(ops[j]?).bind (·.dst)=some dj:=by rfl)(hs:Qk.get L dj=some (.bool b):=by rfl)(hb:b=want:=by assumption):O X ops (⟨dst,op,ty,pos,aft,some (j,want)⟩::rest) k L C:=o_on dj b hj hs hb next
theorem oFt{j dj:Nat}{b:Bool}(next:O X ops rest k ((d,undef)::L) C)(hj:(ops[j]?).bind (·.dst)=some dj:=by rfl)(hs:Qk.get L dj=some (.bool b):=by rfl)(hb:b=false:=by assumption)(hd:Nat.blt d X.n=true:=by rfl):O X ops (⟨some d,op,ty,pos,aft,some (j,true)⟩::rest) k L C:=QpG dj b hj hs hb hd next
theorem oFf{j dj:Nat}{b:Bool}(next:O X ops rest k ((d,undef)::L) C)(hj:(ops[j]?).bind (·.dst)=some dj:=by rfl)(hs:Qk.get L dj=some (.bool b):=by rfl)(hb:b=true:=by assumption)(hd:Nat.blt d X.n=true:=by rfl):O X ops (⟨some d,op,ty,pos,aft,some (j,false)⟩::rest) k L C:=QpG dj b hj hs hb hd next
theorem oFu{j dj:Nat}{want:Bool}(next:O X ops rest k ((d,undef)::L) C)(hj:(ops[j]?).bind (·.dst)=some dj:=by rfl)(hs:Qk.get L dj=some undef:=by rfl)(hd:Nat.blt d X.n=true:=by rfl):O X ops (⟨some d,op,ty,pos,aft,some (j,want)⟩::rest) k L C:=QpQ dj hj hs hd next
variable{w0:World}{M:List Nat}{As:List HA}
theorem rV{t:Nat}{v v':Value}(hr:X.fn.results=[ResultVar.tmp t].toArray:=by rfl)(hv:Qk.get L t=some v:=by rfl)(hR:X.R=λen w'=>en=.returned v'/\Below w0.heap.size w0 w':=by rfl)(hrd:X.rd=none:=by rfl)(hdf:X.df=[]:=by rfl)(h:Ending.returned (QV [v])=.returned v':=by rfl):S X (.c .ret::k) L (HS w0 [] As):=Qf hr (.tmp hv .nil) (λw' h'=>hR▸⟨h,h'.below⟩) hrd hdf
theorem oCq{f:FuncId}{args:Array Operand}{vs:List Value}{v:Value}{at':Array TypeId}(ha:evs L args.toList=some vs)[hf:TFn X.P f](hc:∀w,HS w0 M As w->Calls X.P f vs.toArray w λe w'=>e=.returned v/\Below w.heap.size w w')(next:O X ops rest k ((d,v)::L) (HS w0 M As))(hd:Nat.blt d X.n=true:=by rfl) :
  O X ops (⟨some d,.call {callee:=.value (.func f),args:=args,argTypes:=at'},ty,pos,aft,none⟩::rest) k L (HS w0 M As):=o_q (Ql rfl hf.h ha hc) hd next
theorem oCh{G:Type}{V:G->Value}{F:G->Prop}{Bs:G->List HA}{f:FuncId}{args:Array Operand}{vs:List Value}{at':Array TypeId}(ha:evs L args.toList=some vs)[hf:TFn X.P f](hc:∀w,HS w0 M As w->Calls X.P f vs.toArray w λe w'=>∃g,e=.returned (V g)/\F g/\HS w [] (Bs g) w')(next:∀g,F g->O X ops rest k ((d,V g)::L) (HS w0 M (Bs g++As)))(hd:Nat.blt d X.n=true:=by rfl) :
  O X ops (⟨some d,.call {callee:=.value (.func f),args:=args,argTypes:=at'},ty,pos,aft,none⟩::rest) k L (HS w0 M As):=o_h (Q3 rfl hf.h ha hc) hd next
theorem sBk{α:Type}{LJ:α->Qk}{CJ:α->World->Prop}{I:α->Prop}{m:α->Nat}{x:α}(y:α)(hm:m y<m x:=by omega)(hI:I y:=by omega)(hL:Qcr L (LJ y):=by repeat (first|exact Qio|refine Qc9 rfl ?_))(hC:∀w,HS w0 M As w->CJ y w:=by(intro w h;exact h.ent aEt)):S X (.join (QmL X.n X.df LJ CJ I m x)::k) L (HS w0 M As):=QR y hm hI hL hC
end
section
variable{X:Ctx}{k:List KI}{L:Qk}{C:World->Prop}{ops:Array Oper}{rest:List Oper}{d ty:Nat}{pos:String}{aft:Array Edge}{op:Op}{LJ:Unit->Qk}{CJ:Unit->World->Prop}
theorem o0t{j dj:Nat}{b:Bool}(next:O X ops rest k L C)(hj:(ops[j]?).bind (·.dst)=some dj:=by rfl)(hs:Qk.get L dj=some (.bool b):=by rfl)(hb:b=false:=by assumption):O X ops (⟨none,op,ty,pos,aft,some (j,true)⟩::rest) k L C:=QlN dj b hj hs hb next
theorem o0f{j dj:Nat}{b:Bool}(next:O X ops rest k L C)(hj:(ops[j]?).bind (·.dst)=some dj:=by rfl)(hs:Qk.get L dj=some (.bool b):=by rfl)(hb:b=true:=by assumption):O X ops (⟨none,op,ty,pos,aft,some (j,false)⟩::rest) k L C:=QlN dj b hj hs hb next
theorem oJt(m dp:Nat){c x y:Operand}{b:Bool}{v:Value}(hc:ev L c=some (.bool b):=by rfl)(hb:b=true:=by assumption)(hx:ev L x=some v:=by rfl)(hd:Nat.blt dp X.n=true:=by rfl)(hJ:LJ ()=(dp,v)::((dp,v)::L).drop m:=by exact rfl)(hf:QeY ((dp,v)::L) m=true:=by exact rfl)(hC:∀w,C w->CJ () w:=by(intro w h;first|exact h|exact h.ent aEt)) :
  O X ops [⟨some dp,.pick c x y,ty,pos,aft,none⟩] (.join (At X.n X.df LJ CJ)::k) L C:=o_p (Xk rfl hc hb hx) hd (Ql5 (Qkp m dp v hJ (by rw[Qk.get_cons,if_pos rfl]) hf hC))
theorem oJf(m dp:Nat){c x y:Operand}{b:Bool}{v:Value}(hc:ev L c=some (.bool b):=by rfl)(hb:b=false:=by assumption)(hx:ev L y=some v:=by rfl)(hd:Nat.blt dp X.n=true:=by rfl)(hJ:LJ ()=(dp,v)::((dp,v)::L).drop m:=by exact rfl)(hf:QeY ((dp,v)::L) m=true:=by exact rfl)(hC:∀w,C w->CJ () w:=by(intro w h;first|exact h|exact h.ent aEt)) :
  O X ops [⟨some dp,.pick c x y,ty,pos,aft,none⟩] (.join (At X.n X.df LJ CJ)::k) L C:=o_p (QW rfl hc hb hx) hd (Ql5 (Qkp m dp v hJ (by rw[Qk.get_cons,if_pos rfl]) hf hC))
end
section
variable{P:Program}{f:FuncId}{fn:Func}{n:Nat}{c:Code}{w w1:World}{R:Ending->World->Prop}{M:List Nat}{As:List HA}
theorem eN0(hf:P.funcs[f]?=some fn)(hn:fn.ntmps=n)(h:S {P:=P,fn:=fn,n:=n,R:=R} [.c c] (Qcq 0 []) (HS w [] []))(hb:fn.body=some c:=by rfl)(hl:Nat.ble 0 n=true:=by rfl):Calls P f #[] w R:=enter (args:=[]) hf hn hb hl (HS.refl w []) h
theorem eN1{x0:Value}(hf:P.funcs[f]?=some fn)(hn:fn.ntmps=n)(h:S {P:=P,fn:=fn,n:=n,R:=R} [.c c] (Qcq 0 [x0]) (HS w [] []))(hb:fn.body=some c:=by rfl)(hl:Nat.ble 1 n=true:=by rfl):Calls P f #[x0] w R:=enter (args:=[x0]) hf hn hb hl (HS.refl w []) h
theorem eW1{x0:Value}(hf:P.funcs[f]?=some fn)(hn:fn.ntmps=n)(hw:HS w1 M As w)(h:S {P:=P,fn:=fn,n:=n,R:=R} [.c c] (Qcq 0 [x0]) (HS w1 M As))(hb:fn.body=some c:=by rfl)(hl:Nat.ble 1 n=true:=by rfl):Calls P f #[x0] w R:=enter (args:=[x0]) hf hn hb hl hw h
theorem eN2{x0:Value}{x1:Value}(hf:P.funcs[f]?=some fn)(hn:fn.ntmps=n)(h:S {P:=P,fn:=fn,n:=n,R:=R} [.c c] (Qcq 0 [x0,x1]) (HS w [] []))(hb:fn.body=some c:=by rfl)(hl:Nat.ble 2 n=true:=by rfl):Calls P f #[x0,x1] w R:=enter (args:=[x0,x1]) hf hn hb hl (HS.refl w []) h
theorem eW2{x0:Value}{x1:Value}(hf:P.funcs[f]?=some fn)(hn:fn.ntmps=n)(hw:HS w1 M As w)(h:S {P:=P,fn:=fn,n:=n,R:=R} [.c c] (Qcq 0 [x0,x1]) (HS w1 M As))(hb:fn.body=some c:=by rfl)(hl:Nat.ble 2 n=true:=by rfl):Calls P f #[x0,x1] w R:=enter (args:=[x0,x1]) hf hn hb hl hw h
theorem eN3{x0:Value}{x1:Value}{x2:Value}(hf:P.funcs[f]?=some fn)(hn:fn.ntmps=n)(h:S {P:=P,fn:=fn,n:=n,R:=R} [.c c] (Qcq 0 [x0,x1,x2]) (HS w [] []))(hb:fn.body=some c:=by rfl)(hl:Nat.ble 3 n=true:=by rfl):Calls P f #[x0,x1,x2] w R:=enter (args:=[x0,x1,x2]) hf hn hb hl (HS.refl w []) h
theorem eW3{x0:Value}{x1:Value}{x2:Value}(hf:P.funcs[f]?=some fn)(hn:fn.ntmps=n)(hw:HS w1 M As w)(h:S {P:=P,fn:=fn,n:=n,R:=R} [.c c] (Qcq 0 [x0,x1,x2]) (HS w1 M As))(hb:fn.body=some c:=by rfl)(hl:Nat.ble 3 n=true:=by rfl):Calls P f #[x0,x1,x2] w R:=enter (args:=[x0,x1,x2]) hf hn hb hl hw h
theorem eN4{x0:Value}{x1:Value}{x2:Value}{x3:Value}(hf:P.funcs[f]?=some fn)(hn:fn.ntmps=n)(h:S {P:=P,fn:=fn,n:=n,R:=R} [.c c] (Qcq 0 [x0,x1,x2,x3]) (HS w [] []))(hb:fn.body=some c:=by rfl)(hl:Nat.ble 4 n=true:=by rfl):Calls P f #[x0,x1,x2,x3] w R:=enter (args:=[x0,x1,x2,x3]) hf hn hb hl (HS.refl w []) h
theorem eW4{x0:Value}{x1:Value}{x2:Value}{x3:Value}(hf:P.funcs[f]?=some fn)(hn:fn.ntmps=n)(hw:HS w1 M As w)(h:S {P:=P,fn:=fn,n:=n,R:=R} [.c c] (Qcq 0 [x0,x1,x2,x3]) (HS w1 M As))(hb:fn.body=some c:=by rfl)(hl:Nat.ble 4 n=true:=by rfl):Calls P f #[x0,x1,x2,x3] w R:=enter (args:=[x0,x1,x2,x3]) hf hn hb hl hw h
theorem eN5{x0:Value}{x1:Value}{x2:Value}{x3:Value}{x4:Value}(hf:P.funcs[f]?=some fn)(hn:fn.ntmps=n)(h:S {P:=P,fn:=fn,n:=n,R:=R} [.c c] (Qcq 0 [x0,x1,x2,x3,x4]) (HS w [] []))(hb:fn.body=some c:=by rfl)(hl:Nat.ble 5 n=true:=by rfl):Calls P f #[x0,x1,x2,x3,x4] w R:=enter (args:=[x0,x1,x2,x3,x4]) hf hn hb hl (HS.refl w []) h
theorem eW5{x0:Value}{x1:Value}{x2:Value}{x3:Value}{x4:Value}(hf:P.funcs[f]?=some fn)(hn:fn.ntmps=n)(hw:HS w1 M As w)(h:S {P:=P,fn:=fn,n:=n,R:=R} [.c c] (Qcq 0 [x0,x1,x2,x3,x4]) (HS w1 M As))(hb:fn.body=some c:=by rfl)(hl:Nat.ble 5 n=true:=by rfl):Calls P f #[x0,x1,x2,x3,x4] w R:=enter (args:=[x0,x1,x2,x3,x4]) hf hn hb hl hw h
theorem eW6{x0:Value}{x1:Value}{x2:Value}{x3:Value}{x4:Value}{x5:Value}(hf:P.funcs[f]?=some fn)(hn:fn.ntmps=n)(hw:HS w1 M As w)(h:S {P:=P,fn:=fn,n:=n,R:=R} [.c c] (Qcq 0 [x0,x1,x2,x3,x4,x5]) (HS w1 M As))(hb:fn.body=some c:=by rfl)(hl:Nat.ble 6 n=true:=by rfl):Calls P f #[x0,x1,x2,x3,x4,x5] w R:=enter (args:=[x0,x1,x2,x3,x4,x5]) hf hn hb hl hw h
end
theorem aU{p q:Prop}(hq:q)(h:(Unit->q)->p:=by(intro hq;first|refine QrR ?_|refine Qm0 ?_|refine Ql5 ?_|refine Qqe ?_|refine QnX ?_|refine Qrr ?_|refine oP ?_|refine oNo ?_|refine oFt ?_|refine oFf ?_|refine oFu ?_|refine o0t ?_|refine o0f ?_|refine oFa ?_|refine oLs ?_|refine oLd ?_|refine oLn ?_|refine oSt ?_);exact hq ()):p:=h λ_=>hq
theorem aT{p q:Prop}(hq:q)(h:(Unit->q)->p:=by(intro hq;refine aU ?_;try refine oWr ?_);exact hq ()):p:=h λ_=>hq
theorem aU2{p q:Prop}(hq:q)(h:(Unit->q)->p:=by(intro hq;iterate 2 refine aU ?_);exact hq ()):p:=h λ_=>hq
theorem aT2{p q:Prop}(hq:q)(h:(Unit->q)->p:=by(intro hq;(iterate 2 refine aU ?_);try refine oWr ?_);exact hq ()):p:=h λ_=>hq
theorem aU3{p q:Prop}(hq:q)(h:(Unit->q)->p:=by(intro hq;iterate 3 refine aU ?_);exact hq ()):p:=h λ_=>hq
theorem aT3{p q:Prop}(hq:q)(h:(Unit->q)->p:=by(intro hq;(iterate 3 refine aU ?_);try refine oWr ?_);exact hq ()):p:=h λ_=>hq
theorem aU4{p q:Prop}(hq:q)(h:(Unit->q)->p:=by(intro hq;iterate 4 refine aU ?_);exact hq ()):p:=h λ_=>hq
theorem aT4{p q:Prop}(hq:q)(h:(Unit->q)->p:=by(intro hq;(iterate 4 refine aU ?_);try refine oWr ?_);exact hq ()):p:=h λ_=>hq
theorem aU5{p q:Prop}(hq:q)(h:(Unit->q)->p:=by(intro hq;iterate 5 refine aU ?_);exact hq ()):p:=h λ_=>hq
theorem aT5{p q:Prop}(hq:q)(h:(Unit->q)->p:=by(intro hq;(iterate 5 refine aU ?_);try refine oWr ?_);exact hq ()):p:=h λ_=>hq
theorem aU6{p q:Prop}(hq:q)(h:(Unit->q)->p:=by(intro hq;iterate 6 refine aU ?_);exact hq ()):p:=h λ_=>hq
theorem aT6{p q:Prop}(hq:q)(h:(Unit->q)->p:=by(intro hq;(iterate 6 refine aU ?_);try refine oWr ?_);exact hq ()):p:=h λ_=>hq
theorem aU7{p q:Prop}(hq:q)(h:(Unit->q)->p:=by(intro hq;iterate 7 refine aU ?_);exact hq ()):p:=h λ_=>hq
theorem aT7{p q:Prop}(hq:q)(h:(Unit->q)->p:=by(intro hq;(iterate 7 refine aU ?_);try refine oWr ?_);exact hq ()):p:=h λ_=>hq
theorem aU8{p q:Prop}(hq:q)(h:(Unit->q)->p:=by(intro hq;iterate 8 refine aU ?_);exact hq ()):p:=h λ_=>hq
theorem aT8{p q:Prop}(hq:q)(h:(Unit->q)->p:=by(intro hq;(iterate 8 refine aU ?_);try refine oWr ?_);exact hq ()):p:=h λ_=>hq
theorem aU9{p q:Prop}(hq:q)(h:(Unit->q)->p:=by(intro hq;iterate 9 refine aU ?_);exact hq ()):p:=h λ_=>hq
theorem aT9{p q:Prop}(hq:q)(h:(Unit->q)->p:=by(intro hq;(iterate 9 refine aU ?_);try refine oWr ?_);exact hq ()):p:=h λ_=>hq
theorem YR{p q:Prop}(hq:q)(h:(Unit->q)->p:=by(intro hq;iterate 10 refine aU ?_);exact hq ()):p:=h λ_=>hq
theorem Qnd{p q:Prop}(hq:q)(h:(Unit->q)->p:=by(intro hq;(iterate 10 refine aU ?_);try refine oWr ?_);exact hq ()):p:=h λ_=>hq
theorem YZ{p q:Prop}(hq:q)(h:(Unit->q)->p:=by(intro hq;iterate 11 refine aU ?_);exact hq ()):p:=h λ_=>hq
theorem aT11{p q:Prop}(hq:q)(h:(Unit->q)->p:=by(intro hq;(iterate 11 refine aU ?_);try refine oWr ?_);exact hq ()):p:=h λ_=>hq
theorem Y1{p q:Prop}(hq:q)(h:(Unit->q)->p:=by(intro hq;iterate 12 refine aU ?_);exact hq ()):p:=h λ_=>hq
theorem aT12{p q:Prop}(hq:q)(h:(Unit->q)->p:=by(intro hq;(iterate 12 refine aU ?_);try refine oWr ?_);exact hq ()):p:=h λ_=>hq
theorem Z5{p q:Prop}(hq:q)(h:(Unit->q)->p:=by(intro hq;iterate 13 refine aU ?_);exact hq ()):p:=h λ_=>hq
theorem aT13{p q:Prop}(hq:q)(h:(Unit->q)->p:=by(intro hq;(iterate 13 refine aU ?_);try refine oWr ?_);exact hq ()):p:=h λ_=>hq
theorem Qc0{p q:Prop}(hq:q)(h:(Unit->q)->p:=by(intro hq;iterate 14 refine aU ?_);exact hq ()):p:=h λ_=>hq
theorem aT14{p q:Prop}(hq:q)(h:(Unit->q)->p:=by(intro hq;(iterate 14 refine aU ?_);try refine oWr ?_);exact hq ()):p:=h λ_=>hq
theorem aU15{p q:Prop}(hq:q)(h:(Unit->q)->p:=by(intro hq;iterate 15 refine aU ?_);exact hq ()):p:=h λ_=>hq
theorem Qq4{p q:Prop}(hq:q)(h:(Unit->q)->p:=by(intro hq;iterate 16 refine aU ?_);exact hq ()):p:=h λ_=>hq
theorem aU17{p q:Prop}(hq:q)(h:(Unit->q)->p:=by(intro hq;iterate 17 refine aU ?_);exact hq ()):p:=h λ_=>hq
theorem QqB{p q:Prop}(hq:q)(h:(Unit->q)->p:=by(intro hq;iterate 19 refine aU ?_);exact hq ()):p:=h λ_=>hq
theorem aU21{p q:Prop}(hq:q)(h:(Unit->q)->p:=by(intro hq;iterate 21 refine aU ?_);exact hq ()):p:=h λ_=>hq
end Gx
namespace Go.Proofs
open Go Go.RowKit Gx
instance:TSe Tryz.prog 22 61:=⟨Tryz.underlying22⟩
instance:TSe Tryz.prog 25 64:=⟨Tryz.underlying25⟩
instance:TSe Tryz.prog 48 102:=⟨Tryz.underlying48⟩
instance:TSe Tryz.prog 52 3:=⟨Tryz.underlying52⟩
instance:TSe Tryz.prog 62 76:=⟨Tryz.underlying62⟩
instance:TSe Tryz.prog 115 31:=⟨Tryz.underlying115⟩
instance:TSe Tryz.prog 155 5:=⟨Tryz.underlying155⟩
instance:TSe Tryz.prog 232 48:=⟨Tryz.underlying232⟩
/-- A call that answers v and writes to no old block. -/
abbrev CR(f:FuncId)(x:Array Value)(w:World)(v:Value):Prop:=Calls Tryz.prog f x w λen w'=>en=.returned v/\Below w.heap.size w w'
/-- A call that makes blocks. -/
abbrev CE{G:Type}(f:FuncId)(x:Array Value)(w:World)(M:List Nat)(V:G->Value)(F:G->Prop)(B:G->List HA):Prop:=Calls Tryz.prog f x w λen w'=>∃g,en=.returned (V g)/\F g/\HS w M (B g) w'
end Go.Proofs
/- What chapter 13's texts stand on. -/
namespace Go.Proofs
open Go Go.RowKit Gx
attribute [local irreducible] Go.Calls Gx.S Gx.O Gx.D Gx.OpP Gx.OpQ Gx.OpH
set_option maxRecDepth 20000
theorem XI:tsl Tryz.prog 115=some (31,1,8):=by kernel_rfl
theorem QlD:tsz Tryz.prog 31=some (1,false):=by kernel_rfl
instance:TFn Tryz.prog 154:=⟨by kernel_rfl⟩
theorem QaL:QH Tryz.prog 107=true:=by kernel_rfl
instance:TFn Tryz.prog 107:=⟨QaL⟩
instance:TFn Tryz.prog 155:=⟨by kernel_rfl⟩
theorem Yv:Xy Tryz.prog 31=some [.int .i64 0]:=by kernel_rfl
theorem Qe4:QH Tryz.prog 106=true:=by kernel_rfl
instance:TFn Tryz.prog 106:=⟨Qe4⟩
instance:TFn Tryz.prog 70:=⟨by kernel_rfl⟩
theorem Qld(w:World)(n lo hi:Int):CR 154 #[.int .i64 n,.int .i64 lo,.int .i64 hi] w (.bool (decide (lo<=n)&&decide (n<=hi))):=by
 refine eN3 Tryz.func154 Tryz.ntmps154 ?_
 refine YR ?_
 refine XJ 4 10 14 rfl
  (λhg1 _=>by
   refine aU6 ?_
   exact oJt 4 14)
  (λhg3 _=>by
   refine aU3 ?_
   exact oJf 4 14) ?_
 refine aU2 ?_
 exact rV
theorem c70(w:World)(n lo hi:Int):CR 70 #[.int .i64 n,.int .i64 lo,.int .i64 hi] w (.bool (decide (lo<=n)&&decide (n<=hi))):=by
 refine eN3 Tryz.func70 Tryz.ntmps70 ?_
 refine YR ?_
 refine XJ 4 10 14 rfl
  (λhg1 _=>by
   refine aU6 ?_
   exact oJt 4 14)
  (λhg3 _=>by
   refine aU3 ?_
   exact oJf 4 14) ?_
 refine aU2 ?_
 exact rV
theorem QbB(w:World)(ok:Bool)(e:Int):CR 107 #[.bool ok,.int .i64 e] w (.int .i64 (cond ok 0 e)):=by
 refine eN2 Tryz.func107 Tryz.ntmps107 ?_
 refine aU9 ?_
 refine sCd rfl (λh1=>?_) λh1=>?_
 ·refine aU4 ?_
  exact rV (h:=by simp_all[QV])
 refine aU6 ?_
 exact rV (h:=by simp_all[QV])
theorem c106(w:World)(a:Option Addr)(cap:Nat)(es:List Int)(hs:Sl w [] a 1 es.length (λi=>[.int .i64 (es.getD i 0)]))(hm:es.length<=1000):CR 106 #[.slice a es.length cap] w (.int .i64 (YF es)):=by
 refine eN1 Tryz.func106 Tryz.ntmps106 ?_
 refine Y1 ?_
 refine Qt (α:=Nat) [2,4,7,8,9,10,11,12,13,14] (λk=>[(7,.int .i64 (k:Int))]) (λ_=>_) (λk=>k<=es.length/\YF es=YF (es.drop k)) (λk=>es.length-k) 0 ⟨om,rfl⟩ aSx (λw h=>h) (λk hk=>?_)
 obtain⟨hk1,hk2⟩:=hk
 refine aU5 ?_
 refine sCd rfl (λh1=>?_) λh1=>?_
 ·refine aU5 ?_
  refine o_p (Qa rfl rfl rfl XI _ rfl om (hs.some om)) rfl (o_q (Qc rfl rfl QlD (hs.rd (i:=k) (j:=0) om rfl)) rfl (aU7 ?_))
  refine sCd rfl (λh2=>?_) λh2=>?_
  ·refine aU5 ?_
   exact rV (h:=by simp only[QV];rw[hk2,YV om,if_neg (by assumption)])
  refine aT4 ?_
  refine aU2 ?_
  exact QR (k+1) om ⟨om,by rw[hk2,YV om,if_pos (by assumption)]⟩ aSx (λw h=>h)
 refine Qi rfl ?_
 refine aU4 ?_
 exact rV (h:=by simp only[QV];rw[hk2,QcT om])
theorem Qju{w0 w:World}{M:List Nat}{As As':List HA}{b cap n:Nat}{t:TypeId}{tot:Nat}{cs:List Value}(h:HS w0 M As w)(hp:QC As (.blk b t tot cs) As')(hc:cs.all QgO=true)(hn:cs.length=n)(hl:n<=1000) :
    Calls Tryz.prog 106 #[.slice (some ⟨b,0,none⟩) n cap] w λen w'=>en=.returned (.int .i64 (Xm cs))/\Below w.heap.size w w':=by
  subst hn;have:=c106 w (some ⟨b,0,none⟩) cap (cs.map Go.RowKit.intOf) (by simpa using h.sl_ints hp hc) (by simpa using hl);rw[Qb1 hc]at this
  simpa using this
theorem c155(w:World)(n:Int):CR 155 #[.int .i64 n] w (.int .i64 (Q0 n)):=by
 refine eN1 Tryz.func155 Tryz.ntmps155 ?_
 refine aU7 ?_
 refine oCq rfl (λw1 h1=>Qld w1 _ _ _) (oCq rfl (λw1 h1=>QbB w1 _ _) (aU2 ?_))
 exact rV (h:=by simp only[QV,Q0,cond_eq_ite,Bool.and_eq_true,decide_eq_true_eq])
theorem Qa1{a b:Int}:Xm [.int .i64 a,.int .i64 b]=if a=0 then b else a:=by
  simp only[Xm]
  grind
theorem c117(w:World)(co mo rm:Int):CR 117 #[.int .i64 co,.int .i64 mo,.int .i64 rm] w (.int .i64 (if Q0 co=0 then YI mo rm else Q0 co)):=by
 refine eN3 Tryz.func117 Tryz.ntmps117 ?_
 refine aU7 ?_
 refine oCq rfl (λw1 h1=>Qld w1 _ _ _) (aU ?_)
 refine XJ 6 10 16 rfl
  (λhg1 _=>by
   refine aU5 ?_
   refine o_p (Y6 rfl rfl rfl om om om) rfl (aU3 ?_)
   refine oCq rfl (λw1 h1=>Qld w1 _ _ _) ?_
   exact oJt 6 16)
  (λhg3 _=>by
   refine aU5 ?_
   exact oJf 6 16) ?_
 refine aU5 ?_
 refine oCq rfl (λw1 h1=>c155 w1 _) (aU ?_)
 refine oCq rfl (λw1 h1=>QbB w1 _ _) (o_h (Qd (cs:=[_,_]) rfl rfl XI Yv rfl rfl rfl) rfl (λb5 _=>oCq rfl (λw1 h1=>Qju h1 aPk (by rfl) (by rfl) (by decide)) (aU2 ?_)))
 exact rV (h:=by simp only[QV];rw[Qa1];simp only[YI,cond_eq_ite,Bool.and_eq_true,decide_eq_true_eq])
theorem c83(w:World)(n:Int):CR 83 #[.int .i64 n] w (.int .i64 (Q0 n)):=by
 refine eN1 Tryz.func83 Tryz.ntmps83 ?_
 refine aU8 ?_
 refine oCq rfl (λw1 h1=>c70 w1 _ _ _) (aU2 ?_)
 refine sCd rfl (λh1=>?_) λh1=>?_
 ·have hz:Q0 n=15:=by have hq:=h1;unfold Q0;rw[if_neg (by first|omega|(simp at hq;omega))]
  refine aU4 ?_
  exact rV (h:=by rw[hz];rfl)
 have hz:Q0 n=0:=by have hq:=h1;unfold Q0;rw[if_pos (by first|omega|(simp at hq;omega))]
 refine aU5 ?_
 exact rV (h:=by rw[hz];rfl)
theorem c84(w:World)(mo rm:Int):CR 84 #[.int .i64 mo,.int .i64 rm] w (.int .i64 (YI mo rm)):=by
 refine eN2 Tryz.func84 Tryz.ntmps84 ?_
 refine aU8 ?_
 refine oCq rfl (λw1 h1=>c70 w1 _ _ _) (aU2 ?_)
 refine oOr 7 8 15 rfl
  (λhg1 _=>by
   refine aU5 ?_
   refine o_p (Y6 rfl rfl rfl om om om) rfl (aU3 ?_)
   refine oCq rfl (λw1 h1=>c70 w1 _ _ _) (aU2 ?_)
   exact oJf 7 15)
  (λhg3 _=>by
   refine aU6 ?_
   exact oJt 7 15) ?_
 refine aU ?_
 refine sCd rfl (λh5=>?_) λh5=>?_
 ·have hz:YI mo rm=2:=by have hq:=h5;unfold YI;rw[if_neg (by first|omega|(simp at hq;omega))]
  refine aU4 ?_
  exact rV (h:=by rw[hz];rfl)
 have hz:YI mo rm=0:=by have hq:=h5;unfold YI;rw[if_pos (by first|omega|(simp at hq;omega))]
 refine aU5 ?_
 exact rV (h:=by rw[hz];rfl)
theorem Zh:tki Tryz.prog 5=some .u8:=by kernel_rfl
theorem Yw:tki Tryz.prog 3=some .i64:=by kernel_rfl
instance:TFn Tryz.prog 199:=⟨by kernel_rfl⟩
theorem QlJ(a b:Int):Value.int .i64 (IntKind.i64.wrap ((if decide (b<a)=true then 1 else 0)-(if decide (a<b)=true then 1 else 0)))=Value.int .i64 (XQ a b):=by
  unfold XQ
  by_cases h1:a<b
  · have h2:¬b<a:=by omega
    simp only[h1,h2,decide_true,decide_false,Bool.false_eq_true,if_true,if_false];rfl
  · by_cases h2:b<a
    · simp only[h1,h2,decide_true,decide_false,Bool.false_eq_true,if_true,if_false];rfl
    · simp only[h1,h2,decide_true,decide_false,Bool.false_eq_true,if_true,if_false];rfl
def Qf9(c:Int):Int:=if 97<=c/\c<=122 then c-32 else c
theorem QfP(u:UInt8):Qf9 (u.toNat:Int)=((QbK u).toNat:Int):=by
  have hu:=u.toNat_lt;unfold Qf9 QbK
  by_cases h:97<=u/\u<=122
  · have h2:=h;rw[UInt8.le_iff_toNat_le,UInt8.le_iff_toNat_le]at h2;have e97:(97:UInt8).toNat=97:=rfl;have e122:(122:UInt8).toNat=122:=rfl;rw[e97,e122]at h2;rw[if_pos h,if_pos om,UInt8.toNat_sub_of_le _ _ (by rw[UInt8.le_iff_toNat_le];show 32<=_;omega)];show(u.toNat:Int)-32=((u.toNat-32:Nat):Int);omega
  · have h2:=h;rw[UInt8.le_iff_toNat_le,UInt8.le_iff_toNat_le]at h2;have e97:(97:UInt8).toNat=97:=rfl;have e122:(122:UInt8).toNat=122:=rfl;rw[e97,e122]at h2;rw[if_neg h,if_neg om]
theorem QaP(w:World)(s:List UInt8)(at' c:Nat)(hm:s.length<=1000000000)(hc:c<=7)(hac:at'+c<=s.length):CR 123 #[.string (bs s),.int .i64 (at':Int),.int .i64 (c:Int)] w (.int .i64 (Qbb s at' c)):=by
 refine eN3 Tryz.func123 Tryz.ntmps123 ?_
 refine aT13 ?_
 refine aU3 ?_
 refine Qt (α:=Nat) [7,8,11,12,13,14,15,16,17,18,19,20,21,22,23] (λj=>[(8,.int .i64 ((j:Int)-1)),(7,.int .i64 (Qbb s (at'+j) (c-j)))]) (λ_=>_) (λj=>j<=c) (λj=>j) c (Nat.le_refl _) (by rw[Nat.sub_self];exact aSx) (λw h=>h) (λj hj=>?_)
 refine aU6 ?_
 refine sCd rfl (λh1=>?_) λh1=>?_
 ·obtain⟨i,rfl⟩:∃i,j=i+1:=⟨j-1,om⟩
  have hst:Qbb s (at'+i) (c-i)=at1 s (at'+i)+256*Qbb s (at'+(i+1)) (c-(i+1)):=by rw[show c-i=(c-(i+1))+1 by omega,Qbb];rfl
  have hb1:=Zy s (at'+i)
  have hn6:=QqZ s (at'+(i+1)) (k:=c-(i+1)) om
  have hb9:=(s.getD (at'+i) 0).toNat_lt
  refine aT6 ?_
  refine aT4 ?_
  refine Qm (show _=Value.int .i64 ((at'+i:Nat):Int)from by congr 1;omega) (o_p (Z6 rfl rfl rfl Tryz.underlying9 (at'+i) om om) rfl ?_)
  refine o_p (Qr rfl rfl Zh Yw) rfl ?_
  try refine oWr ?_
  refine aT ?_
  refine Qm (show _=Value.int .i64 (Qbb s (at'+i) (c-i))from by rw[hst];congr 1;show _*256+at1 s (at'+i)=_;omega) (aT6 ?_)
  refine aU2 ?_
  exact QR i om om (by rw[show((i:Int)-1)=((i+1:Nat):Int)-1-1 from om];exact aSx) (λw h=>h)
 obtain rfl:j=0:=om
 rw[Nat.add_zero,Nat.sub_zero]
 refine Qi rfl ?_
 refine aU5 ?_
 exact rV
theorem c199(w:World)(b:Bool):CR 199 #[.bool b] w (.int .i64 (if b then 1 else 0)):=by
 refine eN1 Tryz.func199 Tryz.ntmps199 ?_
 refine aU9 ?_
 refine sCd rfl (λh1=>?_) λh1=>?_
 ·refine aU4 ?_
  exact rV (h:=by simp_all[QV])
 refine aU5 ?_
 exact rV (h:=by simp_all[QV])
theorem QpR(w:World)(n:Int):CR 200 #[.int .i64 n] w (.bool (decide (0<=n)&&decide (n<=2147483647))):=by
 refine eN1 Tryz.func200 Tryz.ntmps200 ?_
 refine aU7 ?_
 refine oCq rfl (λw1 h1=>c70 w1 _ _ _) (aU2 ?_)
 exact rV
theorem QnG(w:World)(a b:Int):CR 178 #[.int .i64 a,.int .i64 b] w (.int .i64 (XQ a b)):=by
 refine eN2 Tryz.func178 Tryz.ntmps178 ?_
 refine aU9 ?_
 refine oCq rfl (λw1 h1=>c199 w1 _) (aU3 ?_)
 refine oCq rfl (λw1 h1=>c199 w1 _) (aU ?_)
 refine Qm (show _=Value.int .i64 (XQ a b)from QlJ a b) (aU2 ?_)
 exact rV
theorem c179(w:World)(c:Int)(h0:0<=c/\c<=255):CR 179 #[.int .i64 c] w (.int .i64 (Qf9 c)):=by
 refine eN1 Tryz.func179 Tryz.ntmps179 ?_
 refine aU8 ?_
 refine oCq rfl (λw1 h1=>c70 w1 _ _ _) (aU ?_)
 refine sCd rfl (λh1=>?_) λh1=>?_
 ·have hz:Qf9 c=c-97+65:=by have hq:=h1;unfold Qf9;rw[if_pos (by first|exact hq|(simp at hq;omega))];omega
  refine aT4 ?_
  refine aT ?_
  refine aU2 ?_
  exact rV (h:=by rw[hz];rfl)
 have hz:Qf9 c=c:=by have hq:=h1;unfold Qf9;rw[if_neg (by intro h9;first|exact hq h9|(simp at hq;omega))]
 refine aU6 ?_
 exact rV (h:=by rw[hz];rfl)
theorem Q1:tsl Tryz.prog 155=some (5,1,1):=by kernel_rfl
theorem QbQ:tsz Tryz.prog 5=some (1,false):=by kernel_rfl
theorem YH:tki Tryz.prog 204=some .u16:=by kernel_rfl
theorem Qx:Tryz.prog.follows .mixedOrders=true:=by kernel_rfl
theorem Qmw:QH Tryz.prog 224=true:=by kernel_rfl
theorem Yl:tki Tryz.prog 173=some .u32:=by kernel_rfl
instance:TFn Tryz.prog 212:=⟨by kernel_rfl⟩
instance:TFn Tryz.prog 213:=⟨by kernel_rfl⟩
theorem Qq8:isCS Tryz.prog 211:=⟨_,Tryz.func211,rfl,rfl,by kernel_rfl,by kernel_rfl⟩
instance:TFn Tryz.prog 194:=⟨by kernel_rfl⟩
theorem c224(w:World)(a:Option Addr)(m cap:Nat)(x:List UInt8)(hs:Vl w a (x.map bv))(hm:x.length=m)(h2:2<=m)(hc:m<=cap)(hc9:cap<=9223372036854775807):CR 224 #[.slice a m cap] w (.int .u16 (at2 x 0)):=by
 refine eN1 Tryz.func224 Tryz.ntmps224 ?_
 refine aU5 ?_
 refine Qq [] Qx ?_
 refine dP 0 ?_
 refine dV 1 rfl (Qa rfl rfl rfl Q1 0 rfl om (hs.some (by rw[List.length_map];omega))) (dQ 2 [] rfl (Qc rfl rfl QbQ ((hs.rd (i:=0) (YG (l:=x) (k:=0) om)))) (dV 3 rfl (Qr rfl rfl Zh YH) (dP 4 ?_)))
 refine dV 5 rfl (Qa rfl rfl rfl Q1 1 rfl om (hs.some (by rw[List.length_map];omega))) (dQ 6 [] rfl (Qc rfl rfl QbQ ((hs.rd (i:=1) (YG (l:=x) (k:=1) om)))) (dV 7 rfl (Qr rfl rfl Zh YH) (dV 8 rfl (Qh6 rfl rfl rfl (by decide) 8 rfl) (dP 9 ?_))))
 refine dP 10 ?_
 refine dNi ?_
 exact rV (h:=by rw[<-Qix];rfl)
theorem c212(w:World)(a:Option Addr)(m cap:Nat)(x:List UInt8)(hs:Vl w a (x.map bv))(hm:x.length=m)(h2:4<=m)(hc:m<=cap)(hc9:cap<=9223372036854775807):CR 212 #[.slice a m cap] w (.int .u32 (at4 x 0)):=by
 have hx2:=ZN x 0
 have hx3:=ZN x 2
 refine eN1 Tryz.func212 Tryz.ntmps212 ?_
 refine aU5 ?_
 refine Qq [] Qx ?_
 refine dP 0 ?_
 refine dQ 1 [] rfl (Ql rfl Qmw rfl (λw1 h1=>c224 w1 a m cap x (hs.later h1) hm om hc hc9)) (dV 2 rfl (Qr rfl rfl YH Yl) (dP 3 ?_))
 refine dV 4 rfl (QJ _ _ 2 m rfl rfl Q1 ⟨_,_,rfl,rfl⟩ rfl om om) (dQ 5 [] rfl (Ql rfl Qmw rfl (λw1 h1=>c224 w1 (Yh a cap 2 1) (m-2) (cap-2) (x.drop 2) (by rw[List.map_drop];exact(hs.later h1).drop (by rw[List.length_map];omega) om) (by rw[List.length_drop];omega) om om om)) (dV 6 rfl (Qr rfl rfl YH Yl) (dV 7 rfl (Qh6 rfl rfl rfl (by decide) 16 rfl) (dP 8 ?_))))
 refine dP 9 ?_
 refine dNi ?_
 exact rV (h:=by have h9:=QiB (at2 x 0) (at2 (x.drop 2) 0) (ZN _ _) (ZN _ _);rw[QbV]at h9 ⊢;exact(congrArg Ending.returned h9))
theorem QpU(w:World)(s:List UInt8)(p:Nat)(hm:s.length<=1000000)(hp:p+4<=s.length):CR 195 #[.string (bs s),.int .i64 (p:Int)] w (.int .u32 (at4 s p)):=by
 have h4:=QaY s p
 have hdl:(s.drop p).length=s.length-p:=List.length_drop
 refine eN2 Tryz.func195 Tryz.ntmps195 ?_
 refine aU8 ?_
 refine o_p (QdZ p rfl rfl rfl Tryz.underlying9 rfl om) rfl (o_h (Qer rfl rfl Tryz.underlying9 Tryz.underlying155 Tryz.underlying5 rfl (by simp only[maxLen];omega)) rfl (λ⟨b1,c2⟩⟨h3,k4⟩=>oCq rfl (λw1 h1=>by have h9:=c212 w1 (some ⟨b1,0,none⟩) (s.drop p).length c2 (s.drop p) (h1.vl_blk aPk) rfl om (by assumption) (by have hq9:c2<=maxLen:=(by assumption);simp only[maxLen]at hq9;omega);rw[Qas,Nat.add_zero]at h9;exact h9) (aU2 ?_)))
 exact rV
theorem c213(w:World)(x:Int):CR 213 #[.int .u32 x] w (.bool false):=by
 refine eN1 Tryz.func213 Tryz.ntmps213 ?_
 refine YZ ?_
 exact rV (h:=by simp[QV])
theorem c196(w:World)(x y:Int):CR 196 #[.int .u32 x,.int .u32 y] w (.int .i64 (XQ x y)):=by
 refine eN2 Tryz.func196 Tryz.ntmps196 ?_
 refine aU7 ?_
 refine oCq rfl (λw1 h1=>c213 w1 _) (aU5 ?_)
 refine oCq rfl (λw1 h1=>c213 w1 _) (aU7 ?_)
 refine sCd rfl (λh1=>?_) λh1=>?_
 ·exfalso;simp at h1
 refine aU6 ?_
 refine sCd rfl (λh2=>?_) λh2=>?_
 ·exfalso;simp at h2
 refine aU8 ?_
 refine sCd rfl (λh3=>?_) λh3=>?_
 ·have hz:XQ x y= -1:=by have hq:=h3;unfold XQ;rw[if_pos hq]
  refine aU4 ?_
  exact rV (h:=by rw[hz];rfl)
 refine aU8 ?_
 refine sCd rfl (λh4=>?_) λh4=>?_
 ·have hz:XQ x y=1:=by have hq:=h4;unfold XQ;rw[if_neg om,if_pos hq]
  refine aU4 ?_
  exact rV (h:=by rw[hz];rfl)
 have hz:XQ x y=0:=by have hq:=h4;unfold XQ;rw[if_neg om,if_neg hq]
 refine aU5 ?_
 exact rV (h:=by rw[hz];rfl)
theorem c194(w:World)(a b:List UInt8):CR 194 #[.string (bs a),.string (bs b)] w (.int .i64 (X2 a b)):=by
 refine eN2 Tryz.func194 Tryz.ntmps194 ?_
 refine aU8 ?_
 refine o_q (Qii rfl rfl rfl Qq8) rfl (aU2 ?_)
 exact rV
theorem c157(w:World)(a b:List UInt8):CR 157 #[.string (bs a),.string (bs b)] w (.int .i64 (X2 a b)):=by
 refine eN2 Tryz.func157 Tryz.ntmps157 ?_
 refine aU8 ?_
 refine oCq rfl (λw1 h1=>c194 w1 _ _) (aU2 ?_)
 exact rV
instance:TFn Tryz.prog 195:=⟨by kernel_rfl⟩
instance:TFn Tryz.prog 196:=⟨by kernel_rfl⟩
instance:TFn Tryz.prog 162:=⟨by kernel_rfl⟩
def Qa2(s:List UInt8)(q:Nat):Bool:=(List.range q).all λi=>Qax s (4*i)
theorem Qk9{s:List UInt8}{q k:Nat}(hk:k<q)(h:2147483647<at4 s (4*k)):Qa2 s q=false:=by
  unfold Qa2;rw[List.all_eq_false];exact⟨k,List.mem_range.2 hk,by unfold Qax;simp;omega⟩
theorem Qil{s:List UInt8}{k:Nat}(h:Qa2 s k=true)(h2:¬2147483647<at4 s (4*k)):Qa2 s (k+1)=true:=by
  unfold Qa2 at h ⊢;rw[List.range_succ,List.all_append,h];unfold Qax;simp;omega
def QbC(a b:List UInt8):Nat->Nat->Int
  | 0,_=>0
  | f+1,k=>if XQ (at4 a (4*k)) (at4 b (4*k))≠0 then XQ (at4 a (4*k)) (at4 b (4*k))else QbC a b f (k+1)
theorem c162(w:World)(s:List UInt8)(q:Nat)(hm:s.length<=1000000)(hq:q<=1000):CR 162 #[.string (bs s),.int .i64 ((4*q:Nat):Int)] w (.bool (decide (s.length=4*q)&&Qa2 s q)):=by
 refine eN2 Tryz.func162 Tryz.ntmps162 ?_
 refine aU8 ?_
 refine o_p (QN rfl rfl Tryz.underlying9) rfl (aU3 ?_)
 refine sCd rfl (λh1=>?_) λh1=>?_
 ·have hne:¬s.length=4*q:=by have hq9:=h1;omega
  refine aU4 ?_
  exact rV (h:=by simp[QV,hne])
 have heq:s.length=4*q:=by have hq9:=h1;omega
 refine aU7 ?_
 refine Qt (α:=Nat) [4,5,10,11,12,13,14,15,16,17,18] (λk=>[(5,.int .i64 ((4*k:Nat):Int))]) (λ_=>_) (λk=>k<=q/\Qa2 s k=true) (λk=>q-k) 0 ⟨Nat.zero_le _,rfl⟩ aSx (λw h=>h) (λk hx=>?_)
 obtain⟨hk1,hok⟩:=hx
 refine aU7 ?_
 refine sCd rfl (λh2=>?_) λh2=>?_
 ·have hk:k<q:=by omega
  refine aU7 ?_
  refine oCq rfl (λw1 h1=>QpU w1 s (4*k) om om) (aU2 ?_)
  refine sCd rfl (λh3=>?_) λh3=>?_
  ·have hz:=Qk9 hk h3
   refine aU4 ?_
   exact rV (h:=by simp[QV,hz])
  have hz:=Qil hok h3
  refine aT5 ?_
  refine aU2 ?_
  exact QR (k+1) om ⟨om,hz⟩ (by rw[show(((4*k:Nat)):Int)+4=((4*(k+1):Nat):Int)from om];exact aSx) (λw h=>h)
 obtain rfl:k=q:=om
 refine Qi rfl ?_
 refine aU4 ?_
 exact rV (h:=by simp[QV,heq,hok])
theorem c163(w:World)(a b:List UInt8)(q:Nat)(ha:a.length=4*q)(hb:b.length=4*q)(hq:q<=1000):CR 163 #[.string (bs a),.string (bs b)] w (.int .i64 (QbC a b q 0)):=by
 refine eN2 Tryz.func163 Tryz.ntmps163 ?_
 refine YR ?_
 refine Qt (α:=Nat) [4,5,6,7,8,9,10,11,12,13,14,15,16,17,18,19,20,21,22] (λk=>[(5,.int .i64 ((4*k:Nat):Int))]) (λ_=>_) (λk=>k<=q/\QbC a b q 0=QbC a b (q-k) k) (λk=>q-k) 0 ⟨Nat.zero_le _,rfl⟩ aSx (λw h=>h) (λk hx=>?_)
 obtain⟨hk1,hx2⟩:=hx
 refine aU5 ?_
 refine o_p (QN rfl rfl Tryz.underlying9) rfl (aU2 ?_)
 refine sCd rfl (λh1=>?_) λh1=>?_
 ·have hk:k<q:=by omega
  have hst:QbC a b (q-k) k=if XQ (at4 a (4*k)) (at4 b (4*k))≠0 then XQ (at4 a (4*k)) (at4 b (4*k))else QbC a b (q-(k+1)) (k+1):=by rw[show q-k=(q-(k+1))+1 by omega,QbC]
  refine aU7 ?_
  refine oCq rfl (λw1 h1=>QpU w1 a (4*k) om om) (aU2 ?_)
  refine oCq rfl (λw1 h1=>QpU w1 b (4*k) om om) (oCq rfl (λw1 h1=>c196 w1 _ _) (aU7 ?_))
  refine sCd rfl (λh2=>?_) λh2=>?_
  ·have hq9:XQ (at4 a (4*k)) (at4 b (4*k))≠0:=h2
   rw[hst,if_pos hq9]at hx2
   refine aU5 ?_
   exact rV (h:=by rw[hx2];rfl)
  have hq9:¬XQ (at4 a (4*k)) (at4 b (4*k))≠0:=by have hq8:=h2;simpa using hq8
  rw[hst,if_neg hq9]at hx2
  refine aT5 ?_
  refine aU2 ?_
  exact QR (k+1) om ⟨om,hx2⟩ (by rw[show(((4*k:Nat)):Int)+4=((4*(k+1):Nat):Int)from om];exact aSx) (λw h=>h)
 obtain rfl:k=q:=om
 rw[Nat.sub_self,QbC]at hx2
 refine Qi rfl ?_
 refine aU4 ?_
 exact rV (h:=by rw[hx2];rfl)
theorem c161(w:World)(s:List UInt8)(hm:s.length<=1000000):CR 161 #[.string (bs s)] w (.bool (QS 2 s)):=by
 refine eN1 Tryz.func161 Tryz.ntmps161 ?_
 refine aU7 ?_
 refine oCq rfl (λw1 h1=>c162 w1 s 1 hm (by decide)) (aU2 ?_)
 exact rV (h:=by simp[QV,QS,Qa2,List.range_succ,List.range_zero])
theorem c164(w:World)(s:List UInt8)(hm:s.length<=1000000):CR 164 #[.string (bs s)] w (.bool (QS 3 s)):=by
 refine eN1 Tryz.func164 Tryz.ntmps164 ?_
 refine aU7 ?_
 refine oCq rfl (λw1 h1=>c162 w1 s 2 hm (by decide)) (aU2 ?_)
 exact rV (h:=by simp[QV,QS,Qa2,List.range_succ,List.range_zero])
theorem c156(w:World)(s:List UInt8):CR 156 #[.string (bs s)] w (.bool (QS 0 s)):=by
 refine eN1 Tryz.func156 Tryz.ntmps156 ?_
 refine aU7 ?_
 refine o_p (QN rfl rfl Tryz.underlying9) rfl (oCq rfl (λw1 h1=>Qld w1 _ _ _) (aU2 ?_))
 exact rV (h:=by simp[QV,QS,Bool.decide_and];first|done|(congr 1<;>simp<;>omega)|grind)
theorem c158(w:World)(s:List UInt8):CR 158 #[.string (bs s)] w (.bool (QS 1 s)):=by
 refine eN1 Tryz.func158 Tryz.ntmps158 ?_
 refine aU7 ?_
 refine o_p (QN rfl rfl Tryz.underlying9) rfl (oCq rfl (λw1 h1=>Qld w1 _ _ _) (aU2 ?_))
 exact rV (h:=by simp[QV,QS,Bool.decide_and];first|done|(congr 1<;>simp<;>omega)|grind)
theorem Qlz:Xy Tryz.prog 186=some [.nilFunc,.nilFunc,.nilFunc,.nilFunc,.nilFunc,.nilFunc,.nilFunc,.nilFunc]:=by kernel_rfl
theorem Qhx:YA Tryz.prog 126=some [(0,1),(1,1)]:=by kernel_rfl
theorem Qg4:Xy Tryz.prog 126=some [.nilFunc,.nilFunc]:=by kernel_rfl
theorem Qhs:tar Tryz.prog 186=some (4,126,2):=by kernel_rfl
theorem Ql0:tsz Tryz.prog 186=some (8,true):=by kernel_rfl
instance:TSz Tryz.prog 186 8 true:=⟨Ql0⟩
theorem QjF:QH Tryz.prog 118=true:=by kernel_rfl
instance:TFn Tryz.prog 118:=⟨QjF⟩
theorem QhF:tsz Tryz.prog 126=some (2,true):=by kernel_rfl
instance:TSz Tryz.prog 126 2 true:=⟨QhF⟩
theorem Qnj:tfd Tryz.prog 126 0=some (0,123):=by kernel_rfl
theorem Qqb:tsz Tryz.prog 123=some (1,false):=by kernel_rfl
def Qd5(co:Int):Nat:=if co=0 then 156 else if co=1 then 158 else if co=2 then 161 else 164
def QdX(co:Int):Nat:=if co=0 then 157 else if co=1 then 159 else 163
def Qap(f:Nat):Value:=.func (.func f) #[] #[]
def ordV(co:Int):Value:=.agg #[Qap (Qd5 co),Qap (QdX co)]
theorem QqC(w:World):CR 118 #[] w (.agg #[Qap (Qd5 0),Qap (QdX 0),Qap (Qd5 1),Qap (QdX 1),Qap (Qd5 2),Qap (QdX 2),Qap (Qd5 3),Qap (QdX 3)]):=by
 refine eN0 Tryz.func118 Tryz.ntmps118 ?_
 refine aU2 ?_
 refine oAl (λb1 _=>?_) Qlz
 refine aU3 ?_
 refine o_p (QD (cs:=[_,_]) rfl rfl Qhx Qg4 rfl) rfl (o_p (QD (cs:=[_,_]) rfl rfl Qhx Qg4 rfl) rfl (o_p (QD (cs:=[_,_]) rfl rfl Qhx Qg4 rfl) rfl (o_p (QD (cs:=[_,_]) rfl rfl Qhx Qg4 rfl) rfl (o_p (Qeg (cs:=[_,_,_,_,_,_,_,_]) rfl rfl Qhs Qlz rfl) rfl (aU2 ?_)))))
 exact Qf (rs:=[.cell 0 186]) rfl (.cell rfl Ql0 aPk rfl (.nil)) (λw' h'=>⟨by rfl,h'.below⟩)
theorem Qqr(co:Int):QH Tryz.prog (Qd5 co)=true:=by
  unfold Qd5;split
  · kernel_rfl
  · split
    · kernel_rfl
    · split<;>kernel_rfl
theorem Qlf(w:World)(j:Nat)(s:List UInt8)(hj:j<=3)(hm:s.length<=1000000):Calls Tryz.prog (Qd5 (j:Int)) #[.string (bs s)] w λen w'=>en=.returned (.bool (QS (j:Int) s))/\Below w.heap.size w w':=by
  match j,hj with
  | 0,_=>exact c156 w s
  | 1,_=>exact c158 w s
  | 2,_=>exact c161 w s hm
  | 3,_=>exact c164 w s hm
theorem QfO(j:Nat)(hj:j<=3):Value.agg (cut [Qap (Qd5 0),Qap (QdX 0),Qap (Qd5 1),Qap (QdX 1),Qap (Qd5 2),Qap (QdX 2),Qap (Qd5 3),Qap (QdX 3)] (j*2) 2).toArray=ordV (j:Int):=by
  match j,hj with
  | 0,_=>rfl
  | 1,_=>rfl
  | 2,_=>rfl
  | 3,_=>rfl
theorem c121(w:World)(j:Nat)(s:List UInt8)(hj:j<=3)(hm:s.length<=1000000):CR 121 #[.int .i64 (j:Int),.string (bs s)] w (.int .i64 (YU (j:Int) s)):=by
 refine eN2 Tryz.func121 Tryz.ntmps121 ?_
 refine aU6 ?_
 refine oCq rfl (λw1 h1=>QqC w1) (aU ?_)
 refine o_p (Qbu rfl rfl rfl Qhs QhF j rfl om) rfl (Qm (QfO j hj) (o_p (QbL rfl rfl Qnj Qqb rfl) rfl (aU ?_)))
 refine o_q (X3 rfl rfl (Qqr _) rfl (λw1 h1=>Qlf w1 j s hj hm)) rfl (oCq rfl (λw1 h1=>QbB w1 _ _) (aU2 ?_))
 exact rV (h:=by simp only[QV,YU,cond_eq_ite])
instance:TFn Tryz.prog 160:=⟨by kernel_rfl⟩
instance:TFn Tryz.prog 157:=⟨by kernel_rfl⟩
theorem bset{L:List UInt8}{k:Nat}{x:UInt8}{v:Value}(h:k<L.length)(hv:v=bv x):QA (L.map bv) (k*1) [v]=(L.set k x).map bv:=by
  subst hv;have h9:=Qao (vals:=byV) (sz:=1) (λ_=>rfl) L k 0 [bv x] (L.getD k 0) x (by rw[List.getElem?_eq_getElem h,List.getD_eq_getElem?_getD,List.getElem?_eq_getElem h];rfl) rfl (by simp);rw[Nat.add_zero]at h9;have e:∀M:List UInt8,M.flatMap byV=M.map bv:=λM=>QmQ bv M;rw[e,e]at h9;exact h9
def Qcs(s:List UInt8)(k:Nat):List UInt8:=(s.map QbK).take k++s.drop k
theorem QbY{s:List UInt8}{k:Nat}(h:k<=s.length):(Qcs s k).length=s.length:=by simp[Qcs];omega
theorem QhK{s:List UInt8}{k:Nat}(h:k<s.length):(Qcs s k).getD k 0=s.getD k 0:=by
  unfold Qcs;rw[List.getD_eq_getElem?_getD,List.getElem?_append_right (by simp;omega),List.getElem?_drop,List.getD_eq_getElem?_getD];congr 2;simp;omega
theorem Qir{s:List UInt8}{k:Nat}(h:k<s.length):(Qcs s k).set k (QbK (s.getD k 0))=Qcs s (k+1):=by
  unfold Qcs;apply List.ext_getElem?;intro j;simp only[List.getElem?_set,List.getElem?_append,List.getElem?_take,List.getElem?_drop,List.length_append,List.length_take,List.length_map,List.length_drop,List.getElem?_map,List.getD_eq_getElem?_getD];have hk:=List.getElem?_eq_getElem h
  grind
theorem Qqg(s:List UInt8):Qcs s 0=s:=by simp[Qcs]
theorem QlW(s:List UInt8):Qcs s s.length=s.map QbK:=by
  unfold Qcs;rw[List.drop_length,List.append_nil,List.take_of_length_le (by simp)]
theorem Qli{s:List UInt8}{k:Nat}(h:k<s.length)(hc:QbK (s.getD k 0)=s.getD k 0):Qcs s k=Qcs s (k+1):=by
  rw[<-Qir h,hc];apply List.ext_getElem?;intro j;rw[List.getElem?_set];split
  · rename_i e;subst e;rw[<-QhK h,List.getD_eq_getElem?_getD];rw[if_pos (by rw[QbY om];exact h),List.getElem?_eq_getElem (by rw[QbY om];exact h)];rfl
  · rfl
theorem Qmg{x:UInt8}(h:97<=x.toNat/\x.toNat<=122):Value.int .u8 (IntKind.u8.wrap (IntKind.u8.wrap ((x.toNat:Int)-97)+65))=bv (QbK x):=by
  have h2:=QfP x;unfold Qf9 at h2;rw[if_pos om]at h2;rw[show(x.toNat:Int)-97=((x.toNat-97:Nat):Int) by omega,QjR _ om,show((x.toNat-97:Nat):Int)+65=((x.toNat-32:Nat):Int) by omega,QjR _ om];unfold bv;exact congrArg (Value.int .u8) om
theorem QqY{x:UInt8}(h:¬(97<=x.toNat/\x.toNat<=122)):QbK x=x:=by
  have h2:=QfP x;unfold Qf9 at h2;rw[if_neg om]at h2;exact UInt8.toNat_inj.1 om
theorem c160(w:World)(s:List UInt8)(hm:s.length<=1000000):CR 160 #[.string (bs s)] w (.string (bs (s.map QbK))):=by
 refine eN1 Tryz.func160 Tryz.ntmps160 ?_
 refine aU7 ?_
 refine o_h (Qer rfl rfl Tryz.underlying9 Tryz.underlying155 Tryz.underlying5 rfl (by simp only[maxLen];omega)) rfl (λ⟨b1,c2⟩⟨h3,k4⟩=>YR ?_)
 refine Qt (α:=Nat) [4,5,10,11,12,13,14,15,16,17,18,19,20,21,22,23,24,25,26,27] (λk=>[(10,.int .i64 (k:Int))]) (λk=>HS w [] [.blk b1 5 c2 ((Qcs s k).map bv)]) (λk=>k<=s.length) (λk=>s.length-k) 0 (Nat.zero_le _) aSx (λw h=>by rw[Qqg];exact h.ent aEt) (λk hk1=>?_)
 refine aU5 ?_
 refine sCd rfl (λh5=>?_) λh5=>?_
 ·have hk:k<s.length:=by omega
  have hb9:=(s.getD k 0).toNat_lt
  refine aU6 ?_
  refine o_p (Qa rfl rfl rfl Q1 (k) om om rfl) rfl (o_q (Qn rfl rfl QbQ (λw h=>by rw[Nat.zero_add];exact h.rd_blk (Mc:=[]) aPk (by rw[Nat.mul_one,YG (by rw[QbY hk1];exact hk),QhK hk]) (by simp))) rfl (aU8 ?_))
  refine XJ 3 17 20 rfl
   (λhg6 _=>by
    refine aU4 ?_
    exact oJt 3 20)
   (λhg8 _=>by
    refine aU2 ?_
    exact oJf 3 20) ?_
  refine aU ?_
  refine Xe (α:=Unit) [21,22,23,24,25,26] (λ_=>[]) (λ_=>HS w [] [.blk b1 5 c2 ((Qcs s (k+1)).map bv)]) (λ_=>True) ?_ ?_
  ·skip
   refine sCd rfl (λh10=>?_) λh10=>?_
   ·have hcc:97<=(s.getD k 0).toNat/\(s.getD k 0).toNat<=122:=by have hq:=h10;omega
    refine aU6 ?_
    try (refine Qm (u8add _ _) ?_)
    refine Qm (Qmg hcc) (o_p (Qa rfl rfl rfl Q1 (k) om om rfl) rfl (Qm (show _=Value.pointer (some ⟨b1,k*1,none⟩)from by rw[Nat.zero_add]) (Qal (Xt rfl rfl rfl QbQ rfl aPt (by rw[List.length_map,QbY hk1];omega) rfl) (λ_ _=>aU ?_))))
    exact Qo () trivial aSx (λw h=>by have h2:=HS.blk_to (b:=b1) h aPk (bset (L:=Qcs s k) (x:=QbK (s.getD k 0)) (by rw[QbY hk1];exact hk) rfl);rw[Qir hk]at h2;exact h2.ent aEt)
   have hno:QbK (s.getD k 0)=s.getD k 0:=QqY (by have hq:=h10;omega)
   refine aU ?_
   exact Qo () trivial aSx (λw h=>by rw[<-Qli hk hno];exact h.ent aEt)
  intro _ _
  refine aT3 ?_
  refine aU2 ?_
  exact sBk (k+1)
 obtain rfl:k=s.length:=om
 rw[QlW]
 refine Qi rfl ?_
 refine aU3 ?_
 refine o_q (QgP rfl rfl Tryz.underlying155 Tryz.underlying9 Tryz.underlying5 aPk (by simp[List.length_map]) (QeE _)) rfl (aU2 ?_)
 exact rV (h:=by simp only[Qdj];rfl)
theorem c159(w:World)(a b:List UInt8)(ha:a.length<=1000000)(hb:b.length<=1000000):CR 159 #[.string (bs a),.string (bs b)] w (.int .i64 (X2 (a.map QbK) (b.map QbK))):=by
 refine eN2 Tryz.func159 Tryz.ntmps159 ?_
 refine aU7 ?_
 refine oCq rfl (λw1 h1=>c160 w1 a ha) (aU ?_)
 refine oCq rfl (λw1 h1=>c160 w1 b hb) (oCq rfl (λw1 h1=>c157 w1 _ _) (aU2 ?_))
 exact rV
theorem QoK(a b:List UInt8):QbC a b 1 0=QM 2 a b:=by
  simp only[QbC,QM,Nat.mul_zero];split
  · rfl
  · rename_i h;simp only[ne_eq,Decidable.not_not]at h;rw[h];rfl
theorem QoR(a b:List UInt8):QbC a b 2 0=QM 3 a b:=by
  have e:QM 3 a b=if XQ (at4 a 0) (at4 b 0)≠0 then XQ (at4 a 0) (at4 b 0)else XQ (at4 a 4) (at4 b 4):=rfl
  rw[e];show(if XQ (at4 a 0) (at4 b 0)≠0 then XQ (at4 a 0) (at4 b 0)else if XQ (at4 a 4) (at4 b 4)≠0 then XQ (at4 a 4) (at4 b 4)else 0)=_
  by_cases h:XQ (at4 a 0) (at4 b 0)≠0
  · rw[if_pos h,if_pos h]
  · rw[if_neg h,if_neg h];split
    · rfl
    · rename_i h2;simp only[ne_eq,Decidable.not_not]at h2;exact h2.symm
theorem QeC{s:List UInt8}(h:QS 2 s=true):s.length=4:=by
  unfold QS at h;simp at h;exact h.1
theorem Qeq{s:List UInt8}(h:QS 3 s=true):s.length=8:=by
  unfold QS at h;simp at h;exact h.1
theorem QfT(co:Int):QH Tryz.prog (QdX co)=true:=by
  unfold QdX;split
  · kernel_rfl
  · split<;>kernel_rfl
theorem Qat(w:World)(j:Nat)(a b:List UInt8)(hj:j<=3)(hka:QS (j:Int) a=true)(hkb:QS (j:Int) b=true)(ha:a.length<=1000000)(hb:b.length<=1000000):Calls Tryz.prog (QdX (j:Int)) #[.string (bs a),.string (bs b)] w λen w'=>en=.returned (.int .i64 (QM (j:Int) a b))/\Below w.heap.size w w':=by
  match j,hj with
  | 0,_=>exact c157 w a b
  | 1,_=>exact c159 w a b ha hb
  | 2,_=>
    have h:=c163 w a b 1 (QeC hka) (QeC hkb) (by decide);rw[QoK]at h;exact h
  | 3,_=>
    have h:=c163 w a b 2 (Qeq hka) (Qeq hkb) (by decide);rw[QoR]at h;exact h
theorem keyE_ok{co:Int}{k:List UInt8}(h:YU co k=0):QS co k=true:=by
  unfold YU at h;split at h
  · assumption
  · cases h
theorem QbO{co:Int}(h:Q0 co=0):∃j:Nat,co=(j:Int)/\j<=3:=by
  unfold Q0 at h;split at h
  · exact⟨co.toNat,om,om⟩
  · cases h
instance:TFd Tryz.prog 76 0 0 9:=⟨by kernel_rfl⟩
theorem Y8:tsz Tryz.prog 9=some (1,false):=by kernel_rfl
instance:TSz Tryz.prog 9 1 false:=⟨Y8⟩
theorem Qnq:QH Tryz.prog 121=true:=by kernel_rfl
instance:TFn Tryz.prog 121:=⟨Qnq⟩
instance:TFd Tryz.prog 76 1 1 9:=⟨by kernel_rfl⟩
theorem Qiv(co:Int)(x:TEnt):Ending.returned (Value.int .i64 (if YU co x.key=0 then cond (decide ((x.val.length:Int)<=64)) 0 8 else YU co x.key))=Ending.returned (Value.int .i64 (XP co x)):=by
  unfold XP
  by_cases h:YU co x.key=0
  · rw[if_pos h,if_pos h]
    by_cases h2:x.val.length<=64
    · rw[if_pos h2,decide_eq_true om];rfl
    · rw[if_neg h2,decide_eq_false om];rfl
  · rw[if_neg h,if_neg h];unfold YU at h ⊢;split at h
    · exact absurd rfl h
    · rename_i h3;rw[if_neg h3]
theorem c111(w:World)(j:Nat)(x:TEnt)(hj:j<=3)(hm:x.key.length<=1000000):CR 111 #[.int .i64 (j:Int),.agg #[.string (bs x.key),.string (bs x.val)]] w (.int .i64 (XP (j:Int) x)):=by
 refine eN2 Tryz.func111 Tryz.ntmps111 ?_
 refine aU2 ?_
 refine oBx λb1 _=>?_
 refine aU3 ?_
 refine Qq [] Qx ?_
 refine dP 0 ?_
 refine dFa 1 ?_
 refine dLd 2 [] ?_
 refine dQ 3 [] rfl (Ql rfl Qnq rfl (λw1 h1=>c121 w1 j x.key hj hm)) (dFa 4 ?_)
 refine dLd 5 [] ?_
 refine dV 6 rfl (QN rfl rfl Tryz.underlying9) (dP 7 ?_)
 refine dQ 8 [] rfl (Ql rfl QaL rfl (λw1 h1=>QbB w1 _ _)) (dH 9 rfl (Qd (cs:=[_,_]) rfl rfl XI Yv rfl rfl rfl) (λb2 _=>dBa ?_))
 refine dQ 10 [] rfl (Ql rfl Qe4 rfl (λw1 h1=>Qju h1 aPk (by rfl) (by rfl) (by decide))) (dP 11 ?_)
 refine dNi ?_
 exact rV (h:=by simp only[QV];rw[Qa1];exact Qiv _ _)
instance:TFn Tryz.prog 123:=⟨by kernel_rfl⟩
instance:TFn Tryz.prog 200:=⟨by kernel_rfl⟩
theorem kok0(s:List UInt8):QS ((0:Nat):Int) s=(decide ((1:Int)<=(s.length:Int))&&decide ((s.length:Int)<=40)):=by
  rw[Bool.eq_iff_iff];simp[QS];omega
theorem kok1(s:List UInt8):QS ((1:Nat):Int) s=(decide ((1:Int)<=(s.length:Int))&&decide ((s.length:Int)<=32)):=by
  rw[Bool.eq_iff_iff];simp[QS];omega
theorem kok2(s:List UInt8):QS ((2:Nat):Int) s=(decide ((s.length:Int)=4)&&(decide (0<=at4 s 0)&&decide (at4 s 0<=2147483647))):=by
  have:=QaY s 0;rw[Bool.eq_iff_iff];simp[QS,Qax];omega
theorem kok3(s:List UInt8):QS ((3:Nat):Int) s=(decide ((s.length:Int)=8)&&(decide (0<=at4 s 0)&&decide (at4 s 0<=2147483647))&&(decide (0<=at4 s 4)&&decide (at4 s 4<=2147483647))):=by
  have:=QaY s 0;have:=QaY s 4;rw[Bool.eq_iff_iff];simp[QS,Qax];omega
theorem c180(w:World)(j:Nat)(s:List UInt8)(hj:j<=3)(hm:s.length<=1000000):CR 180 #[.int .i64 (j:Int),.string (bs s)] w (.int .i64 (YU (j:Int) s)):=by
 refine eN2 Tryz.func180 Tryz.ntmps180 ?_
 refine aU7 ?_
 refine o_p (QN rfl rfl Tryz.underlying9) rfl (oCq rfl (λw1 h1=>c70 w1 _ _ _) (Z5 ?_))
 refine Xe (α:=Unit) [5,12,13,14,15,16,17,18,19,20,21,22,23,24,25,26,27,28,29,30,31,32,33,34,35,36,37,38,39] (λ_=>[(5,.bool (QS (j:Int) s))]) (λ_=>HS w [] []) (λ_=>True) ?_ ?_
 ·skip
  refine sCd rfl (λh1=>?_) λh1=>?_
  ·obtain rfl:j=1:=by have hq:=h1;omega
   refine aU2 ?_
   refine o_p (QN rfl rfl Tryz.underlying9) rfl (oCq rfl (λw1 h1=>c70 w1 _ _ _) (aU2 ?_))
   exact Qo () trivial (by rw[kok1];exact aSx) (λw h=>h.ent aEt)
  have hn1:¬(j:Int)=1:=h1
  refine aU5 ?_
  refine sCd rfl (λh2=>?_) λh2=>?_
  ·obtain rfl:j=2:=by have hq:=h2;omega
   refine aU2 ?_
   refine o_p (QN rfl rfl Tryz.underlying9) rfl (aU2 ?_)
   refine XJ 4 20 24 rfl
    (λhg3 _=>by
     refine aU3 ?_
     refine oCq rfl (λw1 h1=>by have h9:=QaP w1 s 0 4 om om (by have hq:=hg3;first|omega|(simp at hq;omega));rw[Zv]at h9;exact h9) (aU ?_)
     refine oCq rfl (λw1 h1=>QpR w1 _) ?_
     exact oJt 4 24)
    (λhg5 _=>by
     refine aU3 ?_
     exact oJf 4 24) ?_
   refine aU2 ?_
   exact Qo () trivial (by rw[kok2];exact aSx) (λw h=>h.ent aEt)
  have hn2:¬(j:Int)=2:=h2
  refine aU5 ?_
  refine sCd rfl (λh7=>?_) λh7=>?_
  ·obtain rfl:j=3:=by have hq:=h7;omega
   refine aU2 ?_
   refine o_p (QN rfl rfl Tryz.underlying9) rfl (aU2 ?_)
   refine XJ 4 30 34 rfl
    (λhg8 _=>by
     refine aU3 ?_
     refine oCq rfl (λw1 h1=>by have h9:=QaP w1 s 0 4 om om (by have hq:=hg8;first|omega|(simp at hq;omega));rw[Zv]at h9;exact h9) (aU ?_)
     refine oCq rfl (λw1 h1=>QpR w1 _) ?_
     exact oJt 4 34)
    (λhg10 _=>by
     refine aU3 ?_
     exact oJf 4 34) ?_
   refine aU ?_
   refine XJ 4 35 39 rfl
    (λhg12 _=>by
     refine aU3 ?_
     refine oCq rfl (λw1 h1=>by have h9:=QaP w1 s 4 4 om om (by have hq:=hg12;first|omega|(simp at hq;omega));rw[Zv]at h9;exact h9) (aU ?_)
     refine oCq rfl (λw1 h1=>QpR w1 _) ?_
     exact oJt 4 39)
    (λhg14 _=>by
     refine aU3 ?_
     exact oJf 4 39) ?_
   refine aU2 ?_
   exact Qo () trivial (by rw[kok3];exact aSx) (λw h=>h.ent aEt)
  have hn3:¬(j:Int)=3:=h7
  obtain rfl:j=0:=om
  refine aU ?_
  exact Qo () trivial (by rw[kok0];exact aSx) (λw h=>h.ent aEt)
 intro _ _
 refine aU7 ?_
 refine sCd rfl (λh16=>?_) λh16=>?_
 ·have hz:YU (j:Int) s=3:=by have hq:=h16;unfold YU;rw[if_neg (by simpa using hq)]
  refine aU4 ?_
  exact rV (h:=by rw[hz];rfl)
 have hz:YU (j:Int) s=0:=by have hq:=h16;unfold YU;rw[if_pos (by simpa using hq)]
 refine aU5 ?_
 exact rV (h:=by rw[hz];rfl)
instance:TFn Tryz.prog 180:=⟨by kernel_rfl⟩
theorem c130(w:World)(j:Nat)(x:TEnt)(hj:j<=3)(hm:x.key.length<=1000000):CR 130 #[.int .i64 (j:Int),.agg #[.string (bs x.key),.string (bs x.val)]] w (.int .i64 (XP (j:Int) x)):=by
 refine eN2 Tryz.func130 Tryz.ntmps130 ?_
 refine aU2 ?_
 refine oBx λb1 _=>?_
 refine aU8 ?_
 refine oCq rfl (λw1 h1=>c180 w1 j x.key hj hm) (aU7 ?_)
 refine sCd rfl (λh2=>?_) λh2=>?_
 ·have h0:¬YU (j:Int) x.key=0:=h2
  have hz:XP (j:Int) x=YU (j:Int) x.key:=by have h9:=Qiv (j:Int) x;rw[if_neg h0]at h9;injection h9 with h9;injection h9 with _ h9;exact h9.symm
  refine aU5 ?_
  exact rV (h:=by rw[hz];rfl)
 have h0:YU (j:Int) x.key=0:=h2
 refine aU6 ?_
 refine o_p (QN rfl rfl Tryz.underlying9) rfl (aU2 ?_)
 refine sCd rfl (λh3=>?_) λh3=>?_
 ·have hz:XP (j:Int) x=8:=by have hq:=h3;unfold XP;rw[if_pos h0,if_neg om]
  refine aU4 ?_
  exact rV (h:=by rw[hz];rfl)
 have hz:XP (j:Int) x=0:=by have hq:=h3;unfold XP;rw[if_pos h0,if_pos om]
 refine aU5 ?_
 exact rV (h:=by rw[hz];rfl)
instance:TFn Tryz.prog 178:=⟨by kernel_rfl⟩
instance:TFn Tryz.prog 179:=⟨by kernel_rfl⟩
def mpK(j:Int)(l:List UInt8):List UInt8:=if j=1 then l.map QbK else l
theorem Qac(j:Int)(l:List UInt8):(mpK j l).length=l.length:=by unfold mpK;split<;>simp
theorem Qow{j:Nat}(h2:¬(j:Int)=2)(h3:¬(j:Int)=3)(a b:List UInt8):QM (j:Int) a b=X2 (mpK (j:Int) a) (mpK (j:Int) b):=by
  unfold QM mpK;rw[if_neg h2,if_neg h3];split<;>rfl
theorem Qla{x y:List UInt8}{k:Nat}(hx:k<x.length)(hy:k<y.length):X2 (x.drop k) (y.drop k)=if XQ ((x.getD k 0).toNat:Int) ((y.getD k 0).toNat:Int)≠0 then XQ ((x.getD k 0).toNat:Int) ((y.getD k 0).toNat:Int)else X2 (x.drop (k+1)) (y.drop (k+1)):=by
  rw[List.drop_eq_getElem_cons hx,List.drop_eq_getElem_cons hy,List.getD_eq_getElem?_getD,List.getD_eq_getElem?_getD,List.getElem?_eq_getElem hx,List.getElem?_eq_getElem hy];simp only[X2,Option.getD_some,XQ,UInt8.lt_iff_toNat_lt];split
  · rename_i h;rw[if_pos om,if_pos om]
  · rename_i h;rw[if_neg (show¬((x[k].toNat:Int)<y[k].toNat) by omega)];split
    · rename_i h2;rw[if_pos om,if_pos om]
    · rename_i h2;rw[if_neg om]
theorem QlH{x y:List UInt8}{k:Nat}(hx:k<=x.length)(hy:k<=y.length)(h:¬(k<x.length/\k<y.length)):X2 (x.drop k) (y.drop k)=XQ (x.length:Int) (y.length:Int):=by
  unfold XQ;rcases Nat.lt_or_ge k x.length with h1|h1
  · have e:y.drop k=[]:=List.drop_of_length_le om;rw[e,List.drop_eq_getElem_cons h1,if_neg om,if_pos om];rfl
  · have e:x.drop k=[]:=List.drop_of_length_le h1;rw[e];rcases Nat.lt_or_ge k y.length with h2|h2
    · rw[List.drop_eq_getElem_cons h2,if_pos om];rfl
    · have e2:y.drop k=[]:=List.drop_of_length_le h2;rw[e2,if_neg om,if_neg om];rfl
theorem Qkr{a:List UInt8}{k:Nat}(h:k<a.length):(((mpK 1 a).getD k 0).toNat:Int)=Qf9 ((a.getD k 0).toNat:Int):=by
  unfold mpK;rw[if_pos rfl,QfP,List.getD_eq_getElem?_getD,List.getElem?_map,List.getElem?_eq_getElem h,List.getD_eq_getElem?_getD,List.getElem?_eq_getElem h];rfl
theorem Qnk{j:Int}(hj:¬j=1)(a:List UInt8):mpK j a=a:=by unfold mpK;rw[if_neg hj]
theorem Qls(w:World)(j:Nat)(a b:List UInt8)(hj:j<=3)(hka:QS (j:Int) a=true)(hkb:QS (j:Int) b=true)(ha:a.length<=1000000)(hb:b.length<=1000000):CR 127 #[.int .i64 (j:Int),.string (bs a),.string (bs b)] w (.int .i64 (QM (j:Int) a b)):=by
 refine eN3 Tryz.func127 Tryz.ntmps127 ?_
 refine aU15 ?_
 refine sCd rfl (λh1=>?_) λh1=>?_
 ·obtain rfl:j=2:=by have hq:=h1;omega
  have hl1:=QeC hka
  have hl2:=QeC hkb
  have hz:QM ((2:Nat):Int) a b=XQ (at4 a 0) (at4 b 0):=rfl
  refine aU3 ?_
  refine oCq rfl (λw1 h1=>by have h9:=QaP w1 a 0 4 om om om;rw[Zv]at h9;exact h9) (aU ?_)
  refine oCq rfl (λw1 h1=>by have h9:=QaP w1 b 0 4 om om om;rw[Zv]at h9;exact h9) (oCq rfl (λw1 h1=>QnG w1 _ _) (aU2 ?_))
  exact rV (h:=by rw[hz];rfl)
 have hn2:¬(j:Int)=2:=h1
 refine aU5 ?_
 refine sCd rfl (λh2=>?_) λh2=>?_
 ·obtain rfl:j=3:=by have hq:=h2;omega
  have hl1:=Qeq hka
  have hl2:=Qeq hkb
  have hz:QM ((3:Nat):Int) a b=if XQ (at4 a 0) (at4 b 0)≠0 then XQ (at4 a 0) (at4 b 0)else XQ (at4 a 4) (at4 b 4):=rfl
  refine aU4 ?_
  refine oCq rfl (λw1 h1=>by have h9:=QaP w1 a 0 4 om om om;rw[Zv]at h9;exact h9) (aU ?_)
  refine oCq rfl (λw1 h1=>by have h9:=QaP w1 b 0 4 om om om;rw[Zv]at h9;exact h9) (oCq rfl (λw1 h1=>QnG w1 _ _) (aU7 ?_))
  refine sCd rfl (λh3=>?_) λh3=>?_
  ·have hq9:XQ (at4 a 0) (at4 b 0)≠0:=h3
   rw[if_pos hq9]at hz
   refine aU5 ?_
   exact rV (h:=by rw[hz];rfl)
  have hq9:¬XQ (at4 a 0) (at4 b 0)≠0:=by have hq8:=h3;simpa using hq8
  rw[if_neg hq9]at hz
  refine aU4 ?_
  refine oCq rfl (λw1 h1=>by have h9:=QaP w1 a 4 4 om om om;rw[Zv]at h9;exact h9) (aU ?_)
  refine oCq rfl (λw1 h1=>by have h9:=QaP w1 b 4 4 om om om;rw[Zv]at h9;exact h9) (oCq rfl (λw1 h1=>QnG w1 _ _) (aU2 ?_))
  exact rV (h:=by rw[hz];rfl)
 have hn3:¬(j:Int)=3:=h2
 have hmp:=Qow hn2 hn3 a b
 refine aU8 ?_
 refine Qt (α:=Nat) [6,8,9,10,11,35,36,37,38,39,40,41,42,43,44,45,46,47,48,49,50,51,52,53,54,55,56,57,58,59,60,61,62,63,64,65,66] (λk=>[(8,.int .i64 (k:Int))]) (λ_=>_) (λk=>k<=a.length/\k<=b.length/\X2 (mpK (j:Int) a) (mpK (j:Int) b)=X2 ((mpK (j:Int) a).drop k) ((mpK (j:Int) b).drop k)) (λk=>a.length-k) 0 ⟨Nat.zero_le _,Nat.zero_le _,rfl⟩ aSx (λw h=>h) (λk hx=>?_)
 obtain⟨hk1,hk2,hk3⟩:=hx
 refine aU5 ?_
 refine o_p (QN rfl rfl Tryz.underlying9) rfl (aU2 ?_)
 refine XJ 5 39 44 rfl
  (λhg4 _=>by
   refine aU5 ?_
   refine o_p (QN rfl rfl Tryz.underlying9) rfl (aU2 ?_)
   exact oJt 5 44)
  (λhg6 _=>by
   refine aU4 ?_
   exact oJf 5 44) ?_
 refine aU ?_
 refine sCd rfl (λh8=>?_) λh8=>?_
 ·obtain⟨hka1,hkb1⟩:k<a.length/\k<b.length:=by have hq:=h8;omega
  have hb1:=(a.getD k 0).toNat_lt
  have hb2:=(b.getD k 0).toNat_lt
  have hst:=Qla (x:=mpK (j:Int) a) (y:=mpK (j:Int) b) (k:=k) (by rw[Qac];exact hka1) (by rw[Qac];exact hkb1)
  refine aU4 ?_
  refine Qq [] Qx ?_
  refine dP 0 ?_
  refine dP 1 ?_
  refine dV 2 rfl (Z6 rfl rfl rfl Tryz.underlying9 (k) om om) ?_
  refine dV 3 rfl (Qr rfl rfl Zh Yw) ?_
  try refine dWr ?_
  refine dP 4 ?_
  refine dP 5 ?_
  refine dV 6 rfl (Z6 rfl rfl rfl Tryz.underlying9 (k) om om) ?_
  refine dV 7 rfl (Qr rfl rfl Zh Yw) ?_
  try refine dWr ?_
  refine dP 8 ?_
  refine dP 9 ?_
  refine dNi ?_
  refine aU6 ?_
  refine Qg (L':=[(0,_),(1,_),(2,_),(8,_),(9,_),(10,_),(12,_),(13,_),(14,_),(20,_),(21,_),(56,_)]) aSx (λ_ h=>h) ?_
  refine Xe (α:=Unit) [9,10,57,58,59,60] (λ_=>[(9,.int .i64 (((mpK (j:Int) a).getD k 0).toNat:Int)),(10,.int .i64 (((mpK (j:Int) b).getD k 0).toNat:Int))]) (λ_=>HS w [] []) (λ_=>True) ?_ ?_
  ·skip
   refine sCd rfl (λh9=>?_) λh9=>?_
   ·obtain rfl:j=1:=by have hq:=h9;omega
    refine aU2 ?_
    refine oCq rfl (λw1 h1=>c179 w1 _ om) (aU ?_)
    refine oCq rfl (λw1 h1=>c179 w1 _ om) (aU3 ?_)
    exact Qo () trivial (by rw[show(((1:Nat):Int))=1 from rfl,Qkr hka1,Qkr hkb1];exact aSx) (λw h=>h.ent aEt)
   have hn1:¬(j:Int)=1:=h9
   refine aU ?_
   exact Qo () trivial (by rw[Qnk hn1,Qnk hn1];exact aSx) (λw h=>h.ent aEt)
  intro _ _
  refine aU4 ?_
  refine oCq rfl (λw1 h1=>QnG w1 _ _) (aU7 ?_)
  refine sCd rfl (λh10=>?_) λh10=>?_
  ·have hq9:XQ (((mpK (j:Int) a).getD k 0).toNat:Int) (((mpK (j:Int) b).getD k 0).toNat:Int)≠0:=h10
   have hz:=hmp.trans (hk3.trans (hst.trans (if_pos hq9)))
   refine aU5 ?_
   exact rV (h:=by rw[hz];rfl)
  have hq9:¬XQ (((mpK (j:Int) a).getD k 0).toNat:Int) (((mpK (j:Int) b).getD k 0).toNat:Int)≠0:=by have hq8:=h10;simpa using hq8
  have hz:=hk3.trans (hst.trans (if_neg hq9))
  refine aT5 ?_
  refine aU2 ?_
  exact QR (k+1) om ⟨om,om,hz⟩ aSx (λw h=>h)
 have hz:=QlH (x:=mpK (j:Int) a) (y:=mpK (j:Int) b) (k:=k) (by rw[Qac];exact hk1) (by rw[Qac];exact hk2) (by rw[Qac,Qac];have hq:=h8;omega)
 rw[<-hk3,<-hmp,Qac,Qac]at hz
 refine Qi rfl ?_
 refine aU3 ?_
 refine o_p (QN rfl rfl Tryz.underlying9) rfl (aU ?_)
 refine o_p (QN rfl rfl Tryz.underlying9) rfl (oCq rfl (λw1 h1=>QnG w1 _ _) (aU2 ?_))
 exact rV (h:=by rw[hz];rfl)
theorem Xw:Xy Tryz.prog 27=some [.int .i64 0,.int .i64 0,.int .i64 0,.slice none 0 0]:=by kernel_rfl
theorem Qf3:YA Tryz.prog 64=some [(0,1),(1,1),(2,1)]:=by kernel_rfl
theorem XY:Xy Tryz.prog 64=some [.bool false,.slice none 0 0,.slice none 0 0]:=by kernel_rfl
theorem QE:tsl Tryz.prog 25=some (64,3,56):=by kernel_rfl
theorem Qed:YA Tryz.prog 27=some [(0,1),(1,1),(2,1),(3,1)]:=by kernel_rfl
theorem Yf:tsz Tryz.prog 27=some (4,true):=by kernel_rfl
instance:TSz Tryz.prog 27 4 true:=⟨Yf⟩
theorem c41(w:World)(co mo rm:Int):CE 41 #[.int .i64 co,.int .i64 mo,.int .i64 rm] w [] (λg:Option Addr×Nat=>.agg #[.int .i64 co,.int .i64 mo,.int .i64 rm,.slice g.1 1 g.2]) (λg=>True) λg=>[.own (.slice g.1 1 g.2) 64 3 1 [.bool true,.slice none 0 0,.slice none 0 0]]:=by
 refine eN3 Tryz.func41 Tryz.ntmps41 ?_
 refine aU2 ?_
 refine oAl (λb1 _=>?_) Xw
 refine aU6 ?_
 refine o_p (QD (cs:=[_,_,_]) rfl rfl Qf3 XY rfl) rfl (o_h (Qd (cs:=[_,_,_]) rfl rfl QE XY rfl rfl rfl) rfl (λb2 _=>o_p (QD (cs:=[_,_,_,_]) rfl rfl Qed Xw rfl) rfl (aU2 ?_)))
 exact Qf (rs:=[.cell 6 27]) rfl (.cell rfl Yf aPk rfl (.nil)) (λw' h'=>⟨(some ⟨b2,0,none⟩,1),rfl,trivial,(HS.own_shut (n:=1) (cap:=1) (sz:=3) h' rfl (by decide) (by decide)).ent aEt⟩)
instance:TFn Tryz.prog 117:=⟨by kernel_rfl⟩
theorem QL:tsl Tryz.prog 62=some (76,2,32):=by kernel_rfl
theorem Ye:tsz Tryz.prog 76=some (2,true):=by kernel_rfl
instance:TSz Tryz.prog 76 2 true:=⟨Ye⟩
theorem Xi:Xy Tryz.prog 76=some [.string (bs []),.string (bs [])]:=by kernel_rfl
instance:TFd Tryz.prog 128 0 0 27:=⟨by kernel_rfl⟩
instance:TFd Tryz.prog 27 1 1 3:=⟨by kernel_rfl⟩
theorem Xq:tsz Tryz.prog 3=some (1,false):=by kernel_rfl
instance:TSz Tryz.prog 3 1 false:=⟨Xq⟩
instance:TFd Tryz.prog 27 2 2 3:=⟨by kernel_rfl⟩
theorem YE:tsz Tryz.prog 118=some (1,false):=by kernel_rfl
instance:TSz Tryz.prog 118 1 false:=⟨YE⟩
instance:TFd Tryz.prog 27 0 0 3:=⟨by kernel_rfl⟩
theorem Qnp:QH Tryz.prog 111=true:=by kernel_rfl
instance:TFn Tryz.prog 111:=⟨Qnp⟩
instance:TFd Tryz.prog 128 1 4 126:=⟨by kernel_rfl⟩
instance:TFd Tryz.prog 126 1 1 124:=⟨by kernel_rfl⟩
theorem Qd6:tsz Tryz.prog 124=some (1,false):=by kernel_rfl
instance:TSz Tryz.prog 124 1 false:=⟨Qd6⟩
instance:TFd Tryz.prog 64 1 1 62:=⟨by kernel_rfl⟩
theorem XZ:tsz Tryz.prog 62=some (1,false):=by kernel_rfl
instance:TSz Tryz.prog 62 1 false:=⟨XZ⟩
def tbV(co mo rm:Int)(a:Option Addr)(n cap:Nat):List Value:=[.int .i64 co,.int .i64 mo,.int .i64 rm,.slice a n cap,Qap (Qd5 co),Qap (QdX co)]
def TbR(w:World)(M:List Nat)(bt:Nat)(co mo rm:Int)(a:Option Addr)(n cap:Nat):Prop:=∀k v,(tbV co mo rm a n cap)[k]?=some v->Rd w M bt k v
section
variable{w w':World}{M M':List Nat}{As As':List HA}{bt:Nat}{co mo rm:Int}{a:Option Addr}{n cap:Nat}
theorem TbR.next(h:TbR w M bt co mo rm a n cap)(hs:HS w M As w'):TbR w' [] bt co mo rm a n cap:=λk v hv=>(h k v hv).next hs
theorem TbR.keep(h:TbR w M bt co mo rm a n cap)(hs:HS w M As w'):TbR w' (fps As) bt co mo rm a n cap:=λk v hv=>hs.keep (h k v hv)
theorem TbR.mono(h:TbR w M bt co mo rm a n cap)(hM:∀b∈M',b∈M):TbR w M' bt co mo rm a n cap:=λk v hv=>(h k v hv).mono hM
theorem HS.tbr{w0:World}{tot t:Nat}(h:HS w0 M As w)(hp:QC As (.blk bt t tot (tbV co mo rm a n cap)) As'):TbR w [] bt co mo rm a n cap:=λk v hv=>h.rd_blk (Mc:=[]) hp hv (by simp)
end
def Qgc(co mo rm:Int):Tre:=if(if Q0 co=0 then YI mo rm else Q0 co)=0 then⟨co,mo,rm,[⟨true,[],[]⟩]⟩else⟨0,0,0,[]⟩
theorem Qlp{w0 w:World}{M:List Nat}{As:List HA}(et nt:Nat)(h:HS w0 M As w):HS w0 M (.nodes et nt none 0 []::As) w:=by
  have h1:HS w0 M (.own (.slice none 0 0) nt 3 0 []::.star []::As) w:=(h.star_nil).own_nil nt 3;exact HS.row_shut (l:=([]:List LNd)) h1 rfl rfl
theorem QdN{w0 w:World}{M:List Nat}{As:List HA}{a:Option Addr}{cap nt:Nat}(et:Nat)(h:HS w0 M (.own (.slice a 1 cap) nt 3 1 [.bool true,.slice none 0 0,.slice none 0 0]::As) w):HS w0 M (.nodes et nt a cap [⟨true,none,0,[],none,0,[]⟩]::As) w:=by
  have h1:HS w0 M (.star ([(⟨true,none,0,[],none,0,[]⟩:LNd)].map (Qw et))::As) w:=HS.star_close (Bs:=[_]) (HS.star_close (Bs:=[_,_]) ((h.tail.own_nil 3 1).own_nil et 2));have h2:HS w0 M (.star []::.own (.slice a 1 cap) nt 3 1 [.bool true,.slice none 0 0,.slice none 0 0]::As) w:=h.star_nil
  have h3:HS w0 M (.own (.slice a 1 cap) nt 3 1 [.bool true,.slice none 0 0,.slice none 0 0]::.star ([(⟨true,none,0,[],none,0,[]⟩:LNd)].map (Qw et))::As) w:=
    HS.perm (HS.star_close (Bs:=[_]) (HS.star_close (Bs:=[_,_]) ((h.own_nil 3 1).own_nil et 2))) (List.Perm.swap ..)
  exact HS.row_shut (l:=[(⟨true,none,0,[],none,0,[]⟩:LNd)]) h3 rfl rfl
theorem c105(w:World)(co mo rm:Int):CE 105 #[.int .i64 co,.int .i64 mo,.int .i64 rm] w [] (λg:(Option Addr×Nat)×List LNd=>.tuple #[.agg #[.int .i64 (Qgc co mo rm).co,.int .i64 (Qgc co mo rm).mo,.int .i64 (Qgc co mo rm).rm,.slice g.1.1 g.2.length g.1.2],.int .i64 (if Q0 co=0 then YI mo rm else Q0 co)]) (λg=>pln g.2=(Qgc co mo rm).ns) λg=>[.nodes 76 64 g.1.1 g.1.2 g.2]:=by
 refine eN3 Tryz.func105 Tryz.ntmps105 ?_
 refine aU2 ?_
 refine oAl (λb1 _=>?_) Xw
 refine aU8 ?_
 refine oCq rfl (λw1 h1=>c117 w1 _ _ _) (aU7 ?_)
 refine sCd rfl (λh2=>?_) λh2=>?_
 ·have hz:Qgc co mo rm=⟨0,0,0,[]⟩:=by unfold Qgc;rw[if_neg h2]
  refine aU2 ?_
  refine o_p (QD (cs:=[_,_,_,_]) rfl rfl Qed Xw rfl) rfl (aU4 ?_)
  exact Qf (rs:=[.cell 6 27,.tmp 7]) rfl (.cell rfl Yf aPk rfl (.tmp rfl (.nil))) (λw' h'=>⟨((none,0),[]),by rw[hz];rfl,by rw[hz];rfl,(Qlp 76 64 h'.nil).ent aEt⟩)
 have hz:Qgc co mo rm=⟨co,mo,rm,[⟨true,[],[]⟩]⟩:=by unfold Qgc;rw[if_pos h2]
 refine aU6 ?_
 refine o_p (QD (cs:=[_,_,_]) rfl rfl Qf3 XY rfl) rfl (o_h (Qd (cs:=[_,_,_]) rfl rfl QE XY rfl rfl rfl) rfl (λb3 _=>o_p (QD (cs:=[_,_,_,_]) rfl rfl Qed Xw rfl) rfl (aU3 ?_)))
 exact Qf (rs:=[.cell 6 27,.tmp 7]) rfl (.cell rfl Yf aPk rfl (.tmp rfl (.nil))) (λw' h'=>⟨((some ⟨b3,0,none⟩,1),[⟨true,none,0,[],none,0,[]⟩]),by rw[hz,h2];rfl,by rw[hz];rfl,(QdN 76 (HS.own_shut (n:=1) (cap:=1) (sz:=3) (h'.ent (Bs:=[.blk b3 64 (1*3) [.bool true,.slice none 0 0,.slice none 0 0]]) aEt) rfl (by decide) (by decide))).ent aEt⟩)
theorem c109(w:World)(a:Option Addr)(cap:Nat)(l:List TEnt)(q:Nat)(cv:Array Value)(es:List Int)(hs:Rw TEnt.vals 2 w [] a l)(hm:l.length<=1000000)(hq:QH Tryz.prog q=true)(he:es.length=l.length)(hc:∀k w1,k<l.length->(∀j,j<k->es.getD j 0=0)->HS w [] [] w1->Calls Tryz.prog q (#[]++[.int .i64 (k:Int),.agg (TEnt.vals (nth l k)).toArray].toArray++cv) w1 λen w2=>en=.returned (.int .i64 (es.getD k 0))/\Below w1.heap.size w1 w2):CR 109 #[.slice a l.length cap,.func (.func q) #[] cv] w (.tuple #[.int .i64 (QU es 0).1,.int .i64 (QU es 0).2]):=by
 refine eN2 Tryz.func109 Tryz.ntmps109 ?_
 refine Z5 ?_
 refine Qt (α:=Nat) [4,5,6,7,8,11,12,13,14,15,16,17,18,19,20,21,22,23,24] (λk=>[(11,.int .i64 (k:Int))]) (λ_=>HS w [] []) (λk=>k<=l.length/\QU es 0=QU (es.drop k) k/\∀j,j<k->es.getD j 0=0) (λk=>l.length-k) 0 ⟨om,rfl,λi h=>absurd h (Nat.not_lt_zero i)⟩ aSx (λw h=>h.ent aEt) (λk hk=>?_)
 obtain⟨hk1,hk2,hk3⟩:=hk
 refine aU5 ?_
 refine sCd rfl (λh1=>?_) λh1=>?_
 ·refine aU6 ?_
  refine o_p (Qa rfl rfl rfl QL (k) om om (Rw.some hs om)) rfl (o_q (Qu _ rfl rfl Ye rfl (Rw.rd hs om)) rfl (oAl (λb2 _=>?_) Xi))
  refine aU8 ?_
  refine o_q (X3 rfl rfl hq rfl (λw1 h1=>hc k w1 om hk3 (h1.ent aEt))) rfl (aU7 ?_)
  refine sCd rfl (λh3=>?_) λh3=>?_
  ·refine aU7 ?_
   exact Qf (rs:=[.tmp 4,.tmp 5]) rfl (.tmp rfl (.tmp rfl (.nil))) (λw' h'=>⟨by simp only[QV];rw[hk2,Xp om,if_neg (by assumption)],h'.below⟩)
  refine aT4 ?_
  refine aU2 ?_
  exact sBk (k+1) om ⟨om,by rw[hk2,Xp om,if_pos (by assumption)],λj hj=>(Nat.lt_or_ge j k).elim (hk3 j) (λh=>by obtain rfl:j=k:=om;assumption)⟩
 refine Qi rfl ?_
 refine aU5 ?_
 exact Qf (rs:=[.tmp 4,.tmp 5]) rfl (.tmp rfl (.tmp rfl (.nil))) (λw' h'=>⟨by simp only[QV];rw[hk2,Qcp om],h'.below⟩)
theorem c173(w:World)(bt:Nat)(j:Nat)(mo rm:Int)(a:Option Addr)(n cap:Nat)(hmo:0<=mo/\mo<=1000)(ht:TbR w [] bt (j:Int) mo rm a n cap):CR 173 #[.pointer (some ⟨bt,0,none⟩)] w (.int .i64 (mo/2)):=by
 refine eN1 Tryz.func173 Tryz.ntmps173 ?_
 refine YR ?_
 refine o_q (Qc rfl rfl Xq (ht 1 _ rfl)) rfl (o_p (Y6 rfl rfl rfl om om om) rfl (aU2 ?_))
 exact rV
theorem c165(w:World)(bt:Nat)(j:Nat)(mo rm:Int)(a:Option Addr)(n cap:Nat)(i:Nat)(ht:TbR w [] bt (j:Int) mo rm a n cap):CR 165 #[.pointer (some ⟨bt,0,none⟩),.int .i64 (i:Int)] w (.int .i64 (YD mo rm i)):=by
 refine eN2 Tryz.func165 Tryz.ntmps165 ?_
 refine YR ?_
 refine sCd rfl (λh1=>?_) λh1=>?_
 ·obtain rfl:i=0:=by have hq:=h1;omega
  refine aU6 ?_
  refine o_q (Qc rfl rfl Xq (ht 2 _ rfl)) rfl (aU2 ?_)
  exact rV
 have hn0:¬i=0:=by have hq:=h1;omega
 refine aU7 ?_
 refine o_q (Qc rfl rfl Xq (ht 1 _ rfl)) rfl (aU2 ?_)
 exact rV (h:=by simp only[QV,YD];rw[if_neg hn0])
theorem c166(w:World)(c0:Nat)(k:Int)(x:TEnt)(bt:Nat)(j:Nat)(mo rm:Int)(a:Option Addr)(n cap:Nat)(hj:j<=3)(hx:x.key.length<=1000000)(hc0:Rd w [] c0 0 (.pointer (some ⟨bt,0,none⟩)))(ht:TbR w [] bt (j:Int) mo rm a n cap):CR 166 #[.int .i64 k,.agg #[.string (bs x.key),.string (bs x.val)],.pointer (some ⟨c0,0,none⟩)] w (.int .i64 (XP (j:Int) x)):=by
 refine eN3 Tryz.func166 Tryz.ntmps166 ?_
 refine aU2 ?_
 refine oBx λb1 _=>?_
 refine aU3 ?_
 refine Qq [] Qx ?_
 refine dQ 0 [] rfl (Qc rfl rfl YE (hc0)) (dP 1 ?_)
 refine dFa 2 ?_
 refine dFa 3 ?_
 refine dQ 4 [] rfl (Qc rfl rfl Xq (ht 0 _ rfl)) (dLn 5 [] ?_)
 refine dQ 6 [] rfl (Ql rfl Qnp rfl (λw1 h1=>c111 w1 j x hj hx)) (dP 7 ?_)
 refine dNi ?_
 exact rV
theorem c169(w:World)(c0 c7:Nat)(k:Nat)(us:Bool)(ea:Option Addr)(ec:Nat)(es:List TEnt)(kids:Value)(bt:Nat)(j:Nat)(mo rm:Int)(a:Option Addr)(n cap:Nat)(hj:j<=3)(hk:k<es.length)(hl:es.length<=1000000)(hx:∀x∈es,QS (j:Int) x.key=true/\x.key.length<=1000000)(hc0:Rd w [] c0 0 (.pointer (some ⟨bt,0,none⟩)))(hc7:Rd w [] c7 1 (.slice ea es.length ec))(hes:Rw TEnt.vals 2 w [] ea es)(ht:TbR w [] bt (j:Int) mo rm a n cap):CR 169 #[.int .i64 (k:Int),.agg #[.string (bs (nth es k).key),.string (bs (nth es k).val)],.pointer (some ⟨c0,0,none⟩),.pointer (some ⟨c7,0,none⟩)] w (.int .i64 (QaE (j:Int) es k)):=by
 refine eN4 Tryz.func169 Tryz.ntmps169 ?_
 refine aU2 ?_
 refine oBx λb1 _=>?_
 refine aU3 ?_
 refine Qq [] Qx ?_
 refine dP 0 ?_
 refine dP 1 ?_
 refine dP 2 ?_
 apply Q7 9
 ·exact rfl
 ·intro hg2
  have hs3:=hg2;try simp only[dT]at hs3
  refine dOf 3 9 hg2 ?_
  refine dOf 4 9 hg2 ?_
  refine dOf 5 9 hg2 ?_
  refine dOf 6 9 hg2 ?_
  refine dOf 7 9 hg2 ?_
  refine dOf 8 9 hg2 ?_
  refine dOf 9 9 hg2 ?_
  refine dOf 10 9 hg2 ?_
  refine dOf 11 9 hg2 ?_
  refine dOf 12 9 hg2 ?_
  refine dOf 13 9 hg2 ?_
  refine dOf 14 9 hg2 ?_
  refine dOf 15 9 hg2 ?_
  refine dOf 16 9 hg2 ?_
  refine dOf 17 9 hg2 ?_
  refine dOf 18 9 hg2 ?_
  refine dOf 19 9 hg2 ?_
  refine dV 20 rfl (Xk rfl rfl hg2 rfl) (dQ 21 [] rfl (Ql rfl QaL rfl (λw1 h1=>QbB w1 _ _)) (dP 22 ?_))
  refine dNi ?_
  exact rV (h:=by simp only[QV,QaE];first|(split<;>simp_all<;>done)|(simp_all;done)|(grind))
 intro hg4
 have hs5:=hg4;try simp only[dN]at hs5
 refine dQo 3 9 [] hg4 rfl rfl rfl (Qc rfl rfl YE (hc0)) ?_
 refine dPo 4 9 hg4 ?_
 refine dFo 5 9 hg4 ?_
 refine dFo 6 9 hg4 ?_
 refine dQo 7 9 [] hg4 rfl rfl rfl (Qc rfl rfl Qd6 (ht 5 _ rfl)) ?_
 refine dFo 8 9 hg4 ?_
 refine dQo 9 9 [] hg4 rfl rfl rfl (Qc rfl rfl XZ (hc7)) ?_
 refine dPo 10 9 hg4 ?_
 refine dPo 11 9 hg4 ?_
 try refine dWr ?_
 refine dVo 12 9 hg4 rfl rfl rfl (QcS rfl rfl rfl ) ?_
 refine dVo 13 9 hg4 rfl rfl rfl (Qa rfl rfl rfl QL (k-1) om om (Rw.some hes om)) ?_
 refine dFo 14 9 hg4 ?_
 refine dQo 15 9 [] hg4 rfl rfl rfl (Qc rfl rfl Y8 ((hes.rdj (i:=k-1) 0 om rfl))) ?_
 refine dFo 16 9 hg4 ?_
 refine dQo 17 9 [] hg4 rfl rfl rfl (XO rfl rfl Y8 aPk rfl) ?_
 refine dQo 18 9 [] hg4 rfl rfl rfl (X3 rfl rfl (QfT _) rfl (λw1 h1=>Qat w1 j (nth es (k-1)).key (nth es k).key hj (hx _ (QQ om)).1 (hx _ (QQ hk)).1 (hx _ (QQ om)).2 (hx _ (QQ hk)).2)) ?_
 refine dPo 19 9 hg4 ?_
 refine dV 20 rfl (QW rfl rfl hg4 rfl) (dQ 21 [] rfl (Ql rfl QaL rfl (λw1 h1=>QbB w1 _ _)) (dP 22 ?_))
 refine dNi ?_
 exact rV (h:=by simp only[QV,QaE];first|(split<;>simp_all<;>done)|(simp_all;done)|(grind))
theorem Qha:tki Tryz.prog 163=some .u64:=by kernel_rfl
instance:TFd Tryz.prog 27 3 3 25:=⟨by kernel_rfl⟩
theorem Y9:tsz Tryz.prog 25=some (1,false):=by kernel_rfl
instance:TSz Tryz.prog 25 1 false:=⟨Y9⟩
instance:TFn Tryz.prog 174:=⟨by kernel_rfl⟩
theorem QB:tsl Tryz.prog 52=some (3,1,8):=by kernel_rfl
theorem Yo:Xy Tryz.prog 3=some [.int .i64 0]:=by kernel_rfl
instance:TFn Tryz.prog 122:=⟨by kernel_rfl⟩
instance:TFd Tryz.prog 64 2 2 52:=⟨by kernel_rfl⟩
theorem XN:tsz Tryz.prog 52=some (1,false):=by kernel_rfl
instance:TSz Tryz.prog 52 1 false:=⟨XN⟩
theorem c174(w:World)(a:Option Addr)(cap:Nat)(l:List TEnt)(q:Nat)(cv:Array Value)(cs:List Int)(key:List UInt8)(hs:Rw TEnt.vals 2 w [] a l)(hm:l.length<=1000000)(hq:QH Tryz.prog q=true)(hb:cs.length=l.length)(hc:∀k w1,k<l.length->HS w [] [] w1->Calls Tryz.prog q (#[]++[.agg (TEnt.vals (nth l k)).toArray,.string (bs key)].toArray++cv) w1 λen w2=>en=.returned (.int .i64 (cs.getD k 0))/\Below w1.heap.size w1 w2):CR 174 #[.slice a l.length cap,.string (bs key),.func (.func q) #[] cv] w (.tuple #[.int .i64 (bsL cs:Int),.bool (Qgh cs)]):=by
 refine eN3 Tryz.func174 Tryz.ntmps174 ?_
 refine QqB ?_
 refine Qt (α:=Nat×Nat×Nat) [9,10,11,15,16,17,18,19,20,21,22,23,24,25,26,27,28,29,30,31,32,33,34] (λx=>[(9,.int .i64 (x.2.1:Int)),(10,.int .i64 (x.2.2:Int))]) (λ_=>_) (λx=>x.2.1<=x.2.2/\x.2.2<=l.length/\x.2.2-x.2.1<=x.1/\bsC cs x.1 x.2.1 x.2.2=bsL cs) (λx=>x.1) (l.length,0,l.length) ⟨by simp,by simp,by simp,by rw[<-hb];rfl⟩ aSx (λw h=>h.ent aEt) (λ⟨m,lo,hi⟩hx=>?_)
 dsimp only
 obtain⟨hx1,hx2,hx3,hx4⟩:=hx
 simp only[]at hx1 hx2 hx3 hx4
 refine aU7 ?_
 refine sCd rfl (λh1=>?_) λh1=>?_
 ·refine aT7 ?_
  refine o_p (Qr rfl rfl Yw Qha) rfl ?_
  rw[show IntKind.u64.wrap ((lo:Int)+(hi:Int))=((lo+hi:Nat):Int)from QlM _ om]
  refine o_p (Qdw rfl rfl rfl (by decide) 1 rfl) rfl (o_p (Qr rfl rfl Qha Yw) rfl ?_)
  try refine oWr ?_
  refine Qm (show _=Value.int .i64 (((lo+hi)/2:Nat):Int)from by congr 1) ?_
  obtain⟨q2,hq1,hq2⟩:=QiI (cs:=cs) (show lo<hi by omega) hx3
  refine aU7 ?_
  refine o_p (Qa rfl rfl rfl QL ((lo+hi)/2) om om (Rw.some hs om)) rfl (o_q (Qu _ rfl rfl Ye rfl (Rw.rd hs (i:=(lo+hi)/2) om)) rfl (aU ?_))
  refine o_q (X3 rfl rfl hq rfl (λw1 h1=>hc ((lo+hi)/2) w1 om (h1.ent aEt))) rfl (aU2 ?_)
  refine sCd rfl (λh2=>?_) λh2=>?_
  ·refine aT3 ?_
   refine aU3 ?_
   exact sBk (q2,(lo+hi)/2+1,hi) (by(try simp only[]);omega) ⟨by(try simp only[]);omega,hx2,by(try simp only[]);omega,by simp only[];rw[<-hx4,hq2,if_pos h2]⟩ (by refine Qc9 (congrArg (λe=>some (Value.int .i64 e)) (show(((lo+hi)/2:Nat):Int)+1=(((lo+hi)/2+1:Nat):Int) by omega)) ?_;repeat (first|exact Qio|refine Qc9 rfl ?_))
  refine aU5 ?_
  exact sBk (q2,lo,(lo+hi)/2) (by(try simp only[]);omega) ⟨by(try simp only[]);omega,by(try simp only[]);omega,by(try simp only[]);omega,by simp only[];rw[<-hx4,hq2,if_neg h2]⟩
 refine Qi rfl ?_
 refine aU3 ?_
 have hlo:bsL cs=lo:=by rw[<-hx4,QjH _ _ _ _ om]
 refine aU4 ?_
 refine XJ 9 39 48 rfl
  (λhg3 _=>by
   refine aU7 ?_
   refine o_p (Qa rfl rfl rfl QL (lo) om om (Rw.some hs om)) rfl (aU ?_)
   refine o_q (Qu _ rfl rfl Ye rfl (Rw.rd hs (i:=lo) om)) rfl (aU3 ?_)
   refine o_q (X3 rfl rfl hq rfl (λw1 h1=>hc lo w1 om (h1.ent aEt))) rfl (aU2 ?_)
   exact oJt 9 48)
  (λhg5 _=>by
   refine aU8 ?_
   exact oJf 9 48) ?_
 refine aU3 ?_
 exact Qf (rs:=[.tmp 6,.tmp 7]) rfl (.tmp rfl (.tmp rfl (.nil))) (λw' h'=>⟨by simp only[QV,Qgh,hlo];first|(rw[hb];simp;done)|(have:¬lo<cs.length:=om;simp[this];done)|(have:lo<cs.length:=om;simp[this];done)|(have:lo<cs.length:=om;have hl9:lo<l.length:=om;simp only[this,hl9,decide_true,Bool.true_and,Bool.and_true];rfl)|(have:lo<cs.length:=om;have hl9:lo<l.length:=om;simp[this,hl9]),h'.below⟩)
theorem c175(w:World)(c0:Nat)(x:TEnt)(key:List UInt8)(bt:Nat)(j:Nat)(mo rm:Int)(a:Option Addr)(n cap:Nat)(hj:j<=3)(hx:QS (j:Int) x.key=true)(hk:QS (j:Int) key=true)(hxl:x.key.length<=1000000)(hkl:key.length<=1000000)(hc0:Rd w [] c0 0 (.pointer (some ⟨bt,0,none⟩)))(ht:TbR w [] bt (j:Int) mo rm a n cap):CR 175 #[.agg #[.string (bs x.key),.string (bs x.val)],.string (bs key),.pointer (some ⟨c0,0,none⟩)] w (.int .i64 (QM (j:Int) x.key key)):=by
 refine eN3 Tryz.func175 Tryz.ntmps175 ?_
 refine aU2 ?_
 refine oBx λb1 _=>?_
 refine aU3 ?_
 refine Qq [] Qx ?_
 refine dQ 0 [] rfl (Qc rfl rfl YE (hc0)) (dP 1 ?_)
 refine dFa 2 ?_
 refine dFa 3 ?_
 refine dQ 4 [] rfl (Qc rfl rfl Qd6 (ht 5 _ rfl)) (dFa 5 ?_)
 refine dLd 6 [] ?_
 refine dP 7 ?_
 refine dQ 8 [] rfl (X3 rfl rfl (QfT _) rfl (λw1 h1=>Qat w1 j x.key key hj hx hk hxl hkl)) (dP 9 ?_)
 refine dNi ?_
 exact rV
theorem c122(w:World)(bt:Nat)(j:Nat)(mo rm:Int)(a:Option Addr)(cap:Nat)(L:List LNd)(key:List UInt8)(i:Nat)(hj:j<=3)(hi:i<L.length)(hl:L.length<=1000)(hel:(nth L i).es.length<=1000)(hK:∀i,i<L.length->∀x∈(nth L i).es,QS (j:Int) x.key=true/\x.key.length<=1000000)(hk:QS (j:Int) key=true)(hkl:key.length<=1000000)(hasc:Asc (j:Int) (nth L i).es)(hs:Nt w [] a L)(ht:TbR w [] bt (j:Int) mo rm a L.length cap):CR 122 #[.pointer (some ⟨bt,0,none⟩),.int .i64 (i:Int),.string (bs key)] w (.tuple #[.int .i64 (plc (j:Int) (nth L i).es key:Int),.bool (fnd (j:Int) (nth L i).es key)]):=by
 refine eN3 Tryz.func122 Tryz.ntmps122 ?_
 refine aU2 ?_
 refine oBx λb1 _=>?_
 refine aU9 ?_
 refine o_q (Qc rfl rfl Y9 (ht 3 _ rfl)) rfl (aU ?_)
 refine o_p (Qa rfl rfl rfl QE (i) om om (Rw.some hs.1 om)) rfl (aU ?_)
 refine o_q (Qc rfl rfl XZ ((hs.1.rdj 1 hi rfl))) rfl (aU2 ?_)
 refine oCq rfl (λw1 h1=>by have h9:=c174 w1 (nth L i).ea (nth L i).ec (nth L i).es 175 #[.pointer (some ⟨b1,0,none⟩)] (Qf1 (j:Int) (nth L i).es key) key ((hs.es hi).later h1) om (by kernel_rfl) (Qcd _ _ _) (λk w2 hk9 h2=>by rw[Qcm hk9];exact c175 w2 b1 (nth (nth L i).es k) key bt j mo rm a L.length cap hj (hK i hi _ (QQ hk9)).1 hk (hK i hi _ (QQ hk9)).2 hkl ((h1.rd_blk (Mc:=[]) aPk rfl (by simp)).next h2) ((ht.next h1).next h2));rw[QmU hasc,Qrf hasc]at h9;exact h9) (aU5 ?_)
 exact Qf (rs:=[.tmp 6,.tmp 7]) rfl (.tmp rfl (.tmp rfl (.nil))) (λw' h'=>⟨rfl,h'.below⟩)
theorem Qgt{co:Int}{ns:List Nd}{key:List UInt8}{f i:Nat}(h:¬(fnd co (nth ns i).es key=true\/(nth ns i).cs.length=0)):Zu co ns key (f+1) i=(i::(Zu co ns key f ((nth ns i).cs.getD (plc co (nth ns i).es key) 0).toNat).1,(Zu co ns key f ((nth ns i).cs.getD (plc co (nth ns i).es key) 0).toNat).2):=by
  rw[Zu,if_neg h]
theorem Qcc{co:Int}{ns:List Nd}{key:List UInt8}{f i:Nat}(h:fnd co (nth ns i).es key=true\/(nth ns i).cs.length=0):Zu co ns key (f+1) i=([i],plc co (nth ns i).es key,fnd co (nth ns i).es key):=by
  rw[Zu,if_pos h]
theorem QoT(l:List Nat):(l.map λi:Nat=>(i:Int)).flatMap inV=l.map λi:Nat=>Value.int .i64 (i:Int):=by
  induction l with
  | nil=>rfl
  | cons x l ih=>
    rw[List.map_cons,List.flatMap_cons,List.map_cons,ih];rfl
theorem c68(w:World)(bt:Nat)(j:Nat)(mo rm:Int)(a:Option Addr)(cap:Nat)(L:List LNd)(key:List UInt8)(hj:j<=3)(h0:0<L.length)(hB:Bd (pln L))(hT:TOk (j:Int) (pln L))(hK:∀i,i<L.length->∀x∈(nth L i).es,QS (j:Int) x.key=true/\x.key.length<=1000000)(hk:QS (j:Int) key=true)(hkl:key.length<=1000000)(hs:Nt w [] a L)(ht:TbR w [] bt (j:Int) mo rm a L.length cap):CE 68 #[.pointer (some ⟨bt,0,none⟩),.string (bs key)] w [] (λg:Option Addr×Nat=>.tuple #[.slice g.1 (Qh (j:Int) (pln L) key).1.length g.2,.int .i64 ((Qh (j:Int) (pln L) key).2.1:Int),.bool (Qh (j:Int) (pln L) key).2.2]) (λg=>True) λg=>[.kids g.1 g.2 ((Qh (j:Int) (pln L) key).1.map λi:Nat=>(i:Int))]:=by
 refine eN2 Tryz.func68 Tryz.ntmps68 ?_
 refine YZ ?_
 refine Qt (α:=(Option Addr×Nat)×List Nat×Nat×Nat) [4,5,6,7,8,9,10,11,12,13,14,15,16,17,18,19,20,21,22,23,24,25,26,27,28,29,30,31,32,33,34,35,36,37,38,39,40,41,42,43,44,45,46,47] (λx=>[(4,.slice x.1.1 x.2.1.length x.1.2),(7,.int .i64 (x.2.2.1:Int))]) (λx=>HS w [] [.own (.slice x.1.1 x.2.1.length x.1.2) 3 1 x.2.1.length (x.2.1.map λi:Nat=>Value.int .i64 (i:Int))]) (λx=>x.2.2.1<L.length/\x.2.1.length+x.2.2.2=L.length/\Gx.Way (pln L) (x.2.2.1::x.2.1.reverse)/\(Qh (j:Int) (pln L) key)=(x.2.1++(Zu (j:Int) (pln L) key x.2.2.2 x.2.2.1).1,(Zu (j:Int) (pln L) key x.2.2.2 x.2.2.1).2)) (λx=>x.2.2.2) ((none,0),[],0,L.length) ⟨h0,by simp,rfl,by rw[Qh,Qb];rfl⟩ aSx (λw h=>(h.own_nil 3 1).ent aEt) (λ⟨⟨ga,gc⟩,P,i,f⟩hx=>?_)
 dsimp only
 obtain⟨hi,hlen,hway,hpath⟩:=hx
 simp only[]at hi hlen hway hpath
 have hwl:=XW hT (by rw[Qb];exact h0) hway
 simp only[List.length_cons,List.length_reverse,Qb]at hwl
 obtain⟨f,rfl⟩:∃f9,f=f9+1:=⟨f-1,om⟩
 have hni:=Qp hi
 have hle:=hB.len
 rw[Qb]at hle
 have hes9:=hB.es i (by rw[Qb];exact hi)
 have hcs9:=hB.cs i (by rw[Qb];exact hi)
 rw[hni]at hes9 hcs9
 have hasc:=hT.asc i (by rw[Qb];exact hi)
 rw[hni]at hasc
 refine aU5 ?_
 refine o_h (Qd (cs:=[_]) rfl rfl QB Yo rfl rfl rfl) rfl (λb1 _=>o_h (Qy [_] rfl rfl rfl QB Tryz.underlying52 Yo rfl aPk (Q5 aPk) rfl (by intro u hu;simp only[List.mem_cons,List.mem_nil_iff,or_false]at hu;subst hu;rfl) om (by simp only[maxLen];omega)) rfl (λb2 _=>aU7 ?_))
 refine oCq rfl (λw1 h1=>c122 w1 bt j mo rm a cap L key i hj hi om hes9 hK hk hkl hasc (hs.later h1.nil) (ht.next h1.nil)) (YZ ?_)
 refine oOr 12 20 32 rfl
  (λhg3 _=>by
   refine aU9 ?_
   refine o_q (Qc rfl rfl Y9 (ht 3 _ rfl)) rfl (aU3 ?_)
   refine o_p (Qa rfl rfl rfl QE (i) om om (Rw.some hs.1 om)) rfl (aU3 ?_)
   refine o_q (Qc rfl rfl XN ((hs.1.rdj 2 hi rfl))) rfl (aU4 ?_)
   exact oJf 12 32)
  (λhg5 _=>by
   refine YZ ?_
   exact oJt 12 32) ?_
 refine aU ?_
 refine sCd rfl (λh7=>?_) λh7=>?_
 ·have hst:fnd (j:Int) (nth (pln L) i).es key=true\/(nth (pln L) i).cs.length=0:=by rw[hni];have hq:=h7;first|exact hq|(simp at hq;simpa[LNd.pl]using hq)
  refine aU9 ?_
  exact Qf (rs:=[.tmp 4,.tmp 5,.tmp 6]) rfl (.tmp rfl (.tmp rfl (.tmp rfl (.nil)))) (λw' h'=>⟨(b2.1,b2.2),by rw[hpath,Qcc hst,hni];simp[QV,LNd.pl],trivial,by rw[hpath,Qcc hst];have h2:=h';unfold HA.kids;rw[QoT];simp only[List.length_map,List.length_append,List.length_singleton,List.map_append,List.map_cons,List.map_nil];exact h2.ent aEt⟩)
 have hst:¬(fnd (j:Int) (nth (pln L) i).es key=true\/(nth (pln L) i).cs.length=0):=by rw[hni];have hq:=h7;first|exact hq|(simp at hq;simpa[LNd.pl]using hq)
 have hcl:(nth L i).cs.length=(nth L i).es.length+1:=by rcases hT.shape i (by rw[Qb];exact hi)with h9|h9;exact absurd (.inr h9) hst;rw[hni]at h9;exact h9
 have hple:=ZJ (j:Int) key (nth L i).es
 have hpk:plc (j:Int) (nth L i).es key<(nth L i).cs.length:=om
 have hkid:=QaS hT (by rw[Qb];exact hi) (i:=i) (k:=plc (j:Int) (nth L i).es key) (by rw[hni];exact hpk)
 rw[hni,Qb]at hkid
 simp only[LNd.pl]at hkid
 have hway2:=ZD hway (by rw[Qb];exact hi) (k:=plc (j:Int) (nth L i).es key) (by rw[hni];exact hpk) (by rw[hni];simp only[LNd.pl];omega)
 rw[hni]at hway2
 simp only[LNd.pl]at hway2
 refine aU6 ?_
 refine o_q (Qc rfl rfl Y9 (ht 3 _ rfl)) rfl (aU ?_)
 refine o_p (Qa rfl rfl rfl QE (i) om om (Rw.some hs.1 om)) rfl (aU ?_)
 refine o_q (Qc rfl rfl XN ((hs.1.rdj 2 hi rfl))) rfl (aU ?_)
 refine o_p (Qa rfl rfl rfl QB (plc (j:Int) (nth L i).es key) om om (Rw.some (hs.cs hi) om)) rfl (o_q (Qc rfl rfl Xq (((hs.cs hi).rdj 0 (i:=plc (j:Int) (nth L i).es key) hpk rfl))) rfl (aU3 ?_))
 exact QR ((b2.1,b2.2),P++[i],((nth L i).cs.getD (plc (j:Int) (nth L i).es key) 0).toNat,f) (by(try simp only[]);omega) ⟨by simp only[];omega,by simp only[List.length_append,List.length_singleton];omega,by simp only[List.reverse_append,List.reverse_singleton,List.singleton_append];exact hway2,by simp only[];rw[hpath,Qgt hst];simp[hni,LNd.pl]⟩ (by simp only[List.length_append,List.length_singleton];rw[Int.toNat_of_nonneg om];exact aSx) (λw h=>by have h2:=h;simp only[List.length_append,List.length_singleton,List.map_append,List.map_cons,List.map_nil];exact h2.ent aEt)
theorem Qqu:QH Tryz.prog 168=true:=by kernel_rfl
instance:TFd Tryz.prog 64 0 0 4:=⟨by kernel_rfl⟩
theorem Qei:tsz Tryz.prog 4=some (1,false):=by kernel_rfl
instance:TSz Tryz.prog 4 1 false:=⟨Qei⟩
theorem Ql8:tsz Tryz.prog 188=some (1,false):=by kernel_rfl
theorem Qq7:tzv Tryz.prog 4=some (.bool false):=by kernel_rfl
abbrev KI:Int->Value:=λn=>Value.int .i64 n
theorem QnA{ks:List Int}{c x:Int}:x∈Qbf ks c ↔ x=c\/x∈ks:=by
  unfold Qbf;split
  · rename_i h;constructor
    · exactλh1=>.inr h1
    · rintro(rfl|h1)
      · exact h
      · exact h1
  · rw[List.mem_append,List.mem_singleton];exact Or.comm
theorem c168(w:World)(i c:Int)(c0 c5 r:Nat)(ks seen:List Int)(bt:Nat)(j:Nat)(mo rm:Int)(a:Option Addr)(cap:Nat)(L:List LNd)(hw:HS w (fps [.mp r KI ks]) [.mp r KI ks] w)(hst:∀x,x∈ks ↔ x∈seen)(hc0:Rd w (fps [.mp r KI ks]) c0 0 (.pointer (some ⟨bt,0,none⟩)))(hc5:Rd w (fps [.mp r KI ks]) c5 0 (.map (some r)))(ht:TbR w (fps [.mp r KI ks]) bt (j:Int) mo rm a L.length cap)(hs:Nt w (fps [.mp r KI ks]) a L)(hl:L.length<=1000):CE 168 #[.int .i64 i,.int .i64 c,.pointer (some ⟨c0,0,none⟩),.pointer (some ⟨c5,0,none⟩)] w (fps [.mp r KI ks]) (λg:List Int=>.int .i64 (Qbs (pln L) c seen)) (λg=>(∀x,x∈g ↔ x∈(Qc7 (pln L) c seen))) λg=>[.mp r KI g]:=by
 refine eW4 Tryz.func168 Tryz.ntmps168 hw ?_
 refine aU8 ?_
 refine o_q (Qc rfl rfl YE (hc0)) rfl (aU3 ?_)
 refine o_q (Qc rfl rfl Y9 (ht 3 _ rfl)) rfl (aT2 ?_)
 refine oCq rfl (λw1 h1=>Qld w1 _ _ _) (aU2 ?_)
 refine oOr 11 18 29 rfl
  (λhg1 _=>by
   refine aU ?_
   refine o_q (Qc rfl rfl YE (hc0)) rfl (aU7 ?_)
   refine o_q (Qc rfl rfl Y9 (ht 3 _ rfl)) rfl (aU3 ?_)
   refine o_p (Qa rfl rfl rfl QE c.toNat om om (Rw.some hs.1 om)) rfl (aU3 ?_)
   refine o_q (Qc rfl rfl Qei ((hs.1.rdj 0 (i:=c.toNat) om rfl))) rfl (aU2 ?_)
   exact oJf 11 29)
  (λhg3 _=>by
   refine YR ?_
   exact oJt 11 29) ?_
 refine aU ?_
 refine sCd rfl (λh5=>?_) λh5=>?_
 ·have hz:¬Qcw (pln L) c:=by unfold Qcw;rw[Qb];intro h9;rw[Qp om]at h9;have hq:=h5;simp[LNd.pl]at h9;rcases hq with hq|hq<;>simp_all<;>omega
  refine aU4 ?_
  exact rT rfl rfl (λw' h'=>⟨ks,by unfold Qbs;rw[if_neg hz];rfl,by unfold Qc7;rw[if_neg hz];exact hst,h'.ent aEt⟩)
 have hz:Qcw (pln L) c:=by have hq:=h5;have hq1:1<=c/\c<=(L.length:Int)-1:=(by first|omega|(simp at hq;omega));unfold Qcw;rw[Qb,Qp om];exact⟨hq1,by simp only[LNd.pl];first|exact hq.2|exact hq.2.2|(simp at hq;first|exact hq.2|exact hq.2.2)⟩
 refine aU3 ?_
 refine o_q (Qc rfl rfl Ql8 (hc5)) rfl (aU ?_)
 refine o_q (Qfo rfl rfl rfl Tryz.underlying188 Qq7 (QkJ Yw) aPk) rfl (aU ?_)
 refine oCq rfl (λw1 h1=>QbB w1 _ _) (aU4 ?_)
 refine o_q (Qc rfl rfl Ql8 (hc5)) rfl (aU ?_)
 refine Qal (QbI (.inl rfl) rfl rfl rfl Tryz.underlying188 (QkJ Yw) aPt) (λ_ _=>aU6 ?_)
 exact rT rfl rfl (λw' h'=>⟨Qbf ks c,by unfold Qbs;rw[if_pos hz];simp only[QV];by_cases h9:c∈seen<;>simp[h9,(hst c)],by unfold Qc7;rw[if_pos hz];intro x;rw[QnA,List.mem_cons,hst],h'.ent aEt⟩)
theorem c167(w:World)(ca:Option Addr)(cc:Nat)(cs:List Int)(c0 c5 r:Nat)(ks seen:List Int)(bt:Nat)(j:Nat)(mo rm:Int)(a:Option Addr)(cap:Nat)(L:List LNd)(hw:HS w (fps [.mp r KI ks]) [.mp r KI ks] w)(hst:∀x,x∈ks ↔ x∈seen)(hc0:Rd w (fps [.mp r KI ks]) c0 0 (.pointer (some ⟨bt,0,none⟩)))(hc5:Rd w (fps [.mp r KI ks]) c5 0 (.map (some r)))(ht:TbR w (fps [.mp r KI ks]) bt (j:Int) mo rm a L.length cap)(hs:Nt w (fps [.mp r KI ks]) a L)(hl:L.length<=1000)(hcs:Rw inV 1 w (fps [.mp r KI ks]) ca cs)(hcl:cs.length<=1000):CE 167 #[.slice ca cs.length cc,.func (.func 168) #[] #[.pointer (some ⟨c0,0,none⟩),.pointer (some ⟨c5,0,none⟩)]] w (fps [.mp r KI ks]) (λg:Int×List Int=>.tuple #[.int .i64 g.1,.int .i64 (X7 (pln L) cs seen).1]) (λg=>(∀x,x∈g.2 ↔ x∈(X7 (pln L) cs seen).2)) λg=>[.mp r KI g.2]:=by
 refine eW2 Tryz.func167 Tryz.ntmps167 hw ?_
 refine Z5 ?_
 refine Qt (α:=Nat×List Int×List Int) [4,5,6,7,8,11,12,13,14,15,16,17,18,19,20,21,22,23,24] (λx=>[(11,.int .i64 (x.1:Int))]) (λx=>HS w (fps [.mp r KI ks]) [.mp r KI x.2.1]) (λx=>x.1<=cs.length/\(∀y,y∈x.2.1 ↔ y∈x.2.2)/\(X7 (pln L) cs seen)=X7 (pln L) (cs.drop x.1) x.2.2) (λx=>cs.length-x.1) (0,ks,seen) ⟨Nat.zero_le _,hst,rfl⟩ aSx (λw h=>h.ent aEt) (λ⟨k,K,S9⟩hx=>?_)
 dsimp only
 obtain⟨hk1,hk2,hk3⟩:=hx
 simp only[]at hk1 hk2 hk3
 refine aU5 ?_
 refine sCd rfl (λh1=>?_) λh1=>?_
 ·have hkl:k<cs.length:=by omega
  refine aU6 ?_
  refine o_p (Qa rfl rfl rfl QB (k) om om (Rw.some hcs om)) rfl (o_q (Qc rfl rfl Xq ((hcs.rdj 0 (i:=k) om rfl))) rfl (aU8 ?_))
  refine o_h (Qdk (Cs:=[.mp r KI K]) rfl rfl Qqu rfl aPs (λw1 h1 hf=>c168 w1 (k:Int) (cs.getD k 0) c0 c5 r K S9 bt j mo rm a cap L hf hk2 (h1.keep hc0) (h1.keep hc5) (ht.keep h1) (hs.keep h1) hl)) rfl (λb2 hkG=>?_)
  have hkg:=hkG
  refine aU7 ?_
  refine sCd rfl (λh3=>?_) λh3=>?_
  ·refine aU7 ?_
   exact Qf (rs:=[.tmp 4,.tmp 5]) rfl (.tmp rfl (.tmp rfl (.nil))) (λw' h'=>⟨((k:Int),b2),by rw[hk3,Qb6 hkl,QaM,if_neg h3];rfl,by rw[hk3,Qb6 hkl,QaM,if_neg h3];exact hkG,h'.ent aEt⟩)
  refine aT4 ?_
  refine aU2 ?_
  exact sBk (k+1,b2,Qc7 (pln L) (cs.getD k 0) S9) (by(try simp only[]);omega) ⟨by(try simp only[]);omega,hkg,by simp only[];rw[hk3,Qb6 hkl,QaM,if_pos h3]⟩
 refine Qi rfl ?_
 refine aU5 ?_
 exact Qf (rs:=[.tmp 4,.tmp 5]) rfl (.tmp rfl (.tmp rfl (.nil))) (λw' h'=>⟨(0,K),by rw[hk3,List.drop_of_length_le om];rfl,by rw[hk3,List.drop_of_length_le om];exact hk2,h'.ent aEt⟩)
theorem Y5:tsz Tryz.prog 64=some (3,true):=by kernel_rfl
instance:TSz Tryz.prog 64 3 true:=⟨Y5⟩
theorem QqG:QH Tryz.prog 165=true:=by kernel_rfl
theorem Qje:QH Tryz.prog 109=true:=by kernel_rfl
instance:TFn Tryz.prog 109:=⟨Qje⟩
theorem Qqz:QH Tryz.prog 167=true:=by kernel_rfl
theorem QpE{t:Tre}{i:Nat}{es:List TEnt}{cs:List Int}(h:nth t.ns i=⟨true,es,cs⟩)(b:Bool)(hb:b=true ↔ (cs.length=0\/cs.length=es.length+1)):(if(bif decide ((es.length:Int)<=YD t.mo t.rm i)then(0:Int)else 16)=0 then(bif b then(0:Int)else 10)else(bif decide ((es.length:Int)<=YD t.mo t.rm i)then(0:Int)else 16))=nE1 t i:=by
  unfold nE1;rw[h]
  by_cases h1:(es.length:Int)<=YD t.mo t.rm i
  · rw[decide_eq_true h1,if_pos h1]
    by_cases h2:cs.length=0\/cs.length=es.length+1
    · rw[if_pos h2,hb.2 h2];rfl
    · rw[if_neg h2,show b=false by cases b;rfl;exact absurd (hb.1 rfl) h2];rfl
  · rw[decide_eq_false h1,if_neg h1];rfl
theorem c119(w:World)(i r:Nat)(ks seen:List Int)(bt:Nat)(j:Nat)(mo rm:Int)(a:Option Addr)(cap:Nat)(L:List LNd)(hw:HS w (fps [.mp r KI ks]) [.mp r KI ks] w)(hst:∀x,x∈ks ↔ x∈seen)(ht:TbR w (fps [.mp r KI ks]) bt (j:Int) mo rm a L.length cap)(hs:Nt w (fps [.mp r KI ks]) a L)(hl:L.length<=1000)(hj:j<=3)(hi:i<L.length)(hel:(nth L i).es.length<=1000)(hcl:(nth L i).cs.length<=1000)(hkl:∀x∈(nth L i).es,x.key.length<=1000000):CE 119 #[.pointer (some ⟨bt,0,none⟩),.int .i64 (i:Int),.map (some r)] w (fps [.mp r KI ks]) (λg:List Int=>.int .i64 (XX (⟨(j:Int),mo,rm,pln L⟩:Tre) i seen).1) (λg=>(∀x,x∈g ↔ x∈(XX (⟨(j:Int),mo,rm,pln L⟩:Tre) i seen).2)) λg=>[.mp r KI g]:=by
 have hn:nth (pln L) i=(nth L i).pl:=Qp hi
 have hE2:nE2 (⟨(j:Int),mo,rm,pln L⟩:Tre) i=if nE1 (⟨(j:Int),mo,rm,pln L⟩:Tre) i=0 then(QU ((nth L i).es.map (XP (j:Int))) 0).2 else nE1 (⟨(j:Int),mo,rm,pln L⟩:Tre) i:=by unfold nE2 Zn;rw[hn];rfl
 have hE3:nE3 (⟨(j:Int),mo,rm,pln L⟩:Tre) i seen=if nE2 (⟨(j:Int),mo,rm,pln L⟩:Tre) i=0 then X7 (pln L) (nth L i).cs seen else(nE2 (⟨(j:Int),mo,rm,pln L⟩:Tre) i,seen):=by unfold nE3;rw[hn];rfl
 have hE4:nE4 (⟨(j:Int),mo,rm,pln L⟩:Tre) i seen=if(nE3 (⟨(j:Int),mo,rm,pln L⟩:Tre) i seen).1=0 then(QU ((List.range (nth L i).es.length).map (QaE (j:Int) (nth L i).es)) 0).2 else(nE3 (⟨(j:Int),mo,rm,pln L⟩:Tre) i seen).1:=by unfold nE4 Qaw;rw[hn];rfl
 refine eW3 Tryz.func119 Tryz.ntmps119 hw ?_
 refine aU2 ?_
 refine oBx λb1 _=>?_
 refine oBx λb2 _=>?_
 refine aU8 ?_
 refine o_q (Qc rfl rfl Y9 (ht 3 _ rfl)) rfl (aU ?_)
 refine o_p (Qa rfl rfl rfl QE (i) om om (Rw.some hs.1 om)) rfl (o_q (Qu _ rfl rfl Y5 rfl (Rw.rd hs.1 hi)) rfl (oAl (λb3 _=>?_) XY))
 refine aU9 ?_
 refine sCd rfl (λh4=>?_) λh4=>?_
 ·have hu:(nth (pln L) i).us=false:=by rw[hn];have hq:=h4;simpa[LNd.pl]using hq
  refine aU5 ?_
  refine XJ 10 22 32 rfl
   (λhg5 _=>by
    refine YZ ?_
    refine o_q (Qc rfl rfl Y9 (ht 3 _ rfl)) rfl (aT4 ?_)
    refine aU2 ?_
    exact oJt 10 32)
   (λhg7 _=>by
    refine aU9 ?_
    exact oJf 10 32) ?_
  refine aU ?_
  refine XJ 9 33 42 rfl
   (λhg9 _=>by
    refine aT14 ?_
    refine aU2 ?_
    exact oJt 9 42)
   (λhg11 _=>by
    refine aU8 ?_
    exact oJf 9 42) ?_
  refine oCq rfl (λw1 h1=>QbB w1 _ _) (aU2 ?_)
  exact rT rfl rfl (λw' h'=>⟨ks,by unfold XX;simp only[];rw[if_neg (by rw[hu];decide),hn];simp only[QV,LNd.pl];simp only[cond_eq_ite,Bool.and_eq_true,decide_eq_true_eq,Qb];(split<;>split<;>first|rfl|omega),by unfold XX;simp only[];rw[if_neg (by rw[hu];decide)];split<;>exact hst,h'.ent aEt⟩)
 have hu:(nth (pln L) i).us=true:=by rw[hn];have hq:=h4;simpa[LNd.pl]using hq
 have hN1:nth ((⟨(j:Int),mo,rm,pln L⟩:Tre)).ns i=⟨true,(nth L i).es,(nth L i).cs⟩:=by show nth (pln L) i=_;rw[hn]at hu ⊢;simp only[LNd.pl]at hu ⊢;rw[hu]
 rw[Qgq (⟨(j:Int),mo,rm,pln L⟩:Tre) i hu]
 refine aU2 ?_
 refine Qg (L':=[(1,_),(3,_),(5,_),(6,_),(7,_)]) aSx (λ_ h=>h) ?_
 refine Xe (α:=Unit) [8,44,45,46,47,48,49,50,51,52,53,54,55,56,57,58,59,60,61,62,63,64,65,66,67,68] (λ_=>[(8,.int .i64 (nE1 (⟨(j:Int),mo,rm,pln L⟩:Tre) i))]) (λ_=>HS w (fps [.mp r KI ks]) [.blk b1 118 1 [.pointer (some ⟨bt,0,none⟩)],.blk b2 188 1 [.map (some r)],.blk b3 64 3 (nth L i).vals,.mp r KI ks]) (λ_=>True) ?_ ?_
 ·skip
  refine Qq [] Qx ?_
  refine dFa 0 ?_
  refine dLd 1 [] ?_
  refine dV 2 rfl (Qz rfl rfl Tryz.underlying62) (dLd 3 [] ?_)
  refine dP 4 ?_
  refine dQ 5 [] rfl (Ql rfl QqG rfl (λw1 h1=>c165 w1 bt j mo rm a L.length cap i (ht.next h1))) (dP 6 ?_)
  refine dQ 7 [] rfl (Ql rfl QaL rfl (λw1 h1=>QbB w1 _ _)) (dFa 8 ?_)
  refine dLd 9 [] ?_
  refine dV 10 rfl (Qz rfl rfl Tryz.underlying52) (dP 11 ?_)
  refine dP 12 ?_
  apply Q7 56
  ·exact rfl
  ·intro hg13
   have hs14:=hg13;try simp only[dT]at hs14
   refine dOf 13 56 hg13 ?_
   refine dOf 14 56 hg13 ?_
   refine dOf 15 56 hg13 ?_
   refine dOf 16 56 hg13 ?_
   refine dOf 17 56 hg13 ?_
   refine dOf 18 56 hg13 ?_
   refine dOf 19 56 hg13 ?_
   refine dOf 20 56 hg13 ?_
   refine dV 21 rfl (Xk rfl rfl hg13 rfl) (dQ 22 [] rfl (Ql rfl QaL rfl (λw1 h1=>QbB w1 _ _)) (dH 23 rfl (Qd (cs:=[_,_]) rfl rfl XI Yv rfl rfl rfl) (λb15 _=>dBa ?_)))
   refine dQ 24 [] rfl (Ql rfl Qe4 rfl (λw1 h1=>Qju h1 aPk (by rfl) (by rfl) (by decide))) (Qs (show _=Value.int .i64 (nE1 (⟨(j:Int),mo,rm,pln L⟩:Tre) i)from by congr 1;rw[Qa1];exact QpE hN1 _ (by first|(simp only[true_iff];left;have hq:=hg13;simp at hq ⊢;omega)|(have hq:¬(((nth L i).cs.length:Int)=0):=of_decide_eq_false hg13;rw[decide_eq_true_eq];omega))) (dP 25 ?_))
   refine dNi ?_
   exact Qo () trivial aSx (λw h=>h.ent aEt)
  intro hg16
  have hs17:=hg16;try simp only[dN]at hs17
  refine dFo 13 56 hg16 ?_
  refine dQo 14 56 [] hg16 rfl rfl rfl (XO rfl rfl XN aPk rfl) ?_
  refine dVo 15 56 hg16 rfl rfl rfl (Qz rfl rfl Tryz.underlying52) ?_
  refine dFo 16 56 hg16 ?_
  refine dQo 17 56 [] hg16 rfl rfl rfl (XO rfl rfl XZ aPk rfl) ?_
  refine dVo 18 56 hg16 rfl rfl rfl (Qz rfl rfl Tryz.underlying62) ?_
  refine dPo 19 56 hg16 ?_
  try refine dWr ?_
  refine dPo 20 56 hg16 ?_
  refine dV 21 rfl (QW rfl rfl hg16 rfl) (dQ 22 [] rfl (Ql rfl QaL rfl (λw1 h1=>QbB w1 _ _)) (dH 23 rfl (Qd (cs:=[_,_]) rfl rfl XI Yv rfl rfl rfl) (λb18 _=>dBa ?_)))
  refine dQ 24 [] rfl (Ql rfl Qe4 rfl (λw1 h1=>Qju h1 aPk (by rfl) (by rfl) (by decide))) (Qs (show _=Value.int .i64 (nE1 (⟨(j:Int),mo,rm,pln L⟩:Tre) i)from by congr 1;rw[Qa1];exact QpE hN1 _ (by first|(simp only[true_iff];left;have hq:=hg16;simp at hq ⊢;omega)|(have hq:¬(((nth L i).cs.length:Int)=0):=of_decide_eq_false hg16;rw[decide_eq_true_eq];omega))) (dP 25 ?_))
  refine dNi ?_
  exact Qo () trivial aSx (λw h=>h.ent aEt)
 intro _ _
 refine aU6 ?_
 refine Xe (α:=Unit) [8,71,72,73,74,75,76,77] (λ_=>[(8,.int .i64 (nE2 (⟨(j:Int),mo,rm,pln L⟩:Tre) i))]) (λ_=>HS w (fps [.mp r KI ks]) [.blk b1 118 1 [.pointer (some ⟨bt,0,none⟩)],.blk b2 188 1 [.map (some r)],.blk b3 64 3 (nth L i).vals,.mp r KI ks]) (λ_=>True) ?_ ?_
 ·skip
  refine sCd rfl (λh19=>?_) λh19=>?_
  ·refine aU4 ?_
   refine oCq rfl (λw1 h1=>c109 w1 (nth L i).ea (nth L i).ec (nth L i).es 166 #[.pointer (some ⟨b1,0,none⟩)] ((nth L i).es.map (XP (j:Int))) ((hs.es hi).later h1) om (by kernel_rfl) (by simp) (λk w2 hk9 _ h2=>by rw[QbX hk9];exact c166 w2 b1 (k:Int) (nth (nth L i).es k) bt j mo rm a L.length cap hj (hkl _ (QQ hk9)) ((h1.rd_blk (Mc:=[]) (b:=b1) aPk rfl (by simp)).next h2) ((ht.next h1).next h2))) (aU5 ?_)
   exact Qo () trivial (by rw[hE2,if_pos h19];exact aSx) (λw h=>h.ent aEt)
  refine aU ?_
  exact Qo () trivial (by rw[hE2,if_neg h19];exact aSx) (λw h=>h.ent aEt)
 intro _ _
 refine aU6 ?_
 refine Xe (α:=List Int) [8,80,81,82,83,84,85,86] (λ_=>[(8,.int .i64 (nE3 (⟨(j:Int),mo,rm,pln L⟩:Tre) i seen).1)]) (λq=>HS w (fps [.mp r KI ks]) [.blk b1 118 1 [.pointer (some ⟨bt,0,none⟩)],.blk b2 188 1 [.map (some r)],.blk b3 64 3 (nth L i).vals,.mp r KI q]) (λq=>∀x,x∈q ↔ x∈(nE3 (⟨(j:Int),mo,rm,pln L⟩:Tre) i seen).2) ?_ ?_
 ·skip
  refine sCd rfl (λh20=>?_) λh20=>?_
  ·refine aU4 ?_
   refine o_h (QT (Cs:=[.mp r KI ks]) rfl Qqz rfl aPs (λw1 h1 hf=>c167 w1 (nth L i).ca (nth L i).cc (nth L i).cs b1 b2 r ks seen bt j mo rm a cap L hf hst (h1.rd_blkF aPs (b:=b1) aPk rfl) (h1.rd_blkF aPs (b:=b2) aPk rfl) ((ht.keep h1).mono (Xf aPs)) ((hs.keep h1).mono (Xf aPs)) hl (((hs.cs hi).keep h1).mono (Xf aPs)) hcl)) rfl (λb21 hkG=>aU5 ?_)
   exact Qo b21.2 (by rw[hE3,if_pos h20];exact hkG) (by rw[hE3,if_pos h20];exact aSx) (λw h=>h.ent aEt)
  refine aU ?_
  exact Qo ks (by rw[hE3,if_neg h20];exact hst) (by rw[hE3,if_neg h20];exact aSx) (λw h=>h.ent aEt)
 intro ks2 hks2
 refine aU6 ?_
 refine Xe (α:=Unit) [8,89,90,91,92,93,94,95] (λ_=>[(8,.int .i64 (nE4 (⟨(j:Int),mo,rm,pln L⟩:Tre) i seen))]) (λ_=>HS w (fps [.mp r KI ks]) [.blk b1 118 1 [.pointer (some ⟨bt,0,none⟩)],.blk b2 188 1 [.map (some r)],.blk b3 64 3 (nth L i).vals,.mp r KI ks2]) (λ_=>True) ?_ ?_
 ·skip
  refine sCd rfl (λh22=>?_) λh22=>?_
  ·have he0:=Qj1 (QrA _ _ (QpF _ _ h22))
   rw[hn]at he0
   have hkok:∀x∈(nth L i).es,QS (j:Int) x.key=true/\x.key.length<=1000000:=λx hx=>⟨Zq (he0 x hx),hkl x hx⟩
   refine aU4 ?_
   refine oCq rfl (λw1 h1=>c109 w1 (nth L i).ea (nth L i).ec (nth L i).es 169 #[.pointer (some ⟨b1,0,none⟩),.pointer (some ⟨b3,0,none⟩)] ((List.range (nth L i).es.length).map (QaE (j:Int) (nth L i).es)) ((hs.es hi).later h1) om (by kernel_rfl) (by simp) (λk w2 hk9 _ h2=>by rw[QbU hk9];exact c169 w2 b1 b3 k true (nth L i).ea (nth L i).ec (nth L i).es (.bool true) bt j mo rm a L.length cap hj hk9 om hkok ((h1.rd_blk (Mc:=[]) (b:=b1) aPk rfl (by simp)).next h2) ((h1.rd_blk (Mc:=[]) (b:=b3) aPk rfl (by simp)).next h2) (((hs.es hi).later h1).later h2) ((ht.next h1).next h2))) (aU5 ?_)
   exact Qo () trivial (by rw[hE4,if_pos h22];exact aSx) (λw h=>h.ent aEt)
  refine aU ?_
  exact Qo () trivial (by rw[hE4,if_neg h22];exact aSx) (λw h=>h.ent aEt)
 intro _ _
 refine aU5 ?_
 exact rT rfl rfl (λw' h'=>⟨ks2,rfl,hks2,h'.ent aEt⟩)
instance:TFn Tryz.prog 102:=⟨by kernel_rfl⟩
theorem Qi3:QH Tryz.prog 170=true:=by kernel_rfl
theorem Qnt:tsz Tryz.prog 146=some (1,false):=by kernel_rfl
instance:TSz Tryz.prog 146 1 false:=⟨Qnt⟩
theorem Qa9:tsl Tryz.prog 146=some (4,1,1):=by kernel_rfl
theorem c102(w:World)(ua:Option Addr)(uc:Nat)(u:List Int)(n:Int)(hu:Rw inV 1 w [] ua u)(hum:u.length<=100000):CR 102 #[.slice ua u.length uc,.int .i64 n] w (.int .i64 (ixI (Y7 u n))):=by
 refine eN2 Tryz.func102 Tryz.ntmps102 ?_
 refine Y1 ?_
 refine Qt (α:=Nat) [4,5,8,9,10,11,12,13,14,15,16,17,18] (λk=>[(8,.int .i64 (k:Int))]) (λ_=>_) (λk=>k<=u.length/\∀i,i<k->(Y7 u n).getD i false=false) (λk=>u.length-k) 0 ⟨Nat.zero_le _,λi h=>absurd h (Nat.not_lt_zero i)⟩ aSx (λw h=>h) (λk hkk=>?_)
 obtain⟨hk1,hk2⟩:=hkk
 refine aU5 ?_
 refine sCd rfl (λh1=>?_) λh1=>?_
 ·have hk:k<u.length:=by omega
  refine Z5 ?_
  refine o_p (Qa rfl rfl rfl QB (k) om om (Rw.some hu om)) rfl (o_q (Qc rfl rfl Xq ((hu.rdj 0 hk rfl))) rfl (aU2 ?_))
  refine sCd rfl (λh2=>?_) λh2=>?_
  ·have hq9:n=u.getD k 0:=h2
   have e:=QaR (l:=Y7 u n) (k:=k) (by rw[Ym];omega) hk2 (λ_=>by rw[QbT hk];exact decide_eq_true hq9)
   refine aU5 ?_
   exact rV (h:=by simp only[QV,ixI,e,Ym];rw[if_pos hk])
  have hq9:¬n=u.getD k 0:=h2
  refine aT4 ?_
  refine aU2 ?_
  exact QR (k+1) om ⟨om,λi hi=>(Nat.lt_or_ge i k).elim (hk2 i) (λh=>by obtain rfl:i=k:=om;rw[QbT hk];exact decide_eq_false hq9)⟩ aSx (λw h=>h)
 obtain rfl:k=u.length:=om
 refine Qi rfl ?_
 refine aU4 ?_
 exact rV (h:=by have e:=QaR (l:=Y7 u n) (k:=u.length) (by rw[Ym];omega) hk2 (λh=>by rw[Ym]at h;omega);simp only[QV,ixI,e,Ym];rw[if_neg om])
theorem c58(w:World)(ua:Option Addr)(uc:Nat)(u:List Int)(n:Int)(hu:Rw inV 1 w [] ua u)(hum:u.length<=100000):CR 58 #[.slice ua u.length uc,.int .i64 n] w (.bool (decide (n∈u))):=by
 refine eN2 Tryz.func58 Tryz.ntmps58 ?_
 refine aU8 ?_
 refine oCq rfl (λw1 h1=>c102 w1 ua uc u n (hu.later h1) hum) (aU3 ?_)
 exact rV (h:=by rw[<-QnS,<-Qo1];rfl)
def WkC(S:Type)(I:S->Prop)(C:S->HA)(st:S->Vis->S)(er:S->Vis->Int×Int)(q:Nat)(cv:Array Value)(bt:Nat)(j:Nat)(mo rm:Int)(a:Option Addr)(cap:Nat)(L:List LNd)(f:Nat):Prop:=∀(w:World)(s:S)(v:Vis)(pl ph:Option Addr)(P:List Nat),(HS w (fps [C s]) [C s] w)->(QH Tryz.prog q=true)->(∀s1 s2:S,(C s1).fp=(C s2).fp)->(∀s2 v2,I s2->I (st s2 v2))->(I s)->(∀(s2:S)(v2:Vis)(p2 p3:Option Addr)(w1:World),HS w (fps [C s]) [C s2] w1->I s2->v2.i<L.length->KOk (j:Int) v2.lo->KOk (j:Int) v2.hi->Z4 w1 (fps [C s2]) p2 v2.lo->Z4 w1 (fps [C s2]) p3 v2.hi->Calls Tryz.prog q (#[]++[.int .i64 (v2.i:Int),.int .i64 v2.d,.pointer p2,.pointer p3].toArray++cv) w1 λen w2=>∃g:Unit,en=.returned (.tuple #[.int .i64 (er s2 v2).1,.int .i64 (er s2 v2).2])/\True/\HS w1 (fps [C s2]) [C (st s2 v2)] w2)->(TbR w (fps [C s]) bt (j:Int) mo rm a L.length cap)->(Nt w (fps [C s]) a L)->(TOk (j:Int) (pln L))->(Bd (pln L))->(Z4 w (fps [C s]) pl v.lo)->(Z4 w (fps [C s]) ph v.hi)->(0<L.length)->(Gx.Way (pln L) (v.i::P))->(P.length+f=L.length)->(v.d=(P.length:Int)+1)->(KOk (j:Int) v.lo)->(KOk (j:Int) v.hi)->Calls Tryz.prog 170 #[.pointer (some ⟨bt,0,none⟩),.int .i64 (v.i:Int),.int .i64 v.d,.pointer pl,.pointer ph,.func (.func q) #[] cv] w λen w'=>∃g:Unit,en=.returned (.tuple #[.int .i64 (XK st er s (vis (pln L) f v)).1.1,.int .i64 (XK st er s (vis (pln L) f v)).1.2])/\True/\HS w (fps [C s]) [C (XK st er s (vis (pln L) f v)).2] w'
theorem QrL(w:World)(S:Type)(I:S->Prop)(C:S->HA)(st:S->Vis->S)(er:S->Vis->Int×Int)(q:Nat)(cv:Array Value)(bt:Nat)(j:Nat)(mo rm:Int)(a:Option Addr)(cap:Nat)(L:List LNd)(s:S)(v:Vis)(pl ph:Option Addr)(P:List Nat)(f:Nat)(hw:HS w (fps [C s]) [C s] w)(hq:QH Tryz.prog q=true)(hfp:∀s1 s2:S,(C s1).fp=(C s2).fp)(hI:∀s2 v2,I s2->I (st s2 v2))(hIs:I s)(hv:∀(s2:S)(v2:Vis)(p2 p3:Option Addr)(w1:World),HS w (fps [C s]) [C s2] w1->I s2->v2.i<L.length->KOk (j:Int) v2.lo->KOk (j:Int) v2.hi->Z4 w1 (fps [C s2]) p2 v2.lo->Z4 w1 (fps [C s2]) p3 v2.hi->Calls Tryz.prog q (#[]++[.int .i64 (v2.i:Int),.int .i64 v2.d,.pointer p2,.pointer p3].toArray++cv) w1 λen w2=>∃g:Unit,en=.returned (.tuple #[.int .i64 (er s2 v2).1,.int .i64 (er s2 v2).2])/\True/\HS w1 (fps [C s2]) [C (st s2 v2)] w2)(ht:TbR w (fps [C s]) bt (j:Int) mo rm a L.length cap)(hs:Nt w (fps [C s]) a L)(hT:TOk (j:Int) (pln L))(hB:Bd (pln L))(hpl:Z4 w (fps [C s]) pl v.lo)(hph:Z4 w (fps [C s]) ph v.hi)(h0:0<L.length)(hway:Gx.Way (pln L) (v.i::P))(hf:P.length+(f+1)=L.length)(hd:v.d=(P.length:Int)+1)(hko:KOk (j:Int) v.lo)(hkp:KOk (j:Int) v.hi)(ih:WkC S I C st er q cv bt j mo rm a cap L f):CE 170 #[.pointer (some ⟨bt,0,none⟩),.int .i64 (v.i:Int),.int .i64 v.d,.pointer pl,.pointer ph,.func (.func q) #[] cv] w (fps [C s]) (λg:Unit=>.tuple #[.int .i64 (XK st er s (vis (pln L) (f+1) v)).1.1,.int .i64 (XK st er s (vis (pln L) (f+1) v)).1.2]) (λg=>True) λg=>[C (XK st er s (vis (pln L) (f+1) v)).2]:=by
 have hi0:=ZK hT (by rw[Qb];exact h0) hway v.i (List.mem_cons_self ..)
 have hi:v.i<L.length:=by rw[Qb]at hi0;exact hi0
 have hn:=Qp hi
 have hle:=hB.len
 rw[Qb]at hle
 have hel:=hB.es v.i hi0
 have hcl:=hB.cs v.i hi0
 rw[hn]at hel hcl
 simp only[LNd.pl]at hel hcl
 have hsh:=hT.shape v.i hi0
 rw[hn]at hsh
 simp only[LNd.pl]at hsh
 refine eW6 Tryz.func170 Tryz.ntmps170 hw ?_
 refine Z5 ?_
 refine o_h (Qdk (Cs:=[C s]) rfl rfl hq rfl aPs (λw1 h1 hf9=>hv s v pl ph w1 (h1.ent aEt) hIs hi hko hkp ((hpl.keep h1).mono (Xf aPs)) ((hph.keep h1).mono (Xf aPs)))) rfl (λ_ _=>YZ ?_)
 refine sCd rfl (λh1=>?_) λh1=>?_
 ·have hz:XK st er s (vis (pln L) (f+1) v)=(er s v,st s v):=by rw[vis,XK,if_neg h1]
  refine aU7 ?_
  exact Qf (rs:=[.tmp 12,.tmp 13]) rfl (.tmp rfl (.tmp rfl (.nil))) (λw' h'=>⟨(),by rw[hz];rfl,trivial,by rw[hz];exact h'.ent aEt⟩)
 have hz0:XK st er s [v]=((0,0),st s v):=by rw[XK,if_pos h1,XK]
 refine aU7 ?_
 refine o_q (Qc rfl rfl Y9 (ht 3 _ rfl)) rfl (aU ?_)
 refine o_p (Qa rfl rfl rfl QE (v.i) om om (Rw.some hs.1 om)) rfl (o_q (Qu _ rfl rfl Y5 rfl (Rw.rd hs.1 hi)) rfl (oAl (λb2 _=>?_) XY))
 refine aU4 ?_
 refine Qg (L':=[(0,_),(2,_),(3,_),(4,_),(5,_),(12,_),(13,_),(16,_)]) aSx (λ_ h=>h) ?_
 refine aU7 ?_
 refine Qt (α:=Nat×S) [12,13,17,18,19,20,21,22,47,48,49,50,51,52,53,54,55,56,57,58,59,60,61,62,63,64,65,66,67,68,69,70,71,72,73,74,75,76,77,78,79,80,81,82,83,84,85,86,87] (λx=>[(47,.int .i64 (x.1:Int))]) (λx=>HS w (fps [C s]) [.blk b2 64 3 (nth L v.i).vals,C x.2]) (λx=>x.1<=(nth L v.i).cs.length/\(XK st er s (Qau (pln L) f v x.1)).1.2=0/\(XK st er s (Qau (pln L) f v x.1)).2=x.2) (λx=>(nth L v.i).cs.length-x.1) (0,st s v) ⟨Nat.zero_le _,by rw[Qjz,hz0],by rw[Qjz,hz0]⟩ aSx (λw h=>h.ent aEt) (λ⟨k,sk⟩hx=>?_)
 dsimp only
 obtain⟨hk1,hk2,hk3⟩:=hx
 simp only[]at hk1 hk2 hk3
 refine aU5 ?_
 refine sCd rfl (λh3=>?_) λh3=>?_
 ·have hkl:k<(nth L v.i).cs.length:=by omega
  have hkid:=QaS hT hi0 (k:=k) (by rw[hn];exact hkl)
  have hwk:=ZD hway hi0 (k:=k) (by rw[hn];exact hkl) om
  have hki:((XT (pln L) v k).i:Int)=(nth L v.i).cs.getD k 0:=by unfold XT;rw[hn]at hkid ⊢;simp only[LNd.pl]at hkid ⊢;rw[Int.toNat_of_nonneg om]
  rw[Qb]at hkid
  refine aU6 ?_
  refine o_p (Qa rfl rfl rfl QB (k) om om (Rw.some (hs.cs hi) om)) rfl (o_q (Qc rfl rfl Xq (((hs.cs hi).rdj 0 (i:=k) hkl rfl))) rfl (aU2 ?_))
  refine Qm (show _=Value.int .i64 ((XT (pln L) v k).i:Int)from by rw[hki];rfl) (Qc0 ?_)
  refine Xe (α:=Option Addr) [19,56,57,58,59,60,61] (λp=>[(19,.pointer p)]) (λ_=>HS w (fps [C s]) [.blk b2 64 3 (nth L v.i).vals,C sk]) (λp=>Z4 w (fps [C s]) p (loK (nth L v.i).es k v.lo)) ?_ ?_
  ·skip
   refine sCd rfl (λh4=>?_) λh4=>?_
   ·refine aT5 ?_
    refine o_p (Qa rfl rfl rfl QL (k-1) om om (Rw.some (hs.es hi) om)) rfl (aU3 ?_)
    exact Qo (some ⟨ab (nth L v.i).ea,ao (nth L v.i).ea+(k-1)*2,none⟩) (by rw[show loK (nth L v.i).es k v.lo=some (nth (nth L v.i).es (k-1)).key from if_pos om];exact⟨_,_,rfl,((hs.es hi).rdj 0 om rfl)⟩) aSx (λw h=>h.ent aEt)
   refine aU ?_
   exact Qo pl (by rw[show loK (nth L v.i).es k v.lo=v.lo from if_neg om];exact hpl) aSx (λw h=>h.ent aEt)
  intro p1 hp1
  refine aU9 ?_
  refine Qg (L':=[(0,_),(2,_),(3,_),(4,_),(5,_),(16,_),(17,_),(18,_),(19,_),(20,_),(44,_),(45,_),(46,_),(47,_),(66,_)]) aSx (λ_ h=>h) ?_
  refine Xe (α:=Option Addr) [20,67,68,69,70,71] (λp=>[(20,.pointer p)]) (λ_=>HS w (fps [C s]) [.blk b2 64 3 (nth L v.i).vals,C sk]) (λp=>Z4 w (fps [C s]) p (hiK (nth L v.i).es k v.hi)) ?_ ?_
  ·skip
   refine sCd rfl (λh5=>?_) λh5=>?_
   ·refine aU4 ?_
    refine o_p (Qa rfl rfl rfl QL (k) om om (Rw.some (hs.es hi) om)) rfl (aU3 ?_)
    exact Qo (some ⟨ab (nth L v.i).ea,ao (nth L v.i).ea+k*2,none⟩) (by rw[show hiK (nth L v.i).es k v.hi=some (nth (nth L v.i).es k).key from if_pos om];exact⟨_,_,rfl,((hs.es hi).rdj 0 om rfl)⟩) aSx (λw h=>h.ent aEt)
   refine aU ?_
   exact Qo ph (by rw[show hiK (nth L v.i).es k v.hi=v.hi from if_neg om];exact hph) aSx (λw h=>h.ent aEt)
  intro p2 hp2
  refine aT6 ?_
  refine aU3 ?_
  refine o_h (QT (Cs:=[C sk]) rfl Qi3 rfl aPs (λw1 h1 hf9=>ih w1 sk (XT (pln L) v k) p1 p2 (v.i::P) hf9 hq hfp hI (hk3▸Qh3 hI _ _ hIs) (λs2 v2 p3 p4 w2 h2 hs2 hi2 ha2 hb2 hp3 hp4=>hv s2 v2 p3 p4 w2 (HS.thenF (h1.ent (Bs:=[C sk]) aEt) h2) hs2 hi2 ha2 hb2 hp3 hp4) ((ht.keep h1).mono (Xf aPs)) ((hs.keep h1).mono (Xf aPs)) hT hB (by unfold XT;rw[hn];exact(hp1.keep h1).mono (Xf aPs)) (by unfold XT;rw[hn];exact(hp2.keep h1).mono (Xf aPs)) h0 hwk (by simp only[List.length_cons];omega) (by show v.d+1=_;simp only[List.length_cons];omega) (QfI hT hi0 (by rw[hn];simp only[LNd.pl];omega) hko) (QeO hT hi0 hkp))) rfl (λ_ _=>YZ ?_)
  refine sCd rfl (λh6=>?_) λh6=>?_
  ·have e9:XK st er s (Qau (pln L) f v k++vis (pln L) f (XT (pln L) v k))=XK st er sk (vis (pln L) f (XT (pln L) v k)):=by rw[Qkh _ _ hk2,hk3]
   have hz:XK st er s (vis (pln L) (f+1) v)=XK st er sk (vis (pln L) f (XT (pln L) v k)):=by rw[Y2,hn];simp only[LNd.pl];obtain⟨B,eB⟩:=QaB (pln L) f v (show k+1<=(nth L v.i).cs.length by omega);rw[eB,X1,Qna _ _ (by rw[e9];exact h6),e9]
   refine aU ?_
   refine Qg (L':=[(0,_),(2,_),(3,_),(4,_),(5,_),(16,_),(21,_),(22,_),(44,_),(45,_),(46,_),(47,_)]) aSx (λ_ h=>h) ?_
   refine aU6 ?_
   exact Qf (rs:=[.tmp 12,.tmp 13]) rfl (.tmp rfl (.tmp rfl (.nil))) (λw' h'=>⟨(),by rw[hz];rfl,trivial,by rw[hz];exact h'.ent aEt⟩)
  have hz:XK st er s (Qau (pln L) f v (k+1))=XK st er sk (vis (pln L) f (XT (pln L) v k)):=by rw[X1,Qkh _ _ hk2,hk3]
  refine aU2 ?_
  refine Qg (L':=[(0,_),(2,_),(3,_),(4,_),(5,_),(16,_),(44,_),(45,_),(46,_),(47,_)]) aSx (λ_ h=>h) ?_
  refine aT2 ?_
  refine aU2 ?_
  exact sBk (k+1,(XK st er sk (vis (pln L) f (XT (pln L) v k))).2) (by(try simp only[]);omega) ⟨by(try simp only[]);omega,by simp only[];rw[hz];exact h6,by simp only[];rw[hz]⟩
 refine Qi rfl ?_
 refine aU5 ?_
 exact Qf (rs:=[.tmp 12,.tmp 13]) rfl (.tmp rfl (.tmp rfl (.nil))) (λw' h'=>⟨(),by have hke:k=(nth L v.i).cs.length:=om;rw[Y2,hn];simp only[LNd.pl];rw[<-hke,Qnf _ _ hk2];rfl,trivial,by have hke:k=(nth L v.i).cs.length:=om;rw[Y2,hn];simp only[LNd.pl];rw[<-hke,hk3];exact h'.ent aEt⟩)
theorem Qja(S:Type)(I:S->Prop)(C:S->HA)(st:S->Vis->S)(er:S->Vis->Int×Int)(q:Nat)(cv:Array Value)(bt:Nat)(j:Nat)(mo rm:Int)(a:Option Addr)(cap:Nat)(L:List LNd):∀f,WkC S I C st er q cv bt j mo rm a cap L f
  | 0=>λw s v pl ph P hw hq hfp hI hIs hv ht hs hT hB hpl hph h0 hway hf hd hko hkp=>by
    have hl:=XW hT (by rw[Qb];exact h0) hway;rw[Qb]at hl;simp only[List.length_cons]at hl;omega
  | f+1=>λw s v pl ph P hw hq hfp hI hIs hv ht hs hT hB hpl hph h0 hway hf hd hko hkp=>QrL w S I C st er q cv bt j mo rm a cap L s v pl ph P f hw hq hfp hI hIs hv ht hs hT hB hpl hph h0 hway hf hd hko hkp (Qja S I C st er q cv bt j mo rm a cap L f)
theorem c171(w:World)(i:Nat)(d:Int)(pl ph:Option Addr)(c4 bb n:Nat)(s:List Bool)(hw:HS w (fps [.blk bb 4 n (s.map Value.bool)]) [.blk bb 4 n (s.map Value.bool)] w)(hc4:Rd w (fps [.blk bb 4 n (s.map Value.bool)]) c4 0 (.slice (some ⟨bb,0,none⟩) n n))(hi:i<n)(hn:s.length=n):CE 171 #[.int .i64 (i:Int),.int .i64 d,.pointer pl,.pointer ph,.pointer (some ⟨c4,0,none⟩)] w (fps [.blk bb 4 n (s.map Value.bool)]) (λg:Unit=>.tuple #[.int .i64 0,.int .i64 0]) (λg=>True) λg=>[.blk bb 4 n ((s.set i true).map Value.bool)]:=by
 refine eW5 Tryz.func171 Tryz.ntmps171 hw ?_
 refine aU7 ?_
 refine o_q (Qc rfl rfl Qnt (hc4)) rfl (aU ?_)
 refine o_p (Qa rfl rfl rfl Qa9 (i) om om rfl) rfl (Qal (Xt rfl rfl rfl Qei rfl aPt (by first|(simp only[List.length_map,List.length_singleton,List.length_cons,List.length_nil];omega)|(simp;omega)) rfl) (λ_ _=>aU6 ?_))
 exact Qf (rs:=[.tmp 9,.tmp 10]) rfl (.tmp rfl (.tmp rfl (.nil))) (λw' h'=>⟨(),rfl,trivial,by have h2:=h';rw[List.map_set];simp only[QA,Nat.zero_add,Nat.mul_one]at h2;exact h2.ent aEt⟩)
end Go.Proofs
