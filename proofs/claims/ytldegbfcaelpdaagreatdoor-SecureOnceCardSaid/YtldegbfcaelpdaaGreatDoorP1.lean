/- Contracts of the program's functions, proved by walking them with the rules of the Gx texts; without conditions beyond those that each contract names. -/
import Derived.WalkKit
import Derived.Deep.Draws
import Derived.TacticsIn
import Derived.OrdersIn
import Derived.RangeFuncLeaves
import Derived.Lib.Strings
import Derived.Laws.BytesArg
import Derived.Laws.IdiomStrings
import Derived.Deep.Quiet
import Derived.Laws.StructEq
import Derived.ChangeKeysEq
import Derived.Laws.Externs
import Derived.Lib.Overlaps
import Derived.Carry
import Derived.Laws.Small
import Derived.Lib.Bytealg
import Derived.Lib.Builder
import Derived.Laws.Pointers
import Derived.RangeFuncRecord
import Derived.Test.YtldegbfcaelpdaaGreatDoorProg
import Derived.KernelRfl
import Derived.ProofKit
import Derived.OpenShut
import Derived.Lib.UnsafeStr
import Derived.LaidEqlPtr
import Derived.Shelf.Strings.Builder1
import Derived.Shelf.Strings.Builder2
import Derived.Shelf.Strings.Trim
import Derived.Shelf.Small.Utf8
import Derived.Shelf.Small.Strs
import Derived.Shelf.Strings.BuilderF
import Derived.Shelf.Strings.BuilderK
import Derived.Shelf.Strings.Builder2Cap
import Derived.Shelf.Strings.Search1
import Derived.Shelf.Strings.Prefix
import Derived.Shelf.Unicode.Decode
import Derived.Shelf.Strings.Runes
import Derived.Shelf.Strings.AsciiSet
import Derived.Shelf.Bits.Mul64
import Derived.Shelf.Strings.Repeat
import Derived.Shelf.Unicode.DecodeSlow
import Derived.Shelf.Unicode.DecodeAny
import Derived.Shelf.Unicode.DecodeLast
import Derived.Shelf.Slices.Turned
import Derived.Shelf.Slices.Reverse
import Derived.Ground.Names2Prog
import Derived.Shelf.Slices.Clone
import Derived.Shelf.Slices.Cells
import Derived.Ground.SlgnProg
import Derived.Shelf.SlicesE.Reverse
import Derived.Shelf.SlicesE.Clone
import Derived.Test.YtldegbfcaelpdaaGreatDoorTie
import Derived.Test.YtldegbfcaelpdaaGreatDoorCards
import Derived.SevenTiedAt
import Derived.LaidMore
import Derived.Lay
import Derived.Stop.Joined
import Derived.Test.YtldegbfcaelpdaaGreatDoorP0
set_option linter.unusedSimpArgs false
set_option maxHeartbeats 1000000
set_option linter.unusedVariables false
set_option linter.unusedSectionVars false
set_option linter.unnecessarySimpa false
namespace Gx
open Go Go.RowKit
structure TOk(co:Int)(ns:List Nd):Prop where
 kid:∀i,i<ns.length->∀c∈(nth ns i).cs,(1<=c/\c<=(ns.length:Int)-1)/\(nth ns c.toNat).us=true
 once:(ns.flatMap Nd.cs).Nodup
 shape:∀i,i<ns.length->(nth ns i).cs.length=0\/(nth ns i).cs.length=(nth ns i).es.length+1
 free:∀i,i<ns.length->(nth ns i).us=false->(0<i/\i+1<ns.length)/\(nth ns i).es=[]/\(nth ns i).cs=[]
 asc:∀i,i<ns.length->Asc co (nth ns i).es
 ents:∀i,i<ns.length->∀x∈(nth ns i).es,Yu co x=0
theorem Qio{ns:List Nd}:∀{cs seen:List Int},(YK ns cs seen).1=0->(∀c∈cs,(1<=c/\c<=(ns.length:Int)-1)/\(nth ns c.toNat).us=true)/\(YK ns cs seen).2=cs.reverse++seen/\(seen.Nodup->(cs.reverse++seen).Nodup)
 | [],seen,_=>⟨λc hc=>(nomatch hc),rfl,λh=>h⟩
 | c::cs,seen,h=>by
  unfold YK at h ⊢;split at h
  ·rename_i h1;split at h
   ·cases h
   ·rename_i h2;rw[if_pos h1,if_neg h2];obtain⟨h3,h4,h5⟩:=Qio h
    grind
  ·cases h
theorem Qjt{t:Tre}{i:Nat}{seen:List Int}(h:(Zi t i seen).1=0) :
  ((nth t.ns i).us=true->(∀c∈(nth t.ns i).cs,(1<=c/\c<=(t.ns.length:Int)-1)/\(nth t.ns c.toNat).us=true)/\((nth t.ns i).es.length:Int)<=Qap t.mo t.rm i/\((nth t.ns i).cs.length=0\/(nth t.ns i).cs.length=(nth t.ns i).es.length+1)/\Qcc t.co (nth t.ns i).es=0/\Qc4 t.co (nth t.ns i).es=0) /\
  ((nth t.ns i).us=false->(0<i/\i+1<t.ns.length)/\(nth t.ns i).es=[]/\(nth t.ns i).cs=[]) /\
  (Zi t i seen).2=(nth t.ns i).cs.reverse++seen/\(seen.Nodup->((nth t.ns i).cs.reverse++seen).Nodup):=by
 unfold Zi at h ⊢;simp only[]at h ⊢;split at h
 ·rename_i hu;split at h
  ·rename_i h1;split at h
   ·rename_i h2;split at h
    ·rename_i h3;split at h
     ·rename_i h4;obtain⟨k1,k2,k3⟩:=Qio h4;rw[if_pos hu,if_pos h1,if_pos h2,if_pos h3,if_pos h4];exact⟨λ_=>⟨k1,h1,h2,h3,h⟩,λhf=>absurd (hu.symm.trans hf) (by decide),k2,k3⟩
     ·rename_i h4;exact absurd h h4
    ·rename_i h3;exact absurd h h3
   ·cases h
  ·cases h
 ·rename_i hu;split at h
  ·rename_i h1;obtain⟨h2,h3⟩:=h1;have e1:(nth t.ns i).es=[]:=List.eq_nil_of_length_eq_zero om;have e2:(nth t.ns i).cs=[]:=List.eq_nil_of_length_eq_zero om;rw[if_neg hu,if_pos ⟨h2,h3⟩,e2];exact⟨λh9=>absurd h9 hu,λ_=>⟨h2,e1,rfl⟩,rfl,λh9=>h9⟩
  ·cases h
theorem QhO{t:Tre}:∀{f i:Nat}{seen:List Int},i+f=t.ns.length->(Yw t f i seen).2=0->seen.Nodup->(∀j,i<=j->j<t.ns.length->∃s,(Zi t j s).1=0)/\((seen.reverse++(t.ns.drop i).flatMap Nd.cs)).Nodup
 | 0,i,seen,hi,h,hs=>by grind
 | f+1,i,seen,hi,h,hs=>by
  unfold Yw at h;split at h
  ·rename_i h1;obtain⟨h2,h3,h4,h5⟩:=Qjt h1;obtain⟨h6,h7⟩:=QhO (f:=f) (i:=i+1) om h (by rw[h4];exact h5 hs);refine⟨λj hj1 hj2=>?_,?_⟩
   ·grind
   ·rw[h4,List.reverse_append,List.reverse_reverse,List.append_assoc]at h7;rw[List.drop_eq_getElem_cons (show i<t.ns.length by omega),List.flatMap_cons];have e:t.ns[i]=nth t.ns i:=(QH (List.getElem?_eq_getElem om)).symm;rw[e];exact h7
  grind
theorem Qjx{co:Int}{es:List TEnt}(h:Qcc co es=0):∀x∈es,Yu co x=0:=λx hx=>Y5.1 h _ (List.mem_map.2 ⟨x,hx,rfl⟩)
theorem Qcp{t:Tre}(h:(Yw t t.ns.length 0 []).2=0):TOk t.co t.ns:=by
 obtain⟨h1,h2⟩:=QhO (f:=t.ns.length) (i:=0) om h List.nodup_nil;have key:=λi(hi:i<t.ns.length)=>Qjt (h1 i (Nat.zero_le _) hi).choose_spec;have hF:∀i,i<t.ns.length->(nth t.ns i).us=false->(0<i/\i+1<t.ns.length)/\(nth t.ns i).es=[]/\(nth t.ns i).cs=[]:=λi hi=>(key i hi).2.1;refine⟨λi hi c hc=>?_,by simpa using h2,λi hi=>?_,hF,λi hi=>?_,λi hi x hx=>?_⟩
 ·grind
 ·grind
 ·cases e:(nth t.ns i).us with
  | true=>exact Qm1 ((key i hi).1 e).2.2.2.2
  | false=>
   rw[(hF i hi e).2.1];intro k hk
   grind
 grind[nth,Qjx,hi]
theorem Qf3{α:Type}:∀{A B:List α}{x:α},(A++B).Nodup->x∈A->x∈B->False:=λh h1 h2=>(List.nodup_append.1 h).2.2 _ h1 _ h2 rfl
theorem QdP{α β:Type}[Inhabited α]{f:α->List β}:∀{l:List α},(l.flatMap f).Nodup->∀{i j:Nat}{c:β},i<l.length->j<l.length->c∈f (nth l i)->c∈f (nth l j)->i=j
 | [],_,i,j,c,hi,_,_,_=>absurd hi (Nat.not_lt_zero _)
 | x::l,h,i,j,c,hi,hj,h1,h2=>by
  rw[List.flatMap_cons]at h;have hm:∀k,k<l.length->c∈f (nth l k)->c∈l.flatMap f:=λk hk hc=>List.mem_flatMap.2 ⟨_,QX hk,hc⟩;cases i with
  | zero=>
   cases j with
   | zero=>rfl
   | succ j=>exact(Qf3 h h1 (hm j (by simpa using hj) h2)).elim
  | succ i=>
   cases j with
   | zero=>exact(Qf3 h h2 (hm i (by simpa using hi) h1)).elim
   | succ j=>rw[QdP (List.nodup_append.1 h).2.1 (by simpa using hi) (by simpa using hj) h1 h2]
def Way(ns:List Nd):List Nat->Prop
 | []=>False
 | [r]=>r=0
 | c::p::P=>((c:Int)∈(nth ns p).cs/\p<ns.length)/\Way ns (p::P)
theorem Qcx{co:Int}{ns:List Nd}(ht:TOk co ns)(h0:0<ns.length):∀{P:List Nat},Way ns P->∀x∈P,x<ns.length
 | [],h,_,_=>h.elim
 | [r],h,x,hx=>by
  rw[List.mem_singleton.1 hx,show r=0 from h];exact h0
 | c::p::P,h,x,hx=>by
  rcases List.mem_cons.1 hx with rfl|hx
  ·have:=(ht.kid p h.1.2 _ h.1.1).1;omega
  ·exact Qcx ht h0 h.2 x hx
theorem QjI{ns:List Nd}:∀{P:List Nat},Way ns P->∀j,j+1<P.length->((nth P j:Nat):Int)∈(nth ns (nth P (j+1))).cs/\nth P (j+1)<ns.length
 | [],h,_,_=>h.elim
 | [r],h,j,hj=>absurd hj (by simp)
 | c::p::P,h,0,hj=>h.1
 | c::p::P,h,j+1,hj=>QjI h.2 j (by simpa using hj)
theorem Qh0{ns:List Nd}:∀{P:List Nat},Way ns P->nth P (P.length-1)=0
 | [],h=>h.elim
 | [r],h=>h
 | c::p::P,h=>by
  have h1:=Qh0 h.2
  grind[nth]
theorem Qgi{co:Int}{ns:List Nd}(ht:TOk co ns):∀{P:List Nat},Way ns P->P.Nodup
 | [],h=>h.elim
 | [r],h=>by simp
 | c::p::P,h=>by
  have h1:=Qgi ht h.2;refine List.nodup_cons.2 ⟨λhc=>?_,h1⟩;obtain⟨j,hj,e⟩:=List.getElem_of_mem hc;have e2:nth (p::P) j=c:=QH (by rw[List.getElem?_eq_getElem hj,e]);have hk:=ht.kid p h.1.2 _ h.1.1;rcases Nat.lt_or_ge (j+1) (p::P).length with h2|h2
  ·have h3:=QjI h.2 j h2;rw[e2]at h3;have h4:=QdP ht.once h.1.2 h3.2 h.1.1 h3.1
   have h5:(p::P)[0]?=(p::P)[j+1]?:=by
    rw[QB h2,<-h4];rfl
   have:=(List.getElem?_inj (by simp) h1).1 h5;omega
  ·have h3:=Qh0 h.2
   grind
theorem Qex:∀(n:Nat)(l:List Nat),l.Nodup->(∀x∈l,x<n)->l.length<=n
 | 0,l,_,h=>by
  cases l with
  | nil=>exact Nat.le_refl _
  | cons x l=>exact absurd (h x (List.mem_cons_self ..)) (Nat.not_lt_zero _)
 | n+1,l,hd,h=>by
  have h1:=Qex n (l.erase n) (hd.erase n) (λx hx=>by
   have h2:=(hd.mem_erase_iff).1 hx;have:=h x h2.2;omega)
  have h2:=List.length_erase_le (a:=n) (l:=l);rw[List.length_erase]at h1;split at h1<;>omega
theorem QbD{co:Int}{ns:List Nd}(ht:TOk co ns)(h0:0<ns.length){P:List Nat}(h:Way ns P):P.length<=ns.length:=Qex _ _ (Qgi ht h) (Qcx ht h0 h)
end Gx
namespace Gx
open Go Go.RowKit
theorem Qit:∀a b,Lib.compareBytes a b=X7 a b
 | [],[]=>rfl
 | [],_::_=>rfl
 | _::_,[]=>rfl
 | a::x,b::y=>by
  unfold Lib.compareBytes X7;rw[Qit x y]
section
variable{P:Program}{o:Oper}{L:Qe}
def isCS(P:Program)(f:FuncId):Prop:=∃fn,P.funcs[f]?=some fn/\(fn.name== "runtime.NumGoroutine")=false/\fn.body.isNone=true/\Extern.findNext fn=none/\Extern.find fn=some Extern.BytealgCompare.compare
theorem Qh6{f:FuncId}{x y:Operand}{a b:List UInt8}{at':Array TypeId}{C:World->Prop}(ho:o.op=.call {callee:=.value (.func f),args:=#[x,y],argTypes:=at'})(hx:ev L x=some (.string (bs a)))(hy:ev L y=some (.string (bs b)))(hf:isCS P f):OpQ P o L C (.int .i64 (X7 a b)):=by
 intro ρ w hρ hw;obtain⟨fn,h1,h2,h3,h4,h5⟩:=hf;have hcall:=run_callFunc_extern h1 h2 h3 h4 h5 #[.string (bs a),.string (bs b)] w;rw[Lib.run_compareString,bs_data,bs_data,Qit]at hcall
 have:(execOp ρ o).run P w=.ok (.value (.int .i64 (X7 a b))) w:=by
  unfold execOp;simp only[ho,resolve,Sem.run_bind,hρ (.func f) _ rfl,Deferred.ofValue,Sem.run_pure,Result.andThen_ok,invoke,List.map_toArray,List.map_cons,List.map_nil,hρ _ _ hx,hρ _ _ hy,Array.empty_append,Array.append_empty,hcall]
 rw[this];exact⟨rfl,Below.refl _ _⟩
end
end Gx
namespace Gx
open Go Go.RowKit
theorem HS.own_at{w0 w:World}{M:List Nat}{As As':List HA}{g n n' cap t sz:Nat}{xs:List Value}(h:HS w0 M As w)(hp:Qv As (.own (.slice (some ⟨g,0,none⟩) n' cap) t sz n xs) As'):HS w0 M (.blk g t (cap*sz) xs::As') w:=by
 have h1:=h.pick hp;refine h1.turn (λb hb=>by simpa[HA.fp_own,HA.fp_blk,Value.ownBlock]using hb) λho=>?_;obtain⟨_,⟨e,_⟩|⟨g',cap',e,_,_,hb⟩⟩:=ho
 ·grind
 ·injection e with e1 e2 e3
  injection e1 with e1
  injection e1 with e1
  subst e1 e3;exact hb
end Gx
namespace Gx
open Go Go.RowKit
section
variable{S:Type}(st:S->Vis->S)(er:S->Vis->Int×Int)
def Xy:S->List Vis->(Int×Int)×S
 | s,[]=>((0,0),s)
 | s,v::vs=>if(er s v).2=0 then Xy (st s v) vs else(er s v,st s v)
theorem Qbl:∀(A B:List Vis)(s:S),Xy st er s (A++B)=if(Xy st er s A).1.2=0 then Xy st er (Xy st er s A).2 B else Xy st er s A
 | [],B,s=>rfl
 | v::A,B,s=>by
  rw[List.cons_append,Xy,Xy]
  by_cases h:(er s v).2=0
  ·simp_all[Qbl]
  grind
theorem Qns{A B:List Vis}{s:S}(h:¬(Xy st er s A).1.2=0):Xy st er s (A++B)=Xy st er s A:=by rw[Qbl,if_neg h]
theorem Qkn{A B:List Vis}{s:S}(h:(Xy st er s A).1.2=0):Xy st er s (A++B)=Xy st er (Xy st er s A).2 B:=by rw[Qbl,if_pos h]
theorem Qm0:∀{A:List Vis}{s:S},(Xy st er s A).1.2=0->(Xy st er s A).1=(0,0)
 | [],s,_=>rfl
 | v::A,s,h=>by
  rw[Xy]at h ⊢;split at h
  ·simp_all[Qm0]
  grind
end
def Qa0(ns:List Nd)(v:Vis)(k:Nat):Vis:=⟨((nth ns v.i).cs.getD k 0).toNat,v.d+1,loK (nth ns v.i).es k v.lo,hiK (nth ns v.i).es k v.hi⟩
def QfC(ns:List Nd)(f:Nat)(v:Vis)(k:Nat):List Vis:=v::(List.range k).flatMap λk=>vis ns f (Qa0 ns v k)
theorem QlL(ns:List Nd)(f:Nat)(v:Vis):QfC ns f v 0=[v]:=rfl
theorem Qdy(ns:List Nd)(f:Nat)(v:Vis)(k:Nat):QfC ns f v (k+1)=QfC ns f v k++vis ns f (Qa0 ns v k):=by
 unfold QfC;rw[List.range_succ,List.flatMap_append,List.flatMap_singleton];rfl
theorem Qfm(ns:List Nd)(f:Nat)(v:Vis):vis ns (f+1) v=QfC ns f v (nth ns v.i).cs.length:=rfl
theorem Qk8(ns:List Nd)(f:Nat)(v:Vis){k m:Nat}(h:k<=m):∃B,QfC ns f v m=QfC ns f v k++B:=by
 induction m with
 | zero=>simp_all
 | succ m ih=>
  rcases Nat.lt_or_ge m k with h1|h1
  ·obtain rfl:k=m+1:=by omega
   simp_all
  grind[vis,Qa0,Qdy]
theorem Qec{ns:List Nd}{i:Nat}{P:List Nat}(h:Way ns (i::P))(hi:i<ns.length){k:Nat}(hk:k<(nth ns i).cs.length)(hc:0<=(nth ns i).cs.getD k 0):Way ns (((nth ns i).cs.getD k 0).toNat::i::P):=by
 refine⟨⟨?_,hi⟩,h⟩
 grind
theorem Qhb{co:Int}{ns:List Nd}(ht:TOk co ns){i k:Nat}(hi:i<ns.length)(hk:k<(nth ns i).cs.length):1<=(nth ns i).cs.getD k 0/\(nth ns i).cs.getD k 0<=(ns.length:Int)-1/\(nth ns ((nth ns i).cs.getD k 0).toNat).us=true:=by
 have hm:(nth ns i).cs.getD k 0∈(nth ns i).cs:=by grind
 have h:=ht.kid i hi _ hm
 grind
def ZM(co:Int)(ns:List Nd)(key:List UInt8):Nat->Nat->List Nat×Nat×Bool
 | 0,_=>([],0,false)
 | f+1,i=>if fnd co (nth ns i).es key=true\/(nth ns i).cs.length=0 then([i],plc co (nth ns i).es key,fnd co (nth ns i).es key)
   else(i::(ZM co ns key f ((nth ns i).cs.getD (plc co (nth ns i).es key) 0).toNat).1,(ZM co ns key f ((nth ns i).cs.getD (plc co (nth ns i).es key) 0).toNat).2)
def Qr(co:Int)(ns:List Nd)(key:List UInt8):List Nat×Nat×Bool:=ZM co ns key ns.length 0
structure Bd(ns:List Nd):Prop where
 len:ns.length<=1000
 es:∀i,i<ns.length->(nth ns i).es.length<=1000
 cs:∀i,i<ns.length->(nth ns i).cs.length<=1000
theorem Qg(L:List LNd):(pln L).length=L.length:=by simp
theorem Qz{L:List LNd}{i:Nat}(h:i<L.length):nth (pln L) i=(nth L i).pl:=by simp_all[QH,QB]
theorem Qd2(L:List LNd)(i:Nat)(n:LNd):pln (L.set i n)=(pln L).set i n.pl:=by simp[List.map_set]
theorem Qjl(L M:List LNd):pln (L++M)=pln L++pln M:=by simp
def ZY(w:World)(M:List Nat)(p:Option Addr)(o:Option (List UInt8)):Prop:=match o with
 | none=>p=none
 | some k=>∃b off,p=some ⟨b,off,none⟩/\Rd w M b off (.string (bs k))
theorem ZY.keep{w w':World}{M:List Nat}{As:List HA}{p:Option Addr}{o:Option (List UInt8)}(h:ZY w M p o)(hs:HS w M As w'):ZY w' (fps As) p o:=by
 cases o with
 | none=>exact h
 | some k=>
  obtain⟨b,off,e,hr⟩:=h;exact⟨b,off,e,hs.keep hr⟩
theorem ZY.mono{w:World}{M M':List Nat}{p:Option Addr}{o:Option (List UInt8)}(h:ZY w M p o)(hM:∀b∈M',b∈M):ZY w M' p o:=by
 cases o with
 | none=>exact h
 | some k=>
  obtain⟨b,off,e,hr⟩:=h;exact⟨b,off,e,hr.mono hM⟩
theorem ZY.of_some{w:World}{M:List Nat}{p:Option Addr}{o:Option (List UInt8)}(h:ZY w M p o)(hp:p.isSome=true):∃k b off,o=some k/\p=some ⟨b,off,none⟩/\Rd w M b off (.string (bs k)):=by
 cases o with
 | none=>
  have:p=none:=h
  grind
 | some k=>
  obtain⟨b,off,e,hr⟩:=h
  grind
theorem ZY.of_none{w:World}{M:List Nat}{p:Option Addr}{o:Option (List UInt8)}(h:ZY w M p o)(hp:p.isSome=false):o=none:=by
 cases o with
 | none=>rfl
 | some k=>
  obtain⟨b,off,e,hr⟩:=h;subst e;cases hp
theorem Q1{As Cs Ds:List HA}(h:Zo As Cs Ds):∀b∈fps Cs,b∈fps As:=λb hb=>by
 obtain⟨A,hA,hb⟩:=List.mem_flatMap.1 hb;exact List.mem_flatMap.2 ⟨A,(List.Perm.mem_iff h).2 (List.mem_append_left _ hA),hb⟩
theorem HS.rd_blkF{w0 w:World}{M:List Nat}{As Cs Ds Es:List HA}{b i t tot:Nat}{cs:List Value}{v:Value}(h:HS w0 M As w)(hp:Zo As Cs Ds)(hp2:Qv Ds (.blk b t tot cs) Es)(hv:cs[i]?=some v):Rd w (fps Cs) b i v:=by
 have h1:HS w0 M (Cs++Ds) w:=h.perm hp;refine⟨(h1.ok _ (List.mem_append_right _ hp2.mem)|>Xc.lt),λhb=>?_,Xc.cell (h1.ok _ (List.mem_append_right _ hp2.mem)) hv⟩;obtain⟨A,hA,hb⟩:=List.mem_flatMap.1 hb;exact(List.pairwise_append.1 h1.sep).2.2 A hA _ hp2.mem b hb (List.mem_singleton.2 rfl)
section
variable(t:Tre)(i:Nat)
def nE1:Int:=if((nth t.ns i).es.length:Int)<=Qap t.mo t.rm i then if(nth t.ns i).cs.length=0\/(nth t.ns i).cs.length=(nth t.ns i).es.length+1 then 0 else 10 else 16
def nE2:Int:=if nE1 t i=0 then Qcc t.co (nth t.ns i).es else nE1 t i
def nE3(seen:List Int):Int×List Int:=if nE2 t i=0 then YK t.ns (nth t.ns i).cs seen else(nE2 t i,seen)
def nE4(seen:List Int):Int:=if(nE3 t i seen).1=0 then Qc4 t.co (nth t.ns i).es else(nE3 t i seen).1
theorem Qlb{seen:List Int}(h:(nth t.ns i).us=true):Zi t i seen=(nE4 t i seen,(nE3 t i seen).2):=by
 unfold Zi nE4 nE3 nE2 nE1
 grind
theorem Qrx(h:nE2 t i=0):Qcc t.co (nth t.ns i).es=0:=by grind[nE2]
theorem QrD{seen:List Int}(h:(nE3 t i seen).1=0):nE2 t i=0:=by grind[nE3]
end
def QdT(ns:List Nd)(c:Int):Prop:=(1<=c/\c<=(ns.length:Int)-1)/\(nth ns c.toNat).us=true
instance(ns:List Nd)(c:Int):Decidable (QdT ns c):=inferInstanceAs (Decidable (_/\_))
def Qf6(ns:List Nd)(c:Int)(seen:List Int):Int:=if QdT ns c then if c∈seen then 23 else 0 else 6
def QfF(ns:List Nd)(c:Int)(seen:List Int):List Int:=if QdT ns c then c::seen else seen
theorem QcB(ns:List Nd)(c:Int)(cs seen:List Int):YK ns (c::cs) seen=if Qf6 ns c seen=0 then YK ns cs (QfF ns c seen)else(Qf6 ns c seen,QfF ns c seen):=by grind[Qf6,QfF,YK,QdT,nth]
theorem Qdr{cs:List Int}{k:Nat}(h:k<cs.length):cs.drop k=cs.getD k 0::cs.drop (k+1):=by simp_all
theorem Qmj{co:Int}{es:List TEnt}{k:Nat}(h:k<es.length):(es.map (Yu co)).getD k 0=Yu co (nth es k):=by
 rw[Yy (d:=default) h];rfl
theorem Ql2{co:Int}{es:List TEnt}{k:Nat}(h:k<es.length):((List.range es.length).map (Qff co es)).getD k 0=Qff co es k:=by grind
theorem QcZ{co:Int}{x:TEnt}(h:Yu co x=0):Q3 co x.key=true:=by grind[Yu,ZA]
theorem Qdj{co:Int}{k:List UInt8}(h:Q3 co k=true):1<=k.length/\k.length<=40:=by grind[Q3]
theorem HS.thenF{w w1 w2:World}{M:List Nat}{As Bs:List HA}(h:HS w M As w1)(hc:HS w1 (fps As) Bs w2):HS w M Bs w2:=by
 have h1:HS w M (As++[]) w1:=by rw[List.append_nil];exact h
 have h2:=h1.callM (Mc:=fps As) (λb hb=>by obtain⟨A,hA,hb⟩:=List.mem_flatMap.1 hb;exact⟨A,hA,hb⟩) hc
 grind
def Y7(cs:List Int)(n:Int):List Bool:=cs.map λc=>decide (n=c)
theorem YS(cs:List Int)(n:Int):(Y7 cs n).length=cs.length:=by simp[Y7]
theorem Qfo{cs:List Int}{n:Int}{k:Nat}(h:k<cs.length):(Y7 cs n).getD k false=decide (n=cs.getD k 0):=by grind[Y7,Yy]
theorem Qnq(cs:List Int)(n:Int):(Y7 cs n).any id=decide (n∈cs):=by
 unfold Y7;rw[List.any_map]
 grind
def Qcn(t:Tre)(v:Vis):Bool:=decide (0<v.i)&&(decide (((nth t.ns v.i).es.length:Int)<t.mo/2)||((decide ((nth t.ns 0).es.length=0)&&decide ((v.i:Int)∈(nth t.ns 0).cs))&&decide (((nth t.ns v.i).es.length:Int)<=t.rm)))
def QdW(t:Tre)(v:Vis)(x:TEnt):Bool:=(v.lo.any λb=>decide (0<=QS t.co b x.key))||(v.hi.any λb=>decide (0<=QS t.co x.key b))
def QaT(t:Tre)(v:Vis):Bool:=(nth t.ns v.i).es.any (QdW t v)
def erV(t:Tre)(s:Int)(v:Vis):Int×Int:=((v.i:Int),if Qcn t v=true then 14 else if QaT t v=true then 9 else if(nth t.ns v.i).cs.length=0 then(if(if s=0 then v.d else s)=v.d then 0 else 22)else 0)
def stV(t:Tre)(s:Int)(v:Vis):Int:=if Qcn t v=true then s else if QaT t v=true then s else if(nth t.ns v.i).cs.length=0 then(if s=0 then v.d else s)else s
theorem QgS(t:Tre)(deep:Int)(v:Vis):Qli t deep v=if Qcn t v=true then 14 else if QaT t v=true then 9 else if(nth t.ns v.i).cs.length=0/\v.d≠deep+1 then 22 else 0:=by
 unfold Qli;simp only[];have h:Qcn t v=true ↔ (0<v.i/\(((nth t.ns v.i).es.length:Int)<t.mo/2\/((nth t.ns 0).es.length=0/\(v.i:Int)∈(nth t.ns 0).cs)/\((nth t.ns v.i).es.length:Int)<=t.rm)):=by grind[Qcn]
 by_cases h1:Qcn t v=true
 ·grind
 ·rw[if_neg (λh2=>h1 (h.2 h2)),if_neg h1];rfl
theorem Qga(t:Tre):∀(vs:List Vis)(s:Int),s≠0->(Xy (stV t) (erV t) s vs).1=Qc7 t (s-1) vs
 | [],s,_=>rfl
 | v::vs,s,hs=>by
  have he:(erV t s v).2=Qli t (s-1) v:=by grind[QgS,erV,Qcn,QaT,nth]
  have hst:stV t s v=s:=by grind[stV]
  rw[Xy,Qc7,he,hst];split
  ·exact Qga t vs s hs
  grind[erV]
theorem Qgx{t:Tre}(hT:TOk t.co t.ns)(h0:0<t.ns.length)(deep:Int):∀(f:Nat)(v:Vis)(P:List Nat)(rest:List Vis),Gx.Way t.ns (v.i::P)->P.length+f=t.ns.length->1<=v.d->deep+1=v.d+ZF t.ns f v.i->(Xy (stV t) (erV t) 0 (vis t.ns f v++rest)).1=Qc7 t deep (vis t.ns f v++rest)
 | 0,v,P,rest,hw,hf,_,_=>by
  have:=QbD hT h0 hw
  grind
 | f+1,v,P,rest,hw,hf,hd,he=>by
  have hi:=Qcx hT h0 hw v.i (List.mem_cons_self ..);rw[ZF]at he;rw[vis,List.cons_append,Xy,Qc7,QgS]
  by_cases h1:Qcn t v=true
  ·grind[erV]
  ·rw[if_neg h1]
   by_cases h2:QaT t v=true
   ·grind[erV]
   ·rw[if_neg h2]
    by_cases h3:(nth t.ns v.i).cs.length=0
    ·grind[erV,stV,nth,Qga]
    ·rw[if_neg h3]at he;have e1:(erV t 0 v).2=0:=by unfold erV;simp only[if_neg h1,if_neg h2,if_neg h3]
     have e2:stV t 0 v=0:=by unfold stV;rw[if_neg h1,if_neg h2,if_neg h3]
     have hk:=Qhb hT hi (k:=0) om;have e3:(if(nth t.ns v.i).cs.length=0/\v.d≠deep+1 then(22:Int)else 0)=0:=if_neg (λh5=>h3 h5.1);rw[e1,if_pos rfl,e2,e3,if_pos rfl];obtain⟨m,hm⟩:∃m,(nth t.ns v.i).cs.length=m+1:=⟨(nth t.ns v.i).cs.length-1,om⟩;rw[hm,List.range_succ_eq_map,List.flatMap_cons,List.append_assoc];refine Qgx hT h0 deep f _ (v.i::P) _ (Qec hw hi om om) (by simp only[List.length_cons];omega) (by show 1<=v.d+1;omega) ?_
     grind
theorem run_shape{t:Tre}(hT:TOk t.co t.ns)(h0:0<t.ns.length):(Xy (stV t) (erV t) 0 (ZN t.ns)).1=Qc7 t (ZF t.ns t.ns.length 0) (ZN t.ns):=by
 have h:=Qgx hT h0 (ZF t.ns t.ns.length 0) t.ns.length Qa7 [] [] rfl (by simp) (by decide) (by show _=1+_;rw[show Qa7.i=0 from rfl];omega);rw[List.append_nil]at h;exact h
def QfR(s:List Bool)(v:Vis):List Bool:=s.set v.i true
theorem Qjw:∀(vs:List Vis)(s:List Bool),(Xy QfR (λ_ _=>(0,0)) s vs).1=(0,0)/\(Xy QfR (λ_ _=>(0,0)) s vs).2.length=s.length/\∀i,i<s.length->(Xy QfR (λ_ _=>(0,0)) s vs).2.getD i false=(s.getD i false||decide (i∈vs.map Vis.i))
 | [],s=>⟨rfl,rfl,λi _=>by simp[Xy]⟩
 | v::vs,s=>by
  obtain⟨h1,h2,h3⟩:=Qjw vs (QfR s v)
  grind[Xy,QfR,hi]
theorem QhX{S:Type}{st:S->Vis->S}{er:S->Vis->Int×Int}{I:S->Prop}(hI:∀s v,I s->I (st s v)):∀(vs:List Vis)(s:S),I s->I (Xy st er s vs).2
 | [],s,h=>h
 | v::vs,s,h=>by
  rw[Xy];split
  ·simp_all[QhX]
  ·exact hI _ _ h
def KOk(co:Int)(o:Option (List UInt8)):Prop:=∀k,o=some k->Q3 co k=true/\k.length<=1000000
theorem Qes{co:Int}{ns:List Nd}(hT:TOk co ns){i:Nat}(hi:i<ns.length):∀x∈(nth ns i).es,Q3 co x.key=true/\x.key.length<=1000000:=λx hx=>by
 have h:=QcZ (hT.ents i hi x hx)
 grind[Qdj]
theorem Qqg{co:Int}{ns:List Nd}(hT:TOk co ns){v:Vis}(hi:v.i<ns.length){k:Nat}(hk:k<=(nth ns v.i).es.length)(h:KOk co v.lo):KOk co (Qa0 ns v k).lo:=by
 intro x hx;unfold Qa0 loK at hx;simp only[]at hx;split at hx
 ·grind[Qes,hi,QX]
 ·exact h x hx
theorem QpV{co:Int}{ns:List Nd}(hT:TOk co ns){v:Vis}(hi:v.i<ns.length){k:Nat}(h:KOk co v.hi):KOk co (Qa0 ns v k).hi:=by
 intro x hx;unfold Qa0 hiK at hx;simp only[]at hx;split at hx
 ·grind[Qes,hi,QX]
 ·exact h x hx
def Qbc(t:Tre):Int×Int:=match Qb7 t.ns ((ZN t.ns).map Vis.i) t.ns.length 0 with
 | some i=>((i:Int),21)
 | none=>Qc7 t (ZF t.ns t.ns.length 0) (ZN t.ns)
theorem QnU{t:Tre}{deep:Int}:∀{vs:List Vis},(Qc7 t deep vs).2=0->Qc7 t deep vs=(0,0)
 | [],_=>rfl
 | v::vs,h=>by
  rw[Qc7]at h ⊢;split at h
  ·simp_all[QnU]
  grind
theorem Qkj{t:Tre}(h:(Qbc t).2=0):(Qbc t).1=0:=by grind[Qbc,QnU]
def Qam(n:Nat):Int:=if 0<n then if n<=120 then 0 else 8 else 10
theorem Qgh{t:Tre}(h:¬(if Xb t.co=0 then Zs t.mo t.rm else Xb t.co)=0):Q0 t=(0,if Xb t.co=0 then Zs t.mo t.rm else Xb t.co):=by grind[Q0,Xb,Zs]
theorem Qhc{t:Tre}(h:(if Xb t.co=0 then Zs t.mo t.rm else Xb t.co)=0):Xb t.co=0/\Zs t.mo t.rm=0:=by grind
theorem Qbu{mo rm:Int}(h:Zs mo rm=0):(3<=mo/\mo<=8)/\(mo/2<=rm/\rm<=mo):=by grind[Zs]
theorem Qim{t:Tre}(h:(if Xb t.co=0 then Zs t.mo t.rm else Xb t.co)=0)(h2:¬Qam t.ns.length=0):Q0 t=(0,Qam t.ns.length):=by grind[Qhc,Q0,Qam]
theorem QiD{n:Nat}(h:Qam n=0):0<n/\n<=120:=by grind[Qam]
theorem QfX{t:Tre}(h:(if Xb t.co=0 then Zs t.mo t.rm else Xb t.co)=0)(h2:Qam t.ns.length=0):Q0 t=if(Yw t t.ns.length 0 []).2=0 then Qbc t else Yw t t.ns.length 0 []:=by
 obtain⟨h3,h4⟩:=Qhc h;obtain⟨h5,h6⟩:=QiD h2;unfold Q0;rw[if_pos h3,if_pos h4,if_pos h5,if_pos h6];rfl
theorem Qcy{t:Tre}(h:(Q0 t).2=0):Xb t.co=0/\Zs t.mo t.rm=0/\0<t.ns.length/\t.ns.length<=120/\(Yw t t.ns.length 0 []).2=0/\(Qbc t).2=0/\Q0 t=(0,0):=by
 by_cases h1:(if Xb t.co=0 then Zs t.mo t.rm else Xb t.co)=0
 ·grind[Qam,QfX,Qhc,QiD,Qkj,Qim]
 grind[Qgh]
theorem Qlx{l:List Bool}{k:Nat}(h:k<l.length):(l.map Value.bool)[k]?=some (.bool (l.getD k false)):=by grind
theorem Qi2{t:Tre}{k:Nat}{seen:List Int}(h:k<t.ns.length):Yw t (t.ns.length-k) k seen=if(Zi t k seen).1=0 then Yw t (t.ns.length-(k+1)) (k+1) (Zi t k seen).2 else((k:Int),(Zi t k seen).1):=by
 rw[show t.ns.length-k=t.ns.length-(k+1)+1 by omega,Yw]
theorem Qk2{ns:List Nd}{below:List Nat}{k:Nat}(h:k<ns.length):Qb7 ns below (ns.length-k) k=if(nth ns k).us=true/\k ∉ below then some k else Qb7 ns below (ns.length-(k+1)) (k+1):=by
 rw[show ns.length-k=ns.length-(k+1)+1 by omega,Qb7]
theorem QiA{t:Tre}{i:Nat}(h:Qb7 t.ns ((ZN t.ns).map Vis.i) t.ns.length 0=some i):Qbc t=((i:Int),21):=by
 unfold Qbc;rw[h]
theorem Qi3{t:Tre}(h:Qb7 t.ns ((ZN t.ns).map Vis.i) t.ns.length 0=none):Qbc t=Qc7 t (ZF t.ns t.ns.length 0) (ZN t.ns):=by
 unfold Qbc;rw[h]
theorem Qd4{l:List LNd}{k:Nat}(hk:k<l.length)(ea:Option Addr)(ec:Nat)(es:List TEnt):Qu (l.flatMap LNd.vals) (k*3+1) [.slice ea es.length ec]=(l.set k {nth l k with ea:=ea,ec:=ec,es:=es}).flatMap LNd.vals:=
 Qbb nv3 l k 1 _ (nth l k) _ (QB hk) rfl (by simp)
theorem Qd1{l:List LNd}{k:Nat}(hk:k<l.length)(ca:Option Addr)(cc:Nat)(cs:List Int):Qu (l.flatMap LNd.vals) (k*3+2) [.slice ca cs.length cc]=(l.set k {nth l k with ca:=ca,cc:=cc,cs:=cs}).flatMap LNd.vals:=
 Qbb nv3 l k 2 _ (nth l k) _ (QB hk) rfl (by simp)
theorem Qou{l:List LNd}{k:Nat}(hk:k<l.length)(us:Bool):Qu (l.flatMap LNd.vals) (k*3) [.bool us]=(l.set k {nth l k with us:=us}).flatMap LNd.vals:=by
 have h:=Qbb nv3 l k 0 [.bool us] (nth l k) {nth l k with us:=us} (QB hk) rfl (by simp)
 grind
theorem Qdx{l:List LNd}{k:Nat}(hk:k<l.length)(ea:Option Addr)(ec:Nat)(es:List TEnt)(ca:Option Addr)(cc:Nat)(cs:List Int):Qu (Qu (l.flatMap LNd.vals) (k*3+1) [.slice ea es.length ec]) (k*3+2) [.slice ca cs.length cc]=(l.set k ⟨(nth l k).us,ea,ec,es,ca,cc,cs⟩).flatMap LNd.vals:=by simp_all[Qd4,Qd1,QiE]
theorem QkF{l m:List LNd}{k:Nat}(hl:l.length=k)(hk:k<m.length):nth (l++m.drop k) k=nth m k:=by
 apply QH
 grind[QB]
theorem Qo6{l m:List LNd}{k:Nat}(hl:l.length=k)(hk:k<m.length)(x:LNd):(l++m.drop k).set k x=l++[x]++m.drop (k+1):=by
 rw[List.set_append_right _ _ om,hl,Nat.sub_self,List.drop_eq_getElem_cons hk,List.set_cons_zero,List.append_assoc];rfl
theorem Qia{L:List LNd}{k:Nat}(hk:k<L.length){D:List LNd}(hD:pln D=(pln L).take k){x:LNd}(hx:x.pl=(nth L k).pl):pln (D++[x])=(pln L).take (k+1):=by
 rw[Qjl,hD,List.take_succ_eq_append_getElem (by rw[Qg];exact hk)]
 simp_all[pln,Qg,nth,QH,Qz]
end Gx
namespace Gx
open Go Go.RowKit
section
variable{P:Program}{o:Oper}{L:Qe}{w0:World}{M:List Nat}{As As':List HA}
def QhU(P:Program)(t te:TypeId):Prop:=P.underlying t=some (.pointer te)/\∃j,P.info? te=some j/\j.size≠0
theorem Qkh{t te:TypeId}{n:Nat}{b:Bool}(h:P.underlying t=some (.pointer te))(h2:tsz P te=some (n,b))(hn:n≠0):QhU P t te:=by
 refine⟨h,?_⟩
 grind[tsz,hi]
theorem ptee{t te:TypeId}(h:P.underlying t=some (.pointer te)):P.underlying t=some (.pointer (P.pointee t)):=by
 rw[h];simp[Program.pointee,h]
theorem Qgq{t t' te:TypeId}{x y:Operand}{p:Option Addr}(ho:o.op=.binOp .eql t x y t')(hx:ev L x=some (.pointer p))(hy:ev L y=some (.pointer none))(ht:QhU P t te):OpP P o L (.bool p.isNone):=by
 intro ρ w hρ;have hg:(eqGuard .eql t x y (.pointer p) (.pointer none)).run P w=.ok () w:=by unfold eqGuard;simp
 simp only[execOp,ho,hρ _ _ hx,hρ _ _ hy,Sem.run_bind,hg,run_eql_pointer_nil w t p (ptee ht.1),Result.andThen_ok,Sem.run_pure]
theorem QeD{t t' te:TypeId}{x y:Operand}{a:Addr}(ho:o.op=.binOp .neq t x y t')(hx:ev L x=some (.pointer (some a)))(hy:ev L y=some (.pointer (some a)))(ht:QhU P t te):OpP P o L (.bool false):=by
 intro ρ w hρ;obtain⟨h1,j,h2,_⟩:=ht;have hg:(eqGuard .neq t x y (.pointer (some a)) (.pointer (some a))).run P w=.ok () w:=by unfold eqGuard;simp
 simp only[execOp,ho,hρ _ _ hx,hρ _ _ hy,Sem.run_bind,hg,Lib.run_neq_ptr_same w a h1 h2,Result.andThen_ok,Sem.run_pure]
theorem Qfr{t t' te:TypeId}{x y:Operand}{p:Option Addr}(ho:o.op=.binOp .neq t x y t')(hx:ev L x=some (.pointer p))(hy:ev L y=some (.pointer none))(ht:QhU P t te):OpP P o L (.bool p.isSome):=by
 intro ρ w hρ;have hg:(eqGuard .neq t x y (.pointer p) (.pointer none)).run P w=.ok () w:=by unfold eqGuard;simp
 have h:=run_neq_pointer_nil w t p (ptee ht.1);simp only[execOp,ho,hρ _ _ hx,hρ _ _ hy,Sem.run_bind,hg,h,Result.andThen_ok,Sem.run_pure];cases p<;>rfl
end
end Gx
namespace Gx
open Go Go.RowKit
section
variable{P:Program}{o:Oper}{L:Qe}{w0:World}{M:List Nat}{As As':List HA}
theorem Qgp{t e sz by':Nat}{x hi mx:Operand}{a:Option Addr}{n cap:Nat}{k2 k3:IntKind}{i2 i3:Int}(j m:Nat)(ho:o.op=.slice t x none (some hi) (some mx))(hx:ev L x=some (.slice a n cap))(hh:ev L hi=some (.int k2 i2))(hm:ev L mx=some (.int k3 i3))(ht:tsl P t=some (e,sz,by'))(e2:i2=(j:Int))(e3:i3=(m:Int))(hjm:j<=m)(hmc:m<=cap) :
  OpP P o L (.slice (X1 a m 0 sz) j m):=by
 intro ρ w hρ;obtain⟨hu,inf,h1,h2,_⟩:=XZ ht;subst e2 e3;simp[execOp,ho,hρ _ _ hx,hρ _ _ hh,hρ _ _ hm,Instr.sliceAt,Instr.slice,Instr.sliceBounds,Instr.sliceBound,asIntOf,run_underlying hu,hjm,hmc,Go.sizeOf,typeInfo,h1,h2,X1]
end
theorem QlA(a:Option Addr)(cap sz:Nat)(ha:∀x,a=some x->x.off=0/\x=⟨x.block,0,none⟩):X1 a cap 0 sz=a:=by
 unfold X1;split
 ·rfl
 ·cases a with
  | none=>rfl
  | some x=>
   rw[(ha x rfl).2];simp[XG]
theorem Rw.cut{α:Type}[Inhabited α]{vals:α->List Value}{sz:Nat}{w:World}{M:List Nat}{a:Option Addr}{l:List α}(h:Rw vals sz w M a l){cap i:Nat}(hc:l.length<=cap):Rw vals sz w M (X1 a cap i sz) (l.drop i):=
 ⟨λhn=>by
  rw[List.length_drop]at hn;obtain⟨b,o,rfl,h2⟩:=h.at_ om;refine⟨b,o+i*sz,?_,λj hj=>?_⟩
  ·unfold X1;rw[if_neg om];simp[XG]
  ·rw[List.length_drop]at hj;have e:nth (l.drop i) j=nth l (i+j):=QH (by rw[List.getElem?_drop];exact QB om);have h3:=h2 (i+j) om;simp only[e];refine⟨h3.1,λq v hv=>?_⟩;have h4:=h3.2 q v hv;rw[show o+(i+j)*sz+q=o+i*sz+j*sz+q by rw[Nat.add_mul];omega]at h4;exact h4⟩
section
variable{w0 w:World}{M:List Nat}{As As' As'':List HA}{gn cap et nt':Nat}{a:Option Addr}{L:List LNd}
theorem Qbd(h0:0<L.length)(h:HS w0 M As w)(hp:Qv As (.nodes et nt' a cap L) As'):∃gn,a=some ⟨gn,0,none⟩/\L.length<=cap/\cap<=maxLen/\HS w0 M (.blk gn nt' (cap*3) (L.flatMap LNd.vals)::.star (L.map (Qx et))::As') w:=by
 have h1:=HS.row_open (h.pick hp);obtain⟨gn,e,_,h2,h3,_,h4⟩:=h1.own_blk h0 .here
 grind
theorem QiR(h:HS w0 M (.blk gn nt' (cap*3) (L.flatMap LNd.vals)::.star (L.map (Qx et))::As) w)(h1:L.length<=cap)(h2:cap<=maxLen):HS w0 M (.nodes et nt' (some ⟨gn,0,none⟩) cap L::As) w:=
 HS.row_shut (l:=L) (sub:=Qx et) (HS.own_shut (n:=L.length) h (Qq nv3 L) h1 h2) rfl rfl
theorem HS.nt_at(h:HS w0 M As w)(hp:Qv As (.blk gn nt' (cap*3) (L.flatMap LNd.vals)) As')(hp2:Qv As' (.star (L.map (Qx et))) As''):Nt w [] (some ⟨gn,0,none⟩) L:=by
 refine⟨h.rw_blk nv3 hp,λn hn=>?_⟩;obtain⟨i,hi,e⟩:=List.getElem_of_mem hn;have e2:nth L i=n:=QH (by rw[List.getElem?_eq_getElem hi,e]);have h2:=HS.sub_open hi ((h.pick hp).tail.pick hp2);rw[e2]at h2;have h3:=HS.star_open h2;exact⟨h3.rw_own ev2 .here rfl,h3.rw_own iv1 (.there .here) rfl⟩
theorem HS.node_out{i:Nat}(hi:i<L.length)(h:HS w0 M As w)(hp:Qv As (.star (L.map (Qx et))) As'):HS w0 M (.own (.slice (nth L i).ea (nth L i).es.length (nth L i).ec) et 2 (nth L i).es.length ((nth L i).es.flatMap TEnt.vals)::.own (.slice (nth L i).ca (nth L i).cs.length (nth L i).cc) 3 1 (nth L i).cs.length ((nth L i).cs.flatMap inV)::.star ((Qbm L i).map (Qx et))::As') w:=
 HS.star_open (Bs:=[_,_]) (HS.sub_open hi (h.pick hp))
theorem HS.node_in{i:Nat}(hi:i<L.length)(x:LNd)(h:HS w0 M (.own (.slice x.ea x.es.length x.ec) et 2 x.es.length (x.es.flatMap TEnt.vals)::.own (.slice x.ca x.cs.length x.cc) 3 1 x.cs.length (x.cs.flatMap inV)::.star ((Qbm L i).map (Qx et))::As) w):HS w0 M (.star ((L.set i x).map (Qx et))::As) w:=
 HS.sub_shut (sub:=Qx et) hi (HS.star_close (Bs:=[_,_]) h)
theorem Qh7{a:Option Addr}{n n' c t sz:Nat}{xs:List Value}{w:World}(h:QkG (.slice a n c) t sz n' xs w):∀x,a=some x->x.off=0/\x=⟨x.block,0,none⟩:=by
 obtain⟨_,⟨e,_⟩|⟨g,cap,e,_⟩⟩:=h
 ·grind
 grind
end
theorem QnC{l:List LNd}{k:Nat}(hk:k<l.length)(us:Bool):Qu (l.flatMap LNd.vals) (0+k*3+0) [.bool us]=(l.set k {nth l k with us:=us}).flatMap LNd.vals:=by grind[Qou]
theorem Qo8{et:Nat}{L:List LNd}{i:Nat}(hi:i<L.length)(us:Bool):((L.set i {nth L i with us:=us}).map (Qx et))=L.map (Qx et):=by
 rw[List.map_set];have e:Qx et {nth L i with us:=us}=Qx et (nth L i):=rfl;rw[e];apply List.ext_getElem?
 grind[hi,QB]
def usN(ns:List Nd)(i:Nat)(us:Bool):List Nd:=ns.set i {nth ns i with us:=us}
def esN(ns:List Nd)(i:Nat)(es:List TEnt):List Nd:=ns.set i {nth ns i with es:=es}
def csN(ns:List Nd)(i:Nat)(cs:List Int):List Nd:=ns.set i {nth ns i with cs:=cs}
theorem Z3(ns:List Nd)(i:Nat)(es:List TEnt):(esN ns i es).length=ns.length:=by simp[esN]
theorem QbZ(ns:List Nd)(i:Nat)(cs:List Int):(csN ns i cs).length=ns.length:=by simp[csN]
theorem QgG(ns:List Nd)(i:Nat)(us:Bool):(usN ns i us).length=ns.length:=by simp[usN]
theorem Qon{ns:List Nd}{i k:Nat}(hk:k<ns.length)(es:List TEnt):nth (esN ns i es) k=if i=k then{nth ns k with es:=es}else nth ns k:=by
 unfold esN;apply QH
 grind[QB]
theorem QqY{L:List LNd}{i:Nat}(hi:i<L.length)(ea:Option Addr)(ec:Nat)(es:List TEnt):pln (L.set i {nth L i with ea:=ea,ec:=ec,es:=es})=esN (pln L) i es:=by
 rw[Qd2,esN,Qz hi];rfl
theorem QqF{L:List LNd}{i:Nat}(hi:i<L.length)(ca:Option Addr)(cc:Nat)(cs:List Int):pln (L.set i {nth L i with ca:=ca,cc:=cc,cs:=cs})=csN (pln L) i cs:=by
 rw[Qd2,csN,Qz hi];rfl
theorem QqI{L:List LNd}{i:Nat}(hi:i<L.length)(us:Bool):pln (L.set i {nth L i with us:=us})=usN (pln L) i us:=by
 rw[Qd2,usN,Qz hi];rfl
def Xu(ns:List Nd):Nat:=ixB (ns.map λn=>!n.us)
def QC(ns:List Nd):Nat×List Nd:=if Xu ns<ns.length then(Xu ns,usN ns (Xu ns) true)else(ns.length,ns++[⟨true,[],[]⟩])
def Xp(i:Int):List Nd->Nat->Nat×Nat
 | [],_=>(0,0)
 | n::ns,p=>if ixB (Y7 n.cs i)<n.cs.length then(p,ixB (Y7 n.cs i))else Xp i ns (p+1)
theorem Qlh{i:Int}{ns:List Nd}{k:Nat}(hk:k<ns.length):Xp i (ns.drop k) k=if ixB (Y7 (nth ns k).cs i)<(nth ns k).cs.length then(k,ixB (Y7 (nth ns k).cs i))else Xp i (ns.drop (k+1)) (k+1):=by
 rw[List.drop_eq_getElem_cons hk,Xp]
 grind[nth,QH]
def Qy(mo:Int):Nat:=((mo+1)/2).toNat
def splA(mo:Int)(ns:List Nd)(i:Nat):List Nd:=
 if(nth (QC ns).2 i).cs.length=0 then esN (esN (QC ns).2 (QC ns).1 ((nth (QC ns).2 i).es.drop (Qy mo+1))) i ((nth (QC ns).2 i).es.take (Qy mo))
 else csN (csN (esN (esN (QC ns).2 (QC ns).1 ((nth (QC ns).2 i).es.drop (Qy mo+1))) i ((nth (QC ns).2 i).es.take (Qy mo))) (QC ns).1 ((nth (QC ns).2 i).cs.drop (Qy mo+1))) i ((nth (QC ns).2 i).cs.take (Qy mo+1))
def addP(ns:List Nd)(p k:Nat)(up:TEnt)(own:Nat):List Nd:=csN (esN ns p (QL (nth ns p).es k up)) p (QL (nth ns p).cs (k+1) (own:Int))
def Qah(mo:Int)(ns:List Nd)(i:Nat):List Nd:=addP (splA mo ns i) (Xp (i:Int) (splA mo ns i) 0).1 (Xp (i:Int) (splA mo ns i) 0).2 (nth (nth (QC ns).2 i).es (Qy mo)) (QC ns).1
theorem Qdv{ns:List Nd}(h:Xu ns<ns.length):(nth ns (Xu ns)).us=false:=by
 have h1:(ns.map λn=>!n.us).getD (Xu ns) false=true:=Qbn (l:=ns.map λn=>!n.us) (by rw[List.length_map];exact h);rw[Yy (d:=default) h]at h1;show(ns.getD (Xu ns) default).us=false
 simpa using h1
theorem Qel{ns:List Nd}{i:Nat}(hi:i<ns.length)(hu:(nth ns i).us=true):(QC ns).1≠i:=by grind[QC,Qdv]
theorem Qek(ns:List Nd):(QC ns).1<(QC ns).2.length:=by grind[QC,QgG]
theorem Qbr(ns:List Nd):ns.length<=(QC ns).2.length/\(QC ns).2.length<=ns.length+1:=by grind[QC,QgG]
theorem Qba{ns:List Nd}{i:Nat}(hi:i<ns.length)(hu:(nth ns i).us=true):nth (QC ns).2 i=nth ns i:=by
 have hne:=Qel hi hu;unfold QC at hne ⊢;split
 ·simp_all[usN,QH,QB,hi]
 ·apply QH
  grind[hi,QB]
theorem Qhy(mo:Int)(ns:List Nd)(i:Nat):(splA mo ns i).length=(QC ns).2.length:=by grind[splA,Z3,QbZ]
def XN(ns:List Nd):Nat×List Nd:=((QC ns).1,csN (esN (csN (esN (QC ns).2 (QC ns).1 (nth ns 0).es) (QC ns).1 (nth ns 0).cs) 0 []) 0 [((QC ns).1:Int)])
def QaC(mo:Int)(ns:List Nd)(i:Nat):List Nd:=if 0<i/\mo<((nth ns i).es.length:Int)then Qah mo ns i else ns
def XM(mo:Int)(ns:List Nd)(P:List Nat):List Nd:=P.foldl (QaC mo) ns
def Qai(mo rm:Int)(ns:List Nd):List Nd:=if rm<((nth ns 0).es.length:Int)then if mo<((nth (XN ns).2 (XN ns).1).es.length:Int)then Qah mo (XN ns).2 (XN ns).1 else(XN ns).2 else ns
def QdX(mo rm:Int)(ns:List Nd)(P:List Nat):List Nd:=Qai mo rm (XM mo ns P)
abbrev LNd.noE(n:LNd):LNd:={n with ea:=none,ec:=0,es:=[]}
abbrev LNd.noC(n:LNd):LNd:={n with ca:=none,cc:=0,cs:=[]}
abbrev QhV(et:Nat)(n:LNd):HA:=.own (.slice n.ea n.es.length n.ec) et 2 n.es.length (n.es.flatMap TEnt.vals)
abbrev Qlr(n:LNd):HA:=.own (.slice n.ca n.cs.length n.cc) 3 1 n.cs.length (n.cs.flatMap inV)
theorem Zu{L:List LNd}{i:Nat}(hi:i<L.length)(x:LNd):nth (L.set i x) i=x:=QH (List.getElem?_set_self hi)
theorem QfS{L:List LNd}{i k:Nat}(hk:k<L.length)(hne:i≠k)(x:LNd):nth (L.set i x) k=nth L k:=QH (by rw[List.getElem?_set_ne hne];exact QB hk)
section
variable{w0 w:World}{M:List Nat}{As As' As'':List HA}{et:Nat}{L:List LNd}{i:Nat}
theorem HS.es_take(hi:i<L.length)(h:HS w0 M As w)(hp:Qv As (.star (L.map (Qx et))) As'):HS w0 M (QhV et (nth L i)::.star ((L.set i (nth L i).noE).map (Qx et))::As') w:=by
 have h1:=(h.node_out hi hp).own_nil et 2;have h2:=h1.perm (As':=_::_::_::QhV et (nth L i)::As') (List.Perm.cons _ (List.perm_middle (l₁:=[_,_])).symm);exact(HS.node_in hi (nth L i).noE h2).perm (List.Perm.swap ..)
theorem HS.cs_take(hi:i<L.length)(h:HS w0 M As w)(hp:Qv As (.star (L.map (Qx et))) As'):HS w0 M (Qlr (nth L i)::.star ((L.set i (nth L i).noC).map (Qx et))::As') w:=by
 have h1:=(h.node_out hi hp).own_nil 3 1;have h2:=h1.perm (As':=_::_::_::Qlr (nth L i)::As') ((List.perm_middle (l₁:=[_]) (a:=QhV et (nth L i))).trans (List.Perm.cons _ (List.Perm.cons _ (List.Perm.swap ..))));exact(HS.node_in hi (nth L i).noC h2).perm (List.Perm.swap ..)
theorem HS.es_put(hi:i<L.length){ea:Option Addr}{ec:Nat}{es:List TEnt}(h:HS w0 M As w)(hp:Qv As (.own (.slice ea es.length ec) et 2 es.length (es.flatMap TEnt.vals)) As')(hp2:Qv As' (.star (L.map (Qx et))) As''):HS w0 M (.star ((L.set i {nth L i with ea:=ea,ec:=ec,es:=es}).map (Qx et))::As'') w:=by
 have h1:=(h.pick hp).perm (List.Perm.cons _ hp2.perm);have h2:=(HS.node_out hi h1 (.there .here)).tail;have h3:=h2.perm (As':=(.own (.slice ea es.length ec) et 2 es.length (es.flatMap TEnt.vals))::_::_::As'') (List.perm_middle (l₁:=[_,_]));exact HS.node_in hi {nth L i with ea:=ea,ec:=ec,es:=es} h3
theorem HS.cs_put(hi:i<L.length){ca:Option Addr}{cc:Nat}{cs:List Int}(h:HS w0 M As w)(hp:Qv As (.own (.slice ca cs.length cc) 3 1 cs.length (cs.flatMap inV)) As')(hp2:Qv As' (.star (L.map (Qx et))) As''):HS w0 M (.star ((L.set i {nth L i with ca:=ca,cc:=cc,cs:=cs}).map (Qx et))::As'') w:=by
 have h1:=(h.pick hp).perm (List.Perm.cons _ hp2.perm);have h2:=(HS.node_out hi h1 (.there .here));have h3:=(h2.perm (List.Perm.swap ..)).tail;have h4:=h3.perm (As':=QhV et (nth L i)::(.own (.slice ca cs.length cc) 3 1 cs.length (cs.flatMap inV))::_::As'') (List.Perm.cons _ (List.perm_middle (l₁:=[_])))
 grind[HS.node_in,hi,nth]
theorem HS.es_back(hi:i<L.length){ea:Option Addr}{ec:Nat}{es:List TEnt}(h:HS w0 M As w)(hp:Qv As (.own (.slice ea es.length ec) et 2 es.length (es.flatMap TEnt.vals)) As')(hp2:Qv As' (.star ((L.set i (nth L i).noE).map (Qx et))) As''):HS w0 M (.star ((L.set i {nth L i with ea:=ea,ec:=ec,es:=es}).map (Qx et))::As'') w:=by
 have h1:=HS.es_put (L:=L.set i (nth L i).noE) (i:=i) (by rw[List.length_set];exact hi) h hp hp2
 simp_all[Zu,hi]
theorem HS.cs_back(hi:i<L.length){ca:Option Addr}{cc:Nat}{cs:List Int}(h:HS w0 M As w)(hp:Qv As (.own (.slice ca cs.length cc) 3 1 cs.length (cs.flatMap inV)) As')(hp2:Qv As' (.star ((L.set i (nth L i).noC).map (Qx et))) As''):HS w0 M (.star ((L.set i {nth L i with ca:=ca,cc:=cc,cs:=cs}).map (Qx et))::As'') w:=by
 have h1:=HS.cs_put (L:=L.set i (nth L i).noC) (i:=i) (by rw[List.length_set];exact hi) h hp hp2
 simp_all[Zu,hi]
theorem HS.es_cut(hi:i<L.length){m c:Nat}(hm:m<=c)(hc:c<=(nth L i).ec)(hml:m<=(nth L i).es.length)(h0:m=0->(nth L i).ea=none->c=0)(h:HS w0 M As w)(hp:Qv As (.star (L.map (Qx et))) As'):HS w0 M (.star ((L.set i {nth L i with ec:=c,es:=(nth L i).es.take m}).map (Qx et))::As') w:=by
 have h1:=HS.es_take hi h hp;have e1:((nth L i).es.take m).length=m:=by rw[List.length_take];omega
 have h2:=HS.own_room (a:=(nth L i).ea) (n':=c) (xs:=((nth L i).es.take m).flatMap TEnt.vals) (ds:=((nth L i).es.drop m).flatMap TEnt.vals) .here (by rw[<-List.flatMap_append,List.take_append_drop];exact h1) (by rw[Qq ev2,e1]) hm hc h0;refine HS.es_back hi (es:=(nth L i).es.take m) ?_ .here .here;rw[e1];exact h2
theorem HS.cs_cut(hi:i<L.length){m c:Nat}(hm:m<=c)(hc:c<=(nth L i).cc)(hml:m<=(nth L i).cs.length)(h0:m=0->(nth L i).ca=none->c=0)(h:HS w0 M As w)(hp:Qv As (.star (L.map (Qx et))) As'):HS w0 M (.star ((L.set i {nth L i with cc:=c,cs:=(nth L i).cs.take m}).map (Qx et))::As') w:=by
 have h1:=HS.cs_take hi h hp;have e1:((nth L i).cs.take m).length=m:=by rw[List.length_take];omega
 have h2:=HS.own_room (a:=(nth L i).ca) (n':=c) (xs:=((nth L i).cs.take m).flatMap inV) (ds:=((nth L i).cs.drop m).flatMap inV) .here (by rw[<-List.flatMap_append,List.take_append_drop];exact h1) (by rw[Qq iv1,e1]) hm hc h0;refine HS.cs_back hi (cs:=(nth L i).cs.take m) ?_ .here .here;rw[e1];exact h2
theorem HS.es_room(hi:i<L.length)(h:HS w0 M As w)(hp:Qv As (.star (L.map (Qx et))) As'):(nth L i).es.length<=(nth L i).ec/\(nth L i).ec<=maxLen:=by
 have h1:=HS.own_facts .here (HS.es_take hi h hp)
 grind
theorem HS.cs_room(hi:i<L.length)(h:HS w0 M As w)(hp:Qv As (.star (L.map (Qx et))) As'):(nth L i).cs.length<=(nth L i).cc/\(nth L i).cc<=maxLen:=by
 have h1:=HS.own_facts .here (HS.cs_take hi h hp)
 grind
theorem HS.es_form(hi:i<L.length)(h:HS w0 M As w)(hp:Qv As (.star (L.map (Qx et))) As'):∀x,(nth L i).ea=some x->x.off=0/\x=⟨x.block,0,none⟩:=Qh7 (HS.es_take hi h hp).head
theorem HS.cs_form(hi:i<L.length)(h:HS w0 M As w)(hp:Qv As (.star (L.map (Qx et))) As'):∀x,(nth L i).ca=some x->x.off=0/\x=⟨x.block,0,none⟩:=Qh7 (HS.cs_take hi h hp).head
theorem HS.es_some(hi:i<L.length)(hn:0<(nth L i).es.length)(h:HS w0 M As w)(hp:Qv As (.star (L.map (Qx et))) As'):∃g,(nth L i).ea=some ⟨g,0,none⟩:=by
 obtain⟨g,e,_⟩:=HS.own_blk hn .here (HS.es_take hi h hp);exact⟨g,e⟩
theorem HS.es_row(hi:i<L.length)(h:HS w0 M As w)(hp:Qv As (.star (L.map (Qx et))) As'):Rw TEnt.vals 2 w [] (nth L i).ea (nth L i).es:=(HS.es_take hi h hp).rw_own ev2 .here rfl
theorem HS.cs_row(hi:i<L.length)(h:HS w0 M As w)(hp:Qv As (.star (L.map (Qx et))) As'):Rw inV 1 w [] (nth L i).ca (nth L i).cs:=(HS.cs_take hi h hp).rw_own iv1 .here rfl
theorem HS.es_rd{k g:Nat}(hi:i<L.length)(hk:k<(nth L i).es.length)(hg:(nth L i).ea=some ⟨g,0,none⟩)(h:HS w0 M As w)(hp:Qv As (.star (L.map (Qx et))) As'):∀j v,(TEnt.vals (nth (nth L i).es k))[j]?=some v->Rd w [] g (0+k*2+j) v:=by
 have h1:=Rw.rd (HS.es_row hi h hp) hk;rw[hg]at h1;exact h1
theorem HS.nd_cell{gn cap nt':Nat}(hi:i<L.length)(h:HS w0 M As w)(hp:Qv As (.blk gn nt' (cap*3) (L.flatMap LNd.vals)) As')(j:Nat){v:Value}(hj:(LNd.vals (nth L i))[j]?=some v)(hj3:j<3):Rd w [] gn (i*3+j) v:=
 h.rd_blk hp (by rw[QbA nv3 L i j _ (QB hi) hj3];exact hj) (by simp)
end
structure NdSet(L L':List LNd)(i:Nat)(x:LNd):Prop where
 lt:i<L.length
 eq:L'=L.set i x
theorem NdSet.len{L L':List LNd}{i:Nat}{x:LNd}(h:NdSet L L' i x):L'.length=L.length:=by rw[h.eq,List.length_set]
theorem NdSet.at_{L L':List LNd}{i:Nat}{x:LNd}(h:NdSet L L' i x):nth L' i=x:=by rw[h.eq,Zu h.lt]
theorem NdSet.other{L L':List LNd}{i k:Nat}{x:LNd}(h:NdSet L L' i x)(hk:k<L.length)(hne:i≠k):nth L' k=nth L k:=by rw[h.eq,QfS hk hne]
theorem NdSet.pl{L L':List LNd}{i:Nat}{x:LNd}(h:NdSet L L' i x):pln L'=(pln L).set i x.pl:=by rw[h.eq,Qd2]
theorem NdSet.es{L L':List LNd}{i:Nat}{ea:Option Addr}{ec:Nat}{es:List TEnt}(h:NdSet L L' i {nth L i with ea:=ea,ec:=ec,es:=es}):pln L'=esN (pln L) i es:=by rw[h.eq,QqY h.lt]
theorem NdSet.cs{L L':List LNd}{i:Nat}{ca:Option Addr}{cc:Nat}{cs:List Int}(h:NdSet L L' i {nth L i with ca:=ca,cc:=cc,cs:=cs}):pln L'=csN (pln L) i cs:=by rw[h.eq,QqF h.lt]
section
variable{w0 w:World}{M:List Nat}{As A1 A2 A3:List HA}{et:Nat}{L:List LNd}{i gn cap nt':Nat}
theorem HS.es_set(hi:i<L.length){ea:Option Addr}{ec:Nat}{es:List TEnt}(h:HS w0 M As w)(hp:Qv As (.blk gn nt' (cap*3) (Qu (L.flatMap LNd.vals) (i*3+1) [.slice ea es.length ec])) A1)(hp2:Qv A1 (.own (.slice ea es.length ec) et 2 es.length (es.flatMap TEnt.vals)) A2)(hp3:Qv A2 (.star (L.map (Qx et))) A3) :
  ∃L',NdSet L L' i {nth L i with ea:=ea,ec:=ec,es:=es}/\HS w0 M (.blk gn nt' (cap*3) (L'.flatMap LNd.vals)::.star (L'.map (Qx et))::A3) w:=by
 refine⟨_,⟨hi,rfl⟩,?_⟩;rw[<-Qd4 hi];exact(HS.es_put hi (h.pick hp) (.there hp2) (.there hp3)).perm (List.Perm.swap ..)
theorem HS.cs_set(hi:i<L.length){ca:Option Addr}{cc:Nat}{cs:List Int}(h:HS w0 M As w)(hp:Qv As (.blk gn nt' (cap*3) (Qu (L.flatMap LNd.vals) (i*3+2) [.slice ca cs.length cc])) A1)(hp2:Qv A1 (.own (.slice ca cs.length cc) 3 1 cs.length (cs.flatMap inV)) A2)(hp3:Qv A2 (.star (L.map (Qx et))) A3) :
  ∃L',NdSet L L' i {nth L i with ca:=ca,cc:=cc,cs:=cs}/\HS w0 M (.blk gn nt' (cap*3) (L'.flatMap LNd.vals)::.star (L'.map (Qx et))::A3) w:=by
 refine⟨_,⟨hi,rfl⟩,?_⟩;rw[<-Qd1 hi];exact(HS.cs_put hi (h.pick hp) (.there hp2) (.there hp3)).perm (List.Perm.swap ..)
theorem HS.es_setB(hi:i<L.length){ea:Option Addr}{ec:Nat}{es:List TEnt}(h:HS w0 M As w)(hp:Qv As (.blk gn nt' (cap*3) (Qu (L.flatMap LNd.vals) (i*3+1) [.slice ea es.length ec])) A1)(hp2:Qv A1 (.own (.slice ea es.length ec) et 2 es.length (es.flatMap TEnt.vals)) A2)(hp3:Qv A2 (.star ((L.set i (nth L i).noE).map (Qx et))) A3) :
  ∃L',NdSet L L' i {nth L i with ea:=ea,ec:=ec,es:=es}/\HS w0 M (.blk gn nt' (cap*3) (L'.flatMap LNd.vals)::.star (L'.map (Qx et))::A3) w:=by
 refine⟨_,⟨hi,rfl⟩,?_⟩;rw[<-Qd4 hi];exact(HS.es_back hi (h.pick hp) (.there hp2) (.there hp3)).perm (List.Perm.swap ..)
theorem HS.cs_setB(hi:i<L.length){ca:Option Addr}{cc:Nat}{cs:List Int}(h:HS w0 M As w)(hp:Qv As (.blk gn nt' (cap*3) (Qu (L.flatMap LNd.vals) (i*3+2) [.slice ca cs.length cc])) A1)(hp2:Qv A1 (.own (.slice ca cs.length cc) 3 1 cs.length (cs.flatMap inV)) A2)(hp3:Qv A2 (.star ((L.set i (nth L i).noC).map (Qx et))) A3) :
  ∃L',NdSet L L' i {nth L i with ca:=ca,cc:=cc,cs:=cs}/\HS w0 M (.blk gn nt' (cap*3) (L'.flatMap LNd.vals)::.star (L'.map (Qx et))::A3) w:=by
 refine⟨_,⟨hi,rfl⟩,?_⟩;rw[<-Qd1 hi];exact(HS.cs_back hi (h.pick hp) (.there hp2) (.there hp3)).perm (List.Perm.swap ..)
theorem HS.es_setC(hi:i<L.length){m c:Nat}(hm:m<=c)(hc:c<=(nth L i).ec)(hml:m<=(nth L i).es.length)(h0:m=0->(nth L i).ea=none->c=0)(h:HS w0 M As w)(hp:Qv As (.blk gn nt' (cap*3) (Qu (L.flatMap LNd.vals) (i*3+1) [.slice (nth L i).ea m c])) A1)(hp3:Qv A1 (.star (L.map (Qx et))) A3) :
  ∃L',NdSet L L' i {nth L i with ec:=c,es:=(nth L i).es.take m}/\HS w0 M (.blk gn nt' (cap*3) (L'.flatMap LNd.vals)::.star (L'.map (Qx et))::A3) w:=by
 refine⟨_,⟨hi,rfl⟩,?_⟩;have e:=Qd4 hi (nth L i).ea c ((nth L i).es.take m);rw[List.length_take,Nat.min_eq_left hml]at e;rw[<-e];exact(HS.es_cut hi hm hc hml h0 (h.pick hp) (.there hp3)).perm (List.Perm.swap ..)
theorem HS.cs_setC(hi:i<L.length){m c:Nat}(hm:m<=c)(hc:c<=(nth L i).cc)(hml:m<=(nth L i).cs.length)(h0:m=0->(nth L i).ca=none->c=0)(h:HS w0 M As w)(hp:Qv As (.blk gn nt' (cap*3) (Qu (L.flatMap LNd.vals) (i*3+2) [.slice (nth L i).ca m c])) A1)(hp3:Qv A1 (.star (L.map (Qx et))) A3) :
  ∃L',NdSet L L' i {nth L i with cc:=c,cs:=(nth L i).cs.take m}/\HS w0 M (.blk gn nt' (cap*3) (L'.flatMap LNd.vals)::.star (L'.map (Qx et))::A3) w:=by
 refine⟨_,⟨hi,rfl⟩,?_⟩;have e:=Qd1 hi (nth L i).ca c ((nth L i).cs.take m);rw[List.length_take,Nat.min_eq_left hml]at e;rw[<-e];exact(HS.cs_cut hi hm hc hml h0 (h.pick hp) (.there hp3)).perm (List.Perm.swap ..)
end
theorem Zt{α:Type}{l:List α}{i:Nat}{x:α}(h:i<=l.length):(QL l i x).length=l.length+1:=by grind[QL]
theorem QhM{α:Type}{vals:α->List Value}{sz:Nat}(hv:∀x,(vals x).length=sz)(l:List α)(i:Nat)(x:α):(l.flatMap vals).take (i*sz)++vals x++(l.flatMap vals).drop (i*sz)=(QL l i x).flatMap vals:=by grind[Qlf,Qk1,QL]
def Sm(m:Nat)(ns:List Nd):Prop:=∀k,(nth ns k).es.length<=m/\(nth ns k).cs.length<=m
theorem QbG{α:Type}[Inhabited α]{l:List α}{k:Nat}(h:l.length<=k):nth l k=default:=by grind[nth]
theorem QaO(ns:List Nd)(i k:Nat)(x:Nd):nth (ns.set i x) k=if i=k/\k<ns.length then x else nth ns k:=by
 by_cases hk:k<ns.length
 ·apply QH
  grind[QB]
 grind[QbG]
theorem Sm.mono{m m':Nat}{ns:List Nd}(h:Sm m ns)(hm:m<=m'):Sm m' ns:=λk=>⟨Nat.le_trans (h k).1 hm,Nat.le_trans (h k).2 hm⟩
theorem Sm.set{m:Nat}{ns:List Nd}(h:Sm m ns)(i:Nat)(x:Nd)(hx:x.es.length<=m/\x.cs.length<=m):Sm m (ns.set i x):=λk=>by
 rw[QaO];split
 ·exact hx
 ·exact h k
theorem Sm.es{m:Nat}{ns:List Nd}(h:Sm m ns)(i:Nat){es:List TEnt}(hx:es.length<=m):Sm m (esN ns i es):=h.set i _ ⟨hx,(h i).2⟩
theorem Sm.cs{m:Nat}{ns:List Nd}(h:Sm m ns)(i:Nat){cs:List Int}(hx:cs.length<=m):Sm m (csN ns i cs):=h.set i _ ⟨(h i).1,hx⟩
theorem Sm.us{m:Nat}{ns:List Nd}(h:Sm m ns)(i:Nat)(b:Bool):Sm m (usN ns i b):=h.set i _ (h i)
theorem Sm.app{m:Nat}{ns:List Nd}(h:Sm m ns)(x:Nd)(hx:x.es.length<=m/\x.cs.length<=m):Sm m (ns++[x]):=λk=>by
 rcases Nat.lt_trichotomy k ns.length with hk|hk|hk
 ·rw[show nth (ns++[x]) k=nth ns k from QH (by rw[List.getElem?_append_left hk];exact QB hk)];exact h k
 ·grind[nth,QH]
 ·rw[QbG (by simp;omega)];exact⟨Nat.zero_le _,Nat.zero_le _⟩
theorem Sm.fre{m:Nat}{ns:List Nd}(h:Sm m ns):Sm m (QC ns).2:=by
 unfold QC;split
 ·exact h.us _ _
 ·exact h.app _ ⟨Nat.zero_le _,Nat.zero_le _⟩
theorem Sm.splA{m:Nat}{ns:List Nd}(h:Sm m ns)(mo:Int)(i:Nat):Sm m (splA mo ns i):=by
 have h1:=h.fre;have e1:=(h1 i).1;have e2:=(h1 i).2;have h2:=(h1.es (QC ns).1 (es:=(nth (QC ns).2 i).es.drop (Qy mo+1)) (by rw[List.length_drop];omega)).es i (es:=(nth (QC ns).2 i).es.take (Qy mo)) (by rw[List.length_take];omega);unfold Gx.splA;split
 ·exact h2
 ·exact(h2.cs _ (by rw[List.length_drop];omega)).cs _ (by rw[List.length_take];omega)
theorem Qm5{α:Type}(l:List α)(i:Nat)(x:α):(QL l i x).length<=l.length+1:=by grind[QL]
theorem Sm.addP{m:Nat}{ns:List Nd}(h:Sm m ns)(p k:Nat)(up:TEnt)(own:Nat):Sm (m+1) (addP ns p k up own):=by
 have e1:=Qm5 (nth ns p).es k up;have e2:=Qm5 (nth ns p).cs (k+1) (own:Int);have e3:=(h p).1;have e4:=(h p).2;exact((h.mono (Nat.le_succ m)).es p om).cs p om
theorem Sm.spl{m:Nat}{ns:List Nd}(h:Sm m ns)(mo:Int)(i:Nat):Sm (m+1) (Qah mo ns i):=(h.splA mo i).addP _ _ _ _
theorem QlO(ns:List Nd)(p k:Nat)(up:TEnt)(own:Nat):(addP ns p k up own).length=ns.length:=by
 unfold addP;rw[QbZ,Z3]
theorem Qip(mo:Int)(ns:List Nd)(i:Nat):ns.length<=(Qah mo ns i).length/\(Qah mo ns i).length<=ns.length+1:=by
 unfold Qah;rw[QlO,Qhy];exact Qbr ns
theorem Sm.low{m:Nat}{ns:List Nd}(h:Sm m ns)(hm:1<=m):Sm m (XN ns).2:=by
 unfold XN;exact(((h.fre.es _ (h 0).1).cs _ (h 0).2).es 0 (Nat.zero_le _)).cs 0 (by simpa using hm)
theorem Qnk(ns:List Nd):ns.length<=(XN ns).2.length/\(XN ns).2.length<=ns.length+1:=by grind[XN,QbZ,Z3,Qbr]
structure SpOk(mo:Int)(ns:List Nd)(i:Nat):Prop where
 mo0:0<=mo/\mo<=1000
 len:ns.length<=900
 sm:Sm 900 ns
 lt:i<ns.length
 us:(nth ns i).us=true
 es:Qy mo<(nth ns i).es.length
 cs:(nth ns i).cs.length=0\/Qy mo+1<=(nth ns i).cs.length
 par:(Xp (i:Int) (splA mo ns i) 0).1<(splA mo ns i).length
 parE:(Xp (i:Int) (splA mo ns i) 0).2<=(nth (splA mo ns i) (Xp (i:Int) (splA mo ns i) 0).1).es.length
 parC:(Xp (i:Int) (splA mo ns i) 0).2+1<=(nth (splA mo ns i) (Xp (i:Int) (splA mo ns i) 0).1).cs.length
abbrev LNd.non(n:LNd):LNd:=⟨n.us,none,0,[],none,0,[]⟩
section
variable{w0 w:World}{M:List Nat}{As A1 A2 A3:List HA}{et:Nat}{L:List LNd}{i j gn cap nt':Nat}
theorem HS.star_move(hi:i<L.length)(hj:j<L.length)(hne:i≠j)(us:Bool)(h:HS w0 M As w)(hp:Qv As (.star (L.map (Qx et))) A1):HS w0 M (.star (((L.set j {nth L i with us:=us}).set i (nth L i).non).map (Qx et))::A1) w:=by
 have h1:=((h.node_out hi hp).own_nil 3 1).own_nil et 2
 have h2:=h1.perm (As':=_::_::_::QhV et (nth L i)::Qlr (nth L i)::A1) (List.Perm.cons _ (List.Perm.cons _ (List.perm_middle (l₁:=[QhV et (nth L i),Qlr (nth L i)]))));have h3:=HS.node_in hi (nth L i).non h2;have h4:=HS.node_out (L:=L.set i (nth L i).non) (i:=j) (by rw[List.length_set];exact hj) h3 .here;have h5:=h4.tail.tail;have h6:=h5.perm (As':=QhV et (nth L i)::Qlr (nth L i)::_::A1) (List.perm_middle (l₁:=[QhV et (nth L i),Qlr (nth L i)])).symm;have h7:=HS.node_in (L:=L.set i (nth L i).non) (i:=j) (by rw[List.length_set];exact hj) {nth L i with us:=us} h6;rw[List.set_comm _ _ hne]at h7;exact h7
theorem HS.node_move(hi:i<L.length)(hj:j<L.length)(hne:i≠j)(h:HS w0 M As w)
  (hp:Qv As (.blk gn nt' (cap*3) (Qu (Qu (L.flatMap LNd.vals) (j*3+1) [.slice (nth L i).ea (nth L i).es.length (nth L i).ec]) (j*3+2) [.slice (nth L i).ca (nth L i).cs.length (nth L i).cc])) A1)(hp3:Qv A1 (.star (L.map (Qx et))) A3) :
  ∃L',NdSet L L' j {nth L i with us:=(nth L j).us}/\HS w0 M (.blk gn nt' (cap*3) (L'.flatMap LNd.vals)::.star ((L'.set i (nth L i).non).map (Qx et))::A3) w:=by
 refine⟨_,⟨hj,rfl⟩,?_⟩;have e:=Qdx hj (nth L i).ea (nth L i).ec (nth L i).es (nth L i).ca (nth L i).cc (nth L i).cs;rw[<-e];exact(HS.star_move hi hj hne (nth L j).us (h.pick hp) (.there hp3)).perm (List.Perm.swap ..)
theorem HS.node_low(hi:i<L.length){ca:Option Addr}{cc:Nat}{cs:List Int}(h:HS w0 M As w)
  (hp:Qv As (.blk gn nt' (cap*3) (Qu (Qu (L.flatMap LNd.vals) (i*3+1) [.slice none 0 0]) (i*3+2) [.slice ca cs.length cc])) A1)(hp2:Qv A1 (.own (.slice ca cs.length cc) 3 1 cs.length (cs.flatMap inV)) A2)(hp3:Qv A2 (.star ((L.set i ⟨(nth L i).us,none,0,[],none,0,[]⟩).map (Qx et))) A3) :
  ∃L',NdSet L L' i ⟨(nth L i).us,none,0,[],ca,cc,cs⟩/\HS w0 M (.blk gn nt' (cap*3) (L'.flatMap LNd.vals)::.star (L'.map (Qx et))::A3) w:=by
 refine⟨_,⟨hi,rfl⟩,?_⟩;have e:=Qdx hi none 0 [] ca cc cs;rw[<-e];have h1:=HS.cs_put (L:=L.set i ⟨(nth L i).us,none,0,[],none,0,[]⟩) (i:=i) (by rw[List.length_set];exact hi) (h.pick hp) (.there hp2) (.there hp3);rw[Zu hi,List.set_set]at h1;exact h1.perm (List.Perm.swap ..)
end
theorem QjA{ns:List Nd}{i:Nat}(hi:i<ns.length)(es:List TEnt)(cs:List Int):csN (esN ns i es) i cs=ns.set i ⟨(nth ns i).us,es,cs⟩:=by
 unfold csN;rw[Qon hi,if_pos rfl,esN,List.set_set]
theorem Qom{ns:List Nd}(h0:0<ns.length)(hu:(nth ns 0).us=true):(QC ns).1≠0/\(QC ns).1<(QC ns).2.length/\nth (QC ns).2 0=nth ns 0:=⟨Qel h0 hu,Qek ns,Qba h0 hu⟩
end Gx
namespace Gx
open Go Go.RowKit
def HA.obj(b:Nat)(o:Obj):HA:=⟨[b],λw=>w.heap[b]?=some o,λw w' h hk=>(h b (List.mem_singleton.2 rfl)).trans hk⟩
section
variable{w0 w:World}{M:List Nat}{As As':List HA}
theorem HS.allocObj(h:HS w0 M As w)(o:Obj):HS w0 M (.obj w.heap.size o::As) (w.alloc o):=h.alloc o _ rfl (World.alloc_heap_new w o)
theorem HS.obj_get{b:Nat}{o:Obj}(h:HS w0 M As w)(hp:Qv As (.obj b o) As'):w.heap[b]?=some o:=h.ok _ hp.mem
theorem HS.putObj{b:Nat}{o:Obj}(h:HS w0 M As w)(hp:Qv As (.obj b o) As')(o':Obj):HS w0 M (.obj b o'::As') (w.putObj b o'):=by
 have h1:=h.pick hp;have hb:w.heap[b]?=some o:=h1.head;have hlt:b<w.heap.size:=(Array.getElem?_eq_some_iff.1 hb).1;refine h1.swap (λ_ hx=>hx) rfl rfl rfl (by simp[World.putObj]) (λc hc=>World.putObj_heap_other (λe=>hc (by subst e;exact List.mem_singleton.2 rfl))) (World.putObj_heap_same hlt)
end
def YO(P:Program)(l:Nat)(args:Array Value)(w:World)(R:Ending->World->Prop):Prop:=
 ∃f tmps assign body,(Instr.yield l args).run P w=.ok (.round l f tmps assign body) w/\RoundIn Fence.wide 0 P l f tmps assign body w R
section
variable{P:Program}{o:Oper}{L:Qe}
theorem QgO{C:World->Prop}{G:Type}{V:G->Value}{F:G->Prop}{C':G->World->Prop}{x:Operand}{args:Array Operand}{vs:List Value}{ts:Array TypeId}{l:Nat}(ho:o.op=.call {callee:=.value x,args:=args,argTypes:=ts})(hx:ev L x=some (.func (.yield l) #[] #[]))
  (ha:evs L args.toList=some vs)(hy:∀w,C w->YO P l vs.toArray w λe w'=>∃g,e=.returned (V g)/\F g/\C' g w'):OpH P o L C V F C':=by
 intro ρ w hρ hw;obtain⟨f,tmps,assign,body,hr,hR⟩:=hy w hw;have e1:args.map ρ=vs.toArray:=by rw[<-QcX hρ ha,<-List.map_toArray]
 unfold execOp;simp only[ho,resolve,Sem.run_bind,hρ _ _ hx,Deferred.ofValue,e1,Sem.run_pure,Result.andThen_ok,invoke,Array.empty_append,hr];exact RoundIn.mono hR λe w'⟨g,he,hf,hc⟩=>⟨V g,he,g,rfl,hf,hc⟩
end
def rdy(fid:FuncId)(tmps:Array Value)(ps:Array Tmp)(assign body:Code)(D:Nat):Loop:={state:=.ready,pending:=none,fn:=fid,tmps:=tmps,params:=ps,assign:=assign,body:=body,defers:=D}
theorem QgA{P:Program}{fn:Func}{n l D:Nat}{fid:FuncId}{tmps:Array Value}{ps:Array Tmp}{assign body:Code}{args:Array Value}{L0 L1:Qe}{w0 W:World}{M:List Nat}{As As1:List HA}{Rr:Ending->World->Prop}
  (hC:HS w0 M (.obj l (.loop (rdy fid tmps ps assign body D))::As) W)(hps:args.size=ps.size)(hf:FR n [] L0 {tmps:=(ps.zip args).foldl (λt(p,v)=>t.setIfInBounds p v) tmps,defers:=[]})
  (h1:S {P:=P,fn:=fn,n:=n,R:=λ_ _=>False,rd:=some l} [.c assign,.join (At n [] (λ_:Unit=>L1) (λ_=>HS w0 M (.obj l (.loop (rdy fid tmps ps assign body D))::As1)))] L0 (HS w0 M (.obj l (.loop (rdy fid tmps ps assign body D))::As)))
  (h2:S {P:=P,fn:=fn,n:=n,R:=Rr,rd:=some l} [.c body] L1 (HS w0 M (.obj l (.loop {rdy fid tmps ps assign body D with state:=.busy})::As1))):YO P l args W Rr:=by
 refine⟨fid,_,assign,body,run_yield (hC.obj_get .here) hps,roundIn_of_wpIn trivial ?_⟩;refine wpIn_mono (h1 _ W hf hC) λe a w he=>?_;cases e with
 | normal=>
  obtain⟨_,hfr,hc⟩:=he;exact⟨_,run_beginRound (hc.obj_get .here) rfl,h2 _ _ hfr (hc.putObj .here _)⟩
 | ret=>obtain⟨v,w',_,hx⟩:=he;exact hx
 | exit id=>obtain⟨v,w',_,hx⟩:=he;exact hx
 | goto t=>obtain⟨v,w',_,hx⟩:=he;exact hx
 | panic ch=>exact he
 | outgrown=>exact he
theorem FR.round1{n:Nat}{L:Qe}{a:Act}(h:FR n [] L a)(d:Nat)(v:Value)(hd:Nat.blt d n=true):FR n [] ((d,v)::L) {tmps:=((#[d]:Array Tmp).zip #[v]).foldl (λt(p,v)=>t.setIfInBounds p v) a.tmps,defers:=[]}:=by
 have h1:=h.put d v hd;have e:((#[d]:Array Tmp).zip #[v]).foldl (λt(p,v)=>t.setIfInBounds p v) a.tmps=a.tmps.setIfInBounds d v:=by simp
 rw[e];exact⟨rfl,h1.size,h1.slot⟩
section
variable{X:Ctx}{k:List KI}{L:Qe}{w0:World}{M:List Nat}{As As':List HA}
theorem Qis{C:World->Prop}{l:Nat}(hrd:X.rd=some l)(h:∀w,C w->∃r,w.heap[l]?=some (.loop r)/\X.R (.returned (.bool true)) (w.putObj l (.loop {r with state:=.ready,pending:=none}))):S X [] L C:=by
 intro a w ha hw;show(match X.rd with|none=>bodyPostM X.F 0 X.P X.fn X.R .normal a w|some l=>roundPost X.P l X.R .normal a w);rw[hrd];obtain⟨r,h1,h2⟩:=h w hw;exact⟨_,_,run_endRound none h1,h2⟩
theorem Zd{l D:Nat}{fid:FuncId}{tmps:Array Value}{ps:Array Tmp}{assign body:Code}(hrd:X.rd=some l)(hp:Qv As (.obj l (.loop {rdy fid tmps ps assign body D with state:=.busy})) As')(h:∀w,HS w0 M (.obj l (.loop (rdy fid tmps ps assign body D))::As') w->X.R (.returned (.bool true)) w):S X [] L (HS w0 M As):=
 Qis hrd λw hw=>⟨_,hw.obj_get hp,h _ (hw.putObj hp _)⟩
theorem Zr(d:List Nat):∀k,post {X with df:=d} k=post X k
 | []=>by funext e a w;rfl
 | Sum.inl c::k=>by funext e a w;cases e<;>simp only[post,Zr d k]
 | Sum.inr (Sum.inl id)::k=>by funext e a w;cases e<;>simp only[post,Zr d k]
 | Sum.inr (Sum.inr J)::k=>by funext e a w;cases e<;>simp only[post,Zr d k]
theorem Qg9{g:Operand}{ps:Array Tmp}{assign body:Code}{gf:FuncId}{lb:Array Value}{G:Type}{Bs:G->List HA}(hrd:X.rd=none)(hdf:X.df=[])(hg:ev L g=some (.func (.func gf) #[] lb))(hfn:QE X.P gf=true)
  (hit:∀(fid:FuncId)(D l:Nat)(a:Act)(w1:World)(ob:Obj),ob=.loop (rdy fid a.tmps ps assign body D)->FR X.n [] L a->HS w0 M (.obj l ob::.obj D (.deferred (some []))::As) w1 ->
   Calls X.P gf (#[.func (.yield l) #[] #[]]++lb) w1 λe w2=>(∃v,e=.returned v)/\∃x,HS w0 M (.obj l ob::.obj D (.deferred (some []))::Bs x) w2)
  (next:∀D x,S {X with df:=[D]} k L (HS w0 M (.obj D (.deferred (some []))::Bs x))):S X (.c (.rangeFunc g ps assign body)::k) L (HS w0 M As):=by
 intro a w ha hw;have ha0:FR X.n [] L a:=by rw[<-hdf];exact ha
 refine wpIn_rangeFunc (F:=X.F) (n:=0) λfid _=>?_;have hro:X.F.round=none:=hrd;rw[hro];have hw1:=(hw.allocObj (.deferred (some []))).allocObj (.loop (rdy fid a.tmps ps assign body w.heap.size));rw[World.size_alloc]at hw1;have hen:=run_enterLoop_outer (P:=X.P) (w:=w) fid a.tmps ps assign body;obtain⟨W1,hW1⟩:∃W1,(w.alloc (.deferred (some []))).alloc (.loop (rdy fid a.tmps ps assign body w.heap.size))=W1:=⟨_,rfl⟩;rw[hW1]at hw1;rw[show(Loop.mk .ready none fid a.tmps ps assign body w.heap.size)=rdy fid a.tmps ps assign body w.heap.size from rfl,hW1]at hen
 refine⟨w.heap.size+1,[{target:=.collected w.heap.size,args:=#[]}],W1,{target:=.fn (.func gf) lb,args:=#[.func (.yield (w.heap.size+1)) #[] #[]]},W1,gf,
  #[.func (.yield (w.heap.size+1)) #[] #[]]++lb,W1,hen,?_,λ_ _=>trivial,?_,λh=>(by cases h),?_⟩
 ·simp only[resolve,ha.evl hg];simp[go_sem]
 ·simp[invoke,go_sem,Zv hfn]
 ·refine CallsIn.mono (X.callsIn (hit fid _ _ a _ _ rfl ha0 hw1)) λe w2 he=>?_;obtain⟨⟨v,rfl⟩,x,hx⟩:=he;refine⟨none,_,run_endLoop (hx.obj_get .here) (by simp[rdy]),?_⟩;have h3:=next w.heap.size x {a with defers:=[{target:=.collected w.heap.size,args:=#[]}]++a.defers} _ ⟨by show _++a.defers=_;rw[ha0.defers];rfl,ha0.size,ha0.slot⟩ (hx.putObj .here (.loop {rdy fid a.tmps ps assign body w.heap.size with state:=.exhausted})).tail
  rw[Zr]at h3;exact h3
theorem QaF{D:Nat}{rs:List ResultVar}{vs:List Value}(hr:X.fn.results=rs.toArray)(hp:Qv As (.obj D (.deferred (some []))) As')(hv:RV X.P L As' rs vs)(h:∀w,HS w0 M As' w->X.R (.returned (QR vs)) w)(hrd:X.rd=none:=by rfl)(hdf:X.df=[D]:=by rfl):S X (.c .ret::k) L (HS w0 M As):=by
 refine Qin (Yg λa w ha hw=>?_);show(match X.rd with|none=>bodyPostM X.F 0 X.P X.fn X.R .ret a w|some l=>roundPost X.P l X.R .ret a w);rw[hrd];show LeavesInM X.F 0 X.P X.fn a.tmps X.R a.defers .returning w;rw[ha.defers,hdf];have h1:=(hw.putObj hp (.deferred none)).tail;refine⟨by simp,.inl ⟨D,_,rfl,run_takeDeferred (hw.obj_get hp),QR vs,?_,h _ h1⟩⟩;have hm:=hv.run ha h1;rw[QcD hr,Array.mapM_eq_mapM_toList];simp only[Sem.run_bind,Sem.run_map,hm,Result.andThen_ok,Sem.run_pure]
 match vs with
 | []=>rfl
 | [v]=>rfl
 | u::v::vs=>simp[QR]
end
end Gx
namespace Gx
open Go Go.RowKit
theorem Qp0{X:Ctx}{k:List KI}{L:Qe}{C:World->Prop}{α:Type}{c:Code}(md:List Nat)(Lm:α->Qe)(I:α->Prop)(h1:S X (.c c::.join (AtI X.n X.df (λx=>Lm x++Z9 md L) (λ_=>C) I)::k) L C)(h2:∀x,I x->S X k (Lm x++Z9 md L) C):S X (.c c::k) L C:=
 Xv md Lm (λ_=>C) I h1 h2
end Gx
namespace Gx
open Go Go.RowKit
theorem FR.round2{n:Nat}{L:Qe}{a:Act}(h:FR n [] L a)(d d':Nat)(v v':Value)(hd:Nat.blt d n=true)(hd':Nat.blt d' n=true):FR n [] ((d',v')::(d,v)::L) {tmps:=((#[d,d']:Array Tmp).zip #[v,v']).foldl (λt(p,v)=>t.setIfInBounds p v) a.tmps,defers:=[]}:=by
 have h1:=(h.put d v hd).put d' v' hd';have e:((#[d,d']:Array Tmp).zip #[v,v']).foldl (λt(p,v)=>t.setIfInBounds p v) a.tmps=(a.tmps.setIfInBounds d v).setIfInBounds d' v':=by simp
 rw[e];exact⟨rfl,h1.size,h1.slot⟩
def HA.pure(p:Prop):HA:=⟨[],λ_=>p,λ_ _ _ h=>h⟩
section
variable{w0 w:World}{M:List Nat}{As As':List HA}{p:Prop}
theorem HS.add_pure(hp:p)(h:HS w0 M As w):HS w0 M (.pure p::As) w:=
 ⟨h.os,h.tape,h.output,h.size,h.old,λA hA=>by
  rcases List.mem_cons.1 hA with rfl|hA
  ·exact hp
  ·exact h.ok A hA,λA hA b hb=>by
  rcases List.mem_cons.1 hA with rfl|hA
  ·cases hb
  ·exact h.lt A hA b hb,List.pairwise_cons.2 ⟨λA _ b hb=>(nomatch hb),h.sep⟩⟩
theorem HS.get_pure(h:HS w0 M As w)(hp:Qv As (.pure p) As'):p:=(h.pick hp).head
theorem HS.rw_ownF{α:Type}[Inhabited α]{vals:α->List Value}{sz:Nat}(hv:∀x,(vals x).length=sz){Cs Ds Es:List HA}{a:Option Addr}{cap n t:Nat}{l:List α}(h:HS w0 M As w)(hp:Zo As Cs Ds)(hp2:Qv Ds (.own (.slice a n cap) t sz n (l.flatMap vals)) Es)(hn:n=l.length):Rw vals sz w (fps Cs) a l:=by
 subst hn;refine⟨λhn=>?_⟩;have h1:HS w0 M (.own (.slice a l.length cap) t sz l.length (l.flatMap vals)::(Cs++Es)) w:=h.perm (hp.trans ((hp2.perm.append_left Cs).trans List.perm_middle));obtain⟨g,cap',e,_,_,_,h2⟩:=h1.own_open' hn;injection e with e1 e2 e3
 subst e1;have h3:HS w0 M (Cs++.blk g t (cap'*sz) (l.flatMap vals)::Es) w:=h2.perm List.perm_middle.symm;refine⟨g,0,rfl,λi hi=>⟨hv _,λj v hjv=>?_⟩⟩;have hj:j<sz:=by grind
 have:=HS.rd_blkF (i:=i*sz+j) h3 (.refl _) .here (v:=v) (by rw[QbA hv l i j _ (QB hi) hj];exact hjv)
 grind
theorem QiJ{X:Ctx}{L:Qe}{D:Nat}(hr:X.fn.results= #[])(hp:Qv As (.obj D (.deferred (some []))) As')(h:∀w,HS w0 M As' w->X.R (.returned (.tuple #[])) w)(hrd:X.rd=none:=by rfl)(hdf:X.df=[D]:=by rfl):S X [] L (HS w0 M As):=by
 intro a w ha hw;show(match X.rd with|none=>bodyPostM X.F 0 X.P X.fn X.R .normal a w|some l=>roundPost X.P l X.R .normal a w);rw[hrd];show LeavesInM X.F 0 X.P X.fn a.tmps X.R a.defers .returning w;rw[ha.defers,hdf];have h1:=(hw.putObj hp (.deferred none)).tail;exact⟨by simp,.inl ⟨D,_,rfl,run_takeDeferred (hw.obj_get hp),.tuple #[],results_none hr _ _ _,h _ h1⟩⟩
end
end Gx
namespace Gx
open Go Go.RowKit
abbrev iN(P:List Nat):List Int:=P.map λi:Nat=>(i:Int)
theorem QpW{P:List Nat}{k:Nat}(h:k<P.length):(iN P).getD k 0=((nth P k:Nat):Int):=by
 rw[Yy (d:=0) h];rfl
theorem Qnf{P:List Nat}{k:Nat}(h:k<P.length):nth (iN P) k=((nth P k:Nat):Int):=QpW h
theorem Qe1(P:List Nat):(iN P).length=P.length:=by simp
def Qca(mo:Int):List Nd->List Nat->Prop
 | _,[]=>True
 | ns,i::P=>(i<ns.length/\(0<i->mo<((nth ns i).es.length:Int)->SpOk mo ns i))/\Qca mo (QaC mo ns i) P
structure RootOk(mo rm:Int)(ns:List Nd):Prop where
 lt:0<ns.length
 len:ns.length<=900
 us:(nth ns 0).us=true
 spl:rm<((nth ns 0).es.length:Int)->mo<((nth (XN ns).2 (XN ns).1).es.length:Int)->SpOk mo (XN ns).2 (XN ns).1
theorem Qpg(ns:List Nd):(XN ns).1<(XN ns).2.length:=Nat.lt_of_lt_of_le (Qek ns) (by unfold XN;simp only[QbZ,Z3];exact Nat.le_refl _)
theorem QjE{P:List Nat}{k:Nat}(h:k<P.length):P.reverse[k]?=some (nth P (P.length-1-k)):=by grind[QB]
theorem QlQ{P:List Nat}{k:Nat}(h:k<P.length):P.reverse.drop k=nth P (P.length-1-k)::P.reverse.drop (k+1):=by
 have h1:k<P.reverse.length:=by rw[List.length_reverse];exact h
 rw[List.drop_eq_getElem_cons h1];congr 1;have:=QjE h
 grind
theorem QnH{P:List Nat}{k:Nat}(h:k<P.length):P.reverse.take (k+1)=P.reverse.take k++[nth P (P.length-1-k)]:=by
 rw[List.take_add_one,QjE h];rfl
theorem QkV(mo:Int)(ns:List Nd)(P:List Nat)(i:Nat):XM mo ns (P++[i])=QaC mo (XM mo ns P) i:=by grind[XM]
def YJ(co:Int)(ns:List Nd)(key:List UInt8):Nat:=nth (Qr co ns key).1 ((Qr co ns key).1.length-1)
def QiF(co:Int)(ns:List Nd)(x:TEnt):List Nd:=esN ns (YJ co ns x.key) (QL (nth ns (YJ co ns x.key)).es (Qr co ns x.key).2.1 x)
def QaG(co mo rm:Int)(ns:List Nd)(x:TEnt):List Nd:=if(Qr co ns x.key).2.2=true then ns else QdX mo rm (QiF co ns x) (Qr co ns x.key).1.reverse
def Qhr(co mo rm:Int)(ns:List Nd)(x:TEnt):Int:=if(Qr co ns x.key).2.2=true then 5 else if(QaG co mo rm ns x).length<=120 then 0 else 16
structure InsOk(co mo rm:Int)(ns:List Nd)(x:TEnt):Prop where
 ne:0<(Qr co ns x.key).1.length
 len:(Qr co ns x.key).1.length<=900
 lf:YJ co ns x.key<ns.length
 es:(nth ns (YJ co ns x.key)).es.length<=900
 pl:(Qr co ns x.key).2.1<=(nth ns (YJ co ns x.key)).es.length
 grw:Qca mo (QiF co ns x) (Qr co ns x.key).1.reverse
 root:RootOk mo rm (XM mo (QiF co ns x) (Qr co ns x.key).1.reverse)
section
variable{w0 w:World}{M:List Nat}{As As':List HA}{a:Option Addr}{cap:Nat}{P:List Nat}
theorem HS.kids_some{l:List Int}(hn:0<l.length)(h:HS w0 M As w)(hp:Qv As (.kids a cap l) As'):∃g,a=some ⟨g,0,none⟩:=by
 obtain⟨g,e,_⟩:=HS.own_blk hn hp h;exact⟨g,e⟩
theorem HS.path_rd{k g:Nat}(hk:k<P.length)(hg:a=some ⟨g,0,none⟩)(h:HS w0 M As w)(hp:Qv As (.kids a cap (iN P)) As'):Rd w [] g (0+k*1) (.int .i64 ((nth P k:Nat):Int)):=by
 have h1:=Rw.rd (h.rw_own (vals:=inV) (l:=iN P) iv1 hp rfl) (i:=k) (by rw[Qe1];exact hk) 0 (.int .i64 ((nth P k:Nat):Int)) (by rw[Qnf hk];rfl);rw[hg]at h1;exact h1
end
theorem Qdd{co:Int}{ns:List Nd}(h:TOk co ns):∀i,i<ns.length->∀x∈(nth ns i).es,Q3 co x.key=true/\x.key.length<=1000000:=λi hi x hx=>by
 have h1:=QcZ (h.ents i hi x hx)
 grind[Qdj]
theorem cat2{α:Type}(a b:RowV α):[a,b].flatMap RowV.l=a.l++b.l:=by simp
def XA(P:List Nat):Nat:=nth P (P.length-1)
theorem QgK{α:Type}[Inhabited α]{l m:List α}(hl:l.length=m.length)(h:∀j,j<l.length->nth l j=nth m j):l=m:=by
 apply List.ext_getElem?
 grind[QB]
theorem keyE_ok{co:Int}{k:List UInt8}(h:ZA co k=0):Q3 co k=true:=by grind[ZA]
def Qdf(ns:List Nd):Nat->Nat->Nat
 | 0,i=>i
 | f+1,i=>if i<ns.length then if(nth ns i).us=true then Qdf ns f (i+1)else i else i
def Qg1(ns:List Nd):Nat:=Qdf ns ns.length 1
def QcU(ns:List Nd):Nat×List Nd:=if Qg1 ns<ns.length then(Qg1 ns,ns.set (Qg1 ns) ⟨true,[],[]⟩)else(ns.length,ns++[⟨true,[],[]⟩])
theorem Qjr(ns:List Nd):∀f i,i<=ns.length->Qdf ns f i<=ns.length
 | 0,i,h=>h
 | f+1,i,h=>by
  rw[Qdf];split
  ·split
   ·exact Qjr ns f (i+1) om
   ·exact h
  ·exact h
theorem QkB(ns:List Nd):∀f i,i<=Qdf ns f i
 | 0,i=>Nat.le_refl _
 | f+1,i=>by
  rw[Qdf];split
  ·split
   ·simp[Nat.le_of_succ_le,QkB]
   grind
  grind
theorem Qjp(ns:List Nd):∀f i,Qdf ns f i<ns.length->ns.length<i+f->(nth ns (Qdf ns f i)).us=false
 | 0,i,h,hf=>by
  rw[Qdf]at h;omega
 | f+1,i,h,hf=>by
  rw[Qdf]at h ⊢;split
  ·rename_i h1;rw[if_pos h1]at h;split
   ·rename_i h2;rw[if_pos h2]at h;exact Qjp ns f (i+1) h om
   grind
  grind
def ixR(cs:List Int)(c:Int):Nat:=if ixB (Y7 cs c)<cs.length then ixB (Y7 cs c)else 0
def Qbx(mo:Int)(ns:List Nd)(i:Nat):List Nd:=
 let F:=(QcU ns).2;let o:=(QcU ns).1;let x:=nth F i
 let n:=esN (esN F o (x.es.drop (Qy mo+1))) i (x.es.take (Qy mo))
 if x.cs.length=0 then n else csN (csN n o (x.cs.drop (Qy mo+1))) i (x.cs.take (Qy mo+1))
def QkZ(mo:Int)(ns:List Nd)(p i:Nat):List Nd:=addP (Qbx mo ns i) p (ixR (nth (Qbx mo ns i) p).cs (i:Int)) (nth (nth (QcU ns).2 i).es (Qy mo)) (QcU ns).1
def QeP(ns:List Nd):Nat×List Nd:=((QcU ns).1,csN (esN (csN (esN (QcU ns).2 (QcU ns).1 (nth (QcU ns).2 0).es) (QcU ns).1 (nth (QcU ns).2 0).cs) 0 []) 0 [((QcU ns).1:Int)])
def Qgk(mo:Int)(P:List Nat):Nat->List Nd->List Nd
 | 0,ns=>ns
 | k+1,ns=>Qgk mo P k (if mo<((nth ns (nth P (k+1))).es.length:Int)then QkZ mo ns (nth P k) (nth P (k+1))else ns)
def QnN(mo rm:Int)(ns:List Nd):List Nd:=if rm<((nth ns 0).es.length:Int)then if mo<((nth (QeP ns).2 (QeP ns).1).es.length:Int)then QkZ mo (QeP ns).2 0 (QeP ns).1 else(QeP ns).2 else ns
def Qrd(co mo rm:Int)(ns:List Nd)(x:TEnt):List Nd:=
 let P:=(Qr co ns x.key).1;let lf:=XA P
 QnN mo rm (Qgk mo P (P.length-1) (esN ns lf (QL (nth ns lf).es (plc co (nth ns lf).es x.key) x)))
structure SpROk(mo:Int)(ns:List Nd)(p i:Nat):Prop where
 mo0:0<=mo/\mo<=1000
 len:ns.length<=900
 sm:Sm 900 ns
 lt:i<ns.length
 us:(nth ns i).us=true
 es:Qy mo<(nth ns i).es.length
 cs:(nth ns i).cs.length=0\/Qy mo+1<=(nth ns i).cs.length
 par:p<ns.length
 parE:ixR (nth (Qbx mo ns i) p).cs (i:Int)<=(nth (Qbx mo ns i) p).es.length
 parC:ixR (nth (Qbx mo ns i) p).cs (i:Int)+1<=(nth (Qbx mo ns i) p).cs.length
def Qi7(mo:Int)(P:List Nat):Nat->List Nd->Prop
 | 0,_=>True
 | k+1,ns=>(nth P (k+1)<ns.length/\(mo<((nth ns (nth P (k+1))).es.length:Int)->SpROk mo ns (nth P k) (nth P (k+1))))/\Qi7 mo P k (if mo<((nth ns (nth P (k+1))).es.length:Int)then QkZ mo ns (nth P k) (nth P (k+1))else ns)
structure RootROk(mo rm:Int)(ns:List Nd):Prop where
 lt:0<ns.length
 len:ns.length<=900
 us:(nth ns 0).us=true
 spl:rm<((nth ns 0).es.length:Int)->mo<((nth (QeP ns).2 (QeP ns).1).es.length:Int)->SpROk mo (QeP ns).2 0 (QeP ns).1
structure InsROk(co mo rm:Int)(ns:List Nd)(x:TEnt):Prop where
 ne:0<(Qr co ns x.key).1.length
 len:(Qr co ns x.key).1.length<=900
 lf:XA (Qr co ns x.key).1<ns.length
 grw:Qi7 mo (Qr co ns x.key).1 ((Qr co ns x.key).1.length-1) (esN ns (XA (Qr co ns x.key).1) (QL (nth ns (XA (Qr co ns x.key).1)).es (plc co (nth ns (XA (Qr co ns x.key).1)).es x.key) x))
 root:RootROk mo rm (Qgk mo (Qr co ns x.key).1 ((Qr co ns x.key).1.length-1) (esN ns (XA (Qr co ns x.key).1) (QL (nth ns (XA (Qr co ns x.key).1)).es (plc co (nth ns (XA (Qr co ns x.key).1)).es x.key) x)))
end Gx
namespace Gx
open Go Go.RowKit
section
variable{X:Ctx}{ops:Array Oper}{k:List KI}{L:Qe}{C:World->Prop}
theorem Qjb{α:Type}(m dj dp:Nat)(b:Bool)(v:α->Bool)(CJ:α->World->Prop)(I:α->Prop){l:List Oper}(hb:Qe.get L dj=some (.bool b))
  (h1:b=true->O X ops (l.take m) (.join (AtI X.n X.df (λx:α=>(dp,.bool (v x))::L) CJ I)::k) L C)
  (h0:b=false->O X ops (l.take m) (.join (AtI X.n X.df (λx:α=>(dp,.bool (v x))::L) CJ I)::k) L C)
  (h2:∀x,I x->O X ops (l.drop m) k ((dp,.bool (v x))::L) (CJ x)):O X ops l k L C:=by
 intro a w ha hw
 have hh:O X ops (l.take m) (.join (AtI X.n X.df (λx:α=>(dp,.bool (v x))::L) CJ I)::k) L C:=by
  cases b with
  | true=>exact h1 rfl
  | false=>exact h0 rfl
 have:=Y4 (Q:=post X k) _ (l.drop m) a w (hh a w ha hw) (λa w⟨x,hI,hx,hc⟩=>h2 x hI a w hx hc) (λe a w he h=>Qbe e a w he h)
 rwa[List.take_append_drop]at this
end
end Gx
namespace Gx
open Go Go.RowKit
section
variable{P:Program}{o:Oper}{L:Qe}{w0:World}{M:List Nat}{As:List HA}
theorem Qhn{G:Type}{V:G->Value}{F:G->Prop}{Bs:G->List HA}{Cs Ds:List HA}{x:Operand}{args:Array Operand}{vs:List Value}{ts:Array TypeId}{l:Nat}(ho:o.op=.call {callee:=.value x,args:=args,argTypes:=ts})(hx:ev L x=some (.func (.yield l) #[] #[]))
  (ha:evs L args.toList=some vs)(hp:Zo As Cs Ds)(hy:∀w,HS w0 M As w->HS w (fps Cs) Cs w->YO P l vs.toArray w λe w'=>∃g,e=.returned (V g)/\F g/\HS w (fps Cs) (Bs g) w'):OpH P o L (HS w0 M As) V F (λg=>HS w0 M (Bs g++Ds)):=
 QgO (C:=HS w0 M As) ho hx ha λw hw=>by
  obtain⟨f,tmps,assign,body,hr,hR⟩:=hy w hw (HS.focus (hw.perm hp));refine⟨f,tmps,assign,body,hr,RoundIn.mono hR λe w'⟨g,he,hf,hc⟩=>⟨g,he,hf,?_⟩⟩;exact HS.callM (hw.perm hp) (λb hb=>by obtain⟨A,hA,hb⟩:=List.mem_flatMap.1 hb;exact⟨A,hA,hb⟩) hc
end
def Qrt(fid:FuncId)(tmps:Array Value)(ps:Array Tmp)(assign body:Code)(D:Nat):Option Nat->Obj
 | none=>.loop (rdy fid tmps ps assign body D)
 | some id=>.loop {rdy fid tmps ps assign body D with state:=.done,pending:=some (.exit id)}
section
variable{X:Ctx}{k:List KI}{L:Qe}{w0:World}{M:List Nat}{As As':List HA}
def rngK(k:List KI):Option Nat->List KI
 | none=>k
 | some id=>.c (.exit id)::k
theorem QkT{id:Nat}{j:Option Nat}(hj:j=none\/j=some id)(h:S X k L (HS w0 M As)):S X (rngK (.blk id::k) j) L (HS w0 M As):=by
 rcases hj with rfl|rfl
 ·exact Qpn h
 ·exact Qj (show(bif Nat.beq id id then some k else Qge id k)=some k from by rw[Nat.beq_refl];rfl) h
theorem Qod{g:Operand}{ps:Array Tmp}{assign body:Code}{gf:FuncId}{fa lb:Array Value}{G:Type}{Bs:G->List HA}{jmp:G->Option Nat}(hrd:X.rd=none)(hdf:X.df=[])(hg:ev L g=some (.func (.func gf) fa lb))(hfn:QE X.P gf=true)
  (hit:∀(fid:FuncId)(D l:Nat)(a:Act)(w1:World)(ob:Obj),ob=.loop (rdy fid a.tmps ps assign body D)->FR X.n [] L a->HS w0 M (.obj l ob::.obj D (.deferred (some []))::As) w1 ->
   Calls X.P gf (fa++ #[.func (.yield l) #[] #[]]++lb) w1 λe w2=>(∃v,e=.returned v)/\∃x,HS w0 M (.obj l (Qrt fid a.tmps ps assign body D (jmp x))::.obj D (.deferred (some []))::Bs x) w2)
  (next:∀D x,S {X with df:=[D]} (rngK k (jmp x)) L (HS w0 M (.obj D (.deferred (some []))::Bs x))):S X (.c (.rangeFunc g ps assign body)::k) L (HS w0 M As):=by
 intro a w ha hw;have ha0:FR X.n [] L a:=by rw[<-hdf];exact ha
 refine wpIn_rangeFunc (F:=X.F) (n:=0) λfid _=>?_;have hro:X.F.round=none:=hrd;rw[hro];have hw1:=(hw.allocObj (.deferred (some []))).allocObj (.loop (rdy fid a.tmps ps assign body w.heap.size));rw[World.size_alloc]at hw1;have hen:=run_enterLoop_outer (P:=X.P) (w:=w) fid a.tmps ps assign body;obtain⟨W1,hW1⟩:∃W1,(w.alloc (.deferred (some []))).alloc (.loop (rdy fid a.tmps ps assign body w.heap.size))=W1:=⟨_,rfl⟩;rw[hW1]at hw1;rw[show(Loop.mk .ready none fid a.tmps ps assign body w.heap.size)=rdy fid a.tmps ps assign body w.heap.size from rfl,hW1]at hen
 refine⟨w.heap.size+1,[{target:=.collected w.heap.size,args:=#[]}],W1,{target:=.fn (.func gf) lb,args:=fa++ #[.func (.yield (w.heap.size+1)) #[] #[]]},W1,gf,
  fa++ #[.func (.yield (w.heap.size+1)) #[] #[]]++lb,W1,hen,?_,λ_ _=>trivial,?_,λh=>(by cases h),?_⟩
 ·simp only[resolve,ha.evl hg];simp[go_sem]
 ·simp[invoke,go_sem,Zv hfn]
 ·refine CallsIn.mono (X.callsIn (hit fid _ _ a _ _ rfl ha0 hw1)) λe w2 he=>?_;obtain⟨⟨v,rfl⟩,x,hx⟩:=he;have h3:=next w.heap.size x {a with defers:=[{target:=.collected w.heap.size,args:=#[]}]++a.defers}
  have hfr:FR X.n [w.heap.size] L {a with defers:=[{target:=.collected w.heap.size,args:=#[]}]++a.defers}:=⟨by show _++a.defers=_;rw[ha0.defers];rfl,ha0.size,ha0.slot⟩;cases hj:jmp x with
  | none=>
   rw[hj]at hx h3;refine⟨none,_,run_endLoop (hx.obj_get .here) (by simp[rdy]),?_⟩;have h4:=h3 _ hfr (hx.putObj .here (.loop {rdy fid a.tmps ps assign body w.heap.size with state:=.exhausted})).tail;rw[Zr]at h4;exact h4
  | some id=>
   rw[hj]at hx h3;refine⟨some (.exit id),_,run_endLoop (hx.obj_get .here) (by simp),?_⟩;have h4:=h3 _ hfr (hx.putObj .here (.loop {rdy fid a.tmps ps assign body w.heap.size with state:=.exhausted,pending:=some (.exit id)})).tail;rw[Zr]at h4;exact h4
end
theorem HS.callA{w0 w1 w2:World}{M:List Nat}{A:HA}{Ds Bs:List HA}(h:HS w0 M (A::Ds) w1)(hc:HS w1 (fps [A]) Bs w2):HS w0 M (Bs++Ds) w2:=
 HS.callM (Cs:=[A]) (As:=Ds) h (λb hb=>by obtain⟨A,hA,hb⟩:=List.mem_flatMap.1 hb;exact⟨A,hA,hb⟩) hc
theorem QaI{A:HA}{Ds:List HA}:Zo (A::Ds) [A] Ds:=List.Perm.refl _
theorem QcH{α:Type}{P:Program}{fn:Func}{n l D:Nat}{fid:FuncId}{tmps:Array Value}{ps:Array Tmp}{assign body:Code}{args:Array Value}{L0:Qe}{L1:α->Qe}{w0 W:World}{M:List Nat}{As:List HA}{As1:α->List HA}{Rr:Ending->World->Prop}
  (hC:HS w0 M (.obj l (.loop (rdy fid tmps ps assign body D))::As) W)(hps:args.size=ps.size)(hf:FR n [] L0 {tmps:=(ps.zip args).foldl (λt(p,v)=>t.setIfInBounds p v) tmps,defers:=[]})
  (h1:S {P:=P,fn:=fn,n:=n,R:=λ_ _=>False,rd:=some l} [.c assign,.join (At n [] L1 (λx=>HS w0 M (.obj l (.loop (rdy fid tmps ps assign body D))::As1 x)))] L0 (HS w0 M (.obj l (.loop (rdy fid tmps ps assign body D))::As)))
  (h2:∀x,S {P:=P,fn:=fn,n:=n,R:=Rr,rd:=some l} [.c body] (L1 x) (HS w0 M (.obj l (.loop {rdy fid tmps ps assign body D with state:=.busy})::As1 x))):YO P l args W Rr:=by
 refine⟨fid,_,assign,body,run_yield (hC.obj_get .here) hps,roundIn_of_wpIn trivial ?_⟩;refine wpIn_mono (h1 _ W hf hC) λe a w he=>?_;cases e with
 | normal=>
  obtain⟨x,hfr,hc⟩:=he;exact⟨_,run_beginRound (hc.obj_get .here) rfl,h2 x _ _ hfr (hc.putObj .here _)⟩
 | ret=>obtain⟨v,w',_,hx⟩:=he;exact hx
 | exit id=>obtain⟨v,w',_,hx⟩:=he;exact hx
 | goto t=>obtain⟨v,w',_,hx⟩:=he;exact hx
 | panic ch=>exact he
 | outgrown=>exact he
inductive RunY{S α:Type}(st:S->α->S->Prop)(co:S->Bool):S->List α->S->Bool->Prop
 | nil (s:S):RunY st co s [] s true
 | go {s s' s'':S} {x:α} {l:List α} {b:Bool} (h:st s x s') (hc:co s'=true) (hr:RunY st co s' l s'' b):RunY st co s (x::l) s'' b
 | stop {s s':S} {x:α} {l:List α} (h:st s x s') (hc:co s'=false):RunY st co s (x::l) s' false
section
variable{S α:Type}{st:S->α->S->Prop}{co:S->Bool}{s s1 s2:S}{A B:List α}{b:Bool}
theorem RunY.app(h:RunY st co s A s1 true)(h2:RunY st co s1 B s2 b):RunY st co s (A++B) s2 b:=by
 generalize hb:true=c at h
 induction h with
 | nil s=>exact h2
 | go h hc _ ih=>exact .go h hc (ih h2 hb)
 | stop h hc=>cases hb
theorem RunY.off(h:RunY st co s A s1 false)(B:List α):RunY st co s (A++B) s1 false:=by
 generalize hb:false=c at h
 induction h with
 | nil s=>cases hb
 | go h hc _ ih=>exact .go h hc (ih hb)
 | stop h hc=>exact .stop h hc
theorem RunY.one{x:α}(h:st s x s1):RunY st co s [x] s1 (co s1):=by
 cases hc:co s1 with
 | true=>exact .go h hc (.nil s1)
 | false=>exact .stop h hc
end
end Gx
namespace Gx
open Go Go.RowKit
class TFd(P:Program)(t f:Nat)(off ft:outParam Nat):Prop where h:tfd P t f=some (off,ft)
class TSz(P:Program)(t:Nat)(n:outParam Nat)(ag:outParam Bool):Prop where h:tsz P t=some (n,ag)
class TSe(P:Program)(t:Nat)(e:outParam Nat):Prop where h:P.underlying t=some (.slice e)
section
variable{X:Ctx}{ops:Array Oper}{rest:List Oper}{k:List KI}{L:Qe}{d ty:Nat}{pos:String}{aft:Array Edge}{C:World->Prop}
theorem oFa{st f x b i off ft sz:Nat}{ag:Bool}[h1:TFd X.P st f off ft][h2:TSz X.P ft sz ag](next:O X ops rest k ((d,.pointer (some ⟨b,i+off,none⟩))::L) C)(hx:Qe.get L x=some (.pointer (some ⟨b,i,none⟩)):=by rfl)(hs:Nat.blt 0 sz=true:=by rfl)(hd:Nat.blt d X.n=true:=by rfl) :
  O X ops (⟨some d,.fieldAddr st (.tmp x) f,ty,pos,aft,none⟩::rest) k L C:=o_p (Qa8 rfl hx h1.h h2.h hs) hd next
theorem oLs{t e x n cap:Nat}{a:Option Addr}[h1:TSe X.P t e](next:O X ops rest k ((d,.int .i64 n)::L) C)(hx:Qe.get L x=some (.slice a n cap):=by rfl)(hd:Nat.blt d X.n=true:=by rfl) :
  O X ops (⟨some d,.call {callee:=.builtin .len,args:=#[.tmp x],argTypes:=#[t]},ty,pos,aft,none⟩::rest) k L C:=o_p (QI (x:=.tmp x) rfl hx h1.h) hd next
theorem oLd{w0:World}{M:List Nat}{As As':List HA}{t x b tot i:Nat}{bt:TypeId}{cs:List Value}{v:Value}[h1:TSz X.P t 1 false](next:O X ops rest k ((d,v)::L) (HS w0 M As))(hx:Qe.get L x=some (.pointer (some ⟨b,i,none⟩)):=by rfl)(hp:Qv As (.blk b bt tot cs) As':=by repeat (first|exact .here|apply Qv.there))(hv:cs[i]?=some v:=by rfl)(hd:Nat.blt d X.n=true:=by rfl) :
  O X ops (⟨some d,.load t (.tmp x),ty,pos,aft,none⟩::rest) k L (HS w0 M As):=o_q (X8 rfl hx h1.h hp hv) hd next
theorem oLn{w0:World}{M:List Nat}{As As':List HA}{t x b tot i n:Nat}{bt:TypeId}{cs:List Value}[h1:TSz X.P t n true](next:O X ops rest k ((d,.agg (cut cs i n).toArray)::L) (HS w0 M As))(hx:Qe.get L x=some (.pointer (some ⟨b,i,none⟩)):=by rfl)(hp:Qv As (.blk b bt tot cs) As':=by repeat (first|exact .here|apply Qv.there))(hl:Nat.ble (i+n) cs.length=true:=by rfl)(hd:Nat.blt d X.n=true:=by rfl) :
  O X ops (⟨some d,.load t (.tmp x),ty,pos,aft,none⟩::rest) k L (HS w0 M As):=o_q (Qd3 rfl hx h1.h hp hl) hd next
end
section
variable{X:Ctx}{ops:Array Oper}{F:List Nat}{fuel:Nat}{listed:Array Bool}{k:List KI}{L:Qe}{d ty:Nat}{pos:String}{aft:Array Edge}{C B:World->Prop}{w0:World}{M:List Nat}{As As' Bs:List HA}
theorem dFa(i:Nat){st f x b o off ft sz:Nat}{ag:Bool}(next:D X ops F B fuel (listed.setIfInBounds i true) k ((d,.pointer (some ⟨b,o+off,none⟩))::L) C)(hi:ops[i]?=some ⟨some d,.fieldAddr st (.tmp x) f,ty,pos,aft,none⟩:=by rfl)(hx:Qe.get L x=some (.pointer (some ⟨b,o,none⟩)):=by rfl)(h1:TFd X.P st f off ft:=by infer_instance)(h2:TSz X.P ft sz ag:=by infer_instance)(hs:Nat.blt 0 sz=true:=by rfl)(hok:Xl ops listed i=true:=by kernel_rfl)(hF:F.all (λf=>!Nat.beq f i)=true:=by rfl)(hd:Nat.blt d X.n=true:=by rfl):D X ops F B (fuel+1) listed k L C:=d_p i hi (Qa8 rfl hx h1.h h2.h hs) hok hF hd next
theorem dFo{j:Nat}{want c:Bool}(i dj:Nat){st f x b o off ft sz:Nat}{ag:Bool}(hw:c=want)(next:D X ops F B fuel (listed.setIfInBounds i true) k ((d,.pointer (some ⟨b,o+off,none⟩))::L) C)(hi:ops[i]?=some ⟨some d,.fieldAddr st (.tmp x) f,ty,pos,aft,some (j,want)⟩:=by rfl)(hj:(ops[j]?).bind (·.dst)=some dj:=by rfl)(hb:Qe.get L dj=some (.bool c):=by rfl)(hx:Qe.get L x=some (.pointer (some ⟨b,o,none⟩)):=by rfl)(h1:TFd X.P st f off ft:=by infer_instance)(h2:TSz X.P ft sz ag:=by infer_instance)(hs:Nat.blt 0 sz=true:=by rfl)(hok:Xl ops listed i=true:=by kernel_rfl)(hF:F.all (λf=>!Nat.beq f i)=true:=by rfl)(hd:Nat.blt d X.n=true:=by rfl):D X ops F B (fuel+1) listed k L C:=Qm2 i dj hi hj hb hw (Qa8 rfl hx h1.h h2.h hs) hok hF hd next
theorem dPo{j:Nat}{want c:Bool}{op:Op}{v:Value}(i dj:Nat)(hw:c=want)(next:D X ops F B fuel (listed.setIfInBounds i true) k ((d,v)::L) C)(hi:ops[i]?=some ⟨some d,op,ty,pos,aft,some (j,want)⟩:=by rfl)(hj:(ops[j]?).bind (·.dst)=some dj:=by rfl)(hb:Qe.get L dj=some (.bool c):=by rfl)(h:OpP X.P ⟨some d,op,ty,pos,aft,none⟩ L v:=by exact Qiv rfl)(hok:Xl ops listed i=true:=by kernel_rfl)(hF:F.all (λf=>!Nat.beq f i)=true:=by rfl)(hd:Nat.blt d X.n=true:=by rfl):D X ops F B (fuel+1) listed k L C:=Qm2 i dj hi hj hb hw h hok hF hd next
theorem dOf{j:Nat}{want c:Bool}{op:Op}(i dj:Nat)(hw:c= !want)(next:D X ops F B fuel (listed.setIfInBounds i true) k ((d,undef)::L) C)(hi:ops[i]?=some ⟨some d,op,ty,pos,aft,some (j,want)⟩:=by rfl)(hj:(ops[j]?).bind (·.dst)=some dj:=by rfl)(hb:Qe.get L dj=some (.bool c):=by rfl)(hok:Xl ops listed i=true:=by kernel_rfl)(hF:F.all (λf=>!Nat.beq f i)=true:=by rfl)(hd:Nat.blt d X.n=true:=by rfl):D X ops F B (fuel+1) listed k L C:=Qrr i dj hi hj hb hw hok hF hd next
theorem dOu{j:Nat}{want:Bool}{op:Op}(i dj:Nat)(next:D X ops F B fuel (listed.setIfInBounds i true) k ((d,undef)::L) C)(hi:ops[i]?=some ⟨some d,op,ty,pos,aft,some (j,want)⟩:=by rfl)(hj:(ops[j]?).bind (·.dst)=some dj:=by rfl)(hb:Qe.get L dj=some undef:=by rfl)(hok:Xl ops listed i=true:=by kernel_rfl)(hF:F.all (λf=>!Nat.beq f i)=true:=by rfl)(hd:Nat.blt d X.n=true:=by rfl):D X ops F B (fuel+1) listed k L C:=Qra i dj hi hj hb hok hF hd next
theorem dNi(next:S X k L (HS w0 M As))(hB:∀w,HS w0 M As w->B w:=by(intro w h;first|exact h|exact h.ent aEt))(hr:(Region.ready .any ops listed==[])=true:=by kernel_rfl):D X ops F B 0 listed k L (HS w0 M As):=QrL hr hB next
theorem dBa(next:D X ops F (HS w0 M As) fuel listed k L (HS w0 M As))(hB:∀w,HS w0 M As w->B w:=by(intro w h;exact h.ent aEt)):D X ops F B fuel listed k L (HS w0 M As):=Qp2 hB next
theorem dLd(i:Nat)(ps:List (List Nat)){t x b tot o:Nat}{bt:TypeId}{cs:List Value}{v:Value}(next:D X ops F (HS w0 M Bs) fuel (listed.setIfInBounds i true) k ((d,v)::L) C)(hi:ops[i]?=some ⟨some d,.load t (.tmp x),ty,pos,aft,none⟩:=by rfl)(hx:Qe.get L x=some (.pointer (some ⟨b,o,none⟩)):=by rfl)(h1:TSz X.P t 1 false:=by infer_instance)(hp:Qv Bs (.blk b bt tot cs) As':=by repeat (first|exact .here|apply Qv.there))(hv:cs[o]?=some v:=by rfl)(hok:Xl ops listed i=true:=by kernel_rfl)(hF:ZT ops F i ps=true:=by kernel_rfl)(hn:Qco F listed=true:=by kernel_rfl)(hd:Nat.blt d X.n=true:=by rfl):D X ops F (HS w0 M Bs) (fuel+1) listed k L C:=d_q i ps hi (X8 rfl hx h1.h hp hv) hok hF hn hd next
theorem dLn(i:Nat)(ps:List (List Nat)){t x b tot o n:Nat}{bt:TypeId}{cs:List Value}(next:D X ops F (HS w0 M Bs) fuel (listed.setIfInBounds i true) k ((d,.agg (cut cs o n).toArray)::L) C)(hi:ops[i]?=some ⟨some d,.load t (.tmp x),ty,pos,aft,none⟩:=by rfl)(hx:Qe.get L x=some (.pointer (some ⟨b,o,none⟩)):=by rfl)(h1:TSz X.P t n true:=by infer_instance)(hp:Qv Bs (.blk b bt tot cs) As':=by repeat (first|exact .here|apply Qv.there))(hl:Nat.ble (o+n) cs.length=true:=by rfl)(hok:Xl ops listed i=true:=by kernel_rfl)(hF:ZT ops F i ps=true:=by kernel_rfl)(hn:Qco F listed=true:=by kernel_rfl)(hd:Nat.blt d X.n=true:=by rfl):D X ops F (HS w0 M Bs) (fuel+1) listed k L C:=d_q i ps hi (Qd3 rfl hx h1.h hp hl) hok hF hn hd next
end
section
variable{X:Ctx}{ops:Array Oper}{F:List Nat}{fuel:Nat}{listed:Array Bool}{rest:List Oper}{k:List KI}{L:Qe}{d ty:Nat}{pos:String}{aft:Array Edge}{w0:World}{M:List Nat}{As As':List HA}
theorem oSt{t x b tot i n:Nat}{y:Operand}{bt:TypeId}{ag:Bool}{cs:List Value}{v:Value}[hs:TSz X.P t n ag](next:O X ops rest k L (HS w0 M As'))(hx:Qe.get L x=some (.pointer (some ⟨b,i,none⟩)):=by rfl)(hy:ev L y=some v:=by rfl)(hn:v.cells.toList.length=n:=by rfl)
  (hp:Put As (.blk b bt tot cs) (.blk b bt tot (Qu cs i v.cells.toList)) As':=by repeat (first|exact .here|apply Put.there))(hl:i+n<=cs.length:=by(simp only[Qb,List.length_set,List.length_cons,List.length_nil,List.length_map];omega))(h1:v.cells.toList.all (·.oneCell')=true:=by rfl) :
  O X ops (⟨none,.store t (.tmp x) y,ty,pos,aft,none⟩::rest) k L (HS w0 M As):=Qcq (XW rfl hx hy hs.h hn hp hl h1) λ_ _=>next
theorem oAl{t:TypeId}{z:List Value}(next:∀b,True->O X ops rest k ((d,.pointer (some ⟨b,0,none⟩))::L) (HS w0 M (.blk b t z.length z::As)))(hz:Xs X.P t=some z)(hd:Nat.blt d X.n=true:=by rfl):O X ops (⟨some d,.alloc t,ty,pos,aft,none⟩::rest) k L (HS w0 M As):=o_h (Xf rfl hz) hd next
theorem oBx{t:TypeId}{x:Operand}{v:Value}(next:∀b,True->O X ops rest k ((d,.pointer (some ⟨b,0,none⟩))::L) (HS w0 M (.blk b t v.cells.toList.length v.cells.toList::As)))(hx:ev L x=some v:=by rfl)(hd:Nat.blt d X.n=true:=by rfl):O X ops (⟨some d,.box t x,ty,pos,aft,none⟩::rest) k L (HS w0 M As):=o_h (Qj8 rfl hx) hd next
theorem oWr{v:Int}{C:World->Prop}(next:O X ops rest k ((d,.int .i64 v)::L) C)(h1: -9223372036854775808<=v:=by omega)(h2:v<=9223372036854775807:=by omega):O X ops rest k ((d,.int .i64 (IntKind.i64.wrap v))::L) C:=Ql (Qh8 h1 h2) next
theorem dWr{v:Int}{C B:World->Prop}(next:D X ops F B fuel listed k ((d,.int .i64 v)::L) C)(h1: -9223372036854775808<=v:=by omega)(h2:v<=9223372036854775807:=by omega):D X ops F B fuel listed k ((d,.int .i64 (IntKind.i64.wrap v))::L) C:=Qs (Qh8 h1 h2) next
theorem dSt{B:World->Prop}(i:Nat){t x b tot o n:Nat}{y:Operand}{bt:TypeId}{ag:Bool}{cs:List Value}{v:Value}(next:D X ops F B fuel (listed.setIfInBounds i true) k L (HS w0 M As'))(hi:ops[i]?=some ⟨none,.store t (.tmp x) y,ty,pos,aft,none⟩:=by rfl)(hx:Qe.get L x=some (.pointer (some ⟨b,o,none⟩)):=by rfl)(hy:ev L y=some v:=by rfl)(hs:TSz X.P t n ag:=by infer_instance)(hn:v.cells.toList.length=n:=by rfl)
  (hp:Put As (.blk b bt tot cs) (.blk b bt tot (Qu cs o v.cells.toList)) As':=by repeat (first|exact .here|apply Put.there))(hl:o+n<=cs.length)(h1:v.cells.toList.all (·.oneCell')=true:=by rfl)(hr:(Region.ready .any ops listed==[i])=true:=by kernel_rfl)(hB:∀w,HS w0 M As w->B w:=by(intro w h;exact h.ent aEt)) :
  D X ops F B (fuel+1) listed k L (HS w0 M As):=QoD i hi (XW rfl hx hy hs.h hn hp hl h1) hr hB λ_ _=>next
theorem dTu{B:World->Prop}(F':List Nat)(next:D X ops F' (HS w0 M As) fuel listed k L (HS w0 M As))(hf:F.any (λf=>listed.getD f false)=true:=by kernel_rfl):D X ops F B fuel listed k L (HS w0 M As):=QqN F' hf next
end
section
variable{X:Ctx}{ops:Array Oper}{F:List Nat}{fuel:Nat}{listed:Array Bool}{k:List KI}{L:Qe}{d ty:Nat}{pos:String}{aft:Array Edge}{op:Op}{w0:World}{M:List Nat}{As Bs:List HA}
theorem dQ{C:World->Prop}{v:Value}(i:Nat)(ps:List (List Nat))(hi:ops[i]?=some ⟨some d,op,ty,pos,aft,none⟩)(h:OpQ X.P ⟨some d,op,ty,pos,aft,none⟩ L (HS w0 M Bs) v)(next:D X ops F (HS w0 M Bs) fuel (listed.setIfInBounds i true) k ((d,v)::L) C)(hok:Xl ops listed i=true:=by kernel_rfl)(hF:ZT ops F i ps=true:=by kernel_rfl)(hn:Qco F listed=true:=by kernel_rfl)(hd:Nat.blt d X.n=true:=by rfl):D X ops F (HS w0 M Bs) (fuel+1) listed k L C:=d_q i ps hi h hok hF hn hd next
theorem dV{C:World->Prop}{B:World->Prop}{v:Value}(i:Nat)(hi:ops[i]?=some ⟨some d,op,ty,pos,aft,none⟩)(h:OpP X.P ⟨some d,op,ty,pos,aft,none⟩ L v)(next:D X ops F B fuel (listed.setIfInBounds i true) k ((d,v)::L) C)(hok:Xl ops listed i=true:=by kernel_rfl)(hF:F.all (λf=>!Nat.beq f i)=true:=by rfl)(hd:Nat.blt d X.n=true:=by rfl):D X ops F B (fuel+1) listed k L C:=d_p i hi h hok hF hd next
theorem dH{B:World->Prop}{G:Type}{V:G->Value}{Fg:G->Prop}{C':G->World->Prop}(i:Nat)(hi:ops[i]?=some ⟨some d,op,ty,pos,aft,none⟩)(h:OpH X.P ⟨some d,op,ty,pos,aft,none⟩ L (HS w0 M As) V Fg C')(next:∀g,Fg g->D X ops F B fuel (listed.setIfInBounds i true) k ((d,V g)::L) (C' g))(hr:(Region.ready .any ops listed==[i])=true:=by kernel_rfl)(hB:∀w,HS w0 M As w->B w:=by(intro w h;exact h.ent aEt))(hd:Nat.blt d X.n=true:=by rfl):D X ops F B (fuel+1) listed k L (HS w0 M As):=d_h i hi h hr hB hd next
theorem dVo{C:World->Prop}{B:World->Prop}{v:Value}{j:Nat}{want b:Bool}(i dj:Nat)(hw:b=want)(hi:ops[i]?=some ⟨some d,op,ty,pos,aft,some (j,want)⟩)(hj:(ops[j]?).bind (·.dst)=some dj)(hb:Qe.get L dj=some (.bool b))(h:OpP X.P ⟨some d,op,ty,pos,aft,none⟩ L v)(next:D X ops F B fuel (listed.setIfInBounds i true) k ((d,v)::L) C)(hok:Xl ops listed i=true:=by kernel_rfl)(hF:F.all (λf=>!Nat.beq f i)=true:=by rfl)(hd:Nat.blt d X.n=true:=by rfl):D X ops F B (fuel+1) listed k L C:=Qm2 i dj hi hj hb hw h hok hF hd next
theorem dQo{C:World->Prop}{v:Value}{j:Nat}{want b:Bool}(i dj:Nat)(ps:List (List Nat))(hw:b=want)(hi:ops[i]?=some ⟨some d,op,ty,pos,aft,some (j,want)⟩)(hj:(ops[j]?).bind (·.dst)=some dj)(hb:Qe.get L dj=some (.bool b))(h:OpQ X.P ⟨some d,op,ty,pos,aft,none⟩ L (HS w0 M Bs) v)(next:D X ops F (HS w0 M Bs) fuel (listed.setIfInBounds i true) k ((d,v)::L) C)(hok:Xl ops listed i=true:=by kernel_rfl)(hF:ZT ops F i ps=true:=by kernel_rfl)(hn:Qco F listed=true:=by kernel_rfl)(hd:Nat.blt d X.n=true:=by rfl):D X ops F (HS w0 M Bs) (fuel+1) listed k L C:=QrH i dj ps hi hj hb hw h hok hF hn hd next
theorem rT{t:Nat}{v:Value}(hr:X.fn.results=[ResultVar.tmp t].toArray)(hv:Qe.get L t=some v)(h:∀w,HS w0 M As w->X.R (.returned (QR [v])) w)(hrd:X.rd=none:=by rfl)(hdf:X.df=[]:=by rfl):S X (.c .ret::k) L (HS w0 M As):=Qf hr (.tmp hv .nil) h hrd hdf
end
theorem dT{p:Prop}[Decidable p]:(decide p=true)=p:=decide_eq_true_eq
theorem dN{p:Prop}[Decidable p]:decide p=false ↔ ¬p:=decide_eq_false_iff_not
class BP(b:Bool)(p n:outParam Prop):Prop where
 t:b=true->p
 f:b=false->n
instance(priority:=low) bp0(b:Bool):BP b (b=true) (b=false):=⟨id,id⟩
instance bpD(p:Prop)[Decidable p]:BP (decide p) p (¬p):=⟨of_decide_eq_true,of_decide_eq_false⟩
instance bpN(b:Bool)(p n:Prop)[h:BP b p n]:BP (!b) n p:=⟨λh9=>h.f (by simpa using h9),λh9=>h.t (by simpa using h9)⟩
instance bpA(a b:Bool)(p n p' n':Prop)[h:BP a p n][h':BP b p' n']:BP (a&&b) (p/\p') (n\/n'):=⟨λh9=>⟨h.t (by simp at h9;exact h9.1),h'.t (by simp at h9;exact h9.2)⟩,λh9=>by cases a with
 | true=>exact .inr (h'.f (by simpa using h9))
 | false=>exact .inl (h.f rfl)⟩
instance bpO(a b:Bool)(p n p' n':Prop)[h:BP a p n][h':BP b p' n']:BP (a||b) (p\/p') (n/\n'):=⟨λh9=>by cases a with
 | true=>exact .inl (h.t rfl)
 | false=>exact .inr (h'.t (by simpa using h9)),λh9=>⟨h.f (by simp at h9;exact h9.1),h'.f (by simp at h9;exact h9.2)⟩⟩
class TFn(P:Program)(f:Nat):Prop where h:QE P f=true
section
variable{X:Ctx}{k:List KI}{L:Qe}{C:World->Prop}
theorem sCd{c:Operand}{x y:Code}{b:Bool}{p n:Prop}(hc:ev L c=some (.bool b))[hB:BP b p n](ht:p->S X (.c x::k) L C)(hf:n->S X (.c y::k) L C):S X (.c (.cond c x y)::k) L C:=QqG hc (λh=>ht (hB.t h)) λh=>hf (hB.f h)
variable{ops:Array Oper}{rest:List Oper}{d ty:Nat}{pos:String}{aft:Array Edge}{op:Op}
theorem XH(m dj dp:Nat){b c:Bool}{p n:Prop}{l:List Oper}(hb:Qe.get L dj=some (.bool b))[hB:BP b p n]
  (h1:b=true->p->O X ops (l.take m) (.join (At X.n X.df (λ_:Unit=>(dp,.bool c)::L) (λ_=>C))::k) L C)
  (h0:b=false->n->O X ops (l.take m) (.join (At X.n X.df (λ_:Unit=>(dp,.bool false)::L) (λ_=>C))::k) L C)
  (h2:O X ops (l.drop m) k ((dp,.bool (b&&c))::L) C):O X ops l k L C:=Qrw m dj dp b c hb (λh=>h1 h (hB.t h)) (λh=>h0 h (hB.f h)) h2
theorem oOr(m dj dp:Nat){b c:Bool}{p n:Prop}{l:List Oper}(hb:Qe.get L dj=some (.bool b))[hB:BP b p n]
  (h1:b=false->n->O X ops (l.take m) (.join (At X.n X.df (λ_:Unit=>(dp,.bool c)::L) (λ_=>C))::k) L C)
  (h0:b=true->p->O X ops (l.take m) (.join (At X.n X.df (λ_:Unit=>(dp,.bool true)::L) (λ_=>C))::k) L C)
  (h2:O X ops (l.drop m) k ((dp,.bool (b||c))::L) C):O X ops l k L C:=o_or m dj dp b c hb (λh=>h1 h (hB.f h)) (λh=>h0 h (hB.t h)) h2
theorem oNo{j dj:Nat}{want b:Bool}{dst:Option Nat}(next:O X ops (⟨dst,op,ty,pos,aft,none⟩::rest) k L C)(hj:(ops[j]?).bind (·.dst)=some dj:=by rfl)(hs:Qe.get L dj=some (.bool b):=by rfl)(hb:b=want:=by assumption):O X ops (⟨dst,op,ty,pos,aft,some (j,want)⟩::rest) k L C:=o_on dj b hj hs hb next
theorem oFt{j dj:Nat}{b:Bool}(next:O X ops rest k ((d,undef)::L) C)(hj:(ops[j]?).bind (·.dst)=some dj:=by rfl)(hs:Qe.get L dj=some (.bool b):=by rfl)(hb:b=false:=by assumption)(hd:Nat.blt d X.n=true:=by rfl):O X ops (⟨some d,op,ty,pos,aft,some (j,true)⟩::rest) k L C:=QpK dj b hj hs hb hd next
theorem oFf{j dj:Nat}{b:Bool}(next:O X ops rest k ((d,undef)::L) C)(hj:(ops[j]?).bind (·.dst)=some dj:=by rfl)(hs:Qe.get L dj=some (.bool b):=by rfl)(hb:b=true:=by assumption)(hd:Nat.blt d X.n=true:=by rfl):O X ops (⟨some d,op,ty,pos,aft,some (j,false)⟩::rest) k L C:=QpK dj b hj hs hb hd next
theorem oFu{j dj:Nat}{want:Bool}(next:O X ops rest k ((d,undef)::L) C)(hj:(ops[j]?).bind (·.dst)=some dj:=by rfl)(hs:Qe.get L dj=some undef:=by rfl)(hd:Nat.blt d X.n=true:=by rfl):O X ops (⟨some d,op,ty,pos,aft,some (j,want)⟩::rest) k L C:=Qp6 dj hj hs hd next
variable{w0:World}{M:List Nat}{As:List HA}
theorem rV{t:Nat}{v v':Value}(hr:X.fn.results=[ResultVar.tmp t].toArray:=by rfl)(hv:Qe.get L t=some v:=by rfl)(hR:X.R=λen w'=>en=.returned v'/\Below w0.heap.size w0 w':=by rfl)(hrd:X.rd=none:=by rfl)(hdf:X.df=[]:=by rfl)(h:Ending.returned (QR [v])=.returned v':=by rfl):S X (.c .ret::k) L (HS w0 [] As):=Qf hr (.tmp hv .nil) (λw' h'=>hR▸⟨h,h'.below⟩) hrd hdf
theorem oCq{f:FuncId}{args:Array Operand}{vs:List Value}{v:Value}{at':Array TypeId}(ha:evs L args.toList=some vs)[hf:TFn X.P f](hc:∀w,HS w0 M As w->Calls X.P f vs.toArray w λe w'=>e=.returned v/\Below w.heap.size w w')(next:O X ops rest k ((d,v)::L) (HS w0 M As))(hd:Nat.blt d X.n=true:=by rfl) :
  O X ops (⟨some d,.call {callee:=.value (.func f),args:=args,argTypes:=at'},ty,pos,aft,none⟩::rest) k L (HS w0 M As):=o_q (Qh rfl hf.h ha hc) hd next
theorem oCh{G:Type}{V:G->Value}{F:G->Prop}{Bs:G->List HA}{f:FuncId}{args:Array Operand}{vs:List Value}{at':Array TypeId}(ha:evs L args.toList=some vs)[hf:TFn X.P f](hc:∀w,HS w0 M As w->Calls X.P f vs.toArray w λe w'=>∃g,e=.returned (V g)/\F g/\HS w [] (Bs g) w')(next:∀g,F g->O X ops rest k ((d,V g)::L) (HS w0 M (Bs g++As)))(hd:Nat.blt d X.n=true:=by rfl) :
  O X ops (⟨some d,.call {callee:=.value (.func f),args:=args,argTypes:=at'},ty,pos,aft,none⟩::rest) k L (HS w0 M As):=o_h (QT rfl hf.h ha hc) hd next
theorem sBk{α:Type}{LJ:α->Qe}{CJ:α->World->Prop}{I:α->Prop}{m:α->Nat}{x:α}(y:α)(hm:m y<m x:=by omega)(hI:I y:=by omega)(hL:QaX L (LJ y):=by repeat (first|exact QkO|refine QfM rfl ?_))(hC:∀w,HS w0 M As w->CJ y w:=by(intro w h;exact h.ent aEt)):S X (.join (Qmi X.n X.df LJ CJ I m x)::k) L (HS w0 M As):=QQ y hm hI hL hC
end
section
variable{X:Ctx}{k:List KI}{L:Qe}{C:World->Prop}{ops:Array Oper}{rest:List Oper}{d ty:Nat}{pos:String}{aft:Array Edge}{op:Op}{LJ:Unit->Qe}{CJ:Unit->World->Prop}
theorem o0t{j dj:Nat}{b:Bool}(next:O X ops rest k L C)(hj:(ops[j]?).bind (·.dst)=some dj:=by rfl)(hs:Qe.get L dj=some (.bool b):=by rfl)(hb:b=false:=by assumption):O X ops (⟨none,op,ty,pos,aft,some (j,true)⟩::rest) k L C:=QmS dj b hj hs hb next
theorem o0f{j dj:Nat}{b:Bool}(next:O X ops rest k L C)(hj:(ops[j]?).bind (·.dst)=some dj:=by rfl)(hs:Qe.get L dj=some (.bool b):=by rfl)(hb:b=true:=by assumption):O X ops (⟨none,op,ty,pos,aft,some (j,false)⟩::rest) k L C:=QmS dj b hj hs hb next
theorem oJt(m dp:Nat){c x y:Operand}{b:Bool}{v:Value}(hc:ev L c=some (.bool b):=by rfl)(hb:b=true:=by assumption)(hx:ev L x=some v:=by rfl)(hd:Nat.blt dp X.n=true:=by rfl)(hJ:LJ ()=(dp,v)::((dp,v)::L).drop m:=by exact rfl)(hf:QeR ((dp,v)::L) m=true:=by exact rfl)(hC:∀w,C w->CJ () w:=by(intro w h;first|exact h|exact h.ent aEt)) :
  O X ops [⟨some dp,.pick c x y,ty,pos,aft,none⟩] (.join (At X.n X.df LJ CJ)::k) L C:=o_p (XI rfl hc hb hx) hd (Qm6 (Qko m dp v hJ (by rw[Qe.get_cons,if_pos rfl]) hf hC))
theorem oJf(m dp:Nat){c x y:Operand}{b:Bool}{v:Value}(hc:ev L c=some (.bool b):=by rfl)(hb:b=false:=by assumption)(hx:ev L y=some v:=by rfl)(hd:Nat.blt dp X.n=true:=by rfl)(hJ:LJ ()=(dp,v)::((dp,v)::L).drop m:=by exact rfl)(hf:QeR ((dp,v)::L) m=true:=by exact rfl)(hC:∀w,C w->CJ () w:=by(intro w h;first|exact h|exact h.ent aEt)) :
  O X ops [⟨some dp,.pick c x y,ty,pos,aft,none⟩] (.join (At X.n X.df LJ CJ)::k) L C:=o_p (Q8 rfl hc hb hx) hd (Qm6 (Qko m dp v hJ (by rw[Qe.get_cons,if_pos rfl]) hf hC))
end
section
variable{P:Program}{f:FuncId}{fn:Func}{n:Nat}{c:Code}{w w1:World}{R:Ending->World->Prop}{M:List Nat}{As:List HA}
theorem eN0(hf:P.funcs[f]?=some fn)(hn:fn.ntmps=n)(h:S {P:=P,fn:=fn,n:=n,R:=R} [.c c] (Qcs 0 []) (HS w [] []))(hb:fn.body=some c:=by rfl)(hl:Nat.ble 0 n=true:=by rfl):Calls P f #[] w R:=enter (args:=[]) hf hn hb hl (HS.refl w []) h
theorem eN1{x0:Value}(hf:P.funcs[f]?=some fn)(hn:fn.ntmps=n)(h:S {P:=P,fn:=fn,n:=n,R:=R} [.c c] (Qcs 0 [x0]) (HS w [] []))(hb:fn.body=some c:=by rfl)(hl:Nat.ble 1 n=true:=by rfl):Calls P f #[x0] w R:=enter (args:=[x0]) hf hn hb hl (HS.refl w []) h
theorem eW1{x0:Value}(hf:P.funcs[f]?=some fn)(hn:fn.ntmps=n)(hw:HS w1 M As w)(h:S {P:=P,fn:=fn,n:=n,R:=R} [.c c] (Qcs 0 [x0]) (HS w1 M As))(hb:fn.body=some c:=by rfl)(hl:Nat.ble 1 n=true:=by rfl):Calls P f #[x0] w R:=enter (args:=[x0]) hf hn hb hl hw h
theorem eN2{x0:Value}{x1:Value}(hf:P.funcs[f]?=some fn)(hn:fn.ntmps=n)(h:S {P:=P,fn:=fn,n:=n,R:=R} [.c c] (Qcs 0 [x0,x1]) (HS w [] []))(hb:fn.body=some c:=by rfl)(hl:Nat.ble 2 n=true:=by rfl):Calls P f #[x0,x1] w R:=enter (args:=[x0,x1]) hf hn hb hl (HS.refl w []) h
theorem eW2{x0:Value}{x1:Value}(hf:P.funcs[f]?=some fn)(hn:fn.ntmps=n)(hw:HS w1 M As w)(h:S {P:=P,fn:=fn,n:=n,R:=R} [.c c] (Qcs 0 [x0,x1]) (HS w1 M As))(hb:fn.body=some c:=by rfl)(hl:Nat.ble 2 n=true:=by rfl):Calls P f #[x0,x1] w R:=enter (args:=[x0,x1]) hf hn hb hl hw h
theorem eN3{x0:Value}{x1:Value}{x2:Value}(hf:P.funcs[f]?=some fn)(hn:fn.ntmps=n)(h:S {P:=P,fn:=fn,n:=n,R:=R} [.c c] (Qcs 0 [x0,x1,x2]) (HS w [] []))(hb:fn.body=some c:=by rfl)(hl:Nat.ble 3 n=true:=by rfl):Calls P f #[x0,x1,x2] w R:=enter (args:=[x0,x1,x2]) hf hn hb hl (HS.refl w []) h
theorem eW3{x0:Value}{x1:Value}{x2:Value}(hf:P.funcs[f]?=some fn)(hn:fn.ntmps=n)(hw:HS w1 M As w)(h:S {P:=P,fn:=fn,n:=n,R:=R} [.c c] (Qcs 0 [x0,x1,x2]) (HS w1 M As))(hb:fn.body=some c:=by rfl)(hl:Nat.ble 3 n=true:=by rfl):Calls P f #[x0,x1,x2] w R:=enter (args:=[x0,x1,x2]) hf hn hb hl hw h
theorem eN4{x0:Value}{x1:Value}{x2:Value}{x3:Value}(hf:P.funcs[f]?=some fn)(hn:fn.ntmps=n)(h:S {P:=P,fn:=fn,n:=n,R:=R} [.c c] (Qcs 0 [x0,x1,x2,x3]) (HS w [] []))(hb:fn.body=some c:=by rfl)(hl:Nat.ble 4 n=true:=by rfl):Calls P f #[x0,x1,x2,x3] w R:=enter (args:=[x0,x1,x2,x3]) hf hn hb hl (HS.refl w []) h
theorem eW4{x0:Value}{x1:Value}{x2:Value}{x3:Value}(hf:P.funcs[f]?=some fn)(hn:fn.ntmps=n)(hw:HS w1 M As w)(h:S {P:=P,fn:=fn,n:=n,R:=R} [.c c] (Qcs 0 [x0,x1,x2,x3]) (HS w1 M As))(hb:fn.body=some c:=by rfl)(hl:Nat.ble 4 n=true:=by rfl):Calls P f #[x0,x1,x2,x3] w R:=enter (args:=[x0,x1,x2,x3]) hf hn hb hl hw h
theorem eW5{x0:Value}{x1:Value}{x2:Value}{x3:Value}{x4:Value}(hf:P.funcs[f]?=some fn)(hn:fn.ntmps=n)(hw:HS w1 M As w)(h:S {P:=P,fn:=fn,n:=n,R:=R} [.c c] (Qcs 0 [x0,x1,x2,x3,x4]) (HS w1 M As))(hb:fn.body=some c:=by rfl)(hl:Nat.ble 5 n=true:=by rfl):Calls P f #[x0,x1,x2,x3,x4] w R:=enter (args:=[x0,x1,x2,x3,x4]) hf hn hb hl hw h
theorem eW6{x0:Value}{x1:Value}{x2:Value}{x3:Value}{x4:Value}{x5:Value}(hf:P.funcs[f]?=some fn)(hn:fn.ntmps=n)(hw:HS w1 M As w)(h:S {P:=P,fn:=fn,n:=n,R:=R} [.c c] (Qcs 0 [x0,x1,x2,x3,x4,x5]) (HS w1 M As))(hb:fn.body=some c:=by rfl)(hl:Nat.ble 6 n=true:=by rfl):Calls P f #[x0,x1,x2,x3,x4,x5] w R:=enter (args:=[x0,x1,x2,x3,x4,x5]) hf hn hb hl hw h
end
theorem aU{p q:Prop}(hq:q)(h:(Unit->q)->p:=by(intro hq;first|refine QrO ?_|refine Qn0 ?_|refine Qm6 ?_|refine Qq2 ?_|refine QoA ?_|refine Qpn ?_|refine oP ?_|refine oNo ?_|refine oFt ?_|refine oFf ?_|refine oFu ?_|refine o0t ?_|refine o0f ?_|refine oFa ?_|refine oLs ?_|refine oLd ?_|refine oLn ?_|refine oSt ?_);exact hq ()):p:=h λ_=>hq
theorem aT{p q:Prop}(hq:q)(h:(Unit->q)->p:=by(intro hq;refine aU ?_;try refine oWr ?_);exact hq ()):p:=h λ_=>hq
theorem aU2{p q:Prop}(hq:q)(h:(Unit->q)->p:=by(intro hq;iterate 2 refine aU ?_);exact hq ()):p:=h λ_=>hq
theorem aT2{p q:Prop}(hq:q)(h:(Unit->q)->p:=by(intro hq;(iterate 2 refine aU ?_);try refine oWr ?_);exact hq ()):p:=h λ_=>hq
theorem aU3{p q:Prop}(hq:q)(h:(Unit->q)->p:=by(intro hq;iterate 3 refine aU ?_);exact hq ()):p:=h λ_=>hq
theorem aT3{p q:Prop}(hq:q)(h:(Unit->q)->p:=by(intro hq;(iterate 3 refine aU ?_);try refine oWr ?_);exact hq ()):p:=h λ_=>hq
theorem aU4{p q:Prop}(hq:q)(h:(Unit->q)->p:=by(intro hq;iterate 4 refine aU ?_);exact hq ()):p:=h λ_=>hq
theorem aT4{p q:Prop}(hq:q)(h:(Unit->q)->p:=by(intro hq;(iterate 4 refine aU ?_);try refine oWr ?_);exact hq ()):p:=h λ_=>hq
theorem aU5{p q:Prop}(hq:q)(h:(Unit->q)->p:=by(intro hq;iterate 5 refine aU ?_);exact hq ()):p:=h λ_=>hq
theorem aT5{p q:Prop}(hq:q)(h:(Unit->q)->p:=by(intro hq;(iterate 5 refine aU ?_);try refine oWr ?_);exact hq ()):p:=h λ_=>hq
theorem aU6{p q:Prop}(hq:q)(h:(Unit->q)->p:=by(intro hq;iterate 6 refine aU ?_);exact hq ()):p:=h λ_=>hq
theorem aT6{p q:Prop}(hq:q)(h:(Unit->q)->p:=by(intro hq;(iterate 6 refine aU ?_);try refine oWr ?_);exact hq ()):p:=h λ_=>hq
theorem aU7{p q:Prop}(hq:q)(h:(Unit->q)->p:=by(intro hq;iterate 7 refine aU ?_);exact hq ()):p:=h λ_=>hq
theorem aT7{p q:Prop}(hq:q)(h:(Unit->q)->p:=by(intro hq;(iterate 7 refine aU ?_);try refine oWr ?_);exact hq ()):p:=h λ_=>hq
theorem aU8{p q:Prop}(hq:q)(h:(Unit->q)->p:=by(intro hq;iterate 8 refine aU ?_);exact hq ()):p:=h λ_=>hq
theorem aT8{p q:Prop}(hq:q)(h:(Unit->q)->p:=by(intro hq;(iterate 8 refine aU ?_);try refine oWr ?_);exact hq ()):p:=h λ_=>hq
theorem aU9{p q:Prop}(hq:q)(h:(Unit->q)->p:=by(intro hq;iterate 9 refine aU ?_);exact hq ()):p:=h λ_=>hq
theorem aT9{p q:Prop}(hq:q)(h:(Unit->q)->p:=by(intro hq;(iterate 9 refine aU ?_);try refine oWr ?_);exact hq ()):p:=h λ_=>hq
theorem Zn{p q:Prop}(hq:q)(h:(Unit->q)->p:=by(intro hq;iterate 10 refine aU ?_);exact hq ()):p:=h λ_=>hq
theorem QoU{p q:Prop}(hq:q)(h:(Unit->q)->p:=by(intro hq;(iterate 10 refine aU ?_);try refine oWr ?_);exact hq ()):p:=h λ_=>hq
theorem ZW{p q:Prop}(hq:q)(h:(Unit->q)->p:=by(intro hq;iterate 11 refine aU ?_);exact hq ()):p:=h λ_=>hq
theorem aT11{p q:Prop}(hq:q)(h:(Unit->q)->p:=by(intro hq;(iterate 11 refine aU ?_);try refine oWr ?_);exact hq ()):p:=h λ_=>hq
theorem Qaf{p q:Prop}(hq:q)(h:(Unit->q)->p:=by(intro hq;iterate 12 refine aU ?_);exact hq ()):p:=h λ_=>hq
theorem Qak{p q:Prop}(hq:q)(h:(Unit->q)->p:=by(intro hq;iterate 13 refine aU ?_);exact hq ()):p:=h λ_=>hq
theorem aT13{p q:Prop}(hq:q)(h:(Unit->q)->p:=by(intro hq;(iterate 13 refine aU ?_);try refine oWr ?_);exact hq ()):p:=h λ_=>hq
theorem Qfd{p q:Prop}(hq:q)(h:(Unit->q)->p:=by(intro hq;iterate 14 refine aU ?_);exact hq ()):p:=h λ_=>hq
theorem aT14{p q:Prop}(hq:q)(h:(Unit->q)->p:=by(intro hq;(iterate 14 refine aU ?_);try refine oWr ?_);exact hq ()):p:=h λ_=>hq
theorem aU15{p q:Prop}(hq:q)(h:(Unit->q)->p:=by(intro hq;iterate 15 refine aU ?_);exact hq ()):p:=h λ_=>hq
theorem Qqa{p q:Prop}(hq:q)(h:(Unit->q)->p:=by(intro hq;iterate 16 refine aU ?_);exact hq ()):p:=h λ_=>hq
theorem aU17{p q:Prop}(hq:q)(h:(Unit->q)->p:=by(intro hq;iterate 17 refine aU ?_);exact hq ()):p:=h λ_=>hq
theorem Qrm{p q:Prop}(hq:q)(h:(Unit->q)->p:=by(intro hq;iterate 19 refine aU ?_);exact hq ()):p:=h λ_=>hq
theorem aU21{p q:Prop}(hq:q)(h:(Unit->q)->p:=by(intro hq;iterate 21 refine aU ?_);exact hq ()):p:=h λ_=>hq
end Gx
namespace Go.Proofs
open Go Go.RowKit Gx
instance:TSe Tryz.prog 22 87:=⟨Tryz.underlying22⟩
instance:TSe Tryz.prog 26 119:=⟨Tryz.underlying26⟩
instance:TSe Tryz.prog 59 28:=⟨Tryz.underlying59⟩
instance:TSe Tryz.prog 60 4:=⟨Tryz.underlying60⟩
instance:TSe Tryz.prog 61 72:=⟨Tryz.underlying61⟩
instance:TSe Tryz.prog 65 3:=⟨Tryz.underlying65⟩
instance:TSe Tryz.prog 85 50:=⟨Tryz.underlying85⟩
instance:TSe Tryz.prog 124 5:=⟨Tryz.underlying124⟩
instance:TSe Tryz.prog 139 34:=⟨Tryz.underlying139⟩
instance:TSe Tryz.prog 211 26:=⟨Tryz.underlying211⟩
/-- A call that answers v and writes to no old block. -/
abbrev CR(f:FuncId)(x:Array Value)(w:World)(v:Value):Prop:=Calls Tryz.prog f x w λen w'=>en=.returned v/\Below w.heap.size w w'
/-- A call that makes blocks. -/
abbrev CE{G:Type}(f:FuncId)(x:Array Value)(w:World)(M:List Nat)(V:G->Value)(F:G->Prop)(B:G->List HA):Prop:=Calls Tryz.prog f x w λen w'=>∃g,en=.returned (V g)/\F g/\HS w M (B g) w'
end Go.Proofs
/- What chapter 13's texts stand on. -/
namespace Go.Proofs
open Go Go.RowKit Gx
attribute [local irreducible] Go.Calls Gx.S Gx.O Gx.D Gx.OpP Gx.OpQ Gx.OpH
set_option maxRecDepth 20000
theorem Xn:tsl Tryz.prog 139=some (34,1,8):=by kernel_rfl
theorem ZK:tsz Tryz.prog 34=some (1,false):=by kernel_rfl
instance:TSz Tryz.prog 34 1 false:=⟨ZK⟩
instance:TFn Tryz.prog 171:=⟨by kernel_rfl⟩
theorem QaM:QE Tryz.prog 133=true:=by kernel_rfl
instance:TFn Tryz.prog 133:=⟨QaM⟩
instance:TFn Tryz.prog 172:=⟨by kernel_rfl⟩
theorem XK:Xs Tryz.prog 34=some [.int .i64 0]:=by kernel_rfl
theorem Qfq:QE Tryz.prog 132=true:=by kernel_rfl
instance:TFn Tryz.prog 132:=⟨Qfq⟩
instance:TFn Tryz.prog 56:=⟨by kernel_rfl⟩
theorem Qls(w:World)(n lo hi:Int):CR 171 #[.int .i64 n,.int .i64 lo,.int .i64 hi] w (.bool (decide (lo<=n)&&decide (n<=hi))):=by
 refine eN3 Tryz.func171 Tryz.ntmps171 ?_
 refine Zn ?_
 refine XH 4 10 14 rfl
  (λhg1 _=>by
   refine aU6 ?_
   exact oJt 4 14)
  (λhg3 _=>by
   refine aU3 ?_
   exact oJf 4 14) ?_
 refine aU2 ?_
 exact rV
theorem c56(w:World)(n lo hi:Int):CR 56 #[.int .i64 n,.int .i64 lo,.int .i64 hi] w (.bool (decide (lo<=n)&&decide (n<=hi))):=by
 refine eN3 Tryz.func56 Tryz.ntmps56 ?_
 refine Zn ?_
 refine XH 4 10 14 rfl
  (λhg1 _=>by
   refine aU6 ?_
   exact oJt 4 14)
  (λhg3 _=>by
   refine aU3 ?_
   exact oJf 4 14) ?_
 refine aU2 ?_
 exact rV
theorem Qa1(w:World)(ok:Bool)(e:Int):CR 133 #[.bool ok,.int .i64 e] w (.int .i64 (cond ok 0 e)):=by
 refine eN2 Tryz.func133 Tryz.ntmps133 ?_
 refine aU9 ?_
 refine sCd rfl (λh1=>?_) λh1=>?_
 ·refine aU4 ?_
  exact rV (h:=by simp_all[QR])
 refine aU6 ?_
 exact rV (h:=by simp_all[QR])
theorem c132(w:World)(a:Option Addr)(cap:Nat)(es:List Int)(hs:Sl w [] a 1 es.length (λi=>[.int .i64 (es.getD i 0)]))(hm:es.length<=1000):CR 132 #[.slice a es.length cap] w (.int .i64 (Yt es)):=by
 refine eN1 Tryz.func132 Tryz.ntmps132 ?_
 refine Qaf ?_
 refine Qt (α:=Nat) [2,4,7,8,9,10,11,12,13,14] (λk=>[(7,.int .i64 (k:Int))]) (λ_=>_) (λk=>k<=es.length/\Yt es=Yt (es.drop k)) (λk=>es.length-k) 0 ⟨om,rfl⟩ aSx (λw h=>h) (λk hk=>?_)
 obtain⟨hk1,hk2⟩:=hk
 refine aU5 ?_
 refine sCd rfl (λh1=>?_) λh1=>?_
 ·refine aU5 ?_
  refine o_p (Qa rfl rfl rfl Xn _ rfl om (hs.some om)) rfl (o_q (Qc rfl rfl ZK (hs.rd (i:=k) (j:=0) om rfl)) rfl (aU7 ?_))
  refine sCd rfl (λh2=>?_) λh2=>?_
  ·refine aU5 ?_
   exact rV (h:=by simp only[QR];rw[hk2,YI om,if_neg (by assumption)])
  refine aT4 ?_
  refine aU2 ?_
  exact QQ (k+1) om ⟨om,by rw[hk2,YI om,if_pos (by assumption)]⟩ aSx (λw h=>h)
 refine Qj rfl ?_
 refine aU4 ?_
 exact rV (h:=by simp only[QR];rw[hk2,Qcj om])
theorem Qjk{w0 w:World}{M:List Nat}{As As':List HA}{b cap n:Nat}{t:TypeId}{tot:Nat}{cs:List Value}(h:HS w0 M As w)(hp:Qv As (.blk b t tot cs) As')(hc:cs.all Qgu=true)(hn:cs.length=n)(hl:n<=1000) :
    Calls Tryz.prog 132 #[.slice (some ⟨b,0,none⟩) n cap] w λen w'=>en=.returned (.int .i64 (QK cs))/\Below w.heap.size w w':=by
  subst hn;have:=c132 w (some ⟨b,0,none⟩) cap (cs.map Go.RowKit.intOf) (by simpa using h.sl_ints hp hc) (by simpa using hl);rw[Qb3 hc]at this
  simpa using this
theorem c172(w:World)(n:Int):CR 172 #[.int .i64 n] w (.int .i64 (Xb n)):=by
 refine eN1 Tryz.func172 Tryz.ntmps172 ?_
 refine aU7 ?_
 refine oCq rfl (λw1 h1=>Qls w1 _ _ _) (oCq rfl (λw1 h1=>Qa1 w1 _ _) (aU2 ?_))
 exact rV (h:=by simp only[QR,Xb,cond_eq_ite,Bool.and_eq_true,decide_eq_true_eq])
theorem QaJ{a b:Int}:QK [.int .i64 a,.int .i64 b]=if a=0 then b else a:=by
  simp only[QK]
  grind
theorem c131(w:World)(co mo rm:Int):CR 131 #[.int .i64 co,.int .i64 mo,.int .i64 rm] w (.int .i64 (if Xb co=0 then Zs mo rm else Xb co)):=by
 refine eN3 Tryz.func131 Tryz.ntmps131 ?_
 refine aU7 ?_
 refine oCq rfl (λw1 h1=>Qls w1 _ _ _) (aU ?_)
 refine XH 6 10 16 rfl
  (λhg1 _=>by
   refine aU5 ?_
   refine o_p (Qa5 rfl rfl rfl om om om) rfl (aU3 ?_)
   refine oCq rfl (λw1 h1=>Qls w1 _ _ _) ?_
   exact oJt 6 16)
  (λhg3 _=>by
   refine aU5 ?_
   exact oJf 6 16) ?_
 refine aU5 ?_
 refine oCq rfl (λw1 h1=>c172 w1 _) (aU ?_)
 refine oCq rfl (λw1 h1=>Qa1 w1 _ _) (o_h (Qd (cs:=[_,_]) rfl rfl Xn XK rfl rfl rfl) rfl (λb5 _=>oCq rfl (λw1 h1=>Qjk h1 aPk (by rfl) (by rfl) (by decide)) (aU2 ?_)))
 exact rV (h:=by simp only[QR];rw[QaJ];simp only[Zs,cond_eq_ite,Bool.and_eq_true,decide_eq_true_eq])
theorem Zl:tki Tryz.prog 5=some .u8:=by kernel_rfl
theorem Yx:tki Tryz.prog 3=some .i64:=by kernel_rfl
def QoM(c:Int):Int:=if 97<=c/\c<=122 then c-32 else c
theorem Qht(u:UInt8):QoM (u.toNat:Int)=((Qb9 u).toNat:Int):=by
  have hu:=u.toNat_lt;unfold QoM Qb9
  by_cases h:97<=u/\u<=122
  · have h2:=h;rw[UInt8.le_iff_toNat_le,UInt8.le_iff_toNat_le]at h2;have e97:(97:UInt8).toNat=97:=rfl;have e122:(122:UInt8).toNat=122:=rfl;rw[e97,e122]at h2;rw[if_pos h,if_pos om,UInt8.toNat_sub_of_le _ _ (by rw[UInt8.le_iff_toNat_le];show 32<=_;omega)];show(u.toNat:Int)-32=((u.toNat-32:Nat):Int);omega
  · have h2:=h;rw[UInt8.le_iff_toNat_le,UInt8.le_iff_toNat_le]at h2;have e97:(97:UInt8).toNat=97:=rfl;have e122:(122:UInt8).toNat=122:=rfl;rw[e97,e122]at h2;rw[if_neg h,if_neg om]
theorem c60(w:World)(s:List UInt8)(at' c:Nat)(hm:s.length<=1000000000)(hc:c<=7)(hac:at'+c<=s.length):CR 60 #[.string (bs s),.int .i64 (at':Int),.int .i64 (c:Int)] w (.int .i64 (QaH s at' c)):=by
 refine eN3 Tryz.func60 Tryz.ntmps60 ?_
 refine aT13 ?_
 refine aU3 ?_
 refine Qt (α:=Nat) [7,8,11,12,13,14,15,16,17,18,19,20,21,22,23] (λj=>[(8,.int .i64 ((j:Int)-1)),(7,.int .i64 (QaH s (at'+j) (c-j)))]) (λ_=>_) (λj=>j<=c) (λj=>j) c (Nat.le_refl _) (by rw[Nat.sub_self];exact aSx) (λw h=>h) (λj hj=>?_)
 refine aU6 ?_
 refine sCd rfl (λh1=>?_) λh1=>?_
 ·obtain⟨i,rfl⟩:∃i,j=i+1:=⟨j-1,om⟩
  have hst:QaH s (at'+i) (c-i)=at1 s (at'+i)+256*QaH s (at'+(i+1)) (c-(i+1)):=by rw[show c-i=(c-(i+1))+1 by omega,QaH];rfl
  have hb1:=Zm s (at'+i)
  have hn6:=Qrl s (at'+(i+1)) (k:=c-(i+1)) om
  have hb9:=(s.getD (at'+i) 0).toNat_lt
  refine aT6 ?_
  refine aT4 ?_
  refine Ql (show _=Value.int .i64 ((at'+i:Nat):Int)from by congr 1;omega) (o_p (YF rfl rfl rfl Tryz.underlying9 (at'+i) om om) rfl ?_)
  refine o_p (Qk rfl rfl Zl Yx) rfl ?_
  try refine oWr ?_
  refine aT ?_
  refine Ql (show _=Value.int .i64 (QaH s (at'+i) (c-i))from by rw[hst];congr 1;show _*256+at1 s (at'+i)=_;omega) (aT6 ?_)
  refine aU2 ?_
  exact QQ i om om (by rw[show((i:Int)-1)=((i+1:Nat):Int)-1-1 from om];exact aSx) (λw h=>h)
 obtain rfl:j=0:=om
 rw[Nat.add_zero,Nat.sub_zero]
 refine Qj rfl ?_
 refine aU5 ?_
 exact rV
theorem QP:tsl Tryz.prog 124=some (5,1,1):=by kernel_rfl
theorem QaP:tsz Tryz.prog 5=some (1,false):=by kernel_rfl
theorem XX:tki Tryz.prog 146=some .u16:=by kernel_rfl
theorem mixed:Tryz.prog.follows .mixedOrders=true:=by kernel_rfl
theorem QmV:QE Tryz.prog 245=true:=by kernel_rfl
theorem XP:tki Tryz.prog 143=some .u32:=by kernel_rfl
instance:TFn Tryz.prog 234:=⟨by kernel_rfl⟩
instance:TFn Tryz.prog 235:=⟨by kernel_rfl⟩
theorem QqL:isCS Tryz.prog 233:=⟨_,Tryz.func233,rfl,rfl,by kernel_rfl,by kernel_rfl⟩
instance:TFn Tryz.prog 216:=⟨by kernel_rfl⟩
theorem c245(w:World)(a:Option Addr)(m cap:Nat)(x:List UInt8)(hs:Vl w a (x.map bv))(hm:x.length=m)(h2:2<=m)(hc:m<=cap)(hc9:cap<=9223372036854775807):CR 245 #[.slice a m cap] w (.int .u16 (at2 x 0)):=by
 refine eN1 Tryz.func245 Tryz.ntmps245 ?_
 refine aU5 ?_
 refine Qp [] mixed ?_
 refine dP 0 ?_
 refine dV 1 rfl (Qa rfl rfl rfl QP 0 rfl om (hs.some (by rw[List.length_map];omega))) (dQ 2 [] rfl (Qc rfl rfl QaP ((hs.rd (i:=0) (X9 (l:=x) (k:=0) om)))) (dV 3 rfl (Qk rfl rfl Zl XX) (dP 4 ?_)))
 refine dV 5 rfl (Qa rfl rfl rfl QP 1 rfl om (hs.some (by rw[List.length_map];omega))) (dQ 6 [] rfl (Qc rfl rfl QaP ((hs.rd (i:=1) (X9 (l:=x) (k:=1) om)))) (dV 7 rfl (Qk rfl rfl Zl XX) (dV 8 rfl (Qfj rfl rfl rfl (by decide) 8 rfl) (dP 9 ?_))))
 refine dP 10 ?_
 refine dNi ?_
 exact rV (h:=by rw[<-Qep];rfl)
theorem c234(w:World)(a:Option Addr)(m cap:Nat)(x:List UInt8)(hs:Vl w a (x.map bv))(hm:x.length=m)(h2:4<=m)(hc:m<=cap)(hc9:cap<=9223372036854775807):CR 234 #[.slice a m cap] w (.int .u32 (at4 x 0)):=by
 have hx2:=YC x 0
 have hx3:=YC x 2
 refine eN1 Tryz.func234 Tryz.ntmps234 ?_
 refine aU5 ?_
 refine Qp [] mixed ?_
 refine dP 0 ?_
 refine dQ 1 [] rfl (Qh rfl QmV rfl (λw1 h1=>c245 w1 a m cap x (hs.later h1) hm om hc hc9)) (dV 2 rfl (Qk rfl rfl XX XP) (dP 3 ?_))
 refine dV 4 rfl (QM _ _ 2 m rfl rfl QP ⟨_,_,rfl,rfl⟩ rfl om om) (dQ 5 [] rfl (Qh rfl QmV rfl (λw1 h1=>c245 w1 (X1 a cap 2 1) (m-2) (cap-2) (x.drop 2) (by rw[List.map_drop];exact(hs.later h1).drop (by rw[List.length_map];omega) om) (by rw[List.length_drop];omega) om om om)) (dV 6 rfl (Qk rfl rfl XX XP) (dV 7 rfl (Qfj rfl rfl rfl (by decide) 16 rfl) (dP 8 ?_))))
 refine dP 9 ?_
 refine dNi ?_
 exact rV (h:=by have h9:=Qfy (at2 x 0) (at2 (x.drop 2) 0) (YC _ _) (YC _ _);rw[ZS]at h9 ⊢;exact(congrArg Ending.returned h9))
theorem QqS(w:World)(s:List UInt8)(p:Nat)(hm:s.length<=1000000)(hp:p+4<=s.length):CR 217 #[.string (bs s),.int .i64 (p:Int)] w (.int .u32 (at4 s p)):=by
 have h4:=Qaj s p
 have hdl:(s.drop p).length=s.length-p:=List.length_drop
 refine eN2 Tryz.func217 Tryz.ntmps217 ?_
 refine aU8 ?_
 refine o_p (Yo p rfl rfl rfl Tryz.underlying9 rfl om) rfl (o_h (Qc9 rfl rfl Tryz.underlying9 Tryz.underlying124 Tryz.underlying5 rfl (by simp only[maxLen];omega)) rfl (λ⟨b1,c2⟩⟨h3,k4⟩=>oCq rfl (λw1 h1=>by have h9:=c234 w1 (some ⟨b1,0,none⟩) (s.drop p).length c2 (s.drop p) (h1.vl_blk aPk) rfl om (by assumption) (by have hq9:c2<=maxLen:=(by assumption);simp only[maxLen]at hq9;omega);rw[Zh,Nat.add_zero]at h9;exact h9) (aU2 ?_)))
 exact rV
theorem c235(w:World)(x:Int):CR 235 #[.int .u32 x] w (.bool false):=by
 refine eN1 Tryz.func235 Tryz.ntmps235 ?_
 refine ZW ?_
 exact rV (h:=by simp[QR])
theorem c218(w:World)(x y:Int):CR 218 #[.int .u32 x,.int .u32 y] w (.int .i64 (Ym x y)):=by
 refine eN2 Tryz.func218 Tryz.ntmps218 ?_
 refine aU7 ?_
 refine oCq rfl (λw1 h1=>c235 w1 _) (aU5 ?_)
 refine oCq rfl (λw1 h1=>c235 w1 _) (aU7 ?_)
 refine sCd rfl (λh1=>?_) λh1=>?_
 ·exfalso;simp at h1
 refine aU6 ?_
 refine sCd rfl (λh2=>?_) λh2=>?_
 ·exfalso;simp at h2
 refine aU8 ?_
 refine sCd rfl (λh3=>?_) λh3=>?_
 ·have hz:Ym x y= -1:=by have hq:=h3;unfold Ym;rw[if_pos hq]
  refine aU4 ?_
  exact rV (h:=by rw[hz];rfl)
 refine aU8 ?_
 refine sCd rfl (λh4=>?_) λh4=>?_
 ·have hz:Ym x y=1:=by have hq:=h4;unfold Ym;rw[if_neg om,if_pos hq]
  refine aU4 ?_
  exact rV (h:=by rw[hz];rfl)
 have hz:Ym x y=0:=by have hq:=h4;unfold Ym;rw[if_neg om,if_neg hq]
 refine aU5 ?_
 exact rV (h:=by rw[hz];rfl)
theorem c216(w:World)(a b:List UInt8):CR 216 #[.string (bs a),.string (bs b)] w (.int .i64 (X7 a b)):=by
 refine eN2 Tryz.func216 Tryz.ntmps216 ?_
 refine aU8 ?_
 refine o_q (Qh6 rfl rfl rfl QqL) rfl (aU2 ?_)
 exact rV
theorem c174(w:World)(a b:List UInt8):CR 174 #[.string (bs a),.string (bs b)] w (.int .i64 (X7 a b)):=by
 refine eN2 Tryz.func174 Tryz.ntmps174 ?_
 refine aU8 ?_
 refine oCq rfl (λw1 h1=>c216 w1 _ _) (aU2 ?_)
 exact rV
instance:TFn Tryz.prog 217:=⟨by kernel_rfl⟩
instance:TFn Tryz.prog 218:=⟨by kernel_rfl⟩
instance:TFn Tryz.prog 179:=⟨by kernel_rfl⟩
def QaE(s:List UInt8)(q:Nat):Bool:=(List.range q).all λi=>Qaq s (4*i)
theorem QkM{s:List UInt8}{q k:Nat}(hk:k<q)(h:2147483647<at4 s (4*k)):QaE s q=false:=by
  unfold QaE;rw[List.all_eq_false];exact⟨k,List.mem_range.2 hk,by unfold Qaq;simp;omega⟩
theorem Qhk{s:List UInt8}{k:Nat}(h:QaE s k=true)(h2:¬2147483647<at4 s (4*k)):QaE s (k+1)=true:=by
  unfold QaE at h ⊢;rw[List.range_succ,List.all_append,h];unfold Qaq;simp;omega
def Qbi(a b:List UInt8):Nat->Nat->Int
  | 0,_=>0
  | f+1,k=>if Ym (at4 a (4*k)) (at4 b (4*k))≠0 then Ym (at4 a (4*k)) (at4 b (4*k))else Qbi a b f (k+1)
theorem c179(w:World)(s:List UInt8)(q:Nat)(hm:s.length<=1000000)(hq:q<=1000):CR 179 #[.string (bs s),.int .i64 ((4*q:Nat):Int)] w (.bool (decide (s.length=4*q)&&QaE s q)):=by
 refine eN2 Tryz.func179 Tryz.ntmps179 ?_
 refine aU8 ?_
 refine o_p (QJ rfl rfl Tryz.underlying9) rfl (aU3 ?_)
 refine sCd rfl (λh1=>?_) λh1=>?_
 ·have hne:¬s.length=4*q:=by have hq9:=h1;omega
  refine aU4 ?_
  exact rV (h:=by simp[QR,hne])
 have heq:s.length=4*q:=by have hq9:=h1;omega
 refine aU7 ?_
 refine Qt (α:=Nat) [4,5,10,11,12,13,14,15,16,17,18] (λk=>[(5,.int .i64 ((4*k:Nat):Int))]) (λ_=>_) (λk=>k<=q/\QaE s k=true) (λk=>q-k) 0 ⟨Nat.zero_le _,rfl⟩ aSx (λw h=>h) (λk hx=>?_)
 obtain⟨hk1,hok⟩:=hx
 refine aU7 ?_
 refine sCd rfl (λh2=>?_) λh2=>?_
 ·have hk:k<q:=by omega
  refine aU7 ?_
  refine oCq rfl (λw1 h1=>QqS w1 s (4*k) om om) (aU2 ?_)
  refine sCd rfl (λh3=>?_) λh3=>?_
  ·have hz:=QkM hk h3
   refine aU4 ?_
   exact rV (h:=by simp[QR,hz])
  have hz:=Qhk hok h3
  refine aT5 ?_
  refine aU2 ?_
  exact QQ (k+1) om ⟨om,hz⟩ (by rw[show(((4*k:Nat)):Int)+4=((4*(k+1):Nat):Int)from om];exact aSx) (λw h=>h)
 obtain rfl:k=q:=om
 refine Qj rfl ?_
 refine aU4 ?_
 exact rV (h:=by simp[QR,heq,hok])
theorem c180(w:World)(a b:List UInt8)(q:Nat)(ha:a.length=4*q)(hb:b.length=4*q)(hq:q<=1000):CR 180 #[.string (bs a),.string (bs b)] w (.int .i64 (Qbi a b q 0)):=by
 refine eN2 Tryz.func180 Tryz.ntmps180 ?_
 refine Zn ?_
 refine Qt (α:=Nat) [4,5,6,7,8,9,10,11,12,13,14,15,16,17,18,19,20,21,22] (λk=>[(5,.int .i64 ((4*k:Nat):Int))]) (λ_=>_) (λk=>k<=q/\Qbi a b q 0=Qbi a b (q-k) k) (λk=>q-k) 0 ⟨Nat.zero_le _,rfl⟩ aSx (λw h=>h) (λk hx=>?_)
 obtain⟨hk1,hx2⟩:=hx
 refine aU5 ?_
 refine o_p (QJ rfl rfl Tryz.underlying9) rfl (aU2 ?_)
 refine sCd rfl (λh1=>?_) λh1=>?_
 ·have hk:k<q:=by omega
  have hst:Qbi a b (q-k) k=if Ym (at4 a (4*k)) (at4 b (4*k))≠0 then Ym (at4 a (4*k)) (at4 b (4*k))else Qbi a b (q-(k+1)) (k+1):=by rw[show q-k=(q-(k+1))+1 by omega,Qbi]
  refine aU7 ?_
  refine oCq rfl (λw1 h1=>QqS w1 a (4*k) om om) (aU2 ?_)
  refine oCq rfl (λw1 h1=>QqS w1 b (4*k) om om) (oCq rfl (λw1 h1=>c218 w1 _ _) (aU7 ?_))
  refine sCd rfl (λh2=>?_) λh2=>?_
  ·have hq9:Ym (at4 a (4*k)) (at4 b (4*k))≠0:=h2
   rw[hst,if_pos hq9]at hx2
   refine aU5 ?_
   exact rV (h:=by rw[hx2];rfl)
  have hq9:¬Ym (at4 a (4*k)) (at4 b (4*k))≠0:=by have hq8:=h2;simpa using hq8
  rw[hst,if_neg hq9]at hx2
  refine aT5 ?_
  refine aU2 ?_
  exact QQ (k+1) om ⟨om,hx2⟩ (by rw[show(((4*k:Nat)):Int)+4=((4*(k+1):Nat):Int)from om];exact aSx) (λw h=>h)
 obtain rfl:k=q:=om
 rw[Nat.sub_self,Qbi]at hx2
 refine Qj rfl ?_
 refine aU4 ?_
 exact rV (h:=by rw[hx2];rfl)
theorem c178(w:World)(s:List UInt8)(hm:s.length<=1000000):CR 178 #[.string (bs s)] w (.bool (Q3 2 s)):=by
 refine eN1 Tryz.func178 Tryz.ntmps178 ?_
 refine aU7 ?_
 refine oCq rfl (λw1 h1=>c179 w1 s 1 hm (by decide)) (aU2 ?_)
 exact rV (h:=by simp[QR,Q3,QaE,List.range_succ,List.range_zero])
theorem c181(w:World)(s:List UInt8)(hm:s.length<=1000000):CR 181 #[.string (bs s)] w (.bool (Q3 3 s)):=by
 refine eN1 Tryz.func181 Tryz.ntmps181 ?_
 refine aU7 ?_
 refine oCq rfl (λw1 h1=>c179 w1 s 2 hm (by decide)) (aU2 ?_)
 exact rV (h:=by simp[QR,Q3,QaE,List.range_succ,List.range_zero])
theorem c173(w:World)(s:List UInt8):CR 173 #[.string (bs s)] w (.bool (Q3 0 s)):=by
 refine eN1 Tryz.func173 Tryz.ntmps173 ?_
 refine aU7 ?_
 refine o_p (QJ rfl rfl Tryz.underlying9) rfl (oCq rfl (λw1 h1=>Qls w1 _ _ _) (aU2 ?_))
 exact rV (h:=by simp[QR,Q3,Bool.decide_and];first|done|(congr 1<;>simp<;>omega)|grind)
theorem c175(w:World)(s:List UInt8):CR 175 #[.string (bs s)] w (.bool (Q3 1 s)):=by
 refine eN1 Tryz.func175 Tryz.ntmps175 ?_
 refine aU7 ?_
 refine o_p (QJ rfl rfl Tryz.underlying9) rfl (oCq rfl (λw1 h1=>Qls w1 _ _ _) (aU2 ?_))
 exact rV (h:=by simp[QR,Q3,Bool.decide_and];first|done|(congr 1<;>simp<;>omega)|grind)
theorem Qmu:Xs Tryz.prog 205=some [.nilFunc,.nilFunc,.nilFunc,.nilFunc,.nilFunc,.nilFunc,.nilFunc,.nilFunc]:=by kernel_rfl
theorem QgX:YA Tryz.prog 165=some [(0,1),(1,1)]:=by kernel_rfl
theorem QgL:Xs Tryz.prog 165=some [.nilFunc,.nilFunc]:=by kernel_rfl
theorem Qha:tar Tryz.prog 205=some (4,165,2):=by kernel_rfl
theorem QmE:tsz Tryz.prog 205=some (8,true):=by kernel_rfl
instance:TSz Tryz.prog 205 8 true:=⟨QmE⟩
theorem Qjg:QE Tryz.prog 134=true:=by kernel_rfl
instance:TFn Tryz.prog 134:=⟨Qjg⟩
theorem Qhg:tsz Tryz.prog 165=some (2,true):=by kernel_rfl
instance:TSz Tryz.prog 165 2 true:=⟨Qhg⟩
theorem Qmq:tfd Tryz.prog 165 0=some (0,162):=by kernel_rfl
theorem Qqk:tsz Tryz.prog 162=some (1,false):=by kernel_rfl
def QdB(co:Int):Nat:=if co=0 then 173 else if co=1 then 175 else if co=2 then 178 else 181
def Qdl(co:Int):Nat:=if co=0 then 174 else if co=1 then 176 else 180
def Qaw(f:Nat):Value:=.func (.func f) #[] #[]
def ordV(co:Int):Value:=.agg #[Qaw (QdB co),Qaw (Qdl co)]
theorem Qqo(w:World):CR 134 #[] w (.agg #[Qaw (QdB 0),Qaw (Qdl 0),Qaw (QdB 1),Qaw (Qdl 1),Qaw (QdB 2),Qaw (Qdl 2),Qaw (QdB 3),Qaw (Qdl 3)]):=by
 refine eN0 Tryz.func134 Tryz.ntmps134 ?_
 refine aU2 ?_
 refine oAl (λb1 _=>?_) Qmu
 refine aU3 ?_
 refine o_p (Qw (cs:=[_,_]) rfl rfl QgX QgL rfl) rfl (o_p (Qw (cs:=[_,_]) rfl rfl QgX QgL rfl) rfl (o_p (Qw (cs:=[_,_]) rfl rfl QgX QgL rfl) rfl (o_p (Qw (cs:=[_,_]) rfl rfl QgX QgL rfl) rfl (o_p (QdK (cs:=[_,_,_,_,_,_,_,_]) rfl rfl Qha Qmu rfl) rfl (aU2 ?_)))))
 exact Qf (rs:=[.cell 0 205]) rfl (.cell rfl QmE aPk rfl (.nil)) (λw' h'=>⟨by rfl,h'.below⟩)
theorem QqP(co:Int):QE Tryz.prog (QdB co)=true:=by
  unfold QdB;split
  · kernel_rfl
  · split
    · kernel_rfl
    · split<;>kernel_rfl
theorem Qle(w:World)(j:Nat)(s:List UInt8)(hj:j<=3)(hm:s.length<=1000000):Calls Tryz.prog (QdB (j:Int)) #[.string (bs s)] w λen w'=>en=.returned (.bool (Q3 (j:Int) s))/\Below w.heap.size w w':=by
  match j,hj with
  | 0,_=>exact c173 w s
  | 1,_=>exact c175 w s
  | 2,_=>exact c178 w s hm
  | 3,_=>exact c181 w s hm
theorem Qft(j:Nat)(hj:j<=3):Value.agg (cut [Qaw (QdB 0),Qaw (Qdl 0),Qaw (QdB 1),Qaw (Qdl 1),Qaw (QdB 2),Qaw (Qdl 2),Qaw (QdB 3),Qaw (Qdl 3)] (j*2) 2).toArray=ordV (j:Int):=by
  match j,hj with
  | 0,_=>rfl
  | 1,_=>rfl
  | 2,_=>rfl
  | 3,_=>rfl
theorem c146(w:World)(j:Nat)(s:List UInt8)(hj:j<=3)(hm:s.length<=1000000):CR 146 #[.int .i64 (j:Int),.string (bs s)] w (.int .i64 (ZA (j:Int) s)):=by
 refine eN2 Tryz.func146 Tryz.ntmps146 ?_
 refine aU6 ?_
 refine oCq rfl (λw1 h1=>Qqo w1) (aU ?_)
 refine o_p (QeX rfl rfl rfl Qha Qhg j rfl om) rfl (Ql (Qft j hj) (o_p (Qar rfl rfl Qmq Qqk rfl) rfl (aU ?_)))
 refine o_q (XS rfl rfl (QqP _) rfl (λw1 h1=>Qle w1 j s hj hm)) rfl (oCq rfl (λw1 h1=>Qa1 w1 _ _) (aU2 ?_))
 exact rV (h:=by simp only[QR,ZA,cond_eq_ite])
instance:TFn Tryz.prog 177:=⟨by kernel_rfl⟩
instance:TFn Tryz.prog 174:=⟨by kernel_rfl⟩
theorem bset{L:List UInt8}{k:Nat}{x:UInt8}{v:Value}(h:k<L.length)(hv:v=bv x):Qu (L.map bv) (k*1) [v]=(L.set k x).map bv:=by
  subst hv;have h9:=Qbb (vals:=byV) (sz:=1) (λ_=>rfl) L k 0 [bv x] (L.getD k 0) x (by rw[List.getElem?_eq_getElem h,List.getD_eq_getElem?_getD,List.getElem?_eq_getElem h];rfl) rfl (by simp);rw[Nat.add_zero]at h9;have e:∀M:List UInt8,M.flatMap byV=M.map bv:=λM=>QlR bv M;rw[e,e]at h9;exact h9
def Qb8(s:List UInt8)(k:Nat):List UInt8:=(s.map Qb9).take k++s.drop k
theorem Qbp{s:List UInt8}{k:Nat}(h:k<=s.length):(Qb8 s k).length=s.length:=by simp[Qb8];omega
theorem QhP{s:List UInt8}{k:Nat}(h:k<s.length):(Qb8 s k).getD k 0=s.getD k 0:=by
  unfold Qb8;rw[List.getD_eq_getElem?_getD,List.getElem?_append_right (by simp;omega),List.getElem?_drop,List.getD_eq_getElem?_getD];congr 2;simp;omega
theorem Qie{s:List UInt8}{k:Nat}(h:k<s.length):(Qb8 s k).set k (Qb9 (s.getD k 0))=Qb8 s (k+1):=by
  unfold Qb8;apply List.ext_getElem?;intro j;simp only[List.getElem?_set,List.getElem?_append,List.getElem?_take,List.getElem?_drop,List.length_append,List.length_take,List.length_map,List.length_drop,List.getElem?_map,List.getD_eq_getElem?_getD];have hk:=List.getElem?_eq_getElem h
  grind
theorem Qqb(s:List UInt8):Qb8 s 0=s:=by simp[Qb8]
theorem Qob(s:List UInt8):Qb8 s s.length=s.map Qb9:=by
  unfold Qb8;rw[List.drop_length,List.append_nil,List.take_of_length_le (by simp)]
theorem Qlt{s:List UInt8}{k:Nat}(h:k<s.length)(hc:Qb9 (s.getD k 0)=s.getD k 0):Qb8 s k=Qb8 s (k+1):=by
  rw[<-Qie h,hc];apply List.ext_getElem?;intro j;rw[List.getElem?_set];split
  · rename_i e;subst e;rw[<-QhP h,List.getD_eq_getElem?_getD];rw[if_pos (by rw[Qbp om];exact h),List.getElem?_eq_getElem (by rw[Qbp om];exact h)];rfl
  · rfl
theorem QlK{x:UInt8}(h:97<=x.toNat/\x.toNat<=122):Value.int .u8 (IntKind.u8.wrap (IntKind.u8.wrap ((x.toNat:Int)-97)+65))=bv (Qb9 x):=by
  have h2:=Qht x;unfold QoM at h2;rw[if_pos om]at h2;rw[show(x.toNat:Int)-97=((x.toNat-97:Nat):Int) by omega,Qj3 _ om,show((x.toNat-97:Nat):Int)+65=((x.toNat-32:Nat):Int) by omega,Qj3 _ om];unfold bv;exact congrArg (Value.int .u8) om
theorem Qql{x:UInt8}(h:¬(97<=x.toNat/\x.toNat<=122)):Qb9 x=x:=by
  have h2:=Qht x;unfold QoM at h2;rw[if_neg om]at h2;exact UInt8.toNat_inj.1 om
theorem c177(w:World)(s:List UInt8)(hm:s.length<=1000000):CR 177 #[.string (bs s)] w (.string (bs (s.map Qb9))):=by
 refine eN1 Tryz.func177 Tryz.ntmps177 ?_
 refine aU7 ?_
 refine o_h (Qc9 rfl rfl Tryz.underlying9 Tryz.underlying124 Tryz.underlying5 rfl (by simp only[maxLen];omega)) rfl (λ⟨b1,c2⟩⟨h3,k4⟩=>Zn ?_)
 refine Qt (α:=Nat) [4,5,10,11,12,13,14,15,16,17,18,19,20,21,22,23,24,25,26,27] (λk=>[(10,.int .i64 (k:Int))]) (λk=>HS w [] [.blk b1 5 c2 ((Qb8 s k).map bv)]) (λk=>k<=s.length) (λk=>s.length-k) 0 (Nat.zero_le _) aSx (λw h=>by rw[Qqb];exact h.ent aEt) (λk hk1=>?_)
 refine aU5 ?_
 refine sCd rfl (λh5=>?_) λh5=>?_
 ·have hk:k<s.length:=by omega
  have hb9:=(s.getD k 0).toNat_lt
  refine aU6 ?_
  refine o_p (Qa rfl rfl rfl QP (k) om om rfl) rfl (o_q (Qo rfl rfl QaP (λw h=>by rw[Nat.zero_add];exact h.rd_blk (Mc:=[]) aPk (by rw[Nat.mul_one,X9 (by rw[Qbp hk1];exact hk),QhP hk]) (by simp))) rfl (aU8 ?_))
  refine XH 3 17 20 rfl
   (λhg6 _=>by
    refine aU4 ?_
    exact oJt 3 20)
   (λhg8 _=>by
    refine aU2 ?_
    exact oJf 3 20) ?_
  refine aU ?_
  refine Xv (α:=Unit) [21,22,23,24,25,26] (λ_=>[]) (λ_=>HS w [] [.blk b1 5 c2 ((Qb8 s (k+1)).map bv)]) (λ_=>True) ?_ ?_
  ·skip
   refine sCd rfl (λh10=>?_) λh10=>?_
   ·have hcc:97<=(s.getD k 0).toNat/\(s.getD k 0).toNat<=122:=by have hq:=h10;omega
    refine aU6 ?_
    try (refine Ql (u8add _ _) ?_)
    refine Ql (QlK hcc) (o_p (Qa rfl rfl rfl QP (k) om om rfl) rfl (Ql (show _=Value.pointer (some ⟨b1,k*1,none⟩)from by rw[Nat.zero_add]) (Qcq (XW rfl rfl rfl QaP rfl aPt (by rw[List.length_map,Qbp hk1];omega) rfl) (λ_ _=>aU ?_))))
    exact Qn () trivial aSx (λw h=>by have h2:=HS.blk_to (b:=b1) h aPk (bset (L:=Qb8 s k) (x:=Qb9 (s.getD k 0)) (by rw[Qbp hk1];exact hk) rfl);rw[Qie hk]at h2;exact h2.ent aEt)
   have hno:Qb9 (s.getD k 0)=s.getD k 0:=Qql (by have hq:=h10;omega)
   refine aU ?_
   exact Qn () trivial aSx (λw h=>by rw[<-Qlt hk hno];exact h.ent aEt)
  intro _ _
  refine aT3 ?_
  refine aU2 ?_
  exact sBk (k+1)
 obtain rfl:k=s.length:=om
 rw[Qob]
 refine Qj rfl ?_
 refine aU3 ?_
 refine o_q (Qg8 rfl rfl Tryz.underlying124 Tryz.underlying9 Tryz.underlying5 aPk (by simp[List.length_map]) (QgF _)) rfl (aU2 ?_)
 exact rV (h:=by simp only[QfG];rfl)
theorem c176(w:World)(a b:List UInt8)(ha:a.length<=1000000)(hb:b.length<=1000000):CR 176 #[.string (bs a),.string (bs b)] w (.int .i64 (X7 (a.map Qb9) (b.map Qb9))):=by
 refine eN2 Tryz.func176 Tryz.ntmps176 ?_
 refine aU7 ?_
 refine oCq rfl (λw1 h1=>c177 w1 a ha) (aU ?_)
 refine oCq rfl (λw1 h1=>c177 w1 b hb) (oCq rfl (λw1 h1=>c174 w1 _ _) (aU2 ?_))
 exact rV
theorem QoJ(a b:List UInt8):Qbi a b 1 0=QS 2 a b:=by
  simp only[Qbi,QS,Nat.mul_zero];split
  · rfl
  · rename_i h;simp only[ne_eq,Decidable.not_not]at h;rw[h];rfl
theorem Qpb(a b:List UInt8):Qbi a b 2 0=QS 3 a b:=by
  have e:QS 3 a b=if Ym (at4 a 0) (at4 b 0)≠0 then Ym (at4 a 0) (at4 b 0)else Ym (at4 a 4) (at4 b 4):=rfl
  rw[e];show(if Ym (at4 a 0) (at4 b 0)≠0 then Ym (at4 a 0) (at4 b 0)else if Ym (at4 a 4) (at4 b 4)≠0 then Ym (at4 a 4) (at4 b 4)else 0)=_
  by_cases h:Ym (at4 a 0) (at4 b 0)≠0
  · rw[if_pos h,if_pos h]
  · rw[if_neg h,if_neg h];split
    · rfl
    · rename_i h2;simp only[ne_eq,Decidable.not_not]at h2;exact h2.symm
theorem Qkq{s:List UInt8}(h:Q3 2 s=true):s.length=4:=by
  unfold Q3 at h;simp at h;exact h.1
theorem Qj1{s:List UInt8}(h:Q3 3 s=true):s.length=8:=by
  unfold Q3 at h;simp at h;exact h.1
theorem Qe0(co:Int):QE Tryz.prog (Qdl co)=true:=by
  unfold Qdl;split
  · kernel_rfl
  · split<;>kernel_rfl
theorem Qay(w:World)(j:Nat)(a b:List UInt8)(hj:j<=3)(hka:Q3 (j:Int) a=true)(hkb:Q3 (j:Int) b=true)(ha:a.length<=1000000)(hb:b.length<=1000000):Calls Tryz.prog (Qdl (j:Int)) #[.string (bs a),.string (bs b)] w λen w'=>en=.returned (.int .i64 (QS (j:Int) a b))/\Below w.heap.size w w':=by
  match j,hj with
  | 0,_=>exact c174 w a b
  | 1,_=>exact c176 w a b ha hb
  | 2,_=>
    have h:=c180 w a b 1 (Qkq hka) (Qkq hkb) (by decide);rw[QoJ]at h;exact h
  | 3,_=>
    have h:=c180 w a b 2 (Qj1 hka) (Qj1 hkb) (by decide);rw[Qpb]at h;exact h
theorem keyE_ok{co:Int}{k:List UInt8}(h:ZA co k=0):Q3 co k=true:=by
  unfold ZA at h;split at h
  · assumption
  · cases h
theorem Qcw{co:Int}(h:Xb co=0):∃j:Nat,co=(j:Int)/\j<=3:=by
  unfold Xb at h;split at h
  · exact⟨co.toNat,om,om⟩
  · cases h
instance:TFd Tryz.prog 50 0 0 9:=⟨by kernel_rfl⟩
theorem ZR:tsz Tryz.prog 9=some (1,false):=by kernel_rfl
instance:TSz Tryz.prog 9 1 false:=⟨ZR⟩
theorem Qma:QE Tryz.prog 146=true:=by kernel_rfl
instance:TFn Tryz.prog 146:=⟨Qma⟩
instance:TFd Tryz.prog 50 1 1 9:=⟨by kernel_rfl⟩
theorem Qnn(co:Int)(x:TEnt):Ending.returned (Value.int .i64 (if ZA co x.key=0 then cond (decide ((x.val.length:Int)<=64)) 0 8 else ZA co x.key))=Ending.returned (Value.int .i64 (Yu co x)):=by
  unfold Yu
  by_cases h:ZA co x.key=0
  · rw[if_pos h,if_pos h]
    by_cases h2:x.val.length<=64
    · rw[if_pos h2,decide_eq_true om];rfl
    · rw[if_neg h2,decide_eq_false om];rfl
  · rw[if_neg h,if_neg h];unfold ZA at h ⊢;split at h
    · exact absurd rfl h
    · rename_i h3;rw[if_neg h3]
theorem c169(w:World)(j:Nat)(x:TEnt)(hj:j<=3)(hm:x.key.length<=1000000):CR 169 #[.int .i64 (j:Int),.agg #[.string (bs x.key),.string (bs x.val)]] w (.int .i64 (Yu (j:Int) x)):=by
 refine eN2 Tryz.func169 Tryz.ntmps169 ?_
 refine aU2 ?_
 refine oBx λb1 _=>?_
 refine aU3 ?_
 refine Qp [] mixed ?_
 refine dP 0 ?_
 refine dFa 1 ?_
 refine dLd 2 [] ?_
 refine dQ 3 [] rfl (Qh rfl Qma rfl (λw1 h1=>c146 w1 j x.key hj hm)) (dFa 4 ?_)
 refine dLd 5 [] ?_
 refine dV 6 rfl (QJ rfl rfl Tryz.underlying9) (dP 7 ?_)
 refine dQ 8 [] rfl (Qh rfl QaM rfl (λw1 h1=>Qa1 w1 _ _)) (dH 9 rfl (Qd (cs:=[_,_]) rfl rfl Xn XK rfl rfl rfl) (λb2 _=>dBa ?_))
 refine dQ 10 [] rfl (Qh rfl Qfq rfl (λw1 h1=>Qjk h1 aPk (by rfl) (by rfl) (by decide))) (dP 11 ?_)
 refine dNi ?_
 exact rV (h:=by simp only[QR];rw[QaJ];exact Qnn _ _)
instance:TFn Tryz.prog 60:=⟨by kernel_rfl⟩
theorem YQ:Xs Tryz.prog 24=some [.int .i64 0,.int .i64 0,.int .i64 0,.slice none 0 0]:=by kernel_rfl
instance:TFn Tryz.prog 131:=⟨by kernel_rfl⟩
theorem QjT:YA Tryz.prog 24=some [(0,1),(1,1),(2,1),(3,1)]:=by kernel_rfl
theorem Qbt:tsz Tryz.prog 24=some (4,true):=by kernel_rfl
instance:TSz Tryz.prog 24 4 true:=⟨Qbt⟩
theorem Qnd:YA Tryz.prog 87=some [(0,1),(1,1),(2,1)]:=by kernel_rfl
theorem YX:Xs Tryz.prog 87=some [.bool false,.slice none 0 0,.slice none 0 0]:=by kernel_rfl
theorem Xx:tsl Tryz.prog 22=some (87,3,56):=by kernel_rfl
theorem Xg:tsl Tryz.prog 85=some (50,2,32):=by kernel_rfl
theorem Z4:tsz Tryz.prog 50=some (2,true):=by kernel_rfl
instance:TSz Tryz.prog 50 2 true:=⟨Z4⟩
theorem XU:Xs Tryz.prog 50=some [.string (bs []),.string (bs [])]:=by kernel_rfl
instance:TFd Tryz.prog 167 0 0 24:=⟨by kernel_rfl⟩
instance:TFd Tryz.prog 24 1 1 3:=⟨by kernel_rfl⟩
theorem XB:tsz Tryz.prog 3=some (1,false):=by kernel_rfl
instance:TSz Tryz.prog 3 1 false:=⟨XB⟩
instance:TFd Tryz.prog 24 2 2 3:=⟨by kernel_rfl⟩
theorem Ys:tsz Tryz.prog 147=some (1,false):=by kernel_rfl
instance:TSz Tryz.prog 147 1 false:=⟨Ys⟩
instance:TFd Tryz.prog 24 0 0 3:=⟨by kernel_rfl⟩
theorem QlW:QE Tryz.prog 169=true:=by kernel_rfl
instance:TFn Tryz.prog 169:=⟨QlW⟩
instance:TFd Tryz.prog 167 1 4 165:=⟨by kernel_rfl⟩
instance:TFd Tryz.prog 165 1 1 163:=⟨by kernel_rfl⟩
theorem Qdq:tsz Tryz.prog 163=some (1,false):=by kernel_rfl
instance:TSz Tryz.prog 163 1 false:=⟨Qdq⟩
instance:TFd Tryz.prog 87 1 1 85:=⟨by kernel_rfl⟩
theorem YW:tsz Tryz.prog 85=some (1,false):=by kernel_rfl
instance:TSz Tryz.prog 85 1 false:=⟨YW⟩
def tbV(co mo rm:Int)(a:Option Addr)(n cap:Nat):List Value:=[.int .i64 co,.int .i64 mo,.int .i64 rm,.slice a n cap,Qaw (QdB co),Qaw (Qdl co)]
def TbR(w:World)(M:List Nat)(bt:Nat)(co mo rm:Int)(a:Option Addr)(n cap:Nat):Prop:=∀k v,(tbV co mo rm a n cap)[k]?=some v->Rd w M bt k v
section
variable{w w':World}{M M':List Nat}{As As':List HA}{bt:Nat}{co mo rm:Int}{a:Option Addr}{n cap:Nat}
theorem TbR.next(h:TbR w M bt co mo rm a n cap)(hs:HS w M As w'):TbR w' [] bt co mo rm a n cap:=λk v hv=>(h k v hv).next hs
theorem TbR.keep(h:TbR w M bt co mo rm a n cap)(hs:HS w M As w'):TbR w' (fps As) bt co mo rm a n cap:=λk v hv=>hs.keep (h k v hv)
theorem TbR.mono(h:TbR w M bt co mo rm a n cap)(hM:∀b∈M',b∈M):TbR w M' bt co mo rm a n cap:=λk v hv=>(h k v hv).mono hM
theorem HS.tbr{w0:World}{tot t:Nat}(h:HS w0 M As w)(hp:Qv As (.blk bt t tot (tbV co mo rm a n cap)) As'):TbR w [] bt co mo rm a n cap:=λk v hv=>h.rd_blk (Mc:=[]) hp hv (by simp)
end
def QfO(co mo rm:Int):Tre:=if(if Xb co=0 then Zs mo rm else Xb co)=0 then⟨co,mo,rm,[⟨true,[],[]⟩]⟩else⟨0,0,0,[]⟩
theorem Qll{w0 w:World}{M:List Nat}{As:List HA}(et nt:Nat)(h:HS w0 M As w):HS w0 M (.nodes et nt none 0 []::As) w:=by
  have h1:HS w0 M (.own (.slice none 0 0) nt 3 0 []::.star []::As) w:=(h.star_nil).own_nil nt 3;exact HS.row_shut (l:=([]:List LNd)) h1 rfl rfl
theorem QkI{w0 w:World}{M:List Nat}{As:List HA}{a:Option Addr}{cap nt:Nat}(et:Nat)(h:HS w0 M (.own (.slice a 1 cap) nt 3 1 [.bool true,.slice none 0 0,.slice none 0 0]::As) w):HS w0 M (.nodes et nt a cap [⟨true,none,0,[],none,0,[]⟩]::As) w:=by
  have h1:HS w0 M (.star ([(⟨true,none,0,[],none,0,[]⟩:LNd)].map (Qx et))::As) w:=HS.star_close (Bs:=[_]) (HS.star_close (Bs:=[_,_]) ((h.tail.own_nil 3 1).own_nil et 2));have h2:HS w0 M (.star []::.own (.slice a 1 cap) nt 3 1 [.bool true,.slice none 0 0,.slice none 0 0]::As) w:=h.star_nil
  have h3:HS w0 M (.own (.slice a 1 cap) nt 3 1 [.bool true,.slice none 0 0,.slice none 0 0]::.star ([(⟨true,none,0,[],none,0,[]⟩:LNd)].map (Qx et))::As) w:=
    HS.perm (HS.star_close (Bs:=[_]) (HS.star_close (Bs:=[_,_]) ((h.own_nil 3 1).own_nil et 2))) (List.Perm.swap ..)
  exact HS.row_shut (l:=[(⟨true,none,0,[],none,0,[]⟩:LNd)]) h3 rfl rfl
theorem c166(w:World)(co mo rm:Int):CE 166 #[.int .i64 co,.int .i64 mo,.int .i64 rm] w [] (λg:(Option Addr×Nat)×List LNd=>.tuple #[.agg #[.int .i64 (QfO co mo rm).co,.int .i64 (QfO co mo rm).mo,.int .i64 (QfO co mo rm).rm,.slice g.1.1 g.2.length g.1.2],.int .i64 (if Xb co=0 then Zs mo rm else Xb co)]) (λg=>pln g.2=(QfO co mo rm).ns) λg=>[.nodes 50 87 g.1.1 g.1.2 g.2]:=by
 refine eN3 Tryz.func166 Tryz.ntmps166 ?_
 refine aU2 ?_
 refine oAl (λb1 _=>?_) YQ
 refine aU8 ?_
 refine oCq rfl (λw1 h1=>c131 w1 _ _ _) (aU7 ?_)
 refine sCd rfl (λh2=>?_) λh2=>?_
 ·have hz:QfO co mo rm=⟨0,0,0,[]⟩:=by unfold QfO;rw[if_neg h2]
  refine aU2 ?_
  refine o_p (Qw (cs:=[_,_,_,_]) rfl rfl QjT YQ rfl) rfl (aU4 ?_)
  exact Qf (rs:=[.cell 6 24,.tmp 7]) rfl (.cell rfl Qbt aPk rfl (.tmp rfl (.nil))) (λw' h'=>⟨((none,0),[]),by rw[hz];rfl,by rw[hz];rfl,(Qll 50 87 h'.nil).ent aEt⟩)
 have hz:QfO co mo rm=⟨co,mo,rm,[⟨true,[],[]⟩]⟩:=by unfold QfO;rw[if_pos h2]
 refine aU6 ?_
 refine o_p (Qw (cs:=[_,_,_]) rfl rfl Qnd YX rfl) rfl (o_h (Qd (cs:=[_,_,_]) rfl rfl Xx YX rfl rfl rfl) rfl (λb3 _=>o_p (Qw (cs:=[_,_,_,_]) rfl rfl QjT YQ rfl) rfl (aU3 ?_)))
 exact Qf (rs:=[.cell 6 24,.tmp 7]) rfl (.cell rfl Qbt aPk rfl (.tmp rfl (.nil))) (λw' h'=>⟨((some ⟨b3,0,none⟩,1),[⟨true,none,0,[],none,0,[]⟩]),by rw[hz,h2];rfl,by rw[hz];rfl,(QkI 50 (HS.own_shut (n:=1) (cap:=1) (sz:=3) (h'.ent (Bs:=[.blk b3 87 (1*3) [.bool true,.slice none 0 0,.slice none 0 0]]) aEt) rfl (by decide) (by decide))).ent aEt⟩)
theorem c167(w:World)(a:Option Addr)(cap:Nat)(l:List TEnt)(q:Nat)(cv:Array Value)(es:List Int)(hs:Rw TEnt.vals 2 w [] a l)(hm:l.length<=1000000)(hq:QE Tryz.prog q=true)(he:es.length=l.length)(hc:∀k w1,k<l.length->(∀j,j<k->es.getD j 0=0)->HS w [] [] w1->Calls Tryz.prog q (#[]++[.int .i64 (k:Int),.agg (TEnt.vals (nth l k)).toArray].toArray++cv) w1 λen w2=>en=.returned (.int .i64 (es.getD k 0))/\Below w1.heap.size w1 w2):CR 167 #[.slice a l.length cap,.func (.func q) #[] cv] w (.tuple #[.int .i64 (QN es 0).1,.int .i64 (QN es 0).2]):=by
 refine eN2 Tryz.func167 Tryz.ntmps167 ?_
 refine Qak ?_
 refine Qt (α:=Nat) [4,5,6,7,8,11,12,13,14,15,16,17,18,19,20,21,22,23,24] (λk=>[(11,.int .i64 (k:Int))]) (λ_=>HS w [] []) (λk=>k<=l.length/\QN es 0=QN (es.drop k) k/\∀j,j<k->es.getD j 0=0) (λk=>l.length-k) 0 ⟨om,rfl,λi h=>absurd h (Nat.not_lt_zero i)⟩ aSx (λw h=>h.ent aEt) (λk hk=>?_)
 obtain⟨hk1,hk2,hk3⟩:=hk
 refine aU5 ?_
 refine sCd rfl (λh1=>?_) λh1=>?_
 ·refine aU6 ?_
  refine o_p (Qa rfl rfl rfl Xg (k) om om (Rw.some hs om)) rfl (o_q (Qm _ rfl rfl Z4 rfl (Rw.rd hs om)) rfl (oAl (λb2 _=>?_) XU))
  refine aU8 ?_
  refine o_q (XS rfl rfl hq rfl (λw1 h1=>hc k w1 om hk3 (h1.ent aEt))) rfl (aU7 ?_)
  refine sCd rfl (λh3=>?_) λh3=>?_
  ·refine aU7 ?_
   exact Qf (rs:=[.tmp 4,.tmp 5]) rfl (.tmp rfl (.tmp rfl (.nil))) (λw' h'=>⟨by simp only[QR];rw[hk2,Xh om,if_neg (by assumption)],h'.below⟩)
  refine aT4 ?_
  refine aU2 ?_
  exact sBk (k+1) om ⟨om,by rw[hk2,Xh om,if_pos (by assumption)],λj hj=>(Nat.lt_or_ge j k).elim (hk3 j) (λh=>by obtain rfl:j=k:=om;assumption)⟩
 refine Qj rfl ?_
 refine aU5 ?_
 exact Qf (rs:=[.tmp 4,.tmp 5]) rfl (.tmp rfl (.tmp rfl (.nil))) (λw' h'=>⟨by simp only[QR];rw[hk2,QbX om],h'.below⟩)
theorem c190(w:World)(bt:Nat)(j:Nat)(mo rm:Int)(a:Option Addr)(n cap:Nat)(hmo:0<=mo/\mo<=1000)(ht:TbR w [] bt (j:Int) mo rm a n cap):CR 190 #[.pointer (some ⟨bt,0,none⟩)] w (.int .i64 (mo/2)):=by
 refine eN1 Tryz.func190 Tryz.ntmps190 ?_
 refine Zn ?_
 refine o_q (Qc rfl rfl XB (ht 1 _ rfl)) rfl (o_p (Qa5 rfl rfl rfl om om om) rfl (aU2 ?_))
 exact rV
theorem c182(w:World)(bt:Nat)(j:Nat)(mo rm:Int)(a:Option Addr)(n cap:Nat)(i:Nat)(ht:TbR w [] bt (j:Int) mo rm a n cap):CR 182 #[.pointer (some ⟨bt,0,none⟩),.int .i64 (i:Int)] w (.int .i64 (Qap mo rm i)):=by
 refine eN2 Tryz.func182 Tryz.ntmps182 ?_
 refine Zn ?_
 refine sCd rfl (λh1=>?_) λh1=>?_
 ·obtain rfl:i=0:=by have hq:=h1;omega
  refine aU6 ?_
  refine o_q (Qc rfl rfl XB (ht 2 _ rfl)) rfl (aU2 ?_)
  exact rV
 have hn0:¬i=0:=by have hq:=h1;omega
 refine aU7 ?_
 refine o_q (Qc rfl rfl XB (ht 1 _ rfl)) rfl (aU2 ?_)
 exact rV (h:=by simp only[QR,Qap];rw[if_neg hn0])
theorem c183(w:World)(c0:Nat)(k:Int)(x:TEnt)(bt:Nat)(j:Nat)(mo rm:Int)(a:Option Addr)(n cap:Nat)(hj:j<=3)(hx:x.key.length<=1000000)(hc0:Rd w [] c0 0 (.pointer (some ⟨bt,0,none⟩)))(ht:TbR w [] bt (j:Int) mo rm a n cap):CR 183 #[.int .i64 k,.agg #[.string (bs x.key),.string (bs x.val)],.pointer (some ⟨c0,0,none⟩)] w (.int .i64 (Yu (j:Int) x)):=by
 refine eN3 Tryz.func183 Tryz.ntmps183 ?_
 refine aU2 ?_
 refine oBx λb1 _=>?_
 refine aU3 ?_
 refine Qp [] mixed ?_
 refine dQ 0 [] rfl (Qc rfl rfl Ys (hc0)) (dP 1 ?_)
 refine dFa 2 ?_
 refine dFa 3 ?_
 refine dQ 4 [] rfl (Qc rfl rfl XB (ht 0 _ rfl)) (dLn 5 [] ?_)
 refine dQ 6 [] rfl (Qh rfl QlW rfl (λw1 h1=>c169 w1 j x hj hx)) (dP 7 ?_)
 refine dNi ?_
 exact rV
theorem c186(w:World)(c0 c7:Nat)(k:Nat)(us:Bool)(ea:Option Addr)(ec:Nat)(es:List TEnt)(kids:Value)(bt:Nat)(j:Nat)(mo rm:Int)(a:Option Addr)(n cap:Nat)(hj:j<=3)(hk:k<es.length)(hl:es.length<=1000000)(hx:∀x∈es,Q3 (j:Int) x.key=true/\x.key.length<=1000000)(hc0:Rd w [] c0 0 (.pointer (some ⟨bt,0,none⟩)))(hc7:Rd w [] c7 1 (.slice ea es.length ec))(hes:Rw TEnt.vals 2 w [] ea es)(ht:TbR w [] bt (j:Int) mo rm a n cap):CR 186 #[.int .i64 (k:Int),.agg #[.string (bs (nth es k).key),.string (bs (nth es k).val)],.pointer (some ⟨c0,0,none⟩),.pointer (some ⟨c7,0,none⟩)] w (.int .i64 (Qff (j:Int) es k)):=by
 refine eN4 Tryz.func186 Tryz.ntmps186 ?_
 refine aU2 ?_
 refine oBx λb1 _=>?_
 refine aU3 ?_
 refine Qp [] mixed ?_
 refine dP 0 ?_
 refine dP 1 ?_
 refine dP 2 ?_
 apply XC 9
 ·exact rfl
 ·intro hg2
  have hs3:=hg2;try simp only[dT]at hs3
  refine dOf 3 9 hg2 ?_
  refine dOf 4 9 hg2 ?_
  refine dOf 5 9 hg2 ?_
  refine dOf 6 9 hg2 ?_
  refine dOf 7 9 hg2 ?_
  refine dOf 8 9 hg2 ?_
  refine dOf 9 9 hg2 ?_
  refine dOf 10 9 hg2 ?_
  refine dOf 11 9 hg2 ?_
  refine dOf 12 9 hg2 ?_
  refine dOf 13 9 hg2 ?_
  refine dOf 14 9 hg2 ?_
  refine dOf 15 9 hg2 ?_
  refine dOf 16 9 hg2 ?_
  refine dOf 17 9 hg2 ?_
  refine dOf 18 9 hg2 ?_
  refine dOf 19 9 hg2 ?_
  refine dV 20 rfl (XI rfl rfl hg2 rfl) (dQ 21 [] rfl (Qh rfl QaM rfl (λw1 h1=>Qa1 w1 _ _)) (dP 22 ?_))
  refine dNi ?_
  exact rV (h:=by simp only[QR,Qff];first|(split<;>simp_all<;>done)|(simp_all;done)|(grind))
 intro hg4
 have hs5:=hg4;try simp only[dN]at hs5
 refine dQo 3 9 [] hg4 rfl rfl rfl (Qc rfl rfl Ys (hc0)) ?_
 refine dPo 4 9 hg4 ?_
 refine dFo 5 9 hg4 ?_
 refine dFo 6 9 hg4 ?_
 refine dQo 7 9 [] hg4 rfl rfl rfl (Qc rfl rfl Qdq (ht 5 _ rfl)) ?_
 refine dFo 8 9 hg4 ?_
 refine dQo 9 9 [] hg4 rfl rfl rfl (Qc rfl rfl YW (hc7)) ?_
 refine dPo 10 9 hg4 ?_
 refine dPo 11 9 hg4 ?_
 try refine dWr ?_
 refine dVo 12 9 hg4 rfl rfl rfl (Qdp rfl rfl rfl ) ?_
 refine dVo 13 9 hg4 rfl rfl rfl (Qa rfl rfl rfl Xg (k-1) om om (Rw.some hes om)) ?_
 refine dFo 14 9 hg4 ?_
 refine dQo 15 9 [] hg4 rfl rfl rfl (Qc rfl rfl ZR ((hes.rdj (i:=k-1) 0 om rfl))) ?_
 refine dFo 16 9 hg4 ?_
 refine dQo 17 9 [] hg4 rfl rfl rfl (X8 rfl rfl ZR aPk rfl) ?_
 refine dQo 18 9 [] hg4 rfl rfl rfl (XS rfl rfl (Qe0 _) rfl (λw1 h1=>Qay w1 j (nth es (k-1)).key (nth es k).key hj (hx _ (QX om)).1 (hx _ (QX hk)).1 (hx _ (QX om)).2 (hx _ (QX hk)).2)) ?_
 refine dPo 19 9 hg4 ?_
 refine dV 20 rfl (Q8 rfl rfl hg4 rfl) (dQ 21 [] rfl (Qh rfl QaM rfl (λw1 h1=>Qa1 w1 _ _)) (dP 22 ?_))
 refine dNi ?_
 exact rV (h:=by simp only[QR,Qff];first|(split<;>simp_all<;>done)|(simp_all;done)|(grind))
theorem QgN:tki Tryz.prog 195=some .u64:=by kernel_rfl
instance:TFd Tryz.prog 24 3 3 22:=⟨by kernel_rfl⟩
theorem YY:tsz Tryz.prog 22=some (1,false):=by kernel_rfl
instance:TSz Tryz.prog 22 1 false:=⟨YY⟩
instance:TFn Tryz.prog 206:=⟨by kernel_rfl⟩
theorem QD:tsl Tryz.prog 65=some (3,1,8):=by kernel_rfl
theorem Ye:Xs Tryz.prog 3=some [.int .i64 0]:=by kernel_rfl
instance:TFn Tryz.prog 147:=⟨by kernel_rfl⟩
instance:TFd Tryz.prog 87 2 2 65:=⟨by kernel_rfl⟩
theorem Y8:tsz Tryz.prog 65=some (1,false):=by kernel_rfl
instance:TSz Tryz.prog 65 1 false:=⟨Y8⟩
theorem c206(w:World)(a:Option Addr)(cap:Nat)(l:List TEnt)(q:Nat)(cv:Array Value)(cs:List Int)(key:List UInt8)(hs:Rw TEnt.vals 2 w [] a l)(hm:l.length<=1000000)(hq:QE Tryz.prog q=true)(hb:cs.length=l.length)(hc:∀k w1,k<l.length->HS w [] [] w1->Calls Tryz.prog q (#[]++[.agg (TEnt.vals (nth l k)).toArray,.string (bs key)].toArray++cv) w1 λen w2=>en=.returned (.int .i64 (cs.getD k 0))/\Below w1.heap.size w1 w2):CR 206 #[.slice a l.length cap,.string (bs key),.func (.func q) #[] cv] w (.tuple #[.int .i64 (bsL cs:Int),.bool (QfN cs)]):=by
 refine eN3 Tryz.func206 Tryz.ntmps206 ?_
 refine Qrm ?_
 refine Qt (α:=Nat×Nat×Nat) [9,10,11,15,16,17,18,19,20,21,22,23,24,25,26,27,28,29,30,31,32,33,34] (λx=>[(9,.int .i64 (x.2.1:Int)),(10,.int .i64 (x.2.2:Int))]) (λ_=>_) (λx=>x.2.1<=x.2.2/\x.2.2<=l.length/\x.2.2-x.2.1<=x.1/\bsC cs x.1 x.2.1 x.2.2=bsL cs) (λx=>x.1) (l.length,0,l.length) ⟨by simp,by simp,by simp,by rw[<-hb];rfl⟩ aSx (λw h=>h.ent aEt) (λ⟨m,lo,hi⟩hx=>?_)
 dsimp only
 obtain⟨hx1,hx2,hx3,hx4⟩:=hx
 simp only[]at hx1 hx2 hx3 hx4
 refine aU7 ?_
 refine sCd rfl (λh1=>?_) λh1=>?_
 ·refine aT7 ?_
  refine o_p (Qk rfl rfl Yx QgN) rfl ?_
  rw[show IntKind.u64.wrap ((lo:Int)+(hi:Int))=((lo+hi:Nat):Int)from Ql1 _ om]
  refine o_p (QcM rfl rfl rfl (by decide) 1 rfl) rfl (o_p (Qk rfl rfl QgN Yx) rfl ?_)
  try refine oWr ?_
  refine Ql (show _=Value.int .i64 (((lo+hi)/2:Nat):Int)from by congr 1) ?_
  obtain⟨q2,hq1,hq2⟩:=Qif (cs:=cs) (show lo<hi by omega) hx3
  refine aU7 ?_
  refine o_p (Qa rfl rfl rfl Xg ((lo+hi)/2) om om (Rw.some hs om)) rfl (o_q (Qm _ rfl rfl Z4 rfl (Rw.rd hs (i:=(lo+hi)/2) om)) rfl (aU ?_))
  refine o_q (XS rfl rfl hq rfl (λw1 h1=>hc ((lo+hi)/2) w1 om (h1.ent aEt))) rfl (aU2 ?_)
  refine sCd rfl (λh2=>?_) λh2=>?_
  ·refine aT3 ?_
   refine aU3 ?_
   exact sBk (q2,(lo+hi)/2+1,hi) (by(try simp only[]);omega) ⟨by(try simp only[]);omega,hx2,by(try simp only[]);omega,by simp only[];rw[<-hx4,hq2,if_pos h2]⟩ (by refine QfM (congrArg (λe=>some (Value.int .i64 e)) (show(((lo+hi)/2:Nat):Int)+1=(((lo+hi)/2+1:Nat):Int) by omega)) ?_;repeat (first|exact QkO|refine QfM rfl ?_))
  refine aU5 ?_
  exact sBk (q2,lo,(lo+hi)/2) (by(try simp only[]);omega) ⟨by(try simp only[]);omega,by(try simp only[]);omega,by(try simp only[]);omega,by simp only[];rw[<-hx4,hq2,if_neg h2]⟩
 refine Qj rfl ?_
 refine aU3 ?_
 have hlo:bsL cs=lo:=by rw[<-hx4,QjK _ _ _ _ om]
 refine aU4 ?_
 refine XH 9 39 48 rfl
  (λhg3 _=>by
   refine aU7 ?_
   refine o_p (Qa rfl rfl rfl Xg (lo) om om (Rw.some hs om)) rfl (aU ?_)
   refine o_q (Qm _ rfl rfl Z4 rfl (Rw.rd hs (i:=lo) om)) rfl (aU3 ?_)
   refine o_q (XS rfl rfl hq rfl (λw1 h1=>hc lo w1 om (h1.ent aEt))) rfl (aU2 ?_)
   exact oJt 9 48)
  (λhg5 _=>by
   refine aU8 ?_
   exact oJf 9 48) ?_
 refine aU3 ?_
 exact Qf (rs:=[.tmp 6,.tmp 7]) rfl (.tmp rfl (.tmp rfl (.nil))) (λw' h'=>⟨by simp only[QR,QfN,hlo];first|(rw[hb];simp;done)|(have:¬lo<cs.length:=om;simp[this];done)|(have:lo<cs.length:=om;simp[this];done)|(have:lo<cs.length:=om;have hl9:lo<l.length:=om;simp only[this,hl9,decide_true,Bool.true_and,Bool.and_true];rfl)|(have:lo<cs.length:=om;have hl9:lo<l.length:=om;simp[this,hl9]),h'.below⟩)
theorem c207(w:World)(c0:Nat)(x:TEnt)(key:List UInt8)(bt:Nat)(j:Nat)(mo rm:Int)(a:Option Addr)(n cap:Nat)(hj:j<=3)(hx:Q3 (j:Int) x.key=true)(hk:Q3 (j:Int) key=true)(hxl:x.key.length<=1000000)(hkl:key.length<=1000000)(hc0:Rd w [] c0 0 (.pointer (some ⟨bt,0,none⟩)))(ht:TbR w [] bt (j:Int) mo rm a n cap):CR 207 #[.agg #[.string (bs x.key),.string (bs x.val)],.string (bs key),.pointer (some ⟨c0,0,none⟩)] w (.int .i64 (QS (j:Int) x.key key)):=by
 refine eN3 Tryz.func207 Tryz.ntmps207 ?_
 refine aU2 ?_
 refine oBx λb1 _=>?_
 refine aU3 ?_
 refine Qp [] mixed ?_
 refine dQ 0 [] rfl (Qc rfl rfl Ys (hc0)) (dP 1 ?_)
 refine dFa 2 ?_
 refine dFa 3 ?_
 refine dQ 4 [] rfl (Qc rfl rfl Qdq (ht 5 _ rfl)) (dFa 5 ?_)
 refine dLd 6 [] ?_
 refine dP 7 ?_
 refine dQ 8 [] rfl (XS rfl rfl (Qe0 _) rfl (λw1 h1=>Qay w1 j x.key key hj hx hk hxl hkl)) (dP 9 ?_)
 refine dNi ?_
 exact rV
theorem c147(w:World)(bt:Nat)(j:Nat)(mo rm:Int)(a:Option Addr)(cap:Nat)(L:List LNd)(key:List UInt8)(i:Nat)(hj:j<=3)(hi:i<L.length)(hl:L.length<=1000)(hel:(nth L i).es.length<=1000)(hK:∀i,i<L.length->∀x∈(nth L i).es,Q3 (j:Int) x.key=true/\x.key.length<=1000000)(hk:Q3 (j:Int) key=true)(hkl:key.length<=1000000)(hasc:Asc (j:Int) (nth L i).es)(hs:Nt w [] a L)(ht:TbR w [] bt (j:Int) mo rm a L.length cap):CR 147 #[.pointer (some ⟨bt,0,none⟩),.int .i64 (i:Int),.string (bs key)] w (.tuple #[.int .i64 (plc (j:Int) (nth L i).es key:Int),.bool (fnd (j:Int) (nth L i).es key)]):=by
 refine eN3 Tryz.func147 Tryz.ntmps147 ?_
 refine aU2 ?_
 refine oBx λb1 _=>?_
 refine aU9 ?_
 refine o_q (Qc rfl rfl YY (ht 3 _ rfl)) rfl (aU ?_)
 refine o_p (Qa rfl rfl rfl Xx (i) om om (Rw.some hs.1 om)) rfl (aU ?_)
 refine o_q (Qc rfl rfl YW ((hs.1.rdj 1 hi rfl))) rfl (aU2 ?_)
 refine oCq rfl (λw1 h1=>by have h9:=c206 w1 (nth L i).ea (nth L i).ec (nth L i).es 207 #[.pointer (some ⟨b1,0,none⟩)] (QfI (j:Int) (nth L i).es key) key ((hs.es hi).later h1) om (by kernel_rfl) (QbK _ _ _) (λk w2 hk9 h2=>by rw[QbJ hk9];exact c207 w2 b1 (nth (nth L i).es k) key bt j mo rm a L.length cap hj (hK i hi _ (QX hk9)).1 hk (hK i hi _ (QX hk9)).2 hkl ((h1.rd_blk (Mc:=[]) aPk rfl (by simp)).next h2) ((ht.next h1).next h2));rw[QmI hasc,QqW hasc]at h9;exact h9) (aU5 ?_)
 exact Qf (rs:=[.tmp 6,.tmp 7]) rfl (.tmp rfl (.tmp rfl (.nil))) (λw' h'=>⟨rfl,h'.below⟩)
theorem QkY{co:Int}{ns:List Nd}{key:List UInt8}{f i:Nat}(h:¬(fnd co (nth ns i).es key=true\/(nth ns i).cs.length=0)):ZM co ns key (f+1) i=(i::(ZM co ns key f ((nth ns i).cs.getD (plc co (nth ns i).es key) 0).toNat).1,(ZM co ns key f ((nth ns i).cs.getD (plc co (nth ns i).es key) 0).toNat).2):=by
  rw[ZM,if_neg h]
theorem Qgv{co:Int}{ns:List Nd}{key:List UInt8}{f i:Nat}(h:fnd co (nth ns i).es key=true\/(nth ns i).cs.length=0):ZM co ns key (f+1) i=([i],plc co (nth ns i).es key,fnd co (nth ns i).es key):=by
  rw[ZM,if_pos h]
theorem QoQ(l:List Nat):(l.map λi:Nat=>(i:Int)).flatMap inV=l.map λi:Nat=>Value.int .i64 (i:Int):=by
  induction l with
  | nil=>rfl
  | cons x l ih=>
    rw[List.map_cons,List.flatMap_cons,List.map_cons,ih];rfl
theorem c97(w:World)(bt:Nat)(j:Nat)(mo rm:Int)(a:Option Addr)(cap:Nat)(L:List LNd)(key:List UInt8)(hj:j<=3)(h0:0<L.length)(hB:Bd (pln L))(hT:TOk (j:Int) (pln L))(hK:∀i,i<L.length->∀x∈(nth L i).es,Q3 (j:Int) x.key=true/\x.key.length<=1000000)(hk:Q3 (j:Int) key=true)(hkl:key.length<=1000000)(hs:Nt w [] a L)(ht:TbR w [] bt (j:Int) mo rm a L.length cap):CE 97 #[.pointer (some ⟨bt,0,none⟩),.string (bs key)] w [] (λg:Option Addr×Nat=>.tuple #[.slice g.1 (Qr (j:Int) (pln L) key).1.length g.2,.int .i64 ((Qr (j:Int) (pln L) key).2.1:Int),.bool (Qr (j:Int) (pln L) key).2.2]) (λg=>True) λg=>[.kids g.1 g.2 ((Qr (j:Int) (pln L) key).1.map λi:Nat=>(i:Int))]:=by
 refine eN2 Tryz.func97 Tryz.ntmps97 ?_
 refine ZW ?_
 refine Qt (α:=(Option Addr×Nat)×List Nat×Nat×Nat) [4,5,6,7,8,9,10,11,12,13,14,15,16,17,18,19,20,21,22,23,24,25,26,27,28,29,30,31,32,33,34,35,36,37,38,39,40,41,42,43,44,45,46,47] (λx=>[(4,.slice x.1.1 x.2.1.length x.1.2),(7,.int .i64 (x.2.2.1:Int))]) (λx=>HS w [] [.own (.slice x.1.1 x.2.1.length x.1.2) 3 1 x.2.1.length (x.2.1.map λi:Nat=>Value.int .i64 (i:Int))]) (λx=>x.2.2.1<L.length/\x.2.1.length+x.2.2.2=L.length/\Gx.Way (pln L) (x.2.2.1::x.2.1.reverse)/\(Qr (j:Int) (pln L) key)=(x.2.1++(ZM (j:Int) (pln L) key x.2.2.2 x.2.2.1).1,(ZM (j:Int) (pln L) key x.2.2.2 x.2.2.1).2)) (λx=>x.2.2.2) ((none,0),[],0,L.length) ⟨h0,by simp,rfl,by rw[Qr,Qg];rfl⟩ aSx (λw h=>(h.own_nil 3 1).ent aEt) (λ⟨⟨ga,gc⟩,P,i,f⟩hx=>?_)
 dsimp only
 obtain⟨hi,hlen,hway,hpath⟩:=hx
 simp only[]at hi hlen hway hpath
 have hwl:=QbD hT (by rw[Qg];exact h0) hway
 simp only[List.length_cons,List.length_reverse,Qg]at hwl
 obtain⟨f,rfl⟩:∃f9,f=f9+1:=⟨f-1,om⟩
 have hni:=Qz hi
 have hle:=hB.len
 rw[Qg]at hle
 have hes9:=hB.es i (by rw[Qg];exact hi)
 have hcs9:=hB.cs i (by rw[Qg];exact hi)
 rw[hni]at hes9 hcs9
 have hasc:=hT.asc i (by rw[Qg];exact hi)
 rw[hni]at hasc
 refine aU5 ?_
 refine o_h (Qd (cs:=[_]) rfl rfl QD Ye rfl rfl rfl) rfl (λb1 _=>o_h (QA [_] rfl rfl rfl QD Tryz.underlying65 Ye rfl aPk (QZ aPk) rfl (by intro u hu;simp only[List.mem_cons,List.mem_nil_iff,or_false]at hu;subst hu;rfl) om (by simp only[maxLen];omega)) rfl (λb2 _=>aU7 ?_))
 refine oCq rfl (λw1 h1=>c147 w1 bt j mo rm a cap L key i hj hi om hes9 hK hk hkl hasc (hs.later h1.nil) (ht.next h1.nil)) (ZW ?_)
 refine oOr 12 20 32 rfl
  (λhg3 _=>by
   refine aU9 ?_
   refine o_q (Qc rfl rfl YY (ht 3 _ rfl)) rfl (aU3 ?_)
   refine o_p (Qa rfl rfl rfl Xx (i) om om (Rw.some hs.1 om)) rfl (aU3 ?_)
   refine o_q (Qc rfl rfl Y8 ((hs.1.rdj 2 hi rfl))) rfl (aU4 ?_)
   exact oJf 12 32)
  (λhg5 _=>by
   refine ZW ?_
   exact oJt 12 32) ?_
 refine aU ?_
 refine sCd rfl (λh7=>?_) λh7=>?_
 ·have hst:fnd (j:Int) (nth (pln L) i).es key=true\/(nth (pln L) i).cs.length=0:=by rw[hni];have hq:=h7;first|exact hq|(simp at hq;simpa[LNd.pl]using hq)
  refine aU9 ?_
  exact Qf (rs:=[.tmp 4,.tmp 5,.tmp 6]) rfl (.tmp rfl (.tmp rfl (.tmp rfl (.nil)))) (λw' h'=>⟨(b2.1,b2.2),by rw[hpath,Qgv hst,hni];simp[QR,LNd.pl],trivial,by rw[hpath,Qgv hst];have h2:=h';unfold HA.kids;rw[QoQ];simp only[List.length_map,List.length_append,List.length_singleton,List.map_append,List.map_cons,List.map_nil];exact h2.ent aEt⟩)
 have hst:¬(fnd (j:Int) (nth (pln L) i).es key=true\/(nth (pln L) i).cs.length=0):=by rw[hni];have hq:=h7;first|exact hq|(simp at hq;simpa[LNd.pl]using hq)
 have hcl:(nth L i).cs.length=(nth L i).es.length+1:=by rcases hT.shape i (by rw[Qg];exact hi)with h9|h9;exact absurd (.inr h9) hst;rw[hni]at h9;exact h9
 have hple:=Qbv (j:Int) key (nth L i).es
 have hpk:plc (j:Int) (nth L i).es key<(nth L i).cs.length:=om
 have hkid:=Qhb hT (by rw[Qg];exact hi) (i:=i) (k:=plc (j:Int) (nth L i).es key) (by rw[hni];exact hpk)
 rw[hni,Qg]at hkid
 simp only[LNd.pl]at hkid
 have hway2:=Qec hway (by rw[Qg];exact hi) (k:=plc (j:Int) (nth L i).es key) (by rw[hni];exact hpk) (by rw[hni];simp only[LNd.pl];omega)
 rw[hni]at hway2
 simp only[LNd.pl]at hway2
 refine aU6 ?_
 refine o_q (Qc rfl rfl YY (ht 3 _ rfl)) rfl (aU ?_)
 refine o_p (Qa rfl rfl rfl Xx (i) om om (Rw.some hs.1 om)) rfl (aU ?_)
 refine o_q (Qc rfl rfl Y8 ((hs.1.rdj 2 hi rfl))) rfl (aU ?_)
 refine o_p (Qa rfl rfl rfl QD (plc (j:Int) (nth L i).es key) om om (Rw.some (hs.cs hi) om)) rfl (o_q (Qc rfl rfl XB (((hs.cs hi).rdj 0 (i:=plc (j:Int) (nth L i).es key) hpk rfl))) rfl (aU3 ?_))
 exact QQ ((b2.1,b2.2),P++[i],((nth L i).cs.getD (plc (j:Int) (nth L i).es key) 0).toNat,f) (by(try simp only[]);omega) ⟨by simp only[];omega,by simp only[List.length_append,List.length_singleton];omega,by simp only[List.reverse_append,List.reverse_singleton,List.singleton_append];exact hway2,by simp only[];rw[hpath,QkY hst];simp[hni,LNd.pl]⟩ (by simp only[List.length_append,List.length_singleton];rw[Int.toNat_of_nonneg om];exact aSx) (λw h=>by have h2:=h;simp only[List.length_append,List.length_singleton,List.map_append,List.map_cons,List.map_nil];exact h2.ent aEt)
theorem Qrh:QE Tryz.prog 185=true:=by kernel_rfl
instance:TFd Tryz.prog 87 0 0 4:=⟨by kernel_rfl⟩
theorem Qla:tsz Tryz.prog 4=some (1,false):=by kernel_rfl
instance:TSz Tryz.prog 4 1 false:=⟨Qla⟩
theorem Qn2:tsz Tryz.prog 207=some (1,false):=by kernel_rfl
theorem Qqc:tzv Tryz.prog 4=some (.bool false):=by kernel_rfl
abbrev KI:Int->Value:=λn=>Value.int .i64 n
theorem QnJ{ks:List Int}{c x:Int}:x∈QaS ks c ↔ x=c\/x∈ks:=by
  unfold QaS;split
  · rename_i h;constructor
    · exactλh1=>.inr h1
    · rintro(rfl|h1)
      · exact h
      · exact h1
  · rw[List.mem_append,List.mem_singleton];exact Or.comm
theorem c185(w:World)(i c:Int)(c0 c5 r:Nat)(ks seen:List Int)(bt:Nat)(j:Nat)(mo rm:Int)(a:Option Addr)(cap:Nat)(L:List LNd)(hw:HS w (fps [.mp r KI ks]) [.mp r KI ks] w)(hst:∀x,x∈ks ↔ x∈seen)(hc0:Rd w (fps [.mp r KI ks]) c0 0 (.pointer (some ⟨bt,0,none⟩)))(hc5:Rd w (fps [.mp r KI ks]) c5 0 (.map (some r)))(ht:TbR w (fps [.mp r KI ks]) bt (j:Int) mo rm a L.length cap)(hs:Nt w (fps [.mp r KI ks]) a L)(hl:L.length<=1000):CE 185 #[.int .i64 i,.int .i64 c,.pointer (some ⟨c0,0,none⟩),.pointer (some ⟨c5,0,none⟩)] w (fps [.mp r KI ks]) (λg:List Int=>.int .i64 (Qf6 (pln L) c seen)) (λg=>(∀x,x∈g ↔ x∈(QfF (pln L) c seen))) λg=>[.mp r KI g]:=by
 refine eW4 Tryz.func185 Tryz.ntmps185 hw ?_
 refine aU8 ?_
 refine o_q (Qc rfl rfl Ys (hc0)) rfl (aU3 ?_)
 refine o_q (Qc rfl rfl YY (ht 3 _ rfl)) rfl (aT2 ?_)
 refine oCq rfl (λw1 h1=>Qls w1 _ _ _) (aU2 ?_)
 refine oOr 11 18 29 rfl
  (λhg1 _=>by
   refine aU ?_
   refine o_q (Qc rfl rfl Ys (hc0)) rfl (aU7 ?_)
   refine o_q (Qc rfl rfl YY (ht 3 _ rfl)) rfl (aU3 ?_)
   refine o_p (Qa rfl rfl rfl Xx c.toNat om om (Rw.some hs.1 om)) rfl (aU3 ?_)
   refine o_q (Qc rfl rfl Qla ((hs.1.rdj 0 (i:=c.toNat) om rfl))) rfl (aU2 ?_)
   exact oJf 11 29)
  (λhg3 _=>by
   refine Zn ?_
   exact oJt 11 29) ?_
 refine aU ?_
 refine sCd rfl (λh5=>?_) λh5=>?_
 ·have hz:¬QdT (pln L) c:=by unfold QdT;rw[Qg];intro h9;rw[Qz om]at h9;have hq:=h5;simp[LNd.pl]at h9;rcases hq with hq|hq<;>simp_all<;>omega
  refine aU4 ?_
  exact rT rfl rfl (λw' h'=>⟨ks,by unfold Qf6;rw[if_neg hz];rfl,by unfold QfF;rw[if_neg hz];exact hst,h'.ent aEt⟩)
 have hz:QdT (pln L) c:=by have hq:=h5;have hq1:1<=c/\c<=(L.length:Int)-1:=(by first|omega|(simp at hq;omega));unfold QdT;rw[Qg,Qz om];exact⟨hq1,by simp only[LNd.pl];first|exact hq.2|exact hq.2.2|(simp at hq;first|exact hq.2|exact hq.2.2)⟩
 refine aU3 ?_
 refine o_q (Qc rfl rfl Qn2 (hc5)) rfl (aU ?_)
 refine o_q (QeV rfl rfl rfl Tryz.underlying207 Qqc (QjL Yx) aPk) rfl (aU ?_)
 refine oCq rfl (λw1 h1=>Qa1 w1 _ _) (aU4 ?_)
 refine o_q (Qc rfl rfl Qn2 (hc5)) rfl (aU ?_)
 refine Qcq (Qbf (.inl rfl) rfl rfl rfl Tryz.underlying207 (QjL Yx) aPt) (λ_ _=>aU6 ?_)
 exact rT rfl rfl (λw' h'=>⟨QaS ks c,by unfold Qf6;rw[if_pos hz];simp only[QR];by_cases h9:c∈seen<;>simp[h9,(hst c)],by unfold QfF;rw[if_pos hz];intro x;rw[QnJ,List.mem_cons,hst],h'.ent aEt⟩)
theorem c184(w:World)(ca:Option Addr)(cc:Nat)(cs:List Int)(c0 c5 r:Nat)(ks seen:List Int)(bt:Nat)(j:Nat)(mo rm:Int)(a:Option Addr)(cap:Nat)(L:List LNd)(hw:HS w (fps [.mp r KI ks]) [.mp r KI ks] w)(hst:∀x,x∈ks ↔ x∈seen)(hc0:Rd w (fps [.mp r KI ks]) c0 0 (.pointer (some ⟨bt,0,none⟩)))(hc5:Rd w (fps [.mp r KI ks]) c5 0 (.map (some r)))(ht:TbR w (fps [.mp r KI ks]) bt (j:Int) mo rm a L.length cap)(hs:Nt w (fps [.mp r KI ks]) a L)(hl:L.length<=1000)(hcs:Rw inV 1 w (fps [.mp r KI ks]) ca cs)(hcl:cs.length<=1000):CE 184 #[.slice ca cs.length cc,.func (.func 185) #[] #[.pointer (some ⟨c0,0,none⟩),.pointer (some ⟨c5,0,none⟩)]] w (fps [.mp r KI ks]) (λg:Int×List Int=>.tuple #[.int .i64 g.1,.int .i64 (YK (pln L) cs seen).1]) (λg=>(∀x,x∈g.2 ↔ x∈(YK (pln L) cs seen).2)) λg=>[.mp r KI g.2]:=by
 refine eW2 Tryz.func184 Tryz.ntmps184 hw ?_
 refine Qak ?_
 refine Qt (α:=Nat×List Int×List Int) [4,5,6,7,8,11,12,13,14,15,16,17,18,19,20,21,22,23,24] (λx=>[(11,.int .i64 (x.1:Int))]) (λx=>HS w (fps [.mp r KI ks]) [.mp r KI x.2.1]) (λx=>x.1<=cs.length/\(∀y,y∈x.2.1 ↔ y∈x.2.2)/\(YK (pln L) cs seen)=YK (pln L) (cs.drop x.1) x.2.2) (λx=>cs.length-x.1) (0,ks,seen) ⟨Nat.zero_le _,hst,rfl⟩ aSx (λw h=>h.ent aEt) (λ⟨k,K,S9⟩hx=>?_)
 dsimp only
 obtain⟨hk1,hk2,hk3⟩:=hx
 simp only[]at hk1 hk2 hk3
 refine aU5 ?_
 refine sCd rfl (λh1=>?_) λh1=>?_
 ·have hkl:k<cs.length:=by omega
  refine aU6 ?_
  refine o_p (Qa rfl rfl rfl QD (k) om om (Rw.some hcs om)) rfl (o_q (Qc rfl rfl XB ((hcs.rdj 0 (i:=k) om rfl))) rfl (aU8 ?_))
  refine o_h (Qc1 (Cs:=[.mp r KI K]) rfl rfl Qrh rfl aPs (λw1 h1 hf=>c185 w1 (k:Int) (cs.getD k 0) c0 c5 r K S9 bt j mo rm a cap L hf hk2 (h1.keep hc0) (h1.keep hc5) (ht.keep h1) (hs.keep h1) hl)) rfl (λb2 hkG=>?_)
  have hkg:=hkG
  refine aU7 ?_
  refine sCd rfl (λh3=>?_) λh3=>?_
  ·refine aU7 ?_
   exact Qf (rs:=[.tmp 4,.tmp 5]) rfl (.tmp rfl (.tmp rfl (.nil))) (λw' h'=>⟨((k:Int),b2),by rw[hk3,Qdr hkl,QcB,if_neg h3];rfl,by rw[hk3,Qdr hkl,QcB,if_neg h3];exact hkG,h'.ent aEt⟩)
  refine aT4 ?_
  refine aU2 ?_
  exact sBk (k+1,b2,QfF (pln L) (cs.getD k 0) S9) (by(try simp only[]);omega) ⟨by(try simp only[]);omega,hkg,by simp only[];rw[hk3,Qdr hkl,QcB,if_pos h3]⟩
 refine Qj rfl ?_
 refine aU5 ?_
 exact Qf (rs:=[.tmp 4,.tmp 5]) rfl (.tmp rfl (.tmp rfl (.nil))) (λw' h'=>⟨(0,K),by rw[hk3,List.drop_of_length_le om];rfl,by rw[hk3,List.drop_of_length_le om];exact hk2,h'.ent aEt⟩)
theorem Qbj:tsz Tryz.prog 87=some (3,true):=by kernel_rfl
instance:TSz Tryz.prog 87 3 true:=⟨Qbj⟩
theorem QqD:QE Tryz.prog 182=true:=by kernel_rfl
theorem Qi4:QE Tryz.prog 167=true:=by kernel_rfl
instance:TFn Tryz.prog 167:=⟨Qi4⟩
theorem QqE:QE Tryz.prog 184=true:=by kernel_rfl
theorem QpN{t:Tre}{i:Nat}{es:List TEnt}{cs:List Int}(h:nth t.ns i=⟨true,es,cs⟩)(b:Bool)(hb:b=true ↔ (cs.length=0\/cs.length=es.length+1)):(if(bif decide ((es.length:Int)<=Qap t.mo t.rm i)then(0:Int)else 16)=0 then(bif b then(0:Int)else 10)else(bif decide ((es.length:Int)<=Qap t.mo t.rm i)then(0:Int)else 16))=nE1 t i:=by
  unfold nE1;rw[h]
  by_cases h1:(es.length:Int)<=Qap t.mo t.rm i
  · rw[decide_eq_true h1,if_pos h1]
    by_cases h2:cs.length=0\/cs.length=es.length+1
    · rw[if_pos h2,hb.2 h2];rfl
    · rw[if_neg h2,show b=false by cases b;rfl;exact absurd (hb.1 rfl) h2];rfl
  · rw[decide_eq_false h1,if_neg h1];rfl
theorem c135(w:World)(i r:Nat)(ks seen:List Int)(bt:Nat)(j:Nat)(mo rm:Int)(a:Option Addr)(cap:Nat)(L:List LNd)(hw:HS w (fps [.mp r KI ks]) [.mp r KI ks] w)(hst:∀x,x∈ks ↔ x∈seen)(ht:TbR w (fps [.mp r KI ks]) bt (j:Int) mo rm a L.length cap)(hs:Nt w (fps [.mp r KI ks]) a L)(hl:L.length<=1000)(hj:j<=3)(hi:i<L.length)(hel:(nth L i).es.length<=1000)(hcl:(nth L i).cs.length<=1000)(hkl:∀x∈(nth L i).es,x.key.length<=1000000):CE 135 #[.pointer (some ⟨bt,0,none⟩),.int .i64 (i:Int),.map (some r)] w (fps [.mp r KI ks]) (λg:List Int=>.int .i64 (Zi (⟨(j:Int),mo,rm,pln L⟩:Tre) i seen).1) (λg=>(∀x,x∈g ↔ x∈(Zi (⟨(j:Int),mo,rm,pln L⟩:Tre) i seen).2)) λg=>[.mp r KI g]:=by
 have hn:nth (pln L) i=(nth L i).pl:=Qz hi
 have hE2:nE2 (⟨(j:Int),mo,rm,pln L⟩:Tre) i=if nE1 (⟨(j:Int),mo,rm,pln L⟩:Tre) i=0 then(QN ((nth L i).es.map (Yu (j:Int))) 0).2 else nE1 (⟨(j:Int),mo,rm,pln L⟩:Tre) i:=by unfold nE2 Qcc;rw[hn];rfl
 have hE3:nE3 (⟨(j:Int),mo,rm,pln L⟩:Tre) i seen=if nE2 (⟨(j:Int),mo,rm,pln L⟩:Tre) i=0 then YK (pln L) (nth L i).cs seen else(nE2 (⟨(j:Int),mo,rm,pln L⟩:Tre) i,seen):=by unfold nE3;rw[hn];rfl
 have hE4:nE4 (⟨(j:Int),mo,rm,pln L⟩:Tre) i seen=if(nE3 (⟨(j:Int),mo,rm,pln L⟩:Tre) i seen).1=0 then(QN ((List.range (nth L i).es.length).map (Qff (j:Int) (nth L i).es)) 0).2 else(nE3 (⟨(j:Int),mo,rm,pln L⟩:Tre) i seen).1:=by unfold nE4 Qc4;rw[hn];rfl
 refine eW3 Tryz.func135 Tryz.ntmps135 hw ?_
 refine aU2 ?_
 refine oBx λb1 _=>?_
 refine oBx λb2 _=>?_
 refine aU8 ?_
 refine o_q (Qc rfl rfl YY (ht 3 _ rfl)) rfl (aU ?_)
 refine o_p (Qa rfl rfl rfl Xx (i) om om (Rw.some hs.1 om)) rfl (o_q (Qm _ rfl rfl Qbj rfl (Rw.rd hs.1 hi)) rfl (oAl (λb3 _=>?_) YX))
 refine aU9 ?_
 refine sCd rfl (λh4=>?_) λh4=>?_
 ·have hu:(nth (pln L) i).us=false:=by rw[hn];have hq:=h4;simpa[LNd.pl]using hq
  refine aU5 ?_
  refine XH 10 22 32 rfl
   (λhg5 _=>by
    refine ZW ?_
    refine o_q (Qc rfl rfl YY (ht 3 _ rfl)) rfl (aT4 ?_)
    refine aU2 ?_
    exact oJt 10 32)
   (λhg7 _=>by
    refine aU9 ?_
    exact oJf 10 32) ?_
  refine aU ?_
  refine XH 9 33 42 rfl
   (λhg9 _=>by
    refine aT14 ?_
    refine aU2 ?_
    exact oJt 9 42)
   (λhg11 _=>by
    refine aU8 ?_
    exact oJf 9 42) ?_
  refine oCq rfl (λw1 h1=>Qa1 w1 _ _) (aU2 ?_)
  exact rT rfl rfl (λw' h'=>⟨ks,by unfold Zi;simp only[];rw[if_neg (by rw[hu];decide),hn];simp only[QR,LNd.pl];simp only[cond_eq_ite,Bool.and_eq_true,decide_eq_true_eq,Qg];(split<;>split<;>first|rfl|omega),by unfold Zi;simp only[];rw[if_neg (by rw[hu];decide)];split<;>exact hst,h'.ent aEt⟩)
 have hu:(nth (pln L) i).us=true:=by rw[hn];have hq:=h4;simpa[LNd.pl]using hq
 have hN1:nth ((⟨(j:Int),mo,rm,pln L⟩:Tre)).ns i=⟨true,(nth L i).es,(nth L i).cs⟩:=by show nth (pln L) i=_;rw[hn]at hu ⊢;simp only[LNd.pl]at hu ⊢;rw[hu]
 rw[Qlb (⟨(j:Int),mo,rm,pln L⟩:Tre) i hu]
 refine aU2 ?_
 refine Qi (L':=[(1,_),(3,_),(5,_),(6,_),(7,_)]) aSx (λ_ h=>h) ?_
 refine Xv (α:=Unit) [8,44,45,46,47,48,49,50,51,52,53,54,55,56,57,58,59,60,61,62,63,64,65,66,67,68] (λ_=>[(8,.int .i64 (nE1 (⟨(j:Int),mo,rm,pln L⟩:Tre) i))]) (λ_=>HS w (fps [.mp r KI ks]) [.blk b1 147 1 [.pointer (some ⟨bt,0,none⟩)],.blk b2 207 1 [.map (some r)],.blk b3 87 3 (nth L i).vals,.mp r KI ks]) (λ_=>True) ?_ ?_
 ·skip
  refine Qp [] mixed ?_
  refine dFa 0 ?_
  refine dLd 1 [] ?_
  refine dV 2 rfl (QI rfl rfl Tryz.underlying85) (dLd 3 [] ?_)
  refine dP 4 ?_
  refine dQ 5 [] rfl (Qh rfl QqD rfl (λw1 h1=>c182 w1 bt j mo rm a L.length cap i (ht.next h1))) (dP 6 ?_)
  refine dQ 7 [] rfl (Qh rfl QaM rfl (λw1 h1=>Qa1 w1 _ _)) (dFa 8 ?_)
  refine dLd 9 [] ?_
  refine dV 10 rfl (QI rfl rfl Tryz.underlying65) (dP 11 ?_)
  refine dP 12 ?_
  apply XC 56
  ·exact rfl
  ·intro hg13
   have hs14:=hg13;try simp only[dT]at hs14
   refine dOf 13 56 hg13 ?_
   refine dOf 14 56 hg13 ?_
   refine dOf 15 56 hg13 ?_
   refine dOf 16 56 hg13 ?_
   refine dOf 17 56 hg13 ?_
   refine dOf 18 56 hg13 ?_
   refine dOf 19 56 hg13 ?_
   refine dOf 20 56 hg13 ?_
   refine dV 21 rfl (XI rfl rfl hg13 rfl) (dQ 22 [] rfl (Qh rfl QaM rfl (λw1 h1=>Qa1 w1 _ _)) (dH 23 rfl (Qd (cs:=[_,_]) rfl rfl Xn XK rfl rfl rfl) (λb15 _=>dBa ?_)))
   refine dQ 24 [] rfl (Qh rfl Qfq rfl (λw1 h1=>Qjk h1 aPk (by rfl) (by rfl) (by decide))) (Qs (show _=Value.int .i64 (nE1 (⟨(j:Int),mo,rm,pln L⟩:Tre) i)from by congr 1;rw[QaJ];exact QpN hN1 _ (by first|(simp only[true_iff];left;have hq:=hg13;simp at hq ⊢;omega)|(have hq:¬(((nth L i).cs.length:Int)=0):=of_decide_eq_false hg13;rw[decide_eq_true_eq];omega))) (dP 25 ?_))
   refine dNi ?_
   exact Qn () trivial aSx (λw h=>h.ent aEt)
  intro hg16
  have hs17:=hg16;try simp only[dN]at hs17
  refine dFo 13 56 hg16 ?_
  refine dQo 14 56 [] hg16 rfl rfl rfl (X8 rfl rfl Y8 aPk rfl) ?_
  refine dVo 15 56 hg16 rfl rfl rfl (QI rfl rfl Tryz.underlying65) ?_
  refine dFo 16 56 hg16 ?_
  refine dQo 17 56 [] hg16 rfl rfl rfl (X8 rfl rfl YW aPk rfl) ?_
  refine dVo 18 56 hg16 rfl rfl rfl (QI rfl rfl Tryz.underlying85) ?_
  refine dPo 19 56 hg16 ?_
  try refine dWr ?_
  refine dPo 20 56 hg16 ?_
  refine dV 21 rfl (Q8 rfl rfl hg16 rfl) (dQ 22 [] rfl (Qh rfl QaM rfl (λw1 h1=>Qa1 w1 _ _)) (dH 23 rfl (Qd (cs:=[_,_]) rfl rfl Xn XK rfl rfl rfl) (λb18 _=>dBa ?_)))
  refine dQ 24 [] rfl (Qh rfl Qfq rfl (λw1 h1=>Qjk h1 aPk (by rfl) (by rfl) (by decide))) (Qs (show _=Value.int .i64 (nE1 (⟨(j:Int),mo,rm,pln L⟩:Tre) i)from by congr 1;rw[QaJ];exact QpN hN1 _ (by first|(simp only[true_iff];left;have hq:=hg16;simp at hq ⊢;omega)|(have hq:¬(((nth L i).cs.length:Int)=0):=of_decide_eq_false hg16;rw[decide_eq_true_eq];omega))) (dP 25 ?_))
  refine dNi ?_
  exact Qn () trivial aSx (λw h=>h.ent aEt)
 intro _ _
 refine aU6 ?_
 refine Xv (α:=Unit) [8,71,72,73,74,75,76,77] (λ_=>[(8,.int .i64 (nE2 (⟨(j:Int),mo,rm,pln L⟩:Tre) i))]) (λ_=>HS w (fps [.mp r KI ks]) [.blk b1 147 1 [.pointer (some ⟨bt,0,none⟩)],.blk b2 207 1 [.map (some r)],.blk b3 87 3 (nth L i).vals,.mp r KI ks]) (λ_=>True) ?_ ?_
 ·skip
  refine sCd rfl (λh19=>?_) λh19=>?_
  ·refine aU4 ?_
   refine oCq rfl (λw1 h1=>c167 w1 (nth L i).ea (nth L i).ec (nth L i).es 183 #[.pointer (some ⟨b1,0,none⟩)] ((nth L i).es.map (Yu (j:Int))) ((hs.es hi).later h1) om (by kernel_rfl) (by simp) (λk w2 hk9 _ h2=>by rw[Qmj hk9];exact c183 w2 b1 (k:Int) (nth (nth L i).es k) bt j mo rm a L.length cap hj (hkl _ (QX hk9)) ((h1.rd_blk (Mc:=[]) (b:=b1) aPk rfl (by simp)).next h2) ((ht.next h1).next h2))) (aU5 ?_)
   exact Qn () trivial (by rw[hE2,if_pos h19];exact aSx) (λw h=>h.ent aEt)
  refine aU ?_
  exact Qn () trivial (by rw[hE2,if_neg h19];exact aSx) (λw h=>h.ent aEt)
 intro _ _
 refine aU6 ?_
 refine Xv (α:=List Int) [8,80,81,82,83,84,85,86] (λ_=>[(8,.int .i64 (nE3 (⟨(j:Int),mo,rm,pln L⟩:Tre) i seen).1)]) (λq=>HS w (fps [.mp r KI ks]) [.blk b1 147 1 [.pointer (some ⟨bt,0,none⟩)],.blk b2 207 1 [.map (some r)],.blk b3 87 3 (nth L i).vals,.mp r KI q]) (λq=>∀x,x∈q ↔ x∈(nE3 (⟨(j:Int),mo,rm,pln L⟩:Tre) i seen).2) ?_ ?_
 ·skip
  refine sCd rfl (λh20=>?_) λh20=>?_
  ·refine aU4 ?_
   refine o_h (QV (Cs:=[.mp r KI ks]) rfl QqE rfl aPs (λw1 h1 hf=>c184 w1 (nth L i).ca (nth L i).cc (nth L i).cs b1 b2 r ks seen bt j mo rm a cap L hf hst (h1.rd_blkF aPs (b:=b1) aPk rfl) (h1.rd_blkF aPs (b:=b2) aPk rfl) ((ht.keep h1).mono (Q1 aPs)) ((hs.keep h1).mono (Q1 aPs)) hl (((hs.cs hi).keep h1).mono (Q1 aPs)) hcl)) rfl (λb21 hkG=>aU5 ?_)
   exact Qn b21.2 (by rw[hE3,if_pos h20];exact hkG) (by rw[hE3,if_pos h20];exact aSx) (λw h=>h.ent aEt)
  refine aU ?_
  exact Qn ks (by rw[hE3,if_neg h20];exact hst) (by rw[hE3,if_neg h20];exact aSx) (λw h=>h.ent aEt)
 intro ks2 hks2
 refine aU6 ?_
 refine Xv (α:=Unit) [8,89,90,91,92,93,94,95] (λ_=>[(8,.int .i64 (nE4 (⟨(j:Int),mo,rm,pln L⟩:Tre) i seen))]) (λ_=>HS w (fps [.mp r KI ks]) [.blk b1 147 1 [.pointer (some ⟨bt,0,none⟩)],.blk b2 207 1 [.map (some r)],.blk b3 87 3 (nth L i).vals,.mp r KI ks2]) (λ_=>True) ?_ ?_
 ·skip
  refine sCd rfl (λh22=>?_) λh22=>?_
  ·have he0:=Qjx (Qrx _ _ (QrD _ _ h22))
   rw[hn]at he0
   have hkok:∀x∈(nth L i).es,Q3 (j:Int) x.key=true/\x.key.length<=1000000:=λx hx=>⟨QcZ (he0 x hx),hkl x hx⟩
   refine aU4 ?_
   refine oCq rfl (λw1 h1=>c167 w1 (nth L i).ea (nth L i).ec (nth L i).es 186 #[.pointer (some ⟨b1,0,none⟩),.pointer (some ⟨b3,0,none⟩)] ((List.range (nth L i).es.length).map (Qff (j:Int) (nth L i).es)) ((hs.es hi).later h1) om (by kernel_rfl) (by simp) (λk w2 hk9 _ h2=>by rw[Ql2 hk9];exact c186 w2 b1 b3 k true (nth L i).ea (nth L i).ec (nth L i).es (.bool true) bt j mo rm a L.length cap hj hk9 om hkok ((h1.rd_blk (Mc:=[]) (b:=b1) aPk rfl (by simp)).next h2) ((h1.rd_blk (Mc:=[]) (b:=b3) aPk rfl (by simp)).next h2) (((hs.es hi).later h1).later h2) ((ht.next h1).next h2))) (aU5 ?_)
   exact Qn () trivial (by rw[hE4,if_pos h22];exact aSx) (λw h=>h.ent aEt)
  refine aU ?_
  exact Qn () trivial (by rw[hE4,if_neg h22];exact aSx) (λw h=>h.ent aEt)
 intro _ _
 refine aU5 ?_
 exact rT rfl rfl (λw' h'=>⟨ks2,rfl,hks2,h'.ent aEt⟩)
instance:TFn Tryz.prog 121:=⟨by kernel_rfl⟩
theorem Qjd:QE Tryz.prog 187=true:=by kernel_rfl
theorem Qpr:tsz Tryz.prog 60=some (1,false):=by kernel_rfl
instance:TSz Tryz.prog 60 1 false:=⟨Qpr⟩
theorem QjB:tsl Tryz.prog 60=some (4,1,1):=by kernel_rfl
theorem c121(w:World)(ua:Option Addr)(uc:Nat)(u:List Int)(n:Int)(hu:Rw inV 1 w [] ua u)(hum:u.length<=100000):CR 121 #[.slice ua u.length uc,.int .i64 n] w (.int .i64 (ixI (Y7 u n))):=by
 refine eN2 Tryz.func121 Tryz.ntmps121 ?_
 refine Qaf ?_
 refine Qt (α:=Nat) [4,5,8,9,10,11,12,13,14,15,16,17,18] (λk=>[(8,.int .i64 (k:Int))]) (λ_=>_) (λk=>k<=u.length/\∀i,i<k->(Y7 u n).getD i false=false) (λk=>u.length-k) 0 ⟨Nat.zero_le _,λi h=>absurd h (Nat.not_lt_zero i)⟩ aSx (λw h=>h) (λk hkk=>?_)
 obtain⟨hk1,hk2⟩:=hkk
 refine aU5 ?_
 refine sCd rfl (λh1=>?_) λh1=>?_
 ·have hk:k<u.length:=by omega
  refine Qak ?_
  refine o_p (Qa rfl rfl rfl QD (k) om om (Rw.some hu om)) rfl (o_q (Qc rfl rfl XB ((hu.rdj 0 hk rfl))) rfl (aU2 ?_))
  refine sCd rfl (λh2=>?_) λh2=>?_
  ·have hq9:n=u.getD k 0:=h2
   have e:=Qcu (l:=Y7 u n) (k:=k) (by rw[YS];omega) hk2 (λ_=>by rw[Qfo hk];exact decide_eq_true hq9)
   refine aU5 ?_
   exact rV (h:=by simp only[QR,ixI,e,YS];rw[if_pos hk])
  have hq9:¬n=u.getD k 0:=h2
  refine aT4 ?_
  refine aU2 ?_
  exact QQ (k+1) om ⟨om,λi hi=>(Nat.lt_or_ge i k).elim (hk2 i) (λh=>by obtain rfl:i=k:=om;rw[Qfo hk];exact decide_eq_false hq9)⟩ aSx (λw h=>h)
 obtain rfl:k=u.length:=om
 refine Qj rfl ?_
 refine aU4 ?_
 exact rV (h:=by have e:=Qcu (l:=Y7 u n) (k:=u.length) (by rw[YS];omega) hk2 (λh=>by rw[YS]at h;omega);simp only[QR,ixI,e,YS];rw[if_neg om])
theorem c76(w:World)(ua:Option Addr)(uc:Nat)(u:List Int)(n:Int)(hu:Rw inV 1 w [] ua u)(hum:u.length<=100000):CR 76 #[.slice ua u.length uc,.int .i64 n] w (.bool (decide (n∈u))):=by
 refine eN2 Tryz.func76 Tryz.ntmps76 ?_
 refine aU8 ?_
 refine oCq rfl (λw1 h1=>c121 w1 ua uc u n (hu.later h1) hum) (aU3 ?_)
 exact rV (h:=by rw[<-Qnq,<-Qor];rfl)
def WkC(S:Type)(I:S->Prop)(C:S->HA)(st:S->Vis->S)(er:S->Vis->Int×Int)(q:Nat)(cv:Array Value)(bt:Nat)(j:Nat)(mo rm:Int)(a:Option Addr)(cap:Nat)(L:List LNd)(f:Nat):Prop:=∀(w:World)(s:S)(v:Vis)(pl ph:Option Addr)(P:List Nat),(HS w (fps [C s]) [C s] w)->(QE Tryz.prog q=true)->(∀s1 s2:S,(C s1).fp=(C s2).fp)->(∀s2 v2,I s2->I (st s2 v2))->(I s)->(∀(s2:S)(v2:Vis)(p2 p3:Option Addr)(w1:World),HS w (fps [C s]) [C s2] w1->I s2->v2.i<L.length->KOk (j:Int) v2.lo->KOk (j:Int) v2.hi->ZY w1 (fps [C s2]) p2 v2.lo->ZY w1 (fps [C s2]) p3 v2.hi->Calls Tryz.prog q (#[]++[.int .i64 (v2.i:Int),.int .i64 v2.d,.pointer p2,.pointer p3].toArray++cv) w1 λen w2=>∃g:Unit,en=.returned (.tuple #[.int .i64 (er s2 v2).1,.int .i64 (er s2 v2).2])/\True/\HS w1 (fps [C s2]) [C (st s2 v2)] w2)->(TbR w (fps [C s]) bt (j:Int) mo rm a L.length cap)->(Nt w (fps [C s]) a L)->(TOk (j:Int) (pln L))->(Bd (pln L))->(ZY w (fps [C s]) pl v.lo)->(ZY w (fps [C s]) ph v.hi)->(0<L.length)->(Gx.Way (pln L) (v.i::P))->(P.length+f=L.length)->(v.d=(P.length:Int)+1)->(KOk (j:Int) v.lo)->(KOk (j:Int) v.hi)->Calls Tryz.prog 187 #[.pointer (some ⟨bt,0,none⟩),.int .i64 (v.i:Int),.int .i64 v.d,.pointer pl,.pointer ph,.func (.func q) #[] cv] w λen w'=>∃g:Unit,en=.returned (.tuple #[.int .i64 (Xy st er s (vis (pln L) f v)).1.1,.int .i64 (Xy st er s (vis (pln L) f v)).1.2])/\True/\HS w (fps [C s]) [C (Xy st er s (vis (pln L) f v)).2] w'
theorem Qrv(w:World)(S:Type)(I:S->Prop)(C:S->HA)(st:S->Vis->S)(er:S->Vis->Int×Int)(q:Nat)(cv:Array Value)(bt:Nat)(j:Nat)(mo rm:Int)(a:Option Addr)(cap:Nat)(L:List LNd)(s:S)(v:Vis)(pl ph:Option Addr)(P:List Nat)(f:Nat)(hw:HS w (fps [C s]) [C s] w)(hq:QE Tryz.prog q=true)(hfp:∀s1 s2:S,(C s1).fp=(C s2).fp)(hI:∀s2 v2,I s2->I (st s2 v2))(hIs:I s)(hv:∀(s2:S)(v2:Vis)(p2 p3:Option Addr)(w1:World),HS w (fps [C s]) [C s2] w1->I s2->v2.i<L.length->KOk (j:Int) v2.lo->KOk (j:Int) v2.hi->ZY w1 (fps [C s2]) p2 v2.lo->ZY w1 (fps [C s2]) p3 v2.hi->Calls Tryz.prog q (#[]++[.int .i64 (v2.i:Int),.int .i64 v2.d,.pointer p2,.pointer p3].toArray++cv) w1 λen w2=>∃g:Unit,en=.returned (.tuple #[.int .i64 (er s2 v2).1,.int .i64 (er s2 v2).2])/\True/\HS w1 (fps [C s2]) [C (st s2 v2)] w2)(ht:TbR w (fps [C s]) bt (j:Int) mo rm a L.length cap)(hs:Nt w (fps [C s]) a L)(hT:TOk (j:Int) (pln L))(hB:Bd (pln L))(hpl:ZY w (fps [C s]) pl v.lo)(hph:ZY w (fps [C s]) ph v.hi)(h0:0<L.length)(hway:Gx.Way (pln L) (v.i::P))(hf:P.length+(f+1)=L.length)(hd:v.d=(P.length:Int)+1)(hko:KOk (j:Int) v.lo)(hkp:KOk (j:Int) v.hi)(ih:WkC S I C st er q cv bt j mo rm a cap L f):CE 187 #[.pointer (some ⟨bt,0,none⟩),.int .i64 (v.i:Int),.int .i64 v.d,.pointer pl,.pointer ph,.func (.func q) #[] cv] w (fps [C s]) (λg:Unit=>.tuple #[.int .i64 (Xy st er s (vis (pln L) (f+1) v)).1.1,.int .i64 (Xy st er s (vis (pln L) (f+1) v)).1.2]) (λg=>True) λg=>[C (Xy st er s (vis (pln L) (f+1) v)).2]:=by
 have hi0:=Qcx hT (by rw[Qg];exact h0) hway v.i (List.mem_cons_self ..)
 have hi:v.i<L.length:=by rw[Qg]at hi0;exact hi0
 have hn:=Qz hi
 have hle:=hB.len
 rw[Qg]at hle
 have hel:=hB.es v.i hi0
 have hcl:=hB.cs v.i hi0
 rw[hn]at hel hcl
 simp only[LNd.pl]at hel hcl
 have hsh:=hT.shape v.i hi0
 rw[hn]at hsh
 simp only[LNd.pl]at hsh
 refine eW6 Tryz.func187 Tryz.ntmps187 hw ?_
 refine Qak ?_
 refine o_h (Qc1 (Cs:=[C s]) rfl rfl hq rfl aPs (λw1 h1 hf9=>hv s v pl ph w1 (h1.ent aEt) hIs hi hko hkp ((hpl.keep h1).mono (Q1 aPs)) ((hph.keep h1).mono (Q1 aPs)))) rfl (λ_ _=>ZW ?_)
 refine sCd rfl (λh1=>?_) λh1=>?_
 ·have hz:Xy st er s (vis (pln L) (f+1) v)=(er s v,st s v):=by rw[vis,Xy,if_neg h1]
  refine aU7 ?_
  exact Qf (rs:=[.tmp 12,.tmp 13]) rfl (.tmp rfl (.tmp rfl (.nil))) (λw' h'=>⟨(),by rw[hz];rfl,trivial,by rw[hz];exact h'.ent aEt⟩)
 have hz0:Xy st er s [v]=((0,0),st s v):=by rw[Xy,if_pos h1,Xy]
 refine aU7 ?_
 refine o_q (Qc rfl rfl YY (ht 3 _ rfl)) rfl (aU ?_)
 refine o_p (Qa rfl rfl rfl Xx (v.i) om om (Rw.some hs.1 om)) rfl (o_q (Qm _ rfl rfl Qbj rfl (Rw.rd hs.1 hi)) rfl (oAl (λb2 _=>?_) YX))
 refine aU4 ?_
 refine Qi (L':=[(0,_),(2,_),(3,_),(4,_),(5,_),(12,_),(13,_),(16,_)]) aSx (λ_ h=>h) ?_
 refine aU7 ?_
 refine Qt (α:=Nat×S) [12,13,17,18,19,20,21,22,47,48,49,50,51,52,53,54,55,56,57,58,59,60,61,62,63,64,65,66,67,68,69,70,71,72,73,74,75,76,77,78,79,80,81,82,83,84,85,86,87] (λx=>[(47,.int .i64 (x.1:Int))]) (λx=>HS w (fps [C s]) [.blk b2 87 3 (nth L v.i).vals,C x.2]) (λx=>x.1<=(nth L v.i).cs.length/\(Xy st er s (QfC (pln L) f v x.1)).1.2=0/\(Xy st er s (QfC (pln L) f v x.1)).2=x.2) (λx=>(nth L v.i).cs.length-x.1) (0,st s v) ⟨Nat.zero_le _,by rw[QlL,hz0],by rw[QlL,hz0]⟩ aSx (λw h=>h.ent aEt) (λ⟨k,sk⟩hx=>?_)
 dsimp only
 obtain⟨hk1,hk2,hk3⟩:=hx
 simp only[]at hk1 hk2 hk3
 refine aU5 ?_
 refine sCd rfl (λh3=>?_) λh3=>?_
 ·have hkl:k<(nth L v.i).cs.length:=by omega
  have hkid:=Qhb hT hi0 (k:=k) (by rw[hn];exact hkl)
  have hwk:=Qec hway hi0 (k:=k) (by rw[hn];exact hkl) om
  have hki:((Qa0 (pln L) v k).i:Int)=(nth L v.i).cs.getD k 0:=by unfold Qa0;rw[hn]at hkid ⊢;simp only[LNd.pl]at hkid ⊢;rw[Int.toNat_of_nonneg om]
  rw[Qg]at hkid
  refine aU6 ?_
  refine o_p (Qa rfl rfl rfl QD (k) om om (Rw.some (hs.cs hi) om)) rfl (o_q (Qc rfl rfl XB (((hs.cs hi).rdj 0 (i:=k) hkl rfl))) rfl (aU2 ?_))
  refine Ql (show _=Value.int .i64 ((Qa0 (pln L) v k).i:Int)from by rw[hki];rfl) (Qfd ?_)
  refine Xv (α:=Option Addr) [19,56,57,58,59,60,61] (λp=>[(19,.pointer p)]) (λ_=>HS w (fps [C s]) [.blk b2 87 3 (nth L v.i).vals,C sk]) (λp=>ZY w (fps [C s]) p (loK (nth L v.i).es k v.lo)) ?_ ?_
  ·skip
   refine sCd rfl (λh4=>?_) λh4=>?_
   ·refine aT5 ?_
    refine o_p (Qa rfl rfl rfl Xg (k-1) om om (Rw.some (hs.es hi) om)) rfl (aU3 ?_)
    exact Qn (some ⟨ab (nth L v.i).ea,ao (nth L v.i).ea+(k-1)*2,none⟩) (by rw[show loK (nth L v.i).es k v.lo=some (nth (nth L v.i).es (k-1)).key from if_pos om];exact⟨_,_,rfl,((hs.es hi).rdj 0 om rfl)⟩) aSx (λw h=>h.ent aEt)
   refine aU ?_
   exact Qn pl (by rw[show loK (nth L v.i).es k v.lo=v.lo from if_neg om];exact hpl) aSx (λw h=>h.ent aEt)
  intro p1 hp1
  refine aU9 ?_
  refine Qi (L':=[(0,_),(2,_),(3,_),(4,_),(5,_),(16,_),(17,_),(18,_),(19,_),(20,_),(44,_),(45,_),(46,_),(47,_),(66,_)]) aSx (λ_ h=>h) ?_
  refine Xv (α:=Option Addr) [20,67,68,69,70,71] (λp=>[(20,.pointer p)]) (λ_=>HS w (fps [C s]) [.blk b2 87 3 (nth L v.i).vals,C sk]) (λp=>ZY w (fps [C s]) p (hiK (nth L v.i).es k v.hi)) ?_ ?_
  ·skip
   refine sCd rfl (λh5=>?_) λh5=>?_
   ·refine aU4 ?_
    refine o_p (Qa rfl rfl rfl Xg (k) om om (Rw.some (hs.es hi) om)) rfl (aU3 ?_)
    exact Qn (some ⟨ab (nth L v.i).ea,ao (nth L v.i).ea+k*2,none⟩) (by rw[show hiK (nth L v.i).es k v.hi=some (nth (nth L v.i).es k).key from if_pos om];exact⟨_,_,rfl,((hs.es hi).rdj 0 om rfl)⟩) aSx (λw h=>h.ent aEt)
   refine aU ?_
   exact Qn ph (by rw[show hiK (nth L v.i).es k v.hi=v.hi from if_neg om];exact hph) aSx (λw h=>h.ent aEt)
  intro p2 hp2
  refine aT6 ?_
  refine aU3 ?_
  refine o_h (QV (Cs:=[C sk]) rfl Qjd rfl aPs (λw1 h1 hf9=>ih w1 sk (Qa0 (pln L) v k) p1 p2 (v.i::P) hf9 hq hfp hI (hk3▸QhX hI _ _ hIs) (λs2 v2 p3 p4 w2 h2 hs2 hi2 ha2 hb2 hp3 hp4=>hv s2 v2 p3 p4 w2 (HS.thenF (h1.ent (Bs:=[C sk]) aEt) h2) hs2 hi2 ha2 hb2 hp3 hp4) ((ht.keep h1).mono (Q1 aPs)) ((hs.keep h1).mono (Q1 aPs)) hT hB (by unfold Qa0;rw[hn];exact(hp1.keep h1).mono (Q1 aPs)) (by unfold Qa0;rw[hn];exact(hp2.keep h1).mono (Q1 aPs)) h0 hwk (by simp only[List.length_cons];omega) (by show v.d+1=_;simp only[List.length_cons];omega) (Qqg hT hi0 (by rw[hn];simp only[LNd.pl];omega) hko) (QpV hT hi0 hkp))) rfl (λ_ _=>ZW ?_)
  refine sCd rfl (λh6=>?_) λh6=>?_
  ·have e9:Xy st er s (QfC (pln L) f v k++vis (pln L) f (Qa0 (pln L) v k))=Xy st er sk (vis (pln L) f (Qa0 (pln L) v k)):=by rw[Qkn _ _ hk2,hk3]
   have hz:Xy st er s (vis (pln L) (f+1) v)=Xy st er sk (vis (pln L) f (Qa0 (pln L) v k)):=by rw[Qfm,hn];simp only[LNd.pl];obtain⟨B,eB⟩:=Qk8 (pln L) f v (show k+1<=(nth L v.i).cs.length by omega);rw[eB,Qdy,Qns _ _ (by rw[e9];exact h6),e9]
   refine aU ?_
   refine Qi (L':=[(0,_),(2,_),(3,_),(4,_),(5,_),(16,_),(21,_),(22,_),(44,_),(45,_),(46,_),(47,_)]) aSx (λ_ h=>h) ?_
   refine aU6 ?_
   exact Qf (rs:=[.tmp 12,.tmp 13]) rfl (.tmp rfl (.tmp rfl (.nil))) (λw' h'=>⟨(),by rw[hz];rfl,trivial,by rw[hz];exact h'.ent aEt⟩)
  have hz:Xy st er s (QfC (pln L) f v (k+1))=Xy st er sk (vis (pln L) f (Qa0 (pln L) v k)):=by rw[Qdy,Qkn _ _ hk2,hk3]
  refine aU2 ?_
  refine Qi (L':=[(0,_),(2,_),(3,_),(4,_),(5,_),(16,_),(44,_),(45,_),(46,_),(47,_)]) aSx (λ_ h=>h) ?_
  refine aT2 ?_
  refine aU2 ?_
  exact sBk (k+1,(Xy st er sk (vis (pln L) f (Qa0 (pln L) v k))).2) (by(try simp only[]);omega) ⟨by(try simp only[]);omega,by simp only[];rw[hz];exact h6,by simp only[];rw[hz]⟩
 refine Qj rfl ?_
 refine aU5 ?_
 exact Qf (rs:=[.tmp 12,.tmp 13]) rfl (.tmp rfl (.tmp rfl (.nil))) (λw' h'=>⟨(),by have hke:k=(nth L v.i).cs.length:=om;rw[Qfm,hn];simp only[LNd.pl];rw[<-hke,Qm0 _ _ hk2];rfl,trivial,by have hke:k=(nth L v.i).cs.length:=om;rw[Qfm,hn];simp only[LNd.pl];rw[<-hke,hk3];exact h'.ent aEt⟩)
theorem Qi6(S:Type)(I:S->Prop)(C:S->HA)(st:S->Vis->S)(er:S->Vis->Int×Int)(q:Nat)(cv:Array Value)(bt:Nat)(j:Nat)(mo rm:Int)(a:Option Addr)(cap:Nat)(L:List LNd):∀f,WkC S I C st er q cv bt j mo rm a cap L f
  | 0=>λw s v pl ph P hw hq hfp hI hIs hv ht hs hT hB hpl hph h0 hway hf hd hko hkp=>by
    have hl:=QbD hT (by rw[Qg];exact h0) hway;rw[Qg]at hl;simp only[List.length_cons]at hl;omega
  | f+1=>λw s v pl ph P hw hq hfp hI hIs hv ht hs hT hB hpl hph h0 hway hf hd hko hkp=>Qrv w S I C st er q cv bt j mo rm a cap L s v pl ph P f hw hq hfp hI hIs hv ht hs hT hB hpl hph h0 hway hf hd hko hkp (Qi6 S I C st er q cv bt j mo rm a cap L f)
theorem c188(w:World)(i:Nat)(d:Int)(pl ph:Option Addr)(c4 bb n:Nat)(s:List Bool)(hw:HS w (fps [.blk bb 4 n (s.map Value.bool)]) [.blk bb 4 n (s.map Value.bool)] w)(hc4:Rd w (fps [.blk bb 4 n (s.map Value.bool)]) c4 0 (.slice (some ⟨bb,0,none⟩) n n))(hi:i<n)(hn:s.length=n):CE 188 #[.int .i64 (i:Int),.int .i64 d,.pointer pl,.pointer ph,.pointer (some ⟨c4,0,none⟩)] w (fps [.blk bb 4 n (s.map Value.bool)]) (λg:Unit=>.tuple #[.int .i64 0,.int .i64 0]) (λg=>True) λg=>[.blk bb 4 n ((s.set i true).map Value.bool)]:=by
 refine eW5 Tryz.func188 Tryz.ntmps188 hw ?_
 refine aU7 ?_
 refine o_q (Qc rfl rfl Qpr (hc4)) rfl (aU ?_)
 refine o_p (Qa rfl rfl rfl QjB (i) om om rfl) rfl (Qcq (XW rfl rfl rfl Qla rfl aPt (by first|(simp only[List.length_map,List.length_singleton,List.length_cons,List.length_nil];omega)|(simp;omega)) rfl) (λ_ _=>aU6 ?_))
 exact Qf (rs:=[.tmp 9,.tmp 10]) rfl (.tmp rfl (.tmp rfl (.nil))) (λw' h'=>⟨(),rfl,trivial,by have h2:=h';rw[List.map_set];simp only[Qu,Nat.zero_add,Nat.mul_one]at h2;exact h2.ent aEt⟩)
instance:TFn Tryz.prog 76:=⟨by kernel_rfl⟩
theorem Qq7:QE Tryz.prog 190=true:=by kernel_rfl
theorem Qhd:QhU Tryz.prog 242 9:=Qkh Tryz.underlying242 ZR (by decide)
theorem c189(w:World)(v:Vis)(pl ph:Option Addr)(c1 c7:Nat)(s:Int)(bt:Nat)(j:Nat)(mo rm:Int)(a:Option Addr)(cap:Nat)(L:List LNd)(hw:HS w (fps [.blk c7 3 1 [.int .i64 s]]) [.blk c7 3 1 [.int .i64 s]] w)(hc1:Rd w (fps [.blk c7 3 1 [.int .i64 s]]) c1 0 (.pointer (some ⟨bt,0,none⟩)))(ht:TbR w (fps [.blk c7 3 1 [.int .i64 s]]) bt (j:Int) mo rm a L.length cap)(hs:Nt w (fps [.blk c7 3 1 [.int .i64 s]]) a L)(hj:j<=3)(hmo:0<=mo/\mo<=1000)(hi:v.i<L.length)(hl:L.length<=1000)(hel:(nth L v.i).es.length<=1000)(hcl:(nth L v.i).cs.length<=1000)(hc0:(nth L 0).cs.length<=1000)(he0:(nth L 0).es.length<=1000)(hpl:ZY w (fps [.blk c7 3 1 [.int .i64 s]]) pl v.lo)(hph:ZY w (fps [.blk c7 3 1 [.int .i64 s]]) ph v.hi)(hlo:∀k,v.lo=some k->(Q3 (j:Int) k=true/\k.length<=1000000))(hhi:∀k,v.hi=some k->(Q3 (j:Int) k=true/\k.length<=1000000))(hok:∀x∈(nth L v.i).es,Q3 (j:Int) x.key=true/\x.key.length<=1000000):CE 189 #[.int .i64 (v.i:Int),.int .i64 v.d,.pointer pl,.pointer ph,.pointer (some ⟨c1,0,none⟩),.pointer (some ⟨c7,0,none⟩)] w (fps [.blk c7 3 1 [.int .i64 s]]) (λg:Unit=>.tuple #[.int .i64 (erV (⟨(j:Int),mo,rm,pln L⟩:Tre) s v).1,.int .i64 (erV (⟨(j:Int),mo,rm,pln L⟩:Tre) s v).2]) (λg=>True) λg=>[.blk c7 3 1 [.int .i64 (stV (⟨(j:Int),mo,rm,pln L⟩:Tre) s v)]]:=by
 have h00:0<L.length:=om
 have hn:nth (pln L) v.i=(nth L v.i).pl:=Qz hi
 have hn0:nth (pln L) 0=(nth L 0).pl:=Qz h00
 have hG:Qcn (⟨(j:Int),mo,rm,pln L⟩:Tre) v=(decide (0<v.i)&&(decide (((nth L v.i).es.length:Int)<mo/2)||((decide (((nth L 0).es.length:Int)=0)&&decide ((v.i:Int)∈(nth L 0).cs))&&decide (((nth L v.i).es.length:Int)<=rm)))):=by unfold Qcn;rw[hn,hn0];simp only[LNd.pl];congr 3;congr 1;apply decide_eq_decide.2;omega
 have hO:QaT (⟨(j:Int),mo,rm,pln L⟩:Tre) v=(nth L v.i).es.any (QdW (⟨(j:Int),mo,rm,pln L⟩:Tre) v):=by unfold QaT;rw[hn];rfl
 have hE:erV (⟨(j:Int),mo,rm,pln L⟩:Tre) s v=((v.i:Int),if Qcn (⟨(j:Int),mo,rm,pln L⟩:Tre) v=true then 14 else if QaT (⟨(j:Int),mo,rm,pln L⟩:Tre) v=true then 9 else if(nth L v.i).cs.length=0 then(if(if s=0 then v.d else s)=v.d then 0 else 22)else 0):=by unfold erV;rw[hn];rfl
 have hS:stV (⟨(j:Int),mo,rm,pln L⟩:Tre) s v=if Qcn (⟨(j:Int),mo,rm,pln L⟩:Tre) v=true then s else if QaT (⟨(j:Int),mo,rm,pln L⟩:Tre) v=true then s else if(nth L v.i).cs.length=0 then(if s=0 then v.d else s)else s:=by unfold stV;rw[hn];rfl
 refine eW6 Tryz.func189 Tryz.ntmps189 hw ?_
 refine aU7 ?_
 refine o_q (Qc rfl rfl Ys (hc1)) rfl (aU3 ?_)
 refine o_q (Qc rfl rfl YY (ht 3 _ rfl)) rfl (aU ?_)
 refine o_p (Qa rfl rfl rfl Xx (v.i) om om (Rw.some hs.1 om)) rfl (o_q (Qm _ rfl rfl Qbj rfl (Rw.rd hs.1 hi)) rfl (oAl (λb1 _=>?_) YX))
 refine aU5 ?_
 refine o_q (Qc rfl rfl Ys (hc1)) rfl (aU3 ?_)
 refine o_q (Qc rfl rfl YY (ht 3 _ rfl)) rfl (o_p (Qa rfl rfl rfl Xx (0) om om (Rw.some hs.1 om)) rfl (o_q (Qm _ rfl rfl Qbj rfl (Rw.rd hs.1 (i:=0) h00)) rfl (oAl (λb2 _=>?_) YX)))
 refine aU7 ?_
 refine Qi (L':=[(0,_),(1,_),(2,_),(3,_),(4,_),(5,_),(10,_),(11,_),(12,_),(13,_),(33,_)]) aSx (λ_ h=>h) ?_
 refine Xv (α:=Unit) [10,11,14,34,35,36,37,38,39,40,41,42,43,44,45,46,47,48,49,50,51,52,53,54,55,56,57,58,59,60,61,62,63,64] (λ_=>[]) (λ_=>HS w (fps [.blk c7 3 1 [.int .i64 s]]) [.blk b2 87 3 (nth L 0).vals,.blk b1 87 3 (nth L v.i).vals,.blk c7 3 1 [.int .i64 s]]) (λ_=>Qcn (⟨(j:Int),mo,rm,pln L⟩:Tre) v=false) ?_ ?_
 ·skip
  refine sCd rfl (λh3=>?_) λh3=>?_
  ·refine aU7 ?_
   refine XH 5 38 43 rfl
    (λhg4 _=>by
     refine aU7 ?_
     refine oCq rfl (λw1 h1=>c76 w1 (nth L 0).ca (nth L 0).cc (nth L 0).cs (v.i:Int) ((hs.cs h00).later h1) om) ?_
     exact oJt 5 43)
    (λhg6 _=>by
     refine aU4 ?_
     exact oJf 5 43) ?_
   refine aU3 ?_
   refine Xv (α:=Unit) [44,45,46,47,48,49,50,51,52,53,54,55,56,57,58,59,60,61,62,63] (λ_=>[(63,.bool (decide (((nth L v.i).es.length:Int)<mo/2)||((decide (((nth L 0).es.length:Int)=0)&&decide ((v.i:Int)∈(nth L 0).cs))&&decide (((nth L v.i).es.length:Int)<=rm))))]) (λ_=>HS w (fps [.blk c7 3 1 [.int .i64 s]]) [.blk b2 87 3 (nth L 0).vals,.blk b1 87 3 (nth L v.i).vals,.blk c7 3 1 [.int .i64 s]]) (λ_=>True) ?_ ?_
   ·skip
    refine Qp [] mixed ?_
    refine dFa 0 ?_
    refine dLd 1 [] ?_
    refine dV 2 rfl (QI rfl rfl Tryz.underlying85) (dQ 3 [] rfl (Qc rfl rfl Ys (hc1)) (dQ 4 [] rfl (Qh rfl Qq7 rfl (λw1 h1=>c190 w1 bt j mo rm a L.length cap hmo (ht.next h1))) (dP 5 ?_)))
    refine dP 6 ?_
    apply XC 50
    ·exact rfl
    ·intro hg8
     have hs9:=hg8;try simp only[dT]at hs9
     refine dOf 7 50 hg8 ?_
     refine dOf 8 50 hg8 ?_
     refine dOu 9 52 ?_
     refine dOu 10 52 ?_
     refine dOu 11 52 ?_
     refine dOu 12 52 ?_
     refine dOu 13 52 ?_
     refine dOu 14 52 ?_
     refine dOu 15 52 ?_
     refine dOu 16 52 ?_
     refine dOu 17 52 ?_
     refine dOf 18 50 hg8 ?_
     refine dV 19 rfl (XI rfl rfl hg8 rfl) (Qs (show _=Value.bool (decide (((nth L v.i).es.length:Int)<mo/2)||((decide (((nth L 0).es.length:Int)=0)&&decide ((v.i:Int)∈(nth L 0).cs))&&decide (((nth L v.i).es.length:Int)<=rm)))from by congr 1;first|(simp_all;done)|(simp_all;omega)) (dNi ?_))
     exact Qn () trivial aSx (λw h=>h.ent aEt)
    intro hg10
    have hs11:=hg10;try simp only[dN]at hs11
    refine dPo 7 50 hg10 ?_
    refine dPo 8 50 hg10 ?_
    apply XC 52
    ·exact rfl
    ·intro hg12
     have hs13:=hg12;try simp only[Bool.and_eq_true,decide_eq_true_eq]at hs13
     refine dFo 9 52 hg12 ?_
     refine dQo 10 52 [] hg12 rfl rfl rfl (X8 rfl rfl YW aPk rfl) ?_
     refine dVo 11 52 hg12 rfl rfl rfl (QI rfl rfl Tryz.underlying85) ?_
     refine dQo 12 52 [] hg12 rfl rfl rfl (Qc rfl rfl Ys (hc1)) ?_
     refine dPo 13 52 hg12 ?_
     refine dFo 14 52 hg12 ?_
     refine dFo 15 52 hg12 ?_
     refine dQo 16 52 [] hg12 rfl rfl rfl (Qc rfl rfl XB (ht 2 _ rfl)) ?_
     refine dPo 17 52 hg12 ?_
     refine dVo 18 50 hg10 rfl rfl rfl (XI rfl rfl hg12 rfl) ?_
     refine dV 19 rfl (Q8 rfl rfl hg10 rfl) (Qs (show _=Value.bool (decide (((nth L v.i).es.length:Int)<mo/2)||((decide (((nth L 0).es.length:Int)=0)&&decide ((v.i:Int)∈(nth L 0).cs))&&decide (((nth L v.i).es.length:Int)<=rm)))from by congr 1;first|(simp_all;done)|(simp_all;omega)) (dNi ?_))
     exact Qn () trivial aSx (λw h=>h.ent aEt)
    intro hg14
    have hs15:=hg14;try simp only[Bool.and_eq_false_iff,decide_eq_false_iff_not]at hs15
    refine dOf 9 52 hg14 ?_
    refine dOf 10 52 hg14 ?_
    refine dOf 11 52 hg14 ?_
    refine dOf 12 52 hg14 ?_
    refine dOf 13 52 hg14 ?_
    refine dOf 14 52 hg14 ?_
    refine dOf 15 52 hg14 ?_
    refine dOf 16 52 hg14 ?_
    refine dOf 17 52 hg14 ?_
    refine dVo 18 50 hg10 rfl rfl rfl (Q8 rfl rfl hg14 rfl) ?_
    refine dV 19 rfl (Q8 rfl rfl hg10 rfl) (Qs (show _=Value.bool (decide (((nth L v.i).es.length:Int)<mo/2)||((decide (((nth L 0).es.length:Int)=0)&&decide ((v.i:Int)∈(nth L 0).cs))&&decide (((nth L v.i).es.length:Int)<=rm)))from by congr 1;first|(simp_all;done)|(simp_all;omega)) (dNi ?_))
    exact Qn () trivial aSx (λw h=>h.ent aEt)
   intro _ _
   refine sCd rfl (λh16=>?_) λh16=>?_
   ·have hz:Qcn (⟨(j:Int),mo,rm,pln L⟩:Tre) v=true:=by rw[hG];have hq:=h16;simp only[Bool.and_eq_true,Bool.or_eq_true,decide_eq_true_eq];exact⟨om,hq⟩
    refine aU6 ?_
    exact Qf (rs:=[.tmp 10,.tmp 11]) rfl (.tmp rfl (.tmp rfl (.nil))) (λw' h'=>⟨(),by rw[hE];simp only[];rw[if_pos hz];rfl,trivial,by rw[hS,if_pos hz];exact h'.ent aEt⟩)
   refine aU ?_
   exact Qn () (by rw[hG,decide_eq_true om,Bool.true_and];apply Bool.eq_false_iff.2;intro h9;simp only[Bool.and_eq_true,Bool.or_eq_true,decide_eq_true_eq]at h9;have hq:=h16;simp at hq h9;grind) aSx (λw h=>h.ent aEt)
  refine aU ?_
  exact Qn () (by rw[hG,decide_eq_false om];rfl) aSx (λw h=>h.ent aEt)
 intro _ hz1
 refine aU9 ?_
 refine Qt (α:=Nat) [10,11,16,68,69,70,71,72,73,74,75,76,77,78,79,80,81,82,83,84,85,86,87,88,89,90,91,92,93,94,95,96,97,98,99,100,101,102,103,104,105,106,107] (λk=>[(68,.int .i64 (k:Int))]) (λ_=>HS w (fps [.blk c7 3 1 [.int .i64 s]]) [.blk b2 87 3 (nth L 0).vals,.blk b1 87 3 (nth L v.i).vals,.blk c7 3 1 [.int .i64 s]]) (λk=>k<=(nth L v.i).es.length/\∀i,i<k->QdW (⟨(j:Int),mo,rm,pln L⟩:Tre) v (nth (nth L v.i).es i)=false) (λk=>(nth L v.i).es.length-k) 0 ⟨Nat.zero_le _,λi h=>absurd h (Nat.not_lt_zero i)⟩ aSx (λw h=>h.ent aEt) (λk hx=>?_)
 obtain⟨hk1,hk2⟩:=hx
 refine aU5 ?_
 refine sCd rfl (λh17=>?_) λh17=>?_
 ·have hkl:k<(nth L v.i).es.length:=by omega
  refine aU5 ?_
  refine o_p (Qa rfl rfl rfl Xg (k) om om (Rw.some (hs.es hi) om)) rfl (o_q (Qm _ rfl rfl Z4 rfl (Rw.rd (hs.es hi) (i:=k) hkl)) rfl (oAl (λb18 _=>?_) XU))
  refine aU3 ?_
  refine Xv (α:=Unit) [72,73,74,75,76,77,78,79,80,81,82,83,84,85,86,87,88,89,90,91,92,93,94,95,96,97,98,99,100,101,102,103,104,105] (λ_=>[(105,.bool (QdW (⟨(j:Int),mo,rm,pln L⟩:Tre) v (nth (nth L v.i).es k)))]) (λ_=>HS w (fps [.blk c7 3 1 [.int .i64 s]]) [.blk b2 87 3 (nth L 0).vals,.blk b1 87 3 (nth L v.i).vals,.blk c7 3 1 [.int .i64 s]]) (λ_=>True) ?_ ?_
  ·skip
   refine Qp [] mixed ?_
   refine dP 0 ?_
   refine dV 1 rfl (Qfr rfl rfl rfl Qhd) (dP 2 ?_)
   apply XC 74
   ·exact rfl
   ·intro hg19
    have hs20:=hg19;skip
    refine dQo 3 74 [] hg19 rfl rfl rfl (Qc rfl rfl Ys (hc1)) ?_
    obtain⟨k9,b9,o9,hlo9,rfl,hr9⟩:=hpl.of_some hg19
    refine dPo 4 74 hg19 ?_
    refine dFo 5 74 hg19 ?_
    refine dFo 6 74 hg19 ?_
    refine dQo 7 74 [] hg19 rfl rfl rfl (Qc rfl rfl Qdq (ht 5 _ rfl)) ?_
    refine dPo 8 74 hg19 ?_
    refine dPo 9 74 hg19 ?_
    refine dQo 10 74 [] hg19 rfl rfl rfl (Qc rfl rfl ZR (hr9)) ?_
    refine dFo 11 74 hg19 ?_
    refine dQo 12 74 [] hg19 rfl rfl rfl (X8 rfl rfl ZR aPk rfl) ?_
    refine dQo 13 74 [] hg19 rfl rfl rfl (XS rfl rfl (Qe0 _) rfl (λw1 h1=>Qay w1 j k9 (nth (nth L v.i).es k).key hj (hlo _ hlo9).1 (hok _ (QX hkl)).1 (hlo _ hlo9).2 (hok _ (QX hkl)).2)) ?_
    refine dPo 14 74 hg19 ?_
    refine dV 15 rfl (XI rfl rfl hg19 rfl) (Qs (show _=Value.bool (v.lo.any λb=>decide (0<=QS (j:Int) b (nth (nth L v.i).es k).key))from by congr 1;first|(rw[hlo9];rfl)|(rw[hpl.of_none hg19];rfl)) (dP 16 ?_))
    apply XC 88
    ·exact rfl
    ·intro hg21
     have hs22:=hg21;skip
     refine dOf 17 88 hg21 ?_
     refine dOf 18 88 hg21 ?_
     refine dOf 19 88 hg21 ?_
     refine dOu 20 91 ?_
     refine dOu 21 91 ?_
     refine dOu 22 91 ?_
     refine dOu 23 91 ?_
     refine dOu 24 91 ?_
     refine dOu 25 91 ?_
     refine dOu 26 91 ?_
     refine dOu 27 91 ?_
     refine dOu 28 91 ?_
     refine dOu 29 91 ?_
     refine dOu 30 91 ?_
     refine dOu 31 91 ?_
     refine dOf 32 88 hg21 ?_
     refine dV 33 rfl (XI rfl rfl hg21 rfl) (Qs (show _=Value.bool (QdW (⟨(j:Int),mo,rm,pln L⟩:Tre) v (nth (nth L v.i).es k))from by congr 1;show _=((v.lo.any λb=>decide (0<=QS (j:Int) b (nth (nth L v.i).es k).key))||(v.hi.any λb=>decide (0<=QS (j:Int) (nth (nth L v.i).es k).key b)));first|(rw[show(v.lo.any λb=>decide (0<=QS (j:Int) b (nth (nth L v.i).es k).key))=true by assumption];rfl)|(rw[show(v.lo.any λb=>decide (0<=QS (j:Int) b (nth (nth L v.i).es k).key))=false by assumption];rfl)) (dNi ?_))
     exact Qn () trivial aSx (λw h=>h.ent aEt)
    intro hg23
    have hs24:=hg23;skip
    refine dPo 17 88 hg23 ?_
    refine dVo 18 88 hg23 rfl rfl rfl (Qfr rfl rfl rfl Qhd) ?_
    refine dPo 19 88 hg23 ?_
    apply XC 91
    ·exact rfl
    ·intro hg25
     have hs26:=hg25;skip
     refine dQo 20 91 [] hg25 rfl rfl rfl (Qc rfl rfl Ys (hc1)) ?_
     obtain⟨k8,b8,o8,hhi8,rfl,hr8⟩:=hph.of_some hg25
     refine dPo 21 91 hg25 ?_
     refine dFo 22 91 hg25 ?_
     refine dFo 23 91 hg25 ?_
     refine dQo 24 91 [] hg25 rfl rfl rfl (Qc rfl rfl Qdq (ht 5 _ rfl)) ?_
     refine dFo 25 91 hg25 ?_
     refine dQo 26 91 [] hg25 rfl rfl rfl (X8 rfl rfl ZR aPk rfl) ?_
     refine dPo 27 91 hg25 ?_
     refine dPo 28 91 hg25 ?_
     refine dQo 29 91 [] hg25 rfl rfl rfl (Qc rfl rfl ZR (hr8)) ?_
     refine dQo 30 91 [] hg25 rfl rfl rfl (XS rfl rfl (Qe0 _) rfl (λw1 h1=>Qay w1 j (nth (nth L v.i).es k).key k8 hj (hok _ (QX hkl)).1 (hhi _ hhi8).1 (hok _ (QX hkl)).2 (hhi _ hhi8).2)) ?_
     refine dPo 31 91 hg25 ?_
     refine dVo 32 88 hg23 rfl rfl rfl (XI rfl rfl hg25 rfl) ?_
     refine Qs (show _=Value.bool (v.hi.any λb=>decide (0<=QS (j:Int) (nth (nth L v.i).es k).key b))from by congr 1;first|(rw[hhi8];rfl)|(rw[hph.of_none hg25];rfl)) (dV 33 rfl (Q8 rfl rfl hg23 rfl) (Qs (show _=Value.bool (QdW (⟨(j:Int),mo,rm,pln L⟩:Tre) v (nth (nth L v.i).es k))from by congr 1;show _=((v.lo.any λb=>decide (0<=QS (j:Int) b (nth (nth L v.i).es k).key))||(v.hi.any λb=>decide (0<=QS (j:Int) (nth (nth L v.i).es k).key b)));first|(rw[show(v.lo.any λb=>decide (0<=QS (j:Int) b (nth (nth L v.i).es k).key))=true by assumption];rfl)|(rw[show(v.lo.any λb=>decide (0<=QS (j:Int) b (nth (nth L v.i).es k).key))=false by assumption];rfl)) (dNi ?_)))
     exact Qn () trivial aSx (λw h=>h.ent aEt)
    intro hg27
    have hs28:=hg27;skip
    refine dOf 20 91 hg27 ?_
    refine dOf 21 91 hg27 ?_
    refine dOf 22 91 hg27 ?_
    refine dOf 23 91 hg27 ?_
    refine dOf 24 91 hg27 ?_
    refine dOf 25 91 hg27 ?_
    refine dOf 26 91 hg27 ?_
    refine dOf 27 91 hg27 ?_
    refine dOf 28 91 hg27 ?_
    refine dOf 29 91 hg27 ?_
    refine dOf 30 91 hg27 ?_
    refine dOf 31 91 hg27 ?_
    refine dVo 32 88 hg23 rfl rfl rfl (Q8 rfl rfl hg27 rfl) ?_
    refine Qs (show _=Value.bool (v.hi.any λb=>decide (0<=QS (j:Int) (nth (nth L v.i).es k).key b))from by congr 1;first|(rw[hhi8];rfl)|(rw[hph.of_none hg27];rfl)) (dV 33 rfl (Q8 rfl rfl hg23 rfl) (Qs (show _=Value.bool (QdW (⟨(j:Int),mo,rm,pln L⟩:Tre) v (nth (nth L v.i).es k))from by congr 1;show _=((v.lo.any λb=>decide (0<=QS (j:Int) b (nth (nth L v.i).es k).key))||(v.hi.any λb=>decide (0<=QS (j:Int) (nth (nth L v.i).es k).key b)));first|(rw[show(v.lo.any λb=>decide (0<=QS (j:Int) b (nth (nth L v.i).es k).key))=true by assumption];rfl)|(rw[show(v.lo.any λb=>decide (0<=QS (j:Int) b (nth (nth L v.i).es k).key))=false by assumption];rfl)) (dNi ?_)))
    exact Qn () trivial aSx (λw h=>h.ent aEt)
   intro hg29
   have hs30:=hg29;skip
   refine dOf 3 74 hg29 ?_
   refine dOf 4 74 hg29 ?_
   refine dOf 5 74 hg29 ?_
   refine dOf 6 74 hg29 ?_
   refine dOf 7 74 hg29 ?_
   refine dOf 8 74 hg29 ?_
   refine dOf 9 74 hg29 ?_
   refine dOf 10 74 hg29 ?_
   refine dOf 11 74 hg29 ?_
   refine dOf 12 74 hg29 ?_
   refine dOf 13 74 hg29 ?_
   refine dOf 14 74 hg29 ?_
   refine dV 15 rfl (Q8 rfl rfl hg29 rfl) (Qs (show _=Value.bool (v.lo.any λb=>decide (0<=QS (j:Int) b (nth (nth L v.i).es k).key))from by congr 1;first|(rw[hlo9];rfl)|(rw[hpl.of_none hg29];rfl)) (dP 16 ?_))
   apply XC 88
   ·exact rfl
   ·intro hg31
    have hs32:=hg31;skip
    refine dOf 17 88 hg31 ?_
    refine dOf 18 88 hg31 ?_
    refine dOf 19 88 hg31 ?_
    refine dOu 20 91 ?_
    refine dOu 21 91 ?_
    refine dOu 22 91 ?_
    refine dOu 23 91 ?_
    refine dOu 24 91 ?_
    refine dOu 25 91 ?_
    refine dOu 26 91 ?_
    refine dOu 27 91 ?_
    refine dOu 28 91 ?_
    refine dOu 29 91 ?_
    refine dOu 30 91 ?_
    refine dOu 31 91 ?_
    refine dOf 32 88 hg31 ?_
    refine dV 33 rfl (XI rfl rfl hg31 rfl) (Qs (show _=Value.bool (QdW (⟨(j:Int),mo,rm,pln L⟩:Tre) v (nth (nth L v.i).es k))from by congr 1;show _=((v.lo.any λb=>decide (0<=QS (j:Int) b (nth (nth L v.i).es k).key))||(v.hi.any λb=>decide (0<=QS (j:Int) (nth (nth L v.i).es k).key b)));first|(rw[show(v.lo.any λb=>decide (0<=QS (j:Int) b (nth (nth L v.i).es k).key))=true by assumption];rfl)|(rw[show(v.lo.any λb=>decide (0<=QS (j:Int) b (nth (nth L v.i).es k).key))=false by assumption];rfl)) (dNi ?_))
    exact Qn () trivial aSx (λw h=>h.ent aEt)
   intro hg33
   have hs34:=hg33;skip
   refine dPo 17 88 hg33 ?_
   refine dVo 18 88 hg33 rfl rfl rfl (Qfr rfl rfl rfl Qhd) ?_
   refine dPo 19 88 hg33 ?_
   apply XC 91
   ·exact rfl
   ·intro hg35
    have hs36:=hg35;skip
    refine dQo 20 91 [] hg35 rfl rfl rfl (Qc rfl rfl Ys (hc1)) ?_
    obtain⟨k8,b8,o8,hhi8,rfl,hr8⟩:=hph.of_some hg35
    refine dPo 21 91 hg35 ?_
    refine dFo 22 91 hg35 ?_
    refine dFo 23 91 hg35 ?_
    refine dQo 24 91 [] hg35 rfl rfl rfl (Qc rfl rfl Qdq (ht 5 _ rfl)) ?_
    refine dFo 25 91 hg35 ?_
    refine dQo 26 91 [] hg35 rfl rfl rfl (X8 rfl rfl ZR aPk rfl) ?_
    refine dPo 27 91 hg35 ?_
    refine dPo 28 91 hg35 ?_
    refine dQo 29 91 [] hg35 rfl rfl rfl (Qc rfl rfl ZR (hr8)) ?_
    refine dQo 30 91 [] hg35 rfl rfl rfl (XS rfl rfl (Qe0 _) rfl (λw1 h1=>Qay w1 j (nth (nth L v.i).es k).key k8 hj (hok _ (QX hkl)).1 (hhi _ hhi8).1 (hok _ (QX hkl)).2 (hhi _ hhi8).2)) ?_
    refine dPo 31 91 hg35 ?_
    refine dVo 32 88 hg33 rfl rfl rfl (XI rfl rfl hg35 rfl) ?_
    refine Qs (show _=Value.bool (v.hi.any λb=>decide (0<=QS (j:Int) (nth (nth L v.i).es k).key b))from by congr 1;first|(rw[hhi8];rfl)|(rw[hph.of_none hg35];rfl)) (dV 33 rfl (Q8 rfl rfl hg33 rfl) (Qs (show _=Value.bool (QdW (⟨(j:Int),mo,rm,pln L⟩:Tre) v (nth (nth L v.i).es k))from by congr 1;show _=((v.lo.any λb=>decide (0<=QS (j:Int) b (nth (nth L v.i).es k).key))||(v.hi.any λb=>decide (0<=QS (j:Int) (nth (nth L v.i).es k).key b)));first|(rw[show(v.lo.any λb=>decide (0<=QS (j:Int) b (nth (nth L v.i).es k).key))=true by assumption];rfl)|(rw[show(v.lo.any λb=>decide (0<=QS (j:Int) b (nth (nth L v.i).es k).key))=false by assumption];rfl)) (dNi ?_)))
    exact Qn () trivial aSx (λw h=>h.ent aEt)
   intro hg37
   have hs38:=hg37;skip
   refine dOf 20 91 hg37 ?_
   refine dOf 21 91 hg37 ?_
   refine dOf 22 91 hg37 ?_
   refine dOf 23 91 hg37 ?_
   refine dOf 24 91 hg37 ?_
   refine dOf 25 91 hg37 ?_
   refine dOf 26 91 hg37 ?_
   refine dOf 27 91 hg37 ?_
   refine dOf 28 91 hg37 ?_
   refine dOf 29 91 hg37 ?_
   refine dOf 30 91 hg37 ?_
   refine dOf 31 91 hg37 ?_
   refine dVo 32 88 hg33 rfl rfl rfl (Q8 rfl rfl hg37 rfl) ?_
   refine Qs (show _=Value.bool (v.hi.any λb=>decide (0<=QS (j:Int) (nth (nth L v.i).es k).key b))from by congr 1;first|(rw[hhi8];rfl)|(rw[hph.of_none hg37];rfl)) (dV 33 rfl (Q8 rfl rfl hg33 rfl) (Qs (show _=Value.bool (QdW (⟨(j:Int),mo,rm,pln L⟩:Tre) v (nth (nth L v.i).es k))from by congr 1;show _=((v.lo.any λb=>decide (0<=QS (j:Int) b (nth (nth L v.i).es k).key))||(v.hi.any λb=>decide (0<=QS (j:Int) (nth (nth L v.i).es k).key b)));first|(rw[show(v.lo.any λb=>decide (0<=QS (j:Int) b (nth (nth L v.i).es k).key))=true by assumption];rfl)|(rw[show(v.lo.any λb=>decide (0<=QS (j:Int) b (nth (nth L v.i).es k).key))=false by assumption];rfl)) (dNi ?_)))
   exact Qn () trivial aSx (λw h=>h.ent aEt)
  intro _ _
  refine sCd rfl (λh39=>?_) λh39=>?_
  ·have hz2:QaT (⟨(j:Int),mo,rm,pln L⟩:Tre) v=true:=by rw[hO,List.any_eq_true];exact⟨_,QX hkl,h39⟩
   refine aU6 ?_
   exact Qf (rs:=[.tmp 10,.tmp 11]) rfl (.tmp rfl (.tmp rfl (.nil))) (λw' h'=>⟨(),by rw[hE];simp only[];rw[if_neg (by rw[hz1];decide),if_pos hz2];rfl,trivial,by rw[hS,if_neg (by rw[hz1];decide),if_pos hz2];exact h'.ent aEt⟩)
  refine aT4 ?_
  refine aU2 ?_
  exact sBk (k+1) om ⟨om,λi hi9=>(Nat.lt_or_ge i k).elim (hk2 i) (λh=>by obtain rfl:i=k:=om;have hq:=h39;simpa using hq)⟩
 obtain rfl:k=(nth L v.i).es.length:=om
 have hz2:QaT (⟨(j:Int),mo,rm,pln L⟩:Tre) v=false:=by rw[hO,List.any_eq_false];intro x hx;obtain⟨i9,hi9,e9⟩:=List.getElem_of_mem hx;have e8:nth (nth L v.i).es i9=x:=QH (by rw[List.getElem?_eq_getElem hi9,e9]);rw[<-e8,hk2 i9 hi9];decide
 refine Qj rfl ?_
 refine aU8 ?_
 refine sCd rfl (λh40=>?_) λh40=>?_
 ·have hc9:(nth L v.i).cs.length=0:=by have hq:=h40;omega
  have hEv:erV (⟨(j:Int),mo,rm,pln L⟩:Tre) s v=((v.i:Int),if(if s=0 then v.d else s)=v.d then 0 else 22):=by rw[hE,if_neg (by rw[hz1];decide),if_neg (by rw[hz2];decide),if_pos hc9]
  refine aU6 ?_
  refine Xv (α:=Unit) [114] (λ_=>[]) (λ_=>HS w (fps [.blk c7 3 1 [.int .i64 s]]) [.blk b2 87 3 (nth L 0).vals,.blk b1 87 3 (nth L v.i).vals,.blk c7 3 1 [.int .i64 (if s=0 then v.d else s)]]) (λ_=>True) ?_ ?_
  ·skip
   refine sCd rfl (λh41=>?_) λh41=>?_
   ·refine aU4 ?_
    exact Qn () trivial aSx (λw h=>by rw[if_pos h41];exact h.ent aEt)
   refine aU ?_
   exact Qn () trivial aSx (λw h=>by rw[if_neg h41];exact h.ent aEt)
  intro _ _
  refine aU6 ?_
  refine oCq rfl (λw1 h1=>Qa1 w1 _ _) (aU3 ?_)
  exact Qf (rs:=[.tmp 10,.tmp 11]) rfl (.tmp rfl (.tmp rfl (.nil))) (λw' h'=>⟨(),by rw[hEv];simp only[QR,cond_eq_ite,decide_eq_true_eq],trivial,by rw[hS,if_neg (by rw[hz1];decide),if_neg (by rw[hz2];decide),if_pos hc9];exact h'.ent aEt⟩)
 have hc9:¬(nth L v.i).cs.length=0:=by have hq:=h40;omega
 refine aU7 ?_
 exact Qf (rs:=[.tmp 10,.tmp 11]) rfl (.tmp rfl (.tmp rfl (.nil))) (λw' h'=>⟨(),by rw[hE];simp only[];rw[if_neg (by rw[hz1];decide),if_neg (by rw[hz2];decide),if_neg hc9];rfl,trivial,by rw[hS,if_neg (by rw[hz1];decide),if_neg (by rw[hz2];decide),if_neg hc9];exact h'.ent aEt⟩)
theorem zr_4:Xs Tryz.prog 4=some [.bool false]:=by kernel_rfl
theorem QrN:Xs Tryz.prog 60=some [.slice none 0 0]:=by kernel_rfl
theorem c136(w:World)(bt:Nat)(j:Nat)(mo rm:Int)(a:Option Addr)(cap:Nat)(L:List LNd)(ht:TbR w [] bt (j:Int) mo rm a L.length cap)(hs:Nt w [] a L)(hj:j<=3)(hmo:0<=mo/\mo<=1000)(h0:0<L.length)(hB:Bd (pln L))(hT:TOk (j:Int) (pln L)):CR 136 #[.pointer (some ⟨bt,0,none⟩)] w (.tuple #[.int .i64 (Qbc (⟨(j:Int),mo,rm,pln L⟩:Tre)).1,.int .i64 (Qbc (⟨(j:Int),mo,rm,pln L⟩:Tre)).2]):=by
 have hle:=hB.len
 rw[Qg]at hle
 have hvis:vis (pln L) L.length Qa7=ZN (pln L):=by unfold ZN;rw[Qg]
 have hmar:=Qjw (ZN (pln L)) (List.replicate L.length false)
 rw[List.length_replicate]at hmar
 have hbel:∀i,i<L.length->(Xy QfR (λ_ _=>(0,0)) (List.replicate L.length false) (ZN (pln L))).2.getD i false=decide (i∈(ZN (pln L)).map Vis.i):=λi hi=>by rw[hmar.2.2 i hi,show(List.replicate L.length false).getD i false=false from by rw[List.getD_eq_getElem?_getD,List.getElem?_replicate];split<;>rfl,Bool.false_or]
 have hes9:∀i,i<L.length->(nth L i).es.length<=1000:=λi hi=>by have h9:=hB.es i (by rw[Qg];exact hi);rw[Qz hi]at h9;exact h9
 have hcs9:∀i,i<L.length->(nth L i).cs.length<=1000:=λi hi=>by have h9:=hB.cs i (by rw[Qg];exact hi);rw[Qz hi]at h9;exact h9
 have hok9:∀i,i<L.length->∀x∈(nth L i).es,Q3 (j:Int) x.key=true/\x.key.length<=1000000:=λi hi=>by have h9:=Qes hT (i:=i) (by rw[Qg];exact hi);rw[Qz hi]at h9;exact h9
 refine eN1 Tryz.func136 Tryz.ntmps136 ?_
 refine aU2 ?_
 refine oBx λb1 _=>?_
 refine aU9 ?_
 refine o_q (Qc rfl rfl YY (ht 3 _ rfl)) rfl (aU ?_)
 refine o_h (QqH (n:=L.length) rfl rfl rfl QjB zr_4 om om) rfl (λb2 _=>Xm (λw h=>(show HS _ _ [.blk b2 4 L.length ((List.replicate L.length false).map Value.bool),.blk b1 147 1 [.pointer (some ⟨bt,0,none⟩)]] w from by have h9:=h;rw[Nat.mul_one,Qnw,<-List.map_replicate]at h9;exact h9.ent aEt)) (oAl (λb3 _=>?_) QrN))
 refine aU6 ?_
 refine o_h (QV (Cs:=[.blk b2 4 L.length ((List.replicate L.length false).map Value.bool)]) rfl Qjd rfl aPs (λw1 h1 hf=>by have h9:=Qi6 (List Bool) (λs=>s.length=L.length) (λs=>.blk b2 4 L.length (s.map Value.bool)) QfR (λ_ _=>(0,0)) 188 #[.pointer (some ⟨b3,0,none⟩)] bt j mo rm a cap L L.length w1 (List.replicate L.length false) Qa7 none none [] hf (by kernel_rfl) (λ_ _=>rfl) (λs v h=>by simpa[QfR]using h) (by simp) (λs2 v2 p2 p3 w2 h2 hs2 hi2 _ _ _ _=>c188 w2 v2.i v2.d p2 p3 b3 b2 L.length s2 (HS.focus (Cs:=[_]) (Ds:=[]) h2) (h2.keep (h1.rd_blkF aPs (b:=b3) aPk rfl)) hi2 hs2) ((ht.keep h1).mono (Q1 aPs)) ((hs.keep h1).mono (Q1 aPs)) hT hB rfl rfl h0 rfl (by simp) rfl (λ_ h=>by cases h) (λ_ h=>by cases h);rw[hvis]at h9;exact h9)) rfl (λ_ _=>aU3 ?_)
 refine Xm (λw h=>(show HS _ _ [.blk b2 4 L.length ((Xy QfR (λ_ _=>(0,0)) (List.replicate L.length false) (ZN (pln L))).2.map Value.bool),.blk b3 60 1 [.slice (some ⟨b2,0,none⟩) L.length L.length],.blk b1 147 1 [.pointer (some ⟨bt,0,none⟩)]] w from h.ent aEt)) (aU8 ?_)
 refine o_q (Qc rfl rfl YY (ht 3 _ rfl)) rfl (aU4 ?_)
 refine Qi (L':=[(1,_),(2,_),(3,_),(4,_),(25,_),(26,_),(27,_)]) aSx (λ_ h=>h) ?_
 refine Qt (α:=Nat) [2,3,5,6,27,28,29,30,31,32,33,34,35,36,37,38,39,40,41,42] (λk=>[(27,.int .i64 (k:Int))]) (λ_=>HS w [] [.blk b2 4 L.length ((Xy QfR (λ_ _=>(0,0)) (List.replicate L.length false) (ZN (pln L))).2.map Value.bool),.blk b3 60 1 [.slice (some ⟨b2,0,none⟩) L.length L.length],.blk b1 147 1 [.pointer (some ⟨bt,0,none⟩)]]) (λk=>k<=L.length/\Qb7 (pln L) ((ZN (pln L)).map Vis.i) L.length 0=Qb7 (pln L) ((ZN (pln L)).map Vis.i) (L.length-k) k) (λk=>L.length-k) 0 ⟨Nat.zero_le _,rfl⟩ aSx (λw h=>h.ent aEt) (λk hx=>?_)
 obtain⟨hk1,hk2⟩:=hx
 refine aU5 ?_
 refine sCd rfl (λh4=>?_) λh4=>?_
 ·have hkl:k<L.length:=by omega
  have hst:=Qk2 (ns:=pln L) (below:=(ZN (pln L)).map Vis.i) (k:=k) (by rw[Qg];exact hkl)
  rw[Qg,Qz hkl]at hst
  refine aU6 ?_
  refine o_p (Qa rfl rfl rfl Xx (k) om om (Rw.some hs.1 om)) rfl (o_q (Qm _ rfl rfl Qbj rfl (Rw.rd hs.1 hkl)) rfl (oAl (λb5 _=>?_) YX))
  refine aU8 ?_
  refine XH 6 34 40 rfl
   (λhg6 _=>by
    refine aU5 ?_
    refine o_p (Qa rfl rfl rfl QjB (k) om om rfl) rfl (aU ?_)
    refine o_q (Qo rfl rfl Qla (λw h=>by rw[Nat.zero_add,Nat.mul_one];exact h.rd_blk (Mc:=[]) (b:=b2) aPk (Qlx (by rw[hmar.2.1];exact hkl)) (by simp))) rfl (aU2 ?_)
    exact oJt 6 40)
   (λhg8 _=>by
    refine aU5 ?_
    exact oJf 6 40) ?_
  refine aU ?_
  refine sCd rfl (λh10=>?_) λh10=>?_
  ·have hz:(nth L k).pl.us=true/\k ∉ (ZN (pln L)).map Vis.i:=by have hq:=h10;rw[hbel k hkl]at hq;simp only[LNd.pl];simpa using hq
   refine aU6 ?_
   exact Qf (rs:=[.tmp 2,.tmp 3]) rfl (.tmp rfl (.tmp rfl (.nil))) (λw' h'=>⟨by rw[QiA (t:=(⟨(j:Int),mo,rm,pln L⟩:Tre)) (i:=k) (show Qb7 (pln L) _ (pln L).length 0=some k from by rw[Qg,hk2,hst,if_pos hz])];rfl,h'.below⟩)
  have hz:¬((nth L k).pl.us=true/\k ∉ (ZN (pln L)).map Vis.i):=by have hq:=h10;rw[hbel k hkl]at hq;simp only[LNd.pl];intro h9;simp at hq h9;grind
  refine aT4 ?_
  refine aU2 ?_
  exact sBk (k+1) om ⟨om,by rw[hk2,hst,if_neg hz]⟩
 have hnone:Qb7 (pln L) ((ZN (pln L)).map Vis.i) L.length 0=none:=by rw[hk2,show L.length-k=0 by omega];rfl
 refine Qj rfl ?_
 refine aU2 ?_
 refine oAl (λb11 _=>?_) Ye
 refine aU6 ?_
 refine o_h (QV (Cs:=[.blk b11 3 1 [.int .i64 0]]) rfl Qjd rfl aPs (λw1 h1 hf=>by have h9:=Qi6 Int (λ_=>True) (λs=>.blk b11 3 1 [.int .i64 s]) (stV (⟨(j:Int),mo,rm,pln L⟩:Tre)) (erV (⟨(j:Int),mo,rm,pln L⟩:Tre)) 189 #[.pointer (some ⟨b1,0,none⟩),.pointer (some ⟨b11,0,none⟩)] bt j mo rm a cap L L.length w1 0 Qa7 none none [] hf (by kernel_rfl) (λ_ _=>rfl) (λ_ _ _=>trivial) trivial (λs2 v2 p2 p3 w2 h2 _ hi2 ha2 hb2 hp2 hp3=>c189 w2 v2 p2 p3 b1 b11 s2 bt j mo rm a cap L (HS.focus (Cs:=[_]) (Ds:=[]) h2) (h2.keep (h1.rd_blkF aPs (b:=b1) aPk rfl)) (((ht.keep h1).mono (Q1 aPs)).keep h2) (((hs.keep h1).mono (Q1 aPs)).keep h2) hj hmo hi2 hle (hes9 _ hi2) (hcs9 _ hi2) (hcs9 _ h0) (hes9 _ h0) hp2 hp3 ha2 hb2 (hok9 _ hi2)) ((ht.keep h1).mono (Q1 aPs)) ((hs.keep h1).mono (Q1 aPs)) hT hB rfl rfl h0 rfl (by simp) rfl (λ_ h=>by cases h) (λ_ h=>by cases h);rw[hvis,Gx.run_shape (t:=(⟨(j:Int),mo,rm,pln L⟩:Tre)) hT (by show 0<(pln L).length;rw[Qg];exact h0)]at h9;exact h9)) rfl (λ_ _=>aU5 ?_)
 exact Qf (rs:=[.tmp 2,.tmp 3]) rfl (.tmp rfl (.tmp rfl (.nil))) (λw' h'=>⟨by rw[Qi3 (t:=(⟨(j:Int),mo,rm,pln L⟩:Tre)) (show Qb7 (pln L) _ (pln L).length 0=none from by rw[Qg];exact hnone)];rfl,h'.below⟩)
end Go.Proofs
