/- Contracts of the program's functions, proved by walking them with the rules of the Gx texts; without conditions beyond those that each contract names. -/
import Derived.WalkKit
import Derived.Deep.Draws
import Derived.TacticsIn
import Derived.OrdersIn
import Derived.RangeFuncLeaves
import Derived.Lib.Strings
import Derived.Laws.BytesArg
import Derived.Laws.IdiomStrings
import Derived.Deep.Quiet
import Derived.ProofKit
import Derived.OpenShut
import Derived.Laws.StructEq
import Derived.ChangeKeysEq
import Derived.Laws.Externs
import Derived.Lib.Overlaps
import Derived.Carry
import Derived.Laws.Small
import Derived.Lib.Bytealg
import Derived.Shelf.Small.Strs
import Derived.Shelf.Small.Wraps
import Derived.Shelf.Strconv.Itoa0
import Derived.Shelf.Strconv.Itoa1
import Derived.Shelf.LaysM
import Derived.Shelf.Strconv.Itoa2
import Derived.Shelf.Strconv.Itoa3
import Derived.Shelf.Strings.Search1
import Derived.Shelf.Strings.Search2
import Derived.Shelf.Strings.Cut
import Derived.Shelf.Strings.Shaped
import Derived.Shelf.Strings.LastIndex
import Derived.Shelf.Strings.LastIndexAll
import Derived.Shelf.Strings.Prefix
import Derived.Shelf.Slices.Turned
import Derived.Shelf.Slices.Reverse
import Derived.Shelf.Slices.Equal
import Derived.Ground.Names2Prog
import Derived.Shelf.Slices.Clone
import Derived.Shelf.Slices.SearchI
import Derived.Shelf.Slices.Delete
import Derived.Shelf.Slices.Cells
import Derived.Shelf.Slices.Empties
import Derived.Shelf.Slices.Empties2
import Derived.Ground.SlgnProg
import Derived.Shelf.SlicesE.Reverse
import Derived.Shelf.SlicesE.Delete
import Derived.Shelf.SlicesE.Clone
import Derived.Test.YtmhkomoiamljeaaGreatDoorProg
import Derived.KernelRfl
import Derived.Lib.LastIndexByte
import Derived.Lib.ItoaNum
import Derived.Lib.SmallJoins
import Derived.Lib.AppendIntMem
import Derived.RangeFuncRecord
import Derived.Lib.Builder
import Derived.Laws.Pointers
import Derived.Test.YtmhkomoiamljeaaGreatDoorTie
import Derived.Test.YtmhkomoiamljeaaGreatDoorCards
import Derived.SevenTiedAt
import Derived.LaidMore
import Derived.Lay
import Derived.Stop.Joined
import Derived.Test.YtmhkomoiamljeaaGreatDoorP1
set_option linter.unusedSimpArgs false
set_option maxHeartbeats 1000000
set_option linter.unusedVariables false
set_option linter.unusedSectionVars false
set_option linter.unnecessarySimpa false
namespace Gx
namespace Ev
open Go Go.RowKit
structure Rho where
 f:Nat->Option (Nat×Nat)
 ex:List HA
instance:CoeFun Rho (λ_=>Nat->Option (Nat×Nat)):=⟨Rho.f⟩
def Rho.le(ρ ρ':Rho):Prop:=(∀n x,ρ n=some x->ρ' n=some x)/\ρ'.ex=ρ.ex
theorem Rho.le_refl(ρ:Rho):ρ.le ρ:=⟨λ_ _ h=>h,rfl⟩
theorem Rho.le_trans{a b c:Rho}(h1:a.le b)(h2:b.le c):a.le c:=⟨λn x h=>h2.1 n x (h1.1 n x h),h2.2.trans h1.2⟩
def XV(ρ:Rho):Value->Option Value
 | .pointer (some ⟨n,i,none⟩)=>match ρ n with
  | some x=>some (.pointer (some ⟨x.1,i,none⟩))
  | none=>none
 | .pointer (some ⟨n,i,some q⟩)=>match ρ n with
  | some x=>some (.slice (some ⟨x.1,if x.2=0 then i else i+q,none⟩) 0 x.2)
  | none=>none
 | .pointer none=>some (.pointer none)
 | .slice (some ⟨n,i,none⟩) l c=>match ρ n with
  | some x=>some (.slice (some ⟨x.1,i,none⟩) l (c+x.2))
  | none=>none
 | .slice (some ⟨n,i,some _⟩) l c=>match ρ n with
  | some x=>some (.slice (some ⟨x.1,i,none⟩) l c)
  | none=>none
 | .slice none l c=>some (.slice none l c)
 | .map (some r)=>match ρ r with
  | some x=>some (.map (some x.1))
  | none=>none
 | .map none=>some (.map none)
 | .int k n=>some (.int k n)
 | .bool b=>some (.bool b)
 | .string s=>some (.string s)
 | .nilFunc=>some .nilFunc
 | _=>none
def Qx{α β:Type}(f:α->Option β):List α->Option (List β)
 | []=>some []
 | a::l=>match f a,Qx f l with
  | some b,some m=>some (b::m)
  | _,_=>none
def Qc9(ρ:Rho):Fn->Option Fn
 | .func f=>some (.func f)
 | .yield n=>match ρ n with
  | some x=>some (.yield x.1)
  | none=>none
 | _=>none
def QU(ρ:Rho):Value->Option Value
 | .func f a b=>match Qc9 ρ f,Qx (XV ρ) a.toList,Qx (XV ρ) b.toList with
  | some f',some a',some b'=>some (.func f' a'.toArray b'.toArray)
  | _,_,_=>none
 | v=>XV ρ v
def Xp(ρ:Rho):Value->Option Value
 | .agg cs=>match Qx (QU ρ) cs.toList with
  | some l=>some (.agg l.toArray)
  | none=>none
 | v=>QU ρ v
def den(ρ:Rho):Value->Option Value
 | .tuple vs=>match Qx (Xp ρ) vs.toList with
  | some l=>some (.tuple l.toArray)
  | none=>none
 | v=>Xp ρ v
section
variable{α β:Type}
theorem Xv{f g:α->Option β}(h:∀a b,f a=some b->g a=some b):∀{l:List α}{m:List β},Qx f l=some m->Qx g l=some m
 | [],m,e=>e
 | a::l,m,e=>by
  simp only[Qx]at e ⊢;split at e
  ·rename_i b m' h1 h2;rw[h a b h1,Xv h h2];exact e
  ·cases e
theorem Q5{f:α->Option β}:∀{l:List α}{m:List β},Qx f l=some m->m.length=l.length
 | [],m,e=>by cases e;rfl
 | a::l,m,e=>by
  simp only[Qx]at e;split at e
  ·rename_i b m' h1 h2;injection e with e
   subst e;simp[Q5 h2]
  ·cases e
theorem QaQ{f:α->Option β}:∀{l:List α}{m:List β}{i:Nat}{a:α},Qx f l=some m->l[i]?=some a->∃b,m[i]?=some b/\f a=some b
 | [],m,i,a,e,h=>by simp at h
 | x::l,m,i,a,e,h=>by
  simp only[Qx]at e;split at e
  ·rename_i b m' h1 h2;injection e with e
   subst e;cases i with
   | zero=>simp at h;subst h;exact⟨b,rfl,h1⟩
   | succ i=>simpa using QaQ h2 (by simpa using h)
  ·cases e
theorem Y4{f:α->Option β}:∀{l l2:List α}{m m2:List β},Qx f l=some m->Qx f l2=some m2->Qx f (l++l2)=some (m++m2)
 | [],l2,m,m2,e,e2=>by cases e;exact e2
 | a::l,l2,m,m2,e,e2=>by
  simp only[Qx]at e;split at e
  ·rename_i b m' h1 h2;injection e with e
   subst e
   simp_all[Qx,Y4]
  ·cases e
theorem XK{f:α->Option β}:∀{l:List α}{m:List β}(k:Nat),Qx f l=some m->Qx f (l.take k)=some (m.take k)
 | [],m,k,e=>by cases e;simp[Qx]
 | a::l,m,0,e=>by simp[Qx]
 | a::l,m,k+1,e=>by
  simp only[Qx]at e;split at e
  ·rename_i b m' h1 h2;injection e with e
   subst e
   simp_all[Qx,XK]
  ·cases e
theorem YG{f:α->Option β}:∀{l:List α}{m:List β}(k:Nat),Qx f l=some m->Qx f (l.drop k)=some (m.drop k)
 | [],m,k,e=>by cases e;simp[Qx]
 | a::l,m,0,e=>by simpa using e
 | a::l,m,k+1,e=>by
  simp only[Qx]at e;split at e
  ·rename_i b m' h1 h2;injection e with e
   subst e
   simpa using YG k h2
  ·cases e
theorem QjO{f:α->Option β}:∀{l:List α}{m:List β}(i:Nat){a:α}{b:β},Qx f l=some m->f a=some b->Qx f (l.set i a)=some (m.set i b)
 | [],m,i,a,b,e,h=>by cases e;simp[Qx]
 | x::l,m,i,a,b,e,h=>by
  simp only[Qx]at e;split at e
  ·rename_i y m' h1 h2;injection e with e
   subst e;cases i with
   | zero=>simp only[List.set_cons_zero,Qx,h,h2]
   | succ i=>simp only[List.set_cons_succ,Qx,h1,QjO i h2 h]
  ·cases e
theorem QiU{f:α->Option β}:∀{l:List α}{m:List β}{b:β},Qx f l=some m->b∈m->∃a∈l,f a=some b
 | [],m,b,e,h=>by cases e;cases h
 | x::l,m,b,e,h=>by
  simp only[Qx]at e;split at e
  ·rename_i y m' h1 h2;injection e with e
   subst e;rcases List.mem_cons.1 h with rfl|h
   ·grind
   ·obtain⟨a,ha,e⟩:=QiU h2 h
    grind
  ·cases e
end
theorem QnI{ρ ρ':Rho}(h:ρ.le ρ')(v u:Value)(e:XV ρ v=some u):XV ρ' v=some u:=by
  unfold XV at e ⊢
  split at e<;>first
    | exact e
    | (split at e
       · rename_i x hx;rw[h.1 _ _ hx];exact e
       · cases e)
    | cases e
theorem QkQ{ρ ρ':Rho}(h:ρ.le ρ')(f g:Fn)(e:Qc9 ρ f=some g):Qc9 ρ' f=some g:=by
  unfold Qc9 at e ⊢
  split at e<;>first
    | exact e
    | (split at e
       · rename_i x hx;rw[h.1 _ _ hx];exact e
       · cases e)
    | cases e
theorem Qet{ρ ρ':Rho}(h:ρ.le ρ')(v u:Value)(e:QU ρ v=some u):QU ρ' v=some u:=by
 unfold QU at e ⊢
 grind[QkQ,Xv,QnI]
theorem QmM{ρ ρ':Rho}(h:ρ.le ρ')(v u:Value)(e:Xp ρ v=some u):Xp ρ' v=some u:=by
 unfold Xp at e ⊢
 grind[Xv,Qet]
theorem QaZ{ρ ρ':Rho}(h:ρ.le ρ')(v u:Value)(e:den ρ v=some u):den ρ' v=some u:=by
 unfold den at e ⊢
 grind[Xv,QmM]
abbrev Env:=Nat->Option Value
def SR(ρ:Rho)(L:Env)(L':Qc):Prop:=∀t v,L t=some v->∃u,Qc.get L' t=some u/\den ρ v=some u
theorem SR.mono{ρ ρ':Rho}(h:ρ.le ρ'){L:Env}{L':Qc}(e:SR ρ L L'):SR ρ' L L':=λt v hv=>by
 obtain⟨u,h1,h2⟩:=e t v hv
 grind[QaZ]
theorem SR.get{ρ:Rho}{L:Env}{L':Qc}{t:Nat}{v:Value}(e:SR ρ L L')(h:L t=some v):∃u,Qc.get L' t=some u/\den ρ v=some u:=e t v h
theorem SR.put{ρ:Rho}{L L2:Env}{L':Qc}{d:Nat}{v u:Value}(e:SR ρ L L')(hu:den ρ v=some u)(h:∀t x,L2 t=some x->(t=d/\x=v)\/(t≠d/\L t=some x)):SR ρ L2 ((d,u)::L'):=λt x hx=>by
 simp only[Qc.get];rcases h t x hx with⟨rfl,rfl⟩|⟨h1,h2⟩
 ·simp_all
 ·have hb:Nat.beq d t=false:=by cases hb:Nat.beq d t<;>simp_all
  rw[hb];exact e t x h2
def flat:Value->Bool
 | .int _ _| .bool _| .string _| .nilFunc| .pointer none| .slice none _ _| .map none=>true
 | _=>false
theorem Qao{v:Value}(h:flat v=true)(ρ:Rho):den ρ v=some v:=by
 unfold flat at h;split at h<;>first|rfl|cases h
def opd(L:Env):Operand->Option Value
 | .tmp t=>L t
 | .const v=>bif flat v then some v else none
 | .func f=>some (.func (.func f) #[] #[])
 | _=>none
theorem Y3{ρ:Rho}{L:Env}{L':Qc}{x:Operand}{v:Value}(hs:SR ρ L L')(h:opd L x=some v):∃u,ev L' x=some u/\den ρ v=some u:=by
 unfold opd at h;split at h
 ·exact hs.get h
 ·rename_i c;cases hf:flat c with
  | true=>
   rw[hf]at h;injection h with h
   subst h;exact⟨_,rfl,Qao hf ρ⟩
  | false=>rw[hf]at h;cases h
 ·injection h with h
  subst h;exact⟨_,rfl,rfl⟩
 ·cases h
def Qds(L:Env):List Operand->Option (List Value)
 | []=>some []
 | x::l=>match opd L x,Qds L l with
  | some v,some vs=>some (v::vs)
  | _,_=>none
theorem QeJ{ρ:Rho}{L:Env}{L':Qc}(hs:SR ρ L L'):∀{l:List Operand}{vs:List Value},Qds L l=some vs->∃us,evs L' l=some us/\Qx (den ρ) vs=some us
 | [],vs,h=>by cases h;exact⟨[],rfl,rfl⟩
 | x::l,vs,h=>by
  simp only[Qds]at h;split at h
  ·rename_i v vs' h1 h2;injection h with h
   subst h;obtain⟨u,e1,e2⟩:=Y3 hs h1;obtain⟨us,e3,e4⟩:=QeJ hs h2
   grind[evs,Qx]
  ·cases h
section
variable{ρ:Rho}{L:Env}{L':Qc}{x:Operand}
theorem Qj{v:Value}(hs:SR ρ L L')(h:opd L x=some v)(hf:flat v=true):ev L' x=some v:=by grind[Y3,Qao]
theorem Qd5{n i:Nat}(hs:SR ρ L L')(h:opd L x=some (.pointer (some ⟨n,i,none⟩))):∃b d,ρ n=some (b,d)/\ev L' x=some (.pointer (some ⟨b,i,none⟩)):=by grind[Y3,den,Xp,QU,XV]
theorem Yg{n i l c:Nat}(hs:SR ρ L L')(h:opd L x=some (.slice (some ⟨n,i,none⟩) l c)):∃b d,ρ n=some (b,d)/\ev L' x=some (.slice (some ⟨b,i,none⟩) l (c+d)):=by grind[Y3,den,Xp,QU,XV]
theorem Yx{n i l c q:Nat}(hs:SR ρ L L')(h:opd L x=some (.slice (some ⟨n,i,some q⟩) l c)):∃b d,ρ n=some (b,d)/\ev L' x=some (.slice (some ⟨b,i,none⟩) l c):=by grind[Y3,den,Xp,QU,XV]
theorem Qgf{n i q:Nat}(hs:SR ρ L L')(h:opd L x=some (.pointer (some ⟨n,i,some q⟩))):∃b d j,ρ n=some (b,d)/\ev L' x=some (.slice (some ⟨b,j,none⟩) 0 d):=by grind[Y3,den,Xp,QU,XV]
theorem QcD{cs:Array Value}(hs:SR ρ L L')(h:opd L x=some (.agg cs)):∃l,Qx (QU ρ) cs.toList=some l/\ev L' x=some (.agg l.toArray):=by grind[Y3,den,Xp]
theorem Qm5{vs:Array Value}(hs:SR ρ L L')(h:opd L x=some (.tuple vs)):∃l,Qx (Xp ρ) vs.toList=some l/\ev L' x=some (.tuple l.toArray):=by grind[Y3,den]
end
end Ev
end Gx
namespace Gx
open Go Go.RowKit
section
variable{P:Program}{o:Oper}{L:Qc}{w0:World}{M:List Nat}{As As':List HA}
def QnQ(P:Program)(t te:TypeId):Prop:=P.underlying t=some (.pointer te)/\∃j,P.info? te=some j/\j.size≠0
theorem Ql0{t te:TypeId}{n:Nat}{b:Bool}(h:P.underlying t=some (.pointer te))(h2:tsz P te=some (n,b))(hn:n≠0):QnQ P t te:=by
 refine⟨h,?_⟩
 grind[tsz,hi]
theorem ptee{t te:TypeId}(h:P.underlying t=some (.pointer te)):P.underlying t=some (.pointer (P.pointee t)):=by
 rw[h];simp[Program.pointee,h]
theorem Qhc{t t' te:TypeId}{x y:Operand}{p:Option Addr}(ho:o.op=.binOp .eql t x y t')(hx:ev L x=some (.pointer p))(hy:ev L y=some (.pointer none))(ht:QnQ P t te):OpP P o L (.bool p.isNone):=by
 intro ρ w hρ;have hg:(eqGuard .eql t x y (.pointer p) (.pointer none)).run P w=.ok () w:=by unfold eqGuard;simp
 simp only[execOp,ho,hρ _ _ hx,hρ _ _ hy,Sem.run_bind,hg,run_eql_pointer_nil w t p (ptee ht.1),Result.andThen_ok,Sem.run_pure]
theorem Qcx{t t' te:TypeId}{x y:Operand}{p:Option Addr}(ho:o.op=.binOp .neq t x y t')(hx:ev L x=some (.pointer p))(hy:ev L y=some (.pointer none))(ht:QnQ P t te):OpP P o L (.bool p.isSome):=by
 intro ρ w hρ;have hg:(eqGuard .neq t x y (.pointer p) (.pointer none)).run P w=.ok () w:=by unfold eqGuard;simp
 have h:=run_neq_pointer_nil w t p (ptee ht.1);simp only[execOp,ho,hρ _ _ hx,hρ _ _ hy,Sem.run_bind,hg,h,Result.andThen_ok,Sem.run_pure];cases p<;>rfl
end
end Gx
namespace Gx
namespace Ev
open Go Go.RowKit
def vN:Option Value->Option Nat
 | some (.int _ (.ofNat n))=>some n
 | _=>none
theorem Zb{v:Option Value}{n:Nat}(h:vN v=some n):∃k,v=some (.int k (n:Int)):=by
 unfold vN at h;split at h<;>simp_all
def Xc(P:Program)(t:TypeId):Bool:=match P.underlying t with|some .string=>true|_=>false
def QcG(P:Program)(t:TypeId):Bool:=match P.underlying t with|some .bool=>true|_=>false
def Xj(P:Program)(t:TypeId):Bool:=match P.underlying t with|some (.slice _)=>true|_=>false
theorem Ys{P:Program}{t:TypeId}(h:Xc P t=true):P.underlying t=some .string:=by grind[Xc]
theorem QgL{P:Program}{t:TypeId}(h:QcG P t=true):P.underlying t=some .bool:=by grind[QcG]
theorem XX{P:Program}{t:TypeId}(h:Xj P t=true):∃e,P.underlying t=some (.slice e):=by grind[Xj]
def Qc7(P:Program)(t:TypeId):Bool:=match P.underlying t with
 | some (.pointer te)=>(match tsz P te with
  | some (n,_)=>!Nat.beq n 0
  | none=>false)
 | _=>false
theorem Qd9{P:Program}{t:TypeId}(h:Qc7 P t=true):∃te,QnQ P t te:=by
 unfold Qc7 at h;split at h
 ·rename_i te h1;split at h
  ·rename_i n b h2;exact⟨te,Ql0 h1 h2 λe=>by subst e;cases h⟩
  ·cases h
 ·cases h
def Qnj:List Nat->List Nat->Bool
 | [],[]=>true
 | a::l,b::m=>Nat.beq a b&&Qnj l m
 | _,_=>false
theorem Qlw:∀{l m:List Nat},Qnj l m=true->l=m
 | [],[],_=>rfl
 | a::l,b::m,h=>by
  simp only[Qnj,Bool.and_eq_true]at h;rw[Nat.eq_of_beq_eq_true h.1,Qlw h.2]
 | [],_::_,h=>by cases h
 | _::_,[],h=>by cases h
def Qrc(P:Program)(t:TypeId)(xs ys:List Value):Option Bool:=match Qj1 P t with
 | some ks=>bif (Qnj (xs.map X5) ks&&Qnj (ys.map X5) ks)&&(xs.all flat&&ys.all flat)then eqC xs ys else none
 | none=>none
def ZQ(P:Program)(op:BinOp)(t:TypeId)(a b:Value):Option Value:=match Xe op a b with
 | some v=>some v
 | none=>match op,a,b with
  | .eql,.bool x,.bool y=>bif QcG P t then some (.bool (x==y))else none
  | .neq,.bool x,.bool y=>bif QcG P t then some (.bool (!(x==y)))else none
  | .eql,.slice p _ _,.slice none _ _=>bif Xj P t then some (.bool p.isNone)else none
  | .neq,.slice p _ _,.slice none _ _=>bif Xj P t then some (.bool (!p.isNone))else none
  | .eql,.agg ⟨xs⟩,.agg ⟨ys⟩=>(match Qrc P t xs ys with
   | some b=>some (.bool b)
   | none=>none)
  | .neq,.agg ⟨xs⟩,.agg ⟨ys⟩=>(match Qrc P t xs ys with
   | some b=>some (.bool (!b))
   | none=>none)
  | .eql,.pointer none,.pointer none=>bif Qc7 P t then some (.bool true)else none
  | .eql,.pointer (some ⟨_,_,none⟩),.pointer none=>bif Qc7 P t then some (.bool false)else none
  | .neq,.pointer none,.pointer none=>bif Qc7 P t then some (.bool false)else none
  | .neq,.pointer (some ⟨_,_,none⟩),.pointer none=>bif Qc7 P t then some (.bool true)else none
  | .quo,.int k x,.int k' y=>bif kEq k k'&& !decide (y=0)then some (.int k (k.wrap (x.tdiv y)))else none
  | .rem,.int k x,.int k' y=>bif kEq k k'&& !decide (y=0)then some (.int k (x.tmod y))else none
  | .shl,.int k x,.int _ (.ofNat y)=>some (.int k (k.wrap (x*2^(min y k.bits))))
  | .shr,.int k x,.int _ (.ofNat y)=>some (.int k (x/2^(min y k.bits)))
  | .add,.string ⟨⟨x⟩⟩,.string ⟨⟨y⟩⟩=>bif Nat.ble (x.length+y.length) 9223372036854775807 then some (.string (bs (x++y)))else none
  | _,_,_=>none
theorem QhG{P:Program}{t:TypeId}{xs ys:List Value}{b:Bool}(h:Qrc P t xs ys=some b):∃ks,Qj1 P t=some ks/\xs.map X5=ks/\ys.map X5=ks/\xs.all flat=true/\ys.all flat=true/\eqC xs ys=some b:=by grind[Qrc,ks,Qnj,X5,flat,Qlw]
theorem QmK{ρ:Rho}{v:Value}(h:flat v=true):QU ρ v=some v:=by
 unfold flat at h;split at h<;>first|rfl|cases h
theorem QbZ{ρ:Rho}:∀{l:List Value},l.all flat=true->Qx (QU ρ) l=some l
 | [],_=>rfl
 | v::l,h=>by simp_all[Qx,QmK,QbZ]
section
variable{P:Program}{o:Oper}{ρ:Rho}{L:Env}{L':Qc}
theorem QhT{op:BinOp}{a b v:Value}(h:Xe op a b=some v):flat a=true/\flat b=true/\flat v=true:=by
 unfold Xe at h;split at h
 ·rename_i k x k' y;refine⟨rfl,rfl,?_⟩;cases hk:kEq k k' with
  | false=>rw[hk]at h;cases h
  | true=>
   rw[hk]at h;simp only[cond_true]at h;cases op<;>simp only[XY,Option.some.injEq,reduceCtorEq]at h<;>first|(subst h;rfl)|cases h
 ·refine⟨rfl,rfl,?_⟩;cases op<;>simp only[QdU,Option.some.injEq,reduceCtorEq]at h<;>first|(subst h;rfl)|cases h
 ·cases h
theorem Qvu{op:BinOp}{t t':TypeId}{x y:Operand}{a b v:Value}(ho:o.op=.binOp op t x y t')(hs:SR ρ L L')(hx:opd L x=some a)(hy:opd L y=some b)(h:ZQ P op t a b=some v):∃u,OpP P o L' u/\den ρ v=some u:=by
 unfold ZQ at h;split at h
 ·grind[QhT,Qaa,QbM,Qj,Qao]
 ·split at h
  ·rename_i x' y' _;cases ht:QcG P t with
   | false=>rw[ht]at h;cases h
   | true=>
    rw[ht]at h;injection h with h
    subst h;exact⟨_,QdA ho (Qj hs hx rfl) (Qj hs hy rfl) (QgL ht),rfl⟩
  ·rename_i x' y' _;cases ht:QcG P t with
   | false=>rw[ht]at h;cases h
   | true=>
    rw[ht]at h;injection h with h
    subst h;exact⟨_,Qgp ho (Qj hs hx rfl) (Qj hs hy rfl) (QgL ht),rfl⟩
  ·rename_i p l1 c1 l2 c2 _;cases ht:Xj P t with
   | false=>rw[ht]at h;cases h
   | true=>
    rw[ht]at h;injection h with h
    subst h;obtain⟨e,he⟩:=XX ht;have hy':=Qj hs hy rfl;rcases p with _|⟨n,i,_|q⟩
    ·exact⟨_,XB ho (Qj hs hx rfl) hy' he,rfl⟩
    ·obtain⟨b9,d9,_,hx'⟩:=Yg hs hx;exact⟨_,XB ho hx' hy' he,rfl⟩
    ·obtain⟨b9,d9,_,hx'⟩:=Yx hs hx;exact⟨_,XB ho hx' hy' he,rfl⟩
  ·rename_i p l1 c1 l2 c2 _;cases ht:Xj P t with
   | false=>rw[ht]at h;cases h
   | true=>
    rw[ht]at h;injection h with h
    subst h;obtain⟨e,he⟩:=XX ht;have hy':=Qj hs hy rfl;rcases p with _|⟨n,i,_|q⟩
    ·exact⟨_,ZM ho (Qj hs hx rfl) hy' he,rfl⟩
    ·obtain⟨b9,d9,_,hx'⟩:=Yg hs hx;exact⟨_,ZM ho hx' hy' he,rfl⟩
    ·obtain⟨b9,d9,_,hx'⟩:=Yx hs hx;exact⟨_,ZM ho hx' hy' he,rfl⟩
  ·rename_i xs ys _;split at h
   ·rename_i b hb;injection h with h
    subst h;obtain⟨ks,k1,k2,k3,k4,k5,k6⟩:=QhG hb;obtain⟨l1,m1,n1⟩:=QcD hs hx;obtain⟨l2,m2,n2⟩:=QcD hs hy;rw[QbZ k4]at m1;rw[QbZ k5]at m2;injection m1 with m1
    injection m2 with m2
    subst m1 m2;exact⟨_,Xn ho n1 n2 k1 k2 k3 k6,rfl⟩
   ·cases h
  ·rename_i xs ys _;split at h
   ·rename_i b hb;injection h with h
    subst h;obtain⟨ks,k1,k2,k3,k4,k5,k6⟩:=QhG hb;obtain⟨l1,m1,n1⟩:=QcD hs hx;obtain⟨l2,m2,n2⟩:=QcD hs hy;rw[QbZ k4]at m1;rw[QbZ k5]at m2;injection m1 with m1
    injection m2 with m2
    subst m1 m2;exact⟨_,QmZ ho n1 n2 k1 k2 k3 k6,rfl⟩
   ·cases h
  ·cases hk:Qc7 P t with
   | false=>rw[hk]at h;cases h
   | true=>
    rw[hk]at h;injection h with h
    subst h;obtain⟨te,ht⟩:=Qd9 hk;exact⟨_,Qhc ho (Qj hs hx rfl) (Qj hs hy rfl) ht,rfl⟩
  ·cases hk:Qc7 P t with
   | false=>rw[hk]at h;cases h
   | true=>
    rw[hk]at h;injection h with h
    subst h;obtain⟨te,ht⟩:=Qd9 hk;obtain⟨b9,d9,_,hx'⟩:=Qd5 hs hx;exact⟨_,Qhc ho hx' (Qj hs hy rfl) ht,rfl⟩
  ·cases hk:Qc7 P t with
   | false=>rw[hk]at h;cases h
   | true=>
    rw[hk]at h;injection h with h
    subst h;obtain⟨te,ht⟩:=Qd9 hk;exact⟨_,Qcx ho (Qj hs hx rfl) (Qj hs hy rfl) ht,rfl⟩
  ·cases hk:Qc7 P t with
   | false=>rw[hk]at h;cases h
   | true=>
    rw[hk]at h;injection h with h
    subst h;obtain⟨te,ht⟩:=Qd9 hk;obtain⟨b9,d9,_,hx'⟩:=Qd5 hs hx;exact⟨_,Qcx ho hx' (Qj hs hy rfl) ht,rfl⟩
  ·rename_i k x' k' y' _;cases hk:kEq k k'&& !decide (y'=0)with
   | false=>rw[hk]at h;cases h
   | true=>
    rw[hk]at h;injection h with h
    subst h;simp only[Bool.and_eq_true,Bool.not_eq_true',decide_eq_false_iff_not]at hk;obtain rfl:=Qcg hk.1;exact⟨_,Qs2 ho (Qj hs hx rfl) (Qj hs hy rfl) hk.2,rfl⟩
  ·rename_i k x' k' y' _;cases hk:kEq k k'&& !decide (y'=0)with
   | false=>rw[hk]at h;cases h
   | true=>
    rw[hk]at h;injection h with h
    subst h;simp only[Bool.and_eq_true,Bool.not_eq_true',decide_eq_false_iff_not]at hk;obtain rfl:=Qcg hk.1;exact⟨_,QvF ho (Qj hs hx rfl) (Qj hs hy rfl) hk.2,rfl⟩
  ·injection h with h
   subst h;exact⟨_,Qme ho (Qj hs hx rfl) (Qj hs hy rfl) (Int.natCast_nonneg _) _ rfl,rfl⟩
  ·injection h with h
   subst h;exact⟨_,Qta ho (Qj hs hx rfl) (Qj hs hy rfl) (Int.natCast_nonneg _) _ rfl,rfl⟩
  ·rename_i x' y' _;cases hk:Nat.ble (x'.length+y'.length) 9223372036854775807 with
   | false=>rw[hk]at h;cases h
   | true=>
    rw[hk]at h;injection h with h
    subst h;exact⟨_,XJ ho (Qj hs hx rfl) (Qj hs hy rfl) (Nat.le_of_ble_eq_true hk),rfl⟩
  ·cases h
end
end Ev
namespace Ev
open Go Go.RowKit
section
variable{ρ:Rho}
theorem QqS{v u:Value}(h:XV ρ v=some u):QU ρ v=some u:=by
 cases v<;>first|exact h|(simp[XV]at h)
theorem Qdp{v u:Value}(h:QU ρ v=some u):Xp ρ v=some u:=by
 cases v<;>first|exact h|(simp[QU,XV]at h)
theorem Qe2{v u:Value}(h:Xp ρ v=some u):den ρ v=some u:=by
 cases v<;>first|exact h|(simp[Xp,QU,XV]at h)
def Qkt:Value->Bool
 | .agg _| .tuple _| .func _ _ _=>false
 | _=>true
theorem Qor{v u:Value}(h:Qkt v=true)(e:den ρ v=some u):XV ρ v=some u:=by
 cases v<;>first|exact e|(simp[Qkt]at h)
def lone:Value->Bool
 | .agg _| .tuple _=>false
 | _=>true
theorem Qpj{v u:Value}(h:lone v=true)(e:den ρ v=some u):QU ρ v=some u:=by
 cases v<;>first|exact e|(simp[lone]at h)
theorem QgA:∀{vs us:List Value},vs.all Qkt=true->Qx (den ρ) vs=some us->Qx (XV ρ) vs=some us
 | [],us,_,e=>by cases e;rfl
 | v::vs,us,h,e=>by
  simp only[List.all_cons,Bool.and_eq_true]at h;simp only[Qx]at e ⊢;split at e
  ·simp_all[Qor,QgA]
  ·cases e
def ZW:Value->Bool
 | .tuple _=>false
 | _=>true
theorem Qh9{v u:Value}(h:ZW v=true)(e:den ρ v=some u):Qx (QU ρ) v.cells.toList=some u.cells.toList:=by
 have one:∀{v u:Value},v.cells= #[v]->QU ρ v=some u->u.cells= #[u]->Qx (QU ρ) v.cells.toList=some u.cells.toList:=λh1 h2 h3=>by
  rw[h1,h3];simp[Qx,h2]
 cases v with
 | tuple vs=>simp[ZW]at h
 | agg cs=>
  simp only[den,Xp]at e;split at e
  ·rename_i l hl;injection e with e
   subst e
   simpa[Value.cells]using hl
  ·cases e
 | _=>
  refine one rfl e ?_;simp only[den,Xp,QU,XV]at e
  first
   | (injection e with e;subst e;rfl)
   | (repeat' split at e)<;>first|(injection e with e;subst e;rfl)|cases e
end
section
variable{P:Program}{o:Oper}{ρ:Rho}{L:Env}{L':Qc}
def QbU(P:Program)(src dst:TypeId):Value->Option Value
 | .int k0 n=>match tki P src,tki P dst with
  | some k1,some k=>bif kEq k0 k1 then some (.int k (k.wrap n))else none
  | _,_=>none
 | .string s=>bif Xc P src&&Xc P dst then some (.string s)else none
 | _=>none
theorem QuE{src dst:TypeId}{x:Operand}{a v:Value}(ho:o.op=.convert src dst x)(hs:SR ρ L L')(hx:opd L x=some a)(h:QbU P src dst a=some v):∃u,OpP P o L' u/\den ρ v=some u:=by
 unfold QbU at h;split at h
 ·rename_i k0 n;split at h
  ·rename_i k1 k h1 h2;cases hk:kEq k0 k1 with
   | false=>rw[hk]at h;cases h
   | true=>
    rw[hk]at h;injection h with h
    subst h;obtain rfl:=Qcg hk;exact⟨_,Q6 ho (Qj hs hx rfl) h1 h2,rfl⟩
  ·cases h
 ·cases hk:Xc P src&&Xc P dst with
  | false=>rw[hk]at h;cases h
  | true=>
   rw[hk]at h;injection h with h
   subst h;simp only[Bool.and_eq_true]at hk;exact⟨_,Qlf ho (Qj hs hx rfl) (Ys hk.1) (Ys hk.2),rfl⟩
 ·cases h
theorem QmT{x:Operand}{i:Nat}{vs:Array Value}{v:Value}(ho:o.op=.extract x i)(hs:SR ρ L L')(hx:opd L x=some (.tuple vs))(h:vs.toList[i]?=some v):∃u,OpP P o L' u/\den ρ v=some u:=by
 obtain⟨l,h1,h2⟩:=Qm5 hs hx;obtain⟨u,h3,h4⟩:=QaQ h1 h
 grind[Qaa,QbM,Qe2]
theorem Qkx{f:FuncId}{first cap:Array Operand}{a b:List Value}(ho:o.op=.makeFunc (.func f) first cap)(hs:SR ρ L L')(h1:Qds L first.toList=some a)(h2:Qds L cap.toList=some b)(ha:a.all Qkt=true)(hb:b.all Qkt=true) :
  ∃u,OpP P o L' u/\den ρ (.func (.func f) a.toArray b.toArray)=some u:=by
 obtain⟨a',e1,e2⟩:=QeJ hs h1;obtain⟨b',e3,e4⟩:=QeJ hs h2;refine⟨.func (.func f) a'.toArray b'.toArray,Qaa (by rw[ho];simp only[QbM,e1,e3]),?_⟩
 simp_all[den,Xp,QU,Qc9,QgA,ha]
theorem Qub{c a b:Operand}{t:Bool}{x y:Value}(ho:o.op=.pick c a b)(hs:SR ρ L L')(hc:opd L c=some (.bool t))(ha:opd L a=some x)(hb:opd L b=some y):∃u,OpP P o L' u/\den ρ (if t then x else y)=some u:=by
 obtain⟨x',e1,e2⟩:=Y3 hs ha;obtain⟨y',e3,e4⟩:=Y3 hs hb;refine⟨if t then x' else y',Qaa (by rw[ho];simp only[QbM,Qj hs hc rfl,e1,e3,Qi4]),?_⟩
 grind
theorem Qqd{x:Operand}{v:Value}(ho:o.op=.move x\/o.op=.assign x)(hs:SR ρ L L')(hx:opd L x=some v):∃u,OpP P o L' u/\den ρ v=some u:=by
 obtain⟨u,h1,h2⟩:=Y3 hs hx;refine⟨u,Qaa ?_,h2⟩;rcases ho with ho|ho<;>rw[ho]<;>exact h1
theorem un_R{op:UnOp}{t:TypeId}{x:Operand}{a v:Value}(ho:o.op=.unOp op t x)(hs:SR ρ L L')(hx:opd L x=some a)(h:QeO op a=some v):∃u,OpP P o L' u/\den ρ v=some u:=by
 have hf:flat a=true/\flat v=true:=by
  unfold QeO at h;split at h<;>first|(injection h with h;subst h;exact⟨rfl,rfl⟩)|cases h
 grind[Qaa,QbM,Qj,Qao]
theorem QkL{x:Operand}{n i:Nat}(ho:o.op=.nilCheck x)(hs:SR ρ L L')(hx:opd L x=some (.pointer (some ⟨n,i,none⟩))):∃u,OpP P o L' u/\den ρ (.pointer (some ⟨n,i,none⟩))=some u:=by
 obtain⟨b,d,h1,h2⟩:=Qd5 hs hx
 grind[Qaa,QbM,den,Xp,QU,XV]
theorem Qjl{x:Operand}{f:FuncId}{a b:Array Value}(ho:o.op=.nilCheck x)(hs:SR ρ L L')(hx:opd L x=some (.func (.func f) a b)):∃u,OpP P o L' u/\den ρ (.func (.func f) a b)=some u:=by
 obtain⟨u,h1,h2⟩:=Y3 hs hx
 grind[den,Xp,QU,Qc9,Qaa,QbM]
theorem Qr8{st f off ft n:Nat}{x:Operand}{cs:Array Value}{v:Value}{ag:Bool}(ho:o.op=.field st x f)(hs:SR ρ L L')(hx:opd L x=some (.agg cs))(hf:tfd P st f=some (off,ft))(hz:tsz P ft=some (n,ag))
  (h:(if ag then some (.agg (cut cs.toList off n).toArray)else cs.toList[off]?)=some v):∃u,OpP P o L' u/\den ρ v=some u:=by
 obtain⟨l,h1,h2⟩:=QcD hs hx;cases ag with
 | true=>
  simp only[if_true,Option.some.injEq]at h;subst h;refine⟨_,Qph ho h2 hf hz,?_⟩
  grind[den,Xp,cut,XK,YG]
 | false=>
  have h':cs.toList[off]?=some v:=by simpa using h
  obtain⟨u,e1,e2⟩:=QaQ h1 h'
  grind[Qgq,Qe2,Qdp]
theorem Qr0{t e sz len n:Nat}{x y:Operand}{cs:Array Value}{j:Nat}{v:Value}{ag:Bool}(ho:o.op=.index t x y)(hs:SR ρ L L')(hx:opd L x=some (.agg cs))(hy:vN (opd L y)=some j)(ht:tar P t=some (len,e,sz))(hz:tsz P e=some (n,ag))(hlt:j<len)
  (h:(if ag then some (.agg (cut cs.toList (j*sz) n).toArray)else cs.toList[j*sz]?)=some v):∃u,OpP P o L' u/\den ρ v=some u:=by
 obtain⟨l,h1,h2⟩:=QcD hs hx;obtain⟨k,hk⟩:=Zb hy;have hy':=Qj hs hk rfl;cases ag with
 | true=>
  simp only[if_true,Option.some.injEq]at h;subst h;refine⟨_,QbY ho h2 hy' ht hz j rfl hlt,?_⟩
  grind[den,Xp,cut,XK,YG]
 | false=>
  have h':cs.toList[j*sz]?=some v:=by simpa using h
  obtain⟨u,e1,e2⟩:=QaQ h1 h'
  grind[Qqx,Qe2,Qdp]
theorem QoX{t:TypeId}{x y:Operand}{l:List UInt8}{j:Nat}(ho:o.op=.index t x y)(hs:SR ρ L L')(hx:opd L x=some (.string ⟨⟨l⟩⟩))(hy:vN (opd L y)=some j)(h:Xc P t=true)(hlt:j<l.length):∃u,OpP P o L' u/\den ρ (.int .u8 ((l.getD j 0).toNat:Int))=some u:=by
 obtain⟨k,hk⟩:=Zb hy;exact⟨_,Qr ho (Qj hs hx rfl) (Qj hs hk rfl) (Ys h) j rfl hlt,rfl⟩
def loN(L:Env):Option Operand->Option Nat
 | none=>some 0
 | some y=>vN (opd L y)
def hiN(L:Env)(n:Nat):Option Operand->Option Nat
 | none=>some n
 | some y=>vN (opd L y)
theorem QeP{lo:Option Operand}{a:Nat}(hs:SR ρ L L')(h:loN L lo=some a):Qpp L' lo a:=by
 cases lo with
 | none=>injection h with h;exact h.symm
 | some y=>
  obtain⟨k,hk⟩:=Zb h;exact⟨k,_,Qj hs hk rfl,rfl⟩
theorem Qkm{hi:Option Operand}{n b:Nat}(hs:SR ρ L L')(h:hiN L n hi=some b):Qrp L' hi n b:=by
 cases hi with
 | none=>injection h with h;exact h.symm
 | some y=>
  obtain⟨k,hk⟩:=Zb h;exact⟨k,_,Qj hs hk rfl,rfl⟩
theorem Qpd{t:TypeId}{x:Operand}{l:List UInt8}{lo hi:Option Operand}{a b:Nat}(ho:o.op=.slice t x lo hi none)(hs:SR ρ L L')(hx:opd L x=some (.string ⟨⟨l⟩⟩))(h:Xc P t=true)(hlo:loN L lo=some a)(hhi:hiN L l.length hi=some b)(hab:a<=b)(hbl:b<=l.length) :
  ∃u,OpP P o L' u/\den ρ (.string (bs ((l.take b).drop a)))=some u:=
 ⟨_,QaA lo hi a b ho (Qj hs hx rfl) (Ys h) (QeP hs hlo) (Qkm hs hhi) hab hbl,rfl⟩
theorem Qh1{b o cap i sz:Nat}(h:i<cap):Zg (some ⟨b,o,none⟩) cap i sz=some ⟨b,o+i*sz,none⟩:=by
 unfold Zg;rw[if_neg om];simp only[Option.map_some,Addr.add]
 grind
theorem Qt0{b o cap sz:Nat}:Zg (some ⟨b,o,none⟩) cap 0 sz=some ⟨b,o,none⟩:=by
 unfold Zg;split
 ·rfl
 ·simp[Addr.add]
theorem QrA{t e sz by' n of l c:Nat}{x:Operand}{lo hi:Option Operand}{i j:Nat}(ho:o.op=.slice t x lo hi none)(hs:SR ρ L L')(hx:opd L x=some (.slice (some ⟨n,of,none⟩) l c))(ht:tsl P t=some (e,sz,by'))(hlo:loN L lo=some i)(hhi:hiN L l hi=some j)(hij:i<=j)(hj:j<=c)(h:i=0\/i<c) :
  ∃u,OpP P o L' u/\den ρ (.slice (some ⟨n,of+i*sz,none⟩) (j-i) (c-i))=some u:=by
 obtain⟨b,d,h1,h2⟩:=Yg hs hx;have hp:=QV lo hi i j ho h2 ht (QeP hs hlo) (Qkm hs hhi) hij om;have e:Zg (some ⟨b,of,none⟩) (c+d) i sz=some ⟨b,of+i*sz,none⟩:=by grind[Qt0,Qh1]
 grind[den,Xp,QU,XV]
theorem Qn3{t e sz by' n of l c:Nat}{x:Operand}{lo hi:Option Operand}(ho:o.op=.slice t x lo hi none)(hs:SR ρ L L')(hx:opd L x=some (.slice (some ⟨n,of,none⟩) l c))(ht:tsl P t=some (e,sz,by'))(hlo:loN L lo=some c)(hhi:hiN L l hi=some c) :
  ∃u,OpP P o L' u/\den ρ (.pointer (some ⟨n,of,some (c*sz)⟩))=some u:=by
 obtain⟨b,d,h1,h2⟩:=Yg hs hx;have hp:=QV lo hi c c ho h2 ht (QeP hs hlo) (Qkm hs hhi) (Nat.le_refl _) om
 grind[Zg,Qh1,den,Xp,QU,XV]
theorem QpP{t e sz by' n of l c q:Nat}{x:Operand}{lo hi:Option Operand}{i j:Nat}(ho:o.op=.slice t x lo hi none)(hs:SR ρ L L')(hx:opd L x=some (.slice (some ⟨n,of,some q⟩) l c))(ht:tsl P t=some (e,sz,by'))(hlo:loN L lo=some i)(hhi:hiN L l hi=some j)(hij:i<=j)(hj:j<=c) :
  ∃u,OpP P o L' u/\den ρ (.slice (some ⟨n,(if c=i then of else of+i*sz),some q⟩) (j-i) (c-i))=some u:=by
 obtain⟨b,d,h1,h2⟩:=Yx hs hx;have hp:=QV lo hi i j ho h2 ht (QeP hs hlo) (Qkm hs hhi) hij hj
 grind[Zg,Qh1,den,Xp,QU,XV]
theorem QqB{t e sz by' l c:Nat}{x:Operand}{lo hi:Option Operand}{i j:Nat}(ho:o.op=.slice t x lo hi none)(hs:SR ρ L L')(hx:opd L x=some (.slice none l c))(ht:tsl P t=some (e,sz,by'))(hlo:loN L lo=some i)(hhi:hiN L l hi=some j)(hij:i<=j)(hj:j<=c) :
  ∃u,OpP P o L' u/\den ρ (.slice none (j-i) (c-i))=some u:=by
 have hp:=QV lo hi i j ho (Qj hs hx rfl) ht (QeP hs hlo) (Qkm hs hhi) hij hj;have e:Zg none c i sz=none:=by unfold Zg;split<;>rfl
 rw[e]at hp;exact⟨_,hp,rfl⟩
theorem Qf5{t e sz by':Nat}{x hi mx:Operand}{a:Option Addr}{n cap:Nat}(lo:Option Operand){L:Qc}{k2 k3:IntKind}(i j m:Nat)(ho:o.op=.slice t x lo (some hi) (some mx))(hx:ev L x=some (.slice a n cap))(hl:Qpp L lo i)(hh:ev L hi=some (.int k2 (j:Int)))(hm:ev L mx=some (.int k3 (m:Int)))(ht:tsl P t=some (e,sz,by'))(hij:i<=j)(hjm:j<=m)(hmc:m<=cap) :
  OpP P o L (.slice (Zg a m i sz) (j-i) (m-i)):=by
 cases lo with
 | some lo=>
  obtain⟨k1,i1,h1,h2⟩:=hl
  grind[QpD]
 | none=>
  have hi0:i=0:=hl;subst hi0;intro ρ w hρ;obtain⟨hu,inf,h1,h2,_⟩:=Xd ht;simp[execOp,ho,hρ _ _ hx,hρ _ _ hh,hρ _ _ hm,Instr.sliceAt,Instr.slice,Instr.sliceBounds,Instr.sliceBound,asIntOf,run_underlying hu,hjm,hmc,Go.sizeOf,typeInfo,h1,h2,Zg]
theorem Qqm{b of m i sz:Nat}:Zg (some ⟨b,of,none⟩) m i sz=some ⟨b,(if m=i then of else of+i*sz),none⟩:=by
 by_cases h:m=i
 ·grind[Zg]
 ·rw[if_neg h];unfold Zg;rw[if_neg h];simp only[Option.map_some,Addr.add]
  grind
theorem QnV{t e sz by' n of l c:Nat}{q:Option Nat}{x hi mx:Operand}{lo:Option Operand}{i j m:Nat}(ho:o.op=.slice t x lo (some hi) (some mx))(hs:SR ρ L L')(hx:opd L x=some (.slice (some ⟨n,of,q⟩) l c))(ht:tsl P t=some (e,sz,by'))(hlo:loN L lo=some i)(hhi:vN (opd L hi)=some j)(hmx:vN (opd L mx)=some m)(hij:i<=j)(hjm:j<=m)(hmc:m<=c) :
  ∃u,OpP P o L' u/\den ρ (.slice (some ⟨n,(if m=i then of else of+i*sz),some 0⟩) (j-i) (m-i))=some u:=by
 obtain⟨k2,hk2⟩:=Zb hhi;obtain⟨k3,hk3⟩:=Zb hmx;have g2:=Qj hs hk2 rfl;have g3:=Qj hs hk3 rfl;cases q with
 | none=>
  obtain⟨b,d,h1,h2⟩:=Yg hs hx;have hp:=Qf5 lo i j m ho h2 (QeP hs hlo) g2 g3 ht hij hjm om
  grind[Qqm,den,Xp,QU,XV]
 | some q=>
  obtain⟨b,d,h1,h2⟩:=Yx hs hx;have hp:=Qf5 lo i j m ho h2 (QeP hs hlo) g2 g3 ht hij hjm hmc
  grind[Qqm,den,Xp,QU,XV]
theorem Qm8{t e sz by' l c:Nat}{x hi mx:Operand}{lo:Option Operand}{i j m:Nat}(ho:o.op=.slice t x lo (some hi) (some mx))(hs:SR ρ L L')(hx:opd L x=some (.slice none l c))(ht:tsl P t=some (e,sz,by'))(hlo:loN L lo=some i)(hhi:vN (opd L hi)=some j)(hmx:vN (opd L mx)=some m)(hij:i<=j)(hjm:j<=m)(hmc:m<=c) :
  ∃u,OpP P o L' u/\den ρ (.slice none (j-i) (m-i))=some u:=by
 obtain⟨k2,hk2⟩:=Zb hhi;obtain⟨k3,hk3⟩:=Zb hmx;have hp:=Qf5 lo i j m ho (Qj hs hx rfl) (QeP hs hlo) (Qj hs hk2 rfl) (Qj hs hk3 rfl) ht hij hjm hmc;have e:Zg none m i sz=none:=by unfold Zg;split<;>rfl
 rw[e]at hp;exact⟨_,hp,rfl⟩
theorem QjS{st f off ft sz:Nat}{x:Operand}{n i:Nat}{ag:Bool}(ho:o.op=.fieldAddr st x f)(hs:SR ρ L L')(hx:opd L x=some (.pointer (some ⟨n,i,none⟩)))(hf:tfd P st f=some (off,ft))(hz:tsz P ft=some (sz,ag))(h0:Nat.blt 0 sz=true) :
  ∃u,OpP P o L' u/\den ρ (.pointer (some ⟨n,i+off,none⟩))=some u:=by
 obtain⟨b,d,h1,h2⟩:=Qd5 hs hx;exact⟨_,QaH ho h2 hf hz h0,by simp only[den,Xp,QU,XV,h1]⟩
theorem Qjg{t e sz by' n of l c j:Nat}{x y:Operand}(ho:o.op=.indexAddr t x y)(hs:SR ρ L L')(hx:opd L x=some (.slice (some ⟨n,of,none⟩) l c))(hy:vN (opd L y)=some j)(ht:tsl P t=some (e,sz,by'))(hlt:j<l) :
  ∃u,OpP P o L' u/\den ρ (.pointer (some ⟨n,of+j*sz,none⟩))=some u:=by
 obtain⟨b,d,h1,h2⟩:=Yg hs hx;obtain⟨k,hk⟩:=Zb hy;exact⟨_,Qa ho h2 (Qj hs hk rfl) ht j rfl hlt rfl,by simp only[den,Xp,QU,XV,h1]⟩
theorem Qh2{t e sz by' n of l c j q:Nat}{x y:Operand}(ho:o.op=.indexAddr t x y)(hs:SR ρ L L')(hx:opd L x=some (.slice (some ⟨n,of,some q⟩) l c))(hy:vN (opd L y)=some j)(ht:tsl P t=some (e,sz,by'))(hlt:j<l) :
  ∃u,OpP P o L' u/\den ρ (.pointer (some ⟨n,of+j*sz,none⟩))=some u:=by
 obtain⟨b,d,h1,h2⟩:=Yx hs hx;obtain⟨k,hk⟩:=Zb hy;exact⟨_,Qa ho h2 (Qj hs hk rfl) ht j rfl hlt rfl,by simp only[den,Xp,QU,XV,h1]⟩
theorem Qin{t e sz len n i j:Nat}{x y:Operand}(ho:o.op=.indexAddr t x y)(hs:SR ρ L L')(hx:opd L x=some (.pointer (some ⟨n,i,none⟩)))(hy:vN (opd L y)=some j)(ht:tar P t=some (len,e,sz))(hlt:j<len) :
  ∃u,OpP P o L' u/\den ρ (.pointer (some ⟨n,i+j*sz,none⟩))=some u:=by
 obtain⟨b,d,h1,h2⟩:=Qd5 hs hx;obtain⟨k,hk⟩:=Zb hy;exact⟨_,Qe6 ho h2 (Qj hs hk rfl) ht j rfl hlt,by simp only[den,Xp,QU,XV,h1]⟩
def Qd7(L:Env):List (Nat×Operand)->Option (List (Nat×Value))
 | []=>some []
 | (i,x)::r=>match opd L x,Qd7 L r with
  | some v,some vs=>bif ZW v then some ((i,v)::vs)else none
  | _,_=>none
def PR(ρ:Rho):List (Nat×Value)->List (Nat×Value)->Prop
 | [],[]=>True
 | (i,v)::l,(j,u)::m=>i=j/\ZW v=true/\den ρ v=some u/\PR ρ l m
 | _,_=>False
theorem Qfj(hs:SR ρ L L'):∀{l:List (Nat×Operand)}{vs:List (Nat×Value)},Qd7 L l=some vs->∃us,Qax L' l=some us/\PR ρ vs us
 | [],vs,h=>by cases h;exact⟨[],rfl,trivial⟩
 | (i,x)::r,vs,h=>by
  simp only[Qd7]at h;split at h
  ·rename_i v vs' h1 h2;cases hn:ZW v with
   | false=>rw[hn]at h;cases h
   | true=>
    rw[hn]at h;injection h with h
    subst h;obtain⟨u,e1,e2⟩:=Y3 hs h1;obtain⟨us,e3,e4⟩:=Qfj hs h2;exact⟨(i,u)::us,by simp only[Qax,e1,e3],rfl,hn,e2,e4⟩
  ·cases h
theorem Yl:∀{vs us cs ds:List Value}(i:Nat),Qx (QU ρ) cs=some ds->Qx (QU ρ) vs=some us->Qx (QU ρ) (Qf cs i vs)=some (Qf ds i us)
 | [],us,cs,ds,i,h,e=>by cases e;exact h
 | v::vs,us,cs,ds,i,h,e=>by
  simp only[Qx]at e;split at e
  ·rename_i b m h1 h2;injection e with e
   subst e;exact Yl (i+1) (QjO i h h1) h2
  ·cases e
theorem Qfm{pl:Nat->Option (Nat×Nat)}:∀{vs us:List (Nat×Value)}{cs ds rs:List Value},PR ρ vs us->Qx (QU ρ) cs=some ds->ZH pl cs vs=some rs->∃ts,ZH pl ds us=some ts/\Qx (QU ρ) rs=some ts
 | [],[],cs,ds,rs,_,h,e=>by cases e;exact⟨ds,rfl,h⟩
 | (i,v)::vs,(j,u)::us,cs,ds,rs,hp,h,e=>by
  obtain⟨rfl,h1,h2,h3⟩:=hp;have hc:=Qh9 h1 h2;have hl:=Q5 hc;have hl2:=Q5 h;simp only[ZH]at e ⊢;split at e
  ·cases e
  ·rename_i off size hpl;cases hb:Nat.beq v.cells.toList.length size&&Nat.ble (off+v.cells.toList.length) cs.length with
   | false=>rw[hb]at e;cases e
   | true=>
    rw[hb]at e;simp only[hl,hl2,hb];exact Qfm h3 (Yl off h hc) e
 | [],_::_,_,_,_,hp,_,_=>hp.elim
 | _::_,[],_,_,_,hp,_,_=>hp.elim
def Xb(l:List Value):Bool:=l.all flat
theorem X7:∀{l:List Value},Xb l=true->Qx (QU ρ) l=some l
 | [],_=>rfl
 | v::l,h=>by
  simp only[Xb,List.all_cons,Bool.and_eq_true]at h
  have hv:QU ρ v=some v:=by
   have:=Qao h.1 ρ
   have hl:lone v=true:=by
    have h1:=h.1;unfold flat at h1
    grind[lone]
   exact Qpj hl this
  simp only[Qx,hv,X7 (l:=l) h.2]
theorem Qr6{t:TypeId}{parts:Array (Nat×Operand)}{vs:List (Nat×Value)}{pl:List (Nat×Nat)}{z cs:List Value}(ho:o.op=.build t parts)(hs:SR ρ L L')(hp:Qd7 L parts.toList=some vs)(hpl:YH P t=some pl)(hz:QM P t=some z)(hf:Xb z=true)
  (hc:ZH (λi=>pl[i]?) z vs=some cs):∃u,OpP P o L' u/\den ρ (.agg cs.toArray)=some u:=by
 obtain⟨us,e1,e2⟩:=Qfj hs hp;obtain⟨ts,e3,e4⟩:=Qfm e2 (X7 hf) hc;exact⟨_,Xm ho e1 hpl hz e3,by simp only[den,Xp,List.toList_toArray,e4]⟩
theorem QnW{t e sz len:Nat}{parts:Array (Nat×Operand)}{vs:List (Nat×Value)}{z cs:List Value}(ho:o.op=.build t parts)(hs:SR ρ L L')(hp:Qd7 L parts.toList=some vs)(ht:tar P t=some (len,e,sz))(hz:QM P t=some z)(hf:Xb z=true)
  (hc:ZH (λi=>some (i*sz,sz)) z vs=some cs):∃u,OpP P o L' u/\den ρ (.agg cs.toArray)=some u:=by
 obtain⟨us,e1,e2⟩:=Qfj hs hp;obtain⟨ts,e3,e4⟩:=Qfm e2 (X7 hf) hc;exact⟨_,Qe1 ho e1 ht hz e3,by simp only[den,Xp,List.toList_toArray,e4]⟩
end
end Ev
namespace Ev
inductive Tr(α:Type) where
 | lf
 | nd (l r:Tr α)
 | vd (l:Tr α) (k:Nat) (v:α) (r:Tr α)
noncomputable def QpZ(f:Nat):Nat->List Bool:=
 Nat.rec (λ_=>[]) (λ_ ih k=>Bool.rec (Nat.beq (Nat.mod k 2) 0::ih (Nat.div (Nat.sub k 1) 2)) [] (Nat.beq k 0)) f
noncomputable def pth(k:Nat):List Bool:=QpZ k k
def Qus:List Bool->Nat
 | []=>0
 | b::p=>2*Qus p+(if b then 2 else 1)
theorem Qhh:∀(f k:Nat),k<=f->Qus (QpZ f k)=k
 | 0,k,h=>by
  have:k=0:=by omega
  subst this;rfl
 | f+1,k,h=>by
  have hu:QpZ (f+1) k=(Bool.rec (Nat.beq (Nat.mod k 2) 0::QpZ f (Nat.div (Nat.sub k 1) 2)) [] (Nat.beq k 0):List Bool):=rfl;rw[hu];cases hk:Nat.beq k 0 with
  | true=>exact(Nat.eq_of_beq_eq_true hk).symm
  | false=>
   have h0:k≠0:=λe=>by subst e;cases hk
   have ih:=Qhh f ((k-1)/2) om;show 2*Qus (QpZ f ((k-1)/2))+(if Nat.beq (k%2) 0=true then 2 else 1)=k;rw[ih];cases hm:Nat.beq (k%2) 0 with
   | true=>
    have:=Nat.eq_of_beq_eq_true hm;simp;omega
   | false=>
    have:k%2≠0:=λe=>by rw[e]at hm;cases hm
    simp;omega
theorem Qmb{a b:Nat}(h:pth a=pth b):a=b:=by grind[Qhh,pth]
section
variable{α:Type}
noncomputable def YP(p:List Bool):Nat->Tr α->Option α:=
 List.rec (λt T=>Tr.rec none (λ_ _ _ _=>none) (λ_ k v _ _ _=>Bool.rec none (some v) (Nat.beq k t)) T)
  (λb _ ih t T=>Tr.rec none (λl r _ _=>Bool.rec (ih t l) (ih t r) b) (λl _ _ r _ _=>Bool.rec (ih t l) (ih t r) b) T) p
noncomputable def Yr(p:List Bool):Nat->α->Tr α->Tr α:=
 List.rec (λt v T=>Tr.rec (.vd .lf t v .lf) (λl r _ _=>.vd l t v r) (λl _ _ r _ _=>.vd l t v r) T)
  (λb _ ih t v T=>Tr.rec (Bool.rec (.nd (ih t v .lf) .lf) (.nd .lf (ih t v .lf)) b) (λl r _ _=>Bool.rec (.nd (ih t v l) r) (.nd l (ih t v r)) b) (λl k x r _ _=>Bool.rec (.vd (ih t v l) k x r) (.vd l k x (ih t v r)) b) T) p
noncomputable def Qg2(p:List Bool):Tr α->Tr α:=
 List.rec (λT=>Tr.rec .lf (λl r _ _=>.nd l r) (λl _ _ r _ _=>.nd l r) T)
  (λb _ ih T=>Tr.rec .lf (λl r _ _=>Bool.rec (.nd (ih l) r) (.nd l (ih r)) b) (λl k x r _ _=>Bool.rec (.vd (ih l) k x r) (.vd l k x (ih r)) b) T) p
theorem YZ{p:List Bool}{t:Nat}:YP p t (.lf:Tr α)=none:=by cases p<;>rfl
theorem Zt(d:Nat)(v:α):∀(p:List Bool)(T:Tr α),YP p d (Yr p d v T)=some v
 | [],T=>by
  have h:∀l r:Tr α,YP [] d (.vd l d v r)=some v:=λl r=>by
   show(Bool.rec none (some v) (Nat.beq d d):Option α)=some v;rw[Nat.beq_refl]
  cases T<;>exact h _ _
 | b::p,T=>by
  cases T<;>cases b<;>exact Zt d v p _
theorem Zd{t d:Nat}{v x:α}(hne:t≠d):∀(p q:List Bool)(T:Tr α),YP p t (Yr q d v T)=some x->YP p t T=some x
 | [],[],T,h=>by
  have hd:∀l r:Tr α,YP [] t (.vd l d v r)=none:=λl r=>by
   show(Bool.rec none (some v) (Nat.beq d t):Option α)=none;cases hb:Nat.beq d t with
   | true=>exact absurd (Nat.eq_of_beq_eq_true hb).symm hne
   | false=>rfl
  cases T<;>exact absurd ((hd _ _).symm.trans h) (by simp)
 | [],c::q,T,h=>by cases T<;>cases c<;>first|exact h|cases h
 | b::p,[],T,h=>by
  cases T<;>cases b<;>first
   | exact h
   | (have h':YP p t (.lf:Tr α)=some x:=h;rw[YZ]at h';cases h')
 | b::p,c::q,T,h=>by
  cases T<;>cases b<;>cases c<;>first
   | exact h
   | (have h':YP p t (Yr q d v .lf)=some x:=h;have h2:=Zd hne p q .lf h';rw[YZ]at h2;cases h2)
   | exact Zd hne p q _ h
   | (have h':YP p t (.lf:Tr α)=some x:=h;rw[YZ]at h';cases h')
theorem Qdc{t d:Nat}{v:α}(hne:t≠d):∀(p q:List Bool)(T:Tr α),p≠q->YP p t (Yr q d v T)=YP p t T
 | [],[],T,h=>absurd rfl h
 | [],c::q,T,h=>by cases T<;>cases c<;>rfl
 | b::p,[],T,h=>by
  have hl:YP p t (.lf:Tr α)=none:=YZ;cases T<;>cases b<;>first|rfl|exact hl
 | b::p,c::q,T,h=>by
  have hl:YP p t (.lf:Tr α)=none:=YZ;have ih:=λT=>Qdc (v:=v) hne p q T
  cases T<;>cases b<;>cases c<;>first
   | rfl
   | exact hl
   | exact(ih _ λe=>h (by rw[e]))
   | exact((ih .lf λe=>h (by rw[e])).trans hl)
theorem Zv(d:Nat):∀(p:List Bool)(T:Tr α),YP p d (Qg2 p T)=none
 | [],T=>by cases T<;>rfl
 | b::p,T=>by cases T<;>cases b<;>first|rfl|exact Zv d p _
theorem QfH{t:Nat}{x:α}:∀(p q:List Bool)(T:Tr α),YP p t (Qg2 q T)=some x->YP p t T=some x
 | [],[],T,h=>by cases T<;>first|exact h|cases h
 | [],c::q,T,h=>by cases T<;>cases c<;>first|exact h|cases h
 | b::p,[],T,h=>by cases T<;>cases b<;>first|exact h|cases h
 | b::p,c::q,T,h=>by
  cases T<;>cases b<;>cases c<;>first
   | exact h
   | exact QfH p q _ h
   | cases h
theorem Qc2{t:Nat}:∀(p q:List Bool)(T:Tr α),p≠q->YP p t (Qg2 q T)=YP p t T
 | [],[],T,h=>absurd rfl h
 | [],c::q,T,h=>by cases T<;>cases c<;>rfl
 | b::p,[],T,h=>by cases T<;>cases b<;>rfl
 | b::p,c::q,T,h=>by
  have ih:=λT=>Qc2 (t:=t) p q T
  cases T<;>cases b<;>cases c<;>first
   | rfl
   | exact(ih _ λe=>h (by rw[e]))
end
end Ev
namespace Ev
open Go Go.RowKit
structure HB where
 ty:Nat
 sz:Nat
 cs:List Value
inductive HX where
 | row (r:HB)
 | mp (ks:List Int)
abbrev Hp:=Tr HX
noncomputable def Yu(H:Hp)(n:Nat):Option HX:=YP (pth n) n H
noncomputable def YQ(H:Hp)(n:Nat)(y:HX):Hp:=Yr (pth n) n y H
noncomputable def Yc(H:Hp)(n:Nat):Option HB:=match Yu H n with
 | some (.row r)=>some r
 | _=>none
noncomputable def QgQ(H:Hp)(n:Nat):Option (List Int):=match Yu H n with
 | some (.mp r)=>some r
 | _=>none
noncomputable def Yn(H:Hp)(n:Nat)(y:HB):Hp:=YQ H n (.row y)
noncomputable def QfF(H:Hp)(n:Nat):Hp:=Qg2 (pth n) H
theorem Qdx{H:Hp}{n:Nat}{r:HB}(h:Yc H n=some r):Yu H n=some (.row r):=by grind[Yc]
theorem Qqp{H:Hp}{n:Nat}{r:List Int}(h:QgQ H n=some r):Yu H n=some (.mp r):=by grind[QgQ]
theorem Qf2{H:Hp}{n m:Nat}{y r:HX}(h:Yu (YQ H n y) m=some r):(m=n/\r=y)\/(m≠n/\Yu H m=some r):=by grind[Yu,YQ,Zt,Zd]
theorem QeX{H:Hp}{n m:Nat}{y:HX}(hm:m≠n):Yu (YQ H n y) m=Yu H m:=Qdc hm _ _ _ λe=>hm (Qmb e)
theorem Qcp{H:Hp}{n m:Nat}(hm:m≠n):Yu (QfF H n) m=Yu H m:=Qc2 _ _ _ λe=>hm (Qmb e)
theorem Qi6{H:Hp}{n m:Nat}{r:HX}(h:Yu (QfF H n) m=some r):m≠n/\Yu H m=some r:=by grind[QfH,Yu,QfF,Zv]
def QcZ:List (Nat×HX)->Nat->Option HX
 | [],_=>none
 | (k,x)::H,n=>bif Nat.beq k n then some x else QcZ H n
def QiP:List (Nat×HX)->Nat->HX->List (Nat×HX)
 | [],_,_=>[]
 | (k,x)::H,n,y=>bif Nat.beq k n then(k,y)::H else(k,x)::QiP H n y
def Qiq:List (Nat×HX)->Nat->List (Nat×HX)
 | [],_=>[]
 | (k,x)::H,n=>bif Nat.beq k n then H else(k,x)::Qiq H n
def QeL(x:HB)(d:Nat):Prop:=d=0\/x.cs.length+d*x.sz<=maxLen*x.sz
abbrev QjE:Int->Value:=λn=>.int .i64 n
open Classical in
noncomputable def ha(ρ:Rho)(p:Nat×HX):Option HA:=match p.2 with
 | .row x=>match ρ p.1,Qx (QU ρ) x.cs with
  | some (b,d),some us=>if QeL x d then some (.blk b x.ty (us.length+d*x.sz) us)else none
  | _,_=>none
 | .mp ks=>match ρ p.1 with
  | some (b,0)=>some (.mp b QjE ks)
  | _=>none
theorem Qid{ρ:Rho}{n:Nat}{x:HB}{A:HA}(h:ha ρ (n,.row x)=some A):∃b d us,ρ n=some (b,d)/\Qx (QU ρ) x.cs=some us/\QeL x d/\A=.blk b x.ty (us.length+d*x.sz) us:=by grind[ha]
theorem Ql6{ρ:Rho}{n:Nat}{x:HB}{b d:Nat}{us:List Value}(h1:ρ n=some (b,d))(h2:Qx (QU ρ) x.cs=some us)(h3:QeL x d):ha ρ (n,.row x)=some (.blk b x.ty (us.length+d*x.sz) us):=by grind[ha]
theorem Qow{ρ:Rho}{n:Nat}{ks:List Int}{A:HA}(h:ha ρ (n,.mp ks)=some A):∃b,ρ n=some (b,0)/\A=.mp b QjE ks:=by grind[ha]
theorem QoY{ρ:Rho}{p:Nat×HX}{A:HA}(h:ha ρ p=some A):∃x,ρ p.1=some x:=by
 obtain⟨n,x⟩:=p;cases x<;>grind[Qid,ks,Qow]
theorem Qfh{ρ ρ':Rho}(h:ρ.le ρ')(p:Nat×HX)(A:HA)(e:ha ρ p=some A):ha ρ' p=some A:=by
 obtain⟨n,x⟩:=p;cases x with
 | row x=>
  obtain⟨b,d,us,h1,h2,h3,rfl⟩:=Qid e;exact Ql6 (h.1 _ _ h1) (Xv (Qet h) h2) h3
 | mp ks=>
  obtain⟨b,h1,rfl⟩:=Qow e;simp only[ha,h.1 _ _ h1]
theorem QeF{k m:Nat}(h:m≠k):Nat.beq k m=false:=by cases hz:Nat.beq k m<;>simp_all
theorem Qis{ρ:Rho}{n:Nat}{x:HX}:∀{H:List (Nat×HX)}{As:List HA},Qx (ha ρ) H=some As->QcZ H n=some x->∃A Rs,ha ρ (n,x)=some A/\QL As A Rs /\
  (∀(x':HX)(A':HA),ha ρ (n,x')=some A'->∃As2,Qx (ha ρ) (QiP H n x')=some As2/\(A'::Rs).Perm As2/\∀m,QcZ (QiP H n x') m=bif Nat.beq m n then some x' else QcZ H m) /\
  ∃As3,Qx (ha ρ) (Qiq H n)=some As3/\Rs.Perm As3/\∀m,m≠n->QcZ (Qiq H n) m=QcZ H m
 | [],As,_,h=>by cases h
 | (k,y)::H,As,e,h=>by
  simp only[Qx]at e;split at e
  ·rename_i A As' h1 h2;injection e with e
   subst e;simp only[QcZ]at h;cases hb:Nat.beq k n with
   | true=>
    rw[hb]at h;injection h with h
    subst h;have hk:=Nat.eq_of_beq_eq_true hb;subst hk;refine⟨A,As',h1,.here,λx' A' e1=>⟨_,?_,.refl _,λm=>?_⟩,As',?_,.refl _,λm hm=>?_⟩
    ·grind[QiP,Qx]
    ·grind[QiP,QcZ,QeF]
    ·grind[Qiq]
    grind[Qiq,QcZ,QeF]
   | false=>
    rw[hb]at h;obtain⟨A0,Rs,g1,g4,g5,As3,g6,g7,g8⟩:=Qis h2 h;refine⟨A0,A::Rs,g1,g4.there,λx' A' e1=>?_,A::As3,?_,g7.cons _,λm hm=>?_⟩
    ·obtain⟨As2,e3,e4,e5⟩:=g5 x' A' e1;refine⟨A::As2,by simp only[QiP,hb,cond_false,Qx,h1,e3],(List.Perm.swap ..).trans (e4.cons _),λm=>?_⟩;simp only[QiP,hb,cond_false,QcZ,e5];cases hq:Nat.beq k m<;>simp_all
    ·grind[Qiq,Qx]
    grind[Qiq,QcZ]
  ·cases e
def HM(ρ:Rho)(H:Hp)(As:List HA):Prop:=∃(G:List (Nat×HX))(Bs:List HA),(∀m r,Yu H m=some r->QcZ G m=some r)/\Qx (ha ρ) G=some Bs/\As=Bs++ρ.ex
theorem HM.mono{ρ ρ':Rho}(h:ρ.le ρ'){H:Hp}{As:List HA}:HM ρ H As->HM ρ' H As:=λ⟨G,Bs,h1,h2,h3⟩=>⟨G,Bs,h1,Xv (Qfh h) h2,by rw[h.2];exact h3⟩
theorem HM.push{ρ:Rho}{H:Hp}{As:List HA}{n:Nat}{x:HX}{A:HA}(h:HM ρ H As)(hA:ha ρ (n,x)=some A):HM ρ (YQ H n x) (A::As):=by
 obtain⟨G,Bs,h1,h2,h3⟩:=h;refine⟨(n,x)::G,A::Bs,λm r hm=>?_,by simp only[Qx,hA,h2],by rw[h3];rfl⟩;simp only[QcZ];rcases Qf2 hm with⟨rfl,rfl⟩|⟨h3,h4⟩
 ·simp[Nat.beq_refl]
 grind[QeF]
theorem QuJ{ρ:Rho}{n:Nat}{x:HX}{H:Hp}{As:List HA}(hH:HM ρ H As)(h:Yu H n=some x):∃A Rs,ha ρ (n,x)=some A/\QL As A Rs /\
  (∀(x':HX)(A':HA),ha ρ (n,x')=some A'->∃As2,HM ρ (YQ H n x') As2/\(A'::Rs).Perm As2) /\
  ∃As3,HM ρ (QfF H n) As3/\Rs.Perm As3:=by
 obtain⟨G,Bs,h1,h2,rfl⟩:=hH;obtain⟨A,Rs,g1,g4,g5,As3,g6,g7,g8⟩:=Qis h2 (h1 _ _ h);refine⟨A,Rs++ρ.ex,g1,g4.append_right _,λx' A' e1=>?_,As3++ρ.ex,⟨Qiq G n,As3,λm r hm=>?_,g6,rfl⟩,g7.append_right _⟩
 ·obtain⟨As2,e3,e4,e5⟩:=g5 x' A' e1;refine⟨As2++ρ.ex,⟨QiP G n x',As2,λm r hm=>?_,e3,rfl⟩,e4.append_right _⟩;rw[e5];rcases Qf2 hm with⟨rfl,rfl⟩|⟨h3,h4⟩
  ·simp[Nat.beq_refl]
  ·rw[QeF (Ne.symm h3)];exact h1 m r h4
 ·obtain⟨h3,h4⟩:=Qi6 hm;rw[g8 m h3];exact h1 m r h4
theorem X8{ρ:Rho}{n:Nat}{x:HB}{H:Hp}{As:List HA}(hH:HM ρ H As)(h:Yc H n=some x):∃b d us Rs,ρ n=some (b,d)/\Qx (QU ρ) x.cs=some us/\QeL x d/\QL As (.blk b x.ty (us.length+d*x.sz) us) Rs /\
  (∀(x':HB)(us':List Value),Qx (QU ρ) x'.cs=some us'->QeL x' d->∃As2,HM ρ (Yn H n x') As2/\(HA.blk b x'.ty (us'.length+d*x'.sz) us'::Rs).Perm As2) /\
  ∃As3,HM ρ (QfF H n) As3/\Rs.Perm As3:=by
 obtain⟨A,Rs,g1,g4,g5,g6⟩:=QuJ hH (Qdx h);obtain⟨b,d,us,e1,e2,e3,rfl⟩:=Qid g1;exact⟨b,d,us,Rs,e1,e2,e3,g4,λx' us' f1 f2=>g5 (.row x') _ (Ql6 e1 f1 f2),g6⟩
theorem QqO{ρ:Rho}{n:Nat}{ks:List Int}{H:Hp}{As:List HA}(hH:HM ρ H As)(h:QgQ H n=some ks):∃b Rs,ρ n=some (b,0)/\QL As (.mp b QjE ks) Rs /\
  ∀ks',∃As2,HM ρ (YQ H n (.mp ks')) As2/\(HA.mp b QjE ks'::Rs).Perm As2:=by
 obtain⟨A,Rs,g1,g4,g5,g6⟩:=QuJ hH (Qqp h);obtain⟨b,e1,rfl⟩:=Qow g1;exact⟨b,Rs,e1,g4,λks'=>g5 (.mp ks') _ (by simp only[ha,e1])⟩
def QQ(ρ:Rho)(n:Nat):Prop:=∀k,n<=k->ρ k=none
def ext(ρ:Rho)(n:Nat)(x:Nat×Nat):Rho:=⟨λk=>bif Nat.beq k n then some x else ρ k,ρ.ex⟩
theorem Qbz(ρ:Rho)(n:Nat)(x:Nat×Nat):ext ρ n x n=some x:=by simp[ext,Nat.beq_refl]
theorem Qfy{ρ:Rho}{n:Nat}(h:QQ ρ n)(x:Nat×Nat):ρ.le (ext ρ n x):=⟨λk y hk=>by
 unfold ext;simp only[];cases hb:Nat.beq k n with
 | true=>
  have:=Nat.eq_of_beq_eq_true hb;subst this;rw[h k (Nat.le_refl _)]at hk;cases hk
 | false=>exact hk,rfl⟩
theorem Qa6{ρ:Rho}{n:Nat}(h:QQ ρ n)(x:Nat×Nat):QQ (ext ρ n x) (n+1):=λk hk=>by
 show(bif Nat.beq k n then some x else ρ k)=none;cases hb:Nat.beq k n with
 | true=>
  have:=Nat.eq_of_beq_eq_true hb;omega
 | false=>exact h k om
def Out(w0:World)(ρ:Rho)(v:Value)(H':Hp)(n':Nat)(u:Value)(C:World->Prop):Prop:=
 ∃ρ' As',ρ.le ρ'/\QQ ρ' n'/\den ρ' v=some u/\HM ρ' H' As'/\∀w,C w->HS w0 [] As' w
def OpT(P:Program)(o:Oper)(L':Qc)(C:World->Prop)(K:Value->(World->Prop)->Prop):Prop:=
 ∃(G:Type)(V:G->Value)(F:G->Prop)(C':G->World->Prop),OpH P o L' C V F C'/\∀g,F g->K (V g) (C' g)
section
variable{P:Program}{o:Oper}{L':Qc}{w0:World}{ρ:Rho}{L:Env}{H:Hp}{n:Nat}{As:List HA}
theorem OpT.of_p{v u:Value}(h:OpP P o L' u)(hd:den ρ v=some u)(hH:HM ρ H As)(hf:QQ ρ n):OpT P o L' (HS w0 [] As) (Out w0 ρ v H n):=
 ⟨Unit,_,_,_,(h.q (HS w0 [] As)).h (HS.stab _ _ _),λ_ _=>⟨ρ,As,ρ.le_refl,hf,hd,hH,λ_ h=>h⟩⟩
theorem OpT.of_q{v u:Value}(h:OpQ P o L' (HS w0 [] As) u)(hd:den ρ v=some u)(hH:HM ρ H As)(hf:QQ ρ n):OpT P o L' (HS w0 [] As) (Out w0 ρ v H n):=
 ⟨Unit,_,_,_,h.h (HS.stab _ _ _),λ_ _=>⟨ρ,As,ρ.le_refl,hf,hd,hH,λ_ h=>h⟩⟩
theorem Qbm{b d:Nat}{x:HB}{us:List Value}{v u:Value}{C:World->Prop}(hH:HM ρ H As)(hf:QQ ρ n)(hc:Qx (QU ρ) x.cs=some us)(hr:QeL x d)(hv:den (ext ρ n (b,d)) v=some u)(hC:∀w,C w->HS w0 [] (.blk b x.ty (us.length+d*x.sz) us::As) w):Out w0 ρ v (Yn H n x) (n+1) u C:=by
 have hle:=Qfy hf (b,d);refine⟨ext ρ n (b,d),_,hle,Qa6 hf _,hv,?_,hC⟩;exact(HM.mono hle hH).push (Ql6 (Qbz ρ n (b,d)) (Xv (Qet hle) hc) hr)
theorem Qvc{t x:Nat}{m i sz:Nat}{ag:Bool}{r:HB}{v:Value}(ho:o.op=.load t (.tmp x))(hs:SR ρ L L')(hH:HM ρ H As)(hx:L x=some (.pointer (some ⟨m,i,none⟩)))(hg:Yc H m=some r)(hz:tsz P t=some (sz,ag))
  (h:(if ag then(bif Nat.ble (i+sz) r.cs.length then some (.agg (cut r.cs i sz).toArray)else none)else(bif Nat.beq sz 1 then r.cs[i]? else none))=some v):∃u,OpQ P o L' (HS w0 [] As) u/\den ρ v=some u:=by
 obtain⟨b,d,us,Rs,g1,g2,g3,g4,_,_⟩:=X8 hH hg;obtain⟨u,e1,e2⟩:=hs.get hx;simp only[den,Xp,QU,XV,g1,Option.some.injEq]at e2;subst e2;cases ag with
 | true=>
  simp only[if_true]at h;cases hb:Nat.ble (i+sz) r.cs.length with
  | false=>rw[hb]at h;cases h
  | true=>
   rw[hb]at h;injection h with h
   subst h;refine⟨_,Ym ho e1 hz g4 (by rw[Q5 g2];exact hb),?_⟩
   grind[den,Xp,cut,XK,YG]
 | false=>
  cases hb:Nat.beq sz 1 with
  | false=>rw[hb]at h;simp at h
  | true=>
   rw[hb]at h;have hk:=Nat.eq_of_beq_eq_true hb;subst hk;have h':r.cs[i]?=some v:=by simpa using h
   obtain⟨u,e3,e4⟩:=QaQ g2 h'
   grind[Yj,Qe2,Qdp]
theorem QnZ{v u:Value}(e:XV ρ v=some u):u.oneCell'=true:=by
 cases v<;>simp only[XV]at e<;>first
  | (injection e with e;subst e;rfl)
  | ((repeat' split at e)<;>first|(injection e with e;subst e;rfl)|cases e)
  | cases e
theorem Qoq{v u:Value}(e:QU ρ v=some u):u.oneCell'=true:=by
 cases v with
 | func f a b=>
  simp only[QU]at e;split at e
  ·injection e with e;subst e;rfl
  ·cases e
 | _=>grind[QU,QnZ]
theorem YY{vs us:List Value}(h:Qx (QU ρ) vs=some us):us.all (·.oneCell')=true:=by
 refine List.all_eq_true.2 λu hu=>?_;obtain⟨a,_,e⟩:=QiU h hu;exact Qoq e
theorem Qrl{t x:Nat}{y:Operand}{m i sz:Nat}{ag:Bool}{r:HB}{v:Value}(ho:o.op=.store t (.tmp x) y)(hs:SR ρ L L')(hH:HM ρ H As)(hf:QQ ρ n)(hx:L x=some (.pointer (some ⟨m,i,none⟩)))(hy:opd L y=some v)(hn:ZW v=true)(hg:Yc H m=some r)(hz:tsz P t=some (sz,ag))
  (hl:v.cells.toList.length=sz)(hr:i+sz<=r.cs.length):OpT P o L' (HS w0 [] As) (Out w0 ρ undef (Yn H m {r with cs:=Qf r.cs i v.cells.toList}) n):=by
 obtain⟨b,d,us,Rs,g1,g2,g3,g4,g5,_⟩:=X8 hH hg;obtain⟨p,e1,e2⟩:=hs.get hx;simp only[den,Xp,QU,XV,g1,Option.some.injEq]at e2;subst e2;obtain⟨u,e3,e4⟩:=Y3 hs hy;have hc:=Qh9 hn e4;have hlu:=Q5 hc;have hl2:=Q5 g2;have Yn:=Yl i g2 hc;obtain⟨As2,g6,g7⟩:=g5 {r with cs:=Qf r.cs i v.cells.toList} _ Yn (by unfold QeL at *;simpa[Qi]using g3);have hS:=Xr (w0:=w0) (M:=[]) (As:=As) (As':=.blk b r.ty (us.length+d*r.sz) (Qf us i u.cells.toList)::Rs) (tot:=us.length+d*r.sz) ho e1 e3 hz (by rw[hlu];exact hl) ⟨Rs,g4,.refl _⟩ (by rw[hl2];exact hr) (YY hc);refine⟨_,_,_,_,hS,λ_ _=>⟨ρ,As2,ρ.le_refl,hf,?_,g6,λw hw=>?_⟩⟩
 ·rfl
 ·have:HS w0 [] (.blk b r.ty ((Qf us i u.cells.toList).length+d*r.sz) (Qf us i u.cells.toList)::Rs) w:=by rw[Qi];exact hw
  exact this.perm g7
theorem QhP{m b d i:Nat}:den (ext ρ m (b,d)) (.pointer (some ⟨m,i,none⟩))=some (.pointer (some ⟨b,i,none⟩)):=by simp only[den,Xp,QU,XV,Qbz]
theorem QfY{m b d i l c:Nat}:den (ext ρ m (b,d)) (.slice (some ⟨m,i,none⟩) l c)=some (.slice (some ⟨b,i,none⟩) l (c+d)):=by simp only[den,Xp,QU,XV,Qbz]
theorem Qrr{t:TypeId}{z:List Value}(ho:o.op=.alloc t)(hz:QM P t=some z)(hfl:Xb z=true)(hH:HM ρ H As)(hf:QQ ρ n):OpT P o L' (HS w0 [] As) (Out w0 ρ (.pointer (some ⟨n,0,none⟩)) (Yn H n ⟨t,0,z⟩) (n+1)):=
 ⟨_,_,_,_,Qfg ho hz,λb _=>Qbm (d:=0) hH hf (X7 hfl) (.inl rfl) QhP λw hw=>by rw[Nat.zero_mul,Nat.add_zero];exact hw⟩
theorem QvX{t:TypeId}{x:Operand}{v:Value}(ho:o.op=.box t x)(hs:SR ρ L L')(hx:opd L x=some v)(hn:ZW v=true)(hH:HM ρ H As)(hf:QQ ρ n):OpT P o L' (HS w0 [] As) (Out w0 ρ (.pointer (some ⟨n,0,none⟩)) (Yn H n ⟨t,0,v.cells.toList⟩) (n+1)):=by
 obtain⟨u,e1,e2⟩:=Y3 hs hx;exact⟨_,_,_,_,Qi1 ho e1,λb _=>Qbm (d:=0) hH hf (Qh9 hn e2) (.inl rfl) QhP λw hw=>by rw[Nat.zero_mul,Nat.add_zero];exact hw⟩
theorem QiB{t e sz by' len:Nat}{parts:Array (Nat×Operand)}{vs:List (Nat×Value)}{z cs:List Value}(ho:o.op=.buildSlice t len parts)(hs:SR ρ L L')(hp:Qd7 L parts.toList=some vs)(ht:tsl P t=some (e,sz,by'))(hz:QM P e=some z)(hfl:Xb z=true)(hlen:Nat.ble (len*sz) 16777216=true)(h0:Nat.blt 0 (len*sz)=true)
  (hc:ZH (λi=>some (i*sz,sz)) ((List.range (len*sz)).map λi=>z.getD (i%z.length) default) vs=some cs)(hfz:Xb ((List.range (len*sz)).map λi=>z.getD (i%z.length) default)=true)(hH:HM ρ H As)(hf:QQ ρ n):OpT P o L' (HS w0 [] As) (Out w0 ρ (.slice (some ⟨n,0,none⟩) len len) (Yn H n ⟨e,sz,cs⟩) (n+1)):=by
 obtain⟨us,e1,e2⟩:=Qfj hs hp;obtain⟨ts,e3,e4⟩:=Qfm e2 (X7 hfz) hc;exact⟨_,_,_,_,Ql ho e1 ht hz hlen h0 e3,λb _=>Qbm (d:=0) hH hf e4 (.inl rfl) (by rw[QfY];rfl) λw hw=>by rw[Nat.zero_mul,Nat.add_zero];exact hw⟩
theorem HS.own_some{w:World}{M:List Nat}{As:List HA}{b t sz n cap:Nat}{xs:List Value}(h:HS w0 M (.own (.slice (some ⟨b,0,none⟩) n cap) t sz n xs::As) w):HS w0 M (.blk b t (cap*sz) xs::As) w:=by
 refine h.turn (λc hc=>by simpa[HA.fp_own,HA.fp_blk,Value.ownBlock]using hc) λho=>?_;obtain⟨hl,⟨e,_⟩|⟨g,cap',e,h2,h3,hb⟩⟩:=ho
 ·cases e
 ·injection e with e1 e2 e3
  injection e1 with e1
  injection e1 with e1 _ _
  subst e1 e3;exact hb
theorem Qg0{t e sz by':Nat}(ho:o.op=.buildSlice t 0 #[])(ht:tsl P t=some (e,sz,by'))(hH:HM ρ H As)(hf:QQ ρ n):OpT P o L' (HS w0 [] As) (Out w0 ρ (.slice (some ⟨n,0,none⟩) 0 0) (Yn H n ⟨e,sz,[]⟩) (n+1)):=
 ⟨_,_,_,_,X3 ho ht,λb _=>Qbm (d:=0) (us:=[]) hH hf rfl (.inl rfl) (by rw[QfY]) λw hw=>by have:=HS.own_some hw;simpa using this⟩
theorem QrC{t e sz by' k n:Nat}{x y:Operand}{z:List Value}(ho:o.op=.makeSlice t x y)(hx:Gx.ev L' x=some (.int .i64 (k:Int)))(hy:Gx.ev L' y=some (.int .i64 (n:Int)))(ht:tsl P t=some (e,sz,by'))(hz:QM P e=some z)(hlen:n*by'<=281474976710656)(hn:n<=16777216)(hkn:k<=n) :
  OpH P o L' (HS w0 [] As) (λb:Nat=>.slice (some ⟨b,0,none⟩) k n) (λ_=>True) (λb=>HS w0 [] (.blk b e (n*sz) (XA z (n*sz))::As)):=by
 intro ρ w hρ hw;obtain⟨hu,inf,h1,h2,h3⟩:=Xd ht;have hsz:∀w,(Go.sizeOf e).run P w=.ok sz w:=λw=>by simp[Go.sizeOf,typeInfo,h1,h2]
 have hti:(typeInfo e).run P w=.ok inf w:=by simp[typeInfo,h1]
 obtain⟨zv,hz',hzr⟩:∃zv:Value,zv.cells.toList=z/\∀w,(zeroValue e).run P w=.ok zv w:=by
  unfold QM at hz;rw[h1]at hz;simp only[Option.bind_some]at hz;cases hzz:inf.zero with
  | none=>rw[hzz]at hz;cases hz
  | some v=>rw[hzz]at hz;simp only[Option.map_some,Option.some.injEq]at hz;exact⟨v,hz,λw=>by simp[zeroValue,typeInfo,h1,hzz]⟩
 have hwr:IntKind.i64.wrap (n:Int)=n:=IntWalk.i64_in _ ⟨om,om⟩;have hwk:IntKind.i64.wrap (k:Int)=k:=IntWalk.i64_in _ ⟨om,om⟩;have hz'':zv.cells=z.toArray:=by rw[<-hz']
 have hpr:((inf.bytes:Nat):Int)*(n:Int)<=281474976710656:=by grind
 have e2:(2:Int)^48=281474976710656:=by decide
 have d1:¬((inf.bytes:Nat):Int)*(n:Int)>2^48:=by rw[e2];omega
 have d1k:¬((inf.bytes:Nat):Int)*(k:Int)>2^48:=by
  have h8:((inf.bytes:Nat):Int)*(k:Int)<=((inf.bytes:Nat):Int)*(n:Int):=Int.mul_le_mul_of_nonneg_left om om;rw[e2];omega
 have d2:¬(n:Int)<0:=om
 have d2k:¬(k:Int)<0:=om
 have d3:¬(k:Int)>n:=om
 have hai:∀(q:Nat)w,(asInt (.int .i64 (q:Int))).run P w=.ok (q:Int) w:=λq w=>by simp[asInt,asIntOf]
 have hb:(Instr.makeSlice t (.int .i64 k) (.int .i64 n)).run P w=.ok (.slice (some ⟨w.heap.size,0,none⟩) k n) (w.alloc (.cells (XA z (n*sz)).toArray e)):=by
  unfold Instr.makeSlice;simp only[Sem.run_bind,run_underlying hu,Result.andThen_ok,hsz,hai,Sem.run_pure,hti,hwr,hwk,d1,d1k,d2,d2k,d3,decide_false,Bool.or_false,Bool.false_eq_true,if_false,run_askRoom,Int.toNat_natCast]
  by_cases h0:n*sz=0
  ·have e1:∀q:Array Value,(Array.map (λx=>q[x%q.size]!) (Array.range 0))= #[]:=λq=>Array.eq_empty_of_size_eq_zero (by simp);have e3:(XA z (n*sz)).toArray= #[]:=by rw[h0];rfl
   simp only[h0,if_true,Sem.run_bind,Sem.run_pure,Result.andThen_ok,newRow,run_newObj,World.alloc_eq,e1,e3];simp only[h0]at e3;rw[e3]
  ·simp only[if_neg h0,Sem.run_bind,hzr,Sem.run_pure,Result.andThen_ok,newRow,run_newObj,World.alloc_eq,hz''];congr 2;simp[XA,<-List.toArray_range]
 simp only[execOp,ho,Sem.run_bind,hρ _ _ hx,hρ _ _ hy,hb,Result.andThen_ok,Sem.run_pure];have h4:=hw.blk_new e (XA z (n*sz)).toArray;refine⟨w.heap.size,rfl,trivial,?_⟩
 simpa[QB]using h4
theorem QiZ{t e sz by' k c:Nat}{x y:Operand}{z:List Value}(ho:o.op=.makeSlice t x y)(hs:SR ρ L L')(hx:opd L x=some (.int .i64 (k:Int)))(hy:opd L y=some (.int .i64 (c:Int)))(hkc:k<=c)(ht:tsl P t=some (e,sz,by'))(hz:QM P e=some z)(hb:c*by'<=281474976710656)(hk:c<=16777216)(hfz:Xb (XA z (c*sz))=true)(hH:HM ρ H As)(hf:QQ ρ n) :
  OpT P o L' (HS w0 [] As) (Out w0 ρ (.slice (some ⟨n,0,none⟩) k c) (Yn H n ⟨e,sz,XA z (c*sz)⟩) (n+1)):=
 ⟨_,_,_,_,QrC ho (Qj hs hx rfl) (Qj hs hy rfl) ht hz hb hk hkc,λb _=>Qbm (d:=0) hH hf (X7 hfz) (.inl rfl) (by rw[QfY]<;>rfl) λw hw=>by rw[QB,Nat.zero_mul,Nat.add_zero];exact hw⟩
theorem Qrg{src dst e:TypeId}{x:Operand}{l:List UInt8}(ho:o.op=.convert src dst x)(hs:SR ρ L L')(hx:opd L x=some (.string ⟨⟨l⟩⟩))(h1:P.underlying src=some .string)(h2:P.underlying dst=some (.slice e))(h3:P.underlying e=some (.int .u8))(h5:e=u8T)(hl:l.length<=maxLen)(hH:HM ρ H As)(hf:QQ ρ n) :
  OpT P o L' (HS w0 [] As) (Out w0 ρ (.slice (some ⟨n,0,none⟩) l.length l.length) (Yn H n ⟨e,1,l.map λb=>.int .u8 (b.toNat:Int)⟩) (n+1)):=by
 have hfl:Xb (l.map λb=>Value.int .u8 (b.toNat:Int))=true:=by
  unfold Xb;rw[List.all_map];exact List.all_eq_true.2 λ_ _=>rfl
 refine⟨_,_,_,_,Z0 ho (Qj hs hx rfl) h1 h2 h3 h5 hl,λp hp=>Qbm (b:=p.1) (d:=p.2-l.length) hH hf (X7 hfl) (.inr ?_) ?_ λw hw=>?_⟩
 ·grind
 ·grind[QfY]
 grind
theorem QnA{t:TypeId}(ho:o.op=.makeMap t none)(hH:HM ρ H As)(hf:QQ ρ n):OpT P o L' (HS w0 [] As) (Out w0 ρ (.map (some n)) (YQ H n (.mp [])) (n+1)):=by
 refine⟨_,_,_,_,Qa8 ho QjE,λb _=>?_⟩;have hle:=Qfy hf (b,0);refine⟨ext ρ n (b,0),_,hle,Qa6 hf _,?_,(HM.mono hle hH).push (A:=.mp b QjE []) (by simp only[ha,Qbz]),λw hw=>hw⟩;simp only[den,Xp,QU,XV,Qbz]
def QhL(a:Int):List Int->Bool
 | []=>false
 | b::l=>bif decide (a=b)then true else QhL a l
theorem QiI(a:Int):∀l,QhL a l=decide (a∈l)
 | []=>by simp[QhL]
 | b::l=>by simp_all[QhL,QiI]
theorem QlD{x:Operand}{m:Nat}(hs:SR ρ L L')(h:opd L x=some (.map (some m))):∃b d,ρ m=some (b,d)/\ev L' x=some (.map (some b)):=by grind[Y3,den,Xp,QU,XV]
theorem Qpz{t kt et r:Nat}{m x:Operand}{a:Int}{ks:List Int}(ho:o.op=.lookup t m x false)(hs:SR ρ L L')(hH:HM ρ H As)(hm:opd L m=some (.map (some r)))(hx:opd L x=some (.int .i64 a))(ht:P.underlying t=some (.map kt et))(hz:tzv P et=some (.bool false))(hk:tki P kt=some .i64)(hg:QgQ H r=some ks) :
  ∃u,OpQ P o L' (HS w0 [] As) u/\den ρ (.bool (QhL a ks))=some u:=by
 obtain⟨b,Rs,g1,g2,_⟩:=QqO hH hg;obtain⟨b',d',e1,e2⟩:=QlD hs hm;rw[g1]at e1;injection e1 with e1
 injection e1 with e1 _
 subst e1;rw[QiI];exact⟨_,Qgx ho e2 (Qj hs hx rfl) ht hz (Qfl hk) g2,by simp only[den,Xp,QU,XV];congr⟩
theorem Qjc{t kt et r:Nat}{m x y:Operand}{a:Int}{ks:List Int}(ho:o.op=.mapUpdate t m x y\/o.op=.insert t m x y)(hs:SR ρ L L')(hH:HM ρ H As)(hf:QQ ρ n)(hm:opd L m=some (.map (some r)))(hx:opd L x=some (.int .i64 a))(hy:opd L y=some (.bool true))(ht:P.underlying t=some (.map kt et))(hk:tki P kt=some .i64)(hg:QgQ H r=some ks) :
  OpT P o L' (HS w0 [] As) (Out w0 ρ (.tuple #[]) (YQ H r (.mp (bif QhL a ks then ks else ks++[a]))) n):=by
 obtain⟨b,Rs,g1,g2,g3⟩:=QqO hH hg;obtain⟨b',d',e1,e2⟩:=QlD hs hm;rw[g1]at e1;injection e1 with e1
 injection e1 with e1 _
 subst e1;have hik:ZV ks a=(bif QhL a ks then ks else ks++[a]):=by grind[ZV,QiI,ks]
 obtain⟨As2,g4,g5⟩:=g3 (ZV ks a);rw[<-hik];exact⟨_,_,_,_,Qcv (As':=.mp b QjE (ZV ks a)::Rs) ho e2 (Qj hs hx rfl) (Qj hs hy rfl) ht (Qfl hk) ⟨Rs,g2,.refl _⟩,λ_ _=>⟨ρ,As2,ρ.le_refl,hf,rfl,g4,λw hw=>hw.perm g5⟩⟩
end
end Ev
namespace Ev
open Go Go.RowKit
noncomputable def Qld(P:Program)(H:Hp)(xt sz:Nat):Value->Option (Nat×List Value)
 | .slice none k _=>bif Xj P xt&&Nat.beq k 0 then some (0,[])else none
 | .slice (some ⟨m,i,_⟩) k _=>bif Xj P xt then(bif Nat.beq k 0 then some (0,[])else match Yc H m with
  | some r=>bif Nat.ble (i+k*sz) r.cs.length then some (k,cut r.cs i (k*sz))else none
  | none=>none)else none
 | .pointer (some ⟨_,_,some _⟩)=>bif Xj P xt then some (0,[])else none
 | .string ⟨⟨l⟩⟩=>bif Xc P xt&&Nat.beq sz 1 then some (l.length,l.map λb=>.int .u8 (b.toNat:Int))else none
 | _=>none
structure SrcOk(P:Program)(w0:World)(As:List HA)(xt sz:Nat)(uy:Value)(m:Nat)(us:List Value):Prop where
 ty:P.underlying xt=some .string\/∃e',P.underlying xt=some (.slice e')
 lenOf:∀w,(Builtin.lenOf uy).run P w=.ok m w
 cells:∀w,HS w0 [] As w->(Builtin.firstCells sz m uy).run P w=.ok us.toArray w
 len:us.length=m*sz
theorem Qv9{ρ:Rho}(l:List UInt8):Qx (QU ρ) (l.map λb=>Value.int .u8 (b.toNat:Int))=some (l.map λb=>.int .u8 (b.toNat:Int)):=X7 (by
 unfold Xb;rw[List.all_map];exact List.all_eq_true.2 λ_ _=>rfl)
section
variable{P:Program}{o:Oper}{L':Qc}{w0:World}{ρ:Rho}{L:Env}{H:Hp}{n:Nat}{As:List HA}
theorem Qne{α:Type}{c:Bool}{x a:α}(h:(bif c then some x else none)=some a):c=true/\x=a:=by grind
theorem QlB{xt sz:Nat}{y:Operand}{v:Value}{m:Nat}{cs:List Value}(hs:SR ρ L L')(hH:HM ρ H As)(hy:opd L y=some v)(h:Qld P H xt sz v=some (m,cs)):∃uy us,ev L' y=some uy/\Qx (QU ρ) cs=some us/\SrcOk P w0 As xt sz uy m us:=by
 unfold Qld at h;split at h
 ·rename_i k c;cases hb:Xj P xt&&Nat.beq k 0 with
  | false=>rw[hb]at h;cases h
  | true=>
   rw[hb]at h;simp only[cond_true,Option.some.injEq,Prod.mk.injEq]at h;obtain⟨rfl,rfl⟩:=h;simp only[Bool.and_eq_true]at hb;have hk:=Nat.eq_of_beq_eq_true hb.2;subst hk;exact⟨_,[],Qj hs hy rfl,rfl,.inr (XX hb.1),λ_=>rfl,λw _=>Yo (news:=[]) (by simp) λh=>absurd rfl h,by simp⟩
 ·rename_i m2 i q k c;cases hb:Xj P xt with
  | false=>rw[hb]at h;cases h
  | true=>
   rw[hb]at h;simp only[cond_true]at h
   have hev:∃b c',ρ m2=some b/\ev L' y=some (.slice (some ⟨b.1,i,none⟩) k c'):=by
    cases q with
    | none=>
     obtain⟨b,d,h1,h2⟩:=Yg hs hy
     simp_all
    | some q=>
     obtain⟨b,d,h1,h2⟩:=Yx hs hy
     simp_all
   obtain⟨⟨b,d⟩,c',h1,h2⟩:=hev;cases hk:Nat.beq k 0 with
   | true=>
    rw[hk]at h;simp only[cond_true,Option.some.injEq,Prod.mk.injEq]at h;obtain⟨rfl,rfl⟩:=h;have hk:=Nat.eq_of_beq_eq_true hk;subst hk;exact⟨_,[],h2,rfl,.inr (XX hb),λ_=>rfl,λw _=>Yo (news:=[]) (by simp) λh=>absurd rfl h,by simp⟩
   | false=>
    rw[hk]at h;simp only[cond_false]at h;split at h
    ·rename_i r hg;cases hl:Nat.ble (i+k*sz) r.cs.length with
     | false=>rw[hl]at h;cases h
     | true=>
      rw[hl]at h;simp only[cond_true,Option.some.injEq,Prod.mk.injEq]at h;obtain⟨rfl,rfl⟩:=h;have hl':=Nat.le_of_ble_eq_true hl;obtain⟨b9,d9,us,Rs,g1,g2,g3,g4,_,_⟩:=X8 hH hg;rw[h1]at g1;injection g1 with g1
      injection g1 with g1 g1'
      subst g1 g1';have hlu:=Q5 g2;have hcl:(cut us i (k*sz)).length=k*sz:=by simp only[cut,List.length_take,List.length_drop];omega
      exact⟨_,cut us i (k*sz),h2,XK (k*sz) (YG i g2),.inr (XX hb),λ_=>rfl,λw hw=>Yo hcl (Z1 i (k*sz) (λ_=>rfl) g4 w hw),hcl⟩
    ·cases h
 ·rename_i m2 i q;obtain⟨hb,h⟩:=Qne h;simp only[Prod.mk.injEq]at h;obtain⟨rfl,rfl⟩:=h;obtain⟨b,d,j,h1,h2⟩:=Qgf hs hy;exact⟨_,[],h2,rfl,.inr (XX hb),λ_=>rfl,λw _=>Yo (news:=[]) (by simp) λh=>absurd rfl h,by simp⟩
 ·rename_i l;cases hb:Xc P xt&&Nat.beq sz 1 with
  | false=>rw[hb]at h;cases h
  | true=>
   rw[hb]at h;simp only[cond_true,Option.some.injEq,Prod.mk.injEq]at h;obtain⟨rfl,rfl⟩:=h;simp only[Bool.and_eq_true]at hb;have hk:=Nat.eq_of_beq_eq_true hb.2;subst hk;refine⟨.string (bs l),_,Qj hs hy rfl,Qv9 l,.inl (Ys hb.1),λ_=>rfl,λw _=>?_,by simp⟩;have hx:(bs l).extract 0 l.length=bs l:=(Qmn _).trans (congrArg bs (by rw[Lib.extract_data];simp));simp only[Builtin.firstCells,hx,Sem.run_pure];congr 1;simp[bs]
 ·cases h
theorem Qnw{t xt e sz by' k c m p:Nat}{s y:Operand}{r:HB}{vy:Value}{cs:List Value}{q:Option Nat}(ho:o.op=.call {callee:=.builtin .append,args:=#[s,y],argTypes:=#[t,xt]})(hs:SR ρ L L')(hH:HM ρ H As)(hf:QQ ρ n)(hx:opd L s=some (.slice (some ⟨p,0,q⟩) k c))(hy:opd L y=some vy)(ht:tsl P t=some (e,sz,by'))
  (hsrc:Qld P H xt sz vy=some (m,cs))(hg:Yc H p=some r)(hfit:k+m<=c)(hr:k*sz+cs.length<=r.cs.length):OpT P o L' (HS w0 [] As) (Out w0 ρ (.slice (some ⟨p,0,q⟩) (k+m) c) (Yn H p {r with cs:=Qf r.cs (k*sz) cs}) n):=by
 obtain⟨uy,us,h1,h2,h3⟩:=QlB (w0:=w0) hs hH hy hsrc;obtain⟨b,d,rs,Rs,g1,g2,g3,g4,g5,_⟩:=X8 hH hg;have Yn:=Yl (k*sz) g2 h2;obtain⟨As2,g6,g7⟩:=g5 {r with cs:=Qf r.cs (k*sz) cs} _ Yn (by unfold QeL at *;simpa[Qi]using g3);have hev:∃c',c<=c'/\ev L' s=some (.slice (some ⟨b,0,none⟩) k c')/\den ρ (.slice (some ⟨p,0,q⟩) (k+m) c)=some (.slice (some ⟨b,0,none⟩) (k+m) c'):=by cases q<;>grind[Yg,den,Xp,QU,XV,Yx]
 obtain⟨c',hc,e1,e2⟩:=hev;have hlr:=Q5 g2;have hlu:=Q5 h2;refine⟨Unit,λ_=>.slice (some ⟨b,0,none⟩) (k+m) c',λ_=>True,λ_=>HS w0 [] (.blk b r.ty (rs.length+d*r.sz) (Qf rs (k*sz) us)::Rs),?_,λ_ _=>⟨ρ,As2,ρ.le_refl,hf,e2,g6,λw hw=>?_⟩⟩
 ·intro a w hρ hw;obtain⟨hu,inf,hi,hs1,hs2⟩:=Xd ht;subst hs1;have hpk:=hw.pick g4;obtain⟨w',hst,hb,r1,r2,r3,r4,r5⟩:=Ye (P:=P) us 0 rs w hpk.head (by rw[Nat.add_zero,hlr,hlu];exact hr) (λu hu=>List.all_eq_true.1 (YY h2) u hu) (i:=k*inf.size);have he:=Qkq (P:=P) (ty:=o.type) (x:=uy) (w':=w') (g:=b) (n:=k) (m:=m) (cap:=c') (t:=t) (xt:=xt) hu h3.ty hi (h3.lenOf w) (h3.cells w hw) (by rw[XD,Nat.zero_add];exact hst) om;simp only[execOp,ho,resolve,Sem.run_bind,Sem.run_pure,Result.andThen_ok,invoke,builtin,List.map_toArray,List.map_cons,List.map_nil,hρ _ _ e1,hρ _ _ h1,he];exact⟨(),rfl,trivial,HS.swap hpk (B:=.blk b r.ty (rs.length+d*r.sz) (Qf rs (k*inf.size) us)) (λ_ h=>h) r1 r2 r3 r4 (λk hk=>r5 k (by simpa[HA.fp_blk]using hk)) (show QX b _ _ (Qf rs (k*inf.size) us) w' by simpa using hb)⟩
 ·have:HS w0 [] (.blk b r.ty ((Qf rs (k*sz) us).length+d*r.sz) (Qf rs (k*sz) us)::Rs) w:=by rw[Qi];exact hw
  exact this.perm g7
theorem QeT{t xt e sz by' k m:Nat}{s y:Operand}{v uy:Value}{z xs us:List Value}{Rs:List HA}(ho:o.op=.call {callee:=.builtin .append,args:=#[s,y],argTypes:=#[t,xt]})(hv:ev L' s=some v)(hy:ev L' y=some uy)(ht:tsl P t=some (e,sz,by'))(hz:QM P e=some z)(hzs:z.length=sz)
  (hcls:∀w,HS w0 [] As w->HS w0 [] (.own v e sz k xs::Rs) w)(h3:SrcOk P w0 As xt sz uy m us)(h1:us.all (·.oneCell')=true)(hroom:(k+m)*by'<=140737488355328)(hmax:k+m<=maxLen)(hpos:0<k+m) :
  OpH P o L' (HS w0 [] As) (λg:Nat×Nat=>.slice (some ⟨g.1,0,none⟩) (k+m) g.2) (λg=>k+m<=g.2/\g.2<=maxLen/\(xs++us).length=(k+m)*sz) (λg=>HS w0 [] (.blk g.1 e (g.2*sz) (xs++us)::Rs)):=by
 intro a w hρ hw;obtain⟨v',w',hr,hw'⟩:=Qgj (P:=P) (ty:=o.type) ht h3.ty hz hzs (hcls w hw) .here (x:=uy) (h3.lenOf w) (h3.cells w hw) (h3.cells _ hw.drew) h3.len (λu hu=>List.all_eq_true.1 h1 u hu) hroom hmax;simp only[execOp,ho,resolve,Sem.run_bind,Sem.run_pure,Result.andThen_ok,invoke,builtin,List.map_toArray,List.map_cons,List.map_nil,hρ _ _ hv,hρ _ _ hy,hr];obtain⟨a',cap',rfl,_⟩:=hw'.head.form;obtain⟨g,rfl,_,h4,h5,h6,h7⟩:=hw'.own_blk hpos .here;exact⟨(g,cap'),rfl,⟨h4,h5,h6⟩,h7⟩
theorem QdO{Rs:List HA}{H':Hp}{e sz k m:Nat}{cs xs:List Value}{g:Nat×Nat}(hH:∃As3,HM ρ H' As3/\Rs.Perm As3)(hf:QQ ρ n)(hc:Qx (QU ρ) cs=some xs)(h1:k+m<=g.2)(h2:g.2<=maxLen)(h3:xs.length=(k+m)*sz) :
  Out w0 ρ (.slice (some ⟨n,0,none⟩) (k+m) (k+m)) (Yn H' n ⟨e,sz,cs⟩) (n+1) (.slice (some ⟨g.1,0,none⟩) (k+m) g.2) (HS w0 [] (.blk g.1 e (g.2*sz) xs::Rs)):=by
 obtain⟨As3,h4,h5⟩:=hH;have hl:=Q5 hc;have hsum:(k+m)*sz+(g.2-(k+m))*sz=g.2*sz:=by rw[<-Nat.add_mul];congr 1;omega
 refine Qbm (b:=g.1) (d:=g.2-(k+m)) h4 hf hc (.inr ?_) (by rw[QfY,show k+m+(g.2-(k+m))=g.2 by omega]) λw hw=>?_
 ·simp only[];rw[<-hl,h3,hsum];exact Nat.mul_le_mul_right _ h2
 ·simp only[];rw[h3,hsum];exact hw.perm (h5.cons _)
theorem QmY{t xt e sz by' k c m p:Nat}{s y:Operand}{r:HB}{vy:Value}{z cs:List Value}(ho:o.op=.call {callee:=.builtin .append,args:=#[s,y],argTypes:=#[t,xt]})(hs:SR ρ L L')(hH:HM ρ H As)(hf:QQ ρ n)(hx:opd L s=some (.slice (some ⟨p,0,none⟩) k c))(hy:opd L y=some vy)(ht:tsl P t=some (e,sz,by'))(hz:QM P e=some z)(hzs:z.length=sz)
  (hsrc:Qld P H xt sz vy=some (m,cs))(hg:Yc H p=some r)(hty:r.ty=e)(hsz:r.sz=sz)(hlen:r.cs.length=c*sz)(hsz0:0<sz)(hkc:k<=c)(hcm:c<=maxLen)(hroom:(k+m)*by'<=140737488355328)(hmax:k+m<=maxLen)(hpos:0<k+m) :
  OpT P o L' (HS w0 [] As) (Out w0 ρ (.slice (some ⟨n,0,none⟩) (k+m) (k+m)) (Yn (QfF H p) n ⟨e,sz,r.cs.take (k*sz)++cs⟩) (n+1)):=by
 obtain⟨uy,us,h1,h2,h3⟩:=QlB (w0:=w0) hs hH hy hsrc;obtain⟨b,d,rs,Rs,g1,g2,g3,g4,_,g6⟩:=X8 hH hg;obtain⟨b9,d9,e1,e2⟩:=Yg hs hx;rw[g1]at e1;injection e1 with e1
 injection e1 with e1 e3
 subst e1 e3;have hlr:=Q5 g2
 have hcd:c+d<=maxLen:=by
  unfold QeL at g3;rcases g3 with g3|g3
  ·omega
  ·rw[hlen,hsz,<-Nat.add_mul]at g3;exact Nat.le_of_mul_le_mul_right g3 hsz0
 have htot:rs.length+d*r.sz=(c+d)*sz:=by rw[hlr,hlen,hsz,Nat.add_mul]
 rw[hty,htot]at g4;have hH4:=QeT (w0:=w0) (As:=As) (xs:=rs.take (k*sz)) (Rs:=Rs) (k:=k) ho e2 h1 ht hz hzs (λw hw=>HS.to_own g4 hw (List.take_append_drop (k*sz) rs).symm (by rw[List.length_take,hlr,hlen];exact Nat.min_eq_left (Nat.mul_le_mul_right _ hkc)) om hcd) h3 (YY h2) hroom hmax hpos;exact⟨_,_,_,_,hH4,λg hg4=>QdO g6 hf (Y4 (XK (k*sz) g2) h2) hg4.1 hg4.2.1 hg4.2.2⟩
theorem Qns{t xt e sz by' m:Nat}{s y:Operand}{vy:Value}{z cs:List Value}(ho:o.op=.call {callee:=.builtin .append,args:=#[s,y],argTypes:=#[t,xt]})(hs:SR ρ L L')(hH:HM ρ H As)(hf:QQ ρ n)(hx:opd L s=some (.slice none 0 0))(hy:opd L y=some vy)(ht:tsl P t=some (e,sz,by'))(hz:QM P e=some z)(hzs:z.length=sz)
  (hsrc:Qld P H xt sz vy=some (m,cs))(hroom:(0+m)*by'<=140737488355328)(hmax:0+m<=maxLen)(hpos:0<0+m) :
  OpT P o L' (HS w0 [] As) (Out w0 ρ (.slice (some ⟨n,0,none⟩) (0+m) (0+m)) (Yn H n ⟨e,sz,[]++cs⟩) (n+1)):=by
 obtain⟨uy,us,h1,h2,h3⟩:=QlB (w0:=w0) hs hH hy hsrc;have hH4:=QeT (w0:=w0) (As:=As) (xs:=[]) (Rs:=As) (k:=0) ho (Qj hs hx rfl) h1 ht hz hzs (λw hw=>hw.own_nil e sz) h3 (YY h2) hroom hmax hpos;exact⟨_,_,_,_,hH4,λg hg4=>QdO ⟨As,hH,.refl _⟩ hf (Y4 (by rfl) h2) hg4.1 hg4.2.1 hg4.2.2⟩
theorem QnD{t xt e sz by':Nat}{s y:Operand}{vy:Value}{cs:List Value}(ho:o.op=.call {callee:=.builtin .append,args:=#[s,y],argTypes:=#[t,xt]})(hs:SR ρ L L')(hH:HM ρ H As)(hf:QQ ρ n)(hx:opd L s=some (.slice none 0 0))(hy:opd L y=some vy)(ht:tsl P t=some (e,sz,by'))
  (hsrc:Qld P H xt sz vy=some (0,cs)):OpT P o L' (HS w0 [] As) (Out w0 ρ (.slice none 0 0) H n):=by
 obtain⟨uy,us,h1,h2,h3⟩:=QlB (w0:=w0) hs hH hy hsrc;refine⟨Unit,λ_=>.slice none 0 0,λ_=>True,λ_=>HS w0 [] As,?_,λ_ _=>⟨ρ,As,ρ.le_refl,hf,rfl,hH,λ_ h=>h⟩⟩;intro a w hρ hw;obtain⟨hu,inf,hi,hs1,hs2⟩:=Xd ht;subst hs1;have hu0:us=[]:=List.eq_nil_of_length_eq_zero (by have:=h3.len;omega);subst hu0;have he:=Qjk (P:=P) (ty:=o.type) (t:=t) (xt:=xt) (x:=uy) (w:=w) hu h3.ty hi (h3.lenOf w) (h3.cells w hw);simp only[execOp,ho,resolve,Sem.run_bind,Sem.run_pure,Result.andThen_ok,invoke,builtin,List.map_toArray,List.map_cons,List.map_nil,hρ _ _ (Qj hs hx rfl),hρ _ _ h1,he];exact⟨(),rfl,trivial,hw⟩
end
end Ev
namespace Ev
open Go Go.RowKit
section
variable{P:Program}{o:Oper}{L':Qc}{w0:World}{ρ:Rho}{L:Env}{H:Hp}{n:Nat}{As:List HA}
theorem QpY{cs us:List Value}(h:Xb cs=true)(e:Qx (QU ρ) cs=some us):us=cs:=by grind[X7]
theorem Qey{x:Operand}{p i l c:Nat}{q:Option Nat}(hs:SR ρ L L')(h:opd L x=some (.slice (some ⟨p,i,q⟩) l c)):∃b d c',ρ p=some (b,d)/\ev L' x=some (.slice (some ⟨b,i,none⟩) l c'):=by cases q<;>grind[Yg,Yx]
theorem Qnx{src dst e p i k c:Nat}{x:Operand}{q:Option Nat}{r:HB}(ho:o.op=.convert src dst x)(hs:SR ρ L L')(hH:HM ρ H As)(hx:opd L x=some (.slice (some ⟨p,i,q⟩) k c))(h1:P.underlying src=some (.slice e))(h2:Xc P dst=true)(h3:P.underlying e=some (.int .u8))(hg:Yc H p=some r)(hl:i+k<=r.cs.length)
  (h8:(cut r.cs i k).all Qh4=true)(hf:Xb (cut r.cs i k)=true):∃u,OpQ P o L' (HS w0 [] As) u/\den ρ (.string (bs ((cut r.cs i k).map vByte)))=some u:=by
 obtain⟨b,d,us,Rs,g1,g2,g3,g4,_,_⟩:=X8 hH hg;obtain⟨b9,d9,c',e1,e2⟩:=Qey hs hx;rw[g1]at e1;injection e1 with e1
 injection e1 with e1 e3
 subst e1 e3;have hc:Qx (QU ρ) (cut r.cs i k)=some (cut us i k):=XK k (YG i g2);have he:=QpY hf hc;have hlen:(cut r.cs i k).length=k:=by simp only[cut,List.length_take,List.length_drop];omega
 refine⟨_,?_,rfl⟩;intro a w hρ hw
 have hr:(convert src dst (.slice (some ⟨b,i,none⟩) (cut r.cs i k).length c')).run P w=.ok (.string (bs ((cut r.cs i k).map vByte))) w:=
  YB h1 (Ys h2) h3 (λv hv=>List.all_eq_true.1 h8 v hv) (by rw[<-he];exact Z1 i k (λ_=>rfl) g4 w hw)
 rw[hlen]at hr;simp only[execOp,ho,Sem.run_bind,hρ _ _ e2,hr,Result.andThen_ok,Sem.run_pure];exact⟨rfl,Below.refl _ _⟩
theorem QnC{src dst e k c:Nat}{x:Operand}(ho:o.op=.convert src dst x)(hs:SR ρ L L')(hx:opd L x=some (.slice none 0 c))(h1:P.underlying src=some (.slice e))(h2:Xc P dst=true)(h3:P.underlying e=some (.int .u8)):∃u,OpQ P o L' (HS w0 [] As) u/\den ρ (.string (bs []))=some u:=by
 refine⟨_,?_,rfl⟩;intro a w hρ hw
 have hr:(convert src dst (.slice none ([]:List Value).length c)).run P w=.ok (.string (bs (([]:List Value).map vByte))) w:=
  YB h1 (Ys h2) h3 (λv hv=>by cases hv) (λh=>absurd rfl h)
 simp only[execOp,ho,Sem.run_bind,hρ _ _ (Qj hs hx rfl),show(0:Nat)=([]:List Value).length from rfl,hr,Result.andThen_ok,Sem.run_pure];exact⟨rfl,Below.refl _ _⟩
theorem Qnz{src dst e p i q:Nat}{x:Operand}(ho:o.op=.convert src dst x)(hs:SR ρ L L')(hx:opd L x=some (.pointer (some ⟨p,i,some q⟩)))(h1:P.underlying src=some (.slice e))(h2:Xc P dst=true)(h3:P.underlying e=some (.int .u8)):∃u,OpQ P o L' (HS w0 [] As) u/\den ρ (.string (bs []))=some u:=by
 obtain⟨b,d,j,_,h4⟩:=Qgf hs hx;exact⟨_,Qo9 [] ho h4 h1 (Ys h2) h3 rfl (λ_ _ h=>absurd h (Nat.lt_irrefl 0)),rfl⟩
theorem QnL{t xt e sz by' m:Nat}{s y:Operand}{z:List Value}(ho:o.op=.call {callee:=.builtin .append,args:=#[s,y],argTypes:=#[t,xt]})(hs:SR ρ L L')(hH:HM ρ H As)(hf:QQ ρ n)(hx:opd L s=some (.slice none 0 0))(hy:opd L y=some (.int .i64 (m:Int)))(hk:tki P xt=some .i64)(ht:tsl P t=some (e,sz,by'))(hz:QM P e=some z)(hzs:z.length=sz)(hsz:0<sz)
  (hfz:Xb (XA z (m*sz))=true)(hroom:(0+m)*by'<=140737488355328)(hmax:0+m<=maxLen)(hpos:0<m):OpT P o L' (HS w0 [] As) (Out w0 ρ (.slice (some ⟨n,0,none⟩) (0+m) (0+m)) (Yn H n ⟨e,sz,[]++XA z (m*sz)⟩) (n+1)):=by
 exact⟨_,_,_,_,Qaj (olds:=[]) ho (Qj hs hx rfl) (Qj hs hy rfl) ht hk hz hzs hsz hpos om (λw _ h=>absurd rfl h) (by simp) hroom hmax,λg hg=>QdO ⟨As,hH,.refl _⟩ hf (Y4 (by rfl) (X7 hfz)) hg.1 hg.2 (by rw[List.nil_append,QB,Nat.zero_add])⟩
theorem Qtu{dt st e sz by' p i k c p2 i2 k2 c2:Nat}{d s:Operand}{q q2:Option Nat}{r r2:HB}(ho:o.op=.call {callee:=.builtin .copy,args:=#[d,s],argTypes:=#[dt,st]})(hs:SR ρ L L')(hH:HM ρ H As)(hf:QQ ρ n)(hd:opd L d=some (.slice (some ⟨p,i,q⟩) k c))(hx:opd L s=some (.slice (some ⟨p2,i2,q2⟩) k2 c2))(ht:tsl P dt=some (e,sz,by'))
  (hg:Yc H p=some r)(hg2:Yc H p2=some r2)(hl:i+min k2 k*sz<=r.cs.length)(hl2:i2+min k2 k*sz<=r2.cs.length):OpT P o L' (HS w0 [] As) (Out w0 ρ (.int .i64 ((min k2 k:Nat):Int)) (Yn H p {r with cs:=Qf r.cs i (cut r2.cs i2 (min k2 k*sz))}) n):=by
 obtain⟨b,dd,us,Rs,g1,g2,g3,g4,g5,_⟩:=X8 hH hg;obtain⟨b2,dd2,us2,Rs2,m1,m2,m3,m4,_,_⟩:=X8 hH hg2;obtain⟨b9,d9,c',e1,e2⟩:=Qey hs hd;rw[g1]at e1;injection e1 with e1
 injection e1 with e1 e3
 subst e1 e3;obtain⟨b8,d8,c8,f1,f2⟩:=Qey hs hx;rw[m1]at f1;injection f1 with f1
 injection f1 with f1 f3
 subst f1 f3;have hc:Qx (QU ρ) (cut r2.cs i2 (min k2 k*sz))=some (cut us2 i2 (min k2 k*sz)):=XK _ (YG i2 m2);have hlu:=Q5 g2;have hlu2:=Q5 m2;have hcl:(cut us2 i2 (min k2 k*sz)).length=min k2 k*sz:=by simp only[cut,List.length_take,List.length_drop];omega
 obtain⟨As2,g6,g7⟩:=g5 {r with cs:=Qf r.cs i (cut r2.cs i2 (min k2 k*sz))} _ (Yl i g2 hc) (by unfold QeL at *;simpa[Qi]using g3);have hS:=Qbx (w0:=w0) (M:=[]) (As:=As) (As':=.blk b r.ty (us.length+dd*r.sz) (Qf us i (cut us2 i2 (min k2 k*sz)))::Rs) (min k2 k) (cut us2 i2 (min k2 k*sz)) ho e2 f2 ht ⟨Rs,g4,.refl _⟩ rfl hcl (λ_=>rfl) (by rw[hcl,hlu];exact hl) (Z1 i2 _ (λ_=>rfl) m4) (λu hu=>List.all_eq_true.1 (YY hc) u hu);refine⟨_,_,_,_,hS,λ_ _=>⟨ρ,As2,ρ.le_refl,hf,rfl,g6,λw hw=>?_⟩⟩;have:HS w0 [] (.blk b r.ty ((Qf us i (cut us2 i2 (min k2 k*sz))).length+dd*r.sz) (Qf us i (cut us2 i2 (min k2 k*sz)))::Rs) w:=by rw[Qi];exact hw
 exact this.perm g7
theorem Qsd{src e p i k c:Nat}{x:Operand}{r:HB}(ho:o.op=.convert src src x)(hs:SR ρ L L')(hH:HM ρ H As)(hf:QQ ρ n)(hx:opd L x=some (.slice (some ⟨p,i,none⟩) k c))(h1:P.underlying src=some (.slice e))(h3:P.underlying e=some (.int .u8))(hg:Yc H p=some r)(ht:r.ty=u8T) :
  OpT P o L' (HS w0 [] As) (Out w0 ρ (.slice (some ⟨p,i,none⟩) k c) H n):=by
 obtain⟨b,dd,us,Rs,g1,g2,g3,g4,g5,_⟩:=X8 hH hg;obtain⟨b9,d9,e1,e2⟩:=Yg hs hx;rw[g1]at e1;injection e1 with e1
 injection e1 with e1 e3
 subst e1 e3;rw[ht]at g4;have hS:=Qle (w0:=w0) (M:=[]) (As:=As) (As':=.blk b u8T (us.length+dd*r.sz) us::Rs) ho e2 h1 h3 ⟨Rs,g4,.refl _⟩;refine⟨_,_,_,_,hS,λ_ _=>⟨ρ,As,ρ.le_refl,hf,?_,hH,λw hw=>hw.perm g4.symm⟩⟩;simp only[den,Xp,QU,XV,g1]
theorem Qq2{dt st e by' m cd b tot i:Nat}{d s:Operand}{bt:TypeId}{cs news:List Value}{l:List UInt8}{As As':List HA}(k:Nat)(ho:o.op=.call {callee:=.builtin .copy,args:=#[d,s],argTypes:=#[dt,st]})(hd:Gx.ev L' d=some (.slice (some ⟨b,i,none⟩) m cd))(hx:Gx.ev L' s=some (.string (bs l)))(ht:tsl P dt=some (e,1,by'))
  (hnw:news=(l.take k).map λb=>Value.int .u8 (b.toNat:Int))(hp:Put As (.blk b bt tot cs) (.blk b bt tot (Qf cs i news)) As')(hk:min l.length m=k)(hr:i+k<=cs.length) :
  OpH P o L' (HS w0 [] As) (λ_:Unit=>.int .i64 (k:Int)) (λ_=>True) (λ_=>HS w0 [] As'):=by
 intro ρ w hρ hw;obtain⟨hu,inf,hi,hs1,hs2⟩:=Xd ht;have hl:news.length=k:=by rw[hnw,List.length_map,List.length_take];omega
 have hsz:(Go.sizeOf e).run P w=.ok 1 w:=by simp[Go.sizeOf,typeInfo,hi,hs1]
 have hfc:(Builtin.firstCells 1 k (.string (bs l))).run P w=.ok news.toArray w:=by
  have hx:(bs l).extract 0 k=bs (l.take k):=(Qmn _).trans (congrArg bs (by rw[Lib.extract_data];simp));simp only[Builtin.firstCells,hx,Sem.run_pure,hnw];congr 1;simp[bs]
 have hbl:(bs l).size=l.length:=rfl;have hk':Nat.min l.length m=k:=hk;obtain⟨Rs,h3,h4⟩:=hp.ex;have hpk:=hw.pick h3;obtain⟨w',hst,hb,r1,r2,r3,r4,r5⟩:=Ye (P:=P) news 0 cs w hpk.head (by simpa[hl]using hr) (λu hu=>by rw[hnw]at hu;obtain⟨b,_,rfl⟩:=List.mem_map.1 hu;rfl) (i:=i)
 have he:(Builtin.copy_ #[dt,st] o.type #[.slice (some ⟨b,i,none⟩) m cd,.string (bs l)]).run P w=.ok (.int .i64 (k:Int)) w':=by
  unfold Builtin.copy_;simp[run_underlying hu,Builtin.lenOf,hbl,hk',hsz,hfc,goInt,hst]
 simp only[execOp,ho,resolve,Sem.run_bind,Sem.run_pure,Result.andThen_ok,invoke,builtin,List.map_toArray,List.map_cons,List.map_nil,hρ _ _ hd,hρ _ _ hx,he];exact⟨(),rfl,trivial,(HS.swap hpk (B:=.blk b bt tot (Qf cs i news)) (λ_ h=>h) r1 r2 r3 r4 (λk hk=>r5 k (by simpa[HA.fp_blk]using hk)) (show QX b bt tot (Qf cs i news) w' by simpa using hb)).perm h4⟩
theorem Qst{dt st e by' p i k c:Nat}{d s:Operand}{q:Option Nat}{r:HB}{l:List UInt8}(ho:o.op=.call {callee:=.builtin .copy,args:=#[d,s],argTypes:=#[dt,st]})(hs:SR ρ L L')(hH:HM ρ H As)(hf:QQ ρ n)(hd:opd L d=some (.slice (some ⟨p,i,q⟩) k c))(hx:opd L s=some (.string (bs l)))(ht:tsl P dt=some (e,1,by'))
  (hg:Yc H p=some r)(hl:i+min l.length k<=r.cs.length):OpT P o L' (HS w0 [] As) (Out w0 ρ (.int .i64 ((min l.length k:Nat):Int)) (Yn H p {r with cs:=Qf r.cs i ((l.take (min l.length k)).map λb=>Value.int .u8 (b.toNat:Int))}) n):=by
 obtain⟨b,dd,us,Rs,g1,g2,g3,g4,g5,_⟩:=X8 hH hg;obtain⟨b9,d9,c',e1,e2⟩:=Qey hs hd;rw[g1]at e1;injection e1 with e1
 injection e1 with e1 e3
 subst e1 e3
 have hfl:Xb ((l.take (min l.length k)).map λb=>Value.int .u8 (b.toNat:Int))=true:=by
  unfold Xb;rw[List.all_map];exact List.all_eq_true.2 λ_ _=>rfl
 have hlu:=Q5 g2;obtain⟨As2,g6,g7⟩:=g5 {r with cs:=Qf r.cs i ((l.take (min l.length k)).map λb=>Value.int .u8 (b.toNat:Int))} _ (Yl i g2 (X7 hfl)) (by unfold QeL at *;simpa[Qi]using g3);have hS:=Qq2 (w0:=w0) (As:=As) (As':=.blk b r.ty (us.length+dd*r.sz) (Qf us i ((l.take (min l.length k)).map λb=>Value.int .u8 (b.toNat:Int)))::Rs) (min l.length k) ho e2 (Qj hs hx rfl) ht rfl ⟨Rs,g4,.refl _⟩ rfl (by rw[hlu];exact hl);refine⟨_,_,_,_,hS,λ_ _=>⟨ρ,As2,ρ.le_refl,hf,rfl,g6,λw hw=>?_⟩⟩;have:HS w0 [] (.blk b r.ty ((Qf us i ((l.take (min l.length k)).map λb=>Value.int .u8 (b.toNat:Int))).length+dd*r.sz) (Qf us i ((l.take (min l.length k)).map λb=>Value.int .u8 (b.toNat:Int)))::Rs) w:=by rw[Qi];exact hw
 exact this.perm g7
theorem QsA{t e sz by' p i k c:Nat}{x:Operand}{q:Option Nat}{r:HB}{z:List Value}(ho:o.op=.call {callee:=.builtin .clear,args:=#[x],argTypes:=#[t]})(hs:SR ρ L L')(hH:HM ρ H As)(hf:QQ ρ n)(hx:opd L x=some (.slice (some ⟨p,i,q⟩) k c))(ht:tsl P t=some (e,sz,by'))(hz:QM P e=some z)(hzs:z.length=sz)(hz1:z.all (·.oneCell')=true)(hz0:Nat.blt 0 z.length=true)(hfz:Xb (XA z (k*sz))=true)
  (hg:Yc H p=some r)(hl:i+k*sz<=r.cs.length):OpT P o L' (HS w0 [] As) (Out w0 ρ (.tuple #[]) (Yn H p {r with cs:=Qf r.cs i (XA z (k*sz))}) n):=by
 obtain⟨b,dd,us,Rs,g1,g2,g3,g4,g5,_⟩:=X8 hH hg;obtain⟨b9,d9,c',e1,e2⟩:=Qey hs hx;rw[g1]at e1;injection e1 with e1
 injection e1 with e1 e3
 subst e1 e3;have hlu:=Q5 g2;obtain⟨As2,g6,g7⟩:=g5 {r with cs:=Qf r.cs i (XA z (k*sz))} _ (Yl i g2 (X7 hfz)) (by unfold QeL at *;simpa[Qi]using g3);have hS:=QlI (w0:=w0) (M:=[]) (As:=As) (As':=.blk b r.ty (us.length+dd*r.sz) (Qf us i (XA z (k*sz)))::Rs) ho e2 ht hz hzs hz1 (by intro h;rw[h]at hz0;cases hz0) ⟨Rs,g4,.refl _⟩ (λ_=>rfl) (by rw[hlu];exact hl);refine⟨_,_,_,_,hS,λ_ _=>⟨ρ,As2,ρ.le_refl,hf,rfl,g6,λw hw=>?_⟩⟩;have:HS w0 [] (.blk b r.ty ((Qf us i (XA z (k*sz))).length+dd*r.sz) (Qf us i (XA z (k*sz)))::Rs) w:=by rw[Qi];exact hw
 exact this.perm g7
theorem Qul{t:TypeId}{x:Operand}{l:List UInt8}(ho:o.op=.call {callee:=.builtin .len,args:=#[x],argTypes:=#[t]})(hs:SR ρ L L')(hx:opd L x=some (.string ⟨⟨l⟩⟩))(h:Xc P t=true):∃u,OpP P o L' u/\den ρ (.int .i64 (l.length:Int))=some u:=
 ⟨_,Qn ho (Qj hs hx rfl) (Ys h),rfl⟩
theorem Qt3{t:TypeId}{x:Operand}{a:Option Addr}{k c:Nat}(ho:o.op=.call {callee:=.builtin .len,args:=#[x],argTypes:=#[t]})(hs:SR ρ L L')(hx:opd L x=some (.slice a k c))(h:Xj P t=true):∃u,OpP P o L' u/\den ρ (.int .i64 (k:Int))=some u:=by
 obtain⟨e,he⟩:=XX h;rcases a with _|⟨p,i,q⟩
 ·exact⟨_,Q0 ho (Qj hs hx rfl) he,rfl⟩
 ·obtain⟨b,d,c',h1,h2⟩:=Qey hs hx;exact⟨_,Q0 ho h2 he,rfl⟩
theorem Qt5{t:TypeId}{x:Operand}{p i q:Nat}(ho:o.op=.call {callee:=.builtin .len,args:=#[x],argTypes:=#[t]})(hs:SR ρ L L')(hx:opd L x=some (.pointer (some ⟨p,i,some q⟩)))(h:Xj P t=true):∃u,OpP P o L' u/\den ρ (.int .i64 0)=some u:=by
 obtain⟨e,he⟩:=XX h;obtain⟨b,d,j,h1,h2⟩:=Qgf hs hx;exact⟨_,Q0 ho h2 he,rfl⟩
theorem Qti{t:TypeId}{x:Operand}{k c:Nat}(ho:o.op=.call {callee:=.builtin .cap,args:=#[x],argTypes:=#[t]})(hs:SR ρ L L')(hx:opd L x=some (.slice none k c))(h:Xj P t=true):∃u,OpP P o L' u/\den ρ (.int .i64 (c:Int))=some u:=by
 obtain⟨e,he⟩:=XX h;exact⟨_,QqN ho (Qj hs hx rfl) he,rfl⟩
theorem QuN{x y:Operand}{k k':IntKind}{a b:Int}{ts:Array TypeId}(ho:o.op=.call {callee:=.builtin .min,args:=#[x,y],argTypes:=ts})(hs:SR ρ L L')(hx:opd L x=some (.int k a))(hy:opd L y=some (.int k' b))(hk:kEq k k'=true):∃u,OpP P o L' u/\den ρ (.int k (if b<a then b else a))=some u:=by
 obtain rfl:=Qcg hk;exact⟨_,QqU ho (Qj hs hx rfl) (Qj hs hy rfl),rfl⟩
theorem QtF{x y:Operand}{k k':IntKind}{a b:Int}{ts:Array TypeId}(ho:o.op=.call {callee:=.builtin .max,args:=#[x,y],argTypes:=ts})(hs:SR ρ L L')(hx:opd L x=some (.int k a))(hy:opd L y=some (.int k' b))(hk:kEq k k'=true):∃u,OpP P o L' u/\den ρ (.int k (if b>a then b else a))=some u:=by
 obtain rfl:=Qcg hk;exact⟨_,QpH ho (Qj hs hx rfl) (Qj hs hy rfl),rfl⟩
end
end Ev
namespace Ev
open Go Go.RowKit
inductive Ans where
 | p (v:Value)
 | q (v:Value)
 | h (v:Value) (H:Hp) (n:Nat)
def QdV:Option Value->Option Ans
 | some v=>some (.p v)
 | none=>none
abbrev Qb5:=FuncId->List Value->Hp->Nat->Option (Value×Hp×Nat)
abbrev Qpl:=Nat->List Value->Hp->Nat->Option (Value×Hp×Nat)
structure CallF where
 f:Qpl->Qb5
 e:FuncId->List Value->Option Value
 y:Qpl
noncomputable section
variable(P:Program)(L:Env)(H:Hp)(n:Nat)
def QgS(st f:Nat):Option Value->Option Value
 | some (.agg cs)=>match tfd P st f with
  | some (off,ft)=>match tsz P ft with
   | some (k,ag)=>if ag then some (.agg (cut cs.toList off k).toArray)else cs.toList[off]?
   | none=>none
  | none=>none
 | _=>none
def QfI(t:Nat):Option Value->Option Nat->Option Value
 | some (.string ⟨⟨l⟩⟩),some j=>bif Xc P t&&Nat.blt j l.length then some (.int .u8 ((l.getD j 0).toNat:Int))else none
 | some (.agg cs),some j=>match tar P t with
  | some (len,e,sz)=>match tsz P e with
   | some (k,ag)=>bif Nat.blt j len then(if ag then some (.agg (cut cs.toList (j*sz) k).toArray)else cs.toList[j*sz]?)else none
   | none=>none
  | none=>none
 | _,_=>none
def Qk3(t:Nat)(lo hi:Option Operand):Option Value->Option Value
 | some (.string ⟨⟨l⟩⟩)=>match loN L lo,hiN L l.length hi with
  | some a,some b=>bif Xc P t&&(Nat.ble a b&&Nat.ble b l.length)then some (.string (bs ((l.take b).drop a)))else none
  | _,_=>none
 | some (.slice (some ⟨m,off,none⟩) l c)=>match tsl P t,loN L lo,hiN L l hi with
  | some (_,sz,_),some i,some j=>bif Nat.ble i j&&(Nat.ble j c&&(Nat.beq i 0||Nat.blt i c))then some (.slice (some ⟨m,off+i*sz,none⟩) (j-i) (c-i))else(bif Nat.beq i c&&Nat.beq j c then some (.pointer (some ⟨m,off,some (c*sz)⟩))else none)
  | _,_,_=>none
 | some (.slice (some ⟨m,off,some q⟩) l c)=>match tsl P t,loN L lo,hiN L l hi with
  | some (_,sz,_),some i,some j=>bif Nat.ble i j&&Nat.ble j c then some (.slice (some ⟨m,(if c=i then off else off+i*sz),some q⟩) (j-i) (c-i))else none
  | _,_,_=>none
 | some (.slice none l c)=>match tsl P t,loN L lo,hiN L l hi with
  | some _,some i,some j=>bif Nat.ble i j&&Nat.ble j c then some (.slice none (j-i) (c-i))else none
  | _,_,_=>none
 | _=>none
def Qh6(t:Nat)(lo:Option Operand)(hi mx:Operand):Option Value->Option Value
 | some (.slice (some ⟨m,off,_⟩) _ c)=>match tsl P t,loN L lo,vN (opd L hi),vN (opd L mx)with
  | some (_,sz,_),some i,some j,some k=>bif Nat.ble i j&&(Nat.ble j k&&Nat.ble k c)then some (.slice (some ⟨m,(if k=i then off else off+i*sz),some 0⟩) (j-i) (k-i))else none
  | _,_,_,_=>none
 | some (.slice none _ c)=>match tsl P t,loN L lo,vN (opd L hi),vN (opd L mx)with
  | some _,some i,some j,some k=>bif Nat.ble i j&&(Nat.ble j k&&Nat.ble k c)then some (.slice none (j-i) (k-i))else none
  | _,_,_,_=>none
 | _=>none
def QbA(st f:Nat):Option Value->Option Value
 | some (.pointer (some ⟨m,i,none⟩))=>match tfd P st f with
  | some (off,ft)=>match tsz P ft with
   | some (sz,_)=>bif Nat.blt 0 sz then some (.pointer (some ⟨m,i+off,none⟩))else none
   | none=>none
  | none=>none
 | _=>none
def Qad(t:Nat):Option Value->Option Nat->Option Value
 | some (.slice (some ⟨m,off,_⟩) l _),some j=>match tsl P t with
  | some (_,sz,_)=>bif Nat.blt j l then some (.pointer (some ⟨m,off+j*sz,none⟩))else none
  | none=>none
 | some (.pointer (some ⟨m,i,none⟩)),some j=>match tar P t with
  | some (len,_,sz)=>bif Nat.blt j len then some (.pointer (some ⟨m,i+j*sz,none⟩))else none
  | none=>none
 | _,_=>none
def QkV(t:Nat)(parts:List (Nat×Operand)):Option Value:=match Qd7 L parts,QM P t with
 | some vs,some z=>bif Xb z then(match YH P t with
  | some pl=>match ZH (λi=>pl[i]?) z vs with
   | some cs=>some (.agg cs.toArray)
   | none=>none
  | none=>match tar P t with
   | some (_,_,sz)=>match ZH (λi=>some (i*sz,sz)) z vs with
    | some cs=>some (.agg cs.toArray)
    | none=>none
   | none=>none)else none
 | _,_=>none
def Qf9(t x:Nat):Option Value:=match L x with
 | some (.pointer (some ⟨m,i,none⟩))=>match Yc H m,tsz P t with
  | some r,some (sz,ag)=>if ag then(bif Nat.ble (i+sz) r.cs.length then some (.agg (cut r.cs i sz).toArray)else none)else(bif Nat.beq sz 1 then r.cs[i]? else none)
  | _,_=>none
 | _=>none
def Qih(t x:Nat)(y:Operand):Option Ans:=match L x,opd L y,tsz P t with
 | some (.pointer (some ⟨m,i,none⟩)),some v,some (sz,_)=>match Yc H m with
  | some r=>bif ZW v&&(Nat.beq v.cells.toList.length sz&&Nat.ble (i+sz) r.cs.length)then some (.h undef (Yn H m {r with cs:=Qf r.cs i v.cells.toList}) n)else none
  | none=>none
 | _,_,_=>none
def QbO(t:Nat):Bool:=match P.underlying t with|some (.int .u8)=>true|_=>false
def QfQ(src dst:Nat):Option Value->Option Ans
 | some (.string ⟨⟨l⟩⟩)=>match P.underlying dst with
  | some (.slice e)=>bif Xc P src&&(QbO P e&&(Nat.beq e u8T&&Nat.ble l.length maxLen))then some (.h (.slice (some ⟨n,0,none⟩) l.length l.length) (Yn H n ⟨e,1,l.map λb=>.int .u8 (b.toNat:Int)⟩) (n+1))else none
  | _=>none
 | some (.slice none k c)=>match P.underlying src with
  | some (.slice e)=>bif Xc P dst&&(QbO P e&&Nat.beq k 0)then some (.q (.string (bs [])))else none
  | _=>none
 | some (.slice (some ⟨p,i,q⟩) k c)=>match P.underlying src,Yc H p with
  | some (.slice e),some r=>bif Xc P dst&&(QbO P e&&(Nat.ble (i+k) r.cs.length&&((cut r.cs i k).all Qh4&&Xb (cut r.cs i k))))then some (.q (.string (bs ((cut r.cs i k).map vByte))))else(match q with
   | none=>bif Nat.beq src dst&&(QbO P e&&Nat.beq r.ty u8T)then some (.h (.slice (some ⟨p,i,none⟩) k c) H n)else none
   | _=>none)
  | _,_=>none
 | some (.pointer (some ⟨_,_,some _⟩))=>match P.underlying src with
  | some (.slice e)=>bif Xc P dst&&QbO P e then some (.q (.string (bs [])))else none
  | _=>none
 | _=>none
def Qu4(t:Nat):Option Ans:=match QM P t with
 | some z=>bif Xb z then some (.h (.pointer (some ⟨n,0,none⟩)) (Yn H n ⟨t,0,z⟩) (n+1))else none
 | none=>none
def QuP(t:Nat):Option Value->Option Ans
 | some v=>bif ZW v then some (.h (.pointer (some ⟨n,0,none⟩)) (Yn H n ⟨t,0,v.cells.toList⟩) (n+1))else none
 | none=>none
def Qp8(z:List Value)(k:Nat):List Value:=(List.range k).map λi=>z.getD (i%z.length) default
def ZD(t len:Nat)(parts:List (Nat×Operand)):Option Ans:=match Qd7 L parts,tsl P t with
 | some vs,some (e,sz,_)=>match QM P e with
  | some z=>match ZH (λi=>some (i*sz,sz)) (Qp8 z (len*sz)) vs with
   | some cs=>bif Xb z&&(Nat.ble (len*sz) 16777216&&(Nat.blt 0 (len*sz)&&Xb (Qp8 z (len*sz))))then some (.h (.slice (some ⟨n,0,none⟩) len len) (Yn H n ⟨e,sz,cs⟩) (n+1))else none
   | none=>none
  | none=>none
 | _,_=>none
def QbE(t:Nat)(x y:Operand):Option Ans:=match opd L x,opd L y,tsl P t with
 | some (.int .i64 (.ofNat k)),some (.int .i64 (.ofNat k')),some (e,sz,by')=>match QM P e with
  | some z=>bif Nat.ble k k'&&(Nat.ble (k'*by') 281474976710656&&(Nat.ble k' 16777216&&Xb (XA z (k'*sz))))then some (.h (.slice (some ⟨n,0,none⟩) k k') (Yn H n ⟨e,sz,XA z (k'*sz)⟩) (n+1))else none
  | none=>none
 | _,_,_=>none
def Qiy(t xt:Nat)(s y:Operand):Option Ans:=match opd L s,opd L y,tsl P t with
 | some (.slice a k c),some vy,some (e,sz,by')=>match vy with
  | .int .i64 (.ofNat m)=>match a,QM P e with
   | none,some z=>bif (Nat.beq k 0&&(Nat.beq c 0&&(Nat.beq z.length sz&&(Nat.blt 0 sz&&Xb (XA z (m*sz))))))&&((match tki P xt with|some .i64=>true|_=>false)&&(Nat.ble ((0+m)*by') 140737488355328&&(Nat.ble (0+m) maxLen&&Nat.blt 0 m)))then some (.h (.slice (some ⟨n,0,none⟩) (0+m) (0+m)) (Yn H n ⟨e,sz,[]++XA z (m*sz)⟩) (n+1))else none
   | _,_=>none
  | _=>match Qld P H xt sz vy with
   | some (m,cs)=>match a with
    | none=>bif Nat.beq k 0&&Nat.beq c 0 then(bif Nat.beq m 0 then some (.h (.slice none 0 0) H n)else match QM P e with
     | some z=>bif Nat.beq z.length sz&&(Nat.ble ((0+m)*by') 140737488355328&&(Nat.ble (0+m) maxLen&&Nat.blt 0 (0+m)))then some (.h (.slice (some ⟨n,0,none⟩) (0+m) (0+m)) (Yn H n ⟨e,sz,[]++cs⟩) (n+1))else none
     | none=>none)else none
    | some ⟨p,off,q⟩=>bif Nat.beq off 0 then(match Yc H p with
     | some r=>bif Nat.ble (k+m) c then(bif Nat.ble (k*sz+cs.length) r.cs.length then some (.h (.slice (some ⟨p,0,q⟩) (k+m) c) (Yn H p {r with cs:=Qf r.cs (k*sz) cs}) n)else none)
      else(match q,QM P e with
       | none,some z=>bif (Nat.beq z.length sz&&(Nat.beq r.ty e&&(Nat.beq r.sz sz&&(Nat.beq r.cs.length (c*sz)&&Nat.blt 0 sz))))&&((Nat.ble k c&&Nat.ble c maxLen)&&(Nat.ble ((k+m)*by') 140737488355328&&(Nat.ble (k+m) maxLen&&Nat.blt 0 (k+m))))then some (.h (.slice (some ⟨n,0,none⟩) (k+m) (k+m)) (Yn (QfF H p) n ⟨e,sz,r.cs.take (k*sz)++cs⟩) (n+1))else none
       | _,_=>none)
     | none=>none)else none
   | none=>none
 | _,_,_=>none
def Qp0(dt:Nat)(d s:Operand):Option Ans:=match opd L d,opd L s,tsl P dt with
 | some (.slice (some ⟨p,i,_⟩) k _),some (.slice (some ⟨p2,i2,_⟩) k2 _),some (_,sz,_)=>match Yc H p,Yc H p2 with
  | some r,some r2=>bif Nat.ble (i+min k2 k*sz) r.cs.length&&Nat.ble (i2+min k2 k*sz) r2.cs.length then some (.h (.int .i64 ((min k2 k:Nat):Int)) (Yn H p {r with cs:=Qf r.cs i (cut r2.cs i2 (min k2 k*sz))}) n)else none
  | _,_=>none
 | some (.slice (some ⟨p,i,_⟩) k _),some (.string ⟨⟨l⟩⟩),some (_,sz,_)=>match Yc H p with
  | some r=>bif Nat.beq sz 1&&Nat.ble (i+min l.length k) r.cs.length then some (.h (.int .i64 ((min l.length k:Nat):Int)) (Yn H p {r with cs:=Qf r.cs i ((l.take (min l.length k)).map λb=>Value.int .u8 (b.toNat:Int))}) n)else none
  | none=>none
 | _,_,_=>none
def Qk5(t:Nat)(x:Operand):Option Ans:=match opd L x,tsl P t with
 | some (.slice (some ⟨p,i,_⟩) k _),some (e,sz,_)=>match Yc H p,QM P e with
  | some r,some z=>bif Nat.beq z.length sz&&(z.all (·.oneCell')&&(Nat.blt 0 z.length&&(Xb (XA z (k*sz))&&Nat.ble (i+k*sz) r.cs.length)))then some (.h (.tuple #[]) (Yn H p {r with cs:=Qf r.cs i (XA z (k*sz))}) n)else none
  | _,_=>none
 | _,_=>none
def QdY(b:Builtin)(args:List Operand)(ts:List TypeId):Option Ans:=match b,args,ts with
 | .len,[x],[t]=>match opd L x with
  | some (.string ⟨⟨l⟩⟩)=>bif Xc P t then some (.p (.int .i64 (l.length:Int)))else none
  | some (.slice _ k _)=>bif Xj P t then some (.p (.int .i64 (k:Int)))else none
  | some (.pointer (some ⟨_,_,some _⟩))=>bif Xj P t then some (.p (.int .i64 0))else none
  | _=>none
 | .cap,[x],[t]=>match opd L x with
  | some (.slice none _ c)=>bif Xj P t then some (.p (.int .i64 (c:Int)))else none
  | _=>none
 | .min,[x,y],_=>match opd L x,opd L y with
  | some (.int k a),some (.int k' b)=>bif kEq k k' then some (.p (.int k (if b<a then b else a)))else none
  | _,_=>none
 | .max,[x,y],_=>match opd L x,opd L y with
  | some (.int k a),some (.int k' b)=>bif kEq k k' then some (.p (.int k (if b>a then b else a)))else none
  | _,_=>none
 | .append,[s,y],[t,xt]=>Qiy P L H n t xt s y
 | .copy,[d,s],[dt,_]=>Qp0 P L H n dt d s
 | .clear,[x],[t]=>Qk5 P L H n t x
 | _,_,_=>none
def QeV(F:CallF)(f:Option Value)(vs:Option (List Value)):Option Ans:=match f,vs with
 | some (.func (.func g) first cap),some vs=>bif QJ P g then(match F.f F.y g (first.toList++vs++cap.toList) H n with
  | some (v,H',n')=>some (.h v H' n')
  | none=>none)else none
 | some (.func (.yield k) ⟨[]⟩ ⟨[]⟩),some vs=>match F.y k vs H n with
  | some (v,H',n')=>some (.h v H' n')
  | none=>none
 | _,_=>none
def QaG(t:Nat):Option Value->Option Value->Option Ans
 | some (.map (some r)),some (.int .i64 a)=>match P.underlying t,QgQ H r with
  | some (.map kt et),some ks=>match tzv P et,tki P kt with
   | some (.bool false),some .i64=>some (.q (.bool (QhL a ks)))
   | _,_=>none
  | _,_=>none
 | _,_=>none
def QdC(t:Nat):Option Value->Option Value->Option Value->Option Ans
 | some (.map (some r)),some (.int .i64 a),some (.bool true)=>match P.underlying t,QgQ H r with
  | some (.map kt et),some ks=>match tki P kt with
   | some .i64=>some (.h (.tuple #[]) (YQ H r (.mp (bif QhL a ks then ks else ks++[a]))) n)
   | _=>none
  | _,_=>none
 | _,_,_=>none
def Xq(F:CallF):Op->Option Ans
 | .move x=>QdV (opd L x)
 | .assign x=>QdV (opd L x)
 | .pick c a b=>match opd L c,opd L a,opd L b with
  | some (.bool t),some x,some y=>some (.p (if t then x else y))
  | _,_,_=>none
 | .binOp op t x y _=>match opd L x,opd L y with
  | some a,some b=>QdV (ZQ P op t a b)
  | _,_=>none
 | .unOp op _ x=>match opd L x with
  | some a=>QdV (QeO op a)
  | none=>none
 | .convert src dst x=>match opd L x with
  | some a=>match QbU P src dst a with
   | some v=>some (.p v)
   | none=>QfQ P H n src dst (some a)
  | none=>none
 | .extract x i=>match opd L x with
  | some (.tuple vs)=>QdV (vs.toList[i]?)
  | _=>none
 | .makeFunc (.func f) first cap=>match Qds L first.toList,Qds L cap.toList with
  | some a,some b=>bif a.all Qkt&&b.all Qkt then some (.p (.func (.func f) a.toArray b.toArray))else none
  | _,_=>none
 | .nilCheck x=>match opd L x with
  | some (.pointer (some ⟨m,i,none⟩))=>some (.p (.pointer (some ⟨m,i,none⟩)))
  | some (.func (.func f) a b)=>some (.p (.func (.func f) a b))
  | _=>none
 | .field st x f=>QdV (QgS P st f (opd L x))
 | .index t x y=>QdV (QfI P t (opd L x) (vN (opd L y)))
 | .slice t x lo hi none=>QdV (Qk3 P L t lo hi (opd L x))
 | .slice t x lo (some hi) (some mx)=>QdV (Qh6 P L t lo hi mx (opd L x))
 | .fieldAddr st x f=>QdV (QbA P st f (opd L x))
 | .indexAddr t x y=>QdV (Qad P t (opd L x) (vN (opd L y)))
 | .build t parts=>QdV (QkV P L t parts.toList)
 | .load t (.tmp x)=>match Qf9 P L H t x with
  | some v=>some (.q v)
  | none=>none
 | .store t (.tmp x) y=>Qih P L H n t x y
 | .alloc t=>Qu4 P H n t
 | .box t x=>QuP H n t (opd L x)
 | .buildSlice t 0 ⟨[]⟩=>match tsl P t with
  | some (e,sz,_)=>some (.h (.slice (some ⟨n,0,none⟩) 0 0) (Yn H n ⟨e,sz,[]⟩) (n+1))
  | none=>none
 | .buildSlice t len parts=>ZD P L H n t len parts.toList
 | .makeSlice t x y=>QbE P L H n t x y
 | .call ⟨.builtin b,args,ts⟩=>QdY P L H n b args.toList ts.toList
 | .call ⟨.value (.func g),args,_⟩=>match Qds L args.toList with
  | some vs=>match F.e g vs with
   | some v=>some (.q v)
   | none=>QeV P H n F (some (.func (.func g) #[] #[])) (some vs)
  | none=>none
 | .call ⟨.value f,args,_⟩=>QeV P H n F (opd L f) (Qds L args.toList)
 | .makeMap t none=>some (.h (.map (some n)) (YQ H n (.mp [])) (n+1))
 | .lookup t m x false=>QaG P H t (opd L m) (opd L x)
 | .mapUpdate t m x y=>QdC P H n t (opd L m) (opd L x) (opd L y)
 | _=>none
end
end Ev
namespace Ev
open Go Go.RowKit
theorem bif_some{α:Type}{c:Bool}{x a:α}(h:(bif c then some x else none)=some a):c=true/\x=a:=by grind
theorem bif_in{α:Type}{c:Bool}{x:Option α}{a:α}(h:(bif c then x else none)=some a):c=true/\x=some a:=by grind
theorem Qeh{α:Type}{a:Array α}{x:α}(h:a.toList=[x]):a= #[x]:=by grind
theorem Qee{α:Type}{a:Array α}{x y:α}(h:a.toList=[x,y]):a= #[x,y]:=by grind
def QlN(w0:World)(ρ:Rho)(v:Value)(H':Hp)(n':Nat)(e:Ending)(w':World):Prop:=
 ∃ρ' As' u,ρ.le ρ'/\QQ ρ' n'/\den ρ' v=some u/\HM ρ' H' As'/\e=.returned u/\HS w0 [] As' w'
def QdE(P:Program)(r0:Rho)(F:Qb5):Prop:=∀f vs H n v H' n',F f vs H n=some (v,H',n')->∀(w0:World)(ρ:Rho)(us:List Value)(As:List HA),r0.le ρ->Qx (den ρ) vs=some us->HM ρ H As->QQ ρ n->∀w,HS w0 [] As w->Calls P f us.toArray w (QlN w0 ρ v H' n')
def Qg5(P:Program)(E:FuncId->List Value->Option Value):Prop:=∀f vs v,E f vs=some v->∀(w0:World)(ρ:Rho)(us:List Value)(As:List HA),Qx (den ρ) vs=some us->∀(o:Oper)(L':Qc)(args:Array Operand)(ts:Array TypeId),o.op=.call {callee:=.value (.func f),args:=args,argTypes:=ts}->evs L' args.toList=some us->∃u,den ρ v=some u/\OpQ P o L' (HS w0 [] As) u
def YOk(P:Program)(r0:Rho)(Y:Qpl):Prop:=∀k vs H n v H' n',Y k vs H n=some (v,H',n')->∀(w0:World)(ρ:Rho)(us:List Value)(As:List HA),r0.le ρ->Qx (den ρ) vs=some us->HM ρ H As->QQ ρ n->∃x,ρ k=some x/\∀w,HS w0 [] As w->Zu P x.1 us.toArray w (QlN w0 ρ v H' n')
structure CallOk(P:Program)(r0:Rho)(F:CallF):Prop where
 f:∀r1 Y,YOk P r1 Y->QdE P r1 (F.f Y)
 e:Qg5 P F.e
 y:YOk P r0 F.y
def QaF(P:Program)(o:Oper)(L':Qc)(w0:World)(ρ:Rho)(H:Hp)(n:Nat)(As:List HA):Ans->Prop
 | .p v=>∃u,OpP P o L' u/\den ρ v=some u
 | .q v=>∃u,OpQ P o L' (HS w0 [] As) u/\den ρ v=some u
 | .h v H' n'=>OpT P o L' (HS w0 [] As) (Out w0 ρ v H' n')
section
variable{P:Program}{o:Oper}{L':Qc}{w0:World}{ρ:Rho}{L:Env}{H:Hp}{n:Nat}{As:List HA}{F:CallF}{a:Ans}
theorem Qe4{x:Option Value}(h:QdV x=some a)(hx:∀v,x=some v->∃u,OpP P o L' u/\den ρ v=some u):QaF P o L' w0 ρ H n As a:=by
 cases x with
 | none=>cases h
 | some v=>
  injection h with h
  subst h;exact hx v rfl
theorem Qno{st f:Nat}{x:Operand}{v:Value}(ho:o.op=.field st x f)(hs:SR ρ L L')(h:QgS P st f (opd L x)=some v):∃u,OpP P o L' u/\den ρ v=some u:=by
 unfold QgS at h
 grind[Qr8]
theorem Qnc{t:Nat}{x y:Operand}{v:Value}(ho:o.op=.index t x y)(hs:SR ρ L L')(h:QfI P t (opd L x) (vN (opd L y))=some v):∃u,OpP P o L' u/\den ρ v=some u:=by
 unfold QfI at h;split at h
 ·rename_i l j hx hy;obtain⟨hc,rfl⟩:=bif_some h;simp only[Bool.and_eq_true]at hc;exact QoX ho hs hx hy hc.1 (by simpa[Nat.blt_eq]using hc.2)
 ·rename_i cs j hx hy;split at h
  ·rename_i len e sz h1;split at h
   ·rename_i k ag h2;obtain⟨hc,h3⟩:=bif_in h;exact Qr0 ho hs hx hy h1 h2 (by simpa[Nat.blt_eq]using hc) h3
   ·cases h
  ·cases h
 ·cases h
theorem Qm2{t:Nat}{x:Operand}{lo hi:Option Operand}{v:Value}(ho:o.op=.slice t x lo hi none)(hs:SR ρ L L')(h:Qk3 P L t lo hi (opd L x)=some v):∃u,OpP P o L' u/\den ρ v=some u:=by
 unfold Qk3 at h;split at h
 ·rename_i l hx;split at h
  ·rename_i i j h1 h2;obtain⟨hc,rfl⟩:=bif_some h;simp only[Bool.and_eq_true]at hc;exact Qpd ho hs hx hc.1 h1 h2 (Nat.le_of_ble_eq_true hc.2.1) (Nat.le_of_ble_eq_true hc.2.2)
  ·cases h
 ·rename_i m off l c hx;split at h
  ·rename_i e sz by' i j h1 h2 h3;cases hb:Nat.ble i j&&(Nat.ble j c&&(Nat.beq i 0||Nat.blt i c))with
   | true=>
    rw[hb]at h;injection h with h
    subst h;simp only[Bool.and_eq_true,Bool.or_eq_true]at hb;exact QrA ho hs hx h1 h2 h3 (Nat.le_of_ble_eq_true hb.1) (Nat.le_of_ble_eq_true hb.2.1) (hb.2.2.imp Nat.eq_of_beq_eq_true (λh=>by simpa[Nat.blt_eq]using h))
   | false=>
    rw[hb]at h;obtain⟨hc,rfl⟩:=bif_some h;simp only[Bool.and_eq_true]at hc;have e1:=Nat.eq_of_beq_eq_true hc.1;have e2:=Nat.eq_of_beq_eq_true hc.2
    grind[Qn3]
  ·cases h
 ·rename_i m off q l c hx;split at h
  ·rename_i e sz by' i j h1 h2 h3;obtain⟨hc,rfl⟩:=bif_some h;simp only[Bool.and_eq_true]at hc;exact QpP ho hs hx h1 h2 h3 (Nat.le_of_ble_eq_true hc.1) (Nat.le_of_ble_eq_true hc.2)
  ·cases h
 ·rename_i l c hx;split at h
  ·rename_i y i j h1 h2 h3;obtain⟨e,sz,by'⟩:=y;obtain⟨hc,rfl⟩:=bif_some h;simp only[Bool.and_eq_true]at hc;exact QqB ho hs hx h1 h2 h3 (Nat.le_of_ble_eq_true hc.1) (Nat.le_of_ble_eq_true hc.2)
  ·cases h
 ·cases h
theorem QkR{t:Nat}{x hi mx:Operand}{lo:Option Operand}{v:Value}(ho:o.op=.slice t x lo (some hi) (some mx))(hs:SR ρ L L')(h:Qh6 P L t lo hi mx (opd L x)=some v):∃u,OpP P o L' u/\den ρ v=some u:=by
 unfold Qh6 at h;split at h
 ·rename_i m off q l c hx;split at h
  ·rename_i e sz by' i j k h1 h2 h3 h4;obtain⟨hc,rfl⟩:=bif_some h;simp only[Bool.and_eq_true]at hc;exact QnV ho hs hx h1 h2 h3 h4 (Nat.le_of_ble_eq_true hc.1) (Nat.le_of_ble_eq_true hc.2.1) (Nat.le_of_ble_eq_true hc.2.2)
  ·cases h
 ·rename_i l c hx;split at h
  ·rename_i y i j k h1 h2 h3 h4;obtain⟨e,sz,by'⟩:=y;obtain⟨hc,rfl⟩:=bif_some h;simp only[Bool.and_eq_true]at hc;exact Qm8 ho hs hx h1 h2 h3 h4 (Nat.le_of_ble_eq_true hc.1) (Nat.le_of_ble_eq_true hc.2.1) (Nat.le_of_ble_eq_true hc.2.2)
  ·cases h
 ·cases h
theorem QgU{st f:Nat}{x:Operand}{v:Value}(ho:o.op=.fieldAddr st x f)(hs:SR ρ L L')(h:QbA P st f (opd L x)=some v):∃u,OpP P o L' u/\den ρ v=some u:=by
 unfold QbA at h;split at h
 ·rename_i m i hx;split at h
  ·rename_i off ft h1;split at h
   ·rename_i sz ag h2;obtain⟨hc,rfl⟩:=bif_some h
    grind[QjS]
   ·cases h
  ·cases h
 ·cases h
theorem QgX{t:Nat}{x y:Operand}{v:Value}(ho:o.op=.indexAddr t x y)(hs:SR ρ L L')(h:Qad P t (opd L x) (vN (opd L y))=some v):∃u,OpP P o L' u/\den ρ v=some u:=by
 unfold Qad at h;split at h
 ·rename_i m off q l c j hx hy;split at h
  ·rename_i e sz by' h1;obtain⟨hc,rfl⟩:=bif_some h;cases q with
   | none=>exact Qjg ho hs hx hy h1 (by simpa[Nat.blt_eq]using hc)
   | some q=>exact Qh2 ho hs hx hy h1 (by simpa[Nat.blt_eq]using hc)
  ·cases h
 ·rename_i m i j hx hy;split at h
  ·rename_i len e sz h1;obtain⟨hc,rfl⟩:=bif_some h;exact Qin ho hs hx hy h1 (by simpa[Nat.blt_eq]using hc)
  ·cases h
 ·cases h
theorem Qnn{t:Nat}{parts:Array (Nat×Operand)}{v:Value}(ho:o.op=.build t parts)(hs:SR ρ L L')(h:QkV P L t parts.toList=some v):∃u,OpP P o L' u/\den ρ v=some u:=by
 unfold QkV at h;split at h
 ·rename_i vs z h1 h2;obtain⟨hc,h⟩:=bif_in h
  grind[Qr6,QnW]
 ·cases h
theorem QpE{t x:Nat}{v:Value}(ho:o.op=.load t (.tmp x))(hs:SR ρ L L')(hH:HM ρ H As)(h:Qf9 P L H t x=some v):∃u,OpQ P o L' (HS w0 [] As) u/\den ρ v=some u:=by
 unfold Qf9 at h;split at h
 ·rename_i m i hx;split at h
  ·rename_i r sz ag h1 h2;exact Qvc ho hs hH hx h1 h2 h
  ·cases h
 ·cases h
theorem QmJ{t x:Nat}{y:Operand}(ho:o.op=.store t (.tmp x) y)(hs:SR ρ L L')(hH:HM ρ H As)(hf:QQ ρ n)(h:Qih P L H n t x y=some a):QaF P o L' w0 ρ H n As a:=by
 unfold Qih at h;split at h
 ·rename_i m i v sz ag hx hy hz;split at h
  ·rename_i r hg;obtain⟨hc,rfl⟩:=bif_some h;simp only[Bool.and_eq_true]at hc;exact Qrl ho hs hH hf hx hy hc.1 hg hz (Nat.eq_of_beq_eq_true hc.2.1) (Nat.le_of_ble_eq_true hc.2.2)
  ·cases h
 ·cases h
theorem Qcq{t:Nat}(h:QbO P t=true):P.underlying t=some (.int .u8):=by grind[QbO]
theorem Qqq{src dst:Nat}{x:Operand}{v:Value}(ho:o.op=.convert src dst x)(hs:SR ρ L L')(hH:HM ρ H As)(hf:QQ ρ n)(hx:opd L x=some v)(h:QfQ P H n src dst (some v)=some a):QaF P o L' w0 ρ H n As a:=by
 unfold QfQ at h;split at h
 ·rename_i l hv;injection hv with hv
  subst hv;split at h
  ·rename_i e h1;obtain⟨hc,rfl⟩:=bif_some h;simp only[Bool.and_eq_true]at hc;exact Qrg ho hs hx (Ys hc.1) h1 (Qcq hc.2.1) (Nat.eq_of_beq_eq_true hc.2.2.1) (Nat.le_of_ble_eq_true hc.2.2.2) hH hf
  ·cases h
 ·rename_i k c hv;injection hv with hv
  subst hv;split at h
  ·rename_i e h1;obtain⟨hc,rfl⟩:=bif_some h;simp only[Bool.and_eq_true]at hc;have hk:=Nat.eq_of_beq_eq_true hc.2.2;subst hk;exact QnC (k:=0) ho hs hx h1 hc.1 (Qcq hc.2.1)
  ·cases h
 ·rename_i p i q k c hv;injection hv with hv
  subst hv;split at h
  ·rename_i e r h1 h2;cases hb:Xc P dst&&(QbO P e&&(Nat.ble (i+k) r.cs.length&&((cut r.cs i k).all Qh4&&Xb (cut r.cs i k))))with
   | true=>
    rw[hb]at h;injection h with h
    subst h;simp only[Bool.and_eq_true]at hb;exact Qnx ho hs hH hx h1 hb.1 (Qcq hb.2.1) h2 (Nat.le_of_ble_eq_true hb.2.2.1) hb.2.2.2.1 hb.2.2.2.2
   | false=>
    rw[hb]at h;simp only[cond_false]at h;split at h
    ·obtain⟨hc,rfl⟩:=bif_some h;simp only[Bool.and_eq_true]at hc;have e1:=Nat.eq_of_beq_eq_true hc.1;subst e1;exact Qsd ho hs hH hf hx h1 (Qcq hc.2.1) h2 (Nat.eq_of_beq_eq_true hc.2.2)
    ·cases h
  ·cases h
 ·rename_i p i q hv;injection hv with hv
  subst hv;split at h
  ·rename_i e h1;obtain⟨hc,rfl⟩:=bif_some h;simp only[Bool.and_eq_true]at hc;exact Qnz ho hs hx h1 hc.1 (Qcq hc.2)
  ·cases h
 ·cases h
theorem QfO{t len:Nat}{parts:Array (Nat×Operand)}(ho:o.op=.buildSlice t len parts)(hs:SR ρ L L')(hH:HM ρ H As)(hf:QQ ρ n)(h:ZD P L H n t len parts.toList=some a):QaF P o L' w0 ρ H n As a:=by
 unfold ZD at h;split at h
 ·rename_i vs e sz by' h1 h2;split at h
  ·rename_i z h3;split at h
   ·rename_i cs h4;obtain⟨hc,rfl⟩:=bif_some h;simp only[Bool.and_eq_true]at hc;exact QiB ho hs h1 h2 h3 hc.1 hc.2.1 hc.2.2.1 h4 hc.2.2.2 hH hf
   ·cases h
  ·cases h
 ·cases h
theorem Qg1{t:Nat}{x y:Operand}(ho:o.op=.makeSlice t x y)(hs:SR ρ L L')(hH:HM ρ H As)(hf:QQ ρ n)(h:QbE P L H n t x y=some a):QaF P o L' w0 ρ H n As a:=by
 unfold QbE at h;split at h
 ·rename_i k k' e sz by' hx hy ht;split at h
  ·rename_i z hz;obtain⟨hc,rfl⟩:=bif_some h;simp only[Bool.and_eq_true]at hc;exact QiZ ho hs hx hy (Nat.le_of_ble_eq_true hc.1) ht hz (Nat.le_of_ble_eq_true hc.2.1) (Nat.le_of_ble_eq_true hc.2.2.1) hc.2.2.2 hH hf
  ·cases h
 ·cases h
theorem Qli{t xt:Nat}{s y:Operand}(ho:o.op=.call {callee:=.builtin .append,args:=#[s,y],argTypes:=#[t,xt]})(hs:SR ρ L L')(hH:HM ρ H As)(hf:QQ ρ n)(h:Qiy P L H n t xt s y=some a):QaF P o L' w0 ρ H n As a:=by
 unfold Qiy at h;split at h
 ·rename_i a0 k c vy e sz by' hx hy ht;split at h
  ·rename_i m;split at h
   ·rename_i z hz;obtain⟨hc,rfl⟩:=bif_some h;simp only[Bool.and_eq_true]at hc;obtain⟨⟨c1,c2,c3,c4,c5⟩,c6,c7,c8,c9⟩:=hc;have hk:=Nat.eq_of_beq_eq_true c1;have hc0:=Nat.eq_of_beq_eq_true c2;subst hk hc0;refine QnL ho hs hH hf hx hy ?_ ht hz (Nat.eq_of_beq_eq_true c3) (by simpa[Nat.blt_eq]using c4) c5 (Nat.le_of_ble_eq_true c7) (Nat.le_of_ble_eq_true c8) (by simpa[Nat.blt_eq]using c9)
    grind
   ·cases h
  ·split at h
   ·rename_i m cs hsrc;split at h
    ·obtain⟨hc,h⟩:=bif_in h;simp only[Bool.and_eq_true]at hc;have hk:=Nat.eq_of_beq_eq_true hc.1;have hc0:=Nat.eq_of_beq_eq_true hc.2;subst hk hc0;cases hm:Nat.beq m 0 with
     | true=>
      rw[hm]at h;have hm:=Nat.eq_of_beq_eq_true hm;subst hm;injection h with h
      subst h;exact QnD ho hs hH hf hx hy ht hsrc
     | false=>
      rw[hm]at h;simp only[cond_false]at h;split at h
      ·rename_i z hz;obtain⟨hc,rfl⟩:=bif_some h;simp only[Bool.and_eq_true]at hc;exact Qns ho hs hH hf hx hy ht hz (Nat.eq_of_beq_eq_true hc.1) hsrc (Nat.le_of_ble_eq_true hc.2.1) (Nat.le_of_ble_eq_true hc.2.2.1) (by simpa[Nat.blt_eq]using hc.2.2.2)
      ·cases h
    ·rename_i p off q;obtain⟨hc,h⟩:=bif_in h;have ho0:=Nat.eq_of_beq_eq_true hc;subst ho0;split at h
     ·rename_i r hg;cases hfit:Nat.ble (k+m) c with
      | true=>
       rw[hfit]at h;obtain⟨hc,rfl⟩:=bif_some h;exact Qnw ho hs hH hf hx hy ht hsrc hg (Nat.le_of_ble_eq_true hfit) (Nat.le_of_ble_eq_true hc)
      | false=>
       rw[hfit]at h;simp only[cond_false]at h;split at h
       ·rename_i z hz _;obtain⟨hc,rfl⟩:=bif_some h;simp only[Bool.and_eq_true]at hc;obtain⟨⟨c1,c2,c3,c4,c5⟩,⟨c6,c7⟩,c8,c9,c10⟩:=hc;exact QmY ho hs hH hf hx hy ht hz (Nat.eq_of_beq_eq_true c1) hsrc hg (Nat.eq_of_beq_eq_true c2) (Nat.eq_of_beq_eq_true c3) (Nat.eq_of_beq_eq_true c4) (by simpa[Nat.blt_eq]using c5) (Nat.le_of_ble_eq_true c6) (Nat.le_of_ble_eq_true c7) (Nat.le_of_ble_eq_true c8) (Nat.le_of_ble_eq_true c9) (by simpa[Nat.blt_eq]using c10)
       ·cases h
     ·cases h
   ·cases h
 ·cases h
theorem Qog{dt st:Nat}{d s:Operand}(ho:o.op=.call {callee:=.builtin .copy,args:=#[d,s],argTypes:=#[dt,st]})(hs:SR ρ L L')(hH:HM ρ H As)(hf:QQ ρ n)(h:Qp0 P L H n dt d s=some a):QaF P o L' w0 ρ H n As a:=by
 unfold Qp0 at h;split at h
 ·rename_i p i q k c p2 i2 q2 k2 c2 e sz by' hd hx ht;split at h
  ·rename_i r r2 hg hg2;obtain⟨hc,rfl⟩:=bif_some h;simp only[Bool.and_eq_true]at hc;exact Qtu ho hs hH hf hd hx ht hg hg2 (Nat.le_of_ble_eq_true hc.1) (Nat.le_of_ble_eq_true hc.2)
  ·cases h
 ·rename_i p i q k c l e sz by' hd hx ht;split at h
  ·rename_i r hg;obtain⟨hc,rfl⟩:=bif_some h;simp only[Bool.and_eq_true]at hc;have h1:=Nat.eq_of_beq_eq_true hc.1;subst h1;exact Qst ho hs hH hf hd hx ht hg (Nat.le_of_ble_eq_true hc.2)
  ·cases h
 ·cases h
theorem Qm7{t:Nat}{x:Operand}(ho:o.op=.call {callee:=.builtin .clear,args:=#[x],argTypes:=#[t]})(hs:SR ρ L L')(hH:HM ρ H As)(hf:QQ ρ n)(h:Qk5 P L H n t x=some a):QaF P o L' w0 ρ H n As a:=by
 unfold Qk5 at h;split at h
 ·rename_i p i q k c e sz by' hx ht;split at h
  ·rename_i r z hg hz;obtain⟨hc,rfl⟩:=bif_some h;simp only[Bool.and_eq_true]at hc;obtain⟨c1,c2,c3,c4,c5⟩:=hc;exact QsA ho hs hH hf hx ht hz (Nat.eq_of_beq_eq_true c1) c2 c3 c4 hg (Nat.le_of_ble_eq_true c5)
  ·cases h
 ·cases h
theorem QpL{vs us:List Value}(h:Qx (XV ρ) vs=some us):Qx (den ρ) vs=some us:=Xv (λa b e=>Qe2 (Qdp (QqS e))) h
theorem Qkl{f:Operand}{args:Array Operand}{ts:Array TypeId}{r0:Rho}(hF:CallOk P r0 F)(h0:r0.le ρ)(ho:o.op=.call {callee:=.value f,args:=args,argTypes:=ts})(hs:SR ρ L L')(hH:HM ρ H As)(hf:QQ ρ n)(h:QeV P H n F (opd L f) (Qds L args.toList)=some a):QaF P o L' w0 ρ H n As a:=by
 unfold QeV at h;split at h
 ·rename_i g first cap vs hx hvs
  obtain⟨hc,h⟩:=bif_in h;split at h
  ·rename_i v H' n' hr;injection h with h
   subst h;obtain⟨u,e1,e2⟩:=Y3 hs hx;simp only[den,Xp,QU,Qc9]at e2;split at e2
   ·rename_i f' a' b' g1 g2 g3;injection g1 with g1
    subst g1;injection e2 with e2
    subst e2;obtain⟨us,e3,e4⟩:=QeJ hs hvs;have hall:=Y4 (Y4 (QpL g2) e4) (QpL g3);refine⟨{x:Rho×List HA×Value // ρ.le x.1/\QQ x.1 n'/\den x.1 v=some x.2.2/\HM x.1 H' x.2.1},λx=>x.1.2.2,λ_=>True,λx=>HS w0 [] x.1.2.1,λag w hρ hw=>?_,λx _=>⟨x.1.1,x.1.2.1,x.2.1,x.2.2.1,x.2.2.2.1,x.2.2.2.2,λ_ h=>h⟩⟩;rw[ZB ho hρ e1 hc e3];have hcall:=hF.f r0 F.y hF.y _ _ _ _ _ _ _ hr w0 ρ _ As h0 hall hH hf w hw;have hargs:(a'++us++b').toArray=a'.toArray++us.toArray++b'.toArray:=by simp
    rw[hargs]at hcall;exact Calls.mono hcall λe w'⟨ρ',As',u',h1,h2,h3,h4,h5,h6⟩=>⟨u',h5,⟨(ρ',As',u'),h1,h2,h3,h4⟩,rfl,trivial,h6⟩
   ·cases e2
  ·cases h
 ·rename_i k vs hx hvs;split at h
  ·rename_i v H' n' hr;injection h with h
   subst h;obtain⟨u,e1,e2⟩:=Y3 hs hx;obtain⟨us,e3,e4⟩:=QeJ hs hvs;obtain⟨x,hk,hy⟩:=hF.y _ _ _ _ _ _ _ hr w0 ρ us As h0 e4 hH hf;simp only[den,Xp,QU,Qc9,hk,Qx,Option.some.injEq]at e2;subst e2;refine⟨{x:Rho×List HA×Value // ρ.le x.1/\QQ x.1 n'/\den x.1 v=some x.2.2/\HM x.1 H' x.2.1},λx=>x.1.2.2,λ_=>True,λx=>HS w0 [] x.1.2.1,?_,λx _=>⟨x.1.1,x.1.2.1,x.2.1,x.2.2.1,x.2.2.2.1,x.2.2.2.2,λ_ h=>h⟩⟩;refine QlY (l:=x.1) ho e1 e3 λw hw=>?_;obtain⟨f,tmps,assign,body,y1,y2⟩:=hy w hw;exact⟨f,tmps,assign,body,y1,RoundIn.mono y2 λe w'⟨ρ',As',u',h1,h2,h3,h4,h5,h6⟩=>⟨⟨(ρ',As',u'),h1,h2,h3,h4⟩,h5,trivial,h6⟩⟩
  ·cases h
 ·cases h
theorem Qjs{b:Builtin}{args:Array Operand}{ts:Array TypeId}(ho:o.op=.call {callee:=.builtin b,args:=args,argTypes:=ts})(hs:SR ρ L L')(hH:HM ρ H As)(hf:QQ ρ n)(h:QdY P L H n b args.toList ts.toList=some a):QaF P o L' w0 ρ H n As a:=by
 unfold QdY at h;split at h
 ·rename_i x t h1 h2;rw[Qeh h1,Qeh h2]at ho;split at h
  ·rename_i l hx;obtain⟨hc,rfl⟩:=bif_some h;exact Qul ho hs hx hc
  ·rename_i p k c hx;obtain⟨hc,rfl⟩:=bif_some h;exact Qt3 ho hs hx hc
  ·rename_i p i q hx;obtain⟨hc,rfl⟩:=bif_some h;exact Qt5 ho hs hx hc
  ·cases h
 ·rename_i x t h1 h2;rw[Qeh h1,Qeh h2]at ho;split at h
  ·rename_i k c hx;obtain⟨hc,rfl⟩:=bif_some h;exact Qti ho hs hx hc
  ·cases h
 ·rename_i x y h1;rw[Qee h1]at ho;split at h
  ·rename_i k p k' q hx hy;obtain⟨hc,rfl⟩:=bif_some h;exact QuN ho hs hx hy hc
  ·cases h
 ·rename_i x y h1;rw[Qee h1]at ho;split at h
  ·rename_i k p k' q hx hy;obtain⟨hc,rfl⟩:=bif_some h;exact QtF ho hs hx hy hc
  ·cases h
 ·grind[Qee,Qli]
 ·grind[Qee,Qog]
 ·grind[Qeh,Qm7]
 ·cases h
theorem QkK{t:Nat}{m x:Operand}(ho:o.op=.lookup t m x false)(hs:SR ρ L L')(hH:HM ρ H As)(h:QaG P H t (opd L m) (opd L x)=some a):QaF P o L' w0 ρ H n As a:=by
 unfold QaG at h;split at h
 ·rename_i r k h1 h2;split at h
  ·rename_i kt et ks h3 h4;split at h
   ·rename_i h5 h6;injection h with h
    subst h;exact Qpz ho hs hH h1 h2 h3 h5 h6 h4
   ·cases h
  ·cases h
 ·cases h
theorem QgZ{t:Nat}{m x y:Operand}(ho:o.op=.mapUpdate t m x y)(hs:SR ρ L L')(hH:HM ρ H As)(hf:QQ ρ n)(h:QdC P H n t (opd L m) (opd L x) (opd L y)=some a):QaF P o L' w0 ρ H n As a:=by
 unfold QdC at h;split at h
 ·rename_i r k h1 h2 h2';split at h
  ·rename_i kt et ks h3 h4;split at h
   ·rename_i h6;injection h with h
    subst h;exact Qjc (.inl ho) hs hH hf h1 h2 h2' h3 h6 h4
   ·cases h
  ·cases h
 ·cases h
theorem ZX{op:Op}{r0:Rho}(hF:CallOk P r0 F)(h0:r0.le ρ)(ho:o.op=op)(hs:SR ρ L L')(hH:HM ρ H As)(hf:QQ ρ n)(h:Xq P L H n F op=some a):QaF P o L' w0 ρ H n As a:=by
 unfold Xq at h;split at h
 ·exact Qe4 h λv hv=>Qqd (.inl ho) hs hv
 ·exact Qe4 h λv hv=>Qqd (.inr ho) hs hv
 ·split at h
  ·rename_i t x y h1 h2 h3;injection h with h
   subst h;exact Qub ho hs h1 h2 h3
  ·cases h
 ·grind[Qe4,Qvu]
 ·split at h
  ·rename_i x h1;exact Qe4 h λv hv=>un_R ho hs h1 hv
  ·cases h
 ·split at h
  ·rename_i x h1;split at h
   ·rename_i v hv;injection h with h
    subst h;exact QuE ho hs h1 hv
   grind[Qqq]
  ·cases h
 ·split at h
  ·rename_i vs h1;exact Qe4 h λv hv=>QmT ho hs h1 hv
  ·cases h
 ·split at h
  ·rename_i x y h1 h2;obtain⟨hc,rfl⟩:=bif_some h;simp only[Bool.and_eq_true]at hc;exact Qkx ho hs h1 h2 hc.1 hc.2
  ·cases h
 ·split at h
  ·rename_i m i h1;injection h with h
   subst h;exact QkL ho hs h1
  ·rename_i f x y h1;injection h with h
   subst h;exact Qjl ho hs h1
  ·cases h
 ·grind[Qe4,Qno]
 ·grind[Qe4,Qnc]
 ·grind[Qe4,Qm2]
 ·grind[Qe4,QkR]
 ·grind[Qe4,QgU]
 ·grind[Qe4,QgX]
 ·grind[Qe4,Qnn]
 ·split at h
  ·rename_i v hv;injection h with h
   subst h;exact QpE ho hs hH hv
  ·cases h
 ·exact QmJ ho hs hH hf h
 ·unfold Qu4 at h;split at h
  ·rename_i z hz;obtain⟨hc,rfl⟩:=bif_some h;exact Qrr ho hz hc hH hf
  ·cases h
 ·unfold QuP at h;split at h
  ·rename_i v hv;obtain⟨hc,rfl⟩:=bif_some h;exact QvX ho hs hv hc hH hf
  ·cases h
 ·split at h
  ·rename_i e sz by' ht;injection h with h
   subst h;exact Qg0 ho ht hH hf
  ·cases h
 ·exact QfO ho hs hH hf h
 ·exact Qg1 ho hs hH hf h
 ·exact Qjs ho hs hH hf h
 ·rename_i g args ts;split at h
  ·rename_i vs hvs;split at h
   ·rename_i v hv;injection h with h
    subst h;obtain⟨us,e3,e4⟩:=QeJ hs hvs;obtain⟨u,e5,e6⟩:=hF.e _ _ _ hv w0 ρ us As e4 o L' args ts ho e3;exact⟨u,e6,e5⟩
   ·exact Qkl hF h0 ho hs hH hf (by rw[hvs];exact h)
  ·cases h
 ·grind[Qkl]
 ·injection h with h
  subst h;exact QnA ho hH hf
 ·exact QkK ho hs hH h
 ·exact QgZ ho hs hH hf h
 ·cases h
end
end Ev
namespace Ev
open Go Go.RowKit
structure Clo(α:Type) where
 run:α
noncomputable def en(T:Tr Value):Env:=λt=>YP (pth t) t T
inductive An where
 | no
 | p (v:Value)
 | q (m:Option Nat) (v:Value)
 | new (v:Value) (x:HX)
 | h (v:Value) (H:Hp) (n:Nat)
abbrev VF:=Tr Value->Option Value
abbrev OpF:=CallF->Tr Value->Hp->Nat->An
def QuS(P:Program)(op:Op)(F:CallF)(T:Tr Value)(H:Hp)(n:Nat):An->Prop
 | .no=>True
 | .p v=>Xq P (en T) H n F op=some (.p v)
 | .q m v=>(∀H2,(∀k,m=some k->Yu H2 k=Yu H k)->Xq P (en T) H2 n F op=some (.q v))/\∀k,m=some k->∃r,Yu H k=some r
 | .new v x=>Xq P (en T) H n F op=some (.h v (YQ H n x) (n+1))
 | .h v H' n'=>Xq P (en T) H n F op=some (.h v H' n')
def Qac(P:Program)(op:Op)(f:OpF):Prop:=∀F,True->∀T H n,QuS P op F T H n (f F T H n)
noncomputable def anP:Option Value->An:=λx=>Option.rec .no (λv=>.p v) x
theorem Qk7{P:Program}{op:Op}{F:CallF}{T:Tr Value}{H:Hp}{n:Nat}{x:Option Value}(h:∀v,x=some v->Xq P (en T) H n F op=some (.p v)):QuS P op F T H n (anP x):=by
 cases x with
 | none=>trivial
 | some v=>exact h v rfl
noncomputable def fbF(P:Program)(op:Op):OpF:=λF T H n=>match Xq P (en T) H n F op with
 | some (.p v)=>.p v
 | some (.h v H n)=>.h v H n
 | _=>.no
theorem QpV(P:Program)(op:Op):Qac P op (fbF P op):=by
 intro F hF T H n;unfold fbF;split<;>first|assumption|trivial
noncomputable def Qsl(l:List Value):Nat->Option Value:=List.rec (λ_=>none) (λa _ ih i=>Nat.rec (some a) (λj _=>ih j) i) l
theorem Qe9:∀(l:List Value)(i:Nat),Qsl l i=l[i]?
 | [],i=>by cases i<;>rfl
 | a::l,0=>rfl
 | a::l,i+1=>Qe9 l i
noncomputable def Qkc(l:List Value):Nat->Option (List Value):=
 List.rec (λn=>Nat.rec (some []) (λ_ _=>none) n) (λa _ ih n=>Nat.rec (some []) (λj _=>Option.rec none (λm=>some (a::m)) (ih j)) n) l
theorem QgI:∀(l:List Value)(n:Nat){c:List Value},Qkc l n=some c->n<=l.length/\c=l.take n
 | [],0,c,h=>by cases h;exact⟨Nat.le_refl _,rfl⟩
 | [],n+1,c,h=>by cases h
 | a::l,0,c,h=>by cases h;exact⟨Nat.zero_le _,rfl⟩
 | a::l,n+1,c,h=>by
  have h':(Option.rec none (λm=>some (a::m)) (Qkc l n):Option (List Value))=some c:=h;cases hm:Qkc l n with
  | none=>rw[hm]at h';cases h'
  | some m=>
   rw[hm]at h';injection h' with h'
   obtain⟨h1,h2⟩:=QgI l n hm
   grind
noncomputable def Qsx(l:List Value):Nat->Nat->Option (List Value):=
 List.rec (λi n=>Nat.rec (Qkc [] n) (λ_ _=>none) i) (λa t ih i n=>Nat.rec (Qkc (a::t) n) (λj _=>ih j n) i) l
theorem Qfn:∀(l:List Value)(i n:Nat){c:List Value},Qsx l i n=some c->i+n<=l.length/\c=cut l i n
 | [],0,n,c,h=>by
  obtain⟨h1,h2⟩:=QgI [] n h;exact⟨om,h2⟩
 | [],i+1,n,c,h=>by cases h
 | a::l,0,n,c,h=>by
  obtain⟨h1,h2⟩:=QgI (a::l) n h;exact⟨om,h2⟩
 | a::l,i+1,n,c,h=>by
  obtain⟨h1,h2⟩:=Qfn l i n h
  grind[cut]
noncomputable def QpA(vs:List Value):List Value->Option (List Value):=
 List.rec (λl=>some l) (λv _ ih l=>List.rec none (λ_ l' _=>Option.rec none (λm=>some (v::m)) (ih l')) l) vs
noncomputable def setO(l:List Value):Nat->List Value->Option (List Value):=
 List.rec (λi vs=>Nat.rec (QpA vs []) (λ_ _=>none) i) (λa t ih i vs=>Nat.rec (QpA vs (a::t)) (λj _=>Option.rec none (λm=>some (a::m)) (ih j vs)) i) l
theorem Y5(a:Value):∀(vs l:List Value)(i:Nat),Qf (a::l) (i+1) vs=a::Qf l i vs
 | [],l,i=>rfl
 | v::vs,l,i=>by simp_all[Qf,Y5]
theorem Qiz:∀(vs l:List Value){m:List Value},QpA vs l=some m->vs.length<=l.length/\m=Qf l 0 vs
 | [],l,m,h=>by cases h;exact⟨Nat.zero_le _,rfl⟩
 | v::vs,[],m,h=>by cases h
 | v::vs,a::l,m,h=>by
  have h':(Option.rec none (λm=>some (v::m)) (QpA vs l):Option (List Value))=some m:=h;cases hm:QpA vs l with
  | none=>rw[hm]at h';cases h'
  | some x=>
   rw[hm]at h';injection h' with h'
   obtain⟨h1,h2⟩:=Qiz vs l hm
   grind[Qf,Y5]
theorem Qlz:∀(l:List Value)(i:Nat)(vs:List Value){m:List Value},setO l i vs=some m->i+vs.length<=l.length/\m=Qf l i vs
 | [],0,vs,m,h=>by
  obtain⟨h1,h2⟩:=Qiz vs [] h
  grind
 | [],i+1,vs,m,h=>by cases h
 | a::l,0,vs,m,h=>by
  obtain⟨h1,h2⟩:=Qiz vs (a::l) h
  grind
 | a::l,i+1,vs,m,h=>by
  have h':(Option.rec none (λm=>some (a::m)) (setO l i vs):Option (List Value))=some m:=h;cases hm:setO l i vs with
  | none=>rw[hm]at h';cases h'
  | some x=>
   rw[hm]at h';injection h' with h'
   obtain⟨h1,h2⟩:=Qlz l i vs hm
   grind[Y5]
def Qe8:IntKind->Nat
 | .i8=>128
 | .i16=>32768
 | .i32=>2147483648
 | .i64=>9223372036854775808
 | .u8=>256
 | .u16=>65536
 | .u32=>4294967296
 | .u64=>18446744073709551616
def fw(k:IntKind)(z:Nat):Int:=bif Nat.blt z (Qe8 k)then .ofNat z else k.wrap (.ofNat z)
theorem QgB{k:IntKind}{z:Nat}(h:z<Qe8 k):k.wrap (z:Int)=(z:Int):=by
 cases k<;>simp only[Qe8]at h<;>(simp only[IntKind.wrap,IntKind.signed,IntKind.bits];simp;omega)
theorem Qhf(k:IntKind)(z:Nat):fw k z=k.wrap (z:Int):=by
 unfold fw;cases hb:Nat.blt z (Qe8 k)with
 | true=>exact(QgB (by simpa[Nat.blt_eq]using hb)).symm
 | false=>rfl
end Ev
namespace Ev
open Go Go.RowKit
theorem QfM{op:BinOp}{k:IntKind}{x y:Nat}(hx:x<Qe8 k)(hy:y<Qe8 k):bits .and k (x:Int) (y:Int)=((x &&& y:Nat):Int)/\bits .or k (x:Int) (y:Int)=k.wrap ((x ||| y:Nat):Int):=by
 have hb:Qe8 k<=2^k.bits:=by cases k<;>simp[Qe8,IntKind.bits]
 have ex:(BitVec.ofInt k.bits (x:Int)).toNat=x:=YV _ _ om;have ey:(BitVec.ofInt k.bits (y:Int)).toNat=y:=YV _ _ om;constructor
 ·show k.wrap (((BitVec.ofInt k.bits (x:Int)) &&& (BitVec.ofInt k.bits (y:Int)):BitVec k.bits).toNat:Int)=_;rw[BitVec.toNat_and,ex,ey];exact QgB (Nat.lt_of_le_of_lt Nat.and_le_left hx)
 ·show k.wrap (((BitVec.ofInt k.bits (x:Int)) ||| (BitVec.ofInt k.bits (y:Int)):BitVec k.bits).toNat:Int)=_
  grind
theorem d_eq(x y:Nat):decide (Int.ofNat x=Int.ofNat y)=Nat.beq x y:=by
 rw[Bool.eq_iff_iff,decide_eq_true_eq,Nat.beq_eq];constructor
 ·intro h;injection h
 ·intro h;rw[h]
abbrev IF:=IntKind->Nat->Nat->Option Value
noncomputable def Qjd:BinOp->Option (Clo IF)
 | .add=>some ⟨λk x y=>some (.int k (fw k (Nat.add x y)))⟩
 | .sub=>some ⟨λk x y=>bif Nat.ble y x then some (.int k (fw k (Nat.sub x y)))else some (.int k (k.wrap (Int.subNatNat x y)))⟩
 | .mul=>some ⟨λk x y=>some (.int k (fw k (Nat.mul x y)))⟩
 | .eql=>some ⟨λ_ x y=>some (.bool (Nat.beq x y))⟩
 | .neq=>some ⟨λ_ x y=>some (.bool (Bool.not (Nat.beq x y)))⟩
 | .lss=>some ⟨λ_ x y=>some (.bool (Nat.blt x y))⟩
 | .leq=>some ⟨λ_ x y=>some (.bool (Nat.ble x y))⟩
 | .gtr=>some ⟨λ_ x y=>some (.bool (Nat.blt y x))⟩
 | .geq=>some ⟨λ_ x y=>some (.bool (Nat.ble y x))⟩
 | .and=>some ⟨λk x y=>bif Nat.blt x (Qe8 k)&&Nat.blt y (Qe8 k)then some (.int k (.ofNat (Nat.land x y)))else none⟩
 | .or=>some ⟨λk x y=>bif Nat.blt x (Qe8 k)&&Nat.blt y (Qe8 k)then some (.int k (fw k (Nat.lor x y)))else none⟩
 | .quo=>some ⟨λk x y=>bif Nat.beq y 0 then none else some (.int k (fw k (Nat.div x y)))⟩
 | .rem=>some ⟨λk x y=>bif Nat.beq y 0 then none else some (.int k (.ofNat (Nat.mod x y)))⟩
 | _=>none
theorem QoE{op:BinOp}{c:Clo IF}{k:IntKind}{x y:Nat}{v:Value}(P:Program)(t:TypeId)(h:Qjd op=some c)(hv:c.run k x y=some v):ZQ P op t (.int k (.ofNat x)) (.int k (.ofNat y))=some v:=by
 have hk:kEq k k=true:=by cases k<;>rfl
 unfold Qjd at h;split at h<;>first|(injection h with h;subst h)|cases h
 ·grind[ZQ,Xe,XY,Qhf]
 ·cases hb:Nat.ble y x with
  | true=>
   simp only[hb,cond_true]at hv;injection hv with hv;subst hv
   simp only[ZQ,Xe,hk,cond_true,XY];rw[Qhf];have:=Nat.le_of_ble_eq_true hb
   grind
  | false=>grind[ZQ,Xe,XY]
 ·grind[ZQ,Xe,XY,Qhf]
 ·grind[ZQ,Xe,XY,d_eq]
 ·grind[ZQ,Xe,XY,d_eq]
 ·injection hv with hv;subst hv
  simp only[ZQ,Xe,hk,cond_true,XY];congr 2;rw[Bool.eq_iff_iff];simp[Nat.blt_eq]
 ·injection hv with hv;subst hv
  simp only[ZQ,Xe,hk,cond_true,XY];congr 2;rw[Bool.eq_iff_iff];simp[Nat.ble_eq]
 ·injection hv with hv;subst hv
  simp only[ZQ,Xe,hk,cond_true,XY];congr 2;rw[Bool.eq_iff_iff];simp[Nat.blt_eq]
 ·injection hv with hv;subst hv
  simp only[ZQ,Xe,hk,cond_true,XY];congr 2;rw[Bool.eq_iff_iff];simp[Nat.ble_eq]
 ·obtain⟨hc,rfl⟩:=bif_some hv;simp only[Bool.and_eq_true,Nat.blt_eq]at hc;simp only[ZQ,Xe,hk,cond_true,XY];rw[show bits .and k (Int.ofNat x) (Int.ofNat y)=_ from(QfM (op:=.and) hc.1 hc.2).1];rfl
 ·obtain⟨hc,rfl⟩:=bif_some hv;simp only[Bool.and_eq_true,Nat.blt_eq]at hc;simp only[ZQ,Xe,hk,cond_true,XY];rw[show bits .or k (Int.ofNat x) (Int.ofNat y)=_ from(QfM (op:=.or) hc.1 hc.2).2,Qhf];rfl
 ·cases hb:Nat.beq y 0 with
  | true=>simp only[hb,cond_true]at hv;cases hv
  | false=>
   simp only[hb,cond_false]at hv;injection hv with hv;subst hv
   have hy:y≠0:=λe=>by subst e;cases hb
   have h0:decide ((Int.ofNat y)=0)=false:=by simpa using hy
   simp only[ZQ,Xe,hk,cond_true,XY,h0,Bool.not_false,Bool.and_true];rw[Qhf];rfl
 ·cases hb:Nat.beq y 0 with
  | true=>simp only[hb,cond_true]at hv;cases hv
  | false=>
   simp only[hb,cond_false]at hv;injection hv with hv;subst hv
   have hy:y≠0:=λe=>by subst e;cases hb
   have h0:decide ((Int.ofNat y)=0)=false:=by simpa using hy
   simp only[ZQ,Xe,hk,cond_true,XY,h0,Bool.not_false,Bool.and_true];rfl
end Ev
namespace Ev
open Go Go.RowKit
noncomputable def XQ:Operand->Clo VF
 | .tmp t=>⟨YP (pth t) t⟩
 | .const v=>Bool.rec ⟨λ_=>none⟩ ⟨λ_=>some v⟩ (flat v)
 | .func f=>⟨λ_=>some (.func (.func f) #[] #[])⟩
 | _=>⟨λ_=>none⟩
theorem QW(x:Operand)(T:Tr Value):(XQ x).run T=opd (en T) x:=by
 cases x with
 | const v=>
  simp only[XQ,opd];cases flat v<;>rfl
 | _=>rfl
noncomputable def Qg9:List Operand->Clo (Tr Value->Option (List Value))
 | []=>⟨λ_=>some []⟩
 | x::l=>⟨λT=>Option.rec none (λv=>Option.rec none (λvs=>some (v::vs)) ((Qg9 l).run T)) ((XQ x).run T)⟩
theorem Qgu(T:Tr Value):∀l,(Qg9 l).run T=Qds (en T) l
 | []=>rfl
 | x::l=>by
  show(Option.rec none (λv=>Option.rec none (λvs=>some (v::vs)) ((Qg9 l).run T)) ((XQ x).run T):Option (List Value))=_;rw[Qgu T l,QW];simp only[Qds];cases opd (en T) x<;>cases Qds (en T) l<;>rfl
def VOk(P:Program)(op:Op)(f:VF):Prop:=∀T v,f T=some v->∀F H n,Xq P (en T) H n F op=some (.p v)
noncomputable def ofV(f:VF):OpF:=λ_ T _ _=>anP (f T)
theorem QaM{P:Program}{op:Op}{f:VF}(h:VOk P op f):Qac P op (ofV f):=λF hF T H n=>Qk7 λv hv=>h T v hv F H n
theorem Ya{x:Option Value}{v:Value}(h:x=some v):QdV x=some (.p v):=by rw[h];rfl
noncomputable def QtV(P:Program)(op:BinOp)(t:TypeId)(c:Option (Clo IF))(a b:Value):Option Value:=
 Option.rec (ZQ P op t a b) (λc=>match a with
  | .int k (.ofNat x)=>match b with
   | .int k' (.ofNat y)=>bif kEq k k' then(match c.run k x y with
    | some v=>some v
    | none=>ZQ P op t a b)else none
   | b=>ZQ P op t a b
  | a=>ZQ P op t a b) c
theorem Qq6{P:Program}{op:BinOp}{t:TypeId}{a b v:Value}(h:QtV P op t (Qjd op) a b=some v):ZQ P op t a b=some v:=by
 unfold QtV at h;cases hc:Qjd op with
 | none=>rw[hc]at h;exact h
 | some c=>
  rw[hc]at h;simp only[]at h;split at h
  ·split at h
   ·obtain⟨hk,h⟩:=bif_in h
    grind[Qcg,QoE]
   ·exact h
  ·exact h
noncomputable def QpJ(P:Program)(op:BinOp)(t:TypeId)(x y:Operand):Clo VF:=
 ⟨λT=>Option.rec none (λa=>Option.rec none (λb=>QtV P op t (Qjd op) a b) ((XQ y).run T)) ((XQ x).run T)⟩
theorem Qit{P:Program}{op:BinOp}{t t':TypeId}{x y:Operand}:VOk P (.binOp op t x y t') (QpJ P op t x y).run:=by
 intro T v h F H n;unfold QpJ at h;simp only[QW]at h;cases hx:opd (en T) x with
 | none=>rw[hx]at h;cases h
 | some a=>
  cases hy:opd (en T) y with
  | none=>rw[hx,hy]at h;cases h
  | some b=>simp_all[Xq,Ya,Qq6]
noncomputable def QqA(c a b:Operand):Clo VF:=⟨λT=>match(XQ c).run T with
 | some (.bool t)=>(match(XQ a).run T with
  | some x=>(match(XQ b).run T with
   | some y=>some (Bool.rec y x t)
   | none=>none)
  | none=>none)
 | _=>none⟩
theorem Qp1{P:Program}{c a b:Operand}:VOk P (.pick c a b) (QqA c a b).run:=by
 intro T v h F H n;unfold QqA at h;simp only[QW]at h;unfold Xq;split at h
 ·rename_i t h1;split at h
  ·rename_i x h2;split at h
   ·rename_i y h3;injection h with h
    subst h;simp only[h1,h2,h3];cases t<;>rfl
   ·cases h
  ·cases h
 ·cases h
noncomputable def Qt4(x:Operand)(i:Nat):Clo VF:=⟨λT=>match(XQ x).run T with
 | some (.tuple ⟨l⟩)=>Qsl l i
 | _=>none⟩
theorem QrR{P:Program}{x:Operand}{i:Nat}:VOk P (.extract x i) (Qt4 x i).run:=by
 intro T v h F H n;unfold Qt4 at h
 grind[QW,Qe9,Xq,Ya]
noncomputable def Qkw(P:Program)(st:Nat)(x:Operand)(f:Nat):Clo VF:=match tfd P st f with
 | some (off,ft)=>match tsz P ft with
  | some (k,true)=>⟨λT=>match(XQ x).run T with
   | some (.agg ⟨l⟩)=>(match Qsx l off k with
    | some c=>some (.agg ⟨c⟩)
    | none=>none)
   | _=>none⟩
  | some (k,false)=>⟨λT=>match(XQ x).run T with
   | some (.agg ⟨l⟩)=>Qsl l off
   | _=>none⟩
  | none=>⟨λ_=>none⟩
 | none=>⟨λ_=>none⟩
theorem QmG{P:Program}{st f:Nat}{x:Operand}:VOk P (.field st x f) (Qkw P st x f).run:=by
 intro T v h F H n;unfold Qkw at h;unfold Xq;split at h
 ·rename_i off ft h1;split at h
  ·rename_i k h2;simp only[QW]at h;split at h
   ·rename_i l h3;split at h
    ·rename_i c h4;injection h with h
     subst h;obtain⟨_,rfl⟩:=Qfn l off k h4
     grind[Ya,QgS]
    ·cases h
   ·cases h
  ·grind[QW,Qe9,Ya,QgS]
  ·cases h
 ·cases h
noncomputable def cFA(P:Program)(st:Nat)(x:Operand)(f:Nat):Clo VF:=match tfd P st f with
 | some (off,ft)=>match tsz P ft with
  | some (k,_)=>bif Nat.blt 0 k then⟨λT=>match(XQ x).run T with
   | some (.pointer (some ⟨m,i,none⟩))=>some (.pointer (some ⟨m,Nat.add i off,none⟩))
   | _=>none⟩else⟨λ_=>none⟩
  | none=>⟨λ_=>none⟩
 | none=>⟨λ_=>none⟩
theorem Qve{P:Program}{st f:Nat}{x:Operand}:VOk P (.fieldAddr st x f) (cFA P st x f).run:=by
 intro T v h F H n;unfold cFA at h;unfold Xq;split at h
 ·rename_i off ft h1;split at h
  ·rename_i k ag h2;cases hk:Nat.blt 0 k with
   | false=>rw[hk]at h;cases h
   | true=>
    rw[hk]at h
    grind[QW,Ya,QbA]
  ·cases h
 ·cases h
noncomputable def cIA(P:Program)(t:Nat)(x y:Operand):Clo VF:=match tsl P t with
 | some (_,sz,_)=>⟨λT=>match(XQ x).run T with
   | some (.slice (some ⟨m,off,_⟩) l _)=>(match(XQ y).run T with
    | some (.int _ (.ofNat j))=>bif Nat.blt j l then some (.pointer (some ⟨m,Nat.add off (Nat.mul j sz),none⟩))else none
    | _=>none)
   | _=>none⟩
 | none=>match tar P t with
  | some (len,_,sz)=>⟨λT=>match(XQ x).run T with
   | some (.pointer (some ⟨m,off,none⟩))=>(match(XQ y).run T with
    | some (.int _ (.ofNat j))=>bif Nat.blt j len then some (.pointer (some ⟨m,Nat.add off (Nat.mul j sz),none⟩))else none
    | _=>none)
   | _=>none⟩
  | none=>⟨λ_=>none⟩
theorem Qvf{P:Program}{t:Nat}{x y:Operand}:VOk P (.indexAddr t x y) (cIA P t x y).run:=by
 intro T v h F H n;unfold cIA at h;unfold Xq;split at h
 ·rename_i e sz by' h1;simp only[QW]at h;split at h
  ·rename_i m off q l c h2;split at h
   ·simp_all[bif_some,Ya,Qad,vN]
   ·cases h
  ·cases h
 ·split at h
  ·rename_i len e sz h1;simp only[QW]at h;split at h
   ·rename_i m off h2;split at h
    ·simp_all[bif_some,Ya,Qad,vN]
    ·cases h
   ·cases h
  ·cases h
noncomputable def QsH(l:List UInt8):Nat->Option Nat:=List.rec (λ_=>none) (λa _ ih i=>Nat.rec (some a.toNat) (λj _=>ih j) i) l
theorem Qjb:∀(l:List UInt8)(i:Nat){b:Nat},QsH l i=some b->i<l.length/\b=(l.getD i 0).toNat
 | [],i,b,h=>by cases i<;>cases h
 | a::l,0,b,h=>by cases h;exact⟨Nat.succ_pos _,rfl⟩
 | a::l,i+1,b,h=>by
  obtain⟨h1,h2⟩:=Qjb l i h
  grind
noncomputable def QtA(P:Program)(t:Nat)(x y:Operand):Clo VF:=bif Xc P t then⟨λT=>match(XQ x).run T with
   | some (.string ⟨⟨l⟩⟩)=>(match(XQ y).run T with
    | some (.int _ (.ofNat j))=>(match QsH l j with
     | some b=>some (.int .u8 (.ofNat b))
     | none=>none)
    | _=>none)
   | _=>none⟩else⟨λT=>QfI P t ((XQ x).run T) (vN ((XQ y).run T))⟩
theorem Qrf{P:Program}{t:Nat}{x y:Operand}:VOk P (.index t x y) (QtA P t x y).run:=by
 intro T v h F H n;unfold QtA at h;unfold Xq;cases ht:Xc P t with
 | false=>simp_all[QW,Ya]
 | true=>
  rw[ht]at h;simp only[cond_true,QW]at h;split at h
  ·rename_i l h1;split at h
   ·rename_i k j h2;split at h
    ·rename_i b h3;injection h with h
     subst h;obtain⟨h4,rfl⟩:=Qjb l j h3;refine Ya ?_;simp only[QfI,h1,h2,vN,ht,Bool.true_and];rw[show Nat.blt j l.length=true by simpa[Nat.blt_eq]using h4];rfl
    ·cases h
   ·cases h
  ·cases h
noncomputable def Qu7(P:Program)(t:Nat)(x:Operand):Clo VF:=bif Xc P t then⟨λT=>match(XQ x).run T with
   | some (.string ⟨⟨l⟩⟩)=>some (.int .i64 (.ofNat l.length))
   | _=>none⟩else bif Xj P t then⟨λT=>match(XQ x).run T with
   | some (.slice _ k _)=>some (.int .i64 (.ofNat k))
   | some (.pointer (some ⟨_,_,some _⟩))=>some (.int .i64 0)
   | _=>none⟩else⟨λ_=>none⟩
theorem Qsn{P:Program}{t:Nat}{x:Operand}:VOk P (.call ⟨.builtin .len,#[x],#[t]⟩) (Qu7 P t x).run:=by
 intro T v h F H n;unfold Qu7 at h;unfold Xq QdY;cases ht:Xc P t with
 | true=>
  rw[ht]at h
  grind[QW]
 | false=>
  rw[ht]at h;simp only[cond_false]at h;cases hs:Xj P t with
  | false=>rw[hs]at h;cases h
  | true=>
   rw[hs]at h
   grind[QW]
end Ev
namespace Ev
open Go Go.RowKit
noncomputable def QqR(l:List UInt8):List UInt8->Bool:=
 List.rec (λm=>List.rec true (λ_ _ _=>false) m) (λa _ ih m=>List.rec false (λb m' _=>Bool.rec false (ih m') (Nat.beq a.toNat b.toNat)) m) l
theorem Qfb:∀(l m:List UInt8),QqR l m=decide (l=m)
 | [],[]=>rfl
 | [],b::m=>rfl
 | a::l,[]=>rfl
 | a::l,b::m=>by
  show(Bool.rec false (QqR l m) (Nat.beq a.toNat b.toNat):Bool)=_;rw[Qfb l m];cases hb:Nat.beq a.toNat b.toNat with
  | true=>
   have:a=b:=UInt8.toNat_inj.1 (Nat.eq_of_beq_eq_true hb);subst this;simp
  | false=>
   have:a≠b:=λe=>by subst e;rw[Nat.beq_refl]at hb;cases hb
   simp[this]
noncomputable def Qob(P:Program)(op:BinOp)(t:TypeId)(x y:Operand):Clo VF:=match op with
 | .eql=>⟨λT=>match(XQ x).run T with
  | some (.string ⟨⟨l⟩⟩)=>(match(XQ y).run T with
   | some (.string ⟨⟨m⟩⟩)=>some (.bool (QqR l m))
   | _=>none)
  | _=>(QpJ P .eql t x y).run T⟩
 | .neq=>⟨λT=>match(XQ x).run T with
  | some (.string ⟨⟨l⟩⟩)=>(match(XQ y).run T with
   | some (.string ⟨⟨m⟩⟩)=>some (.bool (Bool.not (QqR l m)))
   | _=>none)
  | _=>(QpJ P .neq t x y).run T⟩
 | op=>QpJ P op t x y
theorem Qpa{P:Program}{op:BinOp}{t t':TypeId}{x y:Operand}:VOk P (.binOp op t x y t') (Qob P op t x y).run:=by
 intro T v h F H n;unfold Qob at h;split at h
 ·simp only[QW]at h;split at h
  ·grind[Xq,Ya,ZQ,Xe,QdU,Qfb]
  ·exact Qit T v h F H n
 ·simp only[QW]at h;split at h
  ·grind[Xq,Ya,ZQ,Xe,QdU,Qfb]
  ·exact Qit T v h F H n
 ·exact Qit T v h F H n
noncomputable def QsV(l:List UInt8):List Value:=List.rec [] (λb _ ih=>.int .u8 (.ofNat b.toNat)::ih) l
theorem QjX:∀l:List UInt8,QsV l=l.map λb=>.int .u8 (b.toNat:Int)
 | []=>rfl
 | b::l=>congrArg _ (QjX l)
noncomputable def byS(v:Value)(ih:Option (List UInt8)):Option (List UInt8):=match v with
 | .int .u8 (.ofNat z)=>(match ih with
  | some r=>some (UInt8.ofNat z::r)
  | none=>none)
 | _=>none
noncomputable def byO(l:List Value):Option (List UInt8):=List.rec (some []) (λv _ ih=>byS v ih) l
theorem Qqk:∀(l:List Value){r:List UInt8},byO l=some r->l.all Qh4=true/\Xb l=true/\l.map vByte=r
 | [],r,h=>by cases h;exact⟨rfl,rfl,rfl⟩
 | v::l,r,h=>by
  have h':byS v (byO l)=some r:=h;unfold byS at h';split at h'
  ·rename_i z;split at h'
   ·rename_i r' hr;injection h' with h'
    subst h';obtain⟨h1,h2,h3⟩:=Qqk l hr;refine⟨?_,?_,?_⟩
    ·simpa[Qh4]using h1
    ·grind[Xb,flat]
    ·simp only[List.map_cons,h3];rfl
   ·cases h'
  ·cases h'
noncomputable def Qon(P:Program)(src dst:TypeId)(x:Operand):Clo OpF:=match tki P src,tki P dst with
 | some k1,some k2=>⟨λ_ T _ _=>match(XQ x).run T with
  | some (.int k0 (.ofNat z))=>bif kEq k0 k1 then .p (.int k2 (fw k2 z))else .no
  | some v=>anP (QbU P src dst v)
  | none=>.no⟩
 | _,_=>match Xc P src,P.underlying dst,P.underlying src with
  | true,some (.slice e),_=>bif QbO P e&&Nat.beq e u8T then⟨λ_ T H n=>match(XQ x).run T with
   | some (.string ⟨⟨l⟩⟩)=>bif Nat.ble l.length maxLen then .new (.slice (some ⟨n,0,none⟩) l.length l.length) (.row ⟨e,1,QsV l⟩)else .no
   | _=>.no⟩else⟨λ_ _ _ _=>.no⟩
  | false,_,some (.slice e)=>bif Xc P dst&&QbO P e then⟨λ_ T H n=>match(XQ x).run T with
   | some (.slice (some ⟨p,i,_⟩) k c)=>(match Yc H p with
    | some r=>(match Qsx r.cs i k with
     | some cs=>(match byO cs with
      | some l=>.q (some p) (.string (bs l))
      | none=>.no)
     | none=>.no)
    | none=>.no)
   | some (.slice none k c)=>bif Nat.beq k 0 then .q none (.string (bs []))else .no
   | some (.pointer (some ⟨_,_,some _⟩))=>.q none (.string (bs []))
   | _=>.no⟩else(bif Nat.beq src dst then⟨fbF P (.convert src dst x)⟩else⟨λ_ _ _ _=>.no⟩)
  | _,_,_=>⟨λ_ T _ _=>match(XQ x).run T with
   | some v=>anP (QbU P src dst v)
   | none=>.no⟩
theorem Qgn{P:Program}{src dst:TypeId}{x:Operand}{F:CallF}{T:Tr Value}{H:Hp}{n:Nat}{a v:Value}(h1:opd (en T) x=some a)(h:QbU P src dst a=some v):Xq P (en T) H n F (.convert src dst x)=some (.p v):=by
 simp only[Xq,h1,h]
theorem QnO{P:Program}{src dst:TypeId}{x:Operand}:Qac P (.convert src dst x) (Qon P src dst x).run:=by
 intro F hF T H n;unfold Qon;split
 ·rename_i k1 k2 h1 h2;simp only[QW];split
  ·rename_i k0 z h3;cases hk:kEq k0 k1 with
   | false=>exact trivial
   | true=>
    refine Qgn h3 ?_
    grind[QbU,Qhf]
  ·grind[Qk7,Qgn]
  ·exact trivial
 ·rename_i hno;split
  ·rename_i e hs hd;cases hc:QbO P e&&Nat.beq e u8T with
   | false=>exact trivial
   | true=>
    simp only[cond_true,QW];split
    ·rename_i l h3;cases hl:Nat.ble l.length maxLen with
     | false=>exact trivial
     | true=>
      simp only[cond_true];show Xq _ _ _ _ _ _=_;have hns:Xc P dst=false:=by simp[Xc,hd]
      have hcv:QbU P src dst (.string ⟨⟨l⟩⟩)=none:=by simp[QbU,hns]
      simp only[Bool.and_eq_true]at hc;simp only[Xq,h3,hcv,QfQ,hd,hs,hc.1,hc.2,hl,Bool.and_self,cond_true,QjX];rfl
    ·exact trivial
  ·rename_i e hs hu;cases hc:Xc P dst&&QbO P e with
   | false=>
    cases hd:Nat.beq src dst with
    | false=>exact trivial
    | true=>exact QpV P _ F hF T H n
   | true=>
    simp only[Bool.and_eq_true]at hc;simp only[cond_true,QW];split
    ·rename_i p i q k c h3;split
     ·rename_i r hr;split
      ·rename_i cs h4;split
       ·rename_i l h5;obtain⟨g1,rfl⟩:=Qfn _ _ _ h4;obtain⟨g2,g3,g4⟩:=Qqk _ h5;refine⟨λH2 h6=>?_,λk9 h9=>by injection h9 with h9;subst h9;exact⟨_,Qdx hr⟩⟩;have hr2:Yc H2 p=some r:=by unfold Yc;rw[h6 p rfl,Qdx hr]
        have hble:Nat.ble (i+k) r.cs.length=true:=Nat.ble_eq_true_of_le g1
        grind[Xq,QbU,QfQ]
       ·exact trivial
      ·exact trivial
     ·exact trivial
    ·rename_i k c h3;cases hk:Nat.beq k 0 with
     | false=>exact trivial
     | true=>
      refine⟨λH2 _=>?_,λk9 h9=>by cases h9⟩
      grind[Xq,QbU,QfQ]
    ·rename_i p i q h3;refine⟨λH2 _=>?_,λk9 h9=>by cases h9⟩
     grind[Xq,QbU,QfQ]
    ·exact trivial
  ·simp only[QW];split
   ·grind[Qk7,Qgn]
   ·exact trivial
noncomputable def Qox(P:Program)(t x:Nat):Clo OpF:=match tsz P t with
 | some (sz,true)=>⟨λ_ T H _=>match YP (pth x) x T with
  | some (.pointer (some ⟨m,i,none⟩))=>(match Yc H m with
   | some r=>(match Qsx r.cs i sz with
    | some c=>.q (some m) (.agg ⟨c⟩)
    | none=>.no)
   | none=>.no)
  | _=>.no⟩
 | some (sz,false)=>bif Nat.beq sz 1 then⟨λ_ T H _=>match YP (pth x) x T with
  | some (.pointer (some ⟨m,i,none⟩))=>(match Yc H m with
   | some r=>(match Qsl r.cs i with
    | some c=>.q (some m) c
    | none=>.no)
   | none=>.no)
  | _=>.no⟩else⟨λ_ _ _ _=>.no⟩
 | none=>⟨λ_ _ _ _=>.no⟩
theorem Qo8{P:Program}{t x:Nat}:Qac P (.load t (.tmp x)) (Qox P t x).run:=by
 intro F hF T H n;unfold Qox;split
 ·rename_i sz h1;simp only[];split
  ·rename_i m i h2;split
   ·rename_i r hr;split
    ·rename_i c h3;obtain⟨g1,rfl⟩:=Qfn _ _ _ h3;refine⟨λH2 h6=>?_,λk9 h9=>by injection h9 with h9;subst h9;exact⟨_,Qdx hr⟩⟩;have hr2:Yc H2 m=some r:=by unfold Yc;rw[h6 m rfl,Qdx hr]
     have hble:Nat.ble (i+sz) r.cs.length=true:=Nat.ble_eq_true_of_le g1
     grind[Xq,Qf9,en]
    ·exact trivial
   ·exact trivial
  ·exact trivial
 ·rename_i sz h1;cases hs:Nat.beq sz 1 with
  | false=>exact trivial
  | true=>
   simp only[cond_true];split
   ·rename_i m i h2;split
    ·rename_i r hr;split
     ·rename_i c h3;rw[Qe9]at h3;refine⟨λH2 h6=>?_,λk9 h9=>by injection h9 with h9;subst h9;exact⟨_,Qdx hr⟩⟩
      grind[Yc,Qdx,Xq,Qf9,en]
     ·exact trivial
    ·exact trivial
   ·exact trivial
 ·exact trivial
noncomputable def QkT(P:Program)(t x:Nat)(y:Operand):Clo OpF:=match tsz P t with
 | some (sz,_)=>⟨λ_ T H n=>match YP (pth x) x T with
  | some (.pointer (some ⟨m,i,none⟩))=>(match(XQ y).run T with
   | some v=>(match Yc H m with
    | some ⟨ty,s,cs⟩=>bif ZW v&&Nat.beq v.cells.toList.length sz then(match setO cs i v.cells.toList with
     | some c=>.h undef (Yn H m ⟨ty,s,c⟩) n
     | none=>.no)else .no
    | none=>.no)
   | none=>.no)
  | _=>.no⟩
 | none=>⟨λ_ _ _ _=>.no⟩
theorem Qm1{P:Program}{t x:Nat}{y:Operand}:Qac P (.store t (.tmp x) y) (QkT P t x y).run:=by
 intro F hF T H n;unfold QkT;split
 ·rename_i sz ag h1;simp only[QW];split
  ·rename_i m i h2;split
   ·rename_i v h3;split
    ·rename_i ty s cs hr;cases hc:ZW v&&Nat.beq v.cells.toList.length sz with
     | false=>exact trivial
     | true=>
      simp only[cond_true];split
      ·rename_i c h4;obtain⟨g1,rfl⟩:=Qlz _ _ _ h4;simp only[Bool.and_eq_true]at hc;have hl:=Nat.eq_of_beq_eq_true hc.2;have hble:Nat.ble (i+sz) cs.length=true:=Nat.ble_eq_true_of_le (by rw[<-hl];exact g1);show Xq _ _ _ _ _ _=_
       grind[Xq,Qih,en]
      ·exact trivial
    ·exact trivial
   ·exact trivial
  ·exact trivial
 ·exact trivial
noncomputable def Qla(P:Program)(t:Nat):Clo OpF:=match QM P t with
 | some z=>bif Xb z then⟨λ_ _ _ n=>.new (.pointer (some ⟨n,0,none⟩)) (.row ⟨t,0,z⟩)⟩else⟨λ_ _ _ _=>.no⟩
 | none=>⟨λ_ _ _ _=>.no⟩
theorem Qnp{P:Program}{t:Nat}:Qac P (.alloc t) (Qla P t).run:=by
 intro F hF T H n;unfold Qla;split
 ·rename_i z h1;cases hf:Xb z with
  | false=>exact trivial
  | true=>
   show Xq _ _ _ _ _ _=_;simp only[Xq,Qu4,h1,hf,cond_true];rfl
 ·exact trivial
noncomputable def Qtk(t:Nat)(x:Operand):Clo OpF:=⟨λ_ T _ n=>match(XQ x).run T with
 | some v=>bif ZW v then .new (.pointer (some ⟨n,0,none⟩)) (.row ⟨t,0,v.cells.toList⟩)else .no
 | none=>.no⟩
theorem QrS{P:Program}{t:Nat}{x:Operand}:Qac P (.box t x) (Qtk t x).run:=by
 intro F hF T H n;unfold Qtk;simp only[QW];split
 ·rename_i v h1;cases hf:ZW v with
  | false=>exact trivial
  | true=>
   show Xq _ _ _ _ _ _=_;simp only[Xq,QuP,h1,hf,cond_true];rfl
 ·exact trivial
noncomputable def cBS(P:Program)(t len:Nat)(parts:List (Nat×Operand)):Clo OpF:=match tsl P t with
 | some (e,sz,_)=>match QM P e with
  | some z=>bif Xb z&&(Nat.ble (len*sz) 16777216&&(Nat.blt 0 (len*sz)&&Xb (Qp8 z (len*sz))))then⟨λ_ T _ n=>match Qd7 (en T) parts with
   | some vs=>(match ZH (λi=>some (i*sz,sz)) (Qp8 z (len*sz)) vs with
    | some cs=>.new (.slice (some ⟨n,0,none⟩) len len) (.row ⟨e,sz,cs⟩)
    | none=>.no)
   | none=>.no⟩else⟨λ_ _ _ _=>.no⟩
  | none=>⟨λ_ _ _ _=>.no⟩
 | none=>⟨λ_ _ _ _=>.no⟩
theorem Qtv{P:Program}{t len:Nat}{parts:List (Nat×Operand)}(hne:¬(len=0/\parts=[])):Qac P (.buildSlice t len ⟨parts⟩) (cBS P t len parts).run:=by
 intro F hF T H n;unfold cBS;split
 ·rename_i e sz by' h1;split
  ·rename_i z h2;cases hc:Xb z&&(Nat.ble (len*sz) 16777216&&(Nat.blt 0 (len*sz)&&Xb (Qp8 z (len*sz))))with
   | false=>exact trivial
   | true=>
    simp only[cond_true];split
    ·rename_i vs h3;split
     ·rename_i cs h4;show Xq _ _ _ _ _ _=_
      have hb:ZD P (en T) H n t len parts=some (.h (.slice (some ⟨n,0,none⟩) len len) (YQ H n (.row ⟨e,sz,cs⟩)) (n+1)):=by
       simp only[ZD,h3,h1,h2,h4,hc,cond_true];rfl
      grind[Xq]
     ·exact trivial
    ·exact trivial
  ·exact trivial
 ·exact trivial
noncomputable def QuX(P:Program)(t:Nat):Clo OpF:=match tsl P t with
 | some (e,sz,_)=>⟨λ_ _ _ n=>.new (.slice (some ⟨n,0,none⟩) 0 0) (.row ⟨e,sz,[]⟩)⟩
 | none=>⟨λ_ _ _ _=>.no⟩
theorem Qsc{P:Program}{t:Nat}:Qac P (.buildSlice t 0 ⟨[]⟩) (QuX P t).run:=by
 intro F hF T H n;unfold QuX;split
 ·rename_i e sz by' h1;show Xq _ _ _ _ _ _=_;simp only[Xq,h1];rfl
 ·exact trivial
noncomputable def cMS(P:Program)(t:Nat)(x y:Operand):Clo OpF:=match tsl P t with
 | some (e,sz,by')=>match QM P e with
  | some z=>⟨λ_ T _ n=>match(XQ x).run T with
   | some (.int .i64 (.ofNat k))=>(match(XQ y).run T with
    | some (.int .i64 (.ofNat k'))=>bif Nat.ble k k'&&(Nat.ble (k'*by') 281474976710656&&(Nat.ble k' 16777216&&Xb (XA z (k'*sz))))then .new (.slice (some ⟨n,0,none⟩) k k') (.row ⟨e,sz,XA z (k'*sz)⟩)else .no
    | _=>.no)
   | _=>.no⟩
  | none=>⟨λ_ _ _ _=>.no⟩
 | none=>⟨λ_ _ _ _=>.no⟩
theorem QuU{P:Program}{t:Nat}{x y:Operand}:Qac P (.makeSlice t x y) (cMS P t x y).run:=by
 intro F hF T H n;unfold cMS;split
 ·rename_i e sz by' h1;split
  ·rename_i z h2;simp only[QW];split
   ·rename_i k h3;split
    ·rename_i k' h4;cases hc:Nat.ble k k'&&(Nat.ble (k'*by') 281474976710656&&(Nat.ble k' 16777216&&Xb (XA z (k'*sz))))with
     | false=>exact trivial
     | true=>
      show Xq _ _ _ _ _ _=_;simp only[Xq,QbE,h3,h4,h1,h2,hc,cond_true];rfl
    ·exact trivial
   ·exact trivial
  ·exact trivial
 ·exact trivial
noncomputable def callA(F:CallF)(g:FuncId)(vs:List Value)(H:Hp)(n:Nat):An:=match F.f F.y g vs H n with
 | some (v,H',n')=>.h v H' n'
 | none=>.no
noncomputable def QkI(P:Program)(g:Nat)(args:List Operand):Clo OpF:=⟨λF T H n=>match(Qg9 args).run T with
 | some vs=>(match F.e g vs with
  | some v=>.q none v
  | none=>bif QJ P g then callA F g vs H n else .no)
 | none=>.no⟩
theorem QjF{P:Program}{op:Op}{F:CallF}{T:Tr Value}{H:Hp}{n:Nat}{g:FuncId}{vs:List Value}(h:∀v H' n',F.f F.y g vs H n=some (v,H',n')->Xq P (en T) H n F op=some (.h v H' n')):QuS P op F T H n (callA F g vs H n):=by
 unfold callA;split
 ·rename_i v H' n' hr;exact h _ _ _ hr
 ·exact trivial
theorem QmL{P:Program}{g:Nat}{args:List Operand}{ts:Array TypeId}:Qac P (.call ⟨.value (.func g),⟨args⟩,ts⟩) (QkI P g args).run:=by
 intro F hF T H n;unfold QkI;simp only[Qgu];split
 ·rename_i vs h1;split
  ·rename_i v h2;exact⟨λH2 _=>by simp only[Xq,h1,h2],λk h9=>by cases h9⟩
  ·rename_i h2;cases hc:QJ P g with
   | false=>exact trivial
   | true=>grind[QjF,Xq,QeV]
 ·exact trivial
noncomputable def QkN(P:Program)(f:Operand)(args:List Operand):Clo OpF:=⟨λF T H n=>match(XQ f).run T with
 | some (.func (.func g) ⟨a⟩ ⟨b⟩)=>(match(Qg9 args).run T with
  | some vs=>bif QJ P g then callA F g (a++vs++b) H n else .no
  | none=>.no)
 | some (.func (.yield k) ⟨[]⟩ ⟨[]⟩)=>(match(Qg9 args).run T with
  | some vs=>(match F.y k vs H n with
   | some (v,H',n')=>.h v H' n'
   | none=>.no)
  | none=>.no)
 | _=>.no⟩
theorem QmW{P:Program}{f:Operand}{args:List Operand}{ts:Array TypeId}(hf:∀g,f≠ .func g):Qac P (.call ⟨.value f,⟨args⟩,ts⟩) (QkN P f args).run:=by
 intro F hF T H n;unfold QkN;simp only[QW,Qgu];split
 ·rename_i g a b h1;split
  ·rename_i vs h2;cases hc:QJ P g with
   | false=>exact trivial
   | true=>simp_all[QjF,QeV,opd,en,Qds,Xq]
  ·exact trivial
 ·rename_i k h1;split
  ·rename_i vs h2;split
   ·rename_i v H' n' hr;have hb:QeV P H n F (opd (en T) f) (Qds (en T) args)=some (.h v H' n'):=by grind[QeV]
    show Xq _ _ _ _ _ _=_
    simp_all[Xq]
   ·exact trivial
  ·exact trivial
 ·exact trivial
noncomputable def Qn0(P:Program)(t:Nat)(m x:Operand):Clo OpF:=⟨λ_ T H _=>match(XQ m).run T with
 | some (.map (some r))=>(match QaG P H t (some (.map (some r))) ((XQ x).run T)with
  | some (.q v)=>.q (some r) v
  | _=>.no)
 | _=>.no⟩
theorem QoF{P:Program}{t:Nat}{m x:Operand}:Qac P (.lookup t m x false) (Qn0 P t m x).run:=by
 intro F hF T H n;unfold Qn0;simp only[QW];split
 ·rename_i r h1;split
  ·rename_i v h2
   have hm:∃ks,QgQ H r=some ks:=by
    unfold QaG at h2
    grind
   obtain⟨ks,hks⟩:=hm;refine⟨λH2 h6=>?_,λk h9=>by injection h9 with h9;subst h9;exact⟨_,Qqp hks⟩⟩;have hr2:QgQ H2 r=QgQ H r:=by unfold QgQ;rw[h6 r rfl]
   have:QaG P H2 t (some (.map (some r))) (opd (en T) x)=QaG P H t (some (.map (some r))) (opd (en T) x):=by
    unfold QaG
    grind
   grind[Xq]
  ·exact trivial
 ·exact trivial
noncomputable def QsK:Clo OpF:=⟨λ_ _ _ n=>.new (.map (some n)) (.mp [])⟩
theorem Qo3{P:Program}{t:Nat}:Qac P (.makeMap t none) QsK.run:=by
 intro F hF T H n;show Xq _ _ _ _ _ _=_;simp only[Xq]
noncomputable def Z9(P:Program):Op->Clo OpF
 | .move x=>⟨ofV (XQ x).run⟩
 | .assign x=>⟨ofV (XQ x).run⟩
 | .pick c a b=>⟨ofV (QqA c a b).run⟩
 | .binOp op t x y _=>⟨ofV (Qob P op t x y).run⟩
 | .convert src dst x=>Qon P src dst x
 | .extract x i=>⟨ofV (Qt4 x i).run⟩
 | .field st x f=>⟨ofV (Qkw P st x f).run⟩
 | .fieldAddr st x f=>⟨ofV (cFA P st x f).run⟩
 | .index t x y=>⟨ofV (QtA P t x y).run⟩
 | .indexAddr t x y=>⟨ofV (cIA P t x y).run⟩
 | .load t (.tmp x)=>Qox P t x
 | .store t (.tmp x) y=>QkT P t x y
 | .alloc t=>Qla P t
 | .box t x=>Qtk t x
 | .buildSlice t 0 ⟨[]⟩=>QuX P t
 | .buildSlice t len ⟨parts⟩=>cBS P t len parts
 | .makeSlice t x y=>cMS P t x y
 | .call ⟨.builtin .len,⟨[x]⟩,⟨[t]⟩⟩=>⟨ofV (Qu7 P t x).run⟩
 | .call ⟨.value (.func g),⟨args⟩,_⟩=>QkI P g args
 | .call ⟨.value f,⟨args⟩,_⟩=>QkN P f args
 | .makeMap t none=>QsK
 | .lookup t m x false=>Qn0 P t m x
 | op=>⟨fbF P op⟩
theorem QjY{P:Program}{x:Operand}:VOk P (.move x) (XQ x).run/\VOk P (.assign x) (XQ x).run:=by
 constructor<;>(intro T v h F H n;rw[QW]at h;simp only[Xq,h];rfl)
theorem QcF(P:Program)(op:Op):Qac P op (Z9 P op).run:=by
 unfold Z9;split
 ·exact QaM QjY.1
 ·exact QaM QjY.2
 ·exact QaM Qp1
 ·exact QaM Qpa
 ·exact QnO
 ·exact QaM QrR
 ·exact QaM QmG
 ·exact QaM Qve
 ·exact QaM Qrf
 ·exact QaM Qvf
 ·exact Qo8
 ·exact Qm1
 ·exact Qnp
 ·exact QrS
 ·exact Qsc
 ·grind[Qtv]
 ·exact QuU
 ·exact QaM Qsn
 ·exact QmL
 ·grind[QmW]
 ·exact Qo3
 ·exact QoF
 ·exact QpV P _
end Ev
namespace Ev
open Go Go.RowKit
inductive Rs where
 | bad
 | nm (T:Tr Value) (H:Hp) (n:Nat)
 | ex (i:Nat) (T:Tr Value) (H:Hp) (n:Nat)
 | rt (T:Tr Value) (H:Hp) (n:Nat)
abbrev SF:=CallF->Tr Value->Hp->Nat->Rs
abbrev CS:=Clo SF
noncomputable def noC:CS:=⟨λ_ _ _ _=>.bad⟩
noncomputable def cOn(P:Program)(nt:Nat)(o:Oper)(rest:CS):CS:=match o.dst with
 | some d=>bif Nat.blt d nt then⟨λF T H n=>match(Z9 P o.op).run F T H n with
  | .no=>.bad
  | .p v=>rest.run F (Yr (pth d) d v T) H n
  | .q _ v=>rest.run F (Yr (pth d) d v T) H n
  | .new v x=>rest.run F (Yr (pth d) d v T) (YQ H n x) (Nat.succ n)
  | .h v H' n'=>rest.run F (Yr (pth d) d v T) H' n'⟩else noC
 | none=>⟨λF T H n=>match(Z9 P o.op).run F T H n with
  | .no=>.bad
  | .p v=>rest.run F T H n
  | .q _ v=>rest.run F T H n
  | .new v x=>rest.run F T (YQ H n x) (Nat.succ n)
  | .h v H' n'=>rest.run F T H' n'⟩
noncomputable def Qra(nt:Nat)(dst:Option Nat)(rest:CS):CS:=match dst with
 | some d=>bif Nat.blt d nt then⟨λF T H n=>rest.run F (Yr (pth d) d undef T) H n⟩else noC
 | none=>rest
noncomputable def Qbl(P:Program)(nt:Nat)(all:Array Oper):List Oper->CS
 | []=>⟨λ_ T H n=>.nm T H n⟩
 | o::l=>match o.guard with
  | none=>cOn P nt o (Qbl P nt all l)
  | some (j,want)=>match(all[j]?).bind (·.dst)with
   | some dj=>⟨λF T H n=>match YP (pth dj) dj T with
    | some (.bool b)=>Bool.rec ((Qra nt o.dst (Qbl P nt all l)).run F T H n) ((cOn P nt o (Qbl P nt all l)).run F T H n) (b==want)
    | some (.tuple ⟨[]⟩)=>(match o.dst with
     | some _=>(Qra nt o.dst (Qbl P nt all l)).run F T H n
     | none=>.bad)
    | _=>.bad⟩
   | none=>noC
structure St where
 T:Tr Value
 H:Hp
 n:Nat
structure StOk(r0:Rho)(w0:World)(ρ:Rho)(st:St)(L':Qc)(As:List HA):Prop where
 le:r0.le ρ
 sr:SR ρ (en st.T) L'
 hp:HM ρ st.H As
 fr:QQ ρ st.n
theorem QkB{T:Tr Value}{d:Nat}{v:Value}:∀t x,en (Yr (pth d) d v T) t=some x->(t=d/\x=v)\/(t≠d/\en T t=some x):=by grind[en,Zt,Zd]
theorem SR.set{ρ:Rho}{T:Tr Value}{L':Qc}{d:Nat}{v u:Value}(e:SR ρ (en T) L')(hu:den ρ v=some u):SR ρ (en (Yr (pth d) d v T)) ((d,u)::L'):=e.put hu QkB
def QhV(r0:Rho)(w0:World)(ρ:Rho)(st:St)(K:Qc->(World->Prop)->Prop):Prop:=
 ∀ρ' L2 As2,ρ.le ρ'->StOk r0 w0 ρ' st L2 As2->K L2 (HS w0 [] As2)
theorem QhV.mono{r0:Rho}{w0:World}{ρ ρ':Rho}{st:St}{K:Qc->(World->Prop)->Prop}(h:ρ.le ρ')(ht:QhV r0 w0 ρ st K):QhV r0 w0 ρ' st K:=λρ2 L2 As2 h2 hs=>ht ρ2 L2 As2 (Rho.le_trans h h2) hs
def Q9(r0:Rho)(w0:World)(ρ:Rho)(X:Ctx)(k:List KI):Rs->Prop
 | .bad=>False
 | .nm T H n=>QhV r0 w0 ρ ⟨T,H,n⟩ (S X k)
 | .ex i T H n=>QhV r0 w0 ρ ⟨T,H,n⟩ (SE X (.exit i) k)
 | .rt T H n=>QhV r0 w0 ρ ⟨T,H,n⟩ (SE X .ret k)
theorem Q9.mono{r0:Rho}{w0:World}{ρ ρ':Rho}{X:Ctx}{k:List KI}(h:ρ.le ρ'):∀{r:Rs},Q9 r0 w0 ρ X k r->Q9 r0 w0 ρ' X k r
 | .bad,ht=>ht.elim
 | .nm _ _ _,ht=>QhV.mono h ht
 | .ex _ _ _ _,ht=>QhV.mono h ht
 | .rt _ _ _,ht=>QhV.mono h ht
theorem CallOk.fok{P:Program}{r0:Rho}{F:CallF}(h:CallOk P r0 F):True:=trivial
section
variable{P:Program}{r0:Rho}{w0:World}{F:CallF}{X:Ctx}{k:List KI}{all:Array Oper}
def Quj(w0:World)(ρ:Rho)(H:Hp)(n:Nat):Ans->Value->(World->Prop)->Prop
 | .p v=>Out w0 ρ v H n
 | .q v=>Out w0 ρ v H n
 | .h v H n=>Out w0 ρ v H n
theorem Qvs{o:Oper}{L':Qc}{ρ:Rho}{st:St}{As:List HA}{a:Ans}(h:QaF P o L' w0 ρ st.H st.n As a)(hp:HM ρ st.H As)(hf:QQ ρ st.n):OpT P o L' (HS w0 [] As) (Quj w0 ρ st.H st.n a):=by
 cases a with
 | p v=>obtain⟨u,h1,h2⟩:=h;exact OpT.of_p h1 h2 hp hf
 | q v=>obtain⟨u,h1,h2⟩:=h;exact OpT.of_q h1 h2 hp hf
 | h v H n=>exact h
theorem Qod(hF:CallOk P r0 F)(hP:X.P=P){dst:Option Nat}{op:Op}{ty:TypeId}{pos:String}{aft:Array Edge}{gd:Option (Nat×Bool)}{rest:CS}{l:List Oper}{T:Tr Value}{H:Hp}{n:Nat}{ρ:Rho}{L':Qc}{As:List HA}
  (ih:∀T H n ρ L' As,Q9 r0 w0 ρ X k (rest.run F T H n)->StOk r0 w0 ρ ⟨T,H,n⟩ L' As->O X all l k L' (HS w0 [] As))(ht:Q9 r0 w0 ρ X k ((cOn P X.n ⟨dst,op,ty,pos,aft,gd⟩ rest).run F T H n))(hs:StOk r0 w0 ρ ⟨T,H,n⟩ L' As) :
  O X all (⟨dst,op,ty,pos,aft,none⟩::l) k L' (HS w0 [] As):=by
 have key:∀a v(H':Hp)(n':Nat),Xq P (en T) H n F op=some a->Quj w0 ρ H n a=Out w0 ρ v H' n'->(match dst with
   | some d=>Nat.blt d X.n=true/\Q9 r0 w0 ρ X k (rest.run F (Yr (pth d) d v T) H' n')
   | none=>Q9 r0 w0 ρ X k (rest.run F T H' n'))->O X all (⟨dst,op,ty,pos,aft,none⟩::l) k L' (HS w0 [] As):=by
  intro a v H' n' h1 h2 h3;have ha:=ZX (w0:=w0) (L':=L') (o:=⟨dst,op,ty,pos,aft,none⟩) hF hs.le rfl hs.sr hs.hp hs.fr h1;have hT:OpT P _ L' _ (Quj w0 ρ H n a):=Qvs (st:=⟨T,H,n⟩) ha hs.hp hs.fr;rw[h2]at hT;obtain⟨G,V,Fg,C',hH,hK⟩:=hT;cases dst with
  | some d=>
   obtain⟨hd,h3⟩:=h3;refine o_h (by rw[hP];exact hH) hd λg hg=>?_;obtain⟨ρ',As',g1,g2,g3,g4,g5⟩:=hK g hg;exact Y0 g5 (ih _ _ _ ρ' _ As' (h3.mono g1) ⟨Rho.le_trans hs.le g1,(hs.sr.mono g1).set g3,g4,g2⟩)
  | none=>
   refine QcX (by rw[hP];exact hH) λg hg=>?_;obtain⟨ρ',As',g1,g2,g3,g4,g5⟩:=hK g hg;exact Y0 g5 (ih _ _ _ ρ' _ As' (h3.mono g1) ⟨Rho.le_trans hs.le g1,hs.sr.mono g1,g4,g2⟩)
 have hc:=QcF P op F hF.fok T H n;cases dst with
 | some d=>
  simp only[cOn]at ht;cases hb:Nat.blt d X.n with
  | false=>rw[hb]at ht;exact ht.elim
  | true=>
   rw[hb]at ht;simp only[cond_true]at ht;cases hr:(Z9 P op).run F T H n with
   | no=>rw[hr]at ht;exact ht.elim
   | p v=>rw[hr]at hc ht;exact key _ v H n hc rfl ⟨hb,ht⟩
   | q m v=>rw[hr]at hc ht;exact key _ v H n (hc.1 H λ_ _=>rfl) rfl ⟨hb,ht⟩
   | new v x=>rw[hr]at hc ht;exact key _ v (YQ H n x) (n+1) hc rfl ⟨hb,ht⟩
   | h v H' n'=>rw[hr]at hc ht;exact key _ v H' n' hc rfl ⟨hb,ht⟩
 | none=>
  simp only[cOn]at ht;cases hr:(Z9 P op).run F T H n with
  | no=>rw[hr]at ht;exact ht.elim
  | p v=>rw[hr]at hc ht;exact key _ v H n hc rfl ht
  | q m v=>rw[hr]at hc ht;exact key _ v H n (hc.1 H λ_ _=>rfl) rfl ht
  | new v x=>rw[hr]at hc ht;exact key _ v (YQ H n x) (n+1) hc rfl ht
  | h v H' n'=>rw[hr]at hc ht;exact key _ v H' n' hc rfl ht
theorem QcI{ρ:Rho}:den ρ undef=some undef:=rfl
theorem QfD(hF:CallOk P r0 F)(hP:X.P=P):∀(l:List Oper)(T:Tr Value)(H:Hp)(n:Nat)(ρ:Rho)(L':Qc)(As:List HA),Q9 r0 w0 ρ X k ((Qbl P X.n all l).run F T H n)->StOk r0 w0 ρ ⟨T,H,n⟩ L' As->O X all l k L' (HS w0 [] As)
 | [],T,H,n,ρ,L',As,ht,hs=>Qly (ht ρ L' As ρ.le_refl hs)
 | ⟨dst,op,ty,pos,aft,guard⟩::l,T,H,n,ρ,L',As,ht,hs=>by
  have ih:=QfD hF hP l;cases guard with
  | none=>exact Qod hF hP ih ht hs
  | some jw=>
   obtain⟨j,want⟩:=jw;simp only[Qbl]at ht;split at ht
   ·rename_i dj hj;simp only[]at ht;split at ht
    ·rename_i b hb;obtain⟨u,e1,e2⟩:=hs.sr.get (show en T dj=_ from hb);injection e2 with e2
     subst e2;cases hw:b==want with
     | true=>
      rw[hw]at ht
      grind[o_on,Qod]
     | false=>
      rw[hw]at ht;have hw':b= !want:=by cases b<;>cases want<;>simp_all
      simp only[Qra]at ht;split at ht
      ·rename_i d;cases hd:Nat.blt d X.n with
       | false=>rw[hd]at ht;exact ht.elim
       | true=>
        rw[hd]at ht;exact QqT dj b hj e1 hw' hd (ih _ _ _ ρ _ As ht ⟨hs.le,hs.sr.set QcI,hs.hp,hs.fr⟩)
      grind[Qk2]
    ·rename_i hb;obtain⟨u,e1,e2⟩:=hs.sr.get (show en T dj=_ from hb);injection e2 with e2
     subst e2;split at ht
     ·rename_i d;simp only[Qra]at ht;cases hd:Nat.blt d X.n with
      | false=>rw[hd]at ht;exact ht.elim
      | true=>
       rw[hd]at ht;exact Qqy dj hj e1 hd (ih _ _ _ ρ _ As ht ⟨hs.le,hs.sr.set QcI,hs.hp,hs.fr⟩)
     ·exact ht.elim
    ·exact ht.elim
   ·exact ht.elim
end
end Ev
end Gx
namespace Gx
open Go Go.RowKit
section
variable{X:Ctx}{ops:Array Oper}{k:List KI}{L:Qc}{C:World->Prop}
theorem QoS{α:Type}(m dj dp:Nat)(b:Bool)(v:α->Bool)(CJ:α->World->Prop)(I:α->Prop){l:List Oper}(hb:Qc.get L dj=some (.bool b))
  (h1:b=true->O X ops (l.take m) (.join (AtI X.n X.df (λx:α=>(dp,.bool (v x))::L) CJ I)::k) L C)
  (h0:b=false->O X ops (l.take m) (.join (AtI X.n X.df (λx:α=>(dp,.bool (v x))::L) CJ I)::k) L C)
  (h2:∀x,I x->O X ops (l.drop m) k ((dp,.bool (v x))::L) (CJ x)):O X ops l k L C:=by
 intro a w ha hw
 have hh:O X ops (l.take m) (.join (AtI X.n X.df (λx:α=>(dp,.bool (v x))::L) CJ I)::k) L C:=by
  cases b with
  | true=>exact h1 rfl
  | false=>exact h0 rfl
 have:=Zw (Q:=post X k) _ (l.drop m) a w (hh a w ha hw) (λa w⟨x,hI,hx,hc⟩=>h2 x hI a w hx hc) (λe a w he h=>Qb0 e a w he h)
 rwa[List.take_append_drop]at this
end
end Gx
namespace Gx
open Go Go.RowKit
section
variable{P:Program}{o:Oper}{L:Qc}{w0:World}{M:List Nat}{As:List HA}
theorem QoL{G:Type}{V:G->Value}{F:G->Prop}{Bs:G->List HA}{Cs Ds:List HA}{x:Operand}{args:Array Operand}{vs:List Value}{ts:Array TypeId}{l:Nat}(ho:o.op=.call {callee:=.value x,args:=args,argTypes:=ts})(hx:ev L x=some (.func (.yield l) #[] #[]))
  (ha:evs L args.toList=some vs)(hp:Qaw As Cs Ds)(hy:∀w,HS w0 M As w->HS w (fps Cs) Cs w->Zu P l vs.toArray w λe w'=>∃g,e=.returned (V g)/\F g/\HS w (fps Cs) (Bs g) w'):OpH P o L (HS w0 M As) V F (λg=>HS w0 M (Bs g++Ds)):=
 QlY (C:=HS w0 M As) ho hx ha λw hw=>by
  obtain⟨f,tmps,assign,body,hr,hR⟩:=hy w hw (HS.focus (hw.perm hp));refine⟨f,tmps,assign,body,hr,RoundIn.mono hR λe w'⟨g,he,hf,hc⟩=>⟨g,he,hf,?_⟩⟩;exact HS.callM (hw.perm hp) (λb hb=>by obtain⟨A,hA,hb⟩:=List.mem_flatMap.1 hb;exact⟨A,hA,hb⟩) hc
end
def Qwa(fid:FuncId)(tmps:Array Value)(ps:Array Tmp)(assign body:Code)(D:Nat):Option Nat->Obj
 | none=>.loop (rdy fid tmps ps assign body D)
 | some id=>.loop {rdy fid tmps ps assign body D with state:=.done,pending:=some (.exit id)}
section
variable{X:Ctx}{k:List KI}{L:Qc}{w0:World}{M:List Nat}{As As':List HA}
def rngK(k:List KI):Option Nat->List KI
 | none=>k
 | some id=>.c (.exit id)::k
theorem Qnl{id:Nat}{j:Option Nat}(hj:j=none\/j=some id)(h:S X k L (HS w0 M As)):S X (rngK (.blk id::k) j) L (HS w0 M As):=by
 rcases hj with rfl|rfl
 ·exact QoO h
 ·exact Qg (show(bif Nat.beq id id then some k else Qhr id k)=some k from by rw[Nat.beq_refl];rfl) h
theorem Qji{g:Operand}{ps:Array Tmp}{assign body:Code}{gf:FuncId}{fa lb:Array Value}{G:Type}{Bs:G->List HA}{jmp:G->Option Nat}(hrd:X.rd=none)(hdf:X.df=[])(hg:ev L g=some (.func (.func gf) fa lb))(hfn:QJ X.P gf=true)
  (hit:∀(fid:FuncId)(D l:Nat)(a:Act)(w1:World)(ob:Obj),ob=.loop (rdy fid a.tmps ps assign body D)->FR X.n [] L a->HS w0 M (.obj l ob::.obj D (.deferred (some []))::As) w1 ->
   Calls X.P gf (fa++ #[.func (.yield l) #[] #[]]++lb) w1 λe w2=>(∃v,e=.returned v)/\∃x,HS w0 M (.obj l (Qwa fid a.tmps ps assign body D (jmp x))::.obj D (.deferred (some []))::Bs x) w2)
  (next:∀D x,S {X with df:=[D]} (rngK k (jmp x)) L (HS w0 M (.obj D (.deferred (some []))::Bs x))):S X (.c (.rangeFunc g ps assign body)::k) L (HS w0 M As):=by
 intro a w ha hw;have ha0:FR X.n [] L a:=by rw[<-hdf];exact ha
 refine wpIn_rangeFunc (F:=X.F) (n:=0) λfid _=>?_;have hro:X.F.round=none:=hrd;rw[hro];have hw1:=(hw.allocObj (.deferred (some []))).allocObj (.loop (rdy fid a.tmps ps assign body w.heap.size));rw[World.size_alloc]at hw1;have hen:=run_enterLoop_outer (P:=X.P) (w:=w) fid a.tmps ps assign body;obtain⟨W1,hW1⟩:∃W1,(w.alloc (.deferred (some []))).alloc (.loop (rdy fid a.tmps ps assign body w.heap.size))=W1:=⟨_,rfl⟩;rw[hW1]at hw1;rw[show(Loop.mk .ready none fid a.tmps ps assign body w.heap.size)=rdy fid a.tmps ps assign body w.heap.size from rfl,hW1]at hen
 refine⟨w.heap.size+1,[{target:=.collected w.heap.size,args:=#[]}],W1,{target:=.fn (.func gf) lb,args:=fa++ #[.func (.yield (w.heap.size+1)) #[] #[]]},W1,gf,
  fa++ #[.func (.yield (w.heap.size+1)) #[] #[]]++lb,W1,hen,?_,λ_ _=>trivial,?_,λh=>(by cases h),?_⟩
 ·simp only[resolve,ha.evl hg];simp[go_sem]
 ·simp[invoke,go_sem,Qen hfn]
 ·refine CallsIn.mono (X.callsIn (hit fid _ _ a _ _ rfl ha0 hw1)) λe w2 he=>?_;obtain⟨⟨v,rfl⟩,x,hx⟩:=he;have h3:=next w.heap.size x {a with defers:=[{target:=.collected w.heap.size,args:=#[]}]++a.defers}
  have hfr:FR X.n [w.heap.size] L {a with defers:=[{target:=.collected w.heap.size,args:=#[]}]++a.defers}:=⟨by show _++a.defers=_;rw[ha0.defers];rfl,ha0.size,ha0.slot⟩;cases hj:jmp x with
  | none=>
   rw[hj]at hx h3;refine⟨none,_,run_endLoop (hx.obj_get .here) (by simp[rdy]),?_⟩;have h4:=h3 _ hfr (hx.putObj .here (.loop {rdy fid a.tmps ps assign body w.heap.size with state:=.exhausted})).tail;rw[QdG]at h4;exact h4
  | some id=>
   rw[hj]at hx h3;refine⟨some (.exit id),_,run_endLoop (hx.obj_get .here) (by simp),?_⟩;have h4:=h3 _ hfr (hx.putObj .here (.loop {rdy fid a.tmps ps assign body w.heap.size with state:=.exhausted,pending:=some (.exit id)})).tail;rw[QdG]at h4;exact h4
end
theorem HS.callA{w0 w1 w2:World}{M:List Nat}{A:HA}{Ds Bs:List HA}(h:HS w0 M (A::Ds) w1)(hc:HS w1 (fps [A]) Bs w2):HS w0 M (Bs++Ds) w2:=
 HS.callM (Cs:=[A]) (As:=Ds) h (λb hb=>by obtain⟨A,hA,hb⟩:=List.mem_flatMap.1 hb;exact⟨A,hA,hb⟩) hc
theorem QqQ{α:Type}{P:Program}{fn:Func}{n l D:Nat}{fid:FuncId}{tmps:Array Value}{ps:Array Tmp}{assign body:Code}{args:Array Value}{L0:Qc}{L1:α->Qc}{w0 W:World}{M:List Nat}{As:List HA}{As1:α->List HA}{Rr:Ending->World->Prop}
  (hC:HS w0 M (.obj l (.loop (rdy fid tmps ps assign body D))::As) W)(hps:args.size=ps.size)(hf:FR n [] L0 {tmps:=(ps.zip args).foldl (λt(p,v)=>t.setIfInBounds p v) tmps,defers:=[]})
  (h1:S {P:=P,fn:=fn,n:=n,R:=λ_ _=>False,rd:=some l} [.c assign,.join (At n [] L1 (λx=>HS w0 M (.obj l (.loop (rdy fid tmps ps assign body D))::As1 x)))] L0 (HS w0 M (.obj l (.loop (rdy fid tmps ps assign body D))::As)))
  (h2:∀x,S {P:=P,fn:=fn,n:=n,R:=Rr,rd:=some l} [.c body] (L1 x) (HS w0 M (.obj l (.loop {rdy fid tmps ps assign body D with state:=.busy})::As1 x))):Zu P l args W Rr:=by
 refine⟨fid,_,assign,body,run_yield (hC.obj_get .here) hps,roundIn_of_wpIn trivial ?_⟩;refine wpIn_mono (h1 _ W hf hC) λe a w he=>?_;cases e with
 | normal=>
  obtain⟨x,hfr,hc⟩:=he;exact⟨_,run_beginRound (hc.obj_get .here) rfl,h2 x _ _ hfr (hc.putObj .here _)⟩
 | ret=>obtain⟨v,w',_,hx⟩:=he;exact hx
 | exit id=>obtain⟨v,w',_,hx⟩:=he;exact hx
 | goto t=>obtain⟨v,w',_,hx⟩:=he;exact hx
 | panic ch=>exact he
 | outgrown=>exact he
inductive RunY{S α:Type}(st:S->α->S->Prop)(co:S->Bool):S->List α->S->Bool->Prop
 | nil (s:S):RunY st co s [] s true
 | go {s s' s'':S} {x:α} {l:List α} {b:Bool} (h:st s x s') (hc:co s'=true) (hr:RunY st co s' l s'' b):RunY st co s (x::l) s'' b
 | stop {s s':S} {x:α} {l:List α} (h:st s x s') (hc:co s'=false):RunY st co s (x::l) s' false
section
variable{S α:Type}{st:S->α->S->Prop}{co:S->Bool}{s s1 s2:S}{A B:List α}{b:Bool}
theorem RunY.app(h:RunY st co s A s1 true)(h2:RunY st co s1 B s2 b):RunY st co s (A++B) s2 b:=by
 generalize hb:true=c at h
 induction h with
 | nil s=>exact h2
 | go h hc _ ih=>exact .go h hc (ih h2 hb)
 | stop h hc=>cases hb
theorem RunY.off(h:RunY st co s A s1 false)(B:List α):RunY st co s (A++B) s1 false:=by
 generalize hb:false=c at h
 induction h with
 | nil s=>cases hb
 | go h hc _ ih=>exact .go h hc (ih hb)
 | stop h hc=>exact .stop h hc
theorem RunY.one{x:α}(h:st s x s1):RunY st co s [x] s1 (co s1):=by
 cases hc:co s1 with
 | true=>exact .go h hc (.nil s1)
 | false=>exact .stop h hc
end
end Gx
namespace Gx
namespace Ev
open Go Go.RowKit
noncomputable def QmE(b:SF)(m:Nat):SF:=Nat.rec (λ_ _ _ _=>.bad) (λ_ ih F T H n=>match b F T H n with
 | .nm T H n=>ih F T H n
 | r=>r) m
noncomputable def Yh(P:Program)(nt m:Nat)(Dr:Nat->Array Oper->CS):Code->CS
 | .skip=>⟨λ_ T H n=>.nm T H n⟩
 | .label _=>⟨λ_ T H n=>.nm T H n⟩
 | .region _ ⟨ops⟩ false=>Qbl P nt ⟨ops⟩ ops
 | .region _ ⟨ops⟩ true=>Dr nt ⟨ops⟩
 | .seq a b=>⟨λF T H n=>match(Yh P nt m Dr a).run F T H n with
  | .nm T H n=>(Yh P nt m Dr b).run F T H n
  | r=>r⟩
 | .cond x a b=>⟨λF T H n=>match(XQ x).run T with
  | some (.bool t)=>Bool.rec ((Yh P nt m Dr b).run F T H n) ((Yh P nt m Dr a).run F T H n) t
  | _=>.bad⟩
 | .block id b=>⟨λF T H n=>match(Yh P nt m Dr b).run F T H n with
  | .ex i T H n=>bif Nat.beq i id then .nm T H n else .ex i T H n
  | r=>r⟩
 | .loop b=>⟨QmE (Yh P nt m Dr b).run m⟩
 | .exit i=>⟨λ_ T H n=>.ex i T H n⟩
 | .ret=>⟨λ_ T H n=>.rt T H n⟩
 | _=>noC
def Qlh(P:Program)(Dr:Nat->Array Oper->CS):Prop:=∀(l:List Oper)(id:Nat)(r0:Rho)(w0:World)(X:Ctx)(k:List KI)(F:CallF)(T:Tr Value)(H:Hp)(n:Nat)(ρ:Rho)(L':Qc)(As:List HA),X.P=P->CallOk P r0 F->Q9 r0 w0 ρ X k ((Dr X.n ⟨l⟩).run F T H n)->StOk r0 w0 ρ ⟨T,H,n⟩ L' As->S X (.c (.region id ⟨l⟩ true)::k) L' (HS w0 [] As)
section
variable{P:Program}{r0:Rho}{w0:World}{X:Ctx}{m:Nat}{Dr:Nat->Array Oper->CS}
theorem Qby{x:KI}{k:List KI}{L:Qc}{C:World->Prop}(h:SE X .ret k L C):SE X .ret (x::k) L C:=by
 rcases x with c|id|J
 ·exactλa w ha hw=>h a w ha hw
 ·exactλa w ha hw=>h a w ha hw
 ·exactλa w ha hw=>h a w ha hw
def reS(L:Qc):Qc->Qc
 | []=>[]
 | (t,_)::h=>match Qc.get L t with
  | some v=>(t,v)::reS L h
  | none=>reS L h
theorem Qic(L:Qc):∀h,QbG L (reS L h)
 | []=>trivial
 | (t,x)::h=>by
  simp only[reS];split
  ·rename_i v hv;exact⟨hv,Qic L h⟩
  ·exact Qic L h
theorem Qmq{L:Qc}{t:Nat}{v:Value}(hv:Qc.get L t=some v):∀h x,Qc.get h t=some x->Qc.get (reS L h) t=some v
 | [],x,hx=>by cases hx
 | (k,y)::h,x,hx=>by
  simp only[Qc.get]at hx;simp only[reS];cases hb:Nat.beq k t with
  | true=>simp_all[Qc.get]
  | false=>
   rw[hb]at hx;have ih:=Qmq hv h x hx
   grind[Qc.get]
theorem SR.clean{ρ:Rho}{L:Env}{L':Qc}(h:SR ρ L L'):SR ρ L (reS L' L')/\QbG L' (reS L' L'):=
 ⟨λt v hv=>by
  obtain⟨u,h1,h2⟩:=h t v hv;exact⟨u,Qmq h1 _ _ h1,h2⟩,Qic _ _⟩
theorem Q9.seq{c:Code}{k:List KI}{ρ:Rho}(b:CS){F:CallF}(ih:∀T H n ρ L' As,Q9 r0 w0 ρ X k (b.run F T H n)->StOk r0 w0 ρ ⟨T,H,n⟩ L' As->S X (.c c::k) L' (HS w0 [] As)):∀{r:Rs},Q9 r0 w0 ρ X k (match r with
  | .nm T H n=>b.run F T H n
  | r=>r)->Q9 r0 w0 ρ X (.c c::k) r
 | .bad,h=>h.elim
 | .nm T H n,h=>λρ2 L2 As2 hle hs2=>ih _ _ _ _ _ _ (Q9.mono hle h) hs2
 | .ex i T H n,h=>λρ2 L2 As2 hle hs2=>QeB (h ρ2 L2 As2 hle hs2)
 | .rt T H n,h=>λρ2 L2 As2 hle hs2=>Qby (h ρ2 L2 As2 hle hs2)
theorem Q9.blk{id:Nat}{k:List KI}{ρ:Rho}:∀{r:Rs},Q9 r0 w0 ρ X k (match r with
  | .ex i T H n=>bif Nat.beq i id then .nm T H n else .ex i T H n
  | r=>r)->Q9 r0 w0 ρ X (.blk id::k) r
 | .bad,h=>h.elim
 | .nm T H n,h=>λρ2 L2 As2 hle hs2=>QoO (h ρ2 L2 As2 hle hs2)
 | .ex i T H n,h=>λρ2 L2 As2 hle hs2=>by
  simp only[]at h;cases hb:Nat.beq i id with
  | true=>
   rw[hb]at h;have hi:=Nat.eq_of_beq_eq_true hb;subst hi;exact QdZ (h ρ2 L2 As2 hle hs2)
  | false=>
   rw[hb]at h;exact Qek hb (h ρ2 L2 As2 hle hs2)
 | .rt T H n,h=>λρ2 L2 As2 hle hs2=>Qby (h ρ2 L2 As2 hle hs2)
theorem QoV{c:Code}{b:SF}{F:CallF}{k:List KI}(ih:∀(k:List KI)T H n ρ L' As,Q9 r0 w0 ρ X k (b F T H n)->StOk r0 w0 ρ ⟨T,H,n⟩ L' As->S X (.c c::k) L' (HS w0 [] As)){m:Nat}{T:Tr Value}{H:Hp}{n:Nat}{ρ:Rho}{L':Qc}{As:List HA}
  (ht:Q9 r0 w0 ρ X k (QmE b m F T H n))(hs:StOk r0 w0 ρ ⟨T,H,n⟩ L' As):S X (.c (.loop c)::k) L' (HS w0 [] As):=by
 let α:={x:Nat×St×Rho×Qc×List HA // Q9 r0 w0 x.2.2.1 X k (QmE b x.1 F x.2.1.T x.2.1.H x.2.1.n)/\StOk r0 w0 x.2.2.1 x.2.1 x.2.2.2.1 x.2.2.2.2}
 obtain⟨f1,f2⟩:=hs.sr.clean;refine Qpx (α:=α) (λx=>x.1.2.2.2.1) (λx=>HS w0 [] x.1.2.2.2.2) (λx=>x.1.1) ⟨(m,⟨T,H,n⟩,ρ,_,As),ht,⟨hs.le,f1,hs.hp,hs.fr⟩⟩ f2 (λ_ h=>h) ?_;rintro⟨⟨m1,⟨T1,H1,n1⟩,ρ1,L1,As1⟩,h1,h2⟩;cases m1 with
 | zero=>exact h1.elim
 | succ m1=>
  refine ih _ T1 H1 n1 ρ1 L1 As1 ?_ h2
  have h3:Q9 r0 w0 ρ1 X k (match b F T1 H1 n1 with
   | .nm T H n=>QmE b m1 F T H n
   | r=>r):=h1
  cases hr:b F T1 H1 n1 with
  | bad=>rw[hr]at h3;exact h3.elim
  | nm T2 H2 n2=>
   rw[hr]at h3;intro ρ2 L2 As2 hle hs2;obtain⟨g1,g2⟩:=hs2.sr.clean;exact QuF (⟨(m1,⟨T2,H2,n2⟩,ρ2,_,As2),Q9.mono hle h3,⟨hs2.le,g1,hs2.hp,hs2.fr⟩⟩:α) (Nat.lt_succ_self m1) g2 (λ_ h=>h)
  | ex i T2 H2 n2=>
   rw[hr]at h3;exactλρ2 L2 As2 hle hs2=>Qep (h3 ρ2 L2 As2 hle hs2)
  | rt T2 H2 n2=>
   rw[hr]at h3;exactλρ2 L2 As2 hle hs2=>Qby (h3 ρ2 L2 As2 hle hs2)
theorem Q8{F:CallF}(hF:CallOk P r0 F)(hD:Qlh P Dr)(hP:X.P=P):∀(c:Code)(k:List KI)(T:Tr Value)(H:Hp)(n:Nat)(ρ:Rho)(L':Qc)(As:List HA),Q9 r0 w0 ρ X k ((Yh P X.n m Dr c).run F T H n)->StOk r0 w0 ρ ⟨T,H,n⟩ L' As->S X (.c c::k) L' (HS w0 [] As)
 | .skip,k,T,H,n,ρ,L',As,ht,hs=>QpF (ht ρ L' As ρ.le_refl hs)
 | .label _,k,T,H,n,ρ,L',As,ht,hs=>Qq4 (ht ρ L' As ρ.le_refl hs)
 | .region _ ⟨ops⟩ false,k,T,H,n,ρ,L',As,ht,hs=>QiV (QfD hF hP ops T H n ρ L' As ht hs)
 | .region id ⟨ops⟩ true,k,T,H,n,ρ,L',As,ht,hs=>hD ops id r0 w0 X k F T H n ρ L' As hP hF ht hs
 | .seq a b,k,T,H,n,ρ,L',As,ht,hs=>Qlv (Q8 hF hD hP a _ T H n ρ L' As (Q9.seq (Yh P X.n m Dr b) (Q8 hF hD hP b k) ht) hs)
 | .cond x a b,k,T,H,n,ρ,L',As,ht,hs=>by
  simp only[Yh,QW]at ht;split at ht
  ·rename_i t hx;have hx':=Qj hs.sr hx rfl;cases t with
   | true=>exact Qgm hx' (λ_=>Q8 hF hD hP a k T H n ρ L' As ht hs) (λh=>by cases h)
   | false=>exact Qgm hx' (λh=>by cases h) (λ_=>Q8 hF hD hP b k T H n ρ L' As ht hs)
  ·exact ht.elim
 | .block id b,k,T,H,n,ρ,L',As,ht,hs=>Qio (Q8 hF hD hP b _ T H n ρ L' As (Q9.blk ht) hs)
 | .loop b,k,T,H,n,ρ,L',As,ht,hs=>QoV (λk=>Q8 hF hD hP b k) ht hs
 | .exit i,k,T,H,n,ρ,L',As,ht,hs=>QoA (ht ρ L' As ρ.le_refl hs)
 | .ret,k,T,H,n,ρ,L',As,ht,hs=>Qqo (ht ρ L' As ρ.le_refl hs)
 | .rangeFunc _ _ _ _,_,_,_,_,_,_,_,ht,_=>ht.elim
 | .scope _,_,_,_,_,_,_,_,ht,_=>ht.elim
 | .goto _,_,_,_,_,_,_,_,ht,_=>ht.elim
 | .refuse _,_,_,_,_,_,_,_,ht,_=>ht.elim
end
def Rho.wx(ρ:Rho)(e:List HA):Rho:=⟨ρ.f,e⟩
theorem SR.wx{ρ:Rho}{L:Env}{L':Qc}(h:SR ρ L L')(e:List HA):SR (ρ.wx e) L L':=h
noncomputable def noY:Qpl:=λ_ _ _ _=>none
theorem Qdy{P:Program}{r0:Rho}:YOk P r0 noY:=λ_ _ _ _ _ _ _ h=>by cases h
noncomputable def Qmx(nt:Nat):List Nat->List Value->Tr Value->Option (Tr Value)
 | [],[],T=>some T
 | p::ps,v::vs,T=>bif Nat.blt p nt then Qmx nt ps vs (Yr (pth p) p v T)else none
 | _,_,_=>none
noncomputable def Qlj(ca cb:SF)(nt:Nat)(ps:List Nat)(F:CallF)(T0:Tr Value)(nm:Nat):Qpl:=λk vs H n=>bif Nat.beq k nm then(match Qmx nt ps vs T0 with
 | some T1=>(match ca ⟨F.f,F.e,noY⟩ T1 H n with
  | .nm T2 H2 n2=>(match cb ⟨F.f,F.e,noY⟩ T2 H2 n2 with
   | .nm _ H3 n3=>some (.bool true,H3,n3)
   | _=>none)
  | _=>none)
 | none=>none)else none
noncomputable def Qf7(P:Program)(g:Operand)(ca cb:SF)(nt:Nat)(ps:List Nat):CS:=⟨λF T H n=>match(XQ g).run T with
 | some (.func (.func gf) ⟨la⟩ ⟨lb⟩)=>bif QJ P gf then(match F.f (Qlj ca cb nt ps F T n) gf (la++(.func (.yield n) #[] #[]::lb)) H (Nat.succ n)with
  | some (_,H',n')=>.nm T H' n'
  | none=>.bad)else .bad
 | _=>.bad⟩
def Qie:Code->Bool
 | .rangeFunc _ _ _ _=>true
 | .seq a b=>Qie a||Qie b
 | .cond _ a b=>Qie a||Qie b
 | .block _ b=>Qie b
 | _=>false
noncomputable def QaB(P:Program)(nt m:Nat)(Dr:Nat->Array Oper->CS):Code->CS
 | .seq a b=>Bool.rec (Bool.rec (Yh P nt m Dr (.seq a b)) ⟨λF T H n=>match(Yh P nt m Dr a).run F T H n with
   | .nm T H n=>(QaB P nt m Dr b).run F T H n
   | r=>r⟩ (Qie b)) ⟨λF T H n=>match(QaB P nt m Dr a).run F T H n with
   | .nm T H n=>(Yh P nt m Dr b).run ⟨F.f,F.e,noY⟩ T H n
   | r=>r⟩ (Qie a)
 | .cond x a b=>⟨λF T H n=>match(XQ x).run T with
  | some (.bool t)=>Bool.rec ((QaB P nt m Dr b).run F T H n) ((QaB P nt m Dr a).run F T H n) t
  | _=>.bad⟩
 | .block id b=>⟨λF T H n=>match(QaB P nt m Dr b).run F T H n with
  | .ex i T H n=>bif Nat.beq i id then .nm T H n else .ex i T H n
  | r=>r⟩
 | .rangeFunc g ⟨ps⟩ assign body=>Qf7 P g (Yh P nt m Dr assign).run (Yh P nt m Dr body).run nt ps
 | c=>Yh P nt m Dr c
theorem Qml{ρ:Rho}{n:Nat}:∀{ps:List Nat}{vs us:List Value}{T T1:Tr Value}{L:Qc}{t:Array Value},Qmx n ps vs T=some T1->Qx (den ρ) vs=some us->SR ρ (en T) L->FR n [] L {tmps:=t,defers:=[]} ->
  ∃L1,SR ρ (en T1) L1/\FR n [] L1 {tmps:=(ps.zip us).foldl (λt(p,v)=>t.setIfInBounds p v) t,defers:=[]}/\us.length=ps.length
 | [],[],us,T,T1,L,t,h,hm,hs,hf=>by
  injection h with h
  cases hm;subst h;exact⟨L,hs,hf,rfl⟩
 | p::ps,v::vs,us,T,T1,L,t,h,hm,hs,hf=>by
  simp only[Qmx]at h;obtain⟨hb,h⟩:=bif_in h;simp only[Qx]at hm;split at hm
  ·rename_i u us' h1 h2;injection hm with hm
   subst hm;have hf1:=hf.put p u hb;obtain⟨L1,g1,g2,g3⟩:=Qml (t:=t.setIfInBounds p u) h h2 (hs.set h1) ⟨rfl,hf1.size,hf1.slot⟩;exact⟨L1,g1,g2,by simp[g3]⟩
  ·cases hm
 | [],_::_,_,_,_,_,_,h,_,_,_=>by cases h
 | _::_,[],_,_,_,_,_,h,_,_,_=>by cases h
theorem QnX{α:Type}{P:Program}{fn:Func}{n l D:Nat}{fid:FuncId}{tmps:Array Value}{ps:Array Tmp}{assign body:Code}{args:Array Value}{L0:Qc}{LJ:α->Qc}{AJ:α->List HA}{w0 W:World}{As:List HA}{Rr:Ending->World->Prop}
  (hC:HS w0 [] (.obj l (.loop (rdy fid tmps ps assign body D))::As) W)(hps:args.size=ps.size)(hf:FR n [] L0 {tmps:=(ps.zip args).foldl (λt(p,v)=>t.setIfInBounds p v) tmps,defers:=[]})
  (h1:S {P:=P,fn:=fn,n:=n,R:=λ_ _=>False,rd:=some l} [.c assign,.join (At n [] LJ (λx=>HS w0 [] (.obj l (.loop (rdy fid tmps ps assign body D))::AJ x)))] L0 (HS w0 [] (.obj l (.loop (rdy fid tmps ps assign body D))::As)))
  (h2:∀x,S {P:=P,fn:=fn,n:=n,R:=Rr,rd:=some l} [.c body] (LJ x) (HS w0 [] (.obj l (.loop {rdy fid tmps ps assign body D with state:=.busy})::AJ x))):Zu P l args W Rr:=by
 refine⟨fid,_,assign,body,run_yield (hC.obj_get .here) hps,roundIn_of_wpIn trivial ?_⟩;refine wpIn_mono (h1 _ W hf hC) λe a w he=>?_;cases e with
 | normal=>
  obtain⟨x,hfr,hc⟩:=he;exact⟨_,run_beginRound (hc.obj_get .here) rfl,h2 x _ _ hfr (hc.putObj .here _)⟩
 | ret=>obtain⟨v,w',_,hx⟩:=he;exact hx
 | exit id=>obtain⟨v,w',_,hx⟩:=he;exact hx
 | goto t=>obtain⟨v,w',_,hx⟩:=he;exact hx
 | panic ch=>exact he
 | outgrown=>exact he
section
variable{P:Program}{r0:Rho}{w0:World}{X:Ctx}{m:Nat}{Dr:Nat->Array Oper->CS}
theorem HM.split{ρ:Rho}{H:Hp}{As:List HA}(h:HM ρ H As):∃Bs,As=Bs++ρ.ex/\∀e,HM (ρ.wx e) H (Bs++e):=by
 obtain⟨G,Bs,h1,h2,h3⟩:=h;exact⟨Bs,h3,λe=>⟨G,Bs,h1,h2,rfl⟩⟩
theorem QmP{fn:Func}{nt l D:Nat}{fid:FuncId}{tmps:Array Value}{ps:List Nat}{assign body:Code}{T0:Tr Value}{nm d:Nat}{r1:Rho}{rest:List HA}{L:Qc}{F:CallF}(hF:∀r,CallOk P r ⟨F.f,F.e,noY⟩)(hD:Qlh P Dr)
  (hn:r1 nm=some (l,d))(hex:r1.ex=.obj l (.loop (rdy fid tmps ⟨ps⟩ assign body D))::rest)(hf:FR nt [] L {tmps:=tmps,defers:=[]})(hs:SR r1 (en T0) L):YOk P r1 (Qlj (Yh P nt m Dr assign).run (Yh P nt m Dr body).run nt ps F T0 nm):=by
 intro k vs H n v H' n' h w0 ρ us As hle hus hH hfr;unfold Qlj at h;have hk:Nat.beq k nm=true:=by grind
 rw[hk]at h;simp only[cond_true]at h;have hk:=Nat.eq_of_beq_eq_true hk;subst hk;refine⟨(l,d),hle.1 _ _ hn,?_⟩;split at h
 ·rename_i T1 hb;split at h
  ·rename_i T2 H2 n2 ha;split at h
   ·rename_i T3 H3 n3 hc;injection h with h
    injection h with e1 e2
    injection e2 with e2 e3
    subst e1 e2 e3;obtain⟨L1,g1,g2,g3⟩:=Qml hb hus (hs.mono hle) hf;intro w hw;have hρe:ρ.ex=.obj l (.loop (rdy fid tmps ⟨ps⟩ assign body D))::rest:=by rw[hle.2,hex]
    obtain⟨Bs,hAs,hBs⟩:=hH.split
    let α:={x:Rho×List HA×Qc×List HA // ρ.le x.1/\StOk x.1 w0 x.1 ⟨T2,H2,n2⟩ x.2.2.1 x.2.1/\x.2.1=x.2.2.2++x.1.ex}
    refine QnX (fn:=fn) (n:=nt) (α:=α) (L0:=L1) (As:=Bs++rest) (LJ:=λx=>x.1.2.2.1) (AJ:=λx=>x.1.2.2.2++rest) (hw.perm (by rw[hAs,hρe];exact List.perm_middle)) (by simp[g3]) (by simpa using g2) ?_ ?_
    ·have hA:=Q8 (r0:=ρ) (w0:=w0) (X:={P:=P,fn:=fn,n:=nt,R:=λ_ _=>False,rd:=some l}) (m:=m) (hF ρ) hD rfl assign [.join (At nt [] (λx:α=>x.1.2.2.1) (λx=>HS w0 [] (.obj l (.loop (rdy fid tmps ⟨ps⟩ assign body D))::(x.1.2.2.2++rest))))] T1 H n ρ L1 As (by
      rw[ha];intro ρ2 L2 As2 hle2 hs2;obtain⟨Bs2,k1,k2⟩:=hs2.hp.split;intro a9 w9 ha9 hw9
      have hpm:As2.Perm (.obj l (.loop (rdy fid tmps ⟨ps⟩ assign body D))::(Bs2++rest)):=by
       rw[k1,hle2.2,hρe];exact List.perm_middle
      exact⟨(⟨(ρ2,As2,L2,Bs2),hle2,⟨ρ2.le_refl,hs2.sr,hs2.hp,hs2.fr⟩,k1⟩:α),ha9,hw9.perm hpm⟩) ⟨ρ.le_refl,g1,hH,hfr⟩
     intro a9 w9 ha9 hw9;exact hA a9 w9 ha9 (hw9.perm (by rw[hAs,hρe];exact List.perm_middle.symm))
    ·rintro⟨⟨ρ2,As2,L2,Bs2⟩,q1,q2,q3⟩;simp only[]at q1 q2 q3;have hρ2:ρ2.ex=.obj l (.loop (rdy fid tmps ⟨ps⟩ assign body D))::rest:=by rw[q1.2,hρe]
     obtain⟨Bs2',k1,k2⟩:=q2.hp.split;have hbb:Bs2'=Bs2:=List.append_cancel_right (k1.symm.trans q3);subst hbb
     have hB:=Q8 (r0:=ρ2.wx (.obj l (.loop {rdy fid tmps ⟨ps⟩ assign body D with state:=.busy})::rest)) (w0:=w0) (X:={P:=P,fn:=fn,n:=nt,R:=QlN w0 ρ (.bool true) H3 n3,rd:=some l}) (m:=m) (hF _) hD rfl body [] T2 H2 n2 (ρ2.wx (.obj l (.loop {rdy fid tmps ⟨ps⟩ assign body D with state:=.busy})::rest)) L2 (Bs2'++(.obj l (.loop {rdy fid tmps ⟨ps⟩ assign body D with state:=.busy})::rest)) (by
      rw[hc];intro ρ3 L3 As3 hle3 hs3;obtain⟨Bs3,j1,j2⟩:=hs3.hp.split;have hρ3:ρ3.ex=.obj l (.loop {rdy fid tmps ⟨ps⟩ assign body D with state:=.busy})::rest:=hle3.2;refine Qi2 (As':=Bs3++rest) rfl (by rw[j1,hρ3];exact List.perm_middle) λw9 hw9=>?_;refine⟨ρ3.wx (.obj l (.loop (rdy fid tmps ⟨ps⟩ assign body D))::rest),Bs3++(.obj l (.loop (rdy fid tmps ⟨ps⟩ assign body D))::rest),.bool true,⟨λn9 x9 h9=>hle3.1 _ _ (q1.1 _ _ h9),by rw[hρe];rfl⟩,hs3.fr,rfl,j2 _,rfl,hw9.perm List.perm_middle.symm⟩) ⟨Rho.le_refl _,q2.sr,k2 _,q2.fr⟩
     intro a9 w9 ha9 hw9;exact hB a9 w9 ha9 (hw9.perm List.perm_middle.symm)
   ·cases h
  ·cases h
 ·cases h
def RB(w0:World)(ρ:Rho)(X:Ctx)(k:List KI)(r:Rs):Prop:=∀(D:Nat)(ρ1:Rho),(∀n x,ρ n=some x->ρ1 n=some x)->ρ1.ex=.obj D (.deferred (some []))::ρ.ex->Q9 ρ1 w0 ρ1 {X with df:=[D]} k r
theorem RB.mono{ρ ρ':Rho}{k:List KI}{r:Rs}(h:RB w0 ρ X k r)(hle:ρ.le ρ'):RB w0 ρ' X k r:=λD ρ1 h1 h2=>h D ρ1 (λn x hx=>h1 n x (hle.1 n x hx)) (by rw[h2,hle.2])
theorem QmS{F:CallF}(hF:CallOk P r0 F)(hD:Qlh P Dr)(hP:X.P=P)(hrd:X.rd=none)(hdf:X.df=[]){g:Operand}{ps:List Nat}{assign body:Code}{k:List KI}{T:Tr Value}{H:Hp}{n:Nat}{ρ:Rho}{L':Qc}{As:List HA}
  (hB:RB w0 ρ X k ((Qf7 P g (Yh P X.n m Dr assign).run (Yh P X.n m Dr body).run X.n ps).run F T H n))(hB0:(Qf7 P g (Yh P X.n m Dr assign).run (Yh P X.n m Dr body).run X.n ps).run F T H n≠ .bad)(hs:StOk r0 w0 ρ ⟨T,H,n⟩ L' As):S X (.c (.rangeFunc g ⟨ps⟩ assign body)::k) L' (HS w0 [] As):=by
 subst hP;have hF0:∀r,CallOk X.P r ⟨F.f,F.e,noY⟩:=λr=>⟨hF.f,hF.e,Qdy⟩;unfold Qf7 at hB hB0;simp only[QW]at hB hB0;split at hB0
 ·rename_i gf la lb hx;rw[hx]at hB;simp only[]at hB;cases hfn:QJ X.P gf with
  | false=>rw[hfn]at hB0;exact absurd rfl hB0
  | true=>
   rw[hfn]at hB hB0;simp only[cond_true]at hB hB0;split at hB0
   ·rename_i v H' n' hr;rw[hr]at hB;simp only[]at hB;obtain⟨u,e1,e2⟩:=Y3 hs.sr hx;simp only[den,Xp,QU,Qc9]at e2;split at e2
    ·rename_i f' a' lb' g1 g2 g3;injection g1 with g1
     injection e2 with e2
     subst g1 e2;obtain⟨Bs0,hAs,hBs0⟩:=hs.hp.split;have hAs:As=Bs0++ρ.ex:=hAs
     let G:={x:(Nat->Option (Nat×Nat))×List HA // (∀n y,ρ n=some y->x.1 n=some y)/\(∀k,n'<=k->x.1 k=none)/\∃Bs,x.2=Bs++ρ.ex/\∀e,HM ⟨x.1,e⟩ H' (Bs++e)}
     refine Qji (gf:=gf) (fa:=a'.toArray) (lb:=lb'.toArray) (G:=G) (Bs:=λx=>x.1.2) (jmp:=λ_=>none) hrd hdf e1 hfn ?_ ?_
     ·intro fid D l a w1 ob hob hfr hw1;subst hob
      let r1:Rho:=⟨(ext ρ n (l,0)).f,.obj l (.loop (rdy fid a.tmps ⟨ps⟩ assign body D))::.obj D (.deferred (some []))::ρ.ex⟩
      have hle1:∀n y,ρ n=some y->r1 n=some y:=(Qfy hs.fr (l,0)).1;have hr1n:r1 n=some (l,0):=Qbz ρ n (l,0);have hmono:∀{x y:Value},XV ρ x=some y->den r1 x=some y:=λ{x y}hx=>QaZ (ρ:=ρ.wx r1.ex) (ρ':=r1) ⟨hle1,rfl⟩ x y (Qe2 (Qdp (QqS hx)));have hY:=QmP (P:=X.P) (fn:=X.fn) (nt:=X.n) (m:=m) (Dr:=Dr) (l:=l) (D:=D) (fid:=fid) (tmps:=a.tmps) (ps:=ps) (assign:=assign) (body:=body) (T0:=T) (nm:=n) (d:=0) (r1:=r1) (L:=L') hF0 hD hr1n rfl ⟨rfl,hfr.size,hfr.slot⟩ (SR.mono (ρ:=ρ.wx r1.ex) ⟨hle1,rfl⟩ hs.sr);have hM1:HM r1 H (Bs0++r1.ex):=HM.mono (ρ:=ρ.wx r1.ex) ⟨hle1,rfl⟩ (hBs0 r1.ex)
      have hcall:=hF.f r1 _ hY gf _ H _ v H' n' hr w0 r1 (a'++(.func (.yield l) #[] #[]::lb')) (Bs0++r1.ex) r1.le_refl (by
       refine Y4 (Xv (λx y hx=>hmono hx) g2) ?_;simp only[Qx,den,Xp,QU,Qc9,hr1n];have:=Xv (λx y hx=>hmono hx) g3;rw[this]) hM1 (Qa6 hs.fr (l,0)) w1 (hw1.perm (by
       rw[hAs];show(_::_::(Bs0++ρ.ex)).Perm (Bs0++(_::_::ρ.ex));exact(List.perm_middle.trans (List.perm_middle.cons _)).symm))
      have hargs:(a'++(.func (.yield l) #[] #[]::lb')).toArray=a'.toArray++ #[Value.func (.yield l) #[] #[]]++lb'.toArray:=by simp
      rw[hargs]at hcall;refine Calls.mono hcall λe w2⟨ρ',As',u',h1,h2,h3,h4,h5,h6⟩=>⟨⟨u',h5⟩,?_⟩;obtain⟨Bs',j1,j2⟩:=h4.split
      have hpm:As'.Perm (.obj l (.loop (rdy fid a.tmps ⟨ps⟩ assign body D))::.obj D (.deferred (some []))::(Bs'++ρ.ex)):=by
       rw[j1,h1.2];exact List.perm_middle.trans (List.perm_middle.cons _)
      exact⟨⟨(ρ'.f,Bs'++ρ.ex),λn9 y9 h9=>h1.1 _ _ (hle1 _ _ h9),h2,Bs',rfl,λe=>j2 e⟩,h6.perm hpm⟩
     ·rintro D ⟨⟨f9,As9⟩,q1,q2,Bs9,q3,q4⟩;simp only[]at q1 q2 q3 q4;have:=hB D ⟨f9,.obj D (.deferred (some []))::ρ.ex⟩ q1 rfl ⟨f9,.obj D (.deferred (some []))::ρ.ex⟩ L' (Bs9++(.obj D (.deferred (some []))::ρ.ex)) (Rho.le_refl _) ⟨Rho.le_refl _,SR.mono (ρ:=ρ.wx (.obj D (.deferred (some []))::ρ.ex)) (ρ':=⟨f9,.obj D (.deferred (some []))::ρ.ex⟩) ⟨q1,rfl⟩ hs.sr,q4 _,q2⟩;intro a9 w9 ha9 hw9;refine this a9 w9 ha9 (hw9.perm ?_);show(_::As9).Perm _;rw[q3];exact List.perm_middle.symm
    ·cases e2
   grind
 grind
theorem QaT{F:CallF}(hF:CallOk P r0 F)(hD:Qlh P Dr)(hP:X.P=P)(hrd:X.rd=none)(hdf:X.df=[]):∀(c:Code)(k:List KI)(T:Tr Value)(H:Hp)(n:Nat)(ρ:Rho)(L':Qc)(As:List HA),Q9 r0 w0 ρ X k ((QaB P X.n m Dr c).run F T H n)->RB w0 ρ X k ((QaB P X.n m Dr c).run F T H n)->StOk r0 w0 ρ ⟨T,H,n⟩ L' As->S X (.c c::k) L' (HS w0 [] As)
 | .seq a b,k,T,H,n,ρ,L',As,hA,hB,hs=>by
  have hF0:∀r,CallOk P r ⟨F.f,F.e,noY⟩:=λr=>⟨hF.f,hF.e,Qdy⟩;cases ha:Qie a with
  | true=>
   simp only[QaB,ha]at hA hB;refine Qlv (QaT hF hD hP hrd hdf a (.c b::k) T H n ρ L' As ?_ ?_ hs)
   ·exact Q9.seq (F:=F) ⟨λF T H n=>(Yh P X.n m Dr b).run ⟨F.f,F.e,noY⟩ T H n⟩ (λT H n ρ L' As h1 h2=>Q8 (m:=m) (hF0 r0) hD hP b k T H n ρ L' As h1 h2) hA
   ·intro D ρ1 h1 h2;exact Q9.seq (F:=F) (X:={X with df:=[D]}) ⟨λF T H n=>(Yh P X.n m Dr b).run ⟨F.f,F.e,noY⟩ T H n⟩ (λT H n ρ L' As h1 h2=>Q8 (m:=m) (X:={X with df:=[D]}) (hF0 ρ1) hD hP b k T H n ρ L' As h1 h2) (hB D ρ1 h1 h2)
  | false=>
   cases hb:Qie b with
   | false=>
    simp only[QaB,ha,hb]at hA
    grind[Q8]
   | true=>
    simp only[QaB,ha,hb]at hA hB;refine Qlv (Q8 (m:=m) hF hD hP a (.c b::k) T H n ρ L' As ?_ hs);cases hr:(Yh P X.n m Dr a).run F T H n with
    | bad=>rw[hr]at hA;exact hA.elim
    | nm T2 H2 n2=>
     rw[hr]at hA hB;exactλρ2 L2 As2 hle hs2=>QaT hF hD hP hrd hdf b k T2 H2 n2 ρ2 L2 As2 (Q9.mono hle hA) (RB.mono hB hle) hs2
    | ex i T2 H2 n2=>
     rw[hr]at hA;exactλρ2 L2 As2 hle hs2=>QeB (hA ρ2 L2 As2 hle hs2)
    | rt T2 H2 n2=>
     rw[hr]at hA;exactλρ2 L2 As2 hle hs2=>Qby (hA ρ2 L2 As2 hle hs2)
 | .cond x a b,k,T,H,n,ρ,L',As,hA,hB,hs=>by
  simp only[QaB,QW]at hA hB;split at hA
  ·rename_i t hx;rw[hx]at hB;have hx':=Qj hs.sr hx rfl;cases t with
   | true=>exact Qgm hx' (λ_=>QaT hF hD hP hrd hdf a k T H n ρ L' As hA hB hs) (λh=>by cases h)
   | false=>exact Qgm hx' (λh=>by cases h) (λ_=>QaT hF hD hP hrd hdf b k T H n ρ L' As hA hB hs)
  ·exact hA.elim
 | .block id b,k,T,H,n,ρ,L',As,hA,hB,hs=>Qio (QaT hF hD hP hrd hdf b _ T H n ρ L' As (Q9.blk hA) (λD ρ1 h1 h2=>Q9.blk (hB D ρ1 h1 h2)) hs)
 | .rangeFunc g ⟨ps⟩ assign body,k,T,H,n,ρ,L',As,hA,hB,hs=>QmS hF hD hP hrd hdf hB (λe=>by
   have hA':Q9 r0 w0 ρ X k ((Qf7 P g (Yh P X.n m Dr assign).run (Yh P X.n m Dr body).run X.n ps).run F T H n):=hA;rw[e]at hA';exact hA'.elim) hs
 | .skip,k,T,H,n,ρ,L',As,hA,hB,hs=>Q8 hF hD hP _ k T H n ρ L' As hA hs
 | .label _,k,T,H,n,ρ,L',As,hA,hB,hs=>Q8 hF hD hP _ k T H n ρ L' As hA hs
 | .region _ _ _,k,T,H,n,ρ,L',As,hA,hB,hs=>Q8 hF hD hP _ k T H n ρ L' As hA hs
 | .loop _,k,T,H,n,ρ,L',As,hA,hB,hs=>Q8 hF hD hP _ k T H n ρ L' As hA hs
 | .exit _,k,T,H,n,ρ,L',As,hA,hB,hs=>Q8 hF hD hP _ k T H n ρ L' As hA hs
 | .ret,k,T,H,n,ρ,L',As,hA,hB,hs=>Q8 hF hD hP _ k T H n ρ L' As hA hs
 | .scope _,k,T,H,n,ρ,L',As,hA,hB,hs=>Q8 hF hD hP _ k T H n ρ L' As hA hs
 | .goto _,k,T,H,n,ρ,L',As,hA,hB,hs=>Q8 hF hD hP _ k T H n ρ L' As hA hs
 | .refuse _,k,T,H,n,ρ,L',As,hA,hB,hs=>Q8 hF hD hP _ k T H n ρ L' As hA hs
end
noncomputable def Qnd(P:Program):List ResultVar->Clo (Tr Value->Hp->Option (List Value))
 | []=>⟨λ_ _=>some []⟩
 | .tmp t::rs=>⟨λT H=>match YP (pth t) t T with
  | some v=>(match(Qnd P rs).run T H with
   | some vs=>bif ZW v then some (v::vs)else none
   | none=>none)
  | none=>none⟩
 | .cell at' t::rs=>⟨λT H=>match Qf9 P (en T) H t at' with
  | some v=>(match(Qnd P rs).run T H with
   | some vs=>some (v::vs)
   | none=>none)
  | none=>none⟩
section
variable{P:Program}{ρ:Rho}{L':Qc}{T:Tr Value}{H:Hp}{As:List HA}
theorem Qny{v u:Value}(h:ZW v=true)(e:den ρ v=some u):Xp ρ v=some u:=by
 cases v<;>first|exact e|(simp[ZW]at h)
theorem Qib(hs:SR ρ (en T) L')(hH:HM ρ H As):∀{rs:List ResultVar}{vs:List Value},(Qnd P rs).run T H=some vs->∃us,RV P L' As rs us/\Qx (Xp ρ) vs=some us
 | [],vs,h=>by cases h;exact⟨[],RV.nil,rfl⟩
 | .tmp t::rs,vs,h=>by
  simp only[Qnd]at h;split at h
  ·rename_i v h1;split at h
   ·rename_i vs' h2;obtain⟨hc,rfl⟩:=bif_some h;obtain⟨u,e1,e2⟩:=hs.get (show en T t=_ from h1);obtain⟨us,e3,e4⟩:=Qib hs hH h2
    grind[RV.tmp,Qx,Qny]
   ·cases h
  ·cases h
 | .cell at' t::rs,vs,h=>by
  simp only[Qnd]at h;split at h
  ·rename_i v h1;split at h
   ·rename_i vs' h2;injection h with h
    subst h;obtain⟨us,e3,e4⟩:=Qib hs hH h2;unfold Qf9 at h1;split at h1
    ·rename_i m i hx;split at h1
     ·rename_i r sz ag hg hz;obtain⟨b,d,cu,Rs,g1,g2,g3,g4,_,_⟩:=X8 hH hg;obtain⟨p,e1,e2⟩:=hs.get hx;simp only[den,Xp,QU,XV,g1,Option.some.injEq]at e2;subst e2;cases ag with
      | true=>
       simp only[if_true]at h1;obtain⟨hb,rfl⟩:=bif_some h1;exact⟨_,RV.cell e1 hz g4 (by rw[Q5 g2];exact hb) e3,by simp only[Qx,Xp,List.toList_toArray,cut,XK sz (YG i g2),e4]⟩
      | false=>
       have h1':(bif Nat.beq sz 1 then r.cs[i]? else none)=some v:=by simpa using h1
       obtain⟨hb,h1'⟩:=bif_in h1';have hk:=Nat.eq_of_beq_eq_true hb;subst hk;obtain⟨u,f1,f2⟩:=QaQ g2 h1'
       grind[RV.cell1,Qx,Qdp]
     ·cases h1
    ·cases h1
   ·cases h
  ·cases h
theorem QpB:∀{vs us:List Value},Qx (Xp ρ) vs=some us->den ρ (QA vs)=some (QA us)
 | [],us,h=>by cases h;rfl
 | [v],us,h=>by
  simp only[Qx]at h;split at h
  ·rename_i b m h1 h2;injection h2 with h2
   injection h with h
   subst h h2;exact Qe2 h1
  ·cases h
 | v::v'::vs,us,h=>by
  have hl:=Q5 h;obtain⟨u,u',us',rfl⟩:∃u u' us',us=u::u'::us':=by rcases us with _|⟨u,_|⟨u',us'⟩⟩<;>grind
  show den ρ (.tuple (v::v'::vs).toArray)=some (.tuple (u::u'::us').toArray)
  grind[den]
end
noncomputable def Qpi(i:Nat)(vs:List Value):Tr Value:=List.rec (λ_=>.lf) (λv _ ih i=>Yr (pth i) i v (ih (Nat.succ i))) vs i
theorem QoH{ρ:Rho}:∀{vs us:List Value}(i:Nat),Qx (den ρ) vs=some us->SR ρ (en (Qpi i vs)) (Qcm i us)
 | [],us,i,h=>λt v hv=>by
  have h':YP (pth t) t (.lf:Tr Value)=some v:=hv;rw[YZ]at h';cases h'
 | v::vs,us,i,h=>by
  simp only[Qx]at h;split at h
  ·rename_i u m h1 h2;injection h with h
   subst h;exact(QoH (i+1) h2).set h1
  ·cases h
theorem Qsm{X:Ctx}{L:Qc}{w0:World}{As:List HA}{rs:List ResultVar}{vs:List Value}(hr:X.fn.results=rs.toArray)(hv:RV X.P L As rs vs)(h:∀w,HS w0 [] As w->X.R (.returned (QA vs)) w)(hrd:X.rd=none)(hdf:X.df=[]):SE X .ret [] L (HS w0 [] As):=by
 intro a w ha hw;refine Qja hrd (ha.none hdf) (v:=QA vs) ?_ (h w hw);have hm:=hv.run ha hw;rw[Qbs hr,Array.mapM_eq_mapM_toList];simp only[Sem.run_bind,Sem.run_map,hm,Result.andThen_ok,Sem.run_pure]
 match vs with
 | []=>rfl
 | [v]=>rfl
 | u::v::vs=>simp[QA]
theorem QrN{X:Ctx}{L:Qc}{w0:World}{M:List Nat}{As As':List HA}{D:Nat}{rs:List ResultVar}{vs:List Value}(hr:X.fn.results=rs.toArray)(hp:QL As (.obj D (.deferred (some []))) As')(hv:RV X.P L As' rs vs)(h:∀w,HS w0 M As' w->X.R (.returned (QA vs)) w)(hrd:X.rd=none)(hdf:X.df=[D]):SE X .ret [] L (HS w0 M As):=by
 intro a w ha hw;show(match X.rd with|none=>bodyPostM X.F 0 X.P X.fn X.R .ret a w|some l=>roundPost X.P l X.R .ret a w);rw[hrd];show LeavesInM X.F 0 X.P X.fn a.tmps X.R a.defers .returning w;rw[ha.defers,hdf];have h1:=(hw.putObj hp (.deferred none)).tail;refine⟨by simp,.inl ⟨D,_,rfl,run_takeDeferred (hw.obj_get hp),QA vs,?_,h _ h1⟩⟩;have hm:=hv.run ha h1;rw[Qbs hr,Array.mapM_eq_mapM_toList];simp only[Sem.run_bind,Sem.run_map,hm,Result.andThen_ok,Sem.run_pure]
 match vs with
 | []=>rfl
 | [v]=>rfl
 | u::v::vs=>simp[QA]
noncomputable def QiJ(P:Program)(m:Nat)(Dr:Nat->Array Oper->CS)(g:FuncId):Clo (CallF->List Value->Hp->Nat->Option (Value×Hp×Nat)):=match P.funcs[g]? with
 | some fn=>match fn.body with
  | some b=>⟨λF vs H n=>bif Nat.ble vs.length fn.ntmps then(match(QaB P fn.ntmps m Dr b).run F (Qpi 0 vs) H n with
   | .rt T H n=>(match(Qnd P fn.results.toList).run T H with
    | some rs=>some (QA rs,H,n)
    | none=>none)
   | .nm T H n=>(match fn.results.toList with
    | []=>some (.tuple #[],H,n)
    | _=>none)
   | _=>none)else none⟩
  | none=>⟨λ_ _ _ _=>none⟩
 | none=>⟨λ_ _ _ _=>none⟩
theorem Qm0{P:Program}{r0:Rho}{m:Nat}{Dr:Nat->Array Oper->CS}{F:CallF}(hF:CallOk P r0 F)(hD:Qlh P Dr):QdE P r0 (λg=>(QiJ P m Dr g).run F):=by
 intro f vs H n v H' n' h w0 ρ us As hle0 hus hH hf w hw;simp only[QiJ]at h;split at h
 ·rename_i fn h1;split at h
  ·rename_i b h2;obtain⟨hc,h⟩:=bif_in h;have hle:Nat.ble us.length fn.ntmps=true:=by rw[Q5 hus];exact hc
   refine enter (args:=us) (C:=HS w0 [] As) h1 rfl h2 hle hw ?_;refine QaT (m:=m) hF hD rfl rfl rfl b [] (Qpi 0 vs) H n ρ _ As ?_ ?_ ⟨hle0,QoH 0 hus,hH,hf⟩
   ·show Q9 r0 w0 ρ _ [] ((QaB P fn.ntmps m Dr b).run F (Qpi 0 vs) H n);split at h
    ·rename_i T2 H2 n2 hr;rw[hr];intro ρ2 L2 As2 hle2 hs2;split at h
     ·rename_i rs hrs;injection h with h
      injection h with e1 e2
      injection e2 with e2 e3
      subst e1 e2 e3;obtain⟨us2,g1,g2⟩:=Qib hs2.sr hs2.hp hrs;exact Qsm (rs:=fn.results.toList) (by simp) g1 (λw' hw'=>⟨ρ2,As2,QA us2,hle2,hs2.fr,QpB g2,hs2.hp,rfl,hw'⟩) rfl rfl
     ·cases h
    ·rename_i T2 H2 n2 hr;rw[hr];intro ρ2 L2 As2 hle2 hs2;split at h
     ·rename_i hres;injection h with h
      injection h with e1 e2
      injection e2 with e2 e3
      subst e1 e2 e3;have hres':fn.results= #[]:=by rw[<-Array.toArray_toList (xs:=fn.results),hres]
      exact QkJ hres' (λw' hw'=>⟨ρ2,As2,.tuple #[],hle2,hs2.fr,rfl,hs2.hp,rfl,hw'⟩) rfl rfl
     ·cases h
    ·cases h
   ·intro D ρ1 h1' h2';show Q9 ρ1 w0 ρ1 _ [] ((QaB P fn.ntmps m Dr b).run F (Qpi 0 vs) H n);split at h
    ·rename_i T2 H2 n2 hr;rw[hr];intro ρ2 L2 As2 hle2 hs2;split at h
     ·rename_i rs hrs;injection h with h
      injection h with e1 e2
      injection e2 with e2 e3
      subst e1 e2 e3;obtain⟨Bs,k1,k2⟩:=hs2.hp.split;have hex:ρ2.ex=.obj D (.deferred (some []))::ρ.ex:=hle2.2.trans h2';have hpm:As2.Perm (.obj D (.deferred (some []))::(Bs++ρ.ex)):=by simp_all
      have hsr:SR (ρ2.wx ρ.ex) (en T2) L2:=hs2.sr;obtain⟨us2,g1,g2⟩:=Qib hsr (k2 ρ.ex) hrs;exact QrN (rs:=fn.results.toList) (by simp) hpm g1 (λw' hw'=>⟨ρ2.wx ρ.ex,Bs++ρ.ex,QA us2,⟨λn x hx=>hle2.1 n x (h1' n x hx),rfl⟩,hs2.fr,QpB g2,k2 _,rfl,hw'⟩) rfl rfl
     ·cases h
    ·rename_i T2 H2 n2 hr;rw[hr];intro ρ2 L2 As2 hle2 hs2;split at h
     ·rename_i hres;injection h with h
      injection h with e1 e2
      injection e2 with e2 e3
      subst e1 e2 e3;obtain⟨Bs,k1,k2⟩:=hs2.hp.split;have hex:ρ2.ex=.obj D (.deferred (some []))::ρ.ex:=hle2.2.trans h2';have hpm:As2.Perm (.obj D (.deferred (some []))::(Bs++ρ.ex)):=by simp_all
      have hres':fn.results= #[]:=by rw[<-Array.toArray_toList (xs:=fn.results),hres]
      exact QtM (As':=Bs++ρ.ex) (D:=D) hres' hpm (λw' hw'=>⟨ρ2.wx ρ.ex,Bs++ρ.ex,.tuple #[],⟨λn x hx=>hle2.1 n x (h1' n x hx),rfl⟩,hs2.fr,rfl,k2 _,rfl,hw'⟩) rfl rfl
     ·cases h
    ·cases h
  ·cases h
 ·cases h
noncomputable def bare(v:Value):Bool:=(den ⟨λ_=>none,[]⟩ v).isSome
def flatA:Value->Bool
 | .agg cs=>Xb cs.toList
 | v=>flat v
def QhZ(l:List Value):Bool:=l.all flatA
theorem Qm3{v:Value}(h:flatA v=true)(ρ:Rho):den ρ v=some v:=by
 cases v with
 | agg cs=>
  have h2:Xb cs.toList=true:=h
  show(match Qx (QU ρ) cs.toList with
   | some l=>some (Value.agg l.toArray)
   | none=>none)=_
  rw[X7 h2]
 | _=>(unfold flatA at h;exact Qao h ρ)
theorem Qb2{ρ:Rho}:∀{l:List Value},QhZ l=true->Qx (den ρ) l=some l
 | [],_=>rfl
 | v::l,h=>by
  simp only[QhZ,List.all_cons,Bool.and_eq_true]at h;simp only[Qx,Qm3 h.1 ρ,Qb2 (l:=l) h.2]
noncomputable def QlF(F:Qb5)(g:FuncId)(vs:List Value):Option Value:=match F g vs .lf 0 with
 | some r=>bif QhZ vs&&bare r.1 then some r.1 else none
 | none=>none
theorem QpU{P:Program}{F:Qb5}(hF:QdE P ⟨λ_=>none,[]⟩ F):Qg5 P λg vs=>bif QJ P g then QlF F g vs else none:=by
 intro f vs v h w0 ρ us As hvs o L' args ts ho hev;obtain⟨hfn,h⟩:=bif_in h;unfold QlF at h;split at h
 ·rename_i r hr;obtain⟨hc,rfl⟩:=bif_some h;obtain⟨v,H',n'⟩:=r;simp only[Bool.and_eq_true]at hc
  have hus:us=vs:=by
   have h2:=Qb2 (ρ:=ρ) hc.1;rw[h2]at hvs;exact(Option.some.inj hvs).symm
  subst hus;obtain⟨u,hu⟩:=Option.isSome_iff_exists.1 hc.2
  have hmono:∀{ρ':Rho}{x y:Value},den ⟨λ_=>none,[]⟩ x=some y->den ρ' x=some y:=λ{ρ'}{x}{y}e=>by
   have:=QaZ (ρ:=⟨λ_=>none,ρ'.ex⟩) (ρ':=ρ') ⟨λn x h=>(by cases h),rfl⟩ x y e;exact this
  refine⟨u,hmono hu,?_⟩;intro a w hρ hw
  have hcall:=hF f us .lf 0 v H' n' hr w ⟨λ_=>none,[]⟩ us [] (Rho.le_refl _) (Qb2 hc.1) ⟨[],[],(λm r hm=>by
   have h':YP (pth m) m (.lf:Hp)=some r:=hm;rw[YZ]at h';cases h'),rfl,rfl⟩ (λ_ _=>rfl) w (HS.refl w [])
  rw[ZB ho hρ (show ev L' (.func f)=some (.func (.func f) #[] #[])from rfl) hfn hev];simp only[Array.empty_append,Array.append_empty];refine Calls.mono hcall λe w'⟨ρ',As',u',h1,h2,h3,h4,h5,h6⟩=>?_;rw[hmono hu]at h3;injection h3 with h3
  subst h3;exact⟨_,h5,rfl,h6.nil.below⟩
 ·cases h
structure KnOk(P:Program)(K:CallF):Prop where
 f:∀r1 Y,QdE P r1 (K.f Y)
 e:Qg5 P K.e
noncomputable def evF(P:Program)(K:CallF)(Z:FuncId->Bool)(m:Nat)(Dr:Nat->Array Oper->CS)(f:Nat):CallF:=
 Nat.rec ⟨λ_ _ _ _ _=>none,K.e,noY⟩ (λ_ ih=>⟨λY g vs H n=>match K.f Y g vs H n with
  | some r=>some r
  | none=>(QiJ P m Dr g).run ⟨ih.f,ih.e,Y⟩ vs H n,λg vs=>match K.e g vs with
  | some v=>some v
  | none=>Bool.rec none (bif QJ P g then QlF (ih.f noY) g vs else none) (Z g),noY⟩) f
theorem Qn8{P:Program}{K:CallF}{Z:FuncId->Bool}{m:Nat}{Dr:Nat->Array Oper->CS}(hK:KnOk P K)(hD:Qlh P Dr):∀f r0,CallOk P r0 (evF P K Z m Dr f)
 | 0,r0=>⟨(λ_ _ _ _ _ _ _ _ _ _ h=>by cases h),hK.e,Qdy⟩
 | f+1,r0=>by
  have ih:=Qn8 (Z:=Z) (m:=m) hK hD f;refine⟨?_,?_,Qdy⟩
  ·intro r1 Y hY g vs H n v H' n' h
   have h':(match K.f Y g vs H n with
    | some r=>some r
    | none=>(QiJ P m Dr g).run ⟨(evF P K Z m Dr f).f,(evF P K Z m Dr f).e,Y⟩ vs H n)=some (v,H',n'):=h
   split at h'
   ·rename_i r hr;injection h' with h'
    subst h';exact hK.f r1 Y g vs H n v H' n' hr
   ·exact Qm0 (r0:=r1) (⟨(ih r1).f,(ih r1).e,hY⟩:CallOk P r1 ⟨(evF P K Z m Dr f).f,(evF P K Z m Dr f).e,Y⟩) hD g vs H n v H' n' h'
  ·intro g vs v h
   have h':(match K.e g vs with
    | some v=>some v
    | none=>Bool.rec none (bif QJ P g then QlF ((evF P K Z m Dr f).f noY) g vs else none) (Z g))=some v:=h
   split at h'
   ·rename_i v' hr;injection h' with h'
    subst h';exact hK.e g vs v' hr
   ·cases hz:Z g with
    | false=>rw[hz]at h';cases h'
    | true=>
     rw[hz]at h';exact QpU ((ih ⟨λ_=>none,[]⟩).f _ _ Qdy) g vs v h'
end Ev
end Gx
namespace Gx
open Go Go.RowKit
section
variable{X:Ctx}{ops:Array Oper}{F:List Nat}{fuel i:Nat}{listed:Array Bool}{k:List KI}{L:Qc}{d ty:Nat}{op:Op}{pos:String}{aft:Array Edge}{w0:World}{M:List Nat}{As Bs:List HA}
theorem QsP{B:World->Prop}{G:Type}{V:G->Value}{Fg:G->Prop}{C':G->World->Prop}{j:Nat}{want b:Bool}(i dj:Nat)(hi:ops[i]?=some ⟨some d,op,ty,pos,aft,some (j,want)⟩)(hj:(ops[j]?).bind (·.dst)=some dj)(hb:Qc.get L dj=some (.bool b))(hw:b=want)(h:OpH X.P ⟨some d,op,ty,pos,aft,none⟩ L (HS w0 M As) V Fg C')(hr:(Region.ready .any ops listed==[i])=true)(hB:∀w,HS w0 M As w->B w)(hd:Nat.blt d X.n=true)
  (next:∀g,Fg g->D X ops F B fuel (listed.setIfInBounds i true) k ((d,V g)::L) (C' g)):D X ops F B (fuel+1) listed k L (HS w0 M As):=by
 intro hcl a ha;have hy:yielded ops a.tmps j=some b:=by simp[yielded,hj,ha.slot _ _ hb]
 have hr':Region.ready .any ops listed=[i]:=by simpa using hr
 refine Qfo hr' (λ_=>⟨hB,HS.stab _ _ _⟩) ?_;unfold Yp;simp only[hi];rw[if_pos (by simp[Region.wanted,hy,hw])];exact⟨G,V,Fg,C',λw hw=>h a.eval w ha.agr hw,λg hg=>next g hg (hcl.set (by rw[hr'];exact List.mem_singleton.2 rfl)) _ (ha.put d _ hd)⟩
end
end Gx
namespace Gx
namespace Ev
open Go Go.RowKit
structure Stp where
 i:Nat
 okP:Bool
 okQ:Bool
 okH:Bool
 turn:Option (List Nat)
def onF(F:List Nat)(i:Nat):Bool:=F.all λf=>!Nat.beq f i
def Qmh(n:Nat):List (List Nat):=[]::(List.range n).map λj=>[j]
def QtU(ops:Array Oper):Array Bool->List Nat->Bool
 | listed,[]=>Region.ready .any ops listed==[]
 | listed,i::r=>QtU ops (listed.setIfInBounds i true) r
noncomputable def Qrw:Option Addr->Option Addr->Bool
 | none,none=>true
 | some ⟨a,b,none⟩,some ⟨c,d,none⟩=>Nat.beq a c&&Nat.beq b d
 | some ⟨a,b,some e⟩,some ⟨c,d,some f⟩=>Nat.beq a c&&(Nat.beq b d&&Nat.beq e f)
 | _,_=>false
theorem QlX{a b:Option Addr}(h:Qrw a b=true):a=b:=by
 unfold Qrw at h;split at h<;>simp_all
noncomputable def eqA:Value->Value->Bool
 | .int k (.ofNat a),.int k' (.ofNat b)=>kEq k k'&&Nat.beq a b
 | .bool a,.bool b=>a==b
 | .string ⟨⟨a⟩⟩,.string ⟨⟨b⟩⟩=>QqR a b
 | .pointer a,.pointer b=>Qrw a b
 | .slice a l c,.slice b l' c'=>Qrw a b&&(Nat.beq l l'&&Nat.beq c c')
 | .map (some a),.map (some b)=>Nat.beq a b
 | .map none,.map none=>true
 | .nilFunc,.nilFunc=>true
 | _,_=>false
theorem QkA{a b:Value}(h:eqA a b=true):a=b:=by
 unfold eqA at h;split at h
 ·simp only[Bool.and_eq_true]at h;rw[Qcg h.1,Nat.eq_of_beq_eq_true h.2]
 ·grind
 ·grind[Qfb]
 ·rw[QlX h]
 ·simp only[Bool.and_eq_true]at h;rw[QlX h.1,Nat.eq_of_beq_eq_true h.2.1,Nat.eq_of_beq_eq_true h.2.2]
 ·simp_all
 ·rfl
 ·rfl
 ·cases h
def eqL(f:Value->Value->Bool):List Value->List Value->Bool
 | [],[]=>true
 | a::l,b::m=>f a b&&eqL f l m
 | _,_=>false
theorem Qim{f:Value->Value->Bool}(hf:∀a b,f a b=true->a=b):∀{l m:List Value},eqL f l m=true->l=m
 | [],[],_=>rfl
 | a::l,b::m,h=>by
  simp only[eqL,Bool.and_eq_true]at h;rw[hf a b h.1,Qim hf h.2]
 | [],_::_,h=>by cases h
 | _::_,[],h=>by cases h
noncomputable def eqF:Value->Value->Bool
 | .func (.func f) ⟨a⟩ ⟨b⟩,.func (.func g) ⟨c⟩ ⟨d⟩=>Nat.beq f g&&(eqL eqA a c&&eqL eqA b d)
 | a,b=>eqA a b
theorem Qt6{a b:Value}(h:eqF a b=true):a=b:=by
 unfold eqF at h;split at h
 ·simp only[Bool.and_eq_true]at h;rw[Nat.eq_of_beq_eq_true h.1,Qim (λ_ _=>QkA) h.2.1,Qim (λ_ _=>QkA) h.2.2]
 ·exact QkA h
noncomputable def QtZ(x y:HB):Bool:=Nat.beq x.ty y.ty&&(Nat.beq x.sz y.sz&&eqL eqF x.cs y.cs)
theorem Qsz{x y:HB}(h:QtZ x y=true):x=y:=by
 simp only[QtZ,Bool.and_eq_true]at h;obtain⟨a,b,c⟩:=x;obtain⟨d,e,f⟩:=y;simp only at h;rw[Nat.eq_of_beq_eq_true h.1,Nat.eq_of_beq_eq_true h.2.1,Qim (λ_ _=>Qt6) h.2.2]
def Qr4:List Int->List Int->Bool
 | [],[]=>true
 | a::l,b::m=>decide (a=b)&&Qr4 l m
 | _,_=>false
theorem Qmm:∀{l m:List Int},Qr4 l m=true->l=m
 | [],[],_=>rfl
 | a::l,b::m,h=>by
  simp only[Qr4,Bool.and_eq_true,decide_eq_true_eq]at h;rw[h.1,Qmm h.2]
 | [],_::_,h=>by cases h
 | _::_,[],h=>by cases h
noncomputable def Qpk:HX->HX->Bool
 | .row x,.row y=>QtZ x y
 | .mp x,.mp y=>Qr4 x y
 | _,_=>false
theorem QrV{x y:HX}(h:Qpk x y=true):x=y:=by
 unfold Qpk at h
 grind[Qsz,Qmm]
noncomputable def QiT(H H':Hp)(R:List Nat):Bool:=List.rec true (λm _ ih=>match Yu H m with
 | some r=>(match Yu H' m with
  | some r'=>Bool.rec false ih (Qpk r r')
  | none=>false)
 | none=>false) R
theorem QcA{H H':Hp}:∀{R:List Nat},QiT H H' R=true->∀m∈R,Yu H' m=Yu H m
 | [],_,m,hm=>by cases hm
 | a::R,h,m,hm=>by
  have h':(match Yu H a with
   | some r=>(match Yu H' a with
    | some r'=>Bool.rec false (QiT H H' R) (Qpk r r')
    | none=>false)
   | none=>false)=true:=h
  split at h'
  ·rename_i r h1;split at h'
   ·rename_i r' h2;cases he:Qpk r r' with
    | false=>rw[he]at h';cases h'
    | true=>
     rw[he]at h';rcases List.mem_cons.1 hm with rfl|hm
     ·rw[h1,h2,QrV he]
     ·exact QcA h' m hm
   ·cases h'
  ·cases h'
abbrev DF:=CallF->Tr Value->Hp->Nat->List Nat->Rs
abbrev DS:=Clo DF
noncomputable def noD:DS:=⟨λ_ _ _ _ _=>.bad⟩
noncomputable def memN(m:Nat)(R:List Nat):Bool:=List.rec false (λa _ ih=>Bool.rec ih true (Nat.beq a m)) R
noncomputable def QnM(m:Option Nat)(R:List Nat):List Nat:=Option.rec R (λk=>Bool.rec (k::R) R (memN k R)) m
noncomputable def yes(b:Bool)(r:Rs):Rs:=Bool.rec .bad r b
noncomputable def dOn(P:Program)(nt:Nat)(s:Stp)(o:Oper)(rest:DS):DS:=match o.dst with
 | some d=>bif Nat.blt d nt then⟨λF T H n R=>match(Z9 P o.op).run F T H n with
  | .no=>.bad
  | .p v=>yes s.okP (rest.run F (Yr (pth d) d v T) H n R)
  | .q m v=>(match s.okH,s.turn with
   | true,none=>rest.run F (Yr (pth d) d v T) H n R
   | _,_=>yes s.okQ (rest.run F (Yr (pth d) d v T) H n (QnM m R)))
  | .new v x=>yes s.okH (match s.turn with
   | some _=>rest.run F (Yr (pth d) d v T) (YQ H n x) (Nat.succ n) []
   | none=>rest.run F (Yr (pth d) d v T) (YQ H n x) (Nat.succ n) R)
  | .h v H' n'=>yes s.okH (match s.turn with
   | some _=>rest.run F (Yr (pth d) d v T) H' n' []
   | none=>yes (QiT H H' R) (rest.run F (Yr (pth d) d v T) H' n' R))⟩else noD
 | none=>bif o.guard.isNone then⟨λF T H n R=>match(Z9 P o.op).run F T H n with
  | .new v x=>yes s.okH (match s.turn with
   | some _=>rest.run F T (YQ H n x) (Nat.succ n) []
   | none=>rest.run F T (YQ H n x) (Nat.succ n) R)
  | .h v H' n'=>yes s.okH (match s.turn with
   | some _=>rest.run F T H' n' []
   | none=>yes (QiT H H' R) (rest.run F T H' n' R))
  | _=>.bad⟩else noD
noncomputable def Qsj(nt:Nat)(s:Stp)(dst:Option Nat)(rest:DS):DS:=match dst with
 | some d=>bif Nat.blt d nt then(match s.okP with
  | true=>⟨λF T H n R=>rest.run F (Yr (pth d) d undef T) H n R⟩
  | false=>match s.okH,s.turn with
   | true,some _=>⟨λF T H n R=>rest.run F (Yr (pth d) d undef T) H n []⟩
   | _,_=>noD)else noD
 | none=>noD
def Xz(H:Hp):List Nat->List (Nat×HX)->Prop
 | [],[]=>True
 | m::R,(k,r)::B=>k=m/\Yu H m=some r/\m ∉ R/\Xz H R B
 | _,_=>False
theorem Xz.stay{H H':Hp}:∀{R:List Nat}{B:List (Nat×HX)},Xz H R B->(∀m∈R,Yu H' m=Yu H m)->Xz H' R B
 | [],[],_,_=>trivial
 | m::R,(k,r)::B,h,hs=>⟨h.1,by rw[hs m (List.mem_cons_self ..)];exact h.2.1,h.2.2.1,Xz.stay h.2.2.2 λp hp=>hs p (List.mem_cons_of_mem _ hp)⟩
 | [],_::_,h,_=>h.elim
 | _::_,[],h,_=>h.elim
theorem Xz.has{H:Hp}:∀{R:List Nat}{B:List (Nat×HX)},Xz H R B->∀m∈R,∃r,Yu H m=some r
 | m::R,(k,r)::B,h,p,hp=>by
  rcases List.mem_cons.1 hp with rfl|hp
  ·exact⟨r,h.2.1⟩
  ·exact h.2.2.2.has p hp
 | [],_,_,p,hp=>by cases hp
 | _::_,[],h,_,_=>h.elim
theorem Qg4{ρ:Rho}:∀{R:List Nat}{B:List (Nat×HX)}{H:Hp}{G:List (Nat×HX)}{As:List HA},(∀m r,Yu H m=some r->QcZ G m=some r)->Qx (ha ρ) G=some As->Xz H R B->∃Bs Rs,Qx (ha ρ) B=some Bs/\As.Perm (Bs++Rs)
 | [],[],H,G,As,_,_,_=>⟨[],As,rfl,.refl _⟩
 | m::R,(k,r)::B,H,G,As,hG,hA,h=>by
  obtain⟨rfl,h1,h2,h3⟩:=h;obtain⟨A,Rs,g1,g4,_,As3,g6,g7,g8⟩:=Qis hA (hG _ _ h1)
  obtain⟨Bs,Rs2,h4,h5⟩:=Qg4 (H:=QfF H k) (R:=R) (B:=B) (G:=Qiq G k) (λp r' hp=>by
   obtain⟨e1,e2⟩:=Qi6 hp;rw[g8 p e1]
   exact hG _ _ e2) g6 (h3.stay λp hp=>by
    have hne:p≠k:=λe=>by subst e;exact h2 hp
    exact Qcp hne)
  exact⟨A::Bs,Rs2,by simp only[Qx,g1,h4],g4.perm.trans ((g7.trans h5).cons _)⟩
 | [],_::_,_,_,_,_,_,h=>h.elim
 | _::_,[],_,_,_,_,_,h=>h.elim
theorem QjP{ρ:Rho}{R:List Nat}{B:List (Nat×HX)}{H:Hp}{As:List HA}(hH:HM ρ H As)(hB:Xz H R B):∃Bs Rs,Qx (ha ρ) B=some Bs/\As.Perm (Bs++ρ.ex++Rs):=by
 obtain⟨G,Bs0,h1,h2,rfl⟩:=hH;obtain⟨Bs,Rs,h3,h4⟩:=Qg4 h1 h2 hB;refine⟨Bs,Rs,h3,(h4.append_right _).trans ?_⟩;simp[List.append_assoc,List.perm_append_comm.append_left]
noncomputable def QeD:List (Nat×HX)->Hp
 | []=>.lf
 | (m,r)::B=>YQ (QeD B) m r
theorem QgR:∀{B:List (Nat×HX)}{m:Nat}{r:HX},Yu (QeD B) m=some r->QcZ B m=some r
 | [],m,r,h=>by
  have h':YP (pth m) m (.lf:Hp)=some r:=h;rw[YZ]at h';cases h'
 | (k,x)::B,m,r,h=>by
  simp only[QcZ];rcases Qf2 h with⟨rfl,rfl⟩|⟨h1,h2⟩
  ·simp[Nat.beq_refl]
  ·have hq:Nat.beq k m=false:=by cases hz:Nat.beq k m<;>simp_all
   rw[hq];exact QgR h2
theorem Qna{ρ:Rho}{B:List (Nat×HX)}{Bs:List HA}(h:Qx (ha ρ) B=some Bs):HM ρ (QeD B) (Bs++ρ.ex):=⟨B,Bs,λ_ _=>QgR,h,rfl⟩
theorem QhF{H:Hp}:∀{R:List Nat}{B:List (Nat×HX)},Xz H R B->∀m∈R,Yu (QeD B) m=Yu H m
 | m::R,(k,r)::B,h,p,hp=>by
  obtain⟨rfl,h1,h2,h3⟩:=h;show Yu (YQ (QeD B) k r) p=Yu H p
  by_cases hpk:p=k
  ·subst hpk;rw[h1];exact Zt _ _ _ _
  ·rcases List.mem_cons.1 hp with e|hp
   ·grind
   ·rw[QeX hpk];exact QhF h3 p hp
 | [],_,_,p,hp=>by cases hp
 | _::_,[],h,_,_=>h.elim
section
variable{X:Ctx}{ops:Array Oper}{k:List KI}{L:Qc}{C B B':World->Prop}{F F':List Nat}{fuel:Nat}{listed:Array Bool}{P:Program}{w0:World}{CF:CallF}
theorem Qrx(hB:∀w,B' w->B w)(h:D X ops F B' fuel listed k L C):D X ops F B fuel listed k L C:=λhcl a ha=>QiL hB (h hcl a ha)
theorem QlU(hf:∃f∈F,listed.getD f false=true)(h:D X ops F' B' fuel listed k L C):D X ops F B fuel listed k L C:=λhcl a ha=>QiD hf (h hcl a ha)
theorem QuM{As:List HA}{B:World->Prop}{d i ty j:Nat}{op:Op}{pos:String}{aft:Array Edge}{want:Bool}{u:Value}(dj:Nat)(hi:ops[i]?=some ⟨some d,op,ty,pos,aft,some (j,want)⟩)(hj:(ops[j]?).bind (·.dst)=some dj)(hb:Qc.get L dj=some u)(hw:u=.bool (!want)\/u=undef)(hr:(Region.ready .any ops listed==[i])=true)(hB:∀w,HS w0 [] As w->B w)(hd:Nat.blt d X.n=true)
  (next:D X ops F B fuel (listed.setIfInBounds i true) k ((d,undef)::L) (HS w0 [] As)):D X ops F B (fuel+1) listed k L (HS w0 [] As):=by
 intro hcl a ha;have hr':Region.ready .any ops listed=[i]:=by simpa using hr
 refine Qfo hr' (λ_=>⟨hB,HS.stab _ _ _⟩) ?_
 have hy:yielded ops a.tmps j=(match u with| .bool b=>some b|_=>none):=by
  rcases hw with rfl|rfl<;>simp[yielded,hj,ha.slot _ _ hb,undef]
 unfold Yp;simp only[hi];rw[if_neg (by rcases hw with rfl|rfl<;>simp[Region.wanted,hy,undef])];exact next (hcl.set (by rw[hr'];exact List.mem_singleton.2 rfl)) _ (ha.put d _ hd)
end
section
variable{P:Program}{r0:Rho}{w0:World}{CF:CallF}{X:Ctx}{k:List KI}{ops:Array Oper}
abbrev Got(ρ:Rho)(v:Value)(H':Hp)(n':Nat):Type:={x:Rho×List HA×Value // ρ.le x.1/\QQ x.1 n'/\den x.1 v=some x.2.2/\HM x.1 H' x.2.1}
theorem OpT.got{o:Oper}{L':Qc}{C:World->Prop}{ρ:Rho}{v:Value}{H':Hp}{n':Nat}(h:OpT P o L' C (Out w0 ρ v H' n')):OpH P o L' C (G:=Got ρ v H' n') (λx=>x.1.2.2) (λ_=>True) (λx=>HS w0 [] x.1.2.1):=by
 obtain⟨G,V,Fg,C',h1,h2⟩:=h;intro ag w hag hw;refine(h1 ag w hag hw).mono λu w'⟨g,e1,e2,e3⟩=>?_;obtain⟨ρ',As',g1,g2,g3,g4,g5⟩:=h2 g e2;exact⟨⟨(ρ',As',V g),g1,g2,g3,g4⟩,e1,trivial,g5 _ e3⟩
theorem Qbt{ρ ρ':Rho}{H:Hp}{R:List Nat}{B:List (Nat×HX)}{As Bs:List HA}(hle:ρ.le ρ')(hH:HM ρ' H As)(hR:Qx (ha ρ) B=some Bs)(hB:Xz H R B):∀w,HS w0 [] As w->HS w0 [] (Bs++ρ.ex) w:=by
 obtain⟨Bs',Rs,h1,h2⟩:=QjP hH hB;have h3:=Xv (λ_ _=>Qfh hle _ _) hR;rw[h1]at h3;injection h3 with h3
 subst h3;rw[<-hle.2];exactλw hw=>(hw.perm h2).sub (List.sublist_append_left ..)
theorem Qhm{listed:Array Bool}{i:Nat}(h:(Region.ready .any ops listed==[i])=true):(listed.setIfInBounds i true).getD i false=true:=by
 have h1:i∈Region.ready .any ops listed:=by grind
 have h2:=(mem_ready.1 h1).1;have h3:i<listed.size:=by grind
 simp_all
theorem Qmr{F:List Nat}{i:Nat}(h:onF F i=true):F.contains i=false:=by
 cases hc:F.contains i with
 | false=>rfl
 | true=>
  have h1:=List.all_eq_true.1 h i (by simpa using hc)
  simp_all
theorem Qm9{ops:Array Oper}{F:List Nat}{i:Nat}{ps:List (List Nat)}(h:X9 ops F i ps=true):F.contains i=false:=by grind[QaO]
theorem Qct{m:Nat}:∀{R:List Nat},memN m R=true ↔ m∈R
 | []=>⟨(λh=>by cases h),(λh=>by cases h)⟩
 | a::R=>by
  have hu:memN m (a::R)=(Bool.rec (memN m R) true (Nat.beq a m):Bool):=rfl;rw[hu];cases hb:Nat.beq a m with
  | true=>exact⟨(λ_=>by rw[Nat.eq_of_beq_eq_true hb];exact List.mem_cons_self ..),λ_=>rfl⟩
  | false=>
   have hne:m≠a:=λe=>by subst e;rw[Nat.beq_refl]at hb;cases hb
   simp_all[Qct]
theorem Qcw{b:Bool}{r:Rs}{ρ:Rho}{X:Ctx}{k:List KI}(h:Q9 r0 w0 ρ X k (yes b r)):b=true/\Q9 r0 w0 ρ X k r:=by
 cases b with
 | true=>exact⟨rfl,h⟩
 | false=>exact h.elim
theorem QpC{H:Hp}{R:List Nat}{B:List (Nat×HX)}(hB:Xz H R B)(m:Option Nat)(hm:∀k,m=some k->∃r,Yu H k=some r):∃B2,Xz H (QnM m R) B2/\(∀k,m=some k->k∈QnM m R)/\(B2=B\/∃p,B2=p::B):=by
 cases m with
 | none=>exact⟨B,hB,(λk h=>by cases h),.inl rfl⟩
 | some m=>
  obtain⟨r,hr⟩:=hm m rfl;have hu:QnM (some m) R=(Bool.rec (m::R) R (memN m R):List Nat):=rfl;cases hb:memN m R with
  | true=>
   rw[hb]at hu
   grind[QnM,Qct]
  | false=>
   rw[hb]at hu;have hu:QnM (some m) R=m::R:=hu;rw[hu];exact⟨(m,r)::B,⟨rfl,hr,(λh=>by rw[Qct.2 h]at hb;cases hb),hB⟩,(λk h=>by injection h with h;subst h;exact List.mem_cons_self ..),.inr ⟨_,rfl⟩⟩
theorem QrJ{ρ:Rho}{B B2:List (Nat×HX)}{Bs Bs2:List HA}(hR:Qx (ha ρ) B=some Bs)(h:Qx (ha ρ) B2=some Bs2)(hc:B2=B\/∃p,B2=p::B):∀w,HS w0 [] (Bs2++ρ.ex) w->HS w0 [] (Bs++ρ.ex) w:=by
 rcases hc with rfl|⟨p,rfl⟩
 ·grind
 ·simp only[Qx,hR]at h;split at h
  ·rename_i b m h1 h2;injection h2 with h2
   injection h with h
   subst h h2;exactλw hw=>hw.tail
  ·cases h
theorem Z2{ρ:Rho}{H:Hp}{n:Nat}{As:List HA}{R:List Nat}{B:List (Nat×HX)}{x:HX}(hH:HM ρ H As)(hf:QQ ρ n)(hB:Xz H R B):Xz (YQ H n x) R B:=by
 refine hB.stay λm hm=>QeX λe=>?_;subst e;obtain⟨r,hr⟩:=hB.has m hm;obtain⟨A,Rs,g1,_⟩:=QuJ hH hr;obtain⟨x,hx⟩:=QoY g1;rw[hf m (Nat.le_refl _)]at hx;cases hx
def Qlo(P:Program)(r0:Rho)(w0:World)(CF:CallF)(X:Ctx)(k:List KI)(ops:Array Oper)(rest:DS)(F:List Nat)(fuel:Nat)(listed:Array Bool):Prop:=
 ∀(T:Tr Value)(H:Hp)(n:Nat)(R:List Nat)(B:List (Nat×HX))(ρ:Rho)(L':Qc)(As Bs:List HA),Q9 r0 w0 ρ X k (rest.run CF T H n R)->StOk r0 w0 ρ ⟨T,H,n⟩ L' As->Qx (ha ρ) B=some Bs->Xz H R B->D X ops F (HS w0 [] (Bs++ρ.ex)) fuel listed k L' (HS w0 [] As)
theorem Qqs(hF:CallOk P r0 CF)(hP:X.P=P){i:Nat}{dst:Option Nat}{op:Op}{ty:TypeId}{pos:String}{aft:Array Edge}{guard:Option (Nat×Bool)}{rest:DS}{Fs:List (List Nat)}{F:List Nat}{listed:Array Bool}{fuel:Nat}{s:Stp}
  (hsP:s.okP=true->(QO ops listed i&&onF F i)=true)(hsQ:s.okQ=true->(QO ops listed i&&(X9 ops F i (Qmh ops.size)&&Z8 F listed))=true)(hsH:s.okH=true->(Region.ready .any ops listed==[i])=true)(hsT:s.turn.isSome=F.contains i)
  (ih:Qlo P r0 w0 CF X k ops rest (if F.contains i then Fs.headD []else F) fuel (listed.setIfInBounds i true))
  (ho:ops[i]?=some ⟨dst,op,ty,pos,aft,guard⟩){T:Tr Value}{H:Hp}{n:Nat}{R:List Nat}{B:List (Nat×HX)}{ρ:Rho}{L':Qc}{As Bs:List HA}
  (ht:Q9 r0 w0 ρ X k ((dOn P X.n s ⟨dst,op,ty,pos,aft,guard⟩ rest).run CF T H n R))(hs:StOk r0 w0 ρ ⟨T,H,n⟩ L' As)(hR:Qx (ha ρ) B=some Bs)(hB:Xz H R B)
  (hon:guard=none\/∃j want dj b,guard=some (j,want)/\(ops[j]?).bind (·.dst)=some dj/\Qc.get L' dj=some (.bool b)/\b=want):D X ops F (HS w0 [] (Bs++ρ.ex)) (fuel+1) listed k L' (HS w0 [] As):=by
 have hc:=QcF P op CF hF.fok T H n
 have mk:∀(v:Value)(H':Hp)(n':Nat),Xq P (en T) H n CF op=some (.h v H' n')->s.okH=true->(guard.isNone||dst.isSome)=true ->
   ((F.contains i=true/\∀T2,(∀d,dst=some d->Nat.blt d X.n=true/\T2=Yr (pth d) d v T)->(dst=none->T2=T)->Q9 r0 w0 ρ X k (rest.run CF T2 H' n' []))\/(F.contains i=false/\Xz H' R B/\∀T2,(∀d,dst=some d->Nat.blt d X.n=true/\T2=Yr (pth d) d v T)->(dst=none->T2=T)->Q9 r0 w0 ρ X k (rest.run CF T2 H' n' R))) ->
   (∀d,dst=some d->Nat.blt d X.n=true)->D X ops F (HS w0 [] (Bs++ρ.ex)) (fuel+1) listed k L' (HS w0 [] As):=by
  intro v H' n' h1 h2 hgd hcase hdn;replace h2:=hsH h2;have ha:=ZX (w0:=w0) (L':=L') (o:=⟨dst,op,ty,pos,aft,none⟩) hF hs.le rfl hs.sr hs.hp hs.fr h1;have hH:=OpT.got ha;rw[<-hP]at hH;have hbase:=Qbt (w0:=w0) ρ.le_refl hs.hp hR hB
  have next:∀(T2:Tr Value)(x:Got ρ v H' n')(L3:Qc),SR x.1.1 (en T2) L3->(∀d,dst=some d->Nat.blt d X.n=true/\T2=Yr (pth d) d v T)->(dst=none->T2=T)->D X ops F (HS w0 [] (Bs++ρ.ex)) fuel (listed.setIfInBounds i true) k L3 (HS w0 [] x.1.2.1):=by
   intro T2 x L3 hsr e1 e2;obtain⟨⟨ρ',As',u⟩,g1,g2,g3,g4⟩:=x;rcases hcase with⟨hfi,h⟩|⟨hfi,hst,h⟩
   ·simp only[hfi,if_true]at ih;refine QlU (B':=HS w0 [] ([]++ρ'.ex)) (F':=Fs.headD []) ⟨i,by simpa using hfi,Qhm h2⟩ ?_;exact ih T2 H' n' [] [] ρ' L3 As' [] ((h T2 e1 e2).mono g1) ⟨Rho.le_trans hs.le g1,hsr,g4,g2⟩ rfl trivial
   ·simp only[hfi,Bool.false_eq_true,if_false]at ih;rw[<-g1.2];exact ih T2 H' n' R B ρ' L3 As' Bs ((h T2 e1 e2).mono g1) ⟨Rho.le_trans hs.le g1,hsr,g4,g2⟩ (Xv (λ_ _=>Qfh g1 _ _) hR) hst
  cases dst with
  | some d=>
   have hlt:=hdn d rfl;have hn:=λ(x:Got ρ v H' n')(_:True)=>next (Yr (pth d) d v T) x ((d,x.1.2.2)::L') ((hs.sr.mono x.2.1).set x.2.2.2.1) (λd' e=>by injection e with e;subst e;exact⟨hlt,rfl⟩) (λe=>by cases e)
   rcases hon with hn'|⟨j,want,dj,b,hn',hj,hb,hw⟩
   ·subst hn';exact d_h i ho hH h2 hbase hlt hn
   ·subst hn';exact QsP i dj ho hj hb hw hH h2 hbase hlt hn
  | none=>
   have hn:=λ(x:Got ρ v H' n')(_:True)=>next T x L' (hs.sr.mono x.2.1) (λd' e=>by cases e) (λ_=>rfl)
   cases guard with
   | none=>exact Qii i ho hH h2 hbase hn
   | some jw=>cases hgd
 have turnT:∀y,s.turn=some y->F.contains i=true:=λy hy=>by
  cases hfi:F.contains i with
  | true=>rfl
  | false=>rw[hy,hfi]at hsT;cases hsT
 have turnF:s.turn=none->F.contains i=false:=λhy=>by
  cases hfi:F.contains i with
  | false=>rfl
  | true=>rw[hy,hfi]at hsT;cases hsT
 cases dst with
 | some d=>
  simp only[dOn]at ht;cases hb:Nat.blt d X.n with
  | false=>rw[hb]at ht;exact ht.elim
  | true=>
   rw[hb]at ht;simp only[cond_true]at ht;cases hr:(Z9 P op).run CF T H n with
   | no=>rw[hr]at ht;exact ht.elim
   | p v=>
    rw[hr]at hc ht;obtain⟨hok,ht⟩:=Qcw ht;replace hok:=hsP hok;rw[Bool.and_eq_true]at hok;obtain⟨u,e1,e2⟩:=ZX (w0:=w0) (L':=L') (o:=⟨some d,op,ty,pos,aft,none⟩) hF hs.le rfl hs.sr hs.hp hs.fr hc;rw[<-hP]at e1;have hfi:=Qmr hok.2;simp only[hfi,Bool.false_eq_true,if_false]at ih;have next:D X ops F (HS w0 [] (Bs++ρ.ex)) fuel (listed.setIfInBounds i true) k ((d,u)::L') (HS w0 [] As):=ih _ H n R B ρ _ As Bs ht ⟨hs.le,hs.sr.set e2,hs.hp,hs.fr⟩ hR hB
    rcases hon with hn|⟨j,want,dj,b,hn,hj,hb',hw⟩
    ·subst hn;exact d_p i ho e1 hok.1 hok.2 hb next
    ·subst hn;exact Qmw i dj ho hj hb' hw e1 hok.1 hok.2 hb next
   | q m v=>
    rw[hr]at hc ht;simp only[]at ht;split at ht
    ·rename_i hokH hturn;have hok:=hsH hokH;have hfi:=turnF hturn;simp only[hfi,Bool.false_eq_true,if_false]at ih;obtain⟨u,e1,e2⟩:=ZX (w0:=w0) (L':=L') (o:=⟨some d,op,ty,pos,aft,none⟩) hF hs.le rfl hs.sr hs.hp hs.fr (hc.1 H λ_ _=>rfl);rw[<-hP]at e1;have next:D X ops F (HS w0 [] (Bs++ρ.ex)) fuel (listed.setIfInBounds i true) k ((d,u)::L') (HS w0 [] As):=ih _ H n R B ρ _ As Bs ht ⟨hs.le,hs.sr.set e2,hs.hp,hs.fr⟩ hR hB
     have hbase:=Qbt (w0:=w0) ρ.le_refl hs.hp hR hB;rcases hon with hn|⟨j,want,dj,b,hn,hj,hb',hw⟩
     ·subst hn;exact d_h i ho (e1.h (HS.stab _ _ _)) hok hbase hb λ_ _=>next
     ·subst hn;exact QsP i dj ho hj hb' hw (e1.h (HS.stab _ _ _)) hok hbase hb λ_ _=>next
    obtain⟨hok,ht⟩:=Qcw ht;replace hok:=hsQ hok;simp only[Bool.and_eq_true]at hok;obtain⟨B2,b1,b2,b3⟩:=QpC hB m hc.2;obtain⟨Bs2,Rs,g1,g2⟩:=QjP hs.hp b1;have hev:=hc.1 (QeD B2) λk hk=>QhF b1 k (b2 k hk);obtain⟨u,e1,e2⟩:=ZX (w0:=w0) (L':=L') (o:=⟨some d,op,ty,pos,aft,none⟩) hF hs.le rfl hs.sr (Qna g1) hs.fr hev;rw[<-hP]at e1;have hfi:=Qm9 hok.2.1;simp only[hfi,Bool.false_eq_true,if_false]at ih;have next:D X ops F (HS w0 [] (Bs2++ρ.ex)) fuel (listed.setIfInBounds i true) k ((d,u)::L') (HS w0 [] As):=ih _ H n _ B2 ρ _ As Bs2 ht ⟨hs.le,hs.sr.set e2,hs.hp,hs.fr⟩ g1 b1
    refine Qrx (QrJ hR g1 b3) ?_;rcases hon with hn|⟨j,want,dj,b,hn,hj,hb',hw⟩
    ·subst hn;exact d_q i _ ho e1 hok.1 hok.2.1 hok.2.2 hb next
    ·subst hn;exact QsF i dj _ ho hj hb' hw e1 hok.1 hok.2.1 hok.2.2 hb next
   | new v x=>
    rw[hr]at hc ht;obtain⟨hok,ht⟩:=Qcw ht;refine mk v (YQ H n x) (n+1) hc hok (by simp) ?_ (λd' e=>by injection e with e;subst e;exact hb);split at ht
    ·rename_i y hy;exact .inl ⟨turnT y hy,λT2 e1 _=>by rw[(e1 d rfl).2];exact ht⟩
    ·rename_i hy;exact .inr ⟨turnF hy,Z2 hs.hp hs.fr hB,λT2 e1 _=>by rw[(e1 d rfl).2];exact ht⟩
   | h v H' n'=>
    rw[hr]at hc ht;obtain⟨hok,ht⟩:=Qcw ht;refine mk v H' n' hc hok (by simp) ?_ (λd' e=>by injection e with e;subst e;exact hb);split at ht
    ·rename_i y hy;exact .inl ⟨turnT y hy,λT2 e1 _=>by rw[(e1 d rfl).2];exact ht⟩
    ·rename_i hy;obtain⟨hk,ht⟩:=Qcw ht;exact .inr ⟨turnF hy,hB.stay (QcA hk),λT2 e1 _=>by rw[(e1 d rfl).2];exact ht⟩
 | none=>
  simp only[dOn]at ht;cases hg:guard.isNone with
  | false=>rw[hg]at ht;exact ht.elim
  | true=>
   rw[hg]at ht;simp only[cond_true]at ht;cases hr:(Z9 P op).run CF T H n with
   | no=>rw[hr]at ht;exact ht.elim
   | p v=>rw[hr]at ht;exact ht.elim
   | q m v=>rw[hr]at ht;exact ht.elim
   | new v x=>
    rw[hr]at hc ht;obtain⟨hok,ht⟩:=Qcw ht;refine mk v (YQ H n x) (n+1) hc hok (by simp[hg]) ?_ (λd' e=>by cases e);split at ht
    ·rename_i y hy;exact .inl ⟨turnT y hy,λT2 _ e2=>by rw[e2 rfl];exact ht⟩
    ·rename_i hy;exact .inr ⟨turnF hy,Z2 hs.hp hs.fr hB,λT2 _ e2=>by rw[e2 rfl];exact ht⟩
   | h v H' n'=>
    rw[hr]at hc ht;obtain⟨hok,ht⟩:=Qcw ht;refine mk v H' n' hc hok (by simp[hg]) ?_ (λd' e=>by cases e);split at ht
    ·rename_i y hy;exact .inl ⟨turnT y hy,λT2 _ e2=>by rw[e2 rfl];exact ht⟩
    ·rename_i hy;obtain⟨hk,ht⟩:=Qcw ht;exact .inr ⟨turnF hy,hB.stay (QcA hk),λT2 _ e2=>by rw[e2 rfl];exact ht⟩
end
end Ev
end Gx
