/- Contracts of the program's functions, proved by walking them with the rules of the Gx texts; without conditions beyond those that each contract names. -/
import Derived.WalkKit
import Derived.Deep.Draws
import Derived.TacticsIn
import Derived.OrdersIn
import Derived.RangeFuncLeaves
import Derived.Lib.Strings
import Derived.Laws.BytesArg
import Derived.Laws.IdiomStrings
import Derived.Deep.Quiet
import Derived.ProofKit
import Derived.OpenShut
import Derived.Laws.StructEq
import Derived.ChangeKeysEq
import Derived.Laws.Externs
import Derived.Lib.Overlaps
import Derived.Carry
import Derived.Laws.Small
import Derived.Lib.Bytealg
import Derived.Shelf.Small.Strs
import Derived.Shelf.Small.Wraps
import Derived.Shelf.Strconv.Itoa0
import Derived.Shelf.Strconv.Itoa1
import Derived.Shelf.LaysM
import Derived.Shelf.Strconv.Itoa2
import Derived.Shelf.Strconv.Itoa3
import Derived.Shelf.Strings.Search1
import Derived.Shelf.Strings.Search2
import Derived.Shelf.Strings.Cut
import Derived.Shelf.Strings.Shaped
import Derived.Shelf.Strings.LastIndex
import Derived.Shelf.Strings.LastIndexAll
import Derived.Shelf.Strings.Prefix
import Derived.Shelf.Slices.Turned
import Derived.Shelf.Slices.Reverse
import Derived.Shelf.Slices.Equal
import Derived.Ground.Names2Prog
import Derived.Shelf.Slices.Clone
import Derived.Shelf.Slices.SearchI
import Derived.Shelf.Slices.Delete
import Derived.Shelf.Slices.Cells
import Derived.Shelf.Slices.Empties
import Derived.Shelf.Slices.Empties2
import Derived.Ground.SlgnProg
import Derived.Shelf.SlicesE.Reverse
import Derived.Shelf.SlicesE.Delete
import Derived.Shelf.SlicesE.Clone
import Derived.Test.YtmhkomoiamljeaaGreatDoorProg
import Derived.KernelRfl
import Derived.Lib.LastIndexByte
import Derived.Lib.ItoaNum
import Derived.Lib.SmallJoins
import Derived.Lib.AppendIntMem
import Derived.RangeFuncRecord
import Derived.Lib.Builder
import Derived.Laws.Pointers
import Derived.Test.YtmhkomoiamljeaaGreatDoorTie
import Derived.Test.YtmhkomoiamljeaaGreatDoorCards
import Derived.SevenTiedAt
import Derived.LaidMore
import Derived.Lay
import Derived.Stop.Joined
import Derived.Test.YtmhkomoiamljeaaGreatDoorP1
set_option linter.unusedSimpArgs false
set_option maxHeartbeats 1000000
set_option linter.unusedVariables false
set_option linter.unusedSectionVars false
set_option linter.unnecessarySimpa false
namespace Gx
namespace Ev
open Go Go.RowKit
structure HB where
 ty:Nat
 sz:Nat
 cs:List Value
inductive HX where
 | row (r:HB)
 | mp (ks:List Int)
abbrev Hp:=Tr HX
noncomputable def XR(H:Hp)(n:Nat):Option HX:=Ye (pth n) n H
noncomputable def Yd(H:Hp)(n:Nat)(y:HX):Hp:=XI (pth n) n y H
noncomputable def XH(H:Hp)(n:Nat):Option HB:=match XR H n with
 | some (.row r)=>some r
 | _=>none
noncomputable def QdZ(H:Hp)(n:Nat):Option (List Int):=match XR H n with
 | some (.mp r)=>some r
 | _=>none
noncomputable def XJ(H:Hp)(n:Nat)(y:HB):Hp:=Yd H n (.row y)
noncomputable def Qev(H:Hp)(n:Nat):Hp:=QeN (pth n) H
theorem QbQ{H:Hp}{n:Nat}{r:HB}(h:XH H n=some r):XR H n=some (.row r):=by grind[XH]
theorem QkS{H:Hp}{n:Nat}{r:List Int}(h:QdZ H n=some r):XR H n=some (.mp r):=by grind[QdZ]
theorem Qei{H:Hp}{n m:Nat}{y r:HX}(h:XR (Yd H n y) m=some r):(m=n/\r=y)\/(m≠n/\XR H m=some r):=by grind[XR,Yd,YK,Yv]
theorem Qdb{H:Hp}{n m:Nat}{y:HX}(hm:m≠n):XR (Yd H n y) m=XR H m:=QbN hm _ _ _ λe=>hm (Qjs e)
theorem Qbb{H:Hp}{n m:Nat}(hm:m≠n):XR (Qev H n) m=XR H m:=QbI _ _ _ λe=>hm (Qjs e)
theorem QgS{H:Hp}{n m:Nat}{r:HX}(h:XR (Qev H n) m=some r):m≠n/\XR H m=some r:=by grind[Qew,XR,Qev,YI]
def Qbx:List (Nat×HX)->Nat->Option HX
 | [],_=>none
 | (k,x)::H,n=>bif Nat.beq k n then some x else Qbx H n
def QgZ:List (Nat×HX)->Nat->HX->List (Nat×HX)
 | [],_,_=>[]
 | (k,x)::H,n,y=>bif Nat.beq k n then(k,y)::H else(k,x)::QgZ H n y
def QfF:List (Nat×HX)->Nat->List (Nat×HX)
 | [],_=>[]
 | (k,x)::H,n=>bif Nat.beq k n then H else(k,x)::QfF H n
def Qcu(x:HB)(d:Nat):Prop:=d=0\/x.cs.length+d*x.sz<=maxLen*x.sz
abbrev Qg6:Int->Value:=λn=>.int .i64 n
open Classical in
noncomputable def ha(ρ:Rho)(p:Nat×HX):Option HA:=match p.2 with
 | .row x=>match ρ p.1,Qq (QE ρ) x.cs with
  | some (b,d),some us=>if Qcu x d then some (.blk b x.ty (us.length+d*x.sz) us)else none
  | _,_=>none
 | .mp ks=>match ρ p.1 with
  | some (b,0)=>some (.mp b Qg6 ks)
  | _=>none
theorem QfR{ρ:Rho}{n:Nat}{x:HB}{A:HA}(h:ha ρ (n,.row x)=some A):∃b d us,ρ n=some (b,d)/\Qq (QE ρ) x.cs=some us/\Qcu x d/\A=.blk b x.ty (us.length+d*x.sz) us:=by grind[ha]
theorem Qiy{ρ:Rho}{n:Nat}{x:HB}{b d:Nat}{us:List Value}(h1:ρ n=some (b,d))(h2:Qq (QE ρ) x.cs=some us)(h3:Qcu x d):ha ρ (n,.row x)=some (.blk b x.ty (us.length+d*x.sz) us):=by grind[ha]
theorem QmR{ρ:Rho}{n:Nat}{ks:List Int}{A:HA}(h:ha ρ (n,.mp ks)=some A):∃b,ρ n=some (b,0)/\A=.mp b Qg6 ks:=by grind[ha]
theorem QlJ{ρ:Rho}{p:Nat×HX}{A:HA}(h:ha ρ p=some A):∃x,ρ p.1=some x:=by
 obtain⟨n,x⟩:=p;cases x<;>grind[QfR,ks,QmR]
theorem Qdw{ρ ρ':Rho}(h:ρ.le ρ')(p:Nat×HX)(A:HA)(e:ha ρ p=some A):ha ρ' p=some A:=by
 obtain⟨n,x⟩:=p;cases x with
 | row x=>
  obtain⟨b,d,us,h1,h2,h3,rfl⟩:=QfR e;exact Qiy (h.1 _ _ h1) (Q3 (QcK h) h2) h3
 | mp ks=>
  obtain⟨b,h1,rfl⟩:=QmR e;simp only[ha,h.1 _ _ h1]
theorem QcL{k m:Nat}(h:m≠k):Nat.beq k m=false:=by cases hz:Nat.beq k m<;>simp_all
theorem QfZ{ρ:Rho}{n:Nat}{x:HX}:∀{H:List (Nat×HX)}{As:List HA},Qq (ha ρ) H=some As->Qbx H n=some x->∃A Rs,ha ρ (n,x)=some A/\QF As A Rs /\
  (∀(x':HX)(A':HA),ha ρ (n,x')=some A'->∃As2,Qq (ha ρ) (QgZ H n x')=some As2/\(A'::Rs).Perm As2/\∀m,Qbx (QgZ H n x') m=bif Nat.beq m n then some x' else Qbx H m) /\
  ∃As3,Qq (ha ρ) (QfF H n)=some As3/\Rs.Perm As3/\∀m,m≠n->Qbx (QfF H n) m=Qbx H m
 | [],As,_,h=>by cases h
 | (k,y)::H,As,e,h=>by
  simp only[Qq]at e;split at e
  ·rename_i A As' h1 h2;injection e with e
   subst e;simp only[Qbx]at h;cases hb:Nat.beq k n with
   | true=>
    rw[hb]at h;injection h with h
    subst h;have hk:=Nat.eq_of_beq_eq_true hb;subst hk;refine⟨A,As',h1,.here,λx' A' e1=>⟨_,?_,.refl _,λm=>?_⟩,As',?_,.refl _,λm hm=>?_⟩
    ·grind[QgZ,Qq]
    ·grind[QgZ,Qbx,QcL]
    ·grind[QfF]
    grind[QfF,Qbx,QcL]
   | false=>
    rw[hb]at h;obtain⟨A0,Rs,g1,g4,g5,As3,g6,g7,g8⟩:=QfZ h2 h;refine⟨A0,A::Rs,g1,g4.there,λx' A' e1=>?_,A::As3,?_,g7.cons _,λm hm=>?_⟩
    ·obtain⟨As2,e3,e4,e5⟩:=g5 x' A' e1;refine⟨A::As2,by simp only[QgZ,hb,cond_false,Qq,h1,e3],(List.Perm.swap ..).trans (e4.cons _),λm=>?_⟩;simp only[QgZ,hb,cond_false,Qbx,e5];cases hq:Nat.beq k m<;>simp_all
    ·grind[QfF,Qq]
    grind[QfF,Qbx]
  ·cases e
def HM(ρ:Rho)(H:Hp)(As:List HA):Prop:=∃(G:List (Nat×HX))(Bs:List HA),(∀m r,XR H m=some r->Qbx G m=some r)/\Qq (ha ρ) G=some Bs/\As=Bs++ρ.ex
theorem HM.mono{ρ ρ':Rho}(h:ρ.le ρ'){H:Hp}{As:List HA}:HM ρ H As->HM ρ' H As:=λ⟨G,Bs,h1,h2,h3⟩=>⟨G,Bs,h1,Q3 (Qdw h) h2,by rw[h.2];exact h3⟩
theorem HM.push{ρ:Rho}{H:Hp}{As:List HA}{n:Nat}{x:HX}{A:HA}(h:HM ρ H As)(hA:ha ρ (n,x)=some A):HM ρ (Yd H n x) (A::As):=by
 obtain⟨G,Bs,h1,h2,h3⟩:=h;refine⟨(n,x)::G,A::Bs,λm r hm=>?_,by simp only[Qq,hA,h2],by rw[h3];rfl⟩;simp only[Qbx];rcases Qei hm with⟨rfl,rfl⟩|⟨h3,h4⟩
 ·simp[Nat.beq_refl]
 grind[QcL]
theorem Qph{ρ:Rho}{n:Nat}{x:HX}{H:Hp}{As:List HA}(hH:HM ρ H As)(h:XR H n=some x):∃A Rs,ha ρ (n,x)=some A/\QF As A Rs /\
  (∀(x':HX)(A':HA),ha ρ (n,x')=some A'->∃As2,HM ρ (Yd H n x') As2/\(A'::Rs).Perm As2) /\
  ∃As3,HM ρ (Qev H n) As3/\Rs.Perm As3:=by
 obtain⟨G,Bs,h1,h2,rfl⟩:=hH;obtain⟨A,Rs,g1,g4,g5,As3,g6,g7,g8⟩:=QfZ h2 (h1 _ _ h);refine⟨A,Rs++ρ.ex,g1,g4.append_right _,λx' A' e1=>?_,As3++ρ.ex,⟨QfF G n,As3,λm r hm=>?_,g6,rfl⟩,g7.append_right _⟩
 ·obtain⟨As2,e3,e4,e5⟩:=g5 x' A' e1;refine⟨As2++ρ.ex,⟨QgZ G n x',As2,λm r hm=>?_,e3,rfl⟩,e4.append_right _⟩;rw[e5];rcases Qei hm with⟨rfl,rfl⟩|⟨h3,h4⟩
  ·simp[Nat.beq_refl]
  ·rw[QcL (Ne.symm h3)];exact h1 m r h4
 ·obtain⟨h3,h4⟩:=QgS hm;rw[g8 m h3];exact h1 m r h4
theorem Xv{ρ:Rho}{n:Nat}{x:HB}{H:Hp}{As:List HA}(hH:HM ρ H As)(h:XH H n=some x):∃b d us Rs,ρ n=some (b,d)/\Qq (QE ρ) x.cs=some us/\Qcu x d/\QF As (.blk b x.ty (us.length+d*x.sz) us) Rs /\
  (∀(x':HB)(us':List Value),Qq (QE ρ) x'.cs=some us'->Qcu x' d->∃As2,HM ρ (XJ H n x') As2/\(HA.blk b x'.ty (us'.length+d*x'.sz) us'::Rs).Perm As2) /\
  ∃As3,HM ρ (Qev H n) As3/\Rs.Perm As3:=by
 obtain⟨A,Rs,g1,g4,g5,g6⟩:=Qph hH (QbQ h);obtain⟨b,d,us,e1,e2,e3,rfl⟩:=QfR g1;exact⟨b,d,us,Rs,e1,e2,e3,g4,λx' us' f1 f2=>g5 (.row x') _ (Qiy e1 f1 f2),g6⟩
theorem QkU{ρ:Rho}{n:Nat}{ks:List Int}{H:Hp}{As:List HA}(hH:HM ρ H As)(h:QdZ H n=some ks):∃b Rs,ρ n=some (b,0)/\QF As (.mp b Qg6 ks) Rs /\
  ∀ks',∃As2,HM ρ (Yd H n (.mp ks')) As2/\(HA.mp b Qg6 ks'::Rs).Perm As2:=by
 obtain⟨A,Rs,g1,g4,g5,g6⟩:=Qph hH (QkS h);obtain⟨b,e1,rfl⟩:=QmR g1;exact⟨b,Rs,e1,g4,λks'=>g5 (.mp ks') _ (by simp only[ha,e1])⟩
def QB(ρ:Rho)(n:Nat):Prop:=∀k,n<=k->ρ k=none
def ext(ρ:Rho)(n:Nat)(x:Nat×Nat):Rho:=⟨λk=>bif Nat.beq k n then some x else ρ k,ρ.ex⟩
theorem Qaw(ρ:Rho)(n:Nat)(x:Nat×Nat):ext ρ n x n=some x:=by simp[ext,Nat.beq_refl]
theorem Qem{ρ:Rho}{n:Nat}(h:QB ρ n)(x:Nat×Nat):ρ.le (ext ρ n x):=⟨λk y hk=>by
 unfold ext;simp only[];cases hb:Nat.beq k n with
 | true=>
  have:=Nat.eq_of_beq_eq_true hb;subst this;rw[h k (Nat.le_refl _)]at hk;cases hk
 | false=>exact hk,rfl⟩
theorem Qac{ρ:Rho}{n:Nat}(h:QB ρ n)(x:Nat×Nat):QB (ext ρ n x) (n+1):=λk hk=>by
 show(bif Nat.beq k n then some x else ρ k)=none;cases hb:Nat.beq k n with
 | true=>
  have:=Nat.eq_of_beq_eq_true hb;omega
 | false=>exact h k om
def Out(w0:World)(ρ:Rho)(v:Value)(H':Hp)(n':Nat)(u:Value)(C:World->Prop):Prop:=
 ∃ρ' As',ρ.le ρ'/\QB ρ' n'/\den ρ' v=some u/\HM ρ' H' As'/\∀w,C w->HS w0 [] As' w
def OpT(P:Program)(o:Oper)(L':Qa)(C:World->Prop)(K:Value->(World->Prop)->Prop):Prop:=
 ∃(G:Type)(V:G->Value)(F:G->Prop)(C':G->World->Prop),OpH P o L' C V F C'/\∀g,F g->K (V g) (C' g)
section
variable{P:Program}{o:Oper}{L':Qa}{w0:World}{ρ:Rho}{L:Env}{H:Hp}{n:Nat}{As:List HA}
theorem OpT.of_p{v u:Value}(h:OpP P o L' u)(hd:den ρ v=some u)(hH:HM ρ H As)(hf:QB ρ n):OpT P o L' (HS w0 [] As) (Out w0 ρ v H n):=
 ⟨Unit,_,_,_,(h.q (HS w0 [] As)).h (HS.stab _ _ _),λ_ _=>⟨ρ,As,ρ.le_refl,hf,hd,hH,λ_ h=>h⟩⟩
theorem OpT.of_q{v u:Value}(h:OpQ P o L' (HS w0 [] As) u)(hd:den ρ v=some u)(hH:HM ρ H As)(hf:QB ρ n):OpT P o L' (HS w0 [] As) (Out w0 ρ v H n):=
 ⟨Unit,_,_,_,h.h (HS.stab _ _ _),λ_ _=>⟨ρ,As,ρ.le_refl,hf,hd,hH,λ_ h=>h⟩⟩
theorem QaB{b d:Nat}{x:HB}{us:List Value}{v u:Value}{C:World->Prop}(hH:HM ρ H As)(hf:QB ρ n)(hc:Qq (QE ρ) x.cs=some us)(hr:Qcu x d)(hv:den (ext ρ n (b,d)) v=some u)(hC:∀w,C w->HS w0 [] (.blk b x.ty (us.length+d*x.sz) us::As) w):Out w0 ρ v (XJ H n x) (n+1) u C:=by
 have hle:=Qem hf (b,d);refine⟨ext ρ n (b,d),_,hle,Qac hf _,hv,?_,hC⟩;exact(HM.mono hle hH).push (Qiy (Qaw ρ n (b,d)) (Q3 (QcK hle) hc) hr)
theorem QpY{t x:Nat}{m i sz:Nat}{ag:Bool}{r:HB}{v:Value}(ho:o.op=.load t (.tmp x))(hs:SR ρ L L')(hH:HM ρ H As)(hx:L x=some (.pointer (some ⟨m,i,none⟩)))(hg:XH H m=some r)(hz:tsz P t=some (sz,ag))
  (h:(if ag then(bif Nat.ble (i+sz) r.cs.length then some (.agg (cut r.cs i sz).toArray)else none)else(bif Nat.beq sz 1 then r.cs[i]? else none))=some v):∃u,OpQ P o L' (HS w0 [] As) u/\den ρ v=some u:=by
 obtain⟨b,d,us,Rs,g1,g2,g3,g4,_,_⟩:=Xv hH hg;obtain⟨u,e1,e2⟩:=hs.get hx;simp only[den,Q0,QE,Xn,g1,Option.some.injEq]at e2;subst e2;cases ag with
 | true=>
  simp only[if_true]at h;cases hb:Nat.ble (i+sz) r.cs.length with
  | false=>rw[hb]at h;cases h
  | true=>
   rw[hb]at h;injection h with h
   subst h;refine⟨_,QcA ho e1 hz g4 (by rw[QP g2];exact hb),?_⟩
   grind[den,Q0,cut,Xb,X2]
 | false=>
  cases hb:Nat.beq sz 1 with
  | false=>rw[hb]at h;simp at h
  | true=>
   rw[hb]at h;have hk:=Nat.eq_of_beq_eq_true hb;subst hk;have h':r.cs[i]?=some v:=by simpa using h
   obtain⟨u,e3,e4⟩:=Qaa g2 h'
   grind[Qan,Qde,Qb4]
theorem Qlo{v u:Value}(e:Xn ρ v=some u):u.oneCell'=true:=by
 cases v<;>simp only[Xn]at e<;>first
  | (injection e with e;subst e;rfl)
  | ((repeat' split at e)<;>first|(injection e with e;subst e;rfl)|cases e)
  | cases e
theorem Qm6{v u:Value}(e:QE ρ v=some u):u.oneCell'=true:=by
 cases v with
 | func f a b=>
  simp only[QE]at e;split at e
  ·injection e with e;subst e;rfl
  ·cases e
 | _=>grind[QE,Qlo]
theorem Yl{vs us:List Value}(h:Qq (QE ρ) vs=some us):us.all (·.oneCell')=true:=by
 refine List.all_eq_true.2 λu hu=>?_;obtain⟨a,_,e⟩:=Qge h hu;exact Qm6 e
theorem QnH{t x:Nat}{y:Operand}{m i sz:Nat}{ag:Bool}{r:HB}{v:Value}(ho:o.op=.store t (.tmp x) y)(hs:SR ρ L L')(hH:HM ρ H As)(hf:QB ρ n)(hx:L x=some (.pointer (some ⟨m,i,none⟩)))(hy:opd L y=some v)(hn:Zd v=true)(hg:XH H m=some r)(hz:tsz P t=some (sz,ag))
  (hl:v.cells.toList.length=sz)(hr:i+sz<=r.cs.length):OpT P o L' (HS w0 [] As) (Out w0 ρ undef (XJ H m {r with cs:=Qc r.cs i v.cells.toList}) n):=by
 obtain⟨b,d,us,Rs,g1,g2,g3,g4,g5,_⟩:=Xv hH hg;obtain⟨p,e1,e2⟩:=hs.get hx;simp only[den,Q0,QE,Xn,g1,Option.some.injEq]at e2;subst e2;obtain⟨u,e3,e4⟩:=Yx hs hy;have hc:=Qfm hn e4;have hlu:=QP hc;have hl2:=QP g2;have XJ:=XF i g2 hc;obtain⟨As2,g6,g7⟩:=g5 {r with cs:=Qc r.cs i v.cells.toList} _ XJ (by unfold Qcu at *;simpa[Qf]using g3);have hS:=X5 (w0:=w0) (M:=[]) (As:=As) (As':=.blk b r.ty (us.length+d*r.sz) (Qc us i u.cells.toList)::Rs) (tot:=us.length+d*r.sz) ho e1 e3 hz (by rw[hlu];exact hl) ⟨Rs,g4,.refl _⟩ (by rw[hl2];exact hr) (Yl hc);refine⟨_,_,_,_,hS,λ_ _=>⟨ρ,As2,ρ.le_refl,hf,?_,g6,λw hw=>?_⟩⟩
 ·rfl
 ·have:HS w0 [] (.blk b r.ty ((Qc us i u.cells.toList).length+d*r.sz) (Qc us i u.cells.toList)::Rs) w:=by rw[Qf];exact hw
  exact this.perm g7
theorem QfT{m b d i:Nat}:den (ext ρ m (b,d)) (.pointer (some ⟨m,i,none⟩))=some (.pointer (some ⟨b,i,none⟩)):=by simp only[den,Q0,QE,Xn,Qaw]
theorem QdV{m b d i l c:Nat}:den (ext ρ m (b,d)) (.slice (some ⟨m,i,none⟩) l c)=some (.slice (some ⟨b,i,none⟩) l (c+d)):=by simp only[den,Q0,QE,Xn,Qaw]
theorem QnE{t:TypeId}{z:List Value}(ho:o.op=.alloc t)(hz:Qz P t=some z)(hfl:QS z=true)(hH:HM ρ H As)(hf:QB ρ n):OpT P o L' (HS w0 [] As) (Out w0 ρ (.pointer (some ⟨n,0,none⟩)) (XJ H n ⟨t,0,z⟩) (n+1)):=
 ⟨_,_,_,_,Qdx ho hz,λb _=>QaB (d:=0) hH hf (Xy hfl) (.inl rfl) QfT λw hw=>by rw[Nat.zero_mul,Nat.add_zero];exact hw⟩
theorem QqZ{t:TypeId}{x:Operand}{v:Value}(ho:o.op=.box t x)(hs:SR ρ L L')(hx:opd L x=some v)(hn:Zd v=true)(hH:HM ρ H As)(hf:QB ρ n):OpT P o L' (HS w0 [] As) (Out w0 ρ (.pointer (some ⟨n,0,none⟩)) (XJ H n ⟨t,0,v.cells.toList⟩) (n+1)):=by
 obtain⟨u,e1,e2⟩:=Yx hs hx;exact⟨_,_,_,_,Qo2 ho e1,λb _=>QaB (d:=0) hH hf (Qfm hn e2) (.inl rfl) QfT λw hw=>by rw[Nat.zero_mul,Nat.add_zero];exact hw⟩
theorem Qfs{t e sz by' len:Nat}{parts:Array (Nat×Operand)}{vs:List (Nat×Value)}{z cs:List Value}(ho:o.op=.buildSlice t len parts)(hs:SR ρ L L')(hp:Qcv L parts.toList=some vs)(ht:tsl P t=some (e,sz,by'))(hz:Qz P e=some z)(hfl:QS z=true)(hlen:Nat.ble (len*sz) 16777216=true)(h0:Nat.blt 0 (len*sz)=true)
  (hc:YO (λi=>some (i*sz,sz)) ((List.range (len*sz)).map λi=>z.getD (i%z.length) default) vs=some cs)(hfz:QS ((List.range (len*sz)).map λi=>z.getD (i%z.length) default)=true)(hH:HM ρ H As)(hf:QB ρ n):OpT P o L' (HS w0 [] As) (Out w0 ρ (.slice (some ⟨n,0,none⟩) len len) (XJ H n ⟨e,sz,cs⟩) (n+1)):=by
 obtain⟨us,e1,e2⟩:=Qdn hs hp;obtain⟨ts,e3,e4⟩:=Qdt e2 (Xy hfz) hc;exact⟨_,_,_,_,Qg ho e1 ht hz hlen h0 e3,λb _=>QaB (d:=0) hH hf e4 (.inl rfl) (by rw[QdV];rfl) λw hw=>by rw[Nat.zero_mul,Nat.add_zero];exact hw⟩
theorem HS.own_some{w:World}{M:List Nat}{As:List HA}{b t sz n cap:Nat}{xs:List Value}(h:HS w0 M (.own (.slice (some ⟨b,0,none⟩) n cap) t sz n xs::As) w):HS w0 M (.blk b t (cap*sz) xs::As) w:=by
 refine h.turn (λc hc=>by simpa[HA.fp_own,HA.fp_blk,Value.ownBlock]using hc) λho=>?_;obtain⟨hl,⟨e,_⟩|⟨g,cap',e,h2,h3,hb⟩⟩:=ho
 ·cases e
 ·injection e with e1 e2 e3
  injection e1 with e1
  injection e1 with e1 _ _
  subst e1 e3;exact hb
theorem QeJ{t e sz by':Nat}(ho:o.op=.buildSlice t 0 #[])(ht:tsl P t=some (e,sz,by'))(hH:HM ρ H As)(hf:QB ρ n):OpT P o L' (HS w0 [] As) (Out w0 ρ (.slice (some ⟨n,0,none⟩) 0 0) (XJ H n ⟨e,sz,[]⟩) (n+1)):=
 ⟨_,_,_,_,QbE ho ht,λb _=>QaB (d:=0) (us:=[]) hH hf rfl (.inl rfl) (by rw[QdV]) λw hw=>by have:=HS.own_some hw;simpa using this⟩
theorem Qos{t e sz by' k n:Nat}{x y:Operand}{z:List Value}(ho:o.op=.makeSlice t x y)(hx:Gx.ev L' x=some (.int .i64 (k:Int)))(hy:Gx.ev L' y=some (.int .i64 (n:Int)))(ht:tsl P t=some (e,sz,by'))(hz:Qz P e=some z)(hlen:n*by'<=281474976710656)(hn:n<=16777216)(hkn:k<=n) :
  OpH P o L' (HS w0 [] As) (λb:Nat=>.slice (some ⟨b,0,none⟩) k n) (λ_=>True) (λb=>HS w0 [] (.blk b e (n*sz) (Xa z (n*sz))::As)):=by
 intro ρ w hρ hw;obtain⟨hu,inf,h1,h2,h3⟩:=QO ht;have hsz:∀w,(Go.sizeOf e).run P w=.ok sz w:=λw=>by simp[Go.sizeOf,typeInfo,h1,h2]
 have hti:(typeInfo e).run P w=.ok inf w:=by simp[typeInfo,h1]
 obtain⟨zv,hz',hzr⟩:∃zv:Value,zv.cells.toList=z/\∀w,(zeroValue e).run P w=.ok zv w:=by
  unfold Qz at hz;rw[h1]at hz;simp only[Option.bind_some]at hz;cases hzz:inf.zero with
  | none=>rw[hzz]at hz;cases hz
  | some v=>rw[hzz]at hz;simp only[Option.map_some,Option.some.injEq]at hz;exact⟨v,hz,λw=>by simp[zeroValue,typeInfo,h1,hzz]⟩
 have hwr:IntKind.i64.wrap (n:Int)=n:=IntWalk.i64_in _ ⟨om,om⟩;have hwk:IntKind.i64.wrap (k:Int)=k:=IntWalk.i64_in _ ⟨om,om⟩;have hz'':zv.cells=z.toArray:=by rw[<-hz']
 have hpr:((inf.bytes:Nat):Int)*(n:Int)<=281474976710656:=by grind
 have e2:(2:Int)^48=281474976710656:=by decide
 have d1:¬((inf.bytes:Nat):Int)*(n:Int)>2^48:=by rw[e2];omega
 have d1k:¬((inf.bytes:Nat):Int)*(k:Int)>2^48:=by
  have h8:((inf.bytes:Nat):Int)*(k:Int)<=((inf.bytes:Nat):Int)*(n:Int):=Int.mul_le_mul_of_nonneg_left om om;rw[e2];omega
 have d2:¬(n:Int)<0:=om
 have d2k:¬(k:Int)<0:=om
 have d3:¬(k:Int)>n:=om
 have hai:∀(q:Nat)w,(asInt (.int .i64 (q:Int))).run P w=.ok (q:Int) w:=λq w=>by simp[asInt,asIntOf]
 have hb:(Instr.makeSlice t (.int .i64 k) (.int .i64 n)).run P w=.ok (.slice (some ⟨w.heap.size,0,none⟩) k n) (w.alloc (.cells (Xa z (n*sz)).toArray e)):=by
  unfold Instr.makeSlice;simp only[Sem.run_bind,run_underlying hu,Result.andThen_ok,hsz,hai,Sem.run_pure,hti,hwr,hwk,d1,d1k,d2,d2k,d3,decide_false,Bool.or_false,Bool.false_eq_true,if_false,run_askRoom,Int.toNat_natCast]
  by_cases h0:n*sz=0
  ·have e1:∀q:Array Value,(Array.map (λx=>q[x%q.size]!) (Array.range 0))= #[]:=λq=>Array.eq_empty_of_size_eq_zero (by simp);have e3:(Xa z (n*sz)).toArray= #[]:=by rw[h0];rfl
   simp only[h0,if_true,Sem.run_bind,Sem.run_pure,Result.andThen_ok,newRow,run_newObj,World.alloc_eq,e1,e3];simp only[h0]at e3;rw[e3]
  ·simp only[if_neg h0,Sem.run_bind,hzr,Sem.run_pure,Result.andThen_ok,newRow,run_newObj,World.alloc_eq,hz''];congr 2;simp[Xa,<-List.toArray_range]
 simp only[execOp,ho,Sem.run_bind,hρ _ _ hx,hρ _ _ hy,hb,Result.andThen_ok,Sem.run_pure];have h4:=hw.blk_new e (Xa z (n*sz)).toArray;refine⟨w.heap.size,rfl,trivial,?_⟩
 simpa[Qt]using h4
theorem QgN{t e sz by' k c:Nat}{x y:Operand}{z:List Value}(ho:o.op=.makeSlice t x y)(hs:SR ρ L L')(hx:opd L x=some (.int .i64 (k:Int)))(hy:opd L y=some (.int .i64 (c:Int)))(hkc:k<=c)(ht:tsl P t=some (e,sz,by'))(hz:Qz P e=some z)(hb:c*by'<=281474976710656)(hk:c<=16777216)(hfz:QS (Xa z (c*sz))=true)(hH:HM ρ H As)(hf:QB ρ n) :
  OpT P o L' (HS w0 [] As) (Out w0 ρ (.slice (some ⟨n,0,none⟩) k c) (XJ H n ⟨e,sz,Xa z (c*sz)⟩) (n+1)):=
 ⟨_,_,_,_,Qos ho (Qe hs hx rfl) (Qe hs hy rfl) ht hz hb hk hkc,λb _=>QaB (d:=0) hH hf (Xy hfz) (.inl rfl) (by rw[QdV]<;>rfl) λw hw=>by rw[Qt,Nat.zero_mul,Nat.add_zero];exact hw⟩
theorem Qoc{src dst e:TypeId}{x:Operand}{l:List UInt8}(ho:o.op=.convert src dst x)(hs:SR ρ L L')(hx:opd L x=some (.string ⟨⟨l⟩⟩))(h1:P.underlying src=some .string)(h2:P.underlying dst=some (.slice e))(h3:P.underlying e=some (.int .u8))(h5:e=u8T)(hl:l.length<=maxLen)(hH:HM ρ H As)(hf:QB ρ n) :
  OpT P o L' (HS w0 [] As) (Out w0 ρ (.slice (some ⟨n,0,none⟩) l.length l.length) (XJ H n ⟨e,1,l.map λb=>.int .u8 (b.toNat:Int)⟩) (n+1)):=by
 have hfl:QS (l.map λb=>Value.int .u8 (b.toNat:Int))=true:=by
  unfold QS;rw[List.all_map];exact List.all_eq_true.2 λ_ _=>rfl
 refine⟨_,_,_,_,ZS ho (Qe hs hx rfl) h1 h2 h3 h5 hl,λp hp=>QaB (b:=p.1) (d:=p.2-l.length) hH hf (Xy hfl) (.inr ?_) ?_ λw hw=>?_⟩
 ·grind
 ·grind[QdV]
 grind
theorem QjF{t:TypeId}(ho:o.op=.makeMap t none)(hH:HM ρ H As)(hf:QB ρ n):OpT P o L' (HS w0 [] As) (Out w0 ρ (.map (some n)) (Yd H n (.mp [])) (n+1)):=by
 refine⟨_,_,_,_,QcX ho Qg6,λb _=>?_⟩;have hle:=Qem hf (b,0);refine⟨ext ρ n (b,0),_,hle,Qac hf _,?_,(HM.mono hle hH).push (A:=.mp b Qg6 []) (by simp only[ha,Qaw]),λw hw=>hw⟩;simp only[den,Q0,QE,Xn,Qaw]
def QfI(a:Int):List Int->Bool
 | []=>false
 | b::l=>bif decide (a=b)then true else QfI a l
theorem Qfk(a:Int):∀l,QfI a l=decide (a∈l)
 | []=>by simp[QfI]
 | b::l=>by simp_all[QfI,Qfk]
theorem QiP{x:Operand}{m:Nat}(hs:SR ρ L L')(h:opd L x=some (.map (some m))):∃b d,ρ m=some (b,d)/\ev L' x=some (.map (some b)):=by grind[Yx,den,Q0,QE,Xn]
theorem Qlq{t kt et r:Nat}{m x:Operand}{a:Int}{ks:List Int}(ho:o.op=.lookup t m x false)(hs:SR ρ L L')(hH:HM ρ H As)(hm:opd L m=some (.map (some r)))(hx:opd L x=some (.int .i64 a))(ht:P.underlying t=some (.map kt et))(hz:tzv P et=some (.bool false))(hk:tki P kt=some .i64)(hg:QdZ H r=some ks) :
  ∃u,OpQ P o L' (HS w0 [] As) u/\den ρ (.bool (QfI a ks))=some u:=by
 obtain⟨b,Rs,g1,g2,_⟩:=QkU hH hg;obtain⟨b',d',e1,e2⟩:=QiP hs hm;rw[g1]at e1;injection e1 with e1
 injection e1 with e1 _
 subst e1;rw[Qfk];exact⟨_,Qhr ho e2 (Qe hs hx rfl) ht hz (XG hk) g2,by simp only[den,Q0,QE,Xn];congr⟩
theorem QgM{t kt et r:Nat}{m x y:Operand}{a:Int}{ks:List Int}(ho:o.op=.mapUpdate t m x y\/o.op=.insert t m x y)(hs:SR ρ L L')(hH:HM ρ H As)(hf:QB ρ n)(hm:opd L m=some (.map (some r)))(hx:opd L x=some (.int .i64 a))(hy:opd L y=some (.bool true))(ht:P.underlying t=some (.map kt et))(hk:tki P kt=some .i64)(hg:QdZ H r=some ks) :
  OpT P o L' (HS w0 [] As) (Out w0 ρ (.tuple #[]) (Yd H r (.mp (bif QfI a ks then ks else ks++[a]))) n):=by
 obtain⟨b,Rs,g1,g2,g3⟩:=QkU hH hg;obtain⟨b',d',e1,e2⟩:=QiP hs hm;rw[g1]at e1;injection e1 with e1
 injection e1 with e1 _
 subst e1;have hik:Z8 ks a=(bif QfI a ks then ks else ks++[a]):=by grind[Z8,Qfk,ks]
 obtain⟨As2,g4,g5⟩:=g3 (Z8 ks a);rw[<-hik];exact⟨_,_,_,_,Qdd (As':=.mp b Qg6 (Z8 ks a)::Rs) ho e2 (Qe hs hx rfl) (Qe hs hy rfl) ht (XG hk) ⟨Rs,g2,.refl _⟩,λ_ _=>⟨ρ,As2,ρ.le_refl,hf,rfl,g4,λw hw=>hw.perm g5⟩⟩
end
end Ev
namespace Ev
open Go Go.RowKit
noncomputable def Qh7(P:Program)(H:Hp)(xt sz:Nat):Value->Option (Nat×List Value)
 | .slice none k _=>bif QV P xt&&Nat.beq k 0 then some (0,[])else none
 | .slice (some ⟨m,i,_⟩) k _=>bif QV P xt then(bif Nat.beq k 0 then some (0,[])else match XH H m with
  | some r=>bif Nat.ble (i+k*sz) r.cs.length then some (k,cut r.cs i (k*sz))else none
  | none=>none)else none
 | .pointer (some ⟨_,_,some _⟩)=>bif QV P xt then some (0,[])else none
 | .string ⟨⟨l⟩⟩=>bif QT P xt&&Nat.beq sz 1 then some (l.length,l.map λb=>.int .u8 (b.toNat:Int))else none
 | _=>none
structure SrcOk(P:Program)(w0:World)(As:List HA)(xt sz:Nat)(uy:Value)(m:Nat)(us:List Value):Prop where
 ty:P.underlying xt=some .string\/∃e',P.underlying xt=some (.slice e')
 lenOf:∀w,(Builtin.lenOf uy).run P w=.ok m w
 cells:∀w,HS w0 [] As w->(Builtin.firstCells sz m uy).run P w=.ok us.toArray w
 len:us.length=m*sz
theorem Qra{ρ:Rho}(l:List UInt8):Qq (QE ρ) (l.map λb=>Value.int .u8 (b.toNat:Int))=some (l.map λb=>.int .u8 (b.toNat:Int)):=Xy (by
 unfold QS;rw[List.all_map];exact List.all_eq_true.2 λ_ _=>rfl)
section
variable{P:Program}{o:Oper}{L':Qa}{w0:World}{ρ:Rho}{L:Env}{H:Hp}{n:Nat}{As:List HA}
theorem Qkz{α:Type}{c:Bool}{x a:α}(h:(bif c then some x else none)=some a):c=true/\x=a:=by grind
theorem QiK{xt sz:Nat}{y:Operand}{v:Value}{m:Nat}{cs:List Value}(hs:SR ρ L L')(hH:HM ρ H As)(hy:opd L y=some v)(h:Qh7 P H xt sz v=some (m,cs)):∃uy us,ev L' y=some uy/\Qq (QE ρ) cs=some us/\SrcOk P w0 As xt sz uy m us:=by
 unfold Qh7 at h;split at h
 ·rename_i k c;cases hb:QV P xt&&Nat.beq k 0 with
  | false=>rw[hb]at h;cases h
  | true=>
   rw[hb]at h;simp only[cond_true,Option.some.injEq,Prod.mk.injEq]at h;obtain⟨rfl,rfl⟩:=h;simp only[Bool.and_eq_true]at hb;have hk:=Nat.eq_of_beq_eq_true hb.2;subst hk;exact⟨_,[],Qe hs hy rfl,rfl,.inr (Xo hb.1),λ_=>rfl,λw _=>XK (news:=[]) (by simp) λh=>absurd rfl h,by simp⟩
 ·rename_i m2 i q k c;cases hb:QV P xt with
  | false=>rw[hb]at h;cases h
  | true=>
   rw[hb]at h;simp only[cond_true]at h
   have hev:∃b c',ρ m2=some b/\ev L' y=some (.slice (some ⟨b.1,i,none⟩) k c'):=by
    cases q with
    | none=>
     obtain⟨b,d,h1,h2⟩:=XA hs hy
     simp_all
    | some q=>
     obtain⟨b,d,h1,h2⟩:=XW hs hy
     simp_all
   obtain⟨⟨b,d⟩,c',h1,h2⟩:=hev;cases hk:Nat.beq k 0 with
   | true=>
    rw[hk]at h;simp only[cond_true,Option.some.injEq,Prod.mk.injEq]at h;obtain⟨rfl,rfl⟩:=h;have hk:=Nat.eq_of_beq_eq_true hk;subst hk;exact⟨_,[],h2,rfl,.inr (Xo hb),λ_=>rfl,λw _=>XK (news:=[]) (by simp) λh=>absurd rfl h,by simp⟩
   | false=>
    rw[hk]at h;simp only[cond_false]at h;split at h
    ·rename_i r hg;cases hl:Nat.ble (i+k*sz) r.cs.length with
     | false=>rw[hl]at h;cases h
     | true=>
      rw[hl]at h;simp only[cond_true,Option.some.injEq,Prod.mk.injEq]at h;obtain⟨rfl,rfl⟩:=h;have hl':=Nat.le_of_ble_eq_true hl;obtain⟨b9,d9,us,Rs,g1,g2,g3,g4,_,_⟩:=Xv hH hg;rw[h1]at g1;injection g1 with g1
      injection g1 with g1 g1'
      subst g1 g1';have hlu:=QP g2;have hcl:(cut us i (k*sz)).length=k*sz:=by simp only[cut,List.length_take,List.length_drop];omega
      exact⟨_,cut us i (k*sz),h2,Xb (k*sz) (X2 i g2),.inr (Xo hb),λ_=>rfl,λw hw=>XK hcl (Zo i (k*sz) (λ_=>rfl) g4 w hw),hcl⟩
    ·cases h
 ·rename_i m2 i q;obtain⟨hb,h⟩:=Qkz h;simp only[Prod.mk.injEq]at h;obtain⟨rfl,rfl⟩:=h;obtain⟨b,d,j,h1,h2⟩:=Qez hs hy;exact⟨_,[],h2,rfl,.inr (Xo hb),λ_=>rfl,λw _=>XK (news:=[]) (by simp) λh=>absurd rfl h,by simp⟩
 ·rename_i l;cases hb:QT P xt&&Nat.beq sz 1 with
  | false=>rw[hb]at h;cases h
  | true=>
   rw[hb]at h;simp only[cond_true,Option.some.injEq,Prod.mk.injEq]at h;obtain⟨rfl,rfl⟩:=h;simp only[Bool.and_eq_true]at hb;have hk:=Nat.eq_of_beq_eq_true hb.2;subst hk;refine⟨.string (bs l),_,Qe hs hy rfl,Qra l,.inl (XM hb.1),λ_=>rfl,λw _=>?_,by simp⟩;have hx:(bs l).extract 0 l.length=bs l:=(QeQ _).trans (congrArg bs (by rw[Lib.extract_data];simp));simp only[Builtin.firstCells,hx,Sem.run_pure];congr 1;simp[bs]
 ·cases h
theorem QjZ{t xt e sz by' k c m p:Nat}{s y:Operand}{r:HB}{vy:Value}{cs:List Value}{q:Option Nat}(ho:o.op=.call {callee:=.builtin .append,args:=#[s,y],argTypes:=#[t,xt]})(hs:SR ρ L L')(hH:HM ρ H As)(hf:QB ρ n)(hx:opd L s=some (.slice (some ⟨p,0,q⟩) k c))(hy:opd L y=some vy)(ht:tsl P t=some (e,sz,by'))
  (hsrc:Qh7 P H xt sz vy=some (m,cs))(hg:XH H p=some r)(hfit:k+m<=c)(hr:k*sz+cs.length<=r.cs.length):OpT P o L' (HS w0 [] As) (Out w0 ρ (.slice (some ⟨p,0,q⟩) (k+m) c) (XJ H p {r with cs:=Qc r.cs (k*sz) cs}) n):=by
 obtain⟨uy,us,h1,h2,h3⟩:=QiK (w0:=w0) hs hH hy hsrc;obtain⟨b,d,rs,Rs,g1,g2,g3,g4,g5,_⟩:=Xv hH hg;have XJ:=XF (k*sz) g2 h2;obtain⟨As2,g6,g7⟩:=g5 {r with cs:=Qc r.cs (k*sz) cs} _ XJ (by unfold Qcu at *;simpa[Qf]using g3);have hev:∃c',c<=c'/\ev L' s=some (.slice (some ⟨b,0,none⟩) k c')/\den ρ (.slice (some ⟨p,0,q⟩) (k+m) c)=some (.slice (some ⟨b,0,none⟩) (k+m) c'):=by cases q<;>grind[XA,den,Q0,QE,Xn,XW]
 obtain⟨c',hc,e1,e2⟩:=hev;have hlr:=QP g2;have hlu:=QP h2;refine⟨Unit,λ_=>.slice (some ⟨b,0,none⟩) (k+m) c',λ_=>True,λ_=>HS w0 [] (.blk b r.ty (rs.length+d*r.sz) (Qc rs (k*sz) us)::Rs),?_,λ_ _=>⟨ρ,As2,ρ.le_refl,hf,e2,g6,λw hw=>?_⟩⟩
 ·intro a w hρ hw;obtain⟨hu,inf,hi,hs1,hs2⟩:=QO ht;subst hs1;have hpk:=hw.pick g4;obtain⟨w',hst,hb,r1,r2,r3,r4,r5⟩:=Xe (P:=P) us 0 rs w hpk.head (by rw[Nat.add_zero,hlr,hlu];exact hr) (λu hu=>List.all_eq_true.1 (Yl h2) u hu) (i:=k*inf.size);have he:=QgW (P:=P) (ty:=o.type) (x:=uy) (w':=w') (g:=b) (n:=k) (m:=m) (cap:=c') (t:=t) (xt:=xt) hu h3.ty hi (h3.lenOf w) (h3.cells w hw) (by rw[Q8,Nat.zero_add];exact hst) om;simp only[execOp,ho,resolve,Sem.run_bind,Sem.run_pure,Result.andThen_ok,invoke,builtin,List.map_toArray,List.map_cons,List.map_nil,hρ _ _ e1,hρ _ _ h1,he];exact⟨(),rfl,trivial,HS.swap hpk (B:=.blk b r.ty (rs.length+d*r.sz) (Qc rs (k*inf.size) us)) (λ_ h=>h) r1 r2 r3 r4 (λk hk=>r5 k (by simpa[HA.fp_blk]using hk)) (show QL b _ _ (Qc rs (k*inf.size) us) w' by simpa using hb)⟩
 ·have:HS w0 [] (.blk b r.ty ((Qc rs (k*sz) us).length+d*r.sz) (Qc rs (k*sz) us)::Rs) w:=by rw[Qf];exact hw
  exact this.perm g7
theorem Qc3{t xt e sz by' k m:Nat}{s y:Operand}{v uy:Value}{z xs us:List Value}{Rs:List HA}(ho:o.op=.call {callee:=.builtin .append,args:=#[s,y],argTypes:=#[t,xt]})(hv:ev L' s=some v)(hy:ev L' y=some uy)(ht:tsl P t=some (e,sz,by'))(hz:Qz P e=some z)(hzs:z.length=sz)
  (hcls:∀w,HS w0 [] As w->HS w0 [] (.own v e sz k xs::Rs) w)(h3:SrcOk P w0 As xt sz uy m us)(h1:us.all (·.oneCell')=true)(hroom:(k+m)*by'<=140737488355328)(hmax:k+m<=maxLen)(hpos:0<k+m) :
  OpH P o L' (HS w0 [] As) (λg:Nat×Nat=>.slice (some ⟨g.1,0,none⟩) (k+m) g.2) (λg=>k+m<=g.2/\g.2<=maxLen/\(xs++us).length=(k+m)*sz) (λg=>HS w0 [] (.blk g.1 e (g.2*sz) (xs++us)::Rs)):=by
 intro a w hρ hw;obtain⟨v',w',hr,hw'⟩:=Qeo (P:=P) (ty:=o.type) ht h3.ty hz hzs (hcls w hw) .here (x:=uy) (h3.lenOf w) (h3.cells w hw) (h3.cells _ hw.drew) h3.len (λu hu=>List.all_eq_true.1 h1 u hu) hroom hmax;simp only[execOp,ho,resolve,Sem.run_bind,Sem.run_pure,Result.andThen_ok,invoke,builtin,List.map_toArray,List.map_cons,List.map_nil,hρ _ _ hv,hρ _ _ hy,hr];obtain⟨a',cap',rfl,_⟩:=hw'.head.form;obtain⟨g,rfl,_,h4,h5,h6,h7⟩:=hw'.own_blk hpos .here;exact⟨(g,cap'),rfl,⟨h4,h5,h6⟩,h7⟩
theorem Qcq{Rs:List HA}{H':Hp}{e sz k m:Nat}{cs xs:List Value}{g:Nat×Nat}(hH:∃As3,HM ρ H' As3/\Rs.Perm As3)(hf:QB ρ n)(hc:Qq (QE ρ) cs=some xs)(h1:k+m<=g.2)(h2:g.2<=maxLen)(h3:xs.length=(k+m)*sz) :
  Out w0 ρ (.slice (some ⟨n,0,none⟩) (k+m) (k+m)) (XJ H' n ⟨e,sz,cs⟩) (n+1) (.slice (some ⟨g.1,0,none⟩) (k+m) g.2) (HS w0 [] (.blk g.1 e (g.2*sz) xs::Rs)):=by
 obtain⟨As3,h4,h5⟩:=hH;have hl:=QP hc;have hsum:(k+m)*sz+(g.2-(k+m))*sz=g.2*sz:=by rw[<-Nat.add_mul];congr 1;omega
 refine QaB (b:=g.1) (d:=g.2-(k+m)) h4 hf hc (.inr ?_) (by rw[QdV,show k+m+(g.2-(k+m))=g.2 by omega]) λw hw=>?_
 ·simp only[];rw[<-hl,h3,hsum];exact Nat.mul_le_mul_right _ h2
 ·simp only[];rw[h3,hsum];exact hw.perm (h5.cons _)
theorem QjR{t xt e sz by' k c m p:Nat}{s y:Operand}{r:HB}{vy:Value}{z cs:List Value}(ho:o.op=.call {callee:=.builtin .append,args:=#[s,y],argTypes:=#[t,xt]})(hs:SR ρ L L')(hH:HM ρ H As)(hf:QB ρ n)(hx:opd L s=some (.slice (some ⟨p,0,none⟩) k c))(hy:opd L y=some vy)(ht:tsl P t=some (e,sz,by'))(hz:Qz P e=some z)(hzs:z.length=sz)
  (hsrc:Qh7 P H xt sz vy=some (m,cs))(hg:XH H p=some r)(hty:r.ty=e)(hsz:r.sz=sz)(hlen:r.cs.length=c*sz)(hsz0:0<sz)(hkc:k<=c)(hcm:c<=maxLen)(hroom:(k+m)*by'<=140737488355328)(hmax:k+m<=maxLen)(hpos:0<k+m) :
  OpT P o L' (HS w0 [] As) (Out w0 ρ (.slice (some ⟨n,0,none⟩) (k+m) (k+m)) (XJ (Qev H p) n ⟨e,sz,r.cs.take (k*sz)++cs⟩) (n+1)):=by
 obtain⟨uy,us,h1,h2,h3⟩:=QiK (w0:=w0) hs hH hy hsrc;obtain⟨b,d,rs,Rs,g1,g2,g3,g4,_,g6⟩:=Xv hH hg;obtain⟨b9,d9,e1,e2⟩:=XA hs hx;rw[g1]at e1;injection e1 with e1
 injection e1 with e1 e3
 subst e1 e3;have hlr:=QP g2
 have hcd:c+d<=maxLen:=by
  unfold Qcu at g3;rcases g3 with g3|g3
  ·omega
  ·rw[hlen,hsz,<-Nat.add_mul]at g3;exact Nat.le_of_mul_le_mul_right g3 hsz0
 have htot:rs.length+d*r.sz=(c+d)*sz:=by rw[hlr,hlen,hsz,Nat.add_mul]
 rw[hty,htot]at g4;have hH4:=Qc3 (w0:=w0) (As:=As) (xs:=rs.take (k*sz)) (Rs:=Rs) (k:=k) ho e2 h1 ht hz hzs (λw hw=>HS.to_own g4 hw (List.take_append_drop (k*sz) rs).symm (by rw[List.length_take,hlr,hlen];exact Nat.min_eq_left (Nat.mul_le_mul_right _ hkc)) om hcd) h3 (Yl h2) hroom hmax hpos;exact⟨_,_,_,_,hH4,λg hg4=>Qcq g6 hf (Ym (Xb (k*sz) g2) h2) hg4.1 hg4.2.1 hg4.2.2⟩
theorem Qkp{t xt e sz by' m:Nat}{s y:Operand}{vy:Value}{z cs:List Value}(ho:o.op=.call {callee:=.builtin .append,args:=#[s,y],argTypes:=#[t,xt]})(hs:SR ρ L L')(hH:HM ρ H As)(hf:QB ρ n)(hx:opd L s=some (.slice none 0 0))(hy:opd L y=some vy)(ht:tsl P t=some (e,sz,by'))(hz:Qz P e=some z)(hzs:z.length=sz)
  (hsrc:Qh7 P H xt sz vy=some (m,cs))(hroom:(0+m)*by'<=140737488355328)(hmax:0+m<=maxLen)(hpos:0<0+m) :
  OpT P o L' (HS w0 [] As) (Out w0 ρ (.slice (some ⟨n,0,none⟩) (0+m) (0+m)) (XJ H n ⟨e,sz,[]++cs⟩) (n+1)):=by
 obtain⟨uy,us,h1,h2,h3⟩:=QiK (w0:=w0) hs hH hy hsrc;have hH4:=Qc3 (w0:=w0) (As:=As) (xs:=[]) (Rs:=As) (k:=0) ho (Qe hs hx rfl) h1 ht hz hzs (λw hw=>hw.own_nil e sz) h3 (Yl h2) hroom hmax hpos;exact⟨_,_,_,_,hH4,λg hg4=>Qcq ⟨As,hH,.refl _⟩ hf (Ym (by rfl) h2) hg4.1 hg4.2.1 hg4.2.2⟩
theorem Qky{t xt e sz by':Nat}{s y:Operand}{vy:Value}{cs:List Value}(ho:o.op=.call {callee:=.builtin .append,args:=#[s,y],argTypes:=#[t,xt]})(hs:SR ρ L L')(hH:HM ρ H As)(hf:QB ρ n)(hx:opd L s=some (.slice none 0 0))(hy:opd L y=some vy)(ht:tsl P t=some (e,sz,by'))
  (hsrc:Qh7 P H xt sz vy=some (0,cs)):OpT P o L' (HS w0 [] As) (Out w0 ρ (.slice none 0 0) H n):=by
 obtain⟨uy,us,h1,h2,h3⟩:=QiK (w0:=w0) hs hH hy hsrc;refine⟨Unit,λ_=>.slice none 0 0,λ_=>True,λ_=>HS w0 [] As,?_,λ_ _=>⟨ρ,As,ρ.le_refl,hf,rfl,hH,λ_ h=>h⟩⟩;intro a w hρ hw;obtain⟨hu,inf,hi,hs1,hs2⟩:=QO ht;subst hs1;have hu0:us=[]:=List.eq_nil_of_length_eq_zero (by have:=h3.len;omega);subst hu0;have he:=Qg0 (P:=P) (ty:=o.type) (t:=t) (xt:=xt) (x:=uy) (w:=w) hu h3.ty hi (h3.lenOf w) (h3.cells w hw);simp only[execOp,ho,resolve,Sem.run_bind,Sem.run_pure,Result.andThen_ok,invoke,builtin,List.map_toArray,List.map_cons,List.map_nil,hρ _ _ (Qe hs hx rfl),hρ _ _ h1,he];exact⟨(),rfl,trivial,hw⟩
end
end Ev
namespace Ev
open Go Go.RowKit
section
variable{P:Program}{o:Oper}{L':Qa}{w0:World}{ρ:Rho}{L:Env}{H:Hp}{n:Nat}{As:List HA}
theorem QmJ{cs us:List Value}(h:QS cs=true)(e:Qq (QE ρ) cs=some us):us=cs:=by grind[Xy]
theorem QcG{x:Operand}{p i l c:Nat}{q:Option Nat}(hs:SR ρ L L')(h:opd L x=some (.slice (some ⟨p,i,q⟩) l c)):∃b d c',ρ p=some (b,d)/\ev L' x=some (.slice (some ⟨b,i,none⟩) l c'):=by cases q<;>grind[XA,XW]
theorem QjG{src dst e p i k c:Nat}{x:Operand}{q:Option Nat}{r:HB}(ho:o.op=.convert src dst x)(hs:SR ρ L L')(hH:HM ρ H As)(hx:opd L x=some (.slice (some ⟨p,i,q⟩) k c))(h1:P.underlying src=some (.slice e))(h2:QT P dst=true)(h3:P.underlying e=some (.int .u8))(hg:XH H p=some r)(hl:i+k<=r.cs.length)
  (h8:(cut r.cs i k).all QfV=true)(hf:QS (cut r.cs i k)=true):∃u,OpQ P o L' (HS w0 [] As) u/\den ρ (.string (bs ((cut r.cs i k).map QaJ)))=some u:=by
 obtain⟨b,d,us,Rs,g1,g2,g3,g4,_,_⟩:=Xv hH hg;obtain⟨b9,d9,c',e1,e2⟩:=QcG hs hx;rw[g1]at e1;injection e1 with e1
 injection e1 with e1 e3
 subst e1 e3;have hc:Qq (QE ρ) (cut r.cs i k)=some (cut us i k):=Xb k (X2 i g2);have he:=QmJ hf hc;have hlen:(cut r.cs i k).length=k:=by simp only[cut,List.length_take,List.length_drop];omega
 refine⟨_,?_,rfl⟩;intro a w hρ hw
 have hr:(convert src dst (.slice (some ⟨b,i,none⟩) (cut r.cs i k).length c')).run P w=.ok (.string (bs ((cut r.cs i k).map QaJ))) w:=
  XY h1 (XM h2) h3 (λv hv=>List.all_eq_true.1 h8 v hv) (by rw[<-he];exact Zo i k (λ_=>rfl) g4 w hw)
 rw[hlen]at hr;simp only[execOp,ho,Sem.run_bind,hρ _ _ e2,hr,Result.andThen_ok,Sem.run_pure];exact⟨rfl,Below.refl _ _⟩
theorem QjQ{src dst e k c:Nat}{x:Operand}(ho:o.op=.convert src dst x)(hs:SR ρ L L')(hx:opd L x=some (.slice none 0 c))(h1:P.underlying src=some (.slice e))(h2:QT P dst=true)(h3:P.underlying e=some (.int .u8)):∃u,OpQ P o L' (HS w0 [] As) u/\den ρ (.string (bs []))=some u:=by
 refine⟨_,?_,rfl⟩;intro a w hρ hw
 have hr:(convert src dst (.slice none ([]:List Value).length c)).run P w=.ok (.string (bs (([]:List Value).map QaJ))) w:=
  XY h1 (XM h2) h3 (λv hv=>by cases hv) (λh=>absurd rfl h)
 simp only[execOp,ho,Sem.run_bind,hρ _ _ (Qe hs hx rfl),show(0:Nat)=([]:List Value).length from rfl,hr,Result.andThen_ok,Sem.run_pure];exact⟨rfl,Below.refl _ _⟩
theorem Qj9{src dst e p i q:Nat}{x:Operand}(ho:o.op=.convert src dst x)(hs:SR ρ L L')(hx:opd L x=some (.pointer (some ⟨p,i,some q⟩)))(h1:P.underlying src=some (.slice e))(h2:QT P dst=true)(h3:P.underlying e=some (.int .u8)):∃u,OpQ P o L' (HS w0 [] As) u/\den ρ (.string (bs []))=some u:=by
 obtain⟨b,d,j,_,h4⟩:=Qez hs hx;exact⟨_,Qmt [] ho h4 h1 (XM h2) h3 rfl (λ_ _ h=>absurd h (Nat.lt_irrefl 0)),rfl⟩
theorem Qkq{t xt e sz by' m:Nat}{s y:Operand}{z:List Value}(ho:o.op=.call {callee:=.builtin .append,args:=#[s,y],argTypes:=#[t,xt]})(hs:SR ρ L L')(hH:HM ρ H As)(hf:QB ρ n)(hx:opd L s=some (.slice none 0 0))(hy:opd L y=some (.int .i64 (m:Int)))(hk:tki P xt=some .i64)(ht:tsl P t=some (e,sz,by'))(hz:Qz P e=some z)(hzs:z.length=sz)(hsz:0<sz)
  (hfz:QS (Xa z (m*sz))=true)(hroom:(0+m)*by'<=140737488355328)(hmax:0+m<=maxLen)(hpos:0<m):OpT P o L' (HS w0 [] As) (Out w0 ρ (.slice (some ⟨n,0,none⟩) (0+m) (0+m)) (XJ H n ⟨e,sz,[]++Xa z (m*sz)⟩) (n+1)):=by
 exact⟨_,_,_,_,Zy (olds:=[]) ho (Qe hs hx rfl) (Qe hs hy rfl) ht hk hz hzs hsz hpos om (λw _ h=>absurd rfl h) (by simp) hroom hmax,λg hg=>Qcq ⟨As,hH,.refl _⟩ hf (Ym (by rfl) (Xy hfz)) hg.1 hg.2 (by rw[List.nil_append,Qt,Nat.zero_add])⟩
theorem Qo6{dt st e sz by' p i k c p2 i2 k2 c2:Nat}{d s:Operand}{q q2:Option Nat}{r r2:HB}(ho:o.op=.call {callee:=.builtin .copy,args:=#[d,s],argTypes:=#[dt,st]})(hs:SR ρ L L')(hH:HM ρ H As)(hf:QB ρ n)(hd:opd L d=some (.slice (some ⟨p,i,q⟩) k c))(hx:opd L s=some (.slice (some ⟨p2,i2,q2⟩) k2 c2))(ht:tsl P dt=some (e,sz,by'))
  (hg:XH H p=some r)(hg2:XH H p2=some r2)(hl:i+min k2 k*sz<=r.cs.length)(hl2:i2+min k2 k*sz<=r2.cs.length):OpT P o L' (HS w0 [] As) (Out w0 ρ (.int .i64 ((min k2 k:Nat):Int)) (XJ H p {r with cs:=Qc r.cs i (cut r2.cs i2 (min k2 k*sz))}) n):=by
 obtain⟨b,dd,us,Rs,g1,g2,g3,g4,g5,_⟩:=Xv hH hg;obtain⟨b2,dd2,us2,Rs2,m1,m2,m3,m4,_,_⟩:=Xv hH hg2;obtain⟨b9,d9,c',e1,e2⟩:=QcG hs hd;rw[g1]at e1;injection e1 with e1
 injection e1 with e1 e3
 subst e1 e3;obtain⟨b8,d8,c8,f1,f2⟩:=QcG hs hx;rw[m1]at f1;injection f1 with f1
 injection f1 with f1 f3
 subst f1 f3;have hc:Qq (QE ρ) (cut r2.cs i2 (min k2 k*sz))=some (cut us2 i2 (min k2 k*sz)):=Xb _ (X2 i2 m2);have hlu:=QP g2;have hlu2:=QP m2;have hcl:(cut us2 i2 (min k2 k*sz)).length=min k2 k*sz:=by simp only[cut,List.length_take,List.length_drop];omega
 obtain⟨As2,g6,g7⟩:=g5 {r with cs:=Qc r.cs i (cut r2.cs i2 (min k2 k*sz))} _ (XF i g2 hc) (by unfold Qcu at *;simpa[Qf]using g3);have hS:=QaA (w0:=w0) (M:=[]) (As:=As) (As':=.blk b r.ty (us.length+dd*r.sz) (Qc us i (cut us2 i2 (min k2 k*sz)))::Rs) (min k2 k) (cut us2 i2 (min k2 k*sz)) ho e2 f2 ht ⟨Rs,g4,.refl _⟩ rfl hcl (λ_=>rfl) (by rw[hcl,hlu];exact hl) (Zo i2 _ (λ_=>rfl) m4) (λu hu=>List.all_eq_true.1 (Yl hc) u hu);refine⟨_,_,_,_,hS,λ_ _=>⟨ρ,As2,ρ.le_refl,hf,rfl,g6,λw hw=>?_⟩⟩;have:HS w0 [] (.blk b r.ty ((Qc us i (cut us2 i2 (min k2 k*sz))).length+dd*r.sz) (Qc us i (cut us2 i2 (min k2 k*sz)))::Rs) w:=by rw[Qf];exact hw
 exact this.perm g7
theorem Qoe{src e p i k c:Nat}{x:Operand}{r:HB}(ho:o.op=.convert src src x)(hs:SR ρ L L')(hH:HM ρ H As)(hf:QB ρ n)(hx:opd L x=some (.slice (some ⟨p,i,none⟩) k c))(h1:P.underlying src=some (.slice e))(h3:P.underlying e=some (.int .u8))(hg:XH H p=some r)(ht:r.ty=u8T) :
  OpT P o L' (HS w0 [] As) (Out w0 ρ (.slice (some ⟨p,i,none⟩) k c) H n):=by
 obtain⟨b,dd,us,Rs,g1,g2,g3,g4,g5,_⟩:=Xv hH hg;obtain⟨b9,d9,e1,e2⟩:=XA hs hx;rw[g1]at e1;injection e1 with e1
 injection e1 with e1 e3
 subst e1 e3;rw[ht]at g4;have hS:=Qid (w0:=w0) (M:=[]) (As:=As) (As':=.blk b u8T (us.length+dd*r.sz) us::Rs) ho e2 h1 h3 ⟨Rs,g4,.refl _⟩;refine⟨_,_,_,_,hS,λ_ _=>⟨ρ,As,ρ.le_refl,hf,?_,hH,λw hw=>hw.perm g4.symm⟩⟩;simp only[den,Q0,QE,Xn,g1]
theorem Qoy{dt st e by' m cd b tot i:Nat}{d s:Operand}{bt:TypeId}{cs news:List Value}{l:List UInt8}{As As':List HA}(k:Nat)(ho:o.op=.call {callee:=.builtin .copy,args:=#[d,s],argTypes:=#[dt,st]})(hd:Gx.ev L' d=some (.slice (some ⟨b,i,none⟩) m cd))(hx:Gx.ev L' s=some (.string (bs l)))(ht:tsl P dt=some (e,1,by'))
  (hnw:news=(l.take k).map λb=>Value.int .u8 (b.toNat:Int))(hp:Put As (.blk b bt tot cs) (.blk b bt tot (Qc cs i news)) As')(hk:min l.length m=k)(hr:i+k<=cs.length) :
  OpH P o L' (HS w0 [] As) (λ_:Unit=>.int .i64 (k:Int)) (λ_=>True) (λ_=>HS w0 [] As'):=by
 intro ρ w hρ hw;obtain⟨hu,inf,hi,hs1,hs2⟩:=QO ht;have hl:news.length=k:=by rw[hnw,List.length_map,List.length_take];omega
 have hsz:(Go.sizeOf e).run P w=.ok 1 w:=by simp[Go.sizeOf,typeInfo,hi,hs1]
 have hfc:(Builtin.firstCells 1 k (.string (bs l))).run P w=.ok news.toArray w:=by
  have hx:(bs l).extract 0 k=bs (l.take k):=(QeQ _).trans (congrArg bs (by rw[Lib.extract_data];simp));simp only[Builtin.firstCells,hx,Sem.run_pure,hnw];congr 1;simp[bs]
 have hbl:(bs l).size=l.length:=rfl;have hk':Nat.min l.length m=k:=hk;obtain⟨Rs,h3,h4⟩:=hp.ex;have hpk:=hw.pick h3;obtain⟨w',hst,hb,r1,r2,r3,r4,r5⟩:=Xe (P:=P) news 0 cs w hpk.head (by simpa[hl]using hr) (λu hu=>by rw[hnw]at hu;obtain⟨b,_,rfl⟩:=List.mem_map.1 hu;rfl) (i:=i)
 have he:(Builtin.copy_ #[dt,st] o.type #[.slice (some ⟨b,i,none⟩) m cd,.string (bs l)]).run P w=.ok (.int .i64 (k:Int)) w':=by
  unfold Builtin.copy_;simp[run_underlying hu,Builtin.lenOf,hbl,hk',hsz,hfc,goInt,hst]
 simp only[execOp,ho,resolve,Sem.run_bind,Sem.run_pure,Result.andThen_ok,invoke,builtin,List.map_toArray,List.map_cons,List.map_nil,hρ _ _ hd,hρ _ _ hx,he];exact⟨(),rfl,trivial,(HS.swap hpk (B:=.blk b bt tot (Qc cs i news)) (λ_ h=>h) r1 r2 r3 r4 (λk hk=>r5 k (by simpa[HA.fp_blk]using hk)) (show QL b bt tot (Qc cs i news) w' by simpa using hb)).perm h4⟩
theorem Qnp{dt st e by' p i k c:Nat}{d s:Operand}{q:Option Nat}{r:HB}{l:List UInt8}(ho:o.op=.call {callee:=.builtin .copy,args:=#[d,s],argTypes:=#[dt,st]})(hs:SR ρ L L')(hH:HM ρ H As)(hf:QB ρ n)(hd:opd L d=some (.slice (some ⟨p,i,q⟩) k c))(hx:opd L s=some (.string (bs l)))(ht:tsl P dt=some (e,1,by'))
  (hg:XH H p=some r)(hl:i+min l.length k<=r.cs.length):OpT P o L' (HS w0 [] As) (Out w0 ρ (.int .i64 ((min l.length k:Nat):Int)) (XJ H p {r with cs:=Qc r.cs i ((l.take (min l.length k)).map λb=>Value.int .u8 (b.toNat:Int))}) n):=by
 obtain⟨b,dd,us,Rs,g1,g2,g3,g4,g5,_⟩:=Xv hH hg;obtain⟨b9,d9,c',e1,e2⟩:=QcG hs hd;rw[g1]at e1;injection e1 with e1
 injection e1 with e1 e3
 subst e1 e3
 have hfl:QS ((l.take (min l.length k)).map λb=>Value.int .u8 (b.toNat:Int))=true:=by
  unfold QS;rw[List.all_map];exact List.all_eq_true.2 λ_ _=>rfl
 have hlu:=QP g2;obtain⟨As2,g6,g7⟩:=g5 {r with cs:=Qc r.cs i ((l.take (min l.length k)).map λb=>Value.int .u8 (b.toNat:Int))} _ (XF i g2 (Xy hfl)) (by unfold Qcu at *;simpa[Qf]using g3);have hS:=Qoy (w0:=w0) (As:=As) (As':=.blk b r.ty (us.length+dd*r.sz) (Qc us i ((l.take (min l.length k)).map λb=>Value.int .u8 (b.toNat:Int)))::Rs) (min l.length k) ho e2 (Qe hs hx rfl) ht rfl ⟨Rs,g4,.refl _⟩ rfl (by rw[hlu];exact hl);refine⟨_,_,_,_,hS,λ_ _=>⟨ρ,As2,ρ.le_refl,hf,rfl,g6,λw hw=>?_⟩⟩;have:HS w0 [] (.blk b r.ty ((Qc us i ((l.take (min l.length k)).map λb=>Value.int .u8 (b.toNat:Int))).length+dd*r.sz) (Qc us i ((l.take (min l.length k)).map λb=>Value.int .u8 (b.toNat:Int)))::Rs) w:=by rw[Qf];exact hw
 exact this.perm g7
theorem Qog{t e sz by' p i k c:Nat}{x:Operand}{q:Option Nat}{r:HB}{z:List Value}(ho:o.op=.call {callee:=.builtin .clear,args:=#[x],argTypes:=#[t]})(hs:SR ρ L L')(hH:HM ρ H As)(hf:QB ρ n)(hx:opd L x=some (.slice (some ⟨p,i,q⟩) k c))(ht:tsl P t=some (e,sz,by'))(hz:Qz P e=some z)(hzs:z.length=sz)(hz1:z.all (·.oneCell')=true)(hz0:Nat.blt 0 z.length=true)(hfz:QS (Xa z (k*sz))=true)
  (hg:XH H p=some r)(hl:i+k*sz<=r.cs.length):OpT P o L' (HS w0 [] As) (Out w0 ρ (.tuple #[]) (XJ H p {r with cs:=Qc r.cs i (Xa z (k*sz))}) n):=by
 obtain⟨b,dd,us,Rs,g1,g2,g3,g4,g5,_⟩:=Xv hH hg;obtain⟨b9,d9,c',e1,e2⟩:=QcG hs hx;rw[g1]at e1;injection e1 with e1
 injection e1 with e1 e3
 subst e1 e3;have hlu:=QP g2;obtain⟨As2,g6,g7⟩:=g5 {r with cs:=Qc r.cs i (Xa z (k*sz))} _ (XF i g2 (Xy hfz)) (by unfold Qcu at *;simpa[Qf]using g3);have hS:=QnV (w0:=w0) (M:=[]) (As:=As) (As':=.blk b r.ty (us.length+dd*r.sz) (Qc us i (Xa z (k*sz)))::Rs) ho e2 ht hz hzs hz1 (by intro h;rw[h]at hz0;cases hz0) ⟨Rs,g4,.refl _⟩ (λ_=>rfl) (by rw[hlu];exact hl);refine⟨_,_,_,_,hS,λ_ _=>⟨ρ,As2,ρ.le_refl,hf,rfl,g6,λw hw=>?_⟩⟩;have:HS w0 [] (.blk b r.ty ((Qc us i (Xa z (k*sz))).length+dd*r.sz) (Qc us i (Xa z (k*sz)))::Rs) w:=by rw[Qf];exact hw
 exact this.perm g7
theorem QpD{t:TypeId}{x:Operand}{l:List UInt8}(ho:o.op=.call {callee:=.builtin .len,args:=#[x],argTypes:=#[t]})(hs:SR ρ L L')(hx:opd L x=some (.string ⟨⟨l⟩⟩))(h:QT P t=true):∃u,OpP P o L' u/\den ρ (.int .i64 (l.length:Int))=some u:=
 ⟨_,Qi ho (Qe hs hx rfl) (XM h),rfl⟩
theorem Qpk{t:TypeId}{x:Operand}{a:Option Addr}{k c:Nat}(ho:o.op=.call {callee:=.builtin .len,args:=#[x],argTypes:=#[t]})(hs:SR ρ L L')(hx:opd L x=some (.slice a k c))(h:QV P t=true):∃u,OpP P o L' u/\den ρ (.int .i64 (k:Int))=some u:=by
 obtain⟨e,he⟩:=Xo h;rcases a with _|⟨p,i,q⟩
 ·exact⟨_,YR ho (Qe hs hx rfl) he,rfl⟩
 ·obtain⟨b,d,c',h1,h2⟩:=QcG hs hx;exact⟨_,YR ho h2 he,rfl⟩
theorem Qqm{t:TypeId}{x:Operand}{p i q:Nat}(ho:o.op=.call {callee:=.builtin .len,args:=#[x],argTypes:=#[t]})(hs:SR ρ L L')(hx:opd L x=some (.pointer (some ⟨p,i,some q⟩)))(h:QV P t=true):∃u,OpP P o L' u/\den ρ (.int .i64 0)=some u:=by
 obtain⟨e,he⟩:=Xo h;obtain⟨b,d,j,h1,h2⟩:=Qez hs hx;exact⟨_,YR ho h2 he,rfl⟩
theorem QpW{t:TypeId}{x:Operand}{k c:Nat}(ho:o.op=.call {callee:=.builtin .cap,args:=#[x],argTypes:=#[t]})(hs:SR ρ L L')(hx:opd L x=some (.slice none k c))(h:QV P t=true):∃u,OpP P o L' u/\den ρ (.int .i64 (c:Int))=some u:=by
 obtain⟨e,he⟩:=Xo h;exact⟨_,QlR ho (Qe hs hx rfl) he,rfl⟩
theorem Qpr{x y:Operand}{k k':IntKind}{a b:Int}{ts:Array TypeId}(ho:o.op=.call {callee:=.builtin .min,args:=#[x,y],argTypes:=ts})(hs:SR ρ L L')(hx:opd L x=some (.int k a))(hy:opd L y=some (.int k' b))(hk:kEq k k'=true):∃u,OpP P o L' u/\den ρ (.int k (if b<a then b else a))=some u:=by
 obtain rfl:=Qa7 hk;exact⟨_,Qit ho (Qe hs hx rfl) (Qe hs hy rfl),rfl⟩
theorem QpF{x y:Operand}{k k':IntKind}{a b:Int}{ts:Array TypeId}(ho:o.op=.call {callee:=.builtin .max,args:=#[x,y],argTypes:=ts})(hs:SR ρ L L')(hx:opd L x=some (.int k a))(hy:opd L y=some (.int k' b))(hk:kEq k k'=true):∃u,OpP P o L' u/\den ρ (.int k (if b>a then b else a))=some u:=by
 obtain rfl:=Qa7 hk;exact⟨_,Qls ho (Qe hs hx rfl) (Qe hs hy rfl),rfl⟩
end
end Ev
namespace Ev
open Go Go.RowKit
inductive Ans where
 | p (v:Value)
 | q (v:Value)
 | h (v:Value) (H:Hp) (n:Nat)
def Qce:Option Value->Option Ans
 | some v=>some (.p v)
 | none=>none
abbrev Qa3:=FuncId->List Value->Hp->Nat->Option (Value×Hp×Nat)
abbrev Qlg:=Nat->List Value->Hp->Nat->Option (Value×Hp×Nat)
structure CallF where
 f:Qlg->Qa3
 e:FuncId->List Value->Option Value
 y:Qlg
noncomputable section
variable(P:Program)(L:Env)(H:Hp)(n:Nat)
def Qek(st f:Nat):Option Value->Option Value
 | some (.agg cs)=>match tfd P st f with
  | some (off,ft)=>match tsz P ft with
   | some (k,ag)=>if ag then some (.agg (cut cs.toList off k).toArray)else cs.toList[off]?
   | none=>none
  | none=>none
 | _=>none
def Qea(t:Nat):Option Value->Option Nat->Option Value
 | some (.string ⟨⟨l⟩⟩),some j=>bif QT P t&&Nat.blt j l.length then some (.int .u8 ((l.getD j 0).toNat:Int))else none
 | some (.agg cs),some j=>match tar P t with
  | some (len,e,sz)=>match tsz P e with
   | some (k,ag)=>bif Nat.blt j len then(if ag then some (.agg (cut cs.toList (j*sz) k).toArray)else cs.toList[j*sz]?)else none
   | none=>none
  | none=>none
 | _,_=>none
def Qio(t:Nat)(lo hi:Option Operand):Option Value->Option Value
 | some (.string ⟨⟨l⟩⟩)=>match loN L lo,hiN L l.length hi with
  | some a,some b=>bif QT P t&&(Nat.ble a b&&Nat.ble b l.length)then some (.string (bs ((l.take b).drop a)))else none
  | _,_=>none
 | some (.slice (some ⟨m,off,none⟩) l c)=>match tsl P t,loN L lo,hiN L l hi with
  | some (_,sz,_),some i,some j=>bif Nat.ble i j&&(Nat.ble j c&&(Nat.beq i 0||Nat.blt i c))then some (.slice (some ⟨m,off+i*sz,none⟩) (j-i) (c-i))else(bif Nat.beq i c&&Nat.beq j c then some (.pointer (some ⟨m,off,some (c*sz)⟩))else none)
  | _,_,_=>none
 | some (.slice (some ⟨m,off,some q⟩) l c)=>match tsl P t,loN L lo,hiN L l hi with
  | some (_,sz,_),some i,some j=>bif Nat.ble i j&&Nat.ble j c then some (.slice (some ⟨m,(if c=i then off else off+i*sz),some q⟩) (j-i) (c-i))else none
  | _,_,_=>none
 | some (.slice none l c)=>match tsl P t,loN L lo,hiN L l hi with
  | some _,some i,some j=>bif Nat.ble i j&&Nat.ble j c then some (.slice none (j-i) (c-i))else none
  | _,_,_=>none
 | _=>none
def Qfp(t:Nat)(lo:Option Operand)(hi mx:Operand):Option Value->Option Value
 | some (.slice (some ⟨m,off,_⟩) _ c)=>match tsl P t,loN L lo,vN (opd L hi),vN (opd L mx)with
  | some (_,sz,_),some i,some j,some k=>bif Nat.ble i j&&(Nat.ble j k&&Nat.ble k c)then some (.slice (some ⟨m,(if k=i then off else off+i*sz),some 0⟩) (j-i) (k-i))else none
  | _,_,_,_=>none
 | some (.slice none _ c)=>match tsl P t,loN L lo,vN (opd L hi),vN (opd L mx)with
  | some _,some i,some j,some k=>bif Nat.ble i j&&(Nat.ble j k&&Nat.ble k c)then some (.slice none (j-i) (k-i))else none
  | _,_,_,_=>none
 | _=>none
def Qam(st f:Nat):Option Value->Option Value
 | some (.pointer (some ⟨m,i,none⟩))=>match tfd P st f with
  | some (off,ft)=>match tsz P ft with
   | some (sz,_)=>bif Nat.blt 0 sz then some (.pointer (some ⟨m,i+off,none⟩))else none
   | none=>none
  | none=>none
 | _=>none
def ZE(t:Nat):Option Value->Option Nat->Option Value
 | some (.slice (some ⟨m,off,_⟩) l _),some j=>match tsl P t with
  | some (_,sz,_)=>bif Nat.blt j l then some (.pointer (some ⟨m,off+j*sz,none⟩))else none
  | none=>none
 | some (.pointer (some ⟨m,i,none⟩)),some j=>match tar P t with
  | some (len,_,sz)=>bif Nat.blt j len then some (.pointer (some ⟨m,i+j*sz,none⟩))else none
  | none=>none
 | _,_=>none
def Qig(t:Nat)(parts:List (Nat×Operand)):Option Value:=match Qcv L parts,Qz P t with
 | some vs,some z=>bif QS z then(match Zi P t with
  | some pl=>match YO (λi=>pl[i]?) z vs with
   | some cs=>some (.agg cs.toArray)
   | none=>none
  | none=>match tar P t with
   | some (_,_,sz)=>match YO (λi=>some (i*sz,sz)) z vs with
    | some cs=>some (.agg cs.toArray)
    | none=>none
   | none=>none)else none
 | _,_=>none
def QeD(t x:Nat):Option Value:=match L x with
 | some (.pointer (some ⟨m,i,none⟩))=>match XH H m,tsz P t with
  | some r,some (sz,ag)=>if ag then(bif Nat.ble (i+sz) r.cs.length then some (.agg (cut r.cs i sz).toArray)else none)else(bif Nat.beq sz 1 then r.cs[i]? else none)
  | _,_=>none
 | _=>none
def Qfv(t x:Nat)(y:Operand):Option Ans:=match L x,opd L y,tsz P t with
 | some (.pointer (some ⟨m,i,none⟩)),some v,some (sz,_)=>match XH H m with
  | some r=>bif Zd v&&(Nat.beq v.cells.toList.length sz&&Nat.ble (i+sz) r.cs.length)then some (.h undef (XJ H m {r with cs:=Qc r.cs i v.cells.toList}) n)else none
  | none=>none
 | _,_,_=>none
def QaM(t:Nat):Bool:=match P.underlying t with|some (.int .u8)=>true|_=>false
def QdU(src dst:Nat):Option Value->Option Ans
 | some (.string ⟨⟨l⟩⟩)=>match P.underlying dst with
  | some (.slice e)=>bif QT P src&&(QaM P e&&(Nat.beq e u8T&&Nat.ble l.length maxLen))then some (.h (.slice (some ⟨n,0,none⟩) l.length l.length) (XJ H n ⟨e,1,l.map λb=>.int .u8 (b.toNat:Int)⟩) (n+1))else none
  | _=>none
 | some (.slice none k c)=>match P.underlying src with
  | some (.slice e)=>bif QT P dst&&(QaM P e&&Nat.beq k 0)then some (.q (.string (bs [])))else none
  | _=>none
 | some (.slice (some ⟨p,i,q⟩) k c)=>match P.underlying src,XH H p with
  | some (.slice e),some r=>bif QT P dst&&(QaM P e&&(Nat.ble (i+k) r.cs.length&&((cut r.cs i k).all QfV&&QS (cut r.cs i k))))then some (.q (.string (bs ((cut r.cs i k).map QaJ))))else(match q with
   | none=>bif Nat.beq src dst&&(QaM P e&&Nat.beq r.ty u8T)then some (.h (.slice (some ⟨p,i,none⟩) k c) H n)else none
   | _=>none)
  | _,_=>none
 | some (.pointer (some ⟨_,_,some _⟩))=>match P.underlying src with
  | some (.slice e)=>bif QT P dst&&QaM P e then some (.q (.string (bs [])))else none
  | _=>none
 | _=>none
def Qpd(t:Nat):Option Ans:=match Qz P t with
 | some z=>bif QS z then some (.h (.pointer (some ⟨n,0,none⟩)) (XJ H n ⟨t,0,z⟩) (n+1))else none
 | none=>none
def Qpg(t:Nat):Option Value->Option Ans
 | some v=>bif Zd v then some (.h (.pointer (some ⟨n,0,none⟩)) (XJ H n ⟨t,0,v.cells.toList⟩) (n+1))else none
 | none=>none
def QkN(z:List Value)(k:Nat):List Value:=(List.range k).map λi=>z.getD (i%z.length) default
def YT(t len:Nat)(parts:List (Nat×Operand)):Option Ans:=match Qcv L parts,tsl P t with
 | some vs,some (e,sz,_)=>match Qz P e with
  | some z=>match YO (λi=>some (i*sz,sz)) (QkN z (len*sz)) vs with
   | some cs=>bif QS z&&(Nat.ble (len*sz) 16777216&&(Nat.blt 0 (len*sz)&&QS (QkN z (len*sz))))then some (.h (.slice (some ⟨n,0,none⟩) len len) (XJ H n ⟨e,sz,cs⟩) (n+1))else none
   | none=>none
  | none=>none
 | _,_=>none
def Qaq(t:Nat)(x y:Operand):Option Ans:=match opd L x,opd L y,tsl P t with
 | some (.int .i64 (.ofNat k)),some (.int .i64 (.ofNat k')),some (e,sz,by')=>match Qz P e with
  | some z=>bif Nat.ble k k'&&(Nat.ble (k'*by') 281474976710656&&(Nat.ble k' 16777216&&QS (Xa z (k'*sz))))then some (.h (.slice (some ⟨n,0,none⟩) k k') (XJ H n ⟨e,sz,Xa z (k'*sz)⟩) (n+1))else none
  | none=>none
 | _,_,_=>none
def Qf1(t xt:Nat)(s y:Operand):Option Ans:=match opd L s,opd L y,tsl P t with
 | some (.slice a k c),some vy,some (e,sz,by')=>match vy with
  | .int .i64 (.ofNat m)=>match a,Qz P e with
   | none,some z=>bif (Nat.beq k 0&&(Nat.beq c 0&&(Nat.beq z.length sz&&(Nat.blt 0 sz&&QS (Xa z (m*sz))))))&&((match tki P xt with|some .i64=>true|_=>false)&&(Nat.ble ((0+m)*by') 140737488355328&&(Nat.ble (0+m) maxLen&&Nat.blt 0 m)))then some (.h (.slice (some ⟨n,0,none⟩) (0+m) (0+m)) (XJ H n ⟨e,sz,[]++Xa z (m*sz)⟩) (n+1))else none
   | _,_=>none
  | _=>match Qh7 P H xt sz vy with
   | some (m,cs)=>match a with
    | none=>bif Nat.beq k 0&&Nat.beq c 0 then(bif Nat.beq m 0 then some (.h (.slice none 0 0) H n)else match Qz P e with
     | some z=>bif Nat.beq z.length sz&&(Nat.ble ((0+m)*by') 140737488355328&&(Nat.ble (0+m) maxLen&&Nat.blt 0 (0+m)))then some (.h (.slice (some ⟨n,0,none⟩) (0+m) (0+m)) (XJ H n ⟨e,sz,[]++cs⟩) (n+1))else none
     | none=>none)else none
    | some ⟨p,off,q⟩=>bif Nat.beq off 0 then(match XH H p with
     | some r=>bif Nat.ble (k+m) c then(bif Nat.ble (k*sz+cs.length) r.cs.length then some (.h (.slice (some ⟨p,0,q⟩) (k+m) c) (XJ H p {r with cs:=Qc r.cs (k*sz) cs}) n)else none)
      else(match q,Qz P e with
       | none,some z=>bif (Nat.beq z.length sz&&(Nat.beq r.ty e&&(Nat.beq r.sz sz&&(Nat.beq r.cs.length (c*sz)&&Nat.blt 0 sz))))&&((Nat.ble k c&&Nat.ble c maxLen)&&(Nat.ble ((k+m)*by') 140737488355328&&(Nat.ble (k+m) maxLen&&Nat.blt 0 (k+m))))then some (.h (.slice (some ⟨n,0,none⟩) (k+m) (k+m)) (XJ (Qev H p) n ⟨e,sz,r.cs.take (k*sz)++cs⟩) (n+1))else none
       | _,_=>none)
     | none=>none)else none
   | none=>none
 | _,_,_=>none
def QmF(dt:Nat)(d s:Operand):Option Ans:=match opd L d,opd L s,tsl P dt with
 | some (.slice (some ⟨p,i,_⟩) k _),some (.slice (some ⟨p2,i2,_⟩) k2 _),some (_,sz,_)=>match XH H p,XH H p2 with
  | some r,some r2=>bif Nat.ble (i+min k2 k*sz) r.cs.length&&Nat.ble (i2+min k2 k*sz) r2.cs.length then some (.h (.int .i64 ((min k2 k:Nat):Int)) (XJ H p {r with cs:=Qc r.cs i (cut r2.cs i2 (min k2 k*sz))}) n)else none
  | _,_=>none
 | some (.slice (some ⟨p,i,_⟩) k _),some (.string ⟨⟨l⟩⟩),some (_,sz,_)=>match XH H p with
  | some r=>bif Nat.beq sz 1&&Nat.ble (i+min l.length k) r.cs.length then some (.h (.int .i64 ((min l.length k:Nat):Int)) (XJ H p {r with cs:=Qc r.cs i ((l.take (min l.length k)).map λb=>Value.int .u8 (b.toNat:Int))}) n)else none
  | none=>none
 | _,_,_=>none
def Qib(t:Nat)(x:Operand):Option Ans:=match opd L x,tsl P t with
 | some (.slice (some ⟨p,i,_⟩) k _),some (e,sz,_)=>match XH H p,Qz P e with
  | some r,some z=>bif Nat.beq z.length sz&&(z.all (·.oneCell')&&(Nat.blt 0 z.length&&(QS (Xa z (k*sz))&&Nat.ble (i+k*sz) r.cs.length)))then some (.h (.tuple #[]) (XJ H p {r with cs:=Qc r.cs i (Xa z (k*sz))}) n)else none
  | _,_=>none
 | _,_=>none
def Qcm(b:Builtin)(args:List Operand)(ts:List TypeId):Option Ans:=match b,args,ts with
 | .len,[x],[t]=>match opd L x with
  | some (.string ⟨⟨l⟩⟩)=>bif QT P t then some (.p (.int .i64 (l.length:Int)))else none
  | some (.slice _ k _)=>bif QV P t then some (.p (.int .i64 (k:Int)))else none
  | some (.pointer (some ⟨_,_,some _⟩))=>bif QV P t then some (.p (.int .i64 0))else none
  | _=>none
 | .cap,[x],[t]=>match opd L x with
  | some (.slice none _ c)=>bif QV P t then some (.p (.int .i64 (c:Int)))else none
  | _=>none
 | .min,[x,y],_=>match opd L x,opd L y with
  | some (.int k a),some (.int k' b)=>bif kEq k k' then some (.p (.int k (if b<a then b else a)))else none
  | _,_=>none
 | .max,[x,y],_=>match opd L x,opd L y with
  | some (.int k a),some (.int k' b)=>bif kEq k k' then some (.p (.int k (if b>a then b else a)))else none
  | _,_=>none
 | .append,[s,y],[t,xt]=>Qf1 P L H n t xt s y
 | .copy,[d,s],[dt,_]=>QmF P L H n dt d s
 | .clear,[x],[t]=>Qib P L H n t x
 | _,_,_=>none
def Qda(F:CallF)(f:Option Value)(vs:Option (List Value)):Option Ans:=match f,vs with
 | some (.func (.func g) first cap),some vs=>bif QJ P g then(match F.f F.y g (first.toList++vs++cap.toList) H n with
  | some (v,H',n')=>some (.h v H' n')
  | none=>none)else none
 | some (.func (.yield k) ⟨[]⟩ ⟨[]⟩),some vs=>match F.y k vs H n with
  | some (v,H',n')=>some (.h v H' n')
  | none=>none
 | _,_=>none
def ZU(t:Nat):Option Value->Option Value->Option Ans
 | some (.map (some r)),some (.int .i64 a)=>match P.underlying t,QdZ H r with
  | some (.map kt et),some ks=>match tzv P et,tki P kt with
   | some (.bool false),some .i64=>some (.q (.bool (QfI a ks)))
   | _,_=>none
  | _,_=>none
 | _,_=>none
def QbS(t:Nat):Option Value->Option Value->Option Value->Option Ans
 | some (.map (some r)),some (.int .i64 a),some (.bool true)=>match P.underlying t,QdZ H r with
  | some (.map kt et),some ks=>match tki P kt with
   | some .i64=>some (.h (.tuple #[]) (Yd H r (.mp (bif QfI a ks then ks else ks++[a]))) n)
   | _=>none
  | _,_=>none
 | _,_,_=>none
def Q1(F:CallF):Op->Option Ans
 | .move x=>Qce (opd L x)
 | .assign x=>Qce (opd L x)
 | .pick c a b=>match opd L c,opd L a,opd L b with
  | some (.bool t),some x,some y=>some (.p (if t then x else y))
  | _,_,_=>none
 | .binOp op t x y _=>match opd L x,opd L y with
  | some a,some b=>Qce (YZ P op t a b)
  | _,_=>none
 | .unOp op _ x=>match opd L x with
  | some a=>Qce (QcJ op a)
  | none=>none
 | .convert src dst x=>match opd L x with
  | some a=>match QaK P src dst a with
   | some v=>some (.p v)
   | none=>QdU P H n src dst (some a)
  | none=>none
 | .extract x i=>match opd L x with
  | some (.tuple vs)=>Qce (vs.toList[i]?)
  | _=>none
 | .makeFunc (.func f) first cap=>match QbY L first.toList,QbY L cap.toList with
  | some a,some b=>bif a.all Qh6&&b.all Qh6 then some (.p (.func (.func f) a.toArray b.toArray))else none
  | _,_=>none
 | .nilCheck x=>match opd L x with
  | some (.pointer (some ⟨m,i,none⟩))=>some (.p (.pointer (some ⟨m,i,none⟩)))
  | some (.func (.func f) a b)=>some (.p (.func (.func f) a b))
  | _=>none
 | .field st x f=>Qce (Qek P st f (opd L x))
 | .index t x y=>Qce (Qea P t (opd L x) (vN (opd L y)))
 | .slice t x lo hi none=>Qce (Qio P L t lo hi (opd L x))
 | .slice t x lo (some hi) (some mx)=>Qce (Qfp P L t lo hi mx (opd L x))
 | .fieldAddr st x f=>Qce (Qam P st f (opd L x))
 | .indexAddr t x y=>Qce (ZE P t (opd L x) (vN (opd L y)))
 | .build t parts=>Qce (Qig P L t parts.toList)
 | .load t (.tmp x)=>match QeD P L H t x with
  | some v=>some (.q v)
  | none=>none
 | .store t (.tmp x) y=>Qfv P L H n t x y
 | .alloc t=>Qpd P H n t
 | .box t x=>Qpg H n t (opd L x)
 | .buildSlice t 0 ⟨[]⟩=>match tsl P t with
  | some (e,sz,_)=>some (.h (.slice (some ⟨n,0,none⟩) 0 0) (XJ H n ⟨e,sz,[]⟩) (n+1))
  | none=>none
 | .buildSlice t len parts=>YT P L H n t len parts.toList
 | .makeSlice t x y=>Qaq P L H n t x y
 | .call ⟨.builtin b,args,ts⟩=>Qcm P L H n b args.toList ts.toList
 | .call ⟨.value (.func g),args,_⟩=>match QbY L args.toList with
  | some vs=>match F.e g vs with
   | some v=>some (.q v)
   | none=>Qda P H n F (some (.func (.func g) #[] #[])) (some vs)
  | none=>none
 | .call ⟨.value f,args,_⟩=>Qda P H n F (opd L f) (QbY L args.toList)
 | .makeMap t none=>some (.h (.map (some n)) (Yd H n (.mp [])) (n+1))
 | .lookup t m x false=>ZU P H t (opd L m) (opd L x)
 | .mapUpdate t m x y=>QbS P H n t (opd L m) (opd L x) (opd L y)
 | _=>none
end
end Ev
namespace Ev
open Go Go.RowKit
theorem bif_some{α:Type}{c:Bool}{x a:α}(h:(bif c then some x else none)=some a):c=true/\x=a:=by grind
theorem bif_in{α:Type}{c:Bool}{x:Option α}{a:α}(h:(bif c then x else none)=some a):c=true/\x=some a:=by grind
theorem Qcw{α:Type}{a:Array α}{x:α}(h:a.toList=[x]):a= #[x]:=by grind
theorem Qb6{α:Type}{a:Array α}{x y:α}(h:a.toList=[x,y]):a= #[x,y]:=by grind
def QiG(w0:World)(ρ:Rho)(v:Value)(H':Hp)(n':Nat)(e:Ending)(w':World):Prop:=
 ∃ρ' As' u,ρ.le ρ'/\QB ρ' n'/\den ρ' v=some u/\HM ρ' H' As'/\e=.returned u/\HS w0 [] As' w'
def Qcp(P:Program)(r0:Rho)(F:Qa3):Prop:=∀f vs H n v H' n',F f vs H n=some (v,H',n')->∀(w0:World)(ρ:Rho)(us:List Value)(As:List HA),r0.le ρ->Qq (den ρ) vs=some us->HM ρ H As->QB ρ n->∀w,HS w0 [] As w->Calls P f us.toArray w (QiG w0 ρ v H' n')
def Qfd(P:Program)(E:FuncId->List Value->Option Value):Prop:=∀f vs v,E f vs=some v->∀(w0:World)(ρ:Rho)(us:List Value)(As:List HA),Qq (den ρ) vs=some us->∀(o:Oper)(L':Qa)(args:Array Operand)(ts:Array TypeId),o.op=.call {callee:=.value (.func f),args:=args,argTypes:=ts}->evs L' args.toList=some us->∃u,den ρ v=some u/\OpQ P o L' (HS w0 [] As) u
def YOk(P:Program)(r0:Rho)(Y:Qlg):Prop:=∀k vs H n v H' n',Y k vs H n=some (v,H',n')->∀(w0:World)(ρ:Rho)(us:List Value)(As:List HA),r0.le ρ->Qq (den ρ) vs=some us->HM ρ H As->QB ρ n->∃x,ρ k=some x/\∀w,HS w0 [] As w->QfB P x.1 us.toArray w (QiG w0 ρ v H' n')
structure CallOk(P:Program)(r0:Rho)(F:CallF):Prop where
 f:∀r1 Y,YOk P r1 Y->Qcp P r1 (F.f Y)
 e:Qfd P F.e
 y:YOk P r0 F.y
def ZQ(P:Program)(o:Oper)(L':Qa)(w0:World)(ρ:Rho)(H:Hp)(n:Nat)(As:List HA):Ans->Prop
 | .p v=>∃u,OpP P o L' u/\den ρ v=some u
 | .q v=>∃u,OpQ P o L' (HS w0 [] As) u/\den ρ v=some u
 | .h v H' n'=>OpT P o L' (HS w0 [] As) (Out w0 ρ v H' n')
section
variable{P:Program}{o:Oper}{L':Qa}{w0:World}{ρ:Rho}{L:Env}{H:Hp}{n:Nat}{As:List HA}{F:CallF}{a:Ans}
theorem Qdh{x:Option Value}(h:Qce x=some a)(hx:∀v,x=some v->∃u,OpP P o L' u/\den ρ v=some u):ZQ P o L' w0 ρ H n As a:=by
 cases x with
 | none=>cases h
 | some v=>
  injection h with h
  subst h;exact hx v rfl
theorem Qj4{st f:Nat}{x:Operand}{v:Value}(ho:o.op=.field st x f)(hs:SR ρ L L')(h:Qek P st f (opd L x)=some v):∃u,OpP P o L' u/\den ρ v=some u:=by
 unfold Qek at h
 grind[QnR]
theorem QjJ{t:Nat}{x y:Operand}{v:Value}(ho:o.op=.index t x y)(hs:SR ρ L L')(h:Qea P t (opd L x) (vN (opd L y))=some v):∃u,OpP P o L' u/\den ρ v=some u:=by
 unfold Qea at h;split at h
 ·rename_i l j hx hy;obtain⟨hc,rfl⟩:=bif_some h;simp only[Bool.and_eq_true]at hc;exact Qmc ho hs hx hy hc.1 (by simpa[Nat.blt_eq]using hc.2)
 ·rename_i cs j hx hy;split at h
  ·rename_i len e sz h1;split at h
   ·rename_i k ag h2;obtain⟨hc,h3⟩:=bif_in h;exact QnA ho hs hx hy h1 h2 (by simpa[Nat.blt_eq]using hc) h3
   ·cases h
  ·cases h
 ·cases h
theorem Qkl{t:Nat}{x:Operand}{lo hi:Option Operand}{v:Value}(ho:o.op=.slice t x lo hi none)(hs:SR ρ L L')(h:Qio P L t lo hi (opd L x)=some v):∃u,OpP P o L' u/\den ρ v=some u:=by
 unfold Qio at h;split at h
 ·rename_i l hx;split at h
  ·rename_i i j h1 h2;obtain⟨hc,rfl⟩:=bif_some h;simp only[Bool.and_eq_true]at hc;exact Qlb ho hs hx hc.1 h1 h2 (Nat.le_of_ble_eq_true hc.2.1) (Nat.le_of_ble_eq_true hc.2.2)
  ·cases h
 ·rename_i m off l c hx;split at h
  ·rename_i e sz by' i j h1 h2 h3;cases hb:Nat.ble i j&&(Nat.ble j c&&(Nat.beq i 0||Nat.blt i c))with
   | true=>
    rw[hb]at h;injection h with h
    subst h;simp only[Bool.and_eq_true,Bool.or_eq_true]at hb;exact QoI ho hs hx h1 h2 h3 (Nat.le_of_ble_eq_true hb.1) (Nat.le_of_ble_eq_true hb.2.1) (hb.2.2.imp Nat.eq_of_beq_eq_true (λh=>by simpa[Nat.blt_eq]using h))
   | false=>
    rw[hb]at h;obtain⟨hc,rfl⟩:=bif_some h;simp only[Bool.and_eq_true]at hc;have e1:=Nat.eq_of_beq_eq_true hc.1;have e2:=Nat.eq_of_beq_eq_true hc.2
    grind[Qmd]
  ·cases h
 ·rename_i m off q l c hx;split at h
  ·rename_i e sz by' i j h1 h2 h3;obtain⟨hc,rfl⟩:=bif_some h;simp only[Bool.and_eq_true]at hc;exact QkA ho hs hx h1 h2 h3 (Nat.le_of_ble_eq_true hc.1) (Nat.le_of_ble_eq_true hc.2)
  ·cases h
 ·rename_i l c hx;split at h
  ·rename_i y i j h1 h2 h3;obtain⟨e,sz,by'⟩:=y;obtain⟨hc,rfl⟩:=bif_some h;simp only[Bool.and_eq_true]at hc;exact QlY ho hs hx h1 h2 h3 (Nat.le_of_ble_eq_true hc.1) (Nat.le_of_ble_eq_true hc.2)
  ·cases h
 ·cases h
theorem QhR{t:Nat}{x hi mx:Operand}{lo:Option Operand}{v:Value}(ho:o.op=.slice t x lo (some hi) (some mx))(hs:SR ρ L L')(h:Qfp P L t lo hi mx (opd L x)=some v):∃u,OpP P o L' u/\den ρ v=some u:=by
 unfold Qfp at h;split at h
 ·rename_i m off q l c hx;split at h
  ·rename_i e sz by' i j k h1 h2 h3 h4;obtain⟨hc,rfl⟩:=bif_some h;simp only[Bool.and_eq_true]at hc;exact QkZ ho hs hx h1 h2 h3 h4 (Nat.le_of_ble_eq_true hc.1) (Nat.le_of_ble_eq_true hc.2.1) (Nat.le_of_ble_eq_true hc.2.2)
  ·cases h
 ·rename_i l c hx;split at h
  ·rename_i y i j k h1 h2 h3 h4;obtain⟨e,sz,by'⟩:=y;obtain⟨hc,rfl⟩:=bif_some h;simp only[Bool.and_eq_true]at hc;exact Qkd ho hs hx h1 h2 h3 h4 (Nat.le_of_ble_eq_true hc.1) (Nat.le_of_ble_eq_true hc.2.1) (Nat.le_of_ble_eq_true hc.2.2)
  ·cases h
 ·cases h
theorem QeH{st f:Nat}{x:Operand}{v:Value}(ho:o.op=.fieldAddr st x f)(hs:SR ρ L L')(h:Qam P st f (opd L x)=some v):∃u,OpP P o L' u/\den ρ v=some u:=by
 unfold Qam at h;split at h
 ·rename_i m i hx;split at h
  ·rename_i off ft h1;split at h
   ·rename_i sz ag h2;obtain⟨hc,rfl⟩:=bif_some h
    grind[Qgx]
   ·cases h
  ·cases h
 ·cases h
theorem QeL{t:Nat}{x y:Operand}{v:Value}(ho:o.op=.indexAddr t x y)(hs:SR ρ L L')(h:ZE P t (opd L x) (vN (opd L y))=some v):∃u,OpP P o L' u/\den ρ v=some u:=by
 unfold ZE at h;split at h
 ·rename_i m off q l c j hx hy;split at h
  ·rename_i e sz by' h1;obtain⟨hc,rfl⟩:=bif_some h;cases q with
   | none=>exact QhE ho hs hx hy h1 (by simpa[Nat.blt_eq]using hc)
   | some q=>exact QfY ho hs hx hy h1 (by simpa[Nat.blt_eq]using hc)
  ·cases h
 ·rename_i m i j hx hy;split at h
  ·rename_i len e sz h1;obtain⟨hc,rfl⟩:=bif_some h;exact Qfu ho hs hx hy h1 (by simpa[Nat.blt_eq]using hc)
  ·cases h
 ·cases h
theorem Qkn{t:Nat}{parts:Array (Nat×Operand)}{v:Value}(ho:o.op=.build t parts)(hs:SR ρ L L')(h:Qig P L t parts.toList=some v):∃u,OpP P o L' u/\den ρ v=some u:=by
 unfold Qig at h;split at h
 ·rename_i vs z h1 h2;obtain⟨hc,h⟩:=bif_in h
  grind[Qoz,QmK]
 ·cases h
theorem QkI{t x:Nat}{v:Value}(ho:o.op=.load t (.tmp x))(hs:SR ρ L L')(hH:HM ρ H As)(h:QeD P L H t x=some v):∃u,OpQ P o L' (HS w0 [] As) u/\den ρ v=some u:=by
 unfold QeD at h;split at h
 ·rename_i m i hx;split at h
  ·rename_i r sz ag h1 h2;exact QpY ho hs hH hx h1 h2 h
  ·cases h
 ·cases h
theorem Qkk{t x:Nat}{y:Operand}(ho:o.op=.store t (.tmp x) y)(hs:SR ρ L L')(hH:HM ρ H As)(hf:QB ρ n)(h:Qfv P L H n t x y=some a):ZQ P o L' w0 ρ H n As a:=by
 unfold Qfv at h;split at h
 ·rename_i m i v sz ag hx hy hz;split at h
  ·rename_i r hg;obtain⟨hc,rfl⟩:=bif_some h;simp only[Bool.and_eq_true]at hc;exact QnH ho hs hH hf hx hy hc.1 hg hz (Nat.eq_of_beq_eq_true hc.2.1) (Nat.le_of_ble_eq_true hc.2.2)
  ·cases h
 ·cases h
theorem Qa9{t:Nat}(h:QaM P t=true):P.underlying t=some (.int .u8):=by grind[QaM]
theorem QkQ{src dst:Nat}{x:Operand}{v:Value}(ho:o.op=.convert src dst x)(hs:SR ρ L L')(hH:HM ρ H As)(hf:QB ρ n)(hx:opd L x=some v)(h:QdU P H n src dst (some v)=some a):ZQ P o L' w0 ρ H n As a:=by
 unfold QdU at h;split at h
 ·rename_i l hv;injection hv with hv
  subst hv;split at h
  ·rename_i e h1;obtain⟨hc,rfl⟩:=bif_some h;simp only[Bool.and_eq_true]at hc;exact Qoc ho hs hx (XM hc.1) h1 (Qa9 hc.2.1) (Nat.eq_of_beq_eq_true hc.2.2.1) (Nat.le_of_ble_eq_true hc.2.2.2) hH hf
  ·cases h
 ·rename_i k c hv;injection hv with hv
  subst hv;split at h
  ·rename_i e h1;obtain⟨hc,rfl⟩:=bif_some h;simp only[Bool.and_eq_true]at hc;have hk:=Nat.eq_of_beq_eq_true hc.2.2;subst hk;exact QjQ (k:=0) ho hs hx h1 hc.1 (Qa9 hc.2.1)
  ·cases h
 ·rename_i p i q k c hv;injection hv with hv
  subst hv;split at h
  ·rename_i e r h1 h2;cases hb:QT P dst&&(QaM P e&&(Nat.ble (i+k) r.cs.length&&((cut r.cs i k).all QfV&&QS (cut r.cs i k))))with
   | true=>
    rw[hb]at h;injection h with h
    subst h;simp only[Bool.and_eq_true]at hb;exact QjG ho hs hH hx h1 hb.1 (Qa9 hb.2.1) h2 (Nat.le_of_ble_eq_true hb.2.2.1) hb.2.2.2.1 hb.2.2.2.2
   | false=>
    rw[hb]at h;simp only[cond_false]at h;split at h
    ·obtain⟨hc,rfl⟩:=bif_some h;simp only[Bool.and_eq_true]at hc;have e1:=Nat.eq_of_beq_eq_true hc.1;subst e1;exact Qoe ho hs hH hf hx h1 (Qa9 hc.2.1) h2 (Nat.eq_of_beq_eq_true hc.2.2)
    ·cases h
  ·cases h
 ·rename_i p i q hv;injection hv with hv
  subst hv;split at h
  ·rename_i e h1;obtain⟨hc,rfl⟩:=bif_some h;simp only[Bool.and_eq_true]at hc;exact Qj9 ho hs hx h1 hc.1 (Qa9 hc.2)
  ·cases h
 ·cases h
theorem Qey{t len:Nat}{parts:Array (Nat×Operand)}(ho:o.op=.buildSlice t len parts)(hs:SR ρ L L')(hH:HM ρ H As)(hf:QB ρ n)(h:YT P L H n t len parts.toList=some a):ZQ P o L' w0 ρ H n As a:=by
 unfold YT at h;split at h
 ·rename_i vs e sz by' h1 h2;split at h
  ·rename_i z h3;split at h
   ·rename_i cs h4;obtain⟨hc,rfl⟩:=bif_some h;simp only[Bool.and_eq_true]at hc;exact Qfs ho hs h1 h2 h3 hc.1 hc.2.1 hc.2.2.1 h4 hc.2.2.2 hH hf
   ·cases h
  ·cases h
 ·cases h
theorem QeF{t:Nat}{x y:Operand}(ho:o.op=.makeSlice t x y)(hs:SR ρ L L')(hH:HM ρ H As)(hf:QB ρ n)(h:Qaq P L H n t x y=some a):ZQ P o L' w0 ρ H n As a:=by
 unfold Qaq at h;split at h
 ·rename_i k k' e sz by' hx hy ht;split at h
  ·rename_i z hz;obtain⟨hc,rfl⟩:=bif_some h;simp only[Bool.and_eq_true]at hc;exact QgN ho hs hx hy (Nat.le_of_ble_eq_true hc.1) ht hz (Nat.le_of_ble_eq_true hc.2.1) (Nat.le_of_ble_eq_true hc.2.2.1) hc.2.2.2 hH hf
  ·cases h
 ·cases h
theorem Qh1{t xt:Nat}{s y:Operand}(ho:o.op=.call {callee:=.builtin .append,args:=#[s,y],argTypes:=#[t,xt]})(hs:SR ρ L L')(hH:HM ρ H As)(hf:QB ρ n)(h:Qf1 P L H n t xt s y=some a):ZQ P o L' w0 ρ H n As a:=by
 unfold Qf1 at h;split at h
 ·rename_i a0 k c vy e sz by' hx hy ht;split at h
  ·rename_i m;split at h
   ·rename_i z hz;obtain⟨hc,rfl⟩:=bif_some h;simp only[Bool.and_eq_true]at hc;obtain⟨⟨c1,c2,c3,c4,c5⟩,c6,c7,c8,c9⟩:=hc;have hk:=Nat.eq_of_beq_eq_true c1;have hc0:=Nat.eq_of_beq_eq_true c2;subst hk hc0;refine Qkq ho hs hH hf hx hy ?_ ht hz (Nat.eq_of_beq_eq_true c3) (by simpa[Nat.blt_eq]using c4) c5 (Nat.le_of_ble_eq_true c7) (Nat.le_of_ble_eq_true c8) (by simpa[Nat.blt_eq]using c9)
    grind
   ·cases h
  ·split at h
   ·rename_i m cs hsrc;split at h
    ·obtain⟨hc,h⟩:=bif_in h;simp only[Bool.and_eq_true]at hc;have hk:=Nat.eq_of_beq_eq_true hc.1;have hc0:=Nat.eq_of_beq_eq_true hc.2;subst hk hc0;cases hm:Nat.beq m 0 with
     | true=>
      rw[hm]at h;have hm:=Nat.eq_of_beq_eq_true hm;subst hm;injection h with h
      subst h;exact Qky ho hs hH hf hx hy ht hsrc
     | false=>
      rw[hm]at h;simp only[cond_false]at h;split at h
      ·rename_i z hz;obtain⟨hc,rfl⟩:=bif_some h;simp only[Bool.and_eq_true]at hc;exact Qkp ho hs hH hf hx hy ht hz (Nat.eq_of_beq_eq_true hc.1) hsrc (Nat.le_of_ble_eq_true hc.2.1) (Nat.le_of_ble_eq_true hc.2.2.1) (by simpa[Nat.blt_eq]using hc.2.2.2)
      ·cases h
    ·rename_i p off q;obtain⟨hc,h⟩:=bif_in h;have ho0:=Nat.eq_of_beq_eq_true hc;subst ho0;split at h
     ·rename_i r hg;cases hfit:Nat.ble (k+m) c with
      | true=>
       rw[hfit]at h;obtain⟨hc,rfl⟩:=bif_some h;exact QjZ ho hs hH hf hx hy ht hsrc hg (Nat.le_of_ble_eq_true hfit) (Nat.le_of_ble_eq_true hc)
      | false=>
       rw[hfit]at h;simp only[cond_false]at h;split at h
       ·rename_i z hz _;obtain⟨hc,rfl⟩:=bif_some h;simp only[Bool.and_eq_true]at hc;obtain⟨⟨c1,c2,c3,c4,c5⟩,⟨c6,c7⟩,c8,c9,c10⟩:=hc;exact QjR ho hs hH hf hx hy ht hz (Nat.eq_of_beq_eq_true c1) hsrc hg (Nat.eq_of_beq_eq_true c2) (Nat.eq_of_beq_eq_true c3) (Nat.eq_of_beq_eq_true c4) (by simpa[Nat.blt_eq]using c5) (Nat.le_of_ble_eq_true c6) (Nat.le_of_ble_eq_true c7) (Nat.le_of_ble_eq_true c8) (Nat.le_of_ble_eq_true c9) (by simpa[Nat.blt_eq]using c10)
       ·cases h
     ·cases h
   ·cases h
 ·cases h
theorem Qmg{dt st:Nat}{d s:Operand}(ho:o.op=.call {callee:=.builtin .copy,args:=#[d,s],argTypes:=#[dt,st]})(hs:SR ρ L L')(hH:HM ρ H As)(hf:QB ρ n)(h:QmF P L H n dt d s=some a):ZQ P o L' w0 ρ H n As a:=by
 unfold QmF at h;split at h
 ·rename_i p i q k c p2 i2 q2 k2 c2 e sz by' hd hx ht;split at h
  ·rename_i r r2 hg hg2;obtain⟨hc,rfl⟩:=bif_some h;simp only[Bool.and_eq_true]at hc;exact Qo6 ho hs hH hf hd hx ht hg hg2 (Nat.le_of_ble_eq_true hc.1) (Nat.le_of_ble_eq_true hc.2)
  ·cases h
 ·rename_i p i q k c l e sz by' hd hx ht;split at h
  ·rename_i r hg;obtain⟨hc,rfl⟩:=bif_some h;simp only[Bool.and_eq_true]at hc;have h1:=Nat.eq_of_beq_eq_true hc.1;subst h1;exact Qnp ho hs hH hf hd hx ht hg (Nat.le_of_ble_eq_true hc.2)
  ·cases h
 ·cases h
theorem QjC{t:Nat}{x:Operand}(ho:o.op=.call {callee:=.builtin .clear,args:=#[x],argTypes:=#[t]})(hs:SR ρ L L')(hH:HM ρ H As)(hf:QB ρ n)(h:Qib P L H n t x=some a):ZQ P o L' w0 ρ H n As a:=by
 unfold Qib at h;split at h
 ·rename_i p i q k c e sz by' hx ht;split at h
  ·rename_i r z hg hz;obtain⟨hc,rfl⟩:=bif_some h;simp only[Bool.and_eq_true]at hc;obtain⟨c1,c2,c3,c4,c5⟩:=hc;exact Qog ho hs hH hf hx ht hz (Nat.eq_of_beq_eq_true c1) c2 c3 c4 hg (Nat.le_of_ble_eq_true c5)
  ·cases h
 ·cases h
theorem QlS{vs us:List Value}(h:Qq (Xn ρ) vs=some us):Qq (den ρ) vs=some us:=Q3 (λa b e=>Qde (Qb4 (QlD e))) h
theorem QgO{f:Operand}{args:Array Operand}{ts:Array TypeId}{r0:Rho}(hF:CallOk P r0 F)(h0:r0.le ρ)(ho:o.op=.call {callee:=.value f,args:=args,argTypes:=ts})(hs:SR ρ L L')(hH:HM ρ H As)(hf:QB ρ n)(h:Qda P H n F (opd L f) (QbY L args.toList)=some a):ZQ P o L' w0 ρ H n As a:=by
 unfold Qda at h;split at h
 ·rename_i g first cap vs hx hvs
  obtain⟨hc,h⟩:=bif_in h;split at h
  ·rename_i v H' n' hr;injection h with h
   subst h;obtain⟨u,e1,e2⟩:=Yx hs hx;simp only[den,Q0,QE,QbL]at e2;split at e2
   ·rename_i f' a' b' g1 g2 g3;injection g1 with g1
    subst g1;injection e2 with e2
    subst e2;obtain⟨us,e3,e4⟩:=QcW hs hvs;have hall:=Ym (Ym (QlS g2) e4) (QlS g3);refine⟨{x:Rho×List HA×Value // ρ.le x.1/\QB x.1 n'/\den x.1 v=some x.2.2/\HM x.1 H' x.2.1},λx=>x.1.2.2,λ_=>True,λx=>HS w0 [] x.1.2.1,λag w hρ hw=>?_,λx _=>⟨x.1.1,x.1.2.1,x.2.1,x.2.2.1,x.2.2.2.1,x.2.2.2.2,λ_ h=>h⟩⟩;rw[Zr ho hρ e1 hc e3];have hcall:=hF.f r0 F.y hF.y _ _ _ _ _ _ _ hr w0 ρ _ As h0 hall hH hf w hw;have hargs:(a'++us++b').toArray=a'.toArray++us.toArray++b'.toArray:=by simp
    rw[hargs]at hcall;exact Calls.mono hcall λe w'⟨ρ',As',u',h1,h2,h3,h4,h5,h6⟩=>⟨u',h5,⟨(ρ',As',u'),h1,h2,h3,h4⟩,rfl,trivial,h6⟩
   ·cases e2
  ·cases h
 ·rename_i k vs hx hvs;split at h
  ·rename_i v H' n' hr;injection h with h
   subst h;obtain⟨u,e1,e2⟩:=Yx hs hx;obtain⟨us,e3,e4⟩:=QcW hs hvs;obtain⟨x,hk,hy⟩:=hF.y _ _ _ _ _ _ _ hr w0 ρ us As h0 e4 hH hf;simp only[den,Q0,QE,QbL,hk,Qq,Option.some.injEq]at e2;subst e2;refine⟨{x:Rho×List HA×Value // ρ.le x.1/\QB x.1 n'/\den x.1 v=some x.2.2/\HM x.1 H' x.2.1},λx=>x.1.2.2,λ_=>True,λx=>HS w0 [] x.1.2.1,?_,λx _=>⟨x.1.1,x.1.2.1,x.2.1,x.2.2.1,x.2.2.2.1,x.2.2.2.2,λ_ h=>h⟩⟩;refine QoD (l:=x.1) ho e1 e3 λw hw=>?_;obtain⟨f,tmps,assign,body,y1,y2⟩:=hy w hw;exact⟨f,tmps,assign,body,y1,RoundIn.mono y2 λe w'⟨ρ',As',u',h1,h2,h3,h4,h5,h6⟩=>⟨⟨(ρ',As',u'),h1,h2,h3,h4⟩,h5,trivial,h6⟩⟩
  ·cases h
 ·cases h
theorem Qgq{b:Builtin}{args:Array Operand}{ts:Array TypeId}(ho:o.op=.call {callee:=.builtin b,args:=args,argTypes:=ts})(hs:SR ρ L L')(hH:HM ρ H As)(hf:QB ρ n)(h:Qcm P L H n b args.toList ts.toList=some a):ZQ P o L' w0 ρ H n As a:=by
 unfold Qcm at h;split at h
 ·rename_i x t h1 h2;rw[Qcw h1,Qcw h2]at ho;split at h
  ·rename_i l hx;obtain⟨hc,rfl⟩:=bif_some h;exact QpD ho hs hx hc
  ·rename_i p k c hx;obtain⟨hc,rfl⟩:=bif_some h;exact Qpk ho hs hx hc
  ·rename_i p i q hx;obtain⟨hc,rfl⟩:=bif_some h;exact Qqm ho hs hx hc
  ·cases h
 ·rename_i x t h1 h2;rw[Qcw h1,Qcw h2]at ho;split at h
  ·rename_i k c hx;obtain⟨hc,rfl⟩:=bif_some h;exact QpW ho hs hx hc
  ·cases h
 ·rename_i x y h1;rw[Qb6 h1]at ho;split at h
  ·rename_i k p k' q hx hy;obtain⟨hc,rfl⟩:=bif_some h;exact Qpr ho hs hx hy hc
  ·cases h
 ·rename_i x y h1;rw[Qb6 h1]at ho;split at h
  ·rename_i k p k' q hx hy;obtain⟨hc,rfl⟩:=bif_some h;exact QpF ho hs hx hy hc
  ·cases h
 ·grind[Qb6,Qh1]
 ·grind[Qb6,Qmg]
 ·grind[Qcw,QjC]
 ·cases h
theorem Qih{t:Nat}{m x:Operand}(ho:o.op=.lookup t m x false)(hs:SR ρ L L')(hH:HM ρ H As)(h:ZU P H t (opd L m) (opd L x)=some a):ZQ P o L' w0 ρ H n As a:=by
 unfold ZU at h;split at h
 ·rename_i r k h1 h2;split at h
  ·rename_i kt et ks h3 h4;split at h
   ·rename_i h5 h6;injection h with h
    subst h;exact Qlq ho hs hH h1 h2 h3 h5 h6 h4
   ·cases h
  ·cases h
 ·cases h
theorem QeP{t:Nat}{m x y:Operand}(ho:o.op=.mapUpdate t m x y)(hs:SR ρ L L')(hH:HM ρ H As)(hf:QB ρ n)(h:QbS P H n t (opd L m) (opd L x) (opd L y)=some a):ZQ P o L' w0 ρ H n As a:=by
 unfold QbS at h;split at h
 ·rename_i r k h1 h2 h2';split at h
  ·rename_i kt et ks h3 h4;split at h
   ·rename_i h6;injection h with h
    subst h;exact QgM (.inl ho) hs hH hf h1 h2 h2' h3 h6 h4
   ·cases h
  ·cases h
 ·cases h
theorem Zj{op:Op}{r0:Rho}(hF:CallOk P r0 F)(h0:r0.le ρ)(ho:o.op=op)(hs:SR ρ L L')(hH:HM ρ H As)(hf:QB ρ n)(h:Q1 P L H n F op=some a):ZQ P o L' w0 ρ H n As a:=by
 unfold Q1 at h;split at h
 ·exact Qdh h λv hv=>QmT (.inl ho) hs hv
 ·exact Qdh h λv hv=>QmT (.inr ho) hs hv
 ·split at h
  ·rename_i t x y h1 h2 h3;injection h with h
   subst h;exact Qqs ho hs h1 h2 h3
  ·cases h
 ·grind[Qdh,Qrh]
 ·split at h
  ·rename_i x h1;exact Qdh h λv hv=>un_R ho hs h1 hv
  ·cases h
 ·split at h
  ·rename_i x h1;split at h
   ·rename_i v hv;injection h with h
    subst h;exact QqH ho hs h1 hv
   grind[QkQ]
  ·cases h
 ·split at h
  ·rename_i vs h1;exact Qdh h λv hv=>Qj7 ho hs h1 hv
  ·cases h
 ·split at h
  ·rename_i x y h1 h2;obtain⟨hc,rfl⟩:=bif_some h;simp only[Bool.and_eq_true]at hc;exact Qii ho hs h1 h2 hc.1 hc.2
  ·cases h
 ·split at h
  ·rename_i m i h1;injection h with h
   subst h;exact Qh4 ho hs h1
  ·rename_i f x y h1;injection h with h
   subst h;exact Qgr ho hs h1
  ·cases h
 ·grind[Qdh,Qj4]
 ·grind[Qdh,QjJ]
 ·grind[Qdh,Qkl]
 ·grind[Qdh,QhR]
 ·grind[Qdh,QeH]
 ·grind[Qdh,QeL]
 ·grind[Qdh,Qkn]
 ·split at h
  ·rename_i v hv;injection h with h
   subst h;exact QkI ho hs hH hv
  ·cases h
 ·exact Qkk ho hs hH hf h
 ·unfold Qpd at h;split at h
  ·rename_i z hz;obtain⟨hc,rfl⟩:=bif_some h;exact QnE ho hz hc hH hf
  ·cases h
 ·unfold Qpg at h;split at h
  ·rename_i v hv;obtain⟨hc,rfl⟩:=bif_some h;exact QqZ ho hs hv hc hH hf
  ·cases h
 ·split at h
  ·rename_i e sz by' ht;injection h with h
   subst h;exact QeJ ho ht hH hf
  ·cases h
 ·exact Qey ho hs hH hf h
 ·exact QeF ho hs hH hf h
 ·exact Qgq ho hs hH hf h
 ·rename_i g args ts;split at h
  ·rename_i vs hvs;split at h
   ·rename_i v hv;injection h with h
    subst h;obtain⟨us,e3,e4⟩:=QcW hs hvs;obtain⟨u,e5,e6⟩:=hF.e _ _ _ hv w0 ρ us As e4 o L' args ts ho e3;exact⟨u,e6,e5⟩
   ·exact QgO hF h0 ho hs hH hf (by rw[hvs];exact h)
  ·cases h
 ·grind[QgO]
 ·injection h with h
  subst h;exact QjF ho hH hf
 ·exact Qih ho hs hH h
 ·exact QeP ho hs hH hf h
 ·cases h
end
end Ev
namespace Ev
open Go Go.RowKit
structure Clo(α:Type) where
 run:α
noncomputable def en(T:Tr Value):Env:=λt=>Ye (pth t) t T
inductive An where
 | no
 | p (v:Value)
 | q (m:Option Nat) (v:Value)
 | new (v:Value) (x:HX)
 | h (v:Value) (H:Hp) (n:Nat)
abbrev VF:=Tr Value->Option Value
abbrev OpF:=CallF->Tr Value->Hp->Nat->An
def QpU(P:Program)(op:Op)(F:CallF)(T:Tr Value)(H:Hp)(n:Nat):An->Prop
 | .no=>True
 | .p v=>Q1 P (en T) H n F op=some (.p v)
 | .q m v=>(∀H2,(∀k,m=some k->XR H2 k=XR H k)->Q1 P (en T) H2 n F op=some (.q v))/\∀k,m=some k->∃r,XR H k=some r
 | .new v x=>Q1 P (en T) H n F op=some (.h v (Yd H n x) (n+1))
 | .h v H' n'=>Q1 P (en T) H n F op=some (.h v H' n')
def ZC(P:Program)(op:Op)(f:OpF):Prop:=∀F,True->∀T H n,QpU P op F T H n (f F T H n)
noncomputable def anP:Option Value->An:=λx=>Option.rec .no (λv=>.p v) x
theorem Qh8{P:Program}{op:Op}{F:CallF}{T:Tr Value}{H:Hp}{n:Nat}{x:Option Value}(h:∀v,x=some v->Q1 P (en T) H n F op=some (.p v)):QpU P op F T H n (anP x):=by
 cases x with
 | none=>trivial
 | some v=>exact h v rfl
noncomputable def fbF(P:Program)(op:Op):OpF:=λF T H n=>match Q1 P (en T) H n F op with
 | some (.p v)=>.p v
 | some (.h v H n)=>.h v H n
 | _=>.no
theorem QlB(P:Program)(op:Op):ZC P op (fbF P op):=by
 intro F hF T H n;unfold fbF;split<;>first|assumption|trivial
noncomputable def Qnu(l:List Value):Nat->Option Value:=List.rec (λ_=>none) (λa _ ih i=>Nat.rec (some a) (λj _=>ih j) i) l
theorem Qdz:∀(l:List Value)(i:Nat),Qnu l i=l[i]?
 | [],i=>by cases i<;>rfl
 | a::l,0=>rfl
 | a::l,i+1=>Qdz l i
noncomputable def Qgw(l:List Value):Nat->Option (List Value):=
 List.rec (λn=>Nat.rec (some []) (λ_ _=>none) n) (λa _ ih n=>Nat.rec (some []) (λj _=>Option.rec none (λm=>some (a::m)) (ih j)) n) l
theorem Qd2:∀(l:List Value)(n:Nat){c:List Value},Qgw l n=some c->n<=l.length/\c=l.take n
 | [],0,c,h=>by cases h;exact⟨Nat.le_refl _,rfl⟩
 | [],n+1,c,h=>by cases h
 | a::l,0,c,h=>by cases h;exact⟨Nat.zero_le _,rfl⟩
 | a::l,n+1,c,h=>by
  have h':(Option.rec none (λm=>some (a::m)) (Qgw l n):Option (List Value))=some c:=h;cases hm:Qgw l n with
  | none=>rw[hm]at h';cases h'
  | some m=>
   rw[hm]at h';injection h' with h'
   obtain⟨h1,h2⟩:=Qd2 l n hm
   grind
noncomputable def Qn2(l:List Value):Nat->Nat->Option (List Value):=
 List.rec (λi n=>Nat.rec (Qgw [] n) (λ_ _=>none) i) (λa t ih i n=>Nat.rec (Qgw (a::t) n) (λj _=>ih j n) i) l
theorem Qds:∀(l:List Value)(i n:Nat){c:List Value},Qn2 l i n=some c->i+n<=l.length/\c=cut l i n
 | [],0,n,c,h=>by
  obtain⟨h1,h2⟩:=Qd2 [] n h;exact⟨om,h2⟩
 | [],i+1,n,c,h=>by cases h
 | a::l,0,n,c,h=>by
  obtain⟨h1,h2⟩:=Qd2 (a::l) n h;exact⟨om,h2⟩
 | a::l,i+1,n,c,h=>by
  obtain⟨h1,h2⟩:=Qds l i n h
  grind[cut]
noncomputable def QlM(vs:List Value):List Value->Option (List Value):=
 List.rec (λl=>some l) (λv _ ih l=>List.rec none (λ_ l' _=>Option.rec none (λm=>some (v::m)) (ih l')) l) vs
noncomputable def setO(l:List Value):Nat->List Value->Option (List Value):=
 List.rec (λi vs=>Nat.rec (QlM vs []) (λ_ _=>none) i) (λa t ih i vs=>Nat.rec (QlM vs (a::t)) (λj _=>Option.rec none (λm=>some (a::m)) (ih j vs)) i) l
theorem Yu(a:Value):∀(vs l:List Value)(i:Nat),Qc (a::l) (i+1) vs=a::Qc l i vs
 | [],l,i=>rfl
 | v::vs,l,i=>by simp_all[Qc,Yu]
theorem QfE:∀(vs l:List Value){m:List Value},QlM vs l=some m->vs.length<=l.length/\m=Qc l 0 vs
 | [],l,m,h=>by cases h;exact⟨Nat.zero_le _,rfl⟩
 | v::vs,[],m,h=>by cases h
 | v::vs,a::l,m,h=>by
  have h':(Option.rec none (λm=>some (v::m)) (QlM vs l):Option (List Value))=some m:=h;cases hm:QlM vs l with
  | none=>rw[hm]at h';cases h'
  | some x=>
   rw[hm]at h';injection h' with h'
   obtain⟨h1,h2⟩:=QfE vs l hm
   grind[Qc,Yu]
theorem Qjh:∀(l:List Value)(i:Nat)(vs:List Value){m:List Value},setO l i vs=some m->i+vs.length<=l.length/\m=Qc l i vs
 | [],0,vs,m,h=>by
  obtain⟨h1,h2⟩:=QfE vs [] h
  grind
 | [],i+1,vs,m,h=>by cases h
 | a::l,0,vs,m,h=>by
  obtain⟨h1,h2⟩:=QfE vs (a::l) h
  grind
 | a::l,i+1,vs,m,h=>by
  have h':(Option.rec none (λm=>some (a::m)) (setO l i vs):Option (List Value))=some m:=h;cases hm:setO l i vs with
  | none=>rw[hm]at h';cases h'
  | some x=>
   rw[hm]at h';injection h' with h'
   obtain⟨h1,h2⟩:=Qjh l i vs hm
   grind[Yu]
def Qdk:IntKind->Nat
 | .i8=>128
 | .i16=>32768
 | .i32=>2147483648
 | .i64=>9223372036854775808
 | .u8=>256
 | .u16=>65536
 | .u32=>4294967296
 | .u64=>18446744073709551616
def fw(k:IntKind)(z:Nat):Int:=bif Nat.blt z (Qdk k)then .ofNat z else k.wrap (.ofNat z)
theorem Qd5{k:IntKind}{z:Nat}(h:z<Qdk k):k.wrap (z:Int)=(z:Int):=by
 cases k<;>simp only[Qdk]at h<;>(simp only[IntKind.wrap,IntKind.signed,IntKind.bits];simp;omega)
theorem QeY(k:IntKind)(z:Nat):fw k z=k.wrap (z:Int):=by
 unfold fw;cases hb:Nat.blt z (Qdk k)with
 | true=>exact(Qd5 (by simpa[Nat.blt_eq]using hb)).symm
 | false=>rfl
end Ev
namespace Ev
open Go Go.RowKit
theorem QdT{op:BinOp}{k:IntKind}{x y:Nat}(hx:x<Qdk k)(hy:y<Qdk k):bits .and k (x:Int) (y:Int)=((x &&& y:Nat):Int)/\bits .or k (x:Int) (y:Int)=k.wrap ((x ||| y:Nat):Int):=by
 have hb:Qdk k<=2^k.bits:=by cases k<;>simp[Qdk,IntKind.bits]
 have ex:(BitVec.ofInt k.bits (x:Int)).toNat=x:=Qbi _ _ om;have ey:(BitVec.ofInt k.bits (y:Int)).toNat=y:=Qbi _ _ om;constructor
 ·show k.wrap (((BitVec.ofInt k.bits (x:Int)) &&& (BitVec.ofInt k.bits (y:Int)):BitVec k.bits).toNat:Int)=_;rw[BitVec.toNat_and,ex,ey];exact Qd5 (Nat.lt_of_le_of_lt Nat.and_le_left hx)
 ·show k.wrap (((BitVec.ofInt k.bits (x:Int)) ||| (BitVec.ofInt k.bits (y:Int)):BitVec k.bits).toNat:Int)=_
  grind
theorem d_eq(x y:Nat):decide (Int.ofNat x=Int.ofNat y)=Nat.beq x y:=by
 rw[Bool.eq_iff_iff,decide_eq_true_eq,Nat.beq_eq];constructor
 ·intro h;injection h
 ·intro h;rw[h]
abbrev IF:=IntKind->Nat->Nat->Option Value
noncomputable def Qgn:BinOp->Option (Clo IF)
 | .add=>some ⟨λk x y=>some (.int k (fw k (Nat.add x y)))⟩
 | .sub=>some ⟨λk x y=>bif Nat.ble y x then some (.int k (fw k (Nat.sub x y)))else some (.int k (k.wrap (Int.subNatNat x y)))⟩
 | .mul=>some ⟨λk x y=>some (.int k (fw k (Nat.mul x y)))⟩
 | .eql=>some ⟨λ_ x y=>some (.bool (Nat.beq x y))⟩
 | .neq=>some ⟨λ_ x y=>some (.bool (Bool.not (Nat.beq x y)))⟩
 | .lss=>some ⟨λ_ x y=>some (.bool (Nat.blt x y))⟩
 | .leq=>some ⟨λ_ x y=>some (.bool (Nat.ble x y))⟩
 | .gtr=>some ⟨λ_ x y=>some (.bool (Nat.blt y x))⟩
 | .geq=>some ⟨λ_ x y=>some (.bool (Nat.ble y x))⟩
 | .and=>some ⟨λk x y=>bif Nat.blt x (Qdk k)&&Nat.blt y (Qdk k)then some (.int k (.ofNat (Nat.land x y)))else none⟩
 | .or=>some ⟨λk x y=>bif Nat.blt x (Qdk k)&&Nat.blt y (Qdk k)then some (.int k (fw k (Nat.lor x y)))else none⟩
 | .quo=>some ⟨λk x y=>bif Nat.beq y 0 then none else some (.int k (fw k (Nat.div x y)))⟩
 | .rem=>some ⟨λk x y=>bif Nat.beq y 0 then none else some (.int k (.ofNat (Nat.mod x y)))⟩
 | _=>none
theorem Qme{op:BinOp}{c:Clo IF}{k:IntKind}{x y:Nat}{v:Value}(P:Program)(t:TypeId)(h:Qgn op=some c)(hv:c.run k x y=some v):YZ P op t (.int k (.ofNat x)) (.int k (.ofNat y))=some v:=by
 have hk:kEq k k=true:=by cases k<;>rfl
 unfold Qgn at h;split at h<;>first|(injection h with h;subst h)|cases h
 ·grind[YZ,QU,Xm,QeY]
 ·cases hb:Nat.ble y x with
  | true=>
   simp only[hb,cond_true]at hv;injection hv with hv;subst hv
   simp only[YZ,QU,hk,cond_true,Xm];rw[QeY];have:=Nat.le_of_ble_eq_true hb
   grind
  | false=>grind[YZ,QU,Xm]
 ·grind[YZ,QU,Xm,QeY]
 ·grind[YZ,QU,Xm,d_eq]
 ·grind[YZ,QU,Xm,d_eq]
 ·injection hv with hv;subst hv
  simp only[YZ,QU,hk,cond_true,Xm];congr 2;rw[Bool.eq_iff_iff];simp[Nat.blt_eq]
 ·injection hv with hv;subst hv
  simp only[YZ,QU,hk,cond_true,Xm];congr 2;rw[Bool.eq_iff_iff];simp[Nat.ble_eq]
 ·injection hv with hv;subst hv
  simp only[YZ,QU,hk,cond_true,Xm];congr 2;rw[Bool.eq_iff_iff];simp[Nat.blt_eq]
 ·injection hv with hv;subst hv
  simp only[YZ,QU,hk,cond_true,Xm];congr 2;rw[Bool.eq_iff_iff];simp[Nat.ble_eq]
 ·obtain⟨hc,rfl⟩:=bif_some hv;simp only[Bool.and_eq_true,Nat.blt_eq]at hc;simp only[YZ,QU,hk,cond_true,Xm];rw[show bits .and k (Int.ofNat x) (Int.ofNat y)=_ from(QdT (op:=.and) hc.1 hc.2).1];rfl
 ·obtain⟨hc,rfl⟩:=bif_some hv;simp only[Bool.and_eq_true,Nat.blt_eq]at hc;simp only[YZ,QU,hk,cond_true,Xm];rw[show bits .or k (Int.ofNat x) (Int.ofNat y)=_ from(QdT (op:=.or) hc.1 hc.2).2,QeY];rfl
 ·cases hb:Nat.beq y 0 with
  | true=>simp only[hb,cond_true]at hv;cases hv
  | false=>
   simp only[hb,cond_false]at hv;injection hv with hv;subst hv
   have hy:y≠0:=λe=>by subst e;cases hb
   have h0:decide ((Int.ofNat y)=0)=false:=by simpa using hy
   simp only[YZ,QU,hk,cond_true,Xm,h0,Bool.not_false,Bool.and_true];rw[QeY];rfl
 ·cases hb:Nat.beq y 0 with
  | true=>simp only[hb,cond_true]at hv;cases hv
  | false=>
   simp only[hb,cond_false]at hv;injection hv with hv;subst hv
   have hy:y≠0:=λe=>by subst e;cases hb
   have h0:decide ((Int.ofNat y)=0)=false:=by simpa using hy
   simp only[YZ,QU,hk,cond_true,Xm,h0,Bool.not_false,Bool.and_true];rfl
end Ev
namespace Ev
open Go Go.RowKit
noncomputable def Xh:Operand->Clo VF
 | .tmp t=>⟨Ye (pth t) t⟩
 | .const v=>Bool.rec ⟨λ_=>none⟩ ⟨λ_=>some v⟩ (YV v)
 | .func f=>⟨λ_=>some (.func (.func f) #[] #[])⟩
 | _=>⟨λ_=>none⟩
theorem QI(x:Operand)(T:Tr Value):(Xh x).run T=opd (en T) x:=by
 cases x with
 | const v=>
  simp only[Xh,opd];cases YV v<;>rfl
 | _=>rfl
noncomputable def QeT:List Operand->Clo (Tr Value->Option (List Value))
 | []=>⟨λ_=>some []⟩
 | x::l=>⟨λT=>Option.rec none (λv=>Option.rec none (λvs=>some (v::vs)) ((QeT l).run T)) ((Xh x).run T)⟩
theorem Qeg(T:Tr Value):∀l,(QeT l).run T=QbY (en T) l
 | []=>rfl
 | x::l=>by
  show(Option.rec none (λv=>Option.rec none (λvs=>some (v::vs)) ((QeT l).run T)) ((Xh x).run T):Option (List Value))=_;rw[Qeg T l,QI];simp only[QbY];cases opd (en T) x<;>cases QbY (en T) l<;>rfl
def VOk(P:Program)(op:Op)(f:VF):Prop:=∀T v,f T=some v->∀F H n,Q1 P (en T) H n F op=some (.p v)
noncomputable def ofV(f:VF):OpF:=λ_ T _ _=>anP (f T)
theorem ZV{P:Program}{op:Op}{f:VF}(h:VOk P op f):ZC P op (ofV f):=λF hF T H n=>Qh8 λv hv=>h T v hv F H n
theorem XB{x:Option Value}{v:Value}(h:x=some v):Qce x=some (.p v):=by rw[h];rfl
noncomputable def Qpa(P:Program)(op:BinOp)(t:TypeId)(c:Option (Clo IF))(a b:Value):Option Value:=
 Option.rec (YZ P op t a b) (λc=>match a with
  | .int k (.ofNat x)=>match b with
   | .int k' (.ofNat y)=>bif kEq k k' then(match c.run k x y with
    | some v=>some v
    | none=>YZ P op t a b)else none
   | b=>YZ P op t a b
  | a=>YZ P op t a b) c
theorem Qop{P:Program}{op:BinOp}{t:TypeId}{a b v:Value}(h:Qpa P op t (Qgn op) a b=some v):YZ P op t a b=some v:=by
 unfold Qpa at h;cases hc:Qgn op with
 | none=>rw[hc]at h;exact h
 | some c=>
  rw[hc]at h;simp only[]at h;split at h
  ·split at h
   ·obtain⟨hk,h⟩:=bif_in h
    grind[Qa7,Qme]
   ·exact h
  ·exact h
noncomputable def Ql1(P:Program)(op:BinOp)(t:TypeId)(x y:Operand):Clo VF:=
 ⟨λT=>Option.rec none (λa=>Option.rec none (λb=>Qpa P op t (Qgn op) a b) ((Xh y).run T)) ((Xh x).run T)⟩
theorem Qf6{P:Program}{op:BinOp}{t t':TypeId}{x y:Operand}:VOk P (.binOp op t x y t') (Ql1 P op t x y).run:=by
 intro T v h F H n;unfold Ql1 at h;simp only[QI]at h;cases hx:opd (en T) x with
 | none=>rw[hx]at h;cases h
 | some a=>
  cases hy:opd (en T) y with
  | none=>rw[hx,hy]at h;cases h
  | some b=>simp_all[Q1,XB,Qop]
noncomputable def Ql5(c a b:Operand):Clo VF:=⟨λT=>match(Xh c).run T with
 | some (.bool t)=>(match(Xh a).run T with
  | some x=>(match(Xh b).run T with
   | some y=>some (Bool.rec y x t)
   | none=>none)
  | none=>none)
 | _=>none⟩
theorem Qli{P:Program}{c a b:Operand}:VOk P (.pick c a b) (Ql5 c a b).run:=by
 intro T v h F H n;unfold Ql5 at h;simp only[QI]at h;unfold Q1;split at h
 ·rename_i t h1;split at h
  ·rename_i x h2;split at h
   ·rename_i y h3;injection h with h
    subst h;simp only[h1,h2,h3];cases t<;>rfl
   ·cases h
  ·cases h
 ·cases h
noncomputable def Qpu(x:Operand)(i:Nat):Clo VF:=⟨λT=>match(Xh x).run T with
 | some (.tuple ⟨l⟩)=>Qnu l i
 | _=>none⟩
theorem QnO{P:Program}{x:Operand}{i:Nat}:VOk P (.extract x i) (Qpu x i).run:=by
 intro T v h F H n;unfold Qpu at h
 grind[QI,Qdz,Q1,XB]
noncomputable def Qil(P:Program)(st:Nat)(x:Operand)(f:Nat):Clo VF:=match tfd P st f with
 | some (off,ft)=>match tsz P ft with
  | some (k,true)=>⟨λT=>match(Xh x).run T with
   | some (.agg ⟨l⟩)=>(match Qn2 l off k with
    | some c=>some (.agg ⟨c⟩)
    | none=>none)
   | _=>none⟩
  | some (k,false)=>⟨λT=>match(Xh x).run T with
   | some (.agg ⟨l⟩)=>Qnu l off
   | _=>none⟩
  | none=>⟨λ_=>none⟩
 | none=>⟨λ_=>none⟩
theorem Qkh{P:Program}{st f:Nat}{x:Operand}:VOk P (.field st x f) (Qil P st x f).run:=by
 intro T v h F H n;unfold Qil at h;unfold Q1;split at h
 ·rename_i off ft h1;split at h
  ·rename_i k h2;simp only[QI]at h;split at h
   ·rename_i l h3;split at h
    ·rename_i c h4;injection h with h
     subst h;obtain⟨_,rfl⟩:=Qds l off k h4
     grind[XB,Qek]
    ·cases h
   ·cases h
  ·grind[QI,Qdz,XB,Qek]
  ·cases h
 ·cases h
noncomputable def cFA(P:Program)(st:Nat)(x:Operand)(f:Nat):Clo VF:=match tfd P st f with
 | some (off,ft)=>match tsz P ft with
  | some (k,_)=>bif Nat.blt 0 k then⟨λT=>match(Xh x).run T with
   | some (.pointer (some ⟨m,i,none⟩))=>some (.pointer (some ⟨m,Nat.add i off,none⟩))
   | _=>none⟩else⟨λ_=>none⟩
  | none=>⟨λ_=>none⟩
 | none=>⟨λ_=>none⟩
theorem QpX{P:Program}{st f:Nat}{x:Operand}:VOk P (.fieldAddr st x f) (cFA P st x f).run:=by
 intro T v h F H n;unfold cFA at h;unfold Q1;split at h
 ·rename_i off ft h1;split at h
  ·rename_i k ag h2;cases hk:Nat.blt 0 k with
   | false=>rw[hk]at h;cases h
   | true=>
    rw[hk]at h
    grind[QI,XB,Qam]
  ·cases h
 ·cases h
noncomputable def cIA(P:Program)(t:Nat)(x y:Operand):Clo VF:=match tsl P t with
 | some (_,sz,_)=>⟨λT=>match(Xh x).run T with
   | some (.slice (some ⟨m,off,_⟩) l _)=>(match(Xh y).run T with
    | some (.int _ (.ofNat j))=>bif Nat.blt j l then some (.pointer (some ⟨m,Nat.add off (Nat.mul j sz),none⟩))else none
    | _=>none)
   | _=>none⟩
 | none=>match tar P t with
  | some (len,_,sz)=>⟨λT=>match(Xh x).run T with
   | some (.pointer (some ⟨m,off,none⟩))=>(match(Xh y).run T with
    | some (.int _ (.ofNat j))=>bif Nat.blt j len then some (.pointer (some ⟨m,Nat.add off (Nat.mul j sz),none⟩))else none
    | _=>none)
   | _=>none⟩
  | none=>⟨λ_=>none⟩
theorem QqC{P:Program}{t:Nat}{x y:Operand}:VOk P (.indexAddr t x y) (cIA P t x y).run:=by
 intro T v h F H n;unfold cIA at h;unfold Q1;split at h
 ·rename_i e sz by' h1;simp only[QI]at h;split at h
  ·rename_i m off q l c h2;split at h
   ·simp_all[bif_some,XB,ZE,vN]
   ·cases h
  ·cases h
 ·split at h
  ·rename_i len e sz h1;simp only[QI]at h;split at h
   ·rename_i m off h2;split at h
    ·simp_all[bif_some,XB,ZE,vN]
    ·cases h
   ·cases h
  ·cases h
noncomputable def Qo1(l:List UInt8):Nat->Option Nat:=List.rec (λ_=>none) (λa _ ih i=>Nat.rec (some a.toNat) (λj _=>ih j) i) l
theorem QgA:∀(l:List UInt8)(i:Nat){b:Nat},Qo1 l i=some b->i<l.length/\b=(l.getD i 0).toNat
 | [],i,b,h=>by cases i<;>cases h
 | a::l,0,b,h=>by cases h;exact⟨Nat.succ_pos _,rfl⟩
 | a::l,i+1,b,h=>by
  obtain⟨h1,h2⟩:=QgA l i h
  grind
noncomputable def QpJ(P:Program)(t:Nat)(x y:Operand):Clo VF:=bif QT P t then⟨λT=>match(Xh x).run T with
   | some (.string ⟨⟨l⟩⟩)=>(match(Xh y).run T with
    | some (.int _ (.ofNat j))=>(match Qo1 l j with
     | some b=>some (.int .u8 (.ofNat b))
     | none=>none)
    | _=>none)
   | _=>none⟩else⟨λT=>Qea P t ((Xh x).run T) (vN ((Xh y).run T))⟩
theorem QnM{P:Program}{t:Nat}{x y:Operand}:VOk P (.index t x y) (QpJ P t x y).run:=by
 intro T v h F H n;unfold QpJ at h;unfold Q1;cases ht:QT P t with
 | false=>simp_all[QI,XB]
 | true=>
  rw[ht]at h;simp only[cond_true,QI]at h;split at h
  ·rename_i l h1;split at h
   ·rename_i k j h2;split at h
    ·rename_i b h3;injection h with h
     subst h;obtain⟨h4,rfl⟩:=QgA l j h3;refine XB ?_;simp only[Qea,h1,h2,vN,ht,Bool.true_and];rw[show Nat.blt j l.length=true by simpa[Nat.blt_eq]using h4];rfl
    ·cases h
   ·cases h
  ·cases h
noncomputable def QpO(P:Program)(t:Nat)(x:Operand):Clo VF:=bif QT P t then⟨λT=>match(Xh x).run T with
   | some (.string ⟨⟨l⟩⟩)=>some (.int .i64 (.ofNat l.length))
   | _=>none⟩else bif QV P t then⟨λT=>match(Xh x).run T with
   | some (.slice _ k _)=>some (.int .i64 (.ofNat k))
   | some (.pointer (some ⟨_,_,some _⟩))=>some (.int .i64 0)
   | _=>none⟩else⟨λ_=>none⟩
theorem QnJ{P:Program}{t:Nat}{x:Operand}:VOk P (.call ⟨.builtin .len,#[x],#[t]⟩) (QpO P t x).run:=by
 intro T v h F H n;unfold QpO at h;unfold Q1 Qcm;cases ht:QT P t with
 | true=>
  rw[ht]at h
  grind[QI]
 | false=>
  rw[ht]at h;simp only[cond_false]at h;cases hs:QV P t with
  | false=>rw[hs]at h;cases h
  | true=>
   rw[hs]at h
   grind[QI]
end Ev
namespace Ev
open Go Go.RowKit
noncomputable def Qlu(l:List UInt8):List UInt8->Bool:=
 List.rec (λm=>List.rec true (λ_ _ _=>false) m) (λa _ ih m=>List.rec false (λb m' _=>Bool.rec false (ih m') (Nat.beq a.toNat b.toNat)) m) l
theorem QdA:∀(l m:List UInt8),Qlu l m=decide (l=m)
 | [],[]=>rfl
 | [],b::m=>rfl
 | a::l,[]=>rfl
 | a::l,b::m=>by
  show(Bool.rec false (Qlu l m) (Nat.beq a.toNat b.toNat):Bool)=_;rw[QdA l m];cases hb:Nat.beq a.toNat b.toNat with
  | true=>
   have:a=b:=UInt8.toNat_inj.1 (Nat.eq_of_beq_eq_true hb);subst this;simp
  | false=>
   have:a≠b:=λe=>by subst e;rw[Nat.beq_refl]at hb;cases hb
   simp[this]
noncomputable def QlZ(P:Program)(op:BinOp)(t:TypeId)(x y:Operand):Clo VF:=match op with
 | .eql=>⟨λT=>match(Xh x).run T with
  | some (.string ⟨⟨l⟩⟩)=>(match(Xh y).run T with
   | some (.string ⟨⟨m⟩⟩)=>some (.bool (Qlu l m))
   | _=>none)
  | _=>(Ql1 P .eql t x y).run T⟩
 | .neq=>⟨λT=>match(Xh x).run T with
  | some (.string ⟨⟨l⟩⟩)=>(match(Xh y).run T with
   | some (.string ⟨⟨m⟩⟩)=>some (.bool (Bool.not (Qlu l m)))
   | _=>none)
  | _=>(Ql1 P .neq t x y).run T⟩
 | op=>Ql1 P op t x y
theorem Qmz{P:Program}{op:BinOp}{t t':TypeId}{x y:Operand}:VOk P (.binOp op t x y t') (QlZ P op t x y).run:=by
 intro T v h F H n;unfold QlZ at h;split at h
 ·simp only[QI]at h;split at h
  ·grind[Q1,XB,YZ,QU,QcE,QdA]
  ·exact Qf6 T v h F H n
 ·simp only[QI]at h;split at h
  ·grind[Q1,XB,YZ,QU,QcE,QdA]
  ·exact Qf6 T v h F H n
 ·exact Qf6 T v h F H n
noncomputable def QoW(l:List UInt8):List Value:=List.rec [] (λb _ ih=>.int .u8 (.ofNat b.toNat)::ih) l
theorem QhB:∀l:List UInt8,QoW l=l.map λb=>.int .u8 (b.toNat:Int)
 | []=>rfl
 | b::l=>congrArg _ (QhB l)
noncomputable def byS(v:Value)(ih:Option (List UInt8)):Option (List UInt8):=match v with
 | .int .u8 (.ofNat z)=>(match ih with
  | some r=>some (UInt8.ofNat z::r)
  | none=>none)
 | _=>none
noncomputable def byO(l:List Value):Option (List UInt8):=List.rec (some []) (λv _ ih=>byS v ih) l
theorem Qlp:∀(l:List Value){r:List UInt8},byO l=some r->l.all QfV=true/\QS l=true/\l.map QaJ=r
 | [],r,h=>by cases h;exact⟨rfl,rfl,rfl⟩
 | v::l,r,h=>by
  have h':byS v (byO l)=some r:=h;unfold byS at h';split at h'
  ·rename_i z;split at h'
   ·rename_i r' hr;injection h' with h'
    subst h';obtain⟨h1,h2,h3⟩:=Qlp l hr;refine⟨?_,?_,?_⟩
    ·simpa[QfV]using h1
    ·grind[QS,YV]
    ·simp only[List.map_cons,h3];rfl
   ·cases h'
  ·cases h'
noncomputable def QmE(P:Program)(src dst:TypeId)(x:Operand):Clo OpF:=match tki P src,tki P dst with
 | some k1,some k2=>⟨λ_ T _ _=>match(Xh x).run T with
  | some (.int k0 (.ofNat z))=>bif kEq k0 k1 then .p (.int k2 (fw k2 z))else .no
  | some v=>anP (QaK P src dst v)
  | none=>.no⟩
 | _,_=>match QT P src,P.underlying dst,P.underlying src with
  | true,some (.slice e),_=>bif QaM P e&&Nat.beq e u8T then⟨λ_ T H n=>match(Xh x).run T with
   | some (.string ⟨⟨l⟩⟩)=>bif Nat.ble l.length maxLen then .new (.slice (some ⟨n,0,none⟩) l.length l.length) (.row ⟨e,1,QoW l⟩)else .no
   | _=>.no⟩else⟨λ_ _ _ _=>.no⟩
  | false,_,some (.slice e)=>bif QT P dst&&QaM P e then⟨λ_ T H n=>match(Xh x).run T with
   | some (.slice (some ⟨p,i,_⟩) k c)=>(match XH H p with
    | some r=>(match Qn2 r.cs i k with
     | some cs=>(match byO cs with
      | some l=>.q (some p) (.string (bs l))
      | none=>.no)
     | none=>.no)
    | none=>.no)
   | some (.slice none k c)=>bif Nat.beq k 0 then .q none (.string (bs []))else .no
   | some (.pointer (some ⟨_,_,some _⟩))=>.q none (.string (bs []))
   | _=>.no⟩else(bif Nat.beq src dst then⟨fbF P (.convert src dst x)⟩else⟨λ_ _ _ _=>.no⟩)
  | _,_,_=>⟨λ_ T _ _=>match(Xh x).run T with
   | some v=>anP (QaK P src dst v)
   | none=>.no⟩
theorem Qd7{P:Program}{src dst:TypeId}{x:Operand}{F:CallF}{T:Tr Value}{H:Hp}{n:Nat}{a v:Value}(h1:opd (en T) x=some a)(h:QaK P src dst a=some v):Q1 P (en T) H n F (.convert src dst x)=some (.p v):=by
 simp only[Q1,h1,h]
theorem Qmx{P:Program}{src dst:TypeId}{x:Operand}:ZC P (.convert src dst x) (QmE P src dst x).run:=by
 intro F hF T H n;unfold QmE;split
 ·rename_i k1 k2 h1 h2;simp only[QI];split
  ·rename_i k0 z h3;cases hk:kEq k0 k1 with
   | false=>exact trivial
   | true=>
    refine Qd7 h3 ?_
    grind[QaK,QeY]
  ·grind[Qh8,Qd7]
  ·exact trivial
 ·rename_i hno;split
  ·rename_i e hs hd;cases hc:QaM P e&&Nat.beq e u8T with
   | false=>exact trivial
   | true=>
    simp only[cond_true,QI];split
    ·rename_i l h3;cases hl:Nat.ble l.length maxLen with
     | false=>exact trivial
     | true=>
      simp only[cond_true];show Q1 _ _ _ _ _ _=_;have hns:QT P dst=false:=by simp[QT,hd]
      have hcv:QaK P src dst (.string ⟨⟨l⟩⟩)=none:=by simp[QaK,hns]
      simp only[Bool.and_eq_true]at hc;simp only[Q1,h3,hcv,QdU,hd,hs,hc.1,hc.2,hl,Bool.and_self,cond_true,QhB];rfl
    ·exact trivial
  ·rename_i e hs hu;cases hc:QT P dst&&QaM P e with
   | false=>
    cases hd:Nat.beq src dst with
    | false=>exact trivial
    | true=>exact QlB P _ F hF T H n
   | true=>
    simp only[Bool.and_eq_true]at hc;simp only[cond_true,QI];split
    ·rename_i p i q k c h3;split
     ·rename_i r hr;split
      ·rename_i cs h4;split
       ·rename_i l h5;obtain⟨g1,rfl⟩:=Qds _ _ _ h4;obtain⟨g2,g3,g4⟩:=Qlp _ h5;refine⟨λH2 h6=>?_,λk9 h9=>by injection h9 with h9;subst h9;exact⟨_,QbQ hr⟩⟩;have hr2:XH H2 p=some r:=by unfold XH;rw[h6 p rfl,QbQ hr]
        have hble:Nat.ble (i+k) r.cs.length=true:=Nat.ble_eq_true_of_le g1
        grind[Q1,QaK,QdU]
       ·exact trivial
      ·exact trivial
     ·exact trivial
    ·rename_i k c h3;cases hk:Nat.beq k 0 with
     | false=>exact trivial
     | true=>
      refine⟨λH2 _=>?_,λk9 h9=>by cases h9⟩
      grind[Q1,QaK,QdU]
    ·rename_i p i q h3;refine⟨λH2 _=>?_,λk9 h9=>by cases h9⟩
     grind[Q1,QaK,QdU]
    ·exact trivial
  ·simp only[QI];split
   ·grind[Qh8,Qd7]
   ·exact trivial
noncomputable def Qlx(P:Program)(t x:Nat):Clo OpF:=match tsz P t with
 | some (sz,true)=>⟨λ_ T H _=>match Ye (pth x) x T with
  | some (.pointer (some ⟨m,i,none⟩))=>(match XH H m with
   | some r=>(match Qn2 r.cs i sz with
    | some c=>.q (some m) (.agg ⟨c⟩)
    | none=>.no)
   | none=>.no)
  | _=>.no⟩
 | some (sz,false)=>bif Nat.beq sz 1 then⟨λ_ T H _=>match Ye (pth x) x T with
  | some (.pointer (some ⟨m,i,none⟩))=>(match XH H m with
   | some r=>(match Qnu r.cs i with
    | some c=>.q (some m) c
    | none=>.no)
   | none=>.no)
  | _=>.no⟩else⟨λ_ _ _ _=>.no⟩
 | none=>⟨λ_ _ _ _=>.no⟩
theorem Qk0{P:Program}{t x:Nat}:ZC P (.load t (.tmp x)) (Qlx P t x).run:=by
 intro F hF T H n;unfold Qlx;split
 ·rename_i sz h1;simp only[];split
  ·rename_i m i h2;split
   ·rename_i r hr;split
    ·rename_i c h3;obtain⟨g1,rfl⟩:=Qds _ _ _ h3;refine⟨λH2 h6=>?_,λk9 h9=>by injection h9 with h9;subst h9;exact⟨_,QbQ hr⟩⟩;have hr2:XH H2 m=some r:=by unfold XH;rw[h6 m rfl,QbQ hr]
     have hble:Nat.ble (i+sz) r.cs.length=true:=Nat.ble_eq_true_of_le g1
     grind[Q1,QeD,en]
    ·exact trivial
   ·exact trivial
  ·exact trivial
 ·rename_i sz h1;cases hs:Nat.beq sz 1 with
  | false=>exact trivial
  | true=>
   simp only[cond_true];split
   ·rename_i m i h2;split
    ·rename_i r hr;split
     ·rename_i c h3;rw[Qdz]at h3;refine⟨λH2 h6=>?_,λk9 h9=>by injection h9 with h9;subst h9;exact⟨_,QbQ hr⟩⟩
      grind[XH,QbQ,Q1,QeD,en]
     ·exact trivial
    ·exact trivial
   ·exact trivial
 ·exact trivial
noncomputable def QhJ(P:Program)(t x:Nat)(y:Operand):Clo OpF:=match tsz P t with
 | some (sz,_)=>⟨λ_ T H n=>match Ye (pth x) x T with
  | some (.pointer (some ⟨m,i,none⟩))=>(match(Xh y).run T with
   | some v=>(match XH H m with
    | some ⟨ty,s,cs⟩=>bif Zd v&&Nat.beq v.cells.toList.length sz then(match setO cs i v.cells.toList with
     | some c=>.h undef (XJ H m ⟨ty,s,c⟩) n
     | none=>.no)else .no
    | none=>.no)
   | none=>.no)
  | _=>.no⟩
 | none=>⟨λ_ _ _ _=>.no⟩
theorem QjI{P:Program}{t x:Nat}{y:Operand}:ZC P (.store t (.tmp x) y) (QhJ P t x y).run:=by
 intro F hF T H n;unfold QhJ;split
 ·rename_i sz ag h1;simp only[QI];split
  ·rename_i m i h2;split
   ·rename_i v h3;split
    ·rename_i ty s cs hr;cases hc:Zd v&&Nat.beq v.cells.toList.length sz with
     | false=>exact trivial
     | true=>
      simp only[cond_true];split
      ·rename_i c h4;obtain⟨g1,rfl⟩:=Qjh _ _ _ h4;simp only[Bool.and_eq_true]at hc;have hl:=Nat.eq_of_beq_eq_true hc.2;have hble:Nat.ble (i+sz) cs.length=true:=Nat.ble_eq_true_of_le (by rw[<-hl];exact g1);show Q1 _ _ _ _ _ _=_
       grind[Q1,Qfv,en]
      ·exact trivial
    ·exact trivial
   ·exact trivial
  ·exact trivial
 ·exact trivial
noncomputable def QhZ(P:Program)(t:Nat):Clo OpF:=match Qz P t with
 | some z=>bif QS z then⟨λ_ _ _ n=>.new (.pointer (some ⟨n,0,none⟩)) (.row ⟨t,0,z⟩)⟩else⟨λ_ _ _ _=>.no⟩
 | none=>⟨λ_ _ _ _=>.no⟩
theorem QjS{P:Program}{t:Nat}:ZC P (.alloc t) (QhZ P t).run:=by
 intro F hF T H n;unfold QhZ;split
 ·rename_i z h1;cases hf:QS z with
  | false=>exact trivial
  | true=>
   show Q1 _ _ _ _ _ _=_;simp only[Q1,Qpd,h1,hf,cond_true];rfl
 ·exact trivial
noncomputable def Qp0(t:Nat)(x:Operand):Clo OpF:=⟨λ_ T _ n=>match(Xh x).run T with
 | some v=>bif Zd v then .new (.pointer (some ⟨n,0,none⟩)) (.row ⟨t,0,v.cells.toList⟩)else .no
 | none=>.no⟩
theorem QoE{P:Program}{t:Nat}{x:Operand}:ZC P (.box t x) (Qp0 t x).run:=by
 intro F hF T H n;unfold Qp0;simp only[QI];split
 ·rename_i v h1;cases hf:Zd v with
  | false=>exact trivial
  | true=>
   show Q1 _ _ _ _ _ _=_;simp only[Q1,Qpg,h1,hf,cond_true];rfl
 ·exact trivial
noncomputable def cBS(P:Program)(t len:Nat)(parts:List (Nat×Operand)):Clo OpF:=match tsl P t with
 | some (e,sz,_)=>match Qz P e with
  | some z=>bif QS z&&(Nat.ble (len*sz) 16777216&&(Nat.blt 0 (len*sz)&&QS (QkN z (len*sz))))then⟨λ_ T _ n=>match Qcv (en T) parts with
   | some vs=>(match YO (λi=>some (i*sz,sz)) (QkN z (len*sz)) vs with
    | some cs=>.new (.slice (some ⟨n,0,none⟩) len len) (.row ⟨e,sz,cs⟩)
    | none=>.no)
   | none=>.no⟩else⟨λ_ _ _ _=>.no⟩
  | none=>⟨λ_ _ _ _=>.no⟩
 | none=>⟨λ_ _ _ _=>.no⟩
theorem QqM{P:Program}{t len:Nat}{parts:List (Nat×Operand)}(hne:¬(len=0/\parts=[])):ZC P (.buildSlice t len ⟨parts⟩) (cBS P t len parts).run:=by
 intro F hF T H n;unfold cBS;split
 ·rename_i e sz by' h1;split
  ·rename_i z h2;cases hc:QS z&&(Nat.ble (len*sz) 16777216&&(Nat.blt 0 (len*sz)&&QS (QkN z (len*sz))))with
   | false=>exact trivial
   | true=>
    simp only[cond_true];split
    ·rename_i vs h3;split
     ·rename_i cs h4;show Q1 _ _ _ _ _ _=_
      have hb:YT P (en T) H n t len parts=some (.h (.slice (some ⟨n,0,none⟩) len len) (Yd H n (.row ⟨e,sz,cs⟩)) (n+1)):=by
       simp only[YT,h3,h1,h2,h4,hc,cond_true];rfl
      grind[Q1]
     ·exact trivial
    ·exact trivial
  ·exact trivial
 ·exact trivial
noncomputable def Qpw(P:Program)(t:Nat):Clo OpF:=match tsl P t with
 | some (e,sz,_)=>⟨λ_ _ _ n=>.new (.slice (some ⟨n,0,none⟩) 0 0) (.row ⟨e,sz,[]⟩)⟩
 | none=>⟨λ_ _ _ _=>.no⟩
theorem Qnl{P:Program}{t:Nat}:ZC P (.buildSlice t 0 ⟨[]⟩) (Qpw P t).run:=by
 intro F hF T H n;unfold Qpw;split
 ·rename_i e sz by' h1;show Q1 _ _ _ _ _ _=_;simp only[Q1,h1];rfl
 ·exact trivial
noncomputable def cMS(P:Program)(t:Nat)(x y:Operand):Clo OpF:=match tsl P t with
 | some (e,sz,by')=>match Qz P e with
  | some z=>⟨λ_ T _ n=>match(Xh x).run T with
   | some (.int .i64 (.ofNat k))=>(match(Xh y).run T with
    | some (.int .i64 (.ofNat k'))=>bif Nat.ble k k'&&(Nat.ble (k'*by') 281474976710656&&(Nat.ble k' 16777216&&QS (Xa z (k'*sz))))then .new (.slice (some ⟨n,0,none⟩) k k') (.row ⟨e,sz,Xa z (k'*sz)⟩)else .no
    | _=>.no)
   | _=>.no⟩
  | none=>⟨λ_ _ _ _=>.no⟩
 | none=>⟨λ_ _ _ _=>.no⟩
theorem QpH{P:Program}{t:Nat}{x y:Operand}:ZC P (.makeSlice t x y) (cMS P t x y).run:=by
 intro F hF T H n;unfold cMS;split
 ·rename_i e sz by' h1;split
  ·rename_i z h2;simp only[QI];split
   ·rename_i k h3;split
    ·rename_i k' h4;cases hc:Nat.ble k k'&&(Nat.ble (k'*by') 281474976710656&&(Nat.ble k' 16777216&&QS (Xa z (k'*sz))))with
     | false=>exact trivial
     | true=>
      show Q1 _ _ _ _ _ _=_;simp only[Q1,Qaq,h3,h4,h1,h2,hc,cond_true];rfl
    ·exact trivial
   ·exact trivial
  ·exact trivial
 ·exact trivial
noncomputable def QiJ(F:CallF)(g:FuncId)(vs:List Value)(H:Hp)(n:Nat):An:=match F.f F.y g vs H n with
 | some (v,H',n')=>.h v H' n'
 | none=>.no
noncomputable def QhX(P:Program)(g:Nat)(args:List Operand):Clo OpF:=⟨λF T H n=>match(QeT args).run T with
 | some vs=>(match F.e g vs with
  | some v=>.q none v
  | none=>bif QJ P g then QiJ F g vs H n else .no)
 | none=>.no⟩
theorem QgB{P:Program}{op:Op}{F:CallF}{T:Tr Value}{H:Hp}{n:Nat}{g:FuncId}{vs:List Value}(h:∀v H' n',F.f F.y g vs H n=some (v,H',n')->Q1 P (en T) H n F op=some (.h v H' n')):QpU P op F T H n (QiJ F g vs H n):=by
 unfold QiJ;split
 ·rename_i v H' n' hr;exact h _ _ _ hr
 ·exact trivial
theorem Qj2{P:Program}{g:Nat}{args:List Operand}{ts:Array TypeId}:ZC P (.call ⟨.value (.func g),⟨args⟩,ts⟩) (QhX P g args).run:=by
 intro F hF T H n;unfold QhX;simp only[Qeg];split
 ·rename_i vs h1;split
  ·rename_i v h2;exact⟨λH2 _=>by simp only[Q1,h1,h2],λk h9=>by cases h9⟩
  ·rename_i h2;cases hc:QJ P g with
   | false=>exact trivial
   | true=>grind[QgB,Q1,Qda]
 ·exact trivial
noncomputable def QhU(P:Program)(f:Operand)(args:List Operand):Clo OpF:=⟨λF T H n=>match(Xh f).run T with
 | some (.func (.func g) ⟨a⟩ ⟨b⟩)=>(match(QeT args).run T with
  | some vs=>bif QJ P g then QiJ F g (a++vs++b) H n else .no
  | none=>.no)
 | some (.func (.yield k) ⟨[]⟩ ⟨[]⟩)=>(match(QeT args).run T with
  | some vs=>(match F.y k vs H n with
   | some (v,H',n')=>.h v H' n'
   | none=>.no)
  | none=>.no)
 | _=>.no⟩
theorem QjK{P:Program}{f:Operand}{args:List Operand}{ts:Array TypeId}(hf:∀g,f≠ .func g):ZC P (.call ⟨.value f,⟨args⟩,ts⟩) (QhU P f args).run:=by
 intro F hF T H n;unfold QhU;simp only[QI,Qeg];split
 ·rename_i g a b h1;split
  ·rename_i vs h2;cases hc:QJ P g with
   | false=>exact trivial
   | true=>simp_all[QgB,Qda,opd,en,QbY,Q1]
  ·exact trivial
 ·rename_i k h1;split
  ·rename_i vs h2;split
   ·rename_i v H' n' hr;have hb:Qda P H n F (opd (en T) f) (QbY (en T) args)=some (.h v H' n'):=by grind[Qda]
    show Q1 _ _ _ _ _ _=_
    simp_all[Q1]
   ·exact trivial
  ·exact trivial
 ·exact trivial
noncomputable def QkT(P:Program)(t:Nat)(m x:Operand):Clo OpF:=⟨λ_ T H _=>match(Xh m).run T with
 | some (.map (some r))=>(match ZU P H t (some (.map (some r))) ((Xh x).run T)with
  | some (.q v)=>.q (some r) v
  | _=>.no)
 | _=>.no⟩
theorem QkL{P:Program}{t:Nat}{m x:Operand}:ZC P (.lookup t m x false) (QkT P t m x).run:=by
 intro F hF T H n;unfold QkT;simp only[QI];split
 ·rename_i r h1;split
  ·rename_i v h2
   have hm:∃ks,QdZ H r=some ks:=by
    unfold ZU at h2
    grind
   obtain⟨ks,hks⟩:=hm;refine⟨λH2 h6=>?_,λk h9=>by injection h9 with h9;subst h9;exact⟨_,QkS hks⟩⟩;have hr2:QdZ H2 r=QdZ H r:=by unfold QdZ;rw[h6 r rfl]
   have:ZU P H2 t (some (.map (some r))) (opd (en T) x)=ZU P H t (some (.map (some r))) (opd (en T) x):=by
    unfold ZU
    grind
   grind[Q1]
  ·exact trivial
 ·exact trivial
noncomputable def Qo0:Clo OpF:=⟨λ_ _ _ n=>.new (.map (some n)) (.mp [])⟩
theorem Qms{P:Program}{t:Nat}:ZC P (.makeMap t none) Qo0.run:=by
 intro F hF T H n;show Q1 _ _ _ _ _ _=_;simp only[Q1]
noncomputable def ZA(P:Program):Op->Clo OpF
 | .move x=>⟨ofV (Xh x).run⟩
 | .assign x=>⟨ofV (Xh x).run⟩
 | .pick c a b=>⟨ofV (Ql5 c a b).run⟩
 | .binOp op t x y _=>⟨ofV (QlZ P op t x y).run⟩
 | .convert src dst x=>QmE P src dst x
 | .extract x i=>⟨ofV (Qpu x i).run⟩
 | .field st x f=>⟨ofV (Qil P st x f).run⟩
 | .fieldAddr st x f=>⟨ofV (cFA P st x f).run⟩
 | .index t x y=>⟨ofV (QpJ P t x y).run⟩
 | .indexAddr t x y=>⟨ofV (cIA P t x y).run⟩
 | .load t (.tmp x)=>Qlx P t x
 | .store t (.tmp x) y=>QhJ P t x y
 | .alloc t=>QhZ P t
 | .box t x=>Qp0 t x
 | .buildSlice t 0 ⟨[]⟩=>Qpw P t
 | .buildSlice t len ⟨parts⟩=>cBS P t len parts
 | .makeSlice t x y=>cMS P t x y
 | .call ⟨.builtin .len,⟨[x]⟩,⟨[t]⟩⟩=>⟨ofV (QpO P t x).run⟩
 | .call ⟨.value (.func g),⟨args⟩,_⟩=>QhX P g args
 | .call ⟨.value f,⟨args⟩,_⟩=>QhU P f args
 | .makeMap t none=>Qo0
 | .lookup t m x false=>QkT P t m x
 | op=>⟨fbF P op⟩
theorem QgF{P:Program}{x:Operand}:VOk P (.move x) (Xh x).run/\VOk P (.assign x) (Xh x).run:=by
 constructor<;>(intro T v h F H n;rw[QI]at h;simp only[Q1,h];rfl)
theorem Qbk(P:Program)(op:Op):ZC P op (ZA P op).run:=by
 unfold ZA;split
 ·exact ZV QgF.1
 ·exact ZV QgF.2
 ·exact ZV Qli
 ·exact ZV Qmz
 ·exact Qmx
 ·exact ZV QnO
 ·exact ZV Qkh
 ·exact ZV QpX
 ·exact ZV QnM
 ·exact ZV QqC
 ·exact Qk0
 ·exact QjI
 ·exact QjS
 ·exact QoE
 ·exact Qnl
 ·grind[QqM]
 ·exact QpH
 ·exact ZV QnJ
 ·exact Qj2
 ·grind[QjK]
 ·exact Qms
 ·exact QkL
 ·exact QlB P _
end Ev
namespace Ev
open Go Go.RowKit
inductive Rs where
 | bad
 | nm (T:Tr Value) (H:Hp) (n:Nat)
 | ex (i:Nat) (T:Tr Value) (H:Hp) (n:Nat)
 | rt (T:Tr Value) (H:Hp) (n:Nat)
abbrev SF:=CallF->Tr Value->Hp->Nat->Rs
abbrev CS:=Clo SF
noncomputable def noC:CS:=⟨λ_ _ _ _=>.bad⟩
noncomputable def cOn(P:Program)(nt:Nat)(o:Oper)(rest:CS):CS:=match o.dst with
 | some d=>bif Nat.blt d nt then⟨λF T H n=>match(ZA P o.op).run F T H n with
  | .no=>.bad
  | .p v=>rest.run F (XI (pth d) d v T) H n
  | .q _ v=>rest.run F (XI (pth d) d v T) H n
  | .new v x=>rest.run F (XI (pth d) d v T) (Yd H n x) (Nat.succ n)
  | .h v H' n'=>rest.run F (XI (pth d) d v T) H' n'⟩else noC
 | none=>⟨λF T H n=>match(ZA P o.op).run F T H n with
  | .no=>.bad
  | .p v=>rest.run F T H n
  | .q _ v=>rest.run F T H n
  | .new v x=>rest.run F T (Yd H n x) (Nat.succ n)
  | .h v H' n'=>rest.run F T H' n'⟩
noncomputable def Qoo(nt:Nat)(dst:Option Nat)(rest:CS):CS:=match dst with
 | some d=>bif Nat.blt d nt then⟨λF T H n=>rest.run F (XI (pth d) d undef T) H n⟩else noC
 | none=>rest
noncomputable def Qav(P:Program)(nt:Nat)(all:Array Oper):List Oper->CS
 | []=>⟨λ_ T H n=>.nm T H n⟩
 | o::l=>match o.guard with
  | none=>cOn P nt o (Qav P nt all l)
  | some (j,want)=>match(all[j]?).bind (·.dst)with
   | some dj=>⟨λF T H n=>match Ye (pth dj) dj T with
    | some (.bool b)=>Bool.rec ((Qoo nt o.dst (Qav P nt all l)).run F T H n) ((cOn P nt o (Qav P nt all l)).run F T H n) (b==want)
    | some (.tuple ⟨[]⟩)=>(match o.dst with
     | some _=>(Qoo nt o.dst (Qav P nt all l)).run F T H n
     | none=>.bad)
    | _=>.bad⟩
   | none=>noC
structure St where
 T:Tr Value
 H:Hp
 n:Nat
structure StOk(r0:Rho)(w0:World)(ρ:Rho)(st:St)(L':Qa)(As:List HA):Prop where
 le:r0.le ρ
 sr:SR ρ (en st.T) L'
 hp:HM ρ st.H As
 fr:QB ρ st.n
theorem Qh3{T:Tr Value}{d:Nat}{v:Value}:∀t x,en (XI (pth d) d v T) t=some x->(t=d/\x=v)\/(t≠d/\en T t=some x):=by grind[en,YK,Yv]
theorem SR.set{ρ:Rho}{T:Tr Value}{L':Qa}{d:Nat}{v u:Value}(e:SR ρ (en T) L')(hu:den ρ v=some u):SR ρ (en (XI (pth d) d v T)) ((d,u)::L'):=e.put hu Qh3
def Qf0(r0:Rho)(w0:World)(ρ:Rho)(st:St)(K:Qa->(World->Prop)->Prop):Prop:=
 ∀ρ' L2 As2,ρ.le ρ'->StOk r0 w0 ρ' st L2 As2->K L2 (HS w0 [] As2)
theorem Qf0.mono{r0:Rho}{w0:World}{ρ ρ':Rho}{st:St}{K:Qa->(World->Prop)->Prop}(h:ρ.le ρ')(ht:Qf0 r0 w0 ρ st K):Qf0 r0 w0 ρ' st K:=λρ2 L2 As2 h2 hs=>ht ρ2 L2 As2 (Rho.le_trans h h2) hs
def QR(r0:Rho)(w0:World)(ρ:Rho)(X:Ctx)(k:List KI):Rs->Prop
 | .bad=>False
 | .nm T H n=>Qf0 r0 w0 ρ ⟨T,H,n⟩ (S X k)
 | .ex i T H n=>Qf0 r0 w0 ρ ⟨T,H,n⟩ (SE X (.exit i) k)
 | .rt T H n=>Qf0 r0 w0 ρ ⟨T,H,n⟩ (SE X .ret k)
theorem QR.mono{r0:Rho}{w0:World}{ρ ρ':Rho}{X:Ctx}{k:List KI}(h:ρ.le ρ'):∀{r:Rs},QR r0 w0 ρ X k r->QR r0 w0 ρ' X k r
 | .bad,ht=>ht.elim
 | .nm _ _ _,ht=>Qf0.mono h ht
 | .ex _ _ _ _,ht=>Qf0.mono h ht
 | .rt _ _ _,ht=>Qf0.mono h ht
theorem CallOk.fok{P:Program}{r0:Rho}{F:CallF}(h:CallOk P r0 F):True:=trivial
section
variable{P:Program}{r0:Rho}{w0:World}{F:CallF}{X:Ctx}{k:List KI}{all:Array Oper}
def QpV(w0:World)(ρ:Rho)(H:Hp)(n:Nat):Ans->Value->(World->Prop)->Prop
 | .p v=>Out w0 ρ v H n
 | .q v=>Out w0 ρ v H n
 | .h v H n=>Out w0 ρ v H n
theorem Qrs{o:Oper}{L':Qa}{ρ:Rho}{st:St}{As:List HA}{a:Ans}(h:ZQ P o L' w0 ρ st.H st.n As a)(hp:HM ρ st.H As)(hf:QB ρ st.n):OpT P o L' (HS w0 [] As) (QpV w0 ρ st.H st.n a):=by
 cases a with
 | p v=>obtain⟨u,h1,h2⟩:=h;exact OpT.of_p h1 h2 hp hf
 | q v=>obtain⟨u,h1,h2⟩:=h;exact OpT.of_q h1 h2 hp hf
 | h v H n=>exact h
theorem QmH(hF:CallOk P r0 F)(hP:X.P=P){dst:Option Nat}{op:Op}{ty:TypeId}{pos:String}{aft:Array Edge}{gd:Option (Nat×Bool)}{rest:CS}{l:List Oper}{T:Tr Value}{H:Hp}{n:Nat}{ρ:Rho}{L':Qa}{As:List HA}
  (ih:∀T H n ρ L' As,QR r0 w0 ρ X k (rest.run F T H n)->StOk r0 w0 ρ ⟨T,H,n⟩ L' As->O X all l k L' (HS w0 [] As))(ht:QR r0 w0 ρ X k ((cOn P X.n ⟨dst,op,ty,pos,aft,gd⟩ rest).run F T H n))(hs:StOk r0 w0 ρ ⟨T,H,n⟩ L' As) :
  O X all (⟨dst,op,ty,pos,aft,none⟩::l) k L' (HS w0 [] As):=by
 have key:∀a v(H':Hp)(n':Nat),Q1 P (en T) H n F op=some a->QpV w0 ρ H n a=Out w0 ρ v H' n'->(match dst with
   | some d=>Nat.blt d X.n=true/\QR r0 w0 ρ X k (rest.run F (XI (pth d) d v T) H' n')
   | none=>QR r0 w0 ρ X k (rest.run F T H' n'))->O X all (⟨dst,op,ty,pos,aft,none⟩::l) k L' (HS w0 [] As):=by
  intro a v H' n' h1 h2 h3;have ha:=Zj (w0:=w0) (L':=L') (o:=⟨dst,op,ty,pos,aft,none⟩) hF hs.le rfl hs.sr hs.hp hs.fr h1;have hT:OpT P _ L' _ (QpV w0 ρ H n a):=Qrs (st:=⟨T,H,n⟩) ha hs.hp hs.fr;rw[h2]at hT;obtain⟨G,V,Fg,C',hH,hK⟩:=hT;cases dst with
  | some d=>
   obtain⟨hd,h3⟩:=h3;refine o_h (by rw[hP];exact hH) hd λg hg=>?_;obtain⟨ρ',As',g1,g2,g3,g4,g5⟩:=hK g hg;exact Qbg g5 (ih _ _ _ ρ' _ As' (h3.mono g1) ⟨Rho.le_trans hs.le g1,(hs.sr.mono g1).set g3,g4,g2⟩)
  | none=>
   refine ZG (by rw[hP];exact hH) λg hg=>?_;obtain⟨ρ',As',g1,g2,g3,g4,g5⟩:=hK g hg;exact Qbg g5 (ih _ _ _ ρ' _ As' (h3.mono g1) ⟨Rho.le_trans hs.le g1,hs.sr.mono g1,g4,g2⟩)
 have hc:=Qbk P op F hF.fok T H n;cases dst with
 | some d=>
  simp only[cOn]at ht;cases hb:Nat.blt d X.n with
  | false=>rw[hb]at ht;exact ht.elim
  | true=>
   rw[hb]at ht;simp only[cond_true]at ht;cases hr:(ZA P op).run F T H n with
   | no=>rw[hr]at ht;exact ht.elim
   | p v=>rw[hr]at hc ht;exact key _ v H n hc rfl ⟨hb,ht⟩
   | q m v=>rw[hr]at hc ht;exact key _ v H n (hc.1 H λ_ _=>rfl) rfl ⟨hb,ht⟩
   | new v x=>rw[hr]at hc ht;exact key _ v (Yd H n x) (n+1) hc rfl ⟨hb,ht⟩
   | h v H' n'=>rw[hr]at hc ht;exact key _ v H' n' hc rfl ⟨hb,ht⟩
 | none=>
  simp only[cOn]at ht;cases hr:(ZA P op).run F T H n with
  | no=>rw[hr]at ht;exact ht.elim
  | p v=>rw[hr]at hc ht;exact key _ v H n hc rfl ht
  | q m v=>rw[hr]at hc ht;exact key _ v H n (hc.1 H λ_ _=>rfl) rfl ht
  | new v x=>rw[hr]at hc ht;exact key _ v (Yd H n x) (n+1) hc rfl ht
  | h v H' n'=>rw[hr]at hc ht;exact key _ v H' n' hc rfl ht
theorem Qbr{ρ:Rho}:den ρ undef=some undef:=rfl
theorem Qd1(hF:CallOk P r0 F)(hP:X.P=P):∀(l:List Oper)(T:Tr Value)(H:Hp)(n:Nat)(ρ:Rho)(L':Qa)(As:List HA),QR r0 w0 ρ X k ((Qav P X.n all l).run F T H n)->StOk r0 w0 ρ ⟨T,H,n⟩ L' As->O X all l k L' (HS w0 [] As)
 | [],T,H,n,ρ,L',As,ht,hs=>Qi1 (ht ρ L' As ρ.le_refl hs)
 | ⟨dst,op,ty,pos,aft,guard⟩::l,T,H,n,ρ,L',As,ht,hs=>by
  have ih:=Qd1 hF hP l;cases guard with
  | none=>exact QmH hF hP ih ht hs
  | some jw=>
   obtain⟨j,want⟩:=jw;simp only[Qav]at ht;split at ht
   ·rename_i dj hj;simp only[]at ht;split at ht
    ·rename_i b hb;obtain⟨u,e1,e2⟩:=hs.sr.get (show en T dj=_ from hb);injection e2 with e2
     subst e2;cases hw:b==want with
     | true=>
      rw[hw]at ht
      grind[o_on,QmH]
     | false=>
      rw[hw]at ht;have hw':b= !want:=by cases b<;>cases want<;>simp_all
      simp only[Qoo]at ht;split at ht
      ·rename_i d;cases hd:Nat.blt d X.n with
       | false=>rw[hd]at ht;exact ht.elim
       | true=>
        rw[hd]at ht;exact Qlk dj b hj e1 hw' hd (ih _ _ _ ρ _ As ht ⟨hs.le,hs.sr.set Qbr,hs.hp,hs.fr⟩)
      grind[Qiu]
    ·rename_i hb;obtain⟨u,e1,e2⟩:=hs.sr.get (show en T dj=_ from hb);injection e2 with e2
     subst e2;split at ht
     ·rename_i d;simp only[Qoo]at ht;cases hd:Nat.blt d X.n with
      | false=>rw[hd]at ht;exact ht.elim
      | true=>
       rw[hd]at ht;exact QkM dj hj e1 hd (ih _ _ _ ρ _ As ht ⟨hs.le,hs.sr.set Qbr,hs.hp,hs.fr⟩)
     ·exact ht.elim
    ·exact ht.elim
   ·exact ht.elim
end
end Ev
end Gx
namespace Gx
open Go Go.RowKit
def Qrv(fid:FuncId)(tmps:Array Value)(ps:Array Tmp)(assign body:Code)(D:Nat):Option Nat->Obj
 | none=>.loop (rdy fid tmps ps assign body D)
 | some id=>.loop {rdy fid tmps ps assign body D with state:=.done,pending:=some (.exit id)}
section
variable{X:Ctx}{k:List KI}{L:Qa}{w0:World}{M:List Nat}{As As':List HA}
def rngK(k:List KI):Option Nat->List KI
 | none=>k
 | some id=>.c (.exit id)::k
theorem Qm7{g:Operand}{ps:Array Tmp}{assign body:Code}{gf:FuncId}{fa lb:Array Value}{G:Type}{Bs:G->List HA}{jmp:G->Option Nat}(hrd:X.rd=none)(hdf:X.df=[])(hg:ev L g=some (.func (.func gf) fa lb))(hfn:QJ X.P gf=true)
  (hit:∀(fid:FuncId)(D l:Nat)(a:Act)(w1:World)(ob:Obj),ob=.loop (rdy fid a.tmps ps assign body D)->FR X.n [] L a->HS w0 M (.obj l ob::.obj D (.deferred (some []))::As) w1 ->
   Calls X.P gf (fa++ #[.func (.yield l) #[] #[]]++lb) w1 λe w2=>(∃v,e=.returned v)/\∃x,HS w0 M (.obj l (Qrv fid a.tmps ps assign body D (jmp x))::.obj D (.deferred (some []))::Bs x) w2)
  (next:∀D x,S {X with df:=[D]} (rngK k (jmp x)) L (HS w0 M (.obj D (.deferred (some []))::Bs x))):S X (.c (.rangeFunc g ps assign body)::k) L (HS w0 M As):=by
 intro a w ha hw;have ha0:FR X.n [] L a:=by rw[<-hdf];exact ha
 refine wpIn_rangeFunc (F:=X.F) (n:=0) λfid _=>?_;have hro:X.F.round=none:=hrd;rw[hro];have hw1:=(hw.allocObj (.deferred (some []))).allocObj (.loop (rdy fid a.tmps ps assign body w.heap.size));rw[World.size_alloc]at hw1;have hen:=run_enterLoop_outer (P:=X.P) (w:=w) fid a.tmps ps assign body;obtain⟨W1,hW1⟩:∃W1,(w.alloc (.deferred (some []))).alloc (.loop (rdy fid a.tmps ps assign body w.heap.size))=W1:=⟨_,rfl⟩;rw[hW1]at hw1;rw[show(Loop.mk .ready none fid a.tmps ps assign body w.heap.size)=rdy fid a.tmps ps assign body w.heap.size from rfl,hW1]at hen
 refine⟨w.heap.size+1,[{target:=.collected w.heap.size,args:=#[]}],W1,{target:=.fn (.func gf) lb,args:=fa++ #[.func (.yield (w.heap.size+1)) #[] #[]]},W1,gf,
  fa++ #[.func (.yield (w.heap.size+1)) #[] #[]]++lb,W1,hen,?_,λ_ _=>trivial,?_,λh=>(by cases h),?_⟩
 ·simp only[resolve,ha.evl hg];simp[go_sem]
 ·simp[invoke,go_sem,Qct hfn]
 ·refine CallsIn.mono (X.callsIn (hit fid _ _ a _ _ rfl ha0 hw1)) λe w2 he=>?_;obtain⟨⟨v,rfl⟩,x,hx⟩:=he;have h3:=next w.heap.size x {a with defers:=[{target:=.collected w.heap.size,args:=#[]}]++a.defers}
  have hfr:FR X.n [w.heap.size] L {a with defers:=[{target:=.collected w.heap.size,args:=#[]}]++a.defers}:=⟨by show _++a.defers=_;rw[ha0.defers];rfl,ha0.size,ha0.slot⟩;cases hj:jmp x with
  | none=>
   rw[hj]at hx h3;refine⟨none,_,run_endLoop (hx.obj_get .here) (by simp[rdy]),?_⟩;have h4:=h3 _ hfr (hx.putObj .here (.loop {rdy fid a.tmps ps assign body w.heap.size with state:=.exhausted})).tail;rw[Qb9]at h4;exact h4
  | some id=>
   rw[hj]at hx h3;refine⟨some (.exit id),_,run_endLoop (hx.obj_get .here) (by simp),?_⟩;have h4:=h3 _ hfr (hx.putObj .here (.loop {rdy fid a.tmps ps assign body w.heap.size with state:=.exhausted,pending:=some (.exit id)})).tail;rw[Qb9]at h4;exact h4
end
end Gx
namespace Gx
namespace Ev
open Go Go.RowKit
noncomputable def QiB(b:SF)(m:Nat):SF:=Nat.rec (λ_ _ _ _=>.bad) (λ_ ih F T H n=>match b F T H n with
 | .nm T H n=>ih F T H n
 | r=>r) m
noncomputable def XD(P:Program)(nt m:Nat)(Dr:Nat->Array Oper->CS):Code->CS
 | .skip=>⟨λ_ T H n=>.nm T H n⟩
 | .label _=>⟨λ_ T H n=>.nm T H n⟩
 | .region _ ⟨ops⟩ false=>Qav P nt ⟨ops⟩ ops
 | .region _ ⟨ops⟩ true=>Dr nt ⟨ops⟩
 | .seq a b=>⟨λF T H n=>match(XD P nt m Dr a).run F T H n with
  | .nm T H n=>(XD P nt m Dr b).run F T H n
  | r=>r⟩
 | .cond x a b=>⟨λF T H n=>match(Xh x).run T with
  | some (.bool t)=>Bool.rec ((XD P nt m Dr b).run F T H n) ((XD P nt m Dr a).run F T H n) t
  | _=>.bad⟩
 | .block id b=>⟨λF T H n=>match(XD P nt m Dr b).run F T H n with
  | .ex i T H n=>bif Nat.beq i id then .nm T H n else .ex i T H n
  | r=>r⟩
 | .loop b=>⟨QiB (XD P nt m Dr b).run m⟩
 | .exit i=>⟨λ_ T H n=>.ex i T H n⟩
 | .ret=>⟨λ_ T H n=>.rt T H n⟩
 | _=>noC
def Qiv(P:Program)(Dr:Nat->Array Oper->CS):Prop:=∀(l:List Oper)(id:Nat)(r0:Rho)(w0:World)(X:Ctx)(k:List KI)(F:CallF)(T:Tr Value)(H:Hp)(n:Nat)(ρ:Rho)(L':Qa)(As:List HA),X.P=P->CallOk P r0 F->QR r0 w0 ρ X k ((Dr X.n ⟨l⟩).run F T H n)->StOk r0 w0 ρ ⟨T,H,n⟩ L' As->S X (.c (.region id ⟨l⟩ true)::k) L' (HS w0 [] As)
section
variable{P:Program}{r0:Rho}{w0:World}{X:Ctx}{m:Nat}{Dr:Nat->Array Oper->CS}
theorem Qaj{x:KI}{k:List KI}{L:Qa}{C:World->Prop}(h:SE X .ret k L C):SE X .ret (x::k) L C:=by
 rcases x with c|id|J
 ·exactλa w ha hw=>h a w ha hw
 ·exactλa w ha hw=>h a w ha hw
 ·exactλa w ha hw=>h a w ha hw
def reS(L:Qa):Qa->Qa
 | []=>[]
 | (t,_)::h=>match Qa.get L t with
  | some v=>(t,v)::reS L h
  | none=>reS L h
theorem Qf4(L:Qa):∀h,QaO L (reS L h)
 | []=>trivial
 | (t,x)::h=>by
  simp only[reS];split
  ·rename_i v hv;exact⟨hv,Qf4 L h⟩
  ·exact Qf4 L h
theorem Qi4{L:Qa}{t:Nat}{v:Value}(hv:Qa.get L t=some v):∀h x,Qa.get h t=some x->Qa.get (reS L h) t=some v
 | [],x,hx=>by cases hx
 | (k,y)::h,x,hx=>by
  simp only[Qa.get]at hx;simp only[reS];cases hb:Nat.beq k t with
  | true=>simp_all[Qa.get]
  | false=>
   rw[hb]at hx;have ih:=Qi4 hv h x hx
   grind[Qa.get]
theorem SR.clean{ρ:Rho}{L:Env}{L':Qa}(h:SR ρ L L'):SR ρ L (reS L' L')/\QaO L' (reS L' L'):=
 ⟨λt v hv=>by
  obtain⟨u,h1,h2⟩:=h t v hv;exact⟨u,Qi4 h1 _ _ h1,h2⟩,Qf4 _ _⟩
theorem QR.seq{c:Code}{k:List KI}{ρ:Rho}(b:CS){F:CallF}(ih:∀T H n ρ L' As,QR r0 w0 ρ X k (b.run F T H n)->StOk r0 w0 ρ ⟨T,H,n⟩ L' As->S X (.c c::k) L' (HS w0 [] As)):∀{r:Rs},QR r0 w0 ρ X k (match r with
  | .nm T H n=>b.run F T H n
  | r=>r)->QR r0 w0 ρ X (.c c::k) r
 | .bad,h=>h.elim
 | .nm T H n,h=>λρ2 L2 As2 hle hs2=>ih _ _ _ _ _ _ (QR.mono hle h) hs2
 | .ex i T H n,h=>λρ2 L2 As2 hle hs2=>QcV (h ρ2 L2 As2 hle hs2)
 | .rt T H n,h=>λρ2 L2 As2 hle hs2=>Qaj (h ρ2 L2 As2 hle hs2)
theorem QR.blk{id:Nat}{k:List KI}{ρ:Rho}:∀{r:Rs},QR r0 w0 ρ X k (match r with
  | .ex i T H n=>bif Nat.beq i id then .nm T H n else .ex i T H n
  | r=>r)->QR r0 w0 ρ X (.blk id::k) r
 | .bad,h=>h.elim
 | .nm T H n,h=>λρ2 L2 As2 hle hs2=>QoM (h ρ2 L2 As2 hle hs2)
 | .ex i T H n,h=>λρ2 L2 As2 hle hs2=>by
  simp only[]at h;cases hb:Nat.beq i id with
  | true=>
   rw[hb]at h;have hi:=Nat.eq_of_beq_eq_true hb;subst hi;exact QcC (h ρ2 L2 As2 hle hs2)
  | false=>
   rw[hb]at h;exact Qb8 hb (h ρ2 L2 As2 hle hs2)
 | .rt T H n,h=>λρ2 L2 As2 hle hs2=>Qaj (h ρ2 L2 As2 hle hs2)
theorem Qmr{c:Code}{b:SF}{F:CallF}{k:List KI}(ih:∀(k:List KI)T H n ρ L' As,QR r0 w0 ρ X k (b F T H n)->StOk r0 w0 ρ ⟨T,H,n⟩ L' As->S X (.c c::k) L' (HS w0 [] As)){m:Nat}{T:Tr Value}{H:Hp}{n:Nat}{ρ:Rho}{L':Qa}{As:List HA}
  (ht:QR r0 w0 ρ X k (QiB b m F T H n))(hs:StOk r0 w0 ρ ⟨T,H,n⟩ L' As):S X (.c (.loop c)::k) L' (HS w0 [] As):=by
 let α:={x:Nat×St×Rho×Qa×List HA // QR r0 w0 x.2.2.1 X k (QiB b x.1 F x.2.1.T x.2.1.H x.2.1.n)/\StOk r0 w0 x.2.2.1 x.2.1 x.2.2.2.1 x.2.2.2.2}
 obtain⟨f1,f2⟩:=hs.sr.clean;refine Qly (α:=α) (λx=>x.1.2.2.2.1) (λx=>HS w0 [] x.1.2.2.2.2) (λx=>x.1.1) ⟨(m,⟨T,H,n⟩,ρ,_,As),ht,⟨hs.le,f1,hs.hp,hs.fr⟩⟩ f2 (λ_ h=>h) ?_;rintro⟨⟨m1,⟨T1,H1,n1⟩,ρ1,L1,As1⟩,h1,h2⟩;cases m1 with
 | zero=>exact h1.elim
 | succ m1=>
  refine ih _ T1 H1 n1 ρ1 L1 As1 ?_ h2
  have h3:QR r0 w0 ρ1 X k (match b F T1 H1 n1 with
   | .nm T H n=>QiB b m1 F T H n
   | r=>r):=h1
  cases hr:b F T1 H1 n1 with
  | bad=>rw[hr]at h3;exact h3.elim
  | nm T2 H2 n2=>
   rw[hr]at h3;intro ρ2 L2 As2 hle hs2;obtain⟨g1,g2⟩:=hs2.sr.clean;exact Qpf (⟨(m1,⟨T2,H2,n2⟩,ρ2,_,As2),QR.mono hle h3,⟨hs2.le,g1,hs2.hp,hs2.fr⟩⟩:α) (Nat.lt_succ_self m1) g2 (λ_ h=>h)
  | ex i T2 H2 n2=>
   rw[hr]at h3;exactλρ2 L2 As2 hle hs2=>Qcl (h3 ρ2 L2 As2 hle hs2)
  | rt T2 H2 n2=>
   rw[hr]at h3;exactλρ2 L2 As2 hle hs2=>Qaj (h3 ρ2 L2 As2 hle hs2)
theorem QQ{F:CallF}(hF:CallOk P r0 F)(hD:Qiv P Dr)(hP:X.P=P):∀(c:Code)(k:List KI)(T:Tr Value)(H:Hp)(n:Nat)(ρ:Rho)(L':Qa)(As:List HA),QR r0 w0 ρ X k ((XD P X.n m Dr c).run F T H n)->StOk r0 w0 ρ ⟨T,H,n⟩ L' As->S X (.c c::k) L' (HS w0 [] As)
 | .skip,k,T,H,n,ρ,L',As,ht,hs=>QlN (ht ρ L' As ρ.le_refl hs)
 | .label _,k,T,H,n,ρ,L',As,ht,hs=>Qno (ht ρ L' As ρ.le_refl hs)
 | .region _ ⟨ops⟩ false,k,T,H,n,ρ,L',As,ht,hs=>Qgt (Qd1 hF hP ops T H n ρ L' As ht hs)
 | .region id ⟨ops⟩ true,k,T,H,n,ρ,L',As,ht,hs=>hD ops id r0 w0 X k F T H n ρ L' As hP hF ht hs
 | .seq a b,k,T,H,n,ρ,L',As,ht,hs=>QiN (QQ hF hD hP a _ T H n ρ L' As (QR.seq (XD P X.n m Dr b) (QQ hF hD hP b k) ht) hs)
 | .cond x a b,k,T,H,n,ρ,L',As,ht,hs=>by
  simp only[XD,QI]at ht;split at ht
  ·rename_i t hx;have hx':=Qe hs.sr hx rfl;cases t with
   | true=>exact QdE hx' (λ_=>QQ hF hD hP a k T H n ρ L' As ht hs) (λh=>by cases h)
   | false=>exact QdE hx' (λh=>by cases h) (λ_=>QQ hF hD hP b k T H n ρ L' As ht hs)
  ·exact ht.elim
 | .block id b,k,T,H,n,ρ,L',As,ht,hs=>Qfz (QQ hF hD hP b _ T H n ρ L' As (QR.blk ht) hs)
 | .loop b,k,T,H,n,ρ,L',As,ht,hs=>Qmr (λk=>QQ hF hD hP b k) ht hs
 | .exit i,k,T,H,n,ρ,L',As,ht,hs=>Qnb (ht ρ L' As ρ.le_refl hs)
 | .ret,k,T,H,n,ρ,L',As,ht,hs=>QoP (ht ρ L' As ρ.le_refl hs)
 | .rangeFunc _ _ _ _,_,_,_,_,_,_,_,ht,_=>ht.elim
 | .scope _,_,_,_,_,_,_,_,ht,_=>ht.elim
 | .goto _,_,_,_,_,_,_,_,ht,_=>ht.elim
 | .refuse _,_,_,_,_,_,_,_,ht,_=>ht.elim
end
def Rho.wx(ρ:Rho)(e:List HA):Rho:=⟨ρ.f,e⟩
theorem SR.wx{ρ:Rho}{L:Env}{L':Qa}(h:SR ρ L L')(e:List HA):SR (ρ.wx e) L L':=h
noncomputable def noY:Qlg:=λ_ _ _ _=>none
theorem QbV{P:Program}{r0:Rho}:YOk P r0 noY:=λ_ _ _ _ _ _ _ h=>by cases h
noncomputable def Qjm(nt:Nat):List Nat->List Value->Tr Value->Option (Tr Value)
 | [],[],T=>some T
 | p::ps,v::vs,T=>bif Nat.blt p nt then Qjm nt ps vs (XI (pth p) p v T)else none
 | _,_,_=>none
noncomputable def Qir(ca cb:SF)(nt:Nat)(ps:List Nat)(F:CallF)(T0:Tr Value)(nm:Nat):Qlg:=λk vs H n=>bif Nat.beq k nm then(match Qjm nt ps vs T0 with
 | some T1=>(match ca ⟨F.f,F.e,noY⟩ T1 H n with
  | .nm T2 H2 n2=>(match cb ⟨F.f,F.e,noY⟩ T2 H2 n2 with
   | .nm _ H3 n3=>some (.bool true,H3,n3)
   | _=>none)
  | _=>none)
 | none=>none)else none
noncomputable def Qeb(P:Program)(g:Operand)(ca cb:SF)(nt:Nat)(ps:List Nat):CS:=⟨λF T H n=>match(Xh g).run T with
 | some (.func (.func gf) ⟨la⟩ ⟨lb⟩)=>bif QJ P gf then(match F.f (Qir ca cb nt ps F T n) gf (la++(.func (.yield n) #[] #[]::lb)) H (Nat.succ n)with
  | some (_,H',n')=>.nm T H' n'
  | none=>.bad)else .bad
 | _=>.bad⟩
def Qf9:Code->Bool
 | .rangeFunc _ _ _ _=>true
 | .seq a b=>Qf9 a||Qf9 b
 | .cond _ a b=>Qf9 a||Qf9 b
 | .block _ b=>Qf9 b
 | _=>false
noncomputable def ZK(P:Program)(nt m:Nat)(Dr:Nat->Array Oper->CS):Code->CS
 | .seq a b=>Bool.rec (Bool.rec (XD P nt m Dr (.seq a b)) ⟨λF T H n=>match(XD P nt m Dr a).run F T H n with
   | .nm T H n=>(ZK P nt m Dr b).run F T H n
   | r=>r⟩ (Qf9 b)) ⟨λF T H n=>match(ZK P nt m Dr a).run F T H n with
   | .nm T H n=>(XD P nt m Dr b).run ⟨F.f,F.e,noY⟩ T H n
   | r=>r⟩ (Qf9 a)
 | .cond x a b=>⟨λF T H n=>match(Xh x).run T with
  | some (.bool t)=>Bool.rec ((ZK P nt m Dr b).run F T H n) ((ZK P nt m Dr a).run F T H n) t
  | _=>.bad⟩
 | .block id b=>⟨λF T H n=>match(ZK P nt m Dr b).run F T H n with
  | .ex i T H n=>bif Nat.beq i id then .nm T H n else .ex i T H n
  | r=>r⟩
 | .rangeFunc g ⟨ps⟩ assign body=>Qeb P g (XD P nt m Dr assign).run (XD P nt m Dr body).run nt ps
 | c=>XD P nt m Dr c
theorem Qi3{ρ:Rho}{n:Nat}:∀{ps:List Nat}{vs us:List Value}{T T1:Tr Value}{L:Qa}{t:Array Value},Qjm n ps vs T=some T1->Qq (den ρ) vs=some us->SR ρ (en T) L->FR n [] L {tmps:=t,defers:=[]} ->
  ∃L1,SR ρ (en T1) L1/\FR n [] L1 {tmps:=(ps.zip us).foldl (λt(p,v)=>t.setIfInBounds p v) t,defers:=[]}/\us.length=ps.length
 | [],[],us,T,T1,L,t,h,hm,hs,hf=>by
  injection h with h
  cases hm;subst h;exact⟨L,hs,hf,rfl⟩
 | p::ps,v::vs,us,T,T1,L,t,h,hm,hs,hf=>by
  simp only[Qjm]at h;obtain⟨hb,h⟩:=bif_in h;simp only[Qq]at hm;split at hm
  ·rename_i u us' h1 h2;injection hm with hm
   subst hm;have hf1:=hf.put p u hb;obtain⟨L1,g1,g2,g3⟩:=Qi3 (t:=t.setIfInBounds p u) h h2 (hs.set h1) ⟨rfl,hf1.size,hf1.slot⟩;exact⟨L1,g1,g2,by simp[g3]⟩
  ·cases hm
 | [],_::_,_,_,_,_,_,h,_,_,_=>by cases h
 | _::_,[],_,_,_,_,_,h,_,_,_=>by cases h
theorem QmN{α:Type}{P:Program}{fn:Func}{n l D:Nat}{fid:FuncId}{tmps:Array Value}{ps:Array Tmp}{assign body:Code}{args:Array Value}{L0:Qa}{LJ:α->Qa}{AJ:α->List HA}{w0 W:World}{As:List HA}{Rr:Ending->World->Prop}
  (hC:HS w0 [] (.obj l (.loop (rdy fid tmps ps assign body D))::As) W)(hps:args.size=ps.size)(hf:FR n [] L0 {tmps:=(ps.zip args).foldl (λt(p,v)=>t.setIfInBounds p v) tmps,defers:=[]})
  (h1:S {P:=P,fn:=fn,n:=n,R:=λ_ _=>False,rd:=some l} [.c assign,.join (At n [] LJ (λx=>HS w0 [] (.obj l (.loop (rdy fid tmps ps assign body D))::AJ x)))] L0 (HS w0 [] (.obj l (.loop (rdy fid tmps ps assign body D))::As)))
  (h2:∀x,S {P:=P,fn:=fn,n:=n,R:=Rr,rd:=some l} [.c body] (LJ x) (HS w0 [] (.obj l (.loop {rdy fid tmps ps assign body D with state:=.busy})::AJ x))):QfB P l args W Rr:=by
 refine⟨fid,_,assign,body,run_yield (hC.obj_get .here) hps,roundIn_of_wpIn trivial ?_⟩;refine wpIn_mono (h1 _ W hf hC) λe a w he=>?_;cases e with
 | normal=>
  obtain⟨x,hfr,hc⟩:=he;exact⟨_,run_beginRound (hc.obj_get .here) rfl,h2 x _ _ hfr (hc.putObj .here _)⟩
 | ret=>obtain⟨v,w',_,hx⟩:=he;exact hx
 | exit id=>obtain⟨v,w',_,hx⟩:=he;exact hx
 | goto t=>obtain⟨v,w',_,hx⟩:=he;exact hx
 | panic ch=>exact he
 | outgrown=>exact he
section
variable{P:Program}{r0:Rho}{w0:World}{X:Ctx}{m:Nat}{Dr:Nat->Array Oper->CS}
theorem HM.split{ρ:Rho}{H:Hp}{As:List HA}(h:HM ρ H As):∃Bs,As=Bs++ρ.ex/\∀e,HM (ρ.wx e) H (Bs++e):=by
 obtain⟨G,Bs,h1,h2,h3⟩:=h;exact⟨Bs,h3,λe=>⟨G,Bs,h1,h2,rfl⟩⟩
theorem QjX{fn:Func}{nt l D:Nat}{fid:FuncId}{tmps:Array Value}{ps:List Nat}{assign body:Code}{T0:Tr Value}{nm d:Nat}{r1:Rho}{rest:List HA}{L:Qa}{F:CallF}(hF:∀r,CallOk P r ⟨F.f,F.e,noY⟩)(hD:Qiv P Dr)
  (hn:r1 nm=some (l,d))(hex:r1.ex=.obj l (.loop (rdy fid tmps ⟨ps⟩ assign body D))::rest)(hf:FR nt [] L {tmps:=tmps,defers:=[]})(hs:SR r1 (en T0) L):YOk P r1 (Qir (XD P nt m Dr assign).run (XD P nt m Dr body).run nt ps F T0 nm):=by
 intro k vs H n v H' n' h w0 ρ us As hle hus hH hfr;unfold Qir at h;have hk:Nat.beq k nm=true:=by grind
 rw[hk]at h;simp only[cond_true]at h;have hk:=Nat.eq_of_beq_eq_true hk;subst hk;refine⟨(l,d),hle.1 _ _ hn,?_⟩;split at h
 ·rename_i T1 hb;split at h
  ·rename_i T2 H2 n2 ha;split at h
   ·rename_i T3 H3 n3 hc;injection h with h
    injection h with e1 e2
    injection e2 with e2 e3
    subst e1 e2 e3;obtain⟨L1,g1,g2,g3⟩:=Qi3 hb hus (hs.mono hle) hf;intro w hw;have hρe:ρ.ex=.obj l (.loop (rdy fid tmps ⟨ps⟩ assign body D))::rest:=by rw[hle.2,hex]
    obtain⟨Bs,hAs,hBs⟩:=hH.split
    let α:={x:Rho×List HA×Qa×List HA // ρ.le x.1/\StOk x.1 w0 x.1 ⟨T2,H2,n2⟩ x.2.2.1 x.2.1/\x.2.1=x.2.2.2++x.1.ex}
    refine QmN (fn:=fn) (n:=nt) (α:=α) (L0:=L1) (As:=Bs++rest) (LJ:=λx=>x.1.2.2.1) (AJ:=λx=>x.1.2.2.2++rest) (hw.perm (by rw[hAs,hρe];exact List.perm_middle)) (by simp[g3]) (by simpa using g2) ?_ ?_
    ·have hA:=QQ (r0:=ρ) (w0:=w0) (X:={P:=P,fn:=fn,n:=nt,R:=λ_ _=>False,rd:=some l}) (m:=m) (hF ρ) hD rfl assign [.join (At nt [] (λx:α=>x.1.2.2.1) (λx=>HS w0 [] (.obj l (.loop (rdy fid tmps ⟨ps⟩ assign body D))::(x.1.2.2.2++rest))))] T1 H n ρ L1 As (by
      rw[ha];intro ρ2 L2 As2 hle2 hs2;obtain⟨Bs2,k1,k2⟩:=hs2.hp.split;intro a9 w9 ha9 hw9
      have hpm:As2.Perm (.obj l (.loop (rdy fid tmps ⟨ps⟩ assign body D))::(Bs2++rest)):=by
       rw[k1,hle2.2,hρe];exact List.perm_middle
      exact⟨(⟨(ρ2,As2,L2,Bs2),hle2,⟨ρ2.le_refl,hs2.sr,hs2.hp,hs2.fr⟩,k1⟩:α),ha9,hw9.perm hpm⟩) ⟨ρ.le_refl,g1,hH,hfr⟩
     intro a9 w9 ha9 hw9;exact hA a9 w9 ha9 (hw9.perm (by rw[hAs,hρe];exact List.perm_middle.symm))
    ·rintro⟨⟨ρ2,As2,L2,Bs2⟩,q1,q2,q3⟩;simp only[]at q1 q2 q3;have hρ2:ρ2.ex=.obj l (.loop (rdy fid tmps ⟨ps⟩ assign body D))::rest:=by rw[q1.2,hρe]
     obtain⟨Bs2',k1,k2⟩:=q2.hp.split;have hbb:Bs2'=Bs2:=List.append_cancel_right (k1.symm.trans q3);subst hbb
     have hB:=QQ (r0:=ρ2.wx (.obj l (.loop {rdy fid tmps ⟨ps⟩ assign body D with state:=.busy})::rest)) (w0:=w0) (X:={P:=P,fn:=fn,n:=nt,R:=QiG w0 ρ (.bool true) H3 n3,rd:=some l}) (m:=m) (hF _) hD rfl body [] T2 H2 n2 (ρ2.wx (.obj l (.loop {rdy fid tmps ⟨ps⟩ assign body D with state:=.busy})::rest)) L2 (Bs2'++(.obj l (.loop {rdy fid tmps ⟨ps⟩ assign body D with state:=.busy})::rest)) (by
      rw[hc];intro ρ3 L3 As3 hle3 hs3;obtain⟨Bs3,j1,j2⟩:=hs3.hp.split;have hρ3:ρ3.ex=.obj l (.loop {rdy fid tmps ⟨ps⟩ assign body D with state:=.busy})::rest:=hle3.2;refine QmM (As':=Bs3++rest) rfl (by rw[j1,hρ3];exact List.perm_middle) λw9 hw9=>?_;refine⟨ρ3.wx (.obj l (.loop (rdy fid tmps ⟨ps⟩ assign body D))::rest),Bs3++(.obj l (.loop (rdy fid tmps ⟨ps⟩ assign body D))::rest),.bool true,⟨λn9 x9 h9=>hle3.1 _ _ (q1.1 _ _ h9),by rw[hρe];rfl⟩,hs3.fr,rfl,j2 _,rfl,hw9.perm List.perm_middle.symm⟩) ⟨Rho.le_refl _,q2.sr,k2 _,q2.fr⟩
     intro a9 w9 ha9 hw9;exact hB a9 w9 ha9 (hw9.perm List.perm_middle.symm)
   ·cases h
  ·cases h
 ·cases h
def RB(w0:World)(ρ:Rho)(X:Ctx)(k:List KI)(r:Rs):Prop:=∀(D:Nat)(ρ1:Rho),(∀n x,ρ n=some x->ρ1 n=some x)->ρ1.ex=.obj D (.deferred (some []))::ρ.ex->QR ρ1 w0 ρ1 {X with df:=[D]} k r
theorem RB.mono{ρ ρ':Rho}{k:List KI}{r:Rs}(h:RB w0 ρ X k r)(hle:ρ.le ρ'):RB w0 ρ' X k r:=λD ρ1 h1 h2=>h D ρ1 (λn x hx=>h1 n x (hle.1 n x hx)) (by rw[h2,hle.2])
theorem QjL{F:CallF}(hF:CallOk P r0 F)(hD:Qiv P Dr)(hP:X.P=P)(hrd:X.rd=none)(hdf:X.df=[]){g:Operand}{ps:List Nat}{assign body:Code}{k:List KI}{T:Tr Value}{H:Hp}{n:Nat}{ρ:Rho}{L':Qa}{As:List HA}
  (hB:RB w0 ρ X k ((Qeb P g (XD P X.n m Dr assign).run (XD P X.n m Dr body).run X.n ps).run F T H n))(hB0:(Qeb P g (XD P X.n m Dr assign).run (XD P X.n m Dr body).run X.n ps).run F T H n≠ .bad)(hs:StOk r0 w0 ρ ⟨T,H,n⟩ L' As):S X (.c (.rangeFunc g ⟨ps⟩ assign body)::k) L' (HS w0 [] As):=by
 subst hP;have hF0:∀r,CallOk X.P r ⟨F.f,F.e,noY⟩:=λr=>⟨hF.f,hF.e,QbV⟩;unfold Qeb at hB hB0;simp only[QI]at hB hB0;split at hB0
 ·rename_i gf la lb hx;rw[hx]at hB;simp only[]at hB;cases hfn:QJ X.P gf with
  | false=>rw[hfn]at hB0;exact absurd rfl hB0
  | true=>
   rw[hfn]at hB hB0;simp only[cond_true]at hB hB0;split at hB0
   ·rename_i v H' n' hr;rw[hr]at hB;simp only[]at hB;obtain⟨u,e1,e2⟩:=Yx hs.sr hx;simp only[den,Q0,QE,QbL]at e2;split at e2
    ·rename_i f' a' lb' g1 g2 g3;injection g1 with g1
     injection e2 with e2
     subst g1 e2;obtain⟨Bs0,hAs,hBs0⟩:=hs.hp.split;have hAs:As=Bs0++ρ.ex:=hAs
     let G:={x:(Nat->Option (Nat×Nat))×List HA // (∀n y,ρ n=some y->x.1 n=some y)/\(∀k,n'<=k->x.1 k=none)/\∃Bs,x.2=Bs++ρ.ex/\∀e,HM ⟨x.1,e⟩ H' (Bs++e)}
     refine Qm7 (gf:=gf) (fa:=a'.toArray) (lb:=lb'.toArray) (G:=G) (Bs:=λx=>x.1.2) (jmp:=λ_=>none) hrd hdf e1 hfn ?_ ?_
     ·intro fid D l a w1 ob hob hfr hw1;subst hob
      let r1:Rho:=⟨(ext ρ n (l,0)).f,.obj l (.loop (rdy fid a.tmps ⟨ps⟩ assign body D))::.obj D (.deferred (some []))::ρ.ex⟩
      have hle1:∀n y,ρ n=some y->r1 n=some y:=(Qem hs.fr (l,0)).1;have hr1n:r1 n=some (l,0):=Qaw ρ n (l,0);have hmono:∀{x y:Value},Xn ρ x=some y->den r1 x=some y:=λ{x y}hx=>Z2 (ρ:=ρ.wx r1.ex) (ρ':=r1) ⟨hle1,rfl⟩ x y (Qde (Qb4 (QlD hx)));have hY:=QjX (P:=X.P) (fn:=X.fn) (nt:=X.n) (m:=m) (Dr:=Dr) (l:=l) (D:=D) (fid:=fid) (tmps:=a.tmps) (ps:=ps) (assign:=assign) (body:=body) (T0:=T) (nm:=n) (d:=0) (r1:=r1) (L:=L') hF0 hD hr1n rfl ⟨rfl,hfr.size,hfr.slot⟩ (SR.mono (ρ:=ρ.wx r1.ex) ⟨hle1,rfl⟩ hs.sr);have hM1:HM r1 H (Bs0++r1.ex):=HM.mono (ρ:=ρ.wx r1.ex) ⟨hle1,rfl⟩ (hBs0 r1.ex)
      have hcall:=hF.f r1 _ hY gf _ H _ v H' n' hr w0 r1 (a'++(.func (.yield l) #[] #[]::lb')) (Bs0++r1.ex) r1.le_refl (by
       refine Ym (Q3 (λx y hx=>hmono hx) g2) ?_;simp only[Qq,den,Q0,QE,QbL,hr1n];have:=Q3 (λx y hx=>hmono hx) g3;rw[this]) hM1 (Qac hs.fr (l,0)) w1 (hw1.perm (by
       rw[hAs];show(_::_::(Bs0++ρ.ex)).Perm (Bs0++(_::_::ρ.ex));exact(List.perm_middle.trans (List.perm_middle.cons _)).symm))
      have hargs:(a'++(.func (.yield l) #[] #[]::lb')).toArray=a'.toArray++ #[Value.func (.yield l) #[] #[]]++lb'.toArray:=by simp
      rw[hargs]at hcall;refine Calls.mono hcall λe w2⟨ρ',As',u',h1,h2,h3,h4,h5,h6⟩=>⟨⟨u',h5⟩,?_⟩;obtain⟨Bs',j1,j2⟩:=h4.split
      have hpm:As'.Perm (.obj l (.loop (rdy fid a.tmps ⟨ps⟩ assign body D))::.obj D (.deferred (some []))::(Bs'++ρ.ex)):=by
       rw[j1,h1.2];exact List.perm_middle.trans (List.perm_middle.cons _)
      exact⟨⟨(ρ'.f,Bs'++ρ.ex),λn9 y9 h9=>h1.1 _ _ (hle1 _ _ h9),h2,Bs',rfl,λe=>j2 e⟩,h6.perm hpm⟩
     ·rintro D ⟨⟨f9,As9⟩,q1,q2,Bs9,q3,q4⟩;simp only[]at q1 q2 q3 q4;have:=hB D ⟨f9,.obj D (.deferred (some []))::ρ.ex⟩ q1 rfl ⟨f9,.obj D (.deferred (some []))::ρ.ex⟩ L' (Bs9++(.obj D (.deferred (some []))::ρ.ex)) (Rho.le_refl _) ⟨Rho.le_refl _,SR.mono (ρ:=ρ.wx (.obj D (.deferred (some []))::ρ.ex)) (ρ':=⟨f9,.obj D (.deferred (some []))::ρ.ex⟩) ⟨q1,rfl⟩ hs.sr,q4 _,q2⟩;intro a9 w9 ha9 hw9;refine this a9 w9 ha9 (hw9.perm ?_);show(_::As9).Perm _;rw[q3];exact List.perm_middle.symm
    ·cases e2
   grind
 grind
theorem Z1{F:CallF}(hF:CallOk P r0 F)(hD:Qiv P Dr)(hP:X.P=P)(hrd:X.rd=none)(hdf:X.df=[]):∀(c:Code)(k:List KI)(T:Tr Value)(H:Hp)(n:Nat)(ρ:Rho)(L':Qa)(As:List HA),QR r0 w0 ρ X k ((ZK P X.n m Dr c).run F T H n)->RB w0 ρ X k ((ZK P X.n m Dr c).run F T H n)->StOk r0 w0 ρ ⟨T,H,n⟩ L' As->S X (.c c::k) L' (HS w0 [] As)
 | .seq a b,k,T,H,n,ρ,L',As,hA,hB,hs=>by
  have hF0:∀r,CallOk P r ⟨F.f,F.e,noY⟩:=λr=>⟨hF.f,hF.e,QbV⟩;cases ha:Qf9 a with
  | true=>
   simp only[ZK,ha]at hA hB;refine QiN (Z1 hF hD hP hrd hdf a (.c b::k) T H n ρ L' As ?_ ?_ hs)
   ·exact QR.seq (F:=F) ⟨λF T H n=>(XD P X.n m Dr b).run ⟨F.f,F.e,noY⟩ T H n⟩ (λT H n ρ L' As h1 h2=>QQ (m:=m) (hF0 r0) hD hP b k T H n ρ L' As h1 h2) hA
   ·intro D ρ1 h1 h2;exact QR.seq (F:=F) (X:={X with df:=[D]}) ⟨λF T H n=>(XD P X.n m Dr b).run ⟨F.f,F.e,noY⟩ T H n⟩ (λT H n ρ L' As h1 h2=>QQ (m:=m) (X:={X with df:=[D]}) (hF0 ρ1) hD hP b k T H n ρ L' As h1 h2) (hB D ρ1 h1 h2)
  | false=>
   cases hb:Qf9 b with
   | false=>
    simp only[ZK,ha,hb]at hA
    grind[QQ]
   | true=>
    simp only[ZK,ha,hb]at hA hB;refine QiN (QQ (m:=m) hF hD hP a (.c b::k) T H n ρ L' As ?_ hs);cases hr:(XD P X.n m Dr a).run F T H n with
    | bad=>rw[hr]at hA;exact hA.elim
    | nm T2 H2 n2=>
     rw[hr]at hA hB;exactλρ2 L2 As2 hle hs2=>Z1 hF hD hP hrd hdf b k T2 H2 n2 ρ2 L2 As2 (QR.mono hle hA) (RB.mono hB hle) hs2
    | ex i T2 H2 n2=>
     rw[hr]at hA;exactλρ2 L2 As2 hle hs2=>QcV (hA ρ2 L2 As2 hle hs2)
    | rt T2 H2 n2=>
     rw[hr]at hA;exactλρ2 L2 As2 hle hs2=>Qaj (hA ρ2 L2 As2 hle hs2)
 | .cond x a b,k,T,H,n,ρ,L',As,hA,hB,hs=>by
  simp only[ZK,QI]at hA hB;split at hA
  ·rename_i t hx;rw[hx]at hB;have hx':=Qe hs.sr hx rfl;cases t with
   | true=>exact QdE hx' (λ_=>Z1 hF hD hP hrd hdf a k T H n ρ L' As hA hB hs) (λh=>by cases h)
   | false=>exact QdE hx' (λh=>by cases h) (λ_=>Z1 hF hD hP hrd hdf b k T H n ρ L' As hA hB hs)
  ·exact hA.elim
 | .block id b,k,T,H,n,ρ,L',As,hA,hB,hs=>Qfz (Z1 hF hD hP hrd hdf b _ T H n ρ L' As (QR.blk hA) (λD ρ1 h1 h2=>QR.blk (hB D ρ1 h1 h2)) hs)
 | .rangeFunc g ⟨ps⟩ assign body,k,T,H,n,ρ,L',As,hA,hB,hs=>QjL hF hD hP hrd hdf hB (λe=>by
   have hA':QR r0 w0 ρ X k ((Qeb P g (XD P X.n m Dr assign).run (XD P X.n m Dr body).run X.n ps).run F T H n):=hA;rw[e]at hA';exact hA'.elim) hs
 | .skip,k,T,H,n,ρ,L',As,hA,hB,hs=>QQ hF hD hP _ k T H n ρ L' As hA hs
 | .label _,k,T,H,n,ρ,L',As,hA,hB,hs=>QQ hF hD hP _ k T H n ρ L' As hA hs
 | .region _ _ _,k,T,H,n,ρ,L',As,hA,hB,hs=>QQ hF hD hP _ k T H n ρ L' As hA hs
 | .loop _,k,T,H,n,ρ,L',As,hA,hB,hs=>QQ hF hD hP _ k T H n ρ L' As hA hs
 | .exit _,k,T,H,n,ρ,L',As,hA,hB,hs=>QQ hF hD hP _ k T H n ρ L' As hA hs
 | .ret,k,T,H,n,ρ,L',As,hA,hB,hs=>QQ hF hD hP _ k T H n ρ L' As hA hs
 | .scope _,k,T,H,n,ρ,L',As,hA,hB,hs=>QQ hF hD hP _ k T H n ρ L' As hA hs
 | .goto _,k,T,H,n,ρ,L',As,hA,hB,hs=>QQ hF hD hP _ k T H n ρ L' As hA hs
 | .refuse _,k,T,H,n,ρ,L',As,hA,hB,hs=>QQ hF hD hP _ k T H n ρ L' As hA hs
end
noncomputable def Qj5(P:Program):List ResultVar->Clo (Tr Value->Hp->Option (List Value))
 | []=>⟨λ_ _=>some []⟩
 | .tmp t::rs=>⟨λT H=>match Ye (pth t) t T with
  | some v=>(match(Qj5 P rs).run T H with
   | some vs=>bif Zd v then some (v::vs)else none
   | none=>none)
  | none=>none⟩
 | .cell at' t::rs=>⟨λT H=>match QeD P (en T) H t at' with
  | some v=>(match(Qj5 P rs).run T H with
   | some vs=>some (v::vs)
   | none=>none)
  | none=>none⟩
section
variable{P:Program}{ρ:Rho}{L':Qa}{T:Tr Value}{H:Hp}{As:List HA}
theorem QjE{v u:Value}(h:Zd v=true)(e:den ρ v=some u):Q0 ρ v=some u:=by
 cases v<;>first|exact e|(simp[Zd]at h)
theorem Qga(hs:SR ρ (en T) L')(hH:HM ρ H As):∀{rs:List ResultVar}{vs:List Value},(Qj5 P rs).run T H=some vs->∃us,RV P L' As rs us/\Qq (Q0 ρ) vs=some us
 | [],vs,h=>by cases h;exact⟨[],RV.nil,rfl⟩
 | .tmp t::rs,vs,h=>by
  simp only[Qj5]at h;split at h
  ·rename_i v h1;split at h
   ·rename_i vs' h2;obtain⟨hc,rfl⟩:=bif_some h;obtain⟨u,e1,e2⟩:=hs.get (show en T t=_ from h1);obtain⟨us,e3,e4⟩:=Qga hs hH h2
    grind[RV.tmp,Qq,QjE]
   ·cases h
  ·cases h
 | .cell at' t::rs,vs,h=>by
  simp only[Qj5]at h;split at h
  ·rename_i v h1;split at h
   ·rename_i vs' h2;injection h with h
    subst h;obtain⟨us,e3,e4⟩:=Qga hs hH h2;unfold QeD at h1;split at h1
    ·rename_i m i hx;split at h1
     ·rename_i r sz ag hg hz;obtain⟨b,d,cu,Rs,g1,g2,g3,g4,_,_⟩:=Xv hH hg;obtain⟨p,e1,e2⟩:=hs.get hx;simp only[den,Q0,QE,Xn,g1,Option.some.injEq]at e2;subst e2;cases ag with
      | true=>
       simp only[if_true]at h1;obtain⟨hb,rfl⟩:=bif_some h1;exact⟨_,RV.cell e1 hz g4 (by rw[QP g2];exact hb) e3,by simp only[Qq,Q0,List.toList_toArray,cut,Xb sz (X2 i g2),e4]⟩
      | false=>
       have h1':(bif Nat.beq sz 1 then r.cs[i]? else none)=some v:=by simpa using h1
       obtain⟨hb,h1'⟩:=bif_in h1';have hk:=Nat.eq_of_beq_eq_true hb;subst hk;obtain⟨u,f1,f2⟩:=Qaa g2 h1'
       grind[RV.cell1,Qq,Qb4]
     ·cases h1
    ·cases h1
   ·cases h
  ·cases h
theorem QlI:∀{vs us:List Value},Qq (Q0 ρ) vs=some us->den ρ (Qw vs)=some (Qw us)
 | [],us,h=>by cases h;rfl
 | [v],us,h=>by
  simp only[Qq]at h;split at h
  ·rename_i b m h1 h2;injection h2 with h2
   injection h with h
   subst h h2;exact Qde h1
  ·cases h
 | v::v'::vs,us,h=>by
  have hl:=QP h;obtain⟨u,u',us',rfl⟩:∃u u' us',us=u::u'::us':=by rcases us with _|⟨u,_|⟨u',us'⟩⟩<;>grind
  show den ρ (.tuple (v::v'::vs).toArray)=some (.tuple (u::u'::us').toArray)
  grind[den]
end
noncomputable def QlQ(i:Nat)(vs:List Value):Tr Value:=List.rec (λ_=>.lf) (λv _ ih i=>XI (pth i) i v (ih (Nat.succ i))) vs i
theorem QkD{ρ:Rho}:∀{vs us:List Value}(i:Nat),Qq (den ρ) vs=some us->SR ρ (en (QlQ i vs)) (QcF i us)
 | [],us,i,h=>λt v hv=>by
  have h':Ye (pth t) t (.lf:Tr Value)=some v:=hv;rw[Yp]at h';cases h'
 | v::vs,us,i,h=>by
  simp only[Qq]at h;split at h
  ·rename_i u m h1 h2;injection h with h
   subst h;exact(QkD (i+1) h2).set h1
  ·cases h
theorem Qoq{X:Ctx}{L:Qa}{w0:World}{As:List HA}{rs:List ResultVar}{vs:List Value}(hr:X.fn.results=rs.toArray)(hv:RV X.P L As rs vs)(h:∀w,HS w0 [] As w->X.R (.returned (Qw vs)) w)(hrd:X.rd=none)(hdf:X.df=[]):SE X .ret [] L (HS w0 [] As):=by
 intro a w ha hw;refine Qht hrd (ha.none hdf) (v:=Qw vs) ?_ (h w hw);have hm:=hv.run ha hw;rw[QbR hr,Array.mapM_eq_mapM_toList];simp only[Sem.run_bind,Sem.run_map,hm,Result.andThen_ok,Sem.run_pure]
 match vs with
 | []=>rfl
 | [v]=>rfl
 | u::v::vs=>simp[Qw]
theorem Qnq{X:Ctx}{L:Qa}{w0:World}{M:List Nat}{As As':List HA}{D:Nat}{rs:List ResultVar}{vs:List Value}(hr:X.fn.results=rs.toArray)(hp:QF As (.obj D (.deferred (some []))) As')(hv:RV X.P L As' rs vs)(h:∀w,HS w0 M As' w->X.R (.returned (Qw vs)) w)(hrd:X.rd=none)(hdf:X.df=[D]):SE X .ret [] L (HS w0 M As):=by
 intro a w ha hw;show(match X.rd with|none=>bodyPostM X.F 0 X.P X.fn X.R .ret a w|some l=>roundPost X.P l X.R .ret a w);rw[hrd];show LeavesInM X.F 0 X.P X.fn a.tmps X.R a.defers .returning w;rw[ha.defers,hdf];have h1:=(hw.putObj hp (.deferred none)).tail;refine⟨by simp,.inl ⟨D,_,rfl,run_takeDeferred (hw.obj_get hp),Qw vs,?_,h _ h1⟩⟩;have hm:=hv.run ha h1;rw[QbR hr,Array.mapM_eq_mapM_toList];simp only[Sem.run_bind,Sem.run_map,hm,Result.andThen_ok,Sem.run_pure]
 match vs with
 | []=>rfl
 | [v]=>rfl
 | u::v::vs=>simp[Qw]
noncomputable def Qfq(P:Program)(m:Nat)(Dr:Nat->Array Oper->CS)(g:FuncId):Clo (CallF->List Value->Hp->Nat->Option (Value×Hp×Nat)):=match P.funcs[g]? with
 | some fn=>match fn.body with
  | some b=>⟨λF vs H n=>bif Nat.ble vs.length fn.ntmps then(match(ZK P fn.ntmps m Dr b).run F (QlQ 0 vs) H n with
   | .rt T H n=>(match(Qj5 P fn.results.toList).run T H with
    | some rs=>some (Qw rs,H,n)
    | none=>none)
   | .nm T H n=>(match fn.results.toList with
    | []=>some (.tuple #[],H,n)
    | _=>none)
   | _=>none)else none⟩
  | none=>⟨λ_ _ _ _=>none⟩
 | none=>⟨λ_ _ _ _=>none⟩
theorem Qke{P:Program}{r0:Rho}{m:Nat}{Dr:Nat->Array Oper->CS}{F:CallF}(hF:CallOk P r0 F)(hD:Qiv P Dr):Qcp P r0 (λg=>(Qfq P m Dr g).run F):=by
 intro f vs H n v H' n' h w0 ρ us As hle0 hus hH hf w hw;simp only[Qfq]at h;split at h
 ·rename_i fn h1;split at h
  ·rename_i b h2;obtain⟨hc,h⟩:=bif_in h;have hle:Nat.ble us.length fn.ntmps=true:=by rw[QP hus];exact hc
   refine enter (args:=us) (C:=HS w0 [] As) h1 rfl h2 hle hw ?_;refine Z1 (m:=m) hF hD rfl rfl rfl b [] (QlQ 0 vs) H n ρ _ As ?_ ?_ ⟨hle0,QkD 0 hus,hH,hf⟩
   ·show QR r0 w0 ρ _ [] ((ZK P fn.ntmps m Dr b).run F (QlQ 0 vs) H n);split at h
    ·rename_i T2 H2 n2 hr;rw[hr];intro ρ2 L2 As2 hle2 hs2;split at h
     ·rename_i rs hrs;injection h with h
      injection h with e1 e2
      injection e2 with e2 e3
      subst e1 e2 e3;obtain⟨us2,g1,g2⟩:=Qga hs2.sr hs2.hp hrs;exact Qoq (rs:=fn.results.toList) (by simp) g1 (λw' hw'=>⟨ρ2,As2,Qw us2,hle2,hs2.fr,QlI g2,hs2.hp,rfl,hw'⟩) rfl rfl
     ·cases h
    ·rename_i T2 H2 n2 hr;rw[hr];intro ρ2 L2 As2 hle2 hs2;split at h
     ·rename_i hres;injection h with h
      injection h with e1 e2
      injection e2 with e2 e3
      subst e1 e2 e3;have hres':fn.results= #[]:=by rw[<-Array.toArray_toList (xs:=fn.results),hres]
      exact QkB hres' (λw' hw'=>⟨ρ2,As2,.tuple #[],hle2,hs2.fr,rfl,hs2.hp,rfl,hw'⟩) rfl rfl
     ·cases h
    ·cases h
   ·intro D ρ1 h1' h2';show QR ρ1 w0 ρ1 _ [] ((ZK P fn.ntmps m Dr b).run F (QlQ 0 vs) H n);split at h
    ·rename_i T2 H2 n2 hr;rw[hr];intro ρ2 L2 As2 hle2 hs2;split at h
     ·rename_i rs hrs;injection h with h
      injection h with e1 e2
      injection e2 with e2 e3
      subst e1 e2 e3;obtain⟨Bs,k1,k2⟩:=hs2.hp.split;have hex:ρ2.ex=.obj D (.deferred (some []))::ρ.ex:=hle2.2.trans h2';have hpm:As2.Perm (.obj D (.deferred (some []))::(Bs++ρ.ex)):=by simp_all
      have hsr:SR (ρ2.wx ρ.ex) (en T2) L2:=hs2.sr;obtain⟨us2,g1,g2⟩:=Qga hsr (k2 ρ.ex) hrs;exact Qnq (rs:=fn.results.toList) (by simp) hpm g1 (λw' hw'=>⟨ρ2.wx ρ.ex,Bs++ρ.ex,Qw us2,⟨λn x hx=>hle2.1 n x (h1' n x hx),rfl⟩,hs2.fr,QlI g2,k2 _,rfl,hw'⟩) rfl rfl
     ·cases h
    ·rename_i T2 H2 n2 hr;rw[hr];intro ρ2 L2 As2 hle2 hs2;split at h
     ·rename_i hres;injection h with h
      injection h with e1 e2
      injection e2 with e2 e3
      subst e1 e2 e3;obtain⟨Bs,k1,k2⟩:=hs2.hp.split;have hex:ρ2.ex=.obj D (.deferred (some []))::ρ.ex:=hle2.2.trans h2';have hpm:As2.Perm (.obj D (.deferred (some []))::(Bs++ρ.ex)):=by simp_all
      have hres':fn.results= #[]:=by rw[<-Array.toArray_toList (xs:=fn.results),hres]
      exact Qqy (As':=Bs++ρ.ex) (D:=D) hres' hpm (λw' hw'=>⟨ρ2.wx ρ.ex,Bs++ρ.ex,.tuple #[],⟨λn x hx=>hle2.1 n x (h1' n x hx),rfl⟩,hs2.fr,rfl,k2 _,rfl,hw'⟩) rfl rfl
     ·cases h
    ·cases h
  ·cases h
 ·cases h
noncomputable def bare(v:Value):Bool:=(den ⟨λ_=>none,[]⟩ v).isSome
def Qnd:Value->Bool
 | .agg cs=>QS cs.toList
 | v=>YV v
def Qf3(l:List Value):Bool:=l.all Qnd
theorem Qkj{v:Value}(h:Qnd v=true)(ρ:Rho):den ρ v=some v:=by
 cases v with
 | agg cs=>
  have h2:QS cs.toList=true:=h
  show(match Qq (QE ρ) cs.toList with
   | some l=>some (Value.agg l.toArray)
   | none=>none)=_
  rw[Xy h2]
 | _=>(unfold Qnd at h;exact ZB h ρ)
theorem Qa0{ρ:Rho}:∀{l:List Value},Qf3 l=true->Qq (den ρ) l=some l
 | [],_=>rfl
 | v::l,h=>by
  simp only[Qf3,List.all_cons,Bool.and_eq_true]at h;simp only[Qq,Qkj h.1 ρ,Qa0 (l:=l) h.2]
noncomputable def Qjg(F:Qa3)(g:FuncId)(vs:List Value):Option Value:=match F g vs .lf 0 with
 | some r=>bif Qf3 vs&&bare r.1 then some r.1 else none
 | none=>none
theorem QmD{P:Program}{F:Qa3}(hF:Qcp P ⟨λ_=>none,[]⟩ F):Qfd P λg vs=>bif QJ P g then Qjg F g vs else none:=by
 intro f vs v h w0 ρ us As hvs o L' args ts ho hev;obtain⟨hfn,h⟩:=bif_in h;unfold Qjg at h;split at h
 ·rename_i r hr;obtain⟨hc,rfl⟩:=bif_some h;obtain⟨v,H',n'⟩:=r;simp only[Bool.and_eq_true]at hc
  have hus:us=vs:=by
   have h2:=Qa0 (ρ:=ρ) hc.1;rw[h2]at hvs;exact(Option.some.inj hvs).symm
  subst hus;obtain⟨u,hu⟩:=Option.isSome_iff_exists.1 hc.2
  have hmono:∀{ρ':Rho}{x y:Value},den ⟨λ_=>none,[]⟩ x=some y->den ρ' x=some y:=λ{ρ'}{x}{y}e=>by
   have:=Z2 (ρ:=⟨λ_=>none,ρ'.ex⟩) (ρ':=ρ') ⟨λn x h=>(by cases h),rfl⟩ x y e;exact this
  refine⟨u,hmono hu,?_⟩;intro a w hρ hw
  have hcall:=hF f us .lf 0 v H' n' hr w ⟨λ_=>none,[]⟩ us [] (Rho.le_refl _) (Qa0 hc.1) ⟨[],[],(λm r hm=>by
   have h':Ye (pth m) m (.lf:Hp)=some r:=hm;rw[Yp]at h';cases h'),rfl,rfl⟩ (λ_ _=>rfl) w (HS.refl w [])
  rw[Zr ho hρ (show ev L' (.func f)=some (.func (.func f) #[] #[])from rfl) hfn hev];simp only[Array.empty_append,Array.append_empty];refine Calls.mono hcall λe w'⟨ρ',As',u',h1,h2,h3,h4,h5,h6⟩=>?_;rw[hmono hu]at h3;injection h3 with h3
  subst h3;exact⟨_,h5,rfl,h6.nil.below⟩
 ·cases h
structure KnOk(P:Program)(K:CallF):Prop where
 f:∀r1 Y,Qcp P r1 (K.f Y)
 e:Qfd P K.e
noncomputable def evF(P:Program)(K:CallF)(Z:FuncId->Bool)(m:Nat)(Dr:Nat->Array Oper->CS)(f:Nat):CallF:=
 Nat.rec ⟨λ_ _ _ _ _=>none,K.e,noY⟩ (λ_ ih=>⟨λY g vs H n=>match K.f Y g vs H n with
  | some r=>some r
  | none=>(Qfq P m Dr g).run ⟨ih.f,ih.e,Y⟩ vs H n,λg vs=>match K.e g vs with
  | some v=>some v
  | none=>Bool.rec none (bif QJ P g then Qjg (ih.f noY) g vs else none) (Z g),noY⟩) f
theorem Qk9{P:Program}{K:CallF}{Z:FuncId->Bool}{m:Nat}{Dr:Nat->Array Oper->CS}(hK:KnOk P K)(hD:Qiv P Dr):∀f r0,CallOk P r0 (evF P K Z m Dr f)
 | 0,r0=>⟨(λ_ _ _ _ _ _ _ _ _ _ h=>by cases h),hK.e,QbV⟩
 | f+1,r0=>by
  have ih:=Qk9 (Z:=Z) (m:=m) hK hD f;refine⟨?_,?_,QbV⟩
  ·intro r1 Y hY g vs H n v H' n' h
   have h':(match K.f Y g vs H n with
    | some r=>some r
    | none=>(Qfq P m Dr g).run ⟨(evF P K Z m Dr f).f,(evF P K Z m Dr f).e,Y⟩ vs H n)=some (v,H',n'):=h
   split at h'
   ·rename_i r hr;injection h' with h'
    subst h';exact hK.f r1 Y g vs H n v H' n' hr
   ·exact Qke (r0:=r1) (⟨(ih r1).f,(ih r1).e,hY⟩:CallOk P r1 ⟨(evF P K Z m Dr f).f,(evF P K Z m Dr f).e,Y⟩) hD g vs H n v H' n' h'
  ·intro g vs v h
   have h':(match K.e g vs with
    | some v=>some v
    | none=>Bool.rec none (bif QJ P g then Qjg ((evF P K Z m Dr f).f noY) g vs else none) (Z g))=some v:=h
   split at h'
   ·rename_i v' hr;injection h' with h'
    subst h';exact hK.e g vs v' hr
   ·cases hz:Z g with
    | false=>rw[hz]at h';cases h'
    | true=>
     rw[hz]at h';exact QmD ((ih ⟨λ_=>none,[]⟩).f _ _ QbV) g vs v h'
end Ev
end Gx
namespace Gx
open Go Go.RowKit
section
variable{X:Ctx}{ops:Array Oper}{F:List Nat}{fuel i:Nat}{listed:Array Bool}{k:List KI}{L:Qa}{d ty:Nat}{op:Op}{pos:String}{aft:Array Edge}{w0:World}{M:List Nat}{As Bs:List HA}
theorem QoL{B:World->Prop}{G:Type}{V:G->Value}{Fg:G->Prop}{C':G->World->Prop}{j:Nat}{want b:Bool}(i dj:Nat)(hi:ops[i]?=some ⟨some d,op,ty,pos,aft,some (j,want)⟩)(hj:(ops[j]?).bind (·.dst)=some dj)(hb:Qa.get L dj=some (.bool b))(hw:b=want)(h:OpH X.P ⟨some d,op,ty,pos,aft,none⟩ L (HS w0 M As) V Fg C')(hr:(Region.ready .any ops listed==[i])=true)(hB:∀w,HS w0 M As w->B w)(hd:Nat.blt d X.n=true)
  (next:∀g,Fg g->D X ops F B fuel (listed.setIfInBounds i true) k ((d,V g)::L) (C' g)):D X ops F B (fuel+1) listed k L (HS w0 M As):=by
 intro hcl a ha;have hy:yielded ops a.tmps j=some b:=by simp[yielded,hj,ha.slot _ _ hb]
 have hr':Region.ready .any ops listed=[i]:=by simpa using hr
 refine Qdr hr' (λ_=>⟨hB,HS.stab _ _ _⟩) ?_;unfold XV;simp only[hi];rw[if_pos (by simp[Region.wanted,hy,hw])];exact⟨G,V,Fg,C',λw hw=>h a.eval w ha.agr hw,λg hg=>next g hg (hcl.set (by rw[hr'];exact List.mem_singleton.2 rfl)) _ (ha.put d _ hd)⟩
end
end Gx
namespace Gx
namespace Ev
open Go Go.RowKit
structure Stp where
 i:Nat
 okP:Bool
 okQ:Bool
 okH:Bool
 turn:Option (List Nat)
def onF(F:List Nat)(i:Nat):Bool:=F.all λf=>!Nat.beq f i
def Qjw(n:Nat):List (List Nat):=[]::(List.range n).map λj=>[j]
def Qqc(ops:Array Oper):Array Bool->List Nat->Bool
 | listed,[]=>Region.ready .any ops listed==[]
 | listed,i::r=>Qqc ops (listed.setIfInBounds i true) r
noncomputable def QnN:Option Addr->Option Addr->Bool
 | none,none=>true
 | some ⟨a,b,none⟩,some ⟨c,d,none⟩=>Nat.beq a c&&Nat.beq b d
 | some ⟨a,b,some e⟩,some ⟨c,d,some f⟩=>Nat.beq a c&&(Nat.beq b d&&Nat.beq e f)
 | _,_=>false
theorem Qix{a b:Option Addr}(h:QnN a b=true):a=b:=by
 unfold QnN at h;split at h<;>simp_all
noncomputable def eqA:Value->Value->Bool
 | .int k (.ofNat a),.int k' (.ofNat b)=>kEq k k'&&Nat.beq a b
 | .bool a,.bool b=>a==b
 | .string ⟨⟨a⟩⟩,.string ⟨⟨b⟩⟩=>Qlu a b
 | .pointer a,.pointer b=>QnN a b
 | .slice a l c,.slice b l' c'=>QnN a b&&(Nat.beq l l'&&Nat.beq c c')
 | .map (some a),.map (some b)=>Nat.beq a b
 | .map none,.map none=>true
 | .nilFunc,.nilFunc=>true
 | _,_=>false
theorem QhM{a b:Value}(h:eqA a b=true):a=b:=by
 unfold eqA at h;split at h
 ·simp only[Bool.and_eq_true]at h;rw[Qa7 h.1,Nat.eq_of_beq_eq_true h.2]
 ·grind
 ·grind[QdA]
 ·rw[Qix h]
 ·simp only[Bool.and_eq_true]at h;rw[Qix h.1,Nat.eq_of_beq_eq_true h.2.1,Nat.eq_of_beq_eq_true h.2.2]
 ·simp_all
 ·rfl
 ·rfl
 ·cases h
def eqL(f:Value->Value->Bool):List Value->List Value->Bool
 | [],[]=>true
 | a::l,b::m=>f a b&&eqL f l m
 | _,_=>false
theorem QfM{f:Value->Value->Bool}(hf:∀a b,f a b=true->a=b):∀{l m:List Value},eqL f l m=true->l=m
 | [],[],_=>rfl
 | a::l,b::m,h=>by
  simp only[eqL,Bool.and_eq_true]at h;rw[hf a b h.1,QfM hf h.2]
 | [],_::_,h=>by cases h
 | _::_,[],h=>by cases h
noncomputable def eqF:Value->Value->Bool
 | .func (.func f) ⟨a⟩ ⟨b⟩,.func (.func g) ⟨c⟩ ⟨d⟩=>Nat.beq f g&&(eqL eqA a c&&eqL eqA b d)
 | a,b=>eqA a b
theorem Qp3{a b:Value}(h:eqF a b=true):a=b:=by
 unfold eqF at h;split at h
 ·simp only[Bool.and_eq_true]at h;rw[Nat.eq_of_beq_eq_true h.1,QfM (λ_ _=>QhM) h.2.1,QfM (λ_ _=>QhM) h.2.2]
 ·exact QhM h
noncomputable def QpG(x y:HB):Bool:=Nat.beq x.ty y.ty&&(Nat.beq x.sz y.sz&&eqL eqF x.cs y.cs)
theorem Qou{x y:HB}(h:QpG x y=true):x=y:=by
 simp only[QpG,Bool.and_eq_true]at h;obtain⟨a,b,c⟩:=x;obtain⟨d,e,f⟩:=y;simp only at h;rw[Nat.eq_of_beq_eq_true h.1,Nat.eq_of_beq_eq_true h.2.1,QfM (λ_ _=>Qp3) h.2.2]
def Qnt:List Int->List Int->Bool
 | [],[]=>true
 | a::l,b::m=>decide (a=b)&&Qnt l m
 | _,_=>false
theorem Qjq:∀{l m:List Int},Qnt l m=true->l=m
 | [],[],_=>rfl
 | a::l,b::m,h=>by
  simp only[Qnt,Bool.and_eq_true,decide_eq_true_eq]at h;rw[h.1,Qjq h.2]
 | [],_::_,h=>by cases h
 | _::_,[],h=>by cases h
noncomputable def QlK:HX->HX->Bool
 | .row x,.row y=>QpG x y
 | .mp x,.mp y=>Qnt x y
 | _,_=>false
theorem Qn5{x y:HX}(h:QlK x y=true):x=y:=by
 unfold QlK at h
 grind[Qou,Qjq]
noncomputable def QgR(H H':Hp)(R:List Nat):Bool:=List.rec true (λm _ ih=>match XR H m with
 | some r=>(match XR H' m with
  | some r'=>Bool.rec false ih (QlK r r')
  | none=>false)
 | none=>false) R
theorem QaU{H H':Hp}:∀{R:List Nat},QgR H H' R=true->∀m∈R,XR H' m=XR H m
 | [],_,m,hm=>by cases hm
 | a::R,h,m,hm=>by
  have h':(match XR H a with
   | some r=>(match XR H' a with
    | some r'=>Bool.rec false (QgR H H' R) (QlK r r')
    | none=>false)
   | none=>false)=true:=h
  split at h'
  ·rename_i r h1;split at h'
   ·rename_i r' h2;cases he:QlK r r' with
    | false=>rw[he]at h';cases h'
    | true=>
     rw[he]at h';rcases List.mem_cons.1 hm with rfl|hm
     ·rw[h1,h2,Qn5 he]
     ·exact QaU h' m hm
   ·cases h'
  ·cases h'
abbrev DF:=CallF->Tr Value->Hp->Nat->List Nat->Rs
abbrev DS:=Clo DF
noncomputable def noD:DS:=⟨λ_ _ _ _ _=>.bad⟩
noncomputable def memN(m:Nat)(R:List Nat):Bool:=List.rec false (λa _ ih=>Bool.rec ih true (Nat.beq a m)) R
noncomputable def QjM(m:Option Nat)(R:List Nat):List Nat:=Option.rec R (λk=>Bool.rec (k::R) R (memN k R)) m
noncomputable def yes(b:Bool)(r:Rs):Rs:=Bool.rec .bad r b
noncomputable def dOn(P:Program)(nt:Nat)(s:Stp)(o:Oper)(rest:DS):DS:=match o.dst with
 | some d=>bif Nat.blt d nt then⟨λF T H n R=>match(ZA P o.op).run F T H n with
  | .no=>.bad
  | .p v=>yes s.okP (rest.run F (XI (pth d) d v T) H n R)
  | .q m v=>(match s.okH,s.turn with
   | true,none=>rest.run F (XI (pth d) d v T) H n R
   | _,_=>yes s.okQ (rest.run F (XI (pth d) d v T) H n (QjM m R)))
  | .new v x=>yes s.okH (match s.turn with
   | some _=>rest.run F (XI (pth d) d v T) (Yd H n x) (Nat.succ n) []
   | none=>rest.run F (XI (pth d) d v T) (Yd H n x) (Nat.succ n) R)
  | .h v H' n'=>yes s.okH (match s.turn with
   | some _=>rest.run F (XI (pth d) d v T) H' n' []
   | none=>yes (QgR H H' R) (rest.run F (XI (pth d) d v T) H' n' R))⟩else noD
 | none=>bif o.guard.isNone then⟨λF T H n R=>match(ZA P o.op).run F T H n with
  | .new v x=>yes s.okH (match s.turn with
   | some _=>rest.run F T (Yd H n x) (Nat.succ n) []
   | none=>rest.run F T (Yd H n x) (Nat.succ n) R)
  | .h v H' n'=>yes s.okH (match s.turn with
   | some _=>rest.run F T H' n' []
   | none=>yes (QgR H H' R) (rest.run F T H' n' R))
  | _=>.bad⟩else noD
noncomputable def Qom(nt:Nat)(s:Stp)(dst:Option Nat)(rest:DS):DS:=match dst with
 | some d=>bif Nat.blt d nt then(match s.okP with
  | true=>⟨λF T H n R=>rest.run F (XI (pth d) d undef T) H n R⟩
  | false=>match s.okH,s.turn with
   | true,some _=>⟨λF T H n R=>rest.run F (XI (pth d) d undef T) H n []⟩
   | _,_=>noD)else noD
 | none=>noD
def Q6(H:Hp):List Nat->List (Nat×HX)->Prop
 | [],[]=>True
 | m::R,(k,r)::B=>k=m/\XR H m=some r/\m ∉ R/\Q6 H R B
 | _,_=>False
theorem Q6.stay{H H':Hp}:∀{R:List Nat}{B:List (Nat×HX)},Q6 H R B->(∀m∈R,XR H' m=XR H m)->Q6 H' R B
 | [],[],_,_=>trivial
 | m::R,(k,r)::B,h,hs=>⟨h.1,by rw[hs m (List.mem_cons_self ..)];exact h.2.1,h.2.2.1,Q6.stay h.2.2.2 λp hp=>hs p (List.mem_cons_of_mem _ hp)⟩
 | [],_::_,h,_=>h.elim
 | _::_,[],h,_=>h.elim
theorem Q6.has{H:Hp}:∀{R:List Nat}{B:List (Nat×HX)},Q6 H R B->∀m∈R,∃r,XR H m=some r
 | m::R,(k,r)::B,h,p,hp=>by
  rcases List.mem_cons.1 hp with rfl|hp
  ·exact⟨r,h.2.1⟩
  ·exact h.2.2.2.has p hp
 | [],_,_,p,hp=>by cases hp
 | _::_,[],h,_,_=>h.elim
theorem QeS{ρ:Rho}:∀{R:List Nat}{B:List (Nat×HX)}{H:Hp}{G:List (Nat×HX)}{As:List HA},(∀m r,XR H m=some r->Qbx G m=some r)->Qq (ha ρ) G=some As->Q6 H R B->∃Bs Rs,Qq (ha ρ) B=some Bs/\As.Perm (Bs++Rs)
 | [],[],H,G,As,_,_,_=>⟨[],As,rfl,.refl _⟩
 | m::R,(k,r)::B,H,G,As,hG,hA,h=>by
  obtain⟨rfl,h1,h2,h3⟩:=h;obtain⟨A,Rs,g1,g4,_,As3,g6,g7,g8⟩:=QfZ hA (hG _ _ h1)
  obtain⟨Bs,Rs2,h4,h5⟩:=QeS (H:=Qev H k) (R:=R) (B:=B) (G:=QfF G k) (λp r' hp=>by
   obtain⟨e1,e2⟩:=QgS hp;rw[g8 p e1]
   exact hG _ _ e2) g6 (h3.stay λp hp=>by
    have hne:p≠k:=λe=>by subst e;exact h2 hp
    exact Qbb hne)
  exact⟨A::Bs,Rs2,by simp only[Qq,g1,h4],g4.perm.trans ((g7.trans h5).cons _)⟩
 | [],_::_,_,_,_,_,_,h=>h.elim
 | _::_,[],_,_,_,_,_,h=>h.elim
theorem Qhv{ρ:Rho}{R:List Nat}{B:List (Nat×HX)}{H:Hp}{As:List HA}(hH:HM ρ H As)(hB:Q6 H R B):∃Bs Rs,Qq (ha ρ) B=some Bs/\As.Perm (Bs++ρ.ex++Rs):=by
 obtain⟨G,Bs0,h1,h2,rfl⟩:=hH;obtain⟨Bs,Rs,h3,h4⟩:=QeS h1 h2 hB;refine⟨Bs,Rs,h3,(h4.append_right _).trans ?_⟩;simp[List.append_assoc,List.perm_append_comm.append_left]
noncomputable def Qc2:List (Nat×HX)->Hp
 | []=>.lf
 | (m,r)::B=>Yd (Qc2 B) m r
theorem Qer:∀{B:List (Nat×HX)}{m:Nat}{r:HX},XR (Qc2 B) m=some r->Qbx B m=some r
 | [],m,r,h=>by
  have h':Ye (pth m) m (.lf:Hp)=some r:=h;rw[Yp]at h';cases h'
 | (k,x)::B,m,r,h=>by
  simp only[Qbx];rcases Qei h with⟨rfl,rfl⟩|⟨h1,h2⟩
  ·simp[Nat.beq_refl]
  ·have hq:Nat.beq k m=false:=by cases hz:Nat.beq k m<;>simp_all
   rw[hq];exact Qer h2
theorem QjT{ρ:Rho}{B:List (Nat×HX)}{Bs:List HA}(h:Qq (ha ρ) B=some Bs):HM ρ (Qc2 B) (Bs++ρ.ex):=⟨B,Bs,λ_ _=>Qer,h,rfl⟩
theorem Qe5{H:Hp}:∀{R:List Nat}{B:List (Nat×HX)},Q6 H R B->∀m∈R,XR (Qc2 B) m=XR H m
 | m::R,(k,r)::B,h,p,hp=>by
  obtain⟨rfl,h1,h2,h3⟩:=h;show XR (Yd (Qc2 B) k r) p=XR H p
  by_cases hpk:p=k
  ·subst hpk;rw[h1];exact YK _ _ _ _
  ·rcases List.mem_cons.1 hp with e|hp
   ·grind
   ·rw[Qdb hpk];exact Qe5 h3 p hp
 | [],_,_,p,hp=>by cases hp
 | _::_,[],h,_,_=>h.elim
section
variable{X:Ctx}{ops:Array Oper}{k:List KI}{L:Qa}{C B B':World->Prop}{F F':List Nat}{fuel:Nat}{listed:Array Bool}{P:Program}{w0:World}{CF:CallF}
theorem Qoj(hB:∀w,B' w->B w)(h:D X ops F B' fuel listed k L C):D X ops F B fuel listed k L C:=λhcl a ha=>QfW hB (h hcl a ha)
theorem QiF(hf:∃f∈F,listed.getD f false=true)(h:D X ops F' B' fuel listed k L C):D X ops F B fuel listed k L C:=λhcl a ha=>Qfx hf (h hcl a ha)
theorem Qpx{As:List HA}{B:World->Prop}{d i ty j:Nat}{op:Op}{pos:String}{aft:Array Edge}{want:Bool}{u:Value}(dj:Nat)(hi:ops[i]?=some ⟨some d,op,ty,pos,aft,some (j,want)⟩)(hj:(ops[j]?).bind (·.dst)=some dj)(hb:Qa.get L dj=some u)(hw:u=.bool (!want)\/u=undef)(hr:(Region.ready .any ops listed==[i])=true)(hB:∀w,HS w0 [] As w->B w)(hd:Nat.blt d X.n=true)
  (next:D X ops F B fuel (listed.setIfInBounds i true) k ((d,undef)::L) (HS w0 [] As)):D X ops F B (fuel+1) listed k L (HS w0 [] As):=by
 intro hcl a ha;have hr':Region.ready .any ops listed=[i]:=by simpa using hr
 refine Qdr hr' (λ_=>⟨hB,HS.stab _ _ _⟩) ?_
 have hy:yielded ops a.tmps j=(match u with| .bool b=>some b|_=>none):=by
  rcases hw with rfl|rfl<;>simp[yielded,hj,ha.slot _ _ hb,undef]
 unfold XV;simp only[hi];rw[if_neg (by rcases hw with rfl|rfl<;>simp[Region.wanted,hy,undef])];exact next (hcl.set (by rw[hr'];exact List.mem_singleton.2 rfl)) _ (ha.put d _ hd)
end
section
variable{P:Program}{r0:Rho}{w0:World}{CF:CallF}{X:Ctx}{k:List KI}{ops:Array Oper}
abbrev Got(ρ:Rho)(v:Value)(H':Hp)(n':Nat):Type:={x:Rho×List HA×Value // ρ.le x.1/\QB x.1 n'/\den x.1 v=some x.2.2/\HM x.1 H' x.2.1}
theorem OpT.got{o:Oper}{L':Qa}{C:World->Prop}{ρ:Rho}{v:Value}{H':Hp}{n':Nat}(h:OpT P o L' C (Out w0 ρ v H' n')):OpH P o L' C (G:=Got ρ v H' n') (λx=>x.1.2.2) (λ_=>True) (λx=>HS w0 [] x.1.2.1):=by
 obtain⟨G,V,Fg,C',h1,h2⟩:=h;intro ag w hag hw;refine(h1 ag w hag hw).mono λu w'⟨g,e1,e2,e3⟩=>?_;obtain⟨ρ',As',g1,g2,g3,g4,g5⟩:=h2 g e2;exact⟨⟨(ρ',As',V g),g1,g2,g3,g4⟩,e1,trivial,g5 _ e3⟩
theorem Qas{ρ ρ':Rho}{H:Hp}{R:List Nat}{B:List (Nat×HX)}{As Bs:List HA}(hle:ρ.le ρ')(hH:HM ρ' H As)(hR:Qq (ha ρ) B=some Bs)(hB:Q6 H R B):∀w,HS w0 [] As w->HS w0 [] (Bs++ρ.ex) w:=by
 obtain⟨Bs',Rs,h1,h2⟩:=Qhv hH hB;have h3:=Q3 (λ_ _=>Qdw hle _ _) hR;rw[h1]at h3;injection h3 with h3
 subst h3;rw[<-hle.2];exactλw hw=>(hw.perm h2).sub (List.sublist_append_left ..)
theorem Qe4{listed:Array Bool}{i:Nat}(h:(Region.ready .any ops listed==[i])=true):(listed.setIfInBounds i true).getD i false=true:=by
 have h1:i∈Region.ready .any ops listed:=by grind
 have h2:=(mem_ready.1 h1).1;have h3:i<listed.size:=by grind
 simp_all
theorem Qje{F:List Nat}{i:Nat}(h:onF F i=true):F.contains i=false:=by
 cases hc:F.contains i with
 | false=>rfl
 | true=>
  have h1:=List.all_eq_true.1 h i (by simpa using hc)
  simp_all
theorem Qj8{ops:Array Oper}{F:List Nat}{i:Nat}{ps:List (List Nat)}(h:Xz ops F i ps=true):F.contains i=false:=by grind[Z0]
theorem Qa6{m:Nat}:∀{R:List Nat},memN m R=true ↔ m∈R
 | []=>⟨(λh=>by cases h),(λh=>by cases h)⟩
 | a::R=>by
  have hu:memN m (a::R)=(Bool.rec (memN m R) true (Nat.beq a m):Bool):=rfl;rw[hu];cases hb:Nat.beq a m with
  | true=>exact⟨(λ_=>by rw[Nat.eq_of_beq_eq_true hb];exact List.mem_cons_self ..),λ_=>rfl⟩
  | false=>
   have hne:m≠a:=λe=>by subst e;rw[Nat.beq_refl]at hb;cases hb
   simp_all[Qa6]
theorem QaZ{b:Bool}{r:Rs}{ρ:Rho}{X:Ctx}{k:List KI}(h:QR r0 w0 ρ X k (yes b r)):b=true/\QR r0 w0 ρ X k r:=by
 cases b with
 | true=>exact⟨rfl,h⟩
 | false=>exact h.elim
theorem QkG{H:Hp}{R:List Nat}{B:List (Nat×HX)}(hB:Q6 H R B)(m:Option Nat)(hm:∀k,m=some k->∃r,XR H k=some r):∃B2,Q6 H (QjM m R) B2/\(∀k,m=some k->k∈QjM m R)/\(B2=B\/∃p,B2=p::B):=by
 cases m with
 | none=>exact⟨B,hB,(λk h=>by cases h),.inl rfl⟩
 | some m=>
  obtain⟨r,hr⟩:=hm m rfl;have hu:QjM (some m) R=(Bool.rec (m::R) R (memN m R):List Nat):=rfl;cases hb:memN m R with
  | true=>
   rw[hb]at hu
   grind[QjM,Qa6]
  | false=>
   rw[hb]at hu;have hu:QjM (some m) R=m::R:=hu;rw[hu];exact⟨(m,r)::B,⟨rfl,hr,(λh=>by rw[Qa6.2 h]at hb;cases hb),hB⟩,(λk h=>by injection h with h;subst h;exact List.mem_cons_self ..),.inr ⟨_,rfl⟩⟩
theorem Qnm{ρ:Rho}{B B2:List (Nat×HX)}{Bs Bs2:List HA}(hR:Qq (ha ρ) B=some Bs)(h:Qq (ha ρ) B2=some Bs2)(hc:B2=B\/∃p,B2=p::B):∀w,HS w0 [] (Bs2++ρ.ex) w->HS w0 [] (Bs++ρ.ex) w:=by
 rcases hc with rfl|⟨p,rfl⟩
 ·grind
 ·simp only[Qq,hR]at h;split at h
  ·rename_i b m h1 h2;injection h2 with h2
   injection h with h
   subst h h2;exactλw hw=>hw.tail
  ·cases h
theorem Zp{ρ:Rho}{H:Hp}{n:Nat}{As:List HA}{R:List Nat}{B:List (Nat×HX)}{x:HX}(hH:HM ρ H As)(hf:QB ρ n)(hB:Q6 H R B):Q6 (Yd H n x) R B:=by
 refine hB.stay λm hm=>Qdb λe=>?_;subst e;obtain⟨r,hr⟩:=hB.has m hm;obtain⟨A,Rs,g1,_⟩:=Qph hH hr;obtain⟨x,hx⟩:=QlJ g1;rw[hf m (Nat.le_refl _)]at hx;cases hx
def Qjj(P:Program)(r0:Rho)(w0:World)(CF:CallF)(X:Ctx)(k:List KI)(ops:Array Oper)(rest:DS)(F:List Nat)(fuel:Nat)(listed:Array Bool):Prop:=
 ∀(T:Tr Value)(H:Hp)(n:Nat)(R:List Nat)(B:List (Nat×HX))(ρ:Rho)(L':Qa)(As Bs:List HA),QR r0 w0 ρ X k (rest.run CF T H n R)->StOk r0 w0 ρ ⟨T,H,n⟩ L' As->Qq (ha ρ) B=some Bs->Q6 H R B->D X ops F (HS w0 [] (Bs++ρ.ex)) fuel listed k L' (HS w0 [] As)
theorem QlC(hF:CallOk P r0 CF)(hP:X.P=P){i:Nat}{dst:Option Nat}{op:Op}{ty:TypeId}{pos:String}{aft:Array Edge}{guard:Option (Nat×Bool)}{rest:DS}{Fs:List (List Nat)}{F:List Nat}{listed:Array Bool}{fuel:Nat}{s:Stp}
  (hsP:s.okP=true->(Qy ops listed i&&onF F i)=true)(hsQ:s.okQ=true->(Qy ops listed i&&(Xz ops F i (Qjw ops.size)&&Zv F listed))=true)(hsH:s.okH=true->(Region.ready .any ops listed==[i])=true)(hsT:s.turn.isSome=F.contains i)
  (ih:Qjj P r0 w0 CF X k ops rest (if F.contains i then Fs.headD []else F) fuel (listed.setIfInBounds i true))
  (ho:ops[i]?=some ⟨dst,op,ty,pos,aft,guard⟩){T:Tr Value}{H:Hp}{n:Nat}{R:List Nat}{B:List (Nat×HX)}{ρ:Rho}{L':Qa}{As Bs:List HA}
  (ht:QR r0 w0 ρ X k ((dOn P X.n s ⟨dst,op,ty,pos,aft,guard⟩ rest).run CF T H n R))(hs:StOk r0 w0 ρ ⟨T,H,n⟩ L' As)(hR:Qq (ha ρ) B=some Bs)(hB:Q6 H R B)
  (hon:guard=none\/∃j want dj b,guard=some (j,want)/\(ops[j]?).bind (·.dst)=some dj/\Qa.get L' dj=some (.bool b)/\b=want):D X ops F (HS w0 [] (Bs++ρ.ex)) (fuel+1) listed k L' (HS w0 [] As):=by
 have hc:=Qbk P op CF hF.fok T H n
 have mk:∀(v:Value)(H':Hp)(n':Nat),Q1 P (en T) H n CF op=some (.h v H' n')->s.okH=true->(guard.isNone||dst.isSome)=true ->
   ((F.contains i=true/\∀T2,(∀d,dst=some d->Nat.blt d X.n=true/\T2=XI (pth d) d v T)->(dst=none->T2=T)->QR r0 w0 ρ X k (rest.run CF T2 H' n' []))\/(F.contains i=false/\Q6 H' R B/\∀T2,(∀d,dst=some d->Nat.blt d X.n=true/\T2=XI (pth d) d v T)->(dst=none->T2=T)->QR r0 w0 ρ X k (rest.run CF T2 H' n' R))) ->
   (∀d,dst=some d->Nat.blt d X.n=true)->D X ops F (HS w0 [] (Bs++ρ.ex)) (fuel+1) listed k L' (HS w0 [] As):=by
  intro v H' n' h1 h2 hgd hcase hdn;replace h2:=hsH h2;have ha:=Zj (w0:=w0) (L':=L') (o:=⟨dst,op,ty,pos,aft,none⟩) hF hs.le rfl hs.sr hs.hp hs.fr h1;have hH:=OpT.got ha;rw[<-hP]at hH;have hbase:=Qas (w0:=w0) ρ.le_refl hs.hp hR hB
  have next:∀(T2:Tr Value)(x:Got ρ v H' n')(L3:Qa),SR x.1.1 (en T2) L3->(∀d,dst=some d->Nat.blt d X.n=true/\T2=XI (pth d) d v T)->(dst=none->T2=T)->D X ops F (HS w0 [] (Bs++ρ.ex)) fuel (listed.setIfInBounds i true) k L3 (HS w0 [] x.1.2.1):=by
   intro T2 x L3 hsr e1 e2;obtain⟨⟨ρ',As',u⟩,g1,g2,g3,g4⟩:=x;rcases hcase with⟨hfi,h⟩|⟨hfi,hst,h⟩
   ·simp only[hfi,if_true]at ih;refine QiF (B':=HS w0 [] ([]++ρ'.ex)) (F':=Fs.headD []) ⟨i,by simpa using hfi,Qe4 h2⟩ ?_;exact ih T2 H' n' [] [] ρ' L3 As' [] ((h T2 e1 e2).mono g1) ⟨Rho.le_trans hs.le g1,hsr,g4,g2⟩ rfl trivial
   ·simp only[hfi,Bool.false_eq_true,if_false]at ih;rw[<-g1.2];exact ih T2 H' n' R B ρ' L3 As' Bs ((h T2 e1 e2).mono g1) ⟨Rho.le_trans hs.le g1,hsr,g4,g2⟩ (Q3 (λ_ _=>Qdw g1 _ _) hR) hst
  cases dst with
  | some d=>
   have hlt:=hdn d rfl;have hn:=λ(x:Got ρ v H' n')(_:True)=>next (XI (pth d) d v T) x ((d,x.1.2.2)::L') ((hs.sr.mono x.2.1).set x.2.2.2.1) (λd' e=>by injection e with e;subst e;exact⟨hlt,rfl⟩) (λe=>by cases e)
   rcases hon with hn'|⟨j,want,dj,b,hn',hj,hb,hw⟩
   ·subst hn';exact d_h i ho hH h2 hbase hlt hn
   ·subst hn';exact QoL i dj ho hj hb hw hH h2 hbase hlt hn
  | none=>
   have hn:=λ(x:Got ρ v H' n')(_:True)=>next T x L' (hs.sr.mono x.2.1) (λd' e=>by cases e) (λ_=>rfl)
   cases guard with
   | none=>exact QnU i ho hH h2 hbase hn
   | some jw=>cases hgd
 have turnT:∀y,s.turn=some y->F.contains i=true:=λy hy=>by
  cases hfi:F.contains i with
  | true=>rfl
  | false=>rw[hy,hfi]at hsT;cases hsT
 have turnF:s.turn=none->F.contains i=false:=λhy=>by
  cases hfi:F.contains i with
  | false=>rfl
  | true=>rw[hy,hfi]at hsT;cases hsT
 cases dst with
 | some d=>
  simp only[dOn]at ht;cases hb:Nat.blt d X.n with
  | false=>rw[hb]at ht;exact ht.elim
  | true=>
   rw[hb]at ht;simp only[cond_true]at ht;cases hr:(ZA P op).run CF T H n with
   | no=>rw[hr]at ht;exact ht.elim
   | p v=>
    rw[hr]at hc ht;obtain⟨hok,ht⟩:=QaZ ht;replace hok:=hsP hok;rw[Bool.and_eq_true]at hok;obtain⟨u,e1,e2⟩:=Zj (w0:=w0) (L':=L') (o:=⟨some d,op,ty,pos,aft,none⟩) hF hs.le rfl hs.sr hs.hp hs.fr hc;rw[<-hP]at e1;have hfi:=Qje hok.2;simp only[hfi,Bool.false_eq_true,if_false]at ih;have next:D X ops F (HS w0 [] (Bs++ρ.ex)) fuel (listed.setIfInBounds i true) k ((d,u)::L') (HS w0 [] As):=ih _ H n R B ρ _ As Bs ht ⟨hs.le,hs.sr.set e2,hs.hp,hs.fr⟩ hR hB
    rcases hon with hn|⟨j,want,dj,b,hn,hj,hb',hw⟩
    ·subst hn;exact d_p i ho e1 hok.1 hok.2 hb next
    ·subst hn;exact Qi0 i dj ho hj hb' hw e1 hok.1 hok.2 hb next
   | q m v=>
    rw[hr]at hc ht;simp only[]at ht;split at ht
    ·rename_i hokH hturn;have hok:=hsH hokH;have hfi:=turnF hturn;simp only[hfi,Bool.false_eq_true,if_false]at ih;obtain⟨u,e1,e2⟩:=Zj (w0:=w0) (L':=L') (o:=⟨some d,op,ty,pos,aft,none⟩) hF hs.le rfl hs.sr hs.hp hs.fr (hc.1 H λ_ _=>rfl);rw[<-hP]at e1;have next:D X ops F (HS w0 [] (Bs++ρ.ex)) fuel (listed.setIfInBounds i true) k ((d,u)::L') (HS w0 [] As):=ih _ H n R B ρ _ As Bs ht ⟨hs.le,hs.sr.set e2,hs.hp,hs.fr⟩ hR hB
     have hbase:=Qas (w0:=w0) ρ.le_refl hs.hp hR hB;rcases hon with hn|⟨j,want,dj,b,hn,hj,hb',hw⟩
     ·subst hn;exact d_h i ho (e1.h (HS.stab _ _ _)) hok hbase hb λ_ _=>next
     ·subst hn;exact QoL i dj ho hj hb' hw (e1.h (HS.stab _ _ _)) hok hbase hb λ_ _=>next
    obtain⟨hok,ht⟩:=QaZ ht;replace hok:=hsQ hok;simp only[Bool.and_eq_true]at hok;obtain⟨B2,b1,b2,b3⟩:=QkG hB m hc.2;obtain⟨Bs2,Rs,g1,g2⟩:=Qhv hs.hp b1;have hev:=hc.1 (Qc2 B2) λk hk=>Qe5 b1 k (b2 k hk);obtain⟨u,e1,e2⟩:=Zj (w0:=w0) (L':=L') (o:=⟨some d,op,ty,pos,aft,none⟩) hF hs.le rfl hs.sr (QjT g1) hs.fr hev;rw[<-hP]at e1;have hfi:=Qj8 hok.2.1;simp only[hfi,Bool.false_eq_true,if_false]at ih;have next:D X ops F (HS w0 [] (Bs2++ρ.ex)) fuel (listed.setIfInBounds i true) k ((d,u)::L') (HS w0 [] As):=ih _ H n _ B2 ρ _ As Bs2 ht ⟨hs.le,hs.sr.set e2,hs.hp,hs.fr⟩ g1 b1
    refine Qoj (Qnm hR g1 b3) ?_;rcases hon with hn|⟨j,want,dj,b,hn,hj,hb',hw⟩
    ·subst hn;exact d_q i _ ho e1 hok.1 hok.2.1 hok.2.2 hb next
    ·subst hn;exact Qo4 i dj _ ho hj hb' hw e1 hok.1 hok.2.1 hok.2.2 hb next
   | new v x=>
    rw[hr]at hc ht;obtain⟨hok,ht⟩:=QaZ ht;refine mk v (Yd H n x) (n+1) hc hok (by simp) ?_ (λd' e=>by injection e with e;subst e;exact hb);split at ht
    ·rename_i y hy;exact .inl ⟨turnT y hy,λT2 e1 _=>by rw[(e1 d rfl).2];exact ht⟩
    ·rename_i hy;exact .inr ⟨turnF hy,Zp hs.hp hs.fr hB,λT2 e1 _=>by rw[(e1 d rfl).2];exact ht⟩
   | h v H' n'=>
    rw[hr]at hc ht;obtain⟨hok,ht⟩:=QaZ ht;refine mk v H' n' hc hok (by simp) ?_ (λd' e=>by injection e with e;subst e;exact hb);split at ht
    ·rename_i y hy;exact .inl ⟨turnT y hy,λT2 e1 _=>by rw[(e1 d rfl).2];exact ht⟩
    ·rename_i hy;obtain⟨hk,ht⟩:=QaZ ht;exact .inr ⟨turnF hy,hB.stay (QaU hk),λT2 e1 _=>by rw[(e1 d rfl).2];exact ht⟩
 | none=>
  simp only[dOn]at ht;cases hg:guard.isNone with
  | false=>rw[hg]at ht;exact ht.elim
  | true=>
   rw[hg]at ht;simp only[cond_true]at ht;cases hr:(ZA P op).run CF T H n with
   | no=>rw[hr]at ht;exact ht.elim
   | p v=>rw[hr]at ht;exact ht.elim
   | q m v=>rw[hr]at ht;exact ht.elim
   | new v x=>
    rw[hr]at hc ht;obtain⟨hok,ht⟩:=QaZ ht;refine mk v (Yd H n x) (n+1) hc hok (by simp[hg]) ?_ (λd' e=>by cases e);split at ht
    ·rename_i y hy;exact .inl ⟨turnT y hy,λT2 _ e2=>by rw[e2 rfl];exact ht⟩
    ·rename_i hy;exact .inr ⟨turnF hy,Zp hs.hp hs.fr hB,λT2 _ e2=>by rw[e2 rfl];exact ht⟩
   | h v H' n'=>
    rw[hr]at hc ht;obtain⟨hok,ht⟩:=QaZ ht;refine mk v H' n' hc hok (by simp[hg]) ?_ (λd' e=>by cases e);split at ht
    ·rename_i y hy;exact .inl ⟨turnT y hy,λT2 _ e2=>by rw[e2 rfl];exact ht⟩
    ·rename_i hy;obtain⟨hk,ht⟩:=QaZ ht;exact .inr ⟨turnF hy,hB.stay (QaU hk),λT2 _ e2=>by rw[e2 rfl];exact ht⟩
end
end Ev
namespace Ev
open Go Go.RowKit
noncomputable def has(M i:Nat):Bool:=Bool.not (Nat.beq (Nat.land M (Nat.pow 2 i)) 0)
theorem ZY(M i:Nat):has M i=M.testBit i:=by
 unfold has;cases h:M.testBit i with
 | true=>
  cases hb:Nat.beq (Nat.land M (Nat.pow 2 i)) 0 with
  | false=>rfl
  | true=>
   have h0:M &&& 2^i=0:=Nat.eq_of_beq_eq_true hb;have:=congrArg (λx=>x.testBit i) h0
   grind
 | false=>
  have h0:M &&& 2^i=0:=by
   apply Nat.eq_of_testBit_eq
   grind
  simp_all
noncomputable def YH(a M:Nat):Bool:=Nat.beq (Nat.land a M) a
theorem QdF{a M:Nat}(h:YH a M=true){j:Nat}(hj:a.testBit j=true):M.testBit j=true:=by
 have h0:a &&& M=a:=Nat.eq_of_beq_eq_true h
 grind
theorem Qg1{a M:Nat}(h:YH a M=false):∃j,a.testBit j=true/\M.testBit j=false:=by
 refine Classical.byContradiction λhn=>?_
 have h0:a &&& M=a:=by
  apply Nat.eq_of_testBit_eq
  grind
 simp_all[YH]
noncomputable def Xg(M i:Nat):Nat:=Nat.lor M (Nat.pow 2 i)
theorem Zt(M i j:Nat):(Xg M i).testBit j=(M.testBit j||decide (i=j)):=by
 show(M ||| 2^i).testBit j=_
 grind
noncomputable def Qfg(l:List Edge):Nat:=List.rec 0 (λe _ ih=>Bool.rec ih (Xg ih e.on) (Region.binds .any e)) l
theorem Qe8(y:Nat):∀l:List Edge,(Qfg l).testBit y=l.any λe=>Region.binds .any e&&Nat.beq e.on y
 | []=>by show(0:Nat).testBit y=_;simp
 | e::l=>by
  have hu:Qfg (e::l)=(Bool.rec (Qfg l) (Xg (Qfg l) e.on) (Region.binds .any e):Nat):=rfl;rw[hu,List.any_cons,<-Qe8 y l];cases Region.binds .any e with
  | false=>rfl
  | true=>
   show(Xg (Qfg l) e.on).testBit y=_;rw[Zt];have:decide (e.on=y)=Nat.beq e.on y:=by rw[Bool.eq_iff_iff,decide_eq_true_eq,Nat.beq_eq]
   grind
def Zf:Operand->List Nat->List Nat
 | .tmp t,l=>t::l
 | _,l=>l
def Qc6:List Operand->List Nat
 | []=>[]
 | x::l=>Zf x (Qc6 l)
def Qgy:List (Nat×Operand)->List Nat
 | []=>[]
 | (_,x)::l=>Zf x (Qgy l)
def QhC:Option Operand->List Nat->List Nat
 | some x,l=>Zf x l
 | none,l=>l
def opT:Op->Option (List Nat)
 | .alloc _| .makeMap _ none=>some []
 | .move x| .assign x| .box _ x| .load _ x| .nilCheck x| .unOp _ _ x| .convert _ _ x| .fieldAddr _ x _| .field _ x _| .extract x _=>some (Zf x [])
 | .pick c a b=>some (Zf c (Zf a (Zf b [])))
 | .build _ ⟨ps⟩| .buildSlice _ _ ⟨ps⟩=>some (Qgy ps)
 | .store _ a v| .binOp _ _ a v _| .makeSlice _ a v| .indexAddr _ a v| .index _ a v| .lookup _ a v _=>some (Zf a (Zf v []))
 | .mapUpdate _ a b c=>some (Zf a (Zf b (Zf c [])))
 | .makeFunc _ ⟨f⟩ ⟨c⟩=>some (Qc6 f++Qc6 c)
 | .slice _ x l h m=>some (Zf x (QhC l (QhC h (QhC m []))))
 | .call ⟨.value f,⟨args⟩,_⟩=>some (Zf f (Qc6 args))
 | .call ⟨.builtin _,⟨args⟩,_⟩=>some (Qc6 args)
 | _=>none
theorem Qbj{x:Operand}{l:List Nat}{t:Nat}:t∈Zf x l ↔ x=.tmp t\/t∈l:=by
 cases x<;>simp[Zf,eq_comm]
theorem Qe7{t:Nat}:∀{l:List Operand},t∈Qc6 l ↔ Operand.tmp t∈l
 | []=>by simp[Qc6]
 | x::l=>by simp only[Qc6,Qbj,Qe7,List.mem_cons];simp[eq_comm]
theorem QeW{t:Nat}:∀{l:List (Nat×Operand)},t∈Qgy l ↔ Operand.tmp t∈l.map (·.2)
 | []=>by simp[Qgy]
 | (i,x)::l=>by simp only[Qgy,Qbj,QeW,List.map_cons,List.mem_cons];simp[eq_comm]
theorem Qkg{t:Nat}{o:Option Operand}{l:List Nat}:t∈QhC o l ↔ o=some (.tmp t)\/t∈l:=by
 cases o<;>simp[QhC,Qbj]
theorem Qok{op:Op}{l:List Nat}(h:opT op=some l){t:Nat}(ht:Operand.tmp t∈op.operands):t∈l:=by
  unfold opT at h
  split at h<;>first
    | (cases h;done)
    | (injection h with h;subst h
       simp only[Op.operands,Call.operands,Array.mem_append,List.mem_toArray,Option.mem_toArray,List.mem_map,Qbj,Qe7,QeW,Qkg,List.mem_append,List.mem_cons,List.mem_nil_iff,or_false,Option.mem_def,List.mem_singleton,List.not_mem_nil,false_or]at ht ⊢
       all_goals (first|exact ht|grind))
def gdT(ops:List Oper):Option (Nat×Bool)->List Nat
 | none=>[]
 | some (g,_)=>match ops[g]? with
  | some o=>(match o.dst with
   | some d=>[d]
   | none=>[])
  | none=>[]
structure Inf where
 em:Nat
 dst:Option Nat
 lk:List Nat
noncomputable def YL(ops:List Oper)(o:Oper):Option Inf:=match opT o.op,o.after with
 | some l,⟨es⟩=>some ⟨Qfg es,o.dst,gdT ops o.guard++l⟩
 | none,_=>none
theorem Qal{ops:List Oper}{o:Oper}{f:Inf}(h:YL ops o=some f)(y:Nat):f.em.testBit y=o.after.any λe=>Region.binds .any e&&Nat.beq e.on y:=by
 unfold YL at h;split at h
 ·rename_i l es h1 h2
  grind[Qe8]
 ·cases h
theorem Qc9{ops:List Oper}{o:Oper}{f:Inf}(h:YL ops o=some f){t:Nat}(ht:t∈o.looksAt ⟨ops⟩):t∈f.lk:=by
 unfold YL at h;split at h
 ·rename_i l es h1 h2;injection h with h
  subst h;simp only[List.mem_append];unfold Oper.looksAt at ht
  grind[Qok,gdT]
 ·cases h
theorem Qfc{ops:List Oper}{o:Oper}{f:Inf}(h:YL ops o=some f):f.dst=o.dst:=by grind[YL]
theorem QjP{ops:List Oper}{o:Oper}{f:Inf}(h:YL ops o=some f)(cs:Array SelectCase)(b:Bool):o.op≠ .select cs b:=by
 intro e;unfold YL at h;rw[e]at h;cases h
noncomputable def eqON(a:Nat)(b:Option Nat):Bool:=Option.rec false (λb=>Nat.beq a b) b
noncomputable def apF(x y:Inf):Bool:=Bool.rec false (match y.dst with
  | some e=>Bool.not (memN e x.lk)
  | none=>true) (match x.dst with
 | some d=>Bool.rec (Bool.not (eqON d y.dst)) false (memN d y.lk)
 | none=>true)
theorem Qqn{ops:List Oper}{x y:Oper}{fx fy:Inf}(hx:YL ops x=some fx)(hy:YL ops y=some fy)(h:apF fx fy=true):x.apart ⟨ops⟩ y=true:=by
 unfold apF at h;rw[Qfc hx,Qfc hy]at h;unfold Oper.apart
 have ny:∀d,memN d fy.lk=false->d ∉ y.looksAt ⟨ops⟩:=λd hd hc=>by
  have:=Qa6.2 (Qc9 hy hc);rw[hd]at this;cases this
 have nx:∀d,memN d fx.lk=false->d ∉ x.looksAt ⟨ops⟩:=λd hd hc=>by
  have:=Qa6.2 (Qc9 hx hc);rw[hd]at this;cases this
 have h2:∀e,y.dst=some e->memN e fx.lk=false:=by
  intro e he;rw[he]at h;cases hm:memN e fx.lk with
  | false=>rfl
  | true=>
   simp only[hm,Bool.not_true]at h;have hz:∀b:Bool,(Bool.rec false false b:Bool)=true->False:=λb hb=>by cases b<;>cases hb
   grind
 have h1:∀d,x.dst=some d->memN d fy.lk=false/\y.dst≠some d:=by
  intro d hd;rw[hd]at h;simp only[]at h;cases hm:memN d fy.lk with
  | true=>rw[hm]at h;cases h
  | false=>
   rw[hm]at h;refine⟨rfl,λe=>?_⟩
   simp_all[eqON]
 grind
noncomputable def Qdg(i:Nat)(f:Inf)(l:List (Nat×Inf)):Nat:=List.rec 0 (λp _ ih=>Bool.rec (Bool.rec (Bool.rec (Xg ih p.1) ih (apF f p.2)) ih (has p.2.em i)) ih (Nat.beq p.1 i)) l
theorem Qhm{i:Nat}{f:Inf}:∀{l:List (Nat×Inf)}{p:Nat×Inf},p∈l->p.1≠i->p.2.em.testBit i=false->apF f p.2=false->(Qdg i f l).testBit p.1=true
 | q::l,p,hp,h1,h2,h3=>by
  have hu:Qdg i f (q::l)=(Bool.rec (Bool.rec (Bool.rec (Xg (Qdg i f l) q.1) (Qdg i f l) (apF f q.2)) (Qdg i f l) (has q.2.em i)) (Qdg i f l) (Nat.beq q.1 i):Nat):=rfl;rw[hu];rcases List.mem_cons.1 hp with rfl|hp
  ·have hb:Nat.beq p.1 i=false:=by cases hb:Nat.beq p.1 i<;>simp_all
   simp_all[ZY,Xg,Zt]
  ·have ih:=Qhm (f:=f) hp h1 h2 h3;cases Nat.beq q.1 i with
   | true=>exact ih
   | false=>
    cases has q.2.em i with
    | true=>exact ih
    | false=>cases apF f q.2<;>grind[apF,Xg,Zt]
 | [],p,hp,_,_,_=>by cases hp
noncomputable def Qah(ops:List Oper):Nat->List Oper->Option (List (Nat×Inf))
 | _,[]=>some []
 | i,o::l=>match YL ops o,Qah ops (i+1) l with
  | some f,some fs=>some ((i,f)::fs)
  | _,_=>none
theorem Qa8{ops:List Oper}:∀{l:List Oper}{k:Nat}{fs:List (Nat×Inf)},Qah ops k l=some fs->∀j o,l[j]?=some o->∃f,YL ops o=some f/\(k+j,f)∈fs
 | [],k,fs,h,j,o,hj=>by simp at hj
 | o'::l,k,fs,h,j,o,hj=>by
  simp only[Qah]at h;split at h
  ·rename_i f fs' h1 h2;injection h with h
   subst h;cases j with
   | zero=>grind
   | succ j=>
    obtain⟨f',h3,h4⟩:=Qa8 h2 j o (by simpa using hj)
    grind
  ·cases h
theorem Qfr{ops:List Oper}:∀{l:List Oper}{k:Nat}{fs:List (Nat×Inf)},Qah ops k l=some fs->∀p∈fs,∃j o,p.1=k+j/\l[j]?=some o/\YL ops o=some p.2
 | [],k,fs,h,p,hp=>by cases h;cases hp
 | o'::l,k,fs,h,p,hp=>by
  simp only[Qah]at h;split at h
  ·rename_i f fs' h1 h2;injection h with h
   subst h;rcases List.mem_cons.1 hp with rfl|hp
   ·grind
   ·obtain⟨j,o,e1,e2,e3⟩:=Qfr h2 p hp;exact⟨j+1,o,om,by simpa using e2,e3⟩
  ·cases h
def Lm(n:Nat)(listed:Array Bool)(M:Nat):Prop:=listed.size=n/\(∀j,j<n->listed.getD j false=M.testBit j)/\∀j,M.testBit j=true->j<n
theorem Lm.get{n:Nat}{listed:Array Bool}{M j:Nat}(h:Lm n listed M)(hj:j<n)(b:Bool):listed.getD j b=M.testBit j:=by
 rw[<-h.2.1 j hj];have hl:j<listed.size:=by rw[h.1];exact hj
 grind
theorem Lm.set{n:Nat}{listed:Array Bool}{M i:Nat}(h:Lm n listed M)(hi:i<n):Lm n (listed.setIfInBounds i true) (Xg M i):=by
 refine⟨by simp[h.1],λj hj=>?_,λj hj=>by
  rw[Zt]at hj
  by_cases e:i=j
  ·omega
  ·exact h.2.2 j (by simpa[e]using hj)⟩
 have hl:i<listed.size:=by rw[h.1];exact hi
 have hl':j<listed.size:=by rw[h.1];exact hj
 rw[Zt]
 by_cases e:i=j
 ·simp_all
 ·have:=h.2.1 j hj
  simp_all
theorem Lm.start(n:Nat):Lm n (Array.replicate n false) 0:=⟨by simp,(λj hj=>by simp[Array.getD_eq_getD_getElem?,hj]),λj hj=>by simp at hj⟩
section
variable{ops:List Oper}{fs:List (Nat×Inf)}
structure Row where
 i:Nat
 em:Nat
 need:Nat
noncomputable def Qo(fs:List (Nat×Inf)):List (Nat×Inf)->List Row:=List.rec [] λp _ ih=>⟨p.1,p.2.em,Nat.lor p.2.em (Qdg p.1 p.2 fs)⟩::ih
theorem QeA:∀{l:List (Nat×Inf)}{r:Row},r∈Qo fs l->∃p∈l,r=⟨p.1,p.2.em,Nat.lor p.2.em (Qdg p.1 p.2 fs)⟩
 | p::l,r,h=>by
  have hu:Qo fs (p::l)=⟨p.1,p.2.em,Nat.lor p.2.em (Qdg p.1 p.2 fs)⟩::Qo fs l:=rfl;rw[hu]at h;rcases List.mem_cons.1 h with rfl|h
  ·grind
  ·obtain⟨q,h1,h2⟩:=QeA h
   grind
 | [],r,h=>by cases h
theorem Qb3:∀{l:List (Nat×Inf)}{p:Nat×Inf},p∈l->(⟨p.1,p.2.em,Nat.lor p.2.em (Qdg p.1 p.2 fs)⟩:Row)∈Qo fs l
 | q::l,p,h=>by
  have hu:Qo fs (q::l)=⟨q.1,q.2.em,Nat.lor q.2.em (Qdg q.1 q.2 fs)⟩::Qo fs l:=rfl;rw[hu];rcases List.mem_cons.1 h with rfl|h
  ·grind
  ·exact List.mem_cons_of_mem _ (Qb3 h)
 | [],p,h=>by cases h
theorem QaV(hf:Qah ops 0 ops=some fs){r:Row}(h:r∈Qo fs fs):∃o f,ops[r.i]?=some o/\YL ops o=some f/\r.em=f.em/\(r.i,f)∈fs/\r.need=Nat.lor f.em (Qdg r.i f fs):=by grind[QeA,Qfr]
theorem Qcs{listed:Array Bool}{M i:Nat}{o:Oper}{f:Inf}(hl:Lm ops.length listed M)(ho:ops[i]?=some o)(hf:YL ops o=some f)(hM:M.testBit i=false)(hs:YH f.em M=true):i∈Region.ready .any ⟨ops⟩ listed:=by
 have hi:i<ops.length:=by grind
 refine mem_ready.2 ⟨by rw[hl.get hi];exact hM,o,by simpa using ho,λe he hb=>?_⟩
 have h1:f.em.testBit e.on=true:=by
  rw[Qal hf];refine Array.any_eq_true'.2 ⟨e,he,?_⟩
  simp_all
 have h2:=QdF hs h1;rw[hl.get (hl.2.2 _ h2)];exact h2
theorem Lm.not{n:Nat}{listed:Array Bool}{M j:Nat}(h:Lm n listed M)(hj:M.testBit j=false):listed.getD j false=false:=by
 by_cases hlt:j<n
 ·rw[h.get hlt];exact hj
 ·have:listed.size<=j:=by rw[h.1];omega
  grind
theorem QdX{listed:Array Bool}{M i:Nat}{o:Oper}{f:Inf}(hl:Lm ops.length listed M)(ho:ops[i]?=some o)(hf:YL ops o=some f)(hs:YH f.em M=false):i ∉ Region.ready .any ⟨ops⟩ listed:=by
 intro hr;obtain⟨_,o',ho',hall⟩:=mem_ready.1 hr;have:o'=o:=by grind
 subst this;obtain⟨y,h1,h2⟩:=Qg1 hs;rw[Qal hf]at h1;obtain⟨e,he,hb⟩:=Array.any_eq_true'.1 h1;simp only[Bool.and_eq_true]at hb;have hon:=Nat.eq_of_beq_eq_true hb.2;subst hon;have h3:=hall e he hb.1;rw[hl.not h2]at h3;cases h3
noncomputable def Qmi(g:Row->Bool)(l:List Row):Bool:=List.rec true (λr _ ih=>Bool.rec false ih (g r)) l
theorem Qd6{g:Row->Bool}:∀{l:List Row},Qmi g l=true->∀r∈l,g r=true
 | r::l,h,r',hr=>by
  have hu:Qmi g (r::l)=(Bool.rec false (Qmi g l) (g r):Bool):=rfl;rw[hu]at h;cases hg:g r with
  | false=>rw[hg]at h;cases h
  | true=>
   rw[hg]at h;rcases List.mem_cons.1 hr with rfl|hr
   ·exact hg
   ·exact Qd6 h r' hr
 | [],_,_,hr=>by cases hr
noncomputable def Qhz(M i:Nat)(rows:List Row):Bool:=Qmi (λr=>Bool.rec (Bool.rec (Bool.not (YH r.em M)) true (has M r.i)) true (Nat.beq r.i i)) rows
theorem Qki:∀{l:List Nat}{i:Nat},l.Nodup->i∈l->(∀j∈l,j=i)->l=[i]
 | [],i,_,h,_=>by cases h
 | [a],i,_,h,_=>by rw[List.mem_singleton.1 h]
 | a::b::l,i,hn,_,hall=>by simp_all
theorem Qb1(hf:Qah ops 0 ops=some fs){listed:Array Bool}{M:Nat}{r:Row}(hl:Lm ops.length listed M)(hr:r∈Qo fs fs)(hM:has M r.i=false)(hs:YH r.em M=true)(ho:Qhz M r.i (Qo fs fs)=true):(Region.ready .any ⟨ops⟩ listed==[r.i])=true:=by
 obtain⟨o,f,e1,e2,e3,e4,e5⟩:=QaV hf hr;rw[ZY]at hM;rw[e3]at hs;have hin:=Qcs hl e1 e2 hM hs
 have:Region.ready .any ⟨ops⟩ listed=[r.i]:=by
  refine Qki (List.Pairwise.filter _ List.nodup_range) hin λj hj=>?_;obtain⟨h1,oj,h2,h3⟩:=mem_ready.1 hj;have h2':ops[j]?=some oj:=by simpa using h2
  obtain⟨fj,g1,g2⟩:=Qa8 hf j oj h2';rw[Nat.zero_add]at g2;have g3:=Qd6 ho _ (Qb3 (fs:=fs) g2);simp only[]at g3;cases hb:Nat.beq j r.i with
  | true=>exact Nat.eq_of_beq_eq_true hb
  | false=>
   rw[hb]at g3;have hjl:j<ops.length:=by grind
   rw[hl.get hjl]at h1;rw[ZY,h1]at g3
   grind[YH,QdX]
 grind
theorem QpM(hf:Qah ops 0 ops=some fs):Region.noSelect ⟨ops⟩=true:=by
 unfold Region.noSelect;simp only[List.all_toArray,List.all_eq_true];intro o ho;obtain⟨j,hj⟩:=List.getElem?_of_mem ho
 grind[Qa8,QjP]
theorem Qd9(hf:Qah ops 0 ops=some fs){listed:Array Bool}{M:Nat}{r:Row}(hl:Lm ops.length listed M)(hr:r∈Qo fs fs)(hM:has M r.i=false)(hs:YH r.need M=true):Qy ⟨ops⟩ listed r.i=true:=by
 obtain⟨o,f,e1,e2,e3,e4,e5⟩:=QaV hf hr;rw[ZY]at hM
 have hem:YH f.em M=true:=by
  cases h:YH f.em M with
  | true=>rfl
  | false=>
   obtain⟨y,h1,h2⟩:=Qg1 h;have h3:r.need.testBit y=true:=by simp_all
   grind[QdF]
 have hin:=Qcs hl e1 e2 hM hem;unfold Qy;rw[QpM hf,Bool.and_true,Bool.and_eq_true];refine⟨by simpa using hin,List.all_eq_true.2 λj hj=>?_⟩;have hjl:j<ops.length:=by simpa using hj
 have h2':ops[j]?=some ops[j]:=List.getElem?_eq_getElem hjl;obtain⟨fj,g1,g2⟩:=Qa8 hf j _ h2';rw[Nat.zero_add]at g2;have hoj:(⟨ops⟩:Array Oper)[j]?=some ops[j]:=by simpa using h2'
 have hoi:(⟨ops⟩:Array Oper)[r.i]?=some o:=by simpa using e1
 rw[hoj,hoi];simp only[Bool.or_eq_true];cases hb:Nat.beq j r.i with
 | true=>exact .inl (.inl (.inl rfl))
 | false=>
  cases hm:M.testBit j with
  | true=>exact .inl (.inl (.inr (by rw[hl.get hjl];exact hm)))
  | false=>
   cases he:fj.em.testBit r.i with
   | true=>exact .inl (.inr (by rw[<-Qal g1];exact he))
   | false=>
    refine .inr (Qqn e2 g1 ?_);cases hap:apF f fj with
    | true=>rfl
    | false=>
     have hne:j≠r.i:=λe=>by subst e;rw[Nat.beq_refl]at hb;cases hb
     have hbit:=Qhm (i:=r.i) (f:=f) g2 hne he hap;have h3:r.need.testBit j=true:=by simp_all
     grind[QdF]
noncomputable def Qdl(fs:List (Nat×Inf))(fm:Nat):Nat:=List.rec fm (λp _ ih=>Bool.rec ih (Nat.lor ih p.2.em) (has fm p.1)) fs
theorem Qel{fm i:Nat}:∀{l:List (Nat×Inf)},(Qdl l fm).testBit i=true->fm.testBit i=true\/∃p∈l,fm.testBit p.1=true/\p.2.em.testBit i=true
 | [],h=>.inl h
 | p::l,h=>by
  have hu:Qdl (p::l) fm=(Bool.rec (Qdl l fm) (Nat.lor (Qdl l fm) p.2.em) (has fm p.1):Nat):=rfl;rw[hu,ZY]at h;cases hb:fm.testBit p.1 with
  | false=>
   rw[hb]at h;rcases Qel h with h|⟨q,h1,h2⟩<;>grind
  | true=>
   rw[hb]at h;have h':((Qdl l fm) ||| p.2.em).testBit i=true:=h;rw[Nat.testBit_or,Bool.or_eq_true]at h';rcases h' with h|h
   ·rcases Qel h with h|⟨q,h1,h2⟩<;>grind
   grind
theorem QiM{x y:Nat}{o:Oper}{f:Inf}(ho:ops[x]?=some o)(hf:YL ops o=some f)(h:f.em.testBit y=true):QhT ⟨ops⟩ x y=true:=by grind[QhT,Qal]
theorem Qnc(hf:Qah ops 0 ops=some fs){r:Row}(hr:r∈Qo fs fs){i:Nat}(hne:r.i≠i)(h:has (Qdl fs r.em) i=true):Xz ⟨ops⟩ [r.i] i (Qjw (⟨ops⟩:Array Oper).size)=true:=by
 obtain⟨o,f,e1,e2,e3,e4,e5⟩:=QaV hf hr;rw[ZY]at h;have hb:Nat.beq r.i i=false:=by cases hb:Nat.beq r.i i<;>simp_all
 have hps:∃p∈Qjw (⟨ops⟩:Array Oper).size,QbO ⟨ops⟩ r.i p i=true:=by
  rcases Qel h with h|⟨p,h1,h2,h3⟩
  ·exact⟨[],List.mem_cons_self ..,QiM e1 e2 (by rw[<-e3];exact h)⟩
  ·obtain⟨j,oj,g1,g2,g3⟩:=Qfr hf p h1;have hj:p.1=j:=by omega
   have hjl:j<ops.length:=by grind
   refine⟨[j],List.mem_cons_of_mem _ (List.mem_map.2 ⟨j,by simpa using hjl,rfl⟩),?_⟩
   grind[QbO,QiM]
 grind[Xz]
noncomputable def QbD(i:Nat)(l:List Row):Option Row:=List.rec none (λr _ ih=>Bool.rec ih (some r) (Nat.beq r.i i)) l
theorem X6{i:Nat}:∀{l:List Row}{r:Row},QbD i l=some r->r∈l/\r.i=i
 | [],r,h=>by cases h
 | q::l,r,h=>by
  have hu:QbD i (q::l)=(Bool.rec (QbD i l) (some q) (Nat.beq q.i i):Option Row):=rfl;rw[hu]at h;cases hb:Nat.beq q.i i with
  | true=>simp_all
  | false=>
   rw[hb]at h;obtain⟨h1,h2⟩:=X6 h
   grind
structure Fin1 where
 i:Nat
 tm:Nat
def QaN:Option Fin1->List Nat
 | none=>[]
 | some f=>[f.i]
def Qfa(fs:List (Nat×Inf))(f:Fin1):Prop:=∃r∈Qo fs fs,r.i=f.i/\f.tm=Qdl fs r.em
noncomputable def isF(F:Option Fin1)(i:Nat):Bool:=Option.rec false (λf=>Nat.beq f.i i) F
noncomputable def Qcj(rows:List Row)(F:Option Fin1)(M i:Nat):Stp:=match QbD i rows with
 | some r=>⟨i,Bool.rec (Bool.rec false (Bool.not (isF F i)) (YH r.need M)) false (has M i),
   Bool.rec (Bool.rec false (match F with
    | none=>true
    | some f=>Bool.rec (Bool.rec false (Bool.not (has M f.i)) (has f.tm i)) false (Nat.beq f.i i)) (YH r.need M)) false (has M i),
   Bool.rec (Bool.rec false (Qhz M i rows) (YH r.em M)) false (has M i),Bool.rec none (some []) (isF F i)⟩
 | none=>⟨i,false,false,false,Bool.rec none (some []) (isF F i)⟩
theorem b3{a b c:Bool}(h:(Bool.rec (Bool.rec false c b) false a:Bool)=true):a=false/\b=true/\c=true:=by
 cases a<;>cases b<;>cases c<;>first|exact⟨rfl,rfl,rfl⟩|cases h
theorem Qb7(F:Option Fin1)(i:Nat):(QaN F).contains i=isF F i:=by
 cases F with
 | none=>rfl
 | some f=>
  show List.contains [f.i] i=Nat.beq f.i i;cases hb:Nat.beq f.i i with
  | true=>simp_all
  | false=>
   have:¬(i=f.i):=λe=>by subst e;rw[Nat.beq_refl]at hb;cases hb
   simp[this]
theorem Qm9{F:Option Fin1}{i:Nat}(h:isF F i=false):onF (QaN F) i=true:=by
 cases F with
 | none=>rfl
 | some f=>
  have hb:Nat.beq f.i i=false:=h;simp[onF,QaN,hb]
theorem QmW(hf:Qah ops 0 ops=some fs){listed:Array Bool}{M i:Nat}{F:Option Fin1}(hl:Lm ops.length listed M)(hF:∀f,F=some f->Qfa fs f) :
  ((Qcj (Qo fs fs) F M i).okP=true->(Qy ⟨ops⟩ listed i&&onF (QaN F) i)=true) /\
  ((Qcj (Qo fs fs) F M i).okQ=true->(Qy ⟨ops⟩ listed i&&(Xz ⟨ops⟩ (QaN F) i (Qjw (⟨ops⟩:Array Oper).size)&&Zv (QaN F) listed))=true) /\
  ((Qcj (Qo fs fs) F M i).okH=true->(Region.ready .any ⟨ops⟩ listed==[i])=true) /\
  (Qcj (Qo fs fs) F M i).i=i:=by
 unfold Qcj;split
 ·rename_i r hr;obtain⟨h1,rfl⟩:=X6 hr;refine⟨λh=>?_,λh=>?_,λh=>?_,rfl⟩
  ·obtain⟨g1,g2,g3⟩:=b3 h;rw[Qd9 hf hl h1 g1 g2,Bool.true_and];exact Qm9 (by simpa using g3)
  ·obtain⟨g1,g2,g3⟩:=b3 h;rw[Qd9 hf hl h1 g1 g2,Bool.true_and];cases F with
   | none=>rfl
   | some f=>
    obtain⟨g4,g5,g6⟩:=b3 g3;obtain⟨r',k1,k2,k3⟩:=hF f rfl;have hne:r'.i≠r.i:=λe=>by rw[k2]at e;rw[e,Nat.beq_refl]at g4;cases g4
    have hw:=Qnc hf k1 hne (by rw[<-k3];exact g5);rw[k2]at hw;show(Xz ⟨ops⟩ [f.i] r.i _&&Zv [f.i] listed)=true;rw[hw,Bool.true_and];simp only[Zv,List.all_cons,List.all_nil,Bool.and_true];rw[hl.not (by have:=g6;rw[ZY]at this;simpa using this)];rfl
  ·obtain⟨g1,g2,g3⟩:=b3 h;exact Qb1 hf hl h1 g1 g2 g3
 ·exact⟨(λh=>by cases h),(λh=>by cases h),(λh=>by cases h),rfl⟩
theorem Qh9{rows:List Row}{F:Option Fin1}{M i:Nat}:(Qcj rows F M i).turn=Bool.rec none (some []) (isF F i):=by
 unfold Qcj;split<;>rfl
theorem Qov{listed:Array Bool}(hl:Lm ops.length listed (2^ops.length-1)):Qqc ⟨ops⟩ listed []=true:=by
 have:Region.ready .any ⟨ops⟩ listed=[]:=by
  refine List.eq_nil_iff_forall_not_mem.2 λj hj=>?_;obtain⟨h1,o,h2,_⟩:=mem_ready.1 hj;have h2':ops[j]?=some o:=by simpa using h2
  have hjl:j<ops.length:=by grind
  rw[hl.get hjl,Nat.testBit_two_pow_sub_one]at h1;simp[hjl]at h1
 grind[Qqc]
end
end Ev
namespace Ev
open Go Go.RowKit
noncomputable def QoH(P:Program):Op->Option (Clo (Nat->Value×HX))
 | .makeMap _ none=>some ⟨λn=>(.map (some n),.mp [])⟩
 | .alloc t=>match Qz P t with
  | some z=>bif QS z then some ⟨λn=>(.pointer (some ⟨n,0,none⟩),.row ⟨t,0,z⟩)⟩else none
  | none=>none
 | _=>none
def Qrf(P:Program)(o:Oper)(L':Qa)(w0:World)(As:List HA)(c:Nat->Value×HX):Prop:=
 ∃(G:Type)(V:G->Value)(Fg:G->Prop)(A:G->HA),OpH P o L' (HS w0 [] As) V Fg (λg=>HS w0 [] (A g::As))/\∀g,Fg g->∃x:Nat×Nat,∀(ρ:Rho)(n:Nat),den (ext ρ n x) (c n).1=some (V g)/\ha (ext ρ n x) (n,(c n).2)=some (A g)
theorem QjA{P:Program}{o:Oper}{op:Op}{c:Clo (Nat->Value×HX)}(ho:o.op=op)(h:QoH P op=some c)(L':Qa)(w0:World)(As:List HA):Qrf P o L' w0 As c.run:=by
 unfold QoH at h;split at h
 ·injection h with h
  subst h;refine⟨_,_,_,_,QcX ho Qg6,λb _=>⟨(b,0),λρ n=>⟨?_,?_⟩⟩⟩
  ·simp only[den,Q0,QE,Xn,Qaw]
  ·simp only[ha,Qaw]
 ·rename_i t;split at h
  ·rename_i z hz;obtain⟨hf,rfl⟩:=bif_some h;refine⟨_,_,_,_,Qdx ho hz,λb _=>⟨(b,0),λρ n=>⟨QfT,?_⟩⟩⟩;have:=Qiy (x:=⟨t,0,z⟩) (us:=z) (d:=0) (Qaw ρ n (b,0)) (Xy hf) (.inl rfl)
   simpa using this
  ·cases h
 ·cases h
structure PF where
 q:Nat
 okP:Bool
 okM:Bool
noncomputable def cQs(P:Program)(nt dj:Nat)(ops:Array Oper):List PF->Clo (CallF->Tr Value->Hp->Nat->List Nat->Option (Tr Value×Hp×Nat))
 | []=>⟨λ_ T H n _=>some (T,H,n)⟩
 | x::l=>match ops[x.q]? with
  | some ⟨some d,op,_,_,_,none⟩=>bif Nat.blt d nt&&Bool.not (Nat.beq d dj)then⟨λF T H n R=>match(ZA P op).run F T H n with
   | .p v=>bif x.okP then(cQs P nt dj ops l).run F (XI (pth d) d v T) H n R else none
   | .new v y=>bif x.okM then(cQs P nt dj ops l).run F (XI (pth d) d v T) (Yd H n y) (Nat.succ n) R else none
   | .h v H' n'=>bif x.okM&&QgR H H' R then(cQs P nt dj ops l).run F (XI (pth d) d v T) H' n' R else none
   | _=>none⟩else⟨λ_ _ _ _ _=>none⟩
  | _=>⟨λ_ _ _ _ _=>none⟩
noncomputable def dTwo(P:Program)(nt:Nat)(ops:Array Oper)(qs:List PF)(ok:Bool)(oj:Oper)(rest:DS):DS:=match oj.dst,QoH P oj.op,oj.guard with
 | some dj,some c,none=>bif ok&&Nat.blt dj nt then⟨λF T H n R=>match(cQs P nt dj ops qs).run ⟨F.f,F.e,noY⟩ (QeN (pth dj) T) H n R with
  | some r=>rest.run F (XI (pth dj) dj (c.run r.2.2).1 r.1) (Yd r.2.1 r.2.2 (c.run r.2.2).2) (Nat.succ r.2.2) R
  | none=>.bad⟩else noD
 | _,_,_=>noD
theorem Qp4{T:Tr Value}{d t:Nat}{v:Value}(h:en (QeN (pth d) T) t=some v):t≠d/\en T t=some v:=by
 refine⟨λe=>?_,Qew _ _ _ h⟩;subst e;have h':Ye (pth t) t (QeN (pth t) T)=some v:=h;rw[YI]at h';cases h'
theorem SR.del0{ρ:Rho}{T:Tr Value}{L':Qa}{d:Nat}(h:SR ρ (en T) L'):SR ρ (en (QeN (pth d) T)) L':=λt v hv=>h t v (Qp4 hv).2
theorem SR.put1{ρ:Rho}{T:Tr Value}{L':Qa}{dj:Nat}{w u':Value}(h:SR ρ (en T) L')(hj:Qa.get L' dj=some u')(hw:den ρ w=some u'):SR ρ (en (XI (pth dj) dj w T)) L':=λt x hx=>by
 rcases Qh3 t x hx with⟨rfl,rfl⟩|⟨h1,h2⟩
 ·grind
 ·exact h t x h2
section
variable{P:Program}{r0:Rho}{w0:World}{CF:CallF}{X:Ctx}{k:List KI}{ops:Array Oper}
theorem Qpq{F:List Nat}{fuel:Nat}{listed:Array Bool}{L:Qa}{As:List HA}{B:World->Prop}{d d' ty ty':Nat}{op op':Op}{pos pos':String}{aft aft':Array Edge}{G G':Type}{V:G->Value}{Fg:G->Prop}{C:G->World->Prop}{V':G'->Value}{Fg':G'->Prop}{C':G'->World->Prop}(i j:Nat)
  (hi:ops[i]?=some ⟨some d,op,ty,pos,aft,none⟩)(hj:ops[j]?=some ⟨some d',op',ty',pos',aft',none⟩)(h:OpH X.P ⟨some d,op,ty,pos,aft,none⟩ L (HS w0 [] As) V Fg C)(h':OpH X.P ⟨some d',op',ty',pos',aft',none⟩ L (HS w0 [] As) V' Fg' C')
  (mi:i∈Region.ready .any ops listed)(mj:j∈Region.ready .any ops listed)(hr:∀q∈Region.ready .any ops listed,q=i\/q=j)(hB:∀w,HS w0 [] As w->B w)(hd:Nat.blt d X.n=true)(hd':Nat.blt d' X.n=true)
  (next:∀g,Fg g->D X ops F B fuel (listed.setIfInBounds i true) k ((d,V g)::L) (C g))(next':∀g,Fg' g->D X ops F B fuel (listed.setIfInBounds j true) k ((d',V' g)::L) (C' g)):D X ops F B (fuel+1) listed k L (HS w0 [] As):=by
 intro hcl a ha;refine⟨λ_=>⟨hB,HS.stab _ _ _⟩,λh0=>(by rw[h0]at mi;cases mi),λq hq=>?_⟩;rcases hr q hq with e|e
 ·subst e;unfold XV;simp only[hi];rw[if_pos (by simp[Region.wanted])];exact⟨G,V,Fg,C,λw hw=>h a.eval w ha.agr hw,λg hg=>next g hg (hcl.set mi) _ (ha.put d _ hd)⟩
 ·subst e;unfold XV;simp only[hj];rw[if_pos (by simp[Region.wanted])];exact⟨G',V',Fg',C',λw hw=>h' a.eval w ha.agr hw,λg hg=>next' g hg (hcl.set mj) _ (ha.put d' _ hd')⟩
end
inductive It where
 | one (i:Nat)
 | two (i j:Nat) (ps:List Nat)
inductive SI where
 | one (s:Stp)
 | two (j:Nat) (qs:List PF) (ok:Bool)
noncomputable def QaH(P:Program)(nt:Nat)(ops:Array Oper):List SI->DS
 | []=>⟨λ_ T H n _=>.nm T H n⟩
 | .one s::l=>match ops[s.i]? with
  | some o=>(match o.guard with
   | none=>dOn P nt s o (QaH P nt ops l)
   | some (j,want)=>match(ops[j]?).bind (·.dst)with
    | some dj=>⟨λF T H n R=>match Ye (pth dj) dj T with
     | some (.bool b)=>Bool.rec ((Qom nt s o.dst (QaH P nt ops l)).run F T H n R) ((dOn P nt s o (QaH P nt ops l)).run F T H n R) (b==want)
     | some (.tuple ⟨[]⟩)=>(Qom nt s o.dst (QaH P nt ops l)).run F T H n R
     | _=>.bad⟩
    | none=>noD)
  | none=>noD
 | .two j qs ok::l=>match ops[j]? with
  | some oj=>dTwo P nt ops qs ok oj (QaH P nt ops l)
  | none=>noD
noncomputable def Qrr(M i j:Nat)(rows:List Row):Bool:=Qmi (λr=>Bool.rec (Bool.rec (Bool.rec (Bool.not (YH r.em M)) true (has M r.i)) true (Nat.beq r.i j)) true (Nat.beq r.i i)) rows
noncomputable def addL(ps:List Nat):Nat->Nat:=List.rec (λM=>M) (λq _ ih M=>ih (Xg M q)) ps
noncomputable def QgE(rows:List Row)(F:Option Fin1)(M q:Nat):Bool:=match QbD q rows with
 | some r=>Bool.rec (Bool.rec (Bool.rec true false (isF F q)) false (Bool.not (YH r.need M))) false (has M q)
 | none=>false
noncomputable def QfN(rows:List Row)(M j q:Nat):Bool:=match QbD q rows,QbD j rows with
 | some rq,some rj=>Bool.not (Nat.beq q j)&&(Bool.not (has M q)&&(Bool.not (has M j)&&(YH rq.em M&&(YH rj.em M&&(Qrr M q j rows&&(YH rq.em (Xg M j)&&Qhz (Xg M j) q rows))))))
 | _,_=>false
noncomputable def QcD(rows:List Row)(F:Option Fin1)(j:Nat)(l:List Nat):Nat->List PF:=List.rec (λ_=>[]) (λq _ ih M=>⟨q,QgE rows F M q&&QgE rows F (Xg M j) q,QfN rows M j q⟩::ih (Xg M q)) l
noncomputable def Qgh(rows:List Row)(M j:Nat):Bool:=match QbD j rows with
 | some rj=>Bool.not (has M j)&&(YH rj.em M&&Qhz M j rows)
 | none=>false
noncomputable def mkF(rows:List Row):List Fin1->Option Fin1->Nat->List It->List SI
 | _,_,_,[]=>[]
 | Fs,F,M,.one i::r=>.one (Qcj rows F M i)::mkF rows (Bool.rec Fs Fs.tail (isF F i)) (Bool.rec F Fs.head? (isF F i)) (Xg M i) r
 | Fs,F,M,.two i j ps::r=>.two j (QcD rows F j (i::ps) M) (Qgh rows (addL (i::ps) M) j)::mkF rows Fs F (Xg (addL ps (Xg M i)) j) r
noncomputable def QmV(M:Nat)(l:List It):Nat:=List.rec (λM=>M) (λx _ ih M=>match x with
 | .one i=>ih (Xg M i)
 | .two i j ps=>ih (Xg (addL ps (Xg M i)) j)) l M
def QeO:List It->Nat
 | []=>0
 | .one _::l=>QeO l+1
 | .two _ _ ps::l=>QeO l+ps.length+2
def QnZ(n:Nat):It->Prop
 | .one i=>i<n
 | .two i j ps=>i<n/\j<n/\∀q∈ps,q<n
theorem Lm.perm{n:Nat}{listed:Array Bool}{M M':Nat}(h:Lm n listed M)(e:∀j,M.testBit j=M'.testBit j):Lm n listed M':=by
 have:=Nat.eq_of_testBit_eq e
 grind
section
variable{ops:List Oper}{fs:List (Nat×Inf)}
theorem QiO(hf:Qah ops 0 ops=some fs){F:Option Fin1}{listed:Array Bool}{M q:Nat}(hl:Lm ops.length listed M)(h:QgE (Qo fs fs) F M q=true):Qy ⟨ops⟩ listed q=true/\onF (QaN F) q=true:=by
 unfold QgE at h;split at h
 ·rename_i r hr;obtain⟨m1,rfl⟩:=X6 hr;cases h1:has M r.i with
  | true=>rw[h1]at h;cases h
  | false=>
   rw[h1]at h;cases h2:YH r.need M with
   | false=>rw[h2]at h;cases h
   | true=>
    rw[h2]at h;cases h3:isF F r.i with
    | true=>rw[h3]at h;cases h
    | false=>exact⟨Qd9 hf hl m1 h1 h2,Qm9 h3⟩
 ·cases h
theorem Qn6(hf:Qah ops 0 ops=some fs){listed:Array Bool}{M j q:Nat}(hl:Lm ops.length listed M)(h:QfN (Qo fs fs) M j q=true) :
  q∈Region.ready .any ⟨ops⟩ listed/\j∈Region.ready .any ⟨ops⟩ listed/\∀p∈Region.ready .any ⟨ops⟩ listed,p=q\/p=j:=by
 unfold QfN at h;split at h
 ·rename_i ri rj h1 h2;obtain⟨m1,rfl⟩:=X6 h1;obtain⟨m2,rfl⟩:=X6 h2;simp only[Bool.and_eq_true,Bool.not_eq_true']at h;obtain⟨a1,a2,a3,a4,a5,a8,_,_⟩:=h;obtain⟨oi,fi,e1,e2,e3,_,_⟩:=QaV hf m1;obtain⟨oj,fj,g1,g2,g3,_,_⟩:=QaV hf m2;rw[ZY]at a2 a3;refine⟨Qcs hl e1 e2 a2 (by rw[<-e3];exact a4),Qcs hl g1 g2 a3 (by rw[<-g3];exact a5),λq hq=>?_⟩;obtain⟨k1,o,k2,k3⟩:=mem_ready.1 hq;have k2':ops[q]?=some o:=by simpa using k2
  obtain⟨f,l1,l2⟩:=Qa8 hf q o k2';rw[Nat.zero_add]at l2;have l3:=Qd6 a8 _ (Qb3 (fs:=fs) l2);simp only[]at l3;cases hb:Nat.beq q ri.i with
  | true=>exact .inl (Nat.eq_of_beq_eq_true hb)
  | false=>
   rw[hb]at l3;cases hb2:Nat.beq q rj.i with
   | true=>exact .inr (Nat.eq_of_beq_eq_true hb2)
   | false=>
    rw[hb2]at l3;have hql:q<ops.length:=by grind
    rw[hl.get hql]at k1;rw[ZY,k1]at l3
    grind[YH,QdX]
 ·cases h
theorem Qpm(hf:Qah ops 0 ops=some fs){listed:Array Bool}{M j q:Nat}(hl:Lm ops.length listed (Xg M j))(h:QfN (Qo fs fs) M j q=true):(Region.ready .any ⟨ops⟩ listed==[q])=true:=by
 unfold QfN at h;split at h
 ·rename_i ri rj h1 h2;obtain⟨m1,rfl⟩:=X6 h1;obtain⟨m2,rfl⟩:=X6 h2;simp only[Bool.and_eq_true,Bool.not_eq_true']at h;obtain⟨a1,a2,a3,a4,a5,a8,a7,a10⟩:=h;have hne:ri.i≠rj.i:=λe=>by rw[e,Nat.beq_refl]at a1;cases a1
  refine Qb1 hf hl m1 ?_ a7 a10
  grind[ZY,Zt]
 ·cases h
theorem Qnf(hf:Qah ops 0 ops=some fs){listed:Array Bool}{M j:Nat}(hl:Lm ops.length listed M)(h:Qgh (Qo fs fs) M j=true):(Region.ready .any ⟨ops⟩ listed==[j])=true:=by
 unfold Qgh at h;split at h
 ·rename_i rj h2;obtain⟨m2,rfl⟩:=X6 h2;simp only[Bool.and_eq_true,Bool.not_eq_true']at h;exact Qb1 hf hl m2 h.1 h.2.1 h.2.2
 ·cases h
end
section
variable{P:Program}{r0:Rho}{w0:World}{CF:CallF}{X:Ctx}{k:List KI}{ops:List Oper}{fs:List (Nat×Inf)}
theorem QeU{T:Tr Value}{d dj:Nat}{v:Value}(h:en T dj=none)(hd:d≠dj):en (XI (pth d) d v T) dj=none:=by
 cases e:en (XI (pth d) d v T) dj with
 | none=>rfl
 | some x=>
  rcases Qh3 _ _ e with⟨e1,_⟩|⟨_,e2⟩
  ·exact absurd e1.symm hd
  ·rw[h]at e2;cases e2
theorem SR.past{ρ:Rho}{T:Tr Value}{L':Qa}{d:Nat}(h:SR ρ (en T) L')(hn:en T d=none)(u:Value):SR ρ (en T) ((d,u)::L'):=λt v hv=>by
 have hne:t≠d:=λe=>by subst e;rw[hn]at hv;cases hv
 obtain⟨u',h3,h4⟩:=h t v hv
 grind[Qa.get,QcL]
theorem Qjc(hF:∀r,CallOk P r CF)(hP:X.P=P)(hf:Qah ops 0 ops=some fs){F:Option Fin1}{j dj fuel Mf:Nat}{T2:Tr Value}{H2:Hp}{n2:Nat}{R:List Nat}{B:List (Nat×HX)}{Bs:List HA}{ρb:Rho}{A:HA}{u:Value}(hR:Qq (ha ρb) B=some Bs)
  (fin:∀(listed:Array Bool)(ρ2:Rho)(L2:Qa)(As2:List HA),Lm ops.length listed Mf->(ρb.wx (A::ρb.ex)).le ρ2->QB ρ2 n2->SR ρ2 (en T2) L2->Qa.get L2 dj=some u->HM ρ2 H2 As2->Q6 H2 R B->D X ⟨ops⟩ (QaN F) (HS w0 [] (Bs++ρb.ex)) fuel listed k L2 (HS w0 [] As2)) :
  ∀(l:List Nat)(M:Nat)(listed:Array Bool)(T:Tr Value)(H:Hp)(n:Nat)(ρ:Rho)(L':Qa)(As:List HA),Lm ops.length listed (Xg M j)->(∀q∈l,q<ops.length)->(∀b,(Xg (addL l M) j).testBit b=Mf.testBit b)->(cQs P X.n dj ⟨ops⟩ (QcD (Qo fs fs) F j l M)).run CF T H n R=some (T2,H2,n2) ->
  (ρb.wx (A::ρb.ex)).le ρ->SR ρ (en T) L'->Qa.get L' dj=some u->HM ρ H As->QB ρ n->Q6 H R B->D X ⟨ops⟩ (QaN F) (HS w0 [] (Bs++ρb.ex)) (fuel+l.length) listed k L' (HS w0 [] As)
 | [],M,listed,T,H,n,ρ,L',As,hl,_,he,h,hle,hs,hj,hp,hfr,hB=>by
  injection h with h
  injection h with h1 h
  injection h with h2 h3
  subst h1 h2 h3;exact fin listed ρ L' As (hl.perm he) hle hfr hs hj hp hB
 | q::l,M,listed,T,H,n,ρ,L',As,hl,hq,he,h,hle,hs,hj,hp,hfr,hB=>by
  have hql:=hq q (List.mem_cons_self ..)
  have hl2:Lm ops.length (listed.setIfInBounds q true) (Xg (Xg M q) j):=(hl.set hql).perm λb=>by
   simp only[Zt];cases M.testBit b<;>cases decide (q=b)<;>cases decide (j=b)<;>rfl
  have rec_:∀(T':Tr Value)(H':Hp)(n':Nat)(ρ':Rho)(L2:Qa)(As':List HA),_:=λT' H' n' ρ' L2 As'=>Qjc hF hP hf hR fin l (Xg M q) (listed.setIfInBounds q true) T' H' n' ρ' L2 As' hl2 (λp hp=>hq p (List.mem_cons_of_mem _ hp)) he;have hu:QcD (Qo fs fs) F j (q::l) M=⟨q,QgE (Qo fs fs) F M q&&QgE (Qo fs fs) F (Xg M j) q,QfN (Qo fs fs) M j q⟩::QcD (Qo fs fs) F j l (Xg M q):=rfl;rw[hu]at h
  have hbase:∀w,HS w0 [] As w->HS w0 [] (Bs++ρb.ex) w:=λw hw=>by
   have h1:=Qas (w0:=w0) hle hp (show Qq (ha (ρb.wx (A::ρb.ex))) B=some Bs from hR) hB w hw;exact(h1.perm (show(Bs++(A::ρb.ex)).Perm (A::(Bs++ρb.ex))from List.perm_middle)).tail
  simp only[cQs]at h;split at h
  ·rename_i d op ty pos aft ho;cases hc:Nat.blt d X.n&&Bool.not (Nat.beq d dj)with
   | false=>rw[hc]at h;cases h
   | true=>
    rw[hc]at h;simp only[cond_true]at h;simp only[Bool.and_eq_true,Bool.not_eq_true']at hc;have hne:d≠dj:=λe=>by rw[e,Nat.beq_refl]at hc;cases hc.2
    have XH:∀x:Value,Qa.get ((d,x)::L') dj=some u:=λx=>by
     simp only[Qa.get,QcL (Ne.symm hne),cond_false];exact hj
    have hcm:=Qbk P op CF trivial T H n
    have mk:∀(v:Value)(H':Hp)(n':Nat),Q1 P (en T) H n CF op=some (.h v H' n')->QfN (Qo fs fs) M j q=true->Q6 H' R B->(cQs P X.n dj ⟨ops⟩ (QcD (Qo fs fs) F j l (Xg M q))).run CF (XI (pth d) d v T) H' n' R=some (T2,H2,n2)->D X ⟨ops⟩ (QaN F) (HS w0 [] (Bs++ρb.ex)) (fuel+(q::l).length) listed k L' (HS w0 [] As):=λv H' n' hev hok hB' hrun=>by
     have ha1:=Zj (w0:=w0) (L':=L') (o:=⟨some d,op,ty,pos,aft,none⟩) (hF ρ) ρ.le_refl rfl hs hp hfr hev;have hH1:=OpT.got ha1;rw[<-hP]at hH1;refine d_h (fuel:=fuel+l.length) q ho hH1 (Qpm hf hl hok) hbase hc.1 ?_;rintro⟨⟨ρ',As',u1⟩,g1,g2,g3,g4⟩ _;exact rec_ _ H' n' ρ' ((d,u1)::L') As' hrun (Rho.le_trans hle g1) ((hs.mono g1).set g3) (XH _) g4 g2 hB'
    split at h
    ·rename_i v hr;rw[hr]at hcm;obtain⟨hok,h⟩:=bif_in h;simp only[Bool.and_eq_true]at hok;obtain⟨u1,e1,e2⟩:=Zj (w0:=w0) (L':=L') (o:=⟨some d,op,ty,pos,aft,none⟩) (hF ρ) ρ.le_refl rfl hs hp hfr hcm;rw[<-hP]at e1;have h9:=QiO hf hl hok.2;refine d_p (fuel:=fuel+l.length) q ho e1 h9.1 h9.2 hc.1 ?_;exact rec_ _ H n ρ ((d,u1)::L') As h hle (hs.set e2) (XH _) hp hfr hB
    ·rename_i v y hr;rw[hr]at hcm;obtain⟨hok,h⟩:=bif_in h;exact mk v (Yd H n y) (n+1) hcm hok (Zp hp hfr hB) h
    ·rename_i v H' n' hr;rw[hr]at hcm;obtain⟨hok,h⟩:=bif_in h;simp only[Bool.and_eq_true]at hok;exact mk v H' n' hcm hok.1 (hB.stay (QaU hok.2)) h
    ·cases h
  ·cases h
theorem QiX(hF:∀r,CallOk P r CF)(hP:X.P=P)(hf:Qah ops 0 ops=some fs){F:Option Fin1}{j dj fuel Mf:Nat}{T2:Tr Value}{H2:Hp}{n2:Nat}{R:List Nat}{B:List (Nat×HX)}{Bs:List HA}{ρb:Rho}{opj:Op}{tyj:TypeId}{posj:String}{aftj:Array Edge}{c:Clo (Nat->Value×HX)}
  (hjo:(⟨ops⟩:Array Oper)[j]?=some ⟨some dj,opj,tyj,posj,aftj,none⟩)(hnc:QoH P opj=some c)(hdj:Nat.blt dj X.n=true)(hjl:j<ops.length)(hR:Qq (ha ρb) B=some Bs)
  (fin:∀(listed:Array Bool)(ρ2:Rho)(L2:Qa)(As2:List HA),Lm ops.length listed Mf->ρb.le ρ2->QB ρ2 (n2+1)->SR ρ2 (en (XI (pth dj) dj (c.run n2).1 T2)) L2->HM ρ2 (Yd H2 n2 (c.run n2).2) As2->Q6 (Yd H2 n2 (c.run n2).2) R B->D X ⟨ops⟩ (QaN F) (HS w0 [] (Bs++ρb.ex)) fuel listed k L2 (HS w0 [] As2)) :
  ∀(l:List Nat)(M:Nat)(listed:Array Bool)(T:Tr Value)(H:Hp)(n:Nat)(ρ:Rho)(L':Qa)(As:List HA),Lm ops.length listed M->(∀q∈l,q<ops.length)->(∀b,(Xg (addL l M) j).testBit b=Mf.testBit b)->Qgh (Qo fs fs) (addL l M) j=true->(cQs P X.n dj ⟨ops⟩ (QcD (Qo fs fs) F j l M)).run CF T H n R=some (T2,H2,n2) ->
  ρb.le ρ->SR ρ (en T) L'->en T dj=none->HM ρ H As->QB ρ n->Q6 H R B->D X ⟨ops⟩ (QaN F) (HS w0 [] (Bs++ρb.ex)) (fuel+l.length+1) listed k L' (HS w0 [] As)
 | [],M,listed,T,H,n,ρ,L',As,hl,_,he,hend,h,hle,hs,hn,hp,hfr,hB=>by
  injection h with h
  injection h with h1 h
  injection h with h2 h3
  subst h1 h2 h3;obtain⟨G2,V2,Fg2,A2,hO2,hK2⟩:=QjA (o:=⟨some dj,opj,tyj,posj,aftj,none⟩) rfl hnc L' w0 As;rw[<-hP]at hO2;refine d_h (fuel:=fuel) j hjo hO2 (Qnf hf hl hend) (Qas (w0:=w0) hle hp hR hB) hdj λg hg=>?_;obtain⟨x,hx⟩:=hK2 g hg;obtain⟨e1,e2⟩:=hx ρ n;have hle2:=Qem hfr x;exact fin _ (ext ρ n x) ((dj,V2 g)::L') (A2 g::As) ((hl.set hjl).perm he) (Rho.le_trans hle hle2) (Qac hfr x) ((hs.mono hle2).set e1) ((HM.mono hle2 hp).push e2) (Zp hp hfr hB)
 | q::l,M,listed,T,H,n,ρ,L',As,hl,hq,he,hend,h,hle,hs,hn,hp,hfr,hB=>by
  have hql:=hq q (List.mem_cons_self ..);have rec_:∀(T':Tr Value)(H':Hp)(n':Nat)(ρ':Rho)(L2:Qa)(As':List HA),_:=λT' H' n' ρ' L2 As'=>QiX hF hP hf hjo hnc hdj hjl hR fin l (Xg M q) (listed.setIfInBounds q true) T' H' n' ρ' L2 As' (hl.set hql) (λp hp=>hq p (List.mem_cons_of_mem _ hp)) he hend;have hrun0:=h;have hu:QcD (Qo fs fs) F j (q::l) M=⟨q,QgE (Qo fs fs) F M q&&QgE (Qo fs fs) F (Xg M j) q,QfN (Qo fs fs) M j q⟩::QcD (Qo fs fs) F j l (Xg M q):=rfl;rw[hu]at h;have hbase:=Qas (w0:=w0) hle hp hR hB;simp only[cQs]at h;split at h
  ·rename_i d op ty pos aft ho;cases hc:Nat.blt d X.n&&Bool.not (Nat.beq d dj)with
   | false=>rw[hc]at h;cases h
   | true=>
    rw[hc]at h;simp only[cond_true]at h;simp only[Bool.and_eq_true,Bool.not_eq_true']at hc;have hne:d≠dj:=λe=>by rw[e,Nat.beq_refl]at hc;cases hc.2
    have hcm:=Qbk P op CF trivial T H n
    have mk:∀(v:Value)(H':Hp)(n':Nat),Q1 P (en T) H n CF op=some (.h v H' n')->QfN (Qo fs fs) M j q=true->Q6 H' R B->(cQs P X.n dj ⟨ops⟩ (QcD (Qo fs fs) F j l (Xg M q))).run CF (XI (pth d) d v T) H' n' R=some (T2,H2,n2)->D X ⟨ops⟩ (QaN F) (HS w0 [] (Bs++ρb.ex)) (fuel+(q::l).length+1) listed k L' (HS w0 [] As):=λv H' n' hev hok hB' hrun=>by
     have ha1:=Zj (w0:=w0) (L':=L') (o:=⟨some d,op,ty,pos,aft,none⟩) (hF ρ) ρ.le_refl rfl hs hp hfr hev;have hH1:=OpT.got ha1;rw[<-hP]at hH1;obtain⟨G,V,Fg,A,hO,hK⟩:=QjA (o:=⟨some dj,opj,tyj,posj,aftj,none⟩) rfl hnc L' w0 As;rw[<-hP]at hO;obtain⟨mq,mj,hr⟩:=Qn6 hf hl hok;refine Qpq (fuel:=fuel+(q::l).length) q j ho hjo hH1 hO mq mj hr hbase hc.1 hdj ?_ ?_
     ·rintro⟨⟨ρ',As',u1⟩,g1,g2,g3,g4⟩ _;have:=rec_ _ H' n' ρ' ((d,u1)::L') As' hrun (Rho.le_trans hle g1) ((hs.mono g1).set g3) (QeU hn hne) g4 g2 hB';exact this
     ·intro g hg;obtain⟨x,hx⟩:=hK g hg;obtain⟨G0,Bs0,f1,f2,f3⟩:=hp;have hp1':HM (ρ.wx (A g::ρ.ex)) H (Bs0++(A g::ρ.ex)):=⟨G0,Bs0,f1,f2,rfl⟩
      have hperm:(A g::As).Perm (Bs0++(A g::ρ.ex)):=by
       rw[f3];exact List.perm_middle.symm
      refine Qiz (C':=HS w0 [] (Bs0++(A g::ρ.ex))) (λw hw=>hw.perm hperm) (HS.stab _ _ _) ?_;have hexb:ρ.ex=ρb.ex:=hle.2;have hleb:(ρb.wx (A g::ρb.ex)).le (ρ.wx (A g::ρ.ex)):=⟨hle.1,by show A g::ρ.ex=A g::ρb.ex;rw[hexb]⟩;refine Qjc (T2:=T2) (H2:=H2) (n2:=n2) (R:=R) (B:=B) (ρb:=ρb) (A:=A g) (u:=V g) (dj:=dj) (F:=F) (fuel:=fuel) (Mf:=Mf) hF hP hf hR ?_ (q::l) M _ T H n (ρ.wx (A g::ρ.ex)) ((dj,V g)::L') _ (hl.set hjl) hq he hrun0 hleb ((hs.past hn (V g)).wx (A g::ρ.ex)) (by simp only[Qa.get,Nat.beq_refl,cond_true]) hp1' (show QB (ρ.wx (A g::ρ.ex)) n from hfr) hB;intro listed2 ρ2 L2 As2 hl2 hle2 hfr2 hsr2 hg2 hp2 hB2;obtain⟨G1,Bs1,k1,k2,k3⟩:=hp2;have hex:ρ2.ex=A g::ρb.ex:=hle2.2;have hle0:ρb.le (ρ2.wx ρb.ex):=⟨hle2.1,rfl⟩;have g2':QB (ρ2.wx ρb.ex) n2:=hfr2;have hle3:=Qem g2' x;obtain⟨e1,e2⟩:=hx (ρ2.wx ρb.ex) n2
      have hperm2:As2.Perm (A g::(Bs1++ρb.ex)):=by
       rw[show As2=Bs1++ρ2.ex from k3,hex];exact List.perm_middle
      refine Qiz (C':=HS w0 [] (A g::(Bs1++ρb.ex))) (λw hw=>hw.perm hperm2) (HS.stab _ _ _) ?_;have hM:HM (ρ2.wx ρb.ex) H2 (Bs1++ρb.ex):=⟨G1,Bs1,k1,k2,rfl⟩;have q3:SR (ρ2.wx ρb.ex) (en T2) L2:=hsr2;exact fin listed2 (ext (ρ2.wx ρb.ex) n2 x) L2 (A g::(Bs1++ρb.ex)) hl2 (Rho.le_trans hle0 hle3) (Qac g2' x) ((q3.mono hle3).put1 hg2 e1) ((HM.mono hle3 hM).push e2) (Zp hM g2' hB2)
    split at h
    ·rename_i v hr;rw[hr]at hcm;obtain⟨hok,h⟩:=bif_in h;simp only[Bool.and_eq_true]at hok;obtain⟨u1,e1,e2⟩:=Zj (w0:=w0) (L':=L') (o:=⟨some d,op,ty,pos,aft,none⟩) (hF ρ) ρ.le_refl rfl hs hp hfr hcm;rw[<-hP]at e1;have h9:=QiO hf hl hok.1;refine d_p (fuel:=fuel+(q::l).length) q ho e1 h9.1 h9.2 hc.1 ?_;exact rec_ _ H n ρ ((d,u1)::L') As h hle (hs.set e2) (QeU hn hne) hp hfr hB
    ·rename_i v y hr;rw[hr]at hcm;obtain⟨hok,h⟩:=bif_in h;exact mk v (Yd H n y) (n+1) hcm hok (Zp hp hfr hB) h
    ·rename_i v H' n' hr;rw[hr]at hcm;obtain⟨hok,h⟩:=bif_in h;simp only[Bool.and_eq_true]at hok;exact mk v H' n' hcm hok.1 (hB.stay (QaU hok.2)) h
    ·cases h
  ·cases h
end
section
variable{P:Program}{r0:Rho}{w0:World}{CF:CallF}{X:Ctx}{k:List KI}{ops:Array Oper}
theorem Qjx{i:Nat}{dst:Option Nat}{op:Op}{ty:TypeId}{pos:String}{aft:Array Edge}{rest:DS}{Fs:List (List Nat)}{F:List Nat}{listed:Array Bool}{fuel:Nat}{s:Stp}
  (hsP:s.okP=true->(Qy ops listed i&&onF F i)=true)(hsH:s.okH=true->(Region.ready .any ops listed==[i])=true)(hsT:s.turn.isSome=F.contains i)
  (ih:Qjj P r0 w0 CF X k ops rest (if F.contains i then Fs.headD []else F) fuel (listed.setIfInBounds i true))
  {j dj:Nat}{want:Bool}{u:Value}(ho:ops[i]?=some ⟨dst,op,ty,pos,aft,some (j,want)⟩)(hj:(ops[j]?).bind (·.dst)=some dj){T:Tr Value}{H:Hp}{n:Nat}{R:List Nat}{B:List (Nat×HX)}{ρ:Rho}{L':Qa}{As Bs:List HA}(hb:Qa.get L' dj=some u)(hw:u=.bool (!want)\/u=undef)
  (ht:QR r0 w0 ρ X k ((Qom X.n s dst rest).run CF T H n R))(hs:StOk r0 w0 ρ ⟨T,H,n⟩ L' As)(hR:Qq (ha ρ) B=some Bs)(hB:Q6 H R B):D X ops F (HS w0 [] (Bs++ρ.ex)) (fuel+1) listed k L' (HS w0 [] As):=by
 unfold Qom at ht;split at ht
 ·rename_i d;cases hlt:Nat.blt d X.n with
  | false=>rw[hlt]at ht;exact ht.elim
  | true=>
   rw[hlt]at ht;simp only[cond_true]at ht;split at ht
   ·rename_i hok;replace hok:=hsP hok;rw[Bool.and_eq_true]at hok;have hfi:=Qje hok.2;simp only[hfi,Bool.false_eq_true,if_false]at ih;have next:D X ops F (HS w0 [] (Bs++ρ.ex)) fuel (listed.setIfInBounds i true) k ((d,undef)::L') (HS w0 [] As):=ih _ H n R B ρ _ As Bs ht ⟨hs.le,hs.sr.set Qbr,hs.hp,hs.fr⟩ hR hB
    rcases hw with hw|hw
    ·subst hw;exact QoR i dj ho hj hb rfl hok.1 hok.2 hlt next
    ·subst hw;exact Qmp i dj ho hj hb hok.1 hok.2 hlt next
   ·split at ht
    ·rename_i y hr hturn
     have hfi:F.contains i=true:=by
      cases hfi:F.contains i with
      | true=>rfl
      | false=>rw[hturn,hfi]at hsT;cases hsT
     replace hr:=hsH hr;simp only[hfi,if_true]at ih;refine Qpx dj ho hj hb hw hr (Qas (w0:=w0) ρ.le_refl hs.hp hR hB) hlt ?_;refine QiF (B':=HS w0 [] ([]++ρ.ex)) (F':=Fs.headD []) ⟨i,by simpa using hfi,Qe4 hr⟩ ?_;exact ih _ H n [] [] ρ _ As [] ht ⟨hs.le,hs.sr.set Qbr,hs.hp,hs.fr⟩ rfl trivial
    ·exact ht.elim
 ·exact ht.elim
end
section
variable{P:Program}{r0:Rho}{w0:World}{CF:CallF}{X:Ctx}{k:List KI}{ops:List Oper}{fs:List (Nat×Inf)}
theorem Qca(hF:CallOk P r0 CF)(hP:X.P=P)(hf:Qah ops 0 ops=some fs):∀(order:List It)(Fs:List Fin1)(F:Option Fin1)(listed:Array Bool)(M:Nat),Lm ops.length listed M->(∀x∈order,QnZ ops.length x)->QmV M order=2^ops.length-1->(∀f,F=some f->Qfa fs f)->(∀f∈Fs,Qfa fs f)->Qjj P r0 w0 CF X k ⟨ops⟩ (QaH P X.n ⟨ops⟩ (mkF (Qo fs fs) Fs F M order)) (QaN F) (QeO order) listed
 | [],Fs,F,listed,M,hl,_,he,_,_=>λT H n R B ρ L' As Bs ht hs hR hB=>by
  have he':M=2^ops.length-1:=he;subst he';exact QoX (Qov hl) (Qas ρ.le_refl hs.hp hR hB) (ht ρ L' As ρ.le_refl hs)
 | .two i j ps::order,Fs,F,listed,M,hl,hlt,he,hFo,hFs=>by
  intro T H n R B ρ L' As Bs ht hs hR hB;obtain⟨hi,hj,hps⟩:=hlt _ (List.mem_cons_self ..);have he':QmV (Xg (addL (i::ps) M) j) order=2^ops.length-1:=he;simp only[mkF,QaH]at ht;split at ht
  ·rename_i oj e2;obtain⟨dstj,opj,tyj,posj,aftj,gj⟩:=oj;unfold dTwo at ht;simp only[]at ht;split at ht
   ·rename_i dj c hnc;cases hc:Qgh (Qo fs fs) (addL (i::ps) M) j&&Nat.blt dj X.n with
    | false=>rw[hc]at ht;exact ht.elim
    | true=>
     rw[hc]at ht;simp only[cond_true]at ht;simp only[Bool.and_eq_true]at hc;split at ht
     ·rename_i r hr;obtain⟨T2,H2,n2⟩:=r;have hF0:∀r,CallOk P r ⟨CF.f,CF.e,noY⟩:=λr=>⟨hF.f,hF.e,QbV⟩;have hlen:QeO (.two i j ps::order)=QeO order+(i::ps).length+1:=by simp only[QeO,List.length_cons];omega
      rw[hlen];have Qev:en (QeN (pth dj) T) dj=none:=YI _ _ _
      refine QiX (fuel:=QeO order) (Mf:=Xg (addL (i::ps) M) j) (ρb:=ρ) hF0 hP hf e2 hnc hc.2 hj hR ?_ (i::ps) M listed (QeN (pth dj) T) H n ρ L' As hl (λq hq=>by
       rcases List.mem_cons.1 hq with rfl|hq
       ·exact hi
       ·exact hps q hq) (λ_=>rfl) hc.1 hr ρ.le_refl hs.sr.del0 Qev hs.hp hs.fr hB
      intro listed2 ρ2 L2 As2 hl2 hle2 hfr2 hsr2 hp2 hB2;have:=Qca hF hP hf order Fs F listed2 _ hl2 (λx hx=>hlt x (List.mem_cons_of_mem _ hx)) he' hFo hFs _ _ _ R B ρ2 L2 As2 Bs (ht.mono hle2) ⟨Rho.le_trans hs.le hle2,hsr2,hp2,hfr2⟩ (Q3 (λ_ _=>Qdw hle2 _ _) hR) hB2;rw[hle2.2]at this;exact this
     ·exact ht.elim
   ·exact ht.elim
  ·exact ht.elim
 | .one i::order,Fs,F,listed,M,hl,hlt,he,hFo,hFs=>by
  intro T H n R B ρ L' As Bs ht hs hR hB;have hi:i<ops.length:=hlt _ (List.mem_cons_self ..);have he':QmV (Xg M i) order=2^ops.length-1:=he
  have ih:Qjj P r0 w0 CF X k ⟨ops⟩ (QaH P X.n ⟨ops⟩ (mkF (Qo fs fs) (Bool.rec Fs Fs.tail (isF F i)) (Bool.rec F Fs.head? (isF F i)) (Xg M i) order)) (if(QaN F).contains i then((Fs.map λf=>[f.i]).headD [])else QaN F) (QeO order) (listed.setIfInBounds i true):=by
   rw[Qb7];cases hc:isF F i with
   | false=>exact Qca hF hP hf order Fs F _ _ (hl.set hi) (λj hj=>hlt j (List.mem_cons_of_mem _ hj)) he' hFo hFs
   | true=>
    have:=Qca hF hP hf order Fs.tail Fs.head? _ _ (hl.set hi) (λj hj=>hlt j (List.mem_cons_of_mem _ hj)) he' (λf e=>hFs f (List.mem_of_mem_head? (by rw[e];rfl))) (λf e=>hFs f (List.mem_of_mem_tail e));cases Fs with
    | nil=>exact this
    | cons f Fs=>exact this
  obtain⟨s1,s2,s3,s4⟩:=QmW (i:=i) hf hl hFo
  have s5:(Qcj (Qo fs fs) F M i).turn.isSome=(QaN F).contains i:=by
   rw[Qh9,Qb7];cases isF F i<;>rfl
  simp only[mkF,QaH,s4]at ht;split at ht
  ·rename_i o ho;obtain⟨dst,op,ty,pos,aft,guard⟩:=o;cases guard with
   | none=>exact QlC (Fs:=Fs.map λf=>[f.i]) hF hP s1 s2 s3 s5 ih ho ht hs hR hB (.inl rfl)
   | some jw=>
    obtain⟨j,want⟩:=jw;simp only[]at ht;split at ht
    ·rename_i dj hj;simp only[]at ht;split at ht
     ·rename_i b hb;obtain⟨u,e1,e2⟩:=hs.sr.get (show en T dj=_ from hb);injection e2 with e2
      subst e2;cases hw:b==want with
      | true=>
       rw[hw]at ht;exact QlC (Fs:=Fs.map λf=>[f.i]) hF hP s1 s2 s3 s5 ih ho ht hs hR hB (.inr ⟨j,want,dj,b,rfl,hj,e1,by simpa using hw⟩)
      | false=>
       rw[hw]at ht;exact Qjx (Fs:=Fs.map λf=>[f.i]) s1 s3 s5 ih ho hj e1 (.inl (by cases b<;>cases want<;>simp_all)) ht hs hR hB
     ·rename_i hb;obtain⟨u,e1,e2⟩:=hs.sr.get (show en T dj=_ from hb);injection e2 with e2
      subst e2;exact Qjx (Fs:=Fs.map λf=>[f.i]) s1 s3 s5 ih ho hj e1 (.inr rfl) ht hs hR hB
     ·exact ht.elim
    ·exact ht.elim
  ·exact ht.elim
end
end Ev
end Gx
