/- Contracts of the program's functions, proved by walking them with the rules of the Gx texts; without conditions beyond those that each contract names. -/
import Derived.WalkKit
import Derived.Deep.Draws
import Derived.TacticsIn
import Derived.OrdersIn
import Derived.RangeFuncLeaves
import Derived.Lib.Strings
import Derived.Laws.BytesArg
import Derived.Laws.IdiomStrings
import Derived.Deep.Quiet
import Derived.ProofKit
import Derived.OpenShut
import Derived.Laws.StructEq
import Derived.ChangeKeysEq
import Derived.Laws.Externs
import Derived.Lib.Overlaps
import Derived.Carry
import Derived.Laws.Small
import Derived.Lib.Bytealg
import Derived.Shelf.Small.Strs
import Derived.Shelf.Small.Wraps
import Derived.Shelf.Strconv.Itoa0
import Derived.Shelf.Strconv.Itoa1
import Derived.Shelf.LaysM
import Derived.Shelf.Strconv.Itoa2
import Derived.Shelf.Strconv.Itoa3
import Derived.Shelf.Strings.Search1
import Derived.Shelf.Strings.Search2
import Derived.Shelf.Strings.Cut
import Derived.Shelf.Strings.Shaped
import Derived.Shelf.Strings.LastIndex
import Derived.Shelf.Strings.LastIndexAll
import Derived.Shelf.Strings.Prefix
import Derived.Shelf.Slices.Turned
import Derived.Shelf.Slices.Reverse
import Derived.Shelf.Slices.Equal
import Derived.Ground.Names2Prog
import Derived.Shelf.Slices.Clone
import Derived.Shelf.Slices.SearchI
import Derived.Shelf.Slices.Delete
import Derived.Shelf.Slices.Cells
import Derived.Shelf.Slices.Empties
import Derived.Shelf.Slices.Empties2
import Derived.Ground.SlgnProg
import Derived.Shelf.SlicesE.Reverse
import Derived.Shelf.SlicesE.Delete
import Derived.Shelf.SlicesE.Clone
import Derived.Test.YtmhkomoiamljeaaGreatDoorProg
import Derived.KernelRfl
import Derived.Lib.LastIndexByte
import Derived.Lib.ItoaNum
import Derived.Lib.SmallJoins
import Derived.Lib.AppendIntMem
import Derived.RangeFuncRecord
import Derived.Lib.Builder
import Derived.Laws.Pointers
import Derived.Test.YtmhkomoiamljeaaGreatDoorTie
import Derived.Test.YtmhkomoiamljeaaGreatDoorCards
import Derived.SevenTiedAt
import Derived.LaidMore
import Derived.Lay
import Derived.Stop.Joined
import Derived.Test.YtmhkomoiamljeaaGreatDoorP1
set_option linter.unusedSimpArgs false
set_option maxHeartbeats 1000000
set_option linter.unusedVariables false
set_option linter.unusedSectionVars false
set_option linter.unnecessarySimpa false
namespace Gx
namespace Ev
open Go Go.RowKit
structure HB where
 ty:Nat
 sz:Nat
 cs:List Value
inductive HX where
 | row (r:HB)
 | mp (ks:List Int)
abbrev Hp:=Tr HX
noncomputable def XC(H:Hp)(n:Nat):Option HX:=XO (pth n) n H
noncomputable def XP(H:Hp)(n:Nat)(y:HX):Hp:=Xu (pth n) n y H
noncomputable def Xq(H:Hp)(n:Nat):Option HB:=match XC H n with
 | some (.row r)=>some r
 | _=>none
noncomputable def Qdt(H:Hp)(n:Nat):Option (List Int):=match XC H n with
 | some (.mp r)=>some r
 | _=>none
noncomputable def Xs(H:Hp)(n:Nat)(y:HB):Hp:=XP H n (.row y)
noncomputable def QcH(H:Hp)(n:Nat):Hp:=Qdz (pth n) H
theorem Qa2{H:Hp}{n:Nat}{r:HB}(h:Xq H n=some r):XC H n=some (.row r):=by grind[Xq]
theorem Qj6{H:Hp}{n:Nat}{r:List Int}(h:Qdt H n=some r):XC H n=some (.mp r):=by grind[Qdt]
theorem QcB{H:Hp}{n m:Nat}{y r:HX}(h:XC (XP H n y) m=some r):(m=n/\r=y)\/(m≠n/\XC H m=some r):=by grind[XC,XP,Yh,X5]
theorem Qb1{H:Hp}{n m:Nat}{y:HX}(hm:m≠n):XC (XP H n y) m=XC H m:=QaH hm _ _ _ λe=>hm (Qhg e)
theorem Qae{H:Hp}{n m:Nat}(hm:m≠n):XC (QcH H n) m=XC H m:=QaR _ _ _ λe=>hm (Qhg e)
theorem QfB{H:Hp}{n m:Nat}{r:HX}(h:XC (QcH H n) m=some r):m≠n/\XC H m=some r:=by grind[Qdb,XC,QcH,Yl]
def QaG:List (Nat×HX)->Nat->Option HX
 | [],_=>none
 | (k,x)::H,n=>bif Nat.beq k n then some x else QaG H n
def Qfs:List (Nat×HX)->Nat->HX->List (Nat×HX)
 | [],_,_=>[]
 | (k,x)::H,n,y=>bif Nat.beq k n then(k,y)::H else(k,x)::Qfs H n y
def QeT:List (Nat×HX)->Nat->List (Nat×HX)
 | [],_=>[]
 | (k,x)::H,n=>bif Nat.beq k n then H else(k,x)::QeT H n
def QbH(x:HB)(d:Nat):Prop:=d=0\/x.cs.length+d*x.sz<=maxLen*x.sz
abbrev QfA:Int->Value:=λn=>.int .i64 n
open Classical in
noncomputable def ha(ρ:Rho)(p:Nat×HX):Option HA:=match p.2 with
 | .row x=>match ρ p.1,Qg (Qt ρ) x.cs with
  | some (b,d),some us=>if QbH x d then some (.blk b x.ty (us.length+d*x.sz) us)else none
  | _,_=>none
 | .mp ks=>match ρ p.1 with
  | some (b,0)=>some (.mp b QfA ks)
  | _=>none
theorem QeF{ρ:Rho}{n:Nat}{x:HB}{A:HA}(h:ha ρ (n,.row x)=some A):∃b d us,ρ n=some (b,d)/\Qg (Qt ρ) x.cs=some us/\QbH x d/\A=.blk b x.ty (us.length+d*x.sz) us:=by grind[ha]
theorem QgS{ρ:Rho}{n:Nat}{x:HB}{b d:Nat}{us:List Value}(h1:ρ n=some (b,d))(h2:Qg (Qt ρ) x.cs=some us)(h3:QbH x d):ha ρ (n,.row x)=some (.blk b x.ty (us.length+d*x.sz) us):=by grind[ha]
theorem Qjv{ρ:Rho}{n:Nat}{ks:List Int}{A:HA}(h:ha ρ (n,.mp ks)=some A):∃b,ρ n=some (b,0)/\A=.mp b QfA ks:=by grind[ha]
theorem QiZ{ρ:Rho}{p:Nat×HX}{A:HA}(h:ha ρ p=some A):∃x,ρ p.1=some x:=by
 obtain⟨n,x⟩:=p;cases x<;>grind[QeF,ks,Qjv]
theorem Qcm{ρ ρ':Rho}(h:ρ.le ρ')(p:Nat×HX)(A:HA)(e:ha ρ p=some A):ha ρ' p=some A:=by
 obtain⟨n,x⟩:=p;cases x with
 | row x=>
  obtain⟨b,d,us,h1,h2,h3,rfl⟩:=QeF e;exact QgS (h.1 _ _ h1) (QS (QbF h) h2) h3
 | mp ks=>
  obtain⟨b,h1,rfl⟩:=Qjv e;simp only[ha,h.1 _ _ h1]
theorem QbD{k m:Nat}(h:m≠k):Nat.beq k m=false:=by cases hz:Nat.beq k m<;>simp_all
theorem QeD{ρ:Rho}{n:Nat}{x:HX}:∀{H:List (Nat×HX)}{As:List HA},Qg (ha ρ) H=some As->QaG H n=some x->∃A Rs,ha ρ (n,x)=some A/\QD As A Rs /\
  (∀(x':HX)(A':HA),ha ρ (n,x')=some A'->∃As2,Qg (ha ρ) (Qfs H n x')=some As2/\(A'::Rs).Perm As2/\∀m,QaG (Qfs H n x') m=bif Nat.beq m n then some x' else QaG H m) /\
  ∃As3,Qg (ha ρ) (QeT H n)=some As3/\Rs.Perm As3/\∀m,m≠n->QaG (QeT H n) m=QaG H m
 | [],As,_,h=>by cases h
 | (k,y)::H,As,e,h=>by
  simp only[Qg]at e;split at e
  ·rename_i A As' h1 h2;injection e with e
   subst e;simp only[QaG]at h;cases hb:Nat.beq k n with
   | true=>
    rw[hb]at h;injection h with h
    subst h;have hk:=Nat.eq_of_beq_eq_true hb;subst hk;refine⟨A,As',h1,.here,λx' A' e1=>⟨_,?_,.refl _,λm=>?_⟩,As',?_,.refl _,λm hm=>?_⟩
    ·grind[Qfs,Qg]
    ·grind[Qfs,QaG,QbD]
    ·grind[QeT]
    grind[QeT,QaG,QbD]
   | false=>
    rw[hb]at h;obtain⟨A0,Rs,g1,g4,g5,As3,g6,g7,g8⟩:=QeD h2 h;refine⟨A0,A::Rs,g1,g4.there,λx' A' e1=>?_,A::As3,?_,g7.cons _,λm hm=>?_⟩
    ·obtain⟨As2,e3,e4,e5⟩:=g5 x' A' e1;refine⟨A::As2,by simp only[Qfs,hb,cond_false,Qg,h1,e3],(List.Perm.swap ..).trans (e4.cons _),λm=>?_⟩;simp only[Qfs,hb,cond_false,QaG,e5];cases hq:Nat.beq k m<;>simp_all
    ·grind[QeT,Qg]
    grind[QeT,QaG]
  ·cases e
def HM(ρ:Rho)(H:Hp)(As:List HA):Prop:=∃(G:List (Nat×HX))(Bs:List HA),(∀m r,XC H m=some r->QaG G m=some r)/\Qg (ha ρ) G=some Bs/\As=Bs++ρ.ex
theorem HM.mono{ρ ρ':Rho}(h:ρ.le ρ'){H:Hp}{As:List HA}:HM ρ H As->HM ρ' H As:=λ⟨G,Bs,h1,h2,h3⟩=>⟨G,Bs,h1,QS (Qcm h) h2,by rw[h.2];exact h3⟩
theorem HM.push{ρ:Rho}{H:Hp}{As:List HA}{n:Nat}{x:HX}{A:HA}(h:HM ρ H As)(hA:ha ρ (n,x)=some A):HM ρ (XP H n x) (A::As):=by
 obtain⟨G,Bs,h1,h2,h3⟩:=h;refine⟨(n,x)::G,A::Bs,λm r hm=>?_,by simp only[Qg,hA,h2],by rw[h3];rfl⟩;simp only[QaG];rcases QcB hm with⟨rfl,rfl⟩|⟨h3,h4⟩
 ·simp[Nat.beq_refl]
 grind[QbD]
theorem QmJ{ρ:Rho}{n:Nat}{x:HX}{H:Hp}{As:List HA}(hH:HM ρ H As)(h:XC H n=some x):∃A Rs,ha ρ (n,x)=some A/\QD As A Rs /\
  (∀(x':HX)(A':HA),ha ρ (n,x')=some A'->∃As2,HM ρ (XP H n x') As2/\(A'::Rs).Perm As2) /\
  ∃As3,HM ρ (QcH H n) As3/\Rs.Perm As3:=by
 obtain⟨G,Bs,h1,h2,rfl⟩:=hH;obtain⟨A,Rs,g1,g4,g5,As3,g6,g7,g8⟩:=QeD h2 (h1 _ _ h);refine⟨A,Rs++ρ.ex,g1,g4.append_right _,λx' A' e1=>?_,As3++ρ.ex,⟨QeT G n,As3,λm r hm=>?_,g6,rfl⟩,g7.append_right _⟩
 ·obtain⟨As2,e3,e4,e5⟩:=g5 x' A' e1;refine⟨As2++ρ.ex,⟨Qfs G n x',As2,λm r hm=>?_,e3,rfl⟩,e4.append_right _⟩;rw[e5];rcases QcB hm with⟨rfl,rfl⟩|⟨h3,h4⟩
  ·simp[Nat.beq_refl]
  ·rw[QbD (Ne.symm h3)];exact h1 m r h4
 ·obtain⟨h3,h4⟩:=QfB hm;rw[g8 m h3];exact h1 m r h4
theorem Xd{ρ:Rho}{n:Nat}{x:HB}{H:Hp}{As:List HA}(hH:HM ρ H As)(h:Xq H n=some x):∃b d us Rs,ρ n=some (b,d)/\Qg (Qt ρ) x.cs=some us/\QbH x d/\QD As (.blk b x.ty (us.length+d*x.sz) us) Rs /\
  (∀(x':HB)(us':List Value),Qg (Qt ρ) x'.cs=some us'->QbH x' d->∃As2,HM ρ (Xs H n x') As2/\(HA.blk b x'.ty (us'.length+d*x'.sz) us'::Rs).Perm As2) /\
  ∃As3,HM ρ (QcH H n) As3/\Rs.Perm As3:=by
 obtain⟨A,Rs,g1,g4,g5,g6⟩:=QmJ hH (Qa2 h);obtain⟨b,d,us,e1,e2,e3,rfl⟩:=QeF g1;exact⟨b,d,us,Rs,e1,e2,e3,g4,λx' us' f1 f2=>g5 (.row x') _ (QgS e1 f1 f2),g6⟩
theorem Qjw{ρ:Rho}{n:Nat}{ks:List Int}{H:Hp}{As:List HA}(hH:HM ρ H As)(h:Qdt H n=some ks):∃b Rs,ρ n=some (b,0)/\QD As (.mp b QfA ks) Rs /\
  ∀ks',∃As2,HM ρ (XP H n (.mp ks')) As2/\(HA.mp b QfA ks'::Rs).Perm As2:=by
 obtain⟨A,Rs,g1,g4,g5,g6⟩:=QmJ hH (Qj6 h);obtain⟨b,e1,rfl⟩:=Qjv g1;exact⟨b,Rs,e1,g4,λks'=>g5 (.mp ks') _ (by simp only[ha,e1])⟩
def Qq(ρ:Rho)(n:Nat):Prop:=∀k,n<=k->ρ k=none
def ext(ρ:Rho)(n:Nat)(x:Nat×Nat):Rho:=⟨λk=>bif Nat.beq k n then some x else ρ k,ρ.ex⟩
theorem ZM(ρ:Rho)(n:Nat)(x:Nat×Nat):ext ρ n x n=some x:=by simp[ext,Nat.beq_refl]
theorem Qc5{ρ:Rho}{n:Nat}(h:Qq ρ n)(x:Nat×Nat):ρ.le (ext ρ n x):=⟨λk y hk=>by
 unfold ext;simp only[];cases hb:Nat.beq k n with
 | true=>
  have:=Nat.eq_of_beq_eq_true hb;subst this;rw[h k (Nat.le_refl _)]at hk;cases hk
 | false=>exact hk,rfl⟩
theorem Zt{ρ:Rho}{n:Nat}(h:Qq ρ n)(x:Nat×Nat):Qq (ext ρ n x) (n+1):=λk hk=>by
 show(bif Nat.beq k n then some x else ρ k)=none;cases hb:Nat.beq k n with
 | true=>
  have:=Nat.eq_of_beq_eq_true hb;omega
 | false=>exact h k om
def Out(w0:World)(ρ:Rho)(v:Value)(H':Hp)(n':Nat)(u:Value)(C:World->Prop):Prop:=
 ∃ρ' As',ρ.le ρ'/\Qq ρ' n'/\den ρ' v=some u/\HM ρ' H' As'/\∀w,C w->HS w0 [] As' w
def OpT(P:Program)(o:Oper)(L':Qa)(C:World->Prop)(K:Value->(World->Prop)->Prop):Prop:=
 ∃(G:Type)(V:G->Value)(F:G->Prop)(C':G->World->Prop),OpH P o L' C V F C'/\∀g,F g->K (V g) (C' g)
section
variable{P:Program}{o:Oper}{L':Qa}{w0:World}{ρ:Rho}{L:Env}{H:Hp}{n:Nat}{As:List HA}
theorem OpT.of_p{v u:Value}(h:OpP P o L' u)(hd:den ρ v=some u)(hH:HM ρ H As)(hf:Qq ρ n):OpT P o L' (HS w0 [] As) (Out w0 ρ v H n):=
 ⟨Unit,_,_,_,(h.q (HS w0 [] As)).h (HS.stab _ _ _),λ_ _=>⟨ρ,As,ρ.le_refl,hf,hd,hH,λ_ h=>h⟩⟩
theorem OpT.of_q{v u:Value}(h:OpQ P o L' (HS w0 [] As) u)(hd:den ρ v=some u)(hH:HM ρ H As)(hf:Qq ρ n):OpT P o L' (HS w0 [] As) (Out w0 ρ v H n):=
 ⟨Unit,_,_,_,h.h (HS.stab _ _ _),λ_ _=>⟨ρ,As,ρ.le_refl,hf,hd,hH,λ_ h=>h⟩⟩
theorem Zz{b d:Nat}{x:HB}{us:List Value}{v u:Value}{C:World->Prop}(hH:HM ρ H As)(hf:Qq ρ n)(hc:Qg (Qt ρ) x.cs=some us)(hr:QbH x d)(hv:den (ext ρ n (b,d)) v=some u)(hC:∀w,C w->HS w0 [] (.blk b x.ty (us.length+d*x.sz) us::As) w):Out w0 ρ v (Xs H n x) (n+1) u C:=by
 have hle:=Qc5 hf (b,d);refine⟨ext ρ n (b,d),_,hle,Zt hf _,hv,?_,hC⟩;exact(HM.mono hle hH).push (QgS (ZM ρ n (b,d)) (QS (QbF hle) hc) hr)
theorem Qni{t x:Nat}{m i sz:Nat}{ag:Bool}{r:HB}{v:Value}(ho:o.op=.load t (.tmp x))(hs:SR ρ L L')(hH:HM ρ H As)(hx:L x=some (.pointer (some ⟨m,i,none⟩)))(hg:Xq H m=some r)(hz:tsz P t=some (sz,ag))
  (h:(if ag then(bif Nat.ble (i+sz) r.cs.length then some (.agg (cut r.cs i sz).toArray)else none)else(bif Nat.beq sz 1 then r.cs[i]? else none))=some v):∃u,OpQ P o L' (HS w0 [] As) u/\den ρ v=some u:=by
 obtain⟨b,d,us,Rs,g1,g2,g3,g4,_,_⟩:=Xd hH hg;obtain⟨u,e1,e2⟩:=hs.get hx;simp only[den,QQ,Qt,Q8,g1,Option.some.injEq]at e2;subst e2;cases ag with
 | true=>
  simp only[if_true]at h;cases hb:Nat.ble (i+sz) r.cs.length with
  | false=>rw[hb]at h;cases h
  | true=>
   rw[hb]at h;injection h with h
   subst h;refine⟨_,Yk ho e1 hz g4 (by rw[Qz g2];exact hb),?_⟩
   grind[den,QQ,cut,QX,XK]
 | false=>
  cases hb:Nat.beq sz 1 with
  | false=>rw[hb]at h;simp at h
  | true=>
   rw[hb]at h;have hk:=Nat.eq_of_beq_eq_true hb;subst hk;have h':r.cs[i]?=some v:=by simpa using h
   obtain⟨u,e3,e4⟩:=Zs g2 h'
   grind[Qgk,Qb4,QaW]
theorem Qjr{v u:Value}(e:Q8 ρ v=some u):u.oneCell'=true:=by
 cases v<;>simp only[Q8]at e<;>first
  | (injection e with e;subst e;rfl)
  | ((repeat' split at e)<;>first|(injection e with e;subst e;rfl)|cases e)
  | cases e
theorem QiB{v u:Value}(e:Qt ρ v=some u):u.oneCell'=true:=by
 cases v with
 | func f a b=>
  simp only[Qt]at e;split at e
  ·injection e with e;subst e;rfl
  ·cases e
 | _=>grind[Qt,Qjr]
theorem XU{vs us:List Value}(h:Qg (Qt ρ) vs=some us):us.all (·.oneCell')=true:=by
 refine List.all_eq_true.2 λu hu=>?_;obtain⟨a,_,e⟩:=QfF h hu;exact QiB e
theorem QkY{t x:Nat}{y:Operand}{m i sz:Nat}{ag:Bool}{r:HB}{v:Value}(ho:o.op=.store t (.tmp x) y)(hs:SR ρ L L')(hH:HM ρ H As)(hf:Qq ρ n)(hx:L x=some (.pointer (some ⟨m,i,none⟩)))(hy:opd L y=some v)(hn:Yz v=true)(hg:Xq H m=some r)(hz:tsz P t=some (sz,ag))
  (hl:v.cells.toList.length=sz)(hr:i+sz<=r.cs.length):OpT P o L' (HS w0 [] As) (Out w0 ρ undef (Xs H m {r with cs:=Qb r.cs i v.cells.toList}) n):=by
 obtain⟨b,d,us,Rs,g1,g2,g3,g4,g5,_⟩:=Xd hH hg;obtain⟨p,e1,e2⟩:=hs.get hx;simp only[den,QQ,Qt,Q8,g1,Option.some.injEq]at e2;subst e2;obtain⟨u,e3,e4⟩:=X9 hs hy;have hc:=QeS hn e4;have hlu:=Qz hc;have hl2:=Qz g2;have Xs:=Xp i g2 hc;obtain⟨As2,g6,g7⟩:=g5 {r with cs:=Qb r.cs i v.cells.toList} _ Xs (by unfold QbH at *;simpa[Qd]using g3);have hS:=YD (w0:=w0) (M:=[]) (As:=As) (As':=.blk b r.ty (us.length+d*r.sz) (Qb us i u.cells.toList)::Rs) (tot:=us.length+d*r.sz) ho e1 e3 hz (by rw[hlu];exact hl) ⟨Rs,g4,.refl _⟩ (by rw[hl2];exact hr) (XU hc);refine⟨_,_,_,_,hS,λ_ _=>⟨ρ,As2,ρ.le_refl,hf,?_,g6,λw hw=>?_⟩⟩
 ·rfl
 ·have:HS w0 [] (.blk b r.ty ((Qb us i u.cells.toList).length+d*r.sz) (Qb us i u.cells.toList)::Rs) w:=by rw[Qd];exact hw
  exact this.perm g7
theorem QeN{m b d i:Nat}:den (ext ρ m (b,d)) (.pointer (some ⟨m,i,none⟩))=some (.pointer (some ⟨b,i,none⟩)):=by simp only[den,QQ,Qt,Q8,ZM]
theorem Qc9{m b d i l c:Nat}:den (ext ρ m (b,d)) (.slice (some ⟨m,i,none⟩) l c)=some (.slice (some ⟨b,i,none⟩) l (c+d)):=by simp only[den,QQ,Qt,Q8,ZM]
theorem Qld{t:TypeId}{z:List Value}(ho:o.op=.alloc t)(hz:Qs P t=some z)(hfl:QI z=true)(hH:HM ρ H As)(hf:Qq ρ n):OpT P o L' (HS w0 [] As) (Out w0 ρ (.pointer (some ⟨n,0,none⟩)) (Xs H n ⟨t,0,z⟩) (n+1)):=
 ⟨_,_,_,_,Qa9 ho hz,λb _=>Zz (d:=0) hH hf (Xe hfl) (.inl rfl) QeN λw hw=>by rw[Nat.zero_mul,Nat.add_zero];exact hw⟩
theorem Qn4{t:TypeId}{x:Operand}{v:Value}(ho:o.op=.box t x)(hs:SR ρ L L')(hx:opd L x=some v)(hn:Yz v=true)(hH:HM ρ H As)(hf:Qq ρ n):OpT P o L' (HS w0 [] As) (Out w0 ρ (.pointer (some ⟨n,0,none⟩)) (Xs H n ⟨t,0,v.cells.toList⟩) (n+1)):=by
 obtain⟨u,e1,e2⟩:=X9 hs hx;exact⟨_,_,_,_,Qmn ho e1,λb _=>Zz (d:=0) hH hf (QeS hn e2) (.inl rfl) QeN λw hw=>by rw[Nat.zero_mul,Nat.add_zero];exact hw⟩
theorem Qeb{t e sz by' len:Nat}{parts:Array (Nat×Operand)}{vs:List (Nat×Value)}{z cs:List Value}(ho:o.op=.buildSlice t len parts)(hs:SR ρ L L')(hp:Qbj L parts.toList=some vs)(ht:tsl P t=some (e,sz,by'))(hz:Qs P e=some z)(hfl:QI z=true)(hlen:Nat.ble (len*sz) 16777216=true)(h0:Nat.blt 0 (len*sz)=true)
  (hc:Yp (λi=>some (i*sz,sz)) ((List.range (len*sz)).map λi=>z.getD (i%z.length) default) vs=some cs)(hfz:QI ((List.range (len*sz)).map λi=>z.getD (i%z.length) default)=true)(hH:HM ρ H As)(hf:Qq ρ n):OpT P o L' (HS w0 [] As) (Out w0 ρ (.slice (some ⟨n,0,none⟩) len len) (Xs H n ⟨e,sz,cs⟩) (n+1)):=by
 obtain⟨us,e1,e2⟩:=Qcr hs hp;obtain⟨ts,e3,e4⟩:=Qcp e2 (Xe hfz) hc;exact⟨_,_,_,_,Qp ho e1 ht hz hlen h0 e3,λb _=>Zz (d:=0) hH hf e4 (.inl rfl) (by rw[Qc9];rfl) λw hw=>by rw[Nat.zero_mul,Nat.add_zero];exact hw⟩
theorem HS.own_some{w:World}{M:List Nat}{As:List HA}{b t sz n cap:Nat}{xs:List Value}(h:HS w0 M (.own (.slice (some ⟨b,0,none⟩) n cap) t sz n xs::As) w):HS w0 M (.blk b t (cap*sz) xs::As) w:=by
 refine h.turn (λc hc=>by simpa[HA.fp_own,HA.fp_blk,Value.ownBlock]using hc) λho=>?_;obtain⟨hl,⟨e,_⟩|⟨g,cap',e,h2,h3,hb⟩⟩:=ho
 ·cases e
 ·injection e with e1 e2 e3
  injection e1 with e1
  injection e1 with e1 _ _
  subst e1 e3;exact hb
theorem QdD{t e sz by':Nat}(ho:o.op=.buildSlice t 0 #[])(ht:tsl P t=some (e,sz,by'))(hH:HM ρ H As)(hf:Qq ρ n):OpT P o L' (HS w0 [] As) (Out w0 ρ (.slice (some ⟨n,0,none⟩) 0 0) (Xs H n ⟨e,sz,[]⟩) (n+1)):=
 ⟨_,_,_,_,QdF ho ht,λb _=>Zz (d:=0) (us:=[]) hH hf rfl (.inl rfl) (by rw[Qc9]) λw hw=>by have:=HS.own_some hw;simpa using this⟩
theorem QlM{t e sz by' k n:Nat}{x y:Operand}{z:List Value}(ho:o.op=.makeSlice t x y)(hx:Gx.ev L' x=some (.int .i64 (k:Int)))(hy:Gx.ev L' y=some (.int .i64 (n:Int)))(ht:tsl P t=some (e,sz,by'))(hz:Qs P e=some z)(hlen:n*by'<=281474976710656)(hn:n<=16777216)(hkn:k<=n) :
  OpH P o L' (HS w0 [] As) (λb:Nat=>.slice (some ⟨b,0,none⟩) k n) (λ_=>True) (λb=>HS w0 [] (.blk b e (n*sz) (QW z (n*sz))::As)):=by
 intro ρ w hρ hw;obtain⟨hu,inf,h1,h2,h3⟩:=QK ht;have hsz:∀w,(Go.sizeOf e).run P w=.ok sz w:=λw=>by simp[Go.sizeOf,typeInfo,h1,h2]
 have hti:(typeInfo e).run P w=.ok inf w:=by simp[typeInfo,h1]
 obtain⟨zv,hz',hzr⟩:∃zv:Value,zv.cells.toList=z/\∀w,(zeroValue e).run P w=.ok zv w:=by
  unfold Qs at hz;rw[h1]at hz;simp only[Option.bind_some]at hz;cases hzz:inf.zero with
  | none=>rw[hzz]at hz;cases hz
  | some v=>rw[hzz]at hz;simp only[Option.map_some,Option.some.injEq]at hz;exact⟨v,hz,λw=>by simp[zeroValue,typeInfo,h1,hzz]⟩
 have hwr:IntKind.i64.wrap (n:Int)=n:=IntWalk.i64_in _ ⟨om,om⟩;have hwk:IntKind.i64.wrap (k:Int)=k:=IntWalk.i64_in _ ⟨om,om⟩;have hz'':zv.cells=z.toArray:=by rw[<-hz']
 have hpr:((inf.bytes:Nat):Int)*(n:Int)<=281474976710656:=by grind
 have e2:(2:Int)^48=281474976710656:=by decide
 have d1:¬((inf.bytes:Nat):Int)*(n:Int)>2^48:=by rw[e2];omega
 have d1k:¬((inf.bytes:Nat):Int)*(k:Int)>2^48:=by
  have h8:((inf.bytes:Nat):Int)*(k:Int)<=((inf.bytes:Nat):Int)*(n:Int):=Int.mul_le_mul_of_nonneg_left om om;rw[e2];omega
 have d2:¬(n:Int)<0:=om
 have d2k:¬(k:Int)<0:=om
 have d3:¬(k:Int)>n:=om
 have hai:∀(q:Nat)w,(asInt (.int .i64 (q:Int))).run P w=.ok (q:Int) w:=λq w=>by simp[asInt,asIntOf]
 have hb:(Instr.makeSlice t (.int .i64 k) (.int .i64 n)).run P w=.ok (.slice (some ⟨w.heap.size,0,none⟩) k n) (w.alloc (.cells (QW z (n*sz)).toArray e)):=by
  unfold Instr.makeSlice;simp only[Sem.run_bind,run_underlying hu,Result.andThen_ok,hsz,hai,Sem.run_pure,hti,hwr,hwk,d1,d1k,d2,d2k,d3,decide_false,Bool.or_false,Bool.false_eq_true,if_false,run_askRoom,Int.toNat_natCast]
  by_cases h0:n*sz=0
  ·have e1:∀q:Array Value,(Array.map (λx=>q[x%q.size]!) (Array.range 0))= #[]:=λq=>Array.eq_empty_of_size_eq_zero (by simp);have e3:(QW z (n*sz)).toArray= #[]:=by rw[h0];rfl
   simp only[h0,if_true,Sem.run_bind,Sem.run_pure,Result.andThen_ok,newRow,run_newObj,World.alloc_eq,e1,e3];simp only[h0]at e3;rw[e3]
  ·simp only[if_neg h0,Sem.run_bind,hzr,Sem.run_pure,Result.andThen_ok,newRow,run_newObj,World.alloc_eq,hz''];congr 2;simp[QW,<-List.toArray_range]
 simp only[execOp,ho,Sem.run_bind,hρ _ _ hx,hρ _ _ hy,hb,Result.andThen_ok,Sem.run_pure];have h4:=hw.blk_new e (QW z (n*sz)).toArray;refine⟨w.heap.size,rfl,trivial,?_⟩
 simpa[Qk]using h4
theorem Qe8{t e sz by' k c:Nat}{x y:Operand}{z:List Value}(ho:o.op=.makeSlice t x y)(hs:SR ρ L L')(hx:opd L x=some (.int .i64 (k:Int)))(hy:opd L y=some (.int .i64 (c:Int)))(hkc:k<=c)(ht:tsl P t=some (e,sz,by'))(hz:Qs P e=some z)(hb:c*by'<=281474976710656)(hk:c<=16777216)(hfz:QI (QW z (c*sz))=true)(hH:HM ρ H As)(hf:Qq ρ n) :
  OpT P o L' (HS w0 [] As) (Out w0 ρ (.slice (some ⟨n,0,none⟩) k c) (Xs H n ⟨e,sz,QW z (c*sz)⟩) (n+1)):=
 ⟨_,_,_,_,QlM ho (Qc hs hx rfl) (Qc hs hy rfl) ht hz hb hk hkc,λb _=>Zz (d:=0) hH hf (Xe hfz) (.inl rfl) (by rw[Qc9]<;>rfl) λw hw=>by rw[Qk,Nat.zero_mul,Nat.add_zero];exact hw⟩
theorem Qmb{src dst e:TypeId}{x:Operand}{l:List UInt8}(ho:o.op=.convert src dst x)(hs:SR ρ L L')(hx:opd L x=some (.string ⟨⟨l⟩⟩))(h1:P.underlying src=some .string)(h2:P.underlying dst=some (.slice e))(h3:P.underlying e=some (.int .u8))(h5:e=u8T)(hl:l.length<=maxLen)(hH:HM ρ H As)(hf:Qq ρ n) :
  OpT P o L' (HS w0 [] As) (Out w0 ρ (.slice (some ⟨n,0,none⟩) l.length l.length) (Xs H n ⟨e,1,l.map λb=>.int .u8 (b.toNat:Int)⟩) (n+1)):=by
 have hfl:QI (l.map λb=>Value.int .u8 (b.toNat:Int))=true:=by
  unfold QI;rw[List.all_map];exact List.all_eq_true.2 λ_ _=>rfl
 refine⟨_,_,_,_,Y6 ho (Qc hs hx rfl) h1 h2 h3 h5 hl,λp hp=>Zz (b:=p.1) (d:=p.2-l.length) hH hf (Xe hfl) (.inr ?_) ?_ λw hw=>?_⟩
 ·grind
 ·grind[Qc9]
 grind
theorem Qh2{t:TypeId}(ho:o.op=.makeMap t none)(hH:HM ρ H As)(hf:Qq ρ n):OpT P o L' (HS w0 [] As) (Out w0 ρ (.map (some n)) (XP H n (.mp [])) (n+1)):=by
 refine⟨_,_,_,_,QbM ho QfA,λb _=>?_⟩;have hle:=Qc5 hf (b,0);refine⟨ext ρ n (b,0),_,hle,Zt hf _,?_,(HM.mono hle hH).push (A:=.mp b QfA []) (by simp only[ha,ZM]),λw hw=>hw⟩;simp only[den,QQ,Qt,Q8,ZM]
def Qej(a:Int):List Int->Bool
 | []=>false
 | b::l=>bif decide (a=b)then true else Qej a l
theorem Qez(a:Int):∀l,Qej a l=decide (a∈l)
 | []=>by simp[Qej]
 | b::l=>by simp_all[Qej,Qez]
theorem Qhz{x:Operand}{m:Nat}(hs:SR ρ L L')(h:opd L x=some (.map (some m))):∃b d,ρ m=some (b,d)/\ev L' x=some (.map (some b)):=by grind[X9,den,QQ,Qt,Q8]
theorem QiG{t kt et r:Nat}{m x:Operand}{a:Int}{ks:List Int}(ho:o.op=.lookup t m x false)(hs:SR ρ L L')(hH:HM ρ H As)(hm:opd L m=some (.map (some r)))(hx:opd L x=some (.int .i64 a))(ht:P.underlying t=some (.map kt et))(hz:tzv P et=some (.bool false))(hk:tki P kt=some .i64)(hg:Qdt H r=some ks) :
  ∃u,OpQ P o L' (HS w0 [] As) u/\den ρ (.bool (Qej a ks))=some u:=by
 obtain⟨b,Rs,g1,g2,_⟩:=Qjw hH hg;obtain⟨b',d',e1,e2⟩:=Qhz hs hm;rw[g1]at e1;injection e1 with e1
 injection e1 with e1 _
 subst e1;rw[Qez];exact⟨_,Qfp ho e2 (Qc hs hx rfl) ht hz (Qhs hk) g2,by simp only[den,QQ,Qt,Q8];congr⟩
theorem QeY{t kt et r:Nat}{m x y:Operand}{a:Int}{ks:List Int}(ho:o.op=.mapUpdate t m x y\/o.op=.insert t m x y)(hs:SR ρ L L')(hH:HM ρ H As)(hf:Qq ρ n)(hm:opd L m=some (.map (some r)))(hx:opd L x=some (.int .i64 a))(hy:opd L y=some (.bool true))(ht:P.underlying t=some (.map kt et))(hk:tki P kt=some .i64)(hg:Qdt H r=some ks) :
  OpT P o L' (HS w0 [] As) (Out w0 ρ (.tuple #[]) (XP H r (.mp (bif Qej a ks then ks else ks++[a]))) n):=by
 obtain⟨b,Rs,g1,g2,g3⟩:=Qjw hH hg;obtain⟨b',d',e1,e2⟩:=Qhz hs hm;rw[g1]at e1;injection e1 with e1
 injection e1 with e1 _
 subst e1;have hik:Zn ks a=(bif Qej a ks then ks else ks++[a]):=by grind[Zn,Qez,ks]
 obtain⟨As2,g4,g5⟩:=g3 (Zn ks a);rw[<-hik];exact⟨_,_,_,_,QbW (As':=.mp b QfA (Zn ks a)::Rs) ho e2 (Qc hs hx rfl) (Qc hs hy rfl) ht (Qhs hk) ⟨Rs,g2,.refl _⟩,λ_ _=>⟨ρ,As2,ρ.le_refl,hf,rfl,g4,λw hw=>hw.perm g5⟩⟩
end
end Ev
namespace Ev
open Go Go.RowKit
noncomputable def Qge(P:Program)(H:Hp)(xt sz:Nat):Value->Option (Nat×List Value)
 | .slice none k _=>bif QM P xt&&Nat.beq k 0 then some (0,[])else none
 | .slice (some ⟨m,i,_⟩) k _=>bif QM P xt then(bif Nat.beq k 0 then some (0,[])else match Xq H m with
  | some r=>bif Nat.ble (i+k*sz) r.cs.length then some (k,cut r.cs i (k*sz))else none
  | none=>none)else none
 | .pointer (some ⟨_,_,some _⟩)=>bif QM P xt then some (0,[])else none
 | .string ⟨⟨l⟩⟩=>bif QJ P xt&&Nat.beq sz 1 then some (l.length,l.map λb=>.int .u8 (b.toNat:Int))else none
 | _=>none
structure SrcOk(P:Program)(w0:World)(As:List HA)(xt sz:Nat)(uy:Value)(m:Nat)(us:List Value):Prop where
 ty:P.underlying xt=some .string\/∃e',P.underlying xt=some (.slice e')
 lenOf:∀w,(Builtin.lenOf uy).run P w=.ok m w
 cells:∀w,HS w0 [] As w->(Builtin.firstCells sz m uy).run P w=.ok us.toArray w
 len:us.length=m*sz
theorem Qn1{ρ:Rho}(l:List UInt8):Qg (Qt ρ) (l.map λb=>Value.int .u8 (b.toNat:Int))=some (l.map λb=>.int .u8 (b.toNat:Int)):=Xe (by
 unfold QI;rw[List.all_map];exact List.all_eq_true.2 λ_ _=>rfl)
section
variable{P:Program}{o:Oper}{L':Qa}{w0:World}{ρ:Rho}{L:Env}{H:Hp}{n:Nat}{As:List HA}
theorem Qib{α:Type}{c:Bool}{x a:α}(h:(bif c then some x else none)=some a):c=true/\x=a:=by grind
theorem QgV{xt sz:Nat}{y:Operand}{v:Value}{m:Nat}{cs:List Value}(hs:SR ρ L L')(hH:HM ρ H As)(hy:opd L y=some v)(h:Qge P H xt sz v=some (m,cs)):∃uy us,ev L' y=some uy/\Qg (Qt ρ) cs=some us/\SrcOk P w0 As xt sz uy m us:=by
 unfold Qge at h;split at h
 ·rename_i k c;cases hb:QM P xt&&Nat.beq k 0 with
  | false=>rw[hb]at h;cases h
  | true=>
   rw[hb]at h;simp only[cond_true,Option.some.injEq,Prod.mk.injEq]at h;obtain⟨rfl,rfl⟩:=h;simp only[Bool.and_eq_true]at hb;have hk:=Nat.eq_of_beq_eq_true hb.2;subst hk;exact⟨_,[],Qc hs hy rfl,rfl,.inr (Q6 hb.1),λ_=>rfl,λw _=>Xt (news:=[]) (by simp) λh=>absurd rfl h,by simp⟩
 ·rename_i m2 i q k c;cases hb:QM P xt with
  | false=>rw[hb]at h;cases h
  | true=>
   rw[hb]at h;simp only[cond_true]at h
   have hev:∃b c',ρ m2=some b/\ev L' y=some (.slice (some ⟨b.1,i,none⟩) k c'):=by
    cases q with
    | none=>
     obtain⟨b,d,h1,h2⟩:=Xm hs hy
     simp_all
    | some q=>
     obtain⟨b,d,h1,h2⟩:=XF hs hy
     simp_all
   obtain⟨⟨b,d⟩,c',h1,h2⟩:=hev;cases hk:Nat.beq k 0 with
   | true=>
    rw[hk]at h;simp only[cond_true,Option.some.injEq,Prod.mk.injEq]at h;obtain⟨rfl,rfl⟩:=h;have hk:=Nat.eq_of_beq_eq_true hk;subst hk;exact⟨_,[],h2,rfl,.inr (Q6 hb),λ_=>rfl,λw _=>Xt (news:=[]) (by simp) λh=>absurd rfl h,by simp⟩
   | false=>
    rw[hk]at h;simp only[cond_false]at h;split at h
    ·rename_i r hg;cases hl:Nat.ble (i+k*sz) r.cs.length with
     | false=>rw[hl]at h;cases h
     | true=>
      rw[hl]at h;simp only[cond_true,Option.some.injEq,Prod.mk.injEq]at h;obtain⟨rfl,rfl⟩:=h;have hl':=Nat.le_of_ble_eq_true hl;obtain⟨b9,d9,us,Rs,g1,g2,g3,g4,_,_⟩:=Xd hH hg;rw[h1]at g1;injection g1 with g1
      injection g1 with g1 g1'
      subst g1 g1';have hlu:=Qz g2;have hcl:(cut us i (k*sz)).length=k*sz:=by simp only[cut,List.length_take,List.length_drop];omega
      exact⟨_,cut us i (k*sz),h2,QX (k*sz) (XK i g2),.inr (Q6 hb),λ_=>rfl,λw hw=>Xt hcl (YC i (k*sz) (λ_=>rfl) g4 w hw),hcl⟩
    ·cases h
 ·rename_i m2 i q;obtain⟨hb,h⟩:=Qib h;simp only[Prod.mk.injEq]at h;obtain⟨rfl,rfl⟩:=h;obtain⟨b,d,j,h1,h2⟩:=Qdr hs hy;exact⟨_,[],h2,rfl,.inr (Q6 hb),λ_=>rfl,λw _=>Xt (news:=[]) (by simp) λh=>absurd rfl h,by simp⟩
 ·rename_i l;cases hb:QJ P xt&&Nat.beq sz 1 with
  | false=>rw[hb]at h;cases h
  | true=>
   rw[hb]at h;simp only[cond_true,Option.some.injEq,Prod.mk.injEq]at h;obtain⟨rfl,rfl⟩:=h;simp only[Bool.and_eq_true]at hb;have hk:=Nat.eq_of_beq_eq_true hb.2;subst hk;refine⟨.string (bs l),_,Qc hs hy rfl,Qn1 l,.inl (Xv hb.1),λ_=>rfl,λw _=>?_,by simp⟩;have hx:(bs l).extract 0 l.length=bs l:=(Qho _).trans (congrArg bs (by rw[Lib.extract_data];simp));simp only[Builtin.firstCells,hx,Sem.run_pure];congr 1;simp[bs]
 ·cases h
theorem Qix{t xt e sz by' k c m p:Nat}{s y:Operand}{r:HB}{vy:Value}{cs:List Value}{q:Option Nat}(ho:o.op=.call {callee:=.builtin .append,args:=#[s,y],argTypes:=#[t,xt]})(hs:SR ρ L L')(hH:HM ρ H As)(hf:Qq ρ n)(hx:opd L s=some (.slice (some ⟨p,0,q⟩) k c))(hy:opd L y=some vy)(ht:tsl P t=some (e,sz,by'))
  (hsrc:Qge P H xt sz vy=some (m,cs))(hg:Xq H p=some r)(hfit:k+m<=c)(hr:k*sz+cs.length<=r.cs.length):OpT P o L' (HS w0 [] As) (Out w0 ρ (.slice (some ⟨p,0,q⟩) (k+m) c) (Xs H p {r with cs:=Qb r.cs (k*sz) cs}) n):=by
 obtain⟨uy,us,h1,h2,h3⟩:=QgV (w0:=w0) hs hH hy hsrc;obtain⟨b,d,rs,Rs,g1,g2,g3,g4,g5,_⟩:=Xd hH hg;have Xs:=Xp (k*sz) g2 h2;obtain⟨As2,g6,g7⟩:=g5 {r with cs:=Qb r.cs (k*sz) cs} _ Xs (by unfold QbH at *;simpa[Qd]using g3);have hev:∃c',c<=c'/\ev L' s=some (.slice (some ⟨b,0,none⟩) k c')/\den ρ (.slice (some ⟨p,0,q⟩) (k+m) c)=some (.slice (some ⟨b,0,none⟩) (k+m) c'):=by cases q<;>grind[Xm,den,QQ,Qt,Q8,XF]
 obtain⟨c',hc,e1,e2⟩:=hev;have hlr:=Qz g2;have hlu:=Qz h2;refine⟨Unit,λ_=>.slice (some ⟨b,0,none⟩) (k+m) c',λ_=>True,λ_=>HS w0 [] (.blk b r.ty (rs.length+d*r.sz) (Qb rs (k*sz) us)::Rs),?_,λ_ _=>⟨ρ,As2,ρ.le_refl,hf,e2,g6,λw hw=>?_⟩⟩
 ·intro a w hρ hw;obtain⟨hu,inf,hi,hs1,hs2⟩:=QK ht;subst hs1;have hpk:=hw.pick g4;obtain⟨w',hst,hb,r1,r2,r3,r4,r5⟩:=Xf (P:=P) us 0 rs w hpk.head (by rw[Nat.add_zero,hlr,hlu];exact hr) (λu hu=>List.all_eq_true.1 (XU h2) u hu) (i:=k*inf.size);have he:=Qe4 (P:=P) (ty:=o.type) (x:=uy) (w':=w') (g:=b) (n:=k) (m:=m) (cap:=c') (t:=t) (xt:=xt) hu h3.ty hi (h3.lenOf w) (h3.cells w hw) (by rw[QY,Nat.zero_add];exact hst) om;simp only[execOp,ho,resolve,Sem.run_bind,Sem.run_pure,Result.andThen_ok,invoke,builtin,List.map_toArray,List.map_cons,List.map_nil,hρ _ _ e1,hρ _ _ h1,he];exact⟨(),rfl,trivial,HS.swap hpk (B:=.blk b r.ty (rs.length+d*r.sz) (Qb rs (k*inf.size) us)) (λ_ h=>h) r1 r2 r3 r4 (λk hk=>r5 k (by simpa[HA.fp_blk]using hk)) (show QA b _ _ (Qb rs (k*inf.size) us) w' by simpa using hb)⟩
 ·have:HS w0 [] (.blk b r.ty ((Qb rs (k*sz) us).length+d*r.sz) (Qb rs (k*sz) us)::Rs) w:=by rw[Qd];exact hw
  exact this.perm g7
theorem Qb2{t xt e sz by' k m:Nat}{s y:Operand}{v uy:Value}{z xs us:List Value}{Rs:List HA}(ho:o.op=.call {callee:=.builtin .append,args:=#[s,y],argTypes:=#[t,xt]})(hv:ev L' s=some v)(hy:ev L' y=some uy)(ht:tsl P t=some (e,sz,by'))(hz:Qs P e=some z)(hzs:z.length=sz)
  (hcls:∀w,HS w0 [] As w->HS w0 [] (.own v e sz k xs::Rs) w)(h3:SrcOk P w0 As xt sz uy m us)(h1:us.all (·.oneCell')=true)(hroom:(k+m)*by'<=140737488355328)(hmax:k+m<=maxLen)(hpos:0<k+m) :
  OpH P o L' (HS w0 [] As) (λg:Nat×Nat=>.slice (some ⟨g.1,0,none⟩) (k+m) g.2) (λg=>k+m<=g.2/\g.2<=maxLen/\(xs++us).length=(k+m)*sz) (λg=>HS w0 [] (.blk g.1 e (g.2*sz) (xs++us)::Rs)):=by
 intro a w hρ hw;obtain⟨v',w',hr,hw'⟩:=QcS (P:=P) (ty:=o.type) ht h3.ty hz hzs (hcls w hw) .here (x:=uy) (h3.lenOf w) (h3.cells w hw) (h3.cells _ hw.drew) h3.len (λu hu=>List.all_eq_true.1 h1 u hu) hroom hmax;simp only[execOp,ho,resolve,Sem.run_bind,Sem.run_pure,Result.andThen_ok,invoke,builtin,List.map_toArray,List.map_cons,List.map_nil,hρ _ _ hv,hρ _ _ hy,hr];obtain⟨a',cap',rfl,_⟩:=hw'.head.form;obtain⟨g,rfl,_,h4,h5,h6,h7⟩:=hw'.own_blk hpos .here;exact⟨(g,cap'),rfl,⟨h4,h5,h6⟩,h7⟩
theorem Qbr{Rs:List HA}{H':Hp}{e sz k m:Nat}{cs xs:List Value}{g:Nat×Nat}(hH:∃As3,HM ρ H' As3/\Rs.Perm As3)(hf:Qq ρ n)(hc:Qg (Qt ρ) cs=some xs)(h1:k+m<=g.2)(h2:g.2<=maxLen)(h3:xs.length=(k+m)*sz) :
  Out w0 ρ (.slice (some ⟨n,0,none⟩) (k+m) (k+m)) (Xs H' n ⟨e,sz,cs⟩) (n+1) (.slice (some ⟨g.1,0,none⟩) (k+m) g.2) (HS w0 [] (.blk g.1 e (g.2*sz) xs::Rs)):=by
 obtain⟨As3,h4,h5⟩:=hH;have hl:=Qz hc;have hsum:(k+m)*sz+(g.2-(k+m))*sz=g.2*sz:=by rw[<-Nat.add_mul];congr 1;omega
 refine Zz (b:=g.1) (d:=g.2-(k+m)) h4 hf hc (.inr ?_) (by rw[Qc9,show k+m+(g.2-(k+m))=g.2 by omega]) λw hw=>?_
 ·simp only[];rw[<-hl,h3,hsum];exact Nat.mul_le_mul_right _ h2
 ·simp only[];rw[h3,hsum];exact hw.perm (h5.cons _)
theorem Qh5{t xt e sz by' k c m p:Nat}{s y:Operand}{r:HB}{vy:Value}{z cs:List Value}(ho:o.op=.call {callee:=.builtin .append,args:=#[s,y],argTypes:=#[t,xt]})(hs:SR ρ L L')(hH:HM ρ H As)(hf:Qq ρ n)(hx:opd L s=some (.slice (some ⟨p,0,none⟩) k c))(hy:opd L y=some vy)(ht:tsl P t=some (e,sz,by'))(hz:Qs P e=some z)(hzs:z.length=sz)
  (hsrc:Qge P H xt sz vy=some (m,cs))(hg:Xq H p=some r)(hty:r.ty=e)(hsz:r.sz=sz)(hlen:r.cs.length=c*sz)(hsz0:0<sz)(hkc:k<=c)(hcm:c<=maxLen)(hroom:(k+m)*by'<=140737488355328)(hmax:k+m<=maxLen)(hpos:0<k+m) :
  OpT P o L' (HS w0 [] As) (Out w0 ρ (.slice (some ⟨n,0,none⟩) (k+m) (k+m)) (Xs (QcH H p) n ⟨e,sz,r.cs.take (k*sz)++cs⟩) (n+1)):=by
 obtain⟨uy,us,h1,h2,h3⟩:=QgV (w0:=w0) hs hH hy hsrc;obtain⟨b,d,rs,Rs,g1,g2,g3,g4,_,g6⟩:=Xd hH hg;obtain⟨b9,d9,e1,e2⟩:=Xm hs hx;rw[g1]at e1;injection e1 with e1
 injection e1 with e1 e3
 subst e1 e3;have hlr:=Qz g2
 have hcd:c+d<=maxLen:=by
  unfold QbH at g3;rcases g3 with g3|g3
  ·omega
  ·rw[hlen,hsz,<-Nat.add_mul]at g3;exact Nat.le_of_mul_le_mul_right g3 hsz0
 have htot:rs.length+d*r.sz=(c+d)*sz:=by rw[hlr,hlen,hsz,Nat.add_mul]
 rw[hty,htot]at g4;have hH4:=Qb2 (w0:=w0) (As:=As) (xs:=rs.take (k*sz)) (Rs:=Rs) (k:=k) ho e2 h1 ht hz hzs (λw hw=>HS.to_own g4 hw (List.take_append_drop (k*sz) rs).symm (by rw[List.length_take,hlr,hlen];exact Nat.min_eq_left (Nat.mul_le_mul_right _ hkc)) om hcd) h3 (XU h2) hroom hmax hpos;exact⟨_,_,_,_,hH4,λg hg4=>Qbr g6 hf (Ya (QX (k*sz) g2) h2) hg4.1 hg4.2.1 hg4.2.2⟩
theorem Qia{t xt e sz by' m:Nat}{s y:Operand}{vy:Value}{z cs:List Value}(ho:o.op=.call {callee:=.builtin .append,args:=#[s,y],argTypes:=#[t,xt]})(hs:SR ρ L L')(hH:HM ρ H As)(hf:Qq ρ n)(hx:opd L s=some (.slice none 0 0))(hy:opd L y=some vy)(ht:tsl P t=some (e,sz,by'))(hz:Qs P e=some z)(hzs:z.length=sz)
  (hsrc:Qge P H xt sz vy=some (m,cs))(hroom:(0+m)*by'<=140737488355328)(hmax:0+m<=maxLen)(hpos:0<0+m) :
  OpT P o L' (HS w0 [] As) (Out w0 ρ (.slice (some ⟨n,0,none⟩) (0+m) (0+m)) (Xs H n ⟨e,sz,[]++cs⟩) (n+1)):=by
 obtain⟨uy,us,h1,h2,h3⟩:=QgV (w0:=w0) hs hH hy hsrc;have hH4:=Qb2 (w0:=w0) (As:=As) (xs:=[]) (Rs:=As) (k:=0) ho (Qc hs hx rfl) h1 ht hz hzs (λw hw=>hw.own_nil e sz) h3 (XU h2) hroom hmax hpos;exact⟨_,_,_,_,hH4,λg hg4=>Qbr ⟨As,hH,.refl _⟩ hf (Ya (by rfl) h2) hg4.1 hg4.2.1 hg4.2.2⟩
theorem Qh6{t xt e sz by':Nat}{s y:Operand}{vy:Value}{cs:List Value}(ho:o.op=.call {callee:=.builtin .append,args:=#[s,y],argTypes:=#[t,xt]})(hs:SR ρ L L')(hH:HM ρ H As)(hf:Qq ρ n)(hx:opd L s=some (.slice none 0 0))(hy:opd L y=some vy)(ht:tsl P t=some (e,sz,by'))
  (hsrc:Qge P H xt sz vy=some (0,cs)):OpT P o L' (HS w0 [] As) (Out w0 ρ (.slice none 0 0) H n):=by
 obtain⟨uy,us,h1,h2,h3⟩:=QgV (w0:=w0) hs hH hy hsrc;refine⟨Unit,λ_=>.slice none 0 0,λ_=>True,λ_=>HS w0 [] As,?_,λ_ _=>⟨ρ,As,ρ.le_refl,hf,rfl,hH,λ_ h=>h⟩⟩;intro a w hρ hw;obtain⟨hu,inf,hi,hs1,hs2⟩:=QK ht;subst hs1;have hu0:us=[]:=List.eq_nil_of_length_eq_zero (by have:=h3.len;omega);subst hu0;have he:=Qe0 (P:=P) (ty:=o.type) (t:=t) (xt:=xt) (x:=uy) (w:=w) hu h3.ty hi (h3.lenOf w) (h3.cells w hw);simp only[execOp,ho,resolve,Sem.run_bind,Sem.run_pure,Result.andThen_ok,invoke,builtin,List.map_toArray,List.map_cons,List.map_nil,hρ _ _ (Qc hs hx rfl),hρ _ _ h1,he];exact⟨(),rfl,trivial,hw⟩
end
end Ev
namespace Ev
open Go Go.RowKit
section
variable{P:Program}{o:Oper}{L':Qa}{w0:World}{ρ:Rho}{L:Env}{H:Hp}{n:Nat}{As:List HA}
theorem Qj1{cs us:List Value}(h:QI cs=true)(e:Qg (Qt ρ) cs=some us):us=cs:=by grind[Xe]
theorem QbI{x:Operand}{p i l c:Nat}{q:Option Nat}(hs:SR ρ L L')(h:opd L x=some (.slice (some ⟨p,i,q⟩) l c)):∃b d c',ρ p=some (b,d)/\ev L' x=some (.slice (some ⟨b,i,none⟩) l c'):=by cases q<;>grind[Xm,XF]
theorem QhZ{src dst e p i k c:Nat}{x:Operand}{q:Option Nat}{r:HB}(ho:o.op=.convert src dst x)(hs:SR ρ L L')(hH:HM ρ H As)(hx:opd L x=some (.slice (some ⟨p,i,q⟩) k c))(h1:P.underlying src=some (.slice e))(h2:QJ P dst=true)(h3:P.underlying e=some (.int .u8))(hg:Xq H p=some r)(hl:i+k<=r.cs.length)
  (h8:(cut r.cs i k).all Qev=true)(hf:QI (cut r.cs i k)=true):∃u,OpQ P o L' (HS w0 [] As) u/\den ρ (.string (bs ((cut r.cs i k).map ZY)))=some u:=by
 obtain⟨b,d,us,Rs,g1,g2,g3,g4,_,_⟩:=Xd hH hg;obtain⟨b9,d9,c',e1,e2⟩:=QbI hs hx;rw[g1]at e1;injection e1 with e1
 injection e1 with e1 e3
 subst e1 e3;have hc:Qg (Qt ρ) (cut r.cs i k)=some (cut us i k):=QX k (XK i g2);have he:=Qj1 hf hc;have hlen:(cut r.cs i k).length=k:=by simp only[cut,List.length_take,List.length_drop];omega
 refine⟨_,?_,rfl⟩;intro a w hρ hw
 have hr:(convert src dst (.slice (some ⟨b,i,none⟩) (cut r.cs i k).length c')).run P w=.ok (.string (bs ((cut r.cs i k).map ZY))) w:=
  XG h1 (Xv h2) h3 (λv hv=>List.all_eq_true.1 h8 v hv) (by rw[<-he];exact YC i k (λ_=>rfl) g4 w hw)
 rw[hlen]at hr;simp only[execOp,ho,Sem.run_bind,hρ _ _ e2,hr,Result.andThen_ok,Sem.run_pure];exact⟨rfl,Below.refl _ _⟩
theorem Qil{src dst e k c:Nat}{x:Operand}(ho:o.op=.convert src dst x)(hs:SR ρ L L')(hx:opd L x=some (.slice none 0 c))(h1:P.underlying src=some (.slice e))(h2:QJ P dst=true)(h3:P.underlying e=some (.int .u8)):∃u,OpQ P o L' (HS w0 [] As) u/\den ρ (.string (bs []))=some u:=by
 refine⟨_,?_,rfl⟩;intro a w hρ hw
 have hr:(convert src dst (.slice none ([]:List Value).length c)).run P w=.ok (.string (bs (([]:List Value).map ZY))) w:=
  XG h1 (Xv h2) h3 (λv hv=>by cases hv) (λh=>absurd rfl h)
 simp only[execOp,ho,Sem.run_bind,hρ _ _ (Qc hs hx rfl),show(0:Nat)=([]:List Value).length from rfl,hr,Result.andThen_ok,Sem.run_pure];exact⟨rfl,Below.refl _ _⟩
theorem Qig{src dst e p i q:Nat}{x:Operand}(ho:o.op=.convert src dst x)(hs:SR ρ L L')(hx:opd L x=some (.pointer (some ⟨p,i,some q⟩)))(h1:P.underlying src=some (.slice e))(h2:QJ P dst=true)(h3:P.underlying e=some (.int .u8)):∃u,OpQ P o L' (HS w0 [] As) u/\den ρ (.string (bs []))=some u:=by
 obtain⟨b,d,j,_,h4⟩:=Qdr hs hx;exact⟨_,QjU [] ho h4 h1 (Xv h2) h3 rfl (λ_ _ h=>absurd h (Nat.lt_irrefl 0)),rfl⟩
theorem Qiy{t xt e sz by' m:Nat}{s y:Operand}{z:List Value}(ho:o.op=.call {callee:=.builtin .append,args:=#[s,y],argTypes:=#[t,xt]})(hs:SR ρ L L')(hH:HM ρ H As)(hf:Qq ρ n)(hx:opd L s=some (.slice none 0 0))(hy:opd L y=some (.int .i64 (m:Int)))(hk:tki P xt=some .i64)(ht:tsl P t=some (e,sz,by'))(hz:Qs P e=some z)(hzs:z.length=sz)(hsz:0<sz)
  (hfz:QI (QW z (m*sz))=true)(hroom:(0+m)*by'<=140737488355328)(hmax:0+m<=maxLen)(hpos:0<m):OpT P o L' (HS w0 [] As) (Out w0 ρ (.slice (some ⟨n,0,none⟩) (0+m) (0+m)) (Xs H n ⟨e,sz,[]++QW z (m*sz)⟩) (n+1)):=by
 exact⟨_,_,_,_,YW (olds:=[]) ho (Qc hs hx rfl) (Qc hs hy rfl) ht hk hz hzs hsz hpos om (λw _ h=>absurd rfl h) (by simp) hroom hmax,λg hg=>Qbr ⟨As,hH,.refl _⟩ hf (Ya (by rfl) (Xe hfz)) hg.1 hg.2 (by rw[List.nil_append,Qk,Nat.zero_add])⟩
theorem Qnl{dt st e sz by' p i k c p2 i2 k2 c2:Nat}{d s:Operand}{q q2:Option Nat}{r r2:HB}(ho:o.op=.call {callee:=.builtin .copy,args:=#[d,s],argTypes:=#[dt,st]})(hs:SR ρ L L')(hH:HM ρ H As)(hf:Qq ρ n)(hd:opd L d=some (.slice (some ⟨p,i,q⟩) k c))(hx:opd L s=some (.slice (some ⟨p2,i2,q2⟩) k2 c2))(ht:tsl P dt=some (e,sz,by'))
  (hg:Xq H p=some r)(hg2:Xq H p2=some r2)(hl:i+min k2 k*sz<=r.cs.length)(hl2:i2+min k2 k*sz<=r2.cs.length):OpT P o L' (HS w0 [] As) (Out w0 ρ (.int .i64 ((min k2 k:Nat):Int)) (Xs H p {r with cs:=Qb r.cs i (cut r2.cs i2 (min k2 k*sz))}) n):=by
 obtain⟨b,dd,us,Rs,g1,g2,g3,g4,g5,_⟩:=Xd hH hg;obtain⟨b2,dd2,us2,Rs2,m1,m2,m3,m4,_,_⟩:=Xd hH hg2;obtain⟨b9,d9,c',e1,e2⟩:=QbI hs hd;rw[g1]at e1;injection e1 with e1
 injection e1 with e1 e3
 subst e1 e3;obtain⟨b8,d8,c8,f1,f2⟩:=QbI hs hx;rw[m1]at f1;injection f1 with f1
 injection f1 with f1 f3
 subst f1 f3;have hc:Qg (Qt ρ) (cut r2.cs i2 (min k2 k*sz))=some (cut us2 i2 (min k2 k*sz)):=QX _ (XK i2 m2);have hlu:=Qz g2;have hlu2:=Qz m2;have hcl:(cut us2 i2 (min k2 k*sz)).length=min k2 k*sz:=by simp only[cut,List.length_take,List.length_drop];omega
 obtain⟨As2,g6,g7⟩:=g5 {r with cs:=Qb r.cs i (cut r2.cs i2 (min k2 k*sz))} _ (Xp i g2 hc) (by unfold QbH at *;simpa[Qd]using g3);have hS:=ZP (w0:=w0) (M:=[]) (As:=As) (As':=.blk b r.ty (us.length+dd*r.sz) (Qb us i (cut us2 i2 (min k2 k*sz)))::Rs) (min k2 k) (cut us2 i2 (min k2 k*sz)) ho e2 f2 ht ⟨Rs,g4,.refl _⟩ rfl hcl (λ_=>rfl) (by rw[hcl,hlu];exact hl) (YC i2 _ (λ_=>rfl) m4) (λu hu=>List.all_eq_true.1 (XU hc) u hu);refine⟨_,_,_,_,hS,λ_ _=>⟨ρ,As2,ρ.le_refl,hf,rfl,g6,λw hw=>?_⟩⟩;have:HS w0 [] (.blk b r.ty ((Qb us i (cut us2 i2 (min k2 k*sz))).length+dd*r.sz) (Qb us i (cut us2 i2 (min k2 k*sz)))::Rs) w:=by rw[Qd];exact hw
 exact this.perm g7
theorem QlR{src e p i k c:Nat}{x:Operand}{r:HB}(ho:o.op=.convert src src x)(hs:SR ρ L L')(hH:HM ρ H As)(hf:Qq ρ n)(hx:opd L x=some (.slice (some ⟨p,i,none⟩) k c))(h1:P.underlying src=some (.slice e))(h3:P.underlying e=some (.int .u8))(hg:Xq H p=some r)(ht:r.ty=u8T) :
  OpT P o L' (HS w0 [] As) (Out w0 ρ (.slice (some ⟨p,i,none⟩) k c) H n):=by
 obtain⟨b,dd,us,Rs,g1,g2,g3,g4,g5,_⟩:=Xd hH hg;obtain⟨b9,d9,e1,e2⟩:=Xm hs hx;rw[g1]at e1;injection e1 with e1
 injection e1 with e1 e3
 subst e1 e3;rw[ht]at g4;have hS:=Qgc (w0:=w0) (M:=[]) (As:=As) (As':=.blk b u8T (us.length+dd*r.sz) us::Rs) ho e2 h1 h3 ⟨Rs,g4,.refl _⟩;refine⟨_,_,_,_,hS,λ_ _=>⟨ρ,As,ρ.le_refl,hf,?_,hH,λw hw=>hw.perm g4.symm⟩⟩;simp only[den,QQ,Qt,Q8,g1]
theorem QlA{dt st e by' m cd b tot i:Nat}{d s:Operand}{bt:TypeId}{cs news:List Value}{l:List UInt8}{As As':List HA}(k:Nat)(ho:o.op=.call {callee:=.builtin .copy,args:=#[d,s],argTypes:=#[dt,st]})(hd:Gx.ev L' d=some (.slice (some ⟨b,i,none⟩) m cd))(hx:Gx.ev L' s=some (.string (bs l)))(ht:tsl P dt=some (e,1,by'))
  (hnw:news=(l.take k).map λb=>Value.int .u8 (b.toNat:Int))(hp:Put As (.blk b bt tot cs) (.blk b bt tot (Qb cs i news)) As')(hk:min l.length m=k)(hr:i+k<=cs.length) :
  OpH P o L' (HS w0 [] As) (λ_:Unit=>.int .i64 (k:Int)) (λ_=>True) (λ_=>HS w0 [] As'):=by
 intro ρ w hρ hw;obtain⟨hu,inf,hi,hs1,hs2⟩:=QK ht;have hl:news.length=k:=by rw[hnw,List.length_map,List.length_take];omega
 have hsz:(Go.sizeOf e).run P w=.ok 1 w:=by simp[Go.sizeOf,typeInfo,hi,hs1]
 have hfc:(Builtin.firstCells 1 k (.string (bs l))).run P w=.ok news.toArray w:=by
  have hx:(bs l).extract 0 k=bs (l.take k):=(Qho _).trans (congrArg bs (by rw[Lib.extract_data];simp));simp only[Builtin.firstCells,hx,Sem.run_pure,hnw];congr 1;simp[bs]
 have hbl:(bs l).size=l.length:=rfl;have hk':Nat.min l.length m=k:=hk;obtain⟨Rs,h3,h4⟩:=hp.ex;have hpk:=hw.pick h3;obtain⟨w',hst,hb,r1,r2,r3,r4,r5⟩:=Xf (P:=P) news 0 cs w hpk.head (by simpa[hl]using hr) (λu hu=>by rw[hnw]at hu;obtain⟨b,_,rfl⟩:=List.mem_map.1 hu;rfl) (i:=i)
 have he:(Builtin.copy_ #[dt,st] o.type #[.slice (some ⟨b,i,none⟩) m cd,.string (bs l)]).run P w=.ok (.int .i64 (k:Int)) w':=by
  unfold Builtin.copy_;simp[run_underlying hu,Builtin.lenOf,hbl,hk',hsz,hfc,goInt,hst]
 simp only[execOp,ho,resolve,Sem.run_bind,Sem.run_pure,Result.andThen_ok,invoke,builtin,List.map_toArray,List.map_cons,List.map_nil,hρ _ _ hd,hρ _ _ hx,he];exact⟨(),rfl,trivial,(HS.swap hpk (B:=.blk b bt tot (Qb cs i news)) (λ_ h=>h) r1 r2 r3 r4 (λk hk=>r5 k (by simpa[HA.fp_blk]using hk)) (show QA b bt tot (Qb cs i news) w' by simpa using hb)).perm h4⟩
theorem QlW{dt st e by' p i k c:Nat}{d s:Operand}{q:Option Nat}{r:HB}{l:List UInt8}(ho:o.op=.call {callee:=.builtin .copy,args:=#[d,s],argTypes:=#[dt,st]})(hs:SR ρ L L')(hH:HM ρ H As)(hf:Qq ρ n)(hd:opd L d=some (.slice (some ⟨p,i,q⟩) k c))(hx:opd L s=some (.string (bs l)))(ht:tsl P dt=some (e,1,by'))
  (hg:Xq H p=some r)(hl:i+min l.length k<=r.cs.length):OpT P o L' (HS w0 [] As) (Out w0 ρ (.int .i64 ((min l.length k:Nat):Int)) (Xs H p {r with cs:=Qb r.cs i ((l.take (min l.length k)).map λb=>Value.int .u8 (b.toNat:Int))}) n):=by
 obtain⟨b,dd,us,Rs,g1,g2,g3,g4,g5,_⟩:=Xd hH hg;obtain⟨b9,d9,c',e1,e2⟩:=QbI hs hd;rw[g1]at e1;injection e1 with e1
 injection e1 with e1 e3
 subst e1 e3
 have hfl:QI ((l.take (min l.length k)).map λb=>Value.int .u8 (b.toNat:Int))=true:=by
  unfold QI;rw[List.all_map];exact List.all_eq_true.2 λ_ _=>rfl
 have hlu:=Qz g2;obtain⟨As2,g6,g7⟩:=g5 {r with cs:=Qb r.cs i ((l.take (min l.length k)).map λb=>Value.int .u8 (b.toNat:Int))} _ (Xp i g2 (Xe hfl)) (by unfold QbH at *;simpa[Qd]using g3);have hS:=QlA (w0:=w0) (As:=As) (As':=.blk b r.ty (us.length+dd*r.sz) (Qb us i ((l.take (min l.length k)).map λb=>Value.int .u8 (b.toNat:Int)))::Rs) (min l.length k) ho e2 (Qc hs hx rfl) ht rfl ⟨Rs,g4,.refl _⟩ rfl (by rw[hlu];exact hl);refine⟨_,_,_,_,hS,λ_ _=>⟨ρ,As2,ρ.le_refl,hf,rfl,g6,λw hw=>?_⟩⟩;have:HS w0 [] (.blk b r.ty ((Qb us i ((l.take (min l.length k)).map λb=>Value.int .u8 (b.toNat:Int))).length+dd*r.sz) (Qb us i ((l.take (min l.length k)).map λb=>Value.int .u8 (b.toNat:Int)))::Rs) w:=by rw[Qd];exact hw
 exact this.perm g7
theorem QlK{t e sz by' p i k c:Nat}{x:Operand}{q:Option Nat}{r:HB}{z:List Value}(ho:o.op=.call {callee:=.builtin .clear,args:=#[x],argTypes:=#[t]})(hs:SR ρ L L')(hH:HM ρ H As)(hf:Qq ρ n)(hx:opd L x=some (.slice (some ⟨p,i,q⟩) k c))(ht:tsl P t=some (e,sz,by'))(hz:Qs P e=some z)(hzs:z.length=sz)(hz1:z.all (·.oneCell')=true)(hz0:Nat.blt 0 z.length=true)(hfz:QI (QW z (k*sz))=true)
  (hg:Xq H p=some r)(hl:i+k*sz<=r.cs.length):OpT P o L' (HS w0 [] As) (Out w0 ρ (.tuple #[]) (Xs H p {r with cs:=Qb r.cs i (QW z (k*sz))}) n):=by
 obtain⟨b,dd,us,Rs,g1,g2,g3,g4,g5,_⟩:=Xd hH hg;obtain⟨b9,d9,c',e1,e2⟩:=QbI hs hx;rw[g1]at e1;injection e1 with e1
 injection e1 with e1 e3
 subst e1 e3;have hlu:=Qz g2;obtain⟨As2,g6,g7⟩:=g5 {r with cs:=Qb r.cs i (QW z (k*sz))} _ (Xp i g2 (Xe hfz)) (by unfold QbH at *;simpa[Qd]using g3);have hS:=Qlx (w0:=w0) (M:=[]) (As:=As) (As':=.blk b r.ty (us.length+dd*r.sz) (Qb us i (QW z (k*sz)))::Rs) ho e2 ht hz hzs hz1 (by intro h;rw[h]at hz0;cases hz0) ⟨Rs,g4,.refl _⟩ (λ_=>rfl) (by rw[hlu];exact hl);refine⟨_,_,_,_,hS,λ_ _=>⟨ρ,As2,ρ.le_refl,hf,rfl,g6,λw hw=>?_⟩⟩;have:HS w0 [] (.blk b r.ty ((Qb us i (QW z (k*sz))).length+dd*r.sz) (Qb us i (QW z (k*sz)))::Rs) w:=by rw[Qd];exact hw
 exact this.perm g7
theorem QmM{t:TypeId}{x:Operand}{l:List UInt8}(ho:o.op=.call {callee:=.builtin .len,args:=#[x],argTypes:=#[t]})(hs:SR ρ L L')(hx:opd L x=some (.string ⟨⟨l⟩⟩))(h:QJ P t=true):∃u,OpP P o L' u/\den ρ (.int .i64 (l.length:Int))=some u:=
 ⟨_,Qf ho (Qc hs hx rfl) (Xv h),rfl⟩
theorem Qm9{t:TypeId}{x:Operand}{a:Option Addr}{k c:Nat}(ho:o.op=.call {callee:=.builtin .len,args:=#[x],argTypes:=#[t]})(hs:SR ρ L L')(hx:opd L x=some (.slice a k c))(h:QM P t=true):∃u,OpP P o L' u/\den ρ (.int .i64 (k:Int))=some u:=by
 obtain⟨e,he⟩:=Q6 h;rcases a with _|⟨p,i,q⟩
 ·exact⟨_,Y8 ho (Qc hs hx rfl) he,rfl⟩
 ·obtain⟨b,d,c',h1,h2⟩:=QbI hs hx;exact⟨_,Y8 ho h2 he,rfl⟩
theorem QnM{t:TypeId}{x:Operand}{p i q:Nat}(ho:o.op=.call {callee:=.builtin .len,args:=#[x],argTypes:=#[t]})(hs:SR ρ L L')(hx:opd L x=some (.pointer (some ⟨p,i,some q⟩)))(h:QM P t=true):∃u,OpP P o L' u/\den ρ (.int .i64 0)=some u:=by
 obtain⟨e,he⟩:=Q6 h;obtain⟨b,d,j,h1,h2⟩:=Qdr hs hx;exact⟨_,Y8 ho h2 he,rfl⟩
theorem Qnj{t:TypeId}{x:Operand}{k c:Nat}(ho:o.op=.call {callee:=.builtin .cap,args:=#[x],argTypes:=#[t]})(hs:SR ρ L L')(hx:opd L x=some (.slice none k c))(h:QM P t=true):∃u,OpP P o L' u/\den ρ (.int .i64 (c:Int))=some u:=by
 obtain⟨e,he⟩:=Q6 h;exact⟨_,Qja ho (Qc hs hx rfl) he,rfl⟩
theorem QmK{x y:Operand}{k k':IntKind}{a b:Int}{ts:Array TypeId}(ho:o.op=.call {callee:=.builtin .min,args:=#[x,y],argTypes:=ts})(hs:SR ρ L L')(hx:opd L x=some (.int k a))(hy:opd L y=some (.int k' b))(hk:kEq k k'=true):∃u,OpP P o L' u/\den ρ (.int k (if b<a then b else a))=some u:=by
 obtain rfl:=Qag hk;exact⟨_,Qjt ho (Qc hs hx rfl) (Qc hs hy rfl),rfl⟩
theorem QmX{x y:Operand}{k k':IntKind}{a b:Int}{ts:Array TypeId}(ho:o.op=.call {callee:=.builtin .max,args:=#[x,y],argTypes:=ts})(hs:SR ρ L L')(hx:opd L x=some (.int k a))(hy:opd L y=some (.int k' b))(hk:kEq k k'=true):∃u,OpP P o L' u/\den ρ (.int k (if b>a then b else a))=some u:=by
 obtain rfl:=Qag hk;exact⟨_,QmO ho (Qc hs hx rfl) (Qc hs hy rfl),rfl⟩
end
end Ev
namespace Ev
open Go Go.RowKit
inductive Ans where
 | p (v:Value)
 | q (v:Value)
 | h (v:Value) (H:Hp) (n:Nat)
def Qbz:Option Value->Option Ans
 | some v=>some (.p v)
 | none=>none
abbrev Qaf:=FuncId->List Value->Hp->Nat->Option (Value×Hp×Nat)
abbrev Qjk:=Nat->List Value->Hp->Nat->Option (Value×Hp×Nat)
structure CallF where
 f:Qjk->Qaf
 e:FuncId->List Value->Option Value
 y:Qjk
noncomputable section
variable(P:Program)(L:Env)(H:Hp)(n:Nat)
def QcF(st f:Nat):Option Value->Option Value
 | some (.agg cs)=>match tfd P st f with
  | some (off,ft)=>match tsz P ft with
   | some (k,ag)=>if ag then some (.agg (cut cs.toList off k).toArray)else cs.toList[off]?
   | none=>none
  | none=>none
 | _=>none
def Qcu(t:Nat):Option Value->Option Nat->Option Value
 | some (.string ⟨⟨l⟩⟩),some j=>bif QJ P t&&Nat.blt j l.length then some (.int .u8 ((l.getD j 0).toNat:Int))else none
 | some (.agg cs),some j=>match tar P t with
  | some (len,e,sz)=>match tsz P e with
   | some (k,ag)=>bif Nat.blt j len then(if ag then some (.agg (cut cs.toList (j*sz) k).toArray)else cs.toList[j*sz]?)else none
   | none=>none
  | none=>none
 | _,_=>none
def Qgo(t:Nat)(lo hi:Option Operand):Option Value->Option Value
 | some (.string ⟨⟨l⟩⟩)=>match loN L lo,hiN L l.length hi with
  | some a,some b=>bif QJ P t&&(Nat.ble a b&&Nat.ble b l.length)then some (.string (bs ((l.take b).drop a)))else none
  | _,_=>none
 | some (.slice (some ⟨m,off,none⟩) l c)=>match tsl P t,loN L lo,hiN L l hi with
  | some (_,sz,_),some i,some j=>bif Nat.ble i j&&(Nat.ble j c&&(Nat.beq i 0||Nat.blt i c))then some (.slice (some ⟨m,off+i*sz,none⟩) (j-i) (c-i))else(bif Nat.beq i c&&Nat.beq j c then some (.pointer (some ⟨m,off,some (c*sz)⟩))else none)
  | _,_,_=>none
 | some (.slice (some ⟨m,off,some q⟩) l c)=>match tsl P t,loN L lo,hiN L l hi with
  | some (_,sz,_),some i,some j=>bif Nat.ble i j&&Nat.ble j c then some (.slice (some ⟨m,(if c=i then off else off+i*sz),some q⟩) (j-i) (c-i))else none
  | _,_,_=>none
 | some (.slice none l c)=>match tsl P t,loN L lo,hiN L l hi with
  | some _,some i,some j=>bif Nat.ble i j&&Nat.ble j c then some (.slice none (j-i) (c-i))else none
  | _,_,_=>none
 | _=>none
def Qeu(t:Nat)(lo:Option Operand)(hi mx:Operand):Option Value->Option Value
 | some (.slice (some ⟨m,off,_⟩) _ c)=>match tsl P t,loN L lo,vN (opd L hi),vN (opd L mx)with
  | some (_,sz,_),some i,some j,some k=>bif Nat.ble i j&&(Nat.ble j k&&Nat.ble k c)then some (.slice (some ⟨m,(if k=i then off else off+i*sz),some 0⟩) (j-i) (k-i))else none
  | _,_,_,_=>none
 | some (.slice none _ c)=>match tsl P t,loN L lo,vN (opd L hi),vN (opd L mx)with
  | some _,some i,some j,some k=>bif Nat.ble i j&&(Nat.ble j k&&Nat.ble k c)then some (.slice none (j-i) (k-i))else none
  | _,_,_,_=>none
 | _=>none
def ZF(st f:Nat):Option Value->Option Value
 | some (.pointer (some ⟨m,i,none⟩))=>match tfd P st f with
  | some (off,ft)=>match tsz P ft with
   | some (sz,_)=>bif Nat.blt 0 sz then some (.pointer (some ⟨m,i+off,none⟩))else none
   | none=>none
  | none=>none
 | _=>none
def YV(t:Nat):Option Value->Option Nat->Option Value
 | some (.slice (some ⟨m,off,_⟩) l _),some j=>match tsl P t with
  | some (_,sz,_)=>bif Nat.blt j l then some (.pointer (some ⟨m,off+j*sz,none⟩))else none
  | none=>none
 | some (.pointer (some ⟨m,i,none⟩)),some j=>match tar P t with
  | some (len,_,sz)=>bif Nat.blt j len then some (.pointer (some ⟨m,i+j*sz,none⟩))else none
  | none=>none
 | _,_=>none
def QgF(t:Nat)(parts:List (Nat×Operand)):Option Value:=match Qbj L parts,Qs P t with
 | some vs,some z=>bif QI z then(match Yj P t with
  | some pl=>match Yp (λi=>pl[i]?) z vs with
   | some cs=>some (.agg cs.toArray)
   | none=>none
  | none=>match tar P t with
   | some (_,_,sz)=>match Yp (λi=>some (i*sz,sz)) z vs with
    | some cs=>some (.agg cs.toArray)
    | none=>none
   | none=>none)else none
 | _,_=>none
def Qds(t x:Nat):Option Value:=match L x with
 | some (.pointer (some ⟨m,i,none⟩))=>match Xq H m,tsz P t with
  | some r,some (sz,ag)=>if ag then(bif Nat.ble (i+sz) r.cs.length then some (.agg (cut r.cs i sz).toArray)else none)else(bif Nat.beq sz 1 then r.cs[i]? else none)
  | _,_=>none
 | _=>none
def QeQ(t x:Nat)(y:Operand):Option Ans:=match L x,opd L y,tsz P t with
 | some (.pointer (some ⟨m,i,none⟩)),some v,some (sz,_)=>match Xq H m with
  | some r=>bif Yz v&&(Nat.beq v.cells.toList.length sz&&Nat.ble (i+sz) r.cs.length)then some (.h undef (Xs H m {r with cs:=Qb r.cs i v.cells.toList}) n)else none
  | none=>none
 | _,_,_=>none
def ZS(t:Nat):Bool:=match P.underlying t with|some (.int .u8)=>true|_=>false
def QcX(src dst:Nat):Option Value->Option Ans
 | some (.string ⟨⟨l⟩⟩)=>match P.underlying dst with
  | some (.slice e)=>bif QJ P src&&(ZS P e&&(Nat.beq e u8T&&Nat.ble l.length maxLen))then some (.h (.slice (some ⟨n,0,none⟩) l.length l.length) (Xs H n ⟨e,1,l.map λb=>.int .u8 (b.toNat:Int)⟩) (n+1))else none
  | _=>none
 | some (.slice none k c)=>match P.underlying src with
  | some (.slice e)=>bif QJ P dst&&(ZS P e&&Nat.beq k 0)then some (.q (.string (bs [])))else none
  | _=>none
 | some (.slice (some ⟨p,i,q⟩) k c)=>match P.underlying src,Xq H p with
  | some (.slice e),some r=>bif QJ P dst&&(ZS P e&&(Nat.ble (i+k) r.cs.length&&((cut r.cs i k).all Qev&&QI (cut r.cs i k))))then some (.q (.string (bs ((cut r.cs i k).map ZY))))else(match q with
   | none=>bif Nat.beq src dst&&(ZS P e&&Nat.beq r.ty u8T)then some (.h (.slice (some ⟨p,i,none⟩) k c) H n)else none
   | _=>none)
  | _,_=>none
 | some (.pointer (some ⟨_,_,some _⟩))=>match P.underlying src with
  | some (.slice e)=>bif QJ P dst&&ZS P e then some (.q (.string (bs [])))else none
  | _=>none
 | _=>none
def QnT(t:Nat):Option Ans:=match Qs P t with
 | some z=>bif QI z then some (.h (.pointer (some ⟨n,0,none⟩)) (Xs H n ⟨t,0,z⟩) (n+1))else none
 | none=>none
def QmC(t:Nat):Option Value->Option Ans
 | some v=>bif Yz v then some (.h (.pointer (some ⟨n,0,none⟩)) (Xs H n ⟨t,0,v.cells.toList⟩) (n+1))else none
 | none=>none
def QiT(z:List Value)(k:Nat):List Value:=(List.range k).map λi=>z.getD (i%z.length) default
def Yo(t len:Nat)(parts:List (Nat×Operand)):Option Ans:=match Qbj L parts,tsl P t with
 | some vs,some (e,sz,_)=>match Qs P e with
  | some z=>match Yp (λi=>some (i*sz,sz)) (QiT z (len*sz)) vs with
   | some cs=>bif QI z&&(Nat.ble (len*sz) 16777216&&(Nat.blt 0 (len*sz)&&QI (QiT z (len*sz))))then some (.h (.slice (some ⟨n,0,none⟩) len len) (Xs H n ⟨e,sz,cs⟩) (n+1))else none
   | none=>none
  | none=>none
 | _,_=>none
def Zw(t:Nat)(x y:Operand):Option Ans:=match opd L x,opd L y,tsl P t with
 | some (.int .i64 (.ofNat k)),some (.int .i64 (.ofNat k')),some (e,sz,by')=>match Qs P e with
  | some z=>bif Nat.ble k k'&&(Nat.ble (k'*by') 281474976710656&&(Nat.ble k' 16777216&&QI (QW z (k'*sz))))then some (.h (.slice (some ⟨n,0,none⟩) k k') (Xs H n ⟨e,sz,QW z (k'*sz)⟩) (n+1))else none
  | none=>none
 | _,_,_=>none
def Qer(t xt:Nat)(s y:Operand):Option Ans:=match opd L s,opd L y,tsl P t with
 | some (.slice a k c),some vy,some (e,sz,by')=>match vy with
  | .int .i64 (.ofNat m)=>match a,Qs P e with
   | none,some z=>bif (Nat.beq k 0&&(Nat.beq c 0&&(Nat.beq z.length sz&&(Nat.blt 0 sz&&QI (QW z (m*sz))))))&&((match tki P xt with|some .i64=>true|_=>false)&&(Nat.ble ((0+m)*by') 140737488355328&&(Nat.ble (0+m) maxLen&&Nat.blt 0 m)))then some (.h (.slice (some ⟨n,0,none⟩) (0+m) (0+m)) (Xs H n ⟨e,sz,[]++QW z (m*sz)⟩) (n+1))else none
   | _,_=>none
  | _=>match Qge P H xt sz vy with
   | some (m,cs)=>match a with
    | none=>bif Nat.beq k 0&&Nat.beq c 0 then(bif Nat.beq m 0 then some (.h (.slice none 0 0) H n)else match Qs P e with
     | some z=>bif Nat.beq z.length sz&&(Nat.ble ((0+m)*by') 140737488355328&&(Nat.ble (0+m) maxLen&&Nat.blt 0 (0+m)))then some (.h (.slice (some ⟨n,0,none⟩) (0+m) (0+m)) (Xs H n ⟨e,sz,[]++cs⟩) (n+1))else none
     | none=>none)else none
    | some ⟨p,off,q⟩=>bif Nat.beq off 0 then(match Xq H p with
     | some r=>bif Nat.ble (k+m) c then(bif Nat.ble (k*sz+cs.length) r.cs.length then some (.h (.slice (some ⟨p,0,q⟩) (k+m) c) (Xs H p {r with cs:=Qb r.cs (k*sz) cs}) n)else none)
      else(match q,Qs P e with
       | none,some z=>bif (Nat.beq z.length sz&&(Nat.beq r.ty e&&(Nat.beq r.sz sz&&(Nat.beq r.cs.length (c*sz)&&Nat.blt 0 sz))))&&((Nat.ble k c&&Nat.ble c maxLen)&&(Nat.ble ((k+m)*by') 140737488355328&&(Nat.ble (k+m) maxLen&&Nat.blt 0 (k+m))))then some (.h (.slice (some ⟨n,0,none⟩) (k+m) (k+m)) (Xs (QcH H p) n ⟨e,sz,r.cs.take (k*sz)++cs⟩) (n+1))else none
       | _,_=>none)
     | none=>none)else none
   | none=>none
 | _,_,_=>none
def QiS(dt:Nat)(d s:Operand):Option Ans:=match opd L d,opd L s,tsl P dt with
 | some (.slice (some ⟨p,i,_⟩) k _),some (.slice (some ⟨p2,i2,_⟩) k2 _),some (_,sz,_)=>match Xq H p,Xq H p2 with
  | some r,some r2=>bif Nat.ble (i+min k2 k*sz) r.cs.length&&Nat.ble (i2+min k2 k*sz) r2.cs.length then some (.h (.int .i64 ((min k2 k:Nat):Int)) (Xs H p {r with cs:=Qb r.cs i (cut r2.cs i2 (min k2 k*sz))}) n)else none
  | _,_=>none
 | some (.slice (some ⟨p,i,_⟩) k _),some (.string ⟨⟨l⟩⟩),some (_,sz,_)=>match Xq H p with
  | some r=>bif Nat.beq sz 1&&Nat.ble (i+min l.length k) r.cs.length then some (.h (.int .i64 ((min l.length k:Nat):Int)) (Xs H p {r with cs:=Qb r.cs i ((l.take (min l.length k)).map λb=>Value.int .u8 (b.toNat:Int))}) n)else none
  | none=>none
 | _,_,_=>none
def QgO(t:Nat)(x:Operand):Option Ans:=match opd L x,tsl P t with
 | some (.slice (some ⟨p,i,_⟩) k _),some (e,sz,_)=>match Xq H p,Qs P e with
  | some r,some z=>bif Nat.beq z.length sz&&(z.all (·.oneCell')&&(Nat.blt 0 z.length&&(QI (QW z (k*sz))&&Nat.ble (i+k*sz) r.cs.length)))then some (.h (.tuple #[]) (Xs H p {r with cs:=Qb r.cs i (QW z (k*sz))}) n)else none
  | _,_=>none
 | _,_=>none
def Qbo(b:Builtin)(args:List Operand)(ts:List TypeId):Option Ans:=match b,args,ts with
 | .len,[x],[t]=>match opd L x with
  | some (.string ⟨⟨l⟩⟩)=>bif QJ P t then some (.p (.int .i64 (l.length:Int)))else none
  | some (.slice _ k _)=>bif QM P t then some (.p (.int .i64 (k:Int)))else none
  | some (.pointer (some ⟨_,_,some _⟩))=>bif QM P t then some (.p (.int .i64 0))else none
  | _=>none
 | .cap,[x],[t]=>match opd L x with
  | some (.slice none _ c)=>bif QM P t then some (.p (.int .i64 (c:Int)))else none
  | _=>none
 | .min,[x,y],_=>match opd L x,opd L y with
  | some (.int k a),some (.int k' b)=>bif kEq k k' then some (.p (.int k (if b<a then b else a)))else none
  | _,_=>none
 | .max,[x,y],_=>match opd L x,opd L y with
  | some (.int k a),some (.int k' b)=>bif kEq k k' then some (.p (.int k (if b>a then b else a)))else none
  | _,_=>none
 | .append,[s,y],[t,xt]=>Qer P L H n t xt s y
 | .copy,[d,s],[dt,_]=>QiS P L H n dt d s
 | .clear,[x],[t]=>QgO P L H n t x
 | _,_,_=>none
def QbU(F:CallF)(f:Option Value)(vs:Option (List Value)):Option Ans:=match f,vs with
 | some (.func (.func g) first cap),some vs=>bif Q7 P g then(match F.f F.y g (first.toList++vs++cap.toList) H n with
  | some (v,H',n')=>some (.h v H' n')
  | none=>none)else none
 | some (.func (.yield k) ⟨[]⟩ ⟨[]⟩),some vs=>match F.y k vs H n with
  | some (v,H',n')=>some (.h v H' n')
  | none=>none
 | _,_=>none
def Y2(t:Nat):Option Value->Option Value->Option Ans
 | some (.map (some r)),some (.int .i64 a)=>match P.underlying t,Qdt H r with
  | some (.map kt et),some ks=>match tzv P et,tki P kt with
   | some (.bool false),some .i64=>some (.q (.bool (Qej a ks)))
   | _,_=>none
  | _,_=>none
 | _,_=>none
def QaY(t:Nat):Option Value->Option Value->Option Value->Option Ans
 | some (.map (some r)),some (.int .i64 a),some (.bool true)=>match P.underlying t,Qdt H r with
  | some (.map kt et),some ks=>match tki P kt with
   | some .i64=>some (.h (.tuple #[]) (XP H r (.mp (bif Qej a ks then ks else ks++[a]))) n)
   | _=>none
  | _,_=>none
 | _,_,_=>none
def QR(F:CallF):Op->Option Ans
 | .move x=>Qbz (opd L x)
 | .assign x=>Qbz (opd L x)
 | .pick c a b=>match opd L c,opd L a,opd L b with
  | some (.bool t),some x,some y=>some (.p (if t then x else y))
  | _,_,_=>none
 | .binOp op t x y _=>match opd L x,opd L y with
  | some a,some b=>Qbz (Yv P op t a b)
  | _,_=>none
 | .unOp op _ x=>match opd L x with
  | some a=>Qbz (QbJ op a)
  | none=>none
 | .convert src dst x=>match opd L x with
  | some a=>match ZZ P src dst a with
   | some v=>some (.p v)
   | none=>QcX P H n src dst (some a)
  | none=>none
 | .extract x i=>match opd L x with
  | some (.tuple vs)=>Qbz (vs.toList[i]?)
  | _=>none
 | .makeFunc (.func f) first cap=>match Qa0 L first.toList,Qa0 L cap.toList with
  | some a,some b=>bif a.all Qgn&&b.all Qgn then some (.p (.func (.func f) a.toArray b.toArray))else none
  | _,_=>none
 | .nilCheck x=>match opd L x with
  | some (.pointer (some ⟨m,i,none⟩))=>some (.p (.pointer (some ⟨m,i,none⟩)))
  | some (.func (.func f) a b)=>some (.p (.func (.func f) a b))
  | _=>none
 | .field st x f=>Qbz (QcF P st f (opd L x))
 | .index t x y=>Qbz (Qcu P t (opd L x) (vN (opd L y)))
 | .slice t x lo hi none=>Qbz (Qgo P L t lo hi (opd L x))
 | .slice t x lo (some hi) (some mx)=>Qbz (Qeu P L t lo hi mx (opd L x))
 | .fieldAddr st x f=>Qbz (ZF P st f (opd L x))
 | .indexAddr t x y=>Qbz (YV P t (opd L x) (vN (opd L y)))
 | .build t parts=>Qbz (QgF P L t parts.toList)
 | .load t (.tmp x)=>match Qds P L H t x with
  | some v=>some (.q v)
  | none=>none
 | .store t (.tmp x) y=>QeQ P L H n t x y
 | .alloc t=>QnT P H n t
 | .box t x=>QmC H n t (opd L x)
 | .buildSlice t 0 ⟨[]⟩=>match tsl P t with
  | some (e,sz,_)=>some (.h (.slice (some ⟨n,0,none⟩) 0 0) (Xs H n ⟨e,sz,[]⟩) (n+1))
  | none=>none
 | .buildSlice t len parts=>Yo P L H n t len parts.toList
 | .makeSlice t x y=>Zw P L H n t x y
 | .call ⟨.builtin b,args,ts⟩=>Qbo P L H n b args.toList ts.toList
 | .call ⟨.value (.func g),args,_⟩=>match Qa0 L args.toList with
  | some vs=>match F.e g vs with
   | some v=>some (.q v)
   | none=>QbU P H n F (some (.func (.func g) #[] #[])) (some vs)
  | none=>none
 | .call ⟨.value f,args,_⟩=>QbU P H n F (opd L f) (Qa0 L args.toList)
 | .makeMap t none=>some (.h (.map (some n)) (XP H n (.mp [])) (n+1))
 | .lookup t m x false=>Y2 P H t (opd L m) (opd L x)
 | .mapUpdate t m x y=>QaY P H n t (opd L m) (opd L x) (opd L y)
 | _=>none
end
end Ev
namespace Ev
open Go Go.RowKit
theorem bif_some{α:Type}{c:Bool}{x a:α}(h:(bif c then some x else none)=some a):c=true/\x=a:=by grind
theorem bif_in{α:Type}{c:Bool}{x:Option α}{a:α}(h:(bif c then x else none)=some a):c=true/\x=some a:=by grind
theorem Qbs{α:Type}{a:Array α}{x:α}(h:a.toList=[x]):a= #[x]:=by grind
theorem Qbp{α:Type}{a:Array α}{x y:α}(h:a.toList=[x,y]):a= #[x,y]:=by grind
def QhM(w0:World)(ρ:Rho)(v:Value)(H':Hp)(n':Nat)(e:Ending)(w':World):Prop:=
 ∃ρ' As' u,ρ.le ρ'/\Qq ρ' n'/\den ρ' v=some u/\HM ρ' H' As'/\e=.returned u/\HS w0 [] As' w'
def Qbu(P:Program)(r0:Rho)(F:Qaf):Prop:=∀f vs H n v H' n',F f vs H n=some (v,H',n')->∀(w0:World)(ρ:Rho)(us:List Value)(As:List HA),r0.le ρ->Qg (den ρ) vs=some us->HM ρ H As->Qq ρ n->∀w,HS w0 [] As w->Calls P f us.toArray w (QhM w0 ρ v H' n')
def Qd4(P:Program)(E:FuncId->List Value->Option Value):Prop:=∀f vs v,E f vs=some v->∀(w0:World)(ρ:Rho)(us:List Value)(As:List HA),Qg (den ρ) vs=some us->∀(o:Oper)(L':Qa)(args:Array Operand)(ts:Array TypeId),o.op=.call {callee:=.value (.func f),args:=args,argTypes:=ts}->evs L' args.toList=some us->∃u,den ρ v=some u/\OpQ P o L' (HS w0 [] As) u
def YOk(P:Program)(r0:Rho)(Y:Qjk):Prop:=∀k vs H n v H' n',Y k vs H n=some (v,H',n')->∀(w0:World)(ρ:Rho)(us:List Value)(As:List HA),r0.le ρ->Qg (den ρ) vs=some us->HM ρ H As->Qq ρ n->∃x,ρ k=some x/\∀w,HS w0 [] As w->Qeo P x.1 us.toArray w (QhM w0 ρ v H' n')
structure CallOk(P:Program)(r0:Rho)(F:CallF):Prop where
 f:∀r1 Y,YOk P r1 Y->Qbu P r1 (F.f Y)
 e:Qd4 P F.e
 y:YOk P r0 F.y
def YZ(P:Program)(o:Oper)(L':Qa)(w0:World)(ρ:Rho)(H:Hp)(n:Nat)(As:List HA):Ans->Prop
 | .p v=>∃u,OpP P o L' u/\den ρ v=some u
 | .q v=>∃u,OpQ P o L' (HS w0 [] As) u/\den ρ v=some u
 | .h v H' n'=>OpT P o L' (HS w0 [] As) (Out w0 ρ v H' n')
section
variable{P:Program}{o:Oper}{L':Qa}{w0:World}{ρ:Rho}{L:Env}{H:Hp}{n:Nat}{As:List HA}{F:CallF}{a:Ans}
theorem Qch{x:Option Value}(h:Qbz x=some a)(hx:∀v,x=some v->∃u,OpP P o L' u/\den ρ v=some u):YZ P o L' w0 ρ H n As a:=by
 cases x with
 | none=>cases h
 | some v=>
  injection h with h
  subst h;exact hx v rfl
theorem QhQ{st f:Nat}{x:Operand}{v:Value}(ho:o.op=.field st x f)(hs:SR ρ L L')(h:QcF P st f (opd L x)=some v):∃u,OpP P o L' u/\den ρ v=some u:=by
 unfold QcF at h
 grind[QlQ]
theorem Qh8{t:Nat}{x y:Operand}{v:Value}(ho:o.op=.index t x y)(hs:SR ρ L L')(h:Qcu P t (opd L x) (vN (opd L y))=some v):∃u,OpP P o L' u/\den ρ v=some u:=by
 unfold Qcu at h;split at h
 ·rename_i l j hx hy;obtain⟨hc,rfl⟩:=bif_some h;simp only[Bool.and_eq_true]at hc;exact Qj7 ho hs hx hy hc.1 (by simpa[Nat.blt_eq]using hc.2)
 ·rename_i cs j hx hy;split at h
  ·rename_i len e sz h1;split at h
   ·rename_i k ag h2;obtain⟨hc,h3⟩:=bif_in h;exact QlX ho hs hx hy h1 h2 (by simpa[Nat.blt_eq]using hc) h3
   ·cases h
  ·cases h
 ·cases h
theorem Qiv{t:Nat}{x:Operand}{lo hi:Option Operand}{v:Value}(ho:o.op=.slice t x lo hi none)(hs:SR ρ L L')(h:Qgo P L t lo hi (opd L x)=some v):∃u,OpP P o L' u/\den ρ v=some u:=by
 unfold Qgo at h;split at h
 ·rename_i l hx;split at h
  ·rename_i i j h1 h2;obtain⟨hc,rfl⟩:=bif_some h;simp only[Bool.and_eq_true]at hc;exact Qjo ho hs hx hc.1 h1 h2 (Nat.le_of_ble_eq_true hc.2.1) (Nat.le_of_ble_eq_true hc.2.2)
  ·cases h
 ·rename_i m off l c hx;split at h
  ·rename_i e sz by' i j h1 h2 h3;cases hb:Nat.ble i j&&(Nat.ble j c&&(Nat.beq i 0||Nat.blt i c))with
   | true=>
    rw[hb]at h;injection h with h
    subst h;simp only[Bool.and_eq_true,Bool.or_eq_true]at hb;exact Ql5 ho hs hx h1 h2 h3 (Nat.le_of_ble_eq_true hb.1) (Nat.le_of_ble_eq_true hb.2.1) (hb.2.2.imp Nat.eq_of_beq_eq_true (λh=>by simpa[Nat.blt_eq]using h))
   | false=>
    rw[hb]at h;obtain⟨hc,rfl⟩:=bif_some h;simp only[Bool.and_eq_true]at hc;have e1:=Nat.eq_of_beq_eq_true hc.1;have e2:=Nat.eq_of_beq_eq_true hc.2
    grind[QiO]
  ·cases h
 ·rename_i m off q l c hx;split at h
  ·rename_i e sz by' i j h1 h2 h3;obtain⟨hc,rfl⟩:=bif_some h;simp only[Bool.and_eq_true]at hc;exact QkT ho hs hx h1 h2 h3 (Nat.le_of_ble_eq_true hc.1) (Nat.le_of_ble_eq_true hc.2)
  ·cases h
 ·rename_i l c hx;split at h
  ·rename_i y i j h1 h2 h3;obtain⟨e,sz,by'⟩:=y;obtain⟨hc,rfl⟩:=bif_some h;simp only[Bool.and_eq_true]at hc;exact Qji ho hs hx h1 h2 h3 (Nat.le_of_ble_eq_true hc.1) (Nat.le_of_ble_eq_true hc.2)
  ·cases h
 ·cases h
theorem Qgd{t:Nat}{x hi mx:Operand}{lo:Option Operand}{v:Value}(ho:o.op=.slice t x lo (some hi) (some mx))(hs:SR ρ L L')(h:Qeu P L t lo hi mx (opd L x)=some v):∃u,OpP P o L' u/\den ρ v=some u:=by
 unfold Qeu at h;split at h
 ·rename_i m off q l c hx;split at h
  ·rename_i e sz by' i j k h1 h2 h3 h4;obtain⟨hc,rfl⟩:=bif_some h;simp only[Bool.and_eq_true]at hc;exact Qkq ho hs hx h1 h2 h3 h4 (Nat.le_of_ble_eq_true hc.1) (Nat.le_of_ble_eq_true hc.2.1) (Nat.le_of_ble_eq_true hc.2.2)
  ·cases h
 ·rename_i l c hx;split at h
  ·rename_i y i j k h1 h2 h3 h4;obtain⟨e,sz,by'⟩:=y;obtain⟨hc,rfl⟩:=bif_some h;simp only[Bool.and_eq_true]at hc;exact QhN ho hs hx h1 h2 h3 h4 (Nat.le_of_ble_eq_true hc.1) (Nat.le_of_ble_eq_true hc.2.1) (Nat.le_of_ble_eq_true hc.2.2)
  ·cases h
 ·cases h
theorem QdB{st f:Nat}{x:Operand}{v:Value}(ho:o.op=.fieldAddr st x f)(hs:SR ρ L L')(h:ZF P st f (opd L x)=some v):∃u,OpP P o L' u/\den ρ v=some u:=by
 unfold ZF at h;split at h
 ·rename_i m i hx;split at h
  ·rename_i off ft h1;split at h
   ·rename_i sz ag h2;obtain⟨hc,rfl⟩:=bif_some h
    grind[Qf9]
   ·cases h
  ·cases h
 ·cases h
theorem Qdy{t:Nat}{x y:Operand}{v:Value}(ho:o.op=.indexAddr t x y)(hs:SR ρ L L')(h:YV P t (opd L x) (vN (opd L y))=some v):∃u,OpP P o L' u/\den ρ v=some u:=by
 unfold YV at h;split at h
 ·rename_i m off q l c j hx hy;split at h
  ·rename_i e sz by' h1;obtain⟨hc,rfl⟩:=bif_some h;cases q with
   | none=>exact Qe6 ho hs hx hy h1 (by simpa[Nat.blt_eq]using hc)
   | some q=>exact Qew ho hs hx hy h1 (by simpa[Nat.blt_eq]using hc)
  ·cases h
 ·rename_i m i j hx hy;split at h
  ·rename_i len e sz h1;obtain⟨hc,rfl⟩:=bif_some h;exact Qd9 ho hs hx hy h1 (by simpa[Nat.blt_eq]using hc)
  ·cases h
 ·cases h
theorem Qiu{t:Nat}{parts:Array (Nat×Operand)}{v:Value}(ho:o.op=.build t parts)(hs:SR ρ L L')(h:QgF P L t parts.toList=some v):∃u,OpP P o L' u/\den ρ v=some u:=by
 unfold QgF at h;split at h
 ·rename_i vs z h1 h2;obtain⟨hc,h⟩:=bif_in h
  grind[Qmc,QkL]
 ·cases h
theorem Qi4{t x:Nat}{v:Value}(ho:o.op=.load t (.tmp x))(hs:SR ρ L L')(hH:HM ρ H As)(h:Qds P L H t x=some v):∃u,OpQ P o L' (HS w0 [] As) u/\den ρ v=some u:=by
 unfold Qds at h;split at h
 ·rename_i m i hx;split at h
  ·rename_i r sz ag h1 h2;exact Qni ho hs hH hx h1 h2 h
  ·cases h
 ·cases h
theorem QhR{t x:Nat}{y:Operand}(ho:o.op=.store t (.tmp x) y)(hs:SR ρ L L')(hH:HM ρ H As)(hf:Qq ρ n)(h:QeQ P L H n t x y=some a):YZ P o L' w0 ρ H n As a:=by
 unfold QeQ at h;split at h
 ·rename_i m i v sz ag hx hy hz;split at h
  ·rename_i r hg;obtain⟨hc,rfl⟩:=bif_some h;simp only[Bool.and_eq_true]at hc;exact QkY ho hs hH hf hx hy hc.1 hg hz (Nat.eq_of_beq_eq_true hc.2.1) (Nat.le_of_ble_eq_true hc.2.2)
  ·cases h
 ·cases h
theorem Qaa{t:Nat}(h:ZS P t=true):P.underlying t=some (.int .u8):=by grind[ZS]
theorem QjN{src dst:Nat}{x:Operand}{v:Value}(ho:o.op=.convert src dst x)(hs:SR ρ L L')(hH:HM ρ H As)(hf:Qq ρ n)(hx:opd L x=some v)(h:QcX P H n src dst (some v)=some a):YZ P o L' w0 ρ H n As a:=by
 unfold QcX at h;split at h
 ·rename_i l hv;injection hv with hv
  subst hv;split at h
  ·rename_i e h1;obtain⟨hc,rfl⟩:=bif_some h;simp only[Bool.and_eq_true]at hc;exact Qmb ho hs hx (Xv hc.1) h1 (Qaa hc.2.1) (Nat.eq_of_beq_eq_true hc.2.2.1) (Nat.le_of_ble_eq_true hc.2.2.2) hH hf
  ·cases h
 ·rename_i k c hv;injection hv with hv
  subst hv;split at h
  ·rename_i e h1;obtain⟨hc,rfl⟩:=bif_some h;simp only[Bool.and_eq_true]at hc;have hk:=Nat.eq_of_beq_eq_true hc.2.2;subst hk;exact Qil (k:=0) ho hs hx h1 hc.1 (Qaa hc.2.1)
  ·cases h
 ·rename_i p i q k c hv;injection hv with hv
  subst hv;split at h
  ·rename_i e r h1 h2;cases hb:QJ P dst&&(ZS P e&&(Nat.ble (i+k) r.cs.length&&((cut r.cs i k).all Qev&&QI (cut r.cs i k))))with
   | true=>
    rw[hb]at h;injection h with h
    subst h;simp only[Bool.and_eq_true]at hb;exact QhZ ho hs hH hx h1 hb.1 (Qaa hb.2.1) h2 (Nat.le_of_ble_eq_true hb.2.2.1) hb.2.2.2.1 hb.2.2.2.2
   | false=>
    rw[hb]at h;simp only[cond_false]at h;split at h
    ·obtain⟨hc,rfl⟩:=bif_some h;simp only[Bool.and_eq_true]at hc;have e1:=Nat.eq_of_beq_eq_true hc.1;subst e1;exact QlR ho hs hH hf hx h1 (Qaa hc.2.1) h2 (Nat.eq_of_beq_eq_true hc.2.2)
    ·cases h
  ·cases h
 ·rename_i p i q hv;injection hv with hv
  subst hv;split at h
  ·rename_i e h1;obtain⟨hc,rfl⟩:=bif_some h;simp only[Bool.and_eq_true]at hc;exact Qig ho hs hx h1 hc.1 (Qaa hc.2)
  ·cases h
 ·cases h
theorem QcJ{t len:Nat}{parts:Array (Nat×Operand)}(ho:o.op=.buildSlice t len parts)(hs:SR ρ L L')(hH:HM ρ H As)(hf:Qq ρ n)(h:Yo P L H n t len parts.toList=some a):YZ P o L' w0 ρ H n As a:=by
 unfold Yo at h;split at h
 ·rename_i vs e sz by' h1 h2;split at h
  ·rename_i z h3;split at h
   ·rename_i cs h4;obtain⟨hc,rfl⟩:=bif_some h;simp only[Bool.and_eq_true]at hc;exact Qeb ho hs h1 h2 h3 hc.1 hc.2.1 hc.2.2.1 h4 hc.2.2.2 hH hf
   ·cases h
  ·cases h
 ·cases h
theorem QdA{t:Nat}{x y:Operand}(ho:o.op=.makeSlice t x y)(hs:SR ρ L L')(hH:HM ρ H As)(hf:Qq ρ n)(h:Zw P L H n t x y=some a):YZ P o L' w0 ρ H n As a:=by
 unfold Zw at h;split at h
 ·rename_i k k' e sz by' hx hy ht;split at h
  ·rename_i z hz;obtain⟨hc,rfl⟩:=bif_some h;simp only[Bool.and_eq_true]at hc;exact Qe8 ho hs hx hy (Nat.le_of_ble_eq_true hc.1) ht hz (Nat.le_of_ble_eq_true hc.2.1) (Nat.le_of_ble_eq_true hc.2.2.1) hc.2.2.2 hH hf
  ·cases h
 ·cases h
theorem Qgm{t xt:Nat}{s y:Operand}(ho:o.op=.call {callee:=.builtin .append,args:=#[s,y],argTypes:=#[t,xt]})(hs:SR ρ L L')(hH:HM ρ H As)(hf:Qq ρ n)(h:Qer P L H n t xt s y=some a):YZ P o L' w0 ρ H n As a:=by
 unfold Qer at h;split at h
 ·rename_i a0 k c vy e sz by' hx hy ht;split at h
  ·rename_i m;split at h
   ·rename_i z hz;obtain⟨hc,rfl⟩:=bif_some h;simp only[Bool.and_eq_true]at hc;obtain⟨⟨c1,c2,c3,c4,c5⟩,c6,c7,c8,c9⟩:=hc;have hk:=Nat.eq_of_beq_eq_true c1;have hc0:=Nat.eq_of_beq_eq_true c2;subst hk hc0;refine Qiy ho hs hH hf hx hy ?_ ht hz (Nat.eq_of_beq_eq_true c3) (by simpa[Nat.blt_eq]using c4) c5 (Nat.le_of_ble_eq_true c7) (Nat.le_of_ble_eq_true c8) (by simpa[Nat.blt_eq]using c9)
    grind
   ·cases h
  ·split at h
   ·rename_i m cs hsrc;split at h
    ·obtain⟨hc,h⟩:=bif_in h;simp only[Bool.and_eq_true]at hc;have hk:=Nat.eq_of_beq_eq_true hc.1;have hc0:=Nat.eq_of_beq_eq_true hc.2;subst hk hc0;cases hm:Nat.beq m 0 with
     | true=>
      rw[hm]at h;have hm:=Nat.eq_of_beq_eq_true hm;subst hm;injection h with h
      subst h;exact Qh6 ho hs hH hf hx hy ht hsrc
     | false=>
      rw[hm]at h;simp only[cond_false]at h;split at h
      ·rename_i z hz;obtain⟨hc,rfl⟩:=bif_some h;simp only[Bool.and_eq_true]at hc;exact Qia ho hs hH hf hx hy ht hz (Nat.eq_of_beq_eq_true hc.1) hsrc (Nat.le_of_ble_eq_true hc.2.1) (Nat.le_of_ble_eq_true hc.2.2.1) (by simpa[Nat.blt_eq]using hc.2.2.2)
      ·cases h
    ·rename_i p off q;obtain⟨hc,h⟩:=bif_in h;have ho0:=Nat.eq_of_beq_eq_true hc;subst ho0;split at h
     ·rename_i r hg;cases hfit:Nat.ble (k+m) c with
      | true=>
       rw[hfit]at h;obtain⟨hc,rfl⟩:=bif_some h;exact Qix ho hs hH hf hx hy ht hsrc hg (Nat.le_of_ble_eq_true hfit) (Nat.le_of_ble_eq_true hc)
      | false=>
       rw[hfit]at h;simp only[cond_false]at h;split at h
       ·rename_i z hz _;obtain⟨hc,rfl⟩:=bif_some h;simp only[Bool.and_eq_true]at hc;obtain⟨⟨c1,c2,c3,c4,c5⟩,⟨c6,c7⟩,c8,c9,c10⟩:=hc;exact Qh5 ho hs hH hf hx hy ht hz (Nat.eq_of_beq_eq_true c1) hsrc hg (Nat.eq_of_beq_eq_true c2) (Nat.eq_of_beq_eq_true c3) (Nat.eq_of_beq_eq_true c4) (by simpa[Nat.blt_eq]using c5) (Nat.le_of_ble_eq_true c6) (Nat.le_of_ble_eq_true c7) (Nat.le_of_ble_eq_true c8) (Nat.le_of_ble_eq_true c9) (by simpa[Nat.blt_eq]using c10)
       ·cases h
     ·cases h
   ·cases h
 ·cases h
theorem QjL{dt st:Nat}{d s:Operand}(ho:o.op=.call {callee:=.builtin .copy,args:=#[d,s],argTypes:=#[dt,st]})(hs:SR ρ L L')(hH:HM ρ H As)(hf:Qq ρ n)(h:QiS P L H n dt d s=some a):YZ P o L' w0 ρ H n As a:=by
 unfold QiS at h;split at h
 ·rename_i p i q k c p2 i2 q2 k2 c2 e sz by' hd hx ht;split at h
  ·rename_i r r2 hg hg2;obtain⟨hc,rfl⟩:=bif_some h;simp only[Bool.and_eq_true]at hc;exact Qnl ho hs hH hf hd hx ht hg hg2 (Nat.le_of_ble_eq_true hc.1) (Nat.le_of_ble_eq_true hc.2)
  ·cases h
 ·rename_i p i q k c l e sz by' hd hx ht;split at h
  ·rename_i r hg;obtain⟨hc,rfl⟩:=bif_some h;simp only[Bool.and_eq_true]at hc;have h1:=Nat.eq_of_beq_eq_true hc.1;subst h1;exact QlW ho hs hH hf hd hx ht hg (Nat.le_of_ble_eq_true hc.2)
  ·cases h
 ·cases h
theorem Qh7{t:Nat}{x:Operand}(ho:o.op=.call {callee:=.builtin .clear,args:=#[x],argTypes:=#[t]})(hs:SR ρ L L')(hH:HM ρ H As)(hf:Qq ρ n)(h:QgO P L H n t x=some a):YZ P o L' w0 ρ H n As a:=by
 unfold QgO at h;split at h
 ·rename_i p i q k c e sz by' hx ht;split at h
  ·rename_i r z hg hz;obtain⟨hc,rfl⟩:=bif_some h;simp only[Bool.and_eq_true]at hc;obtain⟨c1,c2,c3,c4,c5⟩:=hc;exact QlK ho hs hH hf hx ht hz (Nat.eq_of_beq_eq_true c1) c2 c3 c4 hg (Nat.le_of_ble_eq_true c5)
  ·cases h
 ·cases h
theorem Qj3{vs us:List Value}(h:Qg (Q8 ρ) vs=some us):Qg (den ρ) vs=some us:=QS (λa b e=>Qb4 (QaW (QiJ e))) h
theorem QfY{f:Operand}{args:Array Operand}{ts:Array TypeId}{r0:Rho}(hF:CallOk P r0 F)(h0:r0.le ρ)(ho:o.op=.call {callee:=.value f,args:=args,argTypes:=ts})(hs:SR ρ L L')(hH:HM ρ H As)(hf:Qq ρ n)(h:QbU P H n F (opd L f) (Qa0 L args.toList)=some a):YZ P o L' w0 ρ H n As a:=by
 unfold QbU at h;split at h
 ·rename_i g first cap vs hx hvs
  obtain⟨hc,h⟩:=bif_in h;split at h
  ·rename_i v H' n' hr;injection h with h
   subst h;obtain⟨u,e1,e2⟩:=X9 hs hx;simp only[den,QQ,Qt,QaI]at e2;split at e2
   ·rename_i f' a' b' g1 g2 g3;injection g1 with g1
    subst g1;injection e2 with e2
    subst e2;obtain⟨us,e3,e4⟩:=QbR hs hvs;have hall:=Ya (Ya (Qj3 g2) e4) (Qj3 g3);refine⟨{x:Rho×List HA×Value // ρ.le x.1/\Qq x.1 n'/\den x.1 v=some x.2.2/\HM x.1 H' x.2.1},λx=>x.1.2.2,λ_=>True,λx=>HS w0 [] x.1.2.1,λag w hρ hw=>?_,λx _=>⟨x.1.1,x.1.2.1,x.2.1,x.2.2.1,x.2.2.2.1,x.2.2.2.2,λ_ h=>h⟩⟩;rw[YJ ho hρ e1 hc e3];have hcall:=hF.f r0 F.y hF.y _ _ _ _ _ _ _ hr w0 ρ _ As h0 hall hH hf w hw;have hargs:(a'++us++b').toArray=a'.toArray++us.toArray++b'.toArray:=by simp
    rw[hargs]at hcall;exact Calls.mono hcall λe w'⟨ρ',As',u',h1,h2,h3,h4,h5,h6⟩=>⟨u',h5,⟨(ρ',As',u'),h1,h2,h3,h4⟩,rfl,trivial,h6⟩
   ·cases e2
  ·cases h
 ·rename_i k vs hx hvs;split at h
  ·rename_i v H' n' hr;injection h with h
   subst h;obtain⟨u,e1,e2⟩:=X9 hs hx;obtain⟨us,e3,e4⟩:=QbR hs hvs;obtain⟨x,hk,hy⟩:=hF.y _ _ _ _ _ _ _ hr w0 ρ us As h0 e4 hH hf;simp only[den,QQ,Qt,QaI,hk,Qg,Option.some.injEq]at e2;subst e2;refine⟨{x:Rho×List HA×Value // ρ.le x.1/\Qq x.1 n'/\den x.1 v=some x.2.2/\HM x.1 H' x.2.1},λx=>x.1.2.2,λ_=>True,λx=>HS w0 [] x.1.2.1,?_,λx _=>⟨x.1.1,x.1.2.1,x.2.1,x.2.2.1,x.2.2.2.1,x.2.2.2.2,λ_ h=>h⟩⟩;refine Ql8 (l:=x.1) ho e1 e3 λw hw=>?_;obtain⟨f,tmps,assign,body,y1,y2⟩:=hy w hw;exact⟨f,tmps,assign,body,y1,RoundIn.mono y2 λe w'⟨ρ',As',u',h1,h2,h3,h4,h5,h6⟩=>⟨⟨(ρ',As',u'),h1,h2,h3,h4⟩,h5,trivial,h6⟩⟩
  ·cases h
 ·cases h
theorem Qf3{b:Builtin}{args:Array Operand}{ts:Array TypeId}(ho:o.op=.call {callee:=.builtin b,args:=args,argTypes:=ts})(hs:SR ρ L L')(hH:HM ρ H As)(hf:Qq ρ n)(h:Qbo P L H n b args.toList ts.toList=some a):YZ P o L' w0 ρ H n As a:=by
 unfold Qbo at h;split at h
 ·rename_i x t h1 h2;rw[Qbs h1,Qbs h2]at ho;split at h
  ·rename_i l hx;obtain⟨hc,rfl⟩:=bif_some h;exact QmM ho hs hx hc
  ·rename_i p k c hx;obtain⟨hc,rfl⟩:=bif_some h;exact Qm9 ho hs hx hc
  ·rename_i p i q hx;obtain⟨hc,rfl⟩:=bif_some h;exact QnM ho hs hx hc
  ·cases h
 ·rename_i x t h1 h2;rw[Qbs h1,Qbs h2]at ho;split at h
  ·rename_i k c hx;obtain⟨hc,rfl⟩:=bif_some h;exact Qnj ho hs hx hc
  ·cases h
 ·rename_i x y h1;rw[Qbp h1]at ho;split at h
  ·rename_i k p k' q hx hy;obtain⟨hc,rfl⟩:=bif_some h;exact QmK ho hs hx hy hc
  ·cases h
 ·rename_i x y h1;rw[Qbp h1]at ho;split at h
  ·rename_i k p k' q hx hy;obtain⟨hc,rfl⟩:=bif_some h;exact QmX ho hs hx hy hc
  ·cases h
 ·grind[Qbp,Qgm]
 ·grind[Qbp,QjL]
 ·grind[Qbs,Qh7]
 ·cases h
theorem QgQ{t:Nat}{m x:Operand}(ho:o.op=.lookup t m x false)(hs:SR ρ L L')(hH:HM ρ H As)(h:Y2 P H t (opd L m) (opd L x)=some a):YZ P o L' w0 ρ H n As a:=by
 unfold Y2 at h;split at h
 ·rename_i r k h1 h2;split at h
  ·rename_i kt et ks h3 h4;split at h
   ·rename_i h5 h6;injection h with h
    subst h;exact QiG ho hs hH h1 h2 h3 h5 h6 h4
   ·cases h
  ·cases h
 ·cases h
theorem Qdw{t:Nat}{m x y:Operand}(ho:o.op=.mapUpdate t m x y)(hs:SR ρ L L')(hH:HM ρ H As)(hf:Qq ρ n)(h:QaY P H n t (opd L m) (opd L x) (opd L y)=some a):YZ P o L' w0 ρ H n As a:=by
 unfold QaY at h;split at h
 ·rename_i r k h1 h2 h2';split at h
  ·rename_i kt et ks h3 h4;split at h
   ·rename_i h6;injection h with h
    subst h;exact QeY (.inl ho) hs hH hf h1 h2 h2' h3 h6 h4
   ·cases h
  ·cases h
 ·cases h
theorem YF{op:Op}{r0:Rho}(hF:CallOk P r0 F)(h0:r0.le ρ)(ho:o.op=op)(hs:SR ρ L L')(hH:HM ρ H As)(hf:Qq ρ n)(h:QR P L H n F op=some a):YZ P o L' w0 ρ H n As a:=by
 unfold QR at h;split at h
 ·exact Qch h λv hv=>QjF (.inl ho) hs hv
 ·exact Qch h λv hv=>QjF (.inr ho) hs hv
 ·split at h
  ·rename_i t x y h1 h2 h3;injection h with h
   subst h;exact Qny ho hs h1 h2 h3
  ·cases h
 ·grind[Qch,QnY]
 ·split at h
  ·rename_i x h1;exact Qch h λv hv=>un_R ho hs h1 hv
  ·cases h
 ·split at h
  ·rename_i x h1;split at h
   ·rename_i v hv;injection h with h
    subst h;exact Qng ho hs h1 hv
   grind[QjN]
  ·cases h
 ·split at h
  ·rename_i vs h1;exact Qch h λv hv=>Qir ho hs h1 hv
  ·cases h
 ·split at h
  ·rename_i x y h1 h2;obtain⟨hc,rfl⟩:=bif_some h;simp only[Bool.and_eq_true]at hc;exact Qgr ho hs h1 h2 hc.1 hc.2
  ·cases h
 ·split at h
  ·rename_i m i h1;injection h with h
   subst h;exact QgE ho hs h1
  ·rename_i f x y h1;injection h with h
   subst h;exact Qga ho hs h1
  ·cases h
 ·grind[Qch,QhQ]
 ·grind[Qch,Qh8]
 ·grind[Qch,Qiv]
 ·grind[Qch,Qgd]
 ·grind[Qch,QdB]
 ·grind[Qch,Qdy]
 ·grind[Qch,Qiu]
 ·split at h
  ·rename_i v hv;injection h with h
   subst h;exact Qi4 ho hs hH hv
  ·cases h
 ·exact QhR ho hs hH hf h
 ·unfold QnT at h;split at h
  ·rename_i z hz;obtain⟨hc,rfl⟩:=bif_some h;exact Qld ho hz hc hH hf
  ·cases h
 ·unfold QmC at h;split at h
  ·rename_i v hv;obtain⟨hc,rfl⟩:=bif_some h;exact Qn4 ho hs hv hc hH hf
  ·cases h
 ·split at h
  ·rename_i e sz by' ht;injection h with h
   subst h;exact QdD ho ht hH hf
  ·cases h
 ·exact QcJ ho hs hH hf h
 ·exact QdA ho hs hH hf h
 ·exact Qf3 ho hs hH hf h
 ·rename_i g args ts;split at h
  ·rename_i vs hvs;split at h
   ·rename_i v hv;injection h with h
    subst h;obtain⟨us,e3,e4⟩:=QbR hs hvs;obtain⟨u,e5,e6⟩:=hF.e _ _ _ hv w0 ρ us As e4 o L' args ts ho e3;exact⟨u,e6,e5⟩
   ·exact QfY hF h0 ho hs hH hf (by rw[hvs];exact h)
  ·cases h
 ·grind[QfY]
 ·injection h with h
  subst h;exact Qh2 ho hH hf
 ·exact QgQ ho hs hH h
 ·exact Qdw ho hs hH hf h
 ·cases h
end
end Ev
namespace Ev
open Go Go.RowKit
structure Clo(α:Type) where
 run:α
noncomputable def en(T:Tr Value):Env:=λt=>XO (pth t) t T
inductive An where
 | no
 | p (v:Value)
 | q (m:Option Nat) (v:Value)
 | new (v:Value) (x:HX)
 | h (v:Value) (H:Hp) (n:Nat)
abbrev VF:=Tr Value->Option Value
abbrev OpF:=CallF->Tr Value->Hp->Nat->An
def QnB(P:Program)(op:Op)(F:CallF)(T:Tr Value)(H:Hp)(n:Nat):An->Prop
 | .no=>True
 | .p v=>QR P (en T) H n F op=some (.p v)
 | .q m v=>(∀H2,(∀k,m=some k->XC H2 k=XC H k)->QR P (en T) H2 n F op=some (.q v))/\∀k,m=some k->∃r,XC H k=some r
 | .new v x=>QR P (en T) H n F op=some (.h v (XP H n x) (n+1))
 | .h v H' n'=>QR P (en T) H n F op=some (.h v H' n')
def YO(P:Program)(op:Op)(f:OpF):Prop:=∀F,True->∀T H n,QnB P op F T H n (f F T H n)
noncomputable def anP:Option Value->An:=λx=>Option.rec .no (λv=>.p v) x
theorem QgB{P:Program}{op:Op}{F:CallF}{T:Tr Value}{H:Hp}{n:Nat}{x:Option Value}(h:∀v,x=some v->QR P (en T) H n F op=some (.p v)):QnB P op F T H n (anP x):=by
 cases x with
 | none=>trivial
 | some v=>exact h v rfl
noncomputable def fbF(P:Program)(op:Op):OpF:=λF T H n=>match QR P (en T) H n F op with
 | some (.p v)=>.p v
 | some (.h v H n)=>.h v H n
 | _=>.no
theorem Qi1(P:Program)(op:Op):YO P op (fbF P op):=by
 intro F hF T H n;unfold fbF;split<;>first|assumption|trivial
noncomputable def Qlz(l:List Value):Nat->Option Value:=List.rec (λ_=>none) (λa _ ih i=>Nat.rec (some a) (λj _=>ih j) i) l
theorem Qci:∀(l:List Value)(i:Nat),Qlz l i=l[i]?
 | [],i=>by cases i<;>rfl
 | a::l,0=>rfl
 | a::l,i+1=>Qci l i
noncomputable def QfU(l:List Value):Nat->Option (List Value):=
 List.rec (λn=>Nat.rec (some []) (λ_ _=>none) n) (λa _ ih n=>Nat.rec (some []) (λj _=>Option.rec none (λm=>some (a::m)) (ih j)) n) l
theorem QcZ:∀(l:List Value)(n:Nat){c:List Value},QfU l n=some c->n<=l.length/\c=l.take n
 | [],0,c,h=>by cases h;exact⟨Nat.le_refl _,rfl⟩
 | [],n+1,c,h=>by cases h
 | a::l,0,c,h=>by cases h;exact⟨Nat.zero_le _,rfl⟩
 | a::l,n+1,c,h=>by
  have h':(Option.rec none (λm=>some (a::m)) (QfU l n):Option (List Value))=some c:=h;cases hm:QfU l n with
  | none=>rw[hm]at h';cases h'
  | some m=>
   rw[hm]at h';injection h' with h'
   obtain⟨h1,h2⟩:=QcZ l n hm
   grind
noncomputable def QlS(l:List Value):Nat->Nat->Option (List Value):=
 List.rec (λi n=>Nat.rec (QfU [] n) (λ_ _=>none) i) (λa t ih i n=>Nat.rec (QfU (a::t) n) (λj _=>ih j n) i) l
theorem Qco:∀(l:List Value)(i n:Nat){c:List Value},QlS l i n=some c->i+n<=l.length/\c=cut l i n
 | [],0,n,c,h=>by
  obtain⟨h1,h2⟩:=QcZ [] n h;exact⟨om,h2⟩
 | [],i+1,n,c,h=>by cases h
 | a::l,0,n,c,h=>by
  obtain⟨h1,h2⟩:=QcZ (a::l) n h;exact⟨om,h2⟩
 | a::l,i+1,n,c,h=>by
  obtain⟨h1,h2⟩:=Qco l i n h
  grind[cut]
noncomputable def Qky(vs:List Value):List Value->Option (List Value):=
 List.rec (λl=>some l) (λv _ ih l=>List.rec none (λ_ l' _=>Option.rec none (λm=>some (v::m)) (ih l')) l) vs
noncomputable def setO(l:List Value):Nat->List Value->Option (List Value):=
 List.rec (λi vs=>Nat.rec (Qky vs []) (λ_ _=>none) i) (λa t ih i vs=>Nat.rec (Qky vs (a::t)) (λj _=>Option.rec none (λm=>some (a::m)) (ih j vs)) i) l
theorem XY(a:Value):∀(vs l:List Value)(i:Nat),Qb (a::l) (i+1) vs=a::Qb l i vs
 | [],l,i=>rfl
 | v::vs,l,i=>by simp_all[Qb,XY]
theorem Qea:∀(vs l:List Value){m:List Value},Qky vs l=some m->vs.length<=l.length/\m=Qb l 0 vs
 | [],l,m,h=>by cases h;exact⟨Nat.zero_le _,rfl⟩
 | v::vs,[],m,h=>by cases h
 | v::vs,a::l,m,h=>by
  have h':(Option.rec none (λm=>some (v::m)) (Qky vs l):Option (List Value))=some m:=h;cases hm:Qky vs l with
  | none=>rw[hm]at h';cases h'
  | some x=>
   rw[hm]at h';injection h' with h'
   obtain⟨h1,h2⟩:=Qea vs l hm
   grind[Qb,XY]
theorem Qhq:∀(l:List Value)(i:Nat)(vs:List Value){m:List Value},setO l i vs=some m->i+vs.length<=l.length/\m=Qb l i vs
 | [],0,vs,m,h=>by
  obtain⟨h1,h2⟩:=Qea vs [] h
  grind
 | [],i+1,vs,m,h=>by cases h
 | a::l,0,vs,m,h=>by
  obtain⟨h1,h2⟩:=Qea vs (a::l) h
  grind
 | a::l,i+1,vs,m,h=>by
  have h':(Option.rec none (λm=>some (a::m)) (setO l i vs):Option (List Value))=some m:=h;cases hm:setO l i vs with
  | none=>rw[hm]at h';cases h'
  | some x=>
   rw[hm]at h';injection h' with h'
   obtain⟨h1,h2⟩:=Qhq l i vs hm
   grind[XY]
def Qb9:IntKind->Nat
 | .i8=>128
 | .i16=>32768
 | .i32=>2147483648
 | .i64=>9223372036854775808
 | .u8=>256
 | .u16=>65536
 | .u32=>4294967296
 | .u64=>18446744073709551616
def fw(k:IntKind)(z:Nat):Int:=bif Nat.blt z (Qb9 k)then .ofNat z else k.wrap (.ofNat z)
theorem QcC{k:IntKind}{z:Nat}(h:z<Qb9 k):k.wrap (z:Int)=(z:Int):=by
 cases k<;>simp only[Qb9]at h<;>(simp only[IntKind.wrap,IntKind.signed,IntKind.bits];simp;omega)
theorem QdL(k:IntKind)(z:Nat):fw k z=k.wrap (z:Int):=by
 unfold fw;cases hb:Nat.blt z (Qb9 k)with
 | true=>exact(QcC (by simpa[Nat.blt_eq]using hb)).symm
 | false=>rfl
end Ev
namespace Ev
open Go Go.RowKit
theorem Qc3{op:BinOp}{k:IntKind}{x y:Nat}(hx:x<Qb9 k)(hy:y<Qb9 k):bits .and k (x:Int) (y:Int)=((x &&& y:Nat):Int)/\bits .or k (x:Int) (y:Int)=k.wrap ((x ||| y:Nat):Int):=by
 have hb:Qb9 k<=2^k.bits:=by cases k<;>simp[Qb9,IntKind.bits]
 have ex:(BitVec.ofInt k.bits (x:Int)).toNat=x:=QaB _ _ om;have ey:(BitVec.ofInt k.bits (y:Int)).toNat=y:=QaB _ _ om;constructor
 ·show k.wrap (((BitVec.ofInt k.bits (x:Int)) &&& (BitVec.ofInt k.bits (y:Int)):BitVec k.bits).toNat:Int)=_;rw[BitVec.toNat_and,ex,ey];exact QcC (Nat.lt_of_le_of_lt Nat.and_le_left hx)
 ·show k.wrap (((BitVec.ofInt k.bits (x:Int)) ||| (BitVec.ofInt k.bits (y:Int)):BitVec k.bits).toNat:Int)=_
  grind
theorem d_eq(x y:Nat):decide (Int.ofNat x=Int.ofNat y)=Nat.beq x y:=by
 rw[Bool.eq_iff_iff,decide_eq_true_eq,Nat.beq_eq];constructor
 ·intro h;injection h
 ·intro h;rw[h]
abbrev IF:=IntKind->Nat->Nat->Option Value
noncomputable def QfD:BinOp->Option (Clo IF)
 | .add=>some ⟨λk x y=>some (.int k (fw k (Nat.add x y)))⟩
 | .sub=>some ⟨λk x y=>bif Nat.ble y x then some (.int k (fw k (Nat.sub x y)))else some (.int k (k.wrap (Int.subNatNat x y)))⟩
 | .mul=>some ⟨λk x y=>some (.int k (fw k (Nat.mul x y)))⟩
 | .eql=>some ⟨λ_ x y=>some (.bool (Nat.beq x y))⟩
 | .neq=>some ⟨λ_ x y=>some (.bool (Bool.not (Nat.beq x y)))⟩
 | .lss=>some ⟨λ_ x y=>some (.bool (Nat.blt x y))⟩
 | .leq=>some ⟨λ_ x y=>some (.bool (Nat.ble x y))⟩
 | .gtr=>some ⟨λ_ x y=>some (.bool (Nat.blt y x))⟩
 | .geq=>some ⟨λ_ x y=>some (.bool (Nat.ble y x))⟩
 | .and=>some ⟨λk x y=>bif Nat.blt x (Qb9 k)&&Nat.blt y (Qb9 k)then some (.int k (.ofNat (Nat.land x y)))else none⟩
 | .or=>some ⟨λk x y=>bif Nat.blt x (Qb9 k)&&Nat.blt y (Qb9 k)then some (.int k (fw k (Nat.lor x y)))else none⟩
 | .quo=>some ⟨λk x y=>bif Nat.beq y 0 then none else some (.int k (fw k (Nat.div x y)))⟩
 | .rem=>some ⟨λk x y=>bif Nat.beq y 0 then none else some (.int k (.ofNat (Nat.mod x y)))⟩
 | _=>none
theorem Qj8{op:BinOp}{c:Clo IF}{k:IntKind}{x y:Nat}{v:Value}(P:Program)(t:TypeId)(h:QfD op=some c)(hv:c.run k x y=some v):Yv P op t (.int k (.ofNat x)) (.int k (.ofNat y))=some v:=by
 have hk:kEq k k=true:=by cases k<;>rfl
 unfold QfD at h;split at h<;>first|(injection h with h;subst h)|cases h
 ·grind[Yv,QL,Q9,QdL]
 ·cases hb:Nat.ble y x with
  | true=>
   simp only[hb,cond_true]at hv;injection hv with hv;subst hv
   simp only[Yv,QL,hk,cond_true,Q9];rw[QdL];have:=Nat.le_of_ble_eq_true hb
   grind
  | false=>grind[Yv,QL,Q9]
 ·grind[Yv,QL,Q9,QdL]
 ·grind[Yv,QL,Q9,d_eq]
 ·grind[Yv,QL,Q9,d_eq]
 ·injection hv with hv;subst hv
  simp only[Yv,QL,hk,cond_true,Q9];congr 2;rw[Bool.eq_iff_iff];simp[Nat.blt_eq]
 ·injection hv with hv;subst hv
  simp only[Yv,QL,hk,cond_true,Q9];congr 2;rw[Bool.eq_iff_iff];simp[Nat.ble_eq]
 ·injection hv with hv;subst hv
  simp only[Yv,QL,hk,cond_true,Q9];congr 2;rw[Bool.eq_iff_iff];simp[Nat.blt_eq]
 ·injection hv with hv;subst hv
  simp only[Yv,QL,hk,cond_true,Q9];congr 2;rw[Bool.eq_iff_iff];simp[Nat.ble_eq]
 ·obtain⟨hc,rfl⟩:=bif_some hv;simp only[Bool.and_eq_true,Nat.blt_eq]at hc;simp only[Yv,QL,hk,cond_true,Q9];rw[show bits .and k (Int.ofNat x) (Int.ofNat y)=_ from(Qc3 (op:=.and) hc.1 hc.2).1];rfl
 ·obtain⟨hc,rfl⟩:=bif_some hv;simp only[Bool.and_eq_true,Nat.blt_eq]at hc;simp only[Yv,QL,hk,cond_true,Q9];rw[show bits .or k (Int.ofNat x) (Int.ofNat y)=_ from(Qc3 (op:=.or) hc.1 hc.2).2,QdL];rfl
 ·cases hb:Nat.beq y 0 with
  | true=>simp only[hb,cond_true]at hv;cases hv
  | false=>
   simp only[hb,cond_false]at hv;injection hv with hv;subst hv
   have hy:y≠0:=λe=>by subst e;cases hb
   have h0:decide ((Int.ofNat y)=0)=false:=by simpa using hy
   simp only[Yv,QL,hk,cond_true,Q9,h0,Bool.not_false,Bool.and_true];rw[QdL];rfl
 ·cases hb:Nat.beq y 0 with
  | true=>simp only[hb,cond_true]at hv;cases hv
  | false=>
   simp only[hb,cond_false]at hv;injection hv with hv;subst hv
   have hy:y≠0:=λe=>by subst e;cases hb
   have h0:decide ((Int.ofNat y)=0)=false:=by simpa using hy
   simp only[Yv,QL,hk,cond_true,Q9,h0,Bool.not_false,Bool.and_true];rfl
end Ev
namespace Ev
open Go Go.RowKit
noncomputable def Q3:Operand->Clo VF
 | .tmp t=>⟨XO (pth t) t⟩
 | .const v=>Bool.rec ⟨λ_=>none⟩ ⟨λ_=>some v⟩ (Yt v)
 | .func f=>⟨λ_=>some (.func (.func f) #[] #[])⟩
 | _=>⟨λ_=>none⟩
theorem Qu(x:Operand)(T:Tr Value):(Q3 x).run T=opd (en T) x:=by
 cases x with
 | const v=>
  simp only[Q3,opd];cases Yt v<;>rfl
 | _=>rfl
noncomputable def Qd2:List Operand->Clo (Tr Value->Option (List Value))
 | []=>⟨λ_=>some []⟩
 | x::l=>⟨λT=>Option.rec none (λv=>Option.rec none (λvs=>some (v::vs)) ((Qd2 l).run T)) ((Q3 x).run T)⟩
theorem Qc7(T:Tr Value):∀l,(Qd2 l).run T=Qa0 (en T) l
 | []=>rfl
 | x::l=>by
  show(Option.rec none (λv=>Option.rec none (λvs=>some (v::vs)) ((Qd2 l).run T)) ((Q3 x).run T):Option (List Value))=_;rw[Qc7 T l,Qu];simp only[Qa0];cases opd (en T) x<;>cases Qa0 (en T) l<;>rfl
def VOk(P:Program)(op:Op)(f:VF):Prop:=∀T v,f T=some v->∀F H n,QR P (en T) H n F op=some (.p v)
noncomputable def ofV(f:VF):OpF:=λ_ T _ _=>anP (f T)
theorem Zd{P:Program}{op:Op}{f:VF}(h:VOk P op f):YO P op (ofV f):=λF hF T H n=>QgB λv hv=>h T v hv F H n
theorem Xi{x:Option Value}{v:Value}(h:x=some v):Qbz x=some (.p v):=by rw[h];rfl
noncomputable def QmF(P:Program)(op:BinOp)(t:TypeId)(c:Option (Clo IF))(a b:Value):Option Value:=
 Option.rec (Yv P op t a b) (λc=>match a with
  | .int k (.ofNat x)=>match b with
   | .int k' (.ofNat y)=>bif kEq k k' then(match c.run k x y with
    | some v=>some v
    | none=>Yv P op t a b)else none
   | b=>Yv P op t a b
  | a=>Yv P op t a b) c
theorem Qlb{P:Program}{op:BinOp}{t:TypeId}{a b v:Value}(h:QmF P op t (QfD op) a b=some v):Yv P op t a b=some v:=by
 unfold QmF at h;cases hc:QfD op with
 | none=>rw[hc]at h;exact h
 | some c=>
  rw[hc]at h;simp only[]at h;split at h
  ·split at h
   ·obtain⟨hk,h⟩:=bif_in h
    grind[Qag,Qj8]
   ·exact h
  ·exact h
noncomputable def QiW(P:Program)(op:BinOp)(t:TypeId)(x y:Operand):Clo VF:=
 ⟨λT=>Option.rec none (λa=>Option.rec none (λb=>QmF P op t (QfD op) a b) ((Q3 y).run T)) ((Q3 x).run T)⟩
theorem QeE{P:Program}{op:BinOp}{t t':TypeId}{x y:Operand}:VOk P (.binOp op t x y t') (QiW P op t x y).run:=by
 intro T v h F H n;unfold QiW at h;simp only[Qu]at h;cases hx:opd (en T) x with
 | none=>rw[hx]at h;cases h
 | some a=>
  cases hy:opd (en T) y with
  | none=>rw[hx,hy]at h;cases h
  | some b=>simp_all[QR,Xi,Qlb]
noncomputable def QiU(c a b:Operand):Clo VF:=⟨λT=>match(Q3 c).run T with
 | some (.bool t)=>(match(Q3 a).run T with
  | some x=>(match(Q3 b).run T with
   | some y=>some (Bool.rec y x t)
   | none=>none)
  | none=>none)
 | _=>none⟩
theorem Qkm{P:Program}{c a b:Operand}:VOk P (.pick c a b) (QiU c a b).run:=by
 intro T v h F H n;unfold QiU at h;simp only[Qu]at h;unfold QR;split at h
 ·rename_i t h1;split at h
  ·rename_i x h2;split at h
   ·rename_i y h3;injection h with h
    subst h;simp only[h1,h2,h3];cases t<;>rfl
   ·cases h
  ·cases h
 ·cases h
noncomputable def Qnz(x:Operand)(i:Nat):Clo VF:=⟨λT=>match(Q3 x).run T with
 | some (.tuple ⟨l⟩)=>Qlz l i
 | _=>none⟩
theorem QlG{P:Program}{x:Operand}{i:Nat}:VOk P (.extract x i) (Qnz x i).run:=by
 intro T v h F H n;unfold Qnz at h
 grind[Qu,Qci,QR,Xi]
noncomputable def QgC(P:Program)(st:Nat)(x:Operand)(f:Nat):Clo VF:=match tfd P st f with
 | some (off,ft)=>match tsz P ft with
  | some (k,true)=>⟨λT=>match(Q3 x).run T with
   | some (.agg ⟨l⟩)=>(match QlS l off k with
    | some c=>some (.agg ⟨c⟩)
    | none=>none)
   | _=>none⟩
  | some (k,false)=>⟨λT=>match(Q3 x).run T with
   | some (.agg ⟨l⟩)=>Qlz l off
   | _=>none⟩
  | none=>⟨λ_=>none⟩
 | none=>⟨λ_=>none⟩
theorem Qh9{P:Program}{st f:Nat}{x:Operand}:VOk P (.field st x f) (QgC P st x f).run:=by
 intro T v h F H n;unfold QgC at h;unfold QR;split at h
 ·rename_i off ft h1;split at h
  ·rename_i k h2;simp only[Qu]at h;split at h
   ·rename_i l h3;split at h
    ·rename_i c h4;injection h with h
     subst h;obtain⟨_,rfl⟩:=Qco l off k h4
     grind[Xi,QcF]
    ·cases h
   ·cases h
  ·grind[Qu,Qci,Xi,QcF]
  ·cases h
 ·cases h
noncomputable def cFA(P:Program)(st:Nat)(x:Operand)(f:Nat):Clo VF:=match tfd P st f with
 | some (off,ft)=>match tsz P ft with
  | some (k,_)=>bif Nat.blt 0 k then⟨λT=>match(Q3 x).run T with
   | some (.pointer (some ⟨m,i,none⟩))=>some (.pointer (some ⟨m,Nat.add i off,none⟩))
   | _=>none⟩else⟨λ_=>none⟩
  | none=>⟨λ_=>none⟩
 | none=>⟨λ_=>none⟩
theorem QnH{P:Program}{st f:Nat}{x:Operand}:VOk P (.fieldAddr st x f) (cFA P st x f).run:=by
 intro T v h F H n;unfold cFA at h;unfold QR;split at h
 ·rename_i off ft h1;split at h
  ·rename_i k ag h2;cases hk:Nat.blt 0 k with
   | false=>rw[hk]at h;cases h
   | true=>
    rw[hk]at h
    grind[Qu,Xi,ZF]
  ·cases h
 ·cases h
noncomputable def cIA(P:Program)(t:Nat)(x y:Operand):Clo VF:=match tsl P t with
 | some (_,sz,_)=>⟨λT=>match(Q3 x).run T with
   | some (.slice (some ⟨m,off,_⟩) l _)=>(match(Q3 y).run T with
    | some (.int _ (.ofNat j))=>bif Nat.blt j l then some (.pointer (some ⟨m,Nat.add off (Nat.mul j sz),none⟩))else none
    | _=>none)
   | _=>none⟩
 | none=>match tar P t with
  | some (len,_,sz)=>⟨λT=>match(Q3 x).run T with
   | some (.pointer (some ⟨m,off,none⟩))=>(match(Q3 y).run T with
    | some (.int _ (.ofNat j))=>bif Nat.blt j len then some (.pointer (some ⟨m,Nat.add off (Nat.mul j sz),none⟩))else none
    | _=>none)
   | _=>none⟩
  | none=>⟨λ_=>none⟩
theorem QnK{P:Program}{t:Nat}{x y:Operand}:VOk P (.indexAddr t x y) (cIA P t x y).run:=by
 intro T v h F H n;unfold cIA at h;unfold QR;split at h
 ·rename_i e sz by' h1;simp only[Qu]at h;split at h
  ·rename_i m off q l c h2;split at h
   ·simp_all[bif_some,Xi,YV,vN]
   ·cases h
  ·cases h
 ·split at h
  ·rename_i len e sz h1;simp only[Qu]at h;split at h
   ·rename_i m off h2;split at h
    ·simp_all[bif_some,Xi,YV,vN]
    ·cases h
   ·cases h
  ·cases h
noncomputable def Qmm(l:List UInt8):Nat->Option Nat:=List.rec (λ_=>none) (λa _ ih i=>Nat.rec (some a.toNat) (λj _=>ih j) i) l
theorem QeZ:∀(l:List UInt8)(i:Nat){b:Nat},Qmm l i=some b->i<l.length/\b=(l.getD i 0).toNat
 | [],i,b,h=>by cases i<;>cases h
 | a::l,0,b,h=>by cases h;exact⟨Nat.succ_pos _,rfl⟩
 | a::l,i+1,b,h=>by
  obtain⟨h1,h2⟩:=QeZ l i h
  grind
noncomputable def QmI(P:Program)(t:Nat)(x y:Operand):Clo VF:=bif QJ P t then⟨λT=>match(Q3 x).run T with
   | some (.string ⟨⟨l⟩⟩)=>(match(Q3 y).run T with
    | some (.int _ (.ofNat j))=>(match Qmm l j with
     | some b=>some (.int .u8 (.ofNat b))
     | none=>none)
    | _=>none)
   | _=>none⟩else⟨λT=>Qcu P t ((Q3 x).run T) (vN ((Q3 y).run T))⟩
theorem QlV{P:Program}{t:Nat}{x y:Operand}:VOk P (.index t x y) (QmI P t x y).run:=by
 intro T v h F H n;unfold QmI at h;unfold QR;cases ht:QJ P t with
 | false=>simp_all[Qu,Xi]
 | true=>
  rw[ht]at h;simp only[cond_true,Qu]at h;split at h
  ·rename_i l h1;split at h
   ·rename_i k j h2;split at h
    ·rename_i b h3;injection h with h
     subst h;obtain⟨h4,rfl⟩:=QeZ l j h3;refine Xi ?_;simp only[Qcu,h1,h2,vN,ht,Bool.true_and];rw[show Nat.blt j l.length=true by simpa[Nat.blt_eq]using h4];rfl
    ·cases h
   ·cases h
  ·cases h
noncomputable def QmY(P:Program)(t:Nat)(x:Operand):Clo VF:=bif QJ P t then⟨λT=>match(Q3 x).run T with
   | some (.string ⟨⟨l⟩⟩)=>some (.int .i64 (.ofNat l.length))
   | _=>none⟩else bif QM P t then⟨λT=>match(Q3 x).run T with
   | some (.slice _ k _)=>some (.int .i64 (.ofNat k))
   | some (.pointer (some ⟨_,_,some _⟩))=>some (.int .i64 0)
   | _=>none⟩else⟨λ_=>none⟩
theorem Qk5{P:Program}{t:Nat}{x:Operand}:VOk P (.call ⟨.builtin .len,#[x],#[t]⟩) (QmY P t x).run:=by
 intro T v h F H n;unfold QmY at h;unfold QR Qbo;cases ht:QJ P t with
 | true=>
  rw[ht]at h
  grind[Qu]
 | false=>
  rw[ht]at h;simp only[cond_false]at h;cases hs:QM P t with
  | false=>rw[hs]at h;cases h
  | true=>
   rw[hs]at h
   grind[Qu]
end Ev
namespace Ev
open Go Go.RowKit
noncomputable def QkS(l:List UInt8):List UInt8->Bool:=
 List.rec (λm=>List.rec true (λ_ _ _=>false) m) (λa _ ih m=>List.rec false (λb m' _=>Bool.rec false (ih m') (Nat.beq a.toNat b.toNat)) m) l
theorem Qcj:∀(l m:List UInt8),QkS l m=decide (l=m)
 | [],[]=>rfl
 | [],b::m=>rfl
 | a::l,[]=>rfl
 | a::l,b::m=>by
  show(Bool.rec false (QkS l m) (Nat.beq a.toNat b.toNat):Bool)=_;rw[Qcj l m];cases hb:Nat.beq a.toNat b.toNat with
  | true=>
   have:a=b:=UInt8.toNat_inj.1 (Nat.eq_of_beq_eq_true hb);subst this;simp
  | false=>
   have:a≠b:=λe=>by subst e;rw[Nat.beq_refl]at hb;cases hb
   simp[this]
noncomputable def Qi2(P:Program)(op:BinOp)(t:TypeId)(x y:Operand):Clo VF:=match op with
 | .eql=>⟨λT=>match(Q3 x).run T with
  | some (.string ⟨⟨l⟩⟩)=>(match(Q3 y).run T with
   | some (.string ⟨⟨m⟩⟩)=>some (.bool (QkS l m))
   | _=>none)
  | _=>(QiW P .eql t x y).run T⟩
 | .neq=>⟨λT=>match(Q3 x).run T with
  | some (.string ⟨⟨l⟩⟩)=>(match(Q3 y).run T with
   | some (.string ⟨⟨m⟩⟩)=>some (.bool (Bool.not (QkS l m)))
   | _=>none)
  | _=>(QiW P .neq t x y).run T⟩
 | op=>QiW P op t x y
theorem Qjp{P:Program}{op:BinOp}{t t':TypeId}{x y:Operand}:VOk P (.binOp op t x y t') (Qi2 P op t x y).run:=by
 intro T v h F H n;unfold Qi2 at h;split at h
 ·simp only[Qu]at h;split at h
  ·grind[QR,Xi,Yv,QL,Qbk,Qcj]
  ·exact QeE T v h F H n
 ·simp only[Qu]at h;split at h
  ·grind[QR,Xi,Yv,QL,Qbk,Qcj]
  ·exact QeE T v h F H n
 ·exact QeE T v h F H n
noncomputable def Qmx(l:List UInt8):List Value:=List.rec [] (λb _ ih=>.int .u8 (.ofNat b.toNat)::ih) l
theorem Qe5:∀l:List UInt8,Qmx l=l.map λb=>.int .u8 (b.toNat:Int)
 | []=>rfl
 | b::l=>congrArg _ (Qe5 l)
noncomputable def byS(v:Value)(ih:Option (List UInt8)):Option (List UInt8):=match v with
 | .int .u8 (.ofNat z)=>(match ih with
  | some r=>some (UInt8.ofNat z::r)
  | none=>none)
 | _=>none
noncomputable def byO(l:List Value):Option (List UInt8):=List.rec (some []) (λv _ ih=>byS v ih) l
theorem QkP:∀(l:List Value){r:List UInt8},byO l=some r->l.all Qev=true/\QI l=true/\l.map ZY=r
 | [],r,h=>by cases h;exact⟨rfl,rfl,rfl⟩
 | v::l,r,h=>by
  have h':byS v (byO l)=some r:=h;unfold byS at h';split at h'
  ·rename_i z;split at h'
   ·rename_i r' hr;injection h' with h'
    subst h';obtain⟨h1,h2,h3⟩:=QkP l hr;refine⟨?_,?_,?_⟩
    ·simpa[Qev]using h1
    ·grind[QI,Yt]
    ·simp only[List.map_cons,h3];rfl
   ·cases h'
  ·cases h'
noncomputable def Qkd(P:Program)(src dst:TypeId)(x:Operand):Clo OpF:=match tki P src,tki P dst with
 | some k1,some k2=>⟨λ_ T _ _=>match(Q3 x).run T with
  | some (.int k0 (.ofNat z))=>bif kEq k0 k1 then .p (.int k2 (fw k2 z))else .no
  | some v=>anP (ZZ P src dst v)
  | none=>.no⟩
 | _,_=>match QJ P src,P.underlying dst,P.underlying src with
  | true,some (.slice e),_=>bif ZS P e&&Nat.beq e u8T then⟨λ_ T H n=>match(Q3 x).run T with
   | some (.string ⟨⟨l⟩⟩)=>bif Nat.ble l.length maxLen then .new (.slice (some ⟨n,0,none⟩) l.length l.length) (.row ⟨e,1,Qmx l⟩)else .no
   | _=>.no⟩else⟨λ_ _ _ _=>.no⟩
  | false,_,some (.slice e)=>bif QJ P dst&&ZS P e then⟨λ_ T H n=>match(Q3 x).run T with
   | some (.slice (some ⟨p,i,_⟩) k c)=>(match Xq H p with
    | some r=>(match QlS r.cs i k with
     | some cs=>(match byO cs with
      | some l=>.q (some p) (.string (bs l))
      | none=>.no)
     | none=>.no)
    | none=>.no)
   | some (.slice none k c)=>bif Nat.beq k 0 then .q none (.string (bs []))else .no
   | some (.pointer (some ⟨_,_,some _⟩))=>.q none (.string (bs []))
   | _=>.no⟩else(bif Nat.beq src dst then⟨fbF P (.convert src dst x)⟩else⟨λ_ _ _ _=>.no⟩)
  | _,_,_=>⟨λ_ T _ _=>match(Q3 x).run T with
   | some v=>anP (ZZ P src dst v)
   | none=>.no⟩
theorem Qcv{P:Program}{src dst:TypeId}{x:Operand}{F:CallF}{T:Tr Value}{H:Hp}{n:Nat}{a v:Value}(h1:opd (en T) x=some a)(h:ZZ P src dst a=some v):QR P (en T) H n F (.convert src dst x)=some (.p v):=by
 simp only[QR,h1,h]
theorem QjX{P:Program}{src dst:TypeId}{x:Operand}:YO P (.convert src dst x) (Qkd P src dst x).run:=by
 intro F hF T H n;unfold Qkd;split
 ·rename_i k1 k2 h1 h2;simp only[Qu];split
  ·rename_i k0 z h3;cases hk:kEq k0 k1 with
   | false=>exact trivial
   | true=>
    refine Qcv h3 ?_
    grind[ZZ,QdL]
  ·grind[QgB,Qcv]
  ·exact trivial
 ·rename_i hno;split
  ·rename_i e hs hd;cases hc:ZS P e&&Nat.beq e u8T with
   | false=>exact trivial
   | true=>
    simp only[cond_true,Qu];split
    ·rename_i l h3;cases hl:Nat.ble l.length maxLen with
     | false=>exact trivial
     | true=>
      simp only[cond_true];show QR _ _ _ _ _ _=_;have hns:QJ P dst=false:=by simp[QJ,hd]
      have hcv:ZZ P src dst (.string ⟨⟨l⟩⟩)=none:=by simp[ZZ,hns]
      simp only[Bool.and_eq_true]at hc;simp only[QR,h3,hcv,QcX,hd,hs,hc.1,hc.2,hl,Bool.and_self,cond_true,Qe5];rfl
    ·exact trivial
  ·rename_i e hs hu;cases hc:QJ P dst&&ZS P e with
   | false=>
    cases hd:Nat.beq src dst with
    | false=>exact trivial
    | true=>exact Qi1 P _ F hF T H n
   | true=>
    simp only[Bool.and_eq_true]at hc;simp only[cond_true,Qu];split
    ·rename_i p i q k c h3;split
     ·rename_i r hr;split
      ·rename_i cs h4;split
       ·rename_i l h5;obtain⟨g1,rfl⟩:=Qco _ _ _ h4;obtain⟨g2,g3,g4⟩:=QkP _ h5;refine⟨λH2 h6=>?_,λk9 h9=>by injection h9 with h9;subst h9;exact⟨_,Qa2 hr⟩⟩;have hr2:Xq H2 p=some r:=by unfold Xq;rw[h6 p rfl,Qa2 hr]
        have hble:Nat.ble (i+k) r.cs.length=true:=Nat.ble_eq_true_of_le g1
        grind[QR,ZZ,QcX]
       ·exact trivial
      ·exact trivial
     ·exact trivial
    ·rename_i k c h3;cases hk:Nat.beq k 0 with
     | false=>exact trivial
     | true=>
      refine⟨λH2 _=>?_,λk9 h9=>by cases h9⟩
      grind[QR,ZZ,QcX]
    ·rename_i p i q h3;refine⟨λH2 _=>?_,λk9 h9=>by cases h9⟩
     grind[QR,ZZ,QcX]
    ·exact trivial
  ·simp only[Qu];split
   ·grind[QgB,Qcv]
   ·exact trivial
noncomputable def QjV(P:Program)(t x:Nat):Clo OpF:=match tsz P t with
 | some (sz,true)=>⟨λ_ T H _=>match XO (pth x) x T with
  | some (.pointer (some ⟨m,i,none⟩))=>(match Xq H m with
   | some r=>(match QlS r.cs i sz with
    | some c=>.q (some m) (.agg ⟨c⟩)
    | none=>.no)
   | none=>.no)
  | _=>.no⟩
 | some (sz,false)=>bif Nat.beq sz 1 then⟨λ_ T H _=>match XO (pth x) x T with
  | some (.pointer (some ⟨m,i,none⟩))=>(match Xq H m with
   | some r=>(match Qlz r.cs i with
    | some c=>.q (some m) c
    | none=>.no)
   | none=>.no)
  | _=>.no⟩else⟨λ_ _ _ _=>.no⟩
 | none=>⟨λ_ _ _ _=>.no⟩
theorem Qkw{P:Program}{t x:Nat}:YO P (.load t (.tmp x)) (QjV P t x).run:=by
 intro F hF T H n;unfold QjV;split
 ·rename_i sz h1;simp only[];split
  ·rename_i m i h2;split
   ·rename_i r hr;split
    ·rename_i c h3;obtain⟨g1,rfl⟩:=Qco _ _ _ h3;refine⟨λH2 h6=>?_,λk9 h9=>by injection h9 with h9;subst h9;exact⟨_,Qa2 hr⟩⟩;have hr2:Xq H2 m=some r:=by unfold Xq;rw[h6 m rfl,Qa2 hr]
     have hble:Nat.ble (i+sz) r.cs.length=true:=Nat.ble_eq_true_of_le g1
     grind[QR,Qds,en]
    ·exact trivial
   ·exact trivial
  ·exact trivial
 ·rename_i sz h1;cases hs:Nat.beq sz 1 with
  | false=>exact trivial
  | true=>
   simp only[cond_true];split
   ·rename_i m i h2;split
    ·rename_i r hr;split
     ·rename_i c h3;rw[Qci]at h3;refine⟨λH2 h6=>?_,λk9 h9=>by injection h9 with h9;subst h9;exact⟨_,Qa2 hr⟩⟩
      grind[Xq,Qa2,QR,Qds,en]
     ·exact trivial
    ·exact trivial
   ·exact trivial
 ·exact trivial
noncomputable def QgL(P:Program)(t x:Nat)(y:Operand):Clo OpF:=match tsz P t with
 | some (sz,_)=>⟨λ_ T H n=>match XO (pth x) x T with
  | some (.pointer (some ⟨m,i,none⟩))=>(match(Q3 y).run T with
   | some v=>(match Xq H m with
    | some ⟨ty,s,cs⟩=>bif Yz v&&Nat.beq v.cells.toList.length sz then(match setO cs i v.cells.toList with
     | some c=>.h undef (Xs H m ⟨ty,s,c⟩) n
     | none=>.no)else .no
    | none=>.no)
   | none=>.no)
  | _=>.no⟩
 | none=>⟨λ_ _ _ _=>.no⟩
theorem Qif{P:Program}{t x:Nat}{y:Operand}:YO P (.store t (.tmp x) y) (QgL P t x y).run:=by
 intro F hF T H n;unfold QgL;split
 ·rename_i sz ag h1;simp only[Qu];split
  ·rename_i m i h2;split
   ·rename_i v h3;split
    ·rename_i ty s cs hr;cases hc:Yz v&&Nat.beq v.cells.toList.length sz with
     | false=>exact trivial
     | true=>
      simp only[cond_true];split
      ·rename_i c h4;obtain⟨g1,rfl⟩:=Qhq _ _ _ h4;simp only[Bool.and_eq_true]at hc;have hl:=Nat.eq_of_beq_eq_true hc.2;have hble:Nat.ble (i+sz) cs.length=true:=Nat.ble_eq_true_of_le (by rw[<-hl];exact g1);show QR _ _ _ _ _ _=_
       grind[QR,QeQ,en]
      ·exact trivial
    ·exact trivial
   ·exact trivial
  ·exact trivial
 ·exact trivial
noncomputable def Qgw(P:Program)(t:Nat):Clo OpF:=match Qs P t with
 | some z=>bif QI z then⟨λ_ _ _ n=>.new (.pointer (some ⟨n,0,none⟩)) (.row ⟨t,0,z⟩)⟩else⟨λ_ _ _ _=>.no⟩
 | none=>⟨λ_ _ _ _=>.no⟩
theorem Qio{P:Program}{t:Nat}:YO P (.alloc t) (Qgw P t).run:=by
 intro F hF T H n;unfold Qgw;split
 ·rename_i z h1;cases hf:QI z with
  | false=>exact trivial
  | true=>
   show QR _ _ _ _ _ _=_;simp only[QR,QnT,h1,hf,cond_true];rfl
 ·exact trivial
noncomputable def QmT(t:Nat)(x:Operand):Clo OpF:=⟨λ_ T _ n=>match(Q3 x).run T with
 | some v=>bif Yz v then .new (.pointer (some ⟨n,0,none⟩)) (.row ⟨t,0,v.cells.toList⟩)else .no
 | none=>.no⟩
theorem Qma{P:Program}{t:Nat}{x:Operand}:YO P (.box t x) (QmT t x).run:=by
 intro F hF T H n;unfold QmT;simp only[Qu];split
 ·rename_i v h1;cases hf:Yz v with
  | false=>exact trivial
  | true=>
   show QR _ _ _ _ _ _=_;simp only[QR,QmC,h1,hf,cond_true];rfl
 ·exact trivial
noncomputable def cBS(P:Program)(t len:Nat)(parts:List (Nat×Operand)):Clo OpF:=match tsl P t with
 | some (e,sz,_)=>match Qs P e with
  | some z=>bif QI z&&(Nat.ble (len*sz) 16777216&&(Nat.blt 0 (len*sz)&&QI (QiT z (len*sz))))then⟨λ_ T _ n=>match Qbj (en T) parts with
   | some vs=>(match Yp (λi=>some (i*sz,sz)) (QiT z (len*sz)) vs with
    | some cs=>.new (.slice (some ⟨n,0,none⟩) len len) (.row ⟨e,sz,cs⟩)
    | none=>.no)
   | none=>.no⟩else⟨λ_ _ _ _=>.no⟩
  | none=>⟨λ_ _ _ _=>.no⟩
 | none=>⟨λ_ _ _ _=>.no⟩
theorem Qnm{P:Program}{t len:Nat}{parts:List (Nat×Operand)}(hne:¬(len=0/\parts=[])):YO P (.buildSlice t len ⟨parts⟩) (cBS P t len parts).run:=by
 intro F hF T H n;unfold cBS;split
 ·rename_i e sz by' h1;split
  ·rename_i z h2;cases hc:QI z&&(Nat.ble (len*sz) 16777216&&(Nat.blt 0 (len*sz)&&QI (QiT z (len*sz))))with
   | false=>exact trivial
   | true=>
    simp only[cond_true];split
    ·rename_i vs h3;split
     ·rename_i cs h4;show QR _ _ _ _ _ _=_
      have hb:Yo P (en T) H n t len parts=some (.h (.slice (some ⟨n,0,none⟩) len len) (XP H n (.row ⟨e,sz,cs⟩)) (n+1)):=by
       simp only[Yo,h3,h1,h2,h4,hc,cond_true];rfl
      grind[QR]
     ·exact trivial
    ·exact trivial
  ·exact trivial
 ·exact trivial
noncomputable def QnC(P:Program)(t:Nat):Clo OpF:=match tsl P t with
 | some (e,sz,_)=>⟨λ_ _ _ n=>.new (.slice (some ⟨n,0,none⟩) 0 0) (.row ⟨e,sz,[]⟩)⟩
 | none=>⟨λ_ _ _ _=>.no⟩
theorem Qlk{P:Program}{t:Nat}:YO P (.buildSlice t 0 ⟨[]⟩) (QnC P t).run:=by
 intro F hF T H n;unfold QnC;split
 ·rename_i e sz by' h1;show QR _ _ _ _ _ _=_;simp only[QR,h1];rfl
 ·exact trivial
noncomputable def cMS(P:Program)(t:Nat)(x y:Operand):Clo OpF:=match tsl P t with
 | some (e,sz,by')=>match Qs P e with
  | some z=>⟨λ_ T _ n=>match(Q3 x).run T with
   | some (.int .i64 (.ofNat k))=>(match(Q3 y).run T with
    | some (.int .i64 (.ofNat k'))=>bif Nat.ble k k'&&(Nat.ble (k'*by') 281474976710656&&(Nat.ble k' 16777216&&QI (QW z (k'*sz))))then .new (.slice (some ⟨n,0,none⟩) k k') (.row ⟨e,sz,QW z (k'*sz)⟩)else .no
    | _=>.no)
   | _=>.no⟩
  | none=>⟨λ_ _ _ _=>.no⟩
 | none=>⟨λ_ _ _ _=>.no⟩
theorem Qnk{P:Program}{t:Nat}{x y:Operand}:YO P (.makeSlice t x y) (cMS P t x y).run:=by
 intro F hF T H n;unfold cMS;split
 ·rename_i e sz by' h1;split
  ·rename_i z h2;simp only[Qu];split
   ·rename_i k h3;split
    ·rename_i k' h4;cases hc:Nat.ble k k'&&(Nat.ble (k'*by') 281474976710656&&(Nat.ble k' 16777216&&QI (QW z (k'*sz))))with
     | false=>exact trivial
     | true=>
      show QR _ _ _ _ _ _=_;simp only[QR,Zw,h3,h4,h1,h2,hc,cond_true];rfl
    ·exact trivial
   ·exact trivial
  ·exact trivial
 ·exact trivial
noncomputable def Qg0(F:CallF)(g:FuncId)(vs:List Value)(H:Hp)(n:Nat):An:=match F.f F.y g vs H n with
 | some (v,H',n')=>.h v H' n'
 | none=>.no
noncomputable def QgH(P:Program)(g:Nat)(args:List Operand):Clo OpF:=⟨λF T H n=>match(Qd2 args).run T with
 | some vs=>(match F.e g vs with
  | some v=>.q none v
  | none=>bif Q7 P g then Qg0 F g vs H n else .no)
 | none=>.no⟩
theorem QfK{P:Program}{op:Op}{F:CallF}{T:Tr Value}{H:Hp}{n:Nat}{g:FuncId}{vs:List Value}(h:∀v H' n',F.f F.y g vs H n=some (v,H',n')->QR P (en T) H n F op=some (.h v H' n')):QnB P op F T H n (Qg0 F g vs H n):=by
 unfold Qg0;split
 ·rename_i v H' n' hr;exact h _ _ _ hr
 ·exact trivial
theorem Qiq{P:Program}{g:Nat}{args:List Operand}{ts:Array TypeId}:YO P (.call ⟨.value (.func g),⟨args⟩,ts⟩) (QgH P g args).run:=by
 intro F hF T H n;unfold QgH;simp only[Qc7];split
 ·rename_i vs h1;split
  ·rename_i v h2;exact⟨λH2 _=>by simp only[QR,h1,h2],λk h9=>by cases h9⟩
  ·rename_i h2;cases hc:Q7 P g with
   | false=>exact trivial
   | true=>grind[QfK,QR,QbU]
 ·exact trivial
noncomputable def QgK(P:Program)(f:Operand)(args:List Operand):Clo OpF:=⟨λF T H n=>match(Q3 f).run T with
 | some (.func (.func g) ⟨a⟩ ⟨b⟩)=>(match(Qd2 args).run T with
  | some vs=>bif Q7 P g then Qg0 F g (a++vs++b) H n else .no
  | none=>.no)
 | some (.func (.yield k) ⟨[]⟩ ⟨[]⟩)=>(match(Qd2 args).run T with
  | some vs=>(match F.y k vs H n with
   | some (v,H',n')=>.h v H' n'
   | none=>.no)
  | none=>.no)
 | _=>.no⟩
theorem Qim{P:Program}{f:Operand}{args:List Operand}{ts:Array TypeId}(hf:∀g,f≠ .func g):YO P (.call ⟨.value f,⟨args⟩,ts⟩) (QgK P f args).run:=by
 intro F hF T H n;unfold QgK;simp only[Qu,Qc7];split
 ·rename_i g a b h1;split
  ·rename_i vs h2;cases hc:Q7 P g with
   | false=>exact trivial
   | true=>simp_all[QfK,QbU,opd,en,Qa0,QR]
  ·exact trivial
 ·rename_i k h1;split
  ·rename_i vs h2;split
   ·rename_i v H' n' hr;have hb:QbU P H n F (opd (en T) f) (Qa0 (en T) args)=some (.h v H' n'):=by grind[QbU]
    show QR _ _ _ _ _ _=_
    simp_all[QR]
   ·exact trivial
  ·exact trivial
 ·exact trivial
noncomputable def QjQ(P:Program)(t:Nat)(m x:Operand):Clo OpF:=⟨λ_ T H _=>match(Q3 m).run T with
 | some (.map (some r))=>(match Y2 P H t (some (.map (some r))) ((Q3 x).run T)with
  | some (.q v)=>.q (some r) v
  | _=>.no)
 | _=>.no⟩
theorem QjO{P:Program}{t:Nat}{m x:Operand}:YO P (.lookup t m x false) (QjQ P t m x).run:=by
 intro F hF T H n;unfold QjQ;simp only[Qu];split
 ·rename_i r h1;split
  ·rename_i v h2
   have hm:∃ks,Qdt H r=some ks:=by
    unfold Y2 at h2
    grind
   obtain⟨ks,hks⟩:=hm;refine⟨λH2 h6=>?_,λk h9=>by injection h9 with h9;subst h9;exact⟨_,Qj6 hks⟩⟩;have hr2:Qdt H2 r=Qdt H r:=by unfold Qdt;rw[h6 r rfl]
   have:Y2 P H2 t (some (.map (some r))) (opd (en T) x)=Y2 P H t (some (.map (some r))) (opd (en T) x):=by
    unfold Y2
    grind
   grind[QR]
  ·exact trivial
 ·exact trivial
noncomputable def Qmp:Clo OpF:=⟨λ_ _ _ n=>.new (.map (some n)) (.mp [])⟩
theorem Qj4{P:Program}{t:Nat}:YO P (.makeMap t none) Qmp.run:=by
 intro F hF T H n;show QR _ _ _ _ _ _=_;simp only[QR]
noncomputable def YP(P:Program):Op->Clo OpF
 | .move x=>⟨ofV (Q3 x).run⟩
 | .assign x=>⟨ofV (Q3 x).run⟩
 | .pick c a b=>⟨ofV (QiU c a b).run⟩
 | .binOp op t x y _=>⟨ofV (Qi2 P op t x y).run⟩
 | .convert src dst x=>Qkd P src dst x
 | .extract x i=>⟨ofV (Qnz x i).run⟩
 | .field st x f=>⟨ofV (QgC P st x f).run⟩
 | .fieldAddr st x f=>⟨ofV (cFA P st x f).run⟩
 | .index t x y=>⟨ofV (QmI P t x y).run⟩
 | .indexAddr t x y=>⟨ofV (cIA P t x y).run⟩
 | .load t (.tmp x)=>QjV P t x
 | .store t (.tmp x) y=>QgL P t x y
 | .alloc t=>Qgw P t
 | .box t x=>QmT t x
 | .buildSlice t 0 ⟨[]⟩=>QnC P t
 | .buildSlice t len ⟨parts⟩=>cBS P t len parts
 | .makeSlice t x y=>cMS P t x y
 | .call ⟨.builtin .len,⟨[x]⟩,⟨[t]⟩⟩=>⟨ofV (QmY P t x).run⟩
 | .call ⟨.value (.func g),⟨args⟩,_⟩=>QgH P g args
 | .call ⟨.value f,⟨args⟩,_⟩=>QgK P f args
 | .makeMap t none=>Qmp
 | .lookup t m x false=>QjQ P t m x
 | op=>⟨fbF P op⟩
theorem Qfn{P:Program}{x:Operand}:VOk P (.move x) (Q3 x).run/\VOk P (.assign x) (Q3 x).run:=by
 constructor<;>(intro T v h F H n;rw[Qu]at h;simp only[QR,h];rfl)
theorem Qaz(P:Program)(op:Op):YO P op (YP P op).run:=by
 unfold YP;split
 ·exact Zd Qfn.1
 ·exact Zd Qfn.2
 ·exact Zd Qkm
 ·exact Zd Qjp
 ·exact QjX
 ·exact Zd QlG
 ·exact Zd Qh9
 ·exact Zd QnH
 ·exact Zd QlV
 ·exact Zd QnK
 ·exact Qkw
 ·exact Qif
 ·exact Qio
 ·exact Qma
 ·exact Qlk
 ·grind[Qnm]
 ·exact Qnk
 ·exact Zd Qk5
 ·exact Qiq
 ·grind[Qim]
 ·exact Qj4
 ·exact QjO
 ·exact Qi1 P _
end Ev
namespace Ev
open Go Go.RowKit
inductive Rs where
 | bad
 | nm (T:Tr Value) (H:Hp) (n:Nat)
 | ex (i:Nat) (T:Tr Value) (H:Hp) (n:Nat)
 | rt (T:Tr Value) (H:Hp) (n:Nat)
abbrev SF:=CallF->Tr Value->Hp->Nat->Rs
abbrev CS:=Clo SF
noncomputable def noC:CS:=⟨λ_ _ _ _=>.bad⟩
noncomputable def cOn(P:Program)(nt:Nat)(o:Oper)(rest:CS):CS:=match o.dst with
 | some d=>bif Nat.blt d nt then⟨λF T H n=>match(YP P o.op).run F T H n with
  | .no=>.bad
  | .p v=>rest.run F (Xu (pth d) d v T) H n
  | .q _ v=>rest.run F (Xu (pth d) d v T) H n
  | .new v x=>rest.run F (Xu (pth d) d v T) (XP H n x) (Nat.succ n)
  | .h v H' n'=>rest.run F (Xu (pth d) d v T) H' n'⟩else noC
 | none=>⟨λF T H n=>match(YP P o.op).run F T H n with
  | .no=>.bad
  | .p v=>rest.run F T H n
  | .q _ v=>rest.run F T H n
  | .new v x=>rest.run F T (XP H n x) (Nat.succ n)
  | .h v H' n'=>rest.run F T H' n'⟩
noncomputable def Qlr(nt:Nat)(dst:Option Nat)(rest:CS):CS:=match dst with
 | some d=>bif Nat.blt d nt then⟨λF T H n=>rest.run F (Xu (pth d) d undef T) H n⟩else noC
 | none=>rest
noncomputable def ZJ(P:Program)(nt:Nat)(all:Array Oper):List Oper->CS
 | []=>⟨λ_ T H n=>.nm T H n⟩
 | o::l=>match o.guard with
  | none=>cOn P nt o (ZJ P nt all l)
  | some (j,want)=>match(all[j]?).bind (·.dst)with
   | some dj=>⟨λF T H n=>match XO (pth dj) dj T with
    | some (.bool b)=>Bool.rec ((Qlr nt o.dst (ZJ P nt all l)).run F T H n) ((cOn P nt o (ZJ P nt all l)).run F T H n) (b==want)
    | some (.tuple ⟨[]⟩)=>(match o.dst with
     | some _=>(Qlr nt o.dst (ZJ P nt all l)).run F T H n
     | none=>.bad)
    | _=>.bad⟩
   | none=>noC
structure St where
 T:Tr Value
 H:Hp
 n:Nat
structure StOk(r0:Rho)(w0:World)(ρ:Rho)(st:St)(L':Qa)(As:List HA):Prop where
 le:r0.le ρ
 sr:SR ρ (en st.T) L'
 hp:HM ρ st.H As
 fr:Qq ρ st.n
theorem Qgg{T:Tr Value}{d:Nat}{v:Value}:∀t x,en (Xu (pth d) d v T) t=some x->(t=d/\x=v)\/(t≠d/\en T t=some x):=by grind[en,Yh,X5]
theorem SR.set{ρ:Rho}{T:Tr Value}{L':Qa}{d:Nat}{v u:Value}(e:SR ρ (en T) L')(hu:den ρ v=some u):SR ρ (en (Xu (pth d) d v T)) ((d,u)::L'):=e.put hu Qgg
def QeR(r0:Rho)(w0:World)(ρ:Rho)(st:St)(K:Qa->(World->Prop)->Prop):Prop:=
 ∀ρ' L2 As2,ρ.le ρ'->StOk r0 w0 ρ' st L2 As2->K L2 (HS w0 [] As2)
theorem QeR.mono{r0:Rho}{w0:World}{ρ ρ':Rho}{st:St}{K:Qa->(World->Prop)->Prop}(h:ρ.le ρ')(ht:QeR r0 w0 ρ st K):QeR r0 w0 ρ' st K:=λρ2 L2 As2 h2 hs=>ht ρ2 L2 As2 (Rho.le_trans h h2) hs
def QG(r0:Rho)(w0:World)(ρ:Rho)(X:Ctx)(k:List KI):Rs->Prop
 | .bad=>False
 | .nm T H n=>QeR r0 w0 ρ ⟨T,H,n⟩ (S X k)
 | .ex i T H n=>QeR r0 w0 ρ ⟨T,H,n⟩ (SE X (.exit i) k)
 | .rt T H n=>QeR r0 w0 ρ ⟨T,H,n⟩ (SE X .ret k)
theorem QG.mono{r0:Rho}{w0:World}{ρ ρ':Rho}{X:Ctx}{k:List KI}(h:ρ.le ρ'):∀{r:Rs},QG r0 w0 ρ X k r->QG r0 w0 ρ' X k r
 | .bad,ht=>ht.elim
 | .nm _ _ _,ht=>QeR.mono h ht
 | .ex _ _ _ _,ht=>QeR.mono h ht
 | .rt _ _ _,ht=>QeR.mono h ht
theorem CallOk.fok{P:Program}{r0:Rho}{F:CallF}(h:CallOk P r0 F):True:=trivial
section
variable{P:Program}{r0:Rho}{w0:World}{F:CallF}{X:Ctx}{k:List KI}{all:Array Oper}
def Qnu(w0:World)(ρ:Rho)(H:Hp)(n:Nat):Ans->Value->(World->Prop)->Prop
 | .p v=>Out w0 ρ v H n
 | .q v=>Out w0 ρ v H n
 | .h v H n=>Out w0 ρ v H n
theorem Qn7{o:Oper}{L':Qa}{ρ:Rho}{st:St}{As:List HA}{a:Ans}(h:YZ P o L' w0 ρ st.H st.n As a)(hp:HM ρ st.H As)(hf:Qq ρ st.n):OpT P o L' (HS w0 [] As) (Qnu w0 ρ st.H st.n a):=by
 cases a with
 | p v=>obtain⟨u,h1,h2⟩:=h;exact OpT.of_p h1 h2 hp hf
 | q v=>obtain⟨u,h1,h2⟩:=h;exact OpT.of_q h1 h2 hp hf
 | h v H n=>exact h
theorem Qkk(hF:CallOk P r0 F)(hP:X.P=P){dst:Option Nat}{op:Op}{ty:TypeId}{pos:String}{aft:Array Edge}{gd:Option (Nat×Bool)}{rest:CS}{l:List Oper}{T:Tr Value}{H:Hp}{n:Nat}{ρ:Rho}{L':Qa}{As:List HA}
  (ih:∀T H n ρ L' As,QG r0 w0 ρ X k (rest.run F T H n)->StOk r0 w0 ρ ⟨T,H,n⟩ L' As->O X all l k L' (HS w0 [] As))(ht:QG r0 w0 ρ X k ((cOn P X.n ⟨dst,op,ty,pos,aft,gd⟩ rest).run F T H n))(hs:StOk r0 w0 ρ ⟨T,H,n⟩ L' As) :
  O X all (⟨dst,op,ty,pos,aft,none⟩::l) k L' (HS w0 [] As):=by
 have key:∀a v(H':Hp)(n':Nat),QR P (en T) H n F op=some a->Qnu w0 ρ H n a=Out w0 ρ v H' n'->(match dst with
   | some d=>Nat.blt d X.n=true/\QG r0 w0 ρ X k (rest.run F (Xu (pth d) d v T) H' n')
   | none=>QG r0 w0 ρ X k (rest.run F T H' n'))->O X all (⟨dst,op,ty,pos,aft,none⟩::l) k L' (HS w0 [] As):=by
  intro a v H' n' h1 h2 h3;have ha:=YF (w0:=w0) (L':=L') (o:=⟨dst,op,ty,pos,aft,none⟩) hF hs.le rfl hs.sr hs.hp hs.fr h1;have hT:OpT P _ L' _ (Qnu w0 ρ H n a):=Qn7 (st:=⟨T,H,n⟩) ha hs.hp hs.fr;rw[h2]at hT;obtain⟨G,V,Fg,C',hH,hK⟩:=hT;cases dst with
  | some d=>
   obtain⟨hd,h3⟩:=h3;refine o_h (by rw[hP];exact hH) hd λg hg=>?_;obtain⟨ρ',As',g1,g2,g3,g4,g5⟩:=hK g hg;exact Qax g5 (ih _ _ _ ρ' _ As' (h3.mono g1) ⟨Rho.le_trans hs.le g1,(hs.sr.mono g1).set g3,g4,g2⟩)
  | none=>
   refine QgA (by rw[hP];exact hH) λg hg=>?_;obtain⟨ρ',As',g1,g2,g3,g4,g5⟩:=hK g hg;exact Qax g5 (ih _ _ _ ρ' _ As' (h3.mono g1) ⟨Rho.le_trans hs.le g1,hs.sr.mono g1,g4,g2⟩)
 have hc:=Qaz P op F hF.fok T H n;cases dst with
 | some d=>
  simp only[cOn]at ht;cases hb:Nat.blt d X.n with
  | false=>rw[hb]at ht;exact ht.elim
  | true=>
   rw[hb]at ht;simp only[cond_true]at ht;cases hr:(YP P op).run F T H n with
   | no=>rw[hr]at ht;exact ht.elim
   | p v=>rw[hr]at hc ht;exact key _ v H n hc rfl ⟨hb,ht⟩
   | q m v=>rw[hr]at hc ht;exact key _ v H n (hc.1 H λ_ _=>rfl) rfl ⟨hb,ht⟩
   | new v x=>rw[hr]at hc ht;exact key _ v (XP H n x) (n+1) hc rfl ⟨hb,ht⟩
   | h v H' n'=>rw[hr]at hc ht;exact key _ v H' n' hc rfl ⟨hb,ht⟩
 | none=>
  simp only[cOn]at ht;cases hr:(YP P op).run F T H n with
  | no=>rw[hr]at ht;exact ht.elim
  | p v=>rw[hr]at hc ht;exact key _ v H n hc rfl ht
  | q m v=>rw[hr]at hc ht;exact key _ v H n (hc.1 H λ_ _=>rfl) rfl ht
  | new v x=>rw[hr]at hc ht;exact key _ v (XP H n x) (n+1) hc rfl ht
  | h v H' n'=>rw[hr]at hc ht;exact key _ v H' n' hc rfl ht
theorem QaC{ρ:Rho}:den ρ undef=some undef:=rfl
theorem Qdm(hF:CallOk P r0 F)(hP:X.P=P):∀(l:List Oper)(T:Tr Value)(H:Hp)(n:Nat)(ρ:Rho)(L':Qa)(As:List HA),QG r0 w0 ρ X k ((ZJ P X.n all l).run F T H n)->StOk r0 w0 ρ ⟨T,H,n⟩ L' As->O X all l k L' (HS w0 [] As)
 | [],T,H,n,ρ,L',As,ht,hs=>Qhd (ht ρ L' As ρ.le_refl hs)
 | ⟨dst,op,ty,pos,aft,guard⟩::l,T,H,n,ρ,L',As,ht,hs=>by
  have ih:=Qdm hF hP l;cases guard with
  | none=>exact Qkk hF hP ih ht hs
  | some jw=>
   obtain⟨j,want⟩:=jw;simp only[ZJ]at ht;split at ht
   ·rename_i dj hj;simp only[]at ht;split at ht
    ·rename_i b hb;obtain⟨u,e1,e2⟩:=hs.sr.get (show en T dj=_ from hb);injection e2 with e2
     subst e2;cases hw:b==want with
     | true=>
      rw[hw]at ht
      grind[o_on,Qkk]
     | false=>
      rw[hw]at ht;have hw':b= !want:=by cases b<;>cases want<;>simp_all
      simp only[Qlr]at ht;split at ht
      ·rename_i d;cases hd:Nat.blt d X.n with
       | false=>rw[hd]at ht;exact ht.elim
       | true=>
        rw[hd]at ht;exact QjT dj b hj e1 hw' hd (ih _ _ _ ρ _ As ht ⟨hs.le,hs.sr.set QaC,hs.hp,hs.fr⟩)
      grind[Qgj]
    ·rename_i hb;obtain⟨u,e1,e2⟩:=hs.sr.get (show en T dj=_ from hb);injection e2 with e2
     subst e2;split at ht
     ·rename_i d;simp only[Qlr]at ht;cases hd:Nat.blt d X.n with
      | false=>rw[hd]at ht;exact ht.elim
      | true=>
       rw[hd]at ht;exact Qju dj hj e1 hd (ih _ _ _ ρ _ As ht ⟨hs.le,hs.sr.set QaC,hs.hp,hs.fr⟩)
     ·exact ht.elim
    ·exact ht.elim
   ·exact ht.elim
end
end Ev
end Gx
namespace Gx
open Go Go.RowKit
def Qoc(fid:FuncId)(tmps:Array Value)(ps:Array Tmp)(assign body:Code)(D:Nat):Option Nat->Obj
 | none=>.loop (rdy fid tmps ps assign body D)
 | some id=>.loop {rdy fid tmps ps assign body D with state:=.done,pending:=some (.exit id)}
section
variable{X:Ctx}{k:List KI}{L:Qa}{w0:World}{M:List Nat}{As As':List HA}
def rngK(k:List KI):Option Nat->List KI
 | none=>k
 | some id=>.c (.exit id)::k
theorem QiE{g:Operand}{ps:Array Tmp}{assign body:Code}{gf:FuncId}{fa lb:Array Value}{G:Type}{Bs:G->List HA}{jmp:G->Option Nat}(hrd:X.rd=none)(hdf:X.df=[])(hg:ev L g=some (.func (.func gf) fa lb))(hfn:Q7 X.P gf=true)
  (hit:∀(fid:FuncId)(D l:Nat)(a:Act)(w1:World)(ob:Obj),ob=.loop (rdy fid a.tmps ps assign body D)->FR X.n [] L a->HS w0 M (.obj l ob::.obj D (.deferred (some []))::As) w1 ->
   Calls X.P gf (fa++ #[.func (.yield l) #[] #[]]++lb) w1 λe w2=>(∃v,e=.returned v)/\∃x,HS w0 M (.obj l (Qoc fid a.tmps ps assign body D (jmp x))::.obj D (.deferred (some []))::Bs x) w2)
  (next:∀D x,S {X with df:=[D]} (rngK k (jmp x)) L (HS w0 M (.obj D (.deferred (some []))::Bs x))):S X (.c (.rangeFunc g ps assign body)::k) L (HS w0 M As):=by
 intro a w ha hw;have ha0:FR X.n [] L a:=by rw[<-hdf];exact ha
 refine wpIn_rangeFunc (F:=X.F) (n:=0) λfid _=>?_;have hro:X.F.round=none:=hrd;rw[hro];have hw1:=(hw.allocObj (.deferred (some []))).allocObj (.loop (rdy fid a.tmps ps assign body w.heap.size));rw[World.size_alloc]at hw1;have hen:=run_enterLoop_outer (P:=X.P) (w:=w) fid a.tmps ps assign body;obtain⟨W1,hW1⟩:∃W1,(w.alloc (.deferred (some []))).alloc (.loop (rdy fid a.tmps ps assign body w.heap.size))=W1:=⟨_,rfl⟩;rw[hW1]at hw1;rw[show(Loop.mk .ready none fid a.tmps ps assign body w.heap.size)=rdy fid a.tmps ps assign body w.heap.size from rfl,hW1]at hen
 refine⟨w.heap.size+1,[{target:=.collected w.heap.size,args:=#[]}],W1,{target:=.fn (.func gf) lb,args:=fa++ #[.func (.yield (w.heap.size+1)) #[] #[]]},W1,gf,
  fa++ #[.func (.yield (w.heap.size+1)) #[] #[]]++lb,W1,hen,?_,λ_ _=>trivial,?_,λh=>(by cases h),?_⟩
 ·simp only[resolve,ha.evl hg];simp[go_sem]
 ·simp[invoke,go_sem,Qbf hfn]
 ·refine CallsIn.mono (X.callsIn (hit fid _ _ a _ _ rfl ha0 hw1)) λe w2 he=>?_;obtain⟨⟨v,rfl⟩,x,hx⟩:=he;have h3:=next w.heap.size x {a with defers:=[{target:=.collected w.heap.size,args:=#[]}]++a.defers}
  have hfr:FR X.n [w.heap.size] L {a with defers:=[{target:=.collected w.heap.size,args:=#[]}]++a.defers}:=⟨by show _++a.defers=_;rw[ha0.defers];rfl,ha0.size,ha0.slot⟩;cases hj:jmp x with
  | none=>
   rw[hj]at hx h3;refine⟨none,_,run_endLoop (hx.obj_get .here) (by simp[rdy]),?_⟩;have h4:=h3 _ hfr (hx.putObj .here (.loop {rdy fid a.tmps ps assign body w.heap.size with state:=.exhausted})).tail;rw[Qbq]at h4;exact h4
  | some id=>
   rw[hj]at hx h3;refine⟨some (.exit id),_,run_endLoop (hx.obj_get .here) (by simp),?_⟩;have h4:=h3 _ hfr (hx.putObj .here (.loop {rdy fid a.tmps ps assign body w.heap.size with state:=.exhausted,pending:=some (.exit id)})).tail;rw[Qbq]at h4;exact h4
end
end Gx
namespace Gx
namespace Ev
open Go Go.RowKit
noncomputable def QgW(b:SF)(m:Nat):SF:=Nat.rec (λ_ _ _ _=>.bad) (λ_ ih F T H n=>match b F T H n with
 | .nm T H n=>ih F T H n
 | r=>r) m
noncomputable def Xo(P:Program)(nt m:Nat)(Dr:Nat->Array Oper->CS):Code->CS
 | .skip=>⟨λ_ T H n=>.nm T H n⟩
 | .label _=>⟨λ_ T H n=>.nm T H n⟩
 | .region _ ⟨ops⟩ false=>ZJ P nt ⟨ops⟩ ops
 | .region _ ⟨ops⟩ true=>Dr nt ⟨ops⟩
 | .seq a b=>⟨λF T H n=>match(Xo P nt m Dr a).run F T H n with
  | .nm T H n=>(Xo P nt m Dr b).run F T H n
  | r=>r⟩
 | .cond x a b=>⟨λF T H n=>match(Q3 x).run T with
  | some (.bool t)=>Bool.rec ((Xo P nt m Dr b).run F T H n) ((Xo P nt m Dr a).run F T H n) t
  | _=>.bad⟩
 | .block id b=>⟨λF T H n=>match(Xo P nt m Dr b).run F T H n with
  | .ex i T H n=>bif Nat.beq i id then .nm T H n else .ex i T H n
  | r=>r⟩
 | .loop b=>⟨QgW (Xo P nt m Dr b).run m⟩
 | .exit i=>⟨λ_ T H n=>.ex i T H n⟩
 | .ret=>⟨λ_ T H n=>.rt T H n⟩
 | _=>noC
def Qgu(P:Program)(Dr:Nat->Array Oper->CS):Prop:=∀(l:List Oper)(id:Nat)(r0:Rho)(w0:World)(X:Ctx)(k:List KI)(F:CallF)(T:Tr Value)(H:Hp)(n:Nat)(ρ:Rho)(L':Qa)(As:List HA),X.P=P->CallOk P r0 F->QG r0 w0 ρ X k ((Dr X.n ⟨l⟩).run F T H n)->StOk r0 w0 ρ ⟨T,H,n⟩ L' As->S X (.c (.region id ⟨l⟩ true)::k) L' (HS w0 [] As)
section
variable{P:Program}{r0:Rho}{w0:World}{X:Ctx}{m:Nat}{Dr:Nat->Array Oper->CS}
theorem ZH{x:KI}{k:List KI}{L:Qa}{C:World->Prop}(h:SE X .ret k L C):SE X .ret (x::k) L C:=by
 rcases x with c|id|J
 ·exactλa w ha hw=>h a w ha hw
 ·exactλa w ha hw=>h a w ha hw
 ·exactλa w ha hw=>h a w ha hw
def reS(L:Qa):Qa->Qa
 | []=>[]
 | (t,_)::h=>match Qa.get L t with
  | some v=>(t,v)::reS L h
  | none=>reS L h
theorem Qet(L:Qa):∀h,Z1 L (reS L h)
 | []=>trivial
 | (t,x)::h=>by
  simp only[reS];split
  ·rename_i v hv;exact⟨hv,Qet L h⟩
  ·exact Qet L h
theorem Qhl{L:Qa}{t:Nat}{v:Value}(hv:Qa.get L t=some v):∀h x,Qa.get h t=some x->Qa.get (reS L h) t=some v
 | [],x,hx=>by cases hx
 | (k,y)::h,x,hx=>by
  simp only[Qa.get]at hx;simp only[reS];cases hb:Nat.beq k t with
  | true=>simp_all[Qa.get]
  | false=>
   rw[hb]at hx;have ih:=Qhl hv h x hx
   grind[Qa.get]
theorem SR.clean{ρ:Rho}{L:Env}{L':Qa}(h:SR ρ L L'):SR ρ L (reS L' L')/\Z1 L' (reS L' L'):=
 ⟨λt v hv=>by
  obtain⟨u,h1,h2⟩:=h t v hv;exact⟨u,Qhl h1 _ _ h1,h2⟩,Qet _ _⟩
theorem QG.seq{c:Code}{k:List KI}{ρ:Rho}(b:CS){F:CallF}(ih:∀T H n ρ L' As,QG r0 w0 ρ X k (b.run F T H n)->StOk r0 w0 ρ ⟨T,H,n⟩ L' As->S X (.c c::k) L' (HS w0 [] As)):∀{r:Rs},QG r0 w0 ρ X k (match r with
  | .nm T H n=>b.run F T H n
  | r=>r)->QG r0 w0 ρ X (.c c::k) r
 | .bad,h=>h.elim
 | .nm T H n,h=>λρ2 L2 As2 hle hs2=>ih _ _ _ _ _ _ (QG.mono hle h) hs2
 | .ex i T H n,h=>λρ2 L2 As2 hle hs2=>QbE (h ρ2 L2 As2 hle hs2)
 | .rt T H n,h=>λρ2 L2 As2 hle hs2=>ZH (h ρ2 L2 As2 hle hs2)
theorem QG.blk{id:Nat}{k:List KI}{ρ:Rho}:∀{r:Rs},QG r0 w0 ρ X k (match r with
  | .ex i T H n=>bif Nat.beq i id then .nm T H n else .ex i T H n
  | r=>r)->QG r0 w0 ρ X (.blk id::k) r
 | .bad,h=>h.elim
 | .nm T H n,h=>λρ2 L2 As2 hle hs2=>Qmo (h ρ2 L2 As2 hle hs2)
 | .ex i T H n,h=>λρ2 L2 As2 hle hs2=>by
  simp only[]at h;cases hb:Nat.beq i id with
  | true=>
   rw[hb]at h;have hi:=Nat.eq_of_beq_eq_true hb;subst hi;exact Qbg (h ρ2 L2 As2 hle hs2)
  | false=>
   rw[hb]at h;exact Qbx hb (h ρ2 L2 As2 hle hs2)
 | .rt T H n,h=>λρ2 L2 As2 hle hs2=>ZH (h ρ2 L2 As2 hle hs2)
theorem QkX{c:Code}{b:SF}{F:CallF}{k:List KI}(ih:∀(k:List KI)T H n ρ L' As,QG r0 w0 ρ X k (b F T H n)->StOk r0 w0 ρ ⟨T,H,n⟩ L' As->S X (.c c::k) L' (HS w0 [] As)){m:Nat}{T:Tr Value}{H:Hp}{n:Nat}{ρ:Rho}{L':Qa}{As:List HA}
  (ht:QG r0 w0 ρ X k (QgW b m F T H n))(hs:StOk r0 w0 ρ ⟨T,H,n⟩ L' As):S X (.c (.loop c)::k) L' (HS w0 [] As):=by
 let α:={x:Nat×St×Rho×Qa×List HA // QG r0 w0 x.2.2.1 X k (QgW b x.1 F x.2.1.T x.2.1.H x.2.1.n)/\StOk r0 w0 x.2.2.1 x.2.1 x.2.2.2.1 x.2.2.2.2}
 obtain⟨f1,f2⟩:=hs.sr.clean;refine QiF (α:=α) (λx=>x.1.2.2.2.1) (λx=>HS w0 [] x.1.2.2.2.2) (λx=>x.1.1) ⟨(m,⟨T,H,n⟩,ρ,_,As),ht,⟨hs.le,f1,hs.hp,hs.fr⟩⟩ f2 (λ_ h=>h) ?_;rintro⟨⟨m1,⟨T1,H1,n1⟩,ρ1,L1,As1⟩,h1,h2⟩;cases m1 with
 | zero=>exact h1.elim
 | succ m1=>
  refine ih _ T1 H1 n1 ρ1 L1 As1 ?_ h2
  have h3:QG r0 w0 ρ1 X k (match b F T1 H1 n1 with
   | .nm T H n=>QgW b m1 F T H n
   | r=>r):=h1
  cases hr:b F T1 H1 n1 with
  | bad=>rw[hr]at h3;exact h3.elim
  | nm T2 H2 n2=>
   rw[hr]at h3;intro ρ2 L2 As2 hle hs2;obtain⟨g1,g2⟩:=hs2.sr.clean;exact Qm8 (⟨(m1,⟨T2,H2,n2⟩,ρ2,_,As2),QG.mono hle h3,⟨hs2.le,g1,hs2.hp,hs2.fr⟩⟩:α) (Nat.lt_succ_self m1) g2 (λ_ h=>h)
  | ex i T2 H2 n2=>
   rw[hr]at h3;exactλρ2 L2 As2 hle hs2=>Qbn (h3 ρ2 L2 As2 hle hs2)
  | rt T2 H2 n2=>
   rw[hr]at h3;exactλρ2 L2 As2 hle hs2=>ZH (h3 ρ2 L2 As2 hle hs2)
theorem QF{F:CallF}(hF:CallOk P r0 F)(hD:Qgu P Dr)(hP:X.P=P):∀(c:Code)(k:List KI)(T:Tr Value)(H:Hp)(n:Nat)(ρ:Rho)(L':Qa)(As:List HA),QG r0 w0 ρ X k ((Xo P X.n m Dr c).run F T H n)->StOk r0 w0 ρ ⟨T,H,n⟩ L' As->S X (.c c::k) L' (HS w0 [] As)
 | .skip,k,T,H,n,ρ,L',As,ht,hs=>Qkt (ht ρ L' As ρ.le_refl hs)
 | .label _,k,T,H,n,ρ,L',As,ht,hs=>Ql6 (ht ρ L' As ρ.le_refl hs)
 | .region _ ⟨ops⟩ false,k,T,H,n,ρ,L',As,ht,hs=>Qfc (Qdm hF hP ops T H n ρ L' As ht hs)
 | .region id ⟨ops⟩ true,k,T,H,n,ρ,L',As,ht,hs=>hD ops id r0 w0 X k F T H n ρ L' As hP hF ht hs
 | .seq a b,k,T,H,n,ρ,L',As,ht,hs=>QhD (QF hF hD hP a _ T H n ρ L' As (QG.seq (Xo P X.n m Dr b) (QF hF hD hP b k) ht) hs)
 | .cond x a b,k,T,H,n,ρ,L',As,ht,hs=>by
  simp only[Xo,Qu]at ht;split at ht
  ·rename_i t hx;have hx':=Qc hs.sr hx rfl;cases t with
   | true=>exact Qcy hx' (λ_=>QF hF hD hP a k T H n ρ L' As ht hs) (λh=>by cases h)
   | false=>exact Qcy hx' (λh=>by cases h) (λ_=>QF hF hD hP b k T H n ρ L' As ht hs)
  ·exact ht.elim
 | .block id b,k,T,H,n,ρ,L',As,ht,hs=>Qef (QF hF hD hP b _ T H n ρ L' As (QG.blk ht) hs)
 | .loop b,k,T,H,n,ρ,L',As,ht,hs=>QkX (λk=>QF hF hD hP b k) ht hs
 | .exit i,k,T,H,n,ρ,L',As,ht,hs=>Qki (ht ρ L' As ρ.le_refl hs)
 | .ret,k,T,H,n,ρ,L',As,ht,hs=>Qmh (ht ρ L' As ρ.le_refl hs)
 | .rangeFunc _ _ _ _,_,_,_,_,_,_,_,ht,_=>ht.elim
 | .scope _,_,_,_,_,_,_,_,ht,_=>ht.elim
 | .goto _,_,_,_,_,_,_,_,ht,_=>ht.elim
 | .refuse _,_,_,_,_,_,_,_,ht,_=>ht.elim
end
def Rho.wx(ρ:Rho)(e:List HA):Rho:=⟨ρ.f,e⟩
theorem SR.wx{ρ:Rho}{L:Env}{L':Qa}(h:SR ρ L L')(e:List HA):SR (ρ.wx e) L L':=h
noncomputable def noY:Qjk:=λ_ _ _ _=>none
theorem QaT{P:Program}{r0:Rho}:YOk P r0 noY:=λ_ _ _ _ _ _ _ h=>by cases h
noncomputable def QgY(nt:Nat):List Nat->List Value->Tr Value->Option (Tr Value)
 | [],[],T=>some T
 | p::ps,v::vs,T=>bif Nat.blt p nt then QgY nt ps vs (Xu (pth p) p v T)else none
 | _,_,_=>none
noncomputable def QgN(ca cb:SF)(nt:Nat)(ps:List Nat)(F:CallF)(T0:Tr Value)(nm:Nat):Qjk:=λk vs H n=>bif Nat.beq k nm then(match QgY nt ps vs T0 with
 | some T1=>(match ca ⟨F.f,F.e,noY⟩ T1 H n with
  | .nm T2 H2 n2=>(match cb ⟨F.f,F.e,noY⟩ T2 H2 n2 with
   | .nm _ H3 n3=>some (.bool true,H3,n3)
   | _=>none)
  | _=>none)
 | none=>none)else none
noncomputable def Qc2(P:Program)(g:Operand)(ca cb:SF)(nt:Nat)(ps:List Nat):CS:=⟨λF T H n=>match(Q3 g).run T with
 | some (.func (.func gf) ⟨la⟩ ⟨lb⟩)=>bif Q7 P gf then(match F.f (QgN ca cb nt ps F T n) gf (la++(.func (.yield n) #[] #[]::lb)) H (Nat.succ n)with
  | some (_,H',n')=>.nm T H' n'
  | none=>.bad)else .bad
 | _=>.bad⟩
def Qee:Code->Bool
 | .rangeFunc _ _ _ _=>true
 | .seq a b=>Qee a||Qee b
 | .cond _ a b=>Qee a||Qee b
 | .block _ b=>Qee b
 | _=>false
noncomputable def Y0(P:Program)(nt m:Nat)(Dr:Nat->Array Oper->CS):Code->CS
 | .seq a b=>Bool.rec (Bool.rec (Xo P nt m Dr (.seq a b)) ⟨λF T H n=>match(Xo P nt m Dr a).run F T H n with
   | .nm T H n=>(Y0 P nt m Dr b).run F T H n
   | r=>r⟩ (Qee b)) ⟨λF T H n=>match(Y0 P nt m Dr a).run F T H n with
   | .nm T H n=>(Xo P nt m Dr b).run ⟨F.f,F.e,noY⟩ T H n
   | r=>r⟩ (Qee a)
 | .cond x a b=>⟨λF T H n=>match(Q3 x).run T with
  | some (.bool t)=>Bool.rec ((Y0 P nt m Dr b).run F T H n) ((Y0 P nt m Dr a).run F T H n) t
  | _=>.bad⟩
 | .block id b=>⟨λF T H n=>match(Y0 P nt m Dr b).run F T H n with
  | .ex i T H n=>bif Nat.beq i id then .nm T H n else .ex i T H n
  | r=>r⟩
 | .rangeFunc g ⟨ps⟩ assign body=>Qc2 P g (Xo P nt m Dr assign).run (Xo P nt m Dr body).run nt ps
 | c=>Xo P nt m Dr c
theorem QhF{ρ:Rho}{n:Nat}:∀{ps:List Nat}{vs us:List Value}{T T1:Tr Value}{L:Qa}{t:Array Value},QgY n ps vs T=some T1->Qg (den ρ) vs=some us->SR ρ (en T) L->FR n [] L {tmps:=t,defers:=[]} ->
  ∃L1,SR ρ (en T1) L1/\FR n [] L1 {tmps:=(ps.zip us).foldl (λt(p,v)=>t.setIfInBounds p v) t,defers:=[]}/\us.length=ps.length
 | [],[],us,T,T1,L,t,h,hm,hs,hf=>by
  injection h with h
  cases hm;subst h;exact⟨L,hs,hf,rfl⟩
 | p::ps,v::vs,us,T,T1,L,t,h,hm,hs,hf=>by
  simp only[QgY]at h;obtain⟨hb,h⟩:=bif_in h;simp only[Qg]at hm;split at hm
  ·rename_i u us' h1 h2;injection hm with hm
   subst hm;have hf1:=hf.put p u hb;obtain⟨L1,g1,g2,g3⟩:=QhF (t:=t.setIfInBounds p u) h h2 (hs.set h1) ⟨rfl,hf1.size,hf1.slot⟩;exact⟨L1,g1,g2,by simp[g3]⟩
  ·cases hm
 | [],_::_,_,_,_,_,_,h,_,_,_=>by cases h
 | _::_,[],_,_,_,_,_,h,_,_,_=>by cases h
theorem Qjy{α:Type}{P:Program}{fn:Func}{n l D:Nat}{fid:FuncId}{tmps:Array Value}{ps:Array Tmp}{assign body:Code}{args:Array Value}{L0:Qa}{LJ:α->Qa}{AJ:α->List HA}{w0 W:World}{As:List HA}{Rr:Ending->World->Prop}
  (hC:HS w0 [] (.obj l (.loop (rdy fid tmps ps assign body D))::As) W)(hps:args.size=ps.size)(hf:FR n [] L0 {tmps:=(ps.zip args).foldl (λt(p,v)=>t.setIfInBounds p v) tmps,defers:=[]})
  (h1:S {P:=P,fn:=fn,n:=n,R:=λ_ _=>False,rd:=some l} [.c assign,.join (At n [] LJ (λx=>HS w0 [] (.obj l (.loop (rdy fid tmps ps assign body D))::AJ x)))] L0 (HS w0 [] (.obj l (.loop (rdy fid tmps ps assign body D))::As)))
  (h2:∀x,S {P:=P,fn:=fn,n:=n,R:=Rr,rd:=some l} [.c body] (LJ x) (HS w0 [] (.obj l (.loop {rdy fid tmps ps assign body D with state:=.busy})::AJ x))):Qeo P l args W Rr:=by
 refine⟨fid,_,assign,body,run_yield (hC.obj_get .here) hps,roundIn_of_wpIn trivial ?_⟩;refine wpIn_mono (h1 _ W hf hC) λe a w he=>?_;cases e with
 | normal=>
  obtain⟨x,hfr,hc⟩:=he;exact⟨_,run_beginRound (hc.obj_get .here) rfl,h2 x _ _ hfr (hc.putObj .here _)⟩
 | ret=>obtain⟨v,w',_,hx⟩:=he;exact hx
 | exit id=>obtain⟨v,w',_,hx⟩:=he;exact hx
 | goto t=>obtain⟨v,w',_,hx⟩:=he;exact hx
 | panic ch=>exact he
 | outgrown=>exact he
section
variable{P:Program}{r0:Rho}{w0:World}{X:Ctx}{m:Nat}{Dr:Nat->Array Oper->CS}
theorem HM.split{ρ:Rho}{H:Hp}{As:List HA}(h:HM ρ H As):∃Bs,As=Bs++ρ.ex/\∀e,HM (ρ.wx e) H (Bs++e):=by
 obtain⟨G,Bs,h1,h2,h3⟩:=h;exact⟨Bs,h3,λe=>⟨G,Bs,h1,h2,rfl⟩⟩
theorem Qit{fn:Func}{nt l D:Nat}{fid:FuncId}{tmps:Array Value}{ps:List Nat}{assign body:Code}{T0:Tr Value}{nm d:Nat}{r1:Rho}{rest:List HA}{L:Qa}{F:CallF}(hF:∀r,CallOk P r ⟨F.f,F.e,noY⟩)(hD:Qgu P Dr)
  (hn:r1 nm=some (l,d))(hex:r1.ex=.obj l (.loop (rdy fid tmps ⟨ps⟩ assign body D))::rest)(hf:FR nt [] L {tmps:=tmps,defers:=[]})(hs:SR r1 (en T0) L):YOk P r1 (QgN (Xo P nt m Dr assign).run (Xo P nt m Dr body).run nt ps F T0 nm):=by
 intro k vs H n v H' n' h w0 ρ us As hle hus hH hfr;unfold QgN at h;have hk:Nat.beq k nm=true:=by grind
 rw[hk]at h;simp only[cond_true]at h;have hk:=Nat.eq_of_beq_eq_true hk;subst hk;refine⟨(l,d),hle.1 _ _ hn,?_⟩;split at h
 ·rename_i T1 hb;split at h
  ·rename_i T2 H2 n2 ha;split at h
   ·rename_i T3 H3 n3 hc;injection h with h
    injection h with e1 e2
    injection e2 with e2 e3
    subst e1 e2 e3;obtain⟨L1,g1,g2,g3⟩:=QhF hb hus (hs.mono hle) hf;intro w hw;have hρe:ρ.ex=.obj l (.loop (rdy fid tmps ⟨ps⟩ assign body D))::rest:=by rw[hle.2,hex]
    obtain⟨Bs,hAs,hBs⟩:=hH.split
    let α:={x:Rho×List HA×Qa×List HA // ρ.le x.1/\StOk x.1 w0 x.1 ⟨T2,H2,n2⟩ x.2.2.1 x.2.1/\x.2.1=x.2.2.2++x.1.ex}
    refine Qjy (fn:=fn) (n:=nt) (α:=α) (L0:=L1) (As:=Bs++rest) (LJ:=λx=>x.1.2.2.1) (AJ:=λx=>x.1.2.2.2++rest) (hw.perm (by rw[hAs,hρe];exact List.perm_middle)) (by simp[g3]) (by simpa using g2) ?_ ?_
    ·have hA:=QF (r0:=ρ) (w0:=w0) (X:={P:=P,fn:=fn,n:=nt,R:=λ_ _=>False,rd:=some l}) (m:=m) (hF ρ) hD rfl assign [.join (At nt [] (λx:α=>x.1.2.2.1) (λx=>HS w0 [] (.obj l (.loop (rdy fid tmps ⟨ps⟩ assign body D))::(x.1.2.2.2++rest))))] T1 H n ρ L1 As (by
      rw[ha];intro ρ2 L2 As2 hle2 hs2;obtain⟨Bs2,k1,k2⟩:=hs2.hp.split;intro a9 w9 ha9 hw9
      have hpm:As2.Perm (.obj l (.loop (rdy fid tmps ⟨ps⟩ assign body D))::(Bs2++rest)):=by
       rw[k1,hle2.2,hρe];exact List.perm_middle
      exact⟨(⟨(ρ2,As2,L2,Bs2),hle2,⟨ρ2.le_refl,hs2.sr,hs2.hp,hs2.fr⟩,k1⟩:α),ha9,hw9.perm hpm⟩) ⟨ρ.le_refl,g1,hH,hfr⟩
     intro a9 w9 ha9 hw9;exact hA a9 w9 ha9 (hw9.perm (by rw[hAs,hρe];exact List.perm_middle.symm))
    ·rintro⟨⟨ρ2,As2,L2,Bs2⟩,q1,q2,q3⟩;simp only[]at q1 q2 q3;have hρ2:ρ2.ex=.obj l (.loop (rdy fid tmps ⟨ps⟩ assign body D))::rest:=by rw[q1.2,hρe]
     obtain⟨Bs2',k1,k2⟩:=q2.hp.split;have hbb:Bs2'=Bs2:=List.append_cancel_right (k1.symm.trans q3);subst hbb
     have hB:=QF (r0:=ρ2.wx (.obj l (.loop {rdy fid tmps ⟨ps⟩ assign body D with state:=.busy})::rest)) (w0:=w0) (X:={P:=P,fn:=fn,n:=nt,R:=QhM w0 ρ (.bool true) H3 n3,rd:=some l}) (m:=m) (hF _) hD rfl body [] T2 H2 n2 (ρ2.wx (.obj l (.loop {rdy fid tmps ⟨ps⟩ assign body D with state:=.busy})::rest)) L2 (Bs2'++(.obj l (.loop {rdy fid tmps ⟨ps⟩ assign body D with state:=.busy})::rest)) (by
      rw[hc];intro ρ3 L3 As3 hle3 hs3;obtain⟨Bs3,j1,j2⟩:=hs3.hp.split;have hρ3:ρ3.ex=.obj l (.loop {rdy fid tmps ⟨ps⟩ assign body D with state:=.busy})::rest:=hle3.2;refine Qks (As':=Bs3++rest) rfl (by rw[j1,hρ3];exact List.perm_middle) λw9 hw9=>?_;refine⟨ρ3.wx (.obj l (.loop (rdy fid tmps ⟨ps⟩ assign body D))::rest),Bs3++(.obj l (.loop (rdy fid tmps ⟨ps⟩ assign body D))::rest),.bool true,⟨λn9 x9 h9=>hle3.1 _ _ (q1.1 _ _ h9),by rw[hρe];rfl⟩,hs3.fr,rfl,j2 _,rfl,hw9.perm List.perm_middle.symm⟩) ⟨Rho.le_refl _,q2.sr,k2 _,q2.fr⟩
     intro a9 w9 ha9 hw9;exact hB a9 w9 ha9 (hw9.perm List.perm_middle.symm)
   ·cases h
  ·cases h
 ·cases h
def RB(w0:World)(ρ:Rho)(X:Ctx)(k:List KI)(r:Rs):Prop:=∀(D:Nat)(ρ1:Rho),(∀n x,ρ n=some x->ρ1 n=some x)->ρ1.ex=.obj D (.deferred (some []))::ρ.ex->QG ρ1 w0 ρ1 {X with df:=[D]} k r
theorem RB.mono{ρ ρ':Rho}{k:List KI}{r:Rs}(h:RB w0 ρ X k r)(hle:ρ.le ρ'):RB w0 ρ' X k r:=λD ρ1 h1 h2=>h D ρ1 (λn x hx=>h1 n x (hle.1 n x hx)) (by rw[h2,hle.2])
theorem QhS{F:CallF}(hF:CallOk P r0 F)(hD:Qgu P Dr)(hP:X.P=P)(hrd:X.rd=none)(hdf:X.df=[]){g:Operand}{ps:List Nat}{assign body:Code}{k:List KI}{T:Tr Value}{H:Hp}{n:Nat}{ρ:Rho}{L':Qa}{As:List HA}
  (hB:RB w0 ρ X k ((Qc2 P g (Xo P X.n m Dr assign).run (Xo P X.n m Dr body).run X.n ps).run F T H n))(hB0:(Qc2 P g (Xo P X.n m Dr assign).run (Xo P X.n m Dr body).run X.n ps).run F T H n≠ .bad)(hs:StOk r0 w0 ρ ⟨T,H,n⟩ L' As):S X (.c (.rangeFunc g ⟨ps⟩ assign body)::k) L' (HS w0 [] As):=by
 subst hP;have hF0:∀r,CallOk X.P r ⟨F.f,F.e,noY⟩:=λr=>⟨hF.f,hF.e,QaT⟩;unfold Qc2 at hB hB0;simp only[Qu]at hB hB0;split at hB0
 ·rename_i gf la lb hx;rw[hx]at hB;simp only[]at hB;cases hfn:Q7 X.P gf with
  | false=>rw[hfn]at hB0;exact absurd rfl hB0
  | true=>
   rw[hfn]at hB hB0;simp only[cond_true]at hB hB0;split at hB0
   ·rename_i v H' n' hr;rw[hr]at hB;simp only[]at hB;obtain⟨u,e1,e2⟩:=X9 hs.sr hx;simp only[den,QQ,Qt,QaI]at e2;split at e2
    ·rename_i f' a' lb' g1 g2 g3;injection g1 with g1
     injection e2 with e2
     subst g1 e2;obtain⟨Bs0,hAs,hBs0⟩:=hs.hp.split;have hAs:As=Bs0++ρ.ex:=hAs
     let G:={x:(Nat->Option (Nat×Nat))×List HA // (∀n y,ρ n=some y->x.1 n=some y)/\(∀k,n'<=k->x.1 k=none)/\∃Bs,x.2=Bs++ρ.ex/\∀e,HM ⟨x.1,e⟩ H' (Bs++e)}
     refine QiE (gf:=gf) (fa:=a'.toArray) (lb:=lb'.toArray) (G:=G) (Bs:=λx=>x.1.2) (jmp:=λ_=>none) hrd hdf e1 hfn ?_ ?_
     ·intro fid D l a w1 ob hob hfr hw1;subst hob
      let r1:Rho:=⟨(ext ρ n (l,0)).f,.obj l (.loop (rdy fid a.tmps ⟨ps⟩ assign body D))::.obj D (.deferred (some []))::ρ.ex⟩
      have hle1:∀n y,ρ n=some y->r1 n=some y:=(Qc5 hs.fr (l,0)).1;have hr1n:r1 n=some (l,0):=ZM ρ n (l,0);have hmono:∀{x y:Value},Q8 ρ x=some y->den r1 x=some y:=λ{x y}hx=>Zr (ρ:=ρ.wx r1.ex) (ρ':=r1) ⟨hle1,rfl⟩ x y (Qb4 (QaW (QiJ hx)));have hY:=Qit (P:=X.P) (fn:=X.fn) (nt:=X.n) (m:=m) (Dr:=Dr) (l:=l) (D:=D) (fid:=fid) (tmps:=a.tmps) (ps:=ps) (assign:=assign) (body:=body) (T0:=T) (nm:=n) (d:=0) (r1:=r1) (L:=L') hF0 hD hr1n rfl ⟨rfl,hfr.size,hfr.slot⟩ (SR.mono (ρ:=ρ.wx r1.ex) ⟨hle1,rfl⟩ hs.sr);have hM1:HM r1 H (Bs0++r1.ex):=HM.mono (ρ:=ρ.wx r1.ex) ⟨hle1,rfl⟩ (hBs0 r1.ex)
      have hcall:=hF.f r1 _ hY gf _ H _ v H' n' hr w0 r1 (a'++(.func (.yield l) #[] #[]::lb')) (Bs0++r1.ex) r1.le_refl (by
       refine Ya (QS (λx y hx=>hmono hx) g2) ?_;simp only[Qg,den,QQ,Qt,QaI,hr1n];have:=QS (λx y hx=>hmono hx) g3;rw[this]) hM1 (Zt hs.fr (l,0)) w1 (hw1.perm (by
       rw[hAs];show(_::_::(Bs0++ρ.ex)).Perm (Bs0++(_::_::ρ.ex));exact(List.perm_middle.trans (List.perm_middle.cons _)).symm))
      have hargs:(a'++(.func (.yield l) #[] #[]::lb')).toArray=a'.toArray++ #[Value.func (.yield l) #[] #[]]++lb'.toArray:=by simp
      rw[hargs]at hcall;refine Calls.mono hcall λe w2⟨ρ',As',u',h1,h2,h3,h4,h5,h6⟩=>⟨⟨u',h5⟩,?_⟩;obtain⟨Bs',j1,j2⟩:=h4.split
      have hpm:As'.Perm (.obj l (.loop (rdy fid a.tmps ⟨ps⟩ assign body D))::.obj D (.deferred (some []))::(Bs'++ρ.ex)):=by
       rw[j1,h1.2];exact List.perm_middle.trans (List.perm_middle.cons _)
      exact⟨⟨(ρ'.f,Bs'++ρ.ex),λn9 y9 h9=>h1.1 _ _ (hle1 _ _ h9),h2,Bs',rfl,λe=>j2 e⟩,h6.perm hpm⟩
     ·rintro D ⟨⟨f9,As9⟩,q1,q2,Bs9,q3,q4⟩;simp only[]at q1 q2 q3 q4;have:=hB D ⟨f9,.obj D (.deferred (some []))::ρ.ex⟩ q1 rfl ⟨f9,.obj D (.deferred (some []))::ρ.ex⟩ L' (Bs9++(.obj D (.deferred (some []))::ρ.ex)) (Rho.le_refl _) ⟨Rho.le_refl _,SR.mono (ρ:=ρ.wx (.obj D (.deferred (some []))::ρ.ex)) (ρ':=⟨f9,.obj D (.deferred (some []))::ρ.ex⟩) ⟨q1,rfl⟩ hs.sr,q4 _,q2⟩;intro a9 w9 ha9 hw9;refine this a9 w9 ha9 (hw9.perm ?_);show(_::As9).Perm _;rw[q3];exact List.perm_middle.symm
    ·cases e2
   grind
 grind
theorem Zm{F:CallF}(hF:CallOk P r0 F)(hD:Qgu P Dr)(hP:X.P=P)(hrd:X.rd=none)(hdf:X.df=[]):∀(c:Code)(k:List KI)(T:Tr Value)(H:Hp)(n:Nat)(ρ:Rho)(L':Qa)(As:List HA),QG r0 w0 ρ X k ((Y0 P X.n m Dr c).run F T H n)->RB w0 ρ X k ((Y0 P X.n m Dr c).run F T H n)->StOk r0 w0 ρ ⟨T,H,n⟩ L' As->S X (.c c::k) L' (HS w0 [] As)
 | .seq a b,k,T,H,n,ρ,L',As,hA,hB,hs=>by
  have hF0:∀r,CallOk P r ⟨F.f,F.e,noY⟩:=λr=>⟨hF.f,hF.e,QaT⟩;cases ha:Qee a with
  | true=>
   simp only[Y0,ha]at hA hB;refine QhD (Zm hF hD hP hrd hdf a (.c b::k) T H n ρ L' As ?_ ?_ hs)
   ·exact QG.seq (F:=F) ⟨λF T H n=>(Xo P X.n m Dr b).run ⟨F.f,F.e,noY⟩ T H n⟩ (λT H n ρ L' As h1 h2=>QF (m:=m) (hF0 r0) hD hP b k T H n ρ L' As h1 h2) hA
   ·intro D ρ1 h1 h2;exact QG.seq (F:=F) (X:={X with df:=[D]}) ⟨λF T H n=>(Xo P X.n m Dr b).run ⟨F.f,F.e,noY⟩ T H n⟩ (λT H n ρ L' As h1 h2=>QF (m:=m) (X:={X with df:=[D]}) (hF0 ρ1) hD hP b k T H n ρ L' As h1 h2) (hB D ρ1 h1 h2)
  | false=>
   cases hb:Qee b with
   | false=>
    simp only[Y0,ha,hb]at hA
    grind[QF]
   | true=>
    simp only[Y0,ha,hb]at hA hB;refine QhD (QF (m:=m) hF hD hP a (.c b::k) T H n ρ L' As ?_ hs);cases hr:(Xo P X.n m Dr a).run F T H n with
    | bad=>rw[hr]at hA;exact hA.elim
    | nm T2 H2 n2=>
     rw[hr]at hA hB;exactλρ2 L2 As2 hle hs2=>Zm hF hD hP hrd hdf b k T2 H2 n2 ρ2 L2 As2 (QG.mono hle hA) (RB.mono hB hle) hs2
    | ex i T2 H2 n2=>
     rw[hr]at hA;exactλρ2 L2 As2 hle hs2=>QbE (hA ρ2 L2 As2 hle hs2)
    | rt T2 H2 n2=>
     rw[hr]at hA;exactλρ2 L2 As2 hle hs2=>ZH (hA ρ2 L2 As2 hle hs2)
 | .cond x a b,k,T,H,n,ρ,L',As,hA,hB,hs=>by
  simp only[Y0,Qu]at hA hB;split at hA
  ·rename_i t hx;rw[hx]at hB;have hx':=Qc hs.sr hx rfl;cases t with
   | true=>exact Qcy hx' (λ_=>Zm hF hD hP hrd hdf a k T H n ρ L' As hA hB hs) (λh=>by cases h)
   | false=>exact Qcy hx' (λh=>by cases h) (λ_=>Zm hF hD hP hrd hdf b k T H n ρ L' As hA hB hs)
  ·exact hA.elim
 | .block id b,k,T,H,n,ρ,L',As,hA,hB,hs=>Qef (Zm hF hD hP hrd hdf b _ T H n ρ L' As (QG.blk hA) (λD ρ1 h1 h2=>QG.blk (hB D ρ1 h1 h2)) hs)
 | .rangeFunc g ⟨ps⟩ assign body,k,T,H,n,ρ,L',As,hA,hB,hs=>QhS hF hD hP hrd hdf hB (λe=>by
   have hA':QG r0 w0 ρ X k ((Qc2 P g (Xo P X.n m Dr assign).run (Xo P X.n m Dr body).run X.n ps).run F T H n):=hA;rw[e]at hA';exact hA'.elim) hs
 | .skip,k,T,H,n,ρ,L',As,hA,hB,hs=>QF hF hD hP _ k T H n ρ L' As hA hs
 | .label _,k,T,H,n,ρ,L',As,hA,hB,hs=>QF hF hD hP _ k T H n ρ L' As hA hs
 | .region _ _ _,k,T,H,n,ρ,L',As,hA,hB,hs=>QF hF hD hP _ k T H n ρ L' As hA hs
 | .loop _,k,T,H,n,ρ,L',As,hA,hB,hs=>QF hF hD hP _ k T H n ρ L' As hA hs
 | .exit _,k,T,H,n,ρ,L',As,hA,hB,hs=>QF hF hD hP _ k T H n ρ L' As hA hs
 | .ret,k,T,H,n,ρ,L',As,hA,hB,hs=>QF hF hD hP _ k T H n ρ L' As hA hs
 | .scope _,k,T,H,n,ρ,L',As,hA,hB,hs=>QF hF hD hP _ k T H n ρ L' As hA hs
 | .goto _,k,T,H,n,ρ,L',As,hA,hB,hs=>QF hF hD hP _ k T H n ρ L' As hA hs
 | .refuse _,k,T,H,n,ρ,L',As,hA,hB,hs=>QF hF hD hP _ k T H n ρ L' As hA hs
end
noncomputable def Qij(P:Program):List ResultVar->Clo (Tr Value->Hp->Option (List Value))
 | []=>⟨λ_ _=>some []⟩
 | .tmp t::rs=>⟨λT H=>match XO (pth t) t T with
  | some v=>(match(Qij P rs).run T H with
   | some vs=>bif Yz v then some (v::vs)else none
   | none=>none)
  | none=>none⟩
 | .cell at' t::rs=>⟨λT H=>match Qds P (en T) H t at' with
  | some v=>(match(Qij P rs).run T H with
   | some vs=>some (v::vs)
   | none=>none)
  | none=>none⟩
section
variable{P:Program}{ρ:Rho}{L':Qa}{T:Tr Value}{H:Hp}{As:List HA}
theorem Qid{v u:Value}(h:Yz v=true)(e:den ρ v=some u):QQ ρ v=some u:=by
 cases v<;>first|exact e|(simp[Yz]at h)
theorem QeH(hs:SR ρ (en T) L')(hH:HM ρ H As):∀{rs:List ResultVar}{vs:List Value},(Qij P rs).run T H=some vs->∃us,RV P L' As rs us/\Qg (QQ ρ) vs=some us
 | [],vs,h=>by cases h;exact⟨[],RV.nil,rfl⟩
 | .tmp t::rs,vs,h=>by
  simp only[Qij]at h;split at h
  ·rename_i v h1;split at h
   ·rename_i vs' h2;obtain⟨hc,rfl⟩:=bif_some h;obtain⟨u,e1,e2⟩:=hs.get (show en T t=_ from h1);obtain⟨us,e3,e4⟩:=QeH hs hH h2
    grind[RV.tmp,Qg,Qid]
   ·cases h
  ·cases h
 | .cell at' t::rs,vs,h=>by
  simp only[Qij]at h;split at h
  ·rename_i v h1;split at h
   ·rename_i vs' h2;injection h with h
    subst h;obtain⟨us,e3,e4⟩:=QeH hs hH h2;unfold Qds at h1;split at h1
    ·rename_i m i hx;split at h1
     ·rename_i r sz ag hg hz;obtain⟨b,d,cu,Rs,g1,g2,g3,g4,_,_⟩:=Xd hH hg;obtain⟨p,e1,e2⟩:=hs.get hx;simp only[den,QQ,Qt,Q8,g1,Option.some.injEq]at e2;subst e2;cases ag with
      | true=>
       simp only[if_true]at h1;obtain⟨hb,rfl⟩:=bif_some h1;exact⟨_,RV.cell e1 hz g4 (by rw[Qz g2];exact hb) e3,by simp only[Qg,QQ,List.toList_toArray,cut,QX sz (XK i g2),e4]⟩
      | false=>
       have h1':(bif Nat.beq sz 1 then r.cs[i]? else none)=some v:=by simpa using h1
       obtain⟨hb,h1'⟩:=bif_in h1';have hk:=Nat.eq_of_beq_eq_true hb;subst hk;obtain⟨u,f1,f2⟩:=Zs g2 h1'
       grind[RV.cell1,Qg,QaW]
     ·cases h1
    ·cases h1
   ·cases h
  ·cases h
theorem Qke:∀{vs us:List Value},Qg (QQ ρ) vs=some us->den ρ (QB vs)=some (QB us)
 | [],us,h=>by cases h;rfl
 | [v],us,h=>by
  simp only[Qg]at h;split at h
  ·rename_i b m h1 h2;injection h2 with h2
   injection h with h
   subst h h2;exact Qb4 h1
  ·cases h
 | v::v'::vs,us,h=>by
  have hl:=Qz h;obtain⟨u,u',us',rfl⟩:∃u u' us',us=u::u'::us':=by rcases us with _|⟨u,_|⟨u',us'⟩⟩<;>grind
  show den ρ (.tuple (v::v'::vs).toArray)=some (.tuple (u::u'::us').toArray)
  grind[den]
end
noncomputable def Qi7(i:Nat)(vs:List Value):Tr Value:=List.rec (λ_=>.lf) (λv _ ih i=>Xu (pth i) i v (ih (Nat.succ i))) vs i
theorem QjP{ρ:Rho}:∀{vs us:List Value}(i:Nat),Qg (den ρ) vs=some us->SR ρ (en (Qi7 i vs)) (Qb8 i us)
 | [],us,i,h=>λt v hv=>by
  have h':XO (pth t) t (.lf:Tr Value)=some v:=hv;rw[X0]at h';cases h'
 | v::vs,us,i,h=>by
  simp only[Qg]at h;split at h
  ·rename_i u m h1 h2;injection h with h
   subst h;exact(QjP (i+1) h2).set h1
  ·cases h
theorem QlE{X:Ctx}{L:Qa}{w0:World}{As:List HA}{rs:List ResultVar}{vs:List Value}(hr:X.fn.results=rs.toArray)(hv:RV X.P L As rs vs)(h:∀w,HS w0 [] As w->X.R (.returned (QB vs)) w)(hrd:X.rd=none)(hdf:X.df=[]):SE X .ret [] L (HS w0 [] As):=by
 intro a w ha hw;refine Qf6 hrd (ha.none hdf) (v:=QB vs) ?_ (h w hw);have hm:=hv.run ha hw;rw[QaZ hr,Array.mapM_eq_mapM_toList];simp only[Sem.run_bind,Sem.run_map,hm,Result.andThen_ok,Sem.run_pure]
 match vs with
 | []=>rfl
 | [v]=>rfl
 | u::v::vs=>simp[QB]
theorem Ql7{X:Ctx}{L:Qa}{w0:World}{M:List Nat}{As As':List HA}{D:Nat}{rs:List ResultVar}{vs:List Value}(hr:X.fn.results=rs.toArray)(hp:QD As (.obj D (.deferred (some []))) As')(hv:RV X.P L As' rs vs)(h:∀w,HS w0 M As' w->X.R (.returned (QB vs)) w)(hrd:X.rd=none)(hdf:X.df=[D]):SE X .ret [] L (HS w0 M As):=by
 intro a w ha hw;show(match X.rd with|none=>bodyPostM X.F 0 X.P X.fn X.R .ret a w|some l=>roundPost X.P l X.R .ret a w);rw[hrd];show LeavesInM X.F 0 X.P X.fn a.tmps X.R a.defers .returning w;rw[ha.defers,hdf];have h1:=(hw.putObj hp (.deferred none)).tail;refine⟨by simp,.inl ⟨D,_,rfl,run_takeDeferred (hw.obj_get hp),QB vs,?_,h _ h1⟩⟩;have hm:=hv.run ha h1;rw[QaZ hr,Array.mapM_eq_mapM_toList];simp only[Sem.run_bind,Sem.run_map,hm,Result.andThen_ok,Sem.run_pure]
 match vs with
 | []=>rfl
 | [v]=>rfl
 | u::v::vs=>simp[QB]
noncomputable def Qex(P:Program)(m:Nat)(Dr:Nat->Array Oper->CS)(g:FuncId):Clo (CallF->List Value->Hp->Nat->Option (Value×Hp×Nat)):=match P.funcs[g]? with
 | some fn=>match fn.body with
  | some b=>⟨λF vs H n=>bif Nat.ble vs.length fn.ntmps then(match(Y0 P fn.ntmps m Dr b).run F (Qi7 0 vs) H n with
   | .rt T H n=>(match(Qij P fn.results.toList).run T H with
    | some rs=>some (QB rs,H,n)
    | none=>none)
   | .nm T H n=>(match fn.results.toList with
    | []=>some (.tuple #[],H,n)
    | _=>none)
   | _=>none)else none⟩
  | none=>⟨λ_ _ _ _=>none⟩
 | none=>⟨λ_ _ _ _=>none⟩
theorem Qih{P:Program}{r0:Rho}{m:Nat}{Dr:Nat->Array Oper->CS}{F:CallF}(hF:CallOk P r0 F)(hD:Qgu P Dr):Qbu P r0 (λg=>(Qex P m Dr g).run F):=by
 intro f vs H n v H' n' h w0 ρ us As hle0 hus hH hf w hw;simp only[Qex]at h;split at h
 ·rename_i fn h1;split at h
  ·rename_i b h2;obtain⟨hc,h⟩:=bif_in h;have hle:Nat.ble us.length fn.ntmps=true:=by rw[Qz hus];exact hc
   refine enter (args:=us) (C:=HS w0 [] As) h1 rfl h2 hle hw ?_;refine Zm (m:=m) hF hD rfl rfl rfl b [] (Qi7 0 vs) H n ρ _ As ?_ ?_ ⟨hle0,QjP 0 hus,hH,hf⟩
   ·show QG r0 w0 ρ _ [] ((Y0 P fn.ntmps m Dr b).run F (Qi7 0 vs) H n);split at h
    ·rename_i T2 H2 n2 hr;rw[hr];intro ρ2 L2 As2 hle2 hs2;split at h
     ·rename_i rs hrs;injection h with h
      injection h with e1 e2
      injection e2 with e2 e3
      subst e1 e2 e3;obtain⟨us2,g1,g2⟩:=QeH hs2.sr hs2.hp hrs;exact QlE (rs:=fn.results.toList) (by simp) g1 (λw' hw'=>⟨ρ2,As2,QB us2,hle2,hs2.fr,Qke g2,hs2.hp,rfl,hw'⟩) rfl rfl
     ·cases h
    ·rename_i T2 H2 n2 hr;rw[hr];intro ρ2 L2 As2 hle2 hs2;split at h
     ·rename_i hres;injection h with h
      injection h with e1 e2
      injection e2 with e2 e3
      subst e1 e2 e3;have hres':fn.results= #[]:=by rw[<-Array.toArray_toList (xs:=fn.results),hres]
      exact QmZ hres' (λw' hw'=>⟨ρ2,As2,.tuple #[],hle2,hs2.fr,rfl,hs2.hp,rfl,hw'⟩) rfl rfl
     ·cases h
    ·cases h
   ·intro D ρ1 h1' h2';show QG ρ1 w0 ρ1 _ [] ((Y0 P fn.ntmps m Dr b).run F (Qi7 0 vs) H n);split at h
    ·rename_i T2 H2 n2 hr;rw[hr];intro ρ2 L2 As2 hle2 hs2;split at h
     ·rename_i rs hrs;injection h with h
      injection h with e1 e2
      injection e2 with e2 e3
      subst e1 e2 e3;obtain⟨Bs,k1,k2⟩:=hs2.hp.split;have hex:ρ2.ex=.obj D (.deferred (some []))::ρ.ex:=hle2.2.trans h2';have hpm:As2.Perm (.obj D (.deferred (some []))::(Bs++ρ.ex)):=by simp_all
      have hsr:SR (ρ2.wx ρ.ex) (en T2) L2:=hs2.sr;obtain⟨us2,g1,g2⟩:=QeH hsr (k2 ρ.ex) hrs;exact Ql7 (rs:=fn.results.toList) (by simp) hpm g1 (λw' hw'=>⟨ρ2.wx ρ.ex,Bs++ρ.ex,QB us2,⟨λn x hx=>hle2.1 n x (h1' n x hx),rfl⟩,hs2.fr,Qke g2,k2 _,rfl,hw'⟩) rfl rfl
     ·cases h
    ·rename_i T2 H2 n2 hr;rw[hr];intro ρ2 L2 As2 hle2 hs2;split at h
     ·rename_i hres;injection h with h
      injection h with e1 e2
      injection e2 with e2 e3
      subst e1 e2 e3;obtain⟨Bs,k1,k2⟩:=hs2.hp.split;have hex:ρ2.ex=.obj D (.deferred (some []))::ρ.ex:=hle2.2.trans h2';have hpm:As2.Perm (.obj D (.deferred (some []))::(Bs++ρ.ex)):=by simp_all
      have hres':fn.results= #[]:=by rw[<-Array.toArray_toList (xs:=fn.results),hres]
      exact Qnw (As':=Bs++ρ.ex) (D:=D) hres' hpm (λw' hw'=>⟨ρ2.wx ρ.ex,Bs++ρ.ex,.tuple #[],⟨λn x hx=>hle2.1 n x (h1' n x hx),rfl⟩,hs2.fr,rfl,k2 _,rfl,hw'⟩) rfl rfl
     ·cases h
    ·cases h
  ·cases h
 ·cases h
noncomputable def bare(v:Value):Bool:=(den ⟨λ_=>none,[]⟩ v).isSome
def Qi5:Value->Bool
 | .agg cs=>QI cs.toList
 | v=>Yt v
def Qes(l:List Value):Bool:=l.all Qi5
theorem QhT{v:Value}(h:Qi5 v=true)(ρ:Rho):den ρ v=some v:=by
 cases v with
 | agg cs=>
  have h2:QI cs.toList=true:=h
  show(match Qg (Qt ρ) cs.toList with
   | some l=>some (Value.agg l.toArray)
   | none=>none)=_
  rw[Xe h2]
 | _=>(unfold Qi5 at h;exact YS h ρ)
theorem Qal{ρ:Rho}:∀{l:List Value},Qes l=true->Qg (den ρ) l=some l
 | [],_=>rfl
 | v::l,h=>by
  simp only[Qes,List.all_cons,Bool.and_eq_true]at h;simp only[Qg,QhT h.1 ρ,Qal (l:=l) h.2]
noncomputable def Qhb(F:Qaf)(g:FuncId)(vs:List Value):Option Value:=match F g vs .lf 0 with
 | some r=>bif Qes vs&&bare r.1 then some r.1 else none
 | none=>none
theorem QiN{P:Program}{F:Qaf}(hF:Qbu P ⟨λ_=>none,[]⟩ F):Qd4 P λg vs=>bif Q7 P g then Qhb F g vs else none:=by
 intro f vs v h w0 ρ us As hvs o L' args ts ho hev;obtain⟨hfn,h⟩:=bif_in h;unfold Qhb at h;split at h
 ·rename_i r hr;obtain⟨hc,rfl⟩:=bif_some h;obtain⟨v,H',n'⟩:=r;simp only[Bool.and_eq_true]at hc
  have hus:us=vs:=by
   have h2:=Qal (ρ:=ρ) hc.1;rw[h2]at hvs;exact(Option.some.inj hvs).symm
  subst hus;obtain⟨u,hu⟩:=Option.isSome_iff_exists.1 hc.2
  have hmono:∀{ρ':Rho}{x y:Value},den ⟨λ_=>none,[]⟩ x=some y->den ρ' x=some y:=λ{ρ'}{x}{y}e=>by
   have:=Zr (ρ:=⟨λ_=>none,ρ'.ex⟩) (ρ':=ρ') ⟨λn x h=>(by cases h),rfl⟩ x y e;exact this
  refine⟨u,hmono hu,?_⟩;intro a w hρ hw
  have hcall:=hF f us .lf 0 v H' n' hr w ⟨λ_=>none,[]⟩ us [] (Rho.le_refl _) (Qal hc.1) ⟨[],[],(λm r hm=>by
   have h':XO (pth m) m (.lf:Hp)=some r:=hm;rw[X0]at h';cases h'),rfl,rfl⟩ (λ_ _=>rfl) w (HS.refl w [])
  rw[YJ ho hρ (show ev L' (.func f)=some (.func (.func f) #[] #[])from rfl) hfn hev];simp only[Array.empty_append,Array.append_empty];refine Calls.mono hcall λe w'⟨ρ',As',u',h1,h2,h3,h4,h5,h6⟩=>?_;rw[hmono hu]at h3;injection h3 with h3
  subst h3;exact⟨_,h5,rfl,h6.nil.below⟩
 ·cases h
structure KnOk(P:Program)(K:CallF):Prop where
 f:∀r1 Y,Qbu P r1 (K.f Y)
 e:Qd4 P K.e
noncomputable def evF(P:Program)(K:CallF)(Z:FuncId->Bool)(m:Nat)(Dr:Nat->Array Oper->CS)(f:Nat):CallF:=
 Nat.rec ⟨λ_ _ _ _ _=>none,K.e,noY⟩ (λ_ ih=>⟨λY g vs H n=>match K.f Y g vs H n with
  | some r=>some r
  | none=>(Qex P m Dr g).run ⟨ih.f,ih.e,Y⟩ vs H n,λg vs=>match K.e g vs with
  | some v=>some v
  | none=>Bool.rec none (bif Q7 P g then Qhb (ih.f noY) g vs else none) (Z g),noY⟩) f
theorem Qi0{P:Program}{K:CallF}{Z:FuncId->Bool}{m:Nat}{Dr:Nat->Array Oper->CS}(hK:KnOk P K)(hD:Qgu P Dr):∀f r0,CallOk P r0 (evF P K Z m Dr f)
 | 0,r0=>⟨(λ_ _ _ _ _ _ _ _ _ _ h=>by cases h),hK.e,QaT⟩
 | f+1,r0=>by
  have ih:=Qi0 (Z:=Z) (m:=m) hK hD f;refine⟨?_,?_,QaT⟩
  ·intro r1 Y hY g vs H n v H' n' h
   have h':(match K.f Y g vs H n with
    | some r=>some r
    | none=>(Qex P m Dr g).run ⟨(evF P K Z m Dr f).f,(evF P K Z m Dr f).e,Y⟩ vs H n)=some (v,H',n'):=h
   split at h'
   ·rename_i r hr;injection h' with h'
    subst h';exact hK.f r1 Y g vs H n v H' n' hr
   ·exact Qih (r0:=r1) (⟨(ih r1).f,(ih r1).e,hY⟩:CallOk P r1 ⟨(evF P K Z m Dr f).f,(evF P K Z m Dr f).e,Y⟩) hD g vs H n v H' n' h'
  ·intro g vs v h
   have h':(match K.e g vs with
    | some v=>some v
    | none=>Bool.rec none (bif Q7 P g then Qhb ((evF P K Z m Dr f).f noY) g vs else none) (Z g))=some v:=h
   split at h'
   ·rename_i v' hr;injection h' with h'
    subst h';exact hK.e g vs v' hr
   ·cases hz:Z g with
    | false=>rw[hz]at h';cases h'
    | true=>
     rw[hz]at h';exact QiN ((ih ⟨λ_=>none,[]⟩).f _ _ QaT) g vs v h'
end Ev
end Gx
namespace Gx
open Go Go.RowKit
section
variable{X:Ctx}{ops:Array Oper}{F:List Nat}{fuel i:Nat}{listed:Array Bool}{k:List KI}{L:Qa}{d ty:Nat}{op:Op}{pos:String}{aft:Array Edge}{w0:World}{M:List Nat}{As Bs:List HA}
theorem Qmg{B:World->Prop}{G:Type}{V:G->Value}{Fg:G->Prop}{C':G->World->Prop}{j:Nat}{want b:Bool}(i dj:Nat)(hi:ops[i]?=some ⟨some d,op,ty,pos,aft,some (j,want)⟩)(hj:(ops[j]?).bind (·.dst)=some dj)(hb:Qa.get L dj=some (.bool b))(hw:b=want)(h:OpH X.P ⟨some d,op,ty,pos,aft,none⟩ L (HS w0 M As) V Fg C')(hr:(Region.ready .any ops listed==[i])=true)(hB:∀w,HS w0 M As w->B w)(hd:Nat.blt d X.n=true)
  (next:∀g,Fg g->D X ops F B fuel (listed.setIfInBounds i true) k ((d,V g)::L) (C' g)):D X ops F B (fuel+1) listed k L (HS w0 M As):=by
 intro hcl a ha;have hy:yielded ops a.tmps j=some b:=by simp[yielded,hj,ha.slot _ _ hb]
 have hr':Region.ready .any ops listed=[i]:=by simpa using hr
 refine Qcs hr' (λ_=>⟨hB,HS.stab _ _ _⟩) ?_;unfold XI;simp only[hi];rw[if_pos (by simp[Region.wanted,hy,hw])];exact⟨G,V,Fg,C',λw hw=>h a.eval w ha.agr hw,λg hg=>next g hg (hcl.set (by rw[hr'];exact List.mem_singleton.2 rfl)) _ (ha.put d _ hd)⟩
end
end Gx
namespace Gx
namespace Ev
open Go Go.RowKit
structure Stp where
 i:Nat
 okP:Bool
 okQ:Bool
 okH:Bool
 turn:Option (List Nat)
def onF(F:List Nat)(i:Nat):Bool:=F.all λf=>!Nat.beq f i
def Qhp(n:Nat):List (List Nat):=[]::(List.range n).map λj=>[j]
def Qnb(ops:Array Oper):Array Bool->List Nat->Bool
 | listed,[]=>Region.ready .any ops listed==[]
 | listed,i::r=>Qnb ops (listed.setIfInBounds i true) r
noncomputable def Qk3:Option Addr->Option Addr->Bool
 | none,none=>true
 | some ⟨a,b,none⟩,some ⟨c,d,none⟩=>Nat.beq a c&&Nat.beq b d
 | some ⟨a,b,some e⟩,some ⟨c,d,some f⟩=>Nat.beq a c&&(Nat.beq b d&&Nat.beq e f)
 | _,_=>false
theorem Qg2{a b:Option Addr}(h:Qk3 a b=true):a=b:=by
 unfold Qk3 at h;split at h<;>simp_all
noncomputable def eqA:Value->Value->Bool
 | .int k (.ofNat a),.int k' (.ofNat b)=>kEq k k'&&Nat.beq a b
 | .bool a,.bool b=>a==b
 | .string ⟨⟨a⟩⟩,.string ⟨⟨b⟩⟩=>QkS a b
 | .pointer a,.pointer b=>Qk3 a b
 | .slice a l c,.slice b l' c'=>Qk3 a b&&(Nat.beq l l'&&Nat.beq c c')
 | .map (some a),.map (some b)=>Nat.beq a b
 | .map none,.map none=>true
 | .nilFunc,.nilFunc=>true
 | _,_=>false
theorem Qgt{a b:Value}(h:eqA a b=true):a=b:=by
 unfold eqA at h;split at h
 ·simp only[Bool.and_eq_true]at h;rw[Qag h.1,Nat.eq_of_beq_eq_true h.2]
 ·grind
 ·grind[Qcj]
 ·rw[Qg2 h]
 ·simp only[Bool.and_eq_true]at h;rw[Qg2 h.1,Nat.eq_of_beq_eq_true h.2.1,Nat.eq_of_beq_eq_true h.2.2]
 ·simp_all
 ·rfl
 ·rfl
 ·cases h
def eqL(f:Value->Value->Bool):List Value->List Value->Bool
 | [],[]=>true
 | a::l,b::m=>f a b&&eqL f l m
 | _,_=>false
theorem Qec{f:Value->Value->Bool}(hf:∀a b,f a b=true->a=b):∀{l m:List Value},eqL f l m=true->l=m
 | [],[],_=>rfl
 | a::l,b::m,h=>by
  simp only[eqL,Bool.and_eq_true]at h;rw[hf a b h.1,Qec hf h.2]
 | [],_::_,h=>by cases h
 | _::_,[],h=>by cases h
noncomputable def eqF:Value->Value->Bool
 | .func (.func f) ⟨a⟩ ⟨b⟩,.func (.func g) ⟨c⟩ ⟨d⟩=>Nat.beq f g&&(eqL eqA a c&&eqL eqA b d)
 | a,b=>eqA a b
theorem Qm4{a b:Value}(h:eqF a b=true):a=b:=by
 unfold eqF at h;split at h
 ·simp only[Bool.and_eq_true]at h;rw[Nat.eq_of_beq_eq_true h.1,Qec (λ_ _=>Qgt) h.2.1,Qec (λ_ _=>Qgt) h.2.2]
 ·exact Qgt h
noncomputable def QmG(x y:HB):Bool:=Nat.beq x.ty y.ty&&(Nat.beq x.sz y.sz&&eqL eqF x.cs y.cs)
theorem Qk0{x y:HB}(h:QmG x y=true):x=y:=by
 simp only[QmG,Bool.and_eq_true]at h;obtain⟨a,b,c⟩:=x;obtain⟨d,e,f⟩:=y;simp only at h;rw[Nat.eq_of_beq_eq_true h.1,Nat.eq_of_beq_eq_true h.2.1,Qec (λ_ _=>Qm4) h.2.2]
def Ql2:List Int->List Int->Bool
 | [],[]=>true
 | a::l,b::m=>decide (a=b)&&Ql2 l m
 | _,_=>false
theorem QgX:∀{l m:List Int},Ql2 l m=true->l=m
 | [],[],_=>rfl
 | a::l,b::m,h=>by
  simp only[Ql2,Bool.and_eq_true,decide_eq_true_eq]at h;rw[h.1,QgX h.2]
 | [],_::_,h=>by cases h
 | _::_,[],h=>by cases h
noncomputable def QjA:HX->HX->Bool
 | .row x,.row y=>QmG x y
 | .mp x,.mp y=>Ql2 x y
 | _,_=>false
theorem Qlq{x y:HX}(h:QjA x y=true):x=y:=by
 unfold QjA at h
 grind[Qk0,QgX]
noncomputable def Qfo(H H':Hp)(R:List Nat):Bool:=List.rec true (λm _ ih=>match XC H m with
 | some r=>(match XC H' m with
  | some r'=>Bool.rec false ih (QjA r r')
  | none=>false)
 | none=>false) R
theorem Z3{H H':Hp}:∀{R:List Nat},Qfo H H' R=true->∀m∈R,XC H' m=XC H m
 | [],_,m,hm=>by cases hm
 | a::R,h,m,hm=>by
  have h':(match XC H a with
   | some r=>(match XC H' a with
    | some r'=>Bool.rec false (Qfo H H' R) (QjA r r')
    | none=>false)
   | none=>false)=true:=h
  split at h'
  ·rename_i r h1;split at h'
   ·rename_i r' h2;cases he:QjA r r' with
    | false=>rw[he]at h';cases h'
    | true=>
     rw[he]at h';rcases List.mem_cons.1 hm with rfl|hm
     ·rw[h1,h2,Qlq he]
     ·exact Z3 h' m hm
   ·cases h'
  ·cases h'
abbrev DF:=CallF->Tr Value->Hp->Nat->List Nat->Rs
abbrev DS:=Clo DF
noncomputable def noD:DS:=⟨λ_ _ _ _ _=>.bad⟩
noncomputable def memN(m:Nat)(R:List Nat):Bool:=List.rec false (λa _ ih=>Bool.rec ih true (Nat.beq a m)) R
noncomputable def Qip(m:Option Nat)(R:List Nat):List Nat:=Option.rec R (λk=>Bool.rec (k::R) R (memN k R)) m
noncomputable def yes(b:Bool)(r:Rs):Rs:=Bool.rec .bad r b
noncomputable def dOn(P:Program)(nt:Nat)(s:Stp)(o:Oper)(rest:DS):DS:=match o.dst with
 | some d=>bif Nat.blt d nt then⟨λF T H n R=>match(YP P o.op).run F T H n with
  | .no=>.bad
  | .p v=>yes s.okP (rest.run F (Xu (pth d) d v T) H n R)
  | .q m v=>(match s.okH,s.turn with
   | true,none=>rest.run F (Xu (pth d) d v T) H n R
   | _,_=>yes s.okQ (rest.run F (Xu (pth d) d v T) H n (Qip m R)))
  | .new v x=>yes s.okH (match s.turn with
   | some _=>rest.run F (Xu (pth d) d v T) (XP H n x) (Nat.succ n) []
   | none=>rest.run F (Xu (pth d) d v T) (XP H n x) (Nat.succ n) R)
  | .h v H' n'=>yes s.okH (match s.turn with
   | some _=>rest.run F (Xu (pth d) d v T) H' n' []
   | none=>yes (Qfo H H' R) (rest.run F (Xu (pth d) d v T) H' n' R))⟩else noD
 | none=>bif o.guard.isNone then⟨λF T H n R=>match(YP P o.op).run F T H n with
  | .new v x=>yes s.okH (match s.turn with
   | some _=>rest.run F T (XP H n x) (Nat.succ n) []
   | none=>rest.run F T (XP H n x) (Nat.succ n) R)
  | .h v H' n'=>yes s.okH (match s.turn with
   | some _=>rest.run F T H' n' []
   | none=>yes (Qfo H H' R) (rest.run F T H' n' R))
  | _=>.bad⟩else noD
noncomputable def Qmd(nt:Nat)(s:Stp)(dst:Option Nat)(rest:DS):DS:=match dst with
 | some d=>bif Nat.blt d nt then(match s.okP with
  | true=>⟨λF T H n R=>rest.run F (Xu (pth d) d undef T) H n R⟩
  | false=>match s.okH,s.turn with
   | true,some _=>⟨λF T H n R=>rest.run F (Xu (pth d) d undef T) H n []⟩
   | _,_=>noD)else noD
 | none=>noD
def QT(H:Hp):List Nat->List (Nat×HX)->Prop
 | [],[]=>True
 | m::R,(k,r)::B=>k=m/\XC H m=some r/\m ∉ R/\QT H R B
 | _,_=>False
theorem QT.stay{H H':Hp}:∀{R:List Nat}{B:List (Nat×HX)},QT H R B->(∀m∈R,XC H' m=XC H m)->QT H' R B
 | [],[],_,_=>trivial
 | m::R,(k,r)::B,h,hs=>⟨h.1,by rw[hs m (List.mem_cons_self ..)];exact h.2.1,h.2.2.1,QT.stay h.2.2.2 λp hp=>hs p (List.mem_cons_of_mem _ hp)⟩
 | [],_::_,h,_=>h.elim
 | _::_,[],h,_=>h.elim
theorem QT.has{H:Hp}:∀{R:List Nat}{B:List (Nat×HX)},QT H R B->∀m∈R,∃r,XC H m=some r
 | m::R,(k,r)::B,h,p,hp=>by
  rcases List.mem_cons.1 hp with rfl|hp
  ·exact⟨r,h.2.1⟩
  ·exact h.2.2.2.has p hp
 | [],_,_,p,hp=>by cases hp
 | _::_,[],h,_,_=>h.elim
theorem QdJ{ρ:Rho}:∀{R:List Nat}{B:List (Nat×HX)}{H:Hp}{G:List (Nat×HX)}{As:List HA},(∀m r,XC H m=some r->QaG G m=some r)->Qg (ha ρ) G=some As->QT H R B->∃Bs Rs,Qg (ha ρ) B=some Bs/\As.Perm (Bs++Rs)
 | [],[],H,G,As,_,_,_=>⟨[],As,rfl,.refl _⟩
 | m::R,(k,r)::B,H,G,As,hG,hA,h=>by
  obtain⟨rfl,h1,h2,h3⟩:=h;obtain⟨A,Rs,g1,g4,_,As3,g6,g7,g8⟩:=QeD hA (hG _ _ h1)
  obtain⟨Bs,Rs2,h4,h5⟩:=QdJ (H:=QcH H k) (R:=R) (B:=B) (G:=QeT G k) (λp r' hp=>by
   obtain⟨e1,e2⟩:=QfB hp;rw[g8 p e1]
   exact hG _ _ e2) g6 (h3.stay λp hp=>by
    have hne:p≠k:=λe=>by subst e;exact h2 hp
    exact Qae hne)
  exact⟨A::Bs,Rs2,by simp only[Qg,g1,h4],g4.perm.trans ((g7.trans h5).cons _)⟩
 | [],_::_,_,_,_,_,_,h=>h.elim
 | _::_,[],_,_,_,_,_,h=>h.elim
theorem Qf2{ρ:Rho}{R:List Nat}{B:List (Nat×HX)}{H:Hp}{As:List HA}(hH:HM ρ H As)(hB:QT H R B):∃Bs Rs,Qg (ha ρ) B=some Bs/\As.Perm (Bs++ρ.ex++Rs):=by
 obtain⟨G,Bs0,h1,h2,rfl⟩:=hH;obtain⟨Bs,Rs,h3,h4⟩:=QdJ h1 h2 hB;refine⟨Bs,Rs,h3,(h4.append_right _).trans ?_⟩;simp[List.append_assoc,List.perm_append_comm.append_left]
noncomputable def QbT:List (Nat×HX)->Hp
 | []=>.lf
 | (m,r)::B=>XP (QbT B) m r
theorem Qda:∀{B:List (Nat×HX)}{m:Nat}{r:HX},XC (QbT B) m=some r->QaG B m=some r
 | [],m,r,h=>by
  have h':XO (pth m) m (.lf:Hp)=some r:=h;rw[X0]at h';cases h'
 | (k,x)::B,m,r,h=>by
  simp only[QaG];rcases QcB h with⟨rfl,rfl⟩|⟨h1,h2⟩
  ·simp[Nat.beq_refl]
  ·have hq:Nat.beq k m=false:=by cases hz:Nat.beq k m<;>simp_all
   rw[hq];exact Qda h2
theorem QhW{ρ:Rho}{B:List (Nat×HX)}{Bs:List HA}(h:Qg (ha ρ) B=some Bs):HM ρ (QbT B) (Bs++ρ.ex):=⟨B,Bs,λ_ _=>Qda,h,rfl⟩
theorem QdT{H:Hp}:∀{R:List Nat}{B:List (Nat×HX)},QT H R B->∀m∈R,XC (QbT B) m=XC H m
 | m::R,(k,r)::B,h,p,hp=>by
  obtain⟨rfl,h1,h2,h3⟩:=h;show XC (XP (QbT B) k r) p=XC H p
  by_cases hpk:p=k
  ·subst hpk;rw[h1];exact Yh _ _ _ _
  ·rcases List.mem_cons.1 hp with e|hp
   ·grind
   ·rw[Qb1 hpk];exact QdT h3 p hp
 | [],_,_,p,hp=>by cases hp
 | _::_,[],h,_,_=>h.elim
section
variable{X:Ctx}{ops:Array Oper}{k:List KI}{L:Qa}{C B B':World->Prop}{F F':List Nat}{fuel:Nat}{listed:Array Bool}{P:Program}{w0:World}{CF:CallF}
theorem Qk6(hB:∀w,B' w->B w)(h:D X ops F B' fuel listed k L C):D X ops F B fuel listed k L C:=λhcl a ha=>QeV hB (h hcl a ha)
theorem QhJ(hf:∃f∈F,listed.getD f false=true)(h:D X ops F' B' fuel listed k L C):D X ops F B fuel listed k L C:=λhcl a ha=>QeI hf (h hcl a ha)
theorem QnE{As:List HA}{B:World->Prop}{d i ty j:Nat}{op:Op}{pos:String}{aft:Array Edge}{want:Bool}{u:Value}(dj:Nat)(hi:ops[i]?=some ⟨some d,op,ty,pos,aft,some (j,want)⟩)(hj:(ops[j]?).bind (·.dst)=some dj)(hb:Qa.get L dj=some u)(hw:u=.bool (!want)\/u=undef)(hr:(Region.ready .any ops listed==[i])=true)(hB:∀w,HS w0 [] As w->B w)(hd:Nat.blt d X.n=true)
  (next:D X ops F B fuel (listed.setIfInBounds i true) k ((d,undef)::L) (HS w0 [] As)):D X ops F B (fuel+1) listed k L (HS w0 [] As):=by
 intro hcl a ha;have hr':Region.ready .any ops listed=[i]:=by simpa using hr
 refine Qcs hr' (λ_=>⟨hB,HS.stab _ _ _⟩) ?_
 have hy:yielded ops a.tmps j=(match u with| .bool b=>some b|_=>none):=by
  rcases hw with rfl|rfl<;>simp[yielded,hj,ha.slot _ _ hb,undef]
 unfold XI;simp only[hi];rw[if_neg (by rcases hw with rfl|rfl<;>simp[Region.wanted,hy,undef])];exact next (hcl.set (by rw[hr'];exact List.mem_singleton.2 rfl)) _ (ha.put d _ hd)
end
section
variable{P:Program}{r0:Rho}{w0:World}{CF:CallF}{X:Ctx}{k:List KI}{ops:Array Oper}
abbrev Got(ρ:Rho)(v:Value)(H':Hp)(n':Nat):Type:={x:Rho×List HA×Value // ρ.le x.1/\Qq x.1 n'/\den x.1 v=some x.2.2/\HM x.1 H' x.2.1}
theorem OpT.got{o:Oper}{L':Qa}{C:World->Prop}{ρ:Rho}{v:Value}{H':Hp}{n':Nat}(h:OpT P o L' C (Out w0 ρ v H' n')):OpH P o L' C (G:=Got ρ v H' n') (λx=>x.1.2.2) (λ_=>True) (λx=>HS w0 [] x.1.2.1):=by
 obtain⟨G,V,Fg,C',h1,h2⟩:=h;intro ag w hag hw;refine(h1 ag w hag hw).mono λu w'⟨g,e1,e2,e3⟩=>?_;obtain⟨ρ',As',g1,g2,g3,g4,g5⟩:=h2 g e2;exact⟨⟨(ρ',As',V g),g1,g2,g3,g4⟩,e1,trivial,g5 _ e3⟩
theorem ZC{ρ ρ':Rho}{H:Hp}{R:List Nat}{B:List (Nat×HX)}{As Bs:List HA}(hle:ρ.le ρ')(hH:HM ρ' H As)(hR:Qg (ha ρ) B=some Bs)(hB:QT H R B):∀w,HS w0 [] As w->HS w0 [] (Bs++ρ.ex) w:=by
 obtain⟨Bs',Rs,h1,h2⟩:=Qf2 hH hB;have h3:=QS (λ_ _=>Qcm hle _ _) hR;rw[h1]at h3;injection h3 with h3
 subst h3;rw[<-hle.2];exactλw hw=>(hw.perm h2).sub (List.sublist_append_left ..)
theorem QdV{listed:Array Bool}{i:Nat}(h:(Region.ready .any ops listed==[i])=true):(listed.setIfInBounds i true).getD i false=true:=by
 have h1:i∈Region.ready .any ops listed:=by grind
 have h2:=(mem_ready.1 h1).1;have h3:i<listed.size:=by grind
 simp_all
theorem Qg5{F:List Nat}{i:Nat}(h:onF F i=true):F.contains i=false:=by
 cases hc:F.contains i with
 | false=>rfl
 | true=>
  have h1:=List.all_eq_true.1 h i (by simpa using hc)
  simp_all
theorem Qh3{ops:Array Oper}{F:List Nat}{i:Nat}{ps:List (List Nat)}(h:Xk ops F i ps=true):F.contains i=false:=by grind[Zc]
theorem Z9{m:Nat}:∀{R:List Nat},memN m R=true ↔ m∈R
 | []=>⟨(λh=>by cases h),(λh=>by cases h)⟩
 | a::R=>by
  have hu:memN m (a::R)=(Bool.rec (memN m R) true (Nat.beq a m):Bool):=rfl;rw[hu];cases hb:Nat.beq a m with
  | true=>exact⟨(λ_=>by rw[Nat.eq_of_beq_eq_true hb];exact List.mem_cons_self ..),λ_=>rfl⟩
  | false=>
   have hne:m≠a:=λe=>by subst e;rw[Nat.beq_refl]at hb;cases hb
   simp_all[Z9]
theorem Z7{b:Bool}{r:Rs}{ρ:Rho}{X:Ctx}{k:List KI}(h:QG r0 w0 ρ X k (yes b r)):b=true/\QG r0 w0 ρ X k r:=by
 cases b with
 | true=>exact⟨rfl,h⟩
 | false=>exact h.elim
theorem Qi8{H:Hp}{R:List Nat}{B:List (Nat×HX)}(hB:QT H R B)(m:Option Nat)(hm:∀k,m=some k->∃r,XC H k=some r):∃B2,QT H (Qip m R) B2/\(∀k,m=some k->k∈Qip m R)/\(B2=B\/∃p,B2=p::B):=by
 cases m with
 | none=>exact⟨B,hB,(λk h=>by cases h),.inl rfl⟩
 | some m=>
  obtain⟨r,hr⟩:=hm m rfl;have hu:Qip (some m) R=(Bool.rec (m::R) R (memN m R):List Nat):=rfl;cases hb:memN m R with
  | true=>
   rw[hb]at hu
   grind[Qip,Z9]
  | false=>
   rw[hb]at hu;have hu:Qip (some m) R=m::R:=hu;rw[hu];exact⟨(m,r)::B,⟨rfl,hr,(λh=>by rw[Z9.2 h]at hb;cases hb),hB⟩,(λk h=>by injection h with h;subst h;exact List.mem_cons_self ..),.inr ⟨_,rfl⟩⟩
theorem QlI{ρ:Rho}{B B2:List (Nat×HX)}{Bs Bs2:List HA}(hR:Qg (ha ρ) B=some Bs)(h:Qg (ha ρ) B2=some Bs2)(hc:B2=B\/∃p,B2=p::B):∀w,HS w0 [] (Bs2++ρ.ex) w->HS w0 [] (Bs++ρ.ex) w:=by
 rcases hc with rfl|⟨p,rfl⟩
 ·grind
 ·simp only[Qg,hR]at h;split at h
  ·rename_i b m h1 h2;injection h2 with h2
   injection h with h
   subst h h2;exactλw hw=>hw.tail
  ·cases h
theorem YG{ρ:Rho}{H:Hp}{n:Nat}{As:List HA}{R:List Nat}{B:List (Nat×HX)}{x:HX}(hH:HM ρ H As)(hf:Qq ρ n)(hB:QT H R B):QT (XP H n x) R B:=by
 refine hB.stay λm hm=>Qb1 λe=>?_;subst e;obtain⟨r,hr⟩:=hB.has m hm;obtain⟨A,Rs,g1,_⟩:=QmJ hH hr;obtain⟨x,hx⟩:=QiZ g1;rw[hf m (Nat.le_refl _)]at hx;cases hx
def Qg7(P:Program)(r0:Rho)(w0:World)(CF:CallF)(X:Ctx)(k:List KI)(ops:Array Oper)(rest:DS)(F:List Nat)(fuel:Nat)(listed:Array Bool):Prop:=
 ∀(T:Tr Value)(H:Hp)(n:Nat)(R:List Nat)(B:List (Nat×HX))(ρ:Rho)(L':Qa)(As Bs:List HA),QG r0 w0 ρ X k (rest.run CF T H n R)->StOk r0 w0 ρ ⟨T,H,n⟩ L' As->Qg (ha ρ) B=some Bs->QT H R B->D X ops F (HS w0 [] (Bs++ρ.ex)) fuel listed k L' (HS w0 [] As)
theorem Qjj(hF:CallOk P r0 CF)(hP:X.P=P){i:Nat}{dst:Option Nat}{op:Op}{ty:TypeId}{pos:String}{aft:Array Edge}{guard:Option (Nat×Bool)}{rest:DS}{Fs:List (List Nat)}{F:List Nat}{listed:Array Bool}{fuel:Nat}{s:Stp}
  (hsP:s.okP=true->(Qr ops listed i&&onF F i)=true)(hsQ:s.okQ=true->(Qr ops listed i&&(Xk ops F i (Qhp ops.size)&&YX F listed))=true)(hsH:s.okH=true->(Region.ready .any ops listed==[i])=true)(hsT:s.turn.isSome=F.contains i)
  (ih:Qg7 P r0 w0 CF X k ops rest (if F.contains i then Fs.headD []else F) fuel (listed.setIfInBounds i true))
  (ho:ops[i]?=some ⟨dst,op,ty,pos,aft,guard⟩){T:Tr Value}{H:Hp}{n:Nat}{R:List Nat}{B:List (Nat×HX)}{ρ:Rho}{L':Qa}{As Bs:List HA}
  (ht:QG r0 w0 ρ X k ((dOn P X.n s ⟨dst,op,ty,pos,aft,guard⟩ rest).run CF T H n R))(hs:StOk r0 w0 ρ ⟨T,H,n⟩ L' As)(hR:Qg (ha ρ) B=some Bs)(hB:QT H R B)
  (hon:guard=none\/∃j want dj b,guard=some (j,want)/\(ops[j]?).bind (·.dst)=some dj/\Qa.get L' dj=some (.bool b)/\b=want):D X ops F (HS w0 [] (Bs++ρ.ex)) (fuel+1) listed k L' (HS w0 [] As):=by
 have hc:=Qaz P op CF hF.fok T H n
 have mk:∀(v:Value)(H':Hp)(n':Nat),QR P (en T) H n CF op=some (.h v H' n')->s.okH=true->(guard.isNone||dst.isSome)=true ->
   ((F.contains i=true/\∀T2,(∀d,dst=some d->Nat.blt d X.n=true/\T2=Xu (pth d) d v T)->(dst=none->T2=T)->QG r0 w0 ρ X k (rest.run CF T2 H' n' []))\/(F.contains i=false/\QT H' R B/\∀T2,(∀d,dst=some d->Nat.blt d X.n=true/\T2=Xu (pth d) d v T)->(dst=none->T2=T)->QG r0 w0 ρ X k (rest.run CF T2 H' n' R))) ->
   (∀d,dst=some d->Nat.blt d X.n=true)->D X ops F (HS w0 [] (Bs++ρ.ex)) (fuel+1) listed k L' (HS w0 [] As):=by
  intro v H' n' h1 h2 hgd hcase hdn;replace h2:=hsH h2;have ha:=YF (w0:=w0) (L':=L') (o:=⟨dst,op,ty,pos,aft,none⟩) hF hs.le rfl hs.sr hs.hp hs.fr h1;have hH:=OpT.got ha;rw[<-hP]at hH;have hbase:=ZC (w0:=w0) ρ.le_refl hs.hp hR hB
  have next:∀(T2:Tr Value)(x:Got ρ v H' n')(L3:Qa),SR x.1.1 (en T2) L3->(∀d,dst=some d->Nat.blt d X.n=true/\T2=Xu (pth d) d v T)->(dst=none->T2=T)->D X ops F (HS w0 [] (Bs++ρ.ex)) fuel (listed.setIfInBounds i true) k L3 (HS w0 [] x.1.2.1):=by
   intro T2 x L3 hsr e1 e2;obtain⟨⟨ρ',As',u⟩,g1,g2,g3,g4⟩:=x;rcases hcase with⟨hfi,h⟩|⟨hfi,hst,h⟩
   ·simp only[hfi,if_true]at ih;refine QhJ (B':=HS w0 [] ([]++ρ'.ex)) (F':=Fs.headD []) ⟨i,by simpa using hfi,QdV h2⟩ ?_;exact ih T2 H' n' [] [] ρ' L3 As' [] ((h T2 e1 e2).mono g1) ⟨Rho.le_trans hs.le g1,hsr,g4,g2⟩ rfl trivial
   ·simp only[hfi,Bool.false_eq_true,if_false]at ih;rw[<-g1.2];exact ih T2 H' n' R B ρ' L3 As' Bs ((h T2 e1 e2).mono g1) ⟨Rho.le_trans hs.le g1,hsr,g4,g2⟩ (QS (λ_ _=>Qcm g1 _ _) hR) hst
  cases dst with
  | some d=>
   have hlt:=hdn d rfl;have hn:=λ(x:Got ρ v H' n')(_:True)=>next (Xu (pth d) d v T) x ((d,x.1.2.2)::L') ((hs.sr.mono x.2.1).set x.2.2.2.1) (λd' e=>by injection e with e;subst e;exact⟨hlt,rfl⟩) (λe=>by cases e)
   rcases hon with hn'|⟨j,want,dj,b,hn',hj,hb,hw⟩
   ·subst hn';exact d_h i ho hH h2 hbase hlt hn
   ·subst hn';exact Qmg i dj ho hj hb hw hH h2 hbase hlt hn
  | none=>
   have hn:=λ(x:Got ρ v H' n')(_:True)=>next T x L' (hs.sr.mono x.2.1) (λd' e=>by cases e) (λ_=>rfl)
   cases guard with
   | none=>exact Qlp i ho hH h2 hbase hn
   | some jw=>cases hgd
 have turnT:∀y,s.turn=some y->F.contains i=true:=λy hy=>by
  cases hfi:F.contains i with
  | true=>rfl
  | false=>rw[hy,hfi]at hsT;cases hsT
 have turnF:s.turn=none->F.contains i=false:=λhy=>by
  cases hfi:F.contains i with
  | false=>rfl
  | true=>rw[hy,hfi]at hsT;cases hsT
 cases dst with
 | some d=>
  simp only[dOn]at ht;cases hb:Nat.blt d X.n with
  | false=>rw[hb]at ht;exact ht.elim
  | true=>
   rw[hb]at ht;simp only[cond_true]at ht;cases hr:(YP P op).run CF T H n with
   | no=>rw[hr]at ht;exact ht.elim
   | p v=>
    rw[hr]at hc ht;obtain⟨hok,ht⟩:=Z7 ht;replace hok:=hsP hok;rw[Bool.and_eq_true]at hok;obtain⟨u,e1,e2⟩:=YF (w0:=w0) (L':=L') (o:=⟨some d,op,ty,pos,aft,none⟩) hF hs.le rfl hs.sr hs.hp hs.fr hc;rw[<-hP]at e1;have hfi:=Qg5 hok.2;simp only[hfi,Bool.false_eq_true,if_false]at ih;have next:D X ops F (HS w0 [] (Bs++ρ.ex)) fuel (listed.setIfInBounds i true) k ((d,u)::L') (HS w0 [] As):=ih _ H n R B ρ _ As Bs ht ⟨hs.le,hs.sr.set e2,hs.hp,hs.fr⟩ hR hB
    rcases hon with hn|⟨j,want,dj,b,hn,hj,hb',hw⟩
    ·subst hn;exact d_p i ho e1 hok.1 hok.2 hb next
    ·subst hn;exact QjC i dj ho hj hb' hw e1 hok.1 hok.2 hb next
   | q m v=>
    rw[hr]at hc ht;simp only[]at ht;split at ht
    ·rename_i hokH hturn;have hok:=hsH hokH;have hfi:=turnF hturn;simp only[hfi,Bool.false_eq_true,if_false]at ih;obtain⟨u,e1,e2⟩:=YF (w0:=w0) (L':=L') (o:=⟨some d,op,ty,pos,aft,none⟩) hF hs.le rfl hs.sr hs.hp hs.fr (hc.1 H λ_ _=>rfl);rw[<-hP]at e1;have next:D X ops F (HS w0 [] (Bs++ρ.ex)) fuel (listed.setIfInBounds i true) k ((d,u)::L') (HS w0 [] As):=ih _ H n R B ρ _ As Bs ht ⟨hs.le,hs.sr.set e2,hs.hp,hs.fr⟩ hR hB
     have hbase:=ZC (w0:=w0) ρ.le_refl hs.hp hR hB;rcases hon with hn|⟨j,want,dj,b,hn,hj,hb',hw⟩
     ·subst hn;exact d_h i ho (e1.h (HS.stab _ _ _)) hok hbase hb λ_ _=>next
     ·subst hn;exact Qmg i dj ho hj hb' hw (e1.h (HS.stab _ _ _)) hok hbase hb λ_ _=>next
    obtain⟨hok,ht⟩:=Z7 ht;replace hok:=hsQ hok;simp only[Bool.and_eq_true]at hok;obtain⟨B2,b1,b2,b3⟩:=Qi8 hB m hc.2;obtain⟨Bs2,Rs,g1,g2⟩:=Qf2 hs.hp b1;have hev:=hc.1 (QbT B2) λk hk=>QdT b1 k (b2 k hk);obtain⟨u,e1,e2⟩:=YF (w0:=w0) (L':=L') (o:=⟨some d,op,ty,pos,aft,none⟩) hF hs.le rfl hs.sr (QhW g1) hs.fr hev;rw[<-hP]at e1;have hfi:=Qh3 hok.2.1;simp only[hfi,Bool.false_eq_true,if_false]at ih;have next:D X ops F (HS w0 [] (Bs2++ρ.ex)) fuel (listed.setIfInBounds i true) k ((d,u)::L') (HS w0 [] As):=ih _ H n _ B2 ρ _ As Bs2 ht ⟨hs.le,hs.sr.set e2,hs.hp,hs.fr⟩ g1 b1
    refine Qk6 (QlI hR g1 b3) ?_;rcases hon with hn|⟨j,want,dj,b,hn,hj,hb',hw⟩
    ·subst hn;exact d_q i _ ho e1 hok.1 hok.2.1 hok.2.2 hb next
    ·subst hn;exact Qmz i dj _ ho hj hb' hw e1 hok.1 hok.2.1 hok.2.2 hb next
   | new v x=>
    rw[hr]at hc ht;obtain⟨hok,ht⟩:=Z7 ht;refine mk v (XP H n x) (n+1) hc hok (by simp) ?_ (λd' e=>by injection e with e;subst e;exact hb);split at ht
    ·rename_i y hy;exact .inl ⟨turnT y hy,λT2 e1 _=>by rw[(e1 d rfl).2];exact ht⟩
    ·rename_i hy;exact .inr ⟨turnF hy,YG hs.hp hs.fr hB,λT2 e1 _=>by rw[(e1 d rfl).2];exact ht⟩
   | h v H' n'=>
    rw[hr]at hc ht;obtain⟨hok,ht⟩:=Z7 ht;refine mk v H' n' hc hok (by simp) ?_ (λd' e=>by injection e with e;subst e;exact hb);split at ht
    ·rename_i y hy;exact .inl ⟨turnT y hy,λT2 e1 _=>by rw[(e1 d rfl).2];exact ht⟩
    ·rename_i hy;obtain⟨hk,ht⟩:=Z7 ht;exact .inr ⟨turnF hy,hB.stay (Z3 hk),λT2 e1 _=>by rw[(e1 d rfl).2];exact ht⟩
 | none=>
  simp only[dOn]at ht;cases hg:guard.isNone with
  | false=>rw[hg]at ht;exact ht.elim
  | true=>
   rw[hg]at ht;simp only[cond_true]at ht;cases hr:(YP P op).run CF T H n with
   | no=>rw[hr]at ht;exact ht.elim
   | p v=>rw[hr]at ht;exact ht.elim
   | q m v=>rw[hr]at ht;exact ht.elim
   | new v x=>
    rw[hr]at hc ht;obtain⟨hok,ht⟩:=Z7 ht;refine mk v (XP H n x) (n+1) hc hok (by simp[hg]) ?_ (λd' e=>by cases e);split at ht
    ·rename_i y hy;exact .inl ⟨turnT y hy,λT2 _ e2=>by rw[e2 rfl];exact ht⟩
    ·rename_i hy;exact .inr ⟨turnF hy,YG hs.hp hs.fr hB,λT2 _ e2=>by rw[e2 rfl];exact ht⟩
   | h v H' n'=>
    rw[hr]at hc ht;obtain⟨hok,ht⟩:=Z7 ht;refine mk v H' n' hc hok (by simp[hg]) ?_ (λd' e=>by cases e);split at ht
    ·rename_i y hy;exact .inl ⟨turnT y hy,λT2 _ e2=>by rw[e2 rfl];exact ht⟩
    ·rename_i hy;obtain⟨hk,ht⟩:=Z7 ht;exact .inr ⟨turnF hy,hB.stay (Z3 hk),λT2 _ e2=>by rw[e2 rfl];exact ht⟩
end
end Ev
namespace Ev
open Go Go.RowKit
noncomputable def has(M i:Nat):Bool:=Bool.not (Nat.beq (Nat.land M (Nat.pow 2 i)) 0)
theorem Ze(M i:Nat):has M i=M.testBit i:=by
 unfold has;cases h:M.testBit i with
 | true=>
  cases hb:Nat.beq (Nat.land M (Nat.pow 2 i)) 0 with
  | false=>rfl
  | true=>
   have h0:M &&& 2^i=0:=Nat.eq_of_beq_eq_true hb;have:=congrArg (λx=>x.testBit i) h0
   grind
 | false=>
  have h0:M &&& 2^i=0:=by
   apply Nat.eq_of_testBit_eq
   grind
  simp_all
noncomputable def Yg(a M:Nat):Bool:=Nat.beq (Nat.land a M) a
theorem QcT{a M:Nat}(h:Yg a M=true){j:Nat}(hj:a.testBit j=true):M.testBit j=true:=by
 have h0:a &&& M=a:=Nat.eq_of_beq_eq_true h
 grind
theorem Qfy{a M:Nat}(h:Yg a M=false):∃j,a.testBit j=true/\M.testBit j=false:=by
 refine Classical.byContradiction λhn=>?_
 have h0:a &&& M=a:=by
  apply Nat.eq_of_testBit_eq
  grind
 simp_all[Yg]
noncomputable def Q1(M i:Nat):Nat:=Nat.lor M (Nat.pow 2 i)
theorem YK(M i j:Nat):(Q1 M i).testBit j=(M.testBit j||decide (i=j)):=by
 show(M ||| 2^i).testBit j=_
 grind
noncomputable def QdU(l:List Edge):Nat:=List.rec 0 (λe _ ih=>Bool.rec ih (Q1 ih e.on) (Region.binds .any e)) l
theorem Qd6(y:Nat):∀l:List Edge,(QdU l).testBit y=l.any λe=>Region.binds .any e&&Nat.beq e.on y
 | []=>by show(0:Nat).testBit y=_;simp
 | e::l=>by
  have hu:QdU (e::l)=(Bool.rec (QdU l) (Q1 (QdU l) e.on) (Region.binds .any e):Nat):=rfl;rw[hu,List.any_cons,<-Qd6 y l];cases Region.binds .any e with
  | false=>rfl
  | true=>
   show(Q1 (QdU l) e.on).testBit y=_;rw[YK];have:decide (e.on=y)=Nat.beq e.on y:=by rw[Bool.eq_iff_iff,decide_eq_true_eq,Nat.beq_eq]
   grind
def Yy:Operand->List Nat->List Nat
 | .tmp t,l=>t::l
 | _,l=>l
def Qb0:List Operand->List Nat
 | []=>[]
 | x::l=>Yy x (Qb0 l)
def QfJ:List (Nat×Operand)->List Nat
 | []=>[]
 | (_,x)::l=>Yy x (QfJ l)
def QfC:Option Operand->List Nat->List Nat
 | some x,l=>Yy x l
 | none,l=>l
def opT:Op->Option (List Nat)
 | .alloc _| .makeMap _ none=>some []
 | .move x| .assign x| .box _ x| .load _ x| .nilCheck x| .unOp _ _ x| .convert _ _ x| .fieldAddr _ x _| .field _ x _| .extract x _=>some (Yy x [])
 | .pick c a b=>some (Yy c (Yy a (Yy b [])))
 | .build _ ⟨ps⟩| .buildSlice _ _ ⟨ps⟩=>some (QfJ ps)
 | .store _ a v| .binOp _ _ a v _| .makeSlice _ a v| .indexAddr _ a v| .index _ a v| .lookup _ a v _=>some (Yy a (Yy v []))
 | .mapUpdate _ a b c=>some (Yy a (Yy b (Yy c [])))
 | .makeFunc _ ⟨f⟩ ⟨c⟩=>some (Qb0 f++Qb0 c)
 | .slice _ x l h m=>some (Yy x (QfC l (QfC h (QfC m []))))
 | .call ⟨.value f,⟨args⟩,_⟩=>some (Yy f (Qb0 args))
 | .call ⟨.builtin _,⟨args⟩,_⟩=>some (Qb0 args)
 | _=>none
theorem Qaq{x:Operand}{l:List Nat}{t:Nat}:t∈Yy x l ↔ x=.tmp t\/t∈l:=by
 cases x<;>simp[Yy,eq_comm]
theorem Qd0{t:Nat}:∀{l:List Operand},t∈Qb0 l ↔ Operand.tmp t∈l
 | []=>by simp[Qb0]
 | x::l=>by simp only[Qb0,Qaq,Qd0,List.mem_cons];simp[eq_comm]
theorem QdW{t:Nat}:∀{l:List (Nat×Operand)},t∈QfJ l ↔ Operand.tmp t∈l.map (·.2)
 | []=>by simp[QfJ]
 | (i,x)::l=>by simp only[QfJ,Qaq,QdW,List.map_cons,List.mem_cons];simp[eq_comm]
theorem Qic{t:Nat}{o:Option Operand}{l:List Nat}:t∈QfC o l ↔ o=some (.tmp t)\/t∈l:=by
 cases o<;>simp[QfC,Qaq]
theorem Qk9{op:Op}{l:List Nat}(h:opT op=some l){t:Nat}(ht:Operand.tmp t∈op.operands):t∈l:=by
  unfold opT at h
  split at h<;>first
    | (cases h;done)
    | (injection h with h;subst h
       simp only[Op.operands,Call.operands,Array.mem_append,List.mem_toArray,Option.mem_toArray,List.mem_map,Qaq,Qd0,QdW,Qic,List.mem_append,List.mem_cons,List.mem_nil_iff,or_false,Option.mem_def,List.mem_singleton,List.not_mem_nil,false_or]at ht ⊢
       all_goals (first|exact ht|grind))
def gdT(ops:List Oper):Option (Nat×Bool)->List Nat
 | none=>[]
 | some (g,_)=>match ops[g]? with
  | some o=>(match o.dst with
   | some d=>[d]
   | none=>[])
  | none=>[]
structure Inf where
 em:Nat
 dst:Option Nat
 lk:List Nat
noncomputable def Yr(ops:List Oper)(o:Oper):Option Inf:=match opT o.op,o.after with
 | some l,⟨es⟩=>some ⟨QdU es,o.dst,gdT ops o.guard++l⟩
 | none,_=>none
theorem ZG{ops:List Oper}{o:Oper}{f:Inf}(h:Yr ops o=some f)(y:Nat):f.em.testBit y=o.after.any λe=>Region.binds .any e&&Nat.beq e.on y:=by
 unfold Yr at h;split at h
 ·rename_i l es h1 h2
  grind[Qd6]
 ·cases h
theorem QbY{ops:List Oper}{o:Oper}{f:Inf}(h:Yr ops o=some f){t:Nat}(ht:t∈o.looksAt ⟨ops⟩):t∈f.lk:=by
 unfold Yr at h;split at h
 ·rename_i l es h1 h2;injection h with h
  subst h;simp only[List.mem_append];unfold Oper.looksAt at ht
  grind[Qk9,gdT]
 ·cases h
theorem QdG{ops:List Oper}{o:Oper}{f:Inf}(h:Yr ops o=some f):f.dst=o.dst:=by grind[Yr]
theorem QiA{ops:List Oper}{o:Oper}{f:Inf}(h:Yr ops o=some f)(cs:Array SelectCase)(b:Bool):o.op≠ .select cs b:=by
 intro e;unfold Yr at h;rw[e]at h;cases h
noncomputable def eqON(a:Nat)(b:Option Nat):Bool:=Option.rec false (λb=>Nat.beq a b) b
noncomputable def apF(x y:Inf):Bool:=Bool.rec false (match y.dst with
  | some e=>Bool.not (memN e x.lk)
  | none=>true) (match x.dst with
 | some d=>Bool.rec (Bool.not (eqON d y.dst)) false (memN d y.lk)
 | none=>true)
theorem QmP{ops:List Oper}{x y:Oper}{fx fy:Inf}(hx:Yr ops x=some fx)(hy:Yr ops y=some fy)(h:apF fx fy=true):x.apart ⟨ops⟩ y=true:=by
 unfold apF at h;rw[QdG hx,QdG hy]at h;unfold Oper.apart
 have ny:∀d,memN d fy.lk=false->d ∉ y.looksAt ⟨ops⟩:=λd hd hc=>by
  have:=Z9.2 (QbY hy hc);rw[hd]at this;cases this
 have nx:∀d,memN d fx.lk=false->d ∉ x.looksAt ⟨ops⟩:=λd hd hc=>by
  have:=Z9.2 (QbY hx hc);rw[hd]at this;cases this
 have h2:∀e,y.dst=some e->memN e fx.lk=false:=by
  intro e he;rw[he]at h;cases hm:memN e fx.lk with
  | false=>rfl
  | true=>
   simp only[hm,Bool.not_true]at h;have hz:∀b:Bool,(Bool.rec false false b:Bool)=true->False:=λb hb=>by cases b<;>cases hb
   grind
 have h1:∀d,x.dst=some d->memN d fy.lk=false/\y.dst≠some d:=by
  intro d hd;rw[hd]at h;simp only[]at h;cases hm:memN d fy.lk with
  | true=>rw[hm]at h;cases h
  | false=>
   rw[hm]at h;refine⟨rfl,λe=>?_⟩
   simp_all[eqON]
 grind
noncomputable def Qb6(i:Nat)(f:Inf)(l:List (Nat×Inf)):Nat:=List.rec 0 (λp _ ih=>Bool.rec (Bool.rec (Bool.rec (Q1 ih p.1) ih (apF f p.2)) ih (has p.2.em i)) ih (Nat.beq p.1 i)) l
theorem Qe1{i:Nat}{f:Inf}:∀{l:List (Nat×Inf)}{p:Nat×Inf},p∈l->p.1≠i->p.2.em.testBit i=false->apF f p.2=false->(Qb6 i f l).testBit p.1=true
 | q::l,p,hp,h1,h2,h3=>by
  have hu:Qb6 i f (q::l)=(Bool.rec (Bool.rec (Bool.rec (Q1 (Qb6 i f l) q.1) (Qb6 i f l) (apF f q.2)) (Qb6 i f l) (has q.2.em i)) (Qb6 i f l) (Nat.beq q.1 i):Nat):=rfl;rw[hu];rcases List.mem_cons.1 hp with rfl|hp
  ·have hb:Nat.beq p.1 i=false:=by cases hb:Nat.beq p.1 i<;>simp_all
   simp_all[Ze,Q1,YK]
  ·have ih:=Qe1 (f:=f) hp h1 h2 h3;cases Nat.beq q.1 i with
   | true=>exact ih
   | false=>
    cases has q.2.em i with
    | true=>exact ih
    | false=>cases apF f q.2<;>grind[apF,Q1,YK]
 | [],p,hp,_,_,_=>by cases hp
noncomputable def ZI(ops:List Oper):Nat->List Oper->Option (List (Nat×Inf))
 | _,[]=>some []
 | i,o::l=>match Yr ops o,ZI ops (i+1) l with
  | some f,some fs=>some ((i,f)::fs)
  | _,_=>none
theorem Z8{ops:List Oper}:∀{l:List Oper}{k:Nat}{fs:List (Nat×Inf)},ZI ops k l=some fs->∀j o,l[j]?=some o->∃f,Yr ops o=some f/\(k+j,f)∈fs
 | [],k,fs,h,j,o,hj=>by simp at hj
 | o'::l,k,fs,h,j,o,hj=>by
  simp only[ZI]at h;split at h
  ·rename_i f fs' h1 h2;injection h with h
   subst h;cases j with
   | zero=>grind
   | succ j=>
    obtain⟨f',h3,h4⟩:=Z8 h2 j o (by simpa using hj)
    grind
  ·cases h
theorem QeA{ops:List Oper}:∀{l:List Oper}{k:Nat}{fs:List (Nat×Inf)},ZI ops k l=some fs->∀p∈fs,∃j o,p.1=k+j/\l[j]?=some o/\Yr ops o=some p.2
 | [],k,fs,h,p,hp=>by cases h;cases hp
 | o'::l,k,fs,h,p,hp=>by
  simp only[ZI]at h;split at h
  ·rename_i f fs' h1 h2;injection h with h
   subst h;rcases List.mem_cons.1 hp with rfl|hp
   ·grind
   ·obtain⟨j,o,e1,e2,e3⟩:=QeA h2 p hp;exact⟨j+1,o,om,by simpa using e2,e3⟩
  ·cases h
def Lm(n:Nat)(listed:Array Bool)(M:Nat):Prop:=listed.size=n/\(∀j,j<n->listed.getD j false=M.testBit j)/\∀j,M.testBit j=true->j<n
theorem Lm.get{n:Nat}{listed:Array Bool}{M j:Nat}(h:Lm n listed M)(hj:j<n)(b:Bool):listed.getD j b=M.testBit j:=by
 rw[<-h.2.1 j hj];have hl:j<listed.size:=by rw[h.1];exact hj
 grind
theorem Lm.set{n:Nat}{listed:Array Bool}{M i:Nat}(h:Lm n listed M)(hi:i<n):Lm n (listed.setIfInBounds i true) (Q1 M i):=by
 refine⟨by simp[h.1],λj hj=>?_,λj hj=>by
  rw[YK]at hj
  by_cases e:i=j
  ·omega
  ·exact h.2.2 j (by simpa[e]using hj)⟩
 have hl:i<listed.size:=by rw[h.1];exact hi
 have hl':j<listed.size:=by rw[h.1];exact hj
 rw[YK]
 by_cases e:i=j
 ·simp_all
 ·have:=h.2.1 j hj
  simp_all
theorem Lm.start(n:Nat):Lm n (Array.replicate n false) 0:=⟨by simp,(λj hj=>by simp[Array.getD_eq_getD_getElem?,hj]),λj hj=>by simp at hj⟩
section
variable{ops:List Oper}{fs:List (Nat×Inf)}
structure Row where
 i:Nat
 em:Nat
 need:Nat
noncomputable def Qe(fs:List (Nat×Inf)):List (Nat×Inf)->List Row:=List.rec [] λp _ ih=>⟨p.1,p.2.em,Nat.lor p.2.em (Qb6 p.1 p.2 fs)⟩::ih
theorem Qc0:∀{l:List (Nat×Inf)}{r:Row},r∈Qe fs l->∃p∈l,r=⟨p.1,p.2.em,Nat.lor p.2.em (Qb6 p.1 p.2 fs)⟩
 | p::l,r,h=>by
  have hu:Qe fs (p::l)=⟨p.1,p.2.em,Nat.lor p.2.em (Qb6 p.1 p.2 fs)⟩::Qe fs l:=rfl;rw[hu]at h;rcases List.mem_cons.1 h with rfl|h
  ·grind
  ·obtain⟨q,h1,h2⟩:=Qc0 h
   grind
 | [],r,h=>by cases h
theorem Qa1:∀{l:List (Nat×Inf)}{p:Nat×Inf},p∈l->(⟨p.1,p.2.em,Nat.lor p.2.em (Qb6 p.1 p.2 fs)⟩:Row)∈Qe fs l
 | q::l,p,h=>by
  have hu:Qe fs (q::l)=⟨q.1,q.2.em,Nat.lor q.2.em (Qb6 q.1 q.2 fs)⟩::Qe fs l:=rfl;rw[hu];rcases List.mem_cons.1 h with rfl|h
  ·grind
  ·exact List.mem_cons_of_mem _ (Qa1 h)
 | [],p,h=>by cases h
theorem Qao(hf:ZI ops 0 ops=some fs){r:Row}(h:r∈Qe fs fs):∃o f,ops[r.i]?=some o/\Yr ops o=some f/\r.em=f.em/\(r.i,f)∈fs/\r.need=Nat.lor f.em (Qb6 r.i f fs):=by grind[Qc0,QeA]
theorem Qbl{listed:Array Bool}{M i:Nat}{o:Oper}{f:Inf}(hl:Lm ops.length listed M)(ho:ops[i]?=some o)(hf:Yr ops o=some f)(hM:M.testBit i=false)(hs:Yg f.em M=true):i∈Region.ready .any ⟨ops⟩ listed:=by
 have hi:i<ops.length:=by grind
 refine mem_ready.2 ⟨by rw[hl.get hi];exact hM,o,by simpa using ho,λe he hb=>?_⟩
 have h1:f.em.testBit e.on=true:=by
  rw[ZG hf];refine Array.any_eq_true'.2 ⟨e,he,?_⟩
  simp_all
 have h2:=QcT hs h1;rw[hl.get (hl.2.2 _ h2)];exact h2
theorem Lm.not{n:Nat}{listed:Array Bool}{M j:Nat}(h:Lm n listed M)(hj:M.testBit j=false):listed.getD j false=false:=by
 by_cases hlt:j<n
 ·rw[h.get hlt];exact hj
 ·have:listed.size<=j:=by rw[h.1];omega
  grind
theorem QcN{listed:Array Bool}{M i:Nat}{o:Oper}{f:Inf}(hl:Lm ops.length listed M)(ho:ops[i]?=some o)(hf:Yr ops o=some f)(hs:Yg f.em M=false):i ∉ Region.ready .any ⟨ops⟩ listed:=by
 intro hr;obtain⟨_,o',ho',hall⟩:=mem_ready.1 hr;have:o'=o:=by grind
 subst this;obtain⟨y,h1,h2⟩:=Qfy hs;rw[ZG hf]at h1;obtain⟨e,he,hb⟩:=Array.any_eq_true'.1 h1;simp only[Bool.and_eq_true]at hb;have hon:=Nat.eq_of_beq_eq_true hb.2;subst hon;have h3:=hall e he hb.1;rw[hl.not h2]at h3;cases h3
noncomputable def QjB(g:Row->Bool)(l:List Row):Bool:=List.rec true (λr _ ih=>Bool.rec false ih (g r)) l
theorem Qcz{g:Row->Bool}:∀{l:List Row},QjB g l=true->∀r∈l,g r=true
 | r::l,h,r',hr=>by
  have hu:QjB g (r::l)=(Bool.rec false (QjB g l) (g r):Bool):=rfl;rw[hu]at h;cases hg:g r with
  | false=>rw[hg]at h;cases h
  | true=>
   rw[hg]at h;rcases List.mem_cons.1 hr with rfl|hr
   ·exact hg
   ·exact Qcz h r' hr
 | [],_,_,hr=>by cases hr
noncomputable def QfR(M i:Nat)(rows:List Row):Bool:=QjB (λr=>Bool.rec (Bool.rec (Bool.not (Yg r.em M)) true (has M r.i)) true (Nat.beq r.i i)) rows
theorem Qiz:∀{l:List Nat}{i:Nat},l.Nodup->i∈l->(∀j∈l,j=i)->l=[i]
 | [],i,_,h,_=>by cases h
 | [a],i,_,h,_=>by rw[List.mem_singleton.1 h]
 | a::b::l,i,hn,_,hall=>by simp_all
theorem Qa4(hf:ZI ops 0 ops=some fs){listed:Array Bool}{M:Nat}{r:Row}(hl:Lm ops.length listed M)(hr:r∈Qe fs fs)(hM:has M r.i=false)(hs:Yg r.em M=true)(ho:QfR M r.i (Qe fs fs)=true):(Region.ready .any ⟨ops⟩ listed==[r.i])=true:=by
 obtain⟨o,f,e1,e2,e3,e4,e5⟩:=Qao hf hr;rw[Ze]at hM;rw[e3]at hs;have hin:=Qbl hl e1 e2 hM hs
 have:Region.ready .any ⟨ops⟩ listed=[r.i]:=by
  refine Qiz (List.Pairwise.filter _ List.nodup_range) hin λj hj=>?_;obtain⟨h1,oj,h2,h3⟩:=mem_ready.1 hj;have h2':ops[j]?=some oj:=by simpa using h2
  obtain⟨fj,g1,g2⟩:=Z8 hf j oj h2';rw[Nat.zero_add]at g2;have g3:=Qcz ho _ (Qa1 (fs:=fs) g2);simp only[]at g3;cases hb:Nat.beq j r.i with
  | true=>exact Nat.eq_of_beq_eq_true hb
  | false=>
   rw[hb]at g3;have hjl:j<ops.length:=by grind
   rw[hl.get hjl]at h1;rw[Ze,h1]at g3
   grind[Yg,QcN]
 grind
theorem QnA(hf:ZI ops 0 ops=some fs):Region.noSelect ⟨ops⟩=true:=by
 unfold Region.noSelect;simp only[List.all_toArray,List.all_eq_true];intro o ho;obtain⟨j,hj⟩:=List.getElem?_of_mem ho
 grind[Z8,QiA]
theorem Qc8(hf:ZI ops 0 ops=some fs){listed:Array Bool}{M:Nat}{r:Row}(hl:Lm ops.length listed M)(hr:r∈Qe fs fs)(hM:has M r.i=false)(hs:Yg r.need M=true):Qr ⟨ops⟩ listed r.i=true:=by
 obtain⟨o,f,e1,e2,e3,e4,e5⟩:=Qao hf hr;rw[Ze]at hM
 have hem:Yg f.em M=true:=by
  cases h:Yg f.em M with
  | true=>rfl
  | false=>
   obtain⟨y,h1,h2⟩:=Qfy h;have h3:r.need.testBit y=true:=by simp_all
   grind[QcT]
 have hin:=Qbl hl e1 e2 hM hem;unfold Qr;rw[QnA hf,Bool.and_true,Bool.and_eq_true];refine⟨by simpa using hin,List.all_eq_true.2 λj hj=>?_⟩;have hjl:j<ops.length:=by simpa using hj
 have h2':ops[j]?=some ops[j]:=List.getElem?_eq_getElem hjl;obtain⟨fj,g1,g2⟩:=Z8 hf j _ h2';rw[Nat.zero_add]at g2;have hoj:(⟨ops⟩:Array Oper)[j]?=some ops[j]:=by simpa using h2'
 have hoi:(⟨ops⟩:Array Oper)[r.i]?=some o:=by simpa using e1
 rw[hoj,hoi];simp only[Bool.or_eq_true];cases hb:Nat.beq j r.i with
 | true=>exact .inl (.inl (.inl rfl))
 | false=>
  cases hm:M.testBit j with
  | true=>exact .inl (.inl (.inr (by rw[hl.get hjl];exact hm)))
  | false=>
   cases he:fj.em.testBit r.i with
   | true=>exact .inl (.inr (by rw[<-ZG g1];exact he))
   | false=>
    refine .inr (QmP e2 g1 ?_);cases hap:apF f fj with
    | true=>rfl
    | false=>
     have hne:j≠r.i:=λe=>by subst e;rw[Nat.beq_refl]at hb;cases hb
     have hbit:=Qe1 (i:=r.i) (f:=f) g2 hne he hap;have h3:r.need.testBit j=true:=by simp_all
     grind[QcT]
noncomputable def Qb7(fs:List (Nat×Inf))(fm:Nat):Nat:=List.rec fm (λp _ ih=>Bool.rec ih (Nat.lor ih p.2.em) (has fm p.1)) fs
theorem QcG{fm i:Nat}:∀{l:List (Nat×Inf)},(Qb7 l fm).testBit i=true->fm.testBit i=true\/∃p∈l,fm.testBit p.1=true/\p.2.em.testBit i=true
 | [],h=>.inl h
 | p::l,h=>by
  have hu:Qb7 (p::l) fm=(Bool.rec (Qb7 l fm) (Nat.lor (Qb7 l fm) p.2.em) (has fm p.1):Nat):=rfl;rw[hu,Ze]at h;cases hb:fm.testBit p.1 with
  | false=>
   rw[hb]at h;rcases QcG h with h|⟨q,h1,h2⟩<;>grind
  | true=>
   rw[hb]at h;have h':((Qb7 l fm) ||| p.2.em).testBit i=true:=h;rw[Nat.testBit_or,Bool.or_eq_true]at h';rcases h' with h|h
   ·rcases QcG h with h|⟨q,h1,h2⟩<;>grind
   grind
theorem Qg3{x y:Nat}{o:Oper}{f:Inf}(ho:ops[x]?=some o)(hf:Yr ops o=some f)(h:f.em.testBit y=true):Qgy ⟨ops⟩ x y=true:=by grind[Qgy,ZG]
theorem QkQ(hf:ZI ops 0 ops=some fs){r:Row}(hr:r∈Qe fs fs){i:Nat}(hne:r.i≠i)(h:has (Qb7 fs r.em) i=true):Xk ⟨ops⟩ [r.i] i (Qhp (⟨ops⟩:Array Oper).size)=true:=by
 obtain⟨o,f,e1,e2,e3,e4,e5⟩:=Qao hf hr;rw[Ze]at h;have hb:Nat.beq r.i i=false:=by cases hb:Nat.beq r.i i<;>simp_all
 have hps:∃p∈Qhp (⟨ops⟩:Array Oper).size,QaP ⟨ops⟩ r.i p i=true:=by
  rcases QcG h with h|⟨p,h1,h2,h3⟩
  ·exact⟨[],List.mem_cons_self ..,Qg3 e1 e2 (by rw[<-e3];exact h)⟩
  ·obtain⟨j,oj,g1,g2,g3⟩:=QeA hf p h1;have hj:p.1=j:=by omega
   have hjl:j<ops.length:=by grind
   refine⟨[j],List.mem_cons_of_mem _ (List.mem_map.2 ⟨j,by simpa using hjl,rfl⟩),?_⟩
   grind[QaP,Qg3]
 grind[Xk]
noncomputable def QaN(i:Nat)(l:List Row):Option Row:=List.rec none (λr _ ih=>Bool.rec ih (some r) (Nat.beq r.i i)) l
theorem XL{i:Nat}:∀{l:List Row}{r:Row},QaN i l=some r->r∈l/\r.i=i
 | [],r,h=>by cases h
 | q::l,r,h=>by
  have hu:QaN i (q::l)=(Bool.rec (QaN i l) (some q) (Nat.beq q.i i):Option Row):=rfl;rw[hu]at h;cases hb:Nat.beq q.i i with
  | true=>simp_all
  | false=>
   rw[hb]at h;obtain⟨h1,h2⟩:=XL h
   grind
structure Fin1 where
 i:Nat
 tm:Nat
def Z0:Option Fin1->List Nat
 | none=>[]
 | some f=>[f.i]
def QdZ(fs:List (Nat×Inf))(f:Fin1):Prop:=∃r∈Qe fs fs,r.i=f.i/\f.tm=Qb7 fs r.em
noncomputable def isF(F:Option Fin1)(i:Nat):Bool:=Option.rec false (λf=>Nat.beq f.i i) F
noncomputable def Qbt(rows:List Row)(F:Option Fin1)(M i:Nat):Stp:=match QaN i rows with
 | some r=>⟨i,Bool.rec (Bool.rec false (Bool.not (isF F i)) (Yg r.need M)) false (has M i),
   Bool.rec (Bool.rec false (match F with
    | none=>true
    | some f=>Bool.rec (Bool.rec false (Bool.not (has M f.i)) (has f.tm i)) false (Nat.beq f.i i)) (Yg r.need M)) false (has M i),
   Bool.rec (Bool.rec false (QfR M i rows) (Yg r.em M)) false (has M i),Bool.rec none (some []) (isF F i)⟩
 | none=>⟨i,false,false,false,Bool.rec none (some []) (isF F i)⟩
theorem b3{a b c:Bool}(h:(Bool.rec (Bool.rec false c b) false a:Bool)=true):a=false/\b=true/\c=true:=by
 cases a<;>cases b<;>cases c<;>first|exact⟨rfl,rfl,rfl⟩|cases h
theorem Qa8(F:Option Fin1)(i:Nat):(Z0 F).contains i=isF F i:=by
 cases F with
 | none=>rfl
 | some f=>
  show List.contains [f.i] i=Nat.beq f.i i;cases hb:Nat.beq f.i i with
  | true=>simp_all
  | false=>
   have:¬(i=f.i):=λe=>by subst e;rw[Nat.beq_refl]at hb;cases hb
   simp[this]
theorem QjM{F:Option Fin1}{i:Nat}(h:isF F i=false):onF (Z0 F) i=true:=by
 cases F with
 | none=>rfl
 | some f=>
  have hb:Nat.beq f.i i=false:=h;simp[onF,Z0,hb]
theorem Qkl(hf:ZI ops 0 ops=some fs){listed:Array Bool}{M i:Nat}{F:Option Fin1}(hl:Lm ops.length listed M)(hF:∀f,F=some f->QdZ fs f) :
  ((Qbt (Qe fs fs) F M i).okP=true->(Qr ⟨ops⟩ listed i&&onF (Z0 F) i)=true) /\
  ((Qbt (Qe fs fs) F M i).okQ=true->(Qr ⟨ops⟩ listed i&&(Xk ⟨ops⟩ (Z0 F) i (Qhp (⟨ops⟩:Array Oper).size)&&YX (Z0 F) listed))=true) /\
  ((Qbt (Qe fs fs) F M i).okH=true->(Region.ready .any ⟨ops⟩ listed==[i])=true) /\
  (Qbt (Qe fs fs) F M i).i=i:=by
 unfold Qbt;split
 ·rename_i r hr;obtain⟨h1,rfl⟩:=XL hr;refine⟨λh=>?_,λh=>?_,λh=>?_,rfl⟩
  ·obtain⟨g1,g2,g3⟩:=b3 h;rw[Qc8 hf hl h1 g1 g2,Bool.true_and];exact QjM (by simpa using g3)
  ·obtain⟨g1,g2,g3⟩:=b3 h;rw[Qc8 hf hl h1 g1 g2,Bool.true_and];cases F with
   | none=>rfl
   | some f=>
    obtain⟨g4,g5,g6⟩:=b3 g3;obtain⟨r',k1,k2,k3⟩:=hF f rfl;have hne:r'.i≠r.i:=λe=>by rw[k2]at e;rw[e,Nat.beq_refl]at g4;cases g4
    have hw:=QkQ hf k1 hne (by rw[<-k3];exact g5);rw[k2]at hw;show(Xk ⟨ops⟩ [f.i] r.i _&&YX [f.i] listed)=true;rw[hw,Bool.true_and];simp only[YX,List.all_cons,List.all_nil,Bool.and_true];rw[hl.not (by have:=g6;rw[Ze]at this;simpa using this)];rfl
  ·obtain⟨g1,g2,g3⟩:=b3 h;exact Qa4 hf hl h1 g1 g2 g3
 ·exact⟨(λh=>by cases h),(λh=>by cases h),(λh=>by cases h),rfl⟩
theorem QgP{rows:List Row}{F:Option Fin1}{M i:Nat}:(Qbt rows F M i).turn=Bool.rec none (some []) (isF F i):=by
 unfold Qbt;split<;>rfl
theorem QkZ{listed:Array Bool}(hl:Lm ops.length listed (2^ops.length-1)):Qnb ⟨ops⟩ listed []=true:=by
 have:Region.ready .any ⟨ops⟩ listed=[]:=by
  refine List.eq_nil_iff_forall_not_mem.2 λj hj=>?_;obtain⟨h1,o,h2,_⟩:=mem_ready.1 hj;have h2':ops[j]?=some o:=by simpa using h2
  have hjl:j<ops.length:=by grind
  rw[hl.get hjl,Nat.testBit_two_pow_sub_one]at h1;simp[hjl]at h1
 grind[Qnb]
end
end Ev
namespace Ev
open Go Go.RowKit
noncomputable def Qk1(P:Program):Op->Option (Clo (Nat->Value×HX))
 | .makeMap _ none=>some ⟨λn=>(.map (some n),.mp [])⟩
 | .alloc t=>match Qs P t with
  | some z=>bif QI z then some ⟨λn=>(.pointer (some ⟨n,0,none⟩),.row ⟨t,0,z⟩)⟩else none
  | none=>none
 | _=>none
def Qod(P:Program)(o:Oper)(L':Qa)(w0:World)(As:List HA)(c:Nat->Value×HX):Prop:=
 ∃(G:Type)(V:G->Value)(Fg:G->Prop)(A:G->HA),OpH P o L' (HS w0 [] As) V Fg (λg=>HS w0 [] (A g::As))/\∀g,Fg g->∃x:Nat×Nat,∀(ρ:Rho)(n:Nat),den (ext ρ n x) (c n).1=some (V g)/\ha (ext ρ n x) (n,(c n).2)=some (A g)
theorem Qhv{P:Program}{o:Oper}{op:Op}{c:Clo (Nat->Value×HX)}(ho:o.op=op)(h:Qk1 P op=some c)(L':Qa)(w0:World)(As:List HA):Qod P o L' w0 As c.run:=by
 unfold Qk1 at h;split at h
 ·injection h with h
  subst h;refine⟨_,_,_,_,QbM ho QfA,λb _=>⟨(b,0),λρ n=>⟨?_,?_⟩⟩⟩
  ·simp only[den,QQ,Qt,Q8,ZM]
  ·simp only[ha,ZM]
 ·rename_i t;split at h
  ·rename_i z hz;obtain⟨hf,rfl⟩:=bif_some h;refine⟨_,_,_,_,Qa9 ho hz,λb _=>⟨(b,0),λρ n=>⟨QeN,?_⟩⟩⟩;have:=QgS (x:=⟨t,0,z⟩) (us:=z) (d:=0) (ZM ρ n (b,0)) (Xe hf) (.inl rfl)
   simpa using this
  ·cases h
 ·cases h
structure PF where
 q:Nat
 okP:Bool
 okM:Bool
noncomputable def cQs(P:Program)(nt dj:Nat)(ops:Array Oper):List PF->Clo (CallF->Tr Value->Hp->Nat->List Nat->Option (Tr Value×Hp×Nat))
 | []=>⟨λ_ T H n _=>some (T,H,n)⟩
 | x::l=>match ops[x.q]? with
  | some ⟨some d,op,_,_,_,none⟩=>bif Nat.blt d nt&&Bool.not (Nat.beq d dj)then⟨λF T H n R=>match(YP P op).run F T H n with
   | .p v=>bif x.okP then(cQs P nt dj ops l).run F (Xu (pth d) d v T) H n R else none
   | .new v y=>bif x.okM then(cQs P nt dj ops l).run F (Xu (pth d) d v T) (XP H n y) (Nat.succ n) R else none
   | .h v H' n'=>bif x.okM&&Qfo H H' R then(cQs P nt dj ops l).run F (Xu (pth d) d v T) H' n' R else none
   | _=>none⟩else⟨λ_ _ _ _ _=>none⟩
  | _=>⟨λ_ _ _ _ _=>none⟩
noncomputable def dTwo(P:Program)(nt:Nat)(ops:Array Oper)(qs:List PF)(ok:Bool)(oj:Oper)(rest:DS):DS:=match oj.dst,Qk1 P oj.op,oj.guard with
 | some dj,some c,none=>bif ok&&Nat.blt dj nt then⟨λF T H n R=>match(cQs P nt dj ops qs).run ⟨F.f,F.e,noY⟩ (Qdz (pth dj) T) H n R with
  | some r=>rest.run F (Xu (pth dj) dj (c.run r.2.2).1 r.1) (XP r.2.1 r.2.2 (c.run r.2.2).2) (Nat.succ r.2.2) R
  | none=>.bad⟩else noD
 | _,_,_=>noD
theorem Qm6{T:Tr Value}{d t:Nat}{v:Value}(h:en (Qdz (pth d) T) t=some v):t≠d/\en T t=some v:=by
 refine⟨λe=>?_,Qdb _ _ _ h⟩;subst e;have h':XO (pth t) t (Qdz (pth t) T)=some v:=h;rw[Yl]at h';cases h'
theorem SR.del0{ρ:Rho}{T:Tr Value}{L':Qa}{d:Nat}(h:SR ρ (en T) L'):SR ρ (en (Qdz (pth d) T)) L':=λt v hv=>h t v (Qm6 hv).2
theorem SR.put1{ρ:Rho}{T:Tr Value}{L':Qa}{dj:Nat}{w u':Value}(h:SR ρ (en T) L')(hj:Qa.get L' dj=some u')(hw:den ρ w=some u'):SR ρ (en (Xu (pth dj) dj w T)) L':=λt x hx=>by
 rcases Qgg t x hx with⟨rfl,rfl⟩|⟨h1,h2⟩
 ·grind
 ·exact h t x h2
section
variable{P:Program}{r0:Rho}{w0:World}{CF:CallF}{X:Ctx}{k:List KI}{ops:Array Oper}
theorem Qnc{F:List Nat}{fuel:Nat}{listed:Array Bool}{L:Qa}{As:List HA}{B:World->Prop}{d d' ty ty':Nat}{op op':Op}{pos pos':String}{aft aft':Array Edge}{G G':Type}{V:G->Value}{Fg:G->Prop}{C:G->World->Prop}{V':G'->Value}{Fg':G'->Prop}{C':G'->World->Prop}(i j:Nat)
  (hi:ops[i]?=some ⟨some d,op,ty,pos,aft,none⟩)(hj:ops[j]?=some ⟨some d',op',ty',pos',aft',none⟩)(h:OpH X.P ⟨some d,op,ty,pos,aft,none⟩ L (HS w0 [] As) V Fg C)(h':OpH X.P ⟨some d',op',ty',pos',aft',none⟩ L (HS w0 [] As) V' Fg' C')
  (mi:i∈Region.ready .any ops listed)(mj:j∈Region.ready .any ops listed)(hr:∀q∈Region.ready .any ops listed,q=i\/q=j)(hB:∀w,HS w0 [] As w->B w)(hd:Nat.blt d X.n=true)(hd':Nat.blt d' X.n=true)
  (next:∀g,Fg g->D X ops F B fuel (listed.setIfInBounds i true) k ((d,V g)::L) (C g))(next':∀g,Fg' g->D X ops F B fuel (listed.setIfInBounds j true) k ((d',V' g)::L) (C' g)):D X ops F B (fuel+1) listed k L (HS w0 [] As):=by
 intro hcl a ha;refine⟨λ_=>⟨hB,HS.stab _ _ _⟩,λh0=>(by rw[h0]at mi;cases mi),λq hq=>?_⟩;rcases hr q hq with e|e
 ·subst e;unfold XI;simp only[hi];rw[if_pos (by simp[Region.wanted])];exact⟨G,V,Fg,C,λw hw=>h a.eval w ha.agr hw,λg hg=>next g hg (hcl.set mi) _ (ha.put d _ hd)⟩
 ·subst e;unfold XI;simp only[hj];rw[if_pos (by simp[Region.wanted])];exact⟨G',V',Fg',C',λw hw=>h' a.eval w ha.agr hw,λg hg=>next' g hg (hcl.set mj) _ (ha.put d' _ hd')⟩
end
inductive It where
 | one (i:Nat)
 | two (i j:Nat) (ps:List Nat)
inductive SI where
 | one (s:Stp)
 | two (j:Nat) (qs:List PF) (ok:Bool)
noncomputable def ZU(P:Program)(nt:Nat)(ops:Array Oper):List SI->DS
 | []=>⟨λ_ T H n _=>.nm T H n⟩
 | .one s::l=>match ops[s.i]? with
  | some o=>(match o.guard with
   | none=>dOn P nt s o (ZU P nt ops l)
   | some (j,want)=>match(ops[j]?).bind (·.dst)with
    | some dj=>⟨λF T H n R=>match XO (pth dj) dj T with
     | some (.bool b)=>Bool.rec ((Qmd nt s o.dst (ZU P nt ops l)).run F T H n R) ((dOn P nt s o (ZU P nt ops l)).run F T H n R) (b==want)
     | some (.tuple ⟨[]⟩)=>(Qmd nt s o.dst (ZU P nt ops l)).run F T H n R
     | _=>.bad⟩
    | none=>noD)
  | none=>noD
 | .two j qs ok::l=>match ops[j]? with
  | some oj=>dTwo P nt ops qs ok oj (ZU P nt ops l)
  | none=>noD
noncomputable def Qn6(M i j:Nat)(rows:List Row):Bool:=QjB (λr=>Bool.rec (Bool.rec (Bool.rec (Bool.not (Yg r.em M)) true (has M r.i)) true (Nat.beq r.i j)) true (Nat.beq r.i i)) rows
noncomputable def addL(ps:List Nat):Nat->Nat:=List.rec (λM=>M) (λq _ ih M=>ih (Q1 M q)) ps
noncomputable def Qf0(rows:List Row)(F:Option Fin1)(M q:Nat):Bool:=match QaN q rows with
 | some r=>Bool.rec (Bool.rec (Bool.rec true false (isF F q)) false (Bool.not (Yg r.need M))) false (has M q)
 | none=>false
noncomputable def Qed(rows:List Row)(M j q:Nat):Bool:=match QaN q rows,QaN j rows with
 | some rq,some rj=>Bool.not (Nat.beq q j)&&(Bool.not (has M q)&&(Bool.not (has M j)&&(Yg rq.em M&&(Yg rj.em M&&(Qn6 M q j rows&&(Yg rq.em (Q1 M j)&&QfR (Q1 M j) q rows))))))
 | _,_=>false
noncomputable def Qbm(rows:List Row)(F:Option Fin1)(j:Nat)(l:List Nat):Nat->List PF:=List.rec (λ_=>[]) (λq _ ih M=>⟨q,Qf0 rows F M q&&Qf0 rows F (Q1 M j) q,Qed rows M j q⟩::ih (Q1 M q)) l
noncomputable def QfZ(rows:List Row)(M j:Nat):Bool:=match QaN j rows with
 | some rj=>Bool.not (has M j)&&(Yg rj.em M&&QfR M j rows)
 | none=>false
noncomputable def mkF(rows:List Row):List Fin1->Option Fin1->Nat->List It->List SI
 | _,_,_,[]=>[]
 | Fs,F,M,.one i::r=>.one (Qbt rows F M i)::mkF rows (Bool.rec Fs Fs.tail (isF F i)) (Bool.rec F Fs.head? (isF F i)) (Q1 M i) r
 | Fs,F,M,.two i j ps::r=>.two j (Qbm rows F j (i::ps) M) (QfZ rows (addL (i::ps) M) j)::mkF rows Fs F (Q1 (addL ps (Q1 M i)) j) r
noncomputable def Qjn(M:Nat)(l:List It):Nat:=List.rec (λM=>M) (λx _ ih M=>match x with
 | .one i=>ih (Q1 M i)
 | .two i j ps=>ih (Q1 (addL ps (Q1 M i)) j)) l M
def QdC:List It->Nat
 | []=>0
 | .one _::l=>QdC l+1
 | .two _ _ ps::l=>QdC l+ps.length+2
def Ql4(n:Nat):It->Prop
 | .one i=>i<n
 | .two i j ps=>i<n/\j<n/\∀q∈ps,q<n
theorem Lm.perm{n:Nat}{listed:Array Bool}{M M':Nat}(h:Lm n listed M)(e:∀j,M.testBit j=M'.testBit j):Lm n listed M':=by
 have:=Nat.eq_of_testBit_eq e
 grind
section
variable{ops:List Oper}{fs:List (Nat×Inf)}
theorem Qhk(hf:ZI ops 0 ops=some fs){F:Option Fin1}{listed:Array Bool}{M q:Nat}(hl:Lm ops.length listed M)(h:Qf0 (Qe fs fs) F M q=true):Qr ⟨ops⟩ listed q=true/\onF (Z0 F) q=true:=by
 unfold Qf0 at h;split at h
 ·rename_i r hr;obtain⟨m1,rfl⟩:=XL hr;cases h1:has M r.i with
  | true=>rw[h1]at h;cases h
  | false=>
   rw[h1]at h;cases h2:Yg r.need M with
   | false=>rw[h2]at h;cases h
   | true=>
    rw[h2]at h;cases h3:isF F r.i with
    | true=>rw[h3]at h;cases h
    | false=>exact⟨Qc8 hf hl m1 h1 h2,QjM h3⟩
 ·cases h
theorem QlF(hf:ZI ops 0 ops=some fs){listed:Array Bool}{M j q:Nat}(hl:Lm ops.length listed M)(h:Qed (Qe fs fs) M j q=true) :
  q∈Region.ready .any ⟨ops⟩ listed/\j∈Region.ready .any ⟨ops⟩ listed/\∀p∈Region.ready .any ⟨ops⟩ listed,p=q\/p=j:=by
 unfold Qed at h;split at h
 ·rename_i ri rj h1 h2;obtain⟨m1,rfl⟩:=XL h1;obtain⟨m2,rfl⟩:=XL h2;simp only[Bool.and_eq_true,Bool.not_eq_true']at h;obtain⟨a1,a2,a3,a4,a5,a8,_,_⟩:=h;obtain⟨oi,fi,e1,e2,e3,_,_⟩:=Qao hf m1;obtain⟨oj,fj,g1,g2,g3,_,_⟩:=Qao hf m2;rw[Ze]at a2 a3;refine⟨Qbl hl e1 e2 a2 (by rw[<-e3];exact a4),Qbl hl g1 g2 a3 (by rw[<-g3];exact a5),λq hq=>?_⟩;obtain⟨k1,o,k2,k3⟩:=mem_ready.1 hq;have k2':ops[q]?=some o:=by simpa using k2
  obtain⟨f,l1,l2⟩:=Z8 hf q o k2';rw[Nat.zero_add]at l2;have l3:=Qcz a8 _ (Qa1 (fs:=fs) l2);simp only[]at l3;cases hb:Nat.beq q ri.i with
  | true=>exact .inl (Nat.eq_of_beq_eq_true hb)
  | false=>
   rw[hb]at l3;cases hb2:Nat.beq q rj.i with
   | true=>exact .inr (Nat.eq_of_beq_eq_true hb2)
   | false=>
    rw[hb2]at l3;have hql:q<ops.length:=by grind
    rw[hl.get hql]at k1;rw[Ze,k1]at l3
    grind[Yg,QcN]
 ·cases h
theorem Qm3(hf:ZI ops 0 ops=some fs){listed:Array Bool}{M j q:Nat}(hl:Lm ops.length listed (Q1 M j))(h:Qed (Qe fs fs) M j q=true):(Region.ready .any ⟨ops⟩ listed==[q])=true:=by
 unfold Qed at h;split at h
 ·rename_i ri rj h1 h2;obtain⟨m1,rfl⟩:=XL h1;obtain⟨m2,rfl⟩:=XL h2;simp only[Bool.and_eq_true,Bool.not_eq_true']at h;obtain⟨a1,a2,a3,a4,a5,a8,a7,a10⟩:=h;have hne:ri.i≠rj.i:=λe=>by rw[e,Nat.beq_refl]at a1;cases a1
  refine Qa4 hf hl m1 ?_ a7 a10
  grind[Ze,YK]
 ·cases h
theorem QkM(hf:ZI ops 0 ops=some fs){listed:Array Bool}{M j:Nat}(hl:Lm ops.length listed M)(h:QfZ (Qe fs fs) M j=true):(Region.ready .any ⟨ops⟩ listed==[j])=true:=by
 unfold QfZ at h;split at h
 ·rename_i rj h2;obtain⟨m2,rfl⟩:=XL h2;simp only[Bool.and_eq_true,Bool.not_eq_true']at h;exact Qa4 hf hl m2 h.1 h.2.1 h.2.2
 ·cases h
end
section
variable{P:Program}{r0:Rho}{w0:World}{CF:CallF}{X:Ctx}{k:List KI}{ops:List Oper}{fs:List (Nat×Inf)}
theorem Qd8{T:Tr Value}{d dj:Nat}{v:Value}(h:en T dj=none)(hd:d≠dj):en (Xu (pth d) d v T) dj=none:=by
 cases e:en (Xu (pth d) d v T) dj with
 | none=>rfl
 | some x=>
  rcases Qgg _ _ e with⟨e1,_⟩|⟨_,e2⟩
  ·exact absurd e1.symm hd
  ·rw[h]at e2;cases e2
theorem SR.past{ρ:Rho}{T:Tr Value}{L':Qa}{d:Nat}(h:SR ρ (en T) L')(hn:en T d=none)(u:Value):SR ρ (en T) ((d,u)::L'):=λt v hv=>by
 have hne:t≠d:=λe=>by subst e;rw[hn]at hv;cases hv
 obtain⟨u',h3,h4⟩:=h t v hv
 grind[Qa.get,QbD]
theorem QhE(hF:∀r,CallOk P r CF)(hP:X.P=P)(hf:ZI ops 0 ops=some fs){F:Option Fin1}{j dj fuel Mf:Nat}{T2:Tr Value}{H2:Hp}{n2:Nat}{R:List Nat}{B:List (Nat×HX)}{Bs:List HA}{ρb:Rho}{A:HA}{u:Value}(hR:Qg (ha ρb) B=some Bs)
  (fin:∀(listed:Array Bool)(ρ2:Rho)(L2:Qa)(As2:List HA),Lm ops.length listed Mf->(ρb.wx (A::ρb.ex)).le ρ2->Qq ρ2 n2->SR ρ2 (en T2) L2->Qa.get L2 dj=some u->HM ρ2 H2 As2->QT H2 R B->D X ⟨ops⟩ (Z0 F) (HS w0 [] (Bs++ρb.ex)) fuel listed k L2 (HS w0 [] As2)) :
  ∀(l:List Nat)(M:Nat)(listed:Array Bool)(T:Tr Value)(H:Hp)(n:Nat)(ρ:Rho)(L':Qa)(As:List HA),Lm ops.length listed (Q1 M j)->(∀q∈l,q<ops.length)->(∀b,(Q1 (addL l M) j).testBit b=Mf.testBit b)->(cQs P X.n dj ⟨ops⟩ (Qbm (Qe fs fs) F j l M)).run CF T H n R=some (T2,H2,n2) ->
  (ρb.wx (A::ρb.ex)).le ρ->SR ρ (en T) L'->Qa.get L' dj=some u->HM ρ H As->Qq ρ n->QT H R B->D X ⟨ops⟩ (Z0 F) (HS w0 [] (Bs++ρb.ex)) (fuel+l.length) listed k L' (HS w0 [] As)
 | [],M,listed,T,H,n,ρ,L',As,hl,_,he,h,hle,hs,hj,hp,hfr,hB=>by
  injection h with h
  injection h with h1 h
  injection h with h2 h3
  subst h1 h2 h3;exact fin listed ρ L' As (hl.perm he) hle hfr hs hj hp hB
 | q::l,M,listed,T,H,n,ρ,L',As,hl,hq,he,h,hle,hs,hj,hp,hfr,hB=>by
  have hql:=hq q (List.mem_cons_self ..)
  have hl2:Lm ops.length (listed.setIfInBounds q true) (Q1 (Q1 M q) j):=(hl.set hql).perm λb=>by
   simp only[YK];cases M.testBit b<;>cases decide (q=b)<;>cases decide (j=b)<;>rfl
  have rec_:∀(T':Tr Value)(H':Hp)(n':Nat)(ρ':Rho)(L2:Qa)(As':List HA),_:=λT' H' n' ρ' L2 As'=>QhE hF hP hf hR fin l (Q1 M q) (listed.setIfInBounds q true) T' H' n' ρ' L2 As' hl2 (λp hp=>hq p (List.mem_cons_of_mem _ hp)) he;have hu:Qbm (Qe fs fs) F j (q::l) M=⟨q,Qf0 (Qe fs fs) F M q&&Qf0 (Qe fs fs) F (Q1 M j) q,Qed (Qe fs fs) M j q⟩::Qbm (Qe fs fs) F j l (Q1 M q):=rfl;rw[hu]at h
  have hbase:∀w,HS w0 [] As w->HS w0 [] (Bs++ρb.ex) w:=λw hw=>by
   have h1:=ZC (w0:=w0) hle hp (show Qg (ha (ρb.wx (A::ρb.ex))) B=some Bs from hR) hB w hw;exact(h1.perm (show(Bs++(A::ρb.ex)).Perm (A::(Bs++ρb.ex))from List.perm_middle)).tail
  simp only[cQs]at h;split at h
  ·rename_i d op ty pos aft ho;cases hc:Nat.blt d X.n&&Bool.not (Nat.beq d dj)with
   | false=>rw[hc]at h;cases h
   | true=>
    rw[hc]at h;simp only[cond_true]at h;simp only[Bool.and_eq_true,Bool.not_eq_true']at hc;have hne:d≠dj:=λe=>by rw[e,Nat.beq_refl]at hc;cases hc.2
    have Xq:∀x:Value,Qa.get ((d,x)::L') dj=some u:=λx=>by
     simp only[Qa.get,QbD (Ne.symm hne),cond_false];exact hj
    have hcm:=Qaz P op CF trivial T H n
    have mk:∀(v:Value)(H':Hp)(n':Nat),QR P (en T) H n CF op=some (.h v H' n')->Qed (Qe fs fs) M j q=true->QT H' R B->(cQs P X.n dj ⟨ops⟩ (Qbm (Qe fs fs) F j l (Q1 M q))).run CF (Xu (pth d) d v T) H' n' R=some (T2,H2,n2)->D X ⟨ops⟩ (Z0 F) (HS w0 [] (Bs++ρb.ex)) (fuel+(q::l).length) listed k L' (HS w0 [] As):=λv H' n' hev hok hB' hrun=>by
     have ha1:=YF (w0:=w0) (L':=L') (o:=⟨some d,op,ty,pos,aft,none⟩) (hF ρ) ρ.le_refl rfl hs hp hfr hev;have hH1:=OpT.got ha1;rw[<-hP]at hH1;refine d_h (fuel:=fuel+l.length) q ho hH1 (Qm3 hf hl hok) hbase hc.1 ?_;rintro⟨⟨ρ',As',u1⟩,g1,g2,g3,g4⟩ _;exact rec_ _ H' n' ρ' ((d,u1)::L') As' hrun (Rho.le_trans hle g1) ((hs.mono g1).set g3) (Xq _) g4 g2 hB'
    split at h
    ·rename_i v hr;rw[hr]at hcm;obtain⟨hok,h⟩:=bif_in h;simp only[Bool.and_eq_true]at hok;obtain⟨u1,e1,e2⟩:=YF (w0:=w0) (L':=L') (o:=⟨some d,op,ty,pos,aft,none⟩) (hF ρ) ρ.le_refl rfl hs hp hfr hcm;rw[<-hP]at e1;have h9:=Qhk hf hl hok.2;refine d_p (fuel:=fuel+l.length) q ho e1 h9.1 h9.2 hc.1 ?_;exact rec_ _ H n ρ ((d,u1)::L') As h hle (hs.set e2) (Xq _) hp hfr hB
    ·rename_i v y hr;rw[hr]at hcm;obtain⟨hok,h⟩:=bif_in h;exact mk v (XP H n y) (n+1) hcm hok (YG hp hfr hB) h
    ·rename_i v H' n' hr;rw[hr]at hcm;obtain⟨hok,h⟩:=bif_in h;simp only[Bool.and_eq_true]at hok;exact mk v H' n' hcm hok.1 (hB.stay (Z3 hok.2)) h
    ·cases h
  ·cases h
theorem Qg4(hF:∀r,CallOk P r CF)(hP:X.P=P)(hf:ZI ops 0 ops=some fs){F:Option Fin1}{j dj fuel Mf:Nat}{T2:Tr Value}{H2:Hp}{n2:Nat}{R:List Nat}{B:List (Nat×HX)}{Bs:List HA}{ρb:Rho}{opj:Op}{tyj:TypeId}{posj:String}{aftj:Array Edge}{c:Clo (Nat->Value×HX)}
  (hjo:(⟨ops⟩:Array Oper)[j]?=some ⟨some dj,opj,tyj,posj,aftj,none⟩)(hnc:Qk1 P opj=some c)(hdj:Nat.blt dj X.n=true)(hjl:j<ops.length)(hR:Qg (ha ρb) B=some Bs)
  (fin:∀(listed:Array Bool)(ρ2:Rho)(L2:Qa)(As2:List HA),Lm ops.length listed Mf->ρb.le ρ2->Qq ρ2 (n2+1)->SR ρ2 (en (Xu (pth dj) dj (c.run n2).1 T2)) L2->HM ρ2 (XP H2 n2 (c.run n2).2) As2->QT (XP H2 n2 (c.run n2).2) R B->D X ⟨ops⟩ (Z0 F) (HS w0 [] (Bs++ρb.ex)) fuel listed k L2 (HS w0 [] As2)) :
  ∀(l:List Nat)(M:Nat)(listed:Array Bool)(T:Tr Value)(H:Hp)(n:Nat)(ρ:Rho)(L':Qa)(As:List HA),Lm ops.length listed M->(∀q∈l,q<ops.length)->(∀b,(Q1 (addL l M) j).testBit b=Mf.testBit b)->QfZ (Qe fs fs) (addL l M) j=true->(cQs P X.n dj ⟨ops⟩ (Qbm (Qe fs fs) F j l M)).run CF T H n R=some (T2,H2,n2) ->
  ρb.le ρ->SR ρ (en T) L'->en T dj=none->HM ρ H As->Qq ρ n->QT H R B->D X ⟨ops⟩ (Z0 F) (HS w0 [] (Bs++ρb.ex)) (fuel+l.length+1) listed k L' (HS w0 [] As)
 | [],M,listed,T,H,n,ρ,L',As,hl,_,he,hend,h,hle,hs,hn,hp,hfr,hB=>by
  injection h with h
  injection h with h1 h
  injection h with h2 h3
  subst h1 h2 h3;obtain⟨G2,V2,Fg2,A2,hO2,hK2⟩:=Qhv (o:=⟨some dj,opj,tyj,posj,aftj,none⟩) rfl hnc L' w0 As;rw[<-hP]at hO2;refine d_h (fuel:=fuel) j hjo hO2 (QkM hf hl hend) (ZC (w0:=w0) hle hp hR hB) hdj λg hg=>?_;obtain⟨x,hx⟩:=hK2 g hg;obtain⟨e1,e2⟩:=hx ρ n;have hle2:=Qc5 hfr x;exact fin _ (ext ρ n x) ((dj,V2 g)::L') (A2 g::As) ((hl.set hjl).perm he) (Rho.le_trans hle hle2) (Zt hfr x) ((hs.mono hle2).set e1) ((HM.mono hle2 hp).push e2) (YG hp hfr hB)
 | q::l,M,listed,T,H,n,ρ,L',As,hl,hq,he,hend,h,hle,hs,hn,hp,hfr,hB=>by
  have hql:=hq q (List.mem_cons_self ..);have rec_:∀(T':Tr Value)(H':Hp)(n':Nat)(ρ':Rho)(L2:Qa)(As':List HA),_:=λT' H' n' ρ' L2 As'=>Qg4 hF hP hf hjo hnc hdj hjl hR fin l (Q1 M q) (listed.setIfInBounds q true) T' H' n' ρ' L2 As' (hl.set hql) (λp hp=>hq p (List.mem_cons_of_mem _ hp)) he hend;have hrun0:=h;have hu:Qbm (Qe fs fs) F j (q::l) M=⟨q,Qf0 (Qe fs fs) F M q&&Qf0 (Qe fs fs) F (Q1 M j) q,Qed (Qe fs fs) M j q⟩::Qbm (Qe fs fs) F j l (Q1 M q):=rfl;rw[hu]at h;have hbase:=ZC (w0:=w0) hle hp hR hB;simp only[cQs]at h;split at h
  ·rename_i d op ty pos aft ho;cases hc:Nat.blt d X.n&&Bool.not (Nat.beq d dj)with
   | false=>rw[hc]at h;cases h
   | true=>
    rw[hc]at h;simp only[cond_true]at h;simp only[Bool.and_eq_true,Bool.not_eq_true']at hc;have hne:d≠dj:=λe=>by rw[e,Nat.beq_refl]at hc;cases hc.2
    have hcm:=Qaz P op CF trivial T H n
    have mk:∀(v:Value)(H':Hp)(n':Nat),QR P (en T) H n CF op=some (.h v H' n')->Qed (Qe fs fs) M j q=true->QT H' R B->(cQs P X.n dj ⟨ops⟩ (Qbm (Qe fs fs) F j l (Q1 M q))).run CF (Xu (pth d) d v T) H' n' R=some (T2,H2,n2)->D X ⟨ops⟩ (Z0 F) (HS w0 [] (Bs++ρb.ex)) (fuel+(q::l).length+1) listed k L' (HS w0 [] As):=λv H' n' hev hok hB' hrun=>by
     have ha1:=YF (w0:=w0) (L':=L') (o:=⟨some d,op,ty,pos,aft,none⟩) (hF ρ) ρ.le_refl rfl hs hp hfr hev;have hH1:=OpT.got ha1;rw[<-hP]at hH1;obtain⟨G,V,Fg,A,hO,hK⟩:=Qhv (o:=⟨some dj,opj,tyj,posj,aftj,none⟩) rfl hnc L' w0 As;rw[<-hP]at hO;obtain⟨mq,mj,hr⟩:=QlF hf hl hok;refine Qnc (fuel:=fuel+(q::l).length) q j ho hjo hH1 hO mq mj hr hbase hc.1 hdj ?_ ?_
     ·rintro⟨⟨ρ',As',u1⟩,g1,g2,g3,g4⟩ _;have:=rec_ _ H' n' ρ' ((d,u1)::L') As' hrun (Rho.le_trans hle g1) ((hs.mono g1).set g3) (Qd8 hn hne) g4 g2 hB';exact this
     ·intro g hg;obtain⟨x,hx⟩:=hK g hg;obtain⟨G0,Bs0,f1,f2,f3⟩:=hp;have hp1':HM (ρ.wx (A g::ρ.ex)) H (Bs0++(A g::ρ.ex)):=⟨G0,Bs0,f1,f2,rfl⟩
      have hperm:(A g::As).Perm (Bs0++(A g::ρ.ex)):=by
       rw[f3];exact List.perm_middle.symm
      refine Qg1 (C':=HS w0 [] (Bs0++(A g::ρ.ex))) (λw hw=>hw.perm hperm) (HS.stab _ _ _) ?_;have hexb:ρ.ex=ρb.ex:=hle.2;have hleb:(ρb.wx (A g::ρb.ex)).le (ρ.wx (A g::ρ.ex)):=⟨hle.1,by show A g::ρ.ex=A g::ρb.ex;rw[hexb]⟩;refine QhE (T2:=T2) (H2:=H2) (n2:=n2) (R:=R) (B:=B) (ρb:=ρb) (A:=A g) (u:=V g) (dj:=dj) (F:=F) (fuel:=fuel) (Mf:=Mf) hF hP hf hR ?_ (q::l) M _ T H n (ρ.wx (A g::ρ.ex)) ((dj,V g)::L') _ (hl.set hjl) hq he hrun0 hleb ((hs.past hn (V g)).wx (A g::ρ.ex)) (by simp only[Qa.get,Nat.beq_refl,cond_true]) hp1' (show Qq (ρ.wx (A g::ρ.ex)) n from hfr) hB;intro listed2 ρ2 L2 As2 hl2 hle2 hfr2 hsr2 hg2 hp2 hB2;obtain⟨G1,Bs1,k1,k2,k3⟩:=hp2;have hex:ρ2.ex=A g::ρb.ex:=hle2.2;have hle0:ρb.le (ρ2.wx ρb.ex):=⟨hle2.1,rfl⟩;have g2':Qq (ρ2.wx ρb.ex) n2:=hfr2;have hle3:=Qc5 g2' x;obtain⟨e1,e2⟩:=hx (ρ2.wx ρb.ex) n2
      have hperm2:As2.Perm (A g::(Bs1++ρb.ex)):=by
       rw[show As2=Bs1++ρ2.ex from k3,hex];exact List.perm_middle
      refine Qg1 (C':=HS w0 [] (A g::(Bs1++ρb.ex))) (λw hw=>hw.perm hperm2) (HS.stab _ _ _) ?_;have hM:HM (ρ2.wx ρb.ex) H2 (Bs1++ρb.ex):=⟨G1,Bs1,k1,k2,rfl⟩;have q3:SR (ρ2.wx ρb.ex) (en T2) L2:=hsr2;exact fin listed2 (ext (ρ2.wx ρb.ex) n2 x) L2 (A g::(Bs1++ρb.ex)) hl2 (Rho.le_trans hle0 hle3) (Zt g2' x) ((q3.mono hle3).put1 hg2 e1) ((HM.mono hle3 hM).push e2) (YG hM g2' hB2)
    split at h
    ·rename_i v hr;rw[hr]at hcm;obtain⟨hok,h⟩:=bif_in h;simp only[Bool.and_eq_true]at hok;obtain⟨u1,e1,e2⟩:=YF (w0:=w0) (L':=L') (o:=⟨some d,op,ty,pos,aft,none⟩) (hF ρ) ρ.le_refl rfl hs hp hfr hcm;rw[<-hP]at e1;have h9:=Qhk hf hl hok.1;refine d_p (fuel:=fuel+(q::l).length) q ho e1 h9.1 h9.2 hc.1 ?_;exact rec_ _ H n ρ ((d,u1)::L') As h hle (hs.set e2) (Qd8 hn hne) hp hfr hB
    ·rename_i v y hr;rw[hr]at hcm;obtain⟨hok,h⟩:=bif_in h;exact mk v (XP H n y) (n+1) hcm hok (YG hp hfr hB) h
    ·rename_i v H' n' hr;rw[hr]at hcm;obtain⟨hok,h⟩:=bif_in h;simp only[Bool.and_eq_true]at hok;exact mk v H' n' hcm hok.1 (hB.stay (Z3 hok.2)) h
    ·cases h
  ·cases h
end
section
variable{P:Program}{r0:Rho}{w0:World}{CF:CallF}{X:Ctx}{k:List KI}{ops:Array Oper}
theorem Qhn{i:Nat}{dst:Option Nat}{op:Op}{ty:TypeId}{pos:String}{aft:Array Edge}{rest:DS}{Fs:List (List Nat)}{F:List Nat}{listed:Array Bool}{fuel:Nat}{s:Stp}
  (hsP:s.okP=true->(Qr ops listed i&&onF F i)=true)(hsH:s.okH=true->(Region.ready .any ops listed==[i])=true)(hsT:s.turn.isSome=F.contains i)
  (ih:Qg7 P r0 w0 CF X k ops rest (if F.contains i then Fs.headD []else F) fuel (listed.setIfInBounds i true))
  {j dj:Nat}{want:Bool}{u:Value}(ho:ops[i]?=some ⟨dst,op,ty,pos,aft,some (j,want)⟩)(hj:(ops[j]?).bind (·.dst)=some dj){T:Tr Value}{H:Hp}{n:Nat}{R:List Nat}{B:List (Nat×HX)}{ρ:Rho}{L':Qa}{As Bs:List HA}(hb:Qa.get L' dj=some u)(hw:u=.bool (!want)\/u=undef)
  (ht:QG r0 w0 ρ X k ((Qmd X.n s dst rest).run CF T H n R))(hs:StOk r0 w0 ρ ⟨T,H,n⟩ L' As)(hR:Qg (ha ρ) B=some Bs)(hB:QT H R B):D X ops F (HS w0 [] (Bs++ρ.ex)) (fuel+1) listed k L' (HS w0 [] As):=by
 unfold Qmd at ht;split at ht
 ·rename_i d;cases hlt:Nat.blt d X.n with
  | false=>rw[hlt]at ht;exact ht.elim
  | true=>
   rw[hlt]at ht;simp only[cond_true]at ht;split at ht
   ·rename_i hok;replace hok:=hsP hok;rw[Bool.and_eq_true]at hok;have hfi:=Qg5 hok.2;simp only[hfi,Bool.false_eq_true,if_false]at ih;have next:D X ops F (HS w0 [] (Bs++ρ.ex)) fuel (listed.setIfInBounds i true) k ((d,undef)::L') (HS w0 [] As):=ih _ H n R B ρ _ As Bs ht ⟨hs.le,hs.sr.set QaC,hs.hp,hs.fr⟩ hR hB
    rcases hw with hw|hw
    ·subst hw;exact Qmr i dj ho hj hb rfl hok.1 hok.2 hlt next
    ·subst hw;exact QjS i dj ho hj hb hok.1 hok.2 hlt next
   ·split at ht
    ·rename_i y hr hturn
     have hfi:F.contains i=true:=by
      cases hfi:F.contains i with
      | true=>rfl
      | false=>rw[hturn,hfi]at hsT;cases hsT
     replace hr:=hsH hr;simp only[hfi,if_true]at ih;refine QnE dj ho hj hb hw hr (ZC (w0:=w0) ρ.le_refl hs.hp hR hB) hlt ?_;refine QhJ (B':=HS w0 [] ([]++ρ.ex)) (F':=Fs.headD []) ⟨i,by simpa using hfi,QdV hr⟩ ?_;exact ih _ H n [] [] ρ _ As [] ht ⟨hs.le,hs.sr.set QaC,hs.hp,hs.fr⟩ rfl trivial
    ·exact ht.elim
 ·exact ht.elim
end
section
variable{P:Program}{r0:Rho}{w0:World}{CF:CallF}{X:Ctx}{k:List KI}{ops:List Oper}{fs:List (Nat×Inf)}
theorem Qbd(hF:CallOk P r0 CF)(hP:X.P=P)(hf:ZI ops 0 ops=some fs):∀(order:List It)(Fs:List Fin1)(F:Option Fin1)(listed:Array Bool)(M:Nat),Lm ops.length listed M->(∀x∈order,Ql4 ops.length x)->Qjn M order=2^ops.length-1->(∀f,F=some f->QdZ fs f)->(∀f∈Fs,QdZ fs f)->Qg7 P r0 w0 CF X k ⟨ops⟩ (ZU P X.n ⟨ops⟩ (mkF (Qe fs fs) Fs F M order)) (Z0 F) (QdC order) listed
 | [],Fs,F,listed,M,hl,_,he,_,_=>λT H n R B ρ L' As Bs ht hs hR hB=>by
  have he':M=2^ops.length-1:=he;subst he';exact Qmv (QkZ hl) (ZC ρ.le_refl hs.hp hR hB) (ht ρ L' As ρ.le_refl hs)
 | .two i j ps::order,Fs,F,listed,M,hl,hlt,he,hFo,hFs=>by
  intro T H n R B ρ L' As Bs ht hs hR hB;obtain⟨hi,hj,hps⟩:=hlt _ (List.mem_cons_self ..);have he':Qjn (Q1 (addL (i::ps) M) j) order=2^ops.length-1:=he;simp only[mkF,ZU]at ht;split at ht
  ·rename_i oj e2;obtain⟨dstj,opj,tyj,posj,aftj,gj⟩:=oj;unfold dTwo at ht;simp only[]at ht;split at ht
   ·rename_i dj c hnc;cases hc:QfZ (Qe fs fs) (addL (i::ps) M) j&&Nat.blt dj X.n with
    | false=>rw[hc]at ht;exact ht.elim
    | true=>
     rw[hc]at ht;simp only[cond_true]at ht;simp only[Bool.and_eq_true]at hc;split at ht
     ·rename_i r hr;obtain⟨T2,H2,n2⟩:=r;have hF0:∀r,CallOk P r ⟨CF.f,CF.e,noY⟩:=λr=>⟨hF.f,hF.e,QaT⟩;have hlen:QdC (.two i j ps::order)=QdC order+(i::ps).length+1:=by simp only[QdC,List.length_cons];omega
      rw[hlen];have QcH:en (Qdz (pth dj) T) dj=none:=Yl _ _ _
      refine Qg4 (fuel:=QdC order) (Mf:=Q1 (addL (i::ps) M) j) (ρb:=ρ) hF0 hP hf e2 hnc hc.2 hj hR ?_ (i::ps) M listed (Qdz (pth dj) T) H n ρ L' As hl (λq hq=>by
       rcases List.mem_cons.1 hq with rfl|hq
       ·exact hi
       ·exact hps q hq) (λ_=>rfl) hc.1 hr ρ.le_refl hs.sr.del0 QcH hs.hp hs.fr hB
      intro listed2 ρ2 L2 As2 hl2 hle2 hfr2 hsr2 hp2 hB2;have:=Qbd hF hP hf order Fs F listed2 _ hl2 (λx hx=>hlt x (List.mem_cons_of_mem _ hx)) he' hFo hFs _ _ _ R B ρ2 L2 As2 Bs (ht.mono hle2) ⟨Rho.le_trans hs.le hle2,hsr2,hp2,hfr2⟩ (QS (λ_ _=>Qcm hle2 _ _) hR) hB2;rw[hle2.2]at this;exact this
     ·exact ht.elim
   ·exact ht.elim
  ·exact ht.elim
 | .one i::order,Fs,F,listed,M,hl,hlt,he,hFo,hFs=>by
  intro T H n R B ρ L' As Bs ht hs hR hB;have hi:i<ops.length:=hlt _ (List.mem_cons_self ..);have he':Qjn (Q1 M i) order=2^ops.length-1:=he
  have ih:Qg7 P r0 w0 CF X k ⟨ops⟩ (ZU P X.n ⟨ops⟩ (mkF (Qe fs fs) (Bool.rec Fs Fs.tail (isF F i)) (Bool.rec F Fs.head? (isF F i)) (Q1 M i) order)) (if(Z0 F).contains i then((Fs.map λf=>[f.i]).headD [])else Z0 F) (QdC order) (listed.setIfInBounds i true):=by
   rw[Qa8];cases hc:isF F i with
   | false=>exact Qbd hF hP hf order Fs F _ _ (hl.set hi) (λj hj=>hlt j (List.mem_cons_of_mem _ hj)) he' hFo hFs
   | true=>
    have:=Qbd hF hP hf order Fs.tail Fs.head? _ _ (hl.set hi) (λj hj=>hlt j (List.mem_cons_of_mem _ hj)) he' (λf e=>hFs f (List.mem_of_mem_head? (by rw[e];rfl))) (λf e=>hFs f (List.mem_of_mem_tail e));cases Fs with
    | nil=>exact this
    | cons f Fs=>exact this
  obtain⟨s1,s2,s3,s4⟩:=Qkl (i:=i) hf hl hFo
  have s5:(Qbt (Qe fs fs) F M i).turn.isSome=(Z0 F).contains i:=by
   rw[QgP,Qa8];cases isF F i<;>rfl
  simp only[mkF,ZU,s4]at ht;split at ht
  ·rename_i o ho;obtain⟨dst,op,ty,pos,aft,guard⟩:=o;cases guard with
   | none=>exact Qjj (Fs:=Fs.map λf=>[f.i]) hF hP s1 s2 s3 s5 ih ho ht hs hR hB (.inl rfl)
   | some jw=>
    obtain⟨j,want⟩:=jw;simp only[]at ht;split at ht
    ·rename_i dj hj;simp only[]at ht;split at ht
     ·rename_i b hb;obtain⟨u,e1,e2⟩:=hs.sr.get (show en T dj=_ from hb);injection e2 with e2
      subst e2;cases hw:b==want with
      | true=>
       rw[hw]at ht;exact Qjj (Fs:=Fs.map λf=>[f.i]) hF hP s1 s2 s3 s5 ih ho ht hs hR hB (.inr ⟨j,want,dj,b,rfl,hj,e1,by simpa using hw⟩)
      | false=>
       rw[hw]at ht;exact Qhn (Fs:=Fs.map λf=>[f.i]) s1 s3 s5 ih ho hj e1 (.inl (by cases b<;>cases want<;>simp_all)) ht hs hR hB
     ·rename_i hb;obtain⟨u,e1,e2⟩:=hs.sr.get (show en T dj=_ from hb);injection e2 with e2
      subst e2;exact Qhn (Fs:=Fs.map λf=>[f.i]) s1 s3 s5 ih ho hj e1 (.inr rfl) ht hs hR hB
     ·exact ht.elim
    ·exact ht.elim
  ·exact ht.elim
end
end Ev
end Gx
