/- Contracts of the program's functions, proved by walking them with the rules of the Gx texts; without conditions beyond those that each contract names. -/
import Derived.WalkKit
import Derived.Deep.Draws
import Derived.TacticsIn
import Derived.OrdersIn
import Derived.RangeFuncLeaves
import Derived.Lib.Strings
import Derived.Laws.BytesArg
import Derived.Laws.IdiomStrings
import Derived.Deep.Quiet
import Derived.ProofKit
import Derived.OpenShut
import Derived.Laws.StructEq
import Derived.ChangeKeysEq
import Derived.Laws.Externs
import Derived.Lib.Overlaps
import Derived.Carry
import Derived.Laws.Small
import Derived.Lib.Bytealg
import Derived.Shelf.Small.Strs
import Derived.Shelf.Small.Wraps
import Derived.Shelf.Strconv.Itoa0
import Derived.Shelf.Strconv.Itoa1
import Derived.Shelf.LaysM
import Derived.Shelf.Strconv.Itoa2
import Derived.Shelf.Strconv.Itoa3
import Derived.Shelf.Strings.Search1
import Derived.Shelf.Strings.Search2
import Derived.Shelf.Strings.Cut
import Derived.Shelf.Strings.Shaped
import Derived.Shelf.Strings.LastIndex
import Derived.Shelf.Strings.LastIndexAll
import Derived.Shelf.Strings.Prefix
import Derived.Shelf.Slices.Turned
import Derived.Shelf.Slices.Reverse
import Derived.Shelf.Slices.Equal
import Derived.Ground.Names2Prog
import Derived.Shelf.Slices.Clone
import Derived.Shelf.Slices.SearchI
import Derived.Shelf.Slices.Delete
import Derived.Shelf.Slices.Cells
import Derived.Shelf.Slices.Empties
import Derived.Shelf.Slices.Empties2
import Derived.Ground.SlgnProg
import Derived.Shelf.SlicesE.Reverse
import Derived.Shelf.SlicesE.Delete
import Derived.Shelf.SlicesE.Clone
import Derived.Test.YtmhkomoiamljeaaGreatDoorProg
import Derived.KernelRfl
import Derived.Lib.LastIndexByte
import Derived.Lib.ItoaNum
import Derived.Lib.SmallJoins
import Derived.Lib.AppendIntMem
import Derived.RangeFuncRecord
import Derived.Lib.Builder
import Derived.Laws.Pointers
import Derived.Test.YtmhkomoiamljeaaGreatDoorTie
import Derived.Test.YtmhkomoiamljeaaGreatDoorCards
import Derived.SevenTiedAt
import Derived.LaidMore
import Derived.Lay
import Derived.Stop.Joined
import Derived.Test.YtmhkomoiamljeaaGreatDoorP2
set_option linter.unusedSimpArgs false
set_option maxHeartbeats 1000000
set_option linter.unusedVariables false
set_option linter.unusedSectionVars false
set_option linter.unnecessarySimpa false
namespace Gx
namespace Ev
open Go Go.RowKit
structure Stp where
 i:Nat
 okP:Bool
 okQ:Bool
 okH:Bool
 turn:Option (List Nat)
def onF(F:List Nat)(i:Nat):Bool:=F.all λf=>!Nat.beq f i
def Qme(n:Nat):List (List Nat):=[]::(List.range n).map λj=>[j]
def QuB(ops:Array Oper):Array Bool->List Nat->Bool
 | listed,[]=>Region.ready .any ops listed==[]
 | listed,i::r=>QuB ops (listed.setIfInBounds i true) r
noncomputable def Qr1:Option Addr->Option Addr->Bool
 | none,none=>true
 | some ⟨a,b,none⟩,some ⟨c,d,none⟩=>Nat.beq a c&&Nat.beq b d
 | some ⟨a,b,some e⟩,some ⟨c,d,some f⟩=>Nat.beq a c&&(Nat.beq b d&&Nat.beq e f)
 | _,_=>false
theorem Qmz{a b:Option Addr}(h:Qr1 a b=true):a=b:=by
 unfold Qr1 at h;split at h<;>simp_all
noncomputable def eqA:Value->Value->Bool
 | .int k (.ofNat a),.int k' (.ofNat b)=>kEq k k'&&Nat.beq a b
 | .bool a,.bool b=>a==b
 | .string ⟨⟨a⟩⟩,.string ⟨⟨b⟩⟩=>QrS a b
 | .pointer a,.pointer b=>Qr1 a b
 | .slice a l c,.slice b l' c'=>Qr1 a b&&(Nat.beq l l'&&Nat.beq c c')
 | .map (some a),.map (some b)=>Nat.beq a b
 | .map none,.map none=>true
 | .nilFunc,.nilFunc=>true
 | _,_=>false
theorem QlA{a b:Value}(h:eqA a b=true):a=b:=by
 unfold eqA at h;split at h
 ·simp only[Bool.and_eq_true]at h;rw[QcK h.1,Nat.eq_of_beq_eq_true h.2]
 ·grind
 ·grind[QfB]
 ·rw[Qmz h]
 ·simp only[Bool.and_eq_true]at h;rw[Qmz h.1,Nat.eq_of_beq_eq_true h.2.1,Nat.eq_of_beq_eq_true h.2.2]
 ·simp_all
 ·rfl
 ·rfl
 ·cases h
def eqL(f:Value->Value->Bool):List Value->List Value->Bool
 | [],[]=>true
 | a::l,b::m=>f a b&&eqL f l m
 | _,_=>false
theorem Qjd{f:Value->Value->Bool}(hf:∀a b,f a b=true->a=b):∀{l m:List Value},eqL f l m=true->l=m
 | [],[],_=>rfl
 | a::l,b::m,h=>by
  simp only[eqL,Bool.and_eq_true]at h;rw[hf a b h.1,Qjd hf h.2]
 | [],_::_,h=>by cases h
 | _::_,[],h=>by cases h
noncomputable def eqF:Value->Value->Bool
 | .func (.func f) ⟨a⟩ ⟨b⟩,.func (.func g) ⟨c⟩ ⟨d⟩=>Nat.beq f g&&(eqL eqA a c&&eqL eqA b d)
 | a,b=>eqA a b
theorem Quw{a b:Value}(h:eqF a b=true):a=b:=by
 unfold eqF at h;split at h
 ·simp only[Bool.and_eq_true]at h;rw[Nat.eq_of_beq_eq_true h.1,Qjd (λ_ _=>QlA) h.2.1,Qjd (λ_ _=>QlA) h.2.2]
 ·exact QlA h
noncomputable def Qwd(x y:HB):Bool:=Nat.beq x.ty y.ty&&(Nat.beq x.sz y.sz&&eqL eqF x.cs y.cs)
theorem QtF{x y:HB}(h:Qwd x y=true):x=y:=by
 simp only[Qwd,Bool.and_eq_true]at h;obtain⟨a,b,c⟩:=x;obtain⟨d,e,f⟩:=y;simp only at h;rw[Nat.eq_of_beq_eq_true h.1,Nat.eq_of_beq_eq_true h.2.1,Qjd (λ_ _=>Quw) h.2.2]
def QsC:List Int->List Int->Bool
 | [],[]=>true
 | a::l,b::m=>decide (a=b)&&QsC l m
 | _,_=>false
theorem QmT:∀{l m:List Int},QsC l m=true->l=m
 | [],[],_=>rfl
 | a::l,b::m,h=>by
  simp only[QsC,Bool.and_eq_true,decide_eq_true_eq]at h;rw[h.1,QmT h.2]
 | [],_::_,h=>by cases h
 | _::_,[],h=>by cases h
noncomputable def Qq4:HX->HX->Bool
 | .row x,.row y=>Qwd x y
 | .mp x,.mp y=>QsC x y
 | _,_=>false
theorem Qtb{x y:HX}(h:Qq4 x y=true):x=y:=by
 unfold Qq4 at h
 grind[QtF,QmT]
noncomputable def QjG(H H':Hp)(R:List Nat):Bool:=List.rec true (λm _ ih=>match Yv H m with
 | some r=>(match Yv H' m with
  | some r'=>Bool.rec false ih (Qq4 r r')
  | none=>false)
 | none=>false) R
theorem QcB{H H':Hp}:∀{R:List Nat},QjG H H' R=true->∀m∈R,Yv H' m=Yv H m
 | [],_,m,hm=>by cases hm
 | a::R,h,m,hm=>by
  have h':(match Yv H a with
   | some r=>(match Yv H' a with
    | some r'=>Bool.rec false (QjG H H' R) (Qq4 r r')
    | none=>false)
   | none=>false)=true:=h
  split at h'
  ·rename_i r h1;split at h'
   ·rename_i r' h2;cases he:Qq4 r r' with
    | false=>rw[he]at h';cases h'
    | true=>
     rw[he]at h';rcases List.mem_cons.1 hm with rfl|hm
     ·rw[h1,h2,Qtb he]
     ·exact QcB h' m hm
   ·cases h'
  ·cases h'
abbrev DF:=CallF->Tr Value->Hp->Nat->List Nat->Rs
abbrev DS:=Clo DF
noncomputable def noD:DS:=⟨λ_ _ _ _ _=>.bad⟩
noncomputable def memN(m:Nat)(R:List Nat):Bool:=List.rec false (λa _ ih=>Bool.rec ih true (Nat.beq a m)) R
noncomputable def Qn1(m:Option Nat)(R:List Nat):List Nat:=Option.rec R (λk=>Bool.rec (k::R) R (memN k R)) m
noncomputable def yes(b:Bool)(r:Rs):Rs:=Bool.rec .bad r b
noncomputable def dOn(P:Program)(nt:Nat)(s:Stp)(o:Oper)(rest:DS):DS:=match o.dst with
 | some d=>bif Nat.blt d nt then⟨λF T H n R=>match(Qai P o.op).run F T H n with
  | .no=>.bad
  | .p v=>yes s.okP (rest.run F (Yr (pth d) d v T) H n R)
  | .q m v=>(match s.okH,s.turn with
   | true,none=>rest.run F (Yr (pth d) d v T) H n R
   | _,_=>yes s.okQ (rest.run F (Yr (pth d) d v T) H n (Qn1 m R)))
  | .new v x=>yes s.okH (match s.turn with
   | some _=>rest.run F (Yr (pth d) d v T) (YR H n x) (Nat.succ n) []
   | none=>rest.run F (Yr (pth d) d v T) (YR H n x) (Nat.succ n) R)
  | .h v H' n'=>yes s.okH (match s.turn with
   | some _=>rest.run F (Yr (pth d) d v T) H' n' []
   | none=>yes (QjG H H' R) (rest.run F (Yr (pth d) d v T) H' n' R))⟩else noD
 | none=>bif o.guard.isNone then⟨λF T H n R=>match(Qai P o.op).run F T H n with
  | .new v x=>yes s.okH (match s.turn with
   | some _=>rest.run F T (YR H n x) (Nat.succ n) []
   | none=>rest.run F T (YR H n x) (Nat.succ n) R)
  | .h v H' n'=>yes s.okH (match s.turn with
   | some _=>rest.run F T H' n' []
   | none=>yes (QjG H H' R) (rest.run F T H' n' R))
  | _=>.bad⟩else noD
noncomputable def Qtr(nt:Nat)(s:Stp)(dst:Option Nat)(rest:DS):DS:=match dst with
 | some d=>bif Nat.blt d nt then(match s.okP with
  | true=>⟨λF T H n R=>rest.run F (Yr (pth d) d undef T) H n R⟩
  | false=>match s.okH,s.turn with
   | true,some _=>⟨λF T H n R=>rest.run F (Yr (pth d) d undef T) H n []⟩
   | _,_=>noD)else noD
 | none=>noD
def XA(H:Hp):List Nat->List (Nat×HX)->Prop
 | [],[]=>True
 | m::R,(k,r)::B=>k=m/\Yv H m=some r/\m ∉ R/\XA H R B
 | _,_=>False
theorem XA.stay{H H':Hp}:∀{R:List Nat}{B:List (Nat×HX)},XA H R B->(∀m∈R,Yv H' m=Yv H m)->XA H' R B
 | [],[],_,_=>trivial
 | m::R,(k,r)::B,h,hs=>⟨h.1,by rw[hs m (List.mem_cons_self ..)];exact h.2.1,h.2.2.1,XA.stay h.2.2.2 λp hp=>hs p (List.mem_cons_of_mem _ hp)⟩
 | [],_::_,h,_=>h.elim
 | _::_,[],h,_=>h.elim
theorem XA.has{H:Hp}:∀{R:List Nat}{B:List (Nat×HX)},XA H R B->∀m∈R,∃r,Yv H m=some r
 | m::R,(k,r)::B,h,p,hp=>by
  rcases List.mem_cons.1 hp with rfl|hp
  ·exact⟨r,h.2.1⟩
  ·exact h.2.2.2.has p hp
 | [],_,_,p,hp=>by cases hp
 | _::_,[],h,_,_=>h.elim
theorem QhS{ρ:Rho}:∀{R:List Nat}{B:List (Nat×HX)}{H:Hp}{G:List (Nat×HX)}{As:List HA},(∀m r,Yv H m=some r->Qdi G m=some r)->Qu (ha ρ) G=some As->XA H R B->∃Bs Rs,Qu (ha ρ) B=some Bs/\As.Perm (Bs++Rs)
 | [],[],H,G,As,_,_,_=>⟨[],As,rfl,.refl _⟩
 | m::R,(k,r)::B,H,G,As,hG,hA,h=>by
  obtain⟨rfl,h1,h2,h3⟩:=h;obtain⟨A,Rs,g1,g4,_,As3,g6,g7,g8⟩:=Qi3 hA (hG _ _ h1)
  obtain⟨Bs,Rs2,h4,h5⟩:=QhS (H:=Qgk H k) (R:=R) (B:=B) (G:=QiL G k) (λp r' hp=>by
   obtain⟨e1,e2⟩:=Qki hp;rw[g8 p e1]
   exact hG _ _ e2) g6 (h3.stay λp hp=>by
    have hne:p≠k:=λe=>by subst e;exact h2 hp
    exact Qci hne)
  exact⟨A::Bs,Rs2,by simp only[Qu,g1,h4],g4.perm.trans ((g7.trans h5).cons _)⟩
 | [],_::_,_,_,_,_,_,h=>h.elim
 | _::_,[],_,_,_,_,_,h=>h.elim
theorem Qjp{ρ:Rho}{R:List Nat}{B:List (Nat×HX)}{H:Hp}{As:List HA}(hH:HM ρ H As)(hB:XA H R B):∃Bs Rs,Qu (ha ρ) B=some Bs/\As.Perm (Bs++ρ.ex++Rs):=by
 obtain⟨G,Bs0,h1,h2,rfl⟩:=hH;obtain⟨Bs,Rs,h3,h4⟩:=QhS h1 h2 hB;refine⟨Bs,Rs,h3,(h4.append_right _).trans ?_⟩;simp[List.append_assoc,List.perm_append_comm.append_left]
noncomputable def QeU:List (Nat×HX)->Hp
 | []=>.lf
 | (m,r)::B=>YR (QeU B) m r
theorem Qg5:∀{B:List (Nat×HX)}{m:Nat}{r:HX},Yv (QeU B) m=some r->Qdi B m=some r
 | [],m,r,h=>by
  have h':YS (pth m) m (.lf:Hp)=some r:=h;rw[Zd]at h';cases h'
 | (k,x)::B,m,r,h=>by
  simp only[Qdi];rcases Qgz h with⟨rfl,rfl⟩|⟨h1,h2⟩
  ·simp[Nat.beq_refl]
  ·have hq:Nat.beq k m=false:=by cases hz:Nat.beq k m<;>simp_all
   rw[hq];exact Qg5 h2
theorem Qns{ρ:Rho}{B:List (Nat×HX)}{Bs:List HA}(h:Qu (ha ρ) B=some Bs):HM ρ (QeU B) (Bs++ρ.ex):=⟨B,Bs,λ_ _=>Qg5,h,rfl⟩
theorem QhL{H:Hp}:∀{R:List Nat}{B:List (Nat×HX)},XA H R B->∀m∈R,Yv (QeU B) m=Yv H m
 | m::R,(k,r)::B,h,p,hp=>by
  obtain⟨rfl,h1,h2,h3⟩:=h;show Yv (YR (QeU B) k r) p=Yv H p
  by_cases hpk:p=k
  ·subst hpk;rw[h1];exact ZC _ _ _ _
  ·rcases List.mem_cons.1 hp with e|hp
   ·grind
   ·rw[Qfn hpk];exact QhL h3 p hp
 | [],_,_,p,hp=>by cases hp
 | _::_,[],h,_,_=>h.elim
section
variable{X:Ctx}{ops:Array Oper}{k:List KI}{L:Qc}{C B B':World->Prop}{F F':List Nat}{fuel:Nat}{listed:Array Bool}{P:Program}{w0:World}{CF:CallF}
theorem QsV(hB:∀w,B' w->B w)(h:D X ops F B' fuel listed k L C):D X ops F B fuel listed k L C:=λhcl a ha=>QiG hB (h hcl a ha)
theorem QmL(hf:∃f∈F,listed.getD f false=true)(h:D X ops F' B' fuel listed k L C):D X ops F B fuel listed k L C:=λhcl a ha=>Qiq hf (h hcl a ha)
theorem QvR{As:List HA}{B:World->Prop}{d i ty j:Nat}{op:Op}{pos:String}{aft:Array Edge}{want:Bool}{u:Value}(dj:Nat)(hi:ops[i]?=some ⟨some d,op,ty,pos,aft,some (j,want)⟩)(hj:(ops[j]?).bind (·.dst)=some dj)(hb:Qc.get L dj=some u)(hw:u=.bool (!want)\/u=undef)(hr:(Region.ready .any ops listed==[i])=true)(hB:∀w,HS w0 [] As w->B w)(hd:Nat.blt d X.n=true)
  (next:D X ops F B fuel (listed.setIfInBounds i true) k ((d,undef)::L) (HS w0 [] As)):D X ops F B (fuel+1) listed k L (HS w0 [] As):=by
 intro hcl a ha;have hr':Region.ready .any ops listed=[i]:=by simpa using hr
 refine QfP hr' (λ_=>⟨hB,HS.stab _ _ _⟩) ?_
 have hy:yielded ops a.tmps j=(match u with| .bool b=>some b|_=>none):=by
  rcases hw with rfl|rfl<;>simp[yielded,hj,ha.slot _ _ hb,undef]
 unfold Yp;simp only[hi];rw[if_neg (by rcases hw with rfl|rfl<;>simp[Region.wanted,hy,undef])];exact next (hcl.set (by rw[hr'];exact List.mem_singleton.2 rfl)) _ (ha.put d _ hd)
end
section
variable{P:Program}{r0:Rho}{w0:World}{CF:CallF}{X:Ctx}{k:List KI}{ops:Array Oper}
abbrev Got(ρ:Rho)(v:Value)(H':Hp)(n':Nat):Type:={x:Rho×List HA×Value // ρ.le x.1/\QQ x.1 n'/\den x.1 v=some x.2.2/\HM x.1 H' x.2.1}
theorem OpT.got{o:Oper}{L':Qc}{C:World->Prop}{ρ:Rho}{v:Value}{H':Hp}{n':Nat}(h:OpT P o L' C (Out w0 ρ v H' n')):OpH P o L' C (G:=Got ρ v H' n') (λx=>x.1.2.2) (λ_=>True) (λx=>HS w0 [] x.1.2.1):=by
 obtain⟨G,V,Fg,C',h1,h2⟩:=h;intro ag w hag hw;refine(h1 ag w hag hw).mono λu w'⟨g,e1,e2,e3⟩=>?_;obtain⟨ρ',As',g1,g2,g3,g4,g5⟩:=h2 g e2;exact⟨⟨(ρ',As',V g),g1,g2,g3,g4⟩,e1,trivial,g5 _ e3⟩
theorem QbP{ρ ρ':Rho}{H:Hp}{R:List Nat}{B:List (Nat×HX)}{As Bs:List HA}(hle:ρ.le ρ')(hH:HM ρ' H As)(hR:Qu (ha ρ) B=some Bs)(hB:XA H R B):∀w,HS w0 [] As w->HS w0 [] (Bs++ρ.ex) w:=by
 obtain⟨Bs',Rs,h1,h2⟩:=Qjp hH hB;have h3:=Xx (λ_ _=>QfI hle _ _) hR;rw[h1]at h3;injection h3 with h3
 subst h3;rw[<-hle.2];exactλw hw=>(hw.perm h2).sub (List.sublist_append_left ..)
theorem QhD{listed:Array Bool}{i:Nat}(h:(Region.ready .any ops listed==[i])=true):(listed.setIfInBounds i true).getD i false=true:=by
 have h1:i∈Region.ready .any ops listed:=by grind
 have h2:=(mem_ready.1 h1).1;have h3:i<listed.size:=by grind
 simp_all
theorem Qmg{F:List Nat}{i:Nat}(h:onF F i=true):F.contains i=false:=by
 cases hc:F.contains i with
 | false=>rfl
 | true=>
  have h1:=List.all_eq_true.1 h i (by simpa using hc)
  simp_all
theorem QnH{ops:Array Oper}{F:List Nat}{i:Nat}{ps:List (List Nat)}(h:Yf ops F i ps=true):F.contains i=false:=by grind[Qa0]
theorem Qct{m:Nat}:∀{R:List Nat},memN m R=true ↔ m∈R
 | []=>⟨(λh=>by cases h),(λh=>by cases h)⟩
 | a::R=>by
  have hu:memN m (a::R)=(Bool.rec (memN m R) true (Nat.beq a m):Bool):=rfl;rw[hu];cases hb:Nat.beq a m with
  | true=>exact⟨(λ_=>by rw[Nat.eq_of_beq_eq_true hb];exact List.mem_cons_self ..),λ_=>rfl⟩
  | false=>
   have hne:m≠a:=λe=>by subst e;rw[Nat.beq_refl]at hb;cases hb
   simp_all[Qct]
theorem QcC{b:Bool}{r:Rs}{ρ:Rho}{X:Ctx}{k:List KI}(h:Q8 r0 w0 ρ X k (yes b r)):b=true/\Q8 r0 w0 ρ X k r:=by
 cases b with
 | true=>exact⟨rfl,h⟩
 | false=>exact h.elim
theorem Qpm{H:Hp}{R:List Nat}{B:List (Nat×HX)}(hB:XA H R B)(m:Option Nat)(hm:∀k,m=some k->∃r,Yv H k=some r):∃B2,XA H (Qn1 m R) B2/\(∀k,m=some k->k∈Qn1 m R)/\(B2=B\/∃p,B2=p::B):=by
 cases m with
 | none=>exact⟨B,hB,(λk h=>by cases h),.inl rfl⟩
 | some m=>
  obtain⟨r,hr⟩:=hm m rfl;have hu:Qn1 (some m) R=(Bool.rec (m::R) R (memN m R):List Nat):=rfl;cases hb:memN m R with
  | true=>
   rw[hb]at hu
   grind[Qn1,Qct]
  | false=>
   rw[hb]at hu;have hu:Qn1 (some m) R=m::R:=hu;rw[hu];exact⟨(m,r)::B,⟨rfl,hr,(λh=>by rw[Qct.2 h]at hb;cases hb),hB⟩,(λk h=>by injection h with h;subst h;exact List.mem_cons_self ..),.inr ⟨_,rfl⟩⟩
theorem QsB{ρ:Rho}{B B2:List (Nat×HX)}{Bs Bs2:List HA}(hR:Qu (ha ρ) B=some Bs)(h:Qu (ha ρ) B2=some Bs2)(hc:B2=B\/∃p,B2=p::B):∀w,HS w0 [] (Bs2++ρ.ex) w->HS w0 [] (Bs++ρ.ex) w:=by
 rcases hc with rfl|⟨p,rfl⟩
 ·grind
 ·simp only[Qu,hR]at h;split at h
  ·rename_i b m h1 h2;injection h2 with h2
   injection h with h
   subst h h2;exactλw hw=>hw.tail
  ·cases h
theorem Qae{ρ:Rho}{H:Hp}{n:Nat}{As:List HA}{R:List Nat}{B:List (Nat×HX)}{x:HX}(hH:HM ρ H As)(hf:QQ ρ n)(hB:XA H R B):XA (YR H n x) R B:=by
 refine hB.stay λm hm=>Qfn λe=>?_;subst e;obtain⟨r,hr⟩:=hB.has m hm;obtain⟨A,Rs,g1,_⟩:=Qvz hH hr;obtain⟨x,hx⟩:=Qpk g1;rw[hf m (Nat.le_refl _)]at hx;cases hx
def Qm1(P:Program)(r0:Rho)(w0:World)(CF:CallF)(X:Ctx)(k:List KI)(ops:Array Oper)(rest:DS)(F:List Nat)(fuel:Nat)(listed:Array Bool):Prop:=
 ∀(T:Tr Value)(H:Hp)(n:Nat)(R:List Nat)(B:List (Nat×HX))(ρ:Rho)(L':Qc)(As Bs:List HA),Q8 r0 w0 ρ X k (rest.run CF T H n R)->StOk r0 w0 ρ ⟨T,H,n⟩ L' As->Qu (ha ρ) B=some Bs->XA H R B->D X ops F (HS w0 [] (Bs++ρ.ex)) fuel listed k L' (HS w0 [] As)
theorem Qrh(hF:CallOk P r0 CF)(hP:X.P=P){i:Nat}{dst:Option Nat}{op:Op}{ty:TypeId}{pos:String}{aft:Array Edge}{guard:Option (Nat×Bool)}{rest:DS}{Fs:List (List Nat)}{F:List Nat}{listed:Array Bool}{fuel:Nat}{s:Stp}
  (hsP:s.okP=true->(QO ops listed i&&onF F i)=true)(hsQ:s.okQ=true->(QO ops listed i&&(Yf ops F i (Qme ops.size)&&Qaq F listed))=true)(hsH:s.okH=true->(Region.ready .any ops listed==[i])=true)(hsT:s.turn.isSome=F.contains i)
  (ih:Qm1 P r0 w0 CF X k ops rest (if F.contains i then Fs.headD []else F) fuel (listed.setIfInBounds i true))
  (ho:ops[i]?=some ⟨dst,op,ty,pos,aft,guard⟩){T:Tr Value}{H:Hp}{n:Nat}{R:List Nat}{B:List (Nat×HX)}{ρ:Rho}{L':Qc}{As Bs:List HA}
  (ht:Q8 r0 w0 ρ X k ((dOn P X.n s ⟨dst,op,ty,pos,aft,guard⟩ rest).run CF T H n R))(hs:StOk r0 w0 ρ ⟨T,H,n⟩ L' As)(hR:Qu (ha ρ) B=some Bs)(hB:XA H R B)
  (hon:guard=none\/∃j want dj b,guard=some (j,want)/\(ops[j]?).bind (·.dst)=some dj/\Qc.get L' dj=some (.bool b)/\b=want):D X ops F (HS w0 [] (Bs++ρ.ex)) (fuel+1) listed k L' (HS w0 [] As):=by
 have hc:=Qc5 P op CF hF.fok T H n
 have mk:∀(v:Value)(H':Hp)(n':Nat),Xr P (en T) H n CF op=some (.h v H' n')->s.okH=true->(guard.isNone||dst.isSome)=true ->
   ((F.contains i=true/\∀T2,(∀d,dst=some d->Nat.blt d X.n=true/\T2=Yr (pth d) d v T)->(dst=none->T2=T)->Q8 r0 w0 ρ X k (rest.run CF T2 H' n' []))\/(F.contains i=false/\XA H' R B/\∀T2,(∀d,dst=some d->Nat.blt d X.n=true/\T2=Yr (pth d) d v T)->(dst=none->T2=T)->Q8 r0 w0 ρ X k (rest.run CF T2 H' n' R))) ->
   (∀d,dst=some d->Nat.blt d X.n=true)->D X ops F (HS w0 [] (Bs++ρ.ex)) (fuel+1) listed k L' (HS w0 [] As):=by
  intro v H' n' h1 h2 hgd hcase hdn;replace h2:=hsH h2;have ha:=Z7 (w0:=w0) (L':=L') (o:=⟨dst,op,ty,pos,aft,none⟩) hF hs.le rfl hs.sr hs.hp hs.fr h1;have hH:=OpT.got ha;rw[<-hP]at hH;have hbase:=QbP (w0:=w0) ρ.le_refl hs.hp hR hB
  have next:∀(T2:Tr Value)(x:Got ρ v H' n')(L3:Qc),SR x.1.1 (en T2) L3->(∀d,dst=some d->Nat.blt d X.n=true/\T2=Yr (pth d) d v T)->(dst=none->T2=T)->D X ops F (HS w0 [] (Bs++ρ.ex)) fuel (listed.setIfInBounds i true) k L3 (HS w0 [] x.1.2.1):=by
   intro T2 x L3 hsr e1 e2;obtain⟨⟨ρ',As',u⟩,g1,g2,g3,g4⟩:=x;rcases hcase with⟨hfi,h⟩|⟨hfi,hst,h⟩
   ·simp only[hfi,if_true]at ih;refine QmL (B':=HS w0 [] ([]++ρ'.ex)) (F':=Fs.headD []) ⟨i,by simpa using hfi,QhD h2⟩ ?_;exact ih T2 H' n' [] [] ρ' L3 As' [] ((h T2 e1 e2).mono g1) ⟨Rho.le_trans hs.le g1,hsr,g4,g2⟩ rfl trivial
   ·simp only[hfi,Bool.false_eq_true,if_false]at ih;rw[<-g1.2];exact ih T2 H' n' R B ρ' L3 As' Bs ((h T2 e1 e2).mono g1) ⟨Rho.le_trans hs.le g1,hsr,g4,g2⟩ (Xx (λ_ _=>QfI g1 _ _) hR) hst
  cases dst with
  | some d=>
   have hlt:=hdn d rfl;have hn:=λ(x:Got ρ v H' n')(_:True)=>next (Yr (pth d) d v T) x ((d,x.1.2.2)::L') ((hs.sr.mono x.2.1).set x.2.2.2.1) (λd' e=>by injection e with e;subst e;exact⟨hlt,rfl⟩) (λe=>by cases e)
   rcases hon with hn'|⟨j,want,dj,b,hn',hj,hb,hw⟩
   ·subst hn';exact d_h i ho hH h2 hbase hlt hn
   ·subst hn';exact Qic i dj ho hj hb hw hH h2 hbase hlt hn
  | none=>
   have hn:=λ(x:Got ρ v H' n')(_:True)=>next T x L' (hs.sr.mono x.2.1) (λd' e=>by cases e) (λ_=>rfl)
   cases guard with
   | none=>exact QnK i ho hH h2 hbase hn
   | some jw=>cases hgd
 have turnT:∀y,s.turn=some y->F.contains i=true:=λy hy=>by
  cases hfi:F.contains i with
  | true=>rfl
  | false=>rw[hy,hfi]at hsT;cases hsT
 have turnF:s.turn=none->F.contains i=false:=λhy=>by
  cases hfi:F.contains i with
  | false=>rfl
  | true=>rw[hy,hfi]at hsT;cases hsT
 cases dst with
 | some d=>
  simp only[dOn]at ht;cases hb:Nat.blt d X.n with
  | false=>rw[hb]at ht;exact ht.elim
  | true=>
   rw[hb]at ht;simp only[cond_true]at ht;cases hr:(Qai P op).run CF T H n with
   | no=>rw[hr]at ht;exact ht.elim
   | p v=>
    rw[hr]at hc ht;obtain⟨hok,ht⟩:=QcC ht;replace hok:=hsP hok;rw[Bool.and_eq_true]at hok;obtain⟨u,e1,e2⟩:=Z7 (w0:=w0) (L':=L') (o:=⟨some d,op,ty,pos,aft,none⟩) hF hs.le rfl hs.sr hs.hp hs.fr hc;rw[<-hP]at e1;have hfi:=Qmg hok.2;simp only[hfi,Bool.false_eq_true,if_false]at ih;have next:D X ops F (HS w0 [] (Bs++ρ.ex)) fuel (listed.setIfInBounds i true) k ((d,u)::L') (HS w0 [] As):=ih _ H n R B ρ _ As Bs ht ⟨hs.le,hs.sr.set e2,hs.hp,hs.fr⟩ hR hB
    rcases hon with hn|⟨j,want,dj,b,hn,hj,hb',hw⟩
    ·subst hn;exact d_p i ho e1 hok.1 hok.2 hb next
    ·subst hn;exact Ql5 i dj ho hj hb' hw e1 hok.1 hok.2 hb next
   | q m v=>
    rw[hr]at hc ht;simp only[]at ht;split at ht
    ·rename_i hokH hturn;have hok:=hsH hokH;have hfi:=turnF hturn;simp only[hfi,Bool.false_eq_true,if_false]at ih;obtain⟨u,e1,e2⟩:=Z7 (w0:=w0) (L':=L') (o:=⟨some d,op,ty,pos,aft,none⟩) hF hs.le rfl hs.sr hs.hp hs.fr (hc.1 H λ_ _=>rfl);rw[<-hP]at e1;have next:D X ops F (HS w0 [] (Bs++ρ.ex)) fuel (listed.setIfInBounds i true) k ((d,u)::L') (HS w0 [] As):=ih _ H n R B ρ _ As Bs ht ⟨hs.le,hs.sr.set e2,hs.hp,hs.fr⟩ hR hB
     have hbase:=QbP (w0:=w0) ρ.le_refl hs.hp hR hB;rcases hon with hn|⟨j,want,dj,b,hn,hj,hb',hw⟩
     ·subst hn;exact d_h i ho (e1.h (HS.stab _ _ _)) hok hbase hb λ_ _=>next
     ·subst hn;exact Qic i dj ho hj hb' hw (e1.h (HS.stab _ _ _)) hok hbase hb λ_ _=>next
    obtain⟨hok,ht⟩:=QcC ht;replace hok:=hsQ hok;simp only[Bool.and_eq_true]at hok;obtain⟨B2,b1,b2,b3⟩:=Qpm hB m hc.2;obtain⟨Bs2,Rs,g1,g2⟩:=Qjp hs.hp b1;have hev:=hc.1 (QeU B2) λk hk=>QhL b1 k (b2 k hk);obtain⟨u,e1,e2⟩:=Z7 (w0:=w0) (L':=L') (o:=⟨some d,op,ty,pos,aft,none⟩) hF hs.le rfl hs.sr (Qns g1) hs.fr hev;rw[<-hP]at e1;have hfi:=QnH hok.2.1;simp only[hfi,Bool.false_eq_true,if_false]at ih;have next:D X ops F (HS w0 [] (Bs2++ρ.ex)) fuel (listed.setIfInBounds i true) k ((d,u)::L') (HS w0 [] As):=ih _ H n _ B2 ρ _ As Bs2 ht ⟨hs.le,hs.sr.set e2,hs.hp,hs.fr⟩ g1 b1
    refine QsV (QsB hR g1 b3) ?_;rcases hon with hn|⟨j,want,dj,b,hn,hj,hb',hw⟩
    ·subst hn;exact d_q i _ ho e1 hok.1 hok.2.1 hok.2.2 hb next
    ·subst hn;exact QtW i dj _ ho hj hb' hw e1 hok.1 hok.2.1 hok.2.2 hb next
   | new v x=>
    rw[hr]at hc ht;obtain⟨hok,ht⟩:=QcC ht;refine mk v (YR H n x) (n+1) hc hok (by simp) ?_ (λd' e=>by injection e with e;subst e;exact hb);split at ht
    ·rename_i y hy;exact .inl ⟨turnT y hy,λT2 e1 _=>by rw[(e1 d rfl).2];exact ht⟩
    ·rename_i hy;exact .inr ⟨turnF hy,Qae hs.hp hs.fr hB,λT2 e1 _=>by rw[(e1 d rfl).2];exact ht⟩
   | h v H' n'=>
    rw[hr]at hc ht;obtain⟨hok,ht⟩:=QcC ht;refine mk v H' n' hc hok (by simp) ?_ (λd' e=>by injection e with e;subst e;exact hb);split at ht
    ·rename_i y hy;exact .inl ⟨turnT y hy,λT2 e1 _=>by rw[(e1 d rfl).2];exact ht⟩
    ·rename_i hy;obtain⟨hk,ht⟩:=QcC ht;exact .inr ⟨turnF hy,hB.stay (QcB hk),λT2 e1 _=>by rw[(e1 d rfl).2];exact ht⟩
 | none=>
  simp only[dOn]at ht;cases hg:guard.isNone with
  | false=>rw[hg]at ht;exact ht.elim
  | true=>
   rw[hg]at ht;simp only[cond_true]at ht;cases hr:(Qai P op).run CF T H n with
   | no=>rw[hr]at ht;exact ht.elim
   | p v=>rw[hr]at ht;exact ht.elim
   | q m v=>rw[hr]at ht;exact ht.elim
   | new v x=>
    rw[hr]at hc ht;obtain⟨hok,ht⟩:=QcC ht;refine mk v (YR H n x) (n+1) hc hok (by simp[hg]) ?_ (λd' e=>by cases e);split at ht
    ·rename_i y hy;exact .inl ⟨turnT y hy,λT2 _ e2=>by rw[e2 rfl];exact ht⟩
    ·rename_i hy;exact .inr ⟨turnF hy,Qae hs.hp hs.fr hB,λT2 _ e2=>by rw[e2 rfl];exact ht⟩
   | h v H' n'=>
    rw[hr]at hc ht;obtain⟨hok,ht⟩:=QcC ht;refine mk v H' n' hc hok (by simp[hg]) ?_ (λd' e=>by cases e);split at ht
    ·rename_i y hy;exact .inl ⟨turnT y hy,λT2 _ e2=>by rw[e2 rfl];exact ht⟩
    ·rename_i hy;obtain⟨hk,ht⟩:=QcC ht;exact .inr ⟨turnF hy,hB.stay (QcB hk),λT2 _ e2=>by rw[e2 rfl];exact ht⟩
end
end Ev
namespace Ev
open Go Go.RowKit
noncomputable def has(M i:Nat):Bool:=Bool.not (Nat.beq (Nat.land M (Nat.pow 2 i)) 0)
theorem Qa2(M i:Nat):has M i=M.testBit i:=by
 unfold has;cases h:M.testBit i with
 | true=>
  cases hb:Nat.beq (Nat.land M (Nat.pow 2 i)) 0 with
  | false=>rfl
  | true=>
   have h0:M &&& 2^i=0:=Nat.eq_of_beq_eq_true hb;have:=congrArg (λx=>x.testBit i) h0
   grind
 | false=>
  have h0:M &&& 2^i=0:=by
   apply Nat.eq_of_testBit_eq
   grind
  simp_all
noncomputable def Zy(a M:Nat):Bool:=Nat.beq (Nat.land a M) a
theorem Qgl{a M:Nat}(h:Zy a M=true){j:Nat}(hj:a.testBit j=true):M.testBit j=true:=by
 have h0:a &&& M=a:=Nat.eq_of_beq_eq_true h
 grind
theorem Qjr{a M:Nat}(h:Zy a M=false):∃j,a.testBit j=true/\M.testBit j=false:=by
 refine Classical.byContradiction λhn=>?_
 have h0:a &&& M=a:=by
  apply Nat.eq_of_testBit_eq
  grind
 simp_all[Zy]
noncomputable def XN(M i:Nat):Nat:=Nat.lor M (Nat.pow 2 i)
theorem Qax(M i j:Nat):(XN M i).testBit j=(M.testBit j||decide (i=j)):=by
 show(M ||| 2^i).testBit j=_
 grind
noncomputable def QhZ(l:List Edge):Nat:=List.rec 0 (λe _ ih=>Bool.rec ih (XN ih e.on) (Region.binds .any e)) l
theorem QhH(y:Nat):∀l:List Edge,(QhZ l).testBit y=l.any λe=>Region.binds .any e&&Nat.beq e.on y
 | []=>by show(0:Nat).testBit y=_;simp
 | e::l=>by
  have hu:QhZ (e::l)=(Bool.rec (QhZ l) (XN (QhZ l) e.on) (Region.binds .any e):Nat):=rfl;rw[hu,List.any_cons,<-QhH y l];cases Region.binds .any e with
  | false=>rfl
  | true=>
   show(XN (QhZ l) e.on).testBit y=_;rw[Qax];have:decide (e.on=y)=Nat.beq e.on y:=by rw[Bool.eq_iff_iff,decide_eq_true_eq,Nat.beq_eq]
   grind
def Z4:Operand->List Nat->List Nat
 | .tmp t,l=>t::l
 | _,l=>l
def Qfp:List Operand->List Nat
 | []=>[]
 | x::l=>Z4 x (Qfp l)
def Qjy:List (Nat×Operand)->List Nat
 | []=>[]
 | (_,x)::l=>Z4 x (Qjy l)
def QjN:Option Operand->List Nat->List Nat
 | some x,l=>Z4 x l
 | none,l=>l
def opT:Op->Option (List Nat)
 | .alloc _| .makeMap _ none=>some []
 | .move x| .assign x| .box _ x| .load _ x| .nilCheck x| .unOp _ _ x| .convert _ _ x| .fieldAddr _ x _| .field _ x _| .extract x _=>some (Z4 x [])
 | .pick c a b=>some (Z4 c (Z4 a (Z4 b [])))
 | .build _ ⟨ps⟩| .buildSlice _ _ ⟨ps⟩=>some (Qjy ps)
 | .store _ a v| .binOp _ _ a v _| .makeSlice _ a v| .indexAddr _ a v| .index _ a v| .lookup _ a v _=>some (Z4 a (Z4 v []))
 | .mapUpdate _ a b c=>some (Z4 a (Z4 b (Z4 c [])))
 | .makeFunc _ ⟨f⟩ ⟨c⟩=>some (Qfp f++Qfp c)
 | .slice _ x l h m=>some (Z4 x (QjN l (QjN h (QjN m []))))
 | .call ⟨.value f,⟨args⟩,_⟩=>some (Z4 f (Qfp args))
 | .call ⟨.builtin _,⟨args⟩,_⟩=>some (Qfp args)
 | _=>none
theorem Qda{x:Operand}{l:List Nat}{t:Nat}:t∈Z4 x l ↔ x=.tmp t\/t∈l:=by
 cases x<;>simp[Z4,eq_comm]
theorem QhN{t:Nat}:∀{l:List Operand},t∈Qfp l ↔ Operand.tmp t∈l
 | []=>by simp[Qfp]
 | x::l=>by simp only[Qfp,Qda,QhN,List.mem_cons];simp[eq_comm]
theorem QhF{t:Nat}:∀{l:List (Nat×Operand)},t∈Qjy l ↔ Operand.tmp t∈l.map (·.2)
 | []=>by simp[Qjy]
 | (i,x)::l=>by simp only[Qjy,Qda,QhF,List.map_cons,List.mem_cons];simp[eq_comm]
theorem Qn4{t:Nat}{o:Option Operand}{l:List Nat}:t∈QjN o l ↔ o=some (.tmp t)\/t∈l:=by
 cases o<;>simp[QjN,Qda]
theorem Qtw{op:Op}{l:List Nat}(h:opT op=some l){t:Nat}(ht:Operand.tmp t∈op.operands):t∈l:=by
  unfold opT at h
  split at h<;>first
    | (cases h;done)
    | (injection h with h;subst h
       simp only[Op.operands,Call.operands,Array.mem_append,List.mem_toArray,Option.mem_toArray,List.mem_map,Qda,QhN,QhF,Qn4,List.mem_append,List.mem_cons,List.mem_nil_iff,or_false,Option.mem_def,List.mem_singleton,List.not_mem_nil,false_or]at ht ⊢
       all_goals (first|exact ht|grind))
def gdT(ops:List Oper):Option (Nat×Bool)->List Nat
 | none=>[]
 | some (g,_)=>match ops[g]? with
  | some o=>(match o.dst with
   | some d=>[d]
   | none=>[])
  | none=>[]
structure Inf where
 em:Nat
 dst:Option Nat
 lk:List Nat
noncomputable def ZJ(ops:List Oper)(o:Oper):Option Inf:=match opT o.op,o.after with
 | some l,⟨es⟩=>some ⟨QhZ es,o.dst,gdT ops o.guard++l⟩
 | none,_=>none
theorem Qby{ops:List Oper}{o:Oper}{f:Inf}(h:ZJ ops o=some f)(y:Nat):f.em.testBit y=o.after.any λe=>Region.binds .any e&&Nat.beq e.on y:=by
 unfold ZJ at h;split at h
 ·rename_i l es h1 h2
  grind[QhH]
 ·cases h
theorem Qfk{ops:List Oper}{o:Oper}{f:Inf}(h:ZJ ops o=some f){t:Nat}(ht:t∈o.looksAt ⟨ops⟩):t∈f.lk:=by
 unfold ZJ at h;split at h
 ·rename_i l es h1 h2;injection h with h
  subst h;simp only[List.mem_append];unfold Oper.looksAt at ht
  grind[Qtw,gdT]
 ·cases h
theorem Qia{ops:List Oper}{o:Oper}{f:Inf}(h:ZJ ops o=some f):f.dst=o.dst:=by grind[ZJ]
theorem Qni{ops:List Oper}{o:Oper}{f:Inf}(h:ZJ ops o=some f)(cs:Array SelectCase)(b:Bool):o.op≠ .select cs b:=by
 intro e;unfold ZJ at h;rw[e]at h;cases h
noncomputable def eqON(a:Nat)(b:Option Nat):Bool:=Option.rec false (λb=>Nat.beq a b) b
noncomputable def apF(x y:Inf):Bool:=Bool.rec false (match y.dst with
  | some e=>Bool.not (memN e x.lk)
  | none=>true) (match x.dst with
 | some d=>Bool.rec (Bool.not (eqON d y.dst)) false (memN d y.lk)
 | none=>true)
theorem Qvr{ops:List Oper}{x y:Oper}{fx fy:Inf}(hx:ZJ ops x=some fx)(hy:ZJ ops y=some fy)(h:apF fx fy=true):x.apart ⟨ops⟩ y=true:=by
 unfold apF at h;rw[Qia hx,Qia hy]at h;unfold Oper.apart
 have ny:∀d,memN d fy.lk=false->d ∉ y.looksAt ⟨ops⟩:=λd hd hc=>by
  have:=Qct.2 (Qfk hy hc);rw[hd]at this;cases this
 have nx:∀d,memN d fx.lk=false->d ∉ x.looksAt ⟨ops⟩:=λd hd hc=>by
  have:=Qct.2 (Qfk hx hc);rw[hd]at this;cases this
 have h2:∀e,y.dst=some e->memN e fx.lk=false:=by
  intro e he;rw[he]at h;cases hm:memN e fx.lk with
  | false=>rfl
  | true=>
   simp only[hm,Bool.not_true]at h;have hz:∀b:Bool,(Bool.rec false false b:Bool)=true->False:=λb hb=>by cases b<;>cases hb
   grind
 have h1:∀d,x.dst=some d->memN d fy.lk=false/\y.dst≠some d:=by
  intro d hd;rw[hd]at h;simp only[]at h;cases hm:memN d fy.lk with
  | true=>rw[hm]at h;cases h
  | false=>
   rw[hm]at h;refine⟨rfl,λe=>?_⟩
   simp_all[eqON]
 grind
noncomputable def Qfu(i:Nat)(f:Inf)(l:List (Nat×Inf)):Nat:=List.rec 0 (λp _ ih=>Bool.rec (Bool.rec (Bool.rec (XN ih p.1) ih (apF f p.2)) ih (has p.2.em i)) ih (Nat.beq p.1 i)) l
theorem QjE{i:Nat}{f:Inf}:∀{l:List (Nat×Inf)}{p:Nat×Inf},p∈l->p.1≠i->p.2.em.testBit i=false->apF f p.2=false->(Qfu i f l).testBit p.1=true
 | q::l,p,hp,h1,h2,h3=>by
  have hu:Qfu i f (q::l)=(Bool.rec (Bool.rec (Bool.rec (XN (Qfu i f l) q.1) (Qfu i f l) (apF f q.2)) (Qfu i f l) (has q.2.em i)) (Qfu i f l) (Nat.beq q.1 i):Nat):=rfl;rw[hu];rcases List.mem_cons.1 hp with rfl|hp
  ·have hb:Nat.beq p.1 i=false:=by cases hb:Nat.beq p.1 i<;>simp_all
   simp_all[Qa2,XN,Qax]
  ·have ih:=QjE (f:=f) hp h1 h2 h3;cases Nat.beq q.1 i with
   | true=>exact ih
   | false=>
    cases has q.2.em i with
    | true=>exact ih
    | false=>cases apF f q.2<;>grind[apF,XN,Qax]
 | [],p,hp,_,_,_=>by cases hp
noncomputable def QbN(ops:List Oper):Nat->List Oper->Option (List (Nat×Inf))
 | _,[]=>some []
 | i,o::l=>match ZJ ops o,QbN ops (i+1) l with
  | some f,some fs=>some ((i,f)::fs)
  | _,_=>none
theorem QcJ{ops:List Oper}:∀{l:List Oper}{k:Nat}{fs:List (Nat×Inf)},QbN ops k l=some fs->∀j o,l[j]?=some o->∃f,ZJ ops o=some f/\(k+j,f)∈fs
 | [],k,fs,h,j,o,hj=>by simp at hj
 | o'::l,k,fs,h,j,o,hj=>by
  simp only[QbN]at h;split at h
  ·rename_i f fs' h1 h2;injection h with h
   subst h;cases j with
   | zero=>grind
   | succ j=>
    obtain⟨f',h3,h4⟩:=QcJ h2 j o (by simpa using hj)
    grind
  ·cases h
theorem Qi4{ops:List Oper}:∀{l:List Oper}{k:Nat}{fs:List (Nat×Inf)},QbN ops k l=some fs->∀p∈fs,∃j o,p.1=k+j/\l[j]?=some o/\ZJ ops o=some p.2
 | [],k,fs,h,p,hp=>by cases h;cases hp
 | o'::l,k,fs,h,p,hp=>by
  simp only[QbN]at h;split at h
  ·rename_i f fs' h1 h2;injection h with h
   subst h;rcases List.mem_cons.1 hp with rfl|hp
   ·grind
   ·obtain⟨j,o,e1,e2,e3⟩:=Qi4 h2 p hp;exact⟨j+1,o,om,by simpa using e2,e3⟩
  ·cases h
def Lm(n:Nat)(listed:Array Bool)(M:Nat):Prop:=listed.size=n/\(∀j,j<n->listed.getD j false=M.testBit j)/\∀j,M.testBit j=true->j<n
theorem Lm.get{n:Nat}{listed:Array Bool}{M j:Nat}(h:Lm n listed M)(hj:j<n)(b:Bool):listed.getD j b=M.testBit j:=by
 rw[<-h.2.1 j hj];have hl:j<listed.size:=by rw[h.1];exact hj
 grind
theorem Lm.set{n:Nat}{listed:Array Bool}{M i:Nat}(h:Lm n listed M)(hi:i<n):Lm n (listed.setIfInBounds i true) (XN M i):=by
 refine⟨by simp[h.1],λj hj=>?_,λj hj=>by
  rw[Qax]at hj
  by_cases e:i=j
  ·omega
  ·exact h.2.2 j (by simpa[e]using hj)⟩
 have hl:i<listed.size:=by rw[h.1];exact hi
 have hl':j<listed.size:=by rw[h.1];exact hj
 rw[Qax]
 by_cases e:i=j
 ·simp_all
 ·have:=h.2.1 j hj
  simp_all
theorem Lm.start(n:Nat):Lm n (Array.replicate n false) 0:=⟨by simp,(λj hj=>by simp[Array.getD_eq_getD_getElem?,hj]),λj hj=>by simp at hj⟩
section
variable{ops:List Oper}{fs:List (Nat×Inf)}
structure Row where
 i:Nat
 em:Nat
 need:Nat
noncomputable def Qr(fs:List (Nat×Inf)):List (Nat×Inf)->List Row:=List.rec [] λp _ ih=>⟨p.1,p.2.em,Nat.lor p.2.em (Qfu p.1 p.2 fs)⟩::ih
theorem Qg3:∀{l:List (Nat×Inf)}{r:Row},r∈Qr fs l->∃p∈l,r=⟨p.1,p.2.em,Nat.lor p.2.em (Qfu p.1 p.2 fs)⟩
 | p::l,r,h=>by
  have hu:Qr fs (p::l)=⟨p.1,p.2.em,Nat.lor p.2.em (Qfu p.1 p.2 fs)⟩::Qr fs l:=rfl;rw[hu]at h;rcases List.mem_cons.1 h with rfl|h
  ·grind
  ·obtain⟨q,h1,h2⟩:=Qg3 h
   grind
 | [],r,h=>by cases h
theorem QdF:∀{l:List (Nat×Inf)}{p:Nat×Inf},p∈l->(⟨p.1,p.2.em,Nat.lor p.2.em (Qfu p.1 p.2 fs)⟩:Row)∈Qr fs l
 | q::l,p,h=>by
  have hu:Qr fs (q::l)=⟨q.1,q.2.em,Nat.lor q.2.em (Qfu q.1 q.2 fs)⟩::Qr fs l:=rfl;rw[hu];rcases List.mem_cons.1 h with rfl|h
  ·grind
  ·exact List.mem_cons_of_mem _ (QdF h)
 | [],p,h=>by cases h
theorem Qcx(hf:QbN ops 0 ops=some fs){r:Row}(h:r∈Qr fs fs):∃o f,ops[r.i]?=some o/\ZJ ops o=some f/\r.em=f.em/\(r.i,f)∈fs/\r.need=Nat.lor f.em (Qfu r.i f fs):=by grind[Qg3,Qi4]
theorem Qd4{listed:Array Bool}{M i:Nat}{o:Oper}{f:Inf}(hl:Lm ops.length listed M)(ho:ops[i]?=some o)(hf:ZJ ops o=some f)(hM:M.testBit i=false)(hs:Zy f.em M=true):i∈Region.ready .any ⟨ops⟩ listed:=by
 have hi:i<ops.length:=by grind
 refine mem_ready.2 ⟨by rw[hl.get hi];exact hM,o,by simpa using ho,λe he hb=>?_⟩
 have h1:f.em.testBit e.on=true:=by
  rw[Qby hf];refine Array.any_eq_true'.2 ⟨e,he,?_⟩
  simp_all
 have h2:=Qgl hs h1;rw[hl.get (hl.2.2 _ h2)];exact h2
theorem Lm.not{n:Nat}{listed:Array Bool}{M j:Nat}(h:Lm n listed M)(hj:M.testBit j=false):listed.getD j false=false:=by
 by_cases hlt:j<n
 ·rw[h.get hlt];exact hj
 ·have:listed.size<=j:=by rw[h.1];omega
  grind
theorem Qhe{listed:Array Bool}{M i:Nat}{o:Oper}{f:Inf}(hl:Lm ops.length listed M)(ho:ops[i]?=some o)(hf:ZJ ops o=some f)(hs:Zy f.em M=false):i ∉ Region.ready .any ⟨ops⟩ listed:=by
 intro hr;obtain⟨_,o',ho',hall⟩:=mem_ready.1 hr;have:o'=o:=by grind
 subst this;obtain⟨y,h1,h2⟩:=Qjr hs;rw[Qby hf]at h1;obtain⟨e,he,hb⟩:=Array.any_eq_true'.1 h1;simp only[Bool.and_eq_true]at hb;have hon:=Nat.eq_of_beq_eq_true hb.2;subst hon;have h3:=hall e he hb.1;rw[hl.not h2]at h3;cases h3
noncomputable def QqK(g:Row->Bool)(l:List Row):Bool:=List.rec true (λr _ ih=>Bool.rec false ih (g r)) l
theorem Qgn{g:Row->Bool}:∀{l:List Row},QqK g l=true->∀r∈l,g r=true
 | r::l,h,r',hr=>by
  have hu:QqK g (r::l)=(Bool.rec false (QqK g l) (g r):Bool):=rfl;rw[hu]at h;cases hg:g r with
  | false=>rw[hg]at h;cases h
  | true=>
   rw[hg]at h;rcases List.mem_cons.1 hr with rfl|hr
   ·exact hg
   ·exact Qgn h r' hr
 | [],_,_,hr=>by cases hr
noncomputable def QjK(M i:Nat)(rows:List Row):Bool:=QqK (λr=>Bool.rec (Bool.rec (Bool.not (Zy r.em M)) true (has M r.i)) true (Nat.beq r.i i)) rows
theorem Qnw:∀{l:List Nat}{i:Nat},l.Nodup->i∈l->(∀j∈l,j=i)->l=[i]
 | [],i,_,h,_=>by cases h
 | [a],i,_,h,_=>by rw[List.mem_singleton.1 h]
 | a::b::l,i,hn,_,hall=>by simp_all
theorem QdE(hf:QbN ops 0 ops=some fs){listed:Array Bool}{M:Nat}{r:Row}(hl:Lm ops.length listed M)(hr:r∈Qr fs fs)(hM:has M r.i=false)(hs:Zy r.em M=true)(ho:QjK M r.i (Qr fs fs)=true):(Region.ready .any ⟨ops⟩ listed==[r.i])=true:=by
 obtain⟨o,f,e1,e2,e3,e4,e5⟩:=Qcx hf hr;rw[Qa2]at hM;rw[e3]at hs;have hin:=Qd4 hl e1 e2 hM hs
 have:Region.ready .any ⟨ops⟩ listed=[r.i]:=by
  refine Qnw (List.Pairwise.filter _ List.nodup_range) hin λj hj=>?_;obtain⟨h1,oj,h2,h3⟩:=mem_ready.1 hj;have h2':ops[j]?=some oj:=by simpa using h2
  obtain⟨fj,g1,g2⟩:=QcJ hf j oj h2';rw[Nat.zero_add]at g2;have g3:=Qgn ho _ (QdF (fs:=fs) g2);simp only[]at g3;cases hb:Nat.beq j r.i with
  | true=>exact Nat.eq_of_beq_eq_true hb
  | false=>
   rw[hb]at g3;have hjl:j<ops.length:=by grind
   rw[hl.get hjl]at h1;rw[Qa2,h1]at g3
   grind[Zy,Qhe]
 grind
theorem Qwj(hf:QbN ops 0 ops=some fs):Region.noSelect ⟨ops⟩=true:=by
 unfold Region.noSelect;simp only[List.all_toArray,List.all_eq_true];intro o ho;obtain⟨j,hj⟩:=List.getElem?_of_mem ho
 grind[QcJ,Qni]
theorem QgQ(hf:QbN ops 0 ops=some fs){listed:Array Bool}{M:Nat}{r:Row}(hl:Lm ops.length listed M)(hr:r∈Qr fs fs)(hM:has M r.i=false)(hs:Zy r.need M=true):QO ⟨ops⟩ listed r.i=true:=by
 obtain⟨o,f,e1,e2,e3,e4,e5⟩:=Qcx hf hr;rw[Qa2]at hM
 have hem:Zy f.em M=true:=by
  cases h:Zy f.em M with
  | true=>rfl
  | false=>
   obtain⟨y,h1,h2⟩:=Qjr h;have h3:r.need.testBit y=true:=by simp_all
   grind[Qgl]
 have hin:=Qd4 hl e1 e2 hM hem;unfold QO;rw[Qwj hf,Bool.and_true,Bool.and_eq_true];refine⟨by simpa using hin,List.all_eq_true.2 λj hj=>?_⟩;have hjl:j<ops.length:=by simpa using hj
 have h2':ops[j]?=some ops[j]:=List.getElem?_eq_getElem hjl;obtain⟨fj,g1,g2⟩:=QcJ hf j _ h2';rw[Nat.zero_add]at g2;have hoj:(⟨ops⟩:Array Oper)[j]?=some ops[j]:=by simpa using h2'
 have hoi:(⟨ops⟩:Array Oper)[r.i]?=some o:=by simpa using e1
 rw[hoj,hoi];simp only[Bool.or_eq_true];cases hb:Nat.beq j r.i with
 | true=>exact .inl (.inl (.inl rfl))
 | false=>
  cases hm:M.testBit j with
  | true=>exact .inl (.inl (.inr (by rw[hl.get hjl];exact hm)))
  | false=>
   cases he:fj.em.testBit r.i with
   | true=>exact .inl (.inr (by rw[<-Qby g1];exact he))
   | false=>
    refine .inr (Qvr e2 g1 ?_);cases hap:apF f fj with
    | true=>rfl
    | false=>
     have hne:j≠r.i:=λe=>by subst e;rw[Nat.beq_refl]at hb;cases hb
     have hbit:=QjE (i:=r.i) (f:=f) g2 hne he hap;have h3:r.need.testBit j=true:=by simp_all
     grind[Qgl]
noncomputable def Qfv(fs:List (Nat×Inf))(fm:Nat):Nat:=List.rec fm (λp _ ih=>Bool.rec ih (Nat.lor ih p.2.em) (has fm p.1)) fs
theorem QgB{fm i:Nat}:∀{l:List (Nat×Inf)},(Qfv l fm).testBit i=true->fm.testBit i=true\/∃p∈l,fm.testBit p.1=true/\p.2.em.testBit i=true
 | [],h=>.inl h
 | p::l,h=>by
  have hu:Qfv (p::l) fm=(Bool.rec (Qfv l fm) (Nat.lor (Qfv l fm) p.2.em) (has fm p.1):Nat):=rfl;rw[hu,Qa2]at h;cases hb:fm.testBit p.1 with
  | false=>
   rw[hb]at h;rcases QgB h with h|⟨q,h1,h2⟩<;>grind
  | true=>
   rw[hb]at h;have h':((Qfv l fm) ||| p.2.em).testBit i=true:=h;rw[Nat.testBit_or,Bool.or_eq_true]at h';rcases h' with h|h
   ·rcases QgB h with h|⟨q,h1,h2⟩<;>grind
   grind
theorem Qmd{x y:Nat}{o:Oper}{f:Inf}(ho:ops[x]?=some o)(hf:ZJ ops o=some f)(h:f.em.testBit y=true):Qlh ⟨ops⟩ x y=true:=by grind[Qlh,Qby]
theorem Qow(hf:QbN ops 0 ops=some fs){r:Row}(hr:r∈Qr fs fs){i:Nat}(hne:r.i≠i)(h:has (Qfv fs r.em) i=true):Yf ⟨ops⟩ [r.i] i (Qme (⟨ops⟩:Array Oper).size)=true:=by
 obtain⟨o,f,e1,e2,e3,e4,e5⟩:=Qcx hf hr;rw[Qa2]at h;have hb:Nat.beq r.i i=false:=by cases hb:Nat.beq r.i i<;>simp_all
 have hps:∃p∈Qme (⟨ops⟩:Array Oper).size,Qdu ⟨ops⟩ r.i p i=true:=by
  rcases QgB h with h|⟨p,h1,h2,h3⟩
  ·exact⟨[],List.mem_cons_self ..,Qmd e1 e2 (by rw[<-e3];exact h)⟩
  ·obtain⟨j,oj,g1,g2,g3⟩:=Qi4 hf p h1;have hj:p.1=j:=by omega
   have hjl:j<ops.length:=by grind
   refine⟨[j],List.mem_cons_of_mem _ (List.mem_map.2 ⟨j,by simpa using hjl,rfl⟩),?_⟩
   grind[Qdu,Qmd]
 grind[Yf]
noncomputable def Qdk(i:Nat)(l:List Row):Option Row:=List.rec none (λr _ ih=>Bool.rec ih (some r) (Nat.beq r.i i)) l
theorem YJ{i:Nat}:∀{l:List Row}{r:Row},Qdk i l=some r->r∈l/\r.i=i
 | [],r,h=>by cases h
 | q::l,r,h=>by
  have hu:Qdk i (q::l)=(Bool.rec (Qdk i l) (some q) (Nat.beq q.i i):Option Row):=rfl;rw[hu]at h;cases hb:Nat.beq q.i i with
  | true=>simp_all
  | false=>
   rw[hb]at h;obtain⟨h1,h2⟩:=YJ h
   grind
structure Fin1 where
 i:Nat
 tm:Nat
def Qb8:Option Fin1->List Nat
 | none=>[]
 | some f=>[f.i]
def Qh6(fs:List (Nat×Inf))(f:Fin1):Prop:=∃r∈Qr fs fs,r.i=f.i/\f.tm=Qfv fs r.em
noncomputable def isF(F:Option Fin1)(i:Nat):Bool:=Option.rec false (λf=>Nat.beq f.i i) F
noncomputable def QeF(rows:List Row)(F:Option Fin1)(M i:Nat):Stp:=match Qdk i rows with
 | some r=>⟨i,Bool.rec (Bool.rec false (Bool.not (isF F i)) (Zy r.need M)) false (has M i),
   Bool.rec (Bool.rec false (match F with
    | none=>true
    | some f=>Bool.rec (Bool.rec false (Bool.not (has M f.i)) (has f.tm i)) false (Nat.beq f.i i)) (Zy r.need M)) false (has M i),
   Bool.rec (Bool.rec false (QjK M i rows) (Zy r.em M)) false (has M i),Bool.rec none (some []) (isF F i)⟩
 | none=>⟨i,false,false,false,Bool.rec none (some []) (isF F i)⟩
theorem b3{a b c:Bool}(h:(Bool.rec (Bool.rec false c b) false a:Bool)=true):a=false/\b=true/\c=true:=by
 cases a<;>cases b<;>cases c<;>first|exact⟨rfl,rfl,rfl⟩|cases h
theorem Qeo(F:Option Fin1)(i:Nat):(Qb8 F).contains i=isF F i:=by
 cases F with
 | none=>rfl
 | some f=>
  show List.contains [f.i] i=Nat.beq f.i i;cases hb:Nat.beq f.i i with
  | true=>simp_all
  | false=>
   have:¬(i=f.i):=λe=>by subst e;rw[Nat.beq_refl]at hb;cases hb
   simp[this]
theorem QqT{F:Option Fin1}{i:Nat}(h:isF F i=false):onF (Qb8 F) i=true:=by
 cases F with
 | none=>rfl
 | some f=>
  have hb:Nat.beq f.i i=false:=h;simp[onF,Qb8,hb]
theorem QpG(hf:QbN ops 0 ops=some fs){listed:Array Bool}{M i:Nat}{F:Option Fin1}(hl:Lm ops.length listed M)(hF:∀f,F=some f->Qh6 fs f) :
  ((QeF (Qr fs fs) F M i).okP=true->(QO ⟨ops⟩ listed i&&onF (Qb8 F) i)=true) /\
  ((QeF (Qr fs fs) F M i).okQ=true->(QO ⟨ops⟩ listed i&&(Yf ⟨ops⟩ (Qb8 F) i (Qme (⟨ops⟩:Array Oper).size)&&Qaq (Qb8 F) listed))=true) /\
  ((QeF (Qr fs fs) F M i).okH=true->(Region.ready .any ⟨ops⟩ listed==[i])=true) /\
  (QeF (Qr fs fs) F M i).i=i:=by
 unfold QeF;split
 ·rename_i r hr;obtain⟨h1,rfl⟩:=YJ hr;refine⟨λh=>?_,λh=>?_,λh=>?_,rfl⟩
  ·obtain⟨g1,g2,g3⟩:=b3 h;rw[QgQ hf hl h1 g1 g2,Bool.true_and];exact QqT (by simpa using g3)
  ·obtain⟨g1,g2,g3⟩:=b3 h;rw[QgQ hf hl h1 g1 g2,Bool.true_and];cases F with
   | none=>rfl
   | some f=>
    obtain⟨g4,g5,g6⟩:=b3 g3;obtain⟨r',k1,k2,k3⟩:=hF f rfl;have hne:r'.i≠r.i:=λe=>by rw[k2]at e;rw[e,Nat.beq_refl]at g4;cases g4
    have hw:=Qow hf k1 hne (by rw[<-k3];exact g5);rw[k2]at hw;show(Yf ⟨ops⟩ [f.i] r.i _&&Qaq [f.i] listed)=true;rw[hw,Bool.true_and];simp only[Qaq,List.all_cons,List.all_nil,Bool.and_true];rw[hl.not (by have:=g6;rw[Qa2]at this;simpa using this)];rfl
  ·obtain⟨g1,g2,g3⟩:=b3 h;exact QdE hf hl h1 g1 g2 g3
 ·exact⟨(λh=>by cases h),(λh=>by cases h),(λh=>by cases h),rfl⟩
theorem Qlu{rows:List Row}{F:Option Fin1}{M i:Nat}:(QeF rows F M i).turn=Bool.rec none (some []) (isF F i):=by
 unfold QeF;split<;>rfl
theorem QrT{listed:Array Bool}(hl:Lm ops.length listed (2^ops.length-1)):QuB ⟨ops⟩ listed []=true:=by
 have:Region.ready .any ⟨ops⟩ listed=[]:=by
  refine List.eq_nil_iff_forall_not_mem.2 λj hj=>?_;obtain⟨h1,o,h2,_⟩:=mem_ready.1 hj;have h2':ops[j]?=some o:=by simpa using h2
  have hjl:j<ops.length:=by grind
  rw[hl.get hjl,Nat.testBit_two_pow_sub_one]at h1;simp[hjl]at h1
 grind[QuB]
end
end Ev
namespace Ev
open Go Go.RowKit
noncomputable def Qtv(P:Program):Op->Option (Clo (Nat->Value×HX))
 | .makeMap _ none=>some ⟨λn=>(.map (some n),.mp [])⟩
 | .alloc t=>match QN P t with
  | some z=>bif Xb z then some ⟨λn=>(.pointer (some ⟨n,0,none⟩),.row ⟨t,0,z⟩)⟩else none
  | none=>none
 | _=>none
def Qxg(P:Program)(o:Oper)(L':Qc)(w0:World)(As:List HA)(c:Nat->Value×HX):Prop:=
 ∃(G:Type)(V:G->Value)(Fg:G->Prop)(A:G->HA),OpH P o L' (HS w0 [] As) V Fg (λg=>HS w0 [] (A g::As))/\∀g,Fg g->∃x:Nat×Nat,∀(ρ:Rho)(n:Nat),den (ext ρ n x) (c n).1=some (V g)/\ha (ext ρ n x) (n,(c n).2)=some (A g)
theorem Qnb{P:Program}{o:Oper}{op:Op}{c:Clo (Nat->Value×HX)}(ho:o.op=op)(h:Qtv P op=some c)(L':Qc)(w0:World)(As:List HA):Qxg P o L' w0 As c.run:=by
 unfold Qtv at h;split at h
 ·injection h with h
  subst h;refine⟨_,_,_,_,Qbl ho Qkw,λb _=>⟨(b,0),λρ n=>⟨?_,?_⟩⟩⟩
  ·simp only[den,Xt,QV,XZ,QbW]
  ·simp only[ha,QbW]
 ·rename_i t;split at h
  ·rename_i z hz;obtain⟨hf,rfl⟩:=bif_some h;refine⟨_,_,_,_,QfL ho hz,λb _=>⟨(b,0),λρ n=>⟨QiM,?_⟩⟩⟩;have:=QmX (x:=⟨t,0,z⟩) (us:=z) (d:=0) (QbW ρ n (b,0)) (X9 hf) (.inl rfl)
   simpa using this
  ·cases h
 ·cases h
structure PF where
 q:Nat
 okP:Bool
 okM:Bool
noncomputable def cQs(P:Program)(nt dj:Nat)(ops:Array Oper):List PF->Clo (CallF->Tr Value->Hp->Nat->List Nat->Option (Tr Value×Hp×Nat))
 | []=>⟨λ_ T H n _=>some (T,H,n)⟩
 | x::l=>match ops[x.q]? with
  | some ⟨some d,op,_,_,_,none⟩=>bif Nat.blt d nt&&Bool.not (Nat.beq d dj)then⟨λF T H n R=>match(Qai P op).run F T H n with
   | .p v=>bif x.okP then(cQs P nt dj ops l).run F (Yr (pth d) d v T) H n R else none
   | .new v y=>bif x.okM then(cQs P nt dj ops l).run F (Yr (pth d) d v T) (YR H n y) (Nat.succ n) R else none
   | .h v H' n'=>bif x.okM&&QjG H H' R then(cQs P nt dj ops l).run F (Yr (pth d) d v T) H' n' R else none
   | _=>none⟩else⟨λ_ _ _ _ _=>none⟩
  | _=>⟨λ_ _ _ _ _=>none⟩
noncomputable def dTwo(P:Program)(nt:Nat)(ops:Array Oper)(qs:List PF)(ok:Bool)(oj:Oper)(rest:DS):DS:=match oj.dst,Qtv P oj.op,oj.guard with
 | some dj,some c,none=>bif ok&&Nat.blt dj nt then⟨λF T H n R=>match(cQs P nt dj ops qs).run ⟨F.f,F.e,noY⟩ (Qhv (pth dj) T) H n R with
  | some r=>rest.run F (Yr (pth dj) dj (c.run r.2.2).1 r.1) (YR r.2.1 r.2.2 (c.run r.2.2).2) (Nat.succ r.2.2) R
  | none=>.bad⟩else noD
 | _,_,_=>noD
theorem QvP{T:Tr Value}{d t:Nat}{v:Value}(h:en (Qhv (pth d) T) t=some v):t≠d/\en T t=some v:=by
 refine⟨λe=>?_,Qgf _ _ _ h⟩;subst e;have h':YS (pth t) t (Qhv (pth t) T)=some v:=h;rw[ZA]at h';cases h'
theorem SR.del0{ρ:Rho}{T:Tr Value}{L':Qc}{d:Nat}(h:SR ρ (en T) L'):SR ρ (en (Qhv (pth d) T)) L':=λt v hv=>h t v (QvP hv).2
theorem SR.put1{ρ:Rho}{T:Tr Value}{L':Qc}{dj:Nat}{w u':Value}(h:SR ρ (en T) L')(hj:Qc.get L' dj=some u')(hw:den ρ w=some u'):SR ρ (en (Yr (pth dj) dj w T)) L':=λt x hx=>by
 rcases QlI t x hx with⟨rfl,rfl⟩|⟨h1,h2⟩
 ·grind
 ·exact h t x h2
section
variable{P:Program}{r0:Rho}{w0:World}{CF:CallF}{X:Ctx}{k:List KI}{ops:Array Oper}
theorem Qur{F:List Nat}{fuel:Nat}{listed:Array Bool}{L:Qc}{As:List HA}{B:World->Prop}{d d' ty ty':Nat}{op op':Op}{pos pos':String}{aft aft':Array Edge}{G G':Type}{V:G->Value}{Fg:G->Prop}{C:G->World->Prop}{V':G'->Value}{Fg':G'->Prop}{C':G'->World->Prop}(i j:Nat)
  (hi:ops[i]?=some ⟨some d,op,ty,pos,aft,none⟩)(hj:ops[j]?=some ⟨some d',op',ty',pos',aft',none⟩)(h:OpH X.P ⟨some d,op,ty,pos,aft,none⟩ L (HS w0 [] As) V Fg C)(h':OpH X.P ⟨some d',op',ty',pos',aft',none⟩ L (HS w0 [] As) V' Fg' C')
  (mi:i∈Region.ready .any ops listed)(mj:j∈Region.ready .any ops listed)(hr:∀q∈Region.ready .any ops listed,q=i\/q=j)(hB:∀w,HS w0 [] As w->B w)(hd:Nat.blt d X.n=true)(hd':Nat.blt d' X.n=true)
  (next:∀g,Fg g->D X ops F B fuel (listed.setIfInBounds i true) k ((d,V g)::L) (C g))(next':∀g,Fg' g->D X ops F B fuel (listed.setIfInBounds j true) k ((d',V' g)::L) (C' g)):D X ops F B (fuel+1) listed k L (HS w0 [] As):=by
 intro hcl a ha;refine⟨λ_=>⟨hB,HS.stab _ _ _⟩,λh0=>(by rw[h0]at mi;cases mi),λq hq=>?_⟩;rcases hr q hq with e|e
 ·subst e;unfold Yp;simp only[hi];rw[if_pos (by simp[Region.wanted])];exact⟨G,V,Fg,C,λw hw=>h a.eval w ha.agr hw,λg hg=>next g hg (hcl.set mi) _ (ha.put d _ hd)⟩
 ·subst e;unfold Yp;simp only[hj];rw[if_pos (by simp[Region.wanted])];exact⟨G',V',Fg',C',λw hw=>h' a.eval w ha.agr hw,λg hg=>next' g hg (hcl.set mj) _ (ha.put d' _ hd')⟩
end
inductive It where
 | one (i:Nat)
 | two (i j:Nat) (ps:List Nat)
inductive SI where
 | one (s:Stp)
 | two (j:Nat) (qs:List PF) (ok:Bool)
noncomputable def Qb3(P:Program)(nt:Nat)(ops:Array Oper):List SI->DS
 | []=>⟨λ_ T H n _=>.nm T H n⟩
 | .one s::l=>match ops[s.i]? with
  | some o=>(match o.guard with
   | none=>dOn P nt s o (Qb3 P nt ops l)
   | some (j,want)=>match(ops[j]?).bind (·.dst)with
    | some dj=>⟨λF T H n R=>match YS (pth dj) dj T with
     | some (.bool b)=>Bool.rec ((Qtr nt s o.dst (Qb3 P nt ops l)).run F T H n R) ((dOn P nt s o (Qb3 P nt ops l)).run F T H n R) (b==want)
     | some (.tuple ⟨[]⟩)=>(Qtr nt s o.dst (Qb3 P nt ops l)).run F T H n R
     | _=>.bad⟩
    | none=>noD)
  | none=>noD
 | .two j qs ok::l=>match ops[j]? with
  | some oj=>dTwo P nt ops qs ok oj (Qb3 P nt ops l)
  | none=>noD
noncomputable def Qwx(M i j:Nat)(rows:List Row):Bool:=QqK (λr=>Bool.rec (Bool.rec (Bool.rec (Bool.not (Zy r.em M)) true (has M r.i)) true (Nat.beq r.i j)) true (Nat.beq r.i i)) rows
noncomputable def addL(ps:List Nat):Nat->Nat:=List.rec (λM=>M) (λq _ ih M=>ih (XN M q)) ps
noncomputable def QkG(rows:List Row)(F:Option Fin1)(M q:Nat):Bool:=match Qdk q rows with
 | some r=>Bool.rec (Bool.rec (Bool.rec true false (isF F q)) false (Bool.not (Zy r.need M))) false (has M q)
 | none=>false
noncomputable def QiI(rows:List Row)(M j q:Nat):Bool:=match Qdk q rows,Qdk j rows with
 | some rq,some rj=>Bool.not (Nat.beq q j)&&(Bool.not (has M q)&&(Bool.not (has M j)&&(Zy rq.em M&&(Zy rj.em M&&(Qwx M q j rows&&(Zy rq.em (XN M j)&&QjK (XN M j) q rows))))))
 | _,_=>false
noncomputable def Qd1(rows:List Row)(F:Option Fin1)(j:Nat)(l:List Nat):Nat->List PF:=List.rec (λ_=>[]) (λq _ ih M=>⟨q,QkG rows F M q&&QkG rows F (XN M j) q,QiI rows M j q⟩::ih (XN M q)) l
noncomputable def QjU(rows:List Row)(M j:Nat):Bool:=match Qdk j rows with
 | some rj=>Bool.not (has M j)&&(Zy rj.em M&&QjK M j rows)
 | none=>false
noncomputable def mkF(rows:List Row):List Fin1->Option Fin1->Nat->List It->List SI
 | _,_,_,[]=>[]
 | Fs,F,M,.one i::r=>.one (QeF rows F M i)::mkF rows (Bool.rec Fs Fs.tail (isF F i)) (Bool.rec F Fs.head? (isF F i)) (XN M i) r
 | Fs,F,M,.two i j ps::r=>.two j (Qd1 rows F j (i::ps) M) (QjU rows (addL (i::ps) M) j)::mkF rows Fs F (XN (addL ps (XN M i)) j) r
noncomputable def QqH(M:Nat)(l:List It):Nat:=List.rec (λM=>M) (λx _ ih M=>match x with
 | .one i=>ih (XN M i)
 | .two i j ps=>ih (XN (addL ps (XN M i)) j)) l M
def Qhu:List It->Nat
 | []=>0
 | .one _::l=>Qhu l+1
 | .two _ _ ps::l=>Qhu l+ps.length+2
def Qtj(n:Nat):It->Prop
 | .one i=>i<n
 | .two i j ps=>i<n/\j<n/\∀q∈ps,q<n
theorem Lm.perm{n:Nat}{listed:Array Bool}{M M':Nat}(h:Lm n listed M)(e:∀j,M.testBit j=M'.testBit j):Lm n listed M':=by
 have:=Nat.eq_of_testBit_eq e
 grind
section
variable{ops:List Oper}{fs:List (Nat×Inf)}
theorem Qms(hf:QbN ops 0 ops=some fs){F:Option Fin1}{listed:Array Bool}{M q:Nat}(hl:Lm ops.length listed M)(h:QkG (Qr fs fs) F M q=true):QO ⟨ops⟩ listed q=true/\onF (Qb8 F) q=true:=by
 unfold QkG at h;split at h
 ·rename_i r hr;obtain⟨m1,rfl⟩:=YJ hr;cases h1:has M r.i with
  | true=>rw[h1]at h;cases h
  | false=>
   rw[h1]at h;cases h2:Zy r.need M with
   | false=>rw[h2]at h;cases h
   | true=>
    rw[h2]at h;cases h3:isF F r.i with
    | true=>rw[h3]at h;cases h
    | false=>exact⟨QgQ hf hl m1 h1 h2,QqT h3⟩
 ·cases h
theorem Qs0(hf:QbN ops 0 ops=some fs){listed:Array Bool}{M j q:Nat}(hl:Lm ops.length listed M)(h:QiI (Qr fs fs) M j q=true) :
  q∈Region.ready .any ⟨ops⟩ listed/\j∈Region.ready .any ⟨ops⟩ listed/\∀p∈Region.ready .any ⟨ops⟩ listed,p=q\/p=j:=by
 unfold QiI at h;split at h
 ·rename_i ri rj h1 h2;obtain⟨m1,rfl⟩:=YJ h1;obtain⟨m2,rfl⟩:=YJ h2;simp only[Bool.and_eq_true,Bool.not_eq_true']at h;obtain⟨a1,a2,a3,a4,a5,a8,_,_⟩:=h;obtain⟨oi,fi,e1,e2,e3,_,_⟩:=Qcx hf m1;obtain⟨oj,fj,g1,g2,g3,_,_⟩:=Qcx hf m2;rw[Qa2]at a2 a3;refine⟨Qd4 hl e1 e2 a2 (by rw[<-e3];exact a4),Qd4 hl g1 g2 a3 (by rw[<-g3];exact a5),λq hq=>?_⟩;obtain⟨k1,o,k2,k3⟩:=mem_ready.1 hq;have k2':ops[q]?=some o:=by simpa using k2
  obtain⟨f,l1,l2⟩:=QcJ hf q o k2';rw[Nat.zero_add]at l2;have l3:=Qgn a8 _ (QdF (fs:=fs) l2);simp only[]at l3;cases hb:Nat.beq q ri.i with
  | true=>exact .inl (Nat.eq_of_beq_eq_true hb)
  | false=>
   rw[hb]at l3;cases hb2:Nat.beq q rj.i with
   | true=>exact .inr (Nat.eq_of_beq_eq_true hb2)
   | false=>
    rw[hb2]at l3;have hql:q<ops.length:=by grind
    rw[hl.get hql]at k1;rw[Qa2,k1]at l3
    grind[Zy,Qhe]
 ·cases h
theorem Qva(hf:QbN ops 0 ops=some fs){listed:Array Bool}{M j q:Nat}(hl:Lm ops.length listed (XN M j))(h:QiI (Qr fs fs) M j q=true):(Region.ready .any ⟨ops⟩ listed==[q])=true:=by
 unfold QiI at h;split at h
 ·rename_i ri rj h1 h2;obtain⟨m1,rfl⟩:=YJ h1;obtain⟨m2,rfl⟩:=YJ h2;simp only[Bool.and_eq_true,Bool.not_eq_true']at h;obtain⟨a1,a2,a3,a4,a5,a8,a7,a10⟩:=h;have hne:ri.i≠rj.i:=λe=>by rw[e,Nat.beq_refl]at a1;cases a1
  refine QdE hf hl m1 ?_ a7 a10
  grind[Qa2,Qax]
 ·cases h
theorem Qp5(hf:QbN ops 0 ops=some fs){listed:Array Bool}{M j:Nat}(hl:Lm ops.length listed M)(h:QjU (Qr fs fs) M j=true):(Region.ready .any ⟨ops⟩ listed==[j])=true:=by
 unfold QjU at h;split at h
 ·rename_i rj h2;obtain⟨m2,rfl⟩:=YJ h2;simp only[Bool.and_eq_true,Bool.not_eq_true']at h;exact QdE hf hl m2 h.1 h.2.1 h.2.2
 ·cases h
end
section
variable{P:Program}{r0:Rho}{w0:World}{CF:CallF}{X:Ctx}{k:List KI}{ops:List Oper}{fs:List (Nat×Inf)}
theorem Qhy{T:Tr Value}{d dj:Nat}{v:Value}(h:en T dj=none)(hd:d≠dj):en (Yr (pth d) d v T) dj=none:=by
 cases e:en (Yr (pth d) d v T) dj with
 | none=>rfl
 | some x=>
  rcases QlI _ _ e with⟨e1,_⟩|⟨_,e2⟩
  ·exact absurd e1.symm hd
  ·rw[h]at e2;cases e2
theorem SR.past{ρ:Rho}{T:Tr Value}{L':Qc}{d:Nat}(h:SR ρ (en T) L')(hn:en T d=none)(u:Value):SR ρ (en T) ((d,u)::L'):=λt v hv=>by
 have hne:t≠d:=λe=>by subst e;rw[hn]at hv;cases hv
 obtain⟨u',h3,h4⟩:=h t v hv
 grind[Qc.get,Qe8]
theorem QlU(hF:∀r,CallOk P r CF)(hP:X.P=P)(hf:QbN ops 0 ops=some fs){F:Option Fin1}{j dj fuel Mf:Nat}{T2:Tr Value}{H2:Hp}{n2:Nat}{R:List Nat}{B:List (Nat×HX)}{Bs:List HA}{ρb:Rho}{A:HA}{u:Value}(hR:Qu (ha ρb) B=some Bs)
  (fin:∀(listed:Array Bool)(ρ2:Rho)(L2:Qc)(As2:List HA),Lm ops.length listed Mf->(ρb.wx (A::ρb.ex)).le ρ2->QQ ρ2 n2->SR ρ2 (en T2) L2->Qc.get L2 dj=some u->HM ρ2 H2 As2->XA H2 R B->D X ⟨ops⟩ (Qb8 F) (HS w0 [] (Bs++ρb.ex)) fuel listed k L2 (HS w0 [] As2)) :
  ∀(l:List Nat)(M:Nat)(listed:Array Bool)(T:Tr Value)(H:Hp)(n:Nat)(ρ:Rho)(L':Qc)(As:List HA),Lm ops.length listed (XN M j)->(∀q∈l,q<ops.length)->(∀b,(XN (addL l M) j).testBit b=Mf.testBit b)->(cQs P X.n dj ⟨ops⟩ (Qd1 (Qr fs fs) F j l M)).run CF T H n R=some (T2,H2,n2) ->
  (ρb.wx (A::ρb.ex)).le ρ->SR ρ (en T) L'->Qc.get L' dj=some u->HM ρ H As->QQ ρ n->XA H R B->D X ⟨ops⟩ (Qb8 F) (HS w0 [] (Bs++ρb.ex)) (fuel+l.length) listed k L' (HS w0 [] As)
 | [],M,listed,T,H,n,ρ,L',As,hl,_,he,h,hle,hs,hj,hp,hfr,hB=>by
  injection h with h
  injection h with h1 h
  injection h with h2 h3
  subst h1 h2 h3;exact fin listed ρ L' As (hl.perm he) hle hfr hs hj hp hB
 | q::l,M,listed,T,H,n,ρ,L',As,hl,hq,he,h,hle,hs,hj,hp,hfr,hB=>by
  have hql:=hq q (List.mem_cons_self ..)
  have hl2:Lm ops.length (listed.setIfInBounds q true) (XN (XN M q) j):=(hl.set hql).perm λb=>by
   simp only[Qax];cases M.testBit b<;>cases decide (q=b)<;>cases decide (j=b)<;>rfl
  have rec_:∀(T':Tr Value)(H':Hp)(n':Nat)(ρ':Rho)(L2:Qc)(As':List HA),_:=λT' H' n' ρ' L2 As'=>QlU hF hP hf hR fin l (XN M q) (listed.setIfInBounds q true) T' H' n' ρ' L2 As' hl2 (λp hp=>hq p (List.mem_cons_of_mem _ hp)) he;have hu:Qd1 (Qr fs fs) F j (q::l) M=⟨q,QkG (Qr fs fs) F M q&&QkG (Qr fs fs) F (XN M j) q,QiI (Qr fs fs) M j q⟩::Qd1 (Qr fs fs) F j l (XN M q):=rfl;rw[hu]at h
  have hbase:∀w,HS w0 [] As w->HS w0 [] (Bs++ρb.ex) w:=λw hw=>by
   have h1:=QbP (w0:=w0) hle hp (show Qu (ha (ρb.wx (A::ρb.ex))) B=some Bs from hR) hB w hw;exact(h1.perm (show(Bs++(A::ρb.ex)).Perm (A::(Bs++ρb.ex))from List.perm_middle)).tail
  simp only[cQs]at h;split at h
  ·rename_i d op ty pos aft ho;cases hc:Nat.blt d X.n&&Bool.not (Nat.beq d dj)with
   | false=>rw[hc]at h;cases h
   | true=>
    rw[hc]at h;simp only[cond_true]at h;simp only[Bool.and_eq_true,Bool.not_eq_true']at hc;have hne:d≠dj:=λe=>by rw[e,Nat.beq_refl]at hc;cases hc.2
    have Yd:∀x:Value,Qc.get ((d,x)::L') dj=some u:=λx=>by
     simp only[Qc.get,Qe8 (Ne.symm hne),cond_false];exact hj
    have hcm:=Qc5 P op CF trivial T H n
    have mk:∀(v:Value)(H':Hp)(n':Nat),Xr P (en T) H n CF op=some (.h v H' n')->QiI (Qr fs fs) M j q=true->XA H' R B->(cQs P X.n dj ⟨ops⟩ (Qd1 (Qr fs fs) F j l (XN M q))).run CF (Yr (pth d) d v T) H' n' R=some (T2,H2,n2)->D X ⟨ops⟩ (Qb8 F) (HS w0 [] (Bs++ρb.ex)) (fuel+(q::l).length) listed k L' (HS w0 [] As):=λv H' n' hev hok hB' hrun=>by
     have ha1:=Z7 (w0:=w0) (L':=L') (o:=⟨some d,op,ty,pos,aft,none⟩) (hF ρ) ρ.le_refl rfl hs hp hfr hev;have hH1:=OpT.got ha1;rw[<-hP]at hH1;refine d_h (fuel:=fuel+l.length) q ho hH1 (Qva hf hl hok) hbase hc.1 ?_;rintro⟨⟨ρ',As',u1⟩,g1,g2,g3,g4⟩ _;exact rec_ _ H' n' ρ' ((d,u1)::L') As' hrun (Rho.le_trans hle g1) ((hs.mono g1).set g3) (Yd _) g4 g2 hB'
    split at h
    ·rename_i v hr;rw[hr]at hcm;obtain⟨hok,h⟩:=bif_in h;simp only[Bool.and_eq_true]at hok;obtain⟨u1,e1,e2⟩:=Z7 (w0:=w0) (L':=L') (o:=⟨some d,op,ty,pos,aft,none⟩) (hF ρ) ρ.le_refl rfl hs hp hfr hcm;rw[<-hP]at e1;have h9:=Qms hf hl hok.2;refine d_p (fuel:=fuel+l.length) q ho e1 h9.1 h9.2 hc.1 ?_;exact rec_ _ H n ρ ((d,u1)::L') As h hle (hs.set e2) (Yd _) hp hfr hB
    ·rename_i v y hr;rw[hr]at hcm;obtain⟨hok,h⟩:=bif_in h;exact mk v (YR H n y) (n+1) hcm hok (Qae hp hfr hB) h
    ·rename_i v H' n' hr;rw[hr]at hcm;obtain⟨hok,h⟩:=bif_in h;simp only[Bool.and_eq_true]at hok;exact mk v H' n' hcm hok.1 (hB.stay (QcB hok.2)) h
    ·cases h
  ·cases h
theorem QmF(hF:∀r,CallOk P r CF)(hP:X.P=P)(hf:QbN ops 0 ops=some fs){F:Option Fin1}{j dj fuel Mf:Nat}{T2:Tr Value}{H2:Hp}{n2:Nat}{R:List Nat}{B:List (Nat×HX)}{Bs:List HA}{ρb:Rho}{opj:Op}{tyj:TypeId}{posj:String}{aftj:Array Edge}{c:Clo (Nat->Value×HX)}
  (hjo:(⟨ops⟩:Array Oper)[j]?=some ⟨some dj,opj,tyj,posj,aftj,none⟩)(hnc:Qtv P opj=some c)(hdj:Nat.blt dj X.n=true)(hjl:j<ops.length)(hR:Qu (ha ρb) B=some Bs)
  (fin:∀(listed:Array Bool)(ρ2:Rho)(L2:Qc)(As2:List HA),Lm ops.length listed Mf->ρb.le ρ2->QQ ρ2 (n2+1)->SR ρ2 (en (Yr (pth dj) dj (c.run n2).1 T2)) L2->HM ρ2 (YR H2 n2 (c.run n2).2) As2->XA (YR H2 n2 (c.run n2).2) R B->D X ⟨ops⟩ (Qb8 F) (HS w0 [] (Bs++ρb.ex)) fuel listed k L2 (HS w0 [] As2)) :
  ∀(l:List Nat)(M:Nat)(listed:Array Bool)(T:Tr Value)(H:Hp)(n:Nat)(ρ:Rho)(L':Qc)(As:List HA),Lm ops.length listed M->(∀q∈l,q<ops.length)->(∀b,(XN (addL l M) j).testBit b=Mf.testBit b)->QjU (Qr fs fs) (addL l M) j=true->(cQs P X.n dj ⟨ops⟩ (Qd1 (Qr fs fs) F j l M)).run CF T H n R=some (T2,H2,n2) ->
  ρb.le ρ->SR ρ (en T) L'->en T dj=none->HM ρ H As->QQ ρ n->XA H R B->D X ⟨ops⟩ (Qb8 F) (HS w0 [] (Bs++ρb.ex)) (fuel+l.length+1) listed k L' (HS w0 [] As)
 | [],M,listed,T,H,n,ρ,L',As,hl,_,he,hend,h,hle,hs,hn,hp,hfr,hB=>by
  injection h with h
  injection h with h1 h
  injection h with h2 h3
  subst h1 h2 h3;obtain⟨G2,V2,Fg2,A2,hO2,hK2⟩:=Qnb (o:=⟨some dj,opj,tyj,posj,aftj,none⟩) rfl hnc L' w0 As;rw[<-hP]at hO2;refine d_h (fuel:=fuel) j hjo hO2 (Qp5 hf hl hend) (QbP (w0:=w0) hle hp hR hB) hdj λg hg=>?_;obtain⟨x,hx⟩:=hK2 g hg;obtain⟨e1,e2⟩:=hx ρ n;have hle2:=QgV hfr x;exact fin _ (ext ρ n x) ((dj,V2 g)::L') (A2 g::As) ((hl.set hjl).perm he) (Rho.le_trans hle hle2) (Qbc hfr x) ((hs.mono hle2).set e1) ((HM.mono hle2 hp).push e2) (Qae hp hfr hB)
 | q::l,M,listed,T,H,n,ρ,L',As,hl,hq,he,hend,h,hle,hs,hn,hp,hfr,hB=>by
  have hql:=hq q (List.mem_cons_self ..);have rec_:∀(T':Tr Value)(H':Hp)(n':Nat)(ρ':Rho)(L2:Qc)(As':List HA),_:=λT' H' n' ρ' L2 As'=>QmF hF hP hf hjo hnc hdj hjl hR fin l (XN M q) (listed.setIfInBounds q true) T' H' n' ρ' L2 As' (hl.set hql) (λp hp=>hq p (List.mem_cons_of_mem _ hp)) he hend;have hrun0:=h;have hu:Qd1 (Qr fs fs) F j (q::l) M=⟨q,QkG (Qr fs fs) F M q&&QkG (Qr fs fs) F (XN M j) q,QiI (Qr fs fs) M j q⟩::Qd1 (Qr fs fs) F j l (XN M q):=rfl;rw[hu]at h;have hbase:=QbP (w0:=w0) hle hp hR hB;simp only[cQs]at h;split at h
  ·rename_i d op ty pos aft ho;cases hc:Nat.blt d X.n&&Bool.not (Nat.beq d dj)with
   | false=>rw[hc]at h;cases h
   | true=>
    rw[hc]at h;simp only[cond_true]at h;simp only[Bool.and_eq_true,Bool.not_eq_true']at hc;have hne:d≠dj:=λe=>by rw[e,Nat.beq_refl]at hc;cases hc.2
    have hcm:=Qc5 P op CF trivial T H n
    have mk:∀(v:Value)(H':Hp)(n':Nat),Xr P (en T) H n CF op=some (.h v H' n')->QiI (Qr fs fs) M j q=true->XA H' R B->(cQs P X.n dj ⟨ops⟩ (Qd1 (Qr fs fs) F j l (XN M q))).run CF (Yr (pth d) d v T) H' n' R=some (T2,H2,n2)->D X ⟨ops⟩ (Qb8 F) (HS w0 [] (Bs++ρb.ex)) (fuel+(q::l).length+1) listed k L' (HS w0 [] As):=λv H' n' hev hok hB' hrun=>by
     have ha1:=Z7 (w0:=w0) (L':=L') (o:=⟨some d,op,ty,pos,aft,none⟩) (hF ρ) ρ.le_refl rfl hs hp hfr hev;have hH1:=OpT.got ha1;rw[<-hP]at hH1;obtain⟨G,V,Fg,A,hO,hK⟩:=Qnb (o:=⟨some dj,opj,tyj,posj,aftj,none⟩) rfl hnc L' w0 As;rw[<-hP]at hO;obtain⟨mq,mj,hr⟩:=Qs0 hf hl hok;refine Qur (fuel:=fuel+(q::l).length) q j ho hjo hH1 hO mq mj hr hbase hc.1 hdj ?_ ?_
     ·rintro⟨⟨ρ',As',u1⟩,g1,g2,g3,g4⟩ _;have:=rec_ _ H' n' ρ' ((d,u1)::L') As' hrun (Rho.le_trans hle g1) ((hs.mono g1).set g3) (Qhy hn hne) g4 g2 hB';exact this
     ·intro g hg;obtain⟨x,hx⟩:=hK g hg;obtain⟨G0,Bs0,f1,f2,f3⟩:=hp;have hp1':HM (ρ.wx (A g::ρ.ex)) H (Bs0++(A g::ρ.ex)):=⟨G0,Bs0,f1,f2,rfl⟩
      have hperm:(A g::As).Perm (Bs0++(A g::ρ.ex)):=by
       rw[f3];exact List.perm_middle.symm
      refine Qml (C':=HS w0 [] (Bs0++(A g::ρ.ex))) (λw hw=>hw.perm hperm) (HS.stab _ _ _) ?_;have hexb:ρ.ex=ρb.ex:=hle.2;have hleb:(ρb.wx (A g::ρb.ex)).le (ρ.wx (A g::ρ.ex)):=⟨hle.1,by show A g::ρ.ex=A g::ρb.ex;rw[hexb]⟩;refine QlU (T2:=T2) (H2:=H2) (n2:=n2) (R:=R) (B:=B) (ρb:=ρb) (A:=A g) (u:=V g) (dj:=dj) (F:=F) (fuel:=fuel) (Mf:=Mf) hF hP hf hR ?_ (q::l) M _ T H n (ρ.wx (A g::ρ.ex)) ((dj,V g)::L') _ (hl.set hjl) hq he hrun0 hleb ((hs.past hn (V g)).wx (A g::ρ.ex)) (by simp only[Qc.get,Nat.beq_refl,cond_true]) hp1' (show QQ (ρ.wx (A g::ρ.ex)) n from hfr) hB;intro listed2 ρ2 L2 As2 hl2 hle2 hfr2 hsr2 hg2 hp2 hB2;obtain⟨G1,Bs1,k1,k2,k3⟩:=hp2;have hex:ρ2.ex=A g::ρb.ex:=hle2.2;have hle0:ρb.le (ρ2.wx ρb.ex):=⟨hle2.1,rfl⟩;have g2':QQ (ρ2.wx ρb.ex) n2:=hfr2;have hle3:=QgV g2' x;obtain⟨e1,e2⟩:=hx (ρ2.wx ρb.ex) n2
      have hperm2:As2.Perm (A g::(Bs1++ρb.ex)):=by
       rw[show As2=Bs1++ρ2.ex from k3,hex];exact List.perm_middle
      refine Qml (C':=HS w0 [] (A g::(Bs1++ρb.ex))) (λw hw=>hw.perm hperm2) (HS.stab _ _ _) ?_;have hM:HM (ρ2.wx ρb.ex) H2 (Bs1++ρb.ex):=⟨G1,Bs1,k1,k2,rfl⟩;have q3:SR (ρ2.wx ρb.ex) (en T2) L2:=hsr2;exact fin listed2 (ext (ρ2.wx ρb.ex) n2 x) L2 (A g::(Bs1++ρb.ex)) hl2 (Rho.le_trans hle0 hle3) (Qbc g2' x) ((q3.mono hle3).put1 hg2 e1) ((HM.mono hle3 hM).push e2) (Qae hM g2' hB2)
    split at h
    ·rename_i v hr;rw[hr]at hcm;obtain⟨hok,h⟩:=bif_in h;simp only[Bool.and_eq_true]at hok;obtain⟨u1,e1,e2⟩:=Z7 (w0:=w0) (L':=L') (o:=⟨some d,op,ty,pos,aft,none⟩) (hF ρ) ρ.le_refl rfl hs hp hfr hcm;rw[<-hP]at e1;have h9:=Qms hf hl hok.1;refine d_p (fuel:=fuel+(q::l).length) q ho e1 h9.1 h9.2 hc.1 ?_;exact rec_ _ H n ρ ((d,u1)::L') As h hle (hs.set e2) (Qhy hn hne) hp hfr hB
    ·rename_i v y hr;rw[hr]at hcm;obtain⟨hok,h⟩:=bif_in h;exact mk v (YR H n y) (n+1) hcm hok (Qae hp hfr hB) h
    ·rename_i v H' n' hr;rw[hr]at hcm;obtain⟨hok,h⟩:=bif_in h;simp only[Bool.and_eq_true]at hok;exact mk v H' n' hcm hok.1 (hB.stay (QcB hok.2)) h
    ·cases h
  ·cases h
end
section
variable{P:Program}{r0:Rho}{w0:World}{CF:CallF}{X:Ctx}{k:List KI}{ops:Array Oper}
theorem Qmx{i:Nat}{dst:Option Nat}{op:Op}{ty:TypeId}{pos:String}{aft:Array Edge}{rest:DS}{Fs:List (List Nat)}{F:List Nat}{listed:Array Bool}{fuel:Nat}{s:Stp}
  (hsP:s.okP=true->(QO ops listed i&&onF F i)=true)(hsH:s.okH=true->(Region.ready .any ops listed==[i])=true)(hsT:s.turn.isSome=F.contains i)
  (ih:Qm1 P r0 w0 CF X k ops rest (if F.contains i then Fs.headD []else F) fuel (listed.setIfInBounds i true))
  {j dj:Nat}{want:Bool}{u:Value}(ho:ops[i]?=some ⟨dst,op,ty,pos,aft,some (j,want)⟩)(hj:(ops[j]?).bind (·.dst)=some dj){T:Tr Value}{H:Hp}{n:Nat}{R:List Nat}{B:List (Nat×HX)}{ρ:Rho}{L':Qc}{As Bs:List HA}(hb:Qc.get L' dj=some u)(hw:u=.bool (!want)\/u=undef)
  (ht:Q8 r0 w0 ρ X k ((Qtr X.n s dst rest).run CF T H n R))(hs:StOk r0 w0 ρ ⟨T,H,n⟩ L' As)(hR:Qu (ha ρ) B=some Bs)(hB:XA H R B):D X ops F (HS w0 [] (Bs++ρ.ex)) (fuel+1) listed k L' (HS w0 [] As):=by
 unfold Qtr at ht;split at ht
 ·rename_i d;cases hlt:Nat.blt d X.n with
  | false=>rw[hlt]at ht;exact ht.elim
  | true=>
   rw[hlt]at ht;simp only[cond_true]at ht;split at ht
   ·rename_i hok;replace hok:=hsP hok;rw[Bool.and_eq_true]at hok;have hfi:=Qmg hok.2;simp only[hfi,Bool.false_eq_true,if_false]at ih;have next:D X ops F (HS w0 [] (Bs++ρ.ex)) fuel (listed.setIfInBounds i true) k ((d,undef)::L') (HS w0 [] As):=ih _ H n R B ρ _ As Bs ht ⟨hs.le,hs.sr.set Qc2,hs.hp,hs.fr⟩ hR hB
    rcases hw with hw|hw
    ·subst hw;exact QtV i dj ho hj hb rfl hok.1 hok.2 hlt next
    ·subst hw;exact QrH i dj ho hj hb hok.1 hok.2 hlt next
   ·split at ht
    ·rename_i y hr hturn
     have hfi:F.contains i=true:=by
      cases hfi:F.contains i with
      | true=>rfl
      | false=>rw[hturn,hfi]at hsT;cases hsT
     replace hr:=hsH hr;simp only[hfi,if_true]at ih;refine QvR dj ho hj hb hw hr (QbP (w0:=w0) ρ.le_refl hs.hp hR hB) hlt ?_;refine QmL (B':=HS w0 [] ([]++ρ.ex)) (F':=Fs.headD []) ⟨i,by simpa using hfi,QhD hr⟩ ?_;exact ih _ H n [] [] ρ _ As [] ht ⟨hs.le,hs.sr.set Qc2,hs.hp,hs.fr⟩ rfl trivial
    ·exact ht.elim
 ·exact ht.elim
end
section
variable{P:Program}{r0:Rho}{w0:World}{CF:CallF}{X:Ctx}{k:List KI}{ops:List Oper}{fs:List (Nat×Inf)}
theorem QdZ(hF:CallOk P r0 CF)(hP:X.P=P)(hf:QbN ops 0 ops=some fs):∀(order:List It)(Fs:List Fin1)(F:Option Fin1)(listed:Array Bool)(M:Nat),Lm ops.length listed M->(∀x∈order,Qtj ops.length x)->QqH M order=2^ops.length-1->(∀f,F=some f->Qh6 fs f)->(∀f∈Fs,Qh6 fs f)->Qm1 P r0 w0 CF X k ⟨ops⟩ (Qb3 P X.n ⟨ops⟩ (mkF (Qr fs fs) Fs F M order)) (Qb8 F) (Qhu order) listed
 | [],Fs,F,listed,M,hl,_,he,_,_=>λT H n R B ρ L' As Bs ht hs hR hB=>by
  have he':M=2^ops.length-1:=he;subst he';exact Qud (QrT hl) (QbP ρ.le_refl hs.hp hR hB) (ht ρ L' As ρ.le_refl hs)
 | .two i j ps::order,Fs,F,listed,M,hl,hlt,he,hFo,hFs=>by
  intro T H n R B ρ L' As Bs ht hs hR hB;obtain⟨hi,hj,hps⟩:=hlt _ (List.mem_cons_self ..);have he':QqH (XN (addL (i::ps) M) j) order=2^ops.length-1:=he;simp only[mkF,Qb3]at ht;split at ht
  ·rename_i oj e2;obtain⟨dstj,opj,tyj,posj,aftj,gj⟩:=oj;unfold dTwo at ht;simp only[]at ht;split at ht
   ·rename_i dj c hnc;cases hc:QjU (Qr fs fs) (addL (i::ps) M) j&&Nat.blt dj X.n with
    | false=>rw[hc]at ht;exact ht.elim
    | true=>
     rw[hc]at ht;simp only[cond_true]at ht;simp only[Bool.and_eq_true]at hc;split at ht
     ·rename_i r hr;obtain⟨T2,H2,n2⟩:=r;have hF0:∀r,CallOk P r ⟨CF.f,CF.e,noY⟩:=λr=>⟨hF.f,hF.e,QdP⟩;have hlen:Qhu (.two i j ps::order)=Qhu order+(i::ps).length+1:=by simp only[Qhu,List.length_cons];omega
      rw[hlen];have Qgk:en (Qhv (pth dj) T) dj=none:=ZA _ _ _
      refine QmF (fuel:=Qhu order) (Mf:=XN (addL (i::ps) M) j) (ρb:=ρ) hF0 hP hf e2 hnc hc.2 hj hR ?_ (i::ps) M listed (Qhv (pth dj) T) H n ρ L' As hl (λq hq=>by
       rcases List.mem_cons.1 hq with rfl|hq
       ·exact hi
       ·exact hps q hq) (λ_=>rfl) hc.1 hr ρ.le_refl hs.sr.del0 Qgk hs.hp hs.fr hB
      intro listed2 ρ2 L2 As2 hl2 hle2 hfr2 hsr2 hp2 hB2;have:=QdZ hF hP hf order Fs F listed2 _ hl2 (λx hx=>hlt x (List.mem_cons_of_mem _ hx)) he' hFo hFs _ _ _ R B ρ2 L2 As2 Bs (ht.mono hle2) ⟨Rho.le_trans hs.le hle2,hsr2,hp2,hfr2⟩ (Xx (λ_ _=>QfI hle2 _ _) hR) hB2;rw[hle2.2]at this;exact this
     ·exact ht.elim
   ·exact ht.elim
  ·exact ht.elim
 | .one i::order,Fs,F,listed,M,hl,hlt,he,hFo,hFs=>by
  intro T H n R B ρ L' As Bs ht hs hR hB;have hi:i<ops.length:=hlt _ (List.mem_cons_self ..);have he':QqH (XN M i) order=2^ops.length-1:=he
  have ih:Qm1 P r0 w0 CF X k ⟨ops⟩ (Qb3 P X.n ⟨ops⟩ (mkF (Qr fs fs) (Bool.rec Fs Fs.tail (isF F i)) (Bool.rec F Fs.head? (isF F i)) (XN M i) order)) (if(Qb8 F).contains i then((Fs.map λf=>[f.i]).headD [])else Qb8 F) (Qhu order) (listed.setIfInBounds i true):=by
   rw[Qeo];cases hc:isF F i with
   | false=>exact QdZ hF hP hf order Fs F _ _ (hl.set hi) (λj hj=>hlt j (List.mem_cons_of_mem _ hj)) he' hFo hFs
   | true=>
    have:=QdZ hF hP hf order Fs.tail Fs.head? _ _ (hl.set hi) (λj hj=>hlt j (List.mem_cons_of_mem _ hj)) he' (λf e=>hFs f (List.mem_of_mem_head? (by rw[e];rfl))) (λf e=>hFs f (List.mem_of_mem_tail e));cases Fs with
    | nil=>exact this
    | cons f Fs=>exact this
  obtain⟨s1,s2,s3,s4⟩:=QpG (i:=i) hf hl hFo
  have s5:(QeF (Qr fs fs) F M i).turn.isSome=(Qb8 F).contains i:=by
   rw[Qlu,Qeo];cases isF F i<;>rfl
  simp only[mkF,Qb3,s4]at ht;split at ht
  ·rename_i o ho;obtain⟨dst,op,ty,pos,aft,guard⟩:=o;cases guard with
   | none=>exact Qrh (Fs:=Fs.map λf=>[f.i]) hF hP s1 s2 s3 s5 ih ho ht hs hR hB (.inl rfl)
   | some jw=>
    obtain⟨j,want⟩:=jw;simp only[]at ht;split at ht
    ·rename_i dj hj;simp only[]at ht;split at ht
     ·rename_i b hb;obtain⟨u,e1,e2⟩:=hs.sr.get (show en T dj=_ from hb);injection e2 with e2
      subst e2;cases hw:b==want with
      | true=>
       rw[hw]at ht;exact Qrh (Fs:=Fs.map λf=>[f.i]) hF hP s1 s2 s3 s5 ih ho ht hs hR hB (.inr ⟨j,want,dj,b,rfl,hj,e1,by simpa using hw⟩)
      | false=>
       rw[hw]at ht;exact Qmx (Fs:=Fs.map λf=>[f.i]) s1 s3 s5 ih ho hj e1 (.inl (by cases b<;>cases want<;>simp_all)) ht hs hR hB
     ·rename_i hb;obtain⟨u,e1,e2⟩:=hs.sr.get (show en T dj=_ from hb);injection e2 with e2
      subst e2;exact Qmx (Fs:=Fs.map λf=>[f.i]) s1 s3 s5 ih ho hj e1 (.inr rfl) ht hs hR hB
     ·exact ht.elim
    ·exact ht.elim
  ·exact ht.elim
end
end Ev
namespace Ev
open Go Go.RowKit
def Qpc(P:Program)(Z:FuncId->Bool):Op->Bool
 | .alloc _=>true
 | .box _ _=>true
 | .store _ _ _=>true
 | .buildSlice _ _ _=>true
 | .makeSlice _ _ _=>true
 | .makeMap _ _=>true
 | .mapUpdate _ _ _ _=>true
 | .convert _ dst _=>match P.underlying dst with
  | some (.slice _)=>true
  | _=>false
 | .call ⟨.value (.func g),_,_⟩=>QL P g&& !Z g
 | .call ⟨.value _,_,_⟩=>true
 | .call ⟨.builtin b,_,_⟩=>match b with
  | .append=>true
  | .copy=>true
  | .clear=>true
  | _=>false
 | _=>false
def isQ:Op->Bool
 | .load _ _=>true
 | .lookup _ _ _ _=>true
 | .convert _ _ _=>true
 | .call ⟨.value _,_,_⟩=>true
 | _=>false
noncomputable def at'(ops:List Oper)(i:Nat):Option Oper:=List.rec (λ_=>none) (λo _ ih i=>Nat.rec (some o) (λj _=>ih j) i) ops i
noncomputable def Qxh(P:Program)(Z:FuncId->Bool)(ops:List Oper)(M:Nat)(rows:List Row):Option Nat:=List.rec none (λr _ ih=>Bool.rec (Bool.rec ih (match at' ops r.i with
 | some o=>Bool.rec (some r.i) ih (Qpc P Z o.op||isQ o.op)
 | none=>ih) (Zy r.need M)) ih (has M r.i)) rows
noncomputable def QwJ(P:Program)(Z:FuncId->Bool)(ops:List Oper)(M:Nat)(rows:List Row):Option Nat:=List.rec none (λr _ ih=>Bool.rec (Bool.rec ih (match at' ops r.i with
 | some o=>Bool.rec (some r.i) ih (Qpc P Z o.op)
 | none=>ih) (Zy r.need M)) ih (has M r.i)) rows
noncomputable def Qt4(P:Program)(Z:FuncId->Bool)(ops:List Oper)(M:Nat)(rows:List Row):Option Nat:=match Qxh P Z ops M rows with
 | some i=>some i
 | none=>QwJ P Z ops M rows
noncomputable def Qv4(M:Nat)(rows:List Row):Option Nat:=List.rec none (λr _ ih=>Bool.rec (Bool.rec ih (some r.i) (Zy r.em M)) ih (has M r.i)) rows
def isNw:Op->Bool
 | .makeMap _ none=>true
 | .alloc _=>true
 | _=>false
noncomputable def QuI(M j:Nat)(rows:List Row):Option Nat:=List.rec none (λr _ ih=>Bool.rec (Bool.rec (Bool.rec ih (some r.i) (Zy r.em M)) ih (has M r.i)) ih (Nat.beq r.i j)) rows
noncomputable def psR(P:Program)(Z:FuncId->Bool)(ops:List Oper)(rows:List Row)(j:Nat)(f:Nat):Nat->List Nat:=Nat.rec (λ_=>[]) (λ_ ih M=>match Qt4 P Z ops M rows with
 | some i=>i::ih (XN M i)
 | none=>(match QuI M j rows with
  | some i=>i::ih (XN M i)
  | none=>[])) f
noncomputable def Qxc(P:Program)(Z:FuncId->Bool)(ops:List Oper)(allr:List Row)(M i:Nat)(ni:Bool)(rows:List Row):Option It:=List.rec none (λr _ ih=>Bool.rec (Bool.rec (Bool.rec ih (match at' ops r.i with
 | some o=>Bool.rec (Bool.rec ih (some (.two r.i i (psR P Z ops allr i ops.length (XN M r.i)))) ni) (some (.two i r.i (psR P Z ops allr r.i ops.length (XN M i)))) (isNw o.op)
 | none=>ih) (Zy r.em M)) ih (has M r.i)) ih (Nat.beq r.i i)) rows
noncomputable def makR(P:Program)(Z:FuncId->Bool)(ops:List Oper)(rows:List Row)(M i:Nat):It:=Bool.rec (match at' ops i with
 | some o=>(match Qxc P Z ops rows M i (isNw o.op) rows with
  | some x=>x
  | none=>.one i)
 | none=>.one i) (.one i) (QjK M i rows)
noncomputable def addI(M:Nat):It->Nat
 | .one i=>XN M i
 | .two i j ps=>XN (addL ps (XN M i)) j
noncomputable def Qfx(P:Program)(Z:FuncId->Bool)(ops:List Oper)(rows:List Row)(f:Nat):Nat->List It:=Nat.rec (λ_=>[]) (λ_ ih M=>match Qt4 P Z ops M rows with
 | some i=>.one i::ih (XN M i)
 | none=>(match Qv4 M rows with
  | some i=>makR P Z ops rows M i::ih (addI M (makR P Z ops rows M i))
  | none=>[])) f
noncomputable def Qlj(tm:Nat)(qs:List Nat):Bool:=List.rec true (λq _ ih=>Bool.rec false ih (has tm q)) qs
noncomputable def QgS(P:Program)(Z:FuncId->Bool)(ops:List Oper)(fs:List (Nat×Inf))(rows:List Row)(order:List It):List Nat->List Fin1:=List.rec (λ_=>[]) (λx _ ih qs=>match x with
 | .two _ _ _=>ih qs
 | .one i=>match at' ops i,Qdk i rows with
 | some o,some r=>Bool.rec (ih (Bool.rec qs (i::qs) (isQ o.op))) (Bool.rec (ih (Bool.rec qs (i::qs) (isQ o.op))) (⟨i,Qfv fs r.em⟩::ih []) (Qlj (Qfv fs r.em) qs)) (Qpc P Z o.op)
 | _,_=>ih qs) order
theorem Qbd{P:Program}{Z:FuncId->Bool}{ops:List Oper}{fs:List (Nat×Inf)}:∀(order:List It)(qs:List Nat),∀f∈QgS P Z ops fs (Qr fs fs) order qs,Qh6 fs f
 | [],qs,f,h=>by cases h
 | .two _ _ _::order,qs,f,h=>Qbd order qs f h
 | .one i::order,qs,f,h=>by
  have hu:QgS P Z ops fs (Qr fs fs) (.one i::order) qs=(match at' ops i,Qdk i (Qr fs fs)with
   | some o,some r=>Bool.rec (QgS P Z ops fs (Qr fs fs) order (Bool.rec qs (i::qs) (isQ o.op))) (Bool.rec (QgS P Z ops fs (Qr fs fs) order (Bool.rec qs (i::qs) (isQ o.op))) (⟨i,Qfv fs r.em⟩::QgS P Z ops fs (Qr fs fs) order []) (Qlj (Qfv fs r.em) qs)) (Qpc P Z o.op)
   | _,_=>QgS P Z ops fs (Qr fs fs) order qs):=rfl
  rw[hu]at h;split at h
  ·rename_i o r h1 h2;cases hk:Qpc P Z o.op with
   | false=>rw[hk]at h;exact Qbd order _ f h
   | true=>
    rw[hk]at h;cases hh:Qlj (Qfv fs r.em) qs with
    | false=>rw[hh]at h;exact Qbd order _ f h
    | true=>
     rw[hh]at h;rcases List.mem_cons.1 h with rfl|h
     ·obtain⟨g1,g2⟩:=YJ h2;exact⟨r,g1,g2,rfl⟩
     ·exact Qbd order _ f h
  ·exact Qbd order _ f h
noncomputable def ltI(n:Nat):It->Bool
 | .one i=>Nat.blt i n
 | .two i j ps=>Nat.blt i n&&(Nat.blt j n&&ps.all λq=>Nat.blt q n)
noncomputable def QjP(n:Nat)(l:List It):Bool:=List.rec true (λi _ ih=>Bool.rec false ih (ltI n i)) l
theorem QhE{n:Nat}:∀{l:List It},QjP n l=true->∀i∈l,Qtj n i
 | a::l,h,i,hi=>by
  have hu:QjP n (a::l)=(Bool.rec false (QjP n l) (ltI n a):Bool):=rfl;rw[hu]at h;cases hb:ltI n a with
  | false=>rw[hb]at h;cases h
  | true=>
   rw[hb]at h;rcases List.mem_cons.1 hi with rfl|hi
   ·cases i with
    | one i=>simpa[ltI,Qtj,Nat.blt_eq]using hb
    | two i j ps=>simpa[ltI,Qtj,Nat.blt_eq]using hb
   ·exact QhE h i hi
 | [],_,i,hi=>by cases hi
noncomputable def Qpp(P:Program)(Z:FuncId->Bool)(nt:Nat):Array Oper->CS
 | ⟨ops⟩=>match QbN ops 0 ops with
  | some fs=>Bool.rec noC (match QgS P Z ops fs (Qr fs fs) (Qfx P Z ops (Qr fs fs) ops.length 0) []with
    | []=>⟨λF T H n=>(Qb3 P nt ⟨ops⟩ (mkF (Qr fs fs) [] none 0 (Qfx P Z ops (Qr fs fs) ops.length 0))).run F T H n []⟩
    | f::Fs=>⟨λF T H n=>(Qb3 P nt ⟨ops⟩ (mkF (Qr fs fs) Fs (some f) 0 (Qfx P Z ops (Qr fs fs) ops.length 0))).run F T H n []⟩)
   (Nat.beq (Qhu (Qfx P Z ops (Qr fs fs) ops.length 0)) ops.length&&(Nat.beq (QqH 0 (Qfx P Z ops (Qr fs fs) ops.length 0)) (2^ops.length-1)&&QjP ops.length (Qfx P Z ops (Qr fs fs) ops.length 0)))
  | none=>noC
theorem Qo8{P:Program}{Z:FuncId->Bool}(hm:P.follows .mixedOrders=true):Qlm P (Qpp P Z):=by
 intro l id r0 w0 X k F T H n ρ L' As hP hF ht hs;unfold Qpp at ht;simp only[]at ht;split at ht
 ·rename_i fs hf;cases hc:(Nat.beq (Qhu (Qfx P Z l (Qr fs fs) l.length 0)) l.length&&(Nat.beq (QqH 0 (Qfx P Z l (Qr fs fs) l.length 0)) (2^l.length-1)&&QjP l.length (Qfx P Z l (Qr fs fs) l.length 0)))with
  | false=>rw[hc]at ht;exact ht.elim
  | true=>
   rw[hc]at ht;simp only[Bool.and_eq_true]at hc;have hlen:=Nat.eq_of_beq_eq_true hc.1
   have key:∀(Fs:List Fin1)(F':Option Fin1),(∀f,F'=some f->Qh6 fs f)->(∀f∈Fs,Qh6 fs f)->Q8 r0 w0 ρ X k ((Qb3 P X.n ⟨l⟩ (mkF (Qr fs fs) Fs F' 0 (Qfx P Z l (Qr fs fs) l.length 0))).run F T H n [])->S X (.c (.region id ⟨l⟩ true)::k) L' (HS w0 [] As):=by
    intro Fs F' h1 h2 h;refine Qtc ([]++ρ.ex) (Qb8 F') (by rw[hP];exact hm) ?_;have:=QdZ (w0:=w0) (k:=k) hF hP hf (Qfx P Z l (Qr fs fs) l.length 0) Fs F' (Array.replicate l.length false) 0 (Lm.start _) (QhE hc.2.2) (Nat.eq_of_beq_eq_true hc.2.1) h1 h2 T H n [] [] ρ L' As [] h hs rfl trivial;rw[hlen]at this;exact this
   split at ht<;>grind[Qbd,Qfx,Qr]
 ·exact ht.elim
def extCS(c:Nat):FuncId->List Value->Option Value:=λf vs=>match vs with
 | [.string ⟨⟨a⟩⟩,.string ⟨⟨b⟩⟩]=>bif Nat.beq f c then some (.int .i64 (XP a b))else none
 | _=>none
theorem extCS_ok{P:Program}{c:Nat}(hc:Qwb P c):QhV P (extCS c):=by
 intro f vs v h w0 ρ us As hvs o L' args ts ho hev;unfold extCS at h;split at h
 ·rename_i a b;obtain⟨h1,rfl⟩:=bif_some h;have hf:=Nat.eq_of_beq_eq_true h1;subst hf;injection hvs with hvs
  subst hvs
  obtain⟨x,y,hxy,hx,hy⟩:∃x y,args.toList=[x,y]/\Gx.ev L' x=some (.string (bs a))/\Gx.ev L' y=some (.string (bs b)):=by
   match hl:args.toList with
   | []=>rw[hl]at hev;cases hev
   | [x]=>grind[evs]
   | [x,y]=>
    rw[hl]at hev;simp only[evs]at hev;split at hev
    ·rename_i v vs h1 h2;split at h2
     ·rename_i v' vs' h3 h4;injection h4 with h4
      injection h2 with h2
      subst h4 h2;injection hev with hev
      injection hev with e1 e2
      injection e2 with e2 e3
      subst e1 e2;exact⟨x,y,rfl,h1,h3⟩
     ·cases h2
    ·cases hev
   | x::y::z::r=>grind[evs]
  rw[Qey hxy]at ho;exact⟨_,rfl,Qff ho hx hy hc⟩
 ·cases h
theorem ev_run{P:Program}{K:CallF}{Z:FuncId->Bool}{m f:Nat}{g:FuncId}{vs:List Value}{v:Value}(hK:KnOk P K)(hm:P.follows .mixedOrders=true)(hvs:Xb vs=true)(hv:flat v=true)(h:(match(evF P K Z m (Qpp P Z) f).f noY g vs .lf 0 with
  | some r=>some r.1
  | none=>none)=some v):∀w,Calls P g vs.toArray w (λe w'=>e=.returned v/\HS w [] [] w'):=by
 intro w;split at h
 ·rename_i r hr;injection h with h
  subst h;obtain⟨v,H',n'⟩:=r
  have:=((Qqg (Z:=Z) (m:=m) hK (Qo8 hm) f ⟨λ_=>none,[]⟩).f _ _ QdP) g vs .lf 0 v H' n' hr w ⟨λ_=>none,[]⟩ vs [] (Rho.le_refl _) (Xx (λa b e=>Qfg (QdS e)) (X9 hvs)) ⟨[],[],(λm r hm=>by
   have h':YS (pth m) m (.lf:Hp)=some r:=hm;rw[Zd]at h';cases h'),rfl,rfl⟩ (λ_ _=>rfl) w (HS.refl w [])
  refine Calls.mono this λe w'⟨ρ',As',u,h1,h2,h3,h4,h5,h6⟩=>?_;rw[Qag hv]at h3;injection h3 with h3
  subst h3;exact⟨h5,h6.sub (List.nil_sublist _)⟩
 ·cases h
end Ev
namespace Ev
open Go Go.RowKit
def InsC(P:Program)(f e sz by':Nat):Prop:=∀(w:World)(a:Option Addr)(i n m cap:Nat)(xs news:List Value)(b0 c0 tot2:Nat),HS w (fps [.own (.slice a n cap) e sz n xs,.blk b0 e tot2 news]) [.own (.slice a n cap) e sz n xs,.blk b0 e tot2 news] w->0<m->news.length=m*sz->(∀u∈news,u.oneCell'=true)->(∀u∈xs,u.oneCell'=true)->(n+m)*by'<=140737488355328->i<=n ->
 Calls P f #[.slice a n cap,.int .i64 (i:Int),.slice (some ⟨b0,0,none⟩) m c0] w λen w'=>∃g:Option Addr×Nat,en=.returned (.slice g.1 (n+m) g.2)/\True/\HS w (fps [.own (.slice a n cap) e sz n xs,.blk b0 e tot2 news]) [.own (.slice g.1 (n+m) g.2) e sz (n+m) (xs.take (i*sz)++news++xs.drop (i*sz)),.blk b0 e tot2 news] w'
noncomputable def Qwc(e sz by':Nat)(H:Hp)(n:Nat):List Value->Option (Value×Hp×Nat)
 | [.slice none l c,.int .i64 (.ofNat i),.slice (some ⟨q,0,_⟩) m _]=>match Yd H q with
  | some rq=>bif (Nat.beq rq.ty e&&(Nat.beq rq.cs.length (m*sz)&&(Nat.blt 0 m&&Nat.ble i l)))&&((Nat.beq l 0&&Nat.beq c 0)&&Nat.ble ((l+m)*by') 140737488355328)then some (.slice (some ⟨n,0,none⟩) (l+m) (l+m),Yo H n ⟨e,sz,rq.cs⟩,n+1)else none
  | none=>none
 | [.slice (some ⟨p,0,none⟩) l c,.int .i64 (.ofNat i),.slice (some ⟨q,0,_⟩) m _]=>match Yd H p,Yd H q with
  | some r,some rq=>bif (Nat.beq rq.ty e&&(Nat.beq rq.cs.length (m*sz)&&(Nat.blt 0 m&&Nat.ble i l)))&&((!Nat.beq q p&&(Nat.beq r.ty e&&(Nat.beq r.sz sz&&(Nat.beq r.cs.length (c*sz)&&Nat.blt 0 sz))))&&((Nat.ble l c&&Nat.ble c maxLen)&&Nat.ble ((l+m)*by') 140737488355328))then some (.slice (some ⟨n,0,none⟩) (l+m) (l+m),Yo (Qgk H p) n ⟨e,sz,(r.cs.take (l*sz)).take (i*sz)++rq.cs++(r.cs.take (l*sz)).drop (i*sz)⟩,n+1)else none
  | _,_=>none
 | _=>none
noncomputable def insK:List (Nat×Nat×Nat×Nat)->QcI
 | [],_,_,_,_=>none
 | (f,e,sz,by')::l,g,vs,H,n=>bif Nat.beq g f then Qwc e sz by' H n vs else insK l g vs H n
theorem Qlt{ρ:Rho}{p o l c:Nat}{u:Value}(h:den ρ (.slice (some ⟨p,o,none⟩) l c)=some u):∃b d,ρ p=some (b,d)/\u=.slice (some ⟨b,o,none⟩) l (c+d):=by grind[den,Xt,QV,XZ]
theorem Qm5{ρ:Rho}{p o l c:Nat}{q:Option Nat}{u:Value}(h:den ρ (.slice (some ⟨p,o,q⟩) l c)=some u):∃b d c',ρ p=some (b,d)/\u=.slice (some ⟨b,o,none⟩) l c':=by cases q<;>grind[Qlt,den,Xt,QV,XZ]
theorem XV{α β:Type}{f:α->Option β}{a:α}{l:List α}{m:List β}(h:Qu f (a::l)=some m):∃b m',f a=some b/\Qu f l=some m'/\m=b::m':=by grind[Qu]
theorem QsX{P:Program}{f e sz by':Nat}(hI:InsC P f e sz by'){vs:List Value}{H:Hp}{n:Nat}{v:Value}{H':Hp}{n':Nat}(h:Qwc e sz by' H n vs=some (v,H',n'))(w0:World)(ρ:Rho)(us:List Value)(As:List HA)(hus:Qu (den ρ) vs=some us)(hH:HM ρ H As)(hf:QQ ρ n)(w:World)(hw:HS w0 [] As w):Calls P f us.toArray w (QmR w0 ρ v H' n'):=by
 unfold Qwc at h;split at h
 ·rename_i l c i q x m y;obtain⟨u1,m1,d1,hus1,rfl⟩:=XV hus;obtain⟨u2,m2,d2,hus2,rfl⟩:=XV hus1;obtain⟨u3,m3,d3,hus3,rfl⟩:=XV hus2;cases hus3;cases d1;cases d2;obtain⟨b0,d0,c0,e1,rfl⟩:=Qm5 d3;split at h
  ·rename_i rq hq;obtain⟨hc,he⟩:=bif_some h
   clear h
   simp only[Bool.and_eq_true]at hc;obtain⟨⟨k1,k2,k3,k4⟩,⟨k5,k6⟩,k7⟩:=hc;have hl0:=Nat.eq_of_beq_eq_true k5;have hc0:=Nat.eq_of_beq_eq_true k6;have hi0:i=0:=by have:=Nat.le_of_ble_eq_true k4;omega
   have hty:=Nat.eq_of_beq_eq_true k1;subst hl0 hc0 hi0 hty;injection he with h1 h2
   injection h2 with h2 h3
   subst h1 h2 h3;obtain⟨b,d,cu,Rs,g1,g2,g3,g4,_,_⟩:=X8 hH hq;rw[g1]at e1;injection e1 with e1
   injection e1 with e1 e3
   subst e1 e3;have hw2:=((hw.perm g4.perm).own_nil rq.ty sz);have hlen:cu.length=m*sz:=by rw[Q7 g2];exact Nat.eq_of_beq_eq_true k2
   have hfoc:=HS.focus (Cs:=[.own (.slice none 0 0) rq.ty sz 0 [],.blk b rq.ty (cu.length+d*rq.sz) cu]) (Ds:=Rs) hw2;refine Calls.mono (hI w none 0 0 m 0 [] cu b c0 _ hfoc (by simpa[Nat.blt_eq]using k3) hlen (List.all_eq_true.1 (Y1 g2)) (λ_ h=>by cases h) (Nat.le_of_ble_eq_true k7) (Nat.le_refl _)) λen w'⟨g,h1,_,h2⟩=>?_;have h3:=HS.callM (Cs:=[.own (.slice none 0 0) rq.ty sz 0 [],.blk b rq.ty (cu.length+d*rq.sz) cu]) (As:=Rs) hw2 (λb hb=>by obtain⟨A,hA,hb⟩:=List.mem_flatMap.1 hb;exact⟨A,hA,hb⟩) h2;have hpos:0<0+m:=by simpa[Nat.blt_eq]using k3
   obtain⟨gg,ga,_,hn,hcm,hxl,h4⟩:=h3.own_blk hpos .here;have h5:HS w0 [] (.blk gg rq.ty (g.2*sz) ([].take (0*sz)++cu++[].drop (0*sz))::As) w':=h4.perm (.cons _ g4.perm.symm);obtain⟨ρ',As',o1,o2,o3,o4,o5⟩:=Qem (w0:=w0) (e:=rq.ty) (sz:=sz) (k:=0) (m:=m) (g:=(gg,g.2)) (xs:=cu) ⟨As,hH,.refl _⟩ hf g2 hn hcm (by rw[hlen,Nat.zero_add]);refine⟨ρ',As',_,o1,o2,o3,o4,?_,o5 _ (by simpa using h5)⟩;rw[h1,ga]
  ·cases h
 ·rename_i p l c i q x m y;obtain⟨u1,m1,d1,hus1,rfl⟩:=XV hus;obtain⟨u2,m2,d2,hus2,rfl⟩:=XV hus1;obtain⟨u3,m3,d3,hus3,rfl⟩:=XV hus2;cases hus3;cases d2;obtain⟨b9,d9,e9,rfl⟩:=Qlt d1;obtain⟨b0,d0,c0,e1,rfl⟩:=Qm5 d3;split at h
  ·rename_i r rq hp hq;obtain⟨hc,he⟩:=bif_some h
   clear h
   simp only[Bool.and_eq_true]at hc;obtain⟨⟨k1,k2,k3,k4⟩,⟨k5,k6,k7,k8,k9⟩,⟨k10,k11⟩,k12⟩:=hc;have hty:=Nat.eq_of_beq_eq_true k1;have hty2:=Nat.eq_of_beq_eq_true k6;have hsz2:=Nat.eq_of_beq_eq_true k7;have hlenr:=Nat.eq_of_beq_eq_true k8;have hsz0:0<sz:=by simpa[Nat.blt_eq]using k9
   have hlc:=Nat.le_of_ble_eq_true k10;have hcm:=Nat.le_of_ble_eq_true k11;have hqp:q≠p:=λh=>by subst h;simp[Nat.beq_refl]at k5
   injection he with h1 h2
   injection h2 with h2 h3
   subst h1 h2 h3;obtain⟨b,d,rs,Rs,g1,g2,g3,g4,_,As3,g6,g7⟩:=X8 hH hp;rw[g1]at e9;injection e9 with e9
   injection e9 with e9 e3
   subst e9 e3;obtain⟨b',d',cu,Rs2,f1,f2,f3,f4,_,_⟩:=X8 g6 (by unfold Yd;rw[Qci hqp];exact hq);rw[f1]at e1;injection e1 with e1
   injection e1 with e1 e3
   subst e1 e3;have hlr:=Q7 g2
   have hcd:c+d<=maxLen:=by
    unfold Qe9 at g3;rcases g3 with g3|g3
    ·omega
    ·rw[hlenr,hsz2,<-Nat.add_mul]at g3;exact Nat.le_of_mul_le_mul_right g3 hsz0
   have htot:rs.length+d*r.sz=(c+d)*sz:=by rw[hlr,hlenr,hsz2,Nat.add_mul]
   rw[hty2,htot]at g4;rw[hty]at f4;have hw2:=HS.to_own (n:=l) g4 hw (List.take_append_drop (l*sz) rs).symm (by rw[List.length_take,hlr,hlenr];exact Nat.min_eq_left (Nat.mul_le_mul_right _ hlc)) om hcd;have hw3:=hw2.perm (.cons _ (g7.trans f4.perm));have hlen:cu.length=m*sz:=by rw[Q7 f2];exact Nat.eq_of_beq_eq_true k2
   have hfoc:=HS.focus (Cs:=[.own (.slice (some ⟨b,0,none⟩) l (c+d)) e sz l (rs.take (l*sz)),.blk b' e (cu.length+d'*rq.sz) cu]) (Ds:=Rs2) hw3;have hone:=List.all_eq_true.1 (Y1 g2);refine Calls.mono (hI w _ i l m (c+d) (rs.take (l*sz)) cu b' c0 _ hfoc (by simpa[Nat.blt_eq]using k3) hlen (List.all_eq_true.1 (Y1 f2)) (λu hu=>hone u (List.mem_of_mem_take hu)) (Nat.le_of_ble_eq_true k12) (Nat.le_of_ble_eq_true k4)) λen w'⟨g,h1,_,h2⟩=>?_;have h3:=HS.callM (Cs:=[.own (.slice (some ⟨b,0,none⟩) l (c+d)) e sz l (rs.take (l*sz)),.blk b' e (cu.length+d'*rq.sz) cu]) (As:=Rs2) hw3 (λb hb=>by obtain⟨A,hA,hb⟩:=List.mem_flatMap.1 hb;exact⟨A,hA,hb⟩) h2
   have hpos:0<l+m:=by
     have:0<m:=by simpa[Nat.blt_eq]using k3
     omega
   obtain⟨gg,ga,_,hn,hcm2,hxl,h4⟩:=h3.own_blk hpos .here;have h5:HS w0 [] (.blk gg e (g.2*sz) ((rs.take (l*sz)).take (i*sz)++cu++(rs.take (l*sz)).drop (i*sz))::As3) w':=h4.perm (.cons _ f4.perm.symm);have hcells:Qu (QV ρ) ((r.cs.take (l*sz)).take (i*sz)++rq.cs++(r.cs.take (l*sz)).drop (i*sz))=some ((rs.take (l*sz)).take (i*sz)++cu++(rs.take (l*sz)).drop (i*sz)):=Za (Za (XJ _ (XJ _ g2)) f2) (YI _ (XJ _ g2));obtain⟨ρ',As',o1,o2,o3,o4,o5⟩:=Qem (w0:=w0) (e:=e) (sz:=sz) (k:=l) (m:=m) (g:=(gg,g.2)) ⟨As3,g6,.refl _⟩ hf hcells hn hcm2 hxl;refine⟨ρ',As',_,o1,o2,o3,o4,?_,o5 _ h5⟩;rw[h1,ga]
  ·cases h
 ·cases h
theorem insK_ok{P:Program}{r0:Rho}:∀{l:List (Nat×Nat×Nat×Nat)},(∀x∈l,InsC P x.1 x.2.1 x.2.2.1 x.2.2.2)->Qef P r0 (insK l)
 | [],_=>λ_ _ _ _ _ _ _ h=>by cases h
 | (f,e,sz,by')::l,hl=>by
  intro g vs H n v H' n' h;simp only[insK]at h;cases hb:Nat.beq g f with
  | true=>
   rw[hb]at h;have hg:=Nat.eq_of_beq_eq_true hb;subst hg;exactλw0 ρ us As _ hus hH hf w hw=>QsX (hl _ (List.mem_cons_self ..)) h w0 ρ us As hus hH hf w hw
  | false=>
   rw[hb]at h;exact insK_ok (λx hx=>hl x (List.mem_cons_of_mem _ hx)) g vs H n v H' n' h
end Ev
namespace Ev
open Go Go.RowKit
def QCon(P:Program)(f:FuncId)(φ:List Value->Option Value):Prop:=∀vs v,φ vs=some v->Qjc vs=true/\den ⟨λ_=>none,[]⟩ v=some v/\∀w:World,Calls P f vs.toArray w λen w'=>en=.returned v/\Below w.heap.size w w'
noncomputable def knP(e:FuncId->List Value->Option Value):List (FuncId×(List Value->Option Value))->FuncId->List Value->Option Value
 | [],g,vs=>e g vs
 | x::l,g,vs=>bif Nat.beq g x.1 then x.2 vs else knP e l g vs
theorem knP_ok{P:Program}{e:FuncId->List Value->Option Value}(he:QhV P e):∀{l:List (FuncId×(List Value->Option Value))},(∀x∈l,QL P x.1=true/\QCon P x.1 x.2)->QhV P (knP e l)
 | [],_=>he
 | x::l,hl=>by
  intro g vs v h w0 ρ us As hvs o L' args ts ho hev;simp only[knP]at h;cases hb:Nat.beq g x.1 with
  | true=>
   rw[hb]at h;have hg:=Nat.eq_of_beq_eq_true hb;subst hg;obtain⟨hfn,hq⟩:=hl x (List.mem_cons_self ..);obtain⟨h1,h2,h3⟩:=hq vs v h
   have hus:us=vs:=by
    have h4:=Qcy (ρ:=ρ) h1;rw[h4]at hvs;exact(Option.some.inj hvs).symm
   subst hus
   have hmono:den ρ v=some v:=by
    have h4:=Qbj (ρ:=⟨λ_=>none,ρ.ex⟩) (ρ':=ρ) ⟨λn x h=>(by cases h),rfl⟩ v v h2;exact h4
   refine⟨v,hmono,?_⟩;intro a w hρ hw;rw[ZK ho hρ (show ev L' (.func x.1)=some (.func (.func x.1) #[] #[])from rfl) hfn hev];simp only[Array.empty_append,Array.append_empty];refine Calls.mono (h3 w) λe w'⟨h5,h6⟩=>?_;exact⟨_,h5,rfl,h6⟩
  | false=>
   rw[hb]at h;exact knP_ok he (λy hy=>hl y (List.mem_cons_of_mem _ hy)) g vs v h w0 ρ us As hvs o L' args ts ho hev
theorem Qm7{g:FuncId}{vs:List Value}{v:Value}:∀{l:List (FuncId×(List Value->Option Value))},knP (λ_ _=>none) l g vs=some v->∃x∈l,g=x.1/\x.2 vs=some v
 | [],h=>by cases h
 | x::l,h=>by
  simp only[knP]at h;cases hb:Nat.beq g x.1 with
  | true=>
   rw[hb]at h;exact⟨x,List.mem_cons_self ..,Nat.eq_of_beq_eq_true hb,h⟩
  | false=>
   rw[hb]at h;obtain⟨y,hy,h2⟩:=Qm7 h;exact⟨y,List.mem_cons_of_mem _ hy,h2⟩
noncomputable def knR(K:QcI)(l:List (FuncId×(List Value->Option Value))):QcI:=λg vs H n=>match knP (λ_ _=>none) l g vs with
 | some v=>some (v,H,n)
 | none=>K g vs H n
theorem knR_ok{P:Program}{r0:Rho}{K:QcI}(hK:Qef P r0 K){l:List (FuncId×(List Value->Option Value))}(hl:∀x∈l,QCon P x.1 x.2):Qef P r0 (knR K l):=by
 intro g vs H n v H' n' h w0 ρ us As hle hus hH hf w hw;unfold knR at h;split at h
 ·rename_i v2 hv;injection h with h
  injection h with h1 h
  injection h with h2 h3
  subst h1 h2 h3;obtain⟨x,hx,rfl,hφ⟩:=Qm7 hv;obtain⟨h1,h2,h3⟩:=hl x hx vs v2 hφ;rw[Qcy h1]at hus;injection hus with hus
  subst hus;refine Calls.mono (h3 w) λe w'⟨h5,h6⟩=>⟨ρ,As,v2,Rho.le_refl _,hf,Qbj (ρ:=⟨λ_=>none,ρ.ex⟩) (ρ':=ρ) ⟨λn x h=>(by cases h),rfl⟩ v2 v2 h2,hH,h5,hw.stable h6⟩
 ·exact hK g vs H n v H' n' h w0 ρ us As hle hus hH hf w hw
noncomputable def QmH:List Value->Option (List (List UInt8))
 | []=>some []
 | .string b::l=>match QmH l with
  | some r=>some (b.data.toList::r)
  | none=>none
 | _=>none
theorem Qkx:∀{cs:List Value}{l:List (List UInt8)},QmH cs=some l->cs=l.map (λs=>Value.string (bs s))/\Xb cs=true
 | [],l,h=>by
  injection h with h
  subst h;exact⟨rfl,rfl⟩
 | c::cs,l,h=>by
  cases c with
  | string b=>
   simp only[QmH]at h;split at h
   ·rename_i r hr;injection h with h
    subst h;obtain⟨h1,h2⟩:=Qkx hr;refine⟨by rw[List.map_cons,<-h1];rfl,?_⟩;simp only[Xb,List.all_cons];rw[show flat (Value.string b)=true from rfl];exact h2
   ·cases h
  | _=>cases h
def SCon(P:Program)(f:FuncId)(φ:List UInt8->List UInt8->List (List UInt8)->Option Value):Prop:=∀t s l v,φ t s l=some v->den ⟨λ_=>none,[]⟩ v=some v/\∀(w:World)(a:Option Addr)(cap:Nat),Vl w a (l.map λs=>Value.string (bs s))->Calls P f #[.string (bs t),.string (bs s),.slice a l.length cap] w λen w'=>en=.returned v/\Below w.heap.size w w'
noncomputable def knS(K:QcI)(f:FuncId)(φ:List UInt8->List UInt8->List (List UInt8)->Option Value):QcI:=λg vs H n=>bif Nat.beq g f then(match vs with
 | [.string t,.string s,.slice (some ⟨p,0,none⟩) m c]=>match Yd H p with
  | some r=>bif Nat.beq r.sz 1&&Nat.ble m r.cs.length then(match QmH (r.cs.take m)with
   | some l=>(match φ t.data.toList s.data.toList l with
    | some v=>some (v,H,n)
    | none=>none)
   | none=>none)else none
  | none=>none
 | [.string t,.string s,.slice none 0 c]=>match φ t.data.toList s.data.toList []with
  | some v=>some (v,H,n)
  | none=>none
 | _=>none)else K g vs H n
theorem knS_ok{P:Program}{r0:Rho}{K:QcI}(hK:Qef P r0 K){f:FuncId}{φ:List UInt8->List UInt8->List (List UInt8)->Option Value}(hl:SCon P f φ):Qef P r0 (knS K f φ):=by
 intro g vs H n v H' n' h w0 ρ us As hle hus hH hf w hw;unfold knS at h;cases hb:Nat.beq g f with
 | false=>
  rw[hb]at h;exact hK g vs H n v H' n' h w0 ρ us As hle hus hH hf w hw
 | true=>
  rw[hb]at h;simp only[cond_true]at h;have hg:=Nat.eq_of_beq_eq_true hb;subst hg;have self:∀{v2:Value},den ⟨λ_=>none,[]⟩ v2=some v2->den ρ v2=some v2:=λ{v2}h2=>Qbj (ρ:=⟨λ_=>none,ρ.ex⟩) (ρ':=ρ) ⟨λn x h=>(by cases h),rfl⟩ v2 v2 h2;split at h
  ·rename_i t s p m c;obtain⟨u1,m1,d1,hus1,rfl⟩:=XV hus;obtain⟨u2,m2,d2,hus2,rfl⟩:=XV hus1;obtain⟨u3,m3,d3,hus3,rfl⟩:=XV hus2;cases hus3;cases d1;cases d2;obtain⟨b0,d0,e0,rfl⟩:=Qlt d3;split at h
   ·rename_i r hr;obtain⟨hc,h⟩:=bif_in h;simp only[Bool.and_eq_true]at hc;have hsz:=Nat.eq_of_beq_eq_true hc.1;have hm:=Nat.le_of_ble_eq_true hc.2;split at h
    ·rename_i l hl2;split at h
     ·rename_i v2 hv;injection h with h
      injection h with h1 h
      injection h with h2 h3
      subst h1 h2 h3;obtain⟨b,d,cu,Rs,g1,g2,g3,g4,_,_⟩:=X8 hH hr;rw[g1]at e0;injection e0 with e0
      injection e0 with e0 e1
      subst e0 e1;obtain⟨k1,k2⟩:=Qkx hl2;obtain⟨k3,k4⟩:=hl _ _ _ v2 hv
      have hcu:(cu.take m)=l.map λs=>Value.string (bs s):=by
       have h5:=XJ m g2;rw[X9 k2]at h5;injection h5 with h5
       rw[<-h5,k1]
      have hlen:m=l.length:=by
       have h6:=congrArg List.length hcu;rw[List.length_take,List.length_map,Q7 g2]at h6;omega
      have hV:Vl w (some ⟨b,0,none⟩) (l.map λs=>Value.string (bs s)):=by
       rw[<-hcu];have hlt:(cu.take m).length<=cu.length:=by rw[List.length_take];omega
       refine hw.sl_blk g4 (n:=(cu.take m).length) (cell:=λi=>((cu.take m)[i]?).toList) λi hi=>?_;have h7:=Qix (vs:=cu.take m) hi;refine⟨h7.1,λj v hj=>?_⟩;have h8:=h7.2 j v hj;rw[List.getElem?_take]at h8;split at h8
       ·exact h8
       ·cases h8
      have hcall:=k4 w (some ⟨b,0,none⟩) (c+d) hV;rw[<-hlen]at hcall;exact Calls.mono hcall λe w'⟨h5,h6⟩=>⟨ρ,As,v2,Rho.le_refl _,hf,self k3,hH,h5,hw.stable h6⟩
     ·cases h
    ·cases h
   ·cases h
  ·rename_i t s c;obtain⟨u1,m1,d1,hus1,rfl⟩:=XV hus;obtain⟨u2,m2,d2,hus2,rfl⟩:=XV hus1;obtain⟨u3,m3,d3,hus3,rfl⟩:=XV hus2;cases hus3;cases d1;cases d2;cases d3;split at h
   ·rename_i v2 hv;injection h with h
    injection h with h1 h
    injection h with h2 h3
    subst h1 h2 h3;obtain⟨k3,k4⟩:=hl _ _ _ v2 hv;have hV:Vl w none (([]:List (List UInt8)).map λs=>Value.string (bs s)):=⟨λhn=>absurd hn (Nat.lt_irrefl 0)⟩;have hcall:=k4 w none c hV;exact Calls.mono hcall λe w'⟨h5,h6⟩=>⟨ρ,As,v2,Rho.le_refl _,hf,self k3,hH,h5,hw.stable h6⟩
   ·cases h
  ·cases h
end Ev
end Gx
namespace Gx
open Go Go.RowKit
def mtF(t s:List UInt8):Nat->List UInt8->Nat->Bool
 | 0,_,_=>false
 | _+1,[],i=>decide (i=0)
 | f+1,c::r,0=>if c=42 then mtF t s f r 0 else false
 | f+1,c::r,i+1=>if c=42 then mtF t s f r (i+1)||mtF t s f (c::r) i else mtF t s f r i&&(decide (c=63)||decide (t.getD c.toNat 0=t.getD (s.getD i 0).toNat 0))
theorem QfW{t s:List UInt8}:∀(f:Nat)(r:List UInt8)(i:Nat),r.length+i<f->mtF t s f r i=mtR t s r i
 | 0,_,_,h=>absurd h (Nat.not_lt_zero _)
 | f+1,[],i,h=>by rw[mtF,mtR]
 | f+1,c::r,0,h=>by
  simp only[List.length_cons]at h;rw[mtF,mtR,QfW f r 0 om]
 | f+1,c::r,i+1,h=>by
  simp only[List.length_cons]at h;rw[mtF,mtR,QfW f r (i+1) om,QfW f (c::r) i (by simp only[List.length_cons];omega),QfW f r i om]
def mtK(t p s:List UInt8):Bool:=mtF t s (p.length+s.length+1) p.reverse s.length
theorem Qu8(t p s:List UInt8):mtK t p s=mtU t p s:=QfW _ _ _ (by rw[List.length_reverse];omega)
end Gx
namespace Go.Proofs
open Go Go.RowKit Gx
theorem QuE:Ev.InsC Tryz.prog 239 84 2 32:=λw a i n m cap xs news b0 c0 tot2=>c239 w a i n m cap xs news b0 c0 tot2
theorem QuZ:Ev.InsC Tryz.prog 302 3 1 8:=λw a i n m cap xs news b0 c0 tot2=>c302 w a i n m cap xs news b0 c0 tot2
def smB(b:ByteArray):Bool:=Nat.ble b.data.toList.length 1000000
theorem Zv{b:ByteArray}(h:smB b=true):b.data.toList.length<=1000000:=Nat.le_of_ble_eq_true h
def Quv:List Value->Option Value
  | [.string b]=>bif smB b then some (.int .i64 (QI b.data.toList))else none
  | _=>none
theorem qc75:Ev.QCon Tryz.prog 75 Quv:=λvs v h=>by
  unfold Quv at h;split at h
  · rename_i b;obtain⟨h1,rfl⟩:=Ev.bif_some h;exact⟨rfl,rfl,λw=>c75 w b.data.toList (Zv h1)⟩
  · cases h
def QvV:List Value->Option Value
  | []=>some (.string (bs Yz))
  | _=>none
theorem qc82:Ev.QCon Tryz.prog 82 QvV:=λvs v h=>by
  unfold QvV at h;split at h
  · injection h with h
    subst h;exact⟨rfl,rfl,λw=>c82 w⟩
  · cases h
def Qre:List Value->Option Value
  | [.string b]=>bif smB b then some (.bool (YW b.data.toList))else none
  | _=>none
theorem Qw2:Ev.QCon Tryz.prog 171 Qre:=λvs v h=>by
  unfold Qre at h;split at h
  · rename_i b;obtain⟨h1,rfl⟩:=Ev.bif_some h;exact⟨rfl,rfl,λw=>Qr5 w b.data.toList (Zv h1)⟩
  · cases h
def Qpq:List Value->Option Value
  | [.string t,.string s]=>bif smB t&&smB s then some (.tuple #[.bool (if openE t.data.toList [s.data.toList]=0 then !YW (up t.data.toList s.data.toList)else false),.int .i64 (openE t.data.toList [s.data.toList])])else none
  | _=>none
theorem QwQ:Ev.QCon Tryz.prog 169 Qpq:=λvs v h=>by
  unfold Qpq at h;split at h
  · rename_i t s;obtain⟨h1,rfl⟩:=Ev.bif_some h;rw[Bool.and_eq_true]at h1;exact⟨rfl,rfl,λw=>c169 w t.data.toList s.data.toList (Zv h1.1) (Zv h1.2)⟩
  · cases h
def QvW:List Value->Option Value
  | [.string t,.string p,.string s]=>bif smB t&&(smB p&&smB s)then some (.tuple #[.bool (if Qim t.data.toList p.data.toList s.data.toList=0 then mtK t.data.toList p.data.toList s.data.toList else false),.int .i64 (Qim t.data.toList p.data.toList s.data.toList)])else none
  | _=>none
theorem qc81:Ev.QCon Tryz.prog 81 QvW:=λvs v h=>by
  unfold QvW at h;split at h
  · rename_i t p s;obtain⟨h1,rfl⟩:=Ev.bif_some h;rw[Bool.and_eq_true,Bool.and_eq_true]at h1;refine⟨rfl,rfl,λw=>?_⟩;have h9:=c81 w t.data.toList p.data.toList s.data.toList (Zv h1.1) (Zv h1.2.1) (Zv h1.2.2);rw[<-Qu8]at h9;exact h9
  · cases h
def Qrf:List Value->Option Value
  | [.string a,.string b]=>bif smB a&&smB b then some (.int .i64 (XP (a.data.toList.map Qa1) (b.data.toList.map Qa1)))else none
  | _=>none
theorem QwG:Ev.QCon Tryz.prog 211 Qrf:=λvs v h=>by
  unfold Qrf at h;split at h
  · rename_i a b;obtain⟨h1,rfl⟩:=Ev.bif_some h;rw[Bool.and_eq_true]at h1;exact⟨rfl,rfl,λw=>c211 w a.data.toList b.data.toList (Zv h1.1) (Zv h1.2)⟩
  · cases h
def Qvf:List Value->Option Value
  | [.agg ⟨[.string a,.string b]⟩]=>bif smB a&&smB b then some (.tuple #[.agg #[.string (bs (dcD ⟨a.data.toList,b.data.toList⟩).nm),.int .i64 (dcD ⟨a.data.toList,b.data.toList⟩).sp,.string (bs (dcD ⟨a.data.toList,b.data.toList⟩).ot),.int .i64 (dcD ⟨a.data.toList,b.data.toList⟩).re,.int .i64 (dcD ⟨a.data.toList,b.data.toList⟩).sq,.int .i64 (dcD ⟨a.data.toList,b.data.toList⟩).fl,.int .i64 (dcD ⟨a.data.toList,b.data.toList⟩).tm,.int .i64 (dcD ⟨a.data.toList,b.data.toList⟩).al,.int .i64 (dcD ⟨a.data.toList,b.data.toList⟩).sz],.int .i64 (dcE ⟨a.data.toList,b.data.toList⟩)])else none
  | _=>none
theorem qc40:Ev.QCon Tryz.prog 40 Qvf:=λvs v h=>by
  unfold Qvf at h;split at h
  · rename_i a b;obtain⟨h1,rfl⟩:=Ev.bif_some h;rw[Bool.and_eq_true]at h1;exact⟨rfl,rfl,λw=>c40 w ⟨a.data.toList,b.data.toList⟩ (Zv h1.1) (Zv h1.2)⟩
  · cases h
def okI(n:Int):Bool:=decide (0<=n/\n<=9223372036854775807)
def Qvu:List Value->Option Value
  | [.agg ⟨[.string a,.int .i64 sp,.string o,.int .i64 re,.int .i64 sq,.int .i64 fl,.int .i64 tm,.int .i64 al,.int .i64 sz]⟩]=>bif (smB a&&smB o)&&((okI re&&okI sq)&&(okI sp&&(okI fl&&(okI tm&&(okI al&&okI sz)))))then some (.agg #[.string (bs (Qnu ⟨a.data.toList,sp,o.data.toList,re,sq,fl,tm,al,sz⟩).key),.string (bs (Qnu ⟨a.data.toList,sp,o.data.toList,re,sq,fl,tm,al,sz⟩).val)])else none
  | _=>none
theorem qc98:Ev.QCon Tryz.prog 98 Qvu:=λvs v h=>by
  unfold Qvu at h;split at h
  · rename_i a sp o re sq fl tm al sz;obtain⟨h1,rfl⟩:=Ev.bif_some h;simp only[Bool.and_eq_true]at h1;obtain⟨⟨k1,k2⟩,⟨k3,k4⟩,k5,k6,k7,k8,k9⟩:=h1;exact⟨rfl,rfl,λw=>c98 w ⟨a.data.toList,sp,o.data.toList,re,sq,fl,tm,al,sz⟩ (Zv k1) (Zv k2) (of_decide_eq_true k3) (of_decide_eq_true k4) (of_decide_eq_true k5) (of_decide_eq_true k6) (of_decide_eq_true k7) (of_decide_eq_true k8) (of_decide_eq_true k9)⟩
  · cases h
def QlT(t s:List UInt8)(ks:List (List UInt8)):Nat->Nat->Option Nat
  | 0,_=>none
  | f+1,k=>if up t (ZF t s k)∈ks then QlT t s ks f (k+1)else some k
theorem Qjn{t s:List UInt8}{ks:List (List UInt8)}:∀{f k m:Nat},QlT t s ks f k=some m->k<=m/\m<k+f/\¬up t (ZF t s m)∈ks
  | 0,k,m,h=>by cases h
  | f+1,k,m,h=>by
    unfold QlT at h;split at h
    · obtain⟨h1,h2,h3⟩:=Qjn h;exact⟨om,om,h3⟩
    · rename_i hn;injection h with h
      subst h;exact⟨om,om,hn⟩
def QrE(t s:List UInt8)(l:List (List UInt8)):Option Value:=bif Nat.ble t.length 1000000&&(Nat.ble s.length 1000000&&(Nat.ble l.length 1000000&&l.all λs=>Nat.ble s.length 1000000))then(match QlT t s (l.map (up t)) 99 1 with
  | some _=>some (.tuple #[.string (bs (if Qa7 t s l=0 then(QaF t s (l.map (up t))).1 else[])),.int .i64 (if Qa7 t s l=0 then(QaF t s (l.map (up t))).2 else Qa7 t s l)])
  | none=>none)else none
theorem QwN:Ev.SCon Tryz.prog 118 QrE:=λt s l v h=>by
  unfold QrE at h;obtain⟨h1,h⟩:=Ev.bif_in h;simp only[Bool.and_eq_true]at h1;obtain⟨k1,k2,k3,k4⟩:=h1;split at h
  · rename_i m hm;injection h with h
    subst h;obtain⟨f1,f2,f3⟩:=Qjn hm;exact⟨rfl,λw a cap hV=>c118 w t s a cap l (Nat.le_of_ble_eq_true k1) (Nat.le_of_ble_eq_true k2) hV (Nat.le_of_ble_eq_true k3) (λs hs=>Nat.le_of_ble_eq_true (List.all_eq_true.1 k4 s hs)) m ⟨f1,om⟩ f3⟩
  · cases h
noncomputable def K14:Ev.CallF:=⟨λ_=>Ev.knS (Ev.knR (Ev.insK [(239,84,2,32),(302,3,1,8)]) [(211,Qrf)]) 118 QrE,Ev.knP (Ev.extCS 308) [(75,Quv),(81,QvW),(169,Qpq),(40,Qvf),(98,Qvu),(171,Qre),(82,QvV)],Ev.noY⟩
theorem Qwi:Ev.KnOk Tryz.prog K14:=⟨λr1 _=>Ev.knS_ok (Ev.knR_ok (Ev.insK_ok λx hx=>by
    rcases List.mem_cons.1 hx with rfl|hx
    · exact QuE
    · rcases List.mem_cons.1 hx with rfl|hx
      · exact QuZ
      · cases hx) λx hx=>by
    rcases List.mem_cons.1 hx with rfl|hx
    · exact QwG
    · cases hx) QwN,Ev.knP_ok (Ev.extCS_ok Qqj) λx hx=>by
  simp only[List.mem_cons,List.mem_nil_iff,or_false]at hx;rcases hx with rfl|rfl|rfl|rfl|rfl|rfl|rfl
  · exact⟨by kernel_rfl,qc75⟩
  · exact⟨by kernel_rfl,qc81⟩
  · exact⟨by kernel_rfl,QwQ⟩
  · exact⟨by kernel_rfl,qc40⟩
  · exact⟨by kernel_rfl,qc98⟩
  · exact⟨by kernel_rfl,Qw2⟩
  · exact⟨by kernel_rfl,qc82⟩⟩
theorem Qti:Tryz.prog.follows .mixedOrders=true:=by kernel_rfl
end Go.Proofs
namespace Go.Proofs
open Go Go.RowKit Gx
set_option maxRecDepth 1000000 in
theorem c11(w:World):CR 11 #[] w (.bool true):=by
  have h:=Ev.ev_run (P:=Tryz.prog) (K:=K14) (Z:=λg=>Ev.memN g [145,40,98,75,81,82,169,171]) (m:=1000) (f:=60) (g:=11) (vs:=[]) (v:=.bool true) Qwi Qti rfl rfl (by kernel_rfl) w
  refine Calls.mono h ?_
  intro en w' hh
  obtain⟨h1,h2⟩:=hh
  exact⟨h1,HS.below h2⟩
end Go.Proofs
namespace Gx
open Go Go.RowKit
section
variable{P:Program}{w:World}
def tqF(q:TypeId->Option (List Nat))(P:Program):List Field->Nat->Option (List Nat)
 | [],_=>some []
 | f::fs,k=>if !(f.name== "_")&&Nat.beq f.offset k then
   match q f.type with
   | some ks=>if Nat.beq (P.cellsOf f.type) ks.length&&(P.info? f.type).isSome then(tqF q P fs (k+ks.length)).map (ks++ ·)else none
   | none=>none
  else none
def tqS(P:Program):Nat->TypeId->Option (List Nat)
 | 0,_=>none
 | d+1,t=>match P.underlying t with
  | some (.int _)=>some [0]
  | some .string=>some [1]
  | some .bool=>some [2]
  | some (.struct fs)=>if !P.stoodInHeld t then tqF (tqS P d) P fs.toList 0 else none
  | _=>none
def Qko(P:Program)(t:TypeId):Bool:=match P.underlying t with
 | some (.struct _)=>true
 | _=>false
def QsP(P:Program)(t:TypeId):Option (List Nat):=if Qko P t&& !P.eqGuardType P.depth t then tqS P 4 t else none
def vOf(P:Program)(t:TypeId)(xs:List Value):Value:=if Qko P t then .agg xs.toArray else xs.headD default
theorem Qh2:∀{a a' c c':List Value}{b:Bool},a.length=c.length->eqC (a++a') (c++c')=some b->∃p q,eqC a c=some p/\eqC a' c'=some q/\b=(p&&q)
 | [],a',[],c',b,_,h=>⟨true,b,rfl,h,by simp⟩
 | x::a,a',y::c,c',b,hl,h=>by
  simp only[List.cons_append,eqC]at h;split at h
  ·rename_i p q e1 e2;cases h;obtain⟨p',q',h1,h2,h3⟩:=Qh2 (by simpa using hl) e2;refine⟨p&&p',q',by simp only[eqC,e1,h1],h2,by rw[h3,Bool.and_assoc]⟩
  ·cases h
theorem Qj7{d:Nat}{t:TypeId}{ks:List Nat}(h:tqS P (d+1) t=some ks)(hs:Qko P t=false):lfT P t=true/\∃k,tlk P t=some k/\ks=[k]:=by
 unfold tqS at h;unfold Qko at hs;unfold lfT tlk;split at h<;>rename_i hu<;>simp only[hu]at hs ⊢ <;>first|(cases h;done)|(cases hs;done)|skip
 all_goals
  cases h;exact⟨trivial,_,rfl,rfl⟩
theorem QhT{t:TypeId}{k:Nat}{x:Value}(h:tlk P t=some k)(hx:X4 x=k):Qg1 P t x=true:=by
 unfold tlk at h;unfold Qg1;split at h<;>first|(cases h;done)|skip
 all_goals
  rename_i hu;cases h;rw[hu];cases x<;>first|rfl|cases hx
theorem Qm9{d:Nat}{t:TypeId}{ks:List Nat}(h:tqS P d t=some ks)(hc:P.cellsOf t=ks.length)(hi:(P.info? t).isSome=true){X:Array Value}{k:Nat}{a r:List Value}(hX:X.toList.drop k=a++r)(ha:a.length=ks.length):(part t X k).run P w=.ok (vOf P t a) w:=by
 cases d with
 | zero=>cases h
 | succ d=>
 cases hs:Qko P t with
 | false=>
  obtain⟨hl,kk,_,rfl⟩:=Qj7 h hs;obtain⟨x,rfl⟩:∃x,a=[x]:=List.length_eq_one_iff.1 ha;have hx:X[k]?=some x:=by rw[<-Array.getElem?_toList];exact Qbn (xs:=r) (by simpa using hX)
  rw[Qa9 hl hx];simp[vOf,hs]
 | true=>
  have hag:(isAgg t).run P w=.ok true w:=by
   unfold Qko at hs;split at hs
   ·rename_i fs hu;simp[isAgg,run_underlying hu]
   ·cases hs
  obtain⟨i,hi⟩:=Option.isSome_iff_exists.1 hi;have hsz:(Go.sizeOf t).run P w=.ok (P.cellsOf t) w:=by simp[Go.sizeOf,typeInfo,hi,Program.cellsOf]
  simp only[part,Sem.run_bind,hag,Result.andThen_ok,if_true,hsz,Sem.run_pure]
  have hex:X.extract k (k+P.cellsOf t)=a.toArray:=by
   apply Array.toList_inj.1;rw[Array.toList_extract,List.extract_eq_take_drop,hX,hc,Nat.add_sub_cancel_left,<-ha,List.take_left]
  rw[hex];simp[vOf,hs]
theorem Qm4{D d:Nat}(hq:∀(t:TypeId)(ks:List Nat)(a c:List Value)(b:Bool),tqS P d t=some ks->a.map X4=ks->c.map X4=ks->eqC a c=some b->(Op.equalIn D t (vOf P t a) (vOf P t c)).run P w=.ok b w)(X Y:Array Value) :
  ∀(fs:List Field)(k:Nat)(ks:List Nat)(xs ys:List Value)(b:Bool),tqF (tqS P d) P fs k=some ks->X.toList.drop k=xs->Y.toList.drop k=ys->xs.map X4=ks->ys.map X4=ks->eqC xs ys=some b->(Op.eqFields D X Y fs).run P w=.ok b w
 | [],k,ks,xs,ys,b,hf,hX,hY,h1,h2,h=>by
  cases hf;cases List.map_eq_nil_iff.1 h1;cases List.map_eq_nil_iff.1 h2;cases h;simp[Op.eqFields]
 | f::fs,k,ks,xs,ys,b,hf,hX,hY,h1,h2,h=>by
  unfold tqF at hf;split at hf
  ·rename_i hno;simp only[Bool.and_eq_true,Bool.not_eq_true',beq_eq_false_iff_ne]at hno;have ho:=Nat.eq_of_beq_eq_true hno.2;split at hf
   ·rename_i kf e1;split at hf
    ·rename_i hci;simp only[Bool.and_eq_true]at hci;have hc:=Nat.eq_of_beq_eq_true hci.1;obtain⟨kr,e2,e3⟩:=Option.map_eq_some_iff.1 hf;subst e3
     have sp:∀{zs:List Value},zs.map X4=kf++kr->zs=zs.take kf.length++zs.drop kf.length/\(zs.take kf.length).map X4=kf/\(zs.drop kf.length).map X4=kr:=by
      intro zs hz;refine⟨(List.take_append_drop _ _).symm,?_,?_⟩
      ·rw[List.map_take,hz,List.take_left]
      ·rw[List.map_drop,hz,List.drop_left]
     obtain⟨s1,s2,s3⟩:=sp h1;obtain⟨t1,t2,t3⟩:=sp h2;have la:(xs.take kf.length).length=kf.length:=by rw[<-List.length_map (f:=X4),s2]
     have lc:(ys.take kf.length).length=kf.length:=by rw[<-List.length_map (f:=X4),t2]
     rw[s1,t1]at h;obtain⟨p,q,g1,g2,rfl⟩:=Qh2 (la.trans lc.symm) h;have pa:=Qm9 (w:=w) e1 hc hci.2 (X:=X) (k:=k) (a:=xs.take kf.length) (r:=xs.drop kf.length) (hX.trans s1) la;have pc:=Qm9 (w:=w) e1 hc hci.2 (X:=Y) (k:=k) (a:=ys.take kf.length) (r:=ys.drop kf.length) (hY.trans t1) lc;have ih:=Qm4 hq X Y fs (k+kf.length) kr (xs.drop kf.length) (ys.drop kf.length) q e2 (by rw[<-List.drop_drop,hX]) (by rw[<-List.drop_drop,hY]) s3 t3 g2;have he:=hq f.type kf _ _ p e1 s2 t2 g1;simp only[Op.eqFields,ne_eq,hno.1,not_false_eq_true,if_true,Sem.run_bind,ho,pa,pc,Result.andThen_ok,he];cases p
     ·simp
     ·simpa using ih
    ·cases hf
   ·cases hf
  ·cases hf
theorem Qnd:∀(d e:Nat)(t:TypeId)(ks:List Nat)(xs ys:List Value)(b:Bool),tqS P d t=some ks->xs.map X4=ks->ys.map X4=ks->eqC xs ys=some b->(Op.equalIn (d+e) t (vOf P t xs) (vOf P t ys)).run P w=.ok b w
 | 0,e,t,ks,xs,ys,b,ht,h1,h2,h=>by cases ht
 | d+1,e,t,ks,xs,ys,b,ht,h1,h2,h=>by
  rw[show d+1+e=(d+e)+1 from by omega];cases hs:Qko P t with
  | false=>
   obtain⟨hl,k,hk,rfl⟩:=Qj7 ht hs;obtain⟨x,rfl⟩:∃x,xs=[x]:=List.length_eq_one_iff.1 (by rw[<-List.length_map (f:=X4),h1];rfl);obtain⟨y,rfl⟩:∃y,ys=[y]:=List.length_eq_one_iff.1 (by rw[<-List.length_map (f:=X4),h2];rfl);simp only[List.map_cons,List.map_nil,List.cons.injEq,and_true]at h1 h2;simp only[vOf,hs,Bool.false_eq_true,if_false,List.headD_cons];refine Qil (d+e) (QhT hk h1) (QhT hk h2) ?_;simp only[eqC]at h;split at h
   ·rename_i p q e1 e2;cases e2;cases h;rw[e1];simp
   ·cases h
  | true=>
   simp only[vOf,hs,if_true];have hs0:=hs;unfold Qko at hs;split at hs
   ·rename_i fs hu;unfold tqS at ht;simp only[hu]at ht;split at ht
    ·rename_i hc;simp only[Bool.not_eq_true']at hc;have hfo:P.fieldsOf t=fs:=by unfold Program.fieldsOf;rw[hu]
     rw[run_equalIn_struct w (d+e) t _ _ (by rw[hfo];exact hu) hc,hfo];exact Qm4 (λt ks a c b q1 q2 q3 q4=>Qnd d e t ks a c b q1 q2 q3 q4) _ _ fs.toList 0 ks xs ys b ht (by simp) (by simp) h1 h2 h
    ·cases ht
   ·cases hs
variable{o:Oper}{L:Qc}
theorem QqV{t:TypeId}{ks:List Nat}{xs ys:List Value}{b:Bool}(ht:QsP P t=some ks)(h1:xs.map X4=ks)(h2:ys.map X4=ks)(h:eqC xs ys=some b):(Op.equalIn 10000 t (.agg xs.toArray) (.agg ys.toArray)).run P w=.ok b w/\P.eqGuardType P.depth t=false:=by
 unfold QsP at ht;split at ht
 ·rename_i hc;simp only[Bool.and_eq_true,Bool.not_eq_true']at hc;have h9:=Qnd (w:=w) 4 9996 t ks xs ys b ht h1 h2 h;simp only[vOf,hc.1,if_true]at h9;exact⟨h9,hc.2⟩
 ·cases ht
theorem Zt{t t':TypeId}{x y:Operand}{xs ys:List Value}{ks:List Nat}{b:Bool}(ho:o.op=.binOp .eql t x y t')(hx:ev L x=some (.agg xs.toArray))(hy:ev L y=some (.agg ys.toArray))(ht:QsP P t=some ks)(h1:xs.map X4=ks)(h2:ys.map X4=ks)(h:eqC xs ys=some b):OpP P o L (.bool b):=by
 intro ρ w hρ;obtain⟨g1,g2⟩:=QqV (w:=w) ht h1 h2 h;simp only[execOp,ho,hρ _ _ hx,hρ _ _ hy,Sem.run_bind,run_eqGuard_agg w _ _ _ _ _ _ g2,run_eql_struct,g1,Result.andThen_ok,Sem.run_pure]
end
end Gx
namespace Go.Proofs
open Go Go.RowKit Gx
attribute [local irreducible] Go.Calls Gx.S Gx.O Gx.D Gx.OpP Gx.OpQ Gx.OpH
set_option maxRecDepth 20000
instance:TFn Tryz.prog 11:=⟨by kernel_rfl⟩
instance:TFn Tryz.prog 40:=⟨by kernel_rfl⟩
instance:TFn Tryz.prog 43:=⟨by kernel_rfl⟩
theorem Qe0:QsP Tryz.prog 66=some [1,0,1,0,0,0,0,0,0]:=by kernel_rfl
theorem Qve{x:TEnt}(h:dcE x=0):QaJ (dcD x)=0/\Qnu (dcD x)=x:=by
  have h1:dcD x=Qh x:=if_pos h;unfold dcE at h;split at h
  · cases h
  · rename_i hl;rw[h1];exact⟨h,Qsw om⟩
instance:TFn Tryz.prog 207:=⟨by kernel_rfl⟩
theorem QbH:QL Tryz.prog 199=true:=by kernel_rfl
instance:TFn Tryz.prog 199:=⟨QbH⟩
instance:TFn Tryz.prog 142:=⟨by kernel_rfl⟩
theorem Qgc:QL Tryz.prog 143=true:=by kernel_rfl
instance:TFn Tryz.prog 143:=⟨Qgc⟩
theorem Qn8(w:World)(n lo hi:Int):CR 207 #[.int .i64 n,.int .i64 lo,.int .i64 hi] w (.bool (decide (lo<=n)&&decide (n<=hi))):=by
 refine eN3 Tryz.func207 Tryz.ntmps207 ?_
 refine Qbg ?_
 refine Xs 4 10 14 rfl
  (λhg1 _=>by
   refine aU6 ?_
   exact oJt 4 14)
  (λhg3 _=>by
   refine aU3 ?_
   exact oJf 4 14) ?_
 refine aU2 ?_
 exact rV
theorem Qd5(w:World)(ok:Bool)(e:Int):CR 199 #[.bool ok,.int .i64 e] w (.int .i64 (cond ok 0 e)):=by
 refine eN2 Tryz.func199 Tryz.ntmps199 ?_
 refine aU9 ?_
 refine sCd rfl (λh1=>?_) λh1=>?_
 ·refine aU4 ?_
  exact rV (h:=by simp_all[Qt])
 refine aU6 ?_
 exact rV (h:=by simp_all[Qt])
theorem c143(w:World)(a:Option Addr)(cap:Nat)(es:List Int)(hs:Sl w [] a 1 es.length (λi=>[.int .i64 (es.getD i 0)]))(hm:es.length<=1000):CR 143 #[.slice a es.length cap] w (.int .i64 (XU es)):=by
 refine eN1 Tryz.func143 Tryz.ntmps143 ?_
 refine Qaa ?_
 refine Qo (α:=Nat) [2,4,7,8,9,10,11,12,13,14] (λk=>[(7,.int .i64 (k:Int))]) (λ_=>_) (λk=>k<=es.length/\XU es=XU (es.drop k)) (λk=>es.length-k) 0 ⟨om,rfl⟩ aSx (λw h=>h) (λk hk=>?_)
 obtain⟨hk1,hk2⟩:=hk
 refine aU5 ?_
 refine sCd rfl (λh1=>?_) λh1=>?_
 ·refine aU5 ?_
  refine o_p (Qa rfl rfl rfl YF _ rfl om (hs.some om)) rfl (o_q (Qb rfl rfl QoV (hs.rd (i:=k) (j:=0) om rfl)) rfl (aU7 ?_))
  refine sCd rfl (λh2=>?_) λh2=>?_
  ·refine aU5 ?_
   exact rV (h:=by simp only[Qt];rw[hk2,Y0 om,if_neg (by assumption)])
  refine aT4 ?_
  refine aU2 ?_
  exact Qv (k+1) om ⟨om,by rw[hk2,Y0 om,if_pos (by assumption)]⟩ aSx (λw h=>h)
 refine Qg rfl ?_
 refine aU4 ?_
 exact rV (h:=by simp only[Qt];rw[hk2,Qdy om])
theorem Qpj{w0 w:World}{M:List Nat}{As As':List HA}{b cap n:Nat}{t:TypeId}{tot:Nat}{cs:List Value}(h:HS w0 M As w)(hp:QH As (.blk b t tot cs) As')(hc:cs.all QhB=true)(hn:cs.length=n)(hl:n<=1000) :
    Calls Tryz.prog 143 #[.slice (some ⟨b,0,none⟩) n cap] w λen w'=>en=.returned (.int .i64 (Yk cs))/\Below w.heap.size w w':=by
  subst hn;have:=c143 w (some ⟨b,0,none⟩) cap (cs.map Go.RowKit.intOf) (by simpa using h.sl_ints hp hc) (by simpa using hl);rw[Qc0 hc]at this
  simpa using this
theorem c142(w:World)(n:Int):CR 142 #[.int .i64 n] w (.int .i64 (QY n)):=by
 refine eN1 Tryz.func142 Tryz.ntmps142 ?_
 refine aU7 ?_
 refine oCq rfl (λw1 h1=>Qn8 w1 _ _ _) (oCq rfl (λw1 h1=>Qd5 w1 _ _) (aU2 ?_))
 exact rV (h:=by simp only[Qt,QY,cond_eq_ite,Bool.and_eq_true,decide_eq_true_eq])
theorem Qep{a b:Int}:Yk [.int .i64 a,.int .i64 b]=if a=0 then b else a:=by
  simp only[Yk]
  grind
theorem c198(w:World)(co mo rm:Int):CR 198 #[.int .i64 co,.int .i64 mo,.int .i64 rm] w (.int .i64 (if QY co=0 then Zs mo rm else QY co)):=by
 refine eN3 Tryz.func198 Tryz.ntmps198 ?_
 refine aU7 ?_
 refine oCq rfl (λw1 h1=>Qn8 w1 _ _ _) (aU ?_)
 refine Xs 6 10 16 rfl
  (λhg1 _=>by
   refine aU5 ?_
   refine o_p (Qee rfl rfl rfl om om om) rfl (aU3 ?_)
   refine oCq rfl (λw1 h1=>Qn8 w1 _ _ _) ?_
   exact oJt 6 16)
  (λhg3 _=>by
   refine aU5 ?_
   exact oJf 6 16) ?_
 refine aU5 ?_
 refine oCq rfl (λw1 h1=>c142 w1 _) (aU ?_)
 refine oCq rfl (λw1 h1=>Qd5 w1 _ _) (o_h (Ql (cs:=[_,_]) rfl rfl YF QaO rfl rfl rfl) rfl (λb5 _=>oCq rfl (λw1 h1=>Qpj h1 aPk (by rfl) (by rfl) (by decide)) (aU2 ?_)))
 exact rV (h:=by simp only[Qt];rw[Qep];simp only[Zs,cond_eq_ite,Bool.and_eq_true,decide_eq_true_eq])
theorem c153(w:World)(n:Int):CR 153 #[.int .i64 n] w (.int .i64 (QY n)):=by
 refine eN1 Tryz.func153 Tryz.ntmps153 ?_
 refine aU8 ?_
 refine oCq rfl (λw1 h1=>c27 w1 _ _ _) (aU2 ?_)
 refine sCd rfl (λh1=>?_) λh1=>?_
 ·have hz:QY n=15:=by have hq:=h1;unfold QY;rw[if_neg (by first|omega|(simp at hq;omega))]
  refine aU4 ?_
  exact rV (h:=by rw[hz];rfl)
 have hz:QY n=0:=by have hq:=h1;unfold QY;rw[if_pos (by first|omega|(simp at hq;omega))]
 refine aU5 ?_
 exact rV (h:=by rw[hz];rfl)
theorem c154(w:World)(mo rm:Int):CR 154 #[.int .i64 mo,.int .i64 rm] w (.int .i64 (Zs mo rm)):=by
 refine eN2 Tryz.func154 Tryz.ntmps154 ?_
 refine aU8 ?_
 refine oCq rfl (λw1 h1=>c27 w1 _ _ _) (aU2 ?_)
 refine oOr 7 8 15 rfl
  (λhg1 _=>by
   refine aU5 ?_
   refine o_p (Qee rfl rfl rfl om om om) rfl (aU3 ?_)
   refine oCq rfl (λw1 h1=>c27 w1 _ _ _) (aU2 ?_)
   exact oJf 7 15)
  (λhg3 _=>by
   refine aU6 ?_
   exact oJt 7 15) ?_
 refine aU ?_
 refine sCd rfl (λh5=>?_) λh5=>?_
 ·have hz:Zs mo rm=2:=by have hq:=h5;unfold Zs;rw[if_neg (by first|omega|(simp at hq;omega))]
  refine aU4 ?_
  exact rV (h:=by rw[hz];rfl)
 have hz:Zs mo rm=0:=by have hq:=h5;unfold Zs;rw[if_pos (by first|omega|(simp at hq;omega))]
 refine aU5 ?_
 exact rV (h:=by rw[hz];rfl)
end Go.Proofs
namespace Go.Proofs
open Go Go.RowKit Gx
theorem Qpn{α:Type}[Inhabited α]{vals:α->List Value}{sz n:Nat}{W:World}{a:Option Addr}{cell:Nat->List Value}{Q:α->Prop}(hs:Sl W [] a sz n cell)(hr:∀i,i<n->∃x,cell i=vals x/\Q x):∃l:List α,n=l.length/\Rw vals sz W [] a l/\(∀x∈l,Q x)/\∀i,i<n->cell i=vals (nth l i):=by
 have hr2:∀i,∃x,i<n->cell i=vals x/\Q x:=λi=>by
  by_cases hi:i<n
  ·obtain⟨x,h⟩:=hr i hi;exact⟨x,λ_=>h⟩
  ·exact⟨default,λh=>absurd h hi⟩
 obtain⟨f,hf⟩:=Classical.axiomOfChoice hr2
 have hg:∀i,i<n->nth ((List.range n).map f) i=f i:=λi hi=>by
  simp only[nth,List.getD_eq_getElem?_getD,List.getElem?_map,List.getElem?_range hi,Option.map_some,Option.getD_some]
 refine⟨(List.range n).map f,by simp,⟨λhn=>?_⟩,λx hx=>?_,λi hi=>?_⟩
 ·rw[List.length_map,List.length_range]at hn;obtain⟨b,o,e,h2⟩:=hs.at_ hn;refine⟨b,o,e,λi hi=>?_⟩;rw[List.length_map,List.length_range]at hi;have h3:=h2 i hi;rw[(hf i hi).1]at h3;rw[hg i hi];exact h3
 ·obtain⟨i,hi,rfl⟩:=List.mem_map.1 hx;exact(hf i (List.mem_range.1 hi)).2
 ·rw[hg i hi];exact(hf i hi).1
theorem QmG:Tryz.prog.cellsOf 3=1:=by kernel_rfl
theorem Qs7:Tryz.prog.cellsOf 4=1:=by kernel_rfl
theorem Qsm:Tryz.prog.cellsOf 9=1:=by kernel_rfl
theorem Qgy:Tryz.prog.cellsOf 84=2:=by kernel_rfl
theorem Qn7:Tryz.prog.cellsOf 125=1:=by kernel_rfl
theorem Qn6:Tryz.prog.cellsOf 124=1:=by kernel_rfl
theorem Qon:Tryz.prog.cellsOf 127=3:=by kernel_rfl
section
variable{W:World}{d:Nat}
theorem ln2{cs:List Value}(h:cs.length=2):∃x0 x1,cs=[x0,x1]:=by
 match cs,h with
 | [x0,x1],_=>exact⟨x0,x1,rfl⟩
theorem ln3{cs:List Value}(h:cs.length=3):∃x0 x1 x2,cs=[x0,x1,x2]:=by
 match cs,h with
 | [x0,x1,x2],_=>exact⟨x0,x1,x2,rfl⟩
theorem QsK{x:Value}(h:okT Tryz.prog W d 4 [x]):∃n,x=.bool n:=by
 obtain⟨n,e⟩:=Qpd h Tryz.underlying4;cases e;exact⟨n,rfl⟩
theorem QoA{x:Value}(h:okT Tryz.prog W d 9 [x]):∃l:List UInt8,x=.string (bs l)/\l.length<=maxLen:=by
 obtain⟨l,e,g⟩:=QmE h Tryz.underlying9;cases e;exact⟨l,rfl,g⟩
theorem QvE{cs:List Value}(h:okT Tryz.prog W d 84 cs):∃x:TEnt,cs=x.vals/\True:=by
 obtain⟨d2,l,o⟩:=QiT h Tryz.underlying84;rw[Qgy]at l;obtain⟨x0,x1,rfl⟩:=ln2 l;simp only[List.mem_cons,List.mem_nil_iff,or_false,forall_eq_or_imp,forall_eq]at o;rw[Qsm]at o;obtain⟨s,rfl,hs⟩:=QoA (x:=x0) o.1;obtain⟨t,rfl,ht⟩:=QoA (x:=x1) o.2;exact⟨⟨s,t⟩,rfl,trivial⟩
theorem Qsd{x:Value}(h:okT Tryz.prog W d 124 [x]):∃a c l,x=.slice a (List.length (α:=TEnt) l) c/\Rw TEnt.vals 2 W [] a l:=by
 obtain⟨d2,a,n,cap,cell,e,h1,h2,sl,rows⟩:=Qls h Tryz.underlying124 (by rw[Qgy];decide);rw[Qgy]at sl;cases e;obtain⟨l,rfl,hl,_⟩:=Qpn (vals:=TEnt.vals) (Q:=λ_=>True) sl λi hi=>QvE (rows i hi);exact⟨a,cap,l,rfl,hl⟩
theorem Qso{x:Value}(h:okT Tryz.prog W d 125 [x]):∃a c l,x=.slice a (List.length (α:=Int) l) c/\Rw inV 1 W [] a l:=by
 obtain⟨d2,a,n,cap,cell,e,h1,h2,sl,rows⟩:=Qls h Tryz.underlying125 (by rw[QmG];decide);rw[QmG]at sl;cases e
 obtain⟨l,rfl,hl,_⟩:=Qpn (vals:=inV) (Q:=λ_=>True) sl λi hi=>by
  obtain⟨m,e,g⟩:=Qdf (rows i hi) Tryz.underlying3;exact⟨m,e,trivial⟩
 exact⟨a,cap,l,rfl,hl⟩
theorem Qxe{cs:List Value}(h:okT Tryz.prog W d 127 cs):∃k:LNd,cs=k.vals/\Rw TEnt.vals 2 W [] k.ea k.es/\Rw inV 1 W [] k.ca k.cs:=by
 obtain⟨d2,l,o⟩:=QiT h Tryz.underlying127;rw[Qon]at l;obtain⟨x0,x1,x2,rfl⟩:=ln3 l;simp only[List.mem_cons,List.mem_nil_iff,or_false,forall_eq_or_imp,forall_eq]at o;rw[Qs7,Qn6,Qn7]at o;obtain⟨n0,rfl⟩:=QsK (x:=x0) o.1;obtain⟨ea,ec,es,rfl,he⟩:=Qsd (x:=x1) o.2.1;obtain⟨ca,cc,ks,rfl,hk⟩:=Qso (x:=x2) o.2.2;exact⟨⟨n0,ea,ec,es,ca,cc,ks⟩,rfl,he,hk⟩
theorem Qqu{n:Nat}{a:Option Addr}{cell:Nat->List Value}(sl:Sl W [] a 3 n cell)(rows:∀i,i<n->okT Tryz.prog W d 127 (cell i)):∃l:List LNd,n=l.length/\Nt W [] a l:=by
 obtain⟨l,rfl,hl,hk,_⟩:=Qpn (vals:=LNd.vals) (Q:=λk=>Rw TEnt.vals 2 W [] k.ea k.es/\Rw inV 1 W [] k.ca k.cs) sl λi hi=>Qxe (rows i hi);exact⟨l,rfl,hl,hk⟩
end
end Go.Proofs
namespace Go.Proofs
open Go Go.RowKit Gx
attribute [local irreducible] Go.Calls Gx.S Gx.O Gx.D Gx.OpP Gx.OpQ Gx.OpH
set_option maxRecDepth 20000
instance:TFn Tryz.prog 219:=⟨by kernel_rfl⟩
theorem Qp6(a b:Int):Value.int .i64 (IntKind.i64.wrap ((if decide (b<a)=true then 1 else 0)-(if decide (a<b)=true then 1 else 0)))=Value.int .i64 (XQ a b):=by
  unfold XQ
  by_cases h1:a<b
  · have h2:¬b<a:=by omega
    simp only[h1,h2,decide_true,decide_false,Bool.false_eq_true,if_true,if_false];rfl
  · by_cases h2:b<a
    · simp only[h1,h2,decide_true,decide_false,Bool.false_eq_true,if_true,if_false];rfl
    · simp only[h1,h2,decide_true,decide_false,Bool.false_eq_true,if_true,if_false];rfl
theorem c219(w:World)(b:Bool):CR 219 #[.bool b] w (.int .i64 (if b then 1 else 0)):=by
 refine eN1 Tryz.func219 Tryz.ntmps219 ?_
 refine aU9 ?_
 refine sCd rfl (λh1=>?_) λh1=>?_
 ·refine aU4 ?_
  exact rV (h:=by simp_all[Qt])
 refine aU5 ?_
 exact rV (h:=by simp_all[Qt])
theorem Quq(w:World)(n:Int):CR 311 #[.int .i64 n] w (.bool (decide (0<=n)&&decide (n<=2147483647))):=by
 refine eN1 Tryz.func311 Tryz.ntmps311 ?_
 refine aU7 ?_
 refine oCq rfl (λw1 h1=>c27 w1 _ _ _) (aU2 ?_)
 exact rV
theorem QoD(w:World)(a b:Int):CR 149 #[.int .i64 a,.int .i64 b] w (.int .i64 (XQ a b)):=by
 refine eN2 Tryz.func149 Tryz.ntmps149 ?_
 refine aU9 ?_
 refine oCq rfl (λw1 h1=>c219 w1 _) (aU3 ?_)
 refine oCq rfl (λw1 h1=>c219 w1 _) (aU ?_)
 refine Qs (show _=Value.int .i64 (XQ a b)from Qp6 a b) (aU2 ?_)
 exact rV
theorem c150(w:World)(c:Int)(h0:0<=c/\c<=255):CR 150 #[.int .i64 c] w (.int .i64 (Qhw c)):=by
 refine eN1 Tryz.func150 Tryz.ntmps150 ?_
 refine aU8 ?_
 refine oCq rfl (λw1 h1=>c27 w1 _ _ _) (aU ?_)
 refine sCd rfl (λh1=>?_) λh1=>?_
 ·have hz:Qhw c=c-97+65:=by have hq:=h1;unfold Qhw;rw[if_pos (by first|exact hq|(simp at hq;omega))];omega
  refine aT4 ?_
  refine aT ?_
  refine aU2 ?_
  exact rV (h:=by rw[hz];rfl)
 have hz:Qhw c=c:=by have hq:=h1;unfold Qhw;rw[if_neg (by intro h9;first|exact hq h9|(simp at hq;omega))]
 refine aU6 ?_
 exact rV (h:=by rw[hz];rfl)
theorem QiQ:tki Tryz.prog 347=some .u16:=by kernel_rfl
theorem Qo7:QL Tryz.prog 334=true:=by kernel_rfl
theorem QqI:tki Tryz.prog 318=some .u32:=by kernel_rfl
instance:TFn Tryz.prog 309:=⟨by kernel_rfl⟩
instance:TFn Tryz.prog 310:=⟨by kernel_rfl⟩
theorem c334(w:World)(a:Option Addr)(m cap:Nat)(x:List UInt8)(hs:Vl w a (x.map bv))(hm:x.length=m)(h2:2<=m)(hc:m<=cap)(hc9:cap<=9223372036854775807):CR 334 #[.slice a m cap] w (.int .u16 (at2 x 0)):=by
 refine eN1 Tryz.func334 Tryz.ntmps334 ?_
 refine aU5 ?_
 refine QG [] mixed ?_
 refine dP 0 ?_
 refine dV 1 rfl (Qa rfl rfl rfl XH 0 rfl om (hs.some (by rw[List.length_map];omega))) (dQ 2 [] rfl (Qb rfl rfl QgY ((hs.rd (i:=0) (QcF (l:=x) (k:=0) om)))) (dV 3 rfl (QW rfl rfl QeX QiQ) (dP 4 ?_)))
 refine dV 5 rfl (Qa rfl rfl rfl XH 1 rfl om (hs.some (by rw[List.length_map];omega))) (dQ 6 [] rfl (Qb rfl rfl QgY ((hs.rd (i:=1) (QcF (l:=x) (k:=1) om)))) (dV 7 rfl (QW rfl rfl QeX QiQ) (dV 8 rfl (QlP rfl rfl rfl (by decide) 8 rfl) (dP 9 ?_))))
 refine dP 10 ?_
 refine dNi ?_
 exact rV (h:=by rw[<-Qql];rfl)
theorem c309(w:World)(a:Option Addr)(m cap:Nat)(x:List UInt8)(hs:Vl w a (x.map bv))(hm:x.length=m)(h2:4<=m)(hc:m<=cap)(hc9:cap<=9223372036854775807):CR 309 #[.slice a m cap] w (.int .u32 (at4 x 0)):=by
 have hx2:=Qfd x 0
 have hx3:=Qfd x 2
 refine eN1 Tryz.func309 Tryz.ntmps309 ?_
 refine aU5 ?_
 refine QG [] mixed ?_
 refine dP 0 ?_
 refine dQ 1 [] rfl (Qz rfl Qo7 rfl (λw1 h1=>c334 w1 a m cap x (hs.later h1) hm om hc hc9)) (dV 2 rfl (QW rfl rfl QiQ QqI) (dP 3 ?_))
 refine dV 4 rfl (QX _ _ 2 m rfl rfl XH ⟨_,_,rfl,rfl⟩ rfl om om) (dQ 5 [] rfl (Qz rfl Qo7 rfl (λw1 h1=>c334 w1 (Zk a cap 2 1) (m-2) (cap-2) (x.drop 2) (by rw[List.map_drop];exact(hs.later h1).drop (by rw[List.length_map];omega) om) (by rw[List.length_drop];omega) om om om)) (dV 6 rfl (QW rfl rfl QiQ QqI) (dV 7 rfl (QlP rfl rfl rfl (by decide) 16 rfl) (dP 8 ?_))))
 refine dP 9 ?_
 refine dNi ?_
 exact rV (h:=by have h9:=QoL (at2 x 0) (at2 (x.drop 2) 0) (Qfd _ _) (Qfd _ _);rw[Qf9]at h9 ⊢;exact(congrArg Ending.returned h9))
theorem Qux(w:World)(s:List UInt8)(p:Nat)(hm:s.length<=1000000)(hp:p+4<=s.length):CR 271 #[.string (bs s),.int .i64 (p:Int)] w (.int .u32 (at4 s p)):=by
 have h4:=QiU s p
 have hdl:(s.drop p).length=s.length-p:=List.length_drop
 refine eN2 Tryz.func271 Tryz.ntmps271 ?_
 refine aU8 ?_
 refine o_p (XK p rfl rfl rfl Tryz.underlying9 rfl om) rfl (o_h (Qad rfl rfl Tryz.underlying9 Tryz.underlying226 Tryz.underlying5 rfl (by simp only[maxLen];omega)) rfl (λ⟨b1,c2⟩⟨h3,k4⟩=>oCq rfl (λw1 h1=>by have h9:=c309 w1 (some ⟨b1,0,none⟩) (s.drop p).length c2 (s.drop p) (h1.vl_blk aPk) rfl om (by assumption) (by have hq9:c2<=maxLen:=(by assumption);simp only[maxLen]at hq9;omega);rw[Qra,Nat.add_zero]at h9;exact h9) (aU2 ?_)))
 exact rV
theorem c310(w:World)(x:Int):CR 310 #[.int .u32 x] w (.bool false):=by
 refine eN1 Tryz.func310 Tryz.ntmps310 ?_
 refine Qas ?_
 exact rV (h:=by simp[Qt])
theorem c272(w:World)(x y:Int):CR 272 #[.int .u32 x,.int .u32 y] w (.int .i64 (XQ x y)):=by
 refine eN2 Tryz.func272 Tryz.ntmps272 ?_
 refine aU7 ?_
 refine oCq rfl (λw1 h1=>c310 w1 _) (aU5 ?_)
 refine oCq rfl (λw1 h1=>c310 w1 _) (aU7 ?_)
 refine sCd rfl (λh1=>?_) λh1=>?_
 ·exfalso;simp at h1
 refine aU6 ?_
 refine sCd rfl (λh2=>?_) λh2=>?_
 ·exfalso;simp at h2
 refine aU8 ?_
 refine sCd rfl (λh3=>?_) λh3=>?_
 ·have hz:XQ x y= -1:=by have hq:=h3;unfold XQ;rw[if_pos hq]
  refine aU4 ?_
  exact rV (h:=by rw[hz];rfl)
 refine aU8 ?_
 refine sCd rfl (λh4=>?_) λh4=>?_
 ·have hz:XQ x y=1:=by have hq:=h4;unfold XQ;rw[if_neg om,if_pos hq]
  refine aU4 ?_
  exact rV (h:=by rw[hz];rfl)
 have hz:XQ x y=0:=by have hq:=h4;unfold XQ;rw[if_neg om,if_neg hq]
 refine aU5 ?_
 exact rV (h:=by rw[hz];rfl)
instance:TFn Tryz.prog 271:=⟨by kernel_rfl⟩
instance:TFn Tryz.prog 272:=⟨by kernel_rfl⟩
instance:TFn Tryz.prog 214:=⟨by kernel_rfl⟩
def QbD(s:List UInt8)(q:Nat):Bool:=(List.range q).all λi=>Qfe s (4*i)
theorem Qnq{s:List UInt8}{q k:Nat}(hk:k<q)(h:2147483647<at4 s (4*k)):QbD s q=false:=by
  unfold QbD;rw[List.all_eq_false];exact⟨k,List.mem_range.2 hk,by unfold Qfe;simp;omega⟩
theorem Qj1{s:List UInt8}{k:Nat}(h:QbD s k=true)(h2:¬2147483647<at4 s (4*k)):QbD s (k+1)=true:=by
  unfold QbD at h ⊢;rw[List.range_succ,List.all_append,h];unfold Qfe;simp;omega
def Qcq(a b:List UInt8):Nat->Nat->Int
  | 0,_=>0
  | f+1,k=>if XQ (at4 a (4*k)) (at4 b (4*k))≠0 then XQ (at4 a (4*k)) (at4 b (4*k))else Qcq a b f (k+1)
theorem c214(w:World)(s:List UInt8)(q:Nat)(hm:s.length<=1000000)(hq:q<=1000):CR 214 #[.string (bs s),.int .i64 ((4*q:Nat):Int)] w (.bool (decide (s.length=4*q)&&QbD s q)):=by
 refine eN2 Tryz.func214 Tryz.ntmps214 ?_
 refine aU8 ?_
 refine o_p (Qp rfl rfl Tryz.underlying9) rfl (aU3 ?_)
 refine sCd rfl (λh1=>?_) λh1=>?_
 ·have hne:¬s.length=4*q:=by have hq9:=h1;omega
  refine aU4 ?_
  exact rV (h:=by simp[Qt,hne])
 have heq:s.length=4*q:=by have hq9:=h1;omega
 refine aU7 ?_
 refine Qo (α:=Nat) [4,5,10,11,12,13,14,15,16,17,18] (λk=>[(5,.int .i64 ((4*k:Nat):Int))]) (λ_=>_) (λk=>k<=q/\QbD s k=true) (λk=>q-k) 0 ⟨Nat.zero_le _,rfl⟩ aSx (λw h=>h) (λk hx=>?_)
 obtain⟨hk1,hok⟩:=hx
 refine aU7 ?_
 refine sCd rfl (λh2=>?_) λh2=>?_
 ·have hk:k<q:=by omega
  refine aU7 ?_
  refine oCq rfl (λw1 h1=>Qux w1 s (4*k) om om) (aU2 ?_)
  refine sCd rfl (λh3=>?_) λh3=>?_
  ·have hz:=Qnq hk h3
   refine aU4 ?_
   exact rV (h:=by simp[Qt,hz])
  have hz:=Qj1 hok h3
  refine aT5 ?_
  refine aU2 ?_
  exact Qv (k+1) om ⟨om,hz⟩ (by rw[show(((4*k:Nat)):Int)+4=((4*(k+1):Nat):Int)from om];exact aSx) (λw h=>h)
 obtain rfl:k=q:=om
 refine Qg rfl ?_
 refine aU4 ?_
 exact rV (h:=by simp[Qt,heq,hok])
theorem c215(w:World)(a b:List UInt8)(q:Nat)(ha:a.length=4*q)(hb:b.length=4*q)(hq:q<=1000):CR 215 #[.string (bs a),.string (bs b)] w (.int .i64 (Qcq a b q 0)):=by
 refine eN2 Tryz.func215 Tryz.ntmps215 ?_
 refine Qbg ?_
 refine Qo (α:=Nat) [4,5,6,7,8,9,10,11,12,13,14,15,16,17,18,19,20,21,22] (λk=>[(5,.int .i64 ((4*k:Nat):Int))]) (λ_=>_) (λk=>k<=q/\Qcq a b q 0=Qcq a b (q-k) k) (λk=>q-k) 0 ⟨Nat.zero_le _,rfl⟩ aSx (λw h=>h) (λk hx=>?_)
 obtain⟨hk1,hx2⟩:=hx
 refine aU5 ?_
 refine o_p (Qp rfl rfl Tryz.underlying9) rfl (aU2 ?_)
 refine sCd rfl (λh1=>?_) λh1=>?_
 ·have hk:k<q:=by omega
  have hst:Qcq a b (q-k) k=if XQ (at4 a (4*k)) (at4 b (4*k))≠0 then XQ (at4 a (4*k)) (at4 b (4*k))else Qcq a b (q-(k+1)) (k+1):=by rw[show q-k=(q-(k+1))+1 by omega,Qcq]
  refine aU7 ?_
  refine oCq rfl (λw1 h1=>Qux w1 a (4*k) om om) (aU2 ?_)
  refine oCq rfl (λw1 h1=>Qux w1 b (4*k) om om) (oCq rfl (λw1 h1=>c272 w1 _ _) (aU7 ?_))
  refine sCd rfl (λh2=>?_) λh2=>?_
  ·have hq9:XQ (at4 a (4*k)) (at4 b (4*k))≠0:=h2
   rw[hst,if_pos hq9]at hx2
   refine aU5 ?_
   exact rV (h:=by rw[hx2];rfl)
  have hq9:¬XQ (at4 a (4*k)) (at4 b (4*k))≠0:=by have hq8:=h2;simpa using hq8
  rw[hst,if_neg hq9]at hx2
  refine aT5 ?_
  refine aU2 ?_
  exact Qv (k+1) om ⟨om,hx2⟩ (by rw[show(((4*k:Nat)):Int)+4=((4*(k+1):Nat):Int)from om];exact aSx) (λw h=>h)
 obtain rfl:k=q:=om
 rw[Nat.sub_self,Qcq]at hx2
 refine Qg rfl ?_
 refine aU4 ?_
 exact rV (h:=by rw[hx2];rfl)
theorem c213(w:World)(s:List UInt8)(hm:s.length<=1000000):CR 213 #[.string (bs s)] w (.bool (QP 2 s)):=by
 refine eN1 Tryz.func213 Tryz.ntmps213 ?_
 refine aU7 ?_
 refine oCq rfl (λw1 h1=>c214 w1 s 1 hm (by decide)) (aU2 ?_)
 exact rV (h:=by simp[Qt,QP,QbD,List.range_succ,List.range_zero])
theorem c216(w:World)(s:List UInt8)(hm:s.length<=1000000):CR 216 #[.string (bs s)] w (.bool (QP 3 s)):=by
 refine eN1 Tryz.func216 Tryz.ntmps216 ?_
 refine aU7 ?_
 refine oCq rfl (λw1 h1=>c214 w1 s 2 hm (by decide)) (aU2 ?_)
 exact rV (h:=by simp[Qt,QP,QbD,List.range_succ,List.range_zero])
theorem c208(w:World)(s:List UInt8):CR 208 #[.string (bs s)] w (.bool (QP 0 s)):=by
 refine eN1 Tryz.func208 Tryz.ntmps208 ?_
 refine aU7 ?_
 refine o_p (Qp rfl rfl Tryz.underlying9) rfl (oCq rfl (λw1 h1=>Qn8 w1 _ _ _) (aU2 ?_))
 exact rV (h:=by simp[Qt,QP,Bool.decide_and];first|done|(congr 1<;>simp<;>omega)|grind)
theorem c210(w:World)(s:List UInt8):CR 210 #[.string (bs s)] w (.bool (QP 1 s)):=by
 refine eN1 Tryz.func210 Tryz.ntmps210 ?_
 refine aU7 ?_
 refine o_p (Qp rfl rfl Tryz.underlying9) rfl (oCq rfl (λw1 h1=>Qn8 w1 _ _ _) (aU2 ?_))
 exact rV (h:=by simp[Qt,QP,Bool.decide_and];first|done|(congr 1<;>simp<;>omega)|grind)
theorem QpU:QN Tryz.prog 221=some [.nilFunc,.nilFunc,.nilFunc,.nilFunc,.nilFunc,.nilFunc,.nilFunc,.nilFunc]:=by kernel_rfl
theorem QiJ:YG Tryz.prog 205=some [(0,1),(1,1)]:=by kernel_rfl
theorem Qiu:QN Tryz.prog 205=some [.nilFunc,.nilFunc]:=by kernel_rfl
theorem QiF:tar Tryz.prog 221=some (4,205,2):=by kernel_rfl
theorem Qqb:tsz Tryz.prog 221=some (8,true):=by kernel_rfl
instance:TSz Tryz.prog 221 8 true:=⟨Qqb⟩
theorem Qk8:QL Tryz.prog 145=true:=by kernel_rfl
instance:TFn Tryz.prog 145:=⟨Qk8⟩
theorem QiN:tsz Tryz.prog 205=some (2,true):=by kernel_rfl
instance:TSz Tryz.prog 205 2 true:=⟨QiN⟩
theorem Qqk:tfd Tryz.prog 205 0=some (0,186):=by kernel_rfl
theorem Qwg:tsz Tryz.prog 186=some (1,false):=by kernel_rfl
def Qe7(co:Int):Nat:=if co=0 then 208 else if co=1 then 210 else if co=2 then 213 else 216
def QeY(co:Int):Nat:=if co=0 then 209 else if co=1 then 211 else 215
def Qbo(f:Nat):Value:=.func (.func f) #[] #[]
def ordV(co:Int):Value:=.agg #[Qbo (Qe7 co),Qbo (QeY co)]
theorem Qu6(w:World):CR 145 #[] w (.agg #[Qbo (Qe7 0),Qbo (QeY 0),Qbo (Qe7 1),Qbo (QeY 1),Qbo (Qe7 2),Qbo (QeY 2),Qbo (Qe7 3),Qbo (QeY 3)]):=by
 refine eN0 Tryz.func145 Tryz.ntmps145 ?_
 refine aU2 ?_
 refine oAl (λb1 _=>?_) QpU
 refine aU3 ?_
 refine o_p (QU (cs:=[_,_]) rfl rfl QiJ Qiu rfl) rfl (o_p (QU (cs:=[_,_]) rfl rfl QiJ Qiu rfl) rfl (o_p (QU (cs:=[_,_]) rfl rfl QiJ Qiu rfl) rfl (o_p (QU (cs:=[_,_]) rfl rfl QiJ Qiu rfl) rfl (o_p (Qfj (cs:=[_,_,_,_,_,_,_,_]) rfl rfl QiF QpU rfl) rfl (aU2 ?_)))))
 exact Qj (rs:=[.cell 0 221]) rfl (.cell rfl Qqb aPk rfl (.nil)) (λw' h'=>⟨by rfl,h'.below⟩)
theorem Qwt(co:Int):QL Tryz.prog (Qe7 co)=true:=by
  unfold Qe7;split
  · kernel_rfl
  · split
    · kernel_rfl
    · split<;>kernel_rfl
theorem Qnj(w:World)(j:Nat)(s:List UInt8)(hj:j<=3)(hm:s.length<=1000000):Calls Tryz.prog (Qe7 (j:Int)) #[.string (bs s)] w λen w'=>en=.returned (.bool (QP (j:Int) s))/\Below w.heap.size w w':=by
  match j,hj with
  | 0,_=>exact c208 w s
  | 1,_=>exact c210 w s
  | 2,_=>exact c213 w s hm
  | 3,_=>exact c216 w s hm
theorem QgA(j:Nat)(hj:j<=3):Value.agg (cut [Qbo (Qe7 0),Qbo (QeY 0),Qbo (Qe7 1),Qbo (QeY 1),Qbo (Qe7 2),Qbo (QeY 2),Qbo (Qe7 3),Qbo (QeY 3)] (j*2) 2).toArray=ordV (j:Int):=by
  match j,hj with
  | 0,_=>rfl
  | 1,_=>rfl
  | 2,_=>rfl
  | 3,_=>rfl
theorem c144(w:World)(j:Nat)(s:List UInt8)(hj:j<=3)(hm:s.length<=1000000):CR 144 #[.int .i64 (j:Int),.string (bs s)] w (.int .i64 (Zl (j:Int) s)):=by
 refine eN2 Tryz.func144 Tryz.ntmps144 ?_
 refine aU6 ?_
 refine oCq rfl (λw1 h1=>Qu6 w1) (aU ?_)
 refine o_p (Qet rfl rfl rfl QiF QiN j rfl om) rfl (Qs (QgA j hj) (o_p (Qjg rfl rfl Qqk Qwg rfl) rfl (aU ?_)))
 refine o_q (Yh rfl rfl (Qwt _) rfl (λw1 h1=>Qnj w1 j s hj hm)) rfl (oCq rfl (λw1 h1=>Qd5 w1 _ _) (aU2 ?_))
 exact rV (h:=by simp only[Qt,Zl,cond_eq_ite])
theorem Qro:QL Tryz.prog 144=true:=by kernel_rfl
instance:TFn Tryz.prog 144:=⟨Qro⟩
instance:TFd Tryz.prog 205 1 1 203:=⟨by kernel_rfl⟩
theorem QeZ:tsz Tryz.prog 203=some (1,false):=by kernel_rfl
instance:TSz Tryz.prog 203 1 false:=⟨QeZ⟩
theorem Qsh(a b:List UInt8):Qcq a b 1 0=QC 2 a b:=by
  simp only[Qcq,QC,Nat.mul_zero];split
  · rfl
  · rename_i h;simp only[ne_eq,Decidable.not_not]at h;rw[h];rfl
theorem Qsa(a b:List UInt8):Qcq a b 2 0=QC 3 a b:=by
  have e:QC 3 a b=if XQ (at4 a 0) (at4 b 0)≠0 then XQ (at4 a 0) (at4 b 0)else XQ (at4 a 4) (at4 b 4):=rfl
  rw[e];show(if XQ (at4 a 0) (at4 b 0)≠0 then XQ (at4 a 0) (at4 b 0)else if XQ (at4 a 4) (at4 b 4)≠0 then XQ (at4 a 4) (at4 b 4)else 0)=_
  by_cases h:XQ (at4 a 0) (at4 b 0)≠0
  · rw[if_pos h,if_pos h]
  · rw[if_neg h,if_neg h];split
    · rfl
    · rename_i h2;simp only[ne_eq,Decidable.not_not]at h2;exact h2.symm
theorem QfG{s:List UInt8}(h:QP 2 s=true):s.length=4:=by
  unfold QP at h;simp at h;exact h.1
theorem QfU{s:List UInt8}(h:QP 3 s=true):s.length=8:=by
  unfold QP at h;simp at h;exact h.1
theorem Qg4(co:Int):QL Tryz.prog (QeY co)=true:=by
  unfold QeY;split
  · kernel_rfl
  · split<;>kernel_rfl
theorem Qbm(w:World)(j:Nat)(a b:List UInt8)(hj:j<=3)(hka:QP (j:Int) a=true)(hkb:QP (j:Int) b=true)(ha:a.length<=1000000)(hb:b.length<=1000000):Calls Tryz.prog (QeY (j:Int)) #[.string (bs a),.string (bs b)] w λen w'=>en=.returned (.int .i64 (QC (j:Int) a b))/\Below w.heap.size w w':=by
  match j,hj with
  | 0,_=>exact c209 w a b
  | 1,_=>exact c211 w a b ha hb
  | 2,_=>
    have h:=c215 w a b 1 (QfG hka) (QfG hkb) (by decide);rw[Qsh]at h;exact h
  | 3,_=>
    have h:=c215 w a b 2 (QfU hka) (QfU hkb) (by decide);rw[Qsa]at h;exact h
theorem keyE_ok{co:Int}{k:List UInt8}(h:Zl co k=0):QP co k=true:=by
  unfold Zl at h;split at h
  · assumption
  · cases h
theorem Qcp{co:Int}(h:QY co=0):∃j:Nat,co=(j:Int)/\j<=3:=by
  unfold QY at h;split at h
  · exact⟨co.toNat,om,om⟩
  · cases h
theorem QkL(co:Int)(x:TEnt):Ending.returned (Value.int .i64 (if Zl co x.key=0 then cond (decide ((x.val.length:Int)<=64)) 0 8 else Zl co x.key))=Ending.returned (Value.int .i64 (YQ co x)):=by
  unfold YQ
  by_cases h:Zl co x.key=0
  · rw[if_pos h,if_pos h]
    by_cases h2:x.val.length<=64
    · rw[if_pos h2,decide_eq_true om];rfl
    · rw[if_neg h2,decide_eq_false om];rfl
  · rw[if_neg h,if_neg h];unfold Zl at h ⊢;split at h
    · exact absurd rfl h
    · rename_i h3;rw[if_neg h3]
theorem c223(w:World)(j:Nat)(x:TEnt)(hj:j<=3)(hm:x.key.length<=1000000):CR 223 #[.int .i64 (j:Int),.agg #[.string (bs x.key),.string (bs x.val)]] w (.int .i64 (YQ (j:Int) x)):=by
 refine eN2 Tryz.func223 Tryz.ntmps223 ?_
 refine aU2 ?_
 refine oBx λb1 _=>?_
 refine aU3 ?_
 refine QG [] mixed ?_
 refine dP 0 ?_
 refine dFa 1 ?_
 refine dLd 2 [] ?_
 refine dQ 3 [] rfl (Qz rfl Qro rfl (λw1 h1=>c144 w1 j x.key hj hm)) (dFa 4 ?_)
 refine dLd 5 [] ?_
 refine dV 6 rfl (Qp rfl rfl Tryz.underlying9) (dP 7 ?_)
 refine dQ 8 [] rfl (Qz rfl QbH rfl (λw1 h1=>Qd5 w1 _ _)) (dH 9 rfl (Ql (cs:=[_,_]) rfl rfl YF QaO rfl rfl rfl) (λb2 _=>dBa ?_))
 refine dQ 10 [] rfl (Qz rfl Qgc rfl (λw1 h1=>Qpj h1 aPk (by rfl) (by rfl) (by decide))) (dP 11 ?_)
 refine dNi ?_
 exact rV (h:=by simp only[Qt];rw[Qep];exact QkL _ _)
instance:TFn Tryz.prog 311:=⟨by kernel_rfl⟩
theorem kok0(s:List UInt8):QP ((0:Nat):Int) s=(decide ((1:Int)<=(s.length:Int))&&decide ((s.length:Int)<=40)):=by
  rw[Bool.eq_iff_iff];simp[QP];omega
theorem kok1(s:List UInt8):QP ((1:Nat):Int) s=(decide ((1:Int)<=(s.length:Int))&&decide ((s.length:Int)<=32)):=by
  rw[Bool.eq_iff_iff];simp[QP];omega
theorem kok2(s:List UInt8):QP ((2:Nat):Int) s=(decide ((s.length:Int)=4)&&(decide (0<=at4 s 0)&&decide (at4 s 0<=2147483647))):=by
  have:=QiU s 0;rw[Bool.eq_iff_iff];simp[QP,Qfe];omega
theorem kok3(s:List UInt8):QP ((3:Nat):Int) s=(decide ((s.length:Int)=8)&&(decide (0<=at4 s 0)&&decide (at4 s 0<=2147483647))&&(decide (0<=at4 s 4)&&decide (at4 s 4<=2147483647))):=by
  have:=QiU s 0;have:=QiU s 4;rw[Bool.eq_iff_iff];simp[QP,Qfe];omega
theorem c276(w:World)(j:Nat)(s:List UInt8)(hj:j<=3)(hm:s.length<=1000000):CR 276 #[.int .i64 (j:Int),.string (bs s)] w (.int .i64 (Zl (j:Int) s)):=by
 refine eN2 Tryz.func276 Tryz.ntmps276 ?_
 refine aU7 ?_
 refine o_p (Qp rfl rfl Tryz.underlying9) rfl (oCq rfl (λw1 h1=>c27 w1 _ _ _) (Z8 ?_))
 refine XG (α:=Unit) [5,12,13,14,15,16,17,18,19,20,21,22,23,24,25,26,27,28,29,30,31,32,33,34,35,36,37,38,39] (λ_=>[(5,.bool (QP (j:Int) s))]) (λ_=>HS w [] []) (λ_=>True) ?_ ?_
 ·skip
  refine sCd rfl (λh1=>?_) λh1=>?_
  ·obtain rfl:j=1:=by have hq:=h1;omega
   refine aU2 ?_
   refine o_p (Qp rfl rfl Tryz.underlying9) rfl (oCq rfl (λw1 h1=>c27 w1 _ _ _) (aU2 ?_))
   exact Qm () trivial (by rw[kok1];exact aSx) (λw h=>h.ent aEt)
  have hn1:¬(j:Int)=1:=h1
  refine aU5 ?_
  refine sCd rfl (λh2=>?_) λh2=>?_
  ·obtain rfl:j=2:=by have hq:=h2;omega
   refine aU2 ?_
   refine o_p (Qp rfl rfl Tryz.underlying9) rfl (aU2 ?_)
   refine Xs 4 20 24 rfl
    (λhg3 _=>by
     refine aU3 ?_
     refine oCq rfl (λw1 h1=>by have h9:=Qei w1 s 0 4 om om (by have hq:=hg3;first|omega|(simp at hq;omega));rw[QbC]at h9;exact h9) (aU ?_)
     refine oCq rfl (λw1 h1=>Quq w1 _) ?_
     exact oJt 4 24)
    (λhg5 _=>by
     refine aU3 ?_
     exact oJf 4 24) ?_
   refine aU2 ?_
   exact Qm () trivial (by rw[kok2];exact aSx) (λw h=>h.ent aEt)
  have hn2:¬(j:Int)=2:=h2
  refine aU5 ?_
  refine sCd rfl (λh7=>?_) λh7=>?_
  ·obtain rfl:j=3:=by have hq:=h7;omega
   refine aU2 ?_
   refine o_p (Qp rfl rfl Tryz.underlying9) rfl (aU2 ?_)
   refine Xs 4 30 34 rfl
    (λhg8 _=>by
     refine aU3 ?_
     refine oCq rfl (λw1 h1=>by have h9:=Qei w1 s 0 4 om om (by have hq:=hg8;first|omega|(simp at hq;omega));rw[QbC]at h9;exact h9) (aU ?_)
     refine oCq rfl (λw1 h1=>Quq w1 _) ?_
     exact oJt 4 34)
    (λhg10 _=>by
     refine aU3 ?_
     exact oJf 4 34) ?_
   refine aU ?_
   refine Xs 4 35 39 rfl
    (λhg12 _=>by
     refine aU3 ?_
     refine oCq rfl (λw1 h1=>by have h9:=Qei w1 s 4 4 om om (by have hq:=hg12;first|omega|(simp at hq;omega));rw[QbC]at h9;exact h9) (aU ?_)
     refine oCq rfl (λw1 h1=>Quq w1 _) ?_
     exact oJt 4 39)
    (λhg14 _=>by
     refine aU3 ?_
     exact oJf 4 39) ?_
   refine aU2 ?_
   exact Qm () trivial (by rw[kok3];exact aSx) (λw h=>h.ent aEt)
  have hn3:¬(j:Int)=3:=h7
  obtain rfl:j=0:=om
  refine aU ?_
  exact Qm () trivial (by rw[kok0];exact aSx) (λw h=>h.ent aEt)
 intro _ _
 refine aU7 ?_
 refine sCd rfl (λh16=>?_) λh16=>?_
 ·have hz:Zl (j:Int) s=3:=by have hq:=h16;unfold Zl;rw[if_neg (by simpa using hq)]
  refine aU4 ?_
  exact rV (h:=by rw[hz];rfl)
 have hz:Zl (j:Int) s=0:=by have hq:=h16;unfold Zl;rw[if_pos (by simpa using hq)]
 refine aU5 ?_
 exact rV (h:=by rw[hz];rfl)
instance:TFn Tryz.prog 276:=⟨by kernel_rfl⟩
theorem c220(w:World)(j:Nat)(x:TEnt)(hj:j<=3)(hm:x.key.length<=1000000):CR 220 #[.int .i64 (j:Int),.agg #[.string (bs x.key),.string (bs x.val)]] w (.int .i64 (YQ (j:Int) x)):=by
 refine eN2 Tryz.func220 Tryz.ntmps220 ?_
 refine aU2 ?_
 refine oBx λb1 _=>?_
 refine aU8 ?_
 refine oCq rfl (λw1 h1=>c276 w1 j x.key hj hm) (aU7 ?_)
 refine sCd rfl (λh2=>?_) λh2=>?_
 ·have h0:¬Zl (j:Int) x.key=0:=h2
  have hz:YQ (j:Int) x=Zl (j:Int) x.key:=by have h9:=QkL (j:Int) x;rw[if_neg h0]at h9;injection h9 with h9;injection h9 with _ h9;exact h9.symm
  refine aU5 ?_
  exact rV (h:=by rw[hz];rfl)
 have h0:Zl (j:Int) x.key=0:=h2
 refine aU6 ?_
 refine o_p (Qp rfl rfl Tryz.underlying9) rfl (aU2 ?_)
 refine sCd rfl (λh3=>?_) λh3=>?_
 ·have hz:YQ (j:Int) x=8:=by have hq:=h3;unfold YQ;rw[if_pos h0,if_neg om]
  refine aU4 ?_
  exact rV (h:=by rw[hz];rfl)
 have hz:YQ (j:Int) x=0:=by have hq:=h3;unfold YQ;rw[if_pos h0,if_pos om]
 refine aU5 ?_
 exact rV (h:=by rw[hz];rfl)
instance:TFn Tryz.prog 149:=⟨by kernel_rfl⟩
instance:TFn Tryz.prog 150:=⟨by kernel_rfl⟩
def mpK(j:Int)(l:List UInt8):List UInt8:=if j=1 then l.map Qa1 else l
theorem QaM(j:Int)(l:List UInt8):(mpK j l).length=l.length:=by unfold mpK;split<;>simp
theorem Qte{j:Nat}(h2:¬(j:Int)=2)(h3:¬(j:Int)=3)(a b:List UInt8):QC (j:Int) a b=XP (mpK (j:Int) a) (mpK (j:Int) b):=by
  unfold QC mpK;rw[if_neg h2,if_neg h3];split<;>rfl
theorem Qnm{x y:List UInt8}{k:Nat}(hx:k<x.length)(hy:k<y.length):XP (x.drop k) (y.drop k)=if XQ ((x.getD k 0).toNat:Int) ((y.getD k 0).toNat:Int)≠0 then XQ ((x.getD k 0).toNat:Int) ((y.getD k 0).toNat:Int)else XP (x.drop (k+1)) (y.drop (k+1)):=by
  rw[List.drop_eq_getElem_cons hx,List.drop_eq_getElem_cons hy,List.getD_eq_getElem?_getD,List.getD_eq_getElem?_getD,List.getElem?_eq_getElem hx,List.getElem?_eq_getElem hy];simp only[XP,Option.getD_some,XQ,UInt8.lt_iff_toNat_lt];split
  · rename_i h;rw[if_pos om,if_pos om]
  · rename_i h;rw[if_neg (show¬((x[k].toNat:Int)<y[k].toNat) by omega)];split
    · rename_i h2;rw[if_pos om,if_pos om]
    · rename_i h2;rw[if_neg om]
theorem QpY{x y:List UInt8}{k:Nat}(hx:k<=x.length)(hy:k<=y.length)(h:¬(k<x.length/\k<y.length)):XP (x.drop k) (y.drop k)=XQ (x.length:Int) (y.length:Int):=by
  unfold XQ;rcases Nat.lt_or_ge k x.length with h1|h1
  · have e:y.drop k=[]:=List.drop_of_length_le om;rw[e,List.drop_eq_getElem_cons h1,if_neg om,if_pos om];rfl
  · have e:x.drop k=[]:=List.drop_of_length_le h1;rw[e];rcases Nat.lt_or_ge k y.length with h2|h2
    · rw[List.drop_eq_getElem_cons h2,if_pos om];rfl
    · have e2:y.drop k=[]:=List.drop_of_length_le h2;rw[e2,if_neg om,if_neg om];rfl
theorem QlW{a:List UInt8}{k:Nat}(h:k<a.length):(((mpK 1 a).getD k 0).toNat:Int)=Qhw ((a.getD k 0).toNat:Int):=by
  unfold mpK;rw[if_pos rfl,Qgp,List.getD_eq_getElem?_getD,List.getElem?_map,List.getElem?_eq_getElem h,List.getD_eq_getElem?_getD,List.getElem?_eq_getElem h];rfl
theorem Qrk{j:Int}(hj:¬j=1)(a:List UInt8):mpK j a=a:=by unfold mpK;rw[if_neg hj]
theorem c84(w:World)(j:Nat)(a b:List UInt8)(hj:j<=3)(hka:QP (j:Int) a=true)(hkb:QP (j:Int) b=true)(ha:a.length<=1000000)(hb:b.length<=1000000):CR 84 #[.int .i64 (j:Int),.string (bs a),.string (bs b)] w (.int .i64 (QC (j:Int) a b)):=by
 refine eN3 Tryz.func84 Tryz.ntmps84 ?_
 refine Qp0 ?_
 refine sCd rfl (λh1=>?_) λh1=>?_
 ·obtain rfl:j=2:=by have hq:=h1;omega
  have hl1:=QfG hka
  have hl2:=QfG hkb
  have hz:QC ((2:Nat):Int) a b=XQ (at4 a 0) (at4 b 0):=rfl
  refine aU3 ?_
  refine oCq rfl (λw1 h1=>by have h9:=Qei w1 a 0 4 om om om;rw[QbC]at h9;exact h9) (aU ?_)
  refine oCq rfl (λw1 h1=>by have h9:=Qei w1 b 0 4 om om om;rw[QbC]at h9;exact h9) (oCq rfl (λw1 h1=>QoD w1 _ _) (aU2 ?_))
  exact rV (h:=by rw[hz];rfl)
 have hn2:¬(j:Int)=2:=h1
 refine aU5 ?_
 refine sCd rfl (λh2=>?_) λh2=>?_
 ·obtain rfl:j=3:=by have hq:=h2;omega
  have hl1:=QfU hka
  have hl2:=QfU hkb
  have hz:QC ((3:Nat):Int) a b=if XQ (at4 a 0) (at4 b 0)≠0 then XQ (at4 a 0) (at4 b 0)else XQ (at4 a 4) (at4 b 4):=rfl
  refine aU4 ?_
  refine oCq rfl (λw1 h1=>by have h9:=Qei w1 a 0 4 om om om;rw[QbC]at h9;exact h9) (aU ?_)
  refine oCq rfl (λw1 h1=>by have h9:=Qei w1 b 0 4 om om om;rw[QbC]at h9;exact h9) (oCq rfl (λw1 h1=>QoD w1 _ _) (aU7 ?_))
  refine sCd rfl (λh3=>?_) λh3=>?_
  ·have hq9:XQ (at4 a 0) (at4 b 0)≠0:=h3
   rw[if_pos hq9]at hz
   refine aU5 ?_
   exact rV (h:=by rw[hz];rfl)
  have hq9:¬XQ (at4 a 0) (at4 b 0)≠0:=by have hq8:=h3;simpa using hq8
  rw[if_neg hq9]at hz
  refine aU4 ?_
  refine oCq rfl (λw1 h1=>by have h9:=Qei w1 a 4 4 om om om;rw[QbC]at h9;exact h9) (aU ?_)
  refine oCq rfl (λw1 h1=>by have h9:=Qei w1 b 4 4 om om om;rw[QbC]at h9;exact h9) (oCq rfl (λw1 h1=>QoD w1 _ _) (aU2 ?_))
  exact rV (h:=by rw[hz];rfl)
 have hn3:¬(j:Int)=3:=h2
 have hmp:=Qte hn2 hn3 a b
 refine aU8 ?_
 refine Qo (α:=Nat) [6,8,9,10,11,35,36,37,38,39,40,41,42,43,44,45,46,47,48,49,50,51,52,53,54,55,56,57,58,59,60,61,62,63,64,65,66] (λk=>[(8,.int .i64 (k:Int))]) (λ_=>_) (λk=>k<=a.length/\k<=b.length/\XP (mpK (j:Int) a) (mpK (j:Int) b)=XP ((mpK (j:Int) a).drop k) ((mpK (j:Int) b).drop k)) (λk=>a.length-k) 0 ⟨Nat.zero_le _,Nat.zero_le _,rfl⟩ aSx (λw h=>h) (λk hx=>?_)
 obtain⟨hk1,hk2,hk3⟩:=hx
 refine aU5 ?_
 refine o_p (Qp rfl rfl Tryz.underlying9) rfl (aU2 ?_)
 refine Xs 5 39 44 rfl
  (λhg4 _=>by
   refine aU5 ?_
   refine o_p (Qp rfl rfl Tryz.underlying9) rfl (aU2 ?_)
   exact oJt 5 44)
  (λhg6 _=>by
   refine aU4 ?_
   exact oJf 5 44) ?_
 refine aU ?_
 refine sCd rfl (λh8=>?_) λh8=>?_
 ·obtain⟨hka1,hkb1⟩:k<a.length/\k<b.length:=by have hq:=h8;omega
  have hb1:=(a.getD k 0).toNat_lt
  have hb2:=(b.getD k 0).toNat_lt
  have hst:=Qnm (x:=mpK (j:Int) a) (y:=mpK (j:Int) b) (k:=k) (by rw[QaM];exact hka1) (by rw[QaM];exact hkb1)
  refine aU4 ?_
  refine QG [] mixed ?_
  refine dP 0 ?_
  refine dP 1 ?_
  refine dV 2 rfl (Qy rfl rfl rfl Tryz.underlying9 (k) om om) ?_
  refine dV 3 rfl (QW rfl rfl QeX Qco) ?_
  try refine dWr ?_
  refine dP 4 ?_
  refine dP 5 ?_
  refine dV 6 rfl (Qy rfl rfl rfl Tryz.underlying9 (k) om om) ?_
  refine dV 7 rfl (QW rfl rfl QeX Qco) ?_
  try refine dWr ?_
  refine dP 8 ?_
  refine dP 9 ?_
  refine dNi ?_
  refine aU6 ?_
  refine Qe (L':=[(0,_),(1,_),(2,_),(8,_),(9,_),(10,_),(12,_),(13,_),(14,_),(20,_),(21,_),(56,_)]) aSx (λ_ h=>h) ?_
  refine XG (α:=Unit) [9,10,57,58,59,60] (λ_=>[(9,.int .i64 (((mpK (j:Int) a).getD k 0).toNat:Int)),(10,.int .i64 (((mpK (j:Int) b).getD k 0).toNat:Int))]) (λ_=>HS w [] []) (λ_=>True) ?_ ?_
  ·skip
   refine sCd rfl (λh9=>?_) λh9=>?_
   ·obtain rfl:j=1:=by have hq:=h9;omega
    refine aU2 ?_
    refine oCq rfl (λw1 h1=>c150 w1 _ om) (aU ?_)
    refine oCq rfl (λw1 h1=>c150 w1 _ om) (aU3 ?_)
    exact Qm () trivial (by rw[show(((1:Nat):Int))=1 from rfl,QlW hka1,QlW hkb1];exact aSx) (λw h=>h.ent aEt)
   have hn1:¬(j:Int)=1:=h9
   refine aU ?_
   exact Qm () trivial (by rw[Qrk hn1,Qrk hn1];exact aSx) (λw h=>h.ent aEt)
  intro _ _
  refine aU4 ?_
  refine oCq rfl (λw1 h1=>QoD w1 _ _) (aU7 ?_)
  refine sCd rfl (λh10=>?_) λh10=>?_
  ·have hq9:XQ (((mpK (j:Int) a).getD k 0).toNat:Int) (((mpK (j:Int) b).getD k 0).toNat:Int)≠0:=h10
   have hz:=hmp.trans (hk3.trans (hst.trans (if_pos hq9)))
   refine aU5 ?_
   exact rV (h:=by rw[hz];rfl)
  have hq9:¬XQ (((mpK (j:Int) a).getD k 0).toNat:Int) (((mpK (j:Int) b).getD k 0).toNat:Int)≠0:=by have hq8:=h10;simpa using hq8
  have hz:=hk3.trans (hst.trans (if_neg hq9))
  refine aT5 ?_
  refine aU2 ?_
  exact Qv (k+1) om ⟨om,om,hz⟩ aSx (λw h=>h)
 have hz:=QpY (x:=mpK (j:Int) a) (y:=mpK (j:Int) b) (k:=k) (by rw[QaM];exact hk1) (by rw[QaM];exact hk2) (by rw[QaM,QaM];have hq:=h8;omega)
 rw[<-hk3,<-hmp,QaM,QaM]at hz
 refine Qg rfl ?_
 refine aU3 ?_
 refine o_p (Qp rfl rfl Tryz.underlying9) rfl (aU ?_)
 refine o_p (Qp rfl rfl Tryz.underlying9) rfl (oCq rfl (λw1 h1=>QoD w1 _ _) (aU2 ?_))
 exact rV (h:=by rw[hz];rfl)
theorem QoX:QN Tryz.prog 24=some [.int .i64 0,.int .i64 0,.int .i64 0,.slice none 0 0]:=by kernel_rfl
theorem Qv1:YG Tryz.prog 127=some [(0,1),(1,1),(2,1)]:=by kernel_rfl
theorem YV:QN Tryz.prog 127=some [.bool false,.slice none 0 0,.slice none 0 0]:=by kernel_rfl
theorem Xl:tsl Tryz.prog 22=some (127,3,56):=by kernel_rfl
theorem QwT:YG Tryz.prog 24=some [(0,1),(1,1),(2,1),(3,1)]:=by kernel_rfl
theorem Qkn:tsz Tryz.prog 24=some (4,true):=by kernel_rfl
instance:TSz Tryz.prog 24 4 true:=⟨Qkn⟩
instance:TFd Tryz.prog 207 0 0 24:=⟨by kernel_rfl⟩
instance:TFd Tryz.prog 24 1 1 3:=⟨by kernel_rfl⟩
instance:TFd Tryz.prog 24 2 2 3:=⟨by kernel_rfl⟩
theorem Zr:tsz Tryz.prog 197=some (1,false):=by kernel_rfl
instance:TSz Tryz.prog 197 1 false:=⟨Zr⟩
instance:TFd Tryz.prog 24 0 0 3:=⟨by kernel_rfl⟩
theorem Qwe:QL Tryz.prog 223=true:=by kernel_rfl
instance:TFd Tryz.prog 207 1 4 205:=⟨by kernel_rfl⟩
instance:TFd Tryz.prog 127 1 1 124:=⟨by kernel_rfl⟩
theorem Zx:tsz Tryz.prog 124=some (1,false):=by kernel_rfl
instance:TSz Tryz.prog 124 1 false:=⟨Zx⟩
def tbV(co mo rm:Int)(a:Option Addr)(n cap:Nat):List Value:=[.int .i64 co,.int .i64 mo,.int .i64 rm,.slice a n cap,Qbo (Qe7 co),Qbo (QeY co)]
def TbR(w:World)(M:List Nat)(bt:Nat)(co mo rm:Int)(a:Option Addr)(n cap:Nat):Prop:=∀k v,(tbV co mo rm a n cap)[k]?=some v->Rd w M bt k v
section
variable{w w':World}{M M':List Nat}{As As':List HA}{bt:Nat}{co mo rm:Int}{a:Option Addr}{n cap:Nat}
theorem TbR.next(h:TbR w M bt co mo rm a n cap)(hs:HS w M As w'):TbR w' [] bt co mo rm a n cap:=λk v hv=>(h k v hv).next hs
theorem TbR.keep(h:TbR w M bt co mo rm a n cap)(hs:HS w M As w'):TbR w' (fps As) bt co mo rm a n cap:=λk v hv=>hs.keep (h k v hv)
theorem TbR.mono(h:TbR w M bt co mo rm a n cap)(hM:∀b∈M',b∈M):TbR w M' bt co mo rm a n cap:=λk v hv=>(h k v hv).mono hM
theorem HS.tbr{w0:World}{tot t:Nat}(h:HS w0 M As w)(hp:QH As (.blk bt t tot (tbV co mo rm a n cap)) As'):TbR w [] bt co mo rm a n cap:=λk v hv=>h.rd_blk (Mc:=[]) hp hv (by simp)
end
theorem c255(w:World)(a:Option Addr)(cap:Nat)(l:List TEnt)(q:Nat)(cv:Array Value)(es:List Int)(hs:Rw TEnt.vals 2 w [] a l)(hm:l.length<=1000000)(hq:QL Tryz.prog q=true)(he:es.length=l.length)(hc:∀k w1,k<l.length->(∀j,j<k->es.getD j 0=0)->HS w [] [] w1->Calls Tryz.prog q (#[]++[.int .i64 (k:Int),.agg (TEnt.vals (nth l k)).toArray].toArray++cv) w1 λen w2=>en=.returned (.int .i64 (es.getD k 0))/\Below w1.heap.size w1 w2):CR 255 #[.slice a l.length cap,.func (.func q) #[] cv] w (.tuple #[.int .i64 (QB es 0).1,.int .i64 (QB es 0).2]):=by
 refine eN2 Tryz.func255 Tryz.ntmps255 ?_
 refine Z8 ?_
 refine Qo (α:=Nat) [4,5,6,7,8,11,12,13,14,15,16,17,18,19,20,21,22,23,24] (λk=>[(11,.int .i64 (k:Int))]) (λ_=>HS w [] []) (λk=>k<=l.length/\QB es 0=QB (es.drop k) k/\∀j,j<k->es.getD j 0=0) (λk=>l.length-k) 0 ⟨om,rfl,λi h=>absurd h (Nat.not_lt_zero i)⟩ aSx (λw h=>h.ent aEt) (λk hk=>?_)
 obtain⟨hk1,hk2,hk3⟩:=hk
 refine aU5 ?_
 refine sCd rfl (λh1=>?_) λh1=>?_
 ·refine aU6 ?_
  refine o_p (Qa rfl rfl rfl QD (k) om om (Rw.some hs om)) rfl (o_q (Qn _ rfl rfl ZT rfl (Rw.rd hs om)) rfl (oAl (λb2 _=>?_) YD))
  refine aU8 ?_
  refine o_q (Yh rfl rfl hq rfl (λw1 h1=>hc k w1 om hk3 (h1.ent aEt))) rfl (aU7 ?_)
  refine sCd rfl (λh3=>?_) λh3=>?_
  ·refine aU7 ?_
   exact Qj (rs:=[.tmp 4,.tmp 5]) rfl (.tmp rfl (.tmp rfl (.nil))) (λw' h'=>⟨by simp only[Qt];rw[hk2,X2 om,if_neg (by assumption)],h'.below⟩)
  refine aT4 ?_
  refine aU2 ?_
  exact sBk (k+1) om ⟨om,by rw[hk2,X2 om,if_pos (by assumption)],λj hj=>(Nat.lt_or_ge j k).elim (hk3 j) (λh=>by obtain rfl:j=k:=om;assumption)⟩
 refine Qg rfl ?_
 refine aU5 ?_
 exact Qj (rs:=[.tmp 4,.tmp 5]) rfl (.tmp rfl (.tmp rfl (.nil))) (λw' h'=>⟨by simp only[Qt];rw[hk2,Zw om],h'.below⟩)
theorem c190(w:World)(bt:Nat)(j:Nat)(mo rm:Int)(a:Option Addr)(n cap:Nat)(hmo:0<=mo/\mo<=1000)(ht:TbR w [] bt (j:Int) mo rm a n cap):CR 190 #[.pointer (some ⟨bt,0,none⟩)] w (.int .i64 (mo/2)):=by
 refine eN1 Tryz.func190 Tryz.ntmps190 ?_
 refine Qbg ?_
 refine o_q (Qb rfl rfl Y2 (ht 1 _ rfl)) rfl (o_p (Qee rfl rfl rfl om om om) rfl (aU2 ?_))
 exact rV
theorem c254(w:World)(bt:Nat)(j:Nat)(mo rm:Int)(a:Option Addr)(n cap:Nat)(i:Nat)(ht:TbR w [] bt (j:Int) mo rm a n cap):CR 254 #[.pointer (some ⟨bt,0,none⟩),.int .i64 (i:Int)] w (.int .i64 (YL mo rm i)):=by
 refine eN2 Tryz.func254 Tryz.ntmps254 ?_
 refine Qbg ?_
 refine sCd rfl (λh1=>?_) λh1=>?_
 ·obtain rfl:i=0:=by have hq:=h1;omega
  refine aU6 ?_
  refine o_q (Qb rfl rfl Y2 (ht 2 _ rfl)) rfl (aU2 ?_)
  exact rV
 have hn0:¬i=0:=by have hq:=h1;omega
 refine aU7 ?_
 refine o_q (Qb rfl rfl Y2 (ht 1 _ rfl)) rfl (aU2 ?_)
 exact rV (h:=by simp only[Qt,YL];rw[if_neg hn0])
theorem c256(w:World)(c0:Nat)(k:Int)(x:TEnt)(bt:Nat)(j:Nat)(mo rm:Int)(a:Option Addr)(n cap:Nat)(hj:j<=3)(hx:x.key.length<=1000000)(hc0:Rd w [] c0 0 (.pointer (some ⟨bt,0,none⟩)))(ht:TbR w [] bt (j:Int) mo rm a n cap):CR 256 #[.int .i64 k,.agg #[.string (bs x.key),.string (bs x.val)],.pointer (some ⟨c0,0,none⟩)] w (.int .i64 (YQ (j:Int) x)):=by
 refine eN3 Tryz.func256 Tryz.ntmps256 ?_
 refine aU2 ?_
 refine oBx λb1 _=>?_
 refine aU3 ?_
 refine QG [] mixed ?_
 refine dQ 0 [] rfl (Qb rfl rfl Zr (hc0)) (dP 1 ?_)
 refine dFa 2 ?_
 refine dFa 3 ?_
 refine dQ 4 [] rfl (Qb rfl rfl Y2 (ht 0 _ rfl)) (dLn 5 [] ?_)
 refine dQ 6 [] rfl (Qz rfl Qwe rfl (λw1 h1=>c223 w1 j x hj hx)) (dP 7 ?_)
 refine dNi ?_
 exact rV
theorem c259(w:World)(c0 c7:Nat)(k:Nat)(us:Bool)(ea:Option Addr)(ec:Nat)(es:List TEnt)(kids:Value)(bt:Nat)(j:Nat)(mo rm:Int)(a:Option Addr)(n cap:Nat)(hj:j<=3)(hk:k<es.length)(hl:es.length<=1000000)(hx:∀x∈es,QP (j:Int) x.key=true/\x.key.length<=1000000)(hc0:Rd w [] c0 0 (.pointer (some ⟨bt,0,none⟩)))(hc7:Rd w [] c7 1 (.slice ea es.length ec))(hes:Rw TEnt.vals 2 w [] ea es)(ht:TbR w [] bt (j:Int) mo rm a n cap):CR 259 #[.int .i64 (k:Int),.agg #[.string (bs (nth es k).key),.string (bs (nth es k).val)],.pointer (some ⟨c0,0,none⟩),.pointer (some ⟨c7,0,none⟩)] w (.int .i64 (Qbq (j:Int) es k)):=by
 refine eN4 Tryz.func259 Tryz.ntmps259 ?_
 refine aU2 ?_
 refine oBx λb1 _=>?_
 refine aU3 ?_
 refine QG [] mixed ?_
 refine dP 0 ?_
 refine dP 1 ?_
 refine dP 2 ?_
 apply QE 9
 ·exact rfl
 ·intro hg2
  have hs3:=hg2;try simp only[dT]at hs3
  refine dOf 3 9 hg2 ?_
  refine dOf 4 9 hg2 ?_
  refine dOf 5 9 hg2 ?_
  refine dOf 6 9 hg2 ?_
  refine dOf 7 9 hg2 ?_
  refine dOf 8 9 hg2 ?_
  refine dOf 9 9 hg2 ?_
  refine dOf 10 9 hg2 ?_
  refine dOf 11 9 hg2 ?_
  refine dOf 12 9 hg2 ?_
  refine dOf 13 9 hg2 ?_
  refine dOf 14 9 hg2 ?_
  refine dOf 15 9 hg2 ?_
  refine dOf 16 9 hg2 ?_
  refine dOf 17 9 hg2 ?_
  refine dOf 18 9 hg2 ?_
  refine dOf 19 9 hg2 ?_
  refine dV 20 rfl (QF rfl rfl hg2 rfl) (dQ 21 [] rfl (Qz rfl QbH rfl (λw1 h1=>Qd5 w1 _ _)) (dP 22 ?_))
  refine dNi ?_
  exact rV (h:=by simp only[Qt,Qbq];first|(split<;>simp_all<;>done)|(simp_all;done)|(grind))
 intro hg4
 have hs5:=hg4;try simp only[dN]at hs5
 refine dQo 3 9 [] hg4 rfl rfl rfl (Qb rfl rfl Zr (hc0)) ?_
 refine dPo 4 9 hg4 ?_
 refine dFo 5 9 hg4 ?_
 refine dFo 6 9 hg4 ?_
 refine dQo 7 9 [] hg4 rfl rfl rfl (Qb rfl rfl QeZ (ht 5 _ rfl)) ?_
 refine dFo 8 9 hg4 ?_
 refine dQo 9 9 [] hg4 rfl rfl rfl (Qb rfl rfl Zx (hc7)) ?_
 refine dPo 10 9 hg4 ?_
 refine dPo 11 9 hg4 ?_
 try refine dWr ?_
 refine dVo 12 9 hg4 rfl rfl rfl (QoH rfl rfl rfl ) ?_
 refine dVo 13 9 hg4 rfl rfl rfl (Qa rfl rfl rfl QD (k-1) om om (Rw.some hes om)) ?_
 refine dFo 14 9 hg4 ?_
 refine dQo 15 9 [] hg4 rfl rfl rfl (Qb rfl rfl YB ((hes.rdj (i:=k-1) 0 om rfl))) ?_
 refine dFo 16 9 hg4 ?_
 refine dQo 17 9 [] hg4 rfl rfl rfl (YN rfl rfl YB aPk rfl) ?_
 refine dQo 18 9 [] hg4 rfl rfl rfl (Yh rfl rfl (Qg4 _) rfl (λw1 h1=>Qbm w1 j (nth es (k-1)).key (nth es k).key hj (hx _ (Qq om)).1 (hx _ (Qq hk)).1 (hx _ (Qq om)).2 (hx _ (Qq hk)).2)) ?_
 refine dPo 19 9 hg4 ?_
 refine dV 20 rfl (Qx rfl rfl hg4 rfl) (dQ 21 [] rfl (Qz rfl QbH rfl (λw1 h1=>Qd5 w1 _ _)) (dP 22 ?_))
 refine dNi ?_
 exact rV (h:=by simp only[Qt,Qbq];first|(split<;>simp_all<;>done)|(simp_all;done)|(grind))
theorem QpR:tki Tryz.prog 236=some .u64:=by kernel_rfl
instance:TFd Tryz.prog 24 3 3 22:=⟨by kernel_rfl⟩
theorem Qat:tsz Tryz.prog 22=some (1,false):=by kernel_rfl
instance:TSz Tryz.prog 22 1 false:=⟨Qat⟩
instance:TFn Tryz.prog 245:=⟨by kernel_rfl⟩
instance:TFn Tryz.prog 187:=⟨by kernel_rfl⟩
instance:TFd Tryz.prog 127 2 2 125:=⟨by kernel_rfl⟩
theorem ZU:tsz Tryz.prog 125=some (1,false):=by kernel_rfl
instance:TSz Tryz.prog 125 1 false:=⟨ZU⟩
theorem c245(w:World)(a:Option Addr)(cap:Nat)(l:List TEnt)(q:Nat)(cv:Array Value)(cs:List Int)(key:List UInt8)(hs:Rw TEnt.vals 2 w [] a l)(hm:l.length<=1000000)(hq:QL Tryz.prog q=true)(hb:cs.length=l.length)(hc:∀k w1,k<l.length->HS w [] [] w1->Calls Tryz.prog q (#[]++[.agg (TEnt.vals (nth l k)).toArray,.string (bs key)].toArray++cv) w1 λen w2=>en=.returned (.int .i64 (cs.getD k 0))/\Below w1.heap.size w1 w2):CR 245 #[.slice a l.length cap,.string (bs key),.func (.func q) #[] cv] w (.tuple #[.int .i64 (bsL cs:Int),.bool (Qtx cs)]):=by
 refine eN3 Tryz.func245 Tryz.ntmps245 ?_
 refine aU19 ?_
 refine Qo (α:=Nat×Nat×Nat) [9,10,11,15,16,17,18,19,20,21,22,23,24,25,26,27,28,29,30,31,32,33,34] (λx=>[(9,.int .i64 (x.2.1:Int)),(10,.int .i64 (x.2.2:Int))]) (λ_=>_) (λx=>x.2.1<=x.2.2/\x.2.2<=l.length/\x.2.2-x.2.1<=x.1/\bsC cs x.1 x.2.1 x.2.2=bsL cs) (λx=>x.1) (l.length,0,l.length) ⟨by simp,by simp,by simp,by rw[<-hb];rfl⟩ aSx (λw h=>h.ent aEt) (λ⟨m,lo,hi⟩hx=>?_)
 dsimp only
 obtain⟨hx1,hx2,hx3,hx4⟩:=hx
 simp only[]at hx1 hx2 hx3 hx4
 refine aU7 ?_
 refine sCd rfl (λh1=>?_) λh1=>?_
 ·refine aT7 ?_
  refine o_p (QW rfl rfl Qco QpR) rfl ?_
  rw[show IntKind.u64.wrap ((lo:Int)+(hi:Int))=((lo+hi:Nat):Int)from Quk _ om]
  refine o_p (Qqi rfl rfl rfl (by decide) 1 rfl) rfl (o_p (QW rfl rfl QpR Qco) rfl ?_)
  try refine oWr ?_
  refine Qs (show _=Value.int .i64 (((lo+hi)/2:Nat):Int)from by congr 1) ?_
  obtain⟨q2,hq1,hq2⟩:=QpS (cs:=cs) (show lo<hi by omega) hx3
  refine aU7 ?_
  refine o_p (Qa rfl rfl rfl QD ((lo+hi)/2) om om (Rw.some hs om)) rfl (o_q (Qn _ rfl rfl ZT rfl (Rw.rd hs (i:=(lo+hi)/2) om)) rfl (aU ?_))
  refine o_q (Yh rfl rfl hq rfl (λw1 h1=>hc ((lo+hi)/2) w1 om (h1.ent aEt))) rfl (aU2 ?_)
  refine sCd rfl (λh2=>?_) λh2=>?_
  ·refine aT3 ?_
   refine aU3 ?_
   exact sBk (q2,(lo+hi)/2+1,hi) (by(try simp only[]);omega) ⟨by(try simp only[]);omega,hx2,by(try simp only[]);omega,by simp only[];rw[<-hx4,hq2,if_pos h2]⟩ (by refine QsF (congrArg (λe=>some (Value.int .i64 e)) (show(((lo+hi)/2:Nat):Int)+1=(((lo+hi)/2+1:Nat):Int) by omega)) ?_;repeat (first|exact QuJ|refine QsF rfl ?_))
  refine aU5 ?_
  exact sBk (q2,lo,(lo+hi)/2) (by(try simp only[]);omega) ⟨by(try simp only[]);omega,by(try simp only[]);omega,by(try simp only[]);omega,by simp only[];rw[<-hx4,hq2,if_neg h2]⟩
 refine Qg rfl ?_
 refine aU3 ?_
 have hlo:bsL cs=lo:=by rw[<-hx4,Qs1 _ _ _ _ om]
 refine aU4 ?_
 refine Xs 9 39 48 rfl
  (λhg3 _=>by
   refine aU7 ?_
   refine o_p (Qa rfl rfl rfl QD (lo) om om (Rw.some hs om)) rfl (aU ?_)
   refine o_q (Qn _ rfl rfl ZT rfl (Rw.rd hs (i:=lo) om)) rfl (aU3 ?_)
   refine o_q (Yh rfl rfl hq rfl (λw1 h1=>hc lo w1 om (h1.ent aEt))) rfl (aU2 ?_)
   exact oJt 9 48)
  (λhg5 _=>by
   refine aU8 ?_
   exact oJf 9 48) ?_
 refine aU3 ?_
 exact Qj (rs:=[.tmp 6,.tmp 7]) rfl (.tmp rfl (.tmp rfl (.nil))) (λw' h'=>⟨by simp only[Qt,Qtx,hlo];first|(rw[hb];simp;done)|(have:¬lo<cs.length:=om;simp[this];done)|(have:lo<cs.length:=om;simp[this];done)|(have:lo<cs.length:=om;have hl9:lo<l.length:=om;simp only[this,hl9,decide_true,Bool.true_and,Bool.and_true];rfl)|(have:lo<cs.length:=om;have hl9:lo<l.length:=om;simp[this,hl9]),h'.below⟩)
theorem c246(w:World)(c0:Nat)(x:TEnt)(key:List UInt8)(bt:Nat)(j:Nat)(mo rm:Int)(a:Option Addr)(n cap:Nat)(hj:j<=3)(hx:QP (j:Int) x.key=true)(hk:QP (j:Int) key=true)(hxl:x.key.length<=1000000)(hkl:key.length<=1000000)(hc0:Rd w [] c0 0 (.pointer (some ⟨bt,0,none⟩)))(ht:TbR w [] bt (j:Int) mo rm a n cap):CR 246 #[.agg #[.string (bs x.key),.string (bs x.val)],.string (bs key),.pointer (some ⟨c0,0,none⟩)] w (.int .i64 (QC (j:Int) x.key key)):=by
 refine eN3 Tryz.func246 Tryz.ntmps246 ?_
 refine aU2 ?_
 refine oBx λb1 _=>?_
 refine aU3 ?_
 refine QG [] mixed ?_
 refine dQ 0 [] rfl (Qb rfl rfl Zr (hc0)) (dP 1 ?_)
 refine dFa 2 ?_
 refine dFa 3 ?_
 refine dQ 4 [] rfl (Qb rfl rfl QeZ (ht 5 _ rfl)) (dFa 5 ?_)
 refine dLd 6 [] ?_
 refine dP 7 ?_
 refine dQ 8 [] rfl (Yh rfl rfl (Qg4 _) rfl (λw1 h1=>Qbm w1 j x.key key hj hx hk hxl hkl)) (dP 9 ?_)
 refine dNi ?_
 exact rV
theorem c187(w:World)(bt:Nat)(j:Nat)(mo rm:Int)(a:Option Addr)(cap:Nat)(L:List LNd)(key:List UInt8)(i:Nat)(hj:j<=3)(hi:i<L.length)(hl:L.length<=1000)(hel:(nth L i).es.length<=1000)(hK:∀i,i<L.length->∀x∈(nth L i).es,QP (j:Int) x.key=true/\x.key.length<=1000000)(hk:QP (j:Int) key=true)(hkl:key.length<=1000000)(hasc:Asc (j:Int) (nth L i).es)(hs:Nt w [] a L)(ht:TbR w [] bt (j:Int) mo rm a L.length cap):CR 187 #[.pointer (some ⟨bt,0,none⟩),.int .i64 (i:Int),.string (bs key)] w (.tuple #[.int .i64 (plc (j:Int) (nth L i).es key:Int),.bool (fnd (j:Int) (nth L i).es key)]):=by
 refine eN3 Tryz.func187 Tryz.ntmps187 ?_
 refine aU2 ?_
 refine oBx λb1 _=>?_
 refine aU9 ?_
 refine o_q (Qb rfl rfl Qat (ht 3 _ rfl)) rfl (aU ?_)
 refine o_p (Qa rfl rfl rfl Xl (i) om om (Rw.some hs.1 om)) rfl (aU ?_)
 refine o_q (Qb rfl rfl Zx ((hs.1.rdj 1 hi rfl))) rfl (aU2 ?_)
 refine oCq rfl (λw1 h1=>by have h9:=c245 w1 (nth L i).ea (nth L i).ec (nth L i).es 246 #[.pointer (some ⟨b1,0,none⟩)] (Qgx (j:Int) (nth L i).es key) key ((hs.es hi).later h1) om (by kernel_rfl) (QcQ _ _ _) (λk w2 hk9 h2=>by rw[Qc1 hk9];exact c246 w2 b1 (nth (nth L i).es k) key bt j mo rm a L.length cap hj (hK i hi _ (Qq hk9)).1 hk (hK i hi _ (Qq hk9)).2 hkl ((h1.rd_blk (Mc:=[]) aPk rfl (by simp)).next h2) ((ht.next h1).next h2));rw[QrF hasc,Qwr hasc]at h9;exact h9) (aU5 ?_)
 exact Qj (rs:=[.tmp 6,.tmp 7]) rfl (.tmp rfl (.tmp rfl (.nil))) (λw' h'=>⟨rfl,h'.below⟩)
theorem Qnv{co:Int}{ns:List Nd}{key:List UInt8}{f i:Nat}(h:¬(fnd co (nth ns i).es key=true\/(nth ns i).cs.length=0)):QaC co ns key (f+1) i=(i::(QaC co ns key f ((nth ns i).cs.getD (plc co (nth ns i).es key) 0).toNat).1,(QaC co ns key f ((nth ns i).cs.getD (plc co (nth ns i).es key) 0).toNat).2):=by
  rw[QaC,if_neg h]
theorem QhY{co:Int}{ns:List Nd}{key:List UInt8}{f i:Nat}(h:fnd co (nth ns i).es key=true\/(nth ns i).cs.length=0):QaC co ns key (f+1) i=([i],plc co (nth ns i).es key,fnd co (nth ns i).es key):=by
  rw[QaC,if_pos h]
theorem QsA(l:List Nat):(l.map λi:Nat=>(i:Int)).flatMap inV=l.map λi:Nat=>Value.int .i64 (i:Int):=by
  induction l with
  | nil=>rfl
  | cons x l ih=>
    rw[List.map_cons,List.flatMap_cons,List.map_cons,ih];rfl
theorem c127(w:World)(bt:Nat)(j:Nat)(mo rm:Int)(a:Option Addr)(cap:Nat)(L:List LNd)(key:List UInt8)(hj:j<=3)(h0:0<L.length)(hB:Bd (pln L))(hT:TOk (j:Int) (pln L))(hK:∀i,i<L.length->∀x∈(nth L i).es,QP (j:Int) x.key=true/\x.key.length<=1000000)(hk:QP (j:Int) key=true)(hkl:key.length<=1000000)(hs:Nt w [] a L)(ht:TbR w [] bt (j:Int) mo rm a L.length cap):CE 127 #[.pointer (some ⟨bt,0,none⟩),.string (bs key)] w [] (λg:Option Addr×Nat=>.tuple #[.slice g.1 (Q5 (j:Int) (pln L) key).1.length g.2,.int .i64 ((Q5 (j:Int) (pln L) key).2.1:Int),.bool (Q5 (j:Int) (pln L) key).2.2]) (λg=>True) λg=>[.kids g.1 g.2 ((Q5 (j:Int) (pln L) key).1.map λi:Nat=>(i:Int))]:=by
 refine eN2 Tryz.func127 Tryz.ntmps127 ?_
 refine Qas ?_
 refine Qo (α:=(Option Addr×Nat)×List Nat×Nat×Nat) [4,5,6,7,8,9,10,11,12,13,14,15,16,17,18,19,20,21,22,23,24,25,26,27,28,29,30,31,32,33,34,35,36,37,38,39,40,41,42,43,44,45,46,47] (λx=>[(4,.slice x.1.1 x.2.1.length x.1.2),(7,.int .i64 (x.2.2.1:Int))]) (λx=>HS w [] [.own (.slice x.1.1 x.2.1.length x.1.2) 3 1 x.2.1.length (x.2.1.map λi:Nat=>Value.int .i64 (i:Int))]) (λx=>x.2.2.1<L.length/\x.2.1.length+x.2.2.2=L.length/\Gx.Way (pln L) (x.2.2.1::x.2.1.reverse)/\(Q5 (j:Int) (pln L) key)=(x.2.1++(QaC (j:Int) (pln L) key x.2.2.2 x.2.2.1).1,(QaC (j:Int) (pln L) key x.2.2.2 x.2.2.1).2)) (λx=>x.2.2.2) ((none,0),[],0,L.length) ⟨h0,by simp,rfl,by rw[Q5,Qd];rfl⟩ aSx (λw h=>(h.own_nil 3 1).ent aEt) (λ⟨⟨ga,gc⟩,P,i,f⟩hx=>?_)
 dsimp only
 obtain⟨hi,hlen,hway,hpath⟩:=hx
 simp only[]at hi hlen hway hpath
 have hwl:=Yi hT (by rw[Qd];exact h0) hway
 simp only[List.length_cons,List.length_reverse,Qd]at hwl
 obtain⟨f,rfl⟩:∃f9,f=f9+1:=⟨f-1,om⟩
 have hni:=QJ hi
 have hle:=hB.len
 rw[Qd]at hle
 have hes9:=hB.es i (by rw[Qd];exact hi)
 have hcs9:=hB.cs i (by rw[Qd];exact hi)
 rw[hni]at hes9 hcs9
 have hasc:=hT.asc i (by rw[Qd];exact hi)
 rw[hni]at hasc
 refine aU5 ?_
 refine o_h (Ql (cs:=[_]) rfl rfl QT Qkv rfl rfl rfl) rfl (λb1 _=>o_h (QM [_] rfl rfl rfl QT Tryz.underlying125 Qkv rfl aPk (Xp aPk) rfl (by intro u hu;simp only[List.mem_cons,List.mem_nil_iff,or_false]at hu;subst hu;rfl) om (by simp only[maxLen];omega)) rfl (λb2 _=>aU7 ?_))
 refine oCq rfl (λw1 h1=>c187 w1 bt j mo rm a cap L key i hj hi om hes9 hK hk hkl hasc (hs.later h1.nil) (ht.next h1.nil)) (Qas ?_)
 refine oOr 12 20 32 rfl
  (λhg3 _=>by
   refine aU9 ?_
   refine o_q (Qb rfl rfl Qat (ht 3 _ rfl)) rfl (aU3 ?_)
   refine o_p (Qa rfl rfl rfl Xl (i) om om (Rw.some hs.1 om)) rfl (aU3 ?_)
   refine o_q (Qb rfl rfl ZU ((hs.1.rdj 2 hi rfl))) rfl (aU4 ?_)
   exact oJf 12 32)
  (λhg5 _=>by
   refine Qas ?_
   exact oJt 12 32) ?_
 refine aU ?_
 refine sCd rfl (λh7=>?_) λh7=>?_
 ·have hst:fnd (j:Int) (nth (pln L) i).es key=true\/(nth (pln L) i).cs.length=0:=by rw[hni];have hq:=h7;first|exact hq|(simp at hq;simpa[LNd.pl]using hq)
  refine aU9 ?_
  exact Qj (rs:=[.tmp 4,.tmp 5,.tmp 6]) rfl (.tmp rfl (.tmp rfl (.tmp rfl (.nil)))) (λw' h'=>⟨(b2.1,b2.2),by rw[hpath,QhY hst,hni];simp[Qt,LNd.pl],trivial,by rw[hpath,QhY hst];have h2:=h';unfold HA.kids;rw[QsA];simp only[List.length_map,List.length_append,List.length_singleton,List.map_append,List.map_cons,List.map_nil];exact h2.ent aEt⟩)
 have hst:¬(fnd (j:Int) (nth (pln L) i).es key=true\/(nth (pln L) i).cs.length=0):=by rw[hni];have hq:=h7;first|exact hq|(simp at hq;simpa[LNd.pl]using hq)
 have hcl:(nth L i).cs.length=(nth L i).es.length+1:=by rcases hT.shape i (by rw[Qd];exact hi)with h9|h9;exact absurd (.inr h9) hst;rw[hni]at h9;exact h9
 have hple:=QeW (j:Int) key (nth L i).es
 have hpk:plc (j:Int) (nth L i).es key<(nth L i).cs.length:=om
 have hkid:=Qdv hT (by rw[Qd];exact hi) (i:=i) (k:=plc (j:Int) (nth L i).es key) (by rw[hni];exact hpk)
 rw[hni,Qd]at hkid
 simp only[LNd.pl]at hkid
 have hway2:=QbJ hway (by rw[Qd];exact hi) (k:=plc (j:Int) (nth L i).es key) (by rw[hni];exact hpk) (by rw[hni];simp only[LNd.pl];omega)
 rw[hni]at hway2
 simp only[LNd.pl]at hway2
 refine aU6 ?_
 refine o_q (Qb rfl rfl Qat (ht 3 _ rfl)) rfl (aU ?_)
 refine o_p (Qa rfl rfl rfl Xl (i) om om (Rw.some hs.1 om)) rfl (aU ?_)
 refine o_q (Qb rfl rfl ZU ((hs.1.rdj 2 hi rfl))) rfl (aU ?_)
 refine o_p (Qa rfl rfl rfl QT (plc (j:Int) (nth L i).es key) om om (Rw.some (hs.cs hi) om)) rfl (o_q (Qb rfl rfl Y2 (((hs.cs hi).rdj 0 (i:=plc (j:Int) (nth L i).es key) hpk rfl))) rfl (aU3 ?_))
 exact Qv ((b2.1,b2.2),P++[i],((nth L i).cs.getD (plc (j:Int) (nth L i).es key) 0).toNat,f) (by(try simp only[]);omega) ⟨by simp only[];omega,by simp only[List.length_append,List.length_singleton];omega,by simp only[List.reverse_append,List.reverse_singleton,List.singleton_append];exact hway2,by simp only[];rw[hpath,Qnv hst];simp[hni,LNd.pl]⟩ (by simp only[List.length_append,List.length_singleton];rw[Int.toNat_of_nonneg om];exact aSx) (λw h=>by have h2:=h;simp only[List.length_append,List.length_singleton,List.map_append,List.map_cons,List.map_nil];exact h2.ent aEt)
theorem Qws:QL Tryz.prog 258=true:=by kernel_rfl
instance:TFd Tryz.prog 127 0 0 4:=⟨by kernel_rfl⟩
theorem QqE:tsz Tryz.prog 270=some (1,false):=by kernel_rfl
abbrev KI:Int->Value:=λn=>Value.int .i64 n
theorem QqM{ks:List Int}{c x:Int}:x∈Z5 ks c ↔ x=c\/x∈ks:=by
  unfold Z5;split
  · rename_i h;constructor
    · exactλh1=>.inr h1
    · rintro(rfl|h1)
      · exact h
      · exact h1
  · rw[List.mem_append,List.mem_singleton];exact Or.comm
theorem c258(w:World)(i c:Int)(c0 c5 r:Nat)(ks seen:List Int)(bt:Nat)(j:Nat)(mo rm:Int)(a:Option Addr)(cap:Nat)(L:List LNd)(hw:HS w (fps [.mp r KI ks]) [.mp r KI ks] w)(hst:∀x,x∈ks ↔ x∈seen)(hc0:Rd w (fps [.mp r KI ks]) c0 0 (.pointer (some ⟨bt,0,none⟩)))(hc5:Rd w (fps [.mp r KI ks]) c5 0 (.map (some r)))(ht:TbR w (fps [.mp r KI ks]) bt (j:Int) mo rm a L.length cap)(hs:Nt w (fps [.mp r KI ks]) a L)(hl:L.length<=1000):CE 258 #[.int .i64 i,.int .i64 c,.pointer (some ⟨c0,0,none⟩),.pointer (some ⟨c5,0,none⟩)] w (fps [.mp r KI ks]) (λg:List Int=>.int .i64 (QcE (pln L) c seen)) (λg=>(∀x,x∈g ↔ x∈(Qej (pln L) c seen))) λg=>[.mp r KI g]:=by
 refine eW4 Tryz.func258 Tryz.ntmps258 hw ?_
 refine aU8 ?_
 refine o_q (Qb rfl rfl Zr (hc0)) rfl (aU3 ?_)
 refine o_q (Qb rfl rfl Qat (ht 3 _ rfl)) rfl (aT2 ?_)
 refine oCq rfl (λw1 h1=>Qn8 w1 _ _ _) (aU2 ?_)
 refine oOr 11 18 29 rfl
  (λhg1 _=>by
   refine aU ?_
   refine o_q (Qb rfl rfl Zr (hc0)) rfl (aU7 ?_)
   refine o_q (Qb rfl rfl Qat (ht 3 _ rfl)) rfl (aU3 ?_)
   refine o_p (Qa rfl rfl rfl Xl c.toNat om om (Rw.some hs.1 om)) rfl (aU3 ?_)
   refine o_q (Qb rfl rfl Qb5 ((hs.1.rdj 0 (i:=c.toNat) om rfl))) rfl (aU2 ?_)
   exact oJf 11 29)
  (λhg3 _=>by
   refine Qbg ?_
   exact oJt 11 29) ?_
 refine aU ?_
 refine sCd rfl (λh5=>?_) λh5=>?_
 ·have hz:¬Qdn (pln L) c:=by unfold Qdn;rw[Qd];intro h9;rw[QJ om]at h9;have hq:=h5;simp[LNd.pl]at h9;rcases hq with hq|hq<;>simp_all<;>omega
  refine aU4 ?_
  exact rT rfl rfl (λw' h'=>⟨ks,by unfold QcE;rw[if_neg hz];rfl,by unfold Qej;rw[if_neg hz];exact hst,h'.ent aEt⟩)
 have hz:Qdn (pln L) c:=by have hq:=h5;have hq1:1<=c/\c<=(L.length:Int)-1:=(by first|omega|(simp at hq;omega));unfold Qdn;rw[Qd,QJ om];exact⟨hq1,by simp only[LNd.pl];first|exact hq.2|exact hq.2.2|(simp at hq;first|exact hq.2|exact hq.2.2)⟩
 refine aU3 ?_
 refine o_q (Qb rfl rfl QqE (hc5)) rfl (aU ?_)
 refine o_q (Qgu rfl rfl rfl Tryz.underlying270 zv_4 (QfE Qco) aPk) rfl (aU ?_)
 refine oCq rfl (λw1 h1=>Qd5 w1 _ _) (aU4 ?_)
 refine o_q (Qb rfl rfl QqE (hc5)) rfl (aU ?_)
 refine Qez (QcA (.inl rfl) rfl rfl rfl Tryz.underlying270 (QfE Qco) aPt) (λ_ _=>aU6 ?_)
 exact rT rfl rfl (λw' h'=>⟨Z5 ks c,by unfold QcE;rw[if_pos hz];simp only[Qt];by_cases h9:c∈seen<;>simp[h9,(hst c)],by unfold Qej;rw[if_pos hz];intro x;rw[QqM,List.mem_cons,hst],h'.ent aEt⟩)
theorem c257(w:World)(ca:Option Addr)(cc:Nat)(cs:List Int)(c0 c5 r:Nat)(ks seen:List Int)(bt:Nat)(j:Nat)(mo rm:Int)(a:Option Addr)(cap:Nat)(L:List LNd)(hw:HS w (fps [.mp r KI ks]) [.mp r KI ks] w)(hst:∀x,x∈ks ↔ x∈seen)(hc0:Rd w (fps [.mp r KI ks]) c0 0 (.pointer (some ⟨bt,0,none⟩)))(hc5:Rd w (fps [.mp r KI ks]) c5 0 (.map (some r)))(ht:TbR w (fps [.mp r KI ks]) bt (j:Int) mo rm a L.length cap)(hs:Nt w (fps [.mp r KI ks]) a L)(hl:L.length<=1000)(hcs:Rw inV 1 w (fps [.mp r KI ks]) ca cs)(hcl:cs.length<=1000):CE 257 #[.slice ca cs.length cc,.func (.func 258) #[] #[.pointer (some ⟨c0,0,none⟩),.pointer (some ⟨c5,0,none⟩)]] w (fps [.mp r KI ks]) (λg:Int×List Int=>.tuple #[.int .i64 g.1,.int .i64 (X5 (pln L) cs seen).1]) (λg=>(∀x,x∈g.2 ↔ x∈(X5 (pln L) cs seen).2)) λg=>[.mp r KI g.2]:=by
 refine eW2 Tryz.func257 Tryz.ntmps257 hw ?_
 refine Z8 ?_
 refine Qo (α:=Nat×List Int×List Int) [4,5,6,7,8,11,12,13,14,15,16,17,18,19,20,21,22,23,24] (λx=>[(11,.int .i64 (x.1:Int))]) (λx=>HS w (fps [.mp r KI ks]) [.mp r KI x.2.1]) (λx=>x.1<=cs.length/\(∀y,y∈x.2.1 ↔ y∈x.2.2)/\(X5 (pln L) cs seen)=X5 (pln L) (cs.drop x.1) x.2.2) (λx=>cs.length-x.1) (0,ks,seen) ⟨Nat.zero_le _,hst,rfl⟩ aSx (λw h=>h.ent aEt) (λ⟨k,K,S9⟩hx=>?_)
 dsimp only
 obtain⟨hk1,hk2,hk3⟩:=hx
 simp only[]at hk1 hk2 hk3
 refine aU5 ?_
 refine sCd rfl (λh1=>?_) λh1=>?_
 ·have hkl:k<cs.length:=by omega
  refine aU6 ?_
  refine o_p (Qa rfl rfl rfl QT (k) om om (Rw.some hcs om)) rfl (o_q (Qb rfl rfl Y2 ((hcs.rdj 0 (i:=k) om rfl))) rfl (aU8 ?_))
  refine o_h (QkO (Cs:=[.mp r KI K]) rfl rfl Qws rfl aPs (λw1 h1 hf=>c258 w1 (k:Int) (cs.getD k 0) c0 c5 r K S9 bt j mo rm a cap L hf hk2 (h1.keep hc0) (h1.keep hc5) (ht.keep h1) (hs.keep h1) hl)) rfl (λb2 hkG=>?_)
  have hkg:=hkG
  refine aU7 ?_
  refine sCd rfl (λh3=>?_) λh3=>?_
  ·refine aU7 ?_
   exact Qj (rs:=[.tmp 4,.tmp 5]) rfl (.tmp rfl (.tmp rfl (.nil))) (λw' h'=>⟨((k:Int),b2),by rw[hk3,QcR hkl,QbA,if_neg h3];rfl,by rw[hk3,QcR hkl,QbA,if_neg h3];exact hkG,h'.ent aEt⟩)
  refine aT4 ?_
  refine aU2 ?_
  exact sBk (k+1,b2,Qej (pln L) (cs.getD k 0) S9) (by(try simp only[]);omega) ⟨by(try simp only[]);omega,hkg,by simp only[];rw[hk3,QcR hkl,QbA,if_pos h3]⟩
 refine Qg rfl ?_
 refine aU5 ?_
 exact Qj (rs:=[.tmp 4,.tmp 5]) rfl (.tmp rfl (.tmp rfl (.nil))) (λw' h'=>⟨(0,K),by rw[hk3,List.drop_of_length_le om];rfl,by rw[hk3,List.drop_of_length_le om];exact hk2,h'.ent aEt⟩)
theorem ZY:tsz Tryz.prog 127=some (3,true):=by kernel_rfl
instance:TSz Tryz.prog 127 3 true:=⟨ZY⟩
theorem Qwk:QL Tryz.prog 254=true:=by kernel_rfl
instance:TFn Tryz.prog 255:=⟨by kernel_rfl⟩
theorem Qu4:QL Tryz.prog 257=true:=by kernel_rfl
theorem QtQ{t:Tre}{i:Nat}{es:List TEnt}{cs:List Int}(h:nth t.ns i=⟨true,es,cs⟩)(b:Bool)(hb:b=true ↔ (cs.length=0\/cs.length=es.length+1)):(if(bif decide ((es.length:Int)<=YL t.mo t.rm i)then(0:Int)else 16)=0 then(bif b then(0:Int)else 10)else(bif decide ((es.length:Int)<=YL t.mo t.rm i)then(0:Int)else 16))=nE1 t i:=by
  unfold nE1;rw[h]
  by_cases h1:(es.length:Int)<=YL t.mo t.rm i
  · rw[decide_eq_true h1,if_pos h1]
    by_cases h2:cs.length=0\/cs.length=es.length+1
    · rw[if_pos h2,hb.2 h2];rfl
    · rw[if_neg h2,show b=false by cases b;rfl;exact absurd (hb.1 rfl) h2];rfl
  · rw[decide_eq_false h1,if_neg h1];rfl
theorem c200(w:World)(i r:Nat)(ks seen:List Int)(bt:Nat)(j:Nat)(mo rm:Int)(a:Option Addr)(cap:Nat)(L:List LNd)(hw:HS w (fps [.mp r KI ks]) [.mp r KI ks] w)(hst:∀x,x∈ks ↔ x∈seen)(ht:TbR w (fps [.mp r KI ks]) bt (j:Int) mo rm a L.length cap)(hs:Nt w (fps [.mp r KI ks]) a L)(hl:L.length<=1000)(hj:j<=3)(hi:i<L.length)(hel:(nth L i).es.length<=1000)(hcl:(nth L i).cs.length<=1000)(hkl:∀x∈(nth L i).es,x.key.length<=1000000):CE 200 #[.pointer (some ⟨bt,0,none⟩),.int .i64 (i:Int),.map (some r)] w (fps [.mp r KI ks]) (λg:List Int=>.int .i64 (XO (⟨(j:Int),mo,rm,pln L⟩:Tre) i seen).1) (λg=>(∀x,x∈g ↔ x∈(XO (⟨(j:Int),mo,rm,pln L⟩:Tre) i seen).2)) λg=>[.mp r KI g]:=by
 have hn:nth (pln L) i=(nth L i).pl:=QJ hi
 have hE2:nE2 (⟨(j:Int),mo,rm,pln L⟩:Tre) i=if nE1 (⟨(j:Int),mo,rm,pln L⟩:Tre) i=0 then(QB ((nth L i).es.map (YQ (j:Int))) 0).2 else nE1 (⟨(j:Int),mo,rm,pln L⟩:Tre) i:=by unfold nE2 ZH;rw[hn];rfl
 have hE3:nE3 (⟨(j:Int),mo,rm,pln L⟩:Tre) i seen=if nE2 (⟨(j:Int),mo,rm,pln L⟩:Tre) i=0 then X5 (pln L) (nth L i).cs seen else(nE2 (⟨(j:Int),mo,rm,pln L⟩:Tre) i,seen):=by unfold nE3;rw[hn];rfl
 have hE4:nE4 (⟨(j:Int),mo,rm,pln L⟩:Tre) i seen=if(nE3 (⟨(j:Int),mo,rm,pln L⟩:Tre) i seen).1=0 then(QB ((List.range (nth L i).es.length).map (Qbq (j:Int) (nth L i).es)) 0).2 else(nE3 (⟨(j:Int),mo,rm,pln L⟩:Tre) i seen).1:=by unfold nE4 Qba;rw[hn];rfl
 refine eW3 Tryz.func200 Tryz.ntmps200 hw ?_
 refine aU2 ?_
 refine oBx λb1 _=>?_
 refine oBx λb2 _=>?_
 refine aU8 ?_
 refine o_q (Qb rfl rfl Qat (ht 3 _ rfl)) rfl (aU ?_)
 refine o_p (Qa rfl rfl rfl Xl (i) om om (Rw.some hs.1 om)) rfl (o_q (Qn _ rfl rfl ZY rfl (Rw.rd hs.1 hi)) rfl (oAl (λb3 _=>?_) YV))
 refine aU9 ?_
 refine sCd rfl (λh4=>?_) λh4=>?_
 ·have hu:(nth (pln L) i).us=false:=by rw[hn];have hq:=h4;simpa[LNd.pl]using hq
  refine aU5 ?_
  refine Xs 10 22 32 rfl
   (λhg5 _=>by
    refine Qas ?_
    refine o_q (Qb rfl rfl Qat (ht 3 _ rfl)) rfl (aT4 ?_)
    refine aU2 ?_
    exact oJt 10 32)
   (λhg7 _=>by
    refine aU9 ?_
    exact oJf 10 32) ?_
  refine aU ?_
  refine Xs 9 33 42 rfl
   (λhg9 _=>by
    refine aT14 ?_
    refine aU2 ?_
    exact oJt 9 42)
   (λhg11 _=>by
    refine aU8 ?_
    exact oJf 9 42) ?_
  refine oCq rfl (λw1 h1=>Qd5 w1 _ _) (aU2 ?_)
  exact rT rfl rfl (λw' h'=>⟨ks,by unfold XO;simp only[];rw[if_neg (by rw[hu];decide),hn];simp only[Qt,LNd.pl];simp only[cond_eq_ite,Bool.and_eq_true,decide_eq_true_eq,Qd];(split<;>split<;>first|rfl|omega),by unfold XO;simp only[];rw[if_neg (by rw[hu];decide)];split<;>exact hst,h'.ent aEt⟩)
 have hu:(nth (pln L) i).us=true:=by rw[hn];have hq:=h4;simpa[LNd.pl]using hq
 have hN1:nth ((⟨(j:Int),mo,rm,pln L⟩:Tre)).ns i=⟨true,(nth L i).es,(nth L i).cs⟩:=by show nth (pln L) i=_;rw[hn]at hu ⊢;simp only[LNd.pl]at hu ⊢;rw[hu]
 rw[Qih (⟨(j:Int),mo,rm,pln L⟩:Tre) i hu]
 refine aU2 ?_
 refine Qe (L':=[(1,_),(3,_),(5,_),(6,_),(7,_)]) aSx (λ_ h=>h) ?_
 refine XG (α:=Unit) [8,44,45,46,47,48,49,50,51,52,53,54,55,56,57,58,59,60,61,62,63,64,65,66,67,68] (λ_=>[(8,.int .i64 (nE1 (⟨(j:Int),mo,rm,pln L⟩:Tre) i))]) (λ_=>HS w (fps [.mp r KI ks]) [.blk b1 197 1 [.pointer (some ⟨bt,0,none⟩)],.blk b2 270 1 [.map (some r)],.blk b3 127 3 (nth L i).vals,.mp r KI ks]) (λ_=>True) ?_ ?_
 ·skip
  refine QG [] mixed ?_
  refine dFa 0 ?_
  refine dLd 1 [] ?_
  refine dV 2 rfl (QR rfl rfl Tryz.underlying124) (dLd 3 [] ?_)
  refine dP 4 ?_
  refine dQ 5 [] rfl (Qz rfl Qwk rfl (λw1 h1=>c254 w1 bt j mo rm a L.length cap i (ht.next h1))) (dP 6 ?_)
  refine dQ 7 [] rfl (Qz rfl QbH rfl (λw1 h1=>Qd5 w1 _ _)) (dFa 8 ?_)
  refine dLd 9 [] ?_
  refine dV 10 rfl (QR rfl rfl Tryz.underlying125) (dP 11 ?_)
  refine dP 12 ?_
  apply QE 56
  ·exact rfl
  ·intro hg13
   have hs14:=hg13;try simp only[dT]at hs14
   refine dOf 13 56 hg13 ?_
   refine dOf 14 56 hg13 ?_
   refine dOf 15 56 hg13 ?_
   refine dOf 16 56 hg13 ?_
   refine dOf 17 56 hg13 ?_
   refine dOf 18 56 hg13 ?_
   refine dOf 19 56 hg13 ?_
   refine dOf 20 56 hg13 ?_
   refine dV 21 rfl (QF rfl rfl hg13 rfl) (dQ 22 [] rfl (Qz rfl QbH rfl (λw1 h1=>Qd5 w1 _ _)) (dH 23 rfl (Ql (cs:=[_,_]) rfl rfl YF QaO rfl rfl rfl) (λb15 _=>dBa ?_)))
   refine dQ 24 [] rfl (Qz rfl Qgc rfl (λw1 h1=>Qpj h1 aPk (by rfl) (by rfl) (by decide))) (QK (show _=Value.int .i64 (nE1 (⟨(j:Int),mo,rm,pln L⟩:Tre) i)from by congr 1;rw[Qep];exact QtQ hN1 _ (by first|(simp only[true_iff];left;have hq:=hg13;simp at hq ⊢;omega)|(have hq:¬(((nth L i).cs.length:Int)=0):=of_decide_eq_false hg13;rw[decide_eq_true_eq];omega))) (dP 25 ?_))
   refine dNi ?_
   exact Qm () trivial aSx (λw h=>h.ent aEt)
  intro hg16
  have hs17:=hg16;try simp only[dN]at hs17
  refine dFo 13 56 hg16 ?_
  refine dQo 14 56 [] hg16 rfl rfl rfl (YN rfl rfl ZU aPk rfl) ?_
  refine dVo 15 56 hg16 rfl rfl rfl (QR rfl rfl Tryz.underlying125) ?_
  refine dFo 16 56 hg16 ?_
  refine dQo 17 56 [] hg16 rfl rfl rfl (YN rfl rfl Zx aPk rfl) ?_
  refine dVo 18 56 hg16 rfl rfl rfl (QR rfl rfl Tryz.underlying124) ?_
  refine dPo 19 56 hg16 ?_
  try refine dWr ?_
  refine dPo 20 56 hg16 ?_
  refine dV 21 rfl (Qx rfl rfl hg16 rfl) (dQ 22 [] rfl (Qz rfl QbH rfl (λw1 h1=>Qd5 w1 _ _)) (dH 23 rfl (Ql (cs:=[_,_]) rfl rfl YF QaO rfl rfl rfl) (λb18 _=>dBa ?_)))
  refine dQ 24 [] rfl (Qz rfl Qgc rfl (λw1 h1=>Qpj h1 aPk (by rfl) (by rfl) (by decide))) (QK (show _=Value.int .i64 (nE1 (⟨(j:Int),mo,rm,pln L⟩:Tre) i)from by congr 1;rw[Qep];exact QtQ hN1 _ (by first|(simp only[true_iff];left;have hq:=hg16;simp at hq ⊢;omega)|(have hq:¬(((nth L i).cs.length:Int)=0):=of_decide_eq_false hg16;rw[decide_eq_true_eq];omega))) (dP 25 ?_))
  refine dNi ?_
  exact Qm () trivial aSx (λw h=>h.ent aEt)
 intro _ _
 refine aU6 ?_
 refine XG (α:=Unit) [8,71,72,73,74,75,76,77] (λ_=>[(8,.int .i64 (nE2 (⟨(j:Int),mo,rm,pln L⟩:Tre) i))]) (λ_=>HS w (fps [.mp r KI ks]) [.blk b1 197 1 [.pointer (some ⟨bt,0,none⟩)],.blk b2 270 1 [.map (some r)],.blk b3 127 3 (nth L i).vals,.mp r KI ks]) (λ_=>True) ?_ ?_
 ·skip
  refine sCd rfl (λh19=>?_) λh19=>?_
  ·refine aU4 ?_
   refine oCq rfl (λw1 h1=>c255 w1 (nth L i).ea (nth L i).ec (nth L i).es 256 #[.pointer (some ⟨b1,0,none⟩)] ((nth L i).es.map (YQ (j:Int))) ((hs.es hi).later h1) om (by kernel_rfl) (by simp) (λk w2 hk9 _ h2=>by rw[Qcf hk9];exact c256 w2 b1 (k:Int) (nth (nth L i).es k) bt j mo rm a L.length cap hj (hkl _ (Qq hk9)) ((h1.rd_blk (Mc:=[]) (b:=b1) aPk rfl (by simp)).next h2) ((ht.next h1).next h2))) (aU5 ?_)
   exact Qm () trivial (by rw[hE2,if_pos h19];exact aSx) (λw h=>h.ent aEt)
  refine aU ?_
  exact Qm () trivial (by rw[hE2,if_neg h19];exact aSx) (λw h=>h.ent aEt)
 intro _ _
 refine aU6 ?_
 refine XG (α:=List Int) [8,80,81,82,83,84,85,86] (λ_=>[(8,.int .i64 (nE3 (⟨(j:Int),mo,rm,pln L⟩:Tre) i seen).1)]) (λq=>HS w (fps [.mp r KI ks]) [.blk b1 197 1 [.pointer (some ⟨bt,0,none⟩)],.blk b2 270 1 [.map (some r)],.blk b3 127 3 (nth L i).vals,.mp r KI q]) (λq=>∀x,x∈q ↔ x∈(nE3 (⟨(j:Int),mo,rm,pln L⟩:Tre) i seen).2) ?_ ?_
 ·skip
  refine sCd rfl (λh20=>?_) λh20=>?_
  ·refine aU4 ?_
   refine o_h (Xy (Cs:=[.mp r KI ks]) rfl Qu4 rfl aPs (λw1 h1 hf=>c257 w1 (nth L i).ca (nth L i).cc (nth L i).cs b1 b2 r ks seen bt j mo rm a cap L hf hst (h1.rd_blkF aPs (b:=b1) aPk rfl) (h1.rd_blkF aPs (b:=b2) aPk rfl) ((ht.keep h1).mono (Q2 aPs)) ((hs.keep h1).mono (Q2 aPs)) hl (((hs.cs hi).keep h1).mono (Q2 aPs)) hcl)) rfl (λb21 hkG=>aU5 ?_)
   exact Qm b21.2 (by rw[hE3,if_pos h20];exact hkG) (by rw[hE3,if_pos h20];exact aSx) (λw h=>h.ent aEt)
  refine aU ?_
  exact Qm ks (by rw[hE3,if_neg h20];exact hst) (by rw[hE3,if_neg h20];exact aSx) (λw h=>h.ent aEt)
 intro ks2 hks2
 refine aU6 ?_
 refine XG (α:=Unit) [8,89,90,91,92,93,94,95] (λ_=>[(8,.int .i64 (nE4 (⟨(j:Int),mo,rm,pln L⟩:Tre) i seen))]) (λ_=>HS w (fps [.mp r KI ks]) [.blk b1 197 1 [.pointer (some ⟨bt,0,none⟩)],.blk b2 270 1 [.map (some r)],.blk b3 127 3 (nth L i).vals,.mp r KI ks2]) (λ_=>True) ?_ ?_
 ·skip
  refine sCd rfl (λh22=>?_) λh22=>?_
  ·have he0:=QmM (QwX _ _ (QtX _ _ h22))
   rw[hn]at he0
   have hkok:∀x∈(nth L i).es,QP (j:Int) x.key=true/\x.key.length<=1000000:=λx hx=>⟨Qal (he0 x hx),hkl x hx⟩
   refine aU4 ?_
   refine oCq rfl (λw1 h1=>c255 w1 (nth L i).ea (nth L i).ec (nth L i).es 259 #[.pointer (some ⟨b1,0,none⟩),.pointer (some ⟨b3,0,none⟩)] ((List.range (nth L i).es.length).map (Qbq (j:Int) (nth L i).es)) ((hs.es hi).later h1) om (by kernel_rfl) (by simp) (λk w2 hk9 _ h2=>by rw[QcL hk9];exact c259 w2 b1 b3 k true (nth L i).ea (nth L i).ec (nth L i).es (.bool true) bt j mo rm a L.length cap hj hk9 om hkok ((h1.rd_blk (Mc:=[]) (b:=b1) aPk rfl (by simp)).next h2) ((h1.rd_blk (Mc:=[]) (b:=b3) aPk rfl (by simp)).next h2) (((hs.es hi).later h1).later h2) ((ht.next h1).next h2))) (aU5 ?_)
   exact Qm () trivial (by rw[hE4,if_pos h22];exact aSx) (λw h=>h.ent aEt)
  refine aU ?_
  exact Qm () trivial (by rw[hE4,if_neg h22];exact aSx) (λw h=>h.ent aEt)
 intro _ _
 refine aU5 ?_
 exact rT rfl rfl (λw' h'=>⟨ks2,rfl,hks2,h'.ent aEt⟩)
instance:TFn Tryz.prog 301:=⟨by kernel_rfl⟩
theorem QlC:QL Tryz.prog 260=true:=by kernel_rfl
theorem QoW:tsz Tryz.prog 228=some (1,false):=by kernel_rfl
instance:TSz Tryz.prog 228 1 false:=⟨QoW⟩
theorem c301(w:World)(ua:Option Addr)(uc:Nat)(u:List Int)(n:Int)(hu:Rw inV 1 w [] ua u)(hum:u.length<=100000):CR 301 #[.slice ua u.length uc,.int .i64 n] w (.int .i64 (ixI (Qhr u n))):=by
 refine eN2 Tryz.func301 Tryz.ntmps301 ?_
 refine Qaa ?_
 refine Qo (α:=Nat) [4,5,8,9,10,11,12,13,14,15,16,17,18] (λk=>[(8,.int .i64 (k:Int))]) (λ_=>_) (λk=>k<=u.length/\∀i,i<k->(Qhr u n).getD i false=false) (λk=>u.length-k) 0 ⟨Nat.zero_le _,λi h=>absurd h (Nat.not_lt_zero i)⟩ aSx (λw h=>h) (λk hkk=>?_)
 obtain⟨hk1,hk2⟩:=hkk
 refine aU5 ?_
 refine sCd rfl (λh1=>?_) λh1=>?_
 ·have hk:k<u.length:=by omega
  refine Z8 ?_
  refine o_p (Qa rfl rfl rfl QT (k) om om (Rw.some hu om)) rfl (o_q (Qb rfl rfl Y2 ((hu.rdj 0 hk rfl))) rfl (aU2 ?_))
  refine sCd rfl (λh2=>?_) λh2=>?_
  ·have hq9:n=u.getD k 0:=h2
   have e:=QdC (l:=Qhr u n) (k:=k) (by rw[QcO];omega) hk2 (λ_=>by rw[Qjx hk];exact decide_eq_true hq9)
   refine aU5 ?_
   exact rV (h:=by simp only[Qt,ixI,e,QcO];rw[if_pos hk])
  have hq9:¬n=u.getD k 0:=h2
  refine aT4 ?_
  refine aU2 ?_
  exact Qv (k+1) om ⟨om,λi hi=>(Nat.lt_or_ge i k).elim (hk2 i) (λh=>by obtain rfl:i=k:=om;rw[Qjx hk];exact decide_eq_false hq9)⟩ aSx (λw h=>h)
 obtain rfl:k=u.length:=om
 refine Qg rfl ?_
 refine aU4 ?_
 exact rV (h:=by have e:=QdC (l:=Qhr u n) (k:=u.length) (by rw[QcO];omega) hk2 (λh=>by rw[QcO]at h;omega);simp only[Qt,ixI,e,QcO];rw[if_neg om])
theorem c263(w:World)(ua:Option Addr)(uc:Nat)(u:List Int)(n:Int)(hu:Rw inV 1 w [] ua u)(hum:u.length<=100000):CR 263 #[.slice ua u.length uc,.int .i64 n] w (.bool (decide (n∈u))):=by
 refine eN2 Tryz.func263 Tryz.ntmps263 ?_
 refine aU8 ?_
 refine oCq rfl (λw1 h1=>c301 w1 ua uc u n (hu.later h1) hum) (aU3 ?_)
 exact rV (h:=by rw[<-Qp7,<-Qmp];rfl)
def WkC(S:Type)(I:S->Prop)(C:S->HA)(st:S->Vis->S)(er:S->Vis->Int×Int)(q:Nat)(cv:Array Value)(bt:Nat)(j:Nat)(mo rm:Int)(a:Option Addr)(cap:Nat)(L:List LNd)(f:Nat):Prop:=∀(w:World)(s:S)(v:Vis)(pl ph:Option Addr)(P:List Nat),(HS w (fps [C s]) [C s] w)->(QL Tryz.prog q=true)->(∀s1 s2:S,(C s1).fp=(C s2).fp)->(∀s2 v2,I s2->I (st s2 v2))->(I s)->(∀(s2:S)(v2:Vis)(p2 p3:Option Addr)(w1:World),HS w (fps [C s]) [C s2] w1->I s2->v2.i<L.length->KOk (j:Int) v2.lo->KOk (j:Int) v2.hi->QaI w1 (fps [C s2]) p2 v2.lo->QaI w1 (fps [C s2]) p3 v2.hi->Calls Tryz.prog q (#[]++[.int .i64 (v2.i:Int),.int .i64 v2.d,.pointer p2,.pointer p3].toArray++cv) w1 λen w2=>∃g:Unit,en=.returned (.tuple #[.int .i64 (er s2 v2).1,.int .i64 (er s2 v2).2])/\True/\HS w1 (fps [C s2]) [C (st s2 v2)] w2)->(TbR w (fps [C s]) bt (j:Int) mo rm a L.length cap)->(Nt w (fps [C s]) a L)->(TOk (j:Int) (pln L))->(Bd (pln L))->(QaI w (fps [C s]) pl v.lo)->(QaI w (fps [C s]) ph v.hi)->(0<L.length)->(Gx.Way (pln L) (v.i::P))->(P.length+f=L.length)->(v.d=(P.length:Int)+1)->(KOk (j:Int) v.lo)->(KOk (j:Int) v.hi)->Calls Tryz.prog 260 #[.pointer (some ⟨bt,0,none⟩),.int .i64 (v.i:Int),.int .i64 v.d,.pointer pl,.pointer ph,.func (.func q) #[] cv] w λen w'=>∃g:Unit,en=.returned (.tuple #[.int .i64 (Xw st er s (vis (pln L) f v)).1.1,.int .i64 (Xw st er s (vis (pln L) f v)).1.2])/\True/\HS w (fps [C s]) [C (Xw st er s (vis (pln L) f v)).2] w'
theorem Qxf(w:World)(S:Type)(I:S->Prop)(C:S->HA)(st:S->Vis->S)(er:S->Vis->Int×Int)(q:Nat)(cv:Array Value)(bt:Nat)(j:Nat)(mo rm:Int)(a:Option Addr)(cap:Nat)(L:List LNd)(s:S)(v:Vis)(pl ph:Option Addr)(P:List Nat)(f:Nat)(hw:HS w (fps [C s]) [C s] w)(hq:QL Tryz.prog q=true)(hfp:∀s1 s2:S,(C s1).fp=(C s2).fp)(hI:∀s2 v2,I s2->I (st s2 v2))(hIs:I s)(hv:∀(s2:S)(v2:Vis)(p2 p3:Option Addr)(w1:World),HS w (fps [C s]) [C s2] w1->I s2->v2.i<L.length->KOk (j:Int) v2.lo->KOk (j:Int) v2.hi->QaI w1 (fps [C s2]) p2 v2.lo->QaI w1 (fps [C s2]) p3 v2.hi->Calls Tryz.prog q (#[]++[.int .i64 (v2.i:Int),.int .i64 v2.d,.pointer p2,.pointer p3].toArray++cv) w1 λen w2=>∃g:Unit,en=.returned (.tuple #[.int .i64 (er s2 v2).1,.int .i64 (er s2 v2).2])/\True/\HS w1 (fps [C s2]) [C (st s2 v2)] w2)(ht:TbR w (fps [C s]) bt (j:Int) mo rm a L.length cap)(hs:Nt w (fps [C s]) a L)(hT:TOk (j:Int) (pln L))(hB:Bd (pln L))(hpl:QaI w (fps [C s]) pl v.lo)(hph:QaI w (fps [C s]) ph v.hi)(h0:0<L.length)(hway:Gx.Way (pln L) (v.i::P))(hf:P.length+(f+1)=L.length)(hd:v.d=(P.length:Int)+1)(hko:KOk (j:Int) v.lo)(hkp:KOk (j:Int) v.hi)(ih:WkC S I C st er q cv bt j mo rm a cap L f):CE 260 #[.pointer (some ⟨bt,0,none⟩),.int .i64 (v.i:Int),.int .i64 v.d,.pointer pl,.pointer ph,.func (.func q) #[] cv] w (fps [C s]) (λg:Unit=>.tuple #[.int .i64 (Xw st er s (vis (pln L) (f+1) v)).1.1,.int .i64 (Xw st er s (vis (pln L) (f+1) v)).1.2]) (λg=>True) λg=>[C (Xw st er s (vis (pln L) (f+1) v)).2]:=by
 have hi0:=Qa3 hT (by rw[Qd];exact h0) hway v.i (List.mem_cons_self ..)
 have hi:v.i<L.length:=by rw[Qd]at hi0;exact hi0
 have hn:=QJ hi
 have hle:=hB.len
 rw[Qd]at hle
 have hel:=hB.es v.i hi0
 have hcl:=hB.cs v.i hi0
 rw[hn]at hel hcl
 simp only[LNd.pl]at hel hcl
 have hsh:=hT.shape v.i hi0
 rw[hn]at hsh
 simp only[LNd.pl]at hsh
 refine eW6 Tryz.func260 Tryz.ntmps260 hw ?_
 refine Z8 ?_
 refine o_h (QkO (Cs:=[C s]) rfl rfl hq rfl aPs (λw1 h1 hf9=>hv s v pl ph w1 (h1.ent aEt) hIs hi hko hkp ((hpl.keep h1).mono (Q2 aPs)) ((hph.keep h1).mono (Q2 aPs)))) rfl (λ_ _=>Qas ?_)
 refine sCd rfl (λh1=>?_) λh1=>?_
 ·have hz:Xw st er s (vis (pln L) (f+1) v)=(er s v,st s v):=by rw[vis,Xw,if_neg h1]
  refine aU7 ?_
  exact Qj (rs:=[.tmp 12,.tmp 13]) rfl (.tmp rfl (.tmp rfl (.nil))) (λw' h'=>⟨(),by rw[hz];rfl,trivial,by rw[hz];exact h'.ent aEt⟩)
 have hz0:Xw st er s [v]=((0,0),st s v):=by rw[Xw,if_pos h1,Xw]
 refine aU7 ?_
 refine o_q (Qb rfl rfl Qat (ht 3 _ rfl)) rfl (aU ?_)
 refine o_p (Qa rfl rfl rfl Xl (v.i) om om (Rw.some hs.1 om)) rfl (o_q (Qn _ rfl rfl ZY rfl (Rw.rd hs.1 hi)) rfl (oAl (λb2 _=>?_) YV))
 refine aU4 ?_
 refine Qe (L':=[(0,_),(2,_),(3,_),(4,_),(5,_),(12,_),(13,_),(16,_)]) aSx (λ_ h=>h) ?_
 refine aU7 ?_
 refine Qo (α:=Nat×S) [12,13,17,18,19,20,21,22,47,48,49,50,51,52,53,54,55,56,57,58,59,60,61,62,63,64,65,66,67,68,69,70,71,72,73,74,75,76,77,78,79,80,81,82,83,84,85,86,87] (λx=>[(47,.int .i64 (x.1:Int))]) (λx=>HS w (fps [C s]) [.blk b2 127 3 (nth L v.i).vals,C x.2]) (λx=>x.1<=(nth L v.i).cs.length/\(Xw st er s (Qbe (pln L) f v x.1)).1.2=0/\(Xw st er s (Qbe (pln L) f v x.1)).2=x.2) (λx=>(nth L v.i).cs.length-x.1) (0,st s v) ⟨Nat.zero_le _,by rw[QlG,hz0],by rw[QlG,hz0]⟩ aSx (λw h=>h.ent aEt) (λ⟨k,sk⟩hx=>?_)
 dsimp only
 obtain⟨hk1,hk2,hk3⟩:=hx
 simp only[]at hk1 hk2 hk3
 refine aU5 ?_
 refine sCd rfl (λh3=>?_) λh3=>?_
 ·have hkl:k<(nth L v.i).cs.length:=by omega
  have hkid:=Qdv hT hi0 (k:=k) (by rw[hn];exact hkl)
  have hwk:=QbJ hway hi0 (k:=k) (by rw[hn];exact hkl) om
  have hki:((XF (pln L) v k).i:Int)=(nth L v.i).cs.getD k 0:=by unfold XF;rw[hn]at hkid ⊢;simp only[LNd.pl]at hkid ⊢;rw[Int.toNat_of_nonneg om]
  rw[Qd]at hkid
  refine aU6 ?_
  refine o_p (Qa rfl rfl rfl QT (k) om om (Rw.some (hs.cs hi) om)) rfl (o_q (Qb rfl rfl Y2 (((hs.cs hi).rdj 0 (i:=k) hkl rfl))) rfl (aU2 ?_))
  refine Qs (show _=Value.int .i64 ((XF (pln L) v k).i:Int)from by rw[hki];rfl) (Qhm ?_)
  refine XG (α:=Option Addr) [19,56,57,58,59,60,61] (λp=>[(19,.pointer p)]) (λ_=>HS w (fps [C s]) [.blk b2 127 3 (nth L v.i).vals,C sk]) (λp=>QaI w (fps [C s]) p (loK (nth L v.i).es k v.lo)) ?_ ?_
  ·skip
   refine sCd rfl (λh4=>?_) λh4=>?_
   ·refine aT5 ?_
    refine o_p (Qa rfl rfl rfl QD (k-1) om om (Rw.some (hs.es hi) om)) rfl (aU3 ?_)
    exact Qm (some ⟨ab (nth L v.i).ea,ao (nth L v.i).ea+(k-1)*2,none⟩) (by rw[show loK (nth L v.i).es k v.lo=some (nth (nth L v.i).es (k-1)).key from if_pos om];exact⟨_,_,rfl,((hs.es hi).rdj 0 om rfl)⟩) aSx (λw h=>h.ent aEt)
   refine aU ?_
   exact Qm pl (by rw[show loK (nth L v.i).es k v.lo=v.lo from if_neg om];exact hpl) aSx (λw h=>h.ent aEt)
  intro p1 hp1
  refine aU9 ?_
  refine Qe (L':=[(0,_),(2,_),(3,_),(4,_),(5,_),(16,_),(17,_),(18,_),(19,_),(20,_),(44,_),(45,_),(46,_),(47,_),(66,_)]) aSx (λ_ h=>h) ?_
  refine XG (α:=Option Addr) [20,67,68,69,70,71] (λp=>[(20,.pointer p)]) (λ_=>HS w (fps [C s]) [.blk b2 127 3 (nth L v.i).vals,C sk]) (λp=>QaI w (fps [C s]) p (hiK (nth L v.i).es k v.hi)) ?_ ?_
  ·skip
   refine sCd rfl (λh5=>?_) λh5=>?_
   ·refine aU4 ?_
    refine o_p (Qa rfl rfl rfl QD (k) om om (Rw.some (hs.es hi) om)) rfl (aU3 ?_)
    exact Qm (some ⟨ab (nth L v.i).ea,ao (nth L v.i).ea+k*2,none⟩) (by rw[show hiK (nth L v.i).es k v.hi=some (nth (nth L v.i).es k).key from if_pos om];exact⟨_,_,rfl,((hs.es hi).rdj 0 om rfl)⟩) aSx (λw h=>h.ent aEt)
   refine aU ?_
   exact Qm ph (by rw[show hiK (nth L v.i).es k v.hi=v.hi from if_neg om];exact hph) aSx (λw h=>h.ent aEt)
  intro p2 hp2
  refine aT6 ?_
  refine aU3 ?_
  refine o_h (Xy (Cs:=[C sk]) rfl QlC rfl aPs (λw1 h1 hf9=>ih w1 sk (XF (pln L) v k) p1 p2 (v.i::P) hf9 hq hfp hI (hk3▸Qjz hI _ _ hIs) (λs2 v2 p3 p4 w2 h2 hs2 hi2 ha2 hb2 hp3 hp4=>hv s2 v2 p3 p4 w2 (HS.thenF (h1.ent (Bs:=[C sk]) aEt) h2) hs2 hi2 ha2 hb2 hp3 hp4) ((ht.keep h1).mono (Q2 aPs)) ((hs.keep h1).mono (Q2 aPs)) hT hB (by unfold XF;rw[hn];exact(hp1.keep h1).mono (Q2 aPs)) (by unfold XF;rw[hn];exact(hp2.keep h1).mono (Q2 aPs)) h0 hwk (by simp only[List.length_cons];omega) (by show v.d+1=_;simp only[List.length_cons];omega) (QgH hT hi0 (by rw[hn];simp only[LNd.pl];omega) hko) (Qgb hT hi0 hkp))) rfl (λ_ _=>Qas ?_)
  refine sCd rfl (λh6=>?_) λh6=>?_
  ·have e9:Xw st er s (Qbe (pln L) f v k++vis (pln L) f (XF (pln L) v k))=Xw st er sk (vis (pln L) f (XF (pln L) v k)):=by rw[Qmu _ _ hk2,hk3]
   have hz:Xw st er s (vis (pln L) (f+1) v)=Xw st er sk (vis (pln L) f (XF (pln L) v k)):=by rw[Y6,hn];simp only[LNd.pl];obtain⟨B,eB⟩:=Qa5 (pln L) f v (show k+1<=(nth L v.i).cs.length by omega);rw[eB,XW,QpW _ _ (by rw[e9];exact h6),e9]
   refine aU ?_
   refine Qe (L':=[(0,_),(2,_),(3,_),(4,_),(5,_),(16,_),(21,_),(22,_),(44,_),(45,_),(46,_),(47,_)]) aSx (λ_ h=>h) ?_
   refine aU6 ?_
   exact Qj (rs:=[.tmp 12,.tmp 13]) rfl (.tmp rfl (.tmp rfl (.nil))) (λw' h'=>⟨(),by rw[hz];rfl,trivial,by rw[hz];exact h'.ent aEt⟩)
  have hz:Xw st er s (Qbe (pln L) f v (k+1))=Xw st er sk (vis (pln L) f (XF (pln L) v k)):=by rw[XW,Qmu _ _ hk2,hk3]
  refine aU2 ?_
  refine Qe (L':=[(0,_),(2,_),(3,_),(4,_),(5,_),(16,_),(44,_),(45,_),(46,_),(47,_)]) aSx (λ_ h=>h) ?_
  refine aT2 ?_
  refine aU2 ?_
  exact sBk (k+1,(Xw st er sk (vis (pln L) f (XF (pln L) v k))).2) (by(try simp only[]);omega) ⟨by(try simp only[]);omega,by simp only[];rw[hz];exact h6,by simp only[];rw[hz]⟩
 refine Qg rfl ?_
 refine aU5 ?_
 exact Qj (rs:=[.tmp 12,.tmp 13]) rfl (.tmp rfl (.tmp rfl (.nil))) (λw' h'=>⟨(),by have hke:k=(nth L v.i).cs.length:=om;rw[Y6,hn];simp only[LNd.pl];rw[<-hke,Qpv _ _ hk2];rfl,trivial,by have hke:k=(nth L v.i).cs.length:=om;rw[Y6,hn];simp only[LNd.pl];rw[<-hke,hk3];exact h'.ent aEt⟩)
theorem Qk5(S:Type)(I:S->Prop)(C:S->HA)(st:S->Vis->S)(er:S->Vis->Int×Int)(q:Nat)(cv:Array Value)(bt:Nat)(j:Nat)(mo rm:Int)(a:Option Addr)(cap:Nat)(L:List LNd):∀f,WkC S I C st er q cv bt j mo rm a cap L f
  | 0=>λw s v pl ph P hw hq hfp hI hIs hv ht hs hT hB hpl hph h0 hway hf hd hko hkp=>by
    have hl:=Yi hT (by rw[Qd];exact h0) hway;rw[Qd]at hl;simp only[List.length_cons]at hl;omega
  | f+1=>λw s v pl ph P hw hq hfp hI hIs hv ht hs hT hB hpl hph h0 hway hf hd hko hkp=>Qxf w S I C st er q cv bt j mo rm a cap L s v pl ph P f hw hq hfp hI hIs hv ht hs hT hB hpl hph h0 hway hf hd hko hkp (Qk5 S I C st er q cv bt j mo rm a cap L f)
theorem c261(w:World)(i:Nat)(d:Int)(pl ph:Option Addr)(c4 bb n:Nat)(s:List Bool)(hw:HS w (fps [.blk bb 4 n (s.map Value.bool)]) [.blk bb 4 n (s.map Value.bool)] w)(hc4:Rd w (fps [.blk bb 4 n (s.map Value.bool)]) c4 0 (.slice (some ⟨bb,0,none⟩) n n))(hi:i<n)(hn:s.length=n):CE 261 #[.int .i64 (i:Int),.int .i64 d,.pointer pl,.pointer ph,.pointer (some ⟨c4,0,none⟩)] w (fps [.blk bb 4 n (s.map Value.bool)]) (λg:Unit=>.tuple #[.int .i64 0,.int .i64 0]) (λg=>True) λg=>[.blk bb 4 n ((s.set i true).map Value.bool)]:=by
 refine eW5 Tryz.func261 Tryz.ntmps261 hw ?_
 refine aU7 ?_
 refine o_q (Qb rfl rfl QoW (hc4)) rfl (aU ?_)
 refine o_p (Qa rfl rfl rfl Yl (i) om om rfl) rfl (Qez (X7 rfl rfl rfl Qb5 rfl aPt (by first|(simp only[List.length_map,List.length_singleton,List.length_cons,List.length_nil];omega)|(simp;omega)) rfl) (λ_ _=>aU6 ?_))
 exact Qj (rs:=[.tmp 9,.tmp 10]) rfl (.tmp rfl (.tmp rfl (.nil))) (λw' h'=>⟨(),rfl,trivial,by have h2:=h';rw[List.map_set];simp only[Qf,Nat.zero_add,Nat.mul_one]at h2;exact h2.ent aEt⟩)
instance:TFn Tryz.prog 263:=⟨by kernel_rfl⟩
theorem Qus:QL Tryz.prog 190=true:=by kernel_rfl
theorem QiC:Qps Tryz.prog 309 9:=Qm3 Tryz.underlying309 YB (by decide)
theorem c262(w:World)(v:Vis)(pl ph:Option Addr)(c1 c7:Nat)(s:Int)(bt:Nat)(j:Nat)(mo rm:Int)(a:Option Addr)(cap:Nat)(L:List LNd)(hw:HS w (fps [.blk c7 3 1 [.int .i64 s]]) [.blk c7 3 1 [.int .i64 s]] w)(hc1:Rd w (fps [.blk c7 3 1 [.int .i64 s]]) c1 0 (.pointer (some ⟨bt,0,none⟩)))(ht:TbR w (fps [.blk c7 3 1 [.int .i64 s]]) bt (j:Int) mo rm a L.length cap)(hs:Nt w (fps [.blk c7 3 1 [.int .i64 s]]) a L)(hj:j<=3)(hmo:0<=mo/\mo<=1000)(hi:v.i<L.length)(hl:L.length<=1000)(hel:(nth L v.i).es.length<=1000)(hcl:(nth L v.i).cs.length<=1000)(hc0:(nth L 0).cs.length<=1000)(he0:(nth L 0).es.length<=1000)(hpl:QaI w (fps [.blk c7 3 1 [.int .i64 s]]) pl v.lo)(hph:QaI w (fps [.blk c7 3 1 [.int .i64 s]]) ph v.hi)(hlo:∀k,v.lo=some k->(QP (j:Int) k=true/\k.length<=1000000))(hhi:∀k,v.hi=some k->(QP (j:Int) k=true/\k.length<=1000000))(hok:∀x∈(nth L v.i).es,QP (j:Int) x.key=true/\x.key.length<=1000000):CE 262 #[.int .i64 (v.i:Int),.int .i64 v.d,.pointer pl,.pointer ph,.pointer (some ⟨c1,0,none⟩),.pointer (some ⟨c7,0,none⟩)] w (fps [.blk c7 3 1 [.int .i64 s]]) (λg:Unit=>.tuple #[.int .i64 (erV (⟨(j:Int),mo,rm,pln L⟩:Tre) s v).1,.int .i64 (erV (⟨(j:Int),mo,rm,pln L⟩:Tre) s v).2]) (λg=>True) λg=>[.blk c7 3 1 [.int .i64 (stV (⟨(j:Int),mo,rm,pln L⟩:Tre) s v)]]:=by
 have h00:0<L.length:=om
 have hn:nth (pln L) v.i=(nth L v.i).pl:=QJ hi
 have hn0:nth (pln L) 0=(nth L 0).pl:=QJ h00
 have hG:ZG (⟨(j:Int),mo,rm,pln L⟩:Tre) v=(decide (0<v.i)&&(decide (((nth L v.i).es.length:Int)<mo/2)||((decide (((nth L 0).es.length:Int)=0)&&decide ((v.i:Int)∈(nth L 0).cs))&&decide (((nth L v.i).es.length:Int)<=rm)))):=by unfold ZG;rw[hn,hn0];simp only[LNd.pl];congr 3;congr 1;apply decide_eq_decide.2;omega
 have hO:Zm (⟨(j:Int),mo,rm,pln L⟩:Tre) v=(nth L v.i).es.any (ZX (⟨(j:Int),mo,rm,pln L⟩:Tre) v):=by unfold Zm;rw[hn];rfl
 have hE:erV (⟨(j:Int),mo,rm,pln L⟩:Tre) s v=((v.i:Int),if ZG (⟨(j:Int),mo,rm,pln L⟩:Tre) v=true then 14 else if Zm (⟨(j:Int),mo,rm,pln L⟩:Tre) v=true then 9 else if(nth L v.i).cs.length=0 then(if(if s=0 then v.d else s)=v.d then 0 else 22)else 0):=by unfold erV;rw[hn];rfl
 have hS:stV (⟨(j:Int),mo,rm,pln L⟩:Tre) s v=if ZG (⟨(j:Int),mo,rm,pln L⟩:Tre) v=true then s else if Zm (⟨(j:Int),mo,rm,pln L⟩:Tre) v=true then s else if(nth L v.i).cs.length=0 then(if s=0 then v.d else s)else s:=by unfold stV;rw[hn];rfl
 refine eW6 Tryz.func262 Tryz.ntmps262 hw ?_
 refine aU7 ?_
 refine o_q (Qb rfl rfl Zr (hc1)) rfl (aU3 ?_)
 refine o_q (Qb rfl rfl Qat (ht 3 _ rfl)) rfl (aU ?_)
 refine o_p (Qa rfl rfl rfl Xl (v.i) om om (Rw.some hs.1 om)) rfl (o_q (Qn _ rfl rfl ZY rfl (Rw.rd hs.1 hi)) rfl (oAl (λb1 _=>?_) YV))
 refine aU5 ?_
 refine o_q (Qb rfl rfl Zr (hc1)) rfl (aU3 ?_)
 refine o_q (Qb rfl rfl Qat (ht 3 _ rfl)) rfl (o_p (Qa rfl rfl rfl Xl (0) om om (Rw.some hs.1 om)) rfl (o_q (Qn _ rfl rfl ZY rfl (Rw.rd hs.1 (i:=0) h00)) rfl (oAl (λb2 _=>?_) YV)))
 refine aU7 ?_
 refine Qe (L':=[(0,_),(1,_),(2,_),(3,_),(4,_),(5,_),(10,_),(11,_),(12,_),(13,_),(33,_)]) aSx (λ_ h=>h) ?_
 refine XG (α:=Unit) [10,11,14,34,35,36,37,38,39,40,41,42,43,44,45,46,47,48,49,50,51,52,53,54,55,56,57,58,59,60,61,62,63,64] (λ_=>[]) (λ_=>HS w (fps [.blk c7 3 1 [.int .i64 s]]) [.blk b2 127 3 (nth L 0).vals,.blk b1 127 3 (nth L v.i).vals,.blk c7 3 1 [.int .i64 s]]) (λ_=>ZG (⟨(j:Int),mo,rm,pln L⟩:Tre) v=false) ?_ ?_
 ·skip
  refine sCd rfl (λh3=>?_) λh3=>?_
  ·refine aU7 ?_
   refine Xs 5 38 43 rfl
    (λhg4 _=>by
     refine aU7 ?_
     refine oCq rfl (λw1 h1=>c263 w1 (nth L 0).ca (nth L 0).cc (nth L 0).cs (v.i:Int) ((hs.cs h00).later h1) om) ?_
     exact oJt 5 43)
    (λhg6 _=>by
     refine aU4 ?_
     exact oJf 5 43) ?_
   refine aU3 ?_
   refine XG (α:=Unit) [44,45,46,47,48,49,50,51,52,53,54,55,56,57,58,59,60,61,62,63] (λ_=>[(63,.bool (decide (((nth L v.i).es.length:Int)<mo/2)||((decide (((nth L 0).es.length:Int)=0)&&decide ((v.i:Int)∈(nth L 0).cs))&&decide (((nth L v.i).es.length:Int)<=rm))))]) (λ_=>HS w (fps [.blk c7 3 1 [.int .i64 s]]) [.blk b2 127 3 (nth L 0).vals,.blk b1 127 3 (nth L v.i).vals,.blk c7 3 1 [.int .i64 s]]) (λ_=>True) ?_ ?_
   ·skip
    refine QG [] mixed ?_
    refine dFa 0 ?_
    refine dLd 1 [] ?_
    refine dV 2 rfl (QR rfl rfl Tryz.underlying124) (dQ 3 [] rfl (Qb rfl rfl Zr (hc1)) (dQ 4 [] rfl (Qz rfl Qus rfl (λw1 h1=>c190 w1 bt j mo rm a L.length cap hmo (ht.next h1))) (dP 5 ?_)))
    refine dP 6 ?_
    apply QE 50
    ·exact rfl
    ·intro hg8
     have hs9:=hg8;try simp only[dT]at hs9
     refine dOf 7 50 hg8 ?_
     refine dOf 8 50 hg8 ?_
     refine dOu 9 52 ?_
     refine dOu 10 52 ?_
     refine dOu 11 52 ?_
     refine dOu 12 52 ?_
     refine dOu 13 52 ?_
     refine dOu 14 52 ?_
     refine dOu 15 52 ?_
     refine dOu 16 52 ?_
     refine dOu 17 52 ?_
     refine dOf 18 50 hg8 ?_
     refine dV 19 rfl (QF rfl rfl hg8 rfl) (QK (show _=Value.bool (decide (((nth L v.i).es.length:Int)<mo/2)||((decide (((nth L 0).es.length:Int)=0)&&decide ((v.i:Int)∈(nth L 0).cs))&&decide (((nth L v.i).es.length:Int)<=rm)))from by congr 1;first|(simp_all;done)|(simp_all;omega)) (dNi ?_))
     exact Qm () trivial aSx (λw h=>h.ent aEt)
    intro hg10
    have hs11:=hg10;try simp only[dN]at hs11
    refine dPo 7 50 hg10 ?_
    refine dPo 8 50 hg10 ?_
    apply QE 52
    ·exact rfl
    ·intro hg12
     have hs13:=hg12;try simp only[Bool.and_eq_true,decide_eq_true_eq]at hs13
     refine dFo 9 52 hg12 ?_
     refine dQo 10 52 [] hg12 rfl rfl rfl (YN rfl rfl Zx aPk rfl) ?_
     refine dVo 11 52 hg12 rfl rfl rfl (QR rfl rfl Tryz.underlying124) ?_
     refine dQo 12 52 [] hg12 rfl rfl rfl (Qb rfl rfl Zr (hc1)) ?_
     refine dPo 13 52 hg12 ?_
     refine dFo 14 52 hg12 ?_
     refine dFo 15 52 hg12 ?_
     refine dQo 16 52 [] hg12 rfl rfl rfl (Qb rfl rfl Y2 (ht 2 _ rfl)) ?_
     refine dPo 17 52 hg12 ?_
     refine dVo 18 50 hg10 rfl rfl rfl (QF rfl rfl hg12 rfl) ?_
     refine dV 19 rfl (Qx rfl rfl hg10 rfl) (QK (show _=Value.bool (decide (((nth L v.i).es.length:Int)<mo/2)||((decide (((nth L 0).es.length:Int)=0)&&decide ((v.i:Int)∈(nth L 0).cs))&&decide (((nth L v.i).es.length:Int)<=rm)))from by congr 1;first|(simp_all;done)|(simp_all;omega)) (dNi ?_))
     exact Qm () trivial aSx (λw h=>h.ent aEt)
    intro hg14
    have hs15:=hg14;try simp only[Bool.and_eq_false_iff,decide_eq_false_iff_not]at hs15
    refine dOf 9 52 hg14 ?_
    refine dOf 10 52 hg14 ?_
    refine dOf 11 52 hg14 ?_
    refine dOf 12 52 hg14 ?_
    refine dOf 13 52 hg14 ?_
    refine dOf 14 52 hg14 ?_
    refine dOf 15 52 hg14 ?_
    refine dOf 16 52 hg14 ?_
    refine dOf 17 52 hg14 ?_
    refine dVo 18 50 hg10 rfl rfl rfl (Qx rfl rfl hg14 rfl) ?_
    refine dV 19 rfl (Qx rfl rfl hg10 rfl) (QK (show _=Value.bool (decide (((nth L v.i).es.length:Int)<mo/2)||((decide (((nth L 0).es.length:Int)=0)&&decide ((v.i:Int)∈(nth L 0).cs))&&decide (((nth L v.i).es.length:Int)<=rm)))from by congr 1;first|(simp_all;done)|(simp_all;omega)) (dNi ?_))
    exact Qm () trivial aSx (λw h=>h.ent aEt)
   intro _ _
   refine sCd rfl (λh16=>?_) λh16=>?_
   ·have hz:ZG (⟨(j:Int),mo,rm,pln L⟩:Tre) v=true:=by rw[hG];have hq:=h16;simp only[Bool.and_eq_true,Bool.or_eq_true,decide_eq_true_eq];exact⟨om,hq⟩
    refine aU6 ?_
    exact Qj (rs:=[.tmp 10,.tmp 11]) rfl (.tmp rfl (.tmp rfl (.nil))) (λw' h'=>⟨(),by rw[hE];simp only[];rw[if_pos hz];rfl,trivial,by rw[hS,if_pos hz];exact h'.ent aEt⟩)
   refine aU ?_
   exact Qm () (by rw[hG,decide_eq_true om,Bool.true_and];apply Bool.eq_false_iff.2;intro h9;simp only[Bool.and_eq_true,Bool.or_eq_true,decide_eq_true_eq]at h9;have hq:=h16;simp at hq h9;grind) aSx (λw h=>h.ent aEt)
  refine aU ?_
  exact Qm () (by rw[hG,decide_eq_false om];rfl) aSx (λw h=>h.ent aEt)
 intro _ hz1
 refine aU9 ?_
 refine Qo (α:=Nat) [10,11,16,68,69,70,71,72,73,74,75,76,77,78,79,80,81,82,83,84,85,86,87,88,89,90,91,92,93,94,95,96,97,98,99,100,101,102,103,104,105,106,107] (λk=>[(68,.int .i64 (k:Int))]) (λ_=>HS w (fps [.blk c7 3 1 [.int .i64 s]]) [.blk b2 127 3 (nth L 0).vals,.blk b1 127 3 (nth L v.i).vals,.blk c7 3 1 [.int .i64 s]]) (λk=>k<=(nth L v.i).es.length/\∀i,i<k->ZX (⟨(j:Int),mo,rm,pln L⟩:Tre) v (nth (nth L v.i).es i)=false) (λk=>(nth L v.i).es.length-k) 0 ⟨Nat.zero_le _,λi h=>absurd h (Nat.not_lt_zero i)⟩ aSx (λw h=>h.ent aEt) (λk hx=>?_)
 obtain⟨hk1,hk2⟩:=hx
 refine aU5 ?_
 refine sCd rfl (λh17=>?_) λh17=>?_
 ·have hkl:k<(nth L v.i).es.length:=by omega
  refine aU5 ?_
  refine o_p (Qa rfl rfl rfl QD (k) om om (Rw.some (hs.es hi) om)) rfl (o_q (Qn _ rfl rfl ZT rfl (Rw.rd (hs.es hi) (i:=k) hkl)) rfl (oAl (λb18 _=>?_) YD))
  refine aU3 ?_
  refine XG (α:=Unit) [72,73,74,75,76,77,78,79,80,81,82,83,84,85,86,87,88,89,90,91,92,93,94,95,96,97,98,99,100,101,102,103,104,105] (λ_=>[(105,.bool (ZX (⟨(j:Int),mo,rm,pln L⟩:Tre) v (nth (nth L v.i).es k)))]) (λ_=>HS w (fps [.blk c7 3 1 [.int .i64 s]]) [.blk b2 127 3 (nth L 0).vals,.blk b1 127 3 (nth L v.i).vals,.blk c7 3 1 [.int .i64 s]]) (λ_=>True) ?_ ?_
  ·skip
   refine QG [] mixed ?_
   refine dP 0 ?_
   refine dV 1 rfl (QcG rfl rfl rfl QiC) (dP 2 ?_)
   apply QE 74
   ·exact rfl
   ·intro hg19
    have hs20:=hg19;skip
    refine dQo 3 74 [] hg19 rfl rfl rfl (Qb rfl rfl Zr (hc1)) ?_
    obtain⟨k9,b9,o9,hlo9,rfl,hr9⟩:=hpl.of_some hg19
    refine dPo 4 74 hg19 ?_
    refine dFo 5 74 hg19 ?_
    refine dFo 6 74 hg19 ?_
    refine dQo 7 74 [] hg19 rfl rfl rfl (Qb rfl rfl QeZ (ht 5 _ rfl)) ?_
    refine dPo 8 74 hg19 ?_
    refine dPo 9 74 hg19 ?_
    refine dQo 10 74 [] hg19 rfl rfl rfl (Qb rfl rfl YB (hr9)) ?_
    refine dFo 11 74 hg19 ?_
    refine dQo 12 74 [] hg19 rfl rfl rfl (YN rfl rfl YB aPk rfl) ?_
    refine dQo 13 74 [] hg19 rfl rfl rfl (Yh rfl rfl (Qg4 _) rfl (λw1 h1=>Qbm w1 j k9 (nth (nth L v.i).es k).key hj (hlo _ hlo9).1 (hok _ (Qq hkl)).1 (hlo _ hlo9).2 (hok _ (Qq hkl)).2)) ?_
    refine dPo 14 74 hg19 ?_
    refine dV 15 rfl (QF rfl rfl hg19 rfl) (QK (show _=Value.bool (v.lo.any λb=>decide (0<=QC (j:Int) b (nth (nth L v.i).es k).key))from by congr 1;first|(rw[hlo9];rfl)|(rw[hpl.of_none hg19];rfl)) (dP 16 ?_))
    apply QE 88
    ·exact rfl
    ·intro hg21
     have hs22:=hg21;skip
     refine dOf 17 88 hg21 ?_
     refine dOf 18 88 hg21 ?_
     refine dOf 19 88 hg21 ?_
     refine dOu 20 91 ?_
     refine dOu 21 91 ?_
     refine dOu 22 91 ?_
     refine dOu 23 91 ?_
     refine dOu 24 91 ?_
     refine dOu 25 91 ?_
     refine dOu 26 91 ?_
     refine dOu 27 91 ?_
     refine dOu 28 91 ?_
     refine dOu 29 91 ?_
     refine dOu 30 91 ?_
     refine dOu 31 91 ?_
     refine dOf 32 88 hg21 ?_
     refine dV 33 rfl (QF rfl rfl hg21 rfl) (QK (show _=Value.bool (ZX (⟨(j:Int),mo,rm,pln L⟩:Tre) v (nth (nth L v.i).es k))from by congr 1;show _=((v.lo.any λb=>decide (0<=QC (j:Int) b (nth (nth L v.i).es k).key))||(v.hi.any λb=>decide (0<=QC (j:Int) (nth (nth L v.i).es k).key b)));first|(rw[show(v.lo.any λb=>decide (0<=QC (j:Int) b (nth (nth L v.i).es k).key))=true by assumption];rfl)|(rw[show(v.lo.any λb=>decide (0<=QC (j:Int) b (nth (nth L v.i).es k).key))=false by assumption];rfl)) (dNi ?_))
     exact Qm () trivial aSx (λw h=>h.ent aEt)
    intro hg23
    have hs24:=hg23;skip
    refine dPo 17 88 hg23 ?_
    refine dVo 18 88 hg23 rfl rfl rfl (QcG rfl rfl rfl QiC) ?_
    refine dPo 19 88 hg23 ?_
    apply QE 91
    ·exact rfl
    ·intro hg25
     have hs26:=hg25;skip
     refine dQo 20 91 [] hg25 rfl rfl rfl (Qb rfl rfl Zr (hc1)) ?_
     obtain⟨k8,b8,o8,hhi8,rfl,hr8⟩:=hph.of_some hg25
     refine dPo 21 91 hg25 ?_
     refine dFo 22 91 hg25 ?_
     refine dFo 23 91 hg25 ?_
     refine dQo 24 91 [] hg25 rfl rfl rfl (Qb rfl rfl QeZ (ht 5 _ rfl)) ?_
     refine dFo 25 91 hg25 ?_
     refine dQo 26 91 [] hg25 rfl rfl rfl (YN rfl rfl YB aPk rfl) ?_
     refine dPo 27 91 hg25 ?_
     refine dPo 28 91 hg25 ?_
     refine dQo 29 91 [] hg25 rfl rfl rfl (Qb rfl rfl YB (hr8)) ?_
     refine dQo 30 91 [] hg25 rfl rfl rfl (Yh rfl rfl (Qg4 _) rfl (λw1 h1=>Qbm w1 j (nth (nth L v.i).es k).key k8 hj (hok _ (Qq hkl)).1 (hhi _ hhi8).1 (hok _ (Qq hkl)).2 (hhi _ hhi8).2)) ?_
     refine dPo 31 91 hg25 ?_
     refine dVo 32 88 hg23 rfl rfl rfl (QF rfl rfl hg25 rfl) ?_
     refine QK (show _=Value.bool (v.hi.any λb=>decide (0<=QC (j:Int) (nth (nth L v.i).es k).key b))from by congr 1;first|(rw[hhi8];rfl)|(rw[hph.of_none hg25];rfl)) (dV 33 rfl (Qx rfl rfl hg23 rfl) (QK (show _=Value.bool (ZX (⟨(j:Int),mo,rm,pln L⟩:Tre) v (nth (nth L v.i).es k))from by congr 1;show _=((v.lo.any λb=>decide (0<=QC (j:Int) b (nth (nth L v.i).es k).key))||(v.hi.any λb=>decide (0<=QC (j:Int) (nth (nth L v.i).es k).key b)));first|(rw[show(v.lo.any λb=>decide (0<=QC (j:Int) b (nth (nth L v.i).es k).key))=true by assumption];rfl)|(rw[show(v.lo.any λb=>decide (0<=QC (j:Int) b (nth (nth L v.i).es k).key))=false by assumption];rfl)) (dNi ?_)))
     exact Qm () trivial aSx (λw h=>h.ent aEt)
    intro hg27
    have hs28:=hg27;skip
    refine dOf 20 91 hg27 ?_
    refine dOf 21 91 hg27 ?_
    refine dOf 22 91 hg27 ?_
    refine dOf 23 91 hg27 ?_
    refine dOf 24 91 hg27 ?_
    refine dOf 25 91 hg27 ?_
    refine dOf 26 91 hg27 ?_
    refine dOf 27 91 hg27 ?_
    refine dOf 28 91 hg27 ?_
    refine dOf 29 91 hg27 ?_
    refine dOf 30 91 hg27 ?_
    refine dOf 31 91 hg27 ?_
    refine dVo 32 88 hg23 rfl rfl rfl (Qx rfl rfl hg27 rfl) ?_
    refine QK (show _=Value.bool (v.hi.any λb=>decide (0<=QC (j:Int) (nth (nth L v.i).es k).key b))from by congr 1;first|(rw[hhi8];rfl)|(rw[hph.of_none hg27];rfl)) (dV 33 rfl (Qx rfl rfl hg23 rfl) (QK (show _=Value.bool (ZX (⟨(j:Int),mo,rm,pln L⟩:Tre) v (nth (nth L v.i).es k))from by congr 1;show _=((v.lo.any λb=>decide (0<=QC (j:Int) b (nth (nth L v.i).es k).key))||(v.hi.any λb=>decide (0<=QC (j:Int) (nth (nth L v.i).es k).key b)));first|(rw[show(v.lo.any λb=>decide (0<=QC (j:Int) b (nth (nth L v.i).es k).key))=true by assumption];rfl)|(rw[show(v.lo.any λb=>decide (0<=QC (j:Int) b (nth (nth L v.i).es k).key))=false by assumption];rfl)) (dNi ?_)))
    exact Qm () trivial aSx (λw h=>h.ent aEt)
   intro hg29
   have hs30:=hg29;skip
   refine dOf 3 74 hg29 ?_
   refine dOf 4 74 hg29 ?_
   refine dOf 5 74 hg29 ?_
   refine dOf 6 74 hg29 ?_
   refine dOf 7 74 hg29 ?_
   refine dOf 8 74 hg29 ?_
   refine dOf 9 74 hg29 ?_
   refine dOf 10 74 hg29 ?_
   refine dOf 11 74 hg29 ?_
   refine dOf 12 74 hg29 ?_
   refine dOf 13 74 hg29 ?_
   refine dOf 14 74 hg29 ?_
   refine dV 15 rfl (Qx rfl rfl hg29 rfl) (QK (show _=Value.bool (v.lo.any λb=>decide (0<=QC (j:Int) b (nth (nth L v.i).es k).key))from by congr 1;first|(rw[hlo9];rfl)|(rw[hpl.of_none hg29];rfl)) (dP 16 ?_))
   apply QE 88
   ·exact rfl
   ·intro hg31
    have hs32:=hg31;skip
    refine dOf 17 88 hg31 ?_
    refine dOf 18 88 hg31 ?_
    refine dOf 19 88 hg31 ?_
    refine dOu 20 91 ?_
    refine dOu 21 91 ?_
    refine dOu 22 91 ?_
    refine dOu 23 91 ?_
    refine dOu 24 91 ?_
    refine dOu 25 91 ?_
    refine dOu 26 91 ?_
    refine dOu 27 91 ?_
    refine dOu 28 91 ?_
    refine dOu 29 91 ?_
    refine dOu 30 91 ?_
    refine dOu 31 91 ?_
    refine dOf 32 88 hg31 ?_
    refine dV 33 rfl (QF rfl rfl hg31 rfl) (QK (show _=Value.bool (ZX (⟨(j:Int),mo,rm,pln L⟩:Tre) v (nth (nth L v.i).es k))from by congr 1;show _=((v.lo.any λb=>decide (0<=QC (j:Int) b (nth (nth L v.i).es k).key))||(v.hi.any λb=>decide (0<=QC (j:Int) (nth (nth L v.i).es k).key b)));first|(rw[show(v.lo.any λb=>decide (0<=QC (j:Int) b (nth (nth L v.i).es k).key))=true by assumption];rfl)|(rw[show(v.lo.any λb=>decide (0<=QC (j:Int) b (nth (nth L v.i).es k).key))=false by assumption];rfl)) (dNi ?_))
    exact Qm () trivial aSx (λw h=>h.ent aEt)
   intro hg33
   have hs34:=hg33;skip
   refine dPo 17 88 hg33 ?_
   refine dVo 18 88 hg33 rfl rfl rfl (QcG rfl rfl rfl QiC) ?_
   refine dPo 19 88 hg33 ?_
   apply QE 91
   ·exact rfl
   ·intro hg35
    have hs36:=hg35;skip
    refine dQo 20 91 [] hg35 rfl rfl rfl (Qb rfl rfl Zr (hc1)) ?_
    obtain⟨k8,b8,o8,hhi8,rfl,hr8⟩:=hph.of_some hg35
    refine dPo 21 91 hg35 ?_
    refine dFo 22 91 hg35 ?_
    refine dFo 23 91 hg35 ?_
    refine dQo 24 91 [] hg35 rfl rfl rfl (Qb rfl rfl QeZ (ht 5 _ rfl)) ?_
    refine dFo 25 91 hg35 ?_
    refine dQo 26 91 [] hg35 rfl rfl rfl (YN rfl rfl YB aPk rfl) ?_
    refine dPo 27 91 hg35 ?_
    refine dPo 28 91 hg35 ?_
    refine dQo 29 91 [] hg35 rfl rfl rfl (Qb rfl rfl YB (hr8)) ?_
    refine dQo 30 91 [] hg35 rfl rfl rfl (Yh rfl rfl (Qg4 _) rfl (λw1 h1=>Qbm w1 j (nth (nth L v.i).es k).key k8 hj (hok _ (Qq hkl)).1 (hhi _ hhi8).1 (hok _ (Qq hkl)).2 (hhi _ hhi8).2)) ?_
    refine dPo 31 91 hg35 ?_
    refine dVo 32 88 hg33 rfl rfl rfl (QF rfl rfl hg35 rfl) ?_
    refine QK (show _=Value.bool (v.hi.any λb=>decide (0<=QC (j:Int) (nth (nth L v.i).es k).key b))from by congr 1;first|(rw[hhi8];rfl)|(rw[hph.of_none hg35];rfl)) (dV 33 rfl (Qx rfl rfl hg33 rfl) (QK (show _=Value.bool (ZX (⟨(j:Int),mo,rm,pln L⟩:Tre) v (nth (nth L v.i).es k))from by congr 1;show _=((v.lo.any λb=>decide (0<=QC (j:Int) b (nth (nth L v.i).es k).key))||(v.hi.any λb=>decide (0<=QC (j:Int) (nth (nth L v.i).es k).key b)));first|(rw[show(v.lo.any λb=>decide (0<=QC (j:Int) b (nth (nth L v.i).es k).key))=true by assumption];rfl)|(rw[show(v.lo.any λb=>decide (0<=QC (j:Int) b (nth (nth L v.i).es k).key))=false by assumption];rfl)) (dNi ?_)))
    exact Qm () trivial aSx (λw h=>h.ent aEt)
   intro hg37
   have hs38:=hg37;skip
   refine dOf 20 91 hg37 ?_
   refine dOf 21 91 hg37 ?_
   refine dOf 22 91 hg37 ?_
   refine dOf 23 91 hg37 ?_
   refine dOf 24 91 hg37 ?_
   refine dOf 25 91 hg37 ?_
   refine dOf 26 91 hg37 ?_
   refine dOf 27 91 hg37 ?_
   refine dOf 28 91 hg37 ?_
   refine dOf 29 91 hg37 ?_
   refine dOf 30 91 hg37 ?_
   refine dOf 31 91 hg37 ?_
   refine dVo 32 88 hg33 rfl rfl rfl (Qx rfl rfl hg37 rfl) ?_
   refine QK (show _=Value.bool (v.hi.any λb=>decide (0<=QC (j:Int) (nth (nth L v.i).es k).key b))from by congr 1;first|(rw[hhi8];rfl)|(rw[hph.of_none hg37];rfl)) (dV 33 rfl (Qx rfl rfl hg33 rfl) (QK (show _=Value.bool (ZX (⟨(j:Int),mo,rm,pln L⟩:Tre) v (nth (nth L v.i).es k))from by congr 1;show _=((v.lo.any λb=>decide (0<=QC (j:Int) b (nth (nth L v.i).es k).key))||(v.hi.any λb=>decide (0<=QC (j:Int) (nth (nth L v.i).es k).key b)));first|(rw[show(v.lo.any λb=>decide (0<=QC (j:Int) b (nth (nth L v.i).es k).key))=true by assumption];rfl)|(rw[show(v.lo.any λb=>decide (0<=QC (j:Int) b (nth (nth L v.i).es k).key))=false by assumption];rfl)) (dNi ?_)))
   exact Qm () trivial aSx (λw h=>h.ent aEt)
  intro _ _
  refine sCd rfl (λh39=>?_) λh39=>?_
  ·have hz2:Zm (⟨(j:Int),mo,rm,pln L⟩:Tre) v=true:=by rw[hO,List.any_eq_true];exact⟨_,Qq hkl,h39⟩
   refine aU6 ?_
   exact Qj (rs:=[.tmp 10,.tmp 11]) rfl (.tmp rfl (.tmp rfl (.nil))) (λw' h'=>⟨(),by rw[hE];simp only[];rw[if_neg (by rw[hz1];decide),if_pos hz2];rfl,trivial,by rw[hS,if_neg (by rw[hz1];decide),if_pos hz2];exact h'.ent aEt⟩)
  refine aT4 ?_
  refine aU2 ?_
  exact sBk (k+1) om ⟨om,λi hi9=>(Nat.lt_or_ge i k).elim (hk2 i) (λh=>by obtain rfl:i=k:=om;have hq:=h39;simpa using hq)⟩
 obtain rfl:k=(nth L v.i).es.length:=om
 have hz2:Zm (⟨(j:Int),mo,rm,pln L⟩:Tre) v=false:=by rw[hO,List.any_eq_false];intro x hx;obtain⟨i9,hi9,e9⟩:=List.getElem_of_mem hx;have e8:nth (nth L v.i).es i9=x:=XR (by rw[List.getElem?_eq_getElem hi9,e9]);rw[<-e8,hk2 i9 hi9];decide
 refine Qg rfl ?_
 refine aU8 ?_
 refine sCd rfl (λh40=>?_) λh40=>?_
 ·have hc9:(nth L v.i).cs.length=0:=by have hq:=h40;omega
  have hEv:erV (⟨(j:Int),mo,rm,pln L⟩:Tre) s v=((v.i:Int),if(if s=0 then v.d else s)=v.d then 0 else 22):=by rw[hE,if_neg (by rw[hz1];decide),if_neg (by rw[hz2];decide),if_pos hc9]
  refine aU6 ?_
  refine XG (α:=Unit) [114] (λ_=>[]) (λ_=>HS w (fps [.blk c7 3 1 [.int .i64 s]]) [.blk b2 127 3 (nth L 0).vals,.blk b1 127 3 (nth L v.i).vals,.blk c7 3 1 [.int .i64 (if s=0 then v.d else s)]]) (λ_=>True) ?_ ?_
  ·skip
   refine sCd rfl (λh41=>?_) λh41=>?_
   ·refine aU4 ?_
    exact Qm () trivial aSx (λw h=>by rw[if_pos h41];exact h.ent aEt)
   refine aU ?_
   exact Qm () trivial aSx (λw h=>by rw[if_neg h41];exact h.ent aEt)
  intro _ _
  refine aU6 ?_
  refine oCq rfl (λw1 h1=>Qd5 w1 _ _) (aU3 ?_)
  exact Qj (rs:=[.tmp 10,.tmp 11]) rfl (.tmp rfl (.tmp rfl (.nil))) (λw' h'=>⟨(),by rw[hEv];simp only[Qt,cond_eq_ite,decide_eq_true_eq],trivial,by rw[hS,if_neg (by rw[hz1];decide),if_neg (by rw[hz2];decide),if_pos hc9];exact h'.ent aEt⟩)
 have hc9:¬(nth L v.i).cs.length=0:=by have hq:=h40;omega
 refine aU7 ?_
 exact Qj (rs:=[.tmp 10,.tmp 11]) rfl (.tmp rfl (.tmp rfl (.nil))) (λw' h'=>⟨(),by rw[hE];simp only[];rw[if_neg (by rw[hz1];decide),if_neg (by rw[hz2];decide),if_neg hc9];rfl,trivial,by rw[hS,if_neg (by rw[hz1];decide),if_neg (by rw[hz2];decide),if_neg hc9];exact h'.ent aEt⟩)
theorem QuQ:QN Tryz.prog 228=some [.slice none 0 0]:=by kernel_rfl
theorem c201(w:World)(bt:Nat)(j:Nat)(mo rm:Int)(a:Option Addr)(cap:Nat)(L:List LNd)(ht:TbR w [] bt (j:Int) mo rm a L.length cap)(hs:Nt w [] a L)(hj:j<=3)(hmo:0<=mo/\mo<=1000)(h0:0<L.length)(hB:Bd (pln L))(hT:TOk (j:Int) (pln L)):CR 201 #[.pointer (some ⟨bt,0,none⟩)] w (.tuple #[.int .i64 (QbZ (⟨(j:Int),mo,rm,pln L⟩:Tre)).1,.int .i64 (QbZ (⟨(j:Int),mo,rm,pln L⟩:Tre)).2]):=by
 have hle:=hB.len
 rw[Qd]at hle
 have hvis:vis (pln L) L.length QaE=Yx (pln L):=by unfold Yx;rw[Qd]
 have hmar:=QmO (Yx (pln L)) (List.replicate L.length false)
 rw[List.length_replicate]at hmar
 have hbel:∀i,i<L.length->(Xw Qho (λ_ _=>(0,0)) (List.replicate L.length false) (Yx (pln L))).2.getD i false=decide (i∈(Yx (pln L)).map Vis.i):=λi hi=>by rw[hmar.2.2 i hi,show(List.replicate L.length false).getD i false=false from by rw[List.getD_eq_getElem?_getD,List.getElem?_replicate];split<;>rfl,Bool.false_or]
 have hes9:∀i,i<L.length->(nth L i).es.length<=1000:=λi hi=>by have h9:=hB.es i (by rw[Qd];exact hi);rw[QJ hi]at h9;exact h9
 have hcs9:∀i,i<L.length->(nth L i).cs.length<=1000:=λi hi=>by have h9:=hB.cs i (by rw[Qd];exact hi);rw[QJ hi]at h9;exact h9
 have hok9:∀i,i<L.length->∀x∈(nth L i).es,QP (j:Int) x.key=true/\x.key.length<=1000000:=λi hi=>by have h9:=QeE hT (i:=i) (by rw[Qd];exact hi);rw[QJ hi]at h9;exact h9
 refine eN1 Tryz.func201 Tryz.ntmps201 ?_
 refine aU2 ?_
 refine oBx λb1 _=>?_
 refine aU9 ?_
 refine o_q (Qb rfl rfl Qat (ht 3 _ rfl)) rfl (aU ?_)
 refine o_h (QdI (n:=L.length) rfl rfl rfl Yl Qrr om om) rfl (λb2 _=>Y5 (λw h=>(show HS _ _ [.blk b2 4 L.length ((List.replicate L.length false).map Value.bool),.blk b1 197 1 [.pointer (some ⟨bt,0,none⟩)]] w from by have h9:=h;rw[Nat.mul_one,QeK,<-List.map_replicate]at h9;exact h9.ent aEt)) (oAl (λb3 _=>?_) QuQ))
 refine aU6 ?_
 refine o_h (Xy (Cs:=[.blk b2 4 L.length ((List.replicate L.length false).map Value.bool)]) rfl QlC rfl aPs (λw1 h1 hf=>by have h9:=Qk5 (List Bool) (λs=>s.length=L.length) (λs=>.blk b2 4 L.length (s.map Value.bool)) Qho (λ_ _=>(0,0)) 261 #[.pointer (some ⟨b3,0,none⟩)] bt j mo rm a cap L L.length w1 (List.replicate L.length false) QaE none none [] hf (by kernel_rfl) (λ_ _=>rfl) (λs v h=>by simpa[Qho]using h) (by simp) (λs2 v2 p2 p3 w2 h2 hs2 hi2 _ _ _ _=>c261 w2 v2.i v2.d p2 p3 b3 b2 L.length s2 (HS.focus (Cs:=[_]) (Ds:=[]) h2) (h2.keep (h1.rd_blkF aPs (b:=b3) aPk rfl)) hi2 hs2) ((ht.keep h1).mono (Q2 aPs)) ((hs.keep h1).mono (Q2 aPs)) hT hB rfl rfl h0 rfl (by simp) rfl (λ_ h=>by cases h) (λ_ h=>by cases h);rw[hvis]at h9;exact h9)) rfl (λ_ _=>aU3 ?_)
 refine Y5 (λw h=>(show HS _ _ [.blk b2 4 L.length ((Xw Qho (λ_ _=>(0,0)) (List.replicate L.length false) (Yx (pln L))).2.map Value.bool),.blk b3 228 1 [.slice (some ⟨b2,0,none⟩) L.length L.length],.blk b1 197 1 [.pointer (some ⟨bt,0,none⟩)]] w from h.ent aEt)) (aU8 ?_)
 refine o_q (Qb rfl rfl Qat (ht 3 _ rfl)) rfl (aU4 ?_)
 refine Qe (L':=[(1,_),(2,_),(3,_),(4,_),(25,_),(26,_),(27,_)]) aSx (λ_ h=>h) ?_
 refine Qo (α:=Nat) [2,3,5,6,27,28,29,30,31,32,33,34,35,36,37,38,39,40,41,42] (λk=>[(27,.int .i64 (k:Int))]) (λ_=>HS w [] [.blk b2 4 L.length ((Xw Qho (λ_ _=>(0,0)) (List.replicate L.length false) (Yx (pln L))).2.map Value.bool),.blk b3 228 1 [.slice (some ⟨b2,0,none⟩) L.length L.length],.blk b1 197 1 [.pointer (some ⟨bt,0,none⟩)]]) (λk=>k<=L.length/\QaG (pln L) ((Yx (pln L)).map Vis.i) L.length 0=QaG (pln L) ((Yx (pln L)).map Vis.i) (L.length-k) k) (λk=>L.length-k) 0 ⟨Nat.zero_le _,rfl⟩ aSx (λw h=>h.ent aEt) (λk hx=>?_)
 obtain⟨hk1,hk2⟩:=hx
 refine aU5 ?_
 refine sCd rfl (λh4=>?_) λh4=>?_
 ·have hkl:k<L.length:=by omega
  have hst:=QhO (ns:=pln L) (below:=(Yx (pln L)).map Vis.i) (k:=k) (by rw[Qd];exact hkl)
  rw[Qd,QJ hkl]at hst
  refine aU6 ?_
  refine o_p (Qa rfl rfl rfl Xl (k) om om (Rw.some hs.1 om)) rfl (o_q (Qn _ rfl rfl ZY rfl (Rw.rd hs.1 hkl)) rfl (oAl (λb5 _=>?_) YV))
  refine aU8 ?_
  refine Xs 6 34 40 rfl
   (λhg6 _=>by
    refine aU5 ?_
    refine o_p (Qa rfl rfl rfl Yl (k) om om rfl) rfl (aU ?_)
    refine o_q (Xi rfl rfl Qb5 (λw h=>by rw[Nat.zero_add,Nat.mul_one];exact h.rd_blk (Mc:=[]) (b:=b2) aPk (QoJ (by rw[hmar.2.1];exact hkl)) (by simp))) rfl (aU2 ?_)
    exact oJt 6 40)
   (λhg8 _=>by
    refine aU5 ?_
    exact oJf 6 40) ?_
  refine aU ?_
  refine sCd rfl (λh10=>?_) λh10=>?_
  ·have hz:(nth L k).pl.us=true/\k ∉ (Yx (pln L)).map Vis.i:=by have hq:=h10;rw[hbel k hkl]at hq;simp only[LNd.pl];simpa using hq
   refine aU6 ?_
   exact Qj (rs:=[.tmp 2,.tmp 3]) rfl (.tmp rfl (.tmp rfl (.nil))) (λw' h'=>⟨by rw[Qdx (t:=(⟨(j:Int),mo,rm,pln L⟩:Tre)) (i:=k) (show QaG (pln L) _ (pln L).length 0=some k from by rw[Qd,hk2,hst,if_pos hz])];rfl,h'.below⟩)
  have hz:¬((nth L k).pl.us=true/\k ∉ (Yx (pln L)).map Vis.i):=by have hq:=h10;rw[hbel k hkl]at hq;simp only[LNd.pl];intro h9;simp at hq h9;grind
  refine aT4 ?_
  refine aU2 ?_
  exact sBk (k+1) om ⟨om,by rw[hk2,hst,if_neg hz]⟩
 have hnone:QaG (pln L) ((Yx (pln L)).map Vis.i) L.length 0=none:=by rw[hk2,show L.length-k=0 by omega];rfl
 refine Qg rfl ?_
 refine aU2 ?_
 refine oAl (λb11 _=>?_) Qkv
 refine aU6 ?_
 refine o_h (Xy (Cs:=[.blk b11 3 1 [.int .i64 0]]) rfl QlC rfl aPs (λw1 h1 hf=>by have h9:=Qk5 Int (λ_=>True) (λs=>.blk b11 3 1 [.int .i64 s]) (stV (⟨(j:Int),mo,rm,pln L⟩:Tre)) (erV (⟨(j:Int),mo,rm,pln L⟩:Tre)) 262 #[.pointer (some ⟨b1,0,none⟩),.pointer (some ⟨b11,0,none⟩)] bt j mo rm a cap L L.length w1 0 QaE none none [] hf (by kernel_rfl) (λ_ _=>rfl) (λ_ _ _=>trivial) trivial (λs2 v2 p2 p3 w2 h2 _ hi2 ha2 hb2 hp2 hp3=>c262 w2 v2 p2 p3 b1 b11 s2 bt j mo rm a cap L (HS.focus (Cs:=[_]) (Ds:=[]) h2) (h2.keep (h1.rd_blkF aPs (b:=b1) aPk rfl)) (((ht.keep h1).mono (Q2 aPs)).keep h2) (((hs.keep h1).mono (Q2 aPs)).keep h2) hj hmo hi2 hle (hes9 _ hi2) (hcs9 _ hi2) (hcs9 _ h0) (hes9 _ h0) hp2 hp3 ha2 hb2 (hok9 _ hi2)) ((ht.keep h1).mono (Q2 aPs)) ((hs.keep h1).mono (Q2 aPs)) hT hB rfl rfl h0 rfl (by simp) rfl (λ_ h=>by cases h) (λ_ h=>by cases h);rw[hvis,Gx.run_shape (t:=(⟨(j:Int),mo,rm,pln L⟩:Tre)) hT (by show 0<(pln L).length;rw[Qd];exact h0)]at h9;exact h9)) rfl (λ_ _=>aU5 ?_)
 exact Qj (rs:=[.tmp 2,.tmp 3]) rfl (.tmp rfl (.tmp rfl (.nil))) (λw' h'=>⟨by rw[QdR (t:=(⟨(j:Int),mo,rm,pln L⟩:Tre)) (show QaG (pln L) _ (pln L).length 0=none from by rw[Qd];exact hnone)];rfl,h'.below⟩)
end Go.Proofs
