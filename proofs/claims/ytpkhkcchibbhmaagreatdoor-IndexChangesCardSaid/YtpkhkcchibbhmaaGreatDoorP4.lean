/- Contracts of the program's functions, proved by walking them with the rules of the Gx texts; without conditions beyond those that each contract names. -/
import Derived.WalkKit
import Derived.Deep.Draws
import Derived.TacticsIn
import Derived.OrdersIn
import Derived.RangeFuncLeaves
import Derived.Lib.Strings
import Derived.Laws.BytesArg
import Derived.Laws.IdiomStrings
import Derived.Deep.Quiet
import Derived.ProofKit
import Derived.OpenShut
import Derived.Laws.StructEq
import Derived.ChangeKeysEq
import Derived.Laws.Externs
import Derived.Lib.Overlaps
import Derived.Carry
import Derived.Laws.Small
import Derived.Lib.Bytealg
import Derived.Lib.Builder
import Derived.Laws.Pointers
import Derived.RangeFuncRecord
import Derived.Test.YtpkhkcchibbhmaaGreatDoorProg
import Derived.KernelRfl
import Derived.Test.YtpkhkcchibbhmaaGreatDoorTie
import Derived.Test.YtpkhkcchibbhmaaGreatDoorCards
import Derived.SevenTiedAt
import Derived.LaidMore
import Derived.Lay
import Derived.Stop.Joined
import Derived.Test.YtpkhkcchibbhmaaGreatDoorP3
set_option linter.unusedSimpArgs false
set_option maxHeartbeats 1000000
set_option linter.unusedVariables false
set_option linter.unusedSectionVars false
set_option linter.unnecessarySimpa false
namespace Gx
namespace Ev
open Go Go.RowKit
noncomputable def Qmt(b:SF)(m:Nat):SF:=Nat.rec (λ_ _ _ _=>.bad) (λ_ ih F T H n=>match b F T H n with
 | .nm T H n=>ih F T H n
 | r=>r) m
noncomputable def Yk(P:Program)(nt m:Nat)(Dr:Nat->Array Oper->CS):Code->CS
 | .skip=>⟨λ_ T H n=>.nm T H n⟩
 | .label _=>⟨λ_ T H n=>.nm T H n⟩
 | .region _ ⟨ops⟩ false=>QbX P nt ⟨ops⟩ ops
 | .region _ ⟨ops⟩ true=>Dr nt ⟨ops⟩
 | .seq a b=>⟨λF T H n=>match(Yk P nt m Dr a).run F T H n with
  | .nm T H n=>(Yk P nt m Dr b).run F T H n
  | r=>r⟩
 | .cond x a b=>⟨λF T H n=>match(XV x).run T with
  | some (.bool t)=>Bool.rec ((Yk P nt m Dr b).run F T H n) ((Yk P nt m Dr a).run F T H n) t
  | _=>.bad⟩
 | .block id b=>⟨λF T H n=>match(Yk P nt m Dr b).run F T H n with
  | .ex i T H n=>bif Nat.beq i id then .nm T H n else .ex i T H n
  | r=>r⟩
 | .loop b=>⟨Qmt (Yk P nt m Dr b).run m⟩
 | .exit i=>⟨λ_ T H n=>.ex i T H n⟩
 | .ret=>⟨λ_ T H n=>.rt T H n⟩
 | _=>noC
def QlW(P:Program)(Dr:Nat->Array Oper->CS):Prop:=∀(l:List Oper)(id:Nat)(r0:Rho)(w0:World)(X:Ctx)(k:List KI)(F:CallF)(T:Tr Value)(H:Hp)(n:Nat)(ρ:Rho)(L':Qc)(As:List HA),X.P=P->CallOk P r0 F->Xi r0 w0 ρ X k ((Dr X.n ⟨l⟩).run F T H n)->StOk r0 w0 ρ ⟨T,H,n⟩ L' As->S X (.c (.region id ⟨l⟩ true)::k) L' (HS w0 [] As)
section
variable{P:Program}{r0:Rho}{w0:World}{X:Ctx}{m:Nat}{Dr:Nat->Array Oper->CS}
theorem QbL{x:KI}{k:List KI}{L:Qc}{C:World->Prop}(h:SE X .ret k L C):SE X .ret (x::k) L C:=by
 rcases x with c|id|J
 ·exactλa w ha hw=>h a w ha hw
 ·exactλa w ha hw=>h a w ha hw
 ·exactλa w ha hw=>h a w ha hw
def reS(L:Qc):Qc->Qc
 | []=>[]
 | (t,_)::h=>match Qc.get L t with
  | some v=>(t,v)::reS L h
  | none=>reS L h
theorem Qji(L:Qc):∀h,Qcg L (reS L h)
 | []=>trivial
 | (t,x)::h=>by
  simp only[reS];split
  ·rename_i v hv;exact⟨hv,Qji L h⟩
  ·exact Qji L h
theorem Qm5{L:Qc}{t:Nat}{v:Value}(hv:Qc.get L t=some v):∀h x,Qc.get h t=some x->Qc.get (reS L h) t=some v
 | [],x,hx=>by cases hx
 | (k,y)::h,x,hx=>by
  simp only[Qc.get]at hx;simp only[reS];cases hb:Nat.beq k t with
  | true=>simp_all[Qc.get]
  | false=>
   rw[hb]at hx;have ih:=Qm5 hv h x hx
   grind[Qc.get]
theorem SR.clean{ρ:Rho}{L:Env}{L':Qc}(h:SR ρ L L'):SR ρ L (reS L' L')/\Qcg L' (reS L' L'):=
 ⟨λt v hv=>by
  obtain⟨u,h1,h2⟩:=h t v hv;exact⟨u,Qm5 h1 _ _ h1,h2⟩,Qji _ _⟩
theorem Xi.seq{c:Code}{k:List KI}{ρ:Rho}(b:CS){F:CallF}(ih:∀T H n ρ L' As,Xi r0 w0 ρ X k (b.run F T H n)->StOk r0 w0 ρ ⟨T,H,n⟩ L' As->S X (.c c::k) L' (HS w0 [] As)):∀{r:Rs},Xi r0 w0 ρ X k (match r with
  | .nm T H n=>b.run F T H n
  | r=>r)->Xi r0 w0 ρ X (.c c::k) r
 | .bad,h=>h.elim
 | .nm T H n,h=>λρ2 L2 As2 hle hs2=>ih _ _ _ _ _ _ (Xi.mono hle h) hs2
 | .ex i T H n,h=>λρ2 L2 As2 hle hs2=>QeQ (h ρ2 L2 As2 hle hs2)
 | .rt T H n,h=>λρ2 L2 As2 hle hs2=>QbL (h ρ2 L2 As2 hle hs2)
theorem Xi.blk{id:Nat}{k:List KI}{ρ:Rho}:∀{r:Rs},Xi r0 w0 ρ X k (match r with
  | .ex i T H n=>bif Nat.beq i id then .nm T H n else .ex i T H n
  | r=>r)->Xi r0 w0 ρ X (.blk id::k) r
 | .bad,h=>h.elim
 | .nm T H n,h=>λρ2 L2 As2 hle hs2=>Qt9 (h ρ2 L2 As2 hle hs2)
 | .ex i T H n,h=>λρ2 L2 As2 hle hs2=>by
  simp only[]at h;cases hb:Nat.beq i id with
  | true=>
   rw[hb]at h;have hi:=Nat.eq_of_beq_eq_true hb;subst hi;exact QeE (h ρ2 L2 As2 hle hs2)
  | false=>
   rw[hb]at h;exact Qew hb (h ρ2 L2 As2 hle hs2)
 | .rt T H n,h=>λρ2 L2 As2 hle hs2=>QbL (h ρ2 L2 As2 hle hs2)
theorem Qq7{c:Code}{b:SF}{F:CallF}{k:List KI}(ih:∀(k:List KI)T H n ρ L' As,Xi r0 w0 ρ X k (b F T H n)->StOk r0 w0 ρ ⟨T,H,n⟩ L' As->S X (.c c::k) L' (HS w0 [] As)){m:Nat}{T:Tr Value}{H:Hp}{n:Nat}{ρ:Rho}{L':Qc}{As:List HA}
  (ht:Xi r0 w0 ρ X k (Qmt b m F T H n))(hs:StOk r0 w0 ρ ⟨T,H,n⟩ L' As):S X (.c (.loop c)::k) L' (HS w0 [] As):=by
 let α:={x:Nat×St×Rho×Qc×List HA // Xi r0 w0 x.2.2.1 X k (Qmt b x.1 F x.2.1.T x.2.1.H x.2.1.n)/\StOk r0 w0 x.2.2.1 x.2.1 x.2.2.2.1 x.2.2.2.2}
 obtain⟨f1,f2⟩:=hs.sr.clean;refine Qqp (α:=α) (λx=>x.1.2.2.2.1) (λx=>HS w0 [] x.1.2.2.2.2) (λx=>x.1.1) ⟨(m,⟨T,H,n⟩,ρ,_,As),ht,⟨hs.le,f1,hs.hp,hs.fr⟩⟩ f2 (λ_ h=>h) ?_;rintro⟨⟨m1,⟨T1,H1,n1⟩,ρ1,L1,As1⟩,h1,h2⟩;cases m1 with
 | zero=>exact h1.elim
 | succ m1=>
  refine ih _ T1 H1 n1 ρ1 L1 As1 ?_ h2
  have h3:Xi r0 w0 ρ1 X k (match b F T1 H1 n1 with
   | .nm T H n=>Qmt b m1 F T H n
   | r=>r):=h1
  cases hr:b F T1 H1 n1 with
  | bad=>rw[hr]at h3;exact h3.elim
  | nm T2 H2 n2=>
   rw[hr]at h3;intro ρ2 L2 As2 hle hs2;obtain⟨g1,g2⟩:=hs2.sr.clean;exact Qwa (⟨(m1,⟨T2,H2,n2⟩,ρ2,_,As2),Xi.mono hle h3,⟨hs2.le,g1,hs2.hp,hs2.fr⟩⟩:α) (Nat.lt_succ_self m1) g2 (λ_ h=>h)
  | ex i T2 H2 n2=>
   rw[hr]at h3;exactλρ2 L2 As2 hle hs2=>Qea (h3 ρ2 L2 As2 hle hs2)
  | rt T2 H2 n2=>
   rw[hr]at h3;exactλρ2 L2 As2 hle hs2=>QbL (h3 ρ2 L2 As2 hle hs2)
theorem Xn{F:CallF}(hF:CallOk P r0 F)(hD:QlW P Dr)(hP:X.P=P):∀(c:Code)(k:List KI)(T:Tr Value)(H:Hp)(n:Nat)(ρ:Rho)(L':Qc)(As:List HA),Xi r0 w0 ρ X k ((Yk P X.n m Dr c).run F T H n)->StOk r0 w0 ρ ⟨T,H,n⟩ L' As->S X (.c c::k) L' (HS w0 [] As)
 | .skip,k,T,H,n,ρ,L',As,ht,hs=>QrZ (ht ρ L' As ρ.le_refl hs)
 | .label _,k,T,H,n,ρ,L',As,ht,hs=>QtQ (ht ρ L' As ρ.le_refl hs)
 | .region _ ⟨ops⟩ false,k,T,H,n,ρ,L',As,ht,hs=>Qkd (Qhj hF hP ops T H n ρ L' As ht hs)
 | .region id ⟨ops⟩ true,k,T,H,n,ρ,L',As,ht,hs=>hD ops id r0 w0 X k F T H n ρ L' As hP hF ht hs
 | .seq a b,k,T,H,n,ρ,L',As,ht,hs=>Qmj (Xn hF hD hP a _ T H n ρ L' As (Xi.seq (Yk P X.n m Dr b) (Xn hF hD hP b k) ht) hs)
 | .cond x a b,k,T,H,n,ρ,L',As,ht,hs=>by
  simp only[Yk,Xa]at ht;split at ht
  ·rename_i t hx;have hx':=Qn hs.sr hx rfl;cases t with
   | true=>exact QgZ hx' (λ_=>Xn hF hD hP a k T H n ρ L' As ht hs) (λh=>by cases h)
   | false=>exact QgZ hx' (λh=>by cases h) (λ_=>Xn hF hD hP b k T H n ρ L' As ht hs)
  ·exact ht.elim
 | .block id b,k,T,H,n,ρ,L',As,ht,hs=>QiZ (Xn hF hD hP b _ T H n ρ L' As (Xi.blk ht) hs)
 | .loop b,k,T,H,n,ρ,L',As,ht,hs=>Qq7 (λk=>Xn hF hD hP b k) ht hs
 | .exit i,k,T,H,n,ρ,L',As,ht,hs=>QrA (ht ρ L' As ρ.le_refl hs)
 | .ret,k,T,H,n,ρ,L',As,ht,hs=>Qua (ht ρ L' As ρ.le_refl hs)
 | .rangeFunc _ _ _ _,_,_,_,_,_,_,_,ht,_=>ht.elim
 | .scope _,_,_,_,_,_,_,_,ht,_=>ht.elim
 | .goto _,_,_,_,_,_,_,_,ht,_=>ht.elim
 | .refuse _,_,_,_,_,_,_,_,ht,_=>ht.elim
end
def Rho.wx(ρ:Rho)(e:List HA):Rho:=⟨ρ.f,e⟩
theorem SR.wx{ρ:Rho}{L:Env}{L':Qc}(h:SR ρ L L')(e:List HA):SR (ρ.wx e) L L':=h
noncomputable def noY:Qru:=λ_ _ _ _=>none
theorem QdI{P:Program}{r0:Rho}:YOk P r0 noY:=λ_ _ _ _ _ _ _ h=>by cases h
noncomputable def Qmq(nt:Nat):List Nat->List Value->Tr Value->Option (Tr Value)
 | [],[],T=>some T
 | p::ps,v::vs,T=>bif Nat.blt p nt then Qmq nt ps vs (YD (pth p) p v T)else none
 | _,_,_=>none
noncomputable def QlT(ca cb:SF)(nt:Nat)(ps:List Nat)(F:CallF)(T0:Tr Value)(nm:Nat):Qru:=λk vs H n=>bif Nat.beq k nm then(match Qmq nt ps vs T0 with
 | some T1=>(match ca ⟨F.f,F.e,noY⟩ T1 H n with
  | .nm T2 H2 n2=>(match cb ⟨F.f,F.e,noY⟩ T2 H2 n2 with
   | .nm _ H3 n3=>some (.bool true,H3,n3)
   | _=>none)
  | _=>none)
 | none=>none)else none
noncomputable def Qhk(P:Program)(g:Operand)(ca cb:SF)(nt:Nat)(ps:List Nat):CS:=⟨λF T H n=>match(XV g).run T with
 | some (.func (.func gf) ⟨[]⟩ ⟨lb⟩)=>bif QK P gf then(match F.f (QlT ca cb nt ps F T n) gf (.func (.yield n) #[] #[]::lb) H (Nat.succ n)with
  | some (_,H',n')=>.nm T H' n'
  | none=>.bad)else .bad
 | _=>.bad⟩
def QiG:Code->Bool
 | .rangeFunc _ _ _ _=>true
 | .seq a b=>QiG a||QiG b
 | .cond _ a b=>QiG a||QiG b
 | .block _ b=>QiG b
 | _=>false
noncomputable def QaL(P:Program)(nt m:Nat)(Dr:Nat->Array Oper->CS):Code->CS
 | .seq a b=>Bool.rec (Bool.rec (Yk P nt m Dr (.seq a b)) ⟨λF T H n=>match(Yk P nt m Dr a).run F T H n with
   | .nm T H n=>(QaL P nt m Dr b).run F T H n
   | r=>r⟩ (QiG b)) ⟨λF T H n=>match(QaL P nt m Dr a).run F T H n with
   | .nm T H n=>(Yk P nt m Dr b).run ⟨F.f,F.e,noY⟩ T H n
   | r=>r⟩ (QiG a)
 | .cond x a b=>⟨λF T H n=>match(XV x).run T with
  | some (.bool t)=>Bool.rec ((QaL P nt m Dr b).run F T H n) ((QaL P nt m Dr a).run F T H n) t
  | _=>.bad⟩
 | .block id b=>⟨λF T H n=>match(QaL P nt m Dr b).run F T H n with
  | .ex i T H n=>bif Nat.beq i id then .nm T H n else .ex i T H n
  | r=>r⟩
 | .rangeFunc g ⟨ps⟩ assign body=>Qhk P g (Yk P nt m Dr assign).run (Yk P nt m Dr body).run nt ps
 | c=>Yk P nt m Dr c
theorem QmX{ρ:Rho}{n:Nat}:∀{ps:List Nat}{vs us:List Value}{T T1:Tr Value}{L:Qc}{t:Array Value},Qmq n ps vs T=some T1->QD (den ρ) vs=some us->SR ρ (en T) L->FR n [] L {tmps:=t,defers:=[]} ->
  ∃L1,SR ρ (en T1) L1/\FR n [] L1 {tmps:=(ps.zip us).foldl (λt(p,v)=>t.setIfInBounds p v) t,defers:=[]}/\us.length=ps.length
 | [],[],us,T,T1,L,t,h,hm,hs,hf=>by
  injection h with h
  cases hm;subst h;exact⟨L,hs,hf,rfl⟩
 | p::ps,v::vs,us,T,T1,L,t,h,hm,hs,hf=>by
  simp only[Qmq]at h;obtain⟨hb,h⟩:=QaW h;simp only[QD]at hm;split at hm
  ·rename_i u us' h1 h2;injection hm with hm
   subst hm;have hf1:=hf.put p u hb;obtain⟨L1,g1,g2,g3⟩:=QmX (t:=t.setIfInBounds p u) h h2 (hs.set h1) ⟨rfl,hf1.size,hf1.slot⟩;exact⟨L1,g1,g2,by simp[g3]⟩
  ·cases hm
 | [],_::_,_,_,_,_,_,h,_,_,_=>by cases h
 | _::_,[],_,_,_,_,_,h,_,_,_=>by cases h
theorem Qrk{α:Type}{P:Program}{fn:Func}{n l D:Nat}{fid:FuncId}{tmps:Array Value}{ps:Array Tmp}{assign body:Code}{args:Array Value}{L0:Qc}{LJ:α->Qc}{AJ:α->List HA}{w0 W:World}{As:List HA}{Rr:Ending->World->Prop}
  (hC:HS w0 [] (.obj l (.loop (rdy fid tmps ps assign body D))::As) W)(hps:args.size=ps.size)(hf:FR n [] L0 {tmps:=(ps.zip args).foldl (λt(p,v)=>t.setIfInBounds p v) tmps,defers:=[]})
  (h1:S {P:=P,fn:=fn,n:=n,R:=λ_ _=>False,rd:=some l} [.c assign,.join (At n [] LJ (λx=>HS w0 [] (.obj l (.loop (rdy fid tmps ps assign body D))::AJ x)))] L0 (HS w0 [] (.obj l (.loop (rdy fid tmps ps assign body D))::As)))
  (h2:∀x,S {P:=P,fn:=fn,n:=n,R:=Rr,rd:=some l} [.c body] (LJ x) (HS w0 [] (.obj l (.loop {rdy fid tmps ps assign body D with state:=.busy})::AJ x))):Qi5 P l args W Rr:=by
 refine⟨fid,_,assign,body,run_yield (hC.obj_get .here) hps,roundIn_of_wpIn trivial ?_⟩;refine wpIn_mono (h1 _ W hf hC) λe a w he=>?_;cases e with
 | normal=>
  obtain⟨x,hfr,hc⟩:=he;exact⟨_,run_beginRound (hc.obj_get .here) rfl,h2 x _ _ hfr (hc.putObj .here _)⟩
 | ret=>obtain⟨v,w',_,hx⟩:=he;exact hx
 | exit id=>obtain⟨v,w',_,hx⟩:=he;exact hx
 | goto t=>obtain⟨v,w',_,hx⟩:=he;exact hx
 | panic ch=>exact he
 | outgrown=>exact he
section
variable{P:Program}{r0:Rho}{w0:World}{X:Ctx}{m:Nat}{Dr:Nat->Array Oper->CS}
theorem HM.split{ρ:Rho}{H:Hp}{As:List HA}(h:HM ρ H As):∃Bs,As=Bs++ρ.ex/\∀e,HM (ρ.wx e) H (Bs++e):=by
 obtain⟨G,Bs,h1,h2,h3⟩:=h;exact⟨Bs,h3,λe=>⟨G,Bs,h1,h2,rfl⟩⟩
theorem QoF{fn:Func}{nt l D:Nat}{fid:FuncId}{tmps:Array Value}{ps:List Nat}{assign body:Code}{T0:Tr Value}{nm d:Nat}{r1:Rho}{rest:List HA}{L:Qc}{F:CallF}(hF:∀r,CallOk P r ⟨F.f,F.e,noY⟩)(hD:QlW P Dr)
  (hn:r1 nm=some (l,d))(hex:r1.ex=.obj l (.loop (rdy fid tmps ⟨ps⟩ assign body D))::rest)(hf:FR nt [] L {tmps:=tmps,defers:=[]})(hs:SR r1 (en T0) L):YOk P r1 (QlT (Yk P nt m Dr assign).run (Yk P nt m Dr body).run nt ps F T0 nm):=by
 intro k vs H n v H' n' h w0 ρ us As hle hus hH hfr;unfold QlT at h;have hk:Nat.beq k nm=true:=by grind
 rw[hk]at h;simp only[cond_true]at h;have hk:=Nat.eq_of_beq_eq_true hk;subst hk;refine⟨(l,d),hle.1 _ _ hn,?_⟩;split at h
 ·rename_i T1 hb;split at h
  ·rename_i T2 H2 n2 ha;split at h
   ·rename_i T3 H3 n3 hc;injection h with h
    injection h with e1 e2
    injection e2 with e2 e3
    subst e1 e2 e3;obtain⟨L1,g1,g2,g3⟩:=QmX hb hus (hs.mono hle) hf;intro w hw;have hρe:ρ.ex=.obj l (.loop (rdy fid tmps ⟨ps⟩ assign body D))::rest:=by rw[hle.2,hex]
    obtain⟨Bs,hAs,hBs⟩:=hH.split
    let α:={x:Rho×List HA×Qc×List HA // ρ.le x.1/\StOk x.1 w0 x.1 ⟨T2,H2,n2⟩ x.2.2.1 x.2.1/\x.2.1=x.2.2.2++x.1.ex}
    refine Qrk (fn:=fn) (n:=nt) (α:=α) (L0:=L1) (As:=Bs++rest) (LJ:=λx=>x.1.2.2.1) (AJ:=λx=>x.1.2.2.2++rest) (hw.perm (by rw[hAs,hρe];exact List.perm_middle)) (by simp[g3]) (by simpa using g2) ?_ ?_
    ·have hA:=Xn (r0:=ρ) (w0:=w0) (X:={P:=P,fn:=fn,n:=nt,R:=λ_ _=>False,rd:=some l}) (m:=m) (hF ρ) hD rfl assign [.join (At nt [] (λx:α=>x.1.2.2.1) (λx=>HS w0 [] (.obj l (.loop (rdy fid tmps ⟨ps⟩ assign body D))::(x.1.2.2.2++rest))))] T1 H n ρ L1 As (by
      rw[ha];intro ρ2 L2 As2 hle2 hs2;obtain⟨Bs2,k1,k2⟩:=hs2.hp.split;intro a9 w9 ha9 hw9
      have hpm:As2.Perm (.obj l (.loop (rdy fid tmps ⟨ps⟩ assign body D))::(Bs2++rest)):=by
       rw[k1,hle2.2,hρe];exact List.perm_middle
      exact⟨(⟨(ρ2,As2,L2,Bs2),hle2,⟨ρ2.le_refl,hs2.sr,hs2.hp,hs2.fr⟩,k1⟩:α),ha9,hw9.perm hpm⟩) ⟨ρ.le_refl,g1,hH,hfr⟩
     intro a9 w9 ha9 hw9;exact hA a9 w9 ha9 (hw9.perm (by rw[hAs,hρe];exact List.perm_middle.symm))
    ·rintro⟨⟨ρ2,As2,L2,Bs2⟩,q1,q2,q3⟩;simp only[]at q1 q2 q3;have hρ2:ρ2.ex=.obj l (.loop (rdy fid tmps ⟨ps⟩ assign body D))::rest:=by rw[q1.2,hρe]
     obtain⟨Bs2',k1,k2⟩:=q2.hp.split;have hbb:Bs2'=Bs2:=List.append_cancel_right (k1.symm.trans q3);subst hbb
     have hB:=Xn (r0:=ρ2.wx (.obj l (.loop {rdy fid tmps ⟨ps⟩ assign body D with state:=.busy})::rest)) (w0:=w0) (X:={P:=P,fn:=fn,n:=nt,R:=QnG w0 ρ (.bool true) H3 n3,rd:=some l}) (m:=m) (hF _) hD rfl body [] T2 H2 n2 (ρ2.wx (.obj l (.loop {rdy fid tmps ⟨ps⟩ assign body D with state:=.busy})::rest)) L2 (Bs2'++(.obj l (.loop {rdy fid tmps ⟨ps⟩ assign body D with state:=.busy})::rest)) (by
      rw[hc];intro ρ3 L3 As3 hle3 hs3;obtain⟨Bs3,j1,j2⟩:=hs3.hp.split;have hρ3:ρ3.ex=.obj l (.loop {rdy fid tmps ⟨ps⟩ assign body D with state:=.busy})::rest:=hle3.2;refine Qqx (As':=Bs3++rest) rfl (by rw[j1,hρ3];exact List.perm_middle) λw9 hw9=>?_;refine⟨ρ3.wx (.obj l (.loop (rdy fid tmps ⟨ps⟩ assign body D))::rest),Bs3++(.obj l (.loop (rdy fid tmps ⟨ps⟩ assign body D))::rest),.bool true,⟨λn9 x9 h9=>hle3.1 _ _ (q1.1 _ _ h9),by rw[hρe];rfl⟩,hs3.fr,rfl,j2 _,rfl,hw9.perm List.perm_middle.symm⟩) ⟨Rho.le_refl _,q2.sr,k2 _,q2.fr⟩
     intro a9 w9 ha9 hw9;exact hB a9 w9 ha9 (hw9.perm List.perm_middle.symm)
   ·cases h
  ·cases h
 ·cases h
def RB(w0:World)(ρ:Rho)(X:Ctx)(k:List KI)(r:Rs):Prop:=∀(D:Nat)(ρ1:Rho),(∀n x,ρ n=some x->ρ1 n=some x)->ρ1.ex=.obj D (.deferred (some []))::ρ.ex->Xi ρ1 w0 ρ1 {X with df:=[D]} k r
theorem RB.mono{ρ ρ':Rho}{k:List KI}{r:Rs}(h:RB w0 ρ X k r)(hle:ρ.le ρ'):RB w0 ρ' X k r:=λD ρ1 h1 h2=>h D ρ1 (λn x hx=>h1 n x (hle.1 n x hx)) (by rw[h2,hle.2])
theorem QnQ{F:CallF}(hF:CallOk P r0 F)(hD:QlW P Dr)(hP:X.P=P)(hrd:X.rd=none)(hdf:X.df=[]){g:Operand}{ps:List Nat}{assign body:Code}{k:List KI}{T:Tr Value}{H:Hp}{n:Nat}{ρ:Rho}{L':Qc}{As:List HA}
  (hB:RB w0 ρ X k ((Qhk P g (Yk P X.n m Dr assign).run (Yk P X.n m Dr body).run X.n ps).run F T H n))(hB0:(Qhk P g (Yk P X.n m Dr assign).run (Yk P X.n m Dr body).run X.n ps).run F T H n≠ .bad)(hs:StOk r0 w0 ρ ⟨T,H,n⟩ L' As):S X (.c (.rangeFunc g ⟨ps⟩ assign body)::k) L' (HS w0 [] As):=by
 subst hP;have hF0:∀r,CallOk X.P r ⟨F.f,F.e,noY⟩:=λr=>⟨hF.f,hF.e,QdI⟩;unfold Qhk at hB hB0;simp only[Xa]at hB hB0;split at hB0
 ·rename_i gf lb hx;rw[hx]at hB;simp only[]at hB;cases hfn:QK X.P gf with
  | false=>rw[hfn]at hB0;exact absurd rfl hB0
  | true=>
   rw[hfn]at hB hB0;simp only[cond_true]at hB hB0;split at hB0
   ·rename_i v H' n' hr;rw[hr]at hB;simp only[]at hB;obtain⟨u,e1,e2⟩:=Zj hs.sr hx;simp only[den,XH,Q6,Qdp]at e2;split at e2
    ·rename_i f' a' lb' g1 g2 g3;injection g1 with g1
     injection e2 with e2
     subst g1 e2;injection g2 with g2
     subst g2;obtain⟨Bs0,hAs,hBs0⟩:=hs.hp.split;have hAs:As=Bs0++ρ.ex:=hAs
     let G:={x:(Nat->Option (Nat×Nat))×List HA // (∀n y,ρ n=some y->x.1 n=some y)/\(∀k,n'<=k->x.1 k=none)/\∃Bs,x.2=Bs++ρ.ex/\∀e,HM ⟨x.1,e⟩ H' (Bs++e)}
     refine QtY (gf:=gf) (lb:=lb'.toArray) (G:=G) (Bs:=λx=>x.1.2) hrd hdf e1 hfn ?_ ?_
     ·intro fid D l a w1 ob hob hfr hw1;subst hob
      let r1:Rho:=⟨(ext ρ n (l,0)).f,.obj l (.loop (rdy fid a.tmps ⟨ps⟩ assign body D))::.obj D (.deferred (some []))::ρ.ex⟩
      have hle1:∀n y,ρ n=some y->r1 n=some y:=(Qg0 hs.fr (l,0)).1;have hr1n:r1 n=some (l,0):=Qb4 ρ n (l,0);have hmono:∀{x y:Value},X3 ρ x=some y->den r1 x=some y:=λ{x y}hx=>Qhf (ρ:=ρ.wx r1.ex) (ρ':=r1) ⟨hle1,rfl⟩ x y (Qdu (QbS (Qrn hx)));have hY:=QoF (P:=X.P) (fn:=X.fn) (nt:=X.n) (m:=m) (Dr:=Dr) (l:=l) (D:=D) (fid:=fid) (tmps:=a.tmps) (ps:=ps) (assign:=assign) (body:=body) (T0:=T) (nm:=n) (d:=0) (r1:=r1) (L:=L') hF0 hD hr1n rfl ⟨rfl,hfr.size,hfr.slot⟩ (SR.mono (ρ:=ρ.wx r1.ex) ⟨hle1,rfl⟩ hs.sr);have hM1:HM r1 H (Bs0++r1.ex):=HM.mono (ρ:=ρ.wx r1.ex) ⟨hle1,rfl⟩ (hBs0 r1.ex)
      have hcall:=hF.f r1 _ hY gf _ H _ v H' n' hr w0 r1 (.func (.yield l) #[] #[]::lb') (Bs0++r1.ex) r1.le_refl (by
       simp only[QD,den,XH,Q6,Qdp,hr1n];have:=XA (λx y hx=>hmono hx) g3;rw[this]) hM1 (Qbi hs.fr (l,0)) w1 (hw1.perm (by
       rw[hAs];show(_::_::(Bs0++ρ.ex)).Perm (Bs0++(_::_::ρ.ex));exact(List.perm_middle.trans (List.perm_middle.cons _)).symm))
      have hargs:(.func (.yield l) #[] #[]::lb').toArray= #[Value.func (.yield l) #[] #[]]++lb'.toArray:=by simp
      rw[hargs]at hcall;refine Calls.mono hcall λe w2⟨ρ',As',u',h1,h2,h3,h4,h5,h6⟩=>⟨⟨u',h5⟩,?_⟩;obtain⟨Bs',j1,j2⟩:=h4.split
      have hpm:As'.Perm (.obj l (.loop (rdy fid a.tmps ⟨ps⟩ assign body D))::.obj D (.deferred (some []))::(Bs'++ρ.ex)):=by
       rw[j1,h1.2];exact List.perm_middle.trans (List.perm_middle.cons _)
      exact⟨⟨(ρ'.f,Bs'++ρ.ex),λn9 y9 h9=>h1.1 _ _ (hle1 _ _ h9),h2,Bs',rfl,λe=>j2 e⟩,h6.perm hpm⟩
     ·rintro D ⟨⟨f9,As9⟩,q1,q2,Bs9,q3,q4⟩;simp only[]at q1 q2 q3 q4;have:=hB D ⟨f9,.obj D (.deferred (some []))::ρ.ex⟩ q1 rfl ⟨f9,.obj D (.deferred (some []))::ρ.ex⟩ L' (Bs9++(.obj D (.deferred (some []))::ρ.ex)) (Rho.le_refl _) ⟨Rho.le_refl _,SR.mono (ρ:=ρ.wx (.obj D (.deferred (some []))::ρ.ex)) (ρ':=⟨f9,.obj D (.deferred (some []))::ρ.ex⟩) ⟨q1,rfl⟩ hs.sr,q4 _,q2⟩;intro a9 w9 ha9 hw9;refine this a9 w9 ha9 (hw9.perm ?_);show(_::As9).Perm _;rw[q3];exact List.perm_middle.symm
    ·cases e2
   grind
 grind
theorem Qbn{F:CallF}(hF:CallOk P r0 F)(hD:QlW P Dr)(hP:X.P=P)(hrd:X.rd=none)(hdf:X.df=[]):∀(c:Code)(k:List KI)(T:Tr Value)(H:Hp)(n:Nat)(ρ:Rho)(L':Qc)(As:List HA),Xi r0 w0 ρ X k ((QaL P X.n m Dr c).run F T H n)->RB w0 ρ X k ((QaL P X.n m Dr c).run F T H n)->StOk r0 w0 ρ ⟨T,H,n⟩ L' As->S X (.c c::k) L' (HS w0 [] As)
 | .seq a b,k,T,H,n,ρ,L',As,hA,hB,hs=>by
  have hF0:∀r,CallOk P r ⟨F.f,F.e,noY⟩:=λr=>⟨hF.f,hF.e,QdI⟩;cases ha:QiG a with
  | true=>
   simp only[QaL,ha]at hA hB;refine Qmj (Qbn hF hD hP hrd hdf a (.c b::k) T H n ρ L' As ?_ ?_ hs)
   ·exact Xi.seq (F:=F) ⟨λF T H n=>(Yk P X.n m Dr b).run ⟨F.f,F.e,noY⟩ T H n⟩ (λT H n ρ L' As h1 h2=>Xn (m:=m) (hF0 r0) hD hP b k T H n ρ L' As h1 h2) hA
   ·intro D ρ1 h1 h2;exact Xi.seq (F:=F) (X:={X with df:=[D]}) ⟨λF T H n=>(Yk P X.n m Dr b).run ⟨F.f,F.e,noY⟩ T H n⟩ (λT H n ρ L' As h1 h2=>Xn (m:=m) (X:={X with df:=[D]}) (hF0 ρ1) hD hP b k T H n ρ L' As h1 h2) (hB D ρ1 h1 h2)
  | false=>
   cases hb:QiG b with
   | false=>
    simp only[QaL,ha,hb]at hA
    grind[Xn]
   | true=>
    simp only[QaL,ha,hb]at hA hB;refine Qmj (Xn (m:=m) hF hD hP a (.c b::k) T H n ρ L' As ?_ hs);cases hr:(Yk P X.n m Dr a).run F T H n with
    | bad=>rw[hr]at hA;exact hA.elim
    | nm T2 H2 n2=>
     rw[hr]at hA hB;exactλρ2 L2 As2 hle hs2=>Qbn hF hD hP hrd hdf b k T2 H2 n2 ρ2 L2 As2 (Xi.mono hle hA) (RB.mono hB hle) hs2
    | ex i T2 H2 n2=>
     rw[hr]at hA;exactλρ2 L2 As2 hle hs2=>QeQ (hA ρ2 L2 As2 hle hs2)
    | rt T2 H2 n2=>
     rw[hr]at hA;exactλρ2 L2 As2 hle hs2=>QbL (hA ρ2 L2 As2 hle hs2)
 | .cond x a b,k,T,H,n,ρ,L',As,hA,hB,hs=>by
  simp only[QaL,Xa]at hA hB;split at hA
  ·rename_i t hx;rw[hx]at hB;have hx':=Qn hs.sr hx rfl;cases t with
   | true=>exact QgZ hx' (λ_=>Qbn hF hD hP hrd hdf a k T H n ρ L' As hA hB hs) (λh=>by cases h)
   | false=>exact QgZ hx' (λh=>by cases h) (λ_=>Qbn hF hD hP hrd hdf b k T H n ρ L' As hA hB hs)
  ·exact hA.elim
 | .block id b,k,T,H,n,ρ,L',As,hA,hB,hs=>QiZ (Qbn hF hD hP hrd hdf b _ T H n ρ L' As (Xi.blk hA) (λD ρ1 h1 h2=>Xi.blk (hB D ρ1 h1 h2)) hs)
 | .rangeFunc g ⟨ps⟩ assign body,k,T,H,n,ρ,L',As,hA,hB,hs=>QnQ hF hD hP hrd hdf hB (λe=>by
   have hA':Xi r0 w0 ρ X k ((Qhk P g (Yk P X.n m Dr assign).run (Yk P X.n m Dr body).run X.n ps).run F T H n):=hA;rw[e]at hA';exact hA'.elim) hs
 | .skip,k,T,H,n,ρ,L',As,hA,hB,hs=>Xn hF hD hP _ k T H n ρ L' As hA hs
 | .label _,k,T,H,n,ρ,L',As,hA,hB,hs=>Xn hF hD hP _ k T H n ρ L' As hA hs
 | .region _ _ _,k,T,H,n,ρ,L',As,hA,hB,hs=>Xn hF hD hP _ k T H n ρ L' As hA hs
 | .loop _,k,T,H,n,ρ,L',As,hA,hB,hs=>Xn hF hD hP _ k T H n ρ L' As hA hs
 | .exit _,k,T,H,n,ρ,L',As,hA,hB,hs=>Xn hF hD hP _ k T H n ρ L' As hA hs
 | .ret,k,T,H,n,ρ,L',As,hA,hB,hs=>Xn hF hD hP _ k T H n ρ L' As hA hs
 | .scope _,k,T,H,n,ρ,L',As,hA,hB,hs=>Xn hF hD hP _ k T H n ρ L' As hA hs
 | .goto _,k,T,H,n,ρ,L',As,hA,hB,hs=>Xn hF hD hP _ k T H n ρ L' As hA hs
 | .refuse _,k,T,H,n,ρ,L',As,hA,hB,hs=>Xn hF hD hP _ k T H n ρ L' As hA hs
end
noncomputable def QoE(P:Program):List ResultVar->Clo (Tr Value->Hp->Option (List Value))
 | []=>⟨λ_ _=>some []⟩
 | .tmp t::rs=>⟨λT H=>match Y1 (pth t) t T with
  | some v=>(match(QoE P rs).run T H with
   | some vs=>bif ZZ v then some (v::vs)else none
   | none=>none)
  | none=>none⟩
 | .cell at' t::rs=>⟨λT H=>match Qgz P (en T) H t at' with
  | some v=>(match(QoE P rs).run T H with
   | some vs=>some (v::vs)
   | none=>none)
  | none=>none⟩
section
variable{P:Program}{ρ:Rho}{L':Qc}{T:Tr Value}{H:Hp}{As:List HA}
theorem QnS{v u:Value}(h:ZZ v=true)(e:den ρ v=some u):XH ρ v=some u:=by
 cases v<;>first|exact e|(simp[ZZ]at h)
theorem Qjm(hs:SR ρ (en T) L')(hH:HM ρ H As):∀{rs:List ResultVar}{vs:List Value},(QoE P rs).run T H=some vs->∃us,RV P L' As rs us/\QD (XH ρ) vs=some us
 | [],vs,h=>by cases h;exact⟨[],RV.nil,rfl⟩
 | .tmp t::rs,vs,h=>by
  simp only[QoE]at h;split at h
  ·rename_i v h1;split at h
   ·rename_i vs' h2;obtain⟨hc,rfl⟩:=Qx h;obtain⟨u,e1,e2⟩:=hs.get (show en T t=_ from h1);obtain⟨us,e3,e4⟩:=Qjm hs hH h2
    grind[RV.tmp,QD,QnS]
   ·cases h
  ·cases h
 | .cell at' t::rs,vs,h=>by
  simp only[QoE]at h;split at h
  ·rename_i v h1;split at h
   ·rename_i vs' h2;injection h with h
    subst h;obtain⟨us,e3,e4⟩:=Qjm hs hH h2;unfold Qgz at h1;split at h1
    ·rename_i m i hx;split at h1
     ·rename_i r sz ag hg hz;obtain⟨b,d,cu,Rs,g1,g2,g3,g4,_,_⟩:=Yp hH hg;obtain⟨p,e1,e2⟩:=hs.get hx;simp only[den,XH,Q6,X3,g1,Option.some.injEq]at e2;subst e2;cases ag with
      | true=>
       simp only[if_true]at h1;obtain⟨hb,rfl⟩:=Qx h1;exact⟨_,RV.cell e1 hz g4 (by rw[Xl g2];exact hb) e3,by simp only[QD,XH,List.toList_toArray,cut,XX sz (YO i g2),e4]⟩
      | false=>
       have h1':(bif Nat.beq sz 1 then r.cs[i]? else none)=some v:=by simpa using h1
       obtain⟨hb,h1'⟩:=QaW h1';have hk:=Nat.eq_of_beq_eq_true hb;subst hk;obtain⟨u,f1,f2⟩:=Qbj g2 h1'
       grind[RV.cell1,QD,QbS]
     ·cases h1
    ·cases h1
   ·cases h
  ·cases h
theorem QqW:∀{vs us:List Value},QD (XH ρ) vs=some us->den ρ (QX vs)=some (QX us)
 | [],us,h=>by cases h;rfl
 | [v],us,h=>by
  simp only[QD]at h;split at h
  ·rename_i b m h1 h2;injection h2 with h2
   injection h with h
   subst h h2;exact Qdu h1
  ·cases h
 | v::v'::vs,us,h=>by
  have hl:=Xl h;obtain⟨u,u',us',rfl⟩:∃u u' us',us=u::u'::us':=by rcases us with _|⟨u,_|⟨u',us'⟩⟩<;>grind
  show den ρ (.tuple (v::v'::vs).toArray)=some (.tuple (u::u'::us').toArray)
  grind[den]
end
noncomputable def QrH(i:Nat)(vs:List Value):Tr Value:=List.rec (λ_=>.lf) (λv _ ih i=>YD (pth i) i v (ih (Nat.succ i))) vs i
theorem Qpt{ρ:Rho}:∀{vs us:List Value}(i:Nat),QD (den ρ) vs=some us->SR ρ (en (QrH i vs)) (Qcy i us)
 | [],us,i,h=>λt v hv=>by
  have h':Y1 (pth t) t (.lf:Tr Value)=some v:=hv;rw[Zs]at h';cases h'
 | v::vs,us,i,h=>by
  simp only[QD]at h;split at h
  ·rename_i u m h1 h2;injection h with h
   subst h;exact(Qpt (i+1) h2).set h1
  ·cases h
theorem QsJ{X:Ctx}{L:Qc}{w0:World}{As:List HA}{rs:List ResultVar}{vs:List Value}(hr:X.fn.results=rs.toArray)(hv:RV X.P L As rs vs)(h:∀w,HS w0 [] As w->X.R (.returned (QX vs)) w)(hrd:X.rd=none)(hdf:X.df=[]):SE X .ret [] L (HS w0 [] As):=by
 intro a w ha hw;refine Qke hrd (ha.none hdf) (v:=QX vs) ?_ (h w hw);have hm:=hv.run ha hw;rw[QdQ hr,Array.mapM_eq_mapM_toList];simp only[Sem.run_bind,Sem.run_map,hm,Result.andThen_ok,Sem.run_pure]
 match vs with
 | []=>rfl
 | [v]=>rfl
 | u::v::vs=>simp[QX]
theorem Qss{X:Ctx}{L:Qc}{w0:World}{M:List Nat}{As As':List HA}{D:Nat}{rs:List ResultVar}{vs:List Value}(hr:X.fn.results=rs.toArray)(hp:QP As (.obj D (.deferred (some []))) As')(hv:RV X.P L As' rs vs)(h:∀w,HS w0 M As' w->X.R (.returned (QX vs)) w)(hrd:X.rd=none)(hdf:X.df=[D]):SE X .ret [] L (HS w0 M As):=by
 intro a w ha hw;show(match X.rd with|none=>bodyPostM X.F 0 X.P X.fn X.R .ret a w|some l=>roundPost X.P l X.R .ret a w);rw[hrd];show LeavesInM X.F 0 X.P X.fn a.tmps X.R a.defers .returning w;rw[ha.defers,hdf];have h1:=(hw.putObj hp (.deferred none)).tail;refine⟨by simp,.inl ⟨D,_,rfl,run_takeDeferred (hw.obj_get hp),QX vs,?_,h _ h1⟩⟩;have hm:=hv.run ha h1;rw[QdQ hr,Array.mapM_eq_mapM_toList];simp only[Sem.run_bind,Sem.run_map,hm,Result.andThen_ok,Sem.run_pure]
 match vs with
 | []=>rfl
 | [v]=>rfl
 | u::v::vs=>simp[QX]
noncomputable def QiY(P:Program)(m:Nat)(Dr:Nat->Array Oper->CS)(g:FuncId):Clo (CallF->List Value->Hp->Nat->Option (Value×Hp×Nat)):=match P.funcs[g]? with
 | some fn=>match fn.body with
  | some b=>⟨λF vs H n=>bif Nat.ble vs.length fn.ntmps then(match(QaL P fn.ntmps m Dr b).run F (QrH 0 vs) H n with
   | .rt T H n=>(match(QoE P fn.results.toList).run T H with
    | some rs=>some (QX rs,H,n)
    | none=>none)
   | .nm T H n=>(match fn.results.toList with
    | []=>some (.tuple #[],H,n)
    | _=>none)
   | _=>none)else none⟩
  | none=>⟨λ_ _ _ _=>none⟩
 | none=>⟨λ_ _ _ _=>none⟩
theorem QnM{P:Program}{r0:Rho}{m:Nat}{Dr:Nat->Array Oper->CS}{F:CallF}(hF:CallOk P r0 F)(hD:QlW P Dr):QkZ P r0 (λg=>(QiY P m Dr g).run F):=by
 intro f vs H n v H' n' h w0 ρ us As hle0 hus hH hf w hw;simp only[QiY]at h;split at h
 ·rename_i fn h1;split at h
  ·rename_i b h2;obtain⟨hc,h⟩:=QaW h;have hle:Nat.ble us.length fn.ntmps=true:=by rw[Xl hus];exact hc
   refine enter (args:=us) (C:=HS w0 [] As) h1 rfl h2 hle hw ?_;refine Qbn (m:=m) hF hD rfl rfl rfl b [] (QrH 0 vs) H n ρ _ As ?_ ?_ ⟨hle0,Qpt 0 hus,hH,hf⟩
   ·show Xi r0 w0 ρ _ [] ((QaL P fn.ntmps m Dr b).run F (QrH 0 vs) H n);split at h
    ·rename_i T2 H2 n2 hr;rw[hr];intro ρ2 L2 As2 hle2 hs2;split at h
     ·rename_i rs hrs;injection h with h
      injection h with e1 e2
      injection e2 with e2 e3
      subst e1 e2 e3;obtain⟨us2,g1,g2⟩:=Qjm hs2.sr hs2.hp hrs;exact QsJ (rs:=fn.results.toList) (by simp) g1 (λw' hw'=>⟨ρ2,As2,QX us2,hle2,hs2.fr,QqW g2,hs2.hp,rfl,hw'⟩) rfl rfl
     ·cases h
    ·rename_i T2 H2 n2 hr;rw[hr];intro ρ2 L2 As2 hle2 hs2;split at h
     ·rename_i hres;injection h with h
      injection h with e1 e2
      injection e2 with e2 e3
      subst e1 e2 e3;have hres':fn.results= #[]:=by rw[<-Array.toArray_toList (xs:=fn.results),hres]
      exact QgV hres' (λw' hw'=>⟨ρ2,As2,.tuple #[],hle2,hs2.fr,rfl,hs2.hp,rfl,hw'⟩) rfl rfl
     ·cases h
    ·cases h
   ·intro D ρ1 h1' h2';show Xi ρ1 w0 ρ1 _ [] ((QaL P fn.ntmps m Dr b).run F (QrH 0 vs) H n);split at h
    ·rename_i T2 H2 n2 hr;rw[hr];intro ρ2 L2 As2 hle2 hs2;split at h
     ·rename_i rs hrs;injection h with h
      injection h with e1 e2
      injection e2 with e2 e3
      subst e1 e2 e3;obtain⟨Bs,k1,k2⟩:=hs2.hp.split;have hex:ρ2.ex=.obj D (.deferred (some []))::ρ.ex:=hle2.2.trans h2';have hpm:As2.Perm (.obj D (.deferred (some []))::(Bs++ρ.ex)):=by simp_all
      have hsr:SR (ρ2.wx ρ.ex) (en T2) L2:=hs2.sr;obtain⟨us2,g1,g2⟩:=Qjm hsr (k2 ρ.ex) hrs;exact Qss (rs:=fn.results.toList) (by simp) hpm g1 (λw' hw'=>⟨ρ2.wx ρ.ex,Bs++ρ.ex,QX us2,⟨λn x hx=>hle2.1 n x (h1' n x hx),rfl⟩,hs2.fr,QqW g2,k2 _,rfl,hw'⟩) rfl rfl
     ·cases h
    ·rename_i T2 H2 n2 hr;rw[hr];intro ρ2 L2 As2 hle2 hs2;split at h
     ·rename_i hres;injection h with h
      injection h with e1 e2
      injection e2 with e2 e3
      subst e1 e2 e3;obtain⟨Bs,k1,k2⟩:=hs2.hp.split;have hex:ρ2.ex=.obj D (.deferred (some []))::ρ.ex:=hle2.2.trans h2';have hpm:As2.Perm (.obj D (.deferred (some []))::(Bs++ρ.ex)):=by simp_all
      have hres':fn.results= #[]:=by rw[<-Array.toArray_toList (xs:=fn.results),hres]
      exact QuN (As':=Bs++ρ.ex) (D:=D) hres' hpm (λw' hw'=>⟨ρ2.wx ρ.ex,Bs++ρ.ex,.tuple #[],⟨λn x hx=>hle2.1 n x (h1' n x hx),rfl⟩,hs2.fr,rfl,k2 _,rfl,hw'⟩) rfl rfl
     ·cases h
    ·cases h
  ·cases h
 ·cases h
noncomputable def bare(v:Value):Bool:=(den ⟨λ_=>none,[]⟩ v).isSome
noncomputable def QnF(F:Qj4)(g:FuncId)(vs:List Value):Option Value:=match F g vs .lf 0 with
 | some r=>bif Xz vs&&bare r.1 then some r.1 else none
 | none=>none
theorem QpN{P:Program}{F:Qj4}(hF:QkZ P ⟨λ_=>none,[]⟩ F):QjP P λg vs=>bif QK P g then QnF F g vs else none:=by
 intro f vs v h w0 ρ us As hvs o L' args ts ho hev;obtain⟨hfn,h⟩:=QaW h;unfold QnF at h;split at h
 ·rename_i r hr;obtain⟨hc,rfl⟩:=Qx h;obtain⟨v,H',n'⟩:=r;simp only[Bool.and_eq_true]at hc
  have hus:us=vs:=by
   have h2:=XA (λa b e=>Qdu (QbS e)) (Ya (ρ:=ρ) hc.1)
   grind
  subst hus;obtain⟨u,hu⟩:=Option.isSome_iff_exists.1 hc.2
  have hmono:∀{ρ':Rho}{x y:Value},den ⟨λ_=>none,[]⟩ x=some y->den ρ' x=some y:=λ{ρ'}{x}{y}e=>by
   have:=Qhf (ρ:=⟨λ_=>none,ρ'.ex⟩) (ρ':=ρ') ⟨λn x h=>(by cases h),rfl⟩ x y e;exact this
  refine⟨u,hmono hu,?_⟩;intro a w hρ hw
  have hcall:=hF f us .lf 0 v H' n' hr w ⟨λ_=>none,[]⟩ us [] (Rho.le_refl _) (XA (λa b e=>Qdu (QbS e)) (Ya hc.1)) ⟨[],[],(λm r hm=>by
   have h':Y1 (pth m) m (.lf:Hp)=some r:=hm;rw[Zs]at h';cases h'),rfl,rfl⟩ (λ_ _=>rfl) w (HS.refl w [])
  rw[Qan ho hρ (show ev L' (.func f)=some (.func (.func f) #[] #[])from rfl) hfn hev];simp only[Array.empty_append,Array.append_empty];refine Calls.mono hcall λe w'⟨ρ',As',u',h1,h2,h3,h4,h5,h6⟩=>?_;rw[hmono hu]at h3;injection h3 with h3
  subst h3;exact⟨_,h5,rfl,h6.nil.below⟩
 ·cases h
structure KnOk(P:Program)(K:CallF):Prop where
 f:∀r1 Y,QkZ P r1 (K.f Y)
 e:QjP P K.e
noncomputable def evF(P:Program)(K:CallF)(Z:FuncId->Bool)(m:Nat)(Dr:Nat->Array Oper->CS)(f:Nat):CallF:=
 Nat.rec ⟨λ_ _ _ _ _=>none,K.e,noY⟩ (λ_ ih=>⟨λY g vs H n=>match K.f Y g vs H n with
  | some r=>some r
  | none=>(QiY P m Dr g).run ⟨ih.f,ih.e,Y⟩ vs H n,λg vs=>match K.e g vs with
  | some v=>some v
  | none=>Bool.rec none (bif QK P g then QnF (ih.f noY) g vs else none) (Z g),noY⟩) f
theorem Qrh{P:Program}{K:CallF}{Z:FuncId->Bool}{m:Nat}{Dr:Nat->Array Oper->CS}(hK:KnOk P K)(hD:QlW P Dr):∀f r0,CallOk P r0 (evF P K Z m Dr f)
 | 0,r0=>⟨(λ_ _ _ _ _ _ _ _ _ _ h=>by cases h),hK.e,QdI⟩
 | f+1,r0=>by
  have ih:=Qrh (Z:=Z) (m:=m) hK hD f;refine⟨?_,?_,QdI⟩
  ·intro r1 Y hY g vs H n v H' n' h
   have h':(match K.f Y g vs H n with
    | some r=>some r
    | none=>(QiY P m Dr g).run ⟨(evF P K Z m Dr f).f,(evF P K Z m Dr f).e,Y⟩ vs H n)=some (v,H',n'):=h
   split at h'
   ·rename_i r hr;injection h' with h'
    subst h';exact hK.f r1 Y g vs H n v H' n' hr
   ·exact QnM (r0:=r1) (⟨(ih r1).f,(ih r1).e,hY⟩:CallOk P r1 ⟨(evF P K Z m Dr f).f,(evF P K Z m Dr f).e,Y⟩) hD g vs H n v H' n' h'
  ·intro g vs v h
   have h':(match K.e g vs with
    | some v=>some v
    | none=>Bool.rec none (bif QK P g then QnF ((evF P K Z m Dr f).f noY) g vs else none) (Z g))=some v:=h
   split at h'
   ·rename_i v' hr;injection h' with h'
    subst h';exact hK.e g vs v' hr
   ·cases hz:Z g with
    | false=>rw[hz]at h';cases h'
    | true=>
     rw[hz]at h';exact QpN ((ih ⟨λ_=>none,[]⟩).f _ _ QdI) g vs v h'
end Ev
namespace Ev
open Go Go.RowKit
structure Stp where
 i:Nat
 okP:Bool
 okQ:Bool
 okH:Bool
 turn:Option (List Nat)
def onF(F:List Nat)(i:Nat):Bool:=F.all λf=>!Nat.beq f i
def Qml(n:Nat):List (List Nat):=[]::(List.range n).map λj=>[j]
def Qwm(ops:Array Oper):Array Bool->List Nat->Bool
 | listed,[]=>Region.ready .any ops listed==[]
 | listed,i::r=>Qwm ops (listed.setIfInBounds i true) r
noncomputable def QsD:Option Addr->Option Addr->Bool
 | none,none=>true
 | some ⟨a,b,none⟩,some ⟨c,d,none⟩=>Nat.beq a c&&Nat.beq b d
 | some ⟨a,b,some e⟩,some ⟨c,d,some f⟩=>Nat.beq a c&&(Nat.beq b d&&Nat.beq e f)
 | _,_=>false
theorem Qnb{a b:Option Addr}(h:QsD a b=true):a=b:=by
 unfold QsD at h;split at h<;>simp_all
noncomputable def eqA:Value->Value->Bool
 | .int k (.ofNat a),.int k' (.ofNat b)=>kEq k k'&&Nat.beq a b
 | .bool a,.bool b=>a==b
 | .string ⟨⟨a⟩⟩,.string ⟨⟨b⟩⟩=>Qph a b
 | .pointer a,.pointer b=>QsD a b
 | .slice a l c,.slice b l' c'=>QsD a b&&(Nat.beq l l'&&Nat.beq c c')
 | .map (some a),.map (some b)=>Nat.beq a b
 | .map none,.map none=>true
 | .nilFunc,.nilFunc=>true
 | _,_=>false
theorem Qlk{a b:Value}(h:eqA a b=true):a=b:=by
 unfold eqA at h;split at h
 ·simp only[Bool.and_eq_true]at h;rw[Qcx h.1,Nat.eq_of_beq_eq_true h.2]
 ·grind
 ·grind[QfT]
 ·rw[Qnb h]
 ·simp only[Bool.and_eq_true]at h;rw[Qnb h.1,Nat.eq_of_beq_eq_true h.2.1,Nat.eq_of_beq_eq_true h.2.2]
 ·simp_all
 ·rfl
 ·rfl
 ·cases h
def eqL(f:Value->Value->Bool):List Value->List Value->Bool
 | [],[]=>true
 | a::l,b::m=>f a b&&eqL f l m
 | _,_=>false
theorem QiT{f:Value->Value->Bool}(hf:∀a b,f a b=true->a=b):∀{l m:List Value},eqL f l m=true->l=m
 | [],[],_=>rfl
 | a::l,b::m,h=>by
  simp only[eqL,Bool.and_eq_true]at h;rw[hf a b h.1,QiT hf h.2]
 | [],_::_,h=>by cases h
 | _::_,[],h=>by cases h
noncomputable def eqF:Value->Value->Bool
 | .func (.func f) ⟨a⟩ ⟨b⟩,.func (.func g) ⟨c⟩ ⟨d⟩=>Nat.beq f g&&(eqL eqA a c&&eqL eqA b d)
 | a,b=>eqA a b
theorem QuQ{a b:Value}(h:eqF a b=true):a=b:=by
 unfold eqF at h;split at h
 ·simp only[Bool.and_eq_true]at h;rw[Nat.eq_of_beq_eq_true h.1,QiT (λ_ _=>Qlk) h.2.1,QiT (λ_ _=>Qlk) h.2.2]
 ·exact Qlk h
noncomputable def Qv7(x y:HB):Bool:=Nat.beq x.ty y.ty&&(Nat.beq x.sz y.sz&&eqL eqF x.cs y.cs)
theorem QtW{x y:HB}(h:Qv7 x y=true):x=y:=by
 simp only[Qv7,Bool.and_eq_true]at h;obtain⟨a,b,c⟩:=x;obtain⟨d,e,f⟩:=y;simp only at h;rw[Nat.eq_of_beq_eq_true h.1,Nat.eq_of_beq_eq_true h.2.1,QiT (λ_ _=>QuQ) h.2.2]
def QsU:List Int->List Int->Bool
 | [],[]=>true
 | a::l,b::m=>decide (a=b)&&QsU l m
 | _,_=>false
theorem QmW:∀{l m:List Int},QsU l m=true->l=m
 | [],[],_=>rfl
 | a::l,b::m,h=>by
  simp only[QsU,Bool.and_eq_true,decide_eq_true_eq]at h;rw[h.1,QmW h.2]
 | [],_::_,h=>by cases h
 | _::_,[],h=>by cases h
noncomputable def Qrm:HX->HX->Bool
 | .row x,.row y=>Qv7 x y
 | .mp x,.mp y=>QsU x y
 | _,_=>false
theorem Qta{x y:HX}(h:Qrm x y=true):x=y:=by
 unfold Qrm at h
 grind[QtW,QmW]
noncomputable def QkS(H H':Hp)(R:List Nat):Bool:=List.rec true (λm _ ih=>match YC H m with
 | some r=>(match YC H' m with
  | some r'=>Bool.rec false ih (Qrm r r')
  | none=>false)
 | none=>false) R
theorem Qes{H H':Hp}:∀{R:List Nat},QkS H H' R=true->∀m∈R,YC H' m=YC H m
 | [],_,m,hm=>by cases hm
 | a::R,h,m,hm=>by
  have h':(match YC H a with
   | some r=>(match YC H' a with
    | some r'=>Bool.rec false (QkS H H' R) (Qrm r r')
    | none=>false)
   | none=>false)=true:=h
  split at h'
  ·rename_i r h1;split at h'
   ·rename_i r' h2;cases he:Qrm r r' with
    | false=>rw[he]at h';cases h'
    | true=>
     rw[he]at h';rcases List.mem_cons.1 hm with rfl|hm
     ·rw[h1,h2,Qta he]
     ·exact Qes h' m hm
   ·cases h'
  ·cases h'
abbrev DF:=CallF->Tr Value->Hp->Nat->List Nat->Rs
abbrev DS:=Clo DF
noncomputable def noD:DS:=⟨λ_ _ _ _ _=>.bad⟩
noncomputable def memN(m:Nat)(R:List Nat):Bool:=List.rec false (λa _ ih=>Bool.rec ih true (Nat.beq a m)) R
noncomputable def QoS(m:Option Nat)(R:List Nat):List Nat:=Option.rec R (λk=>Bool.rec (k::R) R (memN k R)) m
noncomputable def yes(b:Bool)(r:Rs):Rs:=Bool.rec .bad r b
noncomputable def dOn(P:Program)(nt:Nat)(s:Stp)(o:Oper)(rest:DS):DS:=match o.dst with
 | some d=>bif Nat.blt d nt then⟨λF T H n R=>match(ZS P o.op).run F T H n with
  | .no=>.bad
  | .p v=>yes s.okP (rest.run F (YD (pth d) d v T) H n R)
  | .q m v=>(match s.okH,s.turn with
   | true,none=>rest.run F (YD (pth d) d v T) H n R
   | _,_=>yes s.okQ (rest.run F (YD (pth d) d v T) H n (QoS m R)))
  | .new v x=>yes s.okH (match s.turn with
   | some _=>rest.run F (YD (pth d) d v T) (YZ H n x) (Nat.succ n) []
   | none=>rest.run F (YD (pth d) d v T) (YZ H n x) (Nat.succ n) R)
  | .h v H' n'=>yes s.okH (match s.turn with
   | some _=>rest.run F (YD (pth d) d v T) H' n' []
   | none=>yes (QkS H H' R) (rest.run F (YD (pth d) d v T) H' n' R))⟩else noD
 | none=>bif o.guard.isNone then⟨λF T H n R=>match(ZS P o.op).run F T H n with
  | .new v x=>yes s.okH (match s.turn with
   | some _=>rest.run F T (YZ H n x) (Nat.succ n) []
   | none=>rest.run F T (YZ H n x) (Nat.succ n) R)
  | .h v H' n'=>yes s.okH (match s.turn with
   | some _=>rest.run F T H' n' []
   | none=>yes (QkS H H' R) (rest.run F T H' n' R))
  | _=>.bad⟩else noD
noncomputable def Qtd(nt:Nat)(s:Stp)(dst:Option Nat)(rest:DS):DS:=match dst with
 | some d=>bif Nat.blt d nt then(match s.okP with
  | true=>⟨λF T H n R=>rest.run F (YD (pth d) d undef T) H n R⟩
  | false=>match s.okH,s.turn with
   | true,some _=>⟨λF T H n R=>rest.run F (YD (pth d) d undef T) H n []⟩
   | _,_=>noD)else noD
 | none=>noD
def X4(H:Hp):List Nat->List (Nat×HX)->Prop
 | [],[]=>True
 | m::R,(k,r)::B=>k=m/\YC H m=some r/\m ∉ R/\X4 H R B
 | _,_=>False
theorem X4.stay{H H':Hp}:∀{R:List Nat}{B:List (Nat×HX)},X4 H R B->(∀m∈R,YC H' m=YC H m)->X4 H' R B
 | [],[],_,_=>trivial
 | m::R,(k,r)::B,h,hs=>⟨h.1,by rw[hs m (List.mem_cons_self ..)];exact h.2.1,h.2.2.1,X4.stay h.2.2.2 λp hp=>hs p (List.mem_cons_of_mem _ hp)⟩
 | [],_::_,h,_=>h.elim
 | _::_,[],h,_=>h.elim
theorem X4.has{H:Hp}:∀{R:List Nat}{B:List (Nat×HX)},X4 H R B->∀m∈R,∃r,YC H m=some r
 | m::R,(k,r)::B,h,p,hp=>by
  rcases List.mem_cons.1 hp with rfl|hp
  ·exact⟨r,h.2.1⟩
  ·exact h.2.2.2.has p hp
 | [],_,_,p,hp=>by cases hp
 | _::_,[],h,_,_=>h.elim
theorem QhT{ρ:Rho}:∀{R:List Nat}{B:List (Nat×HX)}{H:Hp}{G:List (Nat×HX)}{As:List HA},(∀m r,YC H m=some r->Qdj G m=some r)->QD (ha ρ) G=some As->X4 H R B->∃Bs Rs,QD (ha ρ) B=some Bs/\As.Perm (Bs++Rs)
 | [],[],H,G,As,_,_,_=>⟨[],As,rfl,.refl _⟩
 | m::R,(k,r)::B,H,G,As,hG,hA,h=>by
  obtain⟨rfl,h1,h2,h3⟩:=h;obtain⟨A,Rs,g1,g4,_,As3,g6,g7,g8⟩:=Qjj hA (hG _ _ h1)
  obtain⟨Bs,Rs2,h4,h5⟩:=QhT (H:=Qi0 H k) (R:=R) (B:=B) (G:=QiN G k) (λp r' hp=>by
   obtain⟨e1,e2⟩:=QkI hp;rw[g8 p e1]
   exact hG _ _ e2) g6 (h3.stay λp hp=>by
    have hne:p≠k:=λe=>by subst e;exact h2 hp
    exact QcG hne)
  exact⟨A::Bs,Rs2,by simp only[QD,g1,h4],g4.perm.trans ((g7.trans h5).cons _)⟩
 | [],_::_,_,_,_,_,_,h=>h.elim
 | _::_,[],_,_,_,_,_,h=>h.elim
theorem Qjx{ρ:Rho}{R:List Nat}{B:List (Nat×HX)}{H:Hp}{As:List HA}(hH:HM ρ H As)(hB:X4 H R B):∃Bs Rs,QD (ha ρ) B=some Bs/\As.Perm (Bs++ρ.ex++Rs):=by
 obtain⟨G,Bs0,h1,h2,rfl⟩:=hH;obtain⟨Bs,Rs,h3,h4⟩:=QhT h1 h2 hB;refine⟨Bs,Rs,h3,(h4.append_right _).trans ?_⟩;simp[List.append_assoc,List.perm_append_comm.append_left]
noncomputable def Qe0:List (Nat×HX)->Hp
 | []=>.lf
 | (m,r)::B=>YZ (Qe0 B) m r
theorem QgQ:∀{B:List (Nat×HX)}{m:Nat}{r:HX},YC (Qe0 B) m=some r->Qdj B m=some r
 | [],m,r,h=>by
  have h':Y1 (pth m) m (.lf:Hp)=some r:=h;rw[Zs]at h';cases h'
 | (k,x)::B,m,r,h=>by
  simp only[Qdj];rcases Qf2 h with⟨rfl,rfl⟩|⟨h1,h2⟩
  ·simp[Nat.beq_refl]
  ·have hq:Nat.beq k m=false:=by cases hz:Nat.beq k m<;>simp_all
   rw[hq];exact QgQ h2
theorem QnR{ρ:Rho}{B:List (Nat×HX)}{Bs:List HA}(h:QD (ha ρ) B=some Bs):HM ρ (Qe0 B) (Bs++ρ.ex):=⟨B,Bs,λ_ _=>QgQ,h,rfl⟩
theorem Qh5{H:Hp}:∀{R:List Nat}{B:List (Nat×HX)},X4 H R B->∀m∈R,YC (Qe0 B) m=YC H m
 | m::R,(k,r)::B,h,p,hp=>by
  obtain⟨rfl,h1,h2,h3⟩:=h;show YC (YZ (Qe0 B) k r) p=YC H p
  by_cases hpk:p=k
  ·subst hpk;rw[h1];exact Zz _ _ _ _
  ·rcases List.mem_cons.1 hp with e|hp
   ·grind
   ·rw[Qfd hpk];exact Qh5 h3 p hp
 | [],_,_,p,hp=>by cases hp
 | _::_,[],h,_,_=>h.elim
section
variable{X:Ctx}{ops:Array Oper}{k:List KI}{L:Qc}{C B B':World->Prop}{F F':List Nat}{fuel:Nat}{listed:Array Bool}{P:Program}{w0:World}{CF:CallF}
theorem Qsn(hB:∀w,B' w->B w)(h:D X ops F B' fuel listed k L C):D X ops F B fuel listed k L C:=λhcl a ha=>Qi7 hB (h hcl a ha)
theorem QnD(hf:∃f∈F,listed.getD f false=true)(h:D X ops F' B' fuel listed k L C):D X ops F B fuel listed k L C:=λhcl a ha=>Qiv hf (h hcl a ha)
theorem QvI{As:List HA}{B:World->Prop}{d i ty j:Nat}{op:Op}{pos:String}{aft:Array Edge}{want:Bool}{u:Value}(dj:Nat)(hi:ops[i]?=some ⟨some d,op,ty,pos,aft,some (j,want)⟩)(hj:(ops[j]?).bind (·.dst)=some dj)(hb:Qc.get L dj=some u)(hw:u=.bool (!want)\/u=undef)(hr:(Region.ready .any ops listed==[i])=true)(hB:∀w,HS w0 [] As w->B w)(hd:Nat.blt d X.n=true)
  (next:D X ops F B fuel (listed.setIfInBounds i true) k ((d,undef)::L) (HS w0 [] As)):D X ops F B (fuel+1) listed k L (HS w0 [] As):=by
 intro hcl a ha;have hr':Region.ready .any ops listed=[i]:=by simpa using hr
 refine QfG hr' (λ_=>⟨hB,HS.stab _ _ _⟩) ?_
 have hy:yielded ops a.tmps j=(match u with| .bool b=>some b|_=>none):=by
  rcases hw with rfl|rfl<;>simp[yielded,hj,ha.slot _ _ hb,undef]
 unfold Yu;simp only[hi];rw[if_neg (by rcases hw with rfl|rfl<;>simp[Region.wanted,hy,undef])];exact next (hcl.set (by rw[hr'];exact List.mem_singleton.2 rfl)) _ (ha.put d _ hd)
end
section
variable{P:Program}{r0:Rho}{w0:World}{CF:CallF}{X:Ctx}{k:List KI}{ops:Array Oper}
abbrev Got(ρ:Rho)(v:Value)(H':Hp)(n':Nat):Type:={x:Rho×List HA×Value // ρ.le x.1/\Q2 x.1 n'/\den x.1 v=some x.2.2/\HM x.1 H' x.2.1}
theorem OpT.got{o:Oper}{L':Qc}{C:World->Prop}{ρ:Rho}{v:Value}{H':Hp}{n':Nat}(h:OpT P o L' C (Out w0 ρ v H' n')):OpH P o L' C (G:=Got ρ v H' n') (λx=>x.1.2.2) (λ_=>True) (λx=>HS w0 [] x.1.2.1):=by
 obtain⟨G,V,Fg,C',h1,h2⟩:=h;intro ag w hag hw;refine(h1 ag w hag hw).mono λu w'⟨g,e1,e2,e3⟩=>?_;obtain⟨ρ',As',g1,g2,g3,g4,g5⟩:=h2 g e2;exact⟨⟨(ρ',As',V g),g1,g2,g3,g4⟩,e1,trivial,g5 _ e3⟩
theorem Qdh{ρ ρ':Rho}{H:Hp}{R:List Nat}{B:List (Nat×HX)}{As Bs:List HA}(hle:ρ.le ρ')(hH:HM ρ' H As)(hR:QD (ha ρ) B=some Bs)(hB:X4 H R B):∀w,HS w0 [] As w->HS w0 [] (Bs++ρ.ex) w:=by
 obtain⟨Bs',Rs,h1,h2⟩:=Qjx hH hB;have h3:=XA (λ_ _=>QeI hle _ _) hR;rw[h1]at h3;injection h3 with h3
 subst h3;rw[<-hle.2];exactλw hw=>(hw.perm h2).sub (List.sublist_append_left ..)
theorem Qh7{listed:Array Bool}{i:Nat}(h:(Region.ready .any ops listed==[i])=true):(listed.setIfInBounds i true).getD i false=true:=by
 have h1:i∈Region.ready .any ops listed:=by grind
 have h2:=(mem_ready.1 h1).1;have h3:i<listed.size:=by grind
 simp_all
theorem Ql6{F:List Nat}{i:Nat}(h:onF F i=true):F.contains i=false:=by
 cases hc:F.contains i with
 | false=>rfl
 | true=>
  have h1:=List.all_eq_true.1 h i (by simpa using hc)
  simp_all
theorem QnV{ops:Array Oper}{F:List Nat}{i:Nat}{ps:List (List Nat)}(h:Yf ops F i ps=true):F.contains i=false:=by grind[Qa2]
theorem QcP{m:Nat}:∀{R:List Nat},memN m R=true ↔ m∈R
 | []=>⟨(λh=>by cases h),(λh=>by cases h)⟩
 | a::R=>by
  have hu:memN m (a::R)=(Bool.rec (memN m R) true (Nat.beq a m):Bool):=rfl;rw[hu];cases hb:Nat.beq a m with
  | true=>exact⟨(λ_=>by rw[Nat.eq_of_beq_eq_true hb];exact List.mem_cons_self ..),λ_=>rfl⟩
  | false=>
   have hne:m≠a:=λe=>by subst e;rw[Nat.beq_refl]at hb;cases hb
   simp_all[QcP]
theorem Qb0{b:Bool}{r:Rs}{ρ:Rho}{X:Ctx}{k:List KI}(h:Xi r0 w0 ρ X k (yes b r)):b=true/\Xi r0 w0 ρ X k r:=by
 cases b with
 | true=>exact⟨rfl,h⟩
 | false=>exact h.elim
theorem Qr1{H:Hp}{R:List Nat}{B:List (Nat×HX)}(hB:X4 H R B)(m:Option Nat)(hm:∀k,m=some k->∃r,YC H k=some r):∃B2,X4 H (QoS m R) B2/\(∀k,m=some k->k∈QoS m R)/\(B2=B\/∃p,B2=p::B):=by
 cases m with
 | none=>exact⟨B,hB,(λk h=>by cases h),.inl rfl⟩
 | some m=>
  obtain⟨r,hr⟩:=hm m rfl;have hu:QoS (some m) R=(Bool.rec (m::R) R (memN m R):List Nat):=rfl;cases hb:memN m R with
  | true=>
   rw[hb]at hu
   grind[QoS,QcP]
  | false=>
   rw[hb]at hu;have hu:QoS (some m) R=m::R:=hu;rw[hu];exact⟨(m,r)::B,⟨rfl,hr,(λh=>by rw[QcP.2 h]at hb;cases hb),hB⟩,(λk h=>by injection h with h;subst h;exact List.mem_cons_self ..),.inr ⟨_,rfl⟩⟩
theorem QtU{ρ:Rho}{B B2:List (Nat×HX)}{Bs Bs2:List HA}(hR:QD (ha ρ) B=some Bs)(h:QD (ha ρ) B2=some Bs2)(hc:B2=B\/∃p,B2=p::B):∀w,HS w0 [] (Bs2++ρ.ex) w->HS w0 [] (Bs++ρ.ex) w:=by
 rcases hc with rfl|⟨p,rfl⟩
 ·grind
 ·simp only[QD,hR]at h;split at h
  ·rename_i b m h1 h2;injection h2 with h2
   injection h with h
   subst h h2;exactλw hw=>hw.tail
  ·cases h
theorem Qbt{ρ:Rho}{H:Hp}{n:Nat}{As:List HA}{R:List Nat}{B:List (Nat×HX)}{x:HX}(hH:HM ρ H As)(hf:Q2 ρ n)(hB:X4 H R B):X4 (YZ H n x) R B:=by
 refine hB.stay λm hm=>Qfd λe=>?_;subst e;obtain⟨r,hr⟩:=hB.has m hm;obtain⟨A,Rs,g1,_⟩:=Qv6 hH hr;obtain⟨x,hx⟩:=QrP g1;rw[hf m (Nat.le_refl _)]at hx;cases hx
def QhM(P:Program)(r0:Rho)(w0:World)(CF:CallF)(X:Ctx)(k:List KI)(ops:Array Oper)(rest:DS)(F:List Nat)(fuel:Nat)(listed:Array Bool):Prop:=
 ∀(T:Tr Value)(H:Hp)(n:Nat)(R:List Nat)(B:List (Nat×HX))(ρ:Rho)(L':Qc)(As Bs:List HA),Xi r0 w0 ρ X k (rest.run CF T H n R)->StOk r0 w0 ρ ⟨T,H,n⟩ L' As->QD (ha ρ) B=some Bs->X4 H R B->D X ops F (HS w0 [] (Bs++ρ.ex)) fuel listed k L' (HS w0 [] As)
theorem QrJ(hF:CallOk P r0 CF)(hP:X.P=P){i:Nat}{dst:Option Nat}{op:Op}{ty:TypeId}{pos:String}{aft:Array Edge}{guard:Option (Nat×Bool)}{rest:DS}{Fs:List (List Nat)}{F:List Nat}{listed:Array Bool}{fuel:Nat}{s:Stp}
  (hsP:s.okP=true->(QV ops listed i&&onF F i)=true)(hsQ:s.okQ=true->(QV ops listed i&&(Yf ops F i (Qml ops.size)&&Qax F listed))=true)(hsH:s.okH=true->(Region.ready .any ops listed==[i])=true)(hsT:s.turn.isSome=F.contains i)
  (ih:QhM P r0 w0 CF X k ops rest (if F.contains i then Fs.headD []else F) fuel (listed.setIfInBounds i true))
  (ho:ops[i]?=some ⟨dst,op,ty,pos,aft,guard⟩){T:Tr Value}{H:Hp}{n:Nat}{R:List Nat}{B:List (Nat×HX)}{ρ:Rho}{L':Qc}{As Bs:List HA}
  (ht:Xi r0 w0 ρ X k ((dOn P X.n s ⟨dst,op,ty,pos,aft,guard⟩ rest).run CF T H n R))(hs:StOk r0 w0 ρ ⟨T,H,n⟩ L' As)(hR:QD (ha ρ) B=some Bs)(hB:X4 H R B)
  (hon:guard=none\/∃j want dj b,guard=some (j,want)/\(ops[j]?).bind (·.dst)=some dj/\Qc.get L' dj=some (.bool b)/\b=want):D X ops F (HS w0 [] (Bs++ρ.ex)) (fuel+1) listed k L' (HS w0 [] As):=by
 have hc:=QcU P op CF hF.fok T H n
 have mk:∀(v:Value)(H':Hp)(n':Nat),XL P (en T) H n CF op=some (.h v H' n')->s.okH=true->(guard.isNone||dst.isSome)=true ->
   ((F.contains i=true/\∀T2,(∀d,dst=some d->Nat.blt d X.n=true/\T2=YD (pth d) d v T)->(dst=none->T2=T)->Xi r0 w0 ρ X k (rest.run CF T2 H' n' []))\/(F.contains i=false/\X4 H' R B/\∀T2,(∀d,dst=some d->Nat.blt d X.n=true/\T2=YD (pth d) d v T)->(dst=none->T2=T)->Xi r0 w0 ρ X k (rest.run CF T2 H' n' R))) ->
   (∀d,dst=some d->Nat.blt d X.n=true)->D X ops F (HS w0 [] (Bs++ρ.ex)) (fuel+1) listed k L' (HS w0 [] As):=by
  intro v H' n' h1 h2 hgd hcase hdn;replace h2:=hsH h2;have ha:=QaR (w0:=w0) (L':=L') (o:=⟨dst,op,ty,pos,aft,none⟩) hF hs.le rfl hs.sr hs.hp hs.fr h1;have hH:=OpT.got ha;rw[<-hP]at hH;have hbase:=Qdh (w0:=w0) ρ.le_refl hs.hp hR hB
  have next:∀(T2:Tr Value)(x:Got ρ v H' n')(L3:Qc),SR x.1.1 (en T2) L3->(∀d,dst=some d->Nat.blt d X.n=true/\T2=YD (pth d) d v T)->(dst=none->T2=T)->D X ops F (HS w0 [] (Bs++ρ.ex)) fuel (listed.setIfInBounds i true) k L3 (HS w0 [] x.1.2.1):=by
   intro T2 x L3 hsr e1 e2;obtain⟨⟨ρ',As',u⟩,g1,g2,g3,g4⟩:=x;rcases hcase with⟨hfi,h⟩|⟨hfi,hst,h⟩
   ·simp only[hfi,if_true]at ih;refine QnD (B':=HS w0 [] ([]++ρ'.ex)) (F':=Fs.headD []) ⟨i,by simpa using hfi,Qh7 h2⟩ ?_;exact ih T2 H' n' [] [] ρ' L3 As' [] ((h T2 e1 e2).mono g1) ⟨Rho.le_trans hs.le g1,hsr,g4,g2⟩ rfl trivial
   ·simp only[hfi,Bool.false_eq_true,if_false]at ih;rw[<-g1.2];exact ih T2 H' n' R B ρ' L3 As' Bs ((h T2 e1 e2).mono g1) ⟨Rho.le_trans hs.le g1,hsr,g4,g2⟩ (XA (λ_ _=>QeI g1 _ _) hR) hst
  cases dst with
  | some d=>
   have hlt:=hdn d rfl;have hn:=λ(x:Got ρ v H' n')(_:True)=>next (YD (pth d) d v T) x ((d,x.1.2.2)::L') ((hs.sr.mono x.2.1).set x.2.2.2.1) (λd' e=>by injection e with e;subst e;exact⟨hlt,rfl⟩) (λe=>by cases e)
   rcases hon with hn'|⟨j,want,dj,b,hn',hj,hb,hw⟩
   ·subst hn';exact d_h i ho hH h2 hbase hlt hn
   ·subst hn';exact Qui i dj ho hj hb hw hH h2 hbase hlt hn
  | none=>
   have hn:=λ(x:Got ρ v H' n')(_:True)=>next T x L' (hs.sr.mono x.2.1) (λd' e=>by cases e) (λ_=>rfl)
   cases guard with
   | none=>exact d_h0 i ho hH h2 hbase hn
   | some jw=>cases hgd
 have turnT:∀y,s.turn=some y->F.contains i=true:=λy hy=>by
  cases hfi:F.contains i with
  | true=>rfl
  | false=>rw[hy,hfi]at hsT;cases hsT
 have turnF:s.turn=none->F.contains i=false:=λhy=>by
  cases hfi:F.contains i with
  | false=>rfl
  | true=>rw[hy,hfi]at hsT;cases hsT
 cases dst with
 | some d=>
  simp only[dOn]at ht;cases hb:Nat.blt d X.n with
  | false=>rw[hb]at ht;exact ht.elim
  | true=>
   rw[hb]at ht;simp only[cond_true]at ht;cases hr:(ZS P op).run CF T H n with
   | no=>rw[hr]at ht;exact ht.elim
   | p v=>
    rw[hr]at hc ht;obtain⟨hok,ht⟩:=Qb0 ht;replace hok:=hsP hok;rw[Bool.and_eq_true]at hok;obtain⟨u,e1,e2⟩:=QaR (w0:=w0) (L':=L') (o:=⟨some d,op,ty,pos,aft,none⟩) hF hs.le rfl hs.sr hs.hp hs.fr hc;rw[<-hP]at e1;have hfi:=Ql6 hok.2;simp only[hfi,Bool.false_eq_true,if_false]at ih;have next:D X ops F (HS w0 [] (Bs++ρ.ex)) fuel (listed.setIfInBounds i true) k ((d,u)::L') (HS w0 [] As):=ih _ H n R B ρ _ As Bs ht ⟨hs.le,hs.sr.set e2,hs.hp,hs.fr⟩ hR hB
    rcases hon with hn|⟨j,want,dj,b,hn,hj,hb',hw⟩
    ·subst hn;exact d_p i ho e1 hok.1 hok.2 hb next
    ·subst hn;exact Qny i dj ho hj hb' hw e1 hok.1 hok.2 hb next
   | q m v=>
    rw[hr]at hc ht;simp only[]at ht;split at ht
    ·rename_i hokH hturn;have hok:=hsH hokH;have hfi:=turnF hturn;simp only[hfi,Bool.false_eq_true,if_false]at ih;obtain⟨u,e1,e2⟩:=QaR (w0:=w0) (L':=L') (o:=⟨some d,op,ty,pos,aft,none⟩) hF hs.le rfl hs.sr hs.hp hs.fr (hc.1 H λ_ _=>rfl);rw[<-hP]at e1;have next:D X ops F (HS w0 [] (Bs++ρ.ex)) fuel (listed.setIfInBounds i true) k ((d,u)::L') (HS w0 [] As):=ih _ H n R B ρ _ As Bs ht ⟨hs.le,hs.sr.set e2,hs.hp,hs.fr⟩ hR hB
     have hbase:=Qdh (w0:=w0) ρ.le_refl hs.hp hR hB;rcases hon with hn|⟨j,want,dj,b,hn,hj,hb',hw⟩
     ·subst hn;exact d_h i ho (e1.h (HS.stab _ _ _)) hok hbase hb λ_ _=>next
     ·subst hn;exact Qui i dj ho hj hb' hw (e1.h (HS.stab _ _ _)) hok hbase hb λ_ _=>next
    obtain⟨hok,ht⟩:=Qb0 ht;replace hok:=hsQ hok;simp only[Bool.and_eq_true]at hok;obtain⟨B2,b1,b2,b3⟩:=Qr1 hB m hc.2;obtain⟨Bs2,Rs,g1,g2⟩:=Qjx hs.hp b1;have hev:=hc.1 (Qe0 B2) λk hk=>Qh5 b1 k (b2 k hk);obtain⟨u,e1,e2⟩:=QaR (w0:=w0) (L':=L') (o:=⟨some d,op,ty,pos,aft,none⟩) hF hs.le rfl hs.sr (QnR g1) hs.fr hev;rw[<-hP]at e1;have hfi:=QnV hok.2.1;simp only[hfi,Bool.false_eq_true,if_false]at ih;have next:D X ops F (HS w0 [] (Bs2++ρ.ex)) fuel (listed.setIfInBounds i true) k ((d,u)::L') (HS w0 [] As):=ih _ H n _ B2 ρ _ As Bs2 ht ⟨hs.le,hs.sr.set e2,hs.hp,hs.fr⟩ g1 b1
    refine Qsn (QtU hR g1 b3) ?_;rcases hon with hn|⟨j,want,dj,b,hn,hj,hb',hw⟩
    ·subst hn;exact d_q i _ ho e1 hok.1 hok.2.1 hok.2.2 hb next
    ·subst hn;exact Qt4 i dj _ ho hj hb' hw e1 hok.1 hok.2.1 hok.2.2 hb next
   | new v x=>
    rw[hr]at hc ht;obtain⟨hok,ht⟩:=Qb0 ht;refine mk v (YZ H n x) (n+1) hc hok (by simp) ?_ (λd' e=>by injection e with e;subst e;exact hb);split at ht
    ·rename_i y hy;exact .inl ⟨turnT y hy,λT2 e1 _=>by rw[(e1 d rfl).2];exact ht⟩
    ·rename_i hy;exact .inr ⟨turnF hy,Qbt hs.hp hs.fr hB,λT2 e1 _=>by rw[(e1 d rfl).2];exact ht⟩
   | h v H' n'=>
    rw[hr]at hc ht;obtain⟨hok,ht⟩:=Qb0 ht;refine mk v H' n' hc hok (by simp) ?_ (λd' e=>by injection e with e;subst e;exact hb);split at ht
    ·rename_i y hy;exact .inl ⟨turnT y hy,λT2 e1 _=>by rw[(e1 d rfl).2];exact ht⟩
    ·rename_i hy;obtain⟨hk,ht⟩:=Qb0 ht;exact .inr ⟨turnF hy,hB.stay (Qes hk),λT2 e1 _=>by rw[(e1 d rfl).2];exact ht⟩
 | none=>
  simp only[dOn]at ht;cases hg:guard.isNone with
  | false=>rw[hg]at ht;exact ht.elim
  | true=>
   rw[hg]at ht;simp only[cond_true]at ht;cases hr:(ZS P op).run CF T H n with
   | no=>rw[hr]at ht;exact ht.elim
   | p v=>rw[hr]at ht;exact ht.elim
   | q m v=>rw[hr]at ht;exact ht.elim
   | new v x=>
    rw[hr]at hc ht;obtain⟨hok,ht⟩:=Qb0 ht;refine mk v (YZ H n x) (n+1) hc hok (by simp[hg]) ?_ (λd' e=>by cases e);split at ht
    ·rename_i y hy;exact .inl ⟨turnT y hy,λT2 _ e2=>by rw[e2 rfl];exact ht⟩
    ·rename_i hy;exact .inr ⟨turnF hy,Qbt hs.hp hs.fr hB,λT2 _ e2=>by rw[e2 rfl];exact ht⟩
   | h v H' n'=>
    rw[hr]at hc ht;obtain⟨hok,ht⟩:=Qb0 ht;refine mk v H' n' hc hok (by simp[hg]) ?_ (λd' e=>by cases e);split at ht
    ·rename_i y hy;exact .inl ⟨turnT y hy,λT2 _ e2=>by rw[e2 rfl];exact ht⟩
    ·rename_i hy;obtain⟨hk,ht⟩:=Qb0 ht;exact .inr ⟨turnF hy,hB.stay (Qes hk),λT2 _ e2=>by rw[e2 rfl];exact ht⟩
end
end Ev
namespace Ev
open Go Go.RowKit
noncomputable def has(M i:Nat):Bool:=Bool.not (Nat.beq (Nat.land M (Nat.pow 2 i)) 0)
theorem Qa1(M i:Nat):has M i=M.testBit i:=by
 unfold has;cases h:M.testBit i with
 | true=>
  cases hb:Nat.beq (Nat.land M (Nat.pow 2 i)) 0 with
  | false=>rfl
  | true=>
   have h0:M &&& 2^i=0:=Nat.eq_of_beq_eq_true hb;have:=congrArg (λx=>x.testBit i) h0
   grind
 | false=>
  have h0:M &&& 2^i=0:=by
   apply Nat.eq_of_testBit_eq
   grind
  simp_all
noncomputable def Zw(a M:Nat):Bool:=Nat.beq (Nat.land a M) a
theorem QgA{a M:Nat}(h:Zw a M=true){j:Nat}(hj:a.testBit j=true):M.testBit j=true:=by
 have h0:a &&& M=a:=Nat.eq_of_beq_eq_true h
 grind
theorem Qk6{a M:Nat}(h:Zw a M=false):∃j,a.testBit j=true/\M.testBit j=false:=by
 refine Classical.byContradiction λhn=>?_
 have h0:a &&& M=a:=by
  apply Nat.eq_of_testBit_eq
  grind
 simp_all[Zw]
noncomputable def Yi(M i:Nat):Nat:=Nat.lor M (Nat.pow 2 i)
theorem ZK(M i j:Nat):(Yi M i).testBit j=(M.testBit j||decide (i=j)):=by
 show(M ||| 2^i).testBit j=_
 grind
noncomputable def Qh6(l:List Edge):Nat:=List.rec 0 (λe _ ih=>Bool.rec ih (Yi ih e.on) (Region.binds .any e)) l
theorem QhP(y:Nat):∀l:List Edge,(Qh6 l).testBit y=l.any λe=>Region.binds .any e&&Nat.beq e.on y
 | []=>by show(0:Nat).testBit y=_;simp
 | e::l=>by
  have hu:Qh6 (e::l)=(Bool.rec (Qh6 l) (Yi (Qh6 l) e.on) (Region.binds .any e):Nat):=rfl;rw[hu,List.any_cons,<-QhP y l];cases Region.binds .any e with
  | false=>rfl
  | true=>
   show(Yi (Qh6 l) e.on).testBit y=_;rw[ZK];have:decide (e.on=y)=Nat.beq e.on y:=by rw[Bool.eq_iff_iff,decide_eq_true_eq,Nat.beq_eq]
   grind
def Z1:Operand->List Nat->List Nat
 | .tmp t,l=>t::l
 | _,l=>l
def Qfs:List Operand->List Nat
 | []=>[]
 | x::l=>Z1 x (Qfs l)
def QjA:List (Nat×Operand)->List Nat
 | []=>[]
 | (_,x)::l=>Z1 x (QjA l)
def Qk3:Option Operand->List Nat->List Nat
 | some x,l=>Z1 x l
 | none,l=>l
def opT:Op->Option (List Nat)
 | .alloc _| .makeMap _ none=>some []
 | .move x| .assign x| .box _ x| .load _ x| .nilCheck x| .unOp _ _ x| .convert _ _ x| .fieldAddr _ x _| .field _ x _| .extract x _=>some (Z1 x [])
 | .pick c a b=>some (Z1 c (Z1 a (Z1 b [])))
 | .build _ ⟨ps⟩| .buildSlice _ _ ⟨ps⟩=>some (QjA ps)
 | .store _ a v| .binOp _ _ a v _| .makeSlice _ a v| .indexAddr _ a v| .index _ a v| .lookup _ a v _=>some (Z1 a (Z1 v []))
 | .mapUpdate _ a b c=>some (Z1 a (Z1 b (Z1 c [])))
 | .makeFunc _ ⟨f⟩ ⟨c⟩=>some (Qfs f++Qfs c)
 | .slice _ x l h m=>some (Z1 x (Qk3 l (Qk3 h (Qk3 m []))))
 | .call ⟨.value f,⟨args⟩,_⟩=>some (Z1 f (Qfs args))
 | .call ⟨.builtin _,⟨args⟩,_⟩=>some (Qfs args)
 | _=>none
theorem Qc0{x:Operand}{l:List Nat}{t:Nat}:t∈Z1 x l ↔ x=.tmp t\/t∈l:=by
 cases x<;>simp[Z1,eq_comm]
theorem Qh1{t:Nat}:∀{l:List Operand},t∈Qfs l ↔ Operand.tmp t∈l
 | []=>by simp[Qfs]
 | x::l=>by simp only[Qfs,Qc0,Qh1,List.mem_cons];simp[eq_comm]
theorem QhW{t:Nat}:∀{l:List (Nat×Operand)},t∈QjA l ↔ Operand.tmp t∈l.map (·.2)
 | []=>by simp[QjA]
 | (i,x)::l=>by simp only[QjA,Qc0,QhW,List.map_cons,List.mem_cons];simp[eq_comm]
theorem Qol{t:Nat}{o:Option Operand}{l:List Nat}:t∈Qk3 o l ↔ o=some (.tmp t)\/t∈l:=by
 cases o<;>simp[Qk3,Qc0]
theorem Qtw{op:Op}{l:List Nat}(h:opT op=some l){t:Nat}(ht:Operand.tmp t∈op.operands):t∈l:=by
  unfold opT at h
  split at h<;>first
    | (cases h;done)
    | (injection h with h;subst h
       simp only[Op.operands,Call.operands,Array.mem_append,List.mem_toArray,Option.mem_toArray,List.mem_map,Qc0,Qh1,QhW,Qol,List.mem_append,List.mem_cons,List.mem_nil_iff,or_false,Option.mem_def,List.mem_singleton,List.not_mem_nil,false_or]at ht ⊢
       all_goals (first|exact ht|grind))
def gdT(ops:List Oper):Option (Nat×Bool)->List Nat
 | none=>[]
 | some (g,_)=>match ops[g]? with
  | some o=>(match o.dst with
   | some d=>[d]
   | none=>[])
  | none=>[]
structure Inf where
 em:Nat
 dst:Option Nat
 lk:List Nat
noncomputable def ZF(ops:List Oper)(o:Oper):Option Inf:=match opT o.op,o.after with
 | some l,⟨es⟩=>some ⟨Qh6 es,o.dst,gdT ops o.guard++l⟩
 | none,_=>none
theorem QbB{ops:List Oper}{o:Oper}{f:Inf}(h:ZF ops o=some f)(y:Nat):f.em.testBit y=o.after.any λe=>Region.binds .any e&&Nat.beq e.on y:=by
 unfold ZF at h;split at h
 ·rename_i l es h1 h2
  grind[QhP]
 ·cases h
theorem Qfe{ops:List Oper}{o:Oper}{f:Inf}(h:ZF ops o=some f){t:Nat}(ht:t∈o.looksAt ⟨ops⟩):t∈f.lk:=by
 unfold ZF at h;split at h
 ·rename_i l es h1 h2;injection h with h
  subst h;simp only[List.mem_append];unfold Oper.looksAt at ht
  grind[Qtw,gdT]
 ·cases h
theorem QhI{ops:List Oper}{o:Oper}{f:Inf}(h:ZF ops o=some f):f.dst=o.dst:=by grind[ZF]
theorem QoD{ops:List Oper}{o:Oper}{f:Inf}(h:ZF ops o=some f)(cs:Array SelectCase)(b:Bool):o.op≠ .select cs b:=by
 intro e;unfold ZF at h;rw[e]at h;cases h
noncomputable def eqON(a:Nat)(b:Option Nat):Bool:=Option.rec false (λb=>Nat.beq a b) b
noncomputable def apF(x y:Inf):Bool:=Bool.rec false (match y.dst with
  | some e=>Bool.not (memN e x.lk)
  | none=>true) (match x.dst with
 | some d=>Bool.rec (Bool.not (eqON d y.dst)) false (memN d y.lk)
 | none=>true)
theorem QuI{ops:List Oper}{x y:Oper}{fx fy:Inf}(hx:ZF ops x=some fx)(hy:ZF ops y=some fy)(h:apF fx fy=true):x.apart ⟨ops⟩ y=true:=by
 unfold apF at h;rw[QhI hx,QhI hy]at h;unfold Oper.apart
 have ny:∀d,memN d fy.lk=false->d ∉ y.looksAt ⟨ops⟩:=λd hd hc=>by
  have:=QcP.2 (Qfe hy hc);rw[hd]at this;cases this
 have nx:∀d,memN d fx.lk=false->d ∉ x.looksAt ⟨ops⟩:=λd hd hc=>by
  have:=QcP.2 (Qfe hx hc);rw[hd]at this;cases this
 have h2:∀e,y.dst=some e->memN e fx.lk=false:=by
  intro e he;rw[he]at h;cases hm:memN e fx.lk with
  | false=>rfl
  | true=>
   simp only[hm,Bool.not_true]at h;have hz:∀b:Bool,(Bool.rec false false b:Bool)=true->False:=λb hb=>by cases b<;>cases hb
   grind
 have h1:∀d,x.dst=some d->memN d fy.lk=false/\y.dst≠some d:=by
  intro d hd;rw[hd]at h;simp only[]at h;cases hm:memN d fy.lk with
  | true=>rw[hm]at h;cases h
  | false=>
   rw[hm]at h;refine⟨rfl,λe=>?_⟩
   simp_all[eqON]
 grind
noncomputable def Qfu(i:Nat)(f:Inf)(l:List (Nat×Inf)):Nat:=List.rec 0 (λp _ ih=>Bool.rec (Bool.rec (Bool.rec (Yi ih p.1) ih (apF f p.2)) ih (has p.2.em i)) ih (Nat.beq p.1 i)) l
theorem Qj5{i:Nat}{f:Inf}:∀{l:List (Nat×Inf)}{p:Nat×Inf},p∈l->p.1≠i->p.2.em.testBit i=false->apF f p.2=false->(Qfu i f l).testBit p.1=true
 | q::l,p,hp,h1,h2,h3=>by
  have hu:Qfu i f (q::l)=(Bool.rec (Bool.rec (Bool.rec (Yi (Qfu i f l) q.1) (Qfu i f l) (apF f q.2)) (Qfu i f l) (has q.2.em i)) (Qfu i f l) (Nat.beq q.1 i):Nat):=rfl;rw[hu];rcases List.mem_cons.1 hp with rfl|hp
  ·have hb:Nat.beq p.1 i=false:=by cases hb:Nat.beq p.1 i<;>simp_all
   simp_all[Qa1,Yi,ZK]
  ·have ih:=Qj5 (f:=f) hp h1 h2 h3;cases Nat.beq q.1 i with
   | true=>exact ih
   | false=>
    cases has q.2.em i with
    | true=>exact ih
    | false=>cases apF f q.2<;>grind[apF,Yi,ZK]
 | [],p,hp,_,_,_=>by cases hp
noncomputable def QdG(ops:List Oper):Nat->List Oper->Option (List (Nat×Inf))
 | _,[]=>some []
 | i,o::l=>match ZF ops o,QdG ops (i+1) l with
  | some f,some fs=>some ((i,f)::fs)
  | _,_=>none
theorem QcB{ops:List Oper}:∀{l:List Oper}{k:Nat}{fs:List (Nat×Inf)},QdG ops k l=some fs->∀j o,l[j]?=some o->∃f,ZF ops o=some f/\(k+j,f)∈fs
 | [],k,fs,h,j,o,hj=>by simp at hj
 | o'::l,k,fs,h,j,o,hj=>by
  simp only[QdG]at h;split at h
  ·rename_i f fs' h1 h2;injection h with h
   subst h;cases j with
   | zero=>grind
   | succ j=>
    obtain⟨f',h3,h4⟩:=QcB h2 j o (by simpa using hj)
    grind
  ·cases h
theorem Qjf{ops:List Oper}:∀{l:List Oper}{k:Nat}{fs:List (Nat×Inf)},QdG ops k l=some fs->∀p∈fs,∃j o,p.1=k+j/\l[j]?=some o/\ZF ops o=some p.2
 | [],k,fs,h,p,hp=>by cases h;cases hp
 | o'::l,k,fs,h,p,hp=>by
  simp only[QdG]at h;split at h
  ·rename_i f fs' h1 h2;injection h with h
   subst h;rcases List.mem_cons.1 hp with rfl|hp
   ·grind
   ·obtain⟨j,o,e1,e2,e3⟩:=Qjf h2 p hp;exact⟨j+1,o,om,by simpa using e2,e3⟩
  ·cases h
def Lm(n:Nat)(listed:Array Bool)(M:Nat):Prop:=listed.size=n/\(∀j,j<n->listed.getD j false=M.testBit j)/\∀j,M.testBit j=true->j<n
theorem Lm.get{n:Nat}{listed:Array Bool}{M j:Nat}(h:Lm n listed M)(hj:j<n)(b:Bool):listed.getD j b=M.testBit j:=by
 rw[<-h.2.1 j hj];have hl:j<listed.size:=by rw[h.1];exact hj
 grind
theorem Lm.set{n:Nat}{listed:Array Bool}{M i:Nat}(h:Lm n listed M)(hi:i<n):Lm n (listed.setIfInBounds i true) (Yi M i):=by
 refine⟨by simp[h.1],λj hj=>?_,λj hj=>by
  rw[ZK]at hj
  by_cases e:i=j
  ·omega
  ·exact h.2.2 j (by simpa[e]using hj)⟩
 have hl:i<listed.size:=by rw[h.1];exact hi
 have hl':j<listed.size:=by rw[h.1];exact hj
 rw[ZK]
 by_cases e:i=j
 ·simp_all
 ·have:=h.2.1 j hj
  simp_all
theorem Lm.start(n:Nat):Lm n (Array.replicate n false) 0:=⟨by simp,(λj hj=>by simp[Array.getD_eq_getD_getElem?,hj]),λj hj=>by simp at hj⟩
section
variable{ops:List Oper}{fs:List (Nat×Inf)}
structure Row where
 i:Nat
 em:Nat
 need:Nat
noncomputable def QM(fs:List (Nat×Inf)):List (Nat×Inf)->List Row:=List.rec [] λp _ ih=>⟨p.1,p.2.em,Nat.lor p.2.em (Qfu p.1 p.2 fs)⟩::ih
theorem QgO:∀{l:List (Nat×Inf)}{r:Row},r∈QM fs l->∃p∈l,r=⟨p.1,p.2.em,Nat.lor p.2.em (Qfu p.1 p.2 fs)⟩
 | p::l,r,h=>by
  have hu:QM fs (p::l)=⟨p.1,p.2.em,Nat.lor p.2.em (Qfu p.1 p.2 fs)⟩::QM fs l:=rfl;rw[hu]at h;rcases List.mem_cons.1 h with rfl|h
  ·grind
  ·obtain⟨q,h1,h2⟩:=QgO h
   grind
 | [],r,h=>by cases h
theorem QdS:∀{l:List (Nat×Inf)}{p:Nat×Inf},p∈l->(⟨p.1,p.2.em,Nat.lor p.2.em (Qfu p.1 p.2 fs)⟩:Row)∈QM fs l
 | q::l,p,h=>by
  have hu:QM fs (q::l)=⟨q.1,q.2.em,Nat.lor q.2.em (Qfu q.1 q.2 fs)⟩::QM fs l:=rfl;rw[hu];rcases List.mem_cons.1 h with rfl|h
  ·grind
  ·exact List.mem_cons_of_mem _ (QdS h)
 | [],p,h=>by cases h
theorem Qcq(hf:QdG ops 0 ops=some fs){r:Row}(h:r∈QM fs fs):∃o f,ops[r.i]?=some o/\ZF ops o=some f/\r.em=f.em/\(r.i,f)∈fs/\r.need=Nat.lor f.em (Qfu r.i f fs):=by grind[QgO,Qjf]
theorem Qel{listed:Array Bool}{M i:Nat}{o:Oper}{f:Inf}(hl:Lm ops.length listed M)(ho:ops[i]?=some o)(hf:ZF ops o=some f)(hM:M.testBit i=false)(hs:Zw f.em M=true):i∈Region.ready .any ⟨ops⟩ listed:=by
 have hi:i<ops.length:=by grind
 refine mem_ready.2 ⟨by rw[hl.get hi];exact hM,o,by simpa using ho,λe he hb=>?_⟩
 have h1:f.em.testBit e.on=true:=by
  rw[QbB hf];refine Array.any_eq_true'.2 ⟨e,he,?_⟩
  simp_all
 have h2:=QgA hs h1;rw[hl.get (hl.2.2 _ h2)];exact h2
theorem Lm.not{n:Nat}{listed:Array Bool}{M j:Nat}(h:Lm n listed M)(hj:M.testBit j=false):listed.getD j false=false:=by
 by_cases hlt:j<n
 ·rw[h.get hlt];exact hj
 ·have:listed.size<=j:=by rw[h.1];omega
  grind
theorem QgP{listed:Array Bool}{M i:Nat}{o:Oper}{f:Inf}(hl:Lm ops.length listed M)(ho:ops[i]?=some o)(hf:ZF ops o=some f)(hs:Zw f.em M=false):i ∉ Region.ready .any ⟨ops⟩ listed:=by
 intro hr;obtain⟨_,o',ho',hall⟩:=mem_ready.1 hr;have:o'=o:=by grind
 subst this;obtain⟨y,h1,h2⟩:=Qk6 hs;rw[QbB hf]at h1;obtain⟨e,he,hb⟩:=Array.any_eq_true'.1 h1;simp only[Bool.and_eq_true]at hb;have hon:=Nat.eq_of_beq_eq_true hb.2;subst hon;have h3:=hall e he hb.1;rw[hl.not h2]at h3;cases h3
noncomputable def Qra(g:Row->Bool)(l:List Row):Bool:=List.rec true (λr _ ih=>Bool.rec false ih (g r)) l
theorem Qg1{g:Row->Bool}:∀{l:List Row},Qra g l=true->∀r∈l,g r=true
 | r::l,h,r',hr=>by
  have hu:Qra g (r::l)=(Bool.rec false (Qra g l) (g r):Bool):=rfl;rw[hu]at h;cases hg:g r with
  | false=>rw[hg]at h;cases h
  | true=>
   rw[hg]at h;rcases List.mem_cons.1 hr with rfl|hr
   ·exact hg
   ·exact Qg1 h r' hr
 | [],_,_,hr=>by cases hr
noncomputable def Qj0(M i:Nat)(rows:List Row):Bool:=Qra (λr=>Bool.rec (Bool.rec (Bool.not (Zw r.em M)) true (has M r.i)) true (Nat.beq r.i i)) rows
theorem Qoi:∀{l:List Nat}{i:Nat},l.Nodup->i∈l->(∀j∈l,j=i)->l=[i]
 | [],i,_,h,_=>by cases h
 | [a],i,_,h,_=>by rw[List.mem_singleton.1 h]
 | a::b::l,i,hn,_,hall=>by simp_all
theorem QdY(hf:QdG ops 0 ops=some fs){listed:Array Bool}{M:Nat}{r:Row}(hl:Lm ops.length listed M)(hr:r∈QM fs fs)(hM:has M r.i=false)(hs:Zw r.em M=true)(ho:Qj0 M r.i (QM fs fs)=true):(Region.ready .any ⟨ops⟩ listed==[r.i])=true:=by
 obtain⟨o,f,e1,e2,e3,e4,e5⟩:=Qcq hf hr;rw[Qa1]at hM;rw[e3]at hs;have hin:=Qel hl e1 e2 hM hs
 have:Region.ready .any ⟨ops⟩ listed=[r.i]:=by
  refine Qoi (List.Pairwise.filter _ List.nodup_range) hin λj hj=>?_;obtain⟨h1,oj,h2,h3⟩:=mem_ready.1 hj;have h2':ops[j]?=some oj:=by simpa using h2
  obtain⟨fj,g1,g2⟩:=QcB hf j oj h2';rw[Nat.zero_add]at g2;have g3:=Qg1 ho _ (QdS (fs:=fs) g2);simp only[]at g3;cases hb:Nat.beq j r.i with
  | true=>exact Nat.eq_of_beq_eq_true hb
  | false=>
   rw[hb]at g3;have hjl:j<ops.length:=by grind
   rw[hl.get hjl]at h1;rw[Qa1,h1]at g3
   grind[Zw,QgP]
 grind
theorem QvB(hf:QdG ops 0 ops=some fs):Region.noSelect ⟨ops⟩=true:=by
 unfold Region.noSelect;simp only[List.all_toArray,List.all_eq_true];intro o ho;obtain⟨j,hj⟩:=List.getElem?_of_mem ho
 grind[QcB,QoD]
theorem QgT(hf:QdG ops 0 ops=some fs){listed:Array Bool}{M:Nat}{r:Row}(hl:Lm ops.length listed M)(hr:r∈QM fs fs)(hM:has M r.i=false)(hs:Zw r.need M=true):QV ⟨ops⟩ listed r.i=true:=by
 obtain⟨o,f,e1,e2,e3,e4,e5⟩:=Qcq hf hr;rw[Qa1]at hM
 have hem:Zw f.em M=true:=by
  cases h:Zw f.em M with
  | true=>rfl
  | false=>
   obtain⟨y,h1,h2⟩:=Qk6 h;have h3:r.need.testBit y=true:=by simp_all
   grind[QgA]
 have hin:=Qel hl e1 e2 hM hem;unfold QV;rw[QvB hf,Bool.and_true,Bool.and_eq_true];refine⟨by simpa using hin,List.all_eq_true.2 λj hj=>?_⟩;have hjl:j<ops.length:=by simpa using hj
 have h2':ops[j]?=some ops[j]:=List.getElem?_eq_getElem hjl;obtain⟨fj,g1,g2⟩:=QcB hf j _ h2';rw[Nat.zero_add]at g2;have hoj:(⟨ops⟩:Array Oper)[j]?=some ops[j]:=by simpa using h2'
 have hoi:(⟨ops⟩:Array Oper)[r.i]?=some o:=by simpa using e1
 rw[hoj,hoi];simp only[Bool.or_eq_true];cases hb:Nat.beq j r.i with
 | true=>exact .inl (.inl (.inl rfl))
 | false=>
  cases hm:M.testBit j with
  | true=>exact .inl (.inl (.inr (by rw[hl.get hjl];exact hm)))
  | false=>
   cases he:fj.em.testBit r.i with
   | true=>exact .inl (.inr (by rw[<-QbB g1];exact he))
   | false=>
    refine .inr (QuI e2 g1 ?_);cases hap:apF f fj with
    | true=>rfl
    | false=>
     have hne:j≠r.i:=λe=>by subst e;rw[Nat.beq_refl]at hb;cases hb
     have hbit:=Qj5 (i:=r.i) (f:=f) g2 hne he hap;have h3:r.need.testBit j=true:=by simp_all
     grind[QgA]
noncomputable def Qfv(fs:List (Nat×Inf))(fm:Nat):Nat:=List.rec fm (λp _ ih=>Bool.rec ih (Nat.lor ih p.2.em) (has fm p.1)) fs
theorem Qg8{fm i:Nat}:∀{l:List (Nat×Inf)},(Qfv l fm).testBit i=true->fm.testBit i=true\/∃p∈l,fm.testBit p.1=true/\p.2.em.testBit i=true
 | [],h=>.inl h
 | p::l,h=>by
  have hu:Qfv (p::l) fm=(Bool.rec (Qfv l fm) (Nat.lor (Qfv l fm) p.2.em) (has fm p.1):Nat):=rfl;rw[hu,Qa1]at h;cases hb:fm.testBit p.1 with
  | false=>
   rw[hb]at h;rcases Qg8 h with h|⟨q,h1,h2⟩<;>grind
  | true=>
   rw[hb]at h;have h':((Qfv l fm) ||| p.2.em).testBit i=true:=h;rw[Nat.testBit_or,Bool.or_eq_true]at h';rcases h' with h|h
   ·rcases Qg8 h with h|⟨q,h1,h2⟩<;>grind
   grind
theorem QmR{x y:Nat}{o:Oper}{f:Inf}(ho:ops[x]?=some o)(hf:ZF ops o=some f)(h:f.em.testBit y=true):Qlr ⟨ops⟩ x y=true:=by grind[Qlr,QbB]
theorem QpV(hf:QdG ops 0 ops=some fs){r:Row}(hr:r∈QM fs fs){i:Nat}(hne:r.i≠i)(h:has (Qfv fs r.em) i=true):Yf ⟨ops⟩ [r.i] i (Qml (⟨ops⟩:Array Oper).size)=true:=by
 obtain⟨o,f,e1,e2,e3,e4,e5⟩:=Qcq hf hr;rw[Qa1]at h;have hb:Nat.beq r.i i=false:=by cases hb:Nat.beq r.i i<;>simp_all
 have hps:∃p∈Qml (⟨ops⟩:Array Oper).size,Qdz ⟨ops⟩ r.i p i=true:=by
  rcases Qg8 h with h|⟨p,h1,h2,h3⟩
  ·exact⟨[],List.mem_cons_self ..,QmR e1 e2 (by rw[<-e3];exact h)⟩
  ·obtain⟨j,oj,g1,g2,g3⟩:=Qjf hf p h1;have hj:p.1=j:=by omega
   have hjl:j<ops.length:=by grind
   refine⟨[j],List.mem_cons_of_mem _ (List.mem_map.2 ⟨j,by simpa using hjl,rfl⟩),?_⟩
   grind[Qdz,QmR]
 grind[Yf]
noncomputable def Qdr(i:Nat)(l:List Row):Option Row:=List.rec none (λr _ ih=>Bool.rec ih (some r) (Nat.beq r.i i)) l
theorem Qad{i:Nat}:∀{l:List Row}{r:Row},Qdr i l=some r->r∈l/\r.i=i
 | [],r,h=>by cases h
 | q::l,r,h=>by
  have hu:Qdr i (q::l)=(Bool.rec (Qdr i l) (some q) (Nat.beq q.i i):Option Row):=rfl;rw[hu]at h;cases hb:Nat.beq q.i i with
  | true=>simp_all
  | false=>
   rw[hb]at h;obtain⟨h1,h2⟩:=Qad h
   grind
structure Fin1 where
 i:Nat
 tm:Nat
def Qeu:Option Fin1->List Nat
 | none=>[]
 | some f=>[f.i]
def Qhx(fs:List (Nat×Inf))(f:Fin1):Prop:=∃r∈QM fs fs,r.i=f.i/\f.tm=Qfv fs r.em
noncomputable def isF(F:Option Fin1)(i:Nat):Bool:=Option.rec false (λf=>Nat.beq f.i i) F
noncomputable def Qeh(rows:List Row)(F:Option Fin1)(M i:Nat):Stp:=match Qdr i rows with
 | some r=>⟨i,Bool.rec (Bool.rec false (Bool.not (isF F i)) (Zw r.need M)) false (has M i),
   Bool.rec (Bool.rec false (match F with
    | none=>true
    | some f=>Bool.rec (Bool.rec false (Bool.not (has M f.i)) (has f.tm i)) false (Nat.beq f.i i)) (Zw r.need M)) false (has M i),
   Bool.rec (Bool.rec false (Qj0 M i rows) (Zw r.em M)) false (has M i),Bool.rec none (some []) (isF F i)⟩
 | none=>⟨i,false,false,false,Bool.rec none (some []) (isF F i)⟩
theorem b3{a b c:Bool}(h:(Bool.rec (Bool.rec false c b) false a:Bool)=true):a=false/\b=true/\c=true:=by
 cases a<;>cases b<;>cases c<;>first|exact⟨rfl,rfl,rfl⟩|cases h
theorem Qei(F:Option Fin1)(i:Nat):(Qeu F).contains i=isF F i:=by
 cases F with
 | none=>rfl
 | some f=>
  show List.contains [f.i] i=Nat.beq f.i i;cases hb:Nat.beq f.i i with
  | true=>simp_all
  | false=>
   have:¬(i=f.i):=λe=>by subst e;rw[Nat.beq_refl]at hb;cases hb
   simp[this]
theorem Qsa{F:Option Fin1}{i:Nat}(h:isF F i=false):onF (Qeu F) i=true:=by
 cases F with
 | none=>rfl
 | some f=>
  have hb:Nat.beq f.i i=false:=h;simp[onF,Qeu,hb]
theorem Qqa(hf:QdG ops 0 ops=some fs){listed:Array Bool}{M i:Nat}{F:Option Fin1}(hl:Lm ops.length listed M)(hF:∀f,F=some f->Qhx fs f) :
  ((Qeh (QM fs fs) F M i).okP=true->(QV ⟨ops⟩ listed i&&onF (Qeu F) i)=true) /\
  ((Qeh (QM fs fs) F M i).okQ=true->(QV ⟨ops⟩ listed i&&(Yf ⟨ops⟩ (Qeu F) i (Qml (⟨ops⟩:Array Oper).size)&&Qax (Qeu F) listed))=true) /\
  ((Qeh (QM fs fs) F M i).okH=true->(Region.ready .any ⟨ops⟩ listed==[i])=true) /\
  (Qeh (QM fs fs) F M i).i=i:=by
 unfold Qeh;split
 ·rename_i r hr;obtain⟨h1,rfl⟩:=Qad hr;refine⟨λh=>?_,λh=>?_,λh=>?_,rfl⟩
  ·obtain⟨g1,g2,g3⟩:=b3 h;rw[QgT hf hl h1 g1 g2,Bool.true_and];exact Qsa (by simpa using g3)
  ·obtain⟨g1,g2,g3⟩:=b3 h;rw[QgT hf hl h1 g1 g2,Bool.true_and];cases F with
   | none=>rfl
   | some f=>
    obtain⟨g4,g5,g6⟩:=b3 g3;obtain⟨r',k1,k2,k3⟩:=hF f rfl;have hne:r'.i≠r.i:=λe=>by rw[k2]at e;rw[e,Nat.beq_refl]at g4;cases g4
    have hw:=QpV hf k1 hne (by rw[<-k3];exact g5);rw[k2]at hw;show(Yf ⟨ops⟩ [f.i] r.i _&&Qax [f.i] listed)=true;rw[hw,Bool.true_and];simp only[Qax,List.all_cons,List.all_nil,Bool.and_true];rw[hl.not (by have:=g6;rw[Qa1]at this;simpa using this)];rfl
  ·obtain⟨g1,g2,g3⟩:=b3 h;exact QdY hf hl h1 g1 g2 g3
 ·exact⟨(λh=>by cases h),(λh=>by cases h),(λh=>by cases h),rfl⟩
theorem Qlb{rows:List Row}{F:Option Fin1}{M i:Nat}:(Qeh rows F M i).turn=Bool.rec none (some []) (isF F i):=by
 unfold Qeh;split<;>rfl
theorem Qtg{listed:Array Bool}(hl:Lm ops.length listed (2^ops.length-1)):Qwm ⟨ops⟩ listed []=true:=by
 have:Region.ready .any ⟨ops⟩ listed=[]:=by
  refine List.eq_nil_iff_forall_not_mem.2 λj hj=>?_;obtain⟨h1,o,h2,_⟩:=mem_ready.1 hj;have h2':ops[j]?=some o:=by simpa using h2
  have hjl:j<ops.length:=by grind
  rw[hl.get hjl,Nat.testBit_two_pow_sub_one]at h1;simp[hjl]at h1
 grind[Qwm]
end
end Ev
namespace Ev
open Go Go.RowKit
noncomputable def Qwg(P:Program):Op->Option (Clo (Nat->Value×HX))
 | .makeMap _ none=>some ⟨λn=>(.map (some n),.mp [])⟩
 | .alloc t=>match QS P t with
  | some z=>bif Xz z then some ⟨λn=>(.pointer (some ⟨n,0,none⟩),.row ⟨t,0,z⟩)⟩else none
  | none=>none
 | _=>none
def Qwy(P:Program)(o:Oper)(L':Qc)(w0:World)(As:List HA)(c:Nat->Value×HX):Prop:=
 ∃(G:Type)(V:G->Value)(Fg:G->Prop)(A:G->HA),OpH P o L' (HS w0 [] As) V Fg (λg=>HS w0 [] (A g::As))/\∀g,Fg g->∃x:Nat×Nat,∀(ρ:Rho)(n:Nat),den (ext ρ n x) (c n).1=some (V g)/\ha (ext ρ n x) (n,(c n).2)=some (A g)
theorem QmB{P:Program}{o:Oper}{op:Op}{c:Clo (Nat->Value×HX)}(ho:o.op=op)(h:Qwg P op=some c)(L':Qc)(w0:World)(As:List HA):Qwy P o L' w0 As c.run:=by
 unfold Qwg at h;split at h
 ·injection h with h
  subst h;refine⟨_,_,_,_,Qc7 ho QjK,λb _=>⟨(b,0),λρ n=>⟨?_,?_⟩⟩⟩
  ·simp only[den,XH,Q6,X3,Qb4]
  ·simp only[ha,Qb4]
 ·rename_i t;split at h
  ·rename_i z hz;obtain⟨hf,rfl⟩:=Qx h;refine⟨_,_,_,_,ZA ho hz,λb _=>⟨(b,0),λρ n=>⟨Qjb,?_⟩⟩⟩;have:=Qmy (x:=⟨t,0,z⟩) (us:=z) (d:=0) (Qb4 ρ n (b,0)) (Ya hf) (.inl rfl)
   simpa using this
  ·cases h
 ·cases h
noncomputable def cPs(P:Program)(nt dj:Nat)(ops:Array Oper):List Nat->Clo (CallF->Tr Value->Hp->Nat->Option (Tr Value))
 | []=>⟨λ_ T _ _=>some T⟩
 | q::l=>match ops[q]? with
  | some ⟨some d,op,_,_,_,none⟩=>bif Nat.blt d nt&&Bool.not (Nat.beq d dj)then⟨λF T H n=>match(ZS P op).run F T H n with
   | .p v=>(cPs P nt dj ops l).run F (YD (pth d) d v T) H n
   | _=>none⟩else⟨λ_ _ _ _=>none⟩
  | _=>⟨λ_ _ _ _=>none⟩
noncomputable def QuE(P:Program)(nt:Nat)(ops:Array Oper)(ps:List Nat)(ok:Bool)(oi oj:Oper)(rest:DS):DS:=match oi.dst,oj.dst,Qwg P oj.op,oi.guard,oj.guard with
 | some di,some dj,some c,none,none=>bif ok&&(Nat.blt di nt&&(Nat.blt dj nt&&Bool.not (Nat.beq di dj)))then⟨λF T H n R=>match(ZS P oi.op).run ⟨F.f,F.e,noY⟩ (Qev (pth dj) T) H n with
  | .new v x=>(match(cPs P nt dj ops ps).run ⟨F.f,F.e,noY⟩ (YD (pth di) di v (Qev (pth dj) T)) (YZ H n x) (Nat.succ n)with
   | some T2=>rest.run F (YD (pth dj) dj (c.run (Nat.succ n)).1 T2) (YZ (YZ H n x) (Nat.succ n) (c.run (Nat.succ n)).2) (Nat.succ (Nat.succ n)) R
   | none=>.bad)
  | .h v H' n'=>(match(cPs P nt dj ops ps).run ⟨F.f,F.e,noY⟩ (YD (pth di) di v (Qev (pth dj) T)) H' n' with
   | some T2=>yes (QkS H H' R) (rest.run F (YD (pth dj) dj (c.run n').1 T2) (YZ H' n' (c.run n').2) (Nat.succ n') R)
   | none=>.bad)
  | _=>.bad⟩else noD
 | _,_,_,_,_=>noD
theorem Qpy{T:Tr Value}{d t:Nat}{v:Value}(h:en (Qev (pth d) T) t=some v):t≠d/\en T t=some v:=by
 refine⟨λe=>?_,Qgu _ _ _ h⟩;subst e;have h':Y1 (pth t) t (Qev (pth t) T)=some v:=h;rw[Qa3]at h';cases h'
theorem SR.del{ρ:Rho}{T:Tr Value}{L':Qc}{d:Nat}(h:SR ρ (en T) L')(u:Value):SR ρ (en (Qev (pth d) T)) ((d,u)::L'):=λt v hv=>by
 obtain⟨h1,h2⟩:=Qpy hv;obtain⟨u',h3,h4⟩:=h t v h2
 grind[Qc.get,Qe5]
theorem SR.del0{ρ:Rho}{T:Tr Value}{L':Qc}{d:Nat}(h:SR ρ (en T) L'):SR ρ (en (Qev (pth d) T)) L':=λt v hv=>h t v (Qpy hv).2
theorem SR.put1{ρ:Rho}{T:Tr Value}{L':Qc}{dj:Nat}{w u':Value}(h:SR ρ (en T) L')(hj:Qc.get L' dj=some u')(hw:den ρ w=some u'):SR ρ (en (YD (pth dj) dj w T)) L':=λt x hx=>by
 rcases QrI t x hx with⟨rfl,rfl⟩|⟨h1,h2⟩
 ·grind
 ·exact h t x h2
section
variable{P:Program}{r0:Rho}{w0:World}{CF:CallF}{X:Ctx}{k:List KI}{ops:Array Oper}
theorem QuY{F:List Nat}{fuel:Nat}{listed:Array Bool}{L:Qc}{As:List HA}{B:World->Prop}{d d' ty ty':Nat}{op op':Op}{pos pos':String}{aft aft':Array Edge}{G G':Type}{V:G->Value}{Fg:G->Prop}{C:G->World->Prop}{V':G'->Value}{Fg':G'->Prop}{C':G'->World->Prop}(i j:Nat)
  (hi:ops[i]?=some ⟨some d,op,ty,pos,aft,none⟩)(hj:ops[j]?=some ⟨some d',op',ty',pos',aft',none⟩)(h:OpH X.P ⟨some d,op,ty,pos,aft,none⟩ L (HS w0 [] As) V Fg C)(h':OpH X.P ⟨some d',op',ty',pos',aft',none⟩ L (HS w0 [] As) V' Fg' C')
  (mi:i∈Region.ready .any ops listed)(mj:j∈Region.ready .any ops listed)(hr:∀q∈Region.ready .any ops listed,q=i\/q=j)(hB:∀w,HS w0 [] As w->B w)(hd:Nat.blt d X.n=true)(hd':Nat.blt d' X.n=true)
  (next:∀g,Fg g->D X ops F B fuel (listed.setIfInBounds i true) k ((d,V g)::L) (C g))(next':∀g,Fg' g->D X ops F B fuel (listed.setIfInBounds j true) k ((d',V' g)::L) (C' g)):D X ops F B (fuel+1) listed k L (HS w0 [] As):=by
 intro hcl a ha;refine⟨λ_=>⟨hB,HS.stab _ _ _⟩,λh0=>(by rw[h0]at mi;cases mi),λq hq=>?_⟩;rcases hr q hq with e|e
 ·subst e;unfold Yu;simp only[hi];rw[if_pos (by simp[Region.wanted])];exact⟨G,V,Fg,C,λw hw=>h a.eval w ha.agr hw,λg hg=>next g hg (hcl.set mi) _ (ha.put d _ hd)⟩
 ·subst e;unfold Yu;simp only[hj];rw[if_pos (by simp[Region.wanted])];exact⟨G',V',Fg',C',λw hw=>h' a.eval w ha.agr hw,λg hg=>next' g hg (hcl.set mj) _ (ha.put d' _ hd')⟩
def Ql2(listed:Array Bool):List Nat->Array Bool
 | []=>listed
 | q::l=>Ql2 (listed.setIfInBounds q true) l
def QlC(ops:Array Oper)(F:List Nat):Array Bool->List Nat->Prop
 | _,[]=>True
 | listed,q::l=>QV ops listed q=true/\onF F q=true/\QlC ops F (listed.setIfInBounds q true) l
theorem Qlc{CF:CallF}(hF:∀r,CallOk P r CF)(hP:X.P=P){dj:Nat}{F:List Nat}{B:World->Prop}{fuel:Nat}:∀(ps:List Nat)(listed:Array Bool)(T T2:Tr Value)(H:Hp)(n:Nat)(ρ:Rho)(L':Qc)(As:List HA),(cPs P X.n dj ops ps).run CF T H n=some T2->QlC ops F listed ps->SR ρ (en T) L'->HM ρ H As->Q2 ρ n ->
  (∀L2,SR ρ (en T2) L2->Qc.get L2 dj=Qc.get L' dj->D X ops F B fuel (Ql2 listed ps) k L2 (HS w0 [] As))->D X ops F B (fuel+ps.length) listed k L' (HS w0 [] As)
 | [],listed,T,T2,H,n,ρ,L',As,h,_,hs,_,_,next=>by
  injection h with h
  subst h;exact next L' hs rfl
 | q::ps,listed,T,T2,H,n,ρ,L',As,h,hok,hs,hp,hf,next=>by
  simp only[cPs]at h;split at h
  ·rename_i d op ty pos aft ho;cases hc:Nat.blt d X.n&&Bool.not (Nat.beq d dj)with
   | false=>rw[hc]at h;cases h
   | true=>
    rw[hc]at h;simp only[cond_true]at h;simp only[Bool.and_eq_true,Bool.not_eq_true']at hc;split at h
    ·rename_i v hr;have hcm:=QcU P op CF trivial T H n;rw[hr]at hcm;obtain⟨u,e1,e2⟩:=QaR (w0:=w0) (L':=L') (o:=⟨some d,op,ty,pos,aft,none⟩) (hF ρ) ρ.le_refl rfl hs hp hf hcm;rw[<-hP]at e1;refine d_p q ho e1 hok.1 hok.2.1 hc.1 ?_;refine Qlc hF hP ps _ _ T2 H n ρ ((d,u)::L') As h hok.2.2 (hs.set e2) hp hf λL2 h1 h2=>next L2 h1 ?_
     grind[Qc.get]
    ·cases h
  ·cases h
theorem Qtq(hF:CallOk P r0 CF)(hP:X.P=P){i j:Nat}{ok:Bool}{ps:List Nat}{oi oj:Oper}{rest:DS}{F:List Nat}{listed:Array Bool}{fuel:Nat}
  (hok:ok=true->i∈Region.ready .any ops listed/\j∈Region.ready .any ops listed/\(∀q∈Region.ready .any ops listed,q=i\/q=j)/\QlC ops F (listed.setIfInBounds i true) ps/\(Region.ready .any ops (Ql2 (listed.setIfInBounds i true) ps)==[j])=true/\(Region.ready .any ops (listed.setIfInBounds j true)==[i])=true/\QlC ops F ((listed.setIfInBounds j true).setIfInBounds i true) ps)
  (ih:QhM P r0 w0 CF X k ops rest F fuel ((Ql2 (listed.setIfInBounds i true) ps).setIfInBounds j true))(ih':QhM P r0 w0 CF X k ops rest F fuel (Ql2 ((listed.setIfInBounds j true).setIfInBounds i true) ps))(hi:ops[i]?=some oi)(hj:ops[j]?=some oj){T:Tr Value}{H:Hp}{n:Nat}{R:List Nat}{B:List (Nat×HX)}{ρ:Rho}{L':Qc}{As Bs:List HA}
  (ht:Xi r0 w0 ρ X k ((QuE P X.n ops ps ok oi oj rest).run CF T H n R))(hs:StOk r0 w0 ρ ⟨T,H,n⟩ L' As)(hR:QD (ha ρ) B=some Bs)(hB:X4 H R B):D X ops F (HS w0 [] (Bs++ρ.ex)) (fuel+ps.length+2) listed k L' (HS w0 [] As):=by
 obtain⟨dsti,opi,tyi,posi,afti,gi⟩:=oi;obtain⟨dstj,opj,tyj,posj,aftj,gj⟩:=oj;unfold QuE at ht;simp only[]at ht;split at ht
 ·rename_i di dj c hnc;cases hc:ok&&(Nat.blt di X.n&&(Nat.blt dj X.n&&Bool.not (Nat.beq di dj)))with
  | false=>rw[hc]at ht;exact ht.elim
  | true=>
   rw[hc]at ht;simp only[cond_true]at ht;simp only[Bool.and_eq_true,Bool.not_eq_true']at hc;obtain⟨hok',hdi,hdj,hne'⟩:=hc;have hne:di≠dj:=λe=>by subst e;rw[Nat.beq_refl]at hne';cases hne'
   obtain⟨mi,mj,hr,hp1,h1,h2,hp2⟩:=hok hok';have hF0:∀r,CallOk P r ⟨CF.f,CF.e,noY⟩:=λr=>⟨hF.f,hF.e,QdI⟩;have hcm:=QcU P opi ⟨CF.f,CF.e,noY⟩ trivial (Qev (pth dj) T) H n
   have fin:∀(v:Value)(H':Hp)(n':Nat)(T2:Tr Value),XL P (en (Qev (pth dj) T)) H n ⟨CF.f,CF.e,noY⟩ opi=some (.h v H' n')->X4 H' R B->(cPs P X.n dj ops ps).run ⟨CF.f,CF.e,noY⟩ (YD (pth di) di v (Qev (pth dj) T)) H' n'=some T2->Xi r0 w0 ρ X k (rest.run CF (YD (pth dj) dj (c.run n').1 T2) (YZ H' n' (c.run n').2) (Nat.succ n') R)->D X ops F (HS w0 [] (Bs++ρ.ex)) (fuel+ps.length+2) listed k L' (HS w0 [] As):=by
    intro v H' n' T2 hev hB' hps ht';have hbase:=Qdh (w0:=w0) ρ.le_refl hs.hp hR hB;have ha1:=QaR (w0:=w0) (L':=L') (o:=⟨some di,opi,tyi,posi,afti,none⟩) (hF0 ρ) ρ.le_refl rfl hs.sr.del0 hs.hp hs.fr hev;have hH1:=OpT.got ha1;rw[<-hP]at hH1;obtain⟨G,V,Fg,A,hO,hK⟩:=QmB (o:=⟨some dj,opj,tyj,posj,aftj,none⟩) rfl hnc L' w0 As;rw[<-hP]at hO;refine QuY (fuel:=fuel+ps.length+1) i j hi hj hH1 hO mi mj hr hbase hdi hdj ?_ ?_
    ·rintro⟨⟨ρ',As',u⟩,g1,g2,g3,g4⟩ _;rw[show fuel+ps.length+1=(fuel+1)+ps.length by omega];refine Qlc (ρ:=ρ') hF0 hP ps _ _ T2 H' n' ((di,u)::L') As' hps hp1 ((hs.sr.del0.mono g1).set g3) g4 g2 λL2 q1 _=>?_;obtain⟨G2,V2,Fg2,A2,hO2,hK2⟩:=QmB (o:=⟨some dj,opj,tyj,posj,aftj,none⟩) rfl hnc L2 w0 As';rw[<-hP]at hO2;refine d_h j hj hO2 h1 (Qdh (w0:=w0) g1 g4 hR hB') hdj λg hg=>?_;obtain⟨x,hx⟩:=hK2 g hg;obtain⟨e1,e2⟩:=hx ρ' n';have hle:=Qg0 g2 x;have:=ih _ _ _ R B (ext ρ' n' x) ((dj,V2 g)::L2) (A2 g::As') Bs (ht'.mono (Rho.le_trans g1 hle)) ⟨Rho.le_trans hs.le (Rho.le_trans g1 hle),(q1.mono hle).set e1,(HM.mono hle g4).push e2,Qbi g2 x⟩ (XA (λ_ _=>QeI (Rho.le_trans g1 hle) _ _) hR) (Qbt g4 g2 hB');rw[show(ext ρ' n' x).ex=ρ.ex from g1.2]at this;exact this
    ·intro g hg;obtain⟨x,hx⟩:=hK g hg;obtain⟨G0,Bs0,f1,f2,f3⟩:=hs.hp;have hp1':HM (ρ.wx (A g::ρ.ex)) H (Bs0++(A g::ρ.ex)):=⟨G0,Bs0,f1,f2,rfl⟩
     have hperm:(A g::As).Perm (Bs0++(A g::ρ.ex)):=by
      rw[f3];exact List.perm_middle.symm
     refine Qnz (C':=HS w0 [] (Bs0++(A g::ρ.ex))) (λw hw=>hw.perm hperm) (HS.stab _ _ _) ?_;have ha2:=QaR (w0:=w0) (L':=(dj,V g)::L') (o:=⟨some di,opi,tyi,posi,afti,none⟩) (hF0 _) (Rho.le_refl _) rfl ((hs.sr.del (V g)).wx (A g::ρ.ex)) hp1' (show Q2 (ρ.wx (A g::ρ.ex)) n from hs.fr) hev;have hH2:=OpT.got ha2;rw[<-hP]at hH2;refine d_h (fuel:=fuel+ps.length) i hi hH2 h2 (λw hw=>hbase w ((hw.perm hperm.symm).tail)) hdi ?_;rintro⟨⟨ρ',As',u⟩,g1,g2,g3,g4⟩ _;refine Qlc (ρ:=ρ') hF0 hP ps _ _ T2 H' n' ((di,u)::(dj,V g)::L') As' hps hp2 ((((hs.sr.del (V g)).wx (A g::ρ.ex)).mono g1).set g3) g4 g2 λL2 q1 q2=>?_;obtain⟨G1,Bs1,k1,k2,k3⟩:=g4;have hex:ρ'.ex=A g::ρ.ex:=g1.2;have hle0:ρ.le (ρ'.wx ρ.ex):=⟨g1.1,rfl⟩;have g2':Q2 (ρ'.wx ρ.ex) n':=g2;have hle:=Qg0 g2' x;obtain⟨e1,e2⟩:=hx (ρ'.wx ρ.ex) n'
     have hperm2:As'.Perm (A g::(Bs1++ρ.ex)):=by
      rw[show As'=Bs1++ρ'.ex from k3,hex];exact List.perm_middle
     refine Qnz (C':=HS w0 [] (A g::(Bs1++ρ.ex))) (λw hw=>hw.perm hperm2) (HS.stab _ _ _) ?_;have hM:HM (ρ'.wx ρ.ex) H' (Bs1++ρ.ex):=⟨G1,Bs1,k1,k2,rfl⟩
     have hdj2:Qc.get L2 dj=some (V g):=by
      rw[q2];simp only[Qc.get,Qe5 (Ne.symm hne),Nat.beq_refl,cond_true,cond_false]
     have q3:SR (ρ'.wx ρ.ex) (en T2) L2:=q1;exact ih' _ _ _ R B (ext (ρ'.wx ρ.ex) n' x) L2 (A g::(Bs1++ρ.ex)) Bs (ht'.mono (Rho.le_trans hle0 hle)) ⟨Rho.le_trans hs.le (Rho.le_trans hle0 hle),(q3.mono hle).put1 hdj2 e1,(HM.mono hle hM).push e2,Qbi g2' x⟩ (XA (λ_ _=>QeI (Rho.le_trans hle0 hle) _ _) hR) (Qbt hM g2' hB')
   split at ht
   ·rename_i v x hr';rw[hr']at hcm;split at ht
    ·rename_i T2 hps;exact fin v (YZ H n x) (n+1) T2 hcm (Qbt hs.hp hs.fr hB) hps ht
    ·exact ht.elim
   ·rename_i v H' n' hr';rw[hr']at hcm;split at ht
    ·rename_i T2 hps;obtain⟨hk,ht⟩:=Qb0 ht;exact fin v H' n' T2 hcm (hB.stay (Qes hk)) hps ht
    ·exact ht.elim
   ·exact ht.elim
 ·exact ht.elim
end
inductive It where
 | one (i:Nat)
 | two (i j:Nat) (ps:List Nat)
inductive SI where
 | one (s:Stp)
 | two (i j:Nat) (ps:List Nat) (ok:Bool)
noncomputable def Qb6(P:Program)(nt:Nat)(ops:Array Oper):List SI->DS
 | []=>⟨λ_ T H n _=>.nm T H n⟩
 | .one s::l=>match ops[s.i]? with
  | some o=>(match o.guard with
   | none=>dOn P nt s o (Qb6 P nt ops l)
   | some (j,want)=>match(ops[j]?).bind (·.dst)with
    | some dj=>⟨λF T H n R=>match Y1 (pth dj) dj T with
     | some (.bool b)=>Bool.rec ((Qtd nt s o.dst (Qb6 P nt ops l)).run F T H n R) ((dOn P nt s o (Qb6 P nt ops l)).run F T H n R) (b==want)
     | some (.tuple ⟨[]⟩)=>(Qtd nt s o.dst (Qb6 P nt ops l)).run F T H n R
     | _=>.bad⟩
    | none=>noD)
  | none=>noD
 | .two i j ps ok::l=>match ops[i]?,ops[j]? with
  | some oi,some oj=>QuE P nt ops ps ok oi oj (Qb6 P nt ops l)
  | _,_=>noD
noncomputable def QwD(M i j:Nat)(rows:List Row):Bool:=Qra (λr=>Bool.rec (Bool.rec (Bool.rec (Bool.not (Zw r.em M)) true (has M r.i)) true (Nat.beq r.i j)) true (Nat.beq r.i i)) rows
noncomputable def Qp1(rows:List Row)(F:Option Fin1)(ps:List Nat):Nat->Bool:=List.rec (λ_=>true) (λq _ ih M=>match Qdr q rows with
 | some r=>Bool.rec (Bool.rec (Bool.rec (ih (Yi M q)) false (isF F q)) false (Bool.not (Zw r.need M))) false (has M q)
 | none=>false) ps
noncomputable def addL(ps:List Nat):Nat->Nat:=List.rec (λM=>M) (λq _ ih M=>ih (Yi M q)) ps
noncomputable def Qpq(rows:List Row)(F:Option Fin1)(M i j:Nat)(ps:List Nat):Bool:=match Qdr i rows,Qdr j rows with
 | some ri,some rj=>Bool.not (Nat.beq i j)&&(Bool.not (has M i)&&(Bool.not (has M j)&&(Zw ri.em M&&(Zw rj.em M&&(Bool.not (has (addL ps (Yi M i)) j)&&(Zw rj.em (addL ps (Yi M i))&&(Zw ri.em (Yi M j)&&(QwD M i j rows&&(Qj0 (addL ps (Yi M i)) j rows&&(Qj0 (Yi M j) i rows&&(Qp1 rows F ps (Yi M i)&&Qp1 rows F ps (Yi (Yi M j) i))))))))))))
 | _,_=>false
noncomputable def mkF(rows:List Row):List Fin1->Option Fin1->Nat->List It->List SI
 | _,_,_,[]=>[]
 | Fs,F,M,.one i::r=>.one (Qeh rows F M i)::mkF rows (Bool.rec Fs Fs.tail (isF F i)) (Bool.rec F Fs.head? (isF F i)) (Yi M i) r
 | Fs,F,M,.two i j ps::r=>.two i j ps (Qpq rows F M i j ps)::mkF rows Fs F (Yi (addL ps (Yi M i)) j) r
noncomputable def Qrs(M:Nat)(l:List It):Nat:=List.rec (λM=>M) (λx _ ih M=>match x with
 | .one i=>ih (Yi M i)
 | .two i j ps=>ih (Yi (addL ps (Yi M i)) j)) l M
def QoC:List It->Nat
 | []=>0
 | .one _::l=>QoC l+1
 | .two _ _ ps::l=>QoC l+ps.length+2
def QsG(n:Nat):It->Prop
 | .one i=>i<n
 | .two i j ps=>i<n/\j<n/\∀q∈ps,q<n
theorem Qkb:∀(ps:List Nat)(M j:Nat),(addL ps M).testBit j=(M.testBit j||decide (j∈ps))
 | [],M,j=>by show M.testBit j=_;simp
 | q::ps,M,j=>by
  have hu:addL (q::ps) M=addL ps (Yi M q):=rfl;rw[hu,Qkb ps,ZK]
  grind
theorem QfM{n:Nat}:∀{ps:List Nat}{listed:Array Bool}{M:Nat},Lm n listed M->(∀q∈ps,q<n)->Lm n (Ql2 listed ps) (addL ps M)
 | [],_,_,h,_=>h
 | q::ps,_,_,h,hq=>QfM (ps:=ps) (h.set (hq q (List.mem_cons_self ..))) λp hp=>hq p (List.mem_cons_of_mem _ hp)
theorem Lm.perm{n:Nat}{listed:Array Bool}{M M':Nat}(h:Lm n listed M)(e:∀j,M.testBit j=M'.testBit j):Lm n listed M':=by
 have:=Nat.eq_of_testBit_eq e
 grind
section
variable{ops:List Oper}{fs:List (Nat×Inf)}
theorem QiO(hf:QdG ops 0 ops=some fs){F:Option Fin1}:∀(ps:List Nat){listed:Array Bool}{M:Nat},Lm ops.length listed M->(∀q∈ps,q<ops.length)->Qp1 (QM fs fs) F ps M=true->QlC ⟨ops⟩ (Qeu F) listed ps
 | [],_,_,_,_,_=>trivial
 | q::ps,listed,M,hl,hq,h=>by
  have hu:Qp1 (QM fs fs) F (q::ps) M=(match Qdr q (QM fs fs)with
   | some r=>Bool.rec (Bool.rec (Bool.rec (Qp1 (QM fs fs) F ps (Yi M q)) false (isF F q)) false (Bool.not (Zw r.need M))) false (has M q)
   | none=>false):=rfl
  rw[hu]at h;split at h
  ·rename_i r hr;obtain⟨m1,rfl⟩:=Qad hr;cases h1:has M r.i with
   | true=>rw[h1]at h;cases h
   | false=>
    rw[h1]at h;cases h2:Zw r.need M with
    | false=>rw[h2]at h;cases h
    | true=>
     rw[h2]at h;cases h3:isF F r.i with
     | true=>rw[h3]at h;cases h
     | false=>
      rw[h3]at h;exact⟨QgT hf hl m1 h1 h2,Qsa h3,QiO hf ps (hl.set (hq _ (List.mem_cons_self ..))) (λp hp=>hq p (List.mem_cons_of_mem _ hp)) h⟩
  ·cases h
theorem Qoz(hf:QdG ops 0 ops=some fs){listed:Array Bool}{M i j:Nat}(hl:Lm ops.length listed M)(hi:i<ops.length)(hj:j<ops.length){F:Option Fin1}{ps:List Nat}(hps:∀q∈ps,q<ops.length)(h:Qpq (QM fs fs) F M i j ps=true) :
  i∈Region.ready .any ⟨ops⟩ listed/\j∈Region.ready .any ⟨ops⟩ listed/\(∀q∈Region.ready .any ⟨ops⟩ listed,q=i\/q=j)/\QlC ⟨ops⟩ (Qeu F) (listed.setIfInBounds i true) ps/\(Region.ready .any ⟨ops⟩ (Ql2 (listed.setIfInBounds i true) ps)==[j])=true/\(Region.ready .any ⟨ops⟩ (listed.setIfInBounds j true)==[i])=true/\QlC ⟨ops⟩ (Qeu F) ((listed.setIfInBounds j true).setIfInBounds i true) ps:=by
 unfold Qpq at h;split at h
 ·rename_i ri rj h1 h2;obtain⟨m1,rfl⟩:=Qad h1;obtain⟨m2,rfl⟩:=Qad h2;simp only[Bool.and_eq_true,Bool.not_eq_true']at h;obtain⟨a1,a2,a3,a4,a5,a5',a6,a7,a8,a9,a10,a11,a12⟩:=h;have hne:ri.i≠rj.i:=λe=>by rw[e,Nat.beq_refl]at a1;cases a1
  obtain⟨oi,fi,e1,e2,e3,_,_⟩:=Qcq hf m1;obtain⟨oj,fj,g1,g2,g3,_,_⟩:=Qcq hf m2;have b2:=a2;have b3':=a3;rw[Qa1]at a2 a3;refine⟨Qel hl e1 e2 a2 (by rw[<-e3];exact a4),Qel hl g1 g2 a3 (by rw[<-g3];exact a5),λq hq=>?_,QiO hf ps (hl.set hi) hps a11,?_,?_,QiO hf ps ((hl.set hj).set hi) hps a12⟩
  ·obtain⟨k1,o,k2,k3⟩:=mem_ready.1 hq;have k2':ops[q]?=some o:=by simpa using k2
   obtain⟨f,l1,l2⟩:=QcB hf q o k2';rw[Nat.zero_add]at l2;have l3:=Qg1 a8 _ (QdS (fs:=fs) l2);simp only[]at l3;cases hb:Nat.beq q ri.i with
   | true=>exact .inl (Nat.eq_of_beq_eq_true hb)
   | false=>
    rw[hb]at l3;cases hb2:Nat.beq q rj.i with
    | true=>exact .inr (Nat.eq_of_beq_eq_true hb2)
    | false=>
     rw[hb2]at l3;have hql:q<ops.length:=by grind
     rw[hl.get hql]at k1;rw[Qa1,k1]at l3
     grind[Zw,QgP]
  ·exact QdY hf (QfM (hl.set hi) hps) m2 a5' a6 a9
  ·refine QdY hf (hl.set hj) m1 ?_ a7 a10
   grind[Qa1,ZK]
 ·cases h
end
section
variable{P:Program}{r0:Rho}{w0:World}{CF:CallF}{X:Ctx}{k:List KI}{ops:Array Oper}
theorem Qnk{i:Nat}{dst:Option Nat}{op:Op}{ty:TypeId}{pos:String}{aft:Array Edge}{rest:DS}{Fs:List (List Nat)}{F:List Nat}{listed:Array Bool}{fuel:Nat}{s:Stp}
  (hsP:s.okP=true->(QV ops listed i&&onF F i)=true)(hsH:s.okH=true->(Region.ready .any ops listed==[i])=true)(hsT:s.turn.isSome=F.contains i)
  (ih:QhM P r0 w0 CF X k ops rest (if F.contains i then Fs.headD []else F) fuel (listed.setIfInBounds i true))
  {j dj:Nat}{want:Bool}{u:Value}(ho:ops[i]?=some ⟨dst,op,ty,pos,aft,some (j,want)⟩)(hj:(ops[j]?).bind (·.dst)=some dj){T:Tr Value}{H:Hp}{n:Nat}{R:List Nat}{B:List (Nat×HX)}{ρ:Rho}{L':Qc}{As Bs:List HA}(hb:Qc.get L' dj=some u)(hw:u=.bool (!want)\/u=undef)
  (ht:Xi r0 w0 ρ X k ((Qtd X.n s dst rest).run CF T H n R))(hs:StOk r0 w0 ρ ⟨T,H,n⟩ L' As)(hR:QD (ha ρ) B=some Bs)(hB:X4 H R B):D X ops F (HS w0 [] (Bs++ρ.ex)) (fuel+1) listed k L' (HS w0 [] As):=by
 unfold Qtd at ht;split at ht
 ·rename_i d;cases hlt:Nat.blt d X.n with
  | false=>rw[hlt]at ht;exact ht.elim
  | true=>
   rw[hlt]at ht;simp only[cond_true]at ht;split at ht
   ·rename_i hok;replace hok:=hsP hok;rw[Bool.and_eq_true]at hok;have hfi:=Ql6 hok.2;simp only[hfi,Bool.false_eq_true,if_false]at ih;have next:D X ops F (HS w0 [] (Bs++ρ.ex)) fuel (listed.setIfInBounds i true) k ((d,undef)::L') (HS w0 [] As):=ih _ H n R B ρ _ As Bs ht ⟨hs.le,hs.sr.set Qc8,hs.hp,hs.fr⟩ hR hB
    rcases hw with hw|hw
    ·subst hw;exact Qud i dj ho hj hb rfl hok.1 hok.2 hlt next
    ·subst hw;exact Qp0 i dj ho hj hb hok.1 hok.2 hlt next
   ·split at ht
    ·rename_i y hr hturn
     have hfi:F.contains i=true:=by
      cases hfi:F.contains i with
      | true=>rfl
      | false=>rw[hturn,hfi]at hsT;cases hsT
     replace hr:=hsH hr;simp only[hfi,if_true]at ih;refine QvI dj ho hj hb hw hr (Qdh (w0:=w0) ρ.le_refl hs.hp hR hB) hlt ?_;refine QnD (B':=HS w0 [] ([]++ρ.ex)) (F':=Fs.headD []) ⟨i,by simpa using hfi,Qh7 hr⟩ ?_;exact ih _ H n [] [] ρ _ As [] ht ⟨hs.le,hs.sr.set Qc8,hs.hp,hs.fr⟩ rfl trivial
    ·exact ht.elim
 ·exact ht.elim
end
section
variable{P:Program}{r0:Rho}{w0:World}{CF:CallF}{X:Ctx}{k:List KI}{ops:List Oper}{fs:List (Nat×Inf)}
theorem Qcu(hF:CallOk P r0 CF)(hP:X.P=P)(hf:QdG ops 0 ops=some fs):∀(order:List It)(Fs:List Fin1)(F:Option Fin1)(listed:Array Bool)(M:Nat),Lm ops.length listed M->(∀x∈order,QsG ops.length x)->Qrs M order=2^ops.length-1->(∀f,F=some f->Qhx fs f)->(∀f∈Fs,Qhx fs f)->QhM P r0 w0 CF X k ⟨ops⟩ (Qb6 P X.n ⟨ops⟩ (mkF (QM fs fs) Fs F M order)) (Qeu F) (QoC order) listed
 | [],Fs,F,listed,M,hl,_,he,_,_=>λT H n R B ρ L' As Bs ht hs hR hB=>by
  have he':M=2^ops.length-1:=he;subst he';exact Qul (Qtg hl) (Qdh ρ.le_refl hs.hp hR hB) (ht ρ L' As ρ.le_refl hs)
 | .two i j ps::order,Fs,F,listed,M,hl,hlt,he,hFo,hFs=>by
  intro T H n R B ρ L' As Bs ht hs hR hB;obtain⟨hi,hj,hps⟩:=hlt _ (List.mem_cons_self ..);have he':Qrs (Yi (addL ps (Yi M i)) j) order=2^ops.length-1:=he;have ih:=Qcu hF hP hf order Fs F _ _ ((QfM (hl.set hi) hps).set hj) (λx hx=>hlt x (List.mem_cons_of_mem _ hx)) he' hFo hFs
  have ih':=Qcu hF hP hf order Fs F _ _ ((QfM ((hl.set hj).set hi) hps).perm (M':=Yi (addL ps (Yi M i)) j) λq=>by
   simp only[Qkb,ZK];cases M.testBit q<;>cases decide (i=q)<;>cases decide (j=q)<;>cases decide (q∈ps)<;>rfl) (λx hx=>hlt x (List.mem_cons_of_mem _ hx)) he' hFo hFs
  simp only[mkF,Qb6]at ht;split at ht
  ·rename_i oi oj e1 e2;exact Qtq hF hP (Qoz hf hl hi hj hps) ih ih' e1 e2 ht hs hR hB
  ·exact ht.elim
 | .one i::order,Fs,F,listed,M,hl,hlt,he,hFo,hFs=>by
  intro T H n R B ρ L' As Bs ht hs hR hB;have hi:i<ops.length:=hlt _ (List.mem_cons_self ..);have he':Qrs (Yi M i) order=2^ops.length-1:=he
  have ih:QhM P r0 w0 CF X k ⟨ops⟩ (Qb6 P X.n ⟨ops⟩ (mkF (QM fs fs) (Bool.rec Fs Fs.tail (isF F i)) (Bool.rec F Fs.head? (isF F i)) (Yi M i) order)) (if(Qeu F).contains i then((Fs.map λf=>[f.i]).headD [])else Qeu F) (QoC order) (listed.setIfInBounds i true):=by
   rw[Qei];cases hc:isF F i with
   | false=>exact Qcu hF hP hf order Fs F _ _ (hl.set hi) (λj hj=>hlt j (List.mem_cons_of_mem _ hj)) he' hFo hFs
   | true=>
    have:=Qcu hF hP hf order Fs.tail Fs.head? _ _ (hl.set hi) (λj hj=>hlt j (List.mem_cons_of_mem _ hj)) he' (λf e=>hFs f (List.mem_of_mem_head? (by rw[e];rfl))) (λf e=>hFs f (List.mem_of_mem_tail e));cases Fs with
    | nil=>exact this
    | cons f Fs=>exact this
  obtain⟨s1,s2,s3,s4⟩:=Qqa (i:=i) hf hl hFo
  have s5:(Qeh (QM fs fs) F M i).turn.isSome=(Qeu F).contains i:=by
   rw[Qlb,Qei];cases isF F i<;>rfl
  simp only[mkF,Qb6,s4]at ht;split at ht
  ·rename_i o ho;obtain⟨dst,op,ty,pos,aft,guard⟩:=o;cases guard with
   | none=>exact QrJ (Fs:=Fs.map λf=>[f.i]) hF hP s1 s2 s3 s5 ih ho ht hs hR hB (.inl rfl)
   | some jw=>
    obtain⟨j,want⟩:=jw;simp only[]at ht;split at ht
    ·rename_i dj hj;simp only[]at ht;split at ht
     ·rename_i b hb;obtain⟨u,e1,e2⟩:=hs.sr.get (show en T dj=_ from hb);injection e2 with e2
      subst e2;cases hw:b==want with
      | true=>
       rw[hw]at ht;exact QrJ (Fs:=Fs.map λf=>[f.i]) hF hP s1 s2 s3 s5 ih ho ht hs hR hB (.inr ⟨j,want,dj,b,rfl,hj,e1,by simpa using hw⟩)
      | false=>
       rw[hw]at ht;exact Qnk (Fs:=Fs.map λf=>[f.i]) s1 s3 s5 ih ho hj e1 (.inl (by cases b<;>cases want<;>simp_all)) ht hs hR hB
     ·rename_i hb;obtain⟨u,e1,e2⟩:=hs.sr.get (show en T dj=_ from hb);injection e2 with e2
      subst e2;exact Qnk (Fs:=Fs.map λf=>[f.i]) s1 s3 s5 ih ho hj e1 (.inr rfl) ht hs hR hB
     ·exact ht.elim
    ·exact ht.elim
  ·exact ht.elim
end
end Ev
namespace Ev
open Go Go.RowKit
def Qr3(P:Program)(Z:FuncId->Bool):Op->Bool
 | .alloc _=>true
 | .box _ _=>true
 | .store _ _ _=>true
 | .buildSlice _ _ _=>true
 | .makeSlice _ _ _=>true
 | .makeMap _ _=>true
 | .mapUpdate _ _ _ _=>true
 | .convert _ dst _=>match P.underlying dst with
  | some (.slice _)=>true
  | _=>false
 | .call ⟨.value (.func g),_,_⟩=>QK P g&& !Z g
 | .call ⟨.value _,_,_⟩=>true
 | .call ⟨.builtin b,_,_⟩=>match b with
  | .append=>true
  | .copy=>true
  | .clear=>true
  | _=>false
 | _=>false
def isQ:Op->Bool
 | .load _ _=>true
 | .lookup _ _ _ _=>true
 | .convert _ _ _=>true
 | .call ⟨.value _,_,_⟩=>true
 | _=>false
noncomputable def at'(ops:List Oper)(i:Nat):Option Oper:=List.rec (λ_=>none) (λo _ ih i=>Nat.rec (some o) (λj _=>ih j) i) ops i
noncomputable def QwB(P:Program)(Z:FuncId->Bool)(ops:List Oper)(M:Nat)(rows:List Row):Option Nat:=List.rec none (λr _ ih=>Bool.rec (Bool.rec ih (match at' ops r.i with
 | some o=>Bool.rec (some r.i) ih (Qr3 P Z o.op||isQ o.op)
 | none=>ih) (Zw r.need M)) ih (has M r.i)) rows
noncomputable def QwR(P:Program)(Z:FuncId->Bool)(ops:List Oper)(M:Nat)(rows:List Row):Option Nat:=List.rec none (λr _ ih=>Bool.rec (Bool.rec ih (match at' ops r.i with
 | some o=>Bool.rec (some r.i) ih (Qr3 P Z o.op)
 | none=>ih) (Zw r.need M)) ih (has M r.i)) rows
noncomputable def Quj(P:Program)(Z:FuncId->Bool)(ops:List Oper)(M:Nat)(rows:List Row):Option Nat:=match QwB P Z ops M rows with
 | some i=>some i
 | none=>QwR P Z ops M rows
noncomputable def QuG(M:Nat)(rows:List Row):Option Nat:=List.rec none (λr _ ih=>Bool.rec (Bool.rec ih (some r.i) (Zw r.em M)) ih (has M r.i)) rows
def isNw:Op->Bool
 | .makeMap _ none=>true
 | .alloc _=>true
 | _=>false
noncomputable def psR(P:Program)(Z:FuncId->Bool)(ops:List Oper)(rows:List Row)(f:Nat):Nat->List Nat:=Nat.rec (λ_=>[]) (λ_ ih M=>match Quj P Z ops M rows with
 | some i=>i::ih (Yi M i)
 | none=>[]) f
noncomputable def Qw2(P:Program)(Z:FuncId->Bool)(ops:List Oper)(allr:List Row)(M i:Nat)(ni:Bool)(rows:List Row):Option It:=List.rec none (λr _ ih=>Bool.rec (Bool.rec (Bool.rec ih (match at' ops r.i with
 | some o=>Bool.rec (Bool.rec ih (some (.two r.i i (psR P Z ops allr ops.length (Yi M r.i)))) ni) (some (.two i r.i (psR P Z ops allr ops.length (Yi M i)))) (isNw o.op)
 | none=>ih) (Zw r.em M)) ih (has M r.i)) ih (Nat.beq r.i i)) rows
noncomputable def makR(P:Program)(Z:FuncId->Bool)(ops:List Oper)(rows:List Row)(M i:Nat):It:=Bool.rec (match at' ops i with
 | some o=>(match Qw2 P Z ops rows M i (isNw o.op) rows with
  | some x=>x
  | none=>.one i)
 | none=>.one i) (.one i) (Qj0 M i rows)
noncomputable def addI(M:Nat):It->Nat
 | .one i=>Yi M i
 | .two i j ps=>Yi (addL ps (Yi M i)) j
noncomputable def Qfy(P:Program)(Z:FuncId->Bool)(ops:List Oper)(rows:List Row)(f:Nat):Nat->List It:=Nat.rec (λ_=>[]) (λ_ ih M=>match Quj P Z ops M rows with
 | some i=>.one i::ih (Yi M i)
 | none=>(match QuG M rows with
  | some i=>makR P Z ops rows M i::ih (addI M (makR P Z ops rows M i))
  | none=>[])) f
noncomputable def Qlq(tm:Nat)(qs:List Nat):Bool:=List.rec true (λq _ ih=>Bool.rec false ih (has tm q)) qs
noncomputable def Qgc(P:Program)(Z:FuncId->Bool)(ops:List Oper)(fs:List (Nat×Inf))(rows:List Row)(order:List It):List Nat->List Fin1:=List.rec (λ_=>[]) (λx _ ih qs=>match x with
 | .two _ _ _=>ih qs
 | .one i=>match at' ops i,Qdr i rows with
 | some o,some r=>Bool.rec (ih (Bool.rec qs (i::qs) (isQ o.op))) (Bool.rec (ih (Bool.rec qs (i::qs) (isQ o.op))) (⟨i,Qfv fs r.em⟩::ih []) (Qlq (Qfv fs r.em) qs)) (Qr3 P Z o.op)
 | _,_=>ih qs) order
theorem Qbk{P:Program}{Z:FuncId->Bool}{ops:List Oper}{fs:List (Nat×Inf)}:∀(order:List It)(qs:List Nat),∀f∈Qgc P Z ops fs (QM fs fs) order qs,Qhx fs f
 | [],qs,f,h=>by cases h
 | .two _ _ _::order,qs,f,h=>Qbk order qs f h
 | .one i::order,qs,f,h=>by
  have hu:Qgc P Z ops fs (QM fs fs) (.one i::order) qs=(match at' ops i,Qdr i (QM fs fs)with
   | some o,some r=>Bool.rec (Qgc P Z ops fs (QM fs fs) order (Bool.rec qs (i::qs) (isQ o.op))) (Bool.rec (Qgc P Z ops fs (QM fs fs) order (Bool.rec qs (i::qs) (isQ o.op))) (⟨i,Qfv fs r.em⟩::Qgc P Z ops fs (QM fs fs) order []) (Qlq (Qfv fs r.em) qs)) (Qr3 P Z o.op)
   | _,_=>Qgc P Z ops fs (QM fs fs) order qs):=rfl
  rw[hu]at h;split at h
  ·rename_i o r h1 h2;cases hk:Qr3 P Z o.op with
   | false=>rw[hk]at h;exact Qbk order _ f h
   | true=>
    rw[hk]at h;cases hh:Qlq (Qfv fs r.em) qs with
    | false=>rw[hh]at h;exact Qbk order _ f h
    | true=>
     rw[hh]at h;rcases List.mem_cons.1 h with rfl|h
     ·obtain⟨g1,g2⟩:=Qad h2;exact⟨r,g1,g2,rfl⟩
     ·exact Qbk order _ f h
  ·exact Qbk order _ f h
noncomputable def ltI(n:Nat):It->Bool
 | .one i=>Nat.blt i n
 | .two i j ps=>Nat.blt i n&&(Nat.blt j n&&ps.all λq=>Nat.blt q n)
noncomputable def Qkj(n:Nat)(l:List It):Bool:=List.rec true (λi _ ih=>Bool.rec false ih (ltI n i)) l
theorem QhJ{n:Nat}:∀{l:List It},Qkj n l=true->∀i∈l,QsG n i
 | a::l,h,i,hi=>by
  have hu:Qkj n (a::l)=(Bool.rec false (Qkj n l) (ltI n a):Bool):=rfl;rw[hu]at h;cases hb:ltI n a with
  | false=>rw[hb]at h;cases h
  | true=>
   rw[hb]at h;rcases List.mem_cons.1 hi with rfl|hi
   ·cases i with
    | one i=>simpa[ltI,QsG,Nat.blt_eq]using hb
    | two i j ps=>simpa[ltI,QsG,Nat.blt_eq]using hb
   ·exact QhJ h i hi
 | [],_,i,hi=>by cases hi
noncomputable def QoY(P:Program)(Z:FuncId->Bool)(nt:Nat):Array Oper->CS
 | ⟨ops⟩=>match QdG ops 0 ops with
  | some fs=>Bool.rec noC (match Qgc P Z ops fs (QM fs fs) (Qfy P Z ops (QM fs fs) ops.length 0) []with
    | []=>⟨λF T H n=>(Qb6 P nt ⟨ops⟩ (mkF (QM fs fs) [] none 0 (Qfy P Z ops (QM fs fs) ops.length 0))).run F T H n []⟩
    | f::Fs=>⟨λF T H n=>(Qb6 P nt ⟨ops⟩ (mkF (QM fs fs) Fs (some f) 0 (Qfy P Z ops (QM fs fs) ops.length 0))).run F T H n []⟩)
   (Nat.beq (QoC (Qfy P Z ops (QM fs fs) ops.length 0)) ops.length&&(Nat.beq (Qrs 0 (Qfy P Z ops (QM fs fs) ops.length 0)) (2^ops.length-1)&&Qkj ops.length (Qfy P Z ops (QM fs fs) ops.length 0)))
  | none=>noC
theorem Qqw{P:Program}{Z:FuncId->Bool}(hm:P.follows .mixedOrders=true):QlW P (QoY P Z):=by
 intro l id r0 w0 X k F T H n ρ L' As hP hF ht hs;unfold QoY at ht;simp only[]at ht;split at ht
 ·rename_i fs hf;cases hc:(Nat.beq (QoC (Qfy P Z l (QM fs fs) l.length 0)) l.length&&(Nat.beq (Qrs 0 (Qfy P Z l (QM fs fs) l.length 0)) (2^l.length-1)&&Qkj l.length (Qfy P Z l (QM fs fs) l.length 0)))with
  | false=>rw[hc]at ht;exact ht.elim
  | true=>
   rw[hc]at ht;simp only[Bool.and_eq_true]at hc;have hlen:=Nat.eq_of_beq_eq_true hc.1
   have key:∀(Fs:List Fin1)(F':Option Fin1),(∀f,F'=some f->Qhx fs f)->(∀f∈Fs,Qhx fs f)->Xi r0 w0 ρ X k ((Qb6 P X.n ⟨l⟩ (mkF (QM fs fs) Fs F' 0 (Qfy P Z l (QM fs fs) l.length 0))).run F T H n [])->S X (.c (.region id ⟨l⟩ true)::k) L' (HS w0 [] As):=by
    intro Fs F' h1 h2 h;refine Qjl ([]++ρ.ex) (Qeu F') (by rw[hP];exact hm) ?_;have:=Qcu (w0:=w0) (k:=k) hF hP hf (Qfy P Z l (QM fs fs) l.length 0) Fs F' (Array.replicate l.length false) 0 (Lm.start _) (QhJ hc.2.2) (Nat.eq_of_beq_eq_true hc.2.1) h1 h2 T H n [] [] ρ L' As [] h hs rfl trivial;rw[hlen]at this;exact this
   split at ht<;>grind[Qbk,Qfy,QM]
 ·exact ht.elim
def extCS(c:Nat):FuncId->List Value->Option Value:=λf vs=>match vs with
 | [.string ⟨⟨a⟩⟩,.string ⟨⟨b⟩⟩]=>bif Nat.beq f c then some (.int .i64 (Qch a b))else none
 | _=>none
theorem extCS_ok{P:Program}{c:Nat}(hc:Qu3 P c):QjP P (extCS c):=by
 intro f vs v h w0 ρ us As hvs o L' args ts ho hev;unfold extCS at h;split at h
 ·rename_i a b;obtain⟨h1,rfl⟩:=Qx h;have hf:=Nat.eq_of_beq_eq_true h1;subst hf;injection hvs with hvs
  subst hvs
  obtain⟨x,y,hxy,hx,hy⟩:∃x y,args.toList=[x,y]/\Gx.ev L' x=some (.string (bs a))/\Gx.ev L' y=some (.string (bs b)):=by
   match hl:args.toList with
   | []=>rw[hl]at hev;cases hev
   | [x]=>grind[evs]
   | [x,y]=>
    rw[hl]at hev;simp only[evs]at hev;split at hev
    ·rename_i v vs h1 h2;split at h2
     ·rename_i v' vs' h3 h4;injection h4 with h4
      injection h2 with h2
      subst h4 h2;injection hev with hev
      injection hev with e1 e2
      injection e2 with e2 e3
      subst e1 e2;exact⟨x,y,rfl,h1,h3⟩
     ·cases h2
    ·cases hev
   | x::y::z::r=>grind[evs]
  rw[Qeo hxy]at ho;exact⟨_,rfl,Qfg ho hx hy hc⟩
 ·cases h
theorem ev_run{P:Program}{K:CallF}{Z:FuncId->Bool}{m f:Nat}{g:FuncId}{vs:List Value}{v:Value}(hK:KnOk P K)(hm:P.follows .mixedOrders=true)(hvs:Xz vs=true)(hv:Z2 v=true)(h:(match(evF P K Z m (QoY P Z) f).f noY g vs .lf 0 with
  | some r=>some r.1
  | none=>none)=some v):∀w,Calls P g vs.toArray w (λe w'=>e=.returned v/\HS w [] [] w'):=by
 intro w;split at h
 ·rename_i r hr;injection h with h
  subst h;obtain⟨v,H',n'⟩:=r
  have:=((Qrh (Z:=Z) (m:=m) hK (Qqw hm) f ⟨λ_=>none,[]⟩).f _ _ QdI) g vs .lf 0 v H' n' hr w ⟨λ_=>none,[]⟩ vs [] (Rho.le_refl _) (XA (λa b e=>Qdu (QbS e)) (Ya hvs)) ⟨[],[],(λm r hm=>by
   have h':Y1 (pth m) m (.lf:Hp)=some r:=hm;rw[Zs]at h';cases h'),rfl,rfl⟩ (λ_ _=>rfl) w (HS.refl w [])
  refine Calls.mono this λe w'⟨ρ',As',u,h1,h2,h3,h4,h5,h6⟩=>?_;rw[Qbf hv]at h3;injection h3 with h3
  subst h3;exact⟨h5,h6.sub (List.nil_sublist _)⟩
 ·cases h
end Ev
namespace Ev
open Go Go.RowKit
def InsC(P:Program)(f e sz by':Nat):Prop:=∀(w:World)(a:Option Addr)(i n m cap:Nat)(xs news:List Value)(b0 c0 tot2:Nat),HS w (fps [.own (.slice a n cap) e sz n xs,.blk b0 e tot2 news]) [.own (.slice a n cap) e sz n xs,.blk b0 e tot2 news] w->0<m->news.length=m*sz->(∀u∈news,u.oneCell'=true)->(∀u∈xs,u.oneCell'=true)->(n+m)*by'<=140737488355328->i<=n ->
 Calls P f #[.slice a n cap,.int .i64 (i:Int),.slice (some ⟨b0,0,none⟩) m c0] w λen w'=>∃g:Option Addr×Nat,en=.returned (.slice g.1 (n+m) g.2)/\True/\HS w (fps [.own (.slice a n cap) e sz n xs,.blk b0 e tot2 news]) [.own (.slice g.1 (n+m) g.2) e sz (n+m) (xs.take (i*sz)++news++xs.drop (i*sz)),.blk b0 e tot2 news] w'
noncomputable def Qwq(e sz by':Nat)(H:Hp)(n:Nat):List Value->Option (Value×Hp×Nat)
 | [.slice none l c,.int .i64 (.ofNat i),.slice (some ⟨q,0,_⟩) m _]=>match YK H q with
  | some rq=>bif (Nat.beq rq.ty e&&(Nat.beq rq.cs.length (m*sz)&&(Nat.blt 0 m&&Nat.ble i l)))&&((Nat.beq l 0&&Nat.beq c 0)&&Nat.ble ((l+m)*by') 140737488355328)then some (.slice (some ⟨n,0,none⟩) (l+m) (l+m),Yv H n ⟨e,sz,rq.cs⟩,n+1)else none
  | none=>none
 | [.slice (some ⟨p,0,none⟩) l c,.int .i64 (.ofNat i),.slice (some ⟨q,0,_⟩) m _]=>match YK H p,YK H q with
  | some r,some rq=>bif (Nat.beq rq.ty e&&(Nat.beq rq.cs.length (m*sz)&&(Nat.blt 0 m&&Nat.ble i l)))&&((!Nat.beq q p&&(Nat.beq r.ty e&&(Nat.beq r.sz sz&&(Nat.beq r.cs.length (c*sz)&&Nat.blt 0 sz))))&&((Nat.ble l c&&Nat.ble c maxLen)&&Nat.ble ((l+m)*by') 140737488355328))then some (.slice (some ⟨n,0,none⟩) (l+m) (l+m),Yv (Qi0 H p) n ⟨e,sz,(r.cs.take (l*sz)).take (i*sz)++rq.cs++(r.cs.take (l*sz)).drop (i*sz)⟩,n+1)else none
  | _,_=>none
 | _=>none
noncomputable def QsR:List (Nat×Nat×Nat×Nat)->Qj4
 | [],_,_,_,_=>none
 | (f,e,sz,by')::l,g,vs,H,n=>bif Nat.beq g f then Qwq e sz by' H n vs else QsR l g vs H n
theorem Qqb{ρ:Rho}{p o l c:Nat}{u:Value}(h:den ρ (.slice (some ⟨p,o,none⟩) l c)=some u):∃b d,ρ p=some (b,d)/\u=.slice (some ⟨b,o,none⟩) l (c+d):=by grind[den,XH,Q6,X3]
theorem Qmu{ρ:Rho}{p o l c:Nat}{q:Option Nat}{u:Value}(h:den ρ (.slice (some ⟨p,o,q⟩) l c)=some u):∃b d c',ρ p=some (b,d)/\u=.slice (some ⟨b,o,none⟩) l c':=by cases q<;>grind[Qqb,den,XH,Q6,X3]
theorem Qae{α β:Type}{f:α->Option β}{a:α}{l:List α}{m:List β}(h:QD f (a::l)=some m):∃b m',f a=some b/\QD f l=some m'/\m=b::m':=by grind[QD]
theorem Qtu{P:Program}{f e sz by':Nat}(hI:InsC P f e sz by'){vs:List Value}{H:Hp}{n:Nat}{v:Value}{H':Hp}{n':Nat}(h:Qwq e sz by' H n vs=some (v,H',n'))(w0:World)(ρ:Rho)(us:List Value)(As:List HA)(hus:QD (den ρ) vs=some us)(hH:HM ρ H As)(hf:Q2 ρ n)(w:World)(hw:HS w0 [] As w):Calls P f us.toArray w (QnG w0 ρ v H' n'):=by
 unfold Qwq at h;split at h
 ·rename_i l c i q x m y;obtain⟨u1,m1,d1,hus1,rfl⟩:=Qae hus;obtain⟨u2,m2,d2,hus2,rfl⟩:=Qae hus1;obtain⟨u3,m3,d3,hus3,rfl⟩:=Qae hus2;cases hus3;cases d1;cases d2;obtain⟨b0,d0,c0,e1,rfl⟩:=Qmu d3;split at h
  ·rename_i rq hq;obtain⟨hc,he⟩:=Qx h
   clear h
   simp only[Bool.and_eq_true]at hc;obtain⟨⟨k1,k2,k3,k4⟩,⟨k5,k6⟩,k7⟩:=hc;have hl0:=Nat.eq_of_beq_eq_true k5;have hc0:=Nat.eq_of_beq_eq_true k6;have hi0:i=0:=by have:=Nat.le_of_ble_eq_true k4;omega
   have hty:=Nat.eq_of_beq_eq_true k1;subst hl0 hc0 hi0 hty;injection he with h1 h2
   injection h2 with h2 h3
   subst h1 h2 h3;obtain⟨b,d,cu,Rs,g1,g2,g3,g4,_,_⟩:=Yp hH hq;rw[g1]at e1;injection e1 with e1
   injection e1 with e1 e3
   subst e1 e3;have hw2:=((hw.perm g4.perm).own_nil rq.ty sz);have hlen:cu.length=m*sz:=by rw[Xl g2];exact Nat.eq_of_beq_eq_true k2
   have hfoc:=HS.focus (Cs:=[.own (.slice none 0 0) rq.ty sz 0 [],.blk b rq.ty (cu.length+d*rq.sz) cu]) (Ds:=Rs) hw2;refine Calls.mono (hI w none 0 0 m 0 [] cu b c0 _ hfoc (by simpa[Nat.blt_eq]using k3) hlen (List.all_eq_true.1 (Y9 g2)) (λ_ h=>by cases h) (Nat.le_of_ble_eq_true k7) (Nat.le_refl _)) λen w'⟨g,h1,_,h2⟩=>?_;have h3:=HS.callM (Cs:=[.own (.slice none 0 0) rq.ty sz 0 [],.blk b rq.ty (cu.length+d*rq.sz) cu]) (As:=Rs) hw2 (λb hb=>by obtain⟨A,hA,hb⟩:=List.mem_flatMap.1 hb;exact⟨A,hA,hb⟩) h2;have hpos:0<0+m:=by simpa[Nat.blt_eq]using k3
   obtain⟨gg,ga,_,hn,hcm,hxl,h4⟩:=h3.own_blk hpos .here;have h5:HS w0 [] (.blk gg rq.ty (g.2*sz) ([].take (0*sz)++cu++[].drop (0*sz))::As) w':=h4.perm (.cons _ g4.perm.symm);obtain⟨ρ',As',o1,o2,o3,o4,o5⟩:=Qef (w0:=w0) (e:=rq.ty) (sz:=sz) (k:=0) (m:=m) (g:=(gg,g.2)) (xs:=cu) ⟨As,hH,.refl _⟩ hf g2 hn hcm (by rw[hlen,Nat.zero_add]);refine⟨ρ',As',_,o1,o2,o3,o4,?_,o5 _ (by simpa using h5)⟩;rw[h1,ga]
  ·cases h
 ·rename_i p l c i q x m y;obtain⟨u1,m1,d1,hus1,rfl⟩:=Qae hus;obtain⟨u2,m2,d2,hus2,rfl⟩:=Qae hus1;obtain⟨u3,m3,d3,hus3,rfl⟩:=Qae hus2;cases hus3;cases d2;obtain⟨b9,d9,e9,rfl⟩:=Qqb d1;obtain⟨b0,d0,c0,e1,rfl⟩:=Qmu d3;split at h
  ·rename_i r rq hp hq;obtain⟨hc,he⟩:=Qx h
   clear h
   simp only[Bool.and_eq_true]at hc;obtain⟨⟨k1,k2,k3,k4⟩,⟨k5,k6,k7,k8,k9⟩,⟨k10,k11⟩,k12⟩:=hc;have hty:=Nat.eq_of_beq_eq_true k1;have hty2:=Nat.eq_of_beq_eq_true k6;have hsz2:=Nat.eq_of_beq_eq_true k7;have hlenr:=Nat.eq_of_beq_eq_true k8;have hsz0:0<sz:=by simpa[Nat.blt_eq]using k9
   have hlc:=Nat.le_of_ble_eq_true k10;have hcm:=Nat.le_of_ble_eq_true k11;have hqp:q≠p:=λh=>by subst h;simp[Nat.beq_refl]at k5
   injection he with h1 h2
   injection h2 with h2 h3
   subst h1 h2 h3;obtain⟨b,d,rs,Rs,g1,g2,g3,g4,_,As3,g6,g7⟩:=Yp hH hp;rw[g1]at e9;injection e9 with e9
   injection e9 with e9 e3
   subst e9 e3;obtain⟨b',d',cu,Rs2,f1,f2,f3,f4,_,_⟩:=Yp g6 (by unfold YK;rw[QcG hqp];exact hq);rw[f1]at e1;injection e1 with e1
   injection e1 with e1 e3
   subst e1 e3;have hlr:=Xl g2
   have hcd:c+d<=maxLen:=by
    unfold room at g3;rcases g3 with g3|g3
    ·omega
    ·rw[hlenr,hsz2,<-Nat.add_mul]at g3;exact Nat.le_of_mul_le_mul_right g3 hsz0
   have htot:rs.length+d*r.sz=(c+d)*sz:=by rw[hlr,hlenr,hsz2,Nat.add_mul]
   rw[hty2,htot]at g4;rw[hty]at f4;have hw2:=HS.to_own (n:=l) g4 hw (List.take_append_drop (l*sz) rs).symm (by rw[List.length_take,hlr,hlenr];exact Nat.min_eq_left (Nat.mul_le_mul_right _ hlc)) om hcd;have hw3:=hw2.perm (.cons _ (g7.trans f4.perm));have hlen:cu.length=m*sz:=by rw[Xl f2];exact Nat.eq_of_beq_eq_true k2
   have hfoc:=HS.focus (Cs:=[.own (.slice (some ⟨b,0,none⟩) l (c+d)) e sz l (rs.take (l*sz)),.blk b' e (cu.length+d'*rq.sz) cu]) (Ds:=Rs2) hw3;have hone:=List.all_eq_true.1 (Y9 g2);refine Calls.mono (hI w _ i l m (c+d) (rs.take (l*sz)) cu b' c0 _ hfoc (by simpa[Nat.blt_eq]using k3) hlen (List.all_eq_true.1 (Y9 f2)) (λu hu=>hone u (List.mem_of_mem_take hu)) (Nat.le_of_ble_eq_true k12) (Nat.le_of_ble_eq_true k4)) λen w'⟨g,h1,_,h2⟩=>?_;have h3:=HS.callM (Cs:=[.own (.slice (some ⟨b,0,none⟩) l (c+d)) e sz l (rs.take (l*sz)),.blk b' e (cu.length+d'*rq.sz) cu]) (As:=Rs2) hw3 (λb hb=>by obtain⟨A,hA,hb⟩:=List.mem_flatMap.1 hb;exact⟨A,hA,hb⟩) h2
   have hpos:0<l+m:=by
     have:0<m:=by simpa[Nat.blt_eq]using k3
     omega
   obtain⟨gg,ga,_,hn,hcm2,hxl,h4⟩:=h3.own_blk hpos .here;have h5:HS w0 [] (.blk gg e (g.2*sz) ((rs.take (l*sz)).take (i*sz)++cu++(rs.take (l*sz)).drop (i*sz))::As3) w':=h4.perm (.cons _ f4.perm.symm);have hcells:QD (Q6 ρ) ((r.cs.take (l*sz)).take (i*sz)++rq.cs++(r.cs.take (l*sz)).drop (i*sz))=some ((rs.take (l*sz)).take (i*sz)++cu++(rs.take (l*sz)).drop (i*sz)):=ZD (ZD (XX _ (XX _ g2)) f2) (YO _ (XX _ g2));obtain⟨ρ',As',o1,o2,o3,o4,o5⟩:=Qef (w0:=w0) (e:=e) (sz:=sz) (k:=l) (m:=m) (g:=(gg,g.2)) ⟨As3,g6,.refl _⟩ hf hcells hn hcm2 hxl;refine⟨ρ',As',_,o1,o2,o3,o4,?_,o5 _ h5⟩;rw[h1,ga]
  ·cases h
 ·cases h
theorem Qm1{P:Program}{r0:Rho}:∀{l:List (Nat×Nat×Nat×Nat)},(∀x∈l,InsC P x.1 x.2.1 x.2.2.1 x.2.2.2)->QkZ P r0 (QsR l)
 | [],_=>λ_ _ _ _ _ _ _ h=>by cases h
 | (f,e,sz,by')::l,hl=>by
  intro g vs H n v H' n' h;simp only[QsR]at h;cases hb:Nat.beq g f with
  | true=>
   rw[hb]at h;have hg:=Nat.eq_of_beq_eq_true hb;subst hg;exactλw0 ρ us As _ hus hH hf w hw=>Qtu (hl _ (List.mem_cons_self ..)) h w0 ρ us As hus hH hf w hw
  | false=>
   rw[hb]at h;exact Qm1 (λx hx=>hl x (List.mem_cons_of_mem _ hx)) g vs H n v H' n' h
noncomputable def knI(l:List (Nat×Nat×Nat×Nat))(e:FuncId->List Value->Option Value):CallF:=⟨λ_=>QsR l,e,noY⟩
theorem knI_ok{P:Program}{l:List (Nat×Nat×Nat×Nat)}{e:FuncId->List Value->Option Value}(h:∀x∈l,InsC P x.1 x.2.1 x.2.2.1 x.2.2.2)(he:QjP P e):KnOk P (knI l e):=⟨λr1 _=>Qm1 h,he⟩
end Ev
end Gx
namespace Go.Proofs
open Go Go.RowKit Gx
theorem QvU:Ev.InsC Tryz.prog 165 27 2 32:=λw a i n m cap xs news b0 c0 tot2=>c165 w a i n m cap xs news b0 c0 tot2
theorem Qv8:Ev.InsC Tryz.prog 249 3 1 8:=λw a i n m cap xs news b0 c0 tot2=>c249 w a i n m cap xs news b0 c0 tot2
set_option maxRecDepth 1000000 in
theorem c11(w:World):CR 11 #[] w (.bool true):=by
  have h:=Ev.ev_run (P:=Tryz.prog) (K:=Ev.knI [(165,27,2,32),(249,3,1,8)] (Ev.extCS 254)) (Z:=λg=>Ev.memN g [127]) (m:=1000) (f:=60) (g:=11) (vs:=[]) (v:=.bool true) (Ev.knI_ok (λx hx=>by
    rcases List.mem_cons.1 hx with rfl|hx
    · exact QvU
    · rcases List.mem_cons.1 hx with rfl|hx
      · exact Qv8
      · cases hx) (Ev.extCS_ok QpL)) QJ rfl rfl (by kernel_rfl) w
  refine Calls.mono h ?_
  intro en w' hh
  obtain⟨h1,h2⟩:=hh
  exact⟨h1,HS.below h2⟩
end Go.Proofs
namespace Go.Proofs
open Go Go.RowKit Gx
attribute [local irreducible] Go.Calls Gx.S Gx.O Gx.D Gx.OpP Gx.OpQ Gx.OpH
set_option maxRecDepth 20000
instance:TFn Tryz.prog 74:=⟨by kernel_rfl⟩
instance:TFn Tryz.prog 11:=⟨by kernel_rfl⟩
instance:TFn Tryz.prog 19:=⟨by kernel_rfl⟩
theorem Qt6:QK Tryz.prog 21=true:=by kernel_rfl
instance:TFn Tryz.prog 28:=⟨by kernel_rfl⟩
instance:TFn Tryz.prog 31:=⟨by kernel_rfl⟩
instance:TFn Tryz.prog 23:=⟨by kernel_rfl⟩
instance:TFn Tryz.prog 24:=⟨by kernel_rfl⟩
theorem QwT:QK Tryz.prog 32=true:=by kernel_rfl
theorem QfR{L:List LNd}(h:Zb (pln L)=true):∀i,i<L.length->∀x∈(nth L i).es,x.key.length<=1000000/\x.val.length<=1000000:=λi hi x hx=>by
  have h1:=(QcX h (k:=i) (by rwa[Qe])).2.2 x (by rw[Q0 hi];exact hx);omega
theorem c19(w:World)(co mo rm:Int)(a:Option Addr)(cap:Nat)(L:List LNd)(hs:Nt w [] a L):CR 19 #[.agg #[.int .i64 co,.int .i64 mo,.int .i64 rm,.slice a L.length cap]] w (.bool (Zb (pln L)&&decide ((L.length:Int)<=20))):=by
 refine eN1 Tryz.func19 Tryz.ntmps19 ?_
 refine aU2 ?_
 refine oBx λb1 _=>?_
 refine aU5 ?_
 refine oCq rfl (λw1 h1=>c74 w1 co mo rm a cap L (hs.later h1.nil)) (aU ?_)
 refine XP 5 5 10 rfl
  (λhg2 _=>by
   refine aU8 ?_
   exact oJt 5 10)
  (λhg4 _=>by
   refine aU4 ?_
   exact oJf 5 10) ?_
 refine aU2 ?_
 exact rV
end Go.Proofs
namespace Gx
open Go Go.RowKit
section
variable{P:Program}{o:Oper}{L:Qc}{w0:World}{M:List Nat}{As As':List HA}
theorem Qgj{dt st by' m cd b tot i:Nat}{d s:Operand}{ad:Option Addr}{bt:TypeId}{x l:List UInt8}{e:TypeId}(ho:o.op=.call {callee:=.builtin .copy,args:=#[d,s],argTypes:=#[dt,st]})(hd:Gx.ev L d=some (.slice ad m cd))(ha:0<m->ad=some ⟨b,i,none⟩)(hx:Gx.ev L s=some (.string (bs l)))(ht:tsl P dt=some (e,1,by'))
  (hp:Put As (.blk b bt tot (x.map bv)) (.blk b bt tot ((QN x i l).map bv)) As')(hm0:0<m)(hk:l.length<=m)(hr:i+l.length<=x.length) :
  OpH P o L (HS w0 M As) (λ_:Unit=>.int .i64 (l.length:Int)) (λ_=>True) (λ_=>HS w0 M As'):=by
 rw[ha hm0]at hd;intro ρ w hρ hw;obtain⟨hu,inf,hi,hs1,hs2⟩:=Xf ht;have hsz:(Go.sizeOf e).run P w=.ok 1 w:=by simp[Go.sizeOf,typeInfo,hi,hs1]
 have hfc:(Builtin.firstCells 1 l.length (.string (bs l))).run P w=.ok (l.map bv).toArray w:=by
  have hx:(bs l).extract 0 l.length=bs l:=(QhE _).trans (congrArg bs (by rw[Lib.extract_data];simp));simp only[Builtin.firstCells,hx,Sem.run_pure];congr 1;simp[bs,bv]
 have hbl:(bs l).size=l.length:=rfl;have hk':Nat.min l.length m=l.length:=Nat.min_eq_left hk;obtain⟨Rs,h3,h4⟩:=hp.ex;have hpk:=hw.pick h3;obtain⟨w',hst,hb,r1,r2,r3,r4,r5⟩:=XK (P:=P) (l.map bv) 0 (x.map bv) w hpk.head (by simpa using hr) (Qmr l) (i:=i)
 have he:(Builtin.copy_ #[dt,st] o.type #[.slice (some ⟨b,i,none⟩) m cd,.string (bs l)]).run P w=.ok (.int .i64 (l.length:Int)) w':=by
  unfold Builtin.copy_;simp[run_underlying hu,Builtin.lenOf,hbl,hk',hsz,hfc,goInt,hst]
 have hcs:Qi (x.map bv) i (l.map bv)=(QN x i l).map bv:=by
  rw[QdK _ _ _ (by simpa using hr),QN];simp only[List.map_append,List.map_take,List.map_drop,List.length_map]
 simp only[execOp,ho,resolve,Sem.run_bind,Sem.run_pure,Result.andThen_ok,invoke,builtin,List.map_toArray,List.map_cons,List.map_nil,hρ _ _ hd,hρ _ _ hx,he];exact⟨(),rfl,trivial,(HS.swap hpk (B:=.blk b bt tot ((QN x i l).map bv)) (λ_ h=>h) r1 r2 r3 r4 (λk hk=>r5 k (by simpa[HA.fp_blk]using hk)) (show Q5 b bt tot ((QN x i l).map bv) w' by rw[<-hcs];simpa using hb)).perm h4⟩
end
theorem Qq3(s:List UInt8):Value.int .i64 (bits .or .i64 (IntKind.i64.wrap ((s.getD 0 0).toNat:Int)) (IntKind.i64.wrap (IntKind.i64.wrap ((s.getD 1 0).toNat:Int)*2^8)))=.int .i64 ((ub2 s 0:Nat):Int):=by
 have ha:=(s.getD 0 0).toNat_lt;have hb:=(s.getD 1 0).toNat_lt;have e2:IntKind.i64.wrap ((s.getD 1 0).toNat:Int)=(((s.getD 1 0).toNat:Nat):Int):=IntWalk.i64_in _ ⟨om,om⟩;have e1:IntKind.i64.wrap ((s.getD 0 0).toNat:Int)=(((s.getD 0 0).toNat:Nat):Int):=IntWalk.i64_in _ ⟨om,om⟩;have e3:(((s.getD 1 0).toNat:Nat):Int)*2^8=((256*(s.getD 1 0).toNat:Nat):Int):=om
 have e4:IntKind.i64.wrap ((256*(s.getD 1 0).toNat:Nat):Int)=((256*(s.getD 1 0).toNat:Nat):Int):=IntWalk.i64_in _ ⟨om,om⟩;rw[e2,e1,e3,e4,Qop _ _ om om,Qs3 _ _ om]
 grind[ub2,ub1]
def trL:List UInt8->List UInt8
 | []=>[]
 | b::l=>if b=0 then trL l else b::l
def trR(s:List UInt8):List UInt8:=(trL s.reverse).reverse
theorem Qq4:∀s:List UInt8,(trL s).length<=s.length
 | []=>Nat.le_refl _
 | b::l=>by
  unfold trL;split
  ·exact Nat.le_succ_of_le (Qq4 l)
  grind
theorem QuU(s:List UInt8):(trR s).length<=s.length:=by grind[Qq4,trR]
theorem Qmf:∀s:List UInt8,trL s=[] ↔ zer s=true
 | []=>⟨λ_=>rfl,λ_=>rfl⟩
 | b::l=>by
  unfold trL zer;rw[List.all_cons];split
  ·simp_all[Qmf,zer]
  grind
theorem QmT(s:List UInt8):zer s.reverse=zer s:=by unfold zer;rw[List.all_reverse]
theorem Qk5:∀s:List UInt8,zer (trL s)=zer s
 | []=>rfl
 | b::l=>by
  unfold trL;split
  ·rename_i h;rw[Qk5 l];simp[zer,h]
  ·rfl
theorem Qqk(s:List UInt8):trL (trR s)=[] ↔ zer s=true:=by
 unfold trR;rw[Qmf,QmT,Qk5,QmT]
theorem QkU{s:List UInt8}(h0:0<s.length)(h:s.getD 0 0=0):trL (s.drop 1)=trL s:=by
 match s,h0,h with
 | b::l,_,h=>grind[trL]
theorem Qk0{s:List UInt8}(h:¬(0<s.length/\s.getD 0 0=0)):trL s=s:=by
 match s,h with
 | [],_=>rfl
 | b::l,h=>grind[trL]
theorem Qk4(s:List UInt8)(h0:0<s.length):s.reverse.getD 0 0=s.getD (s.length-1) 0:=by grind
theorem QqA{s:List UInt8}(h0:0<s.length)(h:s.getD (s.length-1) 0=0):trR (s.take (s.length-1))=trR s:=by
 unfold trR;rw[List.reverse_take,show s.length-(s.length-1)=1 by omega,QkU (by simpa using h0) (by rw[Qk4 s h0];exact h)]
theorem QpF{s:List UInt8}(h:¬(0<s.length/\s.getD (s.length-1) 0=0)):trR s=s:=by grind[trR,Qk0,Qk4]
def Yz(s:List UInt8)(k:Nat):List Int:=((List.range k).filter (Qbs s)).map λi=>((i:Nat):Int)
theorem QlZ{s:List UInt8}{k:Nat}(h:Qbs s k=true):Yz s (k+1)=Yz s k++[(k:Int)]:=by
 unfold Yz;rw[List.range_succ,List.filter_append,List.map_append];simp[h]
theorem Qou{s:List UInt8}{k:Nat}(h:Qbs s k=false):Yz s (k+1)=Yz s k:=by
 unfold Yz;rw[List.range_succ,List.filter_append,List.map_append];simp[h]
theorem QlM(s:List UInt8)(k:Nat):(Yz s k).length<=k:=by grind[Yz]
theorem Qh8{s:List UInt8}:0<(Yz s 8).length ↔ XD s=true:=by simp_all[Yz,XD,Qbs]
theorem Qi8{s:List UInt8}{p:Nat}(h:p+2<=s.length):ub2 (Qq s p 2) 0=ub2 s p:=Qf8 (s:=s) (p:=p) (n:=2) (j:=0) om
theorem Qte{s:List UInt8}{p q:Nat}(hp:p+2<=s.length)(hq:q+2<=s.length):Qq s p 2=Qq s q 2 ↔ ub2 s p=ub2 s q:=by
 constructor
 ·grind[Qi8]
 ·intro h;obtain⟨h1,h2⟩:=Qky h;apply List.ext_getElem?;intro j;rcases Nat.lt_or_ge j 2 with hj|hj
  ·grind[ZG,Ql3]
  grind[Qq]
theorem Qh9{s:List UInt8}{i:Nat}(hs:s.length=512)(hi:i<8):Qbs s i=true ↔ (ub2 s 40=0\/Qq s (tlA i) 2≠Qq s 40 2):=by grind[Qbs,Qte,tlA]
theorem Qj8(c:Nat):XJ [.int .u8 0] (c*1)=(List.replicate c (0:UInt8)).map bv:=by
 rw[Nat.mul_one,List.map_replicate];exact QcJ _ _
theorem QmK{x l:List UInt8}{i:Nat}(h:i+l.length<=x.length):Qi (x.map bv) i (l.map bv)=(QN x i l).map bv:=by simp_all[QdK,QN]
theorem QaE{s:List UInt8}{p q n:Nat}(h:q=p+n):(s.take q).drop p=Qq s p n:=by
 subst h;rw[List.drop_take,Nat.add_sub_cancel_left,Qq]
theorem QU{s:List UInt8}{p n:Nat}(h:p+n<=s.length):(Qq s p n).length=n:=by grind[Qq]
theorem Qsp(i:Nat)(h:i<=1000):((i:Int)+1)*64-2=((tlA i:Nat):Int):=by unfold tlA;omega
end Gx
namespace Go.Proofs
open Go Go.RowKit Gx
attribute [local irreducible] Go.Calls Gx.S Gx.O Gx.D Gx.OpP Gx.OpQ Gx.OpH
set_option maxRecDepth 20000
theorem Qgs:tsl Tryz.prog 236=some (5,1,1):=by kernel_rfl
theorem QtB(w:World)(i:Nat)(hi:i<=1000):CR 197 #[.int .i64 (i:Int)] w (.int .i64 ((tlA i:Nat):Int)):=by
 refine eN1 Tryz.func197 Tryz.ntmps197 ?_
 refine aT8 ?_
 refine aT ?_
 refine aT ?_
 refine aU2 ?_
 exact rV (h:=by rw[<-Qsp i hi];rfl)
theorem c194(w:World)(s:List UInt8)(hl:2<=s.length):CR 194 #[.string (bs s)] w (.int .i64 ((ub2 s 0:Nat):Int)):=by
 refine eN1 Tryz.func194 Tryz.ntmps194 ?_
 refine aU5 ?_
 refine Qz [] QJ ?_
 refine dP 0 ?_
 refine dV 1 rfl (Xk rfl rfl rfl Tryz.underlying9 0 rfl om) ?_
 refine dV 2 rfl (Qp rfl rfl Zh YP) ?_
 try refine dWr ?_
 refine dP 3 ?_
 refine dV 4 rfl (Xk rfl rfl rfl Tryz.underlying9 1 rfl om) ?_
 refine dV 5 rfl (Qp rfl rfl Zh YP) ?_
 try refine dWr ?_
 refine dV 6 rfl (Qfp rfl rfl rfl (by decide) 8 rfl) (dP 7 ?_)
 refine dP 8 ?_
 refine dNi ?_
 exact rV (h:=by rw[<-Qq3];rfl)
theorem c206(w:World)(u:Int)(hu:0<=u/\u<65536):CR 206 #[.int .i64 u] w (.string (bs (le2 u))):=by
 refine eN1 Tryz.func206 Tryz.ntmps206 ?_
 refine aU7 ?_
 refine o_p (Qp rfl rfl YP Zh) rfl (Qm (show _=bv (by8 u)from Ym _) (aU ?_))
 refine o_p (Qey rfl rfl rfl (by decide) 8 rfl) rfl (o_p (Qp rfl rfl YP Zh) rfl (Qm (show _=bv (by8 (u/256))from Ym _) (o_h (Qk (cs:=[_,_]) rfl rfl QB Z5 rfl rfl rfl) rfl (λb1 _=>o_q (Yl rfl rfl Tryz.underlying139 Tryz.underlying9 Tryz.underlying5 aPk (by simp[le2]) (Zp (le2 u))) rfl (aU2 ?_)))))
 exact rV (h:=by exact congrArg (λz=>Ending.returned (Value.string (bs z))) (YG (le2 u)))
theorem QnJ(w:World)(a:Option Addr)(cap m i:Nat)(l:List UInt8)(hs:Vl w a (l.map bv))(hm:l.length=m)(hi:i+2<=m)(hc:m<=cap)(hc9:cap<=9223372036854775807):CR 195 #[.slice a m cap,.int .i64 (i:Int)] w (.string (bs (Qq l i 2))):=by
 refine eN2 Tryz.func195 Tryz.ntmps195 ?_
 refine Qln ?_
 refine o_p (QA _ _ i (i+2) rfl rfl Qgs ⟨_,_,rfl,rfl⟩ ⟨_,_,rfl,om⟩ om om) rfl (o_q (ZJ (Qq l i 2) rfl rfl Tryz.underlying236 Tryz.underlying9 Tryz.underlying5 (by rw[QU om];omega) (hs.sub om om)) rfl (aU2 ?_))
 exact rV
theorem Qs9(w:World)(g cap m tot p:Nat)(l x:List UInt8)(hw:HS w (fps [.blk g u8T tot ((l).map bv)]) [.blk g u8T tot ((l).map bv)] w)(hm:l.length=m)(hp:p+x.length<=m)(hpm:p<m)(hc:m<=cap)(hc9:cap<=9223372036854775807):Calls Tryz.prog 196 #[.slice (some ⟨g,0,none⟩) m cap,.int .i64 (p:Int),.string (bs x)] w λen w'=>∃_:Unit,en=.returned (.tuple #[])/\True/\HS w (fps [.blk g u8T tot ((l).map bv)]) [.blk g u8T tot ((QN l p x).map bv)] w':=by
 refine eW3 Tryz.func196 Tryz.ntmps196 hw ?_
 refine aU3 ?_
 refine o_p (QA _ _ p m rfl rfl Qgs ⟨_,_,rfl,rfl⟩ rfl om om) rfl (aU ?_)
 refine o_h (Qgj (b:=g) (i:=p) rfl rfl (λ_=>by rw[XO om]<;>(congr 2<;>omega)) rfl Qgs aPt om om om) rfl (λ_ _=>aU ?_)
 exact QgV rfl (λw' h'=>⟨(),rfl,trivial,h'.ent aEt⟩)
theorem c238(w:World)(s:List UInt8)(hl:s.length<=1000000):CR 238 #[.string (bs s),.int .u8 0] w (.string (bs (trL s))):=by
 refine eN2 Tryz.func238 Tryz.ntmps238 ?_
 refine aU6 ?_
 refine Qt (α:=List UInt8) [0,5,6,7,8,9,10,11,12,13,14,15] (λl=>[(0,.string (bs l))]) (λ_=>_) (λl=>l.length<=s.length/\trL l=trL s) (λl=>l.length) s ⟨Nat.le_refl _,rfl⟩ aSx (λw h=>h) (λl hl9=>?_)
 obtain⟨hl1,hl2⟩:=hl9
 refine aU4 ?_
 refine o_p (Qg rfl rfl Tryz.underlying9) rfl (aU2 ?_)
 refine XP 5 8 13 rfl
  (λhg1 _=>by
   refine aU3 ?_
   refine o_p (Xk rfl rfl rfl Tryz.underlying9 0 rfl om) rfl ?_
   refine aU4 ?_
   exact oJt 5 13)
  (λhg3 _=>by
   refine aU4 ?_
   exact oJf 5 13) ?_
 refine aU ?_
 refine sCd rfl (λh5=>?_) λh5=>?_
 ·have hk:0<l.length/\l.getD 0 0=0:=by have hq:=h5;first|(exact⟨om,Qj3.1 hq.2⟩)|(simp[Qj3]at hq;exact⟨om,hq.2⟩)
  refine aU4 ?_
  refine o_p (YM 1 rfl rfl rfl Tryz.underlying9 rfl om) rfl (aU3 ?_)
  exact QO (l.drop 1) (by rw[List.length_drop];omega) ⟨by rw[List.length_drop];omega,(QkU hk.1 hk.2).trans hl2⟩ aSx (λw h=>h)
 have hk:¬(0<l.length/\l.getD 0 0=0):=λh9=>by have hq:=h5;have h8:=Qj3.2 h9.2;simp[h8]at hq;omega
 refine Qh rfl ?_
 refine aU5 ?_
 exact rV (h:=by rw[<-hl2,Qk0 hk];rfl)
theorem c239(w:World)(s:List UInt8)(hl:s.length<=1000000):CR 239 #[.string (bs s),.int .u8 0] w (.string (bs (trR s))):=by
 refine eN2 Tryz.func239 Tryz.ntmps239 ?_
 refine aU6 ?_
 refine Qt (α:=List UInt8) [0,5,6,7,8,9,10,11,12,13,14,15,16,17,18,19,20,21] (λl=>[(0,.string (bs l))]) (λ_=>_) (λl=>l.length<=s.length/\trR l=trR s) (λl=>l.length) s ⟨Nat.le_refl _,rfl⟩ aSx (λw h=>h) (λl hl9=>?_)
 obtain⟨hl1,hl2⟩:=hl9
 refine aU4 ?_
 refine o_p (Qg rfl rfl Tryz.underlying9) rfl (aU2 ?_)
 refine XP 8 8 16 rfl
  (λhg1 _=>by
   refine aU5 ?_
   refine o_p (Qg rfl rfl Tryz.underlying9) rfl (aT2 ?_)
   refine aU ?_
   refine o_p (Xk rfl rfl rfl Tryz.underlying9 (l.length-1) om om) rfl ?_
   refine aU4 ?_
   exact oJt 8 16)
  (λhg3 _=>by
   refine aU7 ?_
   exact oJf 8 16) ?_
 refine aU ?_
 refine sCd rfl (λh5=>?_) λh5=>?_
 ·have hk:0<l.length/\l.getD (l.length-1) 0=0:=by have hq:=h5;first|(exact⟨om,Qj3.1 hq.2⟩)|(simp[Qj3]at hq;exact⟨om,hq.2⟩)
  refine aU5 ?_
  refine o_p (Qg rfl rfl Tryz.underlying9) rfl (aT ?_)
  refine o_p (Zt (l.length-1) rfl rfl rfl Tryz.underlying9 om om) rfl (aU3 ?_)
  exact QO (l.take (l.length-1)) (by rw[List.length_take];omega) ⟨by rw[List.length_take];omega,(QqA hk.1 hk.2).trans hl2⟩ aSx (λw h=>h)
 have hk:¬(0<l.length/\l.getD (l.length-1) 0=0):=λh9=>by have hq:=h5;have h8:=Qj3.2 h9.2;simp[h8]at hq;omega
 refine Qh rfl ?_
 refine aU5 ?_
 exact rV (h:=by rw[<-hl2,QpF hk];rfl)
theorem Qvs:QK Tryz.prog 239=true:=by kernel_rfl
theorem QvC:QK Tryz.prog 238=true:=by kernel_rfl
instance:TFn Tryz.prog 129:=⟨by kernel_rfl⟩
instance:TFn Tryz.prog 204:=⟨by kernel_rfl⟩
instance:TFn Tryz.prog 205:=⟨by kernel_rfl⟩
instance:TFn Tryz.prog 203:=⟨by kernel_rfl⟩
instance:TFn Tryz.prog 206:=⟨by kernel_rfl⟩
theorem QiC:QK Tryz.prog 196=true:=by kernel_rfl
instance:TFn Tryz.prog 197:=⟨by kernel_rfl⟩
instance:TFn Tryz.prog 195:=⟨by kernel_rfl⟩
instance:TFn Tryz.prog 194:=⟨by kernel_rfl⟩
theorem c204(w:World)(s:List UInt8)(hl:s.length<=1000000):CR 204 #[.string (bs s),.string (bs [0])] w (.string (bs (trL (trR s)))):=by
 have hT:=QuU s
 refine eN2 Tryz.func204 Tryz.ntmps204 ?_
 refine YR ?_
 refine oOr 3 9 12 rfl
  (λhg1 _=>by
   refine aU4 ?_
   exact oJf 3 12)
  (λhg3 _=>by
   refine aU2 ?_
   exact oJt 3 12) ?_
 refine aU ?_
 refine sCd rfl (λh5=>?_) λh5=>?_
 ·have h0:s=[]:=by have hq:=h5;simpa using hq
  refine aU5 ?_
  exact rV (h:=by subst h0;rfl)
 refine aU5 ?_
 refine o_p (Qg rfl rfl Tryz.underlying9) rfl (aU2 ?_)
 refine XP 4 17 21 rfl
  (λhg6 _=>by
   refine aU3 ?_
   refine o_p (Xk rfl rfl rfl Tryz.underlying9 0 rfl om) rfl ?_
   refine aU2 ?_
   exact oJt 4 21)
  (λhg8 _=>by
   refine aU3 ?_
   exact oJf 4 21) ?_
 refine aU ?_
 refine sCd rfl (λh10=>?_) λh10=>?_
 ·refine aU ?_
  refine Qz [] QJ ?_
  refine dP 0 ?_
  refine dP 1 ?_
  refine dV 2 rfl (Xk rfl rfl rfl Tryz.underlying9 0 rfl om) ?_
  refine dQ 3 [] rfl (Qr rfl Qvs rfl (λw1 h1=>c239 w1 s hl)) (dP 4 ?_)
  refine dV 5 rfl (Xk rfl rfl rfl Tryz.underlying9 0 rfl om) ?_
  refine dQ 6 [] rfl (Qr rfl QvC rfl (λw1 h1=>c238 w1 (trR s) om)) (dP 7 ?_)
  refine dNi ?_
  exact rV
 exfalso;simp at h10
theorem c149(w:World)(s:List UInt8)(u:Int)(h5:s.length=512)(hz:zer (Qq s 40 18)=true)(hu:1<=u/\u<=65535):CR 149 #[.string (bs s),.int .i64 u] w (.tuple #[.string (bs (Qb9 s u)),.int .i64 0]):=by
 have hsl:Qq s 40 18=(s.drop 40).take 18:=rfl
 have hb:(Qq s 40 18).length=18:=QU om
 have hzt:=(Qqk (Qq s 40 18)).2 hz
 have h0l:s.length=s.length:=rfl
 refine eN2 Tryz.func149 Tryz.ntmps149 ?_
 refine aU9 ?_
 refine oCq rfl (λw1 h1=>Qwj w1 _) (aU7 ?_)
 refine sCd rfl (λh1=>?_) λh1=>?_
 ·exfalso;have hq:=h1;simp[h5]at hq
 refine aU5 ?_
 refine o_p (Xj _ _ 40 58 rfl rfl Tryz.underlying9 ⟨_,_,rfl,rfl⟩ ⟨_,_,rfl,rfl⟩ om om) rfl (Qm (show _=Value.string (bs (Qq s 40 18))from by rw[QaE (n:=18) rfl]) (oCq rfl (λw1 h1=>c204 w1 (Qq s 40 18) om) (aU ?_)))
 refine oCq rfl (λw1 h1=>QvW w1 _ _) (aU ?_)
 refine oCq rfl (λw1 h1=>c205 w1 _ _ _) (oCq rfl (λw1 h1=>QvW w1 _ _) (o_h (Qk (cs:=[_,_]) rfl rfl Yq ZY rfl rfl rfl) rfl (λb2 _=>oCq rfl (λw1 h1=>f203 h1 aPk (by rfl) (by rfl) (by decide)) (aU7 ?_))))
 refine sCd rfl (λh3=>?_) λh3=>?_
 ·exfalso;have hq:=h3;simp[hzt,hu]at hq;exact hq rfl
 refine aU4 ?_
 refine o_h (QaK rfl rfl Tryz.underlying9 Tryz.underlying236 Tryz.underlying5 rfl (by simp only[maxLen];omega)) rfl (λ⟨b4,c5⟩⟨h6,k7⟩=>aU6 ?_)
 refine oCq rfl (λw1 h1=>c206 w1 u om) (o_h (Q1 (Cs:=[.blk b4 u8T c5 ((s).map bv)]) rfl QiC rfl aPs (λw1 h1 hf=>Qs9 w1 b4 c5 s.length c5 40 s (le2 u) hf rfl (by rw[show((le2 u)).length=2 from rfl];first|omega|(unfold tlA;omega)) (by first|omega|(unfold tlA;omega)) om (by simp only[maxLen]at *;omega))) rfl (λ_ _=>aU7 ?_))
 refine Qj (L':=[(1,_),(4,_),(5,_),(8,_),(34,_)]) aSx (λ_ h=>h) ?_
 refine Qt (α:=Nat) [9,34,35,36,37,38,39,40,41,42,43,44,45,46,47,48,49,50,51,52] (λk=>[(34,.int .i64 (k:Int))]) (λk=>HS w [] [.blk b4 u8T c5 ((prI s u k).map bv)]) (λk=>k<=8) (λk=>8-k) 0 (Nat.zero_le _) aSx (λw h=>h.ent aEt) (λk hk8=>?_)
 refine aU5 ?_
 refine sCd rfl (λh8=>?_) λh8=>?_
 ·have hk:k<8:=by omega
  have hpl:(prI s u k).length=s.length:=by rw[Qee h5 k om,h5]
  have hpl1:(QN (prI s u k) (42+2*k) (Qq (prI s u k) (tlA k) 2)).length=s.length:=by rw[XM (by rw[show(Qq (prI s u k) (tlA k) 2).length=2 from QU (by rw[hpl];unfold tlA;omega),hpl];omega),hpl]
  refine aT13 ?_
  refine aT ?_
  refine Qm (show _=Value.int .i64 ((42+2*k:Nat):Int)from by congr 1) (aU2 ?_)
  refine oCq rfl (λw1 h1=>QtB w1 k om) (oCq rfl (λw1 h1=>QnJ w1 (some ⟨b4,0,none⟩) c5 s.length (tlA k) (prI s u k) (h1.vl_blk aPk) hpl (by unfold tlA;omega) om (by simp only[maxLen]at *;omega)) (o_h (Q1 (Cs:=[.blk b4 u8T c5 (((prI s u k)).map bv)]) rfl QiC rfl aPs (λw1 h1 hf=>Qs9 w1 b4 c5 s.length c5 (42+2*k) (prI s u k) (Qq (prI s u k) (tlA k) 2) hf hpl (by rw[show((Qq (prI s u k) (tlA k) 2)).length=2 from QU (by rw[hpl];unfold tlA;omega)];first|omega|(unfold tlA;omega)) (by first|omega|(unfold tlA;omega)) om (by simp only[maxLen]at *;omega))) rfl (λ_ _=>aU4 ?_)))
  refine oCq rfl (λw1 h1=>QtB w1 k om) (aU ?_)
  refine oCq rfl (λw1 h1=>c206 w1 u om) (o_h (Q1 (Cs:=[.blk b4 u8T c5 (((QN (prI s u k) (42+2*k) (Qq (prI s u k) (tlA k) 2))).map bv)]) rfl QiC rfl aPs (λw1 h1 hf=>Qs9 w1 b4 c5 s.length c5 (tlA k) (QN (prI s u k) (42+2*k) (Qq (prI s u k) (tlA k) 2)) (le2 u) hf hpl1 (by rw[show((le2 u)).length=2 from rfl];first|omega|(unfold tlA;omega)) (by first|omega|(unfold tlA;omega)) om (by simp only[maxLen]at *;omega))) rfl (λ_ _=>aT4 ?_))
  refine aU2 ?_
  exact sBk (k+1)
 obtain rfl:k=8:=om
 have hpl:(prI s u 8).length=s.length:=by rw[Qee h5 8 om,h5]
 refine Qh rfl ?_
 refine aU3 ?_
 refine o_q (Yl rfl rfl Tryz.underlying236 Tryz.underlying9 Tryz.underlying5 aPk (by simp[hpl]) (Zp _)) rfl (aU3 ?_)
 exact Ql (rs:=[.tmp 4,.tmp 5]) rfl (.tmp rfl (.tmp rfl (.nil))) (λw' h'=>⟨by rw[YG];rfl,h'.below⟩)
theorem c193(w:World)(s:List UInt8)(hs5:s.length=512):CE 193 #[.string (bs s)] w [] (λg:Option Addr×Nat=>.slice g.1 (Yz s 8).length g.2) (λg=>True) λg=>[.own (.slice g.1 (Yz s 8).length g.2) 3 1 (Yz s 8).length ((Yz s 8).flatMap inV)]:=by
 refine eN1 Tryz.func193 Tryz.ntmps193 ?_
 refine aU7 ?_
 refine o_h (QaK rfl rfl Tryz.underlying9 Tryz.underlying236 Tryz.underlying5 rfl (by simp only[maxLen];omega)) rfl (λ⟨b1,c2⟩⟨h3,k4⟩=>Qay ?_)
 refine Qt (α:=Nat×Option Addr×Nat) [4,5,8,9,10,11,12,13,14,15,16,17,18,19,20,21,22,23,24,25,26,27,28] (λx=>[(8,.int .i64 (x.1:Int)),(4,.slice x.2.1 (Yz s x.1).length x.2.2)]) (λx=>HS w [] [.blk b1 5 c2 (s.map bv),.own (.slice x.2.1 (Yz s x.1).length x.2.2) 3 1 (Yz s x.1).length ((Yz s x.1).flatMap inV)]) (λx=>x.1<=8) (λx=>8-x.1) (0,none,0) (Nat.zero_le _) aSx (λw h=>((h.own_nil 3 1).ent aEt)) (λ⟨k,ga,gc⟩hk8=>?_)
 dsimp only
 simp only[]at hk8
 have htl:=QlM s k
 refine aU5 ?_
 refine sCd rfl (λh5=>?_) λh5=>?_
 ·have hk:k<8:=by omega
  have h40:=Qi8 (s:=s) (p:=40) om
  refine QbK ?_
  refine oCq rfl (λw1 h1=>QnJ w1 (some ⟨b1,0,none⟩) c2 s.length 40 s (h1.vl_blk aPk) rfl (by first|omega|(unfold tlA;omega)) om (by simp only[maxLen]at *;omega)) (oCq rfl (λw1 h1=>c194 w1 (Qq s 40 2) (by rw[QU om];exact Nat.le_refl _)) (aU2 ?_))
  refine oOr 8 15 23 rfl
   (λhg6 _=>by
    refine aU5 ?_
    refine oCq rfl (λw1 h1=>QtB w1 k om) (aU ?_)
    refine oCq rfl (λw1 h1=>QnJ w1 (some ⟨b1,0,none⟩) c2 s.length (tlA k) s (h1.vl_blk aPk) rfl (by first|omega|(unfold tlA;omega)) om (by simp only[maxLen]at *;omega)) (aU3 ?_)
    refine oCq rfl (λw1 h1=>QnJ w1 (some ⟨b1,0,none⟩) c2 s.length 40 s (h1.vl_blk aPk) rfl (by first|omega|(unfold tlA;omega)) om (by simp only[maxLen]at *;omega)) (aU2 ?_)
    exact oJf 8 23)
   (λhg8 _=>by
    refine aU7 ?_
    exact oJt 8 23) ?_
  refine aU ?_
  refine sCd rfl (λh10=>?_) λh10=>?_
  ·have hnx:=QlZ (s:=s) (k:=k) ((Qh9 hs5 hk).2 (by have hq:=h10;rw[h40]at hq;simpa using hq))
   refine aU3 ?_
   refine o_h (Qk (cs:=[_]) rfl rfl QW Qcf rfl rfl rfl) rfl (λb11 _=>o_h (Xe _ rfl rfl rfl QW Tryz.underlying28 Qcf rfl aPk (Xg aPk) rfl (by intro u hu;simp only[List.mem_cons,List.mem_nil_iff,or_false]at hu;subst hu;rfl) om (by simp only[maxLen];omega)) rfl (λb12 _=>aT5 ?_))
   refine aU2 ?_
   exact QO (k+1,b12.1,b12.2) (by(try simp only[]);omega) (by simp only[];omega) (by dsimp only;rw[hnx,List.length_append];exact aSx) (λw h=>by dsimp only;rw[hnx,List.length_append,QdE];exact h.ent aEt)
  have hnx:=Qou (s:=s) (k:=k) (Bool.eq_false_iff.2 λh9=>by have hq:=h10;rw[h40]at hq;have h8:=(Qh9 hs5 hk).1 h9;simp at hq;rcases h8 with h8|h8;exact hq.1 h8;exact h8 hq.2)
  refine aT4 ?_
  refine aU2 ?_
  exact QO (k+1,ga,gc) (by(try simp only[]);omega) (by simp only[];omega) (by dsimp only;rw[hnx];exact aSx) (λw h=>by dsimp only;rw[hnx];exact h.ent aEt)
 obtain rfl:k=8:=om
 refine Qh rfl ?_
 refine aU5 ?_
 exact rT rfl rfl (λw' h'=>⟨(ga,gc),rfl,trivial,h'.ent aEt⟩)
instance:TFn Tryz.prog 193:=⟨by kernel_rfl⟩
def Qif(s:List UInt8):List UInt8×Int×Int:=if s.length=512 then if XD s then([],0,31)else(QL s,((ub2 s 40:Nat):Int),0)else([],0,10)
theorem Qq6{s:List UInt8}(h:¬s.length=512):Qif s=([],0,10):=by unfold Qif;rw[if_neg h]
theorem QhV{s:List UInt8}(h:s.length=512)(ht:XD s=true):Qif s=([],0,31):=by unfold Qif;rw[if_pos h,if_pos ht]
theorem QfF{s:List UInt8}(h:s.length=512)(ht:XD s=false):Qif s=(QL s,((ub2 s 40:Nat):Int),0):=by unfold Qif;rw[if_pos h,ht];rfl
theorem c130(w:World)(s:List UInt8)(hsl:s.length<=1000000):CR 130 #[.string (bs s)] w (.tuple #[.string (bs (Qif s).1),.int .i64 (Qif s).2.1,.int .i64 (Qif s).2.2]):=by
 refine eN1 Tryz.func130 Tryz.ntmps130 ?_
 refine YR ?_
 refine oCq rfl (λw1 h1=>Qwj w1 _) (aU7 ?_)
 refine sCd rfl (λh1=>?_) λh1=>?_
 ·have hn5:¬s.length=512:=λh9=>by have hq:=h1;simp[h9]at hq
  have hV:=Qq6 hn5
  have hd9:decide ((s.length:Int)=512)=false:=decide_eq_false om
  refine aU7 ?_
  exact Ql (rs:=[.tmp 2,.tmp 3,.tmp 4]) rfl (.tmp rfl (.tmp rfl (.tmp rfl (.nil)))) (λw' h'=>⟨by rw[hV,hd9];rfl,h'.below⟩)
 have hs5:s.length=512:=by have hq:=h1;cases hd9:decide ((s.length:Int)=512);rw[hd9]at hq;cases hq;have:=of_decide_eq_true hd9;omega
 refine aU5 ?_
 refine oCh rfl (λw1 h1=>c193 w1 s hs5) (λ⟨ga,gc⟩_=>aU3 ?_)
 refine sCd rfl (λh2=>?_) λh2=>?_
 ·have hV:=QhV hs5 (Qh8.1 (by have hq:=h2;omega))
  refine aU6 ?_
  exact Ql (rs:=[.tmp 2,.tmp 3,.tmp 4]) rfl (.tmp rfl (.tmp rfl (.tmp rfl (.nil)))) (λw' h'=>⟨by rw[hV];rfl,h'.below⟩)
 have ht:XD s=false:=Bool.eq_false_iff.2 λh9=>by have hq:=h2;have:=Qh8.2 h9;omega
 have hV:=QfF hs5 ht
 refine aU4 ?_
 refine o_h (QaK rfl rfl Tryz.underlying9 Tryz.underlying236 Tryz.underlying5 rfl (by simp only[maxLen];omega)) rfl (λ⟨b3,c4⟩⟨h5,k6⟩=>aU5 ?_)
 refine oCq rfl (λw1 h1=>QnJ w1 (some ⟨b3,0,none⟩) c4 s.length 40 s (h1.vl_blk aPk) rfl om om (by simp only[maxLen]at *;omega)) (oCq rfl (λw1 h1=>by have h9:=c194 w1 (Qq s 40 2) (by rw[QU om];exact Nat.le_refl _);rw[Qi8 om]at h9;exact h9) (aU8 ?_))
 refine Qj (L':=[(2,_),(3,_),(4,_),(6,_),(7,_),(23,_)]) aSx (λ_ h=>h) ?_
 refine Qt (α:=Nat) [8,23,24,25,26,27,28,29,30,31,32,33,34,35] (λk=>[(23,.int .i64 (k:Int))]) (λk=>HS w [] [.blk b3 u8T c4 ((opI s k).map bv)]) (λk=>k<=8) (λk=>8-k) 0 (Nat.zero_le _) aSx (λw h=>h.ent aEt) (λk hk8=>?_)
 refine aU5 ?_
 refine sCd rfl (λh7=>?_) λh7=>?_
 ·have hk:k<8:=by omega
  have hpl:(opI s k).length=s.length:=by rw[Z6 hs5 k om,hs5]
  have hxl:(Qq (opI s k) (42+2*k) 2).length=2:=QU (by rw[hpl];omega)
  have htl:tlA k=64*k+62:=rfl
  refine QbK ?_
  refine oCq rfl (λw1 h1=>QtB w1 k om) (aT3 ?_)
  refine aT ?_
  refine Qm (show _=Value.int .i64 ((42+2*k:Nat):Int)from by congr 1) (oCq rfl (λw1 h1=>QnJ w1 (some ⟨b3,0,none⟩) c4 s.length (42+2*k) (opI s k) (h1.vl_blk aPk) hpl om om (by simp only[maxLen]at *;omega)) (o_h (Q1 (Cs:=[.blk b3 u8T c4 (((opI s k)).map bv)]) rfl QiC rfl aPs (λw1 h1 hf=>Qs9 w1 b3 c4 s.length c4 (tlA k) (opI s k) (Qq (opI s k) (42+2*k) 2) hf hpl om om om (by simp only[maxLen]at *;omega))) rfl (λ_ _=>aT4 ?_)))
  refine aU2 ?_
  exact sBk (k+1)
 obtain rfl:k=8:=om
 have hpl:(opI s 8).length=s.length:=by rw[Z6 hs5 8 om,hs5]
 have hop:(QL s).length=s.length:=by rw[Y7 hs5,hs5]
 have hpu:=QmK (x:=(opI s 8)) (l:=List.replicate 18 (0:UInt8)) (i:=40) (by rw[hpl,List.length_replicate];omega)
 have hcl:Qi ((opI s 8).map bv) 40 (XJ [.int .u8 0] (18*1))=(QL s).map bv:=by rw[Qj8];exact hpu
 refine Qh rfl ?_
 refine aU3 ?_
 refine o_p (QA _ _ 40 58 rfl rfl Qgs ⟨_,_,rfl,rfl⟩ ⟨_,_,rfl,rfl⟩ om om) rfl ?_
 refine Qkv (QmL (b:=b3) (i:=40) rfl rfl Qgs Z5 rfl rfl (by simp) aPt (λ_=>by rw[XO om]<;>(congr 2<;>omega)) (by rw[List.length_map,hpl];omega)) (λ_ _=>aU4 ?_)
 refine XB (L:=_) (C':=HS w [] [.blk b3 u8T c4 ((QL s).map bv)]) (λw9 h=>by have h9:HS w [] [.blk b3 u8T c4 (Qi ((opI s 8).map bv) 40 (XJ [.int .u8 0] (18*1)))] w9:=h;rwa[hcl]at h9) (o_q (Yl rfl rfl Tryz.underlying236 Tryz.underlying9 Tryz.underlying5 aPk (by simp[hop]) (Zp _)) rfl (aU5 ?_))
 exact Ql (rs:=[.tmp 2,.tmp 3,.tmp 4]) rfl (.tmp rfl (.tmp rfl (.tmp rfl (.nil)))) (λw' h'=>⟨by rw[hV,YG];rfl,h'.below⟩)
theorem Qwo(w:World)(g m cap tot p:Nat)(l:List UInt8)(u:Int)(hw:HS w (fps [.blk g u8T tot ((l).map bv)]) [.blk g u8T tot ((l).map bv)] w)(hp:p+m<=l.length)(hm:2<=m)(hu:0<=u/\u<65536):Calls Tryz.prog 147 #[.slice (some ⟨g,p,none⟩) m cap,.int .u16 u] w λen w'=>∃_:Unit,en=.returned (.tuple #[])/\True/\HS w (fps [.blk g u8T tot ((l).map bv)]) [.blk g u8T tot ((QN l p (le2 u)).map bv)] w':=by
 refine eW2 Tryz.func147 Tryz.ntmps147 hw ?_
 refine aU4 ?_
 refine o_p (Qp rfl rfl Ys Zh) rfl (Qm (show _=bv (by8 u)from Ym _) (aU ?_))
 refine o_p (Qey rfl rfl rfl (by decide) 8 rfl) rfl (o_p (Qp rfl rfl Ys Zh) rfl (Qm (show _=bv (by8 (u/256))from Ym _) (o_p (Qa rfl rfl rfl QB 0 rfl om rfl) rfl (aU ?_))))
 refine o_p (Qa rfl rfl rfl QB 1 rfl om rfl) rfl (aU2 ?_)
 exact QgV rfl (λw' h'=>⟨(),rfl,trivial,by have h9:=QmK (x:=l) (l:=le2 u) (i:=p) (by simp only[le2,List.length_cons,List.length_nil];omega);rw[<-h9];exact h'.ent aEt⟩)
end Go.Proofs
namespace Gx
open Go Go.RowKit
section
variable{w0 w:World}{M:List Nat}{As As':List HA}
theorem HS.byz_full{g cap:Nat}{l:List UInt8}(hp:QP As (.byz (some ⟨g,0,none⟩) cap l) As')(h:HS w0 M As w)(h0:0<cap):HS w0 M (.blk g u8T cap ((l++List.replicate (cap-l.length) 0).map bv)::As') w:=by
 obtain⟨g',e,_,_,h1⟩:=HS.blk_byz hp h h0;injection e with e
 injection e with e
 subst e
 rwa[List.map_append,List.map_replicate]
theorem QuD{cap:Nat}{l:List UInt8}(n:Nat)(h:n=cap-l.length):(l++List.replicate n 0).map bv=Qe8 cap l:=by
 subst h;rw[List.map_append,List.map_replicate];rfl
end
theorem QhS{l x y:List UInt8}{p q:Nat}(hq:q=p+x.length)(h:p+x.length+y.length<=l.length):QN (QN l p x) q y=QN l p (x++y):=by
 subst hq;apply List.ext_getElem?
 grind[YF,XM]
theorem QvO(num lsn:Int)(c:Nat):QN (QN (QN (QN (List.replicate 512 0) 0 QeG) 8 (le4 lsn)) 12 (le4 num)) 16 (le2 c)=hdB num lsn c++List.replicate 448 0:=by
 have e0:(List.replicate 512 (0:UInt8))=List.replicate 64 0++List.replicate 448 0:=by rw[List.replicate_append_replicate]
 have hp:∀(A B x:List UInt8)(p:Nat),p+x.length<=A.length->QN (A++B) p x=QN A p x++B:=λA B x p h=>by
  unfold QN;rw[List.take_append_of_le_length om,List.drop_append_of_le_length om];simp only[List.append_assoc]
 rw[e0,hp _ _ _ _ (by decide),hp _ _ _ _ (by show 8+4<=64;decide),hp _ _ _ _ (by show 12+4<=64;decide),hp _ _ _ _ (by show 16+2<=64;decide)];rfl
end Gx
namespace Go.Proofs
open Go Go.RowKit Gx
attribute [local irreducible] Go.Calls Gx.S Gx.O Gx.D Gx.OpP Gx.OpQ Gx.OpH
set_option maxRecDepth 20000
theorem Qlu:QK Tryz.prog 147=true:=by kernel_rfl
instance:TFd Tryz.prog 118 1 3 3:=⟨by kernel_rfl⟩
theorem Qp4:QK Tryz.prog 146=true:=by kernel_rfl
instance:TFd Tryz.prog 118 0 0 69:=⟨by kernel_rfl⟩
instance:TFd Tryz.prog 118 2 4 3:=⟨by kernel_rfl⟩
theorem Qvz:QK Tryz.prog 149=true:=by kernel_rfl
theorem QwE(w:World)(g m cap tot p:Nat)(l:List UInt8)(u:Int)(hw:HS w (fps [.blk g u8T tot ((l).map bv)]) [.blk g u8T tot ((l).map bv)] w)(hp:p+m<=l.length)(hm:2<=m):Calls Tryz.prog 147 #[.slice (some ⟨g,p,none⟩) m cap,.int .u16 (u%65536)] w λen w'=>∃_:Unit,en=.returned (.tuple #[])/\True/\HS w (fps [.blk g u8T tot ((l).map bv)]) [.blk g u8T tot ((QN l p (le2 u)).map bv)] w':=by
  have h9:=Qwo w g m cap tot p l (u%65536) hw hp hm om;rw[QrF]at h9;exact h9
theorem c146(w:World)(g m cap tot p:Nat)(l:List UInt8)(u:Int)(hw:HS w (fps [.blk g u8T tot ((l).map bv)]) [.blk g u8T tot ((l).map bv)] w)(hp:p+m<=l.length)(hm:4<=m)(hmc:m<=cap)(hc9:cap<=9223372036854775807)(hu:0<=u/\u<4294967296):Calls Tryz.prog 146 #[.slice (some ⟨g,p,none⟩) m cap,.int .u32 u] w λen w'=>∃_:Unit,en=.returned (.tuple #[])/\True/\HS w (fps [.blk g u8T tot ((l).map bv)]) [.blk g u8T tot ((QN l p (le4 u)).map bv)] w':=by
 have hl1:(QN l p (le2 u)).length=l.length:=XM (by show p+2<=_;omega)
 have he9:QN (QN l p (le2 u)) (p+2) (le2 (u/65536))=QN l p (le4 u):=by rw[QhS (l:=l) (p:=p) (q:=p+2) (x:=le2 u) rfl (by show p+2+2<=_;omega),show le2 (u/65536)=[by8 (u/65536),by8 (u/16777216)]from by unfold le2;rw[show u/65536/256=u/16777216 from om]];rfl
 refine eW2 Tryz.func146 Tryz.ntmps146 hw ?_
 refine aU4 ?_
 refine o_p (Qp rfl rfl Y3 Ys) rfl (Qm (show _=Value.int .u16 (u%65536)from by rw[QjC]) (o_h (Q1 (Cs:=[.blk g u8T tot ((l).map bv)]) rfl Qlu rfl aPs (λw1 h1 hf=>QwE w1 g m cap tot p l u hf hp om)) rfl (λ_ _=>aU3 ?_)))
 refine o_p (QA _ _ 2 m rfl rfl QB ⟨_,_,rfl,rfl⟩ rfl om om) rfl (Qm (show _=Value.slice (some ⟨g,p+2,none⟩) (m-2) (cap-2)from by rw[QkY rfl om]) (aU ?_))
 refine o_p (Qey rfl rfl rfl (by decide) 16 rfl) rfl (o_p (Qp rfl rfl Y3 Ys) rfl (Qm (show _=Value.int .u16 (u/65536)from by rw[QjC];congr 1;omega) (o_h (Q1 (Cs:=[.blk g u8T tot (((QN l p (le2 u))).map bv)]) rfl Qlu rfl aPs (λw1 h1 hf=>Qwo w1 g (m-2) (cap-2) tot (p+2) (QN l p (le2 u)) (u/65536) hf om om om)) rfl (λ_ _=>aU ?_))))
 exact QgV rfl (λw' h'=>⟨(),rfl,trivial,by rw[<-he9];exact h'.ent aEt⟩)
theorem c79(w:World)(n:LNd)(num lsn usn:Int)(hes:Rw TEnt.vals 2 w [] n.ea n.es)(hcs:Rw inV 1 w [] n.ca n.cs)(hp:NdP n.pl)(hcb:(Q9 n.pl).length<=448)(hnum:0<=num/\num<4294967296)(hlsn:0<=lsn/\lsn<4294967296)(hu:1<=usn/\usn<=65535):CR 79 #[.agg #[.bool n.us,.slice n.ea n.es.length n.ec,.slice n.ca n.cs.length n.cc,.int .i64 lsn,.int .i64 usn],.int .i64 num] w (.string (bs (ZL n.pl num lsn usn))):=by
 have hel:n.es.length<=1000:=hp.el
 have z0:(List.replicate 512 (0:UInt8)).length=512:=List.length_replicate
 have z1:(QN (List.replicate 512 (0:UInt8)) 0 QeG).length=512:=by rw[XM (by rw[z0];decide),z0]
 have z2:(QN (QN (List.replicate 512 (0:UInt8)) 0 QeG) 8 (le4 lsn)).length=512:=by rw[XM (by rw[z1];show 8+4<=512;decide),z1]
 have z3:(QN (QN (QN (List.replicate 512 (0:UInt8)) 0 QeG) 8 (le4 lsn)) 12 (le4 num)).length=512:=by rw[XM (by rw[z2];show 12+4<=512;decide),z2]
 have hd9:=QvO num lsn n.es.length
 have hfu:((hdB num lsn n.es.length)++Q9 n.pl)++List.replicate (512-((hdB num lsn n.es.length)++Q9 n.pl).length) 0=ZE n.pl num lsn:=by rw[List.length_append,QbT,show 512-(64+(Q9 n.pl).length)=448-(Q9 n.pl).length by omega];rfl
 have hnl:=Qbm (num:=num) (lsn:=lsn) hcb
 refine eN2 Tryz.func79 Tryz.ntmps79 ?_
 refine aU2 ?_
 refine oBx λb1 _=>?_
 refine aU4 ?_
 refine o_h (Ev.h_make2 (k:=64) (n:=512) rfl rfl rfl QB Z5 (by decide) (by decide) (by decide)) rfl (λb2 _=>XB (C':=HS w [] [.blk b1 118 5 _,.blk b2 u8T 512 (((List.replicate 512 (0:UInt8))).map bv)]) (λw9 h=>by have h9:=h.ent (Bs:=[.blk b1 118 5 _,.blk b2 u8T 512 (XJ [.int .u8 0] (512*1))]) aEt;rwa[Qj8]at h9) (aU5 ?_))
 refine o_h (Qgj (b:=b2) (i:=0) (l:=QeG) (x:=(List.replicate 512 (0:UInt8))) rfl rfl (λ_=>rfl) rfl QB aPt (by decide) (by decide) (by rw[z0];decide)) rfl (λ_ _=>aU2 ?_)
 refine Qz [5] QJ ?_
 refine dP 0 ?_
 refine dV 1 rfl (QA _ _ 8 64 rfl rfl QB ⟨_,_,rfl,rfl⟩ rfl om om) (QC (show _=Value.slice (some ⟨b2,8,none⟩) 56 504 from by rw[XO (by decide)]) (dFa 2 ?_))
 refine dLd 3 [[4]] ?_
 refine dV 4 rfl (Qp rfl rfl YP Y3) (QC (show _=Value.int .u32 lsn from by rw[Qfo];congr 1;omega) (dH 5 rfl (Q1 (Cs:=[.blk b2 u8T 512 (((QN (List.replicate 512 (0:UInt8)) 0 QeG)).map bv)]) rfl Qp4 rfl aPs (λw1 h1 hf=>c146 w1 b2 56 504 512 8 (QN (List.replicate 512 (0:UInt8)) 0 QeG) lsn hf (by rw[z1];decide) (by decide) (by decide) (by decide) hlsn)) (λ_ _=>dTu [] ?_)))
 refine dNi ?_
 refine aU3 ?_
 refine o_p (QA _ _ 12 64 rfl rfl QB ⟨_,_,rfl,rfl⟩ rfl om om) rfl (Qm (show _=Value.slice (some ⟨b2,12,none⟩) 52 500 from by rw[XO (by decide)]) (aU ?_))
 refine o_p (Qp rfl rfl YP Y3) rfl (Qm (show _=Value.int .u32 num from by rw[Qfo];congr 1;omega) (o_h (Q1 (Cs:=[.blk b2 u8T 512 (((QN (QN (List.replicate 512 (0:UInt8)) 0 QeG) 8 (le4 lsn))).map bv)]) rfl Qp4 rfl aPs (λw1 h1 hf=>c146 w1 b2 52 500 512 12 (QN (QN (List.replicate 512 (0:UInt8)) 0 QeG) 8 (le4 lsn)) num hf (by rw[z2];decide) (by decide) (by decide) (by decide) hnum)) rfl (λ_ _=>aU2 ?_)))
 refine Qz [7] QJ ?_
 refine dP 0 ?_
 refine dV 1 rfl (QA _ _ 16 64 rfl rfl QB ⟨_,_,rfl,rfl⟩ rfl om om) (QC (show _=Value.slice (some ⟨b2,16,none⟩) 48 496 from by rw[XO (by decide)]) (dFa 2 ?_))
 refine dFa 3 ?_
 refine dLd 4 [[6,5]] ?_
 refine dV 5 rfl (QR rfl rfl Tryz.underlying67) (dV 6 rfl (Qp rfl rfl YP Ys) (QC (show _=Value.int .u16 (n.es.length:Int)from by rw[QjC];congr 1;omega) (dH 7 rfl (Q1 (Cs:=[.blk b2 u8T 512 (((QN (QN (QN (List.replicate 512 (0:UInt8)) 0 QeG) 8 (le4 lsn)) 12 (le4 num))).map bv)]) rfl Qlu rfl aPs (λw1 h1 hf=>Qwo w1 b2 48 496 512 16 (QN (QN (QN (List.replicate 512 (0:UInt8)) 0 QeG) 8 (le4 lsn)) 12 (le4 num)) (n.es.length:Int) hf (by rw[z3];decide) (by decide) om)) (λ_ _=>dTu [] ?_))))
 refine dNi ?_
 refine aU3 ?_
 refine XB (λw9 h=>(HS.byz_blk (l:=(hdB num lsn n.es.length)) (cap:=512) (g:=b2) (cs:=(QN (QN (QN (QN (List.replicate 512 (0:UInt8)) 0 QeG) 8 (le4 lsn)) 12 (le4 num)) 16 (le2 (n.es.length:Int))).map bv) aPk h (by rw[QbT];decide) (by decide) (by rw[hd9,QuD (cap:=512) 448 (by rw[QbT])]))) (aU2 ?_)
 refine o_h (Q1 (Cs:=[.byz (some ⟨b2,0,none⟩) 512 ((hdB num lsn n.es.length))]) rfl QrW rfl aPs (λw1 h1 hf=>c148 w1 (some ⟨b2,0,none⟩) 512 (hdB num lsn n.es.length) n hf (by rw[QbT];decide) (by rw[QbT]) ((hes.keep h1).mono (Xb aPs)) ((hcs.keep h1).mono (Xb aPs)) hp)) rfl (λ⟨b3,c4⟩hz5=>?_)
 obtain⟨hB9,hC9⟩:=hz5 (by rw[List.length_append,QbT];omega)
 simp only[]at hB9 hC9
 subst hB9 hC9
 refine XB (C':=HS w [] [.blk b2 u8T 512 (((ZE n.pl num lsn)).map bv),.blk b1 118 5 _]) (λw9 h=>by have h8:=HS.byz_full (l:=(hdB num lsn n.es.length)++Q9 n.pl) (cap:=512) (g:=b2) aPk h (by decide);rw[hfu]at h8;exact h8) (aU3 ?_)
 refine Qj (L':=[(2,_),(4,_),(5,_)]) aSx (λ_ h=>h) ?_
 refine Qz [] QJ ?_
 refine dP 0 ?_
 refine dV 1 rfl (QA _ _ 0 512 rfl rfl QB rfl ⟨_,_,rfl,rfl⟩ om om) (QC (show _=Value.slice (some ⟨b2,0,none⟩) 512 512 from by first|(simp only[Zv];done)|(simp only[Zv];rfl)) (dQ 2 [] rfl (Yl rfl rfl Tryz.underlying139 Tryz.underlying9 Tryz.underlying5 aPk (by simp[hnl]) (Zp (ZE n.pl num lsn))) (QC (show _=Value.string (bs (ZE n.pl num lsn))from by rw[YG]) (dFa 3 ?_))))
 refine dLd 4 [] ?_
 refine dQ 5 [] rfl (Qr rfl Qvz rfl (λw1 h1=>c149 w1 (ZE n.pl num lsn) usn hnl QcV hu)) (dP 6 ?_)
 refine dP 7 ?_
 refine dP 8 ?_
 refine dP 9 ?_
 refine dP 10 ?_
 refine dNi ?_
 refine aU5 ?_
 exact rV
end Go.Proofs
namespace Gx
open Go Go.RowKit
section
variable{b:List UInt8}{num:Int}{n:Nd}{last:Nat}
theorem Qls(h:¬b.length=512):XR b num=ndE 10:=by unfold XR;rw[if_neg h]
theorem QlR(h:b.length=512)(hn:¬(1<=num/\num<=120)):XR b num=ndE 2:=by unfold XR;rw[if_pos h,if_neg hn]
theorem Qil(h:b.length=512)(hn:1<=num/\num<=120)(ht:XD b=true):XR b num=ndE 31:=by unfold XR;rw[if_pos h,if_pos hn,if_pos ht]
theorem QfL(h:b.length=512)(hn:1<=num/\num<=120)(ht:XD b=false)(hr:rdB (QL b)=none):XR b num=ndE 3:=by grind[XR]
theorem Qec(h:b.length=512)(hn:1<=num/\num<=120)(ht:XD b=false)(hr:rdB (QL b)=some (n,last)) :
  XR b num=if Qg6 (QL b) num&&zer ((QL b).drop last)then⟨n,(ub4 (QL b) 8:Int),(ub2 b 40:Int),0⟩else ndE 3:=by
 grind[XR]
theorem QvY{s:List UInt8}(h:Qg6 s num=true):ub4 s 8<=2147483647:=by grind[Qg6]
theorem Qvm(h:b.length=512)(hn:1<=num/\num<=120)(ht:XD b=false)(hr:rdB (QL b)=some (n,last))(hx:¬(ub4 (QL b) 8<=2147483647/\ZL n num (ub4 (QL b) 8:Int) (ub2 b 40:Int)=b)):XR b num=ndE 3:=by
 rw[Qec h hn ht hr,if_neg]
 grind[ub4,QL,QvY,Ql7]
theorem Qwv(h:b.length=512)(hn:1<=num/\num<=120)(ht:XD b=false)(hr:rdB (QL b)=some (n,last))(hl:ub4 (QL b) 8<=2147483647)(hx:ZL n num (ub4 (QL b) 8:Int) (ub2 b 40:Int)=b):XR b num=⟨n,(ub4 (QL b) 8:Int),(ub2 b 40:Int),0⟩:=by
 rw[Qec h hn ht hr,if_pos ((Ql7 h ht om hr hl).1 hx)]
theorem QpK{u v:Bool}(hu:u=true ↔ b.length=512)(hv:v=true ↔ 1<=num/\num<=120) :
  (Xp [.int .i64 (bif u then 0 else 10),.int .i64 (bif v then 0 else 2)]=0->b.length=512/\(1<=num/\num<=120)) /\
  (¬Xp [.int .i64 (bif u then 0 else 10),.int .i64 (bif v then 0 else 2)]=0->XR b num=ndE (Xp [.int .i64 (bif u then 0 else 10),.int .i64 (bif v then 0 else 2)])):=by
 cases u with
 | false=>exact⟨λh=>absurd (show(10:Int)=0 from h) (by decide),λ_=>Qls λh9=>by cases hu.2 h9⟩
 | true=>
  cases v with
  | false=>exact⟨λh=>absurd h (by decide),λ_=>QlR (hu.1 rfl) λh9=>by cases hv.2 h9⟩
  | true=>exact⟨λ_=>⟨hu.1 rfl,hv.1 rfl⟩,λh=>absurd rfl h⟩
theorem QqT{s:List UInt8}(h:1<=ub2 s 16/\ub2 s 16<=4):rdB s=rdN s 64 (ub2 s 16):=by unfold rdB;rw[if_pos h]
theorem Qpa{s:List UInt8}(h:¬(1<=ub2 s 16/\ub2 s 16<=4)):rdB s=none:=by unfold rdB;rw[if_neg h]
end
end Gx
namespace Go.Proofs
open Go Go.RowKit Gx
attribute [local irreducible] Go.Calls Gx.S Gx.O Gx.D Gx.OpP Gx.OpQ Gx.OpH
set_option maxRecDepth 20000
instance:TFn Tryz.prog 100:=⟨by kernel_rfl⟩
theorem QcK:Y2 Tryz.prog 118=some [(0,3),(3,1),(4,1)]:=by kernel_rfl
theorem Qak:QS Tryz.prog 118=some [.bool false,.slice none 0 0,.slice none 0 0,.int .i64 0,.int .i64 0]:=by kernel_rfl
theorem QrT:QK Tryz.prog 79=true:=by kernel_rfl
instance:TFn Tryz.prog 79:=⟨QrT⟩
theorem QeV:tsz Tryz.prog 118=some (5,true):=by kernel_rfl
instance:TSz Tryz.prog 118 5 true:=⟨QeV⟩
instance:TFn Tryz.prog 130:=⟨by kernel_rfl⟩
theorem c63(w:World)(s:List UInt8)(num:Int)(hsl:s.length<=1000000):CE 63 #[.string (bs s),.int .i64 num] w [] (λg:LNd=>.tuple #[.agg #[.bool g.us,.slice g.ea g.es.length g.ec,.slice g.ca g.cs.length g.cc,.int .i64 (XR s num).lsn,.int .i64 (XR s num).usn],.int .i64 (XR s num).e]) (λg=>g.pl=(XR s num).n) λg=>[.ents 27 g.ea g.ec g.es,.kids g.ca g.cc g.cs]:=by
 have hF:=QpK (b:=s) (num:=num) (u:=decide ((s.length:Int)=512)) (v:=decide (1<=num)&&decide (num<=120)) (by rw[decide_eq_true_eq];omega) (by simp only[Bool.and_eq_true,decide_eq_true_eq])
 refine eN2 Tryz.func63 Tryz.ntmps63 ?_
 refine aU2 ?_
 refine oAl (λb1 _=>?_) Qak
 refine aU6 ?_
 refine oCq rfl (λw1 h1=>Qwj w1 _) (aU ?_)
 refine oCq rfl (λw1 h1=>c87 w1 _ _ _) (oCq rfl (λw1 h1=>c60 w1 _ _) (o_h (Qk (cs:=[_,_]) rfl rfl Yq ZY rfl rfl rfl) rfl (λb2 _=>oCq rfl (λw1 h1=>f59 h1 aPk (by rfl) (by rfl) (by decide)) (aU7 ?_))))
 refine sCd rfl (λh3=>?_) λh3=>?_
 ·have hR:=hF.2 h3
  refine aU2 ?_
  refine o_p (QE (cs:=[_,_,_,_,_]) rfl rfl QcK Qak rfl) rfl (aU4 ?_)
  exact Ql (rs:=[.cell 4 118,.tmp 5]) rfl (.cell rfl QeV aPk rfl (.tmp rfl (.nil))) (λw' h'=>⟨⟨false,none,0,[],none,0,[]⟩,by rw[hR];rfl,by rw[hR];rfl,((h'.nil.own_nil 3 1).own_nil 27 2).ent aEt⟩)
 obtain⟨hs5,hn5⟩:=hF.1 h3
 refine aU4 ?_
 refine oCq rfl (λw1 h1=>c130 w1 s hsl) (QgU ?_)
 refine sCd rfl (λh4=>?_) λh4=>?_
 ·have ht:XD s=true:=by cases ht:XD s;have hq:=h4;rw[QfF hs5 ht]at hq;exact absurd rfl hq;rfl
  have hR:=Qil hs5 hn5 ht
  refine aU2 ?_
  refine o_p (QE (cs:=[_,_,_,_,_]) rfl rfl QcK Qak rfl) rfl (aU3 ?_)
  exact Ql (rs:=[.cell 4 118,.tmp 5]) rfl (.cell rfl QeV aPk rfl (.tmp rfl (.nil))) (λw' h'=>⟨⟨false,none,0,[],none,0,[]⟩,by rw[hR];rfl,by rw[hR];rfl,((h'.nil.own_nil 3 1).own_nil 27 2).ent aEt⟩)
 have ht:XD s=false:=by cases ht:XD s;rfl;have hq:=h4;rw[QhV hs5 ht]at hq;cases hq
 rw[QfF hs5 ht]
 dsimp only
 have hol9:=Y7 hs5
 obtain⟨o,ho⟩:∃o,o=QL s:=⟨_,rfl⟩
 rw[<-ho]
 rw[<-ho]at hol9
 have hol:o.length=512:=hol9
 have hdl:∀k,k<=512->(o.drop k).length=512-k:=λk hk=>by rw[List.length_drop,hol]
 have hb4:=Qnn o 8
 have hb2:=QcO o 16
 have hu40:=QcO s 40
 have hu0:1<=ub2 s 40:=by have:=(Qhe.1 ht).1;omega
 refine aU4 ?_
 refine o_h (QaK rfl rfl Tryz.underlying9 Tryz.underlying139 Tryz.underlying5 rfl (by simp only[maxLen];omega)) rfl (λ⟨b5,c6⟩⟨h7,k8⟩=>aU5 ?_)
 refine o_p (QA _ _ 16 o.length rfl rfl QB ⟨_,_,rfl,rfl⟩ rfl om om) rfl (Qm (show _=Value.slice (XU (some ⟨b5,0,none⟩) c6 16 1) (512-16) (c6-16)from by rw[hol]) (oCq rfl (λw1 h1=>Qtf w1 (XU (some ⟨b5,0,none⟩) c6 16 1) (512-16) (c6-16) (o.drop 16) (by have h9:=(h1.vl_blk (cs:=o.map bv) aPk).dropA (k:=16) (cap:=c6) (by rw[List.length_map];omega) (by rw[List.length_map];omega);rw[<-List.map_drop]at h9;exact h9) (hdl 16 om) om om (by simp only[maxLen]at *;omega)) (Qm (show _=Value.int .u16 ((ub2 o 16:Nat):Int)from by rw[Qba,Nat.add_zero,Qcm]) (o_p (Qp rfl rfl Ys YP) rfl ?_))))
 try refine oWr ?_
 refine aU4 ?_
 refine Qj (L':=[(0,_),(1,_),(4,_),(5,_),(8,_),(10,_),(11,_)]) aSx (λ_ h=>h) ?_
 refine aU2 ?_
 refine oCq rfl (λw1 h1=>c87 w1 _ _ _) (aU2 ?_)
 refine sCd rfl (λh9=>?_) λh9=>?_
 ·have hR:=QfL hs5 hn5 ht (by rw[<-ho];exact Qpa (by have hq:=h9;intro h9;simp at hq;omega))
  refine aU2 ?_
  refine o_p (QE (cs:=[_,_,_,_,_]) rfl rfl QcK Qak rfl) rfl (aU3 ?_)
  exact Ql (rs:=[.cell 4 118,.tmp 5]) rfl (.cell rfl QeV aPk rfl (.tmp rfl (.nil))) (λw' h'=>⟨⟨false,none,0,[],none,0,[]⟩,by rw[hR];rfl,by rw[hR];rfl,((h'.nil.own_nil 3 1).own_nil 27 2).ent aEt⟩)
 have hct:1<=ub2 o 16/\ub2 o 16<=4:=by have hq:=h9;omega
 have hrb:=QqT hct
 refine aU4 ?_
 refine o_p (QA _ _ 64 o.length rfl rfl QB ⟨_,_,rfl,rfl⟩ rfl om om) rfl (aU ?_)
 refine oCh rfl (λw1 h1=>c92 w1 o 64 (ub2 o 16) (XU (some ⟨b5,0,none⟩) c6 64 1) (c6-64) (by have h9:=(h1.vl_blk (cs:=o.map bv) aPk).dropA (k:=64) (cap:=c6) (by rw[List.length_map];omega) (by rw[List.length_map];omega);rw[<-List.map_drop]at h9;exact h9) (by rw[hol];decide) (by rw[hol];decide) (by rw[hol];omega) (by simp only[maxLen]at *;omega) om) (λ⟨gn,gr,gl,gc⟩hgn=>aU4 ?_)
 refine oAl (λb10 _=>?_) Xr
 refine aU5 ?_
 refine Qz [8] QJ ?_
 refine dLn 0 [[]] ?_
 refine dP 1 ?_
 refine dV 2 rfl (QA _ _ 8 o.length rfl rfl QB ⟨_,_,rfl,rfl⟩ rfl om om) (QC (show _=Value.slice (XU (some ⟨b5,0,none⟩) c6 8 1) (512-8) (c6-8)from by rw[hol]) (dQ 3 [[]] rfl (Qr rfl Qrl rfl (λw1 h1=>c132 w1 (XU (some ⟨b5,0,none⟩) c6 8 1) (512-8) (c6-8) (o.drop 8) (by have h9:=(h1.vl_blk (cs:=o.map bv) aPk).dropA (k:=8) (cap:=c6) (by rw[List.length_map];omega) (by rw[List.length_map];omega);rw[<-List.map_drop]at h9;exact h9) (hdl 8 om) om om (by simp only[maxLen]at *;omega))) (QC (show _=Value.int .u32 ((ub4 o 8:Nat):Int)from by rw[Qgo,Nat.add_zero,Qgq]) (dV 4 rfl (Qp rfl rfl Y3 YP) ?_))))
 try refine dWr ?_
 refine dP 5 ?_
 refine dV 6 rfl (QE (cs:=[_,_,_,_,_]) rfl rfl QcK Qak rfl) (dH 7 rfl (ZA rfl Qak) (λb11 _=>dBa ?_))
 refine dSt 8 ?_ (hl:=(by simp only[Qf,List.length_set,List.length_cons,List.length_nil,List.length_map];omega))
 refine dTu [] ?_
 refine dNi ?_
 refine aU6 ?_
 refine oOr 4 63 67 rfl
  (λhg12 _=>by
   refine aU6 ?_
   exact oJf 4 67)
  (λhg14 _=>by
   refine aU3 ?_
   exact oJt 4 67) ?_
 refine aU ?_
 refine oOr 6 68 74 rfl
  (λhg16 _=>by
   refine aU4 ?_
   have hq9:=hg16
   obtain⟨⟨n9,e9⟩,hrd⟩:∃q,rdN o 64 (ub2 o 16)=some q:=Option.isSome_iff_exists.1 (by grind)
   have hls:ub4 o 8<=2147483647:=by grind
   obtain⟨hpl9,_⟩:=hgn.1 _ _ hrd
   obtain⟨_,q2,q3,q4,q5,q6⟩:=Qdb hol (hrb.trans hrd)
   have hcb:(Q9 gn.pl).length<=448:=by rw[hpl9,Qkf hol (hrb.trans hrd)];omega
   have hnp:NdP gn.pl:=by rw[hpl9];exact q6.ndp om
   refine aU ?_
   refine oCq rfl (λw1 h1=>c79 w1 gn num ((ub4 o 8:Nat):Int) ((ub2 s 40:Nat):Int) (h1.rw_own ev2 aPk rfl) (h1.rw_own iv1 aPk rfl) hnp hcb om om om) (aU4 ?_)
   exact oJf 6 74)
  (λhg18 _=>by
   refine aU5 ?_
   exact oJt 6 74) ?_
 refine aU ?_
 refine sCd rfl (λh20=>?_) λh20=>?_
 ·have hR:XR s num=ndE 3:=by cases hr:rdN o 64 (ub2 o 16)with|none=>exact QfL hs5 hn5 ht (by rw[<-ho];exact hrb.trans hr)|some q=>(obtain⟨n9,e9⟩:=q;have hp9:=(hgn.1 _ _ hr).1;refine Qvm hs5 hn5 ht (by rw[<-ho];exact hrb.trans hr) (λh9=>?_);rw[<-ho]at h9;have hq:=h20;rw[hr,hp9]at hq;have h91:=h9.1;have h92:=h9.2;simp[h92]at hq;omega)
  refine aU ?_
  refine Qj (L':=[(4,_),(5,_),(15,_)]) aSx (λ_ h=>h) ?_
  refine aU ?_
  refine o_p (QE (cs:=[_,_,_,_,_]) rfl rfl QcK Qak rfl) rfl (aU3 ?_)
  exact Ql (rs:=[.cell 4 118,.tmp 5]) rfl (.cell rfl QeV aPk rfl (.tmp rfl (.nil))) (λw' h'=>⟨⟨false,none,0,[],none,0,[]⟩,by rw[hR];rfl,by rw[hR];rfl,((h'.nil.own_nil 3 1).own_nil 27 2).ent aEt⟩)
 obtain⟨⟨n9,e9⟩,hrd⟩:∃q,rdN o 64 (ub2 o 16)=some q:=Option.isSome_iff_exists.1 (by have hq:=h20;grind)
 obtain⟨hpl9,_⟩:=hgn.1 _ _ hrd
 have hR:=Qwv hs5 hn5 ht (by rw[<-ho];exact hrb.trans hrd) (by rw[<-ho];have hq:=h20;grind) (by rw[<-ho,<-hpl9];have hq:=h20;grind)
 rw[<-ho]at hR
 refine aU2 ?_
 refine Qj (L':=[(4,_),(5,_),(15,_)]) aSx (λ_ h=>h) ?_
 refine aU5 ?_
 exact Ql (rs:=[.cell 4 118,.tmp 5]) rfl (.cell rfl QeV aPk rfl (.tmp rfl (.nil))) (λw' h'=>⟨gn,by rw[hR];rfl,by rw[hR];exact hpl9,h'.ent aEt⟩)
instance:TFn Tryz.prog 63:=⟨by kernel_rfl⟩
def rpT(s:List UInt8)(u:Int):Nat->List UInt8
  | 0=>le2 u
  | i+1=>rpT s u i++Qq s (tlA i) 2
def rpS(s:List UInt8)(u:Int):Nat->List UInt8
  | 0=>s
  | i+1=>QN (rpS s u i) (tlA i) (le2 u)
theorem QeM{s:List UInt8}{u:Int}(h:s.length=512):∀i,i<=8->(rpS s u i).length=512
  | 0,_=>h
  | i+1,hi=>by
    have h1:=QeM (u:=u) h i om;show(QN _ _ _).length=512;rw[XM (by rw[h1];show tlA i+2<=512;unfold tlA;omega),h1]
theorem QiK{s:List UInt8}{u:Int}(h:s.length=512):∀i,i<=8->∀j,i<=j->j<8->Qq (rpS s u i) (tlA j) 2=Qq s (tlA j) 2
  | 0,_,_,_,_=>rfl
  | i+1,hi,j,hj,h8=>by
    have h1:=QeM (u:=u) h i om;show Qq (QN _ _ _) _ _=_;rw[QbF (by rw[h1];show tlA i+2<=512;unfold tlA;omega) (.inr (by show tlA i+2<=tlA j;unfold tlA;omega))];exact QiK h i om j om h8
theorem QfE{s:List UInt8}{u:Int}(h:s.length=512):∀i,i<=8->(rpT s u i).length=2+2*i
  | 0,_=>rfl
  | i+1,hi=>by
    show(rpT s u i++Qq s (tlA i) 2).length=_;rw[List.length_append,QfE h i om,QU (by unfold tlA;omega)];omega
theorem QhZ{l x y:List UInt8}{p q:Nat}(hp:p+x.length<=l.length)(hq:q+y.length<=l.length)(hd:p+x.length<=q\/q+y.length<=p):QN (QN l p x) q y=QN (QN l q y) p x:=by
  apply List.ext_getElem?;intro j;rw[YF (by rw[XM hp];exact hq),YF hp,YF (by rw[XM hq];exact hp),YF hq]
  by_cases h1:j<p<;>by_cases h2:j<q<;>by_cases h3:j<p+x.length<;>by_cases h4:j<q+y.length<;>simp only[h1,h2,h3,h4,if_true,if_false]<;>omega
theorem Qpo{s:List UInt8}{u:Int}(h:s.length=512):∀i,i<=8->prI s u i=QN (rpS s u i) 40 (rpT s u i)
  | 0,_=>rfl
  | i+1,hi=>by
    have ih:=Qpo (u:=u) h i om;have hS:=QeM (u:=u) h i om;have hT:=QfE (u:=u) h i om
    have hsub:Qq (prI s u i) (tlA i) 2=Qq s (tlA i) 2:=by
      rw[ih,QbF (by rw[hS,hT];omega) (.inr (by rw[hT];unfold tlA;omega)),QiK h i om i (Nat.le_refl _) om]
    have h2:(Qq s (tlA i) 2).length=2:=QU (by unfold tlA;omega);show QN (QN (prI s u i) (42+2*i) (Qq (prI s u i) (tlA i) 2)) (tlA i) (le2 u)=QN (QN (rpS s u i) (tlA i) (le2 u)) 40 (rpT s u i++Qq s (tlA i) 2);have e9:=QhS (l:=rpS s u i) (p:=40) (q:=42+2*i) (x:=rpT s u i) (y:=Qq s (tlA i) 2) (by rw[hT];omega) (by rw[hT,hS,h2];omega);rw[hsub,ih,e9];have hx:(rpT s u i++Qq s (tlA i) 2).length=4+2*i:=by rw[List.length_append,hT,h2];omega
    exact QhZ (by rw[hx,hS];omega) (by rw[hS];show tlA i+2<=512;unfold tlA;omega) (.inl (by rw[hx];unfold tlA;omega))
theorem QsH{s:List UInt8}{u:Int}(h:s.length=512):Qb9 s u=QN (rpS s u 8) 40 (rpT s u 8):=Qpo h 8 (Nat.le_refl _)
instance:TFn Tryz.prog 54:=⟨by kernel_rfl⟩
theorem c103(w:World)(s:List UInt8)(u:Int)(h5:s.length=512)(hu:0<=u/\u<65536):CR 103 #[.string (bs s),.int .i64 u] w (.string (bs (Qb9 s u))):=by
 refine eN2 Tryz.func103 Tryz.ntmps103 ?_
 refine aU7 ?_
 refine oCq rfl (λw1 h1=>by have h9:=c94 w1 (u) 2 om om;rw[Qf0]at h9;exact h9) (aU8 ?_)
 refine Qt (α:=Nat) [0,5,6,7,10,11,12,13,14,15,16,17,18,19,20,21,22,23,24,25,26,27,28] (λk=>[(6,.int .i64 ((k:Int)+1)),(0,.string (bs (rpS s u k))),(5,.string (bs (rpT s u k)))]) (λ_=>HS w [] []) (λk=>k<=8) (λk=>8-k) 0 (Nat.zero_le _) aSx (λw h=>h.ent aEt) (λk hk8=>?_)
 refine aU6 ?_
 refine sCd rfl (λh1=>?_) λh1=>?_
 ·have hk:k<8:=by omega
  have hsl:=QeM (u:=u) h5 k hk8
  have htl:=QfE (u:=u) h5 k hk8
  have hsb:=QiK (u:=u) h5 k hk8 k (Nat.le_refl _) hk
  have ht9:tlA k=64*k+62:=rfl
  have hxl:(Qq (rpS s u k) (tlA k) 2).length=2:=QU om
  refine aT7 ?_
  refine aT ?_
  refine Qm (show _=Value.int .i64 ((tlA k:Nat):Int)from congrArg (Value.int .i64) (by unfold tlA;omega)) (aT9 ?_)
  refine o_p (Xj _ _ (tlA k) (tlA k+2) rfl rfl Tryz.underlying9 ⟨_,_,rfl,rfl⟩ ⟨_,_,rfl,om⟩ om om) rfl (Qm (show _=Value.string (bs (Qq (rpS s u k) (tlA k) 2))from by rw[QaE (n:=2) rfl]) (o_p (QF rfl rfl rfl (by(try simp only[List.length_append,List.length_cons,List.length_nil,List.length_replicate,List.length_take,List.length_drop]);omega)) rfl (aU6 ?_)))
  refine oCq rfl (λw1 h1=>by have h9:=c94 w1 (u) 2 om om;rw[Qf0]at h9;exact h9) (oCq rfl (λw1 h1=>c54 w1 (rpS s u k) (tlA k) (le2 u) (by show tlA k+2<=_;omega) om) (aT6 ?_))
  refine Qm (show _=Value.int .i64 (((k+1:Nat):Int)+1)from congrArg (Value.int .i64) om) (aU2 ?_)
  exact sBk (k+1) om om (by rw[show(rpT s u (k+1))=rpT s u k++Qq s (tlA k) 2 from rfl,<-hsb];exact aSx)
 obtain rfl:k=8:=om
 have hsl:=QeM (u:=u) h5 8 hk8
 have htl:=QfE (u:=u) h5 8 hk8
 refine Qh rfl ?_
 refine aU4 ?_
 refine oCq rfl (λw1 h1=>c54 w1 (rpS s u 8) 40 (rpT s u 8) om om) (aU2 ?_)
 exact rV (h:=by rw[QsH h5];rfl)
def roI(s:List UInt8):Nat->List UInt8
  | 0=>QN s 40 (List.replicate 18 0)
  | i+1=>QN (roI s i) (tlA i) (Qq s (42+2*i) 2)
theorem Qm0{s:List UInt8}(h:s.length=512):∀i,i<=8->(roI s i).length=512
  | 0,_=>by
    show(QN _ _ _).length=512;rw[XM (by rw[h];decide),h]
  | i+1,hi=>by
    have h1:=Qm0 h i om;have h2:(Qq s (42+2*i) 2).length=2:=QU om;show(QN _ _ _).length=512;rw[XM (by rw[h1,h2];unfold tlA;omega),h1]
theorem Qnf{s:List UInt8}(h:s.length=512):∀i,i<=8->∀j,j<8->Qq (opI s i) (42+2*j) 2=Qq s (42+2*j) 2
  | 0,_,_,_=>rfl
  | i+1,hi,j,h8=>by
    have h1:=Z6 h i om;have h2:(Qq (opI s i) (42+2*i) 2).length=2:=QU om;show Qq (QN _ _ _) _ _=_;rw[QbF (by rw[h1,h2];unfold tlA;omega) (.inl (by unfold tlA;omega))];exact Qnf h i om j h8
theorem QpC{s:List UInt8}(h:s.length=512):∀i,i<=8->roI s i=QN (opI s i) 40 (List.replicate 18 0)
  | 0,_=>rfl
  | i+1,hi=>by
    have ih:=QpC h i om;have h1:=Z6 h i om;have h2:(Qq s (42+2*i) 2).length=2:=QU om;show QN (roI s i) (tlA i) (Qq s (42+2*i) 2)=QN (QN (opI s i) (tlA i) (Qq (opI s i) (42+2*i) 2)) 40 (List.replicate 18 0);rw[ih,Qnf h i om i om];exact QhZ (by rw[h1];decide) (by rw[h1,h2];unfold tlA;omega) (.inl (by show 40+18<=tlA i;unfold tlA;omega))
theorem QtN{s:List UInt8}(h:s.length=512):QL s=roI s 8:=(QpC h 8 (Nat.le_refl _)).symm
theorem Qpn{s:List UInt8}(h:∀i,i<8->Qbs s i=false):XD s=false:=by
  cases hb:XD s with
  | false=>rfl
  | true=>
    obtain⟨i,hi,h1⟩:=List.any_eq_true.1 hb;rw[h i (List.mem_range.1 hi)]at h1;cases h1
theorem Qqe{s:List UInt8}{i:Nat}(hi:i<8)(h:Qbs s i=true):XD s=true:=List.any_eq_true.2 ⟨i,List.mem_range.2 hi,h⟩
theorem c102(w:World)(s:List UInt8)(h5:s.length=512):CR 102 #[.string (bs s)] w (.tuple #[.string (bs (if XD s=true then[]else QL s)),.bool (!XD s)]):=by
 refine eN1 Tryz.func102 Tryz.ntmps102 ?_
 refine aU8 ?_
 refine oCq rfl (λw1 h1=>by have h9:=c72 w1 s (40) 2 om om om;rw[QcQ,Qcm]at h9;exact h9) (aU5 ?_)
 refine oCq rfl (λw1 h1=>c86 w1 18 om) (oCq rfl (λw1 h1=>c54 w1 s 40 (List.replicate 18 0) (by rw[List.length_replicate];omega) om) (aU8 ?_))
 refine Qt (α:=Nat) [2,3,5,6,7,13,14,15,16,17,18,19,20,21,22,23,24,25,26,27,28,29,30,31,32,33,34,35,36,37,38,39,40] (λk=>[(6,.int .i64 ((k:Int)+1)),(5,.string (bs (roI s k)))]) (λ_=>HS w [] []) (λk=>k<=8/\∀i,i<k->Qbs s i=false) (λk=>8-k) 0 ⟨Nat.zero_le _,λi h=>absurd h (Nat.not_lt_zero _)⟩ aSx (λw h=>h.ent aEt) (λk hkk=>?_)
 obtain⟨hk8,hkt⟩:=hkk
 refine aU6 ?_
 refine sCd rfl (λh1=>?_) λh1=>?_
 ·have hk:k<8:=by omega
  have hol:=Qm0 h5 k hk8
  have ht9:tlA k=64*k+62:=rfl
  have hxl:(Qq s (42+2*k) 2).length=2:=QU om
  refine aT7 ?_
  refine aT ?_
  refine Qm (show _=Value.int .i64 ((tlA k:Nat):Int)from congrArg (Value.int .i64) (by unfold tlA;omega)) (aU8 ?_)
  refine oOr 6 22 28 rfl
   (λhg2 _=>by
    refine aU5 ?_
    refine oCq rfl (λw1 h1=>by have h9:=c72 w1 s (tlA k) 2 om om om;rw[QcQ,Qcm]at h9;exact h9) (aU4 ?_)
    exact oJf 6 28)
   (λhg4 _=>by
    refine aU5 ?_
    exact oJt 6 28) ?_
  refine aU ?_
  refine sCd rfl (λh6=>?_) λh6=>?_
  ·have hTB:XD s=true:=Qqe hk (decide_eq_true (by have hq:=h6;omega))
   refine aU5 ?_
   exact Ql (rs:=[.tmp 2,.tmp 3]) rfl (.tmp rfl (.tmp rfl (.nil))) (λw' h'=>⟨by rw[hTB];rfl,h'.below⟩)
  have hT:Qbs s k=false:=decide_eq_false (by have hq:=h6;omega)
  refine aT7 ?_
  refine aT ?_
  refine aT2 ?_
  refine aT ?_
  refine aT ?_
  refine o_p (Xj _ _ (42+2*k) (42+2*k+2) rfl rfl Tryz.underlying9 ⟨_,_,rfl,om⟩ ⟨_,_,rfl,om⟩ om om) rfl (Qm (show _=Value.string (bs (Qq s (42+2*k) 2))from by rw[QaE (n:=2) rfl]) (oCq rfl (λw1 h1=>c54 w1 (roI s k) (tlA k) (Qq s (42+2*k) 2) om om) (aU3 ?_)))
  refine Qj (L':=[(0,_),(4,_),(5,_),(6,_),(8,_),(9,_),(10,_),(11,_),(12,_)]) aSx (λ_ h=>h) ?_
  refine aT3 ?_
  refine Qm (show _=Value.int .i64 (((k+1:Nat):Int)+1)from congrArg (Value.int .i64) om) (aU2 ?_)
  exact sBk (k+1) om ⟨om,λi hi=>(Nat.lt_or_ge i k).elim (hkt i) (λh=>by obtain rfl:i=k:=om;exact hT)⟩
 obtain rfl:k=8:=om
 have hTB:=Qpn hkt
 refine Qh rfl ?_
 refine aU6 ?_
 exact Ql (rs:=[.tmp 2,.tmp 3]) rfl (.tmp rfl (.tmp rfl (.nil))) (λw' h'=>⟨by rw[hTB,QtN h5];rfl,h'.below⟩)
instance:TFn Tryz.prog 103:=⟨by kernel_rfl⟩
instance:TFn Tryz.prog 102:=⟨by kernel_rfl⟩
theorem c41(w:World)(co mo rm:Int)(a:Option Addr)(cap:Nat)(L:List LNd)(num lsn usn:Int)(hs:Nt w [] a L)(h0:0<=num/\num<4294967296)(hk:num.toNat<L.length)(hp:NdP (nth L num.toNat).pl)(hcb:(Q9 (nth L num.toNat).pl).length<=448)(hlsn:0<=lsn/\lsn<4294967296)(hu:0<=usn/\usn<65536):CR 41 #[.agg #[.int .i64 co,.int .i64 mo,.int .i64 rm,.slice a L.length cap],.int .i64 num,.int .i64 lsn,.int .i64 usn] w (.string (bs (ZL (nth L num.toNat).pl num lsn usn))):=by
 have hel:(nth L num.toNat).es.length<=1000:=hp.el
 have l42:(le4 lsn).length=4:=rfl
 have l43:(le4 num).length=4:=rfl
 have l44:(le2 ((nth L num.toNat).es.length:Int)).length=2:=rfl
 have l41:∀x:Int,(le4 x).length=4:=λ_=>rfl
 have l21:∀x:Int,(le2 x).length=2:=λ_=>rfl
 refine eN4 Tryz.func41 Tryz.ntmps41 ?_
 refine aU2 ?_
 refine oBx λb1 _=>?_
 refine aU7 ?_
 refine o_p (Qa rfl rfl rfl QT num.toNat om om (Rw.some hs.1 om)) rfl (o_q (Qs _ rfl rfl Xo rfl (Rw.rd hs.1 om)) rfl (oAl (λb2 _=>?_) Xr))
 refine aU3 ?_
 refine Qz [] QJ ?_
 refine dQ 0 [] rfl (Qr rfl Qmc rfl (λw1 h1=>c86 w1 4 om)) (dV 1 rfl (QF rfl rfl rfl (by(try simp only[List.length_append,List.length_cons,List.length_nil,List.length_replicate,List.length_take,List.length_drop]);omega)) (dP 2 ?_))
 refine dQ 3 [] rfl (Qr rfl Qb7 rfl (λw1 h1=>by have h9:=c94 w1 (lsn) 4 om om;rw[Qis]at h9;exact h9)) (dV 4 rfl (QF rfl rfl rfl (by(try simp only[List.length_append,List.length_cons,List.length_nil,List.length_replicate,List.length_take,List.length_drop]);omega)) (dP 5 ?_))
 refine dQ 6 [] rfl (Qr rfl Qb7 rfl (λw1 h1=>by have h9:=c94 w1 (num) 4 om om;rw[Qis]at h9;exact h9)) (dV 7 rfl (QF rfl rfl rfl (by(try simp only[List.length_append,List.length_cons,List.length_nil,List.length_replicate,List.length_take,List.length_drop]);omega)) (dFa 8 ?_))
 refine dLd 9 [] ?_
 refine dV 10 rfl (QR rfl rfl Tryz.underlying67) (dQ 11 [] rfl (Qr rfl Qb7 rfl (λw1 h1=>by have h9:=c94 w1 (((nth L num.toNat).es.length:Int)) 2 om om;rw[Qf0]at h9;exact h9)) (dV 12 rfl (QF rfl rfl rfl (by(try simp only[List.length_append,List.length_cons,List.length_nil,List.length_replicate,List.length_take,List.length_drop]);omega)) (dQ 13 [] rfl (Qr rfl Qmc rfl (λw1 h1=>c86 w1 46 om)) (dV 14 rfl (QF rfl rfl rfl (by(try simp only[List.length_append,List.length_cons,List.length_nil,List.length_replicate,List.length_take,List.length_drop]);omega)) (dLn 15 [] ?_)))))
 refine dQ 16 [] rfl (Qr rfl Qt3 rfl (λw1 h1=>c99 w1 (nth L num.toNat) ((hs.es hk).later h1) ((hs.cs hk).later h1) hp)) (dV 17 rfl (QF rfl rfl rfl (by(try simp only[List.length_append,List.length_cons,List.length_nil,List.length_replicate,List.length_take,List.length_drop]);omega)) (dP 18 ?_))
 refine dNi ?_
 refine aU ?_
 refine Qj (L':=[(3,_),(8,_),(10,_)]) aSx (λ_ h=>h) ?_
 refine aU3 ?_
 refine o_p (Qg rfl rfl Tryz.underlying9) rfl (Qm (show _=Value.int .i64 ((64+(Q9 (nth L num.toNat).pl).length:Nat):Int)from congrArg (Value.int .i64) (by first|(simp only[List.length_append,List.length_replicate,l41,l21,List.length_cons,List.length_nil];done)|(simp only[List.length_append,List.length_replicate,l41,l21,List.length_cons,List.length_nil];omega))) (aT ?_))
 refine Qm (show _=Value.int .i64 ((448-(Q9 (nth L num.toNat).pl).length:Nat):Int)from congrArg (Value.int .i64) om) (oCq rfl (λw1 h1=>c86 w1 (448-(Q9 (nth L num.toNat).pl).length) om) (o_p (QF rfl rfl rfl (by(try simp only[List.length_append,List.length_cons,List.length_nil,List.length_replicate,List.length_take,List.length_drop]);omega)) rfl (Qm (show _=Value.string (bs (ZE (nth L num.toNat).pl num lsn))from rfl) (aU ?_))))
 refine oCq rfl (λw1 h1=>c103 w1 (ZE (nth L num.toNat).pl num lsn) usn (Qbm hcb) hu) (aU2 ?_)
 exact rV
theorem c39(w:World)(s:List UInt8)(num:Int)(hsl:s.length<=1000000):CE 39 #[.string (bs s),.int .i64 num] w [] (λg:LNd=>.tuple #[.agg #[.bool g.us,.slice g.ea g.es.length g.ec,.slice g.ca g.cs.length g.cc],.int .i64 (XR s num).lsn,.int .i64 (XR s num).usn,.int .i64 (XR s num).e]) (λg=>g.pl=(XR s num).n) λg=>[.ents 27 g.ea g.ec g.es,.kids g.ca g.cc g.cs]:=by
 refine eN2 Tryz.func39 Tryz.ntmps39 ?_
 refine aU2 ?_
 refine oAl (λb1 _=>?_) Xr
 refine aU6 ?_
 refine o_p (QE (cs:=[_,_,_]) rfl rfl Qfj Xr rfl) rfl (oAl (λb2 _=>?_) Xr)
 refine aU6 ?_
 refine o_p (Qg rfl rfl Tryz.underlying9) rfl (aU2 ?_)
 refine sCd rfl (λh3=>?_) λh3=>?_
 ·have hR:XR s num=ndE 10:=Qls (by have hq:=h3;omega)
  refine aU8 ?_
  exact Ql (rs:=[.cell 4 69,.tmp 5,.tmp 6,.tmp 7]) rfl (.cell rfl Xo aPk rfl (.tmp rfl (.tmp rfl (.tmp rfl (.nil))))) (λw' h'=>⟨⟨false,none,0,[],none,0,[]⟩,by rw[hR];rfl,by rw[hR];rfl,((h'.nil.own_nil 3 1).own_nil 27 2).ent aEt⟩)
 have hs5:s.length=512:=by have hq:=h3;omega
 refine aU5 ?_
 refine oCq rfl (λw1 h1=>c40 w1 _ _ _) (aU2 ?_)
 refine sCd rfl (λh4=>?_) λh4=>?_
 ·have hR:XR s num=ndE 2:=QlR hs5 (by have hq:=h4;grind)
  refine aU8 ?_
  exact Ql (rs:=[.cell 4 69,.tmp 5,.tmp 6,.tmp 7]) rfl (.cell rfl Xo aPk rfl (.tmp rfl (.tmp rfl (.tmp rfl (.nil))))) (λw' h'=>⟨⟨false,none,0,[],none,0,[]⟩,by rw[hR];rfl,by rw[hR];rfl,((h'.nil.own_nil 3 1).own_nil 27 2).ent aEt⟩)
 have hn5:1<=num/\num<=120:=by have hq:=h4;grind
 refine aU4 ?_
 refine oCq rfl (λw1 h1=>c102 w1 s hs5) (Qay ?_)
 refine sCd rfl (λh5=>?_) λh5=>?_
 ·have ht:XD s=true:=by have hq:=h5;grind
  have hR:=Qil hs5 hn5 ht
  refine aU8 ?_
  exact Ql (rs:=[.cell 4 69,.tmp 5,.tmp 6,.tmp 7]) rfl (.cell rfl Xo aPk rfl (.tmp rfl (.tmp rfl (.tmp rfl (.nil))))) (λw' h'=>⟨⟨false,none,0,[],none,0,[]⟩,by rw[hR];rfl,by rw[hR];rfl,((h'.nil.own_nil 3 1).own_nil 27 2).ent aEt⟩)
 have ht:XD s=false:=by have hq:=h5;grind
 rw[ht]
 rw[if_neg Bool.false_ne_true]
 have hol9:=Y7 hs5
 obtain⟨o,ho⟩:∃o,o=QL s:=⟨_,rfl⟩
 rw[<-ho]
 rw[<-ho]at hol9
 have hol:o.length=512:=hol9
 have hb2:=QcO o 16
 refine aU4 ?_
 refine oCq rfl (λw1 h1=>by have h9:=c72 w1 o (8) 4 om om om;rw[Zo,Qgq]at h9;exact h9) (aU ?_)
 refine oCq rfl (λw1 h1=>by have h9:=c72 w1 o (16) 2 om om om;rw[QcQ,Qcm]at h9;exact h9) (aU5 ?_)
 refine o_p (QE (cs:=[_,_,_]) rfl rfl Qfj Xr rfl) rfl (oAl (λb6 _=>?_) Xr)
 refine aU6 ?_
 refine Qj (L':=[(0,_),(1,_),(4,_),(5,_),(6,_),(7,_),(8,_),(9,_),(11,_),(12,_),(13,_),(14,_),(15,_)]) aSx (λ_ h=>h) ?_
 refine aU2 ?_
 refine oCq rfl (λw1 h1=>c40 w1 _ _ _) (aU ?_)
 refine Ye (α:=LNd×Nat×Bool) [14,15,40,41,42,43,44,45,46] (λx=>[(14,.int .i64 (x.2.1:Int)),(15,.bool x.2.2)]) (λx=>HS w [] [.blk b6 69 3 (LNd.vals x.1),.ents 27 x.1.ea x.1.ec x.1.es,.kids x.1.ca x.1.cc x.1.cs,.blk b2 69 3 [.bool false,.slice none 0 0,.slice none 0 0],.blk b1 69 3 [.bool false,.slice none 0 0,.slice none 0 0]]) (λx=>x.2.2=(rdB o).isSome/\(∀nd e,rdB o=some (nd,e)->x.1.pl=nd/\x.2.1=e)) ?_ ?_
 ·skip
  refine sCd rfl (λh7=>?_) λh7=>?_
  ·have hct:1<=ub2 o 16/\ub2 o 16<=4:=by have hq:=h7;omega
   have hrb:=QqT hct
   refine aU3 ?_
   refine oCh rfl (λw1 h1=>c98 w1 o 64 (ub2 o 16) om om om) (λ⟨gn,gl⟩hgn=>aU8 ?_)
   exact Qo (gn,gl,(rdN o 64 (ub2 o 16)).isSome) ⟨by rw[hrb],λnd e h9=>hgn.1 nd e (by rw[<-hrb];exact h9)⟩ aSx (λw h=>h.ent aEt)
  have hrb:rdB o=none:=Qpa (by have hq:=h7;omega)
  refine aU ?_
  exact Qo (⟨false,none,0,[],none,0,[]⟩,0,false) ⟨by rw[hrb];rfl,λnd e h9=>(by rw[hrb]at h9;cases h9)⟩ aSx (λw h=>((h.own_nil 3 1).own_nil 27 2).ent aEt)
 intro⟨gn,gl,gk⟩ ⟨hg8,hg9⟩
 dsimp only
 simp only[]at hg8 hg9
 refine aU6 ?_
 refine oOr 4 49 53 rfl
  (λhg8 _=>by
   refine aU3 ?_
   refine o_p (Zt 4 rfl rfl rfl Tryz.underlying9 rfl om) rfl (Qm (show _=Value.string (bs (o.take 4))from rfl) (aU2 ?_))
   exact oJf 4 53)
  (λhg10 _=>by
   refine aU3 ?_
   exact oJt 4 53) ?_
 refine aU ?_
 refine oOr 5 54 59 rfl
  (λhg12 _=>by
   refine aU3 ?_
   refine o_p (Xj _ _ 4 8 rfl rfl Tryz.underlying9 ⟨_,_,rfl,rfl⟩ ⟨_,_,rfl,rfl⟩ om om) rfl (Qm (show _=Value.string (bs (Qq o 4 4))from by rw[QaE (n:=4) rfl]) (aU ?_))
   refine oCq rfl (λw1 h1=>c53 w1 (Qq o 4 4) (by rw[QU om];omega)) (aU2 ?_)
   exact oJf 5 59)
  (λhg14 _=>by
   refine aU4 ?_
   exact oJt 5 59) ?_
 refine aU ?_
 refine oOr 4 60 64 rfl
  (λhg16 _=>by
   refine aU3 ?_
   refine oCq rfl (λw1 h1=>c35 w1 _) (aU2 ?_)
   exact oJf 4 64)
  (λhg18 _=>by
   refine aU3 ?_
   exact oJt 4 64) ?_
 refine aU ?_
 refine oOr 5 65 70 rfl
  (λhg20 _=>by
   refine aU3 ?_
   refine oCq rfl (λw1 h1=>by have h9:=c72 w1 o (12) 4 om om om;rw[Zo,Qgq]at h9;exact h9) (aU4 ?_)
   exact oJf 5 70)
  (λhg22 _=>by
   refine aU4 ?_
   exact oJt 5 70) ?_
 refine aU ?_
 refine oOr 5 71 76 rfl
  (λhg24 _=>by
   refine aU3 ?_
   refine o_p (Xj _ _ 18 40 rfl rfl Tryz.underlying9 ⟨_,_,rfl,rfl⟩ ⟨_,_,rfl,rfl⟩ om om) rfl (Qm (show _=Value.string (bs (Qq o 18 22))from by rw[QaE (n:=22) rfl]) (aU ?_))
   refine oCq rfl (λw1 h1=>c53 w1 (Qq o 18 22) (by rw[QU om];omega)) (aU2 ?_)
   exact oJf 5 76)
  (λhg26 _=>by
   refine aU4 ?_
   exact oJt 5 76) ?_
 refine aU ?_
 refine oOr 5 77 82 rfl
  (λhg28 _=>by
   refine aU3 ?_
   refine o_p (Xj _ _ 58 64 rfl rfl Tryz.underlying9 ⟨_,_,rfl,rfl⟩ ⟨_,_,rfl,rfl⟩ om om) rfl (Qm (show _=Value.string (bs (Qq o 58 6))from by rw[QaE (n:=6) rfl]) (aU ?_))
   refine oCq rfl (λw1 h1=>c53 w1 (Qq o 58 6) (by rw[QU om];omega)) (aU2 ?_)
   exact oJf 5 82)
  (λhg30 _=>by
   refine aU4 ?_
   exact oJt 5 82) ?_
 refine aU ?_
 refine oOr 6 83 89 rfl
  (λhg32 _=>by
   refine aU4 ?_
   have hq9:=hg32
   have hgl:gl<=512:=by have hgk:gk=true:=(by grind);rw[hg8]at hgk;obtain⟨⟨n9,e9⟩,hrd⟩:=Option.isSome_iff_exists.1 hgk;obtain⟨_,e⟩:=hg9 _ _ hrd;have h3:=(Qdb hol hrd).2.2.1;omega
   refine aU ?_
   refine o_p (YM gl rfl rfl rfl Tryz.underlying9 rfl om) rfl (aU ?_)
   refine oCq rfl (λw1 h1=>c53 w1 (o.drop gl) (by rw[List.length_drop];omega)) (aU2 ?_)
   exact oJf 6 89)
  (λhg34 _=>by
   refine aU5 ?_
   exact oJt 6 89) ?_
 refine aU ?_
 refine sCd rfl (λh36=>?_) λh36=>?_
 ·have hR:XR s num=ndE 3:=by cases hr:rdB o with|none=>exact QfL hs5 hn5 ht (by rw[<-ho];exact hr)|some q=>(obtain⟨n9,e9⟩:=q;obtain⟨_,hp9⟩:=hg9 _ _ hr;rw[Qec hs5 hn5 ht (by rw[<-ho];exact hr),if_neg];rw[<-ho];intro h9;have hq:=h36;rw[hg8,hr]at hq;simp only[Qg6,Bool.and_eq_true,decide_eq_true_eq]at h9;obtain⟨⟨a1,a2,a3,a4,a5,a6⟩,a7⟩:=h9;rw[hp9]at hq;have a0:List.take 4 o=[73,78,68,88]:=a1;simp[a0,a2,a4,a5,a6,a7]at hq;omega)
  refine aU ?_
  refine Qj (L':=[(0,_),(4,_),(5,_),(6,_),(7,_),(8,_),(11,_),(13,_)]) aSx (λ_ h=>h) ?_
  refine aU7 ?_
  exact Ql (rs:=[.cell 4 69,.tmp 5,.tmp 6,.tmp 7]) rfl (.cell rfl Xo aPk rfl (.tmp rfl (.tmp rfl (.tmp rfl (.nil))))) (λw' h'=>⟨⟨false,none,0,[],none,0,[]⟩,by rw[hR];rfl,by rw[hR];rfl,((h'.nil.own_nil 3 1).own_nil 27 2).ent aEt⟩)
 obtain⟨⟨n9,e9⟩,hrd⟩:∃q,rdB o=some q:=Option.isSome_iff_exists.1 (by rw[<-hg8];have hq:=h36;grind)
 obtain⟨hpl9,hl9⟩:=hg9 _ _ hrd
 have hR:XR s num=⟨n9,(ub4 o 8:Int),(ub2 s 40:Int),0⟩:=by rw[Qec hs5 hn5 ht (by rw[<-ho];exact hrd),if_pos];(rw[<-ho]);rw[<-ho];have hq:=h36;rw[hl9]at hq;simp only[Qg6,Bool.and_eq_true,decide_eq_true_eq];obtain⟨⟨⟨⟨⟨⟨⟨q1,q2⟩,q3⟩,q4⟩,q5⟩,q6⟩,q7⟩,q8⟩:=hq;exact⟨⟨q2,q3,om,q5,q6,q7⟩,q8⟩
 refine aU2 ?_
 refine Qj (L':=[(0,_),(4,_),(5,_),(6,_),(7,_),(11,_),(13,_)]) aSx (λ_ h=>h) ?_
 refine Qz [4] QJ ?_
 refine dLn 0 [[]] ?_
 refine dP 1 ?_
 refine dP 2 ?_
 refine dQ 3 [[]] rfl (Qr rfl Que rfl (λw1 h1=>by have h9:=c72 w1 s (40) 2 om om om;rw[QcQ,Qcm]at h9;exact h9)) (dSt 4 ?_ (hl:=(by simp only[Qf,List.length_set,List.length_cons,List.length_nil,List.length_map];omega)))
 refine dTu [] ?_
 refine dP 5 ?_
 refine dP 6 ?_
 refine dP 7 ?_
 refine dNi ?_
 exact Ql (rs:=[.cell 4 69,.tmp 5,.tmp 6,.tmp 7]) rfl (.cell rfl Xo aPk rfl (.tmp rfl (.tmp rfl (.tmp rfl (.nil))))) (λw' h'=>⟨gn,by rw[hR];rfl,by rw[hR];exact hpl9,h'.ent aEt⟩)
instance:TFn Tryz.prog 39:=⟨by kernel_rfl⟩
instance:TFn Tryz.prog 41:=⟨by kernel_rfl⟩
theorem Qqj{m:Nd}{num lsn usn:Int}(h:(Q9 m).length<=448):(ZL m num lsn usn).length=512:=Qc9 (Qbm h)
end Go.Proofs
namespace Gx
open Go Go.RowKit
theorem QvJ(n:Nat)(h:n<256):bits .and .u8 (n:Int) 1=((n%2:Nat):Int):=by
 have:∀k<256,bits .and .u8 ((k:Nat):Int) 1=((k%2:Nat):Int):=by decide +kernel
 exact this n h
theorem QsE(n m:Nat):(n:Int)/2^m=((n/2^m:Nat):Int):=by grind
theorem Qgk(bm:List UInt8)(j:Nat):decide (bits .and .u8 (((ub1 bm (j/8):Nat):Int)/2^(j%8)) 1=1)=ZW bm j:=by
 have hb:=Yj bm (j/8);have hd:ub1 bm (j/8)/2^(j%8)<256:=Nat.lt_of_le_of_lt (Nat.div_le_self _ _) hb;rw[QsE,QvJ _ hd];unfold ZW;exact decide_eq_decide.2 om
theorem Qso(bm:List UInt8)(j:Nat):decide (((ub1 bm (j/8):Nat):Int)/((2^(j%8):Nat):Int)%2=1)=ZW bm j:=by grind[ZW]
theorem QpE{bm:List UInt8}{j:Nat}(h:bm.length<=j/8):ZW bm j=false:=by simp_all[ZW,ub1]
end Gx
namespace Go.Proofs
open Go Go.RowKit Gx
attribute [local irreducible] Go.Calls Gx.S Gx.O Gx.D Gx.OpP Gx.OpQ Gx.OpH
set_option maxRecDepth 20000
instance:TFd Tryz.prog 108 0 0 23:=⟨by kernel_rfl⟩
theorem Qhd:tsz Tryz.prog 23=some (3,true):=by kernel_rfl
instance:TSz Tryz.prog 23 3 true:=⟨Qhd⟩
instance:TFd Tryz.prog 23 1 1 9:=⟨by kernel_rfl⟩
theorem Yn:tsz Tryz.prog 108=some (7,true):=by kernel_rfl
instance:TSz Tryz.prog 108 7 true:=⟨Yn⟩
theorem QgN:QK Tryz.prog 113=true:=by kernel_rfl
instance:TFn Tryz.prog 113:=⟨QgN⟩
instance:TFd Tryz.prog 23 2 2 9:=⟨by kernel_rfl⟩
theorem c78(w:World):CR 78 #[] w (.string (bs Qd3)):=by
 refine eN0 Tryz.func78 Tryz.ntmps78 ?_
 refine aU6 ?_
 refine o_h (QeN (n:=512) rfl rfl rfl QB Z5 om om) rfl (λb1 _=>o_q (Yl rfl rfl Tryz.underlying139 Tryz.underlying9 Tryz.underlying5 aPk (by simp[QG]) (by intro v hv;rw[QeC]at hv;exact Zp _ v hv)) rfl (aU2 ?_))
 exact rV (h:=by rw[QeC,YG];rfl)
theorem Qlh(w:World)(x:Ixs)(co mo rm:Int)(ra:Option Addr)(rn rc:Nat)(hl:x.al.length<=1000000000):CR 113 #[.agg #[.string (bs x.ro),.string (bs x.al),.string (bs x.bm),.int .i64 co,.int .i64 mo,.int .i64 rm,.slice ra rn rc]] w (.int .i64 ((x.n:Nat):Int)):=by
 refine eN1 Tryz.func113 Tryz.ntmps113 ?_
 refine aU2 ?_
 refine oBx λb1 _=>?_
 refine aU7 ?_
 refine o_p (Qg rfl rfl Tryz.underlying9) rfl (o_p (XC rfl rfl rfl om om om) rfl (aU2 ?_))
 exact rV
theorem c64(w:World)(x:Ixs)(co mo rm:Int)(ra:Option Addr)(rn rc:Nat)(i:Nat)(hl:x.al.length<=1000000000)(hi:1<=i/\i*512<=x.al.length):CR 64 #[.agg #[.string (bs x.ro),.string (bs x.al),.string (bs x.bm),.int .i64 co,.int .i64 mo,.int .i64 rm,.slice ra rn rc],.int .i64 (i:Int)] w (.string (bs (x.blk i))):=by
 refine eN2 Tryz.func64 Tryz.ntmps64 ?_
 refine aU2 ?_
 refine oBx λb1 _=>?_
 refine aT9 ?_
 refine aT ?_
 refine aT2 ?_
 refine o_p (Xj _ _ ((i-1)*512) (i*512) rfl rfl Tryz.underlying9 ⟨_,_,rfl,om⟩ ⟨_,_,rfl,om⟩ om om) rfl (aU2 ?_)
 exact rV (h:=by rw[QaE (n:=512) om];rfl)
theorem c66(w:World)(x:Ixs)(hl:x.al.length<=1000000000):CR 66 #[.agg #[.string (bs x.ro),.string (bs x.al),.string (bs x.bm)]] w (.int .i64 ((x.n:Nat):Int)):=by
 refine eN1 Tryz.func66 Tryz.ntmps66 ?_
 refine aU2 ?_
 refine oBx λb1 _=>?_
 refine aU6 ?_
 refine o_p (Qg rfl rfl Tryz.underlying9) rfl (o_p (XC rfl rfl rfl om om om) rfl (aU2 ?_))
 exact rV
theorem c69(w:World)(x:Ixs)(i:Nat)(hl:x.al.length<=1000000000)(hi:1<=i/\i*512<=x.al.length):CR 69 #[.agg #[.string (bs x.ro),.string (bs x.al),.string (bs x.bm)],.int .i64 (i:Int)] w (.string (bs (x.blk i))):=by
 refine eN2 Tryz.func69 Tryz.ntmps69 ?_
 refine aU2 ?_
 refine oBx λb1 _=>?_
 refine aT8 ?_
 refine aT ?_
 refine aT2 ?_
 refine o_p (Xj _ _ ((i-1)*512) (i*512) rfl rfl Tryz.underlying9 ⟨_,_,rfl,om⟩ ⟨_,_,rfl,om⟩ om om) rfl (aU2 ?_)
 exact rV (h:=by rw[QaE (n:=512) om];rfl)
theorem c135(w:World)(m:Nat)(hm:m<=8):CR 135 #[.int .i64 (m:Int)] w (.int .i64 ((2^m:Nat):Int)):=by
 refine eN1 Tryz.func135 Tryz.ntmps135 ?_
 refine aU7 ?_
 refine o_p (Qfp rfl rfl rfl om m (by show min _ 64=_;omega)) rfl (aU2 ?_)
 exact rV (h:=by have h9:m=0\/m=1\/m=2\/m=3\/m=4\/m=5\/m=6\/m=7\/m=8:=om;rcases h9 with rfl|rfl|rfl|rfl|rfl|rfl|rfl|rfl|rfl<;>rfl)
theorem c61(w:World)(x:Ixs)(co mo rm:Int)(ra:Option Addr)(rn rc:Nat)(i:Nat)(hl:x.al.length<=1000000000)(hb:x.n<=8*x.bm.length):CR 61 #[.agg #[.string (bs x.ro),.string (bs x.al),.string (bs x.bm),.int .i64 co,.int .i64 mo,.int .i64 rm,.slice ra rn rc],.int .i64 (i:Int)] w (.bool (Qa4 x i)):=by
 have hn9:x.n<=x.al.length:=Nat.div_le_self _ _
 refine eN2 Tryz.func61 Tryz.ntmps61 ?_
 refine aU2 ?_
 refine oBx λb1 _=>?_
 refine aU6 ?_
 refine oCq rfl (λw1 h1=>Qlh w1 x co mo rm ra rn rc hl) (oCq rfl (λw1 h1=>c87 w1 _ _ _) (aU ?_))
 refine XP 14 9 23 rfl
  (λhg2 _=>by
   refine Qln ?_
   refine aU ?_
   refine o_p (XC rfl rfl rfl om om om) rfl (aU ?_)
   refine o_p (Xk rfl rfl rfl Tryz.underlying9 ((i-1)/8) om om) rfl ?_
   refine Qm (show _=Value.int .u8 ((ub1 x.bm ((i-1)/8):Nat):Int)from rfl) (aT4 ?_)
   refine aU ?_
   refine o_p (YE rfl rfl rfl om om) rfl (aU ?_)
   refine o_p (Qey rfl rfl rfl om ((i-1)%8) (by show min _ 8=_;omega)) rfl (aU4 ?_)
   exact oJt 14 23)
  (λhg4 _=>by
   refine QaU ?_
   exact oJf 14 23) ?_
 refine aU2 ?_
 exact rV (h:=by simp only[QX,Qa4];rw[Qgk];congr 3;rw[<-Bool.decide_and];exact decide_eq_decide.2 om)
instance:TFn Tryz.prog 135:=⟨by kernel_rfl⟩
theorem QuP(i:Nat):1<=2^(i%8)/\2^(i%8)<=128:=by
  have h:i%8=0\/i%8=1\/i%8=2\/i%8=3\/i%8=4\/i%8=5\/i%8=6\/i%8=7:=om
  rcases h with h|h|h|h|h|h|h|h<;>rw[h]<;>decide
theorem c67(w:World)(x:Ixs)(i:Nat)(hi:1<=i/\i<=1000000)(hb:x.bm.length<=1000000):CR 67 #[.agg #[.string (bs x.ro),.string (bs x.al),.string (bs x.bm)],.int .i64 (i:Int)] w (.bool (ZW x.bm (i-1))):=by
 have hpw:=QuP (i-1)
 have hbl:=Yj x.bm ((i-1)/8)
 have hdv:ub1 x.bm ((i-1)/8)/2^((i-1)%8)<=ub1 x.bm ((i-1)/8):=Nat.div_le_self _ _
 refine eN2 Tryz.func67 Tryz.ntmps67 ?_
 refine aU2 ?_
 refine oBx λb1 _=>?_
 refine aT6 ?_
 refine Qm (show _=Value.int .i64 ((i-1:Nat):Int)from congrArg (Value.int .i64) om) (aU5 ?_)
 refine o_p (XC rfl rfl rfl om om om) rfl (Qm (show _=Value.int .i64 (((i-1)/8:Nat):Int)from congrArg (Value.int .i64) om) (aU2 ?_))
 refine o_p (Qg rfl rfl Tryz.underlying9) rfl (aU2 ?_)
 refine XP 12 14 26 rfl
  (λhg2 _=>by
   refine aU7 ?_
   refine o_p (XC rfl rfl rfl om om om) rfl (Qm (show _=Value.int .i64 (((i-1)/8:Nat):Int)from congrArg (Value.int .i64) om) (aU ?_))
   refine oCq rfl (λw1 h1=>by have h9:=c72 w1 x.bm ((i-1)/8) 1 om om om;rw[QdP,Qko]at h9;exact h9) (aU3 ?_)
   refine o_p (YE rfl rfl rfl om om) rfl (Qm (show _=Value.int .i64 (((i-1)%8:Nat):Int)from congrArg (Value.int .i64) om) (aU ?_))
   refine oCq rfl (λw1 h1=>c135 w1 ((i-1)%8) om) (aU ?_)
   refine o_p (XC rfl rfl rfl om om om) rfl (Qm (show _=Value.int .i64 ((ub1 x.bm ((i-1)/8)/2^((i-1)%8):Nat):Int)from congrArg (Value.int .i64) (Int.natCast_ediv _ _).symm) (aU ?_))
   refine o_p (QmN rfl rfl rfl (by decide)) rfl (aU2 ?_)
   exact oJt 12 26)
  (λhg4 _=>by
   refine QbK ?_
   exact oJf 12 26) ?_
 refine aU2 ?_
 exact rV (h:=by simp only[QX];congr 2;by_cases hq9:(i-1)/8<x.bm.length;rw[show decide ((((i-1)/8:Nat):Int)<(x.bm.length:Int))=true from decide_eq_true om,Bool.true_and,<-Qso];rfl;rw[show decide ((((i-1)/8:Nat):Int)<(x.bm.length:Int))=false from decide_eq_false om,Bool.false_and,QpE om])
end Go.Proofs
namespace Gx
open Go Go.RowKit
section
variable{x:Ixs}
theorem Qjq(h:¬(x.al.length<=61440/\x.ro.length<=200000)):ixE x=8:=by unfold ixE;rw[if_neg h]
theorem QjT(h:x.al.length<=61440/\x.ro.length<=200000)(h2:¬(x.al.length%512=0/\x.bm.length=QH ((x.n+7)/8))):ixE x=10:=by unfold ixE;rw[if_pos h,if_neg h2]
theorem Qmv(h:x.al.length<=61440/\x.ro.length<=200000)(h2:x.al.length%512=0/\x.bm.length=QH ((x.n+7)/8))(h3:¬(Qd x.ro).2=0):ixE x=(Qd x.ro).2:=by unfold ixE;rw[if_pos h,if_pos h2,if_neg h3]
theorem Ql8(h:x.al.length<=61440/\x.ro.length<=200000)(h2:x.al.length%512=0/\x.bm.length=QH ((x.n+7)/8))(h3:(Qd x.ro).2=0)(h4:Qdy x=true):ixE x=3:=by unfold ixE;rw[if_pos h,if_pos h2,if_pos h3,if_pos h4]
theorem QmI(h:x.al.length<=61440/\x.ro.length<=200000)(h2:x.al.length%512=0/\x.bm.length=QH ((x.n+7)/8))(h3:(Qd x.ro).2=0)(h4:Qdy x=false):ixE x=if x.n=0\/ZW x.bm (x.n-1)=true then 0 else 3:=by grind[ixE]
theorem Qk7{j:Nat}(h:x.n<=j)(h2:j<8*x.bm.length)(h3:ZW x.bm j=true):Qdy x=true:=by grind[Qdy]
theorem Qnr(h:∀j,x.n<=j->j<8*x.bm.length->ZW x.bm j=false):Qdy x=false:=by grind[Qdy]
end
end Gx
namespace Go.Proofs
open Go Go.RowKit Gx
attribute [local irreducible] Go.Calls Gx.S Gx.O Gx.D Gx.OpP Gx.OpQ Gx.OpH
set_option maxRecDepth 20000
instance:TFd Tryz.prog 23 0 0 9:=⟨by kernel_rfl⟩
theorem Qun:QK Tryz.prog 66=true:=by kernel_rfl
instance:TFn Tryz.prog 66:=⟨Qun⟩
instance:TFn Tryz.prog 67:=⟨by kernel_rfl⟩
theorem c49(w:World)(x:Ixs)(hl:x.al.length<=900000)(hr:x.ro.length<=1000000)(hb:x.bm.length<=100000):CR 49 #[.agg #[.string (bs x.ro),.string (bs x.al),.string (bs x.bm)]] w (.int .i64 (ixE x)):=by
 have hn9:x.n<=x.al.length:=Nat.div_le_self _ _
 refine eN1 Tryz.func49 Tryz.ntmps49 ?_
 refine aU2 ?_
 refine oBx λb1 _=>?_
 refine aU7 ?_
 refine o_p (Qg rfl rfl Tryz.underlying9) rfl (aU2 ?_)
 refine oOr 5 11 16 rfl
  (λhg2 _=>by
   refine aU5 ?_
   refine o_p (Qg rfl rfl Tryz.underlying9) rfl (aU2 ?_)
   exact oJf 5 16)
  (λhg4 _=>by
   refine aU4 ?_
   exact oJt 5 16) ?_
 refine aU ?_
 refine sCd rfl (λh6=>?_) λh6=>?_
 ·have hE:=Qjq (x:=x) (by have hq:=h6;omega)
  refine aU4 ?_
  exact rV (h:=by rw[hE];rfl)
 have hA:x.al.length<=61440/\x.ro.length<=200000:=by have hq:=h6;omega
 refine aU3 ?_
 refine ZR (α:=Bool) [17,18,19,20,21,22,23,24,25,26,27,28,29,30,31] (λb=>[(31,.bool b)]) (λb=>(b=true->¬(x.al.length%512=0/\x.bm.length=QH ((x.n+7)/8)))/\(b=false->x.al.length%512=0/\x.bm.length=QH ((x.n+7)/8))) ?_ ?_
 ·skip
  refine Qz [] QJ ?_
  refine dFa 0 ?_
  refine dLd 1 [] ?_
  refine dV 2 rfl (Qg rfl rfl Tryz.underlying9) (dV 3 rfl (YE rfl rfl rfl om om) (dP 4 ?_))
  refine dP 5 ?_
  apply Xy 22
  ·exact rfl
  ·intro hg7
   have hs8:=hg7;try simp only[Bool.not_eq_true',decide_eq_false_iff_not]at hs8
   refine dOf 6 22 hg7 ?_
   refine dOf 7 22 hg7 ?_
   refine dOf 8 22 hg7 ?_
   refine dOf 9 22 hg7 ?_
   refine dOf 10 22 hg7 ?_
   refine dOf 11 22 hg7 ?_
   refine dOf 12 22 hg7 ?_
   refine dOf 13 22 hg7 ?_
   refine dV 14 rfl (Xv rfl rfl hg7 rfl) (dNi ?_)
   exact Qo true ⟨λ_ h9=>by grind,λh9=>by cases h9⟩ aSx (λw h=>h.ent aEt)
  intro hg9
  have hs10:=hg9;try simp only[Bool.not_eq_false',decide_eq_true_eq]at hs10
  refine dFo 6 22 hg9 ?_
  refine dQo 7 22 [] hg9 rfl rfl rfl (Yo rfl rfl Zu aPk rfl) ?_
  refine dVo 8 22 hg9 rfl rfl rfl (Qg rfl rfl Tryz.underlying9) ?_
  refine dQo 9 22 [] hg9 rfl rfl rfl (Zy rfl rfl Qhd aPk rfl) ?_
  refine dQo 10 22 [] hg9 rfl rfl rfl (Qr rfl Qun rfl (λw1 h1=>c66 w1 x om)) ?_
  refine dQo 11 22 [] hg9 rfl rfl rfl (Qr rfl Qo8 rfl (λw1 h1=>c121 w1 (x.n:Int) om)) ?_
  refine QC (show _=Value.int .i64 (((x.n+7)/8:Nat):Int)from congrArg (Value.int .i64) om) (dQo 12 22 [] hg9 rfl rfl rfl (Qr rfl Qnm rfl (λw1 h1=>c95 w1 ((x.n+7)/8) om)) ?_)
  refine dPo 13 22 hg9 ?_
  refine dV 14 rfl (Q8 rfl rfl hg9 rfl) (dNi ?_)
  exact Qo (!decide ((x.bm.length:Int)=((QH ((x.n+7)/8):Nat):Int))) ⟨λh8 h9=>by grind,λh8=>by grind⟩ aSx (λw h=>h.ent aEt)
 intro b9 hb9
 refine sCd rfl (λh11=>?_) λh11=>?_
 ·have hE:=QjT hA (hb9.1 h11)
  refine aU4 ?_
  exact rV (h:=by rw[hE];rfl)
 have hB:=hb9.2 h11
 refine aU6 ?_
 refine oCh rfl (λw1 h1=>c31 w1 x.ro hr) (λ⟨⟨ra,rc⟩,RL⟩hRL=>aU3 ?_)
 refine oAl (λb12 _=>?_) XN
 refine aU8 ?_
 refine sCd rfl (λh13=>?_) λh13=>?_
 ·have hE:=Qmv hA hB h13
  refine aU5 ?_
  exact rV (h:=by rw[hE];rfl)
 have hC:(Qd x.ro).2=0:=h13
 refine aU5 ?_
 refine oCq rfl (λw1 h1=>c66 w1 x om) (aT ?_)
 refine aU3 ?_
 refine Qj (L':=[(1,_),(2,_),(5,_)]) aSx (λ_ h=>h) ?_
 refine Qt (α:=Nat) [2,5,44,45,46,47,48,49,50,51,52,53,54] (λi=>[(5,.int .i64 ((i:Int)+1))]) (λ_=>HS w [] [.blk b1 23 3 [.string (bs x.ro),.string (bs x.al),.string (bs x.bm)]]) (λi=>x.n<=i/\i<=x.n+8*x.bm.length/\∀j,x.n<=j->j<i->ZW x.bm j=false) (λi=>8*x.bm.length-i) x.n ⟨Nat.le_refl _,om,λj h1 h2=>om⟩ aSx (λw h=>h.ent aEt) (λi hii=>?_)
 obtain⟨hi1,hi2,hi3⟩:=hii
 refine aU6 ?_
 refine o_p (Qg rfl rfl Tryz.underlying9) rfl (aT ?_)
 refine aU2 ?_
 refine sCd rfl (λh14=>?_) λh14=>?_
 ·have hi:i+1<=8*x.bm.length:=by have hq:=h14;omega
  refine aU7 ?_
  refine oCq rfl (λw1 h1=>c67 w1 x (i+1) om om) (aU ?_)
  refine sCd rfl (λh15=>?_) λh15=>?_
  ·have hE:=Ql8 hA hB hC (Qk7 hi1 om (by have hq:=h15;exact hq))
   refine aU4 ?_
   exact rV (h:=by rw[hE];rfl)
  have hZ:ZW x.bm i=false:=by have hq:=h15;simpa using hq
  refine aT5 ?_
  refine aU2 ?_
  exact sBk (i+1) om ⟨om,om,λj h1 h2=>(Nat.lt_or_ge j i).elim (hi3 j h1) (λh=>by obtain rfl:j=i:=om;exact hZ)⟩
 have hi:8*x.bm.length<=i:=by have hq:=h14;omega
 have hO:=Qnr (x:=x) (λj h1 h2=>hi3 j h1 om)
 have hE:=QmI hA hB hC hO
 refine Qh rfl ?_
 refine aU4 ?_
 refine oCq rfl (λw1 h1=>c66 w1 x om) (aU7 ?_)
 refine XP 5 59 64 rfl
  (λhg16 _=>by
   refine aU5 ?_
   refine oCq rfl (λw1 h1=>c67 w1 x x.n om om) (aU2 ?_)
   exact oJt 5 64)
  (λhg18 _=>by
   refine aU4 ?_
   exact oJf 5 64) ?_
 refine aU ?_
 refine sCd rfl (λh20=>?_) λh20=>?_
 ·have hE2:ixE x=3:=by rw[hE,if_neg];have hq:=h20;intro h9;rcases h9 with h9|h9;omega;rw[h9]at hq;simp at hq
  refine aU4 ?_
  exact rV (h:=by rw[hE2];rfl)
 have hE2:ixE x=0:=by rw[hE,if_pos];have hq:=h20;by_cases h9:x.n=0;exact .inl h9;exact .inr (by simp at hq;grind)
 refine aU5 ?_
 exact rV (h:=by rw[hE2];rfl)
end Go.Proofs
namespace Gx
open Go Go.RowKit
def bmO(ns:List Nd)(g:Nat):List UInt8:=(List.range g).map λj=>by8 ((Z8 ns j 8:Nat):Int)
theorem QkE(ns:List Nd)(g:Nat):bmO ns (g+1)=bmO ns g++[by8 ((Z8 ns g 8:Nat):Int)]:=by
 unfold bmO;rw[List.range_succ,List.map_append];rfl
theorem Qsk(ns:List Nd)(g:Nat):(bmO ns g).length=g:=by simp[bmO]
theorem QeP{ns:List Nd}{g i:Nat}(h:ns.length<=8*g+i+1):∀j,Z8 ns g (i+j)=Z8 ns g i
 | 0=>rfl
 | j+1=>by
  rw[<-Nat.add_assoc,Z8,QeP h j,if_neg om];rfl
theorem QqJ{ns:List Nd}{g:Nat}(h:ns.length<=8*g+1):Z8 ns g 8=0:=by
 have:=QeP (ns:=ns) (g:=g) (i:=0) om 8
 rwa[Nat.zero_add]at this
theorem Qth{ns:List Nd}{r:Nat}(h:r=(ns.length-1+7)/8):bmO ns r++List.replicate (QH r-r) 0=bmB ns:=by
 subst h;have hp:=XT ((ns.length-1+7)/8)
 have hz:∀k,bmO ns ((ns.length-1+7)/8+k)=bmO ns ((ns.length-1+7)/8)++List.replicate k 0:=by
  intro k
  induction k with
  | zero=>simp
  | succ k ih=>
   rw[<-Nat.add_assoc,QkE,ih,QqJ om,List.append_assoc];congr 1;exact(List.replicate_succ' ..).symm
 have h9:=hz (QH ((ns.length-1+7)/8)-(ns.length-1+7)/8);rw[<-h9,show(ns.length-1+7)/8+(QH ((ns.length-1+7)/8)-(ns.length-1+7)/8)=YT ns by unfold YT;omega];rfl
def Zi(ns:List Nd)(K g:Nat):Nat->Nat
 | 0=>0
 | i+1=>Zi ns K g i+(if(nth ns (8*g+i+1)).us=true/\8*g+i+1<K then 2^i else 0)
theorem QmY(ns:List Nd)(K g:Nat):∀i,Zi ns K g i<2^i
 | 0=>by simp[Zi]
 | i+1=>by
  have:=QmY ns K g i
  grind[Zi]
theorem Qsf(ns:List Nd)(g:Nat):∀i,Zi ns 1 g i=0
 | 0=>rfl
 | i+1=>by rw[Zi,Qsf ns g i,if_neg om]
theorem QmE{ns:List Nd}{k g:Nat}(h:(nth ns (k+1)).us=false):∀i,Zi ns (k+2) g i=Zi ns (k+1) g i
 | 0=>rfl
 | i+1=>by
  rw[Zi,Zi,QmE h i]
  grind
theorem QmU{ns:List Nd}{k g:Nat}(hg:g≠k/8):∀i,i<=8->Zi ns (k+2) g i=Zi ns (k+1) g i
 | 0,_=>rfl
 | i+1,hi=>by
  rw[Zi,Zi,QmU hg i om]
  grind
theorem QjR{ns:List Nd}{k:Nat}(h:(nth ns (k+1)).us=true):∀i,i<=8->Zi ns (k+2) (k/8) i=Zi ns (k+1) (k/8) i+(if k%8<i then 2^(k%8)else 0)
 | 0,_=>rfl
 | i+1,hi=>by
  have e1:(if(nth ns (8*(k/8)+i+1)).us=true/\8*(k/8)+i+1<k+2 then 2^i else 0)=(if(nth ns (8*(k/8)+i+1)).us=true/\8*(k/8)+i+1<k+1 then 2^i else 0)+(if i=k%8 then 2^(k%8)else 0):=by grind
  have e2:(if k%8<i+1 then 2^(k%8)else 0)=(if k%8<i then 2^(k%8)else 0)+(if i=k%8 then 2^(k%8)else 0):=by grind
  rw[Zi,Zi,QjR h i om,e1,e2]
  ac_rfl
theorem QjH(ns:List Nd)(k:Nat):∀j,Zi ns (k+1) (k/8) (k%8+j)<2^(k%8)
 | 0=>QmY ns (k+1) (k/8) (k%8)
 | j+1=>by
  rw[<-Nat.add_assoc,Zi,if_neg om];exact QjH ns k j
theorem Qwi:∀m<8,∀n<2^m,bits .or .u8 ((n:Nat):Int) (IntKind.u8.wrap (1*2^m))=((n+2^m:Nat):Int):=by decide +kernel
def bmW(ns:List Nd)(r K:Nat):List UInt8:=(List.range r).map λg=>by8 ((Zi ns K g 8:Nat):Int)
theorem QfN(ns:List Nd)(r K:Nat):(bmW ns r K).length=r:=by simp[bmW]
theorem QwA(ns:List Nd)(r:Nat):bmW ns r 1=List.replicate r 0:=by
 unfold bmW;rw[List.eq_replicate_iff];refine⟨by simp,λb hb=>?_⟩;obtain⟨g,_,rfl⟩:=List.mem_map.1 hb;rw[Qsf]
 try rfl
theorem Qtb{ns:List Nd}:bmW ns (YT ns) ns.length=bmB ns:=by
 unfold bmW bmB;congr 1
theorem Qvb{ns:List Nd}{r k:Nat}(h:(nth ns (k+1)).us=false):bmW ns r (k+2)=bmW ns r (k+1):=by grind[bmW,QmE]
theorem QmH{ns:List Nd}{r K g:Nat}(h:g<r):(bmW ns r K)[g]?=some (by8 ((Zi ns K g 8:Nat):Int)):=by grind[bmW]
theorem QsT{ns:List Nd}{r k:Nat}(h:(nth ns (k+1)).us=true)(hk:k/8<r):bmW ns r (k+2)=(bmW ns r (k+1)).set (k/8) (by8 ((Zi ns (k+1) (k/8) 8+2^(k%8):Nat):Int)):=by
 apply List.ext_getElem?
 grind[QfN,QmH,QjR,QmU]
end Gx
namespace Go.Proofs
open Go Go.RowKit Gx
attribute [local irreducible] Go.Calls Gx.S Gx.O Gx.D Gx.OpP Gx.OpQ Gx.OpH
set_option maxRecDepth 20000
theorem c85(w:World)(co mo rm:Int)(a:Option Addr)(cap:Nat)(L:List LNd)(hs:Nt w [] a L)(hl:L.length<=1000):CR 85 #[.agg #[.int .i64 co,.int .i64 mo,.int .i64 rm,.slice a L.length cap]] w (.string (bs (bmB (pln L)))):=by
 refine eN1 Tryz.func85 Tryz.ntmps85 ?_
 refine aU2 ?_
 refine oBx λb1 _=>?_
 refine Qay ?_
 refine Qt (α:=Nat) [3,4,5,6,7,8,9,10,11,12,13,14,15,16,17,18,19,20,21,22,23,24,25,26,27,28,29,30,31,32,33,34,35,36,37,38,39,40,41,42,43,44] (λg=>[(4,.int .i64 (8*(g:Int)+1)),(3,.string (bs (bmO (pln L) g)))]) (λ_=>HS w [] [.blk b1 37 4 [.int .i64 co,.int .i64 mo,.int .i64 rm,.slice a L.length cap]]) (λg=>g<=((L.length-1+7)/8)) (λg=>L.length-8*g) 0 (Nat.zero_le _) aSx (λw h=>h.ent aEt) (λg hg=>?_)
 have hol:=Qsk (pln L) g
 refine aU9 ?_
 refine sCd rfl (λh2=>?_) λh2=>?_
 ·have hk:8*g+1<L.length:=by have hq:=h2;omega
  refine QaU ?_
  refine Qt (α:=Nat) [5,6,14,15,16,17,18,19,20,21,22,23,24,25,26,27,28,29,30,31,32,33,34,35,36,37,38,39,40] (λi=>[(6,.int .i64 (i:Int)),(5,.int .i64 ((Z8 (pln L) g i:Nat):Int))]) (λ_=>HS w [] [.blk b1 37 4 [.int .i64 co,.int .i64 mo,.int .i64 rm,.slice a L.length cap]]) (λi=>i<=8) (λi=>8-i) 0 (Nat.zero_le _) aSx (λw h=>h.ent aEt) (λi hi8=>?_)
  have hbl:=QfI (pln L) g i
  refine aU6 ?_
  refine XP 8 16 24 rfl
   (λhg3 _=>by
    refine aT6 ?_
    refine aU8 ?_
    exact oJt 8 24)
   (λhg5 _=>by
    refine aU7 ?_
    exact oJf 8 24) ?_
  refine aU ?_
  refine sCd rfl (λh7=>?_) λh7=>?_
  ·have hi7:i<8/\8*g+i+1<L.length:=by have hq:=h7;omega
   have hpw:2^i<=2^7:=Nat.pow_le_pow_right (by decide) om
   have hst:Z8 (pln L) g (i+1)=Z8 (pln L) g i+cond (nth L (8*g+i+1)).us (2^i) 0:=by(rw[Z8];congr 1;rw[Qu,Qe];cases hu:(nth L (8*g+i+1)).us;rw[if_neg (λh9=>absurd (show false=true from hu▸h9.1) Bool.false_ne_true)];rfl;rw[if_pos ⟨hu,hi7.2⟩];rfl)
   refine Qln ?_
   refine o_p (Qa rfl rfl rfl QT (8*g+i+1) om om (Rw.some hs.1 om)) rfl (aU ?_)
   refine o_q (Qb rfl rfl QdH ((hs.1.rdj (i:=(8*g+i+1)) 0 om rfl))) rfl (oCq rfl (λw1 h1=>QsW w1 (nth L (8*g+i+1)).us) (aU ?_))
   refine oCq rfl (λw1 h1=>c135 w1 i om) (aT ?_)
   refine Qm (show _=Value.int .i64 ((cond (nth L (8*g+i+1)).us (2^i) 0:Nat):Int)from by(cases(nth L (8*g+i+1)).us<;>simp only[Bool.false_eq_true,if_false,if_true,cond,Int.zero_mul,Int.one_mul]<;>first|rfl|exact QeY om om)) ?_
   have hcb:cond (nth L (8*g+i+1)).us (2^i) 0<=128:=by cases(nth L (8*g+i+1)).us;exact Nat.zero_le _;exact hpw
   refine aT ?_
   refine Qm (show _=Value.int .i64 ((Z8 (pln L) g (i+1):Nat):Int)from congrArg (Value.int .i64) (by rw[hst];rfl)) (aU3 ?_)
   refine Qj (L':=[(0,_),(1,_),(2,_),(3,_),(4,_),(5,_),(6,_),(7,_),(8,_),(9,_),(10,_),(11,_)]) aSx (λ_ h=>h) ?_
   refine aT3 ?_
   refine aU2 ?_
   exact sBk (i+1)
  have hb8:Z8 (pln L) g 8=Z8 (pln L) g i:=by(by_cases h8:i=8;rw[h8];have h9:=QeP (ns:=(pln L)) (g:=g) (i:=i) (by rw[Qe];have hq:=h7;omega) (8-i);rwa[show i+(8-i)=8 by omega]at h9)
  refine Qh rfl ?_
  refine aU3 ?_
  refine oCq rfl (λw1 h1=>by have h9:=c94 w1 ((Z8 (pln L) g i:Nat):Int) 1 (by have:=Nat.pow_le_pow_right (n:=2) (by decide) hi8;omega) om;rw[QlA]at h9;exact h9) (o_p (QF rfl rfl rfl (by(try simp only[List.length_append,List.length_cons,List.length_nil,List.length_replicate,List.length_take,List.length_drop]);omega)) rfl (aT6 ?_))
  refine Qm (show _=Value.int .i64 (8*((g+1:Nat):Int)+1)from congrArg (Value.int .i64) om) (aU2 ?_)
  exact sBk (g+1) om om (by rw[QkE,hb8];exact aSx)
 have hk:g=((L.length-1+7)/8):=by have hq:=h2;omega
 subst hk
 have hend:=Qth (ns:=(pln L)) (r:=((L.length-1+7)/8)) (by rw[Qe])
 have hp8:=XT ((L.length-1+7)/8)
 refine Qh rfl ?_
 refine aU4 ?_
 refine o_p (Qg rfl rfl Tryz.underlying9) rfl (oCq rfl (λw1 h1=>by have h9:=c95 w1 (bmO (pln L) ((L.length-1+7)/8)).length om;rw[hol]at h9;rw[hol];exact h9) (aU ?_))
 refine o_p (Qg rfl rfl Tryz.underlying9) rfl (aT ?_)
 refine Qm (show _=Value.int .i64 ((QH ((L.length-1+7)/8)-((L.length-1+7)/8):Nat):Int)from congrArg (Value.int .i64) (by rw[hol];omega)) (oCq rfl (λw1 h1=>c86 w1 (QH ((L.length-1+7)/8)-((L.length-1+7)/8)) om) (o_p (QF rfl rfl rfl (by(try simp only[List.length_append,List.length_cons,List.length_nil,List.length_replicate,List.length_take,List.length_drop]);omega)) rfl (aU2 ?_)))
 exact rV (h:=by rw[<-hend];rfl)
theorem Qut{w0 w:World}{M:List Nat}{As As':List HA}{a:Option Addr}{n cap t sz:Nat}{xs:List Value}(h:HS w0 M As w)(hp:QP As (.own (.slice a n cap) t sz n xs) As')(hn:0<n):∃gg,a=some ⟨gg,0,none⟩/\n<=cap/\cap<=maxLen:=by
  obtain⟨gg,e,_,h1,h2,_⟩:=h.own_blk hn hp;exact⟨gg,e,h1,h2⟩
theorem QuT{w0 w:World}{M:List Nat}{As As':List HA}{gg n cap t sz:Nat}{xs:List Value}(h:HS w0 M As w)(hp:QP As (.own (.slice (some ⟨gg,0,none⟩) n cap) t sz n xs) As')(hn:0<n):HS w0 M (.blk gg t (cap*sz) xs::As') w:=by
  obtain⟨g',e,_,_,_,_,h1⟩:=h.own_blk hn hp;injection e with e
  injection e with e
  subst e;exact h1
theorem QhG{α:Type}[Inhabited α](l:List α)(k:Nat):nth (l.drop 1) k=nth l (k+1):=by
  unfold nth;rw[List.getD_eq_getElem?_getD,List.getD_eq_getElem?_getD,List.getElem?_drop,Nat.add_comm]
theorem Qh0{n:Nat}(h:n<256):bv (by8 ((n:Nat):Int))=.int .u8 ((n:Nat):Int):=by
  unfold bv;rw[QI];congr 1;omega
theorem c145(w:World)(a:Option Addr)(cap:Nat)(L:List LNd)(hs:Rw LNd.vals 3 w [] a L)(h0:0<L.length)(hl:L.length<=1000)(hcap:L.length<=cap)(hc9:cap<=maxLen):CR 145 #[.slice a L.length cap] w (.string (bs (bmB (pln L)))):=by
 have hs2:=hs.cut (i:=1) hcap
 obtain⟨a2,ha2⟩:∃z,z=XU a cap 1 3:=⟨_,rfl⟩
 rw[<-ha2]at hs2
 have hdl:(L.drop 1).length=L.length-1:=List.length_drop
 have hp8:=XT ((L.length-1+7)/8)
 have hbm:(YT (pln L))=QH ((L.length-1+7)/8):=by unfold YT;rw[Qe]
 have hz9:(List.replicate ((L.length-1+7)/8) (0:UInt8))++List.replicate (QH (List.replicate ((L.length-1+7)/8) (0:UInt8)).length-(List.replicate ((L.length-1+7)/8) (0:UInt8)).length) 0=bmW (pln L) (YT (pln L)) 1:=by rw[QwA,List.length_replicate,List.replicate_append_replicate,hbm];congr 1;omega
 refine eN1 Tryz.func145 Tryz.ntmps145 ?_
 refine aT9 ?_
 refine aT6 ?_
 refine aT ?_
 refine o_p (XC rfl rfl rfl om om om) rfl (Qm (show _=Value.int .i64 ((((L.length-1+7)/8):Nat):Int)from congrArg (Value.int .i64) om) (o_h (QeN (n:=((L.length-1+7)/8)) rfl rfl rfl QB Z5 om om) rfl (λb1 _=>XB (C':=HS w [] [.byz (some ⟨b1,0,none⟩) ((L.length-1+7)/8) ((List.replicate ((L.length-1+7)/8) (0:UInt8)))]) (λw9 h=>by have h9:=h.ent (Bs:=[.blk b1 u8T (((L.length-1+7)/8)*1) (XJ [.int .u8 0] (((L.length-1+7)/8)*1))]) aEt;rw[QeC,Nat.mul_one]at h9;exact HS.byz_blk (l:=(List.replicate ((L.length-1+7)/8) (0:UInt8))) (cap:=((L.length-1+7)/8)) .here h9 (by rw[List.length_replicate];exact Nat.le_refl _) (by simp only[maxLen];omega) (by rw[Qe8,List.length_replicate,Nat.sub_self,List.replicate_zero,List.append_nil])) (Qm (show _=Value.slice (some ⟨b1,0,none⟩) (List.replicate ((L.length-1+7)/8) (0:UInt8)).length ((L.length-1+7)/8)from by rw[List.length_replicate]) (o_h (Q1 (Cs:=[.byz (some ⟨b1,0,none⟩) ((L.length-1+7)/8) ((List.replicate ((L.length-1+7)/8) (0:UInt8)))]) rfl Qpu rfl aPs (λw1 h1 hf=>c154 w1 (some ⟨b1,0,none⟩) ((L.length-1+7)/8) (List.replicate ((L.length-1+7)/8) (0:UInt8)) hf (by rw[List.length_replicate];omega))) rfl (λ⟨b2,c3⟩hz4=>?_))))))
 rw[hz9]
 refine XB (λw9 h=>h.byz_own .here) ?_
 rw[QfN]
 refine aU6 ?_
 refine o_p (QA _ _ 1 L.length rfl rfl QT ⟨_,_,rfl,rfl⟩ rfl om om) rfl (Qm (show _=Value.slice a2 (L.length-1) (cap-1)from by rw[ha2]) (aU4 ?_))
 refine Qj (L':=[(2,_),(4,_),(17,_),(18,_),(19,_)]) aSx (λ_ h=>h) ?_
 refine Qt (α:=Nat) [5,6,19,20,21,22,23,24,25,26,27,28,29,30,31,32,33,34,35,36] (λk=>[(19,.int .i64 (k:Int))]) (λk=>HS w [] [.own (.slice b2 (YT (pln L)) c3) u8T 1 (YT (pln L)) ((bmW (pln L) (YT (pln L)) (k+1)).map bv)]) (λk=>k<=L.length-1) (λk=>L.length-1-k) 0 (Nat.zero_le _) aSx (λw h=>h.ent aEt) (λk hk1=>?_)
 refine aU5 ?_
 refine sCd rfl (λh5=>?_) λh5=>?_
 ·have hk:k<L.length-1:=by have hq:=h5;omega
  have hbwl:=QfN (pln L) (YT (pln L)) (k+1)
  have hpw:2^(k%8)<=2^7:=Nat.pow_le_pow_right (by decide) om
  have hlow:(Zi (pln L) (k+1) (k/8) 8)<2^(k%8):=by have h9:=QjH (pln L) k (8-k%8);rwa[show k%8+(8-k%8)=8 by omega]at h9
  refine aU6 ?_
  refine o_p (Qa rfl rfl rfl QT (k) om om (Rw.some hs2 om)) rfl (o_q (Qs _ rfl rfl Xo rfl (Rw.rd hs2 om)) rfl (oAl (λb6 _=>?_) Xr))
  refine aU8 ?_
  refine sCd rfl (λh7=>?_) λh7=>?_
  ·have hus:(nth (pln L) (k+1)).us=true:=by rw[Qu,<-QhG];exact h7
   refine Qjd (λw9 h=>Qut (a:=b2) (n:=(YT (pln L))) (cap:=c3) h aPk om) λhB9=>?_
   obtain⟨gg,rfl,hc1,hc2⟩:=hB9
   refine QiH (λw9 h=>QuT (gg:=gg) (n:=(YT (pln L))) (cap:=c3) h aPk om) (Qz [10] QJ ?_)
   refine dP 0 ?_
   refine dP 1 ?_
   refine dV 2 rfl (XC rfl rfl rfl om om om) (dV 3 rfl (Qa rfl rfl rfl QB (k/8) om om rfl) (dQ 4 [[]] rfl (XY rfl rfl Qen (λw9 h=>by rw[Nat.zero_add];exact h.rd_blk (Mc:=[]) aPk (by rw[Nat.mul_one,List.getElem?_map,QmH om];rfl) (by simp))) ?_))
   refine QC (show _=Value.int .u8 (((Zi (pln L) (k+1) (k/8) 8):Nat):Int)from Qh0 (n:=(Zi (pln L) (k+1) (k/8) 8)) om) (dP 5 ?_)
   refine dV 6 rfl (YE rfl rfl rfl om om) (dV 7 rfl (Qfp rfl rfl rfl om (k%8) (by show min _ 8=_;omega)) (dP 8 ?_))
   refine QC (show _=bv (by8 (((Zi (pln L) (k+1) (k/8) 8)+2^(k%8):Nat):Int))from by rw[Qwi (k%8) (Nat.mod_lt _ (by decide)) (Zi (pln L) (k+1) (k/8) 8) hlow,Qh0 om]) (dV 9 rfl (Qa rfl rfl rfl QB (k/8) om om rfl) (dSt 10 ?_ (hl:=(by simp only[Qf,List.length_set,List.length_cons,List.length_nil,List.length_map];omega))))
   refine dTu [] ?_
   refine dNi ?_
   refine aT3 ?_
   refine aU2 ?_
   exact QO (k+1) om om aSx (λw h=>by have hx:(bmW (pln L) (YT (pln L)) (k+2)).map bv=(((bmW (pln L) (YT (pln L)) (k+1)).map bv).set (0+k/8*1) (bv (by8 ((Zi (pln L) (k+1) (k/8) 8+2^(k%8):Nat):Int)))):=(by rw[Nat.zero_add,Nat.mul_one,QsT hus om,List.map_set]);have h8:=HS.own_shut (g:=gg) (cap:=c3) (n:=(YT (pln L))) (sz:=1) (t:=u8T) (xs:=(((bmW (pln L) (YT (pln L)) (k+1)).map bv).set (0+k/8*1) (bv (by8 ((Zi (pln L) (k+1) (k/8) 8+2^(k%8):Nat):Int))))) (As:=[]) (h.ent aEt) (by rw[List.length_set,List.length_map,QfN,Nat.mul_one]) om om;rw[<-hx]at h8;exact h8.ent aEt)
  have hus:(nth (pln L) (k+1)).us=false:=by rw[Qu,<-QhG];have hq:=h7;first|exact hq|exact Bool.eq_false_iff.2 hq|(simp only[Bool.not_eq_true]at hq;exact hq)
  refine aT4 ?_
  refine aU2 ?_
  exact QO (k+1) om om aSx (λw h=>by rw[Qvb hus];exact h.ent aEt)
 obtain rfl:k=L.length-1:=by have hq:=h5;omega
 have hend:bmW (pln L) (YT (pln L)) (L.length-1+1)=bmB (pln L):=by rw[show L.length-1+1=(pln L).length by rw[Qe];omega];exact Qtb
 refine Qh rfl ?_
 refine aU3 ?_
 refine o_q (Qaa rfl rfl Tryz.underlying139 Tryz.underlying9 Tryz.underlying5 aPk (Zp _)) rfl (aU2 ?_)
 exact rV (h:=by rw[YG,hend];rfl)
theorem Qag:QS Tryz.prog 23=some [.string (bs []),.string (bs []),.string (bs [])]:=by kernel_rfl
theorem QwN:QK Tryz.prog 85=true:=by kernel_rfl
theorem Qne:Y2 Tryz.prog 23=some [(0,1),(1,1),(2,1)]:=by kernel_rfl
instance:TFn Tryz.prog 78:=⟨by kernel_rfl⟩
theorem Qvw:QK Tryz.prog 145=true:=by kernel_rfl
instance:TFn Tryz.prog 76:=⟨by kernel_rfl⟩
theorem c77(w:World)(b:Nat)(co mo rm:Int)(a:Option Addr)(cap:Nat)(L:List LNd)(k:Nat)(hb:Rd w [] b 3 (.slice a L.length cap))(hs:Nt w [] a L)(hi:Yy (⟨co,mo,rm,pln L⟩:Tre)=0)(hkk:k+1<L.length):CR 77 #[.int .i64 ((k+1:Nat):Int),.pointer (some ⟨b,0,none⟩)] w (.string (bs (Qk9 (⟨co,mo,rm,pln L⟩:Tre) (k+1)))):=by
 have hr9:=ZM hi
 have h09:0<L.length:=by have:=hr9.1;rwa[show(⟨co,mo,rm,pln L⟩:Tre).ns=pln L from rfl,Qe]at this
 have hn9:=Qam hi hr9.1 hr9.2.1
 have hp9:NdP (nth L 0).pl:=by have hq:=hn9.1.ndp (by have:=hn9.2.1;omega);rwa[show(⟨co,mo,rm,pln L⟩:Tre).ns=pln L from rfl,Qu]at hq
 have hbb:(0<=co/\co<256)/\(0<=mo/\mo<256)/\0<=rm/\rm<256:=by have h1:=hr9.2.2.1;have h2:=hr9.2.2.2.1;have h3:Qv co=0:=h1;have h4:XF mo rm=0:=h2;unfold Qv at h3;unfold XF at h4;split at h3;(split at h4;omega;cases h4);cases h3
 have hL120:L.length<=120:=by have:=hn9.2.2.2.2;rwa[show(⟨co,mo,rm,pln L⟩:Tre).ns=pln L from rfl,Qe]at this
 refine eN2 Tryz.func77 Tryz.ntmps77 ?_
 refine aU8 ?_
 refine o_q (Qb rfl rfl Y0 (hb)) rfl (aU ?_)
 refine o_p (Qa rfl rfl rfl QT ((k+1)) om om (Rw.some hs.1 om)) rfl (aU ?_)
 refine o_q (Qb rfl rfl QdH ((hs.1.rdj (i:=k+1) 0 om rfl))) rfl (aU2 ?_)
 refine sCd rfl (λh1=>?_) λh1=>?_
 ·have hu1:¬(nth (pln L) (k+1)).us=true:=by rw[Qu];have hq:=h1;first|exact hq|(intro h9;have h8:(nth L (k+1)).us=true:=h9;rw[h8]at hq;cases hq)
  have hnw:(Qk9 (⟨co,mo,rm,pln L⟩:Tre) (k+1))=Qd3:=by unfold Qk9;rw[if_neg hu1]
  have hnl:(Qk9 (⟨co,mo,rm,pln L⟩:Tre) (k+1)).length=512:=by rw[hnw];exact Qe9
  refine aU2 ?_
  refine oCq rfl (λw1 h1=>c78 w1) (aU2 ?_)
  exact rV (h:=by rw[hnw];rfl)
 have hk1:k+1<L.length:=om
 have hu1:(nth (pln L) (k+1)).us=true:=by rw[Qu];have hq:=h1;first|exact hq|simpa using hq
 have hn1:=Qam hi (i:=k+1) (by rw[show(⟨co,mo,rm,pln L⟩:Tre).ns=pln L from rfl,Qe];omega) hu1
 have hq1:NdP (nth L (k+1)).pl:=by have hq:=hn1.1.ndp (by have:=hn1.2.1;omega);rwa[show(⟨co,mo,rm,pln L⟩:Tre).ns=pln L from rfl,Qu]at hq
 have hcb1:(Q9 (nth L (k+1)).pl).length<=448:=by have hq:=hn1.2.2.1;rw[show(⟨co,mo,rm,pln L⟩:Tre).ns=pln L from rfl,Qu]at hq;omega
 have hnw:(Qk9 (⟨co,mo,rm,pln L⟩:Tre) (k+1))=ZL (nth L (k+1)).pl ((k+1:Nat):Int) 0 1:=by unfold Qk9;rw[if_pos hu1,<-Qu]
 have hnl:(Qk9 (⟨co,mo,rm,pln L⟩:Tre) (k+1)).length=512:=by rw[hnw];exact Qqj hcb1
 refine aU4 ?_
 refine o_q (Qb rfl rfl Y0 (hb)) rfl (aU ?_)
 refine o_p (Qa rfl rfl rfl QT ((k+1)) om om (Rw.some hs.1 om)) rfl (o_q (Qs _ rfl rfl Xo rfl (Rw.rd hs.1 om)) rfl (o_p (QE (cs:=[_,_,_,_,_]) rfl rfl QcK Qak rfl) rfl (aU ?_)))
 refine oCq rfl (λw1 h1=>c79 w1 (nth L (k+1)) ((k+1:Nat):Int) 0 1 ((hs.es hk1).later h1) ((hs.cs hk1).later h1) hq1 hcb1 om (by decide) (by decide)) (aU2 ?_)
 exact rV (h:=by rw[hnw];rfl)
theorem c76(w:World)(co mo rm:Int)(a:Option Addr)(cap:Nat)(L:List LNd)(q:Nat)(cv:Array Value)(blk:Nat->List UInt8)(hs:Nt w [] a L)(h0:0<L.length)(hl:L.length<=1000)(hp:NdP (nth L 0).pl)(hcap:L.length<=cap)(hc9:cap<=maxLen)(hbk:∀i,(blk i).length<=512)(hq:QK Tryz.prog q=true)(hc:∀k w1,k+1<L.length->HS w [] [] w1->Calls Tryz.prog q (#[]++[.int .i64 ((k+1:Nat):Int)].toArray++cv) w1 λen w2=>en=.returned (.string (bs (blk (k+1))))/\Below w1.heap.size w1 w2):CR 76 #[.agg #[.int .i64 co,.int .i64 mo,.int .i64 rm,.slice a L.length cap],.func (.func q) #[] cv] w (.agg #[.string (bs (QaX (⟨co,mo,rm,pln L⟩:Tre))),.string (bs (YB blk (L.length-1))),.string (bs (bmB (pln L)))]):=by
 refine eN2 Tryz.func76 Tryz.ntmps76 ?_
 refine aU2 ?_
 refine oBx λb1 _=>?_
 refine oAl (λb2 _=>?_) Qag
 refine QbK ?_
 refine Qt (α:=Nat×Option Addr×Nat) [5,6,7,8,9,10,11,12,13,14,15,16,17,18] (λx=>[(6,.int .i64 ((x.1+1:Nat):Int)),(5,.slice x.2.1 (YB blk x.1).length x.2.2)]) (λx=>HS w [] [.byz x.2.1 x.2.2 (YB blk x.1),.blk b1 37 4 [.int .i64 co,.int .i64 mo,.int .i64 rm,.slice a L.length cap],.blk b2 23 3 [.string (bs []),.string (bs []),.string (bs [])]]) (λx=>x.1+1<=L.length/\(YB blk x.1).length<=512*x.1) (λx=>L.length-x.1) (0,none,0) ⟨by(try simp only[]);omega,Nat.le_refl _⟩ aSx (λw h=>(h.byz_nil.ent aEt)) (λ⟨k,ga,gc⟩hkk=>?_)
 dsimp only
 simp only[]at hkk
 obtain⟨hk0,hbl⟩:=hkk
 have hb1:=hbk (k+1)
 refine aU9 ?_
 refine sCd rfl (λh3=>?_) λh3=>?_
 ·have hk:k+1<L.length:=by have hq:=h3;omega
  refine aU7 ?_
  refine o_q (YS rfl rfl hq rfl (λw1 h1=>hc k w1 om (h1.ent aEt))) rfl (o_h (Qa7 rfl rfl rfl QB Tryz.underlying9 Z5 aPk om (by simp only[maxLen];omega)) rfl (λ⟨b4,c5⟩h6=>aT6 ?_))
  refine Qm (show _=Value.int .i64 ((k+1+1:Nat):Int)from congrArg (Value.int .i64) om) (aU2 ?_)
  exact sBk (k+1,b4,c5) (by(try simp only[]);omega) ⟨by(try simp only[]);omega,by(try simp only[]);rw[YB,List.length_append];omega⟩
 obtain rfl:k=L.length-1:=by have hq:=h3;omega
 refine Qh rfl ?_
 refine aU ?_
 refine QiH (λw9 h=>h.byz_own aPk) (Qz [8] QJ ?_)
 refine dLn 0 [[]] ?_
 refine dQ 1 [[]] rfl (Qr rfl Quf rfl (λw1 h1=>c90 w1 co mo rm a cap L (hs.later h1.nil) h0 hp)) (dP 2 ?_)
 refine dQ 3 [[]] rfl (Qaa rfl rfl Tryz.underlying139 Tryz.underlying9 Tryz.underlying5 aPk (Zp _)) (dFa 4 ?_)
 refine dLd 5 [[]] ?_
 refine dQ 6 [[]] rfl (Qr rfl Qvw rfl (λw1 h1=>c145 w1 a cap L (hs.1.later h1.nil) h0 hl hcap hc9)) (dV 7 rfl (QE (cs:=[_,_,_]) rfl rfl Qne Qag rfl) (dSt 8 ?_ (hl:=(by simp only[Qf,List.length_set,List.length_cons,List.length_nil,List.length_map];omega))))
 refine dTu [] ?_
 refine dNi ?_
 exact Ql (rs:=[.cell 4 23]) rfl (.cell rfl Qhd aPk rfl (.nil)) (λw' h'=>⟨by rw[YG];rfl,h'.below⟩)
end Go.Proofs
