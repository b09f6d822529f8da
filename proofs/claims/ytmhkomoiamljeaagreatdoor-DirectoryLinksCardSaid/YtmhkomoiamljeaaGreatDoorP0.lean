/- Contracts of the program's functions, proved by walking them with the rules of the Gx texts; without conditions beyond those that each contract names. -/
import Derived.WalkKit
import Derived.Deep.Draws
import Derived.TacticsIn
import Derived.OrdersIn
import Derived.RangeFuncLeaves
import Derived.Lib.Strings
import Derived.Laws.BytesArg
import Derived.Laws.IdiomStrings
import Derived.Deep.Quiet
import Derived.ProofKit
import Derived.OpenShut
import Derived.Laws.StructEq
import Derived.ChangeKeysEq
import Derived.Laws.Externs
import Derived.Lib.Overlaps
import Derived.Carry
import Derived.Laws.Small
import Derived.Lib.Bytealg
import Derived.Shelf.Small.Strs
import Derived.Shelf.Small.Wraps
import Derived.Shelf.Strconv.Itoa0
import Derived.Shelf.Strconv.Itoa1
import Derived.Shelf.LaysM
import Derived.Shelf.Strconv.Itoa2
import Derived.Shelf.Strconv.Itoa3
import Derived.Shelf.Strings.Search1
import Derived.Shelf.Strings.Search2
import Derived.Shelf.Strings.Cut
import Derived.Shelf.Strings.Shaped
import Derived.Shelf.Strings.LastIndex
import Derived.Shelf.Strings.LastIndexAll
import Derived.Shelf.Strings.Prefix
import Derived.Shelf.Slices.Turned
import Derived.Shelf.Slices.Reverse
import Derived.Shelf.Slices.Equal
import Derived.Ground.Names2Prog
import Derived.Shelf.Slices.Clone
import Derived.Shelf.Slices.SearchI
import Derived.Shelf.Slices.Delete
import Derived.Shelf.Slices.Cells
import Derived.Shelf.Slices.Empties
import Derived.Shelf.Slices.Empties2
import Derived.Ground.SlgnProg
import Derived.Shelf.SlicesE.Reverse
import Derived.Shelf.SlicesE.Delete
import Derived.Shelf.SlicesE.Clone
import Derived.Test.YtmhkomoiamljeaaGreatDoorProg
import Derived.KernelRfl
import Derived.Lib.LastIndexByte
import Derived.Lib.ItoaNum
import Derived.Lib.SmallJoins
import Derived.Lib.AppendIntMem
import Derived.RangeFuncRecord
import Derived.Lib.Builder
import Derived.Laws.Pointers
import Derived.Test.YtmhkomoiamljeaaGreatDoorTie
import Derived.Test.YtmhkomoiamljeaaGreatDoorCards
import Derived.SevenTiedAt
import Derived.LaidMore
import Derived.Lay
import Derived.Stop.Joined
set_option linter.unusedSimpArgs false
set_option maxHeartbeats 1000000
set_option linter.unusedVariables false
set_option linter.unusedSectionVars false
set_option linter.unnecessarySimpa false
namespace Gx
theorem om{p:Prop}(h:p:=by omega):p:=h
end Gx
namespace Gx
open Go Go.RowKit
abbrev Qa:=List (Nat×Value)
def Qa.get:Qa->Nat->Option Value
 | [],_=>none
 | (k,v)::L,t=>bif Nat.beq k t then some v else Qa.get L t
def ev(L:Qa):Operand->Option Value
 | .tmp t=>Qa.get L t
 | .const v=>some v
 | .global g=>some (.pointer (some ⟨g,0,none⟩))
 | .func f=>some (.func (.func f) #[] #[])
def Qrb(df:List Nat):List Deferred:=df.map λD=>{target:=.collected D,args:=#[]}
structure FR(n:Nat)(df:List Nat)(L:Qa)(a:Act):Prop where
 defers:a.defers=Qrb df
 size:a.tmps.size=n
 slot:∀t v,Qa.get L t=some v->a.tmps[t]?=some v
theorem FR.evl{n:Nat}{df:List Nat}{L:Qa}{a:Act}(h:FR n df L a){x:Operand}{v:Value}(hx:ev L x=some v):a.eval x=v:=by
 cases x with
 | tmp t=>simp only[Act.eval,Array.getD_eq_getD_getElem?,h.slot t v hx,Option.getD_some]
 | const u=>simpa[Gx.ev,Act.eval]using hx
 | global g=>simpa[Gx.ev,Act.eval]using hx
 | func f=>simpa[Gx.ev,Act.eval]using hx
theorem FR.none{n:Nat}{df:List Nat}{L:Qa}{a:Act}(h:FR n df L a)(hd:df=[]):a.defers=[]:=by rw[h.defers,hd];rfl
theorem Qa.get_cons(L:Qa)(k t:Nat)(v:Value):Qa.get ((k,v)::L) t=if k=t then some v else Qa.get L t:=by simp_all[Qa.get]
theorem FR.put{n:Nat}{df:List Nat}{L:Qa}{a:Act}(h:FR n df L a)(d:Nat)(v:Value)(hd:Nat.blt d n=true):FR n df ((d,v)::L) (a.put (some d) v):=by
 have hd':d<n:=by simpa[Nat.blt_eq]using hd
 refine⟨h.defers,by simp[Act.put,h.size],λt u hu=>?_⟩;rw[Qa.get_cons]at hu;show(a.tmps.setIfInBounds d v)[t]?=some u;rw[Array.getElem?_setIfInBounds]
 by_cases e:d=t
 ·subst e;rw[if_pos rfl]at hu;rw[if_pos rfl,if_pos (by rw[h.size];exact hd')];exact hu
 ·rw[if_neg e]at hu;rw[if_neg e];exact h.slot t u hu
theorem FR.sub{n:Nat}{df:List Nat}{L L':Qa}{a:Act}(h:FR n df L a)(hs:∀p∈L',Qa.get L p.1=some p.2):FR n df L' a:=by
 refine⟨h.defers,h.size,λt v hv=>?_⟩
 induction L' with
 | nil=>cases hv
 | cons p L' ih=>
  obtain⟨k,u⟩:=p;rw[Qa.get_cons]at hv
  by_cases e:k=t
  ·rw[if_pos e]at hv;subst e;injection hv with hv
   subst hv;exact h.slot _ _ (hs (k,u) (List.mem_cons_self ..))
  grind
def QaO(L:Qa):Qa->Prop
 | []=>True
 | (k,v)::r=>Qa.get L k=some v/\QaO L r
theorem QaO.all{L:Qa}:∀{L':Qa},QaO L L'->∀p∈L',Qa.get L p.1=some p.2
 | [],_,p,hp=>by cases hp
 | (k,v)::r,h,p,hp=>by
  rcases List.mem_cons.1 hp with rfl|hp
  ·exact h.1
  ·exact QaO.all h.2 p hp
theorem sl_n{L:Qa}:QaO L []:=trivial
theorem sl_c{L:Qa}{k:Nat}{v:Value}{r:Qa}(h:Qa.get L k=some v)(hr:QaO L r):QaO L ((k,v)::r):=⟨h,hr⟩
def KI:Type:=Sum Code (Sum Nat (Act->World->Prop))
def KI.c(c:Code):KI:=Sum.inl c
def KI.blk(id:Nat):KI:=Sum.inr (Sum.inl id)
def KI.join(J:Act->World->Prop):KI:=Sum.inr (Sum.inr J)
structure Ctx where
 P:Program
 fn:Func
 n:Nat
 R:Ending->World->Prop
 rd:Option Nat:=none
 df:List Nat:=[]
abbrev Ctx.F(X:Ctx):Fence:={Fence.wide with round:=X.rd}
theorem Ctx.callsIn{X:Ctx}{m:Nat}{f:FuncId}{args:Array Value}{w:World}{R:Ending->World->Prop}(h:Calls X.P f args w R):CallsIn X.F m X.P f args w R:=callsIn_wide (n:=m) |>.2 h
def post(X:Ctx):List KI->Exit->Act->World->Prop
 | [],e,a,w=>match X.rd with
  | none=>bodyPostM X.F 0 X.P X.fn X.R e a w
  | some l=>roundPost X.P l X.R e a w
 | Sum.inl c::k,.normal,a,w=>c.wpIn X.F 0 X.P (post X k) a w
 | Sum.inl _::k,e,a,w=>post X k e a w
 | Sum.inr (Sum.inl id)::k,.exit id',a,w=>if id'=id then post X k .normal a w else post X k (.exit id') a w
 | Sum.inr (Sum.inl _)::k,e,a,w=>post X k e a w
 | Sum.inr (Sum.inr J)::_,.normal,a,w=>J a w
 | Sum.inr (Sum.inr _)::k,e,a,w=>post X k e a w
def S(X:Ctx)(k:List KI)(L:Qa)(C:World->Prop):Prop:=∀a w,FR X.n X.df L a->C w->post X k .normal a w
def SE(X:Ctx)(e:Exit)(k:List KI)(L:Qa)(C:World->Prop):Prop:=∀a w,FR X.n X.df L a->C w->post X k e a w
def O(X:Ctx)(ops:Array Oper)(rest:List Oper)(k:List KI)(L:Qa)(C:World->Prop):Prop:=
 ∀a w,FR X.n X.df L a->C w->wpListIn X.F 0 X.P ops (post X k) rest a w
section
variable{X:Ctx}{k:List KI}{L:Qa}{C:World->Prop}
theorem QiN{x y:Code}(h:S X (.c x::.c y::k) L C):S X (.c (.seq x y)::k) L C:=by
 intro a w ha hw;have:=h a w ha hw;refine wpIn_seq (wpIn_mono (Q':=Exit.then (y.wpIn X.F 0 X.P (post X k)) (post X k)) this λe a w he=>?_);cases e<;>exact he
theorem QlN(h:S X k L C):S X (.c .skip::k) L C:=λa w ha hw=>wpIn_skip (h a w ha hw)
theorem Qno{l:Nat}(h:S X k L C):S X (.c (.label l)::k) L C:=λa w ha hw=>wpIn_label (h a w ha hw)
theorem Qfz{id:Nat}{c:Code}(h:S X (.c c::.blk id::k) L C):S X (.c (.block id c)::k) L C:=by
 intro a w ha hw;refine wpIn_block (wpIn_mono (h a w ha hw) λe a w he=>?_);cases e<;>exact he
theorem QoM{id:Nat}(h:S X k L C):S X (.blk id::k) L C:=λa w ha hw=>h a w ha hw
theorem Qnb{id:Nat}(h:SE X (.exit id) k L C):S X (.c (.exit id)::k) L C:=λa w ha hw=>wpIn_exit (h a w ha hw)
theorem se_c{e:Exit}{c:Code}(he:e≠ .normal)(h:SE X e k L C):SE X e (.c c::k) L C:=by
 intro a w ha hw;have:=h a w ha hw;cases e<;>first|exact this|exact absurd rfl he
theorem QcV{id:Nat}{c:Code}(h:SE X (.exit id) k L C):SE X (.exit id) (.c c::k) L C:=se_c (by simp) h
theorem Qcl{id:Nat}{J:Act->World->Prop}(h:SE X (.exit id) k L C):SE X (.exit id) (.join J::k) L C:=λa w ha hw=>h a w ha hw
theorem QcC{id:Nat}(h:S X k L C):SE X (.exit id) (.blk id::k) L C:=by
 intro a w ha hw;show(if id=id then _ else _);rw[if_pos rfl];exact h a w ha hw
theorem Qb8{id id':Nat}(hne:Nat.beq id id'=false)(h:SE X (.exit id) k L C):SE X (.exit id) (.blk id'::k) L C:=by
 intro a w ha hw;show(if id=id' then _ else _);rw[if_neg (λe=>by subst e;simp[Nat.beq_refl]at hne)];exact h a w ha hw
def QgI(id:Nat):List KI->Option (List KI)
 | []=>none
 | Sum.inr (Sum.inl id')::k=>bif Nat.beq id id' then some k else QgI id k
 | _::k=>QgI id k
theorem QfQ{id:Nat}:∀{k k':List KI},QgI id k=some k'->S X k' L C->SE X (.exit id) k L C
 | [],_,h,_=>by cases h
 | Sum.inl c::k,k',h,hs=>QcV (QfQ (k:=k) h hs)
 | Sum.inr (Sum.inr J)::k,k',h,hs=>Qcl (QfQ (k:=k) h hs)
 | Sum.inr (Sum.inl id')::k,k',h,hs=>by
  simp only[QgI]at h;cases hb:Nat.beq id id' with
  | true=>
   have e:=Nat.eq_of_beq_eq_true hb;subst e;rw[hb]at h;injection h with h
   subst h;exact QcC hs
  | false=>
   rw[hb]at h;exact Qb8 hb (QfQ (k:=k) h hs)
theorem Qh{id:Nat}{k':List KI}(h:QgI id k=some k')(hs:S X k' L C):S X (.c (.exit id)::k) L C:=Qnb (QfQ h hs)
theorem QdE{c:Operand}{x y:Code}{b:Bool}(hc:ev L c=some (.bool b))(ht:b=true->S X (.c x::k) L C)(hf:b=false->S X (.c y::k) L C) :
  S X (.c (.cond c x y)::k) L C:=λa w ha hw=>wpIn_cond_split (ha.evl hc) (λh=>ht h a w ha hw) (λh=>hf h a w ha hw)
theorem QoP(h:SE X .ret k L C):S X (.c .ret::k) L C:=λa w ha hw=>wpIn_ret (h a w ha hw)
theorem QaF:∀{k:List KI},SE X .ret [] L C->SE X .ret k L C
 | [],h=>h
 | Sum.inl _::k,h=>λa w ha hw=>QaF (k:=k) h a w ha hw
 | Sum.inr (Sum.inl _)::k,h=>λa w ha hw=>QaF (k:=k) h a w ha hw
 | Sum.inr (Sum.inr _)::k,h=>λa w ha hw=>QaF (k:=k) h a w ha hw
theorem Qht{a:Act}{w:World}{v:Value}(hrd:X.rd=none)(hd:a.defers=[])(h:(results X.fn a.tmps).run X.P w=.ok v w)(hR:X.R (.returned v) w):post X [] .ret a w:=by
 show(match X.rd with|none=>bodyPostM X.F 0 X.P X.fn X.R .ret a w|some l=>roundPost X.P l X.R .ret a w);rw[hrd];show LeavesInM X.F 0 X.P X.fn a.tmps X.R a.defers .returning w;rw[hd];exact⟨v,h,hR⟩
theorem QkB(hr:X.fn.results= #[])(h:∀w,C w->X.R (.returned (.tuple #[])) w)(hrd:X.rd=none:=by rfl)(hdf:X.df=[]:=by rfl):S X [] L C:=
 λ_ w ha hw=>by
  show(match X.rd with|none=>bodyPostM X.F 0 X.P X.fn X.R .normal _ w|some l=>roundPost X.P l X.R .normal _ w);rw[hrd];show LeavesInM X.F 0 X.P X.fn _ X.R _ .returning w;rw[ha.none hdf];exact⟨_,results_none hr _ _ _,h w hw⟩
theorem QjY{v:Value}(hr:∀a w,FR X.n X.df L a->C w->(results X.fn a.tmps).run X.P w=.ok v w)(h:∀w,C w->X.R (.returned v) w)(hrd:X.rd=none:=by rfl)(hdf:X.df=[]:=by rfl):S X (.c .ret::k) L C:=
 QoP (QaF λa w ha hw=>Qht hrd (ha.none hdf) (hr a w ha hw) (h w hw))
theorem Qgt{id:Nat}{l:List Oper}(h:O X l.toArray l k L C):S X (.c (.region id l.toArray false)::k) L C:=
 λa w ha hw=>wpIn_region_lit (h a w ha hw)
theorem Qi1{ops:Array Oper}(h:S X k L C):O X ops [] k L C:=λa w ha hw=>wpListIn_nil (h a w ha hw)
theorem Ql{L':Qa}{C':World->Prop}(hL:QaO L L')(hC:∀w,C w->C' w)(h:S X k L' C'):S X k L C:=
 λa w ha hw=>h a w (ha.sub hL.all) (hC w hw)
theorem Qbg{C':World->Prop}{ops:Array Oper}{rest:List Oper}(hC:∀w,C w->C' w)(h:O X ops rest k L C'):O X ops rest k L C:=λa w ha hw=>h a w ha (hC w hw)
theorem QkV{p:Prop}{ops:Array Oper}{rest:List Oper}(hp:∀w,C w->p)(h:p->O X ops rest k L C):O X ops rest k L C:=λa w ha hw=>h (hp w hw) a w ha hw
theorem s_ex{α:Type}{D:α->World->Prop}(hp:∀w,C w->∃x,D x w)(h:∀x,S X k L (D x)):S X k L C:=λa w ha hw=>let⟨x,hx⟩:=hp w hw;h x a w ha hx
theorem o_ex{α:Type}{D:α->World->Prop}{ops:Array Oper}{rest:List Oper}(hp:∀w,C w->∃x,D x w)(h:∀x,O X ops rest k L (D x)):O X ops rest k L C:=λa w ha hw=>let⟨x,hx⟩:=hp w hw;h x a w ha hx
theorem Qn{d:Nat}{v u:Value}{ops:Array Oper}{rest:List Oper}(e:v=u)(h:O X ops rest k ((d,u)::L) C):O X ops rest k ((d,v)::L) C:=by subst e;exact h
def At(n:Nat)(df:List Nat){α:Type}(LJ:α->Qa)(CJ:α->World->Prop)(a:Act)(w:World):Prop:=∃x,FR n df (LJ x) a/\CJ x w
def Back(n:Nat)(df:List Nat){α:Type}(LJ:α->Qa)(CJ:α->World->Prop)(m:α->Nat)(x:α)(a:Act)(w:World):Prop:=∃y,m y<m x/\FR n df (LJ y) a/\CJ y w
theorem Qly{α:Type}{c:Code}(LJ:α->Qa)(CJ:α->World->Prop)(m:α->Nat)(x0:α)(hL:QaO L (LJ x0))(hC:∀w,C w->CJ x0 w)
  (h:∀x,S X (.c c::.join (Back X.n X.df LJ CJ m x)::k) (LJ x) (CJ x)):S X (.c (.loop c)::k) L C:=by
 intro a w ha hw;intro b kk cs hro hb hr
 have key:∀N x,m x=N->∀(a:Act)(w:World),FR X.n X.df (LJ x) a->CJ x w ->
   ∃e a' w',post X k e a' w'/\ArrivesIn (Machine.fenced X.P X.F) X.P (lone (b.atR a (.code c::.inLoop c::kk)) cs w) b kk cs e a' w':=by
  intro N
  induction N using Nat.strongRecOn with
  | _ N ih=>
   intro x hN a w hfr hcj;obtain⟨e,a₁,w₁,hq,harr⟩:=h x a w hfr hcj b (.inLoop c::kk) cs hro hb hr;cases e with
   | normal=>
    obtain⟨y,hlt,hfr',hcj'⟩:=hq;obtain⟨e₂,a₂,w₂,hq₂,harr₂⟩:=ih (m y) (hN▸hlt) y rfl a₁ w₁ hfr' hcj';exact⟨e₂,a₂,w₂,hq₂,.of_steps (StepsIn.trans harr (.one (fenced_calm hb hr rfl) stepR_inLoop)) harr₂⟩
   | exit id=>exact⟨_,a₁,w₁,hq,.pass (x:=.inLoop c) rfl (λ_ _=>.inl (by simp)) harr⟩
   | goto l=>exact⟨_,a₁,w₁,hq,.pass (x:=.inLoop c) rfl (λ_ _=>.inl (by simp)) harr⟩
   | ret=>exact⟨_,a₁,w₁,hq,.pass (x:=.inLoop c) rfl (λ_ _=>.inl (by simp)) harr⟩
   | panic ch=>exact⟨_,a₁,w₁,hq,.pass (x:=.inLoop c) rfl (λ_ _=>.inl (by simp)) harr⟩
   | outgrown=>exact⟨_,a₁,w₁,hq,.pass (x:=.inLoop c) rfl (λ_ _=>.inl (by simp)) harr⟩
 obtain⟨e,a',w',hq,harr⟩:=key _ x0 rfl a w (ha.sub hL.all) (hC w hw);exact⟨e,a',w',hq,.of_steps (.one (fenced_calm hb hr rfl) stepR_loop) harr⟩
theorem Qpf{α:Type}{LJ:α->Qa}{CJ:α->World->Prop}{m:α->Nat}{x:α}(y:α)(hm:m y<m x)(hL:QaO L (LJ y))(hC:∀w,C w->CJ y w):S X (.join (Back X.n X.df LJ CJ m x)::k) L C:=
 λ_ w ha hw=>⟨y,hm,ha.sub hL.all,hC w hw⟩
end
def QcF:Nat->List Value->Qa
 | _,[]=>[]
 | i,v::vs=>(i,v)::QcF (i+1) vs
theorem Qhk:∀(vs:List Value)(i t:Nat)(v:Value),Qa.get (QcF i vs) t=some v->i<=t/\vs[t-i]?=some v
 | [],_,_,_,h=>by cases h
 | u::vs,i,t,v,h=>by
  rw[QcF,Qa.get_cons]at h
  by_cases e:i=t
  ·grind
  ·rw[if_neg e]at h;obtain⟨h1,h2⟩:=Qhk vs (i+1) t v h
   grind
theorem enter{P:Program}{f:FuncId}{fn:Func}{n:Nat}{c:Code}{args:List Value}{w:World}{R:Ending->World->Prop}{C:World->Prop}
  (hf:P.funcs[f]?=some fn)(hn:fn.ntmps=n)(hb:fn.body=some c)(hl:Nat.ble args.length n=true)(hC:C w)(h:S {P:=P,fn:=fn,n:=n,R:=R} [.c c] (QcF 0 args) C) :
  Calls P f args.toArray w R:=by
 have hle:args.length<=n:=Nat.le_of_ble_eq_true hl;refine(callsIn_wide (n:=0)).1 (callsIn_of_wp_marks hf hb trivial (wpIn_mono (h _ _ ⟨rfl,?_,λt v hv=>?_⟩ hC) λe a w he=>?_))
 ·show(args.toArray++Array.replicate (fn.ntmps-args.toArray.size) undef).size=n;simp[hn];omega
 ·obtain⟨_,h2⟩:=Qhk args 0 t v hv
  have hlt:t<args.length:=by
   rcases Nat.lt_or_ge t args.length with h'|h'
   ·exact h'
   ·simp[List.getElem?_eq_none h']at h2
  show(args.toArray++Array.replicate (fn.ntmps-args.toArray.size) undef)[t]?=some v;rw[Array.getElem?_append_left (by simpa using hlt)]
  simpa using h2
 ·cases e<;>exact he
def u8T:TypeId:=5
def QL(b:Nat)(t:TypeId)(tot:Nat)(cs:List Value)(w:World):Prop:=
 ∃cur fr,w.heap[b]?=some (.cells cur t fr)/\tot<=cur.size/\cs.length<=tot/\(∀i,i<cs.length->cur[i]?=cs[i]?)/\(fr.1<=fr.2/\∀i,fr.1<=i->i<fr.2->cur.size<i\/(i=cur.size/\t=u8T))
def QmO(v:Value)(t:TypeId)(sz n:Nat)(xs:List Value)(w:World):Prop:=
 xs.length=n*sz/\((v=.slice none 0 0/\n=0)\/∃g cap,v=.slice (some ⟨g,0,none⟩) n cap/\n<=cap/\cap<=maxLen/\QL g t (cap*sz) xs w)
theorem QL.loc{w w':World}{b:Nat}{t:TypeId}{tot:Nat}{cs:List Value}(h:w'.heap[b]?=w.heap[b]?):QL b t tot cs w->QL b t tot cs w':=by
 rintro⟨cur,fr,h1,h2⟩;exact⟨cur,fr,h.trans h1,h2⟩
structure HA where
 fp:List Nat
 ok:World->Prop
 loc:∀w w',(∀b∈fp,w'.heap[b]?=w.heap[b]?)->ok w->ok w'
def HA.blk(b:Nat)(t:TypeId)(tot:Nat)(cs:List Value):HA:=⟨[b],QL b t tot cs,λ_ _ h ha=>QL.loc (h b (List.mem_singleton.2 rfl)) ha⟩
def HA.own(v:Value)(t:TypeId)(sz n:Nat)(xs:List Value):HA:=⟨v.ownBlock.toList,QmO v t sz n xs,λw w' h ha=>by
  obtain⟨hl,h1|⟨g,cap,rfl,hn,hc,hb⟩⟩:=ha
  ·exact⟨hl,.inl h1⟩
  ·exact⟨hl,.inr ⟨g,cap,rfl,hn,hc,QL.loc (h g (by simp[Value.ownBlock])) hb⟩⟩⟩
theorem HA.fp_blk(b:Nat)(t:TypeId)(tot:Nat)(cs:List Value):(HA.blk b t tot cs).fp=[b]:=rfl
theorem HA.fp_own(v:Value)(t:TypeId)(sz n:Nat)(xs:List Value):(HA.own v t sz n xs).fp=v.ownBlock.toList:=rfl
structure HS(w0:World)(M:List Nat)(As:List HA)(w:World):Prop where
 os:w.os=w0.os
 tape:w.tape=w0.tape
 output:w.output=w0.output
 size:w0.heap.size<=w.heap.size
 old:∀b,b<w0.heap.size->b ∉ M->w.heap[b]?=w0.heap[b]?
 ok:∀A∈As,A.ok w
 lt:∀A∈As,∀b∈A.fp,b<w.heap.size/\(b<w0.heap.size->b∈M)
 sep:As.Pairwise λA B=>∀b∈A.fp,b ∉ B.fp
section
variable{w0 w w':World}{M:List Nat}{As:List HA}
theorem HS.refl(w:World)(M:List Nat):HS w M [] w:=⟨rfl,rfl,rfl,Nat.le_refl _,λ_ _ _=>rfl,λ_ h=>(by cases h),λ_ h=>(by cases h),.nil⟩
theorem HS.below(h:HS w0 [] As w):Below w0.heap.size w0 w:=⟨h.os,h.tape,h.output,h.size,λk hk=>h.old k hk (by simp)⟩
theorem HS.stable(h:HS w0 M As w)(hb:Below w.heap.size w w'):HS w0 M As w':=
  ⟨hb.os.trans h.os,hb.tape.trans h.tape,hb.output.trans h.output,Nat.le_trans h.size hb.size,
   λb hb' hm=>(hb.block b (Nat.lt_of_lt_of_le hb' h.size)).trans (h.old b hb' hm),
   λA hA=>A.loc w w' (λb hbf=>hb.block b (h.lt A hA b hbf).1) (h.ok A hA),
   λA hA b hbf=>⟨Nat.lt_of_lt_of_le (h.lt A hA b hbf).1 hb.size,(h.lt A hA b hbf).2⟩,h.sep⟩
theorem HS.drew(h:HS w0 M As w):HS w0 M As w.drew:=h.stable (Below.drew (Below.refl _ _))
theorem HS.call{Bs:List HA}(h:HS w0 M As w)(hc:HS w [] Bs w'):HS w0 M (Bs++As) w':=by
 have hs:=h.stable hc.below;refine⟨hs.os,hs.tape,hs.output,hs.size,hs.old,λA hA=>?_,λA hA=>?_,?_⟩
 ·rcases List.mem_append.1 hA with hA|hA
  ·exact hc.ok A hA
  ·exact hs.ok A hA
 ·rcases List.mem_append.1 hA with hA|hA
  ·intro b hb;have h1:=hc.lt A hA b hb;refine⟨h1.1,λhlt=>?_⟩;have:=h1.2 (Nat.lt_of_lt_of_le hlt h.size);cases this
  ·exact hs.lt A hA
 ·rw[List.pairwise_append];refine⟨hc.sep,h.sep,λA hA B hB b hbA hbB=>?_⟩;have h1:=(hc.lt A hA b hbA).2 (h.lt B hB b hbB).1;cases h1
theorem HS.callM{Cs Bs:List HA}{Mc:List Nat}(h:HS w0 M (Cs++As) w)(hMc:∀b∈Mc,∃A∈Cs,b∈A.fp)(hc:HS w Mc Bs w'):HS w0 M (Bs++As) w':=by
 have hsep:=List.pairwise_append.1 h.sep
 have hAs:∀A∈As,∀b∈A.fp,b<w.heap.size/\b ∉ Mc:=λA hA b hb=>⟨(h.lt A (List.mem_append_right _ hA) b hb).1,λhm=>by
  obtain⟨B,hB,hbB⟩:=hMc b hm;exact hsep.2.2 B hB A hA b hbB hb⟩
 refine⟨hc.os.trans h.os,hc.tape.trans h.tape,hc.output.trans h.output,Nat.le_trans h.size hc.size,λb hb hm=>?_,λA hA=>?_,λA hA b hb=>?_,?_⟩
 ·refine(hc.old b (Nat.lt_of_lt_of_le hb h.size) λhmc=>?_).trans (h.old b hb hm);obtain⟨B,hB,hbB⟩:=hMc b hmc;exact hm ((h.lt B (List.mem_append_left _ hB) b hbB).2 hb)
 ·rcases List.mem_append.1 hA with hA|hA
  ·exact hc.ok A hA
  ·exact A.loc w w' (λb hb=>hc.old b (hAs A hA b hb).1 (hAs A hA b hb).2) (h.ok A (List.mem_append_right _ hA))
 ·rcases List.mem_append.1 hA with hA|hA
  ·have h1:=hc.lt A hA b hb;refine⟨h1.1,λhlt=>?_⟩;obtain⟨B,hB,hbB⟩:=hMc b (h1.2 (Nat.lt_of_lt_of_le hlt h.size));exact(h.lt B (List.mem_append_left _ hB) b hbB).2 hlt
  ·have h1:=h.lt A (List.mem_append_right _ hA) b hb;exact⟨Nat.lt_of_lt_of_le h1.1 hc.size,h1.2⟩
 ·rw[List.pairwise_append];refine⟨hc.sep,hsep.2.1,λA hA B hB b hbA hbB=>?_⟩;exact(hAs B hB b hbB).2 ((hc.lt A hA b hbA).2 (hAs B hB b hbB).1)
theorem HS.sub{As':List HA}(h:HS w0 M As w)(hs:As'.Sublist As):HS w0 M As' w:=
 ⟨h.os,h.tape,h.output,h.size,h.old,λA hA=>h.ok A (hs.subset hA),λA hA=>h.lt A (hs.subset hA),h.sep.sublist hs⟩
theorem HS.perm{As':List HA}(h:HS w0 M As w)(hs:As.Perm As'):HS w0 M As' w:=
  ⟨h.os,h.tape,h.output,h.size,h.old,λA hA=>h.ok A (hs.symm.subset hA),λA hA=>h.lt A (hs.symm.subset hA),
   (hs.pairwise_iff (λhAB b hbB hbA=>hAB b hbA hbB)).1 h.sep⟩
theorem HS.nil(h:HS w0 M As w):HS w0 M [] w:=h.sub (List.nil_sublist _)
theorem HS.alloc(h:HS w0 M As w)(o:Obj)(A:HA)(hf:A.fp=[w.heap.size])(hA:A.ok (w.alloc o)):HS w0 M (A::As) (w.alloc o):=by
 refine HS.call (Bs:=[A]) h ⟨rfl,rfl,rfl,by simp,λb hb _=>Below.heap_alloc w o b hb,λB hB=>?_,λB hB b hb=>?_,.cons (λ_ h=>(by cases h)) .nil⟩
 ·grind
 simp_all
theorem HS.swap{A B:HA}(h:HS w0 M (A::As) w)(hfp:∀b∈B.fp,b∈A.fp)(hos:w'.os=w.os)(htape:w'.tape=w.tape)(hout:w'.output=w.output)
  (hsize:w'.heap.size=w.heap.size)(hold:∀b,b ∉ A.fp->w'.heap[b]?=w.heap[b]?)(hB:B.ok w'):HS w0 M (B::As) w':=by
 have hs:=List.pairwise_cons.1 h.sep;refine⟨hos.trans h.os,htape.trans h.tape,hout.trans h.output,by rw[hsize];exact h.size,λb hb hm=>?_,λC hC=>?_,λC hC b hb=>?_,?_⟩
 ·refine(hold b λhbA=>?_).trans (h.old b hb hm);exact hm ((h.lt A (List.mem_cons_self ..) b hbA).2 hb)
 ·rcases List.mem_cons.1 hC with rfl|hC
  ·exact hB
  ·exact C.loc w w' (λb hb=>hold b λhbA=>hs.1 C hC b hbA hb) (h.ok C (List.mem_cons_of_mem _ hC))
 ·rw[hsize];rcases List.mem_cons.1 hC with rfl|hC
  ·exact h.lt A (List.mem_cons_self ..) b (hfp b hb)
  ·exact h.lt C (List.mem_cons_of_mem _ hC) b hb
 simp_all
theorem HS.turn{A B:HA}(h:HS w0 M (A::As) w)(hfp:∀b∈B.fp,b∈A.fp)(hB:A.ok w->B.ok w):HS w0 M (B::As) w:=
 h.swap hfp rfl rfl rfl rfl (λ_ _=>rfl) (hB (h.ok A (List.mem_cons_self ..)))
theorem HS.head{A:HA}(h:HS w0 M (A::As) w):A.ok w:=h.ok A (List.mem_cons_self ..)
theorem HS.tail{A:HA}(h:HS w0 M (A::As) w):HS w0 M As w:=h.sub (List.sublist_cons_self _ _)
end
def QF(As:List HA)(A:HA)(As':List HA):Prop:=As.Perm (A::As')
theorem QF.here{A:HA}{As:List HA}:QF (A::As) A As:=.refl _
theorem QF.there{A B:HA}{As As':List HA}(h:QF As A As'):QF (B::As) A (B::As'):=(List.Perm.cons _ h).trans (.swap ..)
theorem QF.perm{As:List HA}{A:HA}{As':List HA}(h:QF As A As'):As.Perm (A::As'):=h
theorem QF.mem{As:List HA}{A:HA}{As':List HA}(h:QF As A As'):A∈As:=h.perm.mem_iff.2 (List.mem_cons_self ..)
theorem HS.pick{w0 w:World}{M:List Nat}{As As':List HA}{A:HA}(h:HS w0 M As w)(hp:QF As A As'):HS w0 M (A::As') w:=h.perm hp.perm
def Put(As:List HA)(A B:HA)(As':List HA):Prop:=∃Rs,QF As A Rs/\(B::Rs).Perm As'
theorem Put.here{A B:HA}{As:List HA}:Put (A::As) A B (B::As):=⟨_,.here,.refl _⟩
theorem Put.there{A B D:HA}{As As':List HA}(h:Put As A B As'):Put (D::As) A B (D::As'):=by
 obtain⟨Rs,h1,h2⟩:=h;exact⟨_,.there h1,(List.Perm.swap ..).trans (List.Perm.cons _ h2)⟩
theorem Put.ex{As:List HA}{A B:HA}{As':List HA}(h:Put As A B As'):∃Rs,QF As A Rs/\(B::Rs).Perm As':=h
section
variable{w:World}{b:Nat}{t:TypeId}{tot:Nat}{cs:List Value}
theorem QL.cell(h:QL b t tot cs w){i:Nat}{v:Value}(hv:cs[i]?=some v):w.cell? ⟨b,i,none⟩=some v:=by
 obtain⟨cur,fr,h1,_,_,h4,_⟩:=h;have hi:i<cs.length:=by grind
 simp[World.cell?,h1,h4 i hi,hv]
theorem QL.frozen(h:QL b t tot cs w){i:Nat}(hi:i<tot):w.frozen? ⟨b,i,none⟩=false:=by
 obtain⟨cur,fr,h1,h2,_,_,h5⟩:=h;simp only[World.frozen?,h1]
 grind
theorem QL.shape(h:QL b t tot cs w):∃k,tot<=k/\w.shape? b=some (t,k)/\(t≠u8T->w.frozen? ⟨b,k,none⟩=false):=by
 obtain⟨cur,fr,h1,h2,_,_,h5⟩:=h;refine⟨cur.size,h2,by simp[World.shape?,h1],λht=>?_⟩;simp only[World.frozen?,h1]
 grind
theorem QL.cellsome(h:QL b t tot cs w){i:Nat}(hi:i<tot):∃v,w.cell? ⟨b,i,none⟩=some v:=by
 obtain⟨cur,fr,h1,h2,_⟩:=h;exact⟨cur[i]'(om),by simp[World.cell?,h1,Array.getElem?_eq_getElem (show i<cur.size by omega)]⟩
theorem QL.set(h:QL b t tot cs w){i:Nat}(hi:i<cs.length)(v:Value):QL b t tot (cs.set i v) (w.setCell ⟨b,i,none⟩ v):=by
 obtain⟨cur,fr,h1,h2,h3,h4,h5⟩:=h;refine⟨cur.setIfInBounds i v,fr,by simp[World.setCell,Array.getElem?_modify,h1],by simpa using h2,by simpa using h3,λj hj=>?_,by simpa using h5⟩
 grind
theorem QL.alloc(w:World)(t:TypeId)(cs:Array Value):QL w.heap.size t cs.size cs.toList (w.alloc (.cells cs t)):=
 ⟨cs,(0,0),heap_alloc_new w _,Nat.le_refl _,by simp,λi _=>by simp,Nat.le_refl _,λ_ _ h=>absurd h (Nat.not_lt_zero _)⟩
theorem QL.mark(h:QL b u8T tot cs w):∃n,w.shape? b=some (u8T,n)/\QL b u8T tot cs (w.freeze ⟨b,n,none⟩ 1):=by
 obtain⟨cur,⟨lo,hi⟩,h1,h2,h3,h4,h5,h6⟩:=h;simp only at h5 h6;refine⟨cur.size,by simp[World.shape?,h1],cur,(if lo=hi then(cur.size,cur.size+1)else(min lo cur.size,max hi (cur.size+1))),by simp[World.freeze,Array.getElem?_modify,h1],h2,h3,h4,?_⟩
 by_cases e:lo=hi
 ·grind
 ·rw[if_neg e]
  have hlo:cur.size<=lo:=by
   rcases h6 lo (Nat.le_refl _) om with h|⟨h,_⟩<;>omega
  grind
theorem QdH(w:World)(b n m:Nat)(k:Nat)(h:k≠b):(w.freeze ⟨b,n,none⟩ m).heap[k]?=w.heap[k]?:=by
 unfold World.freeze
 grind
theorem QaL(w:World)(b i:Nat)(v:Value)(k:Nat)(h:k≠b):(w.setCell ⟨b,i,none⟩ v).heap[k]?=w.heap[k]?:=Below.heap_setCell _ _ _ _ h
end
section
variable{w0 w:World}{M:List Nat}{As As':List HA}{b:Nat}{t:TypeId}{tot:Nat}{cs:List Value}
theorem HS.blk_new(h:HS w0 M As w)(t:TypeId)(cs:Array Value):HS w0 M (.blk w.heap.size t cs.size cs.toList::As) (w.alloc (.cells cs t)):=
 h.alloc _ _ rfl (QL.alloc w t cs)
theorem HS.blk_get(h:HS w0 M As w)(hp:QF As (.blk b t tot cs) As'):QL b t tot cs w:=(h.pick hp).head
end
section
variable{w0 w:World}{M:List Nat}{As As':List HA}{v:Value}{t:TypeId}{sz n:Nat}{xs:List Value}
theorem HS.own_nil(h:HS w0 M As w)(t:TypeId)(sz:Nat):HS w0 M (.own (.slice none 0 0) t sz 0 []::As) w:=by
 refine HS.call (Bs:=[_]) h ⟨rfl,rfl,rfl,Nat.le_refl _,λ_ _ _=>rfl,λB hB=>?_,λB hB b hb=>?_,.cons (λ_ h=>(by cases h)) .nil⟩
 ·rcases List.mem_singleton.1 hB;exact⟨by simp,.inl ⟨rfl,rfl⟩⟩
 ·rcases List.mem_singleton.1 hB;simp[HA.fp_own,Value.ownBlock]at hb
theorem HS.own_open'(h:HS w0 M (.own v t sz n xs::As) w)(hn:0<n):∃g cap,v=.slice (some ⟨g,0,none⟩) n cap/\n<=cap/\cap<=maxLen/\xs.length=n*sz/\HS w0 M (.blk g t (cap*sz) xs::As) w:=by
 obtain⟨hl,⟨_,h0⟩|⟨g,cap,rfl,h1,h2,h3⟩⟩:=h.head
 ·omega
 ·exact⟨g,cap,rfl,h1,h2,hl,h.turn (B:=.blk g t (cap*sz) xs) (λb hb=>by simpa[HA.fp_own,HA.fp_blk,Value.ownBlock]using hb) λ_=>h3⟩
theorem HS.own_shut{g cap:Nat}(h:HS w0 M (.blk g t (cap*sz) xs::As) w)(hl:xs.length=n*sz)(hn:n<=cap)(hc:cap<=maxLen):HS w0 M (.own (.slice (some ⟨g,0,none⟩) n cap) t sz n xs::As) w:=
 h.turn (λb hb=>by simpa[HA.fp_own,HA.fp_blk,Value.ownBlock]using hb) λhb=>⟨hl,.inr ⟨g,cap,rfl,hn,hc,hb⟩⟩
theorem QmO.form(h:QmO v t sz n xs w):∃a cap,v=.slice a n cap/\(0<n->∃g,a=some ⟨g,0,none⟩):=by
 obtain⟨_,⟨rfl,rfl⟩|⟨g,cap,rfl,_⟩⟩:=h
 ·grind
 grind
end
def Rd(w:World)(M:List Nat)(b o:Nat)(v:Value):Prop:=b<w.heap.size/\b ∉ M/\w.cell? ⟨b,o,none⟩=some v
theorem HS.rd{w0 w:World}{M:List Nat}{As:List HA}(h:HS w0 M As w){b o:Nat}{v:Value}(hr:Rd w0 M b o v):w.cell? ⟨b,o,none⟩=some v:=
 (World.cell?_of_block (w:=w0) (h.old b hr.1 hr.2.1)).trans hr.2.2
structure Sl(w:World)(M:List Nat)(a:Option Addr)(sz n:Nat)(cell:Nat->List Value):Prop where
 at_:0<n->∃b o,a=some ⟨b,o,none⟩/\∀i,i<n->(cell i).length=sz/\∀j v,(cell i)[j]?=some v->Rd w M b (o+i*sz+j) v
def ab(a:Option Addr):Nat:=match a with|some a=>a.block|none=>0
def ao(a:Option Addr):Nat:=match a with|some a=>a.off|none=>0
theorem Sl.rd{w:World}{M:List Nat}{a:Option Addr}{sz n:Nat}{cell:Nat->List Value}(h:Sl w M a sz n cell){i j:Nat}{v:Value}(hi:i<n)(hv:(cell i)[j]?=some v) :
  Rd w M (ab a) (ao a+i*sz+j) v:=by
 obtain⟨b,o,rfl,h2⟩:=h.at_ om;exact(h2 i hi).2 j v hv
theorem Sl.some{w:World}{M:List Nat}{a:Option Addr}{sz n:Nat}{cell:Nat->List Value}(h:Sl w M a sz n cell)(hn:0<n):a=.some ⟨ab a,ao a,none⟩:=by
 obtain⟨b,o,rfl,_⟩:=h.at_ hn;rfl
theorem Sl.later{w w':World}{M M':List Nat}{As:List HA}{a:Option Addr}{sz n:Nat}{cell:Nat->List Value}(h:Sl w M a sz n cell)(hs:HS w M As w')
  (hM:∀b,b<w.heap.size->b ∉ M->b ∉ M'):Sl w' M' a sz n cell:=
 ⟨λhn=>by
  obtain⟨b,o,rfl,h2⟩:=h.at_ hn
  exact⟨b,o,rfl,λi hi=>⟨(h2 i hi).1,λj v hv=>by
   have hr:=(h2 i hi).2 j v hv;exact⟨Nat.lt_of_lt_of_le hr.1 hs.size,hM b hr.1 hr.2.1,hs.rd hr⟩⟩⟩⟩
def bs(l:List UInt8):ByteArray:=⟨⟨l⟩⟩
@[simp] theorem bs_size(l:List UInt8):(bs l).size=l.length:=rfl
@[simp] theorem bs_data(l:List UInt8):(bs l).data.toList=l:=rfl
theorem QeQ(s:ByteArray):s=bs s.data.toList:=rfl
def Agr(L:Qa)(ρ:Operand->Value):Prop:=∀x v,ev L x=some v->ρ x=v
def Res(P:Program)(Post:Value->World->Prop):Result Next->Prop
 | .ok (.value v) w'=>Post v w'
 | .ok .skip w'=>Post undef w'
 | .ok (.enter f args) w'=>Calls P f args w' λe w''=>∃v,e=.returned v/\Post v w''
 | .ok (.round l f tmps assign body) w'=>RoundIn Fence.wide 0 P l f tmps assign body w' λe w''=>∃v,e=.returned v/\Post v w''
 | _=>False
theorem QkJ{P:Program}{o:Oper}{ρ:Operand->Value}{w:World}{Post:Value->World->Prop}(h:Res P Post ((execOp ρ o).run P w)):∀c,o.op≠ .defer c:=by
 intro c hc;simp only[execOp,hc,Sem.run_bind]at h;cases hr:(resolve ρ c o.type).run P w with
 | ok d w'=>rw[hr]at h;simp[Result.andThen,Res]at h
 | halt x w'=>rw[hr]at h;simp[Result.andThen,Res]at h
theorem Qbp{P:Program}{o:Oper}{a:Act}{w:World}{K:Act->World->Prop}{Q:Exit->Act->World->Prop}{Post:Value->World->Prop}{r:Option Nat}
  (h:Res P Post ((execOp a.eval o).run P w))(hk:∀v w',Post v w'->K (a.put o.dst v) w'):o.wpIn {Fence.wide with round:=r} 0 P a w K Q:=by
 refine⟨λ_ _=>trivial,?_⟩;show o.uponIn _ 0 P a K Q ((o.semAt r a.eval).run P w);rw[Oper.semAt_eq r a.eval o (QkJ h)];generalize (execOp a.eval o).run P w=q at *;cases q with
 | halt x w'=>cases h
 | ok x w'=>
  cases x<;>first
   | exact hk _ _ h
   | exact hk _ _ (show Post undef _ from h)
   | exact⟨λh=>(by cases h),CallsIn.mono ((callsIn_wide (n:=0)).2 h) λe w'' he=>by obtain⟨v,rfl,hp⟩:=he;exact hk _ _ hp⟩
   | exact⟨λh=>(by cases h),RoundIn.mono h λe w'' he=>by obtain⟨v,rfl,hp⟩:=he;exact hk _ _ hp⟩
   | cases h
def OpQ(P:Program)(o:Oper)(L:Qa)(C:World->Prop)(v:Value):Prop:=
 ∀ρ w,Agr L ρ->C w->Res P (λu w'=>u=v/\Below w.heap.size w w') ((execOp ρ o).run P w)
def OpH(P:Program)(o:Oper)(L:Qa)(C:World->Prop){G:Type}(V:G->Value)(F:G->Prop)(C':G->World->Prop):Prop:=
 ∀ρ w,Agr L ρ->C w->Res P (λu w'=>∃g,u=V g/\F g/\C' g w') ((execOp ρ o).run P w)
def OpP(P:Program)(o:Oper)(L:Qa)(v:Value):Prop:=∀ρ w,Agr L ρ->(execOp ρ o).run P w=.ok (.value v) w
theorem OpP.q{P:Program}{o:Oper}{L:Qa}{v:Value}(h:OpP P o L v)(C:World->Prop):OpQ P o L C v:=λρ w hρ _=>by rw[h ρ w hρ];exact⟨rfl,Below.refl _ _⟩
def QdJ(C:World->Prop):Prop:=∀w w',C w->Below w.heap.size w w'->C w'
theorem HS.stab(w0:World)(M:List Nat)(As:List HA):QdJ (HS w0 M As):=λ_ _ h hb=>h.stable hb
theorem Res.mono{P:Program}{Post Post':Value->World->Prop}{r:Result Next}(h:Res P Post r)(hp:∀v w,Post v w->Post' v w):Res P Post' r:=by
 cases r with
 | halt x w'=>cases h
 | ok x w'=>cases x<;>first|exact hp _ _ h|exact hp _ _ (show Post undef _ from h)|exact Calls.mono h λe w''⟨v,he,hp'⟩=>⟨v,he,hp _ _ hp'⟩|exact RoundIn.mono h λe w''⟨v,he,hp'⟩=>⟨v,he,hp _ _ hp'⟩|cases h
theorem OpQ.h{P:Program}{o:Oper}{L:Qa}{C:World->Prop}{v:Value}(h:OpQ P o L C v)(hs:QdJ C):OpH P o L C (λ_:Unit=>v) (λ_=>True) (λ_=>C):=
 λρ w hρ hc=>(h ρ w hρ hc).mono λ_ w'⟨h1,h2⟩=>⟨(),h1,trivial,hs w w' hc h2⟩
theorem FR.agr{n:Nat}{df:List Nat}{L:Qa}{a:Act}(h:FR n df L a):Agr L a.eval:=λ_ _ hx=>h.evl hx
section
variable{X:Ctx}{ops:Array Oper}{rest:List Oper}{k:List KI}{L:Qa}{C:World->Prop}{d ty:Nat}{op:Op}{pos:String}{aft:Array Edge}
theorem o_h{G:Type}{V:G->Value}{F:G->Prop}{C':G->World->Prop}(h:OpH X.P ⟨some d,op,ty,pos,aft,none⟩ L C V F C')(hd:Nat.blt d X.n=true)(next:∀g,F g->O X ops rest k ((d,V g)::L) (C' g)) :
  O X ops (⟨some d,op,ty,pos,aft,none⟩::rest) k L C:=by
 intro a w ha hw;refine wpListIn_plain rfl λK hK=>?_;exact Qbp (h a.eval w ha.agr hw) λv w'⟨g,hv,hf,hc⟩=>by subst hv;exact hK _ _ (next g hf _ _ (ha.put d _ hd) hc)
theorem ZG{G:Type}{V:G->Value}{F:G->Prop}{C':G->World->Prop}(h:OpH X.P ⟨none,op,ty,pos,aft,none⟩ L C V F C')(next:∀g,F g->O X ops rest k L (C' g)) :
  O X ops (⟨none,op,ty,pos,aft,none⟩::rest) k L C:=by
 intro a w ha hw;refine wpListIn_plain rfl λK hK=>?_;exact Qbp (h a.eval w ha.agr hw) λv w'⟨g,hv,hf,hc⟩=>by subst hv;exact hK _ _ (next g hf _ _ ha hc)
theorem o_q{w0:World}{M:List Nat}{As:List HA}{v:Value}(h:OpQ X.P ⟨some d,op,ty,pos,aft,none⟩ L (HS w0 M As) v)(hd:Nat.blt d X.n=true)(next:O X ops rest k ((d,v)::L) (HS w0 M As)) :
  O X ops (⟨some d,op,ty,pos,aft,none⟩::rest) k L (HS w0 M As):=o_h (h.h (HS.stab _ _ _)) hd λ_ _=>next
theorem o_on{j:Nat}{want:Bool}{dst:Option Nat}(dj:Nat)(b:Bool)(hj:(ops[j]?).bind (·.dst)=some dj)(hb:Qa.get L dj=some (.bool b))(hw:b=want)
  (h:O X ops (⟨dst,op,ty,pos,aft,none⟩::rest) k L C):O X ops (⟨dst,op,ty,pos,aft,some (j,want)⟩::rest) k L C:=by
 intro a w ha hw';have h1:=h a w ha hw';have hy:yielded ops a.tmps j=some b:=by simp[yielded,hj,ha.slot _ _ hb]
 unfold wpListIn at h1 ⊢;have hwant:Region.wanted ⟨dst,op,ty,pos,aft,some (j,want)⟩ (yielded ops a.tmps)=true:=by simp[Region.wanted,hy,hw]
 rw[if_pos hwant];rw[if_pos (by simp[Region.wanted])]at h1;exact h1
theorem Qlk{j:Nat}{want:Bool}(dj:Nat)(b:Bool)(hj:(ops[j]?).bind (·.dst)=some dj)(hb:Qa.get L dj=some (.bool b))(hw:b= !want)(hd:Nat.blt d X.n=true)
  (h:O X ops rest k ((d,undef)::L) C):O X ops (⟨some d,op,ty,pos,aft,some (j,want)⟩::rest) k L C:=by
 intro a w ha hw';have hy:yielded ops a.tmps j=some b:=by simp[yielded,hj,ha.slot _ _ hb]
 unfold wpListIn;rw[if_neg (by simp[Region.wanted,hy,hw])];exact⟨λ_ _=>trivial,h _ _ (ha.put d _ hd) hw'⟩
theorem QkM{j:Nat}{want:Bool}(dj:Nat)(hj:(ops[j]?).bind (·.dst)=some dj)(hb:Qa.get L dj=some undef)(hd:Nat.blt d X.n=true)
  (h:O X ops rest k ((d,undef)::L) C):O X ops (⟨some d,op,ty,pos,aft,some (j,want)⟩::rest) k L C:=by
 intro a w ha hw';have hy:yielded ops a.tmps j=none:=by simp[yielded,hj,ha.slot _ _ hb,undef]
 unfold wpListIn;rw[if_neg (by simp[Region.wanted,hy])];exact⟨λ_ _=>trivial,h _ _ (ha.put d _ hd) hw'⟩
theorem Qiu{j:Nat}{want:Bool}(dj:Nat)(b:Bool)(hj:(ops[j]?).bind (·.dst)=some dj)(hb:Qa.get L dj=some (.bool b))(hw:b= !want)
  (h:O X ops rest k L C):O X ops (⟨none,op,ty,pos,aft,some (j,want)⟩::rest) k L C:=by
 intro a w ha hw';have hy:yielded ops a.tmps j=some b:=by simp[yielded,hj,ha.slot _ _ hb]
 unfold wpListIn;rw[if_neg (by simp[Region.wanted,hy,hw])];exact⟨λ_ _=>trivial,h _ _ ha hw'⟩
theorem ZZ{P:Program}{r:Option Nat}{ops:Array Oper}{Q Q':Exit->Act->World->Prop}:∀(l m:List Oper)(a:Act)(w:World),wpListIn {Fence.wide with round:=r} 0 P ops Q' l a w->(∀a w,Q' .normal a w->wpListIn {Fence.wide with round:=r} 0 P ops Q m a w)->(∀e a w,e≠ .normal->Q' e a w->Q e a w) ->
  wpListIn {Fence.wide with round:=r} 0 P ops Q (l++m) a w
 | [],m,a,w,h,h1,_=>h1 a w h
 | o::l,m,a,w,h,h1,h2=>by
  rw[List.cons_append];unfold wpListIn at h ⊢;split
  ·rename_i hw;rw[if_pos hw]at h;have hm:=Oper.wpIn_mono (λa w h=>ZZ l m a w h h1 h2) h;refine⟨hm.1,?_⟩;have hm:=hm.2;generalize (o.semAt _ a.eval).run P w=res at hm ⊢;cases res with
   | ok x w'=>
    cases x<;>simp only[Oper.uponIn]at hm ⊢ <;>first|exact hm|skip
    ·exact⟨hm.1,CallsIn.mono hm.2 λe w'' he=>by
      cases e with
      | returned v=>exact he
      | panicked ch=>exact h2 _ _ _ (by simp) he
      | outgrown=>obtain⟨a',w3,hq⟩:=he;exact⟨a',w3,h2 _ _ _ (by simp) hq⟩⟩
    ·exact⟨hm.1,RoundIn.mono hm.2 λe w'' he=>by
      cases e with
      | returned v=>exact he
      | panicked ch=>exact h2 _ _ _ (by simp) he
      | outgrown=>obtain⟨a',w3,hq⟩:=he;exact⟨a',w3,h2 _ _ _ (by simp) hq⟩⟩
   | halt x w'=>
    cases x<;>simp only[Oper.uponIn]at hm ⊢ <;>first|exact hm|exact h2 _ _ _ (by simp) hm
  ·rename_i hw;rw[if_neg hw]at h;exact⟨h.1,ZZ l m _ _ h.2 h1 h2⟩
theorem QdP{J:Act->World->Prop}(e:Exit)(a:Act)(w:World)(he:e≠ .normal)(h:post X (.join J::k) e a w):post X k e a w:=by
 cases e<;>first|exact absurd rfl he|exact h
theorem QoO{α:Type}(m:Nat)(LJ:α->Qa)(CJ:α->World->Prop){l:List Oper}(h1:O X ops (l.take m) (.join (At X.n X.df LJ CJ)::k) L C)(h2:∀x,O X ops (l.drop m) k (LJ x) (CJ x)):O X ops l k L C:=by
 intro a w ha hw;have:=ZZ (Q:=post X k) _ (l.drop m) a w (h1 a w ha hw) (λa w⟨x,hx,hc⟩=>h2 x a w hx hc) (λe a w he h=>QdP e a w he h)
 simp_all
theorem Qrn(m dj dp:Nat)(b c:Bool){l:List Oper}(hb:Qa.get L dj=some (.bool b))
  (h1:b=true->O X ops (l.take m) (.join (At X.n X.df (λ_:Unit=>(dp,.bool c)::L) (λ_=>C))::k) L C)
  (h0:b=false->O X ops (l.take m) (.join (At X.n X.df (λ_:Unit=>(dp,.bool false)::L) (λ_=>C))::k) L C)
  (h2:O X ops (l.drop m) k ((dp,.bool (b&&c))::L) C):O X ops l k L C:=by
 refine QoO (α:=Unit) m (λ_=>(dp,.bool (b&&c))::L) (λ_=>C) ?_ (λ_=>h2);cases b with
 | true=>simpa using h1 rfl
 | false=>simpa using h0 rfl
theorem o_or(m dj dp:Nat)(b c:Bool){l:List Oper}(hb:Qa.get L dj=some (.bool b))
  (h1:b=false->O X ops (l.take m) (.join (At X.n X.df (λ_:Unit=>(dp,.bool c)::L) (λ_=>C))::k) L C)
  (h0:b=true->O X ops (l.take m) (.join (At X.n X.df (λ_:Unit=>(dp,.bool true)::L) (λ_=>C))::k) L C)
  (h2:O X ops (l.drop m) k ((dp,.bool (b||c))::L) C):O X ops l k L C:=by
 refine QoO (α:=Unit) m (λ_=>(dp,.bool (b||c))::L) (λ_=>C) ?_ (λ_=>h2);cases b with
 | true=>simpa using h0 rfl
 | false=>simpa using h1 rfl
end
def kEq:IntKind->IntKind->Bool
 | .i8,.i8| .i16,.i16| .i32,.i32| .i64,.i64| .u8,.u8| .u16,.u16| .u32,.u32| .u64,.u64=>true
 | _,_=>false
theorem Qa7{a b:IntKind}(h:kEq a b=true):a=b:=by cases a<;>cases b<;>first|rfl|cases h
def bits(op:BinOp)(k:IntKind)(x y:Int):Int:=
 match op with
 | .and=>k.wrap (BitVec.ofInt k.bits x &&& BitVec.ofInt k.bits y).toNat
 | .or=>k.wrap (BitVec.ofInt k.bits x ||| BitVec.ofInt k.bits y).toNat
 | .xor=>k.wrap (BitVec.ofInt k.bits x ^^^ BitVec.ofInt k.bits y).toNat
 | _=>k.wrap (BitVec.ofInt k.bits x &&& ~~~ BitVec.ofInt k.bits y).toNat
def Xm(op:BinOp)(k:IntKind)(a b:Int):Option Value:=
 match op with
 | .add=>some (.int k (k.wrap (a+b)))
 | .sub=>some (.int k (k.wrap (a-b)))
 | .mul=>some (.int k (k.wrap (a*b)))
 | .eql=>some (.bool (decide (a=b)))
 | .neq=>some (.bool (!decide (a=b)))
 | .lss=>some (.bool (decide (a<b)))
 | .leq=>some (.bool (decide (a<=b)))
 | .gtr=>some (.bool (decide (b<a)))
 | .geq=>some (.bool (decide (b<=a)))
 | .and=>some (.int k (bits .and k a b))
 | .or=>some (.int k (bits .or k a b))
 | .xor=>some (.int k (bits .xor k a b))
 | .andNot=>some (.int k (bits .andNot k a b))
 | _=>none
def QcE(op:BinOp)(l m:List UInt8):Option Value:=
 match op with
 | .eql=>some (.bool (decide (l=m)))
 | .neq=>some (.bool (!decide (l=m)))
 | .lss=>some (.bool (Op.bytesLess l m))
 | .leq=>some (.bool (Op.bytesLess l m||decide (l=m)))
 | .gtr=>some (.bool (!(Op.bytesLess l m||decide (l=m))))
 | .geq=>some (.bool (!Op.bytesLess l m))
 | _=>none
def QU(op:BinOp)(x y:Value):Option Value:=
 match x,y with
 | .int k a,.int k' b=>bif kEq k k' then Xm op k a b else none
 | .string ⟨⟨l⟩⟩,.string ⟨⟨m⟩⟩=>QcE op l m
 | _,_=>none
def QcJ(op:UnOp)(x:Value):Option Value:=
 match op,x with
 | .not,.bool b=>some (.bool (!b))
 | .neg,.int k n=>some (.int k (k.wrap (0-n)))
 | .xor,.int k n=>some (.int k (bits .xor k (if k.signed then -1 else k.max) n))
 | _,_=>none
def QmX(b:Bool)(x y:Value):Value:=
 match x,y with
 | .bool p,.bool q=>.bool (cond b p q)
 | x,y=>cond b x y
def evs(L:Qa):List Operand->Option (List Value)
 | []=>some []
 | x::xs=>match ev L x,evs L xs with
  | some v,some vs=>some (v::vs)
  | _,_=>none
def Qar(L:Qa):Op->Option Value
 | .move x| .assign x=>ev L x
 | .pick c a b=>match ev L c,ev L a,ev L b with
  | some (.bool t),some x,some y=>some (QmX t x y)
  | _,_,_=>none
 | .binOp op _ x y _=>match ev L x,ev L y with
  | some a,some b=>QU op a b
  | _,_=>none
 | .unOp op _ x=>match ev L x with
  | some a=>QcJ op a
  | _=>none
 | .extract x i=>match ev L x with
  | some (.tuple vs)=>vs.toList[i]?
  | _=>none
 | .makeFunc fn first cap=>match evs L first.toList,evs L cap.toList with
  | some f,some c=>some (.func fn f.toArray c.toArray)
  | _,_=>none
 | .nilCheck x=>match ev L x with
  | some (.pointer (some a))=>some (.pointer (some a))
  | some (.func (.func f) first cap)=>some (.func (.func f) first cap)
  | _=>none
 | _=>none
theorem Qgm(b:Bool)(x y:Value):QmX b x y=if b then x else y:=by
 cases b<;>unfold QmX<;>split<;>rfl
theorem QcB{L:Qa}{ρ:Operand->Value}(hρ:Agr L ρ):∀{xs:List Operand}{vs:List Value},evs L xs=some vs->xs.map ρ=vs
 | [],vs,h=>by cases h;rfl
 | x::xs,vs,h=>by
  simp only[evs]at h;split at h
  ·rename_i v vs' h1 h2;injection h with h
   subst h;simp[hρ x v h1,QcB hρ h2]
  ·cases h
theorem Qa1(a b:Int):(a==b)=decide (a=b):=by grind
theorem QgX{P:Program}{op:BinOp}{t:TypeId}{x y v:Value}(h:QU op x y=some v)(w:World):(binOp op t x y).run P w=.ok v w:=by
 unfold QU at h;split at h
 ·rename_i k a k' b;cases hk:kEq k k' with
  | false=>rw[hk]at h;cases h
  | true=>
   rw[hk]at h;obtain rfl:=Qa7 hk;simp only[cond_true]at h;cases op<;>simp only[Xm,Option.some.injEq,reduceCtorEq]at h<;>first|(subst h;simp[binOp,Op.intArith,Op.intBits,Op.intCmp,bits,Qa1,bne];done)|cases h
 ·rename_i l m;have hl:(ByteArray.mk ⟨l⟩).toList=l:=ByteArray.toList_eq _;have hm:(ByteArray.mk ⟨m⟩).toList=m:=ByteArray.toList_eq _;have hb:(l==m)=decide (l=m):=by rw[Bool.eq_iff_iff];simp
  cases op<;>simp only[QcE,Option.some.injEq,reduceCtorEq]at h<;>first|(subst h;simp[binOp,Op.stringOp,hl,hm,hb];done)|cases h
 ·cases h
theorem QhG{P:Program}{op:BinOp}{t:TypeId}{x y:Operand}{a b v:Value}(h:QU op a b=some v)(w:World):(eqGuard op t x y a b).run P w=.ok () w:=by
 unfold QU at h;unfold eqGuard;split at h<;>simp_all
theorem QhY{P:Program}{op:UnOp}{x v:Value}(h:QcJ op x=some v)(w:World):(Op.unary op x).run P w=.ok v w:=by
 unfold QcJ at h;split at h
 ·injection h with h;subst h;simp[Op.unary]
 ·injection h with h;subst h;simp[Op.unary,Op.intArith]
 ·injection h with h;subst h;simp[Op.unary,Op.intBits,bits]
 ·cases h
theorem Zx{P:Program}{o:Oper}{L:Qa}{v:Value}(h:Qar L o.op=some v):OpP P o L v:=by
 intro ρ w hρ;unfold execOp;unfold Qar at h;generalize o.op=op at *;cases op with
 | move x=>simp[hρ _ _ h]
 | assign x=>simp[hρ _ _ h]
 | pick c a b=>
  dsimp only at h;split at h
  ·rename_i t x y h1 h2 h3;injection h with h
   simp[hρ _ _ h1,hρ _ _ h2,hρ _ _ h3,asBool,<-h,Qgm]
  ·cases h
 | binOp op t x y t'=>
  dsimp only at h;split at h
  ·rename_i a b h1 h2;simp[hρ _ _ h1,hρ _ _ h2,QhG h,QgX h]
  ·cases h
 | unOp op t x=>
  dsimp only at h;split at h
  ·rename_i a h1;simp[hρ _ _ h1,QhY h]
  ·cases h
 | extract x i=>
  dsimp only at h;split at h
  ·rename_i vs h1;have h':vs[i]?=some v:=by rw[<-Array.getElem?_toList];exact h
   simp[hρ _ _ h1,Instr.extract,h']
  ·cases h
 | makeFunc fn first cap=>
  dsimp only at h;split at h
  ·rename_i f c h1 h2;injection h with h
   have e1:first.map ρ=f.toArray:=by rw[<-QcB hρ h1,<-List.map_toArray]
   have e2:cap.map ρ=c.toArray:=by rw[<-QcB hρ h2,<-List.map_toArray]
   simp[Instr.makeFunc,e1,e2,h]
  ·cases h
 | nilCheck x=>
  dsimp only at h;split at h
  ·rename_i a h1;injection h with h
   subst h;simp[hρ _ _ h1]
  ·rename_i f first cap h1
   injection h with h
   subst h;simp[hρ _ _ h1]
  ·cases h
 | _=>cases h
def tsz(P:Program)(t:TypeId):Option (Nat×Bool):=
 match P.info? t,P.underlying t with
 | some i,some d=>some (i.size,match d with| .struct _| .array _ _=>true|_=>false)
 | _,_=>none
def tfd(P:Program)(t:TypeId)(f:Nat):Option (Nat×TypeId):=
 match P.underlying t with
 | some (.struct fs)=>(fs[f]?).map λx=>(x.offset,x.type)
 | _=>none
def tki(P:Program)(t:TypeId):Option IntKind:=
 match P.underlying t with
 | some (.int k)=>some k
 | _=>none
def tsl(P:Program)(t:TypeId):Option (TypeId×Nat×Nat):=
 match P.underlying t with
 | some (.slice e)=>(P.info? e).map λi=>(e,i.size,i.bytes)
 | _=>none
def tar(P:Program)(t:TypeId):Option (Nat×TypeId×Nat):=
 match P.underlying t with
 | some (.array n e)=>(P.info? e).map λi=>(n,e,i.size)
 | _=>none
def Qz(P:Program)(t:TypeId):Option (List Value):=((P.info? t).bind (·.zero)).map λv=>v.cells.toList
section
variable{P:Program}{t:TypeId}{w:World}
theorem Qbl{n:Nat}{b:Bool}(h:tsz P t=some (n,b)):(isAgg t).run P w=.ok b w/\(Go.sizeOf t).run P w=.ok n w:=by
 unfold tsz at h;split at h
 ·rename_i i d h1 h2;simp only[Option.some.injEq,Prod.mk.injEq]at h;obtain⟨rfl,rfl⟩:=h;refine⟨?_,by simp[Go.sizeOf,typeInfo,h1]⟩;simp only[isAgg,Sem.run_bind,run_underlying h2,Result.andThen_ok];cases d<;>rfl
 ·cases h
theorem QbT{f off:Nat}{ft:TypeId}(h:tfd P t f=some (off,ft)):∃fs x,P.underlying t=some (.struct fs)/\fs[f]?=some x/\x.offset=off/\x.type=ft:=by grind[tfd]
theorem QO{e sz by':Nat}(h:tsl P t=some (e,sz,by')):P.underlying t=some (.slice e)/\∃i,P.info? e=some i/\i.size=sz/\i.bytes=by':=by
 unfold tsl at h;split at h
 ·rename_i e' hu;cases hf:P.info? e'<;>grind
 ·cases h
theorem Qbo{n e sz:Nat}(h:tar P t=some (n,e,sz)):P.underlying t=some (.array n e)/\∃i,P.info? e=some i/\i.size=sz:=by
 unfold tar at h;split at h
 ·rename_i n' e' hu;cases hf:P.info? e'<;>grind
 ·cases h
theorem Qdv{k:IntKind}(h:tki P t=some k):P.underlying t=some (.int k):=by grind[tki]
theorem Yh{z:List Value}(h:Qz P t=some z):∃i v,P.info? t=some i/\i.zero=some v/\v.cells.toList=z:=by
 unfold Qz at h;cases hi:P.info? t<;>simp_all
end
section
variable{P:Program}{o:Oper}{L:Qa}{C:World->Prop}
theorem Q5{src dst:TypeId}{x:Operand}{k0 k:IntKind}{n:Int}(ho:o.op=.convert src dst x)(hx:ev L x=some (.int k0 n))(h0:tki P src=some k0)(h1:tki P dst=some k):OpP P o L (.int k (k.wrap n)):=by
 intro ρ w hρ;simp[execOp,ho,convert,run_underlying (Qdv h0),run_underlying (Qdv h1),hρ _ _ hx,Conv.intToInt]
theorem Qic{src dst:TypeId}{x:Operand}{s:ByteArray}(ho:o.op=.convert src dst x)(hx:ev L x=some (.string s))(h0:P.underlying src=some .string)(h1:P.underlying dst=some .string):OpP P o L (.string s):=by
 intro ρ w hρ;simp[execOp,ho,convert,run_underlying h0,run_underlying h1,hρ _ _ hx]
theorem QkO{t t':TypeId}{x y:Operand}{k:IntKind}{a b:Int}(ho:o.op=.binOp .quo t x y t')(hx:ev L x=some (.int k a))(hy:ev L y=some (.int k b))(hb:b≠0):OpP P o L (.int k (k.wrap (a.tdiv b))):=by
 intro ρ w hρ;simp[execOp,ho,eqGuard,binOp,Op.intDiv,hρ _ _ hx,hρ _ _ hy,hb]
theorem Qji{t t':TypeId}{x y:Operand}{k:IntKind}{a b:Int}(ho:o.op=.binOp .rem t x y t')(hx:ev L x=some (.int k a))(hy:ev L y=some (.int k b))(hb:b≠0):OpP P o L (.int k (a.tmod b)):=by
 intro ρ w hρ;simp[execOp,ho,eqGuard,binOp,Op.intDiv,hρ _ _ hx,hρ _ _ hy,hb]
theorem Qhj{t t':TypeId}{x y:Operand}{a b:Int}(ho:o.op=.binOp .quo t x y t')(hx:ev L x=some (.int .i64 a))(hy:ev L y=some (.int .i64 b))(hb:0<b)(ha:0<=a)(ha':a<=9223372036854775807):OpP P o L (.int .i64 (a/b)):=by
 have h:=QkO (P:=P) ho hx hy om;rw[Int.tdiv_eq_ediv_of_nonneg ha,show IntKind.i64.wrap (a/b)=a/b from IntWalk.i64_in _ ⟨?_,?_⟩]at h
 ·exact h
 ·have:=Int.ediv_nonneg ha (by omega:0<=b);omega
 ·have:=Int.ediv_le_self b ha;omega
theorem QmP{t t':TypeId}{x y:Operand}{k:IntKind}{a b:Int}(ho:o.op=.binOp .rem t x y t')(hx:ev L x=some (.int k a))(hy:ev L y=some (.int k b))(hb:0<b)(ha:0<=a):OpP P o L (.int k (a%b)):=by
 have h:=Qji (P:=P) ho hx hy om
 grind
theorem QhF{t t':TypeId}{x y:Operand}{k k':IntKind}{a b:Int}(ho:o.op=.binOp .shl t x y t')(hx:ev L x=some (.int k a))(hy:ev L y=some (.int k' b))(hb:0<=b)(m:Nat)(hm:min b.toNat k.bits=m):OpP P o L (.int k (k.wrap (a*2^m))):=by
 intro ρ w hρ;simp[execOp,ho,eqGuard,binOp,Op.shift,hρ _ _ hx,hρ _ _ hy,show¬b<0 by omega,hm]
theorem QiS{t t':TypeId}{x y:Operand}{k k':IntKind}{a b:Int}(ho:o.op=.binOp .shr t x y t')(hx:ev L x=some (.int k a))(hy:ev L y=some (.int k' b))(hb:0<=b)(m:Nat)(hm:min b.toNat k.bits=m):OpP P o L (.int k (a/2^m)):=by
 intro ρ w hρ;simp[execOp,ho,eqGuard,binOp,Op.shift,hρ _ _ hx,hρ _ _ hy,show¬b<0 by omega,hm]
 grind
theorem Qi{t:TypeId}{x:Operand}{l:List UInt8}(ho:o.op=.call {callee:=.builtin .len,args:=#[x],argTypes:=#[t]})(hx:ev L x=some (.string (bs l)))(h:P.underlying t=some .string):OpP P o L (.int .i64 l.length):=by
 intro ρ w hρ;simp[execOp,ho,resolve,invoke,builtin,Builtin.len_,run_underlying h,hρ _ _ hx,goInt]
theorem YR{t e:TypeId}{x:Operand}{a:Option Addr}{n cap:Nat}(ho:o.op=.call {callee:=.builtin .len,args:=#[x],argTypes:=#[t]})(hx:ev L x=some (.slice a n cap))(h:P.underlying t=some (.slice e)):OpP P o L (.int .i64 n):=by
 intro ρ w hρ;simp[execOp,ho,resolve,invoke,builtin,Builtin.len_,run_underlying h,hρ _ _ hx,goInt]
theorem QD{t:TypeId}{x y:Operand}{l:List UInt8}{k:IntKind}{i:Int}(ho:o.op=.index t x y)(hx:ev L x=some (.string (bs l)))(hy:ev L y=some (.int k i))(h:P.underlying t=some .string)(j:Nat)(hj:i=(j:Int))(hlt:j<l.length) :
  OpP P o L (.int .u8 ((l.getD j 0).toNat:Int)):=by
 intro ρ w hρ
 have hb:(bs l)[j]?=some (l.getD j 0):=by
  rw[show(bs l)[j]?=l[j]? from by simp[getElem?_def,bs];rfl]
  grind
 subst hj;simp[execOp,ho,Instr.index,hρ _ _ hx,hρ _ _ hy,asIntOf,run_underlying h,hb]
def QkP(L:Qa)(lo:Option Operand)(a:Nat):Prop:=match lo with|none=>a=0|some y=>∃k i,ev L y=some (.int k i)/\i=(a:Int)
def Qng(L:Qa)(hi:Option Operand)(n b:Nat):Prop:=match hi with|none=>b=n|some y=>∃k i,ev L y=some (.int k i)/\i=(b:Int)
theorem QdO{P:Program}{L:Qa}{ρ:Operand->Value}{w:World}{lo hi:Option Operand}{n cap a b:Nat}(isSlice:Bool)(hρ:Agr L ρ)(hlo:QkP L lo a)(hhi:Qng L hi n b)(hab:a<=b)(hb:b<=cap) :
  (Instr.sliceBounds isSlice n cap (lo.map ρ) (hi.map ρ) none).run P w=.ok (a,b,cap) w:=by
 cases lo with
 | none=>
  cases hi with
  | none=>cases hlo;cases hhi;simp[Instr.sliceBounds]
  | some y=>
   obtain⟨k,i,h1,rfl⟩:=hhi;cases hlo;simp[Instr.sliceBounds,Instr.sliceBound,hρ _ _ h1,asIntOf,hb]
 | some z=>
  obtain⟨k2,i2,h2,rfl⟩:=hlo;cases hi with
  | none=>cases hhi;simp[Instr.sliceBounds,Instr.sliceBound,hρ _ _ h2,asIntOf,hab]
  | some y=>
   obtain⟨k,i,h1,rfl⟩:=hhi;simp[Instr.sliceBounds,Instr.sliceBound,hρ _ _ h1,hρ _ _ h2,asIntOf,hb,hab]
theorem QaT{t:TypeId}{x:Operand}{l:List UInt8}(lo hi:Option Operand)(a b:Nat)(ho:o.op=.slice t x lo hi none)(hx:ev L x=some (.string (bs l)))(h:P.underlying t=some .string)
  (hlo:QkP L lo a)(hhi:Qng L hi l.length b)(hab:a<=b)(hbl:b<=l.length) :
  OpP P o L (.string (bs ((l.take b).drop a))):=by
 intro ρ w hρ;have he:(bs l).extract a b=bs ((l.take b).drop a):=(QeQ _).trans (congrArg bs (by rw[Lib.extract_data,bs_data,List.drop_take]));have hb:=QdO (P:=P) (w:=w) false hρ hlo hhi hab (show b<=l.length from hbl);simp only[execOp,ho,Instr.sliceAt,Sem.run_bind,run_underlying h,Result.andThen_ok,Instr.slice,hρ _ _ hx,bs_size,Option.map_none,Option.isSome_none,Bool.false_eq_true,if_false,hb,he,Sem.run_pure]
theorem X1{t:TypeId}{x y:Operand}{l:List UInt8}(a:Nat){k:IntKind}{i:Int}(ho:o.op=.slice t x (some y) none none)(hx:ev L x=some (.string (bs l)))(hy:ev L y=some (.int k i))(h:P.underlying t=some .string)
  (hi:i=(a:Int))(ha:a<=l.length):OpP P o L (.string (bs (l.drop a))):=by
 have:=QaT (P:=P) (some y) none a l.length ho hx h ⟨k,i,hy,hi⟩ rfl ha (Nat.le_refl _)
 grind
theorem Yn{t:TypeId}{x y:Operand}{l:List UInt8}(b:Nat){k:IntKind}{i:Int}(ho:o.op=.slice t x none (some y) none)(hx:ev L x=some (.string (bs l)))(hy:ev L y=some (.int k i))(h:P.underlying t=some .string)
  (hi:i=(b:Int))(hb:b<=l.length):OpP P o L (.string (bs (l.take b))):=by
 have:=QaT (P:=P) none (some y) 0 b ho hx h rfl ⟨k,i,hy,hi⟩ (Nat.zero_le _) hb
 grind
theorem Qk{t t':TypeId}{x y:Operand}{l m:List UInt8}(ho:o.op=.binOp .add t x y t')(hx:ev L x=some (.string (bs l)))(hy:ev L y=some (.string (bs m)))(hlen:l.length+m.length<=9223372036854775807):OpP P o L (.string (bs (l++m))):=by
 intro ρ w hρ
 have hlen':(l.length:Int)+(m.length:Int)<=IntKind.i64.max:=by
  have:IntKind.i64.max=9223372036854775807:=by decide
  omega
 have e:bs l++bs m=bs (l++m):=(QeQ _).trans (congrArg bs (by simp[ByteArray.data_append]));simp[execOp,ho,eqGuard,binOp,Op.stringOp,hρ _ _ hx,hρ _ _ hy,e];exact hlen'
theorem ZT{st f:TypeId}{x:Operand}{b i off ft sz:Nat}{ag:Bool}(ho:o.op=.fieldAddr st x f)(hx:ev L x=some (.pointer (some ⟨b,i,none⟩)))(hf:tfd P st f=some (off,ft))(hs:tsz P ft=some (sz,ag))(hsz:Nat.blt 0 sz=true) :
  OpP P o L (.pointer (some ⟨b,i+off,none⟩)):=by
 intro ρ w hρ;obtain⟨fs,y,h1,h2,h3,h4⟩:=QbT hf;have h5:=(Qbl (w:=w) hs).2
 have hne:¬sz=0:=by
   have:0<sz:=by simpa[Nat.blt_eq]using hsz
   omega
 subst h4;simp[execOp,ho,Instr.fieldAt,run_underlying h1,h2,Instr.sureAddr,hρ _ _ hx,fieldPlace,h5,hne];unfold Addr.add
 grind
theorem Q8(b i n:Nat):(⟨b,i,none⟩:Addr).add n=⟨b,i+n,none⟩:=by
 unfold Addr.add;split
 ·grind
 ·rfl
theorem Qb{t e sz by':Nat}{x y:Operand}{a:Option Addr}{b i n cap:Nat}{k:IntKind}{ix:Int}(ho:o.op=.indexAddr t x y)(hx:ev L x=some (.slice a n cap))(hy:ev L y=some (.int k ix))(ht:tsl P t=some (e,sz,by'))(j:Nat)(hj:ix=(j:Int))(hlt:j<n)(ha:a=some ⟨b,i,none⟩) :
  OpP P o L (.pointer (some ⟨b,i+j*sz,none⟩)):=by
 intro ρ w hρ;obtain⟨h1,inf,h2,h3,_⟩:=QO ht;subst ha;subst hj;simp[execOp,ho,Instr.indexAt,hρ _ _ hx,hρ _ _ hy,asIntOf,run_underlying h1,hlt,Go.sizeOf,typeInfo,h2,h3,Q8]
theorem YX{t e sz len:Nat}{x y:Operand}{b i:Nat}{k:IntKind}{ix:Int}(ho:o.op=.indexAddr t x y)(hx:ev L x=some (.pointer (some ⟨b,i,none⟩)))(hy:ev L y=some (.int k ix))(ht:tar P t=some (len,e,sz))(j:Nat)(hj:ix=(j:Int))(hlt:j<len) :
  OpP P o L (.pointer (some ⟨b,i+j*sz,none⟩)):=by
 intro ρ w hρ;obtain⟨h1,inf,h2,h3⟩:=Qbo ht;subst hj;simp[execOp,ho,Instr.indexAt,hρ _ _ hx,hρ _ _ hy,asIntOf,run_underlying h1,hlt,Go.sizeOf,typeInfo,h2,h3,Q8,Instr.sureAddr]
def cut(cs:List Value)(off n:Nat):List Value:=(cs.drop off).take n
theorem Qe0{P:Program}{t n off:Nat}{cs:List Value}{w:World}{v:Value}(h:tsz P t=some (n,false))(hv:cs[off]?=some v):(part t cs.toArray off).run P w=.ok v w:=by
 have h1:=Qbl (w:=w) h;unfold part;simp[h1.1,hv]
theorem QeZ{P:Program}{t n off:Nat}{cs:List Value}{w:World}(h:tsz P t=some (n,true)):(part t cs.toArray off).run P w=.ok (.agg (cut cs off n).toArray) w:=by
 have h1:=Qbl (w:=w) h;unfold part
 simp_all[cut]
theorem Qm0{st f off ft n:Nat}{x:Operand}{cs:List Value}{v:Value}(ho:o.op=.field st x f)(hx:ev L x=some (.agg cs.toArray))(hf:tfd P st f=some (off,ft))(hs:tsz P ft=some (n,false))(hv:cs[off]?=some v):OpP P o L v:=by
 intro ρ w hρ;obtain⟨fs,y,h1,h2,h3,h4⟩:=QbT hf;simp[execOp,ho,Instr.field,run_underlying h1,h2,hρ _ _ hx,asAgg,h3,h4,Qe0 (w:=w) hs hv]
theorem Ql2{st f off ft n:Nat}{x:Operand}{cs:List Value}(ho:o.op=.field st x f)(hx:ev L x=some (.agg cs.toArray))(hf:tfd P st f=some (off,ft))(hs:tsz P ft=some (n,true)):OpP P o L (.agg (cut cs off n).toArray):=by
 intro ρ w hρ;obtain⟨fs,y,h1,h2,h3,h4⟩:=QbT hf;simp[execOp,ho,Instr.field,run_underlying h1,h2,hρ _ _ hx,asAgg,h3,h4,QeZ (w:=w) hs]
theorem Ql4{t e sz len n:Nat}{x y:Operand}{cs:List Value}{k:IntKind}{ix:Int}{v:Value}(ho:o.op=.index t x y)(hx:ev L x=some (.agg cs.toArray))(hy:ev L y=some (.int k ix))(ht:tar P t=some (len,e,sz))(hs:tsz P e=some (n,false))(j:Nat)(hj:ix=(j:Int))(hlt:j<len)(hv:cs[j*sz]?=some v):OpP P o L v:=by
 intro ρ w hρ;obtain⟨h1,inf,h2,h3⟩:=Qbo ht;subst hj;simp[execOp,ho,Instr.index,hρ _ _ hx,hρ _ _ hy,asIntOf,run_underlying h1,hlt,Go.sizeOf,typeInfo,h2,h3,Qe0 (w:=w) hs hv]
theorem Qma{t e sz len n:Nat}{x y:Operand}{cs:List Value}{k:IntKind}{ix:Int}(ho:o.op=.index t x y)(hx:ev L x=some (.agg cs.toArray))(hy:ev L y=some (.int k ix))(ht:tar P t=some (len,e,sz))(hs:tsz P e=some (n,true))(j:Nat)(hj:ix=(j:Int))(hlt:j<len):OpP P o L (.agg (cut cs (j*sz) n).toArray):=by
 intro ρ w hρ;obtain⟨h1,inf,h2,h3⟩:=Qbo ht;subst hj;simp[execOp,ho,Instr.index,hρ _ _ hx,hρ _ _ hy,asIntOf,run_underlying h1,hlt,Go.sizeOf,typeInfo,h2,h3,QeZ (w:=w) hs]
def Zi(P:Program)(t:TypeId):Option (List (Nat×Nat)):=
 match P.underlying t with
 | some (.struct fs)=>fs.toList.mapM λf=>(P.info? f.type).map λi=>(f.offset,i.size)
 | _=>none
def Qc:List Value->Nat->List Value->List Value
 | cs,_,[]=>cs
 | cs,i,v::vs=>Qc (cs.set i v) (i+1) vs
theorem Qf:∀(vs:List Value)(cs:List Value)(i:Nat),(Qc cs i vs).length=cs.length
 | [],_,_=>rfl
 | v::vs,cs,i=>by rw[Qc,Qf vs];simp
def YO(place:Nat->Option (Nat×Nat)):List Value->List (Nat×Value)->Option (List Value)
 | cells,[]=>some cells
 | cells,(i,v)::rest=>match place i with
  | none=>none
  | some (off,size)=>bif Nat.beq v.cells.toList.length size&&Nat.ble (off+v.cells.toList.length) cells.length then YO place (Qc cells off v.cells.toList) rest else none
theorem QbG(off:Nat):∀(vs:List Value)(k:Nat)(cs:Array Value),((vs.zipIdx k).foldl (λ(cs:Array Value)(p:Value×Nat)=>cs.setIfInBounds (off+p.2) p.1) cs).toList=Qc cs.toList (off+k) vs
 | [],_,_=>rfl
 | v::vs,k,cs=>by
  rw[List.zipIdx_cons,List.foldl_cons,QbG off vs (k+1),Qc,Array.toList_setIfInBounds];rfl
theorem Qdu{place:Nat->Option (Nat×Nat)}:∀{ps:List (Nat×Value)}{cells:List Value}{cs:List Value},YO place cells ps=some cs->Instr.fill place cells.toArray ps=some cs.toArray
 | [],cells,cs,h=>by
  simp only[YO,Option.some.injEq]at h;subst h;rfl
 | (i,v)::rest,cells,cs,h=>by
  simp only[YO]at h;unfold Instr.fill;cases hp:place i with
  | none=>rw[hp]at h;cases h
  | some os=>
   obtain⟨off,size⟩:=os;rw[hp]at h;simp only at h ⊢;cases hc:(Nat.beq v.cells.toList.length size&&Nat.ble (off+v.cells.toList.length) cells.length)with
   | false=>rw[hc]at h;cases h
   | true=>
    rw[hc]at h;simp only[cond_true]at h;simp only[Bool.and_eq_true]at hc;have h1:v.cells.toList.length=size:=Nat.eq_of_beq_eq_true hc.1;have h2:off+v.cells.toList.length<=cells.length:=Nat.le_of_ble_eq_true hc.2
    have e1:(decide (v.cells.size≠size)||decide (off+v.cells.size>cells.toArray.size))=false:=by
     simp only[Array.length_toList]at h1 h2;simp[h1];omega
    rw[e1];simp only[Bool.false_eq_true,if_false]
    have e2:(v.cells.zipIdx.foldl (λcs(x:Value×Nat)=>match x with|(c,j)=>cs.setIfInBounds (off+j) c) cells.toArray)=(Qc cells off v.cells.toList).toArray:=by
     apply Array.ext';rw[<-Array.foldl_toList,Array.toList_zipIdx];have:=QbG off v.cells.toList 0 cells.toArray
     simpa using this
    rw[e2];exact Qdu h
def ZJ(L:Qa):List (Nat×Operand)->Option (List (Nat×Value))
 | []=>some []
 | (i,x)::r=>match ev L x,ZJ L r with
  | some v,some vs=>some ((i,v)::vs)
  | _,_=>none
theorem ZM{ρ:Operand->Value}(hρ:Agr L ρ):∀{ps:List (Nat×Operand)}{vs:List (Nat×Value)},ZJ L ps=some vs->ps.map (λp=>(p.1,ρ p.2))=vs
 | [],vs,h=>by cases h;rfl
 | (i,x)::r,vs,h=>by
  simp only[ZJ]at h;split at h
  ·rename_i v vs' h1 h2;injection h with h
   subst h;simp[hρ x v h1,ZM hρ h2]
  ·cases h
theorem QdS{P:Program}{w:World}:∀{fs:List Field}{pl:List (Nat×Nat)},(fs.mapM λf=>(P.info? f.type).map λi=>(f.offset,i.size))=some pl ->
  (fs.mapM λf=>(do pure (f.offset,<-Go.sizeOf f.type):Sem (Nat×Nat))).run P w=.ok pl w
 | [],pl,h=>by simp_all
 | f::fs,pl,h=>by
  rw[List.mapM_cons]at h;cases hi:P.info? f.type with
  | none=>rw[hi]at h;simp at h
  | some i=>
   rw[hi]at h;simp only[Option.map_some,Option.bind_eq_bind,Option.bind_some]at h;cases hr:(fs.mapM λf=>(P.info? f.type).map λi=>(f.offset,i.size))with
   | none=>rw[hr]at h;simp at h
   | some pl'=>
    rw[hr]at h;simp only[Option.bind_some,Option.pure_def,Option.some.injEq]at h;subst h;have h1:(Go.sizeOf f.type).run P w=.ok i.size w:=by simp[Go.sizeOf,typeInfo,hi]
    rw[List.mapM_cons];simp only[Sem.run_bind,h1,Result.andThen_ok,Sem.run_pure,QdS hr]
theorem XP{t:TypeId}{parts:Array (Nat×Operand)}{vs:List (Nat×Value)}{pl:List (Nat×Nat)}{z cs:List Value}(ho:o.op=.build t parts)(hp:ZJ L parts.toList=some vs)(hpl:Zi P t=some pl)(hz:Qz P t=some z)
  (hcs':YO (λi=>pl[i]?) z vs=some cs):OpP P o L (.agg cs.toArray):=by
 intro ρ w hρ;obtain⟨inf,zv,h1,h2,h3⟩:=Yh hz;have hcs:=Qdu hcs';have hpe:(λi:Nat=>pl[i]?)=(pl.toArray[·]?):=by funext i;simp
 rw[hpe]at hcs;unfold Zi at hpl;split at hpl
 ·rename_i fs hu;have hm:=QdS (w:=w) hpl;have hz':zv.cells=z.toArray:=by rw[<-h3]
  have hpm:(parts.map λp=>(p.1,ρ p.2)).toList=vs:=by rw[Array.toList_map];exact ZM hρ hp
  have hzr:(zeroValue t).run P w=.ok zv w:=by simp[zeroValue,typeInfo,h1,h2]
  have hmr:(fs.mapM λf=>(do pure (f.offset,<-Go.sizeOf f.type):Sem (Nat×Nat))).run P w=.ok pl.toArray w:=by
   rw[Array.mapM_eq_mapM_toList];simp only[Sem.run_map,hm,Result.andThen_ok]
  have hb:(Instr.build t (parts.map λp=>(p.1,ρ p.2))).run P w=.ok (.agg cs.toArray) w:=by
   unfold Instr.build;simp only[Sem.run_bind,hzr,Result.andThen_ok,run_underlying hu,hmr,hz',hpm,hcs,Sem.run_pure]
  simp only[execOp,ho,Sem.run_bind];rw[show(parts.map λx=>match x with|(i,x)=>(i,ρ x))=parts.map λp=>(p.1,ρ p.2)from rfl,hb];rfl
 ·cases hpl
theorem QgC{t e sz len:Nat}{parts:Array (Nat×Operand)}{vs:List (Nat×Value)}{z cs:List Value}(ho:o.op=.build t parts)(hp:ZJ L parts.toList=some vs)(ht:tar P t=some (len,e,sz))(hz:Qz P t=some z)
  (hcs':YO (λi=>some (i*sz,sz)) z vs=some cs):OpP P o L (.agg cs.toArray):=by
 intro ρ w hρ;obtain⟨inf,zv,h1,h2,h3⟩:=Yh hz;obtain⟨hu,inf',h4,h5⟩:=Qbo ht;have hcs:=Qdu hcs';have hz':zv.cells=z.toArray:=by rw[<-h3]
 have hpm:(parts.map λp=>(p.1,ρ p.2)).toList=vs:=by rw[Array.toList_map];exact ZM hρ hp
 have hzr:(zeroValue t).run P w=.ok zv w:=by simp[zeroValue,typeInfo,h1,h2]
 have hsz:(Go.sizeOf e).run P w=.ok sz w:=by simp[Go.sizeOf,typeInfo,h4,h5]
 have hb:(Instr.build t (parts.map λp=>(p.1,ρ p.2))).run P w=.ok (.agg cs.toArray) w:=by
  unfold Instr.build;simp only[Sem.run_bind,hzr,Result.andThen_ok,run_underlying hu,hsz,hz',hpm,hcs,Sem.run_pure]
 simp only[execOp,ho,Sem.run_bind]
 simp_all
end
section
variable{P:Program}{o:Oper}{L:Qa}{w0:World}{M:List Nat}{As As':List HA}
theorem ZN{t b i:Nat}{v:Value}{w:World}(hs:tsz P t=some (1,false))(hc:w.cell? ⟨b,i,none⟩=some v):(Instr.loadAt t (.pointer (some ⟨b,i,none⟩))).run P w=.ok v w:=by
 simp[Instr.loadAt,Instr.sureAddr,loadVar,(Qbl (w:=w) hs).1,hc]
theorem QaR{t b i n:Nat}{vs:List Value}{w:World}(hs:tsz P t=some (n,true))(hl:vs.length=n)(hc:∀j v,vs[j]?=some v->w.cell? ⟨b,i+j,none⟩=some v):(Instr.loadAt t (.pointer (some ⟨b,i,none⟩))).run P w=.ok (.agg vs.toArray) w:=by
 have h:=Qbl (w:=w) hs;have hr:=run_loadCells_list (P:=P) (w:=w) ⟨b,i,none⟩ vs (λj v hv=>by rw[Q8];exact hc j v hv);rw[hl]at hr;simp[Instr.loadAt,Instr.sureAddr,loadVar,h.1,h.2,hr]
theorem Qan{t x b tot i:Nat}{bt:TypeId}{cs:List Value}{v:Value}(ho:o.op=.load t (.tmp x))(hx:Qa.get L x=some (.pointer (some ⟨b,i,none⟩)))(hs:tsz P t=some (1,false))(hp:QF As (.blk b bt tot cs) As')(hv:cs[i]?=some v):OpQ P o L (HS w0 M As) v:=by
 intro ρ w hρ hw;simp only[execOp,ho,Sem.run_bind,hρ (.tmp x) _ hx,ZN hs ((hw.blk_get hp).cell hv),Result.andThen_ok,Sem.run_pure];exact⟨rfl,Below.refl _ _⟩
theorem QcA{t x b tot i n:Nat}{bt:TypeId}{cs:List Value}(ho:o.op=.load t (.tmp x))(hx:Qa.get L x=some (.pointer (some ⟨b,i,none⟩)))(hs:tsz P t=some (n,true))(hp:QF As (.blk b bt tot cs) As')(hl:Nat.ble (i+n) cs.length=true):OpQ P o L (HS w0 M As) (.agg (cut cs i n).toArray):=by
 intro ρ w hρ hw;have hl':i+n<=cs.length:=Nat.le_of_ble_eq_true hl
 have hr:=QaR (b:=b) (i:=i) (w:=w) (vs:=cut cs i n) hs (by simp[cut];omega) (λj v hv=>(hw.blk_get hp).cell (by
  unfold cut at hv;rw[List.getElem?_take]at hv;split at hv
  ·simpa using hv
  ·cases hv))
 simp only[execOp,ho,Sem.run_bind,hρ (.tmp x) _ hx,hr,Result.andThen_ok,Sem.run_pure];exact⟨rfl,Below.refl _ _⟩
theorem Qp{t x b i:Nat}{v:Value}(ho:o.op=.load t (.tmp x))(hx:Qa.get L x=some (.pointer (some ⟨b,i,none⟩)))(hs:tsz P t=some (1,false))(hr:Rd w0 M b i v):OpQ P o L (HS w0 M As) v:=by
 intro ρ w hρ hw;simp only[execOp,ho,Sem.run_bind,hρ (.tmp x) _ hx,ZN hs (hw.rd hr),Result.andThen_ok,Sem.run_pure];exact⟨rfl,Below.refl _ _⟩
theorem Qr{t x b i n:Nat}(vs:List Value)(ho:o.op=.load t (.tmp x))(hx:Qa.get L x=some (.pointer (some ⟨b,i,none⟩)))(hs:tsz P t=some (n,true))(hl:vs.length=n)(hr:∀j v,vs[j]?=some v->Rd w0 M b (i+j) v):OpQ P o L (HS w0 M As) (.agg vs.toArray):=by
 intro ρ w hρ hw;simp only[execOp,ho,Sem.run_bind,hρ (.tmp x) _ hx,QaR hs hl (λj v hv=>hw.rd (hr j v hv)),Result.andThen_ok,Sem.run_pure];exact⟨rfl,Below.refl _ _⟩
theorem Qd4(t:TypeId)(v:Value)(w:World):(newVar t v).run P w=.ok ⟨w.heap.size,0,none⟩ (w.alloc (.cells v.cells t)):=by
 simp[newVar,newRow]
theorem Qdx{t:TypeId}{z:List Value}(ho:o.op=.alloc t)(hz:Qz P t=some z):OpH P o L (HS w0 M As) (λb=>.pointer (some ⟨b,0,none⟩)) (λ_=>True) (λb=>HS w0 M (.blk b t z.length z::As)):=by
 intro ρ w hρ hw;obtain⟨inf,zv,h1,h2,h3⟩:=Yh hz;have hzr:(zeroValue t).run P w=.ok zv w:=by simp[zeroValue,typeInfo,h1,h2]
 simp only[execOp,ho,Instr.alloc,Sem.run_bind,hzr,Result.andThen_ok,Qd4,Sem.run_pure];refine⟨w.heap.size,rfl,trivial,?_⟩;have:=hw.blk_new t zv.cells
 grind
theorem Qo2{t:TypeId}{x:Operand}{v:Value}(ho:o.op=.box t x)(hx:ev L x=some v):OpH P o L (HS w0 M As) (λb=>.pointer (some ⟨b,0,none⟩)) (λ_=>True) (λb=>HS w0 M (.blk b t v.cells.toList.length v.cells.toList::As)):=by
 intro ρ w hρ hw;simp only[execOp,ho,Instr.box,Sem.run_bind,hρ _ _ hx,Result.andThen_ok,Qd4,Sem.run_pure];exact⟨w.heap.size,rfl,trivial,by simpa using hw.blk_new t v.cells⟩
theorem Xe{b i:Nat}{t:TypeId}{tot:Nat}:∀(vs:List Value)(j:Nat)(cs:List Value)(w:World),QL b t tot cs w->i+j+vs.length<=cs.length->(∀v∈vs,v.oneCell'=true) ->
  ∃w',(storeCells ⟨b,i,none⟩ vs j).run P w=.ok () w'/\QL b t tot (Qc cs (i+j) vs) w'/\w'.os=w.os/\w'.tape=w.tape/\w'.output=w.output/\w'.heap.size=w.heap.size/\∀k,k≠b->w'.heap[k]?=w.heap[k]?
 | [],j,cs,w,h,_,_=>⟨w,rfl,h,rfl,rfl,rfl,rfl,λ_ _=>rfl⟩
 | v::vs,j,cs,w,h,hl,h1=>by
  simp only[List.length_cons]at hl;have htot:cs.length<=tot:=by obtain⟨cur,fr,_,_,h3,_⟩:=h;exact h3
  obtain⟨u,hu⟩:=h.cellsome (i:=i+j) om;have hf:=h.frozen (i:=i+j) om
  have hst:(store ((⟨b,i,none⟩:Addr).add j) v).run P w=.ok () (w.setCell ⟨b,i+j,none⟩ v):=by
   rw[Q8,run_store P w _ v _ (h1 v (List.mem_cons_self ..)),hu];simp[hf]
  obtain⟨w',hr,hb,r1,r2,r3,r4,r5⟩:=Xe (i:=i) vs (j+1) (cs.set (i+j) v) _ (h.set (i:=i+j) om v) (by simp;omega) (λv hv=>h1 v (List.mem_cons_of_mem _ hv));refine⟨w',?_,by rw[Qc];exact hb,by rw[r1];rfl,by rw[r2];rfl,by rw[r3];rfl,by rw[r4];simp,λk hk=>(r5 k hk).trans (QaL w b (i+j) v k hk)⟩;rw[storeCells]
  simp_all
theorem X5{t x b tot i n:Nat}{y:Operand}{bt:TypeId}{ag:Bool}{cs:List Value}{v:Value}(ho:o.op=.store t (.tmp x) y)(hx:Qa.get L x=some (.pointer (some ⟨b,i,none⟩)))(hy:ev L y=some v)(hs:tsz P t=some (n,ag))(hn:v.cells.toList.length=n)
  (hp:Put As (.blk b bt tot cs) (.blk b bt tot (Qc cs i v.cells.toList)) As')(hl:i+n<=cs.length)(h1:v.cells.toList.all (·.oneCell')=true) :
  OpH P o L (HS w0 M As) (λ_:Unit=>undef) (λ_=>True) (λ_=>HS w0 M As'):=by
 intro ρ w hρ hw;obtain⟨Rs,hpk,hperm⟩:=hp.ex;have hw1:=hw.pick hpk;obtain⟨w',hr,hb,r1,r2,r3,r4,r5⟩:=Xe (P:=P) (i:=i) v.cells.toList 0 cs w hw1.head om (λu hu=>List.all_eq_true.1 h1 u hu);have hsz:=(Qbl (w:=w) hs).2;have hne:¬(v.cells.size≠n):=by simpa using hn
 simp only[execOp,ho,Instr.storeAt,Instr.sureAddr,storeVar,Sem.run_bind,hρ (.tmp x) _ hx,hρ _ _ hy,Sem.run_pure,Result.andThen_ok,hsz,hne,if_false,hr];exact⟨(),rfl,trivial,(HS.swap hw1 (B:=.blk b bt tot (Qc cs i v.cells.toList)) (λ_ h=>h) r1 r2 r3 r4 (λk hk=>r5 k (by simpa[HA.fp_blk]using hk)) hb).perm hperm⟩
def QJ(P:Program)(f:FuncId):Bool:=match P.funcs[f]? with
 | some fn=> !(fn.name== "runtime.NumGoroutine")&& !fn.body.isNone
 | none=>false
theorem Qct{f:FuncId}{args:Array Value}{w:World}(h:QJ P f=true):(callFunc f args).run P w=.ok (.enter f args) w:=by
 unfold QJ at h;split at h
 ·rename_i fn hf;simp only[Bool.and_eq_true,Bool.not_eq_true']at h;have h1:¬(fn.name== "runtime.NumGoroutine")=true:=by rw[h.1];simp
  have h2:¬fn.body.isNone=true:=by rw[h.2];simp
  unfold callFunc
  simp_all
 ·cases h
theorem Zr{f:FuncId}{c:Operand}{args:Array Operand}{vs:List Value}{first cap:Array Value}{at':Array TypeId}{ρ:Operand->Value}{w:World}(ho:o.op=.call {callee:=.value c,args:=args,argTypes:=at'})(hρ:Agr L ρ)(hc:ev L c=some (.func (.func f) first cap))(hf:QJ P f=true)(ha:evs L args.toList=some vs) :
  (execOp ρ o).run P w=.ok (.enter f (first++vs.toArray++cap)) w:=by
 have e1:args.map ρ=vs.toArray:=by rw[<-QcB hρ ha,<-List.map_toArray]
 unfold execOp;simp only[ho,resolve,Sem.run_bind,hρ _ _ hc,Deferred.ofValue,e1,Sem.run_pure,Result.andThen_ok,invoke,Qct hf]
theorem Qd{f:FuncId}{args:Array Operand}{vs:List Value}{v:Value}{at':Array TypeId}(ho:o.op=.call {callee:=.value (.func f),args:=args,argTypes:=at'})(hf:QJ P f=true)(ha:evs L args.toList=some vs)
  (hc:∀w,HS w0 M As w->Calls P f vs.toArray w λe w'=>e=.returned v/\Below w.heap.size w w'):OpQ P o L (HS w0 M As) v:=by
 intro ρ w hρ hw;rw[Zr ho hρ rfl hf ha];have h1:=hc w hw;simp only[Array.empty_append,Array.append_empty];exact Calls.mono h1 λe w' h=>⟨v,h.1,rfl,h.2⟩
theorem Qk8{G:Type}{V:G->Value}{F:G->Prop}{Bs:G->List HA}{f:FuncId}{args:Array Operand}{vs:List Value}{at':Array TypeId}(ho:o.op=.call {callee:=.value (.func f),args:=args,argTypes:=at'})(hf:QJ P f=true)(ha:evs L args.toList=some vs)
  (hc:∀w,HS w0 M As w->Calls P f vs.toArray w λe w'=>∃g,e=.returned (V g)/\F g/\HS w [] (Bs g) w'):OpH P o L (HS w0 M As) V F (λg=>HS w0 M (Bs g++As)):=by
 intro ρ w hρ hw;rw[Zr ho hρ rfl hf ha];have h1:=hc w hw;simp only[Array.empty_append,Array.append_empty];exact Calls.mono h1 λe w'⟨g,he,hf,hb⟩=>⟨V g,he,g,rfl,hf,hw.call hb⟩
theorem Qow{G:Type}{V:G->Value}{F:G->Prop}{Bs:G->List HA}{Cs Ds:List HA}{Mc:List Nat}{f:FuncId}{args:Array Operand}{vs:List Value}{at':Array TypeId}(ho:o.op=.call {callee:=.value (.func f),args:=args,argTypes:=at'})(hf:QJ P f=true)(ha:evs L args.toList=some vs)
  (hp:As.Perm (Cs++Ds))(hM:∀b∈Mc,∃A∈Cs,b∈A.fp)(hc:∀w,HS w0 M As w->Calls P f vs.toArray w λe w'=>∃g,e=.returned (V g)/\F g/\HS w Mc (Bs g) w'):OpH P o L (HS w0 M As) V F (λg=>HS w0 M (Bs g++Ds)):=by
 intro ρ w hρ hw;rw[Zr ho hρ rfl hf ha];have h1:=hc w hw;simp only[Array.empty_append,Array.append_empty];exact Calls.mono h1 λe w'⟨g,he,hf,hb⟩=>⟨V g,he,g,rfl,hf,(hw.perm hp).callM hM hb⟩
theorem Qb5{f:FuncId}{c:Operand}{args:Array Operand}{vs:List Value}{first cap:Array Value}{v:Value}{at':Array TypeId}(ho:o.op=.call {callee:=.value c,args:=args,argTypes:=at'})(hcv:ev L c=some (.func (.func f) first cap))(hf:QJ P f=true)(ha:evs L args.toList=some vs)
  (hc:∀w,HS w0 M As w->Calls P f (first++vs.toArray++cap) w λe w'=>e=.returned v/\Below w.heap.size w w'):OpQ P o L (HS w0 M As) v:=by
 intro ρ w hρ hw;rw[Zr ho hρ hcv hf ha];exact Calls.mono (hc w hw) λe w' h=>⟨v,h.1,rfl,h.2⟩
theorem Qg{t e sz by' len:Nat}{parts:Array (Nat×Operand)}{vs:List (Nat×Value)}{z cs:List Value}(ho:o.op=.buildSlice t len parts)(hp:ZJ L parts.toList=some vs)(ht:tsl P t=some (e,sz,by'))(hz:Qz P e=some z)(hlen:Nat.ble (len*sz) 16777216=true)(h0:Nat.blt 0 (len*sz)=true)
  (hcs':YO (λi=>some (i*sz,sz)) ((List.range (len*sz)).map λi=>z.getD (i%z.length) default) vs=some cs) :
  OpH P o L (HS w0 M As) (λb=>.slice (some ⟨b,0,none⟩) len len) (λ_=>True) (λb=>HS w0 M (.blk b e cs.length cs::As)):=by
 intro ρ w hρ hw;obtain⟨inf,zv,h1,h2,h3⟩:=Yh hz;obtain⟨hu,inf',h4,h5,_⟩:=QO ht
 have hcs:Instr.fill (λi=>some (i*sz,sz)) ((Array.range (len*sz)).map (z.toArray[· %z.toArray.size]!)) vs=some cs.toArray:=by
  rw[<-Qdu hcs'];congr 1;apply Array.ext';simp only[Array.toList_map,Array.toList_range,List.size_toArray];refine List.map_congr_left λi _=>?_;simp[List.getD_eq_getElem?_getD,getElem!_def];cases z[i%z.length]?<;>rfl
 have hz':zv.cells=z.toArray:=by rw[<-h3]
 have hpm:(parts.map λp=>(p.1,ρ p.2)).toList=vs:=by rw[Array.toList_map];exact ZM hρ hp
 have hzr:(zeroValue e).run P w=.ok zv w:=by simp[zeroValue,typeInfo,h1,h2]
 have hsz:(Go.sizeOf e).run P w=.ok sz w:=by simp[Go.sizeOf,typeInfo,h4,h5]
 have hlen':¬(len*sz>2^24):=by have:=Nat.le_of_ble_eq_true hlen;omega
 have h0':¬(len*sz=0):=by
   have:0<len*sz:=by simpa[Nat.blt_eq]using h0
   omega
 have hb:(Instr.buildSlice t len (parts.map λp=>(p.1,ρ p.2))).run P w=.ok (.slice (some ⟨w.heap.size,0,none⟩) len len) (w.alloc (.cells cs.toArray e)):=by
  unfold Instr.buildSlice;simp only[Sem.run_bind,run_underlying hu,Result.andThen_ok,hsz,if_neg hlen',if_neg h0',hzr,Sem.run_pure,hz',hpm,hcs,newRow,run_newObj,World.alloc_eq]
 simp only[execOp,ho,Sem.run_bind];rw[show(parts.map λx=>match x with|(i,x)=>(i,ρ x))=parts.map λp=>(p.1,ρ p.2)from rfl,hb];exact⟨w.heap.size,rfl,trivial,by simpa using hw.blk_new e cs.toArray⟩
theorem ZS{src dst e:TypeId}{x:Operand}{l:List UInt8}(ho:o.op=.convert src dst x)(hx:ev L x=some (.string (bs l)))(hs:P.underlying src=some .string)(hd:P.underlying dst=some (.slice e))(he:P.underlying e=some (.int .u8))(h5:e=u8T)(hl:l.length<=maxLen) :
  OpH P o L (HS w0 M As) (λp:Nat×Nat=>.slice (some ⟨p.1,0,none⟩) l.length p.2) (λp=>l.length<=p.2/\p.2<=maxLen) (λp=>HS w0 M (.blk p.1 e p.2 (l.map λb=>.int .u8 b.toNat)::As)):=by
 intro ρ w hρ hw;have hr:=run_bytes_of_string (P:=P) w src dst e (bs l) hs hd he;simp only[execOp,ho,Sem.run_bind,hρ _ _ hx,hr,Result.andThen_ok,Sem.run_pure];have hge:=grownCap_ge w (bs l).size 0 e;have hle:=grownCap_le_maxLen w (bs l).size 0 e hl;refine⟨(w.heap.size,grownCap w (bs l).size 0 e),rfl,⟨hge,hle⟩,?_⟩;generalize hcap:grownCap w (bs l).size 0 e=cap at *
 have hsz:(bytesRow (bs l) cap).size=cap:=by
  simp only[bytesRow,Array.size_append,Array.size_map,Array.size_replicate]
  simp_all
 refine hw.drew.alloc _ _ rfl ⟨_,_,heap_alloc_new _ _,Nat.le_of_eq hsz.symm,by simpa using hge,λi hi=>?_,Nat.le_succ _,λi h2 h3=>?_⟩
 ·simp only[List.length_map]at hi;simp[bytesRow,Array.getElem?_append,bs,hi]
 grind
theorem Qid{src e:TypeId}{x:Operand}{b i n c tot:Nat}{cs:List Value}(ho:o.op=.convert src src x)(hx:ev L x=some (.slice (some ⟨b,i,none⟩) n c))(hs:P.underlying src=some (.slice e))(he:P.underlying e=some (.int .u8))
  (hp:Put As (.blk b u8T tot cs) (.blk b u8T tot cs) As'):OpH P o L (HS w0 M As) (λ_:Unit=>.slice (some ⟨b,i,none⟩) n c) (λ_=>True) (λ_=>HS w0 M As'):=by
 intro ρ w hρ hw;obtain⟨Rs,hpk,hperm⟩:=hp.ex;have hw1:=hw.pick hpk;obtain⟨k,hk,hb⟩:=QL.mark hw1.head
 have hr:(convert src src (.slice (some ⟨b,i,none⟩) n c)).run P w=.ok (.slice (some ⟨b,i,none⟩) n c) (w.freeze ⟨b,k,none⟩ 1):=by
  simp[convert,run_underlying hs,run_underlying he,markStringish,hk]
 simp only[execOp,ho,Sem.run_bind,hρ _ _ hx,hr,Result.andThen_ok,Sem.run_pure];have e3:(w.freeze ⟨b,k,none⟩ 1).heap.size=w.heap.size:=by simp[World.freeze]
 exact⟨(),rfl,trivial,(HS.swap hw1 (B:=.blk b u8T tot cs) (w':=w.freeze ⟨b,k,none⟩ 1) (λ_ h=>h) (by simp[World.freeze]) (by simp[World.freeze]) (by simp[World.freeze]) e3 (λk' hk'=>QdH w b k 1 k' (by simpa[HA.fp_blk]using hk')) hb).perm hperm⟩
theorem Qmt{src dst e:TypeId}{x:Operand}{a:Option Addr}{n cap:Nat}(l:List UInt8)(ho:o.op=.convert src dst x)(hx:ev L x=some (.slice a n cap))(hs:P.underlying src=some (.slice e))(hd:P.underlying dst=some .string)(he:P.underlying e=some (.int .u8))(hl:l.length=n)
  (hc:∀w,HS w0 M As w->0<n->∃b i,a=some ⟨b,i,none⟩/\∀j(hj:j<l.length),w.cell? ⟨b,i+j,none⟩=some (.int .u8 (l[j].toNat:Int))):OpQ P o L (HS w0 M As) (.string (bs l)):=by
 intro ρ w hρ hw
 have hr:(convert src dst (.slice a n cap)).run P w=.ok (.string (bs l)) w:=by
  rcases Nat.eq_zero_or_pos n with h0|h0
  ·subst h0;have:l=[]:=List.eq_nil_of_length_eq_zero hl;subst this;cases a with
   | none=>exact run_convert_bytes_nil w src e hs he 0 cap dst hd
   | some ad=>exact run_convert_bytes_back w src dst e ad cap [] hs he hd (λj hj=>absurd hj (Nat.not_lt_zero _))
  ·obtain⟨b,i,rfl,h1⟩:=hc w hw h0;subst hl;exact run_convert_bytes_back w src dst e ⟨b,i,none⟩ cap l hs he hd (λj hj=>by rw[Q8];exact h1 j hj)
 simp only[execOp,ho,Sem.run_bind,hρ _ _ hx,hr,Result.andThen_ok,Sem.run_pure];exact⟨rfl,Below.refl _ _⟩
end
def Ent(As Bs:List HA):Prop:=∃Cs,As.Perm (Bs++Cs)
theorem Ent.nil{As:List HA}:Ent As []:=⟨As,.refl _⟩
theorem Ent.cons{As As' Bs:List HA}{A:HA}(h:QF As A As')(r:Ent As' Bs):Ent As (A::Bs):=by
 obtain⟨Cs,hc⟩:=r;exact⟨Cs,h.perm.trans (List.Perm.cons _ hc)⟩
theorem HS.ent{w0 w:World}{M:List Nat}{As Bs:List HA}(he:Ent As Bs)(h:HS w0 M As w):HS w0 M Bs w:=by
 obtain⟨Cs,hc⟩:=he;exact(h.perm hc).sub (List.sublist_append_left _ _)
theorem Qep{P:Program}{b:Nat}{t:TypeId}{tot:Nat}:∀(vs:List Value)(cs:List Value)(w:World),QL b t tot cs w->cs.length+vs.length<=tot->(∀v∈vs,v.oneCell'=true)->∀(o j:Nat),o+j=cs.length ->
  ∃w',(storeCells ⟨b,o,none⟩ vs j).run P w=.ok () w'/\QL b t tot (cs++vs) w'/\w'.os=w.os/\w'.tape=w.tape/\w'.output=w.output/\w'.heap.size=w.heap.size/\∀k,k≠b->w'.heap[k]?=w.heap[k]?
 | [],cs,w,h,_,_,o,j,_=>⟨w,rfl,by simpa using h,rfl,rfl,rfl,rfl,λ_ _=>rfl⟩
 | v::vs,cs,w,h,hl,h1,o,j,hj=>by
  simp only[List.length_cons]at hl;obtain⟨u,hu⟩:=h.cellsome (i:=cs.length) om;have hf:=h.frozen (i:=cs.length) om
  have hst:(store ((⟨b,o,none⟩:Addr).add j) v).run P w=.ok () (w.setCell ⟨b,cs.length,none⟩ v):=by
   rw[Q8,hj,run_store P w _ v _ (h1 v (List.mem_cons_self ..)),hu];simp[hf]
  have h2:QL b t tot (cs++[v]) (w.setCell ⟨b,cs.length,none⟩ v):=by
   obtain⟨cur,fr,e1,e2,e3,e4,e5⟩:=h;refine⟨cur.setIfInBounds cs.length v,fr,by simp[World.setCell,Array.getElem?_modify,e1],by simpa using e2,by simp;omega,λi hi=>?_,by simpa using e5⟩;simp only[List.length_append,List.length_cons,List.length_nil]at hi;rw[Array.getElem?_setIfInBounds]
   by_cases e:cs.length=i
   ·subst e;rw[if_pos rfl,if_pos om];simp
   ·rw[if_neg e,e4 i om,List.getElem?_append_left om]
  obtain⟨w',hr,hb,r1,r2,r3,r4,r5⟩:=Qep (P:=P) vs (cs++[v]) _ h2 (by simp;omega) (λv hv=>h1 v (List.mem_cons_of_mem _ hv)) o (j+1) (by simp;omega);refine⟨w',?_,by simpa using hb,by rw[r1];rfl,by rw[r2];rfl,by rw[r3];rfl,by rw[r4];simp,λk hk=>(r5 k hk).trans (QaL w b _ v k hk)⟩;rw[storeCells];simp only[Sem.run_bind,hst,Result.andThen_ok,hr]
def Src(a:Option Addr)(news:List Value)(w:World):Prop:=news≠[]->∃b i,a=some ⟨b,i,none⟩/\∀j u,news[j]?=some u->w.cell? ⟨b,i+j,none⟩=some u
theorem Yr{P:Program}{sz m c:Nat}{a:Option Addr}{news:List Value}{w:World}(hl:news.length=m*sz)(h:Src a news w):(Builtin.firstCells sz m (.slice a m c)).run P w=.ok news.toArray w:=by
 cases news with
 | nil=>
  cases a with
  | none=>simp[Builtin.firstCells]
  | some ad=>exact run_firstCells_some w sz m ad m c [] hl (λj v hv=>by simp at hv)
 | cons u us=>
  obtain⟨b,i,rfl,h2⟩:=h (by simp);exact run_firstCells_some w sz m ⟨b,i,none⟩ m c _ hl (λj v hv=>by rw[Q8];exact h2 j v hv)
theorem Qne{P:Program}{t xt ty e n m cap:Nat}{inf:TypeInfo}{zv x:Value}{a:Option Addr}{olds news:List Value}{w:World}(hu:P.underlying t=some (.slice e))(hxt:P.underlying xt=some .string\/∃e',P.underlying xt=some (.slice e'))(hi:P.info? e=some inf)(hz:inf.zero=some zv)
  (hlen:(Builtin.lenOf x).run P w=.ok m w)(hfc:(Builtin.firstCells inf.size m x).run P w.drew=.ok news.toArray w.drew)(hfo:(Builtin.firstCells inf.size n (.slice a n cap)).run P w.drew=.ok olds.toArray w.drew)
  (hg:cap<n+m)(h63:((n+m:Nat):Int)<=9223372036854775807)(hfit:Builtin.nextslicecap (n+m) cap*inf.bytes<=281474976710656) :
  (Builtin.append_ #[t,xt] ty #[.slice a n cap,x]).run P w=.ok (.slice (some ⟨w.heap.size,0,none⟩) (n+m) (grownCap w (n+m) cap e)) (w.drew.alloc (.cells (olds.toArray++news.toArray++Builtin.zeroCells zv.cells (grownCap w (n+m) cap e-(n+m))) e)):=by
 have hn:¬(n+m<=cap):=om
 have h63':¬(9223372036854775807<((n:Int)+(m:Int))):=om
 have h48':¬(281474976710656<Builtin.nextslicecap (n+m) cap*inf.bytes):=om
 rcases hxt with hxd|⟨e',hxd⟩
 ·simp[Builtin.append_,run_underlying hu,run_underlying hxd,Go.sizeOf,typeInfo,zeroValue,hi,hz,hlen,hn,h63',h48',Question.forced,hfc,hfo,newRow,grownCap];congr 2;apply Array.ext';simp[List.append_assoc]
 ·simp[Builtin.append_,run_underlying hu,run_underlying hxd,Go.sizeOf,typeInfo,zeroValue,hi,hz,hlen,hn,h63',h48',Question.forced,hfc,hfo,newRow,grownCap];congr 2;apply Array.ext';simp[List.append_assoc]
theorem QgW{P:Program}{t xt ty e n m cap g:Nat}{inf:TypeInfo}{x:Value}{news:List Value}{w w':World}(hu:P.underlying t=some (.slice e))(hxt:P.underlying xt=some .string\/∃e',P.underlying xt=some (.slice e'))(hi:P.info? e=some inf)
  (hlen:(Builtin.lenOf x).run P w=.ok m w)(hfc:(Builtin.firstCells inf.size m x).run P w=.ok news.toArray w)(hst:(storeCells ((⟨g,0,none⟩:Addr).add (n*inf.size)) news).run P w=.ok () w')
  (hg:n+m<=cap) :
  (Builtin.append_ #[t,xt] ty #[.slice (some ⟨g,0,none⟩) n cap,x]).run P w=.ok (.slice (some ⟨g,0,none⟩) (n+m) cap) w':=by
 rcases hxt with hxd|⟨e',hxd⟩
 ·simp[Builtin.append_,run_underlying hu,run_underlying hxd,Go.sizeOf,typeInfo,hi,hlen,hg,hfc,hst]
 ·simp[Builtin.append_,run_underlying hu,run_underlying hxd,Go.sizeOf,typeInfo,hi,hlen,hg,hfc,hst]
theorem Qg0{P:Program}{t xt ty e:Nat}{inf:TypeInfo}{x:Value}{w:World}(hu:P.underlying t=some (.slice e))(hxt:P.underlying xt=some .string\/∃e',P.underlying xt=some (.slice e'))(hi:P.info? e=some inf)
  (hlen:(Builtin.lenOf x).run P w=.ok 0 w)(hfc:(Builtin.firstCells inf.size 0 x).run P w=.ok #[] w) :
  (Builtin.append_ #[t,xt] ty #[.slice none 0 0,x]).run P w=.ok (.slice none 0 0) w:=by
 rcases hxt with hxd|⟨e',hxd⟩
 ·simp[Builtin.append_,run_underlying hu,run_underlying hxd,Go.sizeOf,typeInfo,hi,hlen,hfc]
 ·simp[Builtin.append_,run_underlying hu,run_underlying hxd,Go.sizeOf,typeInfo,hi,hlen,hfc]
theorem Qeo{P:Program}{t xt ty e sz by' n m:Nat}{v x:Value}{z xs news:List Value}{w w0:World}{M:List Nat}{As As':List HA}(ht:tsl P t=some (e,sz,by'))(hxt:P.underlying xt=some .string\/∃e',P.underlying xt=some (.slice e'))(hz:Qz P e=some z)(hzs:z.length=sz)
  (hw:HS w0 M As w)(hp:QF As (.own v e sz n xs) As')(hlen:(Builtin.lenOf x).run P w=.ok m w)(hfc:(Builtin.firstCells sz m x).run P w=.ok news.toArray w)(hfc':(Builtin.firstCells sz m x).run P w.drew=.ok news.toArray w.drew)(hl:news.length=m*sz)(h1:∀u∈news,u.oneCell'=true)
  (hroom:(n+m)*by'<=140737488355328)(hmax:n+m<=maxLen) :
  ∃v' w',(Builtin.append_ #[t,xt] ty #[v,x]).run P w=.ok v' w'/\HS w0 M (.own v' e sz (n+m) (xs++news)::As') w':=by
 obtain⟨hu,inf,hi,hs1,hs2⟩:=QO ht;obtain⟨inf',zv,h4,h5,h6⟩:=Yh hz;rw[hi]at h4;injection h4 with h4
 subst h4;subst hs1;subst hs2;have hpk:=hw.pick hp;obtain⟨hxl,hown⟩:=hpk.head;have hlx:(xs++news).length=(n+m)*inf.size:=by rw[List.length_append,hxl,hl,Nat.add_mul]
 have hmx:((n+m:Nat):Int)<=9223372036854775807:=by simp only[maxLen]at hmax;omega
 have grow:∀(a:Option Addr)(cap:Nat),v=.slice a n cap->cap<n+m->(Builtin.firstCells inf.size n (.slice a n cap)).run P w.drew=.ok xs.toArray w.drew ->
   ∃v' w',(Builtin.append_ #[t,xt] ty #[v,x]).run P w=.ok v' w'/\HS w0 M (.own v' e inf.size (n+m) (xs++news)::As') w':=by
  intro a cap hv hcap hold;subst hv;have hfit:=growslice_fits hcap hroom;have hge:=grownCap_ge w (n+m) cap e;have hle:=grownCap_le_maxLen w (n+m) cap e hmax;refine⟨_,_,Qne hu hxt hi h5 hlen hfc' hold hcap hmx hfit,?_⟩;generalize grownCap w (n+m) cap e=N at *;refine((hw.drew.pick hp).tail).alloc _ _ rfl ⟨hlx,.inr ⟨_,N,rfl,hge,hle,_,_,heap_alloc_new _ _,?_,?_,λi hi=>?_,Nat.le_refl _,λ_ _ h=>absurd h (Nat.not_lt_zero _)⟩⟩
  ·refine Nat.le_of_eq (Eq.symm ?_);simp only[Array.size_append,List.size_toArray,size_zeroCells];have hzl:zv.cells.size=inf.size:=by rw[<-hzs,<-h6];simp
   rw[hzl,hxl,hl,<-Nat.add_mul,<-Nat.add_mul];congr 1;omega
  ·rw[hlx];exact Nat.mul_le_mul_right _ hge
  ·rw[Array.getElem?_append_left (by simpa using hi)];simp
 rcases hown with⟨rfl,rfl⟩|⟨g,cap,rfl,hnc,hcm,hblk⟩
 ·have hx0:xs=[]:=List.eq_nil_of_length_eq_zero (by simpa using hxl);subst hx0;rcases Nat.eq_zero_or_pos m with rfl|hm
  ·have hn0:news=[]:=List.eq_nil_of_length_eq_zero (by simpa using hl);subst hn0;exact⟨.slice none 0 0,w,Qg0 hu hxt hi hlen hfc,by simpa using hpk⟩
  ·exact grow none 0 rfl om (by simp[Builtin.firstCells])
 ·by_cases hr:n+m<=cap
  ·obtain⟨w',hst,hb,r1,r2,r3,r4,r5⟩:=Qep (P:=P) news xs w hblk (by rw[hxl,hl,<-Nat.add_mul];exact Nat.mul_le_mul_right _ hr) h1 (n*inf.size) 0 om;refine⟨_,w',QgW hu hxt hi hlen hfc (by rw[Q8,Nat.zero_add];exact hst) hr,HS.swap hpk (B:=.own (.slice (some ⟨g,0,none⟩) (n+m) cap) e inf.size (n+m) (xs++news)) (λ_ h=>h) r1 r2 r3 r4 (λk hk=>r5 k (by simpa[HA.fp_own,HA.fp_blk,Value.ownBlock]using hk)) ⟨hlx,.inr ⟨g,cap,rfl,hr,hcm,hb⟩⟩⟩
  ·refine grow _ cap rfl om ?_
   exact Yr (w:=w.drew) hxl λ_=>⟨g,0,rfl,λj u hu=>by
    have:=hblk.cell hu
    simpa using this⟩
section
variable{P:Program}{o:Oper}{L:Qa}{w0:World}{M:List Nat}{As As':List HA}
theorem Qmh{t xt e e' sz by' n m c:Nat}{s x:Operand}{v:Value}{a:Option Addr}{z xs:List Value}(news:List Value)(ho:o.op=.call {callee:=.builtin .append,args:=#[s,x],argTypes:=#[t,xt]})(hs:ev L s=some v)(hx:ev L x=some (.slice a m c))(ht:tsl P t=some (e,sz,by'))(hxt:P.underlying xt=some (.slice e'))(hz:Qz P e=some z)(hzs:z.length=sz)
  (hp:QF As (.own v e sz n xs) As')(hsrc:∀w,HS w0 M As w->Src a news w)(hl:news.length=m*sz)(h1:∀u∈news,u.oneCell'=true)(hroom:(n+m)*by'<=140737488355328)(hmax:n+m<=maxLen) :
  OpH P o L (HS w0 M As) (λv':Value=>v') (λ_=>True) (λv'=>HS w0 M (.own v' e sz (n+m) (xs++news)::As')):=by
 intro ρ w hρ hw;obtain⟨v',w',hr,hw'⟩:=Qeo (P:=P) (ty:=o.type) ht (.inr ⟨e',hxt⟩) hz hzs hw hp (x:=.slice a m c) rfl (Yr hl (hsrc w hw)) (Yr (w:=w.drew) hl (hsrc w hw)) hl h1 hroom hmax;simp only[execOp,ho,resolve,Sem.run_bind,Sem.run_pure,Result.andThen_ok,invoke,builtin,List.map_toArray,List.map_cons,List.map_nil,hρ _ _ hs,hρ _ _ hx,hr];exact⟨v',rfl,trivial,hw'⟩
theorem Xx{b tot:Nat}{bt:TypeId}{cs:List Value}(hp:QF As (.blk b bt tot cs) As'):∀w,HS w0 M As w->Src (some ⟨b,0,none⟩) cs w:=
 λ_ hw _=>⟨b,0,rfl,λj u hu=>by simpa using(hw.blk_get hp).cell hu⟩
theorem Xf{c x y:Operand}{b:Bool}{v:Value}(ho:o.op=.pick c x y)(hc:ev L c=some (.bool b))(hb:b=true)(hx:ev L x=some v):OpP P o L v:=by
 intro ρ w hρ;subst hb;simp[execOp,ho,hρ _ _ hc,asBool,hρ _ _ hx]
theorem Xk{c x y:Operand}{b:Bool}{v:Value}(ho:o.op=.pick c x y)(hc:ev L c=some (.bool b))(hb:b=false)(hy:ev L y=some v):OpP P o L v:=by
 intro ρ w hρ;subst hb;simp[execOp,ho,hρ _ _ hc,asBool,hρ _ _ hy]
end
theorem Qkt{e:Int}(h1: -9223372036854775808<=e)(h2:e<=9223372036854775807):Value.int .i64 (IntKind.i64.wrap e)=Value.int .i64 e:=by rw[IntWalk.i64_in _ ⟨h1,h2⟩]
def QbJ:List Nat->Qa->Qa
 | _,[]=>[]
 | md,(k,v)::r=>bif md.any (Nat.beq k)then QbJ md r else(k,v)::QbJ (k::md) r
def QmS(n:Nat)(df:List Nat){α:Type}(LJ:α->Qa)(CJ:α->World->Prop)(I:α->Prop)(m:α->Nat)(x:α)(a:Act)(w:World):Prop:=∃y,m y<m x/\I y/\FR n df (LJ y) a/\CJ y w
section
variable{X:Ctx}{k:List KI}{L:Qa}{C:World->Prop}
theorem Qs{α:Type}{c:Code}(md:List Nat)(Lm:α->Qa)(CJ:α->World->Prop)(I:α->Prop)(m:α->Nat)(x0:α)(hI:I x0)(hL:QaO L (Lm x0++QbJ md L))(hC:∀w,C w->CJ x0 w)
  (h:∀x,I x->S X (.c c::.join (QmS X.n X.df (λx=>Lm x++QbJ md L) CJ I m x)::k) (Lm x++QbJ md L) (CJ x)):S X (.c (.loop c)::k) L C:=by
 refine Qly (α:={x:α // I x}) (λx=>Lm x.1++QbJ md L) (λx=>CJ x.1) (λx=>m x.1) ⟨x0,hI⟩ hL hC λx=>?_;intro a w ha hw;refine wpIn_mono (h x.1 x.2 a w ha hw) λe a w he=>?_;cases e with
 | normal=>
  obtain⟨y,hm,hy,hf,hc⟩:=he;exact⟨⟨y,hy⟩,hm,hf,hc⟩
 | _=>exact he
theorem Qv{α:Type}{LJ:α->Qa}{CJ:α->World->Prop}{I:α->Prop}{m:α->Nat}{x:α}(y:α)(hm:m y<m x)(hI:I y)(hL:QaO L (LJ y))(hC:∀w,C w->CJ y w):S X (.join (QmS X.n X.df LJ CJ I m x)::k) L C:=
 λ_ w ha hw=>⟨y,hm,hI,ha.sub hL.all,hC w hw⟩
def AtI(n:Nat)(df:List Nat){α:Type}(LJ:α->Qa)(CJ:α->World->Prop)(I:α->Prop)(a:Act)(w:World):Prop:=∃x,I x/\FR n df (LJ x) a/\CJ x w
theorem YE{α:Type}{c:Code}(md:List Nat)(Lm:α->Qa)(CJ:α->World->Prop)(I:α->Prop)(h1:S X (.c c::.join (AtI X.n X.df (λx=>Lm x++QbJ md L) CJ I)::k) L C)(h2:∀x,I x->S X k (Lm x++QbJ md L) (CJ x)):S X (.c c::k) L C:=by
 intro a w ha hw;refine wpIn_mono (h1 a w ha hw) λe a w he=>?_;cases e with
 | normal=>obtain⟨x,hx,hf,hc⟩:=he;exact h2 x hx a w hf hc
 | _=>exact he
theorem QM{α:Type}{LJ:α->Qa}{CJ:α->World->Prop}{I:α->Prop}(x:α)(hI:I x)(hL:QaO L (LJ x))(hC:∀w,C w->CJ x w):S X (.join (AtI X.n X.df LJ CJ I)::k) L C:=
 λ_ w ha hw=>⟨x,hI,ha.sub hL.all,hC w hw⟩
end
def XV(P:Program)(ops:Array Oper)(i:Nat)(a:Act)(C:World->Prop)(K:Act->(World->Prop)->Prop):Prop:=
 match ops[i]? with
 | none=>K a C
 | some o=>if Region.wanted o (yielded ops a.tmps)then
   ∃(G:Type)(V:G->Value)(F:G->Prop)(C':G->World->Prop),(∀w,C w->Res P (λu w'=>∃g,u=V g/\F g/\C' g w') ((execOp a.eval o).run P w))/\∀g,F g->K (a.put o.dst (V g)) (C' g)
  else K (a.put o.dst undef) C
def Qgp(F:List Nat)(B:World->Prop)(listed:Array Bool)(C:World->Prop):Prop:=(∀f∈F,listed.getD f false=false)->(∀w,C w->B w)/\QdJ C
def WG(P:Program)(ops:Array Oper)(Q:Act->World->Prop)(F:List Nat)(B:World->Prop):Nat->Array Bool->Act->(World->Prop)->Prop
 | 0,listed,a,C=>Qgp F B listed C/\Region.ready .any ops listed=[]/\∀w,C w->Q a w
 | fuel+1,listed,a,C=>Qgp F B listed C/\(Region.ready .any ops listed=[]->∀w,C w->Q a w) /\
   ∀i∈Region.ready .any ops listed,XV P ops i a C λa' C'=>WG P ops Q F B fuel (listed.setIfInBounds i true) a' C'
section
variable{P:Program}{ops:Array Oper}{Q:Act->World->Prop}{F:List Nat}{B:World->Prop}
theorem XV.mono{i:Nat}{a:Act}{C:World->Prop}{K K':Act->(World->Prop)->Prop}(h:∀a C,K a C->K' a C)(hs:XV P ops i a C K):XV P ops i a C K':=by
 unfold XV at *;split
 ·grind
 ·rename_i o ho;simp only[ho]at hs;split
  ·rename_i hw;simp only[hw,if_true]at hs;obtain⟨G,V,Fg,C',h1,h2⟩:=hs;exact⟨G,V,Fg,C',h1,λg hg=>h _ _ (h2 g hg)⟩
  grind
theorem WG.good:∀{fuel:Nat}{listed:Array Bool}{a:Act}{C:World->Prop},WG P ops Q F B fuel listed a C->Qgp F B listed C
 | 0,_,_,_,h=>h.1
 | _+1,_,_,_,h=>h.1
theorem YM{r:Option Nat}{Q':Exit->Act->World->Prop}(hQ:∀a w,Q a w->Q' .normal a w):∀(fuel:Nat)(listed:Array Bool)(a:Act)(C:World->Prop)(w:World),C w->WG P ops Q F B fuel listed a C->wpAnyIn {Fence.wide with round:=r} 0 P .any ops Q' fuel listed a w
 | 0,_,_,_,_,hw,h=>⟨h.2.1,hQ _ _ (h.2.2 _ hw)⟩
 | fuel+1,listed,a,C,w,hw,h=>⟨λh0=>hQ _ _ (h.2.1 h0 _ hw),λi hi=>by
   have hs:=h.2.2 i hi;unfold XV at hs;unfold wpOpIn;split
   ·rename_i ho;simp only[ho]at hs;exact YM hQ fuel _ _ _ _ hw hs
   ·rename_i o ho;simp only[ho]at hs;split
    ·rename_i hw';simp only[hw',if_true]at hs;obtain⟨G,V,Fg,C',h1,h2⟩:=hs;exact Qbp (h1 w hw) λv w'⟨g,hv,hf,hc⟩=>by subst hv;exact YM hQ fuel _ _ _ _ hc (h2 g hf)
    ·rename_i hw';simp only[hw']at hs;exact⟨λ_ _=>trivial,YM hQ fuel _ _ _ _ hw hs⟩⟩
def QhT(ops:Array Oper)(x y:Nat):Bool:=match ops[x]? with
 | some o=>o.after.any λe=>Region.binds .any e&&Nat.beq e.on y
 | none=>false
def QbO(ops:Array Oper):Nat->List Nat->Nat->Bool
 | x,[],y=>QhT ops x y
 | x,p::ps,y=>QhT ops x p&&QbO ops p ps y
def Qba(ops:Array Oper)(listed:Array Bool):Prop:=∀x y,QhT ops x y=true->listed.getD x false=true->listed.getD y false=true
theorem QbW{j y:Nat}{listed:Array Bool}(hj:j∈Region.ready .any ops listed)(he:QhT ops j y=true):listed.getD y false=true:=by
 obtain⟨_,oj,hoj,hall⟩:=mem_ready.1 hj;unfold QhT at he;simp only[hoj]at he;obtain⟨e,he1,hb⟩:=Array.any_eq_true'.1 he;simp only[Bool.and_eq_true]at hb;have:=Nat.eq_of_beq_eq_true hb.2
 grind
theorem Qch{listed:Array Bool}(hc:Qba ops listed):∀{ps:List Nat}{x y:Nat},QbO ops x ps y=true->listed.getD x false=true->listed.getD y false=true
 | [],_,_,h,hx=>hc _ _ h hx
 | p::ps,x,y,h,hx=>by
  simp only[QbO,Bool.and_eq_true]at h;exact Qch hc h.2 (hc _ _ h.1 hx)
theorem Qgf{listed:Array Bool}(hc:Qba ops listed):∀{ps:List Nat}{x y:Nat},QbO ops x ps y=true->x∈Region.ready .any ops listed->listed.getD y false=true
 | [],_,_,h,hx=>QbW hx h
 | p::ps,x,y,h,hx=>by grind[QbO,Qch,QbW]
theorem Zs{listed:Array Bool}{i j:Nat}(h:listed.getD j false=true):(listed.setIfInBounds i true).getD j false=true:=by
 by_cases e:i=j
 ·subst e;rcases Nat.lt_or_ge i listed.size with h'|h'<;>simp_all
 simp_all
theorem Qba.set{listed:Array Bool}{j:Nat}(hc:Qba ops listed)(hj:j∈Region.ready .any ops listed):Qba ops (listed.setIfInBounds j true):=by
 intro x y he hx
 by_cases e:j=x
 ·grind[Zs,QbW]
 ·rw[getD_set_ne false e]at hx;exact Zs (hc x y he hx)
theorem QcN{j:Nat}{listed:Array Bool}(hj:j∈Region.ready .any ops listed):listed.getD j true=false:=(mem_ready.1 hj).1
theorem XN{listed:Array Bool}{j:Nat}(h:listed.getD j true=false):listed.getD j false=false:=by grind
def Qbf(P:Program)(ops:Array Oper)(B:World->Prop)(o:Oper)(v:Value)(a:Act):Prop:=
 (Region.wanted o (yielded ops a.tmps)=true/\∀w,B w->Res P (λu w'=>u=v/\Below w.heap.size w w') ((execOp a.eval o).run P w)) \/
 (Region.wanted o (yielded ops a.tmps)=false/\v=undef)
theorem Qbf.of_same{o:Oper}{v:Value}{a a':Act}(hy:Qbf P ops B o v a)(he:execOp a'.eval o=execOp a.eval o)(hw:Region.wanted o (yielded ops a'.tmps)=Region.wanted o (yielded ops a.tmps)):Qbf P ops B o v a':=by grind[Qbf]
def Qbs(P:Program)(ops:Array Oper)(o:Oper)(v:Value)(a:Act):Prop:=
 (Region.wanted o (yielded ops a.tmps)=true/\∀w,(execOp a.eval o).run P w=.ok (.value v) w) \/
 (Region.wanted o (yielded ops a.tmps)=false/\v=undef)
theorem Qbs.of_same{o:Oper}{v:Value}{a a':Act}(hy:Qbs P ops o v a)(he:execOp a'.eval o=execOp a.eval o)(hw:Region.wanted o (yielded ops a'.tmps)=Region.wanted o (yielded ops a.tmps)):Qbs P ops o v a':=by grind[Qbs]
theorem QeV{j:Nat}{oi oj:Oper}{v:Value}(hj:ops[j]?=some oj)(hap:oi.apart ops oj=true)(hsj:∀cs b,oj.op≠ .select cs b){K:Act->(World->Prop)->Prop}{a:Act}{C:World->Prop}
  (h:XV P ops j (a.put oi.dst v) C K):XV P ops j a C λa' C'=>∃u,a'=a.put oj.dst u/\K (a'.put oi.dst v) C':=by
 obtain⟨h1,h2,h3⟩:=Oper.apart_spec hap;unfold XV at *;simp only[hj]at *;rw[wanted_put oj a oi.dst v h1]at h;split
 ·rename_i hw;simp only[hw,if_true]at h;obtain⟨G,V,Fg,C',e1,e2⟩:=h;rw[execOp_put oj hsj a oi.dst v h1]at e1;exact⟨G,V,Fg,C',e1,λg hg=>⟨V g,rfl,by rw[<-Act.put_comm a v _ h2];exact e2 g hg⟩⟩
 ·rename_i hw;simp only[hw]at h;exact⟨undef,rfl,by rw[<-Act.put_comm a v undef h2];exact h⟩
theorem Qhp{i:Nat}{oi:Oper}{v:Value}(hi:ops[i]?=some oi)(hiF:i ∉ F)(hsel:∀(j:Nat)(o:Oper)cs b,ops[j]?=some o->o.op≠ .select cs b)(hwait:∀f∈F,∃ps,QbO ops f ps i=true) :
  ∀(fuel:Nat)(listed:Array Bool)(a:Act)(C:World->Prop),
   (∀j oj,ops[j]?=some oj->j≠i->listed.getD j true=false->(∀e∈oj.after,Region.binds .any e=true->e.on≠i)->oi.apart ops oj=true) ->
   Qba ops listed->(∀f∈F,listed.getD f false=false)->i∈Region.ready .any ops listed->Qbf P ops B oi v a ->
   WG P ops Q F B fuel (listed.setIfInBounds i true) (a.put oi.dst v) C->WG P ops Q F B (fuel+1) listed a C:=by
 have hgood:∀{listed:Array Bool}{C:World->Prop},Qgp F B (listed.setIfInBounds i true) C->Qgp F B listed C:=λ{listed C}hg hf=>hg λf hfF=>by
  rw[getD_set_ne false (λe=>hiF (by rw[e];exact hfF))];exact hf f hfF
 have here:∀(fuel:Nat)(listed:Array Bool)(a:Act)(C:World->Prop),(∀f∈F,listed.getD f false=false)->Qbf P ops B oi v a->WG P ops Q F B fuel (listed.setIfInBounds i true) (a.put oi.dst v) C ->
   XV P ops i a C λa' C'=>WG P ops Q F B fuel (listed.setIfInBounds i true) a' C':=by
  intro fuel listed a C hF hy H;obtain⟨hCB,hst⟩:=hgood H.good hF;unfold XV;simp only[hi];rcases hy with⟨hw,hr⟩|⟨hw,rfl⟩
  ·rw[if_pos hw];exact⟨Unit,λ_=>v,λ_=>True,λ_=>C,λw hc=>(hr w (hCB w hc)).mono λu w'⟨h1,h2⟩=>⟨(),h1,trivial,hst w w' hc h2⟩,λ_ _=>H⟩
  ·rw[if_neg (by rw[hw];simp)];exact H
 intro fuel
 induction fuel with
 | zero=>
  intro listed a C _ _ hF hr hy H;refine⟨hgood H.good,λh=>(by rw[h]at hr;cases hr),λj hj=>?_⟩
  by_cases hji:j=i
  ·subst hji;exact here 0 listed a C hF hy H
  ·have:=ready_mono hj hji;rw[H.2.1]at this;cases this
 | succ fuel ih=>
  intro listed a C hfree hcl hF hr hy H;refine⟨hgood H.good,λh=>(by rw[h]at hr;cases hr),λj hj=>?_⟩
  by_cases hji:j=i
  ·subst hji;exact here _ listed a C hF hy H
  ·have hjF:j ∉ F:=λhjF=>by
    obtain⟨ps,hps⟩:=hwait j hjF;have h1:=Qgf hcl hps hj;rw[XN (QcN hr)]at h1;cases h1
   have h1:=H.2.2 j (ready_mono hj hji);obtain⟨hjun,oj,hoj,hall⟩:=mem_ready.1 hj
   have hnot:∀e∈oj.after,Region.binds .any e=true->e.on≠i:=λe he hb heq=>by
    have h1:=hall e he hb;have h0:=XN (QcN hr);rw[heq,h0]at h1;cases h1
   have hap:=hfree j oj hoj hji hjun hnot;have h2:=QeV hoj hap (λcs b=>hsel j oj cs b hoj) h1;obtain⟨_,_,h3⟩:=Oper.apart_spec hap;refine XV.mono (λa' C'⟨u,hu,hK⟩=>?_) h2;subst hu
   have hfree':∀k ok,ops[k]?=some ok->k≠i->(listed.setIfInBounds j true).getD k true=false ->
     (∀e∈ok.after,Region.binds .any e=true->e.on≠i)->oi.apart ops ok=true:=λk ok hk hki hun hno=>by
    refine hfree k ok hk hki ?_ hno
    by_cases hjk:j=k
    ·subst hjk;exact hjun
    ·rw[getD_set_ne true hjk]at hun;exact hun
   refine ih (listed.setIfInBounds j true) _ C' hfree' (hcl.set hj) (λf hf=>?_) (ready_mono hr (Ne.symm hji)) (hy.of_same (execOp_put oi (λcs b=>hsel i oi cs b hi) a oj.dst u h3) (wanted_put oi a oj.dst u h3)) ?_
   ·rw[getD_set_ne false (λe=>hjF (by rw[e];exact hf))];exact hF f hf
   ·rw[Array.setIfInBounds_comm _ _ hji];exact hK
theorem Qbm{i:Nat}{oi:Oper}{v:Value}(hi:ops[i]?=some oi)(hiF:i ∉ F)(hsel:∀(j:Nat)(o:Oper)cs b,ops[j]?=some o->o.op≠ .select cs b) :
  ∀(fuel:Nat)(listed:Array Bool)(a:Act)(C:World->Prop),
   (∀j oj,ops[j]?=some oj->j≠i->listed.getD j true=false->(∀e∈oj.after,Region.binds .any e=true->e.on≠i)->oi.apart ops oj=true) ->
   i∈Region.ready .any ops listed->Qbs P ops oi v a ->
   WG P ops Q F B fuel (listed.setIfInBounds i true) (a.put oi.dst v) C->WG P ops Q F B (fuel+1) listed a C:=by
 have hgood:∀{listed:Array Bool}{C:World->Prop},Qgp F B (listed.setIfInBounds i true) C->Qgp F B listed C:=λ{listed C}hg hf=>hg λf hfF=>by
  rw[getD_set_ne false (λe=>hiF (by rw[e];exact hfF))];exact hf f hfF
 have here:∀(fuel:Nat)(listed:Array Bool)(a:Act)(C:World->Prop),Qbs P ops oi v a->WG P ops Q F B fuel (listed.setIfInBounds i true) (a.put oi.dst v) C ->
   XV P ops i a C λa' C'=>WG P ops Q F B fuel (listed.setIfInBounds i true) a' C':=by
  intro fuel listed a C hy H;unfold XV;simp only[hi];rcases hy with⟨hw,hr⟩|⟨hw,rfl⟩
  ·rw[if_pos hw];exact⟨Unit,λ_=>v,λ_=>True,λ_=>C,λw hc=>by rw[hr w];exact⟨(),rfl,trivial,hc⟩,λ_ _=>H⟩
  ·rw[if_neg (by rw[hw];simp)];exact H
 intro fuel
 induction fuel with
 | zero=>
  intro listed a C _ hr hy H;refine⟨hgood H.good,λh=>(by rw[h]at hr;cases hr),λj hj=>?_⟩
  by_cases hji:j=i
  ·subst hji;exact here 0 listed a C hy H
  ·have:=ready_mono hj hji;rw[H.2.1]at this;cases this
 | succ fuel ih=>
  intro listed a C hfree hr hy H;refine⟨hgood H.good,λh=>(by rw[h]at hr;cases hr),λj hj=>?_⟩
  by_cases hji:j=i
  ·subst hji;exact here _ listed a C hy H
  ·have h1:=H.2.2 j (ready_mono hj hji);obtain⟨hjun,oj,hoj,hall⟩:=mem_ready.1 hj
   have hnot:∀e∈oj.after,Region.binds .any e=true->e.on≠i:=λe he hb heq=>by
    have h1:=hall e he hb;have h0:=XN (QcN hr);rw[heq,h0]at h1;cases h1
   have hap:=hfree j oj hoj hji hjun hnot;have h2:=QeV hoj hap (λcs b=>hsel j oj cs b hoj) h1;obtain⟨_,_,h3⟩:=Oper.apart_spec hap;refine XV.mono (λa' C'⟨u,hu,hK⟩=>?_) h2;subst hu
   have hfree':∀k ok,ops[k]?=some ok->k≠i->(listed.setIfInBounds j true).getD k true=false ->
     (∀e∈ok.after,Region.binds .any e=true->e.on≠i)->oi.apart ops ok=true:=λk ok hk hki hun hno=>by
    refine hfree k ok hk hki ?_ hno
    by_cases hjk:j=k
    ·subst hjk;exact hjun
    ·rw[getD_set_ne true hjk]at hun;exact hun
   refine ih (listed.setIfInBounds j true) _ C' hfree' (ready_mono hr (Ne.symm hji)) (hy.of_same (execOp_put oi (λcs b=>hsel i oi cs b hi) a oj.dst u h3) (wanted_put oi a oj.dst u h3)) ?_;rw[Array.setIfInBounds_comm _ _ hji];exact hK
theorem Qfx{F':List Nat}{B':World->Prop}:∀{fuel:Nat}{listed:Array Bool}{a:Act}{C:World->Prop},(∃f∈F,listed.getD f false=true)->WG P ops Q F' B' fuel listed a C->WG P ops Q F B fuel listed a C
 | 0,_,_,_,⟨f,hf,hl⟩,h=>⟨λhg=>(by rw[hg f hf]at hl;cases hl),h.2⟩
 | _+1,_,_,_,⟨f,hf,hl⟩,h=>⟨λhg=>(by rw[hg f hf]at hl;cases hl),h.2.1,λi hi=>(h.2.2 i hi).mono λ_ _ h'=>Qfx ⟨f,hf,Zs hl⟩ h'⟩
theorem QfW{B':World->Prop}(hB:∀w,B' w->B w):∀{fuel:Nat}{listed:Array Bool}{a:Act}{C:World->Prop},WG P ops Q F B' fuel listed a C->WG P ops Q F B fuel listed a C
 | 0,_,_,_,h=>⟨λhg=>⟨λw hw=>hB w ((h.1 hg).1 w hw),(h.1 hg).2⟩,h.2⟩
 | _+1,_,_,_,h=>⟨λhg=>⟨λw hw=>hB w ((h.1 hg).1 w hw),(h.1 hg).2⟩,h.2.1,λi hi=>(h.2.2 i hi).mono λ_ _ h'=>QfW hB h'⟩
theorem Qdr{fuel i:Nat}{listed:Array Bool}{a:Act}{C:World->Prop}(hr:Region.ready .any ops listed=[i])(hg:Qgp F B listed C)(h:XV P ops i a C λa' C'=>WG P ops Q F B fuel (listed.setIfInBounds i true) a' C'):WG P ops Q F B (fuel+1) listed a C:=
 ⟨hg,λh0=>(by rw[hr]at h0;cases h0),λj hj=>by rw[hr]at hj;rcases List.mem_singleton.1 hj;exact h⟩
end
def D(X:Ctx)(ops:Array Oper)(F:List Nat)(B:World->Prop)(fuel:Nat)(listed:Array Bool)(k:List KI)(L:Qa)(C:World->Prop):Prop:=
 Qba ops listed->∀a,FR X.n X.df L a->WG X.P ops (λa w=>post X k .normal a w) F B fuel listed a C
def Qy(ops:Array Oper)(listed:Array Bool)(i:Nat):Bool:=
 (Region.ready .any ops listed).contains i&&Region.noSelect ops &&
 (List.range ops.size).all λj=>match ops[j]?,ops[i]? with
  | some oj,some oi=>Nat.beq j i||listed.getD j true||(oj.after.any λe=>Region.binds .any e&&Nat.beq e.on i)||oi.apart ops oj
  | _,_=>true
theorem QK{ops:Array Oper}{listed:Array Bool}{i:Nat}(h:Qy ops listed i=true):i∈Region.ready .any ops listed:=by grind[Qy]
theorem Yk{ops:Array Oper}{listed:Array Bool}{i:Nat}(h:Qy ops listed i=true):Region.noSelect ops=true:=by grind[Qy]
theorem X8{ops:Array Oper}{listed:Array Bool}{i:Nat}{oi:Oper}(hi:ops[i]?=some oi)(h:Qy ops listed i=true):∀j oj,ops[j]?=some oj->j≠i->listed.getD j true=false->(∀e∈oj.after,Region.binds .any e=true->e.on≠i)->oi.apart ops oj=true:=by
 intro j oj hj hne hun hno;simp only[Qy,Bool.and_eq_true]at h;have hlt:j<ops.size:=by grind
 have h1:=List.all_eq_true.1 h.2 j (List.mem_range.2 hlt);simp only[hj,hi,Bool.or_eq_true]at h1;rcases h1 with((h1|h1)|h1)|h1
 ·simp_all
 ·grind
 ·obtain⟨e,he,hb⟩:=Array.any_eq_true'.1 h1;simp only[Bool.and_eq_true]at hb;exact absurd (Nat.eq_of_beq_eq_true hb.2) (hno e he hb.1)
 ·exact h1
def Xz(ops:Array Oper)(F:List Nat)(i:Nat)(ps:List (List Nat)):Bool:=
 F.all λf=>!Nat.beq f i&&ps.any λp=>QbO ops f p i
theorem Z0{ops:Array Oper}{F:List Nat}{i:Nat}{ps:List (List Nat)}(h:Xz ops F i ps=true):i ∉ F/\∀f∈F,∃p,QbO ops f p i=true:=by
 have h1:=List.all_eq_true.1 h;refine⟨λhi=>?_,λf hf=>?_⟩
 ·have:=h1 i hi
  simp_all
 grind
def Zv(F:List Nat)(listed:Array Bool):Bool:=F.all λf=>!listed.getD f false
theorem Qc8{F:List Nat}{listed:Array Bool}(h:Zv F listed=true):∀f∈F,listed.getD f false=false:=λf hf=>by
 have:=List.all_eq_true.1 h f hf
 simpa using this
section
variable{X:Ctx}{ops:Array Oper}{F:List Nat}{fuel i:Nat}{listed:Array Bool}{k:List KI}{L:Qa}{d ty:Nat}{op:Op}{pos:String}{aft:Array Edge}{w0:World}{M:List Nat}{As Bs:List HA}
theorem Qc5(ops:Array Oper)(n:Nat):Qba ops (Array.replicate n false):=λx y _ hx=>by
 simp only[Array.getD_eq_getD_getElem?,Array.getElem?_replicate]at hx
 grind
theorem QA{id:Nat}{l:List Oper}(F:List Nat)(hm:X.P.follows .mixedOrders=true)(h:D X l.toArray F (HS w0 M As) l.length (Array.replicate l.length false) k L (HS w0 M As)):S X (.c (.region id l.toArray true)::k) L (HS w0 M As):=by
 intro a w ha hw;refine wpIn_region_any hm ?_;have:=h (Qc5 _ _) a ha
 simpa using YM (Q':=post X k) (λ_ _ h=>h) _ _ a (HS w0 M As) _ hw.drew this
theorem d_p{C:World->Prop}{B:World->Prop}{v:Value}(i:Nat)(hi:ops[i]?=some ⟨some d,op,ty,pos,aft,none⟩)(h:OpP X.P ⟨some d,op,ty,pos,aft,none⟩ L v)(hok:Qy ops listed i=true)(hF:F.all (λf=>!Nat.beq f i)=true)(hd:Nat.blt d X.n=true)
  (next:D X ops F B fuel (listed.setIfInBounds i true) k ((d,v)::L) C):D X ops F B (fuel+1) listed k L C:=by
 intro hcl a ha;refine Qbm hi (λhif=>?_) (Region.noSelect_spec (Yk hok)) fuel listed a C (X8 hi hok) (QK hok) (.inl ⟨by simp[Region.wanted],λw=>h a.eval w ha.agr⟩) (next (hcl.set (QK hok)) _ (ha.put d v hd));have:=List.all_eq_true.1 hF i hif
 simp_all
theorem d_q{C:World->Prop}{v:Value}(i:Nat)(ps:List (List Nat))(hi:ops[i]?=some ⟨some d,op,ty,pos,aft,none⟩)(h:OpQ X.P ⟨some d,op,ty,pos,aft,none⟩ L (HS w0 M Bs) v)(hok:Qy ops listed i=true)(hF:Xz ops F i ps=true)(hn:Zv F listed=true)(hd:Nat.blt d X.n=true)
  (next:D X ops F (HS w0 M Bs) fuel (listed.setIfInBounds i true) k ((d,v)::L) C):D X ops F (HS w0 M Bs) (fuel+1) listed k L C:=by
 intro hcl a ha;have hw:=Z0 hF;exact Qhp hi hw.1 (Region.noSelect_spec (Yk hok)) hw.2 fuel listed a C (X8 hi hok) hcl (Qc8 hn) (QK hok) (.inl ⟨by simp[Region.wanted],λw hw=>h a.eval w ha.agr hw⟩) (next (hcl.set (QK hok)) _ (ha.put d v hd))
theorem d_h{B:World->Prop}{G:Type}{V:G->Value}{Fg:G->Prop}{C':G->World->Prop}(i:Nat)(hi:ops[i]?=some ⟨some d,op,ty,pos,aft,none⟩)(h:OpH X.P ⟨some d,op,ty,pos,aft,none⟩ L (HS w0 M As) V Fg C')(hr:(Region.ready .any ops listed==[i])=true)(hB:∀w,HS w0 M As w->B w)(hd:Nat.blt d X.n=true)
  (next:∀g,Fg g->D X ops F B fuel (listed.setIfInBounds i true) k ((d,V g)::L) (C' g)):D X ops F B (fuel+1) listed k L (HS w0 M As):=by
 intro hcl a ha;have hr':Region.ready .any ops listed=[i]:=by simpa using hr
 refine Qdr hr' (λ_=>⟨hB,HS.stab _ _ _⟩) ?_;unfold XV;simp only[hi];rw[if_pos (by simp[Region.wanted])];exact⟨G,V,Fg,C',λw hw=>h a.eval w ha.agr hw,λg hg=>next g hg (hcl.set (by rw[hr'];exact List.mem_singleton.2 rfl)) _ (ha.put d _ hd)⟩
theorem QnU{B:World->Prop}{G:Type}{V:G->Value}{Fg:G->Prop}{C':G->World->Prop}(i:Nat)(hi:ops[i]?=some ⟨none,op,ty,pos,aft,none⟩)(h:OpH X.P ⟨none,op,ty,pos,aft,none⟩ L (HS w0 M As) V Fg C')(hr:(Region.ready .any ops listed==[i])=true)(hB:∀w,HS w0 M As w->B w)
  (next:∀g,Fg g->D X ops F B fuel (listed.setIfInBounds i true) k L (C' g)):D X ops F B (fuel+1) listed k L (HS w0 M As):=by
 intro hcl a ha;have hr':Region.ready .any ops listed=[i]:=by simpa using hr
 refine Qdr hr' (λ_=>⟨hB,HS.stab _ _ _⟩) ?_;unfold XV;simp only[hi];rw[if_pos (by simp[Region.wanted])];exact⟨G,V,Fg,C',λw hw=>h a.eval w ha.agr hw,λg hg=>next g hg (hcl.set (by rw[hr'];exact List.mem_singleton.2 rfl)) a ha⟩
theorem QoR{C:World->Prop}{B:World->Prop}{j:Nat}{want b:Bool}(i dj:Nat)(hi:ops[i]?=some ⟨some d,op,ty,pos,aft,some (j,want)⟩)(hj:(ops[j]?).bind (·.dst)=some dj)(hb:Qa.get L dj=some (.bool b))(hw:b= !want)(hok:Qy ops listed i=true)(hF:F.all (λf=>!Nat.beq f i)=true)(hd:Nat.blt d X.n=true)
  (next:D X ops F B fuel (listed.setIfInBounds i true) k ((d,undef)::L) C):D X ops F B (fuel+1) listed k L C:=by
 intro hcl a ha;have hy:yielded ops a.tmps j=some b:=by simp[yielded,hj,ha.slot _ _ hb]
 refine Qbm hi (λhif=>?_) (Region.noSelect_spec (Yk hok)) fuel listed a C (X8 hi hok) (QK hok) (.inr ⟨by simp[Region.wanted,hy,hw],rfl⟩) (next (hcl.set (QK hok)) _ (ha.put d undef hd));have:=List.all_eq_true.1 hF i hif
 simp_all
theorem Qi0{C:World->Prop}{B:World->Prop}{v:Value}{j:Nat}{want b:Bool}(i dj:Nat)(hi:ops[i]?=some ⟨some d,op,ty,pos,aft,some (j,want)⟩)(hj:(ops[j]?).bind (·.dst)=some dj)(hb:Qa.get L dj=some (.bool b))(hw:b=want)(h:OpP X.P ⟨some d,op,ty,pos,aft,none⟩ L v)(hok:Qy ops listed i=true)(hF:F.all (λf=>!Nat.beq f i)=true)(hd:Nat.blt d X.n=true)
  (next:D X ops F B fuel (listed.setIfInBounds i true) k ((d,v)::L) C):D X ops F B (fuel+1) listed k L C:=by
 intro hcl a ha;have hy:yielded ops a.tmps j=some b:=by simp[yielded,hj,ha.slot _ _ hb]
 refine Qbm hi (λhif=>?_) (Region.noSelect_spec (Yk hok)) fuel listed a C (X8 hi hok) (QK hok) (.inl ⟨by simp[Region.wanted,hy,hw],λw=>h a.eval w ha.agr⟩) (next (hcl.set (QK hok)) _ (ha.put d v hd));have:=List.all_eq_true.1 hF i hif
 simp_all
theorem Qo4{C:World->Prop}{v:Value}{j:Nat}{want b:Bool}(i dj:Nat)(ps:List (List Nat))(hi:ops[i]?=some ⟨some d,op,ty,pos,aft,some (j,want)⟩)(hj:(ops[j]?).bind (·.dst)=some dj)(hb:Qa.get L dj=some (.bool b))(hw':b=want)(h:OpQ X.P ⟨some d,op,ty,pos,aft,none⟩ L (HS w0 M Bs) v)(hok:Qy ops listed i=true)(hF:Xz ops F i ps=true)(hn:Zv F listed=true)(hd:Nat.blt d X.n=true)
  (next:D X ops F (HS w0 M Bs) fuel (listed.setIfInBounds i true) k ((d,v)::L) C):D X ops F (HS w0 M Bs) (fuel+1) listed k L C:=by
 intro hcl a ha;have hy:yielded ops a.tmps j=some b:=by simp[yielded,hj,ha.slot _ _ hb]
 have hw:=Z0 hF;exact Qhp hi hw.1 (Region.noSelect_spec (Yk hok)) hw.2 fuel listed a C (X8 hi hok) hcl (Qc8 hn) (QK hok) (.inl ⟨by simp[Region.wanted,hy,hw'],λw hw=>h a.eval w ha.agr hw⟩) (next (hcl.set (QK hok)) _ (ha.put d v hd))
theorem Qqr{B:World->Prop}(hB:∀w,HS w0 M As w->B w)(next:D X ops F (HS w0 M As) fuel listed k L (HS w0 M As)):D X ops F B fuel listed k L (HS w0 M As):=
 λhcl a ha=>QfW hB (next hcl a ha)
theorem Qqh{B:World->Prop}(F':List Nat)(hf:F.any (λf=>listed.getD f false)=true)(next:D X ops F' (HS w0 M As) fuel listed k L (HS w0 M As)):D X ops F B fuel listed k L (HS w0 M As):=
 λhcl a ha=>Qfx (by obtain⟨f,h1,h2⟩:=List.any_eq_true.1 hf;exact⟨f,h1,h2⟩) (next hcl a ha)
theorem QoX{B:World->Prop}(hr:(Region.ready .any ops listed==[])=true)(hB:∀w,HS w0 M As w->B w)(h:S X k L (HS w0 M As)):D X ops F B 0 listed k L (HS w0 M As):=
 λ_ a ha=>⟨λ_=>⟨hB,HS.stab _ _ _⟩,by simpa using hr,λw hw=>h a w ha hw⟩
theorem Qiz{C C' B:World->Prop}(hC:∀w,C w->C' w)(hs:QdJ C)(h:D X ops F B fuel listed k L C'):D X ops F B fuel listed k L C:=by
 intro hcl a ha
 have key:∀(fuel:Nat)(listed:Array Bool)(a:Act)(C C':World->Prop),(∀w,C w->C' w)->QdJ C->WG X.P ops (λa w=>post X k .normal a w) F B fuel listed a C'->WG X.P ops (λa w=>post X k .normal a w) F B fuel listed a C:=by
  intro fuel
  induction fuel with
  | zero=>intro listed a C C' hC hs h;exact⟨λhg=>⟨λw hw=>(h.1 hg).1 w (hC w hw),hs⟩,h.2.1,λw hw=>h.2.2 w (hC w hw)⟩
  | succ fuel ih=>
   intro listed a C C' hC hs h;refine⟨λhg=>⟨λw hw=>(h.1 hg).1 w (hC w hw),hs⟩,λh0 w hw=>h.2.1 h0 w (hC w hw),λi hi=>?_⟩;have h1:=h.2.2 i hi;unfold XV at h1 ⊢;split
   ·grind
   ·rename_i o ho;simp only[ho]at h1;split
    ·rename_i hw;simp only[hw,if_true]at h1;obtain⟨G,V,Fg,D',e1,e2⟩:=h1;exact⟨G,V,Fg,D',λw hw=>e1 w (hC w hw),e2⟩
    grind
 exact key _ _ _ _ _ hC hs (h hcl a ha)
end
end Gx
namespace Gx
open Go Go.RowKit
section
variable{X:Ctx}{ops:Array Oper}{rest:List Oper}{k:List KI}{L:Qa}{d ty:Nat}{op:Op}{pos:String}{aft:Array Edge}{w0:World}{M:List Nat}{As As':List HA}
theorem o_p{C:World->Prop}{v:Value}(h:OpP X.P ⟨some d,op,ty,pos,aft,none⟩ L v)(hd:Nat.blt d X.n=true)(next:O X ops rest k ((d,v)::L) C):O X ops (⟨some d,op,ty,pos,aft,none⟩::rest) k L C:=by
 intro a w ha hw;refine wpListIn_plain rfl λK hK=>?_;exact Qbp (Post:=λu w'=>u=v/\w'=w) (by rw[h a.eval w ha.agr];exact⟨rfl,rfl⟩) λu w'⟨h1,h2⟩=>by subst h1;subst h2;exact hK _ _ (next _ _ (ha.put d _ hd) hw)
theorem Xl{F:List Nat}{B C:World->Prop}{fuel:Nat}{listed:Array Bool}{b:Bool}(dj:Nat)(_hb:Qa.get L dj=some (.bool b))(h1:b=true->D X ops F B fuel listed k L C)(h0:b=false->D X ops F B fuel listed k L C):D X ops F B fuel listed k L C:=by grind
theorem Qu{F:List Nat}{B C:World->Prop}{fuel:Nat}{listed:Array Bool}{v u:Value}(e:v=u)(h:D X ops F B fuel listed k ((d,u)::L) C):D X ops F B fuel listed k ((d,v)::L) C:=by subst e;exact h
def QdD(tmps:Array Value):ResultVar->Sem Value
 | .tmp t=>pure (tmps.getD t undef)
 | .cell a t=>do loadVar t (<-asAddr (tmps.getD a undef))
def RV(P:Program)(L:Qa)(As:List HA)(rs:List ResultVar)(vs:List Value):Prop:=
 ∀(a:Act)(n:Nat)(df:List Nat)(w w0:World)(M:List Nat),FR n df L a->HS w0 M As w->(rs.mapM (QdD a.tmps)).run P w=.ok vs w
section
variable{P:Program}
theorem RV.nil:RV P L As [] []:=λ_ _ _ _ _ _ _ _=>by simp[List.mapM_nil]
theorem RV.tmp{t:Nat}{v:Value}{rs:List ResultVar}{vs:List Value}(h:Qa.get L t=some v)(r:RV P L As rs vs):RV P L As (.tmp t::rs) (v::vs):=λa n df w w0 M ha hw=>by
 have e:a.tmps.getD t undef=v:=ha.evl (x:=.tmp t) h;rw[List.mapM_cons];simp only[QdD,Sem.run_bind,Sem.run_pure,Result.andThen_ok,e,r a n df w w0 M ha hw]
theorem RV.cell{at' t b i m tot:Nat}{bt:TypeId}{cs:List Value}{As':List HA}{rs:List ResultVar}{vs:List Value}(h:Qa.get L at'=some (.pointer (some ⟨b,i,none⟩)))(hs:tsz P t=some (m,true))(hp:QF As (.blk b bt tot cs) As')(hl:Nat.ble (i+m) cs.length=true)
  (r:RV P L As rs vs):RV P L As (.cell at' t::rs) (.agg (cut cs i m).toArray::vs):=λa n df w w0 M ha hw=>by
 have e:a.tmps.getD at' undef=.pointer (some ⟨b,i,none⟩):=ha.evl (x:=.tmp at') h;have hl':i+m<=cs.length:=Nat.le_of_ble_eq_true hl
 have hr:=QaR (P:=P) (b:=b) (i:=i) (w:=w) (vs:=cut cs i m) hs (by simp[cut];omega) (λj v hv=>(hw.blk_get hp).cell (by
  unfold cut at hv;rw[List.getElem?_take]at hv;split at hv
  ·simpa using hv
  ·cases hv))
 have hr':(loadVar t ⟨b,i,none⟩).run P w=.ok (.agg (cut cs i m).toArray) w:=by simpa[Instr.loadAt,Instr.sureAddr]using hr
 rw[List.mapM_cons];simp only[QdD,Sem.run_bind,Sem.run_pure,Result.andThen_ok,e,asAddr,hr',r a n df w w0 M ha hw]
theorem RV.cell1{at' t b i tot:Nat}{bt:TypeId}{cs:List Value}{v:Value}{As':List HA}{rs:List ResultVar}{vs:List Value}(h:Qa.get L at'=some (.pointer (some ⟨b,i,none⟩)))(hs:tsz P t=some (1,false))(hp:QF As (.blk b bt tot cs) As')(hv:cs[i]?=some v)
  (r:RV P L As rs vs):RV P L As (.cell at' t::rs) (v::vs):=λa n df w w0 M ha hw=>by
 have e:a.tmps.getD at' undef=.pointer (some ⟨b,i,none⟩):=ha.evl (x:=.tmp at') h;have hr:=ZN (P:=P) (t:=t) hs ((hw.blk_get hp).cell hv);have hr':(loadVar t ⟨b,i,none⟩).run P w=.ok v w:=by simpa[Instr.loadAt,Instr.sureAddr]using hr
 rw[List.mapM_cons];simp only[QdD,Sem.run_bind,Sem.run_pure,Result.andThen_ok,e,asAddr,hr',r a n df w w0 M ha hw]
theorem RV.run{a:Act}{n:Nat}{df:List Nat}{w w0:World}{M:List Nat}(ha:FR n df L a)(hw:HS w0 M As w){rs:List ResultVar}{vs:List Value}(h:RV P L As rs vs):(rs.mapM (QdD a.tmps)).run P w=.ok vs w:=h a n df w w0 M ha hw
end
def Qw:List Value->Value
 | [v]=>v
 | vs=>.tuple vs.toArray
theorem QbR{fn:Func}{rs:List ResultVar}{tmps:Array Value}(h:fn.results=rs.toArray):results fn tmps=(do
  let vs <-rs.toArray.mapM (QdD tmps)
  pure (if h:vs.size=1 then vs[0]else .tuple vs)):=by
 unfold results;rw[h]
 have e:(λx:ResultVar=>(match x with
  | .tmp t=>pure (tmps.getD t undef)
  | .cell a t=>do loadVar t (<-asAddr (tmps.getD a undef)):Sem Value))=QdD tmps:=by
  funext x;cases x<;>rfl
 rw[<-e];rfl
theorem Qj{rs:List ResultVar}{vs:List Value}(hr:X.fn.results=rs.toArray)(hv:RV X.P L As rs vs)(h:∀w,HS w0 M As w->X.R (.returned (Qw vs)) w)(hrd:X.rd=none:=by rfl)(hdf:X.df=[]:=by rfl):S X (.c .ret::k) L (HS w0 M As):=by
 refine QjY (v:=Qw vs) (λa w ha hw=>?_) h hrd hdf;have hm:=hv.run ha hw;rw[QbR hr,Array.mapM_eq_mapM_toList];simp only[Sem.run_bind,Sem.run_map,hm,Result.andThen_ok,Sem.run_pure]
 match vs with
 | []=>rfl
 | [v]=>rfl
 | u::v::vs=>simp[Qw]
end
section
variable{P:Program}{o:Oper}{L:Qa}{w0:World}{M:List Nat}{As As':List HA}
def YA(a:Option Addr)(cap lo sz:Nat):Option Addr:=if cap=lo then a else a.map (·.add (lo*sz))
theorem QG{t e sz by':Nat}{x:Operand}{a:Option Addr}{n cap:Nat}(lo hi:Option Operand)(i j:Nat)(ho:o.op=.slice t x lo hi none)(hx:ev L x=some (.slice a n cap))(ht:tsl P t=some (e,sz,by'))(hlo:QkP L lo i)(hhi:Qng L hi n j)(hij:i<=j)(hj:j<=cap) :
  OpP P o L (.slice (YA a cap i sz) (j-i) (cap-i)):=by
 intro ρ w hρ;obtain⟨hu,inf,h1,h2,_⟩:=QO ht;have hb:=QdO (P:=P) (w:=w) true hρ hlo hhi hij hj;simp only[execOp,ho,Instr.sliceAt,Sem.run_bind,run_underlying hu,Result.andThen_ok,Instr.slice,hρ _ _ hx,Option.map_none,hb,Sem.run_pure];simp[Go.sizeOf,typeInfo,h1,h2,YA]
theorem QaI{t e:TypeId}{a:Option Addr}{n c n' c':Nat}(w:World)(ht:P.underlying t=some (.slice e)):(Op.equal t (.slice a n c) (.slice none n' c')).run P w=.ok a.isNone w:=by
 have h:∀d,(Op.equalIn (d+1) t (.slice a n c) (.slice none n' c')).run P w=.ok a.isNone w:=λd=>by
  rw[Op.equalIn];simp only[Sem.run_bind,run_underlying ht,Result.andThen_ok];cases a<;>rfl
 exact h 9999
theorem Zc{t t':TypeId}{x y:Operand}{a:Option Addr}{n c n' c':Nat}{e:TypeId}(ho:o.op=.binOp .eql t x y t')(hx:ev L x=some (.slice a n c))(hy:ev L y=some (.slice none n' c'))(ht:P.underlying t=some (.slice e)):OpP P o L (.bool a.isNone):=by
 intro ρ w hρ;have hg:(eqGuard .eql t x y (.slice a n c) (.slice none n' c')).run P w=.ok () w:=by unfold eqGuard;simp
 have hb:(binOp .eql t (.slice a n c) (.slice none n' c')).run P w=.ok (.bool a.isNone) w:=by
  unfold binOp
  simp_all[QaI]
 simp only[execOp,ho,hρ _ _ hx,hρ _ _ hy,Sem.run_bind,hg,hb,Result.andThen_ok,Sem.run_pure]
theorem YY{t t':TypeId}{x y:Operand}{a:Option Addr}{n c n' c':Nat}{e:TypeId}(ho:o.op=.binOp .neq t x y t')(hx:ev L x=some (.slice a n c))(hy:ev L y=some (.slice none n' c'))(ht:P.underlying t=some (.slice e)):OpP P o L (.bool (!a.isNone)):=by
 intro ρ w hρ;have hg:(eqGuard .neq t x y (.slice a n c) (.slice none n' c')).run P w=.ok () w:=by unfold eqGuard;simp
 have hb:(binOp .neq t (.slice a n c) (.slice none n' c')).run P w=.ok (.bool (!a.isNone)) w:=by
  unfold binOp
  simp_all[QaI]
 simp only[execOp,ho,hρ _ _ hx,hρ _ _ hy,Sem.run_bind,hg,hb,Result.andThen_ok,Sem.run_pure]
theorem Qit{x y:Operand}{k:IntKind}{a b:Int}{ts:Array TypeId}(ho:o.op=.call {callee:=.builtin .min,args:=#[x,y],argTypes:=ts})(hx:ev L x=some (.int k a))(hy:ev L y=some (.int k b)):OpP P o L (.int k (if b<a then b else a)):=by
 intro ρ w hρ;simp[execOp,ho,resolve,invoke,builtin,Builtin.min_,Builtin.min2,hρ _ _ hx,hρ _ _ hy]
theorem Qls{x y:Operand}{k:IntKind}{a b:Int}{ts:Array TypeId}(ho:o.op=.call {callee:=.builtin .max,args:=#[x,y],argTypes:=ts})(hx:ev L x=some (.int k a))(hy:ev L y=some (.int k b)):OpP P o L (.int k (if b>a then b else a)):=by
 intro ρ w hρ;simp[execOp,ho,resolve,invoke,builtin,Builtin.max_,Builtin.max2,hρ _ _ hx,hρ _ _ hy]
def QaJ(v:Value):UInt8:=UInt8.ofNat (intOf v).toNat
def QfV:Value->Bool
 | .int .u8 _=>true
 | _=>false
theorem XY{src dst e:TypeId}{a:Option Addr}{cap:Nat}{xs:List Value}{w:World}(hs:P.underlying src=some (.slice e))(hd:P.underlying dst=some .string)(he:P.underlying e=some (.int .u8))(h8:∀v∈xs,QfV v=true)(hc:Src a xs w) :
  (convert src dst (.slice a xs.length cap)).run P w=.ok (.string (bs (xs.map QaJ))) w:=by
 have hx:xs.map (λv=>Value.int .u8 (intOf v))=xs:=by
  refine(List.map_congr_left (g:=id) λv hv=>?_).trans (List.map_id _);have:=h8 v hv;cases v with
  | int k n=>cases k<;>first|rfl|cases this
  | _=>cases this
 have hbs:∀(ns:List Int)(s:ByteArray),ns.foldl (λr n=>r.push (UInt8.ofNat n.toNat)) s=⟨s.data++(ns.map λn=>UInt8.ofNat n.toNat).toArray⟩:=foldl_push_bytes;cases xs with
 | nil=>
  cases a with
  | none=>exact run_convert_bytes_nil w src e hs he 0 cap dst hd
  | some ad=>exact run_convert_bytes_back w src dst e ad cap [] hs he hd (λj hj=>absurd hj (Nat.not_lt_zero _))
 | cons u us=>
  obtain⟨b,i,rfl,h1⟩:=hc (by simp);rw[run_convert_bytes_string w src dst e _ _ cap hs he hd]
  have hl:=run_loadCells_list (P:=P) w ⟨b,i,none⟩ (((u::us).map intOf).map (Value.int .u8)) (λj v hj=>by
   rw[List.map_map]at hj;rw[show(Value.int .u8∘intOf)=λv=>Value.int .u8 (intOf v)from rfl,hx]at hj;rw[Q8];exact h1 j v hj)
  have hlen:(((u::us).map intOf).map (Value.int .u8)).length=(u::us).length:=by simp
  rw[hlen]at hl;rw[run_bytesToString w _ _ cap _ hl,hbs];have e0:ByteArray.empty.data= #[]:=rfl;simp only[bs,List.map_map,e0,Array.empty_append];rfl
theorem Zk{src dst e et n:Nat}{x:Operand}{v:Value}{xs:List Value}(ho:o.op=.convert src dst x)(hx:ev L x=some v)(hs:P.underlying src=some (.slice e))(hd:P.underlying dst=some .string)(he:P.underlying e=some (.int .u8))(hp:QF As (.own v et 1 n xs) As')(h8:∀v∈xs,QfV v=true):OpQ P o L (HS w0 M As) (.string (bs (xs.map QaJ))):=by
 intro ρ w hρ hw
 have hr:(convert src dst v).run P w=.ok (.string (bs (xs.map QaJ))) w:=by
  obtain⟨hl,⟨rfl,rfl⟩|⟨g,cap,rfl,_,_,hb⟩⟩:=(hw.pick hp).head
  ·have:xs=[]:=List.eq_nil_of_length_eq_zero (by simpa using hl);subst this;exact XY (xs:=[]) hs hd he (λ_ h=>by cases h) (λh=>absurd rfl h)
  ·have hl':n=xs.length:=by omega
   subst hl';exact XY hs hd he h8 λ_=>⟨g,0,rfl,λj u hu=>by simpa using hb.cell hu⟩
 simp only[execOp,ho,Sem.run_bind,hρ _ _ hx,hr,Result.andThen_ok,Sem.run_pure];exact⟨rfl,Below.refl _ _⟩
theorem Ys{src dst e et n tot b cap:Nat}{x:Operand}{xs:List Value}(ho:o.op=.convert src dst x)(hx:ev L x=some (.slice (some ⟨b,0,none⟩) n cap))(hs:P.underlying src=some (.slice e))(hd:P.underlying dst=some .string)(he:P.underlying e=some (.int .u8))(hp:QF As (.blk b et tot xs) As')(hn:xs.length=n)(h8:∀v∈xs,QfV v=true):OpQ P o L (HS w0 M As) (.string (bs (xs.map QaJ))):=by
 intro ρ w hρ hw
 have hr:(convert src dst (.slice (some ⟨b,0,none⟩) n cap)).run P w=.ok (.string (bs (xs.map QaJ))) w:=by
  subst hn;exact XY hs hd he h8 λ_=>⟨b,0,rfl,λj u hu=>by simpa using(hw.blk_get hp).cell hu⟩
 simp only[execOp,ho,Sem.run_bind,hρ _ _ hx,hr,Result.andThen_ok,Sem.run_pure];exact⟨rfl,Below.refl _ _⟩
end
theorem HS.enter{w:World}{M:List Nat}{As:List HA}(hok:∀A∈As,A.ok w)(hlt:∀A∈As,∀b∈A.fp,b<w.heap.size/\b∈M)(hsep:As.Pairwise λA B=>∀b∈A.fp,b ∉ B.fp):HS w M As w:=
 ⟨rfl,rfl,rfl,Nat.le_refl _,λ_ _ _=>rfl,hok,λA hA b hb=>⟨(hlt A hA b hb).1,λ_=>(hlt A hA b hb).2⟩,hsep⟩
theorem QL.lt{w:World}{b:Nat}{t:TypeId}{tot:Nat}{cs:List Value}(h:QL b t tot cs w):b<w.heap.size:=by
 obtain⟨cur,fr,h1,_⟩:=h
 grind
theorem HS.rd_blk{w0 w:World}{M Mc:List Nat}{As As':List HA}{b i:Nat}{t:TypeId}{tot:Nat}{cs:List Value}{v:Value}(h:HS w0 M As w)(hp:QF As (.blk b t tot cs) As')(hv:cs[i]?=some v)(hM:b ∉ Mc):Rd w Mc b i v:=
 ⟨(h.blk_get hp).lt,hM,(h.blk_get hp).cell hv⟩
theorem HS.ne{w0 w:World}{M:List Nat}{As As1 As2:List HA}{b b':Nat}{t t':TypeId}{tot tot':Nat}{cs cs':List Value}(h:HS w0 M As w)(hp:QF As (.blk b t tot cs) As1)(hp':QF As1 (.blk b' t' tot' cs') As2):b≠b':=by
 have h1:=h.pick hp;have hs:=(List.pairwise_cons.1 h1.sep).1 _ hp'.mem;intro e;subst e;exact hs b (List.mem_singleton.2 rfl) (List.mem_singleton.2 rfl)
theorem HS.sl_blk{w0 w:World}{M:List Nat}{As As':List HA}{b sz n:Nat}{t:TypeId}{tot:Nat}{cs:List Value}{cell:Nat->List Value}(h:HS w0 M As w)(hp:QF As (.blk b t tot cs) As')(hc:∀i,i<n->(cell i).length=sz/\∀j v,(cell i)[j]?=some v->cs[i*sz+j]?=some v):Sl w [] (some ⟨b,0,none⟩) sz n cell:=
 ⟨λ_=>⟨b,0,rfl,λi hi=>⟨(hc i hi).1,λj v hv=>by
  have:=h.rd_blk (Mc:=[]) hp ((hc i hi).2 j v hv) (by simp)
  simpa using this⟩⟩⟩
theorem HS.sl_own{w0 w:World}{M:List Nat}{As As':List HA}{v:Value}{sz n:Nat}{t:TypeId}{cs:List Value}{cell:Nat->List Value}{a:Option Addr}{cap:Nat}(h:HS w0 M As w)(hp:QF As (.own v t sz n cs) As')(hv:v=.slice a n cap)(hc:∀i,i<n->(cell i).length=sz/\∀j v,(cell i)[j]?=some v->cs[i*sz+j]?=some v):Sl w [] a sz n cell:=by
 refine⟨λhn=>?_⟩;obtain⟨g,cap',e,_,_,_,h2⟩:=(h.pick hp).own_open' hn;rw[e]at hv;injection hv with e1 e2 e3
 subst e1;exact(h2.sl_blk .here hc).at_ hn
end Gx
namespace Gx
open Go Go.RowKit Go.ChangeShapes Go.WideShapes Go.ChangeAt
section
variable{H:Type}{enc:TypeId×Value->H}{P:Program}{W:World}
def okT(P:Program)(W:World):Nat->TypeId->List Value->Prop
 | 0,_,_=>False
 | d+1,t,cs=>match P.underlying t with
  | some (.int k)=>∃n,cs=[.int k n]/\(Lit.int k n).wf=true
  | some .string=>∃l,cs=[.string (bs l)]/\l.length<=maxLen
  | some .bool=>∃b,cs=[.bool b]
  | some (.slice e)=>∃a n cap cell,cs=[.slice a n cap]/\n<=cap/\cap<=maxLen/\(0<P.cellsOf e->Sl W [] a (P.cellsOf e) n cell)/\∀i,i<n->okT P W d e (cell i)
  | some (.struct fs)=>cs.length=P.cellsOf t/\∀f∈fs.toList,okT P W d f.type ((cs.drop f.offset).take (P.cellsOf f.type))
  | some (.array n e)=>cs.length=P.cellsOf t/\∀i,i<n->okT P W d e ((cs.drop (i*P.cellsOf e)).take (P.cellsOf e))
  | _=>True
theorem QdG{a:Addr}{n:Nat}{cs:List Value}(h:W.cells? 0 a n=some cs):cs.length=n/\∀j v,cs[j]?=some v->W.cell? (a.add j)=some v:=by
 unfold World.cells? at h;rw[if_pos (Nat.zero_le _)]at h;have hl:cs.length=n:=by simpa using mapM_some_length h
 refine⟨hl,λj v hv=>?_⟩;have hj:j<n:=by rw[<-hl];exact(List.getElem?_eq_some_iff.1 hv).1
 have:=mapM_some_get h j j (by simp[hj]);rw[this,hv]
theorem ZL{sp:Nat->Bool}{held:Bool}:∀(d:Nat)(t:TypeId)(cs:List Value)(x:DataW H×List MemPlace),DataW.trod enc P W 0 sp held d t cs=some x->okT P W d t cs
 | 0,_,_,_,h=>by simp[DataW.trod]at h
 | d+1,t,cs,x,h=>by
  rw[okT];split
  ·rename_i k hu;obtain⟨n,rfl,_,hw⟩:=DataW.trod_int hu h;exact⟨n,rfl,hw⟩
  ·rename_i hu;obtain⟨s,rfl,_,hs⟩:=DataW.trod_string hu h;exact⟨s.data.toList,rfl,hs⟩
  ·rename_i hu;obtain⟨b,rfl,_⟩:=DataW.trod_bool hu h;exact⟨b,rfl⟩
  ·rename_i e hu;rcases DataW.trod_slice hu h with⟨rfl,_⟩|⟨a,len,cap,elems,rest,n,hn,rfl,_,_,hl,hc,hel,hg,_⟩
   ·exact⟨none,0,0,λ_=>[],rfl,Nat.le_refl _,Nat.zero_le _,λ_=>⟨λh0=>absurd h0 (Nat.lt_irrefl _)⟩,λi hi=>absurd hi (Nat.not_lt_zero i)⟩
   ·cases hn
    have hx:∀i,i<len->∃c y,W.cells? 0 (a.add (i*P.cellsOf e)) (P.cellsOf e)=some c/\DataW.trod enc P W 0 sp held d e c=some y:=λi hi=>by
     have h1:=hg i hi;have h2:∃y,elems[i]?=some y:=⟨_,List.getElem?_eq_getElem om⟩;obtain⟨y,hy⟩:=h2;rw[hy,Option.bind_eq_some_iff]at h1;obtain⟨c,e1,e2⟩:=h1;exact⟨c,y,e1,e2⟩
    have hcell:∀i,∃c,i<len->∃y,W.cells? 0 (a.add (i*P.cellsOf e)) (P.cellsOf e)=some c/\DataW.trod enc P W 0 sp held d e c=some y:=λi=>by
     by_cases hi:i<len
     ·obtain⟨c,y,e1,e2⟩:=hx i hi;exact⟨c,λ_=>⟨y,e1,e2⟩⟩
     ·exact⟨[],λh=>absurd h hi⟩
    obtain⟨cell,hcell⟩:=Classical.axiomOfChoice hcell;refine⟨some a,len,cap,cell,rfl,hl,hc,λh0=>⟨λhpos=>?_⟩,λi hi=>?_⟩
    ·have hsp:a.spot=none:=by
      obtain⟨y,e1,_⟩:=hcell 0 hpos;obtain⟨e2,e3⟩:=QdG e1;have hz:0<(cell 0).length:=om
      have e4:=e3 0 _ (List.getElem?_eq_getElem hz);have e5:(a.add (0*P.cellsOf e)).add 0=a:=by simp[Addr.add]
      rw[e5]at e4;unfold World.cell? at e4;split at e4
      ·split at e4
       ·cases e4
       ·rename_i hns;cases hsx:a.spot with
        | none=>rfl
        | some v=>rw[hsx]at hns;simp at hns
      ·cases e4
     obtain⟨b,o,s⟩:=a;simp only at hsp;subst hsp;refine⟨b,o,rfl,λi hi=>?_⟩;obtain⟨y,e1,_⟩:=hcell i hi;obtain⟨e2,e3⟩:=QdG e1;refine⟨e2,λj v hv=>?_⟩;have e4:=e3 j v hv;have e5:((⟨b,o,none⟩:Addr).add (i*P.cellsOf e)).add j=⟨b,o+i*P.cellsOf e+j,none⟩:=by rw[Q8,Q8]
     rw[e5]at e4;refine⟨?_,by simp,e4⟩;unfold World.cell? at e4;split at e4
     ·rename_i hh;exact(Array.getElem?_eq_some_iff.1 hh).1
     ·cases e4
    ·obtain⟨y,_,e2⟩:=hcell i hi;exact ZL d e _ y e2
  ·rename_i fs hu;obtain⟨xs,n,hn,_,hl,hxl,hg⟩:=DataW.trod_struct hu h;cases hn;refine⟨hl,λf hf=>?_⟩;obtain⟨i,hi,rfl⟩:=List.getElem_of_mem hf;have hi':i<fs.size:=by simpa using hi
   have h1:=hg i fs[i] (by simp[hi']);rw[List.getElem?_eq_getElem om]at h1;exact ZL d _ _ _ (by simpa using h1)
  ·rename_i n e hu;obtain⟨xs,m,hm,_,hl,hxl,hg⟩:=DataW.trod_array hu h;cases hm;refine⟨hl,λi hi=>?_⟩;have h1:=hg i hi;rw[List.getElem?_eq_getElem om]at h1;exact ZL d _ _ _ h1
  ·trivial
section
variable{d:Nat}{t:TypeId}{cs:List Value}
theorem Qod{k:IntKind}(h:okT P W d t cs)(hu:P.underlying t=some (.int k)):∃n,cs=[.int k n]/\(Lit.int k n).wf=true:=by
 cases d with
 | zero=>cases h
 | succ d=>rw[okT,hu]at h;exact h
theorem Qnh(h:okT P W d t cs)(hu:P.underlying t=some .string):∃l,cs=[.string (bs l)]/\l.length<=maxLen:=by
 cases d with
 | zero=>cases h
 | succ d=>rw[okT,hu]at h;exact h
theorem QkE(h:okT P W d t cs)(hu:P.underlying t=some .bool):∃b,cs=[.bool b]:=by
 cases d with
 | zero=>cases h
 | succ d=>rw[okT,hu]at h;exact h
theorem QmB{e:TypeId}(h:okT P W d t cs)(hu:P.underlying t=some (.slice e))(hc:0<P.cellsOf e):∃d' a n cap cell,cs=[.slice a n cap]/\n<=cap/\cap<=maxLen/\Sl W [] a (P.cellsOf e) n cell/\∀i,i<n->okT P W d' e (cell i):=by
 cases d with
 | zero=>cases h
 | succ d=>
  rw[okT,hu]at h;obtain⟨a,n,cap,cell,h1,h2,h3,h4,h5⟩:=h;exact⟨d,a,n,cap,cell,h1,h2,h3,h4 hc,h5⟩
theorem QmL{fs:Array Field}(h:okT P W d t cs)(hu:P.underlying t=some (.struct fs)):∃d',cs.length=P.cellsOf t/\∀f∈fs.toList,okT P W d' f.type ((cs.drop f.offset).take (P.cellsOf f.type)):=by
 cases d with
 | zero=>cases h
 | succ d=>rw[okT,hu]at h;exact⟨d,h⟩
end
theorem QkC{sp:Nat->Bool}{held:Bool}{t:TypeId}{v:Value}{x:DataW H}{ps:List MemPlace}(h:DataW.Trod enc P W 0 sp held t v x ps):∃d,okT P W d t v.cells.toList:=by
 obtain⟨d,h⟩:=h;exact⟨d,ZL d t _ _ h⟩
theorem QbH(hl:laidOutB P=true){W':World}(hb:Below W.heap.size W W'):∀{ts:List TypeId}{vs:List Value}{ds:List (DataW H)}{ps:List MemPlace},ts.all (λt=>P.readableRec t&&decide (t<P.types.size))=true ->
  DataW.TrodAll enc P W 0 (λ_=>true) true ts vs ds ps->(∀x∈ps,x.block<W.heap.size)->DataW.TrodAll enc P W' 0 (λb=>decide (b<W.heap.size)) true ts vs ds ps
 | [],[],[],_,_,h,_=>h
 | [],_::_,_,_,_,h,_=>(by cases h)
 | [],[],_::_,_,_,h,_=>(by cases h)
 | _::_,[],_,_,_,h,_=>(by cases h)
 | _::_,_::_,[],_,_,h,_=>(by cases h)
 | t::ts,v::vs,d::ds,ps,hr,h,hlt=>by
  obtain⟨p,q,h1,h2,rfl⟩:=h;simp only[List.all_cons,Bool.and_eq_true,decide_eq_true_eq]at hr;exact⟨p,q,Below.trod hl hr.1.1 hr.1.2 h1 hb (λx hx=>hlt x (List.mem_append_left _ hx)),QbH hl hb hr.2 h2 (λx hx=>hlt x (List.mem_append_right _ hx)),rfl⟩
theorem Qkx{f:Func}{s:ChangeSpec}{apart fresh handsOn:Bool}{W':World}{args:Array Value}{ds gs:List (DataW H)}{before:List MemPlace}{tb:TypeId}
  (hl:laidOutB P=true)(hr:f.params.toList.all (λt=>P.readableRec t&&decide (t<P.types.size))=true)(hbool:f.resultTypes= #[tb])(htb:P.underlying tb=some .bool)(hv:s.vars=[])
  (hs:s.fn H ds={results:=[.lit (.bool true)],args:=ds})(hW:DataW.Whole enc P f.params.toList s.vars apart W args.toList ds gs before)(hb:Below W.heap.size W W') :
  s.post enc P f apart fresh handsOn false W args (.bool true) W':=by
 have hW':=hW;obtain⟨p,q,hA,hV,rfl,hfz,hnd⟩:=hW;rw[hv]at hV;obtain⟨rfl,rfl⟩:=trodVars_none hV;have hlt:∀x∈p,x.block<W.heap.size:=λx hx=>by simpa using hW'.lt x (by simpa using hx)
 refine⟨ds,[],p++[],[],p,[],hW',?_,?_,?_,hb.frame _,λh=>by cases h⟩
 ·rw[List.append_nil,hs,hbool];exact trodAll_mk1 (shut_bool htb true)
 ·rw[List.append_nil,hs];exact QbH hl hb hr hA hlt
 ·rw[List.append_nil,hs,hv];rfl
end
end Gx
namespace Gx
open Go Go.RowKit
section
variable{P:Program}{o:Oper}{L:Qa}{w0:World}{M:List Nat}{As As':List HA}
theorem QbE{t e sz by':Nat}(ho:o.op=.buildSlice t 0 #[])(ht:tsl P t=some (e,sz,by')) :
  OpH P o L (HS w0 M As) (λb:Nat=>.slice (some ⟨b,0,none⟩) 0 0) (λ_=>True) (λb=>HS w0 M (.own (.slice (some ⟨b,0,none⟩) 0 0) e sz 0 []::As)):=by
 intro ρ w hρ hw;obtain⟨hu,inf,h1,h2,_⟩:=QO ht;have hsz:(Go.sizeOf e).run P w=.ok sz w:=by simp[Go.sizeOf,typeInfo,h1,h2]
 have hb:(Instr.buildSlice t 0 #[]).run P w=.ok (.slice (some ⟨w.heap.size,0,none⟩) 0 0) (w.alloc (.cells #[] e)):=by
  unfold Instr.buildSlice;simp only[Sem.run_bind,run_underlying hu,Result.andThen_ok,hsz,Nat.zero_mul,Nat.not_lt_zero,if_false,if_true,Sem.run_pure,Instr.fill,newRow,run_newObj,World.alloc_eq]
  grind
 simp only[execOp,ho,Sem.run_bind];rw[show((#[]:Array (Nat×Operand)).map λx=>(x.fst,ρ x.snd))= #[]from by simp,hb];have h3:=hw.blk_new e #[];exact⟨w.heap.size,rfl,trivial,HS.own_shut (cap:=0) (by simpa using h3) (by simp) (Nat.le_refl _) (by simp[maxLen])⟩
def Xa(z:List Value)(n:Nat):List Value:=(List.range n).map λi=>z.toArray[i%z.length]!
theorem Qt(z:List Value)(n:Nat):(Xa z n).length=n:=by simp[Xa]
theorem Qes(v:Value)(n:Nat):Xa [v] n=List.replicate n v:=by
 unfold Xa;rw[List.eq_replicate_iff]
 grind
theorem QeB{t e sz by' n:Nat}{x y:Operand}{z:List Value}(ho:o.op=.makeSlice t x y)(hx:ev L x=some (.int .i64 (n:Int)))(hy:ev L y=some (.int .i64 (n:Int)))(ht:tsl P t=some (e,sz,by'))(hz:Qz P e=some z)(hlen:n*by'<=281474976710656)(hn:n<=16777216) :
  OpH P o L (HS w0 M As) (λb:Nat=>.slice (some ⟨b,0,none⟩) n n) (λ_=>True) (λb=>HS w0 M (.blk b e (n*sz) (Xa z (n*sz))::As)):=by
 intro ρ w hρ hw;obtain⟨hu,inf,h1,h2,h3⟩:=QO ht;have hsz:∀w,(Go.sizeOf e).run P w=.ok sz w:=λw=>by simp[Go.sizeOf,typeInfo,h1,h2]
 have hti:(typeInfo e).run P w=.ok inf w:=by simp[typeInfo,h1]
 obtain⟨zv,hz',hzr⟩:∃zv:Value,zv.cells.toList=z/\∀w,(zeroValue e).run P w=.ok zv w:=by
  unfold Qz at hz;rw[h1]at hz;simp only[Option.bind_some]at hz;cases hzz:inf.zero with
  | none=>rw[hzz]at hz;cases hz
  | some v=>rw[hzz]at hz;simp only[Option.map_some,Option.some.injEq]at hz;exact⟨v,hz,λw=>by simp[zeroValue,typeInfo,h1,hzz]⟩
 have hwr:IntKind.i64.wrap (n:Int)=n:=IntWalk.i64_in _ ⟨om,om⟩;have hz'':zv.cells=z.toArray:=by rw[<-hz']
 have hpr:((inf.bytes:Nat):Int)*(n:Int)<=281474976710656:=by grind
 have e2:(2:Int)^48=281474976710656:=by decide
 have d1:¬((inf.bytes:Nat):Int)*(n:Int)>2^48:=by rw[e2];omega
 have d2:¬(n:Int)<0:=om
 have d3:¬(n:Int)>n:=om
 have hai:∀w,(asInt (.int .i64 (n:Int))).run P w=.ok (n:Int) w:=λw=>by simp[asInt,asIntOf]
 have hb:(Instr.makeSlice t (.int .i64 n) (.int .i64 n)).run P w=.ok (.slice (some ⟨w.heap.size,0,none⟩) n n) (w.alloc (.cells (Xa z (n*sz)).toArray e)):=by
  unfold Instr.makeSlice;simp only[Sem.run_bind,run_underlying hu,Result.andThen_ok,hsz,hai,Sem.run_pure,hti,hwr,d1,d2,d3,decide_false,Bool.or_false,Bool.false_eq_true,if_false,run_askRoom,Int.toNat_natCast]
  by_cases h0:n*sz=0
  ·have e1:∀q:Array Value,(Array.map (λx=>q[x%q.size]!) (Array.range 0))= #[]:=λq=>Array.eq_empty_of_size_eq_zero (by simp);have e3:(Xa z (n*sz)).toArray= #[]:=by rw[h0];rfl
   simp only[h0,if_true,Sem.run_bind,Sem.run_pure,Result.andThen_ok,newRow,run_newObj,World.alloc_eq,e1,e3];simp only[h0]at e3;rw[e3]
  ·simp only[if_neg h0,Sem.run_bind,hzr,Sem.run_pure,Result.andThen_ok,newRow,run_newObj,World.alloc_eq,hz''];congr 2;simp[Xa,<-List.toArray_range]
 simp only[execOp,ho,Sem.run_bind,hρ _ _ hx,hρ _ _ hy,hb,Result.andThen_ok,Sem.run_pure];have h4:=hw.blk_new e (Xa z (n*sz)).toArray;refine⟨w.heap.size,rfl,trivial,?_⟩
 simpa[Qt]using h4
theorem QZ{t xt e e' sz by' n m c:Nat}{s x:Operand}{v:Value}{a:Option Addr}{z xs:List Value}(news:List Value)(ho:o.op=.call {callee:=.builtin .append,args:=#[s,x],argTypes:=#[t,xt]})(hs:ev L s=some v)(hx:ev L x=some (.slice a m c))(ht:tsl P t=some (e,sz,by'))(hxt:P.underlying xt=some (.slice e'))(hz:Qz P e=some z)(hzs:z.length=sz)
  (hp:QF As (.own v e sz n xs) As')(hsrc:∀w,HS w0 M As w->Src a news w)(hl:news.length=m*sz)(h1:∀u∈news,u.oneCell'=true)(hroom:(n+m)*by'<=140737488355328)(hmax:n+m<=maxLen) :
  OpH P o L (HS w0 M As) (λg:Option Addr×Nat=>.slice g.1 (n+m) g.2) (λ_=>True) (λg=>HS w0 M (.own (.slice g.1 (n+m) g.2) e sz (n+m) (xs++news)::As')):=by
 intro ρ w hρ hw;refine(Qmh news ho hs hx ht hxt hz hzs hp hsrc hl h1 hroom hmax ρ w hρ hw).mono λu w' hh=>?_;obtain⟨v',rfl,_,h⟩:=hh;obtain⟨a',cap',rfl,_⟩:=h.head.form;exact⟨(a',cap'),rfl,trivial,h⟩
def eq1:Value->Value->Option Bool
 | .int k a,.int k' b=>if k=k' then some (decide (a=b))else none
 | .string a,.string b=>some (decide (a.data.toList=b.data.toList))
 | .bool a,.bool b=>some (a==b)
 | _,_=>none
def eqC:List Value->List Value->Option Bool
 | [],[]=>some true
 | x::xs,y::ys=>match eq1 x y,eqC xs ys with
  | some a,some b=>some (a&&b)
  | _,_=>none
 | _,_=>none
def lfT(P:Program)(t:TypeId):Bool:=match P.underlying t with
 | some (.int _)|some .string|some .bool=>true
 | _=>false
end
section
variable{P:Program}{w:World}
theorem Qj3{t:TypeId}(h:lfT P t=true):(∃k,P.underlying t=some (.int k))\/P.underlying t=some .string\/P.underlying t=some .bool:=by grind[lfT]
def QdW(P:Program)(t:TypeId)(x:Value):Bool:=match P.underlying t,x with
 | some (.int _),.int _ _|some .string,.string _|some .bool,.bool _=>true
 | _,_=>false
theorem Z3{t:TypeId}(h:lfT P t=true){cs:Array Value}{off:Nat}{v:Value}(hv:cs[off]?=some v):(part t cs off).run P w=.ok v w:=by
 have ha:(isAgg t).run P w=.ok false w:=by
  rcases Qj3 h with⟨k,h⟩|h|h<;>simp[isAgg,run_underlying h]
 simp[part,ha,hv]
theorem Qfn{t:TypeId}{x y:Value}{b:Bool}(d:Nat)(hx:QdW P t x=true)(hy:QdW P t y=true)(h:eq1 x y=some b):(Op.equalIn (d+1) t x y).run P w=.ok b w:=by
 unfold QdW at hx hy;split at hx
 ·rename_i k a m hu;simp only[hu]at hy;cases y<;>first|cases hy|skip
  simp only[eq1]at h;split at h
  ·rename_i hk;subst hk;cases h;simp[Op.equalIn,run_underlying hu,Qa1]
  ·cases h
 ·rename_i a hu;simp only[hu]at hy;cases y<;>first|cases hy|skip
  simp only[eq1,Option.some.injEq]at h;subst h;rename_i b
  have:(a==b)=decide (a.data.toList=b.data.toList):=by
   rw[beq_toListBytes,ByteArray.toList_eq,ByteArray.toList_eq]
   grind
  simp[Op.equalIn,run_underlying hu,this]
 ·rename_i a hu;simp only[hu]at hy;cases y<;>first|cases hy|skip
  simp only[eq1,Option.some.injEq]at h;subst h;simp[Op.equalIn,run_underlying hu]
 ·cases hx
theorem Qab{α:Type}{l xs:List α}{k:Nat}{x:α}(h:l.drop k=x::xs):l[k]?=some x:=by
 have:=congrArg (λm:List α=>m[0]?) h
 simpa using this
def flF(P:Program):List Field->Nat->Bool
 | [],_=>true
 | f::fs,k=> !(f.name== "_")&&Nat.beq f.offset k&&lfT P f.type&&flF P fs (k+1)
def ZF(P:Program):List TypeId->List Value->Bool
 | [],[]=>true
 | t::ts,x::xs=>QdW P t x&&ZF P ts xs
 | _,_=>false
theorem Qi8(d:Nat)(X Y:Array Value):∀(fs:List Field)(k:Nat)(xs ys:List Value)(b:Bool),flF P fs k=true->X.toList.drop k=xs->Y.toList.drop k=ys->ZF P (fs.map (·.type)) xs=true->ZF P (fs.map (·.type)) ys=true->eqC xs ys=some b->(Op.eqFields (d+1) X Y fs).run P w=.ok b w
 | [],k,xs,ys,b,_,_,_,h1,h2,h=>by
  cases xs with
  | cons=>simp[ZF]at h1
  | nil=>
   cases ys with
   | cons=>simp[ZF]at h2
   | nil=>cases h;simp[Op.eqFields]
 | f::fs,k,xs,ys,b,hf,hX,hY,h1,h2,h=>by
  cases xs with
  | nil=>cases h1
  | cons x xs=>
   cases ys with
   | nil=>cases h2
   | cons y ys=>
    simp only[flF,Bool.and_eq_true,Bool.not_eq_true',beq_eq_false_iff_ne]at hf;obtain⟨⟨⟨hn,ho⟩,hl⟩,hr⟩:=hf;have ho:=Nat.eq_of_beq_eq_true ho;simp only[List.map_cons,ZF,Bool.and_eq_true]at h1 h2;have hx:X[k]?=some x:=by rw[<-Array.getElem?_toList];exact Qab hX
    have hy:Y[k]?=some y:=by rw[<-Array.getElem?_toList];exact Qab hY
    simp only[eqC]at h;split at h
    ·rename_i a c e1 e2;cases h;have hX':X.toList.drop (k+1)=xs:=by rw[<-List.drop_drop,hX];rfl
     have hY':Y.toList.drop (k+1)=ys:=by rw[<-List.drop_drop,hY];rfl
     have ih:=Qi8 d X Y fs (k+1) xs ys c hr hX' hY' h1.2 h2.2 e2;simp only[Op.eqFields,ne_eq,hn,not_false_eq_true,if_true,Sem.run_bind,ho,Z3 hl hx,Z3 hl hy,Result.andThen_ok,Qfn d h1.1 h2.1 e1];cases a
     ·simp
     ·simpa using ih
    ·cases h
def teq(P:Program)(t:TypeId):Option (List TypeId):=match P.underlying t with
 | some (.struct fs)=>if flF P fs.toList 0&& !P.stoodInHeld t&& !P.eqGuardType P.depth t then some (fs.toList.map (·.type))else none
 | some (.array n e)=>if lfT P e&&Nat.beq (P.cellsOf e) 1&&(P.info? e).isSome&& !P.eqGuardType P.depth t then some (List.replicate n e)else none
 | _=>none
theorem Qjp(d:Nat){e:TypeId}(hl:lfT P e=true)(h1:P.cellsOf e=1)(X Y:Array Value):∀(n k:Nat)(xs ys:List Value)(b:Bool),X.toList.drop k=xs->Y.toList.drop k=ys->ZF P (List.replicate n e) xs=true->ZF P (List.replicate n e) ys=true->eqC xs ys=some b->(Op.eqItems (d+1) e (P.cellsOf e) X Y (List.range' k n)).run P w=.ok b w
 | 0,k,xs,ys,b,_,_,g1,g2,h=>by
  cases xs with
  | cons=>simp[ZF]at g1
  | nil=>
   cases ys with
   | cons=>simp[ZF]at g2
   | nil=>cases h;simp[Op.eqItems]
 | n+1,k,xs,ys,b,hX,hY,g1,g2,h=>by
  cases xs with
  | nil=>cases g1
  | cons x xs=>
   cases ys with
   | nil=>cases g2
   | cons y ys=>
    simp only[List.replicate_succ,ZF,Bool.and_eq_true]at g1 g2;have hx:X[k]?=some x:=by rw[<-Array.getElem?_toList];exact Qab hX
    have hy:Y[k]?=some y:=by rw[<-Array.getElem?_toList];exact Qab hY
    simp only[eqC]at h;split at h
    ·rename_i a c e1 e2;cases h;have hX':X.toList.drop (k+1)=xs:=by rw[<-List.drop_drop,hX];rfl
     have hY':Y.toList.drop (k+1)=ys:=by rw[<-List.drop_drop,hY];rfl
     have ih:=Qjp d hl h1 X Y n (k+1) xs ys c hX' hY' g1.2 g2.2 e2;have hk:k*P.cellsOf e=k:=by rw[h1,Nat.mul_one]
     simp only[List.range'_succ,Op.eqItems,Sem.run_bind,hk,Z3 hl hx,Z3 hl hy,Result.andThen_ok,Qfn d g1.1 g2.1 e1];cases a
     ·simp
     ·simpa using ih
    ·cases h
theorem QiR{t:TypeId}{ts:List TypeId}{xs ys:List Value}{b:Bool}(ht:teq P t=some ts)(h1:ZF P ts xs=true)(h2:ZF P ts ys=true)(h:eqC xs ys=some b)(d:Nat) :
  (Op.equalIn (d+2) t (.agg xs.toArray) (.agg ys.toArray)).run P w=.ok b w/\P.eqGuardType P.depth t=false:=by
 unfold teq at ht;split at ht
 ·rename_i fs hu;split at ht
  ·rename_i hc;cases ht;simp only[Bool.and_eq_true,Bool.not_eq_true']at hc;have hfo:P.fieldsOf t=fs:=by unfold Program.fieldsOf;rw[hu]
   refine⟨?_,hc.2⟩;rw[run_equalIn_struct w (d+1) t _ _ (by rw[hfo];exact hu) hc.1.2,hfo]
   grind[Qi8]
  ·cases ht
 ·rename_i n e hu;split at ht
  ·rename_i hc;cases ht;simp only[Bool.and_eq_true,Bool.not_eq_true']at hc;obtain⟨i,hi⟩:=Option.isSome_iff_exists.1 hc.1.2;refine⟨?_,hc.2⟩;rw[run_equalIn_array (w:=w) (d+1) _ _ hu hi,List.range_eq_range'];exact Qjp d hc.1.1.1 (Nat.eq_of_beq_eq_true hc.1.1.2) _ _ n 0 xs ys b (by simp) (by simp) h1 h2 h
  ·cases ht
 ·cases ht
def tlk(P:Program)(t:TypeId):Option Nat:=match P.underlying t with
 | some (.int _)=>some 0
 | some .string=>some 1
 | some .bool=>some 2
 | _=>none
def Qij(P:Program)(t:TypeId):Option (List Nat):=(teq P t).bind λts=>ts.mapM (tlk P)
def Xs:Value->Nat
 | .int _ _=>0
 | .string _=>1
 | .bool _=>2
 | _=>3
theorem Z9:∀{ts:List TypeId}{ks:List Nat}{xs:List Value},ts.mapM (tlk P)=some ks->xs.map Xs=ks->ZF P ts xs=true
 | [],ks,xs,h,hx=>by
  simp at h;subst h;cases xs<;>first|rfl|cases hx
 | t::ts,ks,xs,h,hx=>by
  rw[List.mapM_cons]at h;simp only[bind,Option.bind_eq_some_iff,pure,Option.some.injEq]at h;obtain⟨k,h1,ks',h2,rfl⟩:=h;cases xs with
  | nil=>cases hx
  | cons x xs=>
   simp only[List.map_cons,List.cons.injEq]at hx;simp only[ZF,Bool.and_eq_true];refine⟨?_,Z9 h2 hx.2⟩;have h3:=hx.1;unfold tlk at h1;unfold QdW;split at h1<;>first|(cases h1;done)|skip
   all_goals
    rename_i hu;cases h1;rw[hu];cases x<;>first|rfl|cases h3
variable{o:Oper}{L:Qa}
theorem QcU{t t':TypeId}{x y:Operand}{xs ys:List Value}{ks:List Nat}{b:Bool}(ho:o.op=.binOp .eql t x y t')(hx:ev L x=some (.agg xs.toArray))(hy:ev L y=some (.agg ys.toArray))(ht:Qij P t=some ks)(h1:xs.map Xs=ks)(h2:ys.map Xs=ks)(h:eqC xs ys=some b):OpP P o L (.bool b):=by
 intro ρ w hρ;unfold Qij at ht;obtain⟨ts,e1,e2⟩:=Option.bind_eq_some_iff.1 ht;obtain⟨g1,g2⟩:=QiR (w:=w) e1 (Z9 e2 h1) (Z9 e2 h2) h 9998;simp only[execOp,ho,hρ _ _ hx,hρ _ _ hy,Sem.run_bind,run_eqGuard_agg w _ _ _ _ _ _ g2,run_eql_struct,g1,Result.andThen_ok,Sem.run_pure]
theorem Qj6{t t':TypeId}{x y:Operand}{xs ys:List Value}{ks:List Nat}{b:Bool}(ho:o.op=.binOp .neq t x y t')(hx:ev L x=some (.agg xs.toArray))(hy:ev L y=some (.agg ys.toArray))(ht:Qij P t=some ks)(h1:xs.map Xs=ks)(h2:ys.map Xs=ks)(h:eqC xs ys=some b):OpP P o L (.bool (!b)):=by
 intro ρ w hρ;unfold Qij at ht;obtain⟨ts,e1,e2⟩:=Option.bind_eq_some_iff.1 ht;obtain⟨g1,g2⟩:=QiR (w:=w) e1 (Z9 e2 h1) (Z9 e2 h2) h 9998;simp only[execOp,ho,hρ _ _ hx,hρ _ _ hy,Sem.run_bind,run_eqGuard_agg w _ _ _ _ _ _ g2,run_neq_struct,g1,Result.andThen_ok,Sem.run_pure]
end
def fps(As:List HA):List Nat:=As.flatMap HA.fp
theorem HS.focus{w0 w:World}{M:List Nat}{Cs Ds:List HA}(h:HS w0 M (Cs++Ds) w):HS w (fps Cs) Cs w:=by
 refine⟨rfl,rfl,rfl,Nat.le_refl _,λ_ _ _=>rfl,λA hA=>h.ok A (List.mem_append_left _ hA),λA hA b hb=>⟨(h.lt A (List.mem_append_left _ hA) b hb).1,λ_=>List.mem_flatMap.2 ⟨A,hA,hb⟩⟩,(List.pairwise_append.1 h.sep).1⟩
def QbK(As Cs Ds:List HA):Prop:=As.Perm (Cs++Ds)
theorem QbK.nil{As:List HA}:QbK As [] As:=.refl _
theorem QbK.cons{As As' Cs Ds:List HA}{A:HA}(h:QF As A As')(r:QbK As' Cs Ds):QbK As (A::Cs) Ds:=h.perm.trans (List.Perm.cons _ r)
section
variable{P:Program}{o:Oper}{L:Qa}{w0:World}{M:List Nat}{As As':List HA}
theorem QH{G:Type}{V:G->Value}{F:G->Prop}{Bs:G->List HA}{Cs Ds:List HA}{f:FuncId}{args:Array Operand}{vs:List Value}{at':Array TypeId}(ho:o.op=.call {callee:=.value (.func f),args:=args,argTypes:=at'})(hf:QJ P f=true)(ha:evs L args.toList=some vs)
  (hp:QbK As Cs Ds)(hc:∀w,HS w0 M As w->HS w (fps Cs) Cs w->Calls P f vs.toArray w λe w'=>∃g,e=.returned (V g)/\F g/\HS w (fps Cs) (Bs g) w'):OpH P o L (HS w0 M As) V F (λg=>HS w0 M (Bs g++Ds)):=
 Qow ho hf ha hp (λb hb=>by obtain⟨A,hA,hb⟩:=List.mem_flatMap.1 hb;exact⟨A,hA,hb⟩) (λw hw=>hc w hw (HS.focus (hw.perm hp)))
theorem QL.full{b t tot:Nat}{cs:List Value}{w:World}(h:QL b t tot cs w):∃ds,cs.length+ds.length=tot/\QL b t tot (cs++ds) w:=by
 obtain⟨cur,fr,h1,h2,h3,h4,h5⟩:=h;refine⟨(cur.toList.take tot).drop cs.length,by simp;omega,cur,fr,h1,h2,by simp;omega,λi hi=>?_,h5⟩
 grind
theorem HS.blk_full{w:World}{b t tot:Nat}{cs:List Value}(hp:QF As (.blk b t tot cs) As')(h:HS w0 M As w):∃ds,cs.length+ds.length=tot/\HS w0 M (.blk b t tot (cs++ds)::As') w:=by
 obtain⟨ds,h1,h2⟩:=(h.pick hp).head.full;exact⟨ds,h1,(h.pick hp).turn (λ_ h=>h) λ_=>h2⟩
theorem QL.less{b t tot:Nat}{cs ds:List Value}{w:World}(h:QL b t tot (cs++ds) w):QL b t tot cs w:=by
 obtain⟨cur,fr,h1,h2,h3,h4,h5⟩:=h;simp only[List.length_append]at h3;exact⟨cur,fr,h1,h2,om,λi hi=>by rw[h4 i (by simp;omega),List.getElem?_append_left hi],h5⟩
theorem HS.blk_less{w:World}{b t tot:Nat}{cs ds:List Value}(hp:QF As (.blk b t tot (cs++ds)) As')(h:HS w0 M As w):HS w0 M (.blk b t tot cs::As') w:=
 (h.pick hp).turn (λ_ h=>h) λhb=>hb.less
theorem HS.to_own{w:World}{g cap t sz n:Nat}{cs xs ds:List Value}(hp:QF As (.blk g t (cap*sz) cs) As')(h:HS w0 M As w)(he:cs=xs++ds)(hl:xs.length=n*sz)(hn:n<=cap)(hc:cap<=maxLen):HS w0 M (.own (.slice (some ⟨g,0,none⟩) n cap) t sz n xs::As') w:=by
 subst he;have h2:=h.blk_less hp;exact h2.own_shut hl hn hc
theorem HS.own_blk{w:World}{a:Option Addr}{t sz n n' cap:Nat}{xs:List Value}(hn:0<n)(hp:QF As (.own (.slice a n' cap) t sz n xs) As')(h:HS w0 M As w):∃g,a=some ⟨g,0,none⟩/\n'=n/\n<=cap/\cap<=maxLen/\xs.length=n*sz/\HS w0 M (.blk g t (cap*sz) xs::As') w:=by
 obtain⟨g,cap',e,h1,h2,h3,h4⟩:=(h.pick hp).own_open' hn
 grind
theorem HS.own_facts{w:World}{a:Option Addr}{t sz n n' cap:Nat}{xs:List Value}(hp:QF As (.own (.slice a n' cap) t sz n xs) As')(h:HS w0 M As w):n'=n/\n<=cap/\cap<=maxLen/\xs.length=n*sz:=by
 obtain⟨hl,h1|⟨g,cap',e,h2,h3,_⟩⟩:=(h.pick hp).head
 ·grind
 grind
theorem Qeq:∀(vs cs:List Value)(i:Nat),i+vs.length<=cs.length->Qc cs i vs=cs.take i++vs++cs.drop (i+vs.length)
 | [],cs,i,h=>by simp[Qc]
 | v::vs,cs,i,h=>by
  simp only[List.length_cons]at h;rw[Qc,Qeq vs (cs.set i v) (i+1) (by simp;omega)];rw[List.drop_set_of_lt om,List.take_add_one,List.take_set_of_le (Nat.le_refl i),List.getElem?_set_self om]
  grind
theorem Qbd(g cap sz:Nat):YA (some ⟨g,0,none⟩) cap 0 sz=some ⟨g,0,none⟩:=by grind[YA,Q8]
theorem Xw{g cap i sz:Nat}(h:i<cap):YA (some ⟨g,0,none⟩) cap i sz=some ⟨g,i*sz,none⟩:=by grind[YA,Q8]
theorem Zo{b tot:Nat}{bt:TypeId}{cs:List Value}{a:Option Addr}(i k:Nat)(ha:0<k->a=some ⟨b,i,none⟩)(hp:QF As (.blk b bt tot cs) As'):∀w,HS w0 M As w->Src a (cut cs i k) w:=
 λ_ hw hne=>by
  have hk:0<k:=by
   rcases Nat.eq_zero_or_pos k with e|h
   ·subst e;exact absurd (by simp[cut]) hne
   ·exact h
  exact⟨b,i,ha hk,λj u hu=>(hw.blk_get hp).cell (by
   unfold cut at hu;rw[List.getElem?_take]at hu;split at hu
   ·rw[List.getElem?_drop]at hu;exact hu
   ·cases hu)⟩
theorem QlR{t e:TypeId}{x:Operand}{a:Option Addr}{n cap:Nat}(ho:o.op=.call {callee:=.builtin .cap,args:=#[x],argTypes:=#[t]})(hx:ev L x=some (.slice a n cap))(h:P.underlying t=some (.slice e)):OpP P o L (.int .i64 cap):=by
 intro ρ w hρ;simp[execOp,ho,resolve,invoke,builtin,Builtin.cap_,hρ _ _ hx,run_underlying h,goInt]
theorem XK{sz k m c:Nat}{a:Option Addr}{news:List Value}{w:World}(hl:news.length=k*sz)(h:Src a news w):(Builtin.firstCells sz k (.slice a m c)).run P w=.ok news.toArray w:=by
 cases news with
 | nil=>
  cases a with
  | none=>simp[Builtin.firstCells]
  | some ad=>exact run_firstCells_some w sz k ad m c [] hl (λj v hv=>by simp at hv)
 | cons u us=>
  obtain⟨b,i,rfl,h2⟩:=h (by simp);exact run_firstCells_some w sz k ⟨b,i,none⟩ m c _ hl (λj v hv=>by rw[Q8];exact h2 j v hv)
theorem QaA{dt st e sz by' n m cd cs' b tot i:Nat}{d s:Operand}{ad as_:Option Addr}{bt:TypeId}{cs:List Value}(k:Nat)(news:List Value)(ho:o.op=.call {callee:=.builtin .copy,args:=#[d,s],argTypes:=#[dt,st]})(hd:ev L d=some (.slice ad n cd))(hs:ev L s=some (.slice as_ m cs'))(ht:tsl P dt=some (e,sz,by'))
  (hp:Put As (.blk b bt tot cs) (.blk b bt tot (Qc cs i news)) As')(hk:min m n=k)(hl:news.length=k*sz)(ha:0<k->ad=some ⟨b,i,none⟩)(hr:i+news.length<=cs.length)(hsrc:∀w,HS w0 M As w->Src as_ news w)(h1:∀u∈news,u.oneCell'=true) :
  OpH P o L (HS w0 M As) (λ_:Unit=>.int .i64 (k:Int)) (λ_=>True) (λ_=>HS w0 M As'):=by
 intro ρ w hρ hw;obtain⟨hu,inf,hi,hs1,hs2⟩:=QO ht;have hk':Nat.min m n=k:=hk;have hsz:(Go.sizeOf e).run P w=.ok sz w:=by simp[Go.sizeOf,typeInfo,hi,hs1]
 have hfc:=XK (P:=P) (m:=m) (c:=cs') hl (hsrc w hw);obtain⟨Rs,h3,h4⟩:=hp.ex;have hpk:=hw.pick h3;rcases Nat.eq_zero_or_pos k with hk0|hk0
 ·subst hk0;have hn0:news=[]:=List.eq_nil_of_length_eq_zero (by simpa using hl);subst hn0
  have he:(Builtin.copy_ #[dt,st] o.type #[.slice ad n cd,.slice as_ m cs']).run P w=.ok (.int .i64 0) w:=by
   unfold Builtin.copy_;cases ad<;>simp[run_underlying hu,Builtin.lenOf,hk',hsz,hfc,goInt,storeCells]
  simp only[execOp,ho,resolve,Sem.run_bind,Sem.run_pure,Result.andThen_ok,invoke,builtin,List.map_toArray,List.map_cons,List.map_nil,hρ _ _ hd,hρ _ _ hs,he];exact⟨(),rfl,trivial,hpk.perm (by simpa[Qc]using h4)⟩
 ·obtain⟨w',hst,hb,r1,r2,r3,r4,r5⟩:=Xe (P:=P) news 0 cs w hpk.head (by simpa using hr) h1 (i:=i);rw[ha hk0]at hd
  have he:(Builtin.copy_ #[dt,st] o.type #[.slice (some ⟨b,i,none⟩) n cd,.slice as_ m cs']).run P w=.ok (.int .i64 (k:Int)) w':=by
   unfold Builtin.copy_;simp[run_underlying hu,Builtin.lenOf,hk',hsz,hfc,goInt,hst]
  simp only[execOp,ho,resolve,Sem.run_bind,Sem.run_pure,Result.andThen_ok,invoke,builtin,List.map_toArray,List.map_cons,List.map_nil,hρ _ _ hd,hρ _ _ hs,he];exact⟨(),rfl,trivial,(HS.swap hpk (B:=.blk b bt tot (Qc cs i news)) (λ_ h=>h) r1 r2 r3 r4 (λk hk=>r5 k (by simpa[HA.fp_blk]using hk)) (show QL b bt tot (Qc cs i news) w' by simpa using hb)).perm h4⟩
theorem Qbc(zv:Array Value)(n:Nat):Builtin.zeroCells zv n=(Xa zv.toList (n*zv.size)).toArray:=by
 unfold Builtin.zeroCells Xa
 grind
theorem Qie{z:List Value}(hz:z.all (·.oneCell')=true)(hz0:z≠[])(n:Nat):∀u∈Xa z n,u.oneCell'=true:=by
 intro u hu;simp only[Xa,List.mem_map,List.mem_range]at hu;obtain⟨i,_,rfl⟩:=hu;have hp:0<z.length:=List.length_pos_iff.2 hz0;have hm:i%z.length<z.length:=Nat.mod_lt _ hp
 grind
theorem Qlz{t e:TypeId}{x:Operand}{a:Option Addr}{cap:Nat}(ho:o.op=.call {callee:=.builtin .clear,args:=#[x],argTypes:=#[t]})(hx:ev L x=some (.slice a 0 cap))(h:P.underlying t=some (.slice e)):OpH P o L (HS w0 M As) (λ_:Unit=>.tuple #[]) (λ_=>True) (λ_=>HS w0 M As):=by
 intro ρ w hρ hw
 have he:(Builtin.clear_ #[t] o.type #[.slice a 0 cap]).run P w=.ok (.tuple #[]) w:=by
  unfold Builtin.clear_;cases a<;>simp[run_underlying h]
 simp only[execOp,ho,resolve,Sem.run_bind,Sem.run_pure,Result.andThen_ok,invoke,builtin,List.map_toArray,List.map_cons,List.map_nil,hρ _ _ hx,he];exact⟨(),rfl,trivial,hw⟩
theorem QnV{t e sz by' n cap b tot i:Nat}{bt:TypeId}{x:Operand}{a:Option Addr}{z cs:List Value}(ho:o.op=.call {callee:=.builtin .clear,args:=#[x],argTypes:=#[t]})(hx:ev L x=some (.slice a n cap))(ht:tsl P t=some (e,sz,by'))(hz:Qz P e=some z)(hzs:z.length=sz)(hz1:z.all (·.oneCell')=true)(hz0:z≠[])
  (hp:Put As (.blk b bt tot cs) (.blk b bt tot (Qc cs i (Xa z (n*sz)))) As')(ha:0<n->a=some ⟨b,i,none⟩)(hr:i+n*sz<=cs.length):OpH P o L (HS w0 M As) (λ_:Unit=>.tuple #[]) (λ_=>True) (λ_=>HS w0 M As'):=by
 rcases Nat.eq_zero_or_pos n with hn|hn
 ·subst hn;intro ρ w hρ hw;have e0:Qc cs i (Xa z (0*sz))=cs:=by simp[Xa,Qc]
  rw[e0]at hp;obtain⟨Rs,h3,h4⟩:=hp.ex;obtain⟨hu,_⟩:=QO ht;have h:=Qlz (P:=P) (o:=o) (w0:=w0) (M:=M) (As:=As) ho hx hu ρ w hρ hw;refine h.mono λv w' hh=>?_;obtain⟨g,hv,_,hc⟩:=hh;exact⟨g,hv,trivial,(hc.pick h3).perm h4⟩
 ·rw[ha hn]at hx;intro ρ w hρ hw;obtain⟨hu,inf,hi,hs1,hs2⟩:=QO ht;obtain⟨inf',zv,h4,h5,h6⟩:=Yh hz;rw[hi]at h4;injection h4 with h4;subst h4
  have hzr:∀w,(zeroValue e).run P w=.ok zv w:=λw=>by simp[zeroValue,typeInfo,hi,h5]
  obtain⟨Rs,h3,h7⟩:=hp.ex;have hpk:=hw.pick h3;have hzs':zv.cells.size=sz:=by rw[<-hzs,<-h6];simp
  obtain⟨w',hst,hb,r1,r2,r3,r4,r5⟩:=Xe (P:=P) (Xa z (n*sz)) 0 cs w hpk.head (by rw[Qt];simpa using hr) (Qie hz1 hz0 _) (i:=i)
  have he:(Builtin.clear_ #[t] o.type #[.slice (some ⟨b,i,none⟩) n cap]).run P w=.ok (.tuple #[]) w':=by
   obtain⟨m,rfl⟩:∃m,n=m+1:=⟨n-1,om⟩;unfold Builtin.clear_;simp[run_underlying hu,hzr,Qbc,h6,hzs',hst]
  simp only[execOp,ho,resolve,Sem.run_bind,Sem.run_pure,Result.andThen_ok,invoke,builtin,List.map_toArray,List.map_cons,List.map_nil,hρ _ _ hx,he];exact⟨(),rfl,trivial,(HS.swap hpk (B:=.blk b bt tot (Qc cs i (Xa z (n*sz)))) (λ_ h=>h) r1 r2 r3 r4 (λk hk=>r5 k (by simpa[HA.fp_blk]using hk)) (show QL b bt tot (Qc cs i (Xa z (n*sz))) w' by simpa using hb)).perm h7⟩
theorem Zy{t xt e sz by' n m cap:Nat}{s x:Operand}{a:Option Addr}{z olds:List Value}(ho:o.op=.call {callee:=.builtin .append,args:=#[s,x],argTypes:=#[t,xt]})(hs:ev L s=some (.slice a n cap))(hx:ev L x=some (.int .i64 (m:Int)))(ht:tsl P t=some (e,sz,by'))(hxt:tki P xt=some .i64)(hz:Qz P e=some z)(hzs:z.length=sz)(hsz:0<sz)
  (hm:0<m)(hg:cap<n+m)(hold:∀w,HS w0 M As w->Src a olds w)(hl:olds.length=n*sz)(hroom:(n+m)*by'<=140737488355328)(hmax:n+m<=maxLen) :
  OpH P o L (HS w0 M As) (λp:Nat×Nat=>.slice (some ⟨p.1,0,none⟩) (n+m) p.2) (λp=>n+m<=p.2/\p.2<=maxLen) (λp=>HS w0 M (.blk p.1 e (p.2*sz) (olds++Xa z (m*sz))::As)):=by
 intro ρ w hρ hw;obtain⟨hu,inf,hi,hs1,hs2⟩:=QO ht;obtain⟨inf',zv,h4,h5,h6⟩:=Yh hz;rw[hi]at h4;injection h4 with h4;subst h4
 have hxk:=Qdv hxt;have hti:∀w,(typeInfo e).run P w=.ok inf w:=λw=>by simp[typeInfo,hi]
 have hsz':∀w,(Go.sizeOf e).run P w=.ok sz w:=λw=>by simp[Go.sizeOf,typeInfo,hi,hs1]
 have hzr:∀w,(zeroValue e).run P w=.ok zv w:=λw=>by simp[zeroValue,typeInfo,hi,h5]
 have hzs':zv.cells.size=sz:=by rw[<-hzs,<-h6];simp
 have hmx:n+m<=9223372036854775807:=by simp only[maxLen]at hmax;omega
 have hwr:IntKind.i64.wrap (m:Int)=m:=IntWalk.i64_in _ ⟨om,om⟩;have hai:∀w,(asInt (.int .i64 (m:Int))).run P w=.ok (m:Int) w:=λw=>by simp[asInt,asIntOf]
 have e2:(2:Int)^48=281474976710656:=by decide
 have hm2:m*by'<=(n+m)*by':=Nat.mul_le_mul_right _ om;have d1:¬(m:Int)*((inf.bytes:Nat):Int)>2^48:=by rw[e2,hs2,<-Int.natCast_mul];omega
 have d2:¬(m:Int)<0:=om
 have d3:¬n+m<=cap:=om
 have hfit:=growslice_fits hg hroom
 have d4:¬((Builtin.nextslicecap (n+m) cap*inf.bytes:Nat)>2^48):=by
   rw[hs2];have:(2:Nat)^48=281474976710656:=by decide
   omega
 have d5:¬(((n+m:Nat):Int)>IntKind.i64.max):=by
  have:IntKind.i64.max=9223372036854775807:=by decide
  omega
 have hge:=grownCap_ge w (n+m) cap e;have hle:=grownCap_le_maxLen w (n+m) cap e hmax
 have hnz:¬m*sz=0:=by
  have:=Nat.mul_pos hm hsz;omega
 have hfo:(Builtin.firstCells sz n (.slice a n cap)).run P w.drew=.ok olds.toArray w.drew:=Yr hl (hold w.drew hw.drew)
 have he:(Builtin.append_ #[t,xt] o.type #[.slice a n cap,.int .i64 (m:Int)]).run P w=.ok (.slice (some ⟨w.heap.size,0,none⟩) (n+m) (grownCap w (n+m) cap e)) (w.drew.alloc (.cells (olds.toArray++Builtin.zeroCells zv.cells m++Builtin.zeroCells zv.cells (grownCap w (n+m) cap e-(n+m))) e)):=by
  unfold Builtin.append_;simp only[List.getElem?_toArray,List.getElem?_cons_zero,List.getElem?_cons_succ,Sem.run_bind,Sem.run_pure,run_underlying hu,run_underlying hxk,Result.andThen_ok,hsz',if_true,hai,hwr,d2,if_false,hti,d1,Int.toNat_natCast,d3,d5,false_and,d4,Bool.not_true,Bool.false_eq_true,hnz];simp[Question.forced,hfo,newRow,grownCap,hzr,hti,d2,d3,d4,d5,hnz,hs2]
 simp only[execOp,ho,resolve,Sem.run_bind,Sem.run_pure,Result.andThen_ok,invoke,builtin,List.map_toArray,List.map_cons,List.map_nil,hρ _ _ hs,hρ _ _ hx,he];generalize grownCap w (n+m) cap e=N at *;refine⟨(w.heap.size,N),rfl,⟨hge,hle⟩,(hw.drew).alloc _ _ rfl ⟨_,_,heap_alloc_new _ _,?_,?_,λi hi=>?_,Nat.le_refl _,λ_ _ h=>absurd h (Nat.not_lt_zero _)⟩⟩
 ·refine Nat.le_of_eq (Eq.symm ?_);simp only[Array.size_append,List.size_toArray,size_zeroCells,hzs',hl];rw[<-Nat.add_mul,<-Nat.add_mul];congr 1;omega
 ·rw[List.length_append,hl,Qt,<-Nat.add_mul];exact Nat.mul_le_mul_right _ hge
 ·rw[Qbc zv.cells m,hzs',h6,Array.getElem?_append_left (by simpa using hi)];simp
def Qpt(P:Program)(f:FuncId)(t r:TypeId):Prop:=∃fn,P.funcs[f]?=some fn/\(fn.name== "runtime.NumGoroutine")=false/\fn.body.isNone=true/\Extern.findNext fn=none/\Extern.find fn=some (Extern.SlicesOverlaps.overlaps #[t,t] #[r])
theorem Qed{f t r e sz by' n m c c' b b' tot tot' i j:Nat}{bt bt':TypeId}{x y:Operand}{at':Array TypeId}{cs cs':List Value}{As1 As2:List HA}(ho:o.op=.call {callee:=.value (.func f),args:=#[x,y],argTypes:=at'})(hf:Qpt P f t r)(hx:ev L x=some (.slice (some ⟨b,i,none⟩) n c))(hy:ev L y=some (.slice (some ⟨b',j,none⟩) m c'))(ht:tsl P t=some (e,sz,by'))
  (hp:QF As (.blk b bt tot cs) As1)(hp':QF As1 (.blk b' bt' tot' cs') As2)(hb:bt≠u8T)(hi:i<tot)(hj:0<tot'):OpQ P o L (HS w0 M As) (.bool false):=by
 intro ρ w hρ hw;obtain⟨fn,h1,h2,h3,h4,h5⟩:=hf;obtain⟨hu,inf,hi',hs1,hs2⟩:=QO ht;have hne:=hw.ne hp hp';have g1:=hw.blk_get hp;have g2:=(hw.pick hp).tail.blk_get hp';have hsz:∀w,(Go.sizeOf e).run P w=.ok sz w:=λw=>by simp[Go.sizeOf,typeInfo,hi',hs1]
 obtain⟨k1,hk1,hs1',hu1⟩:=g1.shape;obtain⟨k2,hk2,hs2',hu2⟩:=g2.shape;have hrun:=Lib.run_overlaps_apart w t r e hu sz hsz ⟨b,i,none⟩ ⟨b',j,none⟩ n c m c' hne bt bt' k1 k2 hs1' hs2' om (g1.frozen hi) (hu1 hb);have hcall:=run_callFunc_extern h1 h2 h3 h4 h5 #[.slice (some ⟨b,i,none⟩) n c,.slice (some ⟨b',j,none⟩) m c'] w;rw[hrun]at hcall
 have:(execOp ρ o).run P w=.ok (.value (.bool false)) w:=by
  unfold execOp;simp only[ho,resolve,Sem.run_bind,hρ (.func f) _ rfl,Deferred.ofValue,Sem.run_pure,Result.andThen_ok,invoke,List.map_toArray,List.map_cons,List.map_nil,hρ _ _ hx,hρ _ _ hy,Array.empty_append,Array.append_empty,hcall]
 rw[this];exact⟨rfl,Below.refl _ _⟩
theorem Qm5{t e sz by':Nat}{x lo hi mx:Operand}{a:Option Addr}{n cap:Nat}{k1 k2 k3:IntKind}{i1 i2 i3:Int}(i j m:Nat)(ho:o.op=.slice t x (some lo) (some hi) (some mx))(hx:ev L x=some (.slice a n cap))(hl:ev L lo=some (.int k1 i1))(hh:ev L hi=some (.int k2 i2))(hm:ev L mx=some (.int k3 i3))(ht:tsl P t=some (e,sz,by'))(e1:i1=(i:Int))(e2:i2=(j:Int))(e3:i3=(m:Int))(hij:i<=j)(hjm:j<=m)(hmc:m<=cap) :
  OpP P o L (.slice (YA a m i sz) (j-i) (m-i)):=by
 intro ρ w hρ;obtain⟨hu,inf,h1,h2,_⟩:=QO ht;subst e1 e2 e3;simp[execOp,ho,hρ _ _ hx,hρ _ _ hl,hρ _ _ hh,hρ _ _ hm,Instr.sliceAt,Instr.slice,Instr.sliceBounds,Instr.sliceBound,asIntOf,run_underlying hu,hij,hjm,hmc,Go.sizeOf,typeInfo,h1,h2,YA]
end
theorem QY(cs:List Value)(i k:Nat)(h:i+k<=cs.length):(cut cs i k).length=k:=by grind[cut]
theorem Qf5{cs:List Value}(h:∀u∈cs,u.oneCell'=true)(i k:Nat):∀u∈cut cs i k,u.oneCell'=true:=λu hu=>h u (List.mem_of_mem_drop (List.mem_of_mem_take hu))
theorem YP:∀(vs cs:List Value)(i j:Nat),(Qc cs i vs)[j]?=if i<=j/\j<i+vs.length/\j<cs.length then vs[j-i]? else cs[j]?
 | [],cs,i,j=>by rw[Qc,if_neg (by simp only[List.length_nil];omega)]
 | v::vs,cs,i,j=>by
  rw[Qc,YP vs (cs.set i v) (i+1) j]
  grind
theorem QiA(cs:List Value)(i k j:Nat):(cut cs i k)[j]?=if j<k then cs[i+j]? else none:=by grind[cut]
theorem QiH{xs ds:List Value}{i k:Nat}(h:∀u∈xs,u.oneCell'=true)(hk:i+k<=xs.length):∀u∈cut (xs++ds) i k,u.oneCell'=true:=by grind[cut,Qf5]
theorem QgL{xs news z:List Value}{p q N:Nat}(hx:xs.length=N)(hp:p<=N)(hn:news.length=q)(hz:z.length=N+q-p):Qc (Qc (cut xs 0 p++z) p news) (p+q) (cut xs p (N-p))=xs.take p++news++xs.drop p:=by
 have h1:(cut xs 0 p).length=p:=QY _ _ _ om;have h2:(cut xs p (N-p)).length=N-p:=QY _ _ _ om;apply List.ext_getElem?
 grind[YP,QiA,Qf]
theorem Qlj{xs ds news:List Value}{p q N:Nat}(hx:xs.length=N)(hp:p<=N)(hn:news.length=q)(hd:q<=ds.length):Qc (Qc (xs++ds) (p+q) (cut (xs++ds) p (N-p))) p news=(xs.take p++news++xs.drop p)++ds.drop q:=by
 have h2:(cut (xs++ds) p (N-p)).length=N-p:=QY _ _ _ (by simp;omega);apply List.ext_getElem?;intro j;simp only[YP,List.getElem?_append,List.getElem?_take,List.getElem?_drop,QiA,Qf,List.length_append,List.length_take,List.length_drop,h2,hx,hn]
 grind
theorem QL.len_le{b t tot:Nat}{cs:List Value}{w:World}(h:QL b t tot cs w):cs.length<=tot:=by
 obtain⟨_,_,_,_,h3,_⟩:=h;exact h3
def QdI(L:Qa)(m:Nat):Bool:=(L.take m).all λp=>(Qa.get (L.drop m) p.1).isNone
theorem Qgu:∀(m:Nat)(L:Qa)(t:Nat)(v:Value),QdI L m=true->Qa.get (L.drop m) t=some v->Qa.get L t=some v
 | 0,L,t,v,_,h=>h
 | m+1,[],t,v,_,h=>by cases h
 | m+1,(k,u)::L,t,v,hf,h=>by
  simp only[QdI,List.take_succ_cons,List.drop_succ_cons,List.all_cons,Bool.and_eq_true]at hf;simp only[List.drop_succ_cons]at h;rw[Qa.get_cons]
  by_cases e:k=t
  ·grind
  ·rw[if_neg e];exact Qgu m L t v hf.2 h
theorem Qju{X:Ctx}{k:List KI}{L:Qa}{LJ:Unit->Qa}{C:World->Prop}{CJ:Unit->World->Prop}(m dp:Nat)(v:Value)(hJ:LJ ()=(dp,v)::L.drop m)(hv:Qa.get L dp=some v)(hf:QdI L m=true)(hC:∀w,C w->CJ () w):S X (.join (At X.n X.df LJ CJ)::k) L C:=
 λa w ha hw=>⟨(),⟨ha.defers,ha.size,λt u hu=>by
  rw[hJ,Qa.get_cons]at hu
  by_cases e:dp=t
  ·subst e;rw[if_pos rfl]at hu;injection hu with hu
   subst hu;exact ha.slot _ _ hv
  ·rw[if_neg e]at hu;exact ha.slot _ _ (Qgu m L t u hf hu)⟩,hC w hw⟩
end Gx
namespace Gx
open Go Go.RowKit
def Qrj(As:List HA):Prop:=As.Pairwise λA B=>∀b∈A.fp,b ∉ B.fp
def HA.star(As:List HA):HA:=⟨fps As,λw=>(∀A∈As,A.ok w)/\Qrj As,λw w' h ha=>⟨λA hA=>A.loc w w' (λb hb=>h b (List.mem_flatMap.2 ⟨A,hA,hb⟩)) (ha.1 A hA),ha.2⟩⟩
section
variable{w0 w:World}{M:List Nat}{As Bs:List HA}
theorem HS.star_open(h:HS w0 M (.star Bs::As) w):HS w0 M (Bs++As) w:=by
 have h1:=h.head;have hs:=List.pairwise_cons.1 h.sep;refine⟨h.os,h.tape,h.output,h.size,h.old,λA hA=>?_,λA hA b hb=>?_,?_⟩
 ·rcases List.mem_append.1 hA with hA|hA
  ·exact h1.1 A hA
  ·exact h.ok A (List.mem_cons_of_mem _ hA)
 ·rcases List.mem_append.1 hA with hA|hA
  ·exact h.lt _ (List.mem_cons_self ..) b (List.mem_flatMap.2 ⟨A,hA,hb⟩)
  ·exact h.lt A (List.mem_cons_of_mem _ hA) b hb
 ·rw[List.pairwise_append];exact⟨h1.2,hs.2,λA hA B hB b hb=>hs.1 B hB b (List.mem_flatMap.2 ⟨A,hA,hb⟩)⟩
theorem HS.star_close(h:HS w0 M (Bs++As) w):HS w0 M (.star Bs::As) w:=by
 have hs:=List.pairwise_append.1 h.sep;refine⟨h.os,h.tape,h.output,h.size,h.old,λA hA=>?_,λA hA b hb=>?_,?_⟩
 ·rcases List.mem_cons.1 hA with rfl|hA
  ·exact⟨λA hA=>h.ok A (List.mem_append_left _ hA),hs.1⟩
  ·exact h.ok A (List.mem_append_right _ hA)
 ·rcases List.mem_cons.1 hA with rfl|hA
  ·obtain⟨B,hB,hb⟩:=List.mem_flatMap.1 hb;exact h.lt B (List.mem_append_left _ hB) b hb
  ·exact h.lt A (List.mem_append_right _ hA) b hb
 ·refine List.pairwise_cons.2 ⟨λA hA b hb=>?_,hs.2.1⟩;obtain⟨B,hB,hb⟩:=List.mem_flatMap.1 hb
  grind
theorem HS.star_perm{Bs':List HA}(hp:Bs.Perm Bs')(h:HS w0 M (.star Bs::As) w):HS w0 M (.star Bs'::As) w:=
 HS.star_close (h.star_open.perm (hp.append_right As))
theorem HS.star_cons{A:HA}(h:HS w0 M (A::.star Bs::As) w):HS w0 M (.star (A::Bs)::As) w:=by
 have h1:HS w0 M (Bs++(A::As)) w:=(h.perm (List.Perm.swap ..)).star_open;exact HS.star_close (Bs:=A::Bs) (h1.perm List.perm_middle)
theorem HS.star_uncons{A:HA}(h:HS w0 M (.star (A::Bs)::As) w):HS w0 M (A::.star Bs::As) w:=by
 have h1:HS w0 M (A::(Bs++As)) w:=h.star_open;have h2:HS w0 M (Bs++(A::As)) w:=h1.perm List.perm_middle.symm;exact(HS.star_close h2).perm (List.Perm.swap ..)
theorem HS.star_nil(h:HS w0 M As w):HS w0 M (.star []::As) w:=HS.star_close (Bs:=[]) h
end
section
variable{α:Type}{vals:α->List Value}{sz:Nat}
theorem QaW(hv:∀x,(vals x).length=sz):∀l:List α,(l.flatMap vals).length=l.length*sz
 | []=>by simp
 | x::l=>by rw[List.flatMap_cons,List.length_append,hv,QaW hv l,List.length_cons,Nat.add_mul];omega
theorem QdK(hv:∀x,(vals x).length=sz):∀(l:List α)(i j:Nat)(x:α),l[i]?=some x->j<sz->(l.flatMap vals)[i*sz+j]?=(vals x)[j]?
 | [],i,j,x,h,_=>by simp at h
 | y::l,0,j,x,h,hj=>by grind
 | y::l,i+1,j,x,h,hj=>by
  rw[List.getElem?_cons_succ]at h;rw[List.flatMap_cons,List.getElem?_append_right (by rw[hv,Nat.add_mul];omega),hv,show(i+1)*sz+j-sz=i*sz+j by rw[Nat.add_mul];omega];exact QdK hv l i j x h hj
theorem Qdc(l m:List α):(l++m).flatMap vals=l.flatMap vals++m.flatMap vals:=List.flatMap_append ..
theorem Qhy(xs ys vs:List Value)(i:Nat)(h:xs.length<=i):Qc (xs++ys) i vs=xs++Qc ys (i-xs.length) vs:=by
 apply List.ext_getElem?
 grind[YP]
theorem Qfl(xs ys vs:List Value)(i:Nat)(h:i+vs.length<=xs.length):Qc (xs++ys) i vs=Qc xs i vs++ys:=by
 apply List.ext_getElem?
 grind[YP,Qf]
theorem Qcy(hv:∀x,(vals x).length=sz):∀(l:List α)(i o:Nat)(vs:List Value)(x y:α),l[i]?=some x->vals y=Qc (vals x) o vs->o+vs.length<=sz->Qc (l.flatMap vals) (i*sz+o) vs=(l.set i y).flatMap vals
 | [],i,o,vs,x,y,h,_,_=>by simp at h
 | z::l,0,o,vs,x,y,h,he,ho=>by grind[Qfl]
 | z::l,i+1,o,vs,x,y,h,he,ho=>by
  rw[List.getElem?_cons_succ]at h;have hz:=hv z;rw[List.flatMap_cons,Qhy _ _ _ _ (by rw[hz,Nat.add_mul];omega),hz,show(i+1)*sz+o-sz=i*sz+o by rw[Nat.add_mul];omega,Qcy hv l i o vs x y h he ho,List.set_cons_succ,List.flatMap_cons]
theorem Qla(h1:∀x,∀u∈vals x,u.oneCell'=true)(l:List α):∀u∈l.flatMap vals,u.oneCell'=true:=λu hu=>by grind
variable[Inhabited α]
def nth(l:List α)(i:Nat):α:=l.getD i default
theorem X4{l:List α}{i:Nat}(h:i<l.length):l[i]?=some (nth l i):=by grind[nth]
theorem Zq{l:List α}{i:Nat}{x:α}(h:l[i]?=some x):nth l i=x:=by grind[nth]
def Rw(vals:α->List Value)(sz:Nat)(w:World)(M:List Nat)(a:Option Addr)(l:List α):Prop:=Sl w M a sz l.length λi=>vals (nth l i)
theorem Rw.later{w w':World}{M:List Nat}{As:List HA}{a:Option Addr}{l:List α}(h:Rw vals sz w M a l)(hs:HS w M As w'):Rw vals sz w' [] a l:=Sl.later h hs λ_ _ _=>by simp
theorem Rw.rd{w:World}{M:List Nat}{a:Option Addr}{l:List α}(h:Rw vals sz w M a l){i:Nat}(hi:i<l.length):∀j v,(vals (nth l i))[j]?=some v->Rd w M (ab a) (ao a+i*sz+j) v:=λ_ _ hv=>Sl.rd h hi hv
theorem Rw.rdj{w:World}{M:List Nat}{a:Option Addr}{l:List α}(h:Rw vals sz w M a l){i:Nat}(j:Nat){v:Value}(hi:i<l.length)(hv:(vals (nth l i))[j]?=some v):Rd w M (ab a) (ao a+i*sz+j) v:=Sl.rd h hi hv
theorem Rw.some{w:World}{M:List Nat}{a:Option Addr}{l:List α}(h:Rw vals sz w M a l)(hn:0<l.length):a=.some ⟨ab a,ao a,none⟩:=Sl.some h hn
theorem Rw.src(hv:∀x,(vals x).length=sz){w0 w:World}{M:List Nat}{As:List HA}{a:Option Addr}{l:List α}(h:Rw vals sz w0 M a l)(hw:HS w0 M As w):Src a (l.flatMap vals) w:=λhne=>by
 have hn:0<l.length:=by grind
 have hsz:0<sz:=by rcases Nat.eq_zero_or_pos sz with e|e<;>simp_all
 refine⟨ab a,ao a,h.some hn,λj u hu=>?_⟩;have hj:j<l.length*sz:=by grind[QaW]
 have hi:j/sz<l.length:=Nat.div_lt_of_lt_mul (by rw[Nat.mul_comm];exact hj);have e:j=j/sz*sz+j%sz:=by rw[Nat.mul_comm];exact(Nat.div_add_mod j sz).symm
 have hm:=Nat.mod_lt j hsz;have hg:=QdK hv l (j/sz) (j%sz) _ (X4 hi) hm;rw[<-e]at hg;have:=hw.rd (h.rd hi (j%sz) u (by rw[<-hg];exact hu))
 rwa[Nat.add_assoc,<-e]at this
variable{w0 w:World}{M:List Nat}{As As':List HA}
theorem Qjz(hv:∀x,(vals x).length=sz)(l:List α):∀i,i<l.length->(vals (nth l i)).length=sz/\∀j v,(vals (nth l i))[j]?=some v->(l.flatMap vals)[i*sz+j]?=some v:=λi hi=>⟨hv _,λj v hj=>by
 have hlt:j<sz:=by grind
 rw[QdK hv l i j _ (X4 hi) hlt];exact hj⟩
theorem HS.rw_own(hv:∀x,(vals x).length=sz){a:Option Addr}{cap n t:Nat}{l:List α}(h:HS w0 M As w)(hp:QF As (.own (.slice a n cap) t sz n (l.flatMap vals)) As')(hn:n=l.length):Rw vals sz w [] a l:=by
 subst hn;exact h.sl_own hp rfl (Qjz hv l)
theorem HS.rw_blk(hv:∀x,(vals x).length=sz){b tot t:Nat}{l:List α}(h:HS w0 M As w)(hp:QF As (.blk b t tot (l.flatMap vals)) As'):Rw vals sz w [] (.some ⟨b,0,none⟩) l:=
 h.sl_blk hp (Qjz hv l)
def HA.row(t sz:Nat)(vals:α->List Value)(sub:α->HA)(a:Option Addr)(cap:Nat)(l:List α):HA:=.star (.own (.slice a l.length cap) t sz l.length (l.flatMap vals)::l.map sub)
variable{t cap:Nat}{sub:α->HA}{a:Option Addr}{l:List α}
theorem HS.row_open(h:HS w0 M (.row t sz vals sub a cap l::As) w):HS w0 M (.own (.slice a l.length cap) t sz l.length (l.flatMap vals)::.star (l.map sub)::As) w:=h.star_uncons
theorem HS.row_shut{n:Nat}{xs:List Value}(h:HS w0 M (.own (.slice a n cap) t sz n xs::.star (l.map sub)::As) w)(hn:n=l.length)(hx:xs=l.flatMap vals):HS w0 M (.row t sz vals sub a cap l::As) w:=by
 subst hn hx;exact h.star_cons
theorem QmA{β:Type}(l:List β)(i:Nat)(x:β)(h:l[i]?=some x):l.Perm (x::(l.take i++l.drop (i+1))):=by
 have hi:i<l.length:=by grind
 have e:l=l.take i++x::l.drop (i+1):=by
  have h2:=List.getElem?_eq_getElem hi;rw[h2]at h;injection h with h
  rw[<-h,<-List.drop_eq_getElem_cons hi,List.take_append_drop]
 conv=>lhs;rw[e]
 exact List.perm_middle
def QqK(l:List α)(i:Nat):List α:=l.take i++l.drop (i+1)
theorem HS.sub_open{i:Nat}(hi:i<l.length)(h:HS w0 M (.star (l.map sub)::As) w):HS w0 M (sub (nth l i)::.star ((QqK l i).map sub)::As) w:=by
 refine HS.star_uncons (h.star_perm ?_);exact(QmA l i _ (X4 hi)).map sub
theorem HS.sub_app{x:α}(h:HS w0 M (sub x::.star (l.map sub)::As) w):HS w0 M (.star ((l++[x]).map sub)::As) w:=by
 refine HS.star_perm ?_ h.star_cons;have h1:(x::l).Perm (l++[x]):=(List.perm_append_singleton x l).symm;exact h1.map sub
end
structure KeyK(P:Program)(kt:TypeId){α:Type}(K:α->Value):Prop where
 und:∃d,P.underlying kt=some d/\(∀a b,(Instr.sameNow d (K a) (K b)=some true ↔ a=b)/\(Instr.sameNow d (K a) (K b)=some false ↔ a≠b))
 chk:∀a e w,(Instr.checkKey e 10000 kt (K a)).run P w=.ok () w
 bits:∀a,Instr.sameBits 10000 (K a) (K a)=true
theorem XG{P:Program}{kt:TypeId}(h:tki P kt=some .i64):KeyK P kt (λn:Int=>Value.int .i64 n):=by
 have hu:=Qdv h;refine⟨⟨_,hu,λa b=>?_⟩,λa e w=>?_,λa=>?_⟩
 ·simp[Instr.sameNow]
 ·rw[show(10000:Nat)=9999+1 by rfl,Instr.checkKey];simp[run_underlying hu]
 ·rw[show(10000:Nat)=9999+1 by rfl,Instr.sameBits];simp
theorem Qlw(a b:List UInt8):(bs a==bs b)=decide (a=b):=by
 rw[beq_toListBytes,ByteArray.toList_eq,ByteArray.toList_eq];show(a==b)=_
 grind
theorem Qjt{P:Program}{kt:TypeId}(h:P.underlying kt=some .string):KeyK P kt (λl:List UInt8=>Value.string (bs l)):=by
 refine⟨⟨_,h,λa b=>?_⟩,λa e w=>?_,λa=>?_⟩
 ·have:=Qlw a b;simp[Instr.sameNow,this]
 ·rw[show(10000:Nat)=9999+1 by rfl,Instr.checkKey];simp[run_underlying h]
 ·have:=Qlw a a;show Instr.sameBits (9999+1) (.string (bs a)) (.string (bs a))=true;simp[Instr.sameBits,this]
def setO(w:World)(r:Nat)(o:Obj):World:={w with heap:=w.heap.setIfInBounds r o}
theorem Xr{P:Program}{w:World}{r:Nat}{es:Array MapEntry}{clock:Nat}(h:w.heap[r]?=some (.map es clock)):(getObj r).run P w=.ok (.map es clock) w:=by simp[getObj,Sem.run,h]
theorem Qap{P:Program}{w:World}{r:Nat}{es:Array MapEntry}{clock:Nat}(o:Obj)(h:w.heap[r]?=some (.map es clock)):(setObj r o).run P w=.ok () (setO w r o):=by simp[setObj,Sem.run,h,setO]
section
variable{α:Type}{K:α->Value}
def MpOk(r:Nat)(K:α->Value)(ks:List α)(w:World):Prop:=∃es clock,w.heap[r]?=some (.map es clock)/\es.toList.map (λe=>(e.key,e.val))=ks.map λa=>(K a,Value.bool true)
def HA.mp(r:Nat)(K:α->Value)(ks:List α):HA:=⟨[r],MpOk r K ks,λw w' h ha=>by
 obtain⟨es,clock,h1,h2⟩:=ha;exact⟨es,clock,(h r (List.mem_singleton.2 rfl)).trans h1,h2⟩⟩
theorem HA.fp_mp(r:Nat)(ks:List α):(HA.mp r K ks).fp=[r]:=rfl
theorem Qak{d:TypeDesc}(hd:∀a b,(Instr.sameNow d (K a) (K b)=some true ↔ a=b)/\(Instr.sameNow d (K a) (K b)=some false ↔ a≠b))(a:α):∀(es:List MapEntry)(ks:List α)(i:Nat),es.map (λe=>(e.key,e.val))=ks.map (λa=>(K a,Value.bool true)) ->
  (a ∉ ks/\Instr.findNow d (K a) es i=some none)\/(a∈ks/\∃j,es[j]?≠none/\ks[j]?=some a/\Instr.findNow d (K a) es i=some (some (i+j,.bool true)))
 | [],[],i,_=>.inl ⟨by simp,rfl⟩
 | [],_::_,i,h=>by cases h
 | _::_,[],i,h=>by cases h
 | e::es,k::ks,i,h=>by
  simp only[List.map_cons,List.cons.injEq,Prod.mk.injEq]at h;obtain⟨⟨hk,hv⟩,hr⟩:=h
  by_cases e1:a=k
  ·subst e1;refine .inr ⟨List.mem_cons_self ..,0,by simp,rfl,?_⟩;rw[Instr.findNow,hk,(hd a a).1.2 rfl,hv];rfl
  ·have h1:=(hd a k).2.2 e1;rcases Qak hd a es ks (i+1) hr with⟨h2,h3⟩|⟨h2,j,h4,h6,h5⟩
   ·refine .inl ⟨by simp[e1,h2],?_⟩;rw[Instr.findNow,hk,h1];exact h3
   ·refine .inr ⟨List.mem_cons_of_mem _ h2,j+1,by simpa using h4,by simpa using h6,?_⟩;rw[Instr.findNow,hk,h1]
    grind
variable{P:Program}{o:Oper}{L:Qa}{w0:World}{M:List Nat}{As As':List HA}
theorem QcX{t:TypeId}(ho:o.op=.makeMap t none)(K:α->Value):OpH P o L (HS w0 M As) (λr:Nat=>.map (some r)) (λ_=>True) (λr=>HS w0 M (.mp r K []::As)):=by
 intro ρ w hρ hw;simp only[execOp,ho,Option.map_none,run_makeMap,Sem.run_bind,Result.andThen_ok,Sem.run_pure];exact⟨w.heap.size,rfl,trivial,hw.alloc (.map #[] 0) (.mp w.heap.size K []) rfl ⟨#[],0,heap_alloc_new w _,rfl⟩⟩
def tzv(P:Program)(t:TypeId):Option Value:=(P.info? t).bind (·.zero)
open Classical in
theorem Qhr{t kt et r:Nat}{m x:Operand}{ks:List α}{a:α}(ho:o.op=.lookup t m x false)(hm:ev L m=some (.map (some r)))(hx:ev L x=some (K a))(ht:P.underlying t=some (.map kt et))(hz:tzv P et=some (.bool false))(hK:KeyK P kt K)(hp:QF As (.mp r K ks) As'):OpQ P o L (HS w0 M As) (.bool (decide (a∈ks))):=by
 intro ρ w hρ hw
 obtain⟨es,clock,h1,h2⟩:=(hw.pick hp).head
 obtain⟨d,hd,hs⟩:=hK.und
 have hzr:(zeroValue et).run P w=.ok (.bool false) w:=by
  unfold tzv at hz
  cases hi:P.info? et with
  | none=>rw[hi]at hz;cases hz
  | some inf=>
   rw[hi]at hz
   have hz':inf.zero=some (.bool false):=hz
   simp[zeroValue,typeInfo,hi,hz']
 have hl:(Instr.lookup t (.map (some r)) (K a) false).run P w=.ok (.bool (decide (a∈ks))) w:=by
  unfold Instr.lookup
  rcases Qak hs a es.toList ks 0 h2 with⟨h3,h4⟩|⟨h3,j,_,_,h4⟩
  ·simp[run_underlying ht,Xr h1,hK.chk,Instr.findKey,run_underlying hd,h4,hzr,h3]
  ·simp[run_underlying ht,Xr h1,hK.chk,Instr.findKey,run_underlying hd,h4,h3]
 simp only[execOp,ho,hρ _ _ hm,hρ _ _ hx,Sem.run_bind,hl,Result.andThen_ok,Sem.run_pure]
 exact⟨rfl,Below.refl _ _⟩
open Classical in
noncomputable def Z8(ks:List α)(a:α):List α:=if a∈ks then ks else ks++[a]
theorem Qdd{t kt et r:Nat}{m x y:Operand}{ks:List α}{a:α}(ho:o.op=.mapUpdate t m x y\/o.op=.insert t m x y)(hm:ev L m=some (.map (some r)))(hx:ev L x=some (K a))(hy:ev L y=some (.bool true))(ht:P.underlying t=some (.map kt et))(hK:KeyK P kt K)(hp:Put As (.mp r K ks) (.mp r K (Z8 ks a)) As') :
  OpH P o L (HS w0 M As) (λ_:Unit=>undef) (λ_=>True) (λ_=>HS w0 M As'):=by
 intro ρ w hρ hw;obtain⟨Rs,hp1,hp2⟩:=hp.ex;have hpk:=hw.pick hp1;obtain⟨es,clock,h1,h2⟩:=hpk.head;obtain⟨d,hd,hs⟩:=hK.und
 have hl:∃(es':Array MapEntry)(clock':Nat),(Instr.mapUpdate t (.map (some r)) (K a) (.bool true)).run P w=.ok () (setO w r (.map es' clock'))/\es'.toList.map (λe=>(e.key,e.val))=(Z8 ks a).map λa=>(K a,Value.bool true):=by
  unfold Instr.mapUpdate;rcases Qak hs a es.toList ks 0 h2 with⟨h3,h4⟩|⟨h3,j,h5,h6,h4⟩
  ·refine⟨es.push {key:=K a,val:=.bool true,born:=clock},clock+1,?_,?_⟩
   ·simp[run_underlying ht,Xr h1,Qap _ h1,hK.chk,Instr.findKey,run_underlying hd,h4]
   grind[Z8]
  ·rw[Nat.zero_add]at h4
   have hj:(es[j]?).map (·.key)=some (K a):=by
    have:=congrArg (λl:List (Value×Value)=>(l[j]?).map (·.1)) h2
    grind
   refine⟨es.modify j λe=>{e with key:=K a,val:=.bool true},clock,?_,?_⟩
   ·simp[run_underlying ht,Xr h1,Qap _ h1,hK.chk,Instr.findKey,run_underlying hd,h4,hj,Instr.keyThatStays,hK.bits]
   ·rw[Z8,if_pos h3,<-h2];apply List.ext_getElem?
    grind
 obtain⟨es',clock',hr,he⟩:=hl
 have hex:(execOp ρ o).run P w=.ok (.value undef) (setO w r (.map es' clock'))\/(execOp ρ o).run P w=.ok .skip (setO w r (.map es' clock')):=by
  rcases ho with ho|ho<;>simp[execOp,ho,hρ _ _ hm,hρ _ _ hx,hρ _ _ hy,hr]
 have hc:HS w0 M As' (setO w r (.map es' clock')):=(HS.swap hpk (w':=setO w r (.map es' clock')) (B:=.mp r K (Z8 ks a)) (λ_ h=>h) rfl rfl rfl (by simp[setO]) (λb hb=>by
  have hb':b≠r:=by simpa[HA.fp_mp]using hb
  simp[setO,Array.getElem?_setIfInBounds,Ne.symm hb']) ⟨es',clock',by
   have hlt:r<w.heap.size:=by
    rcases Nat.lt_or_ge r w.heap.size with h|h
    ·exact h
    ·rw[Array.getElem?_eq_none h]at h1;cases h1
   simp[setO,Array.getElem?_setIfInBounds,hlt],he⟩).perm hp2
 rcases hex with hex|hex<;>rw[hex]<;>exact⟨(),rfl,trivial,hc⟩
def MpR(w:World)(M:List Nat)(r:Nat)(K:α->Value)(ks:List α):Prop:=r<w.heap.size/\r ∉ M/\MpOk r K ks w
theorem HS.mpr{w0 w:World}{M:List Nat}{r:Nat}{ks:List α}(h:HS w0 M As w)(hp:QF As (.mp r K ks) As'):MpR w [] r K ks:=by
 obtain⟨es,clock,h1,h2⟩:=(h.pick hp).head;refine⟨?_,by simp,es,clock,h1,h2⟩
 grind
open Classical in
theorem Qfy{t kt et r:Nat}{m x:Operand}{ks:List α}{a:α}(ho:o.op=.lookup t m x false)(hm:ev L m=some (.map (some r)))(hx:ev L x=some (K a))(ht:P.underlying t=some (.map kt et))(hz:tzv P et=some (.bool false))(hK:KeyK P kt K)(hr:MpR w0 M r K ks):OpQ P o L (HS w0 M As) (.bool (decide (a∈ks))):=by
 intro ρ w hρ hw
 obtain⟨h1,h2,es,clock,h3,h4⟩:=hr
 have hb:w.heap[r]?=some (.map es clock):=(hw.old r h1 h2).trans h3
 have hlt:r<w.heap.size:=Nat.lt_of_lt_of_le h1 hw.size
 have hq:HS w [r] [.mp r K ks] w:=by
  refine HS.enter (λA hA=>?_) (λA hA b hb'=>?_) (.cons (λ_ h=>(by cases h)) .nil)
  ·rw[List.mem_singleton.1 hA]
   exact⟨es,clock,hb,h4⟩
  grind[HA.fp_mp]
 exact Qhr ho hm hx ht hz hK (w0:=w) (M:=[r]) (As:=[.mp r K ks]) .here ρ w hρ hq
end
end Gx
namespace Gx
open Go Go.RowKit
def Q2:List Int->Int
 | []=>0
 | e::r=>if e=0 then Q2 r else e
theorem XE{es:List Int}{k:Nat}(h:k<es.length):Q2 (es.drop k)=if es.getD k 0=0 then Q2 (es.drop (k+1))else es.getD k 0:=by
 rw[List.drop_eq_getElem_cons h,Q2,List.getD_eq_getElem?_getD,List.getElem?_eq_getElem h];rfl
theorem Qau{es:List Int}{k:Nat}(h:es.length<=k):Q2 (es.drop k)=0:=by
 rw[List.drop_eq_nil_of_le h];rfl
def Qfi:Value->Bool
 | .int .i64 _=>true
 | _=>false
def Xq:List Value->Int
 | .int _ n::r=>if n=0 then Xq r else n
 | _=>0
theorem Qbh:∀{cs:List Value},cs.all Qfi=true->Q2 (cs.map intOf)=Xq cs
 | [],_=>rfl
 | v::cs,h=>by
  simp only[List.all_cons,Bool.and_eq_true]at h;cases v with
  | int k n=>
   simp only[List.map_cons,Q2,Xq,intOf,Qbh h.2]
  | _=>cases h.1
theorem QhS{cs:List Value}(h:cs.all Qfi=true){i:Nat}(hi:i<cs.length):cs[i]?=some (.int .i64 ((cs.map intOf).getD i 0)):=by
 have h1:=List.all_eq_true.1 h cs[i] (List.getElem_mem hi);rw[List.getElem?_eq_getElem hi];simp only[List.getD_eq_getElem?_getD,List.getElem?_map,List.getElem?_eq_getElem hi,Option.map_some,Option.getD_some];cases hc:cs[i]with
 | int k n=>rw[hc]at h1;cases k<;>first|rfl|cases h1
 | _=>rw[hc]at h1;cases h1
theorem HS.sl_ints{w0 w:World}{M:List Nat}{As As':List HA}{b:Nat}{t:TypeId}{tot:Nat}{cs:List Value}(h:HS w0 M As w)(hp:QF As (.blk b t tot cs) As')(hc:cs.all Qfi=true):Sl w [] (some ⟨b,0,none⟩) 1 cs.length (λi=>[.int .i64 ((cs.map intOf).getD i 0)]):=
 h.sl_blk hp λi hi=>⟨rfl,λj v hv=>by
  have hj:j=0:=by
   rcases j with _|j
   ·rfl
   ·simp at hv
  subst hj;simp only[List.getElem?_cons_zero,Option.some.injEq]at hv;subst hv;rw[Nat.mul_one,Nat.add_zero];exact QhS hc hi⟩
end Gx
namespace Gx
open Go Go.RowKit
theorem Qdq(n:Nat)(h:n<256):IntKind.u8.wrap (n:Int)=n:=by
 simp only[IntKind.wrap,IntKind.signed,IntKind.bits];simp;omega
theorem Qbi(n m:Nat)(h:m<2^n):(BitVec.ofInt n (m:Int)).toNat=m:=by grind
def rotl(x:UInt16)(k:Nat):UInt16:=UInt16.ofNat (x.toNat*2^k%65536+x.toNat/2^(16-k))
structure Q4 where
 a:UInt16
 b:UInt16
 c:UInt16
 d:UInt16
 deriving DecidableEq
def half(q:Q4)(l r:Nat):Q4:=
 let a:=q.a+q.b
 let d:=rotl (q.d ^^^ a) l
 let c:=q.c+d
 let b:=rotl (q.b ^^^ c) r
 ⟨a,b,c,d⟩
def QmI(q:Q4):Q4:=half (half q 8 6) 4 3
end Gx
namespace Gx
open Go Go.RowKit
end Gx
namespace Gx
open Go Go.RowKit
def bv(b:UInt8):Value:=.int .u8 (b.toNat:Int)
theorem Yo(l:List UInt8):(l.map bv).map QaJ=l:=by
 rw[List.map_map];refine(List.map_congr_left (g:=id) λb _=>?_).trans (List.map_id _);simp[bv,QaJ,intOf]
theorem Zn(l:List UInt8):∀v∈l.map bv,QfV v=true:=by
 intro v hv;obtain⟨b,_,rfl⟩:=List.mem_map.1 hv;rfl
def w2(a b:UInt8):UInt16:=UInt16.ofNat (a.toNat+256*b.toNat)
def kw(key:List UInt8)(i:Nat):UInt16:=w2 (key.getD (2*i) 0) (key.getD (2*i+1) 0)
def Qlt(key:List UInt8)(n c:UInt16):List UInt16:=[0x6564,0x6f70,kw key 0,kw key 1,kw key 2,kw key 3,n,c]
def turn(s:List UInt16)(i j k l:Nat):List UInt16:=
 let q:=QmI ⟨s.getD i 0,s.getD j 0,s.getD k 0,s.getD l 0⟩
 (((s.set i q.a).set l q.d).set k q.c).set j q.b
def Qpl(s:List UInt16):List UInt16:=turn (turn (turn (turn s 0 2 4 6) 1 3 5 7) 0 3 4 7) 1 2 5 6
def Qk1(s:List UInt16):Nat->List UInt16
 | 0=>s
 | k+1=>Qpl (Qk1 s k)
def lo(x:UInt16):UInt8:=UInt8.ofNat x.toNat
def hi(x:UInt16):UInt8:=UInt8.ofNat (x.toNat/256)
def wb(ws:List UInt16):Nat->List UInt8
 | 0=>[]
 | k+1=>wb ws k++[lo (ws.getD k 0),hi (ws.getD k 0)]
def addL(a b:List UInt16):List UInt16:=(List.range 8).map λi=>a.getD i 0+b.getD i 0
def Qqz(key:List UInt8)(n c:UInt16):List UInt8:=wb (addL (Qk1 (Qlt key n c) 6) (Qlt key n c)) 8
def ks(key:List UInt8)(n:UInt16)(p:Nat):UInt8:=(Qqz key n (UInt16.ofNat (p/16))).getD (p%16) 0
theorem Rd.later{w w':World}{M M':List Nat}{As:List HA}{b o:Nat}{v:Value}(hr:Rd w M b o v)(hs:HS w M As w')(hM:b ∉ M'):Rd w' M' b o v:=
 ⟨Nat.lt_of_lt_of_le hr.1 hs.size,hM,hs.rd hr⟩
end Gx
namespace Gx
open Go Go.RowKit
def Vl(w:World)(a:Option Addr)(vs:List Value):Prop:=Sl w [] a 1 vs.length (λi=>(vs[i]?).toList)
theorem Vl.later{w w':World}{As:List HA}{a:Option Addr}{vs:List Value}(h:Vl w a vs)(hs:HS w [] As w'):Vl w' a vs:=Sl.later h hs λ_ _ h=>h
theorem Vl.rd{w:World}{a:Option Addr}{vs:List Value}(h:Vl w a vs){i:Nat}{v:Value}(hv:vs[i]?=some v):Rd w [] (ab a) (ao a+i*1) v:=by
 have hi:i<vs.length:=(List.getElem?_eq_some_iff.1 hv).1;exact Sl.rd (j:=0) h hi (by simp[hv])
theorem Vl.some{w:World}{a:Option Addr}{vs:List Value}(h:Vl w a vs)(hn:0<vs.length):a=.some ⟨ab a,ao a,none⟩:=Sl.some h hn
theorem Vl.src{w0 w:World}{As:List HA}{a:Option Addr}{vs:List Value}(h:Vl w0 a vs)(hw:HS w0 [] As w):Src a vs w:=by
 intro hne;refine⟨ab a,ao a,h.some (List.length_pos_iff.2 hne),λj u hu=>?_⟩;have:=hw.rd (h.rd hu)
 grind
theorem QfJ{vs:List Value}{i:Nat}(hi:i<vs.length):((vs[i]?).toList).length=1/\∀j v,((vs[i]?).toList)[j]?=some v->vs[i*1+j]?=some v:=by grind
theorem HS.vl_blk{w0 w:World}{M:List Nat}{As As':List HA}{b:Nat}{t:TypeId}{tot:Nat}{cs:List Value}(h:HS w0 M As w)(hp:QF As (.blk b t tot cs) As'):Vl w (some ⟨b,0,none⟩) cs:=
 h.sl_blk hp λi hi=>QfJ hi
theorem HS.vl_own{w0 w:World}{M:List Nat}{As As':List HA}{n:Nat}{t:TypeId}{cs:List Value}{a:Option Addr}{cap:Nat}(h:HS w0 M As w)(hp:QF As (.own (.slice a n cap) t 1 n cs) As'):Vl w a cs:=by
 have hl:cs.length=n:=by have:=(h.pick hp).head.1;omega
 subst hl;exact h.sl_own hp rfl λi hi=>QfJ hi
def Qhg(s:List UInt8):Value:=.string (bs s)
theorem QnK{ss:List (List UInt8)}{i:Nat}(h:i<ss.length):(ss.map Qhg)[i]?=some (.string (bs (ss.getD i []))):=by grind[Qhg]
def ixB:List Bool->Nat
 | []=>0
 | b::l=>if b=true then 0 else ixB l+1
theorem Qen:∀{l:List Bool}{k:Nat},k<=l.length->(∀i,i<k->l.getD i false=false)->(k<l.length->l.getD k false=true)->ixB l=k
 | [],k,h,_,_=>by simp at h;subst h;rfl
 | b::l,0,_,_,h3=>by grind[ixB]
 | b::l,k+1,h1,h2,h3=>by
  have h0:b=false:=h2 0 om;rw[ixB,if_neg (by rw[h0];decide),Qen (k:=k) (by simpa using h1) (λi hi=>h2 (i+1) om) (λhk=>h3 (by simpa using hk))]
theorem QiD:∀l:List Bool,l.any id=decide (ixB l<l.length)
 | []=>rfl
 | b::l=>by
  rw[List.any_cons,QiD l,ixB];cases b<;>simp
def ixI(l:List Bool):Int:=if ixB l<l.length then(ixB l:Int)else -1
theorem QiZ(l:List Bool):decide (0<=ixI l)=l.any id:=by grind[QiD,ixI]
end Gx
namespace Gx
open Go Go.RowKit
section
variable{w w':World}{M M':List Nat}{As:List HA}{a:Option Addr}
theorem Qjb{α:Type}[Inhabited α]{l:List α}{i:Nat}(h:i<l.length):nth l i∈l:=List.mem_of_getElem? (X4 h)
end
theorem Rd.next{w w':World}{M:List Nat}{b o:Nat}{v:Value}{As:List HA}(hr:Rd w M b o v)(hs:HS w M As w'):Rd w' [] b o v:=hr.later hs (by simp)
def openE(ac sh:Int):Int:=if(1<=ac/\ac<=7)/\0<=sh/\sh<=7 then 0 else 2
def Qx:List Int->Nat->Int×Int
 | [],_=>(0,0)
 | e::es,k=>if e=0 then Qx es (k+1)else((k:Int),e)
theorem Qae{es:List Int}{k:Nat}(h:k<es.length):Qx (es.drop k) k=if es.getD k 0=0 then Qx (es.drop (k+1)) (k+1)else((k:Int),es.getD k 0):=by
 rw[List.drop_eq_getElem_cons h,Qx,List.getD_eq_getElem?_getD,List.getElem?_eq_getElem h];rfl
theorem Qe6{es:List Int}{k:Nat}(h:es.length<=k):Qx (es.drop k) k=(0,0):=by rw[List.drop_of_length_le h];rfl
theorem Qbu:∀{es:List Int}{k:Nat},(Qx es k).2=0 ↔ ∀e∈es,e=0
 | [],_=>by simp[Qx]
 | e::es,k=>by
  unfold Qx;split
  ·simp_all[Qbu]
  simp_all
section
variable{P:Program}{o:Oper}{L:Qa}{w0:World}{M:List Nat}{As As':List HA}
theorem X0{t x b i:Nat}{v:Value}(ho:o.op=.load t (.tmp x))(hx:Qa.get L x=some (.pointer (some ⟨b,i,none⟩)))(hs:tsz P t=some (1,false))(hr:∀w,HS w0 M As w->Rd w [] b i v):OpQ P o L (HS w0 M As) v:=by
 intro ρ w hρ hw;simp only[execOp,ho,Sem.run_bind,hρ (.tmp x) _ hx,ZN hs (hr w hw).2.2,Result.andThen_ok,Sem.run_pure];exact⟨rfl,Below.refl _ _⟩
end
theorem QoC{X:Ctx}{k:List KI}{L:Qa}{w0:World}{M:List Nat}{As:List HA}{id:Nat}{l:List Oper}(Bs:List HA)(F:List Nat)(hm:X.P.follows .mixedOrders=true)(h:D X l.toArray F (HS w0 M Bs) l.length (Array.replicate l.length false) k L (HS w0 M As)):S X (.c (.region id l.toArray true)::k) L (HS w0 M As):=by
 intro a w ha hw;refine wpIn_region_any hm ?_;have:=h (Qc5 _ _) a ha
 simpa using YM (Q':=post X k) (λ_ _ h=>h) _ _ a (HS w0 M As) _ hw.drew this
theorem QhW{P:Program}{o:Oper}{L:Qa}{t t':TypeId}{x y:Operand}{a b:Bool}(ho:o.op=.binOp .neq t x y t')(hx:ev L x=some (.bool a))(hy:ev L y=some (.bool b))(ht:P.underlying t=some .bool):OpP P o L (.bool (!(a==b))):=by
 intro ρ w hρ;have hg:(eqGuard .neq t x y (.bool a) (.bool b)).run P w=.ok () w:=by unfold eqGuard;simp
 have hb:(binOp .neq t (.bool a) (.bool b)).run P w=.ok (.bool (!(a==b))) w:=by simp[binOp,Go.run_equal_bool w t a b ht]
 simp only[execOp,ho,hρ _ _ hx,hρ _ _ hy,Sem.run_bind,hg,hb,Result.andThen_ok,Sem.run_pure]
theorem Qb2{P:Program}{o:Oper}{L:Qa}{t t':TypeId}{x y:Operand}{a b:Bool}(ho:o.op=.binOp .eql t x y t')(hx:ev L x=some (.bool a))(hy:ev L y=some (.bool b))(ht:P.underlying t=some .bool):OpP P o L (.bool (a==b)):=by
 intro ρ w hρ;have hg:(eqGuard .eql t x y (.bool a) (.bool b)).run P w=.ok () w:=by unfold eqGuard;simp
 have hb:(binOp .eql t (.bool a) (.bool b)).run P w=.ok (.bool (a==b)) w:=by simp[binOp,Go.run_equal_bool w t a b ht]
 simp only[execOp,ho,hρ _ _ hx,hρ _ _ hy,Sem.run_bind,hg,hb,Result.andThen_ok,Sem.run_pure]
section
variable{w0 w:World}{M:List Nat}{As As':List HA}{a:Option Addr}{cap:Nat}
theorem HS.blk_to{b t tot:Nat}{cs cs':List Value}(h:HS w0 M As w)(hp:QF As (.blk b t tot cs) As')(he:cs=cs'):HS w0 M (.blk b t tot cs'::As') w:=by
 subst he;exact h.pick hp
end
end Gx
namespace Gx
open Go Go.RowKit
section
variable{X:Ctx}{ops:Array Oper}{F:List Nat}{fuel i:Nat}{listed:Array Bool}{k:List KI}{L:Qa}{d ty:Nat}{op:Op}{pos:String}{aft:Array Edge}{w0:World}{M:List Nat}{As Bs:List HA}
theorem Qmp{C:World->Prop}{B:World->Prop}{j:Nat}{want:Bool}(i dj:Nat)(hi:ops[i]?=some ⟨some d,op,ty,pos,aft,some (j,want)⟩)(hj:(ops[j]?).bind (·.dst)=some dj)(hb:Qa.get L dj=some undef)(hok:Qy ops listed i=true)(hF:F.all (λf=>!Nat.beq f i)=true)(hd:Nat.blt d X.n=true)
  (next:D X ops F B fuel (listed.setIfInBounds i true) k ((d,undef)::L) C):D X ops F B (fuel+1) listed k L C:=by
 intro hcl a ha;have hy:yielded ops a.tmps j=none:=by simp[yielded,hj,ha.slot _ _ hb,undef]
 refine Qbm hi (λhif=>?_) (Region.noSelect_spec (Yk hok)) fuel listed a C (X8 hi hok) (QK hok) (.inr ⟨by simp[Region.wanted,hy],rfl⟩) (next (hcl.set (QK hok)) _ (ha.put d undef hd));have:=List.all_eq_true.1 hF i hif
 simp_all
end
end Gx
namespace Gx
open Go Go.RowKit
def byV(b:UInt8):List Value:=[bv b]
theorem Qcr{α:Type}(f:α->Value)(l:List α):l.flatMap (λx=>[f x])=l.map f:=by induction l<;>grind
theorem YU{α β:Type}{f:α->β}{l:List α}{k:Nat}{d:α}{e:β}(h:k<l.length):(l.map f).getD k e=f (l.getD k d):=by grind
theorem QcH{l:List UInt8}{k:Nat}(h:k<l.length):(l.map bv)[k]?=some (.int .u8 ((l.getD k 0).toNat:Int)):=by grind[bv]
theorem Yt{α:Type}{l:List α}{k:Nat}{d:α}(h:k<l.length):l.getD k d∈l:=by grind
theorem XX{α:Type}{l:List α}{k:Nat}{d:α}(h:k<l.length):l.take (k+1)=l.take k++[l.getD k d]:=by simp_all
theorem QmQ{α:Type}{l:List α}{x d:α}(h:x∈l):∃k,k<l.length/\l.getD k d=x:=by
 obtain⟨k,hk,e⟩:=List.getElem_of_mem h;exact⟨k,hk,by rw[List.getD_eq_getElem?_getD,List.getElem?_eq_getElem hk];exact e⟩
theorem Z4:∀{l:List UInt8}{c:UInt8},Lib.indexByte l c<0 ↔ c ∉ l
 | [],c=>by simp[Lib.indexByte]
 | b::l,c=>by
  have ih:=Z4 (l:=l) (c:=c);have h1:=Lib.indexByte_ge l c;unfold Lib.indexByte
  by_cases e:b=c
  ·subst e;simp
  ·have e':(b==c)=false:=by simpa using e
   have e2:¬c=b:=λh=>e h.symm;rw[e'];simp only[Bool.false_eq_true,if_false,List.mem_cons,e2,false_or];rw[<-ih];split
   ·rename_i h;simp at h;omega
   ·rename_i h;simp at h;omega
def Qf2(c:UInt8):Int:=if c.toNat<128 then 0 else 2
def Qk4(t:List UInt8)(c:UInt8):Int:=if t.getD c.toNat 0=c then 0 else 3
def Yj(t:List UInt8):Int×Int:=
 if t.length=128 then if(Qx (t.map Qf2) 0).2=0 then Qx (t.map (Qk4 t)) 0 else Qx (t.map Qf2) 0 else(0,10)
theorem QcP{t:List UInt8}(h:(Yj t).2=0):t.length=128/\(∀c∈t,c.toNat<128)/\∀c∈t,t.getD c.toNat 0=c:=by
 unfold Yj at h;split at h
 ·rename_i hl;split at h
  ·rename_i h1;refine⟨hl,λc hc=>?_,λc hc=>?_⟩
   ·simp_all[Qbu,Qf2]
   simp_all[Qbu,Qk4]
  grind
 grind
def up(t s:List UInt8):List UInt8:=s.map λc=>t.getD c.toNat 0
theorem QaE(t s:List UInt8):(up t s).length=s.length:=by simp[up]
def QeI(c:Nat):UInt8:=if 97<=c/\c<=122 then UInt8.ofNat (c-32)else UInt8.ofNat c
def QhI:List UInt8:=(List.range 128).map QeI
def Xc:List UInt8:=[34,42,47,58,60,62,63,92,124]
def Yc(c:UInt8):Bool:=decide (32<=c.toNat)&&decide (c.toNat<=126)&& !(Xc.contains c)
def Zz(s:List UInt8):Bool:=!decide (s=[])&&decide (s.length<=32)&&s.all Yc&& !decide (s=[46,46])&& !([32].isSuffixOf s)&& !([46].isSuffixOf s)
def Xt(s:List UInt8):Int:=if s.length<=32 then if Zz s=true then 0 else 4 else 8
def QcI(l:List (List UInt8)):Int:=if l.length<=200 then Q2 (l.map Xt)else 8
theorem ZP:∀{es:List Int}{k:Nat},(Qx es k).2=Q2 es
 | [],_=>rfl
 | e::es,k=>by
  unfold Qx Q2;split
  ·exact ZP
  ·rfl
theorem Qgv{es:List Int}:Q2 es=0 ↔ ∀e∈es,e=0:=by rw[<-ZP (k:=0)];exact Qbu
theorem Qhe{s:List UInt8}(h:Xt s=0):s.length<=32/\0<s.length/\(∀c∈s,Yc c=true):=by grind[Xt,Zz]
theorem Qe1{c:UInt8}(h:Yc c=true):c.toNat<128:=by grind[Yc]
theorem Qcz{s:List UInt8}(h:Xt s=0):∀c∈s,c.toNat<128:=λc hc=>Qe1 ((Qhe h).2.2 c hc)
theorem Qkf{l:List (List UInt8)}(h:QcI l=0):l.length<=200/\∀s∈l,Xt s=0:=by
 unfold QcI at h;split at h
 ·simp_all[Qgv]
 grind
def Qko(c:UInt8):Bool:=decide (c=63)||decide (c=42)||Yc c
def Qgi(p:List UInt8):Int:=if p.length<=64 then if(!decide (p=[])&&p.all Qko)=true then 0 else 4 else 8
theorem Qn8{c:UInt8}(h:Qko c=true):c.toNat<128:=by
 unfold Qko at h;simp only[Bool.or_eq_true,decide_eq_true_eq]at h;rcases h with(h|h)|h
 ·subst h;decide
 ·subst h;decide
 ·exact Qe1 h
theorem Qn9{p:List UInt8}(h:Qgi p=0):p.length<=64/\0<p.length/\∀c∈p,c.toNat<128:=by grind[Qgi,Qn8]
def mtR(t s:List UInt8):List UInt8->Nat->Bool
 | [],i=>decide (i=0)
 | c::r,0=>if c=42 then mtR t s r 0 else false
 | c::r,i+1=>if c=42 then mtR t s r (i+1)||mtR t s (c::r) i else mtR t s r i&&(decide (c=63)||decide (t.getD c.toNat 0=t.getD (s.getD i 0).toNat 0))
termination_by r i=>(r.length,i)
def mtU(t p s:List UInt8):Bool:=mtR t s p.reverse s.length
def QaX:List UInt8:=[33,35,36,37,38,39,40,41,45,64,94,95,126]
def QbX(c:UInt8):Bool:=(decide (65<=c.toNat)&&decide (c.toNat<=90))||(decide (48<=c.toNat)&&decide (c.toNat<=57))||QaX.contains c
def Qjk(s:List UInt8)(most:Nat):Bool:=!decide (s=[])&&decide (s.length<=most)&&s.all QbX
def Zm:List UInt8->List UInt8×Option (List UInt8)
 | []=>([],none)
 | c::s=>if c=46 then([],some s)else(c::(Zm s).1,(Zm s).2)
def Qa5(s:List UInt8):Bool:=Qjk (Zm s).1 8&&match(Zm s).2 with
 | none=>true
 | some r=>Qjk r 3
end Gx
namespace Gx
open Go Go.RowKit
theorem aPk{As As':List HA}{A:HA}(h:QF As A As':=by repeat (first|exact .here|apply QF.there)):QF As A As':=h
theorem aPt{As As':List HA}{A B:HA}(h:Put As A B As':=by repeat (first|exact .here|apply Put.there)):Put As A B As':=h
theorem aPs{As Cs Ds:List HA}(h:QbK As Cs Ds:=by repeat (first|exact QbK.nil|(apply QbK.cons;· (repeat (first|exact .here|apply QF.there))))):QbK As Cs Ds:=h
theorem aEt{As Bs:List HA}(h:Ent As Bs:=by repeat (first|exact .nil|refine .cons (by repeat (first|exact .here|apply QF.there)) ?_)):Ent As Bs:=h
theorem aSx{L L':Qa}(h:QaO L L':=by repeat (first|exact sl_n|refine sl_c rfl ?_)):QaO L L':=h
section
variable{X:Ctx}{ops:Array Oper}{F:List Nat}{fuel:Nat}{listed:Array Bool}{rest:List Oper}{k:List KI}{L:Qa}{d ty:Nat}{op:Op}{pos:String}{aft:Array Edge}{C B:World->Prop}{v:Value}
theorem oP(next:O X ops rest k ((d,v)::L) C)(h:OpP X.P ⟨some d,op,ty,pos,aft,none⟩ L v:=by exact Zx rfl)(hd:Nat.blt d X.n=true:=by rfl):O X ops (⟨some d,op,ty,pos,aft,none⟩::rest) k L C:=o_p h hd next
theorem dP(i:Nat)(next:D X ops F B fuel (listed.setIfInBounds i true) k ((d,v)::L) C)(hi:ops[i]?=some ⟨some d,op,ty,pos,aft,none⟩:=by rfl)(h:OpP X.P ⟨some d,op,ty,pos,aft,none⟩ L v:=by exact Zx rfl)(hok:Qy ops listed i=true:=by kernel_rfl)(hF:F.all (λf=>!Nat.beq f i)=true:=by rfl)(hd:Nat.blt d X.n=true:=by rfl):D X ops F B (fuel+1) listed k L C:=d_p i hi h hok hF hd next
end
class TFd(P:Program)(t f:Nat)(off ft:outParam Nat):Prop where h:tfd P t f=some (off,ft)
class TSz(P:Program)(t:Nat)(n:outParam Nat)(ag:outParam Bool):Prop where h:tsz P t=some (n,ag)
class TSe(P:Program)(t:Nat)(e:outParam Nat):Prop where h:P.underlying t=some (.slice e)
section
variable{X:Ctx}{ops:Array Oper}{rest:List Oper}{k:List KI}{L:Qa}{d ty:Nat}{pos:String}{aft:Array Edge}{C:World->Prop}
theorem oFa{st f x b i off ft sz:Nat}{ag:Bool}[h1:TFd X.P st f off ft][h2:TSz X.P ft sz ag](next:O X ops rest k ((d,.pointer (some ⟨b,i+off,none⟩))::L) C)(hx:Qa.get L x=some (.pointer (some ⟨b,i,none⟩)):=by rfl)(hs:Nat.blt 0 sz=true:=by rfl)(hd:Nat.blt d X.n=true:=by rfl) :
  O X ops (⟨some d,.fieldAddr st (.tmp x) f,ty,pos,aft,none⟩::rest) k L C:=o_p (ZT rfl hx h1.h h2.h hs) hd next
theorem oLs{t e x n cap:Nat}{a:Option Addr}[h1:TSe X.P t e](next:O X ops rest k ((d,.int .i64 n)::L) C)(hx:Qa.get L x=some (.slice a n cap):=by rfl)(hd:Nat.blt d X.n=true:=by rfl) :
  O X ops (⟨some d,.call {callee:=.builtin .len,args:=#[.tmp x],argTypes:=#[t]},ty,pos,aft,none⟩::rest) k L C:=o_p (YR (x:=.tmp x) rfl hx h1.h) hd next
theorem oLd{w0:World}{M:List Nat}{As As':List HA}{t x b tot i:Nat}{bt:TypeId}{cs:List Value}{v:Value}[h1:TSz X.P t 1 false](next:O X ops rest k ((d,v)::L) (HS w0 M As))(hx:Qa.get L x=some (.pointer (some ⟨b,i,none⟩)):=by rfl)(hp:QF As (.blk b bt tot cs) As':=by repeat (first|exact .here|apply QF.there))(hv:cs[i]?=some v:=by rfl)(hd:Nat.blt d X.n=true:=by rfl) :
  O X ops (⟨some d,.load t (.tmp x),ty,pos,aft,none⟩::rest) k L (HS w0 M As):=o_q (Qan rfl hx h1.h hp hv) hd next
theorem oLn{w0:World}{M:List Nat}{As As':List HA}{t x b tot i n:Nat}{bt:TypeId}{cs:List Value}[h1:TSz X.P t n true](next:O X ops rest k ((d,.agg (cut cs i n).toArray)::L) (HS w0 M As))(hx:Qa.get L x=some (.pointer (some ⟨b,i,none⟩)):=by rfl)(hp:QF As (.blk b bt tot cs) As':=by repeat (first|exact .here|apply QF.there))(hl:Nat.ble (i+n) cs.length=true:=by rfl)(hd:Nat.blt d X.n=true:=by rfl) :
  O X ops (⟨some d,.load t (.tmp x),ty,pos,aft,none⟩::rest) k L (HS w0 M As):=o_q (QcA rfl hx h1.h hp hl) hd next
end
section
variable{X:Ctx}{ops:Array Oper}{F:List Nat}{fuel:Nat}{listed:Array Bool}{k:List KI}{L:Qa}{d ty:Nat}{pos:String}{aft:Array Edge}{C B:World->Prop}{w0:World}{M:List Nat}{As As' Bs:List HA}
theorem dFa(i:Nat){st f x b o off ft sz:Nat}{ag:Bool}(next:D X ops F B fuel (listed.setIfInBounds i true) k ((d,.pointer (some ⟨b,o+off,none⟩))::L) C)(hi:ops[i]?=some ⟨some d,.fieldAddr st (.tmp x) f,ty,pos,aft,none⟩:=by rfl)(hx:Qa.get L x=some (.pointer (some ⟨b,o,none⟩)):=by rfl)(h1:TFd X.P st f off ft:=by infer_instance)(h2:TSz X.P ft sz ag:=by infer_instance)(hs:Nat.blt 0 sz=true:=by rfl)(hok:Qy ops listed i=true:=by kernel_rfl)(hF:F.all (λf=>!Nat.beq f i)=true:=by rfl)(hd:Nat.blt d X.n=true:=by rfl):D X ops F B (fuel+1) listed k L C:=d_p i hi (ZT rfl hx h1.h h2.h hs) hok hF hd next
theorem dFo{j:Nat}{want c:Bool}(i dj:Nat){st f x b o off ft sz:Nat}{ag:Bool}(hw:c=want)(next:D X ops F B fuel (listed.setIfInBounds i true) k ((d,.pointer (some ⟨b,o+off,none⟩))::L) C)(hi:ops[i]?=some ⟨some d,.fieldAddr st (.tmp x) f,ty,pos,aft,some (j,want)⟩:=by rfl)(hj:(ops[j]?).bind (·.dst)=some dj:=by rfl)(hb:Qa.get L dj=some (.bool c):=by rfl)(hx:Qa.get L x=some (.pointer (some ⟨b,o,none⟩)):=by rfl)(h1:TFd X.P st f off ft:=by infer_instance)(h2:TSz X.P ft sz ag:=by infer_instance)(hs:Nat.blt 0 sz=true:=by rfl)(hok:Qy ops listed i=true:=by kernel_rfl)(hF:F.all (λf=>!Nat.beq f i)=true:=by rfl)(hd:Nat.blt d X.n=true:=by rfl):D X ops F B (fuel+1) listed k L C:=Qi0 i dj hi hj hb hw (ZT rfl hx h1.h h2.h hs) hok hF hd next
theorem dPo{j:Nat}{want c:Bool}{op:Op}{v:Value}(i dj:Nat)(hw:c=want)(next:D X ops F B fuel (listed.setIfInBounds i true) k ((d,v)::L) C)(hi:ops[i]?=some ⟨some d,op,ty,pos,aft,some (j,want)⟩:=by rfl)(hj:(ops[j]?).bind (·.dst)=some dj:=by rfl)(hb:Qa.get L dj=some (.bool c):=by rfl)(h:OpP X.P ⟨some d,op,ty,pos,aft,none⟩ L v:=by exact Zx rfl)(hok:Qy ops listed i=true:=by kernel_rfl)(hF:F.all (λf=>!Nat.beq f i)=true:=by rfl)(hd:Nat.blt d X.n=true:=by rfl):D X ops F B (fuel+1) listed k L C:=Qi0 i dj hi hj hb hw h hok hF hd next
theorem dOf{j:Nat}{want c:Bool}{op:Op}(i dj:Nat)(hw:c= !want)(next:D X ops F B fuel (listed.setIfInBounds i true) k ((d,undef)::L) C)(hi:ops[i]?=some ⟨some d,op,ty,pos,aft,some (j,want)⟩:=by rfl)(hj:(ops[j]?).bind (·.dst)=some dj:=by rfl)(hb:Qa.get L dj=some (.bool c):=by rfl)(hok:Qy ops listed i=true:=by kernel_rfl)(hF:F.all (λf=>!Nat.beq f i)=true:=by rfl)(hd:Nat.blt d X.n=true:=by rfl):D X ops F B (fuel+1) listed k L C:=QoR i dj hi hj hb hw hok hF hd next
theorem dOu{j:Nat}{want:Bool}{op:Op}(i dj:Nat)(next:D X ops F B fuel (listed.setIfInBounds i true) k ((d,undef)::L) C)(hi:ops[i]?=some ⟨some d,op,ty,pos,aft,some (j,want)⟩:=by rfl)(hj:(ops[j]?).bind (·.dst)=some dj:=by rfl)(hb:Qa.get L dj=some undef:=by rfl)(hok:Qy ops listed i=true:=by kernel_rfl)(hF:F.all (λf=>!Nat.beq f i)=true:=by rfl)(hd:Nat.blt d X.n=true:=by rfl):D X ops F B (fuel+1) listed k L C:=Qmp i dj hi hj hb hok hF hd next
theorem dNi(next:S X k L (HS w0 M As))(hB:∀w,HS w0 M As w->B w:=by(intro w h;first|exact h|exact h.ent aEt))(hr:(Region.ready .any ops listed==[])=true:=by kernel_rfl):D X ops F B 0 listed k L (HS w0 M As):=QoX hr hB next
theorem dBa(next:D X ops F (HS w0 M As) fuel listed k L (HS w0 M As))(hB:∀w,HS w0 M As w->B w:=by(intro w h;exact h.ent aEt)):D X ops F B fuel listed k L (HS w0 M As):=Qqr hB next
theorem dLd(i:Nat)(ps:List (List Nat)){t x b tot o:Nat}{bt:TypeId}{cs:List Value}{v:Value}(next:D X ops F (HS w0 M Bs) fuel (listed.setIfInBounds i true) k ((d,v)::L) C)(hi:ops[i]?=some ⟨some d,.load t (.tmp x),ty,pos,aft,none⟩:=by rfl)(hx:Qa.get L x=some (.pointer (some ⟨b,o,none⟩)):=by rfl)(h1:TSz X.P t 1 false:=by infer_instance)(hp:QF Bs (.blk b bt tot cs) As':=by repeat (first|exact .here|apply QF.there))(hv:cs[o]?=some v:=by rfl)(hok:Qy ops listed i=true:=by kernel_rfl)(hF:Xz ops F i ps=true:=by kernel_rfl)(hn:Zv F listed=true:=by kernel_rfl)(hd:Nat.blt d X.n=true:=by rfl):D X ops F (HS w0 M Bs) (fuel+1) listed k L C:=d_q i ps hi (Qan rfl hx h1.h hp hv) hok hF hn hd next
theorem dLn(i:Nat)(ps:List (List Nat)){t x b tot o n:Nat}{bt:TypeId}{cs:List Value}(next:D X ops F (HS w0 M Bs) fuel (listed.setIfInBounds i true) k ((d,.agg (cut cs o n).toArray)::L) C)(hi:ops[i]?=some ⟨some d,.load t (.tmp x),ty,pos,aft,none⟩:=by rfl)(hx:Qa.get L x=some (.pointer (some ⟨b,o,none⟩)):=by rfl)(h1:TSz X.P t n true:=by infer_instance)(hp:QF Bs (.blk b bt tot cs) As':=by repeat (first|exact .here|apply QF.there))(hl:Nat.ble (o+n) cs.length=true:=by rfl)(hok:Qy ops listed i=true:=by kernel_rfl)(hF:Xz ops F i ps=true:=by kernel_rfl)(hn:Zv F listed=true:=by kernel_rfl)(hd:Nat.blt d X.n=true:=by rfl):D X ops F (HS w0 M Bs) (fuel+1) listed k L C:=d_q i ps hi (QcA rfl hx h1.h hp hl) hok hF hn hd next
end
section
variable{X:Ctx}{ops:Array Oper}{F:List Nat}{fuel:Nat}{listed:Array Bool}{rest:List Oper}{k:List KI}{L:Qa}{d ty:Nat}{pos:String}{aft:Array Edge}{w0:World}{M:List Nat}{As As':List HA}
theorem oSt{t x b tot i n:Nat}{y:Operand}{bt:TypeId}{ag:Bool}{cs:List Value}{v:Value}[hs:TSz X.P t n ag](next:O X ops rest k L (HS w0 M As'))(hx:Qa.get L x=some (.pointer (some ⟨b,i,none⟩)):=by rfl)(hy:ev L y=some v:=by rfl)(hn:v.cells.toList.length=n:=by rfl)
  (hp:Put As (.blk b bt tot cs) (.blk b bt tot (Qc cs i v.cells.toList)) As':=by repeat (first|exact .here|apply Put.there))(hl:i+n<=cs.length:=by(simp only[Qf,List.length_set,List.length_cons,List.length_nil,List.length_map];omega))(h1:v.cells.toList.all (·.oneCell')=true:=by rfl) :
  O X ops (⟨none,.store t (.tmp x) y,ty,pos,aft,none⟩::rest) k L (HS w0 M As):=ZG (X5 rfl hx hy hs.h hn hp hl h1) λ_ _=>next
theorem oAl{t:TypeId}{z:List Value}(next:∀b,True->O X ops rest k ((d,.pointer (some ⟨b,0,none⟩))::L) (HS w0 M (.blk b t z.length z::As)))(hz:Qz X.P t=some z)(hd:Nat.blt d X.n=true:=by rfl):O X ops (⟨some d,.alloc t,ty,pos,aft,none⟩::rest) k L (HS w0 M As):=o_h (Qdx rfl hz) hd next
theorem oBx{t:TypeId}{x:Operand}{v:Value}(next:∀b,True->O X ops rest k ((d,.pointer (some ⟨b,0,none⟩))::L) (HS w0 M (.blk b t v.cells.toList.length v.cells.toList::As)))(hx:ev L x=some v:=by rfl)(hd:Nat.blt d X.n=true:=by rfl):O X ops (⟨some d,.box t x,ty,pos,aft,none⟩::rest) k L (HS w0 M As):=o_h (Qo2 rfl hx) hd next
theorem oWr{v:Int}{C:World->Prop}(next:O X ops rest k ((d,.int .i64 v)::L) C)(h1: -9223372036854775808<=v:=by omega)(h2:v<=9223372036854775807:=by omega):O X ops rest k ((d,.int .i64 (IntKind.i64.wrap v))::L) C:=Qn (Qkt h1 h2) next
theorem dWr{v:Int}{C B:World->Prop}(next:D X ops F B fuel listed k ((d,.int .i64 v)::L) C)(h1: -9223372036854775808<=v:=by omega)(h2:v<=9223372036854775807:=by omega):D X ops F B fuel listed k ((d,.int .i64 (IntKind.i64.wrap v))::L) C:=Qu (Qkt h1 h2) next
theorem dSt{B:World->Prop}(i:Nat){t x b tot o n:Nat}{y:Operand}{bt:TypeId}{ag:Bool}{cs:List Value}{v:Value}(next:D X ops F B fuel (listed.setIfInBounds i true) k L (HS w0 M As'))(hi:ops[i]?=some ⟨none,.store t (.tmp x) y,ty,pos,aft,none⟩:=by rfl)(hx:Qa.get L x=some (.pointer (some ⟨b,o,none⟩)):=by rfl)(hy:ev L y=some v:=by rfl)(hs:TSz X.P t n ag:=by infer_instance)(hn:v.cells.toList.length=n:=by rfl)
  (hp:Put As (.blk b bt tot cs) (.blk b bt tot (Qc cs o v.cells.toList)) As':=by repeat (first|exact .here|apply Put.there))(hl:o+n<=cs.length)(h1:v.cells.toList.all (·.oneCell')=true:=by rfl)(hr:(Region.ready .any ops listed==[i])=true:=by kernel_rfl)(hB:∀w,HS w0 M As w->B w:=by(intro w h;exact h.ent aEt)) :
  D X ops F B (fuel+1) listed k L (HS w0 M As):=QnU i hi (X5 rfl hx hy hs.h hn hp hl h1) hr hB λ_ _=>next
theorem dTu{B:World->Prop}(F':List Nat)(next:D X ops F' (HS w0 M As) fuel listed k L (HS w0 M As))(hf:F.any (λf=>listed.getD f false)=true:=by kernel_rfl):D X ops F B fuel listed k L (HS w0 M As):=Qqh F' hf next
end
section
variable{X:Ctx}{ops:Array Oper}{F:List Nat}{fuel:Nat}{listed:Array Bool}{k:List KI}{L:Qa}{d ty:Nat}{pos:String}{aft:Array Edge}{op:Op}{w0:World}{M:List Nat}{As Bs:List HA}
theorem dQ{C:World->Prop}{v:Value}(i:Nat)(ps:List (List Nat))(hi:ops[i]?=some ⟨some d,op,ty,pos,aft,none⟩)(h:OpQ X.P ⟨some d,op,ty,pos,aft,none⟩ L (HS w0 M Bs) v)(next:D X ops F (HS w0 M Bs) fuel (listed.setIfInBounds i true) k ((d,v)::L) C)(hok:Qy ops listed i=true:=by kernel_rfl)(hF:Xz ops F i ps=true:=by kernel_rfl)(hn:Zv F listed=true:=by kernel_rfl)(hd:Nat.blt d X.n=true:=by rfl):D X ops F (HS w0 M Bs) (fuel+1) listed k L C:=d_q i ps hi h hok hF hn hd next
theorem dV{C:World->Prop}{B:World->Prop}{v:Value}(i:Nat)(hi:ops[i]?=some ⟨some d,op,ty,pos,aft,none⟩)(h:OpP X.P ⟨some d,op,ty,pos,aft,none⟩ L v)(next:D X ops F B fuel (listed.setIfInBounds i true) k ((d,v)::L) C)(hok:Qy ops listed i=true:=by kernel_rfl)(hF:F.all (λf=>!Nat.beq f i)=true:=by rfl)(hd:Nat.blt d X.n=true:=by rfl):D X ops F B (fuel+1) listed k L C:=d_p i hi h hok hF hd next
theorem dH{B:World->Prop}{G:Type}{V:G->Value}{Fg:G->Prop}{C':G->World->Prop}(i:Nat)(hi:ops[i]?=some ⟨some d,op,ty,pos,aft,none⟩)(h:OpH X.P ⟨some d,op,ty,pos,aft,none⟩ L (HS w0 M As) V Fg C')(next:∀g,Fg g->D X ops F B fuel (listed.setIfInBounds i true) k ((d,V g)::L) (C' g))(hr:(Region.ready .any ops listed==[i])=true:=by kernel_rfl)(hB:∀w,HS w0 M As w->B w:=by(intro w h;exact h.ent aEt))(hd:Nat.blt d X.n=true:=by rfl):D X ops F B (fuel+1) listed k L (HS w0 M As):=d_h i hi h hr hB hd next
theorem dVo{C:World->Prop}{B:World->Prop}{v:Value}{j:Nat}{want b:Bool}(i dj:Nat)(hw:b=want)(hi:ops[i]?=some ⟨some d,op,ty,pos,aft,some (j,want)⟩)(hj:(ops[j]?).bind (·.dst)=some dj)(hb:Qa.get L dj=some (.bool b))(h:OpP X.P ⟨some d,op,ty,pos,aft,none⟩ L v)(next:D X ops F B fuel (listed.setIfInBounds i true) k ((d,v)::L) C)(hok:Qy ops listed i=true:=by kernel_rfl)(hF:F.all (λf=>!Nat.beq f i)=true:=by rfl)(hd:Nat.blt d X.n=true:=by rfl):D X ops F B (fuel+1) listed k L C:=Qi0 i dj hi hj hb hw h hok hF hd next
theorem dQo{C:World->Prop}{v:Value}{j:Nat}{want b:Bool}(i dj:Nat)(ps:List (List Nat))(hw:b=want)(hi:ops[i]?=some ⟨some d,op,ty,pos,aft,some (j,want)⟩)(hj:(ops[j]?).bind (·.dst)=some dj)(hb:Qa.get L dj=some (.bool b))(h:OpQ X.P ⟨some d,op,ty,pos,aft,none⟩ L (HS w0 M Bs) v)(next:D X ops F (HS w0 M Bs) fuel (listed.setIfInBounds i true) k ((d,v)::L) C)(hok:Qy ops listed i=true:=by kernel_rfl)(hF:Xz ops F i ps=true:=by kernel_rfl)(hn:Zv F listed=true:=by kernel_rfl)(hd:Nat.blt d X.n=true:=by rfl):D X ops F (HS w0 M Bs) (fuel+1) listed k L C:=Qo4 i dj ps hi hj hb hw h hok hF hn hd next
theorem rT{t:Nat}{v:Value}(hr:X.fn.results=[ResultVar.tmp t].toArray)(hv:Qa.get L t=some v)(h:∀w,HS w0 M As w->X.R (.returned (Qw [v])) w)(hrd:X.rd=none:=by rfl)(hdf:X.df=[]:=by rfl):S X (.c .ret::k) L (HS w0 M As):=Qj hr (.tmp hv .nil) h hrd hdf
end
theorem dT{p:Prop}[Decidable p]:(decide p=true)=p:=decide_eq_true_eq
theorem dN{p:Prop}[Decidable p]:decide p=false ↔ ¬p:=decide_eq_false_iff_not
class BP(b:Bool)(p n:outParam Prop):Prop where
 t:b=true->p
 f:b=false->n
instance(priority:=low) bp0(b:Bool):BP b (b=true) (b=false):=⟨id,id⟩
instance bpD(p:Prop)[Decidable p]:BP (decide p) p (¬p):=⟨of_decide_eq_true,of_decide_eq_false⟩
instance bpN(b:Bool)(p n:Prop)[h:BP b p n]:BP (!b) n p:=⟨λh9=>h.f (by simpa using h9),λh9=>h.t (by simpa using h9)⟩
instance bpA(a b:Bool)(p n p' n':Prop)[h:BP a p n][h':BP b p' n']:BP (a&&b) (p/\p') (n\/n'):=⟨λh9=>⟨h.t (by simp at h9;exact h9.1),h'.t (by simp at h9;exact h9.2)⟩,λh9=>by cases a with
 | true=>exact .inr (h'.f (by simpa using h9))
 | false=>exact .inl (h.f rfl)⟩
instance bpO(a b:Bool)(p n p' n':Prop)[h:BP a p n][h':BP b p' n']:BP (a||b) (p\/p') (n/\n'):=⟨λh9=>by cases a with
 | true=>exact .inl (h.t rfl)
 | false=>exact .inr (h'.t (by simpa using h9)),λh9=>⟨h.f (by simp at h9;exact h9.1),h'.f (by simp at h9;exact h9.2)⟩⟩
class TFn(P:Program)(f:Nat):Prop where h:QJ P f=true
section
variable{X:Ctx}{k:List KI}{L:Qa}{C:World->Prop}
theorem sCd{c:Operand}{x y:Code}{b:Bool}{p n:Prop}(hc:ev L c=some (.bool b))[hB:BP b p n](ht:p->S X (.c x::k) L C)(hf:n->S X (.c y::k) L C):S X (.c (.cond c x y)::k) L C:=QdE hc (λh=>ht (hB.t h)) λh=>hf (hB.f h)
variable{ops:Array Oper}{rest:List Oper}{d ty:Nat}{pos:String}{aft:Array Edge}{op:Op}
theorem Xu(m dj dp:Nat){b c:Bool}{p n:Prop}{l:List Oper}(hb:Qa.get L dj=some (.bool b))[hB:BP b p n]
  (h1:b=true->p->O X ops (l.take m) (.join (At X.n X.df (λ_:Unit=>(dp,.bool c)::L) (λ_=>C))::k) L C)
  (h0:b=false->n->O X ops (l.take m) (.join (At X.n X.df (λ_:Unit=>(dp,.bool false)::L) (λ_=>C))::k) L C)
  (h2:O X ops (l.drop m) k ((dp,.bool (b&&c))::L) C):O X ops l k L C:=Qrn m dj dp b c hb (λh=>h1 h (hB.t h)) (λh=>h0 h (hB.f h)) h2
theorem oOr(m dj dp:Nat){b c:Bool}{p n:Prop}{l:List Oper}(hb:Qa.get L dj=some (.bool b))[hB:BP b p n]
  (h1:b=false->n->O X ops (l.take m) (.join (At X.n X.df (λ_:Unit=>(dp,.bool c)::L) (λ_=>C))::k) L C)
  (h0:b=true->p->O X ops (l.take m) (.join (At X.n X.df (λ_:Unit=>(dp,.bool true)::L) (λ_=>C))::k) L C)
  (h2:O X ops (l.drop m) k ((dp,.bool (b||c))::L) C):O X ops l k L C:=o_or m dj dp b c hb (λh=>h1 h (hB.f h)) (λh=>h0 h (hB.t h)) h2
theorem oNo{j dj:Nat}{want b:Bool}{dst:Option Nat}(next:O X ops (⟨dst,op,ty,pos,aft,none⟩::rest) k L C)(hj:(ops[j]?).bind (·.dst)=some dj:=by rfl)(hs:Qa.get L dj=some (.bool b):=by rfl)(hb:b=want:=by assumption):O X ops (⟨dst,op,ty,pos,aft,some (j,want)⟩::rest) k L C:=o_on dj b hj hs hb next
theorem oFt{j dj:Nat}{b:Bool}(next:O X ops rest k ((d,undef)::L) C)(hj:(ops[j]?).bind (·.dst)=some dj:=by rfl)(hs:Qa.get L dj=some (.bool b):=by rfl)(hb:b=false:=by assumption)(hd:Nat.blt d X.n=true:=by rfl):O X ops (⟨some d,op,ty,pos,aft,some (j,true)⟩::rest) k L C:=Qlk dj b hj hs hb hd next
theorem oFf{j dj:Nat}{b:Bool}(next:O X ops rest k ((d,undef)::L) C)(hj:(ops[j]?).bind (·.dst)=some dj:=by rfl)(hs:Qa.get L dj=some (.bool b):=by rfl)(hb:b=true:=by assumption)(hd:Nat.blt d X.n=true:=by rfl):O X ops (⟨some d,op,ty,pos,aft,some (j,false)⟩::rest) k L C:=Qlk dj b hj hs hb hd next
theorem oFu{j dj:Nat}{want:Bool}(next:O X ops rest k ((d,undef)::L) C)(hj:(ops[j]?).bind (·.dst)=some dj:=by rfl)(hs:Qa.get L dj=some undef:=by rfl)(hd:Nat.blt d X.n=true:=by rfl):O X ops (⟨some d,op,ty,pos,aft,some (j,want)⟩::rest) k L C:=QkM dj hj hs hd next
variable{w0:World}{M:List Nat}{As:List HA}
theorem rV{t:Nat}{v v':Value}(hr:X.fn.results=[ResultVar.tmp t].toArray:=by rfl)(hv:Qa.get L t=some v:=by rfl)(hR:X.R=λen w'=>en=.returned v'/\Below w0.heap.size w0 w':=by rfl)(hrd:X.rd=none:=by rfl)(hdf:X.df=[]:=by rfl)(h:Ending.returned (Qw [v])=.returned v':=by rfl):S X (.c .ret::k) L (HS w0 [] As):=Qj hr (.tmp hv .nil) (λw' h'=>hR▸⟨h,h'.below⟩) hrd hdf
theorem oCq{f:FuncId}{args:Array Operand}{vs:List Value}{v:Value}{at':Array TypeId}(ha:evs L args.toList=some vs)[hf:TFn X.P f](hc:∀w,HS w0 M As w->Calls X.P f vs.toArray w λe w'=>e=.returned v/\Below w.heap.size w w')(next:O X ops rest k ((d,v)::L) (HS w0 M As))(hd:Nat.blt d X.n=true:=by rfl) :
  O X ops (⟨some d,.call {callee:=.value (.func f),args:=args,argTypes:=at'},ty,pos,aft,none⟩::rest) k L (HS w0 M As):=o_q (Qd rfl hf.h ha hc) hd next
theorem oCh{G:Type}{V:G->Value}{F:G->Prop}{Bs:G->List HA}{f:FuncId}{args:Array Operand}{vs:List Value}{at':Array TypeId}(ha:evs L args.toList=some vs)[hf:TFn X.P f](hc:∀w,HS w0 M As w->Calls X.P f vs.toArray w λe w'=>∃g,e=.returned (V g)/\F g/\HS w [] (Bs g) w')(next:∀g,F g->O X ops rest k ((d,V g)::L) (HS w0 M (Bs g++As)))(hd:Nat.blt d X.n=true:=by rfl) :
  O X ops (⟨some d,.call {callee:=.value (.func f),args:=args,argTypes:=at'},ty,pos,aft,none⟩::rest) k L (HS w0 M As):=o_h (Qk8 rfl hf.h ha hc) hd next
theorem sBk{α:Type}{LJ:α->Qa}{CJ:α->World->Prop}{I:α->Prop}{m:α->Nat}{x:α}(y:α)(hm:m y<m x:=by omega)(hI:I y:=by omega)(hL:QaO L (LJ y):=by repeat (first|exact sl_n|refine sl_c rfl ?_))(hC:∀w,HS w0 M As w->CJ y w:=by(intro w h;exact h.ent aEt)):S X (.join (QmS X.n X.df LJ CJ I m x)::k) L (HS w0 M As):=Qv y hm hI hL hC
end
section
variable{X:Ctx}{k:List KI}{L:Qa}{C:World->Prop}{ops:Array Oper}{rest:List Oper}{d ty:Nat}{pos:String}{aft:Array Edge}{op:Op}{LJ:Unit->Qa}{CJ:Unit->World->Prop}
theorem o0t{j dj:Nat}{b:Bool}(next:O X ops rest k L C)(hj:(ops[j]?).bind (·.dst)=some dj:=by rfl)(hs:Qa.get L dj=some (.bool b):=by rfl)(hb:b=false:=by assumption):O X ops (⟨none,op,ty,pos,aft,some (j,true)⟩::rest) k L C:=Qiu dj b hj hs hb next
theorem o0f{j dj:Nat}{b:Bool}(next:O X ops rest k L C)(hj:(ops[j]?).bind (·.dst)=some dj:=by rfl)(hs:Qa.get L dj=some (.bool b):=by rfl)(hb:b=true:=by assumption):O X ops (⟨none,op,ty,pos,aft,some (j,false)⟩::rest) k L C:=Qiu dj b hj hs hb next
theorem oJt(m dp:Nat){c x y:Operand}{b:Bool}{v:Value}(hc:ev L c=some (.bool b):=by rfl)(hb:b=true:=by assumption)(hx:ev L x=some v:=by rfl)(hd:Nat.blt dp X.n=true:=by rfl)(hJ:LJ ()=(dp,v)::((dp,v)::L).drop m:=by exact rfl)(hf:QdI ((dp,v)::L) m=true:=by exact rfl)(hC:∀w,C w->CJ () w:=by(intro w h;first|exact h|exact h.ent aEt)) :
  O X ops [⟨some dp,.pick c x y,ty,pos,aft,none⟩] (.join (At X.n X.df LJ CJ)::k) L C:=o_p (Xf rfl hc hb hx) hd (Qi1 (Qju m dp v hJ (by rw[Qa.get_cons,if_pos rfl]) hf hC))
theorem oJf(m dp:Nat){c x y:Operand}{b:Bool}{v:Value}(hc:ev L c=some (.bool b):=by rfl)(hb:b=false:=by assumption)(hx:ev L y=some v:=by rfl)(hd:Nat.blt dp X.n=true:=by rfl)(hJ:LJ ()=(dp,v)::((dp,v)::L).drop m:=by exact rfl)(hf:QdI ((dp,v)::L) m=true:=by exact rfl)(hC:∀w,C w->CJ () w:=by(intro w h;first|exact h|exact h.ent aEt)) :
  O X ops [⟨some dp,.pick c x y,ty,pos,aft,none⟩] (.join (At X.n X.df LJ CJ)::k) L C:=o_p (Xk rfl hc hb hx) hd (Qi1 (Qju m dp v hJ (by rw[Qa.get_cons,if_pos rfl]) hf hC))
end
section
variable{P:Program}{f:FuncId}{fn:Func}{n:Nat}{c:Code}{w w1:World}{R:Ending->World->Prop}{M:List Nat}{As:List HA}
theorem eN0(hf:P.funcs[f]?=some fn)(hn:fn.ntmps=n)(h:S {P:=P,fn:=fn,n:=n,R:=R} [.c c] (QcF 0 []) (HS w [] []))(hb:fn.body=some c:=by rfl)(hl:Nat.ble 0 n=true:=by rfl):Calls P f #[] w R:=enter (args:=[]) hf hn hb hl (HS.refl w []) h
theorem eN1{x0:Value}(hf:P.funcs[f]?=some fn)(hn:fn.ntmps=n)(h:S {P:=P,fn:=fn,n:=n,R:=R} [.c c] (QcF 0 [x0]) (HS w [] []))(hb:fn.body=some c:=by rfl)(hl:Nat.ble 1 n=true:=by rfl):Calls P f #[x0] w R:=enter (args:=[x0]) hf hn hb hl (HS.refl w []) h
theorem eW1{x0:Value}(hf:P.funcs[f]?=some fn)(hn:fn.ntmps=n)(hw:HS w1 M As w)(h:S {P:=P,fn:=fn,n:=n,R:=R} [.c c] (QcF 0 [x0]) (HS w1 M As))(hb:fn.body=some c:=by rfl)(hl:Nat.ble 1 n=true:=by rfl):Calls P f #[x0] w R:=enter (args:=[x0]) hf hn hb hl hw h
theorem eN2{x0:Value}{x1:Value}(hf:P.funcs[f]?=some fn)(hn:fn.ntmps=n)(h:S {P:=P,fn:=fn,n:=n,R:=R} [.c c] (QcF 0 [x0,x1]) (HS w [] []))(hb:fn.body=some c:=by rfl)(hl:Nat.ble 2 n=true:=by rfl):Calls P f #[x0,x1] w R:=enter (args:=[x0,x1]) hf hn hb hl (HS.refl w []) h
theorem eW2{x0:Value}{x1:Value}(hf:P.funcs[f]?=some fn)(hn:fn.ntmps=n)(hw:HS w1 M As w)(h:S {P:=P,fn:=fn,n:=n,R:=R} [.c c] (QcF 0 [x0,x1]) (HS w1 M As))(hb:fn.body=some c:=by rfl)(hl:Nat.ble 2 n=true:=by rfl):Calls P f #[x0,x1] w R:=enter (args:=[x0,x1]) hf hn hb hl hw h
theorem eN3{x0:Value}{x1:Value}{x2:Value}(hf:P.funcs[f]?=some fn)(hn:fn.ntmps=n)(h:S {P:=P,fn:=fn,n:=n,R:=R} [.c c] (QcF 0 [x0,x1,x2]) (HS w [] []))(hb:fn.body=some c:=by rfl)(hl:Nat.ble 3 n=true:=by rfl):Calls P f #[x0,x1,x2] w R:=enter (args:=[x0,x1,x2]) hf hn hb hl (HS.refl w []) h
theorem eW3{x0:Value}{x1:Value}{x2:Value}(hf:P.funcs[f]?=some fn)(hn:fn.ntmps=n)(hw:HS w1 M As w)(h:S {P:=P,fn:=fn,n:=n,R:=R} [.c c] (QcF 0 [x0,x1,x2]) (HS w1 M As))(hb:fn.body=some c:=by rfl)(hl:Nat.ble 3 n=true:=by rfl):Calls P f #[x0,x1,x2] w R:=enter (args:=[x0,x1,x2]) hf hn hb hl hw h
theorem eW4{x0:Value}{x1:Value}{x2:Value}{x3:Value}(hf:P.funcs[f]?=some fn)(hn:fn.ntmps=n)(hw:HS w1 M As w)(h:S {P:=P,fn:=fn,n:=n,R:=R} [.c c] (QcF 0 [x0,x1,x2,x3]) (HS w1 M As))(hb:fn.body=some c:=by rfl)(hl:Nat.ble 4 n=true:=by rfl):Calls P f #[x0,x1,x2,x3] w R:=enter (args:=[x0,x1,x2,x3]) hf hn hb hl hw h
end
theorem aU{p q:Prop}(hq:q)(h:(Unit->q)->p:=by(intro hq;first|refine QiN ?_|refine Qgt ?_|refine Qi1 ?_|refine QlN ?_|refine Qfz ?_|refine QoM ?_|refine oP ?_|refine oNo ?_|refine oFt ?_|refine oFf ?_|refine oFu ?_|refine o0t ?_|refine o0f ?_|refine oFa ?_|refine oLs ?_|refine oLd ?_|refine oLn ?_|refine oSt ?_);exact hq ()):p:=h λ_=>hq
theorem aT{p q:Prop}(hq:q)(h:(Unit->q)->p:=by(intro hq;refine aU ?_;try refine oWr ?_);exact hq ()):p:=h λ_=>hq
theorem aU2{p q:Prop}(hq:q)(h:(Unit->q)->p:=by(intro hq;iterate 2 refine aU ?_);exact hq ()):p:=h λ_=>hq
theorem aT2{p q:Prop}(hq:q)(h:(Unit->q)->p:=by(intro hq;(iterate 2 refine aU ?_);try refine oWr ?_);exact hq ()):p:=h λ_=>hq
theorem aU3{p q:Prop}(hq:q)(h:(Unit->q)->p:=by(intro hq;iterate 3 refine aU ?_);exact hq ()):p:=h λ_=>hq
theorem aT3{p q:Prop}(hq:q)(h:(Unit->q)->p:=by(intro hq;(iterate 3 refine aU ?_);try refine oWr ?_);exact hq ()):p:=h λ_=>hq
theorem aU4{p q:Prop}(hq:q)(h:(Unit->q)->p:=by(intro hq;iterate 4 refine aU ?_);exact hq ()):p:=h λ_=>hq
theorem aT4{p q:Prop}(hq:q)(h:(Unit->q)->p:=by(intro hq;(iterate 4 refine aU ?_);try refine oWr ?_);exact hq ()):p:=h λ_=>hq
theorem aU5{p q:Prop}(hq:q)(h:(Unit->q)->p:=by(intro hq;iterate 5 refine aU ?_);exact hq ()):p:=h λ_=>hq
theorem aT5{p q:Prop}(hq:q)(h:(Unit->q)->p:=by(intro hq;(iterate 5 refine aU ?_);try refine oWr ?_);exact hq ()):p:=h λ_=>hq
theorem aU6{p q:Prop}(hq:q)(h:(Unit->q)->p:=by(intro hq;iterate 6 refine aU ?_);exact hq ()):p:=h λ_=>hq
theorem aT6{p q:Prop}(hq:q)(h:(Unit->q)->p:=by(intro hq;(iterate 6 refine aU ?_);try refine oWr ?_);exact hq ()):p:=h λ_=>hq
theorem aU7{p q:Prop}(hq:q)(h:(Unit->q)->p:=by(intro hq;iterate 7 refine aU ?_);exact hq ()):p:=h λ_=>hq
theorem aT7{p q:Prop}(hq:q)(h:(Unit->q)->p:=by(intro hq;(iterate 7 refine aU ?_);try refine oWr ?_);exact hq ()):p:=h λ_=>hq
theorem aU8{p q:Prop}(hq:q)(h:(Unit->q)->p:=by(intro hq;iterate 8 refine aU ?_);exact hq ()):p:=h λ_=>hq
theorem aT8{p q:Prop}(hq:q)(h:(Unit->q)->p:=by(intro hq;(iterate 8 refine aU ?_);try refine oWr ?_);exact hq ()):p:=h λ_=>hq
theorem aU9{p q:Prop}(hq:q)(h:(Unit->q)->p:=by(intro hq;iterate 9 refine aU ?_);exact hq ()):p:=h λ_=>hq
theorem aT9{p q:Prop}(hq:q)(h:(Unit->q)->p:=by(intro hq;(iterate 9 refine aU ?_);try refine oWr ?_);exact hq ()):p:=h λ_=>hq
theorem ZH{p q:Prop}(hq:q)(h:(Unit->q)->p:=by(intro hq;iterate 10 refine aU ?_);exact hq ()):p:=h λ_=>hq
theorem Qnz{p q:Prop}(hq:q)(h:(Unit->q)->p:=by(intro hq;(iterate 10 refine aU ?_);try refine oWr ?_);exact hq ()):p:=h λ_=>hq
theorem QbB{p q:Prop}(hq:q)(h:(Unit->q)->p:=by(intro hq;iterate 11 refine aU ?_);exact hq ()):p:=h λ_=>hq
theorem QcZ{p q:Prop}(hq:q)(h:(Unit->q)->p:=by(intro hq;iterate 12 refine aU ?_);exact hq ()):p:=h λ_=>hq
theorem Qby{p q:Prop}(hq:q)(h:(Unit->q)->p:=by(intro hq;iterate 13 refine aU ?_);exact hq ()):p:=h λ_=>hq
theorem aT13{p q:Prop}(hq:q)(h:(Unit->q)->p:=by(intro hq;(iterate 13 refine aU ?_);try refine oWr ?_);exact hq ()):p:=h λ_=>hq
theorem Qgo{p q:Prop}(hq:q)(h:(Unit->q)->p:=by(intro hq;iterate 14 refine aU ?_);exact hq ()):p:=h λ_=>hq
theorem Qpy{p q:Prop}(hq:q)(h:(Unit->q)->p:=by(intro hq;(iterate 14 refine aU ?_);try refine oWr ?_);exact hq ()):p:=h λ_=>hq
theorem Qiq{p q:Prop}(hq:q)(h:(Unit->q)->p:=by(intro hq;iterate 15 refine aU ?_);exact hq ()):p:=h λ_=>hq
theorem aU16{p q:Prop}(hq:q)(h:(Unit->q)->p:=by(intro hq;iterate 16 refine aU ?_);exact hq ()):p:=h λ_=>hq
theorem aU17{p q:Prop}(hq:q)(h:(Unit->q)->p:=by(intro hq;iterate 17 refine aU ?_);exact hq ()):p:=h λ_=>hq
end Gx
