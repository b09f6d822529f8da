/- Contracts of the program's functions, proved by walking them with the rules of the Gx texts; without conditions beyond those that each contract names. -/
import Derived.WalkKit
import Derived.Deep.Draws
import Derived.TacticsIn
import Derived.OrdersIn
import Derived.RangeFuncLeaves
import Derived.Lib.Strings
import Derived.Laws.BytesArg
import Derived.Laws.IdiomStrings
import Derived.Deep.Quiet
import Derived.Laws.StructEq
import Derived.ChangeKeysEq
import Derived.Laws.Externs
import Derived.Lib.Overlaps
import Derived.Carry
import Derived.Laws.Small
import Derived.Lib.Bytealg
import Derived.Lib.Builder
import Derived.Laws.Pointers
import Derived.RangeFuncRecord
import Derived.Test.YtldegbfcaelpdaaGreatDoorProg
import Derived.KernelRfl
import Derived.ProofKit
import Derived.OpenShut
import Derived.Lib.UnsafeStr
import Derived.LaidEqlPtr
import Derived.Shelf.Strings.Builder1
import Derived.Shelf.Strings.Builder2
import Derived.Shelf.Strings.Trim
import Derived.Shelf.Small.Utf8
import Derived.Shelf.Small.Strs
import Derived.Shelf.Strings.BuilderF
import Derived.Shelf.Strings.BuilderK
import Derived.Shelf.Strings.Builder2Cap
import Derived.Shelf.Strings.Search1
import Derived.Shelf.Strings.Prefix
import Derived.Shelf.Unicode.Decode
import Derived.Shelf.Strings.Runes
import Derived.Shelf.Strings.AsciiSet
import Derived.Shelf.Bits.Mul64
import Derived.Shelf.Strings.Repeat
import Derived.Shelf.Unicode.DecodeSlow
import Derived.Shelf.Unicode.DecodeAny
import Derived.Shelf.Unicode.DecodeLast
import Derived.Shelf.Slices.Turned
import Derived.Shelf.Slices.Reverse
import Derived.Ground.Names2Prog
import Derived.Shelf.Slices.Clone
import Derived.Shelf.Slices.Cells
import Derived.Ground.SlgnProg
import Derived.Shelf.SlicesE.Reverse
import Derived.Shelf.SlicesE.Clone
import Derived.Test.YtldegbfcaelpdaaGreatDoorTie
import Derived.Test.YtldegbfcaelpdaaGreatDoorCards
import Derived.SevenTiedAt
import Derived.LaidMore
import Derived.Lay
import Derived.Stop.Joined
set_option linter.unusedSimpArgs false
set_option maxHeartbeats 1000000
set_option linter.unusedVariables false
set_option linter.unusedSectionVars false
set_option linter.unnecessarySimpa false
namespace Gx
theorem om{p:Prop}(h:p:=by omega):p:=h
end Gx
namespace Gx
open Go Go.RowKit
abbrev Qe:=List (Nat×Value)
def Qe.get:Qe->Nat->Option Value
 | [],_=>none
 | (k,v)::L,t=>bif Nat.beq k t then some v else Qe.get L t
def ev(L:Qe):Operand->Option Value
 | .tmp t=>Qe.get L t
 | .const v=>some v
 | .global g=>some (.pointer (some ⟨g,0,none⟩))
 | .func f=>some (.func (.func f) #[] #[])
def Qpy(df:List Nat):List Deferred:=df.map λD=>{target:=.collected D,args:=#[]}
structure FR(n:Nat)(df:List Nat)(L:Qe)(a:Act):Prop where
 defers:a.defers=Qpy df
 size:a.tmps.size=n
 slot:∀t v,Qe.get L t=some v->a.tmps[t]?=some v
theorem FR.evl{n:Nat}{df:List Nat}{L:Qe}{a:Act}(h:FR n df L a){x:Operand}{v:Value}(hx:ev L x=some v):a.eval x=v:=by
 cases x with
 | tmp t=>simp only[Act.eval,Array.getD_eq_getD_getElem?,h.slot t v hx,Option.getD_some]
 | const u=>simpa[Gx.ev,Act.eval]using hx
 | global g=>simpa[Gx.ev,Act.eval]using hx
 | func f=>simpa[Gx.ev,Act.eval]using hx
theorem FR.none{n:Nat}{df:List Nat}{L:Qe}{a:Act}(h:FR n df L a)(hd:df=[]):a.defers=[]:=by rw[h.defers,hd];rfl
theorem Qe.get_cons(L:Qe)(k t:Nat)(v:Value):Qe.get ((k,v)::L) t=if k=t then some v else Qe.get L t:=by simp_all[Qe.get]
theorem FR.put{n:Nat}{df:List Nat}{L:Qe}{a:Act}(h:FR n df L a)(d:Nat)(v:Value)(hd:Nat.blt d n=true):FR n df ((d,v)::L) (a.put (some d) v):=by
 have hd':d<n:=by simpa[Nat.blt_eq]using hd
 refine⟨h.defers,by simp[Act.put,h.size],λt u hu=>?_⟩;rw[Qe.get_cons]at hu;show(a.tmps.setIfInBounds d v)[t]?=some u;rw[Array.getElem?_setIfInBounds]
 by_cases e:d=t
 ·subst e;rw[if_pos rfl]at hu;rw[if_pos rfl,if_pos (by rw[h.size];exact hd')];exact hu
 ·rw[if_neg e]at hu;rw[if_neg e];exact h.slot t u hu
theorem FR.sub{n:Nat}{df:List Nat}{L L':Qe}{a:Act}(h:FR n df L a)(hs:∀p∈L',Qe.get L p.1=some p.2):FR n df L' a:=by
 refine⟨h.defers,h.size,λt v hv=>?_⟩
 induction L' with
 | nil=>cases hv
 | cons p L' ih=>
  obtain⟨k,u⟩:=p;rw[Qe.get_cons]at hv
  by_cases e:k=t
  ·rw[if_pos e]at hv;subst e;injection hv with hv
   subst hv;exact h.slot _ _ (hs (k,u) (List.mem_cons_self ..))
  grind
def QaX(L:Qe):Qe->Prop
 | []=>True
 | (k,v)::r=>Qe.get L k=some v/\QaX L r
theorem QaX.all{L:Qe}:∀{L':Qe},QaX L L'->∀p∈L',Qe.get L p.1=some p.2
 | [],_,p,hp=>by cases hp
 | (k,v)::r,h,p,hp=>by
  rcases List.mem_cons.1 hp with rfl|hp
  ·exact h.1
  ·exact QaX.all h.2 p hp
theorem QkO{L:Qe}:QaX L []:=trivial
theorem QfM{L:Qe}{k:Nat}{v:Value}{r:Qe}(h:Qe.get L k=some v)(hr:QaX L r):QaX L ((k,v)::r):=⟨h,hr⟩
def KI:Type:=Sum Code (Sum Nat (Act->World->Prop))
def KI.c(c:Code):KI:=Sum.inl c
def KI.blk(id:Nat):KI:=Sum.inr (Sum.inl id)
def KI.join(J:Act->World->Prop):KI:=Sum.inr (Sum.inr J)
structure Ctx where
 P:Program
 fn:Func
 n:Nat
 R:Ending->World->Prop
 rd:Option Nat:=none
 df:List Nat:=[]
abbrev Ctx.F(X:Ctx):Fence:={Fence.wide with round:=X.rd}
theorem Ctx.callsIn{X:Ctx}{m:Nat}{f:FuncId}{args:Array Value}{w:World}{R:Ending->World->Prop}(h:Calls X.P f args w R):CallsIn X.F m X.P f args w R:=callsIn_wide (n:=m) |>.2 h
def post(X:Ctx):List KI->Exit->Act->World->Prop
 | [],e,a,w=>match X.rd with
  | none=>bodyPostM X.F 0 X.P X.fn X.R e a w
  | some l=>roundPost X.P l X.R e a w
 | Sum.inl c::k,.normal,a,w=>c.wpIn X.F 0 X.P (post X k) a w
 | Sum.inl _::k,e,a,w=>post X k e a w
 | Sum.inr (Sum.inl id)::k,.exit id',a,w=>if id'=id then post X k .normal a w else post X k (.exit id') a w
 | Sum.inr (Sum.inl _)::k,e,a,w=>post X k e a w
 | Sum.inr (Sum.inr J)::_,.normal,a,w=>J a w
 | Sum.inr (Sum.inr _)::k,e,a,w=>post X k e a w
def S(X:Ctx)(k:List KI)(L:Qe)(C:World->Prop):Prop:=∀a w,FR X.n X.df L a->C w->post X k .normal a w
def SE(X:Ctx)(e:Exit)(k:List KI)(L:Qe)(C:World->Prop):Prop:=∀a w,FR X.n X.df L a->C w->post X k e a w
def O(X:Ctx)(ops:Array Oper)(rest:List Oper)(k:List KI)(L:Qe)(C:World->Prop):Prop:=
 ∀a w,FR X.n X.df L a->C w->wpListIn X.F 0 X.P ops (post X k) rest a w
section
variable{X:Ctx}{k:List KI}{L:Qe}{C:World->Prop}
theorem QrO{x y:Code}(h:S X (.c x::.c y::k) L C):S X (.c (.seq x y)::k) L C:=by
 intro a w ha hw;have:=h a w ha hw;refine wpIn_seq (wpIn_mono (Q':=Exit.then (y.wpIn X.F 0 X.P (post X k)) (post X k)) this λe a w he=>?_);cases e<;>exact he
theorem Qq2(h:S X k L C):S X (.c .skip::k) L C:=λa w ha hw=>wpIn_skip (h a w ha hw)
theorem QoA{id:Nat}{c:Code}(h:S X (.c c::.blk id::k) L C):S X (.c (.block id c)::k) L C:=by
 intro a w ha hw;refine wpIn_block (wpIn_mono (h a w ha hw) λe a w he=>?_);cases e<;>exact he
theorem Qpn{id:Nat}(h:S X k L C):S X (.blk id::k) L C:=λa w ha hw=>h a w ha hw
theorem Qqz{id:Nat}(h:SE X (.exit id) k L C):S X (.c (.exit id)::k) L C:=λa w ha hw=>wpIn_exit (h a w ha hw)
theorem se_c{e:Exit}{c:Code}(he:e≠ .normal)(h:SE X e k L C):SE X e (.c c::k) L C:=by
 intro a w ha hw;have:=h a w ha hw;cases e<;>first|exact this|exact absurd rfl he
theorem QkU{id:Nat}{c:Code}(h:SE X (.exit id) k L C):SE X (.exit id) (.c c::k) L C:=se_c (by simp) h
theorem Qhf{id:Nat}{J:Act->World->Prop}(h:SE X (.exit id) k L C):SE X (.exit id) (.join J::k) L C:=λa w ha hw=>h a w ha hw
theorem QgH{id:Nat}(h:S X k L C):SE X (.exit id) (.blk id::k) L C:=by
 intro a w ha hw;show(if id=id then _ else _);rw[if_pos rfl];exact h a w ha hw
theorem Qg5{id id':Nat}(hne:Nat.beq id id'=false)(h:SE X (.exit id) k L C):SE X (.exit id) (.blk id'::k) L C:=by
 intro a w ha hw;show(if id=id' then _ else _);rw[if_neg (λe=>by subst e;simp[Nat.beq_refl]at hne)];exact h a w ha hw
def Qge(id:Nat):List KI->Option (List KI)
 | []=>none
 | Sum.inr (Sum.inl id')::k=>bif Nat.beq id id' then some k else Qge id k
 | _::k=>Qge id k
theorem QgW{id:Nat}:∀{k k':List KI},Qge id k=some k'->S X k' L C->SE X (.exit id) k L C
 | [],_,h,_=>by cases h
 | Sum.inl c::k,k',h,hs=>QkU (QgW (k:=k) h hs)
 | Sum.inr (Sum.inr J)::k,k',h,hs=>Qhf (QgW (k:=k) h hs)
 | Sum.inr (Sum.inl id')::k,k',h,hs=>by
  simp only[Qge]at h;cases hb:Nat.beq id id' with
  | true=>
   have e:=Nat.eq_of_beq_eq_true hb;subst e;rw[hb]at h;injection h with h
   subst h;exact QgH hs
  | false=>
   rw[hb]at h;exact Qg5 hb (QgW (k:=k) h hs)
theorem Qj{id:Nat}{k':List KI}(h:Qge id k=some k')(hs:S X k' L C):S X (.c (.exit id)::k) L C:=Qqz (QgW h hs)
theorem QqG{c:Operand}{x y:Code}{b:Bool}(hc:ev L c=some (.bool b))(ht:b=true->S X (.c x::k) L C)(hf:b=false->S X (.c y::k) L C) :
  S X (.c (.cond c x y)::k) L C:=λa w ha hw=>wpIn_cond_split (ha.evl hc) (λh=>ht h a w ha hw) (λh=>hf h a w ha hw)
theorem Qin(h:SE X .ret k L C):S X (.c .ret::k) L C:=λa w ha hw=>wpIn_ret (h a w ha hw)
theorem Yg:∀{k:List KI},SE X .ret [] L C->SE X .ret k L C
 | [],h=>h
 | Sum.inl _::k,h=>λa w ha hw=>Yg (k:=k) h a w ha hw
 | Sum.inr (Sum.inl _)::k,h=>λa w ha hw=>Yg (k:=k) h a w ha hw
 | Sum.inr (Sum.inr _)::k,h=>λa w ha hw=>Yg (k:=k) h a w ha hw
theorem Qid{a:Act}{w:World}{v:Value}(hrd:X.rd=none)(hd:a.defers=[])(h:(results X.fn a.tmps).run X.P w=.ok v w)(hR:X.R (.returned v) w):post X [] .ret a w:=by
 show(match X.rd with|none=>bodyPostM X.F 0 X.P X.fn X.R .ret a w|some l=>roundPost X.P l X.R .ret a w);rw[hrd];show LeavesInM X.F 0 X.P X.fn a.tmps X.R a.defers .returning w;rw[hd];exact⟨v,h,hR⟩
theorem Qcr(hr:X.fn.results= #[])(h:∀w,C w->X.R (.returned (.tuple #[])) w)(hrd:X.rd=none:=by rfl)(hdf:X.df=[]:=by rfl):S X [] L C:=
 λ_ w ha hw=>by
  show(match X.rd with|none=>bodyPostM X.F 0 X.P X.fn X.R .normal _ w|some l=>roundPost X.P l X.R .normal _ w);rw[hrd];show LeavesInM X.F 0 X.P X.fn _ X.R _ .returning w;rw[ha.none hdf];exact⟨_,results_none hr _ _ _,h w hw⟩
theorem Qnm(hr:X.fn.results= #[])(h:∀w,C w->X.R (.returned (.tuple #[])) w)(hrd:X.rd=none:=by rfl)(hdf:X.df=[]:=by rfl):S X (.c .ret::k) L C:=
 Qin (Yg λ_ w ha hw=>Qid hrd (ha.none hdf) (results_none hr _ _ _) (h w hw))
theorem Qln{v:Value}(hr:∀a w,FR X.n X.df L a->C w->(results X.fn a.tmps).run X.P w=.ok v w)(h:∀w,C w->X.R (.returned v) w)(hrd:X.rd=none:=by rfl)(hdf:X.df=[]:=by rfl):S X (.c .ret::k) L C:=
 Qin (Yg λa w ha hw=>Qid hrd (ha.none hdf) (hr a w ha hw) (h w hw))
theorem Qn0{id:Nat}{l:List Oper}(h:O X l.toArray l k L C):S X (.c (.region id l.toArray false)::k) L C:=
 λa w ha hw=>wpIn_region_lit (h a w ha hw)
theorem Qm6{ops:Array Oper}(h:S X k L C):O X ops [] k L C:=λa w ha hw=>wpListIn_nil (h a w ha hw)
theorem Qi{L':Qe}{C':World->Prop}(hL:QaX L L')(hC:∀w,C w->C' w)(h:S X k L' C'):S X k L C:=
 λa w ha hw=>h a w (ha.sub hL.all) (hC w hw)
theorem QcY{C':World->Prop}(hC:∀w,C w->C' w)(h:S X k L C'):S X k L C:=λa w ha hw=>h a w ha (hC w hw)
theorem Xm{C':World->Prop}{ops:Array Oper}{rest:List Oper}(hC:∀w,C w->C' w)(h:O X ops rest k L C'):O X ops rest k L C:=λa w ha hw=>h a w ha (hC w hw)
theorem Yr{p:Prop}(hp:∀w,C w->p)(h:p->S X k L C):S X k L C:=λa w ha hw=>h (hp w hw) a w ha hw
theorem XQ{p:Prop}{ops:Array Oper}{rest:List Oper}(hp:∀w,C w->p)(h:p->O X ops rest k L C):O X ops rest k L C:=λa w ha hw=>h (hp w hw) a w ha hw
theorem s_ex{α:Type}{D:α->World->Prop}(hp:∀w,C w->∃x,D x w)(h:∀x,S X k L (D x)):S X k L C:=λa w ha hw=>let⟨x,hx⟩:=hp w hw;h x a w ha hx
theorem QfP{α:Type}{D:α->World->Prop}{ops:Array Oper}{rest:List Oper}(hp:∀w,C w->∃x,D x w)(h:∀x,O X ops rest k L (D x)):O X ops rest k L C:=λa w ha hw=>let⟨x,hx⟩:=hp w hw;h x a w ha hx
theorem Ql{d:Nat}{v u:Value}{ops:Array Oper}{rest:List Oper}(e:v=u)(h:O X ops rest k ((d,u)::L) C):O X ops rest k ((d,v)::L) C:=by subst e;exact h
def At(n:Nat)(df:List Nat){α:Type}(LJ:α->Qe)(CJ:α->World->Prop)(a:Act)(w:World):Prop:=∃x,FR n df (LJ x) a/\CJ x w
theorem Qck{α:Type}{LJ:α->Qe}{CJ:α->World->Prop}(x:α)(hL:QaX L (LJ x))(hC:∀w,C w->CJ x w):S X (.join (At X.n X.df LJ CJ)::k) L C:=
 λ_ w ha hw=>⟨x,ha.sub hL.all,hC w hw⟩
def Back(n:Nat)(df:List Nat){α:Type}(LJ:α->Qe)(CJ:α->World->Prop)(m:α->Nat)(x:α)(a:Act)(w:World):Prop:=∃y,m y<m x/\FR n df (LJ y) a/\CJ y w
theorem QqZ{α:Type}{c:Code}(LJ:α->Qe)(CJ:α->World->Prop)(m:α->Nat)(x0:α)(hL:QaX L (LJ x0))(hC:∀w,C w->CJ x0 w)
  (h:∀x,S X (.c c::.join (Back X.n X.df LJ CJ m x)::k) (LJ x) (CJ x)):S X (.c (.loop c)::k) L C:=by
 intro a w ha hw;intro b kk cs hro hb hr
 have key:∀N x,m x=N->∀(a:Act)(w:World),FR X.n X.df (LJ x) a->CJ x w ->
   ∃e a' w',post X k e a' w'/\ArrivesIn (Machine.fenced X.P X.F) X.P (lone (b.atR a (.code c::.inLoop c::kk)) cs w) b kk cs e a' w':=by
  intro N
  induction N using Nat.strongRecOn with
  | _ N ih=>
   intro x hN a w hfr hcj;obtain⟨e,a₁,w₁,hq,harr⟩:=h x a w hfr hcj b (.inLoop c::kk) cs hro hb hr;cases e with
   | normal=>
    obtain⟨y,hlt,hfr',hcj'⟩:=hq;obtain⟨e₂,a₂,w₂,hq₂,harr₂⟩:=ih (m y) (hN▸hlt) y rfl a₁ w₁ hfr' hcj';exact⟨e₂,a₂,w₂,hq₂,.of_steps (StepsIn.trans harr (.one (fenced_calm hb hr rfl) stepR_inLoop)) harr₂⟩
   | exit id=>exact⟨_,a₁,w₁,hq,.pass (x:=.inLoop c) rfl (λ_ _=>.inl (by simp)) harr⟩
   | goto l=>exact⟨_,a₁,w₁,hq,.pass (x:=.inLoop c) rfl (λ_ _=>.inl (by simp)) harr⟩
   | ret=>exact⟨_,a₁,w₁,hq,.pass (x:=.inLoop c) rfl (λ_ _=>.inl (by simp)) harr⟩
   | panic ch=>exact⟨_,a₁,w₁,hq,.pass (x:=.inLoop c) rfl (λ_ _=>.inl (by simp)) harr⟩
   | outgrown=>exact⟨_,a₁,w₁,hq,.pass (x:=.inLoop c) rfl (λ_ _=>.inl (by simp)) harr⟩
 obtain⟨e,a',w',hq,harr⟩:=key _ x0 rfl a w (ha.sub hL.all) (hC w hw);exact⟨e,a',w',hq,.of_steps (.one (fenced_calm hb hr rfl) stepR_loop) harr⟩
end
def Qcs:Nat->List Value->Qe
 | _,[]=>[]
 | i,v::vs=>(i,v)::Qcs (i+1) vs
theorem Qh9:∀(vs:List Value)(i t:Nat)(v:Value),Qe.get (Qcs i vs) t=some v->i<=t/\vs[t-i]?=some v
 | [],_,_,_,h=>by cases h
 | u::vs,i,t,v,h=>by
  rw[Qcs,Qe.get_cons]at h
  by_cases e:i=t
  ·grind
  ·rw[if_neg e]at h;obtain⟨h1,h2⟩:=Qh9 vs (i+1) t v h
   grind
theorem enter{P:Program}{f:FuncId}{fn:Func}{n:Nat}{c:Code}{args:List Value}{w:World}{R:Ending->World->Prop}{C:World->Prop}
  (hf:P.funcs[f]?=some fn)(hn:fn.ntmps=n)(hb:fn.body=some c)(hl:Nat.ble args.length n=true)(hC:C w)(h:S {P:=P,fn:=fn,n:=n,R:=R} [.c c] (Qcs 0 args) C) :
  Calls P f args.toArray w R:=by
 have hle:args.length<=n:=Nat.le_of_ble_eq_true hl;refine(callsIn_wide (n:=0)).1 (callsIn_of_wp_marks hf hb trivial (wpIn_mono (h _ _ ⟨rfl,?_,λt v hv=>?_⟩ hC) λe a w he=>?_))
 ·show(args.toArray++Array.replicate (fn.ntmps-args.toArray.size) undef).size=n;simp[hn];omega
 ·obtain⟨_,h2⟩:=Qh9 args 0 t v hv
  have hlt:t<args.length:=by
   rcases Nat.lt_or_ge t args.length with h'|h'
   ·exact h'
   ·simp[List.getElem?_eq_none h']at h2
  show(args.toArray++Array.replicate (fn.ntmps-args.toArray.size) undef)[t]?=some v;rw[Array.getElem?_append_left (by simpa using hlt)]
  simpa using h2
 ·cases e<;>exact he
def u8T:TypeId:=5
def Xc(b:Nat)(t:TypeId)(tot:Nat)(cs:List Value)(w:World):Prop:=
 ∃cur fr,w.heap[b]?=some (.cells cur t fr)/\tot<=cur.size/\cs.length<=tot/\(∀i,i<cs.length->cur[i]?=cs[i]?)/\(fr.1<=fr.2/\∀i,fr.1<=i->i<fr.2->cur.size<i\/(i=cur.size/\t=u8T))
def QkG(v:Value)(t:TypeId)(sz n:Nat)(xs:List Value)(w:World):Prop:=
 xs.length=n*sz/\((v=.slice none 0 0/\n=0)\/∃g cap,v=.slice (some ⟨g,0,none⟩) n cap/\n<=cap/\cap<=maxLen/\Xc g t (cap*sz) xs w)
theorem Xc.loc{w w':World}{b:Nat}{t:TypeId}{tot:Nat}{cs:List Value}(h:w'.heap[b]?=w.heap[b]?):Xc b t tot cs w->Xc b t tot cs w':=by
 rintro⟨cur,fr,h1,h2⟩;exact⟨cur,fr,h.trans h1,h2⟩
structure HA where
 fp:List Nat
 ok:World->Prop
 loc:∀w w',(∀b∈fp,w'.heap[b]?=w.heap[b]?)->ok w->ok w'
def HA.blk(b:Nat)(t:TypeId)(tot:Nat)(cs:List Value):HA:=⟨[b],Xc b t tot cs,λ_ _ h ha=>Xc.loc (h b (List.mem_singleton.2 rfl)) ha⟩
def HA.own(v:Value)(t:TypeId)(sz n:Nat)(xs:List Value):HA:=⟨v.ownBlock.toList,QkG v t sz n xs,λw w' h ha=>by
  obtain⟨hl,h1|⟨g,cap,rfl,hn,hc,hb⟩⟩:=ha
  ·exact⟨hl,.inl h1⟩
  ·exact⟨hl,.inr ⟨g,cap,rfl,hn,hc,Xc.loc (h g (by simp[Value.ownBlock])) hb⟩⟩⟩
theorem HA.fp_blk(b:Nat)(t:TypeId)(tot:Nat)(cs:List Value):(HA.blk b t tot cs).fp=[b]:=rfl
theorem HA.fp_own(v:Value)(t:TypeId)(sz n:Nat)(xs:List Value):(HA.own v t sz n xs).fp=v.ownBlock.toList:=rfl
structure HS(w0:World)(M:List Nat)(As:List HA)(w:World):Prop where
 os:w.os=w0.os
 tape:w.tape=w0.tape
 output:w.output=w0.output
 size:w0.heap.size<=w.heap.size
 old:∀b,b<w0.heap.size->b ∉ M->w.heap[b]?=w0.heap[b]?
 ok:∀A∈As,A.ok w
 lt:∀A∈As,∀b∈A.fp,b<w.heap.size/\(b<w0.heap.size->b∈M)
 sep:As.Pairwise λA B=>∀b∈A.fp,b ∉ B.fp
section
variable{w0 w w':World}{M:List Nat}{As:List HA}
theorem HS.refl(w:World)(M:List Nat):HS w M [] w:=⟨rfl,rfl,rfl,Nat.le_refl _,λ_ _ _=>rfl,λ_ h=>(by cases h),λ_ h=>(by cases h),.nil⟩
theorem HS.below(h:HS w0 [] As w):Below w0.heap.size w0 w:=⟨h.os,h.tape,h.output,h.size,λk hk=>h.old k hk (by simp)⟩
theorem HS.of_below(h:Below w0.heap.size w0 w):HS w0 [] [] w:=⟨h.os,h.tape,h.output,h.size,λk hk _=>h.block k hk,λ_ h=>(by cases h),λ_ h=>(by cases h),.nil⟩
theorem HS.stable(h:HS w0 M As w)(hb:Below w.heap.size w w'):HS w0 M As w':=
  ⟨hb.os.trans h.os,hb.tape.trans h.tape,hb.output.trans h.output,Nat.le_trans h.size hb.size,
   λb hb' hm=>(hb.block b (Nat.lt_of_lt_of_le hb' h.size)).trans (h.old b hb' hm),
   λA hA=>A.loc w w' (λb hbf=>hb.block b (h.lt A hA b hbf).1) (h.ok A hA),
   λA hA b hbf=>⟨Nat.lt_of_lt_of_le (h.lt A hA b hbf).1 hb.size,(h.lt A hA b hbf).2⟩,h.sep⟩
theorem HS.drew(h:HS w0 M As w):HS w0 M As w.drew:=h.stable (Below.drew (Below.refl _ _))
theorem HS.call{Bs:List HA}(h:HS w0 M As w)(hc:HS w [] Bs w'):HS w0 M (Bs++As) w':=by
 have hs:=h.stable hc.below;refine⟨hs.os,hs.tape,hs.output,hs.size,hs.old,λA hA=>?_,λA hA=>?_,?_⟩
 ·rcases List.mem_append.1 hA with hA|hA
  ·exact hc.ok A hA
  ·exact hs.ok A hA
 ·rcases List.mem_append.1 hA with hA|hA
  ·intro b hb;have h1:=hc.lt A hA b hb;refine⟨h1.1,λhlt=>?_⟩;have:=h1.2 (Nat.lt_of_lt_of_le hlt h.size);cases this
  ·exact hs.lt A hA
 ·rw[List.pairwise_append];refine⟨hc.sep,h.sep,λA hA B hB b hbA hbB=>?_⟩;have h1:=(hc.lt A hA b hbA).2 (h.lt B hB b hbB).1;cases h1
theorem HS.callM{Cs Bs:List HA}{Mc:List Nat}(h:HS w0 M (Cs++As) w)(hMc:∀b∈Mc,∃A∈Cs,b∈A.fp)(hc:HS w Mc Bs w'):HS w0 M (Bs++As) w':=by
 have hsep:=List.pairwise_append.1 h.sep
 have hAs:∀A∈As,∀b∈A.fp,b<w.heap.size/\b ∉ Mc:=λA hA b hb=>⟨(h.lt A (List.mem_append_right _ hA) b hb).1,λhm=>by
  obtain⟨B,hB,hbB⟩:=hMc b hm;exact hsep.2.2 B hB A hA b hbB hb⟩
 refine⟨hc.os.trans h.os,hc.tape.trans h.tape,hc.output.trans h.output,Nat.le_trans h.size hc.size,λb hb hm=>?_,λA hA=>?_,λA hA b hb=>?_,?_⟩
 ·refine(hc.old b (Nat.lt_of_lt_of_le hb h.size) λhmc=>?_).trans (h.old b hb hm);obtain⟨B,hB,hbB⟩:=hMc b hmc;exact hm ((h.lt B (List.mem_append_left _ hB) b hbB).2 hb)
 ·rcases List.mem_append.1 hA with hA|hA
  ·exact hc.ok A hA
  ·exact A.loc w w' (λb hb=>hc.old b (hAs A hA b hb).1 (hAs A hA b hb).2) (h.ok A (List.mem_append_right _ hA))
 ·rcases List.mem_append.1 hA with hA|hA
  ·have h1:=hc.lt A hA b hb;refine⟨h1.1,λhlt=>?_⟩;obtain⟨B,hB,hbB⟩:=hMc b (h1.2 (Nat.lt_of_lt_of_le hlt h.size));exact(h.lt B (List.mem_append_left _ hB) b hbB).2 hlt
  ·have h1:=h.lt A (List.mem_append_right _ hA) b hb;exact⟨Nat.lt_of_lt_of_le h1.1 hc.size,h1.2⟩
 ·rw[List.pairwise_append];refine⟨hc.sep,hsep.2.1,λA hA B hB b hbA hbB=>?_⟩;exact(hAs B hB b hbB).2 ((hc.lt A hA b hbA).2 (hAs B hB b hbB).1)
theorem HS.sub{As':List HA}(h:HS w0 M As w)(hs:As'.Sublist As):HS w0 M As' w:=
 ⟨h.os,h.tape,h.output,h.size,h.old,λA hA=>h.ok A (hs.subset hA),λA hA=>h.lt A (hs.subset hA),h.sep.sublist hs⟩
theorem HS.perm{As':List HA}(h:HS w0 M As w)(hs:As.Perm As'):HS w0 M As' w:=
  ⟨h.os,h.tape,h.output,h.size,h.old,λA hA=>h.ok A (hs.symm.subset hA),λA hA=>h.lt A (hs.symm.subset hA),
   (hs.pairwise_iff (λhAB b hbB hbA=>hAB b hbA hbB)).1 h.sep⟩
theorem HS.nil(h:HS w0 M As w):HS w0 M [] w:=h.sub (List.nil_sublist _)
theorem HS.alloc(h:HS w0 M As w)(o:Obj)(A:HA)(hf:A.fp=[w.heap.size])(hA:A.ok (w.alloc o)):HS w0 M (A::As) (w.alloc o):=by
 refine HS.call (Bs:=[A]) h ⟨rfl,rfl,rfl,by simp,λb hb _=>Below.heap_alloc w o b hb,λB hB=>?_,λB hB b hb=>?_,.cons (λ_ h=>(by cases h)) .nil⟩
 ·grind
 simp_all
theorem HS.swap{A B:HA}(h:HS w0 M (A::As) w)(hfp:∀b∈B.fp,b∈A.fp)(hos:w'.os=w.os)(htape:w'.tape=w.tape)(hout:w'.output=w.output)
  (hsize:w'.heap.size=w.heap.size)(hold:∀b,b ∉ A.fp->w'.heap[b]?=w.heap[b]?)(hB:B.ok w'):HS w0 M (B::As) w':=by
 have hs:=List.pairwise_cons.1 h.sep;refine⟨hos.trans h.os,htape.trans h.tape,hout.trans h.output,by rw[hsize];exact h.size,λb hb hm=>?_,λC hC=>?_,λC hC b hb=>?_,?_⟩
 ·refine(hold b λhbA=>?_).trans (h.old b hb hm);exact hm ((h.lt A (List.mem_cons_self ..) b hbA).2 hb)
 ·rcases List.mem_cons.1 hC with rfl|hC
  ·exact hB
  ·exact C.loc w w' (λb hb=>hold b λhbA=>hs.1 C hC b hbA hb) (h.ok C (List.mem_cons_of_mem _ hC))
 ·rw[hsize];rcases List.mem_cons.1 hC with rfl|hC
  ·exact h.lt A (List.mem_cons_self ..) b (hfp b hb)
  ·exact h.lt C (List.mem_cons_of_mem _ hC) b hb
 simp_all
theorem HS.turn{A B:HA}(h:HS w0 M (A::As) w)(hfp:∀b∈B.fp,b∈A.fp)(hB:A.ok w->B.ok w):HS w0 M (B::As) w:=
 h.swap hfp rfl rfl rfl rfl (λ_ _=>rfl) (hB (h.ok A (List.mem_cons_self ..)))
theorem HS.head{A:HA}(h:HS w0 M (A::As) w):A.ok w:=h.ok A (List.mem_cons_self ..)
theorem HS.tail{A:HA}(h:HS w0 M (A::As) w):HS w0 M As w:=h.sub (List.sublist_cons_self _ _)
end
def Qv(As:List HA)(A:HA)(As':List HA):Prop:=As.Perm (A::As')
theorem Qv.here{A:HA}{As:List HA}:Qv (A::As) A As:=.refl _
theorem Qv.there{A B:HA}{As As':List HA}(h:Qv As A As'):Qv (B::As) A (B::As'):=(List.Perm.cons _ h).trans (.swap ..)
theorem Qv.perm{As:List HA}{A:HA}{As':List HA}(h:Qv As A As'):As.Perm (A::As'):=h
theorem Qv.mem{As:List HA}{A:HA}{As':List HA}(h:Qv As A As'):A∈As:=h.perm.mem_iff.2 (List.mem_cons_self ..)
theorem HS.pick{w0 w:World}{M:List Nat}{As As':List HA}{A:HA}(h:HS w0 M As w)(hp:Qv As A As'):HS w0 M (A::As') w:=h.perm hp.perm
def Put(As:List HA)(A B:HA)(As':List HA):Prop:=∃Rs,Qv As A Rs/\(B::Rs).Perm As'
theorem Put.here{A B:HA}{As:List HA}:Put (A::As) A B (B::As):=⟨_,.here,.refl _⟩
theorem Put.there{A B D:HA}{As As':List HA}(h:Put As A B As'):Put (D::As) A B (D::As'):=by
 obtain⟨Rs,h1,h2⟩:=h;exact⟨_,.there h1,(List.Perm.swap ..).trans (List.Perm.cons _ h2)⟩
theorem Put.ex{As:List HA}{A B:HA}{As':List HA}(h:Put As A B As'):∃Rs,Qv As A Rs/\(B::Rs).Perm As':=h
section
variable{w:World}{b:Nat}{t:TypeId}{tot:Nat}{cs:List Value}
theorem Xc.cell(h:Xc b t tot cs w){i:Nat}{v:Value}(hv:cs[i]?=some v):w.cell? ⟨b,i,none⟩=some v:=by
 obtain⟨cur,fr,h1,_,_,h4,_⟩:=h;have hi:i<cs.length:=by grind
 simp[World.cell?,h1,h4 i hi,hv]
theorem Xc.frozen(h:Xc b t tot cs w){i:Nat}(hi:i<tot):w.frozen? ⟨b,i,none⟩=false:=by
 obtain⟨cur,fr,h1,h2,_,_,h5⟩:=h;simp only[World.frozen?,h1]
 grind
theorem Xc.shape(h:Xc b t tot cs w):∃k,tot<=k/\w.shape? b=some (t,k)/\(t≠u8T->w.frozen? ⟨b,k,none⟩=false):=by
 obtain⟨cur,fr,h1,h2,_,_,h5⟩:=h;refine⟨cur.size,h2,by simp[World.shape?,h1],λht=>?_⟩;simp only[World.frozen?,h1]
 grind
theorem Xc.room(h:Xc b t tot cs w){tot':Nat}(h1:tot'<=tot)(h2:cs.length<=tot'):Xc b t tot' cs w:=by
 obtain⟨cur,fr,e1,e2,_,e4,e5⟩:=h;exact⟨cur,fr,e1,om,h2,e4,e5⟩
theorem Xc.cellsome(h:Xc b t tot cs w){i:Nat}(hi:i<tot):∃v,w.cell? ⟨b,i,none⟩=some v:=by
 obtain⟨cur,fr,h1,h2,_⟩:=h;exact⟨cur[i]'om,by simp[World.cell?,h1,Array.getElem?_eq_getElem (show i<cur.size by omega)]⟩
theorem Xc.set(h:Xc b t tot cs w){i:Nat}(hi:i<cs.length)(v:Value):Xc b t tot (cs.set i v) (w.setCell ⟨b,i,none⟩ v):=by
 obtain⟨cur,fr,h1,h2,h3,h4,h5⟩:=h;refine⟨cur.setIfInBounds i v,fr,by simp[World.setCell,Array.getElem?_modify,h1],by simpa using h2,by simpa using h3,λj hj=>?_,by simpa using h5⟩
 grind
theorem Xc.alloc(w:World)(t:TypeId)(cs:Array Value):Xc w.heap.size t cs.size cs.toList (w.alloc (.cells cs t)):=
 ⟨cs,(0,0),heap_alloc_new w _,Nat.le_refl _,by simp,λi _=>by simp,Nat.le_refl _,λ_ _ h=>absurd h (Nat.not_lt_zero _)⟩
theorem QaU(w:World)(b i:Nat)(v:Value)(k:Nat)(h:k≠b):(w.setCell ⟨b,i,none⟩ v).heap[k]?=w.heap[k]?:=Below.heap_setCell _ _ _ _ h
end
section
variable{w0 w:World}{M:List Nat}{As As':List HA}{b:Nat}{t:TypeId}{tot:Nat}{cs:List Value}
theorem HS.blk_new(h:HS w0 M As w)(t:TypeId)(cs:Array Value):HS w0 M (.blk w.heap.size t cs.size cs.toList::As) (w.alloc (.cells cs t)):=
 h.alloc _ _ rfl (Xc.alloc w t cs)
theorem HS.blk_get(h:HS w0 M As w)(hp:Qv As (.blk b t tot cs) As'):Xc b t tot cs w:=(h.pick hp).head
end
section
variable{w0 w:World}{M:List Nat}{As As':List HA}{v:Value}{t:TypeId}{sz n:Nat}{xs:List Value}
theorem HS.own_nil(h:HS w0 M As w)(t:TypeId)(sz:Nat):HS w0 M (.own (.slice none 0 0) t sz 0 []::As) w:=by
 refine HS.call (Bs:=[_]) h ⟨rfl,rfl,rfl,Nat.le_refl _,λ_ _ _=>rfl,λB hB=>?_,λB hB b hb=>?_,.cons (λ_ h=>(by cases h)) .nil⟩
 ·rcases List.mem_singleton.1 hB;exact⟨by simp,.inl ⟨rfl,rfl⟩⟩
 ·rcases List.mem_singleton.1 hB;simp[HA.fp_own,Value.ownBlock]at hb
theorem HS.own_open'(h:HS w0 M (.own v t sz n xs::As) w)(hn:0<n):∃g cap,v=.slice (some ⟨g,0,none⟩) n cap/\n<=cap/\cap<=maxLen/\xs.length=n*sz/\HS w0 M (.blk g t (cap*sz) xs::As) w:=by
 obtain⟨hl,⟨_,h0⟩|⟨g,cap,rfl,h1,h2,h3⟩⟩:=h.head
 ·omega
 ·exact⟨g,cap,rfl,h1,h2,hl,h.turn (B:=.blk g t (cap*sz) xs) (λb hb=>by simpa[HA.fp_own,HA.fp_blk,Value.ownBlock]using hb) λ_=>h3⟩
theorem HS.own_shut{g cap:Nat}(h:HS w0 M (.blk g t (cap*sz) xs::As) w)(hl:xs.length=n*sz)(hn:n<=cap)(hc:cap<=maxLen):HS w0 M (.own (.slice (some ⟨g,0,none⟩) n cap) t sz n xs::As) w:=
 h.turn (λb hb=>by simpa[HA.fp_own,HA.fp_blk,Value.ownBlock]using hb) λhb=>⟨hl,.inr ⟨g,cap,rfl,hn,hc,hb⟩⟩
theorem QkG.form(h:QkG v t sz n xs w):∃a cap,v=.slice a n cap/\(0<n->∃g,a=some ⟨g,0,none⟩):=by
 obtain⟨_,⟨rfl,rfl⟩|⟨g,cap,rfl,_⟩⟩:=h
 ·grind
 grind
end
def Rd(w:World)(M:List Nat)(b o:Nat)(v:Value):Prop:=b<w.heap.size/\b ∉ M/\w.cell? ⟨b,o,none⟩=some v
theorem HS.rd{w0 w:World}{M:List Nat}{As:List HA}(h:HS w0 M As w){b o:Nat}{v:Value}(hr:Rd w0 M b o v):w.cell? ⟨b,o,none⟩=some v:=
 (World.cell?_of_block (w:=w0) (h.old b hr.1 hr.2.1)).trans hr.2.2
structure Sl(w:World)(M:List Nat)(a:Option Addr)(sz n:Nat)(cell:Nat->List Value):Prop where
 at_:0<n->∃b o,a=some ⟨b,o,none⟩/\∀i,i<n->(cell i).length=sz/\∀j v,(cell i)[j]?=some v->Rd w M b (o+i*sz+j) v
def ab(a:Option Addr):Nat:=match a with|some a=>a.block|none=>0
def ao(a:Option Addr):Nat:=match a with|some a=>a.off|none=>0
theorem Sl.rd{w:World}{M:List Nat}{a:Option Addr}{sz n:Nat}{cell:Nat->List Value}(h:Sl w M a sz n cell){i j:Nat}{v:Value}(hi:i<n)(hv:(cell i)[j]?=some v) :
  Rd w M (ab a) (ao a+i*sz+j) v:=by
 obtain⟨b,o,rfl,h2⟩:=h.at_ om;exact(h2 i hi).2 j v hv
theorem Sl.some{w:World}{M:List Nat}{a:Option Addr}{sz n:Nat}{cell:Nat->List Value}(h:Sl w M a sz n cell)(hn:0<n):a=.some ⟨ab a,ao a,none⟩:=by
 obtain⟨b,o,rfl,_⟩:=h.at_ hn;rfl
theorem Sl.later{w w':World}{M M':List Nat}{As:List HA}{a:Option Addr}{sz n:Nat}{cell:Nat->List Value}(h:Sl w M a sz n cell)(hs:HS w M As w')
  (hM:∀b,b<w.heap.size->b ∉ M->b ∉ M'):Sl w' M' a sz n cell:=
 ⟨λhn=>by
  obtain⟨b,o,rfl,h2⟩:=h.at_ hn
  exact⟨b,o,rfl,λi hi=>⟨(h2 i hi).1,λj v hv=>by
   have hr:=(h2 i hi).2 j v hv;exact⟨Nat.lt_of_lt_of_le hr.1 hs.size,hM b hr.1 hr.2.1,hs.rd hr⟩⟩⟩⟩
def bs(l:List UInt8):ByteArray:=⟨⟨l⟩⟩
@[simp] theorem bs_size(l:List UInt8):(bs l).size=l.length:=rfl
@[simp] theorem bs_data(l:List UInt8):(bs l).data.toList=l:=rfl
theorem QmQ(s:ByteArray):s=bs s.data.toList:=rfl
def Agr(L:Qe)(ρ:Operand->Value):Prop:=∀x v,ev L x=some v->ρ x=v
def Res(P:Program)(Post:Value->World->Prop):Result Next->Prop
 | .ok (.value v) w'=>Post v w'
 | .ok .skip w'=>Post undef w'
 | .ok (.enter f args) w'=>Calls P f args w' λe w''=>∃v,e=.returned v/\Post v w''
 | .ok (.round l f tmps assign body) w'=>RoundIn Fence.wide 0 P l f tmps assign body w' λe w''=>∃v,e=.returned v/\Post v w''
 | _=>False
theorem Qnz{P:Program}{o:Oper}{ρ:Operand->Value}{w:World}{Post:Value->World->Prop}(h:Res P Post ((execOp ρ o).run P w)):∀c,o.op≠ .defer c:=by
 intro c hc;simp only[execOp,hc,Sem.run_bind]at h;cases hr:(resolve ρ c o.type).run P w with
 | ok d w'=>rw[hr]at h;simp[Result.andThen,Res]at h
 | halt x w'=>rw[hr]at h;simp[Result.andThen,Res]at h
theorem Qb0{P:Program}{o:Oper}{a:Act}{w:World}{K:Act->World->Prop}{Q:Exit->Act->World->Prop}{Post:Value->World->Prop}{r:Option Nat}
  (h:Res P Post ((execOp a.eval o).run P w))(hk:∀v w',Post v w'->K (a.put o.dst v) w'):o.wpIn {Fence.wide with round:=r} 0 P a w K Q:=by
 refine⟨λ_ _=>trivial,?_⟩;show o.uponIn _ 0 P a K Q ((o.semAt r a.eval).run P w);rw[Oper.semAt_eq r a.eval o (Qnz h)];generalize (execOp a.eval o).run P w=q at *;cases q with
 | halt x w'=>cases h
 | ok x w'=>
  cases x<;>first
   | exact hk _ _ h
   | exact hk _ _ (show Post undef _ from h)
   | exact⟨λh=>(by cases h),CallsIn.mono ((callsIn_wide (n:=0)).2 h) λe w'' he=>by obtain⟨v,rfl,hp⟩:=he;exact hk _ _ hp⟩
   | exact⟨λh=>(by cases h),RoundIn.mono h λe w'' he=>by obtain⟨v,rfl,hp⟩:=he;exact hk _ _ hp⟩
   | cases h
def OpQ(P:Program)(o:Oper)(L:Qe)(C:World->Prop)(v:Value):Prop:=
 ∀ρ w,Agr L ρ->C w->Res P (λu w'=>u=v/\Below w.heap.size w w') ((execOp ρ o).run P w)
def OpH(P:Program)(o:Oper)(L:Qe)(C:World->Prop){G:Type}(V:G->Value)(F:G->Prop)(C':G->World->Prop):Prop:=
 ∀ρ w,Agr L ρ->C w->Res P (λu w'=>∃g,u=V g/\F g/\C' g w') ((execOp ρ o).run P w)
def OpP(P:Program)(o:Oper)(L:Qe)(v:Value):Prop:=∀ρ w,Agr L ρ->(execOp ρ o).run P w=.ok (.value v) w
def QiW(C:World->Prop):Prop:=∀w w',C w->Below w.heap.size w w'->C w'
theorem HS.stab(w0:World)(M:List Nat)(As:List HA):QiW (HS w0 M As):=λ_ _ h hb=>h.stable hb
theorem Res.mono{P:Program}{Post Post':Value->World->Prop}{r:Result Next}(h:Res P Post r)(hp:∀v w,Post v w->Post' v w):Res P Post' r:=by
 cases r with
 | halt x w'=>cases h
 | ok x w'=>cases x<;>first|exact hp _ _ h|exact hp _ _ (show Post undef _ from h)|exact Calls.mono h λe w''⟨v,he,hp'⟩=>⟨v,he,hp _ _ hp'⟩|exact RoundIn.mono h λe w''⟨v,he,hp'⟩=>⟨v,he,hp _ _ hp'⟩|cases h
theorem OpQ.h{P:Program}{o:Oper}{L:Qe}{C:World->Prop}{v:Value}(h:OpQ P o L C v)(hs:QiW C):OpH P o L C (λ_:Unit=>v) (λ_=>True) (λ_=>C):=
 λρ w hρ hc=>(h ρ w hρ hc).mono λ_ w'⟨h1,h2⟩=>⟨(),h1,trivial,hs w w' hc h2⟩
theorem FR.agr{n:Nat}{df:List Nat}{L:Qe}{a:Act}(h:FR n df L a):Agr L a.eval:=λ_ _ hx=>h.evl hx
section
variable{X:Ctx}{ops:Array Oper}{rest:List Oper}{k:List KI}{L:Qe}{C:World->Prop}{d ty:Nat}{op:Op}{pos:String}{aft:Array Edge}
theorem o_h{G:Type}{V:G->Value}{F:G->Prop}{C':G->World->Prop}(h:OpH X.P ⟨some d,op,ty,pos,aft,none⟩ L C V F C')(hd:Nat.blt d X.n=true)(next:∀g,F g->O X ops rest k ((d,V g)::L) (C' g)) :
  O X ops (⟨some d,op,ty,pos,aft,none⟩::rest) k L C:=by
 intro a w ha hw;refine wpListIn_plain rfl λK hK=>?_;exact Qb0 (h a.eval w ha.agr hw) λv w'⟨g,hv,hf,hc⟩=>by subst hv;exact hK _ _ (next g hf _ _ (ha.put d _ hd) hc)
theorem Qcq{G:Type}{V:G->Value}{F:G->Prop}{C':G->World->Prop}(h:OpH X.P ⟨none,op,ty,pos,aft,none⟩ L C V F C')(next:∀g,F g->O X ops rest k L (C' g)) :
  O X ops (⟨none,op,ty,pos,aft,none⟩::rest) k L C:=by
 intro a w ha hw;refine wpListIn_plain rfl λK hK=>?_;exact Qb0 (h a.eval w ha.agr hw) λv w'⟨g,hv,hf,hc⟩=>by subst hv;exact hK _ _ (next g hf _ _ ha hc)
theorem o_q{w0:World}{M:List Nat}{As:List HA}{v:Value}(h:OpQ X.P ⟨some d,op,ty,pos,aft,none⟩ L (HS w0 M As) v)(hd:Nat.blt d X.n=true)(next:O X ops rest k ((d,v)::L) (HS w0 M As)) :
  O X ops (⟨some d,op,ty,pos,aft,none⟩::rest) k L (HS w0 M As):=o_h (h.h (HS.stab _ _ _)) hd λ_ _=>next
theorem o_on{j:Nat}{want:Bool}{dst:Option Nat}(dj:Nat)(b:Bool)(hj:(ops[j]?).bind (·.dst)=some dj)(hb:Qe.get L dj=some (.bool b))(hw:b=want)
  (h:O X ops (⟨dst,op,ty,pos,aft,none⟩::rest) k L C):O X ops (⟨dst,op,ty,pos,aft,some (j,want)⟩::rest) k L C:=by
 intro a w ha hw';have h1:=h a w ha hw';have hy:yielded ops a.tmps j=some b:=by simp[yielded,hj,ha.slot _ _ hb]
 unfold wpListIn at h1 ⊢;have hwant:Region.wanted ⟨dst,op,ty,pos,aft,some (j,want)⟩ (yielded ops a.tmps)=true:=by simp[Region.wanted,hy,hw]
 rw[if_pos hwant];rw[if_pos (by simp[Region.wanted])]at h1;exact h1
theorem QpK{j:Nat}{want:Bool}(dj:Nat)(b:Bool)(hj:(ops[j]?).bind (·.dst)=some dj)(hb:Qe.get L dj=some (.bool b))(hw:b= !want)(hd:Nat.blt d X.n=true)
  (h:O X ops rest k ((d,undef)::L) C):O X ops (⟨some d,op,ty,pos,aft,some (j,want)⟩::rest) k L C:=by
 intro a w ha hw';have hy:yielded ops a.tmps j=some b:=by simp[yielded,hj,ha.slot _ _ hb]
 unfold wpListIn;rw[if_neg (by simp[Region.wanted,hy,hw])];exact⟨λ_ _=>trivial,h _ _ (ha.put d _ hd) hw'⟩
theorem Qp6{j:Nat}{want:Bool}(dj:Nat)(hj:(ops[j]?).bind (·.dst)=some dj)(hb:Qe.get L dj=some undef)(hd:Nat.blt d X.n=true)
  (h:O X ops rest k ((d,undef)::L) C):O X ops (⟨some d,op,ty,pos,aft,some (j,want)⟩::rest) k L C:=by
 intro a w ha hw';have hy:yielded ops a.tmps j=none:=by simp[yielded,hj,ha.slot _ _ hb,undef]
 unfold wpListIn;rw[if_neg (by simp[Region.wanted,hy])];exact⟨λ_ _=>trivial,h _ _ (ha.put d _ hd) hw'⟩
theorem QmS{j:Nat}{want:Bool}(dj:Nat)(b:Bool)(hj:(ops[j]?).bind (·.dst)=some dj)(hb:Qe.get L dj=some (.bool b))(hw:b= !want)
  (h:O X ops rest k L C):O X ops (⟨none,op,ty,pos,aft,some (j,want)⟩::rest) k L C:=by
 intro a w ha hw';have hy:yielded ops a.tmps j=some b:=by simp[yielded,hj,ha.slot _ _ hb]
 unfold wpListIn;rw[if_neg (by simp[Region.wanted,hy,hw])];exact⟨λ_ _=>trivial,h _ _ ha hw'⟩
theorem Y4{P:Program}{r:Option Nat}{ops:Array Oper}{Q Q':Exit->Act->World->Prop}:∀(l m:List Oper)(a:Act)(w:World),wpListIn {Fence.wide with round:=r} 0 P ops Q' l a w->(∀a w,Q' .normal a w->wpListIn {Fence.wide with round:=r} 0 P ops Q m a w)->(∀e a w,e≠ .normal->Q' e a w->Q e a w) ->
  wpListIn {Fence.wide with round:=r} 0 P ops Q (l++m) a w
 | [],m,a,w,h,h1,_=>h1 a w h
 | o::l,m,a,w,h,h1,h2=>by
  rw[List.cons_append];unfold wpListIn at h ⊢;split
  ·rename_i hw;rw[if_pos hw]at h;have hm:=Oper.wpIn_mono (λa w h=>Y4 l m a w h h1 h2) h;refine⟨hm.1,?_⟩;have hm:=hm.2;generalize (o.semAt _ a.eval).run P w=res at hm ⊢;cases res with
   | ok x w'=>
    cases x<;>simp only[Oper.uponIn]at hm ⊢ <;>first|exact hm|skip
    ·exact⟨hm.1,CallsIn.mono hm.2 λe w'' he=>by
      cases e with
      | returned v=>exact he
      | panicked ch=>exact h2 _ _ _ (by simp) he
      | outgrown=>obtain⟨a',w3,hq⟩:=he;exact⟨a',w3,h2 _ _ _ (by simp) hq⟩⟩
    ·exact⟨hm.1,RoundIn.mono hm.2 λe w'' he=>by
      cases e with
      | returned v=>exact he
      | panicked ch=>exact h2 _ _ _ (by simp) he
      | outgrown=>obtain⟨a',w3,hq⟩:=he;exact⟨a',w3,h2 _ _ _ (by simp) hq⟩⟩
   | halt x w'=>
    cases x<;>simp only[Oper.uponIn]at hm ⊢ <;>first|exact hm|exact h2 _ _ _ (by simp) hm
  ·rename_i hw;rw[if_neg hw]at h;exact⟨h.1,Y4 l m _ _ h.2 h1 h2⟩
theorem Qbe{J:Act->World->Prop}(e:Exit)(a:Act)(w:World)(he:e≠ .normal)(h:post X (.join J::k) e a w):post X k e a w:=by
 cases e<;>first|exact absurd rfl he|exact h
theorem QpM{α:Type}(m:Nat)(LJ:α->Qe)(CJ:α->World->Prop){l:List Oper}(h1:O X ops (l.take m) (.join (At X.n X.df LJ CJ)::k) L C)(h2:∀x,O X ops (l.drop m) k (LJ x) (CJ x)):O X ops l k L C:=by
 intro a w ha hw;have:=Y4 (Q:=post X k) _ (l.drop m) a w (h1 a w ha hw) (λa w⟨x,hx,hc⟩=>h2 x a w hx hc) (λe a w he h=>Qbe e a w he h)
 simp_all
theorem Qrw(m dj dp:Nat)(b c:Bool){l:List Oper}(hb:Qe.get L dj=some (.bool b))
  (h1:b=true->O X ops (l.take m) (.join (At X.n X.df (λ_:Unit=>(dp,.bool c)::L) (λ_=>C))::k) L C)
  (h0:b=false->O X ops (l.take m) (.join (At X.n X.df (λ_:Unit=>(dp,.bool false)::L) (λ_=>C))::k) L C)
  (h2:O X ops (l.drop m) k ((dp,.bool (b&&c))::L) C):O X ops l k L C:=by
 refine QpM (α:=Unit) m (λ_=>(dp,.bool (b&&c))::L) (λ_=>C) ?_ (λ_=>h2);cases b with
 | true=>simpa using h1 rfl
 | false=>simpa using h0 rfl
theorem o_or(m dj dp:Nat)(b c:Bool){l:List Oper}(hb:Qe.get L dj=some (.bool b))
  (h1:b=false->O X ops (l.take m) (.join (At X.n X.df (λ_:Unit=>(dp,.bool c)::L) (λ_=>C))::k) L C)
  (h0:b=true->O X ops (l.take m) (.join (At X.n X.df (λ_:Unit=>(dp,.bool true)::L) (λ_=>C))::k) L C)
  (h2:O X ops (l.drop m) k ((dp,.bool (b||c))::L) C):O X ops l k L C:=by
 refine QpM (α:=Unit) m (λ_=>(dp,.bool (b||c))::L) (λ_=>C) ?_ (λ_=>h2);cases b with
 | true=>simpa using h0 rfl
 | false=>simpa using h1 rfl
end
def kEq:IntKind->IntKind->Bool
 | .i8,.i8| .i16,.i16| .i32,.i32| .i64,.i64| .u8,.u8| .u16,.u16| .u32,.u32| .u64,.u64=>true
 | _,_=>false
theorem QqA{a b:IntKind}(h:kEq a b=true):a=b:=by cases a<;>cases b<;>first|rfl|cases h
def bits(op:BinOp)(k:IntKind)(x y:Int):Int:=
 match op with
 | .and=>k.wrap (BitVec.ofInt k.bits x &&& BitVec.ofInt k.bits y).toNat
 | .or=>k.wrap (BitVec.ofInt k.bits x ||| BitVec.ofInt k.bits y).toNat
 | .xor=>k.wrap (BitVec.ofInt k.bits x ^^^ BitVec.ofInt k.bits y).toNat
 | _=>k.wrap (BitVec.ofInt k.bits x &&& ~~~ BitVec.ofInt k.bits y).toNat
def Qkx(op:BinOp)(k:IntKind)(a b:Int):Option Value:=
 match op with
 | .add=>some (.int k (k.wrap (a+b)))
 | .sub=>some (.int k (k.wrap (a-b)))
 | .mul=>some (.int k (k.wrap (a*b)))
 | .eql=>some (.bool (decide (a=b)))
 | .neq=>some (.bool (!decide (a=b)))
 | .lss=>some (.bool (decide (a<b)))
 | .leq=>some (.bool (decide (a<=b)))
 | .gtr=>some (.bool (decide (b<a)))
 | .geq=>some (.bool (decide (b<=a)))
 | .and=>some (.int k (bits .and k a b))
 | .or=>some (.int k (bits .or k a b))
 | .xor=>some (.int k (bits .xor k a b))
 | .andNot=>some (.int k (bits .andNot k a b))
 | _=>none
def QkC(op:BinOp)(l m:List UInt8):Option Value:=
 match op with
 | .eql=>some (.bool (decide (l=m)))
 | .neq=>some (.bool (!decide (l=m)))
 | .lss=>some (.bool (Op.bytesLess l m))
 | .leq=>some (.bool (Op.bytesLess l m||decide (l=m)))
 | .gtr=>some (.bool (!(Op.bytesLess l m||decide (l=m))))
 | .geq=>some (.bool (!Op.bytesLess l m))
 | _=>none
def QcR(op:BinOp)(x y:Value):Option Value:=
 match x,y with
 | .int k a,.int k' b=>bif kEq k k' then Qkx op k a b else none
 | .string ⟨⟨l⟩⟩,.string ⟨⟨m⟩⟩=>QkC op l m
 | _,_=>none
def Qiz(op:UnOp)(x:Value):Option Value:=
 match op,x with
 | .not,.bool b=>some (.bool (!b))
 | .neg,.int k n=>some (.int k (k.wrap (0-n)))
 | .xor,.int k n=>some (.int k (bits .xor k (if k.signed then -1 else k.max) n))
 | _,_=>none
def QnX(b:Bool)(x y:Value):Value:=
 match x,y with
 | .bool p,.bool q=>.bool (cond b p q)
 | x,y=>cond b x y
def evs(L:Qe):List Operand->Option (List Value)
 | []=>some []
 | x::xs=>match ev L x,evs L xs with
  | some v,some vs=>some (v::vs)
  | _,_=>none
def QlT(L:Qe):Op->Option Value
 | .move x| .assign x=>ev L x
 | .pick c a b=>match ev L c,ev L a,ev L b with
  | some (.bool t),some x,some y=>some (QnX t x y)
  | _,_,_=>none
 | .binOp op _ x y _=>match ev L x,ev L y with
  | some a,some b=>QcR op a b
  | _,_=>none
 | .unOp op _ x=>match ev L x with
  | some a=>Qiz op a
  | _=>none
 | .extract x i=>match ev L x with
  | some (.tuple vs)=>vs.toList[i]?
  | _=>none
 | .makeFunc fn first cap=>match evs L first.toList,evs L cap.toList with
  | some f,some c=>some (.func fn f.toArray c.toArray)
  | _,_=>none
 | .nilCheck x=>match ev L x with
  | some (.pointer (some a))=>some (.pointer (some a))
  | some (.func (.func f) first cap)=>some (.func (.func f) first cap)
  | _=>none
 | _=>none
theorem Qmr(b:Bool)(x y:Value):QnX b x y=if b then x else y:=by
 cases b<;>unfold QnX<;>split<;>rfl
theorem QcX{L:Qe}{ρ:Operand->Value}(hρ:Agr L ρ):∀{xs:List Operand}{vs:List Value},evs L xs=some vs->xs.map ρ=vs
 | [],vs,h=>by cases h;rfl
 | x::xs,vs,h=>by
  simp only[evs]at h;split at h
  ·rename_i v vs' h1 h2;injection h with h
   subst h;simp[hρ x v h1,QcX hρ h2]
  ·cases h
theorem Qa3(a b:Int):(a==b)=decide (a=b):=by grind
theorem Qh5{P:Program}{op:BinOp}{t:TypeId}{x y v:Value}(h:QcR op x y=some v)(w:World):(binOp op t x y).run P w=.ok v w:=by
 unfold QcR at h;split at h
 ·rename_i k a k' b;cases hk:kEq k k' with
  | false=>rw[hk]at h;cases h
  | true=>
   rw[hk]at h;obtain rfl:=QqA hk;simp only[cond_true]at h;cases op<;>simp only[Qkx,Option.some.injEq,reduceCtorEq]at h<;>first|(subst h;simp[binOp,Op.intArith,Op.intBits,Op.intCmp,bits,Qa3,bne];done)|cases h
 ·rename_i l m;have hl:(ByteArray.mk ⟨l⟩).toList=l:=ByteArray.toList_eq _;have hm:(ByteArray.mk ⟨m⟩).toList=m:=ByteArray.toList_eq _;have hb:(l==m)=decide (l=m):=by rw[Bool.eq_iff_iff];simp
  cases op<;>simp only[QkC,Option.some.injEq,reduceCtorEq]at h<;>first|(subst h;simp[binOp,Op.stringOp,hl,hm,hb];done)|cases h
 ·cases h
theorem QhZ{P:Program}{op:BinOp}{t:TypeId}{x y:Operand}{a b v:Value}(h:QcR op a b=some v)(w:World):(eqGuard op t x y a b).run P w=.ok () w:=by
 unfold QcR at h;unfold eqGuard;split at h<;>simp_all
theorem Qja{P:Program}{op:UnOp}{x v:Value}(h:Qiz op x=some v)(w:World):(Op.unary op x).run P w=.ok v w:=by
 unfold Qiz at h;split at h
 ·injection h with h;subst h;simp[Op.unary]
 ·injection h with h;subst h;simp[Op.unary,Op.intArith]
 ·injection h with h;subst h;simp[Op.unary,Op.intBits,bits]
 ·cases h
theorem Qiv{P:Program}{o:Oper}{L:Qe}{v:Value}(h:QlT L o.op=some v):OpP P o L v:=by
 intro ρ w hρ;unfold execOp;unfold QlT at h;generalize o.op=op at *;cases op with
 | move x=>simp[hρ _ _ h]
 | assign x=>simp[hρ _ _ h]
 | pick c a b=>
  dsimp only at h;split at h
  ·rename_i t x y h1 h2 h3;injection h with h
   simp[hρ _ _ h1,hρ _ _ h2,hρ _ _ h3,asBool,<-h,Qmr]
  ·cases h
 | binOp op t x y t'=>
  dsimp only at h;split at h
  ·rename_i a b h1 h2;simp[hρ _ _ h1,hρ _ _ h2,QhZ h,Qh5 h]
  ·cases h
 | unOp op t x=>
  dsimp only at h;split at h
  ·rename_i a h1;simp[hρ _ _ h1,Qja h]
  ·cases h
 | extract x i=>
  dsimp only at h;split at h
  ·rename_i vs h1;have h':vs[i]?=some v:=by rw[<-Array.getElem?_toList];exact h
   simp[hρ _ _ h1,Instr.extract,h']
  ·cases h
 | makeFunc fn first cap=>
  dsimp only at h;split at h
  ·rename_i f c h1 h2;injection h with h
   have e1:first.map ρ=f.toArray:=by rw[<-QcX hρ h1,<-List.map_toArray]
   have e2:cap.map ρ=c.toArray:=by rw[<-QcX hρ h2,<-List.map_toArray]
   simp[Instr.makeFunc,e1,e2,h]
  ·cases h
 | nilCheck x=>
  dsimp only at h;split at h
  ·rename_i a h1;injection h with h
   subst h;simp[hρ _ _ h1]
  ·rename_i f first cap h1
   injection h with h
   subst h;simp[hρ _ _ h1]
  ·cases h
 | _=>cases h
def tsz(P:Program)(t:TypeId):Option (Nat×Bool):=
 match P.info? t,P.underlying t with
 | some i,some d=>some (i.size,match d with| .struct _| .array _ _=>true|_=>false)
 | _,_=>none
def tfd(P:Program)(t:TypeId)(f:Nat):Option (Nat×TypeId):=
 match P.underlying t with
 | some (.struct fs)=>(fs[f]?).map λx=>(x.offset,x.type)
 | _=>none
def tki(P:Program)(t:TypeId):Option IntKind:=
 match P.underlying t with
 | some (.int k)=>some k
 | _=>none
def tsl(P:Program)(t:TypeId):Option (TypeId×Nat×Nat):=
 match P.underlying t with
 | some (.slice e)=>(P.info? e).map λi=>(e,i.size,i.bytes)
 | _=>none
def tar(P:Program)(t:TypeId):Option (Nat×TypeId×Nat):=
 match P.underlying t with
 | some (.array n e)=>(P.info? e).map λi=>(n,e,i.size)
 | _=>none
def Xs(P:Program)(t:TypeId):Option (List Value):=((P.info? t).bind (·.zero)).map λv=>v.cells.toList
section
variable{P:Program}{t:TypeId}{w:World}
theorem QbF{n:Nat}{b:Bool}(h:tsz P t=some (n,b)):(isAgg t).run P w=.ok b w/\(Go.sizeOf t).run P w=.ok n w:=by
 unfold tsz at h;split at h
 ·rename_i i d h1 h2;simp only[Option.some.injEq,Prod.mk.injEq]at h;obtain⟨rfl,rfl⟩:=h;refine⟨?_,by simp[Go.sizeOf,typeInfo,h1]⟩;simp only[isAgg,Sem.run_bind,run_underlying h2,Result.andThen_ok];cases d<;>rfl
 ·cases h
theorem Qe4{f off:Nat}{ft:TypeId}(h:tfd P t f=some (off,ft)):∃fs x,P.underlying t=some (.struct fs)/\fs[f]?=some x/\x.offset=off/\x.type=ft:=by grind[tfd]
theorem XZ{e sz by':Nat}(h:tsl P t=some (e,sz,by')):P.underlying t=some (.slice e)/\∃i,P.info? e=some i/\i.size=sz/\i.bytes=by':=by
 unfold tsl at h;split at h
 ·rename_i e' hu;cases hf:P.info? e'<;>grind
 ·cases h
theorem Qdm{n e sz:Nat}(h:tar P t=some (n,e,sz)):P.underlying t=some (.array n e)/\∃i,P.info? e=some i/\i.size=sz:=by
 unfold tar at h;split at h
 ·rename_i n' e' hu;cases hf:P.info? e'<;>grind
 ·cases h
theorem Qd7{k:IntKind}(h:tki P t=some k):P.underlying t=some (.int k):=by grind[tki]
theorem Y2{z:List Value}(h:Xs P t=some z):∃i v,P.info? t=some i/\i.zero=some v/\v.cells.toList=z:=by
 unfold Xs at h;cases hi:P.info? t<;>simp_all
end
section
variable{P:Program}{o:Oper}{L:Qe}{C:World->Prop}
theorem Qk{src dst:TypeId}{x:Operand}{k0 k:IntKind}{n:Int}(ho:o.op=.convert src dst x)(hx:ev L x=some (.int k0 n))(h0:tki P src=some k0)(h1:tki P dst=some k):OpP P o L (.int k (k.wrap n)):=by
 intro ρ w hρ;simp[execOp,ho,convert,run_underlying (Qd7 h0),run_underlying (Qd7 h1),hρ _ _ hx,Conv.intToInt]
theorem QpB{t t':TypeId}{x y:Operand}{k:IntKind}{a b:Int}(ho:o.op=.binOp .quo t x y t')(hx:ev L x=some (.int k a))(hy:ev L y=some (.int k b))(hb:b≠0):OpP P o L (.int k (k.wrap (a.tdiv b))):=by
 intro ρ w hρ;simp[execOp,ho,eqGuard,binOp,Op.intDiv,hρ _ _ hx,hρ _ _ hy,hb]
theorem QpF{t t':TypeId}{x y:Operand}{k:IntKind}{a b:Int}(ho:o.op=.binOp .rem t x y t')(hx:ev L x=some (.int k a))(hy:ev L y=some (.int k b))(hb:b≠0):OpP P o L (.int k (a.tmod b)):=by
 intro ρ w hρ;simp[execOp,ho,eqGuard,binOp,Op.intDiv,hρ _ _ hx,hρ _ _ hy,hb]
theorem Qa5{t t':TypeId}{x y:Operand}{a b:Int}(ho:o.op=.binOp .quo t x y t')(hx:ev L x=some (.int .i64 a))(hy:ev L y=some (.int .i64 b))(hb:0<b)(ha:0<=a)(ha':a<=9223372036854775807):OpP P o L (.int .i64 (a/b)):=by
 have h:=QpB (P:=P) ho hx hy om;rw[Int.tdiv_eq_ediv_of_nonneg ha,show IntKind.i64.wrap (a/b)=a/b from IntWalk.i64_in _ ⟨?_,?_⟩]at h
 ·exact h
 ·have:=Int.ediv_nonneg ha (by omega:0<=b);omega
 ·have:=Int.ediv_le_self b ha;omega
theorem Qc3{t t':TypeId}{x y:Operand}{k:IntKind}{a b:Int}(ho:o.op=.binOp .rem t x y t')(hx:ev L x=some (.int k a))(hy:ev L y=some (.int k b))(hb:0<b)(ha:0<=a):OpP P o L (.int k (a%b)):=by
 have h:=QpF (P:=P) ho hx hy om
 grind
theorem Qfj{t t':TypeId}{x y:Operand}{k k':IntKind}{a b:Int}(ho:o.op=.binOp .shl t x y t')(hx:ev L x=some (.int k a))(hy:ev L y=some (.int k' b))(hb:0<=b)(m:Nat)(hm:min b.toNat k.bits=m):OpP P o L (.int k (k.wrap (a*2^m))):=by
 intro ρ w hρ;simp[execOp,ho,eqGuard,binOp,Op.shift,hρ _ _ hx,hρ _ _ hy,show¬b<0 by omega,hm]
theorem QcM{t t':TypeId}{x y:Operand}{k k':IntKind}{a b:Int}(ho:o.op=.binOp .shr t x y t')(hx:ev L x=some (.int k a))(hy:ev L y=some (.int k' b))(hb:0<=b)(m:Nat)(hm:min b.toNat k.bits=m):OpP P o L (.int k (a/2^m)):=by
 intro ρ w hρ;simp[execOp,ho,eqGuard,binOp,Op.shift,hρ _ _ hx,hρ _ _ hy,show¬b<0 by omega,hm]
 grind
theorem QJ{t:TypeId}{x:Operand}{l:List UInt8}(ho:o.op=.call {callee:=.builtin .len,args:=#[x],argTypes:=#[t]})(hx:ev L x=some (.string (bs l)))(h:P.underlying t=some .string):OpP P o L (.int .i64 l.length):=by
 intro ρ w hρ;simp[execOp,ho,resolve,invoke,builtin,Builtin.len_,run_underlying h,hρ _ _ hx,goInt]
theorem QI{t e:TypeId}{x:Operand}{a:Option Addr}{n cap:Nat}(ho:o.op=.call {callee:=.builtin .len,args:=#[x],argTypes:=#[t]})(hx:ev L x=some (.slice a n cap))(h:P.underlying t=some (.slice e)):OpP P o L (.int .i64 n):=by
 intro ρ w hρ;simp[execOp,ho,resolve,invoke,builtin,Builtin.len_,run_underlying h,hρ _ _ hx,goInt]
theorem YF{t:TypeId}{x y:Operand}{l:List UInt8}{k:IntKind}{i:Int}(ho:o.op=.index t x y)(hx:ev L x=some (.string (bs l)))(hy:ev L y=some (.int k i))(h:P.underlying t=some .string)(j:Nat)(hj:i=(j:Int))(hlt:j<l.length) :
  OpP P o L (.int .u8 ((l.getD j 0).toNat:Int)):=by
 intro ρ w hρ
 have hb:(bs l)[j]?=some (l.getD j 0):=by
  rw[show(bs l)[j]?=l[j]? from by simp[getElem?_def,bs];rfl]
  grind
 subst hj;simp[execOp,ho,Instr.index,hρ _ _ hx,hρ _ _ hy,asIntOf,run_underlying h,hb]
def Qqr(L:Qe)(lo:Option Operand)(a:Nat):Prop:=match lo with|none=>a=0|some y=>∃k i,ev L y=some (.int k i)/\i=(a:Int)
def QqO(L:Qe)(hi:Option Operand)(n b:Nat):Prop:=match hi with|none=>b=n|some y=>∃k i,ev L y=some (.int k i)/\i=(b:Int)
theorem Qeq{P:Program}{L:Qe}{ρ:Operand->Value}{w:World}{lo hi:Option Operand}{n cap a b:Nat}(isSlice:Bool)(hρ:Agr L ρ)(hlo:Qqr L lo a)(hhi:QqO L hi n b)(hab:a<=b)(hb:b<=cap) :
  (Instr.sliceBounds isSlice n cap (lo.map ρ) (hi.map ρ) none).run P w=.ok (a,b,cap) w:=by
 cases lo with
 | none=>
  cases hi with
  | none=>cases hlo;cases hhi;simp[Instr.sliceBounds]
  | some y=>
   obtain⟨k,i,h1,rfl⟩:=hhi;cases hlo;simp[Instr.sliceBounds,Instr.sliceBound,hρ _ _ h1,asIntOf,hb]
 | some z=>
  obtain⟨k2,i2,h2,rfl⟩:=hlo;cases hi with
  | none=>cases hhi;simp[Instr.sliceBounds,Instr.sliceBound,hρ _ _ h2,asIntOf,hab]
  | some y=>
   obtain⟨k,i,h1,rfl⟩:=hhi;simp[Instr.sliceBounds,Instr.sliceBound,hρ _ _ h1,hρ _ _ h2,asIntOf,hb,hab]
theorem Z6{t:TypeId}{x:Operand}{l:List UInt8}(lo hi:Option Operand)(a b:Nat)(ho:o.op=.slice t x lo hi none)(hx:ev L x=some (.string (bs l)))(h:P.underlying t=some .string)
  (hlo:Qqr L lo a)(hhi:QqO L hi l.length b)(hab:a<=b)(hbl:b<=l.length) :
  OpP P o L (.string (bs ((l.take b).drop a))):=by
 intro ρ w hρ;have he:(bs l).extract a b=bs ((l.take b).drop a):=(QmQ _).trans (congrArg bs (by rw[Lib.extract_data,bs_data,List.drop_take]));have hb:=Qeq (P:=P) (w:=w) false hρ hlo hhi hab (show b<=l.length from hbl);simp only[execOp,ho,Instr.sliceAt,Sem.run_bind,run_underlying h,Result.andThen_ok,Instr.slice,hρ _ _ hx,bs_size,Option.map_none,Option.isSome_none,Bool.false_eq_true,if_false,hb,he,Sem.run_pure]
theorem Yo{t:TypeId}{x y:Operand}{l:List UInt8}(a:Nat){k:IntKind}{i:Int}(ho:o.op=.slice t x (some y) none none)(hx:ev L x=some (.string (bs l)))(hy:ev L y=some (.int k i))(h:P.underlying t=some .string)
  (hi:i=(a:Int))(ha:a<=l.length):OpP P o L (.string (bs (l.drop a))):=by
 have:=Z6 (P:=P) (some y) none a l.length ho hx h ⟨k,i,hy,hi⟩ rfl ha (Nat.le_refl _)
 grind
theorem Qbg{t:TypeId}{x y:Operand}{l:List UInt8}(b:Nat){k:IntKind}{i:Int}(ho:o.op=.slice t x none (some y) none)(hx:ev L x=some (.string (bs l)))(hy:ev L y=some (.int k i))(h:P.underlying t=some .string)
  (hi:i=(b:Int))(hb:b<=l.length):OpP P o L (.string (bs (l.take b))):=by
 have:=Z6 (P:=P) none (some y) 0 b ho hx h rfl ⟨k,i,hy,hi⟩ (Nat.zero_le _) hb
 grind
theorem Qao{t t':TypeId}{x y:Operand}{l m:List UInt8}(ho:o.op=.binOp .add t x y t')(hx:ev L x=some (.string (bs l)))(hy:ev L y=some (.string (bs m)))(hlen:l.length+m.length<=9223372036854775807):OpP P o L (.string (bs (l++m))):=by
 intro ρ w hρ
 have hlen':(l.length:Int)+(m.length:Int)<=IntKind.i64.max:=by
  have:IntKind.i64.max=9223372036854775807:=by decide
  omega
 have e:bs l++bs m=bs (l++m):=(QmQ _).trans (congrArg bs (by simp[ByteArray.data_append]));simp[execOp,ho,eqGuard,binOp,Op.stringOp,hρ _ _ hx,hρ _ _ hy,e];exact hlen'
theorem Qa8{st f:TypeId}{x:Operand}{b i off ft sz:Nat}{ag:Bool}(ho:o.op=.fieldAddr st x f)(hx:ev L x=some (.pointer (some ⟨b,i,none⟩)))(hf:tfd P st f=some (off,ft))(hs:tsz P ft=some (sz,ag))(hsz:Nat.blt 0 sz=true) :
  OpP P o L (.pointer (some ⟨b,i+off,none⟩)):=by
 intro ρ w hρ;obtain⟨fs,y,h1,h2,h3,h4⟩:=Qe4 hf;have h5:=(QbF (w:=w) hs).2
 have hne:¬sz=0:=by
   have:0<sz:=by simpa[Nat.blt_eq]using hsz
   omega
 subst h4;simp[execOp,ho,Instr.fieldAt,run_underlying h1,h2,Instr.sureAddr,hρ _ _ hx,fieldPlace,h5,hne];unfold Addr.add
 grind
theorem XG(b i n:Nat):(⟨b,i,none⟩:Addr).add n=⟨b,i+n,none⟩:=by
 unfold Addr.add;split
 ·grind
 ·rfl
theorem Qa{t e sz by':Nat}{x y:Operand}{a:Option Addr}{b i n cap:Nat}{k:IntKind}{ix:Int}(ho:o.op=.indexAddr t x y)(hx:ev L x=some (.slice a n cap))(hy:ev L y=some (.int k ix))(ht:tsl P t=some (e,sz,by'))(j:Nat)(hj:ix=(j:Int))(hlt:j<n)(ha:a=some ⟨b,i,none⟩) :
  OpP P o L (.pointer (some ⟨b,i+j*sz,none⟩)):=by
 intro ρ w hρ;obtain⟨h1,inf,h2,h3,_⟩:=XZ ht;subst ha;subst hj;simp[execOp,ho,Instr.indexAt,hρ _ _ hx,hρ _ _ hy,asIntOf,run_underlying h1,hlt,Go.sizeOf,typeInfo,h2,h3,XG]
def cut(cs:List Value)(off n:Nat):List Value:=(cs.drop off).take n
theorem Qf9{P:Program}{t n off:Nat}{cs:List Value}{w:World}{v:Value}(h:tsz P t=some (n,false))(hv:cs[off]?=some v):(part t cs.toArray off).run P w=.ok v w:=by
 have h1:=QbF (w:=w) h;unfold part;simp[h1.1,hv]
theorem QkQ{P:Program}{t n off:Nat}{cs:List Value}{w:World}(h:tsz P t=some (n,true)):(part t cs.toArray off).run P w=.ok (.agg (cut cs off n).toArray) w:=by
 have h1:=QbF (w:=w) h;unfold part
 simp_all[cut]
theorem Qar{st f off ft n:Nat}{x:Operand}{cs:List Value}{v:Value}(ho:o.op=.field st x f)(hx:ev L x=some (.agg cs.toArray))(hf:tfd P st f=some (off,ft))(hs:tsz P ft=some (n,false))(hv:cs[off]?=some v):OpP P o L v:=by
 intro ρ w hρ;obtain⟨fs,y,h1,h2,h3,h4⟩:=Qe4 hf;simp[execOp,ho,Instr.field,run_underlying h1,h2,hρ _ _ hx,asAgg,h3,h4,Qf9 (w:=w) hs hv]
theorem Qmg{t e sz len n:Nat}{x y:Operand}{cs:List Value}{k:IntKind}{ix:Int}{v:Value}(ho:o.op=.index t x y)(hx:ev L x=some (.agg cs.toArray))(hy:ev L y=some (.int k ix))(ht:tar P t=some (len,e,sz))(hs:tsz P e=some (n,false))(j:Nat)(hj:ix=(j:Int))(hlt:j<len)(hv:cs[j*sz]?=some v):OpP P o L v:=by
 intro ρ w hρ;obtain⟨h1,inf,h2,h3⟩:=Qdm ht;subst hj;simp[execOp,ho,Instr.index,hρ _ _ hx,hρ _ _ hy,asIntOf,run_underlying h1,hlt,Go.sizeOf,typeInfo,h2,h3,Qf9 (w:=w) hs hv]
theorem QeX{t e sz len n:Nat}{x y:Operand}{cs:List Value}{k:IntKind}{ix:Int}(ho:o.op=.index t x y)(hx:ev L x=some (.agg cs.toArray))(hy:ev L y=some (.int k ix))(ht:tar P t=some (len,e,sz))(hs:tsz P e=some (n,true))(j:Nat)(hj:ix=(j:Int))(hlt:j<len):OpP P o L (.agg (cut cs (j*sz) n).toArray):=by
 intro ρ w hρ;obtain⟨h1,inf,h2,h3⟩:=Qdm ht;subst hj;simp[execOp,ho,Instr.index,hρ _ _ hx,hρ _ _ hy,asIntOf,run_underlying h1,hlt,Go.sizeOf,typeInfo,h2,h3,QkQ (w:=w) hs]
def YA(P:Program)(t:TypeId):Option (List (Nat×Nat)):=
 match P.underlying t with
 | some (.struct fs)=>fs.toList.mapM λf=>(P.info? f.type).map λi=>(f.offset,i.size)
 | _=>none
def Qu:List Value->Nat->List Value->List Value
 | cs,_,[]=>cs
 | cs,i,v::vs=>Qu (cs.set i v) (i+1) vs
theorem Qb:∀(vs:List Value)(cs:List Value)(i:Nat),(Qu cs i vs).length=cs.length
 | [],_,_=>rfl
 | v::vs,cs,i=>by rw[Qu,Qb vs];simp
def QeU(place:Nat->Option (Nat×Nat)):List Value->List (Nat×Value)->Option (List Value)
 | cells,[]=>some cells
 | cells,(i,v)::rest=>match place i with
  | none=>none
  | some (off,size)=>bif Nat.beq v.cells.toList.length size&&Nat.ble (off+v.cells.toList.length) cells.length then QeU place (Qu cells off v.cells.toList) rest else none
theorem Qce(off:Nat):∀(vs:List Value)(k:Nat)(cs:Array Value),((vs.zipIdx k).foldl (λ(cs:Array Value)(p:Value×Nat)=>cs.setIfInBounds (off+p.2) p.1) cs).toList=Qu cs.toList (off+k) vs
 | [],_,_=>rfl
 | v::vs,k,cs=>by
  rw[List.zipIdx_cons,List.foldl_cons,Qce off vs (k+1),Qu,Array.toList_setIfInBounds];rfl
theorem Qee{place:Nat->Option (Nat×Nat)}:∀{ps:List (Nat×Value)}{cells:List Value}{cs:List Value},QeU place cells ps=some cs->Instr.fill place cells.toArray ps=some cs.toArray
 | [],cells,cs,h=>by
  simp only[QeU,Option.some.injEq]at h;subst h;rfl
 | (i,v)::rest,cells,cs,h=>by
  simp only[QeU]at h;unfold Instr.fill;cases hp:place i with
  | none=>rw[hp]at h;cases h
  | some os=>
   obtain⟨off,size⟩:=os;rw[hp]at h;simp only at h ⊢;cases hc:(Nat.beq v.cells.toList.length size&&Nat.ble (off+v.cells.toList.length) cells.length)with
   | false=>rw[hc]at h;cases h
   | true=>
    rw[hc]at h;simp only[cond_true]at h;simp only[Bool.and_eq_true]at hc;have h1:v.cells.toList.length=size:=Nat.eq_of_beq_eq_true hc.1;have h2:off+v.cells.toList.length<=cells.length:=Nat.le_of_ble_eq_true hc.2
    have e1:(decide (v.cells.size≠size)||decide (off+v.cells.size>cells.toArray.size))=false:=by
     simp only[Array.length_toList]at h1 h2;simp[h1];omega
    rw[e1];simp only[Bool.false_eq_true,if_false]
    have e2:(v.cells.zipIdx.foldl (λcs(x:Value×Nat)=>match x with|(c,j)=>cs.setIfInBounds (off+j) c) cells.toArray)=(Qu cells off v.cells.toList).toArray:=by
     apply Array.ext';rw[<-Array.foldl_toList,Array.toList_zipIdx];have:=Qce off v.cells.toList 0 cells.toArray
     simpa using this
    rw[e2];exact Qee h
def QbN(L:Qe):List (Nat×Operand)->Option (List (Nat×Value))
 | []=>some []
 | (i,x)::r=>match ev L x,QbN L r with
  | some v,some vs=>some ((i,v)::vs)
  | _,_=>none
theorem Qac{ρ:Operand->Value}(hρ:Agr L ρ):∀{ps:List (Nat×Operand)}{vs:List (Nat×Value)},QbN L ps=some vs->ps.map (λp=>(p.1,ρ p.2))=vs
 | [],vs,h=>by cases h;rfl
 | (i,x)::r,vs,h=>by
  simp only[QbN]at h;split at h
  ·rename_i v vs' h1 h2;injection h with h
   subst h;simp[hρ x v h1,Qac hρ h2]
  ·cases h
theorem Qev{P:Program}{w:World}:∀{fs:List Field}{pl:List (Nat×Nat)},(fs.mapM λf=>(P.info? f.type).map λi=>(f.offset,i.size))=some pl ->
  (fs.mapM λf=>(do pure (f.offset,<-Go.sizeOf f.type):Sem (Nat×Nat))).run P w=.ok pl w
 | [],pl,h=>by simp_all
 | f::fs,pl,h=>by
  rw[List.mapM_cons]at h;cases hi:P.info? f.type with
  | none=>rw[hi]at h;simp at h
  | some i=>
   rw[hi]at h;simp only[Option.map_some,Option.bind_eq_bind,Option.bind_some]at h;cases hr:(fs.mapM λf=>(P.info? f.type).map λi=>(f.offset,i.size))with
   | none=>rw[hr]at h;simp at h
   | some pl'=>
    rw[hr]at h;simp only[Option.bind_some,Option.pure_def,Option.some.injEq]at h;subst h;have h1:(Go.sizeOf f.type).run P w=.ok i.size w:=by simp[Go.sizeOf,typeInfo,hi]
    rw[List.mapM_cons];simp only[Sem.run_bind,h1,Result.andThen_ok,Sem.run_pure,Qev hr]
theorem Qw{t:TypeId}{parts:Array (Nat×Operand)}{vs:List (Nat×Value)}{pl:List (Nat×Nat)}{z cs:List Value}(ho:o.op=.build t parts)(hp:QbN L parts.toList=some vs)(hpl:YA P t=some pl)(hz:Xs P t=some z)
  (hcs':QeU (λi=>pl[i]?) z vs=some cs):OpP P o L (.agg cs.toArray):=by
 intro ρ w hρ;obtain⟨inf,zv,h1,h2,h3⟩:=Y2 hz;have hcs:=Qee hcs';have hpe:(λi:Nat=>pl[i]?)=(pl.toArray[·]?):=by funext i;simp
 rw[hpe]at hcs;unfold YA at hpl;split at hpl
 ·rename_i fs hu;have hm:=Qev (w:=w) hpl;have hz':zv.cells=z.toArray:=by rw[<-h3]
  have hpm:(parts.map λp=>(p.1,ρ p.2)).toList=vs:=by rw[Array.toList_map];exact Qac hρ hp
  have hzr:(zeroValue t).run P w=.ok zv w:=by simp[zeroValue,typeInfo,h1,h2]
  have hmr:(fs.mapM λf=>(do pure (f.offset,<-Go.sizeOf f.type):Sem (Nat×Nat))).run P w=.ok pl.toArray w:=by
   rw[Array.mapM_eq_mapM_toList];simp only[Sem.run_map,hm,Result.andThen_ok]
  have hb:(Instr.build t (parts.map λp=>(p.1,ρ p.2))).run P w=.ok (.agg cs.toArray) w:=by
   unfold Instr.build;simp only[Sem.run_bind,hzr,Result.andThen_ok,run_underlying hu,hmr,hz',hpm,hcs,Sem.run_pure]
  simp only[execOp,ho,Sem.run_bind];rw[show(parts.map λx=>match x with|(i,x)=>(i,ρ x))=parts.map λp=>(p.1,ρ p.2)from rfl,hb];rfl
 ·cases hpl
theorem QdK{t e sz len:Nat}{parts:Array (Nat×Operand)}{vs:List (Nat×Value)}{z cs:List Value}(ho:o.op=.build t parts)(hp:QbN L parts.toList=some vs)(ht:tar P t=some (len,e,sz))(hz:Xs P t=some z)
  (hcs':QeU (λi=>some (i*sz,sz)) z vs=some cs):OpP P o L (.agg cs.toArray):=by
 intro ρ w hρ;obtain⟨inf,zv,h1,h2,h3⟩:=Y2 hz;obtain⟨hu,inf',h4,h5⟩:=Qdm ht;have hcs:=Qee hcs';have hz':zv.cells=z.toArray:=by rw[<-h3]
 have hpm:(parts.map λp=>(p.1,ρ p.2)).toList=vs:=by rw[Array.toList_map];exact Qac hρ hp
 have hzr:(zeroValue t).run P w=.ok zv w:=by simp[zeroValue,typeInfo,h1,h2]
 have hsz:(Go.sizeOf e).run P w=.ok sz w:=by simp[Go.sizeOf,typeInfo,h4,h5]
 have hb:(Instr.build t (parts.map λp=>(p.1,ρ p.2))).run P w=.ok (.agg cs.toArray) w:=by
  unfold Instr.build;simp only[Sem.run_bind,hzr,Result.andThen_ok,run_underlying hu,hsz,hz',hpm,hcs,Sem.run_pure]
 simp only[execOp,ho,Sem.run_bind]
 simp_all
end
section
variable{P:Program}{o:Oper}{L:Qe}{w0:World}{M:List Nat}{As As':List HA}
theorem Z7{t b i:Nat}{v:Value}{w:World}(hs:tsz P t=some (1,false))(hc:w.cell? ⟨b,i,none⟩=some v):(Instr.loadAt t (.pointer (some ⟨b,i,none⟩))).run P w=.ok v w:=by
 simp[Instr.loadAt,Instr.sureAddr,loadVar,(QbF (w:=w) hs).1,hc]
theorem Z1{t b i n:Nat}{vs:List Value}{w:World}(hs:tsz P t=some (n,true))(hl:vs.length=n)(hc:∀j v,vs[j]?=some v->w.cell? ⟨b,i+j,none⟩=some v):(Instr.loadAt t (.pointer (some ⟨b,i,none⟩))).run P w=.ok (.agg vs.toArray) w:=by
 have h:=QbF (w:=w) hs;have hr:=run_loadCells_list (P:=P) (w:=w) ⟨b,i,none⟩ vs (λj v hv=>by rw[XG];exact hc j v hv);rw[hl]at hr;simp[Instr.loadAt,Instr.sureAddr,loadVar,h.1,h.2,hr]
theorem X8{t x b tot i:Nat}{bt:TypeId}{cs:List Value}{v:Value}(ho:o.op=.load t (.tmp x))(hx:Qe.get L x=some (.pointer (some ⟨b,i,none⟩)))(hs:tsz P t=some (1,false))(hp:Qv As (.blk b bt tot cs) As')(hv:cs[i]?=some v):OpQ P o L (HS w0 M As) v:=by
 intro ρ w hρ hw;simp only[execOp,ho,Sem.run_bind,hρ (.tmp x) _ hx,Z7 hs ((hw.blk_get hp).cell hv),Result.andThen_ok,Sem.run_pure];exact⟨rfl,Below.refl _ _⟩
theorem Qd3{t x b tot i n:Nat}{bt:TypeId}{cs:List Value}(ho:o.op=.load t (.tmp x))(hx:Qe.get L x=some (.pointer (some ⟨b,i,none⟩)))(hs:tsz P t=some (n,true))(hp:Qv As (.blk b bt tot cs) As')(hl:Nat.ble (i+n) cs.length=true):OpQ P o L (HS w0 M As) (.agg (cut cs i n).toArray):=by
 intro ρ w hρ hw;have hl':i+n<=cs.length:=Nat.le_of_ble_eq_true hl
 have hr:=Z1 (b:=b) (i:=i) (w:=w) (vs:=cut cs i n) hs (by simp[cut];omega) (λj v hv=>(hw.blk_get hp).cell (by
  unfold cut at hv;rw[List.getElem?_take]at hv;split at hv
  ·simpa using hv
  ·cases hv))
 simp only[execOp,ho,Sem.run_bind,hρ (.tmp x) _ hx,hr,Result.andThen_ok,Sem.run_pure];exact⟨rfl,Below.refl _ _⟩
theorem Qc{t x b i:Nat}{v:Value}(ho:o.op=.load t (.tmp x))(hx:Qe.get L x=some (.pointer (some ⟨b,i,none⟩)))(hs:tsz P t=some (1,false))(hr:Rd w0 M b i v):OpQ P o L (HS w0 M As) v:=by
 intro ρ w hρ hw;simp only[execOp,ho,Sem.run_bind,hρ (.tmp x) _ hx,Z7 hs (hw.rd hr),Result.andThen_ok,Sem.run_pure];exact⟨rfl,Below.refl _ _⟩
theorem Qm{t x b i n:Nat}(vs:List Value)(ho:o.op=.load t (.tmp x))(hx:Qe.get L x=some (.pointer (some ⟨b,i,none⟩)))(hs:tsz P t=some (n,true))(hl:vs.length=n)(hr:∀j v,vs[j]?=some v->Rd w0 M b (i+j) v):OpQ P o L (HS w0 M As) (.agg vs.toArray):=by
 intro ρ w hρ hw;simp only[execOp,ho,Sem.run_bind,hρ (.tmp x) _ hx,Z1 hs hl (λj v hv=>hw.rd (hr j v hv)),Result.andThen_ok,Sem.run_pure];exact⟨rfl,Below.refl _ _⟩
theorem Qet(t:TypeId)(v:Value)(w:World):(newVar t v).run P w=.ok ⟨w.heap.size,0,none⟩ (w.alloc (.cells v.cells t)):=by
 simp[newVar,newRow]
theorem Xf{t:TypeId}{z:List Value}(ho:o.op=.alloc t)(hz:Xs P t=some z):OpH P o L (HS w0 M As) (λb=>.pointer (some ⟨b,0,none⟩)) (λ_=>True) (λb=>HS w0 M (.blk b t z.length z::As)):=by
 intro ρ w hρ hw;obtain⟨inf,zv,h1,h2,h3⟩:=Y2 hz;have hzr:(zeroValue t).run P w=.ok zv w:=by simp[zeroValue,typeInfo,h1,h2]
 simp only[execOp,ho,Instr.alloc,Sem.run_bind,hzr,Result.andThen_ok,Qet,Sem.run_pure];refine⟨w.heap.size,rfl,trivial,?_⟩;have:=hw.blk_new t zv.cells
 grind
theorem Qj8{t:TypeId}{x:Operand}{v:Value}(ho:o.op=.box t x)(hx:ev L x=some v):OpH P o L (HS w0 M As) (λb=>.pointer (some ⟨b,0,none⟩)) (λ_=>True) (λb=>HS w0 M (.blk b t v.cells.toList.length v.cells.toList::As)):=by
 intro ρ w hρ hw;simp only[execOp,ho,Instr.box,Sem.run_bind,hρ _ _ hx,Result.andThen_ok,Qet,Sem.run_pure];exact⟨w.heap.size,rfl,trivial,by simpa using hw.blk_new t v.cells⟩
theorem ZP{b i:Nat}{t:TypeId}{tot:Nat}:∀(vs:List Value)(j:Nat)(cs:List Value)(w:World),Xc b t tot cs w->i+j+vs.length<=cs.length->(∀v∈vs,v.oneCell'=true) ->
  ∃w',(storeCells ⟨b,i,none⟩ vs j).run P w=.ok () w'/\Xc b t tot (Qu cs (i+j) vs) w'/\w'.os=w.os/\w'.tape=w.tape/\w'.output=w.output/\w'.heap.size=w.heap.size/\∀k,k≠b->w'.heap[k]?=w.heap[k]?
 | [],j,cs,w,h,_,_=>⟨w,rfl,h,rfl,rfl,rfl,rfl,λ_ _=>rfl⟩
 | v::vs,j,cs,w,h,hl,h1=>by
  simp only[List.length_cons]at hl;have htot:cs.length<=tot:=by obtain⟨cur,fr,_,_,h3,_⟩:=h;exact h3
  obtain⟨u,hu⟩:=h.cellsome (i:=i+j) om;have hf:=h.frozen (i:=i+j) om
  have hst:(store ((⟨b,i,none⟩:Addr).add j) v).run P w=.ok () (w.setCell ⟨b,i+j,none⟩ v):=by
   rw[XG,run_store P w _ v _ (h1 v (List.mem_cons_self ..)),hu];simp[hf]
  obtain⟨w',hr,hb,r1,r2,r3,r4,r5⟩:=ZP (i:=i) vs (j+1) (cs.set (i+j) v) _ (h.set (i:=i+j) om v) (by simp;omega) (λv hv=>h1 v (List.mem_cons_of_mem _ hv));refine⟨w',?_,by rw[Qu];exact hb,by rw[r1];rfl,by rw[r2];rfl,by rw[r3];rfl,by rw[r4];simp,λk hk=>(r5 k hk).trans (QaU w b (i+j) v k hk)⟩;rw[storeCells]
  simp_all
theorem XW{t x b tot i n:Nat}{y:Operand}{bt:TypeId}{ag:Bool}{cs:List Value}{v:Value}(ho:o.op=.store t (.tmp x) y)(hx:Qe.get L x=some (.pointer (some ⟨b,i,none⟩)))(hy:ev L y=some v)(hs:tsz P t=some (n,ag))(hn:v.cells.toList.length=n)
  (hp:Put As (.blk b bt tot cs) (.blk b bt tot (Qu cs i v.cells.toList)) As')(hl:i+n<=cs.length)(h1:v.cells.toList.all (·.oneCell')=true) :
  OpH P o L (HS w0 M As) (λ_:Unit=>undef) (λ_=>True) (λ_=>HS w0 M As'):=by
 intro ρ w hρ hw;obtain⟨Rs,hpk,hperm⟩:=hp.ex;have hw1:=hw.pick hpk;obtain⟨w',hr,hb,r1,r2,r3,r4,r5⟩:=ZP (P:=P) (i:=i) v.cells.toList 0 cs w hw1.head om (λu hu=>List.all_eq_true.1 h1 u hu);have hsz:=(QbF (w:=w) hs).2;have hne:¬(v.cells.size≠n):=by simpa using hn
 simp only[execOp,ho,Instr.storeAt,Instr.sureAddr,storeVar,Sem.run_bind,hρ (.tmp x) _ hx,hρ _ _ hy,Sem.run_pure,Result.andThen_ok,hsz,hne,if_false,hr];exact⟨(),rfl,trivial,(HS.swap hw1 (B:=.blk b bt tot (Qu cs i v.cells.toList)) (λ_ h=>h) r1 r2 r3 r4 (λk hk=>r5 k (by simpa[HA.fp_blk]using hk)) hb).perm hperm⟩
def QE(P:Program)(f:FuncId):Bool:=match P.funcs[f]? with
 | some fn=> !(fn.name== "runtime.NumGoroutine")&& !fn.body.isNone
 | none=>false
theorem Zv{f:FuncId}{args:Array Value}{w:World}(h:QE P f=true):(callFunc f args).run P w=.ok (.enter f args) w:=by
 unfold QE at h;split at h
 ·rename_i fn hf;simp only[Bool.and_eq_true,Bool.not_eq_true']at h;have h1:¬(fn.name== "runtime.NumGoroutine")=true:=by rw[h.1];simp
  have h2:¬fn.body.isNone=true:=by rw[h.2];simp
  unfold callFunc
  simp_all
 ·cases h
theorem Qbk{f:FuncId}{c:Operand}{args:Array Operand}{vs:List Value}{first cap:Array Value}{at':Array TypeId}{ρ:Operand->Value}{w:World}(ho:o.op=.call {callee:=.value c,args:=args,argTypes:=at'})(hρ:Agr L ρ)(hc:ev L c=some (.func (.func f) first cap))(hf:QE P f=true)(ha:evs L args.toList=some vs) :
  (execOp ρ o).run P w=.ok (.enter f (first++vs.toArray++cap)) w:=by
 have e1:args.map ρ=vs.toArray:=by rw[<-QcX hρ ha,<-List.map_toArray]
 unfold execOp;simp only[ho,resolve,Sem.run_bind,hρ _ _ hc,Deferred.ofValue,e1,Sem.run_pure,Result.andThen_ok,invoke,Zv hf]
theorem Qh{f:FuncId}{args:Array Operand}{vs:List Value}{v:Value}{at':Array TypeId}(ho:o.op=.call {callee:=.value (.func f),args:=args,argTypes:=at'})(hf:QE P f=true)(ha:evs L args.toList=some vs)
  (hc:∀w,HS w0 M As w->Calls P f vs.toArray w λe w'=>e=.returned v/\Below w.heap.size w w'):OpQ P o L (HS w0 M As) v:=by
 intro ρ w hρ hw;rw[Qbk ho hρ rfl hf ha];have h1:=hc w hw;simp only[Array.empty_append,Array.append_empty];exact Calls.mono h1 λe w' h=>⟨v,h.1,rfl,h.2⟩
theorem QT{G:Type}{V:G->Value}{F:G->Prop}{Bs:G->List HA}{f:FuncId}{args:Array Operand}{vs:List Value}{at':Array TypeId}(ho:o.op=.call {callee:=.value (.func f),args:=args,argTypes:=at'})(hf:QE P f=true)(ha:evs L args.toList=some vs)
  (hc:∀w,HS w0 M As w->Calls P f vs.toArray w λe w'=>∃g,e=.returned (V g)/\F g/\HS w [] (Bs g) w'):OpH P o L (HS w0 M As) V F (λg=>HS w0 M (Bs g++As)):=by
 intro ρ w hρ hw;rw[Qbk ho hρ rfl hf ha];have h1:=hc w hw;simp only[Array.empty_append,Array.append_empty];exact Calls.mono h1 λe w'⟨g,he,hf,hb⟩=>⟨V g,he,g,rfl,hf,hw.call hb⟩
theorem Qpa{G:Type}{V:G->Value}{F:G->Prop}{Bs:G->List HA}{Cs Ds:List HA}{Mc:List Nat}{f:FuncId}{args:Array Operand}{vs:List Value}{at':Array TypeId}(ho:o.op=.call {callee:=.value (.func f),args:=args,argTypes:=at'})(hf:QE P f=true)(ha:evs L args.toList=some vs)
  (hp:As.Perm (Cs++Ds))(hM:∀b∈Mc,∃A∈Cs,b∈A.fp)(hc:∀w,HS w0 M As w->Calls P f vs.toArray w λe w'=>∃g,e=.returned (V g)/\F g/\HS w Mc (Bs g) w'):OpH P o L (HS w0 M As) V F (λg=>HS w0 M (Bs g++Ds)):=by
 intro ρ w hρ hw;rw[Qbk ho hρ rfl hf ha];have h1:=hc w hw;simp only[Array.empty_append,Array.append_empty];exact Calls.mono h1 λe w'⟨g,he,hf,hb⟩=>⟨V g,he,g,rfl,hf,(hw.perm hp).callM hM hb⟩
theorem XS{f:FuncId}{c:Operand}{args:Array Operand}{vs:List Value}{first cap:Array Value}{v:Value}{at':Array TypeId}(ho:o.op=.call {callee:=.value c,args:=args,argTypes:=at'})(hcv:ev L c=some (.func (.func f) first cap))(hf:QE P f=true)(ha:evs L args.toList=some vs)
  (hc:∀w,HS w0 M As w->Calls P f (first++vs.toArray++cap) w λe w'=>e=.returned v/\Below w.heap.size w w'):OpQ P o L (HS w0 M As) v:=by
 intro ρ w hρ hw;rw[Qbk ho hρ hcv hf ha];exact Calls.mono (hc w hw) λe w' h=>⟨v,h.1,rfl,h.2⟩
theorem QnZ{G:Type}{V:G->Value}{F:G->Prop}{Bs:G->List HA}{Cs Ds:List HA}{Mc:List Nat}{f:FuncId}{c:Operand}{args:Array Operand}{vs:List Value}{first cap:Array Value}{at':Array TypeId}(ho:o.op=.call {callee:=.value c,args:=args,argTypes:=at'})(hcv:ev L c=some (.func (.func f) first cap))(hf:QE P f=true)(ha:evs L args.toList=some vs)
  (hp:As.Perm (Cs++Ds))(hM:∀b∈Mc,∃A∈Cs,b∈A.fp)(hc:∀w,HS w0 M As w->Calls P f (first++vs.toArray++cap) w λe w'=>∃g,e=.returned (V g)/\F g/\HS w Mc (Bs g) w'):OpH P o L (HS w0 M As) V F (λg=>HS w0 M (Bs g++Ds)):=by
 intro ρ w hρ hw;rw[Qbk ho hρ hcv hf ha];exact Calls.mono (hc w hw) λe w'⟨g,he,hf,hb⟩=>⟨V g,he,g,rfl,hf,(hw.perm hp).callM hM hb⟩
theorem Qd{t e sz by' len:Nat}{parts:Array (Nat×Operand)}{vs:List (Nat×Value)}{z cs:List Value}(ho:o.op=.buildSlice t len parts)(hp:QbN L parts.toList=some vs)(ht:tsl P t=some (e,sz,by'))(hz:Xs P e=some z)(hlen:Nat.ble (len*sz) 16777216=true)(h0:Nat.blt 0 (len*sz)=true)
  (hcs':QeU (λi=>some (i*sz,sz)) ((List.range (len*sz)).map λi=>z.getD (i%z.length) default) vs=some cs) :
  OpH P o L (HS w0 M As) (λb=>.slice (some ⟨b,0,none⟩) len len) (λ_=>True) (λb=>HS w0 M (.blk b e cs.length cs::As)):=by
 intro ρ w hρ hw;obtain⟨inf,zv,h1,h2,h3⟩:=Y2 hz;obtain⟨hu,inf',h4,h5,_⟩:=XZ ht
 have hcs:Instr.fill (λi=>some (i*sz,sz)) ((Array.range (len*sz)).map (z.toArray[· %z.toArray.size]!)) vs=some cs.toArray:=by
  rw[<-Qee hcs'];congr 1;apply Array.ext';simp only[Array.toList_map,Array.toList_range,List.size_toArray];refine List.map_congr_left λi _=>?_;simp[List.getD_eq_getElem?_getD,getElem!_def];cases z[i%z.length]?<;>rfl
 have hz':zv.cells=z.toArray:=by rw[<-h3]
 have hpm:(parts.map λp=>(p.1,ρ p.2)).toList=vs:=by rw[Array.toList_map];exact Qac hρ hp
 have hzr:(zeroValue e).run P w=.ok zv w:=by simp[zeroValue,typeInfo,h1,h2]
 have hsz:(Go.sizeOf e).run P w=.ok sz w:=by simp[Go.sizeOf,typeInfo,h4,h5]
 have hlen':¬(len*sz>2^24):=by have:=Nat.le_of_ble_eq_true hlen;omega
 have h0':¬(len*sz=0):=by
   have:0<len*sz:=by simpa[Nat.blt_eq]using h0
   omega
 have hb:(Instr.buildSlice t len (parts.map λp=>(p.1,ρ p.2))).run P w=.ok (.slice (some ⟨w.heap.size,0,none⟩) len len) (w.alloc (.cells cs.toArray e)):=by
  unfold Instr.buildSlice;simp only[Sem.run_bind,run_underlying hu,Result.andThen_ok,hsz,if_neg hlen',if_neg h0',hzr,Sem.run_pure,hz',hpm,hcs,newRow,run_newObj,World.alloc_eq]
 simp only[execOp,ho,Sem.run_bind];rw[show(parts.map λx=>match x with|(i,x)=>(i,ρ x))=parts.map λp=>(p.1,ρ p.2)from rfl,hb];exact⟨w.heap.size,rfl,trivial,by simpa using hw.blk_new e cs.toArray⟩
theorem Qc9{src dst e:TypeId}{x:Operand}{l:List UInt8}(ho:o.op=.convert src dst x)(hx:ev L x=some (.string (bs l)))(hs:P.underlying src=some .string)(hd:P.underlying dst=some (.slice e))(he:P.underlying e=some (.int .u8))(h5:e=u8T)(hl:l.length<=maxLen) :
  OpH P o L (HS w0 M As) (λp:Nat×Nat=>.slice (some ⟨p.1,0,none⟩) l.length p.2) (λp=>l.length<=p.2/\p.2<=maxLen) (λp=>HS w0 M (.blk p.1 e p.2 (l.map λb=>.int .u8 b.toNat)::As)):=by
 intro ρ w hρ hw;have hr:=run_bytes_of_string (P:=P) w src dst e (bs l) hs hd he;simp only[execOp,ho,Sem.run_bind,hρ _ _ hx,hr,Result.andThen_ok,Sem.run_pure];have hge:=grownCap_ge w (bs l).size 0 e;have hle:=grownCap_le_maxLen w (bs l).size 0 e hl;refine⟨(w.heap.size,grownCap w (bs l).size 0 e),rfl,⟨hge,hle⟩,?_⟩;generalize hcap:grownCap w (bs l).size 0 e=cap at *
 have hsz:(bytesRow (bs l) cap).size=cap:=by
  simp only[bytesRow,Array.size_append,Array.size_map,Array.size_replicate]
  simp_all
 refine hw.drew.alloc _ _ rfl ⟨_,_,heap_alloc_new _ _,Nat.le_of_eq hsz.symm,by simpa using hge,λi hi=>?_,Nat.le_succ _,λi h2 h3=>?_⟩
 ·simp only[List.length_map]at hi;simp[bytesRow,Array.getElem?_append,bs,hi]
 grind
end
def Ent(As Bs:List HA):Prop:=∃Cs,As.Perm (Bs++Cs)
theorem Ent.nil{As:List HA}:Ent As []:=⟨As,.refl _⟩
theorem Ent.cons{As As' Bs:List HA}{A:HA}(h:Qv As A As')(r:Ent As' Bs):Ent As (A::Bs):=by
 obtain⟨Cs,hc⟩:=r;exact⟨Cs,h.perm.trans (List.Perm.cons _ hc)⟩
theorem HS.ent{w0 w:World}{M:List Nat}{As Bs:List HA}(he:Ent As Bs)(h:HS w0 M As w):HS w0 M Bs w:=by
 obtain⟨Cs,hc⟩:=he;exact(h.perm hc).sub (List.sublist_append_left _ _)
theorem Qfh{P:Program}{b:Nat}{t:TypeId}{tot:Nat}:∀(vs:List Value)(cs:List Value)(w:World),Xc b t tot cs w->cs.length+vs.length<=tot->(∀v∈vs,v.oneCell'=true)->∀(o j:Nat),o+j=cs.length ->
  ∃w',(storeCells ⟨b,o,none⟩ vs j).run P w=.ok () w'/\Xc b t tot (cs++vs) w'/\w'.os=w.os/\w'.tape=w.tape/\w'.output=w.output/\w'.heap.size=w.heap.size/\∀k,k≠b->w'.heap[k]?=w.heap[k]?
 | [],cs,w,h,_,_,o,j,_=>⟨w,rfl,by simpa using h,rfl,rfl,rfl,rfl,λ_ _=>rfl⟩
 | v::vs,cs,w,h,hl,h1,o,j,hj=>by
  simp only[List.length_cons]at hl;obtain⟨u,hu⟩:=h.cellsome (i:=cs.length) om;have hf:=h.frozen (i:=cs.length) om
  have hst:(store ((⟨b,o,none⟩:Addr).add j) v).run P w=.ok () (w.setCell ⟨b,cs.length,none⟩ v):=by
   rw[XG,hj,run_store P w _ v _ (h1 v (List.mem_cons_self ..)),hu];simp[hf]
  have h2:Xc b t tot (cs++[v]) (w.setCell ⟨b,cs.length,none⟩ v):=by
   obtain⟨cur,fr,e1,e2,e3,e4,e5⟩:=h;refine⟨cur.setIfInBounds cs.length v,fr,by simp[World.setCell,Array.getElem?_modify,e1],by simpa using e2,by simp;omega,λi hi=>?_,by simpa using e5⟩;simp only[List.length_append,List.length_cons,List.length_nil]at hi;rw[Array.getElem?_setIfInBounds]
   by_cases e:cs.length=i
   ·subst e;rw[if_pos rfl,if_pos om];simp
   ·rw[if_neg e,e4 i om,List.getElem?_append_left om]
  obtain⟨w',hr,hb,r1,r2,r3,r4,r5⟩:=Qfh (P:=P) vs (cs++[v]) _ h2 (by simp;omega) (λv hv=>h1 v (List.mem_cons_of_mem _ hv)) o (j+1) (by simp;omega);refine⟨w',?_,by simpa using hb,by rw[r1];rfl,by rw[r2];rfl,by rw[r3];rfl,by rw[r4];simp,λk hk=>(r5 k hk).trans (QaU w b _ v k hk)⟩;rw[storeCells];simp only[Sem.run_bind,hst,Result.andThen_ok,hr]
def Src(a:Option Addr)(news:List Value)(w:World):Prop:=news≠[]->∃b i,a=some ⟨b,i,none⟩/\∀j u,news[j]?=some u->w.cell? ⟨b,i+j,none⟩=some u
theorem YR{P:Program}{sz m c:Nat}{a:Option Addr}{news:List Value}{w:World}(hl:news.length=m*sz)(h:Src a news w):(Builtin.firstCells sz m (.slice a m c)).run P w=.ok news.toArray w:=by
 cases news with
 | nil=>
  cases a with
  | none=>simp[Builtin.firstCells]
  | some ad=>exact run_firstCells_some w sz m ad m c [] hl (λj v hv=>by simp at hv)
 | cons u us=>
  obtain⟨b,i,rfl,h2⟩:=h (by simp);exact run_firstCells_some w sz m ⟨b,i,none⟩ m c _ hl (λj v hv=>by rw[XG];exact h2 j v hv)
theorem QmD{P:Program}{t xt ty e n m cap:Nat}{inf:TypeInfo}{zv x:Value}{a:Option Addr}{olds news:List Value}{w:World}(hu:P.underlying t=some (.slice e))(hxt:P.underlying xt=some .string\/∃e',P.underlying xt=some (.slice e'))(hi:P.info? e=some inf)(hz:inf.zero=some zv)
  (hlen:(Builtin.lenOf x).run P w=.ok m w)(hfc:(Builtin.firstCells inf.size m x).run P w.drew=.ok news.toArray w.drew)(hfo:(Builtin.firstCells inf.size n (.slice a n cap)).run P w.drew=.ok olds.toArray w.drew)
  (hg:cap<n+m)(h63:((n+m:Nat):Int)<=9223372036854775807)(hfit:Builtin.nextslicecap (n+m) cap*inf.bytes<=281474976710656) :
  (Builtin.append_ #[t,xt] ty #[.slice a n cap,x]).run P w=.ok (.slice (some ⟨w.heap.size,0,none⟩) (n+m) (grownCap w (n+m) cap e)) (w.drew.alloc (.cells (olds.toArray++news.toArray++Builtin.zeroCells zv.cells (grownCap w (n+m) cap e-(n+m))) e)):=by
 have hn:¬(n+m<=cap):=om
 have h63':¬(9223372036854775807<((n:Int)+(m:Int))):=om
 have h48':¬(281474976710656<Builtin.nextslicecap (n+m) cap*inf.bytes):=om
 rcases hxt with hxd|⟨e',hxd⟩
 ·simp[Builtin.append_,run_underlying hu,run_underlying hxd,Go.sizeOf,typeInfo,zeroValue,hi,hz,hlen,hn,h63',h48',Question.forced,hfc,hfo,newRow,grownCap];congr 2;apply Array.ext';simp[List.append_assoc]
 ·simp[Builtin.append_,run_underlying hu,run_underlying hxd,Go.sizeOf,typeInfo,zeroValue,hi,hz,hlen,hn,h63',h48',Question.forced,hfc,hfo,newRow,grownCap];congr 2;apply Array.ext';simp[List.append_assoc]
theorem QlM{P:Program}{t xt ty e n m cap g:Nat}{inf:TypeInfo}{x:Value}{news:List Value}{w w':World}(hu:P.underlying t=some (.slice e))(hxt:P.underlying xt=some .string\/∃e',P.underlying xt=some (.slice e'))(hi:P.info? e=some inf)
  (hlen:(Builtin.lenOf x).run P w=.ok m w)(hfc:(Builtin.firstCells inf.size m x).run P w=.ok news.toArray w)(hst:(storeCells ((⟨g,0,none⟩:Addr).add (n*inf.size)) news).run P w=.ok () w')
  (hg:n+m<=cap) :
  (Builtin.append_ #[t,xt] ty #[.slice (some ⟨g,0,none⟩) n cap,x]).run P w=.ok (.slice (some ⟨g,0,none⟩) (n+m) cap) w':=by
 rcases hxt with hxd|⟨e',hxd⟩
 ·simp[Builtin.append_,run_underlying hu,run_underlying hxd,Go.sizeOf,typeInfo,hi,hlen,hg,hfc,hst]
 ·simp[Builtin.append_,run_underlying hu,run_underlying hxd,Go.sizeOf,typeInfo,hi,hlen,hg,hfc,hst]
theorem QmY{P:Program}{t xt ty e:Nat}{inf:TypeInfo}{x:Value}{w:World}(hu:P.underlying t=some (.slice e))(hxt:P.underlying xt=some .string\/∃e',P.underlying xt=some (.slice e'))(hi:P.info? e=some inf)
  (hlen:(Builtin.lenOf x).run P w=.ok 0 w)(hfc:(Builtin.firstCells inf.size 0 x).run P w=.ok #[] w) :
  (Builtin.append_ #[t,xt] ty #[.slice none 0 0,x]).run P w=.ok (.slice none 0 0) w:=by
 rcases hxt with hxd|⟨e',hxd⟩
 ·simp[Builtin.append_,run_underlying hu,run_underlying hxd,Go.sizeOf,typeInfo,hi,hlen,hfc]
 ·simp[Builtin.append_,run_underlying hu,run_underlying hxd,Go.sizeOf,typeInfo,hi,hlen,hfc]
theorem Qfu{P:Program}{t xt ty e sz by' n m:Nat}{v x:Value}{z xs news:List Value}{w w0:World}{M:List Nat}{As As':List HA}(ht:tsl P t=some (e,sz,by'))(hxt:P.underlying xt=some .string\/∃e',P.underlying xt=some (.slice e'))(hz:Xs P e=some z)(hzs:z.length=sz)
  (hw:HS w0 M As w)(hp:Qv As (.own v e sz n xs) As')(hlen:(Builtin.lenOf x).run P w=.ok m w)(hfc:(Builtin.firstCells sz m x).run P w=.ok news.toArray w)(hfc':(Builtin.firstCells sz m x).run P w.drew=.ok news.toArray w.drew)(hl:news.length=m*sz)(h1:∀u∈news,u.oneCell'=true)
  (hroom:(n+m)*by'<=140737488355328)(hmax:n+m<=maxLen) :
  ∃v' w',(Builtin.append_ #[t,xt] ty #[v,x]).run P w=.ok v' w'/\HS w0 M (.own v' e sz (n+m) (xs++news)::As') w':=by
 obtain⟨hu,inf,hi,hs1,hs2⟩:=XZ ht;obtain⟨inf',zv,h4,h5,h6⟩:=Y2 hz;rw[hi]at h4;injection h4 with h4
 subst h4;subst hs1;subst hs2;have hpk:=hw.pick hp;obtain⟨hxl,hown⟩:=hpk.head;have hlx:(xs++news).length=(n+m)*inf.size:=by rw[List.length_append,hxl,hl,Nat.add_mul]
 have hmx:((n+m:Nat):Int)<=9223372036854775807:=by simp only[maxLen]at hmax;omega
 have grow:∀(a:Option Addr)(cap:Nat),v=.slice a n cap->cap<n+m->(Builtin.firstCells inf.size n (.slice a n cap)).run P w.drew=.ok xs.toArray w.drew ->
   ∃v' w',(Builtin.append_ #[t,xt] ty #[v,x]).run P w=.ok v' w'/\HS w0 M (.own v' e inf.size (n+m) (xs++news)::As') w':=by
  intro a cap hv hcap hold;subst hv;have hfit:=growslice_fits hcap hroom;have hge:=grownCap_ge w (n+m) cap e;have hle:=grownCap_le_maxLen w (n+m) cap e hmax;refine⟨_,_,QmD hu hxt hi h5 hlen hfc' hold hcap hmx hfit,?_⟩;generalize grownCap w (n+m) cap e=N at *;refine((hw.drew.pick hp).tail).alloc _ _ rfl ⟨hlx,.inr ⟨_,N,rfl,hge,hle,_,_,heap_alloc_new _ _,?_,?_,λi hi=>?_,Nat.le_refl _,λ_ _ h=>absurd h (Nat.not_lt_zero _)⟩⟩
  ·refine Nat.le_of_eq (Eq.symm ?_);simp only[Array.size_append,List.size_toArray,size_zeroCells];have hzl:zv.cells.size=inf.size:=by rw[<-hzs,<-h6];simp
   rw[hzl,hxl,hl,<-Nat.add_mul,<-Nat.add_mul];congr 1;omega
  ·rw[hlx];exact Nat.mul_le_mul_right _ hge
  ·rw[Array.getElem?_append_left (by simpa using hi)];simp
 rcases hown with⟨rfl,rfl⟩|⟨g,cap,rfl,hnc,hcm,hblk⟩
 ·have hx0:xs=[]:=List.eq_nil_of_length_eq_zero (by simpa using hxl);subst hx0;rcases Nat.eq_zero_or_pos m with rfl|hm
  ·have hn0:news=[]:=List.eq_nil_of_length_eq_zero (by simpa using hl);subst hn0;exact⟨.slice none 0 0,w,QmY hu hxt hi hlen hfc,by simpa using hpk⟩
  ·exact grow none 0 rfl om (by simp[Builtin.firstCells])
 ·by_cases hr:n+m<=cap
  ·obtain⟨w',hst,hb,r1,r2,r3,r4,r5⟩:=Qfh (P:=P) news xs w hblk (by rw[hxl,hl,<-Nat.add_mul];exact Nat.mul_le_mul_right _ hr) h1 (n*inf.size) 0 om;refine⟨_,w',QlM hu hxt hi hlen hfc (by rw[XG,Nat.zero_add];exact hst) hr,HS.swap hpk (B:=.own (.slice (some ⟨g,0,none⟩) (n+m) cap) e inf.size (n+m) (xs++news)) (λ_ h=>h) r1 r2 r3 r4 (λk hk=>r5 k (by simpa[HA.fp_own,HA.fp_blk,Value.ownBlock]using hk)) ⟨hlx,.inr ⟨g,cap,rfl,hr,hcm,hb⟩⟩⟩
  ·refine grow _ cap rfl om ?_
   exact YR (w:=w.drew) hxl λ_=>⟨g,0,rfl,λj u hu=>by
    have:=hblk.cell hu
    simpa using this⟩
section
variable{P:Program}{o:Oper}{L:Qe}{w0:World}{M:List Nat}{As As':List HA}
theorem Qlw{t xt e e' sz by' n m c:Nat}{s x:Operand}{v:Value}{a:Option Addr}{z xs:List Value}(news:List Value)(ho:o.op=.call {callee:=.builtin .append,args:=#[s,x],argTypes:=#[t,xt]})(hs:ev L s=some v)(hx:ev L x=some (.slice a m c))(ht:tsl P t=some (e,sz,by'))(hxt:P.underlying xt=some (.slice e'))(hz:Xs P e=some z)(hzs:z.length=sz)
  (hp:Qv As (.own v e sz n xs) As')(hsrc:∀w,HS w0 M As w->Src a news w)(hl:news.length=m*sz)(h1:∀u∈news,u.oneCell'=true)(hroom:(n+m)*by'<=140737488355328)(hmax:n+m<=maxLen) :
  OpH P o L (HS w0 M As) (λv':Value=>v') (λ_=>True) (λv'=>HS w0 M (.own v' e sz (n+m) (xs++news)::As')):=by
 intro ρ w hρ hw;obtain⟨v',w',hr,hw'⟩:=Qfu (P:=P) (ty:=o.type) ht (.inr ⟨e',hxt⟩) hz hzs hw hp (x:=.slice a m c) rfl (YR hl (hsrc w hw)) (YR (w:=w.drew) hl (hsrc w hw)) hl h1 hroom hmax;simp only[execOp,ho,resolve,Sem.run_bind,Sem.run_pure,Result.andThen_ok,invoke,builtin,List.map_toArray,List.map_cons,List.map_nil,hρ _ _ hs,hρ _ _ hx,hr];exact⟨v',rfl,trivial,hw'⟩
theorem Qgz{t xt e by' n:Nat}{s x:Operand}{v:Value}{z xs:List Value}{l:List UInt8}(ho:o.op=.call {callee:=.builtin .append,args:=#[s,x],argTypes:=#[t,xt]})(hs:ev L s=some v)(hx:ev L x=some (.string (bs l)))(ht:tsl P t=some (e,1,by'))(hxt:P.underlying xt=some .string)(hz:Xs P e=some z)(hzs:z.length=1)
  (hp:Qv As (.own v e 1 n xs) As')(hroom:(n+l.length)*by'<=140737488355328)(hmax:n+l.length<=maxLen) :
  OpH P o L (HS w0 M As) (λv':Value=>v') (λ_=>True) (λv'=>HS w0 M (.own v' e 1 (n+l.length) (xs++l.map λb=>.int .u8 (b.toNat:Int))::As')):=by
 intro ρ w hρ hw
 have hfc:∀w,(Builtin.firstCells 1 l.length (.string (bs l))).run P w=.ok (l.map λb=>Value.int .u8 (b.toNat:Int)).toArray w:=λw=>by
  have hx:(bs l).extract 0 l.length=bs l:=(QmQ _).trans (congrArg bs (by rw[Lib.extract_data];simp));simp only[Builtin.firstCells,hx,Sem.run_pure];congr 1;simp[bs]
 obtain⟨v',w',hr,hw'⟩:=Qfu (P:=P) (ty:=o.type) ht (.inl hxt) hz hzs hw hp (x:=.string (bs l)) rfl (hfc _) (hfc _) (by simp) (λu hu=>by
  obtain⟨b,_,rfl⟩:=List.mem_map.1 hu;rfl) hroom hmax
 simp only[execOp,ho,resolve,Sem.run_bind,Sem.run_pure,Result.andThen_ok,invoke,builtin,List.map_toArray,List.map_cons,List.map_nil,hρ _ _ hs,hρ _ _ hx,hr];exact⟨v',rfl,trivial,hw'⟩
theorem QZ{b tot:Nat}{bt:TypeId}{cs:List Value}(hp:Qv As (.blk b bt tot cs) As'):∀w,HS w0 M As w->Src (some ⟨b,0,none⟩) cs w:=
 λ_ hw _=>⟨b,0,rfl,λj u hu=>by simpa using(hw.blk_get hp).cell hu⟩
theorem XI{c x y:Operand}{b:Bool}{v:Value}(ho:o.op=.pick c x y)(hc:ev L c=some (.bool b))(hb:b=true)(hx:ev L x=some v):OpP P o L v:=by
 intro ρ w hρ;subst hb;simp[execOp,ho,hρ _ _ hc,asBool,hρ _ _ hx]
theorem Q8{c x y:Operand}{b:Bool}{v:Value}(ho:o.op=.pick c x y)(hc:ev L c=some (.bool b))(hb:b=false)(hy:ev L y=some v):OpP P o L v:=by
 intro ρ w hρ;subst hb;simp[execOp,ho,hρ _ _ hc,asBool,hρ _ _ hy]
end
theorem Qh8{e:Int}(h1: -9223372036854775808<=e)(h2:e<=9223372036854775807):Value.int .i64 (IntKind.i64.wrap e)=Value.int .i64 e:=by rw[IntWalk.i64_in _ ⟨h1,h2⟩]
def Z9:List Nat->Qe->Qe
 | _,[]=>[]
 | md,(k,v)::r=>bif md.any (Nat.beq k)then Z9 md r else(k,v)::Z9 (k::md) r
def Qmi(n:Nat)(df:List Nat){α:Type}(LJ:α->Qe)(CJ:α->World->Prop)(I:α->Prop)(m:α->Nat)(x:α)(a:Act)(w:World):Prop:=∃y,m y<m x/\I y/\FR n df (LJ y) a/\CJ y w
section
variable{X:Ctx}{k:List KI}{L:Qe}{C:World->Prop}
theorem Qt{α:Type}{c:Code}(md:List Nat)(Lm:α->Qe)(CJ:α->World->Prop)(I:α->Prop)(m:α->Nat)(x0:α)(hI:I x0)(hL:QaX L (Lm x0++Z9 md L))(hC:∀w,C w->CJ x0 w)
  (h:∀x,I x->S X (.c c::.join (Qmi X.n X.df (λx=>Lm x++Z9 md L) CJ I m x)::k) (Lm x++Z9 md L) (CJ x)):S X (.c (.loop c)::k) L C:=by
 refine QqZ (α:={x:α // I x}) (λx=>Lm x.1++Z9 md L) (λx=>CJ x.1) (λx=>m x.1) ⟨x0,hI⟩ hL hC λx=>?_;intro a w ha hw;refine wpIn_mono (h x.1 x.2 a w ha hw) λe a w he=>?_;cases e with
 | normal=>
  obtain⟨y,hm,hy,hf,hc⟩:=he;exact⟨⟨y,hy⟩,hm,hf,hc⟩
 | _=>exact he
theorem QQ{α:Type}{LJ:α->Qe}{CJ:α->World->Prop}{I:α->Prop}{m:α->Nat}{x:α}(y:α)(hm:m y<m x)(hI:I y)(hL:QaX L (LJ y))(hC:∀w,C w->CJ y w):S X (.join (Qmi X.n X.df LJ CJ I m x)::k) L C:=
 λ_ w ha hw=>⟨y,hm,hI,ha.sub hL.all,hC w hw⟩
def AtI(n:Nat)(df:List Nat){α:Type}(LJ:α->Qe)(CJ:α->World->Prop)(I:α->Prop)(a:Act)(w:World):Prop:=∃x,I x/\FR n df (LJ x) a/\CJ x w
theorem Xv{α:Type}{c:Code}(md:List Nat)(Lm:α->Qe)(CJ:α->World->Prop)(I:α->Prop)(h1:S X (.c c::.join (AtI X.n X.df (λx=>Lm x++Z9 md L) CJ I)::k) L C)(h2:∀x,I x->S X k (Lm x++Z9 md L) (CJ x)):S X (.c c::k) L C:=by
 intro a w ha hw;refine wpIn_mono (h1 a w ha hw) λe a w he=>?_;cases e with
 | normal=>obtain⟨x,hx,hf,hc⟩:=he;exact h2 x hx a w hf hc
 | _=>exact he
theorem Qn{α:Type}{LJ:α->Qe}{CJ:α->World->Prop}{I:α->Prop}(x:α)(hI:I x)(hL:QaX L (LJ x))(hC:∀w,C w->CJ x w):S X (.join (AtI X.n X.df LJ CJ I)::k) L C:=
 λ_ w ha hw=>⟨x,hI,ha.sub hL.all,hC w hw⟩
end
def YD(P:Program)(ops:Array Oper)(i:Nat)(a:Act)(C:World->Prop)(K:Act->(World->Prop)->Prop):Prop:=
 match ops[i]? with
 | none=>K a C
 | some o=>if Region.wanted o (yielded ops a.tmps)then
   ∃(G:Type)(V:G->Value)(F:G->Prop)(C':G->World->Prop),(∀w,C w->Res P (λu w'=>∃g,u=V g/\F g/\C' g w') ((execOp a.eval o).run P w))/\∀g,F g->K (a.put o.dst (V g)) (C' g)
  else K (a.put o.dst undef) C
def QhH(F:List Nat)(B:World->Prop)(listed:Array Bool)(C:World->Prop):Prop:=(∀f∈F,listed.getD f false=false)->(∀w,C w->B w)/\QiW C
def WG(P:Program)(ops:Array Oper)(Q:Act->World->Prop)(F:List Nat)(B:World->Prop):Nat->Array Bool->Act->(World->Prop)->Prop
 | 0,listed,a,C=>QhH F B listed C/\Region.ready .any ops listed=[]/\∀w,C w->Q a w
 | fuel+1,listed,a,C=>QhH F B listed C/\(Region.ready .any ops listed=[]->∀w,C w->Q a w) /\
   ∀i∈Region.ready .any ops listed,YD P ops i a C λa' C'=>WG P ops Q F B fuel (listed.setIfInBounds i true) a' C'
section
variable{P:Program}{ops:Array Oper}{Q:Act->World->Prop}{F:List Nat}{B:World->Prop}
theorem YD.mono{i:Nat}{a:Act}{C:World->Prop}{K K':Act->(World->Prop)->Prop}(h:∀a C,K a C->K' a C)(hs:YD P ops i a C K):YD P ops i a C K':=by
 unfold YD at *;split
 ·grind
 ·rename_i o ho;simp only[ho]at hs;split
  ·rename_i hw;simp only[hw,if_true]at hs;obtain⟨G,V,Fg,C',h1,h2⟩:=hs;exact⟨G,V,Fg,C',h1,λg hg=>h _ _ (h2 g hg)⟩
  grind
theorem WG.good:∀{fuel:Nat}{listed:Array Bool}{a:Act}{C:World->Prop},WG P ops Q F B fuel listed a C->QhH F B listed C
 | 0,_,_,_,h=>h.1
 | _+1,_,_,_,h=>h.1
theorem Zc{r:Option Nat}{Q':Exit->Act->World->Prop}(hQ:∀a w,Q a w->Q' .normal a w):∀(fuel:Nat)(listed:Array Bool)(a:Act)(C:World->Prop)(w:World),C w->WG P ops Q F B fuel listed a C->wpAnyIn {Fence.wide with round:=r} 0 P .any ops Q' fuel listed a w
 | 0,_,_,_,_,hw,h=>⟨h.2.1,hQ _ _ (h.2.2 _ hw)⟩
 | fuel+1,listed,a,C,w,hw,h=>⟨λh0=>hQ _ _ (h.2.1 h0 _ hw),λi hi=>by
   have hs:=h.2.2 i hi;unfold YD at hs;unfold wpOpIn;split
   ·rename_i ho;simp only[ho]at hs;exact Zc hQ fuel _ _ _ _ hw hs
   ·rename_i o ho;simp only[ho]at hs;split
    ·rename_i hw';simp only[hw',if_true]at hs;obtain⟨G,V,Fg,C',h1,h2⟩:=hs;exact Qb0 (h1 w hw) λv w'⟨g,hv,hf,hc⟩=>by subst hv;exact Zc hQ fuel _ _ _ _ hc (h2 g hf)
    ·rename_i hw';simp only[hw']at hs;exact⟨λ_ _=>trivial,Zc hQ fuel _ _ _ _ hw hs⟩⟩
def Qnp(ops:Array Oper)(x y:Nat):Bool:=match ops[x]? with
 | some o=>o.after.any λe=>Region.binds .any e&&Nat.beq e.on y
 | none=>false
def QdU(ops:Array Oper):Nat->List Nat->Nat->Bool
 | x,[],y=>Qnp ops x y
 | x,p::ps,y=>Qnp ops x p&&QdU ops p ps y
def Qa4(ops:Array Oper)(listed:Array Bool):Prop:=∀x y,Qnp ops x y=true->listed.getD x false=true->listed.getD y false=true
theorem Qcm{j y:Nat}{listed:Array Bool}(hj:j∈Region.ready .any ops listed)(he:Qnp ops j y=true):listed.getD y false=true:=by
 obtain⟨_,oj,hoj,hall⟩:=mem_ready.1 hj;unfold Qnp at he;simp only[hoj]at he;obtain⟨e,he1,hb⟩:=Array.any_eq_true'.1 he;simp only[Bool.and_eq_true]at hb;have:=Nat.eq_of_beq_eq_true hb.2
 grind
theorem Qdc{listed:Array Bool}(hc:Qa4 ops listed):∀{ps:List Nat}{x y:Nat},QdU ops x ps y=true->listed.getD x false=true->listed.getD y false=true
 | [],_,_,h,hx=>hc _ _ h hx
 | p::ps,x,y,h,hx=>by
  simp only[QdU,Bool.and_eq_true]at h;exact Qdc hc h.2 (hc _ _ h.1 hx)
theorem Qhv{listed:Array Bool}(hc:Qa4 ops listed):∀{ps:List Nat}{x y:Nat},QdU ops x ps y=true->x∈Region.ready .any ops listed->listed.getD y false=true
 | [],_,_,h,hx=>Qcm hx h
 | p::ps,x,y,h,hx=>by grind[QdU,Qdc,Qcm]
theorem ZH{listed:Array Bool}{i j:Nat}(h:listed.getD j false=true):(listed.setIfInBounds i true).getD j false=true:=by
 by_cases e:i=j
 ·subst e;rcases Nat.lt_or_ge i listed.size with h'|h'<;>simp_all
 simp_all
theorem Qa4.set{listed:Array Bool}{j:Nat}(hc:Qa4 ops listed)(hj:j∈Region.ready .any ops listed):Qa4 ops (listed.setIfInBounds j true):=by
 intro x y he hx
 by_cases e:j=x
 ·grind[ZH,Qcm]
 ·rw[getD_set_ne false e]at hx;exact ZH (hc x y he hx)
theorem QdH{j:Nat}{listed:Array Bool}(hj:j∈Region.ready .any ops listed):listed.getD j true=false:=(mem_ready.1 hj).1
theorem X6{listed:Array Bool}{j:Nat}(h:listed.getD j true=false):listed.getD j false=false:=by grind
def QbV(P:Program)(ops:Array Oper)(B:World->Prop)(o:Oper)(v:Value)(a:Act):Prop:=
 (Region.wanted o (yielded ops a.tmps)=true/\∀w,B w->Res P (λu w'=>u=v/\Below w.heap.size w w') ((execOp a.eval o).run P w)) \/
 (Region.wanted o (yielded ops a.tmps)=false/\v=undef)
theorem QbV.of_same{o:Oper}{v:Value}{a a':Act}(hy:QbV P ops B o v a)(he:execOp a'.eval o=execOp a.eval o)(hw:Region.wanted o (yielded ops a'.tmps)=Region.wanted o (yielded ops a.tmps)):QbV P ops B o v a':=by grind[QbV]
def QbM(P:Program)(ops:Array Oper)(o:Oper)(v:Value)(a:Act):Prop:=
 (Region.wanted o (yielded ops a.tmps)=true/\∀w,(execOp a.eval o).run P w=.ok (.value v) w) \/
 (Region.wanted o (yielded ops a.tmps)=false/\v=undef)
theorem QbM.of_same{o:Oper}{v:Value}{a a':Act}(hy:QbM P ops o v a)(he:execOp a'.eval o=execOp a.eval o)(hw:Region.wanted o (yielded ops a'.tmps)=Region.wanted o (yielded ops a.tmps)):QbM P ops o v a':=by grind[QbM]
theorem Qf8{j:Nat}{oi oj:Oper}{v:Value}(hj:ops[j]?=some oj)(hap:oi.apart ops oj=true)(hsj:∀cs b,oj.op≠ .select cs b){K:Act->(World->Prop)->Prop}{a:Act}{C:World->Prop}
  (h:YD P ops j (a.put oi.dst v) C K):YD P ops j a C λa' C'=>∃u,a'=a.put oj.dst u/\K (a'.put oi.dst v) C':=by
 obtain⟨h1,h2,h3⟩:=Oper.apart_spec hap;unfold YD at *;simp only[hj]at *;rw[wanted_put oj a oi.dst v h1]at h;split
 ·rename_i hw;simp only[hw,if_true]at h;obtain⟨G,V,Fg,C',e1,e2⟩:=h;rw[execOp_put oj hsj a oi.dst v h1]at e1;exact⟨G,V,Fg,C',e1,λg hg=>⟨V g,rfl,by rw[<-Act.put_comm a v _ h2];exact e2 g hg⟩⟩
 ·rename_i hw;simp only[hw]at h;exact⟨undef,rfl,by rw[<-Act.put_comm a v undef h2];exact h⟩
theorem Qh4{i:Nat}{oi:Oper}{v:Value}(hi:ops[i]?=some oi)(hiF:i ∉ F)(hsel:∀(j:Nat)(o:Oper)cs b,ops[j]?=some o->o.op≠ .select cs b)(hwait:∀f∈F,∃ps,QdU ops f ps i=true) :
  ∀(fuel:Nat)(listed:Array Bool)(a:Act)(C:World->Prop),
   (∀j oj,ops[j]?=some oj->j≠i->listed.getD j true=false->(∀e∈oj.after,Region.binds .any e=true->e.on≠i)->oi.apart ops oj=true) ->
   Qa4 ops listed->(∀f∈F,listed.getD f false=false)->i∈Region.ready .any ops listed->QbV P ops B oi v a ->
   WG P ops Q F B fuel (listed.setIfInBounds i true) (a.put oi.dst v) C->WG P ops Q F B (fuel+1) listed a C:=by
 have hgood:∀{listed:Array Bool}{C:World->Prop},QhH F B (listed.setIfInBounds i true) C->QhH F B listed C:=λ{listed C}hg hf=>hg λf hfF=>by
  rw[getD_set_ne false (λe=>hiF (by rw[e];exact hfF))];exact hf f hfF
 have here:∀(fuel:Nat)(listed:Array Bool)(a:Act)(C:World->Prop),(∀f∈F,listed.getD f false=false)->QbV P ops B oi v a->WG P ops Q F B fuel (listed.setIfInBounds i true) (a.put oi.dst v) C ->
   YD P ops i a C λa' C'=>WG P ops Q F B fuel (listed.setIfInBounds i true) a' C':=by
  intro fuel listed a C hF hy H;obtain⟨hCB,hst⟩:=hgood H.good hF;unfold YD;simp only[hi];rcases hy with⟨hw,hr⟩|⟨hw,rfl⟩
  ·rw[if_pos hw];exact⟨Unit,λ_=>v,λ_=>True,λ_=>C,λw hc=>(hr w (hCB w hc)).mono λu w'⟨h1,h2⟩=>⟨(),h1,trivial,hst w w' hc h2⟩,λ_ _=>H⟩
  ·rw[if_neg (by rw[hw];simp)];exact H
 intro fuel
 induction fuel with
 | zero=>
  intro listed a C _ _ hF hr hy H;refine⟨hgood H.good,λh=>(by rw[h]at hr;cases hr),λj hj=>?_⟩
  by_cases hji:j=i
  ·subst hji;exact here 0 listed a C hF hy H
  ·have:=ready_mono hj hji;rw[H.2.1]at this;cases this
 | succ fuel ih=>
  intro listed a C hfree hcl hF hr hy H;refine⟨hgood H.good,λh=>(by rw[h]at hr;cases hr),λj hj=>?_⟩
  by_cases hji:j=i
  ·subst hji;exact here _ listed a C hF hy H
  ·have hjF:j ∉ F:=λhjF=>by
    obtain⟨ps,hps⟩:=hwait j hjF;have h1:=Qhv hcl hps hj;rw[X6 (QdH hr)]at h1;cases h1
   have h1:=H.2.2 j (ready_mono hj hji);obtain⟨hjun,oj,hoj,hall⟩:=mem_ready.1 hj
   have hnot:∀e∈oj.after,Region.binds .any e=true->e.on≠i:=λe he hb heq=>by
    have h1:=hall e he hb;have h0:=X6 (QdH hr);rw[heq,h0]at h1;cases h1
   have hap:=hfree j oj hoj hji hjun hnot;have h2:=Qf8 hoj hap (λcs b=>hsel j oj cs b hoj) h1;obtain⟨_,_,h3⟩:=Oper.apart_spec hap;refine YD.mono (λa' C'⟨u,hu,hK⟩=>?_) h2;subst hu
   have hfree':∀k ok,ops[k]?=some ok->k≠i->(listed.setIfInBounds j true).getD k true=false ->
     (∀e∈ok.after,Region.binds .any e=true->e.on≠i)->oi.apart ops ok=true:=λk ok hk hki hun hno=>by
    refine hfree k ok hk hki ?_ hno
    by_cases hjk:j=k
    ·subst hjk;exact hjun
    ·rw[getD_set_ne true hjk]at hun;exact hun
   refine ih (listed.setIfInBounds j true) _ C' hfree' (hcl.set hj) (λf hf=>?_) (ready_mono hr (Ne.symm hji)) (hy.of_same (execOp_put oi (λcs b=>hsel i oi cs b hi) a oj.dst u h3) (wanted_put oi a oj.dst u h3)) ?_
   ·rw[getD_set_ne false (λe=>hjF (by rw[e];exact hf))];exact hF f hf
   ·rw[Array.setIfInBounds_comm _ _ hji];exact hK
theorem QbQ{i:Nat}{oi:Oper}{v:Value}(hi:ops[i]?=some oi)(hiF:i ∉ F)(hsel:∀(j:Nat)(o:Oper)cs b,ops[j]?=some o->o.op≠ .select cs b) :
  ∀(fuel:Nat)(listed:Array Bool)(a:Act)(C:World->Prop),
   (∀j oj,ops[j]?=some oj->j≠i->listed.getD j true=false->(∀e∈oj.after,Region.binds .any e=true->e.on≠i)->oi.apart ops oj=true) ->
   i∈Region.ready .any ops listed->QbM P ops oi v a ->
   WG P ops Q F B fuel (listed.setIfInBounds i true) (a.put oi.dst v) C->WG P ops Q F B (fuel+1) listed a C:=by
 have hgood:∀{listed:Array Bool}{C:World->Prop},QhH F B (listed.setIfInBounds i true) C->QhH F B listed C:=λ{listed C}hg hf=>hg λf hfF=>by
  rw[getD_set_ne false (λe=>hiF (by rw[e];exact hfF))];exact hf f hfF
 have here:∀(fuel:Nat)(listed:Array Bool)(a:Act)(C:World->Prop),QbM P ops oi v a->WG P ops Q F B fuel (listed.setIfInBounds i true) (a.put oi.dst v) C ->
   YD P ops i a C λa' C'=>WG P ops Q F B fuel (listed.setIfInBounds i true) a' C':=by
  intro fuel listed a C hy H;unfold YD;simp only[hi];rcases hy with⟨hw,hr⟩|⟨hw,rfl⟩
  ·rw[if_pos hw];exact⟨Unit,λ_=>v,λ_=>True,λ_=>C,λw hc=>by rw[hr w];exact⟨(),rfl,trivial,hc⟩,λ_ _=>H⟩
  ·rw[if_neg (by rw[hw];simp)];exact H
 intro fuel
 induction fuel with
 | zero=>
  intro listed a C _ hr hy H;refine⟨hgood H.good,λh=>(by rw[h]at hr;cases hr),λj hj=>?_⟩
  by_cases hji:j=i
  ·subst hji;exact here 0 listed a C hy H
  ·have:=ready_mono hj hji;rw[H.2.1]at this;cases this
 | succ fuel ih=>
  intro listed a C hfree hr hy H;refine⟨hgood H.good,λh=>(by rw[h]at hr;cases hr),λj hj=>?_⟩
  by_cases hji:j=i
  ·subst hji;exact here _ listed a C hy H
  ·have h1:=H.2.2 j (ready_mono hj hji);obtain⟨hjun,oj,hoj,hall⟩:=mem_ready.1 hj
   have hnot:∀e∈oj.after,Region.binds .any e=true->e.on≠i:=λe he hb heq=>by
    have h1:=hall e he hb;have h0:=X6 (QdH hr);rw[heq,h0]at h1;cases h1
   have hap:=hfree j oj hoj hji hjun hnot;have h2:=Qf8 hoj hap (λcs b=>hsel j oj cs b hoj) h1;obtain⟨_,_,h3⟩:=Oper.apart_spec hap;refine YD.mono (λa' C'⟨u,hu,hK⟩=>?_) h2;subst hu
   have hfree':∀k ok,ops[k]?=some ok->k≠i->(listed.setIfInBounds j true).getD k true=false ->
     (∀e∈ok.after,Region.binds .any e=true->e.on≠i)->oi.apart ops ok=true:=λk ok hk hki hun hno=>by
    refine hfree k ok hk hki ?_ hno
    by_cases hjk:j=k
    ·subst hjk;exact hjun
    ·rw[getD_set_ne true hjk]at hun;exact hun
   refine ih (listed.setIfInBounds j true) _ C' hfree' (ready_mono hr (Ne.symm hji)) (hy.of_same (execOp_put oi (λcs b=>hsel i oi cs b hi) a oj.dst u h3) (wanted_put oi a oj.dst u h3)) ?_;rw[Array.setIfInBounds_comm _ _ hji];exact hK
theorem QkD{F':List Nat}{B':World->Prop}:∀{fuel:Nat}{listed:Array Bool}{a:Act}{C:World->Prop},(∃f∈F,listed.getD f false=true)->WG P ops Q F' B' fuel listed a C->WG P ops Q F B fuel listed a C
 | 0,_,_,_,⟨f,hf,hl⟩,h=>⟨λhg=>(by rw[hg f hf]at hl;cases hl),h.2⟩
 | _+1,_,_,_,⟨f,hf,hl⟩,h=>⟨λhg=>(by rw[hg f hf]at hl;cases hl),h.2.1,λi hi=>(h.2.2 i hi).mono λ_ _ h'=>QkD ⟨f,hf,ZH hl⟩ h'⟩
theorem Qke{B':World->Prop}(hB:∀w,B' w->B w):∀{fuel:Nat}{listed:Array Bool}{a:Act}{C:World->Prop},WG P ops Q F B' fuel listed a C->WG P ops Q F B fuel listed a C
 | 0,_,_,_,h=>⟨λhg=>⟨λw hw=>hB w ((h.1 hg).1 w hw),(h.1 hg).2⟩,h.2⟩
 | _+1,_,_,_,h=>⟨λhg=>⟨λw hw=>hB w ((h.1 hg).1 w hw),(h.1 hg).2⟩,h.2.1,λi hi=>(h.2.2 i hi).mono λ_ _ h'=>Qke hB h'⟩
theorem Qkk{fuel i:Nat}{listed:Array Bool}{a:Act}{C:World->Prop}(hr:Region.ready .any ops listed=[i])(hg:QhH F B listed C)(h:YD P ops i a C λa' C'=>WG P ops Q F B fuel (listed.setIfInBounds i true) a' C'):WG P ops Q F B (fuel+1) listed a C:=
 ⟨hg,λh0=>(by rw[hr]at h0;cases h0),λj hj=>by rw[hr]at hj;rcases List.mem_singleton.1 hj;exact h⟩
end
def D(X:Ctx)(ops:Array Oper)(F:List Nat)(B:World->Prop)(fuel:Nat)(listed:Array Bool)(k:List KI)(L:Qe)(C:World->Prop):Prop:=
 Qa4 ops listed->∀a,FR X.n X.df L a->WG X.P ops (λa w=>post X k .normal a w) F B fuel listed a C
def Xl(ops:Array Oper)(listed:Array Bool)(i:Nat):Bool:=
 (Region.ready .any ops listed).contains i&&Region.noSelect ops &&
 (List.range ops.size).all λj=>match ops[j]?,ops[i]? with
  | some oj,some oi=>Nat.beq j i||listed.getD j true||(oj.after.any λe=>Region.binds .any e&&Nat.beq e.on i)||oi.apart ops oj
  | _,_=>true
theorem Q6{ops:Array Oper}{listed:Array Bool}{i:Nat}(h:Xl ops listed i=true):i∈Region.ready .any ops listed:=by grind[Xl]
theorem YL{ops:Array Oper}{listed:Array Bool}{i:Nat}(h:Xl ops listed i=true):Region.noSelect ops=true:=by grind[Xl]
theorem Yn{ops:Array Oper}{listed:Array Bool}{i:Nat}{oi:Oper}(hi:ops[i]?=some oi)(h:Xl ops listed i=true):∀j oj,ops[j]?=some oj->j≠i->listed.getD j true=false->(∀e∈oj.after,Region.binds .any e=true->e.on≠i)->oi.apart ops oj=true:=by
 intro j oj hj hne hun hno;simp only[Xl,Bool.and_eq_true]at h;have hlt:j<ops.size:=by grind
 have h1:=List.all_eq_true.1 h.2 j (List.mem_range.2 hlt);simp only[hj,hi,Bool.or_eq_true]at h1;rcases h1 with((h1|h1)|h1)|h1
 ·simp_all
 ·grind
 ·obtain⟨e,he,hb⟩:=Array.any_eq_true'.1 h1;simp only[Bool.and_eq_true]at hb;exact absurd (Nat.eq_of_beq_eq_true hb.2) (hno e he hb.1)
 ·exact h1
def ZT(ops:Array Oper)(F:List Nat)(i:Nat)(ps:List (List Nat)):Bool:=
 F.all λf=>!Nat.beq f i&&ps.any λp=>QdU ops f p i
theorem Qcb{ops:Array Oper}{F:List Nat}{i:Nat}{ps:List (List Nat)}(h:ZT ops F i ps=true):i ∉ F/\∀f∈F,∃p,QdU ops f p i=true:=by
 have h1:=List.all_eq_true.1 h;refine⟨λhi=>?_,λf hf=>?_⟩
 ·have:=h1 i hi
  simp_all
 grind
def Qco(F:List Nat)(listed:Array Bool):Bool:=F.all λf=>!listed.getD f false
theorem QdV{F:List Nat}{listed:Array Bool}(h:Qco F listed=true):∀f∈F,listed.getD f false=false:=λf hf=>by
 have:=List.all_eq_true.1 h f hf
 simpa using this
section
variable{X:Ctx}{ops:Array Oper}{F:List Nat}{fuel i:Nat}{listed:Array Bool}{k:List KI}{L:Qe}{d ty:Nat}{op:Op}{pos:String}{aft:Array Edge}{w0:World}{M:List Nat}{As Bs:List HA}
theorem QdQ(ops:Array Oper)(n:Nat):Qa4 ops (Array.replicate n false):=λx y _ hx=>by
 simp only[Array.getD_eq_getD_getElem?,Array.getElem?_replicate]at hx
 grind
theorem Qp{id:Nat}{l:List Oper}(F:List Nat)(hm:X.P.follows .mixedOrders=true)(h:D X l.toArray F (HS w0 M As) l.length (Array.replicate l.length false) k L (HS w0 M As)):S X (.c (.region id l.toArray true)::k) L (HS w0 M As):=by
 intro a w ha hw;refine wpIn_region_any hm ?_;have:=h (QdQ _ _) a ha
 simpa using Zc (Q':=post X k) (λ_ _ h=>h) _ _ a (HS w0 M As) _ hw.drew this
theorem d_p{C:World->Prop}{B:World->Prop}{v:Value}(i:Nat)(hi:ops[i]?=some ⟨some d,op,ty,pos,aft,none⟩)(h:OpP X.P ⟨some d,op,ty,pos,aft,none⟩ L v)(hok:Xl ops listed i=true)(hF:F.all (λf=>!Nat.beq f i)=true)(hd:Nat.blt d X.n=true)
  (next:D X ops F B fuel (listed.setIfInBounds i true) k ((d,v)::L) C):D X ops F B (fuel+1) listed k L C:=by
 intro hcl a ha;refine QbQ hi (λhif=>?_) (Region.noSelect_spec (YL hok)) fuel listed a C (Yn hi hok) (Q6 hok) (.inl ⟨by simp[Region.wanted],λw=>h a.eval w ha.agr⟩) (next (hcl.set (Q6 hok)) _ (ha.put d v hd));have:=List.all_eq_true.1 hF i hif
 simp_all
theorem d_q{C:World->Prop}{v:Value}(i:Nat)(ps:List (List Nat))(hi:ops[i]?=some ⟨some d,op,ty,pos,aft,none⟩)(h:OpQ X.P ⟨some d,op,ty,pos,aft,none⟩ L (HS w0 M Bs) v)(hok:Xl ops listed i=true)(hF:ZT ops F i ps=true)(hn:Qco F listed=true)(hd:Nat.blt d X.n=true)
  (next:D X ops F (HS w0 M Bs) fuel (listed.setIfInBounds i true) k ((d,v)::L) C):D X ops F (HS w0 M Bs) (fuel+1) listed k L C:=by
 intro hcl a ha;have hw:=Qcb hF;exact Qh4 hi hw.1 (Region.noSelect_spec (YL hok)) hw.2 fuel listed a C (Yn hi hok) hcl (QdV hn) (Q6 hok) (.inl ⟨by simp[Region.wanted],λw hw=>h a.eval w ha.agr hw⟩) (next (hcl.set (Q6 hok)) _ (ha.put d v hd))
theorem d_h{B:World->Prop}{G:Type}{V:G->Value}{Fg:G->Prop}{C':G->World->Prop}(i:Nat)(hi:ops[i]?=some ⟨some d,op,ty,pos,aft,none⟩)(h:OpH X.P ⟨some d,op,ty,pos,aft,none⟩ L (HS w0 M As) V Fg C')(hr:(Region.ready .any ops listed==[i])=true)(hB:∀w,HS w0 M As w->B w)(hd:Nat.blt d X.n=true)
  (next:∀g,Fg g->D X ops F B fuel (listed.setIfInBounds i true) k ((d,V g)::L) (C' g)):D X ops F B (fuel+1) listed k L (HS w0 M As):=by
 intro hcl a ha;have hr':Region.ready .any ops listed=[i]:=by simpa using hr
 refine Qkk hr' (λ_=>⟨hB,HS.stab _ _ _⟩) ?_;unfold YD;simp only[hi];rw[if_pos (by simp[Region.wanted])];exact⟨G,V,Fg,C',λw hw=>h a.eval w ha.agr hw,λg hg=>next g hg (hcl.set (by rw[hr'];exact List.mem_singleton.2 rfl)) _ (ha.put d _ hd)⟩
theorem QoD{B:World->Prop}{G:Type}{V:G->Value}{Fg:G->Prop}{C':G->World->Prop}(i:Nat)(hi:ops[i]?=some ⟨none,op,ty,pos,aft,none⟩)(h:OpH X.P ⟨none,op,ty,pos,aft,none⟩ L (HS w0 M As) V Fg C')(hr:(Region.ready .any ops listed==[i])=true)(hB:∀w,HS w0 M As w->B w)
  (next:∀g,Fg g->D X ops F B fuel (listed.setIfInBounds i true) k L (C' g)):D X ops F B (fuel+1) listed k L (HS w0 M As):=by
 intro hcl a ha;have hr':Region.ready .any ops listed=[i]:=by simpa using hr
 refine Qkk hr' (λ_=>⟨hB,HS.stab _ _ _⟩) ?_;unfold YD;simp only[hi];rw[if_pos (by simp[Region.wanted])];exact⟨G,V,Fg,C',λw hw=>h a.eval w ha.agr hw,λg hg=>next g hg (hcl.set (by rw[hr'];exact List.mem_singleton.2 rfl)) a ha⟩
theorem Qrr{C:World->Prop}{B:World->Prop}{j:Nat}{want b:Bool}(i dj:Nat)(hi:ops[i]?=some ⟨some d,op,ty,pos,aft,some (j,want)⟩)(hj:(ops[j]?).bind (·.dst)=some dj)(hb:Qe.get L dj=some (.bool b))(hw:b= !want)(hok:Xl ops listed i=true)(hF:F.all (λf=>!Nat.beq f i)=true)(hd:Nat.blt d X.n=true)
  (next:D X ops F B fuel (listed.setIfInBounds i true) k ((d,undef)::L) C):D X ops F B (fuel+1) listed k L C:=by
 intro hcl a ha;have hy:yielded ops a.tmps j=some b:=by simp[yielded,hj,ha.slot _ _ hb]
 refine QbQ hi (λhif=>?_) (Region.noSelect_spec (YL hok)) fuel listed a C (Yn hi hok) (Q6 hok) (.inr ⟨by simp[Region.wanted,hy,hw],rfl⟩) (next (hcl.set (Q6 hok)) _ (ha.put d undef hd));have:=List.all_eq_true.1 hF i hif
 simp_all
theorem Qm2{C:World->Prop}{B:World->Prop}{v:Value}{j:Nat}{want b:Bool}(i dj:Nat)(hi:ops[i]?=some ⟨some d,op,ty,pos,aft,some (j,want)⟩)(hj:(ops[j]?).bind (·.dst)=some dj)(hb:Qe.get L dj=some (.bool b))(hw:b=want)(h:OpP X.P ⟨some d,op,ty,pos,aft,none⟩ L v)(hok:Xl ops listed i=true)(hF:F.all (λf=>!Nat.beq f i)=true)(hd:Nat.blt d X.n=true)
  (next:D X ops F B fuel (listed.setIfInBounds i true) k ((d,v)::L) C):D X ops F B (fuel+1) listed k L C:=by
 intro hcl a ha;have hy:yielded ops a.tmps j=some b:=by simp[yielded,hj,ha.slot _ _ hb]
 refine QbQ hi (λhif=>?_) (Region.noSelect_spec (YL hok)) fuel listed a C (Yn hi hok) (Q6 hok) (.inl ⟨by simp[Region.wanted,hy,hw],λw=>h a.eval w ha.agr⟩) (next (hcl.set (Q6 hok)) _ (ha.put d v hd));have:=List.all_eq_true.1 hF i hif
 simp_all
theorem QrH{C:World->Prop}{v:Value}{j:Nat}{want b:Bool}(i dj:Nat)(ps:List (List Nat))(hi:ops[i]?=some ⟨some d,op,ty,pos,aft,some (j,want)⟩)(hj:(ops[j]?).bind (·.dst)=some dj)(hb:Qe.get L dj=some (.bool b))(hw':b=want)(h:OpQ X.P ⟨some d,op,ty,pos,aft,none⟩ L (HS w0 M Bs) v)(hok:Xl ops listed i=true)(hF:ZT ops F i ps=true)(hn:Qco F listed=true)(hd:Nat.blt d X.n=true)
  (next:D X ops F (HS w0 M Bs) fuel (listed.setIfInBounds i true) k ((d,v)::L) C):D X ops F (HS w0 M Bs) (fuel+1) listed k L C:=by
 intro hcl a ha;have hy:yielded ops a.tmps j=some b:=by simp[yielded,hj,ha.slot _ _ hb]
 have hw:=Qcb hF;exact Qh4 hi hw.1 (Region.noSelect_spec (YL hok)) hw.2 fuel listed a C (Yn hi hok) hcl (QdV hn) (Q6 hok) (.inl ⟨by simp[Region.wanted,hy,hw'],λw hw=>h a.eval w ha.agr hw⟩) (next (hcl.set (Q6 hok)) _ (ha.put d v hd))
theorem Qp2{B:World->Prop}(hB:∀w,HS w0 M As w->B w)(next:D X ops F (HS w0 M As) fuel listed k L (HS w0 M As)):D X ops F B fuel listed k L (HS w0 M As):=
 λhcl a ha=>Qke hB (next hcl a ha)
theorem QqN{B:World->Prop}(F':List Nat)(hf:F.any (λf=>listed.getD f false)=true)(next:D X ops F' (HS w0 M As) fuel listed k L (HS w0 M As)):D X ops F B fuel listed k L (HS w0 M As):=
 λhcl a ha=>QkD (by obtain⟨f,h1,h2⟩:=List.any_eq_true.1 hf;exact⟨f,h1,h2⟩) (next hcl a ha)
theorem QrL{B:World->Prop}(hr:(Region.ready .any ops listed==[])=true)(hB:∀w,HS w0 M As w->B w)(h:S X k L (HS w0 M As)):D X ops F B 0 listed k L (HS w0 M As):=
 λ_ a ha=>⟨λ_=>⟨hB,HS.stab _ _ _⟩,by simpa using hr,λw hw=>h a w ha hw⟩
end
end Gx
namespace Gx
open Go Go.RowKit
section
variable{X:Ctx}{ops:Array Oper}{rest:List Oper}{k:List KI}{L:Qe}{d ty:Nat}{op:Op}{pos:String}{aft:Array Edge}{w0:World}{M:List Nat}{As As':List HA}
theorem o_p{C:World->Prop}{v:Value}(h:OpP X.P ⟨some d,op,ty,pos,aft,none⟩ L v)(hd:Nat.blt d X.n=true)(next:O X ops rest k ((d,v)::L) C):O X ops (⟨some d,op,ty,pos,aft,none⟩::rest) k L C:=by
 intro a w ha hw;refine wpListIn_plain rfl λK hK=>?_;exact Qb0 (Post:=λu w'=>u=v/\w'=w) (by rw[h a.eval w ha.agr];exact⟨rfl,rfl⟩) λu w'⟨h1,h2⟩=>by subst h1;subst h2;exact hK _ _ (next _ _ (ha.put d _ hd) hw)
theorem XC{F:List Nat}{B C:World->Prop}{fuel:Nat}{listed:Array Bool}{b:Bool}(dj:Nat)(_hb:Qe.get L dj=some (.bool b))(h1:b=true->D X ops F B fuel listed k L C)(h0:b=false->D X ops F B fuel listed k L C):D X ops F B fuel listed k L C:=by grind
theorem Qs{F:List Nat}{B C:World->Prop}{fuel:Nat}{listed:Array Bool}{v u:Value}(e:v=u)(h:D X ops F B fuel listed k ((d,u)::L) C):D X ops F B fuel listed k ((d,v)::L) C:=by subst e;exact h
def QeQ(tmps:Array Value):ResultVar->Sem Value
 | .tmp t=>pure (tmps.getD t undef)
 | .cell a t=>do loadVar t (<-asAddr (tmps.getD a undef))
def RV(P:Program)(L:Qe)(As:List HA)(rs:List ResultVar)(vs:List Value):Prop:=
 ∀(a:Act)(n:Nat)(df:List Nat)(w w0:World)(M:List Nat),FR n df L a->HS w0 M As w->(rs.mapM (QeQ a.tmps)).run P w=.ok vs w
section
variable{P:Program}
theorem RV.nil:RV P L As [] []:=λ_ _ _ _ _ _ _ _=>by simp[List.mapM_nil]
theorem RV.tmp{t:Nat}{v:Value}{rs:List ResultVar}{vs:List Value}(h:Qe.get L t=some v)(r:RV P L As rs vs):RV P L As (.tmp t::rs) (v::vs):=λa n df w w0 M ha hw=>by
 have e:a.tmps.getD t undef=v:=ha.evl (x:=.tmp t) h;rw[List.mapM_cons];simp only[QeQ,Sem.run_bind,Sem.run_pure,Result.andThen_ok,e,r a n df w w0 M ha hw]
theorem RV.cell{at' t b i m tot:Nat}{bt:TypeId}{cs:List Value}{As':List HA}{rs:List ResultVar}{vs:List Value}(h:Qe.get L at'=some (.pointer (some ⟨b,i,none⟩)))(hs:tsz P t=some (m,true))(hp:Qv As (.blk b bt tot cs) As')(hl:Nat.ble (i+m) cs.length=true)
  (r:RV P L As rs vs):RV P L As (.cell at' t::rs) (.agg (cut cs i m).toArray::vs):=λa n df w w0 M ha hw=>by
 have e:a.tmps.getD at' undef=.pointer (some ⟨b,i,none⟩):=ha.evl (x:=.tmp at') h;have hl':i+m<=cs.length:=Nat.le_of_ble_eq_true hl
 have hr:=Z1 (P:=P) (b:=b) (i:=i) (w:=w) (vs:=cut cs i m) hs (by simp[cut];omega) (λj v hv=>(hw.blk_get hp).cell (by
  unfold cut at hv;rw[List.getElem?_take]at hv;split at hv
  ·simpa using hv
  ·cases hv))
 have hr':(loadVar t ⟨b,i,none⟩).run P w=.ok (.agg (cut cs i m).toArray) w:=by simpa[Instr.loadAt,Instr.sureAddr]using hr
 rw[List.mapM_cons];simp only[QeQ,Sem.run_bind,Sem.run_pure,Result.andThen_ok,e,asAddr,hr',r a n df w w0 M ha hw]
theorem RV.cell1{at' t b i tot:Nat}{bt:TypeId}{cs:List Value}{v:Value}{As':List HA}{rs:List ResultVar}{vs:List Value}(h:Qe.get L at'=some (.pointer (some ⟨b,i,none⟩)))(hs:tsz P t=some (1,false))(hp:Qv As (.blk b bt tot cs) As')(hv:cs[i]?=some v)
  (r:RV P L As rs vs):RV P L As (.cell at' t::rs) (v::vs):=λa n df w w0 M ha hw=>by
 have e:a.tmps.getD at' undef=.pointer (some ⟨b,i,none⟩):=ha.evl (x:=.tmp at') h;have hr:=Z7 (P:=P) (t:=t) hs ((hw.blk_get hp).cell hv);have hr':(loadVar t ⟨b,i,none⟩).run P w=.ok v w:=by simpa[Instr.loadAt,Instr.sureAddr]using hr
 rw[List.mapM_cons];simp only[QeQ,Sem.run_bind,Sem.run_pure,Result.andThen_ok,e,asAddr,hr',r a n df w w0 M ha hw]
theorem RV.run{a:Act}{n:Nat}{df:List Nat}{w w0:World}{M:List Nat}(ha:FR n df L a)(hw:HS w0 M As w){rs:List ResultVar}{vs:List Value}(h:RV P L As rs vs):(rs.mapM (QeQ a.tmps)).run P w=.ok vs w:=h a n df w w0 M ha hw
end
def QR:List Value->Value
 | [v]=>v
 | vs=>.tuple vs.toArray
theorem QcD{fn:Func}{rs:List ResultVar}{tmps:Array Value}(h:fn.results=rs.toArray):results fn tmps=(do
  let vs <-rs.toArray.mapM (QeQ tmps)
  pure (if h:vs.size=1 then vs[0]else .tuple vs)):=by
 unfold results;rw[h]
 have e:(λx:ResultVar=>(match x with
  | .tmp t=>pure (tmps.getD t undef)
  | .cell a t=>do loadVar t (<-asAddr (tmps.getD a undef)):Sem Value))=QeQ tmps:=by
  funext x;cases x<;>rfl
 rw[<-e];rfl
theorem Qf{rs:List ResultVar}{vs:List Value}(hr:X.fn.results=rs.toArray)(hv:RV X.P L As rs vs)(h:∀w,HS w0 M As w->X.R (.returned (QR vs)) w)(hrd:X.rd=none:=by rfl)(hdf:X.df=[]:=by rfl):S X (.c .ret::k) L (HS w0 M As):=by
 refine Qln (v:=QR vs) (λa w ha hw=>?_) h hrd hdf;have hm:=hv.run ha hw;rw[QcD hr,Array.mapM_eq_mapM_toList];simp only[Sem.run_bind,Sem.run_map,hm,Result.andThen_ok,Sem.run_pure]
 match vs with
 | []=>rfl
 | [v]=>rfl
 | u::v::vs=>simp[QR]
end
section
variable{P:Program}{o:Oper}{L:Qe}{w0:World}{M:List Nat}{As As':List HA}
def X1(a:Option Addr)(cap lo sz:Nat):Option Addr:=if cap=lo then a else a.map (·.add (lo*sz))
theorem QM{t e sz by':Nat}{x:Operand}{a:Option Addr}{n cap:Nat}(lo hi:Option Operand)(i j:Nat)(ho:o.op=.slice t x lo hi none)(hx:ev L x=some (.slice a n cap))(ht:tsl P t=some (e,sz,by'))(hlo:Qqr L lo i)(hhi:QqO L hi n j)(hij:i<=j)(hj:j<=cap) :
  OpP P o L (.slice (X1 a cap i sz) (j-i) (cap-i)):=by
 intro ρ w hρ;obtain⟨hu,inf,h1,h2,_⟩:=XZ ht;have hb:=Qeq (P:=P) (w:=w) true hρ hlo hhi hij hj;simp only[execOp,ho,Instr.sliceAt,Sem.run_bind,run_underlying hu,Result.andThen_ok,Instr.slice,hρ _ _ hx,Option.map_none,hb,Sem.run_pure];simp[Go.sizeOf,typeInfo,h1,h2,X1]
theorem Qd0{t e:TypeId}{a:Option Addr}{n c n' c':Nat}(w:World)(ht:P.underlying t=some (.slice e)):(Op.equal t (.slice a n c) (.slice none n' c')).run P w=.ok a.isNone w:=by
 have h:∀d,(Op.equalIn (d+1) t (.slice a n c) (.slice none n' c')).run P w=.ok a.isNone w:=λd=>by
  rw[Op.equalIn];simp only[Sem.run_bind,run_underlying ht,Result.andThen_ok];cases a<;>rfl
 exact h 9999
theorem Yz{t t':TypeId}{x y:Operand}{a:Option Addr}{n c n' c':Nat}{e:TypeId}(ho:o.op=.binOp .eql t x y t')(hx:ev L x=some (.slice a n c))(hy:ev L y=some (.slice none n' c'))(ht:P.underlying t=some (.slice e)):OpP P o L (.bool a.isNone):=by
 intro ρ w hρ;have hg:(eqGuard .eql t x y (.slice a n c) (.slice none n' c')).run P w=.ok () w:=by unfold eqGuard;simp
 have hb:(binOp .eql t (.slice a n c) (.slice none n' c')).run P w=.ok (.bool a.isNone) w:=by
  unfold binOp
  simp_all[Qd0]
 simp only[execOp,ho,hρ _ _ hx,hρ _ _ hy,Sem.run_bind,hg,hb,Result.andThen_ok,Sem.run_pure]
theorem QpZ{x y:Operand}{k:IntKind}{a b:Int}{ts:Array TypeId}(ho:o.op=.call {callee:=.builtin .min,args:=#[x,y],argTypes:=ts})(hx:ev L x=some (.int k a))(hy:ev L y=some (.int k b)):OpP P o L (.int k (if b<a then b else a)):=by
 intro ρ w hρ;simp[execOp,ho,resolve,invoke,builtin,Builtin.min_,Builtin.min2,hρ _ _ hx,hρ _ _ hy]
theorem Qdp{x y:Operand}{k:IntKind}{a b:Int}{ts:Array TypeId}(ho:o.op=.call {callee:=.builtin .max,args:=#[x,y],argTypes:=ts})(hx:ev L x=some (.int k a))(hy:ev L y=some (.int k b)):OpP P o L (.int k (if b>a then b else a)):=by
 intro ρ w hρ;simp[execOp,ho,resolve,invoke,builtin,Builtin.max_,Builtin.max2,hρ _ _ hx,hρ _ _ hy]
def Qew(v:Value):UInt8:=UInt8.ofNat (intOf v).toNat
def Qpd:Value->Bool
 | .int .u8 _=>true
 | _=>false
theorem ZB{src dst e:TypeId}{a:Option Addr}{cap:Nat}{xs:List Value}{w:World}(hs:P.underlying src=some (.slice e))(hd:P.underlying dst=some .string)(he:P.underlying e=some (.int .u8))(h8:∀v∈xs,Qpd v=true)(hc:Src a xs w) :
  (convert src dst (.slice a xs.length cap)).run P w=.ok (.string (bs (xs.map Qew))) w:=by
 have hx:xs.map (λv=>Value.int .u8 (intOf v))=xs:=by
  refine(List.map_congr_left (g:=id) λv hv=>?_).trans (List.map_id _);have:=h8 v hv;cases v with
  | int k n=>cases k<;>first|rfl|cases this
  | _=>cases this
 have hbs:∀(ns:List Int)(s:ByteArray),ns.foldl (λr n=>r.push (UInt8.ofNat n.toNat)) s=⟨s.data++(ns.map λn=>UInt8.ofNat n.toNat).toArray⟩:=foldl_push_bytes;cases xs with
 | nil=>
  cases a with
  | none=>exact run_convert_bytes_nil w src e hs he 0 cap dst hd
  | some ad=>exact run_convert_bytes_back w src dst e ad cap [] hs he hd (λj hj=>absurd hj (Nat.not_lt_zero _))
 | cons u us=>
  obtain⟨b,i,rfl,h1⟩:=hc (by simp);rw[run_convert_bytes_string w src dst e _ _ cap hs he hd]
  have hl:=run_loadCells_list (P:=P) w ⟨b,i,none⟩ (((u::us).map intOf).map (Value.int .u8)) (λj v hj=>by
   rw[List.map_map]at hj;rw[show(Value.int .u8∘intOf)=λv=>Value.int .u8 (intOf v)from rfl,hx]at hj;rw[XG];exact h1 j v hj)
  have hlen:(((u::us).map intOf).map (Value.int .u8)).length=(u::us).length:=by simp
  rw[hlen]at hl;rw[run_bytesToString w _ _ cap _ hl,hbs];have e0:ByteArray.empty.data= #[]:=rfl;simp only[bs,List.map_map,e0,Array.empty_append];rfl
theorem QcL{src dst e et n:Nat}{x:Operand}{v:Value}{xs:List Value}(ho:o.op=.convert src dst x)(hx:ev L x=some v)(hs:P.underlying src=some (.slice e))(hd:P.underlying dst=some .string)(he:P.underlying e=some (.int .u8))(hp:Qv As (.own v et 1 n xs) As')(h8:∀v∈xs,Qpd v=true):OpQ P o L (HS w0 M As) (.string (bs (xs.map Qew))):=by
 intro ρ w hρ hw
 have hr:(convert src dst v).run P w=.ok (.string (bs (xs.map Qew))) w:=by
  obtain⟨hl,⟨rfl,rfl⟩|⟨g,cap,rfl,_,_,hb⟩⟩:=(hw.pick hp).head
  ·have:xs=[]:=List.eq_nil_of_length_eq_zero (by simpa using hl);subst this;exact ZB (xs:=[]) hs hd he (λ_ h=>by cases h) (λh=>absurd rfl h)
  ·have hl':n=xs.length:=by omega
   subst hl';exact ZB hs hd he h8 λ_=>⟨g,0,rfl,λj u hu=>by simpa using hb.cell hu⟩
 simp only[execOp,ho,Sem.run_bind,hρ _ _ hx,hr,Result.andThen_ok,Sem.run_pure];exact⟨rfl,Below.refl _ _⟩
theorem Qg8{src dst e et n tot b cap:Nat}{x:Operand}{xs:List Value}(ho:o.op=.convert src dst x)(hx:ev L x=some (.slice (some ⟨b,0,none⟩) n cap))(hs:P.underlying src=some (.slice e))(hd:P.underlying dst=some .string)(he:P.underlying e=some (.int .u8))(hp:Qv As (.blk b et tot xs) As')(hn:xs.length=n)(h8:∀v∈xs,Qpd v=true):OpQ P o L (HS w0 M As) (.string (bs (xs.map Qew))):=by
 intro ρ w hρ hw
 have hr:(convert src dst (.slice (some ⟨b,0,none⟩) n cap)).run P w=.ok (.string (bs (xs.map Qew))) w:=by
  subst hn;exact ZB hs hd he h8 λ_=>⟨b,0,rfl,λj u hu=>by simpa using(hw.blk_get hp).cell hu⟩
 simp only[execOp,ho,Sem.run_bind,hρ _ _ hx,hr,Result.andThen_ok,Sem.run_pure];exact⟨rfl,Below.refl _ _⟩
end
theorem Xc.lt{w:World}{b:Nat}{t:TypeId}{tot:Nat}{cs:List Value}(h:Xc b t tot cs w):b<w.heap.size:=by
 obtain⟨cur,fr,h1,_⟩:=h
 grind
theorem HS.rd_blk{w0 w:World}{M Mc:List Nat}{As As':List HA}{b i:Nat}{t:TypeId}{tot:Nat}{cs:List Value}{v:Value}(h:HS w0 M As w)(hp:Qv As (.blk b t tot cs) As')(hv:cs[i]?=some v)(hM:b ∉ Mc):Rd w Mc b i v:=
 ⟨(h.blk_get hp).lt,hM,(h.blk_get hp).cell hv⟩
theorem HS.ne{w0 w:World}{M:List Nat}{As As1 As2:List HA}{b b':Nat}{t t':TypeId}{tot tot':Nat}{cs cs':List Value}(h:HS w0 M As w)(hp:Qv As (.blk b t tot cs) As1)(hp':Qv As1 (.blk b' t' tot' cs') As2):b≠b':=by
 have h1:=h.pick hp;have hs:=(List.pairwise_cons.1 h1.sep).1 _ hp'.mem;intro e;subst e;exact hs b (List.mem_singleton.2 rfl) (List.mem_singleton.2 rfl)
theorem HS.sl_blk{w0 w:World}{M:List Nat}{As As':List HA}{b sz n:Nat}{t:TypeId}{tot:Nat}{cs:List Value}{cell:Nat->List Value}(h:HS w0 M As w)(hp:Qv As (.blk b t tot cs) As')(hc:∀i,i<n->(cell i).length=sz/\∀j v,(cell i)[j]?=some v->cs[i*sz+j]?=some v):Sl w [] (some ⟨b,0,none⟩) sz n cell:=
 ⟨λ_=>⟨b,0,rfl,λi hi=>⟨(hc i hi).1,λj v hv=>by
  have:=h.rd_blk (Mc:=[]) hp ((hc i hi).2 j v hv) (by simp)
  simpa using this⟩⟩⟩
theorem HS.sl_own{w0 w:World}{M:List Nat}{As As':List HA}{v:Value}{sz n:Nat}{t:TypeId}{cs:List Value}{cell:Nat->List Value}{a:Option Addr}{cap:Nat}(h:HS w0 M As w)(hp:Qv As (.own v t sz n cs) As')(hv:v=.slice a n cap)(hc:∀i,i<n->(cell i).length=sz/\∀j v,(cell i)[j]?=some v->cs[i*sz+j]?=some v):Sl w [] a sz n cell:=by
 refine⟨λhn=>?_⟩;obtain⟨g,cap',e,_,_,_,h2⟩:=(h.pick hp).own_open' hn;rw[e]at hv;injection hv with e1 e2 e3
 subst e1;exact(h2.sl_blk .here hc).at_ hn
section
variable{P:Program}{o:Oper}{L:Qe}{w0:World}{M:List Nat}{As As':List HA}
theorem XJ{t e sz by':Nat}(ho:o.op=.buildSlice t 0 #[])(ht:tsl P t=some (e,sz,by')) :
  OpH P o L (HS w0 M As) (λb:Nat=>.slice (some ⟨b,0,none⟩) 0 0) (λ_=>True) (λb=>HS w0 M (.own (.slice (some ⟨b,0,none⟩) 0 0) e sz 0 []::As)):=by
 intro ρ w hρ hw;obtain⟨hu,inf,h1,h2,_⟩:=XZ ht;have hsz:(Go.sizeOf e).run P w=.ok sz w:=by simp[Go.sizeOf,typeInfo,h1,h2]
 have hb:(Instr.buildSlice t 0 #[]).run P w=.ok (.slice (some ⟨w.heap.size,0,none⟩) 0 0) (w.alloc (.cells #[] e)):=by
  unfold Instr.buildSlice;simp only[Sem.run_bind,run_underlying hu,Result.andThen_ok,hsz,Nat.zero_mul,Nat.not_lt_zero,if_false,if_true,Sem.run_pure,Instr.fill,newRow,run_newObj,World.alloc_eq]
  grind
 simp only[execOp,ho,Sem.run_bind];rw[show((#[]:Array (Nat×Operand)).map λx=>(x.fst,ρ x.snd))= #[]from by simp,hb];have h3:=hw.blk_new e #[];exact⟨w.heap.size,rfl,trivial,HS.own_shut (cap:=0) (by simpa using h3) (by simp) (Nat.le_refl _) (by simp[maxLen])⟩
def Qb6(z:List Value)(n:Nat):List Value:=(List.range n).map λi=>z.toArray[i%z.length]!
theorem QY(z:List Value)(n:Nat):(Qb6 z n).length=n:=by simp[Qb6]
theorem Qnw(v:Value)(n:Nat):Qb6 [v] n=List.replicate n v:=by
 unfold Qb6;rw[List.eq_replicate_iff]
 grind
theorem QqH{t e sz by' n:Nat}{x y:Operand}{z:List Value}(ho:o.op=.makeSlice t x y)(hx:ev L x=some (.int .i64 (n:Int)))(hy:ev L y=some (.int .i64 (n:Int)))(ht:tsl P t=some (e,sz,by'))(hz:Xs P e=some z)(hlen:n*by'<=281474976710656)(hn:n<=16777216) :
  OpH P o L (HS w0 M As) (λb:Nat=>.slice (some ⟨b,0,none⟩) n n) (λ_=>True) (λb=>HS w0 M (.blk b e (n*sz) (Qb6 z (n*sz))::As)):=by
 intro ρ w hρ hw;obtain⟨hu,inf,h1,h2,h3⟩:=XZ ht;have hsz:∀w,(Go.sizeOf e).run P w=.ok sz w:=λw=>by simp[Go.sizeOf,typeInfo,h1,h2]
 have hti:(typeInfo e).run P w=.ok inf w:=by simp[typeInfo,h1]
 obtain⟨zv,hz',hzr⟩:∃zv:Value,zv.cells.toList=z/\∀w,(zeroValue e).run P w=.ok zv w:=by
  unfold Xs at hz;rw[h1]at hz;simp only[Option.bind_some]at hz;cases hzz:inf.zero with
  | none=>rw[hzz]at hz;cases hz
  | some v=>rw[hzz]at hz;simp only[Option.map_some,Option.some.injEq]at hz;exact⟨v,hz,λw=>by simp[zeroValue,typeInfo,h1,hzz]⟩
 have hwr:IntKind.i64.wrap (n:Int)=n:=IntWalk.i64_in _ ⟨om,om⟩;have hz'':zv.cells=z.toArray:=by rw[<-hz']
 have hpr:((inf.bytes:Nat):Int)*(n:Int)<=281474976710656:=by grind
 have e2:(2:Int)^48=281474976710656:=by decide
 have d1:¬((inf.bytes:Nat):Int)*(n:Int)>2^48:=by rw[e2];omega
 have d2:¬(n:Int)<0:=om
 have d3:¬(n:Int)>n:=om
 have hai:∀w,(asInt (.int .i64 (n:Int))).run P w=.ok (n:Int) w:=λw=>by simp[asInt,asIntOf]
 have hb:(Instr.makeSlice t (.int .i64 n) (.int .i64 n)).run P w=.ok (.slice (some ⟨w.heap.size,0,none⟩) n n) (w.alloc (.cells (Qb6 z (n*sz)).toArray e)):=by
  unfold Instr.makeSlice;simp only[Sem.run_bind,run_underlying hu,Result.andThen_ok,hsz,hai,Sem.run_pure,hti,hwr,d1,d2,d3,decide_false,Bool.or_false,Bool.false_eq_true,if_false,run_askRoom,Int.toNat_natCast]
  by_cases h0:n*sz=0
  ·have e1:∀q:Array Value,(Array.map (λx=>q[x%q.size]!) (Array.range 0))= #[]:=λq=>Array.eq_empty_of_size_eq_zero (by simp);have e3:(Qb6 z (n*sz)).toArray= #[]:=by rw[h0];rfl
   simp only[h0,if_true,Sem.run_bind,Sem.run_pure,Result.andThen_ok,newRow,run_newObj,World.alloc_eq,e1,e3];simp only[h0]at e3;rw[e3]
  ·simp only[if_neg h0,Sem.run_bind,hzr,Sem.run_pure,Result.andThen_ok,newRow,run_newObj,World.alloc_eq,hz''];congr 2;simp[Qb6,<-List.toArray_range]
 simp only[execOp,ho,Sem.run_bind,hρ _ _ hx,hρ _ _ hy,hb,Result.andThen_ok,Sem.run_pure];have h4:=hw.blk_new e (Qb6 z (n*sz)).toArray;refine⟨w.heap.size,rfl,trivial,?_⟩
 simpa[QY]using h4
theorem QA{t xt e e' sz by' n m c:Nat}{s x:Operand}{v:Value}{a:Option Addr}{z xs:List Value}(news:List Value)(ho:o.op=.call {callee:=.builtin .append,args:=#[s,x],argTypes:=#[t,xt]})(hs:ev L s=some v)(hx:ev L x=some (.slice a m c))(ht:tsl P t=some (e,sz,by'))(hxt:P.underlying xt=some (.slice e'))(hz:Xs P e=some z)(hzs:z.length=sz)
  (hp:Qv As (.own v e sz n xs) As')(hsrc:∀w,HS w0 M As w->Src a news w)(hl:news.length=m*sz)(h1:∀u∈news,u.oneCell'=true)(hroom:(n+m)*by'<=140737488355328)(hmax:n+m<=maxLen) :
  OpH P o L (HS w0 M As) (λg:Option Addr×Nat=>.slice g.1 (n+m) g.2) (λ_=>True) (λg=>HS w0 M (.own (.slice g.1 (n+m) g.2) e sz (n+m) (xs++news)::As')):=by
 intro ρ w hρ hw;refine(Qlw news ho hs hx ht hxt hz hzs hp hsrc hl h1 hroom hmax ρ w hρ hw).mono λu w' hh=>?_;obtain⟨v',rfl,_,h⟩:=hh;obtain⟨a',cap',rfl,_⟩:=h.head.form;exact⟨(a',cap'),rfl,trivial,h⟩
def eq1:Value->Value->Option Bool
 | .int k a,.int k' b=>if k=k' then some (decide (a=b))else none
 | .string a,.string b=>some (decide (a.data.toList=b.data.toList))
 | .bool a,.bool b=>some (a==b)
 | _,_=>none
def eqC:List Value->List Value->Option Bool
 | [],[]=>some true
 | x::xs,y::ys=>match eq1 x y,eqC xs ys with
  | some a,some b=>some (a&&b)
  | _,_=>none
 | _,_=>none
def lfT(P:Program)(t:TypeId):Bool:=match P.underlying t with
 | some (.int _)|some .string|some .bool=>true
 | _=>false
end
section
variable{P:Program}{w:World}
theorem Qlg{t:TypeId}(h:lfT P t=true):(∃k,P.underlying t=some (.int k))\/P.underlying t=some .string\/P.underlying t=some .bool:=by grind[lfT]
def QhT(P:Program)(t:TypeId)(x:Value):Bool:=match P.underlying t,x with
 | some (.int _),.int _ _|some .string,.string _|some .bool,.bool _=>true
 | _,_=>false
theorem QbE{t:TypeId}(h:lfT P t=true){cs:Array Value}{off:Nat}{v:Value}(hv:cs[off]?=some v):(part t cs off).run P w=.ok v w:=by
 have ha:(isAgg t).run P w=.ok false w:=by
  rcases Qlg h with⟨k,h⟩|h|h<;>simp[isAgg,run_underlying h]
 simp[part,ha,hv]
theorem Qj9{t:TypeId}{x y:Value}{b:Bool}(d:Nat)(hx:QhT P t x=true)(hy:QhT P t y=true)(h:eq1 x y=some b):(Op.equalIn (d+1) t x y).run P w=.ok b w:=by
 unfold QhT at hx hy;split at hx
 ·rename_i k a m hu;simp only[hu]at hy;cases y<;>first|cases hy|skip
  simp only[eq1]at h;split at h
  ·rename_i hk;subst hk;cases h;simp[Op.equalIn,run_underlying hu,Qa3]
  ·cases h
 ·rename_i a hu;simp only[hu]at hy;cases y<;>first|cases hy|skip
  simp only[eq1,Option.some.injEq]at h;subst h;rename_i b
  have:(a==b)=decide (a.data.toList=b.data.toList):=by
   rw[beq_toListBytes,ByteArray.toList_eq,ByteArray.toList_eq]
   grind
  simp[Op.equalIn,run_underlying hu,this]
 ·rename_i a hu;simp only[hu]at hy;cases y<;>first|cases hy|skip
  simp only[eq1,Option.some.injEq]at h;subst h;simp[Op.equalIn,run_underlying hu]
 ·cases hx
theorem QbT{α:Type}{l xs:List α}{k:Nat}{x:α}(h:l.drop k=x::xs):l[k]?=some x:=by
 have:=congrArg (λm:List α=>m[0]?) h
 simpa using this
def flF(P:Program):List Field->Nat->Bool
 | [],_=>true
 | f::fs,k=> !(f.name== "_")&&Nat.beq f.offset k&&lfT P f.type&&flF P fs (k+1)
def ZI(P:Program):List TypeId->List Value->Bool
 | [],[]=>true
 | t::ts,x::xs=>QhT P t x&&ZI P ts xs
 | _,_=>false
theorem Qkm(d:Nat)(X Y:Array Value):∀(fs:List Field)(k:Nat)(xs ys:List Value)(b:Bool),flF P fs k=true->X.toList.drop k=xs->Y.toList.drop k=ys->ZI P (fs.map (·.type)) xs=true->ZI P (fs.map (·.type)) ys=true->eqC xs ys=some b->(Op.eqFields (d+1) X Y fs).run P w=.ok b w
 | [],k,xs,ys,b,_,_,_,h1,h2,h=>by
  cases xs with
  | cons=>simp[ZI]at h1
  | nil=>
   cases ys with
   | cons=>simp[ZI]at h2
   | nil=>cases h;simp[Op.eqFields]
 | f::fs,k,xs,ys,b,hf,hX,hY,h1,h2,h=>by
  cases xs with
  | nil=>cases h1
  | cons x xs=>
   cases ys with
   | nil=>cases h2
   | cons y ys=>
    simp only[flF,Bool.and_eq_true,Bool.not_eq_true',beq_eq_false_iff_ne]at hf;obtain⟨⟨⟨hn,ho⟩,hl⟩,hr⟩:=hf;have ho:=Nat.eq_of_beq_eq_true ho;simp only[List.map_cons,ZI,Bool.and_eq_true]at h1 h2;have hx:X[k]?=some x:=by rw[<-Array.getElem?_toList];exact QbT hX
    have hy:Y[k]?=some y:=by rw[<-Array.getElem?_toList];exact QbT hY
    simp only[eqC]at h;split at h
    ·rename_i a c e1 e2;cases h;have hX':X.toList.drop (k+1)=xs:=by rw[<-List.drop_drop,hX];rfl
     have hY':Y.toList.drop (k+1)=ys:=by rw[<-List.drop_drop,hY];rfl
     have ih:=Qkm d X Y fs (k+1) xs ys c hr hX' hY' h1.2 h2.2 e2;simp only[Op.eqFields,ne_eq,hn,not_false_eq_true,if_true,Sem.run_bind,ho,QbE hl hx,QbE hl hy,Result.andThen_ok,Qj9 d h1.1 h2.1 e1];cases a
     ·simp
     ·simpa using ih
    ·cases h
def teq(P:Program)(t:TypeId):Option (List TypeId):=match P.underlying t with
 | some (.struct fs)=>if flF P fs.toList 0&& !P.stoodInHeld t&& !P.eqGuardType P.depth t then some (fs.toList.map (·.type))else none
 | some (.array n e)=>if lfT P e&&Nat.beq (P.cellsOf e) 1&&(P.info? e).isSome&& !P.eqGuardType P.depth t then some (List.replicate n e)else none
 | _=>none
theorem Qj5(d:Nat){e:TypeId}(hl:lfT P e=true)(h1:P.cellsOf e=1)(X Y:Array Value):∀(n k:Nat)(xs ys:List Value)(b:Bool),X.toList.drop k=xs->Y.toList.drop k=ys->ZI P (List.replicate n e) xs=true->ZI P (List.replicate n e) ys=true->eqC xs ys=some b->(Op.eqItems (d+1) e (P.cellsOf e) X Y (List.range' k n)).run P w=.ok b w
 | 0,k,xs,ys,b,_,_,g1,g2,h=>by
  cases xs with
  | cons=>simp[ZI]at g1
  | nil=>
   cases ys with
   | cons=>simp[ZI]at g2
   | nil=>cases h;simp[Op.eqItems]
 | n+1,k,xs,ys,b,hX,hY,g1,g2,h=>by
  cases xs with
  | nil=>cases g1
  | cons x xs=>
   cases ys with
   | nil=>cases g2
   | cons y ys=>
    simp only[List.replicate_succ,ZI,Bool.and_eq_true]at g1 g2;have hx:X[k]?=some x:=by rw[<-Array.getElem?_toList];exact QbT hX
    have hy:Y[k]?=some y:=by rw[<-Array.getElem?_toList];exact QbT hY
    simp only[eqC]at h;split at h
    ·rename_i a c e1 e2;cases h;have hX':X.toList.drop (k+1)=xs:=by rw[<-List.drop_drop,hX];rfl
     have hY':Y.toList.drop (k+1)=ys:=by rw[<-List.drop_drop,hY];rfl
     have ih:=Qj5 d hl h1 X Y n (k+1) xs ys c hX' hY' g1.2 g2.2 e2;have hk:k*P.cellsOf e=k:=by rw[h1,Nat.mul_one]
     simp only[List.range'_succ,Op.eqItems,Sem.run_bind,hk,QbE hl hx,QbE hl hy,Result.andThen_ok,Qj9 d g1.1 g2.1 e1];cases a
     ·simp
     ·simpa using ih
    ·cases h
theorem QoY{t:TypeId}{ts:List TypeId}{xs ys:List Value}{b:Bool}(ht:teq P t=some ts)(h1:ZI P ts xs=true)(h2:ZI P ts ys=true)(h:eqC xs ys=some b)(d:Nat) :
  (Op.equalIn (d+2) t (.agg xs.toArray) (.agg ys.toArray)).run P w=.ok b w/\P.eqGuardType P.depth t=false:=by
 unfold teq at ht;split at ht
 ·rename_i fs hu;split at ht
  ·rename_i hc;cases ht;simp only[Bool.and_eq_true,Bool.not_eq_true']at hc;have hfo:P.fieldsOf t=fs:=by unfold Program.fieldsOf;rw[hu]
   refine⟨?_,hc.2⟩;rw[run_equalIn_struct w (d+1) t _ _ (by rw[hfo];exact hu) hc.1.2,hfo]
   grind[Qkm]
  ·cases ht
 ·rename_i n e hu;split at ht
  ·rename_i hc;cases ht;simp only[Bool.and_eq_true,Bool.not_eq_true']at hc;obtain⟨i,hi⟩:=Option.isSome_iff_exists.1 hc.1.2;refine⟨?_,hc.2⟩;rw[run_equalIn_array (w:=w) (d+1) _ _ hu hi,List.range_eq_range'];exact Qj5 d hc.1.1.1 (Nat.eq_of_beq_eq_true hc.1.1.2) _ _ n 0 xs ys b (by simp) (by simp) h1 h2 h
  ·cases ht
 ·cases ht
def tlk(P:Program)(t:TypeId):Option Nat:=match P.underlying t with
 | some (.int _)=>some 0
 | some .string=>some 1
 | some .bool=>some 2
 | _=>none
def QpP(P:Program)(t:TypeId):Option (List Nat):=(teq P t).bind λts=>ts.mapM (tlk P)
def QnD:Value->Nat
 | .int _ _=>0
 | .string _=>1
 | .bool _=>2
 | _=>3
theorem QdG:∀{ts:List TypeId}{ks:List Nat}{xs:List Value},ts.mapM (tlk P)=some ks->xs.map QnD=ks->ZI P ts xs=true
 | [],ks,xs,h,hx=>by
  simp at h;subst h;cases xs<;>first|rfl|cases hx
 | t::ts,ks,xs,h,hx=>by
  rw[List.mapM_cons]at h;simp only[bind,Option.bind_eq_some_iff,pure,Option.some.injEq]at h;obtain⟨k,h1,ks',h2,rfl⟩:=h;cases xs with
  | nil=>cases hx
  | cons x xs=>
   simp only[List.map_cons,List.cons.injEq]at hx;simp only[ZI,Bool.and_eq_true];refine⟨?_,QdG h2 hx.2⟩;have h3:=hx.1;unfold tlk at h1;unfold QhT;split at h1<;>first|(cases h1;done)|skip
   all_goals
    rename_i hu;cases h1;rw[hu];cases x<;>first|rfl|cases h3
variable{o:Oper}{L:Qe}
theorem Qgb{t t':TypeId}{x y:Operand}{xs ys:List Value}{ks:List Nat}{b:Bool}(ho:o.op=.binOp .neq t x y t')(hx:ev L x=some (.agg xs.toArray))(hy:ev L y=some (.agg ys.toArray))(ht:QpP P t=some ks)(h1:xs.map QnD=ks)(h2:ys.map QnD=ks)(h:eqC xs ys=some b):OpP P o L (.bool (!b)):=by
 intro ρ w hρ;unfold QpP at ht;obtain⟨ts,e1,e2⟩:=Option.bind_eq_some_iff.1 ht;obtain⟨g1,g2⟩:=QoY (w:=w) e1 (QdG e2 h1) (QdG e2 h2) h 9998;simp only[execOp,ho,hρ _ _ hx,hρ _ _ hy,Sem.run_bind,run_eqGuard_agg w _ _ _ _ _ _ g2,run_neq_struct,g1,Result.andThen_ok,Sem.run_pure]
end
section
variable{X:Ctx}{ops:Array Oper}{F:List Nat}{fuel:Nat}{listed:Array Bool}{k:List KI}{L:Qe}{w0:World}{M:List Nat}{As:List HA}
theorem Z5{B:World->Prop}{d d' ty ty':Nat}{op op':Op}{pos pos':String}{aft aft':Array Edge}{G G':Type}{V:G->Value}{Fg:G->Prop}{C:G->World->Prop}{V':G'->Value}{Fg':G'->Prop}{C':G'->World->Prop}(i j:Nat)
  (hi:ops[i]?=some ⟨some d,op,ty,pos,aft,none⟩)(hj:ops[j]?=some ⟨some d',op',ty',pos',aft',none⟩)(h:OpH X.P ⟨some d,op,ty,pos,aft,none⟩ L (HS w0 M As) V Fg C)(h':OpH X.P ⟨some d',op',ty',pos',aft',none⟩ L (HS w0 M As) V' Fg' C')
  (hr:(Region.ready .any ops listed==[i,j])=true)(hB:∀w,HS w0 M As w->B w)(hd:Nat.blt d X.n=true)(hd':Nat.blt d' X.n=true)
  (next:∀g,Fg g->D X ops F B fuel (listed.setIfInBounds i true) k ((d,V g)::L) (C g))(next':∀g,Fg' g->D X ops F B fuel (listed.setIfInBounds j true) k ((d',V' g)::L) (C' g)):D X ops F B (fuel+1) listed k L (HS w0 M As):=by
 intro hcl a ha;have hr':Region.ready .any ops listed=[i,j]:=by simpa using hr
 have mi:i∈Region.ready .any ops listed:=by rw[hr'];exact List.mem_cons_self ..
 have mj:j∈Region.ready .any ops listed:=by rw[hr'];exact List.mem_cons_of_mem _ (List.mem_singleton.2 rfl)
 refine⟨λ_=>⟨hB,HS.stab _ _ _⟩,λh0=>(by rw[hr']at h0;cases h0),λq hq=>?_⟩;rw[hr']at hq;have hq':q=i\/q=j:=by simpa using hq
 rcases hq' with e|e
 ·subst e;unfold YD;simp only[hi];rw[if_pos (by simp[Region.wanted])];exact⟨G,V,Fg,C,λw hw=>h a.eval w ha.agr hw,λg hg=>next g hg (hcl.set mi) _ (ha.put d _ hd)⟩
 ·subst e;unfold YD;simp only[hj];rw[if_pos (by simp[Region.wanted])];exact⟨G',V',Fg',C',λw hw=>h' a.eval w ha.agr hw,λg hg=>next' g hg (hcl.set mj) _ (ha.put d' _ hd')⟩
end
def fps(As:List HA):List Nat:=As.flatMap HA.fp
theorem HS.focus{w0 w:World}{M:List Nat}{Cs Ds:List HA}(h:HS w0 M (Cs++Ds) w):HS w (fps Cs) Cs w:=by
 refine⟨rfl,rfl,rfl,Nat.le_refl _,λ_ _ _=>rfl,λA hA=>h.ok A (List.mem_append_left _ hA),λA hA b hb=>⟨(h.lt A (List.mem_append_left _ hA) b hb).1,λ_=>List.mem_flatMap.2 ⟨A,hA,hb⟩⟩,(List.pairwise_append.1 h.sep).1⟩
def Zo(As Cs Ds:List HA):Prop:=As.Perm (Cs++Ds)
theorem Zo.nil{As:List HA}:Zo As [] As:=.refl _
theorem Zo.cons{As As' Cs Ds:List HA}{A:HA}(h:Qv As A As')(r:Zo As' Cs Ds):Zo As (A::Cs) Ds:=h.perm.trans (List.Perm.cons _ r)
section
variable{P:Program}{o:Oper}{L:Qe}{w0:World}{M:List Nat}{As As':List HA}
theorem QV{G:Type}{V:G->Value}{F:G->Prop}{Bs:G->List HA}{Cs Ds:List HA}{f:FuncId}{args:Array Operand}{vs:List Value}{at':Array TypeId}(ho:o.op=.call {callee:=.value (.func f),args:=args,argTypes:=at'})(hf:QE P f=true)(ha:evs L args.toList=some vs)
  (hp:Zo As Cs Ds)(hc:∀w,HS w0 M As w->HS w (fps Cs) Cs w->Calls P f vs.toArray w λe w'=>∃g,e=.returned (V g)/\F g/\HS w (fps Cs) (Bs g) w'):OpH P o L (HS w0 M As) V F (λg=>HS w0 M (Bs g++Ds)):=
 Qpa ho hf ha hp (λb hb=>by obtain⟨A,hA,hb⟩:=List.mem_flatMap.1 hb;exact⟨A,hA,hb⟩) (λw hw=>hc w hw (HS.focus (hw.perm hp)))
theorem Qc1{G:Type}{V:G->Value}{F:G->Prop}{Bs:G->List HA}{Cs Ds:List HA}{f:FuncId}{c:Operand}{args:Array Operand}{vs:List Value}{first cap:Array Value}{at':Array TypeId}(ho:o.op=.call {callee:=.value c,args:=args,argTypes:=at'})(hcv:ev L c=some (.func (.func f) first cap))(hf:QE P f=true)(ha:evs L args.toList=some vs)
  (hp:Zo As Cs Ds)(hc:∀w,HS w0 M As w->HS w (fps Cs) Cs w->Calls P f (first++vs.toArray++cap) w λe w'=>∃g,e=.returned (V g)/\F g/\HS w (fps Cs) (Bs g) w'):OpH P o L (HS w0 M As) V F (λg=>HS w0 M (Bs g++Ds)):=
 QnZ ho hcv hf ha hp (λb hb=>by obtain⟨A,hA,hb⟩:=List.mem_flatMap.1 hb;exact⟨A,hA,hb⟩) (λw hw=>hc w hw (HS.focus (hw.perm hp)))
theorem Xc.full{b t tot:Nat}{cs:List Value}{w:World}(h:Xc b t tot cs w):∃ds,cs.length+ds.length=tot/\Xc b t tot (cs++ds) w:=by
 obtain⟨cur,fr,h1,h2,h3,h4,h5⟩:=h;refine⟨(cur.toList.take tot).drop cs.length,by simp;omega,cur,fr,h1,h2,by simp;omega,λi hi=>?_,h5⟩
 grind
theorem HS.blk_full{w:World}{b t tot:Nat}{cs:List Value}(hp:Qv As (.blk b t tot cs) As')(h:HS w0 M As w):∃ds,cs.length+ds.length=tot/\HS w0 M (.blk b t tot (cs++ds)::As') w:=by
 obtain⟨ds,h1,h2⟩:=(h.pick hp).head.full;exact⟨ds,h1,(h.pick hp).turn (λ_ h=>h) λ_=>h2⟩
theorem Xc.less{b t tot:Nat}{cs ds:List Value}{w:World}(h:Xc b t tot (cs++ds) w):Xc b t tot cs w:=by
 obtain⟨cur,fr,h1,h2,h3,h4,h5⟩:=h;simp only[List.length_append]at h3;exact⟨cur,fr,h1,h2,om,λi hi=>by rw[h4 i (by simp;omega),List.getElem?_append_left hi],h5⟩
theorem HS.blk_less{w:World}{b t tot:Nat}{cs ds:List Value}(hp:Qv As (.blk b t tot (cs++ds)) As')(h:HS w0 M As w):HS w0 M (.blk b t tot cs::As') w:=
 (h.pick hp).turn (λ_ h=>h) λhb=>hb.less
theorem HS.own_room{w:World}{a:Option Addr}{t sz n n' cap m:Nat}{xs ds:List Value}(hp:Qv As (.own (.slice a n cap) t sz n (xs++ds)) As')(h:HS w0 M As w)(hl:xs.length=m*sz)(hm:m<=n')(hc:n'<=cap)(hn:m=0->a=none->n'=0):HS w0 M (.own (.slice a m n') t sz m xs::As') w:=by
 have h1:=h.pick hp
 refine h1.turn (λb hb=>by
  cases a with
  | none=>simp[HA.fp_own,Value.ownBlock]at hb
  | some x=>simpa[HA.fp_own,Value.ownBlock]using hb) λho=>?_
 obtain⟨hl0,⟨e,h0⟩|⟨g,cap',e,h2,h3,hb⟩⟩:=ho
 ·injection e with e1 e2 e3
  subst e1 e2 e3;refine⟨hl,.inl ⟨?_,om⟩⟩
  grind
 ·injection e with e1 e2 e3
  subst e1 e3;refine⟨hl,.inr ⟨g,n',rfl,hm,om,?_⟩⟩;exact hb.less.room (Nat.mul_le_mul_right _ hc) (by rw[hl];exact Nat.mul_le_mul_right _ hm)
theorem HS.to_own{w:World}{g cap t sz n:Nat}{cs xs ds:List Value}(hp:Qv As (.blk g t (cap*sz) cs) As')(h:HS w0 M As w)(he:cs=xs++ds)(hl:xs.length=n*sz)(hn:n<=cap)(hc:cap<=maxLen):HS w0 M (.own (.slice (some ⟨g,0,none⟩) n cap) t sz n xs::As') w:=by
 subst he;have h2:=h.blk_less hp;exact h2.own_shut hl hn hc
theorem HS.own_blk{w:World}{a:Option Addr}{t sz n n' cap:Nat}{xs:List Value}(hn:0<n)(hp:Qv As (.own (.slice a n' cap) t sz n xs) As')(h:HS w0 M As w):∃g,a=some ⟨g,0,none⟩/\n'=n/\n<=cap/\cap<=maxLen/\xs.length=n*sz/\HS w0 M (.blk g t (cap*sz) xs::As') w:=by
 obtain⟨g,cap',e,h1,h2,h3,h4⟩:=(h.pick hp).own_open' hn
 grind
theorem HS.own_facts{w:World}{a:Option Addr}{t sz n n' cap:Nat}{xs:List Value}(hp:Qv As (.own (.slice a n' cap) t sz n xs) As')(h:HS w0 M As w):n'=n/\n<=cap/\cap<=maxLen/\xs.length=n*sz:=by
 obtain⟨hl,h1|⟨g,cap',e,h2,h3,_⟩⟩:=(h.pick hp).head
 ·grind
 grind
theorem Qav(g cap sz:Nat):X1 (some ⟨g,0,none⟩) cap 0 sz=some ⟨g,0,none⟩:=by grind[X1,XG]
theorem Yc{g cap i sz:Nat}(h:i<cap):X1 (some ⟨g,0,none⟩) cap i sz=some ⟨g,i*sz,none⟩:=by grind[X1,XG]
theorem QbH{b tot:Nat}{bt:TypeId}{cs:List Value}{a:Option Addr}(i k:Nat)(ha:0<k->a=some ⟨b,i,none⟩)(hp:Qv As (.blk b bt tot cs) As'):∀w,HS w0 M As w->Src a (cut cs i k) w:=
 λ_ hw hne=>by
  have hk:0<k:=by
   rcases Nat.eq_zero_or_pos k with e|h
   ·subst e;exact absurd (by simp[cut]) hne
   ·exact h
  exact⟨b,i,ha hk,λj u hu=>(hw.blk_get hp).cell (by
   unfold cut at hu;rw[List.getElem?_take]at hu;split at hu
   ·rw[List.getElem?_drop]at hu;exact hu
   ·cases hu)⟩
theorem Qkt{t e:TypeId}{x:Operand}{a:Option Addr}{n cap:Nat}(ho:o.op=.call {callee:=.builtin .cap,args:=#[x],argTypes:=#[t]})(hx:ev L x=some (.slice a n cap))(h:P.underlying t=some (.slice e)):OpP P o L (.int .i64 cap):=by
 intro ρ w hρ;simp[execOp,ho,resolve,invoke,builtin,Builtin.cap_,hρ _ _ hx,run_underlying h,goInt]
theorem QdZ{sz k m c:Nat}{a:Option Addr}{news:List Value}{w:World}(hl:news.length=k*sz)(h:Src a news w):(Builtin.firstCells sz k (.slice a m c)).run P w=.ok news.toArray w:=by
 cases news with
 | nil=>
  cases a with
  | none=>simp[Builtin.firstCells]
  | some ad=>exact run_firstCells_some w sz k ad m c [] hl (λj v hv=>by simp at hv)
 | cons u us=>
  obtain⟨b,i,rfl,h2⟩:=h (by simp);exact run_firstCells_some w sz k ⟨b,i,none⟩ m c _ hl (λj v hv=>by rw[XG];exact h2 j v hv)
theorem Qbo{dt st e sz by' n m cd cs' b tot i:Nat}{d s:Operand}{ad as_:Option Addr}{bt:TypeId}{cs:List Value}(k:Nat)(news:List Value)(ho:o.op=.call {callee:=.builtin .copy,args:=#[d,s],argTypes:=#[dt,st]})(hd:ev L d=some (.slice ad n cd))(hs:ev L s=some (.slice as_ m cs'))(ht:tsl P dt=some (e,sz,by'))
  (hp:Put As (.blk b bt tot cs) (.blk b bt tot (Qu cs i news)) As')(hk:min m n=k)(hl:news.length=k*sz)(ha:0<k->ad=some ⟨b,i,none⟩)(hr:i+news.length<=cs.length)(hsrc:∀w,HS w0 M As w->Src as_ news w)(h1:∀u∈news,u.oneCell'=true) :
  OpH P o L (HS w0 M As) (λ_:Unit=>.int .i64 (k:Int)) (λ_=>True) (λ_=>HS w0 M As'):=by
 intro ρ w hρ hw;obtain⟨hu,inf,hi,hs1,hs2⟩:=XZ ht;have hk':Nat.min m n=k:=hk;have hsz:(Go.sizeOf e).run P w=.ok sz w:=by simp[Go.sizeOf,typeInfo,hi,hs1]
 have hfc:=QdZ (P:=P) (m:=m) (c:=cs') hl (hsrc w hw);obtain⟨Rs,h3,h4⟩:=hp.ex;have hpk:=hw.pick h3;rcases Nat.eq_zero_or_pos k with hk0|hk0
 ·subst hk0;have hn0:news=[]:=List.eq_nil_of_length_eq_zero (by simpa using hl);subst hn0
  have he:(Builtin.copy_ #[dt,st] o.type #[.slice ad n cd,.slice as_ m cs']).run P w=.ok (.int .i64 0) w:=by
   unfold Builtin.copy_;cases ad<;>simp[run_underlying hu,Builtin.lenOf,hk',hsz,hfc,goInt,storeCells]
  simp only[execOp,ho,resolve,Sem.run_bind,Sem.run_pure,Result.andThen_ok,invoke,builtin,List.map_toArray,List.map_cons,List.map_nil,hρ _ _ hd,hρ _ _ hs,he];exact⟨(),rfl,trivial,hpk.perm (by simpa[Qu]using h4)⟩
 ·obtain⟨w',hst,hb,r1,r2,r3,r4,r5⟩:=ZP (P:=P) news 0 cs w hpk.head (by simpa using hr) h1 (i:=i);rw[ha hk0]at hd
  have he:(Builtin.copy_ #[dt,st] o.type #[.slice (some ⟨b,i,none⟩) n cd,.slice as_ m cs']).run P w=.ok (.int .i64 (k:Int)) w':=by
   unfold Builtin.copy_;simp[run_underlying hu,Builtin.lenOf,hk',hsz,hfc,goInt,hst]
  simp only[execOp,ho,resolve,Sem.run_bind,Sem.run_pure,Result.andThen_ok,invoke,builtin,List.map_toArray,List.map_cons,List.map_nil,hρ _ _ hd,hρ _ _ hs,he];exact⟨(),rfl,trivial,(HS.swap hpk (B:=.blk b bt tot (Qu cs i news)) (λ_ h=>h) r1 r2 r3 r4 (λk hk=>r5 k (by simpa[HA.fp_blk]using hk)) (show Xc b bt tot (Qu cs i news) w' by simpa using hb)).perm h4⟩
theorem Qfz(zv:Array Value)(n:Nat):Builtin.zeroCells zv n=(Qb6 zv.toList (n*zv.size)).toArray:=by
 unfold Builtin.zeroCells Qb6
 grind
theorem ZJ{t xt e sz by' n m cap:Nat}{s x:Operand}{a:Option Addr}{z olds:List Value}(ho:o.op=.call {callee:=.builtin .append,args:=#[s,x],argTypes:=#[t,xt]})(hs:ev L s=some (.slice a n cap))(hx:ev L x=some (.int .i64 (m:Int)))(ht:tsl P t=some (e,sz,by'))(hxt:tki P xt=some .i64)(hz:Xs P e=some z)(hzs:z.length=sz)(hsz:0<sz)
  (hm:0<m)(hg:cap<n+m)(hold:∀w,HS w0 M As w->Src a olds w)(hl:olds.length=n*sz)(hroom:(n+m)*by'<=140737488355328)(hmax:n+m<=maxLen) :
  OpH P o L (HS w0 M As) (λp:Nat×Nat=>.slice (some ⟨p.1,0,none⟩) (n+m) p.2) (λp=>n+m<=p.2/\p.2<=maxLen) (λp=>HS w0 M (.blk p.1 e (p.2*sz) (olds++Qb6 z (m*sz))::As)):=by
 intro ρ w hρ hw;obtain⟨hu,inf,hi,hs1,hs2⟩:=XZ ht;obtain⟨inf',zv,h4,h5,h6⟩:=Y2 hz;rw[hi]at h4;injection h4 with h4;subst h4
 have hxk:=Qd7 hxt;have hti:∀w,(typeInfo e).run P w=.ok inf w:=λw=>by simp[typeInfo,hi]
 have hsz':∀w,(Go.sizeOf e).run P w=.ok sz w:=λw=>by simp[Go.sizeOf,typeInfo,hi,hs1]
 have hzr:∀w,(zeroValue e).run P w=.ok zv w:=λw=>by simp[zeroValue,typeInfo,hi,h5]
 have hzs':zv.cells.size=sz:=by rw[<-hzs,<-h6];simp
 have hmx:n+m<=9223372036854775807:=by simp only[maxLen]at hmax;omega
 have hwr:IntKind.i64.wrap (m:Int)=m:=IntWalk.i64_in _ ⟨om,om⟩;have hai:∀w,(asInt (.int .i64 (m:Int))).run P w=.ok (m:Int) w:=λw=>by simp[asInt,asIntOf]
 have e2:(2:Int)^48=281474976710656:=by decide
 have hm2:m*by'<=(n+m)*by':=Nat.mul_le_mul_right _ om;have d1:¬(m:Int)*((inf.bytes:Nat):Int)>2^48:=by rw[e2,hs2,<-Int.natCast_mul];omega
 have d2:¬(m:Int)<0:=om
 have d3:¬n+m<=cap:=om
 have hfit:=growslice_fits hg hroom
 have d4:¬((Builtin.nextslicecap (n+m) cap*inf.bytes:Nat)>2^48):=by
   rw[hs2];have:(2:Nat)^48=281474976710656:=by decide
   omega
 have d5:¬(((n+m:Nat):Int)>IntKind.i64.max):=by
  have:IntKind.i64.max=9223372036854775807:=by decide
  omega
 have hge:=grownCap_ge w (n+m) cap e;have hle:=grownCap_le_maxLen w (n+m) cap e hmax
 have hnz:¬m*sz=0:=by
  have:=Nat.mul_pos hm hsz;omega
 have hfo:(Builtin.firstCells sz n (.slice a n cap)).run P w.drew=.ok olds.toArray w.drew:=YR hl (hold w.drew hw.drew)
 have he:(Builtin.append_ #[t,xt] o.type #[.slice a n cap,.int .i64 (m:Int)]).run P w=.ok (.slice (some ⟨w.heap.size,0,none⟩) (n+m) (grownCap w (n+m) cap e)) (w.drew.alloc (.cells (olds.toArray++Builtin.zeroCells zv.cells m++Builtin.zeroCells zv.cells (grownCap w (n+m) cap e-(n+m))) e)):=by
  unfold Builtin.append_;simp only[List.getElem?_toArray,List.getElem?_cons_zero,List.getElem?_cons_succ,Sem.run_bind,Sem.run_pure,run_underlying hu,run_underlying hxk,Result.andThen_ok,hsz',if_true,hai,hwr,d2,if_false,hti,d1,Int.toNat_natCast,d3,d5,false_and,d4,Bool.not_true,Bool.false_eq_true,hnz];simp[Question.forced,hfo,newRow,grownCap,hzr,hti,d2,d3,d4,d5,hnz,hs2]
 simp only[execOp,ho,resolve,Sem.run_bind,Sem.run_pure,Result.andThen_ok,invoke,builtin,List.map_toArray,List.map_cons,List.map_nil,hρ _ _ hs,hρ _ _ hx,he];generalize grownCap w (n+m) cap e=N at *;refine⟨(w.heap.size,N),rfl,⟨hge,hle⟩,(hw.drew).alloc _ _ rfl ⟨_,_,heap_alloc_new _ _,?_,?_,λi hi=>?_,Nat.le_refl _,λ_ _ h=>absurd h (Nat.not_lt_zero _)⟩⟩
 ·refine Nat.le_of_eq (Eq.symm ?_);simp only[Array.size_append,List.size_toArray,size_zeroCells,hzs',hl];rw[<-Nat.add_mul,<-Nat.add_mul];congr 1;omega
 ·rw[List.length_append,hl,QY,<-Nat.add_mul];exact Nat.mul_le_mul_right _ hge
 ·rw[Qfz zv.cells m,hzs',h6,Array.getElem?_append_left (by simpa using hi)];simp
def QqV(P:Program)(f:FuncId)(t r:TypeId):Prop:=∃fn,P.funcs[f]?=some fn/\(fn.name== "runtime.NumGoroutine")=false/\fn.body.isNone=true/\Extern.findNext fn=none/\Extern.find fn=some (Extern.SlicesOverlaps.overlaps #[t,t] #[r])
theorem Qe7{f t r e sz by' n m c c' b b' tot tot' i j:Nat}{bt bt':TypeId}{x y:Operand}{at':Array TypeId}{cs cs':List Value}{As1 As2:List HA}(ho:o.op=.call {callee:=.value (.func f),args:=#[x,y],argTypes:=at'})(hf:QqV P f t r)(hx:ev L x=some (.slice (some ⟨b,i,none⟩) n c))(hy:ev L y=some (.slice (some ⟨b',j,none⟩) m c'))(ht:tsl P t=some (e,sz,by'))
  (hp:Qv As (.blk b bt tot cs) As1)(hp':Qv As1 (.blk b' bt' tot' cs') As2)(hb:bt≠u8T)(hi:i<tot)(hj:0<tot'):OpQ P o L (HS w0 M As) (.bool false):=by
 intro ρ w hρ hw;obtain⟨fn,h1,h2,h3,h4,h5⟩:=hf;obtain⟨hu,inf,hi',hs1,hs2⟩:=XZ ht;have hne:=hw.ne hp hp';have g1:=hw.blk_get hp;have g2:=(hw.pick hp).tail.blk_get hp';have hsz:∀w,(Go.sizeOf e).run P w=.ok sz w:=λw=>by simp[Go.sizeOf,typeInfo,hi',hs1]
 obtain⟨k1,hk1,hs1',hu1⟩:=g1.shape;obtain⟨k2,hk2,hs2',hu2⟩:=g2.shape;have hrun:=Lib.run_overlaps_apart w t r e hu sz hsz ⟨b,i,none⟩ ⟨b',j,none⟩ n c m c' hne bt bt' k1 k2 hs1' hs2' om (g1.frozen hi) (hu1 hb);have hcall:=run_callFunc_extern h1 h2 h3 h4 h5 #[.slice (some ⟨b,i,none⟩) n c,.slice (some ⟨b',j,none⟩) m c'] w;rw[hrun]at hcall
 have:(execOp ρ o).run P w=.ok (.value (.bool false)) w:=by
  unfold execOp;simp only[ho,resolve,Sem.run_bind,hρ (.func f) _ rfl,Deferred.ofValue,Sem.run_pure,Result.andThen_ok,invoke,List.map_toArray,List.map_cons,List.map_nil,hρ _ _ hx,hρ _ _ hy,Array.empty_append,Array.append_empty,hcall]
 rw[this];exact⟨rfl,Below.refl _ _⟩
theorem QmA{t e sz by':Nat}{x lo hi mx:Operand}{a:Option Addr}{n cap:Nat}{k1 k2 k3:IntKind}{i1 i2 i3:Int}(i j m:Nat)(ho:o.op=.slice t x (some lo) (some hi) (some mx))(hx:ev L x=some (.slice a n cap))(hl:ev L lo=some (.int k1 i1))(hh:ev L hi=some (.int k2 i2))(hm:ev L mx=some (.int k3 i3))(ht:tsl P t=some (e,sz,by'))(e1:i1=(i:Int))(e2:i2=(j:Int))(e3:i3=(m:Int))(hij:i<=j)(hjm:j<=m)(hmc:m<=cap) :
  OpP P o L (.slice (X1 a m i sz) (j-i) (m-i)):=by
 intro ρ w hρ;obtain⟨hu,inf,h1,h2,_⟩:=XZ ht;subst e1 e2 e3;simp[execOp,ho,hρ _ _ hx,hρ _ _ hl,hρ _ _ hh,hρ _ _ hm,Instr.sliceAt,Instr.slice,Instr.sliceBounds,Instr.sliceBound,asIntOf,run_underlying hu,hij,hjm,hmc,Go.sizeOf,typeInfo,h1,h2,X1]
end
theorem Xt(cs:List Value)(i k:Nat)(h:i+k<=cs.length):(cut cs i k).length=k:=by grind[cut]
theorem QgZ{cs:List Value}(h:∀u∈cs,u.oneCell'=true)(i k:Nat):∀u∈cut cs i k,u.oneCell'=true:=λu hu=>h u (List.mem_of_mem_drop (List.mem_of_mem_take hu))
theorem Ze:∀(vs cs:List Value)(i j:Nat),(Qu cs i vs)[j]?=if i<=j/\j<i+vs.length/\j<cs.length then vs[j-i]? else cs[j]?
 | [],cs,i,j=>by rw[Qu,if_neg (by simp only[List.length_nil];omega)]
 | v::vs,cs,i,j=>by
  rw[Qu,Ze vs (cs.set i v) (i+1) j]
  grind
theorem QjD(cs:List Value)(i k j:Nat):(cut cs i k)[j]?=if j<k then cs[i+j]? else none:=by grind[cut]
theorem QjH{xs ds:List Value}{i k:Nat}(h:∀u∈xs,u.oneCell'=true)(hk:i+k<=xs.length):∀u∈cut (xs++ds) i k,u.oneCell'=true:=by grind[cut,QgZ]
theorem Qib{xs news z:List Value}{p q N:Nat}(hx:xs.length=N)(hp:p<=N)(hn:news.length=q)(hz:z.length=N+q-p):Qu (Qu (cut xs 0 p++z) p news) (p+q) (cut xs p (N-p))=xs.take p++news++xs.drop p:=by
 have h1:(cut xs 0 p).length=p:=Xt _ _ _ om;have h2:(cut xs p (N-p)).length=N-p:=Xt _ _ _ om;apply List.ext_getElem?
 grind[Ze,QjD,Qb]
theorem QmL{xs ds news:List Value}{p q N:Nat}(hx:xs.length=N)(hp:p<=N)(hn:news.length=q)(hd:q<=ds.length):Qu (Qu (xs++ds) (p+q) (cut (xs++ds) p (N-p))) p news=(xs.take p++news++xs.drop p)++ds.drop q:=by
 have h2:(cut (xs++ds) p (N-p)).length=N-p:=Xt _ _ _ (by simp;omega);apply List.ext_getElem?;intro j;simp only[Ze,List.getElem?_append,List.getElem?_take,List.getElem?_drop,QjD,Qb,List.length_append,List.length_take,List.length_drop,h2,hx,hn]
 grind
theorem Xc.len_le{b t tot:Nat}{cs:List Value}{w:World}(h:Xc b t tot cs w):cs.length<=tot:=by
 obtain⟨_,_,_,_,h3,_⟩:=h;exact h3
def QeR(L:Qe)(m:Nat):Bool:=(L.take m).all λp=>(Qe.get (L.drop m) p.1).isNone
theorem QhN:∀(m:Nat)(L:Qe)(t:Nat)(v:Value),QeR L m=true->Qe.get (L.drop m) t=some v->Qe.get L t=some v
 | 0,L,t,v,_,h=>h
 | m+1,[],t,v,_,h=>by cases h
 | m+1,(k,u)::L,t,v,hf,h=>by
  simp only[QeR,List.take_succ_cons,List.drop_succ_cons,List.all_cons,Bool.and_eq_true]at hf;simp only[List.drop_succ_cons]at h;rw[Qe.get_cons]
  by_cases e:k=t
  ·grind
  ·rw[if_neg e];exact QhN m L t v hf.2 h
theorem Qko{X:Ctx}{k:List KI}{L:Qe}{LJ:Unit->Qe}{C:World->Prop}{CJ:Unit->World->Prop}(m dp:Nat)(v:Value)(hJ:LJ ()=(dp,v)::L.drop m)(hv:Qe.get L dp=some v)(hf:QeR L m=true)(hC:∀w,C w->CJ () w):S X (.join (At X.n X.df LJ CJ)::k) L C:=
 λa w ha hw=>⟨(),⟨ha.defers,ha.size,λt u hu=>by
  rw[hJ,Qe.get_cons]at hu
  by_cases e:dp=t
  ·subst e;rw[if_pos rfl]at hu;injection hu with hu
   subst hu;exact ha.slot _ _ hv
  ·rw[if_neg e]at hu;exact ha.slot _ _ (QhN m L t u hf hu)⟩,hC w hw⟩
end Gx
namespace Gx
open Go Go.RowKit
def QrS(As:List HA):Prop:=As.Pairwise λA B=>∀b∈A.fp,b ∉ B.fp
def HA.star(As:List HA):HA:=⟨fps As,λw=>(∀A∈As,A.ok w)/\QrS As,λw w' h ha=>⟨λA hA=>A.loc w w' (λb hb=>h b (List.mem_flatMap.2 ⟨A,hA,hb⟩)) (ha.1 A hA),ha.2⟩⟩
section
variable{w0 w:World}{M:List Nat}{As Bs:List HA}
theorem HS.star_open(h:HS w0 M (.star Bs::As) w):HS w0 M (Bs++As) w:=by
 have h1:=h.head;have hs:=List.pairwise_cons.1 h.sep;refine⟨h.os,h.tape,h.output,h.size,h.old,λA hA=>?_,λA hA b hb=>?_,?_⟩
 ·rcases List.mem_append.1 hA with hA|hA
  ·exact h1.1 A hA
  ·exact h.ok A (List.mem_cons_of_mem _ hA)
 ·rcases List.mem_append.1 hA with hA|hA
  ·exact h.lt _ (List.mem_cons_self ..) b (List.mem_flatMap.2 ⟨A,hA,hb⟩)
  ·exact h.lt A (List.mem_cons_of_mem _ hA) b hb
 ·rw[List.pairwise_append];exact⟨h1.2,hs.2,λA hA B hB b hb=>hs.1 B hB b (List.mem_flatMap.2 ⟨A,hA,hb⟩)⟩
theorem HS.star_close(h:HS w0 M (Bs++As) w):HS w0 M (.star Bs::As) w:=by
 have hs:=List.pairwise_append.1 h.sep;refine⟨h.os,h.tape,h.output,h.size,h.old,λA hA=>?_,λA hA b hb=>?_,?_⟩
 ·rcases List.mem_cons.1 hA with rfl|hA
  ·exact⟨λA hA=>h.ok A (List.mem_append_left _ hA),hs.1⟩
  ·exact h.ok A (List.mem_append_right _ hA)
 ·rcases List.mem_cons.1 hA with rfl|hA
  ·obtain⟨B,hB,hb⟩:=List.mem_flatMap.1 hb;exact h.lt B (List.mem_append_left _ hB) b hb
  ·exact h.lt A (List.mem_append_right _ hA) b hb
 ·refine List.pairwise_cons.2 ⟨λA hA b hb=>?_,hs.2.1⟩;obtain⟨B,hB,hb⟩:=List.mem_flatMap.1 hb
  grind
theorem HS.star_perm{Bs':List HA}(hp:Bs.Perm Bs')(h:HS w0 M (.star Bs::As) w):HS w0 M (.star Bs'::As) w:=
 HS.star_close (h.star_open.perm (hp.append_right As))
theorem HS.star_cons{A:HA}(h:HS w0 M (A::.star Bs::As) w):HS w0 M (.star (A::Bs)::As) w:=by
 have h1:HS w0 M (Bs++(A::As)) w:=(h.perm (List.Perm.swap ..)).star_open;exact HS.star_close (Bs:=A::Bs) (h1.perm List.perm_middle)
theorem HS.star_uncons{A:HA}(h:HS w0 M (.star (A::Bs)::As) w):HS w0 M (A::.star Bs::As) w:=by
 have h1:HS w0 M (A::(Bs++As)) w:=h.star_open;have h2:HS w0 M (Bs++(A::As)) w:=h1.perm List.perm_middle.symm;exact(HS.star_close h2).perm (List.Perm.swap ..)
theorem HS.star_nil(h:HS w0 M As w):HS w0 M (.star []::As) w:=HS.star_close (Bs:=[]) h
end
section
variable{α:Type}{vals:α->List Value}{sz:Nat}
theorem Qq(hv:∀x,(vals x).length=sz):∀l:List α,(l.flatMap vals).length=l.length*sz
 | []=>by simp
 | x::l=>by rw[List.flatMap_cons,List.length_append,hv,Qq hv l,List.length_cons,Nat.add_mul];omega
theorem QbA(hv:∀x,(vals x).length=sz):∀(l:List α)(i j:Nat)(x:α),l[i]?=some x->j<sz->(l.flatMap vals)[i*sz+j]?=(vals x)[j]?
 | [],i,j,x,h,_=>by simp at h
 | y::l,0,j,x,h,hj=>by grind
 | y::l,i+1,j,x,h,hj=>by
  rw[List.getElem?_cons_succ]at h;rw[List.flatMap_cons,List.getElem?_append_right (by rw[hv,Nat.add_mul];omega),hv,show(i+1)*sz+j-sz=i*sz+j by rw[Nat.add_mul];omega];exact QbA hv l i j x h hj
theorem Xz(l m:List α):(l++m).flatMap vals=l.flatMap vals++m.flatMap vals:=List.flatMap_append ..
theorem Qlf(hv:∀x,(vals x).length=sz)(l:List α)(i:Nat):(l.flatMap vals).take (i*sz)=(l.take i).flatMap vals:=by
 rcases Nat.lt_or_ge i l.length with h|h
 ·conv=>lhs;rw[<-List.take_append_drop i l,Xz]
  have hl:((l.take i).flatMap vals).length=i*sz:=by rw[Qq hv,List.length_take,Nat.min_eq_left om]
  grind
 ·rw[List.take_of_length_le (by rw[Qq hv];exact Nat.mul_le_mul_right _ h),List.take_of_length_le h]
theorem Qk1(hv:∀x,(vals x).length=sz)(l:List α)(i:Nat):(l.flatMap vals).drop (i*sz)=(l.drop i).flatMap vals:=by
 rcases Nat.lt_or_ge i l.length with h|h
 ·conv=>lhs;rw[<-List.take_append_drop i l,Xz]
  have hl:((l.take i).flatMap vals).length=i*sz:=by rw[Qq hv,List.length_take,Nat.min_eq_left om]
  grind
 ·rw[List.drop_of_length_le (by rw[Qq hv];exact Nat.mul_le_mul_right _ h),List.drop_of_length_le h];rfl
theorem QhS(xs ys vs:List Value)(i:Nat)(h:xs.length<=i):Qu (xs++ys) i vs=xs++Qu ys (i-xs.length) vs:=by
 apply List.ext_getElem?
 grind[Ze]
theorem Qhe(xs ys vs:List Value)(i:Nat)(h:i+vs.length<=xs.length):Qu (xs++ys) i vs=Qu xs i vs++ys:=by
 apply List.ext_getElem?
 grind[Ze,Qb]
theorem Qbb(hv:∀x,(vals x).length=sz):∀(l:List α)(i o:Nat)(vs:List Value)(x y:α),l[i]?=some x->vals y=Qu (vals x) o vs->o+vs.length<=sz->Qu (l.flatMap vals) (i*sz+o) vs=(l.set i y).flatMap vals
 | [],i,o,vs,x,y,h,_,_=>by simp at h
 | z::l,0,o,vs,x,y,h,he,ho=>by grind[Qhe]
 | z::l,i+1,o,vs,x,y,h,he,ho=>by
  rw[List.getElem?_cons_succ]at h;have hz:=hv z;rw[List.flatMap_cons,QhS _ _ _ _ (by rw[hz,Nat.add_mul];omega),hz,show(i+1)*sz+o-sz=i*sz+o by rw[Nat.add_mul];omega,Qbb hv l i o vs x y h he ho,List.set_cons_succ,List.flatMap_cons]
theorem Yh(h1:∀x,∀u∈vals x,u.oneCell'=true)(l:List α):∀u∈l.flatMap vals,u.oneCell'=true:=λu hu=>by grind
variable[Inhabited α]
def nth(l:List α)(i:Nat):α:=l.getD i default
theorem QB{l:List α}{i:Nat}(h:i<l.length):l[i]?=some (nth l i):=by grind[nth]
theorem QH{l:List α}{i:Nat}{x:α}(h:l[i]?=some x):nth l i=x:=by grind[nth]
def Rw(vals:α->List Value)(sz:Nat)(w:World)(M:List Nat)(a:Option Addr)(l:List α):Prop:=Sl w M a sz l.length λi=>vals (nth l i)
theorem Rw.later{w w':World}{M:List Nat}{As:List HA}{a:Option Addr}{l:List α}(h:Rw vals sz w M a l)(hs:HS w M As w'):Rw vals sz w' [] a l:=Sl.later h hs λ_ _ _=>by simp
theorem Rw.rd{w:World}{M:List Nat}{a:Option Addr}{l:List α}(h:Rw vals sz w M a l){i:Nat}(hi:i<l.length):∀j v,(vals (nth l i))[j]?=some v->Rd w M (ab a) (ao a+i*sz+j) v:=λ_ _ hv=>Sl.rd h hi hv
theorem Rw.rdj{w:World}{M:List Nat}{a:Option Addr}{l:List α}(h:Rw vals sz w M a l){i:Nat}(j:Nat){v:Value}(hi:i<l.length)(hv:(vals (nth l i))[j]?=some v):Rd w M (ab a) (ao a+i*sz+j) v:=Sl.rd h hi hv
theorem Rw.some{w:World}{M:List Nat}{a:Option Addr}{l:List α}(h:Rw vals sz w M a l)(hn:0<l.length):a=.some ⟨ab a,ao a,none⟩:=Sl.some h hn
theorem Rw.src(hv:∀x,(vals x).length=sz){w0 w:World}{M:List Nat}{As:List HA}{a:Option Addr}{l:List α}(h:Rw vals sz w0 M a l)(hw:HS w0 M As w):Src a (l.flatMap vals) w:=λhne=>by
 have hn:0<l.length:=by grind
 have hsz:0<sz:=by rcases Nat.eq_zero_or_pos sz with e|e<;>simp_all
 refine⟨ab a,ao a,h.some hn,λj u hu=>?_⟩;have hj:j<l.length*sz:=by grind[Qq]
 have hi:j/sz<l.length:=Nat.div_lt_of_lt_mul (by rw[Nat.mul_comm];exact hj);have e:j=j/sz*sz+j%sz:=by rw[Nat.mul_comm];exact(Nat.div_add_mod j sz).symm
 have hm:=Nat.mod_lt j hsz;have hg:=QbA hv l (j/sz) (j%sz) _ (QB hi) hm;rw[<-e]at hg;have:=hw.rd (h.rd hi (j%sz) u (by rw[<-hg];exact hu))
 rwa[Nat.add_assoc,<-e]at this
theorem HS.keep{w0 w:World}{M:List Nat}{As:List HA}{b o:Nat}{v:Value}(h:HS w0 M As w)(hr:Rd w0 M b o v):Rd w (fps As) b o v:=
 ⟨Nat.lt_of_lt_of_le hr.1 h.size,λhb=>by
  obtain⟨A,hA,hb⟩:=List.mem_flatMap.1 hb;exact hr.2.1 ((h.lt A hA b hb).2 hr.1),h.rd hr⟩
theorem Rw.keep{w0 w:World}{M:List Nat}{As:List HA}{a:Option Addr}{l:List α}(h:Rw vals sz w0 M a l)(hs:HS w0 M As w):Rw vals sz w (fps As) a l:=
 ⟨λhn=>by
  obtain⟨b,o,rfl,h2⟩:=h.at_ hn;exact⟨b,o,rfl,λi hi=>⟨(h2 i hi).1,λj v hv=>hs.keep ((h2 i hi).2 j v hv)⟩⟩⟩
theorem Rd.mono{w:World}{M M':List Nat}{b o:Nat}{v:Value}(h:Rd w M b o v)(hM:∀b∈M',b∈M):Rd w M' b o v:=⟨h.1,λhb=>h.2.1 (hM b hb),h.2.2⟩
theorem Rw.mono{w:World}{M M':List Nat}{a:Option Addr}{l:List α}(h:Rw vals sz w M a l)(hM:∀b∈M',b∈M):Rw vals sz w M' a l:=
 ⟨λhn=>by
  obtain⟨b,o,rfl,h2⟩:=h.at_ hn;exact⟨b,o,rfl,λi hi=>⟨(h2 i hi).1,λj v hv=>((h2 i hi).2 j v hv).mono hM⟩⟩⟩
variable{w0 w:World}{M:List Nat}{As As':List HA}
theorem Qkg(hv:∀x,(vals x).length=sz)(l:List α):∀i,i<l.length->(vals (nth l i)).length=sz/\∀j v,(vals (nth l i))[j]?=some v->(l.flatMap vals)[i*sz+j]?=some v:=λi hi=>⟨hv _,λj v hj=>by
 have hlt:j<sz:=by grind
 rw[QbA hv l i j _ (QB hi) hlt];exact hj⟩
theorem HS.rw_own(hv:∀x,(vals x).length=sz){a:Option Addr}{cap n t:Nat}{l:List α}(h:HS w0 M As w)(hp:Qv As (.own (.slice a n cap) t sz n (l.flatMap vals)) As')(hn:n=l.length):Rw vals sz w [] a l:=by
 subst hn;exact h.sl_own hp rfl (Qkg hv l)
theorem HS.rw_blk(hv:∀x,(vals x).length=sz){b tot t:Nat}{l:List α}(h:HS w0 M As w)(hp:Qv As (.blk b t tot (l.flatMap vals)) As'):Rw vals sz w [] (.some ⟨b,0,none⟩) l:=
 h.sl_blk hp (Qkg hv l)
theorem Rw.none{w:World}{M:List Nat}{l:List α}(h:Rw vals sz w M Option.none l):l=[]:=by
 rcases l with _|⟨x,l⟩
 ·rfl
 ·exact absurd (h.some (by simp)) (by simp)
def HA.row(t sz:Nat)(vals:α->List Value)(sub:α->HA)(a:Option Addr)(cap:Nat)(l:List α):HA:=.star (.own (.slice a l.length cap) t sz l.length (l.flatMap vals)::l.map sub)
variable{t cap:Nat}{sub:α->HA}{a:Option Addr}{l:List α}
theorem HS.row_open(h:HS w0 M (.row t sz vals sub a cap l::As) w):HS w0 M (.own (.slice a l.length cap) t sz l.length (l.flatMap vals)::.star (l.map sub)::As) w:=h.star_uncons
theorem HS.row_shut{n:Nat}{xs:List Value}(h:HS w0 M (.own (.slice a n cap) t sz n xs::.star (l.map sub)::As) w)(hn:n=l.length)(hx:xs=l.flatMap vals):HS w0 M (.row t sz vals sub a cap l::As) w:=by
 subst hn hx;exact h.star_cons
theorem Qil{β:Type}(l:List β)(i:Nat)(x:β)(h:l[i]?=some x):l.Perm (x::(l.take i++l.drop (i+1))):=by
 have hi:i<l.length:=by grind
 have e:l=l.take i++x::l.drop (i+1):=by
  have h2:=List.getElem?_eq_getElem hi;rw[h2]at h;injection h with h
  rw[<-h,<-List.drop_eq_getElem_cons hi,List.take_append_drop]
 conv=>lhs;rw[e]
 exact List.perm_middle
def Qbm(l:List α)(i:Nat):List α:=l.take i++l.drop (i+1)
theorem HS.sub_open{i:Nat}(hi:i<l.length)(h:HS w0 M (.star (l.map sub)::As) w):HS w0 M (sub (nth l i)::.star ((Qbm l i).map sub)::As) w:=by
 refine HS.star_uncons (h.star_perm ?_);exact(Qil l i _ (QB hi)).map sub
theorem QiG(l:List α)(i:Nat)(x:α):Qbm (l.set i x) i=Qbm l i:=by
 unfold Qbm;rw[List.take_set_of_le (Nat.le_refl i),List.drop_set_of_lt (Nat.lt_succ_self i)]
theorem HS.sub_shut{i:Nat}{x:α}(hi:i<l.length)(h:HS w0 M (sub x::.star ((Qbm l i).map sub)::As) w):HS w0 M (.star ((l.set i x).map sub)::As) w:=by
 refine HS.star_perm ?_ h.star_cons;have h1:=(Qil (l.set i x) i x (by rw[List.getElem?_set_self hi])).map sub;rw[show(l.set i x).take i++(l.set i x).drop (i+1)=Qbm l i from QiG l i x]at h1;exact h1.symm
def QL(l:List α)(i:Nat)(x:α):List α:=l.take i++x::l.drop i
theorem HS.sub_app{x:α}(h:HS w0 M (sub x::.star (l.map sub)::As) w):HS w0 M (.star ((l++[x]).map sub)::As) w:=by
 refine HS.star_perm ?_ h.star_cons;have h1:(x::l).Perm (l++[x]):=(List.perm_append_singleton x l).symm;exact h1.map sub
end
structure KeyK(P:Program)(kt:TypeId){α:Type}(K:α->Value):Prop where
 und:∃d,P.underlying kt=some d/\(∀a b,(Instr.sameNow d (K a) (K b)=some true ↔ a=b)/\(Instr.sameNow d (K a) (K b)=some false ↔ a≠b))
 chk:∀a e w,(Instr.checkKey e 10000 kt (K a)).run P w=.ok () w
 bits:∀a,Instr.sameBits 10000 (K a) (K a)=true
theorem QjL{P:Program}{kt:TypeId}(h:tki P kt=some .i64):KeyK P kt (λn:Int=>Value.int .i64 n):=by
 have hu:=Qd7 h;refine⟨⟨_,hu,λa b=>?_⟩,λa e w=>?_,λa=>?_⟩
 ·simp[Instr.sameNow]
 ·rw[show(10000:Nat)=9999+1 by rfl,Instr.checkKey];simp[run_underlying hu]
 ·rw[show(10000:Nat)=9999+1 by rfl,Instr.sameBits];simp
theorem QlE(a b:List UInt8):(bs a==bs b)=decide (a=b):=by
 rw[beq_toListBytes,ByteArray.toList_eq,ByteArray.toList_eq];show(a==b)=_
 grind
theorem Qeg{P:Program}{kt:TypeId}(h:P.underlying kt=some .string):KeyK P kt (λl:List UInt8=>Value.string (bs l)):=by
 refine⟨⟨_,h,λa b=>?_⟩,λa e w=>?_,λa=>?_⟩
 ·have:=QlE a b;simp[Instr.sameNow,this]
 ·rw[show(10000:Nat)=9999+1 by rfl,Instr.checkKey];simp[run_underlying h]
 ·have:=QlE a a;show Instr.sameBits (9999+1) (.string (bs a)) (.string (bs a))=true;simp[Instr.sameBits,this]
def QfV(w:World)(r:Nat)(o:Obj):World:={w with heap:=w.heap.setIfInBounds r o}
theorem QaK{P:Program}{w:World}{r:Nat}{es:Array MapEntry}{clock:Nat}(h:w.heap[r]?=some (.map es clock)):(getObj r).run P w=.ok (.map es clock) w:=by simp[getObj,Sem.run,h]
theorem Qfe{P:Program}{w:World}{r:Nat}{es:Array MapEntry}{clock:Nat}(o:Obj)(h:w.heap[r]?=some (.map es clock)):(setObj r o).run P w=.ok () (QfV w r o):=by simp[setObj,Sem.run,h,QfV]
section
variable{α:Type}{K:α->Value}
def MpOk(r:Nat)(K:α->Value)(ks:List α)(w:World):Prop:=∃es clock,w.heap[r]?=some (.map es clock)/\es.toList.map (λe=>(e.key,e.val))=ks.map λa=>(K a,Value.bool true)
def HA.mp(r:Nat)(K:α->Value)(ks:List α):HA:=⟨[r],MpOk r K ks,λw w' h ha=>by
 obtain⟨es,clock,h1,h2⟩:=ha;exact⟨es,clock,(h r (List.mem_singleton.2 rfl)).trans h1,h2⟩⟩
theorem HA.fp_mp(r:Nat)(ks:List α):(HA.mp r K ks).fp=[r]:=rfl
theorem QaQ{d:TypeDesc}(hd:∀a b,(Instr.sameNow d (K a) (K b)=some true ↔ a=b)/\(Instr.sameNow d (K a) (K b)=some false ↔ a≠b))(a:α):∀(es:List MapEntry)(ks:List α)(i:Nat),es.map (λe=>(e.key,e.val))=ks.map (λa=>(K a,Value.bool true)) ->
  (a ∉ ks/\Instr.findNow d (K a) es i=some none)\/(a∈ks/\∃j,es[j]?≠none/\ks[j]?=some a/\Instr.findNow d (K a) es i=some (some (i+j,.bool true)))
 | [],[],i,_=>.inl ⟨by simp,rfl⟩
 | [],_::_,i,h=>by cases h
 | _::_,[],i,h=>by cases h
 | e::es,k::ks,i,h=>by
  simp only[List.map_cons,List.cons.injEq,Prod.mk.injEq]at h;obtain⟨⟨hk,hv⟩,hr⟩:=h
  by_cases e1:a=k
  ·subst e1;refine .inr ⟨List.mem_cons_self ..,0,by simp,rfl,?_⟩;rw[Instr.findNow,hk,(hd a a).1.2 rfl,hv];rfl
  ·have h1:=(hd a k).2.2 e1;rcases QaQ hd a es ks (i+1) hr with⟨h2,h3⟩|⟨h2,j,h4,h6,h5⟩
   ·refine .inl ⟨by simp[e1,h2],?_⟩;rw[Instr.findNow,hk,h1];exact h3
   ·refine .inr ⟨List.mem_cons_of_mem _ h2,j+1,by simpa using h4,by simpa using h6,?_⟩;rw[Instr.findNow,hk,h1]
    grind
variable{P:Program}{o:Oper}{L:Qe}{w0:World}{M:List Nat}{As As':List HA}
theorem Qdt{t:TypeId}(ho:o.op=.makeMap t none)(K:α->Value):OpH P o L (HS w0 M As) (λr:Nat=>.map (some r)) (λ_=>True) (λr=>HS w0 M (.mp r K []::As)):=by
 intro ρ w hρ hw;simp only[execOp,ho,Option.map_none,run_makeMap,Sem.run_bind,Result.andThen_ok,Sem.run_pure];exact⟨w.heap.size,rfl,trivial,hw.alloc (.map #[] 0) (.mp w.heap.size K []) rfl ⟨#[],0,heap_alloc_new w _,rfl⟩⟩
def tzv(P:Program)(t:TypeId):Option Value:=(P.info? t).bind (·.zero)
open Classical in
theorem QeV{t kt et r:Nat}{m x:Operand}{ks:List α}{a:α}(ho:o.op=.lookup t m x false)(hm:ev L m=some (.map (some r)))(hx:ev L x=some (K a))(ht:P.underlying t=some (.map kt et))(hz:tzv P et=some (.bool false))(hK:KeyK P kt K)(hp:Qv As (.mp r K ks) As'):OpQ P o L (HS w0 M As) (.bool (decide (a∈ks))):=by
 intro ρ w hρ hw
 obtain⟨es,clock,h1,h2⟩:=(hw.pick hp).head
 obtain⟨d,hd,hs⟩:=hK.und
 have hzr:(zeroValue et).run P w=.ok (.bool false) w:=by
  unfold tzv at hz
  cases hi:P.info? et with
  | none=>rw[hi]at hz;cases hz
  | some inf=>
   rw[hi]at hz
   have hz':inf.zero=some (.bool false):=hz
   simp[zeroValue,typeInfo,hi,hz']
 have hl:(Instr.lookup t (.map (some r)) (K a) false).run P w=.ok (.bool (decide (a∈ks))) w:=by
  unfold Instr.lookup
  rcases QaQ hs a es.toList ks 0 h2 with⟨h3,h4⟩|⟨h3,j,_,_,h4⟩
  ·simp[run_underlying ht,QaK h1,hK.chk,Instr.findKey,run_underlying hd,h4,hzr,h3]
  ·simp[run_underlying ht,QaK h1,hK.chk,Instr.findKey,run_underlying hd,h4,h3]
 simp only[execOp,ho,hρ _ _ hm,hρ _ _ hx,Sem.run_bind,hl,Result.andThen_ok,Sem.run_pure]
 exact⟨rfl,Below.refl _ _⟩
open Classical in
noncomputable def QaS(ks:List α)(a:α):List α:=if a∈ks then ks else ks++[a]
theorem Qbf{t kt et r:Nat}{m x y:Operand}{ks:List α}{a:α}(ho:o.op=.mapUpdate t m x y\/o.op=.insert t m x y)(hm:ev L m=some (.map (some r)))(hx:ev L x=some (K a))(hy:ev L y=some (.bool true))(ht:P.underlying t=some (.map kt et))(hK:KeyK P kt K)(hp:Put As (.mp r K ks) (.mp r K (QaS ks a)) As') :
  OpH P o L (HS w0 M As) (λ_:Unit=>undef) (λ_=>True) (λ_=>HS w0 M As'):=by
 intro ρ w hρ hw;obtain⟨Rs,hp1,hp2⟩:=hp.ex;have hpk:=hw.pick hp1;obtain⟨es,clock,h1,h2⟩:=hpk.head;obtain⟨d,hd,hs⟩:=hK.und
 have hl:∃(es':Array MapEntry)(clock':Nat),(Instr.mapUpdate t (.map (some r)) (K a) (.bool true)).run P w=.ok () (QfV w r (.map es' clock'))/\es'.toList.map (λe=>(e.key,e.val))=(QaS ks a).map λa=>(K a,Value.bool true):=by
  unfold Instr.mapUpdate;rcases QaQ hs a es.toList ks 0 h2 with⟨h3,h4⟩|⟨h3,j,h5,h6,h4⟩
  ·refine⟨es.push {key:=K a,val:=.bool true,born:=clock},clock+1,?_,?_⟩
   ·simp[run_underlying ht,QaK h1,Qfe _ h1,hK.chk,Instr.findKey,run_underlying hd,h4]
   grind[QaS]
  ·rw[Nat.zero_add]at h4
   have hj:(es[j]?).map (·.key)=some (K a):=by
    have:=congrArg (λl:List (Value×Value)=>(l[j]?).map (·.1)) h2
    grind
   refine⟨es.modify j λe=>{e with key:=K a,val:=.bool true},clock,?_,?_⟩
   ·simp[run_underlying ht,QaK h1,Qfe _ h1,hK.chk,Instr.findKey,run_underlying hd,h4,hj,Instr.keyThatStays,hK.bits]
   ·rw[QaS,if_pos h3,<-h2];apply List.ext_getElem?
    grind
 obtain⟨es',clock',hr,he⟩:=hl
 have hex:(execOp ρ o).run P w=.ok (.value undef) (QfV w r (.map es' clock'))\/(execOp ρ o).run P w=.ok .skip (QfV w r (.map es' clock')):=by
  rcases ho with ho|ho<;>simp[execOp,ho,hρ _ _ hm,hρ _ _ hx,hρ _ _ hy,hr]
 have hc:HS w0 M As' (QfV w r (.map es' clock')):=(HS.swap hpk (w':=QfV w r (.map es' clock')) (B:=.mp r K (QaS ks a)) (λ_ h=>h) rfl rfl rfl (by simp[QfV]) (λb hb=>by
  have hb':b≠r:=by simpa[HA.fp_mp]using hb
  simp[QfV,Array.getElem?_setIfInBounds,Ne.symm hb']) ⟨es',clock',by
   have hlt:r<w.heap.size:=by
    rcases Nat.lt_or_ge r w.heap.size with h|h
    ·exact h
    ·rw[Array.getElem?_eq_none h]at h1;cases h1
   simp[QfV,Array.getElem?_setIfInBounds,hlt],he⟩).perm hp2
 rcases hex with hex|hex<;>rw[hex]<;>exact⟨(),rfl,trivial,hc⟩
end
end Gx
namespace Gx
open Go Go.RowKit
def Yt:List Int->Int
 | []=>0
 | e::r=>if e=0 then Yt r else e
theorem YI{es:List Int}{k:Nat}(h:k<es.length):Yt (es.drop k)=if es.getD k 0=0 then Yt (es.drop (k+1))else es.getD k 0:=by
 rw[List.drop_eq_getElem_cons h,Yt,List.getD_eq_getElem?_getD,List.getElem?_eq_getElem h];rfl
theorem Qcj{es:List Int}{k:Nat}(h:es.length<=k):Yt (es.drop k)=0:=by
 rw[List.drop_eq_nil_of_le h];rfl
def Qgu:Value->Bool
 | .int .i64 _=>true
 | _=>false
def QK:List Value->Int
 | .int _ n::r=>if n=0 then QK r else n
 | _=>0
theorem Qb3:∀{cs:List Value},cs.all Qgu=true->Yt (cs.map intOf)=QK cs
 | [],_=>rfl
 | v::cs,h=>by
  simp only[List.all_cons,Bool.and_eq_true]at h;cases v with
  | int k n=>
   simp only[List.map_cons,Yt,QK,intOf,Qb3 h.2]
  | _=>cases h.1
theorem Qji{cs:List Value}(h:cs.all Qgu=true){i:Nat}(hi:i<cs.length):cs[i]?=some (.int .i64 ((cs.map intOf).getD i 0)):=by
 have h1:=List.all_eq_true.1 h cs[i] (List.getElem_mem hi);rw[List.getElem?_eq_getElem hi];simp only[List.getD_eq_getElem?_getD,List.getElem?_map,List.getElem?_eq_getElem hi,Option.map_some,Option.getD_some];cases hc:cs[i]with
 | int k n=>rw[hc]at h1;cases k<;>first|rfl|cases h1
 | _=>rw[hc]at h1;cases h1
theorem HS.sl_ints{w0 w:World}{M:List Nat}{As As':List HA}{b:Nat}{t:TypeId}{tot:Nat}{cs:List Value}(h:HS w0 M As w)(hp:Qv As (.blk b t tot cs) As')(hc:cs.all Qgu=true):Sl w [] (some ⟨b,0,none⟩) 1 cs.length (λi=>[.int .i64 ((cs.map intOf).getD i 0)]):=
 h.sl_blk hp λi hi=>⟨rfl,λj v hv=>by
  have hj:j=0:=by
   rcases j with _|j
   ·rfl
   ·simp at hv
  subst hj;simp only[List.getElem?_cons_zero,Option.some.injEq]at hv;subst hv;rw[Nat.mul_one,Nat.add_zero];exact Qji hc hi⟩
end Gx
namespace Gx
open Go Go.RowKit
theorem QcG(n:Nat)(h:n<65536):IntKind.u16.wrap (n:Int)=n:=by
 simp only[IntKind.wrap,IntKind.signed,IntKind.bits];simp;omega
theorem Qj3(n:Nat)(h:n<256):IntKind.u8.wrap (n:Int)=n:=by
 simp only[IntKind.wrap,IntKind.signed,IntKind.bits];simp;omega
theorem YG(n m:Nat)(h:m<2^n):(BitVec.ofInt n (m:Int)).toNat=m:=by grind
theorem Qld(a b:Nat)(ha:a<65536)(hb:b<65536):bits .or .u16 (a:Int) (b:Int)=((a ||| b:Nat):Int):=by
 change IntKind.u16.wrap (((BitVec.ofInt 16 (a:Int)) ||| (BitVec.ofInt 16 (b:Int)):BitVec 16).toNat:Int)=_
 rw[BitVec.toNat_or,YG 16 a ha,YG 16 b hb];exact QcG _ (Nat.or_lt_two_pow (n:=16) ha hb)
def rotl(x:UInt16)(k:Nat):UInt16:=UInt16.ofNat (x.toNat*2^k%65536+x.toNat/2^(16-k))
structure Q4 where
 a:UInt16
 b:UInt16
 c:UInt16
 d:UInt16
 deriving DecidableEq
def Qqv(q:Q4)(l r:Nat):Q4:=
 let a:=q.a+q.b
 let d:=rotl (q.d ^^^ a) l
 let c:=q.c+d
 let b:=rotl (q.b ^^^ c) r
 ⟨a,b,c,d⟩
def QnY(q:Q4):Q4:=Qqv (Qqv q 8 6) 4 3
end Gx
namespace Gx
open Go Go.RowKit
def wv(x:UInt16):Value:=.int .u16 (x.toNat:Int)
end Gx
namespace Gx
open Go Go.RowKit
def bv(b:UInt8):Value:=.int .u8 (b.toNat:Int)
theorem QfG(l:List UInt8):(l.map bv).map Qew=l:=by
 rw[List.map_map];refine(List.map_congr_left (g:=id) λb _=>?_).trans (List.map_id _);simp[bv,Qew,intOf]
theorem QgF(l:List UInt8):∀v∈l.map bv,Qpd v=true:=by
 intro v hv;obtain⟨b,_,rfl⟩:=List.mem_map.1 hv;rfl
def w2(a b:UInt8):UInt16:=UInt16.ofNat (a.toNat+256*b.toNat)
theorem QoE(a b:UInt8):Value.int .u16 (bits .or .u16 (IntKind.u16.wrap (a.toNat:Int)) (IntKind.u16.wrap (IntKind.u16.wrap (b.toNat:Int)*2^8)))=wv (w2 a b):=by
 have ha:=a.toNat_lt;have hb:=b.toNat_lt;have e1:IntKind.u16.wrap (b.toNat:Int)*2^8=((256*b.toNat:Nat):Int):=by grind[QcG]
 rw[e1,QcG _ om,QcG _ om,Qld _ _ om om]
 have e2:a.toNat ||| 256*b.toNat=a.toNat+256*b.toNat:=by
  have h:=Nat.two_pow_add_eq_or_of_lt (i:=8) (b:=a.toNat) om b.toNat
  grind
 rw[e2,wv,w2,UInt16.toNat_ofNat',Nat.mod_eq_of_lt om]
def kw(key:List UInt8)(i:Nat):UInt16:=w2 (key.getD (2*i) 0) (key.getD (2*i+1) 0)
def Qn6(key:List UInt8)(n c:UInt16):List UInt16:=[0x6564,0x6f70,kw key 0,kw key 1,kw key 2,kw key 3,n,c]
def turn(s:List UInt16)(i j k l:Nat):List UInt16:=
 let q:=QnY ⟨s.getD i 0,s.getD j 0,s.getD k 0,s.getD l 0⟩
 (((s.set i q.a).set l q.d).set k q.c).set j q.b
def Qqm(s:List UInt16):List UInt16:=turn (turn (turn (turn s 0 2 4 6) 1 3 5 7) 0 3 4 7) 1 2 5 6
def Qng(s:List UInt16):Nat->List UInt16
 | 0=>s
 | k+1=>Qqm (Qng s k)
def lo(x:UInt16):UInt8:=UInt8.ofNat x.toNat
def hi(x:UInt16):UInt8:=UInt8.ofNat (x.toNat/256)
def wb(ws:List UInt16):Nat->List UInt8
 | 0=>[]
 | k+1=>wb ws k++[lo (ws.getD k 0),hi (ws.getD k 0)]
def addL(a b:List UInt16):List UInt16:=(List.range 8).map λi=>a.getD i 0+b.getD i 0
def Qqx(key:List UInt8)(n c:UInt16):List UInt8:=wb (addL (Qng (Qn6 key n c) 6) (Qn6 key n c)) 8
def ks(key:List UInt8)(n:UInt16)(p:Nat):UInt8:=(Qqx key n (UInt16.ofNat (p/16))).getD (p%16) 0
theorem Rd.later{w w':World}{M M':List Nat}{As:List HA}{b o:Nat}{v:Value}(hr:Rd w M b o v)(hs:HS w M As w')(hM:b ∉ M'):Rd w' M' b o v:=
 ⟨Nat.lt_of_lt_of_le hr.1 hs.size,hM,hs.rd hr⟩
end Gx
namespace Gx
open Go Go.RowKit
def Vl(w:World)(a:Option Addr)(vs:List Value):Prop:=Sl w [] a 1 vs.length (λi=>(vs[i]?).toList)
theorem Vl.later{w w':World}{As:List HA}{a:Option Addr}{vs:List Value}(h:Vl w a vs)(hs:HS w [] As w'):Vl w' a vs:=Sl.later h hs λ_ _ h=>h
theorem Vl.rd{w:World}{a:Option Addr}{vs:List Value}(h:Vl w a vs){i:Nat}{v:Value}(hv:vs[i]?=some v):Rd w [] (ab a) (ao a+i*1) v:=by
 have hi:i<vs.length:=(List.getElem?_eq_some_iff.1 hv).1;exact Sl.rd (j:=0) h hi (by simp[hv])
theorem Vl.some{w:World}{a:Option Addr}{vs:List Value}(h:Vl w a vs)(hn:0<vs.length):a=.some ⟨ab a,ao a,none⟩:=Sl.some h hn
theorem Qjv{vs:List Value}{i:Nat}(hi:i<vs.length):((vs[i]?).toList).length=1/\∀j v,((vs[i]?).toList)[j]?=some v->vs[i*1+j]?=some v:=by grind
theorem HS.vl_blk{w0 w:World}{M:List Nat}{As As':List HA}{b:Nat}{t:TypeId}{tot:Nat}{cs:List Value}(h:HS w0 M As w)(hp:Qv As (.blk b t tot cs) As'):Vl w (some ⟨b,0,none⟩) cs:=
 h.sl_blk hp λi hi=>Qjv hi
theorem HS.vl_own{w0 w:World}{M:List Nat}{As As':List HA}{n:Nat}{t:TypeId}{cs:List Value}{a:Option Addr}{cap:Nat}(h:HS w0 M As w)(hp:Qv As (.own (.slice a n cap) t 1 n cs) As'):Vl w a cs:=by
 have hl:cs.length=n:=by have:=(h.pick hp).head.1;omega
 subst hl;exact h.sl_own hp rfl λi hi=>Qjv hi
def ixB:List Bool->Nat
 | []=>0
 | b::l=>if b=true then 0 else ixB l+1
theorem Qcu:∀{l:List Bool}{k:Nat},k<=l.length->(∀i,i<k->l.getD i false=false)->(k<l.length->l.getD k false=true)->ixB l=k
 | [],k,h,_,_=>by simp at h;subst h;rfl
 | b::l,0,_,_,h3=>by grind[ixB]
 | b::l,k+1,h1,h2,h3=>by
  have h0:b=false:=h2 0 om;rw[ixB,if_neg (by rw[h0];decide),Qcu (k:=k) (by simpa using h1) (λi hi=>h2 (i+1) om) (λhk=>h3 (by simpa using hk))]
theorem Qks:∀l:List Bool,l.any id=decide (ixB l<l.length)
 | []=>rfl
 | b::l=>by
  rw[List.any_cons,Qks l,ixB];cases b<;>simp
def ixI(l:List Bool):Int:=if ixB l<l.length then(ixB l:Int)else -1
theorem Qor(l:List Bool):decide (0<=ixI l)=l.any id:=by grind[Qks,ixI]
end Gx
namespace Gx
open Go Go.RowKit
section
variable{w w':World}{M M':List Nat}{As:List HA}{a:Option Addr}
theorem QX{α:Type}[Inhabited α]{l:List α}{i:Nat}(h:i<l.length):nth l i∈l:=List.mem_of_getElem? (QB h)
end
theorem HS.rd_beside{w0 w:World}{M:List Nat}{Cs:List HA}{b i tot:Nat}{t:TypeId}{cs:List Value}{v:Value}(h:HS w0 M (.blk b t tot cs::Cs) w)(hv:cs[i]?=some v):Rd w (fps Cs) b i v:=by
 have h1:=h.rd_blk (Mc:=[]) .here hv (by simp);refine⟨h1.1,λhb=>?_,h1.2.2⟩;obtain⟨A,hA,hb⟩:=List.mem_flatMap.1 hb;exact(List.pairwise_cons.1 h.sep).1 A hA b (List.mem_singleton.2 rfl) hb
theorem Rd.next{w w':World}{M:List Nat}{b o:Nat}{v:Value}{As:List HA}(hr:Rd w M b o v)(hs:HS w M As w'):Rd w' [] b o v:=hr.later hs (by simp)
def QN:List Int->Nat->Int×Int
 | [],_=>(0,0)
 | e::es,k=>if e=0 then QN es (k+1)else((k:Int),e)
theorem Xh{es:List Int}{k:Nat}(h:k<es.length):QN (es.drop k) k=if es.getD k 0=0 then QN (es.drop (k+1)) (k+1)else((k:Int),es.getD k 0):=by
 rw[List.drop_eq_getElem_cons h,QN,List.getD_eq_getElem?_getD,List.getElem?_eq_getElem h];rfl
theorem QbX{es:List Int}{k:Nat}(h:es.length<=k):QN (es.drop k) k=(0,0):=by rw[List.drop_of_length_le h];rfl
theorem Y5:∀{es:List Int}{k:Nat},(QN es k).2=0 ↔ ∀e∈es,e=0
 | [],_=>by simp[QN]
 | e::es,k=>by
  unfold QN;split
  ·simp_all[Y5]
  simp_all
end Gx
namespace Gx
open Go Go.RowKit
theorem Ql1(n:Nat)(h:n<4294967296):IntKind.u64.wrap (n:Int)=n:=by
 rw[IntKind.wrap_u64];omega
def bsC(cs:List Int):Nat->Nat->Nat->Nat
 | 0,lo,_=>lo
 | m+1,lo,hi=>if lo<hi then if cs.getD ((lo+hi)/2) 0<0 then bsC cs m ((lo+hi)/2+1) hi else bsC cs m lo ((lo+hi)/2)else lo
def bsL(cs:List Int):Nat:=bsC cs cs.length 0 cs.length
def QfN(cs:List Int):Bool:=decide (bsL cs<cs.length)&&decide (cs.getD (bsL cs) 0=0)
theorem Qif{cs:List Int}{m lo hi:Nat}(hl:lo<hi)(hn:hi-lo<=m):∃q,m=q+1/\(bsC cs m lo hi=if cs.getD ((lo+hi)/2) 0<0 then bsC cs q ((lo+hi)/2+1) hi else bsC cs q lo ((lo+hi)/2)):=by cases m<;>grind[bsC]
theorem QjK(cs:List Int):∀(n lo hi:Nat),¬lo<hi->bsC cs n lo hi=lo
 | 0,_,_,_=>rfl
 | n+1,lo,hi,h=>by rw[bsC,if_neg h]
theorem QfH{cs:List Int}{p:Nat}(hp:p<=cs.length)(h1:∀i,i<p->cs.getD i 0<0)(h2:∀i,p<=i->i<cs.length->¬cs.getD i 0<0):∀(n lo hi:Nat),hi-lo<=n->lo<=p->p<=hi->hi<=cs.length->bsC cs n lo hi=p
 | 0,lo,hi,hn,a,b,c=>by rw[bsC];omega
 | n+1,lo,hi,hn,a,b,c=>by
  rw[bsC]
  by_cases hl:lo<hi
  ·rw[if_pos hl]
   by_cases hx:cs.getD ((lo+hi)/2) 0<0
   ·rw[if_pos hx];have:(lo+hi)/2<p:=by grind
    exact QfH hp h1 h2 n _ _ om om b c
   ·rw[if_neg hx];have:p<=(lo+hi)/2:=by grind
    exact QfH hp h1 h2 n _ _ om a this om
  grind
theorem Qig{cs:List Int}{p:Nat}(hp:p<=cs.length)(h1:∀i,i<p->cs.getD i 0<0)(h2:∀i,p<=i->i<cs.length->¬cs.getD i 0<0):bsL cs=p:=
 QfH hp h1 h2 _ _ _ om (Nat.zero_le _) hp (Nat.le_refl _)
end Gx
namespace Gx
open Go Go.RowKit
section
variable{P:Program}{o:Oper}{L:Qe}{w0:World}{M:List Nat}{As As':List HA}
theorem Qo{t x b i:Nat}{v:Value}(ho:o.op=.load t (.tmp x))(hx:Qe.get L x=some (.pointer (some ⟨b,i,none⟩)))(hs:tsz P t=some (1,false))(hr:∀w,HS w0 M As w->Rd w [] b i v):OpQ P o L (HS w0 M As) v:=by
 intro ρ w hρ hw;simp only[execOp,ho,Sem.run_bind,hρ (.tmp x) _ hx,Z7 hs (hr w hw).2.2,Result.andThen_ok,Sem.run_pure];exact⟨rfl,Below.refl _ _⟩
theorem ZQ{t x b i n:Nat}(vs:List Value)(ho:o.op=.load t (.tmp x))(hx:Qe.get L x=some (.pointer (some ⟨b,i,none⟩)))(hs:tsz P t=some (n,true))(hl:vs.length=n)(hr:∀w,HS w0 M As w->∀j v,vs[j]?=some v->Rd w [] b (i+j) v):OpQ P o L (HS w0 M As) (.agg vs.toArray):=by
 intro ρ w hρ hw;simp only[execOp,ho,Sem.run_bind,hρ (.tmp x) _ hx,Z1 hs hl (λj v hv=>(hr w hw j v hv).2.2),Result.andThen_ok,Sem.run_pure];exact⟨rfl,Below.refl _ _⟩
end
theorem Qdg{X:Ctx}{k:List KI}{L:Qe}{w0:World}{M:List Nat}{As:List HA}{id:Nat}{l:List Oper}(Bs:List HA)(F:List Nat)(hm:X.P.follows .mixedOrders=true)(h:D X l.toArray F (HS w0 M Bs) l.length (Array.replicate l.length false) k L (HS w0 M As)):S X (.c (.region id l.toArray true)::k) L (HS w0 M As):=by
 intro a w ha hw;refine wpIn_region_any hm ?_;have:=h (QdQ _ _) a ha
 simpa using Zc (Q':=post X k) (λ_ _ h=>h) _ _ a (HS w0 M As) _ hw.drew this
theorem Qez{P:Program}{o:Oper}{L:Qe}{t t':TypeId}{x y:Operand}{a b:Bool}(ho:o.op=.binOp .neq t x y t')(hx:ev L x=some (.bool a))(hy:ev L y=some (.bool b))(ht:P.underlying t=some .bool):OpP P o L (.bool (!(a==b))):=by
 intro ρ w hρ;have hg:(eqGuard .neq t x y (.bool a) (.bool b)).run P w=.ok () w:=by unfold eqGuard;simp
 have hb:(binOp .neq t (.bool a) (.bool b)).run P w=.ok (.bool (!(a==b))) w:=by simp[binOp,Go.run_equal_bool w t a b ht]
 simp only[execOp,ho,hρ _ _ hx,hρ _ _ hy,Sem.run_bind,hg,hb,Result.andThen_ok,Sem.run_pure]
theorem ZE{P:Program}{o:Oper}{L:Qe}{t t':TypeId}{x y:Operand}{a b:Bool}(ho:o.op=.binOp .eql t x y t')(hx:ev L x=some (.bool a))(hy:ev L y=some (.bool b))(ht:P.underlying t=some .bool):OpP P o L (.bool (a==b)):=by
 intro ρ w hρ;have hg:(eqGuard .eql t x y (.bool a) (.bool b)).run P w=.ok () w:=by unfold eqGuard;simp
 have hb:(binOp .eql t (.bool a) (.bool b)).run P w=.ok (.bool (a==b)) w:=by simp[binOp,Go.run_equal_bool w t a b ht]
 simp only[execOp,ho,hρ _ _ hx,hρ _ _ hy,Sem.run_bind,hg,hb,Result.andThen_ok,Sem.run_pure]
theorem QiE{α:Type}[Inhabited α]{l:List α}{i:Nat}{x:α}(h:i<l.length):nth (l.set i x) i=x:=QH (by rw[List.getElem?_set_self h])
section
variable{w0 w:World}{M:List Nat}{As As':List HA}{a:Option Addr}{cap:Nat}
theorem QcQ{t sz n:Nat}{xs:List Value}(hn:0<n)(h:HS w0 M As w)(hp:Qv As (.own (.slice a n cap) t sz n xs) As'):∃g,a=some ⟨g,0,none⟩/\n<=cap/\cap<=maxLen:=by
 obtain⟨g,e,_,h1,h2,_⟩:=h.own_blk hn hp
 grind
theorem HS.blk_to{b t tot:Nat}{cs cs':List Value}(h:HS w0 M As w)(hp:Qv As (.blk b t tot cs) As')(he:cs=cs'):HS w0 M (.blk b t tot cs'::As') w:=by
 subst he;exact h.pick hp
end
end Gx
namespace Gx
open Go Go.RowKit
section
variable{X:Ctx}{ops:Array Oper}{F:List Nat}{fuel i:Nat}{listed:Array Bool}{k:List KI}{L:Qe}{d ty:Nat}{op:Op}{pos:String}{aft:Array Edge}{w0:World}{M:List Nat}{As Bs:List HA}
theorem Qra{C:World->Prop}{B:World->Prop}{j:Nat}{want:Bool}(i dj:Nat)(hi:ops[i]?=some ⟨some d,op,ty,pos,aft,some (j,want)⟩)(hj:(ops[j]?).bind (·.dst)=some dj)(hb:Qe.get L dj=some undef)(hok:Xl ops listed i=true)(hF:F.all (λf=>!Nat.beq f i)=true)(hd:Nat.blt d X.n=true)
  (next:D X ops F B fuel (listed.setIfInBounds i true) k ((d,undef)::L) C):D X ops F B (fuel+1) listed k L C:=by
 intro hcl a ha;have hy:yielded ops a.tmps j=none:=by simp[yielded,hj,ha.slot _ _ hb,undef]
 refine QbQ hi (λhif=>?_) (Region.noSelect_spec (YL hok)) fuel listed a C (Yn hi hok) (Q6 hok) (.inr ⟨by simp[Region.wanted,hy],rfl⟩) (next (hcl.set (Q6 hok)) _ (ha.put d undef hd));have:=List.all_eq_true.1 hF i hif
 simp_all
end
end Gx
namespace Gx
open Go Go.RowKit
def byV(b:UInt8):List Value:=[bv b]
theorem QlR{α:Type}(f:α->Value)(l:List α):l.flatMap (λx=>[f x])=l.map f:=by induction l<;>grind
theorem Yy{α β:Type}{f:α->β}{l:List α}{k:Nat}{d:α}{e:β}(h:k<l.length):(l.map f).getD k e=f (l.getD k d):=by grind
theorem X9{l:List UInt8}{k:Nat}(h:k<l.length):(l.map bv)[k]?=some (.int .u8 ((l.getD k 0).toNat:Int)):=by grind[bv]
theorem XO{α:Type}{l:List α}{k:Nat}{d:α}(h:k<l.length):l.getD k d∈l:=by grind
theorem Xe{α:Type}{l:List α}{k:Nat}{d:α}(h:k<l.length):l.take (k+1)=l.take k++[l.getD k d]:=by simp_all
def up(t s:List UInt8):List UInt8:=s.map λc=>t.getD c.toNat 0
structure Ace where
 kd:Int
 fl:Int
 ms:Int
 wh:Int
deriving DecidableEq,Inhabited
def Ace.vals(a:Ace):List Value:=[.int .i64 a.kd,.int .i64 a.fl,.int .i64 a.ms,.int .i64 a.wh]
def QeF(n:Int):Bool:=(decide (1<=n)&&decide (n<=5))||(decide (10<=n)&&decide (n<=999))
def Qdz(n:Int):Bool:=QeF n&& !(decide (n=2)||decide (n=3))&& !decide (n=1)
def QaZ(a:Ace):Int:=if 0<=a.kd/\a.kd<=2 then if(decide (0<=a.fl)&&decide (a.fl<=31))&&(decide (1<=a.ms)&&decide (a.ms<=511))&&QeF a.wh then 0 else 2 else 15
def YV(o g:Int):Int:=if Qdz o&&Qdz g then 0 else 2
structure Dsc where
 ow:Int
 gr:Int
 pr:Bool
 he:Bool
 en:List Ace
 au:List Ace
deriving DecidableEq,Inhabited
def QaR(n i:Nat)(a:Ace):Int:=if QaZ a=0 then if decide (a.kd=2)=decide (n<=i)then 0 else 15 else QaZ a
def Qae(n:Nat)(l:List Ace):List Int:=(List.range l.length).map λi=>QaR n i (l.getD i default)
def Q9(d:Dsc):Int×Int:=
 if YV d.ow d.gr=0 then if d.en.length<=16/\d.au.length<=16 then if d.he||decide (d.en.length=0)then QN (Qae d.en.length (d.en++d.au)) 0 else(0,3)else(0,8)else(0,YV d.ow d.gr)
def by8(n:Int):UInt8:=UInt8.ofNat (n%256).toNat
def le2(n:Int):List UInt8:=[by8 n,by8 (n/256)]
def le4(n:Int):List UInt8:=[by8 n,by8 (n/256),by8 (n/65536),by8 (n/16777216)]
def Yk(a:Ace):List UInt8:=by8 a.kd::by8 a.fl::(le2 a.ms++le4 a.wh)
def QaV(d:Dsc):Int:=(if d.pr then 1 else 0)+(if d.he then 2 else 0)
def QG(d:Dsc):List UInt8:=[1,by8 (QaV d),by8 d.en.length,by8 d.au.length]++le4 d.ow++le4 d.gr++(d.en++d.au).flatMap Yk
def at1(s:List UInt8)(i:Nat):Int:=((s.getD i 0).toNat:Int)
def at2(s:List UInt8)(i:Nat):Int:=at1 s i+at1 s (i+1)*256
def at4(s:List UInt8)(i:Nat):Int:=at2 s i+at2 s (i+2)*65536
def Ya(s:List UInt8)(i:Nat):Ace:=⟨at1 s i,at1 s (i+1),at2 s (i+2),at4 s (i+4)⟩
def noD:Dsc:=⟨0,0,false,false,[],[]⟩
def Q2(s:List UInt8):Dsc:=
 ⟨at4 s 4,at4 s 8,decide (at1 s 1%2=1),decide (at1 s 1/2%2=1),(List.range (at1 s 2).toNat).map λi=>Ya s (12+8*i),(List.range (at1 s 3).toNat).map λi=>Ya s (12+8*((at1 s 2).toNat+i))⟩
def YN(s:List UInt8):Int:=
 if s.length<12 then 10 else if at1 s 2<=16/\at1 s 3<=16 then if(s.length:Int)=12+(at1 s 2+at1 s 3)*8 then if at1 s 0=1/\at1 s 1<=3 then 0 else 3 else 10 else 8
def YT(s:List UInt8):Int:=if YN s=0 then(Q9 (Q2 s)).2 else YN s
def Yf(s:List UInt8):Dsc:=if YT s=0 then Q2 s else noD
def Xk(s:List UInt8):Int:=s.foldl (λh c=>(h*31+(c.toNat:Int))%1000003) 17
structure SItm where
 id:Int
 by_:List UInt8
deriving DecidableEq,Inhabited
def SItm.vals(x:SItm):List Value:=[.int .i64 x.id,.string (bs x.by_)]
def upT(n:Int):Int:=(n+15)/16*16
def QF(l:List SItm):List Int×Int:=l.foldl (λp x=>(p.1++[p.2],p.2+upT (16+(x.by_.length:Int)))) ([],16)
def Qbz(next:Int)(l:List SItm)(i:Nat):Int:=
 let x:=l.getD i default
 if 256<=x.id/\x.id<=next-1 then if i=0\/(l.getD (i-1) default).id<x.id then if YT x.by_=0 then if x.by_∈(l.take i).map SItm.by_ then 23 else 0 else YT x.by_ else 9 else 2
def X4(next:Int)(l:List SItm):List Int:=(List.range l.length).map (Qbz next l)
def QO(next:Int)(l:List SItm):Int×Int:=
 if 256<=next/\next<=2147483647 then if l.length<=60 then if(QN (X4 next l) 0).2=0 then if(QF l).2<=8192 then(0,0)else(0,16)else QN (X4 next l) 0 else(0,8)else(0,2)
theorem u8wI(n:Int):IntKind.u8.wrap n=n%256:=by simp[IntKind.wrap,IntKind.signed,IntKind.bits]
theorem QmZ(n:Int):IntKind.u16.wrap n=n%65536:=by simp[IntKind.wrap,IntKind.signed,IntKind.bits]
theorem QdL(n:Int):IntKind.u32.wrap n=n%4294967296:=by simp[IntKind.wrap,IntKind.signed,IntKind.bits]
theorem YH(n:Int):((by8 n).toNat:Int)=n%256:=by
 unfold by8;rw[UInt8.toNat_ofNat'];omega
theorem Yl(n:Int):Value.int .u8 (IntKind.u8.wrap n)=bv (by8 n):=by rw[u8wI,bv,YH]
theorem Qqq{m n:Int}(h:m%256=n%256):by8 m=by8 n:=by unfold by8;rw[h]
theorem QnV(n:Int):le2 (n%65536)=le2 n:=by grind[le2,Qqq]
theorem Qnc(n:Int):le4 n=le2 n++[by8 (n/65536),by8 (n/16777216)]:=rfl
theorem av4(a:Ace):(Ace.vals a).length=4:=rfl
theorem av1(a:Ace):∀u∈Ace.vals a,u.oneCell'=true:=λu hu=>by
 simp only[Ace.vals,List.mem_cons,List.mem_nil_iff,or_false]at hu;rcases hu with rfl|rfl|rfl|rfl<;>rfl
structure RowV(α:Type) where
 a:Option Addr
 c:Nat
 l:List α
instance{α:Type}:Inhabited (RowV α):=⟨⟨none,0,[]⟩⟩
def RowV.v{α:Type}(r:RowV α):Value:=.slice r.a r.l.length r.c
theorem QlC{α:Type}{rs:List (RowV α)}{k:Nat}(h:k<rs.length):(rs.map RowV.v)[k]?=some (.slice (rs.getD k default).a (rs.getD k default).l.length (rs.getD k default).c):=by
 rw[List.getElem?_map,List.getElem?_eq_getElem h,List.getD_eq_getElem?_getD,List.getElem?_eq_getElem h];rfl
theorem Qj6{α:Type}{rs:List (RowV α)}{k:Nat}(h:k<rs.length):(rs.take (k+1)).flatMap RowV.l=(rs.take k).flatMap RowV.l++(rs.getD k default).l:=by grind[Xe]
theorem Qpt{α:Type}(rs:List (RowV α))(k:Nat):((rs.take k).flatMap RowV.l).length<=(rs.flatMap RowV.l).length:=by
 conv=>rhs;rw[<-List.take_append_drop k rs,List.flatMap_append,List.length_append]
 omega
theorem Zg{n:Nat}{l:List Ace}{k:Nat}(h:k<l.length):(Qae n l).getD k 0=QaR n k (nth l k):=by
 unfold Qae;rw[List.getD_eq_getElem?_getD,List.getElem?_map,List.getElem?_range h];rfl
theorem Qaz(n:Nat)(l:List Ace):(Qae n l).length=l.length:=by simp[Qae]
def X5(d:Dsc):List UInt8:=[1,by8 (QaV d),by8 d.en.length,by8 d.au.length]++le4 d.ow++le4 d.gr
theorem Qf1(d:Dsc):(X5 d).length=12:=rfl
theorem Qhh(d:Dsc):QG d=X5 d++(d.en++d.au).flatMap Yk:=rfl
theorem QlF(a:Ace):(Yk a).length=8:=rfl
theorem Qf0(l:List Ace):(l.flatMap Yk).length=8*l.length:=by induction l<;>grind[QlF]
theorem Qpl{α β:Type}[Inhabited α]{f:α->List β}{l:List α}{k:Nat}(h:k<l.length):(l.take (k+1)).flatMap f=(l.take k).flatMap f++f (nth l k):=by grind[Xe,nth]
theorem QeS{n:Int}(h:QeF n=true):1<=n/\n<=999:=by grind[QeF]
theorem Qhw{o g:Int}(h:YV o g=0):(0<=o/\o<=999)/\0<=g/\g<=999:=by
 unfold YV Qdz at h;split at h
 ·rename_i h2;simp only[Bool.and_eq_true]at h2;have h3:=QeS h2.1.1.1;have h4:=QeS h2.2.1.1;omega
 ·simp at h
theorem Qjs{a:Ace}(h:QaZ a=0):(0<=a.kd/\a.kd<=2)/\(0<=a.fl/\a.fl<=31)/\(1<=a.ms/\a.ms<=511)/\1<=a.wh/\a.wh<=999:=by
 unfold QaZ at h;split at h
 ·simp_all[QeS]
 ·simp at h
theorem Qbq{d:Dsc}(h:(Q9 d).2=0):YV d.ow d.gr=0/\(d.en.length<=16/\d.au.length<=16)/\(d.he||decide (d.en.length=0))=true/\∀k,k<(d.en++d.au).length->QaR d.en.length k (nth (d.en++d.au) k)=0:=by
 unfold Q9 at h;split at h
 ·rename_i h1;split at h
  ·rename_i h2;split at h
   ·rename_i h3;refine⟨h1,h2,h3,λk hk=>?_⟩;have h4:=Y5.1 h;rw[<-Zg hk]
    grind[XO,Qaz]
   ·simp at h
  ·simp at h
 grind
theorem QhJ{n k:Nat}{a:Ace}(h:QaR n k a=0):QaZ a=0:=by grind[QaR]
theorem QkK(a b:Nat)(ha:a<4294967296)(hb:b<4294967296):bits .or .u32 (a:Int) (b:Int)=((a ||| b:Nat):Int):=by
 change IntKind.u32.wrap (((BitVec.ofInt 32 (a:Int)) ||| (BitVec.ofInt 32 (b:Int)):BitVec 32).toNat:Int)=_
 rw[BitVec.toNat_or,YG 32 a ha,YG 32 b hb,QdL];have:a ||| b<4294967296:=Nat.or_lt_two_pow (n:=32) ha hb
 omega
theorem Qk3(a b:Nat)(ha:a<9223372036854775808)(hb:b<9223372036854775808):bits .or .i64 (a:Int) (b:Int)=((a ||| b:Nat):Int):=by
 change IntKind.i64.wrap (((BitVec.ofInt 64 (a:Int)) ||| (BitVec.ofInt 64 (b:Int)):BitVec 64).toNat:Int)=_
 rw[BitVec.toNat_or,YG 64 a om,YG 64 b om];have:a ||| b<9223372036854775808:=Nat.or_lt_two_pow (n:=63) ha hb
 exact IntWalk.i64_in _ ⟨om,om⟩
theorem QiM(a b:Nat)(ha:a<9223372036854775808)(hb:b<9223372036854775808):bits .and .i64 (a:Int) (b:Int)=((a &&& b:Nat):Int):=by
 change IntKind.i64.wrap (((BitVec.ofInt 64 (a:Int)) &&& (BitVec.ofInt 64 (b:Int)):BitVec 64).toNat:Int)=_
 rw[BitVec.toNat_and,YG 64 a om,YG 64 b om];have:a &&& b<9223372036854775808:=Nat.and_lt_two_pow a (n:=63) hb;exact IntWalk.i64_in _ ⟨om,om⟩
theorem Ql8(a b:Nat)(h:a<65536):a ||| 65536*b=a+65536*b:=by
 have h:=Nat.two_pow_add_eq_or_of_lt (i:=16) (b:=a) om b
 grind
theorem Zm(s:List UInt8)(i:Nat):0<=at1 s i/\at1 s i<256:=by
 have:=(s.getD i 0).toNat_lt;unfold at1;omega
theorem YC(s:List UInt8)(i:Nat):0<=at2 s i/\at2 s i<65536:=by
 have:=Zm s i;have:=Zm s (i+1);unfold at2;omega
theorem Qaj(s:List UInt8)(i:Nat):0<=at4 s i/\at4 s i<4294967296:=by
 have:=YC s i;have:=YC s (i+2);unfold at4;omega
theorem QcN(s:List UInt8)(k i:Nat):at1 (s.drop k) i=at1 s (k+i):=by grind[at1]
theorem ZS(s:List UInt8)(k i:Nat):at2 (s.drop k) i=at2 s (k+i):=by unfold at2;rw[QcN,QcN,Nat.add_assoc]
theorem Zh(s:List UInt8)(k i:Nat):at4 (s.drop k) i=at4 s (k+i):=by unfold at4;rw[ZS,ZS,Nat.add_assoc]
theorem Qep(s:List UInt8)(i:Nat):Value.int .u16 (bits .or .u16 (IntKind.u16.wrap ((s.getD i 0).toNat:Int)) (IntKind.u16.wrap (IntKind.u16.wrap ((s.getD (i+1) 0).toNat:Int)*2^8)))=.int .u16 (at2 s i):=by
 have ha:=(s.getD i 0).toNat_lt;have hb:=(s.getD (i+1) 0).toNat_lt;rw[QoE,wv,w2,UInt16.toNat_ofNat',Nat.mod_eq_of_lt om];unfold at2 at1;congr 1;omega
theorem Qfy(X Y:Int)(hx:0<=X/\X<65536)(hy:0<=Y/\Y<65536):Value.int .u32 (bits .or .u32 (IntKind.u32.wrap X) (IntKind.u32.wrap (IntKind.u32.wrap Y*2^16)))=.int .u32 (X+Y*65536):=by
 obtain⟨a,rfl⟩:=Int.eq_ofNat_of_zero_le hx.1;obtain⟨b,rfl⟩:=Int.eq_ofNat_of_zero_le hy.1
 have e1:IntKind.u32.wrap ((b:Nat):Int)*2^16=((65536*b:Nat):Int):=by
  rw[QdL];omega
 rw[e1,QdL,QdL,show(a:Int)%4294967296=(a:Nat) by omega,show((65536*b:Nat):Int)%4294967296=((65536*b:Nat):Int) by omega,QkK _ _ om om,Ql8 _ _ om];congr 1;omega
def QfL(n:Int)(c:UInt8):Int:=(2*n%2147483648+n/1073741824+(c.toNat:Int))%2147483648
def QkL(s:List UInt8):Int:=s.foldl QfL 0
def QeE(h:Int)(c:UInt8):Int:=(h*31+(c.toNat:Int))%1000003
theorem Qhx(n:Int)(c:UInt8):0<=QfL n c/\QfL n c<2147483648:=by unfold QfL;omega
theorem QfW(n:Int)(c:UInt8):0<=QeE n c/\QeE n c<2147483648:=by unfold QeE;omega
theorem QiI{α:Type}{f:α->UInt8->α}{a:α}{s:List UInt8}{k:Nat}(h:k<s.length):(s.take (k+1)).foldl f a=f ((s.take k).foldl f a) (s.getD k 0):=by grind[Xe]
theorem Qc2{f:Int->UInt8->Int}(hf:∀n c,0<=f n c/\f n c<2147483648):∀(s:List UInt8)(a:Int),0<=a/\a<2147483648->0<=s.foldl f a/\s.foldl f a<2147483648
 | [],a,h=>h
 | c::s,a,_=>Qc2 hf s _ (hf a c)
theorem Qbw(s:List UInt8):0<=Xk s/\Xk s<2147483648:=Qc2 QfW s 17 om
theorem Qpj(s:List UInt8):0<=QkL s/\QkL s<2147483648:=Qc2 Qhx s 0 om
theorem QrE(n:Nat)(h:n<2147483648):Value.int .i64 (bits .or .i64 (bits .and .i64 (IntKind.i64.wrap ((n:Int)*2^1)) 2147483647) ((n:Int)/2^30))=.int .i64 ((2*n%2147483648+n/1073741824:Nat):Int):=by
 have e1:IntKind.i64.wrap ((n:Int)*2^1)=((2*n:Nat):Int):=by
  rw[show(n:Int)*2^1=((2*n:Nat):Int) by omega];exact IntWalk.i64_in _ ⟨om,om⟩
 have e2:(n:Int)/2^30=((n/1073741824:Nat):Int):=by rw[Int.natCast_ediv];rfl
 rw[e1,e2,show(2147483647:Int)=((2147483647:Nat):Int)from rfl,QiM _ _ om om];have e3:2*n &&& 2147483647=2*n%2147483648:=Nat.and_two_pow_sub_one_eq_mod (2*n) 31;rw[e3,Qk3 _ _ om om];have h4:=Nat.two_pow_add_eq_or_of_lt (i:=1) (b:=n/1073741824) om (2*n%2147483648/2)
 grind
theorem QbB{a:Option Addr}{b o cap k:Nat}(ha:a=some ⟨b,o,none⟩)(h:k<cap):X1 a cap k 1=some ⟨b,o+k,none⟩:=by
 subst ha
 grind[X1,XG]
theorem Vl.drop{w:World}{a:Option Addr}{vs:List Value}{cap k:Nat}(h:Vl w a vs)(hk:k<vs.length)(hc:k<cap):Vl w (X1 a cap k 1) (vs.drop k):=by
 obtain⟨b,o,rfl,h2⟩:=h.at_ om;refine⟨λhn=>⟨b,o+k,QbB rfl hc,λi hi=>?_⟩⟩
 grind
theorem QmR(s:List UInt8)(k j i:Nat)(h:i<j):at1 ((s.drop k).take j) i=at1 s (k+i):=by grind[at1]
theorem Qdh(s:List UInt8)(k:Nat):Ya ((s.drop k).take 8) 0=Ya s k:=by grind[Ya,at4,at2,QmR]
theorem Qef{w:World}{a:Option Addr}{vs:List Value}{b o k j:Nat}(h:Vl w a vs)(ha:a=some ⟨b,o,none⟩)(hk:k+j<=vs.length):Vl w (some ⟨b,o+k,none⟩) ((vs.drop k).take j):=by
 subst ha;refine⟨λhn=>⟨b,o+k,rfl,λi hi=>?_⟩⟩;rw[List.length_take,List.length_drop]at hi;obtain⟨b',o',e,h2⟩:=h.at_ om
 grind
def enK(s:List UInt8)(k:Nat):List Ace:=(List.range (min k (at1 s 2).toNat)).map λi=>Ya s (12+8*i)
def auK(s:List UInt8)(k:Nat):List Ace:=(List.range (k-(at1 s 2).toNat)).map λi=>Ya s (12+8*((at1 s 2).toNat+i))
theorem QfK(s:List UInt8):enK s 0=[]:=by simp[enK]
theorem QfB(s:List UInt8):auK s 0=[]:=by simp[auK]
theorem QbY(s:List UInt8)(k:Nat):(enK s k).length=min k (at1 s 2).toNat:=by simp[enK]
theorem QbO(s:List UInt8)(k:Nat):(auK s k).length=k-(at1 s 2).toNat:=by simp[auK]
theorem Qfx{s:List UInt8}{k:Nat}(h:k<(at1 s 2).toNat):enK s (k+1)=enK s k++[Ya s (12+8*k)]:=by
 unfold enK;rw[Nat.min_eq_left om,Nat.min_eq_left om,List.range_succ,List.map_append];rfl
theorem Qfs{s:List UInt8}{k:Nat}(h:(at1 s 2).toNat<=k):enK s (k+1)=enK s k:=by grind[enK]
theorem Qfc{s:List UInt8}{k:Nat}(h:k<(at1 s 2).toNat):auK s (k+1)=auK s k:=by grind[auK,at1]
theorem QfA{s:List UInt8}{k:Nat}(h:(at1 s 2).toNat<=k):auK s (k+1)=auK s k++[Ya s (12+8*k)]:=by
 unfold auK;rw[show k+1-(at1 s 2).toNat=k-(at1 s 2).toNat+1 by omega,List.range_succ,List.map_append,List.map_cons,List.map_nil,show(at1 s 2).toNat+(k-(at1 s 2).toNat)=k by omega]
theorem QbL(s:List UInt8):enK s ((at1 s 2).toNat+(at1 s 3).toNat)=(Q2 s).en:=by grind[enK,Q2]
theorem QbP(s:List UInt8):auK s ((at1 s 2).toNat+(at1 s 3).toNat)=(Q2 s).au:=by grind[auK,Q2,at1]
theorem Qb1{s:List UInt8}{mx:Int}{b c:Bool}(hl:¬s.length<12)(hm:mx<=16 ↔ (at1 s 2<=16/\at1 s 3<=16))(hc:c=decide ((s.length:Int)=12+(at1 s 2+at1 s 3)*8))(hb:b=(decide (at1 s 0=1)&&decide (at1 s 1<=3))) :
  QK [.int .i64 (cond (decide (mx<=16)) 0 8),.int .i64 (cond c 0 10),.int .i64 (cond b 0 3)]=YN s:=by
 grind[YN,QK]
theorem QaD{s:List UInt8}(h:YN s≠0):YT s=YN s/\Yf s=noD:=by grind[YT,YN,Yf]
theorem Qg0{s:List UInt8}(h:YN s=0)(h2:(Q9 (Q2 s)).2≠0):YT s=(Q9 (Q2 s)).2/\Yf s=noD:=by grind[YT,Q9,Q2,Yf]
theorem Qde{s:List UInt8}(h:YN s=0)(h2:(Q9 (Q2 s)).2=0):YT s=0/\Yf s=Q2 s:=by grind[YT,Yf]
theorem QlJ{s:List UInt8}(h:YN s=0):12<=s.length/\(at1 s 2<=16/\at1 s 3<=16)/\(s.length:Int)=12+(at1 s 2+at1 s 3)*8/\at1 s 0=1/\at1 s 1<=3:=by grind[YN]
theorem bit0{n:Int}(h:0<=n/\n<=3):decide (bits .and .u8 n 1=0)= !decide (n%2=1):=by
 obtain⟨m,rfl⟩:=Int.eq_ofNat_of_zero_le h.1;have:∀m:Nat,m<4->decide (bits .and .u8 (m:Int) 1=0)= !decide ((m:Int)%2=1):=by decide
 grind
theorem bit1{n:Int}(h:0<=n/\n<=3):decide (bits .and .u8 n 2=0)= !decide (n/2%2=1):=by
 obtain⟨m,rfl⟩:=Int.eq_ofNat_of_zero_le h.1;have:∀m:Nat,m<4->decide (bits .and .u8 (m:Int) 2=0)= !decide ((m:Int)/2%2=1):=by decide
 grind
def QaH(s:List UInt8):Nat->Nat->Int
 | _,0=>0
 | a,k+1=>at1 s a+256*QaH s (a+1) k
theorem Qdn(s:List UInt8)(a:Nat):QaH s a 1=at1 s a:=by simp only[QaH];omega
theorem Qqd(s:List UInt8)(a:Nat):QaH s a 2=at2 s a:=by simp only[QaH,at2];omega
theorem Qi9(s:List UInt8)(a:Nat):QaH s a 4=at4 s a:=by simp only[QaH,at4,at2,show a+1+1=a+2 from rfl];omega
theorem QjR(s:List UInt8):∀(k a:Nat),0<=QaH s a k/\QaH s a k<256^k
 | 0,a=>by simp[QaH]
 | k+1,a=>by
  have h1:=QjR s k (a+1);have h2:=Zm s a
  grind[QaH]
theorem Qrl(s:List UInt8)(a:Nat){k:Nat}(h:k<=6):0<=QaH s a k/\QaH s a k<281474976710656:=by
 have h1:=QjR s k a;have h2:∀k≤6,(256:Int)^k<=281474976710656:=by decide
 grind
end Gx
namespace Gx
open Go Go.RowKit
theorem aPk{As As':List HA}{A:HA}(h:Qv As A As':=by repeat (first|exact .here|apply Qv.there)):Qv As A As':=h
theorem aPt{As As':List HA}{A B:HA}(h:Put As A B As':=by repeat (first|exact .here|apply Put.there)):Put As A B As':=h
theorem aPs{As Cs Ds:List HA}(h:Zo As Cs Ds:=by repeat (first|exact Zo.nil|(apply Zo.cons;· (repeat (first|exact .here|apply Qv.there))))):Zo As Cs Ds:=h
theorem aEt{As Bs:List HA}(h:Ent As Bs:=by repeat (first|exact .nil|refine .cons (by repeat (first|exact .here|apply Qv.there)) ?_)):Ent As Bs:=h
theorem aSx{L L':Qe}(h:QaX L L':=by repeat (first|exact QkO|refine QfM rfl ?_)):QaX L L':=h
section
variable{X:Ctx}{ops:Array Oper}{F:List Nat}{fuel:Nat}{listed:Array Bool}{rest:List Oper}{k:List KI}{L:Qe}{d ty:Nat}{op:Op}{pos:String}{aft:Array Edge}{C B:World->Prop}{v:Value}
theorem oP(next:O X ops rest k ((d,v)::L) C)(h:OpP X.P ⟨some d,op,ty,pos,aft,none⟩ L v:=by exact Qiv rfl)(hd:Nat.blt d X.n=true:=by rfl):O X ops (⟨some d,op,ty,pos,aft,none⟩::rest) k L C:=o_p h hd next
theorem dP(i:Nat)(next:D X ops F B fuel (listed.setIfInBounds i true) k ((d,v)::L) C)(hi:ops[i]?=some ⟨some d,op,ty,pos,aft,none⟩:=by rfl)(h:OpP X.P ⟨some d,op,ty,pos,aft,none⟩ L v:=by exact Qiv rfl)(hok:Xl ops listed i=true:=by kernel_rfl)(hF:F.all (λf=>!Nat.beq f i)=true:=by rfl)(hd:Nat.blt d X.n=true:=by rfl):D X ops F B (fuel+1) listed k L C:=d_p i hi h hok hF hd next
end
end Gx
namespace Gx
open Go Go.RowKit
abbrev KS(l:List UInt8):Value:=.string (bs l)
def nv(n:Int):Value:=.int .i64 n
theorem ZL{l:List Int}{k:Nat}(h:k<l.length):(l.map nv)[k]?=some (.int .i64 (l.getD k 0)):=by
 rw[List.getElem?_map,List.getElem?_eq_getElem h,List.getD_eq_getElem?_getD,List.getElem?_eq_getElem h];rfl
theorem sv2(x:SItm):(SItm.vals x).length=2:=rfl
theorem sv1(x:SItm):∀u∈SItm.vals x,u.oneCell'=true:=λu hu=>by
 simp only[SItm.vals,List.mem_cons,List.mem_nil_iff,or_false]at hu;rcases hu with rfl|rfl<;>rfl
theorem QoX{m:Int}(h:0<=m):(-m).tdiv 16= -(m/16):=by rw[Int.neg_tdiv,Int.tdiv_eq_ediv_of_nonneg h]
theorem Qoy{m:Int}(h:0<=m):(-m).tmod 16= -(m%16):=by rw[Int.neg_tmod,Int.tmod_eq_emod_of_nonneg h]
theorem Yv{l:List SItm}{k:Nat}(h:k<l.length):QF (l.take (k+1))=((QF (l.take k)).1++[(QF (l.take k)).2],(QF (l.take k)).2+upT (16+((nth l k).by_.length:Int))):=by
 unfold QF;rw[Xe (d:=default) h,List.foldl_append];rfl
theorem QcP:∀(k:Nat)(l:List SItm),k<=l.length->(QF (l.take k)).1.length=k
 | 0,l,_=>rfl
 | k+1,l,h=>by rw[Yv om,List.length_append,QcP k l om];rfl
theorem Zb(l:List SItm):(QF l).1.length=l.length:=by
 have:=QcP l.length l (Nat.le_refl _)
 grind
theorem Qct{l:List SItm}(hb:∀x∈l,x.by_.length<=100000):∀k,k<=l.length->16<=(QF (l.take k)).2/\(QF (l.take k)).2<=16+100032*(k:Int)
 | 0,_=>by simp[QF]
 | k+1,h=>by
  have h1:=Qct hb k om
  grind[nth,XO,Yv,upT]
theorem QjX{l:List SItm}(hb:∀x∈l,x.by_.length<=100000):16<=(QF l).2/\(QF l).2<=16+100032*(l.length:Int):=by
 have:=Qct hb l.length (Nat.le_refl _)
 grind
def e0E(nx:Int)(l:List SItm)(i:Nat):Int:=if 256<=(nth l i).id/\(nth l i).id<=nx-1 then if i=0\/(nth l (i-1)).id<(nth l i).id then 0 else 9 else 2
def e1E(nx:Int)(l:List SItm)(i:Nat):Int:=if e0E nx l i=0 then YT (nth l i).by_ else e0E nx l i
open Classical in
theorem Qbs(nx:Int)(l:List SItm)(i:Nat){P:Prop}{dP:Decidable P}(hP:P ↔ (nth l i).by_∈(l.take i).map SItm.by_):QK [.int .i64 (e1E nx l i),.int .i64 (cond (!decide P) 0 23)]=Qbz nx l i:=by grind[Qbz,e1E,e0E,nth,QK]
theorem QcS{nx:Int}{l:List SItm}{i:Nat}{b:Bool}(hb:b=decide (i=0\/(nth l (i-1)).id<(nth l i).id)):QK [.int .i64 (cond (decide (256<=(nth l i).id)&&decide ((nth l i).id<=nx-1)) 0 2),.int .i64 (cond b 0 9)]=e0E nx l i:=by grind[e0E,QK]
theorem Yi(nx:Int)(l:List SItm):(X4 nx l).length=l.length:=by simp[X4]
theorem Xj{nx:Int}{l:List SItm}{k:Nat}(h:k<l.length):(X4 nx l).getD k 0=Qbz nx l k:=by grind[X4]
theorem QjZ{l:List SItm}{k:Nat}(h:k<l.length){x:List UInt8}:x∈(l.take (k+1)).map SItm.by_ ↔ x∈(l.take k).map SItm.by_\/x=(nth l k).by_:=by grind[Xe,nth]
theorem QhR{ks:List (List UInt8)}{a x:List UInt8}:x∈QaS ks a ↔ x∈ks\/x=a:=by grind[QaS]
def Qa6(nx:Int)(l:List SItm):Int:=if 256<=nx/\nx<=2147483647 then if l.length<=60 then 0 else 8 else 2
theorem Qcz(nx:Int)(l:List SItm):QK [.int .i64 (cond (decide (256<=nx)&&decide (nx<=2147483647)) 0 2),.int .i64 (cond (decide ((l.length:Int)<=60)) 0 8)]=Qa6 nx l:=by grind[Qa6,QK]
theorem YB(nx:Int)(l:List SItm):QO nx l=if Qa6 nx l=0 then if(QN (X4 nx l) 0).2=0 then if(QF l).2<=8192 then(0,0)else(0,16)else QN (X4 nx l) 0 else(0,Qa6 nx l):=by grind[QO,Qa6]
def byB(l:List SItm)(b:List UInt8):List Bool:=l.map λx=>decide (x.by_=b)
def idB(l:List SItm)(n:Int):List Bool:=l.map λx=>decide (x.id=n)
theorem Qb5(l:List SItm)(b:List UInt8):(byB l b).length=l.length:=by simp[byB]
theorem QjO(l:List SItm)(n:Int):(idB l n).length=l.length:=by simp[idB]
theorem QgU{l:List SItm}{b:List UInt8}{k:Nat}(h:k<l.length):(byB l b).getD k false=decide ((nth l k).by_=b):=by
 unfold byB;rw[Yy (d:=default) h];rfl
theorem Qj4{l:List SItm}{n:Int}{k:Nat}(h:k<l.length):(idB l n).getD k false=decide ((nth l k).id=n):=by
 unfold idB;rw[Yy (d:=default) h];rfl
def byK(l:List SItm)(b:List UInt8):Nat:=ixB (byB l b)
def idK(l:List SItm)(n:Int):Nat:=ixB (idB l n)
def Qc0(nx:Int)(l:List SItm)(d:Dsc):Int:=if(QO nx l).2=0 then(Q9 d).2 else(QO nx l).2
structure AddR where
 nx:Int
 l:List SItm
 id:Int
 e:Int
def QaY(nx:Int)(l:List SItm)(b:List UInt8):AddR:=
 if byK l b<l.length then⟨nx,l,(nth l (byK l b)).id,0⟩
 else if(l++[SItm.mk nx b]).length>60\/(QF (l++[SItm.mk nx b])).2>8192\/nx=2147483647 then⟨0,[],0,16⟩else⟨nx+1,l++[SItm.mk nx b],nx,0⟩
def Y0(nx:Int)(l:List SItm)(d:Dsc):AddR:=if Qc0 nx l d=0 then QaY nx l (QG d)else⟨0,[],0,Qc0 nx l d⟩
theorem Qc8(d:Dsc):(QG d).length=12+8*(d.en.length+d.au.length):=by grind[Qhh,Qf1,Qf0]
theorem QpQ{nx:Int}{l:List SItm}{d:Dsc}(h:Qc0 nx l d=0):(QO nx l).2=0/\(Q9 d).2=0:=by grind[Qc0]
theorem XR{nx:Int}{l:List SItm}(h:(QO nx l).2=0):(256<=nx/\nx<=2147483647)/\l.length<=60/\(∀k,k<l.length->Qbz nx l k=0)/\(QF l).2<=8192:=by
 unfold QO at h;split at h
 ·rename_i h1;split at h
  ·rename_i h2;split at h
   ·rename_i h3;split at h
    ·rename_i h4;refine⟨h1,h2,λk hk=>?_,h4⟩;rw[<-Xj hk]
     grind[Y5,XO,Yi]
    ·simp at h
   grind
  ·simp at h
 ·simp at h
theorem Qer:∀(l:List Bool),ixB l<=l.length:=by
 intro l
 induction l<;>grind[ixB]
theorem Qg2(l:List SItm)(b:List UInt8):byK l b<=l.length:=by have:=Qer (byB l b);rwa[Qb5]at this
theorem QgQ(l:List SItm)(n:Int):idK l n<=l.length:=by have:=Qer (idB l n);rwa[QjO]at this
theorem Qbn:∀{l:List Bool},ixB l<l.length->l.getD (ixB l) false=true
 | [],h=>absurd h (Nat.not_lt_zero _)
 | true::l,h=>rfl
 | false::l,h=>by
  have h1:ixB (false::l)=ixB l+1:=rfl;rw[h1]at h ⊢;exact Qbn (l:=l) (by simpa using h)
theorem Qb4:∀{l:List Bool}{i:Nat},i<ixB l->l.getD i false=false
 | [],i,h=>absurd h (Nat.not_lt_zero _)
 | true::l,i,h=>absurd h (Nat.not_lt_zero _)
 | false::l,0,h=>rfl
 | false::l,i+1,h=>by
  have h1:ixB (false::l)=ixB l+1:=rfl;rw[h1]at h;exact Qb4 (l:=l) om
theorem Qd5{l:List SItm}{n:Int}(h:idK l n<l.length):(nth l (idK l n)).id=n:=by grind[Qbn,idB,QjO,Qj4,idK]
theorem Ql9{l:List SItm}{n:Int}{i:Nat}(h:i<idK l n):(nth l i).id≠n:=by
 have h1:=Qb4 (l:=idB l n) h
 grind[Qj4,QgQ]
theorem Qpe{l:List SItm}{b:List UInt8}(h:byK l b<l.length):(nth l (byK l b)).by_=b:=by grind[Qbn,byB,Qb5,QgU,byK]
theorem Qoe{l:List SItm}{b:List UInt8}{i:Nat}(h:i<byK l b):(nth l i).by_≠b:=by
 have h1:=Qb4 (l:=byB l b) h
 grind[QgU,Qg2]
theorem Qen{nx:Int}{l:List SItm}{i:Nat}(h:Qbz nx l i=0):e0E nx l i=0/\YT (nth l i).by_=0/\¬(nth l i).by_∈(l.take i).map SItm.by_:=by
 rw[<-Qbs nx l i (P:=(nth l i).by_∈(l.take i).map SItm.by_) (dP:=inferInstance) Iff.rfl]at h
 grind[QK,e1E]
theorem Yb{nx:Int}{l:List SItm}{i:Nat}(h:Qbz nx l i=0):(256<=(nth l i).id/\(nth l i).id<=nx-1)/\(i=0\/(nth l (i-1)).id<(nth l i).id):=by
 have h1:=(Qen h).1
 grind[e0E]
theorem QiT{nx:Int}{l:List SItm}(h:∀k,k<l.length->Qbz nx l k=0):∀j,j<l.length->∀i,i<j->(nth l i).id<(nth l j).id
 | 0,_,i,hi=>absurd hi (Nat.not_lt_zero _)
 | j+1,hj,i,hi=>by
  have h1:=(Yb (h (j+1) hj)).2;have h2:(nth l j).id<(nth l (j+1)).id:=by grind
  rcases Nat.lt_or_ge i j with h3|h3
  ·exact Int.lt_trans (QiT h j om i h3) h2
  grind
def idC(l:List SItm)(n:Int):List Int:=l.map λx=>x.id-n
theorem Qc6(l:List SItm)(n:Int):(idC l n).length=l.length:=by simp[idC]
theorem QcT{l:List SItm}{n:Int}{k:Nat}(h:k<l.length):(idC l n).getD k 0=(nth l k).id-n:=by
 unfold idC;rw[Yy (d:=default) h];rfl
theorem Qpo{l:List SItm}{n:Int}(ha:∀j,j<l.length->∀i,i<j->(nth l i).id<(nth l j).id):QfN (idC l n)=decide (idK l n<l.length)/\(idK l n<l.length->bsL (idC l n)=idK l n):=by
 by_cases hk:idK l n<l.length
 ·have h0:=Qd5 hk
  have hb:bsL (idC l n)=idK l n:=Qig (by rw[Qc6];omega) (λi hi=>by rw[QcT om];have:=ha _ hk i hi;omega) (λi h1 h2=>by
   rw[Qc6]at h2;rw[QcT h2];rcases Nat.lt_or_ge (idK l n) i with h3|h3
   ·have:=ha i h2 _ h3;omega
   ·obtain rfl:i=idK l n:=by omega
    omega)
  grind[QfN,Qc6,QcT]
 ·refine⟨?_,λh=>absurd h hk⟩;rw[decide_eq_false hk];unfold QfN;rw[Qc6]
  by_cases hb:bsL (idC l n)<l.length
  ·rw[QcT hb]
   grind[nth,bsL,idC,Ql9,QgQ]
  ·simp[hb]
def Y9(nx:Int)(l:List SItm)(n:Int):Dsc×Int:=
 if(QO nx l).2=0 then if 256<=n/\n<=2147483647 then if idK l n<l.length then(Yf (nth l (idK l n)).by_,YT (nth l (idK l n)).by_)else(noD,6)else(noD,6)else(noD,(QO nx l).2)
def mx0(n:Int):Int:=if n<0 then 0 else n
def QeO(l:List SItm)(u:List Int)(i:Nat):Int:=if idK l (u.getD i 0)<l.length then if i=0\/u.getD (i-1) 0<u.getD i 0 then 0 else 9 else 6
def Qdw(l:List SItm)(u:List Int):List Int:=(List.range u.length).map (QeO l u)
theorem Qmz(l:List SItm)(u:List Int):(Qdw l u).length=u.length:=by simp[Qdw]
theorem Qmw{l:List SItm}{u:List Int}{k:Nat}(h:k<u.length):(Qdw l u).getD k 0=QeO l u k:=by grind[Qdw]
def QpE(l:List SItm)(u:List Int):Int:=(QN (Qdw l u) 0).2
def QcK(nx:Int)(l:List SItm)(u:List Int):Int:=if(QO nx l).2=0 then QpE l u else(QO nx l).2
def Z0(u:List Int)(l:List SItm):List SItm:=l.filter λx=>decide (x.id∈u)
def ZD(u:List Int)(l:List SItm):List Int:=(l.filter λx=>!decide (x.id∈u)).map SItm.id
theorem Qlq{u:List Int}{l:List SItm}{k:Nat}(h:k<l.length):Z0 u (l.take (k+1))=if(nth l k).id∈u then Z0 u (l.take k)++[nth l k]else Z0 u (l.take k):=by grind[Z0,Xe,nth]
theorem Qlp{u:List Int}{l:List SItm}{k:Nat}(h:k<l.length):ZD u (l.take (k+1))=if(nth l k).id∈u then ZD u (l.take k)else ZD u (l.take k)++[(nth l k).id]:=by grind[ZD,Xe,nth]
theorem Qol(u:List Int)(l:List SItm):(Z0 u l).length<=l.length:=List.length_filter_le _ _
theorem QoL(u:List Int)(l:List SItm):(ZD u l).length<=l.length:=by grind[ZD]
theorem QmP{l:List SItm}{n:Int}(h:∀k,k<l.length->(nth l k).id≠n):¬idK l n<l.length:=λhk=>h _ hk (Qd5 hk)
theorem QqJ{l:List SItm}{n:Int}(h:∀k,k<l.length->256<=(nth l k).id):decide (idK l (mx0 n)<l.length)=decide (idK l n<l.length):=by grind[mx0,QmP]
structure ColR where
 nx:Int
 l:List SItm
 g:List Int
def Qbh(nx:Int)(l:List SItm)(u:List Int):ColR:=if QcK nx l u=0 then⟨nx,Z0 u l,ZD u l⟩else⟨0,[],[]⟩
def Qlu(n:Nat):Bool:=!(decide (14<n)&&decide (n<=60)||decide (62<n))
def QfQ(l:List SItm):Bool:=Qlu l.length&&l.all λx=>decide (x.by_.length<=300)
theorem Qlj{l:List SItm}{k:Nat}{p:SItm->Bool}(h:k<l.length):(l.take (k+1)).all p=((l.take k).all p&&p (nth l k)):=by grind[Xe,nth]
theorem Qox{l:List SItm}{k:Nat}{p:SItm->Bool}(h:k<l.length)(h2:p (nth l k)=false):l.all p=false:=by grind[nth,XO]
def QnQ(d:Dsc):Bool:=decide (d.en.length<=20)&&decide (d.au.length<=20)
end Gx
namespace Gx
open Go Go.RowKit
structure TEnt where
 key:List UInt8
 val:List UInt8
deriving DecidableEq,Inhabited
structure Nd where
 us:Bool
 es:List TEnt
 cs:List Int
deriving DecidableEq,Inhabited
structure Tre where
 co:Int
 mo:Int
 rm:Int
 ns:List Nd
deriving DecidableEq,Inhabited
structure LNd where
 us:Bool
 ea:Option Addr
 ec:Nat
 es:List TEnt
 ca:Option Addr
 cc:Nat
 cs:List Int
deriving Inhabited
def LNd.pl(n:LNd):Nd:=⟨n.us,n.es,n.cs⟩
abbrev pln(L:List LNd):List Nd:=L.map LNd.pl
def TEnt.vals(x:TEnt):List Value:=[.string (bs x.key),.string (bs x.val)]
def inV(x:Int):List Value:=[.int .i64 x]
def LNd.vals(n:LNd):List Value:=[.bool n.us,.slice n.ea n.es.length n.ec,.slice n.ca n.cs.length n.cc]
theorem ev2(x:TEnt):x.vals.length=2:=rfl
theorem iv1(x:Int):(inV x).length=1:=rfl
theorem nv3(n:LNd):n.vals.length=3:=rfl
theorem ev1(x:TEnt):∀u∈x.vals,u.oneCell'=true:=by
 intro u hu;simp only[TEnt.vals,List.mem_cons,List.mem_nil_iff,or_false]at hu;rcases hu with rfl|rfl<;>rfl
theorem QoW(x:Int):∀u∈inV x,u.oneCell'=true:=by
 intro u hu;simp only[inV,List.mem_cons,List.mem_nil_iff,or_false]at hu;subst hu;rfl
theorem nv1(n:LNd):∀u∈n.vals,u.oneCell'=true:=by
 intro u hu;simp only[LNd.vals,List.mem_cons,List.mem_nil_iff,or_false]at hu;rcases hu with rfl|rfl|rfl<;>rfl
def Nt(w:World)(M:List Nat)(a:Option Addr)(L:List LNd):Prop:=Rw LNd.vals 3 w M a L/\∀n∈L,Rw TEnt.vals 2 w M n.ea n.es/\Rw inV 1 w M n.ca n.cs
section
variable{w w':World}{M M':List Nat}{As:List HA}{a:Option Addr}{L:List LNd}
theorem Nt.later(h:Nt w M a L)(hs:HS w M As w'):Nt w' [] a L:=⟨Rw.later h.1 hs,λn hn=>⟨(h.2 n hn).1.later hs,(h.2 n hn).2.later hs⟩⟩
theorem Nt.keep(h:Nt w M a L)(hs:HS w M As w'):Nt w' (fps As) a L:=⟨Rw.keep h.1 hs,λn hn=>⟨(h.2 n hn).1.keep hs,(h.2 n hn).2.keep hs⟩⟩
theorem Nt.mono(h:Nt w M a L)(hM:∀b∈M',b∈M):Nt w M' a L:=⟨Rw.mono h.1 hM,λn hn=>⟨(h.2 n hn).1.mono hM,(h.2 n hn).2.mono hM⟩⟩
theorem Nt.es(h:Nt w M a L){k:Nat}(hk:k<L.length):Rw TEnt.vals 2 w M (nth L k).ea (nth L k).es:=(h.2 _ (QX hk)).1
theorem Nt.cs(h:Nt w M a L){k:Nat}(hk:k<L.length):Rw inV 1 w M (nth L k).ca (nth L k).cs:=(h.2 _ (QX hk)).2
end
def HA.ents(et:Nat)(a:Option Addr)(cap:Nat)(l:List TEnt):HA:=.own (.slice a l.length cap) et 2 l.length (l.flatMap TEnt.vals)
def HA.kids(a:Option Addr)(cap:Nat)(l:List Int):HA:=.own (.slice a l.length cap) 3 1 l.length (l.flatMap inV)
def Qx(et:Nat)(n:LNd):HA:=.star [.ents et n.ea n.ec n.es,.kids n.ca n.cc n.cs]
def HA.nodes(et nt:Nat)(a:Option Addr)(cap:Nat)(L:List LNd):HA:=.row nt 3 LNd.vals (Qx et) a cap L
section
variable{w0 w:World}{M:List Nat}{As As':List HA}{a:Option Addr}{cap et nt':Nat}{L:List LNd}
theorem HS.nt(h:HS w0 M As w)(hp:Qv As (.nodes et nt' a cap L) As'):Nt w [] a L:=by
 have h1:=HS.row_open (h.pick hp);refine⟨h1.rw_own nv3 .here rfl,λn hn=>?_⟩;obtain⟨i,hi,e⟩:=List.getElem_of_mem hn;have e2:nth L i=n:=QH (by rw[List.getElem?_eq_getElem hi,e]);have h2:=h1.tail.sub_open hi;rw[e2]at h2;have h3:=HS.star_open h2;exact⟨h3.rw_own ev2 .here rfl,h3.rw_own iv1 (.there .here) rfl⟩
end
def X7:List UInt8->List UInt8->Int
 | [],[]=>0
 | [],_::_=>-1
 | _::_,[]=>1
 | a::x,b::y=>if a<b then -1 else if b<a then 1 else X7 x y
theorem QlD:∀a b,X7 a b= -1\/X7 a b=0\/X7 a b=1
 | [],[]=>Or.inr (Or.inl rfl)
 | [],_::_=>Or.inl rfl
 | _::_,[]=>Or.inr (Or.inr rfl)
 | a::x,b::y=>by
  unfold X7;split
  ·exact Or.inl rfl
  ·split
   ·grind
   ·exact QlD x y
theorem Qii{a b:UInt8}(h:a<b):¬b<a:=λh2=>by grind
theorem Qf4:∀a b,X7 b a= -X7 a b
 | [],[]=>rfl
 | [],_::_=>rfl
 | _::_,[]=>rfl
 | a::x,b::y=>by
  unfold X7
  by_cases h:a<b
  ·rw[if_neg (Qii h),if_pos h,if_pos h];rfl
  ·by_cases h2:b<a
   ·rw[if_pos h2,if_neg h,if_pos h2]
   ·rw[if_neg h,if_neg h2,if_neg h2,if_neg h];exact Qf4 x y
theorem QjY:∀{a b},X7 a b=0 ↔ a=b
 | [],[]=>by simp[X7]
 | [],_::_=>by simp[X7]
 | _::_,[]=>by simp[X7]
 | a::x,b::y=>by
  unfold X7
  by_cases h:a<b
  ·grind
  ·by_cases h2:b<a
   ·grind
   ·rw[if_neg h,if_neg h2,QjY]
    grind
theorem QeC:∀{a b c},X7 a b<0->X7 b c<0->X7 a c<0
 | [],[],_,h,_=>by simp[X7]at h
 | _::_,[],_,h,_=>by simp[X7]at h
 | [],_::_,[],_,h=>by simp[X7]at h
 | [],_::_,_::_,_,_=>by simp[X7]
 | _::_,_::_,[],_,h=>by simp[X7]at h
 | a::x,b::y,c::z,h,h2=>by
  unfold X7 at h h2 ⊢
  by_cases e:a<b
  ·grind
  ·rw[if_neg e]at h
   by_cases e3:b<a
   ·grind
   ·rw[if_neg e3]at h;have hab:a=b:=by grind
    subst hab
    by_cases e4:a<c
    ·grind
    ·rw[if_neg e4]at h2 ⊢
     by_cases e5:c<a
     ·grind
     ·rw[if_neg e5]at h2 ⊢;exact QeC h h2
def Qb9(c:UInt8):UInt8:=if 97<=c/\c<=122 then c-32 else c
def Ym(a b:Int):Int:=if a<b then -1 else if b<a then 1 else 0
def QS(co:Int)(a b:List UInt8):Int:=
 if co=2 then Ym (at4 a 0) (at4 b 0)
 else if co=3 then if Ym (at4 a 0) (at4 b 0)≠0 then Ym (at4 a 0) (at4 b 0)else Ym (at4 a 4) (at4 b 4)
 else if co=1 then X7 (a.map Qb9) (b.map Qb9)else X7 a b
def Qaq(s:List UInt8)(p:Nat):Bool:=decide (at4 s p<=2147483647)
def Q3(co:Int)(k:List UInt8):Bool:=
 if co=0 then decide (1<=k.length/\k.length<=40)
 else if co=1 then decide (1<=k.length/\k.length<=32)
 else if co=2 then decide (k.length=4)&&Qaq k 0
 else decide (k.length=8)&&(Qaq k 0&&Qaq k 4)
def ZA(co:Int)(k:List UInt8):Int:=if Q3 co k then 0 else 3
def Yu(co:Int)(x:TEnt):Int:=if ZA co x.key=0 then if x.val.length<=64 then 0 else 8 else 3
def Xb(co:Int):Int:=if 0<=co/\co<=3 then 0 else 15
def Zs(mo rm:Int):Int:=if(3<=mo/\mo<=8)/\(mo/2<=rm/\rm<=mo)then 0 else 2
def Qk5(s:List UInt8)(p:Nat):List UInt8:=[s.getD (p+3) 0,s.getD (p+2) 0,s.getD (p+1) 0,s.getD p 0]
def QmK(co:Int)(k:List UInt8):List UInt8:=if co=2 then Qk5 k 0 else if co=3 then Qk5 k 0++Qk5 k 4 else if co=1 then k.map Qb9 else k
theorem QgM(a b:List UInt8)(p:Nat)(x y:List UInt8):X7 (Qk5 a p++x) (Qk5 b p++y)=if Ym (at4 a p) (at4 b p)≠0 then Ym (at4 a p) (at4 b p)else X7 x y:=by
 have h:∀(s:List UInt8)i,(s.getD i 0).toNat<256:=λs i=>UInt8.toNat_lt _;have a0:=h a p;have a1:=h a (p+1);have a2:=h a (p+2);have a3:=h a (p+3);have b0:=h b p;have b1:=h b (p+1);have b2:=h b (p+2);have b3:=h b (p+3);unfold Qk5;simp only[List.cons_append,List.nil_append,X7,Ym,at4,at2,at1,UInt8.lt_iff_toNat_lt,Nat.add_assoc,Nat.reduceAdd];omega
theorem Qdb(co:Int)(a b:List UInt8):QS co a b=X7 (QmK co a) (QmK co b):=by
 unfold QS QmK;split
 ·have h:=QgM a b 0 [] []
  grind[X7]
 ·split
  ·rw[QgM];congr 1;have h:=QgM a b 4 [] []
   grind[X7]
  ·split<;>rfl
theorem Zw(co:Int)(a b:List UInt8):QS co b a= -QS co a b:=by rw[Qdb,Qdb];exact Qf4 _ _
theorem QgP{co:Int}{a b:List UInt8}:QS co a b=0 ↔ QmK co a=QmK co b:=by rw[Qdb];exact QjY
theorem Y3{co:Int}{a b c:List UInt8}(h:QS co a b<0)(h2:QS co b c<0):QS co a c<0:=by rw[Qdb]at h h2 ⊢;exact QeC h h2
def Asc(co:Int)(es:List TEnt):Prop:=∀k,k+1<es.length->QS co (nth es k).key (nth es (k+1)).key<0
theorem Asc.lt{co:Int}{es:List TEnt}(h:Asc co es):∀{i j:Nat},i<j->j<es.length->QS co (nth es i).key (nth es j).key<0
 | i,0,hij,_=>absurd hij (Nat.not_lt_zero _)
 | i,j+1,hij,hj=>by
  rcases Nat.lt_or_ge i j with h1|h1
  ·exact Y3 (Asc.lt h h1 om) (h j hj)
  ·obtain rfl:i=j:=by omega
   exact h i hj
def QfI(co:Int)(es:List TEnt)(key:List UInt8):List Int:=es.map λx=>QS co x.key key
theorem QbK(co:Int)(es:List TEnt)(key:List UInt8):(QfI co es key).length=es.length:=by simp[QfI]
theorem QbJ{co:Int}{es:List TEnt}{key:List UInt8}{i:Nat}(h:i<es.length):(QfI co es key).getD i 0=QS co (nth es i).key key:=by
 unfold QfI;rw[Yy (d:=default) h];rfl
def plc(co:Int):List TEnt->List UInt8->Nat
 | [],_=>0
 | x::es,key=>if QS co x.key key<0 then plc co es key+1 else 0
def fnd(co:Int)(es:List TEnt)(key:List UInt8):Bool:=decide (plc co es key<es.length)&&decide (QS co (nth es (plc co es key)).key key=0)
theorem Qbv(co:Int)(key:List UInt8):∀es,plc co es key<=es.length
 | []=>Nat.le_refl _
 | x::es=>by
  unfold plc;split
  ·have:=Qbv co key es
   grind
  grind
theorem Qgo{α:Type}[Inhabited α](x:α)(l:List α)(i:Nat):nth (x::l) (i+1)=nth l i:=rfl
theorem QcC(co:Int)(key:List UInt8):∀es i,i<plc co es key->QS co (nth es i).key key<0
 | [],i,h=>absurd h (Nat.not_lt_zero _)
 | x::es,i,h=>by
  unfold plc at h;split at h
  ·rename_i h1;cases i with
   | zero=>exact h1
   | succ i=>
    rw[Qgo];exact QcC co key es i om
  grind
theorem Qi5(co:Int)(key:List UInt8):∀es,plc co es key<es.length->¬QS co (nth es (plc co es key)).key key<0
 | [],h=>absurd h (Nat.not_lt_zero _)
 | x::es,h=>by
  unfold plc at h ⊢;split at h
  ·rename_i h1;rw[if_pos h1,Qgo];exact Qi5 co key es (by simpa using h)
  ·rename_i h1;rw[if_neg h1];exact h1
theorem QkJ{co:Int}{es:List TEnt}(hs:Asc co es){key:List UInt8}{i:Nat}(h:plc co es key<=i)(hi:i<es.length):¬QS co (nth es i).key key<0:=by
 have h1:=Qi5 co key es om;rcases Nat.lt_or_ge (plc co es key) i with h2|h2
 ·intro h3;exact h1 (Y3 (hs.lt h2 hi) h3)
 grind
theorem QmI{co:Int}{es:List TEnt}(hs:Asc co es)(key:List UInt8):bsL (QfI co es key)=plc co es key:=by
 refine Qig (by rw[QbK];exact Qbv co key es) (λi hi=>?_) (λi h1 h2=>?_)
 ·rw[QbJ (by have:=Qbv co key es;omega)];exact QcC co key es i hi
 ·rw[QbK]at h2;rw[QbJ h2];exact QkJ hs h1 h2
theorem QqW{co:Int}{es:List TEnt}(hs:Asc co es)(key:List UInt8):QfN (QfI co es key)=fnd co es key:=by
 unfold QfN fnd;rw[QmI hs,QbK]
 by_cases h:plc co es key<es.length
 ·rw[QbJ h]
 ·simp[h]
def Qff(co:Int)(es:List TEnt)(k:Nat):Int:=if k=0\/QS co (nth es (k-1)).key (nth es k).key<0 then 0 else 9
def Qc4(co:Int)(es:List TEnt):Int:=(QN ((List.range es.length).map (Qff co es)) 0).2
theorem Qm1{co:Int}{es:List TEnt}(h:Qc4 co es=0):Asc co es:=λk hk=>by
 unfold Qc4 at h;have h1:=Y5.1 h (Qff co es (k+1)) (List.mem_map.2 ⟨k+1,List.mem_range.2 hk,rfl⟩)
 grind[Qff]
def YK(ns:List Nd):List Int->List Int->Int×List Int
 | [],seen=>(0,seen)
 | c::cs,seen=>if(1<=c/\c<=(ns.length:Int)-1)/\(nth ns c.toNat).us=true then if c∈seen then(23,c::seen)else YK ns cs (c::seen)else(6,seen)
def Qcc(co:Int)(es:List TEnt):Int:=(QN (es.map (Yu co)) 0).2
def Qap(mo rm:Int)(i:Nat):Int:=if i=0 then rm else mo
def Zi(t:Tre)(i:Nat)(seen:List Int):Int×List Int:=
 let n:=nth t.ns i
 if n.us=true then
  if(n.es.length:Int)<=Qap t.mo t.rm i then
   if n.cs.length=0\/n.cs.length=n.es.length+1 then
    if Qcc t.co n.es=0 then
     if(YK t.ns n.cs seen).1=0 then(Qc4 t.co n.es,(YK t.ns n.cs seen).2)else YK t.ns n.cs seen
    else(Qcc t.co n.es,seen)
   else(10,seen)
  else(16,seen)
 else if(0<i/\i+1<t.ns.length)/\n.es.length+n.cs.length=0 then(0,seen)else(3,seen)
def Yw(t:Tre):Nat->Nat->List Int->Int×Int
 | 0,_,_=>(0,0)
 | f+1,i,seen=>if(Zi t i seen).1=0 then Yw t f (i+1) (Zi t i seen).2 else((i:Int),(Zi t i seen).1)
structure Vis where
 i:Nat
 d:Int
 lo:Option (List UInt8)
 hi:Option (List UInt8)
deriving Inhabited
def loK(es:List TEnt)(k:Nat)(lo:Option (List UInt8)):Option (List UInt8):=if 0<k then some (nth es (k-1)).key else lo
def hiK(es:List TEnt)(k:Nat)(hi:Option (List UInt8)):Option (List UInt8):=if k<es.length then some (nth es k).key else hi
def vis(ns:List Nd):Nat->Vis->List Vis
 | 0,_=>[]
 | f+1,v=>v::(List.range (nth ns v.i).cs.length).flatMap λk=>vis ns f ⟨((nth ns v.i).cs.getD k 0).toNat,v.d+1,loK (nth ns v.i).es k v.lo,hiK (nth ns v.i).es k v.hi⟩
def Qa7:Vis:=⟨0,1,none,none⟩
def ZN(ns:List Nd):List Vis:=vis ns ns.length Qa7
def ZF(ns:List Nd):Nat->Nat->Int
 | 0,_=>0
 | f+1,i=>if(nth ns i).cs.length=0 then 0 else ZF ns f ((nth ns i).cs.getD 0 0).toNat+1
def Qli(t:Tre)(deep:Int)(v:Vis):Int:=
 let n:=nth t.ns v.i
 if 0<v.i/\((n.es.length:Int)<t.mo/2\/((nth t.ns 0).es.length=0/\(v.i:Int)∈(nth t.ns 0).cs)/\(n.es.length:Int)<=t.rm)then 14
 else if(n.es.any λx=>(v.lo.any λb=>decide (0<=QS t.co b x.key))||(v.hi.any λb=>decide (0<=QS t.co x.key b)))=true then 9
 else if n.cs.length=0/\v.d≠deep+1 then 22 else 0
def Qb7(ns:List Nd)(below:List Nat):Nat->Nat->Option Nat
 | 0,_=>none
 | f+1,i=>if(nth ns i).us=true/\i ∉ below then some i else Qb7 ns below f (i+1)
def Qc7(t:Tre)(deep:Int):List Vis->Int×Int
 | []=>(0,0)
 | v::vs=>if Qli t deep v=0 then Qc7 t deep vs else((v.i:Int),Qli t deep v)
def Q0(t:Tre):Int×Int:=
 if Xb t.co=0 then
  if Zs t.mo t.rm=0 then
   if 0<t.ns.length then
    if t.ns.length<=120 then
     if(Yw t t.ns.length 0 []).2=0 then
      match Qb7 t.ns ((ZN t.ns).map Vis.i) t.ns.length 0 with
      | some i=>((i:Int),21)
      | none=>Qc7 t (ZF t.ns t.ns.length 0) (ZN t.ns)
     else Yw t t.ns.length 0 []
    else(0,8)
   else(0,10)
  else(0,2)
 else(0,15)
end Gx
