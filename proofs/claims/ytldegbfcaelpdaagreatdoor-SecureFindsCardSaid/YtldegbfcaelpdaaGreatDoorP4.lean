/- Contracts of the program's functions, proved by walking them with the rules of the Gx texts; without conditions beyond those that each contract names. -/
import Derived.WalkKit
import Derived.Deep.Draws
import Derived.TacticsIn
import Derived.OrdersIn
import Derived.RangeFuncLeaves
import Derived.Lib.Strings
import Derived.Laws.BytesArg
import Derived.Laws.IdiomStrings
import Derived.Deep.Quiet
import Derived.Laws.StructEq
import Derived.ChangeKeysEq
import Derived.Laws.Externs
import Derived.Lib.Overlaps
import Derived.Carry
import Derived.Laws.Small
import Derived.Lib.Bytealg
import Derived.Lib.Builder
import Derived.Laws.Pointers
import Derived.RangeFuncRecord
import Derived.Test.YtldegbfcaelpdaaGreatDoorProg
import Derived.KernelRfl
import Derived.ProofKit
import Derived.OpenShut
import Derived.Lib.UnsafeStr
import Derived.LaidEqlPtr
import Derived.Shelf.Strings.Builder1
import Derived.Shelf.Strings.Builder2
import Derived.Shelf.Strings.Trim
import Derived.Shelf.Small.Utf8
import Derived.Shelf.Small.Strs
import Derived.Shelf.Strings.BuilderF
import Derived.Shelf.Strings.BuilderK
import Derived.Shelf.Strings.Builder2Cap
import Derived.Shelf.Strings.Search1
import Derived.Shelf.Strings.Prefix
import Derived.Shelf.Unicode.Decode
import Derived.Shelf.Strings.Runes
import Derived.Shelf.Strings.AsciiSet
import Derived.Shelf.Bits.Mul64
import Derived.Shelf.Strings.Repeat
import Derived.Shelf.Unicode.DecodeSlow
import Derived.Shelf.Unicode.DecodeAny
import Derived.Shelf.Unicode.DecodeLast
import Derived.Shelf.Slices.Turned
import Derived.Shelf.Slices.Reverse
import Derived.Ground.Names2Prog
import Derived.Shelf.Slices.Clone
import Derived.Shelf.Slices.Cells
import Derived.Ground.SlgnProg
import Derived.Shelf.SlicesE.Reverse
import Derived.Shelf.SlicesE.Clone
import Derived.Test.YtldegbfcaelpdaaGreatDoorTie
import Derived.Test.YtldegbfcaelpdaaGreatDoorCards
import Derived.SevenTiedAt
import Derived.LaidMore
import Derived.Lay
import Derived.Stop.Joined
import Derived.Test.YtldegbfcaelpdaaGreatDoorP3
set_option linter.unusedSimpArgs false
set_option maxHeartbeats 1000000
set_option linter.unusedVariables false
set_option linter.unusedSectionVars false
set_option linter.unnecessarySimpa false
namespace Gx
open Go Go.RowKit
def QjE(fid:FuncId)(tmps:Array Value)(ps:Array Tmp)(assign body:Code)(D:Nat):Option Code->Obj
 | none=>.loop (rdy fid tmps ps assign body D)
 | some e=>.loop {rdy fid tmps ps assign body D with state:=.done,pending:=some e}
def QnR(b:Bool):Option Code:=bif b then none else some .ret
def dfO(D:Nat):HA:=.obj D (.deferred (some []))
section
variable{X:Ctx}{k:List KI}{L:Qh}{w0:World}{M:List Nat}{As As':List HA}
theorem Qes{l D:Nat}{fid:FuncId}{tmps:Array Value}{ps:Array Tmp}{assign body:Code}(hrd:X.rd=some l)(hp:QG As (.obj l (.loop {rdy fid tmps ps assign body D with state:=.busy})) As')(h:∀w,HS w0 M (.obj l (QjE fid tmps ps assign body D (QnR false))::As') w->X.R (.returned (.bool false)) w):S X (.c .ret::k) L (HS w0 M As):=by
 refine Qg1 (XW λa w ha hw=>?_);show(match X.rd with|none=>bodyPostM X.F 0 X.P X.fn X.R .ret a w|some l=>roundPost X.P l X.R .ret a w);rw[hrd];exact⟨_,_,run_endRound (some .ret) (hw.obj_get hp),h _ (hw.putObj hp _)⟩
theorem QcS{l D:Nat}{fid:FuncId}{tmps:Array Value}{ps:Array Tmp}{assign body:Code}(hrd:X.rd=some l)(hp:QG As (.obj l (.loop {rdy fid tmps ps assign body D with state:=.busy})) As')(h:∀w,HS w0 M (.obj l (QjE fid tmps ps assign body D (QnR true))::As') w->X.R (.returned (.bool true)) w):S X [] L (HS w0 M As):=
 ZL hrd hp h
theorem QeB{g:Operand}{ps:Array Tmp}{assign body:Code}{gf:FuncId}{fa lb:Array Value}{G:Type}{Bs:G->List HA}{on:G->Bool}(hrd:X.rd=none)(hg:ev L g=some (.func (.func gf) fa lb))(hfn:QC X.P gf=true)
  (hit:∀(fid:FuncId)(D l:Nat)(a:Act)(w1:World)(ob:Obj),ob=.loop (rdy fid a.tmps ps assign body D)->FR X.n [] L a->HS w0 M (.obj l ob::.obj D (.deferred (some []))::As) w1 ->
   Calls X.P gf (fa++ #[.func (.yield l) #[] #[]]++lb) w1 λe w2=>(∃v,e=.returned v)/\∃x,HS w0 M (.obj l (QjE fid a.tmps ps assign body D (QnR (on x)))::.obj D (.deferred (some []))::Bs x) w2)
  (next:∀D x,on x=true->S {X with df:=D::X.df} k L (HS w0 M (.obj D (.deferred (some []))::Bs x)))
  (back:∀D x,on x=false->S {X with df:=D::X.df} (.c .ret::k) L (HS w0 M (.obj D (.deferred (some []))::Bs x))):S X (.c (.rangeFunc g ps assign body)::k) L (HS w0 M As):=by
 intro a w ha hw;refine wpIn_rangeFunc (F:=X.F) (n:=0) λfid _=>?_;have hro:X.F.round=none:=hrd;rw[hro];have hw1:=(hw.allocObj (.deferred (some []))).allocObj (.loop (rdy fid a.tmps ps assign body w.heap.size));rw[World.size_alloc]at hw1;have hen:=run_enterLoop_outer (P:=X.P) (w:=w) fid a.tmps ps assign body;obtain⟨W1,hW1⟩:∃W1,(w.alloc (.deferred (some []))).alloc (.loop (rdy fid a.tmps ps assign body w.heap.size))=W1:=⟨_,rfl⟩;rw[hW1]at hw1;rw[show(Loop.mk .ready none fid a.tmps ps assign body w.heap.size)=rdy fid a.tmps ps assign body w.heap.size from rfl,hW1]at hen
 refine⟨w.heap.size+1,[{target:=.collected w.heap.size,args:=#[]}],W1,{target:=.fn (.func gf) lb,args:=fa++ #[.func (.yield (w.heap.size+1)) #[] #[]]},W1,gf,
  fa++ #[.func (.yield (w.heap.size+1)) #[] #[]]++lb,W1,hen,?_,λ_ _=>trivial,?_,λh=>(by cases h),?_⟩
 ·simp only[resolve,ha.evl hg];simp[go_sem]
 ·simp[invoke,go_sem,Y1 hfn]
 ·refine CallsIn.mono (X.callsIn (hit fid _ _ {a with defers:=[]} _ _ rfl ⟨rfl,ha.size,ha.slot⟩ hw1)) λe w2 he=>?_;obtain⟨⟨v,rfl⟩,x,hx⟩:=he;have hfr:FR X.n (w.heap.size::X.df) L {a with defers:=[{target:=.collected w.heap.size,args:=#[]}]++a.defers}:=⟨by show _++a.defers=_;rw[ha.defers];rfl,ha.size,ha.slot⟩;cases hj:on x with
  | true=>
   rw[hj]at hx;refine⟨none,_,run_endLoop (hx.obj_get .here) (by simp[rdy]),?_⟩;have h4:=next w.heap.size x hj _ _ hfr (hx.putObj .here (.loop {rdy fid a.tmps ps assign body w.heap.size with state:=.exhausted})).tail
   rw[Y3]at h4;exact h4
  | false=>
   rw[hj]at hx;refine⟨some .ret,_,run_endLoop (hx.obj_get .here) (by simp),?_⟩;have h4:=back w.heap.size x hj _ _ hfr (hx.putObj .here (.loop {rdy fid a.tmps ps assign body w.heap.size with state:=.exhausted,pending:=some .ret})).tail;rw[Y3]at h4;exact h4
def QmK(n:Nat){α:Type}(df:α->List Nat)(LJ:α->Qh)(CJ:α->World->Prop)(I:α->Prop)(m:α->Nat)(x:α)(a:Act)(w:World):Prop:=∃y,m y<m x/\I y/\FR n (df y) (LJ y) a/\CJ y w
theorem Qmc{α:Type}{c:Code}{C:World->Prop}(md:List Nat)(Lm:α->Qh)(CJ:α->World->Prop)(I:α->Prop)(m:α->Nat)(df:α->List Nat)(x0:α)(hI:I x0)(hdf:X.df=df x0)(hL:Qas L (Lm x0++Zy md L))(hC:∀w,C w->CJ x0 w)
  (h:∀x,I x->S {X with df:=df x} (.c c::.join (QmK X.n df (λx=>Lm x++Zy md L) CJ I m x)::k) (Lm x++Zy md L) (CJ x)):S X (.c (.loop c)::k) L C:=by
 intro a w ha hw;intro b kk cs hro hb hr
 have key:∀N x,I x->m x=N->∀(a:Act)(w:World),FR X.n (df x) (Lm x++Zy md L) a->CJ x w ->
   ∃e a' w',post X k e a' w'/\ArrivesIn (Machine.fenced X.P X.F) X.P (lone (b.atR a (.code c::.inLoop c::kk)) cs w) b kk cs e a' w':=by
  intro N
  induction N using Nat.strongRecOn with
  | _ N ih=>
   intro x hx hN a w hfr hcj;have h9:=h x hx a w hfr hcj;rw[Y3]at h9;obtain⟨e,a₁,w₁,hq,harr⟩:=h9 b (.inLoop c::kk) cs hro hb hr;cases e with
   | normal=>
    obtain⟨y,hlt,hy,hfr',hcj'⟩:=hq;obtain⟨e₂,a₂,w₂,hq₂,harr₂⟩:=ih (m y) (hN▸hlt) y hy rfl a₁ w₁ hfr' hcj';exact⟨e₂,a₂,w₂,hq₂,.of_steps (StepsIn.trans harr (.one (fenced_calm hb hr rfl) stepR_inLoop)) harr₂⟩
   | exit id=>exact⟨_,a₁,w₁,hq,.pass (x:=.inLoop c) rfl (λ_ _=>.inl (by simp)) harr⟩
   | goto l=>exact⟨_,a₁,w₁,hq,.pass (x:=.inLoop c) rfl (λ_ _=>.inl (by simp)) harr⟩
   | ret=>exact⟨_,a₁,w₁,hq,.pass (x:=.inLoop c) rfl (λ_ _=>.inl (by simp)) harr⟩
   | panic ch=>exact⟨_,a₁,w₁,hq,.pass (x:=.inLoop c) rfl (λ_ _=>.inl (by simp)) harr⟩
   | outgrown=>exact⟨_,a₁,w₁,hq,.pass (x:=.inLoop c) rfl (λ_ _=>.inl (by simp)) harr⟩
 obtain⟨e,a',w',hq,harr⟩:=key _ x0 hI rfl a w (by rw[<-hdf];exact ha.sub hL.all) (hC w hw);exact⟨e,a',w',hq,.of_steps (.one (fenced_calm hb hr rfl) stepR_loop) harr⟩
theorem QhW{α:Type}{LJ:α->Qh}{CJ:α->World->Prop}{C:World->Prop}{I:α->Prop}{m:α->Nat}{df:α->List Nat}{n:Nat}{x:α}(y:α)(hn:X.n=n)(hdf:X.df=df y)(hm:m y<m x)(hI:I y)(hL:Qas L (LJ y))(hC:∀w,C w->CJ y w):S X (.join (QmK n df LJ CJ I m x)::k) L C:=
 λ_ w ha hw=>⟨y,hm,hI,by rw[<-hn,<-hdf];exact ha.sub hL.all,hC w hw⟩
theorem Qfb{F:Fence}{n:Nat}{P:Program}{fn:Func}{tmps:Array Value}{R:Ending->World->Prop}:∀{ds:List Nat}{w:World},HS w0 M (ds.map dfO++As) w->(∀w,HS w0 M As w->LeavesInM F n P fn tmps R [] .returning w)->LeavesInM F n P fn tmps R (QmJ ds) .returning w
 | [],w,hw,h=>h w hw
 | D::ds,w,hw,h=>⟨by simp,.inl ⟨D,_,rfl,run_takeDeferred (hw.obj_get .here),Qfb (hw.putObj .here (.deferred none)).tail h⟩⟩
theorem QkI{rs:List ResultVar}{vs:List Value}(hr:X.fn.results=rs.toArray)(hp:QG As (.star (X.df.map dfO)) As')(hv:RV X.P L As' rs vs)(h:∀w,HS w0 M As' w->X.R (.returned (Qw vs)) w)(hrd:X.rd=none:=by rfl):S X (.c .ret::k) L (HS w0 M As):=by
 refine Qg1 (XW λa w ha hw=>?_);show(match X.rd with|none=>bodyPostM X.F 0 X.P X.fn X.R .ret a w|some l=>roundPost X.P l X.R .ret a w);rw[hrd];show LeavesInM X.F 0 X.P X.fn a.tmps X.R a.defers .returning w;rw[ha.defers];refine Qfb (HS.star_open (hw.pick hp)) λw h1=>?_;refine⟨Qw vs,?_,h _ h1⟩;have hm:=hv.run ha h1;rw[QbS hr,Array.mapM_eq_mapM_toList];simp only[Sem.run_bind,Sem.run_map,hm,Result.andThen_ok,Sem.run_pure]
 match vs with
 | []=>rfl
 | [v]=>rfl
 | u::v::vs=>simp[Qw]
end
end Gx
namespace Gx
open Go Go.RowKit
def Qe8:Obj->Obj
 | .loop r=>.loop {r with state:=.done,pending:=some .ret}
 | o=>o
end Gx
namespace Gx
open Go Go.RowKit
theorem QmQ{X:Ctx}{k:List KI}{L:Qh}{w0:World}{M:List Nat}{As As1:List HA}{D:Nat}{ds:List Nat}(hp:QG As1 (.star (ds.map dfO)) As)(h:S X k L (HS w0 M (.star ((D::ds).map dfO)::As))):S X k L (HS w0 M (.obj D (.deferred (some []))::As1)):=
 λa w ha hw=>h a w ha (HS.star_close (Bs:=(D::ds).map dfO) (by
  have h1:HS w0 M (.star (ds.map dfO)::.obj D (.deferred (some []))::As) w:=hw.perm ((hp.perm.cons _).trans (List.Perm.swap _ _ _));have h2:=HS.star_open h1;exact h2.perm List.perm_middle))
end Gx
namespace Go.Proofs
open Go Go.RowKit Gx
attribute [local irreducible] Go.Calls Gx.S Gx.O Gx.D Gx.OpP Gx.OpQ Gx.OpH
set_option maxRecDepth 20000
theorem Qg2:QC Tryz.prog 39=true:=by kernel_rfl
theorem QgP:QC Tryz.prog 40=true:=by kernel_rfl
theorem Qkx:QC Tryz.prog 51=true:=by kernel_rfl
theorem Qcp:tfd Tryz.prog 96 0=some (0,3):=by kernel_rfl
theorem Qij:QC Tryz.prog 53=true:=by kernel_rfl
instance:TFn Tryz.prog 47:=⟨by kernel_rfl⟩
theorem QjZ:QC Tryz.prog 92=true:=by kernel_rfl
def fiD(o:Option (List UInt8)):Dsc:=(o.map Xj).getD noD
def fiE(o:Option (List UInt8))(e:Int):Int:=(o.map QbT).getD e
theorem Qjv{S:Type}{f:S->Option (List UInt8)}{id:Int}{l:List SItm}{s s':S}{b:Bool}(h:RunY (λs x s'=>f s'=if x.id=id then some x.by_ else none) (λs=>(f s).isNone) s l s' b)(h0:f s=none):f s'=XK l id:=by
  induction h with
  | nil s=>rw[h0];rfl
  | @go s s' s'' x l b hst hc _ ih=>
    have h1:f s'=none:=by simpa using hc
    rw[h1]at hst;have h2:¬x.id=id:=λe=>by rw[if_pos e]at hst;cases hst
    rw[ih h1];unfold XK;rw[List.find?_cons_of_neg (by simpa using h2)]
  | @stop s s' x l hst hc=>
    have h1:x.id=id:=by
      by_cases e:x.id=id
      · exact e
      · rw[if_neg e]at hst;rw[hst]at hc;cases hc
    rw[hst,if_pos h1];unfold XK;rw[List.find?_cons_of_pos (by simpa using h1)];rfl
set_option maxHeartbeats 4000000 in
theorem c11o(w:World)(q:List UInt8)(mo rm:Int)(a:Option Addr)(cap:Nat)(L:List LNd)(id:Int)(hm:q.length<=16384)(hs:Nt w [] a L)(hB:Bd (pln L))(hkl:∀i,i<L.length->∀x∈(nth L i).es,x.key.length<=1000000)(hE0:strE q=0)(h0:(Ql (⟨2,mo,rm,pln L⟩:Tre)).2=0)(hid:0<=id/\id<=2147483647)(hx0:X6 (2:Int) (nmB [id])=0)(hx:(Qu (2:Int) (pln L) (nmB [id])).2.2=true)(hvl:(Xb (2:Int) (pln L) (nmB [id])).val.length<=100000):CE 11 #[.string (bs q),.agg #[.int .i64 2,.int .i64 mo,.int .i64 rm,.slice a L.length cap],.int .i64 id] w [] (λg:(Option Addr×Nat)×(Option Addr×Nat)=>.tuple #[.agg #[.int .i64 (fiD (XK (QP q (Xb (2:Int) (pln L) (nmB [id])).val) id)).ow,.int .i64 (fiD (XK (QP q (Xb (2:Int) (pln L) (nmB [id])).val) id)).gr,.bool (fiD (XK (QP q (Xb (2:Int) (pln L) (nmB [id])).val) id)).pr,.bool (fiD (XK (QP q (Xb (2:Int) (pln L) (nmB [id])).val) id)).he,.slice g.1.1 (fiD (XK (QP q (Xb (2:Int) (pln L) (nmB [id])).val) id)).en.length g.1.2,.slice g.2.1 (fiD (XK (QP q (Xb (2:Int) (pln L) (nmB [id])).val) id)).au.length g.2.2],.int .i64 (fiE (XK (QP q (Xb (2:Int) (pln L) (nmB [id])).val) id) 31)]) (λg=>True) λg=>[.own (.slice g.1.1 (fiD (XK (QP q (Xb (2:Int) (pln L) (nmB [id])).val) id)).en.length g.1.2) 119 4 (fiD (XK (QP q (Xb (2:Int) (pln L) (nmB [id])).val) id)).en.length ((fiD (XK (QP q (Xb (2:Int) (pln L) (nmB [id])).val) id)).en.flatMap Ace.vals),.own (.slice g.2.1 (fiD (XK (QP q (Xb (2:Int) (pln L) (nmB [id])).val) id)).au.length g.2.2) 119 4 (fiD (XK (QP q (Xb (2:Int) (pln L) (nmB [id])).val) id)).au.length ((fiD (XK (QP q (Xb (2:Int) (pln L) (nmB [id])).val) id)).au.flatMap Ace.vals)]:=by
 obtain⟨hq1,hq2⟩:=Zw hE0
 have hFV:QV [.int .i64 (strE q),.int .i64 (Ql (⟨2,mo,rm,pln L⟩:Tre)).2,.int .i64 (cond (decide ((2:Int)=2)) 0 15),.int .i64 (cond (decide (0<=id)&&decide (id<=2147483647)) 0 2)]=0:=by simp[QV,hE0,h0,hid.1,hid.2]
 have hkk:(nmB [id]).length<=1000000:=by rw[XZ];exact(by decide:4*1<=1000000)
 refine eN3 Tryz.func11 Tryz.ntmps11 ?_
 refine aU2 ?_
 refine oBx λb1 _=>?_
 refine oBx λb2 _=>?_
 refine oAl (λb3 _=>?_) QY
 refine oAl (λb4 _=>?_) Xx
 refine aU2 ?_
 refine Qq [] mixed ?_
 refine dP 0 ?_
 refine dQ 1 [] rfl (Qe rfl Qg2 rfl (λw1 h1=>c39 w1 q om)) (dLn 2 [] ?_)
 refine dQ 3 [] rfl (Qe rfl QgP rfl (λw1 h1=>c40 w1 2 mo rm a cap L (hs.later h1.nil) hB hkl)) (dFa 4 ?_)
 refine dLd 5 [] ?_
 refine dQ 6 [] rfl (Qe rfl Qkx rfl (λw1 h1=>c51 w1)) (dV 7 rfl (ZW rfl rfl Qcp Q3 rfl) (dP 8 ?_))
 refine dQ 9 [] rfl (Qe rfl Zt rfl (λw1 h1=>c42 w1 _ _)) (dLd 10 [] ?_)
 refine dQ 11 [] rfl (Qe rfl Qfa rfl (λw1 h1=>c52 w1 _ _ _)) (dQ 12 [] rfl (Qe rfl Zt rfl (λw1 h1=>c42 w1 _ _)) (dH 13 rfl (Qc (cs:=[_,_,_,_]) rfl rfl Q6 Xx rfl rfl rfl) (λb5 _=>dBa ?_)))
 refine dQ 14 [] rfl (Qe rfl QaK rfl (λw1 h1=>f38 h1 aPk (by rfl) (by rfl) (by decide))) (Qy (show _=Value.int .i64 0 from congrArg (Value.int .i64) hFV) (dP 15 ?_))
 refine dNi ?_
 refine aU6 ?_
 refine sCd rfl (λh6=>?_) λh6=>?_
 ·exfalso;simp at h6
 refine aU2 ?_
 refine Qq [9] mixed ?_
 refine dLn 0 [[]] ?_
 refine dLd 1 [[]] ?_
 refine QeC 2 8 rfl rfl (Qc (cs:=[_]) rfl rfl QU YX rfl rfl rfl) (Xo rfl XB) (by kernel_rfl) (λw h=>h.ent aEt) rfl rfl (λb7 _=>?_) (λb8 _=>?_)
 ·skip
  refine dBa ?_
  refine dQ 3 [[]] rfl (Qe rfl Qe7 rfl (λw1 h1=>c54 w1 _ _ [id] (h1.vl_blk aPk) (by simp) (by intro x hx;simp only[List.mem_cons,List.mem_nil_iff,or_false]at hx;rcases hx with rfl;omega))) (dQ 4 [[]] rfl (Qe rfl Qij rfl (λw1 h1=>c53o w1 2 mo rm a cap L (nmB [id]) (hs.later h1.nil) hB hkl h0 hkk hx0 hx)) (dP 5 ?_))
  refine dP 6 ?_
  refine dP 7 ?_
  refine dH 8 rfl (Xo rfl XB) (λb9 _=>dBa ?_)
  refine dSt 9 ?_ (hl:=(by simp only[Qj,List.length_set,List.length_cons,List.length_nil,List.length_map];omega))
  refine dTu [] ?_
  refine dP 10 ?_
  refine dNi ?_
  refine aU2 ?_
  refine Qi (L':=[(0,_),(5,_),(6,_),(7,_),(8,_),(9,_)]) aSx (λ_ h=>h) ?_
  refine aU4 ?_
  refine sCd rfl (λh10=>?_) λh10=>?_
  ·exfalso;simp at h10
  refine aU7 ?_
  refine oCh rfl (λw1 h1=>c47 w1 q (Xb (2:Int) (pln L) (nmB [id])).val) (λgL _=>aU2 ?_)
  refine QeB (G:={s:(Option (List UInt8)×((Option Addr×Nat)×(Option Addr×Nat))) // s.1=(XK (QP q (Xb (2:Int) (pln L) (nmB [id])).val) id)}) (Bs:=λs=>[.blk b3 28 6 [.int .i64 (fiD s.1.1).ow,.int .i64 (fiD s.1.1).gr,.bool (fiD s.1.1).pr,.bool (fiD s.1.1).he,.slice s.1.2.1.1 (fiD s.1.1).en.length s.1.2.1.2,.slice s.1.2.2.1 (fiD s.1.1).au.length s.1.2.2.2],.blk b4 34 1 [.int .i64 (fiE s.1.1 0)],.own (.slice s.1.2.1.1 (fiD s.1.1).en.length s.1.2.1.2) 119 4 (fiD s.1.1).en.length ((fiD s.1.1).en.flatMap Ace.vals),.own (.slice s.1.2.2.1 (fiD s.1.1).au.length s.1.2.2.2) 119 4 (fiD s.1.1).au.length ((fiD s.1.1).au.flatMap Ace.vals),.blk b1 24 4 [.int .i64 2,.int .i64 mo,.int .i64 rm,.slice a L.length cap],.blk b2 3 1 [.int .i64 id],.blk b9 50 2 [.string (bs (Xb (2:Int) (pln L) (nmB [id])).key),.string (bs (Xb (2:Int) (pln L) (nmB [id])).val)],.blk gL.1 9 1 [.string (bs (Xb (2:Int) (pln L) (nmB [id])).val)],.blk gL.2 9 1 [.string (bs q)]]) (on:=λs=>s.1.1.isNone) rfl rfl QjZ (λfid D l a9 w1 ob hob ha9 hw1=>?_) (λD x hon=>?_) (λD x hon=>?_)
  ·skip
   have h2:HS w [] ((λs:(Option (List UInt8)×((Option Addr×Nat)×(Option Addr×Nat)))=>.star [.obj l (cond s.1.isNone ob (Qe8 ob)),.obj D (.deferred (some [])),.blk b3 28 6 [.int .i64 (fiD s.1).ow,.int .i64 (fiD s.1).gr,.bool (fiD s.1).pr,.bool (fiD s.1).he,.slice s.2.1.1 (fiD s.1).en.length s.2.1.2,.slice s.2.2.1 (fiD s.1).au.length s.2.2.2],.blk b4 34 1 [.int .i64 (fiE s.1 0)],.own (.slice s.2.1.1 (fiD s.1).en.length s.2.1.2) 119 4 (fiD s.1).en.length ((fiD s.1).en.flatMap Ace.vals),.own (.slice s.2.2.1 (fiD s.1).au.length s.2.2.2) 119 4 (fiD s.1).au.length ((fiD s.1).au.flatMap Ace.vals)]) (none,((none,0),(none,0)))::[.blk b1 24 4 [.int .i64 2,.int .i64 mo,.int .i64 rm,.slice a L.length cap],.blk b2 3 1 [.int .i64 id],.blk b9 50 2 [.string (bs (Xb (2:Int) (pln L) (nmB [id])).key),.string (bs (Xb (2:Int) (pln L) (nmB [id])).val)],.blk gL.1 9 1 [.string (bs (Xb (2:Int) (pln L) (nmB [id])).val)],.blk gL.2 9 1 [.string (bs q)]]) w1:=HS.star_close (Bs:=[_,_,_,_,_,_]) (((hw1.own_nil 119 4).own_nil 119 4).ent aEt)
   have q5:=h2.rd_blkF Qaa (b:=b2) (i:=0) aPk rfl
   have qv:=h2.rd_blkF Qaa (b:=gL.1) (i:=0) aPk rfl
   have qs:=h2.rd_blkF Qaa (b:=gL.2) (i:=0) aPk rfl
   refine Calls.mono (c92 w1 (Option (List UInt8)×((Option Addr×Nat)×(Option Addr×Nat))) (λs=>s.1=none) (λs:(Option (List UInt8)×((Option Addr×Nat)×(Option Addr×Nat)))=>.star [.obj l (cond s.1.isNone ob (Qe8 ob)),.obj D (.deferred (some [])),.blk b3 28 6 [.int .i64 (fiD s.1).ow,.int .i64 (fiD s.1).gr,.bool (fiD s.1).pr,.bool (fiD s.1).he,.slice s.2.1.1 (fiD s.1).en.length s.2.1.2,.slice s.2.2.1 (fiD s.1).au.length s.2.2.2],.blk b4 34 1 [.int .i64 (fiE s.1 0)],.own (.slice s.2.1.1 (fiD s.1).en.length s.2.1.2) 119 4 (fiD s.1).en.length ((fiD s.1).en.flatMap Ace.vals),.own (.slice s.2.2.1 (fiD s.1).au.length s.2.2.2) 119 4 (fiD s.1).au.length ((fiD s.1).au.flatMap Ace.vals)]) (λs x s3=>s3.1=if x.id=id then some x.by_ else none) (λs=>s.1.isNone) (λx=>x.by_.length<=1000000) l q (Xb (2:Int) (pln L) (nmB [id])).val gL.1 gL.2 (none,((none,0),(none,0))) (HS.focus (Cs:=[_]) h2) ?_ qv qs hm om hvl (λx hx=>by have:=Qbg om x hx;omega) rfl) λe w2 hx=>?_
   rotate_left
   ·obtain⟨⟨sm,bm⟩,he,hr,h5⟩:=hx
    refine⟨⟨_,he⟩,⟨sm,Qjv (f:=λs:(Option (List UInt8)×((Option Addr×Nat)×(Option Addr×Nat)))=>s.1) hr rfl⟩,?_⟩
    have h6:=HS.star_open (HS.callA h2 h5)
    subst hob
    obtain⟨o9,g9⟩:=sm
    cases o9<;>exact h6.ent aEt
   intro s2 x w3 h3 hI2 hQx
   have h4:=HS.star_open (HS.focus (Cs:=[_]) (Ds:=[]) h3)
   have r5:=h3.keep q5
   subst hob
   obtain⟨o2,g2⟩:=s2
   obtain rfl:o2=none:=hI2
   dsimp only[cond,Option.isNone]at h4 r5 ⊢
   refine QbW (α:=Nat) (fn:=Tryz.f11) (As1:=λb10=>.obj D (.deferred (some []))::[.blk b3 28 6 [.int .i64 (fiD none).ow,.int .i64 (fiD none).gr,.bool (fiD none).pr,.bool (fiD none).he,.slice g2.1.1 (fiD none).en.length g2.1.2,.slice g2.2.1 (fiD none).au.length g2.2.2],.blk b4 34 1 [.int .i64 (fiE none 0)],.own (.slice g2.1.1 (fiD none).en.length g2.1.2) 119 4 (fiD none).en.length ((fiD none).en.flatMap Ace.vals),.own (.slice g2.2.1 (fiD none).au.length g2.2.2) 119 4 (fiD none).au.length ((fiD none).au.flatMap Ace.vals),.blk b10 72 2 (SItm.vals x)]) (L1:=λb10=>[(10,.pointer (some ⟨b10,0,none⟩)),(5,.pointer (some ⟨b2,0,none⟩)),(6,.pointer (some ⟨b3,0,none⟩)),(7,.pointer (some ⟨b4,0,none⟩))]) h4 rfl (FR.round1 ha9 46 _ rfl) ?_ ?_
   ·skip
    refine aU ?_
    refine oAl (λb11 _=>?_) XJ
    refine aU2 ?_
    exact QcQ b11 aSx (λw h=>h.ent aEt)
   skip
   intro b10
   refine aU5 ?_
   refine o_q (Qb rfl rfl Q3 (r5)) rfl (aU2 ?_)
   refine sCd rfl (λh12=>?_) λh12=>?_
   ·have hxid:x.id=id:=h12
    refine aU4 ?_
    refine oCh rfl (λw1 h1=>c55 w1 x.by_ hQx) (λgd _=>aU5 ?_)
    exact Qes rfl aPk (λw h=>⟨(some x.by_,gd),rfl,⟨(if_pos hxid).symm,λh=>by cases h⟩,by refine HS.star_close (Bs:=[_,_,_,_,_,_]) ?_;exact h.ent aEt⟩)
   have hxid:¬x.id=id:=h12
   refine aU2 ?_
   exact QcS rfl aPk (λw h=>⟨(none,g2),rfl,⟨(if_neg hxid).symm,λ_=>rfl⟩,by refine HS.star_close (Bs:=[_,_,_,_,_,_]) ?_;exact h.ent aEt⟩)
  ·skip
   obtain⟨⟨o9,g9⟩,ho9⟩:=x
   obtain rfl:o9=none:=by cases o9;rfl;cases hon
   dsimp only at ho9 ⊢
   refine aU3 ?_
   refine o_p (Qs (cs:=[_,_,_,_,_,_]) rfl rfl XP QY rfl) rfl (aU3 ?_)
   exact Z1 (rs:=[.cell 6 28,.cell 7 34]) rfl aPk (.cell rfl XT aPk rfl (.cell1 rfl Zc aPk rfl (.nil))) (λw' h'=>⟨((none,0),(none,0)),by rw[<-ho9];rfl,trivial,by rw[<-ho9];exact((h'.own_nil 119 4).own_nil 119 4).ent aEt⟩)
  skip
  obtain⟨⟨o9,g9⟩,ho9⟩:=x
  obtain⟨b9,rfl⟩:∃b,o9=some b:=by cases o9;cases hon;exact⟨_,rfl⟩
  dsimp only at ho9 ⊢
  exact Z1 (rs:=[.cell 6 28,.cell 7 34]) rfl aPk (.cell rfl XT aPk rfl (.cell1 rfl Zc aPk rfl (.nil))) (λw' h'=>⟨g9,by rw[<-ho9];rfl,trivial,by rw[<-ho9];exact h'.ent aEt⟩)
 skip
 refine dBa ?_
 refine dH 2 rfl (Qc (cs:=[_]) rfl rfl QU YX rfl rfl rfl) (λb13 _=>dBa ?_)
 refine dQ 3 [[]] rfl (Qe rfl Qe7 rfl (λw1 h1=>c54 w1 _ _ [id] (h1.vl_blk aPk) (by simp) (by intro x hx;simp only[List.mem_cons,List.mem_nil_iff,or_false]at hx;rcases hx with rfl;omega))) (dQ 4 [[]] rfl (Qe rfl Qij rfl (λw1 h1=>c53o w1 2 mo rm a cap L (nmB [id]) (hs.later h1.nil) hB hkl h0 hkk hx0 hx)) (dP 5 ?_))
 refine dP 6 ?_
 refine dP 7 ?_
 refine dSt 9 ?_ (hl:=(by simp only[Qj,List.length_set,List.length_cons,List.length_nil,List.length_map];omega))
 refine dTu [] ?_
 refine dP 10 ?_
 refine dNi ?_
 refine aU2 ?_
 refine Qi (L':=[(0,_),(5,_),(6,_),(7,_),(8,_),(9,_)]) aSx (λ_ h=>h) ?_
 refine aU4 ?_
 refine sCd rfl (λh14=>?_) λh14=>?_
 ·exfalso;simp at h14
 refine aU7 ?_
 refine oCh rfl (λw1 h1=>c47 w1 q (Xb (2:Int) (pln L) (nmB [id])).val) (λgL _=>aU2 ?_)
 refine QeB (G:={s:(Option (List UInt8)×((Option Addr×Nat)×(Option Addr×Nat))) // s.1=(XK (QP q (Xb (2:Int) (pln L) (nmB [id])).val) id)}) (Bs:=λs=>[.blk b3 28 6 [.int .i64 (fiD s.1.1).ow,.int .i64 (fiD s.1.1).gr,.bool (fiD s.1.1).pr,.bool (fiD s.1.1).he,.slice s.1.2.1.1 (fiD s.1.1).en.length s.1.2.1.2,.slice s.1.2.2.1 (fiD s.1.1).au.length s.1.2.2.2],.blk b4 34 1 [.int .i64 (fiE s.1.1 0)],.own (.slice s.1.2.1.1 (fiD s.1.1).en.length s.1.2.1.2) 119 4 (fiD s.1.1).en.length ((fiD s.1.1).en.flatMap Ace.vals),.own (.slice s.1.2.2.1 (fiD s.1.1).au.length s.1.2.2.2) 119 4 (fiD s.1.1).au.length ((fiD s.1.1).au.flatMap Ace.vals),.blk b1 24 4 [.int .i64 2,.int .i64 mo,.int .i64 rm,.slice a L.length cap],.blk b2 3 1 [.int .i64 id],.blk b8 50 2 [.string (bs (Xb (2:Int) (pln L) (nmB [id])).key),.string (bs (Xb (2:Int) (pln L) (nmB [id])).val)],.blk gL.1 9 1 [.string (bs (Xb (2:Int) (pln L) (nmB [id])).val)],.blk gL.2 9 1 [.string (bs q)]]) (on:=λs=>s.1.1.isNone) rfl rfl QjZ (λfid D l a9 w1 ob hob ha9 hw1=>?_) (λD x hon=>?_) (λD x hon=>?_)
 ·skip
  have h2:HS w [] ((λs:(Option (List UInt8)×((Option Addr×Nat)×(Option Addr×Nat)))=>.star [.obj l (cond s.1.isNone ob (Qe8 ob)),.obj D (.deferred (some [])),.blk b3 28 6 [.int .i64 (fiD s.1).ow,.int .i64 (fiD s.1).gr,.bool (fiD s.1).pr,.bool (fiD s.1).he,.slice s.2.1.1 (fiD s.1).en.length s.2.1.2,.slice s.2.2.1 (fiD s.1).au.length s.2.2.2],.blk b4 34 1 [.int .i64 (fiE s.1 0)],.own (.slice s.2.1.1 (fiD s.1).en.length s.2.1.2) 119 4 (fiD s.1).en.length ((fiD s.1).en.flatMap Ace.vals),.own (.slice s.2.2.1 (fiD s.1).au.length s.2.2.2) 119 4 (fiD s.1).au.length ((fiD s.1).au.flatMap Ace.vals)]) (none,((none,0),(none,0)))::[.blk b1 24 4 [.int .i64 2,.int .i64 mo,.int .i64 rm,.slice a L.length cap],.blk b2 3 1 [.int .i64 id],.blk b8 50 2 [.string (bs (Xb (2:Int) (pln L) (nmB [id])).key),.string (bs (Xb (2:Int) (pln L) (nmB [id])).val)],.blk gL.1 9 1 [.string (bs (Xb (2:Int) (pln L) (nmB [id])).val)],.blk gL.2 9 1 [.string (bs q)]]) w1:=HS.star_close (Bs:=[_,_,_,_,_,_]) (((hw1.own_nil 119 4).own_nil 119 4).ent aEt)
  have q5:=h2.rd_blkF Qaa (b:=b2) (i:=0) aPk rfl
  have qv:=h2.rd_blkF Qaa (b:=gL.1) (i:=0) aPk rfl
  have qs:=h2.rd_blkF Qaa (b:=gL.2) (i:=0) aPk rfl
  refine Calls.mono (c92 w1 (Option (List UInt8)×((Option Addr×Nat)×(Option Addr×Nat))) (λs=>s.1=none) (λs:(Option (List UInt8)×((Option Addr×Nat)×(Option Addr×Nat)))=>.star [.obj l (cond s.1.isNone ob (Qe8 ob)),.obj D (.deferred (some [])),.blk b3 28 6 [.int .i64 (fiD s.1).ow,.int .i64 (fiD s.1).gr,.bool (fiD s.1).pr,.bool (fiD s.1).he,.slice s.2.1.1 (fiD s.1).en.length s.2.1.2,.slice s.2.2.1 (fiD s.1).au.length s.2.2.2],.blk b4 34 1 [.int .i64 (fiE s.1 0)],.own (.slice s.2.1.1 (fiD s.1).en.length s.2.1.2) 119 4 (fiD s.1).en.length ((fiD s.1).en.flatMap Ace.vals),.own (.slice s.2.2.1 (fiD s.1).au.length s.2.2.2) 119 4 (fiD s.1).au.length ((fiD s.1).au.flatMap Ace.vals)]) (λs x s3=>s3.1=if x.id=id then some x.by_ else none) (λs=>s.1.isNone) (λx=>x.by_.length<=1000000) l q (Xb (2:Int) (pln L) (nmB [id])).val gL.1 gL.2 (none,((none,0),(none,0))) (HS.focus (Cs:=[_]) h2) ?_ qv qs hm om hvl (λx hx=>by have:=Qbg om x hx;omega) rfl) λe w2 hx=>?_
  rotate_left
  ·obtain⟨⟨sm,bm⟩,he,hr,h5⟩:=hx
   refine⟨⟨_,he⟩,⟨sm,Qjv (f:=λs:(Option (List UInt8)×((Option Addr×Nat)×(Option Addr×Nat)))=>s.1) hr rfl⟩,?_⟩
   have h6:=HS.star_open (HS.callA h2 h5)
   subst hob
   obtain⟨o9,g9⟩:=sm
   cases o9<;>exact h6.ent aEt
  intro s2 x w3 h3 hI2 hQx
  have h4:=HS.star_open (HS.focus (Cs:=[_]) (Ds:=[]) h3)
  have r5:=h3.keep q5
  subst hob
  obtain⟨o2,g2⟩:=s2
  obtain rfl:o2=none:=hI2
  dsimp only[cond,Option.isNone]at h4 r5 ⊢
  refine QbW (α:=Nat) (fn:=Tryz.f11) (As1:=λb10=>.obj D (.deferred (some []))::[.blk b3 28 6 [.int .i64 (fiD none).ow,.int .i64 (fiD none).gr,.bool (fiD none).pr,.bool (fiD none).he,.slice g2.1.1 (fiD none).en.length g2.1.2,.slice g2.2.1 (fiD none).au.length g2.2.2],.blk b4 34 1 [.int .i64 (fiE none 0)],.own (.slice g2.1.1 (fiD none).en.length g2.1.2) 119 4 (fiD none).en.length ((fiD none).en.flatMap Ace.vals),.own (.slice g2.2.1 (fiD none).au.length g2.2.2) 119 4 (fiD none).au.length ((fiD none).au.flatMap Ace.vals),.blk b10 72 2 (SItm.vals x)]) (L1:=λb10=>[(10,.pointer (some ⟨b10,0,none⟩)),(5,.pointer (some ⟨b2,0,none⟩)),(6,.pointer (some ⟨b3,0,none⟩)),(7,.pointer (some ⟨b4,0,none⟩))]) h4 rfl (FR.round1 ha9 46 _ rfl) ?_ ?_
  ·skip
   refine aU ?_
   refine oAl (λb15 _=>?_) XJ
   refine aU2 ?_
   exact QcQ b15 aSx (λw h=>h.ent aEt)
  skip
  intro b10
  refine aU5 ?_
  refine o_q (Qb rfl rfl Q3 (r5)) rfl (aU2 ?_)
  refine sCd rfl (λh16=>?_) λh16=>?_
  ·have hxid:x.id=id:=h16
   refine aU4 ?_
   refine oCh rfl (λw1 h1=>c55 w1 x.by_ hQx) (λgd _=>aU5 ?_)
   exact Qes rfl aPk (λw h=>⟨(some x.by_,gd),rfl,⟨(if_pos hxid).symm,λh=>by cases h⟩,by refine HS.star_close (Bs:=[_,_,_,_,_,_]) ?_;exact h.ent aEt⟩)
  have hxid:¬x.id=id:=h16
  refine aU2 ?_
  exact QcS rfl aPk (λw h=>⟨(none,g2),rfl,⟨(if_neg hxid).symm,λ_=>rfl⟩,by refine HS.star_close (Bs:=[_,_,_,_,_,_]) ?_;exact h.ent aEt⟩)
 ·skip
  obtain⟨⟨o9,g9⟩,ho9⟩:=x
  obtain rfl:o9=none:=by cases o9;rfl;cases hon
  dsimp only at ho9 ⊢
  refine aU3 ?_
  refine o_p (Qs (cs:=[_,_,_,_,_,_]) rfl rfl XP QY rfl) rfl (aU3 ?_)
  exact Z1 (rs:=[.cell 6 28,.cell 7 34]) rfl aPk (.cell rfl XT aPk rfl (.cell1 rfl Zc aPk rfl (.nil))) (λw' h'=>⟨((none,0),(none,0)),by rw[<-ho9];rfl,trivial,by rw[<-ho9];exact((h'.own_nil 119 4).own_nil 119 4).ent aEt⟩)
 skip
 obtain⟨⟨o9,g9⟩,ho9⟩:=x
 obtain⟨b9,rfl⟩:∃b,o9=some b:=by cases o9;cases hon;exact⟨_,rfl⟩
 dsimp only at ho9 ⊢
 exact Z1 (rs:=[.cell 6 28,.cell 7 34]) rfl aPk (.cell rfl XT aPk rfl (.cell1 rfl Zc aPk rfl (.nil))) (λw' h'=>⟨g9,by rw[<-ho9];rfl,trivial,by rw[<-ho9];exact h'.ent aEt⟩)
def QO(a b co id:Int):Int:=if a=0 then if b=0 then if co=2 then if 0<=id/\id<=2147483647 then 0 else 2 else 15 else b else a
theorem Qi6(a b co id:Int):QV [.int .i64 a,.int .i64 b,.int .i64 (cond (decide (co=2)) 0 15),.int .i64 (cond (decide (0<=id)&&decide (id<=2147483647)) 0 2)]=QO a b co id:=by
  unfold QO
  by_cases h1:a=0<;>by_cases h2:b=0<;>by_cases h3:co=2<;>by_cases h4:0<=id<;>by_cases h5:id<=2147483647<;>simp[QV,h1,h2,h3,h4,h5]
theorem c11e(w:World)(q:List UInt8)(co mo rm:Int)(a:Option Addr)(cap:Nat)(L:List LNd)(id:Int)(hm:q.length<=16384)(hs:Nt w [] a L)(hB:Bd (pln L))(hkl:∀i,i<L.length->∀x∈(nth L i).es,x.key.length<=1000000)(he:¬(QO (strE q) (Ql (⟨co,mo,rm,pln L⟩:Tre)).2 co id)=0):CR 11 #[.string (bs q),.agg #[.int .i64 co,.int .i64 mo,.int .i64 rm,.slice a L.length cap],.int .i64 id] w (.tuple #[.agg #[.int .i64 0,.int .i64 0,.bool false,.bool false,.slice none 0 0,.slice none 0 0],.int .i64 (QO (strE q) (Ql (⟨co,mo,rm,pln L⟩:Tre)).2 co id)]):=by
 have hFV:=Qi6 (strE q) (Ql (⟨co,mo,rm,pln L⟩:Tre)).2 co id
 refine eN3 Tryz.func11 Tryz.ntmps11 ?_
 refine aU2 ?_
 refine oBx λb1 _=>?_
 refine oBx λb2 _=>?_
 refine oAl (λb3 _=>?_) QY
 refine oAl (λb4 _=>?_) Xx
 refine aU2 ?_
 refine Qq [] mixed ?_
 refine dP 0 ?_
 refine dQ 1 [] rfl (Qe rfl Qg2 rfl (λw1 h1=>c39 w1 q om)) (dLn 2 [] ?_)
 refine dQ 3 [] rfl (Qe rfl QgP rfl (λw1 h1=>c40 w1 co mo rm a cap L (hs.later h1.nil) hB hkl)) (dFa 4 ?_)
 refine dLd 5 [] ?_
 refine dQ 6 [] rfl (Qe rfl Qkx rfl (λw1 h1=>c51 w1)) (dV 7 rfl (ZW rfl rfl Qcp Q3 rfl) (dP 8 ?_))
 refine dQ 9 [] rfl (Qe rfl Zt rfl (λw1 h1=>c42 w1 _ _)) (dLd 10 [] ?_)
 refine dQ 11 [] rfl (Qe rfl Qfa rfl (λw1 h1=>c52 w1 _ _ _)) (dQ 12 [] rfl (Qe rfl Zt rfl (λw1 h1=>c42 w1 _ _)) (dH 13 rfl (Qc (cs:=[_,_,_,_]) rfl rfl Q6 Xx rfl rfl rfl) (λb5 _=>dBa ?_)))
 refine dQ 14 [] rfl (Qe rfl QaK rfl (λw1 h1=>f38 h1 aPk (by rfl) (by rfl) (by decide))) (Qy (show _=Value.int .i64 (QO (strE q) (Ql (⟨co,mo,rm,pln L⟩:Tre)).2 co id)from congrArg (Value.int .i64) hFV) (dP 15 ?_))
 refine dNi ?_
 refine aU6 ?_
 refine sCd rfl (λh6=>?_) λh6=>?_
 ·refine aU2 ?_
  refine o_p (Qs (cs:=[_,_,_,_,_,_]) rfl rfl XP QY rfl) rfl (aU4 ?_)
  exact Qg (rs:=[.cell 6 28,.cell 7 34]) rfl (.cell rfl XT aPk rfl (.cell1 rfl Zc aPk rfl (.nil))) (λw' h'=>⟨by rfl,h'.below⟩)
 exfalso;exact he (by have hq:=h6;simpa using hq)
theorem c11m(w:World)(q:List UInt8)(mo rm:Int)(a:Option Addr)(cap:Nat)(L:List LNd)(id:Int)(hm:q.length<=16384)(hs:Nt w [] a L)(hB:Bd (pln L))(hkl:∀i,i<L.length->∀x∈(nth L i).es,x.key.length<=1000000)(hE0:strE q=0)(h0:(Ql (⟨2,mo,rm,pln L⟩:Tre)).2=0)(hid:0<=id/\id<=2147483647)(hx0:X6 (2:Int) (nmB [id])=0)(hx:¬(Qu (2:Int) (pln L) (nmB [id])).2.2=true):CR 11 #[.string (bs q),.agg #[.int .i64 2,.int .i64 mo,.int .i64 rm,.slice a L.length cap],.int .i64 id] w (.tuple #[.agg #[.int .i64 0,.int .i64 0,.bool false,.bool false,.slice none 0 0,.slice none 0 0],.int .i64 6]):=by
 have hFV:QV [.int .i64 (strE q),.int .i64 (Ql (⟨2,mo,rm,pln L⟩:Tre)).2,.int .i64 (cond (decide ((2:Int)=2)) 0 15),.int .i64 (cond (decide (0<=id)&&decide (id<=2147483647)) 0 2)]=0:=by simp[QV,hE0,h0,hid.1,hid.2]
 have hkk:(nmB [id]).length<=1000000:=by rw[XZ];exact(by decide:4*1<=1000000)
 refine eN3 Tryz.func11 Tryz.ntmps11 ?_
 refine aU2 ?_
 refine oBx λb1 _=>?_
 refine oBx λb2 _=>?_
 refine oAl (λb3 _=>?_) QY
 refine oAl (λb4 _=>?_) Xx
 refine aU2 ?_
 refine Qq [] mixed ?_
 refine dP 0 ?_
 refine dQ 1 [] rfl (Qe rfl Qg2 rfl (λw1 h1=>c39 w1 q om)) (dLn 2 [] ?_)
 refine dQ 3 [] rfl (Qe rfl QgP rfl (λw1 h1=>c40 w1 2 mo rm a cap L (hs.later h1.nil) hB hkl)) (dFa 4 ?_)
 refine dLd 5 [] ?_
 refine dQ 6 [] rfl (Qe rfl Qkx rfl (λw1 h1=>c51 w1)) (dV 7 rfl (ZW rfl rfl Qcp Q3 rfl) (dP 8 ?_))
 refine dQ 9 [] rfl (Qe rfl Zt rfl (λw1 h1=>c42 w1 _ _)) (dLd 10 [] ?_)
 refine dQ 11 [] rfl (Qe rfl Qfa rfl (λw1 h1=>c52 w1 _ _ _)) (dQ 12 [] rfl (Qe rfl Zt rfl (λw1 h1=>c42 w1 _ _)) (dH 13 rfl (Qc (cs:=[_,_,_,_]) rfl rfl Q6 Xx rfl rfl rfl) (λb5 _=>dBa ?_)))
 refine dQ 14 [] rfl (Qe rfl QaK rfl (λw1 h1=>f38 h1 aPk (by rfl) (by rfl) (by decide))) (Qy (show _=Value.int .i64 0 from congrArg (Value.int .i64) hFV) (dP 15 ?_))
 refine dNi ?_
 refine aU6 ?_
 refine sCd rfl (λh6=>?_) λh6=>?_
 ·exfalso;simp at h6
 refine aU2 ?_
 refine Qq [9] mixed ?_
 refine dLn 0 [[]] ?_
 refine dLd 1 [[]] ?_
 refine QeC 2 8 rfl rfl (Qc (cs:=[_]) rfl rfl QU YX rfl rfl rfl) (Xo rfl XB) (by kernel_rfl) (λw h=>h.ent aEt) rfl rfl (λb7 _=>?_) (λb8 _=>?_)
 ·skip
  refine dBa ?_
  refine dQ 3 [[]] rfl (Qe rfl Qe7 rfl (λw1 h1=>c54 w1 _ _ [id] (h1.vl_blk aPk) (by simp) (by intro x hx;simp only[List.mem_cons,List.mem_nil_iff,or_false]at hx;rcases hx with rfl;omega))) (dQ 4 [[]] rfl (Qe rfl Qij rfl (λw1 h1=>c53m w1 2 mo rm a cap L (nmB [id]) (hs.later h1.nil) hB hkl h0 hkk hx0 hx)) (dP 5 ?_))
  refine dP 6 ?_
  refine dP 7 ?_
  refine dH 8 rfl (Xo rfl XB) (λb9 _=>dBa ?_)
  refine dSt 9 ?_ (hl:=(by simp only[Qj,List.length_set,List.length_cons,List.length_nil,List.length_map];omega))
  refine dTu [] ?_
  refine dP 10 ?_
  refine dNi ?_
  refine aU2 ?_
  refine Qi (L':=[(0,_),(5,_),(6,_),(7,_),(8,_),(9,_)]) aSx (λ_ h=>h) ?_
  refine aU4 ?_
  refine sCd rfl (λh10=>?_) λh10=>?_
  ·refine aU2 ?_
   refine o_p (Qs (cs:=[_,_,_,_,_,_]) rfl rfl XP QY rfl) rfl (aU4 ?_)
   exact Qg (rs:=[.cell 6 28,.cell 7 34]) rfl (.cell rfl XT aPk rfl (.cell1 rfl Zc aPk rfl (.nil))) (λw' h'=>⟨by rfl,h'.below⟩)
  exfalso;simp at h10
 skip
 refine dBa ?_
 refine dH 2 rfl (Qc (cs:=[_]) rfl rfl QU YX rfl rfl rfl) (λb11 _=>dBa ?_)
 refine dQ 3 [[]] rfl (Qe rfl Qe7 rfl (λw1 h1=>c54 w1 _ _ [id] (h1.vl_blk aPk) (by simp) (by intro x hx;simp only[List.mem_cons,List.mem_nil_iff,or_false]at hx;rcases hx with rfl;omega))) (dQ 4 [[]] rfl (Qe rfl Qij rfl (λw1 h1=>c53m w1 2 mo rm a cap L (nmB [id]) (hs.later h1.nil) hB hkl h0 hkk hx0 hx)) (dP 5 ?_))
 refine dP 6 ?_
 refine dP 7 ?_
 refine dSt 9 ?_ (hl:=(by simp only[Qj,List.length_set,List.length_cons,List.length_nil,List.length_map];omega))
 refine dTu [] ?_
 refine dP 10 ?_
 refine dNi ?_
 refine aU2 ?_
 refine Qi (L':=[(0,_),(5,_),(6,_),(7,_),(8,_),(9,_)]) aSx (λ_ h=>h) ?_
 refine aU4 ?_
 refine sCd rfl (λh12=>?_) λh12=>?_
 ·refine aU2 ?_
  refine o_p (Qs (cs:=[_,_,_,_,_,_]) rfl rfl XP QY rfl) rfl (aU4 ?_)
  exact Qg (rs:=[.cell 6 28,.cell 7 34]) rfl (.cell rfl XT aPk rfl (.cell1 rfl Zc aPk rfl (.nil))) (λw' h'=>⟨by rfl,h'.below⟩)
 exfalso;simp at h12
theorem QmM:QC Tryz.prog 43=true:=by kernel_rfl
instance:TFn Tryz.prog 44:=⟨by kernel_rfl⟩
def fhE(a b c co:Int):Int:=if a=0 then if b=0 then if c=0 then if co=3 then 0 else 15 else c else b else a
theorem fh_1(a b:Int):QV [.int .i64 a,.int .i64 b]=if a=0 then b else a:=by
  by_cases h1:a=0<;>by_cases h2:b=0<;>simp[QV,h1,h2]
theorem fh_2(c co:Int):QV [.int .i64 c,.int .i64 (cond (decide (co=3)) 0 15)]=if c=0 then(if co=3 then 0 else 15)else c:=by
  by_cases h1:c=0<;>by_cases h2:co=3<;>simp[QV,h1,h2]
theorem Qnz{S:Type}{f:S->Option Int}{own:List UInt8}{l:List SItm}{s s':S}{b:Bool}(h:RunY (λs x s'=>f s'=if x.by_=own then some x.id else none) (λs=>(f s).isNone) s l s' b)(h0:f s=none):f s'=QfI l own:=by
  induction h with
  | nil s=>rw[h0];rfl
  | @go s s' s'' x l b hst hc _ ih=>
    have h1:f s'=none:=by simpa using hc
    rw[h1]at hst;have h2:¬x.by_=own:=λe=>by rw[if_pos e]at hst;cases hst
    rw[ih h1];unfold QfI;rw[List.find?_cons_of_neg (by simpa using h2)]
  | @stop s s' x l hst hc=>
    have h1:x.by_=own:=by
      by_cases e:x.by_=own
      · exact e
      · rw[if_neg e]at hst;rw[hst]at hc;cases hc
    rw[hst,if_pos h1];unfold QfI;rw[List.find?_cons_of_pos (by simpa using h1)];rfl
set_option maxHeartbeats 4000000 in
theorem c8o(w:World)(q:List UInt8)(mo rm:Int)(a:Option Addr)(cap:Nat)(L:List LNd)(T:BT)(dp lo hi:Nat)(d:Dsc)(ea:Option Addr)(eac:Nat)(aa:Option Addr)(aac:Nat)(hm:q.length<=16384)(hs:Nt w [] a L)(hB:Bd (pln L))(hkl:∀i,i<L.length->∀x∈(nth L i).es,x.key.length<=1000000)(hse:Rw Ace.vals 4 w [] ea d.en)(hsa:Rw Ace.vals 4 w [] aa d.au)(hme:d.en.length<=100000)(hma:d.au.length<=100000)(hE0:strE q=0)(h0:(Ql (⟨3,mo,rm,pln L⟩:Tre)).2=0)(hd0:(QF d).2=0)(hl2:L.length<=1000)(hBl:Bel lo hi dp T)(hN:NIn (pln L) T)(hT0:T.idx=0)(hf:T.flat.length<=10000)(hE:∀x∈T.flat,4<=x.key.length/\x.key.length<=1000000/\x.val.length<=100000):CR 8 #[.string (bs q),.agg #[.int .i64 3,.int .i64 mo,.int .i64 rm,.slice a L.length cap],.agg #[.int .i64 d.ow,.int .i64 d.gr,.bool d.pr,.bool d.he,.slice ea d.en.length eac,.slice aa d.au.length aac]] w (.tuple #[.int .i64 ((fbH q (Xe d) T.flat).getD 0),.int .i64 (if(fbH q (Xe d) T.flat).isSome=true then 0 else 6)]):=by
 obtain⟨hq1,hq2⟩:=Zw hE0
 have hF1:QV [.int .i64 (strE q),.int .i64 (Ql (⟨3,mo,rm,pln L⟩:Tre)).2]=0:=by simp[QV,hE0,h0]
 have hF2:QV [.int .i64 (QF d).2,.int .i64 (cond (decide ((3:Int)=3)) 0 15)]=0:=by simp[QV,hd0]
 have hol:=QaW d
 obtain⟨_,⟨hen16,hau16⟩,_,_⟩:=Qeu hd0
 refine eN3 Tryz.func8 Tryz.ntmps8 ?_
 refine aU2 ?_
 refine oBx λb1 _=>?_
 refine oBx λb2 _=>?_
 refine oAl (λb3 _=>?_) YX
 refine oAl (λb4 _=>?_) Xx
 refine aU3 ?_
 refine Qq [] mixed ?_
 refine dP 0 ?_
 refine dQ 1 [] rfl (Qe rfl Qg2 rfl (λw1 h1=>c39 w1 q om)) (dLn 2 [] ?_)
 refine dQ 3 [] rfl (Qe rfl QgP rfl (λw1 h1=>c40 w1 3 mo rm a cap L (hs.later h1.nil) hB hkl)) (dH 4 rfl (Qc (cs:=[_,_]) rfl rfl Q6 Xx rfl rfl rfl) (λb5 _=>dBa ?_))
 refine dQ 5 [] rfl (Qe rfl QaK rfl (λw1 h1=>f38 h1 aPk (by rfl) (by rfl) (by decide))) (Qy (show _=Value.int .i64 0 from congrArg (Value.int .i64) hF1) (dP 6 ?_))
 refine dNi ?_
 refine aU5 ?_
 refine sCd rfl (λh6=>?_) λh6=>?_
 ·exfalso;simp at h6
 refine aU4 ?_
 refine oCq rfl (λw1 h1=>by have h9:=c41 w1 d ea eac aa aac (hse.later h1) (hsa.later h1) hme hma;rw[if_pos hd0]at h9;exact h9) (aU3 ?_)
 refine oAl (λb7 _=>?_) Qj1
 refine aU5 ?_
 refine Qq [] mixed ?_
 refine dP 0 ?_
 refine dFa 1 ?_
 refine dLd 2 [] ?_
 refine dQ 3 [] rfl (Qe rfl QmM rfl (λw1 h1=>c43 w1)) (dV 4 rfl (ZW rfl rfl Qcp Q3 rfl) (dP 5 ?_))
 refine dQ 6 [] rfl (Qe rfl Zt rfl (λw1 h1=>c42 w1 _ _)) (dH 7 rfl (Qc (cs:=[_,_]) rfl rfl Q6 Xx rfl rfl rfl) (λb8 _=>dBa ?_))
 refine dQ 8 [] rfl (Qe rfl QaK rfl (λw1 h1=>f38 h1 aPk (by rfl) (by rfl) (by decide))) (Qy (show _=Value.int .i64 0 from congrArg (Value.int .i64) hF2) (dP 9 ?_))
 refine dNi ?_
 refine aU ?_
 refine Qi (L':=[(0,_),(4,_),(6,_),(7,_),(9,_),(10,_)]) aSx (λ_ h=>h) ?_
 refine aU4 ?_
 refine sCd rfl (λh9=>?_) λh9=>?_
 ·exfalso;simp at h9
 refine aU4 ?_
 refine oCh rfl (λw1 h1=>c44o w1 3 mo rm a cap L T dp lo hi (hs.later h1.nil) hB hkl h0 hl2 hBl hN hT0 hf) (λ⟨xa,xc⟩_=>Qg0 ?_)
 refine Qi (L':=[(0,_),(6,_),(7,_),(9,_),(47,_),(48,_),(49,_)]) aSx (λ_ h=>h) ?_
 refine Qmc (α:=Nat×List Nat) [14,15,49,50,51,52,53,54,55,56,57,58,59,60,61,62,64,65,66,67,68,69,70] (λx=>[(49,.int .i64 (x.1:Int))]) (λx=>HS w [] [.star (x.2.map dfO),.blk b3 3 1 [.int .i64 ((none:Option Int).getD 0)],.blk b4 34 1 [.int .i64 0],.blk b1 24 4 [.int .i64 3,.int .i64 mo,.int .i64 rm,.slice a L.length cap],.blk b2 28 6 [.int .i64 d.ow,.int .i64 d.gr,.bool d.pr,.bool d.he,.slice ea d.en.length eac,.slice aa d.au.length aac],.blk b7 9 1 [.string (bs (Xe d))],.own (.slice (xa,xc).1 T.flat.length (xa,xc).2) 50 2 T.flat.length (T.flat.flatMap TEnt.vals)]) (λx=>x.1<=T.flat.length/\fbH q (Xe d) (T.flat.take x.1)=none) (λx=>T.flat.length-x.1) (λx=>x.2) (0,[]) ⟨Nat.zero_le _,rfl⟩ rfl aSx (λw h=>HS.star_close (Bs:=[]) (h.ent aEt)) (λ⟨k,ds⟩hk1=>?_)
 dsimp only at hk1 ⊢
 obtain⟨hk1,hk2⟩:=hk1
 refine aU5 ?_
 refine sCd rfl (λh10=>?_) λh10=>?_
 ·have hk:k<T.flat.length:=by omega
  obtain⟨hE1,hE2,hE3⟩:=hE _ (QA hk)
  refine ZD (λw h=>QaP (a:=xa) (n:=T.flat.length) om h aPk) λhga=>?_
  obtain⟨gx,hgx,_⟩:=hga
  refine aU5 ?_
  refine o_p (Qa rfl rfl rfl Xi _ rfl om hgx) rfl (o_q (Qae _ rfl rfl YF rfl (λw h=>QfK hk hgx h aPk)) rfl (oAl (λb11 _=>?_) XB))
  refine aU4 ?_
  refine Qq [] mixed ?_
  refine dFa 0 ?_
  refine dLd 1 [] ?_
  refine dQ 2 [] rfl (Qe rfl Qe9 rfl (λw1 h1=>c45 w1 (nth T.flat k).key 0 om om)) (dLd 3 [] ?_)
  refine dQ 4 [] rfl (Qe rfl Qle rfl (λw1 h1=>c46 w1 (Xe d) om)) (dP 5 ?_)
  refine dNi ?_
  refine sCd rfl (λh12=>?_) λh12=>?_
  ·have hst:=QfL hk hk2 (show fbE q (Xe d) (nth T.flat k)=none from if_neg h12)
   refine Qk rfl ?_
   refine aT2 ?_
   refine aU2 ?_
   exact QhW (k+1,ds) rfl rfl (by(try simp only[]);omega) ⟨by(try simp only[]);omega,hst⟩ aSx (λw h=>h.ent aEt)
  have hy:at4 (nth T.flat k).key 0=hashS (Xe d):=by have hq:=h12;simpa using hq
  refine aU6 ?_
  refine oCh rfl (λw1 h1=>c47 w1 q (nth T.flat k).val) (λgL _=>aU2 ?_)
  refine QeB (G:={s:(Option Int) // s=QfI (QP q (nth T.flat k).val) (Xe d)}) (Bs:=λs=>[.blk b3 3 1 [.int .i64 (s.1.getD 0)],.blk b4 34 1 [.int .i64 0],.blk b1 24 4 [.int .i64 3,.int .i64 mo,.int .i64 rm,.slice a L.length cap],.blk b2 28 6 [.int .i64 d.ow,.int .i64 d.gr,.bool d.pr,.bool d.he,.slice ea d.en.length eac,.slice aa d.au.length aac],.blk b7 9 1 [.string (bs (Xe d))],.own (.slice (xa,xc).1 T.flat.length (xa,xc).2) 50 2 T.flat.length (T.flat.flatMap TEnt.vals),.blk b11 50 2 [.string (bs (nth T.flat k).key),.string (bs (nth T.flat k).val)],.blk gL.1 9 1 [.string (bs (nth T.flat k).val)],.blk gL.2 9 1 [.string (bs q)],.star (ds.map dfO)]) (on:=λs=>s.1.isNone) rfl rfl QjZ (λfid D l a9 w1 ob hob ha9 hw1=>?_) (λD x hon=>?_) (λD x hon=>?_)
  ·skip
   have h2:HS w [] ((λs:(Option Int)=>.star [.obj l (cond s.isNone ob (Qe8 ob)),.obj D (.deferred (some [])),.blk b3 3 1 [.int .i64 (s.getD 0)],.blk b4 34 1 [.int .i64 0]]) none::[.blk b1 24 4 [.int .i64 3,.int .i64 mo,.int .i64 rm,.slice a L.length cap],.blk b2 28 6 [.int .i64 d.ow,.int .i64 d.gr,.bool d.pr,.bool d.he,.slice ea d.en.length eac,.slice aa d.au.length aac],.blk b7 9 1 [.string (bs (Xe d))],.own (.slice (xa,xc).1 T.flat.length (xa,xc).2) 50 2 T.flat.length (T.flat.flatMap TEnt.vals),.blk b11 50 2 [.string (bs (nth T.flat k).key),.string (bs (nth T.flat k).val)],.blk gL.1 9 1 [.string (bs (nth T.flat k).val)],.blk gL.2 9 1 [.string (bs q)],.star (ds.map dfO)]) w1:=HS.star_close (Bs:=[_,_,_,_]) (hw1.ent aEt)
   have q9:=h2.rd_blkF Qaa (b:=b7) (i:=0) aPk rfl
   have qv:=h2.rd_blkF Qaa (b:=gL.1) (i:=0) aPk rfl
   have qs:=h2.rd_blkF Qaa (b:=gL.2) (i:=0) aPk rfl
   refine Calls.mono (c92 w1 (Option Int) (λs=>s=none) (λs:(Option Int)=>.star [.obj l (cond s.isNone ob (Qe8 ob)),.obj D (.deferred (some [])),.blk b3 3 1 [.int .i64 (s.getD 0)],.blk b4 34 1 [.int .i64 0]]) (λs x s3=>s3=if x.by_=(Xe d)then some x.id else none) (λs=>s.isNone) (λx=>x.by_.length<=1000000) l q (nth T.flat k).val gL.1 gL.2 none (HS.focus (Cs:=[_]) h2) ?_ qv qs hm om hE3 (λx hx=>by have:=Qbg om x hx;omega) rfl) λe w2 hx=>?_
   rotate_left
   ·obtain⟨⟨sm,bm⟩,he,hr,h5⟩:=hx
    refine⟨⟨_,he⟩,⟨sm,Qnz (f:=λs:(Option Int)=>s) hr rfl⟩,?_⟩
    have h6:=HS.star_open (HS.callA h2 h5)
    subst hob
    cases sm<;>exact h6.ent aEt
   intro s2 x w3 h3 hI2 hQx
   have h4:=HS.star_open (HS.focus (Cs:=[_]) (Ds:=[]) h3)
   have r9:=h3.keep q9
   subst hob
   obtain rfl:s2=none:=hI2
   dsimp only[cond,Option.isNone]at h4 r9 ⊢
   refine QbW (α:=Nat) (fn:=Tryz.f8) (As1:=λb15=>.obj D (.deferred (some []))::[.blk b3 3 1 [.int .i64 ((none:Option Int).getD 0)],.blk b4 34 1 [.int .i64 0],.blk b15 72 2 (SItm.vals x)]) (L1:=λb15=>[(15,.pointer (some ⟨b15,0,none⟩)),(6,.pointer (some ⟨b3,0,none⟩)),(7,.pointer (some ⟨b4,0,none⟩)),(9,.pointer (some ⟨b7,0,none⟩))]) h4 rfl (FR.round1 ha9 63 _ rfl) ?_ ?_
   ·skip
    refine aU ?_
    refine oAl (λb13 _=>?_) XJ
    refine aU2 ?_
    exact QcQ b13 aSx (λw h=>h.ent aEt)
   skip
   intro b15
   refine aU5 ?_
   refine o_q (Qb rfl rfl X5 (r9)) rfl (aU2 ?_)
   refine sCd rfl (λh14=>?_) λh14=>?_
   ·have hxb:x.by_=(Xe d):=h14
    refine aU7 ?_
    exact Qes rfl aPk (λw h=>⟨(some x.id),rfl,⟨(if_pos hxb).symm,λh=>by cases h⟩,by refine HS.star_close (Bs:=[_,_,_,_]) ?_;exact h.ent aEt⟩)
   have hxb:¬x.by_=(Xe d):=h14
   refine aU2 ?_
   exact QcS rfl aPk (λw h=>⟨none,rfl,⟨(if_neg hxb).symm,λ_=>rfl⟩,by refine HS.star_close (Bs:=[_,_,_,_]) ?_;exact h.ent aEt⟩)
  ·skip
   obtain⟨o9,ho9⟩:=x
   obtain rfl:o9=none:=by cases o9;rfl;cases hon
   dsimp only at ho9 ⊢
   have hst:=QfL hk hk2 (show fbE q (Xe d) (nth T.flat k)=none from by unfold fbE;rw[if_pos hy];exact ho9.symm)
   refine QmQ (ds:=ds) aPk ?_
   refine aT4 ?_
   refine aU2 ?_
   exact QhW (k+1,D::ds) rfl rfl (by(try simp only[]);omega) ⟨by(try simp only[]);omega,hst⟩ aSx (λw h=>h.ent aEt)
  skip
  obtain⟨o9,ho9⟩:=x
  obtain⟨b9,rfl⟩:∃b,o9=some b:=by cases o9;cases hon;exact⟨_,rfl⟩
  dsimp only at ho9 ⊢
  have hR:=QjI hk hk2 (show fbE q (Xe d) (nth T.flat k)=some b9 from by unfold fbE;rw[if_pos hy];exact ho9.symm)
  refine QmQ (ds:=ds) aPk ?_
  exact QkI (rs:=[.cell 6 3,.cell 7 34]) rfl aPk (.cell1 rfl Q3 aPk rfl (.cell1 rfl Zc aPk rfl (.nil))) (λw' h'=>⟨by rw[hR];rfl,h'.below⟩)
 obtain rfl:k=T.flat.length:=om
 have hR:(fbH q (Xe d) T.flat)=none:=by rw[List.take_length]at hk2;exact hk2
 refine Qk rfl ?_
 refine aU5 ?_
 exact QkI (rs:=[.cell 6 3,.cell 7 34]) rfl aPk (.cell1 rfl Q3 aPk rfl (.cell1 rfl Zc aPk rfl (.nil))) (λw' h'=>⟨by rw[hR];rfl,h'.below⟩)
theorem c8e(w:World)(q:List UInt8)(co mo rm:Int)(a:Option Addr)(cap:Nat)(L:List LNd)(d:Dsc)(ea:Option Addr)(eac:Nat)(aa:Option Addr)(aac:Nat)(hm:q.length<=16384)(hs:Nt w [] a L)(hB:Bd (pln L))(hkl:∀i,i<L.length->∀x∈(nth L i).es,x.key.length<=1000000)(hse:Rw Ace.vals 4 w [] ea d.en)(hsa:Rw Ace.vals 4 w [] aa d.au)(hme:d.en.length<=100000)(hma:d.au.length<=100000)(he:¬(fhE (strE q) (Ql (⟨co,mo,rm,pln L⟩:Tre)).2 (QF d).2 co)=0):CR 8 #[.string (bs q),.agg #[.int .i64 co,.int .i64 mo,.int .i64 rm,.slice a L.length cap],.agg #[.int .i64 d.ow,.int .i64 d.gr,.bool d.pr,.bool d.he,.slice ea d.en.length eac,.slice aa d.au.length aac]] w (.tuple #[.int .i64 0,.int .i64 (fhE (strE q) (Ql (⟨co,mo,rm,pln L⟩:Tre)).2 (QF d).2 co)]):=by
 have hF1:=fh_1 (strE q) (Ql (⟨co,mo,rm,pln L⟩:Tre)).2
 have hF2:=fh_2 (QF d).2 co
 refine eN3 Tryz.func8 Tryz.ntmps8 ?_
 refine aU2 ?_
 refine oBx λb1 _=>?_
 refine oBx λb2 _=>?_
 refine oAl (λb3 _=>?_) YX
 refine oAl (λb4 _=>?_) Xx
 refine aU3 ?_
 refine Qq [] mixed ?_
 refine dP 0 ?_
 refine dQ 1 [] rfl (Qe rfl Qg2 rfl (λw1 h1=>c39 w1 q om)) (dLn 2 [] ?_)
 refine dQ 3 [] rfl (Qe rfl QgP rfl (λw1 h1=>c40 w1 co mo rm a cap L (hs.later h1.nil) hB hkl)) (dH 4 rfl (Qc (cs:=[_,_]) rfl rfl Q6 Xx rfl rfl rfl) (λb5 _=>dBa ?_))
 refine dQ 5 [] rfl (Qe rfl QaK rfl (λw1 h1=>f38 h1 aPk (by rfl) (by rfl) (by decide))) (Qy (show _=Value.int .i64 (if strE q=0 then(Ql (⟨co,mo,rm,pln L⟩:Tre)).2 else strE q)from congrArg (Value.int .i64) hF1) (dP 6 ?_))
 refine dNi ?_
 refine aU5 ?_
 refine sCd rfl (λh6=>?_) λh6=>?_
 ·have hR:(if strE q=0 then(Ql (⟨co,mo,rm,pln L⟩:Tre)).2 else strE q)=(fhE (strE q) (Ql (⟨co,mo,rm,pln L⟩:Tre)).2 (QF d).2 co):=by have hq:=h6;unfold fhE;grind
  refine aU6 ?_
  exact Qg (rs:=[.cell 6 3,.cell 7 34]) rfl (.cell1 rfl Q3 aPk rfl (.cell1 rfl Zc aPk rfl (.nil))) (λw' h'=>⟨by rw[hR];rfl,h'.below⟩)
 have hz:(if strE q=0 then(Ql (⟨co,mo,rm,pln L⟩:Tre)).2 else strE q)=0:=by have hq:=h6;simpa using hq
 refine aU4 ?_
 refine oCq rfl (λw1 h1=>c41 w1 d ea eac aa aac (hse.later h1) (hsa.later h1) hme hma) (aU3 ?_)
 refine oAl (λb7 _=>?_) Qj1
 refine aU5 ?_
 refine Qq [] mixed ?_
 refine dP 0 ?_
 refine dFa 1 ?_
 refine dLd 2 [] ?_
 refine dQ 3 [] rfl (Qe rfl QmM rfl (λw1 h1=>c43 w1)) (dV 4 rfl (ZW rfl rfl Qcp Q3 rfl) (dP 5 ?_))
 refine dQ 6 [] rfl (Qe rfl Zt rfl (λw1 h1=>c42 w1 _ _)) (dH 7 rfl (Qc (cs:=[_,_]) rfl rfl Q6 Xx rfl rfl rfl) (λb8 _=>dBa ?_))
 refine dQ 8 [] rfl (Qe rfl QaK rfl (λw1 h1=>f38 h1 aPk (by rfl) (by rfl) (by decide))) (Qy (show _=Value.int .i64 (if(QF d).2=0 then(if co=3 then 0 else 15)else(QF d).2)from congrArg (Value.int .i64) hF2) (dP 9 ?_))
 refine dNi ?_
 refine aU ?_
 refine Qi (L':=[(0,_),(4,_),(6,_),(7,_),(9,_),(10,_)]) aSx (λ_ h=>h) ?_
 refine aU4 ?_
 refine sCd rfl (λh9=>?_) λh9=>?_
 ·have hR:(if(QF d).2=0 then(if co=3 then 0 else 15)else(QF d).2)=(fhE (strE q) (Ql (⟨co,mo,rm,pln L⟩:Tre)).2 (QF d).2 co):=by unfold fhE;grind
  refine aU6 ?_
  exact Qg (rs:=[.cell 6 3,.cell 7 34]) rfl (.cell1 rfl Q3 aPk rfl (.cell1 rfl Zc aPk rfl (.nil))) (λw' h'=>⟨by rw[hR];rfl,h'.below⟩)
 exfalso;exact he (by have hq:=h9;unfold fhE;grind)
theorem Qdj{n:Int}(h:0<=n/\n<=2147483647):X6 (2:Int) (nmB [n])=0:=by
  have hk:QE (2:Int) (nmB [n])=true:=by
    have e1:at4 (nmB [n]) 0=n:=(Qlo (x:=⟨n,[]⟩) (by show 0<=n/\n<4294967296;omega)).1;show(decide ((nmB [n]).length=4)&&QbD _ 0)=true;unfold QbD;rw[e1,XZ];simp;omega
  unfold X6;rw[hk];rfl
theorem Qdb{ns:List Nd}(h:XL ns=true)(i j:Nat):(nth (nth ns i).es j).val.length<=70:=by
  rcases Nat.lt_or_ge i ns.length with hi|hi
  · rcases Nat.lt_or_ge j (nth ns i).es.length with hj|hj
    · exact((Z4 h hi).2.2 _ (QA hj)).2
    · rw[QfX hj];exact Nat.zero_le _
  · rw[QfX hi];exact Nat.zero_le _
theorem Qiv{a b c co:Int}(h:fhE a b c co=0):a=0/\b=0/\c=0/\co=3:=by unfold fhE at h;grind
theorem QfY{a b co id:Int}(h:QO a b co id=0):a=0/\b=0/\co=2/\0<=id/\id<=2147483647:=by unfold QO at h;grind
theorem QkE(t:Tre):∃T,(Ql t).2=0->∃d lo hi rt,ZJ t.ns T/\VT t.co lo hi rt d T/\Qe0 t.ns:=by
  by_cases h:(Ql t).2=0
  · obtain⟨T,d9,hR,hV,hZ,hU⟩:=QfH h;exact⟨T,λ_=>⟨d9,_,_,_,hR,hV,hU⟩⟩
  · exact⟨.nd 0 [] [],λh9=>absurd h9 h⟩
theorem Qig{L:List LNd}{T:BT}{co:Int}{lo hi rt d:Nat}(hco:co=3)(hV:VT co lo hi rt d T):∀x∈T.flat,4<=x.key.length/\x.key.length<=1000000/\x.val.length<=100000:=λx hx=>by
  have h7:=hV.ents x hx;subst hco;have h6:QE (3:Int) x.key=true/\x.val.length<=64:=by grind[Yj,X6]
  have h5:x.key.length=8:=by have h4:=h6.1;unfold QE at h4;simp at h4;exact h4.1
  exact⟨om,om,om⟩
theorem Qb2{L:List LNd}{T:BT}{t:Tre}(hfw:XL (pln L)=true)(ht:t.ns=pln L)(h0:(Ql t).2=0)(hR:ZJ (pln L) T):T.flat.length<=10000:=by
  have h9:=hR.flat_len (m:=10) (λi hi=>(Z4 hfw hi).1);have h8:=(Zd h0).2.2.2.1;rw[ht]at h8;omega
theorem c8w(w:World)(q:List UInt8)(co mo rm:Int)(a:Option Addr)(cap:Nat)(L:List LNd)(T:BT)(d:Dsc)(ea:Option Addr)(eac:Nat)(aa:Option Addr)(aac:Nat)(hm:q.length<=16384)(hs:Nt w [] a L)(hfw:XL (pln L)=true)(hse:Rw Ace.vals 4 w [] ea d.en)(hsa:Rw Ace.vals 4 w [] aa d.au)(hme:d.en.length<=100000)(hma:d.au.length<=100000)(hT:(Ql (⟨co,mo,rm,pln L⟩:Tre)).2=0->∃d lo hi rt,ZJ (pln L) T/\VT co lo hi rt d T/\Qe0 (pln L)):CR 8 #[.string (bs q),.agg #[.int .i64 co,.int .i64 mo,.int .i64 rm,.slice a L.length cap],.agg #[.int .i64 d.ow,.int .i64 d.gr,.bool d.pr,.bool d.he,.slice ea d.en.length eac,.slice aa d.au.length aac]] w (.tuple #[.int .i64 (if(fhE (strE q) (Ql (⟨co,mo,rm,pln L⟩:Tre)).2 (QF d).2 co)=0 then(fbH q (Xe d) T.flat).getD 0 else 0),.int .i64 (if(fhE (strE q) (Ql (⟨co,mo,rm,pln L⟩:Tre)).2 (QF d).2 co)=0 then(if(fbH q (Xe d) T.flat).isSome=true then 0 else 6)else(fhE (strE q) (Ql (⟨co,mo,rm,pln L⟩:Tre)).2 (QF d).2 co))]):=by
  have hB:=Qc7 hfw;have hkl:=Qbi hfw
  by_cases he:(fhE (strE q) (Ql (⟨co,mo,rm,pln L⟩:Tre)).2 (QF d).2 co)=0
  · obtain⟨hE0,h0,hd0,rfl⟩:=Qiv he;obtain⟨d9,lo,hi,rt,hR,hV,hU⟩:=hT h0;have hl2:L.length<=1000:=by have h9:=hB.len;rw[Qd]at h9;exact h9
    rw[if_pos he,if_pos he];exact c8o w q mo rm a cap L T d9 _ _ d ea eac aa aac hm hs hB hkl hse hsa hme hma hE0 h0 hd0 hl2 hV.bel hR.nin hV.idx (Qb2 hfw rfl h0 hR) (Qig (L:=L) rfl hV)
  · rw[if_neg he,if_neg he];exact c8e w q co mo rm a cap L d ea eac aa aac hm hs hB hkl hse hsa hme hma he
def fiO(q:List UInt8)(ns:List Nd)(id:Int):Option (List UInt8):=if(Qu (2:Int) ns (nmB [id])).2.2=true then XK (QP q (Xb (2:Int) ns (nmB [id])).val) id else none
theorem c11w(w:World)(q:List UInt8)(co mo rm:Int)(a:Option Addr)(cap:Nat)(L:List LNd)(id:Int)(hm:q.length<=16384)(hs:Nt w [] a L)(hfw:XL (pln L)=true):CE 11 #[.string (bs q),.agg #[.int .i64 co,.int .i64 mo,.int .i64 rm,.slice a L.length cap],.int .i64 id] w [] (λg:(Option Addr×Nat)×(Option Addr×Nat)=>.tuple #[.agg #[.int .i64 (if(QO (strE q) (Ql (⟨co,mo,rm,pln L⟩:Tre)).2 co id)=0 then fiD (fiO q (pln L) id)else noD).ow,.int .i64 (if(QO (strE q) (Ql (⟨co,mo,rm,pln L⟩:Tre)).2 co id)=0 then fiD (fiO q (pln L) id)else noD).gr,.bool (if(QO (strE q) (Ql (⟨co,mo,rm,pln L⟩:Tre)).2 co id)=0 then fiD (fiO q (pln L) id)else noD).pr,.bool (if(QO (strE q) (Ql (⟨co,mo,rm,pln L⟩:Tre)).2 co id)=0 then fiD (fiO q (pln L) id)else noD).he,.slice g.1.1 (if(QO (strE q) (Ql (⟨co,mo,rm,pln L⟩:Tre)).2 co id)=0 then fiD (fiO q (pln L) id)else noD).en.length g.1.2,.slice g.2.1 (if(QO (strE q) (Ql (⟨co,mo,rm,pln L⟩:Tre)).2 co id)=0 then fiD (fiO q (pln L) id)else noD).au.length g.2.2],.int .i64 (if(QO (strE q) (Ql (⟨co,mo,rm,pln L⟩:Tre)).2 co id)=0 then(if((Qu (2:Int) (pln L) (nmB [id])).2.2=true)then fiE (fiO q (pln L) id) 31 else 6)else(QO (strE q) (Ql (⟨co,mo,rm,pln L⟩:Tre)).2 co id))]) (λg=>True) λg=>[.own (.slice g.1.1 (if(QO (strE q) (Ql (⟨co,mo,rm,pln L⟩:Tre)).2 co id)=0 then fiD (fiO q (pln L) id)else noD).en.length g.1.2) 119 4 (if(QO (strE q) (Ql (⟨co,mo,rm,pln L⟩:Tre)).2 co id)=0 then fiD (fiO q (pln L) id)else noD).en.length ((if(QO (strE q) (Ql (⟨co,mo,rm,pln L⟩:Tre)).2 co id)=0 then fiD (fiO q (pln L) id)else noD).en.flatMap Ace.vals),.own (.slice g.2.1 (if(QO (strE q) (Ql (⟨co,mo,rm,pln L⟩:Tre)).2 co id)=0 then fiD (fiO q (pln L) id)else noD).au.length g.2.2) 119 4 (if(QO (strE q) (Ql (⟨co,mo,rm,pln L⟩:Tre)).2 co id)=0 then fiD (fiO q (pln L) id)else noD).au.length ((if(QO (strE q) (Ql (⟨co,mo,rm,pln L⟩:Tre)).2 co id)=0 then fiD (fiO q (pln L) id)else noD).au.flatMap Ace.vals)]:=by
  have hB:=Qc7 hfw;have hkl:=Qbi hfw;have nil:∀{w':World},Below w.heap.size w w'->HS w [] [.own (.slice none 0 0) 119 4 0 [],.own (.slice none 0 0) 119 4 0 []] w':=λh=>((HS.of_below h).own_nil 119 4).own_nil 119 4
  by_cases he:(QO (strE q) (Ql (⟨co,mo,rm,pln L⟩:Tre)).2 co id)=0
  · obtain⟨hE0,h0,rfl,h4,h5⟩:=QfY he;have hx0:=Qdj ⟨h4,h5⟩;rw[if_pos he,if_pos he]
    by_cases hx:((Qu (2:Int) (pln L) (nmB [id])).2.2=true)
    · rw[if_pos hx,show(fiO q (pln L) id)=XK (QP q (Xb (2:Int) (pln L) (nmB [id])).val) id from if_pos hx];exact c11o w q mo rm a cap L id hm hs hB hkl hE0 h0 ⟨h4,h5⟩ hx0 hx (Nat.le_trans (Qdb hfw _ _) (by decide))
    · rw[if_neg hx,show(fiO q (pln L) id)=none from if_neg hx];refine(c11m w q mo rm a cap L id hm hs hB hkl hE0 h0 ⟨h4,h5⟩ hx0 hx).mono λen w' h=>?_;exact⟨((none,0),(none,0)),h.1,trivial,nil h.2⟩
  · rw[if_neg he,if_neg he];refine(c11e w q co mo rm a cap L id hm hs hB hkl he).mono λen w' h=>?_;exact⟨((none,0),(none,0)),h.1,trivial,nil h.2⟩
instance:TFn Tryz.prog 5:=⟨by kernel_rfl⟩
theorem XV:tar Tryz.prog 25=some (2,24,4):=by kernel_rfl
instance:TFn Tryz.prog 6:=⟨by kernel_rfl⟩
instance:TFd Tryz.prog 30 0 0 28:=⟨by kernel_rfl⟩
instance:TFn Tryz.prog 7:=⟨by kernel_rfl⟩
theorem Qng:QC Tryz.prog 9=true:=by kernel_rfl
theorem QoN:QC Tryz.prog 10=true:=by kernel_rfl
theorem fn_8:QC Tryz.prog 8=true:=by kernel_rfl
instance:TFd Tryz.prog 30 1 6 3:=⟨by kernel_rfl⟩
theorem Qkr:QC Tryz.prog 11=true:=by kernel_rfl
instance:TFn Tryz.prog 12:=⟨by kernel_rfl⟩
instance:TFn Tryz.prog 13:=⟨by kernel_rfl⟩
theorem Qko:QC Tryz.prog 16=true:=by kernel_rfl
theorem Qjq:QC Tryz.prog 15=true:=by kernel_rfl
instance:TFn Tryz.prog 18:=⟨by kernel_rfl⟩
theorem Qjn:QC Tryz.prog 19=true:=by kernel_rfl
instance:TFn Tryz.prog 21:=⟨by kernel_rfl⟩
theorem Qnw(w:World)(q:List UInt8)(ci mi ri:Int)(a:Option Addr)(cap:Nat)(L:List LNd)(id:Int)(ns:List Nd)(hm:q.length<=16384)(hs:Nt w [] a L)(hL:pln L=ns)(hfw:XL ns=true):CE 11 #[.string (bs q),.agg #[.int .i64 ci,.int .i64 mi,.int .i64 ri,.slice a L.length cap],.int .i64 id] w [] (λg:(Option Addr×Nat)×(Option Addr×Nat)=>.tuple #[.agg #[.int .i64 (if(QO (strE q) (Ql (⟨ci,mi,ri,ns⟩:Tre)).2 ci id)=0 then fiD (fiO q ns id)else noD).ow,.int .i64 (if(QO (strE q) (Ql (⟨ci,mi,ri,ns⟩:Tre)).2 ci id)=0 then fiD (fiO q ns id)else noD).gr,.bool (if(QO (strE q) (Ql (⟨ci,mi,ri,ns⟩:Tre)).2 ci id)=0 then fiD (fiO q ns id)else noD).pr,.bool (if(QO (strE q) (Ql (⟨ci,mi,ri,ns⟩:Tre)).2 ci id)=0 then fiD (fiO q ns id)else noD).he,.slice g.1.1 (if(QO (strE q) (Ql (⟨ci,mi,ri,ns⟩:Tre)).2 ci id)=0 then fiD (fiO q ns id)else noD).en.length g.1.2,.slice g.2.1 (if(QO (strE q) (Ql (⟨ci,mi,ri,ns⟩:Tre)).2 ci id)=0 then fiD (fiO q ns id)else noD).au.length g.2.2],.int .i64 (if(QO (strE q) (Ql (⟨ci,mi,ri,ns⟩:Tre)).2 ci id)=0 then(if((Qu (2:Int) ns (nmB [id])).2.2=true)then fiE (fiO q ns id) 31 else 6)else(QO (strE q) (Ql (⟨ci,mi,ri,ns⟩:Tre)).2 ci id))]) (λg=>True) λg=>[.own (.slice g.1.1 (if(QO (strE q) (Ql (⟨ci,mi,ri,ns⟩:Tre)).2 ci id)=0 then fiD (fiO q ns id)else noD).en.length g.1.2) 119 4 (if(QO (strE q) (Ql (⟨ci,mi,ri,ns⟩:Tre)).2 ci id)=0 then fiD (fiO q ns id)else noD).en.length ((if(QO (strE q) (Ql (⟨ci,mi,ri,ns⟩:Tre)).2 ci id)=0 then fiD (fiO q ns id)else noD).en.flatMap Ace.vals),.own (.slice g.2.1 (if(QO (strE q) (Ql (⟨ci,mi,ri,ns⟩:Tre)).2 ci id)=0 then fiD (fiO q ns id)else noD).au.length g.2.2) 119 4 (if(QO (strE q) (Ql (⟨ci,mi,ri,ns⟩:Tre)).2 ci id)=0 then fiD (fiO q ns id)else noD).au.length ((if(QO (strE q) (Ql (⟨ci,mi,ri,ns⟩:Tre)).2 ci id)=0 then fiD (fiO q ns id)else noD).au.flatMap Ace.vals)]:=by
  subst hL;exact c11w w q ci mi ri a cap L id hm hs hfw
theorem QjB(a b c co:Int):fhE a b c co=if(if(if a=0 then b else a)=0 then c else(if a=0 then b else a))=0 then(if co=3 then 0 else 15)else(if(if a=0 then b else a)=0 then c else(if a=0 then b else a)):=by unfold fhE;grind
theorem QiW(a b co id:Int):QO a b co id=if(if(if a=0 then b else a)=0 then(if co=2 then 0 else 15)else(if a=0 then b else a))=0 then(if 0<=id/\id<=2147483647 then 0 else 2)else(if(if a=0 then b else a)=0 then(if co=2 then 0 else 15)else(if a=0 then b else a)):=by unfold QO;grind
theorem Qm7(w:World)(mo rm:Int)(a:Option Addr)(cap:Nat)(L:List LNd)(key:List UInt8)(hs:Nt w [] a L)(hB:Bd (pln L))(hl0:0<L.length)(hT:TOk ((2:Nat):Int) (pln L))(hkk:key.length<=1000000)(hx0:X6 ((2:Nat):Int) key=0):CR 19 #[.agg #[.int .i64 2,.int .i64 mo,.int .i64 rm,.slice a L.length cap],.string (bs key)] w (.tuple #[.agg #[.string (bs (if((Qu (2:Int) (pln L) key).2.2=true)then Xb (2:Int) (pln L) key else⟨[],[]⟩).key),.string (bs (if((Qu (2:Int) (pln L) key).2.2=true)then Xb (2:Int) (pln L) key else⟨[],[]⟩).val)],.bool (if((Qu (2:Int) (pln L) key).2.2=true)then true else false)]):=by
  by_cases hx:((Qu (2:Int) (pln L) key).2.2=true)
  · rw[if_pos hx,if_pos hx];exact c19o w 2 mo rm a cap L key hs hB (by decide) hl0 hT hkk hx0 hx
  · rw[if_neg hx,if_neg hx];exact c19m w 2 mo rm a cap L key hs hB (by decide) hl0 hT hkk hx0 hx
theorem c3z(w:World)(q:List UInt8)(co mo rm:Int)(a:Option Addr)(cap:Nat)(L:List LNd)(ci mi ri:Int)(ai:Option Addr)(icap:Nat)(LI:List LNd)(d:Dsc)(ea:Option Addr)(eac:Nat)(aa:Option Addr)(aac:Nat)(id:Int)(hqM:q.length<=9223372036854775807)(hs:Nt w [] a L)(hsI:Nt w [] ai LI)(hse:Rw Ace.vals 4 w [] ea d.en)(hsa:Rw Ace.vals 4 w [] aa d.au)(hz:¬(q.length<=12400/\XL (pln L)=true/\XL (pln LI)=true/\Qi9 d=true)):CR 3 #[.string (bs q),.agg #[.int .i64 co,.int .i64 mo,.int .i64 rm,.slice a L.length cap,.int .i64 ci,.int .i64 mi,.int .i64 ri,.slice ai LI.length icap],.agg #[.int .i64 d.ow,.int .i64 d.gr,.bool d.pr,.bool d.he,.slice ea d.en.length eac,.slice aa d.au.length aac,.int .i64 id]] w (.bool true):=by
 refine eN3 Tryz.func3 Tryz.ntmps3 ?_
 refine aU2 ?_
 refine oBx λb1 _=>?_
 refine oBx λb2 _=>?_
 refine aU5 ?_
 refine oCq rfl (λw1 h1=>c5 w1) (aU2 ?_)
 refine sCd rfl (λh3=>?_) λh3=>?_
 ·exfalso;simp at h3
 refine aU5 ?_
 refine o_p (Qr rfl rfl Tryz.underlying9) rfl (aU2 ?_)
 refine oOr 5 23 28 rfl
  (λhg4 _=>by
   refine aU ?_
   refine o_p (Qo rfl rfl rfl XV (0) om om) rfl (aU3 ?_)
   refine oCq rfl (λw1 h1=>c6 w1 co mo rm a cap L (hs.later h1.nil)) (aU2 ?_)
   exact oJf 5 28)
  (λhg6 _=>by
   refine aU4 ?_
   exact oJt 5 28) ?_
 refine aU ?_
 refine oOr 5 29 34 rfl
  (λhg8 _=>by
   refine aU ?_
   refine o_p (Qo rfl rfl rfl XV (1) om om) rfl (aU3 ?_)
   refine oCq rfl (λw1 h1=>c6 w1 ci mi ri ai icap LI (hsI.later h1.nil)) (aU2 ?_)
   exact oJf 5 34)
  (λhg10 _=>by
   refine aU4 ?_
   exact oJt 5 34) ?_
 refine aU ?_
 refine oOr 5 35 40 rfl
  (λhg12 _=>by
   refine aU5 ?_
   refine oCq rfl (λw1 h1=>c7 w1 d ea eac aa aac) (aU2 ?_)
   exact oJf 5 40)
  (λhg14 _=>by
   refine aU4 ?_
   exact oJt 5 40) ?_
 refine aU ?_
 refine sCd rfl (λh16=>?_) λh16=>?_
 ·refine aU4 ?_
  exact rV
 exfalso;have hq:=h16;first|(simp at hq;done)|exact hz (by simp at hq;refine⟨om,?_⟩;simp_all)
set_option maxHeartbeats 8000000 in
theorem c3w(w:World)(q:List UInt8)(co mo rm:Int)(a:Option Addr)(cap:Nat)(L:List LNd)(ci mi ri:Int)(ai:Option Addr)(icap:Nat)(LI:List LNd)(d:Dsc)(ea:Option Addr)(eac:Nat)(aa:Option Addr)(aac:Nat)(id:Int)(hqM:q.length<=9223372036854775807)(hs:Nt w [] a L)(hsI:Nt w [] ai LI)(hse:Rw Ace.vals 4 w [] ea d.en)(hsa:Rw Ace.vals 4 w [] aa d.au)(hq4:q.length<=12400)(hf1:XL (pln L)=true)(hf2:XL (pln LI)=true)(hf3:Qi9 d=true):CR 3 #[.string (bs q),.agg #[.int .i64 co,.int .i64 mo,.int .i64 rm,.slice a L.length cap,.int .i64 ci,.int .i64 mi,.int .i64 ri,.slice ai LI.length icap],.agg #[.int .i64 d.ow,.int .i64 d.gr,.bool d.pr,.bool d.he,.slice ea d.en.length eac,.slice aa d.au.length aac,.int .i64 id]] w (.bool true):=by
 have hm:q.length<=16384:=om
 have hBH:=Qc7 hf1
 have hBI:=Qc7 hf2
 have hkH:=Qbi hf1
 have hkI:=Qbi hf2
 have hsmH:=Qid hf1
 have hsmI:=Qid hf2
 have hlH:=hBH.len
 have hlI:=hBI.len
 rw[Qd]at hlH hlI
 obtain⟨he20,ha20⟩:d.en.length<=20/\d.au.length<=20:=by unfold Qi9 at hf3;simpa using hf3
 have hme:d.en.length<=100000:=om
 have hma:d.au.length<=100000:=om
 obtain⟨T,hT9⟩:=QkE (⟨co,mo,rm,pln L⟩:Tre)
 dsimp only at hT9
 have hfs:=QjB (strE q) (Ql (⟨co,mo,rm,pln L⟩:Tre)).2 (QF d).2 co
 have hgs:=QiW (strE q) (Ql (⟨ci,mi,ri,pln LI⟩:Tre)).2 ci id
 refine eN3 Tryz.func3 Tryz.ntmps3 ?_
 refine aU2 ?_
 refine oBx λb1 _=>?_
 refine oBx λb2 _=>?_
 refine aU5 ?_
 refine oCq rfl (λw1 h1=>c5 w1) (aU2 ?_)
 refine sCd rfl (λh3=>?_) λh3=>?_
 ·exfalso;simp at h3
 refine aU5 ?_
 refine o_p (Qr rfl rfl Tryz.underlying9) rfl (aU2 ?_)
 refine oOr 5 23 28 rfl
  (λhg4 _=>by
   refine aU ?_
   refine o_p (Qo rfl rfl rfl XV (0) om om) rfl (aU3 ?_)
   refine oCq rfl (λw1 h1=>c6 w1 co mo rm a cap L (hs.later h1.nil)) (aU2 ?_)
   exact oJf 5 28)
  (λhg6 _=>by
   refine aU4 ?_
   exact oJt 5 28) ?_
 refine aU ?_
 refine oOr 5 29 34 rfl
  (λhg8 _=>by
   refine aU ?_
   refine o_p (Qo rfl rfl rfl XV (1) om om) rfl (aU3 ?_)
   refine oCq rfl (λw1 h1=>c6 w1 ci mi ri ai icap LI (hsI.later h1.nil)) (aU2 ?_)
   exact oJf 5 34)
  (λhg10 _=>by
   refine aU4 ?_
   exact oJt 5 34) ?_
 refine aU ?_
 refine oOr 5 35 40 rfl
  (λhg12 _=>by
   refine aU5 ?_
   refine oCq rfl (λw1 h1=>c7 w1 d ea eac aa aac) (aU2 ?_)
   exact oJf 5 40)
  (λhg14 _=>by
   refine aU4 ?_
   exact oJt 5 40) ?_
 refine aU ?_
 refine sCd rfl (λh16=>?_) λh16=>?_
 ·exfalso;have hq:=h16;simp[hf1,hf2,hf3]at hq;omega
 refine aU2 ?_
 refine Qi (L':=[(0,_),(4,_),(5,_),(6,_)]) aSx (λ_ h=>h) ?_
 refine Q7 (α:=Unit) [7,8,41,42,43,44,45,46,47,48,49,50,51] (λ_=>[(7,.int .i64 (if(fhE (strE q) (Ql (⟨co,mo,rm,pln L⟩:Tre)).2 (QF d).2 co)=0 then(fbH q (Xe d) T.flat).getD 0 else 0)),(8,.int .i64 (if(fhE (strE q) (Ql (⟨co,mo,rm,pln L⟩:Tre)).2 (QF d).2 co)=0 then(if(fbH q (Xe d) T.flat).isSome=true then 0 else 6)else(fhE (strE q) (Ql (⟨co,mo,rm,pln L⟩:Tre)).2 (QF d).2 co)))]) (λ_=>HS w [] [.blk b1 25 8 [.int .i64 co,.int .i64 mo,.int .i64 rm,.slice a L.length cap,.int .i64 ci,.int .i64 mi,.int .i64 ri,.slice ai LI.length icap],.blk b2 30 7 [.int .i64 d.ow,.int .i64 d.gr,.bool d.pr,.bool d.he,.slice ea d.en.length eac,.slice aa d.au.length aac,.int .i64 id]]) (λ_=>True) ?_ ?_
 ·skip
  refine Qq [] mixed ?_
  refine dP 0 ?_
  refine dV 1 rfl (Qo rfl rfl rfl XV (0) om om) (dLn 2 [] ?_)
  refine dFa 4 ?_
  refine dLn 5 [] ?_
  refine dH 3 rfl (Xy rfl Qng rfl (λw1 h1=>c9 w1 co mo rm a cap L (hs.later h1.nil) hlH hsmH)) (λ⟨⟨kha,khc⟩,KH⟩hKH=>dBa ?_)
  refine dH 6 rfl (Xy rfl QoN rfl (λw1 h1=>c10 w1 d ea eac aa aac (hse.later h1) (hsa.later h1) hme hma)) (λgD _=>dBa ?_)
  refine dQ 7 [] rfl (Qe rfl fn_8 rfl (λw1 h1=>by have h9:=c8w w1 q co mo rm kha khc KH T d gD.1.1 gD.1.2 gD.2.1 gD.2.2 hm (HS.nt h1 aPk) (by rw[hKH];exact hf1) (HS.rw_own (a:=gD.1.1) (l:=d.en) av4 h1 aPk rfl) (HS.rw_own (a:=gD.2.1) (l:=d.au) av4 h1 aPk rfl) hme hma (by rw[hKH];exact hT9);rw[hKH]at h9;exact h9)) (dP 8 ?_)
  refine dP 9 ?_
  refine dP 10 ?_
  refine dP 11 ?_
  refine dP 12 ?_
  refine dNi ?_
  exact Qf () trivial aSx (λw h=>h.ent aEt)
 intro _ _
 refine aU ?_
 refine Qq [11] mixed ?_
 refine dP 0 ?_
 refine dV 1 rfl (Qo rfl rfl rfl XV (1) om om) (dLn 2 [[]] ?_)
 refine dFa 4 ?_
 refine dLd 5 [[]] ?_
 refine QeC 3 10 rfl rfl (Xy rfl Qng rfl (λw1 h1=>c9 w1 ci mi ri ai icap LI (hsI.later h1.nil) hlI hsmI)) (Xo rfl QY) (by kernel_rfl) (λw h=>h.ent aEt) rfl rfl (λ⟨⟨kia,kic⟩,KI⟩hKI=>?_) (λb17 _=>?_)
 ·skip
  refine dBa ?_
  refine QeC 6 10 rfl rfl (Xy rfl Qkr rfl (λw1 h1=>Qnw w1 q ci mi ri kia kic KI id (pln LI) hm (HS.nt h1 aPk) hKI hf2)) (Xo rfl QY) (by kernel_rfl) (λw h=>h.ent aEt) rfl rfl (λgE _=>?_) (λb18 _=>?_)
  ·skip
   refine dBa ?_
   refine dP 7 ?_
   refine dP 8 ?_
   refine dP 9 ?_
   refine dH 10 rfl (Xo rfl QY) (λb19 _=>dBa ?_)
   refine dSt 11 ?_ (hl:=(by simp only[Qj,List.length_set,List.length_cons,List.length_nil,List.length_map];omega))
   refine dTu [] ?_
   refine dP 12 ?_
   refine dNi ?_
   refine aU3 ?_
   refine oCq rfl (λw1 h1=>c12 w1 q om) (aU8 ?_)
   refine Qi (L':=[(0,_),(4,_),(5,_),(6,_),(7,_),(8,_),(9,_),(10,_),(11,_),(65,_)]) aSx (λ_ h=>h) ?_
   refine Xn (α:=Unit) [11,66,67,68] (λ_=>[(11,.int .i64 (if strE q=0 then(Ql (⟨co,mo,rm,pln L⟩:Tre)).2 else strE q))]) (λ_=>True) ?_ ?_
   ·skip
    refine sCd rfl (λh20=>?_) λh20=>?_
    ·have hA1:(if strE q=0 then(Ql (⟨co,mo,rm,pln L⟩:Tre)).2 else strE q)=(Ql (⟨co,mo,rm,pln L⟩:Tre)).2:=if_pos (by have hq:=h20;simpa using hq)
     refine aU ?_
     refine o_p (Qo rfl rfl rfl XV (0) om om) rfl (aU ?_)
     refine oCq rfl (λw1 h1=>c13 w1 co mo rm a cap L (hs.later h1.nil) hBH hkH) (aU2 ?_)
     exact Qf () trivial (by rw[hA1];exact aSx) (λw h=>h.ent aEt)
    have hA1:(if strE q=0 then(Ql (⟨co,mo,rm,pln L⟩:Tre)).2 else strE q)=strE q:=if_neg (by have hq:=h20;simpa using hq)
    refine aU ?_
    exact Qf () trivial (by rw[hA1];exact aSx) (λw h=>h.ent aEt)
   intro _ _
   refine aU6 ?_
   refine Xn (α:=Unit) [11,71,72,73] (λ_=>[(11,.int .i64 (if(if strE q=0 then(Ql (⟨co,mo,rm,pln L⟩:Tre)).2 else strE q)=0 then(QF d).2 else(if strE q=0 then(Ql (⟨co,mo,rm,pln L⟩:Tre)).2 else strE q)))]) (λ_=>True) ?_ ?_
   ·skip
    refine sCd rfl (λh21=>?_) λh21=>?_
    ·have hA2:(if(if strE q=0 then(Ql (⟨co,mo,rm,pln L⟩:Tre)).2 else strE q)=0 then(QF d).2 else(if strE q=0 then(Ql (⟨co,mo,rm,pln L⟩:Tre)).2 else strE q))=(QF d).2:=if_pos (by have hq:=h21;simpa using hq)
     refine aU3 ?_
     refine oCq rfl (λw1 h1=>c14 w1 d ea eac aa aac (hse.later h1) (hsa.later h1) hme hma) (aU2 ?_)
     exact Qf () trivial (by rw[hA2];exact aSx) (λw h=>h.ent aEt)
    have hA2:(if(if strE q=0 then(Ql (⟨co,mo,rm,pln L⟩:Tre)).2 else strE q)=0 then(QF d).2 else(if strE q=0 then(Ql (⟨co,mo,rm,pln L⟩:Tre)).2 else strE q))=(if strE q=0 then(Ql (⟨co,mo,rm,pln L⟩:Tre)).2 else strE q):=if_neg (by have hq:=h21;simpa using hq)
    refine aU ?_
    exact Qf () trivial (by rw[hA2];exact aSx) (λw h=>h.ent aEt)
   intro _ _
   refine aU6 ?_
   refine QJ 5 76 81 rfl
    (λhg22 _=>by
     refine aU ?_
     refine o_p (Qo rfl rfl rfl XV (0) om om) rfl (aU6 ?_)
     exact oJt 5 81)
    (λhg24 _=>by
     refine aU4 ?_
     exact oJf 5 81) ?_
   refine aU ?_
   refine Xn (α:=Unit) [11] (λ_=>[(11,.int .i64 (fhE (strE q) (Ql (⟨co,mo,rm,pln L⟩:Tre)).2 (QF d).2 co))]) (λ_=>True) ?_ ?_
   ·skip
    refine sCd rfl (λh26=>?_) λh26=>?_
    ·have hA3:(fhE (strE q) (Ql (⟨co,mo,rm,pln L⟩:Tre)).2 (QF d).2 co)=15:=by have hq:=h26;grind
     refine aU3 ?_
     exact Qf () trivial (by rw[hA3];exact aSx) (λw h=>h.ent aEt)
    have hA3:(fhE (strE q) (Ql (⟨co,mo,rm,pln L⟩:Tre)).2 (QF d).2 co)=(if(if strE q=0 then(Ql (⟨co,mo,rm,pln L⟩:Tre)).2 else strE q)=0 then(QF d).2 else(if strE q=0 then(Ql (⟨co,mo,rm,pln L⟩:Tre)).2 else strE q)):=by have hq:=h26;grind
    refine aU ?_
    exact Qf () trivial (by rw[hA3];exact aSx) (λw h=>h.ent aEt)
   intro _ _
   refine aU6 ?_
   refine QJ 8 84 92 rfl
    (λhg27 _=>by
     refine aU8 ?_
     refine oOr 3 88 91 rfl
      (λhg29 _=>by
       refine aU5 ?_
       exact oJf 3 91)
      (λhg31 _=>by
       refine aU3 ?_
       exact oJt 3 91) ?_
     exact oJt 6 92)
    (λhg33 _=>by
     refine aU7 ?_
     exact oJf 8 92) ?_
   refine aU ?_
   refine sCd rfl (λh35=>?_) λh35=>?_
   ·exfalso;have hq:=h35;by_cases h9:(fhE (strE q) (Ql (⟨co,mo,rm,pln L⟩:Tre)).2 (QF d).2 co)=0<;>simp[h9]at hq
   refine aU7 ?_
   refine Qi (L':=[(0,_),(4,_),(5,_),(6,_),(7,_),(8,_),(9,_),(10,_),(11,_),(94,_)]) aSx (λ_ h=>h) ?_
   refine Xn (α:=Unit) [6,12,13,95,96,97,98,99,100,101,102,103,104,105,106,107,108,109,110,111,112,113,114,115,116,117,118,119,120,121,122,123,124,125,126] (λ_=>[]) (λ_=>True) ?_ ?_
   ·skip
    refine sCd rfl (λh36=>?_) λh36=>?_
    ·have he:(fhE (strE q) (Ql (⟨co,mo,rm,pln L⟩:Tre)).2 (QF d).2 co)=0:=by have hq:=h36;simpa using hq
     obtain⟨hE9,h0H,hdz,hco⟩:=Qiv he
     obtain⟨hq8a,hq8b⟩:=Zw hE9
     obtain⟨d9,lo9,hi9,rt9,hR,hV,hU⟩:=hT9 h0H
     refine aU ?_
     refine Qq [] mixed ?_
     refine dP 0 ?_
     refine dV 1 rfl (Qo rfl rfl rfl XV (0) om om) (dLn 2 [] ?_)
     refine dFa 3 ?_
     refine dLn 4 [] ?_
     refine dQ 5 [] rfl (Qe rfl Qko rfl (λw1 h1=>c16 w1 d ea eac aa aac (hse.later h1) (hsa.later h1) hme hma hdz)) (dQ 6 [] rfl (Qe rfl Qjq rfl (λw1 h1=>c15 w1 q (Xe d) co mo rm a cap L T d9 _ _ hm om (by have:=QaW d;omega) (hs.later h1.nil) hlH hV.bel hR.nin hV.idx (Qb2 (t:=(⟨co,mo,rm,pln L⟩:Tre)) hf1 rfl h0H hR) (Qig (L:=L) hco hV))) (dP 7 ?_))
     refine dP 8 ?_
     refine dP 9 ?_
     refine dP 10 ?_
     refine dP 11 ?_
     refine dNi ?_
     refine aU4 ?_
     refine QJ 8 106 114 rfl
      (λhg37 _=>by
       refine aU6 ?_
       refine oOr 4 109 113 rfl
        (λhg39 _=>by
         refine aU7 ?_
         exact oJf 4 113)
        (λhg41 _=>by
         refine aU4 ?_
         exact oJt 4 113) ?_
       exact oJt 5 114)
      (λhg43 _=>by
       refine aU7 ?_
       exact oJf 8 114) ?_
     refine aU ?_
     refine oOr 11 115 126 rfl
      (λhg45 _=>by
       refine aU6 ?_
       refine QJ 7 118 125 rfl
        (λhg47 _=>by
         refine aU6 ?_
         refine oOr 3 121 124 rfl
          (λhg49 _=>by
           refine aU5 ?_
           exact oJf 3 124)
          (λhg51 _=>by
           refine aU3 ?_
           exact oJt 3 124) ?_
         refine aU ?_
         exact oJt 5 125)
        (λhg53 _=>by
         refine aU7 ?_
         exact oJf 7 125) ?_
       exact oJf 5 126)
      (λhg55 _=>by
       refine YO ?_
       exact oJt 11 126) ?_
     refine aU ?_
     refine sCd rfl (λh57=>?_) λh57=>?_
     ·exfalso;have hq:=h57;cases hX:(fbH q (Xe d) T.flat)<;>simp[hX,he]at hq
     refine aU ?_
     exact Qf () trivial aSx (λw h=>h.ent aEt)
    refine aU ?_
    exact Qf () trivial aSx (λw h=>h.ent aEt)
   intro _ _
   refine aU3 ?_
   refine oCq rfl (λw1 h1=>c12 w1 q om) (aU8 ?_)
   refine Xn (α:=Unit) [11,131,132,133] (λ_=>[(11,.int .i64 (if strE q=0 then(Ql (⟨ci,mi,ri,pln LI⟩:Tre)).2 else strE q))]) (λ_=>True) ?_ ?_
   ·skip
    refine sCd rfl (λh58=>?_) λh58=>?_
    ·have hB1:(if strE q=0 then(Ql (⟨ci,mi,ri,pln LI⟩:Tre)).2 else strE q)=(Ql (⟨ci,mi,ri,pln LI⟩:Tre)).2:=if_pos (by have hq:=h58;simpa using hq)
     refine aU ?_
     refine o_p (Qo rfl rfl rfl XV (1) om om) rfl (aU ?_)
     refine oCq rfl (λw1 h1=>c13 w1 ci mi ri ai icap LI (hsI.later h1.nil) hBI hkI) (aU2 ?_)
     exact Qf () trivial (by rw[hB1];exact aSx) (λw h=>h.ent aEt)
    have hB1:(if strE q=0 then(Ql (⟨ci,mi,ri,pln LI⟩:Tre)).2 else strE q)=strE q:=if_neg (by have hq:=h58;simpa using hq)
    refine aU ?_
    exact Qf () trivial (by rw[hB1];exact aSx) (λw h=>h.ent aEt)
   intro _ _
   refine aU6 ?_
   refine QJ 5 136 141 rfl
    (λhg59 _=>by
     refine aU ?_
     refine o_p (Qo rfl rfl rfl XV (1) om om) rfl (aU6 ?_)
     exact oJt 5 141)
    (λhg61 _=>by
     refine aU4 ?_
     exact oJf 5 141) ?_
   refine aU ?_
   refine Qi (L':=[(0,_),(4,_),(5,_),(9,_),(10,_),(11,_),(141,_)]) aSx (λ_ h=>h) ?_
   refine Xn (α:=Unit) [11] (λ_=>[(11,.int .i64 (if(if strE q=0 then(Ql (⟨ci,mi,ri,pln LI⟩:Tre)).2 else strE q)=0 then(if ci=2 then 0 else 15)else(if strE q=0 then(Ql (⟨ci,mi,ri,pln LI⟩:Tre)).2 else strE q)))]) (λ_=>True) ?_ ?_
   ·skip
    refine sCd rfl (λh63=>?_) λh63=>?_
    ·have hB2:(if(if strE q=0 then(Ql (⟨ci,mi,ri,pln LI⟩:Tre)).2 else strE q)=0 then(if ci=2 then 0 else 15)else(if strE q=0 then(Ql (⟨ci,mi,ri,pln LI⟩:Tre)).2 else strE q))=15:=by have hq:=h63;grind
     refine aU3 ?_
     exact Qf () trivial (by rw[hB2];exact aSx) (λw h=>h.ent aEt)
    have hB2:(if(if strE q=0 then(Ql (⟨ci,mi,ri,pln LI⟩:Tre)).2 else strE q)=0 then(if ci=2 then 0 else 15)else(if strE q=0 then(Ql (⟨ci,mi,ri,pln LI⟩:Tre)).2 else strE q))=(if strE q=0 then(Ql (⟨ci,mi,ri,pln LI⟩:Tre)).2 else strE q):=by have hq:=h63;grind
    refine aU ?_
    exact Qf () trivial (by rw[hB2];exact aSx) (λw h=>h.ent aEt)
   intro _ _
   refine aU6 ?_
   refine QJ 5 144 149 rfl
    (λhg64 _=>by
     refine aU5 ?_
     refine oCq rfl (λw1 h1=>c17 w1 id) (aU2 ?_)
     exact oJt 5 149)
    (λhg66 _=>by
     refine aU4 ?_
     exact oJf 5 149) ?_
   refine aU ?_
   refine Xn (α:=Unit) [11] (λ_=>[(11,.int .i64 (QO (strE q) (Ql (⟨ci,mi,ri,pln LI⟩:Tre)).2 ci id))]) (λ_=>True) ?_ ?_
   ·skip
    refine sCd rfl (λh68=>?_) λh68=>?_
    ·have hB3:(QO (strE q) (Ql (⟨ci,mi,ri,pln LI⟩:Tre)).2 ci id)=2:=by have hq:=h68;first|grind|(simp at hq;grind)
     refine aU3 ?_
     exact Qf () trivial (by rw[hB3];exact aSx) (λw h=>h.ent aEt)
    have hB3:(QO (strE q) (Ql (⟨ci,mi,ri,pln LI⟩:Tre)).2 ci id)=(if(if strE q=0 then(Ql (⟨ci,mi,ri,pln LI⟩:Tre)).2 else strE q)=0 then(if ci=2 then 0 else 15)else(if strE q=0 then(Ql (⟨ci,mi,ri,pln LI⟩:Tre)).2 else strE q)):=by have hq:=h68;first|grind|(simp at hq;grind)
    refine aU ?_
    exact Qf () trivial (by rw[hB3];exact aSx) (λw h=>h.ent aEt)
   intro _ _
   refine aU6 ?_
   refine sCd rfl (λh69=>?_) λh69=>?_
   ·have hg0:¬(QO (strE q) (Ql (⟨ci,mi,ri,pln LI⟩:Tre)).2 ci id)=0:=by have hq:=h69;simpa using hq
    have hDD:(if(QO (strE q) (Ql (⟨ci,mi,ri,pln LI⟩:Tre)).2 ci id)=0 then fiD (fiO q (pln LI) id)else noD)=noD:=if_neg hg0
    have hXX:(if(QO (strE q) (Ql (⟨ci,mi,ri,pln LI⟩:Tre)).2 ci id)=0 then(if((Qu (2:Int) (pln LI) (nmB [id])).2.2=true)then fiE (fiO q (pln LI) id) 31 else 6)else(QO (strE q) (Ql (⟨ci,mi,ri,pln LI⟩:Tre)).2 ci id))=(QO (strE q) (Ql (⟨ci,mi,ri,pln LI⟩:Tre)).2 ci id):=if_neg hg0
    rw[hDD,hXX]
    refine aU6 ?_
    refine QJ 4 155 159 rfl
     (λhg70 _=>by
      refine aU3 ?_
      refine o_p (Qs (cs:=[_,_,_,_,_,_]) rfl rfl XP QY rfl) rfl (aU ?_)
      refine oCq rfl (λw1 h1=>c18 w1 noD gE.1.1 gE.1.2 gE.2.1 gE.2.2 none 0 none 0 (HS.rw_own (a:=gE.1.1) (l:=noD.en) av4 h1 aPk rfl) (HS.rw_own (a:=gE.2.1) (l:=noD.au) av4 h1 aPk rfl) Xk Xk (by decide) (by decide)) ?_
      exact oJt 4 159)
     (λhg72 _=>by
      refine aU3 ?_
      exact oJf 4 159) ?_
    refine aU2 ?_
    exact rV (h:=by first|rfl|(simp[Qw];done)|(simp[Qw,fiE,hx];done)|(simp[Qw,fiE,fiD,hx,hg0];done))
   have hg0:(QO (strE q) (Ql (⟨ci,mi,ri,pln LI⟩:Tre)).2 ci id)=0:=by have hq:=h69;simpa using hq
   have hDD:(if(QO (strE q) (Ql (⟨ci,mi,ri,pln LI⟩:Tre)).2 ci id)=0 then fiD (fiO q (pln LI) id)else noD)=fiD (fiO q (pln LI) id):=if_pos hg0
   have hXX:(if(QO (strE q) (Ql (⟨ci,mi,ri,pln LI⟩:Tre)).2 ci id)=0 then(if((Qu (2:Int) (pln LI) (nmB [id])).2.2=true)then fiE (fiO q (pln LI) id) 31 else 6)else(QO (strE q) (Ql (⟨ci,mi,ri,pln LI⟩:Tre)).2 ci id))=(if((Qu (2:Int) (pln LI) (nmB [id])).2.2=true)then fiE (fiO q (pln LI) id) 31 else 6):=if_pos hg0
   rw[hDD,hXX]
   obtain⟨hE8,h0I,rfl,hid1,hid2⟩:=QfY hg0
   obtain⟨hq8c,hq8d⟩:=Zw hE8
   have hx0:=Qdj ⟨hid1,hid2⟩
   have hpI:0<LI.length:=by have h9:=(Zd h0I).2.2.1;simp only[Qd]at h9;exact h9
   obtain⟨T2,d2,hR2,hV2,hZ2,hU2⟩:=QfH h0I
   dsimp only at hR2 hV2
   have hTI:TOk ((2:Nat):Int) (pln LI):=QfU hR2 hV2 hU2
   refine aU2 ?_
   refine Qq [10] mixed ?_
   refine dV 0 rfl (Qo rfl rfl rfl XV (1) om om) (dLn 1 [[]] ?_)
   refine dFa 2 ?_
   refine dLd 3 [[]] ?_
   refine dQ 4 [[]] rfl (Qe rfl ZM rfl (λw1 h1=>by have h9:=c20 w1 id 4 om (by decide);rw[Qew]at h9;exact h9)) (dQ 5 [[]] rfl (Qe rfl Qjn rfl (λw1 h1=>Qm7 w1 mi ri ai icap LI (nmB [id]) (hsI.later h1.nil) hBI hpI hTI (by rw[XZ];exact(by decide:4*1<=1000000)) hx0)) (dP 6 ?_))
   refine dP 7 ?_
   refine dP 8 ?_
   refine dH 9 rfl (Xo rfl XB) (λb74 _=>dBa ?_)
   refine dSt 10 ?_ (hl:=(by simp only[Qj,List.length_set,List.length_cons,List.length_nil,List.length_map];omega))
   refine dTu [] ?_
   refine dP 11 ?_
   refine dNi ?_
   refine aU6 ?_
   refine sCd rfl (λh75=>?_) λh75=>?_
   ·have hx:¬((Qu (2:Int) (pln LI) (nmB [id])).2.2=true):=by have hq:=h75;simpa using hq
    have hOO:fiO q (pln LI) id=none:=if_neg hx
    rw[if_neg hx,hOO]
    refine aU5 ?_
    refine QJ 4 173 177 rfl
     (λhg76 _=>by
      refine aU3 ?_
      refine o_p (Qs (cs:=[_,_,_,_,_,_]) rfl rfl XP QY rfl) rfl (aU ?_)
      refine oCq rfl (λw1 h1=>c18 w1 noD gE.1.1 gE.1.2 gE.2.1 gE.2.2 none 0 none 0 (HS.rw_own (a:=gE.1.1) (l:=noD.en) av4 h1 aPk rfl) (HS.rw_own (a:=gE.2.1) (l:=noD.au) av4 h1 aPk rfl) Xk Xk (by decide) (by decide)) ?_
      exact oJt 4 177)
     (λhg78 _=>by
      refine aU3 ?_
      exact oJf 4 177) ?_
    refine aU2 ?_
    exact rV (h:=by first|rfl|(simp[Qw];done)|(simp[Qw,fiE,hx];done)|(simp[Qw,fiE,fiD,hx,hg0];done))
   have hx:((Qu (2:Int) (pln LI) (nmB [id])).2.2=true):=by have hq:=h75;simpa using hq
   have hOO:fiO q (pln LI) id=XK (QP q (Xb (2:Int) (pln LI) (nmB [id])).val) id:=if_pos hx
   rw[if_pos hx,if_pos hx,hOO]
   refine aU8 ?_
   refine oCq rfl (λw1 h1=>c21 w1 q _ id hm om (by have:=Qdb hf2 (Xv (Qu (2:Int) (pln LI) (nmB [id])).1) (Qu (2:Int) (pln LI) (nmB [id])).2.1;exact Nat.le_trans this (by decide))) (aU8 ?_)
   refine Qi (L':=[(9,_),(10,_),(11,_),(15,_),(16,_)]) aSx (λ_ h=>h) ?_
   refine aU4 ?_
   refine sCd rfl (λh80=>?_) λh80=>?_
   ·have hN:XK (QP q (Xb (2:Int) (pln LI) (nmB [id])).val) id=none:=by have hq:=h80;simpa using hq
    rw[hN]
    refine aU5 ?_
    refine QJ 4 191 195 rfl
     (λhg81 _=>by
      refine aU3 ?_
      refine o_p (Qs (cs:=[_,_,_,_,_,_]) rfl rfl XP QY rfl) rfl (aU ?_)
      refine oCq rfl (λw1 h1=>c18 w1 noD gE.1.1 gE.1.2 gE.2.1 gE.2.2 none 0 none 0 (HS.rw_own (a:=gE.1.1) (l:=noD.en) av4 h1 aPk rfl) (HS.rw_own (a:=gE.2.1) (l:=noD.au) av4 h1 aPk rfl) Xk Xk (by decide) (by decide)) ?_
      exact oJt 4 195)
     (λhg83 _=>by
      refine aU3 ?_
      exact oJf 4 195) ?_
    refine aU2 ?_
    exact rV (h:=by first|rfl|(simp[Qw];done)|(simp[Qw,fiE,hx];done)|(simp[Qw,fiE,fiD,hx,hg0];done))
   obtain⟨b9,hN⟩:∃b,XK (QP q (Xb (2:Int) (pln LI) (nmB [id])).val) id=some b:=by have hq:=h80;simpa[Option.isSome_iff_exists]using hq
   have hb9:b9.length<=16384:=by unfold XK at hN;rw[Option.map_eq_some_iff]at hN;obtain⟨y,hy,rfl⟩:=hN;have h9:=Qbg (s:=q) om y (List.mem_of_find?_eq_some hy);omega
   rw[hN]
   refine aU4 ?_
   refine oCh rfl (λw1 h1=>c22 w1 b9 om) (λgF _=>aU3 ?_)
   refine oAl (λb85 _=>?_) QY
   refine aU9 ?_
   refine QJ 4 204 208 rfl
    (λhg86 _=>by
     refine aU5 ?_
     refine oCq rfl (λw1 h1=>c18 w1 (Xj b9) gE.1.1 gE.1.2 gE.2.1 gE.2.2 gF.1.1 gF.1.2 gF.2.1 gF.2.2 (HS.rw_own (a:=gE.1.1) (l:=(Xj b9).en) av4 h1 aPk rfl) (HS.rw_own (a:=gE.2.1) (l:=(Xj b9).au) av4 h1 aPk rfl) (HS.rw_own (a:=gF.1.1) (l:=(Xj b9).en) av4 h1 aPk rfl) (HS.rw_own (a:=gF.2.1) (l:=(Xj b9).au) av4 h1 aPk rfl) (by have:=Qbn b9;omega) (by have:=Qbn b9;omega)) ?_
     exact oJt 4 208)
    (λhg88 _=>by
     refine aU3 ?_
     exact oJf 4 208) ?_
   refine aU2 ?_
   exact rV (h:=by first|rfl|(simp[Qw];done)|(simp[Qw,fiE,hx];done)|(simp[Qw,fiE,fiD,hx,hg0];done))
  skip
  refine dBa ?_
  refine dH 6 rfl (Xy rfl Qkr rfl (λw1 h1=>Qnw w1 q ci mi ri kia kic KI id (pln LI) hm (HS.nt h1 aPk) hKI hf2)) (λgE _=>dBa ?_)
  refine dP 7 ?_
  refine dP 8 ?_
  refine dP 9 ?_
  refine dSt 11 ?_ (hl:=(by simp only[Qj,List.length_set,List.length_cons,List.length_nil,List.length_map];omega))
  refine dTu [] ?_
  refine dP 12 ?_
  refine dNi ?_
  refine aU3 ?_
  refine oCq rfl (λw1 h1=>c12 w1 q om) (aU8 ?_)
  refine Qi (L':=[(0,_),(4,_),(5,_),(6,_),(7,_),(8,_),(9,_),(10,_),(11,_),(65,_)]) aSx (λ_ h=>h) ?_
  refine Xn (α:=Unit) [11,66,67,68] (λ_=>[(11,.int .i64 (if strE q=0 then(Ql (⟨co,mo,rm,pln L⟩:Tre)).2 else strE q))]) (λ_=>True) ?_ ?_
  ·skip
   refine sCd rfl (λh90=>?_) λh90=>?_
   ·have hA1:(if strE q=0 then(Ql (⟨co,mo,rm,pln L⟩:Tre)).2 else strE q)=(Ql (⟨co,mo,rm,pln L⟩:Tre)).2:=if_pos (by have hq:=h90;simpa using hq)
    refine aU ?_
    refine o_p (Qo rfl rfl rfl XV (0) om om) rfl (aU ?_)
    refine oCq rfl (λw1 h1=>c13 w1 co mo rm a cap L (hs.later h1.nil) hBH hkH) (aU2 ?_)
    exact Qf () trivial (by rw[hA1];exact aSx) (λw h=>h.ent aEt)
   have hA1:(if strE q=0 then(Ql (⟨co,mo,rm,pln L⟩:Tre)).2 else strE q)=strE q:=if_neg (by have hq:=h90;simpa using hq)
   refine aU ?_
   exact Qf () trivial (by rw[hA1];exact aSx) (λw h=>h.ent aEt)
  intro _ _
  refine aU6 ?_
  refine Xn (α:=Unit) [11,71,72,73] (λ_=>[(11,.int .i64 (if(if strE q=0 then(Ql (⟨co,mo,rm,pln L⟩:Tre)).2 else strE q)=0 then(QF d).2 else(if strE q=0 then(Ql (⟨co,mo,rm,pln L⟩:Tre)).2 else strE q)))]) (λ_=>True) ?_ ?_
  ·skip
   refine sCd rfl (λh91=>?_) λh91=>?_
   ·have hA2:(if(if strE q=0 then(Ql (⟨co,mo,rm,pln L⟩:Tre)).2 else strE q)=0 then(QF d).2 else(if strE q=0 then(Ql (⟨co,mo,rm,pln L⟩:Tre)).2 else strE q))=(QF d).2:=if_pos (by have hq:=h91;simpa using hq)
    refine aU3 ?_
    refine oCq rfl (λw1 h1=>c14 w1 d ea eac aa aac (hse.later h1) (hsa.later h1) hme hma) (aU2 ?_)
    exact Qf () trivial (by rw[hA2];exact aSx) (λw h=>h.ent aEt)
   have hA2:(if(if strE q=0 then(Ql (⟨co,mo,rm,pln L⟩:Tre)).2 else strE q)=0 then(QF d).2 else(if strE q=0 then(Ql (⟨co,mo,rm,pln L⟩:Tre)).2 else strE q))=(if strE q=0 then(Ql (⟨co,mo,rm,pln L⟩:Tre)).2 else strE q):=if_neg (by have hq:=h91;simpa using hq)
   refine aU ?_
   exact Qf () trivial (by rw[hA2];exact aSx) (λw h=>h.ent aEt)
  intro _ _
  refine aU6 ?_
  refine QJ 5 76 81 rfl
   (λhg92 _=>by
    refine aU ?_
    refine o_p (Qo rfl rfl rfl XV (0) om om) rfl (aU6 ?_)
    exact oJt 5 81)
   (λhg94 _=>by
    refine aU4 ?_
    exact oJf 5 81) ?_
  refine aU ?_
  refine Xn (α:=Unit) [11] (λ_=>[(11,.int .i64 (fhE (strE q) (Ql (⟨co,mo,rm,pln L⟩:Tre)).2 (QF d).2 co))]) (λ_=>True) ?_ ?_
  ·skip
   refine sCd rfl (λh96=>?_) λh96=>?_
   ·have hA3:(fhE (strE q) (Ql (⟨co,mo,rm,pln L⟩:Tre)).2 (QF d).2 co)=15:=by have hq:=h96;grind
    refine aU3 ?_
    exact Qf () trivial (by rw[hA3];exact aSx) (λw h=>h.ent aEt)
   have hA3:(fhE (strE q) (Ql (⟨co,mo,rm,pln L⟩:Tre)).2 (QF d).2 co)=(if(if strE q=0 then(Ql (⟨co,mo,rm,pln L⟩:Tre)).2 else strE q)=0 then(QF d).2 else(if strE q=0 then(Ql (⟨co,mo,rm,pln L⟩:Tre)).2 else strE q)):=by have hq:=h96;grind
   refine aU ?_
   exact Qf () trivial (by rw[hA3];exact aSx) (λw h=>h.ent aEt)
  intro _ _
  refine aU6 ?_
  refine QJ 8 84 92 rfl
   (λhg97 _=>by
    refine aU8 ?_
    refine oOr 3 88 91 rfl
     (λhg99 _=>by
      refine aU5 ?_
      exact oJf 3 91)
     (λhg101 _=>by
      refine aU3 ?_
      exact oJt 3 91) ?_
    exact oJt 6 92)
   (λhg103 _=>by
    refine aU7 ?_
    exact oJf 8 92) ?_
  refine aU ?_
  refine sCd rfl (λh105=>?_) λh105=>?_
  ·exfalso;have hq:=h105;by_cases h9:(fhE (strE q) (Ql (⟨co,mo,rm,pln L⟩:Tre)).2 (QF d).2 co)=0<;>simp[h9]at hq
  refine aU7 ?_
  refine Qi (L':=[(0,_),(4,_),(5,_),(6,_),(7,_),(8,_),(9,_),(10,_),(11,_),(94,_)]) aSx (λ_ h=>h) ?_
  refine Xn (α:=Unit) [6,12,13,95,96,97,98,99,100,101,102,103,104,105,106,107,108,109,110,111,112,113,114,115,116,117,118,119,120,121,122,123,124,125,126] (λ_=>[]) (λ_=>True) ?_ ?_
  ·skip
   refine sCd rfl (λh106=>?_) λh106=>?_
   ·have he:(fhE (strE q) (Ql (⟨co,mo,rm,pln L⟩:Tre)).2 (QF d).2 co)=0:=by have hq:=h106;simpa using hq
    obtain⟨hE9,h0H,hdz,hco⟩:=Qiv he
    obtain⟨hq8a,hq8b⟩:=Zw hE9
    obtain⟨d9,lo9,hi9,rt9,hR,hV,hU⟩:=hT9 h0H
    refine aU ?_
    refine Qq [] mixed ?_
    refine dP 0 ?_
    refine dV 1 rfl (Qo rfl rfl rfl XV (0) om om) (dLn 2 [] ?_)
    refine dFa 3 ?_
    refine dLn 4 [] ?_
    refine dQ 5 [] rfl (Qe rfl Qko rfl (λw1 h1=>c16 w1 d ea eac aa aac (hse.later h1) (hsa.later h1) hme hma hdz)) (dQ 6 [] rfl (Qe rfl Qjq rfl (λw1 h1=>c15 w1 q (Xe d) co mo rm a cap L T d9 _ _ hm om (by have:=QaW d;omega) (hs.later h1.nil) hlH hV.bel hR.nin hV.idx (Qb2 (t:=(⟨co,mo,rm,pln L⟩:Tre)) hf1 rfl h0H hR) (Qig (L:=L) hco hV))) (dP 7 ?_))
    refine dP 8 ?_
    refine dP 9 ?_
    refine dP 10 ?_
    refine dP 11 ?_
    refine dNi ?_
    refine aU4 ?_
    refine QJ 8 106 114 rfl
     (λhg107 _=>by
      refine aU6 ?_
      refine oOr 4 109 113 rfl
       (λhg109 _=>by
        refine aU7 ?_
        exact oJf 4 113)
       (λhg111 _=>by
        refine aU4 ?_
        exact oJt 4 113) ?_
      exact oJt 5 114)
     (λhg113 _=>by
      refine aU7 ?_
      exact oJf 8 114) ?_
    refine aU ?_
    refine oOr 11 115 126 rfl
     (λhg115 _=>by
      refine aU6 ?_
      refine QJ 7 118 125 rfl
       (λhg117 _=>by
        refine aU6 ?_
        refine oOr 3 121 124 rfl
         (λhg119 _=>by
          refine aU5 ?_
          exact oJf 3 124)
         (λhg121 _=>by
          refine aU3 ?_
          exact oJt 3 124) ?_
        refine aU ?_
        exact oJt 5 125)
       (λhg123 _=>by
        refine aU7 ?_
        exact oJf 7 125) ?_
      exact oJf 5 126)
     (λhg125 _=>by
      refine YO ?_
      exact oJt 11 126) ?_
    refine aU ?_
    refine sCd rfl (λh127=>?_) λh127=>?_
    ·exfalso;have hq:=h127;cases hX:(fbH q (Xe d) T.flat)<;>simp[hX,he]at hq
    refine aU ?_
    exact Qf () trivial aSx (λw h=>h.ent aEt)
   refine aU ?_
   exact Qf () trivial aSx (λw h=>h.ent aEt)
  intro _ _
  refine aU3 ?_
  refine oCq rfl (λw1 h1=>c12 w1 q om) (aU8 ?_)
  refine Xn (α:=Unit) [11,131,132,133] (λ_=>[(11,.int .i64 (if strE q=0 then(Ql (⟨ci,mi,ri,pln LI⟩:Tre)).2 else strE q))]) (λ_=>True) ?_ ?_
  ·skip
   refine sCd rfl (λh128=>?_) λh128=>?_
   ·have hB1:(if strE q=0 then(Ql (⟨ci,mi,ri,pln LI⟩:Tre)).2 else strE q)=(Ql (⟨ci,mi,ri,pln LI⟩:Tre)).2:=if_pos (by have hq:=h128;simpa using hq)
    refine aU ?_
    refine o_p (Qo rfl rfl rfl XV (1) om om) rfl (aU ?_)
    refine oCq rfl (λw1 h1=>c13 w1 ci mi ri ai icap LI (hsI.later h1.nil) hBI hkI) (aU2 ?_)
    exact Qf () trivial (by rw[hB1];exact aSx) (λw h=>h.ent aEt)
   have hB1:(if strE q=0 then(Ql (⟨ci,mi,ri,pln LI⟩:Tre)).2 else strE q)=strE q:=if_neg (by have hq:=h128;simpa using hq)
   refine aU ?_
   exact Qf () trivial (by rw[hB1];exact aSx) (λw h=>h.ent aEt)
  intro _ _
  refine aU6 ?_
  refine QJ 5 136 141 rfl
   (λhg129 _=>by
    refine aU ?_
    refine o_p (Qo rfl rfl rfl XV (1) om om) rfl (aU6 ?_)
    exact oJt 5 141)
   (λhg131 _=>by
    refine aU4 ?_
    exact oJf 5 141) ?_
  refine aU ?_
  refine Qi (L':=[(0,_),(4,_),(5,_),(9,_),(10,_),(11,_),(141,_)]) aSx (λ_ h=>h) ?_
  refine Xn (α:=Unit) [11] (λ_=>[(11,.int .i64 (if(if strE q=0 then(Ql (⟨ci,mi,ri,pln LI⟩:Tre)).2 else strE q)=0 then(if ci=2 then 0 else 15)else(if strE q=0 then(Ql (⟨ci,mi,ri,pln LI⟩:Tre)).2 else strE q)))]) (λ_=>True) ?_ ?_
  ·skip
   refine sCd rfl (λh133=>?_) λh133=>?_
   ·have hB2:(if(if strE q=0 then(Ql (⟨ci,mi,ri,pln LI⟩:Tre)).2 else strE q)=0 then(if ci=2 then 0 else 15)else(if strE q=0 then(Ql (⟨ci,mi,ri,pln LI⟩:Tre)).2 else strE q))=15:=by have hq:=h133;grind
    refine aU3 ?_
    exact Qf () trivial (by rw[hB2];exact aSx) (λw h=>h.ent aEt)
   have hB2:(if(if strE q=0 then(Ql (⟨ci,mi,ri,pln LI⟩:Tre)).2 else strE q)=0 then(if ci=2 then 0 else 15)else(if strE q=0 then(Ql (⟨ci,mi,ri,pln LI⟩:Tre)).2 else strE q))=(if strE q=0 then(Ql (⟨ci,mi,ri,pln LI⟩:Tre)).2 else strE q):=by have hq:=h133;grind
   refine aU ?_
   exact Qf () trivial (by rw[hB2];exact aSx) (λw h=>h.ent aEt)
  intro _ _
  refine aU6 ?_
  refine QJ 5 144 149 rfl
   (λhg134 _=>by
    refine aU5 ?_
    refine oCq rfl (λw1 h1=>c17 w1 id) (aU2 ?_)
    exact oJt 5 149)
   (λhg136 _=>by
    refine aU4 ?_
    exact oJf 5 149) ?_
  refine aU ?_
  refine Xn (α:=Unit) [11] (λ_=>[(11,.int .i64 (QO (strE q) (Ql (⟨ci,mi,ri,pln LI⟩:Tre)).2 ci id))]) (λ_=>True) ?_ ?_
  ·skip
   refine sCd rfl (λh138=>?_) λh138=>?_
   ·have hB3:(QO (strE q) (Ql (⟨ci,mi,ri,pln LI⟩:Tre)).2 ci id)=2:=by have hq:=h138;first|grind|(simp at hq;grind)
    refine aU3 ?_
    exact Qf () trivial (by rw[hB3];exact aSx) (λw h=>h.ent aEt)
   have hB3:(QO (strE q) (Ql (⟨ci,mi,ri,pln LI⟩:Tre)).2 ci id)=(if(if strE q=0 then(Ql (⟨ci,mi,ri,pln LI⟩:Tre)).2 else strE q)=0 then(if ci=2 then 0 else 15)else(if strE q=0 then(Ql (⟨ci,mi,ri,pln LI⟩:Tre)).2 else strE q)):=by have hq:=h138;first|grind|(simp at hq;grind)
   refine aU ?_
   exact Qf () trivial (by rw[hB3];exact aSx) (λw h=>h.ent aEt)
  intro _ _
  refine aU6 ?_
  refine sCd rfl (λh139=>?_) λh139=>?_
  ·have hg0:¬(QO (strE q) (Ql (⟨ci,mi,ri,pln LI⟩:Tre)).2 ci id)=0:=by have hq:=h139;simpa using hq
   have hDD:(if(QO (strE q) (Ql (⟨ci,mi,ri,pln LI⟩:Tre)).2 ci id)=0 then fiD (fiO q (pln LI) id)else noD)=noD:=if_neg hg0
   have hXX:(if(QO (strE q) (Ql (⟨ci,mi,ri,pln LI⟩:Tre)).2 ci id)=0 then(if((Qu (2:Int) (pln LI) (nmB [id])).2.2=true)then fiE (fiO q (pln LI) id) 31 else 6)else(QO (strE q) (Ql (⟨ci,mi,ri,pln LI⟩:Tre)).2 ci id))=(QO (strE q) (Ql (⟨ci,mi,ri,pln LI⟩:Tre)).2 ci id):=if_neg hg0
   rw[hDD,hXX]
   refine aU6 ?_
   refine QJ 4 155 159 rfl
    (λhg140 _=>by
     refine aU3 ?_
     refine o_p (Qs (cs:=[_,_,_,_,_,_]) rfl rfl XP QY rfl) rfl (aU ?_)
     refine oCq rfl (λw1 h1=>c18 w1 noD gE.1.1 gE.1.2 gE.2.1 gE.2.2 none 0 none 0 (HS.rw_own (a:=gE.1.1) (l:=noD.en) av4 h1 aPk rfl) (HS.rw_own (a:=gE.2.1) (l:=noD.au) av4 h1 aPk rfl) Xk Xk (by decide) (by decide)) ?_
     exact oJt 4 159)
    (λhg142 _=>by
     refine aU3 ?_
     exact oJf 4 159) ?_
   refine aU2 ?_
   exact rV (h:=by first|rfl|(simp[Qw];done)|(simp[Qw,fiE,hx];done)|(simp[Qw,fiE,fiD,hx,hg0];done))
  have hg0:(QO (strE q) (Ql (⟨ci,mi,ri,pln LI⟩:Tre)).2 ci id)=0:=by have hq:=h139;simpa using hq
  have hDD:(if(QO (strE q) (Ql (⟨ci,mi,ri,pln LI⟩:Tre)).2 ci id)=0 then fiD (fiO q (pln LI) id)else noD)=fiD (fiO q (pln LI) id):=if_pos hg0
  have hXX:(if(QO (strE q) (Ql (⟨ci,mi,ri,pln LI⟩:Tre)).2 ci id)=0 then(if((Qu (2:Int) (pln LI) (nmB [id])).2.2=true)then fiE (fiO q (pln LI) id) 31 else 6)else(QO (strE q) (Ql (⟨ci,mi,ri,pln LI⟩:Tre)).2 ci id))=(if((Qu (2:Int) (pln LI) (nmB [id])).2.2=true)then fiE (fiO q (pln LI) id) 31 else 6):=if_pos hg0
  rw[hDD,hXX]
  obtain⟨hE8,h0I,rfl,hid1,hid2⟩:=QfY hg0
  obtain⟨hq8c,hq8d⟩:=Zw hE8
  have hx0:=Qdj ⟨hid1,hid2⟩
  have hpI:0<LI.length:=by have h9:=(Zd h0I).2.2.1;simp only[Qd]at h9;exact h9
  obtain⟨T2,d2,hR2,hV2,hZ2,hU2⟩:=QfH h0I
  dsimp only at hR2 hV2
  have hTI:TOk ((2:Nat):Int) (pln LI):=QfU hR2 hV2 hU2
  refine aU2 ?_
  refine Qq [10] mixed ?_
  refine dV 0 rfl (Qo rfl rfl rfl XV (1) om om) (dLn 1 [[]] ?_)
  refine dFa 2 ?_
  refine dLd 3 [[]] ?_
  refine dQ 4 [[]] rfl (Qe rfl ZM rfl (λw1 h1=>by have h9:=c20 w1 id 4 om (by decide);rw[Qew]at h9;exact h9)) (dQ 5 [[]] rfl (Qe rfl Qjn rfl (λw1 h1=>Qm7 w1 mi ri ai icap LI (nmB [id]) (hsI.later h1.nil) hBI hpI hTI (by rw[XZ];exact(by decide:4*1<=1000000)) hx0)) (dP 6 ?_))
  refine dP 7 ?_
  refine dP 8 ?_
  refine dH 9 rfl (Xo rfl XB) (λb144 _=>dBa ?_)
  refine dSt 10 ?_ (hl:=(by simp only[Qj,List.length_set,List.length_cons,List.length_nil,List.length_map];omega))
  refine dTu [] ?_
  refine dP 11 ?_
  refine dNi ?_
  refine aU6 ?_
  refine sCd rfl (λh145=>?_) λh145=>?_
  ·have hx:¬((Qu (2:Int) (pln LI) (nmB [id])).2.2=true):=by have hq:=h145;simpa using hq
   have hOO:fiO q (pln LI) id=none:=if_neg hx
   rw[if_neg hx,hOO]
   refine aU5 ?_
   refine QJ 4 173 177 rfl
    (λhg146 _=>by
     refine aU3 ?_
     refine o_p (Qs (cs:=[_,_,_,_,_,_]) rfl rfl XP QY rfl) rfl (aU ?_)
     refine oCq rfl (λw1 h1=>c18 w1 noD gE.1.1 gE.1.2 gE.2.1 gE.2.2 none 0 none 0 (HS.rw_own (a:=gE.1.1) (l:=noD.en) av4 h1 aPk rfl) (HS.rw_own (a:=gE.2.1) (l:=noD.au) av4 h1 aPk rfl) Xk Xk (by decide) (by decide)) ?_
     exact oJt 4 177)
    (λhg148 _=>by
     refine aU3 ?_
     exact oJf 4 177) ?_
   refine aU2 ?_
   exact rV (h:=by first|rfl|(simp[Qw];done)|(simp[Qw,fiE,hx];done)|(simp[Qw,fiE,fiD,hx,hg0];done))
  have hx:((Qu (2:Int) (pln LI) (nmB [id])).2.2=true):=by have hq:=h145;simpa using hq
  have hOO:fiO q (pln LI) id=XK (QP q (Xb (2:Int) (pln LI) (nmB [id])).val) id:=if_pos hx
  rw[if_pos hx,if_pos hx,hOO]
  refine aU8 ?_
  refine oCq rfl (λw1 h1=>c21 w1 q _ id hm om (by have:=Qdb hf2 (Xv (Qu (2:Int) (pln LI) (nmB [id])).1) (Qu (2:Int) (pln LI) (nmB [id])).2.1;exact Nat.le_trans this (by decide))) (aU8 ?_)
  refine Qi (L':=[(9,_),(10,_),(11,_),(15,_),(16,_)]) aSx (λ_ h=>h) ?_
  refine aU4 ?_
  refine sCd rfl (λh150=>?_) λh150=>?_
  ·have hN:XK (QP q (Xb (2:Int) (pln LI) (nmB [id])).val) id=none:=by have hq:=h150;simpa using hq
   rw[hN]
   refine aU5 ?_
   refine QJ 4 191 195 rfl
    (λhg151 _=>by
     refine aU3 ?_
     refine o_p (Qs (cs:=[_,_,_,_,_,_]) rfl rfl XP QY rfl) rfl (aU ?_)
     refine oCq rfl (λw1 h1=>c18 w1 noD gE.1.1 gE.1.2 gE.2.1 gE.2.2 none 0 none 0 (HS.rw_own (a:=gE.1.1) (l:=noD.en) av4 h1 aPk rfl) (HS.rw_own (a:=gE.2.1) (l:=noD.au) av4 h1 aPk rfl) Xk Xk (by decide) (by decide)) ?_
     exact oJt 4 195)
    (λhg153 _=>by
     refine aU3 ?_
     exact oJf 4 195) ?_
   refine aU2 ?_
   exact rV (h:=by first|rfl|(simp[Qw];done)|(simp[Qw,fiE,hx];done)|(simp[Qw,fiE,fiD,hx,hg0];done))
  obtain⟨b9,hN⟩:∃b,XK (QP q (Xb (2:Int) (pln LI) (nmB [id])).val) id=some b:=by have hq:=h150;simpa[Option.isSome_iff_exists]using hq
  have hb9:b9.length<=16384:=by unfold XK at hN;rw[Option.map_eq_some_iff]at hN;obtain⟨y,hy,rfl⟩:=hN;have h9:=Qbg (s:=q) om y (List.mem_of_find?_eq_some hy);omega
  rw[hN]
  refine aU4 ?_
  refine oCh rfl (λw1 h1=>c22 w1 b9 om) (λgF _=>aU3 ?_)
  refine oAl (λb155 _=>?_) QY
  refine aU9 ?_
  refine QJ 4 204 208 rfl
   (λhg156 _=>by
    refine aU5 ?_
    refine oCq rfl (λw1 h1=>c18 w1 (Xj b9) gE.1.1 gE.1.2 gE.2.1 gE.2.2 gF.1.1 gF.1.2 gF.2.1 gF.2.2 (HS.rw_own (a:=gE.1.1) (l:=(Xj b9).en) av4 h1 aPk rfl) (HS.rw_own (a:=gE.2.1) (l:=(Xj b9).au) av4 h1 aPk rfl) (HS.rw_own (a:=gF.1.1) (l:=(Xj b9).en) av4 h1 aPk rfl) (HS.rw_own (a:=gF.2.1) (l:=(Xj b9).au) av4 h1 aPk rfl) (by have:=Qbn b9;omega) (by have:=Qbn b9;omega)) ?_
    exact oJt 4 208)
   (λhg158 _=>by
    refine aU3 ?_
    exact oJf 4 208) ?_
  refine aU2 ?_
  exact rV (h:=by first|rfl|(simp[Qw];done)|(simp[Qw,fiE,hx];done)|(simp[Qw,fiE,fiD,hx,hg0];done))
 skip
 refine dBa ?_
 refine dH 3 rfl (Xy rfl Qng rfl (λw1 h1=>c9 w1 ci mi ri ai icap LI (hsI.later h1.nil) hlI hsmI)) (λ⟨⟨kia,kic⟩,KI⟩hKI=>dBa ?_)
 refine dH 6 rfl (Xy rfl Qkr rfl (λw1 h1=>Qnw w1 q ci mi ri kia kic KI id (pln LI) hm (HS.nt h1 aPk) hKI hf2)) (λgE _=>dBa ?_)
 refine dP 7 ?_
 refine dP 8 ?_
 refine dP 9 ?_
 refine dSt 11 ?_ (hl:=(by simp only[Qj,List.length_set,List.length_cons,List.length_nil,List.length_map];omega))
 refine dTu [] ?_
 refine dP 12 ?_
 refine dNi ?_
 refine aU3 ?_
 refine oCq rfl (λw1 h1=>c12 w1 q om) (aU8 ?_)
 refine Qi (L':=[(0,_),(4,_),(5,_),(6,_),(7,_),(8,_),(9,_),(10,_),(11,_),(65,_)]) aSx (λ_ h=>h) ?_
 refine Xn (α:=Unit) [11,66,67,68] (λ_=>[(11,.int .i64 (if strE q=0 then(Ql (⟨co,mo,rm,pln L⟩:Tre)).2 else strE q))]) (λ_=>True) ?_ ?_
 ·skip
  refine sCd rfl (λh160=>?_) λh160=>?_
  ·have hA1:(if strE q=0 then(Ql (⟨co,mo,rm,pln L⟩:Tre)).2 else strE q)=(Ql (⟨co,mo,rm,pln L⟩:Tre)).2:=if_pos (by have hq:=h160;simpa using hq)
   refine aU ?_
   refine o_p (Qo rfl rfl rfl XV (0) om om) rfl (aU ?_)
   refine oCq rfl (λw1 h1=>c13 w1 co mo rm a cap L (hs.later h1.nil) hBH hkH) (aU2 ?_)
   exact Qf () trivial (by rw[hA1];exact aSx) (λw h=>h.ent aEt)
  have hA1:(if strE q=0 then(Ql (⟨co,mo,rm,pln L⟩:Tre)).2 else strE q)=strE q:=if_neg (by have hq:=h160;simpa using hq)
  refine aU ?_
  exact Qf () trivial (by rw[hA1];exact aSx) (λw h=>h.ent aEt)
 intro _ _
 refine aU6 ?_
 refine Xn (α:=Unit) [11,71,72,73] (λ_=>[(11,.int .i64 (if(if strE q=0 then(Ql (⟨co,mo,rm,pln L⟩:Tre)).2 else strE q)=0 then(QF d).2 else(if strE q=0 then(Ql (⟨co,mo,rm,pln L⟩:Tre)).2 else strE q)))]) (λ_=>True) ?_ ?_
 ·skip
  refine sCd rfl (λh161=>?_) λh161=>?_
  ·have hA2:(if(if strE q=0 then(Ql (⟨co,mo,rm,pln L⟩:Tre)).2 else strE q)=0 then(QF d).2 else(if strE q=0 then(Ql (⟨co,mo,rm,pln L⟩:Tre)).2 else strE q))=(QF d).2:=if_pos (by have hq:=h161;simpa using hq)
   refine aU3 ?_
   refine oCq rfl (λw1 h1=>c14 w1 d ea eac aa aac (hse.later h1) (hsa.later h1) hme hma) (aU2 ?_)
   exact Qf () trivial (by rw[hA2];exact aSx) (λw h=>h.ent aEt)
  have hA2:(if(if strE q=0 then(Ql (⟨co,mo,rm,pln L⟩:Tre)).2 else strE q)=0 then(QF d).2 else(if strE q=0 then(Ql (⟨co,mo,rm,pln L⟩:Tre)).2 else strE q))=(if strE q=0 then(Ql (⟨co,mo,rm,pln L⟩:Tre)).2 else strE q):=if_neg (by have hq:=h161;simpa using hq)
  refine aU ?_
  exact Qf () trivial (by rw[hA2];exact aSx) (λw h=>h.ent aEt)
 intro _ _
 refine aU6 ?_
 refine QJ 5 76 81 rfl
  (λhg162 _=>by
   refine aU ?_
   refine o_p (Qo rfl rfl rfl XV (0) om om) rfl (aU6 ?_)
   exact oJt 5 81)
  (λhg164 _=>by
   refine aU4 ?_
   exact oJf 5 81) ?_
 refine aU ?_
 refine Xn (α:=Unit) [11] (λ_=>[(11,.int .i64 (fhE (strE q) (Ql (⟨co,mo,rm,pln L⟩:Tre)).2 (QF d).2 co))]) (λ_=>True) ?_ ?_
 ·skip
  refine sCd rfl (λh166=>?_) λh166=>?_
  ·have hA3:(fhE (strE q) (Ql (⟨co,mo,rm,pln L⟩:Tre)).2 (QF d).2 co)=15:=by have hq:=h166;grind
   refine aU3 ?_
   exact Qf () trivial (by rw[hA3];exact aSx) (λw h=>h.ent aEt)
  have hA3:(fhE (strE q) (Ql (⟨co,mo,rm,pln L⟩:Tre)).2 (QF d).2 co)=(if(if strE q=0 then(Ql (⟨co,mo,rm,pln L⟩:Tre)).2 else strE q)=0 then(QF d).2 else(if strE q=0 then(Ql (⟨co,mo,rm,pln L⟩:Tre)).2 else strE q)):=by have hq:=h166;grind
  refine aU ?_
  exact Qf () trivial (by rw[hA3];exact aSx) (λw h=>h.ent aEt)
 intro _ _
 refine aU6 ?_
 refine QJ 8 84 92 rfl
  (λhg167 _=>by
   refine aU8 ?_
   refine oOr 3 88 91 rfl
    (λhg169 _=>by
     refine aU5 ?_
     exact oJf 3 91)
    (λhg171 _=>by
     refine aU3 ?_
     exact oJt 3 91) ?_
   exact oJt 6 92)
  (λhg173 _=>by
   refine aU7 ?_
   exact oJf 8 92) ?_
 refine aU ?_
 refine sCd rfl (λh175=>?_) λh175=>?_
 ·exfalso;have hq:=h175;by_cases h9:(fhE (strE q) (Ql (⟨co,mo,rm,pln L⟩:Tre)).2 (QF d).2 co)=0<;>simp[h9]at hq
 refine aU7 ?_
 refine Qi (L':=[(0,_),(4,_),(5,_),(6,_),(7,_),(8,_),(9,_),(10,_),(11,_),(94,_)]) aSx (λ_ h=>h) ?_
 refine Xn (α:=Unit) [6,12,13,95,96,97,98,99,100,101,102,103,104,105,106,107,108,109,110,111,112,113,114,115,116,117,118,119,120,121,122,123,124,125,126] (λ_=>[]) (λ_=>True) ?_ ?_
 ·skip
  refine sCd rfl (λh176=>?_) λh176=>?_
  ·have he:(fhE (strE q) (Ql (⟨co,mo,rm,pln L⟩:Tre)).2 (QF d).2 co)=0:=by have hq:=h176;simpa using hq
   obtain⟨hE9,h0H,hdz,hco⟩:=Qiv he
   obtain⟨hq8a,hq8b⟩:=Zw hE9
   obtain⟨d9,lo9,hi9,rt9,hR,hV,hU⟩:=hT9 h0H
   refine aU ?_
   refine Qq [] mixed ?_
   refine dP 0 ?_
   refine dV 1 rfl (Qo rfl rfl rfl XV (0) om om) (dLn 2 [] ?_)
   refine dFa 3 ?_
   refine dLn 4 [] ?_
   refine dQ 5 [] rfl (Qe rfl Qko rfl (λw1 h1=>c16 w1 d ea eac aa aac (hse.later h1) (hsa.later h1) hme hma hdz)) (dQ 6 [] rfl (Qe rfl Qjq rfl (λw1 h1=>c15 w1 q (Xe d) co mo rm a cap L T d9 _ _ hm om (by have:=QaW d;omega) (hs.later h1.nil) hlH hV.bel hR.nin hV.idx (Qb2 (t:=(⟨co,mo,rm,pln L⟩:Tre)) hf1 rfl h0H hR) (Qig (L:=L) hco hV))) (dP 7 ?_))
   refine dP 8 ?_
   refine dP 9 ?_
   refine dP 10 ?_
   refine dP 11 ?_
   refine dNi ?_
   refine aU4 ?_
   refine QJ 8 106 114 rfl
    (λhg177 _=>by
     refine aU6 ?_
     refine oOr 4 109 113 rfl
      (λhg179 _=>by
       refine aU7 ?_
       exact oJf 4 113)
      (λhg181 _=>by
       refine aU4 ?_
       exact oJt 4 113) ?_
     exact oJt 5 114)
    (λhg183 _=>by
     refine aU7 ?_
     exact oJf 8 114) ?_
   refine aU ?_
   refine oOr 11 115 126 rfl
    (λhg185 _=>by
     refine aU6 ?_
     refine QJ 7 118 125 rfl
      (λhg187 _=>by
       refine aU6 ?_
       refine oOr 3 121 124 rfl
        (λhg189 _=>by
         refine aU5 ?_
         exact oJf 3 124)
        (λhg191 _=>by
         refine aU3 ?_
         exact oJt 3 124) ?_
       refine aU ?_
       exact oJt 5 125)
      (λhg193 _=>by
       refine aU7 ?_
       exact oJf 7 125) ?_
     exact oJf 5 126)
    (λhg195 _=>by
     refine YO ?_
     exact oJt 11 126) ?_
   refine aU ?_
   refine sCd rfl (λh197=>?_) λh197=>?_
   ·exfalso;have hq:=h197;cases hX:(fbH q (Xe d) T.flat)<;>simp[hX,he]at hq
   refine aU ?_
   exact Qf () trivial aSx (λw h=>h.ent aEt)
  refine aU ?_
  exact Qf () trivial aSx (λw h=>h.ent aEt)
 intro _ _
 refine aU3 ?_
 refine oCq rfl (λw1 h1=>c12 w1 q om) (aU8 ?_)
 refine Xn (α:=Unit) [11,131,132,133] (λ_=>[(11,.int .i64 (if strE q=0 then(Ql (⟨ci,mi,ri,pln LI⟩:Tre)).2 else strE q))]) (λ_=>True) ?_ ?_
 ·skip
  refine sCd rfl (λh198=>?_) λh198=>?_
  ·have hB1:(if strE q=0 then(Ql (⟨ci,mi,ri,pln LI⟩:Tre)).2 else strE q)=(Ql (⟨ci,mi,ri,pln LI⟩:Tre)).2:=if_pos (by have hq:=h198;simpa using hq)
   refine aU ?_
   refine o_p (Qo rfl rfl rfl XV (1) om om) rfl (aU ?_)
   refine oCq rfl (λw1 h1=>c13 w1 ci mi ri ai icap LI (hsI.later h1.nil) hBI hkI) (aU2 ?_)
   exact Qf () trivial (by rw[hB1];exact aSx) (λw h=>h.ent aEt)
  have hB1:(if strE q=0 then(Ql (⟨ci,mi,ri,pln LI⟩:Tre)).2 else strE q)=strE q:=if_neg (by have hq:=h198;simpa using hq)
  refine aU ?_
  exact Qf () trivial (by rw[hB1];exact aSx) (λw h=>h.ent aEt)
 intro _ _
 refine aU6 ?_
 refine QJ 5 136 141 rfl
  (λhg199 _=>by
   refine aU ?_
   refine o_p (Qo rfl rfl rfl XV (1) om om) rfl (aU6 ?_)
   exact oJt 5 141)
  (λhg201 _=>by
   refine aU4 ?_
   exact oJf 5 141) ?_
 refine aU ?_
 refine Qi (L':=[(0,_),(4,_),(5,_),(9,_),(10,_),(11,_),(141,_)]) aSx (λ_ h=>h) ?_
 refine Xn (α:=Unit) [11] (λ_=>[(11,.int .i64 (if(if strE q=0 then(Ql (⟨ci,mi,ri,pln LI⟩:Tre)).2 else strE q)=0 then(if ci=2 then 0 else 15)else(if strE q=0 then(Ql (⟨ci,mi,ri,pln LI⟩:Tre)).2 else strE q)))]) (λ_=>True) ?_ ?_
 ·skip
  refine sCd rfl (λh203=>?_) λh203=>?_
  ·have hB2:(if(if strE q=0 then(Ql (⟨ci,mi,ri,pln LI⟩:Tre)).2 else strE q)=0 then(if ci=2 then 0 else 15)else(if strE q=0 then(Ql (⟨ci,mi,ri,pln LI⟩:Tre)).2 else strE q))=15:=by have hq:=h203;grind
   refine aU3 ?_
   exact Qf () trivial (by rw[hB2];exact aSx) (λw h=>h.ent aEt)
  have hB2:(if(if strE q=0 then(Ql (⟨ci,mi,ri,pln LI⟩:Tre)).2 else strE q)=0 then(if ci=2 then 0 else 15)else(if strE q=0 then(Ql (⟨ci,mi,ri,pln LI⟩:Tre)).2 else strE q))=(if strE q=0 then(Ql (⟨ci,mi,ri,pln LI⟩:Tre)).2 else strE q):=by have hq:=h203;grind
  refine aU ?_
  exact Qf () trivial (by rw[hB2];exact aSx) (λw h=>h.ent aEt)
 intro _ _
 refine aU6 ?_
 refine QJ 5 144 149 rfl
  (λhg204 _=>by
   refine aU5 ?_
   refine oCq rfl (λw1 h1=>c17 w1 id) (aU2 ?_)
   exact oJt 5 149)
  (λhg206 _=>by
   refine aU4 ?_
   exact oJf 5 149) ?_
 refine aU ?_
 refine Xn (α:=Unit) [11] (λ_=>[(11,.int .i64 (QO (strE q) (Ql (⟨ci,mi,ri,pln LI⟩:Tre)).2 ci id))]) (λ_=>True) ?_ ?_
 ·skip
  refine sCd rfl (λh208=>?_) λh208=>?_
  ·have hB3:(QO (strE q) (Ql (⟨ci,mi,ri,pln LI⟩:Tre)).2 ci id)=2:=by have hq:=h208;first|grind|(simp at hq;grind)
   refine aU3 ?_
   exact Qf () trivial (by rw[hB3];exact aSx) (λw h=>h.ent aEt)
  have hB3:(QO (strE q) (Ql (⟨ci,mi,ri,pln LI⟩:Tre)).2 ci id)=(if(if strE q=0 then(Ql (⟨ci,mi,ri,pln LI⟩:Tre)).2 else strE q)=0 then(if ci=2 then 0 else 15)else(if strE q=0 then(Ql (⟨ci,mi,ri,pln LI⟩:Tre)).2 else strE q)):=by have hq:=h208;first|grind|(simp at hq;grind)
  refine aU ?_
  exact Qf () trivial (by rw[hB3];exact aSx) (λw h=>h.ent aEt)
 intro _ _
 refine aU6 ?_
 refine sCd rfl (λh209=>?_) λh209=>?_
 ·have hg0:¬(QO (strE q) (Ql (⟨ci,mi,ri,pln LI⟩:Tre)).2 ci id)=0:=by have hq:=h209;simpa using hq
  have hDD:(if(QO (strE q) (Ql (⟨ci,mi,ri,pln LI⟩:Tre)).2 ci id)=0 then fiD (fiO q (pln LI) id)else noD)=noD:=if_neg hg0
  have hXX:(if(QO (strE q) (Ql (⟨ci,mi,ri,pln LI⟩:Tre)).2 ci id)=0 then(if((Qu (2:Int) (pln LI) (nmB [id])).2.2=true)then fiE (fiO q (pln LI) id) 31 else 6)else(QO (strE q) (Ql (⟨ci,mi,ri,pln LI⟩:Tre)).2 ci id))=(QO (strE q) (Ql (⟨ci,mi,ri,pln LI⟩:Tre)).2 ci id):=if_neg hg0
  rw[hDD,hXX]
  refine aU6 ?_
  refine QJ 4 155 159 rfl
   (λhg210 _=>by
    refine aU3 ?_
    refine o_p (Qs (cs:=[_,_,_,_,_,_]) rfl rfl XP QY rfl) rfl (aU ?_)
    refine oCq rfl (λw1 h1=>c18 w1 noD gE.1.1 gE.1.2 gE.2.1 gE.2.2 none 0 none 0 (HS.rw_own (a:=gE.1.1) (l:=noD.en) av4 h1 aPk rfl) (HS.rw_own (a:=gE.2.1) (l:=noD.au) av4 h1 aPk rfl) Xk Xk (by decide) (by decide)) ?_
    exact oJt 4 159)
   (λhg212 _=>by
    refine aU3 ?_
    exact oJf 4 159) ?_
  refine aU2 ?_
  exact rV (h:=by first|rfl|(simp[Qw];done)|(simp[Qw,fiE,hx];done)|(simp[Qw,fiE,fiD,hx,hg0];done))
 have hg0:(QO (strE q) (Ql (⟨ci,mi,ri,pln LI⟩:Tre)).2 ci id)=0:=by have hq:=h209;simpa using hq
 have hDD:(if(QO (strE q) (Ql (⟨ci,mi,ri,pln LI⟩:Tre)).2 ci id)=0 then fiD (fiO q (pln LI) id)else noD)=fiD (fiO q (pln LI) id):=if_pos hg0
 have hXX:(if(QO (strE q) (Ql (⟨ci,mi,ri,pln LI⟩:Tre)).2 ci id)=0 then(if((Qu (2:Int) (pln LI) (nmB [id])).2.2=true)then fiE (fiO q (pln LI) id) 31 else 6)else(QO (strE q) (Ql (⟨ci,mi,ri,pln LI⟩:Tre)).2 ci id))=(if((Qu (2:Int) (pln LI) (nmB [id])).2.2=true)then fiE (fiO q (pln LI) id) 31 else 6):=if_pos hg0
 rw[hDD,hXX]
 obtain⟨hE8,h0I,rfl,hid1,hid2⟩:=QfY hg0
 obtain⟨hq8c,hq8d⟩:=Zw hE8
 have hx0:=Qdj ⟨hid1,hid2⟩
 have hpI:0<LI.length:=by have h9:=(Zd h0I).2.2.1;simp only[Qd]at h9;exact h9
 obtain⟨T2,d2,hR2,hV2,hZ2,hU2⟩:=QfH h0I
 dsimp only at hR2 hV2
 have hTI:TOk ((2:Nat):Int) (pln LI):=QfU hR2 hV2 hU2
 refine aU2 ?_
 refine Qq [10] mixed ?_
 refine dV 0 rfl (Qo rfl rfl rfl XV (1) om om) (dLn 1 [[]] ?_)
 refine dFa 2 ?_
 refine dLd 3 [[]] ?_
 refine dQ 4 [[]] rfl (Qe rfl ZM rfl (λw1 h1=>by have h9:=c20 w1 id 4 om (by decide);rw[Qew]at h9;exact h9)) (dQ 5 [[]] rfl (Qe rfl Qjn rfl (λw1 h1=>Qm7 w1 mi ri ai icap LI (nmB [id]) (hsI.later h1.nil) hBI hpI hTI (by rw[XZ];exact(by decide:4*1<=1000000)) hx0)) (dP 6 ?_))
 refine dP 7 ?_
 refine dP 8 ?_
 refine dH 9 rfl (Xo rfl XB) (λb214 _=>dBa ?_)
 refine dSt 10 ?_ (hl:=(by simp only[Qj,List.length_set,List.length_cons,List.length_nil,List.length_map];omega))
 refine dTu [] ?_
 refine dP 11 ?_
 refine dNi ?_
 refine aU6 ?_
 refine sCd rfl (λh215=>?_) λh215=>?_
 ·have hx:¬((Qu (2:Int) (pln LI) (nmB [id])).2.2=true):=by have hq:=h215;simpa using hq
  have hOO:fiO q (pln LI) id=none:=if_neg hx
  rw[if_neg hx,hOO]
  refine aU5 ?_
  refine QJ 4 173 177 rfl
   (λhg216 _=>by
    refine aU3 ?_
    refine o_p (Qs (cs:=[_,_,_,_,_,_]) rfl rfl XP QY rfl) rfl (aU ?_)
    refine oCq rfl (λw1 h1=>c18 w1 noD gE.1.1 gE.1.2 gE.2.1 gE.2.2 none 0 none 0 (HS.rw_own (a:=gE.1.1) (l:=noD.en) av4 h1 aPk rfl) (HS.rw_own (a:=gE.2.1) (l:=noD.au) av4 h1 aPk rfl) Xk Xk (by decide) (by decide)) ?_
    exact oJt 4 177)
   (λhg218 _=>by
    refine aU3 ?_
    exact oJf 4 177) ?_
  refine aU2 ?_
  exact rV (h:=by first|rfl|(simp[Qw];done)|(simp[Qw,fiE,hx];done)|(simp[Qw,fiE,fiD,hx,hg0];done))
 have hx:((Qu (2:Int) (pln LI) (nmB [id])).2.2=true):=by have hq:=h215;simpa using hq
 have hOO:fiO q (pln LI) id=XK (QP q (Xb (2:Int) (pln LI) (nmB [id])).val) id:=if_pos hx
 rw[if_pos hx,if_pos hx,hOO]
 refine aU8 ?_
 refine oCq rfl (λw1 h1=>c21 w1 q _ id hm om (by have:=Qdb hf2 (Xv (Qu (2:Int) (pln LI) (nmB [id])).1) (Qu (2:Int) (pln LI) (nmB [id])).2.1;exact Nat.le_trans this (by decide))) (aU8 ?_)
 refine Qi (L':=[(9,_),(10,_),(11,_),(15,_),(16,_)]) aSx (λ_ h=>h) ?_
 refine aU4 ?_
 refine sCd rfl (λh220=>?_) λh220=>?_
 ·have hN:XK (QP q (Xb (2:Int) (pln LI) (nmB [id])).val) id=none:=by have hq:=h220;simpa using hq
  rw[hN]
  refine aU5 ?_
  refine QJ 4 191 195 rfl
   (λhg221 _=>by
    refine aU3 ?_
    refine o_p (Qs (cs:=[_,_,_,_,_,_]) rfl rfl XP QY rfl) rfl (aU ?_)
    refine oCq rfl (λw1 h1=>c18 w1 noD gE.1.1 gE.1.2 gE.2.1 gE.2.2 none 0 none 0 (HS.rw_own (a:=gE.1.1) (l:=noD.en) av4 h1 aPk rfl) (HS.rw_own (a:=gE.2.1) (l:=noD.au) av4 h1 aPk rfl) Xk Xk (by decide) (by decide)) ?_
    exact oJt 4 195)
   (λhg223 _=>by
    refine aU3 ?_
    exact oJf 4 195) ?_
  refine aU2 ?_
  exact rV (h:=by first|rfl|(simp[Qw];done)|(simp[Qw,fiE,hx];done)|(simp[Qw,fiE,fiD,hx,hg0];done))
 obtain⟨b9,hN⟩:∃b,XK (QP q (Xb (2:Int) (pln LI) (nmB [id])).val) id=some b:=by have hq:=h220;simpa[Option.isSome_iff_exists]using hq
 have hb9:b9.length<=16384:=by unfold XK at hN;rw[Option.map_eq_some_iff]at hN;obtain⟨y,hy,rfl⟩:=hN;have h9:=Qbg (s:=q) om y (List.mem_of_find?_eq_some hy);omega
 rw[hN]
 refine aU4 ?_
 refine oCh rfl (λw1 h1=>c22 w1 b9 om) (λgF _=>aU3 ?_)
 refine oAl (λb225 _=>?_) QY
 refine aU9 ?_
 refine QJ 4 204 208 rfl
  (λhg226 _=>by
   refine aU5 ?_
   refine oCq rfl (λw1 h1=>c18 w1 (Xj b9) gE.1.1 gE.1.2 gE.2.1 gE.2.2 gF.1.1 gF.1.2 gF.2.1 gF.2.2 (HS.rw_own (a:=gE.1.1) (l:=(Xj b9).en) av4 h1 aPk rfl) (HS.rw_own (a:=gE.2.1) (l:=(Xj b9).au) av4 h1 aPk rfl) (HS.rw_own (a:=gF.1.1) (l:=(Xj b9).en) av4 h1 aPk rfl) (HS.rw_own (a:=gF.2.1) (l:=(Xj b9).au) av4 h1 aPk rfl) (by have:=Qbn b9;omega) (by have:=Qbn b9;omega)) ?_
   exact oJt 4 208)
  (λhg228 _=>by
   refine aU3 ?_
   exact oJf 4 208) ?_
 refine aU2 ?_
 exact rV (h:=by first|rfl|(simp[Qw];done)|(simp[Qw,fiE,hx];done)|(simp[Qw,fiE,fiD,hx,hg0];done))
theorem c3(w:World)(q:List UInt8)(co mo rm:Int)(a:Option Addr)(cap:Nat)(L:List LNd)(ci mi ri:Int)(ai:Option Addr)(icap:Nat)(LI:List LNd)(d:Dsc)(ea:Option Addr)(eac:Nat)(aa:Option Addr)(aac:Nat)(id:Int)(hqM:q.length<=9223372036854775807)(hs:Nt w [] a L)(hsI:Nt w [] ai LI)(hse:Rw Ace.vals 4 w [] ea d.en)(hsa:Rw Ace.vals 4 w [] aa d.au):CR 3 #[.string (bs q),.agg #[.int .i64 co,.int .i64 mo,.int .i64 rm,.slice a L.length cap,.int .i64 ci,.int .i64 mi,.int .i64 ri,.slice ai LI.length icap],.agg #[.int .i64 d.ow,.int .i64 d.gr,.bool d.pr,.bool d.he,.slice ea d.en.length eac,.slice aa d.au.length aac,.int .i64 id]] w (.bool true):=by
  by_cases hz:q.length<=12400/\XL (pln L)=true/\XL (pln LI)=true/\Qi9 d=true
  · exact c3w w q co mo rm a cap L ci mi ri ai icap LI d ea eac aa aac id hqM hs hsI hse hsa hz.1 hz.2.1 hz.2.2.1 hz.2.2.2
  · exact c3z w q co mo rm a cap L ci mi ri ai icap LI d ea eac aa aac id hqM hs hsI hse hsa hz
end Go.Proofs
