/- Contracts of the program's functions, proved by walking them with the rules of the Gx texts; without conditions beyond those that each contract names. -/
import Derived.WalkKit
import Derived.Deep.Draws
import Derived.TacticsIn
import Derived.OrdersIn
import Derived.RangeFuncLeaves
import Derived.Lib.Strings
import Derived.Laws.BytesArg
import Derived.Laws.IdiomStrings
import Derived.Deep.Quiet
import Derived.ProofKit
import Derived.OpenShut
import Derived.Laws.StructEq
import Derived.ChangeKeysEq
import Derived.Laws.Externs
import Derived.Lib.Overlaps
import Derived.Carry
import Derived.Laws.Small
import Derived.Lib.Bytealg
import Derived.Shelf.Small.Strs
import Derived.Shelf.Small.Wraps
import Derived.Shelf.Strconv.Itoa0
import Derived.Shelf.Strconv.Itoa1
import Derived.Shelf.LaysM
import Derived.Shelf.Strconv.Itoa2
import Derived.Shelf.Strconv.Itoa3
import Derived.Shelf.Strings.Search1
import Derived.Shelf.Strings.Search2
import Derived.Shelf.Strings.Cut
import Derived.Shelf.Strings.Shaped
import Derived.Shelf.Strings.LastIndex
import Derived.Shelf.Strings.LastIndexAll
import Derived.Shelf.Strings.Prefix
import Derived.Shelf.Slices.Turned
import Derived.Shelf.Slices.Reverse
import Derived.Shelf.Slices.Equal
import Derived.Ground.Names2Prog
import Derived.Shelf.Slices.Clone
import Derived.Shelf.Slices.SearchI
import Derived.Shelf.Slices.Delete
import Derived.Shelf.Slices.Cells
import Derived.Shelf.Slices.Empties
import Derived.Shelf.Slices.Empties2
import Derived.Ground.SlgnProg
import Derived.Shelf.SlicesE.Reverse
import Derived.Shelf.SlicesE.Delete
import Derived.Shelf.SlicesE.Clone
import Derived.Test.YtmhkomoiamljeaaGreatDoorProg
import Derived.KernelRfl
import Derived.Lib.LastIndexByte
import Derived.Lib.ItoaNum
import Derived.Lib.SmallJoins
import Derived.Lib.AppendIntMem
import Derived.RangeFuncRecord
import Derived.Lib.Builder
import Derived.Laws.Pointers
import Derived.Test.YtmhkomoiamljeaaGreatDoorTie
import Derived.Test.YtmhkomoiamljeaaGreatDoorCards
import Derived.SevenTiedAt
import Derived.LaidMore
import Derived.Lay
import Derived.Stop.Joined
import Derived.Test.YtmhkomoiamljeaaGreatDoorP0
set_option linter.unusedSimpArgs false
set_option maxHeartbeats 1000000
set_option linter.unusedVariables false
set_option linter.unusedSectionVars false
set_option linter.unnecessarySimpa false
namespace Gx
open Go Go.RowKit
class BP(b:Bool)(p n:outParam Prop):Prop where
 t:b=true->p
 f:b=false->n
instance(priority:=low) bp0(b:Bool):BP b (b=true) (b=false):=⟨id,id⟩
instance bpD(p:Prop)[Decidable p]:BP (decide p) p (¬p):=⟨of_decide_eq_true,of_decide_eq_false⟩
instance bpN(b:Bool)(p n:Prop)[h:BP b p n]:BP (!b) n p:=⟨λh9=>h.f (by simpa using h9),λh9=>h.t (by simpa using h9)⟩
instance bpA(a b:Bool)(p n p' n':Prop)[h:BP a p n][h':BP b p' n']:BP (a&&b) (p/\p') (n\/n'):=⟨λh9=>⟨h.t (by simp at h9;exact h9.1),h'.t (by simp at h9;exact h9.2)⟩,λh9=>by cases a with
 | true=>exact .inr (h'.f (by simpa using h9))
 | false=>exact .inl (h.f rfl)⟩
instance bpO(a b:Bool)(p n p' n':Prop)[h:BP a p n][h':BP b p' n']:BP (a||b) (p\/p') (n/\n'):=⟨λh9=>by cases a with
 | true=>exact .inl (h.t rfl)
 | false=>exact .inr (h'.t (by simpa using h9)),λh9=>⟨h.f (by simp at h9;exact h9.1),h'.f (by simp at h9;exact h9.2)⟩⟩
class TFn(P:Program)(f:Nat):Prop where h:QJ P f=true
section
variable{X:Ctx}{k:List KI}{L:Qc}{C:World->Prop}
theorem sCd{c:Operand}{x y:Code}{b:Bool}{p n:Prop}(hc:ev L c=some (.bool b))[hB:BP b p n](ht:p->S X (.c x::k) L C)(hf:n->S X (.c y::k) L C):S X (.c (.cond c x y)::k) L C:=Qgm hc (λh=>ht (hB.t h)) λh=>hf (hB.f h)
variable{ops:Array Oper}{rest:List Oper}{d ty:Nat}{pos:String}{aft:Array Edge}{op:Op}
theorem Xi(m dj dp:Nat){b c:Bool}{p n:Prop}{l:List Oper}(hb:Qc.get L dj=some (.bool b))[hB:BP b p n]
  (h1:b=true->p->O X ops (l.take m) (.join (At X.n X.df (λ_:Unit=>(dp,.bool c)::L) (λ_=>C))::k) L C)
  (h0:b=false->n->O X ops (l.take m) (.join (At X.n X.df (λ_:Unit=>(dp,.bool false)::L) (λ_=>C))::k) L C)
  (h2:O X ops (l.drop m) k ((dp,.bool (b&&c))::L) C):O X ops l k L C:=Qwb m dj dp b c hb (λh=>h1 h (hB.t h)) (λh=>h0 h (hB.f h)) h2
theorem oOr(m dj dp:Nat){b c:Bool}{p n:Prop}{l:List Oper}(hb:Qc.get L dj=some (.bool b))[hB:BP b p n]
  (h1:b=false->n->O X ops (l.take m) (.join (At X.n X.df (λ_:Unit=>(dp,.bool c)::L) (λ_=>C))::k) L C)
  (h0:b=true->p->O X ops (l.take m) (.join (At X.n X.df (λ_:Unit=>(dp,.bool true)::L) (λ_=>C))::k) L C)
  (h2:O X ops (l.drop m) k ((dp,.bool (b||c))::L) C):O X ops l k L C:=o_or m dj dp b c hb (λh=>h1 h (hB.f h)) (λh=>h0 h (hB.t h)) h2
theorem oNo{j dj:Nat}{want b:Bool}{dst:Option Nat}(next:O X ops (⟨dst,op,ty,pos,aft,none⟩::rest) k L C)(hj:(ops[j]?).bind (·.dst)=some dj:=by rfl)(hs:Qc.get L dj=some (.bool b):=by rfl)(hb:b=want:=by assumption):O X ops (⟨dst,op,ty,pos,aft,some (j,want)⟩::rest) k L C:=o_on dj b hj hs hb next
theorem oFt{j dj:Nat}{b:Bool}(next:O X ops rest k ((d,undef)::L) C)(hj:(ops[j]?).bind (·.dst)=some dj:=by rfl)(hs:Qc.get L dj=some (.bool b):=by rfl)(hb:b=false:=by assumption)(hd:Nat.blt d X.n=true:=by rfl):O X ops (⟨some d,op,ty,pos,aft,some (j,true)⟩::rest) k L C:=QqT dj b hj hs hb hd next
theorem oFf{j dj:Nat}{b:Bool}(next:O X ops rest k ((d,undef)::L) C)(hj:(ops[j]?).bind (·.dst)=some dj:=by rfl)(hs:Qc.get L dj=some (.bool b):=by rfl)(hb:b=true:=by assumption)(hd:Nat.blt d X.n=true:=by rfl):O X ops (⟨some d,op,ty,pos,aft,some (j,false)⟩::rest) k L C:=QqT dj b hj hs hb hd next
theorem oFu{j dj:Nat}{want:Bool}(next:O X ops rest k ((d,undef)::L) C)(hj:(ops[j]?).bind (·.dst)=some dj:=by rfl)(hs:Qc.get L dj=some undef:=by rfl)(hd:Nat.blt d X.n=true:=by rfl):O X ops (⟨some d,op,ty,pos,aft,some (j,want)⟩::rest) k L C:=Qqy dj hj hs hd next
variable{w0:World}{M:List Nat}{As:List HA}
theorem rV{t:Nat}{v v':Value}(hr:X.fn.results=[ResultVar.tmp t].toArray:=by rfl)(hv:Qc.get L t=some v:=by rfl)(hR:X.R=λen w'=>en=.returned v'/\Below w0.heap.size w0 w':=by rfl)(hrd:X.rd=none:=by rfl)(hdf:X.df=[]:=by rfl)(h:Ending.returned (QA [v])=.returned v':=by rfl):S X (.c .ret::k) L (HS w0 [] As):=Qm hr (.tmp hv .nil) (λw' h'=>hR▸⟨h,h'.below⟩) hrd hdf
theorem oCq{f:FuncId}{args:Array Operand}{vs:List Value}{v:Value}{at':Array TypeId}(ha:evs L args.toList=some vs)[hf:TFn X.P f](hc:∀w,HS w0 M As w->Calls X.P f vs.toArray w λe w'=>e=.returned v/\Below w.heap.size w w')(next:O X ops rest k ((d,v)::L) (HS w0 M As))(hd:Nat.blt d X.n=true:=by rfl) :
  O X ops (⟨some d,.call {callee:=.value (.func f),args:=args,argTypes:=at'},ty,pos,aft,none⟩::rest) k L (HS w0 M As):=o_q (Qv rfl hf.h ha hc) hd next
theorem oCh{G:Type}{V:G->Value}{F:G->Prop}{Bs:G->List HA}{f:FuncId}{args:Array Operand}{vs:List Value}{at':Array TypeId}(ha:evs L args.toList=some vs)[hf:TFn X.P f](hc:∀w,HS w0 M As w->Calls X.P f vs.toArray w λe w'=>∃g,e=.returned (V g)/\F g/\HS w [] (Bs g) w')(next:∀g,F g->O X ops rest k ((d,V g)::L) (HS w0 M (Bs g++As)))(hd:Nat.blt d X.n=true:=by rfl) :
  O X ops (⟨some d,.call {callee:=.value (.func f),args:=args,argTypes:=at'},ty,pos,aft,none⟩::rest) k L (HS w0 M As):=o_h (QaJ rfl hf.h ha hc) hd next
theorem sBk{α:Type}{LJ:α->Qc}{CJ:α->World->Prop}{I:α->Prop}{m:α->Nat}{x:α}(y:α)(hm:m y<m x:=by omega)(hI:I y:=by omega)(hL:QbG L (LJ y):=by repeat (first|exact sl_n|refine sl_c rfl ?_))(hC:∀w,HS w0 M As w->CJ y w:=by(intro w h;exact h.ent aEt)):S X (.join (Qoy X.n X.df LJ CJ I m x)::k) L (HS w0 M As):=Qs y hm hI hL hC
end
section
variable{X:Ctx}{k:List KI}{L:Qc}{C:World->Prop}{ops:Array Oper}{rest:List Oper}{d ty:Nat}{pos:String}{aft:Array Edge}{op:Op}{LJ:Unit->Qc}{CJ:Unit->World->Prop}
theorem o0t{j dj:Nat}{b:Bool}(next:O X ops rest k L C)(hj:(ops[j]?).bind (·.dst)=some dj:=by rfl)(hs:Qc.get L dj=some (.bool b):=by rfl)(hb:b=false:=by assumption):O X ops (⟨none,op,ty,pos,aft,some (j,true)⟩::rest) k L C:=Qk2 dj b hj hs hb next
theorem o0f{j dj:Nat}{b:Bool}(next:O X ops rest k L C)(hj:(ops[j]?).bind (·.dst)=some dj:=by rfl)(hs:Qc.get L dj=some (.bool b):=by rfl)(hb:b=true:=by assumption):O X ops (⟨none,op,ty,pos,aft,some (j,false)⟩::rest) k L C:=Qk2 dj b hj hs hb next
theorem oJt(m dp:Nat){c x y:Operand}{b:Bool}{v:Value}(hc:ev L c=some (.bool b):=by rfl)(hb:b=true:=by assumption)(hx:ev L x=some v:=by rfl)(hd:Nat.blt dp X.n=true:=by rfl)(hJ:LJ ()=(dp,v)::((dp,v)::L).drop m:=by exact rfl)(hf:Qgv ((dp,v)::L) m=true:=by exact rfl)(hC:∀w,C w->CJ () w:=by(intro w h;first|exact h|exact h.ent aEt)) :
  O X ops [⟨some dp,.pick c x y,ty,pos,aft,none⟩] (.join (At X.n X.df LJ CJ)::k) L C:=o_p (QE rfl hc hb hx) hd (Qly (Qmp m dp v hJ (by rw[Qc.get_cons,if_pos rfl]) hf hC))
theorem oJf(m dp:Nat){c x y:Operand}{b:Bool}{v:Value}(hc:ev L c=some (.bool b):=by rfl)(hb:b=false:=by assumption)(hx:ev L y=some v:=by rfl)(hd:Nat.blt dp X.n=true:=by rfl)(hJ:LJ ()=(dp,v)::((dp,v)::L).drop m:=by exact rfl)(hf:Qgv ((dp,v)::L) m=true:=by exact rfl)(hC:∀w,C w->CJ () w:=by(intro w h;first|exact h|exact h.ent aEt)) :
  O X ops [⟨some dp,.pick c x y,ty,pos,aft,none⟩] (.join (At X.n X.df LJ CJ)::k) L C:=o_p (QC rfl hc hb hx) hd (Qly (Qmp m dp v hJ (by rw[Qc.get_cons,if_pos rfl]) hf hC))
end
section
variable{P:Program}{f:FuncId}{fn:Func}{n:Nat}{c:Code}{w w1:World}{R:Ending->World->Prop}{M:List Nat}{As:List HA}
theorem eN0(hf:P.funcs[f]?=some fn)(hn:fn.ntmps=n)(h:S {P:=P,fn:=fn,n:=n,R:=R} [.c c] (Qcm 0 []) (HS w [] []))(hb:fn.body=some c:=by rfl)(hl:Nat.ble 0 n=true:=by rfl):Calls P f #[] w R:=enter (args:=[]) hf hn hb hl (HS.refl w []) h
theorem eN1{x0:Value}(hf:P.funcs[f]?=some fn)(hn:fn.ntmps=n)(h:S {P:=P,fn:=fn,n:=n,R:=R} [.c c] (Qcm 0 [x0]) (HS w [] []))(hb:fn.body=some c:=by rfl)(hl:Nat.ble 1 n=true:=by rfl):Calls P f #[x0] w R:=enter (args:=[x0]) hf hn hb hl (HS.refl w []) h
theorem eW1{x0:Value}(hf:P.funcs[f]?=some fn)(hn:fn.ntmps=n)(hw:HS w1 M As w)(h:S {P:=P,fn:=fn,n:=n,R:=R} [.c c] (Qcm 0 [x0]) (HS w1 M As))(hb:fn.body=some c:=by rfl)(hl:Nat.ble 1 n=true:=by rfl):Calls P f #[x0] w R:=enter (args:=[x0]) hf hn hb hl hw h
theorem eN2{x0:Value}{x1:Value}(hf:P.funcs[f]?=some fn)(hn:fn.ntmps=n)(h:S {P:=P,fn:=fn,n:=n,R:=R} [.c c] (Qcm 0 [x0,x1]) (HS w [] []))(hb:fn.body=some c:=by rfl)(hl:Nat.ble 2 n=true:=by rfl):Calls P f #[x0,x1] w R:=enter (args:=[x0,x1]) hf hn hb hl (HS.refl w []) h
theorem eW2{x0:Value}{x1:Value}(hf:P.funcs[f]?=some fn)(hn:fn.ntmps=n)(hw:HS w1 M As w)(h:S {P:=P,fn:=fn,n:=n,R:=R} [.c c] (Qcm 0 [x0,x1]) (HS w1 M As))(hb:fn.body=some c:=by rfl)(hl:Nat.ble 2 n=true:=by rfl):Calls P f #[x0,x1] w R:=enter (args:=[x0,x1]) hf hn hb hl hw h
theorem eN3{x0:Value}{x1:Value}{x2:Value}(hf:P.funcs[f]?=some fn)(hn:fn.ntmps=n)(h:S {P:=P,fn:=fn,n:=n,R:=R} [.c c] (Qcm 0 [x0,x1,x2]) (HS w [] []))(hb:fn.body=some c:=by rfl)(hl:Nat.ble 3 n=true:=by rfl):Calls P f #[x0,x1,x2] w R:=enter (args:=[x0,x1,x2]) hf hn hb hl (HS.refl w []) h
theorem eW3{x0:Value}{x1:Value}{x2:Value}(hf:P.funcs[f]?=some fn)(hn:fn.ntmps=n)(hw:HS w1 M As w)(h:S {P:=P,fn:=fn,n:=n,R:=R} [.c c] (Qcm 0 [x0,x1,x2]) (HS w1 M As))(hb:fn.body=some c:=by rfl)(hl:Nat.ble 3 n=true:=by rfl):Calls P f #[x0,x1,x2] w R:=enter (args:=[x0,x1,x2]) hf hn hb hl hw h
theorem eN4{x0:Value}{x1:Value}{x2:Value}{x3:Value}(hf:P.funcs[f]?=some fn)(hn:fn.ntmps=n)(h:S {P:=P,fn:=fn,n:=n,R:=R} [.c c] (Qcm 0 [x0,x1,x2,x3]) (HS w [] []))(hb:fn.body=some c:=by rfl)(hl:Nat.ble 4 n=true:=by rfl):Calls P f #[x0,x1,x2,x3] w R:=enter (args:=[x0,x1,x2,x3]) hf hn hb hl (HS.refl w []) h
theorem eW4{x0:Value}{x1:Value}{x2:Value}{x3:Value}(hf:P.funcs[f]?=some fn)(hn:fn.ntmps=n)(hw:HS w1 M As w)(h:S {P:=P,fn:=fn,n:=n,R:=R} [.c c] (Qcm 0 [x0,x1,x2,x3]) (HS w1 M As))(hb:fn.body=some c:=by rfl)(hl:Nat.ble 4 n=true:=by rfl):Calls P f #[x0,x1,x2,x3] w R:=enter (args:=[x0,x1,x2,x3]) hf hn hb hl hw h
theorem eN5{x0:Value}{x1:Value}{x2:Value}{x3:Value}{x4:Value}(hf:P.funcs[f]?=some fn)(hn:fn.ntmps=n)(h:S {P:=P,fn:=fn,n:=n,R:=R} [.c c] (Qcm 0 [x0,x1,x2,x3,x4]) (HS w [] []))(hb:fn.body=some c:=by rfl)(hl:Nat.ble 5 n=true:=by rfl):Calls P f #[x0,x1,x2,x3,x4] w R:=enter (args:=[x0,x1,x2,x3,x4]) hf hn hb hl (HS.refl w []) h
theorem eW5{x0:Value}{x1:Value}{x2:Value}{x3:Value}{x4:Value}(hf:P.funcs[f]?=some fn)(hn:fn.ntmps=n)(hw:HS w1 M As w)(h:S {P:=P,fn:=fn,n:=n,R:=R} [.c c] (Qcm 0 [x0,x1,x2,x3,x4]) (HS w1 M As))(hb:fn.body=some c:=by rfl)(hl:Nat.ble 5 n=true:=by rfl):Calls P f #[x0,x1,x2,x3,x4] w R:=enter (args:=[x0,x1,x2,x3,x4]) hf hn hb hl hw h
theorem eW6{x0:Value}{x1:Value}{x2:Value}{x3:Value}{x4:Value}{x5:Value}(hf:P.funcs[f]?=some fn)(hn:fn.ntmps=n)(hw:HS w1 M As w)(h:S {P:=P,fn:=fn,n:=n,R:=R} [.c c] (Qcm 0 [x0,x1,x2,x3,x4,x5]) (HS w1 M As))(hb:fn.body=some c:=by rfl)(hl:Nat.ble 6 n=true:=by rfl):Calls P f #[x0,x1,x2,x3,x4,x5] w R:=enter (args:=[x0,x1,x2,x3,x4,x5]) hf hn hb hl hw h
end
theorem aU{p q:Prop}(hq:q)(h:(Unit->q)->p:=by(intro hq;first|refine Qlv ?_|refine QiV ?_|refine Qly ?_|refine QpF ?_|refine Qio ?_|refine QoO ?_|refine oP ?_|refine oNo ?_|refine oFt ?_|refine oFf ?_|refine oFu ?_|refine o0t ?_|refine o0f ?_|refine oFa ?_|refine oLs ?_|refine oLd ?_|refine oLn ?_|refine oSt ?_);exact hq ()):p:=h λ_=>hq
theorem aT{p q:Prop}(hq:q)(h:(Unit->q)->p:=by(intro hq;refine aU ?_;try refine oWr ?_);exact hq ()):p:=h λ_=>hq
theorem aU2{p q:Prop}(hq:q)(h:(Unit->q)->p:=by(intro hq;iterate 2 refine aU ?_);exact hq ()):p:=h λ_=>hq
theorem aT2{p q:Prop}(hq:q)(h:(Unit->q)->p:=by(intro hq;(iterate 2 refine aU ?_);try refine oWr ?_);exact hq ()):p:=h λ_=>hq
theorem aU3{p q:Prop}(hq:q)(h:(Unit->q)->p:=by(intro hq;iterate 3 refine aU ?_);exact hq ()):p:=h λ_=>hq
theorem aT3{p q:Prop}(hq:q)(h:(Unit->q)->p:=by(intro hq;(iterate 3 refine aU ?_);try refine oWr ?_);exact hq ()):p:=h λ_=>hq
theorem aU4{p q:Prop}(hq:q)(h:(Unit->q)->p:=by(intro hq;iterate 4 refine aU ?_);exact hq ()):p:=h λ_=>hq
theorem aT4{p q:Prop}(hq:q)(h:(Unit->q)->p:=by(intro hq;(iterate 4 refine aU ?_);try refine oWr ?_);exact hq ()):p:=h λ_=>hq
theorem aU5{p q:Prop}(hq:q)(h:(Unit->q)->p:=by(intro hq;iterate 5 refine aU ?_);exact hq ()):p:=h λ_=>hq
theorem aT5{p q:Prop}(hq:q)(h:(Unit->q)->p:=by(intro hq;(iterate 5 refine aU ?_);try refine oWr ?_);exact hq ()):p:=h λ_=>hq
theorem aU6{p q:Prop}(hq:q)(h:(Unit->q)->p:=by(intro hq;iterate 6 refine aU ?_);exact hq ()):p:=h λ_=>hq
theorem aT6{p q:Prop}(hq:q)(h:(Unit->q)->p:=by(intro hq;(iterate 6 refine aU ?_);try refine oWr ?_);exact hq ()):p:=h λ_=>hq
theorem aU7{p q:Prop}(hq:q)(h:(Unit->q)->p:=by(intro hq;iterate 7 refine aU ?_);exact hq ()):p:=h λ_=>hq
theorem aT7{p q:Prop}(hq:q)(h:(Unit->q)->p:=by(intro hq;(iterate 7 refine aU ?_);try refine oWr ?_);exact hq ()):p:=h λ_=>hq
theorem aU8{p q:Prop}(hq:q)(h:(Unit->q)->p:=by(intro hq;iterate 8 refine aU ?_);exact hq ()):p:=h λ_=>hq
theorem aT8{p q:Prop}(hq:q)(h:(Unit->q)->p:=by(intro hq;(iterate 8 refine aU ?_);try refine oWr ?_);exact hq ()):p:=h λ_=>hq
theorem aU9{p q:Prop}(hq:q)(h:(Unit->q)->p:=by(intro hq;iterate 9 refine aU ?_);exact hq ()):p:=h λ_=>hq
theorem aT9{p q:Prop}(hq:q)(h:(Unit->q)->p:=by(intro hq;(iterate 9 refine aU ?_);try refine oWr ?_);exact hq ()):p:=h λ_=>hq
theorem Qbf{p q:Prop}(hq:q)(h:(Unit->q)->p:=by(intro hq;iterate 10 refine aU ?_);exact hq ()):p:=h λ_=>hq
theorem Qro{p q:Prop}(hq:q)(h:(Unit->q)->p:=by(intro hq;(iterate 10 refine aU ?_);try refine oWr ?_);exact hq ()):p:=h λ_=>hq
theorem Qab{p q:Prop}(hq:q)(h:(Unit->q)->p:=by(intro hq;iterate 11 refine aU ?_);exact hq ()):p:=h λ_=>hq
theorem QbX{p q:Prop}(hq:q)(h:(Unit->q)->p:=by(intro hq;iterate 12 refine aU ?_);exact hq ()):p:=h λ_=>hq
theorem Qas{p q:Prop}(hq:q)(h:(Unit->q)->p:=by(intro hq;iterate 13 refine aU ?_);exact hq ()):p:=h λ_=>hq
theorem aT13{p q:Prop}(hq:q)(h:(Unit->q)->p:=by(intro hq;(iterate 13 refine aU ?_);try refine oWr ?_);exact hq ()):p:=h λ_=>hq
theorem Qkh{p q:Prop}(hq:q)(h:(Unit->q)->p:=by(intro hq;iterate 14 refine aU ?_);exact hq ()):p:=h λ_=>hq
theorem aT14{p q:Prop}(hq:q)(h:(Unit->q)->p:=by(intro hq;(iterate 14 refine aU ?_);try refine oWr ?_);exact hq ()):p:=h λ_=>hq
theorem Qqw{p q:Prop}(hq:q)(h:(Unit->q)->p:=by(intro hq;iterate 15 refine aU ?_);exact hq ()):p:=h λ_=>hq
theorem aU16{p q:Prop}(hq:q)(h:(Unit->q)->p:=by(intro hq;iterate 16 refine aU ?_);exact hq ()):p:=h λ_=>hq
theorem Qud{p q:Prop}(hq:q)(h:(Unit->q)->p:=by(intro hq;iterate 18 refine aU ?_);exact hq ()):p:=h λ_=>hq
theorem aU19{p q:Prop}(hq:q)(h:(Unit->q)->p:=by(intro hq;iterate 19 refine aU ?_);exact hq ()):p:=h λ_=>hq
end Gx
namespace Go.Proofs
open Go Go.RowKit Gx
instance:TSe Tryz.prog 22 127:=⟨Tryz.underlying22⟩
instance:TSe Tryz.prog 33 66:=⟨Tryz.underlying33⟩
instance:TSe Tryz.prog 69 9:=⟨Tryz.underlying69⟩
instance:TSe Tryz.prog 124 84:=⟨Tryz.underlying124⟩
instance:TSe Tryz.prog 125 3:=⟨Tryz.underlying125⟩
instance:TSe Tryz.prog 128 66:=⟨Tryz.underlying128⟩
instance:TSe Tryz.prog 185 34:=⟨Tryz.underlying185⟩
instance:TSe Tryz.prog 226 5:=⟨Tryz.underlying226⟩
instance:TSe Tryz.prog 228 4:=⟨Tryz.underlying228⟩
/-- A call that answers v and writes to no old block. -/
abbrev CR(f:FuncId)(x:Array Value)(w:World)(v:Value):Prop:=Calls Tryz.prog f x w λen w'=>en=.returned v/\Below w.heap.size w w'
/-- A call that makes blocks. -/
abbrev CE{G:Type}(f:FuncId)(x:Array Value)(w:World)(M:List Nat)(V:G->Value)(F:G->Prop)(B:G->List HA):Prop:=Calls Tryz.prog f x w λen w'=>∃g,en=.returned (V g)/\F g/\HS w M (B g) w'
end Go.Proofs
/-
  DERIVED: THE SHELF's CONTRACTS AT THIS DUMP,IN PLAIN WORDS (tools/lay-plain.mjs out of 'TryzShelf.lean',which tools/lay-shelf.mjs wrote): THE SAME DECLARATIONS UNDER THE SAME NAMES: 'import','namespace','open','def','theorem' AND NOTHING ELSE: no command of the shelf's: FOR A HAND-IN. Each laying: the table of numbers ('.._ren') and one theorem,a field a fact of the dump's own or the kernel's comparison;each contract: ONE APPLICATION.
-/
namespace Go.Proofs
open Go.Shelf
def Tryz.lays137_ren:Go.Shelf.Ren:=⟨λ |137=>268|217=>307|266=>333|n=>n,λ |9=>9|5=>5|3=>3|n=>n,λ |n=>n⟩
theorem Tryz.lays137:Go.Proofs.Lays.n137 Tryz.prog Tryz.lays137_ren:={
  mixed:=by kernel_rfl
  f137:=Tryz.func268.trans (congrArg some (by kernel_rfl))
  f217:=Tryz.func307.trans (congrArg some (by kernel_rfl))
  f266:=Tryz.func333.trans (congrArg some (by kernel_rfl))
  t3:=Tryz.underlying3
  a3:=Tryz.isAgg3
  z3:=Tryz.sizeOf3
  v3:=Tryz.zeroValue3
  t5:=Tryz.underlying5
  a5:=Tryz.isAgg5
  z5:=Tryz.sizeOf5
  v5:=Tryz.zeroValue5
  t9:=Tryz.underlying9
  a9:=Tryz.isAgg9
  z9:=Tryz.sizeOf9
  v9:=Tryz.zeroValue9}
open Go.RowKit in
theorem Tryz.strings_IndexByte(s:ByteArray)(c:Int)(w:World) :
    Calls Tryz.prog 268 #[.string s,.int .u8 c] w λe w'=>e=.returned (.int .i64 (Lib.indexByte s.data.toList c.toNat.toUInt8))/\w'=w:=Any.strings_IndexByte Tryz.lays137 s c w
def Tryz.laysM246_ren:Go.Shelf.Ren:=⟨λ |246=>326|283=>356|284=>357|285=>358|286=>359|129=>370|317=>369|318=>371|319=>372|320=>373|337=>378|338=>379|n=>n,λ |2=>2|3=>3|9=>9|4=>4|171=>360|0=>0|53=>361|37=>226|5=>5|173=>364|212=>372|51=>318|20=>20|213=>373|46=>236|232=>377|233=>378|n=>n,λ |17=>1|18=>2|19=>3|n=>n⟩
def Tryz.laysM243_ren:Go.Shelf.Ren:=⟨λ |243=>293|246=>326|283=>356|284=>357|285=>358|286=>359|129=>370|317=>369|318=>371|319=>372|320=>373|337=>378|338=>379|n=>n,λ |3=>3|9=>9|2=>2|4=>4|171=>360|0=>0|53=>361|37=>226|5=>5|173=>364|212=>372|51=>318|20=>20|213=>373|46=>236|232=>377|233=>378|n=>n,λ |17=>1|18=>2|19=>3|n=>n⟩
def Tryz.laysM171_ren:Go.Shelf.Ren:=⟨λ |171=>238|243=>293|246=>326|283=>356|284=>357|285=>358|286=>359|129=>370|317=>369|318=>371|319=>372|320=>373|337=>378|338=>379|n=>n,λ |3=>3|9=>9|2=>2|4=>4|171=>360|0=>0|53=>361|37=>226|5=>5|173=>364|212=>372|51=>318|20=>20|213=>373|46=>236|232=>377|233=>378|n=>n,λ |17=>1|18=>2|19=>3|n=>n⟩
def Tryz.lays171_ren:Go.Shelf.Ren:=⟨λ |171=>238|243=>293|246=>326|283=>356|284=>357|285=>358|286=>359|129=>370|317=>369|318=>371|319=>372|320=>373|337=>378|338=>379|n=>n,λ |3=>3|9=>9|2=>2|4=>4|171=>360|0=>0|53=>361|37=>226|5=>5|173=>364|212=>372|51=>318|20=>20|213=>373|46=>236|232=>377|233=>378|n=>n,λ |17=>1|18=>2|19=>3|n=>n⟩
theorem Tryz.lays171:Go.Proofs.Lays.n171 Tryz.prog Tryz.lays171_ren:={
  mixed:=by kernel_rfl
  f129:=Tryz.func370.trans (congrArg some (by kernel_rfl))
  f171:=Tryz.func238.trans (congrArg some (by kernel_rfl))
  f243:=Tryz.func293.trans (congrArg some (by kernel_rfl))
  f246:=Tryz.func326.trans (congrArg some (by kernel_rfl))
  f283:=Tryz.func356.trans (congrArg some (by kernel_rfl))
  f284:=Tryz.func357.trans (congrArg some (by kernel_rfl))
  f285:=Tryz.func358.trans (congrArg some (by kernel_rfl))
  f286:=Tryz.func359.trans (congrArg some (by kernel_rfl))
  f317:=Tryz.func369.trans (congrArg some (by kernel_rfl))
  f318:=Tryz.func371.trans (congrArg some (by kernel_rfl))
  f319:=Tryz.func372.trans (congrArg some (by kernel_rfl))
  f320:=Tryz.func373.trans (congrArg some (by kernel_rfl))
  f337:=Tryz.func378.trans (congrArg some (by kernel_rfl))
  f338:=Tryz.func379.trans (congrArg some (by kernel_rfl))
  t0:=Tryz.underlying0
  a0:=Tryz.isAgg0
  z0:=Tryz.sizeOf0
  v0:=Tryz.zeroValue0
  t2:=Tryz.underlying2
  a2:=Tryz.isAgg2
  z2:=Tryz.sizeOf2
  v2:=Tryz.zeroValue2
  t3:=Tryz.underlying3
  a3:=Tryz.isAgg3
  z3:=Tryz.sizeOf3
  v3:=Tryz.zeroValue3
  t4:=Tryz.underlying4
  a4:=Tryz.isAgg4
  z4:=Tryz.sizeOf4
  v4:=Tryz.zeroValue4
  t5:=Tryz.underlying5
  a5:=Tryz.isAgg5
  z5:=Tryz.sizeOf5
  v5:=Tryz.zeroValue5
  t9:=Tryz.underlying9
  a9:=Tryz.isAgg9
  z9:=Tryz.sizeOf9
  v9:=Tryz.zeroValue9
  t20:=Tryz.underlying20
  a20:=Tryz.isAgg20
  z20:=Tryz.sizeOf20
  v20:=Tryz.zeroValue20
  t37:=Tryz.underlying226
  a37:=Tryz.isAgg226
  z37:=Tryz.sizeOf226
  v37:=Tryz.zeroValue226
  t46:=Tryz.underlying236
  a46:=Tryz.isAgg236
  z46:=Tryz.sizeOf236
  v46:=Tryz.zeroValue236
  t51:=Tryz.underlying318
  a51:=Tryz.isAgg318
  z51:=Tryz.sizeOf318
  v51:=Tryz.zeroValue318
  t53:=Tryz.underlying361
  a53:=Tryz.isAgg361
  z53:=Tryz.sizeOf361
  v53:=Tryz.zeroValue361
  t171:=Tryz.underlying360
  a171:=Tryz.isAgg360
  z171:=Tryz.sizeOf360
  v171:=Tryz.zeroValue360
  t173:=Tryz.underlying364
  a173:=Tryz.isAgg364
  z173:=Tryz.sizeOf364
  v173:=Tryz.zeroValue364
  t212:=Tryz.underlying372
  a212:=Tryz.isAgg372
  z212:=Tryz.sizeOf372
  v212:=Tryz.zeroValue372
  t213:=Tryz.underlying373
  a213:=Tryz.isAgg373
  z213:=Tryz.sizeOf373
  t232:=Tryz.underlying377
  a232:=Tryz.isAgg377
  z232:=Tryz.sizeOf377
  v232:=Tryz.zeroValue377
  t233:=Tryz.underlying378
  a233:=Tryz.isAgg378
  z233:=Tryz.sizeOf378
  v233:=Tryz.zeroValue378
  g17:=by kernel_rfl
  g18:=by kernel_rfl
  g19:=by kernel_rfl}
open Go.RowKit Go.Sort Go.Lib in
theorem Tryz.strconv_Itoa_small(i:Nat)(hi:i<100)(w:World) :
    Calls Tryz.prog 238 #[.int .i64 i] w λe w'=>e=.returned (.string ⟨(Lib.decDigits i).toArray⟩)/\w'=w:=Any.strconv_Itoa_small Tryz.lays171 i hi w
def Tryz.lays219_ren:Go.Shelf.Ren:=⟨λ |219=>324|217=>307|225=>353|224=>354|267=>355|266=>333|314=>368|n=>n,λ |9=>9|3=>3|4=>4|5=>5|46=>236|146=>342|51=>318|n=>n,λ |1=>0|n=>n⟩
theorem Tryz.lays219:Go.Proofs.Lays.n219 Tryz.prog Tryz.lays219_ren:={
  mixed:=by kernel_rfl
  f217:=Tryz.func307.trans (congrArg some (by kernel_rfl))
  f219:=Tryz.func324.trans (congrArg some (by kernel_rfl))
  f224:=Tryz.func354.trans (congrArg some (by kernel_rfl))
  f225:=Tryz.func353.trans (congrArg some (by kernel_rfl))
  f266:=Tryz.func333.trans (congrArg some (by kernel_rfl))
  f267:=Tryz.func355.trans (congrArg some (by kernel_rfl))
  f314:=Tryz.func368.trans (congrArg some (by kernel_rfl))
  t3:=Tryz.underlying3
  a3:=Tryz.isAgg3
  z3:=Tryz.sizeOf3
  v3:=Tryz.zeroValue3
  t4:=Tryz.underlying4
  a4:=Tryz.isAgg4
  z4:=Tryz.sizeOf4
  v4:=Tryz.zeroValue4
  t5:=Tryz.underlying5
  a5:=Tryz.isAgg5
  z5:=Tryz.sizeOf5
  v5:=Tryz.zeroValue5
  t9:=Tryz.underlying9
  a9:=Tryz.isAgg9
  z9:=Tryz.sizeOf9
  v9:=Tryz.zeroValue9
  t46:=Tryz.underlying236
  a46:=Tryz.isAgg236
  z46:=Tryz.sizeOf236
  v46:=Tryz.zeroValue236
  t51:=Tryz.underlying318
  a51:=Tryz.isAgg318
  z51:=Tryz.sizeOf318
  v51:=Tryz.zeroValue318
  t146:=Tryz.underlying342
  a146:=Tryz.isAgg342
  z146:=Tryz.sizeOf342
  v146:=Tryz.zeroValue342
  g1:=by kernel_rfl}
open Go.RowKit Go.Lib in
theorem Tryz.stringslite_Index_one(s:ByteArray)(c:UInt8)(w:World) :
    Calls Tryz.prog 324 #[.string s,.string ⟨#[c]⟩] w λe w'=>e=.returned (.int .i64 (Lib.indexByte s.data.toList c))/\w'=w:=Any.stringslite_Index_one Tryz.lays219 s c w
def Tryz.lays148_ren:Go.Shelf.Ren:=⟨λ |148=>236|222=>291|223=>292|269=>325|n=>n,λ |9=>9|3=>3|4=>4|5=>5|146=>342|51=>318|46=>236|n=>n,λ |n=>n⟩
theorem Tryz.lays148:Go.Proofs.Lays.n148 Tryz.prog Tryz.lays148_ren:={
  mixed:=by kernel_rfl
  f148:=Tryz.func236.trans (congrArg some (by kernel_rfl))
  f222:=Tryz.func291.trans (congrArg some (by kernel_rfl))
  f223:=Tryz.func292.trans (congrArg some (by kernel_rfl))
  f269:=Tryz.func325.trans (congrArg some (by kernel_rfl))
  t3:=Tryz.underlying3
  a3:=Tryz.isAgg3
  z3:=Tryz.sizeOf3
  v3:=Tryz.zeroValue3
  t4:=Tryz.underlying4
  a4:=Tryz.isAgg4
  z4:=Tryz.sizeOf4
  v4:=Tryz.zeroValue4
  t5:=Tryz.underlying5
  a5:=Tryz.isAgg5
  z5:=Tryz.sizeOf5
  v5:=Tryz.zeroValue5
  t9:=Tryz.underlying9
  a9:=Tryz.isAgg9
  z9:=Tryz.sizeOf9
  v9:=Tryz.zeroValue9
  t46:=Tryz.underlying236
  a46:=Tryz.isAgg236
  z46:=Tryz.sizeOf236
  v46:=Tryz.zeroValue236
  t51:=Tryz.underlying318
  a51:=Tryz.isAgg318
  z51:=Tryz.sizeOf318
  v51:=Tryz.zeroValue318
  t146:=Tryz.underlying342
  a146:=Tryz.isAgg342
  z146:=Tryz.sizeOf342
  v146:=Tryz.zeroValue342}
open Go.RowKit Go.Lib in
theorem Tryz.strings_LastIndex_one(s sub:ByteArray)(h1:sub.size=1)(hs:s.size<4611686018427387904)(w:World) :
    Calls Tryz.prog 236 #[.string s,.string sub] w λe w'=>e=.returned (.int .i64 (Lib.lastIndexByte s ((sub[0]'(by omega)).toNat:Int)))/\w'=w:=Any.strings_LastIndex_one Tryz.lays148 s sub h1 hs w
def Tryz.lays207_ren:Go.Shelf.Ren:=⟨λ |207=>269|n=>n,λ |9=>9|4=>4|3=>3|n=>n,λ |n=>n⟩
def Tryz.lays100_ren:Go.Shelf.Ren:=⟨λ |100=>206|207=>269|n=>n,λ |9=>9|4=>4|3=>3|n=>n,λ |n=>n⟩
theorem Tryz.lays100:Go.Proofs.Lays.n100 Tryz.prog Tryz.lays100_ren:={
  mixed:=by kernel_rfl
  f100:=Tryz.func206.trans (congrArg some (by kernel_rfl))
  f207:=Tryz.func269.trans (congrArg some (by kernel_rfl))
  t3:=Tryz.underlying3
  a3:=Tryz.isAgg3
  z3:=Tryz.sizeOf3
  v3:=Tryz.zeroValue3
  t4:=Tryz.underlying4
  a4:=Tryz.isAgg4
  z4:=Tryz.sizeOf4
  v4:=Tryz.zeroValue4
  t9:=Tryz.underlying9
  a9:=Tryz.isAgg9
  z9:=Tryz.sizeOf9
  v9:=Tryz.zeroValue9}
open Go.RowKit Go.Lib in
theorem Tryz.strings_HasSuffix(s p:ByteArray)(w:World)(hs:s.size<=9223372036854775807) :
    Calls Tryz.prog 206 #[.string s,.string p] w λe w'=>e=.returned (.bool (Lib.hasSuffix s.data.toList p.data.toList))/\w'=w:=Any.strings_HasSuffix Tryz.lays100 s p w hs
end Go.Proofs
namespace Go.Proofs
open Go Go.RowKit Gx
attribute [local irreducible] Go.Calls Gx.S Gx.O Gx.D Gx.OpP Gx.OpQ Gx.OpH
set_option maxRecDepth 20000
theorem Yw:tsl Tryz.prog 185=some (34,1,8):=by kernel_rfl
theorem QoM:tsz Tryz.prog 34=some (1,false):=by kernel_rfl
theorem XF:tsl Tryz.prog 226=some (5,1,1):=by kernel_rfl
theorem QgM:tsz Tryz.prog 5=some (1,false):=by kernel_rfl
instance:TSz Tryz.prog 5 1 false:=⟨QgM⟩
theorem Zf:tsl Tryz.prog 69=some (9,1,16):=by kernel_rfl
theorem X1:tsz Tryz.prog 9=some (1,false):=by kernel_rfl
instance:TSz Tryz.prog 9 1 false:=⟨X1⟩
instance:TFn Tryz.prog 138:=⟨by kernel_rfl⟩
theorem Qce{ss:List (List UInt8)}{k:Nat}(h:k<ss.length):(ss.map Qdq)[k]?=some (.string (bs (ss.getD k []))):=str_get h
theorem Qak{w w':World}(h:w'=w):Below w.heap.size w w':=by subst h;exact Below.refl _ _
theorem ib97(w:World)(l:List UInt8)(c:UInt8):Calls Tryz.prog 268 #[.string (bs l),.int .u8 (c.toNat:Int)] w λen w'=>en=.returned (.int .i64 (Lib.indexByte l c))/\Below w.heap.size w w':=
  (Tryz.strings_IndexByte (bs l) (c.toNat:Int) w).mono λe w' h=>⟨by rw[h.1];simp[bs],Qak h.2⟩
theorem hs91(w:World)(s p:List UInt8)(hl:s.length<=9223372036854775807):Calls Tryz.prog 206 #[.string (bs s),.string (bs p)] w λen w'=>en=.returned (.bool (p.isSuffixOf s))/\Below w.heap.size w w':=
  (Tryz.strings_HasSuffix (bs s) (bs p) w (by simpa[bs,ByteArray.size]using hl)).mono λe w' h=>⟨by rw[h.1];simp[bs,Lib.hasSuffix],Qak h.2⟩
theorem c27(w:World)(n lo hi:Int):CR 27 #[.int .i64 n,.int .i64 lo,.int .i64 hi] w (.bool (decide (lo<=n)&&decide (n<=hi))):=by
 refine eN3 Tryz.func27 Tryz.ntmps27 ?_
 refine Qbf ?_
 refine Xi 4 10 14 rfl
  (λhg1 _=>by
   refine aU6 ?_
   exact oJt 4 14)
  (λhg3 _=>by
   refine aU3 ?_
   exact oJf 4 14) ?_
 refine aU2 ?_
 exact rV
theorem Qj5(w:World)(ok:Bool)(e:Int):CR 138 #[.bool ok,.int .i64 e] w (.int .i64 (cond ok 0 e)):=by
 refine eN2 Tryz.func138 Tryz.ntmps138 ?_
 refine aU9 ?_
 refine sCd rfl (λh1=>?_) λh1=>?_
 ·refine aU4 ?_
  exact rV (h:=by simp_all[QA])
 refine aU6 ?_
 exact rV (h:=by simp_all[QA])
theorem c137(w:World)(a:Option Addr)(cap:Nat)(es:List Int)(hs:Sl w [] a 1 es.length (λi=>[.int .i64 (es.getD i 0)]))(hm:es.length<=1000):CR 137 #[.slice a es.length cap] w (.int .i64 (Xt es)):=by
 refine eN1 Tryz.func137 Tryz.ntmps137 ?_
 refine QbX ?_
 refine Qp (α:=Nat) [2,4,7,8,9,10,11,12,13,14] (λk=>[(7,.int .i64 (k:Int))]) (λ_=>_) (λk=>k<=es.length/\Xt es=Xt (es.drop k)) (λk=>es.length-k) 0 ⟨om,rfl⟩ aSx (λw h=>h) (λk hk=>?_)
 obtain⟨hk1,hk2⟩:=hk
 refine aU5 ?_
 refine sCd rfl (λh1=>?_) λh1=>?_
 ·refine aU5 ?_
  refine o_p (Qa rfl rfl rfl Yw _ rfl om (hs.some om)) rfl (o_q (Qb rfl rfl QoM (hs.rd (i:=k) (j:=0) om rfl)) rfl (aU7 ?_))
  refine sCd rfl (λh2=>?_) λh2=>?_
  ·refine aU5 ?_
   exact rV (h:=by simp only[QA];rw[hk2,YD om,if_neg (by assumption)])
  refine aT4 ?_
  refine aU2 ?_
  exact Qs (k+1) om ⟨om,by rw[hk2,YD om,if_pos (by assumption)]⟩ aSx (λw h=>h)
 refine Qg rfl ?_
 refine aU4 ?_
 exact rV (h:=by simp only[QA];rw[hk2,QbK om])
theorem f137{w0 w:World}{M:List Nat}{As As':List HA}{b cap n:Nat}{t:TypeId}{tot:Nat}{cs:List Value}(h:HS w0 M As w)(hp:QL As (.blk b t tot cs) As')(hc:cs.all Qg8=true)(hn:cs.length=n)(hl:n<=1000) :
    Calls Tryz.prog 137 #[.slice (some ⟨b,0,none⟩) n cap] w λen w'=>en=.returned (.int .i64 (XM cs))/\Below w.heap.size w w':=by
  subst hn;have:=c137 w (some ⟨b,0,none⟩) cap (cs.map Go.RowKit.intOf) (by simpa using h.sl_ints hp hc) (by simpa using hl);rw[QcP hc]at this
  simpa using this
theorem c273(w:World)(a:Option Addr)(cap:Nat)(l:List (UInt8))(q:Nat)(cv:Array Value)(es:List Int)(hs:Vl w a (l.map bv))(hm:l.length<=1000000)(hq:QJ Tryz.prog q=true)(he:es.length=l.length)(hc:∀k w1,k<l.length->HS w [] [] w1->Calls Tryz.prog q (#[]++[.int .u8 ((l.getD k 0).toNat:Int)].toArray++cv) w1 λen w2=>en=.returned (.int .i64 (es.getD k 0))/\Below w1.heap.size w1 w2):CR 273 #[.slice a l.length cap,.func (.func q) #[] cv] w (.tuple #[.int .i64 (QD es 0).1,.int .i64 (QD es 0).2]):=by
 refine eN2 Tryz.func273 Tryz.ntmps273 ?_
 refine Qas ?_
 refine Qp (α:=Nat) [4,5,6,7,8,11,12,13,14,15,16,17,18,19,20,21,22,23] (λk=>[(11,.int .i64 (k:Int))]) (λ_=>HS w [] []) (λk=>k<=l.length/\QD es 0=QD (es.drop k) k) (λk=>l.length-k) 0 ⟨om,rfl⟩ aSx (λw h=>h.ent aEt) (λk hk=>?_)
 obtain⟨hk1,hk2⟩:=hk
 refine aU5 ?_
 refine sCd rfl (λh1=>?_) λh1=>?_
 ·refine aU6 ?_
  refine o_p (Qa rfl rfl rfl XF (k) om om (hs.some (by rw[List.length_map];omega))) rfl (o_q (Qb rfl rfl QgM ((hs.rd (Qcs (k:=k) om)))) rfl (aU7 ?_))
  refine o_q (YF rfl rfl hq rfl (λw1 h1=>hc k w1 om (h1.ent aEt))) rfl (aU7 ?_)
  refine sCd rfl (λh2=>?_) λh2=>?_
  ·refine aU7 ?_
   exact Qm (rs:=[.tmp 4,.tmp 5]) rfl (.tmp rfl (.tmp rfl (.nil))) (λw' h'=>⟨by simp only[QA];rw[hk2,X2 om,if_neg (by assumption)],h'.below⟩)
  refine aT4 ?_
  refine aU2 ?_
  exact sBk (k+1) om ⟨om,by rw[hk2,X2 om,if_pos (by assumption)]⟩
 refine Qg rfl ?_
 refine aU5 ?_
 exact Qm (rs:=[.tmp 4,.tmp 5]) rfl (.tmp rfl (.tmp rfl (.nil))) (λw' h'=>⟨by simp only[QA];rw[hk2,Zo om],h'.below⟩)
theorem c233(w:World)(a:Option Addr)(cap:Nat)(l:List (List UInt8))(q:Nat)(cv:Array Value)(es:List Int)(hs:Vl w a (l.map Qdq))(hm:l.length<=1000000)(hq:QJ Tryz.prog q=true)(he:es.length=l.length)(hc:∀k w1,k<l.length->HS w [] [] w1->Calls Tryz.prog q (#[]++[.string (bs (l.getD k []))].toArray++cv) w1 λen w2=>en=.returned (.int .i64 (es.getD k 0))/\Below w1.heap.size w1 w2):CR 233 #[.slice a l.length cap,.func (.func q) #[] cv] w (.tuple #[.int .i64 (QD es 0).1,.int .i64 (QD es 0).2]):=by
 refine eN2 Tryz.func233 Tryz.ntmps233 ?_
 refine Qas ?_
 refine Qp (α:=Nat) [4,5,6,7,8,11,12,13,14,15,16,17,18,19,20,21,22,23] (λk=>[(11,.int .i64 (k:Int))]) (λ_=>HS w [] []) (λk=>k<=l.length/\QD es 0=QD (es.drop k) k) (λk=>l.length-k) 0 ⟨om,rfl⟩ aSx (λw h=>h.ent aEt) (λk hk=>?_)
 obtain⟨hk1,hk2⟩:=hk
 refine aU5 ?_
 refine sCd rfl (λh1=>?_) λh1=>?_
 ·refine aU6 ?_
  refine o_p (Qa rfl rfl rfl Zf (k) om om (hs.some (by rw[List.length_map];omega))) rfl (o_q (Qb rfl rfl X1 ((hs.rd (Qce (k:=k) om)))) rfl (aU7 ?_))
  refine o_q (YF rfl rfl hq rfl (λw1 h1=>hc k w1 om (h1.ent aEt))) rfl (aU7 ?_)
  refine sCd rfl (λh2=>?_) λh2=>?_
  ·refine aU7 ?_
   exact Qm (rs:=[.tmp 4,.tmp 5]) rfl (.tmp rfl (.tmp rfl (.nil))) (λw' h'=>⟨by simp only[QA];rw[hk2,X2 om,if_neg (by assumption)],h'.below⟩)
  refine aT4 ?_
  refine aU2 ?_
  exact sBk (k+1) om ⟨om,by rw[hk2,X2 om,if_pos (by assumption)]⟩
 refine Qg rfl ?_
 refine aU5 ?_
 exact Qm (rs:=[.tmp 4,.tmp 5]) rfl (.tmp rfl (.tmp rfl (.nil))) (λw' h'=>⟨by simp only[QA];rw[hk2,Zo om],h'.below⟩)
theorem c274(w:World)(c:UInt8):CR 274 #[.int .u8 (c.toNat:Int)] w (.int .i64 (QiH c)):=by
 have hlt:=c.toNat_lt
 refine eN1 Tryz.func274 Tryz.ntmps274 ?_
 refine aU8 ?_
 refine oCq rfl (λw1 h1=>Qj5 w1 _ _) (aU2 ?_)
 exact rV (h:=by simp only[QA,QiH,cond_eq_ite,decide_eq_true_eq];congr 2;(try simp)<;>omega)
theorem c275(w:World)(b:Nat)(t:List UInt8)(c:UInt8)(hr:Rd w [] b 0 (.string (bs t)))(hc:c.toNat<t.length):CR 275 #[.int .u8 (c.toNat:Int),.pointer (some ⟨b,0,none⟩)] w (.int .i64 (QqL t c)):=by
 have e9:((t.getD c.toNat 0).toNat:Int)=(c.toNat:Int) ↔ t.getD c.toNat 0=c:=⟨λh=>UInt8.toNat_inj.1 om,λh=>by rw[h]⟩
 refine eN2 Tryz.func275 Tryz.ntmps275 ?_
 refine aU6 ?_
 refine o_q (Qb rfl rfl X1 (hr)) rfl (aU ?_)
 refine o_p (Qr rfl rfl rfl Tryz.underlying9 (c.toNat) om om) rfl ?_
 refine aU2 ?_
 refine oCq rfl (λw1 h1=>Qj5 w1 _ _) (aU2 ?_)
 exact rV (h:=by simp only[QA,QqL,cond_eq_ite,decide_eq_true_eq,e9])
theorem QhW:QM Tryz.prog 5=some [.int .u8 0]:=by kernel_rfl
theorem QdB:tki Tryz.prog 3=some .i64:=by kernel_rfl
theorem Qer:tki Tryz.prog 5=some .u8:=by kernel_rfl
instance:TFn Tryz.prog 268:=⟨by kernel_rfl⟩
theorem Qva:tsz Tryz.prog 135=some (1,false):=by kernel_rfl
instance:TFn Tryz.prog 306:=⟨by kernel_rfl⟩
instance:TFn Tryz.prog 266:=⟨by kernel_rfl⟩
theorem Qmo{L:List UInt8}{k:Nat}{x:UInt8}{v:Value}(h:k<L.length)(hv:v=bv x):Qf (L.map bv) (k*1) [v]=(L.set k x).map bv:=by
  subst hv;have h9:=Z7 (vals:=byV) (sz:=1) (λ_=>rfl) L k 0 [bv x] (L.getD k 0) x (by rw[List.getElem?_eq_getElem h,List.getD_eq_getElem?_getD,List.getElem?_eq_getElem h];rfl) rfl (by simp);rw[Nat.add_zero]at h9;have e:∀M:List UInt8,M.flatMap byV=M.map bv:=λM=>Qei bv M;rw[e,e]at h9;exact h9
def Qew(t s:List UInt8)(k:Nat):List UInt8:=(up t s).take k++s.drop k
theorem QfN{t s:List UInt8}{k:Nat}(h:k<=s.length):(Qew t s k).length=s.length:=by simp[Qew,ZL];omega
theorem Qpq{t s:List UInt8}{k:Nat}(h:k<s.length):(Qew t s k).getD k 0=s.getD k 0:=by
  unfold Qew;rw[List.getD_eq_getElem?_getD,List.getElem?_append_right (by simp[ZL];omega),List.getElem?_drop,List.getD_eq_getElem?_getD];congr 2;simp[ZL];omega
theorem Qqi{t s:List UInt8}{k:Nat}(h:k<s.length):(Qew t s k).set k (t.getD (s.getD k 0).toNat 0)=Qew t s (k+1):=by
  unfold Qew up;apply List.ext_getElem?;intro j;simp only[List.getElem?_set,List.getElem?_append,List.getElem?_take,List.getElem?_drop,List.length_append,List.length_take,List.length_map,List.length_drop,List.getElem?_map,List.getD_eq_getElem?_getD];have hk:=List.getElem?_eq_getElem h
  grind
theorem Qtg(t s:List UInt8):Qew t s 0=s:=by simp[Qew]
theorem Qqg(t s:List UInt8):Qew t s s.length=up t s:=by simp[Qew,<-ZL t s]
def Qdg(k:Nat):List UInt8:=QaN.take k++List.replicate (128-k) 0
theorem YA:QaN.length=128:=by simp[QaN]
theorem QdN{k:Nat}(h:k<=128):(Qdg k).length=128:=by simp[Qdg,YA];omega
theorem Qd2{k:Nat}(h:k<128):(Qdg k).set k (Qck k)=Qdg (k+1):=by
  unfold Qdg;have hk:QaN[k]?=some (Qck k):=by unfold QaN;rw[List.getElem?_map,List.getElem?_range h];rfl
  have hl:=YA;apply List.ext_getElem?;intro j;simp only[List.getElem?_set,List.getElem?_append,List.getElem?_take,List.length_append,List.length_take,List.getElem?_replicate,List.length_replicate]
  grind
theorem Qq7(s:List UInt8)(p:UInt8->Bool):(!((s.map λc=>!p c).any id))=s.all p:=by
  induction s with
  | nil=>rfl
  | cons a s ih=>simp only[List.map_cons,List.any_cons,List.all_cons,id_eq,Bool.not_or,Bool.not_not,ih]
theorem QoW(w:World)(t s:List UInt8)(hl:t.length=128)(hc:∀c∈s,c.toNat<128)(hm:s.length<=1000000):CR 172 #[.string (bs t),.string (bs s)] w (.string (bs (up t s))):=by
 refine eN2 Tryz.func172 Tryz.ntmps172 ?_
 refine aU7 ?_
 refine o_h (Z0 rfl rfl Tryz.underlying9 Tryz.underlying226 Tryz.underlying5 rfl (by simp only[maxLen];omega)) rfl (λ⟨b1,c2⟩⟨h3,k4⟩=>Qbf ?_)
 refine Qp (α:=Nat) [6,7,12,13,14,15,16,17,18,19,20,21,22,23] (λk=>[(12,.int .i64 (k:Int))]) (λk=>HS w [] [.blk b1 5 c2 ((Qew t s k).map bv)]) (λk=>k<=s.length) (λk=>s.length-k) 0 (Nat.zero_le _) aSx (λw h=>by rw[Qtg];exact h.ent aEt) (λk hk1=>?_)
 refine aU5 ?_
 refine sCd rfl (λh5=>?_) λh5=>?_
 ·have hk:k<s.length:=by omega
  have hck:=hc (s.getD k 0) (XL hk)
  refine aU6 ?_
  refine o_p (Qa rfl rfl rfl XF (k) om om rfl) rfl (o_q (QN rfl rfl QgM (λw h=>by rw[Nat.zero_add];exact h.rd_blk (Mc:=[]) aPk (by rw[Nat.mul_one,Qcs (by rw[QfN hk1];exact hk),Qpq hk]) (by simp))) rfl (aU8 ?_))
  refine o_p (Qr rfl rfl rfl Tryz.underlying223 ((s.getD k 0).toNat) om om) rfl ?_
  refine o_p (Qa rfl rfl rfl XF (k) om om rfl) rfl (Qu (show _=Value.pointer (some ⟨b1,k*1,none⟩)from by rw[Nat.zero_add]) (QcX (Xr rfl rfl rfl QgM rfl aPt (by rw[List.length_map,QfN hk1];omega) rfl) (λ_ _=>aT4 ?_)))
  refine aU2 ?_
  exact Qs (k+1) om om aSx (λw h=>by have h2:=HS.blk_to (b:=b1) h aPk (Qmo (L:=Qew t s k) (x:=t.getD (s.getD k 0).toNat 0) (by rw[QfN hk1];exact hk) rfl);rw[Qqi hk]at h2;exact h2.ent aEt)
 obtain rfl:k=s.length:=om
 rw[Qqg]
 refine Qg rfl ?_
 refine aU3 ?_
 refine o_q (Y6 rfl rfl Tryz.underlying226 Tryz.underlying9 Tryz.underlying5 aPk (by simp[ZL]) (QcL _)) rfl (aU2 ?_)
 exact rV (h:=by simp only[Qa4];rfl)
theorem c82(w:World):CR 82 #[] w (.string (bs QaN)):=by
 refine eN0 Tryz.func82 Tryz.ntmps82 ?_
 refine aU6 ?_
 refine o_h (Qbu (n:=128) rfl rfl rfl XF QhW om om) rfl (λb1 _=>Qbf ?_)
 refine Qp (α:=Nat) [2,6,7,8,9,10,11,12,13,14,15,16,17,18,19,20,21,22,23,24,25,26,27] (λk=>[(6,.int .i64 (k:Int))]) (λk=>HS w [] [.blk b1 5 (128*1) ((Qdg k).map bv)]) (λk=>k<=128) (λk=>128-k) 0 (Nat.zero_le _) aSx (λw h=>h.ent aEt) (λk hk1=>?_)
 refine aU5 ?_
 refine sCd rfl (λh2=>?_) λh2=>?_
 ·have hk:k<128:=by omega
  have hkm:k<(Qdg k).length:=by rw[QdN hk1];exact hk
  refine Qas ?_
  refine o_p (Q6 rfl rfl QdB Qer) rfl ?_
  refine Qu (show _=bv (UInt8.ofNat k)from by unfold bv;congr 1<;>(rw[UInt8.toNat_ofNat',QcT k om];omega)) (o_p (Qa rfl rfl rfl XF (k) om om rfl) rfl (Qu (show _=Value.pointer (some ⟨b1,k*1,none⟩)from by rw[Nat.zero_add]) (aU7 ?_)))
  refine Xi 3 16 19 rfl
   (λhg3 _=>by
    refine aU4 ?_
    exact oJt 3 19)
   (λhg5 _=>by
    refine aU2 ?_
    exact oJf 3 19) ?_
  refine aU ?_
  refine sCd rfl (λh7=>?_) λh7=>?_
  ·have hsk:Qck k=UInt8.ofNat (k-32):=by unfold Qck;rw[if_pos om]
   refine aT5 ?_
   refine aT ?_
   refine o_p (Q6 rfl rfl QdB Qer) rfl (Qu (show _=bv (Qck k)from by rw[hsk];unfold bv;congr 1;rw[UInt8.toNat_ofNat',show((k:Int)-97+65)=((k-32:Nat):Int)from om,QcT _ om];omega) (o_p (Qa rfl rfl rfl XF (k) om om rfl) rfl (Qu (show _=Value.pointer (some ⟨b1,k*1,none⟩)from by rw[Nat.zero_add]) (aT5 ?_))))
   refine aU2 ?_
   exact Qs (k+1) om om aSx (λw h=>by have h1:=HS.blk_to (b:=b1) h aPk (show Qf (Qf ((Qdg k).map bv) (k*1) [bv (UInt8.ofNat k)]) (k*1) [bv (Qck k)]=((Qdg k).set k (Qck k)).map bv from by rw[Qmo hkm rfl,Qmo (by rw[List.length_set];exact hkm) rfl,List.set_set]);rw[Qd2 hk]at h1;exact h1.ent aEt)
  have hsk:Qck k=UInt8.ofNat k:=by unfold Qck;rw[if_neg om]
  refine aT4 ?_
  refine aU2 ?_
  exact Qs (k+1) om om aSx (λw h=>by have h1:=HS.blk_to (b:=b1) h aPk (Qmo (x:=UInt8.ofNat k) hkm rfl);rw[<-hsk,Qd2 hk]at h1;exact h1.ent aEt)
 obtain rfl:k=128:=om
 refine Qg rfl ?_
 refine aU3 ?_
 refine o_q (Y6 rfl rfl Tryz.underlying226 Tryz.underlying9 Tryz.underlying5 aPk (by simp[QdN]) (QcL _)) rfl (aU2 ?_)
 exact rV (h:=by simp only[Qa4];simp[Qdg,YA,List.take_of_length_le];rfl)
theorem c205(w:World)(c:UInt8):CR 205 #[.int .u8 (c.toNat:Int)] w (.bool (Yv c)):=by
 have e1:((32:Int)<=(c.toNat:Int)) ↔ 32<=c.toNat:=om
 have e2:((c.toNat:Int)<=126) ↔ c.toNat<=126:=om
 have e3:decide (Lib.indexByte XN c<0)= !(XN.contains c):=by by_cases h:c∈XN;(rw[decide_eq_false (λh9=>ZI.1 h9 h)];simp[h]);(rw[decide_eq_true (ZI.2 h)];simp[h])
 refine eN1 Tryz.func205 Tryz.ntmps205 ?_
 refine aU9 ?_
 refine Xi 3 5 8 rfl
  (λhg1 _=>by
   refine aU4 ?_
   exact oJt 3 8)
  (λhg3 _=>by
   refine aU2 ?_
   exact oJf 3 8) ?_
 refine aU ?_
 refine Xi 4 9 13 rfl
  (λhg5 _=>by
   refine aU3 ?_
   refine oCq rfl (λw1 h1=>ib97 w1 XN c) (aU2 ?_)
   exact oJt 4 13)
  (λhg7 _=>by
   refine aU3 ?_
   exact oJf 4 13) ?_
 refine aU2 ?_
 exact rV (h:=by simp only[QA,Yv,e1,e2,e3])
theorem c267(w:World)(b q:Nat)(cv:Array Value)(c:UInt8)(r:Bool)(hr:Rd w [] b 0 (.func (.func q) #[] cv))(hq:QJ Tryz.prog q=true)(hc:∀w1,HS w [] [] w1->Calls Tryz.prog q (#[]++[.int .u8 (c.toNat:Int)].toArray++cv) w1 λen w2=>en=.returned (.bool r)/\Below w1.heap.size w1 w2):CR 267 #[.int .u8 (c.toNat:Int),.pointer (some ⟨b,0,none⟩)] w (.bool (!r)):=by
 refine eN2 Tryz.func267 Tryz.ntmps267 ?_
 refine aU6 ?_
 refine o_q (Qb rfl rfl Qva (hr)) rfl (aU ?_)
 refine o_q (YF rfl rfl hq rfl (λw1 h1=>hc w1 (h1.ent aEt))) rfl (aU3 ?_)
 exact rV
theorem c306(w:World)(a:Option Addr)(cap:Nat)(l:List UInt8)(q:Nat)(cv:Array Value)(bt:List Bool)(hs:Vl w a (l.map bv))(hm:l.length<=1000000)(hq:QJ Tryz.prog q=true)(hb:bt.length=l.length)(hc:∀k w1,k<l.length->HS w [] [] w1->Calls Tryz.prog q (#[]++[.int .u8 ((l.getD k 0).toNat:Int)].toArray++cv) w1 λen w2=>en=.returned (.bool (bt.getD k false))/\Below w1.heap.size w1 w2):CR 306 #[.slice a l.length cap,.func (.func q) #[] cv] w (.int .i64 (ixI bt)):=by
 refine eN2 Tryz.func306 Tryz.ntmps306 ?_
 refine QbX ?_
 refine Qp (α:=Nat) [4,5,8,9,10,11,12,13,14,15,16,17,18] (λk=>[(8,.int .i64 (k:Int))]) (λ_=>_) (λk=>k<=l.length/\∀i,i<k->bt.getD i false=false) (λk=>l.length-k) 0 ⟨om,λi h=>absurd h (Nat.not_lt_zero i)⟩ aSx (λw h=>h) (λk hk=>?_)
 obtain⟨hk1,hk2⟩:=hk
 refine aU5 ?_
 refine sCd rfl (λh1=>?_) λh1=>?_
 ·refine Qas ?_
  refine o_p (Qa rfl rfl rfl XF (k) om om (hs.some (by rw[List.length_map];omega))) rfl (o_q (Qb rfl rfl QgM ((hs.rd (Qcs (k:=k) om)))) rfl (o_q (YF rfl rfl hq rfl (λw1 h1=>hc k w1 om (h1.ent aEt))) rfl (aU ?_)))
  refine sCd rfl (λh2=>?_) λh2=>?_
  ·refine aU5 ?_
   exact rV (h:=by have e:=Qdw (l:=bt) (k:=k) om hk2 (λ_=>by assumption);simp only[QA,ixI,e];rw[if_pos om])
  refine aT4 ?_
  refine aU2 ?_
  exact Qs (k+1) om ⟨om,λi hi=>(Nat.lt_or_ge i k).elim (hk2 i) (λh=>by obtain rfl:i=k:=om;assumption)⟩ aSx (λw h=>h)
 refine Qg rfl ?_
 refine aU4 ?_
 exact rV (h:=by have e:=Qdw (l:=bt) (k:=k) om hk2 (λh=>om);simp only[QA,ixI,e];rw[if_neg om])
theorem c266(w:World)(a:Option Addr)(cap:Nat)(l:List UInt8)(q:Nat)(cv:Array Value)(bt:List Bool)(hs:Vl w a (l.map bv))(hm:l.length<=1000000)(hq:QJ Tryz.prog q=true)(hb:bt.length=l.length)(hc:∀k w1,k<l.length->HS w [] [] w1->Calls Tryz.prog q (#[]++[.int .u8 ((l.getD k 0).toNat:Int)].toArray++cv) w1 λen w2=>en=.returned (.bool (bt.getD k false))/\Below w1.heap.size w1 w2):CR 266 #[.slice a l.length cap,.func (.func q) #[] cv] w (.bool (bt.any id)):=by
 refine eN2 Tryz.func266 Tryz.ntmps266 ?_
 refine aU8 ?_
 refine oCq rfl (λw1 h1=>c306 w1 a cap l q cv bt (hs.later h1) hm hq hb (λk w2 hk h2=>hc k w2 hk (by simpa using h1.call h2))) (aU3 ?_)
 exact rV (h:=by simp only[QA];rw[<-QlE])
theorem QuZ(w:World)(s:List UInt8)(q:Nat)(cv:Array Value)(p:UInt8->Bool)(hm:s.length<=1000000)(hq:QJ Tryz.prog q=true)(hc:∀k w1,k<s.length->HS w [] [] w1->Calls Tryz.prog q (#[]++[.int .u8 ((s.getD k 0).toNat:Int)].toArray++cv) w1 λen w2=>en=.returned (.bool (p (s.getD k 0)))/\Below w1.heap.size w1 w2):CR 204 #[.string (bs s),.func (.func q) #[] cv] w (.bool (s.all p)):=by
 refine eN2 Tryz.func204 Tryz.ntmps204 ?_
 refine aU2 ?_
 refine oBx λb1 _=>?_
 refine aU5 ?_
 refine o_h (Z0 rfl rfl Tryz.underlying9 Tryz.underlying226 Tryz.underlying5 rfl (by simp only[maxLen];omega)) rfl (λ⟨b2,c3⟩⟨h4,k5⟩=>aU ?_)
 refine oCq rfl (λw1 h1=>c266 w1 _ _ s 267 #[.pointer (some ⟨b1,0,none⟩)] (s.map λc=>!p c) (h1.vl_blk aPk) hm (by kernel_rfl) (by simp) (λk w2 hk h2=>by rw[Yd (d:=0) hk];exact c267 w2 b1 q cv _ _ ((h1.rd_blk (Mc:=[]) (b:=b1) aPk rfl (by simp)).next h2) hq (λw3 h3=>hc k w3 hk ((h1.call h2).call h3).nil))) (aU3 ?_)
 exact rV (h:=by simp only[QA];rw[Qq7])
instance:TFn Tryz.prog 204:=⟨by kernel_rfl⟩
instance:TFn Tryz.prog 206:=⟨by kernel_rfl⟩
instance:TFn Tryz.prog 139:=⟨by kernel_rfl⟩
theorem QaC:QM Tryz.prog 34=some [.int .i64 0]:=by kernel_rfl
instance:TFn Tryz.prog 137:=⟨by kernel_rfl⟩
instance:TFn Tryz.prog 205:=⟨by kernel_rfl⟩
instance:TFn Tryz.prog 273:=⟨by kernel_rfl⟩
instance:TFn Tryz.prog 217:=⟨by kernel_rfl⟩
instance:TFn Tryz.prog 233:=⟨by kernel_rfl⟩
instance:TFn Tryz.prog 146:=⟨by kernel_rfl⟩
theorem QdI{a b:Int}:XM [.int .i64 a,.int .i64 b]=if a=0 then b else a:=by
  simp only[XM]
  grind
theorem Qrk{a b c:Int}:XM [.int .i64 a,.int .i64 b,.int .i64 c]=if a=0 then if b=0 then c else b else a:=by
  simp only[XM]
  grind
def openE(t:List UInt8)(l:List (List UInt8)):Int:=if(YO t).2=0 then Xt (l.map QT)else(YO t).2
theorem Qq5{s:List UInt8}:XM [.int .i64 (bif decide (s.length<=32)then 0 else 8),.int .i64 (bif ZS s then 0 else 4)]=QT s:=by
  rw[QdI];unfold QT
  by_cases h:s.length<=32
  · simp[h,cond_eq_ite]
  · simp[h]
theorem c139(w:World)(s:List UInt8)(hm:s.length<=1000000):CR 139 #[.string (bs s)] w (.bool (ZS s)):=by
 have e1:((s.length:Int)<=32) ↔ s.length<=32:=om
 refine eN1 Tryz.func139 Tryz.ntmps139 ?_
 refine aU9 ?_
 refine Xi 4 5 9 rfl
  (λhg1 _=>by
   refine aU3 ?_
   refine o_p (Qn rfl rfl Tryz.underlying9) rfl (aU2 ?_)
   exact oJt 4 9)
  (λhg3 _=>by
   refine aU3 ?_
   exact oJf 4 9) ?_
 refine aU ?_
 refine Xi 3 10 13 rfl
  (λhg5 _=>by
   refine aU3 ?_
   refine oCq rfl (λw1 h1=>QuZ w1 s 205 #[] Yv hm (by kernel_rfl) (λk w2 hk h2=>c205 w2 _)) ?_
   exact oJt 3 13)
  (λhg7 _=>by
   refine aU2 ?_
   exact oJf 3 13) ?_
 refine aU ?_
 refine Xi 3 14 17 rfl
  (λhg9 _=>by
   refine aU4 ?_
   exact oJt 3 17)
  (λhg11 _=>by
   refine aU2 ?_
   exact oJf 3 17) ?_
 refine aU ?_
 refine Xi 4 18 22 rfl
  (λhg13 _=>by
   refine aU3 ?_
   refine oCq rfl (λw1 h1=>hs91 w1 s [32] om) (aU2 ?_)
   exact oJt 4 22)
  (λhg15 _=>by
   refine aU3 ?_
   exact oJf 4 22) ?_
 refine aU ?_
 refine Xi 4 23 27 rfl
  (λhg17 _=>by
   refine aU3 ?_
   refine oCq rfl (λw1 h1=>hs91 w1 s [46] om) (aU2 ?_)
   exact oJt 4 27)
  (λhg19 _=>by
   refine aU3 ?_
   exact oJf 4 27) ?_
 refine aU2 ?_
 exact rV (h:=by simp only[QA,ZS,e1])
theorem c75(w:World)(s:List UInt8)(hm:s.length<=1000000):CR 75 #[.string (bs s)] w (.int .i64 (QT s)):=by
 have e1:((s.length:Int)<=32) ↔ s.length<=32:=om
 refine eN1 Tryz.func75 Tryz.ntmps75 ?_
 refine aU7 ?_
 refine o_p (Qn rfl rfl Tryz.underlying9) rfl (aU ?_)
 refine oCq rfl (λw1 h1=>Qj5 w1 _ _) (aU ?_)
 refine oCq rfl (λw1 h1=>c139 w1 s hm) (oCq rfl (λw1 h1=>Qj5 w1 _ _) (o_h (Ql (cs:=[_,_]) rfl rfl Yw QaC rfl rfl rfl) rfl (λb1 _=>oCq rfl (λw1 h1=>f137 h1 aPk (by rfl) (by rfl) (by decide)) (aU2 ?_))))
 exact rV (h:=by rw[<-Qq5];simp only[QA,e1])
theorem c218(w:World)(c:UInt8):CR 218 #[.int .u8 (c.toNat:Int)] w (.bool (Qeu c)):=by
 have e1:((c.toNat:Int)=63) ↔ c=63:=⟨λh=>UInt8.toNat_inj.1 (by show c.toNat=63;omega),λh=>by rw[h];rfl⟩
 have e2:((c.toNat:Int)=42) ↔ c=42:=⟨λh=>UInt8.toNat_inj.1 (by show c.toNat=42;omega),λh=>by rw[h];rfl⟩
 refine eN1 Tryz.func218 Tryz.ntmps218 ?_
 refine aU9 ?_
 refine oOr 3 5 8 rfl
  (λhg1 _=>by
   refine aU4 ?_
   exact oJf 3 8)
  (λhg3 _=>by
   refine aU2 ?_
   exact oJt 3 8) ?_
 refine aU ?_
 refine oOr 3 9 12 rfl
  (λhg5 _=>by
   refine aU3 ?_
   refine oCq rfl (λw1 h1=>c205 w1 c) ?_
   exact oJf 3 12)
  (λhg7 _=>by
   refine aU2 ?_
   exact oJt 3 12) ?_
 refine aU2 ?_
 exact rV (h:=by simp only[QA,Qeu,e1,e2])
theorem c147(w:World)(s:List UInt8)(hm:s.length<=1000000):CR 147 #[.string (bs s)] w (.int .i64 (ZO s)):=by
 have e1:((s.length:Int)<=64) ↔ s.length<=64:=om
 refine eN1 Tryz.func147 Tryz.ntmps147 ?_
 refine aU7 ?_
 refine oCq rfl (λw1 h1=>QuZ w1 s 218 #[] Qeu hm (by kernel_rfl) (λk w2 hk h2=>c218 w2 _)) (aU5 ?_)
 refine o_p (Qn rfl rfl Tryz.underlying9) rfl (aU ?_)
 refine oCq rfl (λw1 h1=>Qj5 w1 _ _) (aU3 ?_)
 refine Xi 2 12 14 rfl
  (λhg1 _=>by
   refine aU2 ?_
   exact oJt 2 14)
  (λhg3 _=>by
   refine aU ?_
   exact oJf 2 14) ?_
 refine oCq rfl (λw1 h1=>Qj5 w1 _ _) (o_h (Ql (cs:=[_,_]) rfl rfl Yw QaC rfl rfl rfl) rfl (λb5 _=>oCq rfl (λw1 h1=>f137 h1 aPk (by rfl) (by rfl) (by decide)) (aU2 ?_)))
 exact rV (h:=by simp only[QA,e1];rw[QdI];unfold ZO;by_cases h:s.length<=64<;>simp[h,cond_eq_ite])
theorem c217(w:World)(t:List UInt8)(hm:t.length<=1000000):CR 217 #[.string (bs t)] w (.tuple #[.int .i64 (YO t).1,.int .i64 (YO t).2]):=by
 refine eN1 Tryz.func217 Tryz.ntmps217 ?_
 refine aU2 ?_
 refine oBx λb1 _=>?_
 refine aU7 ?_
 refine o_p (Qn rfl rfl Tryz.underlying9) rfl (aU2 ?_)
 refine sCd rfl (λh2=>?_) λh2=>?_
 ·have hl:¬t.length=128:=by have hq:=h2;omega
  refine aU5 ?_
  exact Qm (rs:=[.tmp 2,.tmp 3]) rfl (.tmp rfl (.tmp rfl (.nil))) (λw' h'=>⟨by rw[YO,if_neg hl];rfl,h'.below⟩)
 have hl:t.length=128:=by have hq:=h2;omega
 refine aU5 ?_
 refine o_h (Z0 rfl rfl Tryz.underlying9 Tryz.underlying226 Tryz.underlying5 rfl (by simp only[maxLen];omega)) rfl (λ⟨b3,c4⟩⟨h5,k6⟩=>oCq rfl (λw1 h1=>c273 w1 _ _ t 274 #[] (t.map QiH) (h1.vl_blk aPk) hm (by kernel_rfl) (by simp) (λk w2 hk h2=>by rw[Yd (d:=0) hk];exact c274 w2 _)) (Qab ?_))
 refine sCd rfl (λh7=>?_) λh7=>?_
 ·have h0:¬(QD (t.map QiH) 0).2=0:=h7
  refine aU7 ?_
  exact Qm (rs:=[.tmp 2,.tmp 3]) rfl (.tmp rfl (.tmp rfl (.nil))) (λw' h'=>⟨by rw[YO,if_pos hl,if_neg h0];rfl,h'.below⟩)
 have h0:(QD (t.map QiH) 0).2=0:=h7
 refine aU4 ?_
 refine o_h (Z0 rfl rfl Tryz.underlying9 Tryz.underlying226 Tryz.underlying5 rfl (by simp only[maxLen];omega)) rfl (λ⟨b8,c9⟩⟨h10,k11⟩=>aU ?_)
 refine oCq rfl (λw1 h1=>c273 w1 _ _ t 275 #[.pointer (some ⟨b1,0,none⟩)] (t.map (QqL t)) (h1.vl_blk aPk) hm (by kernel_rfl) (by simp) (λk w2 hk h2=>by rw[Yd (d:=0) hk];exact c275 w2 b1 t _ ((h1.rd_blk (Mc:=[]) (b:=b1) aPk rfl (by simp)).next h2) (by have h9:=ZZ.1 h0 _ (List.mem_map.2 ⟨_,XL (d:=0) hk,rfl⟩);unfold QiH at h9;split at h9;(rw[hl];assumption);(exact absurd h9 (by decide))))) (aU5 ?_)
 exact Qm (rs:=[.tmp 2,.tmp 3]) rfl (.tmp rfl (.tmp rfl (.nil))) (λw' h'=>⟨by rw[YO,if_pos hl,if_pos h0];rfl,h'.below⟩)
theorem c146(w:World)(t:List UInt8)(hm:t.length<=1000000):CR 146 #[.string (bs t)] w (.tuple #[.string (bs t),.int .i64 (YO t).2]):=by
 refine eN1 Tryz.func146 Tryz.ntmps146 ?_
 refine aU8 ?_
 refine oCq rfl (λw1 h1=>c217 w1 t hm) (Qas ?_)
 exact Qm (rs:=[.tmp 2,.tmp 3]) rfl (.tmp rfl (.tmp rfl (.nil))) (λw' h'=>⟨rfl,h'.below⟩)
theorem c173(w:World)(a:Option Addr)(cap:Nat)(l:List (List UInt8))(hs:Vl w a (l.map Qdq))(hl:l.length<=1000000)(hml:∀s∈l,s.length<=1000000):CR 173 #[.slice a l.length cap] w (.int .i64 (QaI l)):=by
 have e1:((l.length:Int)<=200) ↔ l.length<=200:=om
 refine eN1 Tryz.func173 Tryz.ntmps173 ?_
 refine aU7 ?_
 refine oCq rfl (λw1 h1=>c233 w1 a cap l 75 #[] (l.map QT) (hs.later h1) om (by kernel_rfl) (by simp) (λk w2 hk h2=>by rw[Yd (d:=[]) hk];exact c75 w2 _ (hml _ (XL hk)))) (Qab ?_)
 refine oCq rfl (λw1 h1=>Qj5 w1 _ _) (aU ?_)
 refine o_h (Ql (cs:=[_,_]) rfl rfl Yw QaC rfl rfl rfl) rfl (λb1 _=>oCq rfl (λw1 h1=>f137 h1 aPk (by rfl) (by rfl) (by decide)) (aU2 ?_))
 exact rV (h:=by simp only[QA,e1];rw[QdI,Qay];unfold QaI;by_cases h:l.length<=200<;>simp[h])
theorem c170(w:World)(t:List UInt8)(a:Option Addr)(cap:Nat)(l:List (List UInt8))(hm:t.length<=1000000)(hs:Vl w a (l.map Qdq))(hl:l.length<=1000000)(hml:∀s∈l,s.length<=1000000):CR 170 #[.string (bs t),.slice a l.length cap] w (.tuple #[.string (bs t),.int .i64 (openE t l)]):=by
 refine eN2 Tryz.func170 Tryz.ntmps170 ?_
 refine aU8 ?_
 refine oCq rfl (λw1 h1=>c146 w1 t hm) (aU9 ?_)
 refine oCq rfl (λw1 h1=>c233 w1 a cap l 75 #[] (l.map QT) (hs.later h1) om (by kernel_rfl) (by simp) (λk w2 hk h2=>by rw[Yd (d:=[]) hk];exact c75 w2 _ (hml _ (XL hk)))) (Qab ?_)
 refine o_h (Ql (cs:=[_,_]) rfl rfl Yw QaC rfl rfl rfl) rfl (λb1 _=>oCq rfl (λw1 h1=>f137 h1 aPk (by rfl) (by rfl) (by decide)) (aU3 ?_))
 exact Qm (rs:=[.tmp 4,.tmp 5]) rfl (.tmp rfl (.tmp rfl (.nil))) (λw' h'=>⟨by simp only[QA];rw[QdI,Qay];rfl,h'.below⟩)
theorem Qjn{t:List UInt8}{l:List (List UInt8)}(h:openE t l=0):(YO t).2=0/\∀s∈l,QT s=0:=by
  unfold openE at h;split at h
  · rename_i h1;exact⟨h1,λs hs=>Qj3.1 h _ (List.mem_map.2 ⟨s,hs,rfl⟩)⟩
  · rename_i h1;exact absurd h h1
end Go.Proofs
namespace Go.Proofs
open Go Go.RowKit Gx
theorem Qel{L:List Bool}{k:Nat}{x:Bool}{v:Value}(h:k<L.length)(hv:v=.bool x):Qf (L.map Value.bool) (k*1) [v]=(L.set k x).map Value.bool:=by
 subst hv;have h9:=Z7 (vals:=λb:Bool=>[Value.bool b]) (sz:=1) (λ_=>rfl) L k 0 [.bool x] (L.getD k false) x (by rw[List.getElem?_eq_getElem h,List.getD_eq_getElem?_getD,List.getElem?_eq_getElem h];rfl) rfl (by simp);rw[Nat.add_zero,Qei,Qei]at h9;exact h9
theorem Qb9{l:List Bool}{k:Nat}(h:k<l.length):(l.map Value.bool)[k]?=some (.bool (l.getD k false)):=by
 simp[List.getD_eq_getElem?_getD,List.getElem?_eq_getElem h]
def Qdm(t s r:List UInt8):List Bool:=(List.range (s.length+1)).map (mtR t s r)
def ZN(t s r:List UInt8)(i:Nat):List Bool:=(Qdm t s r).take i++List.replicate (s.length+1-i) false
theorem Yq{t s r:List UInt8}:(Qdm t s r).length=s.length+1:=by simp[Qdm]
theorem Qa5{t s r:List UInt8}{i:Nat}(h:i<s.length+1):(Qdm t s r).getD i false=mtR t s r i:=by
 unfold Qdm;rw[List.getD_eq_getElem?_getD,List.getElem?_map,List.getElem?_range h];rfl
theorem Qiw{t s r:List UInt8}{i:Nat}(h:i<s.length+1):(Qdm t s r)[i]?=some (mtR t s r i):=by
 unfold Qdm;rw[List.getElem?_map,List.getElem?_range h];rfl
theorem XE{t s r:List UInt8}{i:Nat}(h:i<=s.length+1):(ZN t s r i).length=s.length+1:=by simp[ZN,Yq];omega
theorem ZG{t s r:List UInt8}{i:Nat}(h:i<s.length+1):(ZN t s r i).set i (mtR t s r i)=ZN t s r (i+1):=by
 have h1:=Qiw (t:=t) (r:=r) h;have hl:=Yq (t:=t) (s:=s) (r:=r);unfold ZN;apply List.ext_getElem?;intro j;simp only[List.getElem?_set,List.getElem?_append,List.getElem?_take,List.length_append,List.length_take,List.getElem?_replicate,List.length_replicate]
 grind
theorem Qhn{t s r:List UInt8}{i:Nat}(h:i<s.length+1)(hf:mtR t s r i=false):ZN t s r i=ZN t s r (i+1):=by
 rw[<-ZG h,hf];unfold ZN;have hl:=Yq (t:=t) (s:=s) (r:=r);apply List.ext_getElem?;intro j;simp only[List.getElem?_set,List.getElem?_append,List.getElem?_take,List.length_append,List.length_take,List.getElem?_replicate,List.length_replicate]
 grind
theorem QjZ{t s r:List UInt8}{i j:Nat}(h:i<=s.length+1)(hj:j<i):(ZN t s r i).getD j false=mtR t s r j:=by
 unfold ZN;rw[List.getD_eq_getElem?_getD,List.getElem?_append_left (by rw[List.length_take,Yq];omega),List.getElem?_take,if_pos hj,Qiw om];rfl
theorem QiQ{t s r:List UInt8}:ZN t s r (s.length+1)=Qdm t s r:=by
 unfold ZN;rw[Nat.sub_self,List.replicate_zero,List.append_nil,List.take_of_length_le (by rw[Yq];exact Nat.le_refl _)]
theorem Qpu{t s r:List UInt8}:ZN t s r 0=List.replicate (s.length+1) false:=by simp[ZN]
theorem Qke{t s:List UInt8}:(List.replicate (s.length+1) false).set 0 true=Qdm t s []:=by
 apply List.ext_getElem?;intro j;rcases Nat.lt_or_ge j (s.length+1)with h|h
 ·rw[Qiw h];simp only[List.getElem?_set,List.getElem?_replicate,List.length_replicate,mtR];rcases j with _|j<;>simp[h]
 ·rw[List.getElem?_eq_none (by simpa using h),List.getElem?_eq_none (by rw[Yq];exact h)]
theorem QlR{t s r:List UInt8}{c:UInt8}{i:Nat}(h:c=42):mtR t s (c::r) i=(mtR t s r i||(decide (0<i)&&mtR t s (c::r) (i-1))):=by
 subst h;rcases i with _|i
 ·rw[mtR];simp
 ·rw[mtR];simp
theorem Qdo{t s r:List UInt8}{c:UInt8}{i:Nat}(h:¬c=42):mtR t s (c::r) i=((decide (0<i)&&mtR t s r (i-1))&&(decide (c=63)||decide (t.getD c.toNat 0=t.getD (s.getD (i-1) 0).toNat 0))):=by
 rcases i with _|i
 ·rw[mtR];simp[h]
 ·rw[mtR];simp[h]
theorem rev_take{p:List UInt8}{k:Nat}(h:k<p.length):(p.take (k+1)).reverse=p.getD k 0::(p.take k).reverse:=by
 rw[Xg (d:=0) h,List.reverse_append];rfl
end Go.Proofs
namespace Go.Proofs
open Go Go.RowKit Gx
attribute [local irreducible] Go.Calls Gx.S Gx.O Gx.D Gx.OpP Gx.OpQ Gx.OpH
set_option maxRecDepth 20000
theorem Xf:tsl Tryz.prog 228=some (4,1,1):=by kernel_rfl
theorem Qk8:QM Tryz.prog 4=some [.bool false]:=by kernel_rfl
theorem Zm:tsz Tryz.prog 4=some (1,false):=by kernel_rfl
instance:TSz Tryz.prog 4 1 false:=⟨Zm⟩
theorem mixed:Tryz.prog.follows .mixedOrders=true:=by kernel_rfl
instance:TFn Tryz.prog 147:=⟨by kernel_rfl⟩
theorem Qtb:QJ Tryz.prog 75=true:=by kernel_rfl
instance:TFn Tryz.prog 75:=⟨Qtb⟩
instance:TFn Tryz.prog 148:=⟨by kernel_rfl⟩
set_option maxHeartbeats 2000000 in
theorem c148(w:World)(t p s:List UInt8)(hl:t.length=128)(hp:∀c∈p,c.toNat<128)(hs:∀c∈s,c.toNat<128)(hmp:p.length<=1000000)(hms:s.length<=1000000):CR 148 #[.string (bs t),.string (bs p),.string (bs s)] w (.bool (mtU t p s)):=by
 refine eN3 Tryz.func148 Tryz.ntmps148 ?_
 refine aU7 ?_
 refine o_p (Qn rfl rfl Tryz.underlying9) rfl (aT ?_)
 refine o_h (Qbu (n:=(s.length+1)) rfl rfl rfl Xf Qk8 om om) rfl (λb1 _=>aU5 ?_)
 refine o_p (Qa rfl rfl rfl Xf (0) om om rfl) rfl (Qu (show _=Value.pointer (some ⟨b1,0*1,none⟩)from rfl) (QcX (Xr rfl rfl rfl Zm rfl aPt (by rw[Nat.mul_one,QB];omega) rfl) (λ_ _=>aU5 ?_)))
 refine o_h (Z0 rfl rfl Tryz.underlying9 Tryz.underlying226 Tryz.underlying5 rfl (by simp only[maxLen];omega)) rfl (λ⟨b2,c3⟩⟨h4,k5⟩=>aU4 ?_)
 refine Qp (α:=Nat×Nat) [7,9,10,11,21,22,23,24,25,26,27,28,29,30,31,32,33,34,35,36,37,38,39,40,41,42,43,44,45,46,47,48,49,50,51,52,53,54,55,56,57,58,59,60,61,62,63,64,65,66,67,68,69,70,71,72,73,74,75,76,77,78,79,80,81,82,83,84] (λy=>[(21,.int .i64 (y.1:Int)),(7,.slice (some ⟨y.2,0,none⟩) (s.length+1) (s.length+1))]) (λy=>HS w [] [.blk y.2 4 ((s.length+1)*1) ((Qdm t s (p.take y.1).reverse).map Value.bool),.blk b2 5 c3 (p.map bv)]) (λy=>y.1<=p.length) (λy=>p.length-y.1) (0,b1) (Nat.zero_le _) aSx (λw h=>by have h1:=HS.blk_to (b:=b1) h aPk (show Qf (XA [.bool false] ((s.length+1)*1)) (0*1) [.bool true]=(Qdm t s []).map Value.bool from by rw[Nat.mul_one,QaY,<-List.map_replicate (f:=Value.bool),Qel (by simp) rfl,Qke]);exact h1.ent aEt) (λ⟨k,b⟩hk1=>?_)
 dsimp only at hk1 ⊢
 refine aU5 ?_
 refine sCd rfl (λh6=>?_) λh6=>?_
 ·have hk:k<p.length:=by omega
  have hpc:=hp (p.getD k 0) (XL hk)
  refine aU5 ?_
  refine o_p (Qa rfl rfl rfl XF (k) om om rfl) rfl (o_q (QN rfl rfl QgM (λw h=>by rw[Nat.zero_add];exact h.rd_blk (Mc:=[]) aPk (by rw[Nat.mul_one];exact Qcs hk) (by simp))) rfl (aU5 ?_))
  refine o_p (Qn rfl rfl Tryz.underlying9) rfl (aT ?_)
  refine o_h (Qbu (n:=(s.length+1)) rfl rfl rfl Xf Qk8 om om) rfl (λb7 _=>Qbf ?_)
  refine Qp (α:=Nat) [11,31,32,33,34,35,36,37,38,39,40,41,42,43,44,45,46,47,48,49,50,51,52,53,54,55,56,57,58,59,60,61,62,63,64,65,66,67,68,69,70,71,72,73,74,75,76,77,78,79,80,81,82] (λi=>[(31,.int .i64 (i:Int))]) (λi=>HS w [] [.blk b7 4 ((s.length+1)*1) ((ZN t s (p.getD k 0::(p.take k).reverse) i).map Value.bool),.blk b 4 ((s.length+1)*1) ((Qdm t s (p.take k).reverse).map Value.bool),.blk b2 5 c3 (p.map bv)]) (λi=>i<=(s.length+1)) (λi=>(s.length+1)-i) 0 (Nat.zero_le _) aSx (λw h=>by have h1:=HS.blk_to (b:=b7) h aPk (show XA [.bool false] ((s.length+1)*1)=(ZN t s (p.getD k 0::(p.take k).reverse) 0).map Value.bool from by rw[Nat.mul_one,QaY,Qpu,List.map_replicate]);exact h1.ent aEt) (λi hi1=>?_)
  refine aU5 ?_
  refine sCd rfl (λh8=>?_) λh8=>?_
  ·have hi:i<(s.length+1):=by omega
   refine Qqw ?_
   refine sCd rfl (λh9=>?_) λh9=>?_
   ·have hc42:p.getD k 0=42:=UInt8.toNat_inj.1 (by show(p.getD k 0).toNat=42;have hq:=h9;omega)
    refine aU5 ?_
    refine o_p (Qa rfl rfl rfl Xf (i) om om rfl) rfl (o_q (QN rfl rfl Zm (λw h=>by rw[Nat.zero_add];exact h.rd_blk (Mc:=[]) (b:=b) aPk (by rw[Nat.mul_one,Qb9 (by rw[Yq];exact hi),Qa5 hi]) (by simp))) rfl (aU ?_))
    refine oOr 10 43 53 rfl
     (λhg10 _=>by
      refine aU6 ?_
      refine Xi 6 46 52 rfl
       (λhg12 _=>by
        refine aT6 ?_
        refine aU ?_
        refine o_p (Qa rfl rfl rfl Xf (i-1) om om rfl) rfl (aU ?_)
        refine o_q (QN rfl rfl Zm (λw h=>by rw[Nat.zero_add];exact h.rd_blk (Mc:=[]) (b:=b7) aPk (by rw[Nat.mul_one,Qb9 (by rw[XE om];omega),QjZ om (by have hq:=hg12;omega)]) (by simp))) rfl (aU ?_)
        exact oJt 6 52)
       (λhg14 _=>by
        refine aU6 ?_
        exact oJf 6 52) ?_
      exact oJf 5 53)
     (λhg16 _=>by
      refine aU9 ?_
      exact oJt 10 53) ?_
    refine Qu (show _=Value.bool (mtR t s (p.getD k 0::(p.take k).reverse) i)from by congr 1;rw[QlR (i:=i) hc42];simp) (o_p (Qa rfl rfl rfl Xf (i) om om rfl) rfl (Qu (show _=Value.pointer (some ⟨b7,i*1,none⟩)from by rw[Nat.zero_add]) (QcX (Xr rfl rfl rfl Zm rfl aPt (by rw[List.length_map,XE om];omega) rfl) (λ_ _=>aU3 ?_))))
    refine Qd (L':=[(0,_),(1,_),(2,_),(6,_),(7,_),(9,_),(10,_),(12,_),(13,_),(14,_),(15,_),(16,_),(17,_),(18,_),(19,_),(20,_),(21,_),(22,_),(23,_),(24,_),(25,_),(26,_),(27,_),(28,_),(29,_),(30,_),(31,_)]) aSx (λ_ h=>h) ?_
    refine aT2 ?_
    refine aU2 ?_
    exact Qs (i+1) om om aSx (λw h=>by have h1:=HS.blk_to (b:=b7) h aPk (Qel (L:=ZN t s (p.getD k 0::(p.take k).reverse) i) (x:=(mtR t s (p.getD k 0::(p.take k).reverse) i)) (by rw[XE om];omega) rfl);rw[ZG hi]at h1;exact h1.ent aEt)
   have hc42:¬p.getD k 0=42:=by intro hA;have hq:=h9;rw[hA]at hq;exact hq rfl
   refine aU5 ?_
   refine Xi 6 58 64 rfl
    (λhg18 _=>by
     refine aT6 ?_
     refine aU ?_
     refine o_p (Qa rfl rfl rfl Xf (i-1) om om rfl) rfl (aU ?_)
     refine o_q (QN rfl rfl Zm (λw h=>by rw[Nat.zero_add];exact h.rd_blk (Mc:=[]) (b:=b) aPk (by rw[Nat.mul_one,Qb9 (by rw[Yq];omega),Qa5 om]) (by simp))) rfl ?_
     exact oJt 6 64)
    (λhg20 _=>by
     refine aU5 ?_
     exact oJf 6 64) ?_
   refine aU2 ?_
   refine sCd rfl (λh22=>?_) λh22=>?_
   ·have hsi:=hs (s.getD (i-1) 0) (XL (by have hq:=h22;omega))
    have hq5:=h22
    have hpre:(decide (0<i)&&mtR t s (p.take k).reverse (i-1))=true:=by simp;exact⟨om,hq5.2⟩
    have e63:(((p.getD k 0).toNat:Nat):Int)=63 ↔ p.getD k 0=63:=⟨λh=>UInt8.toNat_inj.1 (by show(p.getD k 0).toNat=63;omega),λh=>by rw[h];rfl⟩
    have eT:((t.getD (p.getD k 0).toNat 0).toNat:Int)=((t.getD (s.getD (i-1) 0).toNat 0).toNat:Int) ↔ t.getD (p.getD k 0).toNat 0=t.getD (s.getD (i-1) 0).toNat 0:=⟨λh=>UInt8.toNat_inj.1 om,λh=>by rw[h]⟩
    refine Qd (L':=[(0,_),(1,_),(2,_),(6,_),(7,_),(9,_),(10,_),(11,_),(12,_),(13,_),(14,_),(15,_),(16,_),(17,_),(18,_),(19,_),(20,_),(21,_),(22,_),(23,_),(24,_),(25,_),(26,_),(27,_),(28,_),(29,_),(30,_),(31,_)]) aSx (λ_ h=>h) ?_
    refine QH [17] mixed ?_
    refine dP 0 ?_
    refine dP 1 ?_
    refine dP 2 ?_
    refine dP 3 ?_
    refine dP 4 ?_
    apply QI 69
    ·exact rfl
    ·intro hg23
     have hs24:=hg23;try simp only[dT]at hs24
     refine dOf 5 69 hg23 ?_
     refine dOf 6 69 hg23 ?_
     refine dOf 7 69 hg23 ?_
     refine dOf 8 69 hg23 ?_
     refine dOf 9 69 hg23 ?_
     refine dOf 10 69 hg23 ?_
     refine dOf 11 69 hg23 ?_
     refine dOf 12 69 hg23 ?_
     refine dOf 13 69 hg23 ?_
     refine dOf 14 69 hg23 ?_
     refine dV 15 rfl (QE rfl rfl hg23 rfl) (Qz (show _=Value.bool (mtR t s (p.getD k 0::(p.take k).reverse) i)from by rw[Qdo hc42,hpre];first|(have hgA:=of_decide_eq_true hg23;rw[e63]at hgA;rw[decide_eq_true hgA];rfl)|(have hgA:=of_decide_eq_false hg23;rw[e63]at hgA;rw[decide_eq_false hgA,decide_eq_decide.2 eT];rfl)) (dV 16 rfl (Qa rfl rfl rfl Xf (i) om om rfl) (Qz (show _=Value.pointer (some ⟨b7,i*1,none⟩)from by rw[Nat.zero_add]) (Qii 17 rfl (Xr rfl rfl rfl Zm rfl aPt (by rw[List.length_map,XE om];omega) rfl) (by kernel_rfl) (λw h=>h.ent aEt) (λ_ _=>?_)))))
     refine dTu [] ?_
     refine dNi ?_
     refine aU2 ?_
     refine Qd (L':=[(0,_),(1,_),(2,_),(6,_),(7,_),(9,_),(10,_),(12,_),(13,_),(14,_),(15,_),(16,_),(17,_),(18,_),(19,_),(20,_),(21,_),(22,_),(23,_),(24,_),(25,_),(26,_),(27,_),(28,_),(29,_),(30,_),(31,_)]) aSx (λ_ h=>h) ?_
     refine aT2 ?_
     refine aU2 ?_
     exact Qs (i+1) om om aSx (λw h=>by have h1:=HS.blk_to (b:=b7) h aPk (Qel (L:=ZN t s (p.getD k 0::(p.take k).reverse) i) (x:=(mtR t s (p.getD k 0::(p.take k).reverse) i)) (by rw[XE om];omega) rfl);rw[ZG hi]at h1;exact h1.ent aEt)
    intro hg25
    have hs26:=hg25;try simp only[dN]at hs26
    refine dPo 5 69 hg25 ?_
    refine dPo 6 69 hg25 ?_
    refine dVo 7 69 hg25 rfl rfl rfl (Qr rfl rfl rfl Tryz.underlying223 ((p.getD k 0).toNat) om om) ?_
    refine dPo 8 69 hg25 ?_
    refine dPo 9 69 hg25 ?_
    refine dPo 10 69 hg25 ?_
    refine dPo 11 69 hg25 ?_
    try refine dWr ?_
    refine dVo 12 69 hg25 rfl rfl rfl (Qr rfl rfl rfl Tryz.underlying9 (i-1) om om) ?_
    refine dVo 13 69 hg25 rfl rfl rfl (Qr rfl rfl rfl Tryz.underlying223 ((s.getD (i-1) 0).toNat) om om) ?_
    refine dPo 14 69 hg25 ?_
    refine dV 15 rfl (QC rfl rfl hg25 rfl) (Qz (show _=Value.bool (mtR t s (p.getD k 0::(p.take k).reverse) i)from by rw[Qdo hc42,hpre];first|(have hgA:=of_decide_eq_true hg25;rw[e63]at hgA;rw[decide_eq_true hgA];rfl)|(have hgA:=of_decide_eq_false hg25;rw[e63]at hgA;rw[decide_eq_false hgA,decide_eq_decide.2 eT];rfl)) (dV 16 rfl (Qa rfl rfl rfl Xf (i) om om rfl) (Qz (show _=Value.pointer (some ⟨b7,i*1,none⟩)from by rw[Nat.zero_add]) (Qii 17 rfl (Xr rfl rfl rfl Zm rfl aPt (by rw[List.length_map,XE om];omega) rfl) (by kernel_rfl) (λw h=>h.ent aEt) (λ_ _=>?_)))))
    refine dTu [] ?_
    refine dNi ?_
    refine aU2 ?_
    refine Qd (L':=[(0,_),(1,_),(2,_),(6,_),(7,_),(9,_),(10,_),(12,_),(13,_),(14,_),(15,_),(16,_),(17,_),(18,_),(19,_),(20,_),(21,_),(22,_),(23,_),(24,_),(25,_),(26,_),(27,_),(28,_),(29,_),(30,_),(31,_)]) aSx (λ_ h=>h) ?_
    refine aT2 ?_
    refine aU2 ?_
    exact Qs (i+1) om om aSx (λw h=>by have h1:=HS.blk_to (b:=b7) h aPk (Qel (L:=ZN t s (p.getD k 0::(p.take k).reverse) i) (x:=(mtR t s (p.getD k 0::(p.take k).reverse) i)) (by rw[XE om];omega) rfl);rw[ZG hi]at h1;exact h1.ent aEt)
   have hmf:(mtR t s (p.getD k 0::(p.take k).reverse) i)=false:=by rw[Qdo hc42];have hq:=h22;(have eA:(decide (0<i)&&mtR t s (p.take k).reverse (i-1))=false:=by by_cases hz:0<i;(simp[hz];(rcases hq with hq|hq;(exfalso;omega);exact hq));simp[hz]);rw[eA];rfl
   refine aU3 ?_
   refine Qd (L':=[(0,_),(1,_),(2,_),(6,_),(7,_),(9,_),(10,_),(12,_),(13,_),(14,_),(15,_),(16,_),(17,_),(18,_),(19,_),(20,_),(21,_),(22,_),(23,_),(24,_),(25,_),(26,_),(27,_),(28,_),(29,_),(30,_),(31,_)]) aSx (λ_ h=>h) ?_
   refine aT2 ?_
   refine aU2 ?_
   exact Qs (i+1) om om aSx (λw h=>by rw[<-Qhn hi hmf];exact h.ent aEt)
  obtain rfl:i=(s.length+1):=om
  rw[QiQ,<-rev_take hk]
  refine Qg rfl ?_
  refine aT7 ?_
  refine aU2 ?_
  exact sBk (k+1,b7) (by show p.length-(k+1)<p.length-k;omega) (by show k+1<=p.length;omega)
 obtain rfl:k=p.length:=om
 rw[List.take_length]
 refine Qg rfl ?_
 refine aU4 ?_
 refine o_p (Qn rfl rfl Tryz.underlying9) rfl (o_p (Qa rfl rfl rfl Xf (s.length) om om rfl) rfl (o_q (QN rfl rfl Zm (λw h=>by rw[Nat.zero_add];exact h.rd_blk (Mc:=[]) (b:=b) aPk (by rw[Nat.mul_one,Qb9 (by rw[Yq];omega),Qa5 om]) (by simp))) rfl (aU2 ?_)))
 exact rV
def QeC(t p s:List UInt8):Int:=if(YO t).2=0 then if ZO p=0 then QT s else ZO p else(YO t).2
theorem QrI{t p s:List UInt8}(h:QeC t p s=0):(YO t).2=0/\ZO p=0/\QT s=0:=by
  unfold QeC at h
  grind
theorem c81(w:World)(t p s:List UInt8)(hmt:t.length<=1000000)(hmp:p.length<=1000000)(hms:s.length<=1000000):CR 81 #[.string (bs t),.string (bs p),.string (bs s)] w (.tuple #[.bool (if QeC t p s=0 then mtU t p s else false),.int .i64 (QeC t p s)]):=by
 have he:XM [.int .i64 (YO t).2,.int .i64 (ZO p),.int .i64 (QT s)]=QeC t p s:=by rw[Qrk];rfl
 refine eN3 Tryz.func81 Tryz.ntmps81 ?_
 refine aU8 ?_
 refine oCq rfl (λw1 h1=>c146 w1 t hmt) (Qab ?_)
 refine oCq rfl (λw1 h1=>c147 w1 p hmp) (aU ?_)
 refine oCq rfl (λw1 h1=>c75 w1 s hms) (o_h (Ql (cs:=[_,_,_]) rfl rfl Yw QaC rfl rfl rfl) rfl (λb1 _=>oCq rfl (λw1 h1=>f137 h1 aPk (by rfl) (by rfl) (by decide)) (aU7 ?_)))
 refine sCd rfl (λh2=>?_) λh2=>?_
 ·have h0:¬QeC t p s=0:=by rw[<-he];exact h2
  refine aU6 ?_
  exact Qm (rs:=[.tmp 6,.tmp 7]) rfl (.tmp rfl (.tmp rfl (.nil))) (λw' h'=>⟨by rw[if_neg h0,<-he];rfl,h'.below⟩)
 have h0:QeC t p s=0:=by rw[<-he];exact h2
 have ho:=QrI h0
 refine aU6 ?_
 refine oCq rfl (λw1 h1=>c148 w1 t p s (QeI ho.1).1 (QlW ho.2.1).2.2 (Qcd ho.2.2) hmp hms) (aU3 ?_)
 exact Qm (rs:=[.tmp 6,.tmp 7]) rfl (.tmp rfl (.tmp rfl (.nil))) (λw' h'=>⟨by rw[if_pos h0,h0];rfl,h'.below⟩)
end Go.Proofs
namespace Go.Proofs
open Go Go.RowKit Gx
theorem Qd6:∀{s:List UInt8}{c:UInt8},0<=Lib.indexByte s c->∃i:Nat,Lib.indexByte s c=(i:Int)/\i<s.length/\s.getD i 0=c/\∀j,j<i->s.getD j 0≠c
 | [],c,h=>absurd h (by simp[Lib.indexByte])
 | b::s,c,h=>by
  unfold Lib.indexByte at h ⊢
  by_cases e:b=c
  ·subst e;exact⟨0,by simp,by simp,by simp,λj hj=>absurd hj (Nat.not_lt_zero j)⟩
  ·have e':(b==c)=false:=by simpa using e
   rw[e']at h ⊢;simp only[Bool.false_eq_true,if_false]at h ⊢;have h1:=Lib.indexByte_ge s c;split at h
   ·exact absurd h (by decide)
   ·rename_i h2;rw[if_neg h2]
    have h3:0<=Lib.indexByte s c:=by
     have:¬Lib.indexByte s c= -1:=by simpa using h2
     omega
    obtain⟨i,i1,i2,i3,i4⟩:=Qd6 h3;refine⟨i+1,by rw[i1];rfl,by simp;omega,by simpa using i3,λj hj=>?_⟩;rcases j with _|j
    ·simpa using e
    ·simpa using i4 j om
theorem Qku:∀{s:List UInt8}{i:Nat},i<s.length->s.getD i 0=46->(∀j,j<i->s.getD j 0≠46)->ZY s=(s.take i,some (s.drop (i+1)))
 | [],i,h,_,_=>absurd h (Nat.not_lt_zero i)
 | b::s,0,_,h,_=>by
  have:b=46:=by simpa using h
  subst this;simp[ZY]
 | b::s,i+1,hl,h,hn=>by
  have h0:b≠46:=by simpa using hn 0 om
  have ih:=Qku (s:=s) (i:=i) (by simpa using hl) (by simpa using h) (λj hj=>by simpa using hn (j+1) om);rw[ZY,if_neg h0,ih];rfl
theorem Qk0:∀{s:List UInt8},46 ∉ s->ZY s=(s,none)
 | [],_=>rfl
 | b::s,h=>by
  have h0:b≠46:=λe=>h (by rw[e];exact List.mem_cons_self ..);rw[ZY,if_neg h0,Qk0 (λhm=>h (List.mem_cons_of_mem _ hm))]
theorem Qrh{s:List UInt8}(h:0<=Lib.indexByte s 46):∃i:Nat,Lib.indexByte s 46=(i:Int)/\i<s.length/\ZY s=(s.take i,some (s.drop (i+1))):=by
 obtain⟨i,h1,h2,h3,h4⟩:=Qd6 h;exact⟨i,h1,h2,Qku h2 h3 h4⟩
theorem Qos{s:List UInt8}(h:¬0<=Lib.indexByte s 46):ZY s=(s,none):=Qk0 (ZI.1 om)
def Qy:List UInt8->List (List UInt8)
 | []=>[[]]
 | c::s=>if c=46 then[]::Qy s else(c::(Qy s).head!)::(Qy s).tail
theorem Qeo:∀s:List UInt8,Qy s≠[]
 | []=>by simp[Qy]
 | c::s=>by unfold Qy;split<;>simp
theorem Qej:∀{s:List UInt8},46 ∉ s->Qy s=[s]
 | [],_=>rfl
 | b::s,h=>by
  have h0:b≠46:=λe=>h (by rw[e];exact List.mem_cons_self ..);rw[Qy,if_neg h0,Qej (λhm=>h (List.mem_cons_of_mem _ hm))];rfl
theorem split_at:∀{s:List UInt8}{i:Nat},i<s.length->s.getD i 0=46->(∀j,j<i->s.getD j 0≠46)->Qy s=s.take i::Qy (s.drop (i+1))
 | [],i,h,_,_=>absurd h (Nat.not_lt_zero i)
 | b::s,0,_,h,_=>by
  have:b=46:=by simpa using h
  subst this;simp[Qy]
 | b::s,i+1,hl,h,hn=>by
  have h0:b≠46:=by simpa using hn 0 om
  have ih:=split_at (s:=s) (i:=i) (by simpa using hl) (by simpa using h) (λj hj=>by simpa using hn (j+1) om);rw[Qy,if_neg h0,ih];rfl
theorem Qpy:Xu 46=false:=by decide
def shR(s:List UInt8):Bool:=decide ((Qy s).length<=2)&&(decide (1<=((Qy s).getD 0 []).length)&&decide (((Qy s).getD 0 []).length<=8))&&(!decide ((Qy s).length=2)||(decide (1<=((Qy s).getD 1 []).length)&&decide (((Qy s).getD 1 []).length<=3)))&&s.all λc=>decide (c=46)||Xu c
theorem Qkv{s:List UInt8}(h:46 ∉ s):(s.all λc=>decide (c=46)||Xu c)=s.all Xu:=by
 induction s with
 | nil=>rfl
 | cons a s ih=>
  have h0:a≠46:=λe=>h (by rw[e];exact List.mem_cons_self ..);rw[List.all_cons,List.all_cons,ih (λhm=>h (List.mem_cons_of_mem _ hm))];simp[h0]
theorem QjR{s:List UInt8}{n:Nat}:(decide (1<=s.length)&&decide (s.length<=n))=(!decide (s=[])&&decide (s.length<=n)):=by
 congr 1;rcases s with _|⟨a,s⟩
 ·rfl
 ·simp
theorem QkY(s:List UInt8):shR s=YR s:=by
 by_cases h:46∈s
 ·obtain⟨i,h1,h2,h3,h4⟩:=Qd6 (s:=s) (c:=46) (by
   rcases Int.lt_or_le (Lib.indexByte s 46) 0 with h9|h9
   ·exact absurd h (ZI.1 h9)
   ·exact h9)
  have hc:=Qku h2 h3 h4;have hs:=split_at h2 h3 h4
  have hsp:s=s.take i++46::s.drop (i+1):=by
   have h5:s[i]?=some 46:=by
    rw[List.getD_eq_getElem?_getD,List.getElem?_eq_getElem h2]at h3;rw[List.getElem?_eq_getElem h2];exact congrArg some h3
   have h6:=List.drop_eq_getElem_cons h2;rw[List.getElem?_eq_getElem h2]at h5;injection h5 with h5
   rw[h5]at h6
   conv=>lhs;rw[<-List.take_append_drop i s,h6]
  have hna:46 ∉ s.take i:=by
   intro hm;obtain⟨j,hj,e⟩:=Qd4 (d:=0) hm;rw[List.length_take]at hj;refine h4 j om ?_;rw[<-e,List.getD_eq_getElem?_getD,List.getD_eq_getElem?_getD,List.getElem?_take,if_pos om]
  unfold shR YR;rw[hs,hc];dsimp only
  have hall:(s.all λc=>decide (c=46)||Xu c)=((s.take i).all Xu&&(s.drop (i+1)).all λc=>decide (c=46)||Xu c):=by
   conv=>lhs;rw[hsp]
   rw[List.all_append,List.all_cons,Qkv hna];simp
  rw[hall]
  by_cases hr:46∈s.drop (i+1)
  ·have hlen:¬(s.take i::Qy (s.drop (i+1))).length<=2:=by
    obtain⟨j,j1,j2,j3,j4⟩:=Qd6 (s:=s.drop (i+1)) (c:=46) (by
     rcases Int.lt_or_le (Lib.indexByte (s.drop (i+1)) 46) 0 with h9|h9
     ·exact absurd hr (ZI.1 h9)
     ·exact h9)
    rw[split_at j2 j3 j4];have:=List.length_pos_iff.2 (Qeo ((s.drop (i+1)).drop (j+1)));simp only[List.length_cons];omega
   have hp:QeR (s.drop (i+1)) 3=false:=by
    unfold QeR
    rw[show(s.drop (i+1)).all Xu=false from by
     rw[List.all_eq_false];exact⟨46,hr,by rw[Qpy];simp⟩]
    simp
   rw[decide_eq_false hlen,hp];simp
  ·rw[Qej hr,Qkv hr];simp only[QeR,List.length_cons,List.length_nil,List.getD_cons_zero,List.getD_cons_succ,QjR];generalize (!decide (s.take i=[]))=A;generalize decide ((s.take i).length<=8)=B;generalize (!decide (s.drop (i+1)=[]))=C;generalize decide ((s.drop (i+1)).length<=3)=E;generalize (s.take i).all Xu=G;generalize (s.drop (i+1)).all Xu=H;cases A<;>cases B<;>cases C<;>cases E<;>cases G<;>cases H<;>simp
 ·unfold shR YR;rw[Qej h,Qk0 h,Qkv h];dsimp only;simp only[QeR,List.length_cons,List.length_nil,List.getD_cons_zero,QjR];generalize (!decide (s=[]))=A;generalize decide (s.length<=8)=B;generalize s.all Xu=G;cases A<;>cases B<;>cases G<;>simp
end Go.Proofs
namespace Go.Proofs
open Go Go.RowKit Gx
attribute [local irreducible] Go.Calls Gx.S Gx.O Gx.D Gx.OpP Gx.OpQ Gx.OpH
set_option maxRecDepth 20000
instance:TFn Tryz.prog 324:=⟨by kernel_rfl⟩
instance:TFn Tryz.prog 289:=⟨by kernel_rfl⟩
instance:TFn Tryz.prog 234:=⟨by kernel_rfl⟩
instance:TFn Tryz.prog 235:=⟨by kernel_rfl⟩
theorem Qiv:QM Tryz.prog 9=some [.string (bs [])]:=by kernel_rfl
instance:TFn Tryz.prog 170:=⟨by kernel_rfl⟩
instance:TFn Tryz.prog 172:=⟨by kernel_rfl⟩
instance:TFn Tryz.prog 171:=⟨by kernel_rfl⟩
theorem ix98(w:World)(s:List UInt8)(c:UInt8):Calls Tryz.prog 324 #[.string (bs s),.string (bs [c])] w λen w'=>en=.returned (.int .i64 (Lib.indexByte s c))/\Below w.heap.size w w':=
  (Tryz.stringslite_Index_one (bs s) c w).mono λe w' h=>⟨by rw[h.1];simp[bs],Qak h.2⟩
theorem c289(w:World)(s:List UInt8)(hm:s.length<=1000000):CR 289 #[.string (bs s),.string (bs [46])] w (.tuple #[.string (bs (ZY s).1),.string (bs ((ZY s).2.getD [])),.bool (ZY s).2.isSome]):=by
 refine eN2 Tryz.func289 Tryz.ntmps289 ?_
 refine Qab ?_
 refine oCq rfl (λw1 h1=>ix98 w1 s 46) (aU7 ?_)
 refine sCd rfl (λh1=>?_) λh1=>?_
 ·obtain⟨i,hi9,hi8,hcd⟩:=Qrh h1
  refine aU ?_
  refine QH [] mixed ?_
  refine dP 0 ?_
  refine dP 1 ?_
  refine dV 2 rfl (Y9 i rfl rfl rfl Tryz.underlying9 hi9 om) (dP 3 ?_)
  refine dP 4 ?_
  refine dP 5 ?_
  refine dV 6 rfl (Qn rfl rfl Tryz.underlying9) (dP 7 ?_)
  try refine dWr ?_
  refine Qz (show _=Value.int .i64 ((i+1:Nat):Int)from by rw[hi9];show Value.int .i64 (IntKind.i64.wrap ((i:Int)+1))=.int .i64 ((i:Int)+1);exact QmQ om om) (dV 8 rfl (XI (i+1) rfl rfl rfl Tryz.underlying9 rfl om) (dP 9 ?_))
  refine dP 10 ?_
  refine dP 11 ?_
  refine dNi ?_
  exact Qm (rs:=[.tmp 4,.tmp 5,.tmp 6]) rfl (.tmp rfl (.tmp rfl (.tmp rfl (.nil)))) (λw' h'=>⟨by rw[hcd];rfl,h'.below⟩)
 have hcd:=Qos h1
 refine aU8 ?_
 exact Qm (rs:=[.tmp 4,.tmp 5,.tmp 6]) rfl (.tmp rfl (.tmp rfl (.tmp rfl (.nil)))) (λw' h'=>⟨by rw[hcd];rfl,h'.below⟩)
theorem c234(w:World)(s:List UInt8)(hm:s.length<=1000000):CR 234 #[.string (bs s),.string (bs [46])] w (.tuple #[.string (bs (ZY s).1),.string (bs ((ZY s).2.getD [])),.bool (ZY s).2.isSome]):=by
 refine eN2 Tryz.func234 Tryz.ntmps234 ?_
 refine Qbf ?_
 refine oCq rfl (λw1 h1=>c289 w1 s hm) (aU7 ?_)
 exact Qm (rs:=[.tmp 4,.tmp 5,.tmp 6]) rfl (.tmp rfl (.tmp rfl (.tmp rfl (.nil)))) (λw' h'=>⟨rfl,h'.below⟩)
theorem c290(w:World)(c:UInt8):CR 290 #[.int .u8 (c.toNat:Int)] w (.bool (Xu c)):=by
 have e1:((65:Int)<=(c.toNat:Int)) ↔ 65<=c.toNat:=om
 have e2:((c.toNat:Int)<=90) ↔ c.toNat<=90:=om
 have e3:((48:Int)<=(c.toNat:Int)) ↔ 48<=c.toNat:=om
 have e4:((c.toNat:Int)<=57) ↔ c.toNat<=57:=om
 have e5:decide (0<=Lib.indexByte Yz c)=Yz.contains c:=by by_cases h:c∈Yz;(rw[decide_eq_true (by rcases Int.lt_or_le (Lib.indexByte Yz c) 0 with h9|h9;(exact absurd h (ZI.1 h9));exact h9)];simp[h]);(rw[decide_eq_false (by have:=ZI.2 h;omega)];simp[h])
 refine eN1 Tryz.func290 Tryz.ntmps290 ?_
 refine aU9 ?_
 refine Xi 3 5 8 rfl
  (λhg1 _=>by
   refine aU4 ?_
   exact oJt 3 8)
  (λhg3 _=>by
   refine aU2 ?_
   exact oJf 3 8) ?_
 refine aU ?_
 refine oOr 7 9 16 rfl
  (λhg5 _=>by
   refine aU6 ?_
   refine Xi 3 12 15 rfl
    (λhg7 _=>by
     refine aU5 ?_
     exact oJt 3 15)
    (λhg9 _=>by
     refine aU3 ?_
     exact oJf 3 15) ?_
   exact oJf 5 16)
  (λhg11 _=>by
   refine aU6 ?_
   exact oJt 7 16) ?_
 refine aU ?_
 refine oOr 4 17 21 rfl
  (λhg13 _=>by
   refine aU3 ?_
   refine oCq rfl (λw1 h1=>ib97 w1 Yz c) (aU2 ?_)
   exact oJf 4 21)
  (λhg15 _=>by
   refine aU3 ?_
   exact oJt 4 21) ?_
 refine aU2 ?_
 exact rV (h:=by simp only[QA,Xu,e1,e2,e3,e4,ge_iff_le,e5])
theorem c235(w:World)(s:List UInt8)(m:Nat)(hm:s.length<=1000000):CR 235 #[.string (bs s),.int .i64 (m:Int)] w (.bool (QeR s m)):=by
 have e1:((s.length:Int)<=(m:Int)) ↔ s.length<=m:=om
 refine eN2 Tryz.func235 Tryz.ntmps235 ?_
 refine aU9 ?_
 refine Xi 5 7 12 rfl
  (λhg1 _=>by
   refine aU3 ?_
   refine o_p (Qn rfl rfl Tryz.underlying9) rfl (aU4 ?_)
   exact oJt 5 12)
  (λhg3 _=>by
   refine aU4 ?_
   exact oJf 5 12) ?_
 refine aU ?_
 refine Xi 3 13 16 rfl
  (λhg5 _=>by
   refine aU3 ?_
   refine oCq rfl (λw1 h1=>QuZ w1 s 290 #[] Xu hm (by kernel_rfl) (λk w2 hk h2=>c290 w2 _)) ?_
   exact oJt 3 16)
  (λhg7 _=>by
   refine aU2 ?_
   exact oJf 3 16) ?_
 refine aU2 ?_
 exact rV (h:=by simp only[QA,QeR,e1])
theorem Qtt(s:List UInt8):(ZY s).1.length<=s.length/\((ZY s).2.getD []).length<=s.length:=by
  induction s with
  | nil=>simp[ZY]
  | cons c s ih=>
    unfold ZY;split
    · simp
    · simp only[List.length_cons];omega
theorem QrP(w:World)(s:List UInt8)(hm:s.length<=1000000):CR 171 #[.string (bs s)] w (.bool (YR s)):=by
 have hcl:=Qtt s
 refine eN1 Tryz.func171 Tryz.ntmps171 ?_
 refine aU7 ?_
 refine oCq rfl (λw1 h1=>c234 w1 s hm) (Qab ?_)
 refine oCq rfl (λw1 h1=>c235 w1 (ZY s).1 8 om) (aU ?_)
 refine Xi 7 14 21 rfl
  (λhg1 _=>by
   refine aU6 ?_
   refine oOr 3 17 20 rfl
    (λhg3 _=>by
     refine aU3 ?_
     refine oCq rfl (λw1 h1=>c235 w1 ((ZY s).2.getD []) 3 om) (aU ?_)
     exact oJf 3 20)
    (λhg5 _=>by
     refine aU3 ?_
     exact oJt 3 20) ?_
   exact oJt 5 21)
  (λhg7 _=>by
   refine aU6 ?_
   exact oJf 7 21) ?_
 refine aU2 ?_
 exact rV (h:=by simp only[QA,YR];rcases hc9:(ZY s).2 with _|r<;>simp[hc9])
theorem c169(w:World)(t s:List UInt8)(hmt:t.length<=1000000)(hm:s.length<=1000000):CR 169 #[.string (bs t),.string (bs s)] w (.tuple #[.bool (if openE t [s]=0 then !YR (up t s)else false),.int .i64 (openE t [s])]):=by
 refine eN2 Tryz.func169 Tryz.ntmps169 ?_
 refine aU9 ?_
 refine o_h (Ql (cs:=[_]) rfl rfl Zf Qiv rfl rfl rfl) rfl (λb1 _=>oCq rfl (λw1 h1=>c170 w1 t _ _ [s] hmt (h1.vl_blk aPk) (by simp) (by intro x hx;simp only[List.mem_cons,List.mem_nil_iff,or_false]at hx;subst hx;assumption)) (QbX ?_))
 refine sCd rfl (λh2=>?_) λh2=>?_
 ·have h0:¬openE t [s]=0:=h2
  refine aU6 ?_
  exact Qm (rs:=[.tmp 4,.tmp 5]) rfl (.tmp rfl (.tmp rfl (.nil))) (λw' h'=>⟨by rw[if_neg h0];rfl,h'.below⟩)
 have h0:openE t [s]=0:=h2
 have ho:=Qjn h0
 have hx:=Qcd (ho.2 s (by simp))
 have hl:=(QeI ho.1).1
 have hul:=ZL t s
 refine aU5 ?_
 refine oCq rfl (λw1 h1=>QoW w1 t s hl hx hm) (oCq rfl (λw1 h1=>QrP w1 (up t s) om) (aU4 ?_))
 exact Qm (rs:=[.tmp 4,.tmp 5]) rfl (.tmp rfl (.tmp rfl (.nil))) (λw' h'=>⟨by rw[if_pos h0,h0];rfl,h'.below⟩)
theorem c222(w:World)(c:UInt8):CR 222 #[.int .u8 (c.toNat:Int)] w (.bool (Xu c)):=by
 have e1:((65:Int)<=(c.toNat:Int)) ↔ 65<=c.toNat:=om
 have e2:((c.toNat:Int)<=90) ↔ c.toNat<=90:=om
 have e3:((48:Int)<=(c.toNat:Int)) ↔ 48<=c.toNat:=om
 have e4:((c.toNat:Int)<=57) ↔ c.toNat<=57:=om
 refine eN1 Tryz.func222 Tryz.ntmps222 ?_
 refine Qbf ?_
 refine Qp (α:=Nat) [2,3,4,5,6,7,8,9,10,11] (λk=>[(3,.int .i64 (k:Int))]) (λ_=>_) (λk=>k<=13/\∀j,j<k->¬Yz.getD j 0=c) (λk=>13-k) 0 ⟨Nat.zero_le _,λj h=>absurd h (Nat.not_lt_zero j)⟩ aSx (λw h=>h) (λk hkk=>?_)
 obtain⟨hk1,hk2⟩:=hkk
 refine aU6 ?_
 refine sCd rfl (λh1=>?_) λh1=>?_
 ·have hk:k<Yz.length:=by show k<13;omega
  refine aU6 ?_
  refine o_p (Qr rfl rfl rfl Tryz.underlying9 (k) om (by show k<13;omega)) rfl ?_
  refine aU3 ?_
  refine sCd rfl (λh2=>?_) λh2=>?_
  ·have hin:c∈Yz:=by have hq2:((Yz.getD k 0).toNat:Int)=(c.toNat:Int):=h2;have e9:Yz.getD k 0=c:=UInt8.toNat_inj.1 om;rw[<-e9];exact XL hk
   refine aU4 ?_
   exact rV (h:=by unfold Xu;simp[QA,hin])
  have hne:¬Yz.getD k 0=c:=by intro hA;have hq:¬((Yz.getD k 0).toNat:Int)=(c.toNat:Int):=h2;rw[hA]at hq;exact hq rfl
  refine aT5 ?_
  refine aU2 ?_
  exact Qs (k+1) om ⟨om,λj hj=>(Nat.lt_succ_iff_lt_or_eq.1 hj).elim (hk2 j) (λe=>by rw[e];exact hne)⟩ aSx (λw h=>h)
 have hni:Yz.contains c=false:=by have:¬c∈Yz:=(by intro hm;obtain⟨j,hj,e⟩:=Qd4 (d:=0) hm;exact hk2 j (by have:j<13:=hj;omega) e);simpa using this
 refine Qg rfl ?_
 refine aU5 ?_
 refine Xi 3 14 17 rfl
  (λhg3 _=>by
   refine aU4 ?_
   exact oJt 3 17)
  (λhg5 _=>by
   refine aU2 ?_
   exact oJf 3 17) ?_
 refine aU ?_
 refine oOr 7 18 25 rfl
  (λhg7 _=>by
   refine aU6 ?_
   refine Xi 3 21 24 rfl
    (λhg9 _=>by
     refine aU5 ?_
     exact oJt 3 24)
    (λhg11 _=>by
     refine aU3 ?_
     exact oJf 3 24) ?_
   exact oJf 5 25)
  (λhg13 _=>by
   refine aU6 ?_
   exact oJt 7 25) ?_
 refine aU2 ?_
 exact rV (h:=by simp only[QA,Xu,hni,e1,e2,e3,e4,ge_iff_le,Bool.or_false])
end Go.Proofs
namespace Go.Proofs
open Go Go.RowKit Gx
def Qaz(s:List UInt8):Nat->Nat
 | 0=>0
 | k+1=>if 1<=k/\s.getD k 0=46 then k else Qaz s k
def Qa7(s:List UInt8):Nat:=Qaz s s.length
theorem Qju(s:List UInt8):∀k,0<k->Qaz s k<k
 | 0,h=>absurd h (Nat.lt_irrefl 0)
 | k+1,_=>by
  unfold Qaz;split
  ·omega
  ·rcases Nat.eq_zero_or_pos k with e|e
   ·subst e;simp[Qaz]
   ·have:=Qju s k e;omega
theorem bs_data{s:List UInt8}{j:Nat}(h:j<s.length):(bs s).data[j]! =s.getD j 0:=by
 simp[bs,h,List.getD_eq_getElem?_getD,List.getElem?_eq_getElem h]
theorem QfA(s:List UInt8):∀k,k<=s.length->(if 0<Lib.lastIdx (bs s) 46 k then Lib.lastIdx (bs s) 46 k=(Qaz s k:Int)/\0<Qaz s k else Qaz s k=0)
 | 0,_=>by simp[Lib.lastIdx,Qaz]
 | k+1,hk=>by
  have ih:=QfA s k om;unfold Lib.lastIdx Qaz;rw[bs_data om];have e46:((s.getD k 0).toNat:Int)=46 ↔ s.getD k 0=46:=⟨λh=>UInt8.toNat_inj.1 (by show(s.getD k 0).toNat=46;omega),λh=>by rw[h];rfl⟩
  by_cases h:s.getD k 0=46
  ·rw[if_pos (e46.2 h)];rcases Nat.eq_zero_or_pos k with e|e
   ·subst e;simp[Qaz]
   ·rw[if_pos om,if_pos ⟨e,h⟩];exact⟨rfl,e⟩
  ·have e2:(if 1<=k/\s.getD k 0=46 then k else Qaz s k)=Qaz s k:=if_neg (λh9=>h h9.2);rw[if_neg (λh9=>h (e46.1 h9)),e2];exact ih
theorem Qsw{s:List UInt8}(h:0<Lib.lastIndexByte (bs s) 46):Lib.lastIndexByte (bs s) 46=(Qa7 s:Int)/\0<Qa7 s/\Qa7 s<s.length:=by
 have h1:=QfA s s.length (Nat.le_refl _);have hs:(bs s).size=s.length:=by simp[bs,ByteArray.size]
 unfold Lib.lastIndexByte at h ⊢;rw[hs]at h ⊢;rw[if_pos h]at h1;refine⟨h1.1,h1.2,?_⟩;have h2:=h1.2;rcases Nat.eq_zero_or_pos s.length with e|e
 ·rw[e]at h2;simp[Qaz]at h2
 ·exact Qju s _ e
theorem QrL{s:List UInt8}(h:¬0<Lib.lastIndexByte (bs s) 46):Qa7 s=0:=by
 have h1:=QfA s s.length (Nat.le_refl _);have hs:(bs s).size=s.length:=by simp[bs,ByteArray.size]
 unfold Lib.lastIndexByte at h;rw[hs]at h;rw[if_neg h]at h1;exact h1
def Ze(s:List UInt8):List UInt8:=if 0<Qa7 s then s.take (Qa7 s)else s
def Zj(s:List UInt8):List UInt8:=if 0<Qa7 s then s.drop (Qa7 s+1)else[]
def kpB(c:UInt8):List UInt8:=if c=32\/c=46 then[]else if Xu c=true then[c]else[95]
def Zl(t s:List UInt8):List UInt8:=(up t s).flatMap kpB
theorem QrX(c:UInt8):(kpB c).length<=1:=by
 unfold kpB;split
 ·simp
 ·split<;>simp
theorem Qc4(u:List UInt8):(u.flatMap kpB).length<=u.length:=by
 induction u with
 | nil=>simp
 | cons c u ih=>
  rw[List.flatMap_cons,List.length_append,List.length_cons];have:=QrX c;omega
theorem Qnr{c:UInt8}(h:Xu c=true):c.toNat<128:=by
 unfold Xu at h;simp only[Bool.or_eq_true,Bool.and_eq_true,decide_eq_true_eq]at h;rcases h with(h|h)|h
 ·omega
 ·omega
 ·have:c∈Yz:=by simpa using h
  simp only[Yz,List.mem_cons,List.mem_nil_iff,or_false]at this;rcases this with rfl|rfl|rfl|rfl|rfl|rfl|rfl|rfl|rfl|rfl|rfl|rfl|rfl<;>decide
theorem Qmi{t s:List UInt8}:∀c∈Zl t s,c.toNat<128:=by
 intro c hc;obtain⟨x,_,hx⟩:=List.mem_flatMap.1 hc;unfold kpB at hx;split at hx
 ·cases hx
 ·split at hx
  ·rename_i h;rw[List.mem_singleton.1 hx];exact Qnr h
  ·rw[List.mem_singleton.1 hx];decide
theorem Qjz{t s:List UInt8}:(Zl t s).length<=s.length:=by
 have:=Qc4 (up t s);rw[ZL]at this;exact this
def Qcb(t s:List UInt8):List UInt8:=if Zl t (Zj s)=[]then[]else 46::(Zl t (Zj s)).take 3
def QeN(n:Nat):List UInt8:=126::Lib.itoa (n:Int)
def ZE(t s:List UInt8)(n:Nat):List UInt8:=(Zl t (Ze s)).take (min 6 (8-(QeN n).length))++QeN n++Qcb t s
theorem Qun(n:Nat):∀c∈Lib.decDigits n,48<=c.toNat/\c.toNat<=57:=by
 induction n using Nat.strongRecOn with
 | _ n ih=>
  intro c hc;unfold Lib.decDigits at hc;split at hc
  ·rename_i h;rw[List.mem_singleton.1 hc,UInt8.toNat_ofNat'];omega
  ·rename_i h;rcases List.mem_append.1 hc with h1|h1
   ·exact ih (n/10) om c h1
   ·rw[List.mem_singleton.1 h1,UInt8.toNat_ofNat'];omega
theorem QjD(n:Nat):Lib.itoa (n:Int)=Lib.decDigits n:=by
 unfold Lib.itoa;rw[if_neg om];rfl
theorem Qr7{n:Nat}(h:n<=999):1<=(Lib.decDigits n).length/\(Lib.decDigits n).length<=3:=by
 unfold Lib.decDigits;split
 ·simp
 ·rename_i h1;rw[List.length_append];unfold Lib.decDigits;split
  ·simp
  ·rename_i h2;rw[List.length_append];unfold Lib.decDigits;rw[dif_pos om];simp
theorem Qmj{n:Nat}(h:n<=999):2<=(QeN n).length/\(QeN n).length<=4:=by
 unfold QeN;rw[QjD,List.length_cons];have:=Qr7 h;omega
theorem QtR{n:Nat}:∀c∈QeN n,c.toNat<128:=by
 intro c hc;unfold QeN at hc;rcases List.mem_cons.1 hc with rfl|h
 ·decide
 ·rw[QjD]at h;have:=Qun n c h;omega
theorem Qqh{t s:List UInt8}:∀c∈Qcb t s,c.toNat<128:=by
 intro c hc;unfold Qcb at hc;split at hc
 ·cases hc
 ·rcases List.mem_cons.1 hc with rfl|h
  ·decide
  ·exact Qmi c (List.mem_of_mem_take h)
theorem Qr9{t s:List UInt8}{n:Nat}:∀c∈ZE t s n,c.toNat<128:=by
 intro c hc;unfold ZE at hc;rcases List.mem_append.1 hc with h|h
 ·rcases List.mem_append.1 h with h|h
  ·exact Qmi c (List.mem_of_mem_take h)
  ·exact QtR c h
 ·exact Qqh c h
theorem Qhg{t s:List UInt8}:(Qcb t s).length<=4:=by
 unfold Qcb;split
 ·simp
 ·simp;omega
theorem Qj7{t s:List UInt8}{n:Nat}(h:n<=999):(ZE t s n).length<=14:=by
 have h1:=Qmj h;have h2:=Qhg (t:=t) (s:=s);unfold ZE;rw[List.length_append,List.length_append,List.length_take];omega
def QhU(t s:List UInt8)(ks:List (List UInt8)):Nat->Nat->List UInt8×Int
 | _,0=>([],16)
 | n,f+1=>if up t (ZE t s n)∈ks then QhU t s ks (n+1) f else(ZE t s n,0)
def Z6(t s:List UInt8)(ks:List (List UInt8)):List UInt8×Int:=if Zl t (Ze s)=[]then([],3)else QhU t s ks 1 999
theorem QfU{t s:List UInt8}{ks ks':List (List UInt8)}(h:∀a,a∈ks ↔ a∈ks'):∀f n,QhU t s ks n f=QhU t s ks' n f
 | 0,n=>rfl
 | f+1,n=>by
  unfold QhU
  by_cases hm:up t (ZE t s n)∈ks
  ·rw[if_pos hm,if_pos ((h _).1 hm)];exact QfU h f (n+1)
  ·rw[if_neg hm,if_neg (λh9=>hm ((h _).2 h9))]
theorem Qh5{t s:List UInt8}{ks ks':List (List UInt8)}(h:∀a,a∈ks ↔ a∈ks'):Z6 t s ks=Z6 t s ks':=by
 unfold Z6;rw[QfU h]
end Go.Proofs
namespace Gx
open Go Go.RowKit
section
variable{P:Program}{o:Oper}{L:Qc}{w0:World}{M:List Nat}{As As':List HA}
theorem Quo{x y z:Operand}{k:IntKind}{a b c:Int}{ts:Array TypeId}(ho:o.op=.call {callee:=.builtin .min,args:=#[x,y,z],argTypes:=ts})(hx:ev L x=some (.int k a))(hy:ev L y=some (.int k b))(hz:ev L z=some (.int k c)):OpP P o L (.int k (if c<(if b<a then b else a)then c else(if b<a then b else a))):=by
 intro ρ w hρ;simp[execOp,ho,resolve,invoke,builtin,Builtin.min_,Builtin.min2,hρ _ _ hx,hρ _ _ hy,hρ _ _ hz]
end
end Gx
namespace Go.Proofs
open Go Go.RowKit Gx
attribute [local irreducible] Go.Calls Gx.S Gx.O Gx.D Gx.OpP Gx.OpQ Gx.OpH
set_option maxRecDepth 20000
instance:TFn Tryz.prog 290:=⟨by kernel_rfl⟩
instance:TFn Tryz.prog 236:=⟨by kernel_rfl⟩
instance:TFn Tryz.prog 237:=⟨by kernel_rfl⟩
instance:TFn Tryz.prog 238:=⟨by kernel_rfl⟩
theorem zv_4:tzv Tryz.prog 4=some (.bool false):=by kernel_rfl
abbrev KS:List UInt8->Value:=λl=>.string (bs l)
theorem it88(w:World)(k:Nat)(hk:k<100):Calls Tryz.prog 238 #[.int .i64 (k:Int)] w λen w'=>en=.returned (.string (bs (Lib.itoa (k:Int))))/\Below w.heap.size w w':=
  (Tryz.strconv_Itoa_small k hk w).mono λe w' h=>⟨by rw[h.1];rfl,Qak h.2⟩
theorem li86(w:World)(s:List UInt8)(hm:s.length<=1000000):Calls Tryz.prog 236 #[.string (bs s),.string (bs [46])] w λen w'=>en=.returned (.int .i64 (Lib.lastIndexByte (bs s) 46))/\Below w.heap.size w w':=
  (Tryz.strings_LastIndex_one (bs s) (bs [46]) rfl (by rw[bs_size];omega) w).mono λe w' h=>⟨by rw[h.1];rfl,Qak h.2⟩
theorem c237(w:World)(t s:List UInt8)(hl:t.length=128)(hc:∀c∈s,c.toNat<128)(hm:s.length<=1000000):CR 237 #[.string (bs t),.string (bs s)] w (.string (bs (Zl t s))):=by
 have hul:=ZL t s
 refine eN2 Tryz.func237 Tryz.ntmps237 ?_
 refine Qas ?_
 refine oCq rfl (λw1 h1=>QoW w1 t s hl hc hm) (o_h (Z0 rfl rfl Tryz.underlying9 Tryz.underlying226 Tryz.underlying5 rfl (by simp only[maxLen];omega)) rfl (λ⟨b1,c2⟩⟨h3,k4⟩=>aU4 ?_))
 refine Qp (α:=Nat×(Option Addr×Nat)) [5,7,13,14,15,16,17,18,19,20,21,22,23,24,25,26,27,28,29,30,31,32,33,34,35,36] (λy=>[(13,.int .i64 (y.1:Int)),(5,.slice y.2.1 (((up t s).take y.1).flatMap kpB).length y.2.2)]) (λy=>HS w [] [.own (.slice y.2.1 (((up t s).take y.1).flatMap kpB).length y.2.2) 5 1 (((up t s).take y.1).flatMap kpB).length ((((up t s).take y.1).flatMap kpB).map bv),.blk b1 5 c2 ((up t s).map bv)]) (λy=>y.1<=(up t s).length) (λy=>(up t s).length-y.1) (0,(none,0)) (Nat.zero_le _) aSx (λw h=>(h.own_nil 5 1).ent aEt) (λ⟨k,A⟩hk1=>?_)
 dsimp only at hk1 ⊢
 refine aU5 ?_
 refine sCd rfl (λh5=>?_) λh5=>?_
 ·have hk:k<(up t s).length:=by omega
  have e32:(((up t s).getD k 0).toNat:Int)=32 ↔ (up t s).getD k 0=32:=⟨λh=>UInt8.toNat_inj.1 (by show((up t s).getD k 0).toNat=32;omega),λh=>by rw[h];rfl⟩
  have e46:(((up t s).getD k 0).toNat:Int)=46 ↔ (up t s).getD k 0=46:=⟨λh=>UInt8.toNat_inj.1 (by show((up t s).getD k 0).toNat=46;omega),λh=>by rw[h];rfl⟩
  have hst:((up t s).take (k+1)).flatMap kpB=((up t s).take k).flatMap kpB++kpB ((up t s).getD k 0):=by rw[Xg (d:=0) hk,List.flatMap_append];simp
  have hkl:=Qc4 ((up t s).take k)
  have htl:((up t s).take k).length<=k:=by simp;omega
  refine aU5 ?_
  refine o_p (Qa rfl rfl rfl XF (k) om om rfl) rfl (o_q (QN rfl rfl QgM (λw h=>by rw[Nat.zero_add];exact h.rd_blk (Mc:=[]) (b:=b1) aPk (by rw[Nat.mul_one];exact Qcs hk) (by simp))) rfl (aU6 ?_))
  refine o_p (Qr rfl rfl rfl Tryz.underlying9 (0) om (by first|omega|decide)) rfl ?_
  refine aU2 ?_
  refine oOr 4 24 28 rfl
   (λhg6 _=>by
    refine aU3 ?_
    refine o_p (Qr rfl rfl rfl Tryz.underlying9 (0) om (by first|omega|decide)) rfl ?_
    refine aU2 ?_
    exact oJf 4 28)
   (λhg8 _=>by
    refine aU3 ?_
    exact oJt 4 28) ?_
  refine aU2 ?_
  refine sCd rfl (λh10=>?_) λh10=>?_
  ·have hkp:kpB ((up t s).getD k 0)=[]:=by have hq:(((up t s).getD k 0).toNat:Int)=32\/(((up t s).getD k 0).toNat:Int)=46:=h10;rw[e32,e46]at hq;unfold kpB;rw[if_pos hq]
   refine aT5 ?_
   refine aU2 ?_
   exact Qs (k+1,A) (by show(up t s).length-(k+1)<(up t s).length-k;omega) (by show k+1<=_;omega) (by(try dsimp only);rw[hst,hkp,List.append_nil];exact aSx) (λw h=>by dsimp only;rw[hst,hkp,List.append_nil];exact h.ent aEt)
  have hq1:¬(((up t s).getD k 0).toNat:Int)=32/\¬(((up t s).getD k 0).toNat:Int)=46:=h10
  rw[e32,e46]at hq1
  refine aU3 ?_
  refine oCq rfl (λw1 h1=>c290 w1 ((up t s).getD k 0)) (aU2 ?_)
  refine sCd rfl (λh11=>?_) λh11=>?_
  ·have hkp:kpB ((up t s).getD k 0)=[(up t s).getD k 0]:=by unfold kpB;rw[if_neg (by rintro(hA|hA);exact hq1.1 hA;exact hq1.2 hA),if_pos h11]
   refine aU3 ?_
   refine o_h (Ql (cs:=[_]) rfl rfl XF QhW rfl rfl rfl) rfl (λb12 _=>o_h (QF (n:=(((up t s).take k).flatMap kpB).length) [bv ((up t s).getD k 0)] rfl rfl rfl XF Tryz.underlying226 QhW rfl aPk (Xk aPk) rfl (by intro u hu;simp only[List.mem_cons,List.mem_nil_iff,or_false]at hu;subst hu;rfl) om (by simp only[maxLen];omega)) rfl (λb13 _=>aT6 ?_))
   refine aU2 ?_
   exact Qs (k+1,b13) (by show(up t s).length-(k+1)<(up t s).length-k;omega) (by show k+1<=_;omega) (by(try dsimp only);rw[hst,hkp,List.length_append];exact aSx) (λw h=>by dsimp only;rw[hst,hkp,List.length_append,List.map_append];exact h.ent aEt)
  have hkp:kpB ((up t s).getD k 0)=[95]:=by unfold kpB;rw[if_neg (by rintro(hA|hA);exact hq1.1 hA;exact hq1.2 hA),if_neg (by rw[h11];simp)]
  refine aU2 ?_
  refine o_h (Ql (cs:=[_]) rfl rfl XF QhW rfl rfl rfl) rfl (λb14 _=>o_h (QF (n:=(((up t s).take k).flatMap kpB).length) [bv 95] rfl rfl rfl XF Tryz.underlying226 QhW rfl aPk (Xk aPk) rfl (by intro u hu;simp only[List.mem_cons,List.mem_nil_iff,or_false]at hu;subst hu;rfl) om (by simp only[maxLen];omega)) rfl (λb15 _=>aT6 ?_))
  refine aU2 ?_
  exact Qs (k+1,b15) (by show(up t s).length-(k+1)<(up t s).length-k;omega) (by show k+1<=_;omega) (by(try dsimp only);rw[hst,hkp,List.length_append];exact aSx) (λw h=>by dsimp only;rw[hst,hkp,List.length_append,List.map_append];exact h.ent aEt)
 obtain rfl:k=(up t s).length:=om
 rw[List.take_length]
 refine Qg rfl ?_
 refine aU3 ?_
 refine o_q (Qd0 rfl rfl Tryz.underlying226 Tryz.underlying9 Tryz.underlying5 aPk (QcL _)) rfl (aU2 ?_)
 exact rV (h:=by simp only[Qa4];rfl)
set_option maxHeartbeats 2000000 in
theorem c174(w:World)(t s:List UInt8)(r:Nat)(ks:List (List UInt8))(hl:t.length=128)(hc:∀c∈s,c.toNat<128)(hm:s.length<=1000000)(hr:MpR w [] r KS ks)(m9:Nat)(hm9:1<=m9/\m9<=99)(hmn:¬up t (ZE t s m9)∈ks):CR 174 #[.string (bs t),.string (bs s),.map (some r)] w (.tuple #[.string (bs (Z6 t s ks).1),.int .i64 (Z6 t s ks).2]):=by
 have hcs:∀c∈Ze s,c.toNat<128:=by intro c hA;unfold Ze at hA;split at hA;exact hc c (List.mem_of_mem_take hA);exact hc c hA
 have hct:∀c∈Zj s,c.toNat<128:=by intro c hA;unfold Zj at hA;split at hA;exact hc c (List.mem_of_mem_drop hA);cases hA
 have hms:(Ze s).length<=1000000:=by unfold Ze;split;(rw[List.length_take];omega);exact hm
 have hmt:(Zj s).length<=1000000:=by unfold Zj;split;(rw[List.length_drop];omega);exact Nat.zero_le _
 have hks:=Qjz (t:=t) (s:=Ze s)
 have hkt:=Qjz (t:=t) (s:=Zj s)
 have h3:=Qhg (t:=t) (s:=s)
 refine eN3 Tryz.func174 Tryz.ntmps174 ?_
 refine Qqw ?_
 refine oCq rfl (λw1 h1=>li86 w1 s hm) (aU7 ?_)
 refine Xy (α:=Unit) [8,9,19,20,21,22,23,24,25] (λ_=>[(8,.string (bs (Ze s))),(9,.string (bs (Zj s)))]) (λ_=>HS w [] []) (λ_=>True) ?_ ?_
 ·skip
  refine sCd rfl (λh1=>?_) λh1=>?_
  ·obtain⟨hd1,hd2,hd3⟩:=Qsw h1
   have hst:Ze s=s.take (Qa7 s):=by rw[Ze,if_pos hd2]
   have htl:Zj s=s.drop (Qa7 s+1):=by rw[Zj,if_pos hd2]
   refine QH [] mixed ?_
   refine dP 0 ?_
   refine dP 1 ?_
   refine dV 2 rfl (Y9 (Qa7 s) rfl rfl rfl Tryz.underlying9 hd1 om) (dP 3 ?_)
   refine dP 4 ?_
   refine dP 5 ?_
   try refine dWr ?_
   refine Qz (show _=Value.int .i64 ((Qa7 s+1:Nat):Int)from by rw[hd1];rfl) (dV 6 rfl (XI (Qa7 s+1) rfl rfl rfl Tryz.underlying9 rfl om) (dP 7 ?_))
   refine dP 8 ?_
   refine dNi ?_
   exact Qo () trivial (by(try dsimp only);rw[hst,htl];exact aSx) (λw h=>h.ent aEt)
  have hd2:=QrL h1
  have hst:Ze s=s:=by rw[Ze,if_neg om]
  have htl:Zj s=[]:=by rw[Zj,if_neg om]
  refine aU ?_
  exact Qo () trivial (by(try dsimp only);rw[hst,htl];exact aSx) (λw h=>h.ent aEt)
 intro _ _
 refine aU4 ?_
 refine oCq rfl (λw1 h1=>c237 w1 t (Ze s) hl hcs hms) (aU2 ?_)
 refine oCq rfl (λw1 h1=>c237 w1 t (Zj s) hl hct hmt) (aU9 ?_)
 refine sCd rfl (λh2=>?_) λh2=>?_
 ·have hz:Zl t (Ze s)=[]:=h2
  refine aU5 ?_
  exact Qm (rs:=[.tmp 6,.tmp 7]) rfl (.tmp rfl (.tmp rfl (.nil))) (λw' h'=>⟨by rw[Z6,if_pos hz];rfl,h'.below⟩)
 have hz:¬Zl t (Ze s)=[]:=h2
 refine aU7 ?_
 refine Qd (L':=[(0,_),(2,_),(6,_),(7,_),(8,_),(9,_),(35,_)]) aSx (λ_ h=>h) ?_
 refine Xy (α:=Unit) [9,36,37,38,39,40,41] (λ_=>[(9,.string (bs (Qcb t s)))]) (λ_=>HS w [] []) (λ_=>True) ?_ ?_
 ·skip
  refine sCd rfl (λh3=>?_) λh3=>?_
  ·have h3e:Qcb t s=[46]++(Zl t (Zj s)).take (min (Zl t (Zj s)).length 3):=by rw[Qcb,if_neg h3];rcases Nat.le_total (Zl t (Zj s)).length 3 with hA|hA;(rw[Nat.min_eq_left hA,List.take_length,List.take_of_length_le hA];rfl);(rw[Nat.min_eq_right hA];rfl)
   refine aU3 ?_
   refine o_p (Qn rfl rfl Tryz.underlying9) rfl (o_p (QqU rfl rfl rfl ) rfl (o_p (Y9 (min (Zl t (Zj s)).length 3) rfl rfl rfl Tryz.underlying9 om om) rfl (o_p (XJ rfl rfl rfl (by(try simp only[List.length_append,List.length_cons,List.length_nil,List.length_replicate,List.length_take,List.length_drop]);omega)) rfl (aU2 ?_))))
   exact Qo () trivial (by(try dsimp only);rw[h3e];exact aSx) (λw h=>h.ent aEt)
  have h3e:Qcb t s=[]:=by rw[Qcb,if_pos h3]
  have h3f:Zl t (Zj s)=[]:=h3
  refine aU ?_
  exact Qo () trivial (by(try dsimp only);rw[h3e,h3f];exact aSx) (λw h=>h.ent aEt)
 intro _ _
 refine aU6 ?_
 refine Qp (α:=Nat) [6,7,11,12,13,42,43,44,45,46,47,48,49,50,51,52,53,54,55,56,57,58,59,60,61,62,63,64,65,66,67] (λk=>[(11,.int .i64 (k:Int))]) (λ_=>_) (λk=>1<=k/\k<=m9/\QhU t s ks 1 999=QhU t s ks k (1000-k)) (λk=>1000-k) 1 ⟨om,hm9.1,rfl⟩ aSx (λw h=>h) (λk hkk=>?_)
 obtain⟨hk0,hk1,hk2⟩:=hkk
 refine aU6 ?_
 refine sCd rfl (λh4=>?_) λh4=>?_
 ·have hk:k<=999:=by omega
  have hel:=Qmj hk
  have hel2:(Lib.itoa (k:Int)).length+1=(QeN k).length:=rfl
  obtain⟨f,hf⟩:∃f,1000-k=f+1:=⟨999-k,om⟩
  have hcl:=Qj7 (t:=t) (s:=s) hk
  refine aU6 ?_
  refine oCq rfl (λw1 h1=>it88 w1 k om) (o_p (XJ rfl rfl rfl (by(try simp only[List.length_append,List.length_cons,List.length_nil,List.length_replicate,List.length_take,List.length_drop]);omega)) rfl (Qu (show _=Value.string (bs (QeN k))from rfl) (aU6 ?_)))
  refine o_p (Qn rfl rfl Tryz.underlying9) rfl (aU ?_)
  refine o_p (Qn rfl rfl Tryz.underlying9) rfl (aT ?_)
  refine o_p (Quo rfl rfl rfl rfl ) rfl (o_p (Y9 (min (Zl t (Ze s)).length (min 6 (8-(QeN k).length))) rfl rfl rfl Tryz.underlying9 om om) rfl (aU ?_))
  refine o_p (XJ rfl rfl rfl (by(try simp only[List.length_append,List.length_cons,List.length_nil,List.length_replicate,List.length_take,List.length_drop]);omega)) rfl (aU ?_)
  refine o_p (XJ rfl rfl rfl (by(try simp only[List.length_append,List.length_cons,List.length_nil,List.length_replicate,List.length_take,List.length_drop]);omega)) rfl (Qu (show _=Value.string (bs (ZE t s k))from by rw[show ZE t s k=(Zl t (Ze s)).take (min (Zl t (Ze s)).length (min 6 (8-(QeN k).length)))++QeN k++Qcb t s from by rw[ZE,List.take_eq_take_min (i:=min 6 (8-(QeN k).length)),Nat.min_comm (Zl t (Ze s)).length]]) (aU7 ?_))
  refine oCq rfl (λw1 h1=>QoW w1 t (ZE t s k) hl Qr9 (by have:=Qj7 (t:=t) (s:=s) (n:=k) om;omega)) (o_q (QhN (K:=KS) rfl rfl rfl Tryz.underlying248 zv_4 (QlS Tryz.underlying9) (hr)) rfl (aU2 ?_))
  refine sCd rfl (λh5=>?_) λh5=>?_
  ·have hin:¬up t (ZE t s k)∈ks:=h5
   refine aU ?_
   refine Qd (L':=[(0,_),(2,_),(8,_),(9,_),(11,_),(13,_),(35,_)]) aSx (λ_ h=>h) ?_
   refine aU5 ?_
   exact Qm (rs:=[.tmp 6,.tmp 7]) rfl (.tmp rfl (.tmp rfl (.nil))) (λw' h'=>⟨by rw[Z6,if_neg hz,hk2,hf,QhU,if_neg hin];rfl,h'.below⟩)
  have hin:up t (ZE t s k)∈ks:=h5
  have hne9:k≠m9:=λe=>hmn (by rw[<-e];exact hin)
  refine aU2 ?_
  refine Qd (L':=[(0,_),(2,_),(8,_),(9,_),(11,_),(35,_)]) aSx (λ_ h=>h) ?_
  refine aT3 ?_
  refine aU2 ?_
  exact Qs (k+1) om ⟨om,om,by rw[hk2,hf,QhU,if_pos hin,show 1000-(k+1)=f by omega]⟩ aSx (λw h=>h)
 exfalso;omega
instance:TFn Tryz.prog 173:=⟨by kernel_rfl⟩
instance:TFn Tryz.prog 175:=⟨by kernel_rfl⟩
instance:TFn Tryz.prog 174:=⟨by kernel_rfl⟩
noncomputable def Qka(t:List UInt8)(l:List (List UInt8)):List (List UInt8):=(l.map (up t)).foldl ZV []
theorem QnS{l ks:List (List UInt8)}:∀{x},x∈l.foldl ZV ks ↔ x∈ks\/x∈l:=by
  induction l generalizing ks with
  | nil=>intro x;simp
  | cons a l ih=>
    intro x;rw[List.foldl_cons,ih];unfold ZV;split
    · rename_i h;simp only[List.mem_cons];constructor
      · rintro(h1|h1)
        · exact .inl h1
        · exact .inr (.inr h1)
      · rintro(h1|rfl|h1)
        · exact .inl h1
        · exact .inl h
        · exact .inr h1
    · simp only[List.mem_append,List.mem_cons,List.mem_nil_iff,or_false,or_assoc]
theorem Qls{t:List UInt8}{l:List (List UInt8)}(x:List UInt8):x∈Qka t l ↔ x∈l.map (up t):=by
  unfold Qka;rw[QnS];simp
theorem QnT{t:List UInt8}{l:List (List UInt8)}{k:Nat}(h:k<l.length):Qka t (l.take (k+1))=ZV (Qka t (l.take k)) (up t (l.getD k [])):=by
  unfold Qka;rw[Xg (d:=[]) h,List.map_append,List.foldl_append];rfl
def Qbc(t s:List UInt8)(l:List (List UInt8)):Int:=if openE t [s]=0 then if YR (up t s)=true then 12 else QaI l else openE t [s]
theorem c175(w:World)(t:List UInt8)(a:Option Addr)(cap:Nat)(l:List (List UInt8))(hl:t.length=128)(hc:∀s∈l,∀c∈s,c.toNat<128)(hs:Vl w a (l.map Qdq))(hln:l.length<=1000000)(hml:∀s∈l,s.length<=1000000):CE 175 #[.string (bs t),.slice a l.length cap] w [] (λg:Nat=>.map (some g)) (λg=>True) λg=>[.mp g KS (Qka t l)]:=by
 refine eN2 Tryz.func175 Tryz.ntmps175 ?_
 refine aU6 ?_
 refine o_h (Qa8 rfl KS) rfl (λb1 _=>Qbf ?_)
 refine Qp (α:=Nat) [7,11,12,13,14,15,16,17,18,19] (λk=>[(11,.int .i64 (k:Int))]) (λk=>HS w [] [.mp b1 KS (Qka t (l.take k))]) (λk=>k<=l.length) (λk=>l.length-k) 0 (Nat.zero_le _) aSx (λw h=>h.ent aEt) (λk hk1=>?_)
 refine aU5 ?_
 refine sCd rfl (λh2=>?_) λh2=>?_
 ·have hk:k<l.length:=by omega
  have hgm:=XL (d:=[]) hk
  have hst:=QnT (t:=t) hk
  refine aU5 ?_
  refine o_p (Qa rfl rfl rfl Zf (k) om om (hs.some (by rw[List.length_map];omega))) rfl (o_q (Qb rfl rfl X1 ((hs.rd (Qce (k:=k) hk)))) rfl (aU6 ?_))
  refine oCq rfl (λw1 h1=>QoW w1 t (l.getD k []) hl (hc _ hgm) (hml _ hgm)) (QcX (Qcv (K:=KS) (.inl rfl) rfl rfl rfl Tryz.underlying248 (QlS Tryz.underlying9) aPt) (λ_ _=>aT4 ?_))
  refine aU2 ?_
  exact Qs (k+1) om om aSx (λw h=>by rw[hst];exact h.ent aEt)
 obtain rfl:k=l.length:=om
 rw[List.take_length]
 refine Qg rfl ?_
 refine aU5 ?_
 exact rT rfl rfl (λw' h'=>⟨_,rfl,trivial,h'.ent aEt⟩)
theorem c118(w:World)(t s:List UInt8)(a:Option Addr)(cap:Nat)(l:List (List UInt8))(hmt:t.length<=1000000)(hm:s.length<=1000000)(hs:Vl w a (l.map Qdq))(hln:l.length<=1000000)(hml:∀s∈l,s.length<=1000000)(m9:Nat)(hm9:1<=m9/\m9<=99)(hmn:¬up t (ZE t s m9)∈l.map (up t)):CR 118 #[.string (bs t),.string (bs s),.slice a l.length cap] w (.tuple #[.string (bs (if(Qbc t s l)=0 then(Z6 t s (l.map (up t))).1 else[])),.int .i64 (if(Qbc t s l)=0 then(Z6 t s (l.map (up t))).2 else(Qbc t s l))]):=by
 refine eN3 Tryz.func118 Tryz.ntmps118 ?_
 refine aU9 ?_
 refine o_h (Ql (cs:=[_]) rfl rfl Zf Qiv rfl rfl rfl) rfl (λb1 _=>oCq rfl (λw1 h1=>c170 w1 t _ _ [s] hmt (h1.vl_blk aPk) (by simp) (by intro x hx;simp only[List.mem_cons,List.mem_nil_iff,or_false]at hx;subst hx;assumption)) (QbX ?_))
 refine sCd rfl (λh2=>?_) λh2=>?_
 ·have h0:¬openE t [s]=0:=h2
  have hse:Qbc t s l=openE t [s]:=by rw[Qbc,if_neg h0]
  refine aU6 ?_
  exact Qm (rs:=[.tmp 6,.tmp 7]) rfl (.tmp rfl (.tmp rfl (.nil))) (λw' h'=>⟨by rw[hse,if_neg h0,if_neg h0];rfl,h'.below⟩)
 have h0:openE t [s]=0:=h2
 have ho:=Qjn h0
 have hx:=Qcd (ho.2 s (by simp))
 have hl:=(QeI ho.1).1
 have hul:=ZL t s
 have hse:XM [.int .i64 (bif !YR (up t s)then 0 else 12),.int .i64 (QaI l)]=Qbc t s l:=by rw[QdI,Qbc,if_pos h0];cases YR (up t s)<;>simp
 refine aU6 ?_
 refine oCq rfl (λw1 h1=>QoW w1 t s hl hx hm) (oCq rfl (λw1 h1=>QrP w1 (up t s) om) (aU ?_))
 refine oCq rfl (λw1 h1=>Qj5 w1 _ _) (aU ?_)
 refine oCq rfl (λw1 h1=>c173 w1 a cap l (hs.later h1) hln hml) (o_h (Ql (cs:=[_,_]) rfl rfl Yw QaC rfl rfl rfl) rfl (λb3 _=>oCq rfl (λw1 h1=>f137 h1 aPk (by rfl) (by rfl) (by decide)) (aU7 ?_)))
 refine sCd rfl (λh4=>?_) λh4=>?_
 ·have h1z:¬Qbc t s l=0:=by rw[<-hse];exact h4
  refine aU6 ?_
  exact Qm (rs:=[.tmp 6,.tmp 7]) rfl (.tmp rfl (.tmp rfl (.nil))) (λw' h'=>⟨by rw[<-hse]at h1z ⊢;rw[if_neg h1z,if_neg h1z];rfl,h'.below⟩)
 have h1z:Qbc t s l=0:=by rw[<-hse];exact h4
 have hnl:∀q∈l,∀c∈q,c.toNat<128:=by unfold Qbc at h1z;rw[if_pos h0]at h1z;split at h1z;(exact absurd h1z (by decide));exactλq hq=>Qcd ((Qnt h1z).2 q hq)
 refine aU7 ?_
 refine oCh rfl (λw1 h1=>c175 w1 t a cap l hl hnl (hs.later h1) hln hml) (λb5 _=>oCq rfl (λw1 h1=>c174 w1 t s b5 (Qka t l) hl hx hm (h1.mpr aPk) m9 hm9 (λhm=>hmn ((Qls _).1 hm))) (aU5 ?_))
 exact Qm (rs:=[.tmp 6,.tmp 7]) rfl (.tmp rfl (.tmp rfl (.nil))) (λw' h'=>⟨by rw[if_pos h1z,if_pos h1z,<-Qh5 (λx=>Qls (t:=t) (l:=l) x)];rfl,h'.below⟩)
end Go.Proofs
namespace Gx
open Go Go.RowKit
def by8(n:Int):UInt8:=UInt8.ofNat (n%256).toNat
def at1(s:List UInt8)(i:Nat):Int:=((s.getD i 0).toNat:Int)
def at2(s:List UInt8)(i:Nat):Int:=at1 s i+at1 s (i+1)*256
def at4(s:List UInt8)(i:Nat):Int:=at2 s i+at2 s (i+2)*65536
theorem u8wI(n:Int):IntKind.u8.wrap n=n%256:=by simp[IntKind.wrap,IntKind.signed,IntKind.bits]
theorem Qmg(n:Int):IntKind.u32.wrap n=n%4294967296:=by simp[IntKind.wrap,IntKind.signed,IntKind.bits]
theorem Qhj(n:Int):((by8 n).toNat:Int)=n%256:=by
 unfold by8;rw[UInt8.toNat_ofNat'];omega
theorem Qq0(n:Int):Value.int .u8 (IntKind.u8.wrap n)=bv (by8 n):=by rw[u8wI,bv,Qhj]
def Zy:Nat->Int->List UInt8
 | 0,_=>[]
 | k+1,n=>by8 n::Zy k (n/256)
theorem ZA:∀(k:Nat)(n:Int),(Zy k n).length=k
 | 0,_=>rfl
 | k+1,n=>by rw[Zy,List.length_cons,ZA k]
theorem QnB(a b:Nat)(ha:a<4294967296)(hb:b<4294967296):bits .or .u32 (a:Int) (b:Int)=((a ||| b:Nat):Int):=by
 change IntKind.u32.wrap (((BitVec.ofInt 32 (a:Int)) ||| (BitVec.ofInt 32 (b:Int)):BitVec 32).toNat:Int)=_
 rw[BitVec.toNat_or,YV 32 a ha,YV 32 b hb,Qmg];have:a ||| b<4294967296:=Nat.or_lt_two_pow (n:=32) ha hb
 omega
theorem QmH(a b:Nat)(ha:a<9223372036854775808)(hb:b<9223372036854775808):bits .or .i64 (a:Int) (b:Int)=((a ||| b:Nat):Int):=by
 change IntKind.i64.wrap (((BitVec.ofInt 64 (a:Int)) ||| (BitVec.ofInt 64 (b:Int)):BitVec 64).toNat:Int)=_
 rw[BitVec.toNat_or,YV 64 a om,YV 64 b om];have:a ||| b<9223372036854775808:=Nat.or_lt_two_pow (n:=63) ha hb
 exact IntWalk.i64_in _ ⟨om,om⟩
theorem Qrb(a b:Nat)(h:a<256):a ||| 256*b=a+256*b:=by
 have h:=Nat.two_pow_add_eq_or_of_lt (i:=8) (b:=a) om b
 grind
theorem Qo6(a b:Nat)(h:a<65536):a ||| 65536*b=a+65536*b:=by
 have h:=Nat.two_pow_add_eq_or_of_lt (i:=16) (b:=a) om b
 grind
theorem QeG(s:List UInt8)(i:Nat):0<=at1 s i/\at1 s i<256:=by
 have:=(s.getD i 0).toNat_lt;unfold at1;omega
theorem Qez(s:List UInt8)(i:Nat):0<=at2 s i/\at2 s i<65536:=by
 have:=QeG s i;have:=QeG s (i+1);unfold at2;omega
theorem QhY(s:List UInt8)(i:Nat):0<=at4 s i/\at4 s i<4294967296:=by
 have:=Qez s i;have:=Qez s (i+2);unfold at4;omega
theorem Qga(s:List UInt8)(k i:Nat):at1 (s.drop k) i=at1 s (k+i):=by grind[at1]
theorem QfP(s:List UInt8)(k i:Nat):at2 (s.drop k) i=at2 s (k+i):=by unfold at2;rw[Qga,Qga,Nat.add_assoc]
theorem Qok(s:List UInt8)(k i:Nat):at4 (s.drop k) i=at4 s (k+i):=by unfold at4;rw[QfP,QfP,Nat.add_assoc]
theorem Qo5(s:List UInt8)(i:Nat):Value.int .u16 (bits .or .u16 (IntKind.u16.wrap ((s.getD i 0).toNat:Int)) (IntKind.u16.wrap (IntKind.u16.wrap ((s.getD (i+1) 0).toNat:Int)*2^8)))=.int .u16 (at2 s i):=by
 have ha:=(s.getD i 0).toNat_lt;have hb:=(s.getD (i+1) 0).toNat_lt;rw[Qre,wv,w2,UInt16.toNat_ofNat',Nat.mod_eq_of_lt om];unfold at2 at1;congr 1;omega
theorem Qoz(X Y:Int)(hx:0<=X/\X<65536)(hy:0<=Y/\Y<65536):Value.int .u32 (bits .or .u32 (IntKind.u32.wrap X) (IntKind.u32.wrap (IntKind.u32.wrap Y*2^16)))=.int .u32 (X+Y*65536):=by
 obtain⟨a,rfl⟩:=Int.eq_ofNat_of_zero_le hx.1;obtain⟨b,rfl⟩:=Int.eq_ofNat_of_zero_le hy.1
 have e1:IntKind.u32.wrap ((b:Nat):Int)*2^16=((65536*b:Nat):Int):=by
  rw[Qmg];omega
 rw[e1,Qmg,Qmg,show(a:Int)%4294967296=(a:Nat) by omega,show((65536*b:Nat):Int)%4294967296=((65536*b:Nat):Int) by omega,QnB _ _ om om,Qo6 _ _ om];congr 1;omega
theorem QqG{a:Option Addr}{b o cap k:Nat}(ha:a=some ⟨b,o,none⟩)(h:k<cap):Zg a cap k 1=some ⟨b,o+k,none⟩:=by
 subst ha
 grind[Zg,XD]
theorem Vl.drop{w:World}{a:Option Addr}{vs:List Value}{cap k:Nat}(h:Vl w a vs)(hk:k<vs.length)(hc:k<cap):Vl w (Zg a cap k 1) (vs.drop k):=by
 obtain⟨b,o,rfl,h2⟩:=h.at_ om;refine⟨λhn=>⟨b,o+k,QqG rfl hc,λi hi=>?_⟩⟩
 grind
def Xl(s:List UInt8):Nat->Nat->Int
 | _,0=>0
 | a,k+1=>at1 s a+256*Xl s (a+1) k
theorem QbC(s:List UInt8)(a:Nat):Xl s a 4=at4 s a:=by simp only[Xl,at4,at2,show a+1+1=a+2 from rfl];omega
theorem QhM(s:List UInt8):∀(k a:Nat),0<=Xl s a k/\Xl s a k<256^k
 | 0,a=>by simp[Xl]
 | k+1,a=>by
  have h1:=QhM s k (a+1);have h2:=QeG s a
  grind[Xl]
theorem QnU(s:List UInt8)(a:Nat){k:Nat}(h:k<=6):0<=Xl s a k/\Xl s a k<281474976710656:=by
 have h1:=QhM s k a;have h2:∀k≤6,(256:Int)^k<=281474976710656:=by decide
 grind
end Gx
namespace Gx
open Go Go.RowKit
structure TEnt where
 key:List UInt8
 val:List UInt8
deriving DecidableEq,Inhabited
structure Nd where
 us:Bool
 es:List TEnt
 cs:List Int
deriving DecidableEq,Inhabited
structure Tre where
 co:Int
 mo:Int
 rm:Int
 ns:List Nd
deriving DecidableEq,Inhabited
structure LNd where
 us:Bool
 ea:Option Addr
 ec:Nat
 es:List TEnt
 ca:Option Addr
 cc:Nat
 cs:List Int
deriving Inhabited
def LNd.pl(n:LNd):Nd:=⟨n.us,n.es,n.cs⟩
abbrev pln(L:List LNd):List Nd:=L.map LNd.pl
def TEnt.vals(x:TEnt):List Value:=[.string (bs x.key),.string (bs x.val)]
def inV(x:Int):List Value:=[.int .i64 x]
def LNd.vals(n:LNd):List Value:=[.bool n.us,.slice n.ea n.es.length n.ec,.slice n.ca n.cs.length n.cc]
theorem ev2(x:TEnt):x.vals.length=2:=rfl
theorem iv1(x:Int):(inV x).length=1:=rfl
theorem nv3(n:LNd):n.vals.length=3:=rfl
theorem ev1(x:TEnt):∀u∈x.vals,u.oneCell'=true:=by
 intro u hu;simp only[TEnt.vals,List.mem_cons,List.mem_nil_iff,or_false]at hu;rcases hu with rfl|rfl<;>rfl
theorem iv1c(x:Int):∀u∈inV x,u.oneCell'=true:=by
 intro u hu;simp only[inV,List.mem_cons,List.mem_nil_iff,or_false]at hu;subst hu;rfl
theorem nv1(n:LNd):∀u∈n.vals,u.oneCell'=true:=by
 intro u hu;simp only[LNd.vals,List.mem_cons,List.mem_nil_iff,or_false]at hu;rcases hu with rfl|rfl|rfl<;>rfl
def Nt(w:World)(M:List Nat)(a:Option Addr)(L:List LNd):Prop:=Rw LNd.vals 3 w M a L/\∀n∈L,Rw TEnt.vals 2 w M n.ea n.es/\Rw inV 1 w M n.ca n.cs
section
variable{w w':World}{M M':List Nat}{As:List HA}{a:Option Addr}{L:List LNd}
theorem Nt.later(h:Nt w M a L)(hs:HS w M As w'):Nt w' [] a L:=⟨Rw.later h.1 hs,λn hn=>⟨(h.2 n hn).1.later hs,(h.2 n hn).2.later hs⟩⟩
theorem Nt.keep(h:Nt w M a L)(hs:HS w M As w'):Nt w' (fps As) a L:=⟨Rw.keep h.1 hs,λn hn=>⟨(h.2 n hn).1.keep hs,(h.2 n hn).2.keep hs⟩⟩
theorem Nt.mono(h:Nt w M a L)(hM:∀b∈M',b∈M):Nt w M' a L:=⟨Rw.mono h.1 hM,λn hn=>⟨(h.2 n hn).1.mono hM,(h.2 n hn).2.mono hM⟩⟩
theorem Nt.es(h:Nt w M a L){k:Nat}(hk:k<L.length):Rw TEnt.vals 2 w M (nth L k).ea (nth L k).es:=(h.2 _ (Qt hk)).1
theorem Nt.cs(h:Nt w M a L){k:Nat}(hk:k<L.length):Rw inV 1 w M (nth L k).ca (nth L k).cs:=(h.2 _ (Qt hk)).2
end
def HA.ents(et:Nat)(a:Option Addr)(cap:Nat)(l:List TEnt):HA:=.own (.slice a l.length cap) et 2 l.length (l.flatMap TEnt.vals)
def HA.kids(a:Option Addr)(cap:Nat)(l:List Int):HA:=.own (.slice a l.length cap) 3 1 l.length (l.flatMap inV)
def Qd3(et:Nat)(n:LNd):HA:=.star [.ents et n.ea n.ec n.es,.kids n.ca n.cc n.cs]
def HA.nodes(et nt:Nat)(a:Option Addr)(cap:Nat)(L:List LNd):HA:=.row nt 3 LNd.vals (Qd3 et) a cap L
section
variable{w0 w:World}{M:List Nat}{As As':List HA}{a:Option Addr}{cap et nt':Nat}{L:List LNd}
theorem HS.nt(h:HS w0 M As w)(hp:QL As (.nodes et nt' a cap L) As'):Nt w [] a L:=by
 have h1:=HS.row_open (h.pick hp);refine⟨h1.rw_own nv3 .here rfl,λn hn=>?_⟩;obtain⟨i,hi,e⟩:=List.getElem_of_mem hn;have e2:nth L i=n:=Yi (by rw[List.getElem?_eq_getElem hi,e]);have h2:=h1.tail.sub_open hi;rw[e2]at h2;have h3:=HS.star_open h2;exact⟨h3.rw_own ev2 .here rfl,h3.rw_own iv1 (.there .here) rfl⟩
end
def YI:List UInt8->List UInt8->Int
 | [],[]=>0
 | [],_::_=>-1
 | _::_,[]=>1
 | a::x,b::y=>if a<b then -1 else if b<a then 1 else YI x y
theorem QgP:∀{a b c},YI a b<0->YI b c<0->YI a c<0
 | [],[],_,h,_=>by simp[YI]at h
 | _::_,[],_,h,_=>by simp[YI]at h
 | [],_::_,[],_,h=>by simp[YI]at h
 | [],_::_,_::_,_,_=>by simp[YI]
 | _::_,_::_,[],_,h=>by simp[YI]at h
 | a::x,b::y,c::z,h,h2=>by
  unfold YI at h h2 ⊢
  by_cases e:a<b
  ·grind
  ·rw[if_neg e]at h
   by_cases e3:b<a
   ·grind
   ·rw[if_neg e3]at h;have hab:a=b:=by grind
    subst hab
    by_cases e4:a<c
    ·grind
    ·rw[if_neg e4]at h2 ⊢
     by_cases e5:c<a
     ·grind
     ·rw[if_neg e5]at h2 ⊢;exact QgP h h2
def QbH(c:UInt8):UInt8:=if 97<=c/\c<=122 then c-32 else c
def XR(a b:Int):Int:=if a<b then -1 else if b<a then 1 else 0
def QS(co:Int)(a b:List UInt8):Int:=
 if co=2 then XR (at4 a 0) (at4 b 0)
 else if co=3 then if XR (at4 a 0) (at4 b 0)≠0 then XR (at4 a 0) (at4 b 0)else XR (at4 a 4) (at4 b 4)
 else if co=1 then YI (a.map QbH) (b.map QbH)else YI a b
def QeY(s:List UInt8)(p:Nat):Bool:=decide (at4 s p<=2147483647)
def Q7(co:Int)(k:List UInt8):Bool:=
 if co=0 then decide (1<=k.length/\k.length<=40)
 else if co=1 then decide (1<=k.length/\k.length<=32)
 else if co=2 then decide (k.length=4)&&QeY k 0
 else decide (k.length=8)&&(QeY k 0&&QeY k 4)
def YM(co:Int)(k:List UInt8):Int:=if Q7 co k then 0 else 3
def YU(co:Int)(x:TEnt):Int:=if YM co x.key=0 then if x.val.length<=64 then 0 else 8 else 3
def QK(co:Int):Int:=if 0<=co/\co<=3 then 0 else 15
def Zn(mo rm:Int):Int:=if(3<=mo/\mo<=8)/\(mo/2<=rm/\rm<=mo)then 0 else 2
def Qnh(s:List UInt8)(p:Nat):List UInt8:=[s.getD (p+3) 0,s.getD (p+2) 0,s.getD (p+1) 0,s.getD p 0]
def Qup(co:Int)(k:List UInt8):List UInt8:=if co=2 then Qnh k 0 else if co=3 then Qnh k 0++Qnh k 4 else if co=1 then k.map QbH else k
theorem QiK(a b:List UInt8)(p:Nat)(x y:List UInt8):YI (Qnh a p++x) (Qnh b p++y)=if XR (at4 a p) (at4 b p)≠0 then XR (at4 a p) (at4 b p)else YI x y:=by
 have h:∀(s:List UInt8)i,(s.getD i 0).toNat<256:=λs i=>UInt8.toNat_lt _;have a0:=h a p;have a1:=h a (p+1);have a2:=h a (p+2);have a3:=h a (p+3);have b0:=h b p;have b1:=h b (p+1);have b2:=h b (p+2);have b3:=h b (p+3);unfold Qnh;simp only[List.cons_append,List.nil_append,YI,XR,at4,at2,at1,UInt8.lt_iff_toNat_lt,Nat.add_assoc,Nat.reduceAdd];omega
theorem Qo7(co:Int)(a b:List UInt8):QS co a b=YI (Qup co a) (Qup co b):=by
 unfold QS Qup;split
 ·have h:=QiK a b 0 [] []
  grind[YI]
 ·split
  ·rw[QiK];congr 1;have h:=QiK a b 4 [] []
   grind[YI]
  ·split<;>rfl
theorem Qbr{co:Int}{a b c:List UInt8}(h:QS co a b<0)(h2:QS co b c<0):QS co a c<0:=by rw[Qo7]at h h2 ⊢;exact QgP h h2
def Asc(co:Int)(es:List TEnt):Prop:=∀k,k+1<es.length->QS co (nth es k).key (nth es (k+1)).key<0
theorem Asc.lt{co:Int}{es:List TEnt}(h:Asc co es):∀{i j:Nat},i<j->j<es.length->QS co (nth es i).key (nth es j).key<0
 | i,0,hij,_=>absurd hij (Nat.not_lt_zero _)
 | i,j+1,hij,hj=>by
  rcases Nat.lt_or_ge i j with h1|h1
  ·exact Qbr (Asc.lt h h1 om) (h j hj)
  ·obtain rfl:i=j:=by omega
   exact h i hj
def Qbe(co:Int)(es:List TEnt)(k:Nat):Int:=if k=0\/QS co (nth es (k-1)).key (nth es k).key<0 then 0 else 9
def Qbi(co:Int)(es:List TEnt):Int:=(QD ((List.range es.length).map (Qbe co es)) 0).2
theorem Qps{co:Int}{es:List TEnt}(h:Qbi co es=0):Asc co es:=λk hk=>by
 unfold Qbi at h;have h1:=ZZ.1 h (Qbe co es (k+1)) (List.mem_map.2 ⟨k+1,List.mem_range.2 hk,rfl⟩)
 grind[Qbe]
def X4(ns:List Nd):List Int->List Int->Int×List Int
 | [],seen=>(0,seen)
 | c::cs,seen=>if(1<=c/\c<=(ns.length:Int)-1)/\(nth ns c.toNat).us=true then if c∈seen then(23,c::seen)else X4 ns cs (c::seen)else(6,seen)
def ZJ(co:Int)(es:List TEnt):Int:=(QD (es.map (YU co)) 0).2
def YL(mo rm:Int)(i:Nat):Int:=if i=0 then rm else mo
def XO(t:Tre)(i:Nat)(seen:List Int):Int×List Int:=
 let n:=nth t.ns i
 if n.us=true then
  if(n.es.length:Int)<=YL t.mo t.rm i then
   if n.cs.length=0\/n.cs.length=n.es.length+1 then
    if ZJ t.co n.es=0 then
     if(X4 t.ns n.cs seen).1=0 then(Qbi t.co n.es,(X4 t.ns n.cs seen).2)else X4 t.ns n.cs seen
    else(ZJ t.co n.es,seen)
   else(10,seen)
  else(16,seen)
 else if(0<i/\i+1<t.ns.length)/\n.es.length+n.cs.length=0 then(0,seen)else(3,seen)
def X0(t:Tre):Nat->Nat->List Int->Int×Int
 | 0,_,_=>(0,0)
 | f+1,i,seen=>if(XO t i seen).1=0 then X0 t f (i+1) (XO t i seen).2 else((i:Int),(XO t i seen).1)
structure Vis where
 i:Nat
 d:Int
 lo:Option (List UInt8)
 hi:Option (List UInt8)
deriving Inhabited
def loK(es:List TEnt)(k:Nat)(lo:Option (List UInt8)):Option (List UInt8):=if 0<k then some (nth es (k-1)).key else lo
def hiK(es:List TEnt)(k:Nat)(hi:Option (List UInt8)):Option (List UInt8):=if k<es.length then some (nth es k).key else hi
def vis(ns:List Nd):Nat->Vis->List Vis
 | 0,_=>[]
 | f+1,v=>v::(List.range (nth ns v.i).cs.length).flatMap λk=>vis ns f ⟨((nth ns v.i).cs.getD k 0).toNat,v.d+1,loK (nth ns v.i).es k v.lo,hiK (nth ns v.i).es k v.hi⟩
def Z4:Vis:=⟨0,1,none,none⟩
def Yy(ns:List Nd):List Vis:=vis ns ns.length Z4
def YW(ns:List Nd):Nat->Nat->Int
 | 0,_=>0
 | f+1,i=>if(nth ns i).cs.length=0 then 0 else YW ns f ((nth ns i).cs.getD 0 0).toNat+1
def QcW(t:Tre)(deep:Int)(v:Vis):Int:=
 let n:=nth t.ns v.i
 if 0<v.i/\((n.es.length:Int)<t.mo/2\/((nth t.ns 0).es.length=0/\(v.i:Int)∈(nth t.ns 0).cs)/\(n.es.length:Int)<=t.rm)then 14
 else if(n.es.any λx=>(v.lo.any λb=>decide (0<=QS t.co b x.key))||(v.hi.any λb=>decide (0<=QS t.co x.key b)))=true then 9
 else if n.cs.length=0/\v.d≠deep+1 then 22 else 0
def Qap(ns:List Nd)(below:List Nat):Nat->Nat->Option Nat
 | 0,_=>none
 | f+1,i=>if(nth ns i).us=true/\i ∉ below then some i else Qap ns below f (i+1)
def X6(t:Tre)(deep:Int):List Vis->Int×Int
 | []=>(0,0)
 | v::vs=>if QcW t deep v=0 then X6 t deep vs else((v.i:Int),QcW t deep v)
def Yb(t:Tre):Int×Int:=
 if QK t.co=0 then
  if Zn t.mo t.rm=0 then
   if 0<t.ns.length then
    if t.ns.length<=120 then
     if(X0 t t.ns.length 0 []).2=0 then
      match Qap t.ns ((Yy t.ns).map Vis.i) t.ns.length 0 with
      | some i=>((i:Int),21)
      | none=>X6 t (YW t.ns t.ns.length 0) (Yy t.ns)
     else X0 t t.ns.length 0 []
    else(0,8)
   else(0,10)
  else(0,2)
 else(0,15)
structure TOk(co:Int)(ns:List Nd):Prop where
 kid:∀i,i<ns.length->∀c∈(nth ns i).cs,(1<=c/\c<=(ns.length:Int)-1)/\(nth ns c.toNat).us=true
 once:(ns.flatMap Nd.cs).Nodup
 shape:∀i,i<ns.length->(nth ns i).cs.length=0\/(nth ns i).cs.length=(nth ns i).es.length+1
 free:∀i,i<ns.length->(nth ns i).us=false->(0<i/\i+1<ns.length)/\(nth ns i).es=[]/\(nth ns i).cs=[]
 asc:∀i,i<ns.length->Asc co (nth ns i).es
 ents:∀i,i<ns.length->∀x∈(nth ns i).es,YU co x=0
theorem QjT{ns:List Nd}:∀{cs seen:List Int},(X4 ns cs seen).1=0->(∀c∈cs,(1<=c/\c<=(ns.length:Int)-1)/\(nth ns c.toNat).us=true)/\(X4 ns cs seen).2=cs.reverse++seen/\(seen.Nodup->(cs.reverse++seen).Nodup)
 | [],seen,_=>⟨λc hc=>(nomatch hc),rfl,λh=>h⟩
 | c::cs,seen,h=>by
  unfold X4 at h ⊢;split at h
  ·rename_i h1;split at h
   ·cases h
   ·rename_i h2;rw[if_pos h1,if_neg h2];obtain⟨h3,h4,h5⟩:=QjT h
    grind
  ·cases h
theorem Qlp{t:Tre}{i:Nat}{seen:List Int}(h:(XO t i seen).1=0) :
  ((nth t.ns i).us=true->(∀c∈(nth t.ns i).cs,(1<=c/\c<=(t.ns.length:Int)-1)/\(nth t.ns c.toNat).us=true)/\((nth t.ns i).es.length:Int)<=YL t.mo t.rm i/\((nth t.ns i).cs.length=0\/(nth t.ns i).cs.length=(nth t.ns i).es.length+1)/\ZJ t.co (nth t.ns i).es=0/\Qbi t.co (nth t.ns i).es=0) /\
  ((nth t.ns i).us=false->(0<i/\i+1<t.ns.length)/\(nth t.ns i).es=[]/\(nth t.ns i).cs=[]) /\
  (XO t i seen).2=(nth t.ns i).cs.reverse++seen/\(seen.Nodup->((nth t.ns i).cs.reverse++seen).Nodup):=by
 unfold XO at h ⊢;simp only[]at h ⊢;split at h
 ·rename_i hu;split at h
  ·rename_i h1;split at h
   ·rename_i h2;split at h
    ·rename_i h3;split at h
     ·rename_i h4;obtain⟨k1,k2,k3⟩:=QjT h4;rw[if_pos hu,if_pos h1,if_pos h2,if_pos h3,if_pos h4];exact⟨λ_=>⟨k1,h1,h2,h3,h⟩,λhf=>absurd (hu.symm.trans hf) (by decide),k2,k3⟩
     ·rename_i h4;exact absurd h h4
    ·rename_i h3;exact absurd h h3
   ·cases h
  ·cases h
 ·rename_i hu;split at h
  ·rename_i h1;obtain⟨h2,h3⟩:=h1;have e1:(nth t.ns i).es=[]:=List.eq_nil_of_length_eq_zero om;have e2:(nth t.ns i).cs=[]:=List.eq_nil_of_length_eq_zero om;rw[if_neg hu,if_pos ⟨h2,h3⟩,e2];exact⟨λh9=>absurd h9 hu,λ_=>⟨h2,e1,rfl⟩,rfl,λh9=>h9⟩
  ·cases h
theorem Qf0{t:Tre}:∀{f i:Nat}{seen:List Int},i+f=t.ns.length->(X0 t f i seen).2=0->seen.Nodup->(∀j,i<=j->j<t.ns.length->∃s,(XO t j s).1=0)/\((seen.reverse++(t.ns.drop i).flatMap Nd.cs)).Nodup
 | 0,i,seen,hi,h,hs=>by grind
 | f+1,i,seen,hi,h,hs=>by
  unfold X0 at h;split at h
  ·rename_i h1;obtain⟨h2,h3,h4,h5⟩:=Qlp h1;obtain⟨h6,h7⟩:=Qf0 (f:=f) (i:=i+1) om h (by rw[h4];exact h5 hs);refine⟨λj hj1 hj2=>?_,?_⟩
   ·grind
   ·rw[h4,List.reverse_append,List.reverse_reverse,List.append_assoc]at h7;rw[List.drop_eq_getElem_cons (show i<t.ns.length by omega),List.flatMap_cons];have e:t.ns[i]=nth t.ns i:=(Yi (List.getElem?_eq_getElem om)).symm;rw[e];exact h7
  grind
theorem QlC{co:Int}{es:List TEnt}(h:ZJ co es=0):∀x∈es,YU co x=0:=λx hx=>ZZ.1 h _ (List.mem_map.2 ⟨x,hx,rfl⟩)
theorem Qfu{t:Tre}(h:(X0 t t.ns.length 0 []).2=0):TOk t.co t.ns:=by
 obtain⟨h1,h2⟩:=Qf0 (f:=t.ns.length) (i:=0) om h List.nodup_nil;have key:=λi(hi:i<t.ns.length)=>Qlp (h1 i (Nat.zero_le _) hi).choose_spec;have hF:∀i,i<t.ns.length->(nth t.ns i).us=false->(0<i/\i+1<t.ns.length)/\(nth t.ns i).es=[]/\(nth t.ns i).cs=[]:=λi hi=>(key i hi).2.1;refine⟨λi hi c hc=>?_,by simpa using h2,λi hi=>?_,hF,λi hi=>?_,λi hi x hx=>?_⟩
 ·grind
 ·grind
 ·cases e:(nth t.ns i).us with
  | true=>exact Qps ((key i hi).1 e).2.2.2.2
  | false=>
   rw[(hF i hi e).2.1];intro k hk
   grind
 grind[nth,QlC,hi]
theorem QhJ{α:Type}:∀{A B:List α}{x:α},(A++B).Nodup->x∈A->x∈B->False:=λh h1 h2=>(List.nodup_append.1 h).2.2 _ h1 _ h2 rfl
theorem Qb8{α β:Type}[Inhabited α]{f:α->List β}:∀{l:List α},(l.flatMap f).Nodup->∀{i j:Nat}{c:β},i<l.length->j<l.length->c∈f (nth l i)->c∈f (nth l j)->i=j
 | [],_,i,j,c,hi,_,_,_=>absurd hi (Nat.not_lt_zero _)
 | x::l,h,i,j,c,hi,hj,h1,h2=>by
  rw[List.flatMap_cons]at h;have hm:∀k,k<l.length->c∈f (nth l k)->c∈l.flatMap f:=λk hk hc=>List.mem_flatMap.2 ⟨_,Qt hk,hc⟩;cases i with
  | zero=>
   cases j with
   | zero=>rfl
   | succ j=>exact(QhJ h h1 (hm j (by simpa using hj) h2)).elim
  | succ i=>
   cases j with
   | zero=>exact(QhJ h h2 (hm i (by simpa using hi) h1)).elim
   | succ j=>rw[Qb8 (List.nodup_append.1 h).2.1 (by simpa using hi) (by simpa using hj) h1 h2]
theorem QgG{α β:Type}[Inhabited α]{f:α->List β}:∀{l:List α},(l.flatMap f).Nodup->∀{i:Nat},i<l.length->(f (nth l i)).Nodup
 | [],_,i,hi=>absurd hi (Nat.not_lt_zero _)
 | x::l,h,i,hi=>by
  rw[List.flatMap_cons]at h;cases i with
  | zero=>exact(List.nodup_append.1 h).1
  | succ i=>exact QgG (List.nodup_append.1 h).2.1 (by simpa using hi)
def Way(ns:List Nd):List Nat->Prop
 | []=>False
 | [r]=>r=0
 | c::p::P=>((c:Int)∈(nth ns p).cs/\p<ns.length)/\Way ns (p::P)
theorem Qcr{co:Int}{ns:List Nd}(ht:TOk co ns)(h0:0<ns.length):∀{P:List Nat},Way ns P->∀x∈P,x<ns.length
 | [],h,_,_=>h.elim
 | [r],h,x,hx=>by
  rw[List.mem_singleton.1 hx,show r=0 from h];exact h0
 | c::p::P,h,x,hx=>by
  rcases List.mem_cons.1 hx with rfl|hx
  ·have:=(ht.kid p h.1.2 _ h.1.1).1;omega
  ·exact Qcr ht h0 h.2 x hx
theorem QlZ{ns:List Nd}:∀{P:List Nat},Way ns P->∀j,j+1<P.length->((nth P j:Nat):Int)∈(nth ns (nth P (j+1))).cs/\nth P (j+1)<ns.length
 | [],h,_,_=>h.elim
 | [r],h,j,hj=>absurd hj (by simp)
 | c::p::P,h,0,hj=>h.1
 | c::p::P,h,j+1,hj=>QlZ h.2 j (by simpa using hj)
theorem Qj0{ns:List Nd}:∀{P:List Nat},Way ns P->nth P (P.length-1)=0
 | [],h=>h.elim
 | [r],h=>h
 | c::p::P,h=>by
  have h1:=Qj0 h.2
  grind[nth]
theorem QhE{co:Int}{ns:List Nd}(ht:TOk co ns):∀{P:List Nat},Way ns P->P.Nodup
 | [],h=>h.elim
 | [r],h=>by simp
 | c::p::P,h=>by
  have h1:=QhE ht h.2;refine List.nodup_cons.2 ⟨λhc=>?_,h1⟩;obtain⟨j,hj,e⟩:=List.getElem_of_mem hc;have e2:nth (p::P) j=c:=Yi (by rw[List.getElem?_eq_getElem hj,e]);have hk:=ht.kid p h.1.2 _ h.1.1;rcases Nat.lt_or_ge (j+1) (p::P).length with h2|h2
  ·have h3:=QlZ h.2 j h2;rw[e2]at h3;have h4:=Qb8 ht.once h.1.2 h3.2 h.1.1 h3.1
   have h5:(p::P)[0]?=(p::P)[j+1]?:=by
    rw[Xw h2,<-h4];rfl
   have:=(List.getElem?_inj (by simp) h1).1 h5;omega
  ·have h3:=Qj0 h.2
   grind
theorem QfL:∀(n:Nat)(l:List Nat),l.Nodup->(∀x∈l,x<n)->l.length<=n
 | 0,l,_,h=>by
  cases l with
  | nil=>exact Nat.le_refl _
  | cons x l=>exact absurd (h x (List.mem_cons_self ..)) (Nat.not_lt_zero _)
 | n+1,l,hd,h=>by
  have h1:=QfL n (l.erase n) (hd.erase n) (λx hx=>by
   have h2:=(hd.mem_erase_iff).1 hx;have:=h x h2.2;omega)
  have h2:=List.length_erase_le (a:=n) (l:=l);rw[List.length_erase]at h1;split at h1<;>omega
theorem YJ{co:Int}{ns:List Nd}(ht:TOk co ns)(h0:0<ns.length){P:List Nat}(h:Way ns P):P.length<=ns.length:=QfL _ _ (QhE ht h) (Qcr ht h0 h)
end Gx
namespace Gx
open Go Go.RowKit
theorem QjW:∀a b,Lib.compareBytes a b=YI a b
 | [],[]=>rfl
 | [],_::_=>rfl
 | _::_,[]=>rfl
 | a::x,b::y=>by
  unfold Lib.compareBytes YI;rw[QjW x y]
section
variable{P:Program}{o:Oper}{L:Qc}
def Qtn(P:Program)(f:FuncId):Prop:=∃fn,P.funcs[f]?=some fn/\(fn.name== "runtime.NumGoroutine")=false/\fn.body.isNone=true/\Extern.findNext fn=none/\Extern.find fn=some Extern.BytealgCompare.compare
theorem QeU{f:FuncId}{x y:Operand}{a b:List UInt8}{at':Array TypeId}{C:World->Prop}(ho:o.op=.call {callee:=.value (.func f),args:=#[x,y],argTypes:=at'})(hx:ev L x=some (.string (bs a)))(hy:ev L y=some (.string (bs b)))(hf:Qtn P f):OpQ P o L C (.int .i64 (YI a b)):=by
 intro ρ w hρ hw;obtain⟨fn,h1,h2,h3,h4,h5⟩:=hf;have hcall:=run_callFunc_extern h1 h2 h3 h4 h5 #[.string (bs a),.string (bs b)] w;rw[Lib.run_compareString,bs_data,bs_data,QjW]at hcall
 have:(execOp ρ o).run P w=.ok (.value (.int .i64 (YI a b))) w:=by
  unfold execOp;simp only[ho,resolve,Sem.run_bind,hρ (.func f) _ rfl,Deferred.ofValue,Sem.run_pure,Result.andThen_ok,invoke,List.map_toArray,List.map_cons,List.map_nil,hρ _ _ hx,hρ _ _ hy,Array.empty_append,Array.append_empty,hcall]
 rw[this];exact⟨rfl,Below.refl _ _⟩
end
end Gx
namespace Go.Proofs
open Go Go.RowKit Gx
attribute [local irreducible] Go.Calls Gx.S Gx.O Gx.D Gx.OpP Gx.OpQ Gx.OpH
set_option maxRecDepth 20000
theorem QG:tsl Tryz.prog 124=some (84,2,32):=by kernel_rfl
theorem Q1:tsl Tryz.prog 125=some (3,1,8):=by kernel_rfl
theorem Qah:QM Tryz.prog 84=some [.string (bs []),.string (bs [])]:=by kernel_rfl
theorem QuD:QuI Tryz.prog 294 124 4:=⟨_,Tryz.func294,rfl,rfl,by kernel_rfl,by kernel_rfl⟩
theorem QmU:QM Tryz.prog 3=some [.int .i64 0]:=by kernel_rfl
theorem QtS:QuI Tryz.prog 329 125 4:=⟨_,Tryz.func329,rfl,rfl,by kernel_rfl,by kernel_rfl⟩
theorem QqM:Qtn Tryz.prog 308:=⟨_,Tryz.func308,rfl,rfl,by kernel_rfl,by kernel_rfl⟩
instance:TFn Tryz.prog 270:=⟨by kernel_rfl⟩
instance:TFn Tryz.prog 212:=⟨by kernel_rfl⟩
instance:TFn Tryz.prog 209:=⟨by kernel_rfl⟩
theorem Qvw(w:World)(a:Option Addr)(i n m cap:Nat)(xs news:List Value)(b0 c0 tot2:Nat)(hw:HS w (fps [.own (.slice a n cap) 84 2 n xs,.blk b0 84 tot2 news]) [.own (.slice a n cap) 84 2 n xs,.blk b0 84 tot2 news] w)(hm0:0<m)(hl:news.length=m*2)(hn1:∀u∈news,u.oneCell'=true)(hx1:∀u∈xs,u.oneCell'=true)(hmax:(n+m)*32<=140737488355328)(hi:i=n):CE 239 #[.slice a n cap,.int .i64 i,.slice (some ⟨b0,0,none⟩) m c0] w (fps [.own (.slice a n cap) 84 2 n xs,.blk b0 84 tot2 news]) (λg:Option Addr×Nat=>.slice g.1 (n+m) g.2) (λg=>True) λg=>[.own (.slice g.1 (n+m) g.2) 84 2 (n+m) (xs.take (i*2)++news++xs.drop (i*2)),.blk b0 84 tot2 news]:=by
 obtain⟨_,hnc,hcm,hxl⟩:=hw.own_facts .here
 refine eW3 Tryz.func239 Tryz.ntmps239 hw ?_
 refine aU8 ?_
 refine o_p (QV _ _ i n rfl rfl QG ⟨_,_,rfl,rfl⟩ rfl om om) rfl (Qas ?_)
 refine sCd rfl (λh1=>?_) λh1=>?_
 ·exfalso;first|omega|(simp at h1;done)|(simp_all;done)
 refine Qkh ?_
 refine sCd rfl (λh2=>?_) λh2=>?_
 ·refine aU4 ?_
  refine o_h (QF news rfl rfl rfl QG Tryz.underlying124 Qah rfl aPk (Xk aPk) hl hn1 om (by simp only[maxLen];omega)) rfl (λb3 _=>aU2 ?_)
  exact rT rfl rfl (λw' h'=>⟨(_,_),rfl,trivial,by subst hi;rw[List.take_of_length_le om,List.drop_eq_nil_of_le om,List.append_nil];exact h'.ent aEt⟩)
 exfalso;first|omega|(simp at h2;done)|(simp_all;done)
theorem QvW(w:World)(gg i n m cap:Nat)(xs news:List Value)(b0 c0 tot2:Nat)(M:List Nat)(hw:HS w M [.blk gg 84 (cap*2) xs,.blk b0 84 tot2 news] w)(hnc:n<=cap)(hcm:cap<=maxLen)(hxl:xs.length=n*2)(hm0:0<m)(hl:news.length=m*2)(hn1:∀u∈news,u.oneCell'=true)(hx1:∀u∈xs,u.oneCell'=true)(hmax:(n+m)*32<=140737488355328)(hi:i<n):CE 239 #[.slice (some ⟨gg,0,none⟩) n cap,.int .i64 i,.slice (some ⟨b0,0,none⟩) m c0] w M (λg:Option Addr×Nat=>.slice g.1 (n+m) g.2) (λg=>True) λg=>[.own (.slice g.1 (n+m) g.2) 84 2 (n+m) (xs.take (i*2)++news++xs.drop (i*2)),.blk b0 84 tot2 news]:=by
 have ht2:=(hw.blk_get (.there .here)).len_le
 have hcl:(cut xs 0 (i*2)).length=i*2:=Xo _ _ _ om
 refine eW3 Tryz.func239 Tryz.ntmps239 hw ?_
 refine aU8 ?_
 refine o_p (QV _ _ i n rfl rfl QG ⟨_,_,rfl,rfl⟩ rfl om om) rfl (Qas ?_)
 refine sCd rfl (λh1=>?_) λh1=>?_
 ·exfalso;first|omega|(simp at h1;done)|(simp_all;done)
 refine Qkh ?_
 refine sCd rfl (λh2=>?_) λh2=>?_
 ·exfalso;first|omega|(simp at h2;done)|(simp_all;done)
 refine aT7 ?_
 refine aU ?_
 refine o_p (QqN rfl rfl Tryz.underlying124) rfl (aU2 ?_)
 refine sCd rfl (λh3=>?_) λh3=>?_
 ·refine aU4 ?_
  refine o_p (QV _ _ 0 i rfl rfl QG rfl ⟨_,_,rfl,rfl⟩ om om) rfl ?_
  refine Qu (show _=Value.slice (some ⟨gg,0,none⟩) (i) (cap)from by rw[QaW]<;>(congr 1<;>omega)) (aT3 ?_)
  refine aT2 ?_
  refine Qu (show _=Value.int .i64 ((n+m-i:Nat):Int)from by first|rfl|(congr 1<;>first|rfl|omega)) (o_h (Qaj (m:=n+m-i) (olds:=cut xs 0 (i*2)) rfl rfl rfl QG QdB Qah rfl (by decide) om om (Z1 0 (i*2) (λ_=>rfl) aPk) hcl om (by simp only[maxLen];omega)) rfl (λ⟨b4,c5⟩⟨h6,k7⟩=>?_))
  refine Qu (show _=Value.slice (some ⟨b4,0,none⟩) (n+m) c5 from by first|rfl|(congr 1<;>first|rfl|omega)) (aU3 ?_)
  refine Qd (L':=[(0,_),(1,_),(2,_),(6,_),(7,_),(8,_),(9,_)]) aSx (λ_ h=>h) ?_
  refine aU3 ?_
  refine o_p (QV _ _ i (n+m) rfl rfl QG ⟨_,_,rfl,rfl⟩ rfl om om) rfl ?_
  refine Qu (show _=Value.slice (some ⟨b4,i*2,none⟩) (n+m-i) (c5-i)from by rw[Yk om]<;>(congr 1<;>omega)) (aU ?_)
  refine o_h (Qbx m news rfl rfl rfl QG aPt om hl (λ_=>rfl) (by simp only[QB,List.length_append,Qi];omega) (Xk aPk) hn1) rfl (λ_ _=>aU2 ?_)
  refine QH [8] mixed ?_
  refine dP 0 ?_
  refine dP 1 ?_
  refine dP 2 ?_
  refine dP 3 ?_
  try refine dWr ?_
  refine dV 4 rfl (QV _ _ (i+m) (n+m) rfl rfl QG ⟨_,_,rfl,om⟩ rfl om om) ?_
  refine Qz (show _=Value.slice (some ⟨b4,(i+m)*2,none⟩) (n-i) (c5-(i+m))from by rw[Yk om]<;>(congr 1<;>omega)) (dP 5 ?_)
  refine dP 6 ?_
  refine dV 7 rfl (QV _ _ i n rfl rfl QG ⟨_,_,rfl,rfl⟩ rfl om om) ?_
  refine Qz (show _=Value.slice (some ⟨gg,i*2,none⟩) (n-i) (cap-i)from by rw[Yk om]<;>(congr 1<;>omega)) (dH 8 rfl (Qbx (n-i) (cut xs (i*2) ((n-i)*2)) rfl rfl rfl QG aPt om (Xo _ _ _ om) (λ_=>rfl) (by rw[Xo _ _ _ om];simp only[QB,List.length_append,Qi];omega) (Z1 (i*2) ((n-i)*2) (λ_=>rfl) aPk) (QiA hx1 _ _)) (λ_ _=>dTu [] ?_))
  refine dNi ?_
  refine aU5 ?_
  exact rT rfl rfl (λw' h'=>⟨(some ⟨b4,0,none⟩,c5),rfl,trivial,(HS.to_own (n:=n+m) (xs:=xs.take (i*2)++news++xs.drop (i*2)) (ds:=[]) aPk h' (by have hq:=Qi5 (xs:=xs) (news:=news) (z:=XA [.string (bs []),.string (bs [])] ((n+m-i)*2)) (p:=i*2) (q:=m*2) (N:=n*2) hxl om hl (by rw[QB];omega);rw[List.append_nil];rw[show(i+m)*2=i*2+m*2 from om,show(n-i)*2=n*2-i*2 from om];exact hq) (by simp only[List.length_append,List.length_take,List.length_drop];omega) om om).ent aEt⟩)
 refine aT7 ?_
 refine o_p (QV _ _ 0 (n+m) rfl rfl QG rfl ⟨_,_,rfl,om⟩ om om) rfl ?_
 refine Qu (show _=Value.slice (some ⟨gg,0,none⟩) (n+m) cap from by rw[QaW]<;>(congr 1<;>omega)) (o_ex (λw h=>HS.blk_full (b:=gg) aPk h) λds=>?_)
 refine QiC (λw h=>h.1) λhds=>Y0 (λw h=>h.2) (Qro ?_)
 refine o_p (QV _ _ (i+m) (n+m) rfl rfl QG ⟨_,_,rfl,om⟩ rfl om om) rfl ?_
 refine Qu (show _=Value.slice (some ⟨gg,(i+m)*2,none⟩) (n-i) (cap-(i+m))from by rw[Yk om]<;>(congr 1<;>omega)) (o_q (QfR rfl QuD rfl rfl QG (hp:=aPk) (hp':=aPk) (by decide) om om) rfl (aU2 ?_))
 refine sCd rfl (λh8=>?_) λh8=>?_
 ·refine aU ?_
  refine Qd (L':=[(0,_),(1,_),(2,_),(6,_),(7,_),(8,_)]) aSx (λ_ h=>h) ?_
  refine QH [8] mixed ?_
  refine dP 0 ?_
  refine dP 1 ?_
  refine dP 2 ?_
  refine dP 3 ?_
  try refine dWr ?_
  refine dV 4 rfl (QV _ _ (i+m) (n+m) rfl rfl QG ⟨_,_,rfl,om⟩ rfl om om) ?_
  refine Qz (show _=Value.slice (some ⟨gg,(i+m)*2,none⟩) (n-i) (cap-(i+m))from by rw[Yk om]<;>(congr 1<;>omega)) (dP 5 ?_)
  refine dP 6 ?_
  refine dV 7 rfl (QV _ _ i (n+m) rfl rfl QG ⟨_,_,rfl,rfl⟩ rfl om om) ?_
  refine Qz (show _=Value.slice (some ⟨gg,i*2,none⟩) (n+m-i) (cap-i)from by rw[Yk om]<;>(congr 1<;>omega)) (dH 8 rfl (Qbx (n-i) (cut (xs++ds) (i*2) ((n-i)*2)) rfl rfl rfl QG aPt om (Xo _ _ _ (by simp only[QB,List.length_append,Qi];omega)) (λ_=>rfl) (by rw[Xo _ _ _ (by simp only[QB,List.length_append,Qi];omega)];simp only[QB,List.length_append,Qi];omega) (Z1 (i*2) ((n-i)*2) (λ_=>rfl) aPk) (QlG hx1 om)) (λ_ _=>dTu [] ?_))
  refine dNi ?_
  refine aU4 ?_
  refine o_p (QV _ _ i (n+m) rfl rfl QG ⟨_,_,rfl,rfl⟩ rfl om om) rfl ?_
  refine Qu (show _=Value.slice (some ⟨gg,i*2,none⟩) (n+m-i) (cap-i)from by rw[Yk om]<;>(congr 1<;>omega)) (aU ?_)
  refine o_h (Qbx m news rfl rfl rfl QG aPt om hl (λ_=>rfl) (by simp only[QB,List.length_append,Qi];omega) (Xk aPk) hn1) rfl (λ_ _=>aU6 ?_)
  exact rT rfl rfl (λw' h'=>⟨(some ⟨gg,0,none⟩,cap),rfl,trivial,(HS.to_own (n:=n+m) (xs:=xs.take (i*2)++news++xs.drop (i*2)) (ds:=ds.drop (m*2)) aPk h' (by have hq:=Qp3 (xs:=xs) (ds:=ds) (news:=news) (p:=i*2) (q:=m*2) (N:=n*2) hxl om hl om;rw[show(i+m)*2=i*2+m*2 from om,show(n-i)*2=n*2-i*2 from om];exact hq) (by simp only[List.length_append,List.length_take,List.length_drop];omega) om om).ent aEt⟩)
 exfalso;first|omega|(simp at h8;done)|(simp_all;done)
theorem c239(w:World)(a:Option Addr)(i n m cap:Nat)(xs news:List Value)(b0 c0 tot2:Nat)(hw:HS w (fps [.own (.slice a n cap) 84 2 n xs,.blk b0 84 tot2 news]) [.own (.slice a n cap) 84 2 n xs,.blk b0 84 tot2 news] w)(hm0:0<m)(hl:news.length=m*2)(hn1:∀u∈news,u.oneCell'=true)(hx1:∀u∈xs,u.oneCell'=true)(hmax:(n+m)*32<=140737488355328)(hi:i<=n):CE 239 #[.slice a n cap,.int .i64 i,.slice (some ⟨b0,0,none⟩) m c0] w (fps [.own (.slice a n cap) 84 2 n xs,.blk b0 84 tot2 news]) (λg:Option Addr×Nat=>.slice g.1 (n+m) g.2) (λg=>True) λg=>[.own (.slice g.1 (n+m) g.2) 84 2 (n+m) (xs.take (i*2)++news++xs.drop (i*2)),.blk b0 84 tot2 news]:=by
  rcases Nat.lt_or_ge i n with h|h
  · obtain⟨gg,rfl,_,hnc,hcm,hxl,hb⟩:=hw.own_blk om .here;exact QvW w gg i n m cap xs news b0 c0 tot2 _ hb hnc hcm hxl hm0 hl hn1 hx1 hmax h
  · exact Qvw w a i n m cap xs news b0 c0 tot2 hw hm0 hl hn1 hx1 hmax om
theorem Qvz(w:World)(a:Option Addr)(i n m cap:Nat)(xs news:List Value)(b0 c0 tot2:Nat)(hw:HS w (fps [.own (.slice a n cap) 3 1 n xs,.blk b0 3 tot2 news]) [.own (.slice a n cap) 3 1 n xs,.blk b0 3 tot2 news] w)(hm0:0<m)(hl:news.length=m*1)(hn1:∀u∈news,u.oneCell'=true)(hx1:∀u∈xs,u.oneCell'=true)(hmax:(n+m)*8<=140737488355328)(hi:i=n):CE 302 #[.slice a n cap,.int .i64 i,.slice (some ⟨b0,0,none⟩) m c0] w (fps [.own (.slice a n cap) 3 1 n xs,.blk b0 3 tot2 news]) (λg:Option Addr×Nat=>.slice g.1 (n+m) g.2) (λg=>True) λg=>[.own (.slice g.1 (n+m) g.2) 3 1 (n+m) (xs.take (i*1)++news++xs.drop (i*1)),.blk b0 3 tot2 news]:=by
 obtain⟨_,hnc,hcm,hxl⟩:=hw.own_facts .here
 refine eW3 Tryz.func302 Tryz.ntmps302 hw ?_
 refine aU8 ?_
 refine o_p (QV _ _ i n rfl rfl Q1 ⟨_,_,rfl,rfl⟩ rfl om om) rfl (Qas ?_)
 refine sCd rfl (λh1=>?_) λh1=>?_
 ·exfalso;first|omega|(simp at h1;done)|(simp_all;done)
 refine Qkh ?_
 refine sCd rfl (λh2=>?_) λh2=>?_
 ·refine aU4 ?_
  refine o_h (QF news rfl rfl rfl Q1 Tryz.underlying125 QmU rfl aPk (Xk aPk) hl hn1 om (by simp only[maxLen];omega)) rfl (λb3 _=>aU2 ?_)
  exact rT rfl rfl (λw' h'=>⟨(_,_),rfl,trivial,by subst hi;rw[List.take_of_length_le om,List.drop_eq_nil_of_le om,List.append_nil];exact h'.ent aEt⟩)
 exfalso;first|omega|(simp at h2;done)|(simp_all;done)
theorem Qvo(w:World)(gg i n m cap:Nat)(xs news:List Value)(b0 c0 tot2:Nat)(M:List Nat)(hw:HS w M [.blk gg 3 (cap*1) xs,.blk b0 3 tot2 news] w)(hnc:n<=cap)(hcm:cap<=maxLen)(hxl:xs.length=n*1)(hm0:0<m)(hl:news.length=m*1)(hn1:∀u∈news,u.oneCell'=true)(hx1:∀u∈xs,u.oneCell'=true)(hmax:(n+m)*8<=140737488355328)(hi:i<n):CE 302 #[.slice (some ⟨gg,0,none⟩) n cap,.int .i64 i,.slice (some ⟨b0,0,none⟩) m c0] w M (λg:Option Addr×Nat=>.slice g.1 (n+m) g.2) (λg=>True) λg=>[.own (.slice g.1 (n+m) g.2) 3 1 (n+m) (xs.take (i*1)++news++xs.drop (i*1)),.blk b0 3 tot2 news]:=by
 have ht2:=(hw.blk_get (.there .here)).len_le
 have hcl:(cut xs 0 (i*1)).length=i*1:=Xo _ _ _ om
 refine eW3 Tryz.func302 Tryz.ntmps302 hw ?_
 refine aU8 ?_
 refine o_p (QV _ _ i n rfl rfl Q1 ⟨_,_,rfl,rfl⟩ rfl om om) rfl (Qas ?_)
 refine sCd rfl (λh1=>?_) λh1=>?_
 ·exfalso;first|omega|(simp at h1;done)|(simp_all;done)
 refine Qkh ?_
 refine sCd rfl (λh2=>?_) λh2=>?_
 ·exfalso;first|omega|(simp at h2;done)|(simp_all;done)
 refine aT7 ?_
 refine aU ?_
 refine o_p (QqN rfl rfl Tryz.underlying125) rfl (aU2 ?_)
 refine sCd rfl (λh3=>?_) λh3=>?_
 ·refine aU4 ?_
  refine o_p (QV _ _ 0 i rfl rfl Q1 rfl ⟨_,_,rfl,rfl⟩ om om) rfl ?_
  refine Qu (show _=Value.slice (some ⟨gg,0,none⟩) (i) (cap)from by rw[QaW]<;>(congr 1<;>omega)) (aT3 ?_)
  refine aT2 ?_
  refine Qu (show _=Value.int .i64 ((n+m-i:Nat):Int)from by first|rfl|(congr 1<;>first|rfl|omega)) (o_h (Qaj (m:=n+m-i) (olds:=cut xs 0 (i*1)) rfl rfl rfl Q1 QdB QmU rfl (by decide) om om (Z1 0 (i*1) (λ_=>rfl) aPk) hcl om (by simp only[maxLen];omega)) rfl (λ⟨b4,c5⟩⟨h6,k7⟩=>?_))
  refine Qu (show _=Value.slice (some ⟨b4,0,none⟩) (n+m) c5 from by first|rfl|(congr 1<;>first|rfl|omega)) (aU3 ?_)
  refine Qd (L':=[(0,_),(1,_),(2,_),(6,_),(7,_),(8,_),(9,_)]) aSx (λ_ h=>h) ?_
  refine aU3 ?_
  refine o_p (QV _ _ i (n+m) rfl rfl Q1 ⟨_,_,rfl,rfl⟩ rfl om om) rfl ?_
  refine Qu (show _=Value.slice (some ⟨b4,i*1,none⟩) (n+m-i) (c5-i)from by rw[Yk om]<;>(congr 1<;>omega)) (aU ?_)
  refine o_h (Qbx m news rfl rfl rfl Q1 aPt om hl (λ_=>rfl) (by simp only[QB,List.length_append,Qi];omega) (Xk aPk) hn1) rfl (λ_ _=>aU2 ?_)
  refine QH [8] mixed ?_
  refine dP 0 ?_
  refine dP 1 ?_
  refine dP 2 ?_
  refine dP 3 ?_
  try refine dWr ?_
  refine dV 4 rfl (QV _ _ (i+m) (n+m) rfl rfl Q1 ⟨_,_,rfl,om⟩ rfl om om) ?_
  refine Qz (show _=Value.slice (some ⟨b4,(i+m)*1,none⟩) (n-i) (c5-(i+m))from by rw[Yk om]<;>(congr 1<;>omega)) (dP 5 ?_)
  refine dP 6 ?_
  refine dV 7 rfl (QV _ _ i n rfl rfl Q1 ⟨_,_,rfl,rfl⟩ rfl om om) ?_
  refine Qz (show _=Value.slice (some ⟨gg,i*1,none⟩) (n-i) (cap-i)from by rw[Yk om]<;>(congr 1<;>omega)) (dH 8 rfl (Qbx (n-i) (cut xs (i*1) ((n-i)*1)) rfl rfl rfl Q1 aPt om (Xo _ _ _ om) (λ_=>rfl) (by rw[Xo _ _ _ om];simp only[QB,List.length_append,Qi];omega) (Z1 (i*1) ((n-i)*1) (λ_=>rfl) aPk) (QiA hx1 _ _)) (λ_ _=>dTu [] ?_))
  refine dNi ?_
  refine aU5 ?_
  exact rT rfl rfl (λw' h'=>⟨(some ⟨b4,0,none⟩,c5),rfl,trivial,(HS.to_own (n:=n+m) (xs:=xs.take (i*1)++news++xs.drop (i*1)) (ds:=[]) aPk h' (by have hq:=Qi5 (xs:=xs) (news:=news) (z:=XA [.int .i64 0] ((n+m-i)*1)) (p:=i*1) (q:=m*1) (N:=n*1) hxl om hl (by rw[QB];omega);rw[List.append_nil];rw[show(i+m)*1=i*1+m*1 from om,show(n-i)*1=n*1-i*1 from om];exact hq) (by simp only[List.length_append,List.length_take,List.length_drop];omega) om om).ent aEt⟩)
 refine aT7 ?_
 refine o_p (QV _ _ 0 (n+m) rfl rfl Q1 rfl ⟨_,_,rfl,om⟩ om om) rfl ?_
 refine Qu (show _=Value.slice (some ⟨gg,0,none⟩) (n+m) cap from by rw[QaW]<;>(congr 1<;>omega)) (o_ex (λw h=>HS.blk_full (b:=gg) aPk h) λds=>?_)
 refine QiC (λw h=>h.1) λhds=>Y0 (λw h=>h.2) (Qro ?_)
 refine o_p (QV _ _ (i+m) (n+m) rfl rfl Q1 ⟨_,_,rfl,om⟩ rfl om om) rfl ?_
 refine Qu (show _=Value.slice (some ⟨gg,(i+m)*1,none⟩) (n-i) (cap-(i+m))from by rw[Yk om]<;>(congr 1<;>omega)) (o_q (QfR rfl QtS rfl rfl Q1 (hp:=aPk) (hp':=aPk) (by decide) om om) rfl (aU2 ?_))
 refine sCd rfl (λh8=>?_) λh8=>?_
 ·refine aU ?_
  refine Qd (L':=[(0,_),(1,_),(2,_),(6,_),(7,_),(8,_)]) aSx (λ_ h=>h) ?_
  refine QH [8] mixed ?_
  refine dP 0 ?_
  refine dP 1 ?_
  refine dP 2 ?_
  refine dP 3 ?_
  try refine dWr ?_
  refine dV 4 rfl (QV _ _ (i+m) (n+m) rfl rfl Q1 ⟨_,_,rfl,om⟩ rfl om om) ?_
  refine Qz (show _=Value.slice (some ⟨gg,(i+m)*1,none⟩) (n-i) (cap-(i+m))from by rw[Yk om]<;>(congr 1<;>omega)) (dP 5 ?_)
  refine dP 6 ?_
  refine dV 7 rfl (QV _ _ i (n+m) rfl rfl Q1 ⟨_,_,rfl,rfl⟩ rfl om om) ?_
  refine Qz (show _=Value.slice (some ⟨gg,i*1,none⟩) (n+m-i) (cap-i)from by rw[Yk om]<;>(congr 1<;>omega)) (dH 8 rfl (Qbx (n-i) (cut (xs++ds) (i*1) ((n-i)*1)) rfl rfl rfl Q1 aPt om (Xo _ _ _ (by simp only[QB,List.length_append,Qi];omega)) (λ_=>rfl) (by rw[Xo _ _ _ (by simp only[QB,List.length_append,Qi];omega)];simp only[QB,List.length_append,Qi];omega) (Z1 (i*1) ((n-i)*1) (λ_=>rfl) aPk) (QlG hx1 om)) (λ_ _=>dTu [] ?_))
  refine dNi ?_
  refine aU4 ?_
  refine o_p (QV _ _ i (n+m) rfl rfl Q1 ⟨_,_,rfl,rfl⟩ rfl om om) rfl ?_
  refine Qu (show _=Value.slice (some ⟨gg,i*1,none⟩) (n+m-i) (cap-i)from by rw[Yk om]<;>(congr 1<;>omega)) (aU ?_)
  refine o_h (Qbx m news rfl rfl rfl Q1 aPt om hl (λ_=>rfl) (by simp only[QB,List.length_append,Qi];omega) (Xk aPk) hn1) rfl (λ_ _=>aU6 ?_)
  exact rT rfl rfl (λw' h'=>⟨(some ⟨gg,0,none⟩,cap),rfl,trivial,(HS.to_own (n:=n+m) (xs:=xs.take (i*1)++news++xs.drop (i*1)) (ds:=ds.drop (m*1)) aPk h' (by have hq:=Qp3 (xs:=xs) (ds:=ds) (news:=news) (p:=i*1) (q:=m*1) (N:=n*1) hxl om hl om;rw[show(i+m)*1=i*1+m*1 from om,show(n-i)*1=n*1-i*1 from om];exact hq) (by simp only[List.length_append,List.length_take,List.length_drop];omega) om om).ent aEt⟩)
 exfalso;first|omega|(simp at h8;done)|(simp_all;done)
theorem c302(w:World)(a:Option Addr)(i n m cap:Nat)(xs news:List Value)(b0 c0 tot2:Nat)(hw:HS w (fps [.own (.slice a n cap) 3 1 n xs,.blk b0 3 tot2 news]) [.own (.slice a n cap) 3 1 n xs,.blk b0 3 tot2 news] w)(hm0:0<m)(hl:news.length=m*1)(hn1:∀u∈news,u.oneCell'=true)(hx1:∀u∈xs,u.oneCell'=true)(hmax:(n+m)*8<=140737488355328)(hi:i<=n):CE 302 #[.slice a n cap,.int .i64 i,.slice (some ⟨b0,0,none⟩) m c0] w (fps [.own (.slice a n cap) 3 1 n xs,.blk b0 3 tot2 news]) (λg:Option Addr×Nat=>.slice g.1 (n+m) g.2) (λg=>True) λg=>[.own (.slice g.1 (n+m) g.2) 3 1 (n+m) (xs.take (i*1)++news++xs.drop (i*1)),.blk b0 3 tot2 news]:=by
  rcases Nat.lt_or_ge i n with h|h
  · obtain⟨gg,rfl,_,hnc,hcm,hxl,hb⟩:=hw.own_blk om .here;exact Qvo w gg i n m cap xs news b0 c0 tot2 _ hb hnc hcm hxl hm0 hl hn1 hx1 hmax h
  · exact Qvz w a i n m cap xs news b0 c0 tot2 hw hm0 hl hn1 hx1 hmax om
def QgV(c:Int):Int:=if 97<=c/\c<=122 then c-32 else c
theorem QgN(u:UInt8):QgV (u.toNat:Int)=((QbH u).toNat:Int):=by
  have hu:=u.toNat_lt;unfold QgV QbH
  by_cases h:97<=u/\u<=122
  · have h2:=h;rw[UInt8.le_iff_toNat_le,UInt8.le_iff_toNat_le]at h2;have e97:(97:UInt8).toNat=97:=rfl;have e122:(122:UInt8).toNat=122:=rfl;rw[e97,e122]at h2;rw[if_pos h,if_pos om,UInt8.toNat_sub_of_le _ _ (by rw[UInt8.le_iff_toNat_le];show 32<=_;omega)];show(u.toNat:Int)-32=((u.toNat-32:Nat):Int);omega
  · have h2:=h;rw[UInt8.le_iff_toNat_le,UInt8.le_iff_toNat_le]at h2;have e97:(97:UInt8).toNat=97:=rfl;have e122:(122:UInt8).toNat=122:=rfl;rw[e97,e122]at h2;rw[if_neg h,if_neg om]
theorem c270(w:World)(a b:List UInt8):CR 270 #[.string (bs a),.string (bs b)] w (.int .i64 (YI a b)):=by
 refine eN2 Tryz.func270 Tryz.ntmps270 ?_
 refine aU8 ?_
 refine o_q (QeU rfl rfl rfl QqM) rfl (aU2 ?_)
 exact rV
theorem c209(w:World)(a b:List UInt8):CR 209 #[.string (bs a),.string (bs b)] w (.int .i64 (YI a b)):=by
 refine eN2 Tryz.func209 Tryz.ntmps209 ?_
 refine aU8 ?_
 refine oCq rfl (λw1 h1=>c270 w1 _ _) (aU2 ?_)
 exact rV
theorem Qsh{L:List UInt8}{k:Nat}{x:UInt8}{v:Value}(h:k<L.length)(hv:v=bv x):Qf (L.map bv) (k*1) [v]=(L.set k x).map bv:=by
  subst hv;have h9:=Z7 (vals:=byV) (sz:=1) (λ_=>rfl) L k 0 [bv x] (L.getD k 0) x (by rw[List.getElem?_eq_getElem h,List.getD_eq_getElem?_getD,List.getElem?_eq_getElem h];rfl) rfl (by simp);rw[Nat.add_zero]at h9;have e:∀M:List UInt8,M.flatMap byV=M.map bv:=λM=>Qei bv M;rw[e,e]at h9;exact h9
def QcY(s:List UInt8)(k:Nat):List UInt8:=(s.map QbH).take k++s.drop k
theorem Qcj{s:List UInt8}{k:Nat}(h:k<=s.length):(QcY s k).length=s.length:=by simp[QcY];omega
theorem QjV{s:List UInt8}{k:Nat}(h:k<s.length):(QcY s k).getD k 0=s.getD k 0:=by
  unfold QcY;rw[List.getD_eq_getElem?_getD,List.getElem?_append_right (by simp;omega),List.getElem?_drop,List.getD_eq_getElem?_getD];congr 2;simp;omega
theorem Qi3{s:List UInt8}{k:Nat}(h:k<s.length):(QcY s k).set k (QbH (s.getD k 0))=QcY s (k+1):=by
  unfold QcY;apply List.ext_getElem?;intro j;simp only[List.getElem?_set,List.getElem?_append,List.getElem?_take,List.getElem?_drop,List.length_append,List.length_take,List.length_map,List.length_drop,List.getElem?_map,List.getD_eq_getElem?_getD];have hk:=List.getElem?_eq_getElem h
  grind
theorem Qu9(s:List UInt8):QcY s 0=s:=by simp[QcY]
theorem Qp4(s:List UInt8):QcY s s.length=s.map QbH:=by
  unfold QcY;rw[List.drop_length,List.append_nil,List.take_of_length_le (by simp)]
theorem QmV{s:List UInt8}{k:Nat}(h:k<s.length)(hc:QbH (s.getD k 0)=s.getD k 0):QcY s k=QcY s (k+1):=by
  rw[<-Qi3 h,hc];apply List.ext_getElem?;intro j;rw[List.getElem?_set];split
  · rename_i e;subst e;rw[<-QjV h,List.getD_eq_getElem?_getD];rw[if_pos (by rw[Qcj om];exact h),List.getElem?_eq_getElem (by rw[Qcj om];exact h)];rfl
  · rfl
theorem Qqc{x:UInt8}(h:97<=x.toNat/\x.toNat<=122):Value.int .u8 (IntKind.u8.wrap (IntKind.u8.wrap ((x.toNat:Int)-97)+65))=bv (QbH x):=by
  have h2:=QgN x;unfold QgV at h2;rw[if_pos om]at h2;rw[show(x.toNat:Int)-97=((x.toNat-97:Nat):Int) by omega,QcT _ om,show((x.toNat-97:Nat):Int)+65=((x.toNat-32:Nat):Int) by omega,QcT _ om];unfold bv;exact congrArg (Value.int .u8) om
theorem Qtx{x:UInt8}(h:¬(97<=x.toNat/\x.toNat<=122)):QbH x=x:=by
  have h2:=QgN x;unfold QgV at h2;rw[if_neg om]at h2;exact UInt8.toNat_inj.1 om
theorem c212(w:World)(s:List UInt8)(hm:s.length<=1000000):CR 212 #[.string (bs s)] w (.string (bs (s.map QbH))):=by
 refine eN1 Tryz.func212 Tryz.ntmps212 ?_
 refine aU7 ?_
 refine o_h (Z0 rfl rfl Tryz.underlying9 Tryz.underlying226 Tryz.underlying5 rfl (by simp only[maxLen];omega)) rfl (λ⟨b1,c2⟩⟨h3,k4⟩=>Qbf ?_)
 refine Qp (α:=Nat) [4,5,10,11,12,13,14,15,16,17,18,19,20,21,22,23,24,25,26,27] (λk=>[(10,.int .i64 (k:Int))]) (λk=>HS w [] [.blk b1 5 c2 ((QcY s k).map bv)]) (λk=>k<=s.length) (λk=>s.length-k) 0 (Nat.zero_le _) aSx (λw h=>by rw[Qu9];exact h.ent aEt) (λk hk1=>?_)
 refine aU5 ?_
 refine sCd rfl (λh5=>?_) λh5=>?_
 ·have hk:k<s.length:=by omega
  have hb9:=(s.getD k 0).toNat_lt
  refine aU6 ?_
  refine o_p (Qa rfl rfl rfl XF (k) om om rfl) rfl (o_q (QN rfl rfl QgM (λw h=>by rw[Nat.zero_add];exact h.rd_blk (Mc:=[]) aPk (by rw[Nat.mul_one,Qcs (by rw[Qcj hk1];exact hk),QjV hk]) (by simp))) rfl (aU8 ?_))
  refine Xi 3 17 20 rfl
   (λhg6 _=>by
    refine aU4 ?_
    exact oJt 3 20)
   (λhg8 _=>by
    refine aU2 ?_
    exact oJf 3 20) ?_
  refine aU ?_
  refine Xy (α:=Unit) [21,22,23,24,25,26] (λ_=>[]) (λ_=>HS w [] [.blk b1 5 c2 ((QcY s (k+1)).map bv)]) (λ_=>True) ?_ ?_
  ·skip
   refine sCd rfl (λh10=>?_) λh10=>?_
   ·have hcc:97<=(s.getD k 0).toNat/\(s.getD k 0).toNat<=122:=by have hq:=h10;omega
    refine aU6 ?_
    try (refine Qu (u8add _ _) ?_)
    refine Qu (Qqc hcc) (o_p (Qa rfl rfl rfl XF (k) om om rfl) rfl (Qu (show _=Value.pointer (some ⟨b1,k*1,none⟩)from by rw[Nat.zero_add]) (QcX (Xr rfl rfl rfl QgM rfl aPt (by rw[List.length_map,Qcj hk1];omega) rfl) (λ_ _=>aU ?_))))
    exact Qo () trivial aSx (λw h=>by have h2:=HS.blk_to (b:=b1) h aPk (Qsh (L:=QcY s k) (x:=QbH (s.getD k 0)) (by rw[Qcj hk1];exact hk) rfl);rw[Qi3 hk]at h2;exact h2.ent aEt)
   have hno:QbH (s.getD k 0)=s.getD k 0:=Qtx (by have hq:=h10;omega)
   refine aU ?_
   exact Qo () trivial aSx (λw h=>by rw[<-QmV hk hno];exact h.ent aEt)
  intro _ _
  refine aT3 ?_
  refine aU2 ?_
  exact sBk (k+1)
 obtain rfl:k=s.length:=om
 rw[Qp4]
 refine Qg rfl ?_
 refine aU3 ?_
 refine o_q (Y6 rfl rfl Tryz.underlying226 Tryz.underlying9 Tryz.underlying5 aPk (by simp[List.length_map]) (QcL _)) rfl (aU2 ?_)
 exact rV (h:=by simp only[Qa4];rfl)
theorem c211(w:World)(a b:List UInt8)(ha:a.length<=1000000)(hb:b.length<=1000000):CR 211 #[.string (bs a),.string (bs b)] w (.int .i64 (YI (a.map QbH) (b.map QbH))):=by
 refine eN2 Tryz.func211 Tryz.ntmps211 ?_
 refine aU7 ?_
 refine oCq rfl (λw1 h1=>c212 w1 a ha) (aU ?_)
 refine oCq rfl (λw1 h1=>c212 w1 b hb) (oCq rfl (λw1 h1=>c209 w1 _ _) (aU2 ?_))
 exact rV
end Go.Proofs
namespace Gx
open Go Go.RowKit
structure DEnt where
 nm:List UInt8
 sp:Int
 ot:List UInt8
 re:Int
 sq:Int
 fl:Int
 tm:Int
 al:Int
 sz:Int
deriving DecidableEq,Inhabited
def DEnt.vals(e:DEnt):List Value:=[.string (bs e.nm),.int .i64 e.sp,.string (bs e.ot),.int .i64 e.re,.int .i64 e.sq,.int .i64 e.fl,.int .i64 e.tm,.int .i64 e.al,.int .i64 e.sz]
def noE:DEnt:=⟨[],0,[],0,0,0,0,0,0⟩
def okE(b:Bool)(e:Int):Int:=if b then 0 else e
def Qh7(re sq:Int):Int:=okE ((decide (0<=re)&&decide (re<=95))&&(decide (1<=sq)&&decide (sq<=65535))) 2
def Qlc(fl tm al sz:Int):Int:=okE ((decide (0<=fl)&&decide (fl<=7))&&(decide (0<=tm)&&decide (tm<=1000000))&&(decide (0<=al)&&decide (al<=2147483647))&&(decide (0<=sz)&&decide (sz<=2147483647))) 2
def QmX(sp:Int):Int:=okE (decide (0<=sp)&&decide (sp<=2)) 2
def XZ(a b:Int):Int:=if a=0 then b else a
def Qge(ot:List UInt8):Int:=if ot=[]then 0 else QT ot
def Qbg(e:DEnt):Int:=XZ (QT e.nm) (XZ (QmX e.sp) (XZ (okE (decide (e.sp=2)==decide (e.ot=[])) 3) (XZ (Qge e.ot) (XZ (Qh7 e.re e.sq) (Qlc e.fl e.tm e.al e.sz)))))
def encV(e:DEnt):List UInt8:=Zy 4 e.re++Zy 2 e.sq++Zy 1 e.sp++Zy 1 e.fl++Zy 4 e.tm++Zy 4 e.al++Zy 4 e.sz++e.ot
def QnE(e:DEnt):TEnt:=⟨e.nm,encV e⟩
def Qe(x:TEnt):DEnt:=⟨x.key,Xl x.val 6 1,x.val.drop 20,Xl x.val 0 4,Xl x.val 4 2,Xl x.val 7 1,Xl x.val 8 4,Xl x.val 12 4,Xl x.val 16 4⟩
def dcE(x:TEnt):Int:=if x.val.length<20 then 3 else Qbg (Qe x)
def dcD(x:TEnt):DEnt:=if dcE x=0 then Qe x else noE
theorem Qci(s:List UInt8):∀(k a:Nat),a+k<=s.length->Zy k (Xl s a k)=(s.drop a).take k
 | 0,a,_=>by rw[List.take_zero];rfl
 | k+1,a,h=>by
  have ih:=Qci s k (a+1) om;have hl:=QhM s k (a+1);have h1:=QeG s a;have e1:Xl s a (k+1)=at1 s a+256*Xl s (a+1) k:=rfl
  have e2:(s.drop a).take (k+1)=s.getD a 0::(s.drop (a+1)).take k:=by
   rw[List.drop_eq_getElem_cons om,List.take_succ_cons,List.getD_eq_getElem?_getD,List.getElem?_eq_getElem om];rfl
  rw[e1,e2];show by8 _::Zy k _=_;rw[show(at1 s a+256*Xl s (a+1) k)/256=Xl s (a+1) k by omega,ih];congr 1;have h3:=Qhj (at1 s a+256*Xl s (a+1) k);rw[show(at1 s a+256*Xl s (a+1) k)%256=at1 s a by omega]at h3;refine UInt8.toNat_inj.1 ?_;have h4:at1 s a=((s.getD a 0).toNat:Int):=rfl;omega
theorem QcH{s:List UInt8}{a k m:Nat}:(s.drop a).take k++(s.drop (a+k)).take m=(s.drop a).take (k+m):=by
 rw[<-List.drop_drop,List.take_add]
theorem QrT{x:TEnt}(h:20<=x.val.length):QnE (Qe x)=x:=by
 obtain⟨key,v⟩:=x;show(⟨key,encV (Qe ⟨key,v⟩)⟩:TEnt)=⟨key,v⟩;congr 1;have h':20<=v.length:=h;show Zy 4 (Xl v 0 4)++Zy 2 (Xl v 4 2)++Zy 1 (Xl v 6 1)++Zy 1 (Xl v 7 1)++Zy 4 (Xl v 8 4)++Zy 4 (Xl v 12 4)++Zy 4 (Xl v 16 4)++v.drop 20=v;rw[Qci v 4 0 om,Qci v 2 4 om,Qci v 1 6 om,Qci v 1 7 om,Qci v 4 8 om,Qci v 4 12 om,Qci v 4 16 om];rw[show(4:Nat)=0+4 from rfl,QcH,show(6:Nat)=0+(4+2)from rfl,QcH,show(7:Nat)=0+(4+2+1)from rfl,QcH,show(8:Nat)=0+(4+2+1+1)from rfl,QcH,show(12:Nat)=0+(4+2+1+1+4)from rfl,QcH,show(16:Nat)=0+(4+2+1+1+4+4)from rfl,QcH];exact List.take_append_drop 20 v
end Gx
namespace Gx
open Go Go.RowKit
def HA.obj(b:Nat)(o:Obj):HA:=⟨[b],λw=>w.heap[b]?=some o,λw w' h hk=>(h b (List.mem_singleton.2 rfl)).trans hk⟩
section
variable{w0 w:World}{M:List Nat}{As As':List HA}
theorem HS.allocObj(h:HS w0 M As w)(o:Obj):HS w0 M (.obj w.heap.size o::As) (w.alloc o):=h.alloc o _ rfl (World.alloc_heap_new w o)
theorem HS.obj_get{b:Nat}{o:Obj}(h:HS w0 M As w)(hp:QL As (.obj b o) As'):w.heap[b]?=some o:=h.ok _ hp.mem
theorem HS.putObj{b:Nat}{o:Obj}(h:HS w0 M As w)(hp:QL As (.obj b o) As')(o':Obj):HS w0 M (.obj b o'::As') (w.putObj b o'):=by
 have h1:=h.pick hp;have hb:w.heap[b]?=some o:=h1.head;have hlt:b<w.heap.size:=(Array.getElem?_eq_some_iff.1 hb).1;refine h1.swap (λ_ hx=>hx) rfl rfl rfl (by simp[World.putObj]) (λc hc=>World.putObj_heap_other (λe=>hc (by subst e;exact List.mem_singleton.2 rfl))) (World.putObj_heap_same hlt)
end
def Zu(P:Program)(l:Nat)(args:Array Value)(w:World)(R:Ending->World->Prop):Prop:=
 ∃f tmps assign body,(Instr.yield l args).run P w=.ok (.round l f tmps assign body) w/\RoundIn Fence.wide 0 P l f tmps assign body w R
section
variable{P:Program}{o:Oper}{L:Qc}
theorem QlY{C:World->Prop}{G:Type}{V:G->Value}{F:G->Prop}{C':G->World->Prop}{x:Operand}{args:Array Operand}{vs:List Value}{ts:Array TypeId}{l:Nat}(ho:o.op=.call {callee:=.value x,args:=args,argTypes:=ts})(hx:ev L x=some (.func (.yield l) #[] #[]))
  (ha:evs L args.toList=some vs)(hy:∀w,C w->Zu P l vs.toArray w λe w'=>∃g,e=.returned (V g)/\F g/\C' g w'):OpH P o L C V F C':=by
 intro ρ w hρ hw;obtain⟨f,tmps,assign,body,hr,hR⟩:=hy w hw;have e1:args.map ρ=vs.toArray:=by rw[<-QdK hρ ha,<-List.map_toArray]
 unfold execOp;simp only[ho,resolve,Sem.run_bind,hρ _ _ hx,Deferred.ofValue,e1,Sem.run_pure,Result.andThen_ok,invoke,Array.empty_append,hr];exact RoundIn.mono hR λe w'⟨g,he,hf,hc⟩=>⟨V g,he,g,rfl,hf,hc⟩
end
def rdy(fid:FuncId)(tmps:Array Value)(ps:Array Tmp)(assign body:Code)(D:Nat):Loop:={state:=.ready,pending:=none,fn:=fid,tmps:=tmps,params:=ps,assign:=assign,body:=body,defers:=D}
theorem Qwc{P:Program}{fn:Func}{n l D:Nat}{fid:FuncId}{tmps:Array Value}{ps:Array Tmp}{assign body:Code}{args:Array Value}{L0 L1:Qc}{w0 W:World}{M:List Nat}{As As1:List HA}{Rr:Ending->World->Prop}
  (hC:HS w0 M (.obj l (.loop (rdy fid tmps ps assign body D))::As) W)(hps:args.size=ps.size)(hf:FR n [] L0 {tmps:=(ps.zip args).foldl (λt(p,v)=>t.setIfInBounds p v) tmps,defers:=[]})
  (h1:S {P:=P,fn:=fn,n:=n,R:=λ_ _=>False,rd:=some l} [.c assign,.join (At n [] (λ_:Unit=>L1) (λ_=>HS w0 M (.obj l (.loop (rdy fid tmps ps assign body D))::As1)))] L0 (HS w0 M (.obj l (.loop (rdy fid tmps ps assign body D))::As)))
  (h2:S {P:=P,fn:=fn,n:=n,R:=Rr,rd:=some l} [.c body] L1 (HS w0 M (.obj l (.loop {rdy fid tmps ps assign body D with state:=.busy})::As1))):Zu P l args W Rr:=by
 refine⟨fid,_,assign,body,run_yield (hC.obj_get .here) hps,roundIn_of_wpIn trivial ?_⟩;refine wpIn_mono (h1 _ W hf hC) λe a w he=>?_;cases e with
 | normal=>
  obtain⟨_,hfr,hc⟩:=he;exact⟨_,run_beginRound (hc.obj_get .here) rfl,h2 _ _ hfr (hc.putObj .here _)⟩
 | ret=>obtain⟨v,w',_,hx⟩:=he;exact hx
 | exit id=>obtain⟨v,w',_,hx⟩:=he;exact hx
 | goto t=>obtain⟨v,w',_,hx⟩:=he;exact hx
 | panic ch=>exact he
 | outgrown=>exact he
theorem FR.round1{n:Nat}{L:Qc}{a:Act}(h:FR n [] L a)(d:Nat)(v:Value)(hd:Nat.blt d n=true):FR n [] ((d,v)::L) {tmps:=((#[d]:Array Tmp).zip #[v]).foldl (λt(p,v)=>t.setIfInBounds p v) a.tmps,defers:=[]}:=by
 have h1:=h.put d v hd;have e:((#[d]:Array Tmp).zip #[v]).foldl (λt(p,v)=>t.setIfInBounds p v) a.tmps=a.tmps.setIfInBounds d v:=by simp
 rw[e];exact⟨rfl,h1.size,h1.slot⟩
section
variable{X:Ctx}{k:List KI}{L:Qc}{w0:World}{M:List Nat}{As As':List HA}
theorem QjH{C:World->Prop}{l:Nat}(hrd:X.rd=some l)(h:∀w,C w->∃r,w.heap[l]?=some (.loop r)/\X.R (.returned (.bool true)) (w.putObj l (.loop {r with state:=.ready,pending:=none}))):S X [] L C:=by
 intro a w ha hw;show(match X.rd with|none=>bodyPostM X.F 0 X.P X.fn X.R .normal a w|some l=>roundPost X.P l X.R .normal a w);rw[hrd];obtain⟨r,h1,h2⟩:=h w hw;exact⟨_,_,run_endRound none h1,h2⟩
theorem Qi2{l D:Nat}{fid:FuncId}{tmps:Array Value}{ps:Array Tmp}{assign body:Code}(hrd:X.rd=some l)(hp:QL As (.obj l (.loop {rdy fid tmps ps assign body D with state:=.busy})) As')(h:∀w,HS w0 M (.obj l (.loop (rdy fid tmps ps assign body D))::As') w->X.R (.returned (.bool true)) w):S X [] L (HS w0 M As):=
 QjH hrd λw hw=>⟨_,hw.obj_get hp,h _ (hw.putObj hp _)⟩
theorem QdG(d:List Nat):∀k,post {X with df:=d} k=post X k
 | []=>by funext e a w;rfl
 | Sum.inl c::k=>by funext e a w;cases e<;>simp only[post,QdG d k]
 | Sum.inr (Sum.inl id)::k=>by funext e a w;cases e<;>simp only[post,QdG d k]
 | Sum.inr (Sum.inr J)::k=>by funext e a w;cases e<;>simp only[post,QdG d k]
theorem QuQ{D:Nat}{rs:List ResultVar}{vs:List Value}(hr:X.fn.results=rs.toArray)(hp:QL As (.obj D (.deferred (some []))) As')(hv:RV X.P L As' rs vs)(h:∀w,HS w0 M As' w->X.R (.returned (QA vs)) w)(hrd:X.rd=none:=by rfl)(hdf:X.df=[D]:=by rfl):S X (.c .ret::k) L (HS w0 M As):=by
 refine Qqo (Qag λa w ha hw=>?_);show(match X.rd with|none=>bodyPostM X.F 0 X.P X.fn X.R .ret a w|some l=>roundPost X.P l X.R .ret a w);rw[hrd];show LeavesInM X.F 0 X.P X.fn a.tmps X.R a.defers .returning w;rw[ha.defers,hdf];have h1:=(hw.putObj hp (.deferred none)).tail;refine⟨by simp,.inl ⟨D,_,rfl,run_takeDeferred (hw.obj_get hp),QA vs,?_,h _ h1⟩⟩;have hm:=hv.run ha h1;rw[Qbs hr,Array.mapM_eq_mapM_toList];simp only[Sem.run_bind,Sem.run_map,hm,Result.andThen_ok,Sem.run_pure]
 match vs with
 | []=>rfl
 | [v]=>rfl
 | u::v::vs=>simp[QA]
end
end Gx
namespace Gx
open Go Go.RowKit
theorem HS.own_at{w0 w:World}{M:List Nat}{As As':List HA}{g n n' cap t sz:Nat}{xs:List Value}(h:HS w0 M As w)(hp:QL As (.own (.slice (some ⟨g,0,none⟩) n' cap) t sz n xs) As'):HS w0 M (.blk g t (cap*sz) xs::As') w:=by
 have h1:=h.pick hp;refine h1.turn (λb hb=>by simpa[HA.fp_own,HA.fp_blk,Value.ownBlock]using hb) λho=>?_;obtain⟨_,⟨e,_⟩|⟨g',cap',e,_,_,hb⟩⟩:=ho
 ·grind
 ·injection e with e1 e2 e3
  injection e1 with e1
  injection e1 with e1
  subst e1 e3;exact hb
end Gx
namespace Gx
open Go Go.RowKit
section
variable{S:Type}(st:S->Vis->S)(er:S->Vis->Int×Int)
def Xs:S->List Vis->(Int×Int)×S
 | s,[]=>((0,0),s)
 | s,v::vs=>if(er s v).2=0 then Xs (st s v) vs else(er s v,st s v)
theorem Qcf:∀(A B:List Vis)(s:S),Xs st er s (A++B)=if(Xs st er s A).1.2=0 then Xs st er (Xs st er s A).2 B else Xs st er s A
 | [],B,s=>rfl
 | v::A,B,s=>by
  rw[List.cons_append,Xs,Xs]
  by_cases h:(er s v).2=0
  ·simp_all[Qcf]
  grind
theorem QoN{A B:List Vis}{s:S}(h:¬(Xs st er s A).1.2=0):Xs st er s (A++B)=Xs st er s A:=by rw[Qcf,if_neg h]
theorem Qlt{A B:List Vis}{s:S}(h:(Xs st er s A).1.2=0):Xs st er s (A++B)=Xs st er (Xs st er s A).2 B:=by rw[Qcf,if_pos h]
theorem Qqz:∀{A:List Vis}{s:S},(Xs st er s A).1.2=0->(Xs st er s A).1=(0,0)
 | [],s,_=>rfl
 | v::A,s,h=>by
  rw[Xs]at h ⊢;split at h
  ·simp_all[Qqz]
  grind
end
def XH(ns:List Nd)(v:Vis)(k:Nat):Vis:=⟨((nth ns v.i).cs.getD k 0).toNat,v.d+1,loK (nth ns v.i).es k v.lo,hiK (nth ns v.i).es k v.hi⟩
def QaP(ns:List Nd)(f:Nat)(v:Vis)(k:Nat):List Vis:=v::(List.range k).flatMap λk=>vis ns f (XH ns v k)
theorem Qlg(ns:List Nd)(f:Nat)(v:Vis):QaP ns f v 0=[v]:=rfl
theorem XT(ns:List Nd)(f:Nat)(v:Vis)(k:Nat):QaP ns f v (k+1)=QaP ns f v k++vis ns f (XH ns v k):=by
 unfold QaP;rw[List.range_succ,List.flatMap_append,List.flatMap_singleton];rfl
theorem Y8(ns:List Nd)(f:Nat)(v:Vis):vis ns (f+1) v=QaP ns f v (nth ns v.i).cs.length:=rfl
theorem Qbd(ns:List Nd)(f:Nat)(v:Vis){k m:Nat}(h:k<=m):∃B,QaP ns f v m=QaP ns f v k++B:=by
 induction m with
 | zero=>simp_all
 | succ m ih=>
  rcases Nat.lt_or_ge m k with h1|h1
  ·obtain rfl:k=m+1:=by omega
   simp_all
  grind[vis,XH,XT]
theorem Qeq{ns:List Nd}{i:Nat}{P:List Nat}(h:Way ns (i::P))(hi:i<ns.length){k:Nat}(hk:k<(nth ns i).cs.length)(hc:0<=(nth ns i).cs.getD k 0):Way ns (((nth ns i).cs.getD k 0).toNat::i::P):=by
 refine⟨⟨?_,hi⟩,h⟩
 grind
theorem Qgl{co:Int}{ns:List Nd}(ht:TOk co ns){i k:Nat}(hi:i<ns.length)(hk:k<(nth ns i).cs.length):1<=(nth ns i).cs.getD k 0/\(nth ns i).cs.getD k 0<=(ns.length:Int)-1/\(nth ns ((nth ns i).cs.getD k 0).toNat).us=true:=by
 have hm:(nth ns i).cs.getD k 0∈(nth ns i).cs:=by grind
 have h:=ht.kid i hi _ hm
 grind
structure Bd(ns:List Nd):Prop where
 len:ns.length<=1000
 es:∀i,i<ns.length->(nth ns i).es.length<=1000
 cs:∀i,i<ns.length->(nth ns i).cs.length<=1000
theorem Qh(L:List LNd):(pln L).length=L.length:=by simp
theorem QR{L:List LNd}{i:Nat}(h:i<L.length):nth (pln L) i=(nth L i).pl:=by simp_all[Yi,Xw]
theorem Qsv(L M:List LNd):pln (L++M)=pln L++pln M:=by simp
def Qar(w:World)(M:List Nat)(p:Option Addr)(o:Option (List UInt8)):Prop:=match o with
 | none=>p=none
 | some k=>∃b off,p=some ⟨b,off,none⟩/\Rd w M b off (.string (bs k))
theorem Qar.keep{w w':World}{M:List Nat}{As:List HA}{p:Option Addr}{o:Option (List UInt8)}(h:Qar w M p o)(hs:HS w M As w'):Qar w' (fps As) p o:=by
 cases o with
 | none=>exact h
 | some k=>
  obtain⟨b,off,e,hr⟩:=h;exact⟨b,off,e,hs.keep hr⟩
theorem Qar.mono{w:World}{M M':List Nat}{p:Option Addr}{o:Option (List UInt8)}(h:Qar w M p o)(hM:∀b∈M',b∈M):Qar w M' p o:=by
 cases o with
 | none=>exact h
 | some k=>
  obtain⟨b,off,e,hr⟩:=h;exact⟨b,off,e,hr.mono hM⟩
theorem Qar.of_some{w:World}{M:List Nat}{p:Option Addr}{o:Option (List UInt8)}(h:Qar w M p o)(hp:p.isSome=true):∃k b off,o=some k/\p=some ⟨b,off,none⟩/\Rd w M b off (.string (bs k)):=by
 cases o with
 | none=>
  have:p=none:=h
  grind
 | some k=>
  obtain⟨b,off,e,hr⟩:=h
  grind
theorem Qar.of_none{w:World}{M:List Nat}{p:Option Addr}{o:Option (List UInt8)}(h:Qar w M p o)(hp:p.isSome=false):o=none:=by
 cases o with
 | none=>rfl
 | some k=>
  obtain⟨b,off,e,hr⟩:=h;subst e;cases hp
theorem QY{As Cs Ds:List HA}(h:Qaw As Cs Ds):∀b∈fps Cs,b∈fps As:=λb hb=>by
 obtain⟨A,hA,hb⟩:=List.mem_flatMap.1 hb;exact List.mem_flatMap.2 ⟨A,(List.Perm.mem_iff h).2 (List.mem_append_left _ hA),hb⟩
theorem HS.rd_blkF{w0 w:World}{M:List Nat}{As Cs Ds Es:List HA}{b i t tot:Nat}{cs:List Value}{v:Value}(h:HS w0 M As w)(hp:Qaw As Cs Ds)(hp2:QL Ds (.blk b t tot cs) Es)(hv:cs[i]?=some v):Rd w (fps Cs) b i v:=by
 have h1:HS w0 M (Cs++Ds) w:=h.perm hp;refine⟨(h1.ok _ (List.mem_append_right _ hp2.mem)|>QX.lt),λhb=>?_,QX.cell (h1.ok _ (List.mem_append_right _ hp2.mem)) hv⟩;obtain⟨A,hA,hb⟩:=List.mem_flatMap.1 hb;exact(List.pairwise_append.1 h1.sep).2.2 A hA _ hp2.mem b hb (List.mem_singleton.2 rfl)
section
variable(t:Tre)(i:Nat)
def nE1:Int:=if((nth t.ns i).es.length:Int)<=YL t.mo t.rm i then if(nth t.ns i).cs.length=0\/(nth t.ns i).cs.length=(nth t.ns i).es.length+1 then 0 else 10 else 16
def nE2:Int:=if nE1 t i=0 then ZJ t.co (nth t.ns i).es else nE1 t i
def nE3(seen:List Int):Int×List Int:=if nE2 t i=0 then X4 t.ns (nth t.ns i).cs seen else(nE2 t i,seen)
def nE4(seen:List Int):Int:=if(nE3 t i seen).1=0 then Qbi t.co (nth t.ns i).es else(nE3 t i seen).1
theorem Qhi{seen:List Int}(h:(nth t.ns i).us=true):XO t i seen=(nE4 t i seen,(nE3 t i seen).2):=by
 unfold XO nE4 nE3 nE2 nE1
 grind
theorem QvE(h:nE2 t i=0):ZJ t.co (nth t.ns i).es=0:=by grind[nE2]
theorem Qs4{seen:List Int}(h:(nE3 t i seen).1=0):nE2 t i=0:=by grind[nE3]
end
def Qc6(ns:List Nd)(c:Int):Prop:=(1<=c/\c<=(ns.length:Int)-1)/\(nth ns c.toNat).us=true
instance(ns:List Nd)(c:Int):Decidable (Qc6 ns c):=inferInstanceAs (Decidable (_/\_))
def Qb6(ns:List Nd)(c:Int)(seen:List Int):Int:=if Qc6 ns c then if c∈seen then 23 else 0 else 6
def QdX(ns:List Nd)(c:Int)(seen:List Int):List Int:=if Qc6 ns c then c::seen else seen
theorem QbB(ns:List Nd)(c:Int)(cs seen:List Int):X4 ns (c::cs) seen=if Qb6 ns c seen=0 then X4 ns cs (QdX ns c seen)else(Qb6 ns c seen,QdX ns c seen):=by grind[Qb6,QdX,X4,Qc6,nth]
theorem QcS{cs:List Int}{k:Nat}(h:k<cs.length):cs.drop k=cs.getD k 0::cs.drop (k+1):=by simp_all
theorem Qcu{co:Int}{es:List TEnt}{k:Nat}(h:k<es.length):(es.map (YU co)).getD k 0=YU co (nth es k):=by
 rw[Yd (d:=default) h];rfl
theorem Qch{co:Int}{es:List TEnt}{k:Nat}(h:k<es.length):((List.range es.length).map (Qbe co es)).getD k 0=Qbe co es k:=by grind
theorem QaU{co:Int}{x:TEnt}(h:YU co x=0):Q7 co x.key=true:=by grind[YU,YM]
theorem QeH{co:Int}{k:List UInt8}(h:Q7 co k=true):1<=k.length/\k.length<=40:=by grind[Q7]
theorem HS.thenF{w w1 w2:World}{M:List Nat}{As Bs:List HA}(h:HS w M As w1)(hc:HS w1 (fps As) Bs w2):HS w M Bs w2:=by
 have h1:HS w M (As++[]) w1:=by rw[List.append_nil];exact h
 have h2:=h1.callM (Mc:=fps As) (λb hb=>by obtain⟨A,hA,hb⟩:=List.mem_flatMap.1 hb;exact⟨A,hA,hb⟩) hc
 grind
def QgW(cs:List Int)(n:Int):List Bool:=cs.map λc=>decide (n=c)
theorem Qca(cs:List Int)(n:Int):(QgW cs n).length=cs.length:=by simp[QgW]
theorem Qjq{cs:List Int}{n:Int}{k:Nat}(h:k<cs.length):(QgW cs n).getD k false=decide (n=cs.getD k 0):=by grind[QgW,Yd]
theorem Qpg(cs:List Int)(n:Int):(QgW cs n).any id=decide (n∈cs):=by
 unfold QgW;rw[List.any_map]
 grind
def ZF(t:Tre)(v:Vis):Bool:=decide (0<v.i)&&(decide (((nth t.ns v.i).es.length:Int)<t.mo/2)||((decide ((nth t.ns 0).es.length=0)&&decide ((v.i:Int)∈(nth t.ns 0).cs))&&decide (((nth t.ns v.i).es.length:Int)<=t.rm)))
def ZK(t:Tre)(v:Vis)(x:TEnt):Bool:=(v.lo.any λb=>decide (0<=QS t.co b x.key))||(v.hi.any λb=>decide (0<=QS t.co x.key b))
def Zk(t:Tre)(v:Vis):Bool:=(nth t.ns v.i).es.any (ZK t v)
def erV(t:Tre)(s:Int)(v:Vis):Int×Int:=((v.i:Int),if ZF t v=true then 14 else if Zk t v=true then 9 else if(nth t.ns v.i).cs.length=0 then(if(if s=0 then v.d else s)=v.d then 0 else 22)else 0)
def stV(t:Tre)(s:Int)(v:Vis):Int:=if ZF t v=true then s else if Zk t v=true then s else if(nth t.ns v.i).cs.length=0 then(if s=0 then v.d else s)else s
theorem QbJ(t:Tre)(deep:Int)(v:Vis):QcW t deep v=if ZF t v=true then 14 else if Zk t v=true then 9 else if(nth t.ns v.i).cs.length=0/\v.d≠deep+1 then 22 else 0:=by
 unfold QcW;simp only[];have h:ZF t v=true ↔ (0<v.i/\(((nth t.ns v.i).es.length:Int)<t.mo/2\/((nth t.ns 0).es.length=0/\(v.i:Int)∈(nth t.ns 0).cs)/\((nth t.ns v.i).es.length:Int)<=t.rm)):=by grind[ZF]
 by_cases h1:ZF t v=true
 ·grind
 ·rw[if_neg (λh2=>h1 (h.2 h2)),if_neg h1];rfl
theorem Qht(t:Tre):∀(vs:List Vis)(s:Int),s≠0->(Xs (stV t) (erV t) s vs).1=X6 t (s-1) vs
 | [],s,_=>rfl
 | v::vs,s,hs=>by
  have he:(erV t s v).2=QcW t (s-1) v:=by grind[QbJ,erV,ZF,Zk,nth]
  have hst:stV t s v=s:=by grind[stV]
  rw[Xs,X6,he,hst];split
  ·exact Qht t vs s hs
  grind[erV]
theorem Qhl{t:Tre}(hT:TOk t.co t.ns)(h0:0<t.ns.length)(deep:Int):∀(f:Nat)(v:Vis)(P:List Nat)(rest:List Vis),Gx.Way t.ns (v.i::P)->P.length+f=t.ns.length->1<=v.d->deep+1=v.d+YW t.ns f v.i->(Xs (stV t) (erV t) 0 (vis t.ns f v++rest)).1=X6 t deep (vis t.ns f v++rest)
 | 0,v,P,rest,hw,hf,_,_=>by
  have:=YJ hT h0 hw
  grind
 | f+1,v,P,rest,hw,hf,hd,he=>by
  have hi:=Qcr hT h0 hw v.i (List.mem_cons_self ..);rw[YW]at he;rw[vis,List.cons_append,Xs,X6,QbJ]
  by_cases h1:ZF t v=true
  ·grind[erV]
  ·rw[if_neg h1]
   by_cases h2:Zk t v=true
   ·grind[erV]
   ·rw[if_neg h2]
    by_cases h3:(nth t.ns v.i).cs.length=0
    ·grind[erV,stV,nth,Qht]
    ·rw[if_neg h3]at he;have e1:(erV t 0 v).2=0:=by unfold erV;simp only[if_neg h1,if_neg h2,if_neg h3]
     have e2:stV t 0 v=0:=by unfold stV;rw[if_neg h1,if_neg h2,if_neg h3]
     have hk:=Qgl hT hi (k:=0) om;have e3:(if(nth t.ns v.i).cs.length=0/\v.d≠deep+1 then(22:Int)else 0)=0:=if_neg (λh5=>h3 h5.1);rw[e1,if_pos rfl,e2,e3,if_pos rfl];obtain⟨m,hm⟩:∃m,(nth t.ns v.i).cs.length=m+1:=⟨(nth t.ns v.i).cs.length-1,om⟩;rw[hm,List.range_succ_eq_map,List.flatMap_cons,List.append_assoc];refine Qhl hT h0 deep f _ (v.i::P) _ (Qeq hw hi om om) (by simp only[List.length_cons];omega) (by show 1<=v.d+1;omega) ?_
     grind
theorem run_shape{t:Tre}(hT:TOk t.co t.ns)(h0:0<t.ns.length):(Xs (stV t) (erV t) 0 (Yy t.ns)).1=X6 t (YW t.ns t.ns.length 0) (Yy t.ns):=by
 have h:=Qhl hT h0 (YW t.ns t.ns.length 0) t.ns.length Z4 [] [] rfl (by simp) (by decide) (by show _=1+_;rw[show Z4.i=0 from rfl];omega);rw[List.append_nil]at h;exact h
def Qg3(s:List Bool)(v:Vis):List Bool:=s.set v.i true
theorem Qmk:∀(vs:List Vis)(s:List Bool),(Xs Qg3 (λ_ _=>(0,0)) s vs).1=(0,0)/\(Xs Qg3 (λ_ _=>(0,0)) s vs).2.length=s.length/\∀i,i<s.length->(Xs Qg3 (λ_ _=>(0,0)) s vs).2.getD i false=(s.getD i false||decide (i∈vs.map Vis.i))
 | [],s=>⟨rfl,rfl,λi _=>by simp[Xs]⟩
 | v::vs,s=>by
  obtain⟨h1,h2,h3⟩:=Qmk vs (Qg3 s v)
  grind[Xs,Qg3,hi]
theorem Qkd{S:Type}{st:S->Vis->S}{er:S->Vis->Int×Int}{I:S->Prop}(hI:∀s v,I s->I (st s v)):∀(vs:List Vis)(s:S),I s->I (Xs st er s vs).2
 | [],s,h=>h
 | v::vs,s,h=>by
  rw[Xs];split
  ·simp_all[Qkd]
  ·exact hI _ _ h
def KOk(co:Int)(o:Option (List UInt8)):Prop:=∀k,o=some k->Q7 co k=true/\k.length<=1000000
theorem Qef{co:Int}{ns:List Nd}(hT:TOk co ns){i:Nat}(hi:i<ns.length):∀x∈(nth ns i).es,Q7 co x.key=true/\x.key.length<=1000000:=λx hx=>by
 have h:=QaU (hT.ents i hi x hx)
 grind[QeH]
theorem Qfs{co:Int}{ns:List Nd}(hT:TOk co ns){v:Vis}(hi:v.i<ns.length){k:Nat}(hk:k<=(nth ns v.i).es.length)(h:KOk co v.lo):KOk co (XH ns v k).lo:=by
 intro x hx;unfold XH loK at hx;simp only[]at hx;split at hx
 ·grind[Qef,hi,Qt]
 ·exact h x hx
theorem Qgw{co:Int}{ns:List Nd}(hT:TOk co ns){v:Vis}(hi:v.i<ns.length){k:Nat}(h:KOk co v.hi):KOk co (XH ns v k).hi:=by
 intro x hx;unfold XH hiK at hx;simp only[]at hx;split at hx
 ·grind[Qef,hi,Qt]
 ·exact h x hx
def QbQ(t:Tre):Int×Int:=match Qap t.ns ((Yy t.ns).map Vis.i) t.ns.length 0 with
 | some i=>((i:Int),21)
 | none=>X6 t (YW t.ns t.ns.length 0) (Yy t.ns)
theorem QkZ{t:Tre}{deep:Int}:∀{vs:List Vis},(X6 t deep vs).2=0->X6 t deep vs=(0,0)
 | [],_=>rfl
 | v::vs,h=>by
  rw[X6]at h ⊢;split at h
  ·simp_all[QkZ]
  grind
theorem Ql5{t:Tre}(h:(QbQ t).2=0):(QbQ t).1=0:=by grind[QbQ,QkZ]
def Y1(n:Nat):Int:=if 0<n then if n<=120 then 0 else 8 else 10
theorem QcO{t:Tre}(h:¬(if QK t.co=0 then Zn t.mo t.rm else QK t.co)=0):Yb t=(0,if QK t.co=0 then Zn t.mo t.rm else QK t.co):=by grind[Yb,QK,Zn]
theorem QiN{t:Tre}(h:(if QK t.co=0 then Zn t.mo t.rm else QK t.co)=0):QK t.co=0/\Zn t.mo t.rm=0:=by grind
theorem QfT{mo rm:Int}(h:Zn mo rm=0):(3<=mo/\mo<=8)/\(mo/2<=rm/\rm<=mo):=by grind[Zn]
theorem Qea{t:Tre}(h:(if QK t.co=0 then Zn t.mo t.rm else QK t.co)=0)(h2:¬Y1 t.ns.length=0):Yb t=(0,Y1 t.ns.length):=by grind[QiN,Yb,Y1]
theorem QkH{n:Nat}(h:Y1 n=0):0<n/\n<=120:=by grind[Y1]
theorem Qex{t:Tre}(h:(if QK t.co=0 then Zn t.mo t.rm else QK t.co)=0)(h2:Y1 t.ns.length=0):Yb t=if(X0 t t.ns.length 0 []).2=0 then QbQ t else X0 t t.ns.length 0 []:=by
 obtain⟨h3,h4⟩:=QiN h;obtain⟨h5,h6⟩:=QkH h2;unfold Yb;rw[if_pos h3,if_pos h4,if_pos h5,if_pos h6];rfl
theorem QkO{t:Tre}(h:(Yb t).2=0):QK t.co=0/\Zn t.mo t.rm=0/\0<t.ns.length/\t.ns.length<=120/\(X0 t t.ns.length 0 []).2=0/\(QbQ t).2=0/\Yb t=(0,0):=by
 by_cases h1:(if QK t.co=0 then Zn t.mo t.rm else QK t.co)=0
 ·grind[Y1,Qex,QiN,QkH,Ql5,Qea]
 grind[QcO]
theorem Qqe{l:List Bool}{k:Nat}(h:k<l.length):(l.map Value.bool)[k]?=some (.bool (l.getD k false)):=by grind
theorem Qgt{t:Tre}{k:Nat}{seen:List Int}(h:k<t.ns.length):X0 t (t.ns.length-k) k seen=if(XO t k seen).1=0 then X0 t (t.ns.length-(k+1)) (k+1) (XO t k seen).2 else((k:Int),(XO t k seen).1):=by
 rw[show t.ns.length-k=t.ns.length-(k+1)+1 by omega,X0]
theorem QhD{ns:List Nd}{below:List Nat}{k:Nat}(h:k<ns.length):Qap ns below (ns.length-k) k=if(nth ns k).us=true/\k ∉ below then some k else Qap ns below (ns.length-(k+1)) (k+1):=by
 rw[show ns.length-k=ns.length-(k+1)+1 by omega,Qap]
theorem Qdv{t:Tre}{i:Nat}(h:Qap t.ns ((Yy t.ns).map Vis.i) t.ns.length 0=some i):QbQ t=((i:Int),21):=by
 unfold QbQ;rw[h]
theorem Qdt{t:Tre}(h:Qap t.ns ((Yy t.ns).map Vis.i) t.ns.length 0=none):QbQ t=X6 t (YW t.ns t.ns.length 0) (Yy t.ns):=by
 unfold QbQ;rw[h]
theorem Qrt{l:List LNd}{k:Nat}(hk:k<l.length)(ea:Option Addr)(ec:Nat)(es:List TEnt):Qf (l.flatMap LNd.vals) (k*3+1) [.slice ea es.length ec]=(l.set k {nth l k with ea:=ea,ec:=ec,es:=es}).flatMap LNd.vals:=
 Z7 nv3 l k 1 _ (nth l k) _ (Xw hk) rfl (by simp)
theorem QqV{l:List LNd}{k:Nat}(hk:k<l.length)(ca:Option Addr)(cc:Nat)(cs:List Int):Qf (l.flatMap LNd.vals) (k*3+2) [.slice ca cs.length cc]=(l.set k {nth l k with ca:=ca,cc:=cc,cs:=cs}).flatMap LNd.vals:=
 Z7 nv3 l k 2 _ (nth l k) _ (Xw hk) rfl (by simp)
theorem Qnq{l:List LNd}{k:Nat}(hk:k<l.length)(ea:Option Addr)(ec:Nat)(es:List TEnt)(ca:Option Addr)(cc:Nat)(cs:List Int):Qf (Qf (l.flatMap LNd.vals) (k*3+1) [.slice ea es.length ec]) (k*3+2) [.slice ca cs.length cc]=(l.set k ⟨(nth l k).us,ea,ec,es,ca,cc,cs⟩).flatMap LNd.vals:=by simp_all[Qrt,QqV,Qlb]
theorem Qln{l m:List LNd}{k:Nat}(hl:l.length=k)(hk:k<m.length):nth (l++m.drop k) k=nth m k:=by
 apply Yi
 grind[Xw]
theorem Qri{l m:List LNd}{k:Nat}(hl:l.length=k)(hk:k<m.length)(x:LNd):(l++m.drop k).set k x=l++[x]++m.drop (k+1):=by
 rw[List.set_append_right _ _ om,hl,Nat.sub_self,List.drop_eq_getElem_cons hk,List.set_cons_zero,List.append_assoc];rfl
theorem Qj2{L:List LNd}{k:Nat}(hk:k<L.length){D:List LNd}(hD:pln D=(pln L).take k){x:LNd}(hx:x.pl=(nth L k).pl):pln (D++[x])=(pln L).take (k+1):=by
 rw[Qsv,hD,List.take_succ_eq_append_getElem (by rw[Qh];exact hk)]
 simp_all[pln,Qh,nth,Yi,QR]
end Gx
namespace Gx
open Go Go.RowKit
theorem QkU{X:Ctx}{k:List KI}{L:Qc}{C:World->Prop}{α:Type}{c:Code}(md:List Nat)(Lm:α->Qc)(I:α->Prop)(h1:S X (.c c::.join (AtI X.n X.df (λx=>Lm x++Qda md L) (λ_=>C) I)::k) L C)(h2:∀x,I x->S X k (Lm x++Qda md L) C):S X (.c c::k) L C:=
 Xy md Lm (λ_=>C) I h1 h2
end Gx
namespace Gx
open Go Go.RowKit
section
variable{w0 w:World}{M:List Nat}{As As':List HA}{p:Prop}
theorem QtM{X:Ctx}{L:Qc}{D:Nat}(hr:X.fn.results= #[])(hp:QL As (.obj D (.deferred (some []))) As')(h:∀w,HS w0 M As' w->X.R (.returned (.tuple #[])) w)(hrd:X.rd=none:=by rfl)(hdf:X.df=[D]:=by rfl):S X [] L (HS w0 M As):=by
 intro a w ha hw;show(match X.rd with|none=>bodyPostM X.F 0 X.P X.fn X.R .normal a w|some l=>roundPost X.P l X.R .normal a w);rw[hrd];show LeavesInM X.F 0 X.P X.fn a.tmps X.R a.defers .returning w;rw[ha.defers,hdf];have h1:=(hw.putObj hp (.deferred none)).tail;exact⟨by simp,.inl ⟨D,_,rfl,run_takeDeferred (hw.obj_get hp),.tuple #[],results_none hr _ _ _,h _ h1⟩⟩
end
end Gx
namespace Go.Proofs
open Go Go.RowKit Gx
attribute [local irreducible] Go.Calls Gx.S Gx.O Gx.D Gx.OpP Gx.OpQ Gx.OpH
set_option maxRecDepth 20000
instance:TFd Tryz.prog 26 0 0 3:=⟨by kernel_rfl⟩
theorem Zh:tsz Tryz.prog 3=some (1,false):=by kernel_rfl
instance:TSz Tryz.prog 3 1 false:=⟨Zh⟩
theorem QsU:QJ Tryz.prog 78=true:=by kernel_rfl
instance:TFn Tryz.prog 78:=⟨QsU⟩
instance:TFd Tryz.prog 26 1 1 3:=⟨by kernel_rfl⟩
theorem Ql4:QJ Tryz.prog 77=true:=by kernel_rfl
instance:TFn Tryz.prog 77:=⟨Ql4⟩
instance:TFd Tryz.prog 28 0 0 3:=⟨by kernel_rfl⟩
instance:TFd Tryz.prog 28 1 1 3:=⟨by kernel_rfl⟩
instance:TFd Tryz.prog 28 2 2 3:=⟨by kernel_rfl⟩
instance:TFd Tryz.prog 28 3 3 3:=⟨by kernel_rfl⟩
instance:TFd Tryz.prog 30 0 0 26:=⟨by kernel_rfl⟩
theorem QbN:tsz Tryz.prog 26=some (2,true):=by kernel_rfl
instance:TSz Tryz.prog 26 2 true:=⟨QbN⟩
theorem Qvh:QJ Tryz.prog 89=true:=by kernel_rfl
instance:TFd Tryz.prog 30 1 2 28:=⟨by kernel_rfl⟩
theorem Zi:tsz Tryz.prog 28=some (4,true):=by kernel_rfl
instance:TSz Tryz.prog 28 4 true:=⟨Zi⟩
theorem QuL:QJ Tryz.prog 108=true:=by kernel_rfl
theorem QsY:QJ Tryz.prog 62=true:=by kernel_rfl
instance:TFd Tryz.prog 66 2 2 9:=⟨by kernel_rfl⟩
instance:TFd Tryz.prog 66 0 0 9:=⟨by kernel_rfl⟩
instance:TFd Tryz.prog 66 1 1 3:=⟨by kernel_rfl⟩
theorem Qtl:QJ Tryz.prog 160=true:=by kernel_rfl
instance:TFd Tryz.prog 66 3 3 26:=⟨by kernel_rfl⟩
instance:TFd Tryz.prog 66 4 5 28:=⟨by kernel_rfl⟩
instance:TSz Tryz.prog 166 1 false:=⟨by kernel_rfl⟩
theorem QlL:QM Tryz.prog 26=some [.int .i64 0,.int .i64 0]:=by kernel_rfl
theorem Qdn:QJ Tryz.prog 100=true:=by kernel_rfl
theorem Qs8:YH Tryz.prog 26=some [(0,1),(1,1)]:=by kernel_rfl
theorem c78(w:World)(n lo hi:Int):CR 78 #[.int .i64 n,.int .i64 lo,.int .i64 hi] w (.bool (decide (lo<=n)&&decide (n<=hi))):=by
 refine eN3 Tryz.func78 Tryz.ntmps78 ?_
 refine Qbf ?_
 refine Xi 4 10 14 rfl
  (λhg1 _=>by
   refine aU6 ?_
   exact oJt 4 14)
  (λhg3 _=>by
   refine aU3 ?_
   exact oJf 4 14) ?_
 refine aU2 ?_
 exact rV
theorem c77(w:World)(ok:Bool)(e:Int):CR 77 #[.bool ok,.int .i64 e] w (.int .i64 (cond ok 0 e)):=by
 refine eN2 Tryz.func77 Tryz.ntmps77 ?_
 refine aU9 ?_
 refine sCd rfl (λh1=>?_) λh1=>?_
 ·refine aU4 ?_
  exact rV (h:=by simp_all[QA])
 refine aU6 ?_
 exact rV (h:=by simp_all[QA])
theorem c62(w:World)(a:Option Addr)(cap:Nat)(es:List Int)(hs:Sl w [] a 1 es.length (λi=>[.int .i64 (es.getD i 0)]))(hm:es.length<=1000):CR 62 #[.slice a es.length cap] w (.int .i64 (Xt es)):=by
 refine eN1 Tryz.func62 Tryz.ntmps62 ?_
 refine QbX ?_
 refine Qp (α:=Nat) [2,4,7,8,9,10,11,12,13,14] (λk=>[(7,.int .i64 (k:Int))]) (λ_=>_) (λk=>k<=es.length/\Xt es=Xt (es.drop k)) (λk=>es.length-k) 0 ⟨om,rfl⟩ aSx (λw h=>h) (λk hk=>?_)
 obtain⟨hk1,hk2⟩:=hk
 refine aU5 ?_
 refine sCd rfl (λh1=>?_) λh1=>?_
 ·refine aU5 ?_
  refine o_p (Qa rfl rfl rfl Yw _ rfl om (hs.some om)) rfl (o_q (Qb rfl rfl QoM (hs.rd (i:=k) (j:=0) om rfl)) rfl (aU7 ?_))
  refine sCd rfl (λh2=>?_) λh2=>?_
  ·refine aU5 ?_
   exact rV (h:=by simp only[QA];rw[hk2,YD om,if_neg (by assumption)])
  refine aT4 ?_
  refine aU2 ?_
  exact Qs (k+1) om ⟨om,by rw[hk2,YD om,if_pos (by assumption)]⟩ aSx (λw h=>h)
 refine Qg rfl ?_
 refine aU4 ?_
 exact rV (h:=by simp only[QA];rw[hk2,QbK om])
theorem f62{w0 w:World}{M:List Nat}{As As':List HA}{b cap n:Nat}{t:TypeId}{tot:Nat}{cs:List Value}(h:HS w0 M As w)(hp:QL As (.blk b t tot cs) As')(hc:cs.all Qg8=true)(hn:cs.length=n)(hl:n<=1000) :
    Calls Tryz.prog 62 #[.slice (some ⟨b,0,none⟩) n cap] w λen w'=>en=.returned (.int .i64 (XM cs))/\Below w.heap.size w w':=by
  subst hn;have:=c62 w (some ⟨b,0,none⟩) cap (cs.map Go.RowKit.intOf) (by simpa using h.sl_ints hp hc) (by simpa using hl);rw[QcP hc]at this
  simpa using this
theorem Qq1(X v:Int)(hX:0<=X/\X<281474976710656)(hv:0<=v/\v<256):Value.int .i64 (Gx.bits .or .i64 (IntKind.i64.wrap (X*2^8)) v)=.int .i64 (v+256*X):=by
  obtain⟨x,rfl⟩:=Int.eq_ofNat_of_zero_le hX.1;obtain⟨y,rfl⟩:=Int.eq_ofNat_of_zero_le hv.1
  have hw:IntKind.i64.wrap ((x:Int)*2^8)=((256*x:Nat):Int):=by
    have h9:=QmQ (e:=(x:Int)*2^8) om om;injection h9 with h8 h7
    rw[h7];omega
  have e:(256*x ||| y:Nat)=y+256*x:=by rw[Nat.or_comm];exact Qrb y x om
  rw[hw,QmH _ _ om om,e];exact congrArg (Value.int .i64) om
theorem Zp(s:List UInt8)(a:Nat):∀(k b:Nat),Xl (s.drop a) b k=Xl s (a+b) k
  | 0,b=>rfl
  | k+1,b=>by
    show at1 (s.drop a) b+256*Xl (s.drop a) (b+1) k=at1 s (a+b)+256*Xl s (a+b+1) k;rw[Zp s a k (b+1),Qga];rfl
theorem Qsk(a b c d e f:Int):XM [.int .i64 a,.int .i64 b,.int .i64 c,.int .i64 d,.int .i64 e,.int .i64 f]=XZ a (XZ b (XZ c (XZ d (XZ e f)))):=by
  simp only[XM,XZ]
  grind
theorem c89(w:World)(re sq:Int):CR 89 #[.agg #[.int .i64 re,.int .i64 sq]] w (.int .i64 (Qh7 re sq)):=by
 refine eN1 Tryz.func89 Tryz.ntmps89 ?_
 refine aU2 ?_
 refine oBx λb1 _=>?_
 refine aU6 ?_
 refine oCq rfl (λw1 h1=>c78 w1 _ _ _) (aU ?_)
 refine Xi 4 6 10 rfl
  (λhg2 _=>by
   refine aU5 ?_
   refine oCq rfl (λw1 h1=>c78 w1 _ _ _) ?_
   exact oJt 4 10)
  (λhg4 _=>by
   refine aU3 ?_
   exact oJf 4 10) ?_
 refine oCq rfl (λw1 h1=>c77 w1 _ _) (aU2 ?_)
 exact rV (h:=by simp only[QA,Qh7,okE,cond_eq_ite])
theorem c108(w:World)(fl tm al sz:Int):CR 108 #[.agg #[.int .i64 fl,.int .i64 tm,.int .i64 al,.int .i64 sz]] w (.int .i64 (Qlc fl tm al sz)):=by
 refine eN1 Tryz.func108 Tryz.ntmps108 ?_
 refine aU2 ?_
 refine oBx λb1 _=>?_
 refine aU6 ?_
 refine oCq rfl (λw1 h1=>c78 w1 _ _ _) (aU ?_)
 refine Xi 4 7 11 rfl
  (λhg2 _=>by
   refine aU5 ?_
   refine oCq rfl (λw1 h1=>c78 w1 _ _ _) ?_
   exact oJt 4 11)
  (λhg4 _=>by
   refine aU3 ?_
   exact oJf 4 11) ?_
 refine aU ?_
 refine Xi 4 12 16 rfl
  (λhg6 _=>by
   refine aU5 ?_
   refine oCq rfl (λw1 h1=>c78 w1 _ _ _) ?_
   exact oJt 4 16)
  (λhg8 _=>by
   refine aU3 ?_
   exact oJf 4 16) ?_
 refine aU ?_
 refine Xi 4 17 21 rfl
  (λhg10 _=>by
   refine aU5 ?_
   refine oCq rfl (λw1 h1=>c78 w1 _ _ _) ?_
   exact oJt 4 21)
  (λhg12 _=>by
   refine aU3 ?_
   exact oJf 4 21) ?_
 refine aU5 ?_
 refine oCq rfl (λw1 h1=>c77 w1 _ _) (aU2 ?_)
 exact rV (h:=by simp only[QA,Qlc,okE,cond_eq_ite])
theorem c160(w:World)(n:Int):CR 160 #[.int .i64 n] w (.bool (decide (0<=n)&&decide (n<=2))):=by
 refine eN1 Tryz.func160 Tryz.ntmps160 ?_
 refine aU7 ?_
 refine oCq rfl (λw1 h1=>c78 w1 _ _ _) (aU2 ?_)
 exact rV
theorem c97(w:World)(e:DEnt)(hnm:e.nm.length<=1000000)(hot:e.ot.length<=1000000):CR 97 #[.agg #[.string (bs e.nm),.int .i64 e.sp,.string (bs e.ot),.int .i64 e.re,.int .i64 e.sq,.int .i64 e.fl,.int .i64 e.tm,.int .i64 e.al,.int .i64 e.sz]] w (.int .i64 (Qbg e)):=by
 refine eN1 Tryz.func97 Tryz.ntmps97 ?_
 refine aU2 ?_
 refine oBx λb1 _=>?_
 refine Qas ?_
 refine QkU (α:=Unit) [3,7,8,9] (λ_=>[(3,.int .i64 (Qge e.ot))]) (λ_=>True) ?_ ?_
 ·skip
  refine sCd rfl (λh2=>?_) λh2=>?_
  ·have ho:Qge e.ot=QT e.ot:=if_neg (by have hq:=h2;simpa using hq)
   refine aU3 ?_
   refine oCq rfl (λw1 hh=>c75 w1 e.ot hot) (aU2 ?_)
   exact Qo () trivial (by rw[ho];exact aSx) (λw h=>h.ent aEt)
  have ho:Qge e.ot=0:=if_pos (by have hq:=h2;simpa using hq)
  refine aU ?_
  exact Qo () trivial (by rw[ho];exact aSx) (λw h=>h.ent aEt)
 intro _ _
 refine aU ?_
 refine QH [] mixed ?_
 refine dFa 0 ?_
 refine dLd 1 [] ?_
 refine dQ 2 [] rfl (Qv rfl Qtb rfl (λw1 hh=>c75 w1 e.nm hnm)) (dFa 3 ?_)
 refine dLd 4 [] ?_
 refine dQ 5 [] rfl (Qv rfl Qtl rfl (λw1 h1=>c160 w1 _)) (dQ 6 [] rfl (Qv rfl Ql4 rfl (λw1 h1=>c77 w1 _ _)) (dFa 7 ?_))
 refine dLd 8 [] ?_
 refine dP 9 ?_
 refine dFa 10 ?_
 refine dLd 11 [] ?_
 refine dP 12 ?_
 refine dV 13 rfl (QdA rfl rfl rfl Tryz.underlying4) (dQ 14 [] rfl (Qv rfl Ql4 rfl (λw1 h1=>c77 w1 _ _)) (dP 15 ?_))
 refine dFa 16 ?_
 refine dLn 17 [] ?_
 refine dQ 18 [] rfl (Qv rfl Qvh rfl (λw1 h1=>c89 w1 _ _)) (dFa 19 ?_)
 refine dLn 20 [] ?_
 refine dQ 21 [] rfl (Qv rfl QuL rfl (λw1 h1=>c108 w1 _ _ _ _)) (dH 22 rfl (Ql (cs:=[_,_,_,_,_,_]) rfl rfl Yw QaC rfl rfl rfl) (λb3 _=>dBa ?_))
 refine dQ 23 [] rfl (Qv rfl QsY rfl (λw1 h1=>f62 h1 aPk (by rfl) (by rfl) (by decide))) (dP 24 ?_)
 refine dNi ?_
 exact rV (h:=by rw[Qsk];simp only[QA,Qbg,QmX,okE,cond_eq_ite])
theorem QkG(w:World)(n:Int)(c:Nat)(hn:0<=n/\n<=9223372036854775807)(hc:c<=1000):CR 103 #[.int .i64 n,.int .i64 (c:Int)] w (.string (bs (Zy c n))):=by
 refine eN2 Tryz.func103 Tryz.ntmps103 ?_
 refine Qqw ?_
 refine Qp (α:=Nat×Int×List UInt8×Option Addr×Nat) [0,5,7,8,9,10,11,12,13,14,15,16] (λx=>[(7,.int .i64 (x.1:Int)),(0,.int .i64 x.2.1),(5,.slice x.2.2.2.1 x.2.2.1.length x.2.2.2.2)]) (λx=>HS w [] [.own (.slice x.2.2.2.1 x.2.2.1.length x.2.2.2.2) 5 1 (x.2.2.1.length) ((x.2.2.1).map bv)]) (λx=>x.1<=c/\x.2.2.1.length=x.1/\(0<=x.2.1/\x.2.1<=9223372036854775807)/\Zy c n=x.2.2.1++Zy (c-x.1) x.2.1) (λx=>c-x.1) (0,n,[],none,0) ⟨Nat.zero_le _,rfl,hn,rfl⟩ aSx (λw h=>(h.own_nil 5 1).ent aEt) (λ⟨k,m,p,ga,gc⟩hx=>?_)
 dsimp only
 obtain⟨hk1,hpl,hm,hst⟩:=hx
 simp only[]at hk1 hpl hm hst
 refine aU5 ?_
 refine sCd rfl (λh1=>?_) λh1=>?_
 ·have hk:k<c:=by omega
  refine aU7 ?_
  refine o_p (Q6 rfl rfl QdB Qer) rfl (Qu (show _=bv (by8 m)from Qq0 m) (o_h (Ql (cs:=[_]) rfl rfl XF QhW rfl rfl rfl) rfl (λb2 _=>o_h (QF _ rfl rfl rfl XF Tryz.underlying226 QhW rfl aPk (Xk aPk) rfl (by intro u hu;simp only[List.mem_cons,List.mem_nil_iff,or_false]at hu;subst hu;rfl) om (by simp only[maxLen];omega)) rfl (λb3 _=>aU4 ?_))))
  refine o_p (Qta rfl rfl rfl (by decide) 8 rfl) rfl (Qu (show _=Value.int .i64 (m/256)from rfl) (aT5 ?_))
  refine aU2 ?_
  exact Qs (k+1,m/256,p++[by8 m],b3.1,b3.2) (by(try simp only[]);omega) ⟨by(try simp only[]);omega,by simp[hpl],by(try simp only[]);omega,by simp only[];rw[hst,show c-k=(c-(k+1))+1 by omega,Zy,List.append_assoc];rfl⟩ (by dsimp only;rw[List.length_append];exact aSx) (λw h=>by dsimp only;rw[List.length_append,List.map_append];exact h.ent aEt)
 obtain rfl:k=c:=om
 rw[Nat.sub_self,Zy,List.append_nil]at hst
 refine Qg rfl ?_
 refine aU3 ?_
 refine o_q (Qd0 rfl rfl Tryz.underlying226 Tryz.underlying9 Tryz.underlying5 aPk (QcL _)) rfl (aU2 ?_)
 exact rV (h:=by rw[Qa4,hst];rfl)
theorem Qk4(w:World)(b:Nat)(s:List UInt8)(c:Nat)(hw:HS w (fps [.blk b 166 1 [.string (bs s)]]) [.blk b 166 1 [.string (bs s)]] w)(hc:c<=7)(hcl:c<=s.length)(hm:s.length<=1000000):CE 100 #[.pointer (some ⟨b,0,none⟩),.int .i64 (c:Int)] w (fps [.blk b 166 1 [.string (bs s)]]) (λg:Unit=>.int .i64 (Xl s 0 c)) (λg=>True) λg=>[.blk b 166 1 [.string (bs (s.drop c))]]:=by
 refine eW2 Tryz.func100 Tryz.ntmps100 hw ?_
 refine aT13 ?_
 refine aU3 ?_
 refine Qp (α:=Nat) [5,6,9,10,11,12,13,14,15,16,17,18,19,20,21] (λj=>[(6,.int .i64 ((j:Int)-1)),(5,.int .i64 (Xl s j (c-j)))]) (λ_=>_) (λj=>j<=c) (λj=>j) c (Nat.le_refl _) (by rw[Nat.sub_self];exact aSx) (λw h=>h) (λj hj=>?_)
 refine aU6 ?_
 refine sCd rfl (λh1=>?_) λh1=>?_
 ·obtain⟨i,rfl⟩:∃i,j=i+1:=⟨j-1,om⟩
  have hst:Xl s i (c-i)=at1 s i+256*Xl s (i+1) (c-(i+1)):=by rw[show c-i=(c-(i+1))+1 by omega];rfl
  have hb1:=QeG s i
  have hn6:=QnU s (i+1) (k:=c-(i+1)) om
  have hb9:=(s.getD i 0).toNat_lt
  refine aU5 ?_
  refine o_p (Qme rfl rfl rfl (by decide) 8 rfl) rfl (aU4 ?_)
  refine o_p (Qr rfl rfl rfl Tryz.underlying166 (i) om om) rfl ?_
  refine o_p (Q6 rfl rfl Qer QdB) rfl ?_
  try refine oWr ?_
  refine aU ?_
  refine Qu (show _=Value.int .i64 (Xl s i (c-i))from by rw[hst];exact Qq1 _ _ hn6 hb1) (aT6 ?_)
  refine aU2 ?_
  exact Qs i om om (by rw[show((i:Int)-1)=((i+1:Nat):Int)-1-1 from om];exact aSx) (λw h=>h)
 obtain rfl:j=0:=om
 rw[Nat.sub_zero]
 refine Qg rfl ?_
 refine aU7 ?_
 refine o_p (XI c rfl rfl rfl Tryz.underlying166 rfl om) rfl (aU8 ?_)
 exact rT rfl rfl (λw' h'=>⟨(),rfl,trivial,h'.ent aEt⟩)
theorem c99(w:World)(b:Nat)(s:List UInt8)(hw:HS w (fps [.blk b 166 1 [.string (bs s)]]) [.blk b 166 1 [.string (bs s)]] w)(hcl:6<=s.length)(hm:s.length<=1000000):CE 99 #[.pointer (some ⟨b,0,none⟩)] w (fps [.blk b 166 1 [.string (bs s)]]) (λg:Unit=>.agg #[.int .i64 (Xl s 0 4),.int .i64 (Xl s 4 2)]) (λg=>True) λg=>[.blk b 166 1 [.string (bs (s.drop 6))]]:=by
 refine eW1 Tryz.func99 Tryz.ntmps99 hw ?_
 refine aU2 ?_
 refine oAl (λb1 _=>?_) QlL
 refine aU4 ?_
 refine o_h (XG (Cs:=[.blk b 166 1 [.string (bs s)]]) rfl Qdn rfl aPs (λw1 h1 hf=>Qk4 w1 b s 4 hf om (by(try simp only[List.length_drop]);omega) (by(try simp only[List.length_drop]);omega))) rfl (λ_ _=>aU5 ?_)
 refine o_h (XG (Cs:=[.blk b 166 1 [.string (bs (s.drop 4))]]) rfl Qdn rfl aPs (λw1 h1 hf=>Qk4 w1 b (s.drop 4) 2 hf om (by(try simp only[List.length_drop]);omega) (by(try simp only[List.length_drop]);omega))) rfl (λ_ _=>aU6 ?_)
 refine o_p (Xm (cs:=[_,_]) rfl rfl Qs8 QlL rfl) rfl (aU2 ?_)
 exact Qm (rs:=[.cell 2 26]) rfl (.cell rfl QbN aPk rfl (.nil)) (λw' h'=>⟨(),by rw[Zp];rfl,trivial,by have h2:=h'.pick (A:=.blk b 166 1 [.string (bs ((s.drop 4).drop 2))]) aPk;rw[List.drop_drop]at h2;exact h2.ent aEt⟩)
theorem Qdl:QJ Tryz.prog 103=true:=by kernel_rfl
theorem QsS:QM Tryz.prog 28=some [.int .i64 0,.int .i64 0,.int .i64 0,.int .i64 0]:=by kernel_rfl
theorem QtP:QJ Tryz.prog 102=true:=by kernel_rfl
theorem QvD:YH Tryz.prog 84=some [(0,1),(1,1)]:=by kernel_rfl
theorem Qc8:tsz Tryz.prog 84=some (2,true):=by kernel_rfl
instance:TSz Tryz.prog 84 2 true:=⟨Qc8⟩
theorem Xh:QM Tryz.prog 66=some [.string (bs []),.int .i64 0,.string (bs []),.int .i64 0,.int .i64 0,.int .i64 0,.int .i64 0,.int .i64 0,.int .i64 0]:=by kernel_rfl
instance:TFd Tryz.prog 84 1 1 9:=⟨by kernel_rfl⟩
theorem QgF:YH Tryz.prog 66=some [(0,1),(1,1),(2,1),(3,2),(5,4)]:=by kernel_rfl
theorem YC:tsz Tryz.prog 66=some (9,true):=by kernel_rfl
instance:TSz Tryz.prog 66 9 true:=⟨YC⟩
theorem Qts:QM Tryz.prog 166=some [.string (bs [])]:=by kernel_rfl
instance:TFd Tryz.prog 84 0 0 9:=⟨by kernel_rfl⟩
theorem Qv6:QJ Tryz.prog 99=true:=by kernel_rfl
instance:TFn Tryz.prog 97:=⟨by kernel_rfl⟩
theorem Qp9{b:Bool}{e:Int}(he:e≠0)(h:okE b e=0):b=true:=by
  unfold okE at h;cases b with
  | true=>rfl
  | false=>exact absurd h he
theorem Qgo{a b:Int}(h:XZ a b=0):a=0/\b=0:=by
  unfold XZ at h;split at h
  · exact⟨by assumption,h⟩
  · exact absurd h (by assumption)
theorem QeA{e:DEnt}(h:Qbg e=0):QT e.nm=0/\Qge e.ot=0/\(0<=e.sp/\e.sp<=2)/\((0<=e.re/\e.re<=95)/\1<=e.sq/\e.sq<=65535)/\(0<=e.fl/\e.fl<=7)/\(0<=e.tm/\e.tm<=1000000)/\(0<=e.al/\e.al<=2147483647)/\0<=e.sz/\e.sz<=2147483647:=by
  obtain⟨a1,h⟩:=Qgo h;obtain⟨a2,h⟩:=Qgo h;obtain⟨a3,h⟩:=Qgo h;obtain⟨a4,h⟩:=Qgo h;obtain⟨a5,a6⟩:=Qgo h;have b2:=Qp9 (by decide) a2;have b5:=Qp9 (by decide) a5;have b6:=Qp9 (by decide) a6;simp only[Bool.and_eq_true,decide_eq_true_eq]at b2 b5 b6;exact⟨a1,a4,b2,b5,b6.1.1.1,b6.1.1.2,b6.1.2,b6.2⟩
theorem c102(w:World)(re sq:Int)(hre:0<=re/\re<=9223372036854775807)(hsq:0<=sq/\sq<=9223372036854775807):CR 102 #[.agg #[.int .i64 re,.int .i64 sq]] w (.string (bs (Zy 4 re++Zy 2 sq))):=by
 refine eN1 Tryz.func102 Tryz.ntmps102 ?_
 refine aU2 ?_
 refine oBx λb1 _=>?_
 refine aU3 ?_
 refine QH [] mixed ?_
 refine dFa 0 ?_
 refine dLd 1 [] ?_
 refine dQ 2 [] rfl (Qv rfl Qdl rfl (λw1 h1=>QkG w1 re 4 hre (by decide))) (dFa 3 ?_)
 refine dLd 4 [] ?_
 refine dQ 5 [] rfl (Qv rfl Qdl rfl (λw1 h1=>QkG w1 sq 2 hsq (by decide))) (dV 6 rfl (XJ rfl rfl rfl (by(try simp only[List.length_append,List.length_cons,List.length_nil,List.length_replicate,List.length_take,List.length_drop,ZA]);omega)) (dP 7 ?_))
 refine dNi ?_
 exact rV
theorem c98(w:World)(e:DEnt)(hnm:e.nm.length<=1000000)(hot:e.ot.length<=1000000)(hre:0<=e.re/\e.re<=9223372036854775807)(hsq:0<=e.sq/\e.sq<=9223372036854775807)(hsp:0<=e.sp/\e.sp<=9223372036854775807)(hfl:0<=e.fl/\e.fl<=9223372036854775807)(htm:0<=e.tm/\e.tm<=9223372036854775807)(hal:0<=e.al/\e.al<=9223372036854775807)(hsz:0<=e.sz/\e.sz<=9223372036854775807):CR 98 #[.agg #[.string (bs e.nm),.int .i64 e.sp,.string (bs e.ot),.int .i64 e.re,.int .i64 e.sq,.int .i64 e.fl,.int .i64 e.tm,.int .i64 e.al,.int .i64 e.sz]] w (.agg #[.string (bs (QnE e).key),.string (bs (QnE e).val)]):=by
 refine eN1 Tryz.func98 Tryz.ntmps98 ?_
 refine aU2 ?_
 refine oBx λb1 _=>?_
 refine oAl (λb2 _=>?_) Qah
 refine aU5 ?_
 refine oAl (λb3 _=>?_) QsS
 refine aU3 ?_
 refine QH [29] mixed ?_
 refine dFa 0 ?_
 refine dLd 1 [[]] ?_
 refine dFa 2 ?_
 refine dLn 3 [[]] ?_
 refine dQ 4 [[]] rfl (Qv rfl QtP rfl (λw1 h1=>c102 w1 e.re e.sq hre hsq)) (dFa 5 ?_)
 refine dLd 6 [[]] ?_
 refine dQ 7 [[]] rfl (Qv rfl Qdl rfl (λw1 h1=>QkG w1 e.sp 1 hsp (by decide))) (dV 8 rfl (XJ rfl rfl rfl (by(try simp only[List.length_append,List.length_cons,List.length_nil,List.length_replicate,List.length_take,List.length_drop,ZA]);omega)) (dFa 9 ?_))
 refine dLd 10 [[]] ?_
 refine dQ 11 [[]] rfl (Qv rfl Qdl rfl (λw1 h1=>QkG w1 e.fl 1 hfl (by decide))) (dV 12 rfl (XJ rfl rfl rfl (by(try simp only[List.length_append,List.length_cons,List.length_nil,List.length_replicate,List.length_take,List.length_drop,ZA]);omega)) (dFa 13 ?_))
 refine dLd 14 [[]] ?_
 refine dQ 15 [[]] rfl (Qv rfl Qdl rfl (λw1 h1=>QkG w1 e.tm 4 htm (by decide))) (dV 16 rfl (XJ rfl rfl rfl (by(try simp only[List.length_append,List.length_cons,List.length_nil,List.length_replicate,List.length_take,List.length_drop,ZA]);omega)) (dFa 17 ?_))
 refine dLd 18 [[]] ?_
 refine dQ 19 [[]] rfl (Qv rfl Qdl rfl (λw1 h1=>QkG w1 e.al 4 hal (by decide))) (dV 20 rfl (XJ rfl rfl rfl (by(try simp only[List.length_append,List.length_cons,List.length_nil,List.length_replicate,List.length_take,List.length_drop,ZA]);omega)) (dFa 21 ?_))
 refine dLd 22 [[]] ?_
 refine dQ 23 [[]] rfl (Qv rfl Qdl rfl (λw1 h1=>QkG w1 e.sz 4 hsz (by decide))) (dV 24 rfl (XJ rfl rfl rfl (by(try simp only[List.length_append,List.length_cons,List.length_nil,List.length_replicate,List.length_take,List.length_drop,ZA]);omega)) (dFa 25 ?_))
 refine dLd 26 [[]] ?_
 refine dV 27 rfl (XJ rfl rfl rfl (by(try simp only[List.length_append,List.length_cons,List.length_nil,List.length_replicate,List.length_take,List.length_drop,ZA]);omega)) (dV 28 rfl (Xm (cs:=[_,_]) rfl rfl QvD Qah rfl) (dSt 29 ?_ (hl:=(by simp only[Qi,List.length_set,List.length_cons,List.length_nil,List.length_map];omega))))
 refine dTu [] ?_
 refine dNi ?_
 exact Qm (rs:=[.cell 2 84]) rfl (.cell rfl Qc8 aPk rfl (.nil)) (λw' h'=>⟨by rfl,h'.below⟩)
theorem c40(w:World)(x:TEnt)(hk:x.key.length<=1000000)(hv:x.val.length<=1000000):CR 40 #[.agg #[.string (bs x.key),.string (bs x.val)]] w (.tuple #[.agg #[.string (bs (dcD x).nm),.int .i64 (dcD x).sp,.string (bs (dcD x).ot),.int .i64 (dcD x).re,.int .i64 (dcD x).sq,.int .i64 (dcD x).fl,.int .i64 (dcD x).tm,.int .i64 (dcD x).al,.int .i64 (dcD x).sz],.int .i64 (dcE x)]):=by
 refine eN1 Tryz.func40 Tryz.ntmps40 ?_
 refine aU2 ?_
 refine oBx λb1 _=>?_
 refine oAl (λb2 _=>?_) Xh
 refine aU7 ?_
 refine o_p (Qn rfl rfl Tryz.underlying9) rfl (aU2 ?_)
 refine sCd rfl (λh3=>?_) λh3=>?_
 ·have hl20:x.val.length<20:=by have hq:=h3;omega
  have hE:dcE x=3:=if_pos hl20
  have hD:dcD x=noE:=if_neg (by rw[hE];decide)
  refine aU2 ?_
  refine o_p (Xm (cs:=[_,_,_,_,_,_,_,_,_]) rfl rfl QgF Xh rfl) rfl (aU3 ?_)
  exact Qm (rs:=[.cell 2 66,.tmp 3]) rfl (.cell rfl YC aPk rfl (.tmp rfl (.nil))) (λw' h'=>⟨by rw[hD,hE];rfl,h'.below⟩)
 have hl20:¬x.val.length<20:=by have hq:=h3;omega
 have hE:dcE x=Qbg (Qe x):=if_neg hl20
 refine aU5 ?_
 refine oAl (λb4 _=>?_) Qts
 refine aU6 ?_
 refine o_p (Xm (cs:=[_,_,_,_,_,_,_,_,_]) rfl rfl QgF Xh rfl) rfl (oAl (λb5 _=>?_) Xh)
 refine aU4 ?_
 refine o_h (XG (Cs:=[.blk b4 166 1 [.string (bs x.val)]]) rfl Qv6 rfl aPs (λw1 h1 hf=>c99 w1 b4 x.val hf om hv)) rfl (λ_ _=>aU5 ?_)
 refine o_h (XG (Cs:=[.blk b4 166 1 [.string (bs (x.val.drop 6))]]) rfl Qdn rfl aPs (λw1 h1 hf=>Qk4 w1 b4 (x.val.drop 6) 1 hf om (by simp only[List.length_drop];omega) (by simp only[List.length_drop];omega))) rfl (λ_ _=>Qu (show _=Value.int .i64 (Xl x.val 6 1)from by rw[Zp]) (aU5 ?_))
 refine o_h (XG (Cs:=[.blk b4 166 1 [.string (bs ((x.val.drop 6).drop 1))]]) rfl Qdn rfl aPs (λw1 h1 hf=>Qk4 w1 b4 ((x.val.drop 6).drop 1) 1 hf om (by simp only[List.length_drop];omega) (by simp only[List.length_drop];omega))) rfl (λ_ _=>Qu (show _=Value.int .i64 (Xl x.val 7 1)from by rw[List.drop_drop,Zp]) (aU6 ?_))
 refine o_h (XG (Cs:=[.blk b4 166 1 [.string (bs (((x.val.drop 6).drop 1).drop 1))]]) rfl Qdn rfl aPs (λw1 h1 hf=>Qk4 w1 b4 (((x.val.drop 6).drop 1).drop 1) 4 hf om (by simp only[List.length_drop];omega) (by simp only[List.length_drop];omega))) rfl (λ_ _=>Qu (show _=Value.int .i64 (Xl x.val 8 4)from by rw[List.drop_drop,List.drop_drop,Zp]) (aU6 ?_))
 refine o_h (XG (Cs:=[.blk b4 166 1 [.string (bs ((((x.val.drop 6).drop 1).drop 1).drop 4))]]) rfl Qdn rfl aPs (λw1 h1 hf=>Qk4 w1 b4 ((((x.val.drop 6).drop 1).drop 1).drop 4) 4 hf om (by simp only[List.length_drop];omega) (by simp only[List.length_drop];omega))) rfl (λ_ _=>Qu (show _=Value.int .i64 (Xl x.val 12 4)from by rw[List.drop_drop,List.drop_drop,List.drop_drop,Zp]) (aU6 ?_))
 refine o_h (XG (Cs:=[.blk b4 166 1 [.string (bs (((((x.val.drop 6).drop 1).drop 1).drop 4).drop 4))]]) rfl Qdn rfl aPs (λw1 h1 hf=>Qk4 w1 b4 (((((x.val.drop 6).drop 1).drop 1).drop 4).drop 4) 4 hf om (by simp only[List.length_drop];omega) (by simp only[List.length_drop];omega))) rfl (λ_ _=>Qu (show _=Value.int .i64 (Xl x.val 16 4)from by rw[List.drop_drop,List.drop_drop,List.drop_drop,List.drop_drop,Zp]) (aU5 ?_))
 refine Qd (L':=[(2,_),(3,_),(4,_),(5,_)]) aSx (λ_ h=>h) ?_
 refine aU2 ?_
 refine Qu (show _=Value.string (bs (x.val.drop 20))from by rw[List.drop_drop,List.drop_drop,List.drop_drop,List.drop_drop,List.drop_drop]) (aU7 ?_)
 refine Qu (show _=.agg #[.string (bs (Qe x).nm),.int .i64 (Qe x).sp,.string (bs (Qe x).ot),.int .i64 (Qe x).re,.int .i64 (Qe x).sq,.int .i64 (Qe x).fl,.int .i64 (Qe x).tm,.int .i64 (Qe x).al,.int .i64 (Qe x).sz]from rfl) (Y0 (C':=HS w [] [.blk b5 66 9 [.string (bs (Qe x).nm),.int .i64 (Qe x).sp,.string (bs (Qe x).ot),.int .i64 (Qe x).re,.int .i64 (Qe x).sq,.int .i64 (Qe x).fl,.int .i64 (Qe x).tm,.int .i64 (Qe x).al,.int .i64 (Qe x).sz],.blk b2 66 9 [.string (bs []),.int .i64 0,.string (bs []),.int .i64 0,.int .i64 0,.int .i64 0,.int .i64 0,.int .i64 0,.int .i64 0]]) (λw h=>h.ent aEt) (oCq rfl (λw1 h1=>c97 w1 (Qe x) hk (by show(x.val.drop 20).length<=_;rw[List.length_drop];omega)) (aU7 ?_)))
 refine sCd rfl (λh6=>?_) λh6=>?_
 ·have hz:¬Qbg (Qe x)=0:=by have hq:=h6;exact hq
  have hD:dcD x=noE:=if_neg (by rw[hE];exact hz)
  refine aU2 ?_
  refine o_p (Xm (cs:=[_,_,_,_,_,_,_,_,_]) rfl rfl QgF Xh rfl) rfl (aU4 ?_)
  exact Qm (rs:=[.cell 2 66,.tmp 3]) rfl (.cell rfl YC aPk rfl (.tmp rfl (.nil))) (λw' h'=>⟨by rw[hD,hE];rfl,h'.below⟩)
 have hz:Qbg (Qe x)=0:=by have hq:=h6;simpa using hq
 have hD:dcD x=Qe x:=if_pos (by rw[hE];exact hz)
 refine aU4 ?_
 refine Qu (show _=.agg #[.string (bs (Qe x).nm),.int .i64 (Qe x).sp,.string (bs (Qe x).ot),.int .i64 (Qe x).re,.int .i64 (Qe x).sq,.int .i64 (Qe x).fl,.int .i64 (Qe x).tm,.int .i64 (Qe x).al,.int .i64 (Qe x).sz]from rfl) (aU3 ?_)
 exact Qm (rs:=[.cell 2 66,.tmp 3]) rfl (.cell rfl YC aPk rfl (.tmp rfl (.nil))) (λw' h'=>⟨by rw[hD,hE,hz];rfl,h'.below⟩)
instance:TFn Tryz.prog 67:=⟨by kernel_rfl⟩
theorem Qfr{s:List UInt8}{c:UInt8}(h:0<s.length):[c].isSuffixOf s=decide (s.getD (s.length-1) 0=c):=by
  rcases List.eq_nil_or_concat s with e|⟨r,x,e⟩
  · subst e;simp at h
  · rw[List.concat_eq_append]at e;subst e
    have e1:(r++[x]).getD ((r++[x]).length-1) 0=x:=by
      rw[List.getD_eq_getElem?_getD,List.length_append,List.length_singleton,Nat.add_sub_cancel,List.getElem?_append_right (Nat.le_refl _),Nat.sub_self];rfl
    rw[e1,Bool.eq_iff_iff,List.isSuffixOf_iff_suffix,decide_eq_true_eq];constructor
    · rintro⟨t,ht⟩;have:=List.append_inj_right' ht rfl
      simpa using this.symm
    · rintro rfl;exact⟨r,rfl⟩
theorem Qfx{s:List UInt8}{p:UInt8->Bool}{k:Nat}(h:k<s.length):(s.take (k+1)).all p=((s.take k).all p&&p (s.getD k 0)):=by
  rw[Xg (d:=0) h,List.all_append];simp
theorem Qil{s:List UInt8}{p:UInt8->Bool}{k:Nat}(h:k<s.length)(hp:p (s.getD k 0)=false):s.all p=false:=by
  rw[List.all_eq_false];exact⟨s.getD k 0,XL h,by rw[hp];simp⟩
theorem QpX{s:List UInt8}(h:0<s.length)(hl:s.length<=32)(h1:¬s=[46,46])(h2:¬s.getD (s.length-1) 0=32)(h3:¬s.getD (s.length-1) 0=46):ZS s=s.all Yv:=by
  unfold ZS;rw[Qfr h,Qfr h,decide_eq_false h1,decide_eq_false h2,decide_eq_false h3,decide_eq_false (by intro e;rw[e]at h;simp at h),decide_eq_true hl];simp
theorem QqK{s:List UInt8}(h:s=[]\/s=[46,46]\/(0<s.length/\(s.getD (s.length-1) 0=32\/s.getD (s.length-1) 0=46))):ZS s=false:=by
  unfold ZS;rcases h with h|h|⟨h0,h|h⟩
  · simp[h]
  · simp[h]
  · rw[Qfr h0,decide_eq_true h];simp
  · rw[Qfr (c:=46) h0,decide_eq_true h];simp
theorem c67(w:World)(c:UInt8):CR 67 #[.int .u8 (c.toNat:Int)] w (.bool (Yv c)):=by
 have hns:¬c∈XN->(XN.contains c)=false:=by intro h;simpa using h
 refine eN1 Tryz.func67 Tryz.ntmps67 ?_
 refine Qbf ?_
 refine oOr 3 6 9 rfl
  (λhg1 _=>by
   refine aU4 ?_
   exact oJf 3 9)
  (λhg3 _=>by
   refine aU2 ?_
   exact oJt 3 9) ?_
 refine aU ?_
 refine sCd rfl (λh5=>?_) λh5=>?_
 ·refine aU4 ?_
  exact rV (h:=by unfold Yv;simp only[QA];by_cases hA:32<=c.toNat;(by_cases hB:c.toNat<=126;(exfalso;omega);simp[hA,hB]);simp[hA])
 have hc1:32<=c.toNat/\c.toNat<=126:=by have hq:=h5;omega
 refine aU7 ?_
 refine Qp (α:=Nat) [2,3,10,11,12,13,14,15,16,17] (λk=>[(3,.int .i64 (k:Int))]) (λ_=>_) (λk=>k<=9/\∀j,j<k->¬XN.getD j 0=c) (λk=>9-k) 0 ⟨Nat.zero_le _,λj h=>absurd h (Nat.not_lt_zero j)⟩ aSx (λw h=>h) (λk hkk=>?_)
 obtain⟨hk1,hk2⟩:=hkk
 refine aU6 ?_
 refine sCd rfl (λh6=>?_) λh6=>?_
 ·have hk:k<XN.length:=by show k<9;omega
  refine aU6 ?_
  refine o_p (Qr rfl rfl rfl Tryz.underlying9 (k) om (by show k<9;omega)) rfl ?_
  refine aU3 ?_
  refine sCd rfl (λh7=>?_) λh7=>?_
  ·have hin:c∈XN:=by have hq2:((XN.getD k 0).toNat:Int)=(c.toNat:Int):=h7;have e9:XN.getD k 0=c:=UInt8.toNat_inj.1 om;rw[<-e9];exact XL hk
   refine aU4 ?_
   exact rV (h:=by unfold Yv;simp[QA,hin])
  have hne:¬XN.getD k 0=c:=by intro hA;have hq:¬((XN.getD k 0).toNat:Int)=(c.toNat:Int):=h7;rw[hA]at hq;exact hq rfl
  refine aT5 ?_
  refine aU2 ?_
  exact Qs (k+1) om ⟨om,λj hj=>(Nat.lt_succ_iff_lt_or_eq.1 hj).elim (hk2 j) (λe=>by rw[e];exact hne)⟩ aSx (λw h=>h)
 have hni:¬c∈XN:=by intro hm;obtain⟨j,hj,e⟩:=Qd4 (d:=0) hm;exact hk2 j (by have:j<9:=hj;omega) e
 refine Qg rfl ?_
 refine aU4 ?_
 exact rV (h:=by unfold Yv;simp only[QA,hns hni,decide_eq_true hc1.1,decide_eq_true hc1.2];rfl)
theorem c16(w:World)(s:List UInt8)(hm:s.length<=9223372036854775807):CR 16 #[.string (bs s)] w (.int .i64 (QT s)):=by
 have e32:0<s.length->(((s.getD (s.length-1) 0).toNat:Int)=32 ↔ s.getD (s.length-1) 0=32):=λ_=>⟨λh=>UInt8.toNat_inj.1 (by show(s.getD (s.length-1) 0).toNat=32;omega),λh=>by rw[h];rfl⟩
 have e46:0<s.length->(((s.getD (s.length-1) 0).toNat:Int)=46 ↔ s.getD (s.length-1) 0=46):=λ_=>⟨λh=>UInt8.toNat_inj.1 (by show(s.getD (s.length-1) 0).toNat=46;omega),λh=>by rw[h];rfl⟩
 have hpos:¬s=[]->0<s.length:=λh=>List.length_pos_iff.2 h
 refine eN1 Tryz.func16 Tryz.ntmps16 ?_
 refine aU8 ?_
 refine o_p (Qn rfl rfl Tryz.underlying9) rfl (aU2 ?_)
 refine sCd rfl (λh1=>?_) λh1=>?_
 ·have hl:¬s.length<=32:=by have hq:=h1;omega
  refine aU4 ?_
  exact rV (h:=by rw[QT,if_neg hl];rfl)
 have hl:s.length<=32:=by have hq:=h1;omega
 refine aU7 ?_
 refine oOr 3 9 12 rfl
  (λhg2 _=>by
   refine aU4 ?_
   exact oJf 3 12)
  (λhg4 _=>by
   refine aU2 ?_
   exact oJt 3 12) ?_
 refine aU ?_
 refine oOr 3 13 16 rfl
  (λhg6 _=>by
   refine aU4 ?_
   exact oJf 3 16)
  (λhg8 _=>by
   refine aU2 ?_
   exact oJt 3 16) ?_
 refine aU ?_
 refine oOr 7 17 24 rfl
  (λhg10 _=>by
   refine aU5 ?_
   refine o_p (Qn rfl rfl Tryz.underlying9) rfl (aT2 ?_)
   have hp9:0<s.length:=hpos (by have hq:=hg10;simp at hq;grind)
   refine aU ?_
   refine o_p (Qr rfl rfl rfl Tryz.underlying9 (s.length-1) om om) rfl ?_
   refine aU2 ?_
   exact oJf 7 24)
  (λhg12 _=>by
   refine aU6 ?_
   exact oJt 7 24) ?_
 refine aU ?_
 refine oOr 7 25 32 rfl
  (λhg14 _=>by
   refine aU5 ?_
   refine o_p (Qn rfl rfl Tryz.underlying9) rfl (aT2 ?_)
   have hp9:0<s.length:=hpos (by have hq:=hg14;simp at hq;grind)
   refine aU ?_
   refine o_p (Qr rfl rfl rfl Tryz.underlying9 (s.length-1) om om) rfl ?_
   refine aU2 ?_
   exact oJf 7 32)
  (λhg16 _=>by
   refine aU6 ?_
   exact oJt 7 32) ?_
 refine aU ?_
 refine sCd rfl (λh18=>?_) λh18=>?_
 ·have hf:ZS s=false:=by have hq:=h18;apply QqK;by_cases hz:s=[];(exact .inl hz);(have hp:=hpos hz;simp only[e32 hp,e46 hp]at hq;rcases hq with(((hq|hq)|hq)|hq)|hq;(exact absurd hq hz);(exact .inr (.inr ⟨hp,.inr (by rw[hq];rfl)⟩));(exact .inr (.inl hq));(exact .inr (.inr ⟨hp,.inl hq⟩));(exact .inr (.inr ⟨hp,.inr hq⟩)))
  refine aU4 ?_
  exact rV (h:=by rw[QT,if_pos hl,hf];rfl)
 have hq:=h18
 have hz:¬s=[]:=hq.1.1.1.1
 have hp:=hpos hz
 simp only[e32 hp,e46 hp]at hq
 have hr:=QpX hp hl hq.1.1.2 hq.1.2 hq.2
 refine aU7 ?_
 refine Qd (L':=[(0,_),(2,_),(3,_)]) aSx (λ_ h=>h) ?_
 refine Qp (α:=Nat) [2,3,33,34,35,36,37,38,39,40,41,42,43] (λk=>[(3,.int .i64 (k:Int))]) (λ_=>_) (λk=>k<=s.length/\(s.take k).all Yv=true) (λk=>s.length-k) 0 ⟨Nat.zero_le _,rfl⟩ aSx (λw h=>h) (λk hkk=>?_)
 obtain⟨hk1,hk2⟩:=hkk
 refine aU5 ?_
 refine o_p (Qn rfl rfl Tryz.underlying9) rfl (aU2 ?_)
 refine sCd rfl (λh19=>?_) λh19=>?_
 ·have hk:k<s.length:=by omega
  have hst:=Qfx (p:=Yv) hk
  refine aU7 ?_
  refine o_p (Qr rfl rfl rfl Tryz.underlying9 (k) om om) rfl ?_
  refine oCq rfl (λw1 h1=>c67 w1 (s.getD k 0)) (aU2 ?_)
  refine sCd rfl (λh20=>?_) λh20=>?_
  ·have hf:ZS s=false:=by rw[hr];exact Qil hk h20
   refine aU4 ?_
   exact rV (h:=by rw[QT,if_pos hl,hf];rfl)
  have hk3:(s.take (k+1)).all Yv=true:=by rw[hst,hk2,h20];rfl
  refine aT5 ?_
  refine aU2 ?_
  exact Qs (k+1) om ⟨om,hk3⟩ aSx (λw h=>h)
 obtain rfl:k=s.length:=om
 refine Qg rfl ?_
 refine aU4 ?_
 exact rV (h:=by rw[List.take_length]at hk2;rw[QT,if_pos hl,hr,hk2];rfl)
instance:TFn Tryz.prog 27:=⟨by kernel_rfl⟩
instance:TFn Tryz.prog 111:=⟨by kernel_rfl⟩
instance:TFn Tryz.prog 35:=⟨by kernel_rfl⟩
instance:TFn Tryz.prog 52:=⟨by kernel_rfl⟩
instance:TFn Tryz.prog 16:=⟨by kernel_rfl⟩
theorem Qtd:YH Tryz.prog 30=some [(0,2),(2,4)]:=by kernel_rfl
theorem QsN:QM Tryz.prog 30=some [.int .i64 0,.int .i64 0,.int .i64 0,.int .i64 0,.int .i64 0,.int .i64 0]:=by kernel_rfl
instance:TFn Tryz.prog 17:=⟨by kernel_rfl⟩
theorem Qik:QJ Tryz.prog 105=true:=by kernel_rfl
instance:TFn Tryz.prog 105:=⟨Qik⟩
theorem Qux:QJ Tryz.prog 104=true:=by kernel_rfl
theorem QvV:YH Tryz.prog 28=some [(0,1),(1,1),(2,1),(3,1)]:=by kernel_rfl
instance:TFn Tryz.prog 45:=⟨by kernel_rfl⟩
theorem Qoi(s:List UInt8)(k:Nat):at1 s k=Xl s k 1:=by
  show at1 s k=at1 s k+256*0;omega
theorem QsW(s:List UInt8)(k:Nat):Value.int .i64 (IntKind.i64.wrap ((s.getD k 0).toNat:Int))=Value.int .i64 (Xl s k 1):=by
  have h:=(s.getD k 0).toNat_lt;rw[<-Qoi];exact QmQ om om
theorem Za{a b:Int}(h:a=0):XZ a b=b:=if_pos h
theorem Qqa{a b:Int}(h:¬a=0):XZ a b=a:=if_neg h
theorem c111(w:World)(n:Int):CR 111 #[.int .i64 n] w (.bool (decide (0<=n)&&decide (n<=1000000))):=by
 refine eN1 Tryz.func111 Tryz.ntmps111 ?_
 refine aU7 ?_
 refine oCq rfl (λw1 h1=>c27 w1 _ _ _) (aU2 ?_)
 exact rV
theorem c35(w:World)(re sq:Int):CR 35 #[.agg #[.int .i64 re,.int .i64 sq]] w (.int .i64 (Qh7 re sq)):=by
 refine eN1 Tryz.func35 Tryz.ntmps35 ?_
 refine aU2 ?_
 refine oBx λb1 _=>?_
 refine aU7 ?_
 refine oCq rfl (λw1 h1=>c27 w1 _ _ _) (aU2 ?_)
 refine oOr 5 7 12 rfl
  (λhg2 _=>by
   refine aU5 ?_
   refine oCq rfl (λw1 h1=>c27 w1 _ _ _) (aU2 ?_)
   exact oJf 5 12)
  (λhg4 _=>by
   refine aU4 ?_
   exact oJt 5 12) ?_
 refine aU ?_
 refine sCd rfl (λh6=>?_) λh6=>?_
 ·refine aU4 ?_
  exact rV (h:=by have hq:=h6;simp only[QA,Qh7,okE];grind)
 refine aU5 ?_
 exact rV (h:=by have hq:=h6;simp only[QA,Qh7,okE];grind)
theorem c52(w:World)(fl tm al sz:Int):CR 52 #[.agg #[.int .i64 fl,.int .i64 tm,.int .i64 al,.int .i64 sz]] w (.int .i64 (Qlc fl tm al sz)):=by
 refine eN1 Tryz.func52 Tryz.ntmps52 ?_
 refine aU2 ?_
 refine oBx λb1 _=>?_
 refine aU7 ?_
 refine oCq rfl (λw1 h1=>c27 w1 _ _ _) (aU2 ?_)
 refine oOr 5 7 12 rfl
  (λhg2 _=>by
   refine aU5 ?_
   refine oCq rfl (λw1 h1=>c111 w1 _) (aU2 ?_)
   exact oJf 5 12)
  (λhg4 _=>by
   refine aU4 ?_
   exact oJt 5 12) ?_
 refine aU ?_
 refine oOr 5 13 18 rfl
  (λhg6 _=>by
   refine aU5 ?_
   refine oCq rfl (λw1 h1=>c27 w1 _ _ _) (aU2 ?_)
   exact oJf 5 18)
  (λhg8 _=>by
   refine aU4 ?_
   exact oJt 5 18) ?_
 refine aU ?_
 refine oOr 5 19 24 rfl
  (λhg10 _=>by
   refine aU5 ?_
   refine oCq rfl (λw1 h1=>c27 w1 _ _ _) (aU2 ?_)
   exact oJf 5 24)
  (λhg12 _=>by
   refine aU4 ?_
   exact oJt 5 24) ?_
 refine aU ?_
 refine sCd rfl (λh14=>?_) λh14=>?_
 ·refine aU4 ?_
  exact rV (h:=by have hq:=h14;simp only[QA,Qlc,okE];grind)
 refine aU5 ?_
 exact rV (h:=by have hq:=h14;simp only[QA,Qlc,okE];grind)
theorem c17(w:World)(re sq fl tm al sz:Int):CR 17 #[.agg #[.int .i64 re,.int .i64 sq,.int .i64 fl,.int .i64 tm,.int .i64 al,.int .i64 sz]] w (.int .i64 (XZ (Qh7 re sq) (Qlc fl tm al sz))):=by
 refine eN1 Tryz.func17 Tryz.ntmps17 ?_
 refine aU2 ?_
 refine oBx λb1 _=>?_
 refine aU7 ?_
 refine oCq rfl (λw1 h1=>c35 w1 _ _) (aU7 ?_)
 refine sCd rfl (λh2=>?_) λh2=>?_
 ·have hz:¬Qh7 re sq=0:=by have hq:=h2;exact hq
  refine aU5 ?_
  exact rV (h:=by rw[XZ,if_neg hz];rfl)
 have hz:Qh7 re sq=0:=by have hq:=h2;simpa using hq
 refine aU5 ?_
 refine oCq rfl (λw1 h1=>c52 w1 _ _ _ _) (aU2 ?_)
 exact rV (h:=by rw[XZ,if_pos hz];rfl)
theorem c45(w:World)(e:DEnt)(hnm:e.nm.length<=1000000)(hot:e.ot.length<=1000000):CR 45 #[.agg #[.string (bs e.nm),.int .i64 e.sp,.string (bs e.ot),.int .i64 e.re,.int .i64 e.sq,.int .i64 e.fl,.int .i64 e.tm,.int .i64 e.al,.int .i64 e.sz]] w (.int .i64 (Qbg e)):=by
 refine eN1 Tryz.func45 Tryz.ntmps45 ?_
 refine aU2 ?_
 refine oBx λb1 _=>?_
 refine aU7 ?_
 refine oCq rfl (λw1 hh=>c16 w1 e.nm om) (aU7 ?_)
 refine sCd rfl (λh2=>?_) λh2=>?_
 ·have h1:¬QT e.nm=0:=by have hq:=h2;exact hq
  refine aU5 ?_
  exact rV (h:=by rw[Qbg,Qqa h1];rfl)
 have h1:QT e.nm=0:=by have hq:=h2;simpa using hq
 refine aU6 ?_
 refine oCq rfl (λw1 h1=>c27 w1 _ _ _) (aU2 ?_)
 refine sCd rfl (λh3=>?_) λh3=>?_
 ·have h2:QmX e.sp=2:=by have hq:=h3;simp only[QmX,okE];grind
  refine aU4 ?_
  exact rV (h:=by rw[Qbg,Za h1,h2];rfl)
 have h2:QmX e.sp=0:=by have hq:=h3;simp only[QmX,okE];grind
 refine Qbf ?_
 refine o_p (Qgp rfl rfl rfl Tryz.underlying4) rfl (aU ?_)
 refine sCd rfl (λh4=>?_) λh4=>?_
 ·have h3:okE (decide (e.sp=2)==decide (e.ot=[])) 3=3:=by have hq:=h4;simp only[okE];grind
  refine aU4 ?_
  exact rV (h:=by rw[Qbg,Za h1,Za h2,h3];rfl)
 have h3:okE (decide (e.sp=2)==decide (e.ot=[])) 3=0:=by have hq:=h4;simp only[okE];grind
 refine aU8 ?_
 refine sCd rfl (λh5=>?_) λh5=>?_
 ·have h4:Qge e.ot=QT e.ot:=if_neg (by have hq:=h5;simpa using hq)
  refine aU4 ?_
  refine oCq rfl (λw1 hh=>c16 w1 e.ot om) (aU7 ?_)
  refine sCd rfl (λh6=>?_) λh6=>?_
  ·have h5:¬Qge e.ot=0:=by rw[h4];have hq:=h6;exact hq
   refine aU5 ?_
   exact rV (h:=by rw[Qbg,Za h1,Za h2,Za h3,Qqa h5,h4];rfl)
  have h5:Qge e.ot=0:=by rw[h4];have hq:=h6;simpa using hq
  refine aU7 ?_
  refine o_p (Xm (cs:=[_,_,_,_,_,_]) rfl rfl Qtd QsN rfl) rfl (oCq rfl (λw1 h1=>c17 w1 _ _ _ _ _ _) (aU2 ?_))
  exact rV (h:=by rw[Qbg,Za h1,Za h2,Za h3,Za (a:=Qge e.ot) (by first|exact h5|exact h4)];rfl)
 have h4:Qge e.ot=0:=if_pos (by have hq:=h5;simpa using hq)
 refine aU7 ?_
 refine o_p (Xm (cs:=[_,_,_,_,_,_]) rfl rfl Qtd QsN rfl) rfl (oCq rfl (λw1 h1=>c17 w1 _ _ _ _ _ _) (aU2 ?_))
 exact rV (h:=by rw[Qbg,Za h1,Za h2,Za h3,Za (a:=Qge e.ot) (by first|exact h5|exact h4)];rfl)
theorem QdP(w:World)(s:List UInt8)(at' c:Nat)(hm:s.length<=1000000000)(hc:c<=7)(hac:at'+c<=s.length):CR 105 #[.string (bs s),.int .i64 (at':Int),.int .i64 (c:Int)] w (.int .i64 (Xl s at' c)):=by
 refine eN3 Tryz.func105 Tryz.ntmps105 ?_
 refine aT13 ?_
 refine aU3 ?_
 refine Qp (α:=Nat) [7,8,11,12,13,14,15,16,17,18,19,20,21,22,23] (λj=>[(8,.int .i64 ((j:Int)-1)),(7,.int .i64 (Xl s (at'+j) (c-j)))]) (λ_=>_) (λj=>j<=c) (λj=>j) c (Nat.le_refl _) (by rw[Nat.sub_self];exact aSx) (λw h=>h) (λj hj=>?_)
 refine aU6 ?_
 refine sCd rfl (λh1=>?_) λh1=>?_
 ·obtain⟨i,rfl⟩:∃i,j=i+1:=⟨j-1,om⟩
  have hst:Xl s (at'+i) (c-i)=at1 s (at'+i)+256*Xl s (at'+(i+1)) (c-(i+1)):=by rw[show c-i=(c-(i+1))+1 by omega,Xl];rfl
  have hb1:=QeG s (at'+i)
  have hn6:=QnU s (at'+(i+1)) (k:=c-(i+1)) om
  have hb9:=(s.getD (at'+i) 0).toNat_lt
  refine aT6 ?_
  refine aT4 ?_
  refine Qu (show _=Value.int .i64 ((at'+i:Nat):Int)from by congr 1;omega) (o_p (Qr rfl rfl rfl Tryz.underlying9 (at'+i) om om) rfl ?_)
  refine o_p (Q6 rfl rfl Qer QdB) rfl ?_
  try refine oWr ?_
  refine aT ?_
  refine Qu (show _=Value.int .i64 (Xl s (at'+i) (c-i))from by rw[hst];congr 1;show _*256+at1 s (at'+i)=_;omega) (aT6 ?_)
  refine aU2 ?_
  exact Qs i om om (by rw[show((i:Int)-1)=((i+1:Nat):Int)-1-1 from om];exact aSx) (λw h=>h)
 obtain rfl:j=0:=om
 rw[Nat.add_zero,Nat.sub_zero]
 refine Qg rfl ?_
 refine aU5 ?_
 exact rV
theorem c104(w:World)(s:List UInt8)(hl:6<=s.length)(hm:s.length<=1000000):CR 104 #[.string (bs s)] w (.agg #[.int .i64 (Xl s 0 4),.int .i64 (Xl s 4 2)]):=by
 refine eN1 Tryz.func104 Tryz.ntmps104 ?_
 refine aU2 ?_
 refine oAl (λb1 _=>?_) QlL
 refine aU4 ?_
 refine oCq rfl (λw1 h1=>QdP w1 s 0 4 om om om) (aU ?_)
 refine oCq rfl (λw1 h1=>QdP w1 s 4 2 om om om) (o_p (Xm (cs:=[_,_]) rfl rfl Qs8 QlL rfl) rfl (aU2 ?_))
 exact Qm (rs:=[.cell 2 26]) rfl (.cell rfl QbN aPk rfl (.nil)) (λw' h'=>⟨by rfl,h'.below⟩)
theorem c43(w:World)(x:TEnt)(hk:x.key.length<=1000000)(hv:x.val.length<=1000000):CR 43 #[.agg #[.string (bs x.key),.string (bs x.val)]] w (.tuple #[.agg #[.string (bs (dcD x).nm),.int .i64 (dcD x).sp,.string (bs (dcD x).ot),.int .i64 (dcD x).re,.int .i64 (dcD x).sq,.int .i64 (dcD x).fl,.int .i64 (dcD x).tm,.int .i64 (dcD x).al,.int .i64 (dcD x).sz],.int .i64 (dcE x)]):=by
 refine eN1 Tryz.func43 Tryz.ntmps43 ?_
 refine aU2 ?_
 refine oBx λb1 _=>?_
 refine oAl (λb2 _=>?_) Xh
 refine QbX ?_
 refine o_p (Qn rfl rfl Tryz.underlying9) rfl (aU2 ?_)
 refine sCd rfl (λh3=>?_) λh3=>?_
 ·have hl20:x.val.length<20:=by have hq:=h3;omega
  have hE:dcE x=3:=if_pos hl20
  have hD:dcD x=noE:=if_neg (by rw[hE];decide)
  refine aU2 ?_
  refine o_p (Xm (cs:=[_,_,_,_,_,_,_,_,_]) rfl rfl QgF Xh rfl) rfl (aU3 ?_)
  exact Qm (rs:=[.cell 2 66,.tmp 3]) rfl (.cell rfl YC aPk rfl (.tmp rfl (.nil))) (λw' h'=>⟨by rw[hD,hE];rfl,h'.below⟩)
 have hl20:¬x.val.length<20:=by have hq:=h3;omega
 have hE:dcE x=Qbg (Qe x):=if_neg hl20
 refine aU2 ?_
 refine QH [11] mixed ?_
 refine dFa 0 ?_
 refine dLd 1 [[]] ?_
 refine dP 2 ?_
 refine dQ 3 [[]] rfl (Qv rfl Qux rfl (λw1 h1=>c104 w1 x.val om hv)) (dP 4 ?_)
 refine dV 5 rfl (Qr rfl rfl rfl Tryz.underlying9 (6) om om) ?_
 refine dV 6 rfl (Q6 rfl rfl Qer QdB) ?_
 try refine dWr ?_
 refine Qz (show _=Value.int .i64 (Xl x.val 6 1)from QsW _ _) (dP 7 ?_)
 refine dV 8 rfl (XI 20 rfl rfl rfl Tryz.underlying9 rfl om) (dV 9 rfl (Xm (cs:=[_,_,_,_,_,_,_,_,_]) rfl rfl QgF Xh rfl) (dH 10 rfl (Qfg rfl Xh) (λb4 _=>dBa ?_)))
 refine dSt 11 ?_ (hl:=(by simp only[Qi,List.length_set,List.length_cons,List.length_nil,List.length_map];omega))
 refine dTu [] ?_
 refine dNi ?_
 refine aU ?_
 refine QH [11] mixed ?_
 refine dP 0 ?_
 refine dV 1 rfl (Qr rfl rfl rfl Tryz.underlying9 (7) om om) ?_
 refine dV 2 rfl (Q6 rfl rfl Qer QdB) ?_
 try refine dWr ?_
 refine Qz (show _=Value.int .i64 (Xl x.val 7 1)from QsW _ _) (dP 3 ?_)
 refine dQ 4 [[]] rfl (Qv rfl Qik rfl (λw1 h1=>QdP w1 x.val 8 4 om om om)) (dP 5 ?_)
 refine dQ 6 [[]] rfl (Qv rfl Qik rfl (λw1 h1=>QdP w1 x.val 12 4 om om om)) (dP 7 ?_)
 refine dQ 8 [[]] rfl (Qv rfl Qik rfl (λw1 h1=>QdP w1 x.val 16 4 om om om)) (dV 9 rfl (Xm (cs:=[_,_,_,_]) rfl rfl QvV QsS rfl) (dFa 10 ?_))
 refine dSt 11 ?_ (hl:=(by simp only[Qi,List.length_set,List.length_cons,List.length_nil,List.length_map];omega))
 refine dTu [] ?_
 refine dNi ?_
 refine aU2 ?_
 refine Qd (L':=[(2,_),(3,_),(5,_)]) aSx (λ_ h=>h) ?_
 refine aU2 ?_
 refine Qu (show _=.agg #[.string (bs (Qe x).nm),.int .i64 (Qe x).sp,.string (bs (Qe x).ot),.int .i64 (Qe x).re,.int .i64 (Qe x).sq,.int .i64 (Qe x).fl,.int .i64 (Qe x).tm,.int .i64 (Qe x).al,.int .i64 (Qe x).sz]from rfl) (Y0 (C':=HS w [] [.blk b4 66 9 [.string (bs (Qe x).nm),.int .i64 (Qe x).sp,.string (bs (Qe x).ot),.int .i64 (Qe x).re,.int .i64 (Qe x).sq,.int .i64 (Qe x).fl,.int .i64 (Qe x).tm,.int .i64 (Qe x).al,.int .i64 (Qe x).sz],.blk b2 66 9 [.string (bs []),.int .i64 0,.string (bs []),.int .i64 0,.int .i64 0,.int .i64 0,.int .i64 0,.int .i64 0,.int .i64 0]]) (λw h=>h.ent aEt) (oCq rfl (λw1 h1=>c45 w1 (Qe x) hk (by show(x.val.drop 20).length<=_;rw[List.length_drop];omega)) (aU7 ?_)))
 refine sCd rfl (λh5=>?_) λh5=>?_
 ·have hz:¬Qbg (Qe x)=0:=by have hq:=h5;exact hq
  have hD:dcD x=noE:=if_neg (by rw[hE];exact hz)
  refine aU2 ?_
  refine o_p (Xm (cs:=[_,_,_,_,_,_,_,_,_]) rfl rfl QgF Xh rfl) rfl (aU4 ?_)
  exact Qm (rs:=[.cell 2 66,.tmp 3]) rfl (.cell rfl YC aPk rfl (.tmp rfl (.nil))) (λw' h'=>⟨by rw[hD,hE];rfl,h'.below⟩)
 have hz:Qbg (Qe x)=0:=by have hq:=h5;simpa using hq
 have hD:dcD x=Qe x:=if_pos (by rw[hE];exact hz)
 refine aU4 ?_
 refine Qu (show _=.agg #[.string (bs (Qe x).nm),.int .i64 (Qe x).sp,.string (bs (Qe x).ot),.int .i64 (Qe x).re,.int .i64 (Qe x).sq,.int .i64 (Qe x).fl,.int .i64 (Qe x).tm,.int .i64 (Qe x).al,.int .i64 (Qe x).sz]from rfl) (aU3 ?_)
 exact Qm (rs:=[.cell 2 66,.tmp 3]) rfl (.cell rfl YC aPk rfl (.tmp rfl (.nil))) (λw' h'=>⟨by rw[hD,hE,hz];rfl,h'.below⟩)
end Go.Proofs
