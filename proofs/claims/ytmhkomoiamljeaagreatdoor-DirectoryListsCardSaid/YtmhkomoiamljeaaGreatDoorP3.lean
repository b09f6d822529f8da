/- Contracts of the program's functions, proved by walking them with the rules of the Gx texts; without conditions beyond those that each contract names. -/
import Derived.WalkKit
import Derived.Deep.Draws
import Derived.TacticsIn
import Derived.OrdersIn
import Derived.RangeFuncLeaves
import Derived.Lib.Strings
import Derived.Laws.BytesArg
import Derived.Laws.IdiomStrings
import Derived.Deep.Quiet
import Derived.ProofKit
import Derived.OpenShut
import Derived.Laws.StructEq
import Derived.ChangeKeysEq
import Derived.Laws.Externs
import Derived.Lib.Overlaps
import Derived.Carry
import Derived.Laws.Small
import Derived.Lib.Bytealg
import Derived.Shelf.Small.Strs
import Derived.Shelf.Small.Wraps
import Derived.Shelf.Strconv.Itoa0
import Derived.Shelf.Strconv.Itoa1
import Derived.Shelf.LaysM
import Derived.Shelf.Strconv.Itoa2
import Derived.Shelf.Strconv.Itoa3
import Derived.Shelf.Strings.Search1
import Derived.Shelf.Strings.Search2
import Derived.Shelf.Strings.Cut
import Derived.Shelf.Strings.Shaped
import Derived.Shelf.Strings.LastIndex
import Derived.Shelf.Strings.LastIndexAll
import Derived.Shelf.Strings.Prefix
import Derived.Shelf.Slices.Turned
import Derived.Shelf.Slices.Reverse
import Derived.Shelf.Slices.Equal
import Derived.Ground.Names2Prog
import Derived.Shelf.Slices.Clone
import Derived.Shelf.Slices.SearchI
import Derived.Shelf.Slices.Delete
import Derived.Shelf.Slices.Cells
import Derived.Shelf.Slices.Empties
import Derived.Shelf.Slices.Empties2
import Derived.Ground.SlgnProg
import Derived.Shelf.SlicesE.Reverse
import Derived.Shelf.SlicesE.Delete
import Derived.Shelf.SlicesE.Clone
import Derived.Test.YtmhkomoiamljeaaGreatDoorProg
import Derived.KernelRfl
import Derived.Lib.LastIndexByte
import Derived.Lib.ItoaNum
import Derived.Lib.SmallJoins
import Derived.Lib.AppendIntMem
import Derived.RangeFuncRecord
import Derived.Lib.Builder
import Derived.Laws.Pointers
import Derived.Test.YtmhkomoiamljeaaGreatDoorTie
import Derived.Test.YtmhkomoiamljeaaGreatDoorCards
import Derived.SevenTiedAt
import Derived.LaidMore
import Derived.Lay
import Derived.Stop.Joined
import Derived.Test.YtmhkomoiamljeaaGreatDoorP2
set_option linter.unusedSimpArgs false
set_option maxHeartbeats 1000000
set_option linter.unusedVariables false
set_option linter.unusedSectionVars false
set_option linter.unnecessarySimpa false
namespace Gx
namespace Ev
open Go Go.RowKit
noncomputable def has(M i:Nat):Bool:=Bool.not (Nat.beq (Nat.land M (Nat.pow 2 i)) 0)
theorem QaK(M i:Nat):has M i=M.testBit i:=by
 unfold has;cases h:M.testBit i with
 | true=>
  cases hb:Nat.beq (Nat.land M (Nat.pow 2 i)) 0 with
  | false=>rfl
  | true=>
   have h0:M &&& 2^i=0:=Nat.eq_of_beq_eq_true hb;have:=congrArg (λx=>x.testBit i) h0
   grind
 | false=>
  have h0:M &&& 2^i=0:=by
   apply Nat.eq_of_testBit_eq
   grind
  simp_all
noncomputable def Zq(a M:Nat):Bool:=Nat.beq (Nat.land a M) a
theorem Qf3{a M:Nat}(h:Zq a M=true){j:Nat}(hj:a.testBit j=true):M.testBit j=true:=by
 have h0:a &&& M=a:=Nat.eq_of_beq_eq_true h
 grind
theorem Qjh{a M:Nat}(h:Zq a M=false):∃j,a.testBit j=true/\M.testBit j=false:=by
 refine Classical.byContradiction λhn=>?_
 have h0:a &&& M=a:=by
  apply Nat.eq_of_testBit_eq
  grind
 simp_all[Zq]
noncomputable def XP(M i:Nat):Nat:=Nat.lor M (Nat.pow 2 i)
theorem Qaf(M i j:Nat):(XP M i).testBit j=(M.testBit j||decide (i=j)):=by
 show(M ||| 2^i).testBit j=_
 grind
noncomputable def Qhw(l:List Edge):Nat:=List.rec 0 (λe _ ih=>Bool.rec ih (XP ih e.on) (Region.binds .any e)) l
theorem Qhe(y:Nat):∀l:List Edge,(Qhw l).testBit y=l.any λe=>Region.binds .any e&&Nat.beq e.on y
 | []=>by show(0:Nat).testBit y=_;simp
 | e::l=>by
  have hu:Qhw (e::l)=(Bool.rec (Qhw l) (XP (Qhw l) e.on) (Region.binds .any e):Nat):=rfl;rw[hu,List.any_cons,<-Qhe y l];cases Region.binds .any e with
  | false=>rfl
  | true=>
   show(XP (Qhw l) e.on).testBit y=_;rw[Qaf];have:decide (e.on=y)=Nat.beq e.on y:=by rw[Bool.eq_iff_iff,decide_eq_true_eq,Nat.beq_eq]
   grind
def ZU:Operand->List Nat->List Nat
 | .tmp t,l=>t::l
 | _,l=>l
def QeZ:List Operand->List Nat
 | []=>[]
 | x::l=>ZU x (QeZ l)
def Qi0:List (Nat×Operand)->List Nat
 | []=>[]
 | (_,x)::l=>ZU x (Qi0 l)
def QjB:Option Operand->List Nat->List Nat
 | some x,l=>ZU x l
 | none,l=>l
def opT:Op->Option (List Nat)
 | .alloc _| .makeMap _ none=>some []
 | .move x| .assign x| .box _ x| .load _ x| .nilCheck x| .unOp _ _ x| .convert _ _ x| .fieldAddr _ x _| .field _ x _| .extract x _=>some (ZU x [])
 | .pick c a b=>some (ZU c (ZU a (ZU b [])))
 | .build _ ⟨ps⟩| .buildSlice _ _ ⟨ps⟩=>some (Qi0 ps)
 | .store _ a v| .binOp _ _ a v _| .makeSlice _ a v| .indexAddr _ a v| .index _ a v| .lookup _ a v _=>some (ZU a (ZU v []))
 | .mapUpdate _ a b c=>some (ZU a (ZU b (ZU c [])))
 | .makeFunc _ ⟨f⟩ ⟨c⟩=>some (QeZ f++QeZ c)
 | .slice _ x l h m=>some (ZU x (QjB l (QjB h (QjB m []))))
 | .call ⟨.value f,⟨args⟩,_⟩=>some (ZU f (QeZ args))
 | .call ⟨.builtin _,⟨args⟩,_⟩=>some (QeZ args)
 | _=>none
theorem QcC{x:Operand}{l:List Nat}{t:Nat}:t∈ZU x l ↔ x=.tmp t\/t∈l:=by
 cases x<;>simp[ZU,eq_comm]
theorem Qhs{t:Nat}:∀{l:List Operand},t∈QeZ l ↔ Operand.tmp t∈l
 | []=>by simp[QeZ]
 | x::l=>by simp only[QeZ,QcC,Qhs,List.mem_cons];simp[eq_comm]
theorem Qhy{t:Nat}:∀{l:List (Nat×Operand)},t∈Qi0 l ↔ Operand.tmp t∈l.map (·.2)
 | []=>by simp[Qi0]
 | (i,x)::l=>by simp only[Qi0,QcC,Qhy,List.map_cons,List.mem_cons];simp[eq_comm]
theorem Qnu{t:Nat}{o:Option Operand}{l:List Nat}:t∈QjB o l ↔ o=some (.tmp t)\/t∈l:=by
 cases o<;>simp[QjB,QcC]
theorem QrG{op:Op}{l:List Nat}(h:opT op=some l){t:Nat}(ht:Operand.tmp t∈op.operands):t∈l:=by
  unfold opT at h
  split at h<;>first
    | (cases h;done)
    | (injection h with h;subst h
       simp only[Op.operands,Call.operands,Array.mem_append,List.mem_toArray,Option.mem_toArray,List.mem_map,QcC,Qhs,Qhy,Qnu,List.mem_append,List.mem_cons,List.mem_nil_iff,or_false,Option.mem_def,List.mem_singleton,List.not_mem_nil,false_or]at ht ⊢
       all_goals (first|exact ht|grind))
def gdT(ops:List Oper):Option (Nat×Bool)->List Nat
 | none=>[]
 | some (g,_)=>match ops[g]? with
  | some o=>(match o.dst with
   | some d=>[d]
   | none=>[])
  | none=>[]
structure Inf where
 em:Nat
 dst:Option Nat
 lk:List Nat
noncomputable def Zz(ops:List Oper)(o:Oper):Option Inf:=match opT o.op,o.after with
 | some l,⟨es⟩=>some ⟨Qhw es,o.dst,gdT ops o.guard++l⟩
 | none,_=>none
theorem QbF{ops:List Oper}{o:Oper}{f:Inf}(h:Zz ops o=some f)(y:Nat):f.em.testBit y=o.after.any λe=>Region.binds .any e&&Nat.beq e.on y:=by
 unfold Zz at h;split at h
 ·rename_i l es h1 h2
  grind[Qhe]
 ·cases h
theorem QeS{ops:List Oper}{o:Oper}{f:Inf}(h:Zz ops o=some f){t:Nat}(ht:t∈o.looksAt ⟨ops⟩):t∈f.lk:=by
 unfold Zz at h;split at h
 ·rename_i l es h1 h2;injection h with h
  subst h;simp only[List.mem_append];unfold Oper.looksAt at ht
  grind[QrG,gdT]
 ·cases h
theorem QhK{ops:List Oper}{o:Oper}{f:Inf}(h:Zz ops o=some f):f.dst=o.dst:=by grind[Zz]
theorem QnH{ops:List Oper}{o:Oper}{f:Inf}(h:Zz ops o=some f)(cs:Array SelectCase)(b:Bool):o.op≠ .select cs b:=by
 intro e;unfold Zz at h;rw[e]at h;cases h
noncomputable def eqON(a:Nat)(b:Option Nat):Bool:=Option.rec false (λb=>Nat.beq a b) b
noncomputable def apF(x y:Inf):Bool:=Bool.rec false (match y.dst with
  | some e=>Bool.not (memN e x.lk)
  | none=>true) (match x.dst with
 | some d=>Bool.rec (Bool.not (eqON d y.dst)) false (memN d y.lk)
 | none=>true)
theorem Qt2{ops:List Oper}{x y:Oper}{fx fy:Inf}(hx:Zz ops x=some fx)(hy:Zz ops y=some fy)(h:apF fx fy=true):x.apart ⟨ops⟩ y=true:=by
 unfold apF at h;rw[QhK hx,QhK hy]at h;unfold Oper.apart
 have ny:∀d,memN d fy.lk=false->d ∉ y.looksAt ⟨ops⟩:=λd hd hc=>by
  have:=Qct.2 (QeS hy hc);rw[hd]at this;cases this
 have nx:∀d,memN d fx.lk=false->d ∉ x.looksAt ⟨ops⟩:=λd hd hc=>by
  have:=Qct.2 (QeS hx hc);rw[hd]at this;cases this
 have h2:∀e,y.dst=some e->memN e fx.lk=false:=by
  intro e he;rw[he]at h;cases hm:memN e fx.lk with
  | false=>rfl
  | true=>
   simp only[hm,Bool.not_true]at h;have hz:∀b:Bool,(Bool.rec false false b:Bool)=true->False:=λb hb=>by cases b<;>cases hb
   grind
 have h1:∀d,x.dst=some d->memN d fy.lk=false/\y.dst≠some d:=by
  intro d hd;rw[hd]at h;simp only[]at h;cases hm:memN d fy.lk with
  | true=>rw[hm]at h;cases h
  | false=>
   rw[hm]at h;refine⟨rfl,λe=>?_⟩
   simp_all[eqON]
 grind
noncomputable def Qe7(i:Nat)(f:Inf)(l:List (Nat×Inf)):Nat:=List.rec 0 (λp _ ih=>Bool.rec (Bool.rec (Bool.rec (XP ih p.1) ih (apF f p.2)) ih (has p.2.em i)) ih (Nat.beq p.1 i)) l
theorem Qki{i:Nat}{f:Inf}:∀{l:List (Nat×Inf)}{p:Nat×Inf},p∈l->p.1≠i->p.2.em.testBit i=false->apF f p.2=false->(Qe7 i f l).testBit p.1=true
 | q::l,p,hp,h1,h2,h3=>by
  have hu:Qe7 i f (q::l)=(Bool.rec (Bool.rec (Bool.rec (XP (Qe7 i f l) q.1) (Qe7 i f l) (apF f q.2)) (Qe7 i f l) (has q.2.em i)) (Qe7 i f l) (Nat.beq q.1 i):Nat):=rfl;rw[hu];rcases List.mem_cons.1 hp with rfl|hp
  ·have hb:Nat.beq p.1 i=false:=by cases hb:Nat.beq p.1 i<;>simp_all
   simp_all[QaK,XP,Qaf]
  ·have ih:=Qki (f:=f) hp h1 h2 h3;cases Nat.beq q.1 i with
   | true=>exact ih
   | false=>
    cases has q.2.em i with
    | true=>exact ih
    | false=>cases apF f q.2<;>grind[apF,XP,Qaf]
 | [],p,hp,_,_,_=>by cases hp
noncomputable def Qbp(ops:List Oper):Nat->List Oper->Option (List (Nat×Inf))
 | _,[]=>some []
 | i,o::l=>match Zz ops o,Qbp ops (i+1) l with
  | some f,some fs=>some ((i,f)::fs)
  | _,_=>none
theorem Qb4{ops:List Oper}:∀{l:List Oper}{k:Nat}{fs:List (Nat×Inf)},Qbp ops k l=some fs->∀j o,l[j]?=some o->∃f,Zz ops o=some f/\(k+j,f)∈fs
 | [],k,fs,h,j,o,hj=>by simp at hj
 | o'::l,k,fs,h,j,o,hj=>by
  simp only[Qbp]at h;split at h
  ·rename_i f fs' h1 h2;injection h with h
   subst h;cases j with
   | zero=>grind
   | succ j=>
    obtain⟨f',h3,h4⟩:=Qb4 h2 j o (by simpa using hj)
    grind
  ·cases h
theorem Qh8{ops:List Oper}:∀{l:List Oper}{k:Nat}{fs:List (Nat×Inf)},Qbp ops k l=some fs->∀p∈fs,∃j o,p.1=k+j/\l[j]?=some o/\Zz ops o=some p.2
 | [],k,fs,h,p,hp=>by cases h;cases hp
 | o'::l,k,fs,h,p,hp=>by
  simp only[Qbp]at h;split at h
  ·rename_i f fs' h1 h2;injection h with h
   subst h;rcases List.mem_cons.1 hp with rfl|hp
   ·grind
   ·obtain⟨j,o,e1,e2,e3⟩:=Qh8 h2 p hp;exact⟨j+1,o,om,by simpa using e2,e3⟩
  ·cases h
def Lm(n:Nat)(listed:Array Bool)(M:Nat):Prop:=listed.size=n/\(∀j,j<n->listed.getD j false=M.testBit j)/\∀j,M.testBit j=true->j<n
theorem Lm.get{n:Nat}{listed:Array Bool}{M j:Nat}(h:Lm n listed M)(hj:j<n)(b:Bool):listed.getD j b=M.testBit j:=by
 rw[<-h.2.1 j hj];have hl:j<listed.size:=by rw[h.1];exact hj
 grind
theorem Lm.set{n:Nat}{listed:Array Bool}{M i:Nat}(h:Lm n listed M)(hi:i<n):Lm n (listed.setIfInBounds i true) (XP M i):=by
 refine⟨by simp[h.1],λj hj=>?_,λj hj=>by
  rw[Qaf]at hj
  by_cases e:i=j
  ·omega
  ·exact h.2.2 j (by simpa[e]using hj)⟩
 have hl:i<listed.size:=by rw[h.1];exact hi
 have hl':j<listed.size:=by rw[h.1];exact hj
 rw[Qaf]
 by_cases e:i=j
 ·simp_all
 ·have:=h.2.1 j hj
  simp_all
theorem Lm.start(n:Nat):Lm n (Array.replicate n false) 0:=⟨by simp,(λj hj=>by simp[Array.getD_eq_getD_getElem?,hj]),λj hj=>by simp at hj⟩
section
variable{ops:List Oper}{fs:List (Nat×Inf)}
structure Row where
 i:Nat
 em:Nat
 need:Nat
noncomputable def Qw(fs:List (Nat×Inf)):List (Nat×Inf)->List Row:=List.rec [] λp _ ih=>⟨p.1,p.2.em,Nat.lor p.2.em (Qe7 p.1 p.2 fs)⟩::ih
theorem Qgs:∀{l:List (Nat×Inf)}{r:Row},r∈Qw fs l->∃p∈l,r=⟨p.1,p.2.em,Nat.lor p.2.em (Qe7 p.1 p.2 fs)⟩
 | p::l,r,h=>by
  have hu:Qw fs (p::l)=⟨p.1,p.2.em,Nat.lor p.2.em (Qe7 p.1 p.2 fs)⟩::Qw fs l:=rfl;rw[hu]at h;rcases List.mem_cons.1 h with rfl|h
  ·grind
  ·obtain⟨q,h1,h2⟩:=Qgs h
   grind
 | [],r,h=>by cases h
theorem Qdu:∀{l:List (Nat×Inf)}{p:Nat×Inf},p∈l->(⟨p.1,p.2.em,Nat.lor p.2.em (Qe7 p.1 p.2 fs)⟩:Row)∈Qw fs l
 | q::l,p,h=>by
  have hu:Qw fs (q::l)=⟨q.1,q.2.em,Nat.lor q.2.em (Qe7 q.1 q.2 fs)⟩::Qw fs l:=rfl;rw[hu];rcases List.mem_cons.1 h with rfl|h
  ·grind
  ·exact List.mem_cons_of_mem _ (Qdu h)
 | [],p,h=>by cases h
theorem Qcc(hf:Qbp ops 0 ops=some fs){r:Row}(h:r∈Qw fs fs):∃o f,ops[r.i]?=some o/\Zz ops o=some f/\r.em=f.em/\(r.i,f)∈fs/\r.need=Nat.lor f.em (Qe7 r.i f fs):=by grind[Qgs,Qh8]
theorem QdF{listed:Array Bool}{M i:Nat}{o:Oper}{f:Inf}(hl:Lm ops.length listed M)(ho:ops[i]?=some o)(hf:Zz ops o=some f)(hM:M.testBit i=false)(hs:Zq f.em M=true):i∈Region.ready .any ⟨ops⟩ listed:=by
 have hi:i<ops.length:=by grind
 refine mem_ready.2 ⟨by rw[hl.get hi];exact hM,o,by simpa using ho,λe he hb=>?_⟩
 have h1:f.em.testBit e.on=true:=by
  rw[QbF hf];refine Array.any_eq_true'.2 ⟨e,he,?_⟩
  simp_all
 have h2:=Qf3 hs h1;rw[hl.get (hl.2.2 _ h2)];exact h2
theorem Lm.not{n:Nat}{listed:Array Bool}{M j:Nat}(h:Lm n listed M)(hj:M.testBit j=false):listed.getD j false=false:=by
 by_cases hlt:j<n
 ·rw[h.get hlt];exact hj
 ·have:listed.size<=j:=by rw[h.1];omega
  grind
theorem Qgi{listed:Array Bool}{M i:Nat}{o:Oper}{f:Inf}(hl:Lm ops.length listed M)(ho:ops[i]?=some o)(hf:Zz ops o=some f)(hs:Zq f.em M=false):i ∉ Region.ready .any ⟨ops⟩ listed:=by
 intro hr;obtain⟨_,o',ho',hall⟩:=mem_ready.1 hr;have:o'=o:=by grind
 subst this;obtain⟨y,h1,h2⟩:=Qjh hs;rw[QbF hf]at h1;obtain⟨e,he,hb⟩:=Array.any_eq_true'.1 h1;simp only[Bool.and_eq_true]at hb;have hon:=Nat.eq_of_beq_eq_true hb.2;subst hon;have h3:=hall e he hb.1;rw[hl.not h2]at h3;cases h3
noncomputable def Qpw(g:Row->Bool)(l:List Row):Bool:=List.rec true (λr _ ih=>Bool.rec false ih (g r)) l
theorem QgC{g:Row->Bool}:∀{l:List Row},Qpw g l=true->∀r∈l,g r=true
 | r::l,h,r',hr=>by
  have hu:Qpw g (r::l)=(Bool.rec false (Qpw g l) (g r):Bool):=rfl;rw[hu]at h;cases hg:g r with
  | false=>rw[hg]at h;cases h
  | true=>
   rw[hg]at h;rcases List.mem_cons.1 hr with rfl|hr
   ·exact hg
   ·exact QgC h r' hr
 | [],_,_,hr=>by cases hr
noncomputable def Qkn(M i:Nat)(rows:List Row):Bool:=Qpw (λr=>Bool.rec (Bool.rec (Bool.not (Zq r.em M)) true (has M r.i)) true (Nat.beq r.i i)) rows
theorem QmI:∀{l:List Nat}{i:Nat},l.Nodup->i∈l->(∀j∈l,j=i)->l=[i]
 | [],i,_,h,_=>by cases h
 | [a],i,_,h,_=>by rw[List.mem_singleton.1 h]
 | a::b::l,i,hn,_,hall=>by simp_all
theorem Qdj(hf:Qbp ops 0 ops=some fs){listed:Array Bool}{M:Nat}{r:Row}(hl:Lm ops.length listed M)(hr:r∈Qw fs fs)(hM:has M r.i=false)(hs:Zq r.em M=true)(ho:Qkn M r.i (Qw fs fs)=true):(Region.ready .any ⟨ops⟩ listed==[r.i])=true:=by
 obtain⟨o,f,e1,e2,e3,e4,e5⟩:=Qcc hf hr;rw[QaK]at hM;rw[e3]at hs;have hin:=QdF hl e1 e2 hM hs
 have:Region.ready .any ⟨ops⟩ listed=[r.i]:=by
  refine QmI (List.Pairwise.filter _ List.nodup_range) hin λj hj=>?_;obtain⟨h1,oj,h2,h3⟩:=mem_ready.1 hj;have h2':ops[j]?=some oj:=by simpa using h2
  obtain⟨fj,g1,g2⟩:=Qb4 hf j oj h2';rw[Nat.zero_add]at g2;have g3:=QgC ho _ (Qdu (fs:=fs) g2);simp only[]at g3;cases hb:Nat.beq j r.i with
  | true=>exact Nat.eq_of_beq_eq_true hb
  | false=>
   rw[hb]at g3;have hjl:j<ops.length:=by grind
   rw[hl.get hjl]at h1;rw[QaK,h1]at g3
   grind[Zq,Qgi]
 grind
theorem Quh(hf:Qbp ops 0 ops=some fs):Region.noSelect ⟨ops⟩=true:=by
 unfold Region.noSelect;simp only[List.all_toArray,List.all_eq_true];intro o ho;obtain⟨j,hj⟩:=List.getElem?_of_mem ho
 grind[Qb4,QnH]
theorem QfK(hf:Qbp ops 0 ops=some fs){listed:Array Bool}{M:Nat}{r:Row}(hl:Lm ops.length listed M)(hr:r∈Qw fs fs)(hM:has M r.i=false)(hs:Zq r.need M=true):QO ⟨ops⟩ listed r.i=true:=by
 obtain⟨o,f,e1,e2,e3,e4,e5⟩:=Qcc hf hr;rw[QaK]at hM
 have hem:Zq f.em M=true:=by
  cases h:Zq f.em M with
  | true=>rfl
  | false=>
   obtain⟨y,h1,h2⟩:=Qjh h;have h3:r.need.testBit y=true:=by simp_all
   grind[Qf3]
 have hin:=QdF hl e1 e2 hM hem;unfold QO;rw[Quh hf,Bool.and_true,Bool.and_eq_true];refine⟨by simpa using hin,List.all_eq_true.2 λj hj=>?_⟩;have hjl:j<ops.length:=by simpa using hj
 have h2':ops[j]?=some ops[j]:=List.getElem?_eq_getElem hjl;obtain⟨fj,g1,g2⟩:=Qb4 hf j _ h2';rw[Nat.zero_add]at g2;have hoj:(⟨ops⟩:Array Oper)[j]?=some ops[j]:=by simpa using h2'
 have hoi:(⟨ops⟩:Array Oper)[r.i]?=some o:=by simpa using e1
 rw[hoj,hoi];simp only[Bool.or_eq_true];cases hb:Nat.beq j r.i with
 | true=>exact .inl (.inl (.inl rfl))
 | false=>
  cases hm:M.testBit j with
  | true=>exact .inl (.inl (.inr (by rw[hl.get hjl];exact hm)))
  | false=>
   cases he:fj.em.testBit r.i with
   | true=>exact .inl (.inr (by rw[<-QbF g1];exact he))
   | false=>
    refine .inr (Qt2 e2 g1 ?_);cases hap:apF f fj with
    | true=>rfl
    | false=>
     have hne:j≠r.i:=λe=>by subst e;rw[Nat.beq_refl]at hb;cases hb
     have hbit:=Qki (i:=r.i) (f:=f) g2 hne he hap;have h3:r.need.testBit j=true:=by simp_all
     grind[Qf3]
noncomputable def Qe3(fs:List (Nat×Inf))(fm:Nat):Nat:=List.rec fm (λp _ ih=>Bool.rec ih (Nat.lor ih p.2.em) (has fm p.1)) fs
theorem QgH{fm i:Nat}:∀{l:List (Nat×Inf)},(Qe3 l fm).testBit i=true->fm.testBit i=true\/∃p∈l,fm.testBit p.1=true/\p.2.em.testBit i=true
 | [],h=>.inl h
 | p::l,h=>by
  have hu:Qe3 (p::l) fm=(Bool.rec (Qe3 l fm) (Nat.lor (Qe3 l fm) p.2.em) (has fm p.1):Nat):=rfl;rw[hu,QaK]at h;cases hb:fm.testBit p.1 with
  | false=>
   rw[hb]at h;rcases QgH h with h|⟨q,h1,h2⟩<;>grind
  | true=>
   rw[hb]at h;have h':((Qe3 l fm) ||| p.2.em).testBit i=true:=h;rw[Nat.testBit_or,Bool.or_eq_true]at h';rcases h' with h|h
   ·rcases QgH h with h|⟨q,h1,h2⟩<;>grind
   grind
theorem QlV{x y:Nat}{o:Oper}{f:Inf}(ho:ops[x]?=some o)(hf:Zz ops o=some f)(h:f.em.testBit y=true):Qlk ⟨ops⟩ x y=true:=by grind[Qlk,QbF]
theorem Qov(hf:Qbp ops 0 ops=some fs){r:Row}(hr:r∈Qw fs fs){i:Nat}(hne:r.i≠i)(h:has (Qe3 fs r.em) i=true):X9 ⟨ops⟩ [r.i] i (Qmh (⟨ops⟩:Array Oper).size)=true:=by
 obtain⟨o,f,e1,e2,e3,e4,e5⟩:=Qcc hf hr;rw[QaK]at h;have hb:Nat.beq r.i i=false:=by cases hb:Nat.beq r.i i<;>simp_all
 have hps:∃p∈Qmh (⟨ops⟩:Array Oper).size,Qdd ⟨ops⟩ r.i p i=true:=by
  rcases QgH h with h|⟨p,h1,h2,h3⟩
  ·exact⟨[],List.mem_cons_self ..,QlV e1 e2 (by rw[<-e3];exact h)⟩
  ·obtain⟨j,oj,g1,g2,g3⟩:=Qh8 hf p h1;have hj:p.1=j:=by omega
   have hjl:j<ops.length:=by grind
   refine⟨[j],List.mem_cons_of_mem _ (List.mem_map.2 ⟨j,by simpa using hjl,rfl⟩),?_⟩
   grind[Qdd,QlV]
 grind[X9]
noncomputable def Qc3(i:Nat)(l:List Row):Option Row:=List.rec none (λr _ ih=>Bool.rec ih (some r) (Nat.beq r.i i)) l
theorem YK{i:Nat}:∀{l:List Row}{r:Row},Qc3 i l=some r->r∈l/\r.i=i
 | [],r,h=>by cases h
 | q::l,r,h=>by
  have hu:Qc3 i (q::l)=(Bool.rec (Qc3 i l) (some q) (Nat.beq q.i i):Option Row):=rfl;rw[hu]at h;cases hb:Nat.beq q.i i with
  | true=>simp_all
  | false=>
   rw[hb]at h;obtain⟨h1,h2⟩:=YK h
   grind
structure Fin1 where
 i:Nat
 tm:Nat
def QbW:Option Fin1->List Nat
 | none=>[]
 | some f=>[f.i]
def Qhx(fs:List (Nat×Inf))(f:Fin1):Prop:=∃r∈Qw fs fs,r.i=f.i/\f.tm=Qe3 fs r.em
noncomputable def isF(F:Option Fin1)(i:Nat):Bool:=Option.rec false (λf=>Nat.beq f.i i) F
noncomputable def QdJ(rows:List Row)(F:Option Fin1)(M i:Nat):Stp:=match Qc3 i rows with
 | some r=>⟨i,Bool.rec (Bool.rec false (Bool.not (isF F i)) (Zq r.need M)) false (has M i),
   Bool.rec (Bool.rec false (match F with
    | none=>true
    | some f=>Bool.rec (Bool.rec false (Bool.not (has M f.i)) (has f.tm i)) false (Nat.beq f.i i)) (Zq r.need M)) false (has M i),
   Bool.rec (Bool.rec false (Qkn M i rows) (Zq r.em M)) false (has M i),Bool.rec none (some []) (isF F i)⟩
 | none=>⟨i,false,false,false,Bool.rec none (some []) (isF F i)⟩
theorem b3{a b c:Bool}(h:(Bool.rec (Bool.rec false c b) false a:Bool)=true):a=false/\b=true/\c=true:=by
 cases a<;>cases b<;>cases c<;>first|exact⟨rfl,rfl,rfl⟩|cases h
theorem QdQ(F:Option Fin1)(i:Nat):(QbW F).contains i=isF F i:=by
 cases F with
 | none=>rfl
 | some f=>
  show List.contains [f.i] i=Nat.beq f.i i;cases hb:Nat.beq f.i i with
  | true=>simp_all
  | false=>
   have:¬(i=f.i):=λe=>by subst e;rw[Nat.beq_refl]at hb;cases hb
   simp[this]
theorem QoT{F:Option Fin1}{i:Nat}(h:isF F i=false):onF (QbW F) i=true:=by
 cases F with
 | none=>rfl
 | some f=>
  have hb:Nat.beq f.i i=false:=h;simp[onF,QbW,hb]
theorem QnY(hf:Qbp ops 0 ops=some fs){listed:Array Bool}{M i:Nat}{F:Option Fin1}(hl:Lm ops.length listed M)(hF:∀f,F=some f->Qhx fs f) :
  ((QdJ (Qw fs fs) F M i).okP=true->(QO ⟨ops⟩ listed i&&onF (QbW F) i)=true) /\
  ((QdJ (Qw fs fs) F M i).okQ=true->(QO ⟨ops⟩ listed i&&(X9 ⟨ops⟩ (QbW F) i (Qmh (⟨ops⟩:Array Oper).size)&&Z8 (QbW F) listed))=true) /\
  ((QdJ (Qw fs fs) F M i).okH=true->(Region.ready .any ⟨ops⟩ listed==[i])=true) /\
  (QdJ (Qw fs fs) F M i).i=i:=by
 unfold QdJ;split
 ·rename_i r hr;obtain⟨h1,rfl⟩:=YK hr;refine⟨λh=>?_,λh=>?_,λh=>?_,rfl⟩
  ·obtain⟨g1,g2,g3⟩:=b3 h;rw[QfK hf hl h1 g1 g2,Bool.true_and];exact QoT (by simpa using g3)
  ·obtain⟨g1,g2,g3⟩:=b3 h;rw[QfK hf hl h1 g1 g2,Bool.true_and];cases F with
   | none=>rfl
   | some f=>
    obtain⟨g4,g5,g6⟩:=b3 g3;obtain⟨r',k1,k2,k3⟩:=hF f rfl;have hne:r'.i≠r.i:=λe=>by rw[k2]at e;rw[e,Nat.beq_refl]at g4;cases g4
    have hw:=Qov hf k1 hne (by rw[<-k3];exact g5);rw[k2]at hw;show(X9 ⟨ops⟩ [f.i] r.i _&&Z8 [f.i] listed)=true;rw[hw,Bool.true_and];simp only[Z8,List.all_cons,List.all_nil,Bool.and_true];rw[hl.not (by have:=g6;rw[QaK]at this;simpa using this)];rfl
  ·obtain⟨g1,g2,g3⟩:=b3 h;exact Qdj hf hl h1 g1 g2 g3
 ·exact⟨(λh=>by cases h),(λh=>by cases h),(λh=>by cases h),rfl⟩
theorem QkM{rows:List Row}{F:Option Fin1}{M i:Nat}:(QdJ rows F M i).turn=Bool.rec none (some []) (isF F i):=by
 unfold QdJ;split<;>rfl
theorem Qrm{listed:Array Bool}(hl:Lm ops.length listed (2^ops.length-1)):QtU ⟨ops⟩ listed []=true:=by
 have:Region.ready .any ⟨ops⟩ listed=[]:=by
  refine List.eq_nil_iff_forall_not_mem.2 λj hj=>?_;obtain⟨h1,o,h2,_⟩:=mem_ready.1 hj;have h2':ops[j]?=some o:=by simpa using h2
  have hjl:j<ops.length:=by grind
  rw[hl.get hjl,Nat.testBit_two_pow_sub_one]at h1;simp[hjl]at h1
 grind[QtU]
end
end Ev
namespace Ev
open Go Go.RowKit
noncomputable def QrU(P:Program):Op->Option (Clo (Nat->Value×HX))
 | .makeMap _ none=>some ⟨λn=>(.map (some n),.mp [])⟩
 | .alloc t=>match QM P t with
  | some z=>bif Xb z then some ⟨λn=>(.pointer (some ⟨n,0,none⟩),.row ⟨t,0,z⟩)⟩else none
  | none=>none
 | _=>none
def QvL(P:Program)(o:Oper)(L':Qc)(w0:World)(As:List HA)(c:Nat->Value×HX):Prop:=
 ∃(G:Type)(V:G->Value)(Fg:G->Prop)(A:G->HA),OpH P o L' (HS w0 [] As) V Fg (λg=>HS w0 [] (A g::As))/\∀g,Fg g->∃x:Nat×Nat,∀(ρ:Rho)(n:Nat),den (ext ρ n x) (c n).1=some (V g)/\ha (ext ρ n x) (n,(c n).2)=some (A g)
theorem Qmz{P:Program}{o:Oper}{op:Op}{c:Clo (Nat->Value×HX)}(ho:o.op=op)(h:QrU P op=some c)(L':Qc)(w0:World)(As:List HA):QvL P o L' w0 As c.run:=by
 unfold QrU at h;split at h
 ·injection h with h
  subst h;refine⟨_,_,_,_,Qa8 ho QjE,λb _=>⟨(b,0),λρ n=>⟨?_,?_⟩⟩⟩
  ·simp only[den,Xp,QU,XV,Qbz]
  ·simp only[ha,Qbz]
 ·rename_i t;split at h
  ·rename_i z hz;obtain⟨hf,rfl⟩:=bif_some h;refine⟨_,_,_,_,Qfg ho hz,λb _=>⟨(b,0),λρ n=>⟨QhP,?_⟩⟩⟩;have:=Ql6 (x:=⟨t,0,z⟩) (us:=z) (d:=0) (Qbz ρ n (b,0)) (X7 hf) (.inl rfl)
   simpa using this
  ·cases h
 ·cases h
structure PF where
 q:Nat
 okP:Bool
 okM:Bool
noncomputable def cQs(P:Program)(nt dj:Nat)(ops:Array Oper):List PF->Clo (CallF->Tr Value->Hp->Nat->List Nat->Option (Tr Value×Hp×Nat))
 | []=>⟨λ_ T H n _=>some (T,H,n)⟩
 | x::l=>match ops[x.q]? with
  | some ⟨some d,op,_,_,_,none⟩=>bif Nat.blt d nt&&Bool.not (Nat.beq d dj)then⟨λF T H n R=>match(Z9 P op).run F T H n with
   | .p v=>bif x.okP then(cQs P nt dj ops l).run F (Yr (pth d) d v T) H n R else none
   | .new v y=>bif x.okM then(cQs P nt dj ops l).run F (Yr (pth d) d v T) (YQ H n y) (Nat.succ n) R else none
   | .h v H' n'=>bif x.okM&&QiT H H' R then(cQs P nt dj ops l).run F (Yr (pth d) d v T) H' n' R else none
   | _=>none⟩else⟨λ_ _ _ _ _=>none⟩
  | _=>⟨λ_ _ _ _ _=>none⟩
noncomputable def dTwo(P:Program)(nt:Nat)(ops:Array Oper)(qs:List PF)(ok:Bool)(oj:Oper)(rest:DS):DS:=match oj.dst,QrU P oj.op,oj.guard with
 | some dj,some c,none=>bif ok&&Nat.blt dj nt then⟨λF T H n R=>match(cQs P nt dj ops qs).run ⟨F.f,F.e,noY⟩ (Qg2 (pth dj) T) H n R with
  | some r=>rest.run F (Yr (pth dj) dj (c.run r.2.2).1 r.1) (YQ r.2.1 r.2.2 (c.run r.2.2).2) (Nat.succ r.2.2) R
  | none=>.bad⟩else noD
 | _,_,_=>noD
theorem QuB{T:Tr Value}{d t:Nat}{v:Value}(h:en (Qg2 (pth d) T) t=some v):t≠d/\en T t=some v:=by
 refine⟨λe=>?_,QfH _ _ _ h⟩;subst e;have h':YP (pth t) t (Qg2 (pth t) T)=some v:=h;rw[Zv]at h';cases h'
theorem SR.del0{ρ:Rho}{T:Tr Value}{L':Qc}{d:Nat}(h:SR ρ (en T) L'):SR ρ (en (Qg2 (pth d) T)) L':=λt v hv=>h t v (QuB hv).2
theorem SR.put1{ρ:Rho}{T:Tr Value}{L':Qc}{dj:Nat}{w u':Value}(h:SR ρ (en T) L')(hj:Qc.get L' dj=some u')(hw:den ρ w=some u'):SR ρ (en (Yr (pth dj) dj w T)) L':=λt x hx=>by
 rcases QkB t x hx with⟨rfl,rfl⟩|⟨h1,h2⟩
 ·grind
 ·exact h t x h2
section
variable{P:Program}{r0:Rho}{w0:World}{CF:CallF}{X:Ctx}{k:List KI}{ops:Array Oper}
theorem Qu2{F:List Nat}{fuel:Nat}{listed:Array Bool}{L:Qc}{As:List HA}{B:World->Prop}{d d' ty ty':Nat}{op op':Op}{pos pos':String}{aft aft':Array Edge}{G G':Type}{V:G->Value}{Fg:G->Prop}{C:G->World->Prop}{V':G'->Value}{Fg':G'->Prop}{C':G'->World->Prop}(i j:Nat)
  (hi:ops[i]?=some ⟨some d,op,ty,pos,aft,none⟩)(hj:ops[j]?=some ⟨some d',op',ty',pos',aft',none⟩)(h:OpH X.P ⟨some d,op,ty,pos,aft,none⟩ L (HS w0 [] As) V Fg C)(h':OpH X.P ⟨some d',op',ty',pos',aft',none⟩ L (HS w0 [] As) V' Fg' C')
  (mi:i∈Region.ready .any ops listed)(mj:j∈Region.ready .any ops listed)(hr:∀q∈Region.ready .any ops listed,q=i\/q=j)(hB:∀w,HS w0 [] As w->B w)(hd:Nat.blt d X.n=true)(hd':Nat.blt d' X.n=true)
  (next:∀g,Fg g->D X ops F B fuel (listed.setIfInBounds i true) k ((d,V g)::L) (C g))(next':∀g,Fg' g->D X ops F B fuel (listed.setIfInBounds j true) k ((d',V' g)::L) (C' g)):D X ops F B (fuel+1) listed k L (HS w0 [] As):=by
 intro hcl a ha;refine⟨λ_=>⟨hB,HS.stab _ _ _⟩,λh0=>(by rw[h0]at mi;cases mi),λq hq=>?_⟩;rcases hr q hq with e|e
 ·subst e;unfold Yp;simp only[hi];rw[if_pos (by simp[Region.wanted])];exact⟨G,V,Fg,C,λw hw=>h a.eval w ha.agr hw,λg hg=>next g hg (hcl.set mi) _ (ha.put d _ hd)⟩
 ·subst e;unfold Yp;simp only[hj];rw[if_pos (by simp[Region.wanted])];exact⟨G',V',Fg',C',λw hw=>h' a.eval w ha.agr hw,λg hg=>next' g hg (hcl.set mj) _ (ha.put d' _ hd')⟩
end
inductive It where
 | one (i:Nat)
 | two (i j:Nat) (ps:List Nat)
inductive SI where
 | one (s:Stp)
 | two (j:Nat) (qs:List PF) (ok:Bool)
noncomputable def QbR(P:Program)(nt:Nat)(ops:Array Oper):List SI->DS
 | []=>⟨λ_ T H n _=>.nm T H n⟩
 | .one s::l=>match ops[s.i]? with
  | some o=>(match o.guard with
   | none=>dOn P nt s o (QbR P nt ops l)
   | some (j,want)=>match(ops[j]?).bind (·.dst)with
    | some dj=>⟨λF T H n R=>match YP (pth dj) dj T with
     | some (.bool b)=>Bool.rec ((Qsj nt s o.dst (QbR P nt ops l)).run F T H n R) ((dOn P nt s o (QbR P nt ops l)).run F T H n R) (b==want)
     | some (.tuple ⟨[]⟩)=>(Qsj nt s o.dst (QbR P nt ops l)).run F T H n R
     | _=>.bad⟩
    | none=>noD)
  | none=>noD
 | .two j qs ok::l=>match ops[j]? with
  | some oj=>dTwo P nt ops qs ok oj (QbR P nt ops l)
  | none=>noD
noncomputable def QvM(M i j:Nat)(rows:List Row):Bool:=Qpw (λr=>Bool.rec (Bool.rec (Bool.rec (Bool.not (Zq r.em M)) true (has M r.i)) true (Nat.beq r.i j)) true (Nat.beq r.i i)) rows
noncomputable def addL(ps:List Nat):Nat->Nat:=List.rec (λM=>M) (λq _ ih M=>ih (XP M q)) ps
noncomputable def QiX(rows:List Row)(F:Option Fin1)(M q:Nat):Bool:=match Qc3 q rows with
 | some r=>Bool.rec (Bool.rec (Bool.rec true false (isF F q)) false (Bool.not (Zq r.need M))) false (has M q)
 | none=>false
noncomputable def QhO(rows:List Row)(M j q:Nat):Bool:=match Qc3 q rows,Qc3 j rows with
 | some rq,some rj=>Bool.not (Nat.beq q j)&&(Bool.not (has M q)&&(Bool.not (has M j)&&(Zq rq.em M&&(Zq rj.em M&&(QvM M q j rows&&(Zq rq.em (XP M j)&&Qkn (XP M j) q rows))))))
 | _,_=>false
noncomputable def QdD(rows:List Row)(F:Option Fin1)(j:Nat)(l:List Nat):Nat->List PF:=List.rec (λ_=>[]) (λq _ ih M=>⟨q,QiX rows F M q&&QiX rows F (XP M j) q,QhO rows M j q⟩::ih (XP M q)) l
noncomputable def QjA(rows:List Row)(M j:Nat):Bool:=match Qc3 j rows with
 | some rj=>Bool.not (has M j)&&(Zq rj.em M&&Qkn M j rows)
 | none=>false
noncomputable def mkF(rows:List Row):List Fin1->Option Fin1->Nat->List It->List SI
 | _,_,_,[]=>[]
 | Fs,F,M,.one i::r=>.one (QdJ rows F M i)::mkF rows (Bool.rec Fs Fs.tail (isF F i)) (Bool.rec F Fs.head? (isF F i)) (XP M i) r
 | Fs,F,M,.two i j ps::r=>.two j (QdD rows F j (i::ps) M) (QjA rows (addL (i::ps) M) j)::mkF rows Fs F (XP (addL ps (XP M i)) j) r
noncomputable def Qqj(M:Nat)(l:List It):Nat:=List.rec (λM=>M) (λx _ ih M=>match x with
 | .one i=>ih (XP M i)
 | .two i j ps=>ih (XP (addL ps (XP M i)) j)) l M
def QgY:List It->Nat
 | []=>0
 | .one _::l=>QgY l+1
 | .two _ _ ps::l=>QgY l+ps.length+2
def Qr1(n:Nat):It->Prop
 | .one i=>i<n
 | .two i j ps=>i<n/\j<n/\∀q∈ps,q<n
theorem Lm.perm{n:Nat}{listed:Array Bool}{M M':Nat}(h:Lm n listed M)(e:∀j,M.testBit j=M'.testBit j):Lm n listed M':=by
 have:=Nat.eq_of_testBit_eq e
 grind
section
variable{ops:List Oper}{fs:List (Nat×Inf)}
theorem Qmv(hf:Qbp ops 0 ops=some fs){F:Option Fin1}{listed:Array Bool}{M q:Nat}(hl:Lm ops.length listed M)(h:QiX (Qw fs fs) F M q=true):QO ⟨ops⟩ listed q=true/\onF (QbW F) q=true:=by
 unfold QiX at h;split at h
 ·rename_i r hr;obtain⟨m1,rfl⟩:=YK hr;cases h1:has M r.i with
  | true=>rw[h1]at h;cases h
  | false=>
   rw[h1]at h;cases h2:Zq r.need M with
   | false=>rw[h2]at h;cases h
   | true=>
    rw[h2]at h;cases h3:isF F r.i with
    | true=>rw[h3]at h;cases h
    | false=>exact⟨QfK hf hl m1 h1 h2,QoT h3⟩
 ·cases h
theorem Qq3(hf:Qbp ops 0 ops=some fs){listed:Array Bool}{M j q:Nat}(hl:Lm ops.length listed M)(h:QhO (Qw fs fs) M j q=true) :
  q∈Region.ready .any ⟨ops⟩ listed/\j∈Region.ready .any ⟨ops⟩ listed/\∀p∈Region.ready .any ⟨ops⟩ listed,p=q\/p=j:=by
 unfold QhO at h;split at h
 ·rename_i ri rj h1 h2;obtain⟨m1,rfl⟩:=YK h1;obtain⟨m2,rfl⟩:=YK h2;simp only[Bool.and_eq_true,Bool.not_eq_true']at h;obtain⟨a1,a2,a3,a4,a5,a8,_,_⟩:=h;obtain⟨oi,fi,e1,e2,e3,_,_⟩:=Qcc hf m1;obtain⟨oj,fj,g1,g2,g3,_,_⟩:=Qcc hf m2;rw[QaK]at a2 a3;refine⟨QdF hl e1 e2 a2 (by rw[<-e3];exact a4),QdF hl g1 g2 a3 (by rw[<-g3];exact a5),λq hq=>?_⟩;obtain⟨k1,o,k2,k3⟩:=mem_ready.1 hq;have k2':ops[q]?=some o:=by simpa using k2
  obtain⟨f,l1,l2⟩:=Qb4 hf q o k2';rw[Nat.zero_add]at l2;have l3:=QgC a8 _ (Qdu (fs:=fs) l2);simp only[]at l3;cases hb:Nat.beq q ri.i with
  | true=>exact .inl (Nat.eq_of_beq_eq_true hb)
  | false=>
   rw[hb]at l3;cases hb2:Nat.beq q rj.i with
   | true=>exact .inr (Nat.eq_of_beq_eq_true hb2)
   | false=>
    rw[hb2]at l3;have hql:q<ops.length:=by grind
    rw[hl.get hql]at k1;rw[QaK,k1]at l3
    grind[Zq,Qgi]
 ·cases h
theorem Qt8(hf:Qbp ops 0 ops=some fs){listed:Array Bool}{M j q:Nat}(hl:Lm ops.length listed (XP M j))(h:QhO (Qw fs fs) M j q=true):(Region.ready .any ⟨ops⟩ listed==[q])=true:=by
 unfold QhO at h;split at h
 ·rename_i ri rj h1 h2;obtain⟨m1,rfl⟩:=YK h1;obtain⟨m2,rfl⟩:=YK h2;simp only[Bool.and_eq_true,Bool.not_eq_true']at h;obtain⟨a1,a2,a3,a4,a5,a8,a7,a10⟩:=h;have hne:ri.i≠rj.i:=λe=>by rw[e,Nat.beq_refl]at a1;cases a1
  refine Qdj hf hl m1 ?_ a7 a10
  grind[QaK,Qaf]
 ·cases h
theorem Qn1(hf:Qbp ops 0 ops=some fs){listed:Array Bool}{M j:Nat}(hl:Lm ops.length listed M)(h:QjA (Qw fs fs) M j=true):(Region.ready .any ⟨ops⟩ listed==[j])=true:=by
 unfold QjA at h;split at h
 ·rename_i rj h2;obtain⟨m2,rfl⟩:=YK h2;simp only[Bool.and_eq_true,Bool.not_eq_true']at h;exact Qdj hf hl m2 h.1 h.2.1 h.2.2
 ·cases h
end
section
variable{P:Program}{r0:Rho}{w0:World}{CF:CallF}{X:Ctx}{k:List KI}{ops:List Oper}{fs:List (Nat×Inf)}
theorem QhH{T:Tr Value}{d dj:Nat}{v:Value}(h:en T dj=none)(hd:d≠dj):en (Yr (pth d) d v T) dj=none:=by
 cases e:en (Yr (pth d) d v T) dj with
 | none=>rfl
 | some x=>
  rcases QkB _ _ e with⟨e1,_⟩|⟨_,e2⟩
  ·exact absurd e1.symm hd
  ·rw[h]at e2;cases e2
theorem SR.past{ρ:Rho}{T:Tr Value}{L':Qc}{d:Nat}(h:SR ρ (en T) L')(hn:en T d=none)(u:Value):SR ρ (en T) ((d,u)::L'):=λt v hv=>by
 have hne:t≠d:=λe=>by subst e;rw[hn]at hv;cases hv
 obtain⟨u',h3,h4⟩:=h t v hv
 grind[Qc.get,QeF]
theorem Ql8(hF:∀r,CallOk P r CF)(hP:X.P=P)(hf:Qbp ops 0 ops=some fs){F:Option Fin1}{j dj fuel Mf:Nat}{T2:Tr Value}{H2:Hp}{n2:Nat}{R:List Nat}{B:List (Nat×HX)}{Bs:List HA}{ρb:Rho}{A:HA}{u:Value}(hR:Qx (ha ρb) B=some Bs)
  (fin:∀(listed:Array Bool)(ρ2:Rho)(L2:Qc)(As2:List HA),Lm ops.length listed Mf->(ρb.wx (A::ρb.ex)).le ρ2->QQ ρ2 n2->SR ρ2 (en T2) L2->Qc.get L2 dj=some u->HM ρ2 H2 As2->Xz H2 R B->D X ⟨ops⟩ (QbW F) (HS w0 [] (Bs++ρb.ex)) fuel listed k L2 (HS w0 [] As2)) :
  ∀(l:List Nat)(M:Nat)(listed:Array Bool)(T:Tr Value)(H:Hp)(n:Nat)(ρ:Rho)(L':Qc)(As:List HA),Lm ops.length listed (XP M j)->(∀q∈l,q<ops.length)->(∀b,(XP (addL l M) j).testBit b=Mf.testBit b)->(cQs P X.n dj ⟨ops⟩ (QdD (Qw fs fs) F j l M)).run CF T H n R=some (T2,H2,n2) ->
  (ρb.wx (A::ρb.ex)).le ρ->SR ρ (en T) L'->Qc.get L' dj=some u->HM ρ H As->QQ ρ n->Xz H R B->D X ⟨ops⟩ (QbW F) (HS w0 [] (Bs++ρb.ex)) (fuel+l.length) listed k L' (HS w0 [] As)
 | [],M,listed,T,H,n,ρ,L',As,hl,_,he,h,hle,hs,hj,hp,hfr,hB=>by
  injection h with h
  injection h with h1 h
  injection h with h2 h3
  subst h1 h2 h3;exact fin listed ρ L' As (hl.perm he) hle hfr hs hj hp hB
 | q::l,M,listed,T,H,n,ρ,L',As,hl,hq,he,h,hle,hs,hj,hp,hfr,hB=>by
  have hql:=hq q (List.mem_cons_self ..)
  have hl2:Lm ops.length (listed.setIfInBounds q true) (XP (XP M q) j):=(hl.set hql).perm λb=>by
   simp only[Qaf];cases M.testBit b<;>cases decide (q=b)<;>cases decide (j=b)<;>rfl
  have rec_:∀(T':Tr Value)(H':Hp)(n':Nat)(ρ':Rho)(L2:Qc)(As':List HA),_:=λT' H' n' ρ' L2 As'=>Ql8 hF hP hf hR fin l (XP M q) (listed.setIfInBounds q true) T' H' n' ρ' L2 As' hl2 (λp hp=>hq p (List.mem_cons_of_mem _ hp)) he;have hu:QdD (Qw fs fs) F j (q::l) M=⟨q,QiX (Qw fs fs) F M q&&QiX (Qw fs fs) F (XP M j) q,QhO (Qw fs fs) M j q⟩::QdD (Qw fs fs) F j l (XP M q):=rfl;rw[hu]at h
  have hbase:∀w,HS w0 [] As w->HS w0 [] (Bs++ρb.ex) w:=λw hw=>by
   have h1:=Qbt (w0:=w0) hle hp (show Qx (ha (ρb.wx (A::ρb.ex))) B=some Bs from hR) hB w hw;exact(h1.perm (show(Bs++(A::ρb.ex)).Perm (A::(Bs++ρb.ex))from List.perm_middle)).tail
  simp only[cQs]at h;split at h
  ·rename_i d op ty pos aft ho;cases hc:Nat.blt d X.n&&Bool.not (Nat.beq d dj)with
   | false=>rw[hc]at h;cases h
   | true=>
    rw[hc]at h;simp only[cond_true]at h;simp only[Bool.and_eq_true,Bool.not_eq_true']at hc;have hne:d≠dj:=λe=>by rw[e,Nat.beq_refl]at hc;cases hc.2
    have Yc:∀x:Value,Qc.get ((d,x)::L') dj=some u:=λx=>by
     simp only[Qc.get,QeF (Ne.symm hne),cond_false];exact hj
    have hcm:=QcF P op CF trivial T H n
    have mk:∀(v:Value)(H':Hp)(n':Nat),Xq P (en T) H n CF op=some (.h v H' n')->QhO (Qw fs fs) M j q=true->Xz H' R B->(cQs P X.n dj ⟨ops⟩ (QdD (Qw fs fs) F j l (XP M q))).run CF (Yr (pth d) d v T) H' n' R=some (T2,H2,n2)->D X ⟨ops⟩ (QbW F) (HS w0 [] (Bs++ρb.ex)) (fuel+(q::l).length) listed k L' (HS w0 [] As):=λv H' n' hev hok hB' hrun=>by
     have ha1:=ZX (w0:=w0) (L':=L') (o:=⟨some d,op,ty,pos,aft,none⟩) (hF ρ) ρ.le_refl rfl hs hp hfr hev;have hH1:=OpT.got ha1;rw[<-hP]at hH1;refine d_h (fuel:=fuel+l.length) q ho hH1 (Qt8 hf hl hok) hbase hc.1 ?_;rintro⟨⟨ρ',As',u1⟩,g1,g2,g3,g4⟩ _;exact rec_ _ H' n' ρ' ((d,u1)::L') As' hrun (Rho.le_trans hle g1) ((hs.mono g1).set g3) (Yc _) g4 g2 hB'
    split at h
    ·rename_i v hr;rw[hr]at hcm;obtain⟨hok,h⟩:=bif_in h;simp only[Bool.and_eq_true]at hok;obtain⟨u1,e1,e2⟩:=ZX (w0:=w0) (L':=L') (o:=⟨some d,op,ty,pos,aft,none⟩) (hF ρ) ρ.le_refl rfl hs hp hfr hcm;rw[<-hP]at e1;have h9:=Qmv hf hl hok.2;refine d_p (fuel:=fuel+l.length) q ho e1 h9.1 h9.2 hc.1 ?_;exact rec_ _ H n ρ ((d,u1)::L') As h hle (hs.set e2) (Yc _) hp hfr hB
    ·rename_i v y hr;rw[hr]at hcm;obtain⟨hok,h⟩:=bif_in h;exact mk v (YQ H n y) (n+1) hcm hok (Z2 hp hfr hB) h
    ·rename_i v H' n' hr;rw[hr]at hcm;obtain⟨hok,h⟩:=bif_in h;simp only[Bool.and_eq_true]at hok;exact mk v H' n' hcm hok.1 (hB.stay (QcA hok.2)) h
    ·cases h
  ·cases h
theorem QmA(hF:∀r,CallOk P r CF)(hP:X.P=P)(hf:Qbp ops 0 ops=some fs){F:Option Fin1}{j dj fuel Mf:Nat}{T2:Tr Value}{H2:Hp}{n2:Nat}{R:List Nat}{B:List (Nat×HX)}{Bs:List HA}{ρb:Rho}{opj:Op}{tyj:TypeId}{posj:String}{aftj:Array Edge}{c:Clo (Nat->Value×HX)}
  (hjo:(⟨ops⟩:Array Oper)[j]?=some ⟨some dj,opj,tyj,posj,aftj,none⟩)(hnc:QrU P opj=some c)(hdj:Nat.blt dj X.n=true)(hjl:j<ops.length)(hR:Qx (ha ρb) B=some Bs)
  (fin:∀(listed:Array Bool)(ρ2:Rho)(L2:Qc)(As2:List HA),Lm ops.length listed Mf->ρb.le ρ2->QQ ρ2 (n2+1)->SR ρ2 (en (Yr (pth dj) dj (c.run n2).1 T2)) L2->HM ρ2 (YQ H2 n2 (c.run n2).2) As2->Xz (YQ H2 n2 (c.run n2).2) R B->D X ⟨ops⟩ (QbW F) (HS w0 [] (Bs++ρb.ex)) fuel listed k L2 (HS w0 [] As2)) :
  ∀(l:List Nat)(M:Nat)(listed:Array Bool)(T:Tr Value)(H:Hp)(n:Nat)(ρ:Rho)(L':Qc)(As:List HA),Lm ops.length listed M->(∀q∈l,q<ops.length)->(∀b,(XP (addL l M) j).testBit b=Mf.testBit b)->QjA (Qw fs fs) (addL l M) j=true->(cQs P X.n dj ⟨ops⟩ (QdD (Qw fs fs) F j l M)).run CF T H n R=some (T2,H2,n2) ->
  ρb.le ρ->SR ρ (en T) L'->en T dj=none->HM ρ H As->QQ ρ n->Xz H R B->D X ⟨ops⟩ (QbW F) (HS w0 [] (Bs++ρb.ex)) (fuel+l.length+1) listed k L' (HS w0 [] As)
 | [],M,listed,T,H,n,ρ,L',As,hl,_,he,hend,h,hle,hs,hn,hp,hfr,hB=>by
  injection h with h
  injection h with h1 h
  injection h with h2 h3
  subst h1 h2 h3;obtain⟨G2,V2,Fg2,A2,hO2,hK2⟩:=Qmz (o:=⟨some dj,opj,tyj,posj,aftj,none⟩) rfl hnc L' w0 As;rw[<-hP]at hO2;refine d_h (fuel:=fuel) j hjo hO2 (Qn1 hf hl hend) (Qbt (w0:=w0) hle hp hR hB) hdj λg hg=>?_;obtain⟨x,hx⟩:=hK2 g hg;obtain⟨e1,e2⟩:=hx ρ n;have hle2:=Qfy hfr x;exact fin _ (ext ρ n x) ((dj,V2 g)::L') (A2 g::As) ((hl.set hjl).perm he) (Rho.le_trans hle hle2) (Qa6 hfr x) ((hs.mono hle2).set e1) ((HM.mono hle2 hp).push e2) (Z2 hp hfr hB)
 | q::l,M,listed,T,H,n,ρ,L',As,hl,hq,he,hend,h,hle,hs,hn,hp,hfr,hB=>by
  have hql:=hq q (List.mem_cons_self ..);have rec_:∀(T':Tr Value)(H':Hp)(n':Nat)(ρ':Rho)(L2:Qc)(As':List HA),_:=λT' H' n' ρ' L2 As'=>QmA hF hP hf hjo hnc hdj hjl hR fin l (XP M q) (listed.setIfInBounds q true) T' H' n' ρ' L2 As' (hl.set hql) (λp hp=>hq p (List.mem_cons_of_mem _ hp)) he hend;have hrun0:=h;have hu:QdD (Qw fs fs) F j (q::l) M=⟨q,QiX (Qw fs fs) F M q&&QiX (Qw fs fs) F (XP M j) q,QhO (Qw fs fs) M j q⟩::QdD (Qw fs fs) F j l (XP M q):=rfl;rw[hu]at h;have hbase:=Qbt (w0:=w0) hle hp hR hB;simp only[cQs]at h;split at h
  ·rename_i d op ty pos aft ho;cases hc:Nat.blt d X.n&&Bool.not (Nat.beq d dj)with
   | false=>rw[hc]at h;cases h
   | true=>
    rw[hc]at h;simp only[cond_true]at h;simp only[Bool.and_eq_true,Bool.not_eq_true']at hc;have hne:d≠dj:=λe=>by rw[e,Nat.beq_refl]at hc;cases hc.2
    have hcm:=QcF P op CF trivial T H n
    have mk:∀(v:Value)(H':Hp)(n':Nat),Xq P (en T) H n CF op=some (.h v H' n')->QhO (Qw fs fs) M j q=true->Xz H' R B->(cQs P X.n dj ⟨ops⟩ (QdD (Qw fs fs) F j l (XP M q))).run CF (Yr (pth d) d v T) H' n' R=some (T2,H2,n2)->D X ⟨ops⟩ (QbW F) (HS w0 [] (Bs++ρb.ex)) (fuel+(q::l).length+1) listed k L' (HS w0 [] As):=λv H' n' hev hok hB' hrun=>by
     have ha1:=ZX (w0:=w0) (L':=L') (o:=⟨some d,op,ty,pos,aft,none⟩) (hF ρ) ρ.le_refl rfl hs hp hfr hev;have hH1:=OpT.got ha1;rw[<-hP]at hH1;obtain⟨G,V,Fg,A,hO,hK⟩:=Qmz (o:=⟨some dj,opj,tyj,posj,aftj,none⟩) rfl hnc L' w0 As;rw[<-hP]at hO;obtain⟨mq,mj,hr⟩:=Qq3 hf hl hok;refine Qu2 (fuel:=fuel+(q::l).length) q j ho hjo hH1 hO mq mj hr hbase hc.1 hdj ?_ ?_
     ·rintro⟨⟨ρ',As',u1⟩,g1,g2,g3,g4⟩ _;have:=rec_ _ H' n' ρ' ((d,u1)::L') As' hrun (Rho.le_trans hle g1) ((hs.mono g1).set g3) (QhH hn hne) g4 g2 hB';exact this
     ·intro g hg;obtain⟨x,hx⟩:=hK g hg;obtain⟨G0,Bs0,f1,f2,f3⟩:=hp;have hp1':HM (ρ.wx (A g::ρ.ex)) H (Bs0++(A g::ρ.ex)):=⟨G0,Bs0,f1,f2,rfl⟩
      have hperm:(A g::As).Perm (Bs0++(A g::ρ.ex)):=by
       rw[f3];exact List.perm_middle.symm
      refine Qlr (C':=HS w0 [] (Bs0++(A g::ρ.ex))) (λw hw=>hw.perm hperm) (HS.stab _ _ _) ?_;have hexb:ρ.ex=ρb.ex:=hle.2;have hleb:(ρb.wx (A g::ρb.ex)).le (ρ.wx (A g::ρ.ex)):=⟨hle.1,by show A g::ρ.ex=A g::ρb.ex;rw[hexb]⟩;refine Ql8 (T2:=T2) (H2:=H2) (n2:=n2) (R:=R) (B:=B) (ρb:=ρb) (A:=A g) (u:=V g) (dj:=dj) (F:=F) (fuel:=fuel) (Mf:=Mf) hF hP hf hR ?_ (q::l) M _ T H n (ρ.wx (A g::ρ.ex)) ((dj,V g)::L') _ (hl.set hjl) hq he hrun0 hleb ((hs.past hn (V g)).wx (A g::ρ.ex)) (by simp only[Qc.get,Nat.beq_refl,cond_true]) hp1' (show QQ (ρ.wx (A g::ρ.ex)) n from hfr) hB;intro listed2 ρ2 L2 As2 hl2 hle2 hfr2 hsr2 hg2 hp2 hB2;obtain⟨G1,Bs1,k1,k2,k3⟩:=hp2;have hex:ρ2.ex=A g::ρb.ex:=hle2.2;have hle0:ρb.le (ρ2.wx ρb.ex):=⟨hle2.1,rfl⟩;have g2':QQ (ρ2.wx ρb.ex) n2:=hfr2;have hle3:=Qfy g2' x;obtain⟨e1,e2⟩:=hx (ρ2.wx ρb.ex) n2
      have hperm2:As2.Perm (A g::(Bs1++ρb.ex)):=by
       rw[show As2=Bs1++ρ2.ex from k3,hex];exact List.perm_middle
      refine Qlr (C':=HS w0 [] (A g::(Bs1++ρb.ex))) (λw hw=>hw.perm hperm2) (HS.stab _ _ _) ?_;have hM:HM (ρ2.wx ρb.ex) H2 (Bs1++ρb.ex):=⟨G1,Bs1,k1,k2,rfl⟩;have q3:SR (ρ2.wx ρb.ex) (en T2) L2:=hsr2;exact fin listed2 (ext (ρ2.wx ρb.ex) n2 x) L2 (A g::(Bs1++ρb.ex)) hl2 (Rho.le_trans hle0 hle3) (Qa6 g2' x) ((q3.mono hle3).put1 hg2 e1) ((HM.mono hle3 hM).push e2) (Z2 hM g2' hB2)
    split at h
    ·rename_i v hr;rw[hr]at hcm;obtain⟨hok,h⟩:=bif_in h;simp only[Bool.and_eq_true]at hok;obtain⟨u1,e1,e2⟩:=ZX (w0:=w0) (L':=L') (o:=⟨some d,op,ty,pos,aft,none⟩) (hF ρ) ρ.le_refl rfl hs hp hfr hcm;rw[<-hP]at e1;have h9:=Qmv hf hl hok.1;refine d_p (fuel:=fuel+(q::l).length) q ho e1 h9.1 h9.2 hc.1 ?_;exact rec_ _ H n ρ ((d,u1)::L') As h hle (hs.set e2) (QhH hn hne) hp hfr hB
    ·rename_i v y hr;rw[hr]at hcm;obtain⟨hok,h⟩:=bif_in h;exact mk v (YQ H n y) (n+1) hcm hok (Z2 hp hfr hB) h
    ·rename_i v H' n' hr;rw[hr]at hcm;obtain⟨hok,h⟩:=bif_in h;simp only[Bool.and_eq_true]at hok;exact mk v H' n' hcm hok.1 (hB.stay (QcA hok.2)) h
    ·cases h
  ·cases h
end
section
variable{P:Program}{r0:Rho}{w0:World}{CF:CallF}{X:Ctx}{k:List KI}{ops:Array Oper}
theorem Qlu{i:Nat}{dst:Option Nat}{op:Op}{ty:TypeId}{pos:String}{aft:Array Edge}{rest:DS}{Fs:List (List Nat)}{F:List Nat}{listed:Array Bool}{fuel:Nat}{s:Stp}
  (hsP:s.okP=true->(QO ops listed i&&onF F i)=true)(hsH:s.okH=true->(Region.ready .any ops listed==[i])=true)(hsT:s.turn.isSome=F.contains i)
  (ih:Qlo P r0 w0 CF X k ops rest (if F.contains i then Fs.headD []else F) fuel (listed.setIfInBounds i true))
  {j dj:Nat}{want:Bool}{u:Value}(ho:ops[i]?=some ⟨dst,op,ty,pos,aft,some (j,want)⟩)(hj:(ops[j]?).bind (·.dst)=some dj){T:Tr Value}{H:Hp}{n:Nat}{R:List Nat}{B:List (Nat×HX)}{ρ:Rho}{L':Qc}{As Bs:List HA}(hb:Qc.get L' dj=some u)(hw:u=.bool (!want)\/u=undef)
  (ht:Q9 r0 w0 ρ X k ((Qsj X.n s dst rest).run CF T H n R))(hs:StOk r0 w0 ρ ⟨T,H,n⟩ L' As)(hR:Qx (ha ρ) B=some Bs)(hB:Xz H R B):D X ops F (HS w0 [] (Bs++ρ.ex)) (fuel+1) listed k L' (HS w0 [] As):=by
 unfold Qsj at ht;split at ht
 ·rename_i d;cases hlt:Nat.blt d X.n with
  | false=>rw[hlt]at ht;exact ht.elim
  | true=>
   rw[hlt]at ht;simp only[cond_true]at ht;split at ht
   ·rename_i hok;replace hok:=hsP hok;rw[Bool.and_eq_true]at hok;have hfi:=Qmr hok.2;simp only[hfi,Bool.false_eq_true,if_false]at ih;have next:D X ops F (HS w0 [] (Bs++ρ.ex)) fuel (listed.setIfInBounds i true) k ((d,undef)::L') (HS w0 [] As):=ih _ H n R B ρ _ As Bs ht ⟨hs.le,hs.sr.set QcI,hs.hp,hs.fr⟩ hR hB
    rcases hw with hw|hw
    ·subst hw;exact QsI i dj ho hj hb rfl hok.1 hok.2 hlt next
    ·subst hw;exact QqH i dj ho hj hb hok.1 hok.2 hlt next
   ·split at ht
    ·rename_i y hr hturn
     have hfi:F.contains i=true:=by
      cases hfi:F.contains i with
      | true=>rfl
      | false=>rw[hturn,hfi]at hsT;cases hsT
     replace hr:=hsH hr;simp only[hfi,if_true]at ih;refine QuM dj ho hj hb hw hr (Qbt (w0:=w0) ρ.le_refl hs.hp hR hB) hlt ?_;refine QlU (B':=HS w0 [] ([]++ρ.ex)) (F':=Fs.headD []) ⟨i,by simpa using hfi,Qhm hr⟩ ?_;exact ih _ H n [] [] ρ _ As [] ht ⟨hs.le,hs.sr.set QcI,hs.hp,hs.fr⟩ rfl trivial
    ·exact ht.elim
 ·exact ht.elim
end
section
variable{P:Program}{r0:Rho}{w0:World}{CF:CallF}{X:Ctx}{k:List KI}{ops:List Oper}{fs:List (Nat×Inf)}
theorem QdW(hF:CallOk P r0 CF)(hP:X.P=P)(hf:Qbp ops 0 ops=some fs):∀(order:List It)(Fs:List Fin1)(F:Option Fin1)(listed:Array Bool)(M:Nat),Lm ops.length listed M->(∀x∈order,Qr1 ops.length x)->Qqj M order=2^ops.length-1->(∀f,F=some f->Qhx fs f)->(∀f∈Fs,Qhx fs f)->Qlo P r0 w0 CF X k ⟨ops⟩ (QbR P X.n ⟨ops⟩ (mkF (Qw fs fs) Fs F M order)) (QbW F) (QgY order) listed
 | [],Fs,F,listed,M,hl,_,he,_,_=>λT H n R B ρ L' As Bs ht hs hR hB=>by
  have he':M=2^ops.length-1:=he;subst he';exact QsG (Qrm hl) (Qbt ρ.le_refl hs.hp hR hB) (ht ρ L' As ρ.le_refl hs)
 | .two i j ps::order,Fs,F,listed,M,hl,hlt,he,hFo,hFs=>by
  intro T H n R B ρ L' As Bs ht hs hR hB;obtain⟨hi,hj,hps⟩:=hlt _ (List.mem_cons_self ..);have he':Qqj (XP (addL (i::ps) M) j) order=2^ops.length-1:=he;simp only[mkF,QbR]at ht;split at ht
  ·rename_i oj e2;obtain⟨dstj,opj,tyj,posj,aftj,gj⟩:=oj;unfold dTwo at ht;simp only[]at ht;split at ht
   ·rename_i dj c hnc;cases hc:QjA (Qw fs fs) (addL (i::ps) M) j&&Nat.blt dj X.n with
    | false=>rw[hc]at ht;exact ht.elim
    | true=>
     rw[hc]at ht;simp only[cond_true]at ht;simp only[Bool.and_eq_true]at hc;split at ht
     ·rename_i r hr;obtain⟨T2,H2,n2⟩:=r;have hF0:∀r,CallOk P r ⟨CF.f,CF.e,noY⟩:=λr=>⟨hF.f,hF.e,Qdy⟩;have hlen:QgY (.two i j ps::order)=QgY order+(i::ps).length+1:=by simp only[QgY,List.length_cons];omega
      rw[hlen];have QfF:en (Qg2 (pth dj) T) dj=none:=Zv _ _ _
      refine QmA (fuel:=QgY order) (Mf:=XP (addL (i::ps) M) j) (ρb:=ρ) hF0 hP hf e2 hnc hc.2 hj hR ?_ (i::ps) M listed (Qg2 (pth dj) T) H n ρ L' As hl (λq hq=>by
       rcases List.mem_cons.1 hq with rfl|hq
       ·exact hi
       ·exact hps q hq) (λ_=>rfl) hc.1 hr ρ.le_refl hs.sr.del0 QfF hs.hp hs.fr hB
      intro listed2 ρ2 L2 As2 hl2 hle2 hfr2 hsr2 hp2 hB2;have:=QdW hF hP hf order Fs F listed2 _ hl2 (λx hx=>hlt x (List.mem_cons_of_mem _ hx)) he' hFo hFs _ _ _ R B ρ2 L2 As2 Bs (ht.mono hle2) ⟨Rho.le_trans hs.le hle2,hsr2,hp2,hfr2⟩ (Xv (λ_ _=>Qfh hle2 _ _) hR) hB2;rw[hle2.2]at this;exact this
     ·exact ht.elim
   ·exact ht.elim
  ·exact ht.elim
 | .one i::order,Fs,F,listed,M,hl,hlt,he,hFo,hFs=>by
  intro T H n R B ρ L' As Bs ht hs hR hB;have hi:i<ops.length:=hlt _ (List.mem_cons_self ..);have he':Qqj (XP M i) order=2^ops.length-1:=he
  have ih:Qlo P r0 w0 CF X k ⟨ops⟩ (QbR P X.n ⟨ops⟩ (mkF (Qw fs fs) (Bool.rec Fs Fs.tail (isF F i)) (Bool.rec F Fs.head? (isF F i)) (XP M i) order)) (if(QbW F).contains i then((Fs.map λf=>[f.i]).headD [])else QbW F) (QgY order) (listed.setIfInBounds i true):=by
   rw[QdQ];cases hc:isF F i with
   | false=>exact QdW hF hP hf order Fs F _ _ (hl.set hi) (λj hj=>hlt j (List.mem_cons_of_mem _ hj)) he' hFo hFs
   | true=>
    have:=QdW hF hP hf order Fs.tail Fs.head? _ _ (hl.set hi) (λj hj=>hlt j (List.mem_cons_of_mem _ hj)) he' (λf e=>hFs f (List.mem_of_mem_head? (by rw[e];rfl))) (λf e=>hFs f (List.mem_of_mem_tail e));cases Fs with
    | nil=>exact this
    | cons f Fs=>exact this
  obtain⟨s1,s2,s3,s4⟩:=QnY (i:=i) hf hl hFo
  have s5:(QdJ (Qw fs fs) F M i).turn.isSome=(QbW F).contains i:=by
   rw[QkM,QdQ];cases isF F i<;>rfl
  simp only[mkF,QbR,s4]at ht;split at ht
  ·rename_i o ho;obtain⟨dst,op,ty,pos,aft,guard⟩:=o;cases guard with
   | none=>exact Qqs (Fs:=Fs.map λf=>[f.i]) hF hP s1 s2 s3 s5 ih ho ht hs hR hB (.inl rfl)
   | some jw=>
    obtain⟨j,want⟩:=jw;simp only[]at ht;split at ht
    ·rename_i dj hj;simp only[]at ht;split at ht
     ·rename_i b hb;obtain⟨u,e1,e2⟩:=hs.sr.get (show en T dj=_ from hb);injection e2 with e2
      subst e2;cases hw:b==want with
      | true=>
       rw[hw]at ht;exact Qqs (Fs:=Fs.map λf=>[f.i]) hF hP s1 s2 s3 s5 ih ho ht hs hR hB (.inr ⟨j,want,dj,b,rfl,hj,e1,by simpa using hw⟩)
      | false=>
       rw[hw]at ht;exact Qlu (Fs:=Fs.map λf=>[f.i]) s1 s3 s5 ih ho hj e1 (.inl (by cases b<;>cases want<;>simp_all)) ht hs hR hB
     ·rename_i hb;obtain⟨u,e1,e2⟩:=hs.sr.get (show en T dj=_ from hb);injection e2 with e2
      subst e2;exact Qlu (Fs:=Fs.map λf=>[f.i]) s1 s3 s5 ih ho hj e1 (.inr rfl) ht hs hR hB
     ·exact ht.elim
    ·exact ht.elim
  ·exact ht.elim
end
end Ev
namespace Ev
open Go Go.RowKit
def QpR(P:Program)(Z:FuncId->Bool):Op->Bool
 | .alloc _=>true
 | .box _ _=>true
 | .store _ _ _=>true
 | .buildSlice _ _ _=>true
 | .makeSlice _ _ _=>true
 | .makeMap _ _=>true
 | .mapUpdate _ _ _ _=>true
 | .convert _ dst _=>match P.underlying dst with
  | some (.slice _)=>true
  | _=>false
 | .call ⟨.value (.func g),_,_⟩=>QJ P g&& !Z g
 | .call ⟨.value _,_,_⟩=>true
 | .call ⟨.builtin b,_,_⟩=>match b with
  | .append=>true
  | .copy=>true
  | .clear=>true
  | _=>false
 | _=>false
def isQ:Op->Bool
 | .load _ _=>true
 | .lookup _ _ _ _=>true
 | .convert _ _ _=>true
 | .call ⟨.value _,_,_⟩=>true
 | _=>false
noncomputable def at'(ops:List Oper)(i:Nat):Option Oper:=List.rec (λ_=>none) (λo _ ih i=>Nat.rec (some o) (λj _=>ih j) i) ops i
noncomputable def QvG(P:Program)(Z:FuncId->Bool)(ops:List Oper)(M:Nat)(rows:List Row):Option Nat:=List.rec none (λr _ ih=>Bool.rec (Bool.rec ih (match at' ops r.i with
 | some o=>Bool.rec (some r.i) ih (QpR P Z o.op||isQ o.op)
 | none=>ih) (Zq r.need M)) ih (has M r.i)) rows
noncomputable def QvC(P:Program)(Z:FuncId->Bool)(ops:List Oper)(M:Nat)(rows:List Row):Option Nat:=List.rec none (λr _ ih=>Bool.rec (Bool.rec ih (match at' ops r.i with
 | some o=>Bool.rec (some r.i) ih (QpR P Z o.op)
 | none=>ih) (Zq r.need M)) ih (has M r.i)) rows
noncomputable def QsM(P:Program)(Z:FuncId->Bool)(ops:List Oper)(M:Nat)(rows:List Row):Option Nat:=match QvG P Z ops M rows with
 | some i=>some i
 | none=>QvC P Z ops M rows
noncomputable def Quk(M:Nat)(rows:List Row):Option Nat:=List.rec none (λr _ ih=>Bool.rec (Bool.rec ih (some r.i) (Zq r.em M)) ih (has M r.i)) rows
def isNw:Op->Bool
 | .makeMap _ none=>true
 | .alloc _=>true
 | _=>false
noncomputable def Quv(M j:Nat)(rows:List Row):Option Nat:=List.rec none (λr _ ih=>Bool.rec (Bool.rec (Bool.rec ih (some r.i) (Zq r.em M)) ih (has M r.i)) ih (Nat.beq r.i j)) rows
noncomputable def psR(P:Program)(Z:FuncId->Bool)(ops:List Oper)(rows:List Row)(j:Nat)(f:Nat):Nat->List Nat:=Nat.rec (λ_=>[]) (λ_ ih M=>match QsM P Z ops M rows with
 | some i=>i::ih (XP M i)
 | none=>(match Quv M j rows with
  | some i=>i::ih (XP M i)
  | none=>[])) f
noncomputable def Qvm(P:Program)(Z:FuncId->Bool)(ops:List Oper)(allr:List Row)(M i:Nat)(ni:Bool)(rows:List Row):Option It:=List.rec none (λr _ ih=>Bool.rec (Bool.rec (Bool.rec ih (match at' ops r.i with
 | some o=>Bool.rec (Bool.rec ih (some (.two r.i i (psR P Z ops allr i ops.length (XP M r.i)))) ni) (some (.two i r.i (psR P Z ops allr r.i ops.length (XP M i)))) (isNw o.op)
 | none=>ih) (Zq r.em M)) ih (has M r.i)) ih (Nat.beq r.i i)) rows
noncomputable def makR(P:Program)(Z:FuncId->Bool)(ops:List Oper)(rows:List Row)(M i:Nat):It:=Bool.rec (match at' ops i with
 | some o=>(match Qvm P Z ops rows M i (isNw o.op) rows with
  | some x=>x
  | none=>.one i)
 | none=>.one i) (.one i) (Qkn M i rows)
noncomputable def addI(M:Nat):It->Nat
 | .one i=>XP M i
 | .two i j ps=>XP (addL ps (XP M i)) j
noncomputable def Qe5(P:Program)(Z:FuncId->Bool)(ops:List Oper)(rows:List Row)(f:Nat):Nat->List It:=Nat.rec (λ_=>[]) (λ_ ih M=>match QsM P Z ops M rows with
 | some i=>.one i::ih (XP M i)
 | none=>(match Quk M rows with
  | some i=>makR P Z ops rows M i::ih (addI M (makR P Z ops rows M i))
  | none=>[])) f
noncomputable def QkC(tm:Nat)(qs:List Nat):Bool:=List.rec true (λq _ ih=>Bool.rec false ih (has tm q)) qs
noncomputable def Qf1(P:Program)(Z:FuncId->Bool)(ops:List Oper)(fs:List (Nat×Inf))(rows:List Row)(order:List It):List Nat->List Fin1:=List.rec (λ_=>[]) (λx _ ih qs=>match x with
 | .two _ _ _=>ih qs
 | .one i=>match at' ops i,Qc3 i rows with
 | some o,some r=>Bool.rec (ih (Bool.rec qs (i::qs) (isQ o.op))) (Bool.rec (ih (Bool.rec qs (i::qs) (isQ o.op))) (⟨i,Qe3 fs r.em⟩::ih []) (QkC (Qe3 fs r.em) qs)) (QpR P Z o.op)
 | _,_=>ih qs) order
theorem Qa3{P:Program}{Z:FuncId->Bool}{ops:List Oper}{fs:List (Nat×Inf)}:∀(order:List It)(qs:List Nat),∀f∈Qf1 P Z ops fs (Qw fs fs) order qs,Qhx fs f
 | [],qs,f,h=>by cases h
 | .two _ _ _::order,qs,f,h=>Qa3 order qs f h
 | .one i::order,qs,f,h=>by
  have hu:Qf1 P Z ops fs (Qw fs fs) (.one i::order) qs=(match at' ops i,Qc3 i (Qw fs fs)with
   | some o,some r=>Bool.rec (Qf1 P Z ops fs (Qw fs fs) order (Bool.rec qs (i::qs) (isQ o.op))) (Bool.rec (Qf1 P Z ops fs (Qw fs fs) order (Bool.rec qs (i::qs) (isQ o.op))) (⟨i,Qe3 fs r.em⟩::Qf1 P Z ops fs (Qw fs fs) order []) (QkC (Qe3 fs r.em) qs)) (QpR P Z o.op)
   | _,_=>Qf1 P Z ops fs (Qw fs fs) order qs):=rfl
  rw[hu]at h;split at h
  ·rename_i o r h1 h2;cases hk:QpR P Z o.op with
   | false=>rw[hk]at h;exact Qa3 order _ f h
   | true=>
    rw[hk]at h;cases hh:QkC (Qe3 fs r.em) qs with
    | false=>rw[hh]at h;exact Qa3 order _ f h
    | true=>
     rw[hh]at h;rcases List.mem_cons.1 h with rfl|h
     ·obtain⟨g1,g2⟩:=YK h2;exact⟨r,g1,g2,rfl⟩
     ·exact Qa3 order _ f h
  ·exact Qa3 order _ f h
noncomputable def ltI(n:Nat):It->Bool
 | .one i=>Nat.blt i n
 | .two i j ps=>Nat.blt i n&&(Nat.blt j n&&ps.all λq=>Nat.blt q n)
noncomputable def Qjr(n:Nat)(l:List It):Bool:=List.rec true (λi _ ih=>Bool.rec false ih (ltI n i)) l
theorem Qg7{n:Nat}:∀{l:List It},Qjr n l=true->∀i∈l,Qr1 n i
 | a::l,h,i,hi=>by
  have hu:Qjr n (a::l)=(Bool.rec false (Qjr n l) (ltI n a):Bool):=rfl;rw[hu]at h;cases hb:ltI n a with
  | false=>rw[hb]at h;cases h
  | true=>
   rw[hb]at h;rcases List.mem_cons.1 hi with rfl|hi
   ·cases i with
    | one i=>simpa[ltI,Qr1,Nat.blt_eq]using hb
    | two i j ps=>simpa[ltI,Qr1,Nat.blt_eq]using hb
   ·exact Qg7 h i hi
 | [],_,i,hi=>by cases hi
noncomputable def Qql(P:Program)(Z:FuncId->Bool)(nt:Nat):Array Oper->CS
 | ⟨ops⟩=>match Qbp ops 0 ops with
  | some fs=>Bool.rec noC (match Qf1 P Z ops fs (Qw fs fs) (Qe5 P Z ops (Qw fs fs) ops.length 0) []with
    | []=>⟨λF T H n=>(QbR P nt ⟨ops⟩ (mkF (Qw fs fs) [] none 0 (Qe5 P Z ops (Qw fs fs) ops.length 0))).run F T H n []⟩
    | f::Fs=>⟨λF T H n=>(QbR P nt ⟨ops⟩ (mkF (Qw fs fs) Fs (some f) 0 (Qe5 P Z ops (Qw fs fs) ops.length 0))).run F T H n []⟩)
   (Nat.beq (QgY (Qe5 P Z ops (Qw fs fs) ops.length 0)) ops.length&&(Nat.beq (Qqj 0 (Qe5 P Z ops (Qw fs fs) ops.length 0)) (2^ops.length-1)&&Qjr ops.length (Qe5 P Z ops (Qw fs fs) ops.length 0)))
  | none=>noC
theorem Qp7{P:Program}{Z:FuncId->Bool}(hm:P.follows .mixedOrders=true):Qlh P (Qql P Z):=by
 intro l id r0 w0 X k F T H n ρ L' As hP hF ht hs;unfold Qql at ht;simp only[]at ht;split at ht
 ·rename_i fs hf;cases hc:(Nat.beq (QgY (Qe5 P Z l (Qw fs fs) l.length 0)) l.length&&(Nat.beq (Qqj 0 (Qe5 P Z l (Qw fs fs) l.length 0)) (2^l.length-1)&&Qjr l.length (Qe5 P Z l (Qw fs fs) l.length 0)))with
  | false=>rw[hc]at ht;exact ht.elim
  | true=>
   rw[hc]at ht;simp only[Bool.and_eq_true]at hc;have hlen:=Nat.eq_of_beq_eq_true hc.1
   have key:∀(Fs:List Fin1)(F':Option Fin1),(∀f,F'=some f->Qhx fs f)->(∀f∈Fs,Qhx fs f)->Q9 r0 w0 ρ X k ((QbR P X.n ⟨l⟩ (mkF (Qw fs fs) Fs F' 0 (Qe5 P Z l (Qw fs fs) l.length 0))).run F T H n [])->S X (.c (.region id ⟨l⟩ true)::k) L' (HS w0 [] As):=by
    intro Fs F' h1 h2 h;refine Qfc ([]++ρ.ex) (QbW F') (by rw[hP];exact hm) ?_;have:=QdW (w0:=w0) (k:=k) hF hP hf (Qe5 P Z l (Qw fs fs) l.length 0) Fs F' (Array.replicate l.length false) 0 (Lm.start _) (Qg7 hc.2.2) (Nat.eq_of_beq_eq_true hc.2.1) h1 h2 T H n [] [] ρ L' As [] h hs rfl trivial;rw[hlen]at this;exact this
   split at ht<;>grind[Qa3,Qe5,Qw]
 ·exact ht.elim
def extCS(c:Nat):FuncId->List Value->Option Value:=λf vs=>match vs with
 | [.string ⟨⟨a⟩⟩,.string ⟨⟨b⟩⟩]=>bif Nat.beq f c then some (.int .i64 (YI a b))else none
 | _=>none
theorem extCS_ok{P:Program}{c:Nat}(hc:Qtn P c):Qg5 P (extCS c):=by
 intro f vs v h w0 ρ us As hvs o L' args ts ho hev;unfold extCS at h;split at h
 ·rename_i a b;obtain⟨h1,rfl⟩:=bif_some h;have hf:=Nat.eq_of_beq_eq_true h1;subst hf;injection hvs with hvs
  subst hvs
  obtain⟨x,y,hxy,hx,hy⟩:∃x y,args.toList=[x,y]/\Gx.ev L' x=some (.string (bs a))/\Gx.ev L' y=some (.string (bs b)):=by
   match hl:args.toList with
   | []=>rw[hl]at hev;cases hev
   | [x]=>grind[evs]
   | [x,y]=>
    rw[hl]at hev;simp only[evs]at hev;split at hev
    ·rename_i v vs h1 h2;split at h2
     ·rename_i v' vs' h3 h4;injection h4 with h4
      injection h2 with h2
      subst h4 h2;injection hev with hev
      injection hev with e1 e2
      injection e2 with e2 e3
      subst e1 e2;exact⟨x,y,rfl,h1,h3⟩
     ·cases h2
    ·cases hev
   | x::y::z::r=>grind[evs]
  rw[Qee hxy]at ho;exact⟨_,rfl,QeU ho hx hy hc⟩
 ·cases h
theorem ev_run{P:Program}{K:CallF}{Z:FuncId->Bool}{m f:Nat}{g:FuncId}{vs:List Value}{v:Value}(hK:KnOk P K)(hm:P.follows .mixedOrders=true)(hvs:Xb vs=true)(hv:flat v=true)(h:(match(evF P K Z m (Qql P Z) f).f noY g vs .lf 0 with
  | some r=>some r.1
  | none=>none)=some v):∀w,Calls P g vs.toArray w (λe w'=>e=.returned v/\HS w [] [] w'):=by
 intro w;split at h
 ·rename_i r hr;injection h with h
  subst h;obtain⟨v,H',n'⟩:=r
  have:=((Qn8 (Z:=Z) (m:=m) hK (Qp7 hm) f ⟨λ_=>none,[]⟩).f _ _ Qdy) g vs .lf 0 v H' n' hr w ⟨λ_=>none,[]⟩ vs [] (Rho.le_refl _) (Xv (λa b e=>Qe2 (Qdp e)) (X7 hvs)) ⟨[],[],(λm r hm=>by
   have h':YP (pth m) m (.lf:Hp)=some r:=hm;rw[YZ]at h';cases h'),rfl,rfl⟩ (λ_ _=>rfl) w (HS.refl w [])
  refine Calls.mono this λe w'⟨ρ',As',u,h1,h2,h3,h4,h5,h6⟩=>?_;rw[Qao hv]at h3;injection h3 with h3
  subst h3;exact⟨h5,h6.sub (List.nil_sublist _)⟩
 ·cases h
end Ev
namespace Ev
open Go Go.RowKit
def InsC(P:Program)(f e sz by':Nat):Prop:=∀(w:World)(a:Option Addr)(i n m cap:Nat)(xs news:List Value)(b0 c0 tot2:Nat),HS w (fps [.own (.slice a n cap) e sz n xs,.blk b0 e tot2 news]) [.own (.slice a n cap) e sz n xs,.blk b0 e tot2 news] w->0<m->news.length=m*sz->(∀u∈news,u.oneCell'=true)->(∀u∈xs,u.oneCell'=true)->(n+m)*by'<=140737488355328->i<=n ->
 Calls P f #[.slice a n cap,.int .i64 (i:Int),.slice (some ⟨b0,0,none⟩) m c0] w λen w'=>∃g:Option Addr×Nat,en=.returned (.slice g.1 (n+m) g.2)/\True/\HS w (fps [.own (.slice a n cap) e sz n xs,.blk b0 e tot2 news]) [.own (.slice g.1 (n+m) g.2) e sz (n+m) (xs.take (i*sz)++news++xs.drop (i*sz)),.blk b0 e tot2 news] w'
noncomputable def Quc(e sz by':Nat)(H:Hp)(n:Nat):List Value->Option (Value×Hp×Nat)
 | [.slice none l c,.int .i64 (.ofNat i),.slice (some ⟨q,0,_⟩) m _]=>match Yc H q with
  | some rq=>bif (Nat.beq rq.ty e&&(Nat.beq rq.cs.length (m*sz)&&(Nat.blt 0 m&&Nat.ble i l)))&&((Nat.beq l 0&&Nat.beq c 0)&&Nat.ble ((l+m)*by') 140737488355328)then some (.slice (some ⟨n,0,none⟩) (l+m) (l+m),Yn H n ⟨e,sz,rq.cs⟩,n+1)else none
  | none=>none
 | [.slice (some ⟨p,0,none⟩) l c,.int .i64 (.ofNat i),.slice (some ⟨q,0,_⟩) m _]=>match Yc H p,Yc H q with
  | some r,some rq=>bif (Nat.beq rq.ty e&&(Nat.beq rq.cs.length (m*sz)&&(Nat.blt 0 m&&Nat.ble i l)))&&((!Nat.beq q p&&(Nat.beq r.ty e&&(Nat.beq r.sz sz&&(Nat.beq r.cs.length (c*sz)&&Nat.blt 0 sz))))&&((Nat.ble l c&&Nat.ble c maxLen)&&Nat.ble ((l+m)*by') 140737488355328))then some (.slice (some ⟨n,0,none⟩) (l+m) (l+m),Yn (QfF H p) n ⟨e,sz,(r.cs.take (l*sz)).take (i*sz)++rq.cs++(r.cs.take (l*sz)).drop (i*sz)⟩,n+1)else none
  | _,_=>none
 | _=>none
noncomputable def insK:List (Nat×Nat×Nat×Nat)->Qb5
 | [],_,_,_,_=>none
 | (f,e,sz,by')::l,g,vs,H,n=>bif Nat.beq g f then Quc e sz by' H n vs else insK l g vs H n
theorem QkE{ρ:Rho}{p o l c:Nat}{u:Value}(h:den ρ (.slice (some ⟨p,o,none⟩) l c)=some u):∃b d,ρ p=some (b,d)/\u=.slice (some ⟨b,o,none⟩) l (c+d):=by grind[den,Xp,QU,XV]
theorem Qmd{ρ:Rho}{p o l c:Nat}{q:Option Nat}{u:Value}(h:den ρ (.slice (some ⟨p,o,q⟩) l c)=some u):∃b d c',ρ p=some (b,d)/\u=.slice (some ⟨b,o,none⟩) l c':=by cases q<;>grind[QkE,den,Xp,QU,XV]
theorem XS{α β:Type}{f:α->Option β}{a:α}{l:List α}{m:List β}(h:Qx f (a::l)=some m):∃b m',f a=some b/\Qx f l=some m'/\m=b::m':=by grind[Qx]
theorem QrM{P:Program}{f e sz by':Nat}(hI:InsC P f e sz by'){vs:List Value}{H:Hp}{n:Nat}{v:Value}{H':Hp}{n':Nat}(h:Quc e sz by' H n vs=some (v,H',n'))(w0:World)(ρ:Rho)(us:List Value)(As:List HA)(hus:Qx (den ρ) vs=some us)(hH:HM ρ H As)(hf:QQ ρ n)(w:World)(hw:HS w0 [] As w):Calls P f us.toArray w (QlN w0 ρ v H' n'):=by
 unfold Quc at h;split at h
 ·rename_i l c i q x m y;obtain⟨u1,m1,d1,hus1,rfl⟩:=XS hus;obtain⟨u2,m2,d2,hus2,rfl⟩:=XS hus1;obtain⟨u3,m3,d3,hus3,rfl⟩:=XS hus2;cases hus3;cases d1;cases d2;obtain⟨b0,d0,c0,e1,rfl⟩:=Qmd d3;split at h
  ·rename_i rq hq;obtain⟨hc,he⟩:=bif_some h
   clear h
   simp only[Bool.and_eq_true]at hc;obtain⟨⟨k1,k2,k3,k4⟩,⟨k5,k6⟩,k7⟩:=hc;have hl0:=Nat.eq_of_beq_eq_true k5;have hc0:=Nat.eq_of_beq_eq_true k6;have hi0:i=0:=by have:=Nat.le_of_ble_eq_true k4;omega
   have hty:=Nat.eq_of_beq_eq_true k1;subst hl0 hc0 hi0 hty;injection he with h1 h2
   injection h2 with h2 h3
   subst h1 h2 h3;obtain⟨b,d,cu,Rs,g1,g2,g3,g4,_,_⟩:=X8 hH hq;rw[g1]at e1;injection e1 with e1
   injection e1 with e1 e3
   subst e1 e3;have hw2:=((hw.perm g4.perm).own_nil rq.ty sz);have hlen:cu.length=m*sz:=by rw[Q5 g2];exact Nat.eq_of_beq_eq_true k2
   have hfoc:=HS.focus (Cs:=[.own (.slice none 0 0) rq.ty sz 0 [],.blk b rq.ty (cu.length+d*rq.sz) cu]) (Ds:=Rs) hw2;refine Calls.mono (hI w none 0 0 m 0 [] cu b c0 _ hfoc (by simpa[Nat.blt_eq]using k3) hlen (List.all_eq_true.1 (YY g2)) (λ_ h=>by cases h) (Nat.le_of_ble_eq_true k7) (Nat.le_refl _)) λen w'⟨g,h1,_,h2⟩=>?_;have h3:=HS.callM (Cs:=[.own (.slice none 0 0) rq.ty sz 0 [],.blk b rq.ty (cu.length+d*rq.sz) cu]) (As:=Rs) hw2 (λb hb=>by obtain⟨A,hA,hb⟩:=List.mem_flatMap.1 hb;exact⟨A,hA,hb⟩) h2;have hpos:0<0+m:=by simpa[Nat.blt_eq]using k3
   obtain⟨gg,ga,_,hn,hcm,hxl,h4⟩:=h3.own_blk hpos .here;have h5:HS w0 [] (.blk gg rq.ty (g.2*sz) ([].take (0*sz)++cu++[].drop (0*sz))::As) w':=h4.perm (.cons _ g4.perm.symm);obtain⟨ρ',As',o1,o2,o3,o4,o5⟩:=QdO (w0:=w0) (e:=rq.ty) (sz:=sz) (k:=0) (m:=m) (g:=(gg,g.2)) (xs:=cu) ⟨As,hH,.refl _⟩ hf g2 hn hcm (by rw[hlen,Nat.zero_add]);refine⟨ρ',As',_,o1,o2,o3,o4,?_,o5 _ (by simpa using h5)⟩;rw[h1,ga]
  ·cases h
 ·rename_i p l c i q x m y;obtain⟨u1,m1,d1,hus1,rfl⟩:=XS hus;obtain⟨u2,m2,d2,hus2,rfl⟩:=XS hus1;obtain⟨u3,m3,d3,hus3,rfl⟩:=XS hus2;cases hus3;cases d2;obtain⟨b9,d9,e9,rfl⟩:=QkE d1;obtain⟨b0,d0,c0,e1,rfl⟩:=Qmd d3;split at h
  ·rename_i r rq hp hq;obtain⟨hc,he⟩:=bif_some h
   clear h
   simp only[Bool.and_eq_true]at hc;obtain⟨⟨k1,k2,k3,k4⟩,⟨k5,k6,k7,k8,k9⟩,⟨k10,k11⟩,k12⟩:=hc;have hty:=Nat.eq_of_beq_eq_true k1;have hty2:=Nat.eq_of_beq_eq_true k6;have hsz2:=Nat.eq_of_beq_eq_true k7;have hlenr:=Nat.eq_of_beq_eq_true k8;have hsz0:0<sz:=by simpa[Nat.blt_eq]using k9
   have hlc:=Nat.le_of_ble_eq_true k10;have hcm:=Nat.le_of_ble_eq_true k11;have hqp:q≠p:=λh=>by subst h;simp[Nat.beq_refl]at k5
   injection he with h1 h2
   injection h2 with h2 h3
   subst h1 h2 h3;obtain⟨b,d,rs,Rs,g1,g2,g3,g4,_,As3,g6,g7⟩:=X8 hH hp;rw[g1]at e9;injection e9 with e9
   injection e9 with e9 e3
   subst e9 e3;obtain⟨b',d',cu,Rs2,f1,f2,f3,f4,_,_⟩:=X8 g6 (by unfold Yc;rw[Qcp hqp];exact hq);rw[f1]at e1;injection e1 with e1
   injection e1 with e1 e3
   subst e1 e3;have hlr:=Q5 g2
   have hcd:c+d<=maxLen:=by
    unfold QeL at g3;rcases g3 with g3|g3
    ·omega
    ·rw[hlenr,hsz2,<-Nat.add_mul]at g3;exact Nat.le_of_mul_le_mul_right g3 hsz0
   have htot:rs.length+d*r.sz=(c+d)*sz:=by rw[hlr,hlenr,hsz2,Nat.add_mul]
   rw[hty2,htot]at g4;rw[hty]at f4;have hw2:=HS.to_own (n:=l) g4 hw (List.take_append_drop (l*sz) rs).symm (by rw[List.length_take,hlr,hlenr];exact Nat.min_eq_left (Nat.mul_le_mul_right _ hlc)) om hcd;have hw3:=hw2.perm (.cons _ (g7.trans f4.perm));have hlen:cu.length=m*sz:=by rw[Q5 f2];exact Nat.eq_of_beq_eq_true k2
   have hfoc:=HS.focus (Cs:=[.own (.slice (some ⟨b,0,none⟩) l (c+d)) e sz l (rs.take (l*sz)),.blk b' e (cu.length+d'*rq.sz) cu]) (Ds:=Rs2) hw3;have hone:=List.all_eq_true.1 (YY g2);refine Calls.mono (hI w _ i l m (c+d) (rs.take (l*sz)) cu b' c0 _ hfoc (by simpa[Nat.blt_eq]using k3) hlen (List.all_eq_true.1 (YY f2)) (λu hu=>hone u (List.mem_of_mem_take hu)) (Nat.le_of_ble_eq_true k12) (Nat.le_of_ble_eq_true k4)) λen w'⟨g,h1,_,h2⟩=>?_;have h3:=HS.callM (Cs:=[.own (.slice (some ⟨b,0,none⟩) l (c+d)) e sz l (rs.take (l*sz)),.blk b' e (cu.length+d'*rq.sz) cu]) (As:=Rs2) hw3 (λb hb=>by obtain⟨A,hA,hb⟩:=List.mem_flatMap.1 hb;exact⟨A,hA,hb⟩) h2
   have hpos:0<l+m:=by
     have:0<m:=by simpa[Nat.blt_eq]using k3
     omega
   obtain⟨gg,ga,_,hn,hcm2,hxl,h4⟩:=h3.own_blk hpos .here;have h5:HS w0 [] (.blk gg e (g.2*sz) ((rs.take (l*sz)).take (i*sz)++cu++(rs.take (l*sz)).drop (i*sz))::As3) w':=h4.perm (.cons _ f4.perm.symm);have hcells:Qx (QU ρ) ((r.cs.take (l*sz)).take (i*sz)++rq.cs++(r.cs.take (l*sz)).drop (i*sz))=some ((rs.take (l*sz)).take (i*sz)++cu++(rs.take (l*sz)).drop (i*sz)):=Y4 (Y4 (XK _ (XK _ g2)) f2) (YG _ (XK _ g2));obtain⟨ρ',As',o1,o2,o3,o4,o5⟩:=QdO (w0:=w0) (e:=e) (sz:=sz) (k:=l) (m:=m) (g:=(gg,g.2)) ⟨As3,g6,.refl _⟩ hf hcells hn hcm2 hxl;refine⟨ρ',As',_,o1,o2,o3,o4,?_,o5 _ h5⟩;rw[h1,ga]
  ·cases h
 ·cases h
theorem insK_ok{P:Program}{r0:Rho}:∀{l:List (Nat×Nat×Nat×Nat)},(∀x∈l,InsC P x.1 x.2.1 x.2.2.1 x.2.2.2)->QdE P r0 (insK l)
 | [],_=>λ_ _ _ _ _ _ _ h=>by cases h
 | (f,e,sz,by')::l,hl=>by
  intro g vs H n v H' n' h;simp only[insK]at h;cases hb:Nat.beq g f with
  | true=>
   rw[hb]at h;have hg:=Nat.eq_of_beq_eq_true hb;subst hg;exactλw0 ρ us As _ hus hH hf w hw=>QrM (hl _ (List.mem_cons_self ..)) h w0 ρ us As hus hH hf w hw
  | false=>
   rw[hb]at h;exact insK_ok (λx hx=>hl x (List.mem_cons_of_mem _ hx)) g vs H n v H' n' h
end Ev
namespace Ev
open Go Go.RowKit
def QCon(P:Program)(f:FuncId)(φ:List Value->Option Value):Prop:=∀vs v,φ vs=some v->QhZ vs=true/\den ⟨λ_=>none,[]⟩ v=some v/\∀w:World,Calls P f vs.toArray w λen w'=>en=.returned v/\Below w.heap.size w w'
noncomputable def knP(e:FuncId->List Value->Option Value):List (FuncId×(List Value->Option Value))->FuncId->List Value->Option Value
 | [],g,vs=>e g vs
 | x::l,g,vs=>bif Nat.beq g x.1 then x.2 vs else knP e l g vs
theorem knP_ok{P:Program}{e:FuncId->List Value->Option Value}(he:Qg5 P e):∀{l:List (FuncId×(List Value->Option Value))},(∀x∈l,QJ P x.1=true/\QCon P x.1 x.2)->Qg5 P (knP e l)
 | [],_=>he
 | x::l,hl=>by
  intro g vs v h w0 ρ us As hvs o L' args ts ho hev;simp only[knP]at h;cases hb:Nat.beq g x.1 with
  | true=>
   rw[hb]at h;have hg:=Nat.eq_of_beq_eq_true hb;subst hg;obtain⟨hfn,hq⟩:=hl x (List.mem_cons_self ..);obtain⟨h1,h2,h3⟩:=hq vs v h
   have hus:us=vs:=by
    have h4:=Qb2 (ρ:=ρ) h1;rw[h4]at hvs;exact(Option.some.inj hvs).symm
   subst hus
   have hmono:den ρ v=some v:=by
    have h4:=QaZ (ρ:=⟨λ_=>none,ρ.ex⟩) (ρ':=ρ) ⟨λn x h=>(by cases h),rfl⟩ v v h2;exact h4
   refine⟨v,hmono,?_⟩;intro a w hρ hw;rw[ZB ho hρ (show ev L' (.func x.1)=some (.func (.func x.1) #[] #[])from rfl) hfn hev];simp only[Array.empty_append,Array.append_empty];refine Calls.mono (h3 w) λe w'⟨h5,h6⟩=>?_;exact⟨_,h5,rfl,h6⟩
  | false=>
   rw[hb]at h;exact knP_ok he (λy hy=>hl y (List.mem_cons_of_mem _ hy)) g vs v h w0 ρ us As hvs o L' args ts ho hev
theorem QlM{g:FuncId}{vs:List Value}{v:Value}:∀{l:List (FuncId×(List Value->Option Value))},knP (λ_ _=>none) l g vs=some v->∃x∈l,g=x.1/\x.2 vs=some v
 | [],h=>by cases h
 | x::l,h=>by
  simp only[knP]at h;cases hb:Nat.beq g x.1 with
  | true=>
   rw[hb]at h;exact⟨x,List.mem_cons_self ..,Nat.eq_of_beq_eq_true hb,h⟩
  | false=>
   rw[hb]at h;obtain⟨y,hy,h2⟩:=QlM h;exact⟨y,List.mem_cons_of_mem _ hy,h2⟩
noncomputable def knR(K:Qb5)(l:List (FuncId×(List Value->Option Value))):Qb5:=λg vs H n=>match knP (λ_ _=>none) l g vs with
 | some v=>some (v,H,n)
 | none=>K g vs H n
theorem knR_ok{P:Program}{r0:Rho}{K:Qb5}(hK:QdE P r0 K){l:List (FuncId×(List Value->Option Value))}(hl:∀x∈l,QCon P x.1 x.2):QdE P r0 (knR K l):=by
 intro g vs H n v H' n' h w0 ρ us As hle hus hH hf w hw;unfold knR at h;split at h
 ·rename_i v2 hv;injection h with h
  injection h with h1 h
  injection h with h2 h3
  subst h1 h2 h3;obtain⟨x,hx,rfl,hφ⟩:=QlM hv;obtain⟨h1,h2,h3⟩:=hl x hx vs v2 hφ;rw[Qb2 h1]at hus;injection hus with hus
  subst hus;refine Calls.mono (h3 w) λe w'⟨h5,h6⟩=>⟨ρ,As,v2,Rho.le_refl _,hf,QaZ (ρ:=⟨λ_=>none,ρ.ex⟩) (ρ':=ρ) ⟨λn x h=>(by cases h),rfl⟩ v2 v2 h2,hH,h5,hw.stable h6⟩
 ·exact hK g vs H n v H' n' h w0 ρ us As hle hus hH hf w hw
noncomputable def QmF:List Value->Option (List (List UInt8))
 | []=>some []
 | .string b::l=>match QmF l with
  | some r=>some (b.data.toList::r)
  | none=>none
 | _=>none
theorem QjQ:∀{cs:List Value}{l:List (List UInt8)},QmF cs=some l->cs=l.map (λs=>Value.string (bs s))/\Xb cs=true
 | [],l,h=>by
  injection h with h
  subst h;exact⟨rfl,rfl⟩
 | c::cs,l,h=>by
  cases c with
  | string b=>
   simp only[QmF]at h;split at h
   ·rename_i r hr;injection h with h
    subst h;obtain⟨h1,h2⟩:=QjQ hr;refine⟨by rw[List.map_cons,<-h1];rfl,?_⟩;simp only[Xb,List.all_cons];rw[show flat (Value.string b)=true from rfl];exact h2
   ·cases h
  | _=>cases h
def SCon(P:Program)(f:FuncId)(φ:List UInt8->List UInt8->List (List UInt8)->Option Value):Prop:=∀t s l v,φ t s l=some v->den ⟨λ_=>none,[]⟩ v=some v/\∀(w:World)(a:Option Addr)(cap:Nat),Vl w a (l.map λs=>Value.string (bs s))->Calls P f #[.string (bs t),.string (bs s),.slice a l.length cap] w λen w'=>en=.returned v/\Below w.heap.size w w'
noncomputable def knS(K:Qb5)(f:FuncId)(φ:List UInt8->List UInt8->List (List UInt8)->Option Value):Qb5:=λg vs H n=>bif Nat.beq g f then(match vs with
 | [.string t,.string s,.slice (some ⟨p,0,none⟩) m c]=>match Yc H p with
  | some r=>bif Nat.beq r.sz 1&&Nat.ble m r.cs.length then(match QmF (r.cs.take m)with
   | some l=>(match φ t.data.toList s.data.toList l with
    | some v=>some (v,H,n)
    | none=>none)
   | none=>none)else none
  | none=>none
 | [.string t,.string s,.slice none 0 c]=>match φ t.data.toList s.data.toList []with
  | some v=>some (v,H,n)
  | none=>none
 | _=>none)else K g vs H n
theorem knS_ok{P:Program}{r0:Rho}{K:Qb5}(hK:QdE P r0 K){f:FuncId}{φ:List UInt8->List UInt8->List (List UInt8)->Option Value}(hl:SCon P f φ):QdE P r0 (knS K f φ):=by
 intro g vs H n v H' n' h w0 ρ us As hle hus hH hf w hw;unfold knS at h;cases hb:Nat.beq g f with
 | false=>
  rw[hb]at h;exact hK g vs H n v H' n' h w0 ρ us As hle hus hH hf w hw
 | true=>
  rw[hb]at h;simp only[cond_true]at h;have hg:=Nat.eq_of_beq_eq_true hb;subst hg;have self:∀{v2:Value},den ⟨λ_=>none,[]⟩ v2=some v2->den ρ v2=some v2:=λ{v2}h2=>QaZ (ρ:=⟨λ_=>none,ρ.ex⟩) (ρ':=ρ) ⟨λn x h=>(by cases h),rfl⟩ v2 v2 h2;split at h
  ·rename_i t s p m c;obtain⟨u1,m1,d1,hus1,rfl⟩:=XS hus;obtain⟨u2,m2,d2,hus2,rfl⟩:=XS hus1;obtain⟨u3,m3,d3,hus3,rfl⟩:=XS hus2;cases hus3;cases d1;cases d2;obtain⟨b0,d0,e0,rfl⟩:=QkE d3;split at h
   ·rename_i r hr;obtain⟨hc,h⟩:=bif_in h;simp only[Bool.and_eq_true]at hc;have hsz:=Nat.eq_of_beq_eq_true hc.1;have hm:=Nat.le_of_ble_eq_true hc.2;split at h
    ·rename_i l hl2;split at h
     ·rename_i v2 hv;injection h with h
      injection h with h1 h
      injection h with h2 h3
      subst h1 h2 h3;obtain⟨b,d,cu,Rs,g1,g2,g3,g4,_,_⟩:=X8 hH hr;rw[g1]at e0;injection e0 with e0
      injection e0 with e0 e1
      subst e0 e1;obtain⟨k1,k2⟩:=QjQ hl2;obtain⟨k3,k4⟩:=hl _ _ _ v2 hv
      have hcu:(cu.take m)=l.map λs=>Value.string (bs s):=by
       have h5:=XK m g2;rw[X7 k2]at h5;injection h5 with h5
       rw[<-h5,k1]
      have hlen:m=l.length:=by
       have h6:=congrArg List.length hcu;rw[List.length_take,List.length_map,Q5 g2]at h6;omega
      have hV:Vl w (some ⟨b,0,none⟩) (l.map λs=>Value.string (bs s)):=by
       rw[<-hcu];have hlt:(cu.take m).length<=cu.length:=by rw[List.length_take];omega
       refine hw.sl_blk g4 (n:=(cu.take m).length) (cell:=λi=>((cu.take m)[i]?).toList) λi hi=>?_;have h7:=Qif (vs:=cu.take m) hi;refine⟨h7.1,λj v hj=>?_⟩;have h8:=h7.2 j v hj;rw[List.getElem?_take]at h8;split at h8
       ·exact h8
       ·cases h8
      have hcall:=k4 w (some ⟨b,0,none⟩) (c+d) hV;rw[<-hlen]at hcall;exact Calls.mono hcall λe w'⟨h5,h6⟩=>⟨ρ,As,v2,Rho.le_refl _,hf,self k3,hH,h5,hw.stable h6⟩
     ·cases h
    ·cases h
   ·cases h
  ·rename_i t s c;obtain⟨u1,m1,d1,hus1,rfl⟩:=XS hus;obtain⟨u2,m2,d2,hus2,rfl⟩:=XS hus1;obtain⟨u3,m3,d3,hus3,rfl⟩:=XS hus2;cases hus3;cases d1;cases d2;cases d3;split at h
   ·rename_i v2 hv;injection h with h
    injection h with h1 h
    injection h with h2 h3
    subst h1 h2 h3;obtain⟨k3,k4⟩:=hl _ _ _ v2 hv;have hV:Vl w none (([]:List (List UInt8)).map λs=>Value.string (bs s)):=⟨λhn=>absurd hn (Nat.lt_irrefl 0)⟩;have hcall:=k4 w none c hV;exact Calls.mono hcall λe w'⟨h5,h6⟩=>⟨ρ,As,v2,Rho.le_refl _,hf,self k3,hH,h5,hw.stable h6⟩
   ·cases h
  ·cases h
end Ev
end Gx
namespace Gx
open Go Go.RowKit
def mtF(t s:List UInt8):Nat->List UInt8->Nat->Bool
 | 0,_,_=>false
 | _+1,[],i=>decide (i=0)
 | f+1,c::r,0=>if c=42 then mtF t s f r 0 else false
 | f+1,c::r,i+1=>if c=42 then mtF t s f r (i+1)||mtF t s f (c::r) i else mtF t s f r i&&(decide (c=63)||decide (t.getD c.toNat 0=t.getD (s.getD i 0).toNat 0))
theorem Qgd{t s:List UInt8}:∀(f:Nat)(r:List UInt8)(i:Nat),r.length+i<f->mtF t s f r i=mtR t s r i
 | 0,_,_,h=>absurd h (Nat.not_lt_zero _)
 | f+1,[],i,h=>by rw[mtF,mtR]
 | f+1,c::r,0,h=>by
  simp only[List.length_cons]at h;rw[mtF,mtR,Qgd f r 0 om]
 | f+1,c::r,i+1,h=>by
  simp only[List.length_cons]at h;rw[mtF,mtR,Qgd f r (i+1) om,Qgd f (c::r) i (by simp only[List.length_cons];omega),Qgd f r i om]
def mtK(t p s:List UInt8):Bool:=mtF t s (p.length+s.length+1) p.reverse s.length
theorem Qtm(t p s:List UInt8):mtK t p s=mtU t p s:=Qgd _ _ _ (by rw[List.length_reverse];omega)
end Gx
namespace Go.Proofs
open Go Go.RowKit Gx
theorem QuG:Ev.InsC Tryz.prog 239 84 2 32:=λw a i n m cap xs news b0 c0 tot2=>c239 w a i n m cap xs news b0 c0 tot2
theorem QtK:Ev.InsC Tryz.prog 302 3 1 8:=λw a i n m cap xs news b0 c0 tot2=>c302 w a i n m cap xs news b0 c0 tot2
def smB(b:ByteArray):Bool:=Nat.ble b.data.toList.length 1000000
theorem Zs{b:ByteArray}(h:smB b=true):b.data.toList.length<=1000000:=Nat.le_of_ble_eq_true h
def Quf:List Value->Option Value
  | [.string b]=>bif smB b then some (.int .i64 (QT b.data.toList))else none
  | _=>none
theorem qc75:Ev.QCon Tryz.prog 75 Quf:=λvs v h=>by
  unfold Quf at h;split at h
  · rename_i b;obtain⟨h1,rfl⟩:=Ev.bif_some h;exact⟨rfl,rfl,λw=>c75 w b.data.toList (Zs h1)⟩
  · cases h
def QuT:List Value->Option Value
  | []=>some (.string (bs QaN))
  | _=>none
theorem qc82:Ev.QCon Tryz.prog 82 QuT:=λvs v h=>by
  unfold QuT at h;split at h
  · injection h with h
    subst h;exact⟨rfl,rfl,λw=>c82 w⟩
  · cases h
def Qpr:List Value->Option Value
  | [.string b]=>bif smB b then some (.bool (YR b.data.toList))else none
  | _=>none
theorem Qvp:Ev.QCon Tryz.prog 171 Qpr:=λvs v h=>by
  unfold Qpr at h;split at h
  · rename_i b;obtain⟨h1,rfl⟩:=Ev.bif_some h;exact⟨rfl,rfl,λw=>QrP w b.data.toList (Zs h1)⟩
  · cases h
def Qp2:List Value->Option Value
  | [.string t,.string s]=>bif smB t&&smB s then some (.tuple #[.bool (if openE t.data.toList [s.data.toList]=0 then !YR (up t.data.toList s.data.toList)else false),.int .i64 (openE t.data.toList [s.data.toList])])else none
  | _=>none
theorem Qvk:Ev.QCon Tryz.prog 169 Qp2:=λvs v h=>by
  unfold Qp2 at h;split at h
  · rename_i t s;obtain⟨h1,rfl⟩:=Ev.bif_some h;rw[Bool.and_eq_true]at h1;exact⟨rfl,rfl,λw=>c169 w t.data.toList s.data.toList (Zs h1.1) (Zs h1.2)⟩
  · cases h
def QtD:List Value->Option Value
  | [.string t,.string p,.string s]=>bif smB t&&(smB p&&smB s)then some (.tuple #[.bool (if QeC t.data.toList p.data.toList s.data.toList=0 then mtK t.data.toList p.data.toList s.data.toList else false),.int .i64 (QeC t.data.toList p.data.toList s.data.toList)])else none
  | _=>none
theorem qc81:Ev.QCon Tryz.prog 81 QtD:=λvs v h=>by
  unfold QtD at h;split at h
  · rename_i t p s;obtain⟨h1,rfl⟩:=Ev.bif_some h;rw[Bool.and_eq_true,Bool.and_eq_true]at h1;refine⟨rfl,rfl,λw=>?_⟩;have h9:=c81 w t.data.toList p.data.toList s.data.toList (Zs h1.1) (Zs h1.2.1) (Zs h1.2.2);rw[<-Qtm]at h9;exact h9
  · cases h
def QqC:List Value->Option Value
  | [.string a,.string b]=>bif smB a&&smB b then some (.int .i64 (YI (a.data.toList.map QbH) (b.data.toList.map QbH)))else none
  | _=>none
theorem Qv7:Ev.QCon Tryz.prog 211 QqC:=λvs v h=>by
  unfold QqC at h;split at h
  · rename_i a b;obtain⟨h1,rfl⟩:=Ev.bif_some h;rw[Bool.and_eq_true]at h1;exact⟨rfl,rfl,λw=>c211 w a.data.toList b.data.toList (Zs h1.1) (Zs h1.2)⟩
  · cases h
def Qui:List Value->Option Value
  | [.agg ⟨[.string a,.string b]⟩]=>bif smB a&&smB b then some (.tuple #[.agg #[.string (bs (dcD ⟨a.data.toList,b.data.toList⟩).nm),.int .i64 (dcD ⟨a.data.toList,b.data.toList⟩).sp,.string (bs (dcD ⟨a.data.toList,b.data.toList⟩).ot),.int .i64 (dcD ⟨a.data.toList,b.data.toList⟩).re,.int .i64 (dcD ⟨a.data.toList,b.data.toList⟩).sq,.int .i64 (dcD ⟨a.data.toList,b.data.toList⟩).fl,.int .i64 (dcD ⟨a.data.toList,b.data.toList⟩).tm,.int .i64 (dcD ⟨a.data.toList,b.data.toList⟩).al,.int .i64 (dcD ⟨a.data.toList,b.data.toList⟩).sz],.int .i64 (dcE ⟨a.data.toList,b.data.toList⟩)])else none
  | _=>none
theorem qc40:Ev.QCon Tryz.prog 40 Qui:=λvs v h=>by
  unfold Qui at h;split at h
  · rename_i a b;obtain⟨h1,rfl⟩:=Ev.bif_some h;rw[Bool.and_eq_true]at h1;exact⟨rfl,rfl,λw=>c40 w ⟨a.data.toList,b.data.toList⟩ (Zs h1.1) (Zs h1.2)⟩
  · cases h
def okI(n:Int):Bool:=decide (0<=n/\n<=9223372036854775807)
def QtH:List Value->Option Value
  | [.agg ⟨[.string a,.int .i64 sp,.string o,.int .i64 re,.int .i64 sq,.int .i64 fl,.int .i64 tm,.int .i64 al,.int .i64 sz]⟩]=>bif (smB a&&smB o)&&((okI re&&okI sq)&&(okI sp&&(okI fl&&(okI tm&&(okI al&&okI sz)))))then some (.agg #[.string (bs (QnE ⟨a.data.toList,sp,o.data.toList,re,sq,fl,tm,al,sz⟩).key),.string (bs (QnE ⟨a.data.toList,sp,o.data.toList,re,sq,fl,tm,al,sz⟩).val)])else none
  | _=>none
theorem qc98:Ev.QCon Tryz.prog 98 QtH:=λvs v h=>by
  unfold QtH at h;split at h
  · rename_i a sp o re sq fl tm al sz;obtain⟨h1,rfl⟩:=Ev.bif_some h;simp only[Bool.and_eq_true]at h1;obtain⟨⟨k1,k2⟩,⟨k3,k4⟩,k5,k6,k7,k8,k9⟩:=h1;exact⟨rfl,rfl,λw=>c98 w ⟨a.data.toList,sp,o.data.toList,re,sq,fl,tm,al,sz⟩ (Zs k1) (Zs k2) (of_decide_eq_true k3) (of_decide_eq_true k4) (of_decide_eq_true k5) (of_decide_eq_true k6) (of_decide_eq_true k7) (of_decide_eq_true k8) (of_decide_eq_true k9)⟩
  · cases h
def QlK(t s:List UInt8)(ks:List (List UInt8)):Nat->Nat->Option Nat
  | 0,_=>none
  | f+1,k=>if up t (ZE t s k)∈ks then QlK t s ks f (k+1)else some k
theorem Qjo{t s:List UInt8}{ks:List (List UInt8)}:∀{f k m:Nat},QlK t s ks f k=some m->k<=m/\m<k+f/\¬up t (ZE t s m)∈ks
  | 0,k,m,h=>by cases h
  | f+1,k,m,h=>by
    unfold QlK at h;split at h
    · obtain⟨h1,h2,h3⟩:=Qjo h;exact⟨om,om,h3⟩
    · rename_i hn;injection h with h
      subst h;exact⟨om,om,hn⟩
def Qoj(t s:List UInt8)(l:List (List UInt8)):Option Value:=bif Nat.ble t.length 1000000&&(Nat.ble s.length 1000000&&(Nat.ble l.length 1000000&&l.all λs=>Nat.ble s.length 1000000))then(match QlK t s (l.map (up t)) 99 1 with
  | some _=>some (.tuple #[.string (bs (if Qbc t s l=0 then(Z6 t s (l.map (up t))).1 else[])),.int .i64 (if Qbc t s l=0 then(Z6 t s (l.map (up t))).2 else Qbc t s l)])
  | none=>none)else none
theorem QvH:Ev.SCon Tryz.prog 118 Qoj:=λt s l v h=>by
  unfold Qoj at h;obtain⟨h1,h⟩:=Ev.bif_in h;simp only[Bool.and_eq_true]at h1;obtain⟨k1,k2,k3,k4⟩:=h1;split at h
  · rename_i m hm;injection h with h
    subst h;obtain⟨f1,f2,f3⟩:=Qjo hm;exact⟨rfl,λw a cap hV=>c118 w t s a cap l (Nat.le_of_ble_eq_true k1) (Nat.le_of_ble_eq_true k2) hV (Nat.le_of_ble_eq_true k3) (λs hs=>Nat.le_of_ble_eq_true (List.all_eq_true.1 k4 s hs)) m ⟨f1,om⟩ f3⟩
  · cases h
noncomputable def K14:Ev.CallF:=⟨λ_=>Ev.knS (Ev.knR (Ev.insK [(239,84,2,32),(302,3,1,8)]) [(211,QqC)]) 118 Qoj,Ev.knP (Ev.extCS 308) [(75,Quf),(81,QtD),(169,Qp2),(40,Qui),(98,QtH),(171,Qpr),(82,QuT)],Ev.noY⟩
theorem QuR:Ev.KnOk Tryz.prog K14:=⟨λr1 _=>Ev.knS_ok (Ev.knR_ok (Ev.insK_ok λx hx=>by
    rcases List.mem_cons.1 hx with rfl|hx
    · exact QuG
    · rcases List.mem_cons.1 hx with rfl|hx
      · exact QtK
      · cases hx) λx hx=>by
    rcases List.mem_cons.1 hx with rfl|hx
    · exact Qv7
    · cases hx) QvH,Ev.knP_ok (Ev.extCS_ok QqM) λx hx=>by
  simp only[List.mem_cons,List.mem_nil_iff,or_false]at hx;rcases hx with rfl|rfl|rfl|rfl|rfl|rfl|rfl
  · exact⟨by kernel_rfl,qc75⟩
  · exact⟨by kernel_rfl,qc81⟩
  · exact⟨by kernel_rfl,Qvk⟩
  · exact⟨by kernel_rfl,qc40⟩
  · exact⟨by kernel_rfl,qc98⟩
  · exact⟨by kernel_rfl,Qvp⟩
  · exact⟨by kernel_rfl,qc82⟩⟩
theorem Qsy:Tryz.prog.follows .mixedOrders=true:=by kernel_rfl
end Go.Proofs
namespace Go.Proofs
open Go Go.RowKit Gx
set_option maxRecDepth 1000000 in
theorem c11(w:World):CR 11 #[] w (.bool true):=by
  have h:=Ev.ev_run (P:=Tryz.prog) (K:=K14) (Z:=λg=>Ev.memN g [145,40,98,75,81,82,169,171]) (m:=1000) (f:=60) (g:=11) (vs:=[]) (v:=.bool true) QuR Qsy rfl rfl (by kernel_rfl) w
  refine Calls.mono h ?_
  intro en w' hh
  obtain⟨h1,h2⟩:=hh
  exact⟨h1,HS.below h2⟩
end Go.Proofs
namespace Gx
open Go Go.RowKit
section
variable{P:Program}{w:World}
def tqF(q:TypeId->Option (List Nat))(P:Program):List Field->Nat->Option (List Nat)
 | [],_=>some []
 | f::fs,k=>if !(f.name== "_")&&Nat.beq f.offset k then
   match q f.type with
   | some ks=>if Nat.beq (P.cellsOf f.type) ks.length&&(P.info? f.type).isSome then(tqF q P fs (k+ks.length)).map (ks++ ·)else none
   | none=>none
  else none
def tqS(P:Program):Nat->TypeId->Option (List Nat)
 | 0,_=>none
 | d+1,t=>match P.underlying t with
  | some (.int _)=>some [0]
  | some .string=>some [1]
  | some .bool=>some [2]
  | some (.struct fs)=>if !P.stoodInHeld t then tqF (tqS P d) P fs.toList 0 else none
  | _=>none
def Qjp(P:Program)(t:TypeId):Bool:=match P.underlying t with
 | some (.struct _)=>true
 | _=>false
def Qsi(P:Program)(t:TypeId):Option (List Nat):=if Qjp P t&& !P.eqGuardType P.depth t then tqS P 4 t else none
def vOf(P:Program)(t:TypeId)(xs:List Value):Value:=if Qjp P t then .agg xs.toArray else xs.headD default
theorem QhC:∀{a a' c c':List Value}{b:Bool},a.length=c.length->eqC (a++a') (c++c')=some b->∃p q,eqC a c=some p/\eqC a' c'=some q/\b=(p&&q)
 | [],a',[],c',b,_,h=>⟨true,b,rfl,h,by simp⟩
 | x::a,a',y::c,c',b,hl,h=>by
  simp only[List.cons_append,eqC]at h;split at h
  ·rename_i p q e1 e2;cases h;obtain⟨p',q',h1,h2,h3⟩:=QhC (by simpa using hl) e2;refine⟨p&&p',q',by simp only[eqC,e1,h1],h2,by rw[h3,Bool.and_assoc]⟩
  ·cases h
theorem QjL{d:Nat}{t:TypeId}{ks:List Nat}(h:tqS P (d+1) t=some ks)(hs:Qjp P t=false):lfT P t=true/\∃k,tlk P t=some k/\ks=[k]:=by
 unfold tqS at h;unfold Qjp at hs;unfold lfT tlk;split at h<;>rename_i hu<;>simp only[hu]at hs ⊢ <;>first|(cases h;done)|(cases hs;done)|skip
 all_goals
  cases h;exact⟨trivial,_,rfl,rfl⟩
theorem Qg6{t:TypeId}{k:Nat}{x:Value}(h:tlk P t=some k)(hx:X5 x=k):Qfv P t x=true:=by
 unfold tlk at h;unfold Qfv;split at h<;>first|(cases h;done)|skip
 all_goals
  rename_i hu;cases h;rw[hu];cases x<;>first|rfl|cases hx
theorem QlQ{d:Nat}{t:TypeId}{ks:List Nat}(h:tqS P d t=some ks)(hc:P.cellsOf t=ks.length)(hi:(P.info? t).isSome=true){X:Array Value}{k:Nat}{a r:List Value}(hX:X.toList.drop k=a++r)(ha:a.length=ks.length):(part t X k).run P w=.ok (vOf P t a) w:=by
 cases d with
 | zero=>cases h
 | succ d=>
 cases hs:Qjp P t with
 | false=>
  obtain⟨hl,kk,_,rfl⟩:=QjL h hs;obtain⟨x,rfl⟩:∃x,a=[x]:=List.length_eq_one_iff.1 ha;have hx:X[k]?=some x:=by rw[<-Array.getElem?_toList];exact QaR (xs:=r) (by simpa using hX)
  rw[Qbb hl hx];simp[vOf,hs]
 | true=>
  have hag:(isAgg t).run P w=.ok true w:=by
   unfold Qjp at hs;split at hs
   ·rename_i fs hu;simp[isAgg,run_underlying hu]
   ·cases hs
  obtain⟨i,hi⟩:=Option.isSome_iff_exists.1 hi;have hsz:(Go.sizeOf t).run P w=.ok (P.cellsOf t) w:=by simp[Go.sizeOf,typeInfo,hi,Program.cellsOf]
  simp only[part,Sem.run_bind,hag,Result.andThen_ok,if_true,hsz,Sem.run_pure]
  have hex:X.extract k (k+P.cellsOf t)=a.toArray:=by
   apply Array.toList_inj.1;rw[Array.toList_extract,List.extract_eq_take_drop,hX,hc,Nat.add_sub_cancel_left,<-ha,List.take_left]
  rw[hex];simp[vOf,hs]
theorem Qmy{D d:Nat}(hq:∀(t:TypeId)(ks:List Nat)(a c:List Value)(b:Bool),tqS P d t=some ks->a.map X5=ks->c.map X5=ks->eqC a c=some b->(Op.equalIn D t (vOf P t a) (vOf P t c)).run P w=.ok b w)(X Y:Array Value) :
  ∀(fs:List Field)(k:Nat)(ks:List Nat)(xs ys:List Value)(b:Bool),tqF (tqS P d) P fs k=some ks->X.toList.drop k=xs->Y.toList.drop k=ys->xs.map X5=ks->ys.map X5=ks->eqC xs ys=some b->(Op.eqFields D X Y fs).run P w=.ok b w
 | [],k,ks,xs,ys,b,hf,hX,hY,h1,h2,h=>by
  cases hf;cases List.map_eq_nil_iff.1 h1;cases List.map_eq_nil_iff.1 h2;cases h;simp[Op.eqFields]
 | f::fs,k,ks,xs,ys,b,hf,hX,hY,h1,h2,h=>by
  unfold tqF at hf;split at hf
  ·rename_i hno;simp only[Bool.and_eq_true,Bool.not_eq_true',beq_eq_false_iff_ne]at hno;have ho:=Nat.eq_of_beq_eq_true hno.2;split at hf
   ·rename_i kf e1;split at hf
    ·rename_i hci;simp only[Bool.and_eq_true]at hci;have hc:=Nat.eq_of_beq_eq_true hci.1;obtain⟨kr,e2,e3⟩:=Option.map_eq_some_iff.1 hf;subst e3
     have sp:∀{zs:List Value},zs.map X5=kf++kr->zs=zs.take kf.length++zs.drop kf.length/\(zs.take kf.length).map X5=kf/\(zs.drop kf.length).map X5=kr:=by
      intro zs hz;refine⟨(List.take_append_drop _ _).symm,?_,?_⟩
      ·rw[List.map_take,hz,List.take_left]
      ·rw[List.map_drop,hz,List.drop_left]
     obtain⟨s1,s2,s3⟩:=sp h1;obtain⟨t1,t2,t3⟩:=sp h2;have la:(xs.take kf.length).length=kf.length:=by rw[<-List.length_map (f:=X5),s2]
     have lc:(ys.take kf.length).length=kf.length:=by rw[<-List.length_map (f:=X5),t2]
     rw[s1,t1]at h;obtain⟨p,q,g1,g2,rfl⟩:=QhC (la.trans lc.symm) h;have pa:=QlQ (w:=w) e1 hc hci.2 (X:=X) (k:=k) (a:=xs.take kf.length) (r:=xs.drop kf.length) (hX.trans s1) la;have pc:=QlQ (w:=w) e1 hc hci.2 (X:=Y) (k:=k) (a:=ys.take kf.length) (r:=ys.drop kf.length) (hY.trans t1) lc;have ih:=Qmy hq X Y fs (k+kf.length) kr (xs.drop kf.length) (ys.drop kf.length) q e2 (by rw[<-List.drop_drop,hX]) (by rw[<-List.drop_drop,hY]) s3 t3 g2;have he:=hq f.type kf _ _ p e1 s2 t2 g1;simp only[Op.eqFields,ne_eq,hno.1,not_false_eq_true,if_true,Sem.run_bind,ho,pa,pc,Result.andThen_ok,he];cases p
     ·simp
     ·simpa using ih
    ·cases hf
   ·cases hf
  ·cases hf
theorem Qlm:∀(d e:Nat)(t:TypeId)(ks:List Nat)(xs ys:List Value)(b:Bool),tqS P d t=some ks->xs.map X5=ks->ys.map X5=ks->eqC xs ys=some b->(Op.equalIn (d+e) t (vOf P t xs) (vOf P t ys)).run P w=.ok b w
 | 0,e,t,ks,xs,ys,b,ht,h1,h2,h=>by cases ht
 | d+1,e,t,ks,xs,ys,b,ht,h1,h2,h=>by
  rw[show d+1+e=(d+e)+1 from by omega];cases hs:Qjp P t with
  | false=>
   obtain⟨hl,k,hk,rfl⟩:=QjL ht hs;obtain⟨x,rfl⟩:∃x,xs=[x]:=List.length_eq_one_iff.1 (by rw[<-List.length_map (f:=X5),h1];rfl);obtain⟨y,rfl⟩:∃y,ys=[y]:=List.length_eq_one_iff.1 (by rw[<-List.length_map (f:=X5),h2];rfl);simp only[List.map_cons,List.map_nil,List.cons.injEq,and_true]at h1 h2;simp only[vOf,hs,Bool.false_eq_true,if_false,List.headD_cons];refine Qiu (d+e) (Qg6 hk h1) (Qg6 hk h2) ?_;simp only[eqC]at h;split at h
   ·rename_i p q e1 e2;cases e2;cases h;rw[e1];simp
   ·cases h
  | true=>
   simp only[vOf,hs,if_true];have hs0:=hs;unfold Qjp at hs;split at hs
   ·rename_i fs hu;unfold tqS at ht;simp only[hu]at ht;split at ht
    ·rename_i hc;simp only[Bool.not_eq_true']at hc;have hfo:P.fieldsOf t=fs:=by unfold Program.fieldsOf;rw[hu]
     rw[run_equalIn_struct w (d+e) t _ _ (by rw[hfo];exact hu) hc,hfo];exact Qmy (λt ks a c b q1 q2 q3 q4=>Qlm d e t ks a c b q1 q2 q3 q4) _ _ fs.toList 0 ks xs ys b ht (by simp) (by simp) h1 h2 h
    ·cases ht
   ·cases hs
variable{o:Oper}{L:Qc}
theorem QpT{t:TypeId}{ks:List Nat}{xs ys:List Value}{b:Bool}(ht:Qsi P t=some ks)(h1:xs.map X5=ks)(h2:ys.map X5=ks)(h:eqC xs ys=some b):(Op.equalIn 10000 t (.agg xs.toArray) (.agg ys.toArray)).run P w=.ok b w/\P.eqGuardType P.depth t=false:=by
 unfold Qsi at ht;split at ht
 ·rename_i hc;simp only[Bool.and_eq_true,Bool.not_eq_true']at hc;have h9:=Qlm (w:=w) 4 9996 t ks xs ys b ht h1 h2 h;simp only[vOf,hc.1,if_true]at h9;exact⟨h9,hc.2⟩
 ·cases ht
theorem QkS{t t':TypeId}{x y:Operand}{xs ys:List Value}{ks:List Nat}{b:Bool}(ho:o.op=.binOp .neq t x y t')(hx:ev L x=some (.agg xs.toArray))(hy:ev L y=some (.agg ys.toArray))(ht:Qsi P t=some ks)(h1:xs.map X5=ks)(h2:ys.map X5=ks)(h:eqC xs ys=some b):OpP P o L (.bool (!b)):=by
 intro ρ w hρ;obtain⟨g1,g2⟩:=QpT (w:=w) ht h1 h2 h;simp only[execOp,ho,hρ _ _ hx,hρ _ _ hy,Sem.run_bind,run_eqGuard_agg w _ _ _ _ _ _ g2,run_neq_struct,g1,Result.andThen_ok,Sem.run_pure]
end
end Gx
namespace Go.Proofs
open Go Go.RowKit Gx
attribute [local irreducible] Go.Calls Gx.S Gx.O Gx.D Gx.OpP Gx.OpQ Gx.OpH
set_option maxRecDepth 20000
instance:TFn Tryz.prog 11:=⟨by kernel_rfl⟩
instance:TFn Tryz.prog 40:=⟨by kernel_rfl⟩
instance:TFn Tryz.prog 43:=⟨by kernel_rfl⟩
theorem QtX:Qsi Tryz.prog 66=some [1,0,1,0,0,0,0,0,0]:=by kernel_rfl
theorem Qu1{x:TEnt}(h:dcE x=0):Qbg (dcD x)=0/\QnE (dcD x)=x:=by
  have h1:dcD x=Qe x:=if_pos h;unfold dcE at h;split at h
  · cases h
  · rename_i hl;rw[h1];exact⟨h,QrT om⟩
instance:TFn Tryz.prog 207:=⟨by kernel_rfl⟩
theorem Qbq:QJ Tryz.prog 199=true:=by kernel_rfl
instance:TFn Tryz.prog 199:=⟨Qbq⟩
instance:TFn Tryz.prog 142:=⟨by kernel_rfl⟩
theorem QfV:QJ Tryz.prog 143=true:=by kernel_rfl
instance:TFn Tryz.prog 143:=⟨QfV⟩
theorem QnG(w:World)(n lo hi:Int):CR 207 #[.int .i64 n,.int .i64 lo,.int .i64 hi] w (.bool (decide (lo<=n)&&decide (n<=hi))):=by
 refine eN3 Tryz.func207 Tryz.ntmps207 ?_
 refine Qbf ?_
 refine Xi 4 10 14 rfl
  (λhg1 _=>by
   refine aU6 ?_
   exact oJt 4 14)
  (λhg3 _=>by
   refine aU3 ?_
   exact oJf 4 14) ?_
 refine aU2 ?_
 exact rV
theorem Qed(w:World)(ok:Bool)(e:Int):CR 199 #[.bool ok,.int .i64 e] w (.int .i64 (cond ok 0 e)):=by
 refine eN2 Tryz.func199 Tryz.ntmps199 ?_
 refine aU9 ?_
 refine sCd rfl (λh1=>?_) λh1=>?_
 ·refine aU4 ?_
  exact rV (h:=by simp_all[QA])
 refine aU6 ?_
 exact rV (h:=by simp_all[QA])
theorem c143(w:World)(a:Option Addr)(cap:Nat)(es:List Int)(hs:Sl w [] a 1 es.length (λi=>[.int .i64 (es.getD i 0)]))(hm:es.length<=1000):CR 143 #[.slice a es.length cap] w (.int .i64 (Xt es)):=by
 refine eN1 Tryz.func143 Tryz.ntmps143 ?_
 refine QbX ?_
 refine Qp (α:=Nat) [2,4,7,8,9,10,11,12,13,14] (λk=>[(7,.int .i64 (k:Int))]) (λ_=>_) (λk=>k<=es.length/\Xt es=Xt (es.drop k)) (λk=>es.length-k) 0 ⟨om,rfl⟩ aSx (λw h=>h) (λk hk=>?_)
 obtain⟨hk1,hk2⟩:=hk
 refine aU5 ?_
 refine sCd rfl (λh1=>?_) λh1=>?_
 ·refine aU5 ?_
  refine o_p (Qa rfl rfl rfl Yw _ rfl om (hs.some om)) rfl (o_q (Qb rfl rfl QoM (hs.rd (i:=k) (j:=0) om rfl)) rfl (aU7 ?_))
  refine sCd rfl (λh2=>?_) λh2=>?_
  ·refine aU5 ?_
   exact rV (h:=by simp only[QA];rw[hk2,YD om,if_neg (by assumption)])
  refine aT4 ?_
  refine aU2 ?_
  exact Qs (k+1) om ⟨om,by rw[hk2,YD om,if_pos (by assumption)]⟩ aSx (λw h=>h)
 refine Qg rfl ?_
 refine aU4 ?_
 exact rV (h:=by simp only[QA];rw[hk2,QbK om])
theorem Qnf{w0 w:World}{M:List Nat}{As As':List HA}{b cap n:Nat}{t:TypeId}{tot:Nat}{cs:List Value}(h:HS w0 M As w)(hp:QL As (.blk b t tot cs) As')(hc:cs.all Qg8=true)(hn:cs.length=n)(hl:n<=1000) :
    Calls Tryz.prog 143 #[.slice (some ⟨b,0,none⟩) n cap] w λen w'=>en=.returned (.int .i64 (XM cs))/\Below w.heap.size w w':=by
  subst hn;have:=c143 w (some ⟨b,0,none⟩) cap (cs.map Go.RowKit.intOf) (by simpa using h.sl_ints hp hc) (by simpa using hl);rw[QcP hc]at this
  simpa using this
theorem c142(w:World)(n:Int):CR 142 #[.int .i64 n] w (.int .i64 (QK n)):=by
 refine eN1 Tryz.func142 Tryz.ntmps142 ?_
 refine aU7 ?_
 refine oCq rfl (λw1 h1=>QnG w1 _ _ _) (oCq rfl (λw1 h1=>Qed w1 _ _) (aU2 ?_))
 exact rV (h:=by simp only[QA,QK,cond_eq_ite,Bool.and_eq_true,decide_eq_true_eq])
theorem QbI{a b:Int}:XM [.int .i64 a,.int .i64 b]=if a=0 then b else a:=by
  simp only[XM]
  grind
theorem c198(w:World)(co mo rm:Int):CR 198 #[.int .i64 co,.int .i64 mo,.int .i64 rm] w (.int .i64 (if QK co=0 then Zn mo rm else QK co)):=by
 refine eN3 Tryz.func198 Tryz.ntmps198 ?_
 refine aU7 ?_
 refine oCq rfl (λw1 h1=>QnG w1 _ _ _) (aU ?_)
 refine Xi 6 10 16 rfl
  (λhg1 _=>by
   refine aU5 ?_
   refine o_p (Qd8 rfl rfl rfl om om om) rfl (aU3 ?_)
   refine oCq rfl (λw1 h1=>QnG w1 _ _ _) ?_
   exact oJt 6 16)
  (λhg3 _=>by
   refine aU5 ?_
   exact oJf 6 16) ?_
 refine aU5 ?_
 refine oCq rfl (λw1 h1=>c142 w1 _) (aU ?_)
 refine oCq rfl (λw1 h1=>Qed w1 _ _) (o_h (Ql (cs:=[_,_]) rfl rfl Yw QaC rfl rfl rfl) rfl (λb5 _=>oCq rfl (λw1 h1=>Qnf h1 aPk (by rfl) (by rfl) (by decide)) (aU2 ?_)))
 exact rV (h:=by simp only[QA];rw[QbI];simp only[Zn,cond_eq_ite,Bool.and_eq_true,decide_eq_true_eq])
theorem c153(w:World)(n:Int):CR 153 #[.int .i64 n] w (.int .i64 (QK n)):=by
 refine eN1 Tryz.func153 Tryz.ntmps153 ?_
 refine aU8 ?_
 refine oCq rfl (λw1 h1=>c27 w1 _ _ _) (aU2 ?_)
 refine sCd rfl (λh1=>?_) λh1=>?_
 ·have hz:QK n=15:=by have hq:=h1;unfold QK;rw[if_neg (by first|omega|(simp at hq;omega))]
  refine aU4 ?_
  exact rV (h:=by rw[hz];rfl)
 have hz:QK n=0:=by have hq:=h1;unfold QK;rw[if_pos (by first|omega|(simp at hq;omega))]
 refine aU5 ?_
 exact rV (h:=by rw[hz];rfl)
theorem c154(w:World)(mo rm:Int):CR 154 #[.int .i64 mo,.int .i64 rm] w (.int .i64 (Zn mo rm)):=by
 refine eN2 Tryz.func154 Tryz.ntmps154 ?_
 refine aU8 ?_
 refine oCq rfl (λw1 h1=>c27 w1 _ _ _) (aU2 ?_)
 refine oOr 7 8 15 rfl
  (λhg1 _=>by
   refine aU5 ?_
   refine o_p (Qd8 rfl rfl rfl om om om) rfl (aU3 ?_)
   refine oCq rfl (λw1 h1=>c27 w1 _ _ _) (aU2 ?_)
   exact oJf 7 15)
  (λhg3 _=>by
   refine aU6 ?_
   exact oJt 7 15) ?_
 refine aU ?_
 refine sCd rfl (λh5=>?_) λh5=>?_
 ·have hz:Zn mo rm=2:=by have hq:=h5;unfold Zn;rw[if_neg (by first|omega|(simp at hq;omega))]
  refine aU4 ?_
  exact rV (h:=by rw[hz];rfl)
 have hz:Zn mo rm=0:=by have hq:=h5;unfold Zn;rw[if_pos (by first|omega|(simp at hq;omega))]
 refine aU5 ?_
 exact rV (h:=by rw[hz];rfl)
end Go.Proofs
namespace Go.Proofs
open Go Go.RowKit Gx
theorem QqF{α:Type}[Inhabited α]{vals:α->List Value}{sz n:Nat}{W:World}{a:Option Addr}{cell:Nat->List Value}{Q:α->Prop}(hs:Sl W [] a sz n cell)(hr:∀i,i<n->∃x,cell i=vals x/\Q x):∃l:List α,n=l.length/\Rw vals sz W [] a l/\(∀x∈l,Q x)/\∀i,i<n->cell i=vals (nth l i):=by
 have hr2:∀i,∃x,i<n->cell i=vals x/\Q x:=λi=>by
  by_cases hi:i<n
  ·obtain⟨x,h⟩:=hr i hi;exact⟨x,λ_=>h⟩
  ·exact⟨default,λh=>absurd h hi⟩
 obtain⟨f,hf⟩:=Classical.axiomOfChoice hr2
 have hg:∀i,i<n->nth ((List.range n).map f) i=f i:=λi hi=>by
  simp only[nth,List.getD_eq_getElem?_getD,List.getElem?_map,List.getElem?_range hi,Option.map_some,Option.getD_some]
 refine⟨(List.range n).map f,by simp,⟨λhn=>?_⟩,λx hx=>?_,λi hi=>?_⟩
 ·rw[List.length_map,List.length_range]at hn;obtain⟨b,o,e,h2⟩:=hs.at_ hn;refine⟨b,o,e,λi hi=>?_⟩;rw[List.length_map,List.length_range]at hi;have h3:=h2 i hi;rw[(hf i hi).1]at h3;rw[hg i hi];exact h3
 ·obtain⟨i,hi,rfl⟩:=List.mem_map.1 hx;exact(hf i (List.mem_range.1 hi)).2
 ·rw[hg i hi];exact(hf i hi).1
theorem QlJ:Tryz.prog.cellsOf 3=1:=by kernel_rfl
theorem QsC:Tryz.prog.cellsOf 4=1:=by kernel_rfl
theorem Qse:Tryz.prog.cellsOf 9=1:=by kernel_rfl
theorem Qf8:Tryz.prog.cellsOf 84=2:=by kernel_rfl
theorem Qni:Tryz.prog.cellsOf 125=1:=by kernel_rfl
theorem Qm4:Tryz.prog.cellsOf 124=1:=by kernel_rfl
theorem Qnm:Tryz.prog.cellsOf 127=3:=by kernel_rfl
section
variable{W:World}{d:Nat}
theorem ln2{cs:List Value}(h:cs.length=2):∃x0 x1,cs=[x0,x1]:=by
 match cs,h with
 | [x0,x1],_=>exact⟨x0,x1,rfl⟩
theorem ln3{cs:List Value}(h:cs.length=3):∃x0 x1 x2,cs=[x0,x1,x2]:=by
 match cs,h with
 | [x0,x1,x2],_=>exact⟨x0,x1,x2,rfl⟩
theorem Qrj{x:Value}(h:okT Tryz.prog W d 4 [x]):∃n,x=.bool n:=by
 obtain⟨n,e⟩:=Qo2 h Tryz.underlying4;cases e;exact⟨n,rfl⟩
theorem QoC{x:Value}(h:okT Tryz.prog W d 9 [x]):∃l:List UInt8,x=.string (bs l)/\l.length<=maxLen:=by
 obtain⟨l,e,g⟩:=QiG h Tryz.underlying9;cases e;exact⟨l,rfl,g⟩
theorem Qur{cs:List Value}(h:okT Tryz.prog W d 84 cs):∃x:TEnt,cs=x.vals/\True:=by
 obtain⟨d2,l,o⟩:=Qix h Tryz.underlying84;rw[Qf8]at l;obtain⟨x0,x1,rfl⟩:=ln2 l;simp only[List.mem_cons,List.mem_nil_iff,or_false,forall_eq_or_imp,forall_eq]at o;rw[Qse]at o;obtain⟨s,rfl,hs⟩:=QoC (x:=x0) o.1;obtain⟨t,rfl,ht⟩:=QoC (x:=x1) o.2;exact⟨⟨s,t⟩,rfl,trivial⟩
theorem Qsr{x:Value}(h:okT Tryz.prog W d 124 [x]):∃a c l,x=.slice a (List.length (α:=TEnt) l) c/\Rw TEnt.vals 2 W [] a l:=by
 obtain⟨d2,a,n,cap,cell,e,h1,h2,sl,rows⟩:=Qks h Tryz.underlying124 (by rw[Qf8];decide);rw[Qf8]at sl;cases e;obtain⟨l,rfl,hl,_⟩:=QqF (vals:=TEnt.vals) (Q:=λ_=>True) sl λi hi=>Qur (rows i hi);exact⟨a,cap,l,rfl,hl⟩
theorem QrK{x:Value}(h:okT Tryz.prog W d 125 [x]):∃a c l,x=.slice a (List.length (α:=Int) l) c/\Rw inV 1 W [] a l:=by
 obtain⟨d2,a,n,cap,cell,e,h1,h2,sl,rows⟩:=Qks h Tryz.underlying125 (by rw[QlJ];decide);rw[QlJ]at sl;cases e
 obtain⟨l,rfl,hl,_⟩:=QqF (vals:=inV) (Q:=λ_=>True) sl λi hi=>by
  obtain⟨m,e,g⟩:=Qeg (rows i hi) Tryz.underlying3;exact⟨m,e,trivial⟩
 exact⟨a,cap,l,rfl,hl⟩
theorem QvJ{cs:List Value}(h:okT Tryz.prog W d 127 cs):∃k:LNd,cs=k.vals/\Rw TEnt.vals 2 W [] k.ea k.es/\Rw inV 1 W [] k.ca k.cs:=by
 obtain⟨d2,l,o⟩:=Qix h Tryz.underlying127;rw[Qnm]at l;obtain⟨x0,x1,x2,rfl⟩:=ln3 l;simp only[List.mem_cons,List.mem_nil_iff,or_false,forall_eq_or_imp,forall_eq]at o;rw[QsC,Qm4,Qni]at o;obtain⟨n0,rfl⟩:=Qrj (x:=x0) o.1;obtain⟨ea,ec,es,rfl,he⟩:=Qsr (x:=x1) o.2.1;obtain⟨ca,cc,ks,rfl,hk⟩:=QrK (x:=x2) o.2.2;exact⟨⟨n0,ea,ec,es,ca,cc,ks⟩,rfl,he,hk⟩
theorem Qot{n:Nat}{a:Option Addr}{cell:Nat->List Value}(sl:Sl W [] a 3 n cell)(rows:∀i,i<n->okT Tryz.prog W d 127 (cell i)):∃l:List LNd,n=l.length/\Nt W [] a l:=by
 obtain⟨l,rfl,hl,hk,_⟩:=QqF (vals:=LNd.vals) (Q:=λk=>Rw TEnt.vals 2 W [] k.ea k.es/\Rw inV 1 W [] k.ca k.cs) sl λi hi=>QvJ (rows i hi);exact⟨l,rfl,hl,hk⟩
end
end Go.Proofs
namespace Go.Proofs
open Go Go.RowKit Gx
attribute [local irreducible] Go.Calls Gx.S Gx.O Gx.D Gx.OpP Gx.OpQ Gx.OpH
set_option maxRecDepth 20000
instance:TFn Tryz.prog 219:=⟨by kernel_rfl⟩
theorem Qn6(a b:Int):Value.int .i64 (IntKind.i64.wrap ((if decide (b<a)=true then 1 else 0)-(if decide (a<b)=true then 1 else 0)))=Value.int .i64 (XR a b):=by
  unfold XR
  by_cases h1:a<b
  · have h2:¬b<a:=by omega
    simp only[h1,h2,decide_true,decide_false,Bool.false_eq_true,if_true,if_false];rfl
  · by_cases h2:b<a
    · simp only[h1,h2,decide_true,decide_false,Bool.false_eq_true,if_true,if_false];rfl
    · simp only[h1,h2,decide_true,decide_false,Bool.false_eq_true,if_true,if_false];rfl
theorem c219(w:World)(b:Bool):CR 219 #[.bool b] w (.int .i64 (if b then 1 else 0)):=by
 refine eN1 Tryz.func219 Tryz.ntmps219 ?_
 refine aU9 ?_
 refine sCd rfl (λh1=>?_) λh1=>?_
 ·refine aU4 ?_
  exact rV (h:=by simp_all[QA])
 refine aU5 ?_
 exact rV (h:=by simp_all[QA])
theorem Qt1(w:World)(n:Int):CR 311 #[.int .i64 n] w (.bool (decide (0<=n)&&decide (n<=2147483647))):=by
 refine eN1 Tryz.func311 Tryz.ntmps311 ?_
 refine aU7 ?_
 refine oCq rfl (λw1 h1=>c27 w1 _ _ _) (aU2 ?_)
 exact rV
theorem QoU(w:World)(a b:Int):CR 149 #[.int .i64 a,.int .i64 b] w (.int .i64 (XR a b)):=by
 refine eN2 Tryz.func149 Tryz.ntmps149 ?_
 refine aU9 ?_
 refine oCq rfl (λw1 h1=>c219 w1 _) (aU3 ?_)
 refine oCq rfl (λw1 h1=>c219 w1 _) (aU ?_)
 refine Qu (show _=Value.int .i64 (XR a b)from Qn6 a b) (aU2 ?_)
 exact rV
theorem c150(w:World)(c:Int)(h0:0<=c/\c<=255):CR 150 #[.int .i64 c] w (.int .i64 (QgV c)):=by
 refine eN1 Tryz.func150 Tryz.ntmps150 ?_
 refine aU8 ?_
 refine oCq rfl (λw1 h1=>c27 w1 _ _ _) (aU ?_)
 refine sCd rfl (λh1=>?_) λh1=>?_
 ·have hz:QgV c=c-97+65:=by have hq:=h1;unfold QgV;rw[if_pos (by first|exact hq|(simp at hq;omega))];omega
  refine aT4 ?_
  refine aT ?_
  refine aU2 ?_
  exact rV (h:=by rw[hz];rfl)
 have hz:QgV c=c:=by have hq:=h1;unfold QgV;rw[if_neg (by intro h9;first|exact hq h9|(simp at hq;omega))]
 refine aU6 ?_
 exact rV (h:=by rw[hz];rfl)
theorem Qir:tki Tryz.prog 347=some .u16:=by kernel_rfl
theorem Qpb:QJ Tryz.prog 334=true:=by kernel_rfl
theorem Qof:tki Tryz.prog 318=some .u32:=by kernel_rfl
instance:TFn Tryz.prog 309:=⟨by kernel_rfl⟩
instance:TFn Tryz.prog 310:=⟨by kernel_rfl⟩
theorem c334(w:World)(a:Option Addr)(m cap:Nat)(x:List UInt8)(hs:Vl w a (x.map bv))(hm:x.length=m)(h2:2<=m)(hc:m<=cap)(hc9:cap<=9223372036854775807):CR 334 #[.slice a m cap] w (.int .u16 (at2 x 0)):=by
 refine eN1 Tryz.func334 Tryz.ntmps334 ?_
 refine aU5 ?_
 refine QH [] mixed ?_
 refine dP 0 ?_
 refine dV 1 rfl (Qa rfl rfl rfl XF 0 rfl om (hs.some (by rw[List.length_map];omega))) (dQ 2 [] rfl (Qb rfl rfl QgM ((hs.rd (i:=0) (Qcs (l:=x) (k:=0) om)))) (dV 3 rfl (Q6 rfl rfl Qer Qir) (dP 4 ?_)))
 refine dV 5 rfl (Qa rfl rfl rfl XF 1 rfl om (hs.some (by rw[List.length_map];omega))) (dQ 6 [] rfl (Qb rfl rfl QgM ((hs.rd (i:=1) (Qcs (l:=x) (k:=1) om)))) (dV 7 rfl (Q6 rfl rfl Qer Qir) (dV 8 rfl (Qme rfl rfl rfl (by decide) 8 rfl) (dP 9 ?_))))
 refine dP 10 ?_
 refine dNi ?_
 exact rV (h:=by rw[<-Qo5];rfl)
theorem c309(w:World)(a:Option Addr)(m cap:Nat)(x:List UInt8)(hs:Vl w a (x.map bv))(hm:x.length=m)(h2:4<=m)(hc:m<=cap)(hc9:cap<=9223372036854775807):CR 309 #[.slice a m cap] w (.int .u32 (at4 x 0)):=by
 have hx2:=Qez x 0
 have hx3:=Qez x 2
 refine eN1 Tryz.func309 Tryz.ntmps309 ?_
 refine aU5 ?_
 refine QH [] mixed ?_
 refine dP 0 ?_
 refine dQ 1 [] rfl (Qv rfl Qpb rfl (λw1 h1=>c334 w1 a m cap x (hs.later h1) hm om hc hc9)) (dV 2 rfl (Q6 rfl rfl Qir Qof) (dP 3 ?_))
 refine dV 4 rfl (QV _ _ 2 m rfl rfl XF ⟨_,_,rfl,rfl⟩ rfl om om) (dQ 5 [] rfl (Qv rfl Qpb rfl (λw1 h1=>c334 w1 (Zg a cap 2 1) (m-2) (cap-2) (x.drop 2) (by rw[List.map_drop];exact(hs.later h1).drop (by rw[List.length_map];omega) om) (by rw[List.length_drop];omega) om om om)) (dV 6 rfl (Q6 rfl rfl Qir Qof) (dV 7 rfl (Qme rfl rfl rfl (by decide) 16 rfl) (dP 8 ?_))))
 refine dP 9 ?_
 refine dNi ?_
 exact rV (h:=by have h9:=Qoz (at2 x 0) (at2 (x.drop 2) 0) (Qez _ _) (Qez _ _);rw[QfP]at h9 ⊢;exact(congrArg Ending.returned h9))
theorem Qu3(w:World)(s:List UInt8)(p:Nat)(hm:s.length<=1000000)(hp:p+4<=s.length):CR 271 #[.string (bs s),.int .i64 (p:Int)] w (.int .u32 (at4 s p)):=by
 have h4:=QhY s p
 have hdl:(s.drop p).length=s.length-p:=List.length_drop
 refine eN2 Tryz.func271 Tryz.ntmps271 ?_
 refine aU8 ?_
 refine o_p (XI p rfl rfl rfl Tryz.underlying9 rfl om) rfl (o_h (Z0 rfl rfl Tryz.underlying9 Tryz.underlying226 Tryz.underlying5 rfl (by simp only[maxLen];omega)) rfl (λ⟨b1,c2⟩⟨h3,k4⟩=>oCq rfl (λw1 h1=>by have h9:=c309 w1 (some ⟨b1,0,none⟩) (s.drop p).length c2 (s.drop p) (h1.vl_blk aPk) rfl om (by assumption) (by have hq9:c2<=maxLen:=(by assumption);simp only[maxLen]at hq9;omega);rw[Qok,Nat.add_zero]at h9;exact h9) (aU2 ?_)))
 exact rV
theorem c310(w:World)(x:Int):CR 310 #[.int .u32 x] w (.bool false):=by
 refine eN1 Tryz.func310 Tryz.ntmps310 ?_
 refine Qab ?_
 exact rV (h:=by simp[QA])
theorem c272(w:World)(x y:Int):CR 272 #[.int .u32 x,.int .u32 y] w (.int .i64 (XR x y)):=by
 refine eN2 Tryz.func272 Tryz.ntmps272 ?_
 refine aU7 ?_
 refine oCq rfl (λw1 h1=>c310 w1 _) (aU5 ?_)
 refine oCq rfl (λw1 h1=>c310 w1 _) (aU7 ?_)
 refine sCd rfl (λh1=>?_) λh1=>?_
 ·exfalso;simp at h1
 refine aU6 ?_
 refine sCd rfl (λh2=>?_) λh2=>?_
 ·exfalso;simp at h2
 refine aU8 ?_
 refine sCd rfl (λh3=>?_) λh3=>?_
 ·have hz:XR x y= -1:=by have hq:=h3;unfold XR;rw[if_pos hq]
  refine aU4 ?_
  exact rV (h:=by rw[hz];rfl)
 refine aU8 ?_
 refine sCd rfl (λh4=>?_) λh4=>?_
 ·have hz:XR x y=1:=by have hq:=h4;unfold XR;rw[if_neg om,if_pos hq]
  refine aU4 ?_
  exact rV (h:=by rw[hz];rfl)
 have hz:XR x y=0:=by have hq:=h4;unfold XR;rw[if_neg om,if_neg hq]
 refine aU5 ?_
 exact rV (h:=by rw[hz];rfl)
instance:TFn Tryz.prog 271:=⟨by kernel_rfl⟩
instance:TFn Tryz.prog 272:=⟨by kernel_rfl⟩
instance:TFn Tryz.prog 214:=⟨by kernel_rfl⟩
def Qbo(s:List UInt8)(q:Nat):Bool:=(List.range q).all λi=>QeY s (4*i)
theorem QmR{s:List UInt8}{q k:Nat}(hk:k<q)(h:2147483647<at4 s (4*k)):Qbo s q=false:=by
  unfold Qbo;rw[List.all_eq_false];exact⟨k,List.mem_range.2 hk,by unfold QeY;simp;omega⟩
theorem Qjf{s:List UInt8}{k:Nat}(h:Qbo s k=true)(h2:¬2147483647<at4 s (4*k)):Qbo s (k+1)=true:=by
  unfold Qbo at h ⊢;rw[List.range_succ,List.all_append,h];unfold QeY;simp;omega
def Qb7(a b:List UInt8):Nat->Nat->Int
  | 0,_=>0
  | f+1,k=>if XR (at4 a (4*k)) (at4 b (4*k))≠0 then XR (at4 a (4*k)) (at4 b (4*k))else Qb7 a b f (k+1)
theorem c214(w:World)(s:List UInt8)(q:Nat)(hm:s.length<=1000000)(hq:q<=1000):CR 214 #[.string (bs s),.int .i64 ((4*q:Nat):Int)] w (.bool (decide (s.length=4*q)&&Qbo s q)):=by
 refine eN2 Tryz.func214 Tryz.ntmps214 ?_
 refine aU8 ?_
 refine o_p (Qn rfl rfl Tryz.underlying9) rfl (aU3 ?_)
 refine sCd rfl (λh1=>?_) λh1=>?_
 ·have hne:¬s.length=4*q:=by have hq9:=h1;omega
  refine aU4 ?_
  exact rV (h:=by simp[QA,hne])
 have heq:s.length=4*q:=by have hq9:=h1;omega
 refine aU7 ?_
 refine Qp (α:=Nat) [4,5,10,11,12,13,14,15,16,17,18] (λk=>[(5,.int .i64 ((4*k:Nat):Int))]) (λ_=>_) (λk=>k<=q/\Qbo s k=true) (λk=>q-k) 0 ⟨Nat.zero_le _,rfl⟩ aSx (λw h=>h) (λk hx=>?_)
 obtain⟨hk1,hok⟩:=hx
 refine aU7 ?_
 refine sCd rfl (λh2=>?_) λh2=>?_
 ·have hk:k<q:=by omega
  refine aU7 ?_
  refine oCq rfl (λw1 h1=>Qu3 w1 s (4*k) om om) (aU2 ?_)
  refine sCd rfl (λh3=>?_) λh3=>?_
  ·have hz:=QmR hk h3
   refine aU4 ?_
   exact rV (h:=by simp[QA,hz])
  have hz:=Qjf hok h3
  refine aT5 ?_
  refine aU2 ?_
  exact Qs (k+1) om ⟨om,hz⟩ (by rw[show(((4*k:Nat)):Int)+4=((4*(k+1):Nat):Int)from om];exact aSx) (λw h=>h)
 obtain rfl:k=q:=om
 refine Qg rfl ?_
 refine aU4 ?_
 exact rV (h:=by simp[QA,heq,hok])
theorem c215(w:World)(a b:List UInt8)(q:Nat)(ha:a.length=4*q)(hb:b.length=4*q)(hq:q<=1000):CR 215 #[.string (bs a),.string (bs b)] w (.int .i64 (Qb7 a b q 0)):=by
 refine eN2 Tryz.func215 Tryz.ntmps215 ?_
 refine Qbf ?_
 refine Qp (α:=Nat) [4,5,6,7,8,9,10,11,12,13,14,15,16,17,18,19,20,21,22] (λk=>[(5,.int .i64 ((4*k:Nat):Int))]) (λ_=>_) (λk=>k<=q/\Qb7 a b q 0=Qb7 a b (q-k) k) (λk=>q-k) 0 ⟨Nat.zero_le _,rfl⟩ aSx (λw h=>h) (λk hx=>?_)
 obtain⟨hk1,hx2⟩:=hx
 refine aU5 ?_
 refine o_p (Qn rfl rfl Tryz.underlying9) rfl (aU2 ?_)
 refine sCd rfl (λh1=>?_) λh1=>?_
 ·have hk:k<q:=by omega
  have hst:Qb7 a b (q-k) k=if XR (at4 a (4*k)) (at4 b (4*k))≠0 then XR (at4 a (4*k)) (at4 b (4*k))else Qb7 a b (q-(k+1)) (k+1):=by rw[show q-k=(q-(k+1))+1 by omega,Qb7]
  refine aU7 ?_
  refine oCq rfl (λw1 h1=>Qu3 w1 a (4*k) om om) (aU2 ?_)
  refine oCq rfl (λw1 h1=>Qu3 w1 b (4*k) om om) (oCq rfl (λw1 h1=>c272 w1 _ _) (aU7 ?_))
  refine sCd rfl (λh2=>?_) λh2=>?_
  ·have hq9:XR (at4 a (4*k)) (at4 b (4*k))≠0:=h2
   rw[hst,if_pos hq9]at hx2
   refine aU5 ?_
   exact rV (h:=by rw[hx2];rfl)
  have hq9:¬XR (at4 a (4*k)) (at4 b (4*k))≠0:=by have hq8:=h2;simpa using hq8
  rw[hst,if_neg hq9]at hx2
  refine aT5 ?_
  refine aU2 ?_
  exact Qs (k+1) om ⟨om,hx2⟩ (by rw[show(((4*k:Nat)):Int)+4=((4*(k+1):Nat):Int)from om];exact aSx) (λw h=>h)
 obtain rfl:k=q:=om
 rw[Nat.sub_self,Qb7]at hx2
 refine Qg rfl ?_
 refine aU4 ?_
 exact rV (h:=by rw[hx2];rfl)
theorem c213(w:World)(s:List UInt8)(hm:s.length<=1000000):CR 213 #[.string (bs s)] w (.bool (Q7 2 s)):=by
 refine eN1 Tryz.func213 Tryz.ntmps213 ?_
 refine aU7 ?_
 refine oCq rfl (λw1 h1=>c214 w1 s 1 hm (by decide)) (aU2 ?_)
 exact rV (h:=by simp[QA,Q7,Qbo,List.range_succ,List.range_zero])
theorem c216(w:World)(s:List UInt8)(hm:s.length<=1000000):CR 216 #[.string (bs s)] w (.bool (Q7 3 s)):=by
 refine eN1 Tryz.func216 Tryz.ntmps216 ?_
 refine aU7 ?_
 refine oCq rfl (λw1 h1=>c214 w1 s 2 hm (by decide)) (aU2 ?_)
 exact rV (h:=by simp[QA,Q7,Qbo,List.range_succ,List.range_zero])
theorem c208(w:World)(s:List UInt8):CR 208 #[.string (bs s)] w (.bool (Q7 0 s)):=by
 refine eN1 Tryz.func208 Tryz.ntmps208 ?_
 refine aU7 ?_
 refine o_p (Qn rfl rfl Tryz.underlying9) rfl (oCq rfl (λw1 h1=>QnG w1 _ _ _) (aU2 ?_))
 exact rV (h:=by simp[QA,Q7,Bool.decide_and];first|done|(congr 1<;>simp<;>omega)|grind)
theorem c210(w:World)(s:List UInt8):CR 210 #[.string (bs s)] w (.bool (Q7 1 s)):=by
 refine eN1 Tryz.func210 Tryz.ntmps210 ?_
 refine aU7 ?_
 refine o_p (Qn rfl rfl Tryz.underlying9) rfl (oCq rfl (λw1 h1=>QnG w1 _ _ _) (aU2 ?_))
 exact rV (h:=by simp[QA,Q7,Bool.decide_and];first|done|(congr 1<;>simp<;>omega)|grind)
theorem Qpe:QM Tryz.prog 221=some [.nilFunc,.nilFunc,.nilFunc,.nilFunc,.nilFunc,.nilFunc,.nilFunc,.nilFunc]:=by kernel_rfl
theorem QhS:YH Tryz.prog 205=some [(0,1),(1,1)]:=by kernel_rfl
theorem Qh0:QM Tryz.prog 205=some [.nilFunc,.nilFunc]:=by kernel_rfl
theorem QgE:tar Tryz.prog 221=some (4,205,2):=by kernel_rfl
theorem Qqu:tsz Tryz.prog 221=some (8,true):=by kernel_rfl
instance:TSz Tryz.prog 221 8 true:=⟨Qqu⟩
theorem Qk9:QJ Tryz.prog 145=true:=by kernel_rfl
instance:TFn Tryz.prog 145:=⟨Qk9⟩
theorem Qgk:tsz Tryz.prog 205=some (2,true):=by kernel_rfl
instance:TSz Tryz.prog 205 2 true:=⟨Qgk⟩
theorem Qo0:tfd Tryz.prog 205 0=some (0,186):=by kernel_rfl
theorem QuA:tsz Tryz.prog 186=some (1,false):=by kernel_rfl
def QeE(co:Int):Nat:=if co=0 then 208 else if co=1 then 210 else if co=2 then 213 else 216
def Qev(co:Int):Nat:=if co=0 then 209 else if co=1 then 211 else 215
def Qa9(f:Nat):Value:=.func (.func f) #[] #[]
def ordV(co:Int):Value:=.agg #[Qa9 (QeE co),Qa9 (Qev co)]
theorem Qrq(w:World):CR 145 #[] w (.agg #[Qa9 (QeE 0),Qa9 (Qev 0),Qa9 (QeE 1),Qa9 (Qev 1),Qa9 (QeE 2),Qa9 (Qev 2),Qa9 (QeE 3),Qa9 (Qev 3)]):=by
 refine eN0 Tryz.func145 Tryz.ntmps145 ?_
 refine aU2 ?_
 refine oAl (λb1 _=>?_) Qpe
 refine aU3 ?_
 refine o_p (Xm (cs:=[_,_]) rfl rfl QhS Qh0 rfl) rfl (o_p (Xm (cs:=[_,_]) rfl rfl QhS Qh0 rfl) rfl (o_p (Xm (cs:=[_,_]) rfl rfl QhS Qh0 rfl) rfl (o_p (Xm (cs:=[_,_]) rfl rfl QhS Qh0 rfl) rfl (o_p (Qe1 (cs:=[_,_,_,_,_,_,_,_]) rfl rfl QgE Qpe rfl) rfl (aU2 ?_)))))
 exact Qm (rs:=[.cell 0 221]) rfl (.cell rfl Qqu aPk rfl (.nil)) (λw' h'=>⟨by rfl,h'.below⟩)
theorem Qvg(co:Int):QJ Tryz.prog (QeE co)=true:=by
  unfold QeE;split
  · kernel_rfl
  · split
    · kernel_rfl
    · split<;>kernel_rfl
theorem Qnk(w:World)(j:Nat)(s:List UInt8)(hj:j<=3)(hm:s.length<=1000000):Calls Tryz.prog (QeE (j:Int)) #[.string (bs s)] w λen w'=>en=.returned (.bool (Q7 (j:Int) s))/\Below w.heap.size w w':=by
  match j,hj with
  | 0,_=>exact c208 w s
  | 1,_=>exact c210 w s
  | 2,_=>exact c213 w s hm
  | 3,_=>exact c216 w s hm
theorem QdH(j:Nat)(hj:j<=3):Value.agg (cut [Qa9 (QeE 0),Qa9 (Qev 0),Qa9 (QeE 1),Qa9 (Qev 1),Qa9 (QeE 2),Qa9 (Qev 2),Qa9 (QeE 3),Qa9 (Qev 3)] (j*2) 2).toArray=ordV (j:Int):=by
  match j,hj with
  | 0,_=>rfl
  | 1,_=>rfl
  | 2,_=>rfl
  | 3,_=>rfl
theorem QuH(w:World)(j:Nat)(s:List UInt8)(hj:j<=3)(hm:s.length<=1000000):CR 144 #[.int .i64 (j:Int),.string (bs s)] w (.int .i64 (YM (j:Int) s)):=by
 refine eN2 Tryz.func144 Tryz.ntmps144 ?_
 refine aU6 ?_
 refine oCq rfl (λw1 h1=>Qrq w1) (aU ?_)
 refine o_p (QbY rfl rfl rfl QgE Qgk j rfl om) rfl (Qu (QdH j hj) (o_p (Qgq rfl rfl Qo0 QuA rfl) rfl (aU ?_)))
 refine o_q (YF rfl rfl (Qvg _) rfl (λw1 h1=>Qnk w1 j s hj hm)) rfl (oCq rfl (λw1 h1=>Qed w1 _ _) (aU2 ?_))
 exact rV (h:=by simp only[QA,YM,cond_eq_ite])
theorem Qp5:QJ Tryz.prog 144=true:=by kernel_rfl
instance:TFn Tryz.prog 144:=⟨Qp5⟩
theorem Qjw:tfd Tryz.prog 205 1=some (1,203):=by kernel_rfl
instance:TFd Tryz.prog 205 1 1 203:=⟨Qjw⟩
theorem QeK:tsz Tryz.prog 203=some (1,false):=by kernel_rfl
instance:TSz Tryz.prog 203 1 false:=⟨QeK⟩
theorem QqY(a b:List UInt8):Qb7 a b 1 0=QS 2 a b:=by
  simp only[Qb7,QS,Nat.mul_zero];split
  · rfl
  · rename_i h;simp only[ne_eq,Decidable.not_not]at h;rw[h];rfl
theorem QrQ(a b:List UInt8):Qb7 a b 2 0=QS 3 a b:=by
  have e:QS 3 a b=if XR (at4 a 0) (at4 b 0)≠0 then XR (at4 a 0) (at4 b 0)else XR (at4 a 4) (at4 b 4):=rfl
  rw[e];show(if XR (at4 a 0) (at4 b 0)≠0 then XR (at4 a 0) (at4 b 0)else if XR (at4 a 4) (at4 b 4)≠0 then XR (at4 a 4) (at4 b 4)else 0)=_
  by_cases h:XR (at4 a 0) (at4 b 0)≠0
  · rw[if_pos h,if_pos h]
  · rw[if_neg h,if_neg h];split
    · rfl
    · rename_i h2;simp only[ne_eq,Decidable.not_not]at h2;exact h2.symm
theorem Qfq{s:List UInt8}(h:Q7 2 s=true):s.length=4:=by
  unfold Q7 at h;simp at h;exact h.1
theorem Qfk{s:List UInt8}(h:Q7 3 s=true):s.length=8:=by
  unfold Q7 at h;simp at h;exact h.1
theorem Qgr(co:Int):QJ Tryz.prog (Qev co)=true:=by
  unfold Qev;split
  · kernel_rfl
  · split<;>kernel_rfl
theorem QaS(w:World)(j:Nat)(a b:List UInt8)(hj:j<=3)(hka:Q7 (j:Int) a=true)(hkb:Q7 (j:Int) b=true)(ha:a.length<=1000000)(hb:b.length<=1000000):Calls Tryz.prog (Qev (j:Int)) #[.string (bs a),.string (bs b)] w λen w'=>en=.returned (.int .i64 (QS (j:Int) a b))/\Below w.heap.size w w':=by
  match j,hj with
  | 0,_=>exact c209 w a b
  | 1,_=>exact c211 w a b ha hb
  | 2,_=>
    have h:=c215 w a b 1 (Qfq hka) (Qfq hkb) (by decide);rw[QqY]at h;exact h
  | 3,_=>
    have h:=c215 w a b 2 (Qfk hka) (Qfk hkb) (by decide);rw[QrQ]at h;exact h
theorem keyE_ok{co:Int}{k:List UInt8}(h:YM co k=0):Q7 co k=true:=by
  unfold YM at h;split at h
  · assumption
  · cases h
def Qjx(co:Int)(a b:List UInt8):Int:=if QK co=0 then if YM co a=0 then YM co b else YM co a else QK co
theorem Qf6{co:Int}(h:QK co=0):∃j:Nat,co=(j:Int)/\j<=3:=by
  unfold QK at h;split at h
  · exact⟨co.toNat,om,om⟩
  · cases h
theorem c80(w:World)(co:Int)(a b:List UInt8)(ha:a.length<=1000000)(hb:b.length<=1000000):CR 80 #[.int .i64 co,.string (bs a),.string (bs b)] w (.tuple #[.int .i64 (if Qjx co a b=0 then QS co a b else 0),.int .i64 (Qjx co a b)]):=by
 refine eN3 Tryz.func80 Tryz.ntmps80 ?_
 refine aU9 ?_
 refine oCq rfl (λw1 h1=>c142 w1 _) (aU7 ?_)
 refine sCd rfl (λh1=>?_) λh1=>?_
 ·have h0:¬QK co=0:=h1
  have hz:Qjx co a b=QK co:=by unfold Qjx;rw[if_neg h0]
  refine aU6 ?_
  exact Qm (rs:=[.tmp 6,.tmp 7]) rfl (.tmp rfl (.tmp rfl (.nil))) (λw' h'=>⟨by rw[hz,if_neg h0];rfl,h'.below⟩)
 have h0:QK co=0:=h1
 obtain⟨j,rfl,hj⟩:=Qf6 h0
 have hz:Qjx (j:Int) a b=XM [.int .i64 (YM (j:Int) a),.int .i64 (YM (j:Int) b)]:=by rw[QbI];unfold Qjx;rw[if_pos h0]
 refine aU6 ?_
 refine oCq rfl (λw1 h1=>QuH w1 j a hj ha) (aU2 ?_)
 refine oCq rfl (λw1 h1=>QuH w1 j b hj hb) (o_h (Ql (cs:=[_,_]) rfl rfl Yw QaC rfl rfl rfl) rfl (λb2 _=>oCq rfl (λw1 h1=>Qnf h1 aPk (by rfl) (by rfl) (by decide)) (aU7 ?_)))
 refine sCd rfl (λh3=>?_) λh3=>?_
 ·have h1:¬XM [.int .i64 (YM (j:Int) a),.int .i64 (YM (j:Int) b)]=0:=h3
  refine aU6 ?_
  exact Qm (rs:=[.tmp 6,.tmp 7]) rfl (.tmp rfl (.tmp rfl (.nil))) (λw' h'=>⟨by rw[hz,if_neg h1];rfl,h'.below⟩)
 have h1:XM [.int .i64 (YM (j:Int) a),.int .i64 (YM (j:Int) b)]=0:=h3
 obtain⟨hka,hkb⟩:YM (j:Int) a=0/\YM (j:Int) b=0:=by rw[QbI]at h1;split at h1;exact⟨by assumption,h1⟩;rename_i h9;exact absurd h1 h9
 refine aU3 ?_
 refine oCq rfl (λw1 h1=>Qrq w1) (aU ?_)
 refine o_p (QbY rfl rfl rfl QgE Qgk j rfl om) rfl (Qu (QdH j hj) (o_p (Qgq rfl rfl Qjw QeK rfl) rfl (aU2 ?_)))
 refine o_q (YF rfl rfl (Qgr _) rfl (λw1 h1=>QaS w1 j a b hj (keyE_ok hka) (keyE_ok hkb) ha hb)) rfl (aU3 ?_)
 exact Qm (rs:=[.tmp 6,.tmp 7]) rfl (.tmp rfl (.tmp rfl (.nil))) (λw' h'=>⟨by rw[hz,if_pos h1,h1];rfl,h'.below⟩)
theorem Qj9(co:Int)(x:TEnt):Ending.returned (Value.int .i64 (if YM co x.key=0 then cond (decide ((x.val.length:Int)<=64)) 0 8 else YM co x.key))=Ending.returned (Value.int .i64 (YU co x)):=by
  unfold YU
  by_cases h:YM co x.key=0
  · rw[if_pos h,if_pos h]
    by_cases h2:x.val.length<=64
    · rw[if_pos h2,decide_eq_true om];rfl
    · rw[if_neg h2,decide_eq_false om];rfl
  · rw[if_neg h,if_neg h];unfold YM at h ⊢;split at h
    · exact absurd rfl h
    · rename_i h3;rw[if_neg h3]
theorem c223(w:World)(j:Nat)(x:TEnt)(hj:j<=3)(hm:x.key.length<=1000000):CR 223 #[.int .i64 (j:Int),.agg #[.string (bs x.key),.string (bs x.val)]] w (.int .i64 (YU (j:Int) x)):=by
 refine eN2 Tryz.func223 Tryz.ntmps223 ?_
 refine aU2 ?_
 refine oBx λb1 _=>?_
 refine aU3 ?_
 refine QH [] mixed ?_
 refine dP 0 ?_
 refine dFa 1 ?_
 refine dLd 2 [] ?_
 refine dQ 3 [] rfl (Qv rfl Qp5 rfl (λw1 h1=>QuH w1 j x.key hj hm)) (dFa 4 ?_)
 refine dLd 5 [] ?_
 refine dV 6 rfl (Qn rfl rfl Tryz.underlying9) (dP 7 ?_)
 refine dQ 8 [] rfl (Qv rfl Qbq rfl (λw1 h1=>Qed w1 _ _)) (dH 9 rfl (Ql (cs:=[_,_]) rfl rfl Yw QaC rfl rfl rfl) (λb2 _=>dBa ?_))
 refine dQ 10 [] rfl (Qv rfl QfV rfl (λw1 h1=>Qnf h1 aPk (by rfl) (by rfl) (by decide))) (dP 11 ?_)
 refine dNi ?_
 exact rV (h:=by simp only[QA];rw[QbI];exact Qj9 _ _)
instance:TFn Tryz.prog 311:=⟨by kernel_rfl⟩
theorem kok0(s:List UInt8):Q7 ((0:Nat):Int) s=(decide ((1:Int)<=(s.length:Int))&&decide ((s.length:Int)<=40)):=by
  rw[Bool.eq_iff_iff];simp[Q7];omega
theorem kok1(s:List UInt8):Q7 ((1:Nat):Int) s=(decide ((1:Int)<=(s.length:Int))&&decide ((s.length:Int)<=32)):=by
  rw[Bool.eq_iff_iff];simp[Q7];omega
theorem kok2(s:List UInt8):Q7 ((2:Nat):Int) s=(decide ((s.length:Int)=4)&&(decide (0<=at4 s 0)&&decide (at4 s 0<=2147483647))):=by
  have:=QhY s 0;rw[Bool.eq_iff_iff];simp[Q7,QeY];omega
theorem kok3(s:List UInt8):Q7 ((3:Nat):Int) s=(decide ((s.length:Int)=8)&&(decide (0<=at4 s 0)&&decide (at4 s 0<=2147483647))&&(decide (0<=at4 s 4)&&decide (at4 s 4<=2147483647))):=by
  have:=QhY s 0;have:=QhY s 4;rw[Bool.eq_iff_iff];simp[Q7,QeY];omega
theorem c276(w:World)(j:Nat)(s:List UInt8)(hj:j<=3)(hm:s.length<=1000000):CR 276 #[.int .i64 (j:Int),.string (bs s)] w (.int .i64 (YM (j:Int) s)):=by
 refine eN2 Tryz.func276 Tryz.ntmps276 ?_
 refine aU7 ?_
 refine o_p (Qn rfl rfl Tryz.underlying9) rfl (oCq rfl (λw1 h1=>c27 w1 _ _ _) (Qas ?_))
 refine Xy (α:=Unit) [5,12,13,14,15,16,17,18,19,20,21,22,23,24,25,26,27,28,29,30,31,32,33,34,35,36,37,38,39] (λ_=>[(5,.bool (Q7 (j:Int) s))]) (λ_=>HS w [] []) (λ_=>True) ?_ ?_
 ·skip
  refine sCd rfl (λh1=>?_) λh1=>?_
  ·obtain rfl:j=1:=by have hq:=h1;omega
   refine aU2 ?_
   refine o_p (Qn rfl rfl Tryz.underlying9) rfl (oCq rfl (λw1 h1=>c27 w1 _ _ _) (aU2 ?_))
   exact Qo () trivial (by rw[kok1];exact aSx) (λw h=>h.ent aEt)
  have hn1:¬(j:Int)=1:=h1
  refine aU5 ?_
  refine sCd rfl (λh2=>?_) λh2=>?_
  ·obtain rfl:j=2:=by have hq:=h2;omega
   refine aU2 ?_
   refine o_p (Qn rfl rfl Tryz.underlying9) rfl (aU2 ?_)
   refine Xi 4 20 24 rfl
    (λhg3 _=>by
     refine aU3 ?_
     refine oCq rfl (λw1 h1=>by have h9:=QdP w1 s 0 4 om om (by have hq:=hg3;first|omega|(simp at hq;omega));rw[QbC]at h9;exact h9) (aU ?_)
     refine oCq rfl (λw1 h1=>Qt1 w1 _) ?_
     exact oJt 4 24)
    (λhg5 _=>by
     refine aU3 ?_
     exact oJf 4 24) ?_
   refine aU2 ?_
   exact Qo () trivial (by rw[kok2];exact aSx) (λw h=>h.ent aEt)
  have hn2:¬(j:Int)=2:=h2
  refine aU5 ?_
  refine sCd rfl (λh7=>?_) λh7=>?_
  ·obtain rfl:j=3:=by have hq:=h7;omega
   refine aU2 ?_
   refine o_p (Qn rfl rfl Tryz.underlying9) rfl (aU2 ?_)
   refine Xi 4 30 34 rfl
    (λhg8 _=>by
     refine aU3 ?_
     refine oCq rfl (λw1 h1=>by have h9:=QdP w1 s 0 4 om om (by have hq:=hg8;first|omega|(simp at hq;omega));rw[QbC]at h9;exact h9) (aU ?_)
     refine oCq rfl (λw1 h1=>Qt1 w1 _) ?_
     exact oJt 4 34)
    (λhg10 _=>by
     refine aU3 ?_
     exact oJf 4 34) ?_
   refine aU ?_
   refine Xi 4 35 39 rfl
    (λhg12 _=>by
     refine aU3 ?_
     refine oCq rfl (λw1 h1=>by have h9:=QdP w1 s 4 4 om om (by have hq:=hg12;first|omega|(simp at hq;omega));rw[QbC]at h9;exact h9) (aU ?_)
     refine oCq rfl (λw1 h1=>Qt1 w1 _) ?_
     exact oJt 4 39)
    (λhg14 _=>by
     refine aU3 ?_
     exact oJf 4 39) ?_
   refine aU2 ?_
   exact Qo () trivial (by rw[kok3];exact aSx) (λw h=>h.ent aEt)
  have hn3:¬(j:Int)=3:=h7
  obtain rfl:j=0:=om
  refine aU ?_
  exact Qo () trivial (by rw[kok0];exact aSx) (λw h=>h.ent aEt)
 intro _ _
 refine aU7 ?_
 refine sCd rfl (λh16=>?_) λh16=>?_
 ·have hz:YM (j:Int) s=3:=by have hq:=h16;unfold YM;rw[if_neg (by simpa using hq)]
  refine aU4 ?_
  exact rV (h:=by rw[hz];rfl)
 have hz:YM (j:Int) s=0:=by have hq:=h16;unfold YM;rw[if_pos (by simpa using hq)]
 refine aU5 ?_
 exact rV (h:=by rw[hz];rfl)
instance:TFn Tryz.prog 276:=⟨by kernel_rfl⟩
theorem c220(w:World)(j:Nat)(x:TEnt)(hj:j<=3)(hm:x.key.length<=1000000):CR 220 #[.int .i64 (j:Int),.agg #[.string (bs x.key),.string (bs x.val)]] w (.int .i64 (YU (j:Int) x)):=by
 refine eN2 Tryz.func220 Tryz.ntmps220 ?_
 refine aU2 ?_
 refine oBx λb1 _=>?_
 refine aU8 ?_
 refine oCq rfl (λw1 h1=>c276 w1 j x.key hj hm) (aU7 ?_)
 refine sCd rfl (λh2=>?_) λh2=>?_
 ·have h0:¬YM (j:Int) x.key=0:=h2
  have hz:YU (j:Int) x=YM (j:Int) x.key:=by have h9:=Qj9 (j:Int) x;rw[if_neg h0]at h9;injection h9 with h9;injection h9 with _ h9;exact h9.symm
  refine aU5 ?_
  exact rV (h:=by rw[hz];rfl)
 have h0:YM (j:Int) x.key=0:=h2
 refine aU6 ?_
 refine o_p (Qn rfl rfl Tryz.underlying9) rfl (aU2 ?_)
 refine sCd rfl (λh3=>?_) λh3=>?_
 ·have hz:YU (j:Int) x=8:=by have hq:=h3;unfold YU;rw[if_pos h0,if_neg om]
  refine aU4 ?_
  exact rV (h:=by rw[hz];rfl)
 have hz:YU (j:Int) x=0:=by have hq:=h3;unfold YU;rw[if_pos h0,if_pos om]
 refine aU5 ?_
 exact rV (h:=by rw[hz];rfl)
instance:TFn Tryz.prog 149:=⟨by kernel_rfl⟩
instance:TFn Tryz.prog 150:=⟨by kernel_rfl⟩
def mpK(j:Int)(l:List UInt8):List UInt8:=if j=1 then l.map QbH else l
theorem Qav(j:Int)(l:List UInt8):(mpK j l).length=l.length:=by unfold mpK;split<;>simp
theorem Qrv{j:Nat}(h2:¬(j:Int)=2)(h3:¬(j:Int)=3)(a b:List UInt8):QS (j:Int) a b=YI (mpK (j:Int) a) (mpK (j:Int) b):=by
  unfold QS mpK;rw[if_neg h2,if_neg h3];split<;>rfl
theorem Qng{x y:List UInt8}{k:Nat}(hx:k<x.length)(hy:k<y.length):YI (x.drop k) (y.drop k)=if XR ((x.getD k 0).toNat:Int) ((y.getD k 0).toNat:Int)≠0 then XR ((x.getD k 0).toNat:Int) ((y.getD k 0).toNat:Int)else YI (x.drop (k+1)) (y.drop (k+1)):=by
  rw[List.drop_eq_getElem_cons hx,List.drop_eq_getElem_cons hy,List.getD_eq_getElem?_getD,List.getD_eq_getElem?_getD,List.getElem?_eq_getElem hx,List.getElem?_eq_getElem hy];simp only[YI,Option.getD_some,XR,UInt8.lt_iff_toNat_lt];split
  · rename_i h;rw[if_pos om,if_pos om]
  · rename_i h;rw[if_neg (show¬((x[k].toNat:Int)<y[k].toNat) by omega)];split
    · rename_i h2;rw[if_pos om,if_pos om]
    · rename_i h2;rw[if_neg om]
theorem Qn4{x y:List UInt8}{k:Nat}(hx:k<=x.length)(hy:k<=y.length)(h:¬(k<x.length/\k<y.length)):YI (x.drop k) (y.drop k)=XR (x.length:Int) (y.length:Int):=by
  unfold XR;rcases Nat.lt_or_ge k x.length with h1|h1
  · have e:y.drop k=[]:=List.drop_of_length_le om;rw[e,List.drop_eq_getElem_cons h1,if_neg om,if_pos om];rfl
  · have e:x.drop k=[]:=List.drop_of_length_le h1;rw[e];rcases Nat.lt_or_ge k y.length with h2|h2
    · rw[List.drop_eq_getElem_cons h2,if_pos om];rfl
    · have e2:y.drop k=[]:=List.drop_of_length_le h2;rw[e2,if_neg om,if_neg om];rfl
theorem Qms{a:List UInt8}{k:Nat}(h:k<a.length):(((mpK 1 a).getD k 0).toNat:Int)=QgV ((a.getD k 0).toNat:Int):=by
  unfold mpK;rw[if_pos rfl,QgN,List.getD_eq_getElem?_getD,List.getElem?_map,List.getElem?_eq_getElem h,List.getD_eq_getElem?_getD,List.getElem?_eq_getElem h];rfl
theorem QqJ{j:Int}(hj:¬j=1)(a:List UInt8):mpK j a=a:=by unfold mpK;rw[if_neg hj]
theorem c84(w:World)(j:Nat)(a b:List UInt8)(hj:j<=3)(hka:Q7 (j:Int) a=true)(hkb:Q7 (j:Int) b=true)(ha:a.length<=1000000)(hb:b.length<=1000000):CR 84 #[.int .i64 (j:Int),.string (bs a),.string (bs b)] w (.int .i64 (QS (j:Int) a b)):=by
 refine eN3 Tryz.func84 Tryz.ntmps84 ?_
 refine Qqw ?_
 refine sCd rfl (λh1=>?_) λh1=>?_
 ·obtain rfl:j=2:=by have hq:=h1;omega
  have hl1:=Qfq hka
  have hl2:=Qfq hkb
  have hz:QS ((2:Nat):Int) a b=XR (at4 a 0) (at4 b 0):=rfl
  refine aU3 ?_
  refine oCq rfl (λw1 h1=>by have h9:=QdP w1 a 0 4 om om om;rw[QbC]at h9;exact h9) (aU ?_)
  refine oCq rfl (λw1 h1=>by have h9:=QdP w1 b 0 4 om om om;rw[QbC]at h9;exact h9) (oCq rfl (λw1 h1=>QoU w1 _ _) (aU2 ?_))
  exact rV (h:=by rw[hz];rfl)
 have hn2:¬(j:Int)=2:=h1
 refine aU5 ?_
 refine sCd rfl (λh2=>?_) λh2=>?_
 ·obtain rfl:j=3:=by have hq:=h2;omega
  have hl1:=Qfk hka
  have hl2:=Qfk hkb
  have hz:QS ((3:Nat):Int) a b=if XR (at4 a 0) (at4 b 0)≠0 then XR (at4 a 0) (at4 b 0)else XR (at4 a 4) (at4 b 4):=rfl
  refine aU4 ?_
  refine oCq rfl (λw1 h1=>by have h9:=QdP w1 a 0 4 om om om;rw[QbC]at h9;exact h9) (aU ?_)
  refine oCq rfl (λw1 h1=>by have h9:=QdP w1 b 0 4 om om om;rw[QbC]at h9;exact h9) (oCq rfl (λw1 h1=>QoU w1 _ _) (aU7 ?_))
  refine sCd rfl (λh3=>?_) λh3=>?_
  ·have hq9:XR (at4 a 0) (at4 b 0)≠0:=h3
   rw[if_pos hq9]at hz
   refine aU5 ?_
   exact rV (h:=by rw[hz];rfl)
  have hq9:¬XR (at4 a 0) (at4 b 0)≠0:=by have hq8:=h3;simpa using hq8
  rw[if_neg hq9]at hz
  refine aU4 ?_
  refine oCq rfl (λw1 h1=>by have h9:=QdP w1 a 4 4 om om om;rw[QbC]at h9;exact h9) (aU ?_)
  refine oCq rfl (λw1 h1=>by have h9:=QdP w1 b 4 4 om om om;rw[QbC]at h9;exact h9) (oCq rfl (λw1 h1=>QoU w1 _ _) (aU2 ?_))
  exact rV (h:=by rw[hz];rfl)
 have hn3:¬(j:Int)=3:=h2
 have hmp:=Qrv hn2 hn3 a b
 refine aU8 ?_
 refine Qp (α:=Nat) [6,8,9,10,11,35,36,37,38,39,40,41,42,43,44,45,46,47,48,49,50,51,52,53,54,55,56,57,58,59,60,61,62,63,64,65,66] (λk=>[(8,.int .i64 (k:Int))]) (λ_=>_) (λk=>k<=a.length/\k<=b.length/\YI (mpK (j:Int) a) (mpK (j:Int) b)=YI ((mpK (j:Int) a).drop k) ((mpK (j:Int) b).drop k)) (λk=>a.length-k) 0 ⟨Nat.zero_le _,Nat.zero_le _,rfl⟩ aSx (λw h=>h) (λk hx=>?_)
 obtain⟨hk1,hk2,hk3⟩:=hx
 refine aU5 ?_
 refine o_p (Qn rfl rfl Tryz.underlying9) rfl (aU2 ?_)
 refine Xi 5 39 44 rfl
  (λhg4 _=>by
   refine aU5 ?_
   refine o_p (Qn rfl rfl Tryz.underlying9) rfl (aU2 ?_)
   exact oJt 5 44)
  (λhg6 _=>by
   refine aU4 ?_
   exact oJf 5 44) ?_
 refine aU ?_
 refine sCd rfl (λh8=>?_) λh8=>?_
 ·obtain⟨hka1,hkb1⟩:k<a.length/\k<b.length:=by have hq:=h8;omega
  have hb1:=(a.getD k 0).toNat_lt
  have hb2:=(b.getD k 0).toNat_lt
  have hst:=Qng (x:=mpK (j:Int) a) (y:=mpK (j:Int) b) (k:=k) (by rw[Qav];exact hka1) (by rw[Qav];exact hkb1)
  refine aU4 ?_
  refine QH [] mixed ?_
  refine dP 0 ?_
  refine dP 1 ?_
  refine dV 2 rfl (Qr rfl rfl rfl Tryz.underlying9 (k) om om) ?_
  refine dV 3 rfl (Q6 rfl rfl Qer QdB) ?_
  try refine dWr ?_
  refine dP 4 ?_
  refine dP 5 ?_
  refine dV 6 rfl (Qr rfl rfl rfl Tryz.underlying9 (k) om om) ?_
  refine dV 7 rfl (Q6 rfl rfl Qer QdB) ?_
  try refine dWr ?_
  refine dP 8 ?_
  refine dP 9 ?_
  refine dNi ?_
  refine aU6 ?_
  refine Qd (L':=[(0,_),(1,_),(2,_),(8,_),(9,_),(10,_),(12,_),(13,_),(14,_),(20,_),(21,_),(56,_)]) aSx (λ_ h=>h) ?_
  refine Xy (α:=Unit) [9,10,57,58,59,60] (λ_=>[(9,.int .i64 (((mpK (j:Int) a).getD k 0).toNat:Int)),(10,.int .i64 (((mpK (j:Int) b).getD k 0).toNat:Int))]) (λ_=>HS w [] []) (λ_=>True) ?_ ?_
  ·skip
   refine sCd rfl (λh9=>?_) λh9=>?_
   ·obtain rfl:j=1:=by have hq:=h9;omega
    refine aU2 ?_
    refine oCq rfl (λw1 h1=>c150 w1 _ om) (aU ?_)
    refine oCq rfl (λw1 h1=>c150 w1 _ om) (aU3 ?_)
    exact Qo () trivial (by rw[show(((1:Nat):Int))=1 from rfl,Qms hka1,Qms hkb1];exact aSx) (λw h=>h.ent aEt)
   have hn1:¬(j:Int)=1:=h9
   refine aU ?_
   exact Qo () trivial (by rw[QqJ hn1,QqJ hn1];exact aSx) (λw h=>h.ent aEt)
  intro _ _
  refine aU4 ?_
  refine oCq rfl (λw1 h1=>QoU w1 _ _) (aU7 ?_)
  refine sCd rfl (λh10=>?_) λh10=>?_
  ·have hq9:XR (((mpK (j:Int) a).getD k 0).toNat:Int) (((mpK (j:Int) b).getD k 0).toNat:Int)≠0:=h10
   have hz:=hmp.trans (hk3.trans (hst.trans (if_pos hq9)))
   refine aU5 ?_
   exact rV (h:=by rw[hz];rfl)
  have hq9:¬XR (((mpK (j:Int) a).getD k 0).toNat:Int) (((mpK (j:Int) b).getD k 0).toNat:Int)≠0:=by have hq8:=h10;simpa using hq8
  have hz:=hk3.trans (hst.trans (if_neg hq9))
  refine aT5 ?_
  refine aU2 ?_
  exact Qs (k+1) om ⟨om,om,hz⟩ aSx (λw h=>h)
 have hz:=Qn4 (x:=mpK (j:Int) a) (y:=mpK (j:Int) b) (k:=k) (by rw[Qav];exact hk1) (by rw[Qav];exact hk2) (by rw[Qav,Qav];have hq:=h8;omega)
 rw[<-hk3,<-hmp,Qav,Qav]at hz
 refine Qg rfl ?_
 refine aU3 ?_
 refine o_p (Qn rfl rfl Tryz.underlying9) rfl (aU ?_)
 refine o_p (Qn rfl rfl Tryz.underlying9) rfl (oCq rfl (λw1 h1=>QoU w1 _ _) (aU2 ?_))
 exact rV (h:=by rw[hz];rfl)
theorem QpM:QM Tryz.prog 24=some [.int .i64 0,.int .i64 0,.int .i64 0,.slice none 0 0]:=by kernel_rfl
theorem Qum:YH Tryz.prog 127=some [(0,1),(1,1),(2,1)]:=by kernel_rfl
theorem YS:QM Tryz.prog 127=some [.bool false,.slice none 0 0,.slice none 0 0]:=by kernel_rfl
theorem XC:tsl Tryz.prog 22=some (127,3,56):=by kernel_rfl
theorem Qvq:YH Tryz.prog 24=some [(0,1),(1,1),(2,1),(3,1)]:=by kernel_rfl
theorem QsE:tsz Tryz.prog 24=some (4,true):=by kernel_rfl
instance:TSz Tryz.prog 24 4 true:=⟨QsE⟩
instance:TFd Tryz.prog 207 0 0 24:=⟨by kernel_rfl⟩
instance:TFd Tryz.prog 24 1 1 3:=⟨by kernel_rfl⟩
instance:TFd Tryz.prog 24 2 2 3:=⟨by kernel_rfl⟩
theorem ZP:tsz Tryz.prog 197=some (1,false):=by kernel_rfl
instance:TSz Tryz.prog 197 1 false:=⟨ZP⟩
instance:TFd Tryz.prog 24 0 0 3:=⟨by kernel_rfl⟩
theorem Quu:QJ Tryz.prog 223=true:=by kernel_rfl
instance:TFd Tryz.prog 207 1 4 205:=⟨by kernel_rfl⟩
instance:TFd Tryz.prog 127 1 1 124:=⟨by kernel_rfl⟩
theorem Z5:tsz Tryz.prog 124=some (1,false):=by kernel_rfl
instance:TSz Tryz.prog 124 1 false:=⟨Z5⟩
def tbV(co mo rm:Int)(a:Option Addr)(n cap:Nat):List Value:=[.int .i64 co,.int .i64 mo,.int .i64 rm,.slice a n cap,Qa9 (QeE co),Qa9 (Qev co)]
def TbR(w:World)(M:List Nat)(bt:Nat)(co mo rm:Int)(a:Option Addr)(n cap:Nat):Prop:=∀k v,(tbV co mo rm a n cap)[k]?=some v->Rd w M bt k v
section
variable{w w':World}{M M':List Nat}{As As':List HA}{bt:Nat}{co mo rm:Int}{a:Option Addr}{n cap:Nat}
theorem TbR.next(h:TbR w M bt co mo rm a n cap)(hs:HS w M As w'):TbR w' [] bt co mo rm a n cap:=λk v hv=>(h k v hv).next hs
theorem TbR.keep(h:TbR w M bt co mo rm a n cap)(hs:HS w M As w'):TbR w' (fps As) bt co mo rm a n cap:=λk v hv=>hs.keep (h k v hv)
theorem TbR.mono(h:TbR w M bt co mo rm a n cap)(hM:∀b∈M',b∈M):TbR w M' bt co mo rm a n cap:=λk v hv=>(h k v hv).mono hM
theorem HS.tbr{w0:World}{tot t:Nat}(h:HS w0 M As w)(hp:QL As (.blk bt t tot (tbV co mo rm a n cap)) As'):TbR w [] bt co mo rm a n cap:=λk v hv=>h.rd_blk (Mc:=[]) hp hv (by simp)
end
theorem c255(w:World)(a:Option Addr)(cap:Nat)(l:List TEnt)(q:Nat)(cv:Array Value)(es:List Int)(hs:Rw TEnt.vals 2 w [] a l)(hm:l.length<=1000000)(hq:QJ Tryz.prog q=true)(he:es.length=l.length)(hc:∀k w1,k<l.length->(∀j,j<k->es.getD j 0=0)->HS w [] [] w1->Calls Tryz.prog q (#[]++[.int .i64 (k:Int),.agg (TEnt.vals (nth l k)).toArray].toArray++cv) w1 λen w2=>en=.returned (.int .i64 (es.getD k 0))/\Below w1.heap.size w1 w2):CR 255 #[.slice a l.length cap,.func (.func q) #[] cv] w (.tuple #[.int .i64 (QD es 0).1,.int .i64 (QD es 0).2]):=by
 refine eN2 Tryz.func255 Tryz.ntmps255 ?_
 refine Qas ?_
 refine Qp (α:=Nat) [4,5,6,7,8,11,12,13,14,15,16,17,18,19,20,21,22,23,24] (λk=>[(11,.int .i64 (k:Int))]) (λ_=>HS w [] []) (λk=>k<=l.length/\QD es 0=QD (es.drop k) k/\∀j,j<k->es.getD j 0=0) (λk=>l.length-k) 0 ⟨om,rfl,λi h=>absurd h (Nat.not_lt_zero i)⟩ aSx (λw h=>h.ent aEt) (λk hk=>?_)
 obtain⟨hk1,hk2,hk3⟩:=hk
 refine aU5 ?_
 refine sCd rfl (λh1=>?_) λh1=>?_
 ·refine aU6 ?_
  refine o_p (Qa rfl rfl rfl QG (k) om om (Rw.some hs om)) rfl (o_q (Qq _ rfl rfl Qc8 rfl (Rw.rd hs om)) rfl (oAl (λb2 _=>?_) Qah))
  refine aU8 ?_
  refine o_q (YF rfl rfl hq rfl (λw1 h1=>hc k w1 om hk3 (h1.ent aEt))) rfl (aU7 ?_)
  refine sCd rfl (λh3=>?_) λh3=>?_
  ·refine aU7 ?_
   exact Qm (rs:=[.tmp 4,.tmp 5]) rfl (.tmp rfl (.tmp rfl (.nil))) (λw' h'=>⟨by simp only[QA];rw[hk2,X2 om,if_neg (by assumption)],h'.below⟩)
  refine aT4 ?_
  refine aU2 ?_
  exact sBk (k+1) om ⟨om,by rw[hk2,X2 om,if_pos (by assumption)],λj hj=>(Nat.lt_or_ge j k).elim (hk3 j) (λh=>by obtain rfl:j=k:=om;assumption)⟩
 refine Qg rfl ?_
 refine aU5 ?_
 exact Qm (rs:=[.tmp 4,.tmp 5]) rfl (.tmp rfl (.tmp rfl (.nil))) (λw' h'=>⟨by simp only[QA];rw[hk2,Zo om],h'.below⟩)
theorem c190(w:World)(bt:Nat)(j:Nat)(mo rm:Int)(a:Option Addr)(n cap:Nat)(hmo:0<=mo/\mo<=1000)(ht:TbR w [] bt (j:Int) mo rm a n cap):CR 190 #[.pointer (some ⟨bt,0,none⟩)] w (.int .i64 (mo/2)):=by
 refine eN1 Tryz.func190 Tryz.ntmps190 ?_
 refine Qbf ?_
 refine o_q (Qb rfl rfl Zh (ht 1 _ rfl)) rfl (o_p (Qd8 rfl rfl rfl om om om) rfl (aU2 ?_))
 exact rV
theorem c254(w:World)(bt:Nat)(j:Nat)(mo rm:Int)(a:Option Addr)(n cap:Nat)(i:Nat)(ht:TbR w [] bt (j:Int) mo rm a n cap):CR 254 #[.pointer (some ⟨bt,0,none⟩),.int .i64 (i:Int)] w (.int .i64 (YL mo rm i)):=by
 refine eN2 Tryz.func254 Tryz.ntmps254 ?_
 refine Qbf ?_
 refine sCd rfl (λh1=>?_) λh1=>?_
 ·obtain rfl:i=0:=by have hq:=h1;omega
  refine aU6 ?_
  refine o_q (Qb rfl rfl Zh (ht 2 _ rfl)) rfl (aU2 ?_)
  exact rV
 have hn0:¬i=0:=by have hq:=h1;omega
 refine aU7 ?_
 refine o_q (Qb rfl rfl Zh (ht 1 _ rfl)) rfl (aU2 ?_)
 exact rV (h:=by simp only[QA,YL];rw[if_neg hn0])
theorem c256(w:World)(c0:Nat)(k:Int)(x:TEnt)(bt:Nat)(j:Nat)(mo rm:Int)(a:Option Addr)(n cap:Nat)(hj:j<=3)(hx:x.key.length<=1000000)(hc0:Rd w [] c0 0 (.pointer (some ⟨bt,0,none⟩)))(ht:TbR w [] bt (j:Int) mo rm a n cap):CR 256 #[.int .i64 k,.agg #[.string (bs x.key),.string (bs x.val)],.pointer (some ⟨c0,0,none⟩)] w (.int .i64 (YU (j:Int) x)):=by
 refine eN3 Tryz.func256 Tryz.ntmps256 ?_
 refine aU2 ?_
 refine oBx λb1 _=>?_
 refine aU3 ?_
 refine QH [] mixed ?_
 refine dQ 0 [] rfl (Qb rfl rfl ZP (hc0)) (dP 1 ?_)
 refine dFa 2 ?_
 refine dFa 3 ?_
 refine dQ 4 [] rfl (Qb rfl rfl Zh (ht 0 _ rfl)) (dLn 5 [] ?_)
 refine dQ 6 [] rfl (Qv rfl Quu rfl (λw1 h1=>c223 w1 j x hj hx)) (dP 7 ?_)
 refine dNi ?_
 exact rV
theorem c259(w:World)(c0 c7:Nat)(k:Nat)(us:Bool)(ea:Option Addr)(ec:Nat)(es:List TEnt)(kids:Value)(bt:Nat)(j:Nat)(mo rm:Int)(a:Option Addr)(n cap:Nat)(hj:j<=3)(hk:k<es.length)(hl:es.length<=1000000)(hx:∀x∈es,Q7 (j:Int) x.key=true/\x.key.length<=1000000)(hc0:Rd w [] c0 0 (.pointer (some ⟨bt,0,none⟩)))(hc7:Rd w [] c7 1 (.slice ea es.length ec))(hes:Rw TEnt.vals 2 w [] ea es)(ht:TbR w [] bt (j:Int) mo rm a n cap):CR 259 #[.int .i64 (k:Int),.agg #[.string (bs (nth es k).key),.string (bs (nth es k).val)],.pointer (some ⟨c0,0,none⟩),.pointer (some ⟨c7,0,none⟩)] w (.int .i64 (Qbe (j:Int) es k)):=by
 refine eN4 Tryz.func259 Tryz.ntmps259 ?_
 refine aU2 ?_
 refine oBx λb1 _=>?_
 refine aU3 ?_
 refine QH [] mixed ?_
 refine dP 0 ?_
 refine dP 1 ?_
 refine dP 2 ?_
 apply QI 9
 ·exact rfl
 ·intro hg2
  have hs3:=hg2;try simp only[dT]at hs3
  refine dOf 3 9 hg2 ?_
  refine dOf 4 9 hg2 ?_
  refine dOf 5 9 hg2 ?_
  refine dOf 6 9 hg2 ?_
  refine dOf 7 9 hg2 ?_
  refine dOf 8 9 hg2 ?_
  refine dOf 9 9 hg2 ?_
  refine dOf 10 9 hg2 ?_
  refine dOf 11 9 hg2 ?_
  refine dOf 12 9 hg2 ?_
  refine dOf 13 9 hg2 ?_
  refine dOf 14 9 hg2 ?_
  refine dOf 15 9 hg2 ?_
  refine dOf 16 9 hg2 ?_
  refine dOf 17 9 hg2 ?_
  refine dOf 18 9 hg2 ?_
  refine dOf 19 9 hg2 ?_
  refine dV 20 rfl (QE rfl rfl hg2 rfl) (dQ 21 [] rfl (Qv rfl Qbq rfl (λw1 h1=>Qed w1 _ _)) (dP 22 ?_))
  refine dNi ?_
  exact rV (h:=by simp only[QA,Qbe];first|(split<;>simp_all<;>done)|(simp_all;done)|(grind))
 intro hg4
 have hs5:=hg4;try simp only[dN]at hs5
 refine dQo 3 9 [] hg4 rfl rfl rfl (Qb rfl rfl ZP (hc0)) ?_
 refine dPo 4 9 hg4 ?_
 refine dFo 5 9 hg4 ?_
 refine dFo 6 9 hg4 ?_
 refine dQo 7 9 [] hg4 rfl rfl rfl (Qb rfl rfl QeK (ht 5 _ rfl)) ?_
 refine dFo 8 9 hg4 ?_
 refine dQo 9 9 [] hg4 rfl rfl rfl (Qb rfl rfl Z5 (hc7)) ?_
 refine dPo 10 9 hg4 ?_
 refine dPo 11 9 hg4 ?_
 try refine dWr ?_
 refine dVo 12 9 hg4 rfl rfl rfl (QpH rfl rfl rfl ) ?_
 refine dVo 13 9 hg4 rfl rfl rfl (Qa rfl rfl rfl QG (k-1) om om (Rw.some hes om)) ?_
 refine dFo 14 9 hg4 ?_
 refine dQo 15 9 [] hg4 rfl rfl rfl (Qb rfl rfl X1 ((hes.rdj (i:=k-1) 0 om rfl))) ?_
 refine dFo 16 9 hg4 ?_
 refine dQo 17 9 [] hg4 rfl rfl rfl (Yj rfl rfl X1 aPk rfl) ?_
 refine dQo 18 9 [] hg4 rfl rfl rfl (YF rfl rfl (Qgr _) rfl (λw1 h1=>QaS w1 j (nth es (k-1)).key (nth es k).key hj (hx _ (Qt om)).1 (hx _ (Qt hk)).1 (hx _ (Qt om)).2 (hx _ (Qt hk)).2)) ?_
 refine dPo 19 9 hg4 ?_
 refine dV 20 rfl (QC rfl rfl hg4 rfl) (dQ 21 [] rfl (Qv rfl Qbq rfl (λw1 h1=>Qed w1 _ _)) (dP 22 ?_))
 refine dNi ?_
 exact rV (h:=by simp only[QA,Qbe];first|(split<;>simp_all<;>done)|(simp_all;done)|(grind))
instance:TFd Tryz.prog 24 3 3 22:=⟨by kernel_rfl⟩
theorem QbT:tsz Tryz.prog 22=some (1,false):=by kernel_rfl
instance:TSz Tryz.prog 22 1 false:=⟨QbT⟩
instance:TFd Tryz.prog 127 2 2 125:=⟨by kernel_rfl⟩
theorem QaL:tsz Tryz.prog 125=some (1,false):=by kernel_rfl
instance:TSz Tryz.prog 125 1 false:=⟨QaL⟩
theorem Qua:QJ Tryz.prog 258=true:=by kernel_rfl
instance:TFd Tryz.prog 127 0 0 4:=⟨by kernel_rfl⟩
theorem Qn2:tsz Tryz.prog 270=some (1,false):=by kernel_rfl
abbrev KI:Int->Value:=λn=>Value.int .i64 n
theorem Qpm{ks:List Int}{c x:Int}:x∈ZV ks c ↔ x=c\/x∈ks:=by
  unfold ZV;split
  · rename_i h;constructor
    · exactλh1=>.inr h1
    · rintro(rfl|h1)
      · exact h
      · exact h1
  · rw[List.mem_append,List.mem_singleton];exact Or.comm
theorem c258(w:World)(i c:Int)(c0 c5 r:Nat)(ks seen:List Int)(bt:Nat)(j:Nat)(mo rm:Int)(a:Option Addr)(cap:Nat)(L:List LNd)(hw:HS w (fps [.mp r KI ks]) [.mp r KI ks] w)(hst:∀x,x∈ks ↔ x∈seen)(hc0:Rd w (fps [.mp r KI ks]) c0 0 (.pointer (some ⟨bt,0,none⟩)))(hc5:Rd w (fps [.mp r KI ks]) c5 0 (.map (some r)))(ht:TbR w (fps [.mp r KI ks]) bt (j:Int) mo rm a L.length cap)(hs:Nt w (fps [.mp r KI ks]) a L)(hl:L.length<=1000):CE 258 #[.int .i64 i,.int .i64 c,.pointer (some ⟨c0,0,none⟩),.pointer (some ⟨c5,0,none⟩)] w (fps [.mp r KI ks]) (λg:List Int=>.int .i64 (Qb6 (pln L) c seen)) (λg=>(∀x,x∈g ↔ x∈(QdX (pln L) c seen))) λg=>[.mp r KI g]:=by
 refine eW4 Tryz.func258 Tryz.ntmps258 hw ?_
 refine aU8 ?_
 refine o_q (Qb rfl rfl ZP (hc0)) rfl (aU3 ?_)
 refine o_q (Qb rfl rfl QbT (ht 3 _ rfl)) rfl (aT2 ?_)
 refine oCq rfl (λw1 h1=>QnG w1 _ _ _) (aU2 ?_)
 refine oOr 11 18 29 rfl
  (λhg1 _=>by
   refine aU ?_
   refine o_q (Qb rfl rfl ZP (hc0)) rfl (aU7 ?_)
   refine o_q (Qb rfl rfl QbT (ht 3 _ rfl)) rfl (aU3 ?_)
   refine o_p (Qa rfl rfl rfl XC c.toNat om om (Rw.some hs.1 om)) rfl (aU3 ?_)
   refine o_q (Qb rfl rfl Zm ((hs.1.rdj 0 (i:=c.toNat) om rfl))) rfl (aU2 ?_)
   exact oJf 11 29)
  (λhg3 _=>by
   refine Qbf ?_
   exact oJt 11 29) ?_
 refine aU ?_
 refine sCd rfl (λh5=>?_) λh5=>?_
 ·have hz:¬Qc6 (pln L) c:=by unfold Qc6;rw[Qh];intro h9;rw[QR om]at h9;have hq:=h5;simp[LNd.pl]at h9;rcases hq with hq|hq<;>simp_all<;>omega
  refine aU4 ?_
  exact rT rfl rfl (λw' h'=>⟨ks,by unfold Qb6;rw[if_neg hz];rfl,by unfold QdX;rw[if_neg hz];exact hst,h'.ent aEt⟩)
 have hz:Qc6 (pln L) c:=by have hq:=h5;have hq1:1<=c/\c<=(L.length:Int)-1:=(by first|omega|(simp at hq;omega));unfold Qc6;rw[Qh,QR om];exact⟨hq1,by simp only[LNd.pl];first|exact hq.2|exact hq.2.2|(simp at hq;first|exact hq.2|exact hq.2.2)⟩
 refine aU3 ?_
 refine o_q (Qb rfl rfl Qn2 (hc5)) rfl (aU ?_)
 refine o_q (Qgx rfl rfl rfl Tryz.underlying270 zv_4 (Qfl QdB) aPk) rfl (aU ?_)
 refine oCq rfl (λw1 h1=>Qed w1 _ _) (aU4 ?_)
 refine o_q (Qb rfl rfl Qn2 (hc5)) rfl (aU ?_)
 refine QcX (Qcv (.inl rfl) rfl rfl rfl Tryz.underlying270 (Qfl QdB) aPt) (λ_ _=>aU6 ?_)
 exact rT rfl rfl (λw' h'=>⟨ZV ks c,by unfold Qb6;rw[if_pos hz];simp only[QA];by_cases h9:c∈seen<;>simp[h9,(hst c)],by unfold QdX;rw[if_pos hz];intro x;rw[Qpm,List.mem_cons,hst],h'.ent aEt⟩)
theorem c257(w:World)(ca:Option Addr)(cc:Nat)(cs:List Int)(c0 c5 r:Nat)(ks seen:List Int)(bt:Nat)(j:Nat)(mo rm:Int)(a:Option Addr)(cap:Nat)(L:List LNd)(hw:HS w (fps [.mp r KI ks]) [.mp r KI ks] w)(hst:∀x,x∈ks ↔ x∈seen)(hc0:Rd w (fps [.mp r KI ks]) c0 0 (.pointer (some ⟨bt,0,none⟩)))(hc5:Rd w (fps [.mp r KI ks]) c5 0 (.map (some r)))(ht:TbR w (fps [.mp r KI ks]) bt (j:Int) mo rm a L.length cap)(hs:Nt w (fps [.mp r KI ks]) a L)(hl:L.length<=1000)(hcs:Rw inV 1 w (fps [.mp r KI ks]) ca cs)(hcl:cs.length<=1000):CE 257 #[.slice ca cs.length cc,.func (.func 258) #[] #[.pointer (some ⟨c0,0,none⟩),.pointer (some ⟨c5,0,none⟩)]] w (fps [.mp r KI ks]) (λg:Int×List Int=>.tuple #[.int .i64 g.1,.int .i64 (X4 (pln L) cs seen).1]) (λg=>(∀x,x∈g.2 ↔ x∈(X4 (pln L) cs seen).2)) λg=>[.mp r KI g.2]:=by
 refine eW2 Tryz.func257 Tryz.ntmps257 hw ?_
 refine Qas ?_
 refine Qp (α:=Nat×List Int×List Int) [4,5,6,7,8,11,12,13,14,15,16,17,18,19,20,21,22,23,24] (λx=>[(11,.int .i64 (x.1:Int))]) (λx=>HS w (fps [.mp r KI ks]) [.mp r KI x.2.1]) (λx=>x.1<=cs.length/\(∀y,y∈x.2.1 ↔ y∈x.2.2)/\(X4 (pln L) cs seen)=X4 (pln L) (cs.drop x.1) x.2.2) (λx=>cs.length-x.1) (0,ks,seen) ⟨Nat.zero_le _,hst,rfl⟩ aSx (λw h=>h.ent aEt) (λ⟨k,K,S9⟩hx=>?_)
 dsimp only
 obtain⟨hk1,hk2,hk3⟩:=hx
 simp only[]at hk1 hk2 hk3
 refine aU5 ?_
 refine sCd rfl (λh1=>?_) λh1=>?_
 ·have hkl:k<cs.length:=by omega
  refine aU6 ?_
  refine o_p (Qa rfl rfl rfl Q1 (k) om om (Rw.some hcs om)) rfl (o_q (Qb rfl rfl Zh ((hcs.rdj 0 (i:=k) om rfl))) rfl (aU8 ?_))
  refine o_h (QjK (Cs:=[.mp r KI K]) rfl rfl Qua rfl aPs (λw1 h1 hf=>c258 w1 (k:Int) (cs.getD k 0) c0 c5 r K S9 bt j mo rm a cap L hf hk2 (h1.keep hc0) (h1.keep hc5) (ht.keep h1) (hs.keep h1) hl)) rfl (λb2 hkG=>?_)
  have hkg:=hkG
  refine aU7 ?_
  refine sCd rfl (λh3=>?_) λh3=>?_
  ·refine aU7 ?_
   exact Qm (rs:=[.tmp 4,.tmp 5]) rfl (.tmp rfl (.tmp rfl (.nil))) (λw' h'=>⟨((k:Int),b2),by rw[hk3,QcS hkl,QbB,if_neg h3];rfl,by rw[hk3,QcS hkl,QbB,if_neg h3];exact hkG,h'.ent aEt⟩)
  refine aT4 ?_
  refine aU2 ?_
  exact sBk (k+1,b2,QdX (pln L) (cs.getD k 0) S9) (by(try simp only[]);omega) ⟨by(try simp only[]);omega,hkg,by simp only[];rw[hk3,QcS hkl,QbB,if_pos h3]⟩
 refine Qg rfl ?_
 refine aU5 ?_
 exact Qm (rs:=[.tmp 4,.tmp 5]) rfl (.tmp rfl (.tmp rfl (.nil))) (λw' h'=>⟨(0,K),by rw[hk3,List.drop_of_length_le om];rfl,by rw[hk3,List.drop_of_length_le om];exact hk2,h'.ent aEt⟩)
theorem ZR:tsz Tryz.prog 127=some (3,true):=by kernel_rfl
instance:TSz Tryz.prog 127 3 true:=⟨ZR⟩
theorem Qu6:QJ Tryz.prog 254=true:=by kernel_rfl
instance:TFn Tryz.prog 255:=⟨by kernel_rfl⟩
theorem QtQ:QJ Tryz.prog 257=true:=by kernel_rfl
theorem QsR{t:Tre}{i:Nat}{es:List TEnt}{cs:List Int}(h:nth t.ns i=⟨true,es,cs⟩)(b:Bool)(hb:b=true ↔ (cs.length=0\/cs.length=es.length+1)):(if(bif decide ((es.length:Int)<=YL t.mo t.rm i)then(0:Int)else 16)=0 then(bif b then(0:Int)else 10)else(bif decide ((es.length:Int)<=YL t.mo t.rm i)then(0:Int)else 16))=nE1 t i:=by
  unfold nE1;rw[h]
  by_cases h1:(es.length:Int)<=YL t.mo t.rm i
  · rw[decide_eq_true h1,if_pos h1]
    by_cases h2:cs.length=0\/cs.length=es.length+1
    · rw[if_pos h2,hb.2 h2];rfl
    · rw[if_neg h2,show b=false by cases b;rfl;exact absurd (hb.1 rfl) h2];rfl
  · rw[decide_eq_false h1,if_neg h1];rfl
theorem c200(w:World)(i r:Nat)(ks seen:List Int)(bt:Nat)(j:Nat)(mo rm:Int)(a:Option Addr)(cap:Nat)(L:List LNd)(hw:HS w (fps [.mp r KI ks]) [.mp r KI ks] w)(hst:∀x,x∈ks ↔ x∈seen)(ht:TbR w (fps [.mp r KI ks]) bt (j:Int) mo rm a L.length cap)(hs:Nt w (fps [.mp r KI ks]) a L)(hl:L.length<=1000)(hj:j<=3)(hi:i<L.length)(hel:(nth L i).es.length<=1000)(hcl:(nth L i).cs.length<=1000)(hkl:∀x∈(nth L i).es,x.key.length<=1000000):CE 200 #[.pointer (some ⟨bt,0,none⟩),.int .i64 (i:Int),.map (some r)] w (fps [.mp r KI ks]) (λg:List Int=>.int .i64 (XO (⟨(j:Int),mo,rm,pln L⟩:Tre) i seen).1) (λg=>(∀x,x∈g ↔ x∈(XO (⟨(j:Int),mo,rm,pln L⟩:Tre) i seen).2)) λg=>[.mp r KI g]:=by
 have hn:nth (pln L) i=(nth L i).pl:=QR hi
 have hE2:nE2 (⟨(j:Int),mo,rm,pln L⟩:Tre) i=if nE1 (⟨(j:Int),mo,rm,pln L⟩:Tre) i=0 then(QD ((nth L i).es.map (YU (j:Int))) 0).2 else nE1 (⟨(j:Int),mo,rm,pln L⟩:Tre) i:=by unfold nE2 ZJ;rw[hn];rfl
 have hE3:nE3 (⟨(j:Int),mo,rm,pln L⟩:Tre) i seen=if nE2 (⟨(j:Int),mo,rm,pln L⟩:Tre) i=0 then X4 (pln L) (nth L i).cs seen else(nE2 (⟨(j:Int),mo,rm,pln L⟩:Tre) i,seen):=by unfold nE3;rw[hn];rfl
 have hE4:nE4 (⟨(j:Int),mo,rm,pln L⟩:Tre) i seen=if(nE3 (⟨(j:Int),mo,rm,pln L⟩:Tre) i seen).1=0 then(QD ((List.range (nth L i).es.length).map (Qbe (j:Int) (nth L i).es)) 0).2 else(nE3 (⟨(j:Int),mo,rm,pln L⟩:Tre) i seen).1:=by unfold nE4 Qbi;rw[hn];rfl
 refine eW3 Tryz.func200 Tryz.ntmps200 hw ?_
 refine aU2 ?_
 refine oBx λb1 _=>?_
 refine oBx λb2 _=>?_
 refine aU8 ?_
 refine o_q (Qb rfl rfl QbT (ht 3 _ rfl)) rfl (aU ?_)
 refine o_p (Qa rfl rfl rfl XC (i) om om (Rw.some hs.1 om)) rfl (o_q (Qq _ rfl rfl ZR rfl (Rw.rd hs.1 hi)) rfl (oAl (λb3 _=>?_) YS))
 refine aU9 ?_
 refine sCd rfl (λh4=>?_) λh4=>?_
 ·have hu:(nth (pln L) i).us=false:=by rw[hn];have hq:=h4;simpa[LNd.pl]using hq
  refine aU5 ?_
  refine Xi 10 22 32 rfl
   (λhg5 _=>by
    refine Qab ?_
    refine o_q (Qb rfl rfl QbT (ht 3 _ rfl)) rfl (aT4 ?_)
    refine aU2 ?_
    exact oJt 10 32)
   (λhg7 _=>by
    refine aU9 ?_
    exact oJf 10 32) ?_
  refine aU ?_
  refine Xi 9 33 42 rfl
   (λhg9 _=>by
    refine aT14 ?_
    refine aU2 ?_
    exact oJt 9 42)
   (λhg11 _=>by
    refine aU8 ?_
    exact oJf 9 42) ?_
  refine oCq rfl (λw1 h1=>Qed w1 _ _) (aU2 ?_)
  exact rT rfl rfl (λw' h'=>⟨ks,by unfold XO;simp only[];rw[if_neg (by rw[hu];decide),hn];simp only[QA,LNd.pl];simp only[cond_eq_ite,Bool.and_eq_true,decide_eq_true_eq,Qh];(split<;>split<;>first|rfl|omega),by unfold XO;simp only[];rw[if_neg (by rw[hu];decide)];split<;>exact hst,h'.ent aEt⟩)
 have hu:(nth (pln L) i).us=true:=by rw[hn];have hq:=h4;simpa[LNd.pl]using hq
 have hN1:nth ((⟨(j:Int),mo,rm,pln L⟩:Tre)).ns i=⟨true,(nth L i).es,(nth L i).cs⟩:=by show nth (pln L) i=_;rw[hn]at hu ⊢;simp only[LNd.pl]at hu ⊢;rw[hu]
 rw[Qhi (⟨(j:Int),mo,rm,pln L⟩:Tre) i hu]
 refine aU2 ?_
 refine Qd (L':=[(1,_),(3,_),(5,_),(6,_),(7,_)]) aSx (λ_ h=>h) ?_
 refine Xy (α:=Unit) [8,44,45,46,47,48,49,50,51,52,53,54,55,56,57,58,59,60,61,62,63,64,65,66,67,68] (λ_=>[(8,.int .i64 (nE1 (⟨(j:Int),mo,rm,pln L⟩:Tre) i))]) (λ_=>HS w (fps [.mp r KI ks]) [.blk b1 197 1 [.pointer (some ⟨bt,0,none⟩)],.blk b2 270 1 [.map (some r)],.blk b3 127 3 (nth L i).vals,.mp r KI ks]) (λ_=>True) ?_ ?_
 ·skip
  refine QH [] mixed ?_
  refine dFa 0 ?_
  refine dLd 1 [] ?_
  refine dV 2 rfl (Q0 rfl rfl Tryz.underlying124) (dLd 3 [] ?_)
  refine dP 4 ?_
  refine dQ 5 [] rfl (Qv rfl Qu6 rfl (λw1 h1=>c254 w1 bt j mo rm a L.length cap i (ht.next h1))) (dP 6 ?_)
  refine dQ 7 [] rfl (Qv rfl Qbq rfl (λw1 h1=>Qed w1 _ _)) (dFa 8 ?_)
  refine dLd 9 [] ?_
  refine dV 10 rfl (Q0 rfl rfl Tryz.underlying125) (dP 11 ?_)
  refine dP 12 ?_
  apply QI 56
  ·exact rfl
  ·intro hg13
   have hs14:=hg13;try simp only[dT]at hs14
   refine dOf 13 56 hg13 ?_
   refine dOf 14 56 hg13 ?_
   refine dOf 15 56 hg13 ?_
   refine dOf 16 56 hg13 ?_
   refine dOf 17 56 hg13 ?_
   refine dOf 18 56 hg13 ?_
   refine dOf 19 56 hg13 ?_
   refine dOf 20 56 hg13 ?_
   refine dV 21 rfl (QE rfl rfl hg13 rfl) (dQ 22 [] rfl (Qv rfl Qbq rfl (λw1 h1=>Qed w1 _ _)) (dH 23 rfl (Ql (cs:=[_,_]) rfl rfl Yw QaC rfl rfl rfl) (λb15 _=>dBa ?_)))
   refine dQ 24 [] rfl (Qv rfl QfV rfl (λw1 h1=>Qnf h1 aPk (by rfl) (by rfl) (by decide))) (Qz (show _=Value.int .i64 (nE1 (⟨(j:Int),mo,rm,pln L⟩:Tre) i)from by congr 1;rw[QbI];exact QsR hN1 _ (by first|(simp only[true_iff];left;have hq:=hg13;simp at hq ⊢;omega)|(have hq:¬(((nth L i).cs.length:Int)=0):=of_decide_eq_false hg13;rw[decide_eq_true_eq];omega))) (dP 25 ?_))
   refine dNi ?_
   exact Qo () trivial aSx (λw h=>h.ent aEt)
  intro hg16
  have hs17:=hg16;try simp only[dN]at hs17
  refine dFo 13 56 hg16 ?_
  refine dQo 14 56 [] hg16 rfl rfl rfl (Yj rfl rfl QaL aPk rfl) ?_
  refine dVo 15 56 hg16 rfl rfl rfl (Q0 rfl rfl Tryz.underlying125) ?_
  refine dFo 16 56 hg16 ?_
  refine dQo 17 56 [] hg16 rfl rfl rfl (Yj rfl rfl Z5 aPk rfl) ?_
  refine dVo 18 56 hg16 rfl rfl rfl (Q0 rfl rfl Tryz.underlying124) ?_
  refine dPo 19 56 hg16 ?_
  try refine dWr ?_
  refine dPo 20 56 hg16 ?_
  refine dV 21 rfl (QC rfl rfl hg16 rfl) (dQ 22 [] rfl (Qv rfl Qbq rfl (λw1 h1=>Qed w1 _ _)) (dH 23 rfl (Ql (cs:=[_,_]) rfl rfl Yw QaC rfl rfl rfl) (λb18 _=>dBa ?_)))
  refine dQ 24 [] rfl (Qv rfl QfV rfl (λw1 h1=>Qnf h1 aPk (by rfl) (by rfl) (by decide))) (Qz (show _=Value.int .i64 (nE1 (⟨(j:Int),mo,rm,pln L⟩:Tre) i)from by congr 1;rw[QbI];exact QsR hN1 _ (by first|(simp only[true_iff];left;have hq:=hg16;simp at hq ⊢;omega)|(have hq:¬(((nth L i).cs.length:Int)=0):=of_decide_eq_false hg16;rw[decide_eq_true_eq];omega))) (dP 25 ?_))
  refine dNi ?_
  exact Qo () trivial aSx (λw h=>h.ent aEt)
 intro _ _
 refine aU6 ?_
 refine Xy (α:=Unit) [8,71,72,73,74,75,76,77] (λ_=>[(8,.int .i64 (nE2 (⟨(j:Int),mo,rm,pln L⟩:Tre) i))]) (λ_=>HS w (fps [.mp r KI ks]) [.blk b1 197 1 [.pointer (some ⟨bt,0,none⟩)],.blk b2 270 1 [.map (some r)],.blk b3 127 3 (nth L i).vals,.mp r KI ks]) (λ_=>True) ?_ ?_
 ·skip
  refine sCd rfl (λh19=>?_) λh19=>?_
  ·refine aU4 ?_
   refine oCq rfl (λw1 h1=>c255 w1 (nth L i).ea (nth L i).ec (nth L i).es 256 #[.pointer (some ⟨b1,0,none⟩)] ((nth L i).es.map (YU (j:Int))) ((hs.es hi).later h1) om (by kernel_rfl) (by simp) (λk w2 hk9 _ h2=>by rw[Qcu hk9];exact c256 w2 b1 (k:Int) (nth (nth L i).es k) bt j mo rm a L.length cap hj (hkl _ (Qt hk9)) ((h1.rd_blk (Mc:=[]) (b:=b1) aPk rfl (by simp)).next h2) ((ht.next h1).next h2))) (aU5 ?_)
   exact Qo () trivial (by rw[hE2,if_pos h19];exact aSx) (λw h=>h.ent aEt)
  refine aU ?_
  exact Qo () trivial (by rw[hE2,if_neg h19];exact aSx) (λw h=>h.ent aEt)
 intro _ _
 refine aU6 ?_
 refine Xy (α:=List Int) [8,80,81,82,83,84,85,86] (λ_=>[(8,.int .i64 (nE3 (⟨(j:Int),mo,rm,pln L⟩:Tre) i seen).1)]) (λq=>HS w (fps [.mp r KI ks]) [.blk b1 197 1 [.pointer (some ⟨bt,0,none⟩)],.blk b2 270 1 [.map (some r)],.blk b3 127 3 (nth L i).vals,.mp r KI q]) (λq=>∀x,x∈q ↔ x∈(nE3 (⟨(j:Int),mo,rm,pln L⟩:Tre) i seen).2) ?_ ?_
 ·skip
  refine sCd rfl (λh20=>?_) λh20=>?_
  ·refine aU4 ?_
   refine o_h (XG (Cs:=[.mp r KI ks]) rfl QtQ rfl aPs (λw1 h1 hf=>c257 w1 (nth L i).ca (nth L i).cc (nth L i).cs b1 b2 r ks seen bt j mo rm a cap L hf hst (h1.rd_blkF aPs (b:=b1) aPk rfl) (h1.rd_blkF aPs (b:=b2) aPk rfl) ((ht.keep h1).mono (QY aPs)) ((hs.keep h1).mono (QY aPs)) hl (((hs.cs hi).keep h1).mono (QY aPs)) hcl)) rfl (λb21 hkG=>aU5 ?_)
   exact Qo b21.2 (by rw[hE3,if_pos h20];exact hkG) (by rw[hE3,if_pos h20];exact aSx) (λw h=>h.ent aEt)
  refine aU ?_
  exact Qo ks (by rw[hE3,if_neg h20];exact hst) (by rw[hE3,if_neg h20];exact aSx) (λw h=>h.ent aEt)
 intro ks2 hks2
 refine aU6 ?_
 refine Xy (α:=Unit) [8,89,90,91,92,93,94,95] (λ_=>[(8,.int .i64 (nE4 (⟨(j:Int),mo,rm,pln L⟩:Tre) i seen))]) (λ_=>HS w (fps [.mp r KI ks]) [.blk b1 197 1 [.pointer (some ⟨bt,0,none⟩)],.blk b2 270 1 [.map (some r)],.blk b3 127 3 (nth L i).vals,.mp r KI ks2]) (λ_=>True) ?_ ?_
 ·skip
  refine sCd rfl (λh22=>?_) λh22=>?_
  ·have he0:=QlC (QvE _ _ (Qs4 _ _ h22))
   rw[hn]at he0
   have hkok:∀x∈(nth L i).es,Q7 (j:Int) x.key=true/\x.key.length<=1000000:=λx hx=>⟨QaU (he0 x hx),hkl x hx⟩
   refine aU4 ?_
   refine oCq rfl (λw1 h1=>c255 w1 (nth L i).ea (nth L i).ec (nth L i).es 259 #[.pointer (some ⟨b1,0,none⟩),.pointer (some ⟨b3,0,none⟩)] ((List.range (nth L i).es.length).map (Qbe (j:Int) (nth L i).es)) ((hs.es hi).later h1) om (by kernel_rfl) (by simp) (λk w2 hk9 _ h2=>by rw[Qch hk9];exact c259 w2 b1 b3 k true (nth L i).ea (nth L i).ec (nth L i).es (.bool true) bt j mo rm a L.length cap hj hk9 om hkok ((h1.rd_blk (Mc:=[]) (b:=b1) aPk rfl (by simp)).next h2) ((h1.rd_blk (Mc:=[]) (b:=b3) aPk rfl (by simp)).next h2) (((hs.es hi).later h1).later h2) ((ht.next h1).next h2))) (aU5 ?_)
   exact Qo () trivial (by rw[hE4,if_pos h22];exact aSx) (λw h=>h.ent aEt)
  refine aU ?_
  exact Qo () trivial (by rw[hE4,if_neg h22];exact aSx) (λw h=>h.ent aEt)
 intro _ _
 refine aU5 ?_
 exact rT rfl rfl (λw' h'=>⟨ks2,rfl,hks2,h'.ent aEt⟩)
instance:TFn Tryz.prog 301:=⟨by kernel_rfl⟩
theorem Qky:QJ Tryz.prog 260=true:=by kernel_rfl
theorem QpQ:tsz Tryz.prog 228=some (1,false):=by kernel_rfl
instance:TSz Tryz.prog 228 1 false:=⟨QpQ⟩
theorem c301(w:World)(ua:Option Addr)(uc:Nat)(u:List Int)(n:Int)(hu:Rw inV 1 w [] ua u)(hum:u.length<=100000):CR 301 #[.slice ua u.length uc,.int .i64 n] w (.int .i64 (ixI (QgW u n))):=by
 refine eN2 Tryz.func301 Tryz.ntmps301 ?_
 refine QbX ?_
 refine Qp (α:=Nat) [4,5,8,9,10,11,12,13,14,15,16,17,18] (λk=>[(8,.int .i64 (k:Int))]) (λ_=>_) (λk=>k<=u.length/\∀i,i<k->(QgW u n).getD i false=false) (λk=>u.length-k) 0 ⟨Nat.zero_le _,λi h=>absurd h (Nat.not_lt_zero i)⟩ aSx (λw h=>h) (λk hkk=>?_)
 obtain⟨hk1,hk2⟩:=hkk
 refine aU5 ?_
 refine sCd rfl (λh1=>?_) λh1=>?_
 ·have hk:k<u.length:=by omega
  refine Qas ?_
  refine o_p (Qa rfl rfl rfl Q1 (k) om om (Rw.some hu om)) rfl (o_q (Qb rfl rfl Zh ((hu.rdj 0 hk rfl))) rfl (aU2 ?_))
  refine sCd rfl (λh2=>?_) λh2=>?_
  ·have hq9:n=u.getD k 0:=h2
   have e:=Qdw (l:=QgW u n) (k:=k) (by rw[Qca];omega) hk2 (λ_=>by rw[Qjq hk];exact decide_eq_true hq9)
   refine aU5 ?_
   exact rV (h:=by simp only[QA,ixI,e,Qca];rw[if_pos hk])
  have hq9:¬n=u.getD k 0:=h2
  refine aT4 ?_
  refine aU2 ?_
  exact Qs (k+1) om ⟨om,λi hi=>(Nat.lt_or_ge i k).elim (hk2 i) (λh=>by obtain rfl:i=k:=om;rw[Qjq hk];exact decide_eq_false hq9)⟩ aSx (λw h=>h)
 obtain rfl:k=u.length:=om
 refine Qg rfl ?_
 refine aU4 ?_
 exact rV (h:=by have e:=Qdw (l:=QgW u n) (k:=u.length) (by rw[Qca];omega) hk2 (λh=>by rw[Qca]at h;omega);simp only[QA,ixI,e,Qca];rw[if_neg om])
theorem c263(w:World)(ua:Option Addr)(uc:Nat)(u:List Int)(n:Int)(hu:Rw inV 1 w [] ua u)(hum:u.length<=100000):CR 263 #[.slice ua u.length uc,.int .i64 n] w (.bool (decide (n∈u))):=by
 refine eN2 Tryz.func263 Tryz.ntmps263 ?_
 refine aU8 ?_
 refine oCq rfl (λw1 h1=>c301 w1 ua uc u n (hu.later h1) hum) (aU3 ?_)
 exact rV (h:=by rw[<-Qpg,<-QlE];rfl)
def WkC(S:Type)(I:S->Prop)(C:S->HA)(st:S->Vis->S)(er:S->Vis->Int×Int)(q:Nat)(cv:Array Value)(bt:Nat)(j:Nat)(mo rm:Int)(a:Option Addr)(cap:Nat)(L:List LNd)(f:Nat):Prop:=∀(w:World)(s:S)(v:Vis)(pl ph:Option Addr)(P:List Nat),(HS w (fps [C s]) [C s] w)->(QJ Tryz.prog q=true)->(∀s1 s2:S,(C s1).fp=(C s2).fp)->(∀s2 v2,I s2->I (st s2 v2))->(I s)->(∀(s2:S)(v2:Vis)(p2 p3:Option Addr)(w1:World),HS w (fps [C s]) [C s2] w1->I s2->v2.i<L.length->KOk (j:Int) v2.lo->KOk (j:Int) v2.hi->Qar w1 (fps [C s2]) p2 v2.lo->Qar w1 (fps [C s2]) p3 v2.hi->Calls Tryz.prog q (#[]++[.int .i64 (v2.i:Int),.int .i64 v2.d,.pointer p2,.pointer p3].toArray++cv) w1 λen w2=>∃g:Unit,en=.returned (.tuple #[.int .i64 (er s2 v2).1,.int .i64 (er s2 v2).2])/\True/\HS w1 (fps [C s2]) [C (st s2 v2)] w2)->(TbR w (fps [C s]) bt (j:Int) mo rm a L.length cap)->(Nt w (fps [C s]) a L)->(TOk (j:Int) (pln L))->(Bd (pln L))->(Qar w (fps [C s]) pl v.lo)->(Qar w (fps [C s]) ph v.hi)->(0<L.length)->(Gx.Way (pln L) (v.i::P))->(P.length+f=L.length)->(v.d=(P.length:Int)+1)->(KOk (j:Int) v.lo)->(KOk (j:Int) v.hi)->Calls Tryz.prog 260 #[.pointer (some ⟨bt,0,none⟩),.int .i64 (v.i:Int),.int .i64 v.d,.pointer pl,.pointer ph,.func (.func q) #[] cv] w λen w'=>∃g:Unit,en=.returned (.tuple #[.int .i64 (Xs st er s (vis (pln L) f v)).1.1,.int .i64 (Xs st er s (vis (pln L) f v)).1.2])/\True/\HS w (fps [C s]) [C (Xs st er s (vis (pln L) f v)).2] w'
theorem Qvj(w:World)(S:Type)(I:S->Prop)(C:S->HA)(st:S->Vis->S)(er:S->Vis->Int×Int)(q:Nat)(cv:Array Value)(bt:Nat)(j:Nat)(mo rm:Int)(a:Option Addr)(cap:Nat)(L:List LNd)(s:S)(v:Vis)(pl ph:Option Addr)(P:List Nat)(f:Nat)(hw:HS w (fps [C s]) [C s] w)(hq:QJ Tryz.prog q=true)(hfp:∀s1 s2:S,(C s1).fp=(C s2).fp)(hI:∀s2 v2,I s2->I (st s2 v2))(hIs:I s)(hv:∀(s2:S)(v2:Vis)(p2 p3:Option Addr)(w1:World),HS w (fps [C s]) [C s2] w1->I s2->v2.i<L.length->KOk (j:Int) v2.lo->KOk (j:Int) v2.hi->Qar w1 (fps [C s2]) p2 v2.lo->Qar w1 (fps [C s2]) p3 v2.hi->Calls Tryz.prog q (#[]++[.int .i64 (v2.i:Int),.int .i64 v2.d,.pointer p2,.pointer p3].toArray++cv) w1 λen w2=>∃g:Unit,en=.returned (.tuple #[.int .i64 (er s2 v2).1,.int .i64 (er s2 v2).2])/\True/\HS w1 (fps [C s2]) [C (st s2 v2)] w2)(ht:TbR w (fps [C s]) bt (j:Int) mo rm a L.length cap)(hs:Nt w (fps [C s]) a L)(hT:TOk (j:Int) (pln L))(hB:Bd (pln L))(hpl:Qar w (fps [C s]) pl v.lo)(hph:Qar w (fps [C s]) ph v.hi)(h0:0<L.length)(hway:Gx.Way (pln L) (v.i::P))(hf:P.length+(f+1)=L.length)(hd:v.d=(P.length:Int)+1)(hko:KOk (j:Int) v.lo)(hkp:KOk (j:Int) v.hi)(ih:WkC S I C st er q cv bt j mo rm a cap L f):CE 260 #[.pointer (some ⟨bt,0,none⟩),.int .i64 (v.i:Int),.int .i64 v.d,.pointer pl,.pointer ph,.func (.func q) #[] cv] w (fps [C s]) (λg:Unit=>.tuple #[.int .i64 (Xs st er s (vis (pln L) (f+1) v)).1.1,.int .i64 (Xs st er s (vis (pln L) (f+1) v)).1.2]) (λg=>True) λg=>[C (Xs st er s (vis (pln L) (f+1) v)).2]:=by
 have hi0:=Qcr hT (by rw[Qh];exact h0) hway v.i (List.mem_cons_self ..)
 have hi:v.i<L.length:=by rw[Qh]at hi0;exact hi0
 have hn:=QR hi
 have hle:=hB.len
 rw[Qh]at hle
 have hel:=hB.es v.i hi0
 have hcl:=hB.cs v.i hi0
 rw[hn]at hel hcl
 simp only[LNd.pl]at hel hcl
 have hsh:=hT.shape v.i hi0
 rw[hn]at hsh
 simp only[LNd.pl]at hsh
 refine eW6 Tryz.func260 Tryz.ntmps260 hw ?_
 refine Qas ?_
 refine o_h (QjK (Cs:=[C s]) rfl rfl hq rfl aPs (λw1 h1 hf9=>hv s v pl ph w1 (h1.ent aEt) hIs hi hko hkp ((hpl.keep h1).mono (QY aPs)) ((hph.keep h1).mono (QY aPs)))) rfl (λ_ _=>Qab ?_)
 refine sCd rfl (λh1=>?_) λh1=>?_
 ·have hz:Xs st er s (vis (pln L) (f+1) v)=(er s v,st s v):=by rw[vis,Xs,if_neg h1]
  refine aU7 ?_
  exact Qm (rs:=[.tmp 12,.tmp 13]) rfl (.tmp rfl (.tmp rfl (.nil))) (λw' h'=>⟨(),by rw[hz];rfl,trivial,by rw[hz];exact h'.ent aEt⟩)
 have hz0:Xs st er s [v]=((0,0),st s v):=by rw[Xs,if_pos h1,Xs]
 refine aU7 ?_
 refine o_q (Qb rfl rfl QbT (ht 3 _ rfl)) rfl (aU ?_)
 refine o_p (Qa rfl rfl rfl XC (v.i) om om (Rw.some hs.1 om)) rfl (o_q (Qq _ rfl rfl ZR rfl (Rw.rd hs.1 hi)) rfl (oAl (λb2 _=>?_) YS))
 refine aU4 ?_
 refine Qd (L':=[(0,_),(2,_),(3,_),(4,_),(5,_),(12,_),(13,_),(16,_)]) aSx (λ_ h=>h) ?_
 refine aU7 ?_
 refine Qp (α:=Nat×S) [12,13,17,18,19,20,21,22,47,48,49,50,51,52,53,54,55,56,57,58,59,60,61,62,63,64,65,66,67,68,69,70,71,72,73,74,75,76,77,78,79,80,81,82,83,84,85,86,87] (λx=>[(47,.int .i64 (x.1:Int))]) (λx=>HS w (fps [C s]) [.blk b2 127 3 (nth L v.i).vals,C x.2]) (λx=>x.1<=(nth L v.i).cs.length/\(Xs st er s (QaP (pln L) f v x.1)).1.2=0/\(Xs st er s (QaP (pln L) f v x.1)).2=x.2) (λx=>(nth L v.i).cs.length-x.1) (0,st s v) ⟨Nat.zero_le _,by rw[Qlg,hz0],by rw[Qlg,hz0]⟩ aSx (λw h=>h.ent aEt) (λ⟨k,sk⟩hx=>?_)
 dsimp only
 obtain⟨hk1,hk2,hk3⟩:=hx
 simp only[]at hk1 hk2 hk3
 refine aU5 ?_
 refine sCd rfl (λh3=>?_) λh3=>?_
 ·have hkl:k<(nth L v.i).cs.length:=by omega
  have hkid:=Qgl hT hi0 (k:=k) (by rw[hn];exact hkl)
  have hwk:=Qeq hway hi0 (k:=k) (by rw[hn];exact hkl) om
  have hki:((XH (pln L) v k).i:Int)=(nth L v.i).cs.getD k 0:=by unfold XH;rw[hn]at hkid ⊢;simp only[LNd.pl]at hkid ⊢;rw[Int.toNat_of_nonneg om]
  rw[Qh]at hkid
  refine aU6 ?_
  refine o_p (Qa rfl rfl rfl Q1 (k) om om (Rw.some (hs.cs hi) om)) rfl (o_q (Qb rfl rfl Zh (((hs.cs hi).rdj 0 (i:=k) hkl rfl))) rfl (aU2 ?_))
  refine Qu (show _=Value.int .i64 ((XH (pln L) v k).i:Int)from by rw[hki];rfl) (Qkh ?_)
  refine Xy (α:=Option Addr) [19,56,57,58,59,60,61] (λp=>[(19,.pointer p)]) (λ_=>HS w (fps [C s]) [.blk b2 127 3 (nth L v.i).vals,C sk]) (λp=>Qar w (fps [C s]) p (loK (nth L v.i).es k v.lo)) ?_ ?_
  ·skip
   refine sCd rfl (λh4=>?_) λh4=>?_
   ·refine aT5 ?_
    refine o_p (Qa rfl rfl rfl QG (k-1) om om (Rw.some (hs.es hi) om)) rfl (aU3 ?_)
    exact Qo (some ⟨ab (nth L v.i).ea,ao (nth L v.i).ea+(k-1)*2,none⟩) (by rw[show loK (nth L v.i).es k v.lo=some (nth (nth L v.i).es (k-1)).key from if_pos om];exact⟨_,_,rfl,((hs.es hi).rdj 0 om rfl)⟩) aSx (λw h=>h.ent aEt)
   refine aU ?_
   exact Qo pl (by rw[show loK (nth L v.i).es k v.lo=v.lo from if_neg om];exact hpl) aSx (λw h=>h.ent aEt)
  intro p1 hp1
  refine aU9 ?_
  refine Qd (L':=[(0,_),(2,_),(3,_),(4,_),(5,_),(16,_),(17,_),(18,_),(19,_),(20,_),(44,_),(45,_),(46,_),(47,_),(66,_)]) aSx (λ_ h=>h) ?_
  refine Xy (α:=Option Addr) [20,67,68,69,70,71] (λp=>[(20,.pointer p)]) (λ_=>HS w (fps [C s]) [.blk b2 127 3 (nth L v.i).vals,C sk]) (λp=>Qar w (fps [C s]) p (hiK (nth L v.i).es k v.hi)) ?_ ?_
  ·skip
   refine sCd rfl (λh5=>?_) λh5=>?_
   ·refine aU4 ?_
    refine o_p (Qa rfl rfl rfl QG (k) om om (Rw.some (hs.es hi) om)) rfl (aU3 ?_)
    exact Qo (some ⟨ab (nth L v.i).ea,ao (nth L v.i).ea+k*2,none⟩) (by rw[show hiK (nth L v.i).es k v.hi=some (nth (nth L v.i).es k).key from if_pos om];exact⟨_,_,rfl,((hs.es hi).rdj 0 om rfl)⟩) aSx (λw h=>h.ent aEt)
   refine aU ?_
   exact Qo ph (by rw[show hiK (nth L v.i).es k v.hi=v.hi from if_neg om];exact hph) aSx (λw h=>h.ent aEt)
  intro p2 hp2
  refine aT6 ?_
  refine aU3 ?_
  refine o_h (XG (Cs:=[C sk]) rfl Qky rfl aPs (λw1 h1 hf9=>ih w1 sk (XH (pln L) v k) p1 p2 (v.i::P) hf9 hq hfp hI (hk3▸Qkd hI _ _ hIs) (λs2 v2 p3 p4 w2 h2 hs2 hi2 ha2 hb2 hp3 hp4=>hv s2 v2 p3 p4 w2 (HS.thenF (h1.ent (Bs:=[C sk]) aEt) h2) hs2 hi2 ha2 hb2 hp3 hp4) ((ht.keep h1).mono (QY aPs)) ((hs.keep h1).mono (QY aPs)) hT hB (by unfold XH;rw[hn];exact(hp1.keep h1).mono (QY aPs)) (by unfold XH;rw[hn];exact(hp2.keep h1).mono (QY aPs)) h0 hwk (by simp only[List.length_cons];omega) (by show v.d+1=_;simp only[List.length_cons];omega) (Qfs hT hi0 (by rw[hn];simp only[LNd.pl];omega) hko) (Qgw hT hi0 hkp))) rfl (λ_ _=>Qab ?_)
  refine sCd rfl (λh6=>?_) λh6=>?_
  ·have e9:Xs st er s (QaP (pln L) f v k++vis (pln L) f (XH (pln L) v k))=Xs st er sk (vis (pln L) f (XH (pln L) v k)):=by rw[Qlt _ _ hk2,hk3]
   have hz:Xs st er s (vis (pln L) (f+1) v)=Xs st er sk (vis (pln L) f (XH (pln L) v k)):=by rw[Y8,hn];simp only[LNd.pl];obtain⟨B,eB⟩:=Qbd (pln L) f v (show k+1<=(nth L v.i).cs.length by omega);rw[eB,XT,QoN _ _ (by rw[e9];exact h6),e9]
   refine aU ?_
   refine Qd (L':=[(0,_),(2,_),(3,_),(4,_),(5,_),(16,_),(21,_),(22,_),(44,_),(45,_),(46,_),(47,_)]) aSx (λ_ h=>h) ?_
   refine aU6 ?_
   exact Qm (rs:=[.tmp 12,.tmp 13]) rfl (.tmp rfl (.tmp rfl (.nil))) (λw' h'=>⟨(),by rw[hz];rfl,trivial,by rw[hz];exact h'.ent aEt⟩)
  have hz:Xs st er s (QaP (pln L) f v (k+1))=Xs st er sk (vis (pln L) f (XH (pln L) v k)):=by rw[XT,Qlt _ _ hk2,hk3]
  refine aU2 ?_
  refine Qd (L':=[(0,_),(2,_),(3,_),(4,_),(5,_),(16,_),(44,_),(45,_),(46,_),(47,_)]) aSx (λ_ h=>h) ?_
  refine aT2 ?_
  refine aU2 ?_
  exact sBk (k+1,(Xs st er sk (vis (pln L) f (XH (pln L) v k))).2) (by(try simp only[]);omega) ⟨by(try simp only[]);omega,by simp only[];rw[hz];exact h6,by simp only[];rw[hz]⟩
 refine Qg rfl ?_
 refine aU5 ?_
 exact Qm (rs:=[.tmp 12,.tmp 13]) rfl (.tmp rfl (.tmp rfl (.nil))) (λw' h'=>⟨(),by have hke:k=(nth L v.i).cs.length:=om;rw[Y8,hn];simp only[LNd.pl];rw[<-hke,Qqz _ _ hk2];rfl,trivial,by have hke:k=(nth L v.i).cs.length:=om;rw[Y8,hn];simp only[LNd.pl];rw[<-hke,hk3];exact h'.ent aEt⟩)
theorem QkW(S:Type)(I:S->Prop)(C:S->HA)(st:S->Vis->S)(er:S->Vis->Int×Int)(q:Nat)(cv:Array Value)(bt:Nat)(j:Nat)(mo rm:Int)(a:Option Addr)(cap:Nat)(L:List LNd):∀f,WkC S I C st er q cv bt j mo rm a cap L f
  | 0=>λw s v pl ph P hw hq hfp hI hIs hv ht hs hT hB hpl hph h0 hway hf hd hko hkp=>by
    have hl:=YJ hT (by rw[Qh];exact h0) hway;rw[Qh]at hl;simp only[List.length_cons]at hl;omega
  | f+1=>λw s v pl ph P hw hq hfp hI hIs hv ht hs hT hB hpl hph h0 hway hf hd hko hkp=>Qvj w S I C st er q cv bt j mo rm a cap L s v pl ph P f hw hq hfp hI hIs hv ht hs hT hB hpl hph h0 hway hf hd hko hkp (QkW S I C st er q cv bt j mo rm a cap L f)
theorem c261(w:World)(i:Nat)(d:Int)(pl ph:Option Addr)(c4 bb n:Nat)(s:List Bool)(hw:HS w (fps [.blk bb 4 n (s.map Value.bool)]) [.blk bb 4 n (s.map Value.bool)] w)(hc4:Rd w (fps [.blk bb 4 n (s.map Value.bool)]) c4 0 (.slice (some ⟨bb,0,none⟩) n n))(hi:i<n)(hn:s.length=n):CE 261 #[.int .i64 (i:Int),.int .i64 d,.pointer pl,.pointer ph,.pointer (some ⟨c4,0,none⟩)] w (fps [.blk bb 4 n (s.map Value.bool)]) (λg:Unit=>.tuple #[.int .i64 0,.int .i64 0]) (λg=>True) λg=>[.blk bb 4 n ((s.set i true).map Value.bool)]:=by
 refine eW5 Tryz.func261 Tryz.ntmps261 hw ?_
 refine aU7 ?_
 refine o_q (Qb rfl rfl QpQ (hc4)) rfl (aU ?_)
 refine o_p (Qa rfl rfl rfl Xf (i) om om rfl) rfl (QcX (Xr rfl rfl rfl Zm rfl aPt (by first|(simp only[List.length_map,List.length_singleton,List.length_cons,List.length_nil];omega)|(simp;omega)) rfl) (λ_ _=>aU6 ?_))
 exact Qm (rs:=[.tmp 9,.tmp 10]) rfl (.tmp rfl (.tmp rfl (.nil))) (λw' h'=>⟨(),rfl,trivial,by have h2:=h';rw[List.map_set];simp only[Qf,Nat.zero_add,Nat.mul_one]at h2;exact h2.ent aEt⟩)
instance:TFn Tryz.prog 263:=⟨by kernel_rfl⟩
theorem Qtj:QJ Tryz.prog 190=true:=by kernel_rfl
theorem QhX:QnQ Tryz.prog 309 9:=Ql0 Tryz.underlying309 X1 (by decide)
theorem c262(w:World)(v:Vis)(pl ph:Option Addr)(c1 c7:Nat)(s:Int)(bt:Nat)(j:Nat)(mo rm:Int)(a:Option Addr)(cap:Nat)(L:List LNd)(hw:HS w (fps [.blk c7 3 1 [.int .i64 s]]) [.blk c7 3 1 [.int .i64 s]] w)(hc1:Rd w (fps [.blk c7 3 1 [.int .i64 s]]) c1 0 (.pointer (some ⟨bt,0,none⟩)))(ht:TbR w (fps [.blk c7 3 1 [.int .i64 s]]) bt (j:Int) mo rm a L.length cap)(hs:Nt w (fps [.blk c7 3 1 [.int .i64 s]]) a L)(hj:j<=3)(hmo:0<=mo/\mo<=1000)(hi:v.i<L.length)(hl:L.length<=1000)(hel:(nth L v.i).es.length<=1000)(hcl:(nth L v.i).cs.length<=1000)(hc0:(nth L 0).cs.length<=1000)(he0:(nth L 0).es.length<=1000)(hpl:Qar w (fps [.blk c7 3 1 [.int .i64 s]]) pl v.lo)(hph:Qar w (fps [.blk c7 3 1 [.int .i64 s]]) ph v.hi)(hlo:∀k,v.lo=some k->(Q7 (j:Int) k=true/\k.length<=1000000))(hhi:∀k,v.hi=some k->(Q7 (j:Int) k=true/\k.length<=1000000))(hok:∀x∈(nth L v.i).es,Q7 (j:Int) x.key=true/\x.key.length<=1000000):CE 262 #[.int .i64 (v.i:Int),.int .i64 v.d,.pointer pl,.pointer ph,.pointer (some ⟨c1,0,none⟩),.pointer (some ⟨c7,0,none⟩)] w (fps [.blk c7 3 1 [.int .i64 s]]) (λg:Unit=>.tuple #[.int .i64 (erV (⟨(j:Int),mo,rm,pln L⟩:Tre) s v).1,.int .i64 (erV (⟨(j:Int),mo,rm,pln L⟩:Tre) s v).2]) (λg=>True) λg=>[.blk c7 3 1 [.int .i64 (stV (⟨(j:Int),mo,rm,pln L⟩:Tre) s v)]]:=by
 have h00:0<L.length:=om
 have hn:nth (pln L) v.i=(nth L v.i).pl:=QR hi
 have hn0:nth (pln L) 0=(nth L 0).pl:=QR h00
 have hG:ZF (⟨(j:Int),mo,rm,pln L⟩:Tre) v=(decide (0<v.i)&&(decide (((nth L v.i).es.length:Int)<mo/2)||((decide (((nth L 0).es.length:Int)=0)&&decide ((v.i:Int)∈(nth L 0).cs))&&decide (((nth L v.i).es.length:Int)<=rm)))):=by unfold ZF;rw[hn,hn0];simp only[LNd.pl];congr 3;congr 1;apply decide_eq_decide.2;omega
 have hO:Zk (⟨(j:Int),mo,rm,pln L⟩:Tre) v=(nth L v.i).es.any (ZK (⟨(j:Int),mo,rm,pln L⟩:Tre) v):=by unfold Zk;rw[hn];rfl
 have hE:erV (⟨(j:Int),mo,rm,pln L⟩:Tre) s v=((v.i:Int),if ZF (⟨(j:Int),mo,rm,pln L⟩:Tre) v=true then 14 else if Zk (⟨(j:Int),mo,rm,pln L⟩:Tre) v=true then 9 else if(nth L v.i).cs.length=0 then(if(if s=0 then v.d else s)=v.d then 0 else 22)else 0):=by unfold erV;rw[hn];rfl
 have hS:stV (⟨(j:Int),mo,rm,pln L⟩:Tre) s v=if ZF (⟨(j:Int),mo,rm,pln L⟩:Tre) v=true then s else if Zk (⟨(j:Int),mo,rm,pln L⟩:Tre) v=true then s else if(nth L v.i).cs.length=0 then(if s=0 then v.d else s)else s:=by unfold stV;rw[hn];rfl
 refine eW6 Tryz.func262 Tryz.ntmps262 hw ?_
 refine aU7 ?_
 refine o_q (Qb rfl rfl ZP (hc1)) rfl (aU3 ?_)
 refine o_q (Qb rfl rfl QbT (ht 3 _ rfl)) rfl (aU ?_)
 refine o_p (Qa rfl rfl rfl XC (v.i) om om (Rw.some hs.1 om)) rfl (o_q (Qq _ rfl rfl ZR rfl (Rw.rd hs.1 hi)) rfl (oAl (λb1 _=>?_) YS))
 refine aU5 ?_
 refine o_q (Qb rfl rfl ZP (hc1)) rfl (aU3 ?_)
 refine o_q (Qb rfl rfl QbT (ht 3 _ rfl)) rfl (o_p (Qa rfl rfl rfl XC (0) om om (Rw.some hs.1 om)) rfl (o_q (Qq _ rfl rfl ZR rfl (Rw.rd hs.1 (i:=0) h00)) rfl (oAl (λb2 _=>?_) YS)))
 refine aU7 ?_
 refine Qd (L':=[(0,_),(1,_),(2,_),(3,_),(4,_),(5,_),(10,_),(11,_),(12,_),(13,_),(33,_)]) aSx (λ_ h=>h) ?_
 refine Xy (α:=Unit) [10,11,14,34,35,36,37,38,39,40,41,42,43,44,45,46,47,48,49,50,51,52,53,54,55,56,57,58,59,60,61,62,63,64] (λ_=>[]) (λ_=>HS w (fps [.blk c7 3 1 [.int .i64 s]]) [.blk b2 127 3 (nth L 0).vals,.blk b1 127 3 (nth L v.i).vals,.blk c7 3 1 [.int .i64 s]]) (λ_=>ZF (⟨(j:Int),mo,rm,pln L⟩:Tre) v=false) ?_ ?_
 ·skip
  refine sCd rfl (λh3=>?_) λh3=>?_
  ·refine aU7 ?_
   refine Xi 5 38 43 rfl
    (λhg4 _=>by
     refine aU7 ?_
     refine oCq rfl (λw1 h1=>c263 w1 (nth L 0).ca (nth L 0).cc (nth L 0).cs (v.i:Int) ((hs.cs h00).later h1) om) ?_
     exact oJt 5 43)
    (λhg6 _=>by
     refine aU4 ?_
     exact oJf 5 43) ?_
   refine aU3 ?_
   refine Xy (α:=Unit) [44,45,46,47,48,49,50,51,52,53,54,55,56,57,58,59,60,61,62,63] (λ_=>[(63,.bool (decide (((nth L v.i).es.length:Int)<mo/2)||((decide (((nth L 0).es.length:Int)=0)&&decide ((v.i:Int)∈(nth L 0).cs))&&decide (((nth L v.i).es.length:Int)<=rm))))]) (λ_=>HS w (fps [.blk c7 3 1 [.int .i64 s]]) [.blk b2 127 3 (nth L 0).vals,.blk b1 127 3 (nth L v.i).vals,.blk c7 3 1 [.int .i64 s]]) (λ_=>True) ?_ ?_
   ·skip
    refine QH [] mixed ?_
    refine dFa 0 ?_
    refine dLd 1 [] ?_
    refine dV 2 rfl (Q0 rfl rfl Tryz.underlying124) (dQ 3 [] rfl (Qb rfl rfl ZP (hc1)) (dQ 4 [] rfl (Qv rfl Qtj rfl (λw1 h1=>c190 w1 bt j mo rm a L.length cap hmo (ht.next h1))) (dP 5 ?_)))
    refine dP 6 ?_
    apply QI 50
    ·exact rfl
    ·intro hg8
     have hs9:=hg8;try simp only[dT]at hs9
     refine dOf 7 50 hg8 ?_
     refine dOf 8 50 hg8 ?_
     refine dOu 9 52 ?_
     refine dOu 10 52 ?_
     refine dOu 11 52 ?_
     refine dOu 12 52 ?_
     refine dOu 13 52 ?_
     refine dOu 14 52 ?_
     refine dOu 15 52 ?_
     refine dOu 16 52 ?_
     refine dOu 17 52 ?_
     refine dOf 18 50 hg8 ?_
     refine dV 19 rfl (QE rfl rfl hg8 rfl) (Qz (show _=Value.bool (decide (((nth L v.i).es.length:Int)<mo/2)||((decide (((nth L 0).es.length:Int)=0)&&decide ((v.i:Int)∈(nth L 0).cs))&&decide (((nth L v.i).es.length:Int)<=rm)))from by congr 1;first|(simp_all;done)|(simp_all;omega)) (dNi ?_))
     exact Qo () trivial aSx (λw h=>h.ent aEt)
    intro hg10
    have hs11:=hg10;try simp only[dN]at hs11
    refine dPo 7 50 hg10 ?_
    refine dPo 8 50 hg10 ?_
    apply QI 52
    ·exact rfl
    ·intro hg12
     have hs13:=hg12;try simp only[Bool.and_eq_true,decide_eq_true_eq]at hs13
     refine dFo 9 52 hg12 ?_
     refine dQo 10 52 [] hg12 rfl rfl rfl (Yj rfl rfl Z5 aPk rfl) ?_
     refine dVo 11 52 hg12 rfl rfl rfl (Q0 rfl rfl Tryz.underlying124) ?_
     refine dQo 12 52 [] hg12 rfl rfl rfl (Qb rfl rfl ZP (hc1)) ?_
     refine dPo 13 52 hg12 ?_
     refine dFo 14 52 hg12 ?_
     refine dFo 15 52 hg12 ?_
     refine dQo 16 52 [] hg12 rfl rfl rfl (Qb rfl rfl Zh (ht 2 _ rfl)) ?_
     refine dPo 17 52 hg12 ?_
     refine dVo 18 50 hg10 rfl rfl rfl (QE rfl rfl hg12 rfl) ?_
     refine dV 19 rfl (QC rfl rfl hg10 rfl) (Qz (show _=Value.bool (decide (((nth L v.i).es.length:Int)<mo/2)||((decide (((nth L 0).es.length:Int)=0)&&decide ((v.i:Int)∈(nth L 0).cs))&&decide (((nth L v.i).es.length:Int)<=rm)))from by congr 1;first|(simp_all;done)|(simp_all;omega)) (dNi ?_))
     exact Qo () trivial aSx (λw h=>h.ent aEt)
    intro hg14
    have hs15:=hg14;try simp only[Bool.and_eq_false_iff,decide_eq_false_iff_not]at hs15
    refine dOf 9 52 hg14 ?_
    refine dOf 10 52 hg14 ?_
    refine dOf 11 52 hg14 ?_
    refine dOf 12 52 hg14 ?_
    refine dOf 13 52 hg14 ?_
    refine dOf 14 52 hg14 ?_
    refine dOf 15 52 hg14 ?_
    refine dOf 16 52 hg14 ?_
    refine dOf 17 52 hg14 ?_
    refine dVo 18 50 hg10 rfl rfl rfl (QC rfl rfl hg14 rfl) ?_
    refine dV 19 rfl (QC rfl rfl hg10 rfl) (Qz (show _=Value.bool (decide (((nth L v.i).es.length:Int)<mo/2)||((decide (((nth L 0).es.length:Int)=0)&&decide ((v.i:Int)∈(nth L 0).cs))&&decide (((nth L v.i).es.length:Int)<=rm)))from by congr 1;first|(simp_all;done)|(simp_all;omega)) (dNi ?_))
    exact Qo () trivial aSx (λw h=>h.ent aEt)
   intro _ _
   refine sCd rfl (λh16=>?_) λh16=>?_
   ·have hz:ZF (⟨(j:Int),mo,rm,pln L⟩:Tre) v=true:=by rw[hG];have hq:=h16;simp only[Bool.and_eq_true,Bool.or_eq_true,decide_eq_true_eq];exact⟨om,hq⟩
    refine aU6 ?_
    exact Qm (rs:=[.tmp 10,.tmp 11]) rfl (.tmp rfl (.tmp rfl (.nil))) (λw' h'=>⟨(),by rw[hE];simp only[];rw[if_pos hz];rfl,trivial,by rw[hS,if_pos hz];exact h'.ent aEt⟩)
   refine aU ?_
   exact Qo () (by rw[hG,decide_eq_true om,Bool.true_and];apply Bool.eq_false_iff.2;intro h9;simp only[Bool.and_eq_true,Bool.or_eq_true,decide_eq_true_eq]at h9;have hq:=h16;simp at hq h9;grind) aSx (λw h=>h.ent aEt)
  refine aU ?_
  exact Qo () (by rw[hG,decide_eq_false om];rfl) aSx (λw h=>h.ent aEt)
 intro _ hz1
 refine aU9 ?_
 refine Qp (α:=Nat) [10,11,16,68,69,70,71,72,73,74,75,76,77,78,79,80,81,82,83,84,85,86,87,88,89,90,91,92,93,94,95,96,97,98,99,100,101,102,103,104,105,106,107] (λk=>[(68,.int .i64 (k:Int))]) (λ_=>HS w (fps [.blk c7 3 1 [.int .i64 s]]) [.blk b2 127 3 (nth L 0).vals,.blk b1 127 3 (nth L v.i).vals,.blk c7 3 1 [.int .i64 s]]) (λk=>k<=(nth L v.i).es.length/\∀i,i<k->ZK (⟨(j:Int),mo,rm,pln L⟩:Tre) v (nth (nth L v.i).es i)=false) (λk=>(nth L v.i).es.length-k) 0 ⟨Nat.zero_le _,λi h=>absurd h (Nat.not_lt_zero i)⟩ aSx (λw h=>h.ent aEt) (λk hx=>?_)
 obtain⟨hk1,hk2⟩:=hx
 refine aU5 ?_
 refine sCd rfl (λh17=>?_) λh17=>?_
 ·have hkl:k<(nth L v.i).es.length:=by omega
  refine aU5 ?_
  refine o_p (Qa rfl rfl rfl QG (k) om om (Rw.some (hs.es hi) om)) rfl (o_q (Qq _ rfl rfl Qc8 rfl (Rw.rd (hs.es hi) (i:=k) hkl)) rfl (oAl (λb18 _=>?_) Qah))
  refine aU3 ?_
  refine Xy (α:=Unit) [72,73,74,75,76,77,78,79,80,81,82,83,84,85,86,87,88,89,90,91,92,93,94,95,96,97,98,99,100,101,102,103,104,105] (λ_=>[(105,.bool (ZK (⟨(j:Int),mo,rm,pln L⟩:Tre) v (nth (nth L v.i).es k)))]) (λ_=>HS w (fps [.blk c7 3 1 [.int .i64 s]]) [.blk b2 127 3 (nth L 0).vals,.blk b1 127 3 (nth L v.i).vals,.blk c7 3 1 [.int .i64 s]]) (λ_=>True) ?_ ?_
  ·skip
   refine QH [] mixed ?_
   refine dP 0 ?_
   refine dV 1 rfl (Qcx rfl rfl rfl QhX) (dP 2 ?_)
   apply QI 74
   ·exact rfl
   ·intro hg19
    have hs20:=hg19;skip
    refine dQo 3 74 [] hg19 rfl rfl rfl (Qb rfl rfl ZP (hc1)) ?_
    obtain⟨k9,b9,o9,hlo9,rfl,hr9⟩:=hpl.of_some hg19
    refine dPo 4 74 hg19 ?_
    refine dFo 5 74 hg19 ?_
    refine dFo 6 74 hg19 ?_
    refine dQo 7 74 [] hg19 rfl rfl rfl (Qb rfl rfl QeK (ht 5 _ rfl)) ?_
    refine dPo 8 74 hg19 ?_
    refine dPo 9 74 hg19 ?_
    refine dQo 10 74 [] hg19 rfl rfl rfl (Qb rfl rfl X1 (hr9)) ?_
    refine dFo 11 74 hg19 ?_
    refine dQo 12 74 [] hg19 rfl rfl rfl (Yj rfl rfl X1 aPk rfl) ?_
    refine dQo 13 74 [] hg19 rfl rfl rfl (YF rfl rfl (Qgr _) rfl (λw1 h1=>QaS w1 j k9 (nth (nth L v.i).es k).key hj (hlo _ hlo9).1 (hok _ (Qt hkl)).1 (hlo _ hlo9).2 (hok _ (Qt hkl)).2)) ?_
    refine dPo 14 74 hg19 ?_
    refine dV 15 rfl (QE rfl rfl hg19 rfl) (Qz (show _=Value.bool (v.lo.any λb=>decide (0<=QS (j:Int) b (nth (nth L v.i).es k).key))from by congr 1;first|(rw[hlo9];rfl)|(rw[hpl.of_none hg19];rfl)) (dP 16 ?_))
    apply QI 88
    ·exact rfl
    ·intro hg21
     have hs22:=hg21;skip
     refine dOf 17 88 hg21 ?_
     refine dOf 18 88 hg21 ?_
     refine dOf 19 88 hg21 ?_
     refine dOu 20 91 ?_
     refine dOu 21 91 ?_
     refine dOu 22 91 ?_
     refine dOu 23 91 ?_
     refine dOu 24 91 ?_
     refine dOu 25 91 ?_
     refine dOu 26 91 ?_
     refine dOu 27 91 ?_
     refine dOu 28 91 ?_
     refine dOu 29 91 ?_
     refine dOu 30 91 ?_
     refine dOu 31 91 ?_
     refine dOf 32 88 hg21 ?_
     refine dV 33 rfl (QE rfl rfl hg21 rfl) (Qz (show _=Value.bool (ZK (⟨(j:Int),mo,rm,pln L⟩:Tre) v (nth (nth L v.i).es k))from by congr 1;show _=((v.lo.any λb=>decide (0<=QS (j:Int) b (nth (nth L v.i).es k).key))||(v.hi.any λb=>decide (0<=QS (j:Int) (nth (nth L v.i).es k).key b)));first|(rw[show(v.lo.any λb=>decide (0<=QS (j:Int) b (nth (nth L v.i).es k).key))=true by assumption];rfl)|(rw[show(v.lo.any λb=>decide (0<=QS (j:Int) b (nth (nth L v.i).es k).key))=false by assumption];rfl)) (dNi ?_))
     exact Qo () trivial aSx (λw h=>h.ent aEt)
    intro hg23
    have hs24:=hg23;skip
    refine dPo 17 88 hg23 ?_
    refine dVo 18 88 hg23 rfl rfl rfl (Qcx rfl rfl rfl QhX) ?_
    refine dPo 19 88 hg23 ?_
    apply QI 91
    ·exact rfl
    ·intro hg25
     have hs26:=hg25;skip
     refine dQo 20 91 [] hg25 rfl rfl rfl (Qb rfl rfl ZP (hc1)) ?_
     obtain⟨k8,b8,o8,hhi8,rfl,hr8⟩:=hph.of_some hg25
     refine dPo 21 91 hg25 ?_
     refine dFo 22 91 hg25 ?_
     refine dFo 23 91 hg25 ?_
     refine dQo 24 91 [] hg25 rfl rfl rfl (Qb rfl rfl QeK (ht 5 _ rfl)) ?_
     refine dFo 25 91 hg25 ?_
     refine dQo 26 91 [] hg25 rfl rfl rfl (Yj rfl rfl X1 aPk rfl) ?_
     refine dPo 27 91 hg25 ?_
     refine dPo 28 91 hg25 ?_
     refine dQo 29 91 [] hg25 rfl rfl rfl (Qb rfl rfl X1 (hr8)) ?_
     refine dQo 30 91 [] hg25 rfl rfl rfl (YF rfl rfl (Qgr _) rfl (λw1 h1=>QaS w1 j (nth (nth L v.i).es k).key k8 hj (hok _ (Qt hkl)).1 (hhi _ hhi8).1 (hok _ (Qt hkl)).2 (hhi _ hhi8).2)) ?_
     refine dPo 31 91 hg25 ?_
     refine dVo 32 88 hg23 rfl rfl rfl (QE rfl rfl hg25 rfl) ?_
     refine Qz (show _=Value.bool (v.hi.any λb=>decide (0<=QS (j:Int) (nth (nth L v.i).es k).key b))from by congr 1;first|(rw[hhi8];rfl)|(rw[hph.of_none hg25];rfl)) (dV 33 rfl (QC rfl rfl hg23 rfl) (Qz (show _=Value.bool (ZK (⟨(j:Int),mo,rm,pln L⟩:Tre) v (nth (nth L v.i).es k))from by congr 1;show _=((v.lo.any λb=>decide (0<=QS (j:Int) b (nth (nth L v.i).es k).key))||(v.hi.any λb=>decide (0<=QS (j:Int) (nth (nth L v.i).es k).key b)));first|(rw[show(v.lo.any λb=>decide (0<=QS (j:Int) b (nth (nth L v.i).es k).key))=true by assumption];rfl)|(rw[show(v.lo.any λb=>decide (0<=QS (j:Int) b (nth (nth L v.i).es k).key))=false by assumption];rfl)) (dNi ?_)))
     exact Qo () trivial aSx (λw h=>h.ent aEt)
    intro hg27
    have hs28:=hg27;skip
    refine dOf 20 91 hg27 ?_
    refine dOf 21 91 hg27 ?_
    refine dOf 22 91 hg27 ?_
    refine dOf 23 91 hg27 ?_
    refine dOf 24 91 hg27 ?_
    refine dOf 25 91 hg27 ?_
    refine dOf 26 91 hg27 ?_
    refine dOf 27 91 hg27 ?_
    refine dOf 28 91 hg27 ?_
    refine dOf 29 91 hg27 ?_
    refine dOf 30 91 hg27 ?_
    refine dOf 31 91 hg27 ?_
    refine dVo 32 88 hg23 rfl rfl rfl (QC rfl rfl hg27 rfl) ?_
    refine Qz (show _=Value.bool (v.hi.any λb=>decide (0<=QS (j:Int) (nth (nth L v.i).es k).key b))from by congr 1;first|(rw[hhi8];rfl)|(rw[hph.of_none hg27];rfl)) (dV 33 rfl (QC rfl rfl hg23 rfl) (Qz (show _=Value.bool (ZK (⟨(j:Int),mo,rm,pln L⟩:Tre) v (nth (nth L v.i).es k))from by congr 1;show _=((v.lo.any λb=>decide (0<=QS (j:Int) b (nth (nth L v.i).es k).key))||(v.hi.any λb=>decide (0<=QS (j:Int) (nth (nth L v.i).es k).key b)));first|(rw[show(v.lo.any λb=>decide (0<=QS (j:Int) b (nth (nth L v.i).es k).key))=true by assumption];rfl)|(rw[show(v.lo.any λb=>decide (0<=QS (j:Int) b (nth (nth L v.i).es k).key))=false by assumption];rfl)) (dNi ?_)))
    exact Qo () trivial aSx (λw h=>h.ent aEt)
   intro hg29
   have hs30:=hg29;skip
   refine dOf 3 74 hg29 ?_
   refine dOf 4 74 hg29 ?_
   refine dOf 5 74 hg29 ?_
   refine dOf 6 74 hg29 ?_
   refine dOf 7 74 hg29 ?_
   refine dOf 8 74 hg29 ?_
   refine dOf 9 74 hg29 ?_
   refine dOf 10 74 hg29 ?_
   refine dOf 11 74 hg29 ?_
   refine dOf 12 74 hg29 ?_
   refine dOf 13 74 hg29 ?_
   refine dOf 14 74 hg29 ?_
   refine dV 15 rfl (QC rfl rfl hg29 rfl) (Qz (show _=Value.bool (v.lo.any λb=>decide (0<=QS (j:Int) b (nth (nth L v.i).es k).key))from by congr 1;first|(rw[hlo9];rfl)|(rw[hpl.of_none hg29];rfl)) (dP 16 ?_))
   apply QI 88
   ·exact rfl
   ·intro hg31
    have hs32:=hg31;skip
    refine dOf 17 88 hg31 ?_
    refine dOf 18 88 hg31 ?_
    refine dOf 19 88 hg31 ?_
    refine dOu 20 91 ?_
    refine dOu 21 91 ?_
    refine dOu 22 91 ?_
    refine dOu 23 91 ?_
    refine dOu 24 91 ?_
    refine dOu 25 91 ?_
    refine dOu 26 91 ?_
    refine dOu 27 91 ?_
    refine dOu 28 91 ?_
    refine dOu 29 91 ?_
    refine dOu 30 91 ?_
    refine dOu 31 91 ?_
    refine dOf 32 88 hg31 ?_
    refine dV 33 rfl (QE rfl rfl hg31 rfl) (Qz (show _=Value.bool (ZK (⟨(j:Int),mo,rm,pln L⟩:Tre) v (nth (nth L v.i).es k))from by congr 1;show _=((v.lo.any λb=>decide (0<=QS (j:Int) b (nth (nth L v.i).es k).key))||(v.hi.any λb=>decide (0<=QS (j:Int) (nth (nth L v.i).es k).key b)));first|(rw[show(v.lo.any λb=>decide (0<=QS (j:Int) b (nth (nth L v.i).es k).key))=true by assumption];rfl)|(rw[show(v.lo.any λb=>decide (0<=QS (j:Int) b (nth (nth L v.i).es k).key))=false by assumption];rfl)) (dNi ?_))
    exact Qo () trivial aSx (λw h=>h.ent aEt)
   intro hg33
   have hs34:=hg33;skip
   refine dPo 17 88 hg33 ?_
   refine dVo 18 88 hg33 rfl rfl rfl (Qcx rfl rfl rfl QhX) ?_
   refine dPo 19 88 hg33 ?_
   apply QI 91
   ·exact rfl
   ·intro hg35
    have hs36:=hg35;skip
    refine dQo 20 91 [] hg35 rfl rfl rfl (Qb rfl rfl ZP (hc1)) ?_
    obtain⟨k8,b8,o8,hhi8,rfl,hr8⟩:=hph.of_some hg35
    refine dPo 21 91 hg35 ?_
    refine dFo 22 91 hg35 ?_
    refine dFo 23 91 hg35 ?_
    refine dQo 24 91 [] hg35 rfl rfl rfl (Qb rfl rfl QeK (ht 5 _ rfl)) ?_
    refine dFo 25 91 hg35 ?_
    refine dQo 26 91 [] hg35 rfl rfl rfl (Yj rfl rfl X1 aPk rfl) ?_
    refine dPo 27 91 hg35 ?_
    refine dPo 28 91 hg35 ?_
    refine dQo 29 91 [] hg35 rfl rfl rfl (Qb rfl rfl X1 (hr8)) ?_
    refine dQo 30 91 [] hg35 rfl rfl rfl (YF rfl rfl (Qgr _) rfl (λw1 h1=>QaS w1 j (nth (nth L v.i).es k).key k8 hj (hok _ (Qt hkl)).1 (hhi _ hhi8).1 (hok _ (Qt hkl)).2 (hhi _ hhi8).2)) ?_
    refine dPo 31 91 hg35 ?_
    refine dVo 32 88 hg33 rfl rfl rfl (QE rfl rfl hg35 rfl) ?_
    refine Qz (show _=Value.bool (v.hi.any λb=>decide (0<=QS (j:Int) (nth (nth L v.i).es k).key b))from by congr 1;first|(rw[hhi8];rfl)|(rw[hph.of_none hg35];rfl)) (dV 33 rfl (QC rfl rfl hg33 rfl) (Qz (show _=Value.bool (ZK (⟨(j:Int),mo,rm,pln L⟩:Tre) v (nth (nth L v.i).es k))from by congr 1;show _=((v.lo.any λb=>decide (0<=QS (j:Int) b (nth (nth L v.i).es k).key))||(v.hi.any λb=>decide (0<=QS (j:Int) (nth (nth L v.i).es k).key b)));first|(rw[show(v.lo.any λb=>decide (0<=QS (j:Int) b (nth (nth L v.i).es k).key))=true by assumption];rfl)|(rw[show(v.lo.any λb=>decide (0<=QS (j:Int) b (nth (nth L v.i).es k).key))=false by assumption];rfl)) (dNi ?_)))
    exact Qo () trivial aSx (λw h=>h.ent aEt)
   intro hg37
   have hs38:=hg37;skip
   refine dOf 20 91 hg37 ?_
   refine dOf 21 91 hg37 ?_
   refine dOf 22 91 hg37 ?_
   refine dOf 23 91 hg37 ?_
   refine dOf 24 91 hg37 ?_
   refine dOf 25 91 hg37 ?_
   refine dOf 26 91 hg37 ?_
   refine dOf 27 91 hg37 ?_
   refine dOf 28 91 hg37 ?_
   refine dOf 29 91 hg37 ?_
   refine dOf 30 91 hg37 ?_
   refine dOf 31 91 hg37 ?_
   refine dVo 32 88 hg33 rfl rfl rfl (QC rfl rfl hg37 rfl) ?_
   refine Qz (show _=Value.bool (v.hi.any λb=>decide (0<=QS (j:Int) (nth (nth L v.i).es k).key b))from by congr 1;first|(rw[hhi8];rfl)|(rw[hph.of_none hg37];rfl)) (dV 33 rfl (QC rfl rfl hg33 rfl) (Qz (show _=Value.bool (ZK (⟨(j:Int),mo,rm,pln L⟩:Tre) v (nth (nth L v.i).es k))from by congr 1;show _=((v.lo.any λb=>decide (0<=QS (j:Int) b (nth (nth L v.i).es k).key))||(v.hi.any λb=>decide (0<=QS (j:Int) (nth (nth L v.i).es k).key b)));first|(rw[show(v.lo.any λb=>decide (0<=QS (j:Int) b (nth (nth L v.i).es k).key))=true by assumption];rfl)|(rw[show(v.lo.any λb=>decide (0<=QS (j:Int) b (nth (nth L v.i).es k).key))=false by assumption];rfl)) (dNi ?_)))
   exact Qo () trivial aSx (λw h=>h.ent aEt)
  intro _ _
  refine sCd rfl (λh39=>?_) λh39=>?_
  ·have hz2:Zk (⟨(j:Int),mo,rm,pln L⟩:Tre) v=true:=by rw[hO,List.any_eq_true];exact⟨_,Qt hkl,h39⟩
   refine aU6 ?_
   exact Qm (rs:=[.tmp 10,.tmp 11]) rfl (.tmp rfl (.tmp rfl (.nil))) (λw' h'=>⟨(),by rw[hE];simp only[];rw[if_neg (by rw[hz1];decide),if_pos hz2];rfl,trivial,by rw[hS,if_neg (by rw[hz1];decide),if_pos hz2];exact h'.ent aEt⟩)
  refine aT4 ?_
  refine aU2 ?_
  exact sBk (k+1) om ⟨om,λi hi9=>(Nat.lt_or_ge i k).elim (hk2 i) (λh=>by obtain rfl:i=k:=om;have hq:=h39;simpa using hq)⟩
 obtain rfl:k=(nth L v.i).es.length:=om
 have hz2:Zk (⟨(j:Int),mo,rm,pln L⟩:Tre) v=false:=by rw[hO,List.any_eq_false];intro x hx;obtain⟨i9,hi9,e9⟩:=List.getElem_of_mem hx;have e8:nth (nth L v.i).es i9=x:=Yi (by rw[List.getElem?_eq_getElem hi9,e9]);rw[<-e8,hk2 i9 hi9];decide
 refine Qg rfl ?_
 refine aU8 ?_
 refine sCd rfl (λh40=>?_) λh40=>?_
 ·have hc9:(nth L v.i).cs.length=0:=by have hq:=h40;omega
  have hEv:erV (⟨(j:Int),mo,rm,pln L⟩:Tre) s v=((v.i:Int),if(if s=0 then v.d else s)=v.d then 0 else 22):=by rw[hE,if_neg (by rw[hz1];decide),if_neg (by rw[hz2];decide),if_pos hc9]
  refine aU6 ?_
  refine Xy (α:=Unit) [114] (λ_=>[]) (λ_=>HS w (fps [.blk c7 3 1 [.int .i64 s]]) [.blk b2 127 3 (nth L 0).vals,.blk b1 127 3 (nth L v.i).vals,.blk c7 3 1 [.int .i64 (if s=0 then v.d else s)]]) (λ_=>True) ?_ ?_
  ·skip
   refine sCd rfl (λh41=>?_) λh41=>?_
   ·refine aU4 ?_
    exact Qo () trivial aSx (λw h=>by rw[if_pos h41];exact h.ent aEt)
   refine aU ?_
   exact Qo () trivial aSx (λw h=>by rw[if_neg h41];exact h.ent aEt)
  intro _ _
  refine aU6 ?_
  refine oCq rfl (λw1 h1=>Qed w1 _ _) (aU3 ?_)
  exact Qm (rs:=[.tmp 10,.tmp 11]) rfl (.tmp rfl (.tmp rfl (.nil))) (λw' h'=>⟨(),by rw[hEv];simp only[QA,cond_eq_ite,decide_eq_true_eq],trivial,by rw[hS,if_neg (by rw[hz1];decide),if_neg (by rw[hz2];decide),if_pos hc9];exact h'.ent aEt⟩)
 have hc9:¬(nth L v.i).cs.length=0:=by have hq:=h40;omega
 refine aU7 ?_
 exact Qm (rs:=[.tmp 10,.tmp 11]) rfl (.tmp rfl (.tmp rfl (.nil))) (λw' h'=>⟨(),by rw[hE];simp only[];rw[if_neg (by rw[hz1];decide),if_neg (by rw[hz2];decide),if_neg hc9];rfl,trivial,by rw[hS,if_neg (by rw[hz1];decide),if_neg (by rw[hz2];decide),if_neg hc9];exact h'.ent aEt⟩)
theorem QuO:QM Tryz.prog 228=some [.slice none 0 0]:=by kernel_rfl
theorem c201(w:World)(bt:Nat)(j:Nat)(mo rm:Int)(a:Option Addr)(cap:Nat)(L:List LNd)(ht:TbR w [] bt (j:Int) mo rm a L.length cap)(hs:Nt w [] a L)(hj:j<=3)(hmo:0<=mo/\mo<=1000)(h0:0<L.length)(hB:Bd (pln L))(hT:TOk (j:Int) (pln L)):CR 201 #[.pointer (some ⟨bt,0,none⟩)] w (.tuple #[.int .i64 (QbQ (⟨(j:Int),mo,rm,pln L⟩:Tre)).1,.int .i64 (QbQ (⟨(j:Int),mo,rm,pln L⟩:Tre)).2]):=by
 have hle:=hB.len
 rw[Qh]at hle
 have hvis:vis (pln L) L.length Z4=Yy (pln L):=by unfold Yy;rw[Qh]
 have hmar:=Qmk (Yy (pln L)) (List.replicate L.length false)
 rw[List.length_replicate]at hmar
 have hbel:∀i,i<L.length->(Xs Qg3 (λ_ _=>(0,0)) (List.replicate L.length false) (Yy (pln L))).2.getD i false=decide (i∈(Yy (pln L)).map Vis.i):=λi hi=>by rw[hmar.2.2 i hi,show(List.replicate L.length false).getD i false=false from by rw[List.getD_eq_getElem?_getD,List.getElem?_replicate];split<;>rfl,Bool.false_or]
 have hes9:∀i,i<L.length->(nth L i).es.length<=1000:=λi hi=>by have h9:=hB.es i (by rw[Qh];exact hi);rw[QR hi]at h9;exact h9
 have hcs9:∀i,i<L.length->(nth L i).cs.length<=1000:=λi hi=>by have h9:=hB.cs i (by rw[Qh];exact hi);rw[QR hi]at h9;exact h9
 have hok9:∀i,i<L.length->∀x∈(nth L i).es,Q7 (j:Int) x.key=true/\x.key.length<=1000000:=λi hi=>by have h9:=Qef hT (i:=i) (by rw[Qh];exact hi);rw[QR hi]at h9;exact h9
 refine eN1 Tryz.func201 Tryz.ntmps201 ?_
 refine aU2 ?_
 refine oBx λb1 _=>?_
 refine aU9 ?_
 refine o_q (Qb rfl rfl QbT (ht 3 _ rfl)) rfl (aU ?_)
 refine o_h (Qbu (n:=L.length) rfl rfl rfl Xf Qk8 om om) rfl (λb2 _=>Y0 (λw h=>(show HS _ _ [.blk b2 4 L.length ((List.replicate L.length false).map Value.bool),.blk b1 197 1 [.pointer (some ⟨bt,0,none⟩)]] w from by have h9:=h;rw[Nat.mul_one,QaY,<-List.map_replicate]at h9;exact h9.ent aEt)) (oAl (λb3 _=>?_) QuO))
 refine aU6 ?_
 refine o_h (XG (Cs:=[.blk b2 4 L.length ((List.replicate L.length false).map Value.bool)]) rfl Qky rfl aPs (λw1 h1 hf=>by have h9:=QkW (List Bool) (λs=>s.length=L.length) (λs=>.blk b2 4 L.length (s.map Value.bool)) Qg3 (λ_ _=>(0,0)) 261 #[.pointer (some ⟨b3,0,none⟩)] bt j mo rm a cap L L.length w1 (List.replicate L.length false) Z4 none none [] hf (by kernel_rfl) (λ_ _=>rfl) (λs v h=>by simpa[Qg3]using h) (by simp) (λs2 v2 p2 p3 w2 h2 hs2 hi2 _ _ _ _=>c261 w2 v2.i v2.d p2 p3 b3 b2 L.length s2 (HS.focus (Cs:=[_]) (Ds:=[]) h2) (h2.keep (h1.rd_blkF aPs (b:=b3) aPk rfl)) hi2 hs2) ((ht.keep h1).mono (QY aPs)) ((hs.keep h1).mono (QY aPs)) hT hB rfl rfl h0 rfl (by simp) rfl (λ_ h=>by cases h) (λ_ h=>by cases h);rw[hvis]at h9;exact h9)) rfl (λ_ _=>aU3 ?_)
 refine Y0 (λw h=>(show HS _ _ [.blk b2 4 L.length ((Xs Qg3 (λ_ _=>(0,0)) (List.replicate L.length false) (Yy (pln L))).2.map Value.bool),.blk b3 228 1 [.slice (some ⟨b2,0,none⟩) L.length L.length],.blk b1 197 1 [.pointer (some ⟨bt,0,none⟩)]] w from h.ent aEt)) (aU8 ?_)
 refine o_q (Qb rfl rfl QbT (ht 3 _ rfl)) rfl (aU4 ?_)
 refine Qd (L':=[(1,_),(2,_),(3,_),(4,_),(25,_),(26,_),(27,_)]) aSx (λ_ h=>h) ?_
 refine Qp (α:=Nat) [2,3,5,6,27,28,29,30,31,32,33,34,35,36,37,38,39,40,41,42] (λk=>[(27,.int .i64 (k:Int))]) (λ_=>HS w [] [.blk b2 4 L.length ((Xs Qg3 (λ_ _=>(0,0)) (List.replicate L.length false) (Yy (pln L))).2.map Value.bool),.blk b3 228 1 [.slice (some ⟨b2,0,none⟩) L.length L.length],.blk b1 197 1 [.pointer (some ⟨bt,0,none⟩)]]) (λk=>k<=L.length/\Qap (pln L) ((Yy (pln L)).map Vis.i) L.length 0=Qap (pln L) ((Yy (pln L)).map Vis.i) (L.length-k) k) (λk=>L.length-k) 0 ⟨Nat.zero_le _,rfl⟩ aSx (λw h=>h.ent aEt) (λk hx=>?_)
 obtain⟨hk1,hk2⟩:=hx
 refine aU5 ?_
 refine sCd rfl (λh4=>?_) λh4=>?_
 ·have hkl:k<L.length:=by omega
  have hst:=QhD (ns:=pln L) (below:=(Yy (pln L)).map Vis.i) (k:=k) (by rw[Qh];exact hkl)
  rw[Qh,QR hkl]at hst
  refine aU6 ?_
  refine o_p (Qa rfl rfl rfl XC (k) om om (Rw.some hs.1 om)) rfl (o_q (Qq _ rfl rfl ZR rfl (Rw.rd hs.1 hkl)) rfl (oAl (λb5 _=>?_) YS))
  refine aU8 ?_
  refine Xi 6 34 40 rfl
   (λhg6 _=>by
    refine aU5 ?_
    refine o_p (Qa rfl rfl rfl Xf (k) om om rfl) rfl (aU ?_)
    refine o_q (QN rfl rfl Zm (λw h=>by rw[Nat.zero_add,Nat.mul_one];exact h.rd_blk (Mc:=[]) (b:=b2) aPk (Qqe (by rw[hmar.2.1];exact hkl)) (by simp))) rfl (aU2 ?_)
    exact oJt 6 40)
   (λhg8 _=>by
    refine aU5 ?_
    exact oJf 6 40) ?_
  refine aU ?_
  refine sCd rfl (λh10=>?_) λh10=>?_
  ·have hz:(nth L k).pl.us=true/\k ∉ (Yy (pln L)).map Vis.i:=by have hq:=h10;rw[hbel k hkl]at hq;simp only[LNd.pl];simpa using hq
   refine aU6 ?_
   exact Qm (rs:=[.tmp 2,.tmp 3]) rfl (.tmp rfl (.tmp rfl (.nil))) (λw' h'=>⟨by rw[Qdv (t:=(⟨(j:Int),mo,rm,pln L⟩:Tre)) (i:=k) (show Qap (pln L) _ (pln L).length 0=some k from by rw[Qh,hk2,hst,if_pos hz])];rfl,h'.below⟩)
  have hz:¬((nth L k).pl.us=true/\k ∉ (Yy (pln L)).map Vis.i):=by have hq:=h10;rw[hbel k hkl]at hq;simp only[LNd.pl];intro h9;simp at hq h9;grind
  refine aT4 ?_
  refine aU2 ?_
  exact sBk (k+1) om ⟨om,by rw[hk2,hst,if_neg hz]⟩
 have hnone:Qap (pln L) ((Yy (pln L)).map Vis.i) L.length 0=none:=by rw[hk2,show L.length-k=0 by omega];rfl
 refine Qg rfl ?_
 refine aU2 ?_
 refine oAl (λb11 _=>?_) QmU
 refine aU6 ?_
 refine o_h (XG (Cs:=[.blk b11 3 1 [.int .i64 0]]) rfl Qky rfl aPs (λw1 h1 hf=>by have h9:=QkW Int (λ_=>True) (λs=>.blk b11 3 1 [.int .i64 s]) (stV (⟨(j:Int),mo,rm,pln L⟩:Tre)) (erV (⟨(j:Int),mo,rm,pln L⟩:Tre)) 262 #[.pointer (some ⟨b1,0,none⟩),.pointer (some ⟨b11,0,none⟩)] bt j mo rm a cap L L.length w1 0 Z4 none none [] hf (by kernel_rfl) (λ_ _=>rfl) (λ_ _ _=>trivial) trivial (λs2 v2 p2 p3 w2 h2 _ hi2 ha2 hb2 hp2 hp3=>c262 w2 v2 p2 p3 b1 b11 s2 bt j mo rm a cap L (HS.focus (Cs:=[_]) (Ds:=[]) h2) (h2.keep (h1.rd_blkF aPs (b:=b1) aPk rfl)) (((ht.keep h1).mono (QY aPs)).keep h2) (((hs.keep h1).mono (QY aPs)).keep h2) hj hmo hi2 hle (hes9 _ hi2) (hcs9 _ hi2) (hcs9 _ h0) (hes9 _ h0) hp2 hp3 ha2 hb2 (hok9 _ hi2)) ((ht.keep h1).mono (QY aPs)) ((hs.keep h1).mono (QY aPs)) hT hB rfl rfl h0 rfl (by simp) rfl (λ_ h=>by cases h) (λ_ h=>by cases h);rw[hvis,Gx.run_shape (t:=(⟨(j:Int),mo,rm,pln L⟩:Tre)) hT (by show 0<(pln L).length;rw[Qh];exact h0)]at h9;exact h9)) rfl (λ_ _=>aU5 ?_)
 exact Qm (rs:=[.tmp 2,.tmp 3]) rfl (.tmp rfl (.tmp rfl (.nil))) (λw' h'=>⟨by rw[Qdt (t:=(⟨(j:Int),mo,rm,pln L⟩:Tre)) (show Qap (pln L) _ (pln L).length 0=none from by rw[Qh];exact hnone)];rfl,h'.below⟩)
instance:TFn Tryz.prog 198:=⟨by kernel_rfl⟩
theorem Qol:YH Tryz.prog 207=some [(0,4),(4,2)]:=by kernel_rfl
theorem Qqv:QM Tryz.prog 207=some [.int .i64 0,.int .i64 0,.int .i64 0,.slice none 0 0,.nilFunc,.nilFunc]:=by kernel_rfl
theorem Qt9:QJ Tryz.prog 200=true:=by kernel_rfl
instance:TFn Tryz.prog 201:=⟨by kernel_rfl⟩
instance:TFn Tryz.prog 298:=⟨by kernel_rfl⟩
theorem QtC:QJ Tryz.prog 299=true:=by kernel_rfl
theorem Qtw:QJ Tryz.prog 300=true:=by kernel_rfl
theorem QuC(w:World)(co mo rm:Int)(a:Option Addr)(cap:Nat)(L:List LNd)(hs:Nt w [] a L)(hB:Bd (pln L))(hkl:∀i,i<L.length->∀x∈(nth L i).es,x.key.length<=1000000):CR 134 #[.agg #[.int .i64 co,.int .i64 mo,.int .i64 rm,.slice a L.length cap]] w (.tuple #[.int .i64 (Yb (⟨co,mo,rm,pln L⟩:Tre)).1,.int .i64 (Yb (⟨co,mo,rm,pln L⟩:Tre)).2]):=by
 have hle:=hB.len
 rw[Qh]at hle
 have hes9:∀i,i<L.length->(nth L i).es.length<=1000:=λi hi=>by have h9:=hB.es i (by rw[Qh];exact hi);rw[QR hi]at h9;exact h9
 have hcs9:∀i,i<L.length->(nth L i).cs.length<=1000:=λi hi=>by have h9:=hB.cs i (by rw[Qh];exact hi);rw[QR hi]at h9;exact h9
 refine eN1 Tryz.func134 Tryz.ntmps134 ?_
 refine aU2 ?_
 refine oBx λb1 _=>?_
 refine QbX ?_
 refine oCq rfl (λw1 h1=>c198 w1 _ _ _) (aU7 ?_)
 refine sCd rfl (λh2=>?_) λh2=>?_
 ·have hz:=QcO (t:=(⟨co,mo,rm,pln L⟩:Tre)) h2
  refine aU6 ?_
  exact Qm (rs:=[.tmp 2,.tmp 3]) rfl (.tmp rfl (.tmp rfl (.nil))) (λw' h'=>⟨by rw[hz];rfl,h'.below⟩)
 have hc0:(if QK co=0 then Zn mo rm else QK co)=0:=h2
 obtain⟨hco,hsz⟩:=QiN (t:=(⟨co,mo,rm,pln L⟩:Tre)) hc0
 obtain⟨j,rfl,hj⟩:=Qf6 hco
 have hsz2:(3<=mo/\mo<=8)/\(mo/2<=rm/\rm<=mo):=QfT hsz
 refine aU3 ?_
 refine QH [] mixed ?_
 refine dFa 0 ?_
 refine dLd 1 [] ?_
 refine dV 2 rfl (Q0 rfl rfl Tryz.underlying22) (dP 3 ?_)
 refine dQ 4 [] rfl (Qv rfl Qbq rfl (λw1 h1=>Qed w1 _ _)) (dFa 5 ?_)
 refine dLd 6 [] ?_
 refine dV 7 rfl (Q0 rfl rfl Tryz.underlying22) (dP 8 ?_)
 refine dQ 9 [] rfl (Qv rfl Qbq rfl (λw1 h1=>Qed w1 _ _)) (dH 10 rfl (Ql (cs:=[_,_]) rfl rfl Yw QaC rfl rfl rfl) (λb3 _=>dBa ?_))
 refine dQ 11 [] rfl (Qv rfl QfV rfl (λw1 h1=>Qnf h1 aPk (by rfl) (by rfl) (by decide))) ?_
 refine Qz (show _=Value.int .i64 (Y1 L.length)from by congr 1;rw[QbI];unfold Y1;simp only[cond_eq_ite,decide_eq_true_eq];first|(split<;>(try split)<;>(try split)<;>(try split)<;>first|rfl|omega)) (dP 12 ?_)
 refine dNi ?_
 refine aU5 ?_
 refine sCd rfl (λh4=>?_) λh4=>?_
 ·have hz:=Qea (t:=(⟨(j:Int),mo,rm,pln L⟩:Tre)) hc0 (by rw[show((⟨(j:Int),mo,rm,pln L⟩:Tre)).ns.length=L.length from Qh L];exact h4)
  rw[show((⟨(j:Int),mo,rm,pln L⟩:Tre)).ns.length=L.length from Qh L]at hz
  refine aU6 ?_
  exact Qm (rs:=[.tmp 2,.tmp 3]) rfl (.tmp rfl (.tmp rfl (.nil))) (λw' h'=>⟨by rw[hz];rfl,h'.below⟩)
 have hc1:Y1 L.length=0:=h4
 have hz:=Qex (t:=(⟨(j:Int),mo,rm,pln L⟩:Tre)) hc0 (by rw[show((⟨(j:Int),mo,rm,pln L⟩:Tre)).ns.length=L.length from Qh L];exact hc1)
 rw[show((⟨(j:Int),mo,rm,pln L⟩:Tre)).ns.length=L.length from Qh L]at hz
 obtain⟨h00,h120⟩:=QkH hc1
 refine aU2 ?_
 refine Qd (L':=[(1,_),(2,_),(3,_)]) aSx (λ_ h=>h) ?_
 refine Xy (α:=Nat×Nat) [6,7,37,38,39,40,41,42,43,44] (λx=>[(6,.pointer (some ⟨x.1,0,none⟩)),(7,.map (some x.2))]) (λx=>HS w [] [.blk b1 24 4 [.int .i64 (j:Int),.int .i64 mo,.int .i64 rm,.slice a L.length cap],.blk x.1 207 6 (tbV (j:Int) mo rm a L.length cap),.mp x.2 KI []]) (λ_=>True) ?_ ?_
 ·skip
  refine QH [] mixed ?_
  refine dLn 0 [] ?_
  refine dQ 1 [] rfl (Qv rfl Qk9 rfl (λw1 h1=>Qrq w1)) (dFa 2 ?_)
  refine dLd 3 [] ?_
  refine dV 4 rfl (QbY rfl rfl rfl QgE Qgk j rfl om) (Qz (QdH j hj) (dV 5 rfl (Xm (cs:=[_,_,_,_,_,_]) rfl rfl Qol Qqv rfl) (QvR 6 7 rfl rfl (Qi1 rfl rfl) (Qa8 rfl KI) (by kernel_rfl) (λw h=>h.ent aEt) rfl rfl (λb5 _=>?_) (λb6 _=>?_))))
  ·skip
   refine dBa ?_
   refine dP 8 ?_
   refine dH 7 rfl (Qa8 rfl KI) (λb7 _=>dBa ?_)
   refine dP 9 ?_
   refine dNi ?_
   exact Qo (b5,b7) trivial aSx (λw h=>h.ent aEt)
  skip
  refine dBa ?_
  refine dH 6 rfl (Qi1 rfl rfl) (λb8 _=>dBa ?_)
  refine dP 8 ?_
  refine dP 9 ?_
  refine dNi ?_
  exact Qo (b8,b6) trivial aSx (λw h=>h.ent aEt)
 intro⟨bt,r⟩ _
 refine aU9 ?_
 refine Qp (α:=Nat×List Int×List Int) [2,3,8,9,48,49,50,51,52,53,54,55,56,57,58,59] (λx=>[(48,.int .i64 (x.1:Int))]) (λx=>HS w [] [.blk b1 24 4 [.int .i64 (j:Int),.int .i64 mo,.int .i64 rm,.slice a L.length cap],.blk bt 207 6 (tbV (j:Int) mo rm a L.length cap),.mp r KI x.2.1]) (λx=>x.1<=L.length/\(∀y,y∈x.2.1 ↔ y∈x.2.2)/\(X0 (⟨(j:Int),mo,rm,pln L⟩:Tre) L.length 0 [])=X0 (⟨(j:Int),mo,rm,pln L⟩:Tre) (L.length-x.1) x.1 x.2.2) (λx=>L.length-x.1) (0,[],[]) ⟨Nat.zero_le _,λ_=>Iff.rfl,rfl⟩ aSx (λw h=>h.ent aEt) (λ⟨k,K,S9⟩hx=>?_)
 dsimp only
 obtain⟨hk1,hk2,hk3⟩:=hx
 simp only[]at hk1 hk2 hk3
 refine aU5 ?_
 refine sCd rfl (λh9=>?_) λh9=>?_
 ·have hkl9:k<L.length:=by omega
  have hst:=Qgt (t:=(⟨(j:Int),mo,rm,pln L⟩:Tre)) (k:=k) (seen:=S9) (by rw[show((⟨(j:Int),mo,rm,pln L⟩:Tre)).ns.length=L.length from Qh L];exact hkl9)
  rw[show((⟨(j:Int),mo,rm,pln L⟩:Tre)).ns.length=L.length from Qh L]at hst
  refine Qas ?_
  refine o_h (XG (Cs:=[.mp r KI K]) rfl Qt9 rfl aPs (λw1 h1 hf=>c200 w1 k r K S9 bt j mo rm a cap L hf hk2 (λk9 v9 hv9=>h1.rd_blkF aPs (b:=bt) aPk hv9) ((hs.keep h1).mono (QY aPs)) hle hj hkl9 (hes9 _ hkl9) (hcs9 _ hkl9) (hkl _ hkl9))) rfl (λb10 hkG=>aU7 ?_)
  refine sCd rfl (λh11=>?_) λh11=>?_
  ·have hz3:(X0 (⟨(j:Int),mo,rm,pln L⟩:Tre) L.length 0 [])=((k:Int),(XO (⟨(j:Int),mo,rm,pln L⟩:Tre) k S9).1):=by rw[hk3,hst,if_neg h11]
   rw[hz3,if_neg (show¬(((k:Int),(XO (⟨(j:Int),mo,rm,pln L⟩:Tre) k S9).1):Int×Int).2=0 from h11)]at hz
   refine aU7 ?_
   exact Qm (rs:=[.tmp 2,.tmp 3]) rfl (.tmp rfl (.tmp rfl (.nil))) (λw' h'=>⟨by rw[hz];rfl,h'.below⟩)
  have hz3:X0 (⟨(j:Int),mo,rm,pln L⟩:Tre) (L.length-k) k S9=X0 (⟨(j:Int),mo,rm,pln L⟩:Tre) (L.length-(k+1)) (k+1) (XO (⟨(j:Int),mo,rm,pln L⟩:Tre) k S9).2:=by rw[hst,if_pos h11]
  refine aT4 ?_
  refine aU2 ?_
  exact sBk (k+1,b10,(XO (⟨(j:Int),mo,rm,pln L⟩:Tre) k S9).2) (by(try simp only[]);omega) ⟨by(try simp only[]);omega,hkG,by simp only[];rw[hk3,hz3]⟩
 have hnd:(X0 (⟨(j:Int),mo,rm,pln L⟩:Tre) L.length 0 [])=(0,0):=by rw[hk3,show L.length-k=0 by omega];rfl
 rw[hnd,if_pos rfl]at hz
 have hT:TOk (j:Int) (pln L):=Qfu (t:=(⟨(j:Int),mo,rm,pln L⟩:Tre)) (by show(X0 (⟨(j:Int),mo,rm,pln L⟩:Tre) (pln L).length 0 []).2=0;rw[Qh,hnd])
 refine Qg rfl ?_
 refine aU3 ?_
 refine oCq rfl (λw1 h1=>c201 w1 bt j mo rm a cap L (HS.tbr h1 aPk) (hs.later h1) hj om h00 hB hT) (QbX ?_)
 refine Xy (α:=Unit) [10] (λ_=>[(10,.int .i64 (Yb (⟨(j:Int),mo,rm,pln L⟩:Tre)).1)]) (λ_=>HS w [] []) (λ_=>True) ?_ ?_
 ·skip
  refine sCd rfl (λh12=>?_) λh12=>?_
  ·refine aU3 ?_
   exact Qo () trivial (by rw[hz,Ql5 h12];exact aSx) (λw h=>h.ent aEt)
  refine aU ?_
  exact Qo () trivial (by rw[hz];exact aSx) (λw h=>h.ent aEt)
 intro _ _
 refine aU7 ?_
 exact Qm (rs:=[.tmp 2,.tmp 3]) rfl (.tmp rfl (.tmp rfl (.nil))) (λw' h'=>⟨by simp only[QA];rw[hz],h'.below⟩)
theorem c298(w:World)(a:Option Addr)(cap:Nat)(l:List LNd)(hs:Rw LNd.vals 3 w [] a l)(hm:l.length<=1000000):CE 298 #[.slice a l.length cap] w [] (λg:Option Addr×Nat=>.slice g.1 l.length g.2) (λg=>True) λg=>[.own (.slice g.1 l.length g.2) 127 3 l.length (l.flatMap LNd.vals)]:=by
 refine eN1 Tryz.func298 Tryz.ntmps298 ?_
 refine aU8 ?_
 refine o_p (XB rfl rfl rfl Tryz.underlying22) rfl (aU ?_)
 refine sCd rfl (λh1=>?_) λh1=>?_
 ·have ha0:a=none:=by cases a with|none=>rfl|some b=>simp at h1
  subst ha0
  have hl0:l=[]:=Rw.none hs
  refine aU4 ?_
  exact rT rfl rfl (λw' h'=>⟨(none,0),by rw[hl0];rfl,trivial,by rw[hl0];exact(h'.own_nil 127 3).ent aEt⟩)
 refine aU3 ?_
 refine o_h (X3 rfl XC) rfl (λb2 _=>aU ?_)
 refine o_h (QF (l.flatMap LNd.vals) rfl rfl rfl XC Tryz.underlying22 YS rfl aPk (λw h=>Rw.src nv3 hs h) (QP nv3 l) (Qai nv1 l) om (by simp only[maxLen];omega)) rfl (λb3 _=>aU2 ?_)
 exact rT rfl rfl (λw' h'=>⟨b3,by simp only[QA,Nat.zero_add],trivial,by have h2:=h';simp only[Nat.zero_add,List.nil_append]at h2;exact h2.ent aEt⟩)
theorem c299(w:World)(a:Option Addr)(cap:Nat)(l:List TEnt)(hs:Rw TEnt.vals 2 w [] a l)(hm:l.length<=1000000):CE 299 #[.slice a l.length cap] w [] (λg:Option Addr×Nat=>.slice g.1 l.length g.2) (λg=>True) λg=>[.own (.slice g.1 l.length g.2) 84 2 l.length (l.flatMap TEnt.vals)]:=by
 refine eN1 Tryz.func299 Tryz.ntmps299 ?_
 refine aU8 ?_
 refine o_p (XB rfl rfl rfl Tryz.underlying124) rfl (aU ?_)
 refine sCd rfl (λh1=>?_) λh1=>?_
 ·have ha0:a=none:=by cases a with|none=>rfl|some b=>simp at h1
  subst ha0
  have hl0:l=[]:=Rw.none hs
  refine aU4 ?_
  exact rT rfl rfl (λw' h'=>⟨(none,0),by rw[hl0];rfl,trivial,by rw[hl0];exact(h'.own_nil 84 2).ent aEt⟩)
 refine aU3 ?_
 refine o_h (X3 rfl QG) rfl (λb2 _=>aU ?_)
 refine o_h (QF (l.flatMap TEnt.vals) rfl rfl rfl QG Tryz.underlying124 Qah rfl aPk (λw h=>Rw.src ev2 hs h) (QP ev2 l) (Qai ev1 l) om (by simp only[maxLen];omega)) rfl (λb3 _=>aU2 ?_)
 exact rT rfl rfl (λw' h'=>⟨b3,by simp only[QA,Nat.zero_add],trivial,by have h2:=h';simp only[Nat.zero_add,List.nil_append]at h2;exact h2.ent aEt⟩)
theorem c300(w:World)(a:Option Addr)(cap:Nat)(l:List Int)(hs:Rw inV 1 w [] a l)(hm:l.length<=1000000):CE 300 #[.slice a l.length cap] w [] (λg:Option Addr×Nat=>.slice g.1 l.length g.2) (λg=>True) λg=>[.own (.slice g.1 l.length g.2) 3 1 l.length (l.flatMap inV)]:=by
 refine eN1 Tryz.func300 Tryz.ntmps300 ?_
 refine aU8 ?_
 refine o_p (XB rfl rfl rfl Tryz.underlying125) rfl (aU ?_)
 refine sCd rfl (λh1=>?_) λh1=>?_
 ·have ha0:a=none:=by cases a with|none=>rfl|some b=>simp at h1
  subst ha0
  have hl0:l=[]:=Rw.none hs
  refine aU4 ?_
  exact rT rfl rfl (λw' h'=>⟨(none,0),by rw[hl0];rfl,trivial,by rw[hl0];exact(h'.own_nil 3 1).ent aEt⟩)
 refine aU3 ?_
 refine o_h (X3 rfl Q1) rfl (λb2 _=>aU ?_)
 refine o_h (QF (l.flatMap inV) rfl rfl rfl Q1 Tryz.underlying125 QmU rfl aPk (λw h=>Rw.src iv1 hs h) (QP iv1 l) (Qai iv1c l) om (by simp only[maxLen];omega)) rfl (λb3 _=>aU2 ?_)
 exact rT rfl rfl (λw' h'=>⟨b3,by simp only[QA,Nat.zero_add],trivial,by have h2:=h';simp only[Nat.zero_add,List.nil_append]at h2;exact h2.ent aEt⟩)
theorem c244(w:World)(j:Nat)(mo rm:Int)(a:Option Addr)(cap:Nat)(L:List LNd)(hs:Nt w [] a L)(hB:Bd (pln L))(hj:j<=3)(h0:0<L.length):CE 244 #[.agg #[.int .i64 (j:Int),.int .i64 mo,.int .i64 rm,.slice a L.length cap]] w [] (λg:Nat×(Option Addr×Nat)×List LNd=>.pointer (some ⟨g.1,0,none⟩)) (λg=>pln g.2.2=pln L) λg=>[.blk g.1 207 6 (tbV (j:Int) mo rm g.2.1.1 g.2.2.length g.2.1.2),.nodes 84 127 g.2.1.1 g.2.1.2 g.2.2]:=by
 have hle:=hB.len
 rw[Qh]at hle
 have hes9:∀i,i<L.length->(nth L i).es.length<=1000:=λi hi=>by have h9:=hB.es i (by rw[Qh];exact hi);rw[QR hi]at h9;exact h9
 have hcs9:∀i,i<L.length->(nth L i).cs.length<=1000:=λi hi=>by have h9:=hB.cs i (by rw[Qh];exact hi);rw[QR hi]at h9;exact h9
 refine eN1 Tryz.func244 Tryz.ntmps244 ?_
 refine aU2 ?_
 refine oBx λb1 _=>?_
 refine aU3 ?_
 refine QH [] mixed ?_
 refine dLn 0 [] ?_
 refine dQ 1 [] rfl (Qv rfl Qk9 rfl (λw1 h1=>Qrq w1)) (dFa 2 ?_)
 refine dLd 3 [] ?_
 refine dV 4 rfl (QbY rfl rfl rfl QgE Qgk j rfl om) (Qz (QdH j hj) (dV 5 rfl (Xm (cs:=[_,_,_,_,_,_]) rfl rfl Qol Qqv rfl) (dH 6 rfl (Qi1 rfl rfl) (λb2 _=>dBa ?_))))
 refine dP 7 ?_
 refine dNi ?_
 refine aU5 ?_
 refine oCh rfl (λw1 h1=>c298 w1 a cap L (hs.1.later h1) om) (λ⟨b3,c4⟩_=>QiC (λw h=>QpW h0 h aPk) (λhgn=>?_))
 obtain⟨gn,rfl,hcap,hcm⟩:=hgn
 refine Y0 (λw h=>HS.own_at h aPk) (aU3 ?_)
 refine QcX (Xr rfl rfl rfl QbT rfl aPt (by show 4<=6;omega) rfl) (λ_ _=>Qas ?_)
 refine Qd (L':=[(2,_),(3,_),(24,_),(25,_),(26,_)]) aSx (λ_ h=>h) ?_
 refine Qp (α:=Nat×List LNd) [4,5,26,27,28,29,30,31,32,33,34,35,36,37,38,39,40,41,42,43,44,45,46,47,48,49,50,51,52,53] (λx=>[(26,.int .i64 (x.1:Int))]) (λx=>HS w [] [.blk gn 127 (c4*3) ((x.2++L.drop x.1).flatMap LNd.vals),.star (x.2.map (Qd3 84)),.blk b2 207 6 (tbV (j:Int) mo rm (some ⟨gn,0,none⟩) L.length c4)]) (λx=>x.1<=L.length/\x.2.length=x.1/\pln x.2=(pln L).take x.1) (λx=>L.length-x.1) (0,[]) ⟨Nat.zero_le _,rfl,rfl⟩ aSx (λw h=>(h.star_nil).ent aEt) (λ⟨k,D⟩hx=>?_)
 dsimp only
 obtain⟨hk1,hk2,hk3⟩:=hx
 simp only[]at hk1 hk2 hk3
 refine aU5 ?_
 refine sCd rfl (λh5=>?_) λh5=>?_
 ·have hkl:k<L.length:=by omega
  refine aU6 ?_
  refine o_p (Qa rfl rfl rfl XC (k) om om rfl) rfl (o_q (Xx (LNd.vals (nth L k)) rfl rfl ZR rfl (λw h=>by have h9:=Rw.rd (h.rw_blk nv3 aPk) (i:=k) (by simp only[List.length_append,List.length_drop];omega);rw[Qln hk2 hkl]at h9;exact h9)) rfl (oAl (λb6 _=>?_) YS))
  refine aU3 ?_
  refine QH [20,23] mixed ?_
  refine dP 0 ?_
  refine dP 1 ?_
  refine dFa 2 ?_
  refine dFa 3 ?_
  refine dLd 4 [[],[]] ?_
  refine dP 5 ?_
  refine dP 6 ?_
  refine dP 7 ?_
  refine dFa 8 ?_
  refine dFa 9 ?_
  refine dLd 10 [[],[]] ?_
  refine dP 11 ?_
  refine dFa 12 ?_
  refine dLd 13 [[],[]] ?_
  refine dFa 15 ?_
  refine dLd 16 [[17],[]] ?_
  refine dH 14 rfl (QaJ rfl QtC rfl (λw1 h1=>c299 w1 (nth L k).ea (nth L k).ec (nth L k).es ((hs.es hkl).later h1) (by have:=hes9 k hkl;omega))) (λb7 _=>dBa ?_)
  refine dH 17 rfl (QaJ rfl Qtw rfl (λw1 h1=>c300 w1 (nth L k).ca (nth L k).cc (nth L k).cs ((hs.cs hkl).later h1) (by have:=hcs9 k hkl;omega))) (λb8 _=>dBa ?_)
  refine dV 18 rfl (Qa rfl rfl rfl XC (k) om om rfl) (dFa 19 ?_)
  refine Qii 20 rfl (Xr rfl rfl rfl Z5 rfl aPt (by simp only[Qi,QP nv3,List.length_append,List.length_drop,Nat.zero_add];show _+1<=_;omega) rfl) (by kernel_rfl) (λw h=>h.ent aEt) (λ_ _=>?_)
  refine dTu [23] ?_
  refine dV 21 rfl (Qa rfl rfl rfl XC (k) om om rfl) (dFa 22 ?_)
  refine Qii 23 rfl (Xr rfl rfl rfl QaL rfl aPt (by simp only[Qi,QP nv3,List.length_append,List.length_drop,Nat.zero_add];show _+1<=_;omega) rfl) (by kernel_rfl) (λw h=>h.ent aEt) (λ_ _=>?_)
  refine dTu [] ?_
  refine dNi ?_
  refine aU ?_
  refine Qd (L':=[(2,_),(3,_),(24,_),(25,_),(26,_)]) aSx (λ_ h=>h) ?_
  refine aT2 ?_
  refine aU2 ?_
  exact Qs (k+1,D++[⟨(nth L k).us,b7.1,b7.2,(nth L k).es,b8.1,b8.2,(nth L k).cs⟩]) (by(try simp only[]);omega) ⟨by(try simp only[]);omega,by simp[hk2],Qj2 hkl hk3 rfl⟩ aSx (λw h=>by have e9:=Qnq (l:=D++L.drop k) (k:=k) (by simp only[List.length_append,List.length_drop];omega) b7.1 b7.2 (nth L k).es b8.1 b8.2 (nth L k).cs;rw[Qln hk2 hkl,Qri hk2 hkl]at e9;have h2:=h.ent (Bs:=[.own (.slice b7.1 (nth L k).es.length b7.2) 84 2 (nth L k).es.length ((nth L k).es.flatMap TEnt.vals),.own (.slice b8.1 (nth L k).cs.length b8.2) 3 1 (nth L k).cs.length ((nth L k).cs.flatMap inV),.star (D.map (Qd3 84)),.blk gn 127 (c4*3) (Qf (Qf ((D++L.drop k).flatMap LNd.vals) (0+k*3+1) [.slice b7.1 (nth L k).es.length b7.2]) (0+k*3+2) [.slice b8.1 (nth L k).cs.length b8.2]),.blk b2 207 6 (tbV (j:Int) mo rm (some ⟨gn,0,none⟩) L.length c4)]) aEt;rw[Nat.zero_add,e9]at h2;exact(HS.sub_app (sub:=Qd3 84) (l:=D) (x:=(⟨(nth L k).us,b7.1,b7.2,(nth L k).es,b8.1,b8.2,(nth L k).cs⟩:LNd)) (HS.star_close (Bs:=[_,_]) h2)).ent aEt)
 obtain rfl:k=L.length:=om
 have hD:pln D=pln L:=by rw[hk3,<-Qh L,List.take_length]
 refine Qg rfl ?_
 refine aU5 ?_
 exact rT rfl rfl (λw' h'=>⟨(b2,(some ⟨gn,0,none⟩,c4),D),rfl,hD,by have h2:=h';rw[List.drop_length,List.append_nil]at h2;have h3:=HS.own_shut (n:=D.length) (h2.ent (Bs:=[.blk gn 127 (c4*3) (D.flatMap LNd.vals),.star (D.map (Qd3 84)),.blk b2 207 6 (tbV (j:Int) mo rm (some ⟨gn,0,none⟩) L.length c4)]) aEt) (QP nv3 D) om hcm;have h4:=HS.row_shut (l:=D) (sub:=Qd3 84) h3 rfl rfl;have h5:HS w [] [.nodes 84 127 (some ⟨gn,0,none⟩) c4 D,.blk b2 207 6 (tbV (j:Int) mo rm (some ⟨gn,0,none⟩) L.length c4)] w':=h4;rw[hk2];exact h5.ent aEt⟩)
end Go.Proofs
namespace Gx
open Go Go.RowKit
section
variable{w0 w:World}{M:List Nat}{As As' As'':List HA}{gn cap et nt':Nat}{a:Option Addr}{L:List LNd}
theorem Qje(h0:0<L.length)(h:HS w0 M As w)(hp:QL As (.nodes et nt' a cap L) As'):∃gn,a=some ⟨gn,0,none⟩/\L.length<=cap/\cap<=maxLen/\HS w0 M (.blk gn nt' (cap*3) (L.flatMap LNd.vals)::.star (L.map (Qd3 et))::As') w:=by
 have h1:=HS.row_open (h.pick hp);obtain⟨gn,e,_,h2,h3,_,h4⟩:=h1.own_blk h0 .here
 grind
theorem HS.nt_at(h:HS w0 M As w)(hp:QL As (.blk gn nt' (cap*3) (L.flatMap LNd.vals)) As')(hp2:QL As' (.star (L.map (Qd3 et))) As''):Nt w [] (some ⟨gn,0,none⟩) L:=by
 refine⟨h.rw_blk nv3 hp,λn hn=>?_⟩;obtain⟨i,hi,e⟩:=List.getElem_of_mem hn;have e2:nth L i=n:=Yi (by rw[List.getElem?_eq_getElem hi,e]);have h2:=HS.sub_open hi ((h.pick hp).tail.pick hp2);rw[e2]at h2;have h3:=HS.star_open h2;exact⟨h3.rw_own ev2 .here rfl,h3.rw_own iv1 (.there .here) rfl⟩
end
def Sm(m:Nat)(ns:List Nd):Prop:=∀k,(nth ns k).es.length<=m/\(nth ns k).cs.length<=m
theorem Qsu{α:Type}[Inhabited α]{l:List α}{k:Nat}(h:l.length<=k):nth l k=default:=by grind[nth]
theorem Qq8{P:List Nat}{k:Nat}(h:k<P.length):P.reverse[k]?=some (nth P (P.length-1-k)):=by grind[Xw]
theorem rev_take{P:List Nat}{k:Nat}(h:k<P.length):P.reverse.take (k+1)=P.reverse.take k++[nth P (P.length-1-k)]:=by
 rw[List.take_add_one,Qq8 h];rfl
theorem Qry{co:Int}{ns:List Nd}(h:TOk co ns):∀i,i<ns.length->∀x∈(nth ns i).es,Q7 co x.key=true/\x.key.length<=1000000:=λi hi x hx=>by
 have h1:=QaU (h.ents i hi x hx)
 grind[QeH]
end Gx
namespace Go.Proofs
open Go Go.RowKit Gx
attribute [local irreducible] Go.Calls Gx.S Gx.O Gx.D Gx.OpP Gx.OpQ Gx.OpH
set_option maxRecDepth 20000
instance:TFn Tryz.prog 134:=⟨by kernel_rfl⟩
instance:TFn Tryz.prog 244:=⟨by kernel_rfl⟩
instance:TFn Tryz.prog 186:=⟨by kernel_rfl⟩
theorem QvU(w:World)(co mo rm:Int)(a:Option Addr)(cap:Nat)(L:List LNd)(hs:Nt w [] a L)(hB:Bd (pln L))(hkl:∀i,i<L.length->∀x∈(nth L i).es,x.key.length<=1000000)(he:¬(Yb (⟨co,mo,rm,pln L⟩:Tre)).2=0):CR 186 #[.agg #[.int .i64 co,.int .i64 mo,.int .i64 rm,.slice a L.length cap]] w (.tuple #[.pointer none,.int .i64 (Yb (⟨co,mo,rm,pln L⟩:Tre)).2]):=by
 refine eN1 Tryz.func186 Tryz.ntmps186 ?_
 refine aU2 ?_
 refine oBx λb1 _=>?_
 refine aU7 ?_
 refine oCq rfl (λw1 h1=>QuC w1 co mo rm a cap L (hs.later h1.nil) hB hkl) (Qab ?_)
 refine sCd rfl (λh2=>?_) λh2=>?_
 ·refine aU6 ?_
  exact Qm (rs:=[.tmp 2,.tmp 3]) rfl (.tmp rfl (.tmp rfl (.nil))) (λw' h'=>⟨rfl,h'.below⟩)
 exfalso;first|omega|(simp at h2;done)|(simp_all;done)
theorem Qvx(w:World)(j:Nat)(mo rm:Int)(a:Option Addr)(cap:Nat)(L:List LNd)(hs:Nt w [] a L)(hB:Bd (pln L))(hkl:∀i,i<L.length->∀x∈(nth L i).es,x.key.length<=1000000)(h0:(Yb (⟨(j:Int),mo,rm,pln L⟩:Tre)).2=0):CE 186 #[.agg #[.int .i64 (j:Int),.int .i64 mo,.int .i64 rm,.slice a L.length cap]] w [] (λg:Nat×(Nat×Nat)×List LNd=>.tuple #[.pointer (some ⟨g.1,0,none⟩),.int .i64 (0)]) (λg=>(pln g.2.2=pln L/\g.2.2.length<=g.2.1.2/\g.2.1.2<=maxLen)) λg=>[.blk g.1 207 6 (tbV (j:Int) mo rm (some ⟨g.2.1.1,0,none⟩) (g.2.2).length g.2.1.2),.blk g.2.1.1 127 (g.2.1.2*3) ((g.2.2).flatMap LNd.vals),.star ((g.2.2).map (Qd3 84))]:=by
 obtain⟨hc0,hz0,hl0,hl120,hn0,_,_⟩:=QkO h0
 rw[show((⟨(j:Int),mo,rm,pln L⟩:Tre)).ns=pln L from rfl,Qh]at hl0 hl120
 have hj:j<=3:=by obtain⟨j9,e9,hj9⟩:=Qf6 hc0;have e8:((j:Nat):Int)=(j9:Int):=e9;omega
 have hT:TOk (j:Int) (pln L):=Qfu (t:=(⟨(j:Int),mo,rm,pln L⟩:Tre)) hn0
 have hmo:=(QfT hz0).1
 simp only[]at hmo
 refine eN1 Tryz.func186 Tryz.ntmps186 ?_
 refine aU2 ?_
 refine oBx λb1 _=>?_
 refine aU7 ?_
 refine oCq rfl (λw1 h1=>QuC w1 (j:Int) mo rm a cap L (hs.later h1.nil) hB hkl) (Qab ?_)
 refine sCd rfl (λh2=>?_) λh2=>?_
 ·exfalso;first|omega|(simp at h2;done)|(simp_all;done)
 refine aU4 ?_
 refine oCh rfl (λw1 h1=>c244 w1 j mo rm a cap L (hs.later h1.nil) hB hj hl0) (λ⟨b9,⟨a9,c9⟩,L9⟩hF9=>?_)
 dsimp only
 refine aU3 ?_
 exact Qm (rs:=[.tmp 2,.tmp 3]) rfl (.tmp rfl (.tmp rfl (.nil))) (λw' h'=>by obtain⟨g9,rfl,hl9,hm9,h2⟩:=Qje (by rw[<-Qh,hF9,Qh];exact hl0) h' aPk;exact⟨(b9,(g9,c9),L9),rfl,⟨hF9,hl9,hm9⟩,h2.ent aEt⟩)
theorem Qv1:QJ Tryz.prog 65=true:=by kernel_rfl
theorem Qv8:QJ Tryz.prog 66=true:=by kernel_rfl
theorem c65(w:World)(a:Option Addr)(cap:Nat)(l:List TEnt)(hs:Rw TEnt.vals 2 w [] a l)(hl:l.length<=100000):CE 65 #[.slice a l.length cap] w [] (λg:Option Addr×Nat=>.slice g.1 l.length g.2) (λg=>True) λg=>[.own (.slice g.1 l.length g.2) 84 2 l.length (l.flatMap TEnt.vals)]:=by
 refine eN1 Tryz.func65 Tryz.ntmps65 ?_
 refine aU6 ?_
 refine o_h (X3 rfl QG) rfl (λb1 _=>aU ?_)
 refine o_h (QF (l.flatMap TEnt.vals) rfl rfl rfl QG Tryz.underlying124 Qah rfl aPk (λw h=>Rw.src ev2 hs h) (QP ev2 _) (Qai ev1 _) om (by simp only[maxLen];omega)) rfl (λb2 _=>aU2 ?_)
 exact rT rfl rfl (λw' h'=>⟨b2,by simp only[QA,Nat.zero_add],trivial,by have h2:=h';simp only[Nat.zero_add,List.nil_append]at h2;exact h2.ent aEt⟩)
theorem c66(w:World)(a:Option Addr)(cap:Nat)(l:List Int)(hs:Rw inV 1 w [] a l)(hl:l.length<=100000):CE 66 #[.slice a l.length cap] w [] (λg:Option Addr×Nat=>.slice g.1 l.length g.2) (λg=>True) λg=>[.own (.slice g.1 l.length g.2) 3 1 l.length (l.flatMap inV)]:=by
 refine eN1 Tryz.func66 Tryz.ntmps66 ?_
 refine aU6 ?_
 refine o_h (X3 rfl Q1) rfl (λb1 _=>aU ?_)
 refine o_h (QF (l.flatMap inV) rfl rfl rfl Q1 Tryz.underlying125 QmU rfl aPk (λw h=>Rw.src iv1 hs h) (QP iv1 _) (Qai iv1c _) om (by simp only[maxLen];omega)) rfl (λb2 _=>aU2 ?_)
 exact rT rfl rfl (λw' h'=>⟨b2,by simp only[QA,Nat.zero_add],trivial,by have h2:=h';simp only[Nat.zero_add,List.nil_append]at h2;exact h2.ent aEt⟩)
theorem c14(w:World)(co mo rm:Int)(a:Option Addr)(cap:Nat)(L:List LNd)(hs:Nt w [] a L)(hl:L.length<=1000)(hsm:Sm 1000 (pln L)):CE 14 #[.agg #[.int .i64 co,.int .i64 mo,.int .i64 rm,.slice a L.length cap]] w [] (λg:(Option Addr×Nat)×List LNd=>.agg #[.int .i64 co,.int .i64 mo,.int .i64 rm,.slice g.1.1 g.2.length g.1.2]) (λg=>pln g.2=pln L) λg=>[.nodes 84 127 g.1.1 g.1.2 g.2]:=by
 refine eN1 Tryz.func14 Tryz.ntmps14 ?_
 refine aU2 ?_
 refine oBx λb1 _=>?_
 refine oAl (λb2 _=>?_) QpM
 refine aU9 ?_
 refine o_p (Xm (cs:=[_,_,_,_]) rfl rfl Qvq QpM rfl) rfl (oAl (λb3 _=>?_) QpM)
 refine aU8 ?_
 refine Qp (α:=Nat×(Option Addr×Nat)×List LNd) [4,5,13,14,15,16,17,18,19,20,21,22,23,24,25,26,27,28,29,30,31,32,33,34,35,36,37,38] (λx=>[(4,.int .i64 (x.1:Int))]) (λx=>HS w [] [.own (.slice x.2.1.1 (x.2.2).length x.2.1.2) 127 3 (x.2.2).length ((x.2.2).flatMap LNd.vals),.star ((x.2.2).map (Qd3 84)),.blk b3 24 4 [.int .i64 co,.int .i64 mo,.int .i64 rm,.slice x.2.1.1 (x.2.2).length x.2.1.2],.blk b2 24 4 [.int .i64 0,.int .i64 0,.int .i64 0,.slice none 0 0],.blk b1 24 4 [.int .i64 co,.int .i64 mo,.int .i64 rm,.slice a L.length cap]]) (λx=>x.1<=L.length/\x.2.2.length=x.1/\pln x.2.2=(pln L).take x.1) (λx=>L.length-x.1) (0,(none,0),[]) ⟨Nat.zero_le _,rfl,rfl⟩ aSx (λw h=>((h.own_nil 127 3).star_nil).ent aEt) (λ⟨k,⟨ga,gc⟩,D⟩hx=>?_)
 dsimp only
 obtain⟨hk1,hk2,hk3⟩:=hx
 simp only[]at hk1 hk2 hk3
 refine aU9 ?_
 refine sCd rfl (λh4=>?_) λh4=>?_
 ·have hkl:k<L.length:=by omega
  have hsk:=hsm k
  rw[QR hkl]at hsk
  simp only[LNd.pl]at hsk
  refine aU8 ?_
  refine o_p (Qa rfl rfl rfl XC (k) om om (Rw.some hs.1 om)) rfl (o_q (Qq _ rfl rfl ZR rfl (Rw.rd hs.1 hkl)) rfl (oAl (λb5 _=>?_) YS))
  refine aU2 ?_
  refine QH [12,14] mixed ?_
  refine dFa 0 ?_
  refine dLd 1 [[],[]] ?_
  refine dFa 2 ?_
  refine dLd 3 [[11,10],[]] ?_
  refine dFa 4 ?_
  refine dLd 5 [[9,6],[]] ?_
  refine dFa 7 ?_
  refine dLd 8 [[9],[]] ?_
  refine dH 6 rfl (QaJ rfl Qv1 rfl (λw1 h1=>c65 w1 (nth L k).ea (nth L k).ec (nth L k).es ((hs.es hkl).later h1) om)) (λb6 _=>dBa ?_)
  refine dH 9 rfl (QaJ rfl Qv8 rfl (λw1 h1=>c66 w1 (nth L k).ca (nth L k).cc (nth L k).cs ((hs.cs hkl).later h1) om)) (λb7 _=>dBa ?_)
  refine dV 10 rfl (Xm (cs:=[_,_,_]) rfl rfl Qum YS rfl) (dH 11 rfl (Ql (cs:=[_,_,_]) rfl rfl XC YS rfl rfl rfl) (λb8 _=>dBa ?_))
  refine dH 12 rfl (QF (LNd.vals (⟨(nth L k).us,b6.1,b6.2,(nth L k).es,b7.1,b7.2,(nth L k).cs⟩:LNd)) rfl rfl rfl XC Tryz.underlying22 YS rfl aPk (Xk aPk) rfl (nv1 _) om (by simp only[maxLen];omega)) (λb9 _=>dTu [14] ?_)
  refine dFa 13 ?_
  refine dSt 14 ?_ (hl:=(by simp only[Qi,List.length_set,List.length_cons,List.length_nil,List.length_map];omega))
  refine dTu [] ?_
  refine dNi ?_
  refine aU ?_
  refine Qd (L':=[(0,_),(1,_),(2,_),(3,_),(4,_),(6,_),(7,_),(8,_),(9,_),(10,_),(11,_),(12,_)]) aSx (λ_ h=>h) ?_
  refine aT3 ?_
  refine aU2 ?_
  exact Qs (k+1,(b9.1,b9.2),D++[⟨(nth L k).us,b6.1,b6.2,(nth L k).es,b7.1,b7.2,(nth L k).cs⟩]) (by(try simp only[]);omega) ⟨by(try simp only[]);omega,by simp[hk2],Qj2 hkl hk3 rfl⟩ aSx (λw h=>by have h2:=HS.sub_app (sub:=Qd3 84) (l:=D) (x:=(⟨(nth L k).us,b6.1,b6.2,(nth L k).es,b7.1,b7.2,(nth L k).cs⟩:LNd)) (HS.star_close (Bs:=[_,_]) (h.ent (Bs:=[.own (.slice b6.1 (nth L k).es.length b6.2) 84 2 (nth L k).es.length ((nth L k).es.flatMap TEnt.vals),.own (.slice b7.1 (nth L k).cs.length b7.2) 3 1 (nth L k).cs.length ((nth L k).cs.flatMap inV),.star (D.map (Qd3 84)),.own (.slice b9.1 (D.length+1) b9.2) 127 3 (D.length+1) (D.flatMap LNd.vals++LNd.vals (⟨(nth L k).us,b6.1,b6.2,(nth L k).es,b7.1,b7.2,(nth L k).cs⟩:LNd)),.blk b3 24 4 [.int .i64 co,.int .i64 mo,.int .i64 rm,.slice b9.1 (D.length+1) b9.2],.blk b2 24 4 [.int .i64 0,.int .i64 0,.int .i64 0,.slice none 0 0],.blk b1 24 4 [.int .i64 co,.int .i64 mo,.int .i64 rm,.slice a L.length cap]]) aEt));simp only[List.length_append,List.length_singleton,List.flatMap_append,List.flatMap_singleton];exact h2.ent aEt)
 obtain rfl:k=L.length:=om
 have hD:pln D=pln L:=by rw[hk3,<-Qh L,List.take_length]
 refine Qg rfl ?_
 refine aU5 ?_
 exact Qm (rs:=[.cell 2 24]) rfl (.cell rfl QsE aPk rfl (.nil)) (λw' h'=>⟨((ga,gc),D),by simp only[QA];rw[hk2];rfl,hD,by have h3:=HS.row_shut (a:=ga) (cap:=gc) (l:=D) (sub:=Qd3 84) (t:=127) (sz:=3) (vals:=LNd.vals) (h'.ent (Bs:=[.own (.slice ga D.length gc) 127 3 D.length (D.flatMap LNd.vals),.star (D.map (Qd3 84))]) aEt) rfl rfl;exact h3⟩)
end Go.Proofs
namespace Gx
open Go Go.RowKit
theorem keyE_ok{co:Int}{k:List UInt8}(h:YM co k=0):Q7 co k=true:=by grind[YM]
end Gx
namespace Go.Proofs
open Go Go.RowKit Gx
attribute [local irreducible] Go.Calls Gx.S Gx.O Gx.D Gx.OpP Gx.OpQ Gx.OpH
set_option maxRecDepth 20000
theorem Qkg:QJ Tryz.prog 84=true:=by kernel_rfl
theorem Qvi:QJ Tryz.prog 14=true:=by kernel_rfl
end Go.Proofs
