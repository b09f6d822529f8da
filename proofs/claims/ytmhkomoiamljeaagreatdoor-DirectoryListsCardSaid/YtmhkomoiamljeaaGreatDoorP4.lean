/- Contracts of the program's functions, proved by walking them with the rules of the Gx texts; without conditions beyond those that each contract names. -/
import Derived.WalkKit
import Derived.Deep.Draws
import Derived.TacticsIn
import Derived.OrdersIn
import Derived.RangeFuncLeaves
import Derived.Lib.Strings
import Derived.Laws.BytesArg
import Derived.Laws.IdiomStrings
import Derived.Deep.Quiet
import Derived.ProofKit
import Derived.OpenShut
import Derived.Laws.StructEq
import Derived.ChangeKeysEq
import Derived.Laws.Externs
import Derived.Lib.Overlaps
import Derived.Carry
import Derived.Laws.Small
import Derived.Lib.Bytealg
import Derived.Shelf.Small.Strs
import Derived.Shelf.Small.Wraps
import Derived.Shelf.Strconv.Itoa0
import Derived.Shelf.Strconv.Itoa1
import Derived.Shelf.LaysM
import Derived.Shelf.Strconv.Itoa2
import Derived.Shelf.Strconv.Itoa3
import Derived.Shelf.Strings.Search1
import Derived.Shelf.Strings.Search2
import Derived.Shelf.Strings.Cut
import Derived.Shelf.Strings.Shaped
import Derived.Shelf.Strings.LastIndex
import Derived.Shelf.Strings.LastIndexAll
import Derived.Shelf.Strings.Prefix
import Derived.Shelf.Slices.Turned
import Derived.Shelf.Slices.Reverse
import Derived.Shelf.Slices.Equal
import Derived.Ground.Names2Prog
import Derived.Shelf.Slices.Clone
import Derived.Shelf.Slices.SearchI
import Derived.Shelf.Slices.Delete
import Derived.Shelf.Slices.Cells
import Derived.Shelf.Slices.Empties
import Derived.Shelf.Slices.Empties2
import Derived.Ground.SlgnProg
import Derived.Shelf.SlicesE.Reverse
import Derived.Shelf.SlicesE.Delete
import Derived.Shelf.SlicesE.Clone
import Derived.Test.YtmhkomoiamljeaaGreatDoorProg
import Derived.KernelRfl
import Derived.Lib.LastIndexByte
import Derived.Lib.ItoaNum
import Derived.Lib.SmallJoins
import Derived.Lib.AppendIntMem
import Derived.RangeFuncRecord
import Derived.Lib.Builder
import Derived.Laws.Pointers
import Derived.Test.YtmhkomoiamljeaaGreatDoorTie
import Derived.Test.YtmhkomoiamljeaaGreatDoorCards
import Derived.SevenTiedAt
import Derived.LaidMore
import Derived.Lay
import Derived.Stop.Joined
import Derived.Test.YtmhkomoiamljeaaGreatDoorP3
set_option linter.unusedSimpArgs false
set_option maxHeartbeats 1000000
set_option linter.unusedVariables false
set_option linter.unusedSectionVars false
set_option linter.unnecessarySimpa false
namespace Gx
open Go Go.RowKit
def Q3(n:Nat)(S:List Int):List Value:=(List.range n).map λk=>Value.bool (decide (((k:Nat):Int)∈S))
theorem QaV(n:Nat)(S:List Int):(Q3 n S).length=n:=by simp[Q3]
theorem Qbk{n k:Nat}{S:List Int}(h:k<n):(Q3 n S)[k]?=some (.bool (decide (((k:Nat):Int)∈S))):=by
 unfold Q3;rw[List.getElem?_map,List.getElem?_range h];rfl
theorem Qj6{n k:Nat}{S:List Int}(h:k<n):Qf (Q3 n S) k [.bool true]=Q3 n (((k:Nat):Int)::S):=by
 apply List.ext_getElem?;intro i;show((Q3 n S).set k (.bool true))[i]?=_;rw[List.getElem?_set]
 by_cases hi:i<n
 ·rw[Qbk hi]
  by_cases e:k=i
  ·subst e;rw[if_pos rfl,if_pos (by rw[QaV];exact h),Qbk h,decide_eq_true (List.mem_cons_self ..)]
  ·rw[if_neg e,Qbk hi];congr 2;have hne:((i:Nat):Int)≠((k:Nat):Int):=by omega
   simp[List.mem_cons,hne]
 ·rw[if_neg om,List.getElem?_eq_none (by rw[QaV];omega),List.getElem?_eq_none (by rw[QaV];omega)]
theorem QoG{n:Nat}{c:Int}{S:List Int}(h:c∈S):Q3 n (c::S)=Q3 n S:=by
 unfold Q3;apply List.map_congr_left;intro k _;congr 1
 by_cases e:((k:Nat):Int)∈S
 ·rw[decide_eq_true e,decide_eq_true (List.mem_cons_of_mem _ e)]
 ·rw[decide_eq_false e,decide_eq_false (λh2=>by
   rcases List.mem_cons.1 h2 with h3|h3
   ·exact e (h3▸h)
   ·exact e h3)]
theorem Qsf{t:Tre}{i:Nat}{S:List Int}(h:¬(nth t.ns i).us=true):XO t i S=if(0<i/\i+1<t.ns.length)/\(nth t.ns i).es.length+(nth t.ns i).cs.length=0 then(0,S)else(3,S):=by
 unfold XO;simp only[];rw[if_neg h]
section
variable{t:Tre}{i:Nat}{S:List Int}{n:Nd}
theorem Qsq(hn:nth t.ns i=n)(hu:n.us=true)(h:¬(n.es.length:Int)<=YL t.mo t.rm i):XO t i S=(16,S):=by
 subst hn;unfold XO;simp only[];rw[if_pos hu,if_neg h]
theorem QrH(hn:nth t.ns i=n)(hu:n.us=true)(h:(n.es.length:Int)<=YL t.mo t.rm i)(h2:¬(n.cs.length=0\/n.cs.length=n.es.length+1)):XO t i S=(10,S):=by
 subst hn;unfold XO;simp only[];rw[if_pos hu,if_pos h,if_neg h2]
theorem Qr5(hn:nth t.ns i=n)(hu:n.us=true)(h:(n.es.length:Int)<=YL t.mo t.rm i)(h2:n.cs.length=0\/n.cs.length=n.es.length+1)(h3:¬ZJ t.co n.es=0):XO t i S=(ZJ t.co n.es,S):=by
 subst hn;unfold XO;simp only[];rw[if_pos hu,if_pos h,if_pos h2,if_neg h3]
theorem QmC(hn:nth t.ns i=n)(hu:n.us=true)(h:(n.es.length:Int)<=YL t.mo t.rm i)(h2:n.cs.length=0\/n.cs.length=n.es.length+1)(h3:ZJ t.co n.es=0)(h4:¬(X4 t.ns n.cs S).1=0):XO t i S=X4 t.ns n.cs S:=by
 subst hn;unfold XO;simp only[];rw[if_pos hu,if_pos h,if_pos h2,if_pos h3,if_neg h4]
theorem Qss(hn:nth t.ns i=n)(hu:n.us=true)(h:(n.es.length:Int)<=YL t.mo t.rm i)(h2:n.cs.length=0\/n.cs.length=n.es.length+1)(h3:ZJ t.co n.es=0)(h4:(X4 t.ns n.cs S).1=0):XO t i S=(Qbi t.co n.es,(X4 t.ns n.cs S).2):=by
 subst hn;unfold XO;simp only[];rw[if_pos hu,if_pos h,if_pos h2,if_pos h3,if_pos h4]
end
theorem QjN{es:List Int}{k:Nat}(hk:k<es.length)(h:∀j,j<k->es.getD j 0=0)(h2:es.getD k 0≠0):QD es 0=((k:Int),es.getD k 0):=by
 have key:∀i,i<=k->QD es 0=QD (es.drop i) i:=by
  intro i
  induction i with
  | zero=>intro _;rfl
  | succ i ih=>
   intro hi;rw[ih om,X2 om,if_pos (h i om)]
 rw[key k (Nat.le_refl _),X2 hk,if_neg h2]
theorem QhI{es:List Int}(h:∀j,j<es.length->es.getD j 0=0):QD es 0=(0,0):=by
 have key:∀i,i<=es.length->QD es 0=QD (es.drop i) i:=by
  intro i
  induction i with
  | zero=>intro _;rfl
  | succ i ih=>
   intro hi;rw[ih om,X2 om,if_pos (h i om)]
 rw[key _ (Nat.le_refl _),List.drop_length];rfl
theorem Qo4{co:Int}{es:List TEnt}{k:Nat}(hk:k<es.length)(h1:∀q,q<k->YU co (nth es q)=0)(h2:¬YU co (nth es k)=0):ZJ co es=YU co (nth es k):=by
 unfold ZJ;rw[QjN (es:=es.map (YU co)) (k:=k) (by rw[List.length_map];exact hk) (λq hq=>by rw[Qcu om];exact h1 q hq) (by rw[Qcu hk];exact h2),Qcu hk]
theorem Qqr{co:Int}{es:List TEnt}(h1:∀q,q<es.length->YU co (nth es q)=0):ZJ co es=0:=by
 unfold ZJ;rw[QhI (λq hq=>by rw[List.length_map]at hq;rw[Qcu hq];exact h1 q hq)]
theorem Qpo{co:Int}{es:List TEnt}{k:Nat}(hk:k<es.length)(h1:∀q,q<k->Qbe co es q=0)(h2:¬Qbe co es k=0):Qbi co es=Qbe co es k:=by
 unfold Qbi;rw[QjN (es:=(List.range es.length).map (Qbe co es)) (k:=k) (by simpa using hk) (λq hq=>by rw[Qch om];exact h1 q hq) (by rw[Qch hk];exact h2),Qch hk]
theorem QoK{co:Int}{es:List TEnt}(h1:∀q,q<es.length->Qbe co es q=0):Qbi co es=0:=by
 unfold Qbi;rw[QhI (λq hq=>by rw[List.length_map,List.length_range]at hq;rw[Qch hq];exact h1 q hq)]
end Gx
namespace Go.Proofs
open Go Go.RowKit Gx
attribute [local irreducible] Go.Calls Gx.S Gx.O Gx.D Gx.OpP Gx.OpQ Gx.OpH
set_option maxRecDepth 20000
theorem Qug:QJ Tryz.prog 220=true:=by kernel_rfl
theorem c155(w:World)(j:Nat)(mo rm:Int)(a:Option Addr)(cap:Nat)(L:List LNd)(i sb scap tot:Nat)(S:List Int)(hw:HS w (fps [.blk sb 4 tot (Q3 L.length S)]) [.blk sb 4 tot (Q3 L.length S)] w)(hs:Nt w (fps [.blk sb 4 tot (Q3 L.length S)]) a L)(hj:j<=3)(hi:i<L.length)(hl:L.length<=1000)(hel:(nth L i).es.length<=1000)(hcl:(nth L i).cs.length<=1000)(hK:∀x∈(nth L i).es,x.key.length<=1000000):CE 155 #[.agg #[.int .i64 (j:Int),.int .i64 mo,.int .i64 rm,.slice a L.length cap],.int .i64 (i:Int),.slice (some ⟨sb,0,none⟩) L.length scap] w (fps [.blk sb 4 tot (Q3 L.length S)]) (λg:Unit=>.int .i64 (XO (⟨(j:Int),mo,rm,pln L⟩:Tre) i S).1) (λg=>True) λg=>[.blk sb 4 tot (Q3 L.length (XO (⟨(j:Int),mo,rm,pln L⟩:Tre) i S).2)]:=by
 have hNI:=QR hi
 have hnl:(pln L).length=L.length:=Qh L
 refine eW3 Tryz.func155 Tryz.ntmps155 hw ?_
 refine aU2 ?_
 refine oBx λb1 _=>?_
 refine aU7 ?_
 refine o_p (Qa rfl rfl rfl XC (i) om om (Rw.some hs.1 om)) rfl (o_q (Qq _ rfl rfl ZR rfl (Rw.rd hs.1 hi)) rfl (oAl (λb2 _=>?_) YS))
 refine aU9 ?_
 refine sCd rfl (λh3=>?_) λh3=>?_
 ·have hu9:¬(nth L i).us=true:=by have hq:=h3;simp[hq]
  have hun:=Qsf (t:=(⟨(j:Int),mo,rm,pln L⟩:Tre)) (S:=S) (i:=i) (by rw[show((⟨(j:Int),mo,rm,pln L⟩:Tre)).ns=pln L from rfl,hNI];exact hu9)
  rw[show((⟨(j:Int),mo,rm,pln L⟩:Tre)).ns=pln L from rfl,hNI,hnl]at hun
  refine aU6 ?_
  refine oOr 7 24 31 rfl
   (λhg4 _=>by
    refine aT4 ?_
    refine aU8 ?_
    exact oJf 7 31)
   (λhg6 _=>by
    refine aU6 ?_
    exact oJt 7 31) ?_
  refine aU ?_
  refine oOr 5 32 37 rfl
   (λhg8 _=>by
    refine aU8 ?_
    exact oJf 5 37)
   (λhg10 _=>by
    refine aU4 ?_
    exact oJt 5 37) ?_
  refine aU ?_
  refine oOr 5 38 43 rfl
   (λhg12 _=>by
    refine aU8 ?_
    exact oJf 5 43)
   (λhg14 _=>by
    refine aU4 ?_
    exact oJt 5 43) ?_
  refine aU ?_
  refine sCd rfl (λh16=>?_) λh16=>?_
  ·have hn9:¬((0<i/\i+1<L.length)/\(nth L i).es.length+(nth L i).cs.length=0):=by have hq:=h16;omega
   have hun2:(XO (⟨(j:Int),mo,rm,pln L⟩:Tre) i S)=(3,S):=by rw[hun];exact if_neg hn9
   refine aU4 ?_
   exact rT rfl rfl (λw' h'=>⟨(),by rw[hun2];rfl,trivial,by rw[hun2];exact h'.ent aEt⟩)
  have hn9:(0<i/\i+1<L.length)/\(nth L i).es.length+(nth L i).cs.length=0:=by have hq:=h16;omega
  have hun2:(XO (⟨(j:Int),mo,rm,pln L⟩:Tre) i S)=(0,S):=by rw[hun];exact if_pos hn9
  refine aU5 ?_
  exact rT rfl rfl (λw' h'=>⟨(),by rw[hun2];rfl,trivial,by rw[hun2];exact h'.ent aEt⟩)
 have hu9:(nth L i).us=true:=by have hq:=h3;simpa using hq
 refine Qas ?_
 refine Qd (L':=[(2,_),(3,_),(6,_),(7,_),(8,_),(47,_)]) aSx (λ_ h=>h) ?_
 refine QkU (α:=Unit) [8,48,49] (λ_=>[(8,.int .i64 (YL mo rm i))]) (λ_=>True) ?_ ?_
 ·skip
  refine sCd rfl (λh17=>?_) λh17=>?_
  ·have hi0:i=0:=by have hq:=h17;omega
   refine aU5 ?_
   exact Qo () trivial (by rw[show YL mo rm i=rm from if_pos hi0];exact aSx) (λw h=>h)
  have hi0:¬i=0:=by have hq:=h17;omega
  refine aU ?_
  exact Qo () trivial (by rw[show YL mo rm i=mo from if_neg hi0];exact aSx) (λw h=>h)
 intro _ _
 refine aU9 ?_
 refine sCd rfl (λh18=>?_) λh18=>?_
 ·have h16:(XO (⟨(j:Int),mo,rm,pln L⟩:Tre) i S)=(16,S):=Qsq (t:=(⟨(j:Int),mo,rm,pln L⟩:Tre)) hNI hu9 (by show¬((nth L i).es.length:Int)<=YL mo rm i;have hq:=h18;omega)
  refine aU4 ?_
  exact rT rfl rfl (λw' h'=>⟨(),by rw[h16];rfl,trivial,by rw[h16];exact h'.ent aEt⟩)
 have hM9:((nth L i).es.length:Int)<=YL mo rm i:=by have hq:=h18;omega
 refine aU9 ?_
 refine Xi 9 59 68 rfl
  (λhg19 _=>by
   refine aT14 ?_
   refine aU2 ?_
   exact oJt 9 68)
  (λhg21 _=>by
   refine aU8 ?_
   exact oJf 9 68) ?_
 refine aU ?_
 refine sCd rfl (λh23=>?_) λh23=>?_
 ·have h10:(XO (⟨(j:Int),mo,rm,pln L⟩:Tre) i S)=(10,S):=QrH (t:=(⟨(j:Int),mo,rm,pln L⟩:Tre)) hNI hu9 hM9 (by show¬((nth L i).cs.length=0\/(nth L i).cs.length=(nth L i).es.length+1);have hq:=h23;omega)
  refine aU4 ?_
  exact rT rfl rfl (λw' h'=>⟨(),by rw[h10];rfl,trivial,by rw[h10];exact h'.ent aEt⟩)
 have hS9:(nth L i).cs.length=0\/(nth L i).cs.length=(nth L i).es.length+1:=by have hq:=h23;omega
 refine aU7 ?_
 refine Qd (L':=[(2,_),(3,_),(6,_),(7,_),(9,_)]) aSx (λ_ h=>h) ?_
 refine Qp (α:=Nat) [6,9,10,69,70,71,72,73,74,75,76,77,78,79,80,81,82,83,84,85,86] (λk=>[(9,.int .i64 (k:Int))]) (λ_=>HS w (fps [.blk sb 4 tot (Q3 L.length S)]) [.blk sb 4 tot (Q3 L.length S),.blk b1 24 4 [.int .i64 (j:Int),.int .i64 mo,.int .i64 rm,.slice a L.length cap],.blk b2 127 3 (LNd.vals (nth L i))]) (λk=>k<=(nth L i).es.length/\∀q,q<k->YU (j:Int) (nth (nth L i).es q)=0) (λk=>(nth L i).es.length-k) 0 ⟨Nat.zero_le _,λj h=>absurd h (Nat.not_lt_zero j)⟩ aSx (λw h=>h.ent aEt) (λk hx=>?_)
 obtain⟨hk1,hk3⟩:=hx
 refine aU9 ?_
 refine sCd rfl (λh24=>?_) λh24=>?_
 ·have hk5:k<(nth L i).es.length:=by omega
  refine aU4 ?_
  refine QH [] mixed ?_
  refine dFa 0 ?_
  refine dLd 1 [] ?_
  refine dFa 2 ?_
  refine dLd 3 [] ?_
  refine dP 4 ?_
  refine dV 5 rfl (Qa rfl rfl rfl QG (k) om om (Rw.some (hs.es hi) om)) (dQ 6 [] rfl (Qq _ rfl rfl Qc8 rfl (Rw.rd (hs.es hi) hk5)) (dQ 7 [] rfl (Qv rfl Qug rfl (λw1 h1=>c220 w1 j (nth (nth L i).es k) hj (hK _ (Qt hk5)))) (dP 8 ?_)))
  refine dNi ?_
  refine aU5 ?_
  refine sCd rfl (λh25=>?_) λh25=>?_
  ·have hz6:¬YU (j:Int) (nth (nth L i).es k)=0:=h25
   have hEb:=Qo4 hk5 hk3 hz6
   have hEe:(XO (⟨(j:Int),mo,rm,pln L⟩:Tre) i S)=(YU (j:Int) (nth (nth L i).es k),S):=by rw[<-hEb];exact Qr5 (t:=(⟨(j:Int),mo,rm,pln L⟩:Tre)) hNI hu9 hM9 hS9 (by show¬ZJ (j:Int) (nth L i).es=0;rw[hEb];exact hz6)
   refine aU5 ?_
   exact rT rfl rfl (λw' h'=>⟨(),by rw[hEe];rfl,trivial,by rw[hEe];exact h'.ent aEt⟩)
  have hz6:YU (j:Int) (nth (nth L i).es k)=0:=by have hq:=h25;omega
  refine aT5 ?_
  refine aU2 ?_
  exact sBk (k+1) om ⟨om,λq hq=>(Nat.lt_or_ge q k).elim (hk3 q) (λh9=>by obtain rfl:q=k:=om;exact hz6)⟩
 have hEn:∀q,q<(nth L i).es.length->YU (j:Int) (nth (nth L i).es q)=0:=λq hq=>hk3 q om
 have hE0:ZJ (j:Int) (nth L i).es=0:=Qqr hEn
 refine Qg rfl ?_
 refine aU6 ?_
 refine Qp (α:=Nat×List Int) [6,11,12,87,88,89,90,91,92,93,94,95,96,97,98,99,100,101,102,103,104,105,106,107,108,109,110,111,112,113,114,115,116,117,118,119,120,121] (λy=>[(11,.int .i64 (y.1:Int))]) (λy=>HS w (fps [.blk sb 4 tot (Q3 L.length S)]) [.blk sb 4 tot (Q3 L.length y.2),.blk b1 24 4 [.int .i64 (j:Int),.int .i64 mo,.int .i64 rm,.slice a L.length cap],.blk b2 127 3 (LNd.vals (nth L i))]) (λy=>y.1<=(nth L i).cs.length/\(X4 (pln L) (nth L i).cs S)=X4 (pln L) ((nth L i).cs.drop y.1) y.2) (λy=>(nth L i).cs.length-y.1) (0,S) ⟨Nat.zero_le _,rfl⟩ aSx (λw h=>h.ent aEt) (λ⟨k,Sk⟩hx=>?_)
 dsimp only
 obtain⟨hk1,hk3⟩:=hx
 simp only[]at hk1 hk3
 refine aU9 ?_
 refine sCd rfl (λh26=>?_) λh26=>?_
 ·have hk5:k<(nth L i).cs.length:=by omega
  have hkd9:nth (nth L i).cs k=((nth L i).cs.getD k 0):=rfl
  have hst:=QcS hk5
  rw[hst,QbB]at hk3
  refine aU8 ?_
  refine o_p (Qa rfl rfl rfl Q1 (k) om om (Rw.some (hs.cs hi) om)) rfl (o_q (Qb rfl rfl Zh (((hs.cs hi).rdj 0 hk5 rfl))) rfl (Qu (show _=Value.int .i64 ((nth L i).cs.getD k 0)from rfl) (Qro ?_)))
  refine oCq rfl (λw1 h1=>c27 w1 _ _ _) (aU2 ?_)
  refine oOr 8 106 114 rfl
   (λhg27 _=>by
    refine aU7 ?_
    refine o_p (Qa rfl rfl rfl XC (((nth L i).cs.getD k 0).toNat) om om (Rw.some hs.1 om)) rfl (aU3 ?_)
    refine o_q (Qb rfl rfl Zm ((hs.1.rdj 0 (i:=((nth L i).cs.getD k 0).toNat) om rfl))) rfl (aU2 ?_)
    exact oJf 8 114)
   (λhg29 _=>by
    refine aU7 ?_
    exact oJt 8 114) ?_
  refine aU ?_
  refine sCd rfl (λh31=>?_) λh31=>?_
  ·have hko:¬Qc6 (pln L) ((nth L i).cs.getD k 0):=by rintro⟨h91,h92⟩;rw[hnl]at h91;rw[QR om]at h92;have hq:=h31;exact hq.elim (λhq=>om) (λhq=>by rw[show(nth L ((nth L i).cs.getD k 0).toNat).pl.us=(nth L ((nth L i).cs.getD k 0).toNat).us from rfl,hq]at h92;cases h92)
   have hk6e:(XO (⟨(j:Int),mo,rm,pln L⟩:Tre) i S)=(6,Sk):=by have h8:Qb6 (pln L) ((nth L i).cs.getD k 0) Sk=6:=if_neg hko;have h7:QdX (pln L) ((nth L i).cs.getD k 0) Sk=Sk:=if_neg hko;rw[h8,h7,if_neg (by decide)]at hk3;rw[<-hk3];exact QmC (t:=(⟨(j:Int),mo,rm,pln L⟩:Tre)) hNI hu9 hM9 hS9 hE0 (by show¬(X4 (pln L) (nth L i).cs S).1=0;rw[hk3];show¬(6:Int)=0;decide)
   refine aU ?_
   refine Qd (L':=[(2,_),(3,_),(7,_),(9,_),(11,_),(12,_),(69,_),(70,_),(71,_),(72,_),(73,_)]) aSx (λ_ h=>h) ?_
   refine aU3 ?_
   exact rT rfl rfl (λw' h'=>⟨(),by rw[hk6e];rfl,trivial,by rw[hk6e];exact h'.ent aEt⟩)
  have hko:Qc6 (pln L) ((nth L i).cs.getD k 0):=by have hq:=h31;refine⟨by rw[hnl];exact hq.1,?_⟩;rw[QR om];exact hq.2
  have hko1:=hko.1
  rw[hnl]at hko1
  have hcv2:((nth L i).cs.getD k 0).toNat<L.length:=om
  have hcc:((((nth L i).cs.getD k 0).toNat:Nat):Int)=((nth L i).cs.getD k 0):=Int.toNat_of_nonneg om
  have h7:QdX (pln L) ((nth L i).cs.getD k 0) Sk=((nth L i).cs.getD k 0)::Sk:=if_pos hko
  rw[h7]at hk3
  have hsv:=Qj6 (n:=L.length) (S:=Sk) hcv2
  rw[hcc]at hsv
  refine aU3 ?_
  refine Qd (L':=[(2,_),(3,_),(7,_),(9,_),(11,_),(12,_),(69,_),(70,_),(71,_),(72,_),(73,_)]) aSx (λ_ h=>h) ?_
  refine aU3 ?_
  refine o_p (Qa rfl rfl rfl Xf (((nth L i).cs.getD k 0).toNat) om om rfl) rfl (Qu (show _=Value.pointer (some ⟨sb,((nth L i).cs.getD k 0).toNat,none⟩)from by rw[Nat.zero_add,Nat.mul_one]) (o_q (QN rfl rfl Zm (λw h=>h.rd_blk (Mc:=[]) aPk (Qbk hcv2) (by simp))) rfl (aU ?_)))
  refine sCd rfl (λh32=>?_) λh32=>?_
  ·have hmem:((nth L i).cs.getD k 0)∈Sk:=by have hq:=h32;rw[hcc]at hq;exact hq
   have h8:Qb6 (pln L) ((nth L i).cs.getD k 0) Sk=23:=by rw[Qb6,if_pos hko,if_pos hmem]
   rw[h8,if_neg (by decide)]at hk3
   have hk23:(XO (⟨(j:Int),mo,rm,pln L⟩:Tre) i S)=(23,((nth L i).cs.getD k 0)::Sk):=by rw[<-hk3];exact QmC (t:=(⟨(j:Int),mo,rm,pln L⟩:Tre)) hNI hu9 hM9 hS9 hE0 (by show¬(X4 (pln L) (nth L i).cs S).1=0;rw[hk3];show¬(23:Int)=0;decide)
   refine aU4 ?_
   exact rT rfl rfl (λw' h'=>⟨(),by rw[hk23];rfl,trivial,by rw[hk23,QoG hmem];exact h'.ent aEt⟩)
  have hmem:¬((nth L i).cs.getD k 0)∈Sk:=by have hq:=h32;rw[hcc]at hq;exact hq
  have h8:Qb6 (pln L) ((nth L i).cs.getD k 0) Sk=0:=by rw[Qb6,if_pos hko,if_neg hmem]
  rw[h8,if_pos rfl]at hk3
  have hk9:=hk3
  refine aU4 ?_
  refine o_p (Qa rfl rfl rfl Xf (((nth L i).cs.getD k 0).toNat) om om rfl) rfl (Qu (show _=Value.pointer (some ⟨sb,((nth L i).cs.getD k 0).toNat,none⟩)from by rw[Nat.zero_add,Nat.mul_one]) (QcX (Xr rfl rfl rfl Zm rfl aPt (by rw[QaV];show _+1<=_;omega) rfl) (λ_ _=>aT5 ?_)))
  refine aU2 ?_
  exact Qs (k+1,((nth L i).cs.getD k 0)::Sk) (by(try simp only[]);omega) ⟨by(try simp only[]);omega,hk9⟩ aSx (λw h=>by have h2:=h;rw[show Qf (Q3 L.length Sk) ((nth L i).cs.getD k 0).toNat (Value.cells (.bool true)).toList=Q3 L.length (((nth L i).cs.getD k 0)::Sk)from hsv]at h2;exact h2.ent aEt)
 have hdr9:(nth L i).cs.drop k=[]:=List.drop_of_length_le om
 rw[hdr9]at hk3
 have hK0:(X4 (pln L) (nth L i).cs S).1=0:=by rw[hk3];rfl
 have hK2:(X4 (pln L) (nth L i).cs S).2=Sk:=by rw[hk3];rfl
 have hOr:(XO (⟨(j:Int),mo,rm,pln L⟩:Tre) i S)=(Qbi (j:Int) (nth L i).es,(X4 (pln L) (nth L i).cs S).2):=by have h9:=Qss (t:=(⟨(j:Int),mo,rm,pln L⟩:Tre)) (i:=i) (S:=S) (n:=(nth L i).pl) hNI hu9 hM9 hS9 hE0 hK0;exact h9
 refine Qg rfl ?_
 refine aU6 ?_
 refine Qp (α:=Nat) [6,13,122,123,124,125,126,127,128,129,130,131,132,133,134,135,136,137,138,139,140,141,142,143,144,145] (λk=>[(13,.int .i64 (k:Int))]) (λ_=>HS w (fps [.blk sb 4 tot (Q3 L.length S)]) [.blk sb 4 tot (Q3 L.length (X4 (pln L) (nth L i).cs S).2),.blk b1 24 4 [.int .i64 (j:Int),.int .i64 mo,.int .i64 rm,.slice a L.length cap],.blk b2 127 3 (LNd.vals (nth L i))]) (λk=>1<=k/\∀q,q<k->Qbe (j:Int) (nth L i).es q=0) (λk=>(nth L i).es.length-k) 1 ⟨Nat.le_refl _,λq h=>if_pos (.inl om)⟩ aSx (λw h=>by rw[hK2];exact h.ent aEt) (λk hx=>?_)
 obtain⟨hk1,hk3b⟩:=hx
 refine aU9 ?_
 refine sCd rfl (λh33=>?_) λh33=>?_
 ·have hk5:k<(nth L i).es.length:=by omega
  have hk6:k-1<(nth L i).es.length:=om
  refine aU4 ?_
  refine QH [] mixed ?_
  refine dFa 0 ?_
  refine dLd 1 [] ?_
  refine dFa 2 ?_
  refine dLd 3 [] ?_
  refine dP 4 ?_
  refine dP 5 ?_
  try refine dWr ?_
  refine dV 6 rfl (Qa rfl rfl rfl QG (k-1) om om (Rw.some (hs.es hi) om)) (dFa 7 ?_)
  refine dQ 8 [] rfl (Qb rfl rfl X1 (((hs.es hi).rdj 0 hk6 rfl))) (dFa 9 ?_)
  refine dLd 10 [] ?_
  refine dP 11 ?_
  refine dV 12 rfl (Qa rfl rfl rfl QG (k) om om (Rw.some (hs.es hi) om)) (dFa 13 ?_)
  refine dQ 14 [] rfl (Qb rfl rfl X1 (((hs.es hi).rdj 0 hk5 rfl))) (dQ 15 [] rfl (Qv rfl Qkg rfl (λw1 h1=>c84 w1 j (nth (nth L i).es (k-1)).key (nth (nth L i).es k).key hj (QaU (hEn _ hk6)) (QaU (hEn _ hk5)) (hK _ (Qt hk6)) (hK _ (Qt hk5)))) (dP 16 ?_))
  refine dNi ?_
  refine sCd rfl (λh34=>?_) λh34=>?_
  ·have hz11:¬Qbe (j:Int) (nth L i).es k=0:=by unfold Qbe;rw[if_neg (by have hq:=h34;omega)];decide
   have hOb:=Qpo hk5 hk3b hz11
   have hOv:Qbe (j:Int) (nth L i).es k=9:=if_neg (by have hq:=h34;omega)
   refine aU ?_
   refine Qd (L':=[(2,_),(3,_),(7,_),(9,_),(11,_),(13,_),(69,_),(70,_),(71,_),(72,_),(73,_),(87,_),(88,_),(89,_),(90,_),(91,_)]) aSx (λ_ h=>h) ?_
   refine aU3 ?_
   exact rT rfl rfl (λw' h'=>⟨(),by rw[hOr,hOb,hOv];rfl,trivial,by rw[hOr];exact h'.ent aEt⟩)
  have hz11:Qbe (j:Int) (nth L i).es k=0:=if_pos (.inr (by have hq:=h34;omega))
  refine aU2 ?_
  refine Qd (L':=[(2,_),(3,_),(7,_),(9,_),(11,_),(13,_),(69,_),(70,_),(71,_),(72,_),(73,_),(87,_),(88,_),(89,_),(90,_),(91,_)]) aSx (λ_ h=>h) ?_
  refine aT3 ?_
  refine aU2 ?_
  exact sBk (k+1) om ⟨om,λq hq=>(Nat.lt_or_ge q k).elim (hk3b q) (λh9=>by obtain rfl:q=k:=om;exact hz11)⟩
 have hO0:Qbi (j:Int) (nth L i).es=0:=QoK (λq hq=>hk3b q om)
 refine Qg rfl ?_
 refine aU4 ?_
 exact rT rfl rfl (λw' h'=>⟨(),by rw[hOr,hO0];rfl,trivial,by rw[hOr];exact h'.ent aEt⟩)
end Go.Proofs
namespace Gx
open Go Go.RowKit
def mkS(vs:List Vis)(S:List Int):List Int:=(vs.map λv=>((v.i:Nat):Int)).reverse++S
theorem QrB(A B:List Vis)(S:List Int):mkS (A++B) S=mkS B (mkS A S):=by simp[mkS]
theorem QqX{vs:List Vis}{c:Int}:c∈mkS vs [] ↔ ∃v∈vs,((v.i:Nat):Int)=c:=by simp[mkS]
end Gx
namespace Go.Proofs
open Go Go.RowKit Gx
attribute [local irreducible] Go.Calls Gx.S Gx.O Gx.D Gx.OpP Gx.OpQ Gx.OpH
set_option maxRecDepth 20000
theorem Qoa:QJ Tryz.prog 156=true:=by kernel_rfl
def MkC(j:Nat)(mo rm:Int)(a:Option Addr)(cap:Nat)(L:List LNd)(sb scap tot:Nat)(f:Nat):Prop:=∀(w:World)(S:List Int)(v:Vis)(P:List Nat),(HS w (fps [.blk sb 4 tot (Q3 L.length S)]) [.blk sb 4 tot (Q3 L.length S)] w)->(Nt w (fps [.blk sb 4 tot (Q3 L.length S)]) a L)->(TOk (j:Int) (pln L))->(Bd (pln L))->(0<L.length)->(Gx.Way (pln L) (v.i::P))->P.length+f=L.length->Calls Tryz.prog 156 #[.agg #[.int .i64 (j:Int),.int .i64 mo,.int .i64 rm,.slice a L.length cap],.int .i64 (v.i:Int),.slice (some ⟨sb,0,none⟩) L.length scap] w λen w'=>∃g:Unit,en=.returned (.tuple #[])/\True/\HS w (fps [.blk sb 4 tot (Q3 L.length S)]) [.blk sb 4 tot (Q3 L.length (mkS (vis (pln L) f v) S))] w'
theorem Qvr(w:World)(j:Nat)(mo rm:Int)(a:Option Addr)(cap:Nat)(L:List LNd)(sb scap tot:Nat)(S:List Int)(v:Vis)(P:List Nat)(f:Nat)(hw:HS w (fps [.blk sb 4 tot (Q3 L.length S)]) [.blk sb 4 tot (Q3 L.length S)] w)(hs:Nt w (fps [.blk sb 4 tot (Q3 L.length S)]) a L)(hT:TOk (j:Int) (pln L))(hB:Bd (pln L))(h0:0<L.length)(hway:Gx.Way (pln L) (v.i::P))(hf:P.length+(f+1)=L.length)(ih:MkC j mo rm a cap L sb scap tot f):CE 156 #[.agg #[.int .i64 (j:Int),.int .i64 mo,.int .i64 rm,.slice a L.length cap],.int .i64 (v.i:Int),.slice (some ⟨sb,0,none⟩) L.length scap] w (fps [.blk sb 4 tot (Q3 L.length S)]) (λg:Unit=>.tuple #[]) (λg=>True) λg=>[.blk sb 4 tot (Q3 L.length (mkS (vis (pln L) (f+1) v) S))]:=by
 have hi0:=Qcr hT (by rw[Qh];exact h0) hway v.i (List.mem_cons_self ..)
 have hi:v.i<L.length:=by rw[Qh]at hi0;exact hi0
 have hn:=QR hi
 have hle:=hB.len
 rw[Qh]at hle
 have hcl:=hB.cs v.i hi0
 rw[hn]at hcl
 simp only[LNd.pl]at hcl
 refine eW3 Tryz.func156 Tryz.ntmps156 hw ?_
 refine aU2 ?_
 refine oBx λb1 _=>?_
 refine aU5 ?_
 refine o_p (Qa rfl rfl rfl Xf (v.i) om om rfl) rfl (Qu (show _=Value.pointer (some ⟨sb,v.i,none⟩)from by rw[Nat.zero_add,Nat.mul_one]) (QcX (Xr rfl rfl rfl Zm rfl aPt (by rw[QaV];show _+1<=_;omega) rfl) (λ_ _=>aU6 ?_)))
 refine Qp (α:=Nat) [6,10,11,12,13,14,15,16,17,18,19,20,21,22,23,24,25,26,27,28,29,30,31,32] (λk=>[(6,.int .i64 (k:Int))]) (λk=>HS w (fps [.blk sb 4 tot (Q3 L.length S)]) [.blk sb 4 tot (Q3 L.length (mkS (QaP (pln L) f v k) S)),.blk b1 24 4 [.int .i64 (j:Int),.int .i64 mo,.int .i64 rm,.slice a L.length cap]]) (λk=>k<=(nth L v.i).cs.length) (λk=>(nth L v.i).cs.length-k) 0 (Nat.zero_le _) aSx (λw h=>by have h2:=h;rw[show Qf (Q3 L.length S) v.i (Value.cells (.bool true)).toList=Q3 L.length (((v.i:Nat):Int)::S)from Qj6 hi]at h2;exact h2.ent aEt) (λk hk1=>?_)
 refine aU7 ?_
 refine o_p (Qa rfl rfl rfl XC (v.i) om om (Rw.some hs.1 om)) rfl (aU ?_)
 refine o_q (Qb rfl rfl QaL ((hs.1.rdj 2 hi rfl))) rfl (aU3 ?_)
 refine sCd rfl (λh2=>?_) λh2=>?_
 ·have hkl:k<(nth L v.i).cs.length:=by omega
  have hkid:=Qgl hT hi0 (k:=k) (by rw[hn];exact hkl)
  rw[hn,Qh]at hkid
  simp only[LNd.pl]at hkid
  have hway2:=Qeq hway hi0 (k:=k) (by rw[hn];exact hkl) (by rw[hn];simp only[LNd.pl];omega)
  refine aU3 ?_
  refine QH [11] mixed ?_
  refine dLn 0 [[]] ?_
  refine dFa 1 ?_
  refine dLd 2 [[9,8,6,5,4]] ?_
  refine dP 3 ?_
  refine dV 4 rfl (Qa rfl rfl rfl XC (v.i) om om (Rw.some hs.1 om)) (dFa 5 ?_)
  refine dQ 6 [[9,8]] rfl (Qb rfl rfl QaL ((hs.1.rdj 2 hi rfl))) (dP 7 ?_)
  refine dV 8 rfl (Qa rfl rfl rfl Q1 (k) om om (Rw.some (hs.cs hi) om)) (dQ 9 [[]] rfl (Qb rfl rfl Zh (((hs.cs hi).rdj 0 (i:=k) hkl rfl))) (Qz (show _=Value.int .i64 ((XH (pln L) v k).i:Int)from by rw[XH,hn];exact congrArg (Value.int .i64) (Int.toNat_of_nonneg (show 0<=(nth L v.i).cs.getD k 0 by omega)).symm) (dP 10 ?_)))
  refine dH 11 rfl (XG (Cs:=[.blk sb 4 tot (Q3 L.length (mkS (QaP (pln L) f v k) S))]) rfl Qoa rfl aPs (λw1 h1 hf9=>ih w1 (mkS (QaP (pln L) f v k) S) (XH (pln L) v k) (v.i::P) hf9 ((hs.keep h1).mono (QY aPs)) hT hB h0 hway2 (by simp only[List.length_cons];omega))) (λ_ _=>dTu [] ?_)
  refine dNi ?_
  refine aT4 ?_
  refine aU2 ?_
  exact Qs (k+1) om om aSx (λw h=>by rw[XT,QrB];exact h.ent aEt)
 obtain rfl:k=(nth L v.i).cs.length:=om
 refine Qg rfl ?_
 exact QkJ rfl (λw' h'=>⟨(),rfl,trivial,by rw[Y8,hn];exact h'.ent aEt⟩)
theorem c156(j:Nat)(mo rm:Int)(a:Option Addr)(cap:Nat)(L:List LNd)(sb scap tot:Nat):∀f,MkC j mo rm a cap L sb scap tot f
  | 0=>λw S v P hw hs hT hB h0 hway hf=>by
    have h1:=YJ hT (by rw[Qh];exact h0) hway;rw[Qh,List.length_cons]at h1;omega
  | f+1=>λw S v P hw hs hT hB h0 hway hf=>Qvr w j mo rm a cap L sb scap tot S v P f hw hs hT hB h0 hway hf (c156 j mo rm a cap L sb scap tot f)
end Go.Proofs
namespace Gx
open Go Go.RowKit
def StK(w:World)(p:Option Addr)(n:Nat)(o:Option (List UInt8)):Prop:=match o with
 | none=>n=0
 | some k=>n=1/\∃b off,p=some ⟨b,off,none⟩/\Rd w [] b off (.string (bs k))
theorem StK.later{w w':World}{As:List HA}{p:Option Addr}{n:Nat}{o:Option (List UInt8)}(h:StK w p n o)(hs:HS w [] As w'):StK w' p n o:=by
 cases o with
 | none=>exact h
 | some k=>
  obtain⟨h1,b,off,h2,h3⟩:=h;exact⟨h1,b,off,h2,h3.next hs⟩
theorem StK.of_pos{w:World}{p:Option Addr}{n:Nat}{o:Option (List UInt8)}(h:StK w p n o)(hn:0<n):∃k b off,o=some k/\n=1/\p=some ⟨b,off,none⟩/\Rd w [] b off (.string (bs k)):=by
 cases o with
 | none=>
  have:n=0:=h;omega
 | some k=>
  obtain⟨h1,b,off,h2,h3⟩:=h;exact⟨k,b,off,rfl,h1,h2,h3⟩
theorem StK.of_no{w:World}{p:Option Addr}{n:Nat}{o:Option (List UInt8)}(h:StK w p n o)(hn:¬0<n):o=none:=by
 cases o with
 | none=>rfl
 | some k=>
  obtain⟨h1,_⟩:=h;omega
theorem StK.new{w:World}{b:Nat}{k:List UInt8}(h:Rd w [] b 0 (.string (bs k))):StK w (some ⟨b,0,none⟩) 1 (some k):=⟨rfl,b,0,rfl,h⟩
theorem Qff{es:List TEnt}{k:Nat}{lo:Option (List UInt8)}(h:0<k):loK es k lo=some (nth es (k-1)).key:=if_pos h
theorem QiE{es:List TEnt}{k:Nat}{lo:Option (List UInt8)}(h:¬0<k):loK es k lo=lo:=if_neg h
theorem Qfe{es:List TEnt}{k:Nat}{hi:Option (List UInt8)}(h:k<es.length):hiK es k hi=some (nth es k).key:=if_pos h
theorem QhR{es:List TEnt}{k:Nat}{hi:Option (List UInt8)}(h:¬k<es.length):hiK es k hi=hi:=if_neg h
theorem Yf{t:Tre}{deep:Int}:∀(A B:List Vis),X6 t deep (A++B)=if(X6 t deep A).2=0 then X6 t deep B else X6 t deep A
 | [],B=>rfl
 | v::A,B=>by
  rw[List.cons_append,X6,X6]
  by_cases h:QcW t deep v=0
  ·rw[if_pos h,if_pos h];exact Yf A B
  ·rw[if_neg h,if_neg h,if_neg h]
theorem Qrn{t:Tre}{v:Vis}{N R:Nd}(hN:nth t.ns v.i=N)(hR:nth t.ns 0=R)(h1:R.cs.length=0\/R.cs.length=R.es.length+1)(h2:∀c∈R.cs,1<=c):ZF t v=true ↔ (v.i≠0/\(N.es.length:Int)<t.mo/2)\/(((R.es.length=0/\R.cs.length=1)/\R.cs.getD 0 0=(v.i:Int))/\(N.es.length:Int)<=t.rm):=by
 subst hN hR;unfold ZF;simp only[Bool.and_eq_true,Bool.or_eq_true,decide_eq_true_eq];constructor
 ·rintro⟨h3,h4|⟨⟨h4,h5⟩,h6⟩⟩
  ·exact .inl ⟨om,h4⟩
  ·refine .inr ⟨⟨⟨h4,?_⟩,?_⟩,h6⟩
   ·rcases h1 with h1|h1
    ·rw[List.eq_nil_of_length_eq_zero h1]at h5;cases h5
    ·omega
   ·have hl:(nth t.ns 0).cs.length=1:=by
     rcases h1 with h1|h1
     ·rw[List.eq_nil_of_length_eq_zero h1]at h5;cases h5
     ·omega
    obtain⟨c,hc⟩:=List.length_eq_one_iff.1 hl;rw[hc]at h5 ⊢;exact(List.mem_singleton.1 h5).symm
 ·rintro(⟨h3,h4⟩|⟨⟨⟨h4,h5⟩,h6⟩,h7⟩)
  ·exact⟨om,.inl h4⟩
  ·obtain⟨c,hc⟩:=List.length_eq_one_iff.1 h5;have h8:=h2 c (by rw[hc];exact List.mem_singleton.2 rfl);rw[hc]at h6 ⊢;have h9:c=(v.i:Int):=h6;exact⟨om,.inr ⟨⟨h4,List.mem_singleton.2 h9.symm⟩,h7⟩⟩
theorem QiR{t:Tre}{deep:Int}{v:Vis}(h:ZF t v=true):QcW t deep v=14:=by rw[QbJ,if_pos h]
theorem Qom{t:Tre}{deep:Int}{v:Vis}(h:¬ZF t v=true)(h2:Zk t v=true):QcW t deep v=9:=by rw[QbJ,if_neg h,if_pos h2]
theorem Qru{t:Tre}{deep:Int}{v:Vis}(h:¬ZF t v=true)(h2:¬Zk t v=true)(h3:(nth t.ns v.i).cs.length=0/\v.d≠deep+1):QcW t deep v=22:=by rw[QbJ,if_neg h,if_neg h2,if_pos h3]
theorem QrO{t:Tre}{deep:Int}{v:Vis}(h:¬ZF t v=true)(h2:¬Zk t v=true)(h3:¬((nth t.ns v.i).cs.length=0/\v.d≠deep+1)):QcW t deep v=0:=by rw[QbJ,if_neg h,if_neg h2,if_neg h3]
theorem Qn7{t:Tre}{v:Vis}{N:Nd}{k:Nat}(hN:nth t.ns v.i=N)(hk:k<N.es.length)(h:ZK t v (nth N.es k)=true):Zk t v=true:=by
 subst hN;exact List.any_eq_true.2 ⟨_,Qt hk,h⟩
theorem Qq9{t:Tre}{v:Vis}{N:Nd}(hN:nth t.ns v.i=N)(h:∀q,q<N.es.length->¬ZK t v (nth N.es q)=true):¬Zk t v=true:=λh2=>by
 subst hN;obtain⟨x,hx,h3⟩:=List.any_eq_true.1 h2;obtain⟨q,hq,e⟩:=List.getElem_of_mem hx;have e2:nth (nth t.ns v.i).es q=x:=Yi (by rw[List.getElem?_eq_getElem hq,e]);exact h q hq (by rw[e2];exact h3)
theorem Qem{t:Tre}{v:Vis}{x:TEnt}:ZK t v x=true ↔ (∃b,v.lo=some b/\0<=QS t.co b x.key)\/(∃b,v.hi=some b/\0<=QS t.co x.key b):=by
 unfold ZK;cases v.lo<;>cases v.hi<;>simp
section
variable{t:Tre}{v:Vis}{x:TEnt}{kl kh:List UInt8}
theorem QvP(h1:v.lo=some kl)(h:0<=QS t.co kl x.key):(true=true ↔ ZK t v x=true):=⟨λ_=>Qem.2 (.inl ⟨kl,h1,h⟩),λ_=>rfl⟩
theorem Qv0(h1:v.lo=some kl)(h:¬0<=QS t.co kl x.key)(h2:v.hi=some kh):(decide (QS t.co x.key kh>=0)=true ↔ ZK t v x=true):=by
 rw[decide_eq_true_eq,Qem,h1,h2];constructor
 ·exactλh9=>.inr ⟨kh,rfl,h9⟩
 ·rintro(⟨b,hb,h9⟩|⟨b,hb,h9⟩)
  ·cases hb;exact absurd h9 h
  ·cases hb;exact h9
theorem QvY(h1:v.lo=some kl)(h:¬0<=QS t.co kl x.key)(h2:v.hi=none):(false=true ↔ ZK t v x=true):=by
 rw[Qem,h1,h2];constructor
 ·exactλh9=>(nomatch h9)
 ·rintro(⟨b,hb,h9⟩|⟨b,hb,h9⟩)
  ·cases hb;exact absurd h9 h
  ·cases hb
theorem Qvl(h1:v.lo=none)(h2:v.hi=some kh):(decide (QS t.co x.key kh>=0)=true ↔ ZK t v x=true):=by
 rw[decide_eq_true_eq,Qem,h1,h2];constructor
 ·exactλh9=>.inr ⟨kh,rfl,h9⟩
 ·rintro(⟨b,hb,h9⟩|⟨b,hb,h9⟩)
  ·cases hb
  ·cases hb;exact h9
theorem QvO(h1:v.lo=none)(h2:v.hi=none):(false=true ↔ ZK t v x=true):=by
 rw[Qem,h1,h2];constructor
 ·exactλh9=>(nomatch h9)
 ·rintro(⟨b,hb,h9⟩|⟨b,hb,h9⟩)<;>cases hb
end
theorem QdS{t:Tre}{deep:Int}{f:Nat}{v:Vis}(h:¬QcW t deep v=0):X6 t deep (vis t.ns (f+1) v)=((v.i:Int),QcW t deep v):=by
 rw[vis,X6,if_neg h]
theorem QtI{t:Tre}{deep:Int}{f:Nat}{v:Vis}(h:QcW t deep v=0):(X6 t deep (QaP t.ns f v 0)).2=0:=by
 rw[Qlg,X6,if_pos h];rfl
end Gx
namespace Go.Proofs
open Go Go.RowKit Gx
attribute [local irreducible] Go.Calls Gx.S Gx.O Gx.D Gx.OpP Gx.OpQ Gx.OpH
set_option maxRecDepth 20000
theorem Qgy:QJ Tryz.prog 157=true:=by kernel_rfl
instance:TFn Tryz.prog 157:=⟨Qgy⟩
def PlC(j:Nat)(mo rm:Int)(a:Option Addr)(cap:Nat)(L:List LNd)(deep:Int)(f:Nat):Prop:=∀(w:World)(v:Vis)(P:List Nat)(lv:Int)(pa qa:Option Addr)(pn pc qn qc:Nat),(Nt w [] a L)->(j<=3)->((0<=mo/\mo<=1000)/\(0<=deep/\deep<=1000))->(TOk (j:Int) (pln L))->(Bd (pln L))->(0<L.length)->(Gx.Way (pln L) (v.i::P))->(v.d=(P.length:Int)+1)->(lv=deep+1-v.d)->(KOk (j:Int) v.lo)->(KOk (j:Int) v.hi)->(StK w pa pn v.lo)->(StK w qa qn v.hi)->P.length+f=L.length->Calls Tryz.prog 157 #[.agg #[.int .i64 (j:Int),.int .i64 mo,.int .i64 rm,.slice a L.length cap],.int .i64 (v.i:Int),.int .i64 lv,.slice pa pn pc,.slice qa qn qc] w λen w'=>en=.returned (.tuple #[.int .i64 (X6 (⟨(j:Int),mo,rm,pln L⟩:Tre) deep (vis (pln L) f v)).1,.int .i64 (X6 (⟨(j:Int),mo,rm,pln L⟩:Tre) deep (vis (pln L) f v)).2])/\Below w.heap.size w w'
theorem Qv3(w:World)(j:Nat)(mo rm:Int)(a:Option Addr)(cap:Nat)(L:List LNd)(deep:Int)(v:Vis)(P:List Nat)(lv:Int)(pa qa:Option Addr)(pn pc qn qc:Nat)(f:Nat)(hs:Nt w [] a L)(hj:j<=3)(hmo:(0<=mo/\mo<=1000)/\(0<=deep/\deep<=1000))(hT:TOk (j:Int) (pln L))(hB:Bd (pln L))(h0:0<L.length)(hway:Gx.Way (pln L) (v.i::P))(hd:v.d=(P.length:Int)+1)(hlv:lv=deep+1-v.d)(hko:KOk (j:Int) v.lo)(hkp:KOk (j:Int) v.hi)(hlo:StK w pa pn v.lo)(hhi:StK w qa qn v.hi)(hf:P.length+(f+1)=L.length)(ih:PlC j mo rm a cap L deep f):CR 157 #[.agg #[.int .i64 (j:Int),.int .i64 mo,.int .i64 rm,.slice a L.length cap],.int .i64 (v.i:Int),.int .i64 lv,.slice pa pn pc,.slice qa qn qc] w (.tuple #[.int .i64 (X6 (⟨(j:Int),mo,rm,pln L⟩:Tre) deep (vis (pln L) (f+1) v)).1,.int .i64 (X6 (⟨(j:Int),mo,rm,pln L⟩:Tre) deep (vis (pln L) (f+1) v)).2]):=by
 have hi0:=Qcr hT (by rw[Qh];exact h0) hway v.i (List.mem_cons_self ..)
 have hi:v.i<L.length:=by rw[Qh]at hi0;exact hi0
 have hn:=QR hi
 have hn0:=QR h0
 have hle:=hB.len
 rw[Qh]at hle
 have hwl:=YJ hT (by rw[Qh];exact h0) hway
 rw[Qh,List.length_cons]at hwl
 have hcl:=hB.cs v.i hi0
 have hel:=hB.es v.i hi0
 rw[hn]at hcl hel
 simp only[LNd.pl]at hcl hel
 have hsh:=hT.shape v.i hi0
 rw[hn]at hsh
 simp only[LNd.pl]at hsh
 have hgi:=Qrn (t:=(⟨(j:Int),mo,rm,pln L⟩:Tre)) (v:=v) hn hn0 (hn0▸hT.shape 0 (by rw[Qh];exact h0)) (λc hc=>(hT.kid 0 (by rw[Qh];exact h0) c (by rw[hn0];exact hc)).1.1)
 simp only[LNd.pl]at hgi
 have hE9:=Qef hT hi0
 rw[hn]at hE9
 simp only[LNd.pl]at hE9
 refine eN5 Tryz.func157 Tryz.ntmps157 ?_
 refine aU2 ?_
 refine oBx λb1 _=>?_
 refine aU8 ?_
 refine o_p (Qa rfl rfl rfl XC (v.i) om om (Rw.some hs.1 om)) rfl (o_q (Qq _ rfl rfl ZR rfl (Rw.rd hs.1 hi)) rfl (oAl (λb2 _=>?_) YS))
 refine aU8 ?_
 refine Xi 8 27 35 rfl
  (λhg3 _=>by
   refine Qab ?_
   refine o_p (Qd8 rfl rfl rfl om om om) rfl (aU2 ?_)
   exact oJt 8 35)
  (λhg5 _=>by
   refine aU7 ?_
   exact oJf 8 35) ?_
 refine aU ?_
 refine sCd rfl (λh7=>?_) λh7=>?_
 ·have hgp:ZF (⟨(j:Int),mo,rm,pln L⟩:Tre) v=true:=hgi.2 (.inl (by have hq:=h7;omega))
  have hV:=QiR (deep:=deep) hgp
  refine aU6 ?_
  exact Qm (rs:=[.tmp 10,.tmp 11]) rfl (.tmp rfl (.tmp rfl (.nil))) (λw' h'=>⟨by rw[QdS (by rw[hV];decide),hV];rfl,h'.below⟩)
 have hng1:¬(v.i≠0/\((nth L v.i).es.length:Int)<mo/2):=by have hq:=h7;omega
 refine aU6 ?_
 refine o_p (Qa rfl rfl rfl XC (0) om om (Rw.some hs.1 om)) rfl (aU ?_)
 refine o_q (Qb rfl rfl Z5 ((hs.1.rdj 1 h0 rfl))) rfl (aU3 ?_)
 refine Xi 8 44 52 rfl
  (λhg8 _=>by
   refine aU5 ?_
   refine o_p (Qa rfl rfl rfl XC (0) om om (Rw.some hs.1 om)) rfl (aU3 ?_)
   refine o_q (Qb rfl rfl QaL ((hs.1.rdj 2 h0 rfl))) rfl (aU4 ?_)
   exact oJt 8 52)
  (λhg10 _=>by
   refine aU7 ?_
   exact oJf 8 52) ?_
 refine aU ?_
 refine Xi 10 53 63 rfl
  (λhg12 _=>by
   refine aU5 ?_
   refine o_p (Qa rfl rfl rfl XC (0) om om (Rw.some hs.1 om)) rfl (aU3 ?_)
   refine o_q (Qb rfl rfl QaL ((hs.1.rdj 2 h0 rfl))) rfl (aU ?_)
   refine o_p (Qa rfl rfl rfl Q1 (0) om om (Rw.some (hs.cs h0) om)) rfl (aU ?_)
   refine o_q (Qb rfl rfl Zh (((hs.cs h0).rdj 0 (i:=0) om rfl))) rfl (aU4 ?_)
   exact oJt 10 63)
  (λhg14 _=>by
   refine aU9 ?_
   exact oJf 10 63) ?_
 refine aU ?_
 refine Xi 7 64 71 rfl
  (λhg16 _=>by
   refine QbX ?_
   exact oJt 7 71)
  (λhg18 _=>by
   refine aU6 ?_
   exact oJf 7 71) ?_
 refine aU ?_
 refine sCd rfl (λh20=>?_) λh20=>?_
 ·have hgp:ZF (⟨(j:Int),mo,rm,pln L⟩:Tre) v=true:=hgi.2 (.inr (by have hq:=h20;exact⟨⟨⟨om,om⟩,hq.1.2⟩,om⟩))
  have hV:=QiR (deep:=deep) hgp
  refine aU ?_
  refine Qd (L':=[(1,_),(2,_),(3,_),(4,_),(5,_),(10,_),(11,_),(12,_)]) aSx (λ_ h=>h) ?_
  refine aU5 ?_
  exact Qm (rs:=[.tmp 10,.tmp 11]) rfl (.tmp rfl (.tmp rfl (.nil))) (λw' h'=>⟨by rw[QdS (by rw[hV];decide),hV];rfl,h'.below⟩)
 have hgn:¬ZF (⟨(j:Int),mo,rm,pln L⟩:Tre) v=true:=λh9=>(hgi.1 h9).elim hng1 (λh8=>by have hq:=h20;rcases hq with((hq|hq)|hq)|hq<;>first|omega|exact hq h8.1.2)
 refine aU3 ?_
 refine Qd (L':=[(1,_),(2,_),(3,_),(4,_),(5,_),(10,_),(11,_),(12,_)]) aSx (λ_ h=>h) ?_
 refine aU4 ?_
 refine Qp (α:=Nat) [10,11,13,14,73,74,75,76,77,78,79,80,81,82,83,84,85,86,87,88,89,90,91,92,93,94,95,96,97,98,99,100,101,102,103,104,105,106,107,108,109,110,111,112,113,114] (λk=>[(13,.int .i64 (k:Int))]) (λ_=>HS w [] [.blk b1 24 4 [.int .i64 (j:Int),.int .i64 mo,.int .i64 rm,.slice a L.length cap],.blk b2 127 3 (LNd.vals (nth L v.i))]) (λk=>k<=(nth L v.i).es.length/\∀q,q<k->¬ZK (⟨(j:Int),mo,rm,pln L⟩:Tre) v (nth (nth L v.i).es q)=true) (λk=>(nth L v.i).es.length-k) 0 ⟨Nat.zero_le _,λq h=>absurd h (Nat.not_lt_zero q)⟩ aSx (λw h=>h.ent aEt) (λk hx9=>?_)
 obtain⟨hk1,hk3⟩:=hx9
 refine aU9 ?_
 refine sCd rfl (λh21=>?_) λh21=>?_
 ·have hk5:k<(nth L v.i).es.length:=by omega
  refine aU8 ?_
  refine o_p (Qa rfl rfl rfl QG (k) om om (Rw.some (hs.es hi) om)) rfl (aU ?_)
  refine o_q (Qb rfl rfl X1 (((hs.es hi).rdj 0 hk5 rfl))) rfl (aU3 ?_)
  refine Qd (L':=[(1,_),(2,_),(3,_),(4,_),(5,_),(12,_),(13,_),(14,_)]) aSx (λ_ h=>h) ?_
  refine QkU (α:=Bool) [86,87,88,89,90,91,92,93,94,95,96,97,98,99,100,101,102,103,104,105,106,107,108,109,110,111,112,113] (λx=>[(113,.bool x)]) (λx=>x=true ↔ (ZK (⟨(j:Int),mo,rm,pln L⟩:Tre) v (nth (nth L v.i).es k))=true) ?_ ?_
  ·skip
   refine QH [] mixed ?_
   refine dP 0 ?_
   refine dV 1 rfl (Q0 rfl rfl Tryz.underlying69) (dP 2 ?_)
   refine dP 3 ?_
   apply QI 89
   ·exact rfl
   ·intro hg22
    have hs23:=hg22;try simp only[dT]at hs23
    refine dFo 4 89 hg22 ?_
    obtain⟨kl,bl,ol,hlo1,hlo2,hlo3,hlo4⟩:=hlo.of_pos om
    refine dQo 5 89 [] hg22 rfl rfl rfl (Yj rfl rfl Zh aPk rfl) ?_
    refine dPo 6 89 hg22 ?_
    refine dVo 7 89 hg22 rfl rfl rfl (Qa rfl rfl rfl Zf (0) om om hlo3) ?_
    refine dQo 8 89 [] hg22 rfl rfl rfl (Qb rfl rfl X1 (hlo4)) ?_
    refine dPo 9 89 hg22 ?_
    refine dQo 10 89 [] hg22 rfl rfl rfl (Qv rfl Qkg rfl (λw1 h1=>c84 w1 j kl (nth (nth L v.i).es k).key hj (hko _ hlo1).1 (hE9 _ (Qt hk5)).1 (hko _ hlo1).2 (hE9 _ (Qt hk5)).2)) ?_
    refine dPo 11 89 hg22 ?_
    refine dV 12 rfl (QE rfl rfl hg22 rfl) (dP 13 ?_)
    apply QI 99
    ·exact rfl
    ·intro hg24
     have hs25:=hg24;try simp only[dT]at hs25
     refine dOf 14 99 hg24 ?_
     refine dOf 15 99 hg24 ?_
     refine dOf 16 99 hg24 ?_
     refine dOf 17 99 hg24 ?_
     refine dOu 18 103 ?_
     refine dOu 19 103 ?_
     refine dOu 20 103 ?_
     refine dOu 21 103 ?_
     refine dOu 22 103 ?_
     refine dOu 23 103 ?_
     refine dOu 24 103 ?_
     refine dOu 25 103 ?_
     refine dOf 26 99 hg24 ?_
     refine dV 27 rfl (QE rfl rfl hg24 rfl) (dNi ?_)
     exact Qo true (QvP hlo1 (by show 0<=QS (j:Int) kl _;omega)) aSx (λw h=>h.ent aEt)
    intro hg26
    have hs27:=hg26;try simp only[dN]at hs27
    refine dPo 14 99 hg26 ?_
    refine dVo 15 99 hg26 rfl rfl rfl (Q0 rfl rfl Tryz.underlying69) ?_
    refine dPo 16 99 hg26 ?_
    refine dPo 17 99 hg26 ?_
    apply QI 103
    ·exact rfl
    ·intro hg28
     have hs29:=hg28;try simp only[dT]at hs29
     refine dFo 18 103 hg28 ?_
     obtain⟨kh,bh,oh,hhi1,hhi2,hhi3,hhi4⟩:=hhi.of_pos om
     refine dQo 19 103 [] hg28 rfl rfl rfl (Yj rfl rfl Zh aPk rfl) ?_
     refine dPo 20 103 hg28 ?_
     refine dPo 21 103 hg28 ?_
     refine dVo 22 103 hg28 rfl rfl rfl (Qa rfl rfl rfl Zf (0) om om hhi3) ?_
     refine dQo 23 103 [] hg28 rfl rfl rfl (Qb rfl rfl X1 (hhi4)) ?_
     refine dQo 24 103 [] hg28 rfl rfl rfl (Qv rfl Qkg rfl (λw1 h1=>c84 w1 j (nth (nth L v.i).es k).key kh hj (hE9 _ (Qt hk5)).1 (hkp _ hhi1).1 (hE9 _ (Qt hk5)).2 (hkp _ hhi1).2)) ?_
     refine dPo 25 103 hg28 ?_
     refine dVo 26 99 hg26 rfl rfl rfl (QE rfl rfl hg28 rfl) ?_
     refine dV 27 rfl (QC rfl rfl hg26 rfl) (dNi ?_)
     exact Qo (decide (QS (j:Int) (nth (nth L v.i).es k).key kh>=0)) (Qv0 (t:=(⟨(j:Int),mo,rm,pln L⟩:Tre)) hlo1 (by show¬0<=QS (j:Int) kl _;omega) hhi1) aSx (λw h=>h.ent aEt)
    intro hg30
    have hs31:=hg30;try simp only[dN]at hs31
    refine dOf 18 103 hg30 ?_
    refine dOf 19 103 hg30 ?_
    refine dOf 20 103 hg30 ?_
    refine dOf 21 103 hg30 ?_
    refine dOf 22 103 hg30 ?_
    refine dOf 23 103 hg30 ?_
    refine dOf 24 103 hg30 ?_
    refine dOf 25 103 hg30 ?_
    refine dVo 26 99 hg26 rfl rfl rfl (QC rfl rfl hg30 rfl) ?_
    refine dV 27 rfl (QC rfl rfl hg26 rfl) (dNi ?_)
    exact Qo false (QvY hlo1 (by show¬0<=QS (j:Int) kl _;omega) (hhi.of_no om)) aSx (λw h=>h.ent aEt)
   intro hg32
   have hs33:=hg32;try simp only[dN]at hs33
   refine dOf 4 89 hg32 ?_
   refine dOf 5 89 hg32 ?_
   refine dOf 6 89 hg32 ?_
   refine dOf 7 89 hg32 ?_
   refine dOf 8 89 hg32 ?_
   refine dOf 9 89 hg32 ?_
   refine dOf 10 89 hg32 ?_
   refine dOf 11 89 hg32 ?_
   refine dV 12 rfl (QC rfl rfl hg32 rfl) (dP 13 ?_)
   apply QI 99
   ·exact rfl
   ·intro hg34
    have hs35:=hg34;skip
    refine dOf 14 99 hg34 ?_
    refine dOf 15 99 hg34 ?_
    refine dOf 16 99 hg34 ?_
    refine dOf 17 99 hg34 ?_
    refine dOu 18 103 ?_
    refine dOu 19 103 ?_
    refine dOu 20 103 ?_
    refine dOu 21 103 ?_
    refine dOu 22 103 ?_
    refine dOu 23 103 ?_
    refine dOu 24 103 ?_
    refine dOu 25 103 ?_
    refine dOf 26 99 hg34 ?_
    refine dV 27 rfl (QE rfl rfl hg34 rfl) (dNi ?_)
    exact Qo true (by exfalso;simp_all;done) aSx (λw h=>h.ent aEt)
   intro hg36
   have hs37:=hg36;skip
   refine dPo 14 99 hg36 ?_
   refine dVo 15 99 hg36 rfl rfl rfl (Q0 rfl rfl Tryz.underlying69) ?_
   refine dPo 16 99 hg36 ?_
   refine dPo 17 99 hg36 ?_
   apply QI 103
   ·exact rfl
   ·intro hg38
    have hs39:=hg38;try simp only[dT]at hs39
    refine dFo 18 103 hg38 ?_
    obtain⟨kh,bh,oh,hhi1,hhi2,hhi3,hhi4⟩:=hhi.of_pos om
    refine dQo 19 103 [] hg38 rfl rfl rfl (Yj rfl rfl Zh aPk rfl) ?_
    refine dPo 20 103 hg38 ?_
    refine dPo 21 103 hg38 ?_
    refine dVo 22 103 hg38 rfl rfl rfl (Qa rfl rfl rfl Zf (0) om om hhi3) ?_
    refine dQo 23 103 [] hg38 rfl rfl rfl (Qb rfl rfl X1 (hhi4)) ?_
    refine dQo 24 103 [] hg38 rfl rfl rfl (Qv rfl Qkg rfl (λw1 h1=>c84 w1 j (nth (nth L v.i).es k).key kh hj (hE9 _ (Qt hk5)).1 (hkp _ hhi1).1 (hE9 _ (Qt hk5)).2 (hkp _ hhi1).2)) ?_
    refine dPo 25 103 hg38 ?_
    refine dVo 26 99 hg36 rfl rfl rfl (QE rfl rfl hg38 rfl) ?_
    refine dV 27 rfl (QC rfl rfl hg36 rfl) (dNi ?_)
    exact Qo (decide (QS (j:Int) (nth (nth L v.i).es k).key kh>=0)) (Qvl (t:=(⟨(j:Int),mo,rm,pln L⟩:Tre)) (hlo.of_no om) hhi1) aSx (λw h=>h.ent aEt)
   intro hg40
   have hs41:=hg40;try simp only[dN]at hs41
   refine dOf 18 103 hg40 ?_
   refine dOf 19 103 hg40 ?_
   refine dOf 20 103 hg40 ?_
   refine dOf 21 103 hg40 ?_
   refine dOf 22 103 hg40 ?_
   refine dOf 23 103 hg40 ?_
   refine dOf 24 103 hg40 ?_
   refine dOf 25 103 hg40 ?_
   refine dVo 26 99 hg36 rfl rfl rfl (QC rfl rfl hg40 rfl) ?_
   refine dV 27 rfl (QC rfl rfl hg36 rfl) (dNi ?_)
   exact Qo false (QvO (hlo.of_no om) (hhi.of_no om)) aSx (λw h=>h.ent aEt)
  intro x hx
  refine sCd rfl (λh42=>?_) λh42=>?_
  ·have hV:=Qom (deep:=deep) hgn (Qn7 hn hk5 (hx.1 h42))
   refine aU6 ?_
   exact Qm (rs:=[.tmp 10,.tmp 11]) rfl (.tmp rfl (.tmp rfl (.nil))) (λw' h'=>⟨by rw[QdS (by rw[hV];decide),hV];rfl,h'.below⟩)
  have hz3:¬(ZK (⟨(j:Int),mo,rm,pln L⟩:Tre) v (nth (nth L v.i).es k))=true:=λh9=>by have h8:=hx.2 h9;simp_all
  refine aT5 ?_
  refine aU2 ?_
  exact sBk (k+1) om ⟨om,λq hq=>(Nat.lt_or_ge q k).elim (hk3 q) (λh9=>by obtain rfl:q=k:=om;exact hz3)⟩
 have hon:¬Zk (⟨(j:Int),mo,rm,pln L⟩:Tre) v=true:=Qq9 hn (λq hq=>hk3 q (by have hq9:=hq;simp only[LNd.pl]at hq9;omega))
 refine Qg rfl ?_
 refine aU8 ?_
 refine Xi 3 119 122 rfl
  (λhg43 _=>by
   refine aU4 ?_
   exact oJt 3 122)
  (λhg45 _=>by
   refine aU2 ?_
   exact oJf 3 122) ?_
 refine aU ?_
 refine sCd rfl (λh47=>?_) λh47=>?_
 ·have hV:=Qru (deep:=deep) hgn hon (by rw[show((⟨(j:Int),mo,rm,pln L⟩:Tre)).ns=pln L from rfl,hn];have hq:=h47;simp only[LNd.pl];omega)
  refine aU6 ?_
  exact Qm (rs:=[.tmp 10,.tmp 11]) rfl (.tmp rfl (.tmp rfl (.nil))) (λw' h'=>⟨by rw[QdS (by rw[hV];decide),hV];rfl,h'.below⟩)
 have hV0:=QrO (deep:=deep) hgn hon (by rw[show((⟨(j:Int),mo,rm,pln L⟩:Tre)).ns=pln L from rfl,hn];have hq:=h47;simp only[LNd.pl];omega)
 refine aU7 ?_
 refine Qd (L':=[(1,_),(2,_),(3,_),(4,_),(5,_),(12,_),(13,_),(15,_)]) aSx (λ_ h=>h) ?_
 refine Qp (α:=Nat) [10,11,15,16,17,18,19,124,125,126,127,128,129,130,131,132,133,134,135,136,137,138,139,140,141,142,143,144,145,146,147,148,149,150,151,152,153,154,155,156,157,158,159,160,161,162,163,164,165,166,167,168,169,170,171,172] (λk=>[(15,.int .i64 (k:Int))]) (λ_=>HS w [] [.blk b1 24 4 [.int .i64 (j:Int),.int .i64 mo,.int .i64 rm,.slice a L.length cap],.blk b2 127 3 (LNd.vals (nth L v.i))]) (λk=>k<=(nth L v.i).cs.length/\(X6 (⟨(j:Int),mo,rm,pln L⟩:Tre) deep (QaP (pln L) f v k)).2=0) (λk=>(nth L v.i).cs.length-k) 0 ⟨Nat.zero_le _,QtI hV0⟩ aSx (λw h=>h.ent aEt) (λk hx9=>?_)
 obtain⟨hk1,hk3⟩:=hx9
 refine aU9 ?_
 refine sCd rfl (λh48=>?_) λh48=>?_
 ·have hkl:k<(nth L v.i).cs.length:=by omega
  have hkid:=Qgl hT hi0 (k:=k) (by rw[hn];exact hkl)
  rw[hn,Qh]at hkid
  simp only[LNd.pl]at hkid
  have hway2:=Qeq hway hi0 (k:=k) (by rw[hn];exact hkl) (by rw[hn];simp only[LNd.pl];omega)
  refine aU16 ?_
  refine sCd rfl (λh49=>?_) λh49=>?_
  ·have hk0:0<k:=by have hq:=h49;omega
   refine aT5 ?_
   refine o_p (Qa rfl rfl rfl QG (k-1) om om (Rw.some (hs.es hi) om)) rfl (aU ?_)
   refine o_q (Qb rfl rfl X1 (((hs.es hi).rdj 0 (i:=k-1) om rfl))) rfl (o_h (Ql (cs:=[_]) rfl rfl Zf Qiv rfl rfl rfl) rfl (λb50 _=>Qab ?_))
   refine sCd rfl (λh51=>?_) λh51=>?_
   ·have hk9:k<(nth L v.i).es.length:=by have hq:=h51;omega
    refine Qd (L':=[(1,_),(2,_),(3,_),(4,_),(5,_),(12,_),(13,_),(15,_),(16,_),(17,_)]) aSx (λ_ h=>h) ?_
    refine aU4 ?_
    refine o_p (Qa rfl rfl rfl QG (k) om om (Rw.some (hs.es hi) om)) rfl (aU ?_)
    refine o_q (Qb rfl rfl X1 (((hs.es hi).rdj 0 (i:=k) om rfl))) rfl (o_h (Ql (cs:=[_]) rfl rfl Zf Qiv rfl rfl rfl) rfl (λb52 _=>aU3 ?_))
    refine QH [] mixed ?_
    refine dLn 0 [] ?_
    refine dFa 1 ?_
    refine dLd 2 [] ?_
    refine dP 3 ?_
    refine dV 4 rfl (Qa rfl rfl rfl Q1 (k) om om (Rw.some (hs.cs hi) om)) (dQ 5 [] rfl (Qb rfl rfl Zh (((hs.cs hi).rdj 0 (i:=k) hkl rfl))) (Qz (show _=Value.int .i64 ((XH (pln L) v k).i:Int)from by rw[XH,hn];exact congrArg (Value.int .i64) (Int.toNat_of_nonneg (show 0<=(nth L v.i).cs.getD k 0 by omega)).symm) (dP 6 ?_)))
    refine dP 7 ?_
    try refine dWr ?_
    refine dP 8 ?_
    refine dP 9 ?_
    refine dQ 10 [] rfl (Qv rfl Qgy rfl (λw1 h1=>ih w1 (XH (pln L) v k) (v.i::P) (lv-1) _ _ _ _ _ _ (hs.later h1) hj hmo hT hB h0 hway2 (by simp only[XH,List.length_cons];omega) (by simp only[XH];omega) (Qfs hT hi0 (by rw[hn];show k<=(nth L v.i).es.length;omega) hko) (Qgw hT hi0 hkp) (by show StK w1 _ _ (loK (nth (pln L) v.i).es k v.lo);rw[hn];show StK w1 _ _ (loK (nth L v.i).es k v.lo);first|(rw[Qff hk0];exact StK.new (h1.rd_blk (Mc:=[]) aPk rfl (by simp)))|(rw[QiE hk0];exact hlo.later h1)) (by show StK w1 _ _ (hiK (nth (pln L) v.i).es k v.hi);rw[hn];show StK w1 _ _ (hiK (nth L v.i).es k v.hi);first|(rw[Qfe hk9];exact StK.new (h1.rd_blk (Mc:=[]) aPk rfl (by simp)))|(rw[QhR hk9];exact hhi.later h1)) (by simp only[List.length_cons];omega))) (dP 11 ?_)
    refine dP 12 ?_
    refine dP 13 ?_
    refine dP 14 ?_
    refine dP 15 ?_
    refine dNi ?_
    refine aU ?_
    refine Qd (L':=[(1,_),(2,_),(3,_),(4,_),(5,_),(12,_),(13,_),(15,_),(18,_),(19,_)]) aSx (λ_ h=>h) ?_
    refine aU4 ?_
    refine sCd rfl (λh53=>?_) λh53=>?_
    ·have hbad:X6 (⟨(j:Int),mo,rm,pln L⟩:Tre) deep (vis (pln L) (f+1) v)=X6 (⟨(j:Int),mo,rm,pln L⟩:Tre) deep (vis (pln L) f (XH (pln L) v k)):=by rw[Y8,hn];obtain⟨B9,hB9⟩:=Qbd (pln L) f v (show k+1<=(nth L v.i).pl.cs.length by show k+1<=(nth L v.i).cs.length;omega);rw[hB9,XT,List.append_assoc,Yf,if_pos hk3,Yf,if_neg h53]
     refine aU7 ?_
     exact Qm (rs:=[.tmp 10,.tmp 11]) rfl (.tmp rfl (.tmp rfl (.nil))) (λw' h'=>⟨by rw[hbad];rfl,h'.below⟩)
    have hgood:(X6 (⟨(j:Int),mo,rm,pln L⟩:Tre) deep (QaP (pln L) f v (k+1))).2=0:=by rw[XT,Yf,if_pos hk3];have hq:=h53;omega
    refine aT5 ?_
    refine aU2 ?_
    exact sBk (k+1) om ⟨om,hgood⟩
   have hk9:¬k<(nth L v.i).es.length:=by have hq:=h51;omega
   refine aU2 ?_
   refine Qd (L':=[(1,_),(2,_),(3,_),(4,_),(5,_),(12,_),(13,_),(15,_),(16,_),(17,_)]) aSx (λ_ h=>h) ?_
   refine QH [] mixed ?_
   refine dLn 0 [] ?_
   refine dFa 1 ?_
   refine dLd 2 [] ?_
   refine dP 3 ?_
   refine dV 4 rfl (Qa rfl rfl rfl Q1 (k) om om (Rw.some (hs.cs hi) om)) (dQ 5 [] rfl (Qb rfl rfl Zh (((hs.cs hi).rdj 0 (i:=k) hkl rfl))) (Qz (show _=Value.int .i64 ((XH (pln L) v k).i:Int)from by rw[XH,hn];exact congrArg (Value.int .i64) (Int.toNat_of_nonneg (show 0<=(nth L v.i).cs.getD k 0 by omega)).symm) (dP 6 ?_)))
   refine dP 7 ?_
   try refine dWr ?_
   refine dP 8 ?_
   refine dP 9 ?_
   refine dQ 10 [] rfl (Qv rfl Qgy rfl (λw1 h1=>ih w1 (XH (pln L) v k) (v.i::P) (lv-1) _ _ _ _ _ _ (hs.later h1) hj hmo hT hB h0 hway2 (by simp only[XH,List.length_cons];omega) (by simp only[XH];omega) (Qfs hT hi0 (by rw[hn];show k<=(nth L v.i).es.length;omega) hko) (Qgw hT hi0 hkp) (by show StK w1 _ _ (loK (nth (pln L) v.i).es k v.lo);rw[hn];show StK w1 _ _ (loK (nth L v.i).es k v.lo);first|(rw[Qff hk0];exact StK.new (h1.rd_blk (Mc:=[]) aPk rfl (by simp)))|(rw[QiE hk0];exact hlo.later h1)) (by show StK w1 _ _ (hiK (nth (pln L) v.i).es k v.hi);rw[hn];show StK w1 _ _ (hiK (nth L v.i).es k v.hi);first|(rw[Qfe hk9];exact StK.new (h1.rd_blk (Mc:=[]) aPk rfl (by simp)))|(rw[QhR hk9];exact hhi.later h1)) (by simp only[List.length_cons];omega))) (dP 11 ?_)
   refine dP 12 ?_
   refine dP 13 ?_
   refine dP 14 ?_
   refine dP 15 ?_
   refine dNi ?_
   refine aU5 ?_
   refine sCd rfl (λh54=>?_) λh54=>?_
   ·have hbad:X6 (⟨(j:Int),mo,rm,pln L⟩:Tre) deep (vis (pln L) (f+1) v)=X6 (⟨(j:Int),mo,rm,pln L⟩:Tre) deep (vis (pln L) f (XH (pln L) v k)):=by rw[Y8,hn];obtain⟨B9,hB9⟩:=Qbd (pln L) f v (show k+1<=(nth L v.i).pl.cs.length by show k+1<=(nth L v.i).cs.length;omega);rw[hB9,XT,List.append_assoc,Yf,if_pos hk3,Yf,if_neg h54]
    refine aU7 ?_
    exact Qm (rs:=[.tmp 10,.tmp 11]) rfl (.tmp rfl (.tmp rfl (.nil))) (λw' h'=>⟨by rw[hbad];rfl,h'.below⟩)
   have hgood:(X6 (⟨(j:Int),mo,rm,pln L⟩:Tre) deep (QaP (pln L) f v (k+1))).2=0:=by rw[XT,Yf,if_pos hk3];have hq:=h54;omega
   refine aT5 ?_
   refine aU2 ?_
   exact sBk (k+1) om ⟨om,hgood⟩
  have hk0:¬0<k:=by have hq:=h49;omega
  refine Qbf ?_
  refine sCd rfl (λh55=>?_) λh55=>?_
  ·have hk9:k<(nth L v.i).es.length:=by have hq:=h55;omega
   refine aU4 ?_
   refine o_p (Qa rfl rfl rfl QG (k) om om (Rw.some (hs.es hi) om)) rfl (aU ?_)
   refine o_q (Qb rfl rfl X1 (((hs.es hi).rdj 0 (i:=k) om rfl))) rfl (o_h (Ql (cs:=[_]) rfl rfl Zf Qiv rfl rfl rfl) rfl (λb56 _=>aU3 ?_))
   refine Qd (L':=[(1,_),(2,_),(3,_),(4,_),(5,_),(12,_),(13,_),(15,_),(16,_),(17,_)]) aSx (λ_ h=>h) ?_
   refine QH [] mixed ?_
   refine dLn 0 [] ?_
   refine dFa 1 ?_
   refine dLd 2 [] ?_
   refine dP 3 ?_
   refine dV 4 rfl (Qa rfl rfl rfl Q1 (k) om om (Rw.some (hs.cs hi) om)) (dQ 5 [] rfl (Qb rfl rfl Zh (((hs.cs hi).rdj 0 (i:=k) hkl rfl))) (Qz (show _=Value.int .i64 ((XH (pln L) v k).i:Int)from by rw[XH,hn];exact congrArg (Value.int .i64) (Int.toNat_of_nonneg (show 0<=(nth L v.i).cs.getD k 0 by omega)).symm) (dP 6 ?_)))
   refine dP 7 ?_
   try refine dWr ?_
   refine dP 8 ?_
   refine dP 9 ?_
   refine dQ 10 [] rfl (Qv rfl Qgy rfl (λw1 h1=>ih w1 (XH (pln L) v k) (v.i::P) (lv-1) _ _ _ _ _ _ (hs.later h1) hj hmo hT hB h0 hway2 (by simp only[XH,List.length_cons];omega) (by simp only[XH];omega) (Qfs hT hi0 (by rw[hn];show k<=(nth L v.i).es.length;omega) hko) (Qgw hT hi0 hkp) (by show StK w1 _ _ (loK (nth (pln L) v.i).es k v.lo);rw[hn];show StK w1 _ _ (loK (nth L v.i).es k v.lo);first|(rw[Qff hk0];exact StK.new (h1.rd_blk (Mc:=[]) aPk rfl (by simp)))|(rw[QiE hk0];exact hlo.later h1)) (by show StK w1 _ _ (hiK (nth (pln L) v.i).es k v.hi);rw[hn];show StK w1 _ _ (hiK (nth L v.i).es k v.hi);first|(rw[Qfe hk9];exact StK.new (h1.rd_blk (Mc:=[]) aPk rfl (by simp)))|(rw[QhR hk9];exact hhi.later h1)) (by simp only[List.length_cons];omega))) (dP 11 ?_)
   refine dP 12 ?_
   refine dP 13 ?_
   refine dP 14 ?_
   refine dP 15 ?_
   refine dNi ?_
   refine aU5 ?_
   refine sCd rfl (λh57=>?_) λh57=>?_
   ·have hbad:X6 (⟨(j:Int),mo,rm,pln L⟩:Tre) deep (vis (pln L) (f+1) v)=X6 (⟨(j:Int),mo,rm,pln L⟩:Tre) deep (vis (pln L) f (XH (pln L) v k)):=by rw[Y8,hn];obtain⟨B9,hB9⟩:=Qbd (pln L) f v (show k+1<=(nth L v.i).pl.cs.length by show k+1<=(nth L v.i).cs.length;omega);rw[hB9,XT,List.append_assoc,Yf,if_pos hk3,Yf,if_neg h57]
    refine aU7 ?_
    exact Qm (rs:=[.tmp 10,.tmp 11]) rfl (.tmp rfl (.tmp rfl (.nil))) (λw' h'=>⟨by rw[hbad];rfl,h'.below⟩)
   have hgood:(X6 (⟨(j:Int),mo,rm,pln L⟩:Tre) deep (QaP (pln L) f v (k+1))).2=0:=by rw[XT,Yf,if_pos hk3];have hq:=h57;omega
   refine aT5 ?_
   refine aU2 ?_
   exact sBk (k+1) om ⟨om,hgood⟩
  have hk9:¬k<(nth L v.i).es.length:=by have hq:=h55;omega
  refine aU2 ?_
  refine QH [] mixed ?_
  refine dLn 0 [] ?_
  refine dFa 1 ?_
  refine dLd 2 [] ?_
  refine dP 3 ?_
  refine dV 4 rfl (Qa rfl rfl rfl Q1 (k) om om (Rw.some (hs.cs hi) om)) (dQ 5 [] rfl (Qb rfl rfl Zh (((hs.cs hi).rdj 0 (i:=k) hkl rfl))) (Qz (show _=Value.int .i64 ((XH (pln L) v k).i:Int)from by rw[XH,hn];exact congrArg (Value.int .i64) (Int.toNat_of_nonneg (show 0<=(nth L v.i).cs.getD k 0 by omega)).symm) (dP 6 ?_)))
  refine dP 7 ?_
  try refine dWr ?_
  refine dP 8 ?_
  refine dP 9 ?_
  refine dQ 10 [] rfl (Qv rfl Qgy rfl (λw1 h1=>ih w1 (XH (pln L) v k) (v.i::P) (lv-1) _ _ _ _ _ _ (hs.later h1) hj hmo hT hB h0 hway2 (by simp only[XH,List.length_cons];omega) (by simp only[XH];omega) (Qfs hT hi0 (by rw[hn];show k<=(nth L v.i).es.length;omega) hko) (Qgw hT hi0 hkp) (by show StK w1 _ _ (loK (nth (pln L) v.i).es k v.lo);rw[hn];show StK w1 _ _ (loK (nth L v.i).es k v.lo);first|(rw[Qff hk0];exact StK.new (h1.rd_blk (Mc:=[]) aPk rfl (by simp)))|(rw[QiE hk0];exact hlo.later h1)) (by show StK w1 _ _ (hiK (nth (pln L) v.i).es k v.hi);rw[hn];show StK w1 _ _ (hiK (nth L v.i).es k v.hi);first|(rw[Qfe hk9];exact StK.new (h1.rd_blk (Mc:=[]) aPk rfl (by simp)))|(rw[QhR hk9];exact hhi.later h1)) (by simp only[List.length_cons];omega))) (dP 11 ?_)
  refine dP 12 ?_
  refine dP 13 ?_
  refine dP 14 ?_
  refine dP 15 ?_
  refine dNi ?_
  refine aU ?_
  refine Qd (L':=[(1,_),(2,_),(3,_),(4,_),(5,_),(12,_),(13,_),(15,_),(18,_),(19,_)]) aSx (λ_ h=>h) ?_
  refine aU4 ?_
  refine sCd rfl (λh58=>?_) λh58=>?_
  ·have hbad:X6 (⟨(j:Int),mo,rm,pln L⟩:Tre) deep (vis (pln L) (f+1) v)=X6 (⟨(j:Int),mo,rm,pln L⟩:Tre) deep (vis (pln L) f (XH (pln L) v k)):=by rw[Y8,hn];obtain⟨B9,hB9⟩:=Qbd (pln L) f v (show k+1<=(nth L v.i).pl.cs.length by show k+1<=(nth L v.i).cs.length;omega);rw[hB9,XT,List.append_assoc,Yf,if_pos hk3,Yf,if_neg h58]
   refine aU7 ?_
   exact Qm (rs:=[.tmp 10,.tmp 11]) rfl (.tmp rfl (.tmp rfl (.nil))) (λw' h'=>⟨by rw[hbad];rfl,h'.below⟩)
  have hgood:(X6 (⟨(j:Int),mo,rm,pln L⟩:Tre) deep (QaP (pln L) f v (k+1))).2=0:=by rw[XT,Yf,if_pos hk3];have hq:=h58;omega
  refine aT5 ?_
  refine aU2 ?_
  exact sBk (k+1) om ⟨om,hgood⟩
 obtain rfl:k=(nth L v.i).cs.length:=om
 have hfin:X6 (⟨(j:Int),mo,rm,pln L⟩:Tre) deep (vis (pln L) (f+1) v)=(0,0):=by rw[Y8,hn];exact QkZ hk3
 refine Qg rfl ?_
 refine aU5 ?_
 exact Qm (rs:=[.tmp 10,.tmp 11]) rfl (.tmp rfl (.tmp rfl (.nil))) (λw' h'=>⟨by rw[hfin];rfl,h'.below⟩)
theorem c157(j:Nat)(mo rm:Int)(a:Option Addr)(cap:Nat)(L:List LNd)(deep:Int):∀f,PlC j mo rm a cap L deep f
  | 0=>λw v P lv pa qa pn pc qn qc hs hj hmo hT hB h0 hway hd hlv hko hkp hlo hhi hf=>by
    have h1:=YJ hT (by rw[Qh];exact h0) hway;rw[Qh,List.length_cons]at h1;omega
  | f+1=>λw v P lv pa qa pn pc qn qc hs hj hmo hT hB h0 hway hd hlv hko hkp hlo hhi hf=>Qv3 w j mo rm a cap L deep v P lv pa qa pn pc qn qc f hs hj hmo hT hB h0 hway hd hlv hko hkp hlo hhi hf (c157 j mo rm a cap L deep f)
end Go.Proofs
namespace Gx
open Go Go.RowKit
theorem Qty{t:Tre}(h:¬QK t.co=0):Yb t=(0,QK t.co):=by rw[QcO (by rw[if_neg h];exact h),if_neg h]
theorem Qtp{t:Tre}(h:QK t.co=0)(h2:¬Zn t.mo t.rm=0):Yb t=(0,Zn t.mo t.rm):=by rw[QcO (by rw[if_pos h];exact h2),if_pos h]
theorem Qvd{t:Tre}(h:QK t.co=0)(h2:Zn t.mo t.rm=0)(h3:¬0<t.ns.length):Yb t=(0,10):=by
 have e:Y1 t.ns.length=10:=if_neg h3;rw[Qea (by rw[if_pos h];exact h2) (by rw[e];decide),e]
theorem Quz{t:Tre}(h:QK t.co=0)(h2:Zn t.mo t.rm=0)(h3:0<t.ns.length)(h4:¬t.ns.length<=120):Yb t=(0,8):=by
 have e:Y1 t.ns.length=8:=by rw[Y1,if_pos h3,if_neg h4]
 rw[Qea (by rw[if_pos h];exact h2) (by rw[e];decide),e]
theorem Qto{t:Tre}(h:QK t.co=0)(h2:Zn t.mo t.rm=0)(h3:0<t.ns.length)(h4:t.ns.length<=120):Yb t=if(X0 t t.ns.length 0 []).2=0 then QbQ t else X0 t t.ns.length 0 []:=Qex (by rw[if_pos h];exact h2) (by rw[Y1,if_pos h3,if_pos h4])
theorem Qi9(n:Nat):XA [Value.bool false] n=Q3 n []:=by
 rw[QaY];apply List.ext_getElem?;intro i
 by_cases hi:i<n
 ·rw[Qbk hi,List.getElem?_replicate,if_pos hi];rfl
 ·rw[List.getElem?_eq_none (by rw[List.length_replicate];omega),List.getElem?_eq_none (by rw[QaV];omega)]
theorem Qjm{vs:List Vis}{k:Nat}:((k:Nat):Int)∈mkS vs [] ↔ k∈vs.map Vis.i:=by
 rw[QqX,List.mem_map];constructor
 ·rintro⟨v,hv,h⟩;exact⟨v,hv,om⟩
 ·rintro⟨v,hv,h⟩;exact⟨v,hv,om⟩
theorem Qjy(ns:List Nd):∀(f i:Nat),0<=YW ns f i/\YW ns f i<=f
 | 0,i=>by rw[YW];omega
 | f+1,i=>by
  rw[YW];split
  ·omega
  ·have:=Qjy ns f ((nth ns i).cs.getD 0 0).toNat;omega
theorem Qop{ns:List Nd}{f i:Nat}(h:(nth ns i).cs.length=0):YW ns f i=0:=by
 cases f with
 | zero=>rfl
 | succ f=>rw[YW,if_pos h]
theorem QnF{ns:List Nd}{f i:Nat}(h0:0<f)(h:¬(nth ns i).cs.length=0):YW ns f i=YW ns (f-1) ((nth ns i).cs.getD 0 0).toNat+1:=by
 obtain⟨g,rfl⟩:∃g,f=g+1:=⟨f-1,om⟩;rw[YW,if_neg h];rfl
end Gx
namespace Go.Proofs
open Go Go.RowKit Gx
attribute [local irreducible] Go.Calls Gx.S Gx.O Gx.D Gx.OpP Gx.OpQ Gx.OpH
set_option maxRecDepth 20000
instance:TFn Tryz.prog 153:=⟨by kernel_rfl⟩
instance:TFn Tryz.prog 154:=⟨by kernel_rfl⟩
theorem Qu0:QJ Tryz.prog 155=true:=by kernel_rfl
theorem c93(w:World)(co mo rm:Int)(a:Option Addr)(cap:Nat)(L:List LNd)(hs:Nt w [] a L)(hB:Bd (pln L))(hkl:∀i,i<L.length->∀x∈(nth L i).es,x.key.length<=1000000):CR 93 #[.agg #[.int .i64 co,.int .i64 mo,.int .i64 rm,.slice a L.length cap]] w (.tuple #[.int .i64 (Yb (⟨co,mo,rm,pln L⟩:Tre)).1,.int .i64 (Yb (⟨co,mo,rm,pln L⟩:Tre)).2]):=by
 have hle:=hB.len
 rw[Qh]at hle
 have hes9:∀i,i<L.length->(nth L i).es.length<=1000:=λi hi=>by have h9:=hB.es i (by rw[Qh];exact hi);rw[QR hi]at h9;exact h9
 have hcs9:∀i,i<L.length->(nth L i).cs.length<=1000:=λi hi=>by have h9:=hB.cs i (by rw[Qh];exact hi);rw[QR hi]at h9;exact h9
 refine eN1 Tryz.func93 Tryz.ntmps93 ?_
 refine aU2 ?_
 refine oBx λb1 _=>?_
 refine aU8 ?_
 refine oCq rfl (λw1 h1=>c153 w1 _) (aU7 ?_)
 refine sCd rfl (λh2=>?_) λh2=>?_
 ·have hz:=Qty (t:=(⟨co,mo,rm,pln L⟩:Tre)) h2
  refine aU6 ?_
  exact Qm (rs:=[.tmp 2,.tmp 3]) rfl (.tmp rfl (.tmp rfl (.nil))) (λw' h'=>⟨by rw[hz];rfl,h'.below⟩)
 have hc0:QK co=0:=by have hq:=h2;omega
 obtain⟨j,rfl,hj⟩:=Qf6 hc0
 refine aU8 ?_
 refine oCq rfl (λw1 h1=>c154 w1 _ _) (aU7 ?_)
 refine sCd rfl (λh3=>?_) λh3=>?_
 ·have hz:=Qtp (t:=(⟨(j:Int),mo,rm,pln L⟩:Tre)) hc0 h3
  refine aU6 ?_
  exact Qm (rs:=[.tmp 2,.tmp 3]) rfl (.tmp rfl (.tmp rfl (.nil))) (λw' h'=>⟨by rw[hz];rfl,h'.below⟩)
 have hc1:Zn mo rm=0:=by have hq:=h3;omega
 have hsz2:(3<=mo/\mo<=8)/\(mo/2<=rm/\rm<=mo):=QfT hc1
 have hTL:((⟨(j:Int),mo,rm,pln L⟩:Tre)).ns.length=L.length:=Qh L
 refine aU9 ?_
 refine sCd rfl (λh4=>?_) λh4=>?_
 ·have hz:=Qvd (t:=(⟨(j:Int),mo,rm,pln L⟩:Tre)) hc0 hc1 (by rw[hTL];have hq:=h4;omega)
  refine aU5 ?_
  exact Qm (rs:=[.tmp 2,.tmp 3]) rfl (.tmp rfl (.tmp rfl (.nil))) (λw' h'=>⟨by rw[hz];rfl,h'.below⟩)
 have h00:0<L.length:=by have hq:=h4;omega
 refine aU9 ?_
 refine sCd rfl (λh5=>?_) λh5=>?_
 ·have hz:=Quz (t:=(⟨(j:Int),mo,rm,pln L⟩:Tre)) hc0 hc1 (by rw[hTL];exact h00) (by rw[hTL];have hq:=h5;omega)
  refine aU5 ?_
  exact Qm (rs:=[.tmp 2,.tmp 3]) rfl (.tmp rfl (.tmp rfl (.nil))) (λw' h'=>⟨by rw[hz];rfl,h'.below⟩)
 have h120:L.length<=120:=by have hq:=h5;omega
 have hz:=Qto (t:=(⟨(j:Int),mo,rm,pln L⟩:Tre)) hc0 hc1 (by rw[hTL];exact h00) (by rw[hTL];exact h120)
 rw[hTL]at hz
 refine aU6 ?_
 refine o_h (Qbu (n:=L.length) rfl rfl rfl Xf Qk8 om om) rfl (λb6 _=>Y0 (λw h=>(show HS _ _ [.blk b6 4 L.length (Q3 L.length []),.blk b1 24 4 [.int .i64 (j:Int),.int .i64 mo,.int .i64 rm,.slice a L.length cap]] w from by have h9:=h;rw[Nat.mul_one,Qi9]at h9;exact h9.ent aEt)) (aU4 ?_))
 refine Qd (L':=[(1,_),(2,_),(3,_),(6,_)]) aSx (λ_ h=>h) ?_
 refine aU4 ?_
 refine Qp (α:=Nat×List Int) [2,3,7,8,39,40,41,42,43,44,45,46,47,48,49,50,51,52,53] (λx=>[(7,.int .i64 (x.1:Int))]) (λx=>HS w [] [.blk b6 4 L.length (Q3 L.length x.2),.blk b1 24 4 [.int .i64 (j:Int),.int .i64 mo,.int .i64 rm,.slice a L.length cap]]) (λx=>x.1<=L.length/\(X0 (⟨(j:Int),mo,rm,pln L⟩:Tre) L.length 0 [])=X0 (⟨(j:Int),mo,rm,pln L⟩:Tre) (L.length-x.1) x.1 x.2) (λx=>L.length-x.1) (0,[]) ⟨Nat.zero_le _,rfl⟩ aSx (λw h=>h.ent aEt) (λ⟨k,S9⟩hx=>?_)
 dsimp only
 obtain⟨hk1,hk3⟩:=hx
 simp only[]at hk1 hk3
 refine aU9 ?_
 refine sCd rfl (λh7=>?_) λh7=>?_
 ·have hkl9:k<L.length:=by omega
  have hst:=Qgt (t:=(⟨(j:Int),mo,rm,pln L⟩:Tre)) (k:=k) (seen:=S9) (by rw[hTL];exact hkl9)
  rw[hTL]at hst
  refine aU8 ?_
  refine o_h (XG (Cs:=[.blk b6 4 L.length (Q3 L.length S9)]) rfl Qu0 rfl aPs (λw1 h1 hf=>c155 w1 j mo rm a cap L k b6 L.length L.length S9 hf ((hs.keep h1).mono (QY aPs)) hj hkl9 om (hes9 _ hkl9) (hcs9 _ hkl9) (hkl _ hkl9))) rfl (λ_ _=>aU7 ?_)
  refine sCd rfl (λh8=>?_) λh8=>?_
  ·have hz3:(X0 (⟨(j:Int),mo,rm,pln L⟩:Tre) L.length 0 [])=((k:Int),(XO (⟨(j:Int),mo,rm,pln L⟩:Tre) k S9).1):=by rw[hk3,hst,if_neg h8]
   rw[hz3,if_neg (show¬(((k:Int),(XO (⟨(j:Int),mo,rm,pln L⟩:Tre) k S9).1):Int×Int).2=0 from h8)]at hz
   refine aU7 ?_
   exact Qm (rs:=[.tmp 2,.tmp 3]) rfl (.tmp rfl (.tmp rfl (.nil))) (λw' h'=>⟨by rw[hz];rfl,h'.below⟩)
  have hz3:X0 (⟨(j:Int),mo,rm,pln L⟩:Tre) (L.length-k) k S9=X0 (⟨(j:Int),mo,rm,pln L⟩:Tre) (L.length-(k+1)) (k+1) (XO (⟨(j:Int),mo,rm,pln L⟩:Tre) k S9).2:=by rw[hst,if_pos (by have hq:=h8;omega)]
  refine aT5 ?_
  refine aU2 ?_
  exact sBk (k+1,(XO (⟨(j:Int),mo,rm,pln L⟩:Tre) k S9).2) (by(try simp only[]);omega) ⟨by(try simp only[]);omega,by simp only[];rw[hk3,hz3]⟩
 have hnd:(X0 (⟨(j:Int),mo,rm,pln L⟩:Tre) L.length 0 [])=(0,0):=by rw[hk3,show L.length-k=0 by omega];rfl
 rw[hnd,if_pos rfl]at hz
 have hT:TOk (j:Int) (pln L):=Qfu (t:=(⟨(j:Int),mo,rm,pln L⟩:Tre)) (by show(X0 (⟨(j:Int),mo,rm,pln L⟩:Tre) (pln L).length 0 []).2=0;rw[Qh,hnd])
 have hvis:vis (pln L) L.length Z4=Yy (pln L):=by unfold Yy;rw[Qh]
 refine Qg rfl ?_
 refine aU5 ?_
 refine o_h (Qbu (n:=L.length) rfl rfl rfl Xf Qk8 om om) rfl (λb9 _=>Y0 (λw h=>(show HS _ _ [.blk b9 4 L.length (Q3 L.length []),.blk b1 24 4 [.int .i64 (j:Int),.int .i64 mo,.int .i64 rm,.slice a L.length cap]] w from by have h9:=h;rw[Nat.mul_one,Qi9]at h9;exact h9.ent aEt)) (aU6 ?_))
 refine o_h (XG (Cs:=[.blk b9 4 L.length (Q3 L.length [])]) rfl Qoa rfl aPs (λw1 h1 hf=>c156 j mo rm a cap L b9 L.length L.length L.length w1 [] Z4 [] hf ((hs.keep h1).mono (QY aPs)) hT hB h00 rfl (by simp))) rfl (λ_ _=>aU7 ?_)
 refine Qd (L':=[(1,_),(6,_),(7,_),(9,_),(10,_)]) aSx (λ_ h=>h) ?_
 refine Qp (α:=Nat) [2,3,10,61,62,63,64,65,66,67,68,69,70,71,72,73,74,75,76,77,78,79,80,81] (λk=>[(10,.int .i64 (k:Int))]) (λ_=>HS w [] [.blk b9 4 L.length (Q3 L.length (mkS (vis (pln L) L.length Z4) [])),.blk b1 24 4 [.int .i64 (j:Int),.int .i64 mo,.int .i64 rm,.slice a L.length cap]]) (λk=>k<=L.length/\Qap (pln L) ((Yy (pln L)).map Vis.i) L.length 0=Qap (pln L) ((Yy (pln L)).map Vis.i) (L.length-k) k) (λk=>L.length-k) 0 ⟨Nat.zero_le _,rfl⟩ aSx (λw h=>h.ent aEt) (λk hx=>?_)
 obtain⟨hk1,hk2⟩:=hx
 refine aU9 ?_
 refine sCd rfl (λh10=>?_) λh10=>?_
 ·have hkl9:k<L.length:=by omega
  have hst:=QhD (ns:=pln L) (below:=((Yy (pln L)).map Vis.i)) (k:=k) (by rw[Qh];exact hkl9)
  rw[Qh,QR hkl9]at hst
  refine aU8 ?_
  refine o_p (Qa rfl rfl rfl XC (k) om om (Rw.some hs.1 om)) rfl (aU ?_)
  refine o_q (Qb rfl rfl Zm ((hs.1.rdj 0 hkl9 rfl))) rfl (aU ?_)
  refine Xi 6 74 80 rfl
   (λhg11 _=>by
    refine aU5 ?_
    refine o_p (Qa rfl rfl rfl Xf (k) om om rfl) rfl (Qu (show _=Value.pointer (some ⟨b9,k,none⟩)from by rw[Nat.zero_add,Nat.mul_one]) (aU ?_))
    refine o_q (QN rfl rfl Zm (λw h=>h.rd_blk (Mc:=[]) aPk (Qbk hkl9) (by simp))) rfl (aU2 ?_)
    exact oJt 6 80)
   (λhg13 _=>by
    refine aU5 ?_
    exact oJf 6 80) ?_
  refine aU ?_
  refine sCd rfl (λh15=>?_) λh15=>?_
  ·have hz7:(nth L k).pl.us=true/\k ∉ ((Yy (pln L)).map Vis.i):=by have hq:=h15;rw[<-Qjm,<-hvis];simp only[LNd.pl];simpa using hq
   have hz8:=hz.trans (Qdv (t:=(⟨(j:Int),mo,rm,pln L⟩:Tre)) (i:=k) (show Qap (pln L) _ (pln L).length 0=some k from by rw[Qh,hk2,hst,if_pos hz7]))
   refine aU6 ?_
   exact Qm (rs:=[.tmp 2,.tmp 3]) rfl (.tmp rfl (.tmp rfl (.nil))) (λw' h'=>⟨by rw[hz8];rfl,h'.below⟩)
  have hz7:¬((nth L k).pl.us=true/\k ∉ ((Yy (pln L)).map Vis.i)):=by have hq:=h15;rw[<-Qjm,<-hvis];simp only[LNd.pl];intro h9;exact hq.elim (λh8=>by rw[h8]at h9;cases h9.1) (λh8=>h9.2 h8)
  refine aT5 ?_
  refine aU2 ?_
  exact sBk (k+1) om ⟨om,by rw[hk2,hst,if_neg hz7]⟩
 have hnone:Qap (pln L) ((Yy (pln L)).map Vis.i) L.length 0=none:=by rw[hk2,show L.length-k=0 by omega];rfl
 have hz8:=hz.trans (Qdt (t:=(⟨(j:Int),mo,rm,pln L⟩:Tre)) (show Qap (pln L) _ (pln L).length 0=none from by rw[Qh];exact hnone))
 refine Qg rfl ?_
 refine Qbf ?_
 refine Qp (α:=Nat×Nat×List Nat) [11,12,82,83,84,85,86,87,88,89,90,91,92,93,94,95,96,97,98,99] (λy=>[(11,.int .i64 (y.1:Int)),(12,.int .i64 (y.2.1:Int))]) (λ_=>HS w [] [.blk b1 24 4 [.int .i64 (j:Int),.int .i64 mo,.int .i64 rm,.slice a L.length cap]]) (λy=>Gx.Way (pln L) (y.2.1::y.2.2)/\y.2.2.length=y.1/\YW (pln L) L.length 0=(y.1:Int)+YW (pln L) (L.length-y.1) y.2.1) (λy=>L.length-y.1) (0,0,[]) ⟨rfl,rfl,by simp⟩ aSx (λw h=>h.ent aEt) (λ⟨d,i,P⟩hx=>?_)
 dsimp only
 obtain⟨hway,hpl,hdp⟩:=hx
 simp only[]at hway hpl hdp
 have hil0:=Qcr hT (by rw[Qh];exact h00) hway i (List.mem_cons_self ..)
 have hil:i<L.length:=by rw[Qh]at hil0;exact hil0
 have hnI:=QR hil
 have hwl:=YJ hT (by rw[Qh];exact h00) hway
 rw[Qh,List.length_cons]at hwl
 have hcl:=hcs9 i hil
 refine aU6 ?_
 refine o_p (Qa rfl rfl rfl XC (i) om om (Rw.some hs.1 om)) rfl (aU ?_)
 refine o_q (Qb rfl rfl QaL ((hs.1.rdj 2 hil rfl))) rfl (aU3 ?_)
 refine sCd rfl (λh16=>?_) λh16=>?_
 ·have hcl0:0<(nth L i).cs.length:=by have hq:=h16;omega
  have hkid:=Qgl hT (by rw[Qh];exact hil) (i:=i) (k:=0) (by rw[hnI];exact hcl0)
  rw[hnI,Qh]at hkid
  simp only[LNd.pl]at hkid
  have hway2:=Qeq hway (by rw[Qh];exact hil) (k:=0) (by rw[hnI];exact hcl0) (by rw[hnI];simp only[LNd.pl];omega)
  rw[hnI]at hway2
  have hwl2:=YJ hT (by rw[Qh];exact h00) hway2
  rw[Qh,List.length_cons,List.length_cons]at hwl2
  have hdm:=QnF (ns:=pln L) (f:=L.length-d) (i:=i) om (by rw[hnI];show¬(nth L i).cs.length=0;omega)
  rw[hnI]at hdm
  refine aU7 ?_
  refine o_p (Qa rfl rfl rfl XC (i) om om (Rw.some hs.1 om)) rfl (aU ?_)
  refine o_q (Qb rfl rfl QaL ((hs.1.rdj 2 hil rfl))) rfl (o_p (Qa rfl rfl rfl Q1 (0) om om (Rw.some (hs.cs hil) om)) rfl (o_q (Qb rfl rfl Zh (((hs.cs hil).rdj 0 (i:=0) om rfl))) rfl (Qu (show _=Value.int .i64 (((nth L i).cs.getD 0 0).toNat:Int)from congrArg (Value.int .i64) (Int.toNat_of_nonneg (show 0<=(nth L i).cs.getD 0 0 by omega)).symm) (aT6 ?_))))
  refine aU2 ?_
  exact sBk (d+1,((nth L i).cs.getD 0 0).toNat,i::P) (by(try simp only[]);omega) ⟨hway2,by simp[hpl],by simp only[]at *;rw[show L.length-(d+1)=L.length-d-1 by omega];have h9:(nth L i).pl.cs=(nth L i).cs:=rfl;rw[h9]at hdm;omega⟩
 have hde:=Qop (ns:=pln L) (f:=L.length-d) (i:=i) (by rw[hnI];show(nth L i).cs.length=0;have hq:=h16;omega)
 rw[hde,Int.add_zero]at hdp
 have hdl:=Qjy (pln L) L.length 0
 refine Qg rfl ?_
 refine aU4 ?_
 refine oCq rfl (λw1 h1=>c157 j mo rm a cap L (d:Int) L.length w1 Z4 [] (d:Int) none none 0 0 0 0 (hs.later h1) hj om hT hB h00 rfl rfl (by show(d:Int)=d+1-1;omega) (λ_ h=>by cases h) (λ_ h=>by cases h) rfl rfl (by simp)) (aU5 ?_)
 exact Qm (rs:=[.tmp 2,.tmp 3]) rfl (.tmp rfl (.tmp rfl (.nil))) (λw' h'=>⟨by rw[hz8,show YW ((⟨(j:Int),mo,rm,pln L⟩:Tre)).ns ((⟨(j:Int),mo,rm,pln L⟩:Tre)).ns.length 0=(d:Int)from by rw[hTL];exact hdp,show Yy ((⟨(j:Int),mo,rm,pln L⟩:Tre)).ns=vis (pln L) L.length Z4 from hvis.symm];rfl,h'.below⟩)
end Go.Proofs
namespace Gx
open Go Go.RowKit
theorem Qjv{ns:List Nd}{below:List Nat}:∀{f i:Nat},Qap ns below f i=none->∀j,i<=j->j<i+f->(nth ns j).us=true->j∈below
 | 0,i,_,j,h1,h2,_=>by omega
 | f+1,i,h,j,h1,h2,hu=>by
  rw[Qap]at h;split at h
  ·cases h
  ·rename_i hn;rcases Nat.eq_or_lt_of_le h1 with e|e
   ·grind
   ·exact Qjv h j e om hu
theorem Qmt{t:Tre}{deep:Int}:∀{vs:List Vis},(X6 t deep vs).2=0->∀v∈vs,QcW t deep v=0
 | [],_,v,hv=>by cases hv
 | u::vs,h,v,hv=>by
  rw[X6]at h;split at h
  ·rename_i h1;rcases List.mem_cons.1 hv with e|e
   ·rw[e];exact h1
   ·exact Qmt h v e
  grind
end Gx
namespace Gx
open Go Go.RowKit
inductive BT where
 | nd (i:Nat) (es:List TEnt) (ks:List BT)
namespace BT
def idx:BT->Nat|nd i _ _=>i
def es:BT->List TEnt|nd _ es _=>es
def ks:BT->List BT|nd _ _ ks=>ks
end BT
instance:Inhabited BT:=⟨.nd 0 [] []⟩
def Qan(ks:List BT):List Int:=ks.map λk=>(k.idx:Int)
theorem QpS(a b:List BT):Qan (a++b)=Qan a++Qan b:=by simp[Qan]
theorem Qhz(a:BT)(b:List BT):Qan (a::b)=(a.idx:Int)::Qan b:=rfl
theorem Qj8(a:List BT):(Qan a).length=a.length:=by simp[Qan]
mutual
def BT.nodes:BT->List (Nat×Nd)
 | .nd i es ks=>(i,⟨true,es,Qan ks⟩)::nodesL ks
def nodesL:List BT->List (Nat×Nd)
 | []=>[]
 | k::ks=>k.nodes++nodesL ks
end
mutual
def BT.flat:BT->List TEnt
 | .nd _ es ks=>flatL es ks
def flatL:List TEnt->List BT->List TEnt
 | es,[]=>es
 | [],k::ks=>k.flat++flatL [] ks
 | e::es,k::ks=>k.flat++e::flatL es ks
end
theorem QkF(a b:List BT):nodesL (a++b)=nodesL a++nodesL b:=by
 induction a with
 | nil=>rfl
 | cons x a ih=>rw[List.cons_append,nodesL,nodesL,ih,List.append_assoc]
structure RepN(ns:List Nd)(N:List (Nat×Nd)):Prop where
 get:∀p∈N,ns[p.1]?=some p.2
 nd:(N.map Prod.fst).Nodup
 rest:∀i,i<ns.length->i ∉ N.map Prod.fst->nth ns i=⟨false,[],[]⟩
section
variable{ns:List Nd}{N N':List (Nat×Nd)}{i:Nat}{x y:Nd}
theorem RepN.perm(h:RepN ns N)(hp:N.Perm N'):RepN ns N':=
 ⟨λp hp'=>h.get p (hp.mem_iff.2 hp'),(hp.map _).nodup_iff.1 h.nd,λi hi hn=>h.rest i hi λhm=>hn ((hp.map _).mem_iff.1 hm)⟩
theorem RepN.lt(h:RepN ns N){p:Nat×Nd}(hp:p∈N):p.1<ns.length:=(List.getElem?_eq_some_iff.1 (h.get p hp)).1
theorem RepN.at_(h:RepN ns N)(hp:(i,x)∈N):i<ns.length/\nth ns i=x:=⟨h.lt hp,Yi (h.get _ hp)⟩
end
structure Fr where
 i:Nat
 es:List TEnt
 l:List BT
 r:List BT
instance:Inhabited Fr:=⟨⟨0,[],[],[]⟩⟩
def Fr.fill(f:Fr)(T:BT):BT:=.nd f.i f.es (f.l++T::f.r)
def plug:List Fr->BT->BT
 | [],T=>T
 | f::C,T=>plug C (f.fill T)
def Fr.nodes(f:Fr)(h:Nat):List (Nat×Nd):=(f.i,⟨true,f.es,Qan f.l++(h:Int)::Qan f.r⟩)::(nodesL f.l++nodesL f.r)
def Qcy:List Fr->Nat->List (Nat×Nd)
 | [],_=>[]
 | f::C,h=>f.nodes h++Qcy C f.i
theorem Qk6(f:Fr)(T:BT):(f.fill T).nodes.Perm (f.nodes T.idx++T.nodes):=by
 unfold Fr.fill Fr.nodes;rw[BT.nodes,QkF,nodesL,QpS,Qhz,List.cons_append];refine List.Perm.cons _ ?_;rw[List.append_assoc];exact List.Perm.append_left _ List.perm_append_comm
theorem QfX:∀(C:List Fr)(T:BT),(plug C T).nodes.Perm (Qcy C T.idx++T.nodes)
 | [],T=>.refl _
 | f::C,T=>by
  refine(QfX C (f.fill T)).trans ?_;show(Qcy C f.i++(f.fill T).nodes).Perm (f.nodes T.idx++Qcy C f.i++T.nodes);refine((Qk6 f T).append_left _).trans ?_;rw[<-List.append_assoc];exact List.perm_append_comm.append_right _
def Qc0(ns:List Nd)(T:BT):Prop:=RepN ns T.nodes
theorem Qc0.plug{ns:List Nd}{C:List Fr}{T:BT}(h:Qc0 ns (plug C T)):RepN ns (Qcy C T.idx++T.nodes):=RepN.perm h (QfX C T)
theorem Qc0.at_{ns:List Nd}{C:List Fr}{T:BT}(h:Qc0 ns (Gx.plug C T)):T.idx<ns.length/\nth ns T.idx=⟨true,T.es,Qan T.ks⟩:=by
 cases T with
 | nd i es ks=>exact RepN.at_ h.plug (List.mem_append_right _ (by rw[BT.nodes];exact List.mem_cons_self ..))
def Bal(lo hi:Nat):Nat->BT->Prop
 | 0,T=>T.ks=[]/\lo<=T.es.length/\T.es.length<=hi
 | d+1,T=>(T.ks.length=T.es.length+1/\∀k∈T.ks,Bal lo hi d k)/\lo<=T.es.length/\T.es.length<=hi
def Bel(lo hi:Nat):Nat->BT->Prop
 | 0,T=>T.ks=[]
 | d+1,T=>T.ks.length=T.es.length+1/\∀k∈T.ks,Bal lo hi d k
theorem QlO{lo hi d:Nat}{T:BT}:Bal lo hi d T ↔ Bel lo hi d T/\lo<=T.es.length/\T.es.length<=hi:=by
 cases d<;>simp only[Bal,Bel]
theorem Qa2(es:List TEnt):flatL es []=es:=by cases es<;>rfl
def flatA:List TEnt->List BT->List TEnt
 | e::es,k::ks=>k.flat++e::flatA es ks
 | _,_=>[]
theorem BT.idx_mem(T:BT):T.idx∈T.nodes.map Prod.fst:=by
 cases T with
 | nd i es ks=>
  rw[BT.nodes];exact List.mem_cons_self ..
theorem Qc0.root{ns:List Nd}{T:BT}(h:Qc0 ns T):T.idx<ns.length/\nth ns T.idx=⟨true,T.es,Qan T.ks⟩:=Qc0.at_ (C:=[]) h
theorem split_at{α:Type}[Inhabited α]{ks:List α}{p:Nat}(h:p<ks.length):ks=ks.take p++nth ks p::ks.drop (p+1):=by
 have e:nth ks p=ks[p]:=Yi (List.getElem?_eq_getElem h);rw[e,<-List.drop_eq_getElem_cons h,List.take_append_drop]
theorem Qc0.nlen{ns:List Nd}{T:BT}(h:Qc0 ns T):T.nodes.length<=ns.length:=by
 have:=QfL ns.length (T.nodes.map Prod.fst) h.nd λx hx=>by
  obtain⟨p,hp,rfl⟩:=List.mem_map.1 hx;exact RepN.lt h hp
 rwa[List.length_map]at this
def QvZ(rt:Nat)(T:BT):Prop:=T.es=[]->∀k,T.ks=[k]->rt<k.es.length
def QsJ(ns:List Nd):Prop:=(nth ns (ns.length-1)).us=true
def Srt(co:Int)(l:List TEnt):Prop:=l.Pairwise λa b=>QS co a.key b.key<0
theorem Srt.of_asc{co:Int}{l:List TEnt}(h:Asc co l):Srt co l:=List.pairwise_iff_getElem.2 λi j hi hj hij=>by
 have:=h.lt hij hj;rw[show nth l i=l[i]from Yi (List.getElem?_eq_getElem hi),show nth l j=l[j]from Yi (List.getElem?_eq_getElem hj)]at this;exact this
structure Sz(mo rm:Int)(lo hi rt:Nat):Prop where
 emo:mo=(hi:Int)
 erm:rm=(rt:Int)
 elo:lo=hi/2
 hi3:3<=hi
 hi8:hi<=8
 lr:lo<=rt
 rh:rt<=hi
theorem QvN{mo rm:Int}(h:Zn mo rm=0):Sz mo rm (mo.toNat/2) mo.toNat rm.toNat:=by
 have h1:=QfT h;constructor<;>omega
structure VT(co:Int)(lo hi rt d:Nat)(T:BT):Prop where
 idx:T.idx=0
 bel:Bel lo hi d T
 root:T.es.length<=rt
 gap:QvZ rt T
 srt:Srt co T.flat
 ents:∀x∈T.flat,YU co x=0
theorem QiF:∀(es:List TEnt)(ks:List BT),es.Sublist (flatL es ks)
 | es,[]=>by rw[Qa2];exact List.Sublist.refl _
 | [],k::ks=>List.nil_sublist _
 | e::es,k::ks=>by
  rw[flatL];exact((QiF es ks).cons_cons e).trans (List.sublist_append_right _ _)
def btN(ns:List Nd):Nat->Nat->BT
 | 0,i=>.nd i [] []
 | f+1,i=>.nd i (nth ns i).es ((nth ns i).cs.map λc=>btN ns f c.toNat)
theorem Qfp(ns:List Nd)(f i:Nat):(btN ns f i).idx=i:=by cases f<;>rfl
theorem Qkb{ns:List Nd}{f:Nat}:∀{cs:List Int},(∀c∈cs,0<=c)->Qan (cs.map λc=>btN ns f c.toNat)=cs
 | [],_=>rfl
 | c::cs,h=>by
  rw[List.map_cons,Qhz,Qkb λx hx=>h x (List.mem_cons_of_mem _ hx),Qfp,Int.toNat_of_nonneg (h c (List.mem_cons_self ..))]
theorem Z3{α:Type}(g:α->BT):∀(cs:List α),nodesL (cs.map g)=cs.flatMap λc=>(g c).nodes
 | []=>rfl
 | c::cs=>by rw[List.map_cons,nodesL,Z3 g cs,List.flatMap_cons]
theorem QgJ{α β:Type}{f g:α->List β}:∀{l:List α},(∀x∈l,f x=g x)->l.flatMap f=l.flatMap g
 | [],_=>rfl
 | a::l,h=>by rw[List.flatMap_cons,List.flatMap_cons,h a (List.mem_cons_self ..),QgJ λx hx=>h x (List.mem_cons_of_mem _ hx)]
theorem QfS{α:Type}(F:Int->List α):∀(cs:List Int),((List.range cs.length).flatMap λk=>F (cs.getD k 0))=cs.flatMap F
 | []=>rfl
 | c::cs=>by
  rw[List.length_cons,List.range_succ_eq_map,List.flatMap_cons,List.flatMap_map,List.flatMap_cons,<-QfS F cs];rfl
theorem QgD{co:Int}{ns:List Nd}(hT:TOk co ns):∀{A B:List Nat}{c:Nat},Gx.Way ns (c::A)->Gx.Way ns (c::B)->A=B
 | [],[],_,_,_=>rfl
 | [],q::B,c,h,h2=>by
  have h0:c=0:=h;have:=(hT.kid q h2.1.2 _ h2.1.1).1.1;omega
 | p::A,[],c,h,h2=>by
  have h0:c=0:=h2;have:=(hT.kid p h.1.2 _ h.1.1).1.1;omega
 | p::A,q::B,c,h,h2=>by
  have e:p=q:=Qb8 (f:=Nd.cs) hT.once h.1.2 h2.1.2 h.1.1 h2.1.1;subst e;rw[QgD hT h.2 h2.2]
section
variable{co:Int}{ns:List Nd}
theorem QeW(hT:TOk co ns){i:Nat}{P:List Nat}{c:Int}(hw:Gx.Way ns (i::P))(hi:i<ns.length)(hc:c∈(nth ns i).cs):Gx.Way ns (c.toNat::i::P):=by
 refine⟨⟨?_,hi⟩,hw⟩;rw[Int.toNat_of_nonneg (by have:=(hT.kid i hi c hc).1.1;omega)];exact hc
theorem Qes(hT:TOk co ns)(h0:0<ns.length){i:Nat}{P:List Nat}(hw:Gx.Way ns (i::P)):i<ns.length:=Qcr hT h0 hw i (List.mem_cons_self ..)
theorem Qoh(hT:TOk co ns)(h0:0<ns.length):∀{i:Nat}{P:List Nat},Gx.Way ns (i::P)->(nth ns i).us=true
 | i,[],h=>by
  have e:i=0:=h;subst e;cases hu:(nth ns 0).us with
  | true=>rfl
  | false=>
   have:=(hT.free 0 h0 hu).1.1;omega
 | i,p::P,h=>by
  have:=(hT.kid p h.1.2 _ h.1.1).2;exact this
theorem QdR(hT:TOk co ns)(h0:0<ns.length):∀(f i:Nat)(P:List Nat),Gx.Way ns (i::P)->P.length+f=ns.length->∀p∈(btN ns f i).nodes,ns[p.1]?=some p.2/\∃Q R,Gx.Way ns (Q++i::P)/\Q++i::P=p.1::R
 | 0,i,P,hw,hf,p,hp=>by
  have:=YJ hT h0 hw;simp only[List.length_cons]at this;omega
 | f+1,i,P,hw,hf,p,hp=>by
  have hi:=Qes hT h0 hw
  have hk:∀c∈(nth ns i).cs,0<=c:=λc hc=>by
   have:=(hT.kid i hi c hc).1.1;omega
  rw[btN,BT.nodes,Qkb hk,Z3]at hp;rcases List.mem_cons.1 hp with rfl|hp
  ·refine⟨?_,[],P,hw,rfl⟩;have hu:=Qoh hT h0 hw;rw[Xw hi];show some (nth ns i)=some ⟨true,(nth ns i).es,(nth ns i).cs⟩;rw[<-hu]
  ·obtain⟨c,hc,hp⟩:=List.mem_flatMap.1 hp;obtain⟨h1,Q,R,h2,h3⟩:=QdR hT h0 f c.toNat (i::P) (QeW hT hw hi hc) (by simp only[List.length_cons];omega) p hp;refine⟨h1,Q++[c.toNat],R,?_,?_⟩
   ·rw[List.append_assoc];exact h2
   ·rw[List.append_assoc];exact h3
theorem Qn9(hT:TOk co ns)(h0:0<ns.length):∀(f i:Nat)(P:List Nat),Gx.Way ns (i::P)->P.length+f=ns.length->((btN ns f i).nodes.map Prod.fst).Nodup
 | 0,i,P,hw,hf=>by
  have:=YJ hT h0 hw;simp only[List.length_cons]at this;omega
 | f+1,i,P,hw,hf=>by
  have hi:=Qes hT h0 hw;have hlen:(i::P).length+f=ns.length:=by simp only[List.length_cons];omega
  rw[btN,BT.nodes,Z3,List.map_cons,List.map_flatMap];refine List.nodup_cons.2 ⟨λhm=>?_,?_⟩
  ·obtain⟨c,hc,hm⟩:=List.mem_flatMap.1 hm;obtain⟨p,hp,e⟩:=List.mem_map.1 hm;obtain⟨_,Q,R,h2,h3⟩:=QdR hT h0 f c.toNat (i::P) (QeW hT hw hi hc) hlen p hp;rw[h3,e]at h2;have h4:=QgD hT h2 hw;have h5:=congrArg List.length h3;rw[h4]at h5;simp only[List.length_append,List.length_cons]at h5;omega
  ·refine List.pairwise_flatMap.2 ⟨λc hc=>Qn9 hT h0 f c.toNat (i::P) (QeW hT hw hi hc) hlen,?_⟩;refine(QgG (f:=Nd.cs) hT.once hi).imp_of_mem λ{c c'}hc hc' hne x hx y hy exy=>?_;subst exy;obtain⟨p,hp,e⟩:=List.mem_map.1 hx;obtain⟨q,hq,e'⟩:=List.mem_map.1 hy;obtain⟨_,Q,R,h2,h3⟩:=QdR hT h0 f c.toNat (i::P) (QeW hT hw hi hc) hlen p hp;obtain⟨_,Q',R',h2',h3'⟩:=QdR hT h0 f c'.toNat (i::P) (QeW hT hw hi hc') hlen q hq;rw[e]at h3;rw[e']at h3';have h4:=QgD hT (h3▸h2) (h3'▸h2');have h5:Q++c.toNat::i::P=Q'++c'.toNat::i::P:=by rw[h3,h3',h4]
   have h6:Q.length=Q'.length:=by
    have:=congrArg List.length h5;simp only[List.length_append,List.length_cons]at this;omega
   have h7:=(List.append_inj h5 h6).2;have h8:c.toNat=c'.toNat:=(List.cons.inj h7).1;have k1:=(hT.kid i hi c hc).1.1;have k2:=(hT.kid i hi c' hc').1.1;exact hne om
theorem QoZ(hT:TOk co ns)(h0:0<ns.length):∀(f:Nat)(v:Vis)(P:List Nat),Gx.Way ns (v.i::P)->P.length+f=ns.length->(vis ns f v).map Vis.i=(btN ns f v.i).nodes.map Prod.fst
 | 0,v,P,hw,hf=>by
  have:=YJ hT h0 hw;simp only[List.length_cons]at this;omega
 | f+1,v,P,hw,hf=>by
  have hi:=Qes hT h0 hw;rw[vis,btN,BT.nodes,Z3,List.map_cons,List.map_cons,List.map_flatMap,List.map_flatMap];congr 1;rw[<-QfS];refine QgJ λk hk=>?_;have hkl:=List.mem_range.1 hk
  have hc:(nth ns v.i).cs.getD k 0∈(nth ns v.i).cs:=by
   rw[List.getD_eq_getElem?_getD,List.getElem?_eq_getElem hkl];exact List.getElem_mem hkl
  exact QoZ hT h0 f ⟨((nth ns v.i).cs.getD k 0).toNat,v.d+1,loK (nth ns v.i).es k v.lo,hiK (nth ns v.i).es k v.hi⟩ (v.i::P) (QeW hT hw hi hc) (by simp only[List.length_cons];omega)
end
def InB(co:Int)(lo hi:Option (List UInt8))(x:TEnt):Prop:=(∀b,lo=some b->QS co b x.key<0)/\(∀b,hi=some b->QS co x.key b<0)
theorem Qpc{t:Tre}{v:Vis}{x:TEnt}:ZK t v x=true ↔ (∃b,v.lo=some b/\0<=QS t.co b x.key)\/(∃b,v.hi=some b/\0<=QS t.co x.key b):=by
 unfold ZK;cases v.lo<;>cases v.hi<;>simp
theorem Qu5{t:Tre}{v:Vis}{x:TEnt}(h:¬ZK t v x=true):InB t.co v.lo v.hi x:=by
 rw[Qpc]at h;refine⟨λb hb=>?_,λb hb=>?_⟩
 ·rcases Int.lt_or_le (QS t.co b x.key) 0 with h1|h1
  ·exact h1
  ·exact absurd (.inl ⟨b,hb,h1⟩) h
 ·rcases Int.lt_or_le (QS t.co x.key b) 0 with h1|h1
  ·exact h1
  ·exact absurd (.inr ⟨b,hb,h1⟩) h
theorem Qhd{co:Int}{hi:Option (List UInt8)}:∀{es:List TEnt}{ks:List BT}{lo:Option (List UInt8)},ks.length=es.length+1->Srt co es->(∀x∈es,InB co lo hi x) ->
  (∀k,k<ks.length->Srt co (nth ks k).flat/\∀x∈(nth ks k).flat,InB co (loK es k lo) (hiK es k hi) x)->Srt co (flatL es ks)/\∀x∈flatL es ks,InB co lo hi x
 | [],[],_,h,_,_,_=>absurd h (by simp)
 | [],k::k'::ks,_,h,_,_,_=>absurd h (by simp)
 | [],[k],lo,_,_,_,hk=>by
  rw[flatL,flatL,List.append_nil];exact hk 0 (by simp)
 | e::es,[],_,h,_,_,_=>absurd h (by simp)
 | e::es,k::ks,lo,hl,hs,hb,hk=>by
  have hp:=List.pairwise_cons.1 hs;have he:=hb e (List.mem_cons_self ..);have h0:=hk 0 (by simp);have e0:nth (k::ks) 0=k:=rfl;have e1:loK (e::es) 0 lo=lo:=if_neg (Nat.lt_irrefl 0);have e2:hiK (e::es) 0 hi=some e.key:=if_pos (by simp);rw[e0,e1,e2]at h0
  have ih:=Qhd (co:=co) (hi:=hi) (es:=es) (ks:=ks) (lo:=some e.key) (by simpa using hl) hp.2 (λx hx=>⟨λb hb'=>by injection hb' with hb';subst hb';exact hp.1 x hx,(hb x (List.mem_cons_of_mem _ hx)).2⟩) (λq hq=>by
   have h1:=hk (q+1) (by simpa using hq);have e3:nth (k::ks) (q+1)=nth ks q:=rfl
   have e4:loK (e::es) (q+1) lo=loK es q (some e.key):=by
    unfold loK;rw[if_pos om];rcases Nat.eq_zero_or_pos q with h9|h9
    ·subst h9;rfl
    ·rw[if_pos h9];obtain⟨r,rfl⟩:∃r,q=r+1:=⟨q-1,om⟩;rfl
   have e5:hiK (e::es) (q+1) hi=hiK es q hi:=by
    unfold hiK
    by_cases h9:q<es.length
    ·rw[if_pos h9,if_pos (by simpa using h9)];rfl
    ·rw[if_neg h9,if_neg (by simpa using h9)]
   rw[e3,e4,e5]at h1;exact h1)
  rw[flatL];have hge:∀x∈flatL es ks,QS co e.key x.key<0:=λx hx=>(ih.2 x hx).1 _ rfl;have hle:∀x∈k.flat,QS co x.key e.key<0:=λx hx=>(h0.2 x hx).2 _ rfl;refine⟨List.pairwise_append.2 ⟨h0.1,List.pairwise_cons.2 ⟨hge,ih.1⟩,λx hx y hy=>?_⟩,λx hx=>?_⟩
  ·rcases List.mem_cons.1 hy with rfl|hy
   ·exact hle x hx
   ·exact Qbr (hle x hx) (hge y hy)
  ·rcases List.mem_append.1 hx with hx|hx
   ·exact⟨(h0.2 x hx).1,λb hb'=>Qbr (hle x hx) (he.2 b hb')⟩
   ·rcases List.mem_cons.1 hx with rfl|hx
    ·exact he
    ·exact⟨λb hb'=>Qbr (he.1 b hb') (hge x hx),(ih.2 x hx).2⟩
theorem QkP{t:Tre}{deep:Int}{v:Vis}(h:QcW t deep v=0):¬ZF t v=true/\(∀x∈(nth t.ns v.i).es,InB t.co v.lo v.hi x)/\((nth t.ns v.i).cs.length=0->v.d=deep+1):=by
 rw[QbJ]at h;split at h
 ·exact absurd h (by decide)
 ·rename_i h1;split at h
  ·exact absurd h (by decide)
  ·rename_i h2;split at h
   ·exact absurd h (by decide)
   ·rename_i h3;refine⟨h1,λx hx=>Qu5 λh4=>h2 ?_,λh4=>?_⟩
    ·unfold Zk;exact List.any_eq_true.2 ⟨x,hx,h4⟩
    ·rcases Int.lt_trichotomy v.d (deep+1)with h5|h5|h5
     ·exact absurd ⟨h4,om⟩ h3
     ·exact h5
     ·exact absurd ⟨h4,om⟩ h3
theorem QmO{t:Tre}(h:(X0 t t.ns.length 0 []).2=0){i:Nat}(hi:i<t.ns.length)(hu:(nth t.ns i).us=true):((nth t.ns i).es.length:Int)<=YL t.mo t.rm i:=by
 obtain⟨s,hs⟩:=(Qf0 (f:=t.ns.length) (i:=0) om h List.nodup_nil).1 i (Nat.zero_le _) hi;rw[Qhi t i hu]at hs;have h4:nE4 t i s=0:=hs;unfold nE4 at h4;split at h4
 ·rename_i h3;have h2:=Qs4 t i h3;unfold nE2 at h2;split at h2
  ·rename_i h1;unfold nE1 at h1;split at h1
   ·assumption
   ·exact absurd h1 (by decide)
  ·rename_i h1;exact absurd h2 h1
 ·rename_i h3;exact absurd h4 h3
theorem Ql7{t:Tre}{deep:Int}{lo hi rt:Nat}(hz:Sz t.mo t.rm lo hi rt)(hT:TOk t.co t.ns)(h0:0<t.ns.length)(hmost:∀i,i<t.ns.length->(nth t.ns i).us=true->((nth t.ns i).es.length:Int)<=YL t.mo t.rm i):∀(f:Nat)(v:Vis)(P:List Nat),Gx.Way t.ns (v.i::P)->P.length+f=t.ns.length->(∀u∈vis t.ns f v,QcW t deep u=0) ->
  ∃d:Nat,v.d+(d:Int)=deep+1/\Bel lo hi d (btN t.ns f v.i)/\Srt t.co (btN t.ns f v.i).flat/\∀x∈(btN t.ns f v.i).flat,InB t.co v.lo v.hi x
 | 0,v,P,hw,hf,_=>by
  have:=YJ hT h0 hw;simp only[List.length_cons]at this;omega
 | f+1,v,P,hw,hf,hE=>by
  have hi':=Qes hT h0 hw;have hv:=QkP (hE v (by rw[vis];exact List.mem_cons_self ..));have hasc:=Srt.of_asc (hT.asc v.i hi');rw[btN,BT.flat];rcases hT.shape v.i hi' with hs|hs
  ·have hcs:(nth t.ns v.i).cs=[]:=List.eq_nil_of_length_eq_zero hs;rw[hcs,List.map_nil,Qa2];exact⟨0,by have:=hv.2.2 hs;simpa using this,rfl,hasc,hv.2.1⟩
  ·have key:∀k,k<(nth t.ns v.i).cs.length->∃d:Nat,v.d+1+(d:Int)=deep+1/\Bal lo hi d (btN t.ns f ((nth t.ns v.i).cs.getD k 0).toNat)/\Srt t.co (btN t.ns f ((nth t.ns v.i).cs.getD k 0).toNat).flat/\∀x∈(btN t.ns f ((nth t.ns v.i).cs.getD k 0).toNat).flat,InB t.co (loK (nth t.ns v.i).es k v.lo) (hiK (nth t.ns v.i).es k v.hi) x:=λk hk=>by
    have hc:(nth t.ns v.i).cs.getD k 0∈(nth t.ns v.i).cs:=by
     rw[List.getD_eq_getElem?_getD,List.getElem?_eq_getElem hk];exact List.getElem_mem hk
    have hwk:=QeW hT hw hi' hc
    have hmem:∀u∈vis t.ns f (XH t.ns v k),u∈vis t.ns (f+1) v:=λu hu=>by
     rw[vis];exact List.mem_cons_of_mem _ (List.mem_flatMap.2 ⟨k,List.mem_range.2 hk,hu⟩)
    obtain⟨d,h1,h2,h3,h4⟩:=Ql7 hz hT h0 hmost f (XH t.ns v k) (v.i::P) hwk (by simp only[List.length_cons];omega) λu hu=>hE u (hmem u hu);have hki:=Qes hT h0 hwk;have hku:=Qoh hT h0 hwk;have hk1:=(hT.kid v.i hi' _ hc).1.1
    obtain⟨f',rfl⟩:∃f',f=f'+1:=by
     cases f with
     | zero=>
      have:=YJ hT h0 hwk;simp only[List.length_cons]at this;omega
     | succ f'=>exact⟨f',rfl⟩
    have hkv:=QkP (hE (XH t.ns v k) (hmem _ (by rw[vis];exact List.mem_cons_self ..)));refine⟨d,h1,QlO.2 ⟨h2,?_,?_⟩,h3,h4⟩
    ·have hg:=hkv.1;unfold ZF at hg;simp only[Bool.and_eq_true,Bool.or_eq_true,decide_eq_true_eq,not_and,not_or]at hg;have h5:=(hg (show 0<(XH t.ns v k).i by show 0<((nth t.ns v.i).cs.getD k 0).toNat;omega)).1;have e1:=hz.emo;have e2:=hz.elo;show lo<=(nth t.ns ((nth t.ns v.i).cs.getD k 0).toNat).es.length;have h6:¬((nth t.ns ((nth t.ns v.i).cs.getD k 0).toNat).es.length:Int)<t.mo/2:=h5;omega
    ·have h5:=hmost _ hki hku;unfold YL at h5;rw[if_neg om]at h5;have e1:=hz.emo;show(nth t.ns ((nth t.ns v.i).cs.getD k 0).toNat).es.length<=hi;omega
   obtain⟨d,hd,_⟩:=key 0 om
   have hnk:∀k,k<(nth t.ns v.i).cs.length->nth ((nth t.ns v.i).cs.map λc=>btN t.ns f c.toNat) k=btN t.ns f ((nth t.ns v.i).cs.getD k 0).toNat:=λk hk=>Yi (by
    rw[List.getElem?_map,List.getElem?_eq_getElem hk,List.getD_eq_getElem?_getD,List.getElem?_eq_getElem hk];rfl)
   have hfl:=Qhd (co:=t.co) (hi:=v.hi) (es:=(nth t.ns v.i).es) (ks:=(nth t.ns v.i).cs.map λc=>btN t.ns f c.toNat) (lo:=v.lo) (by rw[List.length_map];exact hs) hasc hv.2.1 λk hk=>by
    rw[List.length_map]at hk;rw[hnk k hk];obtain⟨_,_,_,h3,h4⟩:=key k hk;exact⟨h3,h4⟩
   refine⟨d+1,by simp only[Int.natCast_add,Int.natCast_one];omega,⟨by show(List.map _ _).length=_;rw[List.length_map];exact hs,λk hk=>?_⟩,hfl.1,hfl.2⟩;obtain⟨c,hc,rfl⟩:=List.mem_map.1 hk;obtain⟨q,hq,rfl⟩:=List.getElem_of_mem hc;obtain⟨d2,hd2,h2,_⟩:=key q hq;have e:d2=d:=om
   subst e;rw[List.getD_eq_getElem?_getD,List.getElem?_eq_getElem hq]at h2;exact h2
mutual
theorem Qdk:∀(T:BT)(x:TEnt),x∈T.flat->∃p∈T.nodes,x∈p.2.es
 | .nd i es ks,x,h=>by
  rw[BT.flat]at h;rw[BT.nodes];rcases flat_nodesL es ks x h with h|⟨p,hp,hx⟩
  ·exact⟨_,List.mem_cons_self ..,h⟩
  ·exact⟨p,List.mem_cons_of_mem _ hp,hx⟩
theorem flat_nodesL:∀(es:List TEnt)(ks:List BT)(x:TEnt),x∈flatL es ks->x∈es\/∃p∈nodesL ks,x∈p.2.es
 | es,[],x,h=>by
  rw[Qa2]at h;exact .inl h
 | [],k::ks,x,h=>by
  rw[flatL]at h;rw[nodesL];rcases List.mem_append.1 h with h|h
  ·obtain⟨p,hp,hx⟩:=Qdk k x h;exact .inr ⟨p,List.mem_append_left _ hp,hx⟩
  ·rcases flat_nodesL [] ks x h with h|⟨p,hp,hx⟩
   ·exact .inl h
   ·exact .inr ⟨p,List.mem_append_right _ hp,hx⟩
 | e::es,k::ks,x,h=>by
  rw[flatL]at h;rw[nodesL];rcases List.mem_append.1 h with h|h
  ·obtain⟨p,hp,hx⟩:=Qdk k x h;exact .inr ⟨p,List.mem_append_left _ hp,hx⟩
  ·rcases List.mem_cons.1 h with rfl|h
   ·exact .inl (List.mem_cons_self ..)
   ·rcases flat_nodesL es ks x h with h|⟨p,hp,hx⟩
    ·exact .inl (List.mem_cons_of_mem _ h)
    ·exact .inr ⟨p,List.mem_append_right _ hp,hx⟩
end
theorem Quw{t:Tre}(h:(Yb t).2=0):∃T d,Qc0 t.ns T/\VT t.co (t.mo.toNat/2) t.mo.toNat t.rm.toNat d T/\Sz t.mo t.rm (t.mo.toNat/2) t.mo.toNat t.rm.toNat/\QsJ t.ns:=by
 obtain⟨hc,hs,h0,hl,hn,hsh,_⟩:=QkO h;have hT:=Qfu hn;have hz:=QvN hs
 have hop:Qap t.ns ((Yy t.ns).map Vis.i) t.ns.length 0=none:=by
  cases e:Qap t.ns ((Yy t.ns).map Vis.i) t.ns.length 0 with
  | none=>rfl
  | some i=>
   rw[Qdv e]at hsh;have h21:(21:Int)=0:=hsh;exact absurd h21 (by decide)
 rw[Qdt hop]at hsh;have hall:=Qmt hsh;have hmost:=λi hi hu=>QmO (t:=t) hn (i:=i) hi hu;have hw:Gx.Way t.ns [0]:=rfl;obtain⟨d,hd,hB,hS,_⟩:=Ql7 hz hT h0 hmost t.ns.length Z4 [] hw (by simp) hall;have hvb:=QoZ hT h0 t.ns.length Z4 [] hw (by simp);have Yc:=QdR hT h0 t.ns.length 0 [] hw (by simp)
 have hR:Qc0 t.ns (btN t.ns t.ns.length 0):=by
  refine⟨λp hp=>(Yc p hp).1,Qn9 hT h0 t.ns.length 0 [] hw (by simp),λi hi hm=>?_⟩;cases hu:(nth t.ns i).us with
  | true=>
   have:=Qjv hop i (Nat.zero_le _) om hu;exact absurd (hvb▸this) hm
  | false=>
   have h1:=hT.free i hi hu;have h2:=h1.2;cases hnd:nth t.ns i with
   | mk us es cs=>
    rw[hnd]at h2 hu;simp only at h2 hu;rw[hu,h2.1,h2.2]
 have hroot:=hR.root;rw[Qfp]at hroot;have hes:(btN t.ns t.ns.length 0).es=(nth t.ns 0).es:=by rw[hroot.2]
 have hu0:(nth t.ns 0).us=true:=by rw[hroot.2]
 refine⟨_,d,hR,⟨Qfp _ _ _,hB,?_,λe k hk=>?_,hS,λx hx=>?_⟩,hz,?_⟩
 ·have h1:=hmost 0 h0 hu0;unfold YL at h1;rw[if_pos rfl]at h1;rw[hes];have:=hz.erm;omega
 ·obtain⟨f,hf⟩:∃f,t.ns.length=f+1:=⟨t.ns.length-1,om⟩;have hkm:k∈(btN t.ns t.ns.length 0).ks:=by rw[hk];exact List.mem_cons_self ..
  have hk':=hkm;rw[hf]at hk';obtain⟨c,hcm,rfl⟩:=List.mem_map.1 (show k∈(nth t.ns 0).cs.map λc=>btN t.ns f c.toNat from hk');have hwk:=QeW hT hw h0 hcm;have hki:=Qes hT h0 hwk
  obtain⟨f',rfl⟩:∃f',f=f'+1:=by
   cases f with
   | zero=>
    have:=YJ hT h0 hwk;simp only[List.length_cons,List.length_nil]at this;omega
   | succ f'=>exact⟨f',rfl⟩
  have hk1:=(hT.kid 0 h0 c hcm).1.1
  have hgv:∃v∈Yy t.ns,v.i=c.toNat:=by
   have:c.toNat∈(Yy t.ns).map Vis.i:=by
    show c.toNat∈(vis t.ns t.ns.length Z4).map Vis.i;rw[hvb,hf];rw[show Z4.i=0 from rfl,btN,BT.nodes,Z3,List.map_cons];refine List.mem_cons_of_mem _ (List.mem_map.2 ?_);have hid:=(btN t.ns (f'+1) c.toNat).idx_mem;rw[Qfp]at hid;obtain⟨p,hp,ep⟩:=List.mem_map.1 hid;exact⟨p,List.mem_flatMap.2 ⟨c,hcm,hp⟩,ep⟩
   obtain⟨v,hv,e⟩:=List.mem_map.1 this;exact⟨v,hv,e⟩
  obtain⟨v,hv,hvi⟩:=hgv;have hg:=(QkP (hall v hv)).1;unfold ZF at hg;simp only[Bool.and_eq_true,Bool.or_eq_true,decide_eq_true_eq,not_and,not_or]at hg;have h5:=(hg om).2 ⟨by rw[<-hes,e];rfl,by rw[hvi,Int.toNat_of_nonneg om];exact hcm⟩;rw[hvi]at h5;show t.rm.toNat<(nth t.ns c.toNat).es.length;have:=hz.erm;omega
 ·obtain⟨p,hp,hx⟩:=Qdk _ x hx;have h1:=RepN.at_ (i:=p.1) (x:=p.2) hR hp;exact hT.ents p.1 h1.1 x (by rw[h1.2];exact hx)
 ·unfold QsJ;cases hu:(nth t.ns (t.ns.length-1)).us with
  | true=>rfl
  | false=>
   have:=(hT.free (t.ns.length-1) om hu).1.2;omega
section
variable{es:List TEnt}{ks:List BT}{k:Nat}
def YN(es:List TEnt)(ks:List BT):Nat->List TEnt
 | 0=>[]
 | k+1=>(YN es ks k++if 0<ks.length then(nth ks k).flat else[])++if k<es.length then[nth es k]else[]
def Qaq(es:List TEnt)(ks:List BT)(k:Nat):List TEnt:=YN es ks k++if 0<ks.length then(nth ks k).flat else[]
theorem Qbh:YN es ks (k+1)=Qaq es ks k++if k<es.length then[nth es k]else[]:=rfl
theorem Qae(h:k<es.length):YN es ks (k+1)=Qaq es ks k++[nth es k]:=by rw[Qbh,if_pos h]
theorem QcB(h:¬k<es.length):YN es ks (k+1)=Qaq es ks k:=by rw[Qbh,if_neg h,List.append_nil]
theorem Y7(h:0<ks.length):Qaq es ks k=YN es ks k++(nth ks k).flat:=by rw[Qaq,if_pos h]
theorem QcE(h:¬0<ks.length):Qaq es ks k=YN es ks k:=by rw[Qaq,if_neg h,List.append_nil]
theorem QfE{α:Type}[Inhabited α]{l:List α}{i:Nat}(h:i<l.length):l.drop i=nth l i::l.drop (i+1):=by
 rw[List.drop_eq_getElem_cons h,show nth l i=l[i]from Yi (List.getElem?_eq_getElem h)]
theorem Qhv:∀{k:Nat},k<=es.length->YN es [] k=es.take k
 | 0,_=>by rw[YN,List.take_zero]
 | k+1,h=>by
  rw[Qae om,QcE (by simp),Qhv om,List.take_add_one,Xw om];rfl
theorem Qhb(h:ks.length=es.length+1):∀{k:Nat},k<=es.length->YN es ks k++flatL (es.drop k) (ks.drop k)=flatL es ks
 | 0,_=>by rw[YN,List.drop_zero,List.drop_zero,List.nil_append]
 | k+1,hk=>by
  have h1:=Qhb (k:=k) h om;rw[QfE (l:=es) (i:=k) om,QfE (l:=ks) (i:=k) om,flatL]at h1;rw[Qae om,Y7 om,<-h1];simp
theorem Qbj(h:ks=[]\/ks.length=es.length+1):YN es ks (es.length+1)=flatL es ks:=by
 rcases h with h|h
 ·subst h;rw[QcB om,QcE (by simp),Qhv (Nat.le_refl _),List.take_length,Qa2]
 ·have h1:=Qhb (k:=es.length) h (Nat.le_refl _);rw[QfE (l:=ks) (i:=es.length) om,List.drop_length,flatL,List.drop_of_length_le om,flatL]at h1;rw[QcB om,Y7 om,<-h1,List.append_nil]
theorem Qjt:(YN es ks k).length<=(Qaq es ks k).length:=by
 unfold Qaq;rw[List.length_append];omega
theorem Qgb:(Qaq es ks k).length<=(YN es ks (k+1)).length:=by
 rw[Qbh,List.length_append];omega
theorem Qsa{m:Nat}(h:k<=m):(YN es ks k).length<=(YN es ks m).length:=by
 obtain⟨d,rfl⟩:=Nat.exists_eq_add_of_le h
 clear h
 induction d with
 | zero=>exact Nat.le_refl _
 | succ d ih=>exact Nat.le_trans ih (Nat.le_trans Qjt Qgb)
theorem Qco(h:ks=[]\/ks.length=es.length+1)(hk:k<=es.length+1):(YN es ks k).length<=(flatL es ks).length:=by
 rw[<-Qbj h];exact Qsa hk
theorem Qgh(h:ks=[]\/ks.length=es.length+1)(hk:k<=es.length):(Qaq es ks k).length<=(flatL es ks).length:=Nat.le_trans Qgb (Qco h om)
theorem Qmu(h:ks=[]\/ks.length=es.length+1){k:Nat}(hk:k<=es.length+1):∃B,flatL es ks=YN es ks k++B:=by
 rw[<-Qbj h];obtain⟨d,hd⟩:=Nat.exists_eq_add_of_le hk;rw[hd]
 clear hd hk h
 induction d with
 | zero=>exact⟨[],by rw[List.append_nil];rfl⟩
 | succ d ih=>
  obtain⟨B,hB⟩:=ih;rw[show k+(d+1)=(k+d)+1 from rfl,Qbh,Qaq,hB,List.append_assoc,List.append_assoc];exact⟨_,rfl⟩
theorem Ql1(h:ks=[]\/ks.length=es.length+1){k:Nat}(hk:k<=es.length):∃B,flatL es ks=Qaq es ks k++B:=by
 obtain⟨B,hB⟩:=Qmu h (k:=k+1) om;rw[hB,Qbh,List.append_assoc];exact⟨_,rfl⟩
theorem Qu8(h:ks=[]\/ks.length=es.length+1){k:Nat}(hk:k<es.length):nth es k∈flatL es ks:=(QiF es ks).subset (Qt hk)
theorem Qrs(h:ks.length=es.length+1){k:Nat}(hk:k<ks.length){x:TEnt}(hx:x∈(nth ks k).flat):x∈flatL es ks:=by
 obtain⟨B,hB⟩:=Ql1 (.inr h) (k:=k) om;rw[hB,Y7 om];exact List.mem_append_left _ (List.mem_append_right _ hx)
def NIn(ns:List Nd)(T:BT):Prop:=∀p∈T.nodes,p.1<ns.length/\nth ns p.1=p.2
theorem Qc0.nin{ns:List Nd}{T:BT}(h:Qc0 ns T):NIn ns T:=λp hp=>RepN.at_ (i:=p.1) (x:=p.2) h hp
theorem NIn.root{ns:List Nd}{i:Nat}(h:NIn ns (.nd i es ks)):i<ns.length/\nth ns i=⟨true,es,Qan ks⟩:=by
 refine h (i,⟨true,es,Qan ks⟩) ?_;rw[BT.nodes];exact List.mem_cons_self ..
theorem Qgz{k:BT}{p:Nat×Nd}:∀{ks:List BT},k∈ks->p∈k.nodes->p∈nodesL ks
 | [],h,_=>(nomatch h)
 | x::ks,h,hp=>by
  rw[nodesL];rcases List.mem_cons.1 h with rfl|h
  ·exact List.mem_append_left _ hp
  ·exact List.mem_append_right _ (Qgz h hp)
theorem QqI{ks:List BT}{k:Nat}(h:k<ks.length):nth ks k∈ks:=Qt h
theorem NIn.kid{ns:List Nd}{i:Nat}(h:NIn ns (.nd i es ks))(hk:k<ks.length):NIn ns (nth ks k):=λp hp=>h p (by
 rw[BT.nodes];exact List.mem_cons_of_mem _ (Qgz (QqI hk) hp))
theorem Qlx(hk:k<ks.length):(Qan ks).getD k 0=((nth ks k).idx:Int):=by
 unfold Qan;rw[List.getD_eq_getElem?_getD,List.getElem?_map,Xw hk];rfl
theorem Ql3{lo hi d i:Nat}(h:Bel lo hi (d+1) (.nd i es ks))(hk:k<ks.length):Bel lo hi d (nth ks k):=(QlO.1 (h.2 _ (QqI hk))).1
theorem QsQ{lo hi i:Nat}(h:Bel lo hi 0 (.nd i es ks)):ks=[]:=h
end
mutual
theorem Qdh(m:Nat):∀T:BT,(∀p∈T.nodes,p.2.es.length<=m)->T.flat.length<=T.nodes.length*m
 | .nd i es ks,h=>by
  rw[BT.nodes]at h ⊢;have h1:=flatL_bound m es ks λp hp=>h p (List.mem_cons_of_mem _ hp);have h2:=h (i,⟨true,es,Qan ks⟩) (List.mem_cons_self ..);simp only at h2;rw[BT.flat,List.length_cons,Nat.succ_mul];omega
theorem flatL_bound(m:Nat):∀(es:List TEnt)(ks:List BT),(∀p∈nodesL ks,p.2.es.length<=m)->(flatL es ks).length<=(nodesL ks).length*m+es.length
 | es,[],_=>by
  rw[Qa2];omega
 | [],k::ks,h=>by
  rw[nodesL]at h ⊢;have h1:=Qdh m k λp hp=>h p (List.mem_append_left _ hp);have h2:=flatL_bound m [] ks λp hp=>h p (List.mem_append_right _ hp);rw[flatL,List.length_append,List.length_append,Nat.add_mul];omega
 | e::es,k::ks,h=>by
  rw[nodesL]at h ⊢;have h1:=Qdh m k λp hp=>h p (List.mem_append_left _ hp);have h2:=flatL_bound m es ks λp hp=>h p (List.mem_append_right _ hp);rw[flatL,List.length_append,List.length_append,Nat.add_mul,List.length_cons,List.length_cons];omega
end
theorem Qc0.flat_len{ns:List Nd}{T:BT}{m:Nat}(h:Qc0 ns T)(hm:∀i,i<ns.length->(nth ns i).es.length<=m):T.flat.length<=ns.length*m:=by
 refine Nat.le_trans (Qdh m T λp hp=>?_) (Nat.mul_le_mul_right m h.nlen);have h1:=h.nin p hp;rw[<-h1.2];exact hm _ h1.1
theorem QlP{es:List TEnt}{ks:List BT}{k:Nat}(h:ks.length=es.length+1)(hk:k<ks.length):(nth ks k).flat.length<=(flatL es ks).length:=by
 have h1:=congrArg List.length (Y7 (es:=es) (ks:=ks) (k:=k) om);rw[List.length_append]at h1;have h2:=Qgh (es:=es) (ks:=ks) (k:=k) (.inr h) om;omega
end Gx
namespace Go.Proofs
open Go Go.RowKit Gx
attribute [local irreducible] Go.Calls Gx.S Gx.O Gx.D Gx.OpP Gx.OpQ Gx.OpH
set_option maxRecDepth 20000
theorem QpO:QJ Tryz.prog 151=true:=by kernel_rfl
instance:TFn Tryz.prog 151:=⟨QpO⟩
theorem QsX(w:World)(co mo rm:Int)(a:Option Addr)(cap:Nat)(L:List LNd)(i:Nat)(es:List TEnt)(ks:List BT)(hs:Nt w [] a L)(hl:L.length<=1000)(hi:i<L.length)(hn:nth (pln L) i=⟨true,es,Qan ks⟩)(hsh:ks=[]\/ks.length=es.length+1)(hfl:(flatL es ks).length<=10000)(ih:∀(w1:World)(k:Nat),k<ks.length->Nt w1 [] a L->Calls Tryz.prog 151 #[.agg #[.int .i64 co,.int .i64 mo,.int .i64 rm,.slice a L.length cap],.int .i64 ((nth ks k).idx:Int)] w1 λen w'=>∃g:Option Addr×Nat,en=.returned (.slice g.1 ((nth ks k).flat).length g.2)/\True/\HS w1 [] [.own (.slice g.1 ((nth ks k).flat).length g.2) 84 2 ((nth ks k).flat).length (((nth ks k).flat).flatMap TEnt.vals)] w'):CE 151 #[.agg #[.int .i64 co,.int .i64 mo,.int .i64 rm,.slice a L.length cap],.int .i64 (i:Int)] w [] (λg:Option Addr×Nat=>.slice g.1 ((flatL es ks)).length g.2) (λg=>True) λg=>[.own (.slice g.1 ((flatL es ks)).length g.2) 84 2 ((flatL es ks)).length (((flatL es ks)).flatMap TEnt.vals)]:=by
 rw[QR hi]at hn
 have hes:(nth L i).es=es:=congrArg Nd.es hn
 have hcs:(nth L i).cs=Qan ks:=congrArg Nd.cs hn
 have hesl:(nth L i).es.length=es.length:=by rw[hes]
 have hcsl:(nth L i).cs.length=ks.length:=by rw[hcs,Qj8]
 have hel:es.length<=10000:=Nat.le_trans (QiF es ks).length_le hfl
 have hkl:ks.length<=10001:=by rcases hsh with h|h;rw[h];exact Nat.zero_le _;omega
 refine eN2 Tryz.func151 Tryz.ntmps151 ?_
 refine aU2 ?_
 refine oBx λb1 _=>?_
 refine aU7 ?_
 refine o_p (Qa rfl rfl rfl XC (i) om om (Rw.some hs.1 om)) rfl (o_q (Qq _ rfl rfl ZR rfl (Rw.rd hs.1 hi)) rfl (oAl (λb2 _=>?_) YS))
 refine QbX ?_
 refine Qp (α:=Nat×(Option Addr×Nat)) [6,7,13,14,15,16,17,18,19,20,21,22,23,24,25,26,27,28,29,30,31,32,33,34,35,36,37,38,39,40,41,42,43,44,45] (λx=>[(7,.int .i64 (x.1:Int)),(6,.slice x.2.1 (YN es ks x.1).length x.2.2)]) (λx=>HS w [] [.blk b1 24 4 [.int .i64 co,.int .i64 mo,.int .i64 rm,.slice a L.length cap],.blk b2 127 3 (nth L i).vals,.own (.slice x.2.1 (YN es ks x.1).length x.2.2) 84 2 (YN es ks x.1).length ((YN es ks x.1).flatMap TEnt.vals)]) (λx=>x.1<=es.length+1) (λx=>es.length+1-x.1) (0,(none,0)) (Nat.zero_le _) aSx (λw h=>(h.own_nil 84 2).ent aEt) (λ⟨k,ga,gc⟩hk1=>?_)
 dsimp only
 simp only[]at hk1
 have hm1:=Qco (k:=k) hsh hk1
 refine aU9 ?_
 refine sCd rfl (λh3=>?_) λh3=>?_
 ·have hke:k<=es.length:=by have hq:=h3;omega
  have hm2:=Qgh hsh hke
  have hm3:=Qco (k:=k+1) hsh om
  refine Qab ?_
  refine Xy (α:=Option Addr×Nat) [6,24,25,26,27,28,29,30,31,32] (λx=>[(6,.slice x.1 (Qaq es ks k).length x.2)]) (λx=>HS w [] [.blk b1 24 4 [.int .i64 co,.int .i64 mo,.int .i64 rm,.slice a L.length cap],.blk b2 127 3 (nth L i).vals,.own (.slice x.1 (Qaq es ks k).length x.2) 84 2 (Qaq es ks k).length ((Qaq es ks k).flatMap TEnt.vals)]) (λ_=>True) ?_ ?_
  ·skip
   refine sCd rfl (λh4=>?_) λh4=>?_
   ·have hk0:0<ks.length:=by have hq:=h4;omega
    have hkk:k<ks.length:=by rcases hsh with h|h;rw[h]at hk0;exact absurd hk0 (by decide);omega
    have hm4:=congrArg List.length (Y7 (es:=es) (k:=k) hk0)
    rw[List.length_append]at hm4
    refine QH [8] mixed ?_
    refine dP 0 ?_
    refine dLn 1 [[7]] ?_
    refine dFa 2 ?_
    refine dLd 3 [[7,6,5]] ?_
    refine dP 4 ?_
    refine dV 5 rfl (Qa rfl rfl rfl Q1 (k) om om (Rw.some (hs.cs hi) om)) (dQ 6 [[7]] rfl (Qb rfl rfl Zh (((hs.cs hi).rdj 0 (i:=k) om rfl))) (Qz (show _=Value.int .i64 ((nth ks k).idx:Int)from congrArg (Value.int .i64) (by rw[hcs];exact Qlx hkk)) (dH 7 rfl (QaJ rfl QpO rfl (λw1 h1=>ih w1 k hkk (hs.later h1.nil))) (λ⟨gu,gv⟩_=>dBa ?_))))
    refine dH 8 rfl (QF ((nth ks k).flat.flatMap TEnt.vals) rfl rfl rfl QG Tryz.underlying124 Qah rfl aPk (λw h=>Rw.src ev2 (HS.rw_own ev2 h aPk rfl) (HS.refl w [])) (QP ev2 _) (Qai ev1 _) om (by simp only[maxLen];omega)) (λb5 _=>dTu [] ?_)
    refine dP 9 ?_
    refine dNi ?_
    exact Qo b5 trivial (by rw[Y7 hk0,List.length_append];exact aSx) (λw h=>by rw[Y7 hk0,List.length_append,List.flatMap_append];exact h.ent aEt)
   have hk0:¬0<ks.length:=by have hq:=h4;omega
   refine aU ?_
   exact Qo (ga,gc) trivial (by rw[QcE hk0];exact aSx) (λw h=>by rw[QcE hk0];exact h.ent aEt)
  intro⟨gb,gf⟩ _
  refine aU8 ?_
  refine Qd (L':=[(0,_),(1,_),(2,_),(4,_),(5,_),(6,_),(7,_),(8,_),(9,_),(10,_),(11,_),(12,_),(37,_)]) aSx (λ_ h=>h) ?_
  refine Xy (α:=Option Addr×Nat) [6,38,39,40,41,42,43,44,45] (λx=>[(6,.slice x.1 (YN es ks (k+1)).length x.2)]) (λx=>HS w [] [.blk b1 24 4 [.int .i64 co,.int .i64 mo,.int .i64 rm,.slice a L.length cap],.blk b2 127 3 (nth L i).vals,.own (.slice x.1 (YN es ks (k+1)).length x.2) 84 2 (YN es ks (k+1)).length ((YN es ks (k+1)).flatMap TEnt.vals)]) (λ_=>True) ?_ ?_
  ·skip
   refine sCd rfl (λh6=>?_) λh6=>?_
   ·have hke2:k<es.length:=by have hq:=h6;omega
    have hm5:=congrArg List.length (Qae (es:=es) (ks:=ks) hke2)
    rw[List.length_append]at hm5
    refine aU5 ?_
    refine o_p (Qa rfl rfl rfl QG (k) om om (Rw.some (hs.es hi) om)) rfl (o_q (Qq _ rfl rfl Qc8 rfl (Rw.rd (hs.es hi) om)) rfl (Qu (show _=Value.agg (TEnt.vals (nth es k)).toArray from by rw[hes]) (o_h (Ql (cs:=[_,_]) rfl rfl QG Qah rfl rfl rfl) rfl (λb7 _=>o_h (QF (TEnt.vals (nth es k)) rfl rfl rfl QG Tryz.underlying124 Qah rfl aPk (Xk aPk) rfl (ev1 _) (by simp only[List.length_singleton]at hm5;omega) (by simp only[maxLen];omega)) rfl (λb8 _=>aU2 ?_)))))
    exact Qo b8 trivial (by rw[Qae hke2,List.length_append];exact aSx) (λw h=>by rw[Qae hke2,List.length_append,List.flatMap_append];simp only[List.flatMap_cons,List.flatMap_nil,List.append_nil];exact h.ent aEt)
   have hke2:¬k<es.length:=by have hq:=h6;omega
   refine aU ?_
   exact Qo (gb,gf) trivial (by rw[QcB hke2];exact aSx) (λw h=>by rw[QcB hke2];exact h.ent aEt)
  intro⟨gd,ge⟩ _
  refine aT4 ?_
  refine aU2 ?_
  exact sBk (k+1,(gd,ge)) (by(try simp only[]);omega) (by(try simp only[]);omega)
 refine Qg rfl ?_
 refine aU5 ?_
 exact rT rfl rfl (λw' h'=>⟨(ga,gc),by have hke:k=es.length+1:=om;simp only[QA];rw[<-Qbj hsh,<-hke],trivial,by have hke:k=es.length+1:=om;rw[<-Qbj hsh,<-hke];exact h'.ent aEt⟩)
theorem c151:∀(d:Nat)(w:World)(co mo rm:Int)(a:Option Addr)(cap:Nat)(L:List LNd)(T:BT)(lo hi:Nat),Nt w [] a L->L.length<=1000->Bel lo hi d T->NIn (pln L) T->T.flat.length<=10000->Calls Tryz.prog 151 #[.agg #[.int .i64 co,.int .i64 mo,.int .i64 rm,.slice a L.length cap],.int .i64 (T.idx:Int)] w λen w'=>∃g:Option Addr×Nat,en=.returned (.slice g.1 (T.flat).length g.2)/\True/\HS w [] [.own (.slice g.1 (T.flat).length g.2) 84 2 (T.flat).length ((T.flat).flatMap TEnt.vals)] w'
  | 0,w,co,mo,rm,a,cap,L,.nd i es ks,lo,hi,hs,hl,hB,hN,hf=>by
    rw[BT.flat]at hf ⊢;have hk:=QsQ hB;exact QsX w co mo rm a cap L i es ks hs hl (by have h9:=hN.root.1;rwa[Qh]at h9) hN.root.2 (.inl hk) hf (λw1 k h=>by rw[hk]at h;exact absurd h (Nat.not_lt_zero _))
  | d+1,w,co,mo,rm,a,cap,L,.nd i es ks,lo,hi,hs,hl,hB,hN,hf=>by
    have hf2:=hf;rw[BT.flat]at hf ⊢;exact QsX w co mo rm a cap L i es ks hs hl (by have h9:=hN.root.1;rwa[Qh]at h9) hN.root.2 (.inr hB.1) hf (λw1 k h h1=>c151 d w1 co mo rm a cap L (nth ks k) lo hi h1 hl (Ql3 hB h) (hN.kid h) (Nat.le_trans (QlP hB.1 h) hf))
theorem QvQ(w:World)(co mo rm:Int)(a:Option Addr)(cap:Nat)(L:List LNd)(T:BT)(d lo hi:Nat)(hs:Nt w [] a L)(hl:L.length<=1000)(hB:Bel lo hi d T)(hN:NIn (pln L) T)(h0:T.idx=0)(hf:T.flat.length<=10000):CE 151 #[.agg #[.int .i64 co,.int .i64 mo,.int .i64 rm,.slice a L.length cap],.int .i64 0] w [] (λg:Option Addr×Nat=>.slice g.1 (T.flat).length g.2) (λg=>True) λg=>[.own (.slice g.1 (T.flat).length g.2) 84 2 (T.flat).length ((T.flat).flatMap TEnt.vals)]:=by
  have h9:=c151 d w co mo rm a cap L T lo hi hs hl hB hN hf;rw[h0]at h9;exact h9
theorem c87(w:World)(co mo rm:Int)(a:Option Addr)(cap:Nat)(L:List LNd)(T:BT)(d lo hi:Nat)(hs:Nt w [] a L)(hl:L.length<=1000)(hB:Bel lo hi d T)(hN:NIn (pln L) T)(h0:T.idx=0)(hf:T.flat.length<=10000):CE 87 #[.agg #[.int .i64 co,.int .i64 mo,.int .i64 rm,.slice a L.length cap]] w [] (λg:Option Addr×Nat=>.slice g.1 (T.flat).length g.2) (λg=>True) λg=>[.own (.slice g.1 (T.flat).length g.2) 84 2 (T.flat).length ((T.flat).flatMap TEnt.vals)]:=by
 refine eN1 Tryz.func87 Tryz.ntmps87 ?_
 refine aU2 ?_
 refine oBx λb1 _=>?_
 refine aU5 ?_
 refine oCh rfl (λw1 h1=>QvQ w1 co mo rm a cap L T d lo hi (hs.later h1.nil) hl hB hN h0 hf) (λ⟨gu,gv⟩_=>aU2 ?_)
 exact rT rfl rfl (λw' h'=>⟨(gu,gv),rfl,trivial,h'.ent aEt⟩)
theorem QoB:QJ Tryz.prog 265=true:=by kernel_rfl
theorem QtT:QJ Tryz.prog 203=true:=by kernel_rfl
def AllC(S:Type)(I:Nat->S->Prop)(C:S->HA)(st:S->TEnt->S->Prop)(co:S->Bool)(Q:TEnt->Prop)(lr:Nat)(bt:Nat)(j:Nat)(mo rm:Int)(a:Option Addr)(cap:Nat)(L:List LNd)(T:BT):Prop:=∀(w:World)(s:S)(r:Nat),(HS w (fps [C s]) [C s] w)->((∀(n:Nat)(s2:S)(x:TEnt)(w1:World),HS w (fps [C s]) [C s2] w1->I (n+1) s2->Q x->Zu Tryz.prog lr [Value.agg (TEnt.vals x).toArray].toArray w1 λe w2=>∃s3:S,e=.returned (.bool (co s3))/\(st s2 x s3/\(co s3=true->I n s3))/\HS w1 (fps [C s2]) [C s3] w2))->(TbR w (fps [C s]) bt (j:Int) mo rm a L.length cap)->(Nt w (fps [C s]) a L)->(∀x∈T.flat,Q x)->((T.flat).length<=10000)->(I ((T.flat).length+r) s)->Calls Tryz.prog 265 #[.pointer (some ⟨bt,0,none⟩),.int .i64 (T.idx:Int),.func (.yield lr) #[] #[]] w λen w'=>∃g:S×Bool,en=.returned (.bool g.2)/\(RunY st co s T.flat g.1 g.2/\(g.2=true->I r g.1))/\HS w (fps [C s]) [C g.1] w'
theorem QsO(w:World)(S:Type)(I:Nat->S->Prop)(C:S->HA)(st:S->TEnt->S->Prop)(co:S->Bool)(Q:TEnt->Prop)(lr:Nat)(bt:Nat)(j:Nat)(mo rm:Int)(a:Option Addr)(cap:Nat)(L:List LNd)(i:Nat)(es:List TEnt)(ks:List BT)(s:S)(r:Nat)(hw:HS w (fps [C s]) [C s] w)(hv:(∀(n:Nat)(s2:S)(x:TEnt)(w1:World),HS w (fps [C s]) [C s2] w1->I (n+1) s2->Q x->Zu Tryz.prog lr [Value.agg (TEnt.vals x).toArray].toArray w1 λe w2=>∃s3:S,e=.returned (.bool (co s3))/\(st s2 x s3/\(co s3=true->I n s3))/\HS w1 (fps [C s2]) [C s3] w2))(ht:TbR w (fps [C s]) bt (j:Int) mo rm a L.length cap)(hs:Nt w (fps [C s]) a L)(hQ:∀x∈(flatL es ks),Q x)(hf:((flatL es ks)).length<=10000)(hI:I (((flatL es ks)).length+r) s)(hl:L.length<=1000)(hi:i<L.length)(hn:nth (pln L) i=⟨true,es,Qan ks⟩)(hsh:ks=[]\/ks.length=es.length+1)(ih:∀k,k<ks.length->AllC S I C st co Q lr bt j mo rm a cap L (nth ks k)):CE 265 #[.pointer (some ⟨bt,0,none⟩),.int .i64 (i:Int),.func (.yield lr) #[] #[]] w (fps [C s]) (λg:S×Bool=>.bool g.2) (λg=>(RunY st co s (flatL es ks) g.1 g.2/\(g.2=true->I r g.1))) λg=>[C g.1]:=by
 rw[QR hi]at hn
 have hes:(nth L i).es=es:=congrArg Nd.es hn
 have hcs:(nth L i).cs=Qan ks:=congrArg Nd.cs hn
 have hesl:(nth L i).es.length=es.length:=by rw[hes]
 have hcsl:(nth L i).cs.length=ks.length:=by rw[hcs,Qj8]
 have hel:es.length<=10000:=Nat.le_trans (QiF es ks).length_le hf
 have hkl:ks.length<=10001:=by rcases hsh with h|h;rw[h];exact Nat.zero_le _;omega
 refine eW3 Tryz.func265 Tryz.ntmps265 hw ?_
 refine Qbf ?_
 refine o_q (Qb rfl rfl QbT (ht 3 _ rfl)) rfl (aU ?_)
 refine o_p (Qa rfl rfl rfl XC (i) om om (Rw.some hs.1 om)) rfl (o_q (Qq _ rfl rfl ZR rfl (Rw.rd hs.1 hi)) rfl (oAl (λb1 _=>?_) YS))
 refine aT9 ?_
 refine aU3 ?_
 refine Qd (L':=[(0,_),(2,_),(6,_),(7,_),(20,_),(21,_)]) aSx (λ_ h=>h) ?_
 refine Qp (α:=Nat×S) [6,8,21,22,23,24,25,26,27,28,29,30,31,32,33,34,35,36,37,38,39,40,41,42,43,44,45,46,47,48,49,50,51,52,53,54] (λx=>[(21,.int .i64 (x.1:Int))]) (λx=>HS w (fps [C s]) [.blk b1 127 3 (nth L i).vals,C x.2]) (λx=>x.1<=es.length+1/\RunY st co s (YN es ks x.1) x.2 true/\I ((flatL es ks).length-(YN es ks x.1).length+r) x.2) (λx=>es.length+1-x.1) (0,s) ⟨Nat.zero_le _,.nil s,hI⟩ aSx (λw h=>h.ent aEt) (λ⟨k,sk⟩hx=>?_)
 dsimp only
 obtain⟨hk1,hk2,hk3⟩:=hx
 simp only[]at hk1 hk2 hk3
 have hm1:=Qco (k:=k) hsh hk1
 refine aU5 ?_
 refine sCd rfl (λh2=>?_) λh2=>?_
 ·have hke:k<=es.length:=by have hq:=h2;omega
  have hm2:=Qgh hsh hke
  have hm3:=Qco (k:=k+1) hsh om
  have hm6:=Qjt (es:=es) (ks:=ks) (k:=k)
  have hm7:=Qgb (es:=es) (ks:=ks) (k:=k)
  refine aU16 ?_
  refine QoS (α:=S×Bool) 10 28 38 _ (λx=>!x.2) (λx=>HS w (fps [C s]) [.blk b1 127 3 (nth L i).vals,C x.1]) (λx=>RunY st co s (Qaq es ks k) x.1 x.2/\(x.2=true->I ((flatL es ks).length-(Qaq es ks k).length+r) x.1)) rfl
   (by
    intro hg3
    have hs4:=hg3;try simp only[dT]at hs4
    have hk0:0<ks.length:=by have hq:=hg3;simp at hq;omega
    have hsk:ks.length=es.length+1:=by rcases hsh with h|h;rw[h]at hk0;exact absurd hk0 (by decide);exact h
    have hkk:k<ks.length:=om
    have hm4:=congrArg List.length (Y7 (es:=es) (k:=k) hk0)
    rw[List.length_append]at hm4
    refine aU9 ?_
    refine o_p (Qa rfl rfl rfl Q1 (k) om om (Rw.some (hs.cs hi) om)) rfl (aU ?_)
    refine o_q (Qb rfl rfl Zh (((hs.cs hi).rdj 0 (i:=k) om rfl))) rfl (Qu (show _=Value.int .i64 ((nth ks k).idx:Int)from congrArg (Value.int .i64) (by rw[hcs];exact Qlx hkk)) (aU3 ?_))
    refine o_h (XG (Cs:=[C sk]) rfl QoB rfl aPs (λw1 h1 hf9=>ih k hkk w1 sk ((flatL es ks).length-(Qaq es ks k).length+r) hf9 (λn9 s2 x w2 h2 hI2 hQ2=>hv n9 s2 x w2 (HS.thenF (h1.ent (Bs:=[C sk]) aEt) h2) hI2 hQ2) ((ht.keep h1).mono (QY aPs)) ((hs.keep h1).mono (QY aPs)) (λx hx=>hQ x (Qrs hsk hkk hx)) (Nat.le_trans (QlP hsk hkk) hf) (by rw[show(nth ks k).flat.length+((flatL es ks).length-(Qaq es ks k).length+r)=((flatL es ks).length-(YN es ks k).length+r)from om];exact hk3))) rfl (λ⟨sm,bm⟩hRm=>aU2 ?_)
    refine o_p (QE rfl rfl hg3 rfl) rfl (aU ?_)
    exact Qo (sm,bm) ⟨by rw[Y7 hk0];exact hk2.app hRm.1,hRm.2⟩ aSx (λw h=>h.ent aEt))
   (by
    intro hg5
    have hs6:=hg5;try simp only[dN]at hs6
    have hk0:¬0<ks.length:=by have hq:=hg5;simp at hq;omega
    refine aU9 ?_
    refine o_p (QC rfl rfl hg5 rfl) rfl (aU ?_)
    exact Qo (sk,true) ⟨by rw[QcE hk0];exact hk2,λ_=>by rw[QcE hk0];exact hk3⟩ aSx (λw h=>h.ent aEt)) ?_
  intro⟨sm,bm⟩ hx
  dsimp only
  obtain⟨hR1,hI1⟩:=hx
  simp only[]at hR1 hI1
  refine aU ?_
  refine sCd rfl (λh7=>?_) λh7=>?_
  ·obtain rfl:bm=false:=by have hq:=h7;simpa using hq
   obtain⟨B9,hB9⟩:=Ql1 hsh hke
   refine aU4 ?_
   exact rT rfl rfl (λw' h'=>⟨(sm,false),rfl,⟨by rw[hB9];exact hR1.off B9,λh=>by cases h⟩,h'.ent aEt⟩)
  obtain rfl:bm=true:=by have hq:=h7;simpa using hq
  refine aU9 ?_
  refine QoS (α:=S×Bool) 9 44 53 _ (λx=>!x.2) (λx=>HS w (fps [C s]) [.blk b1 127 3 (nth L i).vals,C x.1]) (λx=>RunY st co s (YN es ks (k+1)) x.1 x.2/\(x.2=true->I ((flatL es ks).length-(YN es ks (k+1)).length+r) x.1)) rfl
   (by
    intro hg8
    have hs9:=hg8;try simp only[dT]at hs9
    have hke2:k<es.length:=by have hq:=hg8;simp at hq;omega
    have hm5:=congrArg List.length (Qae (es:=es) (ks:=ks) hke2)
    rw[List.length_append,List.length_singleton]at hm5
    refine aU9 ?_
    refine o_p (Qa rfl rfl rfl QG (k) om om (Rw.some (hs.es hi) om)) rfl (aU ?_)
    refine o_q (Qq _ rfl rfl Qc8 rfl (Rw.rd (hs.es hi) om)) rfl (Qu (show _=Value.agg (TEnt.vals (nth es k)).toArray from by rw[hes]) (aU ?_))
    refine o_h (QoL (Cs:=[C sm]) rfl rfl rfl aPs (λw1 h1 hf9=>hv ((flatL es ks).length-(YN es ks (k+1)).length+r) sm (nth es k) w1 (h1.ent aEt) (by rw[show((flatL es ks).length-(YN es ks (k+1)).length+r)+1=((flatL es ks).length-(Qaq es ks k).length+r)from om];exact hI1 rfl) (hQ _ (Qu8 hsh hke2)))) rfl (λsy hRy=>aU2 ?_)
    refine o_p (QE rfl rfl hg8 rfl) rfl (aU ?_)
    exact Qo (sy,co sy) ⟨by rw[Qae hke2];exact hR1.app (RunY.one hRy.1),hRy.2⟩ aSx (λw h=>h.ent aEt))
   (by
    intro hg10
    have hs11:=hg10;try simp only[dN]at hs11
    have hke2:¬k<es.length:=by have hq:=hg10;simp at hq;omega
    refine aU8 ?_
    refine o_p (QC rfl rfl hg10 rfl) rfl (aU ?_)
    exact Qo (sm,true) ⟨by rw[QcB hke2];exact hR1,λ_=>by rw[QcB hke2];exact hI1 rfl⟩ aSx (λw h=>h.ent aEt)) ?_
  intro⟨sy,by9⟩ hx
  dsimp only
  obtain⟨hR2,hI2⟩:=hx
  simp only[]at hR2 hI2
  refine aU ?_
  refine sCd rfl (λh12=>?_) λh12=>?_
  ·obtain rfl:by9=false:=by have hq:=h12;simpa using hq
   obtain⟨B9,hB9⟩:=Qmu hsh (show k+1<=es.length+1 by omega)
   refine aU4 ?_
   exact rT rfl rfl (λw' h'=>⟨(sy,false),rfl,⟨by rw[hB9];exact hR2.off B9,λh=>by cases h⟩,h'.ent aEt⟩)
  obtain rfl:by9=true:=by have hq:=h12;simpa using hq
  refine aT4 ?_
  refine aU2 ?_
  exact sBk (k+1,sy) (by(try simp only[]);omega) ⟨by(try simp only[]);omega,hR2,hI2 rfl⟩
 refine Qg rfl ?_
 refine aU4 ?_
 exact rT rfl rfl (λw' h'=>⟨(sk,true),rfl,by have hke:k=es.length+1:=om;rw[<-Qbj hsh,<-hke];exact⟨hk2,λ_=>by rw[<-Qbj hsh,<-hke,Nat.sub_self,Nat.zero_add]at hk3;exact hk3⟩,h'.ent aEt⟩)
theorem c265(S:Type)(I:Nat->S->Prop)(C:S->HA)(st:S->TEnt->S->Prop)(co:S->Bool)(Q:TEnt->Prop)(lr:Nat)(bt:Nat)(j:Nat)(mo rm:Int)(a:Option Addr)(cap:Nat)(L:List LNd)(hl:L.length<=1000):∀(d:Nat)(T:BT)(lo hi:Nat),Bel lo hi d T->NIn (pln L) T->AllC S I C st co Q lr bt j mo rm a cap L T
  | 0,.nd i es ks,lo,hi,hB,hN=>λw s r hw hv ht hs hQ hf hI=>by
    rw[BT.flat]at hQ hf hI ⊢;have hk:=QsQ hB;exact QsO w S I C st co Q lr bt j mo rm a cap L i es ks s r hw hv ht hs hQ hf hI hl (by have h9:=hN.root.1;rwa[Qh]at h9) hN.root.2 (.inl hk) (λk h=>by rw[hk]at h;exact absurd h (Nat.not_lt_zero _))
  | d+1,.nd i es ks,lo,hi,hB,hN=>λw s r hw hv ht hs hQ hf hI=>by
    rw[BT.flat]at hQ hf hI ⊢;exact QsO w S I C st co Q lr bt j mo rm a cap L i es ks s r hw hv ht hs hQ hf hI hl (by have h9:=hN.root.1;rwa[Qh]at h9) hN.root.2 (.inr hB.1) (λk h=>c265 S I C st co Q lr bt j mo rm a cap L hl d (nth ks k) lo hi (Ql3 hB h) (hN.kid h))
theorem Qv5(w:World)(S:Type)(I:Nat->S->Prop)(C:S->HA)(st:S->TEnt->S->Prop)(co:S->Bool)(Q:TEnt->Prop)(lr:Nat)(bt:Nat)(j:Nat)(mo rm:Int)(a:Option Addr)(cap:Nat)(L:List LNd)(T:BT)(d lo hi:Nat)(s:S)(r:Nat)(hw:HS w (fps [C s]) [C s] w)(hv:(∀(n:Nat)(s2:S)(x:TEnt)(w1:World),HS w (fps [C s]) [C s2] w1->I (n+1) s2->Q x->Zu Tryz.prog lr [Value.agg (TEnt.vals x).toArray].toArray w1 λe w2=>∃s3:S,e=.returned (.bool (co s3))/\(st s2 x s3/\(co s3=true->I n s3))/\HS w1 (fps [C s2]) [C s3] w2))(ht:TbR w (fps [C s]) bt (j:Int) mo rm a L.length cap)(hs:Nt w (fps [C s]) a L)(hQ:∀x∈T.flat,Q x)(hf:(T.flat).length<=10000)(hI:I ((T.flat).length+r) s)(hl:L.length<=1000)(hB:Bel lo hi d T)(hN:NIn (pln L) T)(h0:T.idx=0):CE 265 #[.pointer (some ⟨bt,0,none⟩),.int .i64 0,.func (.yield lr) #[] #[]] w (fps [C s]) (λg:S×Bool=>.bool g.2) (λg=>(RunY st co s T.flat g.1 g.2/\(g.2=true->I r g.1))) λg=>[C g.1]:=by
  have h9:=c265 S I C st co Q lr bt j mo rm a cap L hl d T lo hi hB hN w s r hw hv ht hs hQ hf hI;rw[h0]at h9;exact h9
theorem QqW{St α:Type}{st:St->α->St->Prop}{f:St->List α}{l:List α}{s s1:St}{b:Bool}(hst:∀s x s',st s x s'->f s'=f s++[x])(h:RunY st (λ_=>true) s l s1 b):f s1=f s++l:=by
  induction h with
  | nil s=>rw[List.append_nil]
  | go h hc _ ih=>rw[ih,hst _ _ _ h,List.append_assoc];rfl
  | stop h hc=>cases hc
theorem c203(w:World)(S:Type)(I:Nat->S->Prop)(C:S->HA)(st:S->TEnt->S->Prop)(co:S->Bool)(Q:TEnt->Prop)(lr:Nat)(bt:Nat)(j:Nat)(mo rm:Int)(a:Option Addr)(cap:Nat)(L:List LNd)(T:BT)(d lo hi:Nat)(s:S)(r:Nat)(hw:HS w (fps [C s]) [C s] w)(hv:(∀(n:Nat)(s2:S)(x:TEnt)(w1:World),HS w (fps [C s]) [C s2] w1->I (n+1) s2->Q x->Zu Tryz.prog lr [Value.agg (TEnt.vals x).toArray].toArray w1 λe w2=>∃s3:S,e=.returned (.bool (co s3))/\(st s2 x s3/\(co s3=true->I n s3))/\HS w1 (fps [C s2]) [C s3] w2))(ht:TbR w (fps [C s]) bt (j:Int) mo rm a L.length cap)(hs:Nt w (fps [C s]) a L)(hQ:∀x∈T.flat,Q x)(hf:(T.flat).length<=10000)(hI:I ((T.flat).length+r) s)(hl:L.length<=1000)(hB:Bel lo hi d T)(hN:NIn (pln L) T)(h0:T.idx=0):CE 203 #[.pointer (some ⟨bt,0,none⟩),.func (.yield lr) #[] #[]] w (fps [C s]) (λg:S×Bool=>.tuple #[]) (λg=>(RunY st co s T.flat g.1 g.2/\(g.2=true->I r g.1))) λg=>[C g.1]:=by
 refine eW2 Tryz.func203 Tryz.ntmps203 hw ?_
 refine aU3 ?_
 refine o_h (XG (Cs:=[C s]) rfl QoB rfl aPs (λw1 h1 hf9=>Qv5 w1 S I C st co Q lr bt j mo rm a cap L T d lo hi s r hf9 (λn9 s2 x w2 h2 hI2 hQ2=>hv n9 s2 x w2 (HS.thenF (h1.ent (Bs:=[C s]) aEt) h2) hI2 hQ2) ((ht.keep h1).mono (QY aPs)) ((hs.keep h1).mono (QY aPs)) hQ hf hI hl hB hN h0)) rfl (λ⟨sm,bm⟩hRm=>aU ?_)
 exact QkJ rfl (λw' h'=>⟨(sm,bm),rfl,hRm,h'.ent aEt⟩)
theorem c264(w:World)(bt:Nat)(j:Nat)(mo rm:Int)(a:Option Addr)(cap:Nat)(L:List LNd)(T:BT)(d lo hi:Nat)(hs:Nt w [] a L)(ht:TbR w [] bt (j:Int) mo rm a L.length cap)(hl:L.length<=1000)(hB:Bel lo hi d T)(hN:NIn (pln L) T)(h0:T.idx=0)(hf:T.flat.length<=10000):CE 264 #[.slice none 0 0,.func (.func 203) #[.pointer (some ⟨bt,0,none⟩)] #[]] w [] (λg:Option Addr×Nat=>.slice g.1 (T.flat).length g.2) (λg=>True) λg=>[.own (.slice g.1 (T.flat).length g.2) 84 2 (T.flat).length ((T.flat).flatMap TEnt.vals)]:=by
 refine eN2 Tryz.func264 Tryz.ntmps264 ?_
 refine aU2 ?_
 refine oBx λb1 _=>?_
 refine aU8 ?_
 refine Qji (G:={s:((Option Addr×Nat)×List TEnt) // s.2=T.flat}) (Bs:=λs=>[.blk b1 124 1 [.slice s.1.1.1 s.1.2.length s.1.1.2],.own (.slice s.1.1.1 (s.1.2).length s.1.1.2) 84 2 (s.1.2).length ((s.1.2).flatMap TEnt.vals)]) (jmp:=λ_=>none) rfl rfl rfl QtT (λfid D l a9 w1 ob hob ha9 hw1=>?_) (λD x=>?_)
 ·skip
  have h2:HS w [] [(λs=>.star [.obj l ob,.obj D (.deferred (some [])),.blk b1 124 1 [.slice s.1.1 s.2.length s.1.2],.own (.slice s.1.1 (s.2).length s.1.2) 84 2 (s.2).length ((s.2).flatMap TEnt.vals)]) ((none,0),[])] w1:=HS.star_close (Bs:=[_,_,_,_]) ((hw1.own_nil 84 2).ent aEt)
  refine Calls.mono (c203 w1 ((Option Addr×Nat)×List TEnt) (λn s=>s.2.length+n<=10000) (λs=>.star [.obj l ob,.obj D (.deferred (some [])),.blk b1 124 1 [.slice s.1.1 s.2.length s.1.2],.own (.slice s.1.1 (s.2).length s.1.2) 84 2 (s.2).length ((s.2).flatMap TEnt.vals)]) (λs x s3=>s3.2=s.2++[x]) (λ_=>true) (λ_=>True) l bt j mo rm a cap L T d lo hi ((none,0),[]) 0 (HS.focus (Cs:=[_]) (Ds:=[]) h2) ?_ (ht.keep h2) (hs.keep h2) (λ_ _=>trivial) hf (by show 0+_<=_;omega) hl hB hN h0) λe w2 hx=>?_
  rotate_left
  ·obtain⟨⟨sm,bm⟩,he,⟨hr,_⟩,h5⟩:=hx
   refine⟨⟨_,he⟩,⟨sm,by have h7:=QqW (f:=λs:((Option Addr×Nat)×List TEnt)=>s.2) (λ_ _ _ h=>h) hr;simpa using h7⟩,?_⟩
   have h6:=HS.star_open (HS.callA h2 h5)
   subst hob
   exact h6.ent aEt
  intro n9 s2 x w3 h3 hI2 _
  have h4:=HS.star_open (HS.focus (Cs:=[_]) (Ds:=[]) h3)
  subst hob
  obtain⟨⟨ga,gc⟩,lg⟩:=s2
  dsimp only at h4 hI2 ⊢
  refine QqQ (α:=Nat) (fn:=Tryz.f264) (As1:=λb5=>.obj D (.deferred (some []))::[.blk b1 124 1 [.slice ga lg.length gc],.own (.slice ga (lg).length gc) 84 2 (lg).length ((lg).flatMap TEnt.vals),.blk b5 84 2 (TEnt.vals x)]) (L1:=λb5=>[(5,.pointer (some ⟨b5,0,none⟩)),(2,.pointer (some ⟨b1,0,none⟩))]) h4 rfl (FR.round1 ha9 7 _ rfl) ?_ ?_
  ·skip
   refine aU ?_
   refine oAl (λb2 _=>?_) Qah
   refine aU2 ?_
   exact Qtr b2 aSx (λw h=>h.ent aEt)
  skip
  intro b5
  refine aU4 ?_
  refine o_h (Ql (cs:=[_,_]) rfl rfl QG Qah rfl rfl rfl) rfl (λb3 _=>o_h (QF (TEnt.vals x) rfl rfl rfl QG Tryz.underlying124 Qah rfl aPk (Xk aPk) rfl (ev1 _) om (by simp only[maxLen];omega)) rfl (λb4 _=>aU3 ?_))
  exact Qi2 rfl aPk (λw h=>⟨(b4,lg++[x]),rfl,⟨rfl,λ_=>by simp only[List.length_append,List.length_singleton];omega⟩,by refine HS.star_close (Bs:=[_,_,_,_]) ?_;simp only[List.length_append,List.length_singleton,List.flatMap_append,List.flatMap_cons,List.flatMap_nil,List.append_nil];exact h.ent aEt⟩)
 skip
 obtain⟨⟨⟨gx,gy⟩,lg⟩,hlg⟩:=x
 dsimp only at hlg
 subst hlg
 dsimp only
 refine Qnl (.inl rfl) ?_
 refine aU5 ?_
 exact QuQ (rs:=[.tmp 4]) rfl aPk (.tmp rfl (.nil)) (λw' h'=>⟨(gx,gy),rfl,trivial,h'.ent aEt⟩)
instance:TFn Tryz.prog 264:=⟨by kernel_rfl⟩
instance:TFn Tryz.prog 202:=⟨by kernel_rfl⟩
theorem c202(w:World)(bt:Nat)(j:Nat)(mo rm:Int)(a:Option Addr)(cap:Nat)(L:List LNd)(T:BT)(d lo hi:Nat)(hs:Nt w [] a L)(ht:TbR w [] bt (j:Int) mo rm a L.length cap)(hl:L.length<=1000)(hB:Bel lo hi d T)(hN:NIn (pln L) T)(h0:T.idx=0)(hf:T.flat.length<=10000):CE 202 #[.func (.func 203) #[.pointer (some ⟨bt,0,none⟩)] #[]] w [] (λg:Option Addr×Nat=>.slice g.1 (T.flat).length g.2) (λg=>True) λg=>[.own (.slice g.1 (T.flat).length g.2) 84 2 (T.flat).length ((T.flat).flatMap TEnt.vals)]:=by
 refine eN1 Tryz.func202 Tryz.ntmps202 ?_
 refine aU7 ?_
 refine oCh rfl (λw1 h1=>c264 w1 bt j mo rm a cap L T d lo hi (hs.later h1.nil) (ht.next h1.nil) hl hB hN h0 hf) (λ⟨gu,gv⟩_=>aU2 ?_)
 exact rT rfl rfl (λw' h'=>⟨(gu,gv),rfl,trivial,h'.ent aEt⟩)
theorem c135e(w:World)(co mo rm:Int)(a:Option Addr)(cap:Nat)(L:List LNd)(hs:Nt w [] a L)(hB:Bd (pln L))(hkl:∀i,i<L.length->∀x∈(nth L i).es,x.key.length<=1000000)(he:¬(Yb (⟨co,mo,rm,pln L⟩:Tre)).2=0):CR 135 #[.agg #[.int .i64 co,.int .i64 mo,.int .i64 rm,.slice a L.length cap]] w (.tuple #[.slice none 0 0,.int .i64 (Yb (⟨co,mo,rm,pln L⟩:Tre)).2]):=by
 refine eN1 Tryz.func135 Tryz.ntmps135 ?_
 refine aU2 ?_
 refine oBx λb1 _=>?_
 refine aU6 ?_
 refine oCq rfl (λw1 h1=>QvU w1 co mo rm a cap L (hs.later h1.nil) hB hkl he) (QbX ?_)
 refine sCd rfl (λh2=>?_) λh2=>?_
 ·refine aU6 ?_
  exact Qm (rs:=[.tmp 2,.tmp 3]) rfl (.tmp rfl (.tmp rfl (.nil))) (λw' h'=>⟨rfl,h'.below⟩)
 exfalso;first|omega|(simp at h2;done)|(simp_all;done)
theorem Qvn(w:World)(j:Nat)(mo rm:Int)(a:Option Addr)(cap:Nat)(L:List LNd)(T:BT)(d lo hi:Nat)(hs:Nt w [] a L)(hB:Bd (pln L))(hkl:∀i,i<L.length->∀x∈(nth L i).es,x.key.length<=1000000)(h0:(Yb (⟨(j:Int),mo,rm,pln L⟩:Tre)).2=0)(hl2:L.length<=1000)(hBl:Bel lo hi d T)(hN:NIn (pln L) T)(hT0:T.idx=0)(hf:T.flat.length<=10000):CE 135 #[.agg #[.int .i64 (j:Int),.int .i64 mo,.int .i64 rm,.slice a L.length cap]] w [] (λg:Option Addr×Nat=>.tuple #[.slice g.1 (T.flat).length g.2,.int .i64 0]) (λg=>True) λg=>[.own (.slice g.1 (T.flat).length g.2) 84 2 (T.flat).length ((T.flat).flatMap TEnt.vals)]:=by
 obtain⟨hc0,hz0,hl0,hl120,hn0,_,_⟩:=QkO h0
 rw[show((⟨(j:Int),mo,rm,pln L⟩:Tre)).ns=pln L from rfl,Qh]at hl0 hl120
 have hj:j<=3:=by obtain⟨j9,e9,hj9⟩:=Qf6 hc0;have e8:((j:Nat):Int)=(j9:Int):=e9;omega
 have hT:TOk (j:Int) (pln L):=Qfu (t:=(⟨(j:Int),mo,rm,pln L⟩:Tre)) hn0
 have hmo:=(QfT hz0).1
 simp only[]at hmo
 refine eN1 Tryz.func135 Tryz.ntmps135 ?_
 refine aU2 ?_
 refine oBx λb1 _=>?_
 refine aU6 ?_
 refine oCh rfl (λw1 h1=>Qvx w1 j mo rm a cap L (hs.later h1.nil) hB hkl h0) (λ⟨b9,⟨gn9,c9⟩,L9⟩hF9=>?_)
 dsimp only
 obtain⟨hL9,hn9,hm9⟩:=hF9
 simp only[]at hL9 hn9 hm9
 have hl9:L9.length=L.length:=by rw[<-Qh L9,hL9,Qh]
 have hB9:Bd (pln L9):=by rw[hL9];exact hB
 have hT9:TOk (j:Int) (pln L9):=by rw[hL9];exact hT
 have hK9:∀i,i<L9.length->∀y∈(nth L9 i).es,Q7 (j:Int) y.key=true/\y.key.length<=1000000:=λi hi y hy=>Qry hT9 i (by rw[Qh];exact hi) y (by rw[QR hi];exact hy)
 refine QbX ?_
 refine sCd rfl (λh2=>?_) λh2=>?_
 ·exfalso;first|omega|(simp at h2;done)|(simp_all;done)
 refine aU5 ?_
 refine oCh rfl (λw1 h1=>c202 w1 b9 j mo rm (some ⟨gn9,0,none⟩) c9 L9 T d lo hi (HS.nt_at h1 aPk aPk) (HS.tbr h1 aPk) om hBl (by rw[hL9];exact hN) hT0 hf) (λ⟨gu,gv⟩_=>aU3 ?_)
 exact Qm (rs:=[.tmp 2,.tmp 3]) rfl (.tmp rfl (.tmp rfl (.nil))) (λw' h'=>⟨(gu,gv),rfl,trivial,h'.ent aEt⟩)
theorem Qbn{α:Type}{l:List α}{f:α->Int}{k:Nat}{d:α}(h:k<l.length):QD ((l.map f).drop k) k=if f (l.getD k d)=0 then QD ((l.map f).drop (k+1)) (k+1)else((k:Int),f (l.getD k d)):=by
  rw[X2 (by rw[List.length_map];exact h),Yd (d:=d) h]
theorem QjJ{α:Type}{l:List α}{f:α->Int}{k:Nat}{d:α}(h:k<l.length):Xt ((l.map f).drop k)=if f (l.getD k d)=0 then Xt ((l.map f).drop (k+1))else f (l.getD k d):=by
  rw[YD (by rw[List.length_map];exact h),Yd (d:=d) h]
theorem c159(w:World)(t s:List UInt8)(hl:t.length=128)(hc:∀c∈s,c.toNat<128)(hm:s.length<=1000000):CR 159 #[.string (bs t),.string (bs s)] w (.string (bs (up t s))):=by
 refine eN2 Tryz.func159 Tryz.ntmps159 ?_
 refine Qkh ?_
 refine Qp (α:=Nat) [5,6,7,8,9,10,11,12,13,14,15,16,17,18,19,20,21] (λk=>[(6,.int .i64 (k:Int)),(5,.string (bs ((up t s).take k)))]) (λ_=>HS w [] []) (λk=>k<=s.length) (λk=>s.length-k) 0 (Nat.zero_le _) aSx (λw h=>h.ent aEt) (λk hk1=>?_)
 refine aU5 ?_
 refine o_p (Qn rfl rfl Tryz.underlying9) rfl (aU2 ?_)
 refine sCd rfl (λh1=>?_) λh1=>?_
 ·have hk:k<s.length:=by omega
  have hck:=hc (s.getD k 0) (XL hk)
  have hul:=ZL t s
  have hsu:(up t s).take (k+1)=(up t s).take k++[t.getD (s.getD k 0).toNat 0]:=by rw[Xg (d:=0) om];unfold up;rw[Yd (d:=0) hk]
  refine aU8 ?_
  refine o_p (Qr rfl rfl rfl Tryz.underlying9 (k) om om) rfl ?_
  refine o_p (Qr rfl rfl rfl Tryz.underlying9 ((s.getD k 0).toNat) om om) rfl ?_
  refine o_h (Ql (cs:=[_]) rfl rfl XF QhW rfl rfl rfl) rfl (λb2 _=>o_q (Y6 rfl rfl Tryz.underlying226 Tryz.underlying9 Tryz.underlying5 aPk (by simp) (by intro v hv;simp only[List.mem_cons,List.mem_nil_iff,or_false]at hv;subst hv;rfl)) rfl (Qu (show _=Value.string (bs [t.getD (s.getD k 0).toNat 0])from by simp[Gx.vByte,Go.RowKit.intOf]) (o_p (XJ rfl rfl rfl (by(try simp only[List.length_append,List.length_cons,List.length_nil,List.length_replicate,List.length_take,List.length_drop]);omega)) rfl (aT6 ?_))))
  refine aU2 ?_
  exact sBk (k+1) om om (by(try dsimp only);rw[hsu];exact aSx)
 obtain rfl:k=s.length:=om
 refine Qg rfl ?_
 refine aU5 ?_
 exact rV (h:=by simp only[QA];rw[List.take_of_length_le (by rw[ZL];exact Nat.le_refl _)])
theorem c86(w:World):CR 86 #[] w (.string (bs QaN)):=by
 refine eN0 Tryz.func86 Tryz.ntmps86 ?_
 refine aU6 ?_
 refine o_h (Qbu (n:=128) rfl rfl rfl XF QhW om om) rfl (λb1 _=>aU8 ?_)
 refine Qp (α:=Nat) [2,4,5,6,7,8,9,10,11,12,13,14,15,16,17,18,19,20] (λk=>[(2,.int .i64 (k:Int))]) (λk=>HS w [] [.blk b1 5 (128*1) ((Qdg k).map bv)]) (λk=>k<=128) (λk=>128-k) 0 (Nat.zero_le _) aSx (λw h=>h.ent aEt) (λk hk1=>?_)
 refine aU6 ?_
 refine sCd rfl (λh2=>?_) λh2=>?_
 ·have hk:k<128:=by omega
  have hkm:k<(Qdg k).length:=by rw[QdN hk1];exact hk
  refine aU8 ?_
  refine o_p (Q6 rfl rfl QdB Qer) rfl ?_
  refine Qu (show _=bv (UInt8.ofNat k)from by unfold bv;congr 1<;>(rw[UInt8.toNat_ofNat',QcT k om];omega)) (o_p (Qa rfl rfl rfl XF (k) om om rfl) rfl (Qu (show _=Value.pointer (some ⟨b1,k*1,none⟩)from by rw[Nat.zero_add]) (aU5 ?_)))
  refine oCq rfl (λw1 h1=>c27 w1 _ _ _) (aU ?_)
  refine sCd rfl (λh3=>?_) λh3=>?_
  ·have hq:=h3
   have hsk:Qck k=UInt8.ofNat (k-32):=by unfold Qck;rw[if_pos om]
   refine aT5 ?_
   refine o_p (Q6 rfl rfl QdB Qer) rfl (Qu (show _=bv (Qck k)from by rw[hsk];unfold bv;congr 1;rw[UInt8.toNat_ofNat',show((k:Int)-32)=((k-32:Nat):Int)from om,QcT _ om];omega) (o_p (Qa rfl rfl rfl XF (k) om om rfl) rfl (Qu (show _=Value.pointer (some ⟨b1,k*1,none⟩)from by rw[Nat.zero_add]) (aT6 ?_))))
   refine aU2 ?_
   exact Qs (k+1) om om aSx (λw h=>by have h1:=HS.blk_to (b:=b1) h aPk (show Qf (Qf ((Qdg k).map bv) (k*1) [bv (UInt8.ofNat k)]) (k*1) [bv (Qck k)]=((Qdg k).set k (Qck k)).map bv from by rw[Qsh hkm rfl,Qsh (by rw[List.length_set];exact hkm) rfl,List.set_set]);rw[Qd2 hk]at h1;exact h1.ent aEt)
  have hq:=h3
  have hsk:Qck k=UInt8.ofNat k:=by unfold Qck;rw[if_neg om]
  refine aT5 ?_
  refine aU2 ?_
  exact Qs (k+1) om om aSx (λw h=>by have h1:=HS.blk_to (b:=b1) h aPk (Qsh (x:=UInt8.ofNat k) hkm rfl);rw[<-hsk,Qd2 hk]at h1;exact h1.ent aEt)
 obtain rfl:k=128:=om
 refine Qg rfl ?_
 refine aU3 ?_
 refine o_q (Y6 rfl rfl Tryz.underlying226 Tryz.underlying9 Tryz.underlying5 aPk (by simp[QdN]) (QcL _)) rfl (aU2 ?_)
 exact rV (h:=by simp only[Qa4];simp[Qdg,YA,List.take_of_length_le];rfl)
theorem c122(w:World)(a:Option Addr)(cap:Nat)(l:List (List UInt8))(hs:Vl w a (l.map Qdq))(hl:l.length<=1000000)(hml:∀s∈l,s.length<=1000000):CR 122 #[.slice a l.length cap] w (.int .i64 (QaI l)):=by
 refine eN1 Tryz.func122 Tryz.ntmps122 ?_
 refine Qab ?_
 refine sCd rfl (λh1=>?_) λh1=>?_
 ·have hb:¬l.length<=200:=by have hq:=h1;omega
  refine aU4 ?_
  exact rV (h:=by rw[QaI,if_neg hb];rfl)
 have hb:l.length<=200:=by have hq:=h1;omega
 refine aU7 ?_
 refine Qp (α:=Nat) [2,3,4,8,9,10,11,12,13,14,15,16,17,18,19,20,21] (λk=>[(3,.int .i64 (k:Int))]) (λ_=>_) (λk=>k<=l.length/\Xt (l.map QT)=Xt ((l.map QT).drop k)) (λk=>l.length-k) 0 ⟨Nat.zero_le _,rfl⟩ aSx (λw h=>h) (λk hkk=>?_)
 obtain⟨hk1,hk2⟩:=hkk
 refine aU8 ?_
 refine sCd rfl (λh2=>?_) λh2=>?_
 ·have hk:k<l.length:=by omega
  have hst:=QjJ (f:=QT) (d:=[]) hk
  refine aU7 ?_
  refine o_p (Qa rfl rfl rfl Zf (k) om om (hs.some (by rw[List.length_map];omega))) rfl (o_q (Qb rfl rfl X1 ((hs.rd (Qce (k:=k) hk)))) rfl (oCq rfl (λw1 h1=>c16 w1 (l.getD k []) (by have:=hml _ (XL (d:=[]) hk);omega)) (aU7 ?_)))
  refine sCd rfl (λh3=>?_) λh3=>?_
  ·have hne:¬QT (l.getD k [])=0:=h3
   refine aU5 ?_
   exact rV (h:=by rw[QaI,if_pos hb,hk2,hst,if_neg hne];rfl)
  have hne:QT (l.getD k [])=0:=h3
  refine aT5 ?_
  refine aU2 ?_
  exact Qs (k+1) om ⟨om,by rw[hk2,hst,if_pos hne]⟩ aSx (λw h=>h)
 obtain rfl:k=l.length:=om
 refine Qg rfl ?_
 refine aU4 ?_
 exact rV (h:=by rw[QaI,if_pos hb,hk2,QbK (by simp)];rfl)
theorem c26(w:World)(s:List UInt8)(hm:s.length<=1000000):CR 26 #[.string (bs s)] w (.int .i64 (ZO s)):=by
 refine eN1 Tryz.func26 Tryz.ntmps26 ?_
 refine aU8 ?_
 refine o_p (Qn rfl rfl Tryz.underlying9) rfl (aU2 ?_)
 refine sCd rfl (λh1=>?_) λh1=>?_
 ·have hl:¬s.length<=64:=by have hq:=h1;omega
  refine aU4 ?_
  exact rV (h:=by rw[ZO,if_neg hl];rfl)
 have hl:s.length<=64:=by have hq:=h1;omega
 refine aU7 ?_
 refine sCd rfl (λh2=>?_) λh2=>?_
 ·have hz:s=[]:=h2
  refine aU4 ?_
  exact rV (h:=by rw[ZO,if_pos hl];simp[hz];rfl)
 have hz:¬s=[]:=h2
 refine aU7 ?_
 refine Qp (α:=Nat) [2,3,9,10,11,12,13,14,15,16,17,18,19,20,21,22,23,24,25,26,27,28,29,30,31] (λk=>[(3,.int .i64 (k:Int))]) (λ_=>_) (λk=>k<=s.length/\(s.take k).all Qeu=true) (λk=>s.length-k) 0 ⟨Nat.zero_le _,rfl⟩ aSx (λw h=>h) (λk hkk=>?_)
 obtain⟨hk1,hk2⟩:=hkk
 refine aU5 ?_
 refine o_p (Qn rfl rfl Tryz.underlying9) rfl (aU2 ?_)
 refine sCd rfl (λh3=>?_) λh3=>?_
 ·have hk:k<s.length:=by omega
  have hst:=Qfx (p:=Qeu) hk
  have e63:((s.getD k 0).toNat:Int)=63 ↔ s.getD k 0=63:=⟨λh=>UInt8.toNat_inj.1 (by show(s.getD k 0).toNat=63;omega),λh=>by rw[h];rfl⟩
  have e42:((s.getD k 0).toNat:Int)=42 ↔ s.getD k 0=42:=⟨λh=>UInt8.toNat_inj.1 (by show(s.getD k 0).toNat=42;omega),λh=>by rw[h];rfl⟩
  refine aU7 ?_
  refine o_p (Qr rfl rfl rfl Tryz.underlying9 (k) om om) rfl ?_
  refine aU2 ?_
  refine Xi 5 19 24 rfl
   (λhg4 _=>by
    refine aU5 ?_
    refine o_p (Qr rfl rfl rfl Tryz.underlying9 (k) om om) rfl ?_
    refine aU2 ?_
    exact oJt 5 24)
   (λhg6 _=>by
    refine aU4 ?_
    exact oJf 5 24) ?_
  refine aU ?_
  refine Xi 6 25 31 rfl
   (λhg8 _=>by
    refine aU5 ?_
    refine o_p (Qr rfl rfl rfl Tryz.underlying9 (k) om om) rfl ?_
    refine aU ?_
    refine oCq rfl (λw1 h1=>c67 w1 (s.getD k 0)) (aU2 ?_)
    exact oJt 6 31)
   (λhg10 _=>by
    refine aU5 ?_
    exact oJf 6 31) ?_
  refine aU ?_
  refine sCd rfl (λh12=>?_) λh12=>?_
  ·have hpf:Qeu (s.getD k 0)=false:=by have hq:=h12;simp only[e42,e63]at hq;unfold Qeu;rw[decide_eq_false hq.1.2,decide_eq_false hq.1.1,hq.2];rfl
   have hf:=Qil hk hpf
   refine aU4 ?_
   exact rV (h:=by rw[ZO,if_pos hl,hf];simp;rfl)
  have hpt:Qeu (s.getD k 0)=true:=by have hq:=h12;simp only[e42,e63]at hq;unfold Qeu;rcases hq with(hq|hq)|hq;(rw[decide_eq_true hq];simp);(rw[decide_eq_true (p:=s.getD k 0=63) hq];simp);(rw[hq];simp)
  have hk3:(s.take (k+1)).all Qeu=true:=by rw[hst,hk2,hpt];rfl
  refine aT5 ?_
  refine aU2 ?_
  exact Qs (k+1) om ⟨om,hk3⟩ aSx (λw h=>h)
 obtain rfl:k=s.length:=om
 refine Qg rfl ?_
 refine aU4 ?_
 exact rV (h:=by rw[List.take_length]at hk2;rw[ZO,if_pos hl,hk2,decide_eq_false hz];rfl)
instance:TFn Tryz.prog 221:=⟨by kernel_rfl⟩
instance:TFn Tryz.prog 222:=⟨by kernel_rfl⟩
instance:TFn Tryz.prog 159:=⟨by kernel_rfl⟩
instance:TFn Tryz.prog 158:=⟨by kernel_rfl⟩
theorem QoD{s:List UInt8}{j k:Nat}(hj:j<=k)(hk:k<s.length)(h:s.getD k 0=46)(hn:∀x,j<=x->x<k->s.getD x 0≠46):Qy (s.drop j)=(s.take k).drop j::Qy (s.drop (k+1)):=by
  have hg:∀x,(s.drop j).getD x 0=s.getD (j+x) 0:=λx=>by rw[List.getD_eq_getElem?_getD,List.getD_eq_getElem?_getD,List.getElem?_drop]
  rw[split_at (i:=k-j) (by rw[List.length_drop];omega) (by rw[hg,show j+(k-j)=k by omega];exact h) (λx hx=>by rw[hg];exact hn _ om om),List.drop_drop,show j+(k-j+1)=k+1 by omega,List.drop_take]
theorem Qkz{s:List UInt8}{j:Nat}(hn:∀x,j<=x->x<s.length->s.getD x 0≠46):Qy (s.drop j)=[s.drop j]:=Qej λhm=>by
  obtain⟨x,hx,e⟩:=Qd4 (d:=0) hm;rw[List.length_drop]at hx;refine hn (j+x) om om ?_;rw[<-e,List.getD_eq_getElem?_getD,List.getD_eq_getElem?_getD,List.getElem?_drop]
theorem QhB:∀s:List UInt8,(Qy s).length<=s.length+1
  | []=>by simp[Qy]
  | c::s=>by
    have:=QhB s;unfold Qy;split
    · simp;omega
    · have h2:=List.length_pos_iff.2 (Qeo s);simp only[List.length_cons,List.length_tail];omega
theorem QbL:∀(s:List UInt8),∀p∈Qy s,p.length<=s.length
  | [],p,h=>by simp[Qy]at h;simp[h]
  | c::s,p,h=>by
    unfold Qy at h;split at h
    · rcases List.mem_cons.1 h with rfl|h
      · simp
      · have:=QbL s p h;simp;omega
    · rcases List.mem_cons.1 h with rfl|h
      · have h2:=Qeo s
        have h3:(Qy s).head!∈Qy s:=by
          cases hA:Qy s with
          | nil=>exact absurd hA h2
          | cons a l=>simp[List.head!]
        have:=QbL s _ h3;simp only[List.length_cons];omega
      · have:=QbL s p (List.mem_of_mem_tail h);simp;omega
theorem QtO{s:List UInt8}(h:(2<((Qy s).length:Int)\/¬1<=(((Qy s).getD 0 []).length:Int)\/¬(((Qy s).getD 0 []).length:Int)<=8)\/((Qy s).length:Int)=2/\(¬1<=(((Qy s).getD 1 []).length:Int)\/¬(((Qy s).getD 1 []).length:Int)<=3)):shR s=false:=by
  rw[Bool.eq_false_iff];intro hA;unfold shR at hA;simp only[Bool.and_eq_true,Bool.or_eq_true,Bool.not_eq_true',decide_eq_true_eq,decide_eq_false_iff_not]at hA;obtain⟨⟨⟨h1,h2⟩,h3⟩,_⟩:=hA;omega
theorem QrD{s:List UInt8}(h:(¬2<((Qy s).length:Int)/\1<=(((Qy s).getD 0 []).length:Int)/\(((Qy s).getD 0 []).length:Int)<=8)/\(¬((Qy s).length:Int)=2\/1<=(((Qy s).getD 1 []).length:Int)/\(((Qy s).getD 1 []).length:Int)<=3)):shR s=s.all λc=>decide (c=46)||Xu c:=by
  unfold shR
  have hA:(decide ((Qy s).length<=2)&&(decide (1<=((Qy s).getD 0 []).length)&&decide (((Qy s).getD 0 []).length<=8))&&(!decide ((Qy s).length=2)||(decide (1<=((Qy s).getD 1 []).length)&&decide (((Qy s).getD 1 []).length<=3))))=true:=by
    simp only[Bool.and_eq_true,Bool.or_eq_true,Bool.not_eq_true',decide_eq_true_eq,decide_eq_false_iff_not];omega
  rw[hA,Bool.true_and]
theorem c221(w:World)(s:List UInt8)(hm:s.length<=1000000):CE 221 #[.string (bs s),.int .u8 46] w [] (λg:Option Addr×Nat=>.slice g.1 (Qy s).length g.2) (λg=>True) λg=>[.own (.slice g.1 (Qy s).length g.2) 9 1 (Qy s).length ((Qy s).map Qdq)]:=by
 refine eN2 Tryz.func221 Tryz.ntmps221 ?_
 refine Qud ?_
 refine Qp (α:=Nat×Nat×(Option Addr×Nat)×List (List UInt8)) [5,6,7,8,9,10,11,12,13,14,15,16,17,18,19,20,21,22,23,24,25,26,27] (λy=>[(7,.int .i64 (y.1:Int)),(6,.int .i64 (y.2.1:Int)),(5,.slice y.2.2.1.1 y.2.2.2.length y.2.2.1.2)]) (λy=>HS w [] [.own (.slice y.2.2.1.1 y.2.2.2.length y.2.2.1.2) 9 1 y.2.2.2.length (y.2.2.2.map Qdq)]) (λy=>y.2.1<=y.1/\y.1<=s.length/\(Qy s=y.2.2.2++Qy (s.drop y.2.1)/\y.2.2.2.length<=y.2.1)/\∀x,y.2.1<=x->x<y.1->s.getD x 0≠46) (λy=>s.length-y.1) (0,0,(none,0),[]) ⟨Nat.le_refl _,Nat.zero_le _,⟨rfl,Nat.le_refl _⟩,λx _ h=>absurd h (Nat.not_lt_zero x)⟩ aSx (λw h=>(h.own_nil 9 1).ent aEt) (λ⟨k,j,A,P⟩hy=>?_)
 dsimp only at hy ⊢
 obtain⟨hy1,hy2,⟨hy3,hyl⟩,hy4⟩:=hy
 refine aU5 ?_
 refine o_p (Qn rfl rfl Tryz.underlying9) rfl (aU2 ?_)
 refine sCd rfl (λh1=>?_) λh1=>?_
 ·have hk:k<s.length:=by omega
  have e46:((s.getD k 0).toNat:Int)=46 ↔ s.getD k 0=46:=⟨λh=>UInt8.toNat_inj.1 (by show(s.getD k 0).toNat=46;omega),λh=>by rw[h];rfl⟩
  refine aU7 ?_
  refine o_p (Qr rfl rfl rfl Tryz.underlying9 (k) om om) rfl ?_
  refine aU3 ?_
  refine sCd rfl (λh2=>?_) λh2=>?_
  ·have hc46:s.getD k 0=46:=e46.1 h2
   have hsg:=QoD hy1 hk hc46 hy4
   refine aU6 ?_
   refine o_p (QaA _ _ j k rfl rfl Tryz.underlying9 ⟨_,_,rfl,rfl⟩ ⟨_,_,rfl,rfl⟩ om om) rfl (o_h (Ql (cs:=[_]) rfl rfl Zf Qiv rfl rfl rfl) rfl (λb3 _=>o_h (QF (n:=P.length) [.string (bs ((s.take k).drop j))] rfl rfl rfl Zf Tryz.underlying69 Qiv rfl aPk (Xk aPk) rfl (by intro u hu;simp only[List.mem_cons,List.mem_nil_iff,or_false]at hu;subst hu;rfl) om (by simp only[maxLen];omega)) rfl (λb4 _=>aT5 ?_)))
   refine aT6 ?_
   refine aU2 ?_
   exact Qs (k+1,k+1,b4,P++[(s.take k).drop j]) (by show s.length-(k+1)<s.length-k;omega) ⟨Nat.le_refl _,by show k+1<=s.length;omega,⟨by dsimp only;rw[hy3,hsg,List.append_assoc];rfl,by dsimp only;rw[List.length_append,List.length_singleton];omega⟩,λx h1 h2=>absurd (Nat.lt_of_lt_of_le h2 h1) (Nat.lt_irrefl _)⟩ (by(try dsimp only);rw[List.length_append];exact aSx) (λw h=>by dsimp only;rw[List.length_append,List.map_append];exact h.ent aEt)
  have hc46:¬s.getD k 0=46:=λhA=>h2 (e46.2 hA)
  refine aT5 ?_
  refine aU2 ?_
  exact sBk (k+1,j,A,P) (by show s.length-(k+1)<s.length-k;omega) ⟨by show j<=k+1;omega,by show k+1<=s.length;omega,⟨hy3,hyl⟩,λx h1 h2=>(Nat.lt_succ_iff_lt_or_eq.1 h2).elim (hy4 x h1) (λe=>by rw[e];exact hc46)⟩
 obtain rfl:k=s.length:=om
 have hse:=Qkz (s:=s) (j:=j) hy4
 refine Qg rfl ?_
 refine aU5 ?_
 refine o_p (XI j rfl rfl rfl Tryz.underlying9 rfl om) rfl (o_h (Ql (cs:=[_]) rfl rfl Zf Qiv rfl rfl rfl) rfl (λb5 _=>o_h (QF (n:=P.length) [.string (bs (s.drop j))] rfl rfl rfl Zf Tryz.underlying69 Qiv rfl aPk (Xk aPk) rfl (by intro u hu;simp only[List.mem_cons,List.mem_nil_iff,or_false]at hu;subst hu;rfl) om (by simp only[maxLen];omega)) rfl (λb6 _=>aU2 ?_)))
 exact rT rfl rfl (λw' h'=>⟨b6,by simp only[QA];rw[hy3,hse,List.length_append];rfl,trivial,by rw[hy3,hse,List.length_append,List.map_append];exact h'.ent aEt⟩)
set_option maxHeartbeats 2000000 in
theorem c158(w:World)(s:List UInt8)(hm:s.length<=100000):CR 158 #[.string (bs s)] w (.bool (YR s)):=by
 have hpl:=QhB s
 have hp0:=List.length_pos_iff.2 (Qeo s)
 have hx0:((Qy s).getD 0 []).length<=s.length:=QbL s _ (XL hp0)
 have e46:∀k:Nat,((s.getD k 0).toNat:Int)=46 ↔ s.getD k 0=46:=λk=>⟨λh=>UInt8.toNat_inj.1 (by show(s.getD k 0).toNat=46;omega),λh=>by rw[h];rfl⟩
 refine eN1 Tryz.func158 Tryz.ntmps158 ?_
 refine aU7 ?_
 refine oCh rfl (λw1 h1=>c221 w1 s om) (λgs _=>aU ?_)
 refine QiC (λw h=>(h.vl_own aPk).some (by rw[List.length_map];exact hp0)) (λhsm=>aU8 ?_)
 refine oOr 7 10 17 rfl
  (λhg1 _=>by
   refine aU3 ?_
   refine o_p (Qa rfl rfl rfl Zf (0) om om hsm) rfl (aU ?_)
   refine o_q (QN rfl rfl X1 (λw h=>(h.vl_own aPk).rd (Qce (k:=0) hp0))) rfl (aU ?_)
   refine o_p (Qn rfl rfl Tryz.underlying9) rfl (aU ?_)
   refine oCq rfl (λw1 h1=>c27 w1 _ _ _) (aU2 ?_)
   exact oJf 7 17)
  (λhg3 _=>by
   refine aU6 ?_
   exact oJt 7 17) ?_
 refine aU ?_
 refine oOr 12 18 30 rfl
  (λhg5 _=>by
   refine aU8 ?_
   refine Xi 7 22 29 rfl
    (λhg7 _=>by
     refine aU3 ?_
     refine o_p (Qa rfl rfl rfl Zf (1) om om hsm) rfl (aU ?_)
     refine o_q (QN rfl rfl X1 (λw h=>(h.vl_own aPk).rd (Qce (k:=1) (by have hq:=hg7;simp at hq;omega)))) rfl (aU ?_)
     refine o_p (Qn rfl rfl Tryz.underlying9) rfl (aU ?_)
     refine oCq rfl (λw1 h1=>c27 w1 _ _ _) (aU3 ?_)
     exact oJt 7 29)
    (λhg9 _=>by
     refine aU7 ?_
     exact oJf 7 29) ?_
   exact oJf 6 30)
  (λhg11 _=>by
   refine Qab ?_
   exact oJt 12 30) ?_
 refine aU ?_
 refine sCd rfl (λh13=>?_) λh13=>?_
 ·have hf:shR s=false:=QtO h13
  refine aU4 ?_
  exact rV (h:=by rw[<-QkY,hf];rfl)
 have hr:shR s=s.all λc=>decide (c=46)||Xu c:=QrD h13
 refine aU7 ?_
 refine Qd (L':=[(0,_),(2,_),(4,_)]) aSx (λ_ h=>h) ?_
 refine Qp (α:=Nat) [2,4,31,32,33,34,35,36,37,38,39,40,41,42,43,44,45,46,47] (λk=>[(4,.int .i64 (k:Int))]) (λ_=>HS w [] []) (λk=>k<=s.length/\(s.take k).all (λc=>decide (c=46)||Xu c)=true) (λk=>s.length-k) 0 ⟨Nat.zero_le _,rfl⟩ aSx (λw h=>h.ent aEt) (λk hkk=>?_)
 obtain⟨hk1,hk2⟩:=hkk
 refine aU5 ?_
 refine o_p (Qn rfl rfl Tryz.underlying9) rfl (aU2 ?_)
 refine sCd rfl (λh14=>?_) λh14=>?_
 ·have hk:k<s.length:=by omega
  have hst:=Qfx (p:=λc=>decide (c=46)||Xu c) hk
  refine aU7 ?_
  refine o_p (Qr rfl rfl rfl Tryz.underlying9 (k) om om) rfl ?_
  refine aU2 ?_
  refine Xi 6 41 47 rfl
   (λhg15 _=>by
    refine aU5 ?_
    refine o_p (Qr rfl rfl rfl Tryz.underlying9 (k) om om) rfl ?_
    refine aU ?_
    refine oCq rfl (λw1 h1=>c222 w1 (s.getD k 0)) (aU2 ?_)
    exact oJt 6 47)
   (λhg17 _=>by
    refine aU5 ?_
    exact oJf 6 47) ?_
  refine aU ?_
  refine sCd rfl (λh19=>?_) λh19=>?_
  ·have hf:shR s=false:=by rw[hr];exact Qil hk (by have hq:=h19;simp only[e46]at hq;simp;exact hq)
   refine aU4 ?_
   exact rV (h:=by rw[<-QkY,hf];rfl)
  have hk3:(decide (s.getD k 0=46)||Xu (s.getD k 0))=true:=by have hq:=h19;simp only[e46]at hq;simp;grind
  refine aT5 ?_
  refine aU2 ?_
  exact sBk (k+1) om ⟨om,by rw[hst,hk2,hk3];rfl⟩
 obtain rfl:k=s.length:=om
 refine Qg rfl ?_
 refine aU4 ?_
 exact rV (h:=by rw[List.take_length]at hk2;rw[<-QkY,hr,hk2];rfl)
theorem c121(w:World)(t s:List UInt8)(hl:t.length=128)(hc:∀c∈s,c.toNat<128)(hm:s.length<=100000):CR 121 #[.string (bs t),.string (bs s)] w (.bool (!YR (up t s))):=by
 have hul:=ZL t s
 refine eN2 Tryz.func121 Tryz.ntmps121 ?_
 refine aU8 ?_
 refine oCq rfl (λw1 h1=>c159 w1 t s hl hc om) (oCq rfl (λw1 h1=>c158 w1 (up t s) om) (aU3 ?_))
 exact rV
end Go.Proofs
namespace Gx
open Go Go.RowKit
theorem HS.trans9{w0 w w':World}{M:List Nat}{As:List HA}(h0:HS w0 M [] w)(h:HS w M As w'):HS w0 M [] w':=
 ⟨h.os.trans h0.os,h.tape.trans h0.tape,h.output.trans h0.output,Nat.le_trans h0.size h.size,λb hb hm=>(h.old b (Nat.lt_of_lt_of_le hb h0.size) hm).trans (h0.old b hb hm),λ_ h=>(by cases h),λ_ h=>(by cases h),.nil⟩
theorem dv9(e:DEnt):e.vals.length=9:=rfl
theorem dv1(e:DEnt):∀u∈e.vals,u.oneCell'=true:=by
 intro u hu;simp only[DEnt.vals,List.mem_cons,List.mem_nil_iff,or_false]at hu;rcases hu with rfl|rfl|rfl|rfl|rfl|rfl|rfl|rfl|rfl<;>rfl
theorem QuV{w:World}{M:List Nat}{b:Nat}{e:DEnt}(hr:∀j v,(e.vals)[j]?=some v->Rd w M b (0+j) v):∀j v,([.int .i64 e.re,.int .i64 e.sq]:List Value)[j]?=some v->Rd w M b (0+3+j) v:=by
 intro j v hv;have h:=hr (3+j) v;rw[show 0+3+j=0+(3+j)from om]
 match j,hv with
 | 0,hv=>exact h hv
 | 1,hv=>exact h hv
 | j+2,hv=>simp at hv
theorem Qtq{w:World}{M:List Nat}{b:Nat}{e:DEnt}(hr:∀j v,(e.vals)[j]?=some v->Rd w M b (0+j) v):∀j v,([.int .i64 e.fl,.int .i64 e.tm,.int .i64 e.al,.int .i64 e.sz]:List Value)[j]?=some v->Rd w M b (0+5+j) v:=by
 intro j v hv;have h:=hr (5+j) v;rw[show 0+5+j=0+(5+j)from om]
 match j,hv with
 | 0,hv=>exact h hv
 | 1,hv=>exact h hv
 | 2,hv=>exact h hv
 | 3,hv=>exact h hv
 | j+4,hv=>simp at hv
theorem QhQ{w:World}{M:List Nat}{a:Option Addr}{l:List DEnt}(h:Rw DEnt.vals 9 w M a l){k:Nat}(hk:k<l.length):∀j v,([.int .i64 (nth l k).re,.int .i64 (nth l k).sq]:List Value)[j]?=some v->Rd w M (ab a) (ao a+k*9+3+j) v:=by
 intro j v hv;have h9:=h.rd hk (3+j) v;rw[show ao a+k*9+3+j=ao a+k*9+(3+j)from om]
 match j,hv with
 | 0,hv=>exact h9 hv
 | 1,hv=>exact h9 hv
 | j+2,hv=>simp at hv
theorem Qcn{w:World}{M:List Nat}{a:Option Addr}{l:List DEnt}(h:Rw DEnt.vals 9 w M a l){k:Nat}(hk:k<l.length):∀j v,([.int .i64 (nth l k).fl,.int .i64 (nth l k).tm,.int .i64 (nth l k).al,.int .i64 (nth l k).sz]:List Value)[j]?=some v->Rd w M (ab a) (ao a+k*9+5+j) v:=by
 intro j v hv;have h9:=h.rd hk (5+j) v;rw[show ao a+k*9+5+j=ao a+k*9+(5+j)from om]
 match j,hv with
 | 0,hv=>exact h9 hv
 | 1,hv=>exact h9 hv
 | 2,hv=>exact h9 hv
 | 3,hv=>exact h9 hv
 | j+4,hv=>simp at hv
section
variable{w0 w:World}{M:List Nat}{As As':List HA}{b t tot:Nat}{l:List DEnt}
theorem Qqt(h:HS w0 M As w)(hp:QL As (.blk b t tot (l.flatMap DEnt.vals)) As'){k:Nat}(hk:k<l.length):∀j v,(DEnt.vals (nth l k))[j]?=some v->Rd w [] b (0+k*9+j) v:=λj v hj=>by
 have hlt:j<9:=by
  rcases Nat.lt_or_ge j (DEnt.vals (nth l k)).length with h|h
  ·exact h
  ·rw[List.getElem?_eq_none h]at hj;cases hj
 rw[Nat.zero_add];exact h.rd_blk (Mc:=[]) hp (by rw[QdL dv9 l k j _ (Xw hk) hlt];exact hj) (by simp)
theorem QrW(h:HS w0 M As w)(hp:QL As (.blk b t tot (l.flatMap DEnt.vals)) As'){k o:Nat}{x:DEnt}(hk:k<l.length)(ho:o=k*9)(hx:nth l k=x):∀j v,(DEnt.vals x)[j]?=some v->Rd w [] b (o+j) v:=by
 subst hx ho;intro j v hv;have h9:=Qqt h hp hk j v hv
 rwa[Nat.zero_add]at h9
theorem Qt7(h:HS w0 M As w)(hp:QL As (.blk b t tot (l.flatMap DEnt.vals)) As'):Rw DEnt.vals 9 w [] (some ⟨b,0,none⟩) l:=⟨λh0=>⟨b,0,rfl,λi hi=>⟨rfl,λj v hv=>Qqt h hp hi j v hv⟩⟩⟩
end
theorem Qsp{l:List DEnt}{i:Nat}(hi:i<l.length)(x:DEnt):Qf (l.flatMap DEnt.vals) (0+i*9) (DEnt.vals x)=(l.set i x).flatMap DEnt.vals:=by
 have h:=Z7 dv9 l i 0 (DEnt.vals x) (nth l i) x (Xw hi) rfl (by simp[DEnt.vals])
 rwa[Nat.add_zero,<-Nat.zero_add (i*9)]at h
theorem QrY{l:List DEnt}{i:Nat}(hi:i<=l.length){zs:List Value}(hz:zs.length=(l.length-i)*9):Qf (l.flatMap DEnt.vals) (i*9) zs=(l.take i).flatMap DEnt.vals++zs:=by
 have hl:=QP dv9 l;have ht:((l.take i).flatMap DEnt.vals).length=i*9:=by rw[QP dv9,List.length_take];omega
 rw[QgK _ _ _ om];have e:l.flatMap DEnt.vals=(l.take i).flatMap DEnt.vals++(l.drop i).flatMap DEnt.vals:=by rw[<-List.flatMap_append,List.take_append_drop]
 rw[List.drop_eq_nil_of_le om,List.append_nil];congr 1;rw[e,List.take_left' ht]
def Qdz(K l:List DEnt):List DEnt:=K++l.drop K.length
theorem Qa1{K l:List DEnt}(h:K.length<=l.length):(Qdz K l).length=l.length:=by
 unfold Qdz;rw[List.length_append,List.length_drop];omega
theorem QqE{K l:List DEnt}{j:Nat}(h:K.length<=j)(hj:j<l.length):nth (Qdz K l) j=nth l j:=by
 apply Yi;unfold Qdz;rw[List.getElem?_append_right h,List.getElem?_drop,show K.length+(j-K.length)=j by omega];exact Xw hj
theorem QoJ{K l:List DEnt}(h:K.length<l.length)(x:DEnt):(Qdz K l).set K.length x=Qdz (K++[x]) l:=by
 unfold Qdz;rw[List.drop_eq_getElem_cons h,List.set_append_right _ _ (Nat.le_refl _),Nat.sub_self,List.set_cons_zero,List.length_append,List.length_singleton,List.append_assoc];rfl
theorem QnN(l:List DEnt)(i:Nat):Qdz (l.take i) l=l:=by
 unfold Qdz;rw[List.length_take];rcases Nat.le_total i l.length with h|h
 ·rw[Nat.min_eq_left h,List.take_append_drop]
 ·rw[Nat.min_eq_right h,List.drop_length,List.append_nil,List.take_of_length_le h]
theorem Qoo(K l:List DEnt):(Qdz K l).take K.length=K:=by
 unfold Qdz;rw[List.take_left' rfl]
section
variable{w0 w:World}{M:List Nat}{As As':List HA}{b t tot:Nat}{K l:List DEnt}{x:DEnt}{zs:List Value}
theorem Qpn(hK:K.length<l.length)(hp:QL As (.blk b t tot (Qf ((Qdz K l).flatMap DEnt.vals) (0+K.length*9) (DEnt.vals x))) As')(h:HS w0 M As w):HS w0 M (.blk b t tot ((Qdz (K++[x]) l).flatMap DEnt.vals)::As') w:=by
 have h1:=h.pick hp;rw[Qsp (by rw[Qa1 om];exact hK),QoJ hK]at h1;exact h1
theorem QnR(h:HS w0 M As w)(hp:QL As (.blk b t tot (Qf ((Qdz K l).flatMap DEnt.vals) (K.length*9) zs)) As')(hK:K.length<=l.length)(hz:zs.length=(l.length-K.length)*9):HS w0 M (.blk b t tot (K.flatMap DEnt.vals)::As') w:=by
 have h1:=h.pick hp;rw[QrY (by rw[Qa1 hK];exact hK) (by rw[Qa1 hK];exact hz),Qoo]at h1;exact HS.blk_less .here h1
end
def kpD(p:DEnt->Bool)(l:List DEnt)(j:Nat):List DEnt:=(l.take j).filter λx=>!p x
section
variable{p:DEnt->Bool}{l:List DEnt}{j:Nat}
theorem QsB:(kpD p l j).length<=j/\(kpD p l j).length<=l.length:=by
 have:=List.length_filter_le (λx=>!p x) (l.take j);rw[List.length_take]at this;unfold kpD;omega
theorem Qkk(hj:j<l.length):kpD p l (j+1)=if p (nth l j)=true then kpD p l j else kpD p l j++[nth l j]:=by
 unfold kpD;rw[List.take_add_one,Xw hj,List.filter_append]
 by_cases h:p (nth l j)=true
 ·simp[h]
 ·simp[h]
theorem Qij:kpD p l l.length=l.filter λx=>!p x:=by unfold kpD;rw[List.take_length]
theorem QjI(h:∀k,k<j->p (nth l k)=false)(hj:j<=l.length):kpD p l j=l.take j:=by
 unfold kpD;rw[List.filter_eq_self];intro x hx;obtain⟨i,hi,rfl⟩:=List.getElem_of_mem hx;rw[List.length_take]at hi;have h1:=h i om;rw[List.getElem_take];rw[show nth l i=l[i]from Yi (List.getElem?_eq_getElem om)]at h1;rw[h1];rfl
end
theorem QmB(bt:List Bool):(ixI bt= -1/\∀k,k<bt.length->bt.getD k false=false)\/∃i,i<bt.length/\ixI bt=(i:Int)/\bt.getD i false=true/\∀k,k<i->bt.getD k false=false:=by
 have key:∀l:List Bool,(∀k,k<ixB l->l.getD k false=false)/\(ixB l<l.length->l.getD (ixB l) false=true):=λl=>by
  induction l with
  | nil=>exact⟨λk hk=>by simp[ixB]at hk,λh=>by simp at h⟩
  | cons a l ih=>
   rw[ixB];cases a with
   | true=>exact⟨λk hk=>by simp at hk,λ_=>by simp⟩
   | false=>
    refine⟨λk hk=>?_,λh=>?_⟩
    ·cases k with
     | zero=>rfl
     | succ k=>simpa using ih.1 k (by simpa using hk)
    ·simpa using ih.2 (by simpa using h)
 obtain⟨h1,h2⟩:=key bt;unfold ixI;split
 ·rename_i h;exact .inr ⟨ixB bt,h,rfl,h2 h,h1⟩
 ·rename_i h;exact .inl ⟨rfl,λk hk=>h1 k om⟩
def Qmc(s:List UInt8):Bool:=!YR (up QaN s)
def QgO(e:DEnt):Bool:=if e.sp=2 then !Qmc e.nm else if e.sp=0 then Qmc e.nm else YR e.nm
def prB(e o:DEnt):Bool:=decide (o.nm=e.ot)&&decide (o.ot=e.nm)&&decide (o.sp=if e.sp=1 then 0 else 1)&&decide (o.re=e.re/\o.sq=e.sq)&&decide (o.fl=e.fl/\o.tm=e.tm/\o.al=e.al/\o.sz=e.sz)
def Qkj(l:List DEnt)(e:DEnt):Nat:=ixB (l.map (prB e))
def QgT(l:List DEnt)(e:DEnt):Bool:=decide (Qkj l e<l.length)
def Qft(l:List DEnt)(e:DEnt):DEnt:=if Qkj l e<l.length then nth l (Qkj l e)else noE
def stE(ds:List DEnt)(e:DEnt):Int:=if QgO e=true then if e.sp=2 then 0 else if QgT ds e=true then 0 else 21 else 20
def QmN(X:List TEnt):Int×Int:=if(QD (X.map dcE) 0).2=0 then QD ((X.map Qe).map (stE (X.map Qe))) 0 else QD (X.map dcE) 0
def Xa(t:Tre)(X:List TEnt):Int×Int:=if(Yb t).2=0 then if t.co=1 then QmN X else(0,15)else Yb t
def Qc1(t:Tre)(X:List TEnt):List DEnt:=if(Xa t X).2=0 then X.map Qe else[]
def Qk(l:List DEnt):List DEnt:=l.filter λx=>!decide (x.sp=1)
def DT(t:Tre)(T:BT):Prop:=(Yb t).2=0->∃d lo hi,Bel lo hi d T/\NIn t.ns T/\T.idx=0/\T.flat.length<=10000/\∀x∈T.flat,x.key.length<=100000/\x.val.length<=100000
theorem QlH(l:List DEnt)(e:DEnt):QgT l e=l.any (prB e):=by
 unfold QgT Qkj;have h:=QmB (l.map (prB e));rw[List.length_map]at h;unfold ixI at h;rw[List.length_map]at h;have hg:∀k,k<l.length->(l.map (prB e)).getD k false=prB e (nth l k):=λk hk=>Yd (d:=default) hk
 by_cases hk:ixB (l.map (prB e))<l.length
 ·rw[decide_eq_true hk];rw[if_pos hk]at h;rcases h with⟨h1,_⟩|⟨i,hi,_,h3,_⟩
  ·omega
  ·symm
   rw[List.any_eq_true];exact⟨nth l i,Qt hi,by rw[<-hg i hi];exact h3⟩
 ·rw[decide_eq_false hk];rw[if_neg hk]at h;rcases h with⟨_,h2⟩|⟨i,hi,h1,h3,_⟩
  ·symm
   rw[List.any_eq_false];intro x hx;obtain⟨i,hi,rfl⟩:=List.getElem_of_mem hx;have h5:=h2 i hi;rw[hg i hi]at h5;have h6:nth l i=l[i]:=by unfold nth;rw[List.getD_eq_getElem?_getD,List.getElem?_eq_getElem hi];rfl
   rw[<-h6,h5];simp
  ·omega
end Gx
namespace Go.Proofs
open Go Go.RowKit Gx
attribute [local irreducible] Go.Calls Gx.S Gx.O Gx.D Gx.OpP Gx.OpQ Gx.OpH
set_option maxRecDepth 20000
theorem Zr:tsl Tryz.prog 128=some (66,9,88):=by kernel_rfl
theorem Qo1:QJ Tryz.prog 82=true:=by kernel_rfl
instance:TFn Tryz.prog 82:=⟨Qo1⟩
instance:TFn Tryz.prog 169:=⟨by kernel_rfl⟩
instance:TFn Tryz.prog 117:=⟨by kernel_rfl⟩
theorem QfC:Qj1 Tryz.prog 26=some [0,0]:=by kernel_rfl
theorem Qbw:Qj1 Tryz.prog 28=some [0,0,0,0]:=by kernel_rfl
theorem QoI{s:List UInt8}(h:QT s=0):openE QaN [s]=0:=by
  unfold openE;rw[if_pos (by rw[Qh3])];simp[Xt,h]
theorem Zc{s:List UInt8}(h:QT s=0):(∀c∈s,c.toNat<128)/\s.length<=32:=by
  unfold QT at h;split at h
  · rename_i hl;refine⟨?_,hl⟩;split at h
    · rename_i hs;unfold ZS at hs;simp only[Bool.and_eq_true,List.all_eq_true]at hs;intro c hc;have h9:=hs.1.1.1.2 c hc;unfold Yv at h9;simp only[Bool.and_eq_true,decide_eq_true_eq]at h9;omega
    · exact absurd h (by decide)
  · exact absurd h (by decide)
theorem c117(w:World)(s:List UInt8)(h0:QT s=0):CR 117 #[.string (bs s)] w (.bool (Qmc s)):=by
 have hl:=(Zc h0).2
 refine eN1 Tryz.func117 Tryz.ntmps117 ?_
 refine aU6 ?_
 refine oCq rfl (λw1 h1=>c82 w1) (aU ?_)
 refine oCq rfl (λw1 h1=>by have h9:=c169 w1 QaN s (by rw[YA];decide) om;rw[QoI h0,if_pos rfl]at h9;exact h9) (Qab ?_)
 exact rV
theorem c136(w:World)(e:DEnt)(h0:QT e.nm=0):CR 136 #[.agg #[.string (bs e.nm),.int .i64 e.sp,.string (bs e.ot),.int .i64 e.re,.int .i64 e.sq,.int .i64 e.fl,.int .i64 e.tm,.int .i64 e.al,.int .i64 e.sz]] w (.bool (QgO e)):=by
 have hl:=(Zc h0).2
 refine eN1 Tryz.func136 Tryz.ntmps136 ?_
 refine aU2 ?_
 refine oBx λb1 _=>?_
 refine Qkh ?_
 refine sCd rfl (λh2=>?_) λh2=>?_
 ·have h1:e.sp=2:=h2
  refine aU4 ?_
  refine oCq rfl (λw1 h1=>c117 w1 e.nm h0) (aU3 ?_)
  exact rV (h:=by rw[QgO,if_pos h1];rfl)
 have h1:¬e.sp=2:=h2
 refine aU5 ?_
 refine sCd rfl (λh3=>?_) λh3=>?_
 ·have h2:e.sp=0:=h3
  refine aU4 ?_
  refine oCq rfl (λw1 h1=>c117 w1 e.nm h0) (aU2 ?_)
  exact rV (h:=by rw[QgO,if_neg h1,if_pos h2];rfl)
 have h2:¬e.sp=0:=h3
 refine aU6 ?_
 refine oCq rfl (λw1 h1=>QrP w1 e.nm om) (aU2 ?_)
 exact rV (h:=by rw[QgO,if_neg h1,if_neg h2];rfl)
theorem c140(w:World)(a:Option Addr)(cap:Nat)(l:List DEnt)(hs:Rw DEnt.vals 9 w [] a l)(hm:l.length<=1000000):CE 140 #[.slice a l.length cap] w [] (λg:Option Addr×Nat=>.slice g.1 l.length g.2) (λg=>True) λg=>[.own (.slice g.1 l.length g.2) 66 9 l.length (l.flatMap DEnt.vals)]:=by
 refine eN1 Tryz.func140 Tryz.ntmps140 ?_
 refine aU8 ?_
 refine o_p (XB rfl rfl rfl Tryz.underlying128) rfl (aU ?_)
 refine sCd rfl (λh1=>?_) λh1=>?_
 ·have ha0:a=none:=by cases a with|none=>rfl|some b=>simp at h1
  subst ha0
  have hl0:l=[]:=Rw.none hs
  refine aU4 ?_
  exact rT rfl rfl (λw' h'=>⟨(none,0),by rw[hl0];rfl,trivial,by rw[hl0];exact(h'.own_nil 66 9).ent aEt⟩)
 refine aU3 ?_
 refine o_h (X3 rfl Zr) rfl (λb2 _=>aU ?_)
 refine o_h (QF (l.flatMap DEnt.vals) rfl rfl rfl Zr Tryz.underlying128 Xh rfl aPk (λw h=>Rw.src dv9 hs h) (QP dv9 l) (Qai dv1 l) om (by simp only[maxLen];omega)) rfl (λb3 _=>aU2 ?_)
 exact rT rfl rfl (λw' h'=>⟨b3,by simp only[QA,Nat.zero_add],trivial,by have h2:=h';simp only[Nat.zero_add,List.nil_append]at h2;exact h2.ent aEt⟩)
theorem QtB(w:World)(a:Option Addr)(cap:Nat)(l:List DEnt)(q:Nat)(cv:Array Value)(bt:List Bool)(hs:Rw DEnt.vals 9 w [] a l)(hm:l.length<=1000000)(hq:QJ Tryz.prog q=true)(hb:bt.length=l.length)(hc:∀k w1,k<l.length->HS w [] [] w1->Calls Tryz.prog q (#[]++[.agg (DEnt.vals (nth l k)).toArray].toArray++cv) w1 λen w2=>en=.returned (.bool (bt.getD k false))/\Below w1.heap.size w1 w2):CR 152 #[.slice a l.length cap,.func (.func q) #[] cv] w (.int .i64 (ixI bt)):=by
 refine eN2 Tryz.func152 Tryz.ntmps152 ?_
 refine QbX ?_
 refine Qp (α:=Nat) [4,5,8,9,10,11,12,13,14,15,16,17,18] (λk=>[(8,.int .i64 (k:Int))]) (λ_=>_) (λk=>k<=l.length/\∀i,i<k->bt.getD i false=false) (λk=>l.length-k) 0 ⟨om,λi h=>absurd h (Nat.not_lt_zero i)⟩ aSx (λw h=>h) (λk hk=>?_)
 obtain⟨hk1,hk2⟩:=hk
 refine aU5 ?_
 refine sCd rfl (λh1=>?_) λh1=>?_
 ·refine Qas ?_
  refine o_p (Qa rfl rfl rfl Zr (k) om om (Rw.some hs om)) rfl (o_q (Qq _ rfl rfl YC rfl (Rw.rd hs om)) rfl (o_q (YF rfl rfl hq rfl (λw1 h1=>hc k w1 om (h1.ent aEt))) rfl (aU ?_)))
  refine sCd rfl (λh2=>?_) λh2=>?_
  ·refine aU5 ?_
   exact rV (h:=by have e:=Qdw (l:=bt) (k:=k) om hk2 (λ_=>by assumption);simp only[QA,ixI,e];rw[if_pos om])
  refine aT4 ?_
  refine aU2 ?_
  exact Qs (k+1) om ⟨om,λi hi=>(Nat.lt_or_ge i k).elim (hk2 i) (λh=>by obtain rfl:i=k:=om;assumption)⟩ aSx (λw h=>h)
 refine Qg rfl ?_
 refine aU4 ?_
 exact rV (h:=by have e:=Qdw (l:=bt) (k:=k) om hk2 (λh=>om);simp only[QA,ixI,e];rw[if_neg om])
theorem c185(w:World)(b3 b6:Nat)(e o:DEnt)(hr:∀j v,(e.vals)[j]?=some v->Rd w [] b3 (0+j) v)(hk:Rd w [] b6 0 (.int .i64 (if e.sp=1 then 0 else 1))):CR 185 #[.agg #[.string (bs o.nm),.int .i64 o.sp,.string (bs o.ot),.int .i64 o.re,.int .i64 o.sq,.int .i64 o.fl,.int .i64 o.tm,.int .i64 o.al,.int .i64 o.sz],.pointer (some ⟨b3,0,none⟩),.pointer (some ⟨b6,0,none⟩)] w (.bool (prB e o)):=by
 refine eN3 Tryz.func185 Tryz.ntmps185 ?_
 refine aU2 ?_
 refine oBx λb1 _=>?_
 refine aU7 ?_
 refine o_q (Qb rfl rfl X1 (hr 2 _ rfl)) rfl (aU2 ?_)
 refine Xi 6 10 16 rfl
  (λhg2 _=>by
   refine aU7 ?_
   refine o_q (Qb rfl rfl X1 (hr 0 _ rfl)) rfl (aU2 ?_)
   exact oJt 6 16)
  (λhg4 _=>by
   refine aU5 ?_
   exact oJf 6 16) ?_
 refine aU ?_
 refine Xi 5 17 22 rfl
  (λhg6 _=>by
   refine aU5 ?_
   refine o_q (Qb rfl rfl Zh (hk)) rfl (aU2 ?_)
   exact oJt 5 22)
  (λhg8 _=>by
   refine aU4 ?_
   exact oJf 5 22) ?_
 refine aU ?_
 refine Xi 6 23 29 rfl
  (λhg10 _=>by
   refine aU7 ?_
   refine o_q (Qq _ rfl rfl QbN rfl (QuV hr)) rfl (aU ?_)
   refine o_p (Xn rfl rfl rfl QfC (by rfl) (by rfl) (by rfl)) rfl ?_
   exact oJt 6 29)
  (λhg12 _=>by
   refine aU5 ?_
   exact oJf 6 29) ?_
 refine aU ?_
 refine Xi 6 30 36 rfl
  (λhg14 _=>by
   refine aU7 ?_
   refine o_q (Qq _ rfl rfl Zi rfl (Qtq hr)) rfl (aU ?_)
   refine o_p (Xn rfl rfl rfl Qbw (by rfl) (by rfl) (by rfl)) rfl ?_
   exact oJt 6 36)
  (λhg16 _=>by
   refine aU5 ?_
   exact oJf 6 36) ?_
 refine aU2 ?_
 exact rV (h:=by unfold prB;simp only[QA];congr 2;grind)
theorem QtE:QJ Tryz.prog 185=true:=by kernel_rfl
theorem Qut:QJ Tryz.prog 141=true:=by kernel_rfl
instance:TFn Tryz.prog 152:=⟨by kernel_rfl⟩
instance:TFn Tryz.prog 140:=⟨by kernel_rfl⟩
theorem QvS:QJ Tryz.prog 90=true:=by kernel_rfl
theorem c125(w:World)(a:Option Addr)(cap:Nat)(l:List DEnt)(e:DEnt)(hs:Rw DEnt.vals 9 w [] a l)(hm:l.length<=100000):CR 125 #[.slice a l.length cap,.agg #[.string (bs e.nm),.int .i64 e.sp,.string (bs e.ot),.int .i64 e.re,.int .i64 e.sq,.int .i64 e.fl,.int .i64 e.tm,.int .i64 e.al,.int .i64 e.sz]] w (.tuple #[.agg #[.string (bs (Qft l e).nm),.int .i64 (Qft l e).sp,.string (bs (Qft l e).ot),.int .i64 (Qft l e).re,.int .i64 (Qft l e).sq,.int .i64 (Qft l e).fl,.int .i64 (Qft l e).tm,.int .i64 (Qft l e).al,.int .i64 (Qft l e).sz],.bool (QgT l e)]):=by
 refine eN2 Tryz.func125 Tryz.ntmps125 ?_
 refine aU2 ?_
 refine oBx λb1 _=>?_
 refine oAl (λb2 _=>?_) Xh
 refine aU4 ?_
 refine oAl (λb3 _=>?_) QmU
 refine aU9 ?_
 refine Xy (α:=Unit) [] (λ_=>[]) (λ_=>HS w [] [.blk b3 3 1 [.int .i64 (if e.sp=1 then 0 else 1)],.blk b1 66 9 [.string (bs e.nm),.int .i64 e.sp,.string (bs e.ot),.int .i64 e.re,.int .i64 e.sq,.int .i64 e.fl,.int .i64 e.tm,.int .i64 e.al,.int .i64 e.sz],.blk b2 66 9 [.string (bs []),.int .i64 0,.string (bs []),.int .i64 0,.int .i64 0,.int .i64 0,.int .i64 0,.int .i64 0,.int .i64 0]]) (λ_=>True) ?_ ?_
 ·skip
  refine sCd rfl (λh4=>?_) λh4=>?_
  ·have h1:e.sp=1:=h4
   refine aU3 ?_
   exact Qo () trivial aSx (λw h=>by rw[if_pos h1];exact h.ent aEt)
  have h1:¬e.sp=1:=h4
  refine aU ?_
  exact Qo () trivial aSx (λw h=>by rw[if_neg h1];exact h.ent aEt)
 intro _ _
 refine aU4 ?_
 refine oCq rfl (λw1 h1=>QtB w1 a cap l 185 _ (l.map (prB e)) (hs.later h1) om QtE (by rw[List.length_map]) (λk w2 hk h2=>by have h9:=c185 w2 b1 b3 e (nth l k) (λj v hj=>(h1.rd_blk (Mc:=[]) aPk (by rw[Nat.zero_add];exact hj) (by simp)).later h2 (by simp)) ((h1.rd_blk (i:=0) aPk rfl (by simp)).later h2 (by simp));rw[Yd (d:=default) hk];exact h9)) (aU8 ?_)
 refine sCd rfl (λh5=>?_) λh5=>?_
 ·have hk:¬(Qkj l e)<l.length:=by have hq:=h5;unfold ixI at hq;rw[List.length_map]at hq;split at hq;(exfalso;omega);assumption
  refine aU2 ?_
  refine o_p (Xm (cs:=[_,_,_,_,_,_,_,_,_]) rfl rfl QgF Xh rfl) rfl (aU3 ?_)
  exact Qm (rs:=[.cell 4 66,.tmp 5]) rfl (.cell rfl YC aPk rfl (.tmp rfl (.nil))) (λw' h'=>⟨by rw[Qft,QgT,if_neg hk,decide_eq_false hk];rfl,h'.below⟩)
 have hk:(Qkj l e)<l.length:=by have hq:=h5;unfold ixI at hq;rw[List.length_map]at hq;split at hq;assumption;(exfalso;omega)
 have hix:ixI (l.map (prB e))=(((Qkj l e):Nat):Int):=by unfold ixI;rw[List.length_map,if_pos (show ixB (l.map (prB e))<l.length from hk)];rfl
 rw[hix]
 refine aU5 ?_
 refine o_p (Qa rfl rfl rfl Zr ((Qkj l e)) om om (Rw.some hs om)) rfl (o_q (Qq _ rfl rfl YC rfl (Rw.rd hs hk)) rfl (aU3 ?_))
 exact Qm (rs:=[.cell 4 66,.tmp 5]) rfl (.cell rfl YC aPk rfl (.tmp rfl (.nil))) (λw' h'=>⟨by rw[Qft,QgT,if_pos hk,decide_eq_true hk];rfl,h'.below⟩)
theorem c90(w:World)(b cap tot:Nat)(l:List DEnt)(w00:World)(q:Nat)(cv:Array Value)(p:DEnt->Bool)(h0:HS w00 [b] [] w)(hw:HS w [b] [.blk b 66 tot (l.flatMap DEnt.vals)] w)(hn:l.length<=1000000)(hnc:l.length<=cap)(hq:QJ Tryz.prog q=true)(hc:∀x w1,x∈l->HS w00 [b] [] w1->Calls Tryz.prog q (#[]++[.agg (DEnt.vals (x)).toArray].toArray++cv) w1 λen w2=>en=.returned (.bool (p x))/\Below w1.heap.size w1 w2):CE 90 #[.slice (some ⟨b,0,none⟩) l.length cap,.func (.func q) #[] cv] w [b] (λg:Unit=>.slice (some ⟨b,0,none⟩) (l.filter λx=>!p x).length cap) (λg=>True) λg=>[.blk b 66 tot ((l.filter λx=>!p x).flatMap DEnt.vals)]:=by
 have hix:=QmB (l.map p)
 rw[List.length_map]at hix
 have hg9:∀k,k<l.length->(l.map p).getD k false=p (nth l k):=λk hk=>Yd (d:=default) hk
 refine eW2 Tryz.func90 Tryz.ntmps90 hw ?_
 refine aU8 ?_
 refine oCq rfl (λw1 h1=>QtB w1 (some ⟨b,0,none⟩) cap l q cv (l.map p) (Qt7 h1 aPk) hn hq (by simp) (λk w2 hk h2=>by rw[hg9 k hk];exact hc (nth l k) w2 (Qt hk) ((h0.trans9 h1).call h2))) (aU8 ?_)
 refine sCd rfl (λh1=>?_) λh1=>?_
 ·have hfl:(l.filter λx=>!p x)=l:=by rw[<-Qij,QjI (λk hk=>?_) (Nat.le_refl _),List.take_length];rcases hix with h9|⟨i,h9,h8,_⟩;rw[<-hg9 k hk];exact h9.2 k hk;have hq8:=h1;omega
  refine aU5 ?_
  exact rT rfl rfl (λw' h'=>⟨(),by rw[hfl];rfl,trivial,by rw[hfl];exact h'.ent aEt⟩)
 obtain⟨i,hil,hie,hip,hin⟩:=hix.resolve_left (λh9=>h1 h9.1)
 rw[hie]
 have hki2:(kpD p l (i+1))=l.take i:=by rw[Qkk hil,<-hg9 i hil,if_pos hip,QjI (λk hk=>by rw[<-hg9 k om];exact hin k hk) om]
 have hki:(kpD p l (i+1)).length=i:=by rw[hki2,List.length_take];omega
 refine aT6 ?_
 refine aU3 ?_
 refine Qp (α:=Nat) [5,6,7,16,17,18,19,20,21,22,23,24,25,26,27,28,29,30,31,32,33,34,35] (λj=>[(6,.int .i64 (j:Int)),(5,.int .i64 ((kpD p l j).length:Int))]) (λj=>HS w [b] [.blk b 66 tot ((Qdz (kpD p l j) l).flatMap DEnt.vals)]) (λj=>j<=l.length) (λj=>l.length-j) (i+1) om (by rw[hki];exact aSx) (λw h=>by rw[hki2,QnN];exact h.ent aEt) (λj hj1=>?_)
 have hkl:=QsB (p:=p) (l:=l) (j:=j)
 refine aU8 ?_
 refine sCd rfl (λh2=>?_) λh2=>?_
 ·have hj:j<l.length:=by have hq8:=h2;omega
  have hst:=Qkk (p:=p) hj
  refine aU7 ?_
  refine o_p (Qa rfl rfl rfl Zr (j) om om rfl) rfl (o_q (Xx _ rfl rfl YC rfl (λw h=>QrW h aPk (k:=j) (by rw[Qa1 om];omega) (Nat.zero_add _) (QqE om hj))) rfl (oAl (λb3 _=>?_) Xh))
  refine aU6 ?_
  refine o_q (YF rfl rfl hq rfl (λw1 h1=>hc (nth l j) w1 (Qt hj) (h0.trans9 h1))) rfl (aU2 ?_)
  refine sCd rfl (λh4=>?_) λh4=>?_
  ·rw[if_neg (by have hq8:=h4;simp[hq8])]at hst
   refine aU5 ?_
   refine o_p (Qa rfl rfl rfl Zr ((kpD p l j).length) om om rfl) rfl (QcX (Xr rfl rfl rfl YC rfl aPt (by(try rw[Qi]);rw[QP dv9,Qa1 om];omega) rfl) (λ_ _=>aT4 ?_))
   refine aU3 ?_
   refine Qd (L':=[(0,_),(1,_),(4,_),(5,_),(6,_),(8,_),(9,_),(10,_),(11,_),(12,_),(14,_),(15,_)]) aSx (λ_ h=>h) ?_
   refine aT3 ?_
   refine aU2 ?_
   exact Qs (j+1) om om (by rw[hst,List.length_append,List.length_singleton];exact aSx) (λw h=>by have h2:=Qpn (K:=(kpD p l j)) (x:=nth l j) (l:=l) om aPk h;rw[hst];exact h2.ent aEt)
  rw[if_pos (by have hq8:=h4;simpa using hq8)]at hst
  refine aT5 ?_
  refine aU2 ?_
  exact Qs (j+1) om om (by rw[hst];exact aSx) (λw h=>by rw[hst];exact h.ent aEt)
 obtain rfl:j=l.length:=by have hq8:=h2;omega
 refine Qg rfl ?_
 refine aU4 ?_
 refine o_p (QV _ _ (kpD p l l.length).length l.length rfl rfl Zr ⟨_,_,rfl,rfl⟩ rfl om om) rfl (QcX (QlI rfl rfl Zr Xh rfl rfl (by simp) aPt (λhn=>Yk om) (by rw[QP dv9,Qa1 om];omega)) (λ_ _=>aU5 ?_))
 refine o_p (QV _ _ 0 (kpD p l l.length).length rfl rfl Zr rfl ⟨_,_,rfl,rfl⟩ om om) rfl ?_
 refine Qu (show _=Value.slice (some ⟨b,0,none⟩) (kpD p l l.length).length cap from by rw[QaW]<;>rfl) (aU2 ?_)
 exact rT rfl rfl (λw' h'=>⟨(),by rw[<-Qij];rfl,trivial,by rw[<-Qij];exact(QnR (K:=(kpD p l l.length)) (l:=l) h' aPk om (by rw[QB])).ent aEt⟩)
theorem c90e(w:World)(a:Option Addr)(cap:Nat)(q:Nat)(cv:Array Value)(hq:QJ Tryz.prog q=true):CR 90 #[.slice a 0 cap,.func (.func q) #[] cv] w (.slice a 0 cap):=by
 refine eN2 Tryz.func90 Tryz.ntmps90 ?_
 refine aU8 ?_
 refine oCq rfl (λw1 h1=>QtB w1 a cap [] q cv [] ⟨λh9=>absurd h9 (by simp)⟩ (by decide) hq rfl (λk w2 hk h2=>absurd hk (by simp))) (aU8 ?_)
 refine sCd rfl (λh1=>?_) λh1=>?_
 ·refine aU5 ?_
  exact rV
 exfalso;exact h1 rfl
theorem c90o(w:World)(a:Option Addr)(cap:Nat)(l:List DEnt)(q:Nat)(cv:Array Value)(p:DEnt->Bool)(hw:HS w (fps [.own (.slice a l.length cap) 66 9 l.length (l.flatMap DEnt.vals)]) [.own (.slice a l.length cap) 66 9 l.length (l.flatMap DEnt.vals)] w)(hn:l.length<=1000000)(hq:QJ Tryz.prog q=true)(hc:∀x w1,x∈l->HS w (fps [.own (.slice a l.length cap) 66 9 l.length (l.flatMap DEnt.vals)]) [] w1->Calls Tryz.prog q (#[]++[.agg (DEnt.vals (x)).toArray].toArray++cv) w1 λen w2=>en=.returned (.bool (p x))/\Below w1.heap.size w1 w2):CE 90 #[.slice a l.length cap,.func (.func q) #[] cv] w (fps [.own (.slice a l.length cap) 66 9 l.length (l.flatMap DEnt.vals)]) (λg:Unit=>.slice a (l.filter λx=>!p x).length cap) (λg=>True) λg=>[.own (.slice a (l.filter λx=>!p x).length cap) 66 9 (l.filter λx=>!p x).length ((l.filter λx=>!p x).flatMap DEnt.vals)]:=by
  rcases Nat.eq_zero_or_pos l.length with h0|h0
  · obtain rfl:l=[]:=List.eq_nil_of_length_eq_zero h0;refine(c90e w a cap q cv hq).mono λen w'⟨he,hb⟩=>⟨(),he,trivial,hw.stable hb⟩
  · obtain⟨b,rfl,_,hnc,hcm,hxl,hb⟩:=hw.own_blk h0 .here;refine(c90 w b cap (cap*9) l w q cv p (HS.refl w [b]) hb hn hnc hq hc).mono λen w'⟨_,he,_,h⟩=>⟨(),he,trivial,?_⟩;exact HS.own_shut h (QP dv9 _) (Nat.le_trans (List.length_filter_le _ l) hnc) hcm
theorem c141(w:World)(o:DEnt):CR 141 #[.agg #[.string (bs o.nm),.int .i64 o.sp,.string (bs o.ot),.int .i64 o.re,.int .i64 o.sq,.int .i64 o.fl,.int .i64 o.tm,.int .i64 o.al,.int .i64 o.sz]] w (.bool (decide (o.sp=1))):=by
 refine eN1 Tryz.func141 Tryz.ntmps141 ?_
 refine aU2 ?_
 refine oBx λb1 _=>?_
 refine aU9 ?_
 exact rV
theorem c79(w:World)(a:Option Addr)(cap:Nat)(l:List DEnt)(hs:Rw DEnt.vals 9 w [] a l)(hm:l.length<=100000):CE 79 #[.slice a l.length cap] w [] (λg:Option Addr×Nat=>.slice g.1 (Qk l).length g.2) (λg=>True) λg=>[.own (.slice g.1 (Qk l).length g.2) 66 9 (Qk l).length ((Qk l).flatMap DEnt.vals)]:=by
 refine eN1 Tryz.func79 Tryz.ntmps79 ?_
 refine aU7 ?_
 refine oCh rfl (λw1 h1=>c140 w1 a cap l (hs.later h1) om) (λgC _=>o_h (XG (Cs:=[.own (.slice gC.1 l.length gC.2) 66 9 l.length (l.flatMap DEnt.vals)]) rfl QvS rfl aPs (λw1 h1 hf=>c90o w1 gC.1 gC.2 l 141 _ (λx=>decide (x.sp=1)) hf om Qut (λx w2 hx h2=>by have h9:=c141 w2 x;exact h9))) rfl (λ_ _=>aU2 ?_))
 exact rT rfl rfl (λw' h'=>⟨gC,rfl,trivial,h'.ent aEt⟩)
instance:TFn Tryz.prog 135:=⟨by kernel_rfl⟩
instance:TFn Tryz.prog 136:=⟨by kernel_rfl⟩
instance:TFn Tryz.prog 125:=⟨by kernel_rfl⟩
theorem Qs1{t:Tre}{X:List TEnt}(h:¬(Yb t).2=0):Xa t X=Yb t/\Qc1 t X=[]:=by
  have h1:Xa t X=Yb t:=if_neg h;exact⟨h1,if_neg (by rw[h1];exact h)⟩
theorem Qs7{t:Tre}{X:List TEnt}(h:(Yb t).2=0)(hc:¬t.co=1):Xa t X=(0,15)/\Qc1 t X=[]:=by
  have h1:Xa t X=(0,15):=by unfold Xa;rw[if_pos h,if_neg hc]
  exact⟨h1,if_neg (by rw[h1];decide)⟩
theorem Qte{t:Tre}{X:List TEnt}(h:(Yb t).2=0)(hc:t.co=1):Xa t X=QmN X:=by unfold Xa;rw[if_pos h,if_pos hc]
theorem Qtc{X:List TEnt}{k:Nat}{e:Int}(hk:QD (X.map dcE) 0=((k:Int),e))(he:¬e=0):QmN X=((k:Int),e):=by
  unfold QmN;rw[hk,if_neg he]
theorem Qs5{X:List TEnt}(h:(QD (X.map dcE) 0).2=0):QmN X=QD ((X.map Qe).map (stE (X.map Qe))) 0:=if_pos h
theorem Quq{x:TEnt}(h:dcE x=0):Qbg (Qe x)=0:=by
  have h1:=(Qu1 h).1
  rwa[show dcD x=Qe x from if_pos h]at h1
theorem QcV{X:List TEnt}(h:(QD (X.map dcE) 0).2=0){e:DEnt}(he:e∈X.map Qe):Qbg e=0:=by
  obtain⟨x,hx,rfl⟩:=List.mem_map.1 he;exact Quq (ZZ.1 h _ (List.mem_map.2 ⟨x,hx,rfl⟩))
theorem Qv4(w:World)(co mo rm:Int)(a:Option Addr)(cap:Nat)(L:List LNd)(T:BT)(d lo hi:Nat)(hco:co=1)(hs:Nt w [] a L)(hB:Bd (pln L))(hkl:∀i,i<L.length->∀x∈(nth L i).es,x.key.length<=1000000)(h0:(Yb (⟨co,mo,rm,pln L⟩:Tre)).2=0)(hl2:L.length<=1000)(hBl:Bel lo hi d T)(hN:NIn (pln L) T)(hT0:T.idx=0)(hf:T.flat.length<=10000):CE 135 #[.agg #[.int .i64 co,.int .i64 mo,.int .i64 rm,.slice a L.length cap]] w [] (λg:Option Addr×Nat=>.tuple #[.slice g.1 (T.flat).length g.2,.int .i64 0]) (λg=>True) λg=>[.own (.slice g.1 (T.flat).length g.2) 84 2 (T.flat).length ((T.flat).flatMap TEnt.vals)]:=by
  subst hco;exact Qvn w 1 mo rm a cap L T d lo hi hs hB hkl h0 hl2 hBl hN hT0 hf
set_option maxHeartbeats 4000000 in
theorem c74(w:World)(co mo rm:Int)(a:Option Addr)(cap:Nat)(L:List LNd)(T:BT)(hs:Nt w [] a L)(hB:Bd (pln L))(hkl:∀i,i<L.length->∀x∈(nth L i).es,x.key.length<=1000000)(hl2:L.length<=1000)(hT:DT (⟨co,mo,rm,pln L⟩:Tre) T):CE 74 #[.agg #[.int .i64 co,.int .i64 mo,.int .i64 rm,.slice a L.length cap]] w [] (λg:Option Addr×Nat=>.tuple #[.slice g.1 (Qc1 (⟨co,mo,rm,pln L⟩:Tre) T.flat).length g.2,.int .i64 (Xa (⟨co,mo,rm,pln L⟩:Tre) T.flat).1,.int .i64 (Xa (⟨co,mo,rm,pln L⟩:Tre) T.flat).2]) (λg=>True) λg=>[.own (.slice g.1 (Qc1 (⟨co,mo,rm,pln L⟩:Tre) T.flat).length g.2) 66 9 (Qc1 (⟨co,mo,rm,pln L⟩:Tre) T.flat).length ((Qc1 (⟨co,mo,rm,pln L⟩:Tre) T.flat).flatMap DEnt.vals)]:=by
 refine eN1 Tryz.func74 Tryz.ntmps74 ?_
 refine aU2 ?_
 refine oBx λb1 _=>?_
 refine aU8 ?_
 refine oCq rfl (λw1 h1=>QuC w1 co mo rm a cap L (hs.later h1.nil) hB hkl) (Qab ?_)
 refine sCd rfl (λh2=>?_) λh2=>?_
 ·have h0:¬(Yb (⟨co,mo,rm,pln L⟩:Tre)).2=0:=by have hq:=h2;simpa using hq
  obtain⟨hZ,hLL⟩:=Qs1 (X:=T.flat) h0
  refine aU8 ?_
  exact Qm (rs:=[.tmp 2,.tmp 3,.tmp 4]) rfl (.tmp rfl (.tmp rfl (.tmp rfl (.nil)))) (λw' h'=>⟨(none,0),by rw[hZ,hLL];rfl,trivial,by rw[hLL];exact(h'.own_nil 66 9).ent aEt⟩)
 have h0:(Yb (⟨co,mo,rm,pln L⟩:Tre)).2=0:=by have hq:=h2;simpa using hq
 obtain⟨d9,lo9,hi9,hBl,hN,hT0,hf9,hsm9⟩:=hT h0
 refine aU8 ?_
 refine sCd rfl (λh3=>?_) λh3=>?_
 ·have h1c:¬co=1:=by have hq:=h3;simpa using hq
  obtain⟨hZ,hLL⟩:=Qs7 (X:=T.flat) h0 h1c
  refine aU6 ?_
  exact Qm (rs:=[.tmp 2,.tmp 3,.tmp 4]) rfl (.tmp rfl (.tmp rfl (.tmp rfl (.nil)))) (λw' h'=>⟨(none,0),by rw[hZ,hLL];rfl,trivial,by rw[hLL];exact(h'.own_nil 66 9).ent aEt⟩)
 have hco:co=1:=by have hq:=h3;simpa using hq
 have hdo:=Qte (X:=T.flat) h0 hco
 refine aU4 ?_
 refine oCh rfl (λw1 h1=>Qv4 w1 co mo rm a cap L T d9 lo9 hi9 hco (hs.later h1.nil) hB hkl h0 hl2 hBl hN hT0 hf9) (λgX _=>Qud ?_)
 refine Qd (L':=[(2,_),(3,_),(4,_),(9,_),(35,_),(36,_),(37,_)]) aSx (λ_ h=>h) ?_
 refine Qp (α:=Nat×(Option Addr×Nat)) [2,3,4,9,10,11,12,13,37,38,39,40,41,42,43,44,45,46,47,48,49,50,51,52,53,54,55] (λy=>[(37,.int .i64 (y.1:Int)),(9,.slice y.2.1 ((T.flat.take y.1).map Qe).length y.2.2)]) (λy=>HS w [] [.own (.slice y.2.1 ((T.flat.take y.1).map Qe).length y.2.2) 66 9 ((T.flat.take y.1).map Qe).length (((T.flat.take y.1).map Qe).flatMap DEnt.vals),.own (.slice gX.1 T.flat.length gX.2) 84 2 T.flat.length (T.flat.flatMap TEnt.vals)]) (λy=>y.1<=T.flat.length/\QD (T.flat.map dcE) 0=QD ((T.flat.map dcE).drop y.1) y.1) (λy=>T.flat.length-y.1) (0,(none,0)) ⟨Nat.zero_le _,rfl⟩ aSx (λw h=>(h.own_nil 66 9).ent aEt) (λ⟨k,A⟩hkk=>?_)
 dsimp only at hkk ⊢
 obtain⟨hk1,hk2⟩:=hkk
 refine aU5 ?_
 refine sCd rfl (λh4=>?_) λh4=>?_
 ·have hk:k<T.flat.length:=by have hq:=h4;omega
  have hst:=Qbn (f:=dcE) (d:=default) hk
  have hs2:((T.flat.take (k+1)).map Qe)=((T.flat.take k).map Qe)++[Qe (nth T.flat k)]:=by rw[Xg (d:=default) hk,List.map_append];rfl
  have hkl9:((T.flat.take k).map Qe).length=k:=by rw[List.length_map,List.length_take];omega
  refine Qdf (λw h=>Rw.some (h.rw_own ev2 aPk rfl) om) λhsm=>aU6 ?_
  refine o_p (Qa rfl rfl rfl QG (k) om om hsm) rfl (o_q (Xx _ rfl rfl Qc8 rfl (λw h=>Rw.rd (h.rw_own ev2 aPk rfl) hk)) rfl (oAl (λb5 _=>?_) Qah))
  refine aU6 ?_
  refine oCq rfl (λw1 h1=>c40 w1 (nth T.flat k) (by have:=(hsm9 _ (Qt hk)).1;omega) (by have:=(hsm9 _ (Qt hk)).2;omega)) (aU3 ?_)
  refine oAl (λb6 _=>?_) Xh
  refine aU9 ?_
  refine sCd rfl (λh7=>?_) λh7=>?_
  ·have hne:¬dcE (nth T.flat k)=0:=by have hq:=h7;simpa using hq
   have hZ:(Xa (⟨co,mo,rm,pln L⟩:Tre) T.flat)=((k:Int),dcE (nth T.flat k)):=by rw[hdo,Qtc (k:=k) (e:=dcE (nth T.flat k)) (by rw[hk2];exact hst.trans (if_neg hne)) hne]
   have hLL:(Qc1 (⟨co,mo,rm,pln L⟩:Tre) T.flat)=[]:=if_neg (by rw[hZ];exact hne)
   refine aU8 ?_
   exact Qm (rs:=[.tmp 2,.tmp 3,.tmp 4]) rfl (.tmp rfl (.tmp rfl (.tmp rfl (.nil)))) (λw' h'=>⟨(none,0),by rw[hZ,hLL];rfl,trivial,by rw[hLL];exact(h'.own_nil 66 9).ent aEt⟩)
  have he0:dcE (nth T.flat k)=0:=by have hq:=h7;simpa using hq
  have hst3:QD ((T.flat.map dcE).drop k) k=QD ((T.flat.map dcE).drop (k+1)) (k+1):=hst.trans (if_pos he0)
  have hdc:dcD (nth T.flat k)=Qe (nth T.flat k):=if_pos he0
  rw[hdc]
  refine aU4 ?_
  refine o_h (Ql (cs:=[_,_,_,_,_,_,_,_,_]) rfl rfl Zr Xh rfl rfl rfl) rfl (λb8 _=>o_h (QF (n:=((T.flat.take k).map Qe).length) (Qe (nth T.flat k)).vals rfl rfl rfl Zr Tryz.underlying128 Xh rfl aPk (Xk aPk) rfl (dv1 _) om (by simp only[maxLen];omega)) rfl (λb9 _=>aT5 ?_))
  refine aU2 ?_
  exact Qs (k+1,b9) (by dsimp only;omega) (by dsimp only;exact⟨om,by rw[hk2,hst3]⟩) (by dsimp only;rw[hs2,List.length_append];exact aSx) (λw h=>by dsimp only;rw[hs2,List.length_append,XU];exact h.ent aEt)
 obtain rfl:k=T.flat.length:=by have hq:=h4;omega
 rw[List.take_length]
 have hall:(QD (T.flat.map dcE) 0).2=0:=by rw[hk2,Zo (by rw[List.length_map];exact Nat.le_refl _)]
 have hol:=Qs5 hall
 refine Qg rfl ?_
 refine aU8 ?_
 refine Qp (α:=Nat) [2,3,4,14,15,16,17,58,59,60,61,62,63,64,65,66,67,68,69,70,71,72,73,74,75,76,77,78,79] (λk=>[(58,.int .i64 (k:Int))]) (λk=>HS w [] [.own (.slice A.1 (T.flat.map Qe).length A.2) 66 9 (T.flat.map Qe).length ((T.flat.map Qe).flatMap DEnt.vals)]) (λk=>k<=(T.flat.map Qe).length/\QD ((T.flat.map Qe).map (stE (T.flat.map Qe))) 0=QD (((T.flat.map Qe).map (stE (T.flat.map Qe))).drop k) k) (λk=>(T.flat.map Qe).length-k) 0 ⟨Nat.zero_le _,rfl⟩ aSx (λw h=>h.ent aEt) (λk hkk=>?_)
 obtain⟨hk1,hk2⟩:=hkk
 refine aU5 ?_
 refine sCd rfl (λh10=>?_) λh10=>?_
 ·have hk:k<(T.flat.map Qe).length:=by have hq:=h10;omega
  have hk10:k<10000:=by have hq:=hk;rw[List.length_map]at hq;omega
  have hst:=Qbn (f:=stE (T.flat.map Qe)) (d:=default) hk
  refine Qdf (λw h=>Rw.some (h.rw_own dv9 aPk rfl) om) λhsm2=>aU6 ?_
  refine o_p (Qa rfl rfl rfl Zr (k) om om hsm2) rfl (o_q (Xx _ rfl rfl YC rfl (λw h=>Rw.rd (h.rw_own dv9 aPk rfl) hk)) rfl (oAl (λb11 _=>?_) Xh))
  refine aU7 ?_
  refine oCq rfl (λw1 h1=>c136 w1 (nth (T.flat.map Qe) k) (QeA (QcV hall (Qt hk))).1) (aU2 ?_)
  refine sCd rfl (λh12=>?_) λh12=>?_
  ·have hsv:stE (T.flat.map Qe) (nth (T.flat.map Qe) k)=20:=by have hq:=h12;unfold stE;rw[if_neg (by simpa using hq)]
   have hZ:(Xa (⟨co,mo,rm,pln L⟩:Tre) T.flat)=((k:Int),20):=by rw[hdo,hol,hk2];exact hst.trans (by rw[show(T.flat.map Qe).getD k default=(nth (T.flat.map Qe) k)from rfl,hsv];rfl)
   have hLL:(Qc1 (⟨co,mo,rm,pln L⟩:Tre) T.flat)=[]:=if_neg (by rw[hZ];simp)
   refine aU7 ?_
   exact Qm (rs:=[.tmp 2,.tmp 3,.tmp 4]) rfl (.tmp rfl (.tmp rfl (.tmp rfl (.nil)))) (λw' h'=>⟨(none,0),by rw[hZ,hLL];rfl,trivial,by rw[hLL];exact(h'.own_nil 66 9).ent aEt⟩)
  have hfb:QgO (nth (T.flat.map Qe) k)=true:=by have hq:=h12;simpa using hq
  refine aU8 ?_
  refine sCd rfl (λh13=>?_) λh13=>?_
  ·have hsv:stE (T.flat.map Qe) (nth (T.flat.map Qe) k)=0:=by have hq:=h13;unfold stE;rw[if_pos hfb,if_pos (by simpa using hq)]
   have hst3:QD (((T.flat.map Qe).map (stE (T.flat.map Qe))).drop k) k=QD (((T.flat.map Qe).map (stE (T.flat.map Qe))).drop (k+1)) (k+1):=hst.trans (if_pos hsv)
   refine Qg rfl ?_
   refine aT2 ?_
   refine aU2 ?_
   exact sBk (k+1) om ⟨om,by rw[hk2,hst3]⟩
  have hs9:¬(nth (T.flat.map Qe) k).sp=2:=by have hq:=h13;simpa using hq
  refine aU5 ?_
  refine oCq rfl (λw1 h1=>c125 w1 A.1 A.2 (T.flat.map Qe) (nth (T.flat.map Qe) k) (h1.rw_own dv9 aPk rfl) (by rw[List.length_map];omega)) (aU3 ?_)
  refine oAl (λb14 _=>?_) Xh
  refine aU8 ?_
  refine sCd rfl (λh15=>?_) λh15=>?_
  ·have hsv:stE (T.flat.map Qe) (nth (T.flat.map Qe) k)=21:=by have hq:=h15;unfold stE;rw[if_pos hfb,if_neg hs9,if_neg (by simpa using hq)]
   have hZ:(Xa (⟨co,mo,rm,pln L⟩:Tre) T.flat)=((k:Int),21):=by rw[hdo,hol,hk2];exact hst.trans (by rw[show(T.flat.map Qe).getD k default=(nth (T.flat.map Qe) k)from rfl,hsv];rfl)
   have hLL:(Qc1 (⟨co,mo,rm,pln L⟩:Tre) T.flat)=[]:=if_neg (by rw[hZ];simp)
   refine aU ?_
   refine Qd (L':=[(9,_),(14,_),(35,_),(36,_),(37,_),(38,_),(56,_),(57,_),(58,_)]) aSx (λ_ h=>h) ?_
   refine aU6 ?_
   exact Qm (rs:=[.tmp 2,.tmp 3,.tmp 4]) rfl (.tmp rfl (.tmp rfl (.tmp rfl (.nil)))) (λw' h'=>⟨(none,0),by rw[hZ,hLL];rfl,trivial,by rw[hLL];exact(h'.own_nil 66 9).ent aEt⟩)
  have hsv:stE (T.flat.map Qe) (nth (T.flat.map Qe) k)=0:=by have hq:=h15;unfold stE;rw[if_pos hfb,if_neg hs9,if_pos (by simpa using hq)]
  have hst3:QD (((T.flat.map Qe).map (stE (T.flat.map Qe))).drop k) k=QD (((T.flat.map Qe).map (stE (T.flat.map Qe))).drop (k+1)) (k+1):=hst.trans (if_pos hsv)
  refine aU2 ?_
  refine Qd (L':=[(9,_),(35,_),(36,_),(37,_),(38,_),(56,_),(57,_),(58,_)]) aSx (λ_ h=>h) ?_
  refine aT2 ?_
  refine aU2 ?_
  exact sBk (k+1) om ⟨om,by rw[hk2,hst3]⟩
 obtain rfl:k=(T.flat.map Qe).length:=by have hq:=h10;omega
 have hZ:(Xa (⟨co,mo,rm,pln L⟩:Tre) T.flat)=(0,0):=by rw[hdo,hol,hk2,Zo (by rw[List.length_map];exact Nat.le_refl _)]
 have hLL:(Qc1 (⟨co,mo,rm,pln L⟩:Tre) T.flat)=(T.flat.map Qe):=if_pos (by rw[hZ])
 refine Qg rfl ?_
 refine aU7 ?_
 exact Qm (rs:=[.tmp 2,.tmp 3,.tmp 4]) rfl (.tmp rfl (.tmp rfl (.tmp rfl (.nil)))) (λw' h'=>⟨A,by rw[hZ,hLL];rfl,trivial,by rw[hLL];exact h'.ent aEt⟩)
theorem Qoc:QJ Tryz.prog 86=true:=by kernel_rfl
theorem QtL:QJ Tryz.prog 121=true:=by kernel_rfl
theorem QZ:tsl Tryz.prog 33=some (66,9,88):=by kernel_rfl
def Qha(l:List DEnt)(e:DEnt):Bool:=decide (e.sp=2)||QgT l e
theorem Qs0{ds:List DEnt}{e:DEnt}:stE ds e=if QgO e=true then if Qha ds e=true then 0 else 21 else 20:=by
  unfold stE Qha
  by_cases h:e.sp=2<;>simp[h]
theorem XW{l:List DEnt}{e:DEnt}{k:Nat}(hk:k<l.length)(h:prB e (nth l k)=true):QgT l e=true:=by
  rw[QlH,List.any_eq_true];exact⟨_,Qt hk,h⟩
theorem QpK{l:List DEnt}{e:DEnt}(h:∀j,j<l.length->prB e (nth l j)=false):QgT l e=false:=by
  rw[QlH,List.any_eq_false];intro x hx;obtain⟨i,hi,rfl⟩:=List.getElem_of_mem hx;have h6:nth l i=l[i]:=by unfold nth;rw[List.getD_eq_getElem?_getD,List.getElem?_eq_getElem hi];rfl
  rw[<-h6,h i hi];simp
theorem Qoe{t:Tre}{X:List TEnt}(h:(Xa t X).2=0):(Yb t).2=0/\t.co=1/\(QD (X.map dcE) 0).2=0/\Qc1 t X=X.map Qe:=by
  have hL:Qc1 t X=X.map Qe:=if_pos h;unfold Xa at h;split at h
  · rename_i h0;split at h
    · rename_i h1;refine⟨h0,h1,?_,hL⟩;unfold QmN at h;split at h
      · assumption
      · exact h
    · cases h
  · rename_i h0;exact absurd h h0
theorem c94(w:World)(e:DEnt)(h0:QT e.nm=0)(hsp:0<=e.sp/\e.sp<=2):CR 94 #[.agg #[.string (bs e.nm),.int .i64 e.sp,.string (bs e.ot),.int .i64 e.re,.int .i64 e.sq,.int .i64 e.fl,.int .i64 e.tm,.int .i64 e.al,.int .i64 e.sz]] w (.bool (QgO e)):=by
 obtain⟨hl1,hl⟩:=Zc h0
 refine eN1 Tryz.func94 Tryz.ntmps94 ?_
 refine aU2 ?_
 refine oBx λb1 _=>?_
 refine aU3 ?_
 refine QH [] mixed ?_
 refine dQ 0 [] rfl (Qv rfl Qoc rfl (λw1 h1=>c86 w1)) (dFa 1 ?_)
 refine dLd 2 [] ?_
 refine dQ 3 [] rfl (Qv rfl QtL rfl (λw1 h1=>c121 w1 QaN e.nm YA hl1 om)) (dP 4 ?_)
 refine dNi ?_
 refine aU7 ?_
 refine sCd rfl (λh2=>?_) λh2=>?_
 ·have h1:e.sp=1:=h2
  refine aU4 ?_
  refine oCq rfl (λw1 h1=>c158 w1 e.nm om) (aU2 ?_)
  exact rV (h:=by rw[QgO,if_neg om,if_neg om];rfl)
 have h1:¬e.sp=1:=h2
 refine aU7 ?_
 refine o_p (QdA rfl rfl rfl Tryz.underlying4) rfl (aU2 ?_)
 exact rV (h:=by simp only[QA,QgO,Qmc];by_cases h2:e.sp=0;(rw[if_neg om,if_pos h2,decide_eq_true h2];simp);(rw[if_pos om,decide_eq_false h2];simp))
set_option maxHeartbeats 4000000 in
theorem c95(w:World)(a:Option Addr)(cap:Nat)(l:List DEnt)(e:DEnt)(hs:Rw DEnt.vals 9 w [] a l)(hm:l.length<=100000)(hsp:0<=e.sp/\e.sp<=2):CR 95 #[.slice a l.length cap,.agg #[.string (bs e.nm),.int .i64 e.sp,.string (bs e.ot),.int .i64 e.re,.int .i64 e.sq,.int .i64 e.fl,.int .i64 e.tm,.int .i64 e.al,.int .i64 e.sz]] w (.bool (Qha l e)):=by
 refine eN2 Tryz.func95 Tryz.ntmps95 ?_
 refine aU2 ?_
 refine oBx λb1 _=>?_
 refine aU9 ?_
 refine sCd rfl (λh2=>?_) λh2=>?_
 ·have h1:e.sp=2:=h2
  refine aU4 ?_
  exact rV (h:=by unfold Qha;rw[decide_eq_true h1];rfl)
 have h1:¬e.sp=2:=h2
 have hp9:Qha l e=QgT l e:=by unfold Qha;rw[decide_eq_false h1];rfl
 refine aU7 ?_
 refine Qp (α:=Nat) [4,5,9,10,11,12,13,14,15,16,17,18,19,20,21,22,23,24,25,26,27,28,29,30,31,32,33,34,35,36,37,38,39,40,41,42,43,44,45,46,47,48,49,50,51,52,53,54,55,56,57,58,59,60,61,62,63] (λk=>[(5,.int .i64 (k:Int))]) (λ_=>HS w [] [.blk b1 66 9 [.string (bs e.nm),.int .i64 e.sp,.string (bs e.ot),.int .i64 e.re,.int .i64 e.sq,.int .i64 e.fl,.int .i64 e.tm,.int .i64 e.al,.int .i64 e.sz]]) (λk=>k<=l.length/\∀j,j<k->prB e (nth l j)=false) (λk=>l.length-k) 0 ⟨Nat.zero_le _,λj h=>absurd h (Nat.not_lt_zero j)⟩ aSx (λw h=>h.ent aEt) (λk hkk=>?_)
 obtain⟨hk1,hk2⟩:=hkk
 refine aU8 ?_
 refine sCd rfl (λh3=>?_) λh3=>?_
 ·have hk:k<l.length:=by have hq:=h3;omega
  refine aU4 ?_
  refine QH [] mixed ?_
  refine dP 0 ?_
  refine dP 1 ?_
  refine dV 2 rfl (Qa rfl rfl rfl QZ (k) om om (Rw.some hs om)) (dFa 3 ?_)
  refine dQ 4 [] rfl (Qb rfl rfl X1 ((hs.rdj 0 hk rfl))) (dFa 5 ?_)
  refine dLd 6 [] ?_
  refine dP 7 ?_
  refine dP 8 ?_
  apply QI 23
  ·exact rfl
  ·intro hg4
   have hs5:=hg4;try simp only[dT]at hs5
   refine dPo 9 23 hg4 ?_
   refine dPo 10 23 hg4 ?_
   refine dVo 11 23 hg4 rfl rfl rfl (Qa rfl rfl rfl QZ (k) om om (Rw.some hs om)) ?_
   refine dFo 12 23 hg4 ?_
   refine dQo 13 23 [] hg4 rfl rfl rfl (Qb rfl rfl X1 ((hs.rdj 2 hk rfl))) ?_
   refine dFo 14 23 hg4 ?_
   refine dQo 15 23 [] hg4 rfl rfl rfl (Yj rfl rfl X1 aPk rfl) ?_
   refine dPo 16 23 hg4 ?_
   refine dV 17 rfl (QE rfl rfl hg4 rfl) (dP 18 ?_)
   apply QI 33
   ·exact rfl
   ·intro hg6
    have hs7:=hg6;try simp only[dT]at hs7
    refine dPo 19 33 hg6 ?_
    refine dPo 20 33 hg6 ?_
    refine dVo 21 33 hg6 rfl rfl rfl (Qa rfl rfl rfl QZ (k) om om (Rw.some hs om)) ?_
    refine dFo 22 33 hg6 ?_
    refine dQo 23 33 [] hg6 rfl rfl rfl (Qb rfl rfl Zh ((hs.rdj 1 hk rfl))) ?_
    refine dFo 24 33 hg6 ?_
    refine dQo 25 33 [] hg6 rfl rfl rfl (Yj rfl rfl Zh aPk rfl) ?_
    refine dPo 26 33 hg6 ?_
    try refine dWr ?_
    refine dPo 27 33 hg6 ?_
    refine dV 28 rfl (QE rfl rfl hg6 rfl) (dP 29 ?_)
    apply QI 44
    ·exact rfl
    ·intro hg8
     have hs9:=hg8;try simp only[dT]at hs9
     refine dPo 30 44 hg8 ?_
     refine dPo 31 44 hg8 ?_
     refine dVo 32 44 hg8 rfl rfl rfl (Qa rfl rfl rfl QZ (k) om om (Rw.some hs om)) ?_
     refine dFo 33 44 hg8 ?_
     refine dQo 34 44 [] hg8 rfl rfl rfl (Qq _ rfl rfl QbN rfl (QhQ hs hk)) ?_
     refine dFo 35 44 hg8 ?_
     refine dQo 36 44 [] hg8 rfl rfl rfl (Ym rfl rfl QbN aPk rfl) ?_
     refine dVo 37 44 hg8 rfl rfl rfl (Xn rfl rfl rfl QfC (by rfl) (by rfl) (by rfl)) ?_
     refine dV 38 rfl (QE rfl rfl hg8 rfl) (dP 39 ?_)
     apply QI 54
     ·exact rfl
     ·intro hg10
      have hs11:=hg10;try simp only[Bool.and_eq_true,decide_eq_true_eq]at hs11
      refine dPo 40 54 hg10 ?_
      refine dPo 41 54 hg10 ?_
      refine dVo 42 54 hg10 rfl rfl rfl (Qa rfl rfl rfl QZ (k) om om (Rw.some hs om)) ?_
      refine dFo 43 54 hg10 ?_
      refine dQo 44 54 [] hg10 rfl rfl rfl (Qq _ rfl rfl Zi rfl (Qcn hs hk)) ?_
      refine dFo 45 54 hg10 ?_
      refine dQo 46 54 [] hg10 rfl rfl rfl (Ym rfl rfl Zi aPk rfl) ?_
      refine dVo 47 54 hg10 rfl rfl rfl (Xn rfl rfl rfl Qbw (by rfl) (by rfl) (by rfl)) ?_
      refine dV 48 rfl (QE rfl rfl hg10 rfl) (dNi ?_)
      refine sCd rfl (λh12=>?_) λh12=>?_
      ·have hp:prB e (nth l k)=true:=by have hq:=h12;unfold prB;grind
       refine aU ?_
       refine Qd (L':=[(0,_),(1,_),(3,_),(5,_),(6,_),(7,_),(8,_)]) aSx (λ_ h=>h) ?_
       refine aU3 ?_
       exact rV (h:=by first|(rw[hp9,XW hk hp];rfl)|(rw[hp9,hno];rfl))
      have hp:prB e (nth l k)=false:=by have hq:=h12;unfold prB;grind
      refine aU2 ?_
      refine Qd (L':=[(0,_),(1,_),(3,_),(5,_),(6,_),(7,_),(8,_)]) aSx (λ_ h=>h) ?_
      refine aT3 ?_
      refine aU2 ?_
      exact sBk (k+1) om ⟨om,λj hj=>(Nat.lt_succ_iff_lt_or_eq.1 hj).elim (hk2 j) (λe9=>by rw[e9];exact hp)⟩
     intro hg13
     have hs14:=hg13;try simp only[Bool.and_eq_false_iff,decide_eq_false_iff_not]at hs14
     refine dOf 40 54 hg13 ?_
     refine dOf 41 54 hg13 ?_
     refine dOf 42 54 hg13 ?_
     refine dOf 43 54 hg13 ?_
     refine dOf 44 54 hg13 ?_
     refine dOf 45 54 hg13 ?_
     refine dOf 46 54 hg13 ?_
     refine dOf 47 54 hg13 ?_
     refine dV 48 rfl (QC rfl rfl hg13 rfl) (dNi ?_)
     refine sCd rfl (λh15=>?_) λh15=>?_
     ·have hp:prB e (nth l k)=true:=by have hq:=h15;unfold prB;grind
      refine aU ?_
      refine Qd (L':=[(0,_),(1,_),(3,_),(5,_),(6,_),(7,_),(8,_)]) aSx (λ_ h=>h) ?_
      refine aU3 ?_
      exact rV (h:=by first|(rw[hp9,XW hk hp];rfl)|(rw[hp9,hno];rfl))
     have hp:prB e (nth l k)=false:=by have hq:=h15;unfold prB;grind
     refine aU2 ?_
     refine Qd (L':=[(0,_),(1,_),(3,_),(5,_),(6,_),(7,_),(8,_)]) aSx (λ_ h=>h) ?_
     refine aT3 ?_
     refine aU2 ?_
     exact sBk (k+1) om ⟨om,λj hj=>(Nat.lt_succ_iff_lt_or_eq.1 hj).elim (hk2 j) (λe9=>by rw[e9];exact hp)⟩
    intro hg16
    have hs17:=hg16;try simp only[dN]at hs17
    refine dOf 30 44 hg16 ?_
    refine dOf 31 44 hg16 ?_
    refine dOf 32 44 hg16 ?_
    refine dOf 33 44 hg16 ?_
    refine dOf 34 44 hg16 ?_
    refine dOf 35 44 hg16 ?_
    refine dOf 36 44 hg16 ?_
    refine dOf 37 44 hg16 ?_
    refine dV 38 rfl (QC rfl rfl hg16 rfl) (dP 39 ?_)
    apply QI 54
    ·exact rfl
    ·intro hg18
     have hs19:=hg18;skip
     refine dPo 40 54 hg18 ?_
     refine dPo 41 54 hg18 ?_
     refine dVo 42 54 hg18 rfl rfl rfl (Qa rfl rfl rfl QZ (k) om om (Rw.some hs om)) ?_
     refine dFo 43 54 hg18 ?_
     refine dQo 44 54 [] hg18 rfl rfl rfl (Qq _ rfl rfl Zi rfl (Qcn hs hk)) ?_
     refine dFo 45 54 hg18 ?_
     refine dQo 46 54 [] hg18 rfl rfl rfl (Ym rfl rfl Zi aPk rfl) ?_
     refine dVo 47 54 hg18 rfl rfl rfl (Xn rfl rfl rfl Qbw (by rfl) (by rfl) (by rfl)) ?_
     refine dV 48 rfl (QE rfl rfl hg18 rfl) (dNi ?_)
     refine sCd rfl (λh20=>?_) λh20=>?_
     ·have hp:prB e (nth l k)=true:=by have hq:=h20;unfold prB;grind
      refine aU ?_
      refine Qd (L':=[(0,_),(1,_),(3,_),(5,_),(6,_),(7,_),(8,_)]) aSx (λ_ h=>h) ?_
      refine aU3 ?_
      exact rV (h:=by first|(rw[hp9,XW hk hp];rfl)|(rw[hp9,hno];rfl))
     have hp:prB e (nth l k)=false:=by have hq:=h20;unfold prB;grind
     refine aU2 ?_
     refine Qd (L':=[(0,_),(1,_),(3,_),(5,_),(6,_),(7,_),(8,_)]) aSx (λ_ h=>h) ?_
     refine aT3 ?_
     refine aU2 ?_
     exact sBk (k+1) om ⟨om,λj hj=>(Nat.lt_succ_iff_lt_or_eq.1 hj).elim (hk2 j) (λe9=>by rw[e9];exact hp)⟩
    intro hg21
    have hs22:=hg21;skip
    refine dOf 40 54 hg21 ?_
    refine dOf 41 54 hg21 ?_
    refine dOf 42 54 hg21 ?_
    refine dOf 43 54 hg21 ?_
    refine dOf 44 54 hg21 ?_
    refine dOf 45 54 hg21 ?_
    refine dOf 46 54 hg21 ?_
    refine dOf 47 54 hg21 ?_
    refine dV 48 rfl (QC rfl rfl hg21 rfl) (dNi ?_)
    refine sCd rfl (λh23=>?_) λh23=>?_
    ·have hp:prB e (nth l k)=true:=by have hq:=h23;unfold prB;grind
     refine aU ?_
     refine Qd (L':=[(0,_),(1,_),(3,_),(5,_),(6,_),(7,_),(8,_)]) aSx (λ_ h=>h) ?_
     refine aU3 ?_
     exact rV (h:=by first|(rw[hp9,XW hk hp];rfl)|(rw[hp9,hno];rfl))
    have hp:prB e (nth l k)=false:=by have hq:=h23;unfold prB;grind
    refine aU2 ?_
    refine Qd (L':=[(0,_),(1,_),(3,_),(5,_),(6,_),(7,_),(8,_)]) aSx (λ_ h=>h) ?_
    refine aT3 ?_
    refine aU2 ?_
    exact sBk (k+1) om ⟨om,λj hj=>(Nat.lt_succ_iff_lt_or_eq.1 hj).elim (hk2 j) (λe9=>by rw[e9];exact hp)⟩
   intro hg24
   have hs25:=hg24;try simp only[dN]at hs25
   refine dOf 19 33 hg24 ?_
   refine dOf 20 33 hg24 ?_
   refine dOf 21 33 hg24 ?_
   refine dOf 22 33 hg24 ?_
   refine dOf 23 33 hg24 ?_
   refine dOf 24 33 hg24 ?_
   refine dOf 25 33 hg24 ?_
   refine dOf 26 33 hg24 ?_
   refine dOf 27 33 hg24 ?_
   refine dV 28 rfl (QC rfl rfl hg24 rfl) (dP 29 ?_)
   apply QI 44
   ·exact rfl
   ·intro hg26
    have hs27:=hg26;skip
    refine dPo 30 44 hg26 ?_
    refine dPo 31 44 hg26 ?_
    refine dVo 32 44 hg26 rfl rfl rfl (Qa rfl rfl rfl QZ (k) om om (Rw.some hs om)) ?_
    refine dFo 33 44 hg26 ?_
    refine dQo 34 44 [] hg26 rfl rfl rfl (Qq _ rfl rfl QbN rfl (QhQ hs hk)) ?_
    refine dFo 35 44 hg26 ?_
    refine dQo 36 44 [] hg26 rfl rfl rfl (Ym rfl rfl QbN aPk rfl) ?_
    refine dVo 37 44 hg26 rfl rfl rfl (Xn rfl rfl rfl QfC (by rfl) (by rfl) (by rfl)) ?_
    refine dV 38 rfl (QE rfl rfl hg26 rfl) (dP 39 ?_)
    apply QI 54
    ·exact rfl
    ·intro hg28
     have hs29:=hg28;try simp only[Bool.and_eq_true,decide_eq_true_eq]at hs29
     refine dPo 40 54 hg28 ?_
     refine dPo 41 54 hg28 ?_
     refine dVo 42 54 hg28 rfl rfl rfl (Qa rfl rfl rfl QZ (k) om om (Rw.some hs om)) ?_
     refine dFo 43 54 hg28 ?_
     refine dQo 44 54 [] hg28 rfl rfl rfl (Qq _ rfl rfl Zi rfl (Qcn hs hk)) ?_
     refine dFo 45 54 hg28 ?_
     refine dQo 46 54 [] hg28 rfl rfl rfl (Ym rfl rfl Zi aPk rfl) ?_
     refine dVo 47 54 hg28 rfl rfl rfl (Xn rfl rfl rfl Qbw (by rfl) (by rfl) (by rfl)) ?_
     refine dV 48 rfl (QE rfl rfl hg28 rfl) (dNi ?_)
     refine sCd rfl (λh30=>?_) λh30=>?_
     ·have hp:prB e (nth l k)=true:=by have hq:=h30;unfold prB;grind
      refine aU ?_
      refine Qd (L':=[(0,_),(1,_),(3,_),(5,_),(6,_),(7,_),(8,_)]) aSx (λ_ h=>h) ?_
      refine aU3 ?_
      exact rV (h:=by first|(rw[hp9,XW hk hp];rfl)|(rw[hp9,hno];rfl))
     have hp:prB e (nth l k)=false:=by have hq:=h30;unfold prB;grind
     refine aU2 ?_
     refine Qd (L':=[(0,_),(1,_),(3,_),(5,_),(6,_),(7,_),(8,_)]) aSx (λ_ h=>h) ?_
     refine aT3 ?_
     refine aU2 ?_
     exact sBk (k+1) om ⟨om,λj hj=>(Nat.lt_succ_iff_lt_or_eq.1 hj).elim (hk2 j) (λe9=>by rw[e9];exact hp)⟩
    intro hg31
    have hs32:=hg31;try simp only[Bool.and_eq_false_iff,decide_eq_false_iff_not]at hs32
    refine dOf 40 54 hg31 ?_
    refine dOf 41 54 hg31 ?_
    refine dOf 42 54 hg31 ?_
    refine dOf 43 54 hg31 ?_
    refine dOf 44 54 hg31 ?_
    refine dOf 45 54 hg31 ?_
    refine dOf 46 54 hg31 ?_
    refine dOf 47 54 hg31 ?_
    refine dV 48 rfl (QC rfl rfl hg31 rfl) (dNi ?_)
    refine sCd rfl (λh33=>?_) λh33=>?_
    ·have hp:prB e (nth l k)=true:=by have hq:=h33;unfold prB;grind
     refine aU ?_
     refine Qd (L':=[(0,_),(1,_),(3,_),(5,_),(6,_),(7,_),(8,_)]) aSx (λ_ h=>h) ?_
     refine aU3 ?_
     exact rV (h:=by first|(rw[hp9,XW hk hp];rfl)|(rw[hp9,hno];rfl))
    have hp:prB e (nth l k)=false:=by have hq:=h33;unfold prB;grind
    refine aU2 ?_
    refine Qd (L':=[(0,_),(1,_),(3,_),(5,_),(6,_),(7,_),(8,_)]) aSx (λ_ h=>h) ?_
    refine aT3 ?_
    refine aU2 ?_
    exact sBk (k+1) om ⟨om,λj hj=>(Nat.lt_succ_iff_lt_or_eq.1 hj).elim (hk2 j) (λe9=>by rw[e9];exact hp)⟩
   intro hg34
   have hs35:=hg34;skip
   refine dOf 30 44 hg34 ?_
   refine dOf 31 44 hg34 ?_
   refine dOf 32 44 hg34 ?_
   refine dOf 33 44 hg34 ?_
   refine dOf 34 44 hg34 ?_
   refine dOf 35 44 hg34 ?_
   refine dOf 36 44 hg34 ?_
   refine dOf 37 44 hg34 ?_
   refine dV 38 rfl (QC rfl rfl hg34 rfl) (dP 39 ?_)
   apply QI 54
   ·exact rfl
   ·intro hg36
    have hs37:=hg36;skip
    refine dPo 40 54 hg36 ?_
    refine dPo 41 54 hg36 ?_
    refine dVo 42 54 hg36 rfl rfl rfl (Qa rfl rfl rfl QZ (k) om om (Rw.some hs om)) ?_
    refine dFo 43 54 hg36 ?_
    refine dQo 44 54 [] hg36 rfl rfl rfl (Qq _ rfl rfl Zi rfl (Qcn hs hk)) ?_
    refine dFo 45 54 hg36 ?_
    refine dQo 46 54 [] hg36 rfl rfl rfl (Ym rfl rfl Zi aPk rfl) ?_
    refine dVo 47 54 hg36 rfl rfl rfl (Xn rfl rfl rfl Qbw (by rfl) (by rfl) (by rfl)) ?_
    refine dV 48 rfl (QE rfl rfl hg36 rfl) (dNi ?_)
    refine sCd rfl (λh38=>?_) λh38=>?_
    ·have hp:prB e (nth l k)=true:=by have hq:=h38;unfold prB;grind
     refine aU ?_
     refine Qd (L':=[(0,_),(1,_),(3,_),(5,_),(6,_),(7,_),(8,_)]) aSx (λ_ h=>h) ?_
     refine aU3 ?_
     exact rV (h:=by first|(rw[hp9,XW hk hp];rfl)|(rw[hp9,hno];rfl))
    have hp:prB e (nth l k)=false:=by have hq:=h38;unfold prB;grind
    refine aU2 ?_
    refine Qd (L':=[(0,_),(1,_),(3,_),(5,_),(6,_),(7,_),(8,_)]) aSx (λ_ h=>h) ?_
    refine aT3 ?_
    refine aU2 ?_
    exact sBk (k+1) om ⟨om,λj hj=>(Nat.lt_succ_iff_lt_or_eq.1 hj).elim (hk2 j) (λe9=>by rw[e9];exact hp)⟩
   intro hg39
   have hs40:=hg39;skip
   refine dOf 40 54 hg39 ?_
   refine dOf 41 54 hg39 ?_
   refine dOf 42 54 hg39 ?_
   refine dOf 43 54 hg39 ?_
   refine dOf 44 54 hg39 ?_
   refine dOf 45 54 hg39 ?_
   refine dOf 46 54 hg39 ?_
   refine dOf 47 54 hg39 ?_
   refine dV 48 rfl (QC rfl rfl hg39 rfl) (dNi ?_)
   refine sCd rfl (λh41=>?_) λh41=>?_
   ·have hp:prB e (nth l k)=true:=by have hq:=h41;unfold prB;grind
    refine aU ?_
    refine Qd (L':=[(0,_),(1,_),(3,_),(5,_),(6,_),(7,_),(8,_)]) aSx (λ_ h=>h) ?_
    refine aU3 ?_
    exact rV (h:=by first|(rw[hp9,XW hk hp];rfl)|(rw[hp9,hno];rfl))
   have hp:prB e (nth l k)=false:=by have hq:=h41;unfold prB;grind
   refine aU2 ?_
   refine Qd (L':=[(0,_),(1,_),(3,_),(5,_),(6,_),(7,_),(8,_)]) aSx (λ_ h=>h) ?_
   refine aT3 ?_
   refine aU2 ?_
   exact sBk (k+1) om ⟨om,λj hj=>(Nat.lt_succ_iff_lt_or_eq.1 hj).elim (hk2 j) (λe9=>by rw[e9];exact hp)⟩
  intro hg42
  have hs43:=hg42;try simp only[dN]at hs43
  refine dOf 9 23 hg42 ?_
  refine dOf 10 23 hg42 ?_
  refine dOf 11 23 hg42 ?_
  refine dOf 12 23 hg42 ?_
  refine dOf 13 23 hg42 ?_
  refine dOf 14 23 hg42 ?_
  refine dOf 15 23 hg42 ?_
  refine dOf 16 23 hg42 ?_
  refine dV 17 rfl (QC rfl rfl hg42 rfl) (dP 18 ?_)
  apply QI 33
  ·exact rfl
  ·intro hg44
   have hs45:=hg44;skip
   refine dPo 19 33 hg44 ?_
   refine dPo 20 33 hg44 ?_
   refine dVo 21 33 hg44 rfl rfl rfl (Qa rfl rfl rfl QZ (k) om om (Rw.some hs om)) ?_
   refine dFo 22 33 hg44 ?_
   refine dQo 23 33 [] hg44 rfl rfl rfl (Qb rfl rfl Zh ((hs.rdj 1 hk rfl))) ?_
   refine dFo 24 33 hg44 ?_
   refine dQo 25 33 [] hg44 rfl rfl rfl (Yj rfl rfl Zh aPk rfl) ?_
   refine dPo 26 33 hg44 ?_
   try refine dWr ?_
   refine dPo 27 33 hg44 ?_
   refine dV 28 rfl (QE rfl rfl hg44 rfl) (dP 29 ?_)
   apply QI 44
   ·exact rfl
   ·intro hg46
    have hs47:=hg46;try simp only[dT]at hs47
    refine dPo 30 44 hg46 ?_
    refine dPo 31 44 hg46 ?_
    refine dVo 32 44 hg46 rfl rfl rfl (Qa rfl rfl rfl QZ (k) om om (Rw.some hs om)) ?_
    refine dFo 33 44 hg46 ?_
    refine dQo 34 44 [] hg46 rfl rfl rfl (Qq _ rfl rfl QbN rfl (QhQ hs hk)) ?_
    refine dFo 35 44 hg46 ?_
    refine dQo 36 44 [] hg46 rfl rfl rfl (Ym rfl rfl QbN aPk rfl) ?_
    refine dVo 37 44 hg46 rfl rfl rfl (Xn rfl rfl rfl QfC (by rfl) (by rfl) (by rfl)) ?_
    refine dV 38 rfl (QE rfl rfl hg46 rfl) (dP 39 ?_)
    apply QI 54
    ·exact rfl
    ·intro hg48
     have hs49:=hg48;try simp only[Bool.and_eq_true,decide_eq_true_eq]at hs49
     refine dPo 40 54 hg48 ?_
     refine dPo 41 54 hg48 ?_
     refine dVo 42 54 hg48 rfl rfl rfl (Qa rfl rfl rfl QZ (k) om om (Rw.some hs om)) ?_
     refine dFo 43 54 hg48 ?_
     refine dQo 44 54 [] hg48 rfl rfl rfl (Qq _ rfl rfl Zi rfl (Qcn hs hk)) ?_
     refine dFo 45 54 hg48 ?_
     refine dQo 46 54 [] hg48 rfl rfl rfl (Ym rfl rfl Zi aPk rfl) ?_
     refine dVo 47 54 hg48 rfl rfl rfl (Xn rfl rfl rfl Qbw (by rfl) (by rfl) (by rfl)) ?_
     refine dV 48 rfl (QE rfl rfl hg48 rfl) (dNi ?_)
     refine sCd rfl (λh50=>?_) λh50=>?_
     ·have hp:prB e (nth l k)=true:=by have hq:=h50;unfold prB;grind
      refine aU ?_
      refine Qd (L':=[(0,_),(1,_),(3,_),(5,_),(6,_),(7,_),(8,_)]) aSx (λ_ h=>h) ?_
      refine aU3 ?_
      exact rV (h:=by first|(rw[hp9,XW hk hp];rfl)|(rw[hp9,hno];rfl))
     have hp:prB e (nth l k)=false:=by have hq:=h50;unfold prB;grind
     refine aU2 ?_
     refine Qd (L':=[(0,_),(1,_),(3,_),(5,_),(6,_),(7,_),(8,_)]) aSx (λ_ h=>h) ?_
     refine aT3 ?_
     refine aU2 ?_
     exact sBk (k+1) om ⟨om,λj hj=>(Nat.lt_succ_iff_lt_or_eq.1 hj).elim (hk2 j) (λe9=>by rw[e9];exact hp)⟩
    intro hg51
    have hs52:=hg51;try simp only[Bool.and_eq_false_iff,decide_eq_false_iff_not]at hs52
    refine dOf 40 54 hg51 ?_
    refine dOf 41 54 hg51 ?_
    refine dOf 42 54 hg51 ?_
    refine dOf 43 54 hg51 ?_
    refine dOf 44 54 hg51 ?_
    refine dOf 45 54 hg51 ?_
    refine dOf 46 54 hg51 ?_
    refine dOf 47 54 hg51 ?_
    refine dV 48 rfl (QC rfl rfl hg51 rfl) (dNi ?_)
    refine sCd rfl (λh53=>?_) λh53=>?_
    ·have hp:prB e (nth l k)=true:=by have hq:=h53;unfold prB;grind
     refine aU ?_
     refine Qd (L':=[(0,_),(1,_),(3,_),(5,_),(6,_),(7,_),(8,_)]) aSx (λ_ h=>h) ?_
     refine aU3 ?_
     exact rV (h:=by first|(rw[hp9,XW hk hp];rfl)|(rw[hp9,hno];rfl))
    have hp:prB e (nth l k)=false:=by have hq:=h53;unfold prB;grind
    refine aU2 ?_
    refine Qd (L':=[(0,_),(1,_),(3,_),(5,_),(6,_),(7,_),(8,_)]) aSx (λ_ h=>h) ?_
    refine aT3 ?_
    refine aU2 ?_
    exact sBk (k+1) om ⟨om,λj hj=>(Nat.lt_succ_iff_lt_or_eq.1 hj).elim (hk2 j) (λe9=>by rw[e9];exact hp)⟩
   intro hg54
   have hs55:=hg54;try simp only[dN]at hs55
   refine dOf 30 44 hg54 ?_
   refine dOf 31 44 hg54 ?_
   refine dOf 32 44 hg54 ?_
   refine dOf 33 44 hg54 ?_
   refine dOf 34 44 hg54 ?_
   refine dOf 35 44 hg54 ?_
   refine dOf 36 44 hg54 ?_
   refine dOf 37 44 hg54 ?_
   refine dV 38 rfl (QC rfl rfl hg54 rfl) (dP 39 ?_)
   apply QI 54
   ·exact rfl
   ·intro hg56
    have hs57:=hg56;skip
    refine dPo 40 54 hg56 ?_
    refine dPo 41 54 hg56 ?_
    refine dVo 42 54 hg56 rfl rfl rfl (Qa rfl rfl rfl QZ (k) om om (Rw.some hs om)) ?_
    refine dFo 43 54 hg56 ?_
    refine dQo 44 54 [] hg56 rfl rfl rfl (Qq _ rfl rfl Zi rfl (Qcn hs hk)) ?_
    refine dFo 45 54 hg56 ?_
    refine dQo 46 54 [] hg56 rfl rfl rfl (Ym rfl rfl Zi aPk rfl) ?_
    refine dVo 47 54 hg56 rfl rfl rfl (Xn rfl rfl rfl Qbw (by rfl) (by rfl) (by rfl)) ?_
    refine dV 48 rfl (QE rfl rfl hg56 rfl) (dNi ?_)
    refine sCd rfl (λh58=>?_) λh58=>?_
    ·have hp:prB e (nth l k)=true:=by have hq:=h58;unfold prB;grind
     refine aU ?_
     refine Qd (L':=[(0,_),(1,_),(3,_),(5,_),(6,_),(7,_),(8,_)]) aSx (λ_ h=>h) ?_
     refine aU3 ?_
     exact rV (h:=by first|(rw[hp9,XW hk hp];rfl)|(rw[hp9,hno];rfl))
    have hp:prB e (nth l k)=false:=by have hq:=h58;unfold prB;grind
    refine aU2 ?_
    refine Qd (L':=[(0,_),(1,_),(3,_),(5,_),(6,_),(7,_),(8,_)]) aSx (λ_ h=>h) ?_
    refine aT3 ?_
    refine aU2 ?_
    exact sBk (k+1) om ⟨om,λj hj=>(Nat.lt_succ_iff_lt_or_eq.1 hj).elim (hk2 j) (λe9=>by rw[e9];exact hp)⟩
   intro hg59
   have hs60:=hg59;skip
   refine dOf 40 54 hg59 ?_
   refine dOf 41 54 hg59 ?_
   refine dOf 42 54 hg59 ?_
   refine dOf 43 54 hg59 ?_
   refine dOf 44 54 hg59 ?_
   refine dOf 45 54 hg59 ?_
   refine dOf 46 54 hg59 ?_
   refine dOf 47 54 hg59 ?_
   refine dV 48 rfl (QC rfl rfl hg59 rfl) (dNi ?_)
   refine sCd rfl (λh61=>?_) λh61=>?_
   ·have hp:prB e (nth l k)=true:=by have hq:=h61;unfold prB;grind
    refine aU ?_
    refine Qd (L':=[(0,_),(1,_),(3,_),(5,_),(6,_),(7,_),(8,_)]) aSx (λ_ h=>h) ?_
    refine aU3 ?_
    exact rV (h:=by first|(rw[hp9,XW hk hp];rfl)|(rw[hp9,hno];rfl))
   have hp:prB e (nth l k)=false:=by have hq:=h61;unfold prB;grind
   refine aU2 ?_
   refine Qd (L':=[(0,_),(1,_),(3,_),(5,_),(6,_),(7,_),(8,_)]) aSx (λ_ h=>h) ?_
   refine aT3 ?_
   refine aU2 ?_
   exact sBk (k+1) om ⟨om,λj hj=>(Nat.lt_succ_iff_lt_or_eq.1 hj).elim (hk2 j) (λe9=>by rw[e9];exact hp)⟩
  intro hg62
  have hs63:=hg62;skip
  refine dOf 19 33 hg62 ?_
  refine dOf 20 33 hg62 ?_
  refine dOf 21 33 hg62 ?_
  refine dOf 22 33 hg62 ?_
  refine dOf 23 33 hg62 ?_
  refine dOf 24 33 hg62 ?_
  refine dOf 25 33 hg62 ?_
  refine dOf 26 33 hg62 ?_
  refine dOf 27 33 hg62 ?_
  refine dV 28 rfl (QC rfl rfl hg62 rfl) (dP 29 ?_)
  apply QI 44
  ·exact rfl
  ·intro hg64
   have hs65:=hg64;skip
   refine dPo 30 44 hg64 ?_
   refine dPo 31 44 hg64 ?_
   refine dVo 32 44 hg64 rfl rfl rfl (Qa rfl rfl rfl QZ (k) om om (Rw.some hs om)) ?_
   refine dFo 33 44 hg64 ?_
   refine dQo 34 44 [] hg64 rfl rfl rfl (Qq _ rfl rfl QbN rfl (QhQ hs hk)) ?_
   refine dFo 35 44 hg64 ?_
   refine dQo 36 44 [] hg64 rfl rfl rfl (Ym rfl rfl QbN aPk rfl) ?_
   refine dVo 37 44 hg64 rfl rfl rfl (Xn rfl rfl rfl QfC (by rfl) (by rfl) (by rfl)) ?_
   refine dV 38 rfl (QE rfl rfl hg64 rfl) (dP 39 ?_)
   apply QI 54
   ·exact rfl
   ·intro hg66
    have hs67:=hg66;try simp only[Bool.and_eq_true,decide_eq_true_eq]at hs67
    refine dPo 40 54 hg66 ?_
    refine dPo 41 54 hg66 ?_
    refine dVo 42 54 hg66 rfl rfl rfl (Qa rfl rfl rfl QZ (k) om om (Rw.some hs om)) ?_
    refine dFo 43 54 hg66 ?_
    refine dQo 44 54 [] hg66 rfl rfl rfl (Qq _ rfl rfl Zi rfl (Qcn hs hk)) ?_
    refine dFo 45 54 hg66 ?_
    refine dQo 46 54 [] hg66 rfl rfl rfl (Ym rfl rfl Zi aPk rfl) ?_
    refine dVo 47 54 hg66 rfl rfl rfl (Xn rfl rfl rfl Qbw (by rfl) (by rfl) (by rfl)) ?_
    refine dV 48 rfl (QE rfl rfl hg66 rfl) (dNi ?_)
    refine sCd rfl (λh68=>?_) λh68=>?_
    ·have hp:prB e (nth l k)=true:=by have hq:=h68;unfold prB;grind
     refine aU ?_
     refine Qd (L':=[(0,_),(1,_),(3,_),(5,_),(6,_),(7,_),(8,_)]) aSx (λ_ h=>h) ?_
     refine aU3 ?_
     exact rV (h:=by first|(rw[hp9,XW hk hp];rfl)|(rw[hp9,hno];rfl))
    have hp:prB e (nth l k)=false:=by have hq:=h68;unfold prB;grind
    refine aU2 ?_
    refine Qd (L':=[(0,_),(1,_),(3,_),(5,_),(6,_),(7,_),(8,_)]) aSx (λ_ h=>h) ?_
    refine aT3 ?_
    refine aU2 ?_
    exact sBk (k+1) om ⟨om,λj hj=>(Nat.lt_succ_iff_lt_or_eq.1 hj).elim (hk2 j) (λe9=>by rw[e9];exact hp)⟩
   intro hg69
   have hs70:=hg69;try simp only[Bool.and_eq_false_iff,decide_eq_false_iff_not]at hs70
   refine dOf 40 54 hg69 ?_
   refine dOf 41 54 hg69 ?_
   refine dOf 42 54 hg69 ?_
   refine dOf 43 54 hg69 ?_
   refine dOf 44 54 hg69 ?_
   refine dOf 45 54 hg69 ?_
   refine dOf 46 54 hg69 ?_
   refine dOf 47 54 hg69 ?_
   refine dV 48 rfl (QC rfl rfl hg69 rfl) (dNi ?_)
   refine sCd rfl (λh71=>?_) λh71=>?_
   ·have hp:prB e (nth l k)=true:=by have hq:=h71;unfold prB;grind
    refine aU ?_
    refine Qd (L':=[(0,_),(1,_),(3,_),(5,_),(6,_),(7,_),(8,_)]) aSx (λ_ h=>h) ?_
    refine aU3 ?_
    exact rV (h:=by first|(rw[hp9,XW hk hp];rfl)|(rw[hp9,hno];rfl))
   have hp:prB e (nth l k)=false:=by have hq:=h71;unfold prB;grind
   refine aU2 ?_
   refine Qd (L':=[(0,_),(1,_),(3,_),(5,_),(6,_),(7,_),(8,_)]) aSx (λ_ h=>h) ?_
   refine aT3 ?_
   refine aU2 ?_
   exact sBk (k+1) om ⟨om,λj hj=>(Nat.lt_succ_iff_lt_or_eq.1 hj).elim (hk2 j) (λe9=>by rw[e9];exact hp)⟩
  intro hg72
  have hs73:=hg72;skip
  refine dOf 30 44 hg72 ?_
  refine dOf 31 44 hg72 ?_
  refine dOf 32 44 hg72 ?_
  refine dOf 33 44 hg72 ?_
  refine dOf 34 44 hg72 ?_
  refine dOf 35 44 hg72 ?_
  refine dOf 36 44 hg72 ?_
  refine dOf 37 44 hg72 ?_
  refine dV 38 rfl (QC rfl rfl hg72 rfl) (dP 39 ?_)
  apply QI 54
  ·exact rfl
  ·intro hg74
   have hs75:=hg74;skip
   refine dPo 40 54 hg74 ?_
   refine dPo 41 54 hg74 ?_
   refine dVo 42 54 hg74 rfl rfl rfl (Qa rfl rfl rfl QZ (k) om om (Rw.some hs om)) ?_
   refine dFo 43 54 hg74 ?_
   refine dQo 44 54 [] hg74 rfl rfl rfl (Qq _ rfl rfl Zi rfl (Qcn hs hk)) ?_
   refine dFo 45 54 hg74 ?_
   refine dQo 46 54 [] hg74 rfl rfl rfl (Ym rfl rfl Zi aPk rfl) ?_
   refine dVo 47 54 hg74 rfl rfl rfl (Xn rfl rfl rfl Qbw (by rfl) (by rfl) (by rfl)) ?_
   refine dV 48 rfl (QE rfl rfl hg74 rfl) (dNi ?_)
   refine sCd rfl (λh76=>?_) λh76=>?_
   ·have hp:prB e (nth l k)=true:=by have hq:=h76;unfold prB;grind
    refine aU ?_
    refine Qd (L':=[(0,_),(1,_),(3,_),(5,_),(6,_),(7,_),(8,_)]) aSx (λ_ h=>h) ?_
    refine aU3 ?_
    exact rV (h:=by first|(rw[hp9,XW hk hp];rfl)|(rw[hp9,hno];rfl))
   have hp:prB e (nth l k)=false:=by have hq:=h76;unfold prB;grind
   refine aU2 ?_
   refine Qd (L':=[(0,_),(1,_),(3,_),(5,_),(6,_),(7,_),(8,_)]) aSx (λ_ h=>h) ?_
   refine aT3 ?_
   refine aU2 ?_
   exact sBk (k+1) om ⟨om,λj hj=>(Nat.lt_succ_iff_lt_or_eq.1 hj).elim (hk2 j) (λe9=>by rw[e9];exact hp)⟩
  intro hg77
  have hs78:=hg77;skip
  refine dOf 40 54 hg77 ?_
  refine dOf 41 54 hg77 ?_
  refine dOf 42 54 hg77 ?_
  refine dOf 43 54 hg77 ?_
  refine dOf 44 54 hg77 ?_
  refine dOf 45 54 hg77 ?_
  refine dOf 46 54 hg77 ?_
  refine dOf 47 54 hg77 ?_
  refine dV 48 rfl (QC rfl rfl hg77 rfl) (dNi ?_)
  refine sCd rfl (λh79=>?_) λh79=>?_
  ·have hp:prB e (nth l k)=true:=by have hq:=h79;unfold prB;grind
   refine aU ?_
   refine Qd (L':=[(0,_),(1,_),(3,_),(5,_),(6,_),(7,_),(8,_)]) aSx (λ_ h=>h) ?_
   refine aU3 ?_
   exact rV (h:=by first|(rw[hp9,XW hk hp];rfl)|(rw[hp9,hno];rfl))
  have hp:prB e (nth l k)=false:=by have hq:=h79;unfold prB;grind
  refine aU2 ?_
  refine Qd (L':=[(0,_),(1,_),(3,_),(5,_),(6,_),(7,_),(8,_)]) aSx (λ_ h=>h) ?_
  refine aT3 ?_
  refine aU2 ?_
  exact sBk (k+1) om ⟨om,λj hj=>(Nat.lt_succ_iff_lt_or_eq.1 hj).elim (hk2 j) (λe9=>by rw[e9];exact hp)⟩
 obtain rfl:k=l.length:=by have hq:=h3;omega
 have hno:=QpK hk2
 refine Qg rfl ?_
 refine aU4 ?_
 exact rV (h:=by first|(rw[hp9,XW hk hp];rfl)|(rw[hp9,hno];rfl))
instance:TFn Tryz.prog 93:=⟨by kernel_rfl⟩
instance:TFn Tryz.prog 87:=⟨by kernel_rfl⟩
instance:TFn Tryz.prog 94:=⟨by kernel_rfl⟩
instance:TFn Tryz.prog 95:=⟨by kernel_rfl⟩
instance:TFn Tryz.prog 34:=⟨by kernel_rfl⟩
instance:TFn Tryz.prog 74:=⟨by kernel_rfl⟩
set_option maxHeartbeats 4000000 in
theorem c34(w:World)(co mo rm:Int)(a:Option Addr)(cap:Nat)(L:List LNd)(T:BT)(hs:Nt w [] a L)(hB:Bd (pln L))(hkl:∀i,i<L.length->∀x∈(nth L i).es,x.key.length<=1000000)(hl2:L.length<=1000)(hT:DT (⟨co,mo,rm,pln L⟩:Tre) T):CR 34 #[.agg #[.int .i64 co,.int .i64 mo,.int .i64 rm,.slice a L.length cap]] w (.tuple #[.int .i64 (Xa (⟨co,mo,rm,pln L⟩:Tre) T.flat).1,.int .i64 (Xa (⟨co,mo,rm,pln L⟩:Tre) T.flat).2]):=by
 refine eN1 Tryz.func34 Tryz.ntmps34 ?_
 refine aU2 ?_
 refine oBx λb1 _=>?_
 refine aU7 ?_
 refine oCq rfl (λw1 h1=>c93 w1 co mo rm a cap L (hs.later h1.nil) hB hkl) (Qab ?_)
 refine sCd rfl (λh2=>?_) λh2=>?_
 ·have h0:¬(Yb (⟨co,mo,rm,pln L⟩:Tre)).2=0:=by have hq:=h2;simpa using hq
  obtain⟨hZ,hLL⟩:=Qs1 (X:=T.flat) h0
  refine aU7 ?_
  exact Qm (rs:=[.tmp 2,.tmp 3]) rfl (.tmp rfl (.tmp rfl (.nil))) (λw' h'=>⟨by rw[hZ];rfl,h'.below⟩)
 have h0:(Yb (⟨co,mo,rm,pln L⟩:Tre)).2=0:=by have hq:=h2;simpa using hq
 obtain⟨d9,lo9,hi9,hBl,hN,hT0,hf9,hsm9⟩:=hT h0
 refine aU8 ?_
 refine sCd rfl (λh3=>?_) λh3=>?_
 ·have h1c:¬co=1:=by have hq:=h3;simpa using hq
  obtain⟨hZ,hLL⟩:=Qs7 (X:=T.flat) h0 h1c
  refine aU5 ?_
  exact Qm (rs:=[.tmp 2,.tmp 3]) rfl (.tmp rfl (.tmp rfl (.nil))) (λw' h'=>⟨by rw[hZ];rfl,h'.below⟩)
 have hco:co=1:=by have hq:=h3;simpa using hq
 have hdo:=Qte (X:=T.flat) h0 hco
 refine aU4 ?_
 refine oCh rfl (λw1 h1=>c87 w1 co mo rm a cap L T d9 lo9 hi9 (hs.later h1.nil) hl2 hBl hN hT0 hf9) (λgX _=>QbX ?_)
 refine Qd (L':=[(2,_),(3,_),(6,_),(7,_),(8,_)]) aSx (λ_ h=>h) ?_
 refine Qp (α:=Nat×(Option Addr×Nat)) [2,3,7,8,9,10,26,27,28,29,30,31,32,33,34,35,36,37,38,39,40,41,42,43,44,45,46,47] (λy=>[(8,.int .i64 (y.1:Int)),(7,.slice y.2.1 ((T.flat.take y.1).map Qe).length y.2.2)]) (λy=>HS w [] [.own (.slice y.2.1 ((T.flat.take y.1).map Qe).length y.2.2) 66 9 ((T.flat.take y.1).map Qe).length (((T.flat.take y.1).map Qe).flatMap DEnt.vals),.own (.slice gX.1 T.flat.length gX.2) 84 2 T.flat.length (T.flat.flatMap TEnt.vals)]) (λy=>y.1<=T.flat.length/\QD (T.flat.map dcE) 0=QD ((T.flat.map dcE).drop y.1) y.1) (λy=>T.flat.length-y.1) (0,(none,0)) ⟨Nat.zero_le _,rfl⟩ aSx (λw h=>(h.own_nil 66 9).ent aEt) (λ⟨k,A⟩hkk=>?_)
 dsimp only at hkk ⊢
 obtain⟨hk1,hk2⟩:=hkk
 refine aU8 ?_
 refine sCd rfl (λh4=>?_) λh4=>?_
 ·have hk:k<T.flat.length:=by have hq:=h4;omega
  have hs2:((T.flat.take (k+1)).map Qe)=((T.flat.take k).map Qe)++[Qe (nth T.flat k)]:=by rw[Xg (d:=default) hk,List.map_append];rfl
  have hkl9:((T.flat.take k).map Qe).length=k:=by rw[List.length_map,List.length_take];omega
  refine Qdf (λw h=>Rw.some (h.rw_own ev2 aPk rfl) om) λhsm=>?_
  have hst:=Qbn (f:=dcE) (d:=default) hk
  refine aU7 ?_
  refine o_p (Qa rfl rfl rfl QG (k) om om hsm) rfl (o_q (Xx _ rfl rfl Qc8 rfl (λw h=>Rw.rd (h.rw_own ev2 aPk rfl) hk)) rfl (oCq rfl (λw1 h1=>c43 w1 (nth T.flat k) (by have:=(hsm9 _ (Qt hk)).1;omega) (by have:=(hsm9 _ (Qt hk)).2;omega)) (aU3 ?_)))
  refine oAl (λb5 _=>?_) Xh
  refine aU9 ?_
  refine sCd rfl (λh6=>?_) λh6=>?_
  ·have hne:¬dcE (nth T.flat k)=0:=by have hq:=h6;simpa using hq
   have hZ:(Xa (⟨co,mo,rm,pln L⟩:Tre) T.flat)=((k:Int),dcE (nth T.flat k)):=by rw[hdo,Qtc (k:=k) (e:=dcE (nth T.flat k)) (by rw[hk2];exact hst.trans (if_neg hne)) hne]
   refine aU7 ?_
   exact Qm (rs:=[.tmp 2,.tmp 3]) rfl (.tmp rfl (.tmp rfl (.nil))) (λw' h'=>⟨by rw[hZ];rfl,h'.below⟩)
  have he0:dcE (nth T.flat k)=0:=by have hq:=h6;simpa using hq
  have hst3:QD ((T.flat.map dcE).drop k) k=QD ((T.flat.map dcE).drop (k+1)) (k+1):=hst.trans (if_pos he0)
  have hdc:dcD (nth T.flat k)=Qe (nth T.flat k):=if_pos he0
  rw[hdc]
  refine aU4 ?_
  refine o_h (Ql (cs:=[_,_,_,_,_,_,_,_,_]) rfl rfl QZ Xh rfl rfl rfl) rfl (λb7 _=>o_h (QF (n:=((T.flat.take k).map Qe).length) (Qe (nth T.flat k)).vals rfl rfl rfl QZ Tryz.underlying33 Xh rfl aPk (Xk aPk) rfl (dv1 _) om (by simp only[maxLen];omega)) rfl (λb8 _=>aT6 ?_))
  refine aU2 ?_
  exact Qs (k+1,b8) (by dsimp only;omega) (by dsimp only;exact⟨om,by rw[hk2,hst3]⟩) (by dsimp only;rw[hs2,List.length_append];exact aSx) (λw h=>by dsimp only;rw[hs2,List.length_append,XU];exact h.ent aEt)
 obtain rfl:k=T.flat.length:=by have hq:=h4;omega
 rw[List.take_length]
 have hall:(QD (T.flat.map dcE) 0).2=0:=by rw[hk2,Zo (by rw[List.length_map];exact Nat.le_refl _)]
 have hol:=Qs5 hall
 refine Qg rfl ?_
 refine aU6 ?_
 refine Qp (α:=Nat) [2,3,11,48,49,50,51,52,53,54,55,56,57,58,59,60,61,62,63,64,65,66,67,68] (λk=>[(11,.int .i64 (k:Int))]) (λk=>HS w [] [.own (.slice A.1 (T.flat.map Qe).length A.2) 66 9 (T.flat.map Qe).length ((T.flat.map Qe).flatMap DEnt.vals)]) (λk=>k<=(T.flat.map Qe).length/\QD ((T.flat.map Qe).map (stE (T.flat.map Qe))) 0=QD (((T.flat.map Qe).map (stE (T.flat.map Qe))).drop k) k) (λk=>(T.flat.map Qe).length-k) 0 ⟨Nat.zero_le _,rfl⟩ aSx (λw h=>h.ent aEt) (λk hkk=>?_)
 obtain⟨hk1,hk2⟩:=hkk
 refine aU8 ?_
 refine sCd rfl (λh9=>?_) λh9=>?_
 ·have hk:k<(T.flat.map Qe).length:=by have hq:=h9;omega
  have hk10:k<10000:=by have hq:=hk;rw[List.length_map]at hq;omega
  have hst:=Qbn (f:=stE (T.flat.map Qe)) (d:=default) hk
  refine Qdf (λw h=>Rw.some (h.rw_own dv9 aPk rfl) om) λhsm2=>aU8 ?_
  refine o_p (Qa rfl rfl rfl QZ (k) om om hsm2) rfl (o_q (Xx _ rfl rfl YC rfl (λw h=>Rw.rd (h.rw_own dv9 aPk rfl) hk)) rfl (oCq rfl (λw1 h1=>c94 w1 (nth (T.flat.map Qe) k) (QeA (QcV hall (Qt hk))).1 (QeA (QcV hall (Qt hk))).2.2.1) (aU2 ?_)))
  refine sCd rfl (λh10=>?_) λh10=>?_
  ·have hsv:stE (T.flat.map Qe) (nth (T.flat.map Qe) k)=20:=by have hq:=h10;unfold stE;rw[if_neg (by simpa using hq)]
   have hZ:(Xa (⟨co,mo,rm,pln L⟩:Tre) T.flat)=((k:Int),20):=by rw[hdo,hol,hk2];exact hst.trans (by rw[show(T.flat.map Qe).getD k default=(nth (T.flat.map Qe) k)from rfl,hsv];rfl)
   refine aU6 ?_
   exact Qm (rs:=[.tmp 2,.tmp 3]) rfl (.tmp rfl (.tmp rfl (.nil))) (λw' h'=>⟨by rw[hZ];rfl,h'.below⟩)
  have hfb:QgO (nth (T.flat.map Qe) k)=true:=by have hq:=h10;simpa using hq
  refine aU6 ?_
  refine o_p (Qa rfl rfl rfl QZ (k) om om hsm2) rfl (o_q (Xx _ rfl rfl YC rfl (λw h=>Rw.rd (h.rw_own dv9 aPk rfl) hk)) rfl (oCq rfl (λw1 h1=>c95 w1 A.1 A.2 (T.flat.map Qe) (nth (T.flat.map Qe) k) (h1.rw_own dv9 aPk rfl) (by rw[List.length_map];omega) (QeA (QcV hall (Qt hk))).2.2.1) (aU2 ?_)))
  refine sCd rfl (λh11=>?_) λh11=>?_
  ·have hsv:stE (T.flat.map Qe) (nth (T.flat.map Qe) k)=21:=by have hq:=h11;rw[Qs0,if_pos hfb,if_neg (by simpa using hq)]
   have hZ:(Xa (⟨co,mo,rm,pln L⟩:Tre) T.flat)=((k:Int),21):=by rw[hdo,hol,hk2];exact hst.trans (by rw[show(T.flat.map Qe).getD k default=(nth (T.flat.map Qe) k)from rfl,hsv];rfl)
   refine aU6 ?_
   exact Qm (rs:=[.tmp 2,.tmp 3]) rfl (.tmp rfl (.tmp rfl (.nil))) (λw' h'=>⟨by rw[hZ];rfl,h'.below⟩)
  have hsv:stE (T.flat.map Qe) (nth (T.flat.map Qe) k)=0:=by have hq:=h11;rw[Qs0,if_pos hfb,if_pos (by simpa using hq)]
  have hst3:QD (((T.flat.map Qe).map (stE (T.flat.map Qe))).drop k) k=QD (((T.flat.map Qe).map (stE (T.flat.map Qe))).drop (k+1)) (k+1):=hst.trans (if_pos hsv)
  refine aT5 ?_
  refine aU2 ?_
  exact sBk (k+1) om ⟨om,by rw[hk2,hst3]⟩
 obtain rfl:k=(T.flat.map Qe).length:=by have hq:=h9;omega
 have hZ:(Xa (⟨co,mo,rm,pln L⟩:Tre) T.flat)=(0,0):=by rw[hdo,hol,hk2,Zo (by rw[List.length_map];exact Nat.le_refl _)]
 refine Qg rfl ?_
 refine aU5 ?_
 exact Qm (rs:=[.tmp 2,.tmp 3]) rfl (.tmp rfl (.tmp rfl (.nil))) (λw' h'=>⟨by rw[hZ];rfl,h'.below⟩)
theorem c15(w:World)(co mo rm:Int)(a:Option Addr)(cap:Nat)(L:List LNd)(T:BT)(hs:Nt w [] a L)(hB:Bd (pln L))(hkl:∀i,i<L.length->∀x∈(nth L i).es,x.key.length<=1000000)(hl2:L.length<=1000)(hT:DT (⟨co,mo,rm,pln L⟩:Tre) T):CR 15 #[.agg #[.int .i64 co,.int .i64 mo,.int .i64 rm,.slice a L.length cap]] w (.int .i64 (Xa (⟨co,mo,rm,pln L⟩:Tre) T.flat).2):=by
 refine eN1 Tryz.func15 Tryz.ntmps15 ?_
 refine aU2 ?_
 refine oBx λb1 _=>?_
 refine aU5 ?_
 refine oCq rfl (λw1 h1=>c34 w1 co mo rm a cap L T (hs.later h1.nil) hB hkl hl2 hT) (Qab ?_)
 exact rV
set_option maxHeartbeats 2000000 in
theorem c29(w:World)(co mo rm:Int)(a:Option Addr)(cap:Nat)(L:List LNd)(T:BT)(hs:Nt w [] a L)(hB:Bd (pln L))(hkl:∀i,i<L.length->∀x∈(nth L i).es,x.key.length<=1000000)(hl2:L.length<=1000)(hT:DT (⟨co,mo,rm,pln L⟩:Tre) T)(hz0:(Xa (⟨co,mo,rm,pln L⟩:Tre) T.flat).2=0):CE 29 #[.agg #[.int .i64 co,.int .i64 mo,.int .i64 rm,.slice a L.length cap]] w [] (λg:Option Addr×Nat=>.slice g.1 (T.flat.map Qe).length g.2) (λg=>True) λg=>[.own (.slice g.1 (T.flat.map Qe).length g.2) 66 9 (T.flat.map Qe).length ((T.flat.map Qe).flatMap DEnt.vals)]:=by
 obtain⟨h0,hco,hall,_⟩:=Qoe hz0
 obtain⟨d9,lo9,hi9,hBl,hN,hT0,hf9,hsm9⟩:=hT h0
 refine eN1 Tryz.func29 Tryz.ntmps29 ?_
 refine aU2 ?_
 refine oBx λb1 _=>?_
 refine aU9 ?_
 refine oCh rfl (λw1 h1=>c87 w1 co mo rm a cap L T d9 lo9 hi9 (hs.later h1.nil) hl2 hBl hN hT0 hf9) (λgX _=>aU8 ?_)
 refine Qp (α:=Nat×(Option Addr×Nat)) [3,5,6,7,10,11,12,13,14,15,16,17,18,19,20,21,22,23,24,25,26,27] (λy=>[(5,.int .i64 (y.1:Int)),(3,.slice y.2.1 ((T.flat.take y.1).map Qe).length y.2.2)]) (λy=>HS w [] [.own (.slice y.2.1 ((T.flat.take y.1).map Qe).length y.2.2) 66 9 ((T.flat.take y.1).map Qe).length (((T.flat.take y.1).map Qe).flatMap DEnt.vals),.own (.slice gX.1 T.flat.length gX.2) 84 2 T.flat.length (T.flat.flatMap TEnt.vals)]) (λy=>y.1<=T.flat.length) (λy=>T.flat.length-y.1) (0,(none,0)) (Nat.zero_le _) aSx (λw h=>(h.own_nil 66 9).ent aEt) (λ⟨k,A⟩hk1=>?_)
 dsimp only at hk1 ⊢
 refine aU8 ?_
 refine sCd rfl (λh2=>?_) λh2=>?_
 ·have hk:k<T.flat.length:=by have hq:=h2;omega
  have hs2:((T.flat.take (k+1)).map Qe)=((T.flat.take k).map Qe)++[Qe (nth T.flat k)]:=by rw[Xg (d:=default) hk,List.map_append];rfl
  have hkl9:((T.flat.take k).map Qe).length=k:=by rw[List.length_map,List.length_take];omega
  refine Qdf (λw h=>Rw.some (h.rw_own ev2 aPk rfl) om) λhsm=>?_
  have he0:dcE (nth T.flat k)=0:=ZZ.1 hall _ (List.mem_map.2 ⟨_,Qt hk,rfl⟩)
  have hdc:dcD (nth T.flat k)=Qe (nth T.flat k):=if_pos he0
  refine aU7 ?_
  refine o_p (Qa rfl rfl rfl QG (k) om om hsm) rfl (o_q (Xx _ rfl rfl Qc8 rfl (λw h=>Rw.rd (h.rw_own ev2 aPk rfl) hk)) rfl (oCq rfl (λw1 h1=>c43 w1 (nth T.flat k) (by have:=(hsm9 _ (Qt hk)).1;omega) (by have:=(hsm9 _ (Qt hk)).2;omega)) ?_))
  rw[hdc]
  refine aU3 ?_
  refine oAl (λb3 _=>?_) Xh
  refine aU6 ?_
  refine o_h (Ql (cs:=[_,_,_,_,_,_,_,_,_]) rfl rfl QZ Xh rfl rfl rfl) rfl (λb4 _=>o_h (QF (n:=((T.flat.take k).map Qe).length) (Qe (nth T.flat k)).vals rfl rfl rfl QZ Tryz.underlying33 Xh rfl aPk (Xk aPk) rfl (dv1 _) om (by simp only[maxLen];omega)) rfl (λb5 _=>aT6 ?_))
  refine aU2 ?_
  exact Qs (k+1,b5) (by dsimp only;omega) (by dsimp only;omega) (by dsimp only;rw[hs2,List.length_append];exact aSx) (λw h=>by dsimp only;rw[hs2,List.length_append,XU];exact h.ent aEt)
 obtain rfl:k=T.flat.length:=by have hq:=h2;omega
 rw[List.take_length]
 refine Qg rfl ?_
 refine aU5 ?_
 exact rT rfl rfl (λw' h'=>⟨A,rfl,trivial,h'.ent aEt⟩)
end Go.Proofs
