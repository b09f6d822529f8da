/- Contracts of the program's functions, proved by walking them with the rules of the Gx texts; without conditions beyond those that each contract names. -/
import Derived.WalkKit
import Derived.Deep.Draws
import Derived.TacticsIn
import Derived.OrdersIn
import Derived.RangeFuncLeaves
import Derived.Lib.Strings
import Derived.Laws.BytesArg
import Derived.Laws.IdiomStrings
import Derived.Deep.Quiet
import Derived.Laws.StructEq
import Derived.ChangeKeysEq
import Derived.Laws.Externs
import Derived.Lib.Overlaps
import Derived.Carry
import Derived.Laws.Small
import Derived.Lib.Bytealg
import Derived.Lib.Builder
import Derived.Laws.Pointers
import Derived.RangeFuncRecord
import Derived.Test.YtldegbfcaelpdaaGreatProg
import Derived.KernelRfl
import Derived.ProofKit
import Derived.OpenShut
import Derived.Lib.UnsafeStr
import Derived.LaidEqlPtr
import Derived.Shelf.Strings.Builder1
import Derived.Shelf.Strings.Builder2
import Derived.Shelf.Small.Strs
import Derived.Shelf.Strings.BuilderF
import Derived.Shelf.Strings.Prefix
import Derived.Shelf.Bits.Mul64
import Derived.Shelf.Strings.Repeat
import Derived.Shelf.Slices.Reverse
import Derived.Ground.Names2Prog
import Derived.Shelf.Slices.Clone
import Derived.Shelf.Slices.Cells
import Derived.Ground.SlgnProg
import Derived.Shelf.SlicesE.Clone
import Derived.Test.YtldegbfcaelpdaaGreatP2
set_option linter.unusedSimpArgs false
set_option maxHeartbeats 1000000
set_option linter.unusedVariables false
set_option linter.unusedSectionVars false
set_option linter.unnecessarySimpa false
namespace Go.Proofs
open Go Go.RowKit Gx
attribute [local irreducible] Go.Calls Gx.S Gx.O Gx.D Gx.OpP Gx.OpQ Gx.OpH
set_option maxRecDepth 20000
theorem QdQ:tsl Tryz.prog 200=some (9,1,16):=by kernel_rfl
theorem QqS:Xy Tryz.prog 9=some [.string (bs [])]:=by kernel_rfl
theorem Qia:QH Tryz.prog 87=true:=by kernel_rfl
instance:TFn Tryz.prog 87:=⟨Qia⟩
def PlC(j:Nat)(mo rm:Int)(a:Option Addr)(cap:Nat)(L:List LNd)(deep:Int)(f:Nat):Prop:=∀(w:World)(v:Vis)(P:List Nat)(lv:Int)(pa qa:Option Addr)(pn pc qn qc:Nat),(Nt w [] a L)->(j<=3)->((0<=mo/\mo<=1000)/\(0<=deep/\deep<=1000))->(TOk (j:Int) (pln L))->(Bd (pln L))->(0<L.length)->(Gx.Way (pln L) (v.i::P))->(v.d=(P.length:Int)+1)->(lv=deep+1-v.d)->(KOk (j:Int) v.lo)->(KOk (j:Int) v.hi)->(StK w pa pn v.lo)->(StK w qa qn v.hi)->P.length+f=L.length->Calls Tryz.prog 87 #[.agg #[.int .i64 (j:Int),.int .i64 mo,.int .i64 rm,.slice a L.length cap],.int .i64 (v.i:Int),.int .i64 lv,.slice pa pn pc,.slice qa qn qc] w λen w'=>en=.returned (.tuple #[.int .i64 (X8 (⟨(j:Int),mo,rm,pln L⟩:Tre) deep (vis (pln L) f v)).1,.int .i64 (X8 (⟨(j:Int),mo,rm,pln L⟩:Tre) deep (vis (pln L) f v)).2])/\Below w.heap.size w w'
theorem c87s(w:World)(j:Nat)(mo rm:Int)(a:Option Addr)(cap:Nat)(L:List LNd)(deep:Int)(v:Vis)(P:List Nat)(lv:Int)(pa qa:Option Addr)(pn pc qn qc:Nat)(f:Nat)(hs:Nt w [] a L)(hj:j<=3)(hmo:(0<=mo/\mo<=1000)/\(0<=deep/\deep<=1000))(hT:TOk (j:Int) (pln L))(hB:Bd (pln L))(h0:0<L.length)(hway:Gx.Way (pln L) (v.i::P))(hd:v.d=(P.length:Int)+1)(hlv:lv=deep+1-v.d)(hko:KOk (j:Int) v.lo)(hkp:KOk (j:Int) v.hi)(hlo:StK w pa pn v.lo)(hhi:StK w qa qn v.hi)(hf:P.length+(f+1)=L.length)(ih:PlC j mo rm a cap L deep f):CR 87 #[.agg #[.int .i64 (j:Int),.int .i64 mo,.int .i64 rm,.slice a L.length cap],.int .i64 (v.i:Int),.int .i64 lv,.slice pa pn pc,.slice qa qn qc] w (.tuple #[.int .i64 (X8 (⟨(j:Int),mo,rm,pln L⟩:Tre) deep (vis (pln L) (f+1) v)).1,.int .i64 (X8 (⟨(j:Int),mo,rm,pln L⟩:Tre) deep (vis (pln L) (f+1) v)).2]):=by
 have hi0:=ZK hT (by rw[Qb];exact h0) hway v.i (List.mem_cons_self ..)
 have hi:v.i<L.length:=by rw[Qb]at hi0;exact hi0
 have hn:=Qp hi
 have hn0:=Qp h0
 have hle:=hB.len
 rw[Qb]at hle
 have hwl:=XW hT (by rw[Qb];exact h0) hway
 rw[Qb,List.length_cons]at hwl
 have hcl:=hB.cs v.i hi0
 have hel:=hB.es v.i hi0
 rw[hn]at hcl hel
 simp only[LNd.pl]at hcl hel
 have hsh:=hT.shape v.i hi0
 rw[hn]at hsh
 simp only[LNd.pl]at hsh
 have hgi:=Qot (t:=(⟨(j:Int),mo,rm,pln L⟩:Tre)) (v:=v) hn hn0 (hn0▸hT.shape 0 (by rw[Qb];exact h0)) (λc hc=>(hT.kid 0 (by rw[Qb];exact h0) c (by rw[hn0];exact hc)).1.1)
 simp only[LNd.pl]at hgi
 have hE9:=Qc2 hT hi0
 rw[hn]at hE9
 simp only[LNd.pl]at hE9
 refine eN5 Tryz.func87 Tryz.ntmps87 ?_
 refine aU2 ?_
 refine oBx λb1 _=>?_
 refine aU8 ?_
 refine o_p (Qa rfl rfl rfl QE (v.i) om om (Rw.some hs.1 om)) rfl (o_q (Qu _ rfl rfl Y5 rfl (Rw.rd hs.1 hi)) rfl (oAl (λb2 _=>?_) XY))
 refine aU8 ?_
 refine XJ 8 27 35 rfl
  (λhg3 _=>by
   refine YZ ?_
   refine o_p (Y6 rfl rfl rfl om om om) rfl (aU2 ?_)
   exact oJt 8 35)
  (λhg5 _=>by
   refine aU7 ?_
   exact oJf 8 35) ?_
 refine aU ?_
 refine sCd rfl (λh7=>?_) λh7=>?_
 ·have hgp:Zo (⟨(j:Int),mo,rm,pln L⟩:Tre) v=true:=hgi.2 (.inl (by have hq:=h7;omega))
  have hV:=Qin (deep:=deep) hgp
  refine aU6 ?_
  exact Qf (rs:=[.tmp 10,.tmp 11]) rfl (.tmp rfl (.tmp rfl (.nil))) (λw' h'=>⟨by rw[Qdi (by rw[hV];decide),hV];rfl,h'.below⟩)
 have hng1:¬(v.i≠0/\((nth L v.i).es.length:Int)<mo/2):=by have hq:=h7;omega
 refine aU6 ?_
 refine o_p (Qa rfl rfl rfl QE (0) om om (Rw.some hs.1 om)) rfl (aU ?_)
 refine o_q (Qc rfl rfl XZ ((hs.1.rdj 1 h0 rfl))) rfl (aU3 ?_)
 refine XJ 8 44 52 rfl
  (λhg8 _=>by
   refine aU5 ?_
   refine o_p (Qa rfl rfl rfl QE (0) om om (Rw.some hs.1 om)) rfl (aU3 ?_)
   refine o_q (Qc rfl rfl XN ((hs.1.rdj 2 h0 rfl))) rfl (aU4 ?_)
   exact oJt 8 52)
  (λhg10 _=>by
   refine aU7 ?_
   exact oJf 8 52) ?_
 refine aU ?_
 refine XJ 10 53 63 rfl
  (λhg12 _=>by
   refine aU5 ?_
   refine o_p (Qa rfl rfl rfl QE (0) om om (Rw.some hs.1 om)) rfl (aU3 ?_)
   refine o_q (Qc rfl rfl XN ((hs.1.rdj 2 h0 rfl))) rfl (aU ?_)
   refine o_p (Qa rfl rfl rfl QB (0) om om (Rw.some (hs.cs h0) om)) rfl (aU ?_)
   refine o_q (Qc rfl rfl Xq (((hs.cs h0).rdj 0 (i:=0) om rfl))) rfl (aU4 ?_)
   exact oJt 10 63)
  (λhg14 _=>by
   refine aU9 ?_
   exact oJf 10 63) ?_
 refine aU ?_
 refine XJ 7 64 71 rfl
  (λhg16 _=>by
   refine Y1 ?_
   exact oJt 7 71)
  (λhg18 _=>by
   refine aU6 ?_
   exact oJf 7 71) ?_
 refine aU ?_
 refine sCd rfl (λh20=>?_) λh20=>?_
 ·have hgp:Zo (⟨(j:Int),mo,rm,pln L⟩:Tre) v=true:=hgi.2 (.inr (by have hq:=h20;exact⟨⟨⟨om,om⟩,hq.1.2⟩,om⟩))
  have hV:=Qin (deep:=deep) hgp
  refine aU ?_
  refine Qg (L':=[(1,_),(2,_),(3,_),(4,_),(5,_),(10,_),(11,_),(12,_)]) aSx (λ_ h=>h) ?_
  refine aU5 ?_
  exact Qf (rs:=[.tmp 10,.tmp 11]) rfl (.tmp rfl (.tmp rfl (.nil))) (λw' h'=>⟨by rw[Qdi (by rw[hV];decide),hV];rfl,h'.below⟩)
 have hgn:¬Zo (⟨(j:Int),mo,rm,pln L⟩:Tre) v=true:=λh9=>(hgi.1 h9).elim hng1 (λh8=>by have hq:=h20;rcases hq with((hq|hq)|hq)|hq<;>first|omega|exact hq h8.1.2)
 refine aU3 ?_
 refine Qg (L':=[(1,_),(2,_),(3,_),(4,_),(5,_),(10,_),(11,_),(12,_)]) aSx (λ_ h=>h) ?_
 refine aU4 ?_
 refine Qt (α:=Nat) [10,11,13,14,73,74,75,76,77,78,79,80,81,82,83,84,85,86,87,88,89,90,91,92,93,94,95,96,97,98,99,100,101,102,103,104,105,106,107,108,109,110,111,112,113,114] (λk=>[(13,.int .i64 (k:Int))]) (λ_=>HS w [] [.blk b1 27 4 [.int .i64 (j:Int),.int .i64 mo,.int .i64 rm,.slice a L.length cap],.blk b2 64 3 (LNd.vals (nth L v.i))]) (λk=>k<=(nth L v.i).es.length/\∀q,q<k->¬Zx (⟨(j:Int),mo,rm,pln L⟩:Tre) v (nth (nth L v.i).es q)=true) (λk=>(nth L v.i).es.length-k) 0 ⟨Nat.zero_le _,λq h=>absurd h (Nat.not_lt_zero q)⟩ aSx (λw h=>h.ent aEt) (λk hx9=>?_)
 obtain⟨hk1,hk3⟩:=hx9
 refine aU9 ?_
 refine sCd rfl (λh21=>?_) λh21=>?_
 ·have hk5:k<(nth L v.i).es.length:=by omega
  refine aU8 ?_
  refine o_p (Qa rfl rfl rfl QL (k) om om (Rw.some (hs.es hi) om)) rfl (aU ?_)
  refine o_q (Qc rfl rfl Y8 (((hs.es hi).rdj 0 hk5 rfl))) rfl (aU3 ?_)
  refine Qg (L':=[(1,_),(2,_),(3,_),(4,_),(5,_),(12,_),(13,_),(14,_)]) aSx (λ_ h=>h) ?_
  refine Qg1 (α:=Bool) [86,87,88,89,90,91,92,93,94,95,96,97,98,99,100,101,102,103,104,105,106,107,108,109,110,111,112,113] (λx=>[(113,.bool x)]) (λx=>x=true ↔ (Zx (⟨(j:Int),mo,rm,pln L⟩:Tre) v (nth (nth L v.i).es k))=true) ?_ ?_
  ·skip
   refine Qq [] Qx ?_
   refine dP 0 ?_
   refine dV 1 rfl (Qz rfl rfl Tryz.underlying200) (dP 2 ?_)
   refine dP 3 ?_
   apply Q7 89
   ·exact rfl
   ·intro hg22
    have hs23:=hg22;try simp only[dT]at hs23
    refine dFo 4 89 hg22 ?_
    obtain⟨kl,bl,ol,hlo1,hlo2,hlo3,hlo4⟩:=hlo.of_pos om
    refine dQo 5 89 [] hg22 rfl rfl rfl (XO rfl rfl Xq aPk rfl) ?_
    refine dPo 6 89 hg22 ?_
    refine dVo 7 89 hg22 rfl rfl rfl (Qa rfl rfl rfl QdQ (0) om om hlo3) ?_
    refine dQo 8 89 [] hg22 rfl rfl rfl (Qc rfl rfl Y8 (hlo4)) ?_
    refine dPo 9 89 hg22 ?_
    refine dQo 10 89 [] hg22 rfl rfl rfl (Ql rfl QdG rfl (λw1 h1=>Qls w1 j kl (nth (nth L v.i).es k).key hj (hko _ hlo1).1 (hE9 _ (QQ hk5)).1 (hko _ hlo1).2 (hE9 _ (QQ hk5)).2)) ?_
    refine dPo 11 89 hg22 ?_
    refine dV 12 rfl (Xk rfl rfl hg22 rfl) (dP 13 ?_)
    apply Q7 99
    ·exact rfl
    ·intro hg24
     have hs25:=hg24;try simp only[dT]at hs25
     refine dOf 14 99 hg24 ?_
     refine dOf 15 99 hg24 ?_
     refine dOf 16 99 hg24 ?_
     refine dOf 17 99 hg24 ?_
     refine dOu 18 103 ?_
     refine dOu 19 103 ?_
     refine dOu 20 103 ?_
     refine dOu 21 103 ?_
     refine dOu 22 103 ?_
     refine dOu 23 103 ?_
     refine dOu 24 103 ?_
     refine dOu 25 103 ?_
     refine dOf 26 99 hg24 ?_
     refine dV 27 rfl (Xk rfl rfl hg24 rfl) (dNi ?_)
     exact Qo true (Qrh hlo1 (by show 0<=QM (j:Int) kl _;omega)) aSx (λw h=>h.ent aEt)
    intro hg26
    have hs27:=hg26;try simp only[dN]at hs27
    refine dPo 14 99 hg26 ?_
    refine dVo 15 99 hg26 rfl rfl rfl (Qz rfl rfl Tryz.underlying200) ?_
    refine dPo 16 99 hg26 ?_
    refine dPo 17 99 hg26 ?_
    apply Q7 103
    ·exact rfl
    ·intro hg28
     have hs29:=hg28;try simp only[dT]at hs29
     refine dFo 18 103 hg28 ?_
     obtain⟨kh,bh,oh,hhi1,hhi2,hhi3,hhi4⟩:=hhi.of_pos om
     refine dQo 19 103 [] hg28 rfl rfl rfl (XO rfl rfl Xq aPk rfl) ?_
     refine dPo 20 103 hg28 ?_
     refine dPo 21 103 hg28 ?_
     refine dVo 22 103 hg28 rfl rfl rfl (Qa rfl rfl rfl QdQ (0) om om hhi3) ?_
     refine dQo 23 103 [] hg28 rfl rfl rfl (Qc rfl rfl Y8 (hhi4)) ?_
     refine dQo 24 103 [] hg28 rfl rfl rfl (Ql rfl QdG rfl (λw1 h1=>Qls w1 j (nth (nth L v.i).es k).key kh hj (hE9 _ (QQ hk5)).1 (hkp _ hhi1).1 (hE9 _ (QQ hk5)).2 (hkp _ hhi1).2)) ?_
     refine dPo 25 103 hg28 ?_
     refine dVo 26 99 hg26 rfl rfl rfl (Xk rfl rfl hg28 rfl) ?_
     refine dV 27 rfl (QW rfl rfl hg26 rfl) (dNi ?_)
     exact Qo (decide (QM (j:Int) (nth (nth L v.i).es k).key kh>=0)) (QrO (t:=(⟨(j:Int),mo,rm,pln L⟩:Tre)) hlo1 (by show¬0<=QM (j:Int) kl _;omega) hhi1) aSx (λw h=>h.ent aEt)
    intro hg30
    have hs31:=hg30;try simp only[dN]at hs31
    refine dOf 18 103 hg30 ?_
    refine dOf 19 103 hg30 ?_
    refine dOf 20 103 hg30 ?_
    refine dOf 21 103 hg30 ?_
    refine dOf 22 103 hg30 ?_
    refine dOf 23 103 hg30 ?_
    refine dOf 24 103 hg30 ?_
    refine dOf 25 103 hg30 ?_
    refine dVo 26 99 hg26 rfl rfl rfl (QW rfl rfl hg30 rfl) ?_
    refine dV 27 rfl (QW rfl rfl hg26 rfl) (dNi ?_)
    exact Qo false (QrD hlo1 (by show¬0<=QM (j:Int) kl _;omega) (hhi.of_no om)) aSx (λw h=>h.ent aEt)
   intro hg32
   have hs33:=hg32;try simp only[dN]at hs33
   refine dOf 4 89 hg32 ?_
   refine dOf 5 89 hg32 ?_
   refine dOf 6 89 hg32 ?_
   refine dOf 7 89 hg32 ?_
   refine dOf 8 89 hg32 ?_
   refine dOf 9 89 hg32 ?_
   refine dOf 10 89 hg32 ?_
   refine dOf 11 89 hg32 ?_
   refine dV 12 rfl (QW rfl rfl hg32 rfl) (dP 13 ?_)
   apply Q7 99
   ·exact rfl
   ·intro hg34
    have hs35:=hg34;skip
    refine dOf 14 99 hg34 ?_
    refine dOf 15 99 hg34 ?_
    refine dOf 16 99 hg34 ?_
    refine dOf 17 99 hg34 ?_
    refine dOu 18 103 ?_
    refine dOu 19 103 ?_
    refine dOu 20 103 ?_
    refine dOu 21 103 ?_
    refine dOu 22 103 ?_
    refine dOu 23 103 ?_
    refine dOu 24 103 ?_
    refine dOu 25 103 ?_
    refine dOf 26 99 hg34 ?_
    refine dV 27 rfl (Xk rfl rfl hg34 rfl) (dNi ?_)
    exact Qo true (by exfalso;simp_all;done) aSx (λw h=>h.ent aEt)
   intro hg36
   have hs37:=hg36;skip
   refine dPo 14 99 hg36 ?_
   refine dVo 15 99 hg36 rfl rfl rfl (Qz rfl rfl Tryz.underlying200) ?_
   refine dPo 16 99 hg36 ?_
   refine dPo 17 99 hg36 ?_
   apply Q7 103
   ·exact rfl
   ·intro hg38
    have hs39:=hg38;try simp only[dT]at hs39
    refine dFo 18 103 hg38 ?_
    obtain⟨kh,bh,oh,hhi1,hhi2,hhi3,hhi4⟩:=hhi.of_pos om
    refine dQo 19 103 [] hg38 rfl rfl rfl (XO rfl rfl Xq aPk rfl) ?_
    refine dPo 20 103 hg38 ?_
    refine dPo 21 103 hg38 ?_
    refine dVo 22 103 hg38 rfl rfl rfl (Qa rfl rfl rfl QdQ (0) om om hhi3) ?_
    refine dQo 23 103 [] hg38 rfl rfl rfl (Qc rfl rfl Y8 (hhi4)) ?_
    refine dQo 24 103 [] hg38 rfl rfl rfl (Ql rfl QdG rfl (λw1 h1=>Qls w1 j (nth (nth L v.i).es k).key kh hj (hE9 _ (QQ hk5)).1 (hkp _ hhi1).1 (hE9 _ (QQ hk5)).2 (hkp _ hhi1).2)) ?_
    refine dPo 25 103 hg38 ?_
    refine dVo 26 99 hg36 rfl rfl rfl (Xk rfl rfl hg38 rfl) ?_
    refine dV 27 rfl (QW rfl rfl hg36 rfl) (dNi ?_)
    exact Qo (decide (QM (j:Int) (nth (nth L v.i).es k).key kh>=0)) (Qrw (t:=(⟨(j:Int),mo,rm,pln L⟩:Tre)) (hlo.of_no om) hhi1) aSx (λw h=>h.ent aEt)
   intro hg40
   have hs41:=hg40;try simp only[dN]at hs41
   refine dOf 18 103 hg40 ?_
   refine dOf 19 103 hg40 ?_
   refine dOf 20 103 hg40 ?_
   refine dOf 21 103 hg40 ?_
   refine dOf 22 103 hg40 ?_
   refine dOf 23 103 hg40 ?_
   refine dOf 24 103 hg40 ?_
   refine dOf 25 103 hg40 ?_
   refine dVo 26 99 hg36 rfl rfl rfl (QW rfl rfl hg40 rfl) ?_
   refine dV 27 rfl (QW rfl rfl hg36 rfl) (dNi ?_)
   exact Qo false (QrT (hlo.of_no om) (hhi.of_no om)) aSx (λw h=>h.ent aEt)
  intro x hx
  refine sCd rfl (λh42=>?_) λh42=>?_
  ·have hV:=QnR (deep:=deep) hgn (QlX hn hk5 (hx.1 h42))
   refine aU6 ?_
   exact Qf (rs:=[.tmp 10,.tmp 11]) rfl (.tmp rfl (.tmp rfl (.nil))) (λw' h'=>⟨by rw[Qdi (by rw[hV];decide),hV];rfl,h'.below⟩)
  have hz3:¬(Zx (⟨(j:Int),mo,rm,pln L⟩:Tre) v (nth (nth L v.i).es k))=true:=λh9=>by have h8:=hx.2 h9;simp_all
  refine aT5 ?_
  refine aU2 ?_
  exact sBk (k+1) om ⟨om,λq hq=>(Nat.lt_or_ge q k).elim (hk3 q) (λh9=>by obtain rfl:q=k:=om;exact hz3)⟩
 have hon:¬Zb (⟨(j:Int),mo,rm,pln L⟩:Tre) v=true:=Qn5 hn (λq hq=>hk3 q (by have hq9:=hq;simp only[LNd.pl]at hq9;omega))
 refine Qi rfl ?_
 refine aU8 ?_
 refine XJ 3 119 122 rfl
  (λhg43 _=>by
   refine aU4 ?_
   exact oJt 3 122)
  (λhg45 _=>by
   refine aU2 ?_
   exact oJf 3 122) ?_
 refine aU ?_
 refine sCd rfl (λh47=>?_) λh47=>?_
 ·have hV:=QoE (deep:=deep) hgn hon (by rw[show((⟨(j:Int),mo,rm,pln L⟩:Tre)).ns=pln L from rfl,hn];have hq:=h47;simp only[LNd.pl];omega)
  refine aU6 ?_
  exact Qf (rs:=[.tmp 10,.tmp 11]) rfl (.tmp rfl (.tmp rfl (.nil))) (λw' h'=>⟨by rw[Qdi (by rw[hV];decide),hV];rfl,h'.below⟩)
 have hV0:=QoL (deep:=deep) hgn hon (by rw[show((⟨(j:Int),mo,rm,pln L⟩:Tre)).ns=pln L from rfl,hn];have hq:=h47;simp only[LNd.pl];omega)
 refine aU7 ?_
 refine Qg (L':=[(1,_),(2,_),(3,_),(4,_),(5,_),(12,_),(13,_),(15,_)]) aSx (λ_ h=>h) ?_
 refine Qt (α:=Nat) [10,11,15,16,17,18,19,124,125,126,127,128,129,130,131,132,133,134,135,136,137,138,139,140,141,142,143,144,145,146,147,148,149,150,151,152,153,154,155,156,157,158,159,160,161,162,163,164,165,166,167,168,169,170,171,172] (λk=>[(15,.int .i64 (k:Int))]) (λ_=>HS w [] [.blk b1 27 4 [.int .i64 (j:Int),.int .i64 mo,.int .i64 rm,.slice a L.length cap],.blk b2 64 3 (LNd.vals (nth L v.i))]) (λk=>k<=(nth L v.i).cs.length/\(X8 (⟨(j:Int),mo,rm,pln L⟩:Tre) deep (Qau (pln L) f v k)).2=0) (λk=>(nth L v.i).cs.length-k) 0 ⟨Nat.zero_le _,QqN hV0⟩ aSx (λw h=>h.ent aEt) (λk hx9=>?_)
 obtain⟨hk1,hk3⟩:=hx9
 refine aU9 ?_
 refine sCd rfl (λh48=>?_) λh48=>?_
 ·have hkl:k<(nth L v.i).cs.length:=by omega
  have hkid:=QaS hT hi0 (k:=k) (by rw[hn];exact hkl)
  rw[hn,Qb]at hkid
  simp only[LNd.pl]at hkid
  have hway2:=ZD hway hi0 (k:=k) (by rw[hn];exact hkl) (by rw[hn];simp only[LNd.pl];omega)
  refine Qq4 ?_
  refine sCd rfl (λh49=>?_) λh49=>?_
  ·have hk0:0<k:=by have hq:=h49;omega
   refine aT5 ?_
   refine o_p (Qa rfl rfl rfl QL (k-1) om om (Rw.some (hs.es hi) om)) rfl (aU ?_)
   refine o_q (Qc rfl rfl Y8 (((hs.es hi).rdj 0 (i:=k-1) om rfl))) rfl (o_h (Qd (cs:=[_]) rfl rfl QdQ QqS rfl rfl rfl) rfl (λb50 _=>YZ ?_))
   refine sCd rfl (λh51=>?_) λh51=>?_
   ·have hk9:k<(nth L v.i).es.length:=by have hq:=h51;omega
    refine Qg (L':=[(1,_),(2,_),(3,_),(4,_),(5,_),(12,_),(13,_),(15,_),(16,_),(17,_)]) aSx (λ_ h=>h) ?_
    refine aU4 ?_
    refine o_p (Qa rfl rfl rfl QL (k) om om (Rw.some (hs.es hi) om)) rfl (aU ?_)
    refine o_q (Qc rfl rfl Y8 (((hs.es hi).rdj 0 (i:=k) om rfl))) rfl (o_h (Qd (cs:=[_]) rfl rfl QdQ QqS rfl rfl rfl) rfl (λb52 _=>aU3 ?_))
    refine Qq [] Qx ?_
    refine dLn 0 [] ?_
    refine dFa 1 ?_
    refine dLd 2 [] ?_
    refine dP 3 ?_
    refine dV 4 rfl (Qa rfl rfl rfl QB (k) om om (Rw.some (hs.cs hi) om)) (dQ 5 [] rfl (Qc rfl rfl Xq (((hs.cs hi).rdj 0 (i:=k) hkl rfl))) (Qs (show _=Value.int .i64 ((XT (pln L) v k).i:Int)from by rw[XT,hn];exact congrArg (Value.int .i64) (Int.toNat_of_nonneg (show 0<=(nth L v.i).cs.getD k 0 by omega)).symm) (dP 6 ?_)))
    refine dP 7 ?_
    try refine dWr ?_
    refine dP 8 ?_
    refine dP 9 ?_
    refine dQ 10 [] rfl (Ql rfl Qia rfl (λw1 h1=>ih w1 (XT (pln L) v k) (v.i::P) (lv-1) _ _ _ _ _ _ (hs.later h1) hj hmo hT hB h0 hway2 (by simp only[XT,List.length_cons];omega) (by simp only[XT];omega) (QfI hT hi0 (by rw[hn];show k<=(nth L v.i).es.length;omega) hko) (QeO hT hi0 hkp) (by show StK w1 _ _ (loK (nth (pln L) v.i).es k v.lo);rw[hn];show StK w1 _ _ (loK (nth L v.i).es k v.lo);first|(rw[QeG hk0];exact StK.new (h1.rd_blk (Mc:=[]) aPk rfl (by simp)))|(rw[Qg7 hk0];exact hlo.later h1)) (by show StK w1 _ _ (hiK (nth (pln L) v.i).es k v.hi);rw[hn];show StK w1 _ _ (hiK (nth L v.i).es k v.hi);first|(rw[QeJ hk9];exact StK.new (h1.rd_blk (Mc:=[]) aPk rfl (by simp)))|(rw[Qhl hk9];exact hhi.later h1)) (by simp only[List.length_cons];omega))) (dP 11 ?_)
    refine dP 12 ?_
    refine dP 13 ?_
    refine dP 14 ?_
    refine dP 15 ?_
    refine dNi ?_
    refine aU ?_
    refine Qg (L':=[(1,_),(2,_),(3,_),(4,_),(5,_),(12,_),(13,_),(15,_),(18,_),(19,_)]) aSx (λ_ h=>h) ?_
    refine aU4 ?_
    refine sCd rfl (λh53=>?_) λh53=>?_
    ·have hbad:X8 (⟨(j:Int),mo,rm,pln L⟩:Tre) deep (vis (pln L) (f+1) v)=X8 (⟨(j:Int),mo,rm,pln L⟩:Tre) deep (vis (pln L) f (XT (pln L) v k)):=by rw[Y2,hn];obtain⟨B9,hB9⟩:=QaB (pln L) f v (show k+1<=(nth L v.i).pl.cs.length by show k+1<=(nth L v.i).cs.length;omega);rw[hB9,X1,List.append_assoc,Ya,if_pos hk3,Ya,if_neg h53]
     refine aU7 ?_
     exact Qf (rs:=[.tmp 10,.tmp 11]) rfl (.tmp rfl (.tmp rfl (.nil))) (λw' h'=>⟨by rw[hbad];rfl,h'.below⟩)
    have hgood:(X8 (⟨(j:Int),mo,rm,pln L⟩:Tre) deep (Qau (pln L) f v (k+1))).2=0:=by rw[X1,Ya,if_pos hk3];have hq:=h53;omega
    refine aT5 ?_
    refine aU2 ?_
    exact sBk (k+1) om ⟨om,hgood⟩
   have hk9:¬k<(nth L v.i).es.length:=by have hq:=h51;omega
   refine aU2 ?_
   refine Qg (L':=[(1,_),(2,_),(3,_),(4,_),(5,_),(12,_),(13,_),(15,_),(16,_),(17,_)]) aSx (λ_ h=>h) ?_
   refine Qq [] Qx ?_
   refine dLn 0 [] ?_
   refine dFa 1 ?_
   refine dLd 2 [] ?_
   refine dP 3 ?_
   refine dV 4 rfl (Qa rfl rfl rfl QB (k) om om (Rw.some (hs.cs hi) om)) (dQ 5 [] rfl (Qc rfl rfl Xq (((hs.cs hi).rdj 0 (i:=k) hkl rfl))) (Qs (show _=Value.int .i64 ((XT (pln L) v k).i:Int)from by rw[XT,hn];exact congrArg (Value.int .i64) (Int.toNat_of_nonneg (show 0<=(nth L v.i).cs.getD k 0 by omega)).symm) (dP 6 ?_)))
   refine dP 7 ?_
   try refine dWr ?_
   refine dP 8 ?_
   refine dP 9 ?_
   refine dQ 10 [] rfl (Ql rfl Qia rfl (λw1 h1=>ih w1 (XT (pln L) v k) (v.i::P) (lv-1) _ _ _ _ _ _ (hs.later h1) hj hmo hT hB h0 hway2 (by simp only[XT,List.length_cons];omega) (by simp only[XT];omega) (QfI hT hi0 (by rw[hn];show k<=(nth L v.i).es.length;omega) hko) (QeO hT hi0 hkp) (by show StK w1 _ _ (loK (nth (pln L) v.i).es k v.lo);rw[hn];show StK w1 _ _ (loK (nth L v.i).es k v.lo);first|(rw[QeG hk0];exact StK.new (h1.rd_blk (Mc:=[]) aPk rfl (by simp)))|(rw[Qg7 hk0];exact hlo.later h1)) (by show StK w1 _ _ (hiK (nth (pln L) v.i).es k v.hi);rw[hn];show StK w1 _ _ (hiK (nth L v.i).es k v.hi);first|(rw[QeJ hk9];exact StK.new (h1.rd_blk (Mc:=[]) aPk rfl (by simp)))|(rw[Qhl hk9];exact hhi.later h1)) (by simp only[List.length_cons];omega))) (dP 11 ?_)
   refine dP 12 ?_
   refine dP 13 ?_
   refine dP 14 ?_
   refine dP 15 ?_
   refine dNi ?_
   refine aU5 ?_
   refine sCd rfl (λh54=>?_) λh54=>?_
   ·have hbad:X8 (⟨(j:Int),mo,rm,pln L⟩:Tre) deep (vis (pln L) (f+1) v)=X8 (⟨(j:Int),mo,rm,pln L⟩:Tre) deep (vis (pln L) f (XT (pln L) v k)):=by rw[Y2,hn];obtain⟨B9,hB9⟩:=QaB (pln L) f v (show k+1<=(nth L v.i).pl.cs.length by show k+1<=(nth L v.i).cs.length;omega);rw[hB9,X1,List.append_assoc,Ya,if_pos hk3,Ya,if_neg h54]
    refine aU7 ?_
    exact Qf (rs:=[.tmp 10,.tmp 11]) rfl (.tmp rfl (.tmp rfl (.nil))) (λw' h'=>⟨by rw[hbad];rfl,h'.below⟩)
   have hgood:(X8 (⟨(j:Int),mo,rm,pln L⟩:Tre) deep (Qau (pln L) f v (k+1))).2=0:=by rw[X1,Ya,if_pos hk3];have hq:=h54;omega
   refine aT5 ?_
   refine aU2 ?_
   exact sBk (k+1) om ⟨om,hgood⟩
  have hk0:¬0<k:=by have hq:=h49;omega
  refine YR ?_
  refine sCd rfl (λh55=>?_) λh55=>?_
  ·have hk9:k<(nth L v.i).es.length:=by have hq:=h55;omega
   refine aU4 ?_
   refine o_p (Qa rfl rfl rfl QL (k) om om (Rw.some (hs.es hi) om)) rfl (aU ?_)
   refine o_q (Qc rfl rfl Y8 (((hs.es hi).rdj 0 (i:=k) om rfl))) rfl (o_h (Qd (cs:=[_]) rfl rfl QdQ QqS rfl rfl rfl) rfl (λb56 _=>aU3 ?_))
   refine Qg (L':=[(1,_),(2,_),(3,_),(4,_),(5,_),(12,_),(13,_),(15,_),(16,_),(17,_)]) aSx (λ_ h=>h) ?_
   refine Qq [] Qx ?_
   refine dLn 0 [] ?_
   refine dFa 1 ?_
   refine dLd 2 [] ?_
   refine dP 3 ?_
   refine dV 4 rfl (Qa rfl rfl rfl QB (k) om om (Rw.some (hs.cs hi) om)) (dQ 5 [] rfl (Qc rfl rfl Xq (((hs.cs hi).rdj 0 (i:=k) hkl rfl))) (Qs (show _=Value.int .i64 ((XT (pln L) v k).i:Int)from by rw[XT,hn];exact congrArg (Value.int .i64) (Int.toNat_of_nonneg (show 0<=(nth L v.i).cs.getD k 0 by omega)).symm) (dP 6 ?_)))
   refine dP 7 ?_
   try refine dWr ?_
   refine dP 8 ?_
   refine dP 9 ?_
   refine dQ 10 [] rfl (Ql rfl Qia rfl (λw1 h1=>ih w1 (XT (pln L) v k) (v.i::P) (lv-1) _ _ _ _ _ _ (hs.later h1) hj hmo hT hB h0 hway2 (by simp only[XT,List.length_cons];omega) (by simp only[XT];omega) (QfI hT hi0 (by rw[hn];show k<=(nth L v.i).es.length;omega) hko) (QeO hT hi0 hkp) (by show StK w1 _ _ (loK (nth (pln L) v.i).es k v.lo);rw[hn];show StK w1 _ _ (loK (nth L v.i).es k v.lo);first|(rw[QeG hk0];exact StK.new (h1.rd_blk (Mc:=[]) aPk rfl (by simp)))|(rw[Qg7 hk0];exact hlo.later h1)) (by show StK w1 _ _ (hiK (nth (pln L) v.i).es k v.hi);rw[hn];show StK w1 _ _ (hiK (nth L v.i).es k v.hi);first|(rw[QeJ hk9];exact StK.new (h1.rd_blk (Mc:=[]) aPk rfl (by simp)))|(rw[Qhl hk9];exact hhi.later h1)) (by simp only[List.length_cons];omega))) (dP 11 ?_)
   refine dP 12 ?_
   refine dP 13 ?_
   refine dP 14 ?_
   refine dP 15 ?_
   refine dNi ?_
   refine aU5 ?_
   refine sCd rfl (λh57=>?_) λh57=>?_
   ·have hbad:X8 (⟨(j:Int),mo,rm,pln L⟩:Tre) deep (vis (pln L) (f+1) v)=X8 (⟨(j:Int),mo,rm,pln L⟩:Tre) deep (vis (pln L) f (XT (pln L) v k)):=by rw[Y2,hn];obtain⟨B9,hB9⟩:=QaB (pln L) f v (show k+1<=(nth L v.i).pl.cs.length by show k+1<=(nth L v.i).cs.length;omega);rw[hB9,X1,List.append_assoc,Ya,if_pos hk3,Ya,if_neg h57]
    refine aU7 ?_
    exact Qf (rs:=[.tmp 10,.tmp 11]) rfl (.tmp rfl (.tmp rfl (.nil))) (λw' h'=>⟨by rw[hbad];rfl,h'.below⟩)
   have hgood:(X8 (⟨(j:Int),mo,rm,pln L⟩:Tre) deep (Qau (pln L) f v (k+1))).2=0:=by rw[X1,Ya,if_pos hk3];have hq:=h57;omega
   refine aT5 ?_
   refine aU2 ?_
   exact sBk (k+1) om ⟨om,hgood⟩
  have hk9:¬k<(nth L v.i).es.length:=by have hq:=h55;omega
  refine aU2 ?_
  refine Qq [] Qx ?_
  refine dLn 0 [] ?_
  refine dFa 1 ?_
  refine dLd 2 [] ?_
  refine dP 3 ?_
  refine dV 4 rfl (Qa rfl rfl rfl QB (k) om om (Rw.some (hs.cs hi) om)) (dQ 5 [] rfl (Qc rfl rfl Xq (((hs.cs hi).rdj 0 (i:=k) hkl rfl))) (Qs (show _=Value.int .i64 ((XT (pln L) v k).i:Int)from by rw[XT,hn];exact congrArg (Value.int .i64) (Int.toNat_of_nonneg (show 0<=(nth L v.i).cs.getD k 0 by omega)).symm) (dP 6 ?_)))
  refine dP 7 ?_
  try refine dWr ?_
  refine dP 8 ?_
  refine dP 9 ?_
  refine dQ 10 [] rfl (Ql rfl Qia rfl (λw1 h1=>ih w1 (XT (pln L) v k) (v.i::P) (lv-1) _ _ _ _ _ _ (hs.later h1) hj hmo hT hB h0 hway2 (by simp only[XT,List.length_cons];omega) (by simp only[XT];omega) (QfI hT hi0 (by rw[hn];show k<=(nth L v.i).es.length;omega) hko) (QeO hT hi0 hkp) (by show StK w1 _ _ (loK (nth (pln L) v.i).es k v.lo);rw[hn];show StK w1 _ _ (loK (nth L v.i).es k v.lo);first|(rw[QeG hk0];exact StK.new (h1.rd_blk (Mc:=[]) aPk rfl (by simp)))|(rw[Qg7 hk0];exact hlo.later h1)) (by show StK w1 _ _ (hiK (nth (pln L) v.i).es k v.hi);rw[hn];show StK w1 _ _ (hiK (nth L v.i).es k v.hi);first|(rw[QeJ hk9];exact StK.new (h1.rd_blk (Mc:=[]) aPk rfl (by simp)))|(rw[Qhl hk9];exact hhi.later h1)) (by simp only[List.length_cons];omega))) (dP 11 ?_)
  refine dP 12 ?_
  refine dP 13 ?_
  refine dP 14 ?_
  refine dP 15 ?_
  refine dNi ?_
  refine aU ?_
  refine Qg (L':=[(1,_),(2,_),(3,_),(4,_),(5,_),(12,_),(13,_),(15,_),(18,_),(19,_)]) aSx (λ_ h=>h) ?_
  refine aU4 ?_
  refine sCd rfl (λh58=>?_) λh58=>?_
  ·have hbad:X8 (⟨(j:Int),mo,rm,pln L⟩:Tre) deep (vis (pln L) (f+1) v)=X8 (⟨(j:Int),mo,rm,pln L⟩:Tre) deep (vis (pln L) f (XT (pln L) v k)):=by rw[Y2,hn];obtain⟨B9,hB9⟩:=QaB (pln L) f v (show k+1<=(nth L v.i).pl.cs.length by show k+1<=(nth L v.i).cs.length;omega);rw[hB9,X1,List.append_assoc,Ya,if_pos hk3,Ya,if_neg h58]
   refine aU7 ?_
   exact Qf (rs:=[.tmp 10,.tmp 11]) rfl (.tmp rfl (.tmp rfl (.nil))) (λw' h'=>⟨by rw[hbad];rfl,h'.below⟩)
  have hgood:(X8 (⟨(j:Int),mo,rm,pln L⟩:Tre) deep (Qau (pln L) f v (k+1))).2=0:=by rw[X1,Ya,if_pos hk3];have hq:=h58;omega
  refine aT5 ?_
  refine aU2 ?_
  exact sBk (k+1) om ⟨om,hgood⟩
 obtain rfl:k=(nth L v.i).cs.length:=om
 have hfin:X8 (⟨(j:Int),mo,rm,pln L⟩:Tre) deep (vis (pln L) (f+1) v)=(0,0):=by rw[Y2,hn];exact Qjg hk3
 refine Qi rfl ?_
 refine aU5 ?_
 exact Qf (rs:=[.tmp 10,.tmp 11]) rfl (.tmp rfl (.tmp rfl (.nil))) (λw' h'=>⟨by rw[hfin];rfl,h'.below⟩)
theorem c87(j:Nat)(mo rm:Int)(a:Option Addr)(cap:Nat)(L:List LNd)(deep:Int):∀f,PlC j mo rm a cap L deep f
  | 0=>λw v P lv pa qa pn pc qn qc hs hj hmo hT hB h0 hway hd hlv hko hkp hlo hhi hf=>by
    have h1:=XW hT (by rw[Qb];exact h0) hway;rw[Qb,List.length_cons]at h1;omega
  | f+1=>λw v P lv pa qa pn pc qn qc hs hj hmo hT hB h0 hway hd hlv hko hkp hlo hhi hf=>c87s w j mo rm a cap L deep v P lv pa qa pn pc qn qc f hs hj hmo hT hB h0 hway hd hlv hko hkp hlo hhi hf (c87 j mo rm a cap L deep f)
end Go.Proofs
namespace Gx
open Go Go.RowKit
theorem Qqd{t:Tre}(h:¬Q0 t.co=0):QZ t=(0,Q0 t.co):=by rw[Qcl (by rw[if_neg h];exact h),if_neg h]
theorem Qp7{t:Tre}(h:Q0 t.co=0)(h2:¬YI t.mo t.rm=0):QZ t=(0,YI t.mo t.rm):=by rw[Qcl (by rw[if_pos h];exact h2),if_pos h]
theorem QpY{t:Tre}(h:Q0 t.co=0)(h2:YI t.mo t.rm=0)(h3:¬0<t.ns.length):QZ t=(0,10):=by
 have e:Y4 t.ns.length=10:=if_neg h3;rw[Qdm (by rw[if_pos h];exact h2) (by rw[e];decide),e]
theorem Qqs{t:Tre}(h:Q0 t.co=0)(h2:YI t.mo t.rm=0)(h3:0<t.ns.length)(h4:¬t.ns.length<=120):QZ t=(0,8):=by
 have e:Y4 t.ns.length=8:=by rw[Y4,if_pos h3,if_neg h4]
 rw[Qdm (by rw[if_pos h];exact h2) (by rw[e];decide),e]
theorem QpM{t:Tre}(h:Q0 t.co=0)(h2:YI t.mo t.rm=0)(h3:0<t.ns.length)(h4:t.ns.length<=120):QZ t=if(X5 t t.ns.length 0 []).2=0 then Qbc t else X5 t t.ns.length 0 []:=QdK (by rw[if_pos h];exact h2) (by rw[Y4,if_pos h3,if_pos h4])
theorem Qie(n:Nat):QbA [Value.bool false] n=Xh n []:=by
 rw[Qis];apply List.ext_getElem?;intro i
 by_cases hi:i<n
 ·rw[QaD hi,List.getElem?_replicate,if_pos hi];rfl
 ·rw[List.getElem?_eq_none (by rw[List.length_replicate];omega),List.getElem?_eq_none (by rw[Qay];omega)]
theorem QhJ{vs:List Vis}{k:Nat}:((k:Nat):Int)∈mkS vs [] ↔ k∈vs.map Vis.i:=by
 rw[QoG,List.mem_map];constructor
 ·rintro⟨v,hv,h⟩;exact⟨v,hv,om⟩
 ·rintro⟨v,hv,h⟩;exact⟨v,hv,om⟩
theorem QhW(ns:List Nd):∀(f i:Nat),0<=Yy ns f i/\Yy ns f i<=f
 | 0,i=>by rw[Yy];omega
 | f+1,i=>by
  rw[Yy];split
  ·omega
  ·have:=QhW ns f ((nth ns i).cs.getD 0 0).toNat;omega
theorem QiZ{ns:List Nd}{f i:Nat}(h:(nth ns i).cs.length=0):Yy ns f i=0:=by
 cases f with
 | zero=>rfl
 | succ f=>rw[Yy,if_pos h]
theorem QgH{ns:List Nd}{f i:Nat}(h0:0<f)(h:¬(nth ns i).cs.length=0):Yy ns f i=Yy ns (f-1) ((nth ns i).cs.getD 0 0).toNat+1:=by
 obtain⟨g,rfl⟩:∃g,f=g+1:=⟨f-1,om⟩;rw[Yy,if_neg h];rfl
end Gx
namespace Go.Proofs
open Go Go.RowKit Gx
attribute [local irreducible] Go.Calls Gx.S Gx.O Gx.D Gx.OpP Gx.OpQ Gx.OpH
set_option maxRecDepth 20000
instance:TFn Tryz.prog 83:=⟨by kernel_rfl⟩
instance:TFn Tryz.prog 84:=⟨by kernel_rfl⟩
theorem QrI:QH Tryz.prog 85=true:=by kernel_rfl
instance:TFn Tryz.prog 46:=⟨by kernel_rfl⟩
theorem c46(w:World)(co mo rm:Int)(a:Option Addr)(cap:Nat)(L:List LNd)(hs:Nt w [] a L)(hB:Bd (pln L))(hkl:∀i,i<L.length->∀x∈(nth L i).es,x.key.length<=1000000):CR 46 #[.agg #[.int .i64 co,.int .i64 mo,.int .i64 rm,.slice a L.length cap]] w (.tuple #[.int .i64 (QZ (⟨co,mo,rm,pln L⟩:Tre)).1,.int .i64 (QZ (⟨co,mo,rm,pln L⟩:Tre)).2]):=by
 have hle:=hB.len
 rw[Qb]at hle
 have hes9:∀i,i<L.length->(nth L i).es.length<=1000:=λi hi=>by have h9:=hB.es i (by rw[Qb];exact hi);rw[Qp hi]at h9;exact h9
 have hcs9:∀i,i<L.length->(nth L i).cs.length<=1000:=λi hi=>by have h9:=hB.cs i (by rw[Qb];exact hi);rw[Qp hi]at h9;exact h9
 refine eN1 Tryz.func46 Tryz.ntmps46 ?_
 refine aU2 ?_
 refine oBx λb1 _=>?_
 refine aU8 ?_
 refine oCq rfl (λw1 h1=>c83 w1 _) (aU7 ?_)
 refine sCd rfl (λh2=>?_) λh2=>?_
 ·have hz:=Qqd (t:=(⟨co,mo,rm,pln L⟩:Tre)) h2
  refine aU6 ?_
  exact Qf (rs:=[.tmp 2,.tmp 3]) rfl (.tmp rfl (.tmp rfl (.nil))) (λw' h'=>⟨by rw[hz];rfl,h'.below⟩)
 have hc0:Q0 co=0:=by have hq:=h2;omega
 obtain⟨j,rfl,hj⟩:=QbO hc0
 refine aU8 ?_
 refine oCq rfl (λw1 h1=>c84 w1 _ _) (aU7 ?_)
 refine sCd rfl (λh3=>?_) λh3=>?_
 ·have hz:=Qp7 (t:=(⟨(j:Int),mo,rm,pln L⟩:Tre)) hc0 h3
  refine aU6 ?_
  exact Qf (rs:=[.tmp 2,.tmp 3]) rfl (.tmp rfl (.tmp rfl (.nil))) (λw' h'=>⟨by rw[hz];rfl,h'.below⟩)
 have hc1:YI mo rm=0:=by have hq:=h3;omega
 have hsz2:(3<=mo/\mo<=8)/\(mo/2<=rm/\rm<=mo):=QaN hc1
 have hTL:((⟨(j:Int),mo,rm,pln L⟩:Tre)).ns.length=L.length:=Qb L
 refine aU9 ?_
 refine sCd rfl (λh4=>?_) λh4=>?_
 ·have hz:=QpY (t:=(⟨(j:Int),mo,rm,pln L⟩:Tre)) hc0 hc1 (by rw[hTL];have hq:=h4;omega)
  refine aU5 ?_
  exact Qf (rs:=[.tmp 2,.tmp 3]) rfl (.tmp rfl (.tmp rfl (.nil))) (λw' h'=>⟨by rw[hz];rfl,h'.below⟩)
 have h00:0<L.length:=by have hq:=h4;omega
 refine aU9 ?_
 refine sCd rfl (λh5=>?_) λh5=>?_
 ·have hz:=Qqs (t:=(⟨(j:Int),mo,rm,pln L⟩:Tre)) hc0 hc1 (by rw[hTL];exact h00) (by rw[hTL];have hq:=h5;omega)
  refine aU5 ?_
  exact Qf (rs:=[.tmp 2,.tmp 3]) rfl (.tmp rfl (.tmp rfl (.nil))) (λw' h'=>⟨by rw[hz];rfl,h'.below⟩)
 have h120:L.length<=120:=by have hq:=h5;omega
 have hz:=QpM (t:=(⟨(j:Int),mo,rm,pln L⟩:Tre)) hc0 hc1 (by rw[hTL];exact h00) (by rw[hTL];exact h120)
 rw[hTL]at hz
 refine aU6 ?_
 refine o_h (QjD (n:=L.length) rfl rfl rfl Qa9 Qqt om om) rfl (λb6 _=>Q6 (λw h=>(show HS _ _ [.blk b6 4 L.length (Xh L.length []),.blk b1 27 4 [.int .i64 (j:Int),.int .i64 mo,.int .i64 rm,.slice a L.length cap]] w from by have h9:=h;rw[Nat.mul_one,Qie]at h9;exact h9.ent aEt)) (aU4 ?_))
 refine Qg (L':=[(1,_),(2,_),(3,_),(6,_)]) aSx (λ_ h=>h) ?_
 refine aU4 ?_
 refine Qt (α:=Nat×List Int) [2,3,7,8,39,40,41,42,43,44,45,46,47,48,49,50,51,52,53] (λx=>[(7,.int .i64 (x.1:Int))]) (λx=>HS w [] [.blk b6 4 L.length (Xh L.length x.2),.blk b1 27 4 [.int .i64 (j:Int),.int .i64 mo,.int .i64 rm,.slice a L.length cap]]) (λx=>x.1<=L.length/\(X5 (⟨(j:Int),mo,rm,pln L⟩:Tre) L.length 0 [])=X5 (⟨(j:Int),mo,rm,pln L⟩:Tre) (L.length-x.1) x.1 x.2) (λx=>L.length-x.1) (0,[]) ⟨Nat.zero_le _,rfl⟩ aSx (λw h=>h.ent aEt) (λ⟨k,S9⟩hx=>?_)
 dsimp only
 obtain⟨hk1,hk3⟩:=hx
 simp only[]at hk1 hk3
 refine aU9 ?_
 refine sCd rfl (λh7=>?_) λh7=>?_
 ·have hkl9:k<L.length:=by omega
  have hst:=QeX (t:=(⟨(j:Int),mo,rm,pln L⟩:Tre)) (k:=k) (seen:=S9) (by rw[hTL];exact hkl9)
  rw[hTL]at hst
  refine aU8 ?_
  refine o_h (QT (Cs:=[.blk b6 4 L.length (Xh L.length S9)]) rfl QrI rfl aPs (λw1 h1 hf=>c85 w1 j mo rm a cap L k b6 L.length L.length S9 hf ((hs.keep h1).mono (Xf aPs)) hj hkl9 om (hes9 _ hkl9) (hcs9 _ hkl9) (hkl _ hkl9))) rfl (λ_ _=>aU7 ?_)
  refine sCd rfl (λh8=>?_) λh8=>?_
  ·have hz3:(X5 (⟨(j:Int),mo,rm,pln L⟩:Tre) L.length 0 [])=((k:Int),(XX (⟨(j:Int),mo,rm,pln L⟩:Tre) k S9).1):=by rw[hk3,hst,if_neg h8]
   rw[hz3,if_neg (show¬(((k:Int),(XX (⟨(j:Int),mo,rm,pln L⟩:Tre) k S9).1):Int×Int).2=0 from h8)]at hz
   refine aU7 ?_
   exact Qf (rs:=[.tmp 2,.tmp 3]) rfl (.tmp rfl (.tmp rfl (.nil))) (λw' h'=>⟨by rw[hz];rfl,h'.below⟩)
  have hz3:X5 (⟨(j:Int),mo,rm,pln L⟩:Tre) (L.length-k) k S9=X5 (⟨(j:Int),mo,rm,pln L⟩:Tre) (L.length-(k+1)) (k+1) (XX (⟨(j:Int),mo,rm,pln L⟩:Tre) k S9).2:=by rw[hst,if_pos (by have hq:=h8;omega)]
  refine aT5 ?_
  refine aU2 ?_
  exact sBk (k+1,(XX (⟨(j:Int),mo,rm,pln L⟩:Tre) k S9).2) (by(try simp only[]);omega) ⟨by(try simp only[]);omega,by simp only[];rw[hk3,hz3]⟩
 have hnd:(X5 (⟨(j:Int),mo,rm,pln L⟩:Tre) L.length 0 [])=(0,0):=by rw[hk3,show L.length-k=0 by omega];rfl
 rw[hnd,if_pos rfl]at hz
 have hT:TOk (j:Int) (pln L):=QaK (t:=(⟨(j:Int),mo,rm,pln L⟩:Tre)) (by show(X5 (⟨(j:Int),mo,rm,pln L⟩:Tre) (pln L).length 0 []).2=0;rw[Qb,hnd])
 have hvis:vis (pln L) L.length ZU=Yx (pln L):=by unfold Yx;rw[Qb]
 refine Qi rfl ?_
 refine aU5 ?_
 refine o_h (QjD (n:=L.length) rfl rfl rfl Qa9 Qqt om om) rfl (λb9 _=>Q6 (λw h=>(show HS _ _ [.blk b9 4 L.length (Xh L.length []),.blk b1 27 4 [.int .i64 (j:Int),.int .i64 mo,.int .i64 rm,.slice a L.length cap]] w from by have h9:=h;rw[Nat.mul_one,Qie]at h9;exact h9.ent aEt)) (aU6 ?_))
 refine o_h (QT (Cs:=[.blk b9 4 L.length (Xh L.length [])]) rfl Qpb rfl aPs (λw1 h1 hf=>c86 j mo rm a cap L b9 L.length L.length L.length w1 [] ZU [] hf ((hs.keep h1).mono (Xf aPs)) hT hB h00 rfl (by simp))) rfl (λ_ _=>aU7 ?_)
 refine Qg (L':=[(1,_),(6,_),(7,_),(9,_),(10,_)]) aSx (λ_ h=>h) ?_
 refine Qt (α:=Nat) [2,3,10,61,62,63,64,65,66,67,68,69,70,71,72,73,74,75,76,77,78,79,80,81] (λk=>[(10,.int .i64 (k:Int))]) (λ_=>HS w [] [.blk b9 4 L.length (Xh L.length (mkS (vis (pln L) L.length ZU) [])),.blk b1 27 4 [.int .i64 (j:Int),.int .i64 mo,.int .i64 rm,.slice a L.length cap]]) (λk=>k<=L.length/\Z3 (pln L) ((Yx (pln L)).map Vis.i) L.length 0=Z3 (pln L) ((Yx (pln L)).map Vis.i) (L.length-k) k) (λk=>L.length-k) 0 ⟨Nat.zero_le _,rfl⟩ aSx (λw h=>h.ent aEt) (λk hx=>?_)
 obtain⟨hk1,hk2⟩:=hx
 refine aU9 ?_
 refine sCd rfl (λh10=>?_) λh10=>?_
 ·have hkl9:k<L.length:=by omega
  have hst:=Qgl (ns:=pln L) (below:=((Yx (pln L)).map Vis.i)) (k:=k) (by rw[Qb];exact hkl9)
  rw[Qb,Qp hkl9]at hst
  refine aU8 ?_
  refine o_p (Qa rfl rfl rfl QE (k) om om (Rw.some hs.1 om)) rfl (aU ?_)
  refine o_q (Qc rfl rfl Qei ((hs.1.rdj 0 hkl9 rfl))) rfl (aU ?_)
  refine XJ 6 74 80 rfl
   (λhg11 _=>by
    refine aU5 ?_
    refine o_p (Qa rfl rfl rfl Qa9 (k) om om rfl) rfl (Qm (show _=Value.pointer (some ⟨b9,k,none⟩)from by rw[Nat.zero_add,Nat.mul_one]) (aU ?_))
    refine o_q (Qn rfl rfl Qei (λw h=>h.rd_blk (Mc:=[]) aPk (QaD hkl9) (by simp))) rfl (aU2 ?_)
    exact oJt 6 80)
   (λhg13 _=>by
    refine aU5 ?_
    exact oJf 6 80) ?_
  refine aU ?_
  refine sCd rfl (λh15=>?_) λh15=>?_
  ·have hz7:(nth L k).pl.us=true/\k ∉ ((Yx (pln L)).map Vis.i):=by have hq:=h15;rw[<-QhJ,<-hvis];simp only[LNd.pl];simpa using hq
   have hz8:=hz.trans (QcJ (t:=(⟨(j:Int),mo,rm,pln L⟩:Tre)) (i:=k) (show Z3 (pln L) _ (pln L).length 0=some k from by rw[Qb,hk2,hst,if_pos hz7]))
   refine aU6 ?_
   exact Qf (rs:=[.tmp 2,.tmp 3]) rfl (.tmp rfl (.tmp rfl (.nil))) (λw' h'=>⟨by rw[hz8];rfl,h'.below⟩)
  have hz7:¬((nth L k).pl.us=true/\k ∉ ((Yx (pln L)).map Vis.i)):=by have hq:=h15;rw[<-QhJ,<-hvis];simp only[LNd.pl];intro h9;exact hq.elim (λh8=>by rw[h8]at h9;cases h9.1) (λh8=>h9.2 h8)
  refine aT5 ?_
  refine aU2 ?_
  exact sBk (k+1) om ⟨om,by rw[hk2,hst,if_neg hz7]⟩
 have hnone:Z3 (pln L) ((Yx (pln L)).map Vis.i) L.length 0=none:=by rw[hk2,show L.length-k=0 by omega];rfl
 have hz8:=hz.trans (QcD (t:=(⟨(j:Int),mo,rm,pln L⟩:Tre)) (show Z3 (pln L) _ (pln L).length 0=none from by rw[Qb];exact hnone))
 refine Qi rfl ?_
 refine YR ?_
 refine Qt (α:=Nat×Nat×List Nat) [11,12,82,83,84,85,86,87,88,89,90,91,92,93,94,95,96,97,98,99] (λy=>[(11,.int .i64 (y.1:Int)),(12,.int .i64 (y.2.1:Int))]) (λ_=>HS w [] [.blk b1 27 4 [.int .i64 (j:Int),.int .i64 mo,.int .i64 rm,.slice a L.length cap]]) (λy=>Gx.Way (pln L) (y.2.1::y.2.2)/\y.2.2.length=y.1/\Yy (pln L) L.length 0=(y.1:Int)+Yy (pln L) (L.length-y.1) y.2.1) (λy=>L.length-y.1) (0,0,[]) ⟨rfl,rfl,by simp⟩ aSx (λw h=>h.ent aEt) (λ⟨d,i,P⟩hx=>?_)
 dsimp only
 obtain⟨hway,hpl,hdp⟩:=hx
 simp only[]at hway hpl hdp
 have hil0:=ZK hT (by rw[Qb];exact h00) hway i (List.mem_cons_self ..)
 have hil:i<L.length:=by rw[Qb]at hil0;exact hil0
 have hnI:=Qp hil
 have hwl:=XW hT (by rw[Qb];exact h00) hway
 rw[Qb,List.length_cons]at hwl
 have hcl:=hcs9 i hil
 refine aU6 ?_
 refine o_p (Qa rfl rfl rfl QE (i) om om (Rw.some hs.1 om)) rfl (aU ?_)
 refine o_q (Qc rfl rfl XN ((hs.1.rdj 2 hil rfl))) rfl (aU3 ?_)
 refine sCd rfl (λh16=>?_) λh16=>?_
 ·have hcl0:0<(nth L i).cs.length:=by have hq:=h16;omega
  have hkid:=QaS hT (by rw[Qb];exact hil) (i:=i) (k:=0) (by rw[hnI];exact hcl0)
  rw[hnI,Qb]at hkid
  simp only[LNd.pl]at hkid
  have hway2:=ZD hway (by rw[Qb];exact hil) (k:=0) (by rw[hnI];exact hcl0) (by rw[hnI];simp only[LNd.pl];omega)
  rw[hnI]at hway2
  have hwl2:=XW hT (by rw[Qb];exact h00) hway2
  rw[Qb,List.length_cons,List.length_cons]at hwl2
  have hdm:=QgH (ns:=pln L) (f:=L.length-d) (i:=i) om (by rw[hnI];show¬(nth L i).cs.length=0;omega)
  rw[hnI]at hdm
  refine aU7 ?_
  refine o_p (Qa rfl rfl rfl QE (i) om om (Rw.some hs.1 om)) rfl (aU ?_)
  refine o_q (Qc rfl rfl XN ((hs.1.rdj 2 hil rfl))) rfl (o_p (Qa rfl rfl rfl QB (0) om om (Rw.some (hs.cs hil) om)) rfl (o_q (Qc rfl rfl Xq (((hs.cs hil).rdj 0 (i:=0) om rfl))) rfl (Qm (show _=Value.int .i64 (((nth L i).cs.getD 0 0).toNat:Int)from congrArg (Value.int .i64) (Int.toNat_of_nonneg (show 0<=(nth L i).cs.getD 0 0 by omega)).symm) (aT6 ?_))))
  refine aU2 ?_
  exact sBk (d+1,((nth L i).cs.getD 0 0).toNat,i::P) (by(try simp only[]);omega) ⟨hway2,by simp[hpl],by simp only[]at *;rw[show L.length-(d+1)=L.length-d-1 by omega];have h9:(nth L i).pl.cs=(nth L i).cs:=rfl;rw[h9]at hdm;omega⟩
 have hde:=QiZ (ns:=pln L) (f:=L.length-d) (i:=i) (by rw[hnI];show(nth L i).cs.length=0;have hq:=h16;omega)
 rw[hde,Int.add_zero]at hdp
 have hdl:=QhW (pln L) L.length 0
 refine Qi rfl ?_
 refine aU4 ?_
 refine oCq rfl (λw1 h1=>c87 j mo rm a cap L (d:Int) L.length w1 ZU [] (d:Int) none none 0 0 0 0 (hs.later h1) hj om hT hB h00 rfl rfl (by show(d:Int)=d+1-1;omega) (λ_ h=>by cases h) (λ_ h=>by cases h) rfl rfl (by simp)) (aU5 ?_)
 exact Qf (rs:=[.tmp 2,.tmp 3]) rfl (.tmp rfl (.tmp rfl (.nil))) (λw' h'=>⟨by rw[hz8,show Yy ((⟨(j:Int),mo,rm,pln L⟩:Tre)).ns ((⟨(j:Int),mo,rm,pln L⟩:Tre)).ns.length 0=(d:Int)from by rw[hTL];exact hdp,show Yx ((⟨(j:Int),mo,rm,pln L⟩:Tre)).ns=vis (pln L) L.length ZU from hvis.symm];rfl,h'.below⟩)
theorem c16(w:World)(co mo rm:Int)(a:Option Addr)(cap:Nat)(L:List LNd)(hs:Nt w [] a L)(hB:Bd (pln L))(hkl:∀i,i<L.length->∀x∈(nth L i).es,x.key.length<=1000000):CR 16 #[.agg #[.int .i64 co,.int .i64 mo,.int .i64 rm,.slice a L.length cap]] w (.int .i64 (QZ (⟨co,mo,rm,pln L⟩:Tre)).2):=by
 refine eN1 Tryz.func16 Tryz.ntmps16 ?_
 refine aU2 ?_
 refine oBx λb1 _=>?_
 refine aU5 ?_
 refine oCq rfl (λw1 h1=>c46 w1 co mo rm a cap L (hs.later h1) hB hkl) (YZ ?_)
 exact rV
end Go.Proofs
namespace Gx
open Go Go.RowKit
def Qa6(x:TEnt):Bool:=decide (x.key.length<=44/\x.val.length<=70)
def Qa0(es:List TEnt):Bool:=es.all Qa6
def Qbw(n:Nd):Bool:=decide (n.es.length<=10/\n.cs.length<=11)&&Qa0 n.es
def Yc(ns:List Nd):Bool:=decide (ns.length<=122/\¬(60<ns.length/\ns.length<=120))&&ns.all Qbw
theorem Qoa{n:Nd}(h1:n.es.length<=10)(h2:n.cs.length<=11)(h3:Qa0 n.es=true):Qbw n=true:=by
 rw[Qbw,decide_eq_true (And.intro h1 h2),h3];rfl
theorem Qo5{n:Nd}(h:(10<n.es.length\/11<n.cs.length)\/Qa0 n.es=false):¬Qbw n=true:=λh9=>by
 rw[Qbw,Bool.and_eq_true,decide_eq_true_eq]at h9;rcases h with h|h
 ·omega
 ·rw[h]at h9;cases h9.2
theorem Qle{es:List TEnt}(h:∀q,q<es.length->Qa6 (nth es q)=true):Qa0 es=true:=by
 refine List.all_eq_true.2 λx hx=>?_;obtain⟨q,hq,e⟩:=List.getElem_of_mem hx;have e2:nth es q=x:=QP (by rw[List.getElem?_eq_getElem hq,e]);rw[<-e2];exact h q hq
theorem Qlu{es:List TEnt}{k:Nat}(hk:k<es.length)(h:¬Qa6 (nth es k)=true):Qa0 es=false:=by
 cases e:Qa0 es
 ·rfl
 ·exact absurd (List.all_eq_true.1 e _ (QQ hk)) h
theorem Qou{ns:List Nd}(h0:ns.length<=122/\¬(60<ns.length/\ns.length<=120))(h:∀q,q<ns.length->Qbw (nth ns q)=true):Yc ns=true:=by
 rw[Yc,decide_eq_true h0,Bool.true_and];refine List.all_eq_true.2 λx hx=>?_;obtain⟨q,hq,e⟩:=List.getElem_of_mem hx;have e2:nth ns q=x:=QP (by rw[List.getElem?_eq_getElem hq,e]);rw[<-e2];exact h q hq
theorem QoN{ns:List Nd}{k:Nat}(hk:k<ns.length)(h:¬Qbw (nth ns k)=true):Yc ns=false:=by
 cases e:Yc ns
 ·rfl
 ·rw[Yc,Bool.and_eq_true]at e;exact absurd (List.all_eq_true.1 e.2 _ (QQ hk)) h
theorem QoD{ns:List Nd}(h:¬(ns.length<=122/\¬(60<ns.length/\ns.length<=120))):Yc ns=false:=by
 rw[Yc,decide_eq_false h,Bool.false_and]
theorem QmX{ns:List Nd}(h:Yc ns=true):ns.length<=122:=by
 rw[Yc,Bool.and_eq_true,decide_eq_true_eq]at h;exact h.1.1
theorem Qa8{ns:List Nd}(h:Yc ns=true){k:Nat}(hk:k<ns.length):(nth ns k).es.length<=10/\(nth ns k).cs.length<=11/\∀x∈(nth ns k).es,x.key.length<=44/\x.val.length<=70:=by
 rw[Yc,Bool.and_eq_true]at h;have h2:=List.all_eq_true.1 h.2 _ (QQ hk);rw[Qbw,Bool.and_eq_true,decide_eq_true_eq]at h2;refine⟨h2.1.1,h2.1.2,λx hx=>?_⟩;have h3:=List.all_eq_true.1 h2.2 _ hx;rw[Qa6,decide_eq_true_eq]at h3;exact h3
theorem Qah{ns:List Nd}(h:Yc ns=true):Bd ns where
 len:=Nat.le_trans (QmX h) (by decide)
 es i hi:=Nat.le_trans (Qa8 h hi).1 (by decide)
 cs i hi:=Nat.le_trans (Qa8 h hi).2.1 (by decide)
theorem Qb0{ns:List Nd}(h:Yc ns=true):Sm 1000 ns:=λk=>by
 rcases Nat.lt_or_ge k ns.length with hk|hk
 ·exact⟨Nat.le_trans (Qa8 h hk).1 (by decide),Nat.le_trans (Qa8 h hk).2.1 (by decide)⟩
 ·rw[YO hk];exact⟨Nat.zero_le _,Nat.zero_le _⟩
theorem XM{L:List LNd}(h:Yc (pln L)=true):∀i,i<L.length->∀x∈(nth L i).es,x.key.length<=1000000:=λi hi x hx=>by
 have h2:=(Qa8 h (k:=i) (by rw[Qb];exact hi)).2.2 x (by rw[Qp hi];exact hx);omega
theorem QkR{i:Nat}{P:List Nat}(h:0<P.length):Q2 (i::P)=Q2 P:=by
 cases P with
 | nil=>exact absurd h (Nat.lt_irrefl _)
 | cons p P=>
  unfold Q2;rw[show(i::p::P).length-1=(p::P).length-1+1 by simp];rfl
theorem Qj6{co:Int}{ns:List Nd}(hT:TOk co ns)(h0:0<ns.length)(key:List UInt8):∀(f i:Nat)(P:List Nat),Way ns (i::P)->P.length+f=ns.length->0<(Zu co ns key f i).1.length/\(Zu co ns key f i).1.length<=f/\Q2 (Zu co ns key f i).1<ns.length/\(Zu co ns key f i).2.1=plc co (nth ns (Q2 (Zu co ns key f i).1)).es key/\(Zu co ns key f i).2.2=fnd co (nth ns (Q2 (Zu co ns key f i).1)).es key
 | 0,i,P,hw,hf=>by
  have:=XW hT h0 hw;rw[List.length_cons]at this;omega
 | f+1,i,P,hw,hf=>by
  by_cases h:fnd co (nth ns i).es key=true\/(nth ns i).cs.length=0
  ·rw[Zu,if_pos h];exact⟨Nat.one_pos,Nat.le_add_left 1 f,ZK hT h0 hw i (List.mem_cons_self ..),rfl,rfl⟩
  ·rw[Zu,if_neg h];have hi:=ZK hT h0 hw i (List.mem_cons_self ..)
   have hc:(nth ns i).cs.length=(nth ns i).es.length+1:=by
    rcases hT.shape i hi with h9|h9
    ·exact absurd (.inr h9) h
    ·exact h9
   have hk:plc co (nth ns i).es key<(nth ns i).cs.length:=by
    have:=ZJ co key (nth ns i).es;omega
   have hkid:=QaS hT hi hk;have ih:=Qj6 hT h0 key f ((nth ns i).cs.getD (plc co (nth ns i).es key) 0).toNat (i::P) (ZD hw hi hk om) (by rw[List.length_cons];omega);simp only[];rw[QkR ih.1];exact⟨by rw[List.length_cons];omega,by rw[List.length_cons];omega,ih.2.2⟩
theorem QeP{co:Int}{ns:List Nd}(hT:TOk co ns)(h0:0<ns.length)(key:List UInt8):0<(Qh co ns key).1.length/\(Qh co ns key).1.length<=ns.length/\Q2 (Qh co ns key).1<ns.length/\(Qh co ns key).2.1=plc co (nth ns (Q2 (Qh co ns key).1)).es key/\(Qh co ns key).2.2=fnd co (nth ns (Q2 (Qh co ns key).1)).es key:=Qj6 hT h0 key ns.length 0 [] rfl (by simp)
theorem QjB{co:Int}{es:List TEnt}{key:List UInt8}(h:fnd co es key=true):plc co es key<es.length:=by
 rw[fnd,Bool.and_eq_true,decide_eq_true_eq]at h;exact h.1
def QfR(co:Int)(ns:List Nd)(key:List UInt8):TEnt:=nth (nth ns (Q2 (Qh co ns key).1)).es (Qh co ns key).2.1
end Gx
namespace Go.Proofs
open Go Go.RowKit Gx
attribute [local irreducible] Go.Calls Gx.S Gx.O Gx.D Gx.OpP Gx.OpQ Gx.OpH
set_option maxRecDepth 20000
instance:TFn Tryz.prog 59:=⟨by kernel_rfl⟩
instance:TFn Tryz.prog 26:=⟨by kernel_rfl⟩
theorem c59(w:World)(x:TEnt):CR 59 #[.agg #[.string (bs x.key),.string (bs x.val)]] w (.bool (Qa6 x)):=by
 refine eN1 Tryz.func59 Tryz.ntmps59 ?_
 refine aU2 ?_
 refine oBx λb1 _=>?_
 refine aU6 ?_
 refine o_p (QN rfl rfl Tryz.underlying9) rfl (aU2 ?_)
 refine XJ 5 7 12 rfl
  (λhg2 _=>by
   refine aU5 ?_
   refine o_p (QN rfl rfl Tryz.underlying9) rfl (aU2 ?_)
   exact oJt 5 12)
  (λhg4 _=>by
   refine aU4 ?_
   exact oJf 5 12) ?_
 refine aU2 ?_
 exact rV (h:=by simp only[QV,Qa6,Bool.decide_and];congr 3<;>exact decide_eq_decide.2 om)
theorem c26(w:World)(a:Option Addr)(cap:Nat)(l:List TEnt)(hs:Rw TEnt.vals 2 w [] a l)(hl:l.length<=1000):CR 26 #[.slice a l.length cap] w (.bool (Qa0 l)):=by
 refine eN1 Tryz.func26 Tryz.ntmps26 ?_
 refine YR ?_
 refine Qt (α:=Nat) [2,3,4,5,6,7,8,9,10,11,12,13,14,15] (λk=>[(3,.int .i64 (k:Int))]) (λ_=>HS w [] []) (λk=>k<=l.length/\∀q,q<k->Qa6 (nth l q)=true) (λk=>l.length-k) 0 ⟨Nat.zero_le _,λq h=>absurd h (Nat.not_lt_zero q)⟩ aSx (λw h=>h.ent aEt) (λk hx=>?_)
 obtain⟨hk1,hk3⟩:=hx
 refine aU8 ?_
 refine sCd rfl (λh1=>?_) λh1=>?_
 ·have hk5:k<l.length:=by omega
  refine aU7 ?_
  refine o_p (Qa rfl rfl rfl QL (k) om om (Rw.some hs om)) rfl (o_q (Qu _ rfl rfl Ye rfl (Rw.rd hs hk5)) rfl (oCq rfl (λw1 h1=>c59 w1 (nth l k)) (aU2 ?_)))
  refine sCd rfl (λh2=>?_) λh2=>?_
  ·have hz1:¬Qa6 (nth l k)=true:=by have hq:=h2;simp[hq]
   have hbad:=Qlu hk5 hz1
   refine aU4 ?_
   exact rV (h:=by rw[hbad];rfl)
  have hz1:Qa6 (nth l k)=true:=by have hq:=h2;simpa using hq
  refine aT5 ?_
  refine aU2 ?_
  exact sBk (k+1) om ⟨om,λq hq=>(Nat.lt_or_ge q k).elim (hk3 q) (λh9=>by obtain rfl:q=k:=om;exact hz1)⟩
 have hall:=Qle (es:=l) (λq hq=>hk3 q om)
 refine Qi rfl ?_
 refine aU4 ?_
 exact rV (h:=by rw[hall];rfl)
theorem c6(w:World)(co mo rm:Int)(a:Option Addr)(cap:Nat)(L:List LNd)(hs:Nt w [] a L):CR 6 #[.agg #[.int .i64 co,.int .i64 mo,.int .i64 rm,.slice a L.length cap]] w (.bool (Yc (pln L))):=by
 have hnl:(pln L).length=L.length:=Qb L
 refine eN1 Tryz.func6 Tryz.ntmps6 ?_
 refine aU2 ?_
 refine oBx λb1 _=>?_
 refine YR ?_
 refine XJ 5 8 13 rfl
  (λhg2 _=>by
   refine aU8 ?_
   exact oJt 5 13)
  (λhg4 _=>by
   refine aU4 ?_
   exact oJf 5 13) ?_
 refine aU ?_
 refine oOr 5 14 19 rfl
  (λhg6 _=>by
   refine aU8 ?_
   exact oJf 5 19)
  (λhg8 _=>by
   refine aU4 ?_
   exact oJt 5 19) ?_
 refine aU ?_
 refine sCd rfl (λh10=>?_) λh10=>?_
 ·have hbad:=QoD (ns:=pln L) (by rw[hnl];have hq:=h10;omega)
  refine aU4 ?_
  exact rV (h:=by rw[hbad];rfl)
 have hlen:L.length<=122/\¬(60<L.length/\L.length<=120):=by have hq:=h10;omega
 refine aU7 ?_
 refine Qt (α:=Nat) [2,3,20,21,22,23,24,25,26,27,28,29,30,31,32,33,34,35,36,37,38,39,40,41,42,43,44,45,46,47,48,49,50,51,52,53,54] (λk=>[(3,.int .i64 (k:Int))]) (λ_=>HS w [] [.blk b1 27 4 [.int .i64 co,.int .i64 mo,.int .i64 rm,.slice a L.length cap]]) (λk=>k<=L.length/\∀q,q<k->Qbw (nth (pln L) q)=true) (λk=>L.length-k) 0 ⟨Nat.zero_le _,λq h=>absurd h (Nat.not_lt_zero q)⟩ aSx (λw h=>h.ent aEt) (λk hx=>?_)
 obtain⟨hk1,hk3⟩:=hx
 refine aU9 ?_
 refine sCd rfl (λh11=>?_) λh11=>?_
 ·have hk5:k<L.length:=by omega
  have hnk:=Qp hk5
  refine aU8 ?_
  refine o_p (Qa rfl rfl rfl QE (k) om om (Rw.some hs.1 om)) rfl (aU ?_)
  refine o_q (Qc rfl rfl XZ ((hs.1.rdj 1 hk5 rfl))) rfl (aU3 ?_)
  refine oOr 9 35 44 rfl
   (λhg12 _=>by
    refine aU7 ?_
    refine o_p (Qa rfl rfl rfl QE (k) om om (Rw.some hs.1 om)) rfl (aU3 ?_)
    refine o_q (Qc rfl rfl XN ((hs.1.rdj 2 hk5 rfl))) rfl (aU4 ?_)
    exact oJf 9 44)
   (λhg14 _=>by
    refine aU8 ?_
    exact oJt 9 44) ?_
  refine aU ?_
  refine oOr 9 45 54 rfl
   (λhg16 _=>by
    refine aU7 ?_
    refine o_p (Qa rfl rfl rfl QE (k) om om (Rw.some hs.1 om)) rfl (aU3 ?_)
    refine o_q (Qc rfl rfl XZ ((hs.1.rdj 1 hk5 rfl))) rfl (aU ?_)
    refine oCq rfl (λw1 h1=>c26 w1 (nth L k).ea (nth L k).ec (nth L k).es ((hs.es hk5).later h1) (by have hq:=hg16;omega)) (aU2 ?_)
    exact oJf 9 54)
   (λhg18 _=>by
    refine aU8 ?_
    exact oJt 9 54) ?_
  refine aU ?_
  refine sCd rfl (λh20=>?_) λh20=>?_
  ·have hz1:¬Qbw (nth (pln L) k)=true:=by rw[hnk];have hq:=h20;exact Qo5 (hq.imp (λh9=>by show 10<(nth L k).es.length\/11<(nth L k).cs.length;omega) id)
   have hbad:=QoN (by rw[hnl];exact hk5) hz1
   refine aU4 ?_
   exact rV (h:=by rw[hbad];rfl)
  have hz1:Qbw (nth (pln L) k)=true:=by rw[hnk];have hq:=h20;exact Qoa (by show(nth L k).es.length<=10;omega) (by show(nth L k).cs.length<=11;omega) hq.2
  refine aT5 ?_
  refine aU2 ?_
  exact sBk (k+1) om ⟨om,λq hq=>(Nat.lt_or_ge q k).elim (hk3 q) (λh9=>by obtain rfl:q=k:=om;exact hz1)⟩
 have hall:=Qou (ns:=pln L) (by rw[hnl];exact hlen) (λq hq=>hk3 q (by rw[hnl]at hq;omega))
 refine Qi rfl ?_
 refine aU4 ?_
 exact rV (h:=by rw[hall];rfl)
instance:TFn Tryz.prog 67:=⟨by kernel_rfl⟩
theorem Qfc:YA Tryz.prog 76=some [(0,1),(1,1)]:=by kernel_rfl
theorem c35e(w:World)(co mo rm:Int)(a:Option Addr)(cap:Nat)(L:List LNd)(key:List UInt8)(hs:Nt w [] a L)(hB:Bd (pln L))(hkl:∀i,i<L.length->∀x∈(nth L i).es,x.key.length<=1000000)(he:¬(QZ (⟨co,mo,rm,pln L⟩:Tre)).2=0):CR 35 #[.agg #[.int .i64 co,.int .i64 mo,.int .i64 rm,.slice a L.length cap],.string (bs key)] w (.tuple #[.agg #[.string (bs []),.string (bs [])],.int .i64 (QZ (⟨co,mo,rm,pln L⟩:Tre)).2]):=by
 refine eN2 Tryz.func35 Tryz.ntmps35 ?_
 refine aU2 ?_
 refine oBx λb1 _=>?_
 refine oAl (λb2 _=>?_) Xi
 refine aU6 ?_
 refine oCq rfl (λw1 h1=>c67e w1 co mo rm a cap L key (hs.later h1.nil) hB hkl he) (Y1 ?_)
 refine sCd rfl (λh3=>?_) λh3=>?_
 ·refine aU2 ?_
  refine o_p (QD (cs:=[_,_]) rfl rfl Qfc Xi rfl) rfl (aU4 ?_)
  exact Qf (rs:=[.cell 4 76,.tmp 5]) rfl (.cell rfl Ye aPk rfl (.tmp rfl (.nil))) (λw' h'=>⟨rfl,h'.below⟩)
 exfalso;first|omega|(simp at h3;done)|(simp_all;done)
theorem c35x(w:World)(j:Nat)(mo rm:Int)(a:Option Addr)(cap:Nat)(L:List LNd)(key:List UInt8)(hs:Nt w [] a L)(hB:Bd (pln L))(hkl:∀i,i<L.length->∀x∈(nth L i).es,x.key.length<=1000000)(hkk:key.length<=1000000)(h0:(QZ (⟨(j:Int),mo,rm,pln L⟩:Tre)).2=0)(hx:¬YU (j:Int) key=0):CR 35 #[.agg #[.int .i64 (j:Int),.int .i64 mo,.int .i64 rm,.slice a L.length cap],.string (bs key)] w (.tuple #[.agg #[.string (bs []),.string (bs [])],.int .i64 (YU (j:Int) key)]):=by
 obtain⟨hc0,hz0,hl0,hl120,hn0,_,_⟩:=ZQ h0
 rw[show((⟨(j:Int),mo,rm,pln L⟩:Tre)).ns=pln L from rfl,Qb]at hl0 hl120
 have hj:j<=3:=by obtain⟨j9,e9,hj9⟩:=QbO hc0;have e8:((j:Nat):Int)=(j9:Int):=e9;omega
 have hT:TOk (j:Int) (pln L):=QaK (t:=(⟨(j:Int),mo,rm,pln L⟩:Tre)) hn0
 have hmo:=(QaN hz0).1
 simp only[]at hmo
 refine eN2 Tryz.func35 Tryz.ntmps35 ?_
 refine aU2 ?_
 refine oBx λb1 _=>?_
 refine oAl (λb2 _=>?_) Xi
 refine aU6 ?_
 refine oCh rfl (λw1 h1=>QpN w1 j mo rm a cap L key (hs.later h1.nil) hB hkl hkk h0) (λ⟨b9,⟨gn9,c9⟩,L9⟩hF9=>?_)
 dsimp only
 obtain⟨hL9,hn9,hm9⟩:=hF9
 simp only[]at hL9 hn9 hm9
 have hl9:L9.length=L.length:=by rw[<-Qb L9,hL9,Qb]
 have hB9:Bd (pln L9):=by rw[hL9];exact hB
 have hT9:TOk (j:Int) (pln L9):=by rw[hL9];exact hT
 have hK9:∀i,i<L9.length->∀y∈(nth L9 i).es,QS (j:Int) y.key=true/\y.key.length<=1000000:=λi hi y hy=>Qa5 hT9 i (by rw[Qb];exact hi) y (by rw[Qp hi];exact hy)
 refine Y1 ?_
 refine sCd rfl (λh3=>?_) λh3=>?_
 ·refine aU2 ?_
  refine o_p (QD (cs:=[_,_]) rfl rfl Qfc Xi rfl) rfl (aU4 ?_)
  exact Qf (rs:=[.cell 4 76,.tmp 5]) rfl (.cell rfl Ye aPk rfl (.tmp rfl (.nil))) (λw' h'=>⟨rfl,h'.below⟩)
 exfalso;first|omega|(simp at h3;done)|(simp_all;done)
theorem c35m(w:World)(j:Nat)(mo rm:Int)(a:Option Addr)(cap:Nat)(L:List LNd)(key:List UInt8)(hs:Nt w [] a L)(hB:Bd (pln L))(hkl:∀i,i<L.length->∀x∈(nth L i).es,x.key.length<=1000000)(h0:(QZ (⟨(j:Int),mo,rm,pln L⟩:Tre)).2=0)(hkk:key.length<=1000000)(hx0:YU (j:Int) key=0)(hx:¬(Qh (j:Int) (pln L) key).2.2=true):CR 35 #[.agg #[.int .i64 (j:Int),.int .i64 mo,.int .i64 rm,.slice a L.length cap],.string (bs key)] w (.tuple #[.agg #[.string (bs []),.string (bs [])],.int .i64 6]):=by
 obtain⟨hc0,hz0,hl0,hl120,hn0,_,_⟩:=ZQ h0
 rw[show((⟨(j:Int),mo,rm,pln L⟩:Tre)).ns=pln L from rfl,Qb]at hl0 hl120
 have hj:j<=3:=by obtain⟨j9,e9,hj9⟩:=QbO hc0;have e8:((j:Nat):Int)=(j9:Int):=e9;omega
 have hT:TOk (j:Int) (pln L):=QaK (t:=(⟨(j:Int),mo,rm,pln L⟩:Tre)) hn0
 have hmo:=(QaN hz0).1
 simp only[]at hmo
 have hkey:QS (j:Int) key=true:=keyE_ok hx0
 refine eN2 Tryz.func35 Tryz.ntmps35 ?_
 refine aU2 ?_
 refine oBx λb1 _=>?_
 refine oAl (λb2 _=>?_) Xi
 refine aU6 ?_
 refine oCh rfl (λw1 h1=>QpN w1 j mo rm a cap L key (hs.later h1.nil) hB hkl hkk h0) (λ⟨b9,⟨gn9,c9⟩,L9⟩hF9=>?_)
 dsimp only
 obtain⟨hL9,hn9,hm9⟩:=hF9
 simp only[]at hL9 hn9 hm9
 have hl9:L9.length=L.length:=by rw[<-Qb L9,hL9,Qb]
 have hB9:Bd (pln L9):=by rw[hL9];exact hB
 have hT9:TOk (j:Int) (pln L9):=by rw[hL9];exact hT
 have hK9:∀i,i<L9.length->∀y∈(nth L9 i).es,QS (j:Int) y.key=true/\y.key.length<=1000000:=λi hi y hy=>Qa5 hT9 i (by rw[Qb];exact hi) y (by rw[Qp hi];exact hy)
 refine Y1 ?_
 refine sCd rfl (λh3=>?_) λh3=>?_
 ·exfalso;first|omega|(simp at h3;done)|(simp_all;done)
 refine aU5 ?_
 refine oCh rfl (λw1 h1=>c68 w1 b9 j mo rm (some ⟨gn9,0,none⟩) c9 L9 key hj om hB9 hT9 hK9 hkey hkk (HS.nt_at h1 aPk aPk) (HS.tbr h1 aPk)) (λ⟨pa,pc⟩_=>?_)
 dsimp only
 rw[hL9]
 refine Qc0 ?_
 refine sCd rfl (λh4=>?_) λh4=>?_
 ·refine aU2 ?_
  refine o_p (QD (cs:=[_,_]) rfl rfl Qfc Xi rfl) rfl (aU3 ?_)
  exact Qf (rs:=[.cell 4 76,.tmp 5]) rfl (.cell rfl Ye aPk rfl (.tmp rfl (.nil))) (λw' h'=>⟨rfl,h'.below⟩)
 exfalso;first|omega|(simp at h4;done)|(simp_all;done)
theorem c35o(w:World)(j:Nat)(mo rm:Int)(a:Option Addr)(cap:Nat)(L:List LNd)(key:List UInt8)(hs:Nt w [] a L)(hB:Bd (pln L))(hkl:∀i,i<L.length->∀x∈(nth L i).es,x.key.length<=1000000)(h0:(QZ (⟨(j:Int),mo,rm,pln L⟩:Tre)).2=0)(hkk:key.length<=1000000)(hx0:YU (j:Int) key=0)(hx:(Qh (j:Int) (pln L) key).2.2=true):CR 35 #[.agg #[.int .i64 (j:Int),.int .i64 mo,.int .i64 rm,.slice a L.length cap],.string (bs key)] w (.tuple #[.agg #[.string (bs (QfR (j:Int) (pln L) key).key),.string (bs (QfR (j:Int) (pln L) key).val)],.int .i64 0]):=by
 obtain⟨hc0,hz0,hl0,hl120,hn0,_,_⟩:=ZQ h0
 rw[show((⟨(j:Int),mo,rm,pln L⟩:Tre)).ns=pln L from rfl,Qb]at hl0 hl120
 have hj:j<=3:=by obtain⟨j9,e9,hj9⟩:=QbO hc0;have e8:((j:Nat):Int)=(j9:Int):=e9;omega
 have hT:TOk (j:Int) (pln L):=QaK (t:=(⟨(j:Int),mo,rm,pln L⟩:Tre)) hn0
 have hmo:=(QaN hz0).1
 simp only[]at hmo
 have hkey:QS (j:Int) key=true:=keyE_ok hx0
 have hend:=QeP hT (by rw[Qb];exact hl0) key
 obtain⟨hp1,hp2,hp3,hp4,hp5⟩:=hend
 rw[Qb]at hp2 hp3
 refine eN2 Tryz.func35 Tryz.ntmps35 ?_
 refine aU2 ?_
 refine oBx λb1 _=>?_
 refine oAl (λb2 _=>?_) Xi
 refine aU6 ?_
 refine oCh rfl (λw1 h1=>QpN w1 j mo rm a cap L key (hs.later h1.nil) hB hkl hkk h0) (λ⟨b9,⟨gn9,c9⟩,L9⟩hF9=>?_)
 dsimp only
 obtain⟨hL9,hn9,hm9⟩:=hF9
 simp only[]at hL9 hn9 hm9
 have hl9:L9.length=L.length:=by rw[<-Qb L9,hL9,Qb]
 have hB9:Bd (pln L9):=by rw[hL9];exact hB
 have hT9:TOk (j:Int) (pln L9):=by rw[hL9];exact hT
 have hK9:∀i,i<L9.length->∀y∈(nth L9 i).es,QS (j:Int) y.key=true/\y.key.length<=1000000:=λi hi y hy=>Qa5 hT9 i (by rw[Qb];exact hi) y (by rw[Qp hi];exact hy)
 refine Y1 ?_
 refine sCd rfl (λh3=>?_) λh3=>?_
 ·exfalso;first|omega|(simp at h3;done)|(simp_all;done)
 refine aU5 ?_
 refine oCh rfl (λw1 h1=>c68 w1 b9 j mo rm (some ⟨gn9,0,none⟩) c9 L9 key hj om hB9 hT9 hK9 hkey hkk (HS.nt_at h1 aPk aPk) (HS.tbr h1 aPk)) (λ⟨pa,pc⟩_=>?_)
 dsimp only
 rw[hL9]
 refine Qc0 ?_
 refine sCd rfl (λh4=>?_) λh4=>?_
 ·exfalso;first|omega|(simp at h4;done)|(simp_all;done)
 have hlf:(Q2 (Qh (j:Int) (pln L) key).1)<L9.length:=om
 have hn9f:nth (pln L) (Q2 (Qh (j:Int) (pln L) key).1)=(nth L9 (Q2 (Qh (j:Int) (pln L) key).1)).pl:=by have h9:=Qp hlf;rw[hL9]at h9;exact h9
 have hat:=QjB (hp5▸hx)
 rw[<-hp4,hn9f]at hat
 simp only[LNd.pl]at hat
 have hpn:(Qh (j:Int) (pln L) key).1.length-1<(Qh (j:Int) (pln L) key).1.length:=om
 have hXN:(QfR (j:Int) (pln L) key)=nth (nth L9 (Q2 (Qh (j:Int) (pln L) key).1)).es (Qh (j:Int) (pln L) key).2.1:=by rw[QfR,hn9f];rfl
 refine X0 (λw h=>HS.kids_some (by rw[QcX];omega) h aPk) λhpa=>?_
 obtain⟨gp,hpa⟩:=hpa
 refine X0 (λw h=>HS.es_some (i:=(Q2 (Qh (j:Int) (pln L) key).1)) hlf om h aPk) λhge=>?_
 obtain⟨ge,hge⟩:=hge
 refine aU2 ?_
 refine Qq [17] Qx ?_
 refine dP 0 ?_
 refine dP 1 ?_
 refine dFa 2 ?_
 refine dFa 3 ?_
 refine dLd 4 [[]] ?_
 refine dP 5 ?_
 refine dP 6 ?_
 refine dV 7 rfl (Qz rfl rfl Tryz.underlying52) (dP 8 ?_)
 try refine dWr ?_
 refine dV 9 rfl (Qa rfl rfl rfl QB ((Qh (j:Int) (pln L) key).1.length-1) om om hpa) (dQ 10 [[]] rfl (Qn rfl rfl Xq (λw h=>HS.path_rd hpn hpa h aPk)) (Qs (show _=Value.int .i64 (((Q2 (Qh (j:Int) (pln L) key).1):Nat):Int)from rfl) (dV 11 rfl (Qa rfl rfl rfl QE ((Q2 (Qh (j:Int) (pln L) key).1)) om om rfl) (Qs (show _=Value.pointer (some ⟨gn9,(Q2 (Qh (j:Int) (pln L) key).1)*3,none⟩)from by rw[Nat.zero_add]) (dFa 12 ?_)))))
 refine dQ 13 [[]] rfl (Qn rfl rfl XZ (λw h=>HS.nd_cell hlf h aPk 1 rfl (by decide))) (dP 14 ?_)
 refine dV 15 rfl (Qa rfl rfl rfl QL ((Qh (j:Int) (pln L) key).2.1) om om hge) (dQ 16 [[]] rfl (Yi _ rfl rfl Ye (by rfl) (λw h=>HS.es_rd (i:=(Q2 (Qh (j:Int) (pln L) key).1)) hlf hat hge h aPk)) (dSt 17 ?_ (hl:=(by simp only[Qe,List.length_set,List.length_cons,List.length_nil,List.length_map];omega))))
 refine dTu [] ?_
 refine dP 18 ?_
 refine dNi ?_
 exact Qf (rs:=[.cell 4 76,.tmp 5]) rfl (.cell rfl Ye aPk rfl (.tmp rfl (.nil))) (λw' h'=>⟨by rw[hXN];rfl,h'.below⟩)
theorem c47m(w:World)(j:Nat)(mo rm:Int)(a:Option Addr)(cap:Nat)(L:List LNd)(key:List UInt8)(hs:Nt w [] a L)(hB:Bd (pln L))(hj:j<=3)(hl0:0<L.length)(hT:TOk (j:Int) (pln L))(hkk:key.length<=1000000)(hx0:YU (j:Int) key=0)(hx:¬(Qh (j:Int) (pln L) key).2.2=true):CR 47 #[.agg #[.int .i64 (j:Int),.int .i64 mo,.int .i64 rm,.slice a L.length cap],.string (bs key)] w (.tuple #[.agg #[.string (bs []),.string (bs [])],.bool false]):=by
 have hkey:QS (j:Int) key=true:=keyE_ok hx0
 refine eN2 Tryz.func47 Tryz.ntmps47 ?_
 refine aU2 ?_
 refine oBx λb1 _=>?_
 refine oAl (λb2 _=>?_) Xi
 refine aU6 ?_
 refine oCh rfl (λw1 h1=>c75 w1 j mo rm a cap L key hj hl0 hB hT (hs.later h1.nil) hkey hkk) (λ⟨pa,pc⟩_=>Y1 ?_)
 refine sCd rfl (λh3=>?_) λh3=>?_
 ·refine aU2 ?_
  refine o_p (QD (cs:=[_,_]) rfl rfl Qfc Xi rfl) rfl (aU3 ?_)
  exact Qf (rs:=[.cell 4 76,.tmp 5]) rfl (.cell rfl Ye aPk rfl (.tmp rfl (.nil))) (λw' h'=>⟨rfl,h'.below⟩)
 exfalso;first|omega|(simp at h3;done)|(simp_all;done)
theorem c47o(w:World)(j:Nat)(mo rm:Int)(a:Option Addr)(cap:Nat)(L:List LNd)(key:List UInt8)(hs:Nt w [] a L)(hB:Bd (pln L))(hj:j<=3)(hl0:0<L.length)(hT:TOk (j:Int) (pln L))(hkk:key.length<=1000000)(hx0:YU (j:Int) key=0)(hx:(Qh (j:Int) (pln L) key).2.2=true):CR 47 #[.agg #[.int .i64 (j:Int),.int .i64 mo,.int .i64 rm,.slice a L.length cap],.string (bs key)] w (.tuple #[.agg #[.string (bs (QfR (j:Int) (pln L) key).key),.string (bs (QfR (j:Int) (pln L) key).val)],.bool true]):=by
 have hkey:QS (j:Int) key=true:=keyE_ok hx0
 have hK:∀i,i<L.length->∀y∈(nth L i).es,QS (j:Int) y.key=true/\y.key.length<=1000000:=λi hi y hy=>Qa5 hT i (by rw[Qb];exact hi) y (by rw[Qp hi];exact hy)
 have hend:=QeP hT (by rw[Qb];exact hl0) key
 obtain⟨hp1,hp2,hp3,hp4,hp5⟩:=hend
 rw[Qb]at hp2 hp3
 have hlf:(Q2 (Qh (j:Int) (pln L) key).1)<L.length:=hp3
 have hnf:=Qp hlf
 have hat:=QjB (hp5▸hx)
 rw[<-hp4,hnf]at hat
 simp only[LNd.pl]at hat
 have hpl4:plc (j:Int) (nth L (Q2 (Qh (j:Int) (pln L) key).1)).es key=(Qh (j:Int) (pln L) key).2.1:=by rw[hp4,hnf];rfl
 have hXN:(QfR (j:Int) (pln L) key)=nth (nth L (Q2 (Qh (j:Int) (pln L) key).1)).es (Qh (j:Int) (pln L) key).2.1:=by rw[QfR,hnf];rfl
 have hel:=hB.es (Q2 (Qh (j:Int) (pln L) key).1) (by rw[Qb];exact hlf)
 rw[hnf]at hel
 simp only[LNd.pl]at hel
 have hle:=hB.len
 rw[Qb]at hle
 refine eN2 Tryz.func47 Tryz.ntmps47 ?_
 refine aU2 ?_
 refine oBx λb1 _=>?_
 refine oAl (λb2 _=>?_) Xi
 refine aU6 ?_
 refine oCh rfl (λw1 h1=>c75 w1 j mo rm a cap L key hj hl0 hB hT (hs.later h1.nil) hkey hkk) (λ⟨pa,pc⟩_=>?_)
 dsimp only
 refine Xo (λw h=>HS.pown_some (P:=(Qh (j:Int) (pln L) key).1) (a:=pa) (c:=pc) hp1 h aPk) λhpa=>?_
 obtain⟨gp,hpa⟩:=hpa
 refine Y1 ?_
 refine sCd rfl (λh3=>?_) λh3=>?_
 ·exfalso;first|omega|(simp at h3;done)|(simp_all;done)
 refine aT7 ?_
 refine o_p (Qa rfl rfl rfl QB ((Qh (j:Int) (pln L) key).1.length-1) om om hpa) rfl (o_q (Qn rfl rfl Xq (λw h=>HS.pown_rd (P:=(Qh (j:Int) (pln L) key).1) (a:=pa) (c:=pc) (k:=(Qh (j:Int) (pln L) key).1.length-1) om hpa h aPk)) rfl (Qm (show _=Value.int .i64 (((Q2 (Qh (j:Int) (pln L) key).1):Nat):Int)from rfl) (aU7 ?_)))
 refine oCq rfl (λw1 h1=>by have h9:=c76 w1 j mo rm a cap L (Q2 (Qh (j:Int) (pln L) key).1) key hj hlf (hs.later h1.nil) hle hel (hK _ hlf) hkey hkk;rw[hpl4]at h9;exact h9) (aU7 ?_)
 refine Qg (L':=[(2,_),(4,_),(5,_),(8,_),(9,_)]) aSx (λ_ h=>h) ?_
 refine aU4 ?_
 refine o_p (Qa rfl rfl rfl QE ((Q2 (Qh (j:Int) (pln L) key).1)) om om (Rw.some hs.1 om)) rfl (aU ?_)
 refine o_q (Qc rfl rfl XZ ((hs.1.rdj 1 hlf rfl))) rfl (aU ?_)
 refine o_p (Qa rfl rfl rfl QL ((Qh (j:Int) (pln L) key).2.1) om om (Rw.some (hs.es hlf) om)) rfl (o_q (Qu _ rfl rfl Ye rfl (Rw.rd (hs.es hlf) hat)) rfl (aU3 ?_))
 exact Qf (rs:=[.cell 4 76,.tmp 5]) rfl (.cell rfl Ye aPk rfl (.tmp rfl (.nil))) (λw' h'=>⟨by rw[hXN];rfl,h'.below⟩)
end Go.Proofs
namespace Gx
open Go Go.RowKit
def shA(ns:List Nd):Nat->Int×Int×Int
 | 0=>(0,0,0)
 | k+1=>if(nth ns k).us=true then((shA ns k).1+1,(shA ns k).2.1+((nth ns k).es.length:Int),(shA ns k).2.2)else((shA ns k).1,(shA ns k).2.1,(shA ns k).2.2+1)
theorem Qrs{ns:List Nd}{k:Nat}{n:Nd}(hn:nth ns k=n)(h:n.us=true):shA ns (k+1)=((shA ns k).1+1,(shA ns k).2.1+(n.es.length:Int),(shA ns k).2.2):=by
 subst hn;rw[shA,if_pos h]
theorem QrF{ns:List Nd}{k:Nat}{n:Nd}(hn:nth ns k=n)(h:¬n.us=true):shA ns (k+1)=((shA ns k).1,(shA ns k).2.1,(shA ns k).2.2+1):=by
 subst hn;rw[shA,if_neg h]
theorem QlL{ns:List Nd}(hB:Bd ns):∀k,k<=ns.length->(0<=(shA ns k).1/\(shA ns k).1<=k)/\(0<=(shA ns k).2.1/\(shA ns k).2.1<=1000*(k:Int))/\(0<=(shA ns k).2.2/\(shA ns k).2.2<=k)
 | 0,_=>by simp[shA]
 | k+1,hk=>by
  have ih:=QlL hB k om;have he:=hB.es k om;rw[shA];split
  ·simp only[];omega
  ·simp only[];omega
def shpV(ns:List Nd):List Value:=[.int .i64 (Yy ns ns.length 0+1),.int .i64 (shA ns ns.length).1,.int .i64 (shA ns ns.length).2.1,.int .i64 (shA ns ns.length).2.2]
end Gx
namespace Go.Proofs
open Go Go.RowKit Gx
attribute [local irreducible] Go.Calls Gx.S Gx.O Gx.D Gx.OpP Gx.OpQ Gx.OpH
set_option maxRecDepth 20000
theorem QeV:Xy Tryz.prog 81=some [.int .i64 0,.int .i64 0,.int .i64 0,.int .i64 0]:=by kernel_rfl
theorem Qpd:YA Tryz.prog 81=some [(0,1),(1,1),(2,1),(3,1)]:=by kernel_rfl
theorem QlA:tsz Tryz.prog 81=some (4,true):=by kernel_rfl
instance:TSz Tryz.prog 81 4 true:=⟨QlA⟩
instance:TFd Tryz.prog 81 1 1 3:=⟨by kernel_rfl⟩
instance:TFd Tryz.prog 81 3 3 3:=⟨by kernel_rfl⟩
instance:TFd Tryz.prog 81 2 2 3:=⟨by kernel_rfl⟩
instance:TFd Tryz.prog 81 0 0 3:=⟨by kernel_rfl⟩
theorem c36e(w:World)(co mo rm:Int)(a:Option Addr)(cap:Nat)(L:List LNd)(hs:Nt w [] a L)(hB:Bd (pln L))(hkl:∀i,i<L.length->∀x∈(nth L i).es,x.key.length<=1000000)(he:¬(QZ (⟨co,mo,rm,pln L⟩:Tre)).2=0):CR 36 #[.agg #[.int .i64 co,.int .i64 mo,.int .i64 rm,.slice a L.length cap]] w (.tuple #[.agg #[.int .i64 0,.int .i64 0,.int .i64 0,.int .i64 0],.int .i64 (QZ (⟨co,mo,rm,pln L⟩:Tre)).2]):=by
 refine eN1 Tryz.func36 Tryz.ntmps36 ?_
 refine aU2 ?_
 refine oBx λb1 _=>?_
 refine oAl (λb2 _=>?_) QeV
 refine aU5 ?_
 refine oCq rfl (λw1 h1=>c69e w1 co mo rm a cap L (hs.later h1.nil) hB hkl he) (Y1 ?_)
 refine sCd rfl (λh3=>?_) λh3=>?_
 ·refine aU2 ?_
  refine o_p (QD (cs:=[_,_,_,_]) rfl rfl Qpd QeV rfl) rfl (aU4 ?_)
  exact Qf (rs:=[.cell 2 81,.tmp 3]) rfl (.cell rfl QlA aPk rfl (.tmp rfl (.nil))) (λw' h'=>⟨rfl,h'.below⟩)
 exfalso;first|omega|(simp at h3;done)|(simp_all;done)
theorem c36o(w:World)(j:Nat)(mo rm:Int)(a:Option Addr)(cap:Nat)(L:List LNd)(hs:Nt w [] a L)(hB:Bd (pln L))(hkl:∀i,i<L.length->∀x∈(nth L i).es,x.key.length<=1000000)(h0:(QZ (⟨(j:Int),mo,rm,pln L⟩:Tre)).2=0):CR 36 #[.agg #[.int .i64 (j:Int),.int .i64 mo,.int .i64 rm,.slice a L.length cap]] w (.tuple #[(.agg (shpV (pln L)).toArray),.int .i64 0]):=by
 obtain⟨hc0,hz0,hl0,hl120,hn0,_,_⟩:=ZQ h0
 rw[show((⟨(j:Int),mo,rm,pln L⟩:Tre)).ns=pln L from rfl,Qb]at hl0 hl120
 have hj:j<=3:=by obtain⟨j9,e9,hj9⟩:=QbO hc0;have e8:((j:Nat):Int)=(j9:Int):=e9;omega
 have hT:TOk (j:Int) (pln L):=QaK (t:=(⟨(j:Int),mo,rm,pln L⟩:Tre)) hn0
 have hmo:=(QaN hz0).1
 simp only[]at hmo
 have hnl:(pln L).length=L.length:=Qb L
 refine eN1 Tryz.func36 Tryz.ntmps36 ?_
 refine aU2 ?_
 refine oBx λb1 _=>?_
 refine oAl (λb2 _=>?_) QeV
 refine aU5 ?_
 refine oCh rfl (λw1 h1=>c69o w1 j mo rm a cap L (hs.later h1.nil) hB hkl h0) (λ⟨b9,⟨gn9,c9⟩,L9⟩hF9=>?_)
 dsimp only
 obtain⟨hL9,hn9,hm9⟩:=hF9
 simp only[]at hL9 hn9 hm9
 have hl9:L9.length=L.length:=by rw[<-Qb L9,hL9,Qb]
 have hnl9:∀i,i<L9.length->nth (pln L) i=(nth L9 i).pl:=λi hi=>by have h9:=Qp hi;rw[hL9]at h9;exact h9
 refine Y1 ?_
 refine sCd rfl (λh3=>?_) λh3=>?_
 ·exfalso;first|omega|(simp at h3;done)|(simp_all;done)
 refine aU3 ?_
 refine o_p (QD (cs:=[_,_,_,_]) rfl rfl Qpd QeV rfl) rfl (oAl (λb4 _=>?_) QeV)
 refine Qc0 ?_
 refine Qg (L':=[(2,_),(3,_),(4,_),(6,_),(24,_),(25,_),(26,_)]) aSx (λ_ h=>h) ?_
 refine Qt (α:=Nat) [8,26,27,28,29,30,31,32,33,34,35,36,37,38,39,40,41,42,43,44,45,46,47] (λk=>[(26,.int .i64 (k:Int))]) (λk=>HS w [] [.blk b4 81 4 [.int .i64 1,.int .i64 (shA (pln L) k).1,.int .i64 (shA (pln L) k).2.1,.int .i64 (shA (pln L) k).2.2],.blk b9 128 6 (tbV (j:Int) mo rm (some ⟨gn9,0,none⟩) (L9).length c9),.blk gn9 64 (c9*3) ((L9).flatMap LNd.vals),.star ((L9).map (Qw 76)),.blk b2 81 4 [.int .i64 0,.int .i64 0,.int .i64 0,.int .i64 0],.blk b1 27 4 [.int .i64 (j:Int),.int .i64 mo,.int .i64 rm,.slice a L.length cap]]) (λk=>k<=L.length) (λk=>L.length-k) 0 (Nat.zero_le _) aSx (λw h=>h.ent aEt) (λk hk1=>?_)
 refine aU5 ?_
 refine sCd rfl (λh5=>?_) λh5=>?_
 ·have hkl9:k<L9.length:=by omega
  have hnk:=hnl9 k hkl9
  have hsl:=QlL hB k (by rw[hnl];omega)
  have hek:=hB.es k (by rw[hnl];omega)
  rw[hnk]at hek
  simp only[LNd.pl]at hek
  refine aU5 ?_
  refine o_p (Qa rfl rfl rfl QE (k) om om rfl) rfl (o_q (Yi _ rfl rfl Y5 (by rfl) (λw h=>Rw.rd (h.rw_blk nv3 aPk) (i:=k) hkl9)) rfl (oAl (λb6 _=>?_) XY))
  refine aU8 ?_
  refine Xe (α:=Int×Int) [32,33,34,35,36,37,38,39] (λ_=>[]) (λx=>HS w [] [.blk b4 81 4 [.int .i64 1,.int .i64 x.1,.int .i64 (shA (pln L) k).2.1,.int .i64 x.2],.blk b6 64 3 (LNd.vals (nth L9 k)),.blk b9 128 6 (tbV (j:Int) mo rm (some ⟨gn9,0,none⟩) (L9).length c9),.blk gn9 64 (c9*3) ((L9).flatMap LNd.vals),.star ((L9).map (Qw 76)),.blk b2 81 4 [.int .i64 0,.int .i64 0,.int .i64 0,.int .i64 0],.blk b1 27 4 [.int .i64 (j:Int),.int .i64 mo,.int .i64 rm,.slice a L.length cap]]) (λx=>x.1=(shA (pln L) (k+1)).1/\x.2=(shA (pln L) (k+1)).2.2/\(shA (pln L) (k+1)).2.1=(shA (pln L) k).2.1+((nth L9 k).es.length:Int)) ?_ ?_
  ·skip
   refine sCd rfl (λh7=>?_) λh7=>?_
   ·have hst:=Qrs (ns:=pln L) hnk h7
    refine aT4 ?_
    refine aU3 ?_
    exact Qo ((shA (pln L) k).1+1,(shA (pln L) k).2.2) (by rw[hst];exact⟨rfl,rfl,rfl⟩) aSx (λw h=>h.ent aEt)
   have hst:=QrF (ns:=pln L) hnk (by have hq:=h7;simpa[LNd.pl]using hq)
   have hfr:=(hT.free k (by rw[hnl];omega) (by rw[hnk];have hq:=h7;simpa[LNd.pl]using hq)).2.1
   rw[hnk]at hfr
   have hfr2:(nth L9 k).es.length=0:=by rw[show(nth L9 k).es=[]from hfr];rfl
   refine aT4 ?_
   refine aU3 ?_
   exact Qo ((shA (pln L) k).1,(shA (pln L) k).2.2+1) (by rw[hst];exact⟨rfl,rfl,by simp only[];omega⟩) aSx (λw h=>h.ent aEt)
  intro⟨n1,f1⟩ hy
  refine aT7 ?_
  refine aT6 ?_
  refine aU2 ?_
  exact QR (k+1) om om aSx (λw h=>by obtain⟨hy1,hy2,hy3⟩:=hy;simp only[]at hy1 hy2;rw[<-hy1,<-hy2,hy3];exact h.ent aEt)
 obtain rfl:k=L.length:=om
 refine Qi rfl ?_
 refine aU6 ?_
 refine Qt (α:=Nat×Nat×List Nat) [9,48,49,50,51,52,53,54,55,56,57,58,59,60,61,62,63,64,65,66,67,68,69,70,71,72,73] (λy=>[(9,.int .i64 (y.2.1:Int))]) (λy=>HS w [] [.blk b4 81 4 [.int .i64 ((y.1:Int)+1),.int .i64 (shA (pln L) L.length).1,.int .i64 (shA (pln L) L.length).2.1,.int .i64 (shA (pln L) L.length).2.2],.blk b9 128 6 (tbV (j:Int) mo rm (some ⟨gn9,0,none⟩) (L9).length c9),.blk gn9 64 (c9*3) ((L9).flatMap LNd.vals),.star ((L9).map (Qw 76)),.blk b2 81 4 [.int .i64 0,.int .i64 0,.int .i64 0,.int .i64 0],.blk b1 27 4 [.int .i64 (j:Int),.int .i64 mo,.int .i64 rm,.slice a L.length cap]]) (λy=>Gx.Way (pln L) (y.2.1::y.2.2)/\y.2.2.length=y.1/\Yy (pln L) L.length 0=(y.1:Int)+Yy (pln L) (L.length-y.1) y.2.1) (λy=>L.length-y.1) (0,0,[]) ⟨rfl,rfl,by simp⟩ aSx (λw h=>h.ent aEt) (λ⟨d,i,P⟩hx=>?_)
 dsimp only
 obtain⟨hway,hpl,hdp⟩:=hx
 simp only[]at hway hpl hdp
 have hil0:=ZK hT (by rw[Qb];exact hl0) hway i (List.mem_cons_self ..)
 have hil:i<L9.length:=by rw[Qb]at hil0;omega
 have hnI:=hnl9 i hil
 have hwl:=XW hT (by rw[Qb];exact hl0) hway
 rw[Qb,List.length_cons]at hwl
 have hcl:=hB.cs i hil0
 rw[hnI]at hcl
 simp only[LNd.pl]at hcl
 refine aU9 ?_
 refine o_p (Qa rfl rfl rfl QE (i) om om rfl) rfl (Qm (show _=Value.pointer (some ⟨gn9,i*3,none⟩)from by rw[Nat.zero_add]) (aU ?_))
 refine o_q (Qn rfl rfl XN (λw h=>HS.nd_cell hil h aPk 2 rfl (by decide))) rfl (aU3 ?_)
 refine sCd rfl (λh8=>?_) λh8=>?_
 ·have hcl0:0<(nth L9 i).cs.length:=by have hq:=h8;omega
  have hkid:=QaS hT hil0 (i:=i) (k:=0) (by rw[hnI];exact hcl0)
  rw[hnI,Qb]at hkid
  simp only[LNd.pl]at hkid
  have hway2:=ZD hway hil0 (k:=0) (by rw[hnI];exact hcl0) (by rw[hnI];simp only[LNd.pl];omega)
  rw[hnI]at hway2
  have hwl2:=XW hT (by rw[Qb];exact hl0) hway2
  rw[Qb,List.length_cons,List.length_cons]at hwl2
  have hdm:=QgH (ns:=pln L) (f:=L.length-d) (i:=i) om (by rw[hnI];show¬(nth L9 i).cs.length=0;omega)
  rw[hnI]at hdm
  refine X0 (λw h=>HS.cs_some (i:=i) hil hcl0 h aPk) λhgc=>?_
  obtain⟨gc,hgc⟩:=hgc
  refine aT7 ?_
  refine YZ ?_
  refine o_p (Qa rfl rfl rfl QE (i) om om rfl) rfl (Qm (show _=Value.pointer (some ⟨gn9,i*3,none⟩)from by rw[Nat.zero_add]) (aU ?_))
  refine o_q (Qn rfl rfl XN (λw h=>HS.nd_cell hil h aPk 2 rfl (by decide))) rfl (o_p (Qa rfl rfl rfl QB (0) om om hgc) rfl (o_q (Qn rfl rfl Xq (λw h=>HS.cs_rd (k:=0) hil hcl0 hgc h aPk)) rfl (Qm (show _=Value.int .i64 (((nth L9 i).cs.getD 0 0).toNat:Int)from congrArg (Value.int .i64) (Int.toNat_of_nonneg (show 0<=(nth L9 i).cs.getD 0 0 by omega)).symm) (aU2 ?_))))
  exact QR (d+1,((nth L9 i).cs.getD 0 0).toNat,i::P) (by(try simp only[]);omega) ⟨hway2,by simp[hpl],by simp only[]at *;rw[show L.length-(d+1)=L.length-d-1 by omega];have h9:(nth L9 i).pl.cs=(nth L9 i).cs:=rfl;rw[h9]at hdm;omega⟩ aSx (λw h=>by have h2:=h;simp only[];rw[show(((d+1:Nat):Int)+1)=(d:Int)+1+1 by omega];exact h2.ent aEt)
 have hde:=QiZ (ns:=pln L) (f:=L.length-d) (i:=i) (by rw[hnI];show(nth L9 i).cs.length=0;have hq:=h8;omega)
 rw[hde,Int.add_zero]at hdp
 refine Qi rfl ?_
 refine aU6 ?_
 exact Qf (rs:=[.cell 2 81,.tmp 3]) rfl (.cell rfl QlA aPk rfl (.tmp rfl (.nil))) (λw' h'=>⟨by simp only[QV,shpV];rw[hnl,hdp];rfl,h'.below⟩)
end Go.Proofs
namespace Gx
open Go Go.RowKit
theorem QhH{ns:List Nd}{below:List Nat}:∀{f i:Nat},Z3 ns below f i=none->∀j,i<=j->j<i+f->(nth ns j).us=true->j∈below
 | 0,i,_,j,h1,h2,_=>by omega
 | f+1,i,h,j,h1,h2,hu=>by
  rw[Z3]at h;split at h
  ·cases h
  ·rename_i hn;rcases Nat.eq_or_lt_of_le h1 with e|e
   ·grind
   ·exact QhH h j e om hu
theorem Qj7{t:Tre}{deep:Int}:∀{vs:List Vis},(X8 t deep vs).2=0->∀v∈vs,Qcu t deep v=0
 | [],_,v,hv=>by cases hv
 | u::vs,h,v,hv=>by
  rw[X8]at h;split at h
  ·rename_i h1;rcases List.mem_cons.1 hv with e|e
   ·rw[e];exact h1
   ·exact Qj7 h v e
  grind
end Gx
namespace Gx
open Go Go.RowKit
inductive BT where
 | nd (i:Nat) (es:List TEnt) (ks:List BT)
namespace BT
def idx:BT->Nat|nd i _ _=>i
def es:BT->List TEnt|nd _ es _=>es
def ks:BT->List BT|nd _ _ ks=>ks
end BT
instance:Inhabited BT:=⟨.nd 0 [] []⟩
def Q8(ks:List BT):List Int:=ks.map λk=>(k.idx:Int)
theorem Qf5(a b:List BT):Q8 (a++b)=Q8 a++Q8 b:=by simp[Q8]
theorem ZF(a:BT)(b:List BT):Q8 (a::b)=(a.idx:Int)::Q8 b:=rfl
theorem X4(a:List BT):(Q8 a).length=a.length:=by simp[Q8]
theorem QkV(a:List BT)(n:Nat):Q8 (a.take n)=(Q8 a).take n:=by simp[Q8,List.map_take]
theorem QkM(a:List BT)(n:Nat):Q8 (a.drop n)=(Q8 a).drop n:=by simp[Q8,List.map_drop]
mutual
def BT.nodes:BT->List (Nat×Nd)
 | .nd i es ks=>(i,⟨true,es,Q8 ks⟩)::nodesL ks
def nodesL:List BT->List (Nat×Nd)
 | []=>[]
 | k::ks=>k.nodes++nodesL ks
end
mutual
def BT.flat:BT->List TEnt
 | .nd _ es ks=>flatL es ks
def flatL:List TEnt->List BT->List TEnt
 | es,[]=>es
 | [],k::ks=>k.flat++flatL [] ks
 | e::es,k::ks=>k.flat++e::flatL es ks
end
theorem QcN(a b:List BT):nodesL (a++b)=nodesL a++nodesL b:=by
 induction a with
 | nil=>rfl
 | cons x a ih=>rw[List.cons_append,nodesL,nodesL,ih,List.append_assoc]
structure RepN(ns:List Nd)(N:List (Nat×Nd)):Prop where
 get:∀p∈N,ns[p.1]?=some p.2
 nd:(N.map Prod.fst).Nodup
 rest:∀i,i<ns.length->i ∉ N.map Prod.fst->nth ns i=⟨false,[],[]⟩
section
variable{ns:List Nd}{N N':List (Nat×Nd)}{i:Nat}{x y:Nd}
theorem RepN.perm(h:RepN ns N)(hp:N.Perm N'):RepN ns N':=
 ⟨λp hp'=>h.get p (hp.mem_iff.2 hp'),(hp.map _).nodup_iff.1 h.nd,λi hi hn=>h.rest i hi λhm=>hn ((hp.map _).mem_iff.1 hm)⟩
theorem RepN.lt(h:RepN ns N){p:Nat×Nd}(hp:p∈N):p.1<ns.length:=(List.getElem?_eq_some_iff.1 (h.get p hp)).1
theorem RepN.head(h:RepN ns ((i,x)::N)):i<ns.length/\nth ns i=x:=⟨h.lt (List.mem_cons_self ..),QP (h.get _ (List.mem_cons_self ..))⟩
theorem RepN.at_(h:RepN ns N)(hp:(i,x)∈N):i<ns.length/\nth ns i=x:=⟨h.lt hp,QP (h.get _ hp)⟩
theorem RepN.set(h:RepN ns ((i,x)::N))(y:Nd):RepN (ns.set i y) ((i,y)::N):=by
 have hn:=List.nodup_cons.1 h.nd;refine⟨λp hp=>?_,h.nd,λj hj hm=>?_⟩
 ·rcases List.mem_cons.1 hp with rfl|hp
  ·exact List.getElem?_set_self h.head.1
  ·have hne:i≠p.1:=λe=>hn.1 (e▸List.mem_map.2 ⟨p,hp,rfl⟩);rw[List.getElem?_set_ne hne];exact h.get p (List.mem_cons_of_mem _ hp)
 ·have hne:i≠j:=λe=>hm (e▸List.mem_cons_self ..);rw[List.length_set]at hj;rw[<-h.rest j hj hm];exact QP (by rw[List.getElem?_set_ne hne];exact QY hj)
theorem RepN.es(h:RepN ns ((i,x)::N))(es:List TEnt):RepN (esN ns i es) ((i,{x with es:=es})::N):=by
 have:=h.set {x with es:=es};unfold esN;rw[h.head.2];exact this
theorem RepN.cs(h:RepN ns ((i,x)::N))(cs:List Int):RepN (csN ns i cs) ((i,{x with cs:=cs})::N):=by
 have:=h.set {x with cs:=cs};unfold csN;rw[h.head.2];exact this
theorem RepN.free(h:RepN ns N)(hu:∀p∈N,p.2.us=true):(QK ns).1 ∉ N.map Prod.fst/\RepN (QK ns).2 (((QK ns).1,⟨true,[],[]⟩)::N):=by
 have hnu:(QK ns).1 ∉ N.map Prod.fst:=λhm=>by
  obtain⟨p,hp,e⟩:=List.mem_map.1 hm;have h1:=h.at_ (i:=p.1) (x:=p.2) hp;exact Qew h1.1 (by rw[h1.2];exact hu p hp) e.symm
 refine⟨hnu,?_⟩;have hnd:((((QK ns).1,(⟨true,[],[]⟩:Nd))::N).map Prod.fst).Nodup:=List.nodup_cons.2 ⟨hnu,h.nd⟩
 have hget:∀p∈N,(QK ns).2[p.1]?=some p.2:=λp hp=>by
  have h1:=h.at_ (i:=p.1) (x:=p.2) hp;have h2:=QbE h1.1 (by rw[h1.2];exact hu p hp);rw[QY (Nat.lt_of_lt_of_le h1.1 (Qbv ns).1),h2,h1.2]
 have hown:nth (QK ns).2 (QK ns).1=⟨true,[],[]⟩:=by
  unfold QK at hnu ⊢;split
  ·rename_i hlt;rw[if_pos hlt]at hnu;simp only[]at hnu ⊢;unfold usN;rw[h.rest _ hlt hnu];exact QP (List.getElem?_set_self hlt)
  ·exact QP (by simp)
 refine⟨λp hp=>?_,hnd,λj hj hm=>?_⟩
 ·rcases List.mem_cons.1 hp with rfl|hp
  ·rw[QY (QeK ns),hown]
  ·exact hget p hp
 ·have hne:(QK ns).1≠j:=λe=>hm (e▸List.mem_cons_self ..);have hm2:j ∉ N.map Prod.fst:=λh9=>hm (List.mem_cons_of_mem _ h9);unfold QK at hj hne ⊢;split
  ·rename_i hlt;rw[if_pos hlt]at hj hne;simp only[QgU]at hj hne ⊢;rw[<-h.rest j hj hm2];exact QP (by unfold usN;rw[List.getElem?_set_ne hne];exact QY hj)
  ·rename_i hlt;rw[if_neg hlt]at hj hne;simp only[List.length_append,List.length_singleton]at hj hne ⊢;have hj2:j<ns.length:=by omega
   rw[<-h.rest j hj2 hm2];exact QP (by rw[List.getElem?_append_left hj2];exact QY hj2)
end
def Yj(N:List (Nat×Nd)):List Int:=N.flatMap λp=>p.2.cs
theorem QfV(A B:List (Nat×Nd)):Yj (A++B)=Yj A++Yj B:=List.flatMap_append
theorem Qby(p:Nat×Nd)(B:List (Nat×Nd)):Yj (p::B)=p.2.cs++Yj B:=List.flatMap_cons
theorem Qnw{cs:List Int}{n:Int}(h:n ∉ cs):¬ixB (Y7 cs n)<cs.length:=λhl=>by
 have h1:(Y7 cs n).getD (ixB (Y7 cs n)) false=true:=Qdt (by rw[Ym];exact hl);rw[QbT hl]at h1;refine h (of_decide_eq_true h1▸?_);rw[List.getD_eq_getElem?_getD,List.getElem?_eq_getElem hl];exact List.getElem_mem hl
theorem Qhz{A B:List Int}{n:Int}(h:n ∉ A):ixB (Y7 (A++n::B) n)=A.length:=by
 induction A with
 | nil=>
  show ixB (decide (n=n)::_)=0;simp[ixB]
 | cons a A ih=>
  have h1:n≠a:=λe=>h (e▸List.mem_cons_self ..);show ixB (decide (n=a)::Y7 (A++n::B) n)=_;rw[decide_eq_false h1];simp only[ixB,List.length_cons];rw[ih λhm=>h (List.mem_cons_of_mem _ hm)]
  first|rfl|simp
theorem Qkn{i:Nat}:∀{l:List Nd}{s p:Nat}{A B:List Int},p<l.length->(nth l p).cs=A++(i:Int)::B->(i:Int) ∉ A->(∀j,j<p->(i:Int) ∉ (nth l j).cs)->Xx i l s=(s+p,A.length)
 | [],s,p,A,B,hp,_,_,_=>absurd hp (Nat.not_lt_zero _)
 | n::l,s,0,A,B,hp,he,hA,_=>by
  have e:n.cs=A++(i:Int)::B:=he;rw[Xx,e,Qhz hA,if_pos (by simp)];rfl
 | n::l,s,p+1,A,B,hp,he,hA,hn=>by
  have hn0:(i:Int) ∉ n.cs:=hn 0 (Nat.succ_pos _);rw[Xx,if_neg (Qnw hn0),Qkn (l:=l) (s:=s+1) (p:=p) (by simpa using hp) he hA λj hj=>hn (j+1) om];congr 1;omega
theorem RepN.par{ns:List Nd}{N:List (Nat×Nd)}{p i:Nat}{x:Nd}{A B:List Int}(h:RepN ns ((p,x)::N))(hk:(Yj ((p,x)::N)).Nodup)(he:x.cs=A++(i:Int)::B):Xx i ns 0=(p,A.length):=by
 rw[Qby,he]at hk;have h1:=List.nodup_append.1 hk;have hA:(i:Int) ∉ A:=λhm=>(List.nodup_append.1 h1.1).2.2 _ hm _ (List.mem_cons_self ..) rfl;have h2:=h.head
 have:=Qkn (i:=i) (l:=ns) (s:=0) (p:=p) h2.1 (by rw[h2.2];exact he) hA λj hj hm=>by
  by_cases hjm:j∈N.map Prod.fst
  ·obtain⟨q,hq,e⟩:=List.mem_map.1 hjm;have h3:=h.at_ (i:=q.1) (x:=q.2) (List.mem_cons_of_mem _ hq);rw[e]at h3;rw[h3.2]at hm;exact h1.2.2 (i:Int) (by simp) (i:Int) (List.mem_flatMap.2 ⟨q,hq,hm⟩) rfl
  ·have h3:=h.rest j om (λh9=>by
    rcases List.mem_cons.1 h9 with e|h9
    ·have:j=p:=e;omega
    ·exact hjm h9)
   rw[h3]at hm;cases hm
 rw[this,Nat.zero_add]
mutual
theorem QcZ:∀T:BT,(((T.idx:Nat):Int)::Yj T.nodes).Perm (T.nodes.map λp=>((p.1:Nat):Int))
 | .nd i es ks=>by
  rw[BT.nodes,Qby,List.map_cons];exact List.Perm.cons _ (kids_nodesL ks)
theorem kids_nodesL:∀ks:List BT,(Q8 ks++Yj (nodesL ks)).Perm ((nodesL ks).map λp=>((p.1:Nat):Int))
 | []=>.refl _
 | k::ks=>by
  rw[nodesL,QfV,List.map_append,ZF,List.cons_append];have h1:=QcZ k;have h2:=kids_nodesL ks
  have h3:((k.idx:Int)::(Q8 ks++(Yj k.nodes++Yj (nodesL ks)))).Perm (((k.idx:Int)::Yj k.nodes)++(Q8 ks++Yj (nodesL ks))):=by
   rw[List.cons_append];refine List.Perm.cons _ ?_;rw[<-List.append_assoc,<-List.append_assoc];exact List.perm_append_comm.append_right _
  exact h3.trans (h1.append h2)
end
theorem Qqn{l:List (Nat×Nd)}(h:(l.map Prod.fst).Nodup):(l.map λp=>((p.1:Nat):Int)).Nodup:=by
 have e:(l.map λp=>((p.1:Nat):Int))=(l.map Prod.fst).map λn:Nat=>(n:Int):=by simp
 rw[e];exact List.Pairwise.map _ (λa b hab e=>hab om) h
theorem QjG{T:BT}(h:(T.nodes.map Prod.fst).Nodup):(Yj T.nodes).Nodup:=(List.nodup_cons.1 ((QcZ T).nodup_iff.2 (Qqn h))).2
mutual
theorem ZW:∀T:BT,∀p∈T.nodes,p.2.us=true
 | .nd i es ks=>λp hp=>by
  rw[BT.nodes]at hp;rcases List.mem_cons.1 hp with rfl|hp
  ·rfl
  ·exact nodesL_us ks p hp
theorem nodesL_us:∀ks:List BT,∀p∈nodesL ks,p.2.us=true
 | []=>λp hp=>(nomatch hp)
 | k::ks=>λp hp=>by
  rw[nodesL]at hp;rcases List.mem_append.1 hp with hp|hp
  ·exact ZW k p hp
  ·exact nodesL_us ks p hp
end
structure Fr where
 i:Nat
 es:List TEnt
 l:List BT
 r:List BT
instance:Inhabited Fr:=⟨⟨0,[],[],[]⟩⟩
def Fr.fill(f:Fr)(T:BT):BT:=.nd f.i f.es (f.l++T::f.r)
def plug:List Fr->BT->BT
 | [],T=>T
 | f::C,T=>plug C (f.fill T)
def Fr.nodes(f:Fr)(h:Nat):List (Nat×Nd):=(f.i,⟨true,f.es,Q8 f.l++(h:Int)::Q8 f.r⟩)::(nodesL f.l++nodesL f.r)
def Xn:List Fr->Nat->List (Nat×Nd)
 | [],_=>[]
 | f::C,h=>f.nodes h++Xn C f.i
theorem Qjl(f:Fr)(T:BT):(f.fill T).nodes.Perm (f.nodes T.idx++T.nodes):=by
 unfold Fr.fill Fr.nodes;rw[BT.nodes,QcN,nodesL,Qf5,ZF,List.cons_append];refine List.Perm.cons _ ?_;rw[List.append_assoc];exact List.Perm.append_left _ List.perm_append_comm
theorem ZL:∀(C:List Fr)(T:BT),(plug C T).nodes.Perm (Xn C T.idx++T.nodes)
 | [],T=>.refl _
 | f::C,T=>by
  refine(ZL C (f.fill T)).trans ?_;show(Xn C f.i++(f.fill T).nodes).Perm (f.nodes T.idx++Xn C f.i++T.nodes);refine((Qjl f T).append_left _).trans ?_;rw[<-List.append_assoc];exact List.perm_append_comm.append_right _
theorem Qmk(C D:List Fr)(T:BT):plug (C++D) T=plug D (plug C T):=by
 induction C generalizing T with
 | nil=>rfl
 | cons f C ih=>exact ih _
def Xc(ns:List Nd)(T:BT):Prop:=RepN ns T.nodes
theorem Xc.plug{ns:List Nd}{C:List Fr}{T:BT}(h:Xc ns (plug C T)):RepN ns (Xn C T.idx++T.nodes):=RepN.perm h (ZL C T)
theorem Xc.of_plug{ns:List Nd}{C:List Fr}{T:BT}(h:RepN ns (Xn C T.idx++T.nodes)):Xc ns (Gx.plug C T):=RepN.perm h (ZL C T).symm
theorem Xc.at_{ns:List Nd}{C:List Fr}{T:BT}(h:Xc ns (Gx.plug C T)):T.idx<ns.length/\nth ns T.idx=⟨true,T.es,Q8 T.ks⟩:=by
 cases T with
 | nd i es ks=>exact RepN.at_ h.plug (List.mem_append_right _ (by rw[BT.nodes];exact List.mem_cons_self ..))
theorem Qg5{α:Type}[BEq α][LawfulBEq α]{a b:List α}(h:∀x,a.count x=b.count x):a.Perm b:=List.perm_iff_count.2 h
theorem Qnc{α:Type}[BEq α](l:List α)(n:Nat)(x:α):l.count x=(l.take n).count x+(l.drop n).count x:=by
 rw[<-List.count_append,List.take_append_drop]
theorem QgR(ks:List BT)(n:Nat):nodesL ks=nodesL (ks.take n)++nodesL (ks.drop n):=by
 rw[<-QcN,List.take_append_drop]
theorem QfY(l r:List BT)(i own:Nat):QF (Q8 l++(i:Int)::Q8 r) (l.length+1) (own:Int)=Q8 l++(i:Int)::(own:Int)::Q8 r:=by
 unfold QF;rw[List.take_append,List.drop_append,X4,List.take_of_length_le (by rw[X4];omega),List.drop_of_length_le (by rw[X4];omega),show l.length+1-l.length=1 by omega];simp
section
variable{ns:List Nd}{mo rm:Int}{f:Fr}{C:List Fr}{i:Nat}{es:List TEnt}{ks:List BT}
theorem Ql6{T:BT}(h:Xc ns T):(Yj T.nodes).Nodup:=QjG h.nd
theorem Qiq(h:Xc ns (plug C (.nd i es ks))):(QK ns).1 ∉ (plug C (.nd i es ks)).nodes.map Prod.fst /\
  RepN (splA mo ns i) ((i,⟨true,es.take (Qv mo),(Q8 ks).take (Qv mo+1)⟩)::((QK ns).1,⟨true,es.drop (Qv mo+1),(Q8 ks).drop (Qv mo+1)⟩)::(Xn C i++nodesL ks)):=by
 have hf:=RepN.free h (ZW _);refine⟨hf.1,?_⟩
 have h1:=hf.2.perm (N':=((QK ns).1,⟨true,[],[]⟩)::(i,⟨true,es,Q8 ks⟩)::(Xn C i++nodesL ks)) (List.Perm.cons _ ((ZL C (.nd i es ks)).trans (by
  show(Xn C i++(BT.nd i es ks).nodes).Perm _;rw[BT.nodes];exact List.perm_middle)))
 have h2:=h1.perm (List.Perm.swap ..);have hi:=h2.head;have h3:=((h1.es (es.drop (Qv mo+1))).perm (List.Perm.swap ..)).es (es.take (Qv mo));unfold splA;rw[hi.2];simp only[];split
 ·rename_i h0;have h0':Q8 ks=[]:=List.eq_nil_of_length_eq_zero h0;rw[h0']at h3;rw[h0',List.take_nil,List.drop_nil];exact h3
 ·have h4:=(h3.perm (List.Perm.swap ..)).cs ((Q8 ks).drop (Qv mo+1));exact(h4.perm (List.Perm.swap ..)).cs ((Q8 ks).take (Qv mo+1))
theorem QgM(h:Xc ns (plug C (.nd i es ks))):(Yj ((i,(⟨true,es.take (Qv mo),(Q8 ks).take (Qv mo+1)⟩:Nd))::((QK ns).1,⟨true,es.drop (Qv mo+1),(Q8 ks).drop (Qv mo+1)⟩)::(Xn C i++nodesL ks))).Nodup:=by
 have h1:=((ZL C (.nd i es ks)).flatMap_right (λp:Nat×Nd=>p.2.cs)).nodup_iff.1 (Ql6 h);refine(List.Perm.nodup_iff ?_).1 h1;rw[BT.nodes];show(Yj (Xn C i++(i,⟨true,es,Q8 ks⟩)::nodesL ks)).Perm _;refine Qg5 λx=>?_;simp only[Qby,QfV,List.count_append,Qnc (Q8 ks) (Qv mo+1) x];omega
theorem Qaz(h:Xc ns (plug (f::C) (.nd i es ks))) :
  (QK ns).1 ∉ (plug (f::C) (.nd i es ks)).nodes.map Prod.fst/\Xx (i:Int) (splA mo ns i) 0=(f.i,f.l.length) /\
  Xc (Qak mo ns i) (plug C (.nd f.i (QF f.es f.l.length (nth es (Qv mo))) (f.l++.nd i (es.take (Qv mo)) (ks.take (Qv mo+1))::.nd (QK ns).1 (es.drop (Qv mo+1)) (ks.drop (Qv mo+1))::f.r))):=by
 obtain⟨h0,h1⟩:=Qiq (mo:=mo) h;have hk:=QgM (mo:=mo) h
 have hp:(((i,(⟨true,es.take (Qv mo),(Q8 ks).take (Qv mo+1)⟩:Nd))::((QK ns).1,⟨true,es.drop (Qv mo+1),(Q8 ks).drop (Qv mo+1)⟩)::(Xn (f::C) i++nodesL ks))).Perm
   ((f.i,⟨true,f.es,Q8 f.l++(i:Int)::Q8 f.r⟩)::(i,(⟨true,es.take (Qv mo),(Q8 ks).take (Qv mo+1)⟩:Nd))::((QK ns).1,⟨true,es.drop (Qv mo+1),(Q8 ks).drop (Qv mo+1)⟩)::(nodesL f.l++nodesL f.r++Xn C f.i++nodesL ks)):=by
  refine Qg5 λx=>?_;simp only[Xn,Fr.nodes,List.count_append,List.count_cons,List.cons_append];omega
 have h2:=h1.perm hp;have hpar:=h2.par ((hp.flatMap_right (λp:Nat×Nd=>p.2.cs)).nodup_iff.1 hk) rfl;rw[X4]at hpar;refine⟨h0,hpar,?_⟩;unfold Qak;rw[hpar]
 have hi:nth (nth (QK ns).2 i).es (Qv mo)=nth es (Qv mo):=by
  have h4:i<ns.length/\nth ns i=⟨true,es,Q8 ks⟩:=Xc.at_ (T:=.nd i es ks) h;rw[QbE h4.1 (by rw[h4.2]),h4.2]
 rw[hi];unfold addP;simp only[];have h5:=h2.head;have h6:=(h2.es (QF f.es f.l.length (nth es (Qv mo)))).cs (QF (Q8 f.l++(i:Int)::Q8 f.r) (f.l.length+1) ((QK ns).1:Int));rw[QfY]at h6;rw[h5.2];simp only[];rw[QfY];refine Xc.of_plug (h6.perm ?_);show List.Perm _ (Xn C f.i++BT.nodes _);rw[BT.nodes,QcN,nodesL,nodesL,BT.nodes,BT.nodes,Qf5,ZF,ZF,QkV,QkM];refine Qg5 λx=>?_;simp only[List.count_append,List.count_cons,List.cons_append,QgR ks (Qv mo+1),BT.idx];omega
end
theorem Qn8{ns:List Nd}{es:List TEnt}{ks:List BT}(h:Xc ns (.nd 0 es ks)):(QK ns).1 ∉ (BT.nd 0 es ks).nodes.map Prod.fst/\Xc (XU ns).2 (.nd 0 [] [.nd (QK ns).1 es ks]):=by
 have hf:=RepN.free h (ZW _);refine⟨hf.1,?_⟩;have h0:=Xc.at_ (C:=[]) h;unfold XU;rw[show nth ns 0=nth ns (BT.nd 0 es ks).idx from rfl,h0.2];simp only[BT.es,BT.ks]
 have h1:RepN (QK ns).2 (((QK ns).1,⟨true,[],[]⟩)::(0,⟨true,es,Q8 ks⟩)::nodesL ks):=by
  have:=hf.2;rw[BT.nodes]at this;exact this
 have h2:=(((h1.es es).cs (Q8 ks)).perm (List.Perm.swap ..)).es [];have h3:=h2.cs [((QK ns).1:Int)];refine RepN.perm h3 ?_;rw[BT.nodes,nodesL,BT.nodes,nodesL,List.append_nil];exact .refl _
def Bal(lo hi:Nat):Nat->BT->Prop
 | 0,T=>T.ks=[]/\lo<=T.es.length/\T.es.length<=hi
 | d+1,T=>(T.ks.length=T.es.length+1/\∀k∈T.ks,Bal lo hi d k)/\lo<=T.es.length/\T.es.length<=hi
def Bel(lo hi:Nat):Nat->BT->Prop
 | 0,T=>T.ks=[]
 | d+1,T=>T.ks.length=T.es.length+1/\∀k∈T.ks,Bal lo hi d k
theorem Zk{lo hi d:Nat}{T:BT}:Bal lo hi d T ↔ Bel lo hi d T/\lo<=T.es.length/\T.es.length<=hi:=by
 cases d<;>simp only[Bal,Bel]
theorem Bel.cs{lo hi d:Nat}{T:BT}(h:Bel lo hi d T):T.ks=[]\/T.ks.length=T.es.length+1:=by
 cases d with
 | zero=>exact .inl h
 | succ d=>exact .inr h.1
theorem Bel.leaf{lo hi d:Nat}{T:BT}(h:Bel lo hi d T)(hk:T.ks=[]):d=0:=by
 cases d with
 | zero=>rfl
 | succ d=>
  have:=h.1;rw[hk]at this;simp at this
def ZH(lo hi rt:Nat):Nat->List Fr->Prop
 | _,[]=>True
 | d,f::C=>((∀k∈f.l,Bal lo hi d k)/\(∀k∈f.r,Bal lo hi d k))/\f.l.length+f.r.length=f.es.length/\((C=[]->f.es.length<=rt)/\(C≠[]->lo<=f.es.length/\f.es.length<=hi))/\ZH lo hi rt (d+1) C
theorem QlI{lo hi rt d:Nat}{f:Fr}{C:List Fr}{T:BT}(hC:ZH lo hi rt d (f::C))(h:Bal lo hi d T):Bel lo hi (d+1) (f.fill T):=by
 refine⟨?_,λk hk=>?_⟩
 ·show(f.l++T::f.r).length=f.es.length+1;have:=hC.2.1;simp only[List.length_append,List.length_cons];omega
 ·rcases List.mem_append.1 hk with hk|hk
  ·exact hC.1.1 k hk
  ·rcases List.mem_cons.1 hk with rfl|hk
   ·exact h
   ·exact hC.1.2 k hk
theorem XC(es:List TEnt):flatL es []=es:=by cases es<;>rfl
theorem QdW(i:Nat)(es:List TEnt):(BT.nd i es []).flat=es:=by rw[BT.flat,XC]
def Zd:List TEnt->List BT->List TEnt
 | e::es,k::ks=>k.flat++e::Zd es ks
 | _,_=>[]
def Qf4:List TEnt->List BT->List TEnt
 | e::es,k::ks=>e::(k.flat++Qf4 es ks)
 | _,_=>[]
theorem Qef:∀(es:List TEnt)(T:BT)(r:List BT),r.length=es.length->flatL es (T::r)=T.flat++Qf4 es r
 | [],T,[],_=>by
  rw[flatL,XC];rfl
 | [],T,k::r,h=>absurd h (by simp)
 | e::es,T,[],h=>absurd h (by simp)
 | e::es,T,k::r,h=>by
  rw[flatL,Qef es k r (by simpa using h)];rfl
theorem Qb7:∀(l:List BT)(es:List TEnt)(T:BT)(r:List BT),l.length+r.length=es.length->flatL es (l++T::r)=Zd es l++(T.flat++Qf4 (es.drop l.length) r)
 | [],es,T,r,h=>by
  have e:Zd es []=[]:=by cases es<;>rfl
  rw[e];exact Qef es T r (by simpa using h)
 | k::l,[],T,r,h=>absurd h (by simp only[List.length_cons,List.length_nil];omega)
 | k::l,e::es,T,r,h=>by
  rw[List.cons_append,flatL,Qb7 l es T r (by simp only[List.length_cons]at h;omega),Zd,List.length_cons,List.drop_succ_cons];simp only[List.append_assoc,List.cons_append]
theorem QdT:∀(a b:List TEnt)(l:List BT),l.length<=a.length->Zd (a++b) l=Zd a l
 | a,b,[],_=>by
  have e:∀c:List TEnt,Zd c []=[]:=λc=>by cases c<;>rfl
  rw[e,e]
 | [],b,k::l,h=>absurd h (by simp)
 | x::a,b,k::l,h=>by
  rw[List.cons_append,Zd,Zd,QdT a b l (by simpa using h)]
theorem Qjt{es:List TEnt}{l:List BT}(h:l.length<=es.length):Zd (es.take l.length) l=Zd es l:=by
 have:=QdT (es.take l.length) (es.drop l.length) l (by rw[List.length_take];omega);rw[List.take_append_drop]at this;exact this.symm
theorem QkX{l r:List BT}{es:List TEnt}{A B:BT}{up:TEnt}(h:l.length+r.length=es.length):flatL (QF es l.length up) (l++A::B::r)=Zd es l++((A.flat++up::B.flat)++Qf4 (es.drop l.length) r):=by
 have hl:(es.take l.length).length=l.length:=by rw[List.length_take];omega
 rw[Qb7 l _ A (B::r) (by rw[YB om,List.length_cons];omega)];unfold QF;rw[QdT _ _ _ om,Qjt om,List.drop_append,List.drop_of_length_le (by omega:(es.take l.length).length<=l.length),hl,Nat.sub_self,List.nil_append,List.drop_zero];show Zd es l++(A.flat++(up::(B.flat++Qf4 (es.drop l.length) r)))=_;simp only[List.append_assoc,List.cons_append]
theorem Qee:∀(m:Nat)(es:List TEnt)(ks:List BT),m<es.length->(ks=[]\/ks.length=es.length+1)->flatL (es.take m) (ks.take (m+1))++nth es m::flatL (es.drop (m+1)) (ks.drop (m+1))=flatL es ks
 | m,es,[],h,_=>by
  rw[List.take_nil,List.drop_nil,XC,XC,XC];have e:nth es m=es[m]:=QP (List.getElem?_eq_getElem h);rw[e,<-List.drop_eq_getElem_cons h,List.take_append_drop]
 | m,[],k::ks,h,_=>absurd h (by simp)
 | 0,e::es,k::ks,h,h2=>by
  rw[List.take_zero,List.take_succ_cons,List.take_zero,flatL,XC,List.drop_succ_cons,List.drop_zero,List.drop_succ_cons,List.drop_zero,flatL,List.append_nil];rfl
 | m+1,e::es,k::ks,h,h2=>by
  have hk:ks.length=es.length+1:=by
   rcases h2 with h2|h2
   ·cases h2
   ·simpa using h2
  rw[List.take_succ_cons,List.take_succ_cons,flatL,List.drop_succ_cons,List.drop_succ_cons,flatL];have:=Qee m es ks (by simpa using h) (.inr hk);show k.flat++e::flatL (es.take m) (ks.take (m+1))++nth es m::flatL (es.drop (m+1)) (ks.drop (m+1))=_;rw[<-this];simp only[List.append_assoc,List.cons_append]
def QgY:List Fr->List TEnt
 | []=>[]
 | f::C=>QgY C++Zd f.es f.l
def Qhi:List Fr->List TEnt
 | []=>[]
 | f::C=>Qf4 (f.es.drop f.l.length) f.r++Qhi C
theorem ZE{lo hi rt:Nat}:∀{C:List Fr}{d:Nat}{T:BT},ZH lo hi rt d C->(plug C T).flat=QgY C++(T.flat++Qhi C)
 | [],d,T,_=>by
  show T.flat=[]++(T.flat++[]);simp
 | f::C,d,T,hC=>by
  show(plug C (f.fill T)).flat=_;rw[ZE (C:=C) hC.2.2.2];show QgY C++((BT.nd f.i f.es (f.l++T::f.r)).flat++Qhi C)=_;rw[BT.flat,Qb7 f.l f.es T f.r hC.2.1];simp only[QgY,Qhi,List.append_assoc]
theorem Qfi:∀(C:List Fr)(T T':BT),T.idx=T'.idx->(plug C T).idx=(plug C T').idx
 | [],T,T',h=>h
 | f::C,T,T',_=>Qfi C (f.fill T) (f.fill T') rfl
theorem Qj5:∀(C:List Fr)(T:BT)(h:Nat),C≠[]->(plug C T).idx∈(Xn C h).map Prod.fst
 | [],T,h,hne=>absurd rfl hne
 | [f],T,h,_=>by
  show f.i∈_;simp[Xn,Fr.nodes]
 | f::g::C,T,h,_=>by
  have:=Qj5 (g::C) (f.fill T) f.i (by simp);show(plug (g::C) (f.fill T)).idx∈_;rw[Xn,List.map_append];exact List.mem_append_right _ this
theorem BT.idx_mem(T:BT):T.idx∈T.nodes.map Prod.fst:=by
 cases T with
 | nd i es ks=>
  rw[BT.nodes];exact List.mem_cons_self ..
theorem Qom{ns:List Nd}{C:List Fr}{T:BT}(h:Xc ns (plug C T))(hC:C≠[]):T.idx≠(plug C T).idx:=λe=>by
 have h1:=h.plug.nd;rw[List.map_append]at h1;exact(List.nodup_append.1 h1).2.2 _ (e▸Qj5 C T T.idx hC) _ T.idx_mem rfl
theorem QqT{ns:List Nd}{C:List Fr}{i:Nat}{es:List TEnt}{ks:List BT}(h:Xc ns (plug C (.nd i es ks)))(es':List TEnt):Xc (esN ns i es') (plug C (.nd i es' ks)):=by
 refine Xc.of_plug ?_;have h1:=h.plug;rw[BT.nodes]at h1 ⊢;have h2:=(h1.perm List.perm_middle).es es';exact h2.perm List.perm_middle.symm
theorem Qh9(ns:List Nd):∀f i j,i<=j->j<Qbi ns f i->(nth ns j).us=true
 | 0,i,j,h,h2=>by
  rw[Qbi]at h2;omega
 | f+1,i,j,h,h2=>by
  rw[Qbi]at h2;split at h2
  ·split at h2
   ·rcases Nat.eq_or_lt_of_le h with rfl|h3
    ·assumption
    ·exact Qh9 ns f (i+1) j h3 h2
   ·omega
  ·omega
theorem Qi4{ns:List Nd}{j:Nat}(h:j<XA ns)(hl:j<ns.length):(nth ns j).us=true:=by
 have h1:=QdA (l:=ns.map λn=>!n.us) h;rw[YL (d:=default) hl]at h1;show(ns.getD j default).us=true
 simpa using h1
theorem Qn6{ns:List Nd}(h0:0<ns.length)(hu:(nth ns 0).us=true)(hb:∀i,i<ns.length->(nth ns i).us=false->nth ns i=⟨false,[],[]⟩):Xb ns=QK ns:=by
 have hle:XA ns<=ns.length:=by
  have:=QeZ (ns.map λn=>!n.us);rw[List.length_map]at this;exact this
 have hfl:QcL ns<=ns.length:=Qkm ns _ 1 h0;have hge:1<=QcL ns:=Qg8 ns _ 1
 have e:QcL ns=XA ns:=by
  rcases Nat.lt_trichotomy (QcL ns) (XA ns)with h|h|h
  ·have h1:=Qhp ns ns.length 1 (by show QcL ns<_;omega) om;have h2:=Qi4 (ns:=ns) h om;rw[show Qbi ns ns.length 1=QcL ns from rfl,h2]at h1;cases h1
  ·exact h
  ·have h1:=Qd0 (ns:=ns) om
   have h2:1<=XA ns:=by
    rcases Nat.eq_zero_or_pos (XA ns)with h3|h3
    ·rw[h3,hu]at h1;cases h1
    ·exact h3
   have h3:=Qh9 ns ns.length 1 (XA ns) h2 h;rw[h3]at h1;cases h1
 unfold Xb QK;rw[e];split
 ·rename_i h;unfold usN;rw[hb _ h (Qd0 h)]
 ·rfl
theorem Xc.blank{ns:List Nd}{T:BT}(h:Xc ns T){i:Nat}(hi:i<ns.length)(hu:(nth ns i).us=false):nth ns i=⟨false,[],[]⟩:=by
 by_cases hm:i∈T.nodes.map Prod.fst
 ·obtain⟨p,hp,rfl⟩:=List.mem_map.1 hm;have h1:=RepN.at_ (i:=p.1) (x:=p.2) h hp;rw[h1.2,ZW T p hp]at hu;cases hu
 ·exact h.rest i hi hm
theorem Xc.root{ns:List Nd}{T:BT}(h:Xc ns T):T.idx<ns.length/\nth ns T.idx=⟨true,T.es,Q8 T.ks⟩:=Xc.at_ (C:=[]) h
theorem Xc.frs{ns:List Nd}{T:BT}(h:Xc ns T)(h0:T.idx=0):Xb ns=QK ns:=by
 have h1:=h.root;rw[h0]at h1;exact Qn6 h1.1 (by rw[h1.2]) λi hi hu=>h.blank hi hu
def QjT(co:Int)(key:List UInt8)(C:List Fr):Prop:=∀f∈C,f.l.length=plc co f.es key/\¬fnd co f.es key=true
theorem Qh4{α:Type}[Inhabited α](l:List α)(x:α)(r:List α):nth (l++x::r) l.length=x:=QP (by simp)
theorem QmE{α:Type}(l:List α)(x d:α)(r:List α):(l++x::r).getD l.length d=x:=by simp
theorem BT.eta(T:BT):T=.nd T.idx T.es T.ks:=by cases T;rfl
theorem QlF{α:Type}[Inhabited α]{ks:List α}{p:Nat}(h:p<ks.length):ks=ks.take p++nth ks p::ks.drop (p+1):=by
 have e:nth ks p=ks[p]:=QP (List.getElem?_eq_getElem h);rw[e,<-List.drop_eq_getElem_cons h,List.take_append_drop]
theorem desc{co:Int}{ns:List Nd}{key:List UInt8}{lo hi rt:Nat}:∀(f d:Nat)(C:List Fr)(T:BT),Xc ns (plug C T)->ZH lo hi rt d C->Bel lo hi d T->((C=[]->T.es.length<=rt)/\(C≠[]->lo<=T.es.length/\T.es.length<=hi))->d<f ->
  ∃D T' d',plug D T'=T/\ZH lo hi rt d' (D++C)/\Bel lo hi d' T'/\((D++C=[]->T'.es.length<=rt)/\(D++C≠[]->lo<=T'.es.length/\T'.es.length<=hi))/\d'+D.length=d /\
   (Zu co ns key f T.idx).1=(D.map Fr.i).reverse++[T'.idx]/\(Zu co ns key f T.idx).2=(plc co T'.es key,fnd co T'.es key)/\(fnd co T'.es key=true\/T'.ks=[])/\QjT co key D
 | 0,d,C,T,_,_,_,_,h=>absurd h (Nat.not_lt_zero _)
 | f+1,d,C,T,hR,hC,hB,hb,hd=>by
  have hat:=hR.at_;have hes:(nth ns T.idx).es=T.es:=by rw[hat.2]
  have hcs:(nth ns T.idx).cs=Q8 T.ks:=by rw[hat.2]
  rw[Zu,hes,hcs,X4]
  by_cases h1:fnd co T.es key=true\/T.ks.length=0
  ·rw[if_pos h1];exact⟨[],T,d,rfl,hC,hB,hb,by simp,rfl,rfl,h1.imp id λh=>List.eq_nil_of_length_eq_zero h,λf hf=>(nomatch hf)⟩
  ·rw[if_neg h1];have hk:¬T.ks.length=0:=λh=>h1 (.inr h)
   obtain⟨d',rfl⟩:∃d',d=d'+1:=by
    cases d with
    | zero=>exact absurd (show T.ks.length=0 by rw[show T.ks=[]from hB];rfl) hk
    | succ d'=>exact⟨d',rfl⟩
   have hp:plc co T.es key<T.ks.length:=by
    have:=ZJ co key T.es;have:=hB.1;omega
   have hsp:=QlF hp;generalize hl:T.ks.take (plc co T.es key)=l at hsp;generalize hr:T.ks.drop (plc co T.es key+1)=r at hsp;generalize hK:nth T.ks (plc co T.es key)=K at hsp;have hll:l.length=plc co T.es key:=by rw[<-hl,List.length_take];omega
   have hT:T=Fr.fill ⟨T.idx,T.es,l,r⟩ K:=by
    have:=T.eta;rw[hsp]at this;exact this
   have hbal:∀k∈T.ks,Bal lo hi d' k:=hB.2;have hBK:Bal lo hi d' K:=hbal K (by rw[hsp];simp)
   have hci:((Q8 T.ks).getD (plc co T.es key) 0).toNat=K.idx:=by
    rw[hsp,Qf5,ZF,<-hll,<-X4 l,QmE];rfl
   rw[hci]
   have hctx:ZH lo hi rt d' (⟨T.idx,T.es,l,r⟩::C):=⟨⟨λk hk=>hbal k (by rw[hsp];simp[hk]),λk hk=>hbal k (by rw[hsp];simp[hk])⟩,by
    show l.length+r.length=T.es.length;have h9:=hB.1;rw[hsp]at h9;simp only[List.length_append,List.length_cons]at h9;omega,hb,hC⟩
   have hb2:=Zk.1 hBK
   obtain⟨D,T',d9,e1,e2,e3,e4,e5,e6,e7,e8,e9⟩:=desc f d' (⟨T.idx,T.es,l,r⟩::C) K (by
    show Xc ns (plug C (Fr.fill _ K));rw[<-hT];exact hR) hctx hb2.1 ⟨λh=>(nomatch h),λ_=>hb2.2⟩ om
   refine⟨D++[⟨T.idx,T.es,l,r⟩],T',d9,?_,?_,e3,?_,?_,?_,e7,e8,λg hg=>?_⟩
   ·rw[Qmk,e1];exact hT.symm
   ·rw[List.append_assoc];exact e2
   ·rw[List.append_assoc];exact e4
   ·simp only[List.length_append,List.length_singleton];omega
   ·rw[e6];simp
   ·rcases List.mem_append.1 hg with hg|hg
    ·exact e9 g hg
    ·rcases List.mem_singleton.1 hg;exact⟨hll,λh=>h1 (.inl h)⟩
theorem QfD{k:BT}:∀{ks:List BT},k∈ks->k.nodes.length<=(nodesL ks).length
 | [],h=>(nomatch h)
 | x::ks,h=>by
  rw[nodesL,List.length_append];rcases List.mem_cons.1 h with rfl|h
  ·omega
  ·have:=QfD (ks:=ks) h;omega
theorem QgA(T:BT):T.nodes.length=(nodesL T.ks).length+1:=by
 cases T with
 | nd i es ks=>rw[BT.nodes,List.length_cons];rfl
theorem QiV{lo hi:Nat}:∀{d:Nat}{T:BT},Bel lo hi d T->d+1<=T.nodes.length
 | 0,T,_=>by
  rw[QgA];omega
 | d+1,T,h=>by
  obtain⟨k,ks,e⟩:∃k ks,T.ks=k::ks:=by
   cases hk:T.ks with
   | nil=>
    have:=h.1;rw[hk]at this;simp at this
   | cons k ks=>exact⟨k,ks,rfl⟩
  have hm:k∈T.ks:=by rw[e];exact List.mem_cons_self ..
  have h1:=QiV (Zk.1 (h.2 k hm)).1;have h2:=QfD hm;rw[QgA];omega
theorem Xc.nlen{ns:List Nd}{T:BT}(h:Xc ns T):T.nodes.length<=ns.length:=by
 have:=Qfa ns.length (T.nodes.map Prod.fst) h.nd λx hx=>by
  obtain⟨p,hp,rfl⟩:=List.mem_map.1 hx;exact RepN.lt h hp
 rwa[List.length_map]at this
section
variable{ns:List Nd}{mo:Int}{f:Fr}{C:List Fr}{i:Nat}{es:List TEnt}{ks:List BT}
theorem Qi7(h:Xc ns (plug (f::C) (.nd i es ks))):f.i<(splA mo ns i).length/\nth (splA mo ns i) f.i=⟨true,f.es,Q8 f.l++(i:Int)::Q8 f.r⟩/\(i:Int) ∉ Q8 f.l:=by
 have h1:=(Qiq (mo:=mo) h).2;have hk:=QgM (mo:=mo) h
 have hm:(f.i,(⟨true,f.es,Q8 f.l++(i:Int)::Q8 f.r⟩:Nd))∈((i,(⟨true,es.take (Qv mo),(Q8 ks).take (Qv mo+1)⟩:Nd))::((QK ns).1,⟨true,es.drop (Qv mo+1),(Q8 ks).drop (Qv mo+1)⟩)::(Xn (f::C) i++nodesL ks)):=by
  refine List.mem_cons_of_mem _ (List.mem_cons_of_mem _ (List.mem_append_left _ ?_));rw[Xn,Fr.nodes];exact List.mem_cons_self ..
 have h2:=h1.at_ hm;refine⟨h2.1,h2.2,λhi=>?_⟩;have h3:=(List.pairwise_flatMap.1 hk).1 _ hm;exact(List.nodup_append.1 h3).2.2 _ hi _ (List.mem_cons_self ..) rfl
theorem Qj0(h:Xc ns (plug (f::C) (.nd i es ks)))(h0:(plug (f::C) (.nd i es ks)).idx=0):Qi0 mo ns f.i i=Qak mo ns i:=by
 have hA:splRA mo ns i=splA mo ns i:=by
  unfold splRA splA;rw[h.frs h0]
 have h1:=Qi7 (mo:=mo) h;have h2:=(Qaz (mo:=mo) h).2.1;unfold Qi0 Qak;rw[hA,h2,h1.2.1,h.frs h0];simp only[];have h3:=Qhz (B:=Q8 f.r) h1.2.2;unfold ixR;rw[h3,if_pos (by simp),X4]
theorem Qmj{lo hi rt d:Nat}(h:Xc ns (plug (f::C) (.nd i es ks)))(hC:ZH lo hi rt d (f::C))(hB:Bel lo hi d (.nd i es ks))(hmo:0<=mo/\mo<=1000)(hlen:ns.length<=900)(hsm:Sm 900 ns)(hes:Qv mo<es.length):SpOk mo ns i:=by
 have hat:i<ns.length/\nth ns i=⟨true,es,Q8 ks⟩:=Xc.at_ (T:=.nd i es ks) h;have h1:=Qi7 (mo:=mo) h;have h2:=(Qaz (mo:=mo) h).2.1;have h3:=hC.2.1;refine⟨hmo,hlen,hsm,hat.1,by rw[hat.2],by rw[hat.2];exact hes,?_,?_,?_,?_⟩
 ·rw[hat.2];rcases hB.cs with hk|hk
  ·left;show(Q8 ks).length=0;rw[show ks=[]from hk];rfl
  ·right;have:ks.length=es.length+1:=hk;show _<=(Q8 ks).length;rw[X4];omega
 ·rw[h2];exact h1.1
 ·rw[h2];simp only[];rw[h1.2.1];show f.l.length<=f.es.length;omega
 ·rw[h2];simp only[];rw[h1.2.1];simp only[List.length_append,List.length_cons,X4];omega
theorem Qm9(h:Xc ns (plug (f::C) (.nd i es ks)))(h0:(plug (f::C) (.nd i es ks)).idx=0)(hs:SpOk mo ns i):SpROk mo ns f.i i:=by
 have hA:splRA mo ns i=splA mo ns i:=by
  unfold splRA splA;rw[h.frs h0]
 have h1:=Qi7 (mo:=mo) h;have h2:=(Qaz (mo:=mo) h).2.1;have h3:=Qhz (B:=Q8 f.r) h1.2.2
 have hx:ixR (nth (splRA mo ns i) f.i).cs (i:Int)=f.l.length:=by
  rw[hA,h1.2.1];unfold ixR;simp only[];rw[h3,if_pos (by simp),X4]
 have hp:f.i<ns.length:=by
  have:=h.plug;exact this.lt (p:=(f.i,⟨true,f.es,Q8 f.l++(i:Int)::Q8 f.r⟩)) (List.mem_append_left _ (by rw[Xn,Fr.nodes];exact List.mem_cons_self ..))
 refine⟨hs.mo0,hs.len,hs.sm,hs.lt,hs.us,hs.es,hs.cs,hp,?_,?_⟩
 ·rw[hx,hA,h1.2.1];have:=hs.parE;rw[h2]at this;simp only[]at this;rw[h1.2.1]at this;exact this
 ·rw[hx,hA,h1.2.1];simp only[List.length_append,List.length_cons,X4];omega
end
def Qgk(rt:Nat)(T:BT):Prop:=T.es=[]->∀k,T.ks=[k]->rt<k.es.length
def Qga(rt:Nat):List Fr->Nat->Prop
 | [],_=>True
 | [f],n=>f.es=[]->rt<n
 | f::g::C,_=>Qga rt (g::C) f.es.length
theorem Qga.mono{rt:Nat}:∀{C:List Fr}{n m:Nat},Qga rt C n->n<=m->Qga rt C m
 | [],_,_,_,_=>trivial
 | [f],n,m,h,hm=>λe=>Nat.lt_of_lt_of_le (h e) hm
 | f::g::C,_,_,h,_=>h
theorem Qkt{lo hi rt:Nat}:∀{D:List Fr}{d:Nat}{T:BT},ZH lo hi rt d D->Qgk rt (plug D T)->Qga rt D T.es.length
 | [],_,T,_,_=>trivial
 | [f],_,T,hC,h=>λe=>by
  have h1:=hC.2.1;rw[e]at h1;have hl:f.l=[]:=List.eq_nil_of_length_eq_zero (by simp only[List.length_nil]at h1;omega);have hr:f.r=[]:=List.eq_nil_of_length_eq_zero (by simp only[List.length_nil]at h1;omega);refine h e T ?_;show f.l++T::f.r=[T];rw[hl,hr];rfl
 | f::g::C,d,T,hC,h=>Qkt (D:=g::C) (T:=f.fill T) hC.2.2.2 h
theorem Qid{P A:List Nat}{x:Nat}(h:P.take (A.length+1)=(x::A).reverse):nth P A.length=x/\P.take A.length=A.reverse:=by
 rw[List.reverse_cons]at h;constructor
 ·apply QP
  have h1:(P.take (A.length+1))[A.length]?=some x:=by
   rw[h,List.getElem?_append_right (by simp)];simp
  rw[List.getElem?_take]at h1
  simpa using h1
 ·have h1:(P.take (A.length+1)).take A.length=A.reverse:=by
   rw[h,List.take_append_of_le_length (by simp),List.take_of_length_le (by simp)]
  rw[List.take_take]at h1;rw[<-h1];congr 1;omega
theorem QnW{mo:Int}{lo hi d i o:Nat}{es:List TEnt}{ks:List BT}(hmo:mo=(hi:Int))(hlo:lo=hi/2)(hB:Bel lo hi d (.nd i es ks))(hl:es.length=hi+1) :
  Bal lo hi d (.nd i (es.take (Qv mo)) (ks.take (Qv mo+1)))/\Bal lo hi d (.nd o (es.drop (Qv mo+1)) (ks.drop (Qv mo+1))):=by
 have hm:Qv mo=(hi+1)/2:=by unfold Qv;omega
 rw[Zk,Zk];have e1:lo<=(es.take (Qv mo)).length/\(es.take (Qv mo)).length<=hi:=by rw[List.length_take];omega
 have e2:lo<=(es.drop (Qv mo+1)).length/\(es.drop (Qv mo+1)).length<=hi:=by rw[List.length_drop];omega
 refine⟨⟨?_,e1⟩,⟨?_,e2⟩⟩
 ·cases d with
  | zero=>
   show ks.take _=[];rw[show ks=[]from hB,List.take_nil]
  | succ d=>
   have h1:ks.length=es.length+1:=hB.1;refine⟨?_,λk hk=>hB.2 k (List.mem_of_mem_take hk)⟩;show(ks.take (Qv mo+1)).length=(es.take (Qv mo)).length+1;rw[List.length_take,List.length_take];omega
 ·cases d with
  | zero=>
   show ks.drop _=[];rw[show ks=[]from hB,List.drop_nil]
  | succ d=>
   have h1:ks.length=es.length+1:=hB.1;refine⟨?_,λk hk=>hB.2 k (List.mem_of_mem_drop hk)⟩;show(ks.drop (Qv mo+1)).length=(es.drop (Qv mo+1)).length+1;rw[List.length_drop,List.length_drop];omega
theorem QgG{mo:Int}{lo hi rt d i o:Nat}{f:Fr}{C:List Fr}{es:List TEnt}{ks:List BT}{up:TEnt}(hmo:mo=(hi:Int))(hlo:lo=hi/2)(hC:ZH lo hi rt d (f::C))(hB:Bel lo hi d (.nd i es ks))(hl:es.length=hi+1) :
  Bel lo hi (d+1) (.nd f.i (QF f.es f.l.length up) (f.l++.nd i (es.take (Qv mo)) (ks.take (Qv mo+1))::.nd o (es.drop (Qv mo+1)) (ks.drop (Qv mo+1))::f.r)):=by
 have h1:=QnW (o:=o) hmo hlo hB hl;have h2:=hC.2.1;refine⟨?_,λk hk=>?_⟩
 ·show(f.l++_::_::f.r).length=(QF f.es f.l.length up).length+1;rw[YB om];simp only[List.length_append,List.length_cons];omega
 ·rcases List.mem_append.1 hk with hk|hk
  ·exact hC.1.1 k hk
  ·rcases List.mem_cons.1 hk with rfl|hk
   ·exact h1.1
   ·rcases List.mem_cons.1 hk with rfl|hk
    ·exact h1.2
    ·exact hC.1.2 k hk
theorem Qf2{mo:Int}{lo hi rt d i o:Nat}{f:Fr}{C:List Fr}{es:List TEnt}{ks:List BT}(hC:ZH lo hi rt d (f::C))(hB:Bel lo hi d (.nd i es ks))(hl:Qv mo<es.length) :
  (BT.nd f.i (QF f.es f.l.length (nth es (Qv mo))) (f.l++.nd i (es.take (Qv mo)) (ks.take (Qv mo+1))::.nd o (es.drop (Qv mo+1)) (ks.drop (Qv mo+1))::f.r)).flat=(f.fill (.nd i es ks)).flat:=by
 rw[BT.flat,QkX hC.2.1,BT.flat,BT.flat,Qee (Qv mo) es ks hl hB.cs];show _=(BT.nd f.i f.es (f.l++BT.nd i es ks::f.r)).flat;rw[BT.flat,Qb7 _ _ _ _ hC.2.1,BT.flat]
def XF(ns:List Nd):Prop:=(nth ns (ns.length-1)).us=true
theorem QmA{ns:List Nd}{i:Nat}{x:Nd}(hx:x.us=(nth ns i).us)(k:Nat):(nth (ns.set i x) k).us=(nth ns k).us:=by
 rw[ZR];split
 ·rename_i h;rw[hx,h.1]
 ·rfl
theorem Qpv(ns:List Nd)(i:Nat)(es:List TEnt)(k:Nat):(nth (esN ns i es) k).us=(nth ns k).us:=QmA (x:={nth ns i with es:=es}) rfl k
theorem QpD(ns:List Nd)(i:Nat)(cs:List Int)(k:Nat):(nth (csN ns i cs) k).us=(nth ns k).us:=QmA (x:={nth ns i with cs:=cs}) rfl k
theorem XF.es{ns:List Nd}(h:XF ns)(i:Nat)(es:List TEnt):XF (esN ns i es):=by
 unfold XF;rw[Z9,Qpv];exact h
theorem XF.cs{ns:List Nd}(h:XF ns)(i:Nat)(cs:List Int):XF (csN ns i cs):=by
 unfold XF;rw[Qb3,QpD];exact h
theorem XF.fre{ns:List Nd}(h:XF ns):XF (QK ns).2:=by
 unfold QK;split
 ·unfold XF usN;simp only[List.length_set];rw[ZR];split
  ·rfl
  ·exact h
 ·unfold XF;simp only[List.length_append,List.length_singleton,Nat.add_sub_cancel];rw[Qh4]
theorem XF.spl{ns:List Nd}(h:XF ns)(mo:Int)(i:Nat):XF (Qak mo ns i):=by
 unfold Qak addP;refine XF.cs (XF.es ?_ _ _) _ _;unfold splA;split
 ·exact(h.fre.es _ _).es _ _
 ·exact(((h.fre.es _ _).es _ _).cs _ _).cs _ _
theorem XF.low{ns:List Nd}(h:XF ns):XF (XU ns).2:=by
 unfold XU;exact(((h.fre.es _ _).cs _ _).es _ _).cs _ _
structure Grown(mo:Int)(lo hi rt:Nat)(P:List Nat)(m k:Nat)(ns:List Nd)(W:List Nat)(fl:List TEnt):Prop where
 ok:Qcx mo ns W
 okR:Qhw mo P k ns
 same:Qbl mo P k ns=XV mo ns W
 tree:∃T d,Xc (XV mo ns W) T/\T.idx=0/\Bel lo hi d T/\T.es.length<=rt+1/\Qgk rt T/\T.flat=fl
 sm:Sm (m+k) (XV mo ns W)
 len:ns.length<=(XV mo ns W).length/\(XV mo ns W).length<=ns.length+k
 last:XF (XV mo ns W)
theorem Qhg{mo:Int}{lo hi rt:Nat}(hmo:mo=(hi:Int))(hlo:lo=hi/2)(hhi:hi<=900)(hrt:rt<=hi)(P:List Nat):∀(C:List Fr)(d m:Nat)(ns:List Nd)(T:BT),Xc ns (plug C T)->(plug C T).idx=0->ZH lo hi rt d C->Bel lo hi d T ->
  ((C=[]->T.es.length<=rt+1)/\(C≠[]->lo<=T.es.length/\T.es.length<=hi+1))->Qga rt C T.es.length->(C=[]->Qgk rt T)->Sm m ns->m+C.length<=899->ns.length+C.length<=899->XF ns->P.take (C.length+1)=(T.idx::C.map Fr.i).reverse ->
  Grown mo lo hi rt P m C.length ns (T.idx::C.map Fr.i) (plug C T).flat
 | [],d,m,ns,T,hR,h0,hC,hB,hb,hg,hn,hs,hm,hl,hu,hP=>by
  have h1:T.idx=0:=h0;have hat:=Xc.at_ (C:=[]) hR
  have e:XV mo ns [T.idx]=ns:=by
   show QaZ mo ns T.idx=ns;unfold QaZ;rw[if_neg (λh=>om)]
  have hroot:Xc ns T:=hR;refine⟨⟨⟨hat.1,λh=>om⟩,trivial⟩,trivial,e.symm,?_,?_,?_,?_⟩
  ·show∃T' d',Xc (XV mo ns [T.idx]) T'/\_;rw[e];exact⟨T,d,hroot,h1,hB,hb.1 rfl,hn rfl,rfl⟩
  ·show Sm m (XV mo ns [T.idx]);rw[e];exact hs
  ·show _<=(XV mo ns [T.idx]).length/\(XV mo ns [T.idx]).length<=_;rw[e];exact⟨Nat.le_refl _,Nat.le_refl _⟩
  ·show XF (XV mo ns [T.idx]);rw[e];exact hu
 | f::C,d,m,ns,.nd i es ks,hR,h0,hC,hB,hb,hg,hn,hs,hm,hl,hu,hP=>by
  have hne:i≠0:=by
   have:=Qom hR (by simp);rw[h0]at this;exact this
  have hat:i<ns.length/\nth ns i=⟨true,es,Q8 ks⟩:=Xc.at_ (T:=.nd i es ks) hR;have hb1:lo<=es.length/\es.length<=hi+1:=hb.2 (by simp);have hlen2:(C.map Fr.i).length=C.length:=by simp
  have hP1:=Qid (A:=f.i::C.map Fr.i) (x:=i) (by
   rw[List.length_cons,hlen2];exact hP)
  rw[List.length_cons,hlen2]at hP1
  have hP2:=Qid (A:=C.map Fr.i) (x:=f.i) (by
   rw[hlen2];exact hP1.2)
  rw[hlen2]at hP2;have hCl:(f::C).length=C.length+1:=rfl;have hf:=hC.2.2.1
  have hgC:∀n,f.es.length<=n->Qga rt C n:=λn hle=>by
   cases C with
   | nil=>trivial
   | cons g C'=>exact Qga.mono (show Qga rt (g::C') f.es.length from hg) hle
  have hlt9:(nth ns (nth P (C.length+1))).es.length=es.length:=by rw[hP1.1,hat.2]
  by_cases hbig:es.length<=hi
  ·have e1:QaZ mo ns i=ns:=by
    unfold QaZ;rw[if_neg (λh=>by rw[hat.2]at h;have:=h.2;simp only[]at this;omega)]
   have hno:¬mo<((nth ns (nth P (C.length+1))).es.length:Int):=by rw[hlt9];omega
   have ih:=Qhg hmo hlo hhi hrt P C (d+1) m ns (f.fill (.nd i es ks)) hR h0 hC.2.2.2 (QlI hC (Zk.2 ⟨hB,hb1.1,hbig⟩)) ⟨λh=>Nat.le_succ_of_le (hf.1 h),λh=>⟨(hf.2 h).1,Nat.le_succ_of_le (hf.2 h).2⟩⟩ (hgC _ (Nat.le_refl _)) (λh=>by
    subst h;intro e k hk;have h9:f.l++BT.nd i es ks::f.r=[k]:=hk;cases hfl:f.l with
    | nil=>
     rw[hfl]at h9;have:BT.nd i es ks=k:=(List.cons.inj h9).1;rw[<-this];exact hg e
    | cons a b=>
     rw[hfl]at h9;simp at h9) hs (by rw[hCl]at hm;omega) (by rw[hCl]at hl;omega) hu hP1.2
   have eW:XV mo ns (i::(f::C).map Fr.i)=XV mo ns ((f.fill (.nd i es ks)).idx::C.map Fr.i):=by
    show XV mo (QaZ mo ns i) _=_;rw[e1];rfl
   refine⟨⟨⟨hat.1,λ_(h:mo<((nth ns i).es.length:Int))=>by rw[hat.2]at h;simp only[]at h;omega⟩,?_⟩,⟨⟨by rw[hP1.1];exact hat.1,λh=>absurd h hno⟩,?_⟩,?_,?_,?_,?_,?_⟩
   ·rw[show QaZ mo ns (BT.nd i es ks).idx=ns from e1];exact ih.ok
   ·rw[if_neg hno];exact ih.okR
   ·show Qbl mo P C.length (if _ then _ else _)=XV mo ns (i::(f::C).map Fr.i);rw[if_neg hno,eW];exact ih.same
   ·show∃T d,Xc (XV mo ns (i::(f::C).map Fr.i)) T/\_;rw[eW];exact ih.tree
   ·show Sm _ (XV mo ns (i::(f::C).map Fr.i));rw[eW];exact ih.sm.mono (by rw[hCl];omega)
   ·show _<=(XV mo ns (i::(f::C).map Fr.i)).length/\(XV mo ns (i::(f::C).map Fr.i)).length<=_;rw[eW];have:=ih.len;rw[hCl];omega
   ·show XF (XV mo ns (i::(f::C).map Fr.i));rw[eW];exact ih.last
  ·have hle:es.length=hi+1:=om
   have hmE:Qv mo<es.length:=by unfold Qv;omega
   have hyes:mo<((nth ns (nth P (C.length+1))).es.length:Int):=by rw[hlt9];omega
   have e1:QaZ mo ns i=Qak mo ns i:=by
    unfold QaZ;rw[if_pos ⟨om,by rw[hat.2];simp only[];omega⟩]
   have hok:=Qmj hR hC hB om om (hs.mono om) hmE;have hokR:=Qm9 hR h0 hok;have hsR:=Qj0 (mo:=mo) hR h0;have hsp:=(Qaz (mo:=mo) hR).2.2;have hsl:=Qh8 mo ns i;generalize hup:nth es (Qv mo)=up at hsp;have hflat:=Qf2 (mo:=mo) (o:=(QK ns).1) hC hB hmE;rw[hup]at hflat;have hbl:=QgG (o:=(QK ns).1) (up:=up) hmo hlo hC hB hle;have hil:(QF f.es f.l.length up).length=f.es.length+1:=YB (by have:=hC.2.1;omega);generalize hT2:BT.nd f.i (QF f.es f.l.length up) (f.l++BT.nd i (es.take (Qv mo)) (ks.take (Qv mo+1))::BT.nd (QK ns).1 (es.drop (Qv mo+1)) (ks.drop (Qv mo+1))::f.r)=T2 at hsp hflat hbl;have hT2i:T2.idx=f.i:=by rw[<-hT2];rfl
   have hT2e:T2.es.length=f.es.length+1:=by rw[<-hT2];exact hil
   have ih:=Qhg hmo hlo hhi hrt P C (d+1) (m+1) (Qak mo ns i) T2 hsp (by
    rw[Qfi C T2 (f.fill (.nd i es ks)) hT2i];exact h0) hC.2.2.2 hbl ⟨λh=>by rw[hT2e];have:=hf.1 h;omega,λh=>by rw[hT2e];have:=hf.2 h;omega⟩ (hgC _ om) (λh e=>by rw[e]at hT2e;simp at hT2e) (hs.spl mo i) (by rw[hCl]at hm;omega) (by rw[hCl]at hl;omega) (hu.spl mo i) (by rw[hT2i];exact hP1.2)
   have eW:XV mo ns (i::(f::C).map Fr.i)=XV mo (Qak mo ns i) (T2.idx::C.map Fr.i):=by
    show XV mo (QaZ mo ns i) _=_;rw[e1,hT2i];rfl
   have hpf:(plug C T2).flat=(plug (f::C) (.nd i es ks)).flat:=by
    show _=(plug C (f.fill (.nd i es ks))).flat;rw[ZE hC.2.2.2,ZE hC.2.2.2,hflat]
   refine⟨⟨⟨hat.1,λ_ _=>hok⟩,?_⟩,⟨⟨by rw[hP1.1];exact hat.1,λ_=>by rw[hP1.1,hP2.1];exact hokR⟩,?_⟩,?_,?_,?_,?_,?_⟩
   ·rw[show QaZ mo ns (BT.nd i es ks).idx=Qak mo ns i from e1];have:=ih.ok;rw[hT2i]at this;exact this
   ·rw[if_pos hyes,hP1.1,hP2.1,hsR];exact ih.okR
   ·show Qbl mo P C.length (if _ then _ else _)=XV mo ns (i::(f::C).map Fr.i);rw[if_pos hyes,hP1.1,hP2.1,hsR,eW];exact ih.same
   ·show∃T d,Xc (XV mo ns (i::(f::C).map Fr.i)) T/\_;rw[eW,<-hpf];exact ih.tree
   ·show Sm _ (XV mo ns (i::(f::C).map Fr.i));rw[eW];exact ih.sm.mono (by rw[hCl];omega)
   ·show _<=(XV mo ns (i::(f::C).map Fr.i)).length/\(XV mo ns (i::(f::C).map Fr.i)).length<=_;rw[eW];have:=ih.len;rw[hCl];omega
   ·show XF (XV mo ns (i::(f::C).map Fr.i));rw[eW];exact ih.last
def Srt(co:Int)(l:List TEnt):Prop:=l.Pairwise λa b=>QM co a.key b.key<0
theorem QdH{co:Int}{a b:List UInt8}(h:¬QM co a b<0)(h2:QM co a b≠0):QM co b a<0:=by
 have:=Qav co a b;omega
theorem Srt.asc{co:Int}{l:List TEnt}(h:Srt co l):Asc co l:=λk hk=>by
 have:=List.pairwise_iff_getElem.1 h k (k+1) om hk om;rw[show nth l k=l[k]from QP (List.getElem?_eq_getElem om),show nth l (k+1)=l[k+1]from QP (List.getElem?_eq_getElem hk)];exact this
theorem Srt.of_asc{co:Int}{l:List TEnt}(h:Asc co l):Srt co l:=List.pairwise_iff_getElem.2 λi j hi hj hij=>by
 have:=h.lt hij hj;rw[show nth l i=l[i]from QP (List.getElem?_eq_getElem hi),show nth l j=l[j]from QP (List.getElem?_eq_getElem hj)]at this;exact this
theorem QhG{co:Int}{key:List UInt8}:∀{A l:List TEnt},(∀x∈A,QM co x.key key<0)->plc co (A++l) key=A.length+plc co l key
 | [],l,_=>by simp
 | a::A,l,h=>by
  rw[List.cons_append,plc,if_pos (h a (List.mem_cons_self ..)),QhG λx hx=>h x (List.mem_cons_of_mem _ hx),List.length_cons];omega
theorem QhO{co:Int}{key:List UInt8}:∀{l B:List TEnt},(∀x∈B,QM co key x.key<0)->plc co (l++B) key=plc co l key
 | [],[],_=>rfl
 | [],b::B,h=>by
  have h1:=h b (List.mem_cons_self ..);have h2:=Qav co b.key key;show plc co (b::B) key=0;rw[plc,if_neg om]
 | a::l,B,h=>by
  rw[List.cons_append,plc,plc,QhO h]
theorem Qln{α:Type}{A l B:List α}{p:Nat}{x:α}(hp:p<=l.length):QF (A++(l++B)) (A.length+p) x=A++(QF l p x++B):=by
 unfold QF;rw[List.take_length_add_append,List.drop_length_add_append,List.take_append_of_le_length hp,List.drop_append_of_le_length hp];simp only[List.append_assoc,List.cons_append]
def Qjw(co:Int)(l:List TEnt)(key:List UInt8):Prop:=∃y∈l,QM co y.key key=0
theorem QfL{co:Int}{key:List UInt8}:∀{l:List TEnt},Srt co l->(Qjw co l key ↔ fnd co l key=true)
 | [],_=>by simp[Qjw,fnd]
 | y::l,h=>by
  have hp:=List.pairwise_cons.1 h;have ih:=QfL (key:=key) hp.2;unfold fnd at ih ⊢;rw[plc]
  by_cases h1:QM co y.key key<0
  ·rw[if_pos h1];have e:nth (y::l) (plc co l key+1)=nth l (plc co l key):=rfl;rw[e,List.length_cons]
   have hh:Qjw co (y::l) key ↔ Qjw co l key:=by
    constructor
    ·rintro⟨z,hz,h2⟩;rcases List.mem_cons.1 hz with rfl|hz
     ·omega
     ·exact⟨z,hz,h2⟩
    ·rintro⟨z,hz,h2⟩;exact⟨z,List.mem_cons_of_mem _ hz,h2⟩
   rw[hh,ih];simp
  ·rw[if_neg h1];have e:nth (y::l) 0=y:=rfl;rw[e];simp only[List.length_cons,Nat.zero_lt_succ,decide_true,Bool.true_and,decide_eq_true_eq];constructor
   ·rintro⟨z,hz,h2⟩;rcases List.mem_cons.1 hz with rfl|hz
    ·exact h2
    ·exfalso;have h3:=hp.1 z hz
     by_cases h4:QM co y.key key=0
     ·have h5:=Qg6.1 h4;have h6:=Qg6.1 h2;have h7:=Qg6.2 (h5.trans h6.symm);omega
     ·have h5:=QdH h1 h4;have h6:=Yk h5 h3;have h7:=Qav co z.key key;omega
   ·intro h2;exact⟨y,List.mem_cons_self ..,h2⟩
theorem Qki{co:Int}{x:TEnt}:∀{l:List TEnt},Srt co l->¬Qjw co l x.key->Srt co (QF l (plc co l x.key) x)
 | [],_,_=>by
  show Srt co [x];simp[Srt]
 | y::l,h,hn=>by
  have hp:=List.pairwise_cons.1 h;have ih:=Qki (x:=x) hp.2 λ⟨z,hz,h2⟩=>hn ⟨z,List.mem_cons_of_mem _ hz,h2⟩;rw[plc]
  by_cases h1:QM co y.key x.key<0
  ·rw[if_pos h1];show Srt co (y::QF l (plc co l x.key) x);refine List.pairwise_cons.2 ⟨λz hz=>?_,ih⟩;unfold QF at hz;rcases List.mem_append.1 hz with hz|hz
   ·exact hp.1 z (List.mem_of_mem_take hz)
   ·rcases List.mem_cons.1 hz with rfl|hz
    ·exact h1
    ·exact hp.1 z (List.mem_of_mem_drop hz)
  ·rw[if_neg h1];show Srt co (x::y::l);have h2:=QdH h1 λh2=>hn ⟨y,List.mem_cons_self ..,h2⟩;refine List.pairwise_cons.2 ⟨λz hz=>?_,h⟩;rcases List.mem_cons.1 hz with rfl|hz
   ·exact h2
   ·exact Yk h2 (hp.1 z hz)
theorem QhI{co:Int}{key:List UInt8}:∀{es:List TEnt}{l:List BT},Srt co (Zd es l)->l.length<=es.length->(∀j,j<l.length->QM co (nth es j).key key<0)->∀x∈Zd es l,QM co x.key key<0
 | es,[],_,_,_,x,hx=>by
  have e:Zd es []=[]:=by cases es<;>rfl
  rw[e]at hx;cases hx
 | [],k::l,_,h,_,x,hx=>absurd h (by simp)
 | e::es,k::l,hs,hl,h,x,hx=>by
  rw[Zd]at hs hx;have h1:=List.pairwise_append.1 hs;have he:QM co e.key key<0:=h 0 (by simp);rcases List.mem_append.1 hx with hx|hx
  ·exact Yk (h1.2.2 x hx e (List.mem_cons_self ..)) he
  ·rcases List.mem_cons.1 hx with rfl|hx
   ·exact he
   ·exact QhI (List.pairwise_cons.1 h1.2.1).2 (by simpa using hl) (λj hj=>h (j+1) (by simpa using hj)) x hx
theorem Qjb{co:Int}{key:List UInt8}{lo hi rt:Nat}:∀{D:List Fr}{d:Nat},ZH lo hi rt d D->QjT co key D->Srt co (QgY D)->∀x∈QgY D,QM co x.key key<0
 | [],_,_,_,_,x,hx=>(nomatch hx)
 | f::D,d,hC,hL,hs,x,hx=>by
  rw[QgY]at hs hx;have h1:=List.pairwise_append.1 hs;have hf:=hL f (List.mem_cons_self ..);have hlen:=hC.2.1;rcases List.mem_append.1 hx with hx|hx
  ·exact Qjb hC.2.2.2 (λg hg=>hL g (List.mem_cons_of_mem _ hg)) h1.1 x hx
  ·exact QhI h1.2.1 om (λj hj=>QaU co key f.es j om) x hx
theorem Qjp{co:Int}{key:List UInt8}{lo hi rt:Nat}:∀{D:List Fr}{d:Nat},ZH lo hi rt d D->QjT co key D->Srt co (Qhi D)->∀x∈Qhi D,QM co key x.key<0
 | [],_,_,_,_,x,hx=>(nomatch hx)
 | f::D,d,hC,hL,hs,x,hx=>by
  rw[Qhi]at hs hx;have h1:=List.pairwise_append.1 hs;have hf:=hL f (List.mem_cons_self ..);rcases List.mem_append.1 hx with hx|hx
  ·rcases Nat.lt_or_ge f.l.length f.es.length with h2|h2
   ·have e:f.es.drop f.l.length=nth f.es f.l.length::f.es.drop (f.l.length+1):=by
     rw[List.drop_eq_getElem_cons h2,show nth f.es f.l.length=f.es[f.l.length]from QP (List.getElem?_eq_getElem h2)]
    have hgt:QM co key (nth f.es f.l.length).key<0:=by
     refine QdH ?_ λh3=>?_
     ·rw[hf.1]at h2 ⊢;exact Qhb co key f.es h2
     ·refine hf.2 ?_;unfold fnd;rw[<-hf.1,decide_eq_true h2,decide_eq_true h3];rfl
    rw[e]at hx h1;cases hr:f.r with
    | nil=>
     rw[hr]at hx;cases hx
    | cons k r=>
     rw[hr]at hx h1;rw[Qf4]at hx h1;rcases List.mem_cons.1 hx with rfl|hx
     ·exact hgt
     ·exact Yk hgt ((List.pairwise_cons.1 h1.1).1 x hx)
   ·rw[List.drop_of_length_le h2]at hx;cases hx
  ·exact Qjp hC.2.2.2 (λg hg=>hL g (List.mem_cons_of_mem _ hg)) h1.2.1 x hx
structure Sz(mo rm:Int)(lo hi rt:Nat):Prop where
 emo:mo=(hi:Int)
 erm:rm=(rt:Int)
 elo:lo=hi/2
 hi3:3<=hi
 hi8:hi<=8
 lr:lo<=rt
 rh:rt<=hi
theorem Qmu{mo rm:Int}(h:YI mo rm=0):Sz mo rm (mo.toNat/2) mo.toNat rm.toNat:=by
 have h1:=QaN h;constructor<;>omega
structure VT(co:Int)(lo hi rt d:Nat)(T:BT):Prop where
 idx:T.idx=0
 bel:Bel lo hi d T
 root:T.es.length<=rt
 gap:Qgk rt T
 srt:Srt co T.flat
 ents:∀x∈T.flat,XP co x=0
theorem QdL{k:BT}{p:Nat×Nd}:∀{ks:List BT},p∈nodesL ks->∃k∈ks,p∈k.nodes
 | [],h=>by
  rw[nodesL]at h;cases h
 | x::ks,h=>by
  rw[nodesL]at h;rcases List.mem_append.1 h with h|h
  ·exact⟨x,List.mem_cons_self ..,h⟩
  ·obtain⟨k,hk,h2⟩:=QdL (k:=k) h;exact⟨k,List.mem_cons_of_mem _ hk,h2⟩
theorem QiT{lo hi:Nat}:∀{d:Nat}{T:BT},Bel lo hi d T->∀{n:Nat},hi<=n->T.es.length<=n->∀p∈T.nodes,p.2.es.length<=n+1/\p.2.cs.length<=n+1
 | 0,.nd i es ks,h,n,hn,hl,p,hp=>by
  have e:ks=[]:=h;rw[e,BT.nodes,nodesL]at hp;rcases List.mem_cons.1 hp with rfl|hp
  ·exact⟨Nat.le_succ_of_le hl,by show 0<=_;omega⟩
  ·cases hp
 | d+1,.nd i es ks,h,n,hn,hl,p,hp=>by
  rw[BT.nodes]at hp;have hl':es.length<=n:=hl;have h1:ks.length=es.length+1:=h.1;rcases List.mem_cons.1 hp with rfl|hp
  ·refine⟨Nat.le_succ_of_le hl,?_⟩;show(Q8 ks).length<=_;rw[X4];omega
  ·obtain⟨k,hk,hp⟩:=QdL (k:=default) hp;have h2:=Zk.1 (h.2 k hk);exact QiT h2.1 hn om p hp
theorem Xc.sm{ns:List Nd}{T:BT}{lo hi d n:Nat}(h:Xc ns T)(hB:Bel lo hi d T)(hn:hi<=n)(hl:T.es.length<=n):Sm (n+1) ns:=λk=>by
 rcases Nat.lt_or_ge k ns.length with hk|hk
 ·by_cases hm:k∈T.nodes.map Prod.fst
  ·obtain⟨p,hp,rfl⟩:=List.mem_map.1 hm;have h1:=RepN.at_ (i:=p.1) (x:=p.2) h hp;rw[h1.2];exact QiT hB hn hl p hp
  ·rw[h.rest k hk hm];exact⟨Nat.zero_le _,Nat.zero_le _⟩
 ·rw[YO hk];exact⟨Nat.zero_le _,Nat.zero_le _⟩
theorem QmS{ns:List Nd}{T:BT}(h:Xc ns T)(h0:T.idx=0):QaH ns=XU ns:=by
 have hr:=h.root;rw[h0]at hr;unfold QaH XU;rw[h.frs h0,QbE hr.1 (by rw[hr.2])]
structure RootGrown(mo rm:Int)(lo hi rt m:Nat)(ns:List Nd)(fl:List TEnt):Prop where
 ok:RootOk mo rm ns
 okR:RootROk mo rm ns
 same:Qe0 mo rm ns=Qan mo rm ns
 tree:∃T d,Xc (Qan mo rm ns) T/\T.idx=0/\Bel lo hi d T/\T.es.length<=rt/\Qgk rt T/\T.flat=fl
 len:ns.length<=(Qan mo rm ns).length/\(Qan mo rm ns).length<=ns.length+2
 last:XF (Qan mo rm ns)
theorem QkY{mo rm:Int}{lo hi rt d m:Nat}{ns:List Nd}{T:BT}(hz:Sz mo rm lo hi rt)(hR:Xc ns T)(h0:T.idx=0)(hB:Bel lo hi d T)(hb:T.es.length<=rt+1)(hg:Qgk rt T)(hs:Sm m ns)(hm:1<=m/\m<=880)(hl:ns.length<=880)(hu:XF ns):RootGrown mo rm lo hi rt m ns T.flat:=by
 cases T with
 | nd i es ks=>
 have hi0:i=0:=h0;subst hi0;have hmo:=hz.emo;have hrm:=hz.erm;have hlo:=hz.elo;have hi3:=hz.hi3;have hi8:=hz.hi8;have hlr:=hz.lr;have hrh:=hz.rh;have hat:0<ns.length/\nth ns 0=⟨true,es,Q8 ks⟩:=Xc.root hR;have hb':es.length<=rt+1:=hb;have hlow:=QmS hR h0;have hrl:=(Qn8 hR).2;have hrl2:Xc (XU ns).2 (plug [⟨0,[],[],[]⟩] (.nd (QK ns).1 es ks)):=hrl;have hown:(XU ns).1<(XU ns).2.length/\nth (XU ns).2 (XU ns).1=⟨true,es,Q8 ks⟩:=Xc.at_ hrl2;have hC:ZH lo hi rt d [⟨0,[],[],[]⟩]:=⟨⟨λk hk=>(nomatch hk),λk hk=>(nomatch hk)⟩,rfl,⟨λ_=>Nat.zero_le _,λh=>absurd rfl h⟩,trivial⟩;have hll:=QmG ns;have hsl:Sm 900 (XU ns).2:=(hs.low hm.1).mono om;have hspl:Qv mo<es.length->SpOk mo (XU ns).2 (XU ns).1:=λh=>Qmj hrl2 hC (show Bel lo hi d (.nd (QK ns).1 es ks) by cases d<;>exact hB) om om hsl h;have hsplR:SpOk mo (XU ns).2 (XU ns).1->SpROk mo (XU ns).2 0 (XU ns).1:=λh=>Qm9 hrl2 rfl h;have hspE:Qi0 mo (XU ns).2 0 (XU ns).1=Qak mo (XU ns).2 (XU ns).1:=Qj0 (mo:=mo) hrl2 rfl
 have hbig:mo<((nth (XU ns).2 (XU ns).1).es.length:Int)->Qv mo<es.length:=λh=>by
  rw[hown.2]at h;simp only[]at h;unfold Qv;omega
 have hnB:Bel lo hi d (.nd (QK ns).1 es ks):=by cases d<;>exact hB
 refine⟨⟨hat.1,om,by rw[hat.2],λ_ h=>hspl (hbig h)⟩,⟨hat.1,om,by rw[hat.2],λ_ h=>by rw[hlow]at h ⊢;exact hsplR (hspl (hbig h))⟩,?_,?_,?_,?_⟩
 ·unfold Qe0 Qan;rw[hlow,hspE]
 ·unfold Qan;rw[hat.2,hown.2];simp only[]
  by_cases h1:rm<(es.length:Int)
  ·rw[if_pos h1]
   by_cases h2:mo<(es.length:Int)
   ·rw[if_pos h2];have hsp:=(Qaz (mo:=mo) hrl2).2.2;have hE:Qv mo<es.length:=by unfold Qv;omega
    have hle:es.length=hi+1:=om
    refine⟨_,d+1,hsp,rfl,QgG hmo hlo hC hnB hle,?_,λe=>?_,?_⟩
    ·show(QF ([]:List TEnt) 0 _).length<=rt;rw[YB (Nat.zero_le _)];simp only[List.length_nil];omega
    ·exfalso;have e2:(QF ([]:List TEnt) 0 (nth es (Qv mo))).length=0:=congrArg List.length e;rw[YB (Nat.zero_le _)]at e2;simp at e2
    ·have hf:=Qf2 (mo:=mo) (o:=(QK (XU ns).2).1) hC hnB hE;refine hf.trans ?_;show(BT.nd 0 [] [BT.nd (QK ns).1 es ks]).flat=_;rw[BT.flat,flatL,flatL,List.append_nil,BT.flat,BT.flat]
   ·rw[if_neg h2];refine⟨_,d+1,hrl,rfl,⟨rfl,λk hk=>?_⟩,Nat.zero_le _,λ_ k hk=>?_,?_⟩
    ·rcases List.mem_singleton.1 hk;exact Zk.2 ⟨hnB,by show lo<=es.length/\es.length<=hi;omega⟩
    ·have:BT.nd (QK ns).1 es ks=k:=(List.cons.inj hk).1;rw[<-this];show rt<es.length;omega
    ·rw[BT.flat,flatL,flatL,List.append_nil,BT.flat,BT.flat]
  ·rw[if_neg h1];exact⟨_,d,hR,rfl,hB,by show es.length<=rt;omega,hg,rfl⟩
 ·unfold Qan;split
  ·split
   ·have:=Qh8 mo (XU ns).2 (XU ns).1;omega
   ·omega
  ·omega
 ·unfold Qan;split
  ·split
   ·exact hu.low.spl _ _
   ·exact hu.low
  ·exact hu
theorem QjJ{co:Int}{lo hi rt d:Nat}{ns:List Nd}{T:BT}(hR:Xc ns T)(hV:VT co lo hi rt d T)(key:List UInt8):∃D T' d',plug D T'=T/\ZH lo hi rt d' D/\Bel lo hi d' T'/\((D=[]->T'.es.length<=rt)/\(D≠[]->lo<=T'.es.length/\T'.es.length<=hi))/\d'+D.length=d/\d<ns.length /\
  (Qh co ns key).1=(D.map Fr.i).reverse++[T'.idx]/\(Qh co ns key).2=(plc co T'.es key,fnd co T'.es key)/\(fnd co T'.es key=true\/T'.ks=[])/\QjT co key D:=by
 have h1:=QiV hV.bel;have h2:=hR.nlen;obtain⟨D,T',d',e1,e2,e3,e4,e5,e6,e7,e8,e9⟩:=desc (key:=key) (rt:=rt) (co:=co) ns.length d [] T hR trivial hV.bel ⟨λ_=>hV.root,λh=>absurd rfl h⟩ om;rw[hV.idx]at e6 e7;simp only[List.append_nil]at e2 e4;exact⟨D,T',d',e1,e2,e3,e4,e5,om,e6,e7,e8,e9⟩
theorem Qlv(A:List Nat)(i:Nat):Q2 (A++[i])=i:=by
 unfold Q2;rw[List.length_append,List.length_singleton,Nat.add_sub_cancel];exact Qh4 A i []
structure Inserted(co mo rm:Int)(lo hi rt:Nat)(ns:List Nd)(x:TEnt)(fl:List TEnt):Prop where
 ok:InsOk co mo rm ns x
 okR:InsROk co mo rm ns x
 same:Qlk co mo rm ns x=Z1 co mo rm ns x
 tree:∃T d,Xc (Z1 co mo rm ns x) T/\VT co lo hi rt d T/\T.flat=QF fl (plc co fl x.key) x
 len:ns.length<=(Z1 co mo rm ns x).length/\(Z1 co mo rm ns x).length<=2*ns.length+2
 last:XF (Z1 co mo rm ns x)
theorem Qhh:∀(es:List TEnt)(ks:List BT),es.Sublist (flatL es ks)
 | es,[]=>by rw[XC];exact List.Sublist.refl _
 | [],k::ks=>List.nil_sublist _
 | e::es,k::ks=>by
  rw[flatL];exact((Qhh es ks).cons_cons e).trans (List.sublist_append_right _ _)
theorem QiA{co:Int}{lo hi rt d:Nat}{ns:List Nd}{T:BT}(hR:Xc ns T)(hV:VT co lo hi rt d T)(key:List UInt8):(Qh co ns key).2.2=true ↔ Qjw co T.flat key:=by
 obtain⟨D,T',d',e1,e2,e3,e4,e5,e6,e7,e8,e9,e10⟩:=QjJ hR hV key;have hfl:T.flat=QgY D++(T'.flat++Qhi D):=by rw[<-e1];exact ZE e2
 have hs:=hV.srt;rw[hfl]at hs;have h1:=List.pairwise_append.1 hs;have h2:=List.pairwise_append.1 h1.2.1;rw[e8,hfl];simp only[];cases T' with
 | nd i es ks=>
 constructor
 ·intro h;have hsub:=Qhh es ks;have hses:Srt co es:=h2.1.sublist (by rw[BT.flat];exact hsub);obtain⟨y,hy,hc⟩:=(QfL hses).2 h;exact⟨y,List.mem_append_right _ (List.mem_append_left _ (by rw[BT.flat];exact hsub.subset hy)),hc⟩
 ·intro h;rcases e9 with h9|h9
  ·exact h9
  ·have hk:ks=[]:=h9;subst hk;obtain⟨y,hy,hc⟩:=h;rw[QdW]at hy h2;refine(QfL (show Srt co es from h2.1)).1 ?_;rcases List.mem_append.1 hy with hy|hy
   ·have:=Qjb e2 e10 h1.1 y hy;omega
   ·rcases List.mem_append.1 hy with hy|hy
    ·exact⟨y,hy,hc⟩
    ·have:=Qjp e2 e10 h2.2.1 y hy;have:=Qav co y.key key;omega
theorem Qkz{co mo rm:Int}{lo hi rt d:Nat}{ns:List Nd}{T:BT}{x:TEnt}(hz:Sz mo rm lo hi rt)(hR:Xc ns T)(hV:VT co lo hi rt d T)(hl:ns.length<=400)(hu:XF ns)(hx:XP co x=0)(hnf:¬(Qh co ns x.key).2.2=true):Inserted co mo rm lo hi rt ns x T.flat:=by
 have hnk:¬Qjw co T.flat x.key:=λh=>hnf ((QiA hR hV x.key).2 h);have hsmT:=hR.sm hV.bel (Nat.le_refl hi) (Nat.le_trans hV.root hz.rh);obtain⟨D,T',d',e1,e2,e3,e4,e5,e6,e7,e8,e9,e10⟩:=QjJ hR hV x.key;rw[e8]at hnf;have hks:T'.ks=[]:=e9.resolve_left hnf;cases T' with
 | nd i es ks=>
 have hk0:ks=[]:=hks;subst hk0;have hi8:=hz.hi8;have hi3:=hz.hi3;have hrh:=hz.rh;have hR1:Xc ns (plug D (.nd i es [])):=by rw[e1];exact hR
 have hat:i<ns.length/\nth ns i=⟨true,es,[]⟩:=Xc.at_ hR1;have hfl:T.flat=QgY D++(es++Qhi D):=by rw[<-e1,ZE e2,QdW]
 have hsr:=hV.srt;rw[hfl]at hsr;have hs1:=List.pairwise_append.1 hsr;have hs2:=List.pairwise_append.1 hs1.2.1;have hple:=ZJ co x.key es
 have hb4:es.length<=hi:=by
  by_cases hD:D=[]
  ·have:es.length<=rt:=e4.1 hD;omega
  ·exact(e4.2 hD).2
 have hlf:Q2 (Qh co ns x.key).1=i:=by rw[e7];exact Qlv _ _
 have hlf2:YX co ns x.key=i:=hlf;have hpl:(Qh co ns x.key).2.1=plc co es x.key:=by rw[e8];rfl
 have hinsB:Qjn co ns x=esN ns i (QF es (plc co es x.key) x):=by
  unfold Qjn;rw[hlf2,hpl,hat.2]
 have hPl:(Qh co ns x.key).1.length=D.length+1:=by rw[e7];simp
 have hPr:(Qh co ns x.key).1.reverse=i::D.map Fr.i:=by
  rw[e7];simp;rfl
 have hidx:(plug D (.nd i (QF es (plc co es x.key) x) [])).idx=0:=by
  rw[Qfi D (.nd i (QF es (plc co es x.key) x) []) (.nd i es []) rfl,e1];exact hV.idx
 have hgc:Qga rt D es.length:=Qkt (T:=.nd i es []) e2 (by rw[e1];exact hV.gap);have hil:(QF es (plc co es x.key) x).length=es.length+1:=YB hple
 have hG:=Qhg (lo:=lo) (hi:=hi) (rt:=rt) hz.emo hz.elo om hz.rh (Qh co ns x.key).1 D d' (hi+2) (esN ns i (QF es (plc co es x.key) x)) (.nd i (QF es (plc co es x.key) x) []) (QqT hR1 _) hidx e2 (show Bel lo hi d' (.nd i _ []) by
   have:=e3.leaf rfl;subst this
   rfl) ⟨λh=>by show(QF es _ x).length<=_;rw[hil];have:=e4.1 h;exact Nat.succ_le_succ this,λh=>by show lo<=(QF es _ x).length/\(QF es _ x).length<=_;rw[hil];have h9:=e4.2 h;exact⟨Nat.le_succ_of_le h9.1,Nat.succ_le_succ h9.2⟩⟩ (hgc.mono (by show es.length<=(QF es _ x).length;omega)) (λ_ e=>by
    intro k hk;cases hk) ((hsmT.mono om).es i (by rw[hil];omega)) om (by rw[Z9];omega) (hu.es _ _) (by
    show(Qh co ns x.key).1.take (D.length+1)=(i::D.map Fr.i).reverse;rw[<-hPl,List.take_length,<-hPr,List.reverse_reverse])
 have hfl2:(plug D (.nd i (QF es (plc co es x.key) x) [])).flat=QF T.flat (plc co T.flat x.key) x:=by
  rw[ZE e2,QdW,hfl,QhG (Qjb e2 e10 hs1.1),QhO (Qjp e2 e10 hs2.2.1),Qln hple]
 rw[hfl2]at hG;have hsrt:=Qki (x:=x) hV.srt hnk;obtain⟨T1,d1,g1,g2,g3,g4,g5,g6⟩:=hG.tree;have hglen:=hG.len;rw[Z9]at hglen;have hRt:=QkY hz g1 g2 g3 g4 g5 hG.sm om om hG.last;rw[g6]at hRt
 have hiT:Z1 co mo rm ns x=Qan mo rm (XV mo (esN ns i (QF es (plc co es x.key) x)) (i::D.map Fr.i)):=by
  unfold Z1;rw[if_neg (by rw[e8];exact hnf),hinsB,hPr];rfl
 have hesR:esN ns (Q2 (Qh co ns x.key).1) (QF (nth ns (Q2 (Qh co ns x.key).1)).es (plc co (nth ns (Q2 (Qh co ns x.key).1)).es x.key) x)=esN ns i (QF es (plc co es x.key) x):=by
  rw[hlf,hat.2]
 have hsub:(Qh co ns x.key).1.length-1=D.length:=om
 refine⟨⟨om,om,by rw[hlf2];exact hat.1,by rw[hlf2,hat.2];show es.length<=900;omega,by rw[hlf2,hat.2,hpl];exact hple,by rw[hinsB,hPr];exact hG.ok,by rw[hinsB,hPr];exact hRt.ok⟩,⟨om,om,by rw[hlf];exact hat.1,by rw[hesR,hsub];exact hG.okR,by rw[hesR,hsub,hG.same];exact hRt.okR⟩,?_,?_,?_,?_⟩
 ·unfold Qlk;simp only[];rw[hesR,hsub,hG.same,hiT];exact hRt.same
 ·rw[hiT];obtain⟨T2,d2,t1,t2,t3,t4,t5,t6⟩:=hRt.tree;refine⟨T2,d2,t1,⟨t2,t3,t4,t5,by rw[t6];exact hsrt,λy hy=>?_⟩,t6⟩;rw[t6]at hy;unfold QF at hy;rcases List.mem_append.1 hy with hy|hy
  ·exact hV.ents y (List.mem_of_mem_take hy)
  ·rcases List.mem_cons.1 hy with rfl|hy
   ·exact hx
   ·exact hV.ents y (List.mem_of_mem_drop hy)
 ·rw[hiT];have h9:ns.length<=(XV mo (esN ns i (QF es (plc co es x.key) x)) (i::D.map Fr.i)).length/\(XV mo (esN ns i (QF es (plc co es x.key) x)) (i::D.map Fr.i)).length<=ns.length+D.length:=hglen;have h8:=hRt.len;simp only[BT.idx]at h8;omega
 ·rw[hiT];exact hRt.last
def btN(ns:List Nd):Nat->Nat->BT
 | 0,i=>.nd i [] []
 | f+1,i=>.nd i (nth ns i).es ((nth ns i).cs.map λc=>btN ns f c.toNat)
theorem QeH(ns:List Nd)(f i:Nat):(btN ns f i).idx=i:=by cases f<;>rfl
theorem Qiu{ns:List Nd}{f:Nat}:∀{cs:List Int},(∀c∈cs,0<=c)->Q8 (cs.map λc=>btN ns f c.toNat)=cs
 | [],_=>rfl
 | c::cs,h=>by
  rw[List.map_cons,ZF,Qiu λx hx=>h x (List.mem_cons_of_mem _ hx),QeH,Int.toNat_of_nonneg (h c (List.mem_cons_self ..))]
theorem ZI{α:Type}(g:α->BT):∀(cs:List α),nodesL (cs.map g)=cs.flatMap λc=>(g c).nodes
 | []=>rfl
 | c::cs=>by rw[List.map_cons,nodesL,ZI g cs,List.flatMap_cons]
theorem QfS{α β:Type}{f g:α->List β}:∀{l:List α},(∀x∈l,f x=g x)->l.flatMap f=l.flatMap g
 | [],_=>rfl
 | a::l,h=>by rw[List.flatMap_cons,List.flatMap_cons,h a (List.mem_cons_self ..),QfS λx hx=>h x (List.mem_cons_of_mem _ hx)]
theorem Qfx{α:Type}(F:Int->List α):∀(cs:List Int),((List.range cs.length).flatMap λk=>F (cs.getD k 0))=cs.flatMap F
 | []=>rfl
 | c::cs=>by
  rw[List.length_cons,List.range_succ_eq_map,List.flatMap_cons,List.flatMap_map,List.flatMap_cons,<-Qfx F cs];rfl
theorem QfB{co:Int}{ns:List Nd}(hT:TOk co ns):∀{A B:List Nat}{c:Nat},Gx.Way ns (c::A)->Gx.Way ns (c::B)->A=B
 | [],[],_,_,_=>rfl
 | [],q::B,c,h,h2=>by
  have h0:c=0:=h;have:=(hT.kid q h2.1.2 _ h2.1.1).1.1;omega
 | p::A,[],c,h,h2=>by
  have h0:c=0:=h2;have:=(hT.kid p h.1.2 _ h.1.1).1.1;omega
 | p::A,q::B,c,h,h2=>by
  have e:p=q:=Qbq (f:=Nd.cs) hT.once h.1.2 h2.1.2 h.1.1 h2.1.1;subst e;rw[QfB hT h.2 h2.2]
section
variable{co:Int}{ns:List Nd}
theorem Qd7(hT:TOk co ns){i:Nat}{P:List Nat}{c:Int}(hw:Gx.Way ns (i::P))(hi:i<ns.length)(hc:c∈(nth ns i).cs):Gx.Way ns (c.toNat::i::P):=by
 refine⟨⟨?_,hi⟩,hw⟩;rw[Int.toNat_of_nonneg (by have:=(hT.kid i hi c hc).1.1;omega)];exact hc
theorem QdU(hT:TOk co ns)(h0:0<ns.length){i:Nat}{P:List Nat}(hw:Gx.Way ns (i::P)):i<ns.length:=ZK hT h0 hw i (List.mem_cons_self ..)
theorem Ql4(hT:TOk co ns)(h0:0<ns.length):∀{i:Nat}{P:List Nat},Gx.Way ns (i::P)->(nth ns i).us=true
 | i,[],h=>by
  have e:i=0:=h;subst e;cases hu:(nth ns 0).us with
  | true=>rfl
  | false=>
   have:=(hT.free 0 h0 hu).1.1;omega
 | i,p::P,h=>by
  have:=(hT.kid p h.1.2 _ h.1.1).2;exact this
theorem Qdl(hT:TOk co ns)(h0:0<ns.length):∀(f i:Nat)(P:List Nat),Gx.Way ns (i::P)->P.length+f=ns.length->∀p∈(btN ns f i).nodes,ns[p.1]?=some p.2/\∃Q R,Gx.Way ns (Q++i::P)/\Q++i::P=p.1::R
 | 0,i,P,hw,hf,p,hp=>by
  have:=XW hT h0 hw;simp only[List.length_cons]at this;omega
 | f+1,i,P,hw,hf,p,hp=>by
  have hi:=QdU hT h0 hw
  have hk:∀c∈(nth ns i).cs,0<=c:=λc hc=>by
   have:=(hT.kid i hi c hc).1.1;omega
  rw[btN,BT.nodes,Qiu hk,ZI]at hp;rcases List.mem_cons.1 hp with rfl|hp
  ·refine⟨?_,[],P,hw,rfl⟩;have hu:=Ql4 hT h0 hw;rw[QY hi];show some (nth ns i)=some ⟨true,(nth ns i).es,(nth ns i).cs⟩;rw[<-hu]
  ·obtain⟨c,hc,hp⟩:=List.mem_flatMap.1 hp;obtain⟨h1,Q,R,h2,h3⟩:=Qdl hT h0 f c.toNat (i::P) (Qd7 hT hw hi hc) (by simp only[List.length_cons];omega) p hp;refine⟨h1,Q++[c.toNat],R,?_,?_⟩
   ·rw[List.append_assoc];exact h2
   ·rw[List.append_assoc];exact h3
theorem Qmm(hT:TOk co ns)(h0:0<ns.length):∀(f i:Nat)(P:List Nat),Gx.Way ns (i::P)->P.length+f=ns.length->((btN ns f i).nodes.map Prod.fst).Nodup
 | 0,i,P,hw,hf=>by
  have:=XW hT h0 hw;simp only[List.length_cons]at this;omega
 | f+1,i,P,hw,hf=>by
  have hi:=QdU hT h0 hw;have hlen:(i::P).length+f=ns.length:=by simp only[List.length_cons];omega
  rw[btN,BT.nodes,ZI,List.map_cons,List.map_flatMap];refine List.nodup_cons.2 ⟨λhm=>?_,?_⟩
  ·obtain⟨c,hc,hm⟩:=List.mem_flatMap.1 hm;obtain⟨p,hp,e⟩:=List.mem_map.1 hm;obtain⟨_,Q,R,h2,h3⟩:=Qdl hT h0 f c.toNat (i::P) (Qd7 hT hw hi hc) hlen p hp;rw[h3,e]at h2;have h4:=QfB hT h2 hw;have h5:=congrArg List.length h3;rw[h4]at h5;simp only[List.length_append,List.length_cons]at h5;omega
  ·refine List.pairwise_flatMap.2 ⟨λc hc=>Qmm hT h0 f c.toNat (i::P) (Qd7 hT hw hi hc) hlen,?_⟩;refine(Qe1 (f:=Nd.cs) hT.once hi).imp_of_mem λ{c c'}hc hc' hne x hx y hy exy=>?_;subst exy;obtain⟨p,hp,e⟩:=List.mem_map.1 hx;obtain⟨q,hq,e'⟩:=List.mem_map.1 hy;obtain⟨_,Q,R,h2,h3⟩:=Qdl hT h0 f c.toNat (i::P) (Qd7 hT hw hi hc) hlen p hp;obtain⟨_,Q',R',h2',h3'⟩:=Qdl hT h0 f c'.toNat (i::P) (Qd7 hT hw hi hc') hlen q hq;rw[e]at h3;rw[e']at h3';have h4:=QfB hT (h3▸h2) (h3'▸h2');have h5:Q++c.toNat::i::P=Q'++c'.toNat::i::P:=by rw[h3,h3',h4]
   have h6:Q.length=Q'.length:=by
    have:=congrArg List.length h5;simp only[List.length_append,List.length_cons]at this;omega
   have h7:=(List.append_inj h5 h6).2;have h8:c.toNat=c'.toNat:=(List.cons.inj h7).1;have k1:=(hT.kid i hi c hc).1.1;have k2:=(hT.kid i hi c' hc').1.1;exact hne om
theorem QnP(hT:TOk co ns)(h0:0<ns.length):∀(f:Nat)(v:Vis)(P:List Nat),Gx.Way ns (v.i::P)->P.length+f=ns.length->(vis ns f v).map Vis.i=(btN ns f v.i).nodes.map Prod.fst
 | 0,v,P,hw,hf=>by
  have:=XW hT h0 hw;simp only[List.length_cons]at this;omega
 | f+1,v,P,hw,hf=>by
  have hi:=QdU hT h0 hw;rw[vis,btN,BT.nodes,ZI,List.map_cons,List.map_cons,List.map_flatMap,List.map_flatMap];congr 1;rw[<-Qfx];refine QfS λk hk=>?_;have hkl:=List.mem_range.1 hk
  have hc:(nth ns v.i).cs.getD k 0∈(nth ns v.i).cs:=by
   rw[List.getD_eq_getElem?_getD,List.getElem?_eq_getElem hkl];exact List.getElem_mem hkl
  exact QnP hT h0 f ⟨((nth ns v.i).cs.getD k 0).toNat,v.d+1,loK (nth ns v.i).es k v.lo,hiK (nth ns v.i).es k v.hi⟩ (v.i::P) (Qd7 hT hw hi hc) (by simp only[List.length_cons];omega)
end
def InB(co:Int)(lo hi:Option (List UInt8))(x:TEnt):Prop:=(∀b,lo=some b->QM co b x.key<0)/\(∀b,hi=some b->QM co x.key b<0)
theorem Qmi{t:Tre}{v:Vis}{x:TEnt}:Zx t v x=true ↔ (∃b,v.lo=some b/\0<=QM t.co b x.key)\/(∃b,v.hi=some b/\0<=QM t.co x.key b):=by
 unfold Zx;cases v.lo<;>cases v.hi<;>simp
theorem Qp5{t:Tre}{v:Vis}{x:TEnt}(h:¬Zx t v x=true):InB t.co v.lo v.hi x:=by
 rw[Qmi]at h;refine⟨λb hb=>?_,λb hb=>?_⟩
 ·rcases Int.lt_or_le (QM t.co b x.key) 0 with h1|h1
  ·exact h1
  ·exact absurd (.inl ⟨b,hb,h1⟩) h
 ·rcases Int.lt_or_le (QM t.co x.key b) 0 with h1|h1
  ·exact h1
  ·exact absurd (.inr ⟨b,hb,h1⟩) h
theorem QgC{co:Int}{hi:Option (List UInt8)}:∀{es:List TEnt}{ks:List BT}{lo:Option (List UInt8)},ks.length=es.length+1->Srt co es->(∀x∈es,InB co lo hi x) ->
  (∀k,k<ks.length->Srt co (nth ks k).flat/\∀x∈(nth ks k).flat,InB co (loK es k lo) (hiK es k hi) x)->Srt co (flatL es ks)/\∀x∈flatL es ks,InB co lo hi x
 | [],[],_,h,_,_,_=>absurd h (by simp)
 | [],k::k'::ks,_,h,_,_,_=>absurd h (by simp)
 | [],[k],lo,_,_,_,hk=>by
  rw[flatL,flatL,List.append_nil];exact hk 0 (by simp)
 | e::es,[],_,h,_,_,_=>absurd h (by simp)
 | e::es,k::ks,lo,hl,hs,hb,hk=>by
  have hp:=List.pairwise_cons.1 hs;have he:=hb e (List.mem_cons_self ..);have h0:=hk 0 (by simp);have e0:nth (k::ks) 0=k:=rfl;have e1:loK (e::es) 0 lo=lo:=if_neg (Nat.lt_irrefl 0);have e2:hiK (e::es) 0 hi=some e.key:=if_pos (by simp);rw[e0,e1,e2]at h0
  have ih:=QgC (co:=co) (hi:=hi) (es:=es) (ks:=ks) (lo:=some e.key) (by simpa using hl) hp.2 (λx hx=>⟨λb hb'=>by injection hb' with hb';subst hb';exact hp.1 x hx,(hb x (List.mem_cons_of_mem _ hx)).2⟩) (λq hq=>by
   have h1:=hk (q+1) (by simpa using hq);have e3:nth (k::ks) (q+1)=nth ks q:=rfl
   have e4:loK (e::es) (q+1) lo=loK es q (some e.key):=by
    unfold loK;rw[if_pos om];rcases Nat.eq_zero_or_pos q with h9|h9
    ·subst h9;rfl
    ·rw[if_pos h9];obtain⟨r,rfl⟩:∃r,q=r+1:=⟨q-1,om⟩;rfl
   have e5:hiK (e::es) (q+1) hi=hiK es q hi:=by
    unfold hiK
    by_cases h9:q<es.length
    ·rw[if_pos h9,if_pos (by simpa using h9)];rfl
    ·rw[if_neg h9,if_neg (by simpa using h9)]
   rw[e3,e4,e5]at h1;exact h1)
  rw[flatL];have hge:∀x∈flatL es ks,QM co e.key x.key<0:=λx hx=>(ih.2 x hx).1 _ rfl;have hle:∀x∈k.flat,QM co x.key e.key<0:=λx hx=>(h0.2 x hx).2 _ rfl;refine⟨List.pairwise_append.2 ⟨h0.1,List.pairwise_cons.2 ⟨hge,ih.1⟩,λx hx y hy=>?_⟩,λx hx=>?_⟩
  ·rcases List.mem_cons.1 hy with rfl|hy
   ·exact hle x hx
   ·exact Yk (hle x hx) (hge y hy)
  ·rcases List.mem_append.1 hx with hx|hx
   ·exact⟨(h0.2 x hx).1,λb hb'=>Yk (hle x hx) (he.2 b hb')⟩
   ·rcases List.mem_cons.1 hx with rfl|hx
    ·exact he
    ·exact⟨λb hb'=>Yk (he.1 b hb') (hge x hx),(ih.2 x hx).2⟩
theorem Qi9{t:Tre}{deep:Int}{v:Vis}(h:Qcu t deep v=0):¬Zo t v=true/\(∀x∈(nth t.ns v.i).es,InB t.co v.lo v.hi x)/\((nth t.ns v.i).cs.length=0->v.d=deep+1):=by
 rw[Qba]at h;split at h
 ·exact absurd h (by decide)
 ·rename_i h1;split at h
  ·exact absurd h (by decide)
  ·rename_i h2;split at h
   ·exact absurd h (by decide)
   ·rename_i h3;refine⟨h1,λx hx=>Qp5 λh4=>h2 ?_,λh4=>?_⟩
    ·unfold Zb;exact List.any_eq_true.2 ⟨x,hx,h4⟩
    ·rcases Int.lt_trichotomy v.d (deep+1)with h5|h5|h5
     ·exact absurd ⟨h4,om⟩ h3
     ·exact h5
     ·exact absurd ⟨h4,om⟩ h3
theorem Qlt{t:Tre}(h:(X5 t t.ns.length 0 []).2=0){i:Nat}(hi:i<t.ns.length)(hu:(nth t.ns i).us=true):((nth t.ns i).es.length:Int)<=YD t.mo t.rm i:=by
 obtain⟨s,hs⟩:=(QfC (f:=t.ns.length) (i:=0) om h List.nodup_nil).1 i (Nat.zero_le _) hi;rw[Qgq t i hu]at hs;have h4:nE4 t i s=0:=hs;unfold nE4 at h4;split at h4
 ·rename_i h3;have h2:=QpF t i h3;unfold nE2 at h2;split at h2
  ·rename_i h1;unfold nE1 at h1;split at h1
   ·assumption
   ·exact absurd h1 (by decide)
  ·rename_i h1;exact absurd h2 h1
 ·rename_i h3;exact absurd h4 h3
theorem Qkq{t:Tre}{deep:Int}{lo hi rt:Nat}(hz:Sz t.mo t.rm lo hi rt)(hT:TOk t.co t.ns)(h0:0<t.ns.length)(hmost:∀i,i<t.ns.length->(nth t.ns i).us=true->((nth t.ns i).es.length:Int)<=YD t.mo t.rm i):∀(f:Nat)(v:Vis)(P:List Nat),Gx.Way t.ns (v.i::P)->P.length+f=t.ns.length->(∀u∈vis t.ns f v,Qcu t deep u=0) ->
  ∃d:Nat,v.d+(d:Int)=deep+1/\Bel lo hi d (btN t.ns f v.i)/\Srt t.co (btN t.ns f v.i).flat/\∀x∈(btN t.ns f v.i).flat,InB t.co v.lo v.hi x
 | 0,v,P,hw,hf,_=>by
  have:=XW hT h0 hw;simp only[List.length_cons]at this;omega
 | f+1,v,P,hw,hf,hE=>by
  have hi':=QdU hT h0 hw;have hv:=Qi9 (hE v (by rw[vis];exact List.mem_cons_self ..));have hasc:=Srt.of_asc (hT.asc v.i hi');rw[btN,BT.flat];rcases hT.shape v.i hi' with hs|hs
  ·have hcs:(nth t.ns v.i).cs=[]:=List.eq_nil_of_length_eq_zero hs;rw[hcs,List.map_nil,XC];exact⟨0,by have:=hv.2.2 hs;simpa using this,rfl,hasc,hv.2.1⟩
  ·have key:∀k,k<(nth t.ns v.i).cs.length->∃d:Nat,v.d+1+(d:Int)=deep+1/\Bal lo hi d (btN t.ns f ((nth t.ns v.i).cs.getD k 0).toNat)/\Srt t.co (btN t.ns f ((nth t.ns v.i).cs.getD k 0).toNat).flat/\∀x∈(btN t.ns f ((nth t.ns v.i).cs.getD k 0).toNat).flat,InB t.co (loK (nth t.ns v.i).es k v.lo) (hiK (nth t.ns v.i).es k v.hi) x:=λk hk=>by
    have hc:(nth t.ns v.i).cs.getD k 0∈(nth t.ns v.i).cs:=by
     rw[List.getD_eq_getElem?_getD,List.getElem?_eq_getElem hk];exact List.getElem_mem hk
    have hwk:=Qd7 hT hw hi' hc
    have hmem:∀u∈vis t.ns f (XT t.ns v k),u∈vis t.ns (f+1) v:=λu hu=>by
     rw[vis];exact List.mem_cons_of_mem _ (List.mem_flatMap.2 ⟨k,List.mem_range.2 hk,hu⟩)
    obtain⟨d,h1,h2,h3,h4⟩:=Qkq hz hT h0 hmost f (XT t.ns v k) (v.i::P) hwk (by simp only[List.length_cons];omega) λu hu=>hE u (hmem u hu);have hki:=QdU hT h0 hwk;have hku:=Ql4 hT h0 hwk;have hk1:=(hT.kid v.i hi' _ hc).1.1
    obtain⟨f',rfl⟩:∃f',f=f'+1:=by
     cases f with
     | zero=>
      have:=XW hT h0 hwk;simp only[List.length_cons]at this;omega
     | succ f'=>exact⟨f',rfl⟩
    have hkv:=Qi9 (hE (XT t.ns v k) (hmem _ (by rw[vis];exact List.mem_cons_self ..)));refine⟨d,h1,Zk.2 ⟨h2,?_,?_⟩,h3,h4⟩
    ·have hg:=hkv.1;unfold Zo at hg;simp only[Bool.and_eq_true,Bool.or_eq_true,decide_eq_true_eq,not_and,not_or]at hg;have h5:=(hg (show 0<(XT t.ns v k).i by show 0<((nth t.ns v.i).cs.getD k 0).toNat;omega)).1;have e1:=hz.emo;have e2:=hz.elo;show lo<=(nth t.ns ((nth t.ns v.i).cs.getD k 0).toNat).es.length;have h6:¬((nth t.ns ((nth t.ns v.i).cs.getD k 0).toNat).es.length:Int)<t.mo/2:=h5;omega
    ·have h5:=hmost _ hki hku;unfold YD at h5;rw[if_neg om]at h5;have e1:=hz.emo;show(nth t.ns ((nth t.ns v.i).cs.getD k 0).toNat).es.length<=hi;omega
   obtain⟨d,hd,_⟩:=key 0 om
   have hnk:∀k,k<(nth t.ns v.i).cs.length->nth ((nth t.ns v.i).cs.map λc=>btN t.ns f c.toNat) k=btN t.ns f ((nth t.ns v.i).cs.getD k 0).toNat:=λk hk=>QP (by
    rw[List.getElem?_map,List.getElem?_eq_getElem hk,List.getD_eq_getElem?_getD,List.getElem?_eq_getElem hk];rfl)
   have hfl:=QgC (co:=t.co) (hi:=v.hi) (es:=(nth t.ns v.i).es) (ks:=(nth t.ns v.i).cs.map λc=>btN t.ns f c.toNat) (lo:=v.lo) (by rw[List.length_map];exact hs) hasc hv.2.1 λk hk=>by
    rw[List.length_map]at hk;rw[hnk k hk];obtain⟨_,_,_,h3,h4⟩:=key k hk;exact⟨h3,h4⟩
   refine⟨d+1,by simp only[Int.natCast_add,Int.natCast_one];omega,⟨by show(List.map _ _).length=_;rw[List.length_map];exact hs,λk hk=>?_⟩,hfl.1,hfl.2⟩;obtain⟨c,hc,rfl⟩:=List.mem_map.1 hk;obtain⟨q,hq,rfl⟩:=List.getElem_of_mem hc;obtain⟨d2,hd2,h2,_⟩:=key q hq;have e:d2=d:=om
   subst e;rw[List.getD_eq_getElem?_getD,List.getElem?_eq_getElem hq]at h2;exact h2
mutual
theorem QcY:∀(T:BT)(x:TEnt),x∈T.flat->∃p∈T.nodes,x∈p.2.es
 | .nd i es ks,x,h=>by
  rw[BT.flat]at h;rw[BT.nodes];rcases flat_nodesL es ks x h with h|⟨p,hp,hx⟩
  ·exact⟨_,List.mem_cons_self ..,h⟩
  ·exact⟨p,List.mem_cons_of_mem _ hp,hx⟩
theorem flat_nodesL:∀(es:List TEnt)(ks:List BT)(x:TEnt),x∈flatL es ks->x∈es\/∃p∈nodesL ks,x∈p.2.es
 | es,[],x,h=>by
  rw[XC]at h;exact .inl h
 | [],k::ks,x,h=>by
  rw[flatL]at h;rw[nodesL];rcases List.mem_append.1 h with h|h
  ·obtain⟨p,hp,hx⟩:=QcY k x h;exact .inr ⟨p,List.mem_append_left _ hp,hx⟩
  ·rcases flat_nodesL [] ks x h with h|⟨p,hp,hx⟩
   ·exact .inl h
   ·exact .inr ⟨p,List.mem_append_right _ hp,hx⟩
 | e::es,k::ks,x,h=>by
  rw[flatL]at h;rw[nodesL];rcases List.mem_append.1 h with h|h
  ·obtain⟨p,hp,hx⟩:=QcY k x h;exact .inr ⟨p,List.mem_append_left _ hp,hx⟩
  ·rcases List.mem_cons.1 h with rfl|h
   ·exact .inl (List.mem_cons_self ..)
   ·rcases flat_nodesL es ks x h with h|⟨p,hp,hx⟩
    ·exact .inl (List.mem_cons_of_mem _ h)
    ·exact .inr ⟨p,List.mem_append_right _ hp,hx⟩
end
theorem Ql3{t:Tre}(h:(QZ t).2=0):∃T d,Xc t.ns T/\VT t.co (t.mo.toNat/2) t.mo.toNat t.rm.toNat d T/\Sz t.mo t.rm (t.mo.toNat/2) t.mo.toNat t.rm.toNat/\XF t.ns:=by
 obtain⟨hc,hs,h0,hl,hn,hsh,_⟩:=ZQ h;have hT:=QaK hn;have hz:=Qmu hs
 have hop:Z3 t.ns ((Yx t.ns).map Vis.i) t.ns.length 0=none:=by
  cases e:Z3 t.ns ((Yx t.ns).map Vis.i) t.ns.length 0 with
  | none=>rfl
  | some i=>
   rw[QcJ e]at hsh;have h21:(21:Int)=0:=hsh;exact absurd h21 (by decide)
 rw[QcD hop]at hsh;have hall:=Qj7 hsh;have hmost:=λi hi hu=>Qlt (t:=t) hn (i:=i) hi hu;have hw:Gx.Way t.ns [0]:=rfl;obtain⟨d,hd,hB,hS,_⟩:=Qkq hz hT h0 hmost t.ns.length ZU [] hw (by simp) hall;have hvb:=QnP hT h0 t.ns.length ZU [] hw (by simp);have hget:=Qdl hT h0 t.ns.length 0 [] hw (by simp)
 have hR:Xc t.ns (btN t.ns t.ns.length 0):=by
  refine⟨λp hp=>(hget p hp).1,Qmm hT h0 t.ns.length 0 [] hw (by simp),λi hi hm=>?_⟩;cases hu:(nth t.ns i).us with
  | true=>
   have:=QhH hop i (Nat.zero_le _) om hu;exact absurd (hvb▸this) hm
  | false=>
   have h1:=hT.free i hi hu;have h2:=h1.2;cases hnd:nth t.ns i with
   | mk us es cs=>
    rw[hnd]at h2 hu;simp only at h2 hu;rw[hu,h2.1,h2.2]
 have hroot:=hR.root;rw[QeH]at hroot;have hes:(btN t.ns t.ns.length 0).es=(nth t.ns 0).es:=by rw[hroot.2]
 have hu0:(nth t.ns 0).us=true:=by rw[hroot.2]
 refine⟨_,d,hR,⟨QeH _ _ _,hB,?_,λe k hk=>?_,hS,λx hx=>?_⟩,hz,?_⟩
 ·have h1:=hmost 0 h0 hu0;unfold YD at h1;rw[if_pos rfl]at h1;rw[hes];have:=hz.erm;omega
 ·obtain⟨f,hf⟩:∃f,t.ns.length=f+1:=⟨t.ns.length-1,om⟩;have hkm:k∈(btN t.ns t.ns.length 0).ks:=by rw[hk];exact List.mem_cons_self ..
  have hk':=hkm;rw[hf]at hk';obtain⟨c,hcm,rfl⟩:=List.mem_map.1 (show k∈(nth t.ns 0).cs.map λc=>btN t.ns f c.toNat from hk');have hwk:=Qd7 hT hw h0 hcm;have hki:=QdU hT h0 hwk
  obtain⟨f',rfl⟩:∃f',f=f'+1:=by
   cases f with
   | zero=>
    have:=XW hT h0 hwk;simp only[List.length_cons,List.length_nil]at this;omega
   | succ f'=>exact⟨f',rfl⟩
  have hk1:=(hT.kid 0 h0 c hcm).1.1
  have hgv:∃v∈Yx t.ns,v.i=c.toNat:=by
   have:c.toNat∈(Yx t.ns).map Vis.i:=by
    show c.toNat∈(vis t.ns t.ns.length ZU).map Vis.i;rw[hvb,hf];rw[show ZU.i=0 from rfl,btN,BT.nodes,ZI,List.map_cons];refine List.mem_cons_of_mem _ (List.mem_map.2 ?_);have hid:=(btN t.ns (f'+1) c.toNat).idx_mem;rw[QeH]at hid;obtain⟨p,hp,ep⟩:=List.mem_map.1 hid;exact⟨p,List.mem_flatMap.2 ⟨c,hcm,hp⟩,ep⟩
   obtain⟨v,hv,e⟩:=List.mem_map.1 this;exact⟨v,hv,e⟩
  obtain⟨v,hv,hvi⟩:=hgv;have hg:=(Qi9 (hall v hv)).1;unfold Zo at hg;simp only[Bool.and_eq_true,Bool.or_eq_true,decide_eq_true_eq,not_and,not_or]at hg;have h5:=(hg om).2 ⟨by rw[<-hes,e];rfl,by rw[hvi,Int.toNat_of_nonneg om];exact hcm⟩;rw[hvi]at h5;show t.rm.toNat<(nth t.ns c.toNat).es.length;have:=hz.erm;omega
 ·obtain⟨p,hp,hx⟩:=QcY _ x hx;have h1:=RepN.at_ (i:=p.1) (x:=p.2) hR hp;exact hT.ents p.1 h1.1 x (by rw[h1.2];exact hx)
 ·unfold XF;cases hu:(nth t.ns (t.ns.length-1)).us with
  | true=>rfl
  | false=>
   have:=(hT.free (t.ns.length-1) om hu).1.2;omega
def Zt(ns:List Nd):Prop:=∀i,i<ns.length->(nth ns i).us=true
section
variable{ns:List Nd}
theorem Zt.es(h:Zt ns)(i:Nat)(es:List TEnt):Zt (esN ns i es):=λk hk=>by
 rw[Qpv];exact h k (by rwa[Z9]at hk)
theorem Zt.cs(h:Zt ns)(i:Nat)(cs:List Int):Zt (csN ns i cs):=λk hk=>by
 rw[QpD];exact h k (by rwa[Qb3]at hk)
theorem Zt.fre(h:Zt ns):Zt (QK ns).2:=by
 unfold QK;split
 ·intro k hk;unfold usN at hk ⊢;simp only[List.length_set]at hk;rw[ZR];split
  ·rfl
  ·exact h k hk
 ·intro k hk;simp only[List.length_append,List.length_singleton]at hk;rcases Nat.lt_or_ge k ns.length with h1|h1
  ·rw[QP (show(ns++[(⟨true,[],[]⟩:Nd)])[k]?=some (nth ns k)from by rw[List.getElem?_append_left h1];exact QY h1)];exact h k h1
  ·have e:k=ns.length:=by omega
   subst e;rw[QP (show(ns++[(⟨true,[],[]⟩:Nd)])[ns.length]?=some ⟨true,[],[]⟩from by simp)]
theorem Zt.spl(h:Zt ns)(mo:Int)(i:Nat):Zt (Qak mo ns i):=by
 unfold Qak addP;refine Zt.cs (Zt.es ?_ _ _) _ _;unfold splA;split
 ·exact(h.fre.es _ _).es _ _
 ·exact(((h.fre.es _ _).es _ _).cs _ _).cs _ _
theorem Zt.low(h:Zt ns):Zt (XU ns).2:=by
 unfold XU;exact(((h.fre.es _ _).cs _ _).es _ _).cs _ _
theorem Zt.grw(h:Zt ns)(mo:Int)(P:List Nat):Zt (XV mo ns P):=by
 unfold XV
 induction P generalizing ns with
 | nil=>exact h
 | cons i P ih=>
  rw[List.foldl_cons];refine ih ?_;unfold QaZ;split
  ·exact h.spl _ _
  ·exact h
theorem Zt.ins(h:Zt ns)(co mo rm:Int)(x:TEnt):Zt (Z1 co mo rm ns x):=by
 unfold Z1;split
 ·exact h
 ·unfold Qej;have h1:=(h.es (YX co ns x.key) (QF (nth ns (YX co ns x.key)).es (Qh co ns x.key).2.1 x)).grw mo (Qh co ns x.key).1.reverse;unfold Qan;split
  ·split
   ·exact h1.low.spl _ _
   ·exact h1.low
  ·exact h1
end
theorem QdB{α:Type}[DecidableEq α]:∀{l m:List α},l.Nodup->(∀x∈l,x∈m)->l.length<=m.length
 | [],_,_,_=>Nat.zero_le _
 | a::l,m,hd,hs=>by
  have h1:=List.nodup_cons.1 hd;have ha:=hs a (List.mem_cons_self ..);have h2:=QdB (l:=l) (m:=m.erase a) h1.2 λx hx=>(List.mem_erase_of_ne (λe=>h1.1 (by rw[<-e];exact hx))).2 (hs x (List.mem_cons_of_mem _ hx));rw[List.length_erase_of_mem ha]at h2;have h3:=List.length_pos_of_mem ha;simp only[List.length_cons];omega
theorem Zt.len{ns:List Nd}{T:BT}(h:Zt ns)(hR:Xc ns T):ns.length<=T.nodes.length:=by
 have:=QdB (l:=List.range ns.length) (m:=T.nodes.map Prod.fst) List.nodup_range λx hx=>by
  by_cases hm:x∈T.nodes.map Prod.fst
  ·exact hm
  ·have hx:=List.mem_range.1 hx;have h1:=h x hx;rw[RepN.rest hR x hx hm]at h1;cases h1
 simpa using this
theorem Zm:∀{es:List TEnt}{ks:List BT},(∀k∈ks,k.nodes.length<=k.flat.length)->(nodesL ks).length+es.length<=(flatL es ks).length
 | es,[],_=>by
  rw[XC,nodesL];simp
 | [],k::ks,h=>by
  have h1:=h k (List.mem_cons_self ..);have h2:=Zm (es:=[]) (ks:=ks) λq hq=>h q (List.mem_cons_of_mem _ hq);rw[flatL,nodesL];simp only[List.length_append,List.length_nil]at h2 ⊢;omega
 | e::es,k::ks,h=>by
  have h1:=h k (List.mem_cons_self ..);have h2:=Zm (es:=es) (ks:=ks) λq hq=>h q (List.mem_cons_of_mem _ hq);rw[flatL,nodesL];simp only[List.length_append,List.length_cons]at h2 ⊢;omega
theorem Qgs{lo hi:Nat}(h0:1<=lo):∀{d:Nat}{T:BT},Bal lo hi d T->T.nodes.length<=T.flat.length
 | 0,.nd i es ks,h=>by
  have h1:=Zm (es:=es) (ks:=ks) λk hk=>by
   have e:ks=[]:=h.1;rw[e]at hk;cases hk
  have h2:lo<=es.length:=h.2.1;rw[BT.nodes,BT.flat,List.length_cons];omega
 | d+1,.nd i es ks,h=>by
  have h1:=Zm (es:=es) (ks:=ks) λk hk=>Qgs h0 (h.1.2 k hk);have h2:lo<=es.length:=h.2.1;rw[BT.nodes,BT.flat,List.length_cons];omega
theorem QkS{lo hi d:Nat}(h0:1<=lo){T:BT}(h:Bel lo hi d T):T.nodes.length<=T.flat.length+1:=by
 cases T with
 | nd i es ks=>
  have h1:=Zm (es:=es) (ks:=ks) λk hk=>by
   cases d with
   | zero=>
    have e:ks=[]:=h;rw[e]at hk;cases hk
   | succ d=>exact Qgs h0 (h.2 k hk)
  rw[BT.nodes,BT.flat,List.length_cons];omega
mutual
theorem QbD:∀(T:BT)(p:Nat×Nd),p∈T.nodes->p.2.es.Sublist T.flat
 | .nd i es ks,p,h=>by
  rw[BT.nodes]at h;rw[BT.flat];rcases List.mem_cons.1 h with rfl|h
  ·exact Qhh es ks
  ·exact nodesL_es es ks p h
theorem nodesL_es:∀(es:List TEnt)(ks:List BT)(p:Nat×Nd),p∈nodesL ks->p.2.es.Sublist (flatL es ks)
 | es,[],p,h=>by
  rw[nodesL]at h;cases h
 | [],k::ks,p,h=>by
  rw[nodesL]at h;rw[flatL];rcases List.mem_append.1 h with h|h
  ·exact(QbD k p h).trans (List.sublist_append_left ..)
  ·exact(nodesL_es [] ks p h).trans (List.sublist_append_right ..)
 | e::es,k::ks,p,h=>by
  rw[nodesL]at h;rw[flatL];rcases List.mem_append.1 h with h|h
  ·exact(QbD k p h).trans (List.sublist_append_left ..)
  ·exact((nodesL_es es ks p h).cons e).trans (List.sublist_append_right ..)
end
theorem Qih{lo hi:Nat}:∀{d:Nat}{T:BT},Bel lo hi d T->∀p∈T.nodes,p.2.cs.length=0\/p.2.cs.length=p.2.es.length+1
 | 0,.nd i es ks,h,p,hp=>by
  have e:ks=[]:=h;rw[e,BT.nodes,nodesL]at hp;rcases List.mem_cons.1 hp with rfl|hp
  ·exact .inl rfl
  ·cases hp
 | d+1,.nd i es ks,h,p,hp=>by
  rw[BT.nodes]at hp;rcases List.mem_cons.1 hp with rfl|hp
  ·exact .inr (by show(Q8 ks).length=_;rw[X4];exact h.1)
  ·obtain⟨k,hk,hp⟩:=QdL (k:=default) hp;exact Qih (Zk.1 (h.2 k hk)).1 p hp
theorem QgS{co:Int}{lo hi rt d:Nat}{ns:List Nd}{T:BT}(hR:Xc ns T)(hV:VT co lo hi rt d T)(hu:XF ns):TOk co ns:=by
 have hat:∀p∈T.nodes,p.1<ns.length/\nth ns p.1=p.2:=λp hp=>RepN.at_ (i:=p.1) (x:=p.2) hR hp
 have hcs:∀i,i<ns.length->(i∈T.nodes.map Prod.fst/\(i,nth ns i)∈T.nodes)\/nth ns i=⟨false,[],[]⟩:=λi hi=>by
  by_cases hm:i∈T.nodes.map Prod.fst
  ·refine .inl ⟨hm,?_⟩;obtain⟨p,hp,rfl⟩:=List.mem_map.1 hm;rw[(hat p hp).2];exact hp
  ·exact .inr (RepN.rest hR i hi hm)
 have hkp:=QcZ T
 have hnd:((((T.idx:Nat):Int)::Yj T.nodes)).Nodup:=hkp.nodup_iff.2 (by
  have h1:=RepN.nd hR;unfold List.Nodup at h1 ⊢;rw[List.pairwise_map]at h1 ⊢;exact h1.imp λh e=>h om)
 refine⟨λi hi c hc=>?_,?_,λi hi=>?_,λi hi hus=>?_,λi hi=>?_,λi hi x hx=>?_⟩
 ·rcases hcs i hi with⟨_,hm⟩|he
  ·have hck:c∈Yj T.nodes:=List.mem_flatMap.2 ⟨_,hm,hc⟩;obtain⟨q,hq,rfl⟩:=List.mem_map.1 (hkp.mem_iff.1 (List.mem_cons_of_mem _ hck));have h1:=hat q hq
   have h2:q.1≠0:=λe=>by
    have h3:=(List.nodup_cons.1 hnd).1;rw[hV.idx]at h3;rw[e]at hck;exact h3 hck
   refine⟨om,?_⟩;rw[Int.toNat_natCast,h1.2];exact ZW T q hq
  ·rw[he]at hc;cases hc
 ·have hk2:=(List.nodup_cons.1 hnd).2;unfold Yj List.Nodup at hk2;rw[List.pairwise_flatMap]at hk2;unfold List.Nodup;rw[List.pairwise_flatMap];refine⟨λx hx=>?_,List.pairwise_iff_getElem.2 λi j hi hj hij=>?_⟩
  ·obtain⟨i,hi,rfl⟩:=List.getElem_of_mem hx;rw[<-QP (List.getElem?_eq_getElem hi)];rcases hcs i hi with⟨_,hm⟩|he
   ·exact hk2.1 _ hm
   ·rw[he];exact List.Pairwise.nil
  ·rw[<-QP (List.getElem?_eq_getElem hi),<-QP (List.getElem?_eq_getElem hj)];intro x hx y hy e;rcases hcs i hi with⟨_,hm⟩|he
   ·rcases hcs j hj with⟨_,hm2⟩|he
    ·obtain⟨a,ha,ea⟩:=List.getElem_of_mem hm;obtain⟨b,hb,eb⟩:=List.getElem_of_mem hm2;have hp:=List.pairwise_iff_getElem.1 hk2.2;rcases Nat.lt_trichotomy a b with h|h|h
     ·exact hp a b ha hb h x (by rw[ea];exact hx) y (by rw[eb];exact hy) e
     ·subst h;rw[ea]at eb;have:=congrArg Prod.fst eb;simp only at this;omega
     ·exact hp b a hb ha h y (by rw[eb];exact hy) x (by rw[ea];exact hx) e.symm
    ·rw[he]at hy;cases hy
   ·rw[he]at hx;cases hx
 ·rcases hcs i hi with⟨_,hm⟩|he
  ·exact Qih hV.bel _ hm
  ·rw[he];exact .inl rfl
 ·rcases hcs i hi with⟨_,hm⟩|he
  ·have:=ZW T _ hm;simp only at this;rw[hus]at this;cases this
  ·refine⟨⟨?_,?_⟩,by rw[he],by rw[he]⟩
   ·have h1:=(Xc.root hR).2;rw[hV.idx]at h1;rcases Nat.eq_zero_or_pos i with e|h
    ·rw[e,h1]at hus;cases hus
    ·exact h
   ·unfold XF at hu
    by_cases e:i=ns.length-1
    ·rw[e,hu]at hus;cases hus
    ·omega
 ·rcases hcs i hi with⟨_,hm⟩|he
  ·exact Srt.asc (List.Pairwise.sublist (QbD T _ hm) hV.srt)
  ·rw[he];intro k hk;exact absurd hk (by simp)
 ·rcases hcs i hi with⟨_,hm⟩|he
  ·exact hV.ents x ((QbD T _ hm).subset hx)
  ·rw[he]at hx;cases hx
theorem Qql{co mo rm:Int}{lo hi rt d:Nat}{ns:List Nd}{T:BT}(hz:Sz mo rm lo hi rt)(hR:Xc ns T)(hV:VT co lo hi rt d T)(hl:ns.length<=1000):Bd ns:=by
 have h1:=hR.sm hV.bel (Nat.le_refl _) (Nat.le_trans hV.root hz.rh);have:=hz.hi8;exact⟨hl,λi hi=>Nat.le_trans (h1 i).1 om,λi hi=>Nat.le_trans (h1 i).2 om⟩
section
variable(co mo rm:Int)(l:List TEnt)
def YT:Nat->List Nd
 | 0=>[⟨true,[],[]⟩]
 | k+1=>Z1 co mo rm (YT k) (nth l k)
def QcC(k:Nat):Int:=if XP co (nth l k)=0 then Qgf co mo rm (YT co mo rm l k) (nth l k)else XP co (nth l k)
def Qag:List Int:=(List.range l.length).map (QcC co mo rm l)
end
structure BldOk(co mo rm:Int)(lo hi rt k:Nat)(ns:List Nd):Prop where
 tree:∃T d,Xc ns T/\VT co lo hi rt d T/\T.flat.length=k
 all:Zt ns
 len:ns.length<=k+1
 pos:0<ns.length
section
variable{co mo rm:Int}{lo hi rt k:Nat}{l:List TEnt}{ns:List Nd}{x:TEnt}
theorem QkO:(Qag co mo rm l).length=l.length:=by simp[Qag]
theorem QdC{k:Nat}(hk:k<l.length):(Qag co mo rm l).getD k 0=QcC co mo rm l k:=by
 unfold Qag;rw[List.getD_eq_getElem?_getD,List.getElem?_map,List.getElem?_range hk];rfl
theorem Qhk(h:QcC co mo rm l k=0):XP co (nth l k)=0/\Qgf co mo rm (YT co mo rm l k) (nth l k)=0:=by
 unfold QcC at h;split at h
 ·exact⟨by assumption,h⟩
 ·exact absurd h (by assumption)
theorem BldOk.last(h:BldOk co mo rm lo hi rt k ns):XF ns:=h.all _ (by have:=h.pos;omega)
theorem BldOk.tok(h:BldOk co mo rm lo hi rt k ns):TOk co ns:=by
 obtain⟨T,d,hR,hV,_⟩:=h.tree;exact QgS hR hV h.last
theorem BldOk.bd(hz:Sz mo rm lo hi rt)(h:BldOk co mo rm lo hi rt k ns)(hk:k<=999):Bd ns:=by
 obtain⟨T,d,hR,hV,_⟩:=h.tree;exact Qql hz hR hV (by have:=h.len;omega)
theorem BldOk.sm(hz:Sz mo rm lo hi rt)(h:BldOk co mo rm lo hi rt k ns):Sm 900 ns:=by
 obtain⟨T,d,hR,hV,_⟩:=h.tree;exact(hR.sm hV.bel (Nat.le_refl _) (Nat.le_trans hV.root hz.rh)).mono (by have:=hz.hi8;omega)
theorem BldOk.ins(hz:Sz mo rm lo hi rt)(h:BldOk co mo rm lo hi rt k ns)(hk:k<=399)(hx:XP co x=0)(hnf:¬(Qh co ns x.key).2.2=true):InsOk co mo rm ns x/\InsROk co mo rm ns x/\Qlk co mo rm ns x=Z1 co mo rm ns x/\BldOk co mo rm lo hi rt (k+1) (Z1 co mo rm ns x):=by
 obtain⟨T,d,hR,hV,hfl⟩:=h.tree;have hI:=Qkz hz hR hV (by have:=h.len;omega) h.last hx hnf;obtain⟨T2,d2,hR2,hV2,hf2⟩:=hI.tree;have hall:=h.all.ins co mo rm x;have hlo:1<=lo:=by have:=hz.elo;have:=hz.hi3;omega
 have hfl2:T2.flat.length=k+1:=by rw[hf2,YB (ZJ _ _ _),hfl]
 refine⟨hI.ok,hI.okR,hI.same,⟨T2,d2,hR2,hV2,hfl2⟩,hall,?_,by have:=hI.len.1;have:=h.pos;omega⟩;have h1:=hall.len hR2;have h2:=QkS hlo hV2.bel;omega
theorem QeF(hz:Sz mo rm lo hi rt):BldOk co mo rm lo hi rt 0 [⟨true,[],[]⟩]:=by
 refine⟨⟨.nd 0 [] [],0,⟨λp hp=>?_,?_,λi hi hm=>?_⟩,⟨rfl,rfl,Nat.zero_le _,?_,?_,λx hx=>?_⟩,?_⟩,λi hi=>?_,Nat.le_refl _,Nat.succ_pos _⟩
 ·rw[BT.nodes,nodesL]at hp;rcases List.mem_singleton.1 hp with rfl
  rfl
 ·rw[BT.nodes,nodesL];exact List.pairwise_singleton _ _
 ·refine absurd ?_ hm;rw[BT.nodes,nodesL];have h1:i<1:=hi;have e:i=0:=by omega
  rw[e];exact List.mem_cons_self ..
 ·intro _ k hk;cases hk
 ·exact List.Pairwise.nil
 ·rw[BT.flat,XC]at hx;cases hx
 ·rw[BT.flat,XC];rfl
 ·have h1:i<1:=hi;have e:i=0:=by omega
  rw[e];rfl
theorem Qam(hz:Sz mo rm lo hi rt):∀{k:Nat},k<=119->(∀i,i<k->QcC co mo rm l i=0)->BldOk co mo rm lo hi rt k (YT co mo rm l k)
 | 0,_,_=>QeF hz
 | k+1,hk,h=>by
  have h1:=Qhk (h k (Nat.lt_succ_self k))
  exact(BldOk.ins hz (Qam hz om λi hi=>h i om) om h1.1 (λh2=>by
   have h3:=h1.2;unfold Qgf at h3;rw[if_pos h2]at h3;cases h3)).2.2.2
theorem QoO(hz:Sz mo rm lo hi rt)(hk:k<119)(h:∀i,i<k->QcC co mo rm l i=0):QcC co mo rm l k=if XP co (nth l k)=0 then if(Qh co (YT co mo rm l k) (nth l k).key).2.2=true then 5 else 0 else XP co (nth l k):=by
 have h0:=Qam hz om h;unfold QcC
 by_cases hx:XP co (nth l k)=0
 ·rw[if_pos hx,if_pos hx];unfold Qgf
  by_cases hf:(Qh co (YT co mo rm l k) (nth l k).key).2.2=true
  ·rw[if_pos hf,if_pos hf]
  ·rw[if_neg hf,if_neg hf,if_pos (by have:=(BldOk.ins hz h0 om hx hf).2.2.2.len;omega)]
 ·rw[if_neg hx,if_neg hx]
end
end Gx
namespace Go.Proofs
open Go Go.RowKit Gx
attribute [local irreducible] Go.Calls Gx.S Gx.O Gx.D Gx.OpP Gx.OpQ Gx.OpH
set_option maxRecDepth 20000
theorem QqA:QH Tryz.prog 110=true:=by kernel_rfl
theorem QpK:QH Tryz.prog 112=true:=by kernel_rfl
instance:TFn Tryz.prog 105:=⟨by kernel_rfl⟩
theorem QnB:Xy Tryz.prog 118=some [.pointer none]:=by kernel_rfl
theorem Qpl(E:Int)(n:Nat):Xm [.int .i64 E,.int .i64 (cond (decide ((n:Int)<=200)) 0 8)]=if E=0 then(if 200<n then 8 else 0)else E:=by
  unfold Xm
  by_cases h:E=0
  · rw[if_pos h,if_pos h]
    by_cases h2:200<n
    · rw[if_pos h2,decide_eq_false om];rfl
    · rw[if_neg h2,decide_eq_true om];rfl
  · rw[if_neg h,if_neg h]
theorem c110(w:World)(bt:Nat)(j:Nat)(mo rm:Int)(gn cap:Nat)(L:List LNd)(x:TEnt)(i:Int)(c4 c13:Nat)(hw:HS w (fps [.blk bt 128 6 (tbV (j:Int) mo rm (some ⟨gn,0,none⟩) (L).length cap),.blk gn 64 (cap*3) ((L).flatMap LNd.vals),.star ((L).map (Qw 76))]) [.blk bt 128 6 (tbV (j:Int) mo rm (some ⟨gn,0,none⟩) (L).length cap),.blk gn 64 (cap*3) ((L).flatMap LNd.vals),.star ((L).map (Qw 76))] w)(hnc:L.length<=cap)(hcm:cap<=maxLen)(hj:j<=3)(h0:0<L.length)(hB:Bd (pln L))(hT:TOk (j:Int) (pln L))(hkk:x.key.length<=1000000)(hok:XP (j:Int) x=0->¬(Qh (j:Int) (pln L) x.key).2.2=true->InsOk (j:Int) mo rm (pln L) x)(hc4:Rd w (fps [.blk bt 128 6 (tbV (j:Int) mo rm (some ⟨gn,0,none⟩) (L).length cap),.blk gn 64 (cap*3) ((L).flatMap LNd.vals),.star ((L).map (Qw 76))]) c4 0 (.int .i64 (j:Int)))(hc13:Rd w (fps [.blk bt 128 6 (tbV (j:Int) mo rm (some ⟨gn,0,none⟩) (L).length cap),.blk gn 64 (cap*3) ((L).flatMap LNd.vals),.star ((L).map (Qw 76))]) c13 0 (.pointer (some ⟨bt,0,none⟩))):CE 110 #[.int .i64 i,.agg #[.string (bs x.key),.string (bs x.val)],.pointer (some ⟨c4,0,none⟩),.pointer (some ⟨c13,0,none⟩)] w (fps [.blk bt 128 6 (tbV (j:Int) mo rm (some ⟨gn,0,none⟩) (L).length cap),.blk gn 64 (cap*3) ((L).flatMap LNd.vals),.star ((L).map (Qw 76))]) (λg:(Nat×Nat)×List LNd=>.int .i64 (if XP (j:Int) x=0 then Qgf (j:Int) mo rm (pln L) x else XP (j:Int) x)) (λg=>(pln g.2=(if XP (j:Int) x=0 then Z1 (j:Int) mo rm (pln L) x else pln L)/\g.2.length<=g.1.2/\g.1.2<=maxLen)) λg=>[.blk bt 128 6 (tbV (j:Int) mo rm (some ⟨g.1.1,0,none⟩) (g.2).length g.1.2),.blk g.1.1 64 (g.1.2*3) ((g.2).flatMap LNd.vals),.star ((g.2).map (Qw 76))]:=by
 refine eW4 Tryz.func110 Tryz.ntmps110 hw ?_
 refine aU2 ?_
 refine oBx λb1 _=>?_
 refine aU5 ?_
 refine o_q (Qc rfl rfl Xq (hc4)) rfl (aU ?_)
 refine oCq rfl (λw1 h1=>c111 w1 j x hj hkk) (aU7 ?_)
 refine sCd rfl (λh2=>?_) λh2=>?_
 ·have hx0:¬XP (j:Int) x=0:=by have hq:=h2;exact hq
  refine aU5 ?_
  exact rT rfl rfl (λw' h'=>⟨((gn,cap),L),by simp only[QV];rw[if_neg hx0],⟨by simp only[];rw[if_neg hx0],hnc,hcm⟩,h'.ent aEt⟩)
 have hx0:XP (j:Int) x=0:=by have hq:=h2;exact hq
 refine aU3 ?_
 refine o_q (Qc rfl rfl YE (hc13)) rfl (aU ?_)
 refine o_h (QT (Cs:=[.blk bt 128 6 (tbV (j:Int) mo rm (some ⟨gn,0,none⟩) (L).length cap),.blk gn 64 (cap*3) ((L).flatMap LNd.vals),.star ((L).map (Qw 76))]) rfl QpK rfl aPs (λw1 h1 hf=>c112 w1 bt j mo rm gn cap L x hf hnc hcm hj h0 hB hT (Zq hx0) (hok hx0))) rfl (λ⟨⟨g5,c5⟩,L5⟩hF5=>aU2 ?_)
 exact rT rfl rfl (λw' h'=>⟨((g5,c5),L5),by simp only[QV];rw[if_pos hx0],⟨by simp only[];rw[if_pos hx0];exact hF5.1,hF5.2.1,hF5.2.2⟩,h'.ent aEt⟩)
theorem Qpj(w:World)(bt:Nat)(j:Nat)(mo rm:Int)(gn cap:Nat)(L:List LNd)(al:Option Addr)(ca:Nat)(l:List TEnt)(c4 c13:Nat)(lo hi rt:Nat)(hw:HS w (fps [.blk bt 128 6 (tbV (j:Int) mo rm (some ⟨gn,0,none⟩) (L).length cap),.blk gn 64 (cap*3) ((L).flatMap LNd.vals),.star ((L).map (Qw 76))]) [.blk bt 128 6 (tbV (j:Int) mo rm (some ⟨gn,0,none⟩) (L).length cap),.blk gn 64 (cap*3) ((L).flatMap LNd.vals),.star ((L).map (Qw 76))] w)(hnc:L.length<=cap)(hcm:cap<=maxLen)(hj:j<=3)(hz:Sz mo rm lo hi rt)(hl:l.length<=118)(hlk:∀x∈l,x.key.length<=1000000)(hs:Rw TEnt.vals 2 w (fps [.blk bt 128 6 (tbV (j:Int) mo rm (some ⟨gn,0,none⟩) (L).length cap),.blk gn 64 (cap*3) ((L).flatMap LNd.vals),.star ((L).map (Qw 76))]) al l)(hL0:pln L=(YT (j:Int) mo rm l 0))(hc4:Rd w (fps [.blk bt 128 6 (tbV (j:Int) mo rm (some ⟨gn,0,none⟩) (L).length cap),.blk gn 64 (cap*3) ((L).flatMap LNd.vals),.star ((L).map (Qw 76))]) c4 0 (.int .i64 (j:Int)))(hc13:Rd w (fps [.blk bt 128 6 (tbV (j:Int) mo rm (some ⟨gn,0,none⟩) (L).length cap),.blk gn 64 (cap*3) ((L).flatMap LNd.vals),.star ((L).map (Qw 76))]) c13 0 (.pointer (some ⟨bt,0,none⟩))):CE 109 #[.slice al l.length ca,.func (.func 110) #[] #[.pointer (some ⟨c4,0,none⟩),.pointer (some ⟨c13,0,none⟩)]] w (fps [.blk bt 128 6 (tbV (j:Int) mo rm (some ⟨gn,0,none⟩) (L).length cap),.blk gn 64 (cap*3) ((L).flatMap LNd.vals),.star ((L).map (Qw 76))]) (λg:(Nat×Nat)×List LNd=>.tuple #[.int .i64 (QU (Qag (j:Int) mo rm l) 0).1,.int .i64 (QU (Qag (j:Int) mo rm l) 0).2]) (λg=>(((QU (Qag (j:Int) mo rm l) 0).2=0->pln g.2=(YT (j:Int) mo rm l l.length))/\g.2.length<=g.1.2/\g.1.2<=maxLen)) λg=>[.blk bt 128 6 (tbV (j:Int) mo rm (some ⟨g.1.1,0,none⟩) (g.2).length g.1.2),.blk g.1.1 64 (g.1.2*3) ((g.2).flatMap LNd.vals),.star ((g.2).map (Qw 76))]:=by
 refine eW2 Tryz.func109 Tryz.ntmps109 hw ?_
 refine Z5 ?_
 refine Qt (α:=(Nat×(Nat×Nat))×List LNd) [4,5,6,7,8,11,12,13,14,15,16,17,18,19,20,21,22,23,24] (λx=>[(11,.int .i64 (x.1.1:Int))]) (λx=>HS w (fps [.blk bt 128 6 (tbV (j:Int) mo rm (some ⟨gn,0,none⟩) (L).length cap),.blk gn 64 (cap*3) ((L).flatMap LNd.vals),.star ((L).map (Qw 76))]) [.blk bt 128 6 (tbV (j:Int) mo rm (some ⟨x.1.2.1,0,none⟩) (x.2).length x.1.2.2),.blk x.1.2.1 64 (x.1.2.2*3) ((x.2).flatMap LNd.vals),.star ((x.2).map (Qw 76))]) (λx=>x.1.1<=l.length/\(QU (Qag (j:Int) mo rm l) 0)=QU ((Qag (j:Int) mo rm l).drop x.1.1) x.1.1/\(∀i,i<x.1.1->QcC (j:Int) mo rm l i=0)/\pln x.2=(YT (j:Int) mo rm l x.1.1)/\x.2.length<=x.1.2.2/\x.1.2.2<=maxLen) (λx=>l.length-x.1.1) ((0,(gn,cap)),L) ⟨Nat.zero_le _,rfl,λi h=>absurd h (Nat.not_lt_zero i),hL0,hnc,hcm⟩ aSx (λw h=>h.ent aEt) (λ⟨⟨k,gn1,cap1⟩,L1⟩hx=>?_)
 dsimp only
 obtain⟨hk1,hk2,hk3,hk4,hk5,hk6⟩:=hx
 simp only[]at hk1 hk2 hk3 hk4 hk5 hk6
 have hbo:=Qam (l:=l) hz (show k<=119 by omega) hk3
 have hel:=QkO (co:=(j:Int)) (mo:=mo) (rm:=rm) (l:=l)
 refine aU5 ?_
 refine sCd rfl (λh1=>?_) λh1=>?_
 ·refine aU6 ?_
  refine o_p (Qa rfl rfl rfl QL (k) om om (Rw.some hs om)) rfl (o_q (Qu _ rfl rfl Ye rfl (Rw.rd hs om)) rfl (oAl (λb2 _=>?_) Xi))
  refine aU8 ?_
  refine o_h (Qdk (Cs:=[.blk bt 128 6 (tbV (j:Int) mo rm (some ⟨gn1,0,none⟩) (L1).length cap1),.blk gn1 64 (cap1*3) ((L1).flatMap LNd.vals),.star ((L1).map (Qw 76))]) rfl rfl QqA rfl aPs (λw1 h1 hf=>c110 w1 bt j mo rm gn1 cap1 L1 (nth l k) (k:Int) c4 c13 hf hk5 hk6 hj (by have h9:=hbo.pos;rw[<-hk4,Qb]at h9;exact h9) (by rw[hk4];exact hbo.bd hz om) (by rw[hk4];exact hbo.tok) (hlk _ (QQ om)) (by rw[hk4];exactλhx hf=>(hbo.ins hz om hx hf).1) ((h1.keep hc4).mono (Xf aPs)) ((h1.keep hc13).mono (Xf aPs)))) rfl (λ⟨⟨g5,c5⟩,L5⟩hF5=>Qm (show _=Value.int .i64 (QcC (j:Int) mo rm l k)from by unfold QcC;rw[hk4]) (aU7 ?_))
  refine sCd rfl (λh3=>?_) λh3=>?_
  ·have hb0:¬QcC (j:Int) mo rm l k=0:=by have hq:=h3;exact hq
   refine aU7 ?_
   exact Qf (rs:=[.tmp 4,.tmp 5]) rfl (.tmp rfl (.tmp rfl (.nil))) (λw' h'=>⟨((g5,c5),L5),by simp only[QV];rw[hk2,Xp om,QdC om,if_neg hb0],⟨λh9=>by rw[hk2,Xp om,QdC om,if_neg hb0]at h9;exact absurd h9 hb0,hF5.2.1,hF5.2.2⟩,h'.ent aEt⟩)
  have hb0:QcC (j:Int) mo rm l k=0:=by have hq:=h3;exact hq
  refine aT4 ?_
  refine aU2 ?_
  exact sBk ((k+1,(g5,c5)),L5) (by(try simp only[]);omega) ⟨by(try simp only[]);omega,by simp only[];rw[hk2,Xp om,if_pos (by rw[QdC om];exact hb0)],λi hi=>(Nat.lt_or_ge i k).elim (hk3 i) (λh=>by have hi9:i<k+1:=hi;obtain rfl:i=k:=om;exact hb0),by simp only[];rw[hF5.1,if_pos (Qhk hb0).1,hk4];rfl,hF5.2.1,hF5.2.2⟩
 refine Qi rfl ?_
 refine aU5 ?_
 exact Qf (rs:=[.tmp 4,.tmp 5]) rfl (.tmp rfl (.tmp rfl (.nil))) (λw' h'=>⟨((gn1,cap1),L1),by simp only[QV];rw[hk2,Qcp om],⟨λ_=>by simp only[];rw[hk4];congr 1;omega,hk5,hk6⟩,h'.ent aEt⟩)
theorem Qpc(w:World)(j:Nat)(mo rm:Int)(hj:j<=3)(hs0:YI mo rm=0):CE 105 #[.int .i64 (j:Int),.int .i64 mo,.int .i64 rm] w [] (λg:(Option Addr×Nat)×List LNd=>.tuple #[.agg #[.int .i64 (j:Int),.int .i64 mo,.int .i64 rm,.slice g.1.1 g.2.length g.1.2],.int .i64 0]) (λg=>pln g.2=[⟨true,[],[]⟩]) λg=>[.nodes 76 64 g.1.1 g.1.2 g.2]:=by
  have hcE:Q0 (j:Int)=0:=by unfold Q0;rw[if_pos om]
  have hEE:(if Q0 (j:Int)=0 then YI mo rm else Q0 (j:Int))=0:=by rw[if_pos hcE];exact hs0
  have hemp:Qgc (j:Int) mo rm=⟨(j:Int),mo,rm,[⟨true,[],[]⟩]⟩:=by unfold Qgc;rw[if_pos hEE]
  have h9:=c105 w (j:Int) mo rm;simp only[hemp,hEE]at h9;exact h9
theorem c63x(w:World)(j:Nat)(mo rm:Int)(al:Option Addr)(ca:Nat)(l:List TEnt)(hs:Rw TEnt.vals 2 w [] al l)(hl9:l.length<=1000)(hl:l.length<=118)(hj:j<=3)(hs0:YI mo rm=0)(hlk:∀x∈l,x.key.length<=1000000)(hx:¬(QU (Qag (j:Int) mo rm l) 0).2=0):CR 63 #[.int .i64 (j:Int),.int .i64 mo,.int .i64 rm,.slice al l.length ca] w (.tuple #[.agg #[.int .i64 0,.int .i64 0,.int .i64 0,.slice none 0 0],.int .i64 (QU (Qag (j:Int) mo rm l) 0).1,.int .i64 (QU (Qag (j:Int) mo rm l) 0).2]):=by
 have hz:=Qmu hs0
 have hb1:=QeF (co:=(j:Int)) hz
 refine eN4 Tryz.func63 Tryz.ntmps63 ?_
 refine aU2 ?_
 refine oBx λb1 _=>?_
 refine oAl (λb2 _=>?_) Xw
 refine aU8 ?_
 refine oCh rfl (λw1 h1=>Qpc w1 j mo rm hj hs0) (λ⟨⟨ae,ce⟩,LE⟩hLE=>?_)
 dsimp only
 have hLE2:pln LE=[⟨true,[],[]⟩]:=hLE
 have hLEn:LE.length=1:=by rw[<-Qb,hLE2];rfl
 refine aU3 ?_
 refine oAl (λb3 _=>?_) Xw
 refine YR ?_
 refine oCq rfl (λw1 h1=>QbB w1 _ _) (o_h (Qd (cs:=[_,_]) rfl rfl XI Yv rfl rfl rfl) rfl (λb4 _=>oCq rfl (λw1 h1=>Qju h1 aPk (by rfl) (by rfl) (by decide)) (Qm (show _=Value.int .i64 0 from by rw[Qpl,if_pos rfl,if_neg om]) (aU7 ?_))))
 refine sCd rfl (λh5=>?_) λh5=>?_
 ·exfalso;first|omega|(simp at h5;done)|(simp_all;done)
 refine aU4 ?_
 refine oCh rfl (λw1 h1=>QqR w1 j mo rm ae ce LE (HS.nt h1 aPk) (by rw[hLE2];exact hb1.bd hz om) hj om) (λ⟨b9,⟨a9,c9⟩,L9⟩hF9=>?_)
 dsimp only
 have hF92:pln L9=pln LE:=hF9
 refine Qdd (λw h=>Qai (by rw[<-Qb,hF92,Qb];omega) h aPk) λg9=>?_
 refine Xo (λw h=>h.1) λhg9=>Xo (λw h=>h.2.1) λhn9=>Xo (λw h=>h.2.2.1) λhm9=>Q6 (λw h=>h.2.2.2) ?_
 subst hg9
 refine oAl (λb6 _=>?_) QnB
 refine aU7 ?_
 refine o_h (QT (Cs:=[.blk b9 128 6 (tbV (j:Int) mo rm (some ⟨g9,0,none⟩) (L9).length c9),.blk g9 64 (c9*3) ((L9).flatMap LNd.vals),.star ((L9).map (Qw 76))]) rfl Qje rfl aPs (λw1 h1 hf=>Qpj w1 b9 j mo rm g9 c9 L9 al ca l b1 b6 _ _ _ hf hn9 hm9 hj hz hl hlk ((hs.keep h1).mono (Xf aPs)) (by rw[hF9,hLE2];rfl) (h1.rd_blkF aPs (b:=b1) aPk rfl) (h1.rd_blkF aPs (b:=b6) aPk rfl))) rfl (λ⟨⟨g5,c5⟩,L5⟩hF5=>aU7 ?_)
 refine Qg (L':=[(3,_),(8,_),(9,_),(10,_),(13,_),(14,_),(15,_)]) aSx (λ_ h=>h) ?_
 refine aU4 ?_
 refine sCd rfl (λh7=>?_) λh7=>?_
 ·refine aU2 ?_
  refine o_p (QD (cs:=[_,_,_,_]) rfl rfl Qed Xw rfl) rfl (aU6 ?_)
  exact Qf (rs:=[.cell 8 27,.tmp 9,.tmp 10]) rfl (.cell rfl Yf aPk rfl (.tmp rfl (.tmp rfl (.nil)))) (λw' h'=>⟨rfl,h'.below⟩)
 exfalso;first|omega|(simp at h7;done)|(simp_all;done)
theorem QpT(w:World)(j:Nat)(mo rm:Int)(al:Option Addr)(ca:Nat)(l:List TEnt)(hs:Rw TEnt.vals 2 w [] al l)(hl9:l.length<=1000)(hl:l.length<=118)(hj:j<=3)(hs0:YI mo rm=0)(hlk:∀x∈l,x.key.length<=1000000)(hx:(QU (Qag (j:Int) mo rm l) 0).2=0):CE 63 #[.int .i64 (j:Int),.int .i64 mo,.int .i64 rm,.slice al l.length ca] w [] (λg:(Nat×Nat)×List LNd=>.tuple #[.agg #[.int .i64 (j:Int),.int .i64 mo,.int .i64 rm,.slice (some ⟨g.1.1,0,none⟩) g.2.length g.1.2],.int .i64 (l.length:Int),.int .i64 0]) (λg=>pln g.2=(YT (j:Int) mo rm l l.length)) λg=>[.nodes 76 64 (some ⟨g.1.1,0,none⟩) g.1.2 g.2]:=by
 have hz:=Qmu hs0
 have hb1:=QeF (co:=(j:Int)) hz
 refine eN4 Tryz.func63 Tryz.ntmps63 ?_
 refine aU2 ?_
 refine oBx λb1 _=>?_
 refine oAl (λb2 _=>?_) Xw
 refine aU8 ?_
 refine oCh rfl (λw1 h1=>Qpc w1 j mo rm hj hs0) (λ⟨⟨ae,ce⟩,LE⟩hLE=>?_)
 dsimp only
 have hLE2:pln LE=[⟨true,[],[]⟩]:=hLE
 have hLEn:LE.length=1:=by rw[<-Qb,hLE2];rfl
 refine aU3 ?_
 refine oAl (λb3 _=>?_) Xw
 refine YR ?_
 refine oCq rfl (λw1 h1=>QbB w1 _ _) (o_h (Qd (cs:=[_,_]) rfl rfl XI Yv rfl rfl rfl) rfl (λb4 _=>oCq rfl (λw1 h1=>Qju h1 aPk (by rfl) (by rfl) (by decide)) (Qm (show _=Value.int .i64 0 from by rw[Qpl,if_pos rfl,if_neg om]) (aU7 ?_))))
 refine sCd rfl (λh5=>?_) λh5=>?_
 ·exfalso;first|omega|(simp at h5;done)|(simp_all;done)
 refine aU4 ?_
 refine oCh rfl (λw1 h1=>QqR w1 j mo rm ae ce LE (HS.nt h1 aPk) (by rw[hLE2];exact hb1.bd hz om) hj om) (λ⟨b9,⟨a9,c9⟩,L9⟩hF9=>?_)
 dsimp only
 have hF92:pln L9=pln LE:=hF9
 refine Qdd (λw h=>Qai (by rw[<-Qb,hF92,Qb];omega) h aPk) λg9=>?_
 refine Xo (λw h=>h.1) λhg9=>Xo (λw h=>h.2.1) λhn9=>Xo (λw h=>h.2.2.1) λhm9=>Q6 (λw h=>h.2.2.2) ?_
 subst hg9
 refine oAl (λb6 _=>?_) QnB
 refine aU7 ?_
 refine o_h (QT (Cs:=[.blk b9 128 6 (tbV (j:Int) mo rm (some ⟨g9,0,none⟩) (L9).length c9),.blk g9 64 (c9*3) ((L9).flatMap LNd.vals),.star ((L9).map (Qw 76))]) rfl Qje rfl aPs (λw1 h1 hf=>Qpj w1 b9 j mo rm g9 c9 L9 al ca l b1 b6 _ _ _ hf hn9 hm9 hj hz hl hlk ((hs.keep h1).mono (Xf aPs)) (by rw[hF9,hLE2];rfl) (h1.rd_blkF aPs (b:=b1) aPk rfl) (h1.rd_blkF aPs (b:=b6) aPk rfl))) rfl (λ⟨⟨g5,c5⟩,L5⟩hF5=>aU7 ?_)
 refine Qg (L':=[(3,_),(8,_),(9,_),(10,_),(13,_),(14,_),(15,_)]) aSx (λ_ h=>h) ?_
 refine aU4 ?_
 refine sCd rfl (λh7=>?_) λh7=>?_
 ·exfalso;first|omega|(simp at h7;done)|(simp_all;done)
 refine Z5 ?_
 exact Qf (rs:=[.cell 8 27,.tmp 9,.tmp 10]) rfl (.cell rfl Yf aPk rfl (.tmp rfl (.tmp rfl (.nil)))) (λw' h'=>⟨((g5,c5),L5),rfl,hF5.1 hx,(QeW (h'.ent (Bs:=[.blk g5 64 (c5*3) (L5.flatMap LNd.vals),.star (L5.map (Qw 76))]) aEt) hF5.2.1 hF5.2.2)⟩)
end Go.Proofs
namespace Gx
open Go Go.RowKit
section
variable{es:List TEnt}{ks:List BT}{k:Nat}
def Zw(es:List TEnt)(ks:List BT):Nat->List TEnt
 | 0=>[]
 | k+1=>(Zw es ks k++if 0<ks.length then(nth ks k).flat else[])++if k<es.length then[nth es k]else[]
def QcO(es:List TEnt)(ks:List BT)(k:Nat):List TEnt:=Zw es ks k++if 0<ks.length then(nth ks k).flat else[]
theorem Qdy:Zw es ks (k+1)=QcO es ks k++if k<es.length then[nth es k]else[]:=rfl
theorem Qbz(h:k<es.length):Zw es ks (k+1)=QcO es ks k++[nth es k]:=by rw[Qdy,if_pos h]
theorem Qep(h:¬k<es.length):Zw es ks (k+1)=QcO es ks k:=by rw[Qdy,if_neg h,List.append_nil]
theorem Qaq(h:0<ks.length):QcO es ks k=Zw es ks k++(nth ks k).flat:=by rw[QcO,if_pos h]
theorem Qeu(h:¬0<ks.length):QcO es ks k=Zw es ks k:=by rw[QcO,if_neg h,List.append_nil]
theorem QfU{α:Type}[Inhabited α]{l:List α}{i:Nat}(h:i<l.length):l.drop i=nth l i::l.drop (i+1):=by
 rw[List.drop_eq_getElem_cons h,show nth l i=l[i]from QP (List.getElem?_eq_getElem h)]
theorem Qgw:∀{k:Nat},k<=es.length->Zw es [] k=es.take k
 | 0,_=>by rw[Zw,List.take_zero]
 | k+1,h=>by
  rw[Qbz om,Qeu (by simp),Qgw om,List.take_add_one,QY om];rfl
theorem Qgy(h:ks.length=es.length+1):∀{k:Nat},k<=es.length->Zw es ks k++flatL (es.drop k) (ks.drop k)=flatL es ks
 | 0,_=>by rw[Zw,List.drop_zero,List.drop_zero,List.nil_append]
 | k+1,hk=>by
  have h1:=Qgy (k:=k) h om;rw[QfU (l:=es) (i:=k) om,QfU (l:=ks) (i:=k) om,flatL]at h1;rw[Qbz om,Qaq om,<-h1];simp
theorem Qfw(h:ks=[]\/ks.length=es.length+1):Zw es ks (es.length+1)=flatL es ks:=by
 rcases h with h|h
 ·subst h;rw[Qep om,Qeu (by simp),Qgw (Nat.le_refl _),List.take_length,XC]
 ·have h1:=Qgy (k:=es.length) h (Nat.le_refl _);rw[QfU (l:=ks) (i:=es.length) om,List.drop_length,flatL,List.drop_of_length_le om,flatL]at h1;rw[Qep om,Qaq om,<-h1,List.append_nil]
theorem Qm2:(Zw es ks k).length<=(QcO es ks k).length:=by
 unfold QcO;rw[List.length_append];omega
theorem Qi1:(QcO es ks k).length<=(Zw es ks (k+1)).length:=by
 rw[Qdy,List.length_append];omega
theorem Qof{m:Nat}(h:k<=m):(Zw es ks k).length<=(Zw es ks m).length:=by
 obtain⟨d,rfl⟩:=Nat.exists_eq_add_of_le h
 clear h
 induction d with
 | zero=>exact Nat.le_refl _
 | succ d ih=>exact Nat.le_trans ih (Nat.le_trans Qm2 Qi1)
theorem Qfp(h:ks=[]\/ks.length=es.length+1)(hk:k<=es.length+1):(Zw es ks k).length<=(flatL es ks).length:=by
 rw[<-Qfw h];exact Qof hk
theorem QiY(h:ks=[]\/ks.length=es.length+1)(hk:k<=es.length):(QcO es ks k).length<=(flatL es ks).length:=Nat.le_trans Qi1 (Qfp h om)
def NIn(ns:List Nd)(T:BT):Prop:=∀p∈T.nodes,p.1<ns.length/\nth ns p.1=p.2
theorem Xc.nin{ns:List Nd}{T:BT}(h:Xc ns T):NIn ns T:=λp hp=>RepN.at_ (i:=p.1) (x:=p.2) h hp
theorem NIn.root{ns:List Nd}{i:Nat}(h:NIn ns (.nd i es ks)):i<ns.length/\nth ns i=⟨true,es,Q8 ks⟩:=by
 refine h (i,⟨true,es,Q8 ks⟩) ?_;rw[BT.nodes];exact List.mem_cons_self ..
theorem Qe2{k:BT}{p:Nat×Nd}:∀{ks:List BT},k∈ks->p∈k.nodes->p∈nodesL ks
 | [],h,_=>(nomatch h)
 | x::ks,h,hp=>by
  rw[nodesL];rcases List.mem_cons.1 h with rfl|h
  ·exact List.mem_append_left _ hp
  ·exact List.mem_append_right _ (Qe2 h hp)
theorem Ql9{ks:List BT}{k:Nat}(h:k<ks.length):nth ks k∈ks:=QQ h
theorem NIn.kid{ns:List Nd}{i:Nat}(h:NIn ns (.nd i es ks))(hk:k<ks.length):NIn ns (nth ks k):=λp hp=>h p (by
 rw[BT.nodes];exact List.mem_cons_of_mem _ (Qe2 (Ql9 hk) hp))
theorem QoV(hk:k<ks.length):(Q8 ks).getD k 0=((nth ks k).idx:Int):=by
 unfold Q8;rw[List.getD_eq_getElem?_getD,List.getElem?_map,QY hk];rfl
theorem QoJ{lo hi d i:Nat}(h:Bel lo hi (d+1) (.nd i es ks))(hk:k<ks.length):Bel lo hi d (nth ks k):=(Zk.1 (h.2 _ (Ql9 hk))).1
theorem Qrv{lo hi i:Nat}(h:Bel lo hi 0 (.nd i es ks)):ks=[]:=h
end
mutual
theorem QcE(m:Nat):∀T:BT,(∀p∈T.nodes,p.2.es.length<=m)->T.flat.length<=T.nodes.length*m
 | .nd i es ks,h=>by
  rw[BT.nodes]at h ⊢;have h1:=flatL_bound m es ks λp hp=>h p (List.mem_cons_of_mem _ hp);have h2:=h (i,⟨true,es,Q8 ks⟩) (List.mem_cons_self ..);simp only at h2;rw[BT.flat,List.length_cons,Nat.succ_mul];omega
theorem flatL_bound(m:Nat):∀(es:List TEnt)(ks:List BT),(∀p∈nodesL ks,p.2.es.length<=m)->(flatL es ks).length<=(nodesL ks).length*m+es.length
 | es,[],_=>by
  rw[XC];omega
 | [],k::ks,h=>by
  rw[nodesL]at h ⊢;have h1:=QcE m k λp hp=>h p (List.mem_append_left _ hp);have h2:=flatL_bound m [] ks λp hp=>h p (List.mem_append_right _ hp);rw[flatL,List.length_append,List.length_append,Nat.add_mul];omega
 | e::es,k::ks,h=>by
  rw[nodesL]at h ⊢;have h1:=QcE m k λp hp=>h p (List.mem_append_left _ hp);have h2:=flatL_bound m es ks λp hp=>h p (List.mem_append_right _ hp);rw[flatL,List.length_append,List.length_append,Nat.add_mul,List.length_cons,List.length_cons];omega
end
theorem Xc.flat_len{ns:List Nd}{T:BT}{m:Nat}(h:Xc ns T)(hm:∀i,i<ns.length->(nth ns i).es.length<=m):T.flat.length<=ns.length*m:=by
 refine Nat.le_trans (QcE m T λp hp=>?_) (Nat.mul_le_mul_right m h.nlen);have h1:=h.nin p hp;rw[<-h1.2];exact hm _ h1.1
theorem Qop{es:List TEnt}{ks:List BT}{k:Nat}(h:ks.length=es.length+1)(hk:k<ks.length):(nth ks k).flat.length<=(flatL es ks).length:=by
 have h1:=congrArg List.length (Qaq (es:=es) (ks:=ks) (k:=k) om);rw[List.length_append]at h1;have h2:=QiY (es:=es) (ks:=ks) (k:=k) (.inr h) om;omega
end Gx
namespace Go.Proofs
open Go Go.RowKit Gx
attribute [local irreducible] Go.Calls Gx.S Gx.O Gx.D Gx.OpP Gx.OpQ Gx.OpH
set_option maxRecDepth 20000
theorem Qpt:QH Tryz.prog 88=true:=by kernel_rfl
instance:TFn Tryz.prog 88:=⟨Qpt⟩
theorem c88s(w:World)(co mo rm:Int)(a:Option Addr)(cap:Nat)(L:List LNd)(i:Nat)(es:List TEnt)(ks:List BT)(hs:Nt w [] a L)(hl:L.length<=1000)(hi:i<L.length)(hn:nth (pln L) i=⟨true,es,Q8 ks⟩)(hsh:ks=[]\/ks.length=es.length+1)(hfl:(flatL es ks).length<=10000)(ih:∀(w1:World)(k:Nat),k<ks.length->Nt w1 [] a L->Calls Tryz.prog 88 #[.agg #[.int .i64 co,.int .i64 mo,.int .i64 rm,.slice a L.length cap],.int .i64 ((nth ks k).idx:Int)] w1 λen w'=>∃g:Option Addr×Nat,en=.returned (.slice g.1 ((nth ks k).flat).length g.2)/\True/\HS w1 [] [.own (.slice g.1 ((nth ks k).flat).length g.2) 76 2 ((nth ks k).flat).length (((nth ks k).flat).flatMap TEnt.vals)] w'):CE 88 #[.agg #[.int .i64 co,.int .i64 mo,.int .i64 rm,.slice a L.length cap],.int .i64 (i:Int)] w [] (λg:Option Addr×Nat=>.slice g.1 ((flatL es ks)).length g.2) (λg=>True) λg=>[.own (.slice g.1 ((flatL es ks)).length g.2) 76 2 ((flatL es ks)).length (((flatL es ks)).flatMap TEnt.vals)]:=by
 rw[Qp hi]at hn
 have hes:(nth L i).es=es:=congrArg Nd.es hn
 have hcs:(nth L i).cs=Q8 ks:=congrArg Nd.cs hn
 have hesl:(nth L i).es.length=es.length:=by rw[hes]
 have hcsl:(nth L i).cs.length=ks.length:=by rw[hcs,X4]
 have hel:es.length<=10000:=Nat.le_trans (Qhh es ks).length_le hfl
 have hkl:ks.length<=10001:=by rcases hsh with h|h;rw[h];exact Nat.zero_le _;omega
 refine eN2 Tryz.func88 Tryz.ntmps88 ?_
 refine aU2 ?_
 refine oBx λb1 _=>?_
 refine aU7 ?_
 refine o_p (Qa rfl rfl rfl QE (i) om om (Rw.some hs.1 om)) rfl (o_q (Qu _ rfl rfl Y5 rfl (Rw.rd hs.1 hi)) rfl (oAl (λb2 _=>?_) XY))
 refine Y1 ?_
 refine Qt (α:=Nat×(Option Addr×Nat)) [6,7,13,14,15,16,17,18,19,20,21,22,23,24,25,26,27,28,29,30,31,32,33,34,35,36,37,38,39,40,41,42,43,44,45] (λx=>[(7,.int .i64 (x.1:Int)),(6,.slice x.2.1 (Zw es ks x.1).length x.2.2)]) (λx=>HS w [] [.blk b1 27 4 [.int .i64 co,.int .i64 mo,.int .i64 rm,.slice a L.length cap],.blk b2 64 3 (nth L i).vals,.own (.slice x.2.1 (Zw es ks x.1).length x.2.2) 76 2 (Zw es ks x.1).length ((Zw es ks x.1).flatMap TEnt.vals)]) (λx=>x.1<=es.length+1) (λx=>es.length+1-x.1) (0,(none,0)) (Nat.zero_le _) aSx (λw h=>(h.own_nil 76 2).ent aEt) (λ⟨k,ga,gc⟩hk1=>?_)
 dsimp only
 simp only[]at hk1
 have hm1:=Qfp (k:=k) hsh hk1
 refine aU9 ?_
 refine sCd rfl (λh3=>?_) λh3=>?_
 ·have hke:k<=es.length:=by have hq:=h3;omega
  have hm2:=QiY hsh hke
  have hm3:=Qfp (k:=k+1) hsh om
  refine YZ ?_
  refine Xe (α:=Option Addr×Nat) [6,24,25,26,27,28,29,30,31,32] (λx=>[(6,.slice x.1 (QcO es ks k).length x.2)]) (λx=>HS w [] [.blk b1 27 4 [.int .i64 co,.int .i64 mo,.int .i64 rm,.slice a L.length cap],.blk b2 64 3 (nth L i).vals,.own (.slice x.1 (QcO es ks k).length x.2) 76 2 (QcO es ks k).length ((QcO es ks k).flatMap TEnt.vals)]) (λ_=>True) ?_ ?_
  ·skip
   refine sCd rfl (λh4=>?_) λh4=>?_
   ·have hk0:0<ks.length:=by have hq:=h4;omega
    have hkk:k<ks.length:=by rcases hsh with h|h;rw[h]at hk0;exact absurd hk0 (by decide);omega
    have hm4:=congrArg List.length (Qaq (es:=es) (k:=k) hk0)
    rw[List.length_append]at hm4
    refine Qq [8] Qx ?_
    refine dP 0 ?_
    refine dLn 1 [[7]] ?_
    refine dFa 2 ?_
    refine dLd 3 [[7,6,5]] ?_
    refine dP 4 ?_
    refine dV 5 rfl (Qa rfl rfl rfl QB (k) om om (Rw.some (hs.cs hi) om)) (dQ 6 [[7]] rfl (Qc rfl rfl Xq (((hs.cs hi).rdj 0 (i:=k) om rfl))) (Qs (show _=Value.int .i64 ((nth ks k).idx:Int)from congrArg (Value.int .i64) (by rw[hcs];exact QoV hkk)) (dH 7 rfl (Q3 rfl Qpt rfl (λw1 h1=>ih w1 k hkk (hs.later h1.nil))) (λ⟨gu,gv⟩_=>dBa ?_))))
    refine dH 8 rfl (Qy ((nth ks k).flat.flatMap TEnt.vals) rfl rfl rfl QL Tryz.underlying62 Xi rfl aPk (λw h=>Rw.src ev2 (HS.rw_own ev2 h aPk rfl) (HS.refl w [])) (Qj ev2 _) (Xu ev1 _) om (by simp only[maxLen];omega)) (λb5 _=>dTu [] ?_)
    refine dP 9 ?_
    refine dNi ?_
    exact Qo b5 trivial (by rw[Qaq hk0,List.length_append];exact aSx) (λw h=>by rw[Qaq hk0,List.length_append,List.flatMap_append];exact h.ent aEt)
   have hk0:¬0<ks.length:=by have hq:=h4;omega
   refine aU ?_
   exact Qo (ga,gc) trivial (by rw[Qeu hk0];exact aSx) (λw h=>by rw[Qeu hk0];exact h.ent aEt)
  intro⟨gb,gf⟩ _
  refine aU8 ?_
  refine Qg (L':=[(0,_),(1,_),(2,_),(4,_),(5,_),(6,_),(7,_),(8,_),(9,_),(10,_),(11,_),(12,_),(37,_)]) aSx (λ_ h=>h) ?_
  refine Xe (α:=Option Addr×Nat) [6,38,39,40,41,42,43,44,45] (λx=>[(6,.slice x.1 (Zw es ks (k+1)).length x.2)]) (λx=>HS w [] [.blk b1 27 4 [.int .i64 co,.int .i64 mo,.int .i64 rm,.slice a L.length cap],.blk b2 64 3 (nth L i).vals,.own (.slice x.1 (Zw es ks (k+1)).length x.2) 76 2 (Zw es ks (k+1)).length ((Zw es ks (k+1)).flatMap TEnt.vals)]) (λ_=>True) ?_ ?_
  ·skip
   refine sCd rfl (λh6=>?_) λh6=>?_
   ·have hke2:k<es.length:=by have hq:=h6;omega
    have hm5:=congrArg List.length (Qbz (es:=es) (ks:=ks) hke2)
    rw[List.length_append]at hm5
    refine aU5 ?_
    refine o_p (Qa rfl rfl rfl QL (k) om om (Rw.some (hs.es hi) om)) rfl (o_q (Qu _ rfl rfl Ye rfl (Rw.rd (hs.es hi) om)) rfl (Qm (show _=Value.agg (TEnt.vals (nth es k)).toArray from by rw[hes]) (o_h (Qd (cs:=[_,_]) rfl rfl QL Xi rfl rfl rfl) rfl (λb7 _=>o_h (Qy (TEnt.vals (nth es k)) rfl rfl rfl QL Tryz.underlying62 Xi rfl aPk (Q5 aPk) rfl (ev1 _) (by simp only[List.length_singleton]at hm5;omega) (by simp only[maxLen];omega)) rfl (λb8 _=>aU2 ?_)))))
    exact Qo b8 trivial (by rw[Qbz hke2,List.length_append];exact aSx) (λw h=>by rw[Qbz hke2,List.length_append,List.flatMap_append];simp only[List.flatMap_cons,List.flatMap_nil,List.append_nil];exact h.ent aEt)
   have hke2:¬k<es.length:=by have hq:=h6;omega
   refine aU ?_
   exact Qo (gb,gf) trivial (by rw[Qep hke2];exact aSx) (λw h=>by rw[Qep hke2];exact h.ent aEt)
  intro⟨gd,ge⟩ _
  refine aT4 ?_
  refine aU2 ?_
  exact sBk (k+1,(gd,ge)) (by(try simp only[]);omega) (by(try simp only[]);omega)
 refine Qi rfl ?_
 refine aU5 ?_
 exact rT rfl rfl (λw' h'=>⟨(ga,gc),by have hke:k=es.length+1:=om;simp only[QV];rw[<-Qfw hsh,<-hke],trivial,by have hke:k=es.length+1:=om;rw[<-Qfw hsh,<-hke];exact h'.ent aEt⟩)
theorem c88:∀(d:Nat)(w:World)(co mo rm:Int)(a:Option Addr)(cap:Nat)(L:List LNd)(T:BT)(lo hi:Nat),Nt w [] a L->L.length<=1000->Bel lo hi d T->NIn (pln L) T->T.flat.length<=10000->Calls Tryz.prog 88 #[.agg #[.int .i64 co,.int .i64 mo,.int .i64 rm,.slice a L.length cap],.int .i64 (T.idx:Int)] w λen w'=>∃g:Option Addr×Nat,en=.returned (.slice g.1 (T.flat).length g.2)/\True/\HS w [] [.own (.slice g.1 (T.flat).length g.2) 76 2 (T.flat).length ((T.flat).flatMap TEnt.vals)] w'
  | 0,w,co,mo,rm,a,cap,L,.nd i es ks,lo,hi,hs,hl,hB,hN,hf=>by
    rw[BT.flat]at hf ⊢;have hk:=Qrv hB;exact c88s w co mo rm a cap L i es ks hs hl (by have h9:=hN.root.1;rwa[Qb]at h9) hN.root.2 (.inl hk) hf (λw1 k h=>by rw[hk]at h;exact absurd h (Nat.not_lt_zero _))
  | d+1,w,co,mo,rm,a,cap,L,.nd i es ks,lo,hi,hs,hl,hB,hN,hf=>by
    have hf2:=hf;rw[BT.flat]at hf ⊢;exact c88s w co mo rm a cap L i es ks hs hl (by have h9:=hN.root.1;rwa[Qb]at h9) hN.root.2 (.inr hB.1) hf (λw1 k h h1=>c88 d w1 co mo rm a cap L (nth ks k) lo hi h1 hl (QoJ hB h) (hN.kid h) (Nat.le_trans (Qop hB.1 h) hf))
theorem c88z(w:World)(co mo rm:Int)(a:Option Addr)(cap:Nat)(L:List LNd)(T:BT)(d lo hi:Nat)(hs:Nt w [] a L)(hl:L.length<=1000)(hB:Bel lo hi d T)(hN:NIn (pln L) T)(h0:T.idx=0)(hf:T.flat.length<=10000):CE 88 #[.agg #[.int .i64 co,.int .i64 mo,.int .i64 rm,.slice a L.length cap],.int .i64 0] w [] (λg:Option Addr×Nat=>.slice g.1 (T.flat).length g.2) (λg=>True) λg=>[.own (.slice g.1 (T.flat).length g.2) 76 2 (T.flat).length ((T.flat).flatMap TEnt.vals)]:=by
  have h9:=c88 d w co mo rm a cap L T lo hi hs hl hB hN hf;rw[h0]at h9;exact h9
theorem QeI{w0 w:World}{M:List Nat}{As As':List HA}{a:Option Addr}{cap t k g:Nat}{l:List TEnt}(hk:k<l.length)(hg:a=some ⟨g,0,none⟩)(h:HS w0 M As w)(hp:QC As (.own (.slice a l.length cap) t 2 l.length (l.flatMap TEnt.vals)) As')(q:Nat)(v:Value)(hv:(TEnt.vals (nth l k))[q]?=some v):Rd w [] g (0+k*2+q) v:=by
  have h1:=Rw.rd (h.rw_own ev2 hp rfl) (i:=k) hk q v hv;rw[hg]at h1;exact h1
theorem c48(w:World)(co mo rm:Int)(a:Option Addr)(cap:Nat)(L:List LNd)(T:BT)(d lo hi:Nat)(hs:Nt w [] a L)(hl:L.length<=1000)(hB:Bel lo hi d T)(hN:NIn (pln L) T)(h0:T.idx=0)(hf:T.flat.length<=10000):CE 48 #[.agg #[.int .i64 co,.int .i64 mo,.int .i64 rm,.slice a L.length cap]] w [] (λg:Option Addr×Nat=>.slice g.1 (T.flat).length g.2) (λg=>True) λg=>[.own (.slice g.1 (T.flat).length g.2) 76 2 (T.flat).length ((T.flat).flatMap TEnt.vals)]:=by
 refine eN1 Tryz.func48 Tryz.ntmps48 ?_
 refine aU2 ?_
 refine oBx λb1 _=>?_
 refine aU5 ?_
 refine oCh rfl (λw1 h1=>c88z w1 co mo rm a cap L T d lo hi (hs.later h1.nil) hl hB hN h0 hf) (λ⟨gu,gv⟩_=>aU2 ?_)
 exact rT rfl rfl (λw' h'=>⟨(gu,gv),rfl,trivial,h'.ent aEt⟩)
instance:TFn Tryz.prog 217:=⟨by kernel_rfl⟩
instance:TFn Tryz.prog 218:=⟨by kernel_rfl⟩
instance:TFn Tryz.prog 226:=⟨by kernel_rfl⟩
instance:TFn Tryz.prog 216:=⟨by kernel_rfl⟩
theorem QaO:QH Tryz.prog 150=true:=by kernel_rfl
instance:TFn Tryz.prog 150:=⟨QaO⟩
instance:TFd Tryz.prog 102 1 1 3:=⟨by kernel_rfl⟩
instance:TFd Tryz.prog 102 2 2 3:=⟨by kernel_rfl⟩
instance:TFd Tryz.prog 102 3 3 3:=⟨by kernel_rfl⟩
instance:TFd Tryz.prog 102 0 0 3:=⟨by kernel_rfl⟩
theorem QdS:QH Tryz.prog 149=true:=by kernel_rfl
instance:TFn Tryz.prog 149:=⟨QdS⟩
instance:TFn Tryz.prog 225:=⟨by kernel_rfl⟩
instance:TFn Tryz.prog 214:=⟨by kernel_rfl⟩
instance:TFn Tryz.prog 215:=⟨by kernel_rfl⟩
theorem QmT(w:World)(n lo hi:Int):CR 217 #[.int .i64 n,.int .i64 lo,.int .i64 hi] w (.bool (decide (lo<=n)&&decide (n<=hi))):=by
 refine eN3 Tryz.func217 Tryz.ntmps217 ?_
 refine YR ?_
 refine XJ 4 10 14 rfl
  (λhg1 _=>by
   refine aU6 ?_
   exact oJt 4 14)
  (λhg3 _=>by
   refine aU3 ?_
   exact oJf 4 14) ?_
 refine aU2 ?_
 exact rV
theorem QfM(w:World)(ok:Bool)(e:Int):CR 150 #[.bool ok,.int .i64 e] w (.int .i64 (cond ok 0 e)):=by
 refine eN2 Tryz.func150 Tryz.ntmps150 ?_
 refine aU9 ?_
 refine sCd rfl (λh1=>?_) λh1=>?_
 ·refine aU4 ?_
  exact rV (h:=by simp_all[QV])
 refine aU6 ?_
 exact rV (h:=by simp_all[QV])
theorem c113(w:World)(n lo hi:Int):CR 113 #[.int .i64 n,.int .i64 lo,.int .i64 hi] w (.bool (decide (lo<=n)&&decide (n<=hi))):=by
 refine eN3 Tryz.func113 Tryz.ntmps113 ?_
 refine YR ?_
 refine XJ 4 10 14 rfl
  (λhg1 _=>by
   refine aU6 ?_
   exact oJt 4 14)
  (λhg3 _=>by
   refine aU3 ?_
   exact oJf 4 14) ?_
 refine aU2 ?_
 exact rV
theorem c33(w:World)(ok:Bool)(e:Int):CR 33 #[.bool ok,.int .i64 e] w (.int .i64 (cond ok 0 e)):=by
 refine eN2 Tryz.func33 Tryz.ntmps33 ?_
 refine aU9 ?_
 refine sCd rfl (λh1=>?_) λh1=>?_
 ·refine aU4 ?_
  exact rV (h:=by simp_all[QV])
 refine aU6 ?_
 exact rV (h:=by simp_all[QV])
theorem c205(w:World)(ok:Bool)(e:Int):CR 205 #[.bool ok,.int .i64 e] w (.int .i64 (cond ok 0 e)):=by
 refine eN2 Tryz.func205 Tryz.ntmps205 ?_
 refine aU9 ?_
 refine sCd rfl (λh1=>?_) λh1=>?_
 ·refine aU4 ?_
  exact rV (h:=by simp_all[QV])
 refine aU6 ?_
 exact rV (h:=by simp_all[QV])
theorem c149(w:World)(a:Option Addr)(cap:Nat)(es:List Int)(hs:Sl w [] a 1 es.length (λi=>[.int .i64 (es.getD i 0)]))(hm:es.length<=1000):CR 149 #[.slice a es.length cap] w (.int .i64 (YF es)):=by
 refine eN1 Tryz.func149 Tryz.ntmps149 ?_
 refine Y1 ?_
 refine Qt (α:=Nat) [2,4,7,8,9,10,11,12,13,14] (λk=>[(7,.int .i64 (k:Int))]) (λ_=>_) (λk=>k<=es.length/\YF es=YF (es.drop k)) (λk=>es.length-k) 0 ⟨om,rfl⟩ aSx (λw h=>h) (λk hk=>?_)
 obtain⟨hk1,hk2⟩:=hk
 refine aU5 ?_
 refine sCd rfl (λh1=>?_) λh1=>?_
 ·refine aU5 ?_
  refine o_p (Qa rfl rfl rfl XI _ rfl om (hs.some om)) rfl (o_q (Qc rfl rfl QlD (hs.rd (i:=k) (j:=0) om rfl)) rfl (aU7 ?_))
  refine sCd rfl (λh2=>?_) λh2=>?_
  ·refine aU5 ?_
   exact rV (h:=by simp only[QV];rw[hk2,YV om,if_neg (by assumption)])
  refine aT4 ?_
  refine aU2 ?_
  exact QR (k+1) om ⟨om,by rw[hk2,YV om,if_pos (by assumption)]⟩ aSx (λw h=>h)
 refine Qi rfl ?_
 refine aU4 ?_
 exact rV (h:=by simp only[QV];rw[hk2,QcT om])
theorem QkP{w0 w:World}{M:List Nat}{As As':List HA}{b cap n:Nat}{t:TypeId}{tot:Nat}{cs:List Value}(h:HS w0 M As w)(hp:QC As (.blk b t tot cs) As')(hc:cs.all QgO=true)(hn:cs.length=n)(hl:n<=1000) :
    Calls Tryz.prog 149 #[.slice (some ⟨b,0,none⟩) n cap] w λen w'=>en=.returned (.int .i64 (Xm cs))/\Below w.heap.size w w':=by
  subst hn;have:=c149 w (some ⟨b,0,none⟩) cap (cs.map Go.RowKit.intOf) (by simpa using h.sl_ints hp hc) (by simpa using hl);rw[Qb1 hc]at this
  simpa using this
theorem c30(w:World)(a:Option Addr)(cap:Nat)(es:List Int)(hs:Sl w [] a 1 es.length (λi=>[.int .i64 (es.getD i 0)]))(hm:es.length<=1000):CR 30 #[.slice a es.length cap] w (.int .i64 (YF es)):=by
 refine eN1 Tryz.func30 Tryz.ntmps30 ?_
 refine Y1 ?_
 refine Qt (α:=Nat) [2,4,7,8,9,10,11,12,13,14] (λk=>[(7,.int .i64 (k:Int))]) (λ_=>_) (λk=>k<=es.length/\YF es=YF (es.drop k)) (λk=>es.length-k) 0 ⟨om,rfl⟩ aSx (λw h=>h) (λk hk=>?_)
 obtain⟨hk1,hk2⟩:=hk
 refine aU5 ?_
 refine sCd rfl (λh1=>?_) λh1=>?_
 ·refine aU5 ?_
  refine o_p (Qa rfl rfl rfl XI _ rfl om (hs.some om)) rfl (o_q (Qc rfl rfl QlD (hs.rd (i:=k) (j:=0) om rfl)) rfl (aU7 ?_))
  refine sCd rfl (λh2=>?_) λh2=>?_
  ·refine aU5 ?_
   exact rV (h:=by simp only[QV];rw[hk2,YV om,if_neg (by assumption)])
  refine aT4 ?_
  refine aU2 ?_
  exact QR (k+1) om ⟨om,by rw[hk2,YV om,if_pos (by assumption)]⟩ aSx (λw h=>h)
 refine Qi rfl ?_
 refine aU4 ?_
 exact rV (h:=by simp only[QV];rw[hk2,QcT om])
theorem f30{w0 w:World}{M:List Nat}{As As':List HA}{b cap n:Nat}{t:TypeId}{tot:Nat}{cs:List Value}(h:HS w0 M As w)(hp:QC As (.blk b t tot cs) As')(hc:cs.all QgO=true)(hn:cs.length=n)(hl:n<=1000) :
    Calls Tryz.prog 30 #[.slice (some ⟨b,0,none⟩) n cap] w λen w'=>en=.returned (.int .i64 (Xm cs))/\Below w.heap.size w w':=by
  subst hn;have:=c30 w (some ⟨b,0,none⟩) cap (cs.map Go.RowKit.intOf) (by simpa using h.sl_ints hp hc) (by simpa using hl);rw[Qb1 hc]at this
  simpa using this
theorem c218(w:World)(n:Int):CR 218 #[.int .i64 n] w (.bool (Qfn n)):=by
 refine eN1 Tryz.func218 Tryz.ntmps218 ?_
 refine aU7 ?_
 refine oCq rfl (λw1 h1=>QmT w1 _ _ _) (aU ?_)
 refine oOr 3 5 8 rfl
  (λhg1 _=>by
   refine aU3 ?_
   refine oCq rfl (λw1 h1=>QmT w1 _ _ _) ?_
   exact oJf 3 8)
  (λhg3 _=>by
   refine aU2 ?_
   exact oJt 3 8) ?_
 refine aU2 ?_
 exact rV
theorem c226(w:World)(n:Int):CR 226 #[.int .i64 n] w (.bool ((decide (n=2)||decide (n=3)))):=by
 refine eN1 Tryz.func226 Tryz.ntmps226 ?_
 refine aU9 ?_
 refine oOr 3 5 8 rfl
  (λhg1 _=>by
   refine aU4 ?_
   exact oJf 3 8)
  (λhg3 _=>by
   refine aU2 ?_
   exact oJt 3 8) ?_
 refine aU2 ?_
 exact rV
theorem c216(w:World)(n:Int):CR 216 #[.int .i64 n] w (.bool (QdF n)):=by
 refine eN1 Tryz.func216 Tryz.ntmps216 ?_
 refine aU7 ?_
 refine oCq rfl (λw1 h1=>c218 w1 _) (aU ?_)
 refine XJ 4 5 9 rfl
  (λhg1 _=>by
   refine aU3 ?_
   refine oCq rfl (λw1 h1=>c226 w1 _) (aU2 ?_)
   exact oJt 4 9)
  (λhg3 _=>by
   refine aU3 ?_
   exact oJf 4 9) ?_
 refine aU ?_
 refine XJ 3 10 13 rfl
  (λhg5 _=>by
   refine aU4 ?_
   exact oJt 3 13)
  (λhg7 _=>by
   refine aU2 ?_
   exact oJf 3 13) ?_
 refine aU2 ?_
 exact rV
theorem c201(w:World)(o p:Int):CR 201 #[.int .i64 o,.int .i64 p] w (.int .i64 (Za o p)):=by
 refine eN2 Tryz.func201 Tryz.ntmps201 ?_
 refine aU7 ?_
 refine oCq rfl (λw1 h1=>c216 w1 _) (aU ?_)
 refine XJ 3 7 10 rfl
  (λhg1 _=>by
   refine aU3 ?_
   refine oCq rfl (λw1 h1=>c216 w1 _) ?_
   exact oJt 3 10)
  (λhg3 _=>by
   refine aU2 ?_
   exact oJf 3 10) ?_
 refine oCq rfl (λw1 h1=>QfM w1 _ _) (aU2 ?_)
 exact rV (h:=by simp only[QV,Za,cond_eq_ite])
theorem c204(w:World)(a:Ace):CR 204 #[.agg #[.int .i64 a.kd,.int .i64 a.fl,.int .i64 a.ms,.int .i64 a.wh]] w (.int .i64 (Qct a)):=by
 refine eN1 Tryz.func204 Tryz.ntmps204 ?_
 refine aU2 ?_
 refine oBx λb1 _=>?_
 refine aU6 ?_
 refine oCq rfl (λw1 h1=>QmT w1 _ _ _) (aU ?_)
 refine XJ 4 7 11 rfl
  (λhg2 _=>by
   refine aU5 ?_
   refine oCq rfl (λw1 h1=>QmT w1 _ _ _) ?_
   exact oJt 4 11)
  (λhg4 _=>by
   refine aU3 ?_
   exact oJf 4 11) ?_
 refine aU ?_
 refine XJ 4 12 16 rfl
  (λhg6 _=>by
   refine aU5 ?_
   refine oCq rfl (λw1 h1=>c218 w1 _) ?_
   exact oJt 4 16)
  (λhg8 _=>by
   refine aU3 ?_
   exact oJf 4 16) ?_
 refine aU6 ?_
 refine oCq rfl (λw1 h1=>QmT w1 _ _ _) (oCq rfl (λw1 h1=>QfM w1 _ _) (aU ?_))
 refine oCq rfl (λw1 h1=>QfM w1 _ _) (o_h (Qd (cs:=[_,_]) rfl rfl XI Yv rfl rfl rfl) rfl (λb10 _=>oCq rfl (λw1 h1=>QkP h1 aPk (by rfl) (by rfl) (by decide)) (aU2 ?_)))
 exact rV (h:=by simp only[QV];rw[Qa1];unfold Qct;simp only[cond_eq_ite,Bool.and_eq_true,decide_eq_true_eq];grind)
theorem c225(w:World)(n:Int):CR 225 #[.int .i64 n] w (.bool (decide (10<=n)&&decide (n<=999))):=by
 refine eN1 Tryz.func225 Tryz.ntmps225 ?_
 refine aU7 ?_
 refine oCq rfl (λw1 h1=>c70 w1 _ _ _) (aU2 ?_)
 exact rV
theorem c215(w:World)(n:Int):CR 215 #[.int .i64 n] w (.bool (Qfn n)):=by
 refine eN1 Tryz.func215 Tryz.ntmps215 ?_
 refine aU7 ?_
 refine oCq rfl (λw1 h1=>c70 w1 _ _ _) (aU ?_)
 refine oOr 3 5 8 rfl
  (λhg1 _=>by
   refine aU3 ?_
   refine oCq rfl (λw1 h1=>c225 w1 _) ?_
   exact oJf 3 8)
  (λhg3 _=>by
   refine aU2 ?_
   exact oJt 3 8) ?_
 refine aU2 ?_
 exact rV
theorem c214(w:World)(n:Int):CR 214 #[.int .i64 n] w (.bool (QdF n)):=by
 refine eN1 Tryz.func214 Tryz.ntmps214 ?_
 refine aU7 ?_
 refine oCq rfl (λw1 h1=>c225 w1 _) (aU ?_)
 refine oOr 3 5 8 rfl
  (λhg1 _=>by
   refine aU4 ?_
   exact oJf 3 8)
  (λhg3 _=>by
   refine aU2 ?_
   exact oJt 3 8) ?_
 refine aU ?_
 refine oOr 3 9 12 rfl
  (λhg5 _=>by
   refine aU4 ?_
   exact oJf 3 12)
  (λhg7 _=>by
   refine aU2 ?_
   exact oJt 3 12) ?_
 refine aU2 ?_
 exact rV (h:=by simp only[QV,QdF,Qfn];refine congrArg (λb=>Ending.returned (Value.bool b)) ?_;rw[Bool.eq_iff_iff];simp;omega)
theorem c197(w:World)(o p:Int):CR 197 #[.int .i64 o,.int .i64 p] w (.int .i64 (Za o p)):=by
 refine eN2 Tryz.func197 Tryz.ntmps197 ?_
 refine aU8 ?_
 refine oCq rfl (λw1 h1=>c214 w1 _) (aU2 ?_)
 refine oOr 4 8 12 rfl
  (λhg1 _=>by
   refine aU3 ?_
   refine oCq rfl (λw1 h1=>c214 w1 _) (aU2 ?_)
   exact oJf 4 12)
  (λhg3 _=>by
   refine aU3 ?_
   exact oJt 4 12) ?_
 refine aU ?_
 refine sCd rfl (λh5=>?_) λh5=>?_
 ·have hz:Za o p=2:=by have hq:=h5;unfold Za;rw[if_neg (by simp;grind)]
  refine aU4 ?_
  exact rV (h:=by rw[hz];rfl)
 have hz:Za o p=0:=by have hq:=h5;unfold Za;rw[if_pos (by simp;grind)]
 refine aU5 ?_
 exact rV (h:=by rw[hz];rfl)
theorem c198(w:World)(a:Ace):CR 198 #[.agg #[.int .i64 a.kd,.int .i64 a.fl,.int .i64 a.ms,.int .i64 a.wh]] w (.int .i64 (Qct a)):=by
 refine eN1 Tryz.func198 Tryz.ntmps198 ?_
 refine aU2 ?_
 refine oBx λb1 _=>?_
 refine aU7 ?_
 refine oCq rfl (λw1 h1=>c70 w1 _ _ _) (aU2 ?_)
 refine sCd rfl (λh2=>?_) λh2=>?_
 ·have hz:Qct a=15:=by have hq:=h2;unfold Qct;rw[if_neg om]
  refine aU4 ?_
  exact rV (h:=by rw[hz];rfl)
 refine aU6 ?_
 refine oCq rfl (λw1 h1=>c70 w1 _ _ _) (aU2 ?_)
 refine oOr 5 11 16 rfl
  (λhg3 _=>by
   refine aU5 ?_
   refine oCq rfl (λw1 h1=>c70 w1 _ _ _) (aU2 ?_)
   exact oJf 5 16)
  (λhg5 _=>by
   refine aU4 ?_
   exact oJt 5 16) ?_
 refine aU ?_
 refine oOr 5 17 22 rfl
  (λhg7 _=>by
   refine aU5 ?_
   refine oCq rfl (λw1 h1=>c215 w1 _) (aU2 ?_)
   exact oJf 5 22)
  (λhg9 _=>by
   refine aU4 ?_
   exact oJt 5 22) ?_
 refine aU ?_
 refine sCd rfl (λh11=>?_) λh11=>?_
 ·have hz:Qct a=2:=by unfold Qct;rw[if_pos om,if_neg (by simp;grind)]
  refine aU4 ?_
  exact rV (h:=by rw[hz];rfl)
 have hz:Qct a=0:=by unfold Qct;rw[if_pos om,if_pos (by simp;grind)]
 refine aU5 ?_
 exact rV (h:=by rw[hz];rfl)
end Go.Proofs
namespace Gx
open Go Go.RowKit Go.ChangeShapes Go.WideShapes Go.ChangeAt
section
variable{H:Type}{enc:TypeId×Value->H}{P:Program}{W:World}
def okT(P:Program)(W:World):Nat->TypeId->List Value->Prop
 | 0,_,_=>False
 | d+1,t,cs=>match P.underlying t with
  | some (.int k)=>∃n,cs=[.int k n]/\(Lit.int k n).wf=true
  | some .string=>∃l,cs=[.string (bs l)]/\l.length<=maxLen
  | some .bool=>∃b,cs=[.bool b]
  | some (.slice e)=>∃a n cap cell,cs=[.slice a n cap]/\n<=cap/\cap<=maxLen/\(0<P.cellsOf e->Sl W [] a (P.cellsOf e) n cell)/\∀i,i<n->okT P W d e (cell i)
  | some (.struct fs)=>cs.length=P.cellsOf t/\∀f∈fs.toList,okT P W d f.type ((cs.drop f.offset).take (P.cellsOf f.type))
  | some (.array n e)=>cs.length=P.cellsOf t/\∀i,i<n->okT P W d e ((cs.drop (i*P.cellsOf e)).take (P.cellsOf e))
  | _=>True
theorem QeR{a:Addr}{n:Nat}{cs:List Value}(h:W.cells? 0 a n=some cs):cs.length=n/\∀j v,cs[j]?=some v->W.cell? (a.add j)=some v:=by
 unfold World.cells? at h;rw[if_pos (Nat.zero_le _)]at h;have hl:cs.length=n:=by simpa using mapM_some_length h
 refine⟨hl,λj v hv=>?_⟩;have hj:j<n:=by rw[<-hl];exact(List.getElem?_eq_some_iff.1 hv).1
 have:=mapM_some_get h j j (by simp[hj]);rw[this,hv]
theorem Z8{sp:Nat->Bool}{held:Bool}:∀(d:Nat)(t:TypeId)(cs:List Value)(x:DataW H×List MemPlace),DataW.trod enc P W 0 sp held d t cs=some x->okT P W d t cs
 | 0,_,_,_,h=>by simp[DataW.trod]at h
 | d+1,t,cs,x,h=>by
  rw[okT];split
  ·rename_i k hu;obtain⟨n,rfl,_,hw⟩:=DataW.trod_int hu h;exact⟨n,rfl,hw⟩
  ·rename_i hu;obtain⟨s,rfl,_,hs⟩:=DataW.trod_string hu h;exact⟨s.data.toList,rfl,hs⟩
  ·rename_i hu;obtain⟨b,rfl,_⟩:=DataW.trod_bool hu h;exact⟨b,rfl⟩
  ·rename_i e hu;rcases DataW.trod_slice hu h with⟨rfl,_⟩|⟨a,len,cap,elems,rest,n,hn,rfl,_,_,hl,hc,hel,hg,_⟩
   ·exact⟨none,0,0,λ_=>[],rfl,Nat.le_refl _,Nat.zero_le _,λ_=>⟨λh0=>absurd h0 (Nat.lt_irrefl _)⟩,λi hi=>absurd hi (Nat.not_lt_zero i)⟩
   ·cases hn
    have hx:∀i,i<len->∃c y,W.cells? 0 (a.add (i*P.cellsOf e)) (P.cellsOf e)=some c/\DataW.trod enc P W 0 sp held d e c=some y:=λi hi=>by
     have h1:=hg i hi;have h2:∃y,elems[i]?=some y:=⟨_,List.getElem?_eq_getElem om⟩;obtain⟨y,hy⟩:=h2;rw[hy,Option.bind_eq_some_iff]at h1;obtain⟨c,e1,e2⟩:=h1;exact⟨c,y,e1,e2⟩
    have hcell:∀i,∃c,i<len->∃y,W.cells? 0 (a.add (i*P.cellsOf e)) (P.cellsOf e)=some c/\DataW.trod enc P W 0 sp held d e c=some y:=λi=>by
     by_cases hi:i<len
     ·obtain⟨c,y,e1,e2⟩:=hx i hi;exact⟨c,λ_=>⟨y,e1,e2⟩⟩
     ·exact⟨[],λh=>absurd h hi⟩
    obtain⟨cell,hcell⟩:=Classical.axiomOfChoice hcell;refine⟨some a,len,cap,cell,rfl,hl,hc,λh0=>⟨λhpos=>?_⟩,λi hi=>?_⟩
    ·have hsp:a.spot=none:=by
      obtain⟨y,e1,_⟩:=hcell 0 hpos;obtain⟨e2,e3⟩:=QeR e1;have hz:0<(cell 0).length:=om
      have e4:=e3 0 _ (List.getElem?_eq_getElem hz);have e5:(a.add (0*P.cellsOf e)).add 0=a:=by simp[Addr.add]
      rw[e5]at e4;unfold World.cell? at e4;split at e4
      ·split at e4
       ·cases e4
       ·rename_i hns;cases hsx:a.spot with
        | none=>rfl
        | some v=>rw[hsx]at hns;simp at hns
      ·cases e4
     obtain⟨b,o,s⟩:=a;simp only at hsp;subst hsp;refine⟨b,o,rfl,λi hi=>?_⟩;obtain⟨y,e1,_⟩:=hcell i hi;obtain⟨e2,e3⟩:=QeR e1;refine⟨e2,λj v hv=>?_⟩;have e4:=e3 j v hv;have e5:((⟨b,o,none⟩:Addr).add (i*P.cellsOf e)).add j=⟨b,o+i*P.cellsOf e+j,none⟩:=by rw[XR,XR]
     rw[e5]at e4;refine⟨?_,by simp,e4⟩;unfold World.cell? at e4;split at e4
     ·rename_i hh;exact(Array.getElem?_eq_some_iff.1 hh).1
     ·cases e4
    ·obtain⟨y,_,e2⟩:=hcell i hi;exact Z8 d e _ y e2
  ·rename_i fs hu;obtain⟨xs,n,hn,_,hl,hxl,hg⟩:=DataW.trod_struct hu h;cases hn;refine⟨hl,λf hf=>?_⟩;obtain⟨i,hi,rfl⟩:=List.getElem_of_mem hf;have hi':i<fs.size:=by simpa using hi
   have h1:=hg i fs[i] (by simp[hi']);rw[List.getElem?_eq_getElem om]at h1;exact Z8 d _ _ _ (by simpa using h1)
  ·rename_i n e hu;obtain⟨xs,m,hm,_,hl,hxl,hg⟩:=DataW.trod_array hu h;cases hm;refine⟨hl,λi hi=>?_⟩;have h1:=hg i hi;rw[List.getElem?_eq_getElem om]at h1;exact Z8 d _ _ _ h1
  ·trivial
section
variable{d:Nat}{t:TypeId}{cs:List Value}
theorem ZC{k:IntKind}(h:okT P W d t cs)(hu:P.underlying t=some (.int k)):∃n,cs=[.int k n]/\(Lit.int k n).wf=true:=by
 cases d with
 | zero=>cases h
 | succ d=>rw[okT,hu]at h;exact h
theorem Qos(h:okT P W d t cs)(hu:P.underlying t=some .string):∃l,cs=[.string (bs l)]/\l.length<=maxLen:=by
 cases d with
 | zero=>cases h
 | succ d=>rw[okT,hu]at h;exact h
theorem Qnh(h:okT P W d t cs)(hu:P.underlying t=some .bool):∃b,cs=[.bool b]:=by
 cases d with
 | zero=>cases h
 | succ d=>rw[okT,hu]at h;exact h
theorem QfW{e:TypeId}(h:okT P W d t cs)(hu:P.underlying t=some (.slice e))(hc:0<P.cellsOf e):∃d' a n cap cell,cs=[.slice a n cap]/\n<=cap/\cap<=maxLen/\Sl W [] a (P.cellsOf e) n cell/\∀i,i<n->okT P W d' e (cell i):=by
 cases d with
 | zero=>cases h
 | succ d=>
  rw[okT,hu]at h;obtain⟨a,n,cap,cell,h1,h2,h3,h4,h5⟩:=h;exact⟨d,a,n,cap,cell,h1,h2,h3,h4 hc,h5⟩
theorem Qd2{fs:Array Field}(h:okT P W d t cs)(hu:P.underlying t=some (.struct fs)):∃d',cs.length=P.cellsOf t/\∀f∈fs.toList,okT P W d' f.type ((cs.drop f.offset).take (P.cellsOf f.type)):=by
 cases d with
 | zero=>cases h
 | succ d=>rw[okT,hu]at h;exact⟨d,h⟩
end
theorem QfZ{sp:Nat->Bool}{held:Bool}{t:TypeId}{v:Value}{x:DataW H}{ps:List MemPlace}(h:DataW.Trod enc P W 0 sp held t v x ps):∃d,okT P W d t v.cells.toList:=by
 obtain⟨d,h⟩:=h;exact⟨d,Z8 d t _ _ h⟩
theorem Qi8{t:TypeId}{v:Value}{r:Reach}{b0:Nat}(hval:Value.okWide P W r b0 t v)(ha:(match P.underlying t with|some (.struct _)|some (.array _ _)=>true|_=>false)=true):∃cs:List Value,v=.agg cs.toArray/\v.cells.toList=cs:=by
 unfold Value.okWide at hval;split at ha
 ·rename_i hu;rw[hu]at hval;obtain⟨cs,rfl,_⟩:=hval;exact⟨cs.toList,rfl,rfl⟩
 ·rename_i hu;rw[hu]at hval;obtain⟨cs,rfl,_⟩:=hval;exact⟨cs.toList,rfl,rfl⟩
 ·cases ha
theorem QcI{n:Int}(h:(Lit.int .i64 n).wf=true): -9223372036854775808<=n/\n<=9223372036854775807:=by
 simpa[Lit.wf,IntKind.min,IntKind.max,IntKind.signed,IntKind.bits]using h
theorem Qcy(hl:laidOutB P=true){W':World}(hb:Below W.heap.size W W'):∀{ts:List TypeId}{vs:List Value}{ds:List (DataW H)}{ps:List MemPlace},ts.all (λt=>P.readableRec t&&decide (t<P.types.size))=true ->
  DataW.TrodAll enc P W 0 (λ_=>true) true ts vs ds ps->(∀x∈ps,x.block<W.heap.size)->DataW.TrodAll enc P W' 0 (λb=>decide (b<W.heap.size)) true ts vs ds ps
 | [],[],[],_,_,h,_=>h
 | [],_::_,_,_,_,h,_=>(by cases h)
 | [],[],_::_,_,_,h,_=>(by cases h)
 | _::_,[],_,_,_,h,_=>(by cases h)
 | _::_,_::_,[],_,_,h,_=>(by cases h)
 | t::ts,v::vs,d::ds,ps,hr,h,hlt=>by
  obtain⟨p,q,h1,h2,rfl⟩:=h;simp only[List.all_cons,Bool.and_eq_true,decide_eq_true_eq]at hr;exact⟨p,q,Below.trod hl hr.1.1 hr.1.2 h1 hb (λx hx=>hlt x (List.mem_append_left _ hx)),Qcy hl hb hr.2 h2 (λx hx=>hlt x (List.mem_append_right _ hx)),rfl⟩
theorem Qlj{f:Func}{s:ChangeSpec}{apart fresh handsOn:Bool}{W':World}{args:Array Value}{ds gs:List (DataW H)}{before:List MemPlace}{tb:TypeId}
  (hl:laidOutB P=true)(hr:f.params.toList.all (λt=>P.readableRec t&&decide (t<P.types.size))=true)(hbool:f.resultTypes= #[tb])(htb:P.underlying tb=some .bool)(hv:s.vars=[])
  (hs:s.fn H ds={results:=[.lit (.bool true)],args:=ds})(hW:DataW.Whole enc P f.params.toList s.vars apart W args.toList ds gs before)(hb:Below W.heap.size W W') :
  s.post enc P f apart fresh handsOn false W args (.bool true) W':=by
 have hW':=hW;obtain⟨p,q,hA,hV,rfl,hfz,hnd⟩:=hW;rw[hv]at hV;obtain⟨rfl,rfl⟩:=trodVars_none hV;have hlt:∀x∈p,x.block<W.heap.size:=λx hx=>by simpa using hW'.lt x (by simpa using hx)
 refine⟨ds,[],p++[],[],p,[],hW',?_,?_,?_,hb.frame _,λh=>by cases h⟩
 ·rw[List.append_nil,hs,hbool];exact trodAll_mk1 (shut_bool htb true)
 ·rw[List.append_nil,hs];exact Qcy hl hb hr hA hlt
 ·rw[List.append_nil,hs,hv];rfl
end
end Gx
namespace Go.Proofs
open Go Go.RowKit Gx
theorem QjN{α:Type}[Inhabited α]{vals:α->List Value}{sz n:Nat}{W:World}{a:Option Addr}{cell:Nat->List Value}{Q:α->Prop}(hs:Sl W [] a sz n cell)(hr:∀i,i<n->∃x,cell i=vals x/\Q x):∃l:List α,n=l.length/\Rw vals sz W [] a l/\(∀x∈l,Q x)/\∀i,i<n->cell i=vals (nth l i):=by
 have hr2:∀i,∃x,i<n->cell i=vals x/\Q x:=λi=>by
  by_cases hi:i<n
  ·obtain⟨x,h⟩:=hr i hi;exact⟨x,λ_=>h⟩
  ·exact⟨default,λh=>absurd h hi⟩
 obtain⟨f,hf⟩:=Classical.axiomOfChoice hr2
 have hg:∀i,i<n->nth ((List.range n).map f) i=f i:=λi hi=>by
  simp only[nth,List.getD_eq_getElem?_getD,List.getElem?_map,List.getElem?_range hi,Option.map_some,Option.getD_some]
 refine⟨(List.range n).map f,by simp,⟨λhn=>?_⟩,λx hx=>?_,λi hi=>?_⟩
 ·rw[List.length_map,List.length_range]at hn;obtain⟨b,o,e,h2⟩:=hs.at_ hn;refine⟨b,o,e,λi hi=>?_⟩;rw[List.length_map,List.length_range]at hi;have h3:=h2 i hi;rw[(hf i hi).1]at h3;rw[hg i hi];exact h3
 ·obtain⟨i,hi,rfl⟩:=List.mem_map.1 hx;exact(hf i (List.mem_range.1 hi)).2
 ·rw[hg i hi];exact(hf i hi).1
theorem Qhe:Tryz.prog.cellsOf 3=1:=by kernel_rfl
theorem QoW:Tryz.prog.cellsOf 4=1:=by kernel_rfl
theorem Qkc:Tryz.prog.cellsOf 9=1:=by kernel_rfl
theorem Qfu:Tryz.prog.cellsOf 76=2:=by kernel_rfl
theorem QnJ:Tryz.prog.cellsOf 52=1:=by kernel_rfl
theorem Ql7:Tryz.prog.cellsOf 62=1:=by kernel_rfl
theorem QmY:Tryz.prog.cellsOf 64=3:=by kernel_rfl
section
variable{W:World}{d:Nat}
theorem ln2{cs:List Value}(h:cs.length=2):∃x0 x1,cs=[x0,x1]:=by
 match cs,h with
 | [x0,x1],_=>exact⟨x0,x1,rfl⟩
theorem ln3{cs:List Value}(h:cs.length=3):∃x0 x1 x2,cs=[x0,x1,x2]:=by
 match cs,h with
 | [x0,x1,x2],_=>exact⟨x0,x1,x2,rfl⟩
theorem QpJ{x:Value}(h:okT Tryz.prog W d 3 [x]):∃n,x=.int .i64 n:=by
 obtain⟨n,e,_⟩:=ZC h Tryz.underlying3;cases e;exact⟨n,rfl⟩
theorem QoX{x:Value}(h:okT Tryz.prog W d 4 [x]):∃n,x=.bool n:=by
 obtain⟨n,e⟩:=Qnh h Tryz.underlying4;cases e;exact⟨n,rfl⟩
theorem Qjq{x:Value}(h:okT Tryz.prog W d 9 [x]):∃l:List UInt8,x=.string (bs l)/\l.length<=maxLen:=by
 obtain⟨l,e,g⟩:=Qos h Tryz.underlying9;cases e;exact⟨l,rfl,g⟩
theorem Qrd{cs:List Value}(h:okT Tryz.prog W d 76 cs):∃x:TEnt,cs=x.vals/\True:=by
 obtain⟨d2,l,o⟩:=Qd2 h Tryz.underlying76;rw[Qfu]at l;obtain⟨x0,x1,rfl⟩:=ln2 l;simp only[List.mem_cons,List.mem_nil_iff,or_false,forall_eq_or_imp,forall_eq]at o;rw[Qkc]at o;obtain⟨s,rfl,hs⟩:=Qjq (x:=x0) o.1;obtain⟨t,rfl,ht⟩:=Qjq (x:=x1) o.2;exact⟨⟨s,t⟩,rfl,trivial⟩
theorem Qoz{x:Value}(h:okT Tryz.prog W d 62 [x]):∃a c l,x=.slice a (List.length (α:=TEnt) l) c/\Rw TEnt.vals 2 W [] a l:=by
 obtain⟨d2,a,n,cap,cell,e,h1,h2,sl,rows⟩:=QfW h Tryz.underlying62 (by rw[Qfu];decide);rw[Qfu]at sl;cases e;obtain⟨l,rfl,hl,_⟩:=QjN (vals:=TEnt.vals) (Q:=λ_=>True) sl λi hi=>Qrd (rows i hi);exact⟨a,cap,l,rfl,hl⟩
theorem QoZ{x:Value}(h:okT Tryz.prog W d 52 [x]):∃a c l,x=.slice a (List.length (α:=Int) l) c/\Rw inV 1 W [] a l:=by
 obtain⟨d2,a,n,cap,cell,e,h1,h2,sl,rows⟩:=QfW h Tryz.underlying52 (by rw[Qhe];decide);rw[Qhe]at sl;cases e
 obtain⟨l,rfl,hl,_⟩:=QjN (vals:=inV) (Q:=λ_=>True) sl λi hi=>by
  obtain⟨m,e,g⟩:=ZC (rows i hi) Tryz.underlying3;exact⟨m,e,trivial⟩
 exact⟨a,cap,l,rfl,hl⟩
theorem QrV{cs:List Value}(h:okT Tryz.prog W d 64 cs):∃k:LNd,cs=k.vals/\Rw TEnt.vals 2 W [] k.ea k.es/\Rw inV 1 W [] k.ca k.cs:=by
 obtain⟨d2,l,o⟩:=Qd2 h Tryz.underlying64;rw[QmY]at l;obtain⟨x0,x1,x2,rfl⟩:=ln3 l;simp only[List.mem_cons,List.mem_nil_iff,or_false,forall_eq_or_imp,forall_eq]at o;rw[QoW,Ql7,QnJ]at o;obtain⟨n0,rfl⟩:=QoX (x:=x0) o.1;obtain⟨ea,ec,es,rfl,he⟩:=Qoz (x:=x1) o.2.1;obtain⟨ca,cc,ks,rfl,hk⟩:=QoZ (x:=x2) o.2.2;exact⟨⟨n0,ea,ec,es,ca,cc,ks⟩,rfl,he,hk⟩
theorem QiG{n:Nat}{a:Option Addr}{cell:Nat->List Value}(sl:Sl W [] a 3 n cell)(rows:∀i,i<n->okT Tryz.prog W d 64 (cell i)):∃l:List LNd,n=l.length/\Nt W [] a l:=by
 obtain⟨l,rfl,hl,hk,_⟩:=QjN (vals:=LNd.vals) (Q:=λk=>Rw TEnt.vals 2 W [] k.ea k.es/\Rw inV 1 W [] k.ca k.cs) sl λi hi=>QrV (rows i hi);exact⟨l,rfl,hl,hk⟩
end
theorem QlS:Tryz.prog.cellsOf 61=2:=by kernel_rfl
section
variable{W:World}{d:Nat}
theorem Qok{cs:List Value}(h:okT Tryz.prog W d 61 cs):∃x:SItm,cs=x.vals/\x.by_.length<=maxLen:=by
 obtain⟨d2,l,o⟩:=Qd2 h Tryz.underlying61;rw[QlS]at l;obtain⟨x0,x1,rfl⟩:=ln2 l;simp only[List.mem_cons,List.mem_nil_iff,or_false,forall_eq_or_imp,forall_eq]at o;rw[Qhe,Qkc]at o;obtain⟨n0,rfl⟩:=QpJ (x:=x0) o.1;obtain⟨s,rfl,hs⟩:=Qjq (x:=x1) o.2;exact⟨⟨n0,s⟩,rfl,hs⟩
theorem QmO{n:Nat}{a:Option Addr}{cell:Nat->List Value}(sl:Sl W [] a 2 n cell)(rows:∀i,i<n->okT Tryz.prog W d 61 (cell i)):∃l:List SItm,n=l.length/\Rw SItm.vals 2 W [] a l/\∀x∈l,x.by_.length<=maxLen:=by
 obtain⟨l,h1,h2,h3,_⟩:=QjN (vals:=SItm.vals) (Q:=λx=>x.by_.length<=maxLen) sl λi hi=>Qok (rows i hi);exact⟨l,h1,h2,h3⟩
end
end Go.Proofs
namespace Go.Proofs
open Go Go.RowKit Gx
attribute [local irreducible] Go.Calls Gx.S Gx.O Gx.D Gx.OpP Gx.OpQ Gx.OpH
set_option maxRecDepth 20000
theorem YM:tsl Tryz.prog 48=some (102,4,32):=by kernel_rfl
theorem QdO:tsz Tryz.prog 102=some (4,true):=by kernel_rfl
instance:TSz Tryz.prog 102 4 true:=⟨QdO⟩
theorem XS:Xy Tryz.prog 102=some [.int .i64 0,.int .i64 0,.int .i64 0,.int .i64 0]:=by kernel_rfl
theorem X6:tsl Tryz.prog 22=some (61,2,24):=by kernel_rfl
theorem Qae:tsz Tryz.prog 61=some (2,true):=by kernel_rfl
instance:TSz Tryz.prog 61 2 true:=⟨Qae⟩
theorem QaC:Xy Tryz.prog 61=some [.int .i64 0,.string (bs [])]:=by kernel_rfl
theorem QqK:QH Tryz.prog 204=true:=by kernel_rfl
instance:TFd Tryz.prog 50 4 4 48:=⟨by kernel_rfl⟩
theorem QiJ:tsz Tryz.prog 48=some (1,false):=by kernel_rfl
instance:TSz Tryz.prog 48 1 false:=⟨QiJ⟩
theorem c202(w:World)(a:Option Addr)(cap:Nat)(l:List Ace)(q:Nat)(cv:Array Value)(es:List Int)(hs:Rw Ace.vals 4 w [] a l)(hm:l.length<=1000000)(hq:QH Tryz.prog q=true)(he:es.length=l.length)(hc:∀k w1,k<l.length->(∀j,j<k->es.getD j 0=0)->HS w [] [] w1->Calls Tryz.prog q (#[]++[.int .i64 (k:Int),.agg (Ace.vals (nth l k)).toArray].toArray++cv) w1 λen w2=>en=.returned (.int .i64 (es.getD k 0))/\Below w1.heap.size w1 w2):CR 202 #[.slice a l.length cap,.func (.func q) #[] cv] w (.tuple #[.int .i64 (QU es 0).1,.int .i64 (QU es 0).2]):=by
 refine eN2 Tryz.func202 Tryz.ntmps202 ?_
 refine Z5 ?_
 refine Qt (α:=Nat) [4,5,6,7,8,11,12,13,14,15,16,17,18,19,20,21,22,23,24] (λk=>[(11,.int .i64 (k:Int))]) (λ_=>HS w [] []) (λk=>k<=l.length/\QU es 0=QU (es.drop k) k/\∀j,j<k->es.getD j 0=0) (λk=>l.length-k) 0 ⟨om,rfl,λi h=>absurd h (Nat.not_lt_zero i)⟩ aSx (λw h=>h.ent aEt) (λk hk=>?_)
 obtain⟨hk1,hk2,hk3⟩:=hk
 refine aU5 ?_
 refine sCd rfl (λh1=>?_) λh1=>?_
 ·refine aU6 ?_
  refine o_p (Qa rfl rfl rfl YM (k) om om (Rw.some hs om)) rfl (o_q (Qu _ rfl rfl QdO rfl (Rw.rd hs om)) rfl (oAl (λb2 _=>?_) XS))
  refine aU8 ?_
  refine o_q (X3 rfl rfl hq rfl (λw1 h1=>hc k w1 om hk3 (h1.ent aEt))) rfl (aU7 ?_)
  refine sCd rfl (λh3=>?_) λh3=>?_
  ·refine aU7 ?_
   exact Qf (rs:=[.tmp 4,.tmp 5]) rfl (.tmp rfl (.tmp rfl (.nil))) (λw' h'=>⟨by simp only[QV];rw[hk2,Xp om,if_neg (by assumption)],h'.below⟩)
  refine aT4 ?_
  refine aU2 ?_
  exact sBk (k+1) om ⟨om,by rw[hk2,Xp om,if_pos (by assumption)],λj hj=>(Nat.lt_or_ge j k).elim (hk3 j) (λh=>by obtain rfl:j=k:=om;assumption)⟩
 refine Qi rfl ?_
 refine aU5 ?_
 exact Qf (rs:=[.tmp 4,.tmp 5]) rfl (.tmp rfl (.tmp rfl (.nil))) (λw' h'=>⟨by simp only[QV];rw[hk2,Qcp om],h'.below⟩)
theorem c203(w:World)(b m i:Nat)(ea:Option Addr)(ec:Nat)(a:Ace)(hr:Rd w [] b 4 (.slice ea m ec)):CR 203 #[.int .i64 (i:Int),.agg #[.int .i64 a.kd,.int .i64 a.fl,.int .i64 a.ms,.int .i64 a.wh],.pointer (some ⟨b,0,none⟩)] w (.int .i64 (Qbh m i a)):=by
 have e1:((i:Int)>=(m:Int)) ↔ m<=i:=om
 refine eN3 Tryz.func203 Tryz.ntmps203 ?_
 refine aU2 ?_
 refine oBx λb1 _=>?_
 refine aU3 ?_
 refine Qq [] Qx ?_
 refine dLn 0 [] ?_
 refine dQ 1 [] rfl (Ql rfl QqK rfl (λw1 h1=>c204 w1 _)) (dFa 2 ?_)
 refine dLd 3 [] ?_
 refine dP 4 ?_
 refine dP 5 ?_
 refine dFa 6 ?_
 refine dQ 7 [] rfl (Qc rfl rfl QiJ (hr)) (dV 8 rfl (Qz rfl rfl Tryz.underlying48) (dP 9 ?_))
 refine dV 10 rfl (QfK rfl rfl rfl Tryz.underlying4) (dQ 11 [] rfl (Ql rfl QaO rfl (λw1 h1=>QfM w1 _ _)) (dH 12 rfl (Qd (cs:=[_,_]) rfl rfl XI Yv rfl rfl rfl) (λb2 _=>dBa ?_)))
 refine dQ 13 [] rfl (Ql rfl QdS rfl (λw1 h1=>QkP h1 aPk (by rfl) (by rfl) (by decide))) (dP 14 ?_)
 refine dNi ?_
 exact rV (h:=by simp only[QV,e1];rw[Qa1];unfold Qbh;simp only[cond_eq_ite,beq_iff_eq])
end Go.Proofs
