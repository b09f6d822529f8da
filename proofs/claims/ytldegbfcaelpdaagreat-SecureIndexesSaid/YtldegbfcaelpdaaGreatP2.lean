/- Contracts of the program's functions, proved by walking them with the rules of the Gx texts; without conditions beyond those that each contract names. -/
import Derived.WalkKit
import Derived.Deep.Draws
import Derived.TacticsIn
import Derived.OrdersIn
import Derived.RangeFuncLeaves
import Derived.Lib.Strings
import Derived.Laws.BytesArg
import Derived.Laws.IdiomStrings
import Derived.Deep.Quiet
import Derived.Laws.StructEq
import Derived.ChangeKeysEq
import Derived.Laws.Externs
import Derived.Lib.Overlaps
import Derived.Carry
import Derived.Laws.Small
import Derived.Lib.Bytealg
import Derived.Lib.Builder
import Derived.Laws.Pointers
import Derived.RangeFuncRecord
import Derived.Test.YtldegbfcaelpdaaGreatProg
import Derived.KernelRfl
import Derived.ProofKit
import Derived.OpenShut
import Derived.Lib.UnsafeStr
import Derived.LaidEqlPtr
import Derived.Shelf.Strings.Builder1
import Derived.Shelf.Strings.Builder2
import Derived.Shelf.Small.Strs
import Derived.Shelf.Strings.BuilderF
import Derived.Shelf.Strings.Prefix
import Derived.Shelf.Bits.Mul64
import Derived.Shelf.Strings.Repeat
import Derived.Shelf.Slices.Reverse
import Derived.Ground.Names2Prog
import Derived.Shelf.Slices.Clone
import Derived.Shelf.Slices.Cells
import Derived.Ground.SlgnProg
import Derived.Shelf.SlicesE.Clone
import Derived.Test.YtldegbfcaelpdaaGreatP1
set_option linter.unusedSimpArgs false
set_option maxHeartbeats 1000000
set_option linter.unusedVariables false
set_option linter.unusedSectionVars false
set_option linter.unnecessarySimpa false
namespace Go.Proofs
open Go Go.RowKit Gx
attribute [local irreducible] Go.Calls Gx.S Gx.O Gx.D Gx.OpP Gx.OpQ Gx.OpH
set_option maxRecDepth 20000
instance:TFn Tryz.prog 58:=⟨by kernel_rfl⟩
theorem Qp6:QH Tryz.prog 173=true:=by kernel_rfl
theorem QgX:QiX Tryz.prog 225 9:=QkF Tryz.underlying225 Y8 (by decide)
theorem c172(w:World)(v:Vis)(pl ph:Option Addr)(c1 c7:Nat)(s:Int)(bt:Nat)(j:Nat)(mo rm:Int)(a:Option Addr)(cap:Nat)(L:List LNd)(hw:HS w (fps [.blk c7 3 1 [.int .i64 s]]) [.blk c7 3 1 [.int .i64 s]] w)(hc1:Rd w (fps [.blk c7 3 1 [.int .i64 s]]) c1 0 (.pointer (some ⟨bt,0,none⟩)))(ht:TbR w (fps [.blk c7 3 1 [.int .i64 s]]) bt (j:Int) mo rm a L.length cap)(hs:Nt w (fps [.blk c7 3 1 [.int .i64 s]]) a L)(hj:j<=3)(hmo:0<=mo/\mo<=1000)(hi:v.i<L.length)(hl:L.length<=1000)(hel:(nth L v.i).es.length<=1000)(hcl:(nth L v.i).cs.length<=1000)(hc0:(nth L 0).cs.length<=1000)(he0:(nth L 0).es.length<=1000)(hpl:Z4 w (fps [.blk c7 3 1 [.int .i64 s]]) pl v.lo)(hph:Z4 w (fps [.blk c7 3 1 [.int .i64 s]]) ph v.hi)(hlo:∀k,v.lo=some k->(QS (j:Int) k=true/\k.length<=1000000))(hhi:∀k,v.hi=some k->(QS (j:Int) k=true/\k.length<=1000000))(hok:∀x∈(nth L v.i).es,QS (j:Int) x.key=true/\x.key.length<=1000000):CE 172 #[.int .i64 (v.i:Int),.int .i64 v.d,.pointer pl,.pointer ph,.pointer (some ⟨c1,0,none⟩),.pointer (some ⟨c7,0,none⟩)] w (fps [.blk c7 3 1 [.int .i64 s]]) (λg:Unit=>.tuple #[.int .i64 (erV (⟨(j:Int),mo,rm,pln L⟩:Tre) s v).1,.int .i64 (erV (⟨(j:Int),mo,rm,pln L⟩:Tre) s v).2]) (λg=>True) λg=>[.blk c7 3 1 [.int .i64 (stV (⟨(j:Int),mo,rm,pln L⟩:Tre) s v)]]:=by
 have h00:0<L.length:=om
 have hn:nth (pln L) v.i=(nth L v.i).pl:=Qp hi
 have hn0:nth (pln L) 0=(nth L 0).pl:=Qp h00
 have hG:Zo (⟨(j:Int),mo,rm,pln L⟩:Tre) v=(decide (0<v.i)&&(decide (((nth L v.i).es.length:Int)<mo/2)||((decide (((nth L 0).es.length:Int)=0)&&decide ((v.i:Int)∈(nth L 0).cs))&&decide (((nth L v.i).es.length:Int)<=rm)))):=by unfold Zo;rw[hn,hn0];simp only[LNd.pl];congr 3;congr 1;apply decide_eq_decide.2;omega
 have hO:Zb (⟨(j:Int),mo,rm,pln L⟩:Tre) v=(nth L v.i).es.any (Zx (⟨(j:Int),mo,rm,pln L⟩:Tre) v):=by unfold Zb;rw[hn];rfl
 have hE:erV (⟨(j:Int),mo,rm,pln L⟩:Tre) s v=((v.i:Int),if Zo (⟨(j:Int),mo,rm,pln L⟩:Tre) v=true then 14 else if Zb (⟨(j:Int),mo,rm,pln L⟩:Tre) v=true then 9 else if(nth L v.i).cs.length=0 then(if(if s=0 then v.d else s)=v.d then 0 else 22)else 0):=by unfold erV;rw[hn];rfl
 have hS:stV (⟨(j:Int),mo,rm,pln L⟩:Tre) s v=if Zo (⟨(j:Int),mo,rm,pln L⟩:Tre) v=true then s else if Zb (⟨(j:Int),mo,rm,pln L⟩:Tre) v=true then s else if(nth L v.i).cs.length=0 then(if s=0 then v.d else s)else s:=by unfold stV;rw[hn];rfl
 refine eW6 Tryz.func172 Tryz.ntmps172 hw ?_
 refine aU7 ?_
 refine o_q (Qc rfl rfl YE (hc1)) rfl (aU3 ?_)
 refine o_q (Qc rfl rfl Y9 (ht 3 _ rfl)) rfl (aU ?_)
 refine o_p (Qa rfl rfl rfl QE (v.i) om om (Rw.some hs.1 om)) rfl (o_q (Qu _ rfl rfl Y5 rfl (Rw.rd hs.1 hi)) rfl (oAl (λb1 _=>?_) XY))
 refine aU5 ?_
 refine o_q (Qc rfl rfl YE (hc1)) rfl (aU3 ?_)
 refine o_q (Qc rfl rfl Y9 (ht 3 _ rfl)) rfl (o_p (Qa rfl rfl rfl QE (0) om om (Rw.some hs.1 om)) rfl (o_q (Qu _ rfl rfl Y5 rfl (Rw.rd hs.1 (i:=0) h00)) rfl (oAl (λb2 _=>?_) XY)))
 refine aU7 ?_
 refine Qg (L':=[(0,_),(1,_),(2,_),(3,_),(4,_),(5,_),(10,_),(11,_),(12,_),(13,_),(33,_)]) aSx (λ_ h=>h) ?_
 refine Xe (α:=Unit) [10,11,14,34,35,36,37,38,39,40,41,42,43,44,45,46,47,48,49,50,51,52,53,54,55,56,57,58,59,60,61,62,63,64] (λ_=>[]) (λ_=>HS w (fps [.blk c7 3 1 [.int .i64 s]]) [.blk b2 64 3 (nth L 0).vals,.blk b1 64 3 (nth L v.i).vals,.blk c7 3 1 [.int .i64 s]]) (λ_=>Zo (⟨(j:Int),mo,rm,pln L⟩:Tre) v=false) ?_ ?_
 ·skip
  refine sCd rfl (λh3=>?_) λh3=>?_
  ·refine aU7 ?_
   refine XJ 5 38 43 rfl
    (λhg4 _=>by
     refine aU7 ?_
     refine oCq rfl (λw1 h1=>c58 w1 (nth L 0).ca (nth L 0).cc (nth L 0).cs (v.i:Int) ((hs.cs h00).later h1) om) ?_
     exact oJt 5 43)
    (λhg6 _=>by
     refine aU4 ?_
     exact oJf 5 43) ?_
   refine aU3 ?_
   refine Xe (α:=Unit) [44,45,46,47,48,49,50,51,52,53,54,55,56,57,58,59,60,61,62,63] (λ_=>[(63,.bool (decide (((nth L v.i).es.length:Int)<mo/2)||((decide (((nth L 0).es.length:Int)=0)&&decide ((v.i:Int)∈(nth L 0).cs))&&decide (((nth L v.i).es.length:Int)<=rm))))]) (λ_=>HS w (fps [.blk c7 3 1 [.int .i64 s]]) [.blk b2 64 3 (nth L 0).vals,.blk b1 64 3 (nth L v.i).vals,.blk c7 3 1 [.int .i64 s]]) (λ_=>True) ?_ ?_
   ·skip
    refine Qq [] Qx ?_
    refine dFa 0 ?_
    refine dLd 1 [] ?_
    refine dV 2 rfl (Qz rfl rfl Tryz.underlying62) (dQ 3 [] rfl (Qc rfl rfl YE (hc1)) (dQ 4 [] rfl (Ql rfl Qp6 rfl (λw1 h1=>c173 w1 bt j mo rm a L.length cap hmo (ht.next h1))) (dP 5 ?_)))
    refine dP 6 ?_
    apply Q7 50
    ·exact rfl
    ·intro hg8
     have hs9:=hg8;try simp only[dT]at hs9
     refine dOf 7 50 hg8 ?_
     refine dOf 8 50 hg8 ?_
     refine dOu 9 52 ?_
     refine dOu 10 52 ?_
     refine dOu 11 52 ?_
     refine dOu 12 52 ?_
     refine dOu 13 52 ?_
     refine dOu 14 52 ?_
     refine dOu 15 52 ?_
     refine dOu 16 52 ?_
     refine dOu 17 52 ?_
     refine dOf 18 50 hg8 ?_
     refine dV 19 rfl (Xk rfl rfl hg8 rfl) (Qs (show _=Value.bool (decide (((nth L v.i).es.length:Int)<mo/2)||((decide (((nth L 0).es.length:Int)=0)&&decide ((v.i:Int)∈(nth L 0).cs))&&decide (((nth L v.i).es.length:Int)<=rm)))from by congr 1;first|(simp_all;done)|(simp_all;omega)) (dNi ?_))
     exact Qo () trivial aSx (λw h=>h.ent aEt)
    intro hg10
    have hs11:=hg10;try simp only[dN]at hs11
    refine dPo 7 50 hg10 ?_
    refine dPo 8 50 hg10 ?_
    apply Q7 52
    ·exact rfl
    ·intro hg12
     have hs13:=hg12;try simp only[Bool.and_eq_true,decide_eq_true_eq]at hs13
     refine dFo 9 52 hg12 ?_
     refine dQo 10 52 [] hg12 rfl rfl rfl (XO rfl rfl XZ aPk rfl) ?_
     refine dVo 11 52 hg12 rfl rfl rfl (Qz rfl rfl Tryz.underlying62) ?_
     refine dQo 12 52 [] hg12 rfl rfl rfl (Qc rfl rfl YE (hc1)) ?_
     refine dPo 13 52 hg12 ?_
     refine dFo 14 52 hg12 ?_
     refine dFo 15 52 hg12 ?_
     refine dQo 16 52 [] hg12 rfl rfl rfl (Qc rfl rfl Xq (ht 2 _ rfl)) ?_
     refine dPo 17 52 hg12 ?_
     refine dVo 18 50 hg10 rfl rfl rfl (Xk rfl rfl hg12 rfl) ?_
     refine dV 19 rfl (QW rfl rfl hg10 rfl) (Qs (show _=Value.bool (decide (((nth L v.i).es.length:Int)<mo/2)||((decide (((nth L 0).es.length:Int)=0)&&decide ((v.i:Int)∈(nth L 0).cs))&&decide (((nth L v.i).es.length:Int)<=rm)))from by congr 1;first|(simp_all;done)|(simp_all;omega)) (dNi ?_))
     exact Qo () trivial aSx (λw h=>h.ent aEt)
    intro hg14
    have hs15:=hg14;try simp only[Bool.and_eq_false_iff,decide_eq_false_iff_not]at hs15
    refine dOf 9 52 hg14 ?_
    refine dOf 10 52 hg14 ?_
    refine dOf 11 52 hg14 ?_
    refine dOf 12 52 hg14 ?_
    refine dOf 13 52 hg14 ?_
    refine dOf 14 52 hg14 ?_
    refine dOf 15 52 hg14 ?_
    refine dOf 16 52 hg14 ?_
    refine dOf 17 52 hg14 ?_
    refine dVo 18 50 hg10 rfl rfl rfl (QW rfl rfl hg14 rfl) ?_
    refine dV 19 rfl (QW rfl rfl hg10 rfl) (Qs (show _=Value.bool (decide (((nth L v.i).es.length:Int)<mo/2)||((decide (((nth L 0).es.length:Int)=0)&&decide ((v.i:Int)∈(nth L 0).cs))&&decide (((nth L v.i).es.length:Int)<=rm)))from by congr 1;first|(simp_all;done)|(simp_all;omega)) (dNi ?_))
    exact Qo () trivial aSx (λw h=>h.ent aEt)
   intro _ _
   refine sCd rfl (λh16=>?_) λh16=>?_
   ·have hz:Zo (⟨(j:Int),mo,rm,pln L⟩:Tre) v=true:=by rw[hG];have hq:=h16;simp only[Bool.and_eq_true,Bool.or_eq_true,decide_eq_true_eq];exact⟨om,hq⟩
    refine aU6 ?_
    exact Qf (rs:=[.tmp 10,.tmp 11]) rfl (.tmp rfl (.tmp rfl (.nil))) (λw' h'=>⟨(),by rw[hE];simp only[];rw[if_pos hz];rfl,trivial,by rw[hS,if_pos hz];exact h'.ent aEt⟩)
   refine aU ?_
   exact Qo () (by rw[hG,decide_eq_true om,Bool.true_and];apply Bool.eq_false_iff.2;intro h9;simp only[Bool.and_eq_true,Bool.or_eq_true,decide_eq_true_eq]at h9;have hq:=h16;simp at hq h9;grind) aSx (λw h=>h.ent aEt)
  refine aU ?_
  exact Qo () (by rw[hG,decide_eq_false om];rfl) aSx (λw h=>h.ent aEt)
 intro _ hz1
 refine aU9 ?_
 refine Qt (α:=Nat) [10,11,16,68,69,70,71,72,73,74,75,76,77,78,79,80,81,82,83,84,85,86,87,88,89,90,91,92,93,94,95,96,97,98,99,100,101,102,103,104,105,106,107] (λk=>[(68,.int .i64 (k:Int))]) (λ_=>HS w (fps [.blk c7 3 1 [.int .i64 s]]) [.blk b2 64 3 (nth L 0).vals,.blk b1 64 3 (nth L v.i).vals,.blk c7 3 1 [.int .i64 s]]) (λk=>k<=(nth L v.i).es.length/\∀i,i<k->Zx (⟨(j:Int),mo,rm,pln L⟩:Tre) v (nth (nth L v.i).es i)=false) (λk=>(nth L v.i).es.length-k) 0 ⟨Nat.zero_le _,λi h=>absurd h (Nat.not_lt_zero i)⟩ aSx (λw h=>h.ent aEt) (λk hx=>?_)
 obtain⟨hk1,hk2⟩:=hx
 refine aU5 ?_
 refine sCd rfl (λh17=>?_) λh17=>?_
 ·have hkl:k<(nth L v.i).es.length:=by omega
  refine aU5 ?_
  refine o_p (Qa rfl rfl rfl QL (k) om om (Rw.some (hs.es hi) om)) rfl (o_q (Qu _ rfl rfl Ye rfl (Rw.rd (hs.es hi) (i:=k) hkl)) rfl (oAl (λb18 _=>?_) Xi))
  refine aU3 ?_
  refine Xe (α:=Unit) [72,73,74,75,76,77,78,79,80,81,82,83,84,85,86,87,88,89,90,91,92,93,94,95,96,97,98,99,100,101,102,103,104,105] (λ_=>[(105,.bool (Zx (⟨(j:Int),mo,rm,pln L⟩:Tre) v (nth (nth L v.i).es k)))]) (λ_=>HS w (fps [.blk c7 3 1 [.int .i64 s]]) [.blk b2 64 3 (nth L 0).vals,.blk b1 64 3 (nth L v.i).vals,.blk c7 3 1 [.int .i64 s]]) (λ_=>True) ?_ ?_
  ·skip
   refine Qq [] Qx ?_
   refine dP 0 ?_
   refine dV 1 rfl (Qfy rfl rfl rfl QgX) (dP 2 ?_)
   apply Q7 74
   ·exact rfl
   ·intro hg19
    have hs20:=hg19;skip
    refine dQo 3 74 [] hg19 rfl rfl rfl (Qc rfl rfl YE (hc1)) ?_
    obtain⟨k9,b9,o9,hlo9,rfl,hr9⟩:=hpl.of_some hg19
    refine dPo 4 74 hg19 ?_
    refine dFo 5 74 hg19 ?_
    refine dFo 6 74 hg19 ?_
    refine dQo 7 74 [] hg19 rfl rfl rfl (Qc rfl rfl Qd6 (ht 5 _ rfl)) ?_
    refine dPo 8 74 hg19 ?_
    refine dPo 9 74 hg19 ?_
    refine dQo 10 74 [] hg19 rfl rfl rfl (Qc rfl rfl Y8 (hr9)) ?_
    refine dFo 11 74 hg19 ?_
    refine dQo 12 74 [] hg19 rfl rfl rfl (XO rfl rfl Y8 aPk rfl) ?_
    refine dQo 13 74 [] hg19 rfl rfl rfl (X3 rfl rfl (QfT _) rfl (λw1 h1=>Qat w1 j k9 (nth (nth L v.i).es k).key hj (hlo _ hlo9).1 (hok _ (QQ hkl)).1 (hlo _ hlo9).2 (hok _ (QQ hkl)).2)) ?_
    refine dPo 14 74 hg19 ?_
    refine dV 15 rfl (Xk rfl rfl hg19 rfl) (Qs (show _=Value.bool (v.lo.any λb=>decide (0<=QM (j:Int) b (nth (nth L v.i).es k).key))from by congr 1;first|(rw[hlo9];rfl)|(rw[hpl.of_none hg19];rfl)) (dP 16 ?_))
    apply Q7 88
    ·exact rfl
    ·intro hg21
     have hs22:=hg21;skip
     refine dOf 17 88 hg21 ?_
     refine dOf 18 88 hg21 ?_
     refine dOf 19 88 hg21 ?_
     refine dOu 20 91 ?_
     refine dOu 21 91 ?_
     refine dOu 22 91 ?_
     refine dOu 23 91 ?_
     refine dOu 24 91 ?_
     refine dOu 25 91 ?_
     refine dOu 26 91 ?_
     refine dOu 27 91 ?_
     refine dOu 28 91 ?_
     refine dOu 29 91 ?_
     refine dOu 30 91 ?_
     refine dOu 31 91 ?_
     refine dOf 32 88 hg21 ?_
     refine dV 33 rfl (Xk rfl rfl hg21 rfl) (Qs (show _=Value.bool (Zx (⟨(j:Int),mo,rm,pln L⟩:Tre) v (nth (nth L v.i).es k))from by congr 1;show _=((v.lo.any λb=>decide (0<=QM (j:Int) b (nth (nth L v.i).es k).key))||(v.hi.any λb=>decide (0<=QM (j:Int) (nth (nth L v.i).es k).key b)));first|(rw[show(v.lo.any λb=>decide (0<=QM (j:Int) b (nth (nth L v.i).es k).key))=true by assumption];rfl)|(rw[show(v.lo.any λb=>decide (0<=QM (j:Int) b (nth (nth L v.i).es k).key))=false by assumption];rfl)) (dNi ?_))
     exact Qo () trivial aSx (λw h=>h.ent aEt)
    intro hg23
    have hs24:=hg23;skip
    refine dPo 17 88 hg23 ?_
    refine dVo 18 88 hg23 rfl rfl rfl (Qfy rfl rfl rfl QgX) ?_
    refine dPo 19 88 hg23 ?_
    apply Q7 91
    ·exact rfl
    ·intro hg25
     have hs26:=hg25;skip
     refine dQo 20 91 [] hg25 rfl rfl rfl (Qc rfl rfl YE (hc1)) ?_
     obtain⟨k8,b8,o8,hhi8,rfl,hr8⟩:=hph.of_some hg25
     refine dPo 21 91 hg25 ?_
     refine dFo 22 91 hg25 ?_
     refine dFo 23 91 hg25 ?_
     refine dQo 24 91 [] hg25 rfl rfl rfl (Qc rfl rfl Qd6 (ht 5 _ rfl)) ?_
     refine dFo 25 91 hg25 ?_
     refine dQo 26 91 [] hg25 rfl rfl rfl (XO rfl rfl Y8 aPk rfl) ?_
     refine dPo 27 91 hg25 ?_
     refine dPo 28 91 hg25 ?_
     refine dQo 29 91 [] hg25 rfl rfl rfl (Qc rfl rfl Y8 (hr8)) ?_
     refine dQo 30 91 [] hg25 rfl rfl rfl (X3 rfl rfl (QfT _) rfl (λw1 h1=>Qat w1 j (nth (nth L v.i).es k).key k8 hj (hok _ (QQ hkl)).1 (hhi _ hhi8).1 (hok _ (QQ hkl)).2 (hhi _ hhi8).2)) ?_
     refine dPo 31 91 hg25 ?_
     refine dVo 32 88 hg23 rfl rfl rfl (Xk rfl rfl hg25 rfl) ?_
     refine Qs (show _=Value.bool (v.hi.any λb=>decide (0<=QM (j:Int) (nth (nth L v.i).es k).key b))from by congr 1;first|(rw[hhi8];rfl)|(rw[hph.of_none hg25];rfl)) (dV 33 rfl (QW rfl rfl hg23 rfl) (Qs (show _=Value.bool (Zx (⟨(j:Int),mo,rm,pln L⟩:Tre) v (nth (nth L v.i).es k))from by congr 1;show _=((v.lo.any λb=>decide (0<=QM (j:Int) b (nth (nth L v.i).es k).key))||(v.hi.any λb=>decide (0<=QM (j:Int) (nth (nth L v.i).es k).key b)));first|(rw[show(v.lo.any λb=>decide (0<=QM (j:Int) b (nth (nth L v.i).es k).key))=true by assumption];rfl)|(rw[show(v.lo.any λb=>decide (0<=QM (j:Int) b (nth (nth L v.i).es k).key))=false by assumption];rfl)) (dNi ?_)))
     exact Qo () trivial aSx (λw h=>h.ent aEt)
    intro hg27
    have hs28:=hg27;skip
    refine dOf 20 91 hg27 ?_
    refine dOf 21 91 hg27 ?_
    refine dOf 22 91 hg27 ?_
    refine dOf 23 91 hg27 ?_
    refine dOf 24 91 hg27 ?_
    refine dOf 25 91 hg27 ?_
    refine dOf 26 91 hg27 ?_
    refine dOf 27 91 hg27 ?_
    refine dOf 28 91 hg27 ?_
    refine dOf 29 91 hg27 ?_
    refine dOf 30 91 hg27 ?_
    refine dOf 31 91 hg27 ?_
    refine dVo 32 88 hg23 rfl rfl rfl (QW rfl rfl hg27 rfl) ?_
    refine Qs (show _=Value.bool (v.hi.any λb=>decide (0<=QM (j:Int) (nth (nth L v.i).es k).key b))from by congr 1;first|(rw[hhi8];rfl)|(rw[hph.of_none hg27];rfl)) (dV 33 rfl (QW rfl rfl hg23 rfl) (Qs (show _=Value.bool (Zx (⟨(j:Int),mo,rm,pln L⟩:Tre) v (nth (nth L v.i).es k))from by congr 1;show _=((v.lo.any λb=>decide (0<=QM (j:Int) b (nth (nth L v.i).es k).key))||(v.hi.any λb=>decide (0<=QM (j:Int) (nth (nth L v.i).es k).key b)));first|(rw[show(v.lo.any λb=>decide (0<=QM (j:Int) b (nth (nth L v.i).es k).key))=true by assumption];rfl)|(rw[show(v.lo.any λb=>decide (0<=QM (j:Int) b (nth (nth L v.i).es k).key))=false by assumption];rfl)) (dNi ?_)))
    exact Qo () trivial aSx (λw h=>h.ent aEt)
   intro hg29
   have hs30:=hg29;skip
   refine dOf 3 74 hg29 ?_
   refine dOf 4 74 hg29 ?_
   refine dOf 5 74 hg29 ?_
   refine dOf 6 74 hg29 ?_
   refine dOf 7 74 hg29 ?_
   refine dOf 8 74 hg29 ?_
   refine dOf 9 74 hg29 ?_
   refine dOf 10 74 hg29 ?_
   refine dOf 11 74 hg29 ?_
   refine dOf 12 74 hg29 ?_
   refine dOf 13 74 hg29 ?_
   refine dOf 14 74 hg29 ?_
   refine dV 15 rfl (QW rfl rfl hg29 rfl) (Qs (show _=Value.bool (v.lo.any λb=>decide (0<=QM (j:Int) b (nth (nth L v.i).es k).key))from by congr 1;first|(rw[hlo9];rfl)|(rw[hpl.of_none hg29];rfl)) (dP 16 ?_))
   apply Q7 88
   ·exact rfl
   ·intro hg31
    have hs32:=hg31;skip
    refine dOf 17 88 hg31 ?_
    refine dOf 18 88 hg31 ?_
    refine dOf 19 88 hg31 ?_
    refine dOu 20 91 ?_
    refine dOu 21 91 ?_
    refine dOu 22 91 ?_
    refine dOu 23 91 ?_
    refine dOu 24 91 ?_
    refine dOu 25 91 ?_
    refine dOu 26 91 ?_
    refine dOu 27 91 ?_
    refine dOu 28 91 ?_
    refine dOu 29 91 ?_
    refine dOu 30 91 ?_
    refine dOu 31 91 ?_
    refine dOf 32 88 hg31 ?_
    refine dV 33 rfl (Xk rfl rfl hg31 rfl) (Qs (show _=Value.bool (Zx (⟨(j:Int),mo,rm,pln L⟩:Tre) v (nth (nth L v.i).es k))from by congr 1;show _=((v.lo.any λb=>decide (0<=QM (j:Int) b (nth (nth L v.i).es k).key))||(v.hi.any λb=>decide (0<=QM (j:Int) (nth (nth L v.i).es k).key b)));first|(rw[show(v.lo.any λb=>decide (0<=QM (j:Int) b (nth (nth L v.i).es k).key))=true by assumption];rfl)|(rw[show(v.lo.any λb=>decide (0<=QM (j:Int) b (nth (nth L v.i).es k).key))=false by assumption];rfl)) (dNi ?_))
    exact Qo () trivial aSx (λw h=>h.ent aEt)
   intro hg33
   have hs34:=hg33;skip
   refine dPo 17 88 hg33 ?_
   refine dVo 18 88 hg33 rfl rfl rfl (Qfy rfl rfl rfl QgX) ?_
   refine dPo 19 88 hg33 ?_
   apply Q7 91
   ·exact rfl
   ·intro hg35
    have hs36:=hg35;skip
    refine dQo 20 91 [] hg35 rfl rfl rfl (Qc rfl rfl YE (hc1)) ?_
    obtain⟨k8,b8,o8,hhi8,rfl,hr8⟩:=hph.of_some hg35
    refine dPo 21 91 hg35 ?_
    refine dFo 22 91 hg35 ?_
    refine dFo 23 91 hg35 ?_
    refine dQo 24 91 [] hg35 rfl rfl rfl (Qc rfl rfl Qd6 (ht 5 _ rfl)) ?_
    refine dFo 25 91 hg35 ?_
    refine dQo 26 91 [] hg35 rfl rfl rfl (XO rfl rfl Y8 aPk rfl) ?_
    refine dPo 27 91 hg35 ?_
    refine dPo 28 91 hg35 ?_
    refine dQo 29 91 [] hg35 rfl rfl rfl (Qc rfl rfl Y8 (hr8)) ?_
    refine dQo 30 91 [] hg35 rfl rfl rfl (X3 rfl rfl (QfT _) rfl (λw1 h1=>Qat w1 j (nth (nth L v.i).es k).key k8 hj (hok _ (QQ hkl)).1 (hhi _ hhi8).1 (hok _ (QQ hkl)).2 (hhi _ hhi8).2)) ?_
    refine dPo 31 91 hg35 ?_
    refine dVo 32 88 hg33 rfl rfl rfl (Xk rfl rfl hg35 rfl) ?_
    refine Qs (show _=Value.bool (v.hi.any λb=>decide (0<=QM (j:Int) (nth (nth L v.i).es k).key b))from by congr 1;first|(rw[hhi8];rfl)|(rw[hph.of_none hg35];rfl)) (dV 33 rfl (QW rfl rfl hg33 rfl) (Qs (show _=Value.bool (Zx (⟨(j:Int),mo,rm,pln L⟩:Tre) v (nth (nth L v.i).es k))from by congr 1;show _=((v.lo.any λb=>decide (0<=QM (j:Int) b (nth (nth L v.i).es k).key))||(v.hi.any λb=>decide (0<=QM (j:Int) (nth (nth L v.i).es k).key b)));first|(rw[show(v.lo.any λb=>decide (0<=QM (j:Int) b (nth (nth L v.i).es k).key))=true by assumption];rfl)|(rw[show(v.lo.any λb=>decide (0<=QM (j:Int) b (nth (nth L v.i).es k).key))=false by assumption];rfl)) (dNi ?_)))
    exact Qo () trivial aSx (λw h=>h.ent aEt)
   intro hg37
   have hs38:=hg37;skip
   refine dOf 20 91 hg37 ?_
   refine dOf 21 91 hg37 ?_
   refine dOf 22 91 hg37 ?_
   refine dOf 23 91 hg37 ?_
   refine dOf 24 91 hg37 ?_
   refine dOf 25 91 hg37 ?_
   refine dOf 26 91 hg37 ?_
   refine dOf 27 91 hg37 ?_
   refine dOf 28 91 hg37 ?_
   refine dOf 29 91 hg37 ?_
   refine dOf 30 91 hg37 ?_
   refine dOf 31 91 hg37 ?_
   refine dVo 32 88 hg33 rfl rfl rfl (QW rfl rfl hg37 rfl) ?_
   refine Qs (show _=Value.bool (v.hi.any λb=>decide (0<=QM (j:Int) (nth (nth L v.i).es k).key b))from by congr 1;first|(rw[hhi8];rfl)|(rw[hph.of_none hg37];rfl)) (dV 33 rfl (QW rfl rfl hg33 rfl) (Qs (show _=Value.bool (Zx (⟨(j:Int),mo,rm,pln L⟩:Tre) v (nth (nth L v.i).es k))from by congr 1;show _=((v.lo.any λb=>decide (0<=QM (j:Int) b (nth (nth L v.i).es k).key))||(v.hi.any λb=>decide (0<=QM (j:Int) (nth (nth L v.i).es k).key b)));first|(rw[show(v.lo.any λb=>decide (0<=QM (j:Int) b (nth (nth L v.i).es k).key))=true by assumption];rfl)|(rw[show(v.lo.any λb=>decide (0<=QM (j:Int) b (nth (nth L v.i).es k).key))=false by assumption];rfl)) (dNi ?_)))
   exact Qo () trivial aSx (λw h=>h.ent aEt)
  intro _ _
  refine sCd rfl (λh39=>?_) λh39=>?_
  ·have hz2:Zb (⟨(j:Int),mo,rm,pln L⟩:Tre) v=true:=by rw[hO,List.any_eq_true];exact⟨_,QQ hkl,h39⟩
   refine aU6 ?_
   exact Qf (rs:=[.tmp 10,.tmp 11]) rfl (.tmp rfl (.tmp rfl (.nil))) (λw' h'=>⟨(),by rw[hE];simp only[];rw[if_neg (by rw[hz1];decide),if_pos hz2];rfl,trivial,by rw[hS,if_neg (by rw[hz1];decide),if_pos hz2];exact h'.ent aEt⟩)
  refine aT4 ?_
  refine aU2 ?_
  exact sBk (k+1) om ⟨om,λi hi9=>(Nat.lt_or_ge i k).elim (hk2 i) (λh=>by obtain rfl:i=k:=om;have hq:=h39;simpa using hq)⟩
 obtain rfl:k=(nth L v.i).es.length:=om
 have hz2:Zb (⟨(j:Int),mo,rm,pln L⟩:Tre) v=false:=by rw[hO,List.any_eq_false];intro x hx;obtain⟨i9,hi9,e9⟩:=List.getElem_of_mem hx;have e8:nth (nth L v.i).es i9=x:=QP (by rw[List.getElem?_eq_getElem hi9,e9]);rw[<-e8,hk2 i9 hi9];decide
 refine Qi rfl ?_
 refine aU8 ?_
 refine sCd rfl (λh40=>?_) λh40=>?_
 ·have hc9:(nth L v.i).cs.length=0:=by have hq:=h40;omega
  have hEv:erV (⟨(j:Int),mo,rm,pln L⟩:Tre) s v=((v.i:Int),if(if s=0 then v.d else s)=v.d then 0 else 22):=by rw[hE,if_neg (by rw[hz1];decide),if_neg (by rw[hz2];decide),if_pos hc9]
  refine aU6 ?_
  refine Xe (α:=Unit) [114] (λ_=>[]) (λ_=>HS w (fps [.blk c7 3 1 [.int .i64 s]]) [.blk b2 64 3 (nth L 0).vals,.blk b1 64 3 (nth L v.i).vals,.blk c7 3 1 [.int .i64 (if s=0 then v.d else s)]]) (λ_=>True) ?_ ?_
  ·skip
   refine sCd rfl (λh41=>?_) λh41=>?_
   ·refine aU4 ?_
    exact Qo () trivial aSx (λw h=>by rw[if_pos h41];exact h.ent aEt)
   refine aU ?_
   exact Qo () trivial aSx (λw h=>by rw[if_neg h41];exact h.ent aEt)
  intro _ _
  refine aU6 ?_
  refine oCq rfl (λw1 h1=>QbB w1 _ _) (aU3 ?_)
  exact Qf (rs:=[.tmp 10,.tmp 11]) rfl (.tmp rfl (.tmp rfl (.nil))) (λw' h'=>⟨(),by rw[hEv];simp only[QV,cond_eq_ite,decide_eq_true_eq],trivial,by rw[hS,if_neg (by rw[hz1];decide),if_neg (by rw[hz2];decide),if_pos hc9];exact h'.ent aEt⟩)
 have hc9:¬(nth L v.i).cs.length=0:=by have hq:=h40;omega
 refine aU7 ?_
 exact Qf (rs:=[.tmp 10,.tmp 11]) rfl (.tmp rfl (.tmp rfl (.nil))) (λw' h'=>⟨(),by rw[hE];simp only[];rw[if_neg (by rw[hz1];decide),if_neg (by rw[hz2];decide),if_neg hc9];rfl,trivial,by rw[hS,if_neg (by rw[hz1];decide),if_neg (by rw[hz2];decide),if_neg hc9];exact h'.ent aEt⟩)
theorem Qqt:Xy Tryz.prog 4=some [.bool false]:=by kernel_rfl
theorem Qqh:Xy Tryz.prog 146=some [.slice none 0 0]:=by kernel_rfl
theorem c120(w:World)(bt:Nat)(j:Nat)(mo rm:Int)(a:Option Addr)(cap:Nat)(L:List LNd)(ht:TbR w [] bt (j:Int) mo rm a L.length cap)(hs:Nt w [] a L)(hj:j<=3)(hmo:0<=mo/\mo<=1000)(h0:0<L.length)(hB:Bd (pln L))(hT:TOk (j:Int) (pln L)):CR 120 #[.pointer (some ⟨bt,0,none⟩)] w (.tuple #[.int .i64 (Qbc (⟨(j:Int),mo,rm,pln L⟩:Tre)).1,.int .i64 (Qbc (⟨(j:Int),mo,rm,pln L⟩:Tre)).2]):=by
 have hle:=hB.len
 rw[Qb]at hle
 have hvis:vis (pln L) L.length ZU=Yx (pln L):=by unfold Yx;rw[Qb]
 have hmar:=Qj3 (Yx (pln L)) (List.replicate L.length false)
 rw[List.length_replicate]at hmar
 have hbel:∀i,i<L.length->(XK Qgi (λ_ _=>(0,0)) (List.replicate L.length false) (Yx (pln L))).2.getD i false=decide (i∈(Yx (pln L)).map Vis.i):=λi hi=>by rw[hmar.2.2 i hi,show(List.replicate L.length false).getD i false=false from by rw[List.getD_eq_getElem?_getD,List.getElem?_replicate];split<;>rfl,Bool.false_or]
 have hes9:∀i,i<L.length->(nth L i).es.length<=1000:=λi hi=>by have h9:=hB.es i (by rw[Qb];exact hi);rw[Qp hi]at h9;exact h9
 have hcs9:∀i,i<L.length->(nth L i).cs.length<=1000:=λi hi=>by have h9:=hB.cs i (by rw[Qb];exact hi);rw[Qp hi]at h9;exact h9
 have hok9:∀i,i<L.length->∀x∈(nth L i).es,QS (j:Int) x.key=true/\x.key.length<=1000000:=λi hi=>by have h9:=Qc2 hT (i:=i) (by rw[Qb];exact hi);rw[Qp hi]at h9;exact h9
 refine eN1 Tryz.func120 Tryz.ntmps120 ?_
 refine aU2 ?_
 refine oBx λb1 _=>?_
 refine aU9 ?_
 refine o_q (Qc rfl rfl Y9 (ht 3 _ rfl)) rfl (aU ?_)
 refine o_h (QjD (n:=L.length) rfl rfl rfl Qa9 Qqt om om) rfl (λb2 _=>Q6 (λw h=>(show HS _ _ [.blk b2 4 L.length ((List.replicate L.length false).map Value.bool),.blk b1 118 1 [.pointer (some ⟨bt,0,none⟩)]] w from by have h9:=h;rw[Nat.mul_one,Qis,<-List.map_replicate]at h9;exact h9.ent aEt)) (oAl (λb3 _=>?_) Qqh))
 refine aU6 ?_
 refine o_h (QT (Cs:=[.blk b2 4 L.length ((List.replicate L.length false).map Value.bool)]) rfl Qi3 rfl aPs (λw1 h1 hf=>by have h9:=Qja (List Bool) (λs=>s.length=L.length) (λs=>.blk b2 4 L.length (s.map Value.bool)) Qgi (λ_ _=>(0,0)) 171 #[.pointer (some ⟨b3,0,none⟩)] bt j mo rm a cap L L.length w1 (List.replicate L.length false) ZU none none [] hf (by kernel_rfl) (λ_ _=>rfl) (λs v h=>by simpa[Qgi]using h) (by simp) (λs2 v2 p2 p3 w2 h2 hs2 hi2 _ _ _ _=>c171 w2 v2.i v2.d p2 p3 b3 b2 L.length s2 (HS.focus (Cs:=[_]) (Ds:=[]) h2) (h2.keep (h1.rd_blkF aPs (b:=b3) aPk rfl)) hi2 hs2) ((ht.keep h1).mono (Xf aPs)) ((hs.keep h1).mono (Xf aPs)) hT hB rfl rfl h0 rfl (by simp) rfl (λ_ h=>by cases h) (λ_ h=>by cases h);rw[hvis]at h9;exact h9)) rfl (λ_ _=>aU3 ?_)
 refine Q6 (λw h=>(show HS _ _ [.blk b2 4 L.length ((XK Qgi (λ_ _=>(0,0)) (List.replicate L.length false) (Yx (pln L))).2.map Value.bool),.blk b3 146 1 [.slice (some ⟨b2,0,none⟩) L.length L.length],.blk b1 118 1 [.pointer (some ⟨bt,0,none⟩)]] w from h.ent aEt)) (aU8 ?_)
 refine o_q (Qc rfl rfl Y9 (ht 3 _ rfl)) rfl (aU4 ?_)
 refine Qg (L':=[(1,_),(2,_),(3,_),(4,_),(25,_),(26,_),(27,_)]) aSx (λ_ h=>h) ?_
 refine Qt (α:=Nat) [2,3,5,6,27,28,29,30,31,32,33,34,35,36,37,38,39,40,41,42] (λk=>[(27,.int .i64 (k:Int))]) (λ_=>HS w [] [.blk b2 4 L.length ((XK Qgi (λ_ _=>(0,0)) (List.replicate L.length false) (Yx (pln L))).2.map Value.bool),.blk b3 146 1 [.slice (some ⟨b2,0,none⟩) L.length L.length],.blk b1 118 1 [.pointer (some ⟨bt,0,none⟩)]]) (λk=>k<=L.length/\Z3 (pln L) ((Yx (pln L)).map Vis.i) L.length 0=Z3 (pln L) ((Yx (pln L)).map Vis.i) (L.length-k) k) (λk=>L.length-k) 0 ⟨Nat.zero_le _,rfl⟩ aSx (λw h=>h.ent aEt) (λk hx=>?_)
 obtain⟨hk1,hk2⟩:=hx
 refine aU5 ?_
 refine sCd rfl (λh4=>?_) λh4=>?_
 ·have hkl:k<L.length:=by omega
  have hst:=Qgl (ns:=pln L) (below:=(Yx (pln L)).map Vis.i) (k:=k) (by rw[Qb];exact hkl)
  rw[Qb,Qp hkl]at hst
  refine aU6 ?_
  refine o_p (Qa rfl rfl rfl QE (k) om om (Rw.some hs.1 om)) rfl (o_q (Qu _ rfl rfl Y5 rfl (Rw.rd hs.1 hkl)) rfl (oAl (λb5 _=>?_) XY))
  refine aU8 ?_
  refine XJ 6 34 40 rfl
   (λhg6 _=>by
    refine aU5 ?_
    refine o_p (Qa rfl rfl rfl Qa9 (k) om om rfl) rfl (aU ?_)
    refine o_q (Qn rfl rfl Qei (λw h=>by rw[Nat.zero_add,Nat.mul_one];exact h.rd_blk (Mc:=[]) (b:=b2) aPk (Qmr (by rw[hmar.2.1];exact hkl)) (by simp))) rfl (aU2 ?_)
    exact oJt 6 40)
   (λhg8 _=>by
    refine aU5 ?_
    exact oJf 6 40) ?_
  refine aU ?_
  refine sCd rfl (λh10=>?_) λh10=>?_
  ·have hz:(nth L k).pl.us=true/\k ∉ (Yx (pln L)).map Vis.i:=by have hq:=h10;rw[hbel k hkl]at hq;simp only[LNd.pl];simpa using hq
   refine aU6 ?_
   exact Qf (rs:=[.tmp 2,.tmp 3]) rfl (.tmp rfl (.tmp rfl (.nil))) (λw' h'=>⟨by rw[QcJ (t:=(⟨(j:Int),mo,rm,pln L⟩:Tre)) (i:=k) (show Z3 (pln L) _ (pln L).length 0=some k from by rw[Qb,hk2,hst,if_pos hz])];rfl,h'.below⟩)
  have hz:¬((nth L k).pl.us=true/\k ∉ (Yx (pln L)).map Vis.i):=by have hq:=h10;rw[hbel k hkl]at hq;simp only[LNd.pl];intro h9;simp at hq h9;grind
  refine aT4 ?_
  refine aU2 ?_
  exact sBk (k+1) om ⟨om,by rw[hk2,hst,if_neg hz]⟩
 have hnone:Z3 (pln L) ((Yx (pln L)).map Vis.i) L.length 0=none:=by rw[hk2,show L.length-k=0 by omega];rfl
 refine Qi rfl ?_
 refine aU2 ?_
 refine oAl (λb11 _=>?_) Yo
 refine aU6 ?_
 refine o_h (QT (Cs:=[.blk b11 3 1 [.int .i64 0]]) rfl Qi3 rfl aPs (λw1 h1 hf=>by have h9:=Qja Int (λ_=>True) (λs=>.blk b11 3 1 [.int .i64 s]) (stV (⟨(j:Int),mo,rm,pln L⟩:Tre)) (erV (⟨(j:Int),mo,rm,pln L⟩:Tre)) 172 #[.pointer (some ⟨b1,0,none⟩),.pointer (some ⟨b11,0,none⟩)] bt j mo rm a cap L L.length w1 0 ZU none none [] hf (by kernel_rfl) (λ_ _=>rfl) (λ_ _ _=>trivial) trivial (λs2 v2 p2 p3 w2 h2 _ hi2 ha2 hb2 hp2 hp3=>c172 w2 v2 p2 p3 b1 b11 s2 bt j mo rm a cap L (HS.focus (Cs:=[_]) (Ds:=[]) h2) (h2.keep (h1.rd_blkF aPs (b:=b1) aPk rfl)) (((ht.keep h1).mono (Xf aPs)).keep h2) (((hs.keep h1).mono (Xf aPs)).keep h2) hj hmo hi2 hle (hes9 _ hi2) (hcs9 _ hi2) (hcs9 _ h0) (hes9 _ h0) hp2 hp3 ha2 hb2 (hok9 _ hi2)) ((ht.keep h1).mono (Xf aPs)) ((hs.keep h1).mono (Xf aPs)) hT hB rfl rfl h0 rfl (by simp) rfl (λ_ h=>by cases h) (λ_ h=>by cases h);rw[hvis,Gx.run_shape (t:=(⟨(j:Int),mo,rm,pln L⟩:Tre)) hT (by show 0<(pln L).length;rw[Qb];exact h0)]at h9;exact h9)) rfl (λ_ _=>aU5 ?_)
 exact Qf (rs:=[.tmp 2,.tmp 3]) rfl (.tmp rfl (.tmp rfl (.nil))) (λw' h'=>⟨by rw[QcD (t:=(⟨(j:Int),mo,rm,pln L⟩:Tre)) (show Z3 (pln L) _ (pln L).length 0=none from by rw[Qb];exact hnone)];rfl,h'.below⟩)
theorem QmM:YA Tryz.prog 128=some [(0,4),(4,2)]:=by kernel_rfl
theorem Qmt:Xy Tryz.prog 128=some [.int .i64 0,.int .i64 0,.int .i64 0,.slice none 0 0,.nilFunc,.nilFunc]:=by kernel_rfl
theorem Qq2:QH Tryz.prog 119=true:=by kernel_rfl
instance:TFn Tryz.prog 120:=⟨by kernel_rfl⟩
instance:TFn Tryz.prog 144:=⟨by kernel_rfl⟩
theorem QnV:QH Tryz.prog 145=true:=by kernel_rfl
theorem QlV:QH Tryz.prog 146=true:=by kernel_rfl
theorem c66(w:World)(co mo rm:Int)(a:Option Addr)(cap:Nat)(L:List LNd)(hs:Nt w [] a L)(hB:Bd (pln L))(hkl:∀i,i<L.length->∀x∈(nth L i).es,x.key.length<=1000000):CR 66 #[.agg #[.int .i64 co,.int .i64 mo,.int .i64 rm,.slice a L.length cap]] w (.tuple #[.int .i64 (QZ (⟨co,mo,rm,pln L⟩:Tre)).1,.int .i64 (QZ (⟨co,mo,rm,pln L⟩:Tre)).2]):=by
 have hle:=hB.len
 rw[Qb]at hle
 have hes9:∀i,i<L.length->(nth L i).es.length<=1000:=λi hi=>by have h9:=hB.es i (by rw[Qb];exact hi);rw[Qp hi]at h9;exact h9
 have hcs9:∀i,i<L.length->(nth L i).cs.length<=1000:=λi hi=>by have h9:=hB.cs i (by rw[Qb];exact hi);rw[Qp hi]at h9;exact h9
 refine eN1 Tryz.func66 Tryz.ntmps66 ?_
 refine aU2 ?_
 refine oBx λb1 _=>?_
 refine Y1 ?_
 refine oCq rfl (λw1 h1=>c117 w1 _ _ _) (aU7 ?_)
 refine sCd rfl (λh2=>?_) λh2=>?_
 ·have hz:=Qcl (t:=(⟨co,mo,rm,pln L⟩:Tre)) h2
  refine aU6 ?_
  exact Qf (rs:=[.tmp 2,.tmp 3]) rfl (.tmp rfl (.tmp rfl (.nil))) (λw' h'=>⟨by rw[hz];rfl,h'.below⟩)
 have hc0:(if Q0 co=0 then YI mo rm else Q0 co)=0:=h2
 obtain⟨hco,hsz⟩:=QgT (t:=(⟨co,mo,rm,pln L⟩:Tre)) hc0
 obtain⟨j,rfl,hj⟩:=QbO hco
 have hsz2:(3<=mo/\mo<=8)/\(mo/2<=rm/\rm<=mo):=QaN hsz
 refine aU3 ?_
 refine Qq [] Qx ?_
 refine dFa 0 ?_
 refine dLd 1 [] ?_
 refine dV 2 rfl (Qz rfl rfl Tryz.underlying25) (dP 3 ?_)
 refine dQ 4 [] rfl (Ql rfl QaL rfl (λw1 h1=>QbB w1 _ _)) (dFa 5 ?_)
 refine dLd 6 [] ?_
 refine dV 7 rfl (Qz rfl rfl Tryz.underlying25) (dP 8 ?_)
 refine dQ 9 [] rfl (Ql rfl QaL rfl (λw1 h1=>QbB w1 _ _)) (dH 10 rfl (Qd (cs:=[_,_]) rfl rfl XI Yv rfl rfl rfl) (λb3 _=>dBa ?_))
 refine dQ 11 [] rfl (Ql rfl Qe4 rfl (λw1 h1=>Qju h1 aPk (by rfl) (by rfl) (by decide))) ?_
 refine Qs (show _=Value.int .i64 (Y4 L.length)from by congr 1;rw[Qa1];unfold Y4;simp only[cond_eq_ite,decide_eq_true_eq];first|(split<;>(try split)<;>(try split)<;>(try split)<;>first|rfl|omega)) (dP 12 ?_)
 refine dNi ?_
 refine aU5 ?_
 refine sCd rfl (λh4=>?_) λh4=>?_
 ·have hz:=Qdm (t:=(⟨(j:Int),mo,rm,pln L⟩:Tre)) hc0 (by rw[show((⟨(j:Int),mo,rm,pln L⟩:Tre)).ns.length=L.length from Qb L];exact h4)
  rw[show((⟨(j:Int),mo,rm,pln L⟩:Tre)).ns.length=L.length from Qb L]at hz
  refine aU6 ?_
  exact Qf (rs:=[.tmp 2,.tmp 3]) rfl (.tmp rfl (.tmp rfl (.nil))) (λw' h'=>⟨by rw[hz];rfl,h'.below⟩)
 have hc1:Y4 L.length=0:=h4
 have hz:=QdK (t:=(⟨(j:Int),mo,rm,pln L⟩:Tre)) hc0 (by rw[show((⟨(j:Int),mo,rm,pln L⟩:Tre)).ns.length=L.length from Qb L];exact hc1)
 rw[show((⟨(j:Int),mo,rm,pln L⟩:Tre)).ns.length=L.length from Qb L]at hz
 obtain⟨h00,h120⟩:=Qjy hc1
 refine aU2 ?_
 refine Qg (L':=[(1,_),(2,_),(3,_)]) aSx (λ_ h=>h) ?_
 refine Xe (α:=Nat×Nat) [6,7,37,38,39,40,41,42,43,44] (λx=>[(6,.pointer (some ⟨x.1,0,none⟩)),(7,.map (some x.2))]) (λx=>HS w [] [.blk b1 27 4 [.int .i64 (j:Int),.int .i64 mo,.int .i64 rm,.slice a L.length cap],.blk x.1 128 6 (tbV (j:Int) mo rm a L.length cap),.mp x.2 KI []]) (λ_=>True) ?_ ?_
 ·skip
  refine Qq [] Qx ?_
  refine dLn 0 [] ?_
  refine dQ 1 [] rfl (Ql rfl QjF rfl (λw1 h1=>QqC w1)) (dFa 2 ?_)
  refine dLd 3 [] ?_
  refine dV 4 rfl (Qbu rfl rfl rfl Qhs QhF j rfl om) (Qs (QfO j hj) (dV 5 rfl (QD (cs:=[_,_,_,_,_,_]) rfl rfl QmM Qmt rfl) (Qgp 6 7 rfl rfl (QkC rfl rfl) (QdJ rfl KI) (by kernel_rfl) (λw h=>h.ent aEt) rfl rfl (λb5 _=>?_) (λb6 _=>?_))))
  ·skip
   refine dBa ?_
   refine dP 8 ?_
   refine dH 7 rfl (QdJ rfl KI) (λb7 _=>dBa ?_)
   refine dP 9 ?_
   refine dNi ?_
   exact Qo (b5,b7) trivial aSx (λw h=>h.ent aEt)
  skip
  refine dBa ?_
  refine dH 6 rfl (QkC rfl rfl) (λb8 _=>dBa ?_)
  refine dP 8 ?_
  refine dP 9 ?_
  refine dNi ?_
  exact Qo (b8,b6) trivial aSx (λw h=>h.ent aEt)
 intro⟨bt,r⟩ _
 refine aU9 ?_
 refine Qt (α:=Nat×List Int×List Int) [2,3,8,9,48,49,50,51,52,53,54,55,56,57,58,59] (λx=>[(48,.int .i64 (x.1:Int))]) (λx=>HS w [] [.blk b1 27 4 [.int .i64 (j:Int),.int .i64 mo,.int .i64 rm,.slice a L.length cap],.blk bt 128 6 (tbV (j:Int) mo rm a L.length cap),.mp r KI x.2.1]) (λx=>x.1<=L.length/\(∀y,y∈x.2.1 ↔ y∈x.2.2)/\(X5 (⟨(j:Int),mo,rm,pln L⟩:Tre) L.length 0 [])=X5 (⟨(j:Int),mo,rm,pln L⟩:Tre) (L.length-x.1) x.1 x.2.2) (λx=>L.length-x.1) (0,[],[]) ⟨Nat.zero_le _,λ_=>Iff.rfl,rfl⟩ aSx (λw h=>h.ent aEt) (λ⟨k,K,S9⟩hx=>?_)
 dsimp only
 obtain⟨hk1,hk2,hk3⟩:=hx
 simp only[]at hk1 hk2 hk3
 refine aU5 ?_
 refine sCd rfl (λh9=>?_) λh9=>?_
 ·have hkl9:k<L.length:=by omega
  have hst:=QeX (t:=(⟨(j:Int),mo,rm,pln L⟩:Tre)) (k:=k) (seen:=S9) (by rw[show((⟨(j:Int),mo,rm,pln L⟩:Tre)).ns.length=L.length from Qb L];exact hkl9)
  rw[show((⟨(j:Int),mo,rm,pln L⟩:Tre)).ns.length=L.length from Qb L]at hst
  refine Z5 ?_
  refine o_h (QT (Cs:=[.mp r KI K]) rfl Qq2 rfl aPs (λw1 h1 hf=>c119 w1 k r K S9 bt j mo rm a cap L hf hk2 (λk9 v9 hv9=>h1.rd_blkF aPs (b:=bt) aPk hv9) ((hs.keep h1).mono (Xf aPs)) hle hj hkl9 (hes9 _ hkl9) (hcs9 _ hkl9) (hkl _ hkl9))) rfl (λb10 hkG=>aU7 ?_)
  refine sCd rfl (λh11=>?_) λh11=>?_
  ·have hz3:(X5 (⟨(j:Int),mo,rm,pln L⟩:Tre) L.length 0 [])=((k:Int),(XX (⟨(j:Int),mo,rm,pln L⟩:Tre) k S9).1):=by rw[hk3,hst,if_neg h11]
   rw[hz3,if_neg (show¬(((k:Int),(XX (⟨(j:Int),mo,rm,pln L⟩:Tre) k S9).1):Int×Int).2=0 from h11)]at hz
   refine aU7 ?_
   exact Qf (rs:=[.tmp 2,.tmp 3]) rfl (.tmp rfl (.tmp rfl (.nil))) (λw' h'=>⟨by rw[hz];rfl,h'.below⟩)
  have hz3:X5 (⟨(j:Int),mo,rm,pln L⟩:Tre) (L.length-k) k S9=X5 (⟨(j:Int),mo,rm,pln L⟩:Tre) (L.length-(k+1)) (k+1) (XX (⟨(j:Int),mo,rm,pln L⟩:Tre) k S9).2:=by rw[hst,if_pos h11]
  refine aT4 ?_
  refine aU2 ?_
  exact sBk (k+1,b10,(XX (⟨(j:Int),mo,rm,pln L⟩:Tre) k S9).2) (by(try simp only[]);omega) ⟨by(try simp only[]);omega,hkG,by simp only[];rw[hk3,hz3]⟩
 have hnd:(X5 (⟨(j:Int),mo,rm,pln L⟩:Tre) L.length 0 [])=(0,0):=by rw[hk3,show L.length-k=0 by omega];rfl
 rw[hnd,if_pos rfl]at hz
 have hT:TOk (j:Int) (pln L):=QaK (t:=(⟨(j:Int),mo,rm,pln L⟩:Tre)) (by show(X5 (⟨(j:Int),mo,rm,pln L⟩:Tre) (pln L).length 0 []).2=0;rw[Qb,hnd])
 refine Qi rfl ?_
 refine aU3 ?_
 refine oCq rfl (λw1 h1=>c120 w1 bt j mo rm a cap L (HS.tbr h1 aPk) (hs.later h1) hj om h00 hB hT) (Y1 ?_)
 refine Xe (α:=Unit) [10] (λ_=>[(10,.int .i64 (QZ (⟨(j:Int),mo,rm,pln L⟩:Tre)).1)]) (λ_=>HS w [] []) (λ_=>True) ?_ ?_
 ·skip
  refine sCd rfl (λh12=>?_) λh12=>?_
  ·refine aU3 ?_
   exact Qo () trivial (by rw[hz,Qkw h12];exact aSx) (λw h=>h.ent aEt)
  refine aU ?_
  exact Qo () trivial (by rw[hz];exact aSx) (λw h=>h.ent aEt)
 intro _ _
 refine aU7 ?_
 exact Qf (rs:=[.tmp 2,.tmp 3]) rfl (.tmp rfl (.tmp rfl (.nil))) (λw' h'=>⟨by simp only[QV];rw[hz],h'.below⟩)
theorem c144(w:World)(a:Option Addr)(cap:Nat)(l:List LNd)(hs:Rw LNd.vals 3 w [] a l)(hm:l.length<=1000000):CE 144 #[.slice a l.length cap] w [] (λg:Option Addr×Nat=>.slice g.1 l.length g.2) (λg=>True) λg=>[.own (.slice g.1 l.length g.2) 64 3 l.length (l.flatMap LNd.vals)]:=by
 refine eN1 Tryz.func144 Tryz.ntmps144 ?_
 refine aU8 ?_
 refine o_p (YN rfl rfl rfl Tryz.underlying25) rfl (aU ?_)
 refine sCd rfl (λh1=>?_) λh1=>?_
 ·have ha0:a=none:=by cases a with|none=>rfl|some b=>simp at h1
  subst ha0
  have hl0:l=[]:=Rw.none hs
  refine aU4 ?_
  exact rT rfl rfl (λw' h'=>⟨(none,0),by rw[hl0];rfl,trivial,by rw[hl0];exact(h'.own_nil 64 3).ent aEt⟩)
 refine aU3 ?_
 refine o_h (Q9 rfl QE) rfl (λb2 _=>aU ?_)
 refine o_h (Qy (l.flatMap LNd.vals) rfl rfl rfl QE Tryz.underlying25 XY rfl aPk (λw h=>Rw.src nv3 hs h) (Qj nv3 l) (Xu nv1 l) om (by simp only[maxLen];omega)) rfl (λb3 _=>aU2 ?_)
 exact rT rfl rfl (λw' h'=>⟨b3,by simp only[QV,Nat.zero_add],trivial,by have h2:=h';simp only[Nat.zero_add,List.nil_append]at h2;exact h2.ent aEt⟩)
theorem c145(w:World)(a:Option Addr)(cap:Nat)(l:List TEnt)(hs:Rw TEnt.vals 2 w [] a l)(hm:l.length<=1000000):CE 145 #[.slice a l.length cap] w [] (λg:Option Addr×Nat=>.slice g.1 l.length g.2) (λg=>True) λg=>[.own (.slice g.1 l.length g.2) 76 2 l.length (l.flatMap TEnt.vals)]:=by
 refine eN1 Tryz.func145 Tryz.ntmps145 ?_
 refine aU8 ?_
 refine o_p (YN rfl rfl rfl Tryz.underlying62) rfl (aU ?_)
 refine sCd rfl (λh1=>?_) λh1=>?_
 ·have ha0:a=none:=by cases a with|none=>rfl|some b=>simp at h1
  subst ha0
  have hl0:l=[]:=Rw.none hs
  refine aU4 ?_
  exact rT rfl rfl (λw' h'=>⟨(none,0),by rw[hl0];rfl,trivial,by rw[hl0];exact(h'.own_nil 76 2).ent aEt⟩)
 refine aU3 ?_
 refine o_h (Q9 rfl QL) rfl (λb2 _=>aU ?_)
 refine o_h (Qy (l.flatMap TEnt.vals) rfl rfl rfl QL Tryz.underlying62 Xi rfl aPk (λw h=>Rw.src ev2 hs h) (Qj ev2 l) (Xu ev1 l) om (by simp only[maxLen];omega)) rfl (λb3 _=>aU2 ?_)
 exact rT rfl rfl (λw' h'=>⟨b3,by simp only[QV,Nat.zero_add],trivial,by have h2:=h';simp only[Nat.zero_add,List.nil_append]at h2;exact h2.ent aEt⟩)
theorem c146(w:World)(a:Option Addr)(cap:Nat)(l:List Int)(hs:Rw inV 1 w [] a l)(hm:l.length<=1000000):CE 146 #[.slice a l.length cap] w [] (λg:Option Addr×Nat=>.slice g.1 l.length g.2) (λg=>True) λg=>[.own (.slice g.1 l.length g.2) 3 1 l.length (l.flatMap inV)]:=by
 refine eN1 Tryz.func146 Tryz.ntmps146 ?_
 refine aU8 ?_
 refine o_p (YN rfl rfl rfl Tryz.underlying52) rfl (aU ?_)
 refine sCd rfl (λh1=>?_) λh1=>?_
 ·have ha0:a=none:=by cases a with|none=>rfl|some b=>simp at h1
  subst ha0
  have hl0:l=[]:=Rw.none hs
  refine aU4 ?_
  exact rT rfl rfl (λw' h'=>⟨(none,0),by rw[hl0];rfl,trivial,by rw[hl0];exact(h'.own_nil 3 1).ent aEt⟩)
 refine aU3 ?_
 refine o_h (Q9 rfl QB) rfl (λb2 _=>aU ?_)
 refine o_h (Qy (l.flatMap inV) rfl rfl rfl QB Tryz.underlying52 Yo rfl aPk (λw h=>Rw.src iv1 hs h) (Qj iv1 l) (Xu QgZ l) om (by simp only[maxLen];omega)) rfl (λb3 _=>aU2 ?_)
 exact rT rfl rfl (λw' h'=>⟨b3,by simp only[QV,Nat.zero_add],trivial,by have h2:=h';simp only[Nat.zero_add,List.nil_append]at h2;exact h2.ent aEt⟩)
theorem QqR(w:World)(j:Nat)(mo rm:Int)(a:Option Addr)(cap:Nat)(L:List LNd)(hs:Nt w [] a L)(hB:Bd (pln L))(hj:j<=3)(h0:0<L.length):CE 108 #[.agg #[.int .i64 (j:Int),.int .i64 mo,.int .i64 rm,.slice a L.length cap]] w [] (λg:Nat×(Option Addr×Nat)×List LNd=>.pointer (some ⟨g.1,0,none⟩)) (λg=>pln g.2.2=pln L) λg=>[.blk g.1 128 6 (tbV (j:Int) mo rm g.2.1.1 g.2.2.length g.2.1.2),.nodes 76 64 g.2.1.1 g.2.1.2 g.2.2]:=by
 have hle:=hB.len
 rw[Qb]at hle
 have hes9:∀i,i<L.length->(nth L i).es.length<=1000:=λi hi=>by have h9:=hB.es i (by rw[Qb];exact hi);rw[Qp hi]at h9;exact h9
 have hcs9:∀i,i<L.length->(nth L i).cs.length<=1000:=λi hi=>by have h9:=hB.cs i (by rw[Qb];exact hi);rw[Qp hi]at h9;exact h9
 refine eN1 Tryz.func108 Tryz.ntmps108 ?_
 refine aU2 ?_
 refine oBx λb1 _=>?_
 refine aU3 ?_
 refine Qq [] Qx ?_
 refine dLn 0 [] ?_
 refine dQ 1 [] rfl (Ql rfl QjF rfl (λw1 h1=>QqC w1)) (dFa 2 ?_)
 refine dLd 3 [] ?_
 refine dV 4 rfl (Qbu rfl rfl rfl Qhs QhF j rfl om) (Qs (QfO j hj) (dV 5 rfl (QD (cs:=[_,_,_,_,_,_]) rfl rfl QmM Qmt rfl) (dH 6 rfl (QkC rfl rfl) (λb2 _=>dBa ?_))))
 refine dP 7 ?_
 refine dNi ?_
 refine aU5 ?_
 refine oCh rfl (λw1 h1=>c144 w1 a cap L (hs.1.later h1) om) (λ⟨b3,c4⟩_=>Xo (λw h=>QbN h0 h aPk) (λhgn=>?_))
 obtain⟨gn,rfl,hcap,hcm⟩:=hgn
 refine Q6 (λw h=>HS.own_at h aPk) (aU3 ?_)
 refine Qal (Xt rfl rfl rfl Y9 rfl aPt (by show 4<=6;omega) rfl) (λ_ _=>Z5 ?_)
 refine Qg (L':=[(2,_),(3,_),(24,_),(25,_),(26,_)]) aSx (λ_ h=>h) ?_
 refine Qt (α:=Nat×List LNd) [4,5,26,27,28,29,30,31,32,33,34,35,36,37,38,39,40,41,42,43,44,45,46,47,48,49,50,51,52,53] (λx=>[(26,.int .i64 (x.1:Int))]) (λx=>HS w [] [.blk gn 64 (c4*3) ((x.2++L.drop x.1).flatMap LNd.vals),.star (x.2.map (Qw 76)),.blk b2 128 6 (tbV (j:Int) mo rm (some ⟨gn,0,none⟩) L.length c4)]) (λx=>x.1<=L.length/\x.2.length=x.1/\pln x.2=(pln L).take x.1) (λx=>L.length-x.1) (0,[]) ⟨Nat.zero_le _,rfl,rfl⟩ aSx (λw h=>(h.star_nil).ent aEt) (λ⟨k,D⟩hx=>?_)
 dsimp only
 obtain⟨hk1,hk2,hk3⟩:=hx
 simp only[]at hk1 hk2 hk3
 refine aU5 ?_
 refine sCd rfl (λh5=>?_) λh5=>?_
 ·have hkl:k<L.length:=by omega
  refine aU6 ?_
  refine o_p (Qa rfl rfl rfl QE (k) om om rfl) rfl (o_q (Yi (LNd.vals (nth L k)) rfl rfl Y5 rfl (λw h=>by have h9:=Rw.rd (h.rw_blk nv3 aPk) (i:=k) (by simp only[List.length_append,List.length_drop];omega);rw[QjO hk2 hkl]at h9;exact h9)) rfl (oAl (λb6 _=>?_) XY))
  refine aU3 ?_
  refine Qq [20,23] Qx ?_
  refine dP 0 ?_
  refine dP 1 ?_
  refine dFa 2 ?_
  refine dFa 3 ?_
  refine dLd 4 [[],[]] ?_
  refine dP 5 ?_
  refine dP 6 ?_
  refine dP 7 ?_
  refine dFa 8 ?_
  refine dFa 9 ?_
  refine dLd 10 [[],[]] ?_
  refine dP 11 ?_
  refine dFa 12 ?_
  refine dLd 13 [[],[]] ?_
  refine dFa 15 ?_
  refine dLd 16 [[17],[]] ?_
  refine dH 14 rfl (Q3 rfl QnV rfl (λw1 h1=>c145 w1 (nth L k).ea (nth L k).ec (nth L k).es ((hs.es hkl).later h1) (by have:=hes9 k hkl;omega))) (λb7 _=>dBa ?_)
  refine dH 17 rfl (Q3 rfl QlV rfl (λw1 h1=>c146 w1 (nth L k).ca (nth L k).cc (nth L k).cs ((hs.cs hkl).later h1) (by have:=hcs9 k hkl;omega))) (λb8 _=>dBa ?_)
  refine dV 18 rfl (Qa rfl rfl rfl QE (k) om om rfl) (dFa 19 ?_)
  refine QmZ 20 rfl (Xt rfl rfl rfl XZ rfl aPt (by simp only[Qe,Qj nv3,List.length_append,List.length_drop,Nat.zero_add];show _+1<=_;omega) rfl) (by kernel_rfl) (λw h=>h.ent aEt) (λ_ _=>?_)
  refine dTu [23] ?_
  refine dV 21 rfl (Qa rfl rfl rfl QE (k) om om rfl) (dFa 22 ?_)
  refine QmZ 23 rfl (Xt rfl rfl rfl XN rfl aPt (by simp only[Qe,Qj nv3,List.length_append,List.length_drop,Nat.zero_add];show _+1<=_;omega) rfl) (by kernel_rfl) (λw h=>h.ent aEt) (λ_ _=>?_)
  refine dTu [] ?_
  refine dNi ?_
  refine aU ?_
  refine Qg (L':=[(2,_),(3,_),(24,_),(25,_),(26,_)]) aSx (λ_ h=>h) ?_
  refine aT2 ?_
  refine aU2 ?_
  exact QR (k+1,D++[⟨(nth L k).us,b7.1,b7.2,(nth L k).es,b8.1,b8.2,(nth L k).cs⟩]) (by(try simp only[]);omega) ⟨by(try simp only[]);omega,by simp[hk2],Qij hkl hk3 rfl⟩ aSx (λw h=>by have e9:=QdY (l:=D++L.drop k) (k:=k) (by simp only[List.length_append,List.length_drop];omega) b7.1 b7.2 (nth L k).es b8.1 b8.2 (nth L k).cs;rw[QjO hk2 hkl,Qn9 hk2 hkl]at e9;have h2:=h.ent (Bs:=[.own (.slice b7.1 (nth L k).es.length b7.2) 76 2 (nth L k).es.length ((nth L k).es.flatMap TEnt.vals),.own (.slice b8.1 (nth L k).cs.length b8.2) 3 1 (nth L k).cs.length ((nth L k).cs.flatMap inV),.star (D.map (Qw 76)),.blk gn 64 (c4*3) (QA (QA ((D++L.drop k).flatMap LNd.vals) (0+k*3+1) [.slice b7.1 (nth L k).es.length b7.2]) (0+k*3+2) [.slice b8.1 (nth L k).cs.length b8.2]),.blk b2 128 6 (tbV (j:Int) mo rm (some ⟨gn,0,none⟩) L.length c4)]) aEt;rw[Nat.zero_add,e9]at h2;exact(HS.sub_app (sub:=Qw 76) (l:=D) (x:=(⟨(nth L k).us,b7.1,b7.2,(nth L k).es,b8.1,b8.2,(nth L k).cs⟩:LNd)) (HS.star_close (Bs:=[_,_]) h2)).ent aEt)
 obtain rfl:k=L.length:=om
 have hD:pln D=pln L:=by rw[hk3,<-Qb L,List.take_length]
 refine Qi rfl ?_
 refine aU5 ?_
 exact rT rfl rfl (λw' h'=>⟨(b2,(some ⟨gn,0,none⟩,c4),D),rfl,hD,by have h2:=h';rw[List.drop_length,List.append_nil]at h2;have h3:=HS.own_shut (n:=D.length) (h2.ent (Bs:=[.blk gn 64 (c4*3) (D.flatMap LNd.vals),.star (D.map (Qw 76)),.blk b2 128 6 (tbV (j:Int) mo rm (some ⟨gn,0,none⟩) L.length c4)]) aEt) (Qj nv3 D) om hcm;have h4:=HS.row_shut (l:=D) (sub:=Qw 76) h3 rfl rfl;have h5:HS w [] [.nodes 76 64 (some ⟨gn,0,none⟩) c4 D,.blk b2 128 6 (tbV (j:Int) mo rm (some ⟨gn,0,none⟩) L.length c4)] w':=h4;rw[hk2];exact h5.ent aEt⟩)
instance:TFn Tryz.prog 220:=⟨by kernel_rfl⟩
theorem Qq3:Qp9 Tryz.prog 187 62 4:=⟨_,Tryz.func187,rfl,rfl,by kernel_rfl,by kernel_rfl⟩
theorem QpV:Qp9 Tryz.prog 222 52 4:=⟨_,Tryz.func222,rfl,rfl,by kernel_rfl,by kernel_rfl⟩
theorem c220(w:World)(a:Option Addr)(cap:Nat)(l:List LNd)(q:Nat)(cv:Array Value)(bt:List Bool)(hs:Rw LNd.vals 3 w [] a l)(hm:l.length<=1000000)(hq:QH Tryz.prog q=true)(hb:bt.length=l.length)(hc:∀k w1,k<l.length->HS w [] [] w1->Calls Tryz.prog q (#[]++[.agg (LNd.vals (nth l k)).toArray].toArray++cv) w1 λen w2=>en=.returned (.bool (bt.getD k false))/\Below w1.heap.size w1 w2):CR 220 #[.slice a l.length cap,.func (.func q) #[] cv] w (.int .i64 (ixI bt)):=by
 refine eN2 Tryz.func220 Tryz.ntmps220 ?_
 refine Y1 ?_
 refine Qt (α:=Nat) [4,5,8,9,10,11,12,13,14,15,16,17,18] (λk=>[(8,.int .i64 (k:Int))]) (λ_=>_) (λk=>k<=l.length/\∀i,i<k->bt.getD i false=false) (λk=>l.length-k) 0 ⟨om,λi h=>absurd h (Nat.not_lt_zero i)⟩ aSx (λw h=>h) (λk hk=>?_)
 obtain⟨hk1,hk2⟩:=hk
 refine aU5 ?_
 refine sCd rfl (λh1=>?_) λh1=>?_
 ·refine Z5 ?_
  refine o_p (Qa rfl rfl rfl QE (k) om om (Rw.some hs om)) rfl (o_q (Qu _ rfl rfl Y5 rfl (Rw.rd hs om)) rfl (o_q (X3 rfl rfl hq rfl (λw1 h1=>hc k w1 om (h1.ent aEt))) rfl (aU ?_)))
  refine sCd rfl (λh2=>?_) λh2=>?_
  ·refine aU5 ?_
   exact rV (h:=by have e:=QaR (l:=bt) (k:=k) om hk2 (λ_=>by assumption);simp only[QV,ixI,e];rw[if_pos om])
  refine aT4 ?_
  refine aU2 ?_
  exact QR (k+1) om ⟨om,λi hi=>(Nat.lt_or_ge i k).elim (hk2 i) (λh=>by obtain rfl:i=k:=om;assumption)⟩ aSx (λw h=>h)
 refine Qi rfl ?_
 refine aU4 ?_
 exact rV (h:=by have e:=QaR (l:=bt) (k:=k) om hk2 (λh=>om);simp only[QV,ixI,e];rw[if_neg om])
theorem c221(w:World)(n:LNd):CR 221 #[.agg #[.bool n.us,.slice n.ea n.es.length n.ec,.slice n.ca n.cs.length n.cc]] w (.bool (!n.us)):=by
 refine eN1 Tryz.func221 Tryz.ntmps221 ?_
 refine aU2 ?_
 refine oBx λb1 _=>?_
 refine aU9 ?_
 exact rV
theorem c208(w:World)(bt:Nat)(j:Nat)(mo rm:Int)(gn cap:Nat)(L:List LNd)(hw:HS w (fps [.blk bt 128 6 (tbV (j:Int) mo rm (some ⟨gn,0,none⟩) (L).length cap),.blk gn 64 (cap*3) ((L).flatMap LNd.vals),.star ((L).map (Qw 76))]) [.blk bt 128 6 (tbV (j:Int) mo rm (some ⟨gn,0,none⟩) (L).length cap),.blk gn 64 (cap*3) ((L).flatMap LNd.vals),.star ((L).map (Qw 76))] w)(hnc:L.length<=cap)(hcm:cap<=maxLen)(h0:0<L.length)(hl:L.length<=1000):CE 208 #[.pointer (some ⟨bt,0,none⟩)] w (fps [.blk bt 128 6 (tbV (j:Int) mo rm (some ⟨gn,0,none⟩) (L).length cap),.blk gn 64 (cap*3) ((L).flatMap LNd.vals),.star ((L).map (Qw 76))]) (λg:(Nat×Nat)×List LNd=>.int .i64 ((QK (pln L)).1:Int)) (λg=>(pln g.2=(QK (pln L)).2/\g.2.length<=g.1.2/\g.1.2<=maxLen)) λg=>[.blk bt 128 6 (tbV (j:Int) mo rm (some ⟨g.1.1,0,none⟩) (g.2).length g.1.2),.blk g.1.1 64 (g.1.2*3) ((g.2).flatMap LNd.vals),.star ((g.2).map (Qw 76))]:=by
 have hixe:ixB (L.map λn=>!n.us)=XA (pln L):=by unfold XA;rw[List.map_map];rfl
 have hnl:(pln L).length=L.length:=Qb L
 refine eW1 Tryz.func208 Tryz.ntmps208 hw ?_
 refine YZ ?_
 refine oCq rfl (λw1 h1=>c220 w1 (some ⟨gn,0,none⟩) cap L 221 #[] (L.map λn=>!n.us) (h1.rw_blk nv3 aPk) om (by kernel_rfl) (by simp) (λk w2 hk h2=>by rw[YL (d:=default) hk];exact c221 w2 (nth L k))) (aU8 ?_)
 refine Xe (α:=(Nat×Nat)×List LNd) [3,12,13,14,15,16,17,18,19,20,21,22,23,24,25,26,27,28,29] (λx=>[(3,.int .i64 ((XA (pln L)):Int))]) (λx=>HS w (fps [.blk bt 128 6 (tbV (j:Int) mo rm (some ⟨gn,0,none⟩) (L).length cap),.blk gn 64 (cap*3) ((L).flatMap LNd.vals),.star ((L).map (Qw 76))]) [.blk bt 128 6 (tbV (j:Int) mo rm (some ⟨x.1.1,0,none⟩) (x.2).length x.1.2),.blk x.1.1 64 (x.1.2*3) ((x.2).flatMap LNd.vals),.star ((x.2).map (Qw 76))]) (λx=>(XA (pln L))<x.2.length/\x.2.length<=x.1.2/\x.1.2<=maxLen/\usN (pln x.2) (XA (pln L)) true=(QK (pln L)).2/\x.2.length<=1001) ?_ ?_
 ·skip
  refine sCd rfl (λh1=>?_) λh1=>?_
  ·have hz:¬XA (pln L)<L.length:=by have hq:=h1;unfold ixI at hq;rw[hixe,List.length_map]at hq;intro h9;rw[if_pos h9]at hq;omega
   have hz1:XA (pln L)=L.length:=by have h9:=QeZ (L.map λn=>!n.us);rw[hixe,List.length_map]at h9;omega
   refine Zl (λw h=>(HS.own_shut (n:=L.length) (h.ent (Bs:=[.blk gn 64 (cap*3) (L.flatMap LNd.vals),.star (L.map (Qw 76)),.blk bt 128 6 (tbV (j:Int) mo rm (some ⟨gn,0,none⟩) L.length cap)]) aEt) (Qj nv3 L) hnc hcm)) (aU17 ?_)
   refine o_p (QD (cs:=[_,_,_]) rfl rfl Qf3 XY rfl) rfl (o_h (Qd (cs:=[_,_,_]) rfl rfl QE XY rfl rfl rfl) rfl (λb2 _=>?_))
   refine o_h (Qy [_,_,_] rfl rfl rfl QE Tryz.underlying25 XY rfl aPk (Q5 aPk) rfl (by intro u hu;simp only[List.mem_cons,List.mem_nil_iff,or_false]at hu;rcases hu with rfl|rfl|rfl<;>rfl) om (by simp only[maxLen];omega)) rfl (λb3 _=>Xo (λw h=>QbN (n:=L.length+1) om h aPk) (λhgn=>?_))
   obtain⟨⟨ga,gc⟩,hga⟩:∃q:Option Addr×Nat,b3=q:=⟨_,rfl⟩
   subst hga
   obtain⟨g9,e9,hn9,hm9⟩:=hgn
   simp only[]at e9 hn9 hm9
   subst e9
   refine Q6 (λw h=>HS.own_at h aPk) (aU3 ?_)
   refine Qal (Xt rfl rfl rfl Y9 rfl aPt (by show 4<=6;omega) rfl) (λ_ _=>aU ?_)
   exact Qo ((g9,gc),L++[⟨false,none,0,[],none,0,[]⟩]) ⟨by simp only[List.length_append,List.length_singleton];omega,by simp only[List.length_append,List.length_singleton];exact hn9,hm9,by unfold QK usN;rw[if_neg (by rw[hnl];exact hz),hz1,Qhn,List.set_append_right _ _ (by rw[Qb];omega),Qb,Nat.sub_self];simp only[];congr 1;show[_]=[_];congr 1;rw[show nth (pln L++pln [(⟨false,none,0,[],none,0,[]⟩:LNd)]) L.length=⟨false,[],[]⟩from QP (by rw[List.getElem?_append_right (by rw[Qb];omega),Qb,Nat.sub_self];rfl)],by simp only[List.length_append,List.length_singleton];omega⟩ (by rw[hz1];exact aSx) (λw h=>by have h2:=HS.sub_app (sub:=Qw 76) (l:=L) (x:=(⟨false,none,0,[],none,0,[]⟩:LNd)) (HS.star_close (Bs:=[_,_]) (((h.ent (Bs:=[.star (L.map (Qw 76)),.blk bt 128 6 (tbV (j:Int) mo rm (some ⟨g9,0,none⟩) (L.length+1) gc),.blk g9 64 (gc*3) (L.flatMap LNd.vals++[.bool false,.slice none 0 0,.slice none 0 0])]) aEt).own_nil 3 1).own_nil 76 2));have e8:(L++[(⟨false,none,0,[],none,0,[]⟩:LNd)]).flatMap LNd.vals=L.flatMap LNd.vals++[.bool false,.slice none 0 0,.slice none 0 0]:=(by rw[List.flatMap_append];rfl);have e7:(L++[(⟨false,none,0,[],none,0,[]⟩:LNd)]).length=L.length+1:=(by simp);dsimp only;rw[e8,e7];exact h2.ent aEt)
  have hz:XA (pln L)<L.length:=by have hq:=h1;unfold ixI at hq;rw[hixe,List.length_map]at hq;split at hq<;>first|assumption|omega
  have hz2:ixI (L.map λn=>!n.us)=(XA (pln L):Int):=by unfold ixI;rw[hixe,List.length_map,if_pos hz]
  refine aU ?_
  exact Qo ((gn,cap),L) ⟨hz,hnc,hcm,by unfold QK;rw[if_pos (by rw[hnl];exact hz)],by show L.length<=1001;omega⟩ (by rw[hz2];exact aSx) (λw h=>h.ent aEt)
 intro⟨⟨gn1,cap1⟩,L1⟩ hx
 dsimp only
 obtain⟨hx1,hx2,hx3,hx4,hx5⟩:=hx
 simp only[]at hx1 hx2 hx3 hx4 hx5
 refine aU8 ?_
 refine o_p (Qa rfl rfl rfl QE ((XA (pln L))) om om rfl) rfl (aU ?_)
 refine Qal (Xt rfl rfl rfl Qei rfl aPt (by rw[Qj nv3];show _+1<=_;omega) rfl) (λ_ _=>aU6 ?_)
 exact rT rfl rfl (λw' h'=>⟨((gn1,cap1),L1.set (XA (pln L)) {nth L1 (XA (pln L))with us:=true}),by unfold QK;split<;>first|rfl|(have hq9:=QeZ (L.map λn=>!n.us);rw[hixe,List.length_map]at hq9;simp only[QV];congr 2;rw[hnl]at *;congr 1;omega),⟨by rw[Qq5 hx1];exact hx4,by simp only[List.length_set];exact hx2,hx3⟩,by have h2:=h'.ent (Bs:=[.blk bt 128 6 (tbV (j:Int) mo rm (some ⟨gn1,0,none⟩) L1.length cap1),.blk gn1 64 (cap1*3) (QA (L1.flatMap LNd.vals) (0+(XA (pln L))*3+0) [.bool true]),.star (L1.map (Qw 76))]) aEt;rw[Qlw hx1]at h2;simp only[List.length_set];rw[QoP hx1];exact h2.ent aEt⟩)
theorem c209(w:World)(bt:Nat)(j:Nat)(mo rm:Int)(a:Option Addr)(cap:Nat)(L:List LNd)(i:Int)(ht:TbR w [] bt (j:Int) mo rm a L.length cap)(hs:Nt w [] a L)(hl:L.length<=100000)(hcl:∀k,k<L.length->(nth L k).cs.length<=100000):CR 209 #[.pointer (some ⟨bt,0,none⟩),.int .i64 i] w (.tuple #[.int .i64 ((Xx i (pln L) 0).1:Int),.int .i64 ((Xx i (pln L) 0).2:Int)]):=by
 refine eN2 Tryz.func209 Tryz.ntmps209 ?_
 refine Y1 ?_
 refine o_q (Qc rfl rfl Y9 (ht 3 _ rfl)) rfl (aU4 ?_)
 refine Qt (α:=Nat) [4,5,6,7,8,15,16,17,18,19,20,21,22,23,24,25,26,27,28] (λk=>[(15,.int .i64 (k:Int))]) (λ_=>HS w [] []) (λk=>k<=L.length/\(Xx i (pln L) 0)=Xx i ((pln L).drop k) k) (λk=>L.length-k) 0 ⟨Nat.zero_le _,rfl⟩ aSx (λw h=>h.ent aEt) (λk hx=>?_)
 obtain⟨hk1,hk2⟩:=hx
 refine aU5 ?_
 refine sCd rfl (λh1=>?_) λh1=>?_
 ·have hkl:k<L.length:=by omega
  have hst:=Qlh (i:=i) (ns:=pln L) (k:=k) (by rw[Qb];exact hkl)
  rw[Qp hkl]at hst
  simp only[LNd.pl]at hst
  refine aU6 ?_
  refine o_p (Qa rfl rfl rfl QE (k) om om (Rw.some hs.1 om)) rfl (o_q (Qu _ rfl rfl Y5 rfl (Rw.rd hs.1 hkl)) rfl (oAl (λb2 _=>?_) XY))
  refine aU8 ?_
  refine oCq rfl (λw1 h1=>c102 w1 (nth L k).ca (nth L k).cc (nth L k).cs i ((hs.cs hkl).later h1) (hcl k hkl)) (aU7 ?_)
  refine sCd rfl (λh3=>?_) λh3=>?_
  ·have hz:ixB (Y7 (nth L k).cs i)<(nth L k).cs.length:=by have hq:=h3;unfold ixI at hq;rw[Ym]at hq;split at hq<;>first|assumption|omega
   have hz3:(Xx i (pln L) 0)=(k,ixB (Y7 (nth L k).cs i)):=(hk2.trans hst).trans (if_pos hz)
   have hz2:ixI (Y7 (nth L k).cs i)=(ixB (Y7 (nth L k).cs i):Int):=by unfold ixI;rw[Ym,if_pos hz]
   refine aU7 ?_
   exact Qf (rs:=[.tmp 4,.tmp 5]) rfl (.tmp rfl (.tmp rfl (.nil))) (λw' h'=>⟨by rw[hz3,hz2];rfl,h'.below⟩)
  have hz:¬ixB (Y7 (nth L k).cs i)<(nth L k).cs.length:=by have hq:=h3;unfold ixI at hq;rw[Ym]at hq;intro h9;rw[if_pos h9]at hq;omega
  refine aT4 ?_
  refine aU2 ?_
  exact sBk (k+1) om ⟨om,(hk2.trans hst).trans (if_neg hz)⟩
 have hz:(Xx i (pln L) 0)=(0,0):=by rw[hk2,List.drop_of_length_le (by rw[Qb];omega)];rfl
 refine Qi rfl ?_
 refine aU5 ?_
 exact Qf (rs:=[.tmp 4,.tmp 5]) rfl (.tmp rfl (.tmp rfl (.nil))) (λw' h'=>⟨by rw[hz];rfl,h'.below⟩)
theorem QrP(w:World)(a:Option Addr)(i n m cap:Nat)(xs news:List Value)(b0 c0 tot2:Nat)(hw:HS w (fps [.own (.slice a n cap) 76 2 n xs,.blk b0 76 tot2 news]) [.own (.slice a n cap) 76 2 n xs,.blk b0 76 tot2 news] w)(hm0:0<m)(hl:news.length=m*2)(hn1:∀u∈news,u.oneCell'=true)(hx1:∀u∈xs,u.oneCell'=true)(hmax:(n+m)*32<=140737488355328)(hi:i=n):CE 147 #[.slice a n cap,.int .i64 i,.slice (some ⟨b0,0,none⟩) m c0] w (fps [.own (.slice a n cap) 76 2 n xs,.blk b0 76 tot2 news]) (λg:Option Addr×Nat=>.slice g.1 (n+m) g.2) (λg=>True) λg=>[.own (.slice g.1 (n+m) g.2) 76 2 (n+m) (xs.take (i*2)++news++xs.drop (i*2)),.blk b0 76 tot2 news]:=by
 obtain⟨_,hnc,hcm,hxl⟩:=hw.own_facts .here
 refine eW3 Tryz.func147 Tryz.ntmps147 hw ?_
 refine aU8 ?_
 refine o_p (QJ _ _ i n rfl rfl QL ⟨_,_,rfl,rfl⟩ rfl om om) rfl (Z5 ?_)
 refine sCd rfl (λh1=>?_) λh1=>?_
 ·exfalso;first|omega|(simp at h1;done)|(simp_all;done)
 refine Qc0 ?_
 refine sCd rfl (λh2=>?_) λh2=>?_
 ·refine aU4 ?_
  refine o_h (Qy news rfl rfl rfl QL Tryz.underlying62 Xi rfl aPk (Q5 aPk) hl hn1 om (by simp only[maxLen];omega)) rfl (λb3 _=>aU2 ?_)
  exact rT rfl rfl (λw' h'=>⟨(_,_),rfl,trivial,by subst hi;rw[List.take_of_length_le om,List.drop_eq_nil_of_le om,List.append_nil];exact h'.ent aEt⟩)
 exfalso;first|omega|(simp at h2;done)|(simp_all;done)
theorem Qrt(w:World)(gg i n m cap:Nat)(xs news:List Value)(b0 c0 tot2:Nat)(M:List Nat)(hw:HS w M [.blk gg 76 (cap*2) xs,.blk b0 76 tot2 news] w)(hnc:n<=cap)(hcm:cap<=maxLen)(hxl:xs.length=n*2)(hm0:0<m)(hl:news.length=m*2)(hn1:∀u∈news,u.oneCell'=true)(hx1:∀u∈xs,u.oneCell'=true)(hmax:(n+m)*32<=140737488355328)(hi:i<n):CE 147 #[.slice (some ⟨gg,0,none⟩) n cap,.int .i64 i,.slice (some ⟨b0,0,none⟩) m c0] w M (λg:Option Addr×Nat=>.slice g.1 (n+m) g.2) (λg=>True) λg=>[.own (.slice g.1 (n+m) g.2) 76 2 (n+m) (xs.take (i*2)++news++xs.drop (i*2)),.blk b0 76 tot2 news]:=by
 have ht2:=(hw.blk_get (.there .here)).len_le
 have hcl:(cut xs 0 (i*2)).length=i*2:=XB _ _ _ om
 refine eW3 Tryz.func147 Tryz.ntmps147 hw ?_
 refine aU8 ?_
 refine o_p (QJ _ _ i n rfl rfl QL ⟨_,_,rfl,rfl⟩ rfl om om) rfl (Z5 ?_)
 refine sCd rfl (λh1=>?_) λh1=>?_
 ·exfalso;first|omega|(simp at h1;done)|(simp_all;done)
 refine Qc0 ?_
 refine sCd rfl (λh2=>?_) λh2=>?_
 ·exfalso;first|omega|(simp at h2;done)|(simp_all;done)
 refine aT7 ?_
 refine aU ?_
 refine o_p (Qko rfl rfl Tryz.underlying62) rfl (aU2 ?_)
 refine sCd rfl (λh3=>?_) λh3=>?_
 ·refine aU4 ?_
  refine o_p (QJ _ _ 0 i rfl rfl QL rfl ⟨_,_,rfl,rfl⟩ om om) rfl ?_
  refine Qm (show _=Value.slice (some ⟨gg,0,none⟩) (i) (cap)from by rw[QaI]<;>(congr 1<;>omega)) (aT3 ?_)
  refine aT2 ?_
  refine Qm (show _=Value.int .i64 ((n+m-i:Nat):Int)from by first|rfl|(congr 1<;>first|rfl|omega)) (o_h (ZO (m:=n+m-i) (olds:=cut xs 0 (i*2)) rfl rfl rfl QL Yw Xi rfl (by decide) om om (Qcf 0 (i*2) (λ_=>rfl) aPk) hcl om (by simp only[maxLen];omega)) rfl (λ⟨b4,c5⟩⟨h6,k7⟩=>?_))
  refine Qm (show _=Value.slice (some ⟨b4,0,none⟩) (n+m) c5 from by first|rfl|(congr 1<;>first|rfl|omega)) (aU3 ?_)
  refine Qg (L':=[(0,_),(1,_),(2,_),(6,_),(7,_),(8,_),(9,_)]) aSx (λ_ h=>h) ?_
  refine aU3 ?_
  refine o_p (QJ _ _ i (n+m) rfl rfl QL ⟨_,_,rfl,rfl⟩ rfl om om) rfl ?_
  refine Qm (show _=Value.slice (some ⟨b4,i*2,none⟩) (n+m-i) (c5-i)from by rw[Ys om]<;>(congr 1<;>omega)) (aU ?_)
  refine o_h (Qbk m news rfl rfl rfl QL aPt om hl (λ_=>rfl) (by simp only[Xa,List.length_append,Qe];omega) (Q5 aPk) hn1) rfl (λ_ _=>aU2 ?_)
  refine Qq [8] Qx ?_
  refine dP 0 ?_
  refine dP 1 ?_
  refine dP 2 ?_
  refine dP 3 ?_
  try refine dWr ?_
  refine dV 4 rfl (QJ _ _ (i+m) (n+m) rfl rfl QL ⟨_,_,rfl,om⟩ rfl om om) ?_
  refine Qs (show _=Value.slice (some ⟨b4,(i+m)*2,none⟩) (n-i) (c5-(i+m))from by rw[Ys om]<;>(congr 1<;>omega)) (dP 5 ?_)
  refine dP 6 ?_
  refine dV 7 rfl (QJ _ _ i n rfl rfl QL ⟨_,_,rfl,rfl⟩ rfl om om) ?_
  refine Qs (show _=Value.slice (some ⟨gg,i*2,none⟩) (n-i) (cap-i)from by rw[Ys om]<;>(congr 1<;>omega)) (dH 8 rfl (Qbk (n-i) (cut xs (i*2) ((n-i)*2)) rfl rfl rfl QL aPt om (XB _ _ _ om) (λ_=>rfl) (by rw[XB _ _ _ om];simp only[Xa,List.length_append,Qe];omega) (Qcf (i*2) ((n-i)*2) (λ_=>rfl) aPk) (Qhj hx1 _ _)) (λ_ _=>dTu [] ?_))
  refine dNi ?_
  refine aU5 ?_
  exact rT rfl rfl (λw' h'=>⟨(some ⟨b4,0,none⟩,c5),rfl,trivial,(HS.to_own (n:=n+m) (xs:=xs.take (i*2)++news++xs.drop (i*2)) (ds:=[]) aPk h' (by have hq:=Qh5 (xs:=xs) (news:=news) (z:=QbA [.string (bs []),.string (bs [])] ((n+m-i)*2)) (p:=i*2) (q:=m*2) (N:=n*2) hxl om hl (by rw[Xa];omega);rw[List.append_nil];rw[show(i+m)*2=i*2+m*2 from om,show(n-i)*2=n*2-i*2 from om];exact hq) (by simp only[List.length_append,List.length_take,List.length_drop];omega) om om).ent aEt⟩)
 refine aT7 ?_
 refine o_p (QJ _ _ 0 (n+m) rfl rfl QL rfl ⟨_,_,rfl,om⟩ om om) rfl ?_
 refine Qm (show _=Value.slice (some ⟨gg,0,none⟩) (n+m) cap from by rw[QaI]<;>(congr 1<;>omega)) (Qdd (λw h=>HS.blk_full (b:=gg) aPk h) λds=>?_)
 refine Xo (λw h=>h.1) λhds=>Q6 (λw h=>h.2) (Qnd ?_)
 refine o_p (QJ _ _ (i+m) (n+m) rfl rfl QL ⟨_,_,rfl,om⟩ rfl om om) rfl ?_
 refine Qm (show _=Value.slice (some ⟨gg,(i+m)*2,none⟩) (n-i) (cap-(i+m))from by rw[Ys om]<;>(congr 1<;>omega)) (o_q (QeT rfl Qq3 rfl rfl QL (hp:=aPk) (hp':=aPk) (by decide) om om) rfl (aU2 ?_))
 refine sCd rfl (λh8=>?_) λh8=>?_
 ·refine aU ?_
  refine Qg (L':=[(0,_),(1,_),(2,_),(6,_),(7,_),(8,_)]) aSx (λ_ h=>h) ?_
  refine Qq [8] Qx ?_
  refine dP 0 ?_
  refine dP 1 ?_
  refine dP 2 ?_
  refine dP 3 ?_
  try refine dWr ?_
  refine dV 4 rfl (QJ _ _ (i+m) (n+m) rfl rfl QL ⟨_,_,rfl,om⟩ rfl om om) ?_
  refine Qs (show _=Value.slice (some ⟨gg,(i+m)*2,none⟩) (n-i) (cap-(i+m))from by rw[Ys om]<;>(congr 1<;>omega)) (dP 5 ?_)
  refine dP 6 ?_
  refine dV 7 rfl (QJ _ _ i (n+m) rfl rfl QL ⟨_,_,rfl,rfl⟩ rfl om om) ?_
  refine Qs (show _=Value.slice (some ⟨gg,i*2,none⟩) (n+m-i) (cap-i)from by rw[Ys om]<;>(congr 1<;>omega)) (dH 8 rfl (Qbk (n-i) (cut (xs++ds) (i*2) ((n-i)*2)) rfl rfl rfl QL aPt om (XB _ _ _ (by simp only[Xa,List.length_append,Qe];omega)) (λ_=>rfl) (by rw[XB _ _ _ (by simp only[Xa,List.length_append,Qe];omega)];simp only[Xa,List.length_append,Qe];omega) (Qcf (i*2) ((n-i)*2) (λ_=>rfl) aPk) (Qj4 hx1 om)) (λ_ _=>dTu [] ?_))
  refine dNi ?_
  refine aU4 ?_
  refine o_p (QJ _ _ i (n+m) rfl rfl QL ⟨_,_,rfl,rfl⟩ rfl om om) rfl ?_
  refine Qm (show _=Value.slice (some ⟨gg,i*2,none⟩) (n+m-i) (cap-i)from by rw[Ys om]<;>(congr 1<;>omega)) (aU ?_)
  refine o_h (Qbk m news rfl rfl rfl QL aPt om hl (λ_=>rfl) (by simp only[Xa,List.length_append,Qe];omega) (Q5 aPk) hn1) rfl (λ_ _=>aU6 ?_)
  exact rT rfl rfl (λw' h'=>⟨(some ⟨gg,0,none⟩,cap),rfl,trivial,(HS.to_own (n:=n+m) (xs:=xs.take (i*2)++news++xs.drop (i*2)) (ds:=ds.drop (m*2)) aPk h' (by have hq:=QmR (xs:=xs) (ds:=ds) (news:=news) (p:=i*2) (q:=m*2) (N:=n*2) hxl om hl om;rw[show(i+m)*2=i*2+m*2 from om,show(n-i)*2=n*2-i*2 from om];exact hq) (by simp only[List.length_append,List.length_take,List.length_drop];omega) om om).ent aEt⟩)
 exfalso;first|omega|(simp at h8;done)|(simp_all;done)
theorem c147(w:World)(a:Option Addr)(i n m cap:Nat)(xs news:List Value)(b0 c0 tot2:Nat)(hw:HS w (fps [.own (.slice a n cap) 76 2 n xs,.blk b0 76 tot2 news]) [.own (.slice a n cap) 76 2 n xs,.blk b0 76 tot2 news] w)(hm0:0<m)(hl:news.length=m*2)(hn1:∀u∈news,u.oneCell'=true)(hx1:∀u∈xs,u.oneCell'=true)(hmax:(n+m)*32<=140737488355328)(hi:i<=n):CE 147 #[.slice a n cap,.int .i64 i,.slice (some ⟨b0,0,none⟩) m c0] w (fps [.own (.slice a n cap) 76 2 n xs,.blk b0 76 tot2 news]) (λg:Option Addr×Nat=>.slice g.1 (n+m) g.2) (λg=>True) λg=>[.own (.slice g.1 (n+m) g.2) 76 2 (n+m) (xs.take (i*2)++news++xs.drop (i*2)),.blk b0 76 tot2 news]:=by
  rcases Nat.lt_or_ge i n with h|h
  · obtain⟨gg,rfl,_,hnc,hcm,hxl,hb⟩:=hw.own_blk om .here;exact Qrt w gg i n m cap xs news b0 c0 tot2 _ hb hnc hcm hxl hm0 hl hn1 hx1 hmax h
  · exact QrP w a i n m cap xs news b0 c0 tot2 hw hm0 hl hn1 hx1 hmax om
theorem QrQ(w:World)(a:Option Addr)(i n m cap:Nat)(xs news:List Value)(b0 c0 tot2:Nat)(hw:HS w (fps [.own (.slice a n cap) 3 1 n xs,.blk b0 3 tot2 news]) [.own (.slice a n cap) 3 1 n xs,.blk b0 3 tot2 news] w)(hm0:0<m)(hl:news.length=m*1)(hn1:∀u∈news,u.oneCell'=true)(hx1:∀u∈xs,u.oneCell'=true)(hmax:(n+m)*8<=140737488355328)(hi:i=n):CE 210 #[.slice a n cap,.int .i64 i,.slice (some ⟨b0,0,none⟩) m c0] w (fps [.own (.slice a n cap) 3 1 n xs,.blk b0 3 tot2 news]) (λg:Option Addr×Nat=>.slice g.1 (n+m) g.2) (λg=>True) λg=>[.own (.slice g.1 (n+m) g.2) 3 1 (n+m) (xs.take (i*1)++news++xs.drop (i*1)),.blk b0 3 tot2 news]:=by
 obtain⟨_,hnc,hcm,hxl⟩:=hw.own_facts .here
 refine eW3 Tryz.func210 Tryz.ntmps210 hw ?_
 refine aU8 ?_
 refine o_p (QJ _ _ i n rfl rfl QB ⟨_,_,rfl,rfl⟩ rfl om om) rfl (Z5 ?_)
 refine sCd rfl (λh1=>?_) λh1=>?_
 ·exfalso;first|omega|(simp at h1;done)|(simp_all;done)
 refine Qc0 ?_
 refine sCd rfl (λh2=>?_) λh2=>?_
 ·refine aU4 ?_
  refine o_h (Qy news rfl rfl rfl QB Tryz.underlying52 Yo rfl aPk (Q5 aPk) hl hn1 om (by simp only[maxLen];omega)) rfl (λb3 _=>aU2 ?_)
  exact rT rfl rfl (λw' h'=>⟨(_,_),rfl,trivial,by subst hi;rw[List.take_of_length_le om,List.drop_eq_nil_of_le om,List.append_nil];exact h'.ent aEt⟩)
 exfalso;first|omega|(simp at h2;done)|(simp_all;done)
theorem Qro(w:World)(gg i n m cap:Nat)(xs news:List Value)(b0 c0 tot2:Nat)(M:List Nat)(hw:HS w M [.blk gg 3 (cap*1) xs,.blk b0 3 tot2 news] w)(hnc:n<=cap)(hcm:cap<=maxLen)(hxl:xs.length=n*1)(hm0:0<m)(hl:news.length=m*1)(hn1:∀u∈news,u.oneCell'=true)(hx1:∀u∈xs,u.oneCell'=true)(hmax:(n+m)*8<=140737488355328)(hi:i<n):CE 210 #[.slice (some ⟨gg,0,none⟩) n cap,.int .i64 i,.slice (some ⟨b0,0,none⟩) m c0] w M (λg:Option Addr×Nat=>.slice g.1 (n+m) g.2) (λg=>True) λg=>[.own (.slice g.1 (n+m) g.2) 3 1 (n+m) (xs.take (i*1)++news++xs.drop (i*1)),.blk b0 3 tot2 news]:=by
 have ht2:=(hw.blk_get (.there .here)).len_le
 have hcl:(cut xs 0 (i*1)).length=i*1:=XB _ _ _ om
 refine eW3 Tryz.func210 Tryz.ntmps210 hw ?_
 refine aU8 ?_
 refine o_p (QJ _ _ i n rfl rfl QB ⟨_,_,rfl,rfl⟩ rfl om om) rfl (Z5 ?_)
 refine sCd rfl (λh1=>?_) λh1=>?_
 ·exfalso;first|omega|(simp at h1;done)|(simp_all;done)
 refine Qc0 ?_
 refine sCd rfl (λh2=>?_) λh2=>?_
 ·exfalso;first|omega|(simp at h2;done)|(simp_all;done)
 refine aT7 ?_
 refine aU ?_
 refine o_p (Qko rfl rfl Tryz.underlying52) rfl (aU2 ?_)
 refine sCd rfl (λh3=>?_) λh3=>?_
 ·refine aU4 ?_
  refine o_p (QJ _ _ 0 i rfl rfl QB rfl ⟨_,_,rfl,rfl⟩ om om) rfl ?_
  refine Qm (show _=Value.slice (some ⟨gg,0,none⟩) (i) (cap)from by rw[QaI]<;>(congr 1<;>omega)) (aT3 ?_)
  refine aT2 ?_
  refine Qm (show _=Value.int .i64 ((n+m-i:Nat):Int)from by first|rfl|(congr 1<;>first|rfl|omega)) (o_h (ZO (m:=n+m-i) (olds:=cut xs 0 (i*1)) rfl rfl rfl QB Yw Yo rfl (by decide) om om (Qcf 0 (i*1) (λ_=>rfl) aPk) hcl om (by simp only[maxLen];omega)) rfl (λ⟨b4,c5⟩⟨h6,k7⟩=>?_))
  refine Qm (show _=Value.slice (some ⟨b4,0,none⟩) (n+m) c5 from by first|rfl|(congr 1<;>first|rfl|omega)) (aU3 ?_)
  refine Qg (L':=[(0,_),(1,_),(2,_),(6,_),(7,_),(8,_),(9,_)]) aSx (λ_ h=>h) ?_
  refine aU3 ?_
  refine o_p (QJ _ _ i (n+m) rfl rfl QB ⟨_,_,rfl,rfl⟩ rfl om om) rfl ?_
  refine Qm (show _=Value.slice (some ⟨b4,i*1,none⟩) (n+m-i) (c5-i)from by rw[Ys om]<;>(congr 1<;>omega)) (aU ?_)
  refine o_h (Qbk m news rfl rfl rfl QB aPt om hl (λ_=>rfl) (by simp only[Xa,List.length_append,Qe];omega) (Q5 aPk) hn1) rfl (λ_ _=>aU2 ?_)
  refine Qq [8] Qx ?_
  refine dP 0 ?_
  refine dP 1 ?_
  refine dP 2 ?_
  refine dP 3 ?_
  try refine dWr ?_
  refine dV 4 rfl (QJ _ _ (i+m) (n+m) rfl rfl QB ⟨_,_,rfl,om⟩ rfl om om) ?_
  refine Qs (show _=Value.slice (some ⟨b4,(i+m)*1,none⟩) (n-i) (c5-(i+m))from by rw[Ys om]<;>(congr 1<;>omega)) (dP 5 ?_)
  refine dP 6 ?_
  refine dV 7 rfl (QJ _ _ i n rfl rfl QB ⟨_,_,rfl,rfl⟩ rfl om om) ?_
  refine Qs (show _=Value.slice (some ⟨gg,i*1,none⟩) (n-i) (cap-i)from by rw[Ys om]<;>(congr 1<;>omega)) (dH 8 rfl (Qbk (n-i) (cut xs (i*1) ((n-i)*1)) rfl rfl rfl QB aPt om (XB _ _ _ om) (λ_=>rfl) (by rw[XB _ _ _ om];simp only[Xa,List.length_append,Qe];omega) (Qcf (i*1) ((n-i)*1) (λ_=>rfl) aPk) (Qhj hx1 _ _)) (λ_ _=>dTu [] ?_))
  refine dNi ?_
  refine aU5 ?_
  exact rT rfl rfl (λw' h'=>⟨(some ⟨b4,0,none⟩,c5),rfl,trivial,(HS.to_own (n:=n+m) (xs:=xs.take (i*1)++news++xs.drop (i*1)) (ds:=[]) aPk h' (by have hq:=Qh5 (xs:=xs) (news:=news) (z:=QbA [.int .i64 0] ((n+m-i)*1)) (p:=i*1) (q:=m*1) (N:=n*1) hxl om hl (by rw[Xa];omega);rw[List.append_nil];rw[show(i+m)*1=i*1+m*1 from om,show(n-i)*1=n*1-i*1 from om];exact hq) (by simp only[List.length_append,List.length_take,List.length_drop];omega) om om).ent aEt⟩)
 refine aT7 ?_
 refine o_p (QJ _ _ 0 (n+m) rfl rfl QB rfl ⟨_,_,rfl,om⟩ om om) rfl ?_
 refine Qm (show _=Value.slice (some ⟨gg,0,none⟩) (n+m) cap from by rw[QaI]<;>(congr 1<;>omega)) (Qdd (λw h=>HS.blk_full (b:=gg) aPk h) λds=>?_)
 refine Xo (λw h=>h.1) λhds=>Q6 (λw h=>h.2) (Qnd ?_)
 refine o_p (QJ _ _ (i+m) (n+m) rfl rfl QB ⟨_,_,rfl,om⟩ rfl om om) rfl ?_
 refine Qm (show _=Value.slice (some ⟨gg,(i+m)*1,none⟩) (n-i) (cap-(i+m))from by rw[Ys om]<;>(congr 1<;>omega)) (o_q (QeT rfl QpV rfl rfl QB (hp:=aPk) (hp':=aPk) (by decide) om om) rfl (aU2 ?_))
 refine sCd rfl (λh8=>?_) λh8=>?_
 ·refine aU ?_
  refine Qg (L':=[(0,_),(1,_),(2,_),(6,_),(7,_),(8,_)]) aSx (λ_ h=>h) ?_
  refine Qq [8] Qx ?_
  refine dP 0 ?_
  refine dP 1 ?_
  refine dP 2 ?_
  refine dP 3 ?_
  try refine dWr ?_
  refine dV 4 rfl (QJ _ _ (i+m) (n+m) rfl rfl QB ⟨_,_,rfl,om⟩ rfl om om) ?_
  refine Qs (show _=Value.slice (some ⟨gg,(i+m)*1,none⟩) (n-i) (cap-(i+m))from by rw[Ys om]<;>(congr 1<;>omega)) (dP 5 ?_)
  refine dP 6 ?_
  refine dV 7 rfl (QJ _ _ i (n+m) rfl rfl QB ⟨_,_,rfl,rfl⟩ rfl om om) ?_
  refine Qs (show _=Value.slice (some ⟨gg,i*1,none⟩) (n+m-i) (cap-i)from by rw[Ys om]<;>(congr 1<;>omega)) (dH 8 rfl (Qbk (n-i) (cut (xs++ds) (i*1) ((n-i)*1)) rfl rfl rfl QB aPt om (XB _ _ _ (by simp only[Xa,List.length_append,Qe];omega)) (λ_=>rfl) (by rw[XB _ _ _ (by simp only[Xa,List.length_append,Qe];omega)];simp only[Xa,List.length_append,Qe];omega) (Qcf (i*1) ((n-i)*1) (λ_=>rfl) aPk) (Qj4 hx1 om)) (λ_ _=>dTu [] ?_))
  refine dNi ?_
  refine aU4 ?_
  refine o_p (QJ _ _ i (n+m) rfl rfl QB ⟨_,_,rfl,rfl⟩ rfl om om) rfl ?_
  refine Qm (show _=Value.slice (some ⟨gg,i*1,none⟩) (n+m-i) (cap-i)from by rw[Ys om]<;>(congr 1<;>omega)) (aU ?_)
  refine o_h (Qbk m news rfl rfl rfl QB aPt om hl (λ_=>rfl) (by simp only[Xa,List.length_append,Qe];omega) (Q5 aPk) hn1) rfl (λ_ _=>aU6 ?_)
  exact rT rfl rfl (λw' h'=>⟨(some ⟨gg,0,none⟩,cap),rfl,trivial,(HS.to_own (n:=n+m) (xs:=xs.take (i*1)++news++xs.drop (i*1)) (ds:=ds.drop (m*1)) aPk h' (by have hq:=QmR (xs:=xs) (ds:=ds) (news:=news) (p:=i*1) (q:=m*1) (N:=n*1) hxl om hl om;rw[show(i+m)*1=i*1+m*1 from om,show(n-i)*1=n*1-i*1 from om];exact hq) (by simp only[List.length_append,List.length_take,List.length_drop];omega) om om).ent aEt⟩)
 exfalso;first|omega|(simp at h8;done)|(simp_all;done)
theorem c210(w:World)(a:Option Addr)(i n m cap:Nat)(xs news:List Value)(b0 c0 tot2:Nat)(hw:HS w (fps [.own (.slice a n cap) 3 1 n xs,.blk b0 3 tot2 news]) [.own (.slice a n cap) 3 1 n xs,.blk b0 3 tot2 news] w)(hm0:0<m)(hl:news.length=m*1)(hn1:∀u∈news,u.oneCell'=true)(hx1:∀u∈xs,u.oneCell'=true)(hmax:(n+m)*8<=140737488355328)(hi:i<=n):CE 210 #[.slice a n cap,.int .i64 i,.slice (some ⟨b0,0,none⟩) m c0] w (fps [.own (.slice a n cap) 3 1 n xs,.blk b0 3 tot2 news]) (λg:Option Addr×Nat=>.slice g.1 (n+m) g.2) (λg=>True) λg=>[.own (.slice g.1 (n+m) g.2) 3 1 (n+m) (xs.take (i*1)++news++xs.drop (i*1)),.blk b0 3 tot2 news]:=by
  rcases Nat.lt_or_ge i n with h|h
  · obtain⟨gg,rfl,_,hnc,hcm,hxl,hb⟩:=hw.own_blk om .here;exact Qro w gg i n m cap xs news b0 c0 tot2 _ hb hnc hcm hxl hm0 hl hn1 hx1 hmax h
  · exact QrQ w a i n m cap xs news b0 c0 tot2 hw hm0 hl hn1 hx1 hmax om
theorem QlT:QH Tryz.prog 208=true:=by kernel_rfl
instance:TFn Tryz.prog 209:=⟨by kernel_rfl⟩
theorem Qm7:QH Tryz.prog 147=true:=by kernel_rfl
theorem Qqi:QH Tryz.prog 210=true:=by kernel_rfl
theorem Qpy(w:World)(a:Option Addr)(i cap:Nat)(l:List TEnt)(x:TEnt)(b0 c0 tot2:Nat)(hw:HS w (fps [.own (.slice a l.length cap) 76 2 l.length (l.flatMap TEnt.vals),.blk b0 76 tot2 (TEnt.vals x)]) [.own (.slice a l.length cap) 76 2 l.length (l.flatMap TEnt.vals),.blk b0 76 tot2 (TEnt.vals x)] w)(hmax:l.length<=100000)(hi:i<=l.length):CE 147 #[.slice a l.length cap,.int .i64 (i:Int),.slice (some ⟨b0,0,none⟩) 1 c0] w (fps [.own (.slice a l.length cap) 76 2 l.length (l.flatMap TEnt.vals),.blk b0 76 tot2 (TEnt.vals x)]) (λg:Option Addr×Nat=>.slice g.1 (QF l i x).length g.2) (λg=>True) λg=>[.own (.slice g.1 (QF l i x).length g.2) 76 2 (QF l i x).length ((QF l i x).flatMap TEnt.vals),.blk b0 76 tot2 (TEnt.vals x)]:=by
  have h:=c147 w a i l.length 1 cap (l.flatMap TEnt.vals) (TEnt.vals x) b0 c0 tot2 hw (by decide) (ev2 x) (λu hu=>ev1 x u hu) (Xu ev1 l) om hi;rw[QiU ev2]at h;rw[YB hi];exact h
theorem Qrn(w:World)(a:Option Addr)(i cap:Nat)(l:List Int)(x:Int)(b0 c0 tot2:Nat)(hw:HS w (fps [.own (.slice a l.length cap) 3 1 l.length (l.flatMap inV),.blk b0 3 tot2 (inV x)]) [.own (.slice a l.length cap) 3 1 l.length (l.flatMap inV),.blk b0 3 tot2 (inV x)] w)(hmax:l.length<=100000)(hi:i<=l.length):CE 210 #[.slice a l.length cap,.int .i64 (i:Int),.slice (some ⟨b0,0,none⟩) 1 c0] w (fps [.own (.slice a l.length cap) 3 1 l.length (l.flatMap inV),.blk b0 3 tot2 (inV x)]) (λg:Option Addr×Nat=>.slice g.1 (QF l i x).length g.2) (λg=>True) λg=>[.own (.slice g.1 (QF l i x).length g.2) 3 1 (QF l i x).length ((QF l i x).flatMap inV),.blk b0 3 tot2 (inV x)]:=by
  have h:=c210 w a i l.length 1 cap (l.flatMap inV) (inV x) b0 c0 tot2 hw (by decide) (iv1 x) (λu hu=>QgZ x u hu) (Xu QgZ l) om hi;rw[QiU iv1]at h;rw[YB hi];exact h
set_option maxHeartbeats 4000000 in
theorem c190(w:World)(bt:Nat)(j:Nat)(mo rm:Int)(gn cap:Nat)(L:List LNd)(i:Nat)(hw:HS w (fps [.blk bt 128 6 (tbV (j:Int) mo rm (some ⟨gn,0,none⟩) (L).length cap),.blk gn 64 (cap*3) ((L).flatMap LNd.vals),.star ((L).map (Qw 76))]) [.blk bt 128 6 (tbV (j:Int) mo rm (some ⟨gn,0,none⟩) (L).length cap),.blk gn 64 (cap*3) ((L).flatMap LNd.vals),.star ((L).map (Qw 76))] w)(hnc:L.length<=cap)(hcm:cap<=maxLen)(hok:SpOk mo (pln L) i):CE 190 #[.pointer (some ⟨bt,0,none⟩),.int .i64 (i:Int)] w (fps [.blk bt 128 6 (tbV (j:Int) mo rm (some ⟨gn,0,none⟩) (L).length cap),.blk gn 64 (cap*3) ((L).flatMap LNd.vals),.star ((L).map (Qw 76))]) (λg:(Nat×Nat)×List LNd=>.tuple #[]) (λg=>(pln g.2=Qak mo (pln L) i/\g.2.length<=g.1.2/\g.1.2<=maxLen)) λg=>[.blk bt 128 6 (tbV (j:Int) mo rm (some ⟨g.1.1,0,none⟩) (g.2).length g.1.2),.blk g.1.1 64 (g.1.2*3) ((g.2).flatMap LNd.vals),.star ((g.2).map (Qw 76))]:=by
 have hlt0:=hok.lt
 have hln0:=hok.len
 rw[Qb]at hlt0 hln0
 have hmo:=hok.mo0
 have hes0:=hok.es
 have hcs0:=hok.cs
 have hne:=Qew hok.lt hok.us
 have hfn:=QbE hok.lt hok.us
 have hfl:=QeK (pln L)
 have hfl2:=Qbv (pln L)
 rw[Qb]at hfl2
 have hpar:=hok.par
 have hparE:=hok.parE
 have hparC:=hok.parC
 rw[QiK]at hpar
 have hsA:=hok.sm.splA mo i
 have hsF:=hok.sm.fre
 refine eW2 Tryz.func190 Tryz.ntmps190 hw ?_
 refine aU3 ?_
 refine o_h (QT (Cs:=[.blk bt 128 6 (tbV (j:Int) mo rm (some ⟨gn,0,none⟩) (L).length cap),.blk gn 64 (cap*3) ((L).flatMap LNd.vals),.star ((L).map (Qw 76))]) rfl QlT rfl aPs (λw1 h1 hf=>c208 w1 bt j mo rm gn cap L hf hnc hcm om om)) rfl (λ⟨⟨gn1,cap1⟩,L1⟩hF1=>?_)
 dsimp only
 obtain⟨hL1,hn1,hm1⟩:=hF1
 simp only[]at hL1 hn1 hm1
 have hl1:L1.length=(QK (pln L)).2.length:=by rw[<-hL1,Qb]
 have hi1:i<L1.length:=om
 have ho1:(QK (pln L)).1<L1.length:=om
 have hN1:(nth L1 i).pl=nth (pln L) i:=by rw[<-Qp hi1,hL1,hfn]
 have hE1:(nth L1 i).es=(nth (pln L) i).es:=congrArg Nd.es hN1
 have hC1:(nth L1 i).cs=(nth (pln L) i).cs:=congrArg Nd.cs hN1
 have hN1e:(nth (QK (pln L)).2 i).es=(nth L1 i).es:=by rw[<-hL1,Qp hi1];rfl
 have hN1c:(nth (QK (pln L)).2 i).cs=(nth L1 i).cs:=by rw[<-hL1,Qp hi1];rfl
 have hsm1:(Qv mo)<(nth L1 i).es.length:=by rw[hE1];exact hes0
 have hsE1:=(hok.sm i).1
 rw[<-hE1]at hsE1
 have hsC1:=(hok.sm i).2
 rw[<-hC1]at hsC1
 rw[<-hC1]at hcs0
 refine YR ?_
 refine o_p (Qa rfl rfl rfl QE (i) om om rfl) rfl (Qm (show _=Value.pointer (some ⟨gn1,i*3,none⟩)from by rw[Nat.zero_add]) (Qnd ?_))
 refine o_p (Y6 rfl rfl rfl om om om) rfl (Qm (show _=Value.int .i64 ((Qv mo):Int)from by unfold Qv;congr 1;omega) (aU7 ?_))
 refine o_q (Qn rfl rfl XZ (λw h=>HS.nd_cell hi1 h aPk 1 rfl (by decide))) rfl (Xo (λw h=>HS.es_some hi1 om h aPk) λhge=>?_)
 obtain⟨ge,hge⟩:=hge
 refine Xo (λw h=>HS.es_room hi1 h aPk) λhrE=>aU ?_
 refine o_p (Qa rfl rfl rfl QL _ rfl om hge) rfl (o_q (Yi _ rfl rfl Ye rfl (λw h=>HS.es_rd hi1 hsm1 hge h aPk)) rfl (oAl (λb1 _=>?_) Xi))
 refine aU3 ?_
 refine Qq [16] Qx ?_
 refine dP 0 ?_
 refine dP 1 ?_
 refine dFa 2 ?_
 refine dFa 3 ?_
 refine dLd 4 [[]] ?_
 refine dP 5 ?_
 refine dP 6 ?_
 refine dP 7 ?_
 refine dFa 8 ?_
 refine dQ 9 [[]] rfl (Qn rfl rfl XZ (λw h=>HS.nd_cell hi1 h aPk 1 rfl (by decide))) (dP 10 ?_)
 refine dP 11 ?_
 try refine dWr ?_
 refine dV 12 rfl (QJ _ _ ((Qv mo)+1) ((nth L1 i).es.length) rfl rfl QL ⟨_,_,rfl,om⟩ rfl om om) (Qs (show _=Value.slice (Yh (nth L1 i).ea (nth L1 i).ec ((Qv mo)+1) 2) ((nth L1 i).es.drop ((Qv mo)+1)).length ((nth L1 i).ec-((Qv mo)+1))from by rw[List.length_drop]) (dH 13 rfl (Q3 rfl QnV rfl (λw1 h1=>c145 w1 (Yh (nth L1 i).ea (nth L1 i).ec ((Qv mo)+1) 2) ((nth L1 i).ec-((Qv mo)+1)) ((nth L1 i).es.drop ((Qv mo)+1)) ((HS.es_row hi1 h1 aPk).cut om) (by rw[List.length_drop];omega))) (λ⟨b2,c3⟩_=>dBa ?_)))
 refine dV 14 rfl (Qa rfl rfl rfl QE _ rfl om rfl) (Qs (show _=Value.pointer (some ⟨gn1,(QK (pln L)).1*3,none⟩)from by rw[Nat.zero_add]) (dFa 15 ?_))
 refine dSt 16 ?_ (hl:=(by rw[Qj nv3];show _+1<=_;omega))
 refine dTu [] ?_
 refine dNi ?_
 refine aU ?_
 refine Qg (L':=[(0,_),(1,_),(4,_),(5,_),(6,_),(7,_)]) aSx (λ_ h=>h) ?_
 refine aU2 ?_
 refine Qdd (λw h=>HS.es_set (gn:=gn1) (cap:=cap1) (ea:=b2) (ec:=c3) (es:=(nth L1 i).es.drop ((Qv mo)+1)) ho1 h aPk aPk aPk) λL2=>?_
 refine Xo (λw h=>h.1) λhS2=>Q6 (λw h=>h.2) ?_
 have hi2:i<L2.length:=by rw[hS2.len];exact hi1
 have hN2:nth L2 i=nth L1 i:=hS2.other hi1 hne
 have hsm2:(Qv mo)<(nth L2 i).es.length:=by rw[hN2];exact hsm1
 refine aU3 ?_
 refine o_q (Qn rfl rfl XZ (λw h=>HS.nd_cell hi2 h aPk 1 rfl (by decide))) rfl (Xo (λw h=>HS.es_room hi2 h aPk) λhrE2=>Xo (λw h=>HS.es_form hi2 h aPk) λhfE2=>aU2 ?_)
 refine o_p (Qgu (Qv mo) (Qv mo) rfl rfl rfl rfl QL rfl rfl om om) rfl (Qm (show _=Value.slice (nth L2 i).ea ((Qv mo)) ((Qv mo))from by rw[QlR _ _ _ hfE2]) (aU2 ?_))
 refine Qal (Xt rfl rfl rfl XZ rfl aPt (by rw[Qj nv3];show _+1<=_;omega) rfl) (λ_ _=>aU5 ?_)
 refine Qdd (λw h=>HS.es_setC (gn:=gn1) (cap:=cap1) (m:=(Qv mo)) (c:=(Qv mo)) hi2 (Nat.le_refl _) om om (λh9 _=>h9) h aPk aPk) λL3=>?_
 refine Xo (λw h=>h.1) λhS3=>Q6 (λw h=>h.2) ?_
 have hi3:i<L3.length:=by rw[hS3.len];exact hi2
 have ho3:(QK (pln L)).1<L3.length:=by rw[hS3.len,hS2.len];exact ho1
 have hC3:(nth L3 i).cs=(nth L1 i).cs:=by rw[hS3.at_,hN2]
 refine aU2 ?_
 refine o_q (Qn rfl rfl XN (λw h=>HS.nd_cell hi3 h aPk 2 rfl (by decide))) rfl (aU3 ?_)
 refine Qg (L':=[(0,_),(1,_),(4,_),(5,_),(6,_),(7,_),(65,_)]) aSx (λ_ h=>h) ?_
 refine Xe (α:=List LNd) [66,67,68,69,70,71,72,73,74,75,76,77,78,79,80,81,82,83,84,85,86,87,88,89,90,91,92,93] (λ_=>[]) (λx=>HS w (fps [.blk bt 128 6 (tbV (j:Int) mo rm (some ⟨gn,0,none⟩) (L).length cap),.blk gn 64 (cap*3) ((L).flatMap LNd.vals),.star ((L).map (Qw 76))]) [.blk bt 128 6 (tbV (j:Int) mo rm (some ⟨gn1,0,none⟩) (x).length cap1),.blk gn1 64 (cap1*3) ((x).flatMap LNd.vals),.star ((x).map (Qw 76)),.blk b1 76 2 (TEnt.vals (nth (nth L1 i).es ((Qv mo))))]) (λx=>pln x=splA mo (pln L) i/\x.length=L1.length) ?_ ?_
 ·skip
  refine sCd rfl (λh4=>?_) λh4=>?_
  ·have hcs3:(Qv mo)+1<=(nth L3 i).cs.length:=by have hq:=h4;rw[hC3]at hq ⊢;omega
   refine X0 (λw h=>HS.cs_room hi3 h aPk) λhrC3=>?_
   have hsC3:(nth L3 i).cs.length<=900:=by rw[hC3];exact hsC1
   refine aU ?_
   refine Qq [16] Qx ?_
   refine dP 0 ?_
   refine dP 1 ?_
   refine dFa 2 ?_
   refine dFa 3 ?_
   refine dLd 4 [[]] ?_
   refine dP 5 ?_
   refine dP 6 ?_
   refine dP 7 ?_
   refine dFa 8 ?_
   refine dQ 9 [[]] rfl (Qn rfl rfl XN (λw h=>HS.nd_cell hi3 h aPk 2 rfl (by decide))) (dP 10 ?_)
   refine dP 11 ?_
   try refine dWr ?_
   refine dV 12 rfl (QJ _ _ ((Qv mo)+1) ((nth L3 i).cs.length) rfl rfl QB ⟨_,_,rfl,om⟩ rfl om om) (Qs (show _=Value.slice (Yh (nth L3 i).ca (nth L3 i).cc ((Qv mo)+1) 1) ((nth L3 i).cs.drop ((Qv mo)+1)).length ((nth L3 i).cc-((Qv mo)+1))from by rw[List.length_drop]) (dH 13 rfl (Q3 rfl QlV rfl (λw1 h1=>c146 w1 (Yh (nth L3 i).ca (nth L3 i).cc ((Qv mo)+1) 1) ((nth L3 i).cc-((Qv mo)+1)) ((nth L3 i).cs.drop ((Qv mo)+1)) ((HS.cs_row hi3 h1 aPk).cut om) (by rw[List.length_drop];omega))) (λ⟨b5,c6⟩_=>dBa ?_)))
   refine dV 14 rfl (Qa rfl rfl rfl QE _ rfl om rfl) (Qs (show _=Value.pointer (some ⟨gn1,(QK (pln L)).1*3,none⟩)from by rw[Nat.zero_add]) (dFa 15 ?_))
   refine dSt 16 ?_ (hl:=(by rw[Qj nv3];show _+1<=_;omega))
   refine dTu [] ?_
   refine dNi ?_
   refine aU2 ?_
   refine Qdd (λw h=>HS.cs_set (gn:=gn1) (cap:=cap1) (ca:=b5) (cc:=c6) (cs:=(nth L3 i).cs.drop ((Qv mo)+1)) ho3 h aPk aPk aPk) λL4=>?_
   refine Xo (λw h=>h.1) λhS4=>Q6 (λw h=>h.2) ?_
   have hi4:i<L4.length:=by rw[hS4.len];exact hi3
   have hN4:nth L4 i=nth L3 i:=hS4.other hi3 hne
   have hcs4:(Qv mo)+1<=(nth L4 i).cs.length:=by rw[hN4];exact hcs3
   refine aU3 ?_
   refine o_q (Qn rfl rfl XN (λw h=>HS.nd_cell hi4 h aPk 2 rfl (by decide))) rfl (Xo (λw h=>HS.cs_room hi4 h aPk) λhrC4=>Xo (λw h=>HS.cs_form hi4 h aPk) λhfC4=>aT2 ?_)
   refine aT2 ?_
   refine o_p (Qgu ((Qv mo)+1) ((Qv mo)+1) rfl rfl rfl rfl QB om om om om) rfl (Qm (show _=Value.slice (nth L4 i).ca ((Qv mo)+1) ((Qv mo)+1)from by rw[QlR _ _ _ hfC4]) (aU2 ?_))
   refine Qal (Xt rfl rfl rfl XN rfl aPt (by rw[Qj nv3];show _+1<=_;omega) rfl) (λ_ _=>aU ?_)
   refine QkU (λw h=>HS.cs_setC (gn:=gn1) (cap:=cap1) (m:=(Qv mo)+1) (c:=(Qv mo)+1) hi4 (Nat.le_refl _) om om (λh9 _=>h9) h aPk aPk) λL5=>?_
   exact X0 (λw h=>h.1) λhS5=>Zl (λw h=>h.2) (Qo L5 ⟨by rw[hS5.cs,hS4.cs,hS3.es,hS2.es,hN4,hC3,hN2,<-hN1c,<-hN1e,hL1,splA,if_neg (by rw[hN1c,<-hC3];omega)],by rw[hS5.len,hS4.len,hS3.len,hS2.len]⟩ aSx (λw h=>by rw[hS5.len,hS4.len,hS3.len,hS2.len];exact h.ent aEt))
  have hz:(nth L1 i).cs.length=0:=by rw[<-hC3];omega
  refine aU ?_
  exact Qo L3 ⟨by rw[hS3.es,hS2.es,hN2,<-hN1e,hL1,splA,if_pos (by rw[hN1c];exact hz)],by rw[hS3.len,hS2.len]⟩ aSx (λw h=>by rw[hS3.len,hS2.len];exact h.ent aEt)
 intro LA hx
 obtain⟨hA,hlA⟩:=hx
 have hpA:(Xx (i:Int) (splA mo (pln L) i) 0).1<LA.length:=om
 have hNA:(nth LA (Xx (i:Int) (splA mo (pln L) i) 0).1).pl=nth (splA mo (pln L) i) (Xx (i:Int) (splA mo (pln L) i) 0).1:=by rw[<-Qp hpA,hA]
 have hEA:(nth LA (Xx (i:Int) (splA mo (pln L) i) 0).1).es=(nth (splA mo (pln L) i) (Xx (i:Int) (splA mo (pln L) i) 0).1).es:=congrArg Nd.es hNA
 have hCA:(nth LA (Xx (i:Int) (splA mo (pln L) i) 0).1).cs=(nth (splA mo (pln L) i) (Xx (i:Int) (splA mo (pln L) i) 0).1).cs:=congrArg Nd.cs hNA
 rw[<-hEA]at hparE
 rw[<-hCA]at hparC
 have hsAE:=(hsA (Xx (i:Int) (splA mo (pln L) i) 0).1).1
 have hsAC:=(hsA (Xx (i:Int) (splA mo (pln L) i) 0).1).2
 rw[<-hEA]at hsAE
 rw[<-hCA]at hsAC
 refine aU4 ?_
 refine oCq rfl (λw1 h1=>by have h9:=c209 w1 bt j mo rm (some ⟨gn1,0,none⟩) cap1 LA i (HS.tbr h1 aPk) (HS.nt_at h1 aPk aPk) om (λk hk=>by have:=(hsA k).2;rw[<-hA,Qp hk]at this;exact Nat.le_trans this (by decide));rw[hA]at h9;exact h9) (Qc0 ?_)
 refine o_p (Qa rfl rfl rfl QE _ rfl om rfl) rfl (Qm (show _=Value.pointer (some ⟨gn1,(Xx (i:Int) (splA mo (pln L) i) 0).1*3,none⟩)from by rw[Nat.zero_add]) (aU ?_))
 refine Q6 (λw h=>HS.es_take hpA h aPk) (aU2 ?_)
 refine Qq [8,11] Qx ?_
 refine dP 0 ?_
 refine dP 1 ?_
 refine dP 2 ?_
 refine dFa 3 ?_
 refine dQ 4 [[],[]] rfl (Qn rfl rfl XZ (λw h=>HS.nd_cell hpA h aPk 1 rfl (by decide))) (dP 5 ?_)
 refine dLn 6 [[7],[]] ?_
 refine dH 7 rfl (Qd (cs:=[_,_]) rfl rfl QL Xi rfl rfl rfl) (λb7 _=>dBa ?_)
 refine dH 8 rfl (QT (Cs:=[.own (.slice ((nth LA (Xx (i:Int) (splA mo (pln L) i) 0).1)).ea ((nth LA (Xx (i:Int) (splA mo (pln L) i) 0).1)).es.length ((nth LA (Xx (i:Int) (splA mo (pln L) i) 0).1)).ec) 76 2 ((nth LA (Xx (i:Int) (splA mo (pln L) i) 0).1)).es.length (((nth LA (Xx (i:Int) (splA mo (pln L) i) 0).1)).es.flatMap TEnt.vals),.blk b7 76 2 (TEnt.vals (nth (nth L1 i).es ((Qv mo))))]) rfl Qm7 rfl aPs (λw1 h1 hf=>Qpy w1 (nth LA (Xx (i:Int) (splA mo (pln L) i) 0).1).ea (Xx (i:Int) (splA mo (pln L) i) 0).2 (nth LA (Xx (i:Int) (splA mo (pln L) i) 0).1).ec (nth LA (Xx (i:Int) (splA mo (pln L) i) 0).1).es (nth (nth L1 i).es ((Qv mo))) b7 1 2 hf om om)) (λb8 _=>dTu [11] ?_)
 refine dP 9 ?_
 refine dFa 10 ?_
 refine dSt 11 ?_ (hl:=(by rw[Qj nv3];show _+1<=_;omega))
 refine dTu [] ?_
 refine dNi ?_
 refine Qg (L':=[(4,_),(9,_),(10,_)]) aSx (λ_ h=>h) ?_
 refine aU2 ?_
 refine Qdd (λw h=>HS.es_setB (gn:=gn1) (cap:=cap1) (ea:=b8.1) (ec:=b8.2) (es:=QF (nth LA (Xx (i:Int) (splA mo (pln L) i) 0).1).es (Xx (i:Int) (splA mo (pln L) i) 0).2 (nth (nth L1 i).es ((Qv mo)))) hpA h aPk aPk aPk) λLB=>?_
 refine Xo (λw h=>h.1) λhSB=>Q6 (λw h=>h.2) ?_
 have hpB:(Xx (i:Int) (splA mo (pln L) i) 0).1<LB.length:=by rw[hSB.len];exact hpA
 refine Q6 (λw h=>HS.cs_take hpB h aPk) ?_
 have hBC:(nth LB (Xx (i:Int) (splA mo (pln L) i) 0).1).cs=(nth LA (Xx (i:Int) (splA mo (pln L) i) 0).1).cs:=by rw[hSB.at_]
 have hBCl:(nth LB (Xx (i:Int) (splA mo (pln L) i) 0).1).cs.length=(nth LA (Xx (i:Int) (splA mo (pln L) i) 0).1).cs.length:=by rw[hBC]
 refine aU3 ?_
 refine o_q (Qn rfl rfl XN (λw h=>HS.nd_cell hpB h aPk 2 rfl (by decide))) rfl (aT2 ?_)
 refine aU ?_
 refine o_h (Qd (cs:=[_]) rfl rfl QB Yo rfl rfl rfl) rfl (λb9 _=>o_h (QT (Cs:=[.own (.slice ((nth LB (Xx (i:Int) (splA mo (pln L) i) 0).1)).ca ((nth LB (Xx (i:Int) (splA mo (pln L) i) 0).1)).cs.length ((nth LB (Xx (i:Int) (splA mo (pln L) i) 0).1)).cc) 3 1 ((nth LB (Xx (i:Int) (splA mo (pln L) i) 0).1)).cs.length (((nth LB (Xx (i:Int) (splA mo (pln L) i) 0).1)).cs.flatMap inV),.blk b9 3 1 (inV ((QK (pln L)).1:Int))]) rfl Qqi rfl aPs (λw1 h1 hf=>Qrn w1 (nth LB (Xx (i:Int) (splA mo (pln L) i) 0).1).ca ((Xx (i:Int) (splA mo (pln L) i) 0).2+1) (nth LB (Xx (i:Int) (splA mo (pln L) i) 0).1).cc (nth LB (Xx (i:Int) (splA mo (pln L) i) 0).1).cs ((QK (pln L)).1:Int) b9 1 1 hf om om)) rfl (λb10 _=>aU2 ?_))
 refine Qal (Xt rfl rfl rfl XN rfl aPt (by rw[Qj nv3];show _+1<=_;omega) rfl) (λ_ _=>aU ?_)
 exact QcM rfl (λw' h'=>by obtain⟨LC,hSC,hC⟩:=HS.cs_setB (gn:=gn1) (cap:=cap1) (ca:=b10.1) (cc:=b10.2) (cs:=QF (nth LB (Xx (i:Int) (splA mo (pln L) i) 0).1).cs ((Xx (i:Int) (splA mo (pln L) i) 0).2+1) ((QK (pln L)).1:Int)) hpB h' aPk aPk aPk;exact⟨((gn1,cap1),LC),rfl,⟨by rw[hSC.cs,hBC,hSB.es,hA,hEA,hCA];unfold Qak addP;rw[hN1e],by simp only[];rw[hSC.len,hSB.len,hlA];exact hn1,hm1⟩,by simp only[];rw[hSC.len,hSB.len];exact hC.ent aEt⟩)
theorem c191(w:World)(bt:Nat)(j:Nat)(mo rm:Int)(gn cap:Nat)(L:List LNd)(hw:HS w (fps [.blk bt 128 6 (tbV (j:Int) mo rm (some ⟨gn,0,none⟩) (L).length cap),.blk gn 64 (cap*3) ((L).flatMap LNd.vals),.star ((L).map (Qw 76))]) [.blk bt 128 6 (tbV (j:Int) mo rm (some ⟨gn,0,none⟩) (L).length cap),.blk gn 64 (cap*3) ((L).flatMap LNd.vals),.star ((L).map (Qw 76))] w)(hnc:L.length<=cap)(hcm:cap<=maxLen)(h0:0<L.length)(hl:L.length<=1000)(hu:(nth (pln L) 0).us=true):CE 191 #[.pointer (some ⟨bt,0,none⟩)] w (fps [.blk bt 128 6 (tbV (j:Int) mo rm (some ⟨gn,0,none⟩) (L).length cap),.blk gn 64 (cap*3) ((L).flatMap LNd.vals),.star ((L).map (Qw 76))]) (λg:(Nat×Nat)×List LNd=>.int .i64 ((QK (pln L)).1:Int)) (λg=>(pln g.2=(XU (pln L)).2/\g.2.length<=g.1.2/\g.1.2<=maxLen)) λg=>[.blk bt 128 6 (tbV (j:Int) mo rm (some ⟨g.1.1,0,none⟩) (g.2).length g.1.2),.blk g.1.1 64 (g.1.2*3) ((g.2).flatMap LNd.vals),.star ((g.2).map (Qw 76))]:=by
 have hfl2:=Qbv (pln L)
 rw[Qb]at hfl2
 obtain⟨hne,hfl,hfn⟩:=Qoo (by rw[Qb];exact h0) hu
 refine eW1 Tryz.func191 Tryz.ntmps191 hw ?_
 refine aU7 ?_
 refine o_h (QT (Cs:=[.blk bt 128 6 (tbV (j:Int) mo rm (some ⟨gn,0,none⟩) (L).length cap),.blk gn 64 (cap*3) ((L).flatMap LNd.vals),.star ((L).map (Qw 76))]) rfl QlT rfl aPs (λw1 h1 hf=>c208 w1 bt j mo rm gn cap L hf hnc hcm h0 hl)) rfl (λ⟨⟨gn1,cap1⟩,L1⟩hF1=>?_)
 dsimp only
 obtain⟨hL1,hn1,hm1⟩:=hF1
 simp only[]at hL1 hn1 hm1
 have hl1:L1.length=(QK (pln L)).2.length:=by rw[<-hL1,Qb]
 have hi1:0<L1.length:=om
 have ho1:(QK (pln L)).1<L1.length:=om
 have hN1:(nth L1 0).pl=nth (pln L) 0:=by rw[<-Qp hi1,hL1,hfn]
 refine aU9 ?_
 refine o_p (Qa rfl rfl rfl QE (0) om om rfl) rfl (Qm (show _=Value.pointer (some ⟨gn1,0*3,none⟩)from by rw[Nat.zero_add]) (aU3 ?_))
 refine Qq [22,25] Qx ?_
 refine dP 0 ?_
 refine dP 1 ?_
 refine dFa 2 ?_
 refine dFa 3 ?_
 refine dLd 4 [[],[]] ?_
 refine dP 5 ?_
 refine dP 6 ?_
 refine dP 7 ?_
 refine dFa 8 ?_
 refine dFa 9 ?_
 refine dLd 10 [[],[]] ?_
 refine dP 11 ?_
 refine dP 12 ?_
 refine dP 13 ?_
 refine dFa 14 ?_
 refine dQ 15 [[],[]] rfl (Qn rfl rfl XZ (λw h=>HS.nd_cell hi1 h aPk 1 rfl (by decide))) (dP 16 ?_)
 refine dP 17 ?_
 refine dFa 18 ?_
 refine dQ 19 [[],[]] rfl (Qn rfl rfl XN (λw h=>HS.nd_cell hi1 h aPk 2 rfl (by decide))) (dV 20 rfl (Qa rfl rfl rfl QE _ rfl om rfl) (Qs (show _=Value.pointer (some ⟨gn1,(QK (pln L)).1*3,none⟩)from by rw[Nat.zero_add]) (dFa 21 ?_)))
 refine dSt 22 ?_ (hl:=(by rw[Qj nv3];show _+1<=_;omega))
 refine dTu [25] ?_
 refine dV 23 rfl (Qa rfl rfl rfl QE _ rfl om rfl) (Qs (show _=Value.pointer (some ⟨gn1,(QK (pln L)).1*3,none⟩)from by rw[Nat.zero_add]) (dFa 24 ?_))
 refine QmZ 25 rfl (Xt rfl rfl rfl XN rfl aPt (by rw[Qe,Qj nv3];show _+1<=_;omega) rfl) (by kernel_rfl) (λw h=>h.ent aEt) (λ_ _=>?_)
 refine dTu [] ?_
 refine dNi ?_
 refine aU ?_
 refine Qg (L':=[(2,_),(3,_),(4,_)]) aSx (λ_ h=>h) ?_
 refine aU2 ?_
 refine Qdd (λw h=>HS.node_move (i:=0) (gn:=gn1) (cap:=cap1) hi1 ho1 (λe=>hne e.symm) h aPk aPk) λL2=>?_
 refine Xo (λw h=>h.1) λhS2=>Q6 (λw h=>h.2) ?_
 have hi2:0<L2.length:=by rw[hS2.len];exact hi1
 have hN2:nth L2 0=nth L1 0:=hS2.other hi1 hne
 rw[<-hN2]
 refine aU2 ?_
 refine o_h (Qd (cs:=[_]) rfl rfl QB Yo rfl rfl rfl) rfl (λb1 _=>aU2 ?_)
 refine Qal (Xt rfl rfl rfl XZ rfl aPt (by rw[Qj nv3];show _+1<=_;omega) rfl) (λ_ _=>aU2 ?_)
 refine Qal (Xt rfl rfl rfl XN rfl aPt (by rw[Qe,Qj nv3];show _+1<=_;omega) rfl) (λ_ _=>aU6 ?_)
 exact rT rfl rfl (λw' h'=>by obtain⟨LC,hSC,hC⟩:=HS.node_low (i:=0) (gn:=gn1) (cap:=cap1) (ca:=some ⟨b1,0,none⟩) (cc:=1) (cs:=[((QK (pln L)).1:Int)]) hi2 (HS.own_shut (t:=3) (sz:=1) (n:=1) (cap:=1) (h'.pick (A:=.blk b1 3 (1*1) (inV ((QK (pln L)).1:Int))) aPk) rfl (by decide) (by decide)) (.there aPk) .here aPk;exact⟨((gn1,cap1),LC),rfl,⟨by have e2:pln L2=csN (esN (pln L1) (QK (pln L)).1 (nth (pln L) 0).es) (QK (pln L)).1 (nth (pln L) 0).cs:=(by rw[Qex (by rw[Qb];exact ho1),hS2.pl,Qp ho1,<-hN1];rfl);rw[hSC.pl,XU,<-hL1,<-e2,Qex (by rw[Qb];exact hi2),Qp hi2];rfl,by simp only[];rw[hSC.len,hS2.len];exact hn1,hm1⟩,by simp only[];rw[hSC.len,hS2.len];exact hC.ent aEt⟩)
theorem c189(w:World)(a:Option Addr)(n cap:Nat):CE 189 #[.slice a n cap] w [] (λg:Nat=>.func (.func 207) #[] #[.pointer (some ⟨g,0,none⟩)]) (λg=>True) λg=>[.blk g 52 1 [.slice a n cap]]:=by
 refine eN1 Tryz.func189 Tryz.ntmps189 ?_
 refine aU2 ?_
 refine oBx λb1 _=>?_
 refine aU7 ?_
 exact rT rfl rfl (λw' h'=>⟨b1,rfl,trivial,h'.ent aEt⟩)
theorem c207(w:World){G:Type}(w0:World)(M:List Nat)(Cs:Nat->G->List HA)(g0:G)(l b1:Nat)(P:List Nat)(a:Option Addr)(cap:Nat)(hl:P.length<=100000)(hw:HS w0 M (Cs 0 g0) w)(hr:∀k g w,HS w0 M (Cs k g) w->Rd w [] b1 0 (.slice a P.length cap)/\Rw inV 1 w [] a (iN P))(hy:∀k g w,k<P.length->HS w0 M (Cs k g) w->QeB Tryz.prog l #[.int .i64 ((P.length-1-k:Nat):Int),.int .i64 (((nth P (P.length-1-k)):Nat):Int)] w λe w'=>∃g',e=.returned (.bool true)/\True/\HS w0 M (Cs (k+1) g') w'):Calls Tryz.prog 207 #[.func (.yield l) #[] #[],.pointer (some ⟨b1,0,none⟩)] w λen w'=>(∃v,en=.returned v)/\∃x:G,HS w0 M (Cs P.length x) w':=by
 refine eW2 Tryz.func207 Tryz.ntmps207 hw ?_
 refine aU2 ?_
 refine o_q (Qn rfl rfl XN (λw h=>(hr _ _ w h).1)) rfl (aT2 ?_)
 refine aU3 ?_
 refine Qt (α:=Nat×G) [3,7,8,9,10,11,12,13,14,15,16,17,18] (λx=>[(3,.int .i64 ((P.length:Int)-1-(x.1:Int)))]) (λx=>HS w0 M (Cs x.1 x.2)) (λx=>x.1<=P.length) (λx=>P.length-x.1) (0,g0) (Nat.zero_le _) (by refine Qc9 (congrArg (λe=>some (Value.int .i64 e)) (show _=_ from by simp only[];omega)) ?_;repeat (first|exact Qio|refine Qc9 rfl ?_)) (λw h=>h) (λ⟨k,gg⟩hk1=>?_)
 dsimp only
 simp only[]at hk1
 refine aU4 ?_
 refine Qm (show _=Value.int .i64 (((P.length:Int)-1-(k:Int)))from rfl) (aU2 ?_)
 refine sCd rfl (λh1=>?_) λh1=>?_
 ·have hk:k<P.length:=by omega
  refine X0 (λw h=>Rw.some (hr _ _ w h).2 (by rw[QcX];omega)) λhas=>aU7 ?_
  refine Qm (show _=Value.int .i64 ((P.length-1-k:Nat):Int)from by congr 1;omega) (o_q (Qn rfl rfl XN (λw h=>(hr _ _ w h).1)) rfl (aU ?_))
  refine Qm (show _=Value.int .i64 ((P.length-1-k:Nat):Int)from by congr 1;omega) (o_p (Qa rfl rfl rfl QB (P.length-1-k) om om has) rfl (o_q (Qn rfl rfl Xq (λw h=>by have h9:=(hr _ _ w h).2.rdj 0 (i:=P.length-1-k) (by rw[QcX];omega) rfl;rw[Qjd om]at h9;exact h9)) rfl (o_h (QjY rfl rfl rfl (λw1 h1=>hy k gg w1 hk h1)) rfl (λgy _=>aU2 ?_))))
  refine sCd rfl (λh2=>?_) λh2=>?_
  ·exfalso;first|omega|(simp at h2;done)|(simp_all;done)
  refine aT5 ?_
  refine aU2 ?_
  exact QR (k+1,gy) (by(try simp only[]);omega) (by(try simp only[]);omega) (by refine Qc9 (congrArg (λe=>some (Value.int .i64 e)) (show _=_ from by simp only[];omega)) ?_;repeat (first|exact Qio|refine Qc9 rfl ?_)) (λw h=>h)
 obtain rfl:k=P.length:=om
 refine Qi rfl ?_
 exact QcM rfl (λw' h'=>⟨⟨_,rfl⟩,gg,h'⟩)
instance:TFn Tryz.prog 189:=⟨by kernel_rfl⟩
theorem QpW:QH Tryz.prog 207=true:=by kernel_rfl
theorem QmW:QH Tryz.prog 190=true:=by kernel_rfl
theorem Qp8:QH Tryz.prog 191=true:=by kernel_rfl
set_option maxHeartbeats 4000000 in
theorem c148(w:World)(bt:Nat)(j:Nat)(mo rm:Int)(gn cap:Nat)(L:List LNd)(P:List Nat)(pa:Option Addr)(pc:Nat)(hw:HS w (fps [.blk bt 128 6 (tbV (j:Int) mo rm (some ⟨gn,0,none⟩) (L).length cap),.blk gn 64 (cap*3) ((L).flatMap LNd.vals),.star ((L).map (Qw 76))]) [.blk bt 128 6 (tbV (j:Int) mo rm (some ⟨gn,0,none⟩) (L).length cap),.blk gn 64 (cap*3) ((L).flatMap LNd.vals),.star ((L).map (Qw 76))] w)(hnc:L.length<=cap)(hcm:cap<=maxLen)(hP:Rw inV 1 w (fps [.blk bt 128 6 (tbV (j:Int) mo rm (some ⟨gn,0,none⟩) (L).length cap),.blk gn 64 (cap*3) ((L).flatMap LNd.vals),.star ((L).map (Qw 76))]) pa (iN P))(hpl:P.length<=100000)(hok:Qcx mo (pln L) P.reverse)(hroot:RootOk mo rm (XV mo (pln L) P.reverse)):CE 148 #[.pointer (some ⟨bt,0,none⟩),.slice pa P.length pc] w (fps [.blk bt 128 6 (tbV (j:Int) mo rm (some ⟨gn,0,none⟩) (L).length cap),.blk gn 64 (cap*3) ((L).flatMap LNd.vals),.star ((L).map (Qw 76))]) (λg:(Nat×Nat)×List LNd=>.tuple #[]) (λg=>(pln g.2=Qej mo rm (pln L) P.reverse/\g.2.length<=g.1.2/\g.1.2<=maxLen)) λg=>[.blk bt 128 6 (tbV (j:Int) mo rm (some ⟨g.1.1,0,none⟩) (g.2).length g.1.2),.blk g.1.1 64 (g.1.2*3) ((g.2).flatMap LNd.vals),.star ((g.2).map (Qw 76))]:=by
 refine eW2 Tryz.func148 Tryz.ntmps148 hw ?_
 refine aU2 ?_
 refine oBx λb1 _=>?_
 refine aU5 ?_
 refine oCh rfl (λw1 h1=>c189 w1 pa P.length pc) (λb2 _=>aU2 ?_)
 refine Qho (G:=(Nat×Nat)×List LNd) (Bs:=λg=>[.blk bt 128 6 (tbV (j:Int) mo rm (some ⟨g.1.1,0,none⟩) (g.2).length g.1.2),.blk g.1.1 64 (g.1.2*3) ((g.2).flatMap LNd.vals),.star ((g.2).map (Qw 76)),.blk b1 118 1 [.pointer (some ⟨bt,0,none⟩)],.blk b2 52 1 [.slice pa P.length pc],.pure (pln (g.2)=XV mo (pln L) (P.reverse.take P.length)/\Qcx mo (pln (g.2)) (P.reverse.drop P.length)/\(g.2).length<=g.1.2/\g.1.2<=maxLen)]) rfl rfl rfl QpW (λfid D l a9 w1 ob hob ha9 hw1=>?_) (λD x=>?_)
 ·skip
  refine(c207 w1 w (fps [.blk bt 128 6 (tbV (j:Int) mo rm (some ⟨gn,0,none⟩) (L).length cap),.blk gn 64 (cap*3) ((L).flatMap LNd.vals),.star ((L).map (Qw 76))]) (λk g=>.obj l ob::.obj D (.deferred (some []))::[.blk bt 128 6 (tbV (j:Int) mo rm (some ⟨g.1.1,0,none⟩) (g.2).length g.1.2),.blk g.1.1 64 (g.1.2*3) ((g.2).flatMap LNd.vals),.star ((g.2).map (Qw 76)),.blk b1 118 1 [.pointer (some ⟨bt,0,none⟩)],.blk b2 52 1 [.slice pa P.length pc],.pure (pln (g.2)=XV mo (pln L) (P.reverse.take k)/\Qcx mo (pln (g.2)) (P.reverse.drop k)/\(g.2).length<=g.1.2/\g.1.2<=maxLen)]) ((gn,cap),L) l b2 P pa pc hpl ?_ ?_ (λk g w2 hk h2=>?_)).mono λe w2 hx=>?_
  ·exact(HS.add_pure (p:=pln L=XV mo (pln L) (P.reverse.take 0)/\Qcx mo (pln L) (P.reverse.drop 0)/\L.length<=cap/\cap<=maxLen) ⟨rfl,hok,hnc,hcm⟩ hw1).ent aEt
  ·exactλk g w2 h2=>⟨h2.rd_blk (i:=0) aPk rfl (by simp),hP.later h2⟩
  rotate_left
  ·exact hx
  subst hob
  obtain⟨⟨ga,gc⟩,Lg⟩:=g
  dsimp only at h2
  obtain⟨hg1,hg2,hg3,hg4⟩:=h2.get_pure aPk
  rw[Qnz hk]at hg2
  obtain⟨⟨hi,hsp⟩,hnx⟩:=hg2
  have hst:XV mo (pln L) (P.reverse.take (k+1))=QaZ mo (pln Lg) (nth P (P.length-1-k)):=by rw[Qnv hk,Qlo,<-hg1]
  rw[Qb]at hi
  rw[Qp hi]at hsp
  simp only[LNd.pl]at hsp
  refine Qhy (fn:=Tryz.f148) (As1:=.obj D (.deferred (some []))::[.blk bt 128 6 (tbV (j:Int) mo rm (some ⟨ga,0,none⟩) (Lg).length gc),.blk ga 64 (gc*3) ((Lg).flatMap LNd.vals),.star ((Lg).map (Qw 76)),.blk b1 118 1 [.pointer (some ⟨bt,0,none⟩)],.blk b2 52 1 [.slice pa P.length pc],.pure (pln (Lg)=XV mo (pln L) (P.reverse.take k)/\Qcx mo (pln (Lg)) (P.reverse.drop k)/\(Lg).length<=gc/\gc<=maxLen)]) (L1:=[(5,.int .i64 (((nth P (P.length-1-k)):Nat):Int)),(2,.pointer (some ⟨b1,0,none⟩))]) h2 rfl (FR.round2 ha9 9 10 _ _ rfl rfl) ?_ ?_
  ·skip
   refine aU3 ?_
   exact Qjf () aSx (λw h=>h.ent aEt)
  skip
  refine aU2 ?_
  refine Qg1 (α:=Bool) [11,12,13,14,15,16,17,18,19,20,21,22,23,24,25,26,27,28,29,30] (λx=>[(30,.bool x)]) (λx=>x=true ↔ (0<(nth P (P.length-1-k))/\mo<((nth Lg (nth P (P.length-1-k))).es.length:Int))) ?_ ?_
  ·skip
   refine Qq [] Qx ?_
   refine dP 0 ?_
   refine dP 1 ?_
   refine dP 2 ?_
   apply Q7 13
   ·exact rfl
   ·intro hg3
    have hs4:=hg3;try simp only[dT]at hs4
    refine dQo 3 13 [] hg3 rfl rfl rfl (XO rfl rfl YE aPk rfl) ?_
    refine dPo 4 13 hg3 ?_
    refine dFo 5 13 hg3 ?_
    refine dFo 6 13 hg3 ?_
    refine dQo 7 13 [] hg3 rfl rfl rfl (XO rfl rfl Y9 aPk rfl) ?_
    refine dPo 8 13 hg3 ?_
    refine dVo 9 13 hg3 rfl rfl rfl (Qa rfl rfl rfl QE ((nth P (P.length-1-k))) om om rfl) ?_
    refine Qs (show _=Value.pointer (some ⟨ga,(nth P (P.length-1-k))*3,none⟩)from by rw[Nat.zero_add]) (dFo 10 13 hg3 ?_)
    refine dQo 11 13 [] hg3 rfl rfl rfl (Qn rfl rfl XZ (λw h=>HS.nd_cell hi h aPk 1 rfl (by decide))) ?_
    refine dVo 12 13 hg3 rfl rfl rfl (Qz rfl rfl Tryz.underlying62) ?_
    refine dQo 13 13 [] hg3 rfl rfl rfl (XO rfl rfl YE aPk rfl) ?_
    refine dPo 14 13 hg3 ?_
    refine dFo 15 13 hg3 ?_
    refine dFo 16 13 hg3 ?_
    refine dQo 17 13 [] hg3 rfl rfl rfl (XO rfl rfl Xq aPk rfl) ?_
    refine dPo 18 13 hg3 ?_
    refine dV 19 rfl (Xk rfl rfl hg3 rfl) (dNi ?_)
    exact Qo (decide (((nth Lg (nth P (P.length-1-k))).es.length:Int)>mo)) (by rw[decide_eq_true_eq];omega) aSx (λw h=>h.ent aEt)
   intro hg5
   have hs6:=hg5;try simp only[dN]at hs6
   refine dOf 3 13 hg5 ?_
   refine dOf 4 13 hg5 ?_
   refine dOf 5 13 hg5 ?_
   refine dOf 6 13 hg5 ?_
   refine dOf 7 13 hg5 ?_
   refine dOf 8 13 hg5 ?_
   refine dOf 9 13 hg5 ?_
   refine dOf 10 13 hg5 ?_
   refine dOf 11 13 hg5 ?_
   refine dOf 12 13 hg5 ?_
   refine dOf 13 13 hg5 ?_
   refine dOf 14 13 hg5 ?_
   refine dOf 15 13 hg5 ?_
   refine dOf 16 13 hg5 ?_
   refine dOf 17 13 hg5 ?_
   refine dOf 18 13 hg5 ?_
   refine dV 19 rfl (QW rfl rfl hg5 rfl) (dNi ?_)
   exact Qo false (by constructor<;>intro h9<;>first|(cases h9;done)|omega) aSx (λw h=>h.ent aEt)
  intro x hx
  refine sCd rfl (λh7=>?_) λh7=>?_
  ·obtain⟨hpos,hbig⟩:=hx.1 (by assumption)
   refine aU3 ?_
   refine o_h (QT (Cs:=[.blk bt 128 6 (tbV (j:Int) mo rm (some ⟨ga,0,none⟩) (Lg).length gc),.blk ga 64 (gc*3) ((Lg).flatMap LNd.vals),.star ((Lg).map (Qw 76))]) rfl QmW rfl aPs (λw1 h1 hf=>c190 w1 bt j mo rm ga gc Lg (nth P (P.length-1-k)) hf hg3 hg4 (hsp hpos hbig))) rfl (λ⟨⟨g5,c5⟩,L5⟩hF5=>aU2 ?_)
   exact QaA rfl aPk (λw h=>⟨((g5,c5),L5),rfl,trivial,by exact(HS.add_pure (p:=pln L5=XV mo (pln L) (P.reverse.take (k+1))/\Qcx mo (pln L5) (P.reverse.drop (k+1))/\L5.length<=c5/\c5<=maxLen) ⟨by rw[hst,QaZ,if_pos ⟨hpos,by rw[Qp hi];exact hbig⟩];exact hF5.1,by have h9:=hnx;rw[QaZ,if_pos ⟨hpos,by rw[Qp hi];exact hbig⟩]at h9;rw[hF5.1];exact h9,hF5.2.1,hF5.2.2⟩ h).ent aEt⟩)
  have hno:¬(0<(nth P (P.length-1-k))/\mo<((nth Lg (nth P (P.length-1-k))).es.length:Int)):=λh9=>by have h8:=hx.2 h9;simp_all
  refine aU2 ?_
  exact QaA rfl aPk (λw h=>⟨((ga,gc),Lg),rfl,trivial,by exact(HS.add_pure (p:=pln Lg=XV mo (pln L) (P.reverse.take (k+1))/\Qcx mo (pln Lg) (P.reverse.drop (k+1))/\Lg.length<=gc/\gc<=maxLen) ⟨by rw[hst,QaZ,if_neg (by rw[Qp hi];exact hno)],by have h9:=hnx;rw[QaZ,if_neg (by rw[Qp hi];exact hno)]at h9;exact h9,hg3,hg4⟩ h).ent aEt⟩)
 skip
 obtain⟨⟨ga,gc⟩,LG⟩:=x
 dsimp only
 refine X0 (λw h=>h.get_pure aPk) λhpu=>?_
 obtain⟨hLG,_,hg3,hg4⟩:=hpu
 rw[show P.length=P.reverse.length from(List.length_reverse ..).symm,List.take_length]at hLG
 have hiG:0<LG.length:=by rw[<-Qb,hLG];exact hroot.lt
 have hlG:=hroot.len
 rw[<-hLG,Qb]at hlG
 refine aU2 ?_
 refine Qq [] Qx ?_
 refine dLd 0 [] ?_
 refine dP 1 ?_
 refine dFa 2 ?_
 refine dFa 3 ?_
 refine dLd 4 [] ?_
 refine dV 5 rfl (Qa rfl rfl rfl QE (0) om om rfl) (Qs (show _=Value.pointer (some ⟨ga,0*3,none⟩)from by rw[Nat.zero_add]) (dFa 6 ?_))
 refine dQ 7 [] rfl (Qn rfl rfl XZ (λw h=>HS.nd_cell hiG h aPk 1 rfl (by decide))) (dV 8 rfl (Qz rfl rfl Tryz.underlying62) (dLd 9 [] ?_))
 refine dP 10 ?_
 refine dFa 11 ?_
 refine dFa 12 ?_
 refine dLd 13 [] ?_
 refine dP 14 ?_
 refine dNi ?_
 refine sCd rfl (λh8=>?_) λh8=>?_
 ·have hbigR:rm<((nth (pln LG) 0).es.length:Int):=by rw[Qp hiG];exact h8
  refine aU3 ?_
  refine o_h (QT (Cs:=[.blk bt 128 6 (tbV (j:Int) mo rm (some ⟨ga,0,none⟩) (LG).length gc),.blk ga 64 (gc*3) ((LG).flatMap LNd.vals),.star ((LG).map (Qw 76))]) rfl Qp8 rfl aPs (λw1 h1 hf=>c191 w1 bt j mo rm ga gc LG hf hg3 hg4 hiG om (by rw[hLG];exact hroot.us))) rfl (λ⟨⟨g6,c6⟩,L6⟩hF6=>?_)
  dsimp only
  obtain⟨hL6,hn6,hm6⟩:=hF6
  simp only[]at hL6 hn6 hm6
  have ho6:(QK (pln LG)).1<L6.length:=by rw[<-Qb,hL6,hLG];exact Qo3 _
  refine aU3 ?_
  refine Qq [] Qx ?_
  refine dLd 0 [] ?_
  refine dP 1 ?_
  refine dFa 2 ?_
  refine dFa 3 ?_
  refine dLd 4 [] ?_
  refine dP 5 ?_
  refine dV 6 rfl (Qa rfl rfl rfl QE ((QK (pln LG)).1) om om rfl) (Qs (show _=Value.pointer (some ⟨g6,(QK (pln LG)).1*3,none⟩)from by rw[Nat.zero_add]) (dFa 7 ?_))
  refine dQ 8 [] rfl (Qn rfl rfl XZ (λw h=>HS.nd_cell ho6 h aPk 1 rfl (by decide))) (dV 9 rfl (Qz rfl rfl Tryz.underlying62) (dLd 10 [] ?_))
  refine dP 11 ?_
  refine dFa 12 ?_
  refine dFa 13 ?_
  refine dLd 14 [] ?_
  refine dP 15 ?_
  refine dNi ?_
  refine sCd rfl (λh9=>?_) λh9=>?_
  ·have hbig2:mo<((nth (pln L6) (QK (pln LG)).1).es.length:Int):=by rw[Qp ho6];exact h9
   refine Qg (L':=[(2,_),(6,_)]) aSx (λ_ h=>h) ?_
   refine aU3 ?_
   refine o_h (QT (Cs:=[.blk bt 128 6 (tbV (j:Int) mo rm (some ⟨g6,0,none⟩) (L6).length c6),.blk g6 64 (c6*3) ((L6).flatMap LNd.vals),.star ((L6).map (Qw 76))]) rfl QmW rfl aPs (λw1 h1 hf=>c190 w1 bt j mo rm g6 c6 L6 (QK (pln LG)).1 hf hn6 hm6 (by rw[hL6,hLG];exact hroot.spl (by rw[<-hLG];exact hbigR) (by rw[<-hLG,<-hL6];exact hbig2)))) rfl (λ⟨⟨g7,c7⟩,L7⟩hF7=>aU ?_)
   exact Qjh rfl aPk (λw' h'=>by first|exact⟨((g7,c7),L7),rfl,⟨by rw[Qej,<-hLG,Qan,if_pos hbigR,if_pos (by rw[<-hL6];exact hbig2),<-hL6];exact hF7.1,hF7.2.1,hF7.2.2⟩,h'.ent aEt⟩|exact⟨((g6,c6),L6),rfl,⟨by rw[Qej,<-hLG,Qan,if_pos hbigR,if_neg (by rw[<-hL6];exact hbig2n),<-hL6],hn6,hm6⟩,h'.ent aEt⟩|exact⟨((ga,gc),LG),rfl,⟨by rw[Qej,<-hLG,Qan,if_neg hsmR],hg3,hg4⟩,h'.ent aEt⟩)
  have hbig2n:¬mo<((nth (pln L6) (QK (pln LG)).1).es.length:Int):=by rw[Qp ho6];have hq:=h9;simp only[LNd.pl];omega
  refine aU ?_
  exact Qjh rfl aPk (λw' h'=>by first|exact⟨((g7,c7),L7),rfl,⟨by rw[Qej,<-hLG,Qan,if_pos hbigR,if_pos (by rw[<-hL6];exact hbig2),<-hL6];exact hF7.1,hF7.2.1,hF7.2.2⟩,h'.ent aEt⟩|exact⟨((g6,c6),L6),rfl,⟨by rw[Qej,<-hLG,Qan,if_pos hbigR,if_neg (by rw[<-hL6];exact hbig2n),<-hL6],hn6,hm6⟩,h'.ent aEt⟩|exact⟨((ga,gc),LG),rfl,⟨by rw[Qej,<-hLG,Qan,if_neg hsmR],hg3,hg4⟩,h'.ent aEt⟩)
 have hsmR:¬rm<((nth (pln LG) 0).es.length:Int):=by rw[Qp hiG];have hq:=h8;simp only[LNd.pl];omega
 refine aU ?_
 exact Qjh rfl aPk (λw' h'=>by first|exact⟨((g7,c7),L7),rfl,⟨by rw[Qej,<-hLG,Qan,if_pos hbigR,if_pos (by rw[<-hL6];exact hbig2),<-hL6];exact hF7.1,hF7.2.1,hF7.2.2⟩,h'.ent aEt⟩|exact⟨((g6,c6),L6),rfl,⟨by rw[Qej,<-hLG,Qan,if_pos hbigR,if_neg (by rw[<-hL6];exact hbig2n),<-hL6],hn6,hm6⟩,h'.ent aEt⟩|exact⟨((ga,gc),LG),rfl,⟨by rw[Qej,<-hLG,Qan,if_neg hsmR],hg3,hg4⟩,h'.ent aEt⟩)
instance:TFn Tryz.prog 68:=⟨by kernel_rfl⟩
theorem Qqa:QH Tryz.prog 148=true:=by kernel_rfl
set_option maxHeartbeats 4000000 in
theorem c112(w:World)(bt:Nat)(j:Nat)(mo rm:Int)(gn cap:Nat)(L:List LNd)(x:TEnt)(hw:HS w (fps [.blk bt 128 6 (tbV (j:Int) mo rm (some ⟨gn,0,none⟩) (L).length cap),.blk gn 64 (cap*3) ((L).flatMap LNd.vals),.star ((L).map (Qw 76))]) [.blk bt 128 6 (tbV (j:Int) mo rm (some ⟨gn,0,none⟩) (L).length cap),.blk gn 64 (cap*3) ((L).flatMap LNd.vals),.star ((L).map (Qw 76))] w)(hnc:L.length<=cap)(hcm:cap<=maxLen)(hj:j<=3)(h0:0<L.length)(hB:Bd (pln L))(hT:TOk (j:Int) (pln L))(hk:QS (j:Int) x.key=true)(hok:¬(Qh (j:Int) (pln L) x.key).2.2=true->InsOk (j:Int) mo rm (pln L) x):CE 112 #[.pointer (some ⟨bt,0,none⟩),.agg #[.string (bs x.key),.string (bs x.val)]] w (fps [.blk bt 128 6 (tbV (j:Int) mo rm (some ⟨gn,0,none⟩) (L).length cap),.blk gn 64 (cap*3) ((L).flatMap LNd.vals),.star ((L).map (Qw 76))]) (λg:(Nat×Nat)×List LNd=>.int .i64 (Qgf (j:Int) mo rm (pln L) x)) (λg=>(pln g.2=Z1 (j:Int) mo rm (pln L) x/\g.2.length<=g.1.2/\g.1.2<=maxLen)) λg=>[.blk bt 128 6 (tbV (j:Int) mo rm (some ⟨g.1.1,0,none⟩) (g.2).length g.1.2),.blk g.1.1 64 (g.1.2*3) ((g.2).flatMap LNd.vals),.star ((g.2).map (Qw 76))]:=by
 have hK:∀i,i<L.length->∀y∈(nth L i).es,QS (j:Int) y.key=true/\y.key.length<=1000000:=λi hi y hy=>Qa5 hT i (by rw[Qb];exact hi) y (by rw[Qp hi];exact hy)
 have hkl:x.key.length<=1000000:=by have:=QdD hk;omega
 refine eW2 Tryz.func112 Tryz.ntmps112 hw ?_
 refine aU2 ?_
 refine oBx λb1 _=>?_
 refine aU7 ?_
 refine oCh rfl (λw1 h1=>c68 w1 bt j mo rm (some ⟨gn,0,none⟩) cap L x.key hj h0 hB hT hK hk hkl (HS.nt_at h1 aPk aPk) (HS.tbr h1 aPk)) (λ⟨pa,pc⟩_=>?_)
 dsimp only
 refine Z5 ?_
 refine sCd rfl (λh2=>?_) λh2=>?_
 ·have hfd:(Qh (j:Int) (pln L) x.key).2.2=true:=h2
  refine aU4 ?_
  exact rT rfl rfl (λw' h'=>⟨((gn,cap),L),by simp only[QV];rw[Qgf,if_pos hfd],⟨by simp only[];rw[Z1,if_pos hfd],hnc,hcm⟩,h'.ent aEt⟩)
 have hfd:¬(Qh (j:Int) (pln L) x.key).2.2=true:=by have hq:=h2;simp[hq]
 have hk9:=hok hfd
 have hne:=hk9.ne
 have hlen9:=hk9.len
 have hlf:=hk9.lf
 rw[Qb]at hlf
 have hpl:=hk9.pl
 rw[Qp hlf]at hpl
 have hes9:=hk9.es
 rw[Qp hlf]at hes9
 simp only[LNd.pl]at hpl hes9
 have hpn:(Qh (j:Int) (pln L) x.key).1.length-1<(Qh (j:Int) (pln L) x.key).1.length:=om
 refine X0 (λw h=>HS.kids_some (by rw[QcX];omega) h aPk) λhpa=>?_
 obtain⟨gp,hpa⟩:=hpa
 refine aU2 ?_
 refine Qq [] Qx ?_
 refine dP 0 ?_
 refine dP 1 ?_
 refine dFa 2 ?_
 refine dFa 3 ?_
 refine dLd 4 [] ?_
 refine dP 5 ?_
 refine dP 6 ?_
 refine dV 7 rfl (Qz rfl rfl Tryz.underlying52) (dP 8 ?_)
 try refine dWr ?_
 refine dV 9 rfl (Qa rfl rfl rfl QB ((Qh (j:Int) (pln L) x.key).1.length-1) om om hpa) (dQ 10 [] rfl (Qn rfl rfl Xq (λw h=>HS.path_rd hpn hpa h aPk)) (Qs (show _=Value.int .i64 (((YX (j:Int) (pln L) x.key):Nat):Int)from rfl) (dV 11 rfl (Qa rfl rfl rfl QE ((YX (j:Int) (pln L) x.key)) om om rfl) (Qs (show _=Value.pointer (some ⟨gn,(YX (j:Int) (pln L) x.key)*3,none⟩)from by rw[Nat.zero_add]) (dP 12 ?_)))))
 refine dNi ?_
 refine aU ?_
 refine Zl (λw h=>HS.es_take hlf h aPk) (Qq [8,11] Qx ?_)
 refine dP 0 ?_
 refine dP 1 ?_
 refine dP 2 ?_
 refine dFa 3 ?_
 refine dQ 4 [[],[]] rfl (Qn rfl rfl XZ (λw h=>HS.nd_cell hlf h aPk 1 rfl (by decide))) (dP 5 ?_)
 refine dLn 6 [[7],[]] ?_
 refine dH 7 rfl (Qd (cs:=[_,_]) rfl rfl QL Xi rfl rfl rfl) (λb3 _=>dBa ?_)
 refine dH 8 rfl (QT (Cs:=[.own (.slice ((nth L (YX (j:Int) (pln L) x.key))).ea ((nth L (YX (j:Int) (pln L) x.key))).es.length ((nth L (YX (j:Int) (pln L) x.key))).ec) 76 2 ((nth L (YX (j:Int) (pln L) x.key))).es.length (((nth L (YX (j:Int) (pln L) x.key))).es.flatMap TEnt.vals),.blk b3 76 2 (TEnt.vals x)]) rfl Qm7 rfl aPs (λw1 h1 hf=>Qpy w1 (nth L (YX (j:Int) (pln L) x.key)).ea (Qh (j:Int) (pln L) x.key).2.1 (nth L (YX (j:Int) (pln L) x.key)).ec (nth L (YX (j:Int) (pln L) x.key)).es x b3 1 2 hf om hpl)) (λb4 _=>dTu [11] ?_)
 refine dP 9 ?_
 refine dFa 10 ?_
 refine dSt 11 ?_ (hl:=(by rw[Qj nv3];show _+1<=_;omega))
 refine dTu [] ?_
 refine dNi ?_
 refine aU ?_
 refine Qg (L':=[(0,_),(4,_),(5,_)]) aSx (λ_ h=>h) ?_
 refine aU2 ?_
 refine Qdd (λw h=>HS.es_setB (gn:=gn) (cap:=cap) (ea:=b4.1) (ec:=b4.2) (es:=QF (nth L (YX (j:Int) (pln L) x.key)).es (Qh (j:Int) (pln L) x.key).2.1 x) hlf h aPk aPk aPk) λL2=>?_
 refine Xo (λw h=>h.1) λhS2=>Q6 (λw h=>h.2) ?_
 have hL2:pln L2=Qjn (j:Int) (pln L) x:=by rw[hS2.es,Qjn,Qp hlf];rfl
 refine Q6 (C':=HS w (fps [.blk bt 128 6 (tbV (j:Int) mo rm (some ⟨gn,0,none⟩) (L).length cap),.blk gn 64 (cap*3) ((L).flatMap LNd.vals),.star ((L).map (Qw 76))]) [.blk bt 128 6 (tbV (j:Int) mo rm (some ⟨gn,0,none⟩) (L2).length cap),.blk gn 64 (cap*3) ((L2).flatMap LNd.vals),.star ((L2).map (Qw 76)),.kids pa pc (iN (Qh (j:Int) (pln L) x.key).1)]) (λw2 h=>by rw[hS2.len];exact h.ent aEt) (aU ?_)
 refine o_h (QT (Cs:=[.blk bt 128 6 (tbV (j:Int) mo rm (some ⟨gn,0,none⟩) (L2).length cap),.blk gn 64 (cap*3) ((L2).flatMap LNd.vals),.star ((L2).map (Qw 76))]) rfl Qqa rfl aPs (λw1 h1 hf=>c148 w1 bt j mo rm gn cap L2 (Qh (j:Int) (pln L) x.key).1 pa pc hf (by rw[hS2.len];exact hnc) hcm (HS.rw_ownF (n:=(iN (Qh (j:Int) (pln L) x.key).1).length) iv1 h1 aPs aPk rfl) om (by rw[hL2];exact hk9.grw) (by rw[hL2];exact hk9.root))) rfl (λ⟨⟨g5,c5⟩,L5⟩hF5=>?_)
 dsimp only
 obtain⟨hL5,hn5,hm5⟩:=hF5
 simp only[]at hL5 hn5 hm5
 have hI:Z1 (j:Int) mo rm (pln L) x=pln L5:=by rw[Z1,if_neg hfd,hL5,hL2]
 have hIl:(Z1 (j:Int) mo rm (pln L) x).length=L5.length:=by rw[hI,Qb]
 refine YR ?_
 refine oCq rfl (λw1 h1=>QbB w1 _ _) (aU2 ?_)
 exact rT rfl rfl (λw' h'=>⟨((g5,c5),L5),by simp only[QV];congr 2;rw[Qgf,if_neg hfd,hIl];exact(Nat.lt_or_ge 120 L5.length).elim (λh120=>by rw[if_neg om,decide_eq_false om];rfl) (λh120=>by rw[if_pos h120,decide_eq_true om];rfl),⟨hI.symm,hn5,hm5⟩,h'.ent aEt⟩)
instance:TFn Tryz.prog 66:=⟨by kernel_rfl⟩
instance:TFn Tryz.prog 108:=⟨by kernel_rfl⟩
instance:TFn Tryz.prog 69:=⟨by kernel_rfl⟩
theorem c69e(w:World)(co mo rm:Int)(a:Option Addr)(cap:Nat)(L:List LNd)(hs:Nt w [] a L)(hB:Bd (pln L))(hkl:∀i,i<L.length->∀x∈(nth L i).es,x.key.length<=1000000)(he:¬(QZ (⟨co,mo,rm,pln L⟩:Tre)).2=0):CR 69 #[.agg #[.int .i64 co,.int .i64 mo,.int .i64 rm,.slice a L.length cap]] w (.tuple #[.pointer none,.int .i64 (QZ (⟨co,mo,rm,pln L⟩:Tre)).2]):=by
 refine eN1 Tryz.func69 Tryz.ntmps69 ?_
 refine aU2 ?_
 refine oBx λb1 _=>?_
 refine aU7 ?_
 refine oCq rfl (λw1 h1=>c66 w1 co mo rm a cap L (hs.later h1.nil) hB hkl) (YZ ?_)
 refine sCd rfl (λh2=>?_) λh2=>?_
 ·refine aU6 ?_
  exact Qf (rs:=[.tmp 2,.tmp 3]) rfl (.tmp rfl (.tmp rfl (.nil))) (λw' h'=>⟨rfl,h'.below⟩)
 exfalso;first|omega|(simp at h2;done)|(simp_all;done)
theorem c69o(w:World)(j:Nat)(mo rm:Int)(a:Option Addr)(cap:Nat)(L:List LNd)(hs:Nt w [] a L)(hB:Bd (pln L))(hkl:∀i,i<L.length->∀x∈(nth L i).es,x.key.length<=1000000)(h0:(QZ (⟨(j:Int),mo,rm,pln L⟩:Tre)).2=0):CE 69 #[.agg #[.int .i64 (j:Int),.int .i64 mo,.int .i64 rm,.slice a L.length cap]] w [] (λg:Nat×(Nat×Nat)×List LNd=>.tuple #[.pointer (some ⟨g.1,0,none⟩),.int .i64 (0)]) (λg=>(pln g.2.2=pln L/\g.2.2.length<=g.2.1.2/\g.2.1.2<=maxLen)) λg=>[.blk g.1 128 6 (tbV (j:Int) mo rm (some ⟨g.2.1.1,0,none⟩) (g.2.2).length g.2.1.2),.blk g.2.1.1 64 (g.2.1.2*3) ((g.2.2).flatMap LNd.vals),.star ((g.2.2).map (Qw 76))]:=by
 obtain⟨hc0,hz0,hl0,hl120,hn0,_,_⟩:=ZQ h0
 rw[show((⟨(j:Int),mo,rm,pln L⟩:Tre)).ns=pln L from rfl,Qb]at hl0 hl120
 have hj:j<=3:=by obtain⟨j9,e9,hj9⟩:=QbO hc0;have e8:((j:Nat):Int)=(j9:Int):=e9;omega
 have hT:TOk (j:Int) (pln L):=QaK (t:=(⟨(j:Int),mo,rm,pln L⟩:Tre)) hn0
 have hmo:=(QaN hz0).1
 simp only[]at hmo
 refine eN1 Tryz.func69 Tryz.ntmps69 ?_
 refine aU2 ?_
 refine oBx λb1 _=>?_
 refine aU7 ?_
 refine oCq rfl (λw1 h1=>c66 w1 (j:Int) mo rm a cap L (hs.later h1.nil) hB hkl) (YZ ?_)
 refine sCd rfl (λh2=>?_) λh2=>?_
 ·exfalso;first|omega|(simp at h2;done)|(simp_all;done)
 refine aU4 ?_
 refine oCh rfl (λw1 h1=>QqR w1 j mo rm a cap L (hs.later h1.nil) hB hj hl0) (λ⟨b9,⟨a9,c9⟩,L9⟩hF9=>?_)
 dsimp only
 refine aU3 ?_
 exact Qf (rs:=[.tmp 2,.tmp 3]) rfl (.tmp rfl (.tmp rfl (.nil))) (λw' h'=>by obtain⟨g9,rfl,hl9,hm9,h2⟩:=Qai (by rw[<-Qb,hF9,Qb];exact hl0) h' aPk;exact⟨(b9,(g9,c9),L9),rfl,⟨hF9,hl9,hm9⟩,h2.ent aEt⟩)
theorem c67e(w:World)(co mo rm:Int)(a:Option Addr)(cap:Nat)(L:List LNd)(key:List UInt8)(hs:Nt w [] a L)(hB:Bd (pln L))(hkl:∀i,i<L.length->∀x∈(nth L i).es,x.key.length<=1000000)(he:¬(QZ (⟨co,mo,rm,pln L⟩:Tre)).2=0):CR 67 #[.agg #[.int .i64 co,.int .i64 mo,.int .i64 rm,.slice a L.length cap],.string (bs key)] w (.tuple #[.pointer none,.int .i64 (QZ (⟨co,mo,rm,pln L⟩:Tre)).2]):=by
 refine eN2 Tryz.func67 Tryz.ntmps67 ?_
 refine aU2 ?_
 refine oBx λb1 _=>?_
 refine aU6 ?_
 refine oCq rfl (λw1 h1=>c69e w1 co mo rm a cap L (hs.later h1.nil) hB hkl he) (Y1 ?_)
 refine sCd rfl (λh2=>?_) λh2=>?_
 ·exfalso;first|omega|(simp at h2;done)|(simp_all;done)
 refine aU8 ?_
 exact Qf (rs:=[.tmp 4,.tmp 5]) rfl (.tmp rfl (.tmp rfl (.nil))) (λw' h'=>⟨rfl,h'.below⟩)
theorem QpN(w:World)(j:Nat)(mo rm:Int)(a:Option Addr)(cap:Nat)(L:List LNd)(key:List UInt8)(hs:Nt w [] a L)(hB:Bd (pln L))(hkl:∀i,i<L.length->∀x∈(nth L i).es,x.key.length<=1000000)(hkk:key.length<=1000000)(h0:(QZ (⟨(j:Int),mo,rm,pln L⟩:Tre)).2=0):CE 67 #[.agg #[.int .i64 (j:Int),.int .i64 mo,.int .i64 rm,.slice a L.length cap],.string (bs key)] w [] (λg:Nat×(Nat×Nat)×List LNd=>.tuple #[.pointer (some ⟨g.1,0,none⟩),.int .i64 (YU (j:Int) key)]) (λg=>(pln g.2.2=pln L/\g.2.2.length<=g.2.1.2/\g.2.1.2<=maxLen)) λg=>[.blk g.1 128 6 (tbV (j:Int) mo rm (some ⟨g.2.1.1,0,none⟩) (g.2.2).length g.2.1.2),.blk g.2.1.1 64 (g.2.1.2*3) ((g.2.2).flatMap LNd.vals),.star ((g.2.2).map (Qw 76))]:=by
 obtain⟨hc0,hz0,hl0,hl120,hn0,_,_⟩:=ZQ h0
 rw[show((⟨(j:Int),mo,rm,pln L⟩:Tre)).ns=pln L from rfl,Qb]at hl0 hl120
 have hj:j<=3:=by obtain⟨j9,e9,hj9⟩:=QbO hc0;have e8:((j:Nat):Int)=(j9:Int):=e9;omega
 have hT:TOk (j:Int) (pln L):=QaK (t:=(⟨(j:Int),mo,rm,pln L⟩:Tre)) hn0
 have hmo:=(QaN hz0).1
 simp only[]at hmo
 refine eN2 Tryz.func67 Tryz.ntmps67 ?_
 refine aU2 ?_
 refine oBx λb1 _=>?_
 refine aU6 ?_
 refine oCh rfl (λw1 h1=>c69o w1 j mo rm a cap L (hs.later h1.nil) hB hkl h0) (λg9 hF9=>Y1 ?_)
 refine sCd rfl (λh2=>?_) λh2=>?_
 ·refine aU4 ?_
  refine oCq rfl (λw1 h1=>c121 w1 j key hj hkk) (aU9 ?_)
  exact Qf (rs:=[.tmp 4,.tmp 5]) rfl (.tmp rfl (.tmp rfl (.nil))) (λw' h'=>⟨g9,rfl,hF9,h'.ent aEt⟩)
 exfalso;first|omega|(simp at h2;done)|(simp_all;done)
theorem Qrj:QH Tryz.prog 37=true:=by kernel_rfl
theorem QrS:QH Tryz.prog 38=true:=by kernel_rfl
theorem c37(w:World)(a:Option Addr)(cap:Nat)(l:List TEnt)(hs:Rw TEnt.vals 2 w [] a l)(hl:l.length<=100000):CE 37 #[.slice a l.length cap] w [] (λg:Option Addr×Nat=>.slice g.1 l.length g.2) (λg=>True) λg=>[.own (.slice g.1 l.length g.2) 76 2 l.length (l.flatMap TEnt.vals)]:=by
 refine eN1 Tryz.func37 Tryz.ntmps37 ?_
 refine aU6 ?_
 refine o_h (Q9 rfl QL) rfl (λb1 _=>aU ?_)
 refine o_h (Qy (l.flatMap TEnt.vals) rfl rfl rfl QL Tryz.underlying62 Xi rfl aPk (λw h=>Rw.src ev2 hs h) (Qj ev2 _) (Xu ev1 _) om (by simp only[maxLen];omega)) rfl (λb2 _=>aU2 ?_)
 exact rT rfl rfl (λw' h'=>⟨b2,by simp only[QV,Nat.zero_add],trivial,by have h2:=h';simp only[Nat.zero_add,List.nil_append]at h2;exact h2.ent aEt⟩)
theorem c38(w:World)(a:Option Addr)(cap:Nat)(l:List Int)(hs:Rw inV 1 w [] a l)(hl:l.length<=100000):CE 38 #[.slice a l.length cap] w [] (λg:Option Addr×Nat=>.slice g.1 l.length g.2) (λg=>True) λg=>[.own (.slice g.1 l.length g.2) 3 1 l.length (l.flatMap inV)]:=by
 refine eN1 Tryz.func38 Tryz.ntmps38 ?_
 refine aU6 ?_
 refine o_h (Q9 rfl QB) rfl (λb1 _=>aU ?_)
 refine o_h (Qy (l.flatMap inV) rfl rfl rfl QB Tryz.underlying52 Yo rfl aPk (λw h=>Rw.src iv1 hs h) (Qj iv1 _) (Xu QgZ _) om (by simp only[maxLen];omega)) rfl (λb2 _=>aU2 ?_)
 exact rT rfl rfl (λw' h'=>⟨b2,by simp only[QV,Nat.zero_add],trivial,by have h2:=h';simp only[Nat.zero_add,List.nil_append]at h2;exact h2.ent aEt⟩)
theorem c11(w:World)(co mo rm:Int)(a:Option Addr)(cap:Nat)(L:List LNd)(hs:Nt w [] a L)(hl:L.length<=1000)(hsm:Sm 1000 (pln L)):CE 11 #[.agg #[.int .i64 co,.int .i64 mo,.int .i64 rm,.slice a L.length cap]] w [] (λg:(Option Addr×Nat)×List LNd=>.agg #[.int .i64 co,.int .i64 mo,.int .i64 rm,.slice g.1.1 g.2.length g.1.2]) (λg=>pln g.2=pln L) λg=>[.nodes 76 64 g.1.1 g.1.2 g.2]:=by
 refine eN1 Tryz.func11 Tryz.ntmps11 ?_
 refine aU2 ?_
 refine oBx λb1 _=>?_
 refine oAl (λb2 _=>?_) Xw
 refine aU9 ?_
 refine o_p (QD (cs:=[_,_,_,_]) rfl rfl Qed Xw rfl) rfl (oAl (λb3 _=>?_) Xw)
 refine aU8 ?_
 refine Qt (α:=Nat×(Option Addr×Nat)×List LNd) [4,5,13,14,15,16,17,18,19,20,21,22,23,24,25,26,27,28,29,30,31,32,33,34,35,36,37,38] (λx=>[(4,.int .i64 (x.1:Int))]) (λx=>HS w [] [.own (.slice x.2.1.1 (x.2.2).length x.2.1.2) 64 3 (x.2.2).length ((x.2.2).flatMap LNd.vals),.star ((x.2.2).map (Qw 76)),.blk b3 27 4 [.int .i64 co,.int .i64 mo,.int .i64 rm,.slice x.2.1.1 (x.2.2).length x.2.1.2],.blk b2 27 4 [.int .i64 0,.int .i64 0,.int .i64 0,.slice none 0 0],.blk b1 27 4 [.int .i64 co,.int .i64 mo,.int .i64 rm,.slice a L.length cap]]) (λx=>x.1<=L.length/\x.2.2.length=x.1/\pln x.2.2=(pln L).take x.1) (λx=>L.length-x.1) (0,(none,0),[]) ⟨Nat.zero_le _,rfl,rfl⟩ aSx (λw h=>((h.own_nil 64 3).star_nil).ent aEt) (λ⟨k,⟨ga,gc⟩,D⟩hx=>?_)
 dsimp only
 obtain⟨hk1,hk2,hk3⟩:=hx
 simp only[]at hk1 hk2 hk3
 refine aU9 ?_
 refine sCd rfl (λh4=>?_) λh4=>?_
 ·have hkl:k<L.length:=by omega
  have hsk:=hsm k
  rw[Qp hkl]at hsk
  simp only[LNd.pl]at hsk
  refine aU8 ?_
  refine o_p (Qa rfl rfl rfl QE (k) om om (Rw.some hs.1 om)) rfl (o_q (Qu _ rfl rfl Y5 rfl (Rw.rd hs.1 hkl)) rfl (oAl (λb5 _=>?_) XY))
  refine aU2 ?_
  refine Qq [12,14] Qx ?_
  refine dFa 0 ?_
  refine dLd 1 [[],[]] ?_
  refine dFa 2 ?_
  refine dLd 3 [[11,10],[]] ?_
  refine dFa 4 ?_
  refine dLd 5 [[9,6],[]] ?_
  refine dFa 7 ?_
  refine dLd 8 [[9],[]] ?_
  refine dH 6 rfl (Q3 rfl Qrj rfl (λw1 h1=>c37 w1 (nth L k).ea (nth L k).ec (nth L k).es ((hs.es hkl).later h1) om)) (λb6 _=>dBa ?_)
  refine dH 9 rfl (Q3 rfl QrS rfl (λw1 h1=>c38 w1 (nth L k).ca (nth L k).cc (nth L k).cs ((hs.cs hkl).later h1) om)) (λb7 _=>dBa ?_)
  refine dV 10 rfl (QD (cs:=[_,_,_]) rfl rfl Qf3 XY rfl) (dH 11 rfl (Qd (cs:=[_,_,_]) rfl rfl QE XY rfl rfl rfl) (λb8 _=>dBa ?_))
  refine dH 12 rfl (Qy (LNd.vals (⟨(nth L k).us,b6.1,b6.2,(nth L k).es,b7.1,b7.2,(nth L k).cs⟩:LNd)) rfl rfl rfl QE Tryz.underlying25 XY rfl aPk (Q5 aPk) rfl (nv1 _) om (by simp only[maxLen];omega)) (λb9 _=>dTu [14] ?_)
  refine dFa 13 ?_
  refine dSt 14 ?_ (hl:=(by simp only[Qe,List.length_set,List.length_cons,List.length_nil,List.length_map];omega))
  refine dTu [] ?_
  refine dNi ?_
  refine aU ?_
  refine Qg (L':=[(0,_),(1,_),(2,_),(3,_),(4,_),(6,_),(7,_),(8,_),(9,_),(10,_),(11,_),(12,_)]) aSx (λ_ h=>h) ?_
  refine aT3 ?_
  refine aU2 ?_
  exact QR (k+1,(b9.1,b9.2),D++[⟨(nth L k).us,b6.1,b6.2,(nth L k).es,b7.1,b7.2,(nth L k).cs⟩]) (by(try simp only[]);omega) ⟨by(try simp only[]);omega,by simp[hk2],Qij hkl hk3 rfl⟩ aSx (λw h=>by have h2:=HS.sub_app (sub:=Qw 76) (l:=D) (x:=(⟨(nth L k).us,b6.1,b6.2,(nth L k).es,b7.1,b7.2,(nth L k).cs⟩:LNd)) (HS.star_close (Bs:=[_,_]) (h.ent (Bs:=[.own (.slice b6.1 (nth L k).es.length b6.2) 76 2 (nth L k).es.length ((nth L k).es.flatMap TEnt.vals),.own (.slice b7.1 (nth L k).cs.length b7.2) 3 1 (nth L k).cs.length ((nth L k).cs.flatMap inV),.star (D.map (Qw 76)),.own (.slice b9.1 (D.length+1) b9.2) 64 3 (D.length+1) (D.flatMap LNd.vals++LNd.vals (⟨(nth L k).us,b6.1,b6.2,(nth L k).es,b7.1,b7.2,(nth L k).cs⟩:LNd)),.blk b3 27 4 [.int .i64 co,.int .i64 mo,.int .i64 rm,.slice b9.1 (D.length+1) b9.2],.blk b2 27 4 [.int .i64 0,.int .i64 0,.int .i64 0,.slice none 0 0],.blk b1 27 4 [.int .i64 co,.int .i64 mo,.int .i64 rm,.slice a L.length cap]]) aEt));simp only[List.length_append,List.length_singleton,List.flatMap_append,List.flatMap_singleton];exact h2.ent aEt)
 obtain rfl:k=L.length:=om
 have hD:pln D=pln L:=by rw[hk3,<-Qb L,List.take_length]
 refine Qi rfl ?_
 refine aU5 ?_
 exact Qf (rs:=[.cell 2 27]) rfl (.cell rfl Yf aPk rfl (.nil)) (λw' h'=>⟨((ga,gc),D),by simp only[QV];rw[hk2];rfl,hD,by have h3:=HS.row_shut (a:=ga) (cap:=gc) (l:=D) (sub:=Qw 76) (t:=64) (sz:=3) (vals:=LNd.vals) (h'.ent (Bs:=[.own (.slice ga D.length gc) 64 3 D.length (D.flatMap LNd.vals),.star (D.map (Qw 76))]) aEt) rfl rfl;exact h3⟩)
theorem QdG:QH Tryz.prog 127=true:=by kernel_rfl
theorem c25(w:World)(a b:Option Addr)(c d:Nat)(l m:List Int)(hs:Rw inV 1 w [] a l)(ht:Rw inV 1 w [] b m)(hl:l.length<=100000)(hm:m.length<=100000):CR 25 #[.slice a l.length c,.slice b m.length d] w (.bool (decide (l=m))):=by
 refine eN2 Tryz.func25 Tryz.ntmps25 ?_
 refine Z5 ?_
 refine sCd rfl (λh1=>?_) λh1=>?_
 ·have hn9:l≠m:=λe=>by have hq:=h1;rw[e]at hq;simp at hq
  refine aU4 ?_
  exact rV (h:=by rw[decide_eq_false hn9];rfl)
 have hlm:l.length=m.length:=by have hq:=h1;omega
 refine aU7 ?_
 refine Qt (α:=Nat) [4,5,11,12,13,14,15,16,17,18,19,20,21,22,23,24,25] (λk=>[(5,.int .i64 (k:Int))]) (λ_=>HS w [] []) (λk=>k<=l.length/\∀j,j<k->nth l j=nth m j) (λk=>l.length-k) 0 ⟨Nat.zero_le _,λj h=>absurd h (Nat.not_lt_zero j)⟩ aSx (λw h=>h.ent aEt) (λk hx=>?_)
 obtain⟨hk1,hk3⟩:=hx
 refine aU8 ?_
 refine sCd rfl (λh2=>?_) λh2=>?_
 ·have hk:k<l.length:=by omega
  have hk2:k<m.length:=om
  refine aU4 ?_
  refine Qq [] Qx ?_
  refine dP 0 ?_
  refine dP 1 ?_
  refine dV 2 rfl (Qa rfl rfl rfl QB (k) om om (Rw.some hs om)) (dQ 3 [] rfl (Qc rfl rfl Xq ((hs.rdj 0 om rfl))) (dP 4 ?_))
  refine dP 5 ?_
  refine dV 6 rfl (Qa rfl rfl rfl QB (k) om om (Rw.some ht om)) (dQ 7 [] rfl (Qc rfl rfl Xq ((ht.rdj 0 om rfl))) (dP 8 ?_))
  refine dNi ?_
  refine sCd rfl (λh3=>?_) λh3=>?_
  ·have hn9:l≠m:=λe=>by have hq:=h3;rw[e]at hq;simp at hq
   refine aU4 ?_
   exact rV (h:=by rw[decide_eq_false hn9];rfl)
  have he9:nth l k=nth m k:=by have hq:=h3;exact hq
  refine aT5 ?_
  refine aU2 ?_
  exact sBk (k+1) om ⟨om,λj hj=>(Nat.lt_or_ge j k).elim (hk3 j) (λh9=>by obtain rfl:j=k:=om;exact he9)⟩
 have hl9:l=m:=Qc1 hlm λj hj=>hk3 j om
 refine Qi rfl ?_
 refine aU4 ?_
 exact rV (h:=by rw[decide_eq_true hl9];rfl)
theorem c77(w:World)(a:Option Addr)(cap:Nat)(l:List TEnt)(i:Nat)(x:TEnt)(hs:Rw TEnt.vals 2 w [] a l)(hl:l.length<=100000)(hi:i<=l.length)(hlc:l.length<=cap):CE 77 #[.slice a l.length cap,.int .i64 (i:Int),.agg #[.string (bs x.key),.string (bs x.val)]] w [] (λg:Option Addr×Nat=>.slice g.1 (QF l i x).length g.2) (λg=>True) λg=>[.own (.slice g.1 (QF l i x).length g.2) 76 2 (QF l i x).length ((QF l i x).flatMap TEnt.vals)]:=by
 refine eN3 Tryz.func77 Tryz.ntmps77 ?_
 refine aU2 ?_
 refine oBx λb1 _=>?_
 refine aU4 ?_
 refine o_h (Q9 rfl QL) rfl (λb2 _=>aU2 ?_)
 refine o_p (QJ _ _ 0 i rfl rfl QL rfl ⟨_,_,rfl,rfl⟩ om om) rfl (o_h (Qy ((l.take i).flatMap TEnt.vals) rfl rfl rfl QL Tryz.underlying62 Xi rfl aPk (λw h=>Rw.src ev2 (Qey (Rw.cut (i:=0) hs hlc) i) h) (by rw[Qj ev2,List.length_take,Nat.min_eq_left hi];first|rfl|omega) (Xu ev1 _) om (by simp only[maxLen];omega)) rfl (λb3 _=>aU3 ?_))
 refine Qq [3,7] Qx ?_
 refine dP 0 ?_
 refine dLn 1 [[2],[3,2]] ?_
 refine dP 4 ?_
 refine dP 5 ?_
 refine dV 6 rfl (QJ _ _ i l.length rfl rfl QL ⟨_,_,rfl,rfl⟩ rfl om om) (dH 2 rfl (Qd (cs:=[_,_]) rfl rfl QL Xi rfl rfl rfl) (λb4 _=>dBa ?_))
 refine dH 3 rfl (Qy (TEnt.vals x) rfl rfl rfl QL Tryz.underlying62 Xi rfl aPk (Q5 aPk) rfl (ev1 _) om (by simp only[maxLen];omega)) (λb5 _=>dTu [7] ?_)
 refine dH 7 rfl (Qy ((l.drop i).flatMap TEnt.vals) rfl rfl rfl QL Tryz.underlying62 Xi rfl aPk (λw h=>Rw.src ev2 (Rw.cut hs hlc) h) (by rw[Qj ev2,List.length_drop]) (Xu ev1 _) om (by simp only[maxLen];omega)) (λb6 _=>dTu [] ?_)
 refine dP 8 ?_
 refine dNi ?_
 exact rT rfl rfl (λw' h'=>⟨b6,by simp only[QV];congr 2;rw[YB hi];omega,trivial,by have h2:=h';rw[show 0+(i-0)+1+(l.length-i)=l.length+1 by omega,List.nil_append]at h2;rw[YB hi,show(QF l i x).flatMap TEnt.vals=(l.take i).flatMap TEnt.vals++TEnt.vals x++(l.drop i).flatMap TEnt.vals by simp[QF]];exact h2.ent aEt⟩)
theorem c129(w:World)(a:Option Addr)(cap:Nat)(l:List Int)(i:Nat)(x:Int)(hs:Rw inV 1 w [] a l)(hl:l.length<=100000)(hi:i<=l.length)(hlc:l.length<=cap):CE 129 #[.slice a l.length cap,.int .i64 (i:Int),.int .i64 x] w [] (λg:Option Addr×Nat=>.slice g.1 (QF l i x).length g.2) (λg=>True) λg=>[.own (.slice g.1 (QF l i x).length g.2) 3 1 (QF l i x).length ((QF l i x).flatMap inV)]:=by
 refine eN3 Tryz.func129 Tryz.ntmps129 ?_
 refine aU6 ?_
 refine o_h (Q9 rfl QB) rfl (λb1 _=>aU2 ?_)
 refine o_p (QJ _ _ 0 i rfl rfl QB rfl ⟨_,_,rfl,rfl⟩ om om) rfl (o_h (Qy ((l.take i).flatMap inV) rfl rfl rfl QB Tryz.underlying52 Yo rfl aPk (λw h=>Rw.src iv1 (Qey (Rw.cut (i:=0) hs hlc) i) h) (by rw[Qj iv1,List.length_take,Nat.min_eq_left hi];first|rfl|omega) (Xu QgZ _) om (by simp only[maxLen];omega)) rfl (λb2 _=>aU3 ?_))
 refine Qq [3,7] Qx ?_
 refine dP 0 ?_
 refine dP 1 ?_
 refine dP 4 ?_
 refine dP 5 ?_
 refine dV 6 rfl (QJ _ _ i l.length rfl rfl QB ⟨_,_,rfl,rfl⟩ rfl om om) (dH 2 rfl (Qd (cs:=[_]) rfl rfl QB Yo rfl rfl rfl) (λb3 _=>dBa ?_))
 refine dH 3 rfl (Qy (inV x) rfl rfl rfl QB Tryz.underlying52 Yo rfl aPk (Q5 aPk) rfl (QgZ _) om (by simp only[maxLen];omega)) (λb4 _=>dTu [7] ?_)
 refine dH 7 rfl (Qy ((l.drop i).flatMap inV) rfl rfl rfl QB Tryz.underlying52 Yo rfl aPk (λw h=>Rw.src iv1 (Rw.cut hs hlc) h) (by rw[Qj iv1,List.length_drop]) (Xu QgZ _) om (by simp only[maxLen];omega)) (λb5 _=>dTu [] ?_)
 refine dP 8 ?_
 refine dNi ?_
 exact rT rfl rfl (λw' h'=>⟨b5,by simp only[QV];congr 2;rw[YB hi];omega,trivial,by have h2:=h';rw[show 0+(i-0)+1+(l.length-i)=l.length+1 by omega,List.nil_append]at h2;rw[YB hi,show(QF l i x).flatMap inV=(l.take i).flatMap inV++inV x++(l.drop i).flatMap inV by simp[QF]];exact h2.ent aEt⟩)
theorem c76(w:World)(j:Nat)(mo rm:Int)(a:Option Addr)(cap:Nat)(L:List LNd)(i:Nat)(key:List UInt8)(hj:j<=3)(hi:i<L.length)(hs:Nt w [] a L)(hl:L.length<=1000)(hel:(nth L i).es.length<=1000)(hK:∀y∈(nth L i).es,QS (j:Int) y.key=true/\y.key.length<=1000000)(hk:QS (j:Int) key=true)(hkl:key.length<=1000000):CR 76 #[.agg #[.int .i64 (j:Int),.int .i64 mo,.int .i64 rm,.slice a L.length cap],.int .i64 (i:Int),.string (bs key)] w (.tuple #[.int .i64 ((plc (j:Int) (nth L i).es key):Int),.bool (fnd (j:Int) (nth L i).es key)]):=by
 refine eN3 Tryz.func76 Tryz.ntmps76 ?_
 refine aU2 ?_
 refine oBx λb1 _=>?_
 refine aU8 ?_
 refine o_p (Qa rfl rfl rfl QE (i) om om (Rw.some hs.1 om)) rfl (aU ?_)
 refine o_q (Qc rfl rfl XZ ((hs.1.rdj 1 hi rfl))) rfl (aU8 ?_)
 refine Qt (α:=Nat) [9,16,17,18,19,20,21,22,23,24,25,26,27,28,29,30,31,32,33] (λk=>[(9,.int .i64 (k:Int))]) (λ_=>HS w [] [.blk b1 27 4 [.int .i64 (j:Int),.int .i64 mo,.int .i64 rm,.slice a L.length cap]]) (λk=>k<=(nth L i).es.length/\∀q,q<k->QM (j:Int) (nth (nth L i).es q).key key<0) (λk=>(nth L i).es.length-k) 0 ⟨Nat.zero_le _,λj h=>absurd h (Nat.not_lt_zero j)⟩ aSx (λw h=>h.ent aEt) (λk hx=>?_)
 obtain⟨hk1,hk3⟩:=hx
 refine aU2 ?_
 refine Xe (α:=Bool) [16,17,18,19,20,21,22,23,24,25,26,27,28,29,30,31] (λx=>[(31,.bool x)]) (λ_=>HS w [] [.blk b1 27 4 [.int .i64 (j:Int),.int .i64 mo,.int .i64 rm,.slice a L.length cap]]) (λx=>x=true ↔ (k<(nth L i).es.length/\QM (j:Int) (nth (nth L i).es k).key key<0)) ?_ ?_
 ·skip
  refine Qq [] Qx ?_
  refine dP 0 ?_
  refine dP 1 ?_
  refine dV 2 rfl (Qz rfl rfl Tryz.underlying62) (dP 3 ?_)
  refine dP 4 ?_
  apply Q7 20
  ·exact rfl
  ·intro hg2
   have hs3:=hg2;try simp only[dT]at hs3
   refine dFo 5 20 hg2 ?_
   refine dQo 6 20 [] hg2 rfl rfl rfl (XO rfl rfl Xq aPk rfl) ?_
   refine dPo 7 20 hg2 ?_
   refine dPo 8 20 hg2 ?_
   refine dVo 9 20 hg2 rfl rfl rfl (Qa rfl rfl rfl QL (k) om om (Rw.some (hs.es hi) om)) ?_
   refine dFo 10 20 hg2 ?_
   refine dQo 11 20 [] hg2 rfl rfl rfl (Qc rfl rfl Y8 (((hs.es hi).rdj 0 om rfl))) ?_
   refine dPo 12 20 hg2 ?_
   refine dQo 13 20 [] hg2 rfl rfl rfl (Ql rfl QdG rfl (λw1 h1=>Qls w1 j (nth (nth L i).es k).key key hj (hK _ (QQ om)).1 hk (hK _ (QQ om)).2 hkl)) ?_
   refine dPo 14 20 hg2 ?_
   refine dV 15 rfl (Xk rfl rfl hg2 rfl) (dNi ?_)
   exact Qo (decide (QM (j:Int) (nth (nth L i).es k).key key<0)) (by rw[decide_eq_true_eq];omega) aSx (λw h=>h.ent aEt)
  intro hg4
  have hs5:=hg4;try simp only[dN]at hs5
  refine dOf 5 20 hg4 ?_
  refine dOf 6 20 hg4 ?_
  refine dOf 7 20 hg4 ?_
  refine dOf 8 20 hg4 ?_
  refine dOf 9 20 hg4 ?_
  refine dOf 10 20 hg4 ?_
  refine dOf 11 20 hg4 ?_
  refine dOf 12 20 hg4 ?_
  refine dOf 13 20 hg4 ?_
  refine dOf 14 20 hg4 ?_
  refine dV 15 rfl (QW rfl rfl hg4 rfl) (dNi ?_)
  exact Qo false (by constructor<;>intro h9<;>first|(cases h9;done)|omega) aSx (λw h=>h.ent aEt)
 intro x hx
 refine sCd rfl (λh6=>?_) λh6=>?_
 ·obtain⟨hk5,hk6⟩:=hx.1 (by assumption)
  refine aT5 ?_
  refine aU3 ?_
  exact sBk (k+1) om ⟨om,λq hq=>(Nat.lt_or_ge q k).elim (hk3 q) (λh9=>by obtain rfl:q=k:=om;exact hk6)⟩
 have hno:¬(k<(nth L i).es.length/\QM (j:Int) (nth (nth L i).es k).key key<0):=λh9=>by have h8:=hx.2 h9;simp_all
 have hpk:(plc (j:Int) (nth L i).es key)=k:=QqI hk1 hk3 hno
 refine Qi rfl ?_
 refine aU ?_
 refine Qq [] Qx ?_
 refine dP 0 ?_
 refine dP 1 ?_
 refine dP 2 ?_
 refine dV 3 rfl (Qz rfl rfl Tryz.underlying62) (dP 4 ?_)
 refine dP 5 ?_
 apply Q7 39
 ·exact rfl
 ·intro hg7
  have hs8:=hg7;try simp only[dT]at hs8
  refine dFo 6 39 hg7 ?_
  refine dQo 7 39 [] hg7 rfl rfl rfl (XO rfl rfl Xq aPk rfl) ?_
  refine dPo 8 39 hg7 ?_
  refine dPo 9 39 hg7 ?_
  refine dVo 10 39 hg7 rfl rfl rfl (Qa rfl rfl rfl QL (k) om om (Rw.some (hs.es hi) om)) ?_
  refine dFo 11 39 hg7 ?_
  refine dQo 12 39 [] hg7 rfl rfl rfl (Qc rfl rfl Y8 (((hs.es hi).rdj 0 om rfl))) ?_
  refine dPo 13 39 hg7 ?_
  refine dQo 14 39 [] hg7 rfl rfl rfl (Ql rfl QdG rfl (λw1 h1=>Qls w1 j (nth (nth L i).es k).key key hj (hK _ (QQ om)).1 hk (hK _ (QQ om)).2 hkl)) ?_
  refine dPo 15 39 hg7 ?_
  refine dV 16 rfl (Xk rfl rfl hg7 rfl) (dP 17 ?_)
  refine dP 18 ?_
  refine dNi ?_
  exact Qf (rs:=[.tmp 6,.tmp 7]) rfl (.tmp rfl (.tmp rfl (.nil))) (λw' h'=>⟨by simp only[QV,fnd];rw[hpk];first|(rw[decide_eq_true (show k<(nth L i).es.length by omega)];rfl)|(rw[decide_eq_false (show¬k<(nth L i).es.length by omega)];rfl),h'.below⟩)
 intro hg9
 have hs10:=hg9;try simp only[dN]at hs10
 refine dOf 6 39 hg9 ?_
 refine dOf 7 39 hg9 ?_
 refine dOf 8 39 hg9 ?_
 refine dOf 9 39 hg9 ?_
 refine dOf 10 39 hg9 ?_
 refine dOf 11 39 hg9 ?_
 refine dOf 12 39 hg9 ?_
 refine dOf 13 39 hg9 ?_
 refine dOf 14 39 hg9 ?_
 refine dOf 15 39 hg9 ?_
 refine dV 16 rfl (QW rfl rfl hg9 rfl) (dP 17 ?_)
 refine dP 18 ?_
 refine dNi ?_
 exact Qf (rs:=[.tmp 6,.tmp 7]) rfl (.tmp rfl (.tmp rfl (.nil))) (λw' h'=>⟨by simp only[QV,fnd];rw[hpk];first|(rw[decide_eq_true (show k<(nth L i).es.length by omega)];rfl)|(rw[decide_eq_false (show¬k<(nth L i).es.length by omega)];rfl),h'.below⟩)
instance:TFn Tryz.prog 76:=⟨by kernel_rfl⟩
theorem c75(w:World)(j:Nat)(mo rm:Int)(a:Option Addr)(cap:Nat)(L:List LNd)(key:List UInt8)(hj:j<=3)(h0:0<L.length)(hB:Bd (pln L))(hT:TOk (j:Int) (pln L))(hs:Nt w [] a L)(hk:QS (j:Int) key=true)(hkl:key.length<=1000000):CE 75 #[.agg #[.int .i64 (j:Int),.int .i64 mo,.int .i64 rm,.slice a L.length cap],.string (bs key)] w [] (λg:Option Addr×Nat=>.tuple #[.slice g.1 (Qh (j:Int) (pln L) key).1.length g.2,.bool (Qh (j:Int) (pln L) key).2.2]) (λg=>True) λg=>[.own (.slice g.1 ((Qh (j:Int) (pln L) key).1).length g.2) 3 1 ((Qh (j:Int) (pln L) key).1).length (((Qh (j:Int) (pln L) key).1).map λi:Nat=>Value.int .i64 (i:Int))]:=by
 have hK:∀i,i<L.length->∀y∈(nth L i).es,QS (j:Int) y.key=true/\y.key.length<=1000000:=λi hi y hy=>Qa5 hT i (by rw[Qb];exact hi) y (by rw[Qp hi];exact hy)
 refine eN2 Tryz.func75 Tryz.ntmps75 ?_
 refine aU2 ?_
 refine oBx λb1 _=>?_
 refine aU9 ?_
 refine o_h (Qd (cs:=[_]) rfl rfl QB Yo rfl rfl rfl) rfl (λb2 _=>aU3 ?_)
 refine Qt (α:=(Option Addr×Nat)×List Nat×Nat×Nat) [4,5,6,7,8,9,11,12,13,14,15,16,17,18,19,20,21,22,23,24,25,26,27,28,29,30,31,32,33,34,35,36,37,38,39,40,41,42,43] (λx=>[(7,.slice x.1.1 (x.2.1++[x.2.2.1]).length x.1.2),(6,.int .i64 (x.2.2.1:Int))]) (λx=>HS w [] [.own (.slice x.1.1 (x.2.1++[x.2.2.1]).length x.1.2) 3 1 (x.2.1++[x.2.2.1]).length ((x.2.1++[x.2.2.1]).map λi:Nat=>Value.int .i64 (i:Int)),.blk b1 27 4 [.int .i64 (j:Int),.int .i64 mo,.int .i64 rm,.slice a L.length cap]]) (λx=>x.2.2.1<L.length/\x.2.1.length+x.2.2.2=L.length/\Gx.Way (pln L) (x.2.2.1::x.2.1.reverse)/\(Qh (j:Int) (pln L) key)=(x.2.1++(Zu (j:Int) (pln L) key x.2.2.2 x.2.2.1).1,(Zu (j:Int) (pln L) key x.2.2.2 x.2.2.1).2)) (λx=>x.2.2.2) ((some ⟨b2,0,none⟩,1),[],0,L.length) ⟨h0,by simp,rfl,by rw[Qh,Qb];rfl⟩ aSx (λw h=>(HS.own_shut (t:=3) (sz:=1) (n:=1) (cap:=1) (h.pick (A:=.blk b2 3 (1*1) [.int .i64 0]) aPk) rfl (by decide) (by decide)).ent aEt) (λ⟨⟨ga,gc⟩,P,i,f⟩hx=>?_)
 dsimp only
 obtain⟨hi,hlen,hway,hpath⟩:=hx
 simp only[]at hi hlen hway hpath
 have hwl:=XW hT (by rw[Qb];exact h0) hway
 simp only[List.length_cons,List.length_reverse,Qb]at hwl
 obtain⟨f,rfl⟩:∃f9,f=f9+1:=⟨f-1,om⟩
 have hni:=Qp hi
 have hle:=hB.len
 rw[Qb]at hle
 have hes9:=hB.es i (by rw[Qb];exact hi)
 have hcs9:=hB.cs i (by rw[Qb];exact hi)
 rw[hni]at hes9 hcs9
 have hPl:(P++[i]).length=P.length+1:=by simp
 refine aU6 ?_
 refine oCq rfl (λw1 h1=>c76 w1 j mo rm a cap L i key hj hi (hs.later h1.nil) om hes9 (hK i hi) hk hkl) (YZ ?_)
 refine oOr 9 19 28 rfl
  (λhg3 _=>by
   refine aU7 ?_
   refine o_p (Qa rfl rfl rfl QE (i) om om (Rw.some hs.1 om)) rfl (aU3 ?_)
   refine o_q (Qc rfl rfl XN ((hs.1.rdj 2 hi rfl))) rfl (aU4 ?_)
   exact oJf 9 28)
  (λhg5 _=>by
   refine aU8 ?_
   exact oJt 9 28) ?_
 refine aU ?_
 refine sCd rfl (λh7=>?_) λh7=>?_
 ·have hst:fnd (j:Int) (nth (pln L) i).es key=true\/(nth (pln L) i).cs.length=0:=by rw[hni];have hq:=h7;first|exact hq|(simp at hq;simpa[LNd.pl]using hq)
  refine aU7 ?_
  exact Qf (rs:=[.tmp 4,.tmp 5]) rfl (.tmp rfl (.tmp rfl (.nil))) (λw' h'=>⟨(ga,gc),by rw[hpath,Qcc hst,hni];rfl,trivial,by rw[hpath,Qcc hst];exact h'.ent aEt⟩)
 have hst:¬(fnd (j:Int) (nth (pln L) i).es key=true\/(nth (pln L) i).cs.length=0):=by rw[hni];have hq:=h7;first|exact hq|(simp at hq;simpa[LNd.pl]using hq)
 have hcl:(nth L i).cs.length=(nth L i).es.length+1:=by rcases hT.shape i (by rw[Qb];exact hi)with h9|h9;exact absurd (.inr h9) hst;rw[hni]at h9;exact h9
 have hple:=ZJ (j:Int) key (nth L i).es
 have hpk:plc (j:Int) (nth L i).es key<(nth L i).cs.length:=om
 have hkid:=QaS hT (by rw[Qb];exact hi) (i:=i) (k:=plc (j:Int) (nth L i).es key) (by rw[hni];exact hpk)
 rw[hni,Qb]at hkid
 simp only[LNd.pl]at hkid
 have hway2:=ZD hway (by rw[Qb];exact hi) (k:=plc (j:Int) (nth L i).es key) (by rw[hni];exact hpk) (by rw[hni];simp only[LNd.pl];omega)
 rw[hni]at hway2
 simp only[LNd.pl]at hway2
 refine aU6 ?_
 refine o_p (Qa rfl rfl rfl QE (i) om om (Rw.some hs.1 om)) rfl (aU ?_)
 refine o_q (Qc rfl rfl XN ((hs.1.rdj 2 hi rfl))) rfl (aU ?_)
 refine o_p (Qa rfl rfl rfl QB (plc (j:Int) (nth L i).es key) om om (Rw.some (hs.cs hi) om)) rfl (o_q (Qc rfl rfl Xq (((hs.cs hi).rdj 0 (i:=plc (j:Int) (nth L i).es key) hpk rfl))) rfl (aU5 ?_))
 refine o_h (Qd (cs:=[_]) rfl rfl QB Yo rfl rfl rfl) rfl (λb8 _=>o_h (Qy [_] rfl rfl rfl QB Tryz.underlying52 Yo rfl aPk (Q5 aPk) rfl (by intro u hu;simp only[List.mem_cons,List.mem_nil_iff,or_false]at hu;subst hu;rfl) om (by simp only[maxLen];omega)) rfl (λb9 _=>aU3 ?_))
 exact QR ((b9.1,b9.2),P++[i],((nth L i).cs.getD (plc (j:Int) (nth L i).es key) 0).toNat,f) (by(try simp only[]);omega) ⟨by simp only[];omega,by simp only[List.length_append,List.length_singleton];omega,by simp only[List.reverse_append,List.reverse_singleton,List.singleton_append];exact hway2,by simp only[];rw[hpath,Qgt hst];simp[hni,LNd.pl]⟩ (by simp only[List.length_append (bs:=[((nth L i).cs.getD (plc (j:Int) (nth L i).es key) 0).toNat]),List.length_singleton];rw[Int.toNat_of_nonneg om];exact aSx) (λw h=>by have h2:=h;simp only[List.length_append (bs:=[((nth L i).cs.getD (plc (j:Int) (nth L i).es key) 0).toNat]),List.length_singleton,List.map_append (l₂:=[((nth L i).cs.getD (plc (j:Int) (nth L i).es key) 0).toNat]),List.map_cons,List.map_nil];rw[Int.toNat_of_nonneg om];exact h2.ent aEt)
theorem c128(w:World)(j:Nat)(mo rm:Int)(a:Option Addr)(cap:Nat)(L:List LNd)(p:Nat)(c:Int)(hp:p<L.length)(hs:Nt w [] a L)(hl:L.length<=1000)(hcl:(nth L p).cs.length<=1000):CR 128 #[.agg #[.int .i64 (j:Int),.int .i64 mo,.int .i64 rm,.slice a L.length cap],.int .i64 (p:Int),.int .i64 c] w (.int .i64 (ixR (nth L p).cs c:Int)):=by
 refine eN3 Tryz.func128 Tryz.ntmps128 ?_
 refine aU2 ?_
 refine oBx λb1 _=>?_
 refine aU8 ?_
 refine Qt (α:=Nat) [6,7,8,9,10,11,12,13,14,15,16,17,18,19,20,21,22,23,24,25,26,27,28,29,30] (λk=>[(7,.int .i64 (k:Int))]) (λ_=>HS w [] [.blk b1 27 4 [.int .i64 (j:Int),.int .i64 mo,.int .i64 rm,.slice a L.length cap]]) (λk=>k<=(nth L p).cs.length/\∀q,q<k->(Y7 (nth L p).cs c).getD q false=false) (λk=>(nth L p).cs.length-k) 0 ⟨Nat.zero_le _,λj h=>absurd h (Nat.not_lt_zero j)⟩ aSx (λw h=>h.ent aEt) (λk hx=>?_)
 obtain⟨hk1,hk3⟩:=hx
 refine aU7 ?_
 refine o_p (Qa rfl rfl rfl QE (p) om om (Rw.some hs.1 om)) rfl (aU ?_)
 refine o_q (Qc rfl rfl XN ((hs.1.rdj 2 hp rfl))) rfl (aU3 ?_)
 refine sCd rfl (λh2=>?_) λh2=>?_
 ·have hk:k<(nth L p).cs.length:=by omega
  refine aU8 ?_
  refine o_p (Qa rfl rfl rfl QE (p) om om (Rw.some hs.1 om)) rfl (aU ?_)
  refine o_q (Qc rfl rfl XN ((hs.1.rdj 2 hp rfl))) rfl (aU ?_)
  refine o_p (Qa rfl rfl rfl QB (k) om om (Rw.some (hs.cs hp) om)) rfl (o_q (Qc rfl rfl Xq (((hs.cs hp).rdj 0 om rfl))) rfl (aU3 ?_))
  refine sCd rfl (λh3=>?_) λh3=>?_
  ·have hq9:c=(nth L p).cs.getD k 0:=(h3).symm
   have hix:=QaR (l:=Y7 (nth L p).cs c) (k:=k) (by rw[Ym];omega) hk3 (λh9=>by rw[QbT hk];exact decide_eq_true hq9)
   refine aU5 ?_
   exact rV (h:=by simp only[QV,ixR];rw[hix,if_pos hk])
  have hq9:¬c=(nth L p).cs.getD k 0:=λe=>h3 e.symm
  refine aT5 ?_
  refine aU2 ?_
  exact sBk (k+1) om ⟨om,λq hq=>(Nat.lt_or_ge q k).elim (hk3 q) (λh9=>by obtain rfl:q=k:=om;rw[QbT hk];exact decide_eq_false hq9)⟩
 obtain rfl:k=(nth L p).cs.length:=om
 have hix:=QaR (l:=Y7 (nth L p).cs c) (k:=(nth L p).cs.length) (by rw[Ym];omega) hk3 (λh9=>absurd h9 (by rw[Ym];omega))
 refine Qi rfl ?_
 refine aU4 ?_
 exact rV (h:=by simp only[QV,ixR];rw[hix,if_neg (Nat.lt_irrefl _)];rfl)
theorem c79(w:World)(bt:Nat)(j:Nat)(mo rm:Int)(gn cap:Nat)(L:List LNd)(hw:HS w (fps [.blk bt 27 4 [.int .i64 (j:Int),.int .i64 mo,.int .i64 rm,.slice (some ⟨gn,0,none⟩) (L).length cap],.blk gn 64 (cap*3) ((L).flatMap LNd.vals),.star ((L).map (Qw 76))]) [.blk bt 27 4 [.int .i64 (j:Int),.int .i64 mo,.int .i64 rm,.slice (some ⟨gn,0,none⟩) (L).length cap],.blk gn 64 (cap*3) ((L).flatMap LNd.vals),.star ((L).map (Qw 76))] w)(hnc:L.length<=cap)(hcm:cap<=maxLen)(h0:0<L.length)(hl:L.length<=1000):CE 79 #[.pointer (some ⟨bt,0,none⟩)] w (fps [.blk bt 27 4 [.int .i64 (j:Int),.int .i64 mo,.int .i64 rm,.slice (some ⟨gn,0,none⟩) (L).length cap],.blk gn 64 (cap*3) ((L).flatMap LNd.vals),.star ((L).map (Qw 76))]) (λg:(Nat×Nat)×List LNd=>.int .i64 ((Xb (pln L)).1:Int)) (λg=>(pln g.2=(Xb (pln L)).2/\g.2.length<=g.1.2/\g.1.2<=maxLen)) λg=>[.blk bt 27 4 [.int .i64 (j:Int),.int .i64 mo,.int .i64 rm,.slice (some ⟨g.1.1,0,none⟩) (g.2).length g.1.2],.blk g.1.1 64 (g.1.2*3) ((g.2).flatMap LNd.vals),.star ((g.2).map (Qw 76))]:=by
 have hnl:(pln L).length=L.length:=Qb L
 refine eW1 Tryz.func79 Tryz.ntmps79 hw ?_
 refine YR ?_
 refine Qt (α:=Nat×Nat) [2,3,4,5,6,7,8,9,10,11,12,13,14,15,16,17,18,19,20,21,22,23,24,25,26,27,28,29] (λx=>[(3,.int .i64 (x.1:Int))]) (λ_=>HS w (fps [.blk bt 27 4 [.int .i64 (j:Int),.int .i64 mo,.int .i64 rm,.slice (some ⟨gn,0,none⟩) (L).length cap],.blk gn 64 (cap*3) ((L).flatMap LNd.vals),.star ((L).map (Qw 76))]) [.blk bt 27 4 [.int .i64 (j:Int),.int .i64 mo,.int .i64 rm,.slice (some ⟨gn,0,none⟩) (L).length cap],.blk gn 64 (cap*3) ((L).flatMap LNd.vals),.star ((L).map (Qw 76))]) (λx=>(1<=x.1/\x.1<=L.length)/\x.1+x.2=L.length+1/\Qbi (pln L) x.2 x.1=(QcL (pln L))) (λx=>x.2) (1,L.length) ⟨⟨Nat.le_refl _,h0⟩,by simp only[];omega,by rw[QcL,hnl]⟩ aSx (λw h=>h.ent aEt) (λ⟨i,f⟩hx=>?_)
 dsimp only
 obtain⟨⟨hi1,hi2⟩,hf1,hf2⟩:=hx
 simp only[]at hi1 hi2 hf1 hf2
 obtain⟨f,rfl⟩:∃f9,f=f9+1:=⟨f-1,om⟩
 rw[Qbi]at hf2
 refine YZ ?_
 refine sCd rfl (λh1=>?_) λh1=>?_
 ·have hil:i<L.length:=by omega
  rw[if_pos (by rw[hnl];exact hil),Qp hil]at hf2
  simp only[LNd.pl]at hf2
  refine YR ?_
  refine o_p (Qa rfl rfl rfl QE (i) om om rfl) rfl (Qm (show _=Value.pointer (some ⟨gn,i*3,none⟩)from by rw[Nat.zero_add]) (aU ?_))
  refine o_q (Qn rfl rfl Qei (λw h=>HS.nd_cell (i:=i) om h aPk 0 rfl (by decide))) rfl (aU2 ?_)
  refine sCd rfl (λh2=>?_) λh2=>?_
  ·have hus:¬(nth L i).us=true:=by have hq:=h2;simp[hq]
   have hf3:i=(QcL (pln L)):=by rw[<-hf2];exact(if_neg hus).symm
   have hz:(QcL (pln L))<(pln L).length:=by rw[<-hf3,hnl];exact hil
   refine aU7 ?_
   refine o_p (QD (cs:=[_,_,_]) rfl rfl Qf3 XY rfl) rfl (o_p (Qa rfl rfl rfl QE (i) om om rfl) rfl (Qm (show _=Value.pointer (some ⟨gn,i*3,none⟩)from by rw[Nat.zero_add]) (Qal (Xt rfl rfl rfl Y5 rfl aPt (by rw[Qj nv3];show _+3<=_;omega) rfl) (λ_ _=>aU6 ?_))))
   exact rT rfl rfl (λw' h'=>by obtain⟨L9,hS9,hC⟩:=HS.node_fre (i:=i) (gn:=gn) (cap:=cap) hil h' aPk aPk;exact⟨((gn,cap),L9),by rw[Xb,if_pos hz,<-hf3];rfl,⟨by rw[hS9.pl,Xb,if_pos hz,<-hf3];rfl,by simp only[];rw[hS9.len];exact hnc,hcm⟩,by simp only[];rw[hS9.len];exact hC.ent aEt⟩)
  have hus:(nth L i).us=true:=by have hq:=h2;simpa using hq
  have hf4:Qbi (pln L) f (i+1)=(QcL (pln L)):=by rw[<-hf2];exact(if_pos hus).symm
  refine aT5 ?_
  refine aU2 ?_
  exact sBk (i+1,f) (by(try simp only[]);omega) ⟨⟨by(try simp only[]);omega,by(try simp only[]);omega⟩,by(try simp only[]);omega,hf4⟩
 obtain rfl:i=L.length:=om
 rw[if_neg (by rw[hnl];omega)]at hf2
 have hz:¬(QcL (pln L))<(pln L).length:=by rw[<-hf2,hnl];omega
 refine Zl (λw h=>(HS.own_shut (n:=L.length) (h.ent (Bs:=[.blk gn 64 (cap*3) (L.flatMap LNd.vals),.star (L.map (Qw 76)),.blk bt 27 4 [.int .i64 (j:Int),.int .i64 mo,.int .i64 rm,.slice (some ⟨gn,0,none⟩) L.length cap]]) aEt) (Qj nv3 L) hnc hcm)) (Qi rfl ?_)
 refine aU7 ?_
 refine o_p (QD (cs:=[_,_,_]) rfl rfl Qf3 XY rfl) rfl (o_h (Qd (cs:=[_,_,_]) rfl rfl QE XY rfl rfl rfl) rfl (λb3 _=>?_))
 refine o_h (Qy [_,_,_] rfl rfl rfl QE Tryz.underlying25 XY rfl aPk (Q5 aPk) rfl (by intro u hu;simp only[List.mem_cons,List.mem_nil_iff,or_false]at hu;rcases hu with rfl|rfl|rfl<;>rfl) om (by simp only[maxLen];omega)) rfl (λb4 _=>Xo (λw h=>QbN (n:=L.length+1) om h aPk) (λhgn=>?_))
 obtain⟨⟨ga,gc⟩,hga⟩:∃q:Option Addr×Nat,b4=q:=⟨_,rfl⟩
 subst hga
 obtain⟨g9,e9,hn9,hm9⟩:=hgn
 simp only[]at e9 hn9 hm9
 subst e9
 refine Q6 (λw h=>HS.own_at h aPk) (aU2 ?_)
 refine Qal (Xt rfl rfl rfl Y9 rfl aPt (by show 4<=4;omega) rfl) (λ_ _=>aT9 ?_)
 refine aU2 ?_
 exact rT rfl rfl (λw' h'=>⟨((g9,gc),L++[(LNd.fre:LNd)]),by rw[Xb,if_neg hz,hnl];simp only[QV];congr 2;omega,⟨by rw[Xb,if_neg hz,Qhn];rfl,by simp only[List.length_append,List.length_singleton];exact hn9,hm9⟩,by have h2:=HS.sub_app (sub:=Qw 76) (l:=L) (x:=(LNd.fre:LNd)) (HS.star_close (Bs:=[_,_]) (((h'.ent (Bs:=[.star (L.map (Qw 76)),.blk bt 27 4 [.int .i64 (j:Int),.int .i64 mo,.int .i64 rm,.slice (some ⟨g9,0,none⟩) (L.length+1) gc],.blk g9 64 (gc*3) (L.flatMap LNd.vals++[.bool true,.slice none 0 0,.slice none 0 0])]) aEt).own_nil 3 1).own_nil 76 2));have e8:(L++[(LNd.fre:LNd)]).flatMap LNd.vals=L.flatMap LNd.vals++[.bool true,.slice none 0 0,.slice none 0 0]:=(by rw[List.flatMap_append];rfl);have e7:(L++[(LNd.fre:LNd)]).length=L.length+1:=(by simp);dsimp only;rw[e8,e7];exact h2.ent aEt⟩)
theorem QpI:QH Tryz.prog 79=true:=by kernel_rfl
instance:TFn Tryz.prog 128:=⟨by kernel_rfl⟩
theorem Qpn:QH Tryz.prog 77=true:=by kernel_rfl
theorem Qp1:QH Tryz.prog 129=true:=by kernel_rfl
theorem c78(w:World)(bt:Nat)(j:Nat)(mo rm:Int)(gn cap:Nat)(L:List LNd)(p i:Nat)(hw:HS w (fps [.blk bt 27 4 [.int .i64 (j:Int),.int .i64 mo,.int .i64 rm,.slice (some ⟨gn,0,none⟩) (L).length cap],.blk gn 64 (cap*3) ((L).flatMap LNd.vals),.star ((L).map (Qw 76))]) [.blk bt 27 4 [.int .i64 (j:Int),.int .i64 mo,.int .i64 rm,.slice (some ⟨gn,0,none⟩) (L).length cap],.blk gn 64 (cap*3) ((L).flatMap LNd.vals),.star ((L).map (Qw 76))] w)(hnc:L.length<=cap)(hcm:cap<=maxLen)(hok:SpROk mo (pln L) p i):CE 78 #[.pointer (some ⟨bt,0,none⟩),.int .i64 (p:Int),.int .i64 (i:Int)] w (fps [.blk bt 27 4 [.int .i64 (j:Int),.int .i64 mo,.int .i64 rm,.slice (some ⟨gn,0,none⟩) (L).length cap],.blk gn 64 (cap*3) ((L).flatMap LNd.vals),.star ((L).map (Qw 76))]) (λg:(Nat×Nat)×List LNd=>.tuple #[]) (λg=>(pln g.2=Qi0 mo (pln L) p i/\g.2.length<=g.1.2/\g.1.2<=maxLen)) λg=>[.blk bt 27 4 [.int .i64 (j:Int),.int .i64 mo,.int .i64 rm,.slice (some ⟨g.1.1,0,none⟩) (g.2).length g.1.2],.blk g.1.1 64 (g.1.2*3) ((g.2).flatMap LNd.vals),.star ((g.2).map (Qw 76))]:=by
 have hlt0:=hok.lt
 have hln0:=hok.len
 have hpl0:=hok.par
 rw[Qb]at hlt0 hln0 hpl0
 have hmo:=hok.mo0
 have hes0:=hok.es
 have hcs0:=hok.cs
 have hne:=QoI hok.lt hok.us
 have hfn:=QnU hok.lt hne
 have hfl:=Qkl (pln L)
 have hfl2:=Qh0 (pln L)
 rw[Qb]at hfl2
 have hparE:=hok.parE
 have hparC:=hok.parC
 have hsA:=hok.sm.splRA mo i
 refine eW3 Tryz.func78 Tryz.ntmps78 hw ?_
 refine aU3 ?_
 refine o_h (QT (Cs:=[.blk bt 27 4 [.int .i64 (j:Int),.int .i64 mo,.int .i64 rm,.slice (some ⟨gn,0,none⟩) (L).length cap],.blk gn 64 (cap*3) ((L).flatMap LNd.vals),.star ((L).map (Qw 76))]) rfl QpI rfl aPs (λw1 h1 hf=>c79 w1 bt j mo rm gn cap L hf hnc hcm om om)) rfl (λ⟨⟨gn1,cap1⟩,L1⟩hF1=>?_)
 dsimp only
 obtain⟨hL1,hn1,hm1⟩:=hF1
 simp only[]at hL1 hn1 hm1
 have hl1:L1.length=(Xb (pln L)).2.length:=by rw[<-hL1,Qb]
 have hi1:i<L1.length:=om
 have ho1:(Xb (pln L)).1<L1.length:=om
 have hN1:(nth L1 i).pl=nth (pln L) i:=by rw[<-Qp hi1,hL1,hfn]
 have hE1:(nth L1 i).es=(nth (pln L) i).es:=congrArg Nd.es hN1
 have hC1:(nth L1 i).cs=(nth (pln L) i).cs:=congrArg Nd.cs hN1
 have hsm1:(Qv mo)<(nth L1 i).es.length:=by rw[hE1];exact hes0
 have hsE1:=(hok.sm i).1
 rw[<-hE1]at hsE1
 have hsC1:=(hok.sm i).2
 rw[<-hC1]at hsC1
 rw[<-hC1]at hcs0
 have hxF:nth (Xb (pln L)).2 i=(nth L1 i).pl:=by rw[hfn,hN1]
 refine aU9 ?_
 refine o_p (Qa rfl rfl rfl QE (i) om om rfl) rfl (Qm (show _=Value.pointer (some ⟨gn1,i*3,none⟩)from by rw[Nat.zero_add]) (o_q (Yi _ rfl rfl Y5 rfl (λw h=>HS.nd_cells hi1 h aPk)) rfl (oAl (λb1 _=>?_) XY)))
 refine aT9 ?_
 refine o_p (Y6 rfl rfl rfl om om om) rfl (Qm (show _=Value.int .i64 ((Qv mo):Int)from by unfold Qv;congr 1;omega) (aU6 ?_))
 refine Xo (λw h=>HS.es_some hi1 om h aPk) λhge=>?_
 obtain⟨ge,hge⟩:=hge
 refine Xo (λw h=>HS.es_room hi1 h aPk) λhrE=>Xo (λw h=>HS.cs_room hi1 h aPk) λhrC=>aU ?_
 refine o_p (Qa rfl rfl rfl QL ((Qv mo)) om om hge) rfl (o_q (Yi _ rfl rfl Ye rfl (λw h=>HS.es_rd hi1 hsm1 hge h aPk)) rfl (oAl (λb2 _=>?_) Xi))
 refine aU3 ?_
 refine Qaa [.blk bt 27 4 [.int .i64 (j:Int),.int .i64 mo,.int .i64 rm,.slice (some ⟨gn1,0,none⟩) L1.length cap1],.blk gn1 64 (cap1*3) (L1.flatMap LNd.vals),.star (L1.map (Qw 76)),.blk b1 64 3 (LNd.vals (nth L1 i)),.blk b2 76 2 (TEnt.vals (nth (nth L1 i).es (Qv mo)))] [14] Qx ?_
 refine dP 0 ?_
 refine dP 1 ?_
 refine dFa 2 ?_
 refine dLd 3 [[]] ?_
 refine dP 4 ?_
 refine dFa 6 ?_
 refine dLd 7 [[]] ?_
 refine dP 8 ?_
 refine dP 9 ?_
 try refine dWr ?_
 refine dV 10 rfl (QJ _ _ ((Qv mo)+1) ((nth L1 i).es.length) rfl rfl QL ⟨_,_,rfl,om⟩ rfl om om) (dH 5 rfl (Q9 rfl QL) (λb3 _=>dH 11 rfl (Qy (((nth L1 i).es.drop ((Qv mo)+1)).flatMap TEnt.vals) rfl rfl rfl QL Tryz.underlying62 Xi rfl aPk (λw h=>Rw.src ev2 (Rw.cut (HS.es_row hi1 h aPk) hrE.1) (HS.refl _ [])) (by rw[Qj ev2,List.length_drop]) (Xu ev1 _) om (by simp only[maxLen];omega)) (λb4 _=>dV 12 rfl (Qa rfl rfl rfl QE ((Xb (pln L)).1) om om rfl) (Qs (show _=Value.pointer (some ⟨gn1,(Xb (pln L)).1*3,none⟩)from by rw[Nat.zero_add]) (dFa 13 ?_)))))
 refine dSt 14 ?_ (hl:=(by rw[Qj nv3];show _+1<=_;omega))
 refine dTu [] ?_
 refine dNi ?_
 refine aU ?_
 refine Qg (L':=[(0,_),(1,_),(2,_),(6,_),(7,_),(8,_),(9,_)]) aSx (λ_ h=>h) ?_
 refine QkU (λw h=>HS.es_setN (gn:=gn1) (cap:=cap1) (ea:=b4.1) (ec:=b4.2) (es:=(nth L1 i).es.drop ((Qv mo)+1)) (n:=0+((nth L1 i).es.length-((Qv mo)+1))) (xs:=[]++((nth L1 i).es.drop ((Qv mo)+1)).flatMap TEnt.vals) ho1 (by rw[List.length_drop,Nat.zero_add]) (by rw[List.nil_append]) h aPk aPk aPk) λL2=>?_
 refine X0 (λw h=>h.1) λhS2=>Zl (λw h=>h.2) ?_
 have hi2:i<L2.length:=by rw[hS2.len];exact hi1
 have hN2:nth L2 i=nth L1 i:=hS2.other hi1 hne
 refine Qaa [.blk bt 27 4 [.int .i64 (j:Int),.int .i64 mo,.int .i64 rm,.slice (some ⟨gn1,0,none⟩) L1.length cap1],.blk gn1 64 (cap1*3) (L2.flatMap LNd.vals),.star (L2.map (Qw 76)),.blk b1 64 3 (LNd.vals (nth L1 i)),.blk b2 76 2 (TEnt.vals (nth (nth L1 i).es (Qv mo)))] [13] Qx ?_
 refine dP 0 ?_
 refine dP 1 ?_
 refine dFa 2 ?_
 refine dLd 3 [[]] ?_
 refine dP 4 ?_
 refine dFa 6 ?_
 refine dLd 7 [[]] ?_
 refine dP 8 ?_
 refine dV 9 rfl (QJ _ _ 0 (Qv mo) rfl rfl QL rfl ⟨_,_,rfl,rfl⟩ om om) (dH 5 rfl (Q9 rfl QL) (λb5 _=>dH 10 rfl (Qy (((nth L1 i).es.take (Qv mo)).flatMap TEnt.vals) rfl rfl rfl QL Tryz.underlying62 Xi rfl aPk (λw h=>Rw.src ev2 (Qey (Rw.cut (i:=0) (hN2▸HS.es_row hi2 h aPk) hrE.1) (Qv mo)) (HS.refl _ [])) (by rw[Qj ev2,List.length_take];omega) (Xu ev1 _) om (by simp only[maxLen];omega)) (λb6 _=>dV 11 rfl (Qa rfl rfl rfl QE (i) om om rfl) (Qs (show _=Value.pointer (some ⟨gn1,i*3,none⟩)from by rw[Nat.zero_add]) (dFa 12 ?_)))))
 refine dSt 13 ?_ (hl:=(by rw[Qj nv3];show _+1<=_;omega))
 refine dTu [] ?_
 refine dNi ?_
 refine aU4 ?_
 refine Qdd (λw h=>HS.es_setN (gn:=gn1) (cap:=cap1) (ea:=b6.1) (ec:=b6.2) (es:=(nth L1 i).es.take (Qv mo)) (n:=0+((Qv mo)-0)) (xs:=[]++((nth L1 i).es.take (Qv mo)).flatMap TEnt.vals) hi2 (by rw[List.length_take];omega) (by rw[List.nil_append]) h aPk aPk aPk) λL3=>?_
 refine Xo (λw h=>h.1) λhS3=>Q6 (λw h=>h.2) ?_
 have hi3:i<L3.length:=by rw[hS3.len];exact hi2
 have ho3:(Xb (pln L)).1<L3.length:=by rw[hS3.len,hS2.len];exact ho1
 have hcr3:(nth L3 i).ca=(nth L1 i).ca/\(nth L3 i).cc=(nth L1 i).cc/\(nth L3 i).cs=(nth L1 i).cs:=by rw[hS3.at_,hN2];exact⟨rfl,rfl,rfl⟩
 refine aU4 ?_
 refine Qg (L':=[(0,_),(1,_),(2,_),(6,_),(7,_),(8,_),(9,_),(61,_)]) aSx (λ_ h=>h) ?_
 refine Xe (α:=List LNd) [62,63,64,65,66,67,68,69,70,71,72,73,74,75,76,77,78,79,80,81,82,83,84,85,86,87,88,89] (λ_=>[]) (λx=>HS w (fps [.blk bt 27 4 [.int .i64 (j:Int),.int .i64 mo,.int .i64 rm,.slice (some ⟨gn,0,none⟩) (L).length cap],.blk gn 64 (cap*3) ((L).flatMap LNd.vals),.star ((L).map (Qw 76))]) [.blk bt 27 4 [.int .i64 (j:Int),.int .i64 mo,.int .i64 rm,.slice (some ⟨gn1,0,none⟩) (x).length cap1],.blk gn1 64 (cap1*3) ((x).flatMap LNd.vals),.star ((x).map (Qw 76)),.blk b2 76 2 (TEnt.vals (nth (nth L1 i).es (Qv mo)))]) (λx=>pln x=(splRA mo (pln L) i)/\x.length=L1.length) ?_ ?_
 ·skip
  refine sCd rfl (λh7=>?_) λh7=>?_
  ·have hcz:(nth L1 i).cs.length≠0:=by have hq:=h7;omega
   have hsm4:(Qv mo)+1<=(nth L1 i).cs.length:=om
   refine aU ?_
   refine Qaa [.blk bt 27 4 [.int .i64 (j:Int),.int .i64 mo,.int .i64 rm,.slice (some ⟨gn1,0,none⟩) L1.length cap1],.blk gn1 64 (cap1*3) (L3.flatMap LNd.vals),.star (L3.map (Qw 76)),.blk b1 64 3 (LNd.vals (nth L1 i)),.blk b2 76 2 (TEnt.vals (nth (nth L1 i).es (Qv mo)))] [14] Qx ?_
   refine dP 0 ?_
   refine dP 1 ?_
   refine dFa 2 ?_
   refine dLd 3 [[]] ?_
   refine dP 4 ?_
   refine dFa 6 ?_
   refine dLd 7 [[]] ?_
   refine dP 8 ?_
   refine dP 9 ?_
   try refine dWr ?_
   refine dV 10 rfl (QJ _ _ ((Qv mo)+1) ((nth L1 i).cs.length) rfl rfl QB ⟨_,_,rfl,om⟩ rfl om om) (dH 5 rfl (Q9 rfl QB) (λb8 _=>dH 11 rfl (Qy (((nth L1 i).cs.drop ((Qv mo)+1)).flatMap inV) rfl rfl rfl QB Tryz.underlying52 Yo rfl aPk (λw h=>Rw.src iv1 (Rw.cut (QjK hcr3 (HS.cs_row hi3 h aPk)) hrC.1) (HS.refl _ [])) (by rw[Qj iv1,List.length_drop]) (Xu QgZ _) om (by simp only[maxLen];omega)) (λb9 _=>dV 12 rfl (Qa rfl rfl rfl QE ((Xb (pln L)).1) om om rfl) (Qs (show _=Value.pointer (some ⟨gn1,(Xb (pln L)).1*3,none⟩)from by rw[Nat.zero_add]) (dFa 13 ?_)))))
   refine dSt 14 ?_ (hl:=(by rw[Qj nv3];show _+1<=_;omega))
   refine dTu [] ?_
   refine dNi ?_
   refine QkU (λw h=>HS.cs_setN (gn:=gn1) (cap:=cap1) (ca:=b9.1) (cc:=b9.2) (cs:=(nth L1 i).cs.drop ((Qv mo)+1)) (n:=0+((nth L1 i).cs.length-((Qv mo)+1))) (xs:=[]++((nth L1 i).cs.drop ((Qv mo)+1)).flatMap inV) ho3 (by rw[List.length_drop,Nat.zero_add]) (by rw[List.nil_append]) h aPk aPk aPk) λL4=>?_
   refine X0 (λw h=>h.1) λhS4=>Zl (λw h=>h.2) ?_
   have hi4:i<L4.length:=by rw[hS4.len];exact hi3
   have hN4:nth L4 i=nth L3 i:=hS4.other hi3 hne
   have hcr4:(nth L4 i).ca=(nth L1 i).ca/\(nth L4 i).cc=(nth L1 i).cc/\(nth L4 i).cs=(nth L1 i).cs:=by rw[hN4];exact hcr3
   refine Qaa [.blk bt 27 4 [.int .i64 (j:Int),.int .i64 mo,.int .i64 rm,.slice (some ⟨gn1,0,none⟩) L1.length cap1],.blk gn1 64 (cap1*3) (L4.flatMap LNd.vals),.star (L4.map (Qw 76)),.blk b1 64 3 (LNd.vals (nth L1 i)),.blk b2 76 2 (TEnt.vals (nth (nth L1 i).es (Qv mo)))] [14] Qx ?_
   refine dP 0 ?_
   refine dP 1 ?_
   refine dFa 2 ?_
   refine dLd 3 [[]] ?_
   refine dP 4 ?_
   refine dFa 6 ?_
   refine dLd 7 [[]] ?_
   refine dP 8 ?_
   refine dP 9 ?_
   try refine dWr ?_
   refine dV 10 rfl (QJ _ _ 0 ((Qv mo)+1) rfl rfl QB rfl ⟨_,_,rfl,om⟩ om om) (dH 5 rfl (Q9 rfl QB) (λb10 _=>dH 11 rfl (Qy (((nth L1 i).cs.take ((Qv mo)+1)).flatMap inV) rfl rfl rfl QB Tryz.underlying52 Yo rfl aPk (λw h=>Rw.src iv1 (Qey (Rw.cut (i:=0) (QjK hcr4 (HS.cs_row hi4 h aPk)) hrC.1) ((Qv mo)+1)) (HS.refl _ [])) (by rw[Qj iv1,List.length_take];omega) (Xu QgZ _) om (by simp only[maxLen];omega)) (λb11 _=>dV 12 rfl (Qa rfl rfl rfl QE (i) om om rfl) (Qs (show _=Value.pointer (some ⟨gn1,i*3,none⟩)from by rw[Nat.zero_add]) (dFa 13 ?_)))))
   refine dSt 14 ?_ (hl:=(by rw[Qj nv3];show _+1<=_;omega))
   refine dTu [] ?_
   refine dNi ?_
   refine QkU (λw h=>HS.cs_setN (gn:=gn1) (cap:=cap1) (ca:=b11.1) (cc:=b11.2) (cs:=(nth L1 i).cs.take ((Qv mo)+1)) (n:=0+((Qv mo)+1-0)) (xs:=[]++((nth L1 i).cs.take ((Qv mo)+1)).flatMap inV) hi4 (by rw[List.length_take];omega) (by rw[List.nil_append]) h aPk aPk aPk) λL5=>?_
   exact X0 (λw h=>h.1) λhS5=>Zl (λw h=>h.2) (Qo L5 ⟨by rw[hS5.cs,hS4.cs,hS3.es,hS2.es];exact(Qoc hL1.symm (hL1.symm▸hxF) hcz).symm,by rw[hS5.len,hS4.len,hS3.len,hS2.len]⟩ aSx (λw h=>by rw[hS5.len,hS4.len,hS3.len,hS2.len];exact h.ent aEt))
  have hcz:(nth L1 i).cs.length=0:=by have hq:=h7;omega
  refine aU ?_
  exact Qo L3 ⟨by rw[hS3.es,hS2.es];exact(Qn7 hL1.symm (hL1.symm▸hxF) hcz).symm,by rw[hS3.len,hS2.len]⟩ aSx (λw h=>by rw[hS3.len,hS2.len];exact h.ent aEt)
 intro LA hx
 obtain⟨hA,hlA⟩:=hx
 have hpA:p<LA.length:=om
 have hNA:(nth LA p).pl=nth (splRA mo (pln L) i) p:=by rw[<-Qp hpA,hA]
 have hEA:(nth LA p).es=(nth (splRA mo (pln L) i) p).es:=congrArg Nd.es hNA
 have hCA:(nth LA p).cs=(nth (splRA mo (pln L) i) p).cs:=congrArg Nd.cs hNA
 have hsAE:=(hsA p).1
 have hsAC:=(hsA p).2
 rw[<-hEA]at hsAE
 rw[<-hCA]at hsAC
 have hparE2:(ixR (nth (splRA mo (pln L) i) p).cs (i:Int))<=(nth LA p).es.length:=by rw[hEA];exact hparE
 have hparC2:(ixR (nth (splRA mo (pln L) i) p).cs (i:Int))+1<=(nth LA p).cs.length:=by rw[hCA];exact hparC
 refine aU7 ?_
 refine oCq rfl (λw1 h1=>c128 w1 j mo rm (some ⟨gn1,0,none⟩) cap1 LA p (i:Int) hpA (HS.nt_at h1 aPk aPk) om om) (Qm (show _=Value.int .i64 ((ixR (nth (splRA mo (pln L) i) p).cs (i:Int)):Int)from by rw[hCA]) (aU3 ?_))
 refine Qq [18] Qx ?_
 refine dP 0 ?_
 refine dP 1 ?_
 refine dFa 2 ?_
 refine dLd 3 [[]] ?_
 refine dP 4 ?_
 refine dP 5 ?_
 refine dP 6 ?_
 refine dFa 7 ?_
 refine dLd 8 [[]] ?_
 refine dP 9 ?_
 refine dV 10 rfl (Qa rfl rfl rfl QE (p) om om rfl) (Qs (show _=Value.pointer (some ⟨gn1,p*3,none⟩)from by rw[Nat.zero_add]) (dFa 11 ?_))
 refine dQ 12 [[]] rfl (Qn rfl rfl XZ (λw h=>HS.nd_cell hpA h aPk 1 rfl (by decide))) (dP 13 ?_)
 refine dLn 14 [[]] ?_
 refine dH 15 rfl (Q3 rfl Qpn rfl (λw1 h1=>c77 w1 (nth LA p).ea (nth LA p).ec (nth LA p).es (ixR (nth (splRA mo (pln L) i) p).cs (i:Int)) (nth (nth L1 i).es (Qv mo)) (HS.es_row hpA h1 aPk) om hparE2 (HS.es_room hpA h1 aPk).1)) (λb12 _=>dBa ?_)
 refine dV 16 rfl (Qa rfl rfl rfl QE (p) om om rfl) (Qs (show _=Value.pointer (some ⟨gn1,p*3,none⟩)from by rw[Nat.zero_add]) (dFa 17 ?_))
 refine dSt 18 ?_ (hl:=(by rw[Qj nv3];show _+1<=_;omega))
 refine dTu [] ?_
 refine dNi ?_
 refine Qg (L':=[(0,_),(1,_),(6,_),(10,_)]) aSx (λ_ h=>h) ?_
 refine QkU (λw h=>HS.es_set (gn:=gn1) (cap:=cap1) (ea:=b12.1) (ec:=b12.2) (es:=QF (nth LA p).es (ixR (nth (splRA mo (pln L) i) p).cs (i:Int)) (nth (nth L1 i).es (Qv mo))) hpA h aPk aPk aPk) λLB=>?_
 refine X0 (λw h=>h.1) λhSB=>Zl (λw h=>h.2) ?_
 have hpB:p<LB.length:=by rw[hSB.len];exact hpA
 have hBC:(nth LB p).cs=(nth LA p).cs:=by rw[hSB.at_]
 have hBCl:(nth LB p).cs.length=(nth LA p).cs.length:=by rw[hBC]
 refine Qq [19] Qx ?_
 refine dP 0 ?_
 refine dP 1 ?_
 refine dFa 2 ?_
 refine dLd 3 [[]] ?_
 refine dP 4 ?_
 refine dP 5 ?_
 refine dP 6 ?_
 refine dFa 7 ?_
 refine dLd 8 [[]] ?_
 refine dP 9 ?_
 refine dV 10 rfl (Qa rfl rfl rfl QE (p) om om rfl) (Qs (show _=Value.pointer (some ⟨gn1,p*3,none⟩)from by rw[Nat.zero_add]) (dFa 11 ?_))
 refine dQ 12 [[]] rfl (Qn rfl rfl XN (λw h=>HS.nd_cell hpB h aPk 2 rfl (by decide))) (dP 13 ?_)
 refine dP 14 ?_
 try refine dWr ?_
 refine dP 15 ?_
 refine dH 16 rfl (Q3 rfl Qp1 rfl (λw1 h1=>c129 w1 (nth LB p).ca (nth LB p).cc (nth LB p).cs ((ixR (nth (splRA mo (pln L) i) p).cs (i:Int))+1) ((Xb (pln L)).1:Int) (HS.cs_row hpB h1 aPk) om om (HS.cs_room hpB h1 aPk).1)) (λb13 _=>dBa ?_)
 refine dV 17 rfl (Qa rfl rfl rfl QE (p) om om rfl) (Qs (show _=Value.pointer (some ⟨gn1,p*3,none⟩)from by rw[Nat.zero_add]) (dFa 18 ?_))
 refine dSt 19 ?_ (hl:=(by rw[Qj nv3];show _+1<=_;omega))
 refine dTu [] ?_
 refine dNi ?_
 exact QcM rfl (λw' h'=>by obtain⟨LC,hSC,hC⟩:=HS.cs_set (gn:=gn1) (cap:=cap1) (ca:=b13.1) (cc:=b13.2) (cs:=QF (nth LB p).cs ((ixR (nth (splRA mo (pln L) i) p).cs (i:Int))+1) ((Xb (pln L)).1:Int)) hpB h' aPk aPk aPk;exact⟨((gn1,cap1),LC),rfl,⟨by rw[hSC.cs,hBC,hSB.es,hA,hEA,hCA];unfold Qi0 addP;rw[hxF];rfl,by simp only[];rw[hSC.len,hSB.len,hlA];exact hn1,hm1⟩,by simp only[];rw[hSC.len,hSB.len];exact hC.ent aEt⟩)
theorem Qfv:QH Tryz.prog 11=true:=by kernel_rfl
instance:TFn Tryz.prog 11:=⟨Qfv⟩
instance:TFn Tryz.prog 75:=⟨by kernel_rfl⟩
theorem Qo9:QH Tryz.prog 78=true:=by kernel_rfl
theorem c43(w:World)(j:Nat)(mo rm:Int)(a:Option Addr)(cap:Nat)(L:List LNd)(x:TEnt)(hj:j<=3)(h0:0<L.length)(hB:Bd (pln L))(hT:TOk (j:Int) (pln L))(hs:Nt w [] a L)(hk:QS (j:Int) x.key=true)(hkl:x.key.length<=1000000)(hok0:InsROk (j:Int) mo rm (pln L) x):CE 43 #[.agg #[.int .i64 (j:Int),.int .i64 mo,.int .i64 rm,.slice a L.length cap],.agg #[.string (bs x.key),.string (bs x.val)]] w [] (λg:(Option Addr×Nat)×List LNd=>.agg #[.int .i64 (j:Int),.int .i64 mo,.int .i64 rm,.slice g.1.1 g.2.length g.1.2]) (λg=>pln g.2=Qlk (j:Int) mo rm (pln L) x) λg=>[.nodes 76 64 g.1.1 g.1.2 g.2]:=by
 have hln0:=hB.len
 rw[Qb]at hln0
 have hsmB:Sm 1000 (pln L):=QqL hB
 refine eN2 Tryz.func43 Tryz.ntmps43 ?_
 refine aU2 ?_
 refine oBx λb1 _=>?_
 refine oBx λb2 _=>?_
 refine oAl (λb3 _=>?_) Xw
 refine aU4 ?_
 refine oCh rfl (λw1 h1=>c11 w1 (j:Int) mo rm a cap L (hs.later h1.nil) hln0 hsmB) (λ⟨⟨ga0,gc0⟩,L9⟩hF9=>?_)
 dsimp only
 have hL9:pln L9=pln L:=hF9
 have hl9:L9.length=L.length:=by rw[<-Qb L9,hL9,Qb]
 have h09:0<L9.length:=om
 refine Qdd (λw h=>Qai h09 h aPk) λgn=>?_
 refine Xo (p:=ga0=some ⟨gn,0,none⟩/\L9.length<=gc0/\gc0<=maxLen) (λw h=>⟨h.1,h.2.1,h.2.2.1⟩) λhgn=>?_
 obtain⟨hga,hn9,hm9⟩:=hgn
 subst hga
 refine Q6 (λw h=>h.2.2.2) ?_
 have hB9:Bd (pln L9):=by rw[hL9];exact hB
 have hT9:TOk (j:Int) (pln L9):=by rw[hL9];exact hT
 have hK9:∀i,i<L9.length->∀y∈(nth L9 i).es,QS (j:Int) y.key=true/\y.key.length<=1000000:=λi hi y hy=>Qa5 hT9 i (by rw[Qb];exact hi) y (by rw[Qp hi];exact hy)
 have hok:InsROk (j:Int) mo rm (pln L9) x:=by rw[hL9];exact hok0
 have hne:=hok.ne
 have hlen9:=hok.len
 have hlf:=hok.lf
 rw[Qb]at hlf
 have hel9:=hB9.es _ (by rw[Qb];exact hlf)
 rw[Qp hlf]at hel9
 simp only[LNd.pl]at hel9
 refine oAl (λb4 _=>?_) Xw
 refine aU7 ?_
 refine oCh rfl (λw1 h1=>c75 w1 j mo rm (some ⟨gn,0,none⟩) gc0 L9 x.key hj h09 hB9 hT9 (HS.nt_at h1 aPk aPk) hk hkl) (λ⟨pa,pc⟩_=>?_)
 dsimp only
 refine Xo (λw h=>HS.pown_some (P:=(Qh (j:Int) (pln L9) x.key).1) (a:=pa) (c:=pc) hne h aPk) λhpa=>?_
 obtain⟨gp,hpa⟩:=hpa
 refine aT12 ?_
 refine o_p (Qa rfl rfl rfl QB ((Qh (j:Int) (pln L9) x.key).1.length-1) om om hpa) rfl (o_q (Qn rfl rfl Xq (λw h=>HS.pown_rd (P:=(Qh (j:Int) (pln L9) x.key).1) (a:=pa) (c:=pc) (k:=(Qh (j:Int) (pln L9) x.key).1.length-1) om hpa h aPk)) rfl (Qm (show _=Value.int .i64 ((Q2 (Qh (j:Int) (pln L9) x.key).1):Int)from rfl) (aU8 ?_)))
 refine oCq rfl (λw1 h1=>c76 w1 j mo rm (some ⟨gn,0,none⟩) gc0 L9 (Q2 (Qh (j:Int) (pln L9) x.key).1) x.key hj hlf (HS.nt_at h1 aPk aPk) om hel9 (hK9 _ hlf) hk hkl) (aU7 ?_)
 refine Qg (L':=[(3,_),(4,_),(5,_),(6,_),(8,_),(9,_)]) aSx (λ_ h=>h) ?_
 refine Qq [14] Qx ?_
 refine dFa 0 ?_
 refine dLd 1 [[]] ?_
 refine dP 2 ?_
 refine dFa 3 ?_
 refine dLd 4 [[]] ?_
 refine dP 5 ?_
 refine dV 6 rfl (Qa rfl rfl rfl QE ((Q2 (Qh (j:Int) (pln L9) x.key).1)) om om rfl) (Qs (show _=Value.pointer (some ⟨gn,(Q2 (Qh (j:Int) (pln L9) x.key).1)*3,none⟩)from by rw[Nat.zero_add]) (dFa 7 ?_))
 refine dQ 8 [[]] rfl (Qn rfl rfl XZ (λw h=>HS.nd_cell hlf h aPk 1 rfl (by decide))) (dP 9 ?_)
 refine dLn 10 [[]] ?_
 refine dH 11 rfl (Q3 rfl Qpn rfl (λw1 h1=>c77 w1 (nth L9 (Q2 (Qh (j:Int) (pln L9) x.key).1)).ea (nth L9 (Q2 (Qh (j:Int) (pln L9) x.key).1)).ec (nth L9 (Q2 (Qh (j:Int) (pln L9) x.key).1)).es (plc (j:Int) (nth L9 (Q2 (Qh (j:Int) (pln L9) x.key).1)).es x.key) x (HS.es_row hlf h1 aPk) om (ZJ _ _ _) (HS.es_room hlf h1 aPk).1)) (λb5 _=>dBa ?_)
 refine dV 12 rfl (Qa rfl rfl rfl QE ((Q2 (Qh (j:Int) (pln L9) x.key).1)) om om rfl) (Qs (show _=Value.pointer (some ⟨gn,(Q2 (Qh (j:Int) (pln L9) x.key).1)*3,none⟩)from by rw[Nat.zero_add]) (dFa 13 ?_))
 refine dSt 14 ?_ (hl:=(by rw[Qj nv3];show _+1<=_;omega))
 refine dTu [] ?_
 refine dNi ?_
 refine aU4 ?_
 refine Qdd (λw h=>HS.es_set (gn:=gn) (cap:=gc0) (ea:=b5.1) (ec:=b5.2) (es:=QF (nth L9 (Q2 (Qh (j:Int) (pln L9) x.key).1)).es (plc (j:Int) (nth L9 (Q2 (Qh (j:Int) (pln L9) x.key).1)).es x.key) x) hlf h aPk aPk aPk) λL1=>?_
 refine Xo (λw h=>h.1) λhS1=>Q6 (λw h=>h.2) ?_
 have hL1:pln L1=(Qj2 (j:Int) (pln L9) x):=by rw[hS1.es,Qj2,Qp hlf];rfl
 refine Q6 (C':=HS w [] [.blk b4 27 4 [.int .i64 (j:Int),.int .i64 mo,.int .i64 rm,.slice (some ⟨gn,0,none⟩) (L1).length gc0],.blk gn 64 (gc0*3) ((L1).flatMap LNd.vals),.star ((L1).map (Qw 76)),.own (.slice pa ((Qh (j:Int) (pln L9) x.key).1).length pc) 3 1 ((Qh (j:Int) (pln L9) x.key).1).length (((Qh (j:Int) (pln L9) x.key).1).map λi:Nat=>Value.int .i64 (i:Int)),.blk b2 76 2 (TEnt.vals x),.blk b3 27 4 [.int .i64 0,.int .i64 0,.int .i64 0,.slice none 0 0]]) (λw2 h=>by rw[hS1.len];exact h.ent aEt) (aT2 ?_)
 refine Qm (show _=Value.int .i64 (((Qh (j:Int) (pln L9) x.key).1.length-1:Nat):Int)from by congr 1;omega) (aU3 ?_)
 refine Qg (L':=[(4,_),(5,_),(6,_),(11,_)]) aSx (λ_ h=>h) ?_
 refine Qt (α:=((Nat×Nat)×List LNd)×Nat) [11,53,54,55,56,57,58,59,60,61,62,63,64,65,66,67,68,69,70,71,72,73,74,75,76,77,78,79] (λy=>[(11,.int .i64 (y.2:Int))]) (λy=>HS w [] [.blk b4 27 4 [.int .i64 (j:Int),.int .i64 mo,.int .i64 rm,.slice (some ⟨y.1.1.1,0,none⟩) (y.1.2).length y.1.1.2],.blk y.1.1.1 64 (y.1.1.2*3) ((y.1.2).flatMap LNd.vals),.star ((y.1.2).map (Qw 76)),.own (.slice pa ((Qh (j:Int) (pln L9) x.key).1).length pc) 3 1 ((Qh (j:Int) (pln L9) x.key).1).length (((Qh (j:Int) (pln L9) x.key).1).map λi:Nat=>Value.int .i64 (i:Int)),.blk b2 76 2 (TEnt.vals x),.blk b3 27 4 [.int .i64 0,.int .i64 0,.int .i64 0,.slice none 0 0]]) (λy=>Qbl mo (Qh (j:Int) (pln L9) x.key).1 y.2 (pln y.1.2)=Qbl mo (Qh (j:Int) (pln L9) x.key).1 ((Qh (j:Int) (pln L9) x.key).1.length-1) (Qj2 (j:Int) (pln L9) x)/\Qhw mo (Qh (j:Int) (pln L9) x.key).1 y.2 (pln y.1.2)/\y.2<(Qh (j:Int) (pln L9) x.key).1.length/\y.1.2.length<=y.1.1.2/\y.1.1.2<=maxLen) (λy=>y.2) (((gn,gc0),L1),(Qh (j:Int) (pln L9) x.key).1.length-1) ⟨by rw[hL1],by rw[hL1];exact hok.grw,by simp only[];omega,by simp only[];rw[hS1.len];exact hn9,hm9⟩ aSx (λw h=>h.ent aEt) (λ⟨⟨⟨ga,gc⟩,Lk⟩,k⟩hx=>?_)
 dsimp only
 obtain⟨hx1,hx2,hx3,hx4,hx5⟩:=hx
 simp only[]at hx1 hx2 hx3 hx4 hx5
 refine aU6 ?_
 refine sCd rfl (λh6=>?_) λh6=>?_
 ·obtain⟨k1,rfl⟩:∃k1,k=k1+1:=⟨k-1,om⟩
  obtain⟨hkl9,hsp⟩:=hx2.1
  rw[Qb]at hkl9
  rw[Qp hkl9]at hsp
  simp only[LNd.pl]at hsp
  refine aU4 ?_
  refine Qq [] Qx ?_
  refine dFa 0 ?_
  refine dLd 1 [] ?_
  refine dP 2 ?_
  refine dP 3 ?_
  refine dV 4 rfl (Qa rfl rfl rfl QB (k1+1) om om hpa) (dQ 5 [] rfl (Qn rfl rfl Xq (λw h=>HS.pown_rd (P:=(Qh (j:Int) (pln L9) x.key).1) (a:=pa) (c:=pc) (k:=k1+1) om hpa h aPk)) (dV 6 rfl (Qa rfl rfl rfl QE ((nth (Qh (j:Int) (pln L9) x.key).1 (k1+1))) om om rfl) (Qs (show _=Value.pointer (some ⟨ga,(nth (Qh (j:Int) (pln L9) x.key).1 (k1+1))*3,none⟩)from by rw[Nat.zero_add]) (dFa 7 ?_))))
  refine dQ 8 [] rfl (Qn rfl rfl XZ (λw h=>HS.nd_cell hkl9 h aPk 1 rfl (by decide))) (dV 9 rfl (Qz rfl rfl Tryz.underlying62) (dFa 10 ?_))
  refine dLd 11 [] ?_
  refine dP 12 ?_
  refine dNi ?_
  refine sCd rfl (λh7=>?_) λh7=>?_
  ·have hbig:mo<((nth Lk (nth (Qh (j:Int) (pln L9) x.key).1 (k1+1))).es.length:Int):=h7
   refine Qq [9] Qx ?_
   refine dP 0 ?_
   refine dP 1 ?_
   refine dP 2 ?_
   try refine dWr ?_
   refine dV 3 rfl (Qa rfl rfl rfl QB (k1) om om hpa) (dQ 4 [[]] rfl (Qn rfl rfl Xq (λw h=>HS.pown_rd (P:=(Qh (j:Int) (pln L9) x.key).1) (a:=pa) (c:=pc) (k:=k1) om hpa h aPk)) (dP 5 ?_))
   refine dP 6 ?_
   refine dV 7 rfl (Qa rfl rfl rfl QB (k1+1) om om hpa) (dQ 8 [[]] rfl (Qn rfl rfl Xq (λw h=>HS.pown_rd (P:=(Qh (j:Int) (pln L9) x.key).1) (a:=pa) (c:=pc) (k:=k1+1) om hpa h aPk)) (dH 9 rfl (QT (Cs:=[.blk b4 27 4 [.int .i64 (j:Int),.int .i64 mo,.int .i64 rm,.slice (some ⟨ga,0,none⟩) (Lk).length gc],.blk ga 64 (gc*3) ((Lk).flatMap LNd.vals),.star ((Lk).map (Qw 76))]) rfl Qo9 rfl aPs (λw1 h1 hf=>c78 w1 b4 j mo rm ga gc Lk (nth (Qh (j:Int) (pln L9) x.key).1 k1) (nth (Qh (j:Int) (pln L9) x.key).1 (k1+1)) hf hx4 hx5 (hsp hbig))) (λ⟨⟨g5,c5⟩,L5⟩hF5=>dTu [] ?_)))
   refine dNi ?_
   refine aT4 ?_
   refine aU2 ?_
   exact sBk (((g5,c5),L5),k1) (by(try simp only[]);omega) ⟨by simp only[];rw[hF5.1,<-hx1,Qbl,if_pos (by rw[Qp hkl9];exact hbig)],by simp only[];rw[hF5.1];have h9:=hx2.2;rw[if_pos (by rw[Qp hkl9];exact hbig)]at h9;exact h9,by simp only[];omega,hF5.2.1,hF5.2.2⟩ (by refine Qc9 (congrArg (λe=>some (Value.int .i64 e)) (show _=_ from by simp only[];omega)) ?_;repeat (first|exact Qio|refine Qc9 rfl ?_))
  have hbig:¬mo<((nth Lk (nth (Qh (j:Int) (pln L9) x.key).1 (k1+1))).es.length:Int):=by have hq:=h7;omega
  refine aT5 ?_
  refine aU2 ?_
  exact sBk (((ga,gc),Lk),k1) (by(try simp only[]);omega) ⟨by simp only[];rw[<-hx1,Qbl,if_neg (by rw[Qp hkl9];exact hbig)],by simp only[];have h9:=hx2.2;rw[if_neg (by rw[Qp hkl9];exact hbig)]at h9;exact h9,by simp only[];omega,hx4,hx5⟩ (by refine Qc9 (congrArg (λe=>some (Value.int .i64 e)) (show _=_ from by simp only[];omega)) ?_;repeat (first|exact Qio|refine Qc9 rfl ?_))
 obtain rfl:k=0:=om
 have hLG:pln Lk=Qbl mo (Qh (j:Int) (pln L9) x.key).1 ((Qh (j:Int) (pln L9) x.key).1.length-1) (Qj2 (j:Int) (pln L9) x):=hx1
 obtain⟨LG,rfl⟩:∃LG,LG=Lk:=⟨_,rfl⟩
 have hrt:RootROk mo rm (pln LG):=by rw[hLG];exact hok.root
 have hiG:0<LG.length:=by rw[<-Qb];exact hrt.lt
 have hlG:=hrt.len
 rw[Qb]at hlG
 refine Qi rfl ?_
 refine aU2 ?_
 refine Qq [] Qx ?_
 refine dFa 0 ?_
 refine dLd 1 [] ?_
 refine dV 2 rfl (Qa rfl rfl rfl QE (0) om om rfl) (Qs (show _=Value.pointer (some ⟨ga,0*3,none⟩)from by rw[Nat.zero_add]) (dFa 3 ?_))
 refine dQ 4 [] rfl (Qn rfl rfl XZ (λw h=>HS.nd_cell hiG h aPk 1 rfl (by decide))) (dV 5 rfl (Qz rfl rfl Tryz.underlying62) (dFa 6 ?_))
 refine dLd 7 [] ?_
 refine dP 8 ?_
 refine dNi ?_
 refine Qg (L':=[(4,_),(5,_),(6,_),(11,_),(88,_)]) aSx (λ_ h=>h) ?_
 refine Xe (α:=(Nat×Nat)×List LNd) [12,89,90,91,92,93,94,95,96,97,98,99,100,101,102,103,104,105,106,107,108,109,110,111,112,113,114,115,116,117,118,119,120,121,122,123,124,125,126,127,128,129,130,131] (λ_=>[]) (λy=>HS w [] [.blk b4 27 4 [.int .i64 (j:Int),.int .i64 mo,.int .i64 rm,.slice (some ⟨y.1.1,0,none⟩) (y.2).length y.1.2],.blk y.1.1 64 (y.1.2*3) ((y.2).flatMap LNd.vals),.star ((y.2).map (Qw 76)),.blk b3 27 4 [.int .i64 0,.int .i64 0,.int .i64 0,.slice none 0 0]]) (λy=>pln y.2=Qe0 mo rm (pln LG)/\y.2.length<=y.1.2/\y.1.2<=maxLen) ?_ ?_
 ·skip
  refine sCd rfl (λh8=>?_) λh8=>?_
  ·have hbR:rm<((nth (pln LG) 0).es.length:Int):=by rw[Qp hiG];exact h8
   refine aU2 ?_
   refine o_h (QT (Cs:=[.blk b4 27 4 [.int .i64 (j:Int),.int .i64 mo,.int .i64 rm,.slice (some ⟨ga,0,none⟩) (LG).length gc],.blk ga 64 (gc*3) ((LG).flatMap LNd.vals),.star ((LG).map (Qw 76))]) rfl QpI rfl aPs (λw1 h1 hf=>c79 w1 b4 j mo rm ga gc LG hf hx4 hx5 hiG om)) rfl (λ⟨⟨g6,c6⟩,L6⟩hF6=>?_)
   dsimp only
   obtain⟨hL6,hn6,hm6⟩:=hF6
   simp only[]at hL6 hn6 hm6
   have hi6:0<L6.length:=by have:=Qh0 (pln LG);rw[<-Qb,hL6];rw[Qb]at this;omega
   have ho6:(Xb (pln LG)).1<L6.length:=by rw[<-Qb,hL6];exact Qkl _
   have hon:(Xb (pln LG)).1≠0:=by have:=Qo8 (ns:=pln LG) (by rw[Qb];exact hiG);omega
   refine aU3 ?_
   refine Qq [18,21] Qx ?_
   refine dFa 0 ?_
   refine dLd 1 [[],[]] ?_
   refine dP 2 ?_
   refine dFa 3 ?_
   refine dLd 4 [[],[]] ?_
   refine dP 5 ?_
   refine dFa 6 ?_
   refine dLd 7 [[],[]] ?_
   refine dV 8 rfl (Qa rfl rfl rfl QE (0) om om rfl) (Qs (show _=Value.pointer (some ⟨g6,0*3,none⟩)from by rw[Nat.zero_add]) (dFa 9 ?_))
   refine dQ 10 [[],[]] rfl (Qn rfl rfl XZ (λw h=>HS.nd_cell hi6 h aPk 1 rfl (by decide))) (dFa 11 ?_)
   refine dLd 12 [[],[]] ?_
   refine dV 13 rfl (Qa rfl rfl rfl QE (0) om om rfl) (Qs (show _=Value.pointer (some ⟨g6,0*3,none⟩)from by rw[Nat.zero_add]) (dFa 14 ?_))
   refine dQ 15 [[],[]] rfl (Qn rfl rfl XN (λw h=>HS.nd_cell hi6 h aPk 2 rfl (by decide))) (dV 16 rfl (Qa rfl rfl rfl QE ((Xb (pln LG)).1) om om rfl) (Qs (show _=Value.pointer (some ⟨g6,(Xb (pln LG)).1*3,none⟩)from by rw[Nat.zero_add]) (dFa 17 ?_)))
   refine dSt 18 ?_ (hl:=(by rw[Qj nv3];show _+1<=_;omega))
   refine dTu [21] ?_
   refine dV 19 rfl (Qa rfl rfl rfl QE ((Xb (pln LG)).1) om om rfl) (Qs (show _=Value.pointer (some ⟨g6,(Xb (pln LG)).1*3,none⟩)from by rw[Nat.zero_add]) (dFa 20 ?_))
   refine QmZ 21 rfl (Xt rfl rfl rfl XN rfl aPt (by rw[Qe,Qj nv3];show _+1<=_;omega) rfl) (by kernel_rfl) (λw h=>h.ent aEt) (λ_ _=>?_)
   refine dTu [] ?_
   refine dNi ?_
   refine aU3 ?_
   refine Qdd (λw h=>HS.node_move (i:=0) (gn:=g6) (cap:=c6) hi6 ho6 (λe=>hon e.symm) h aPk aPk) λL7=>?_
   refine Xo (λw h=>h.1) λhS7=>Q6 (λw h=>h.2) ?_
   have hi7:0<L7.length:=by rw[hS7.len];exact hi6
   have hN7:nth L7 0=nth L6 0:=hS7.other hi6 hon
   rw[<-hN7]
   refine aU4 ?_
   refine o_h (Qd (cs:=[_]) rfl rfl QB Yo rfl rfl rfl) rfl (λb9 _=>o_p (Qa rfl rfl rfl QE (0) om om rfl) rfl (Qm (show _=Value.pointer (some ⟨g6,0*3,none⟩)from by rw[Nat.zero_add]) (aU ?_)))
   refine Qal (Xt rfl rfl rfl XZ rfl aPt (by rw[Qj nv3];show _+1<=_;omega) rfl) (λ_ _=>o_p (Qa rfl rfl rfl QE (0) om om rfl) rfl (Qm (show _=Value.pointer (some ⟨g6,0*3,none⟩)from by rw[Nat.zero_add]) (aU ?_)))
   refine Qal (Xt rfl rfl rfl XN rfl aPt (by rw[Qe,Qj nv3];show _+1<=_;omega) rfl) (λ_ _=>aU2 ?_)
   refine Qg (L':=[(4,_),(5,_),(6,_),(11,_),(12,_),(88,_)]) aSx (λ_ h=>h) ?_
   refine QkU (λw h=>HS.node_low (i:=0) (gn:=g6) (cap:=c6) (ca:=some ⟨b9,0,none⟩) (cc:=1) (cs:=[((Xb (pln LG)).1:Int)]) hi7 (HS.own_shut (t:=3) (sz:=1) (n:=1) (cap:=1) (h.pick (A:=.blk b9 3 (1*1) (inV ((Xb (pln LG)).1:Int))) aPk) rfl (by decide) (by decide)) (.there aPk) .here aPk) λL8=>?_
   refine X0 (λw h=>h.1) λhS8=>Zl (λw h=>h.2) ?_
   have ho8:(Xb (pln LG)).1<L8.length:=by rw[hS8.len,hS7.len];exact ho6
   have hl8:L8.length=L6.length:=by rw[hS8.len,hS7.len]
   have hL8:pln L8=(QaH (pln LG)).2:=Qo7 hL6 hi6 ho6 hS7 hS8 hi7
   refine Zl (C':=HS w [] [.blk b4 27 4 [.int .i64 (j:Int),.int .i64 mo,.int .i64 rm,.slice (some ⟨g6,0,none⟩) (L8).length c6],.blk g6 64 (c6*3) ((L8).flatMap LNd.vals),.star ((L8).map (Qw 76)),.own (.slice pa ((Qh (j:Int) (pln L9) x.key).1).length pc) 3 1 ((Qh (j:Int) (pln L9) x.key).1).length (((Qh (j:Int) (pln L9) x.key).1).map λi:Nat=>Value.int .i64 (i:Int)),.blk b2 76 2 (TEnt.vals x),.blk b3 27 4 [.int .i64 0,.int .i64 0,.int .i64 0,.slice none 0 0]]) (λw2 h=>by rw[hl8];exact h.ent aEt) (Qq [] Qx ?_)
   refine dFa 0 ?_
   refine dLd 1 [] ?_
   refine dP 2 ?_
   refine dV 3 rfl (Qa rfl rfl rfl QE ((Xb (pln LG)).1) om om rfl) (Qs (show _=Value.pointer (some ⟨g6,(Xb (pln LG)).1*3,none⟩)from by rw[Nat.zero_add]) (dFa 4 ?_))
   refine dQ 5 [] rfl (Qn rfl rfl XZ (λw h=>HS.nd_cell ho8 h aPk 1 rfl (by decide))) (dV 6 rfl (Qz rfl rfl Tryz.underlying62) (dFa 7 ?_))
   refine dLd 8 [] ?_
   refine dP 9 ?_
   refine dNi ?_
   refine sCd rfl (λh10=>?_) λh10=>?_
   ·have hb8:mo<((nth (QaH (pln LG)).2 (QaH (pln LG)).1).es.length:Int):=by rw[<-hL8,show(QaH (pln LG)).1=(Xb (pln LG)).1 from rfl,Qp ho8];exact h10
    have hspR:=hrt.spl hbR hb8
    refine aU2 ?_
    refine o_h (QT (Cs:=[.blk b4 27 4 [.int .i64 (j:Int),.int .i64 mo,.int .i64 rm,.slice (some ⟨g6,0,none⟩) (L8).length c6],.blk g6 64 (c6*3) ((L8).flatMap LNd.vals),.star ((L8).map (Qw 76))]) rfl Qo9 rfl aPs (λw1 h1 hf=>c78 w1 b4 j mo rm g6 c6 L8 0 (Xb (pln LG)).1 hf om hm6 (by rw[hL8];exact hspR))) rfl (λ⟨⟨g7,c7⟩,L9b⟩hF7=>aU ?_)
    exact Qo ((g7,c7),L9b) ⟨by rw[Qe0,if_pos hbR,if_pos hb8,<-hL8];exact hF7.1,hF7.2.1,hF7.2.2⟩ aSx (λw h=>h.ent aEt)
   have hb8:¬mo<((nth (QaH (pln LG)).2 (QaH (pln LG)).1).es.length:Int):=by rw[<-hL8,show(QaH (pln LG)).1=(Xb (pln LG)).1 from rfl,Qp ho8];have hq:=h10;simp only[LNd.pl];omega
   refine aU ?_
   exact Qo ((g6,c6),L8) ⟨by rw[Qe0,if_pos hbR,if_neg hb8];exact hL8,by simp only[];omega,hm6⟩ aSx (λw h=>h.ent aEt)
  have hbR:¬rm<((nth (pln LG) 0).es.length:Int):=by rw[Qp hiG];have hq:=h8;simp only[LNd.pl];omega
  refine aU ?_
  exact Qo ((ga,gc),LG) ⟨by rw[Qe0,if_neg hbR],hx4,hx5⟩ aSx (λw h=>h.ent aEt)
 intro⟨⟨gz,cz⟩,LZ⟩ hz
 dsimp only
 obtain⟨hz1,hz2,hz3⟩:=hz
 simp only[]at hz1 hz2 hz3
 refine aU3 ?_
 refine Qal (Xt rfl rfl rfl Yf rfl aPt (by show 4<=4;omega) rfl) (λ_ _=>aU ?_)
 exact Qf (rs:=[.cell 4 27]) rfl (.cell rfl Yf aPk rfl (.nil)) (λw' h'=>⟨((some ⟨gz,0,none⟩,cz),LZ),rfl,by rw[hz1,hLG,<-hL9];rfl,QeW (h'.ent (Bs:=[.blk gz 64 (cz*3) (LZ.flatMap LNd.vals),.star (LZ.map (Qw 76))]) aEt) hz2 hz3⟩)
theorem QfN:Qp0 Tryz.prog 76=some [1,1]:=by kernel_rfl
instance:TFn Tryz.prog 125:=⟨by kernel_rfl⟩
instance:TFn Tryz.prog 25:=⟨by kernel_rfl⟩
theorem Qpa:QH Tryz.prog 73=true:=by kernel_rfl
theorem Qry:QH Tryz.prog 72=true:=by kernel_rfl
instance:TFn Tryz.prog 40:=⟨by kernel_rfl⟩
theorem c125(w:World)(a b:Option Addr)(c d:Nat)(l m:List TEnt)(hs:Rw TEnt.vals 2 w [] a l)(ht:Rw TEnt.vals 2 w [] b m)(hl:l.length<=100000)(hm:m.length<=100000):CR 125 #[.slice a l.length c,.slice b m.length d] w (.bool (decide (l=m))):=by
 refine eN2 Tryz.func125 Tryz.ntmps125 ?_
 refine Z5 ?_
 refine sCd rfl (λh1=>?_) λh1=>?_
 ·have hn9:l≠m:=λe=>by have hq:=h1;rw[e]at hq;simp at hq
  refine aU4 ?_
  exact rV (h:=by rw[decide_eq_false hn9];rfl)
 have hlm:l.length=m.length:=by have hq:=h1;omega
 refine aU7 ?_
 refine Qt (α:=Nat) [4,5,11,12,13,14,15,16,17,18,19,20,21,22,23,24,25] (λk=>[(5,.int .i64 (k:Int))]) (λ_=>HS w [] []) (λk=>k<=l.length/\∀j,j<k->nth l j=nth m j) (λk=>l.length-k) 0 ⟨Nat.zero_le _,λj h=>absurd h (Nat.not_lt_zero j)⟩ aSx (λw h=>h.ent aEt) (λk hx=>?_)
 obtain⟨hk1,hk3⟩:=hx
 refine aU8 ?_
 refine sCd rfl (λh2=>?_) λh2=>?_
 ·have hk:k<l.length:=by omega
  have hk2:k<m.length:=om
  refine aU4 ?_
  refine Qq [] Qx ?_
  refine dP 0 ?_
  refine dP 1 ?_
  refine dV 2 rfl (Qa rfl rfl rfl QL (k) om om (Rw.some hs om)) (dQ 3 [] rfl (Qu _ rfl rfl Ye rfl (Rw.rd hs om)) (dP 4 ?_))
  refine dP 5 ?_
  refine dV 6 rfl (Qa rfl rfl rfl QL (k) om om (Rw.some ht om)) (dQ 7 [] rfl (Qu _ rfl rfl Ye rfl (Rw.rd ht om)) (dV 8 rfl (QaJ rfl rfl rfl QfN (by rfl) (by rfl) (by rfl)) (dNi ?_)))
  refine sCd rfl (λh3=>?_) λh3=>?_
  ·have hn9:l≠m:=λe=>by have hq:=h3;rw[e]at hq;simp at hq
   refine aU4 ?_
   exact rV (h:=by rw[decide_eq_false hn9];rfl)
  have he9:nth l k=nth m k:=by have hq:=h3;exact QoU hq.1 hq.2.1
  refine aT5 ?_
  refine aU2 ?_
  exact sBk (k+1) om ⟨om,λj hj=>(Nat.lt_or_ge j k).elim (hk3 j) (λh9=>by obtain rfl:j=k:=om;exact he9)⟩
 have hl9:l=m:=Qc1 hlm λj hj=>hk3 j om
 refine Qi rfl ?_
 refine aU4 ?_
 exact rV (h:=by rw[decide_eq_true hl9];rfl)
theorem c72(w:World)(n m:LNd)(hne:Rw TEnt.vals 2 w [] n.ea n.es)(hnc:Rw inV 1 w [] n.ca n.cs)(hme:Rw TEnt.vals 2 w [] m.ea m.es)(hmc:Rw inV 1 w [] m.ca m.cs)(h1:n.es.length<=100000/\n.cs.length<=100000)(h2:m.es.length<=100000/\m.cs.length<=100000):CR 72 #[.agg #[.bool n.us,.slice n.ea n.es.length n.ec,.slice n.ca n.cs.length n.cc],.agg #[.bool m.us,.slice m.ea m.es.length m.ec,.slice m.ca m.cs.length m.cc]] w (.bool (decide (n.pl=m.pl))):=by
 refine eN2 Tryz.func72 Tryz.ntmps72 ?_
 refine aU2 ?_
 refine oBx λb1 _=>?_
 refine oBx λb2 _=>?_
 refine aU8 ?_
 refine o_p (QfK rfl rfl rfl Tryz.underlying4) rfl (aU ?_)
 refine XJ 6 10 16 rfl
  (λhg3 _=>by
   refine aU9 ?_
   refine oCq rfl (λw1 h1=>c125 w1 n.ea m.ea n.ec m.ec n.es m.es (hne.later h1.nil) (hme.later h1.nil) om om) ?_
   exact oJt 6 16)
  (λhg5 _=>by
   refine aU5 ?_
   exact oJf 6 16) ?_
 refine aU ?_
 refine XJ 6 17 23 rfl
  (λhg7 _=>by
   refine aU9 ?_
   refine oCq rfl (λw1 h1=>c25 w1 n.ca m.ca n.cc m.cc n.cs m.cs (hnc.later h1.nil) (hmc.later h1.nil) om om) ?_
   exact oJt 6 23)
  (λhg9 _=>by
   refine aU5 ?_
   exact oJf 6 23) ?_
 refine aU2 ?_
 exact rV (h:=by simp only[QV];rw[Qmh])
theorem c73(w:World)(co mo rm:Int)(a:Option Addr)(cap:Nat)(L:List LNd)(k:Nat)(hs:Rw LNd.vals 3 w [] a L):CR 73 #[.agg #[.int .i64 co,.int .i64 mo,.int .i64 rm,.slice a L.length cap],.int .i64 (k:Int)] w (.agg (LNd.vals (nth L k)).toArray):=by
 refine eN2 Tryz.func73 Tryz.ntmps73 ?_
 refine aU2 ?_
 refine oBx λb1 _=>?_
 refine oAl (λb2 _=>?_) XY
 refine YR ?_
 refine sCd rfl (λh3=>?_) λh3=>?_
 ·refine aU5 ?_
  refine o_p (Qa rfl rfl rfl QE (k) om om (Rw.some hs om)) rfl (o_q (Qu _ rfl rfl Y5 rfl (Rw.rd hs om)) rfl (aU2 ?_))
  exact Qf (rs:=[.cell 4 64]) rfl (.cell rfl Y5 aPk rfl (.nil)) (λw' h'=>⟨by first|rfl|(rw[YO om];rfl),h'.below⟩)
 refine aU3 ?_
 refine o_p (QD (cs:=[_,_,_]) rfl rfl Qf3 XY rfl) rfl (aU2 ?_)
 exact Qf (rs:=[.cell 4 64]) rfl (.cell rfl Y5 aPk rfl (.nil)) (λw' h'=>⟨by first|rfl|(rw[YO om];rfl),h'.below⟩)
theorem c40(w:World)(co mo rm co2 mo2 rm2:Int)(a b:Option Addr)(ca cb:Nat)(L M:List LNd)(hs:Nt w [] a L)(ht:Nt w [] b M)(hL:L.length<=1000)(hM:M.length<=1000)(hLs:Sm 100000 (pln L))(hMs:Sm 100000 (pln M)):CE 40 #[.agg #[.int .i64 co,.int .i64 mo,.int .i64 rm,.slice a L.length ca],.agg #[.int .i64 co2,.int .i64 mo2,.int .i64 rm2,.slice b M.length cb]] w [] (λg:Option Addr×Nat=>.slice g.1 (QgW (pln L) (pln M)).length g.2) (λg=>True) λg=>[.own (.slice g.1 ((QgW (pln L) (pln M))).length g.2) 3 1 ((QgW (pln L) (pln M))).length (((QgW (pln L) (pln M))).map λi:Nat=>Value.int .i64 (i:Int))]:=by
 refine eN2 Tryz.func40 Tryz.ntmps40 ?_
 refine aU2 ?_
 refine oBx λb1 _=>?_
 refine oBx λb2 _=>?_
 refine Y1 ?_
 refine Qt (α:=Nat×Option Addr×Nat) [5,6,7,8,9,10,11,12,13,14,15,16,17,18,19,20,21,22,23,24,25,26,27,28,29] (λx=>[(6,.int .i64 (x.1:Int)),(5,.slice x.2.1 (QdI (pln L) (pln M) x.1).length x.2.2)]) (λx=>HS w [] [.own (.slice x.2.1 ((QdI (pln L) (pln M) x.1)).length x.2.2) 3 1 ((QdI (pln L) (pln M) x.1)).length (((QdI (pln L) (pln M) x.1)).map λi:Nat=>Value.int .i64 (i:Int)),.blk b1 27 4 [.int .i64 co,.int .i64 mo,.int .i64 rm,.slice a L.length ca],.blk b2 27 4 [.int .i64 co2,.int .i64 mo2,.int .i64 rm2,.slice b M.length cb]]) (λx=>x.1<=(max L.length M.length)) (λx=>(max L.length M.length)-x.1) (0,none,0) (Nat.zero_le _) aSx (λw h=>(h.own_nil 3 1).ent aEt) (λ⟨k,ga,gc⟩hk1=>?_)
 dsimp only
 simp only[]at hk1
 refine YR ?_
 refine o_p (QcS rfl rfl rfl ) rfl (aU2 ?_)
 refine sCd rfl (λh3=>?_) λh3=>?_
 ·have hk:k<(max L.length M.length):=by have hq:=h3;omega
  have hkl:=QlY (pln L) (pln M) k
  refine aU4 ?_
  refine Qq [] Qx ?_
  refine dLn 0 [] ?_
  refine dP 1 ?_
  refine dQ 2 [] rfl (Ql rfl Qpa rfl (λw1 h1=>c73 w1 co mo rm a ca L k (Rw.later hs.1 h1.nil))) (dLn 3 [] ?_)
  refine dP 4 ?_
  refine dQ 5 [] rfl (Ql rfl Qpa rfl (λw1 h1=>c73 w1 co2 mo2 rm2 b cb M k (Rw.later ht.1 h1.nil))) (dQ 6 [] rfl (Ql rfl Qry rfl (λw1 h1=>c72 w1 (nth L k) (nth M k) ((hs.esA k).later h1.nil) ((hs.csA k).later h1.nil) ((ht.esA k).later h1.nil) ((ht.csA k).later h1.nil) (by have:=hLs k;rw[QaG]at this;exact this) (by have:=hMs k;rw[QaG]at this;exact this))) (dP 7 ?_))
  refine dNi ?_
  refine sCd rfl (λh4=>?_) λh4=>?_
  ·have hne9:nth (pln L) k≠nth (pln M) k:=by rw[QaG,QaG];have hq:=h4;simpa using hq
   have hst:=Qoi hne9
   refine aU3 ?_
   refine o_h (Qd (cs:=[_]) rfl rfl QB Yo rfl rfl rfl) rfl (λb5 _=>o_h (Qy [_] rfl rfl rfl QB Tryz.underlying52 Yo rfl aPk (Q5 aPk) rfl (by intro u hu;simp only[List.mem_cons,List.mem_nil_iff,or_false]at hu;subst hu;rfl) om (by simp only[maxLen];omega)) rfl (λb6 _=>aT6 ?_))
   refine aU2 ?_
   exact QR (k+1,b6.1,b6.2) (by(try simp only[]);omega) (by(try simp only[]);omega) (by dsimp only;rw[hst];simp only[List.length_append,List.length_singleton];exact aSx) (λw h=>by have h2:=h;dsimp only;rw[hst];simp only[List.length_append,List.length_singleton,List.map_append,List.map_cons,List.map_nil];exact h2.ent aEt)
  have hne9:nth (pln L) k=nth (pln M) k:=by rw[QaG,QaG];have hq:=h4;simpa using hq
  have hst:=QoM hne9
  refine aT5 ?_
  refine aU2 ?_
  exact QR (k+1,ga,gc) (by(try simp only[]);omega) (by(try simp only[]);omega) (by dsimp only;rw[hst];exact aSx) (λw h=>by dsimp only;rw[hst];exact h.ent aEt)
 obtain rfl:k=(max L.length M.length):=om
 refine Qi rfl ?_
 refine aU5 ?_
 exact rT rfl rfl (λw' h'=>⟨(ga,gc),by unfold QgW;rw[Qb,Qb];rfl,trivial,by unfold QgW;rw[Qb,Qb];exact h'.ent aEt⟩)
theorem c13(w:World)(co mo rm:Int)(a b:Option Addr)(ca cb:Nat)(L M:List LNd)(hs:Nt w [] a L)(ht:Nt w [] b M)(hL:L.length<=1000)(hM:M.length<=1000)(hLs:Sm 100000 (pln L))(hMs:Sm 100000 (pln M))(he:pln L=pln M):CR 13 #[.agg #[.int .i64 co,.int .i64 mo,.int .i64 rm,.slice a L.length ca],.agg #[.int .i64 co,.int .i64 mo,.int .i64 rm,.slice b M.length cb]] w (.bool true):=by
 have hl9:L.length=M.length:=by rw[<-Qb L,he,Qb]
 have hch:(QgW (pln L) (pln M))=[]:=Qlx he
 refine eN2 Tryz.func13 Tryz.ntmps13 ?_
 refine aU2 ?_
 refine oBx λb1 _=>?_
 refine oBx λb2 _=>?_
 refine YZ ?_
 refine oOr 6 10 16 rfl
  (λhg3 _=>by
   refine YR ?_
   exact oJf 6 16)
  (λhg5 _=>by
   refine aU5 ?_
   exact oJt 6 16) ?_
 refine aU ?_
 refine oOr 6 17 23 rfl
  (λhg7 _=>by
   refine YR ?_
   exact oJf 6 23)
  (λhg9 _=>by
   refine aU5 ?_
   exact oJt 6 23) ?_
 refine aU ?_
 refine oOr 8 24 32 rfl
  (λhg11 _=>by
   refine Qc0 ?_
   exact oJf 8 32)
  (λhg13 _=>by
   refine aU7 ?_
   exact oJt 8 32) ?_
 refine aU ?_
 refine sCd rfl (λh15=>?_) λh15=>?_
 ·exfalso;have hq9:=h15;simp[hl9]at hq9
 refine aU5 ?_
 refine oCh rfl (λw1 h1=>c40 w1 co mo rm co mo rm a b ca cb L M (hs.later h1.nil) (ht.later h1.nil) hL hM hLs hMs) (λb16 _=>?_)
 rw[hch]
 refine aU4 ?_
 exact rV
end Go.Proofs
namespace Gx
open Go Go.RowKit Go.Proofs
section
variable{w0 w:World}{M:List Nat}{As As':List HA}
theorem Qhd{a:Option Addr}:Nt w M a ([]:List LNd):=⟨Rw.nilR,λn hn=>(nomatch hn)⟩
end
theorem Qhu{m:Nat}:Sm m ([]:List Nd):=λk=>⟨Nat.zero_le _,Nat.zero_le _⟩
end Gx
namespace Gx
open Go Go.RowKit
def Xh(n:Nat)(S:List Int):List Value:=(List.range n).map λk=>Value.bool (decide (((k:Nat):Int)∈S))
theorem Qay(n:Nat)(S:List Int):(Xh n S).length=n:=by simp[Xh]
theorem QaD{n k:Nat}{S:List Int}(h:k<n):(Xh n S)[k]?=some (.bool (decide (((k:Nat):Int)∈S))):=by
 unfold Xh;rw[List.getElem?_map,List.getElem?_range h];rfl
theorem QhN{n k:Nat}{S:List Int}(h:k<n):QA (Xh n S) k [.bool true]=Xh n (((k:Nat):Int)::S):=by
 apply List.ext_getElem?;intro i;show((Xh n S).set k (.bool true))[i]?=_;rw[List.getElem?_set]
 by_cases hi:i<n
 ·rw[QaD hi]
  by_cases e:k=i
  ·subst e;rw[if_pos rfl,if_pos (by rw[Qay];exact h),QaD h,decide_eq_true (List.mem_cons_self ..)]
  ·rw[if_neg e,QaD hi];congr 2;have hne:((i:Nat):Int)≠((k:Nat):Int):=by omega
   simp[List.mem_cons,hne]
 ·rw[if_neg om,List.getElem?_eq_none (by rw[Qay];omega),List.getElem?_eq_none (by rw[Qay];omega)]
theorem Qnn{n:Nat}{c:Int}{S:List Int}(h:c∈S):Xh n (c::S)=Xh n S:=by
 unfold Xh;apply List.map_congr_left;intro k _;congr 1
 by_cases e:((k:Nat):Int)∈S
 ·rw[decide_eq_true e,decide_eq_true (List.mem_cons_of_mem _ e)]
 ·rw[decide_eq_false e,decide_eq_false (λh2=>by
   rcases List.mem_cons.1 h2 with h3|h3
   ·exact e (h3▸h)
   ·exact e h3)]
theorem Qo4{t:Tre}{i:Nat}{S:List Int}(h:¬(nth t.ns i).us=true):XX t i S=if(0<i/\i+1<t.ns.length)/\(nth t.ns i).es.length+(nth t.ns i).cs.length=0 then(0,S)else(3,S):=by
 unfold XX;simp only[];rw[if_neg h]
section
variable{t:Tre}{i:Nat}{S:List Int}{n:Nd}
theorem Qo2(hn:nth t.ns i=n)(hu:n.us=true)(h:¬(n.es.length:Int)<=YD t.mo t.rm i):XX t i S=(16,S):=by
 subst hn;unfold XX;simp only[];rw[if_pos hu,if_neg h]
theorem Qn0(hn:nth t.ns i=n)(hu:n.us=true)(h:(n.es.length:Int)<=YD t.mo t.rm i)(h2:¬(n.cs.length=0\/n.cs.length=n.es.length+1)):XX t i S=(10,S):=by
 subst hn;unfold XX;simp only[];rw[if_pos hu,if_pos h,if_neg h2]
theorem Qoj(hn:nth t.ns i=n)(hu:n.us=true)(h:(n.es.length:Int)<=YD t.mo t.rm i)(h2:n.cs.length=0\/n.cs.length=n.es.length+1)(h3:¬Zn t.co n.es=0):XX t i S=(Zn t.co n.es,S):=by
 subst hn;unfold XX;simp only[];rw[if_pos hu,if_pos h,if_pos h2,if_neg h3]
theorem Qkd(hn:nth t.ns i=n)(hu:n.us=true)(h:(n.es.length:Int)<=YD t.mo t.rm i)(h2:n.cs.length=0\/n.cs.length=n.es.length+1)(h3:Zn t.co n.es=0)(h4:¬(X7 t.ns n.cs S).1=0):XX t i S=X7 t.ns n.cs S:=by
 subst hn;unfold XX;simp only[];rw[if_pos hu,if_pos h,if_pos h2,if_pos h3,if_neg h4]
theorem Qol(hn:nth t.ns i=n)(hu:n.us=true)(h:(n.es.length:Int)<=YD t.mo t.rm i)(h2:n.cs.length=0\/n.cs.length=n.es.length+1)(h3:Zn t.co n.es=0)(h4:(X7 t.ns n.cs S).1=0):XX t i S=(Qaw t.co n.es,(X7 t.ns n.cs S).2):=by
 subst hn;unfold XX;simp only[];rw[if_pos hu,if_pos h,if_pos h2,if_pos h3,if_pos h4]
end
theorem eachF_at{es:List Int}{k:Nat}(hk:k<es.length)(h:∀j,j<k->es.getD j 0=0)(h2:es.getD k 0≠0):QU es 0=((k:Int),es.getD k 0):=by
 have key:∀i,i<=k->QU es 0=QU (es.drop i) i:=by
  intro i
  induction i with
  | zero=>intro _;rfl
  | succ i ih=>
   intro hi;rw[ih om,Xp om,if_pos (h i om)]
 rw[key k (Nat.le_refl _),Xp hk,if_neg h2]
theorem eachF_all{es:List Int}(h:∀j,j<es.length->es.getD j 0=0):QU es 0=(0,0):=by
 have key:∀i,i<=es.length->QU es 0=QU (es.drop i) i:=by
  intro i
  induction i with
  | zero=>intro _;rfl
  | succ i ih=>
   intro hi;rw[ih om,Xp om,if_pos (h i om)]
 rw[key _ (Nat.le_refl _),List.drop_length];rfl
theorem Qmo{co:Int}{es:List TEnt}{k:Nat}(hk:k<es.length)(h1:∀q,q<k->XP co (nth es q)=0)(h2:¬XP co (nth es k)=0):Zn co es=XP co (nth es k):=by
 unfold Zn;rw[eachF_at (es:=es.map (XP co)) (k:=k) (by rw[List.length_map];exact hk) (λq hq=>by rw[QbX om];exact h1 q hq) (by rw[QbX hk];exact h2),QbX hk]
theorem QnE{co:Int}{es:List TEnt}(h1:∀q,q<es.length->XP co (nth es q)=0):Zn co es=0:=by
 unfold Zn;rw[eachF_all (λq hq=>by rw[List.length_map]at hq;rw[QbX hq];exact h1 q hq)]
theorem Qne{co:Int}{es:List TEnt}{k:Nat}(hk:k<es.length)(h1:∀q,q<k->QaE co es q=0)(h2:¬QaE co es k=0):Qaw co es=QaE co es k:=by
 unfold Qaw;rw[eachF_at (es:=(List.range es.length).map (QaE co es)) (k:=k) (by simpa using hk) (λq hq=>by rw[QbU om];exact h1 q hq) (by rw[QbU hk];exact h2),QbU hk]
theorem QlB{co:Int}{es:List TEnt}(h1:∀q,q<es.length->QaE co es q=0):Qaw co es=0:=by
 unfold Qaw;rw[eachF_all (λq hq=>by rw[List.length_map,List.length_range]at hq;rw[QbU hq];exact h1 q hq)]
end Gx
namespace Go.Proofs
open Go Go.RowKit Gx
attribute [local irreducible] Go.Calls Gx.S Gx.O Gx.D Gx.OpP Gx.OpQ Gx.OpH
set_option maxRecDepth 20000
theorem QqV:QH Tryz.prog 130=true:=by kernel_rfl
theorem c85(w:World)(j:Nat)(mo rm:Int)(a:Option Addr)(cap:Nat)(L:List LNd)(i sb scap tot:Nat)(S:List Int)(hw:HS w (fps [.blk sb 4 tot (Xh L.length S)]) [.blk sb 4 tot (Xh L.length S)] w)(hs:Nt w (fps [.blk sb 4 tot (Xh L.length S)]) a L)(hj:j<=3)(hi:i<L.length)(hl:L.length<=1000)(hel:(nth L i).es.length<=1000)(hcl:(nth L i).cs.length<=1000)(hK:∀x∈(nth L i).es,x.key.length<=1000000):CE 85 #[.agg #[.int .i64 (j:Int),.int .i64 mo,.int .i64 rm,.slice a L.length cap],.int .i64 (i:Int),.slice (some ⟨sb,0,none⟩) L.length scap] w (fps [.blk sb 4 tot (Xh L.length S)]) (λg:Unit=>.int .i64 (XX (⟨(j:Int),mo,rm,pln L⟩:Tre) i S).1) (λg=>True) λg=>[.blk sb 4 tot (Xh L.length (XX (⟨(j:Int),mo,rm,pln L⟩:Tre) i S).2)]:=by
 have hNI:=Qp hi
 have hnl:(pln L).length=L.length:=Qb L
 refine eW3 Tryz.func85 Tryz.ntmps85 hw ?_
 refine aU2 ?_
 refine oBx λb1 _=>?_
 refine aU7 ?_
 refine o_p (Qa rfl rfl rfl QE (i) om om (Rw.some hs.1 om)) rfl (o_q (Qu _ rfl rfl Y5 rfl (Rw.rd hs.1 hi)) rfl (oAl (λb2 _=>?_) XY))
 refine aU9 ?_
 refine sCd rfl (λh3=>?_) λh3=>?_
 ·have hu9:¬(nth L i).us=true:=by have hq:=h3;simp[hq]
  have hun:=Qo4 (t:=(⟨(j:Int),mo,rm,pln L⟩:Tre)) (S:=S) (i:=i) (by rw[show((⟨(j:Int),mo,rm,pln L⟩:Tre)).ns=pln L from rfl,hNI];exact hu9)
  rw[show((⟨(j:Int),mo,rm,pln L⟩:Tre)).ns=pln L from rfl,hNI,hnl]at hun
  refine aU6 ?_
  refine oOr 7 24 31 rfl
   (λhg4 _=>by
    refine aT4 ?_
    refine aU8 ?_
    exact oJf 7 31)
   (λhg6 _=>by
    refine aU6 ?_
    exact oJt 7 31) ?_
  refine aU ?_
  refine oOr 5 32 37 rfl
   (λhg8 _=>by
    refine aU8 ?_
    exact oJf 5 37)
   (λhg10 _=>by
    refine aU4 ?_
    exact oJt 5 37) ?_
  refine aU ?_
  refine oOr 5 38 43 rfl
   (λhg12 _=>by
    refine aU8 ?_
    exact oJf 5 43)
   (λhg14 _=>by
    refine aU4 ?_
    exact oJt 5 43) ?_
  refine aU ?_
  refine sCd rfl (λh16=>?_) λh16=>?_
  ·have hn9:¬((0<i/\i+1<L.length)/\(nth L i).es.length+(nth L i).cs.length=0):=by have hq:=h16;omega
   have hun2:(XX (⟨(j:Int),mo,rm,pln L⟩:Tre) i S)=(3,S):=by rw[hun];exact if_neg hn9
   refine aU4 ?_
   exact rT rfl rfl (λw' h'=>⟨(),by rw[hun2];rfl,trivial,by rw[hun2];exact h'.ent aEt⟩)
  have hn9:(0<i/\i+1<L.length)/\(nth L i).es.length+(nth L i).cs.length=0:=by have hq:=h16;omega
  have hun2:(XX (⟨(j:Int),mo,rm,pln L⟩:Tre) i S)=(0,S):=by rw[hun];exact if_pos hn9
  refine aU5 ?_
  exact rT rfl rfl (λw' h'=>⟨(),by rw[hun2];rfl,trivial,by rw[hun2];exact h'.ent aEt⟩)
 have hu9:(nth L i).us=true:=by have hq:=h3;simpa using hq
 refine Z5 ?_
 refine Qg (L':=[(2,_),(3,_),(6,_),(7,_),(8,_),(47,_)]) aSx (λ_ h=>h) ?_
 refine Qg1 (α:=Unit) [8,48,49] (λ_=>[(8,.int .i64 (YD mo rm i))]) (λ_=>True) ?_ ?_
 ·skip
  refine sCd rfl (λh17=>?_) λh17=>?_
  ·have hi0:i=0:=by have hq:=h17;omega
   refine aU5 ?_
   exact Qo () trivial (by rw[show YD mo rm i=rm from if_pos hi0];exact aSx) (λw h=>h)
  have hi0:¬i=0:=by have hq:=h17;omega
  refine aU ?_
  exact Qo () trivial (by rw[show YD mo rm i=mo from if_neg hi0];exact aSx) (λw h=>h)
 intro _ _
 refine aU9 ?_
 refine sCd rfl (λh18=>?_) λh18=>?_
 ·have h16:(XX (⟨(j:Int),mo,rm,pln L⟩:Tre) i S)=(16,S):=Qo2 (t:=(⟨(j:Int),mo,rm,pln L⟩:Tre)) hNI hu9 (by show¬((nth L i).es.length:Int)<=YD mo rm i;have hq:=h18;omega)
  refine aU4 ?_
  exact rT rfl rfl (λw' h'=>⟨(),by rw[h16];rfl,trivial,by rw[h16];exact h'.ent aEt⟩)
 have hM9:((nth L i).es.length:Int)<=YD mo rm i:=by have hq:=h18;omega
 refine aU9 ?_
 refine XJ 9 59 68 rfl
  (λhg19 _=>by
   refine aT14 ?_
   refine aU2 ?_
   exact oJt 9 68)
  (λhg21 _=>by
   refine aU8 ?_
   exact oJf 9 68) ?_
 refine aU ?_
 refine sCd rfl (λh23=>?_) λh23=>?_
 ·have h10:(XX (⟨(j:Int),mo,rm,pln L⟩:Tre) i S)=(10,S):=Qn0 (t:=(⟨(j:Int),mo,rm,pln L⟩:Tre)) hNI hu9 hM9 (by show¬((nth L i).cs.length=0\/(nth L i).cs.length=(nth L i).es.length+1);have hq:=h23;omega)
  refine aU4 ?_
  exact rT rfl rfl (λw' h'=>⟨(),by rw[h10];rfl,trivial,by rw[h10];exact h'.ent aEt⟩)
 have hS9:(nth L i).cs.length=0\/(nth L i).cs.length=(nth L i).es.length+1:=by have hq:=h23;omega
 refine aU7 ?_
 refine Qg (L':=[(2,_),(3,_),(6,_),(7,_),(9,_)]) aSx (λ_ h=>h) ?_
 refine Qt (α:=Nat) [6,9,10,69,70,71,72,73,74,75,76,77,78,79,80,81,82,83,84,85,86] (λk=>[(9,.int .i64 (k:Int))]) (λ_=>HS w (fps [.blk sb 4 tot (Xh L.length S)]) [.blk sb 4 tot (Xh L.length S),.blk b1 27 4 [.int .i64 (j:Int),.int .i64 mo,.int .i64 rm,.slice a L.length cap],.blk b2 64 3 (LNd.vals (nth L i))]) (λk=>k<=(nth L i).es.length/\∀q,q<k->XP (j:Int) (nth (nth L i).es q)=0) (λk=>(nth L i).es.length-k) 0 ⟨Nat.zero_le _,λj h=>absurd h (Nat.not_lt_zero j)⟩ aSx (λw h=>h.ent aEt) (λk hx=>?_)
 obtain⟨hk1,hk3⟩:=hx
 refine aU9 ?_
 refine sCd rfl (λh24=>?_) λh24=>?_
 ·have hk5:k<(nth L i).es.length:=by omega
  refine aU4 ?_
  refine Qq [] Qx ?_
  refine dFa 0 ?_
  refine dLd 1 [] ?_
  refine dFa 2 ?_
  refine dLd 3 [] ?_
  refine dP 4 ?_
  refine dV 5 rfl (Qa rfl rfl rfl QL (k) om om (Rw.some (hs.es hi) om)) (dQ 6 [] rfl (Qu _ rfl rfl Ye rfl (Rw.rd (hs.es hi) hk5)) (dQ 7 [] rfl (Ql rfl QqV rfl (λw1 h1=>c130 w1 j (nth (nth L i).es k) hj (hK _ (QQ hk5)))) (dP 8 ?_)))
  refine dNi ?_
  refine aU5 ?_
  refine sCd rfl (λh25=>?_) λh25=>?_
  ·have hz6:¬XP (j:Int) (nth (nth L i).es k)=0:=h25
   have hEb:=Qmo hk5 hk3 hz6
   have hEe:(XX (⟨(j:Int),mo,rm,pln L⟩:Tre) i S)=(XP (j:Int) (nth (nth L i).es k),S):=by rw[<-hEb];exact Qoj (t:=(⟨(j:Int),mo,rm,pln L⟩:Tre)) hNI hu9 hM9 hS9 (by show¬Zn (j:Int) (nth L i).es=0;rw[hEb];exact hz6)
   refine aU5 ?_
   exact rT rfl rfl (λw' h'=>⟨(),by rw[hEe];rfl,trivial,by rw[hEe];exact h'.ent aEt⟩)
  have hz6:XP (j:Int) (nth (nth L i).es k)=0:=by have hq:=h25;omega
  refine aT5 ?_
  refine aU2 ?_
  exact sBk (k+1) om ⟨om,λq hq=>(Nat.lt_or_ge q k).elim (hk3 q) (λh9=>by obtain rfl:q=k:=om;exact hz6)⟩
 have hEn:∀q,q<(nth L i).es.length->XP (j:Int) (nth (nth L i).es q)=0:=λq hq=>hk3 q om
 have hE0:Zn (j:Int) (nth L i).es=0:=QnE hEn
 refine Qi rfl ?_
 refine aU6 ?_
 refine Qt (α:=Nat×List Int) [6,11,12,87,88,89,90,91,92,93,94,95,96,97,98,99,100,101,102,103,104,105,106,107,108,109,110,111,112,113,114,115,116,117,118,119,120,121] (λy=>[(11,.int .i64 (y.1:Int))]) (λy=>HS w (fps [.blk sb 4 tot (Xh L.length S)]) [.blk sb 4 tot (Xh L.length y.2),.blk b1 27 4 [.int .i64 (j:Int),.int .i64 mo,.int .i64 rm,.slice a L.length cap],.blk b2 64 3 (LNd.vals (nth L i))]) (λy=>y.1<=(nth L i).cs.length/\(X7 (pln L) (nth L i).cs S)=X7 (pln L) ((nth L i).cs.drop y.1) y.2) (λy=>(nth L i).cs.length-y.1) (0,S) ⟨Nat.zero_le _,rfl⟩ aSx (λw h=>h.ent aEt) (λ⟨k,Sk⟩hx=>?_)
 dsimp only
 obtain⟨hk1,hk3⟩:=hx
 simp only[]at hk1 hk3
 refine aU9 ?_
 refine sCd rfl (λh26=>?_) λh26=>?_
 ·have hk5:k<(nth L i).cs.length:=by omega
  have hkd9:nth (nth L i).cs k=((nth L i).cs.getD k 0):=rfl
  have hst:=Qb6 hk5
  rw[hst,QaM]at hk3
  refine aU8 ?_
  refine o_p (Qa rfl rfl rfl QB (k) om om (Rw.some (hs.cs hi) om)) rfl (o_q (Qc rfl rfl Xq (((hs.cs hi).rdj 0 hk5 rfl))) rfl (Qm (show _=Value.int .i64 ((nth L i).cs.getD k 0)from rfl) (Qnd ?_)))
  refine oCq rfl (λw1 h1=>c70 w1 _ _ _) (aU2 ?_)
  refine oOr 8 106 114 rfl
   (λhg27 _=>by
    refine aU7 ?_
    refine o_p (Qa rfl rfl rfl QE (((nth L i).cs.getD k 0).toNat) om om (Rw.some hs.1 om)) rfl (aU3 ?_)
    refine o_q (Qc rfl rfl Qei ((hs.1.rdj 0 (i:=((nth L i).cs.getD k 0).toNat) om rfl))) rfl (aU2 ?_)
    exact oJf 8 114)
   (λhg29 _=>by
    refine aU7 ?_
    exact oJt 8 114) ?_
  refine aU ?_
  refine sCd rfl (λh31=>?_) λh31=>?_
  ·have hko:¬Qcw (pln L) ((nth L i).cs.getD k 0):=by rintro⟨h91,h92⟩;rw[hnl]at h91;rw[Qp om]at h92;have hq:=h31;exact hq.elim (λhq=>om) (λhq=>by rw[show(nth L ((nth L i).cs.getD k 0).toNat).pl.us=(nth L ((nth L i).cs.getD k 0).toNat).us from rfl,hq]at h92;cases h92)
   have hk6e:(XX (⟨(j:Int),mo,rm,pln L⟩:Tre) i S)=(6,Sk):=by have h8:Qbs (pln L) ((nth L i).cs.getD k 0) Sk=6:=if_neg hko;have h7:Qc7 (pln L) ((nth L i).cs.getD k 0) Sk=Sk:=if_neg hko;rw[h8,h7,if_neg (by decide)]at hk3;rw[<-hk3];exact Qkd (t:=(⟨(j:Int),mo,rm,pln L⟩:Tre)) hNI hu9 hM9 hS9 hE0 (by show¬(X7 (pln L) (nth L i).cs S).1=0;rw[hk3];show¬(6:Int)=0;decide)
   refine aU ?_
   refine Qg (L':=[(2,_),(3,_),(7,_),(9,_),(11,_),(12,_),(69,_),(70,_),(71,_),(72,_),(73,_)]) aSx (λ_ h=>h) ?_
   refine aU3 ?_
   exact rT rfl rfl (λw' h'=>⟨(),by rw[hk6e];rfl,trivial,by rw[hk6e];exact h'.ent aEt⟩)
  have hko:Qcw (pln L) ((nth L i).cs.getD k 0):=by have hq:=h31;refine⟨by rw[hnl];exact hq.1,?_⟩;rw[Qp om];exact hq.2
  have hko1:=hko.1
  rw[hnl]at hko1
  have hcv2:((nth L i).cs.getD k 0).toNat<L.length:=om
  have hcc:((((nth L i).cs.getD k 0).toNat:Nat):Int)=((nth L i).cs.getD k 0):=Int.toNat_of_nonneg om
  have h7:Qc7 (pln L) ((nth L i).cs.getD k 0) Sk=((nth L i).cs.getD k 0)::Sk:=if_pos hko
  rw[h7]at hk3
  have hsv:=QhN (n:=L.length) (S:=Sk) hcv2
  rw[hcc]at hsv
  refine aU3 ?_
  refine Qg (L':=[(2,_),(3,_),(7,_),(9,_),(11,_),(12,_),(69,_),(70,_),(71,_),(72,_),(73,_)]) aSx (λ_ h=>h) ?_
  refine aU3 ?_
  refine o_p (Qa rfl rfl rfl Qa9 (((nth L i).cs.getD k 0).toNat) om om rfl) rfl (Qm (show _=Value.pointer (some ⟨sb,((nth L i).cs.getD k 0).toNat,none⟩)from by rw[Nat.zero_add,Nat.mul_one]) (o_q (Qn rfl rfl Qei (λw h=>h.rd_blk (Mc:=[]) aPk (QaD hcv2) (by simp))) rfl (aU ?_)))
  refine sCd rfl (λh32=>?_) λh32=>?_
  ·have hmem:((nth L i).cs.getD k 0)∈Sk:=by have hq:=h32;rw[hcc]at hq;exact hq
   have h8:Qbs (pln L) ((nth L i).cs.getD k 0) Sk=23:=by rw[Qbs,if_pos hko,if_pos hmem]
   rw[h8,if_neg (by decide)]at hk3
   have hk23:(XX (⟨(j:Int),mo,rm,pln L⟩:Tre) i S)=(23,((nth L i).cs.getD k 0)::Sk):=by rw[<-hk3];exact Qkd (t:=(⟨(j:Int),mo,rm,pln L⟩:Tre)) hNI hu9 hM9 hS9 hE0 (by show¬(X7 (pln L) (nth L i).cs S).1=0;rw[hk3];show¬(23:Int)=0;decide)
   refine aU4 ?_
   exact rT rfl rfl (λw' h'=>⟨(),by rw[hk23];rfl,trivial,by rw[hk23,Qnn hmem];exact h'.ent aEt⟩)
  have hmem:¬((nth L i).cs.getD k 0)∈Sk:=by have hq:=h32;rw[hcc]at hq;exact hq
  have h8:Qbs (pln L) ((nth L i).cs.getD k 0) Sk=0:=by rw[Qbs,if_pos hko,if_neg hmem]
  rw[h8,if_pos rfl]at hk3
  have hk9:=hk3
  refine aU4 ?_
  refine o_p (Qa rfl rfl rfl Qa9 (((nth L i).cs.getD k 0).toNat) om om rfl) rfl (Qm (show _=Value.pointer (some ⟨sb,((nth L i).cs.getD k 0).toNat,none⟩)from by rw[Nat.zero_add,Nat.mul_one]) (Qal (Xt rfl rfl rfl Qei rfl aPt (by rw[Qay];show _+1<=_;omega) rfl) (λ_ _=>aT5 ?_)))
  refine aU2 ?_
  exact QR (k+1,((nth L i).cs.getD k 0)::Sk) (by(try simp only[]);omega) ⟨by(try simp only[]);omega,hk9⟩ aSx (λw h=>by have h2:=h;rw[show QA (Xh L.length Sk) ((nth L i).cs.getD k 0).toNat (Value.cells (.bool true)).toList=Xh L.length (((nth L i).cs.getD k 0)::Sk)from hsv]at h2;exact h2.ent aEt)
 have hdr9:(nth L i).cs.drop k=[]:=List.drop_of_length_le om
 rw[hdr9]at hk3
 have hK0:(X7 (pln L) (nth L i).cs S).1=0:=by rw[hk3];rfl
 have hK2:(X7 (pln L) (nth L i).cs S).2=Sk:=by rw[hk3];rfl
 have hOr:(XX (⟨(j:Int),mo,rm,pln L⟩:Tre) i S)=(Qaw (j:Int) (nth L i).es,(X7 (pln L) (nth L i).cs S).2):=by have h9:=Qol (t:=(⟨(j:Int),mo,rm,pln L⟩:Tre)) (i:=i) (S:=S) (n:=(nth L i).pl) hNI hu9 hM9 hS9 hE0 hK0;exact h9
 refine Qi rfl ?_
 refine aU6 ?_
 refine Qt (α:=Nat) [6,13,122,123,124,125,126,127,128,129,130,131,132,133,134,135,136,137,138,139,140,141,142,143,144,145] (λk=>[(13,.int .i64 (k:Int))]) (λ_=>HS w (fps [.blk sb 4 tot (Xh L.length S)]) [.blk sb 4 tot (Xh L.length (X7 (pln L) (nth L i).cs S).2),.blk b1 27 4 [.int .i64 (j:Int),.int .i64 mo,.int .i64 rm,.slice a L.length cap],.blk b2 64 3 (LNd.vals (nth L i))]) (λk=>1<=k/\∀q,q<k->QaE (j:Int) (nth L i).es q=0) (λk=>(nth L i).es.length-k) 1 ⟨Nat.le_refl _,λq h=>if_pos (.inl om)⟩ aSx (λw h=>by rw[hK2];exact h.ent aEt) (λk hx=>?_)
 obtain⟨hk1,hk3b⟩:=hx
 refine aU9 ?_
 refine sCd rfl (λh33=>?_) λh33=>?_
 ·have hk5:k<(nth L i).es.length:=by omega
  have hk6:k-1<(nth L i).es.length:=om
  refine aU4 ?_
  refine Qq [] Qx ?_
  refine dFa 0 ?_
  refine dLd 1 [] ?_
  refine dFa 2 ?_
  refine dLd 3 [] ?_
  refine dP 4 ?_
  refine dP 5 ?_
  try refine dWr ?_
  refine dV 6 rfl (Qa rfl rfl rfl QL (k-1) om om (Rw.some (hs.es hi) om)) (dFa 7 ?_)
  refine dQ 8 [] rfl (Qc rfl rfl Y8 (((hs.es hi).rdj 0 hk6 rfl))) (dFa 9 ?_)
  refine dLd 10 [] ?_
  refine dP 11 ?_
  refine dV 12 rfl (Qa rfl rfl rfl QL (k) om om (Rw.some (hs.es hi) om)) (dFa 13 ?_)
  refine dQ 14 [] rfl (Qc rfl rfl Y8 (((hs.es hi).rdj 0 hk5 rfl))) (dQ 15 [] rfl (Ql rfl QdG rfl (λw1 h1=>Qls w1 j (nth (nth L i).es (k-1)).key (nth (nth L i).es k).key hj (Zq (hEn _ hk6)) (Zq (hEn _ hk5)) (hK _ (QQ hk6)) (hK _ (QQ hk5)))) (dP 16 ?_))
  refine dNi ?_
  refine sCd rfl (λh34=>?_) λh34=>?_
  ·have hz11:¬QaE (j:Int) (nth L i).es k=0:=by unfold QaE;rw[if_neg (by have hq:=h34;omega)];decide
   have hOb:=Qne hk5 hk3b hz11
   have hOv:QaE (j:Int) (nth L i).es k=9:=if_neg (by have hq:=h34;omega)
   refine aU ?_
   refine Qg (L':=[(2,_),(3,_),(7,_),(9,_),(11,_),(13,_),(69,_),(70,_),(71,_),(72,_),(73,_),(87,_),(88,_),(89,_),(90,_),(91,_)]) aSx (λ_ h=>h) ?_
   refine aU3 ?_
   exact rT rfl rfl (λw' h'=>⟨(),by rw[hOr,hOb,hOv];rfl,trivial,by rw[hOr];exact h'.ent aEt⟩)
  have hz11:QaE (j:Int) (nth L i).es k=0:=if_pos (.inr (by have hq:=h34;omega))
  refine aU2 ?_
  refine Qg (L':=[(2,_),(3,_),(7,_),(9,_),(11,_),(13,_),(69,_),(70,_),(71,_),(72,_),(73,_),(87,_),(88,_),(89,_),(90,_),(91,_)]) aSx (λ_ h=>h) ?_
  refine aT3 ?_
  refine aU2 ?_
  exact sBk (k+1) om ⟨om,λq hq=>(Nat.lt_or_ge q k).elim (hk3b q) (λh9=>by obtain rfl:q=k:=om;exact hz11)⟩
 have hO0:Qaw (j:Int) (nth L i).es=0:=QlB (λq hq=>hk3b q om)
 refine Qi rfl ?_
 refine aU4 ?_
 exact rT rfl rfl (λw' h'=>⟨(),by rw[hOr,hO0];rfl,trivial,by rw[hOr];exact h'.ent aEt⟩)
end Go.Proofs
namespace Gx
open Go Go.RowKit
def mkS(vs:List Vis)(S:List Int):List Int:=(vs.map λv=>((v.i:Nat):Int)).reverse++S
theorem QoC(A B:List Vis)(S:List Int):mkS (A++B) S=mkS B (mkS A S):=by simp[mkS]
theorem QoG{vs:List Vis}{c:Int}:c∈mkS vs [] ↔ ∃v∈vs,((v.i:Nat):Int)=c:=by simp[mkS]
end Gx
namespace Go.Proofs
open Go Go.RowKit Gx
attribute [local irreducible] Go.Calls Gx.S Gx.O Gx.D Gx.OpP Gx.OpQ Gx.OpH
set_option maxRecDepth 20000
theorem Qpb:QH Tryz.prog 86=true:=by kernel_rfl
def MkC(j:Nat)(mo rm:Int)(a:Option Addr)(cap:Nat)(L:List LNd)(sb scap tot:Nat)(f:Nat):Prop:=∀(w:World)(S:List Int)(v:Vis)(P:List Nat),(HS w (fps [.blk sb 4 tot (Xh L.length S)]) [.blk sb 4 tot (Xh L.length S)] w)->(Nt w (fps [.blk sb 4 tot (Xh L.length S)]) a L)->(TOk (j:Int) (pln L))->(Bd (pln L))->(0<L.length)->(Gx.Way (pln L) (v.i::P))->P.length+f=L.length->Calls Tryz.prog 86 #[.agg #[.int .i64 (j:Int),.int .i64 mo,.int .i64 rm,.slice a L.length cap],.int .i64 (v.i:Int),.slice (some ⟨sb,0,none⟩) L.length scap] w λen w'=>∃g:Unit,en=.returned (.tuple #[])/\True/\HS w (fps [.blk sb 4 tot (Xh L.length S)]) [.blk sb 4 tot (Xh L.length (mkS (vis (pln L) f v) S))] w'
theorem c86s(w:World)(j:Nat)(mo rm:Int)(a:Option Addr)(cap:Nat)(L:List LNd)(sb scap tot:Nat)(S:List Int)(v:Vis)(P:List Nat)(f:Nat)(hw:HS w (fps [.blk sb 4 tot (Xh L.length S)]) [.blk sb 4 tot (Xh L.length S)] w)(hs:Nt w (fps [.blk sb 4 tot (Xh L.length S)]) a L)(hT:TOk (j:Int) (pln L))(hB:Bd (pln L))(h0:0<L.length)(hway:Gx.Way (pln L) (v.i::P))(hf:P.length+(f+1)=L.length)(ih:MkC j mo rm a cap L sb scap tot f):CE 86 #[.agg #[.int .i64 (j:Int),.int .i64 mo,.int .i64 rm,.slice a L.length cap],.int .i64 (v.i:Int),.slice (some ⟨sb,0,none⟩) L.length scap] w (fps [.blk sb 4 tot (Xh L.length S)]) (λg:Unit=>.tuple #[]) (λg=>True) λg=>[.blk sb 4 tot (Xh L.length (mkS (vis (pln L) (f+1) v) S))]:=by
 have hi0:=ZK hT (by rw[Qb];exact h0) hway v.i (List.mem_cons_self ..)
 have hi:v.i<L.length:=by rw[Qb]at hi0;exact hi0
 have hn:=Qp hi
 have hle:=hB.len
 rw[Qb]at hle
 have hcl:=hB.cs v.i hi0
 rw[hn]at hcl
 simp only[LNd.pl]at hcl
 refine eW3 Tryz.func86 Tryz.ntmps86 hw ?_
 refine aU2 ?_
 refine oBx λb1 _=>?_
 refine aU5 ?_
 refine o_p (Qa rfl rfl rfl Qa9 (v.i) om om rfl) rfl (Qm (show _=Value.pointer (some ⟨sb,v.i,none⟩)from by rw[Nat.zero_add,Nat.mul_one]) (Qal (Xt rfl rfl rfl Qei rfl aPt (by rw[Qay];show _+1<=_;omega) rfl) (λ_ _=>aU6 ?_)))
 refine Qt (α:=Nat) [6,10,11,12,13,14,15,16,17,18,19,20,21,22,23,24,25,26,27,28,29,30,31,32] (λk=>[(6,.int .i64 (k:Int))]) (λk=>HS w (fps [.blk sb 4 tot (Xh L.length S)]) [.blk sb 4 tot (Xh L.length (mkS (Qau (pln L) f v k) S)),.blk b1 27 4 [.int .i64 (j:Int),.int .i64 mo,.int .i64 rm,.slice a L.length cap]]) (λk=>k<=(nth L v.i).cs.length) (λk=>(nth L v.i).cs.length-k) 0 (Nat.zero_le _) aSx (λw h=>by have h2:=h;rw[show QA (Xh L.length S) v.i (Value.cells (.bool true)).toList=Xh L.length (((v.i:Nat):Int)::S)from QhN hi]at h2;exact h2.ent aEt) (λk hk1=>?_)
 refine aU7 ?_
 refine o_p (Qa rfl rfl rfl QE (v.i) om om (Rw.some hs.1 om)) rfl (aU ?_)
 refine o_q (Qc rfl rfl XN ((hs.1.rdj 2 hi rfl))) rfl (aU3 ?_)
 refine sCd rfl (λh2=>?_) λh2=>?_
 ·have hkl:k<(nth L v.i).cs.length:=by omega
  have hkid:=QaS hT hi0 (k:=k) (by rw[hn];exact hkl)
  rw[hn,Qb]at hkid
  simp only[LNd.pl]at hkid
  have hway2:=ZD hway hi0 (k:=k) (by rw[hn];exact hkl) (by rw[hn];simp only[LNd.pl];omega)
  refine aU3 ?_
  refine Qq [11] Qx ?_
  refine dLn 0 [[]] ?_
  refine dFa 1 ?_
  refine dLd 2 [[9,8,6,5,4]] ?_
  refine dP 3 ?_
  refine dV 4 rfl (Qa rfl rfl rfl QE (v.i) om om (Rw.some hs.1 om)) (dFa 5 ?_)
  refine dQ 6 [[9,8]] rfl (Qc rfl rfl XN ((hs.1.rdj 2 hi rfl))) (dP 7 ?_)
  refine dV 8 rfl (Qa rfl rfl rfl QB (k) om om (Rw.some (hs.cs hi) om)) (dQ 9 [[]] rfl (Qc rfl rfl Xq (((hs.cs hi).rdj 0 (i:=k) hkl rfl))) (Qs (show _=Value.int .i64 ((XT (pln L) v k).i:Int)from by rw[XT,hn];exact congrArg (Value.int .i64) (Int.toNat_of_nonneg (show 0<=(nth L v.i).cs.getD k 0 by omega)).symm) (dP 10 ?_)))
  refine dH 11 rfl (QT (Cs:=[.blk sb 4 tot (Xh L.length (mkS (Qau (pln L) f v k) S))]) rfl Qpb rfl aPs (λw1 h1 hf9=>ih w1 (mkS (Qau (pln L) f v k) S) (XT (pln L) v k) (v.i::P) hf9 ((hs.keep h1).mono (Xf aPs)) hT hB h0 hway2 (by simp only[List.length_cons];omega))) (λ_ _=>dTu [] ?_)
  refine dNi ?_
  refine aT4 ?_
  refine aU2 ?_
  exact QR (k+1) om om aSx (λw h=>by rw[X1,QoC];exact h.ent aEt)
 obtain rfl:k=(nth L v.i).cs.length:=om
 refine Qi rfl ?_
 exact QcM rfl (λw' h'=>⟨(),rfl,trivial,by rw[Y2,hn];exact h'.ent aEt⟩)
theorem c86(j:Nat)(mo rm:Int)(a:Option Addr)(cap:Nat)(L:List LNd)(sb scap tot:Nat):∀f,MkC j mo rm a cap L sb scap tot f
  | 0=>λw S v P hw hs hT hB h0 hway hf=>by
    have h1:=XW hT (by rw[Qb];exact h0) hway;rw[Qb,List.length_cons]at h1;omega
  | f+1=>λw S v P hw hs hT hB h0 hway hf=>c86s w j mo rm a cap L sb scap tot S v P f hw hs hT hB h0 hway hf (c86 j mo rm a cap L sb scap tot f)
end Go.Proofs
namespace Gx
open Go Go.RowKit
def StK(w:World)(p:Option Addr)(n:Nat)(o:Option (List UInt8)):Prop:=match o with
 | none=>n=0
 | some k=>n=1/\∃b off,p=some ⟨b,off,none⟩/\Rd w [] b off (.string (bs k))
theorem StK.later{w w':World}{As:List HA}{p:Option Addr}{n:Nat}{o:Option (List UInt8)}(h:StK w p n o)(hs:HS w [] As w'):StK w' p n o:=by
 cases o with
 | none=>exact h
 | some k=>
  obtain⟨h1,b,off,h2,h3⟩:=h;exact⟨h1,b,off,h2,h3.next hs⟩
theorem StK.of_pos{w:World}{p:Option Addr}{n:Nat}{o:Option (List UInt8)}(h:StK w p n o)(hn:0<n):∃k b off,o=some k/\n=1/\p=some ⟨b,off,none⟩/\Rd w [] b off (.string (bs k)):=by
 cases o with
 | none=>
  have:n=0:=h;omega
 | some k=>
  obtain⟨h1,b,off,h2,h3⟩:=h;exact⟨k,b,off,rfl,h1,h2,h3⟩
theorem StK.of_no{w:World}{p:Option Addr}{n:Nat}{o:Option (List UInt8)}(h:StK w p n o)(hn:¬0<n):o=none:=by
 cases o with
 | none=>rfl
 | some k=>
  obtain⟨h1,_⟩:=h;omega
theorem StK.new{w:World}{b:Nat}{k:List UInt8}(h:Rd w [] b 0 (.string (bs k))):StK w (some ⟨b,0,none⟩) 1 (some k):=⟨rfl,b,0,rfl,h⟩
theorem QeG{es:List TEnt}{k:Nat}{lo:Option (List UInt8)}(h:0<k):loK es k lo=some (nth es (k-1)).key:=if_pos h
theorem Qg7{es:List TEnt}{k:Nat}{lo:Option (List UInt8)}(h:¬0<k):loK es k lo=lo:=if_neg h
theorem QeJ{es:List TEnt}{k:Nat}{hi:Option (List UInt8)}(h:k<es.length):hiK es k hi=some (nth es k).key:=if_pos h
theorem Qhl{es:List TEnt}{k:Nat}{hi:Option (List UInt8)}(h:¬k<es.length):hiK es k hi=hi:=if_neg h
theorem Ya{t:Tre}{deep:Int}:∀(A B:List Vis),X8 t deep (A++B)=if(X8 t deep A).2=0 then X8 t deep B else X8 t deep A
 | [],B=>rfl
 | v::A,B=>by
  rw[List.cons_append,X8,X8]
  by_cases h:Qcu t deep v=0
  ·rw[if_pos h,if_pos h];exact Ya A B
  ·rw[if_neg h,if_neg h,if_neg h]
theorem Qot{t:Tre}{v:Vis}{N R:Nd}(hN:nth t.ns v.i=N)(hR:nth t.ns 0=R)(h1:R.cs.length=0\/R.cs.length=R.es.length+1)(h2:∀c∈R.cs,1<=c):Zo t v=true ↔ (v.i≠0/\(N.es.length:Int)<t.mo/2)\/(((R.es.length=0/\R.cs.length=1)/\R.cs.getD 0 0=(v.i:Int))/\(N.es.length:Int)<=t.rm):=by
 subst hN hR;unfold Zo;simp only[Bool.and_eq_true,Bool.or_eq_true,decide_eq_true_eq];constructor
 ·rintro⟨h3,h4|⟨⟨h4,h5⟩,h6⟩⟩
  ·exact .inl ⟨om,h4⟩
  ·refine .inr ⟨⟨⟨h4,?_⟩,?_⟩,h6⟩
   ·rcases h1 with h1|h1
    ·rw[List.eq_nil_of_length_eq_zero h1]at h5;cases h5
    ·omega
   ·have hl:(nth t.ns 0).cs.length=1:=by
     rcases h1 with h1|h1
     ·rw[List.eq_nil_of_length_eq_zero h1]at h5;cases h5
     ·omega
    obtain⟨c,hc⟩:=List.length_eq_one_iff.1 hl;rw[hc]at h5 ⊢;exact(List.mem_singleton.1 h5).symm
 ·rintro(⟨h3,h4⟩|⟨⟨⟨h4,h5⟩,h6⟩,h7⟩)
  ·exact⟨om,.inl h4⟩
  ·obtain⟨c,hc⟩:=List.length_eq_one_iff.1 h5;have h8:=h2 c (by rw[hc];exact List.mem_singleton.2 rfl);rw[hc]at h6 ⊢;have h9:c=(v.i:Int):=h6;exact⟨om,.inr ⟨⟨h4,List.mem_singleton.2 h9.symm⟩,h7⟩⟩
theorem Qin{t:Tre}{deep:Int}{v:Vis}(h:Zo t v=true):Qcu t deep v=14:=by rw[Qba,if_pos h]
theorem QnR{t:Tre}{deep:Int}{v:Vis}(h:¬Zo t v=true)(h2:Zb t v=true):Qcu t deep v=9:=by rw[Qba,if_neg h,if_pos h2]
theorem QoE{t:Tre}{deep:Int}{v:Vis}(h:¬Zo t v=true)(h2:¬Zb t v=true)(h3:(nth t.ns v.i).cs.length=0/\v.d≠deep+1):Qcu t deep v=22:=by rw[Qba,if_neg h,if_neg h2,if_pos h3]
theorem QoL{t:Tre}{deep:Int}{v:Vis}(h:¬Zo t v=true)(h2:¬Zb t v=true)(h3:¬((nth t.ns v.i).cs.length=0/\v.d≠deep+1)):Qcu t deep v=0:=by rw[Qba,if_neg h,if_neg h2,if_neg h3]
theorem QlX{t:Tre}{v:Vis}{N:Nd}{k:Nat}(hN:nth t.ns v.i=N)(hk:k<N.es.length)(h:Zx t v (nth N.es k)=true):Zb t v=true:=by
 subst hN;exact List.any_eq_true.2 ⟨_,QQ hk,h⟩
theorem Qn5{t:Tre}{v:Vis}{N:Nd}(hN:nth t.ns v.i=N)(h:∀q,q<N.es.length->¬Zx t v (nth N.es q)=true):¬Zb t v=true:=λh2=>by
 subst hN;obtain⟨x,hx,h3⟩:=List.any_eq_true.1 h2;obtain⟨q,hq,e⟩:=List.getElem_of_mem hx;have e2:nth (nth t.ns v.i).es q=x:=QP (by rw[List.getElem?_eq_getElem hq,e]);exact h q hq (by rw[e2];exact h3)
theorem Qc8{t:Tre}{v:Vis}{x:TEnt}:Zx t v x=true ↔ (∃b,v.lo=some b/\0<=QM t.co b x.key)\/(∃b,v.hi=some b/\0<=QM t.co x.key b):=by
 unfold Zx;cases v.lo<;>cases v.hi<;>simp
section
variable{t:Tre}{v:Vis}{x:TEnt}{kl kh:List UInt8}
theorem Qrh(h1:v.lo=some kl)(h:0<=QM t.co kl x.key):(true=true ↔ Zx t v x=true):=⟨λ_=>Qc8.2 (.inl ⟨kl,h1,h⟩),λ_=>rfl⟩
theorem QrO(h1:v.lo=some kl)(h:¬0<=QM t.co kl x.key)(h2:v.hi=some kh):(decide (QM t.co x.key kh>=0)=true ↔ Zx t v x=true):=by
 rw[decide_eq_true_eq,Qc8,h1,h2];constructor
 ·exactλh9=>.inr ⟨kh,rfl,h9⟩
 ·rintro(⟨b,hb,h9⟩|⟨b,hb,h9⟩)
  ·cases hb;exact absurd h9 h
  ·cases hb;exact h9
theorem QrD(h1:v.lo=some kl)(h:¬0<=QM t.co kl x.key)(h2:v.hi=none):(false=true ↔ Zx t v x=true):=by
 rw[Qc8,h1,h2];constructor
 ·exactλh9=>(nomatch h9)
 ·rintro(⟨b,hb,h9⟩|⟨b,hb,h9⟩)
  ·cases hb;exact absurd h9 h
  ·cases hb
theorem Qrw(h1:v.lo=none)(h2:v.hi=some kh):(decide (QM t.co x.key kh>=0)=true ↔ Zx t v x=true):=by
 rw[decide_eq_true_eq,Qc8,h1,h2];constructor
 ·exactλh9=>.inr ⟨kh,rfl,h9⟩
 ·rintro(⟨b,hb,h9⟩|⟨b,hb,h9⟩)
  ·cases hb
  ·cases hb;exact h9
theorem QrT(h1:v.lo=none)(h2:v.hi=none):(false=true ↔ Zx t v x=true):=by
 rw[Qc8,h1,h2];constructor
 ·exactλh9=>(nomatch h9)
 ·rintro(⟨b,hb,h9⟩|⟨b,hb,h9⟩)<;>cases hb
end
theorem Qdi{t:Tre}{deep:Int}{f:Nat}{v:Vis}(h:¬Qcu t deep v=0):X8 t deep (vis t.ns (f+1) v)=((v.i:Int),Qcu t deep v):=by
 rw[vis,X8,if_neg h]
theorem QqN{t:Tre}{deep:Int}{f:Nat}{v:Vis}(h:Qcu t deep v=0):(X8 t deep (Qau t.ns f v 0)).2=0:=by
 rw[Qjz,X8,if_pos h];rfl
end Gx
