/- Contracts of the program's functions, proved by walking them with the rules of the Gx texts; without conditions beyond those that each contract names. -/
import Derived.WalkKit
import Derived.Deep.Draws
import Derived.TacticsIn
import Derived.OrdersIn
import Derived.RangeFuncLeaves
import Derived.Lib.Strings
import Derived.Laws.BytesArg
import Derived.Laws.IdiomStrings
import Derived.Deep.Quiet
import Derived.Laws.StructEq
import Derived.ChangeKeysEq
import Derived.Laws.Externs
import Derived.Lib.Overlaps
import Derived.Carry
import Derived.Laws.Small
import Derived.Lib.Bytealg
import Derived.Lib.Builder
import Derived.Laws.Pointers
import Derived.RangeFuncRecord
import Derived.Test.YtldegbfcaelpdaaGreatProg
import Derived.KernelRfl
import Derived.ProofKit
import Derived.OpenShut
import Derived.Lib.UnsafeStr
import Derived.LaidEqlPtr
import Derived.Shelf.Strings.Builder1
import Derived.Shelf.Strings.Builder2
import Derived.Shelf.Small.Strs
import Derived.Shelf.Strings.BuilderF
import Derived.Shelf.Strings.Prefix
import Derived.Shelf.Bits.Mul64
import Derived.Shelf.Strings.Repeat
import Derived.Shelf.Slices.Reverse
import Derived.Ground.Names2Prog
import Derived.Shelf.Slices.Clone
import Derived.Shelf.Slices.Cells
import Derived.Ground.SlgnProg
import Derived.Shelf.SlicesE.Clone
import Derived.Test.YtldegbfcaelpdaaGreatP4
set_option linter.unusedSimpArgs false
set_option maxHeartbeats 1000000
set_option linter.unusedVariables false
set_option linter.unusedSectionVars false
set_option linter.unnecessarySimpa false
namespace Go.Proofs
open Go Go.RowKit Gx
attribute [local irreducible] Go.Calls Gx.S Gx.O Gx.D Gx.OpP Gx.OpQ Gx.OpH
set_option maxRecDepth 20000
instance:TFn Tryz.prog 41:=⟨by kernel_rfl⟩
theorem Qph:QH Tryz.prog 44=true:=by kernel_rfl
theorem Qpg:QH Tryz.prog 43=true:=by kernel_rfl
theorem Qps:QH Tryz.prog 45=true:=by kernel_rfl
set_option maxHeartbeats 2000000 in
theorem c14(w:World)(nx:Int)(a:Option Addr)(cap:Nat)(l:List SItm)(hs:Rw SItm.vals 2 w [] a l)(hm:l.length<=100000)(hb:∀x∈l,x.by_.length<=100000)(hst0:(QX nx l).2=0):CE 14 #[.agg #[.int .i64 nx,.slice a l.length cap]] w [] (λg:(Option Addr×Nat)×List LNd=>.agg #[.int .i64 3,.int .i64 4,.int .i64 2,.slice g.1.1 g.2.length g.1.2]) (λg=>pln g.2=(YT (3:Int) 4 2 (QG 3 l) l.length)) λg=>[.nodes 76 64 g.1.1 g.1.2 g.2]:=by
 obtain⟨hnx,hl60,hit9,hpl9⟩:=YS hst0
 have hz:Sz 4 2 2 4 2:=⟨rfl,rfl,rfl,by decide,by decide,by decide,by decide⟩
 have hpl5:=Yu l
 have hbl:∀k,k<=l.length->BldC ((3:Nat):Int) 4 2 2 4 2 (QG 3 l) k:=λk hk=>QcP (by decide) hst0 hk
 refine eN1 Tryz.func14 Tryz.ntmps14 ?_
 refine aU2 ?_
 refine oBx λb1 _=>?_
 refine oAl (λb2 _=>?_) Xw
 refine aU3 ?_
 refine oCh rfl (λw1 h1=>c41 w1 3 4 2) (λ⟨ae,ce⟩_=>?_)
 dsimp only
 refine Q6 (λw h=>QdN 76 (h.pick aPk)) (oAl (λb3 _=>?_) Xw)
 refine aU5 ?_
 refine oCh rfl (λw1 h1=>c42 w1 nx a cap l (hs.later h1) hm hb) (λ⟨pa,pc⟩_=>Y1 ?_)
 refine Qt (α:=(Nat×(Option Addr×Nat))×List LNd) [6,13,14,15,16,17,18,19,20,21,22,23,24,25,26,27,28,29,30,31] (λx=>[(6,.int .i64 (x.1.1:Int))]) (λx=>HS w [] [.blk b3 27 4 [.int .i64 3,.int .i64 4,.int .i64 2,.slice x.1.2.1 x.2.length x.1.2.2],.nodes 76 64 x.1.2.1 x.1.2.2 x.2,.own (.slice pa l.length pc) 3 1 l.length ((QO l).1.map nv),.blk b1 24 2 [.int .i64 nx,.slice a l.length cap],.blk b2 27 4 [.int .i64 0,.int .i64 0,.int .i64 0,.slice none 0 0]]) (λx=>x.1.1<=l.length/\pln x.2=(YT (3:Int) 4 2 (QG 3 l) x.1.1)) (λx=>l.length-x.1.1) ((0,(ae,ce)),[(⟨true,none,0,[],none,0,[]⟩:LNd)]) ⟨Nat.zero_le _,rfl⟩ aSx (λw h=>h.ent aEt) (λ⟨⟨k,gn1,cap1⟩,L1⟩hx2=>?_)
 dsimp only
 obtain⟨hk1,hk4⟩:=hx2
 simp only[]at hk1 hk4
 have hbo:=Qam (l:=(QG 3 l)) hz (show k<=119 by omega) (hbl k hk1).zero
 have hp1:0<L1.length:=by have h9:=hbo.pos;rw[<-Qb,hk4];exact h9
 have hB1:Bd (pln L1):=by rw[hk4];exact hbo.bd hz om
 have hT1:TOk ((3:Nat):Int) (pln L1):=by rw[hk4];exact hbo.tok
 refine aU9 ?_
 refine sCd rfl (λh4=>?_) λh4=>?_
 ·have hk:k<l.length:=by omega
  have hrg:=Qa7 hst0 hk
  have hbk:(nth l k).by_.length<=100000:=hb _ (XH hk)
  have hpk:=Qa3 hb k om
  have hx0:XP ((3:Nat):Int) (QI 3 l k)=0:=ZV (by decide) hst0 hk
  have hb0:=(hbl (k+1) om).zero k (Nat.lt_succ_self k)
  have hI9:=hbo.ins hz om (by rw[Xj hk];exact hx0) (QmP (Qhk hb0).2).1
  rw[Xj hk]at hI9
  have hkx:(QI 3 l k).key.length<=1000000:=Nat.le_trans (show(Yg 3 (nth l k)).length<=8 from Zg _) (by decide)
  have hst:(YT (3:Int) 4 2 (QG 3 l) (k+1))=Z1 ((3:Nat):Int) 4 2 (YT (3:Int) 4 2 (QG 3 l) k) (QI 3 l k):=by rw[<-Xj (co:=3) hk];rfl
  refine X0 (λw h=>Vl.some (HS.vl_own (a:=pa) (t:=3) h aPk) (by rw[List.length_map];omega)) λhsm=>aU3 ?_
  refine Qq [12] Qx ?_
  refine dLn 0 [[]] ?_
  refine dFa 1 ?_
  refine dLd 2 [[]] ?_
  refine dP 3 ?_
  refine dV 4 rfl (Qa rfl rfl rfl X6 (k) om om (Rw.some hs om)) (dQ 5 [[]] rfl (Qu _ rfl rfl Qae rfl (Rw.rd hs hk)) (dP 6 ?_))
  refine dP 7 ?_
  refine dV 8 rfl (Qa rfl rfl rfl QB (k) om om hsm) (dQ 9 [[]] rfl (Qn rfl rfl Xq (λw h=>(HS.vl_own (a:=pa) (t:=3) h aPk).rd (QaX (k:=k) om))) (Qs (show _=Value.int .i64 (QO (l.take k)).2 from by rw[Qb4 hk]) (dQ 10 [[]] rfl (Ql rfl Qph rfl (λw1 h1=>c44 w1 (QO (l.take k)).2 (nth l k) om om hbk)) (Qs (show _=.agg #[.string (bs (QI 3 l k).key),.string (bs (QI 3 l k).val)]from rfl) (dH 11 rfl (Q3 rfl Qpg rfl (λw1 h1=>c43 w1 3 4 2 gn1 cap1 L1 (QI 3 l k) (by decide) hp1 hB1 hT1 (HS.nt h1 aPk) (Zq hx0) hkx (by rw[hk4];exact hI9.2.1))) (λ⟨⟨gr,cr⟩,LR⟩hLR=>dBa ?_))))))
  refine dSt 12 ?_ (hl:=(by simp only[Qe,List.length_set,List.length_cons,List.length_nil,List.length_map];omega))
  refine dTu [] ?_
  refine dNi ?_
  refine aU ?_
  refine Qg (L':=[(0,_),(1,_),(2,_),(3,_),(4,_),(5,_),(6,_),(7,_),(8,_),(9,_),(10,_),(11,_),(12,_)]) aSx (λ_ h=>h) ?_
  refine aT3 ?_
  refine aU2 ?_
  exact sBk ((k+1,(gr,cr)),LR) (by(try simp only[]);omega) ⟨by(try simp only[]);omega,by have hL9:pln LR=Qlk ((3:Nat):Int) 4 2 (pln L1) (QI 3 l k):=hLR;simp only[];rw[hL9,hst,hk4];exact hI9.2.2.1⟩
 obtain rfl:k=l.length:=om
 refine Qi rfl ?_
 refine aU5 ?_
 exact Qf (rs:=[.cell 2 27]) rfl (.cell rfl Yf aPk rfl (.nil)) (λw' h'=>⟨((gn1,cap1),L1),rfl,hk4,h'.ent aEt⟩)
set_option maxHeartbeats 2000000 in
theorem c15(w:World)(nx:Int)(a:Option Addr)(cap:Nat)(l:List SItm)(hs:Rw SItm.vals 2 w [] a l)(hm:l.length<=100000)(hb:∀x∈l,x.by_.length<=100000)(hst0:(QX nx l).2=0):CE 15 #[.agg #[.int .i64 nx,.slice a l.length cap]] w [] (λg:(Option Addr×Nat)×List LNd=>.agg #[.int .i64 2,.int .i64 4,.int .i64 2,.slice g.1.1 g.2.length g.1.2]) (λg=>pln g.2=(YT (2:Int) 4 2 (QG 2 l) l.length)) λg=>[.nodes 76 64 g.1.1 g.1.2 g.2]:=by
 obtain⟨hnx,hl60,hit9,hpl9⟩:=YS hst0
 have hz:Sz 4 2 2 4 2:=⟨rfl,rfl,rfl,by decide,by decide,by decide,by decide⟩
 have hpl5:=Yu l
 have hbl:∀k,k<=l.length->BldC ((2:Nat):Int) 4 2 2 4 2 (QG 2 l) k:=λk hk=>QcP (by decide) hst0 hk
 refine eN1 Tryz.func15 Tryz.ntmps15 ?_
 refine aU2 ?_
 refine oBx λb1 _=>?_
 refine oAl (λb2 _=>?_) Xw
 refine aU3 ?_
 refine oCh rfl (λw1 h1=>c41 w1 2 4 2) (λ⟨ae,ce⟩_=>?_)
 dsimp only
 refine Q6 (λw h=>QdN 76 (h.pick aPk)) (oAl (λb3 _=>?_) Xw)
 refine aU5 ?_
 refine oCh rfl (λw1 h1=>c42 w1 nx a cap l (hs.later h1) hm hb) (λ⟨pa,pc⟩_=>Y1 ?_)
 refine Qt (α:=(Nat×(Option Addr×Nat))×List LNd) [6,13,14,15,16,17,18,19,20,21,22,23,24,25,26,27,28,29,30,31] (λx=>[(6,.int .i64 (x.1.1:Int))]) (λx=>HS w [] [.blk b3 27 4 [.int .i64 2,.int .i64 4,.int .i64 2,.slice x.1.2.1 x.2.length x.1.2.2],.nodes 76 64 x.1.2.1 x.1.2.2 x.2,.own (.slice pa l.length pc) 3 1 l.length ((QO l).1.map nv),.blk b1 24 2 [.int .i64 nx,.slice a l.length cap],.blk b2 27 4 [.int .i64 0,.int .i64 0,.int .i64 0,.slice none 0 0]]) (λx=>x.1.1<=l.length/\pln x.2=(YT (2:Int) 4 2 (QG 2 l) x.1.1)) (λx=>l.length-x.1.1) ((0,(ae,ce)),[(⟨true,none,0,[],none,0,[]⟩:LNd)]) ⟨Nat.zero_le _,rfl⟩ aSx (λw h=>h.ent aEt) (λ⟨⟨k,gn1,cap1⟩,L1⟩hx2=>?_)
 dsimp only
 obtain⟨hk1,hk4⟩:=hx2
 simp only[]at hk1 hk4
 have hbo:=Qam (l:=(QG 2 l)) hz (show k<=119 by omega) (hbl k hk1).zero
 have hp1:0<L1.length:=by have h9:=hbo.pos;rw[<-Qb,hk4];exact h9
 have hB1:Bd (pln L1):=by rw[hk4];exact hbo.bd hz om
 have hT1:TOk ((2:Nat):Int) (pln L1):=by rw[hk4];exact hbo.tok
 refine aU9 ?_
 refine sCd rfl (λh4=>?_) λh4=>?_
 ·have hk:k<l.length:=by omega
  have hrg:=Qa7 hst0 hk
  have hbk:(nth l k).by_.length<=100000:=hb _ (XH hk)
  have hpk:=Qa3 hb k om
  have hx0:XP ((2:Nat):Int) (QI 2 l k)=0:=ZV (by decide) hst0 hk
  have hb0:=(hbl (k+1) om).zero k (Nat.lt_succ_self k)
  have hI9:=hbo.ins hz om (by rw[Xj hk];exact hx0) (QmP (Qhk hb0).2).1
  rw[Xj hk]at hI9
  have hkx:(QI 2 l k).key.length<=1000000:=Nat.le_trans (show(Yg 2 (nth l k)).length<=8 from Zg _) (by decide)
  have hst:(YT (2:Int) 4 2 (QG 2 l) (k+1))=Z1 ((2:Nat):Int) 4 2 (YT (2:Int) 4 2 (QG 2 l) k) (QI 2 l k):=by rw[<-Xj (co:=2) hk];rfl
  refine X0 (λw h=>Vl.some (HS.vl_own (a:=pa) (t:=3) h aPk) (by rw[List.length_map];omega)) λhsm=>aU3 ?_
  refine Qq [12] Qx ?_
  refine dLn 0 [[]] ?_
  refine dFa 1 ?_
  refine dLd 2 [[]] ?_
  refine dP 3 ?_
  refine dV 4 rfl (Qa rfl rfl rfl X6 (k) om om (Rw.some hs om)) (dQ 5 [[]] rfl (Qu _ rfl rfl Qae rfl (Rw.rd hs hk)) (dP 6 ?_))
  refine dP 7 ?_
  refine dV 8 rfl (Qa rfl rfl rfl QB (k) om om hsm) (dQ 9 [[]] rfl (Qn rfl rfl Xq (λw h=>(HS.vl_own (a:=pa) (t:=3) h aPk).rd (QaX (k:=k) om))) (Qs (show _=Value.int .i64 (QO (l.take k)).2 from by rw[Qb4 hk]) (dQ 10 [[]] rfl (Ql rfl Qps rfl (λw1 h1=>c45 w1 (QO (l.take k)).2 (nth l k) om om hbk)) (Qs (show _=.agg #[.string (bs (QI 2 l k).key),.string (bs (QI 2 l k).val)]from rfl) (dH 11 rfl (Q3 rfl Qpg rfl (λw1 h1=>c43 w1 2 4 2 gn1 cap1 L1 (QI 2 l k) (by decide) hp1 hB1 hT1 (HS.nt h1 aPk) (Zq hx0) hkx (by rw[hk4];exact hI9.2.1))) (λ⟨⟨gr,cr⟩,LR⟩hLR=>dBa ?_))))))
  refine dSt 12 ?_ (hl:=(by simp only[Qe,List.length_set,List.length_cons,List.length_nil,List.length_map];omega))
  refine dTu [] ?_
  refine dNi ?_
  refine aU ?_
  refine Qg (L':=[(0,_),(1,_),(2,_),(3,_),(4,_),(5,_),(6,_),(7,_),(8,_),(9,_),(10,_),(11,_),(12,_)]) aSx (λ_ h=>h) ?_
  refine aT3 ?_
  refine aU2 ?_
  exact sBk ((k+1,(gr,cr)),LR) (by(try simp only[]);omega) ⟨by(try simp only[]);omega,by have hL9:pln LR=Qlk ((2:Nat):Int) 4 2 (pln L1) (QI 2 l k):=hLR;simp only[];rw[hL9,hst,hk4];exact hI9.2.2.1⟩
 obtain rfl:k=l.length:=om
 refine Qi rfl ?_
 refine aU5 ?_
 exact Qf (rs:=[.cell 2 27]) rfl (.cell rfl Yf aPk rfl (.nil)) (λw' h'=>⟨((gn1,cap1),L1),rfl,hk4,h'.ent aEt⟩)
end Go.Proofs
namespace Gx
open Go Go.RowKit
def fdX(co:Int)(ns:List Nd)(key:List UInt8):TEnt:=if(Qh co ns key).2.2=true then QfR co ns key else⟨[],[]⟩
def QiP(co:Nat)(ns:List Nd)(l:List SItm)(k:Nat):Bool:=decide (fdX (co:Int) ns (QI co l k).key=QI co l k)
def Z2(H I:List Nd)(l:List SItm)(k:Nat):Bool:=QiP 3 H l k&&QiP 2 I l k
def ckL(H I:List Nd)(l:List SItm):List Int:=(List.range l.length).map λk=>if Z2 H I l k=true then 0 else 19
def Qel(ns:List Nd):Int:=(shA ns ns.length).2.1
def ckB(H I:List Nd)(l:List SItm):Int×Int:=if(QU (ckL H I l) 0).2=0 then if Qel H=l.length/\Qel I=l.length then(0,0)else((l.length:Int),19)else QU (ckL H I l) 0
def ckE(a b c:Int)(k:Bool):Int:=if a=0 then if b=0 then if c=0 then if k=true then 0 else 15 else c else b else a
def ckI(nx:Int)(l:List SItm)(H I:Tre):Int×Int:=
 if ckE (QX nx l).2 (QZ H).2 (QZ I).2 (decide (H.co=3)&&decide (I.co=2))=0 then ckB H.ns I.ns l
 else(0,ckE (QX nx l).2 (QZ H).2 (QZ I).2 (decide (H.co=3)&&decide (I.co=2)))
theorem QrM{a b c:Int}{k:Bool}(h:ckE a b c k=0):a=0/\b=0/\c=0/\k=true:=by
 unfold ckE at h;split at h
 ·split at h
  ·split at h
   ·split at h
    ·exact⟨by assumption,by assumption,by assumption,by assumption⟩
    ·cases h
   ·exact absurd h (by assumption)
  ·exact absurd h (by assumption)
 ·exact absurd h (by assumption)
theorem QnZ(H I:List Nd)(l:List SItm):(ckL H I l).length=l.length:=by simp[ckL]
theorem Qhc{H I:List Nd}{l:List SItm}{k:Nat}(h:k<l.length):(ckL H I l).getD k 0=if Z2 H I l k=true then 0 else 19:=by
 unfold ckL;rw[List.getD_eq_getElem?_getD,List.getElem?_map,List.getElem?_range h];rfl
mutual
theorem QcW:∀T:BT,T.flat.Perm (T.nodes.flatMap λp=>p.2.es)
 | .nd i es ks=>by
  rw[BT.flat,BT.nodes,List.flatMap_cons];exact flatL_permS es ks
theorem flatL_permS:∀(es:List TEnt)(ks:List BT),(flatL es ks).Perm (es++(nodesL ks).flatMap λp=>p.2.es)
 | es,[]=>by rw[XC,nodesL];simp
 | [],k::ks=>by
  rw[flatL,nodesL,List.flatMap_append];exact(QcW k).append (flatL_permS [] ks)
 | e::es,k::ks=>by
  rw[flatL,nodesL,List.flatMap_append];have h1:=(QcW k).append ((flatL_permS es ks).cons e);refine h1.trans ?_;refine List.perm_iff_count.2 λa=>?_;simp only[List.count_append,List.count_cons];omega
end
theorem QhL:∀{l:List Nat},(∀x∈l,x=0)->l.sum=0
 | [],_=>rfl
 | x::l,h=>by
  rw[List.sum_cons,h x (List.mem_cons_self ..),QhL λy hy=>h y (List.mem_cons_of_mem _ hy)]
def Qe5(ns:List Nd)(I:List Nat):Nat:=(I.map λi=>(nth ns i).es.length).sum
theorem Qlm{ns:List Nd}{I J:List Nat}(h:I.Perm J):Qe5 ns I=Qe5 ns J:=(h.map _).sum_nat
theorem Qkk{ns:List Nd}(hf:∀i,¬(nth ns i).us=true->(nth ns i).es.length=0):∀k,(shA ns k).2.1=((Qe5 ns (List.range k):Nat):Int)
 | 0=>rfl
 | k+1=>by
  have ih:=Qkk hf k
  have e:Qe5 ns (List.range (k+1))=Qe5 ns (List.range k)+(nth ns k).es.length:=by
   unfold Qe5;rw[List.range_succ,List.map_append,List.sum_append];simp
  rw[shA,e];split
  ·simp only[];rw[ih];omega
  ·rename_i h9;have:=hf k h9;simp only[];rw[ih];omega
theorem Qgj{ns:List Nd}{T:BT}(hR:Xc ns T):Qel ns=(T.flat.length:Int):=by
 have hfr:∀i,¬(nth ns i).us=true->(nth ns i).es.length=0:=λi hu=>by
  rcases Nat.lt_or_ge i ns.length with hi|hi
  ·by_cases hm:i∈T.nodes.map Prod.fst
   ·obtain⟨p,hp,rfl⟩:=List.mem_map.1 hm;have h3:=RepN.at_ (i:=p.1) (x:=p.2) hR hp;rw[h3.2]at hu;exact absurd (ZW T p hp) hu
   ·rw[RepN.rest hR i hi hm];rfl
  ·rw[YO hi];rfl
 have h1:Qe5 ns (List.range ns.length)=Qe5 ns (T.nodes.map Prod.fst):=by
  have h2:=List.filter_append_perm (λi=>decide (i∈T.nodes.map Prod.fst)) (List.range ns.length);rw[<-Qlm h2];unfold Qe5;rw[List.map_append,List.sum_append]
  have h3:((List.filter (λi=>!decide (i∈T.nodes.map Prod.fst)) (List.range ns.length)).map λi=>(nth ns i).es.length).sum=0:=by
   refine QhL λx hx=>?_;obtain⟨i,hi,rfl⟩:=List.mem_map.1 hx;have h4:=List.mem_filter.1 hi;rw[RepN.rest hR i (List.mem_range.1 h4.1) (by simpa using h4.2)];rfl
  rw[h3,Nat.add_zero];refine((List.Perm.map _ ?_)).sum_nat;refine(List.perm_ext_iff_of_nodup ((List.nodup_range).filter _) hR.nd).2 λi=>?_;rw[List.mem_filter,List.mem_range,decide_eq_true_eq];refine⟨λh=>h.2,λh=>⟨?_,h⟩⟩;obtain⟨p,hp,rfl⟩:=List.mem_map.1 h;exact RepN.lt hR hp
 have h5:T.flat.length=Qe5 ns (T.nodes.map Prod.fst):=by
  rw[(QcW T).length_eq,List.length_flatMap];unfold Qe5;rw[List.map_map];congr 1;refine List.map_congr_left λp hp=>?_;show p.2.es.length=(nth ns p.1).es.length;rw[(RepN.at_ (i:=p.1) (x:=p.2) hR hp).2]
 unfold Qel;rw[Qkk hfr,h1,<-h5]
theorem QjX{nx:Int}{l:List SItm}{co:Nat}{ns:List Nd}{T:BT}(hco:co=2\/co=3)(h:(QX nx l).2=0)(hR:Xc ns T)(hT:TOk (co:Int) ns)(h0:0<ns.length)(hh:∀k,k<l.length->QiP co ns l k=true):l.length<=T.flat.length:=by
 have hin:∀k,k<l.length->QI co l k∈T.flat:=λk hk=>by
  have h1:fdX (co:Int) ns (QI co l k).key=QI co l k:=of_decide_eq_true (hh k hk)
  have hkl:0<(QI co l k).key.length:=by
   show 0<(Yg co (nth l k)).length;unfold Yg;split<;>(rw[Yr];exact Nat.succ_pos _)
  have hf:(Qh (co:Int) ns (QI co l k).key).2.2=true:=by
   cases hq:(Qh (co:Int) ns (QI co l k).key).2.2 with
   | true=>rfl
   | false=>
    unfold fdX at h1;rw[hq,if_neg (by decide)]at h1;rw[<-h1]at hkl;exact absurd hkl (Nat.lt_irrefl 0)
  unfold fdX at h1;rw[if_pos hf]at h1;obtain⟨p1,p2,p3,p4,p5⟩:=QeP hT h0 (QI co l k).key;have hat:=QjB (p5▸hf);rw[<-p4]at hat
  have hm:QI co l k∈(nth ns (Q2 (Qh (co:Int) ns (QI co l k).key).1)).es:=by
   have h9:=QQ hat;have h8:nth (nth ns (Q2 (Qh (co:Int) ns (QI co l k).key).1)).es (Qh (co:Int) ns (QI co l k).key).2.1=QI co l k:=h1;rw[h8]at h9;exact h9
  by_cases hn:Q2 (Qh (co:Int) ns (QI co l k).key).1∈T.nodes.map Prod.fst
  ·obtain⟨p,hp,he⟩:=List.mem_map.1 hn;rw[<-he,(RepN.at_ (i:=p.1) (x:=p.2) hR hp).2]at hm;exact(QbD T p hp).subset hm
  ·rw[RepN.rest hR _ p3 hn]at hm;cases hm
 have hnd:(QG co l).Nodup:=by
  refine List.pairwise_iff_getElem.2 λi k hi hk hik he=>?_;have hk':k<l.length:=by rwa[Xz]at hk
  have hc:=QhP hco h hik hk';have e1:(QG co l)[i]=QI co l i:=by rw[<-Xj om,QP (List.getElem?_eq_getElem hi)]
  have e2:(QG co l)[k]=QI co l k:=by rw[<-Xj hk',QP (List.getElem?_eq_getElem hk)]
  rw[e1,e2]at he;rw[he]at hc;have:=Qav (co:Int) (QI co l k).key (QI co l k).key;omega
 have h9:=QdB hnd (m:=T.flat) λx hx=>by
  obtain⟨k,hk,rfl⟩:=List.mem_map.1 hx;exact hin k (List.mem_range.1 hk)
 rw[Xz]at h9;exact h9
theorem Qc4{H I:List Nd}{l:List SItm}(h:∀i,i<l.length->Z2 H I l i=true):ckB H I l=if Qel H=l.length/\Qel I=l.length then(0,0)else((l.length:Int),19):=by
 unfold ckB;rw[if_pos];refine QaV.2 λe he=>?_;obtain⟨k,hk,rfl⟩:=List.mem_map.1 he;show(if Z2 H I l k=true then 0 else 19:Int)=0;rw[if_pos (h k (List.mem_range.1 hk))]
theorem QjC{H I:List Nd}{l:List SItm}{k:Nat}(hk:k<l.length)(h:∀i,i<k->Z2 H I l i=true)(hn:¬Z2 H I l k=true):ckB H I l=((k:Int),19):=by
 have e9:=eachF_at (es:=ckL H I l) (k:=k) (by rw[QnZ];exact hk) (λi hi=>by rw[Qhc om,if_pos (h i hi)]) (by rw[Qhc hk,if_neg hn];decide);rw[Qhc hk,if_neg hn]at e9;unfold ckB;rw[e9,if_neg (show¬(19:Int)=0 by decide)]
theorem Qet(a b:TEnt):eqC [.string (bs a.key),.string (bs a.val)] [.string (bs b.key),.string (bs b.val)]=some (decide (a=b)):=by
 have e:∀s t:List UInt8,eq1 (.string (bs s)) (.string (bs t))=some (decide (s=t)):=λs t=>by
  show some (decide _)=some (decide _);exact congrArg some (decide_eq_decide.2 (Iff.of_eq rfl))
 simp only[eqC,e];congr 1;obtain⟨k,v⟩:=a;obtain⟨k2,v2⟩:=b;rw[Bool.and_true,<-Bool.decide_and];exact decide_eq_decide.2 (by simp)
theorem Qfe{co:Nat}{ns:List Nd}{l:List SItm}{k:Nat}(h:QiP co ns l k=true):(Qh (co:Int) ns (QI co l k).key).2.2=true:=by
 have h1:fdX (co:Int) ns (QI co l k).key=QI co l k:=of_decide_eq_true h
 have hkl:0<(QI co l k).key.length:=by
  show 0<(Yg co (nth l k)).length;unfold Yg;split<;>(rw[Yr];exact Nat.succ_pos _)
 cases hq:(Qh (co:Int) ns (QI co l k).key).2.2 with
 | true=>rfl
 | false=>
  unfold fdX at h1;rw[hq,if_neg (by decide)]at h1;rw[<-h1]at hkl;exact absurd hkl (Nat.lt_irrefl 0)
end Gx
namespace Go.Proofs
open Go Go.RowKit Gx
attribute [local irreducible] Go.Calls Gx.S Gx.O Gx.D Gx.OpP Gx.OpQ Gx.OpH
set_option maxRecDepth 20000
theorem Qkv:QH Tryz.prog 32=true:=by kernel_rfl
theorem Qpi:QH Tryz.prog 35=true:=by kernel_rfl
theorem QnK:tar Tryz.prog 79=some (2,27,4):=by kernel_rfl
theorem Qrx:Xy Tryz.prog 79=some [.int .i64 0,.int .i64 0,.int .i64 0,.slice none 0 0,.int .i64 0,.int .i64 0,.int .i64 0,.slice none 0 0]:=by kernel_rfl
instance:TFn Tryz.prog 36:=⟨by kernel_rfl⟩
theorem Qb8{co:Int}{x:TEnt}(h:XP co x=0):YU co x.key=0:=by unfold XP at h;split at h;assumption;cases h
theorem c35w(w:World)(j:Nat)(mo rm:Int)(a:Option Addr)(cap:Nat)(L:List LNd)(key:List UInt8)(hs:Nt w [] a L)(hB:Bd (pln L))(hkl:∀i,i<L.length->∀x∈(nth L i).es,x.key.length<=1000000)(h0:(QZ (⟨(j:Int),mo,rm,pln L⟩:Tre)).2=0)(hkk:key.length<=1000000)(hx0:YU (j:Int) key=0):CR 35 #[.agg #[.int .i64 (j:Int),.int .i64 mo,.int .i64 rm,.slice a L.length cap],.string (bs key)] w (.tuple #[.agg #[.string (bs (fdX (j:Int) (pln L) key).key),.string (bs (fdX (j:Int) (pln L) key).val)],.int .i64 (if(Qh (j:Int) (pln L) key).2.2=true then 0 else 6)]):=by
  by_cases hx:(Qh (j:Int) (pln L) key).2.2=true
  · have h9:=c35o w j mo rm a cap L key hs hB hkl h0 hkk hx0 hx;have e:fdX (j:Int) (pln L) key=QfR (j:Int) (pln L) key:=if_pos hx;rw[e,if_pos hx];exact h9
  · have h9:=c35m w j mo rm a cap L key hs hB hkl h0 hkk hx0 hx;have e:fdX (j:Int) (pln L) key=⟨[],[]⟩:=if_neg hx;rw[e,if_neg hx];exact h9
theorem c47w(w:World)(j:Nat)(mo rm:Int)(a:Option Addr)(cap:Nat)(L:List LNd)(key:List UInt8)(hs:Nt w [] a L)(hB:Bd (pln L))(hj:j<=3)(hl0:0<L.length)(hT:TOk (j:Int) (pln L))(hkk:key.length<=1000000)(hx0:YU (j:Int) key=0):CR 47 #[.agg #[.int .i64 (j:Int),.int .i64 mo,.int .i64 rm,.slice a L.length cap],.string (bs key)] w (.tuple #[.agg #[.string (bs (fdX (j:Int) (pln L) key).key),.string (bs (fdX (j:Int) (pln L) key).val)],.bool (if(Qh (j:Int) (pln L) key).2.2=true then true else false)]):=by
  by_cases hx:(Qh (j:Int) (pln L) key).2.2=true
  · have h9:=c47o w j mo rm a cap L key hs hB hj hl0 hT hkk hx0 hx;have e:fdX (j:Int) (pln L) key=QfR (j:Int) (pln L) key:=if_pos hx;rw[e,if_pos hx];exact h9
  · have h9:=c47m w j mo rm a cap L key hs hB hj hl0 hT hkk hx0 hx;have e:fdX (j:Int) (pln L) key=⟨[],[]⟩:=if_neg hx;rw[e,if_neg hx];exact h9
theorem c10e(w:World)(nx:Int)(a:Option Addr)(cap:Nat)(l:List SItm)(ch mh rh:Int)(ah:Option Addr)(hcap:Nat)(LH:List LNd)(ci mi ri:Int)(ai:Option Addr)(icap:Nat)(LI:List LNd)(hs:Rw SItm.vals 2 w [] a l)(hm:l.length<=100000)(hb:∀x∈l,x.by_.length<=100000)(hsH:Nt w [] ah LH)(hBH:Bd (pln LH))(hkH:∀i,i<LH.length->∀x∈(nth LH i).es,x.key.length<=1000000)(hsI:Nt w [] ai LI)(hBI:Bd (pln LI))(hkI:∀i,i<LI.length->∀x∈(nth LI i).es,x.key.length<=1000000)(hE:¬(ckE (QX nx l).2 (QZ (⟨ch,mh,rh,pln LH⟩:Tre)).2 (QZ (⟨ci,mi,ri,pln LI⟩:Tre)).2 (decide (ch=3)&&decide (ci=2)))=0):CR 10 #[.agg #[.int .i64 nx,.slice a l.length cap],.agg #[.int .i64 ch,.int .i64 mh,.int .i64 rh,.slice ah LH.length hcap],.agg #[.int .i64 ci,.int .i64 mi,.int .i64 ri,.slice ai LI.length icap]] w (.tuple #[.int .i64 (ckI nx l (⟨ch,mh,rh,pln LH⟩:Tre) (⟨ci,mi,ri,pln LI⟩:Tre)).1,.int .i64 (ckI nx l (⟨ch,mh,rh,pln LH⟩:Tre) (⟨ci,mi,ri,pln LI⟩:Tre)).2]):=by
 have hFV:Xm [.int .i64 (Xm [.int .i64 (QX nx l).2,.int .i64 (QZ (⟨ch,mh,rh,pln LH⟩:Tre)).2,.int .i64 (QZ (⟨ci,mi,ri,pln LI⟩:Tre)).2]),.int .i64 (cond (decide (ch=3)&&decide (ci=2)) 0 15)]=(ckE (QX nx l).2 (QZ (⟨ch,mh,rh,pln LH⟩:Tre)).2 (QZ (⟨ci,mi,ri,pln LI⟩:Tre)).2 (decide (ch=3)&&decide (ci=2))):=by simp only[Xm];unfold ckE;cases hK:(decide (ch=3)&&decide (ci=2))<;>simp only[cond_true,cond_false]<;>grind
 have hR:(ckI nx l (⟨ch,mh,rh,pln LH⟩:Tre) (⟨ci,mi,ri,pln LI⟩:Tre))=(0,(ckE (QX nx l).2 (QZ (⟨ch,mh,rh,pln LH⟩:Tre)).2 (QZ (⟨ci,mi,ri,pln LI⟩:Tre)).2 (decide (ch=3)&&decide (ci=2)))):=if_neg hE
 refine eN3 Tryz.func10 Tryz.ntmps10 ?_
 refine aU2 ?_
 refine oBx λb1 _=>?_
 refine oBx λb2 _=>?_
 refine oBx λb3 _=>?_
 refine aU4 ?_
 refine Qq [] Qx ?_
 refine dLn 0 [] ?_
 refine dQ 1 [] rfl (Ql rfl Qml rfl (λw1 h1=>c31 w1 nx a cap l (hs.later h1) hm hb)) (dLn 2 [] ?_)
 refine dQ 3 [] rfl (Ql rfl Qkv rfl (λw1 h1=>c32 w1 ch mh rh ah hcap LH (hsH.later h1.nil) hBH hkH)) (dLn 4 [] ?_)
 refine dQ 5 [] rfl (Ql rfl Qkv rfl (λw1 h1=>c32 w1 ci mi ri ai icap LI (hsI.later h1.nil) hBI hkI)) (dH 6 rfl (Qd (cs:=[_,_,_]) rfl rfl XI Yv rfl rfl rfl) (λb4 _=>dBa ?_))
 refine dQ 7 [] rfl (Ql rfl QgJ rfl (λw1 h1=>f30 h1 aPk (by rfl) (by rfl) (by decide))) (dP 8 ?_)
 refine dNi ?_
 refine aU ?_
 refine Qg (L':=[(3,_),(4,_),(5,_),(6,_),(7,_),(8,_)]) aSx (λ_ h=>h) ?_
 refine Xe (α:=Bool) [9,29,30,31,32,33,34,35,36,37,38,39,40] (λb=>[(9,.bool b)]) (λ_=>HS w [] [.blk b3 27 4 [.int .i64 ci,.int .i64 mi,.int .i64 ri,.slice ai LI.length icap],.blk b2 27 4 [.int .i64 ch,.int .i64 mh,.int .i64 rh,.slice ah LH.length hcap],.blk b1 24 2 [.int .i64 nx,.slice a l.length cap]]) (λb=>b=(decide (ch=3)&&decide (ci=2))) ?_ ?_
 ·skip
  refine Qq [] Qx ?_
  refine dFa 0 ?_
  refine dLd 1 [] ?_
  refine dQ 2 [] rfl (Ql rfl Qib rfl (λw1 h1=>c27 w1)) (dV 3 rfl (QbL rfl rfl Qc5 Xq rfl) (dP 4 ?_))
  refine dP 5 ?_
  apply Q7 34
  ·exact rfl
  ·intro hg5
   have hs6:=hg5;try simp only[dT]at hs6
   refine dFo 6 34 hg5 ?_
   refine dQo 7 34 [] hg5 rfl rfl rfl (XO rfl rfl Xq aPk rfl) ?_
   refine dQo 8 34 [] hg5 rfl rfl rfl (Ql rfl QiS rfl (λw1 h1=>c29 w1)) ?_
   refine dVo 9 34 hg5 rfl rfl rfl (QbL rfl rfl Qc5 Xq rfl) ?_
   refine dPo 10 34 hg5 ?_
   refine dV 11 rfl (Xk rfl rfl hg5 rfl) (dP 12 ?_)
   refine dNi ?_
   exact Qo (decide (ci=2)) (by simp_all) aSx (λw h=>h.ent aEt)
  intro hg7
  have hs8:=hg7;try simp only[dN]at hs8
  refine dOf 6 34 hg7 ?_
  refine dOf 7 34 hg7 ?_
  refine dOf 8 34 hg7 ?_
  refine dOf 9 34 hg7 ?_
  refine dOf 10 34 hg7 ?_
  refine dV 11 rfl (QW rfl rfl hg7 rfl) (dP 12 ?_)
  refine dNi ?_
  exact Qo false (by simp_all) aSx (λw h=>h.ent aEt)
 intro b9 hb9
 subst hb9
 refine aU5 ?_
 refine oCq rfl (λw1 h1=>c33 w1 _ _) (o_h (Qd (cs:=[_,_]) rfl rfl XI Yv rfl rfl rfl) rfl (λb9 _=>oCq rfl (λw1 h1=>f30 h1 aPk (by rfl) (by rfl) (by decide)) (Qm (show _=Value.int .i64 (ckE (QX nx l).2 (QZ (⟨ch,mh,rh,pln LH⟩:Tre)).2 (QZ (⟨ci,mi,ri,pln LI⟩:Tre)).2 (decide (ch=3)&&decide (ci=2)))from by rw[<-hFV]) (aU7 ?_))))
 refine sCd rfl (λh10=>?_) λh10=>?_
 ·refine aU6 ?_
  exact Qf (rs:=[.tmp 6,.tmp 7]) rfl (.tmp rfl (.tmp rfl (.nil))) (λw' h'=>⟨by rw[hR];rfl,h'.below⟩)
 exfalso;exact hE h10
set_option maxHeartbeats 4000000 in
theorem c10o(w:World)(nx:Int)(a:Option Addr)(cap:Nat)(l:List SItm)(mh rh:Int)(ah:Option Addr)(hcap:Nat)(LH:List LNd)(mi ri:Int)(ai:Option Addr)(icap:Nat)(LI:List LNd)(hs:Rw SItm.vals 2 w [] a l)(hm:l.length<=100000)(hb:∀x∈l,x.by_.length<=100000)(hsH:Nt w [] ah LH)(hBH:Bd (pln LH))(hkH:∀i,i<LH.length->∀x∈(nth LH i).es,x.key.length<=1000000)(hsI:Nt w [] ai LI)(hBI:Bd (pln LI))(hkI:∀i,i<LI.length->∀x∈(nth LI i).es,x.key.length<=1000000)(hst0:(QX nx l).2=0)(h0H:(QZ (⟨3,mh,rh,pln LH⟩:Tre)).2=0)(h0I:(QZ (⟨2,mi,ri,pln LI⟩:Tre)).2=0):CR 10 #[.agg #[.int .i64 nx,.slice a l.length cap],.agg #[.int .i64 3,.int .i64 mh,.int .i64 rh,.slice ah LH.length hcap],.agg #[.int .i64 2,.int .i64 mi,.int .i64 ri,.slice ai LI.length icap]] w (.tuple #[.int .i64 (ckB (pln LH) (pln LI) l).1,.int .i64 (ckB (pln LH) (pln LI) l).2]):=by
 have hFV:Xm [.int .i64 (Xm [.int .i64 (QX nx l).2,.int .i64 (QZ (⟨3,mh,rh,pln LH⟩:Tre)).2,.int .i64 (QZ (⟨2,mi,ri,pln LI⟩:Tre)).2]),.int .i64 (cond true 0 15)]=0:=by simp only[Xm,hst0,h0H,h0I];rfl
 obtain⟨hnx,hl60,hit9,hpl9⟩:=YS hst0
 refine eN3 Tryz.func10 Tryz.ntmps10 ?_
 refine aU2 ?_
 refine oBx λb1 _=>?_
 refine oBx λb2 _=>?_
 refine oBx λb3 _=>?_
 refine aU4 ?_
 refine Qq [] Qx ?_
 refine dLn 0 [] ?_
 refine dQ 1 [] rfl (Ql rfl Qml rfl (λw1 h1=>c31 w1 nx a cap l (hs.later h1) hm hb)) (dLn 2 [] ?_)
 refine dQ 3 [] rfl (Ql rfl Qkv rfl (λw1 h1=>c32 w1 3 mh rh ah hcap LH (hsH.later h1.nil) hBH hkH)) (dLn 4 [] ?_)
 refine dQ 5 [] rfl (Ql rfl Qkv rfl (λw1 h1=>c32 w1 2 mi ri ai icap LI (hsI.later h1.nil) hBI hkI)) (dH 6 rfl (Qd (cs:=[_,_,_]) rfl rfl XI Yv rfl rfl rfl) (λb4 _=>dBa ?_))
 refine dQ 7 [] rfl (Ql rfl QgJ rfl (λw1 h1=>f30 h1 aPk (by rfl) (by rfl) (by decide))) (dP 8 ?_)
 refine dNi ?_
 refine aU ?_
 refine Qg (L':=[(3,_),(4,_),(5,_),(6,_),(7,_),(8,_)]) aSx (λ_ h=>h) ?_
 refine Xe (α:=Bool) [9,29,30,31,32,33,34,35,36,37,38,39,40] (λb=>[(9,.bool b)]) (λ_=>HS w [] [.blk b3 27 4 [.int .i64 2,.int .i64 mi,.int .i64 ri,.slice ai LI.length icap],.blk b2 27 4 [.int .i64 3,.int .i64 mh,.int .i64 rh,.slice ah LH.length hcap],.blk b1 24 2 [.int .i64 nx,.slice a l.length cap]]) (λb=>b=true) ?_ ?_
 ·skip
  refine Qq [] Qx ?_
  refine dFa 0 ?_
  refine dLd 1 [] ?_
  refine dQ 2 [] rfl (Ql rfl Qib rfl (λw1 h1=>c27 w1)) (dV 3 rfl (QbL rfl rfl Qc5 Xq rfl) (dP 4 ?_))
  refine dP 5 ?_
  apply Q7 34
  ·exact rfl
  ·intro hg5
   have hs6:=hg5;try simp only[dT]at hs6
   refine dFo 6 34 hg5 ?_
   refine dQo 7 34 [] hg5 rfl rfl rfl (XO rfl rfl Xq aPk rfl) ?_
   refine dQo 8 34 [] hg5 rfl rfl rfl (Ql rfl QiS rfl (λw1 h1=>c29 w1)) ?_
   refine dVo 9 34 hg5 rfl rfl rfl (QbL rfl rfl Qc5 Xq rfl) ?_
   refine dPo 10 34 hg5 ?_
   refine dV 11 rfl (Xk rfl rfl hg5 rfl) (dP 12 ?_)
   refine dNi ?_
   exact Qo (decide ((2:Int)=2)) (by simp) aSx (λw h=>h.ent aEt)
  intro hg7
  have hs8:=hg7;try simp only[dN]at hs8
  refine dOf 6 34 hg7 ?_
  refine dOf 7 34 hg7 ?_
  refine dOf 8 34 hg7 ?_
  refine dOf 9 34 hg7 ?_
  refine dOf 10 34 hg7 ?_
  refine dV 11 rfl (QW rfl rfl hg7 rfl) (dP 12 ?_)
  refine dNi ?_
  exact Qo false (by exfalso;simp_all) aSx (λw h=>h.ent aEt)
 intro b9 hb9
 subst hb9
 refine aU5 ?_
 refine oCq rfl (λw1 h1=>c33 w1 _ _) (o_h (Qd (cs:=[_,_]) rfl rfl XI Yv rfl rfl rfl) rfl (λb9 _=>oCq rfl (λw1 h1=>f30 h1 aPk (by rfl) (by rfl) (by decide)) (Qm (show _=Value.int .i64 0 from congrArg (Value.int .i64) hFV) (aU7 ?_))))
 refine sCd rfl (λh10=>?_) λh10=>?_
 ·refine aU6 ?_
  exact Qf (rs:=[.tmp 6,.tmp 7]) rfl (.tmp rfl (.tmp rfl (.nil))) (λw' h'=>⟨by exfalso;simp_all,h'.below⟩)
 refine aU2 ?_
 refine Qq [] Qx ?_
 refine dQ 0 [] rfl (Ql rfl Qib rfl (λw1 h1=>c27 w1)) (dLn 1 [] ?_)
 refine dLn 4 [] ?_
 refine dH 2 rfl (Q3 rfl QjQ rfl (λw1 h1=>c34 w1 3 60 nx a cap l (hs.later h1) hm hb hst0 Qpq (λw2 x hi hb2=>c60 w2 x hi hb2))) (λ⟨ea,ec⟩_=>dBa ?_)
 refine dQ 3 [] rfl (Ql rfl QiS rfl (λw1 h1=>c29 w1)) (dH 5 rfl (Q3 rfl QjQ rfl (λw1 h1=>c34 w1 2 64 nx a cap l (hs.later h1) hm hb hst0 QpA (λw2 x hi hb2=>c64 w2 x hi hb2))) (λ⟨fa,fc⟩_=>dBa ?_))
 refine dP 6 ?_
 refine dP 7 ?_
 refine dNi ?_
 refine aU9 ?_
 refine Qg (L':=[(3,_),(4,_),(5,_),(6,_),(7,_),(10,_),(11,_),(57,_),(58,_)]) aSx (λ_ h=>h) ?_
 refine Qt (α:=Nat) [6,7,12,13,14,15,16,58,59,60,61,62,63,64,65,66,67,68,69,70,71,72,73,74,75,76,77,78,79,80,81,82,83,84,85,86,87,88,89,90,91,92,93,94,95,96] (λk=>[(58,.int .i64 (k:Int))]) (λ_=>HS w [] [.own (.slice ea ((QG 3 l)).length ec) 76 2 ((QG 3 l)).length (((QG 3 l)).flatMap TEnt.vals),.own (.slice fa ((QG 2 l)).length fc) 76 2 ((QG 2 l)).length (((QG 2 l)).flatMap TEnt.vals),.blk b3 27 4 [.int .i64 2,.int .i64 mi,.int .i64 ri,.slice ai LI.length icap],.blk b2 27 4 [.int .i64 3,.int .i64 mh,.int .i64 rh,.slice ah LH.length hcap],.blk b1 24 2 [.int .i64 nx,.slice a l.length cap]]) (λk=>k<=l.length/\∀i,i<k->Z2 (pln LH) (pln LI) l i=true) (λk=>l.length-k) 0 ⟨Nat.zero_le _,λi h=>absurd h (Nat.not_lt_zero i)⟩ aSx (λw h=>h.ent aEt) (λk hk1=>?_)
 obtain⟨hk1,hk2⟩:=hk1
 refine aU5 ?_
 refine sCd rfl (λh11=>?_) λh11=>?_
 ·have hk:k<l.length:=by omega
  have hx3:=ZV (co:=3) (.inr rfl) hst0 hk
  have hx2:=ZV (co:=2) (.inl rfl) hst0 hk
  have hy3:(QI 3 l k).key.length<=1000000:=Nat.le_trans (show(Yg 3 (nth l k)).length<=8 from Zg _) (by decide)
  have hy2:(QI 2 l k).key.length<=1000000:=Nat.le_trans (show(Yg 2 (nth l k)).length<=8 from Zg _) (by decide)
  have hl3:k<(QG 3 l).length:=by rw[Xz];exact hk
  have hl2:k<(QG 2 l).length:=by rw[Xz];exact hk
  refine X0 (λw h=>QbN (a:=ea) (n:=(QG 3 l).length) om h aPk) λhga=>?_
  obtain⟨g3,hg3,_⟩:=hga
  refine X0 (λw h=>QbN (a:=fa) (n:=(QG 2 l).length) om h aPk) λhgb=>?_
  obtain⟨g2,hg2,_⟩:=hgb
  refine aU9 ?_
  refine Qq [11] Qx ?_
  refine dLn 0 [[]] ?_
  refine dP 1 ?_
  refine dP 2 ?_
  refine dV 3 rfl (Qa rfl rfl rfl QL _ rfl om hg3) (dFa 4 ?_)
  refine dQ 5 [[]] rfl (Qn rfl rfl Y8 (λw h=>QeI hl3 hg3 h aPk 0 _ rfl)) (Qs (show _=Value.string (bs (QI 3 l k).key)from by rw[Xj hk]) (dQ 6 [[]] rfl (Ql rfl Qpi rfl (λw1 h1=>c35w w1 3 mh rh ah hcap LH (QI 3 l k).key (hsH.later h1.nil) hBH hkH h0H hy3 (Qb8 hx3))) (dP 7 ?_)))
  refine dP 8 ?_
  refine dP 9 ?_
  refine dH 10 rfl (X9 rfl Xi) (λb12 _=>dBa ?_)
  refine dSt 11 ?_ (hl:=(by simp only[Qe,List.length_set,List.length_cons,List.length_nil,List.length_map];omega))
  refine dTu [] ?_
  refine dP 12 ?_
  refine dNi ?_
  refine aU ?_
  refine Qq [11] Qx ?_
  refine dLn 0 [[]] ?_
  refine dP 1 ?_
  refine dP 2 ?_
  refine dV 3 rfl (Qa rfl rfl rfl QL _ rfl om hg2) (dFa 4 ?_)
  refine dQ 5 [[]] rfl (Qn rfl rfl Y8 (λw h=>QeI hl2 hg2 h aPk 0 _ rfl)) (Qs (show _=Value.string (bs (QI 2 l k).key)from by rw[Xj hk]) (dQ 6 [[]] rfl (Ql rfl Qpi rfl (λw1 h1=>c35w w1 2 mi ri ai icap LI (QI 2 l k).key (hsI.later h1.nil) hBI hkI h0I hy2 (Qb8 hx2))) (dP 7 ?_)))
  refine dP 8 ?_
  refine dP 9 ?_
  refine dH 10 rfl (X9 rfl Xi) (λb13 _=>dBa ?_)
  refine dSt 11 ?_ (hl:=(by simp only[Qe,List.length_set,List.length_cons,List.length_nil,List.length_map];omega))
  refine dTu [] ?_
  refine dP 12 ?_
  refine dNi ?_
  refine aU ?_
  refine Qg (L':=[(3,_),(4,_),(5,_),(10,_),(11,_),(12,_),(13,_),(15,_),(57,_),(58,_)]) aSx (λ_ h=>h) ?_
  refine Qq [] Qx ?_
  refine dLn 0 [] ?_
  refine dP 1 ?_
  refine dP 2 ?_
  refine dV 3 rfl (Qa rfl rfl rfl QL _ rfl om hg3) (dQ 4 [] rfl (Yi _ rfl rfl Ye rfl (λw h=>QeI hl3 hg3 h aPk)) (Qs (show _=.agg #[.string (bs (QI 3 l k).key),.string (bs (QI 3 l k).val)]from by rw[Xj hk];rfl) (dV 5 rfl (QaJ rfl rfl rfl QfN (by rfl) (by rfl) (by rfl)) (Qs (show _=Value.bool (!QiP 3 (pln LH) l k)from by have h9:=Qet (fdX ((3:Nat):Int) (pln LH) (QI 3 l k).key) (QI 3 l k);exact congrArg (λb=>Value.bool (!b)) (Option.some.inj h9)) (dP 6 ?_)))))
  apply Q7 87
  ·exact rfl
  ·intro hg14
   have hs15:=hg14;try simp only[Bool.not_eq_true']at hs15
   refine dOf 7 87 hg14 ?_
   refine dOf 8 87 hg14 ?_
   refine dOf 9 87 hg14 ?_
   refine dOf 10 87 hg14 ?_
   refine dOf 11 87 hg14 ?_
   refine dOf 12 87 hg14 ?_
   refine dV 13 rfl (Xk rfl rfl hg14 rfl) (dNi ?_)
   refine sCd rfl (λh16=>?_) λh16=>?_
   ·have hb0:¬Z2 (pln LH) (pln LI) l k=true:=by have hq:=h16;unfold Z2;simp_all
    have hR:(ckB (pln LH) (pln LI) l)=((k:Int),19):=QjC hk hk2 hb0
    refine aU6 ?_
    exact Qf (rs:=[.tmp 6,.tmp 7]) rfl (.tmp rfl (.tmp rfl (.nil))) (λw' h'=>⟨by rw[hR];rfl,h'.below⟩)
   have hb1:Z2 (pln LH) (pln LI) l k=true:=by have hq:=h16;unfold Z2;simp_all
   refine aT4 ?_
   refine aU2 ?_
   exact sBk (k+1) om ⟨om,λi hi=>(Nat.lt_or_ge i k).elim (hk2 i) (λh=>(by have e:i=k:=om;rw[e];exact hb1))⟩
  intro hg17
  have hs18:=hg17;try simp only[Bool.not_eq_false']at hs18
  refine dQo 7 87 [] hg17 rfl rfl rfl (YP rfl rfl Ye aPk rfl) ?_
  refine dPo 8 87 hg17 ?_
  refine dPo 9 87 hg17 ?_
  refine dVo 10 87 hg17 rfl rfl rfl (Qa rfl rfl rfl QL _ rfl om hg2) ?_
  refine dQo 11 87 [] hg17 rfl rfl rfl (Yi _ rfl rfl Ye rfl (λw h=>QeI hl2 hg2 h aPk)) ?_
  refine Qs (show _=.agg #[.string (bs (QI 2 l k).key),.string (bs (QI 2 l k).val)]from by rw[Xj hk];rfl) (dVo 12 87 hg17 rfl rfl rfl (QaJ rfl rfl rfl QfN (by rfl) (by rfl) (by rfl)) ?_)
  refine Qs (show _=Value.bool (!QiP 2 (pln LI) l k)from by have h9:=Qet (fdX ((2:Nat):Int) (pln LI) (QI 2 l k).key) (QI 2 l k);exact congrArg (λb=>Value.bool (!b)) (Option.some.inj h9)) (dV 13 rfl (QW rfl rfl hg17 rfl) (dNi ?_))
  refine sCd rfl (λh19=>?_) λh19=>?_
  ·have hb0:¬Z2 (pln LH) (pln LI) l k=true:=by have hq:=h19;unfold Z2;simp_all
   have hR:(ckB (pln LH) (pln LI) l)=((k:Int),19):=QjC hk hk2 hb0
   refine aU6 ?_
   exact Qf (rs:=[.tmp 6,.tmp 7]) rfl (.tmp rfl (.tmp rfl (.nil))) (λw' h'=>⟨by rw[hR];rfl,h'.below⟩)
  have hb1:Z2 (pln LH) (pln LI) l k=true:=by have hq:=h19;unfold Z2;simp_all
  refine aT4 ?_
  refine aU2 ?_
  exact sBk (k+1) om ⟨om,λi hi=>(Nat.lt_or_ge i k).elim (hk2 i) (λh=>(by have e:i=k:=om;rw[e];exact hb1))⟩
 obtain rfl:k=l.length:=om
 refine Qi rfl ?_
 refine aU5 ?_
 refine o_p (Qeg (cs:=[_,_,_,_,_,_,_,_]) rfl rfl QnK Qrx rfl) rfl (aU3 ?_)
 refine Qt (α:=Nat) [6,7,18,19,20,100,101,102,103,104,105,106,107,108,109,110,111,112,113,114,115,116,117] (λk=>[(100,.int .i64 (k:Int))]) (λ_=>HS w [] [.blk b3 27 4 [.int .i64 2,.int .i64 mi,.int .i64 ri,.slice ai LI.length icap],.blk b2 27 4 [.int .i64 3,.int .i64 mh,.int .i64 rh,.slice ah LH.length hcap],.blk b1 24 2 [.int .i64 nx,.slice a l.length cap]]) (λk=>k<=2/\(0<k->Qel (pln LH)=l.length)/\(1<k->Qel (pln LI)=l.length)) (λk=>2-k) 0 (by simp) aSx (λw h=>h.ent aEt) (λk hk5=>?_)
 obtain⟨hk5,hk6,hk7⟩:=hk5
 rcases k with _|_|_|k
 ·skip
  refine aU5 ?_
  refine sCd rfl (λh20=>?_) λh20=>?_
  ·refine aU5 ?_
   refine o_p (Qbu rfl rfl rfl QnK Yf _ rfl om) rfl (Qm (show _=.agg #[.int .i64 3,.int .i64 mh,.int .i64 rh,.slice ah LH.length hcap]from rfl) (oAl (λb21 _=>?_) Xw))
   refine aU5 ?_
   refine oCq rfl (λw1 h1=>c36o w1 3 mh rh ah hcap LH (hsH.later h1.nil) hBH hkH h0H) (aU3 ?_)
   refine oAl (λb22 _=>?_) QeV
   refine aU7 ?_
   refine Qm (show _=Value.int .i64 (Qel (pln LH))from rfl) (aU5 ?_)
   refine sCd rfl (λh23=>?_) λh23=>?_
   ·refine aU8 ?_
    exact Qf (rs:=[.tmp 6,.tmp 7]) rfl (.tmp rfl (.tmp rfl (.nil))) (λw' h'=>⟨by rw[Qc4 hk2,if_neg (by simp_all)];rfl,h'.below⟩)
   refine aT4 ?_
   refine aU2 ?_
   exact sBk 1 om ⟨om,λ_=>by simp_all,λ_=>by simp_all⟩
  exfalso;first|omega|(simp at h20;done)|(simp_all;done)
 ·skip
  refine aU5 ?_
  refine sCd rfl (λh24=>?_) λh24=>?_
  ·refine aU5 ?_
   refine o_p (Qbu rfl rfl rfl QnK Yf _ rfl om) rfl (Qm (show _=.agg #[.int .i64 2,.int .i64 mi,.int .i64 ri,.slice ai LI.length icap]from rfl) (oAl (λb25 _=>?_) Xw))
   refine aU5 ?_
   refine oCq rfl (λw1 h1=>c36o w1 2 mi ri ai icap LI (hsI.later h1.nil) hBI hkI h0I) (aU3 ?_)
   refine oAl (λb26 _=>?_) QeV
   refine aU7 ?_
   refine Qm (show _=Value.int .i64 (Qel (pln LI))from rfl) (aU5 ?_)
   refine sCd rfl (λh27=>?_) λh27=>?_
   ·refine aU8 ?_
    exact Qf (rs:=[.tmp 6,.tmp 7]) rfl (.tmp rfl (.tmp rfl (.nil))) (λw' h'=>⟨by rw[Qc4 hk2,if_neg (by simp_all)];rfl,h'.below⟩)
   refine aT4 ?_
   refine aU2 ?_
   exact sBk 2 om ⟨om,λ_=>by simp_all,λ_=>by simp_all⟩
  exfalso;first|omega|(simp at h24;done)|(simp_all;done)
 ·skip
  refine aU5 ?_
  refine sCd rfl (λh28=>?_) λh28=>?_
  ·exfalso;first|omega|(simp at h28;done)|(simp_all;done)
  refine Qi rfl ?_
  refine aU5 ?_
  exact Qf (rs:=[.tmp 6,.tmp 7]) rfl (.tmp rfl (.tmp rfl (.nil))) (λw' h'=>⟨by rw[Qc4 hk2,if_pos ⟨hk6 om,hk7 om⟩];rfl,h'.below⟩)
 exfalso;omega
instance:TFn Tryz.prog 47:=⟨by kernel_rfl⟩
theorem Qpo:QH Tryz.prog 48=true:=by kernel_rfl
theorem c17k(w:World)(nx:Int)(a:Option Addr)(cap:Nat)(l:List SItm)(ch mh rh:Int)(ah:Option Addr)(hcap:Nat)(LH:List LNd)(ci mi ri:Int)(ai:Option Addr)(icap:Nat)(LI:List LNd)(hk9:¬(ch=3/\ci=2)):CR 17 #[.agg #[.int .i64 nx,.slice a l.length cap],.agg #[.int .i64 ch,.int .i64 mh,.int .i64 rh,.slice ah LH.length hcap],.agg #[.int .i64 ci,.int .i64 mi,.int .i64 ri,.slice ai LI.length icap]] w (.tuple #[.int .i64 0,.int .i64 15]):=by
 refine eN3 Tryz.func17 Tryz.ntmps17 ?_
 refine aU2 ?_
 refine oBx λb1 _=>?_
 refine oBx λb2 _=>?_
 refine oBx λb3 _=>?_
 refine YR ?_
 refine oOr 4 20 24 rfl
  (λhg4 _=>by
   refine aU6 ?_
   exact oJf 4 24)
  (λhg6 _=>by
   refine aU3 ?_
   exact oJt 4 24) ?_
 refine aU ?_
 refine sCd rfl (λh8=>?_) λh8=>?_
 ·refine aU5 ?_
  exact Qf (rs:=[.tmp 6,.tmp 7]) rfl (.tmp rfl (.tmp rfl (.nil))) (λw' h'=>⟨by rfl,h'.below⟩)
 exfalso;have hq:=h8;exact hk9 (by first|exact hq|(simp at hq;first|exact hq|omega)|omega)
set_option maxHeartbeats 4000000 in
theorem c17o(w:World)(nx:Int)(a:Option Addr)(cap:Nat)(l:List SItm)(mh rh:Int)(ah:Option Addr)(hcap:Nat)(LH:List LNd)(mi ri:Int)(ai:Option Addr)(icap:Nat)(LI:List LNd)(hs:Rw SItm.vals 2 w [] a l)(hm:l.length<=100000)(hb:∀x∈l,x.by_.length<=100000)(hsH:Nt w [] ah LH)(hfwH:Yc (pln LH)=true)(hsI:Nt w [] ai LI)(hfwI:Yc (pln LI)=true)(hst0:(QX nx l).2=0)(h0H:(QZ (⟨3,mh,rh,pln LH⟩:Tre)).2=0)(h0I:(QZ (⟨2,mi,ri,pln LI⟩:Tre)).2=0):CR 17 #[.agg #[.int .i64 nx,.slice a l.length cap],.agg #[.int .i64 3,.int .i64 mh,.int .i64 rh,.slice ah LH.length hcap],.agg #[.int .i64 2,.int .i64 mi,.int .i64 ri,.slice ai LI.length icap]] w (.tuple #[.int .i64 (ckB (pln LH) (pln LI) l).1,.int .i64 (ckB (pln LH) (pln LI) l).2]):=by
 have hBH:=Qah hfwH
 have hBI:=Qah hfwI
 have hkH:=XM hfwH
 have hkI:=XM hfwI
 obtain⟨hnx,hl60,hit9,hpl9⟩:=YS hst0
 have hpl5:=Yu l
 obtain⟨T3,d3,hR3,hV3,hZ3,hU3⟩:=Ql3 h0H
 obtain⟨T2,d2,hR2,hV2,hZ2,hU2⟩:=Ql3 h0I
 dsimp only at hR3 hR2 hV3 hV2
 have hn3:=Qgj hR3
 have hn2:=Qgj hR2
 have hlH:=hBH.len
 have hlI:=hBI.len
 rw[Qb]at hlH hlI
 have hfH:T3.flat.length<=10000:=by have h9:=hR3.flat_len (m:=10) (λi hi=>(Qa8 hfwH hi).1);have h8:=(ZQ h0H).2.2.2.1;simp only[]at h8;omega
 have hfI:T2.flat.length<=10000:=by have h9:=hR2.flat_len (m:=10) (λi hi=>(Qa8 hfwI hi).1);have h8:=(ZQ h0I).2.2.2.1;simp only[]at h8;omega
 have hT3:TOk ((3:Nat):Int) (pln LH):=QgS hR3 hV3 hU3
 have hT2:TOk ((2:Nat):Int) (pln LI):=QgS hR2 hV2 hU2
 have hp3:0<LH.length:=by have h9:=(ZQ h0H).2.2.1;simp only[Qb]at h9;exact h9
 have hp2:0<LI.length:=by have h9:=(ZQ h0I).2.2.1;simp only[Qb]at h9;exact h9
 refine eN3 Tryz.func17 Tryz.ntmps17 ?_
 refine aU2 ?_
 refine oBx λb1 _=>?_
 refine oBx λb2 _=>?_
 refine oBx λb3 _=>?_
 refine YR ?_
 refine oOr 4 20 24 rfl
  (λhg4 _=>by
   refine aU6 ?_
   exact oJf 4 24)
  (λhg6 _=>by
   refine aU3 ?_
   exact oJt 4 24) ?_
 refine aU ?_
 refine sCd rfl (λh8=>?_) λh8=>?_
 ·exfalso;have hq:=h8;simp at hq
 refine aU4 ?_
 refine oCh rfl (λw1 h1=>c42 w1 nx a cap l (hs.later h1) hm hb) (λ⟨pa,pc⟩_=>Y1 ?_)
 refine Qg (L':=[(3,_),(4,_),(5,_),(6,_),(7,_),(8,_),(10,_)]) aSx (λ_ h=>h) ?_
 refine Qt (α:=Nat) [6,7,10,11,12,13,14,15,16,30,31,32,33,34,35,36,37,38,39,40,41,42,43,44,45,46,47,48,49,50,51,52,53,54,55,56,57,58,59,60,61,62,63,64,65,66,67,68,69,70,71,72,73,74,75,76,77,78,79,80,81,82,83,84,85,86,87] (λk=>[(10,.int .i64 (k:Int))]) (λ_=>HS w [] [.own (.slice pa l.length pc) 3 1 l.length ((QO l).1.map nv),.blk b3 27 4 [.int .i64 2,.int .i64 mi,.int .i64 ri,.slice ai LI.length icap],.blk b2 27 4 [.int .i64 3,.int .i64 mh,.int .i64 rh,.slice ah LH.length hcap],.blk b1 24 2 [.int .i64 nx,.slice a l.length cap]]) (λk=>k<=l.length/\∀i,i<k->Z2 (pln LH) (pln LI) l i=true) (λk=>l.length-k) 0 ⟨Nat.zero_le _,λi h=>absurd h (Nat.not_lt_zero i)⟩ aSx (λw h=>h.ent aEt) (λk hk1=>?_)
 obtain⟨hk1,hk2⟩:=hk1
 refine aU9 ?_
 refine sCd rfl (λh9=>?_) λh9=>?_
 ·have hk:k<l.length:=by omega
  have hrg:=Qa7 hst0 hk
  have hbk:(nth l k).by_.length<=100000:=hb _ (XH hk)
  have hpk:=Qa3 hb k om
  have hx3:=ZV (co:=3) (.inr rfl) hst0 hk
  have hx2:=ZV (co:=2) (.inl rfl) hst0 hk
  have hy3:(QI 3 l k).key.length<=1000000:=Nat.le_trans (show(Yg 3 (nth l k)).length<=8 from Zg _) (by decide)
  have hy2:(QI 2 l k).key.length<=1000000:=Nat.le_trans (show(Yg 2 (nth l k)).length<=8 from Zg _) (by decide)
  have hf3:=Qfe (co:=3) (ns:=pln LH) (l:=l) (k:=k)
  have hf2:=Qfe (co:=2) (ns:=pln LI) (l:=l) (k:=k)
  refine X0 (λw h=>Vl.some (HS.vl_own (a:=pa) (t:=3) h aPk) (by rw[List.length_map];omega)) λhsm=>aU4 ?_
  refine Xe (α:=Nat×Nat) [11,12,37,38,39,40,41,42,43,44,45,46,47,48,49,50,51,52,53,54,55,56] (λy=>[(11,.pointer (some ⟨y.1,0,none⟩)),(12,.pointer (some ⟨y.2,0,none⟩))]) (λy=>HS w [] [.blk y.1 76 2 [.string (bs (QI 3 l k).key),.string (bs (QI 3 l k).val)],.blk y.2 76 2 [.string (bs (QI 2 l k).key),.string (bs (QI 2 l k).val)],.own (.slice pa l.length pc) 3 1 l.length ((QO l).1.map nv),.blk b3 27 4 [.int .i64 2,.int .i64 mi,.int .i64 ri,.slice ai LI.length icap],.blk b2 27 4 [.int .i64 3,.int .i64 mh,.int .i64 rh,.slice ah LH.length hcap],.blk b1 24 2 [.int .i64 nx,.slice a l.length cap]]) (λ_=>True) ?_ ?_
  ·skip
   refine Qq [22,23] Qx ?_
   refine dFa 0 ?_
   refine dLd 1 [[],[]] ?_
   refine dP 2 ?_
   refine dV 3 rfl (Qa rfl rfl rfl X6 _ rfl om (Rw.some hs om)) (dQ 4 [[],[]] rfl (Qu _ rfl rfl Qae rfl (Rw.rd hs hk)) (dP 5 ?_))
   refine dP 6 ?_
   refine dV 7 rfl (Qa rfl rfl rfl QB _ rfl om hsm) (dQ 8 [[],[]] rfl (Qn rfl rfl Xq (λw h=>(HS.vl_own (a:=pa) (t:=3) h aPk).rd (QaX (k:=k) om))) (Qs (show _=Value.int .i64 (QO (l.take k)).2 from by rw[Qb4 hk]) (dQ 9 [[],[]] rfl (Ql rfl Qph rfl (λw1 h1=>c44 w1 (QO (l.take k)).2 (nth l k) om om hbk)) (Qs (show _=.agg #[.string (bs (QI 3 l k).key),.string (bs (QI 3 l k).val)]from rfl) (dFa 10 ?_)))))
   refine dLd 11 [[19,14,13],[]] ?_
   refine dP 12 ?_
   refine dV 13 rfl (Qa rfl rfl rfl X6 _ rfl om (Rw.some hs om)) (dQ 14 [[19],[]] rfl (Qu _ rfl rfl Qae rfl (Rw.rd hs hk)) (dP 15 ?_))
   refine dP 16 ?_
   refine dV 17 rfl (Qa rfl rfl rfl QB _ rfl om hsm) (dQ 18 [[19],[]] rfl (Qn rfl rfl Xq (λw h=>(HS.vl_own (a:=pa) (t:=3) h aPk).rd (QaX (k:=k) om))) (Qs (show _=Value.int .i64 (QO (l.take k)).2 from by rw[Qb4 hk]) (dQ 19 [[],[]] rfl (Ql rfl Qps rfl (λw1 h1=>c45 w1 (QO (l.take k)).2 (nth l k) om om hbk)) (Qs (show _=.agg #[.string (bs (QI 2 l k).key),.string (bs (QI 2 l k).val)]from rfl) (Qgp 20 21 rfl rfl (X9 rfl Xi) (X9 rfl Xi) (by kernel_rfl) (λw h=>h.ent aEt) rfl rfl (λb10 _=>?_) (λb11 _=>?_))))))
   ·skip
    refine dBa ?_
    refine dH 21 rfl (X9 rfl Xi) (λb12 _=>dBa ?_)
    refine dSt 22 ?_ (hl:=(by simp only[Qe,List.length_set,List.length_cons,List.length_nil,List.length_map];omega))
    refine dTu [23] ?_
    refine dSt 23 ?_ (hl:=(by simp only[Qe,List.length_set,List.length_cons,List.length_nil,List.length_map];omega))
    refine dTu [] ?_
    refine dNi ?_
    exact Qo (b10,b12) trivial aSx (λw h=>h.ent aEt)
   skip
   refine dBa ?_
   refine dH 20 rfl (X9 rfl Xi) (λb13 _=>dBa ?_)
   refine dSt 22 ?_ (hl:=(by simp only[Qe,List.length_set,List.length_cons,List.length_nil,List.length_map];omega))
   refine dTu [23] ?_
   refine dSt 23 ?_ (hl:=(by simp only[Qe,List.length_set,List.length_cons,List.length_nil,List.length_map];omega))
   refine dTu [] ?_
   refine dNi ?_
   exact Qo (b13,b11) trivial aSx (λw h=>h.ent aEt)
  intro⟨b11,b12⟩ _
  dsimp only
  refine aU5 ?_
  refine oCq rfl (λw1 h1=>c47w w1 3 mh rh ah hcap LH (QI 3 l k).key (hsH.later h1.nil) hBH (by decide) hp3 hT3 hy3 (Qb8 hx3)) (aU3 ?_)
  refine oAl (λb14 _=>?_) Xi
  refine aU8 ?_
  refine oCq rfl (λw1 h1=>c47w w1 2 mi ri ai icap LI (QI 2 l k).key (hsI.later h1.nil) hBI (by decide) hp2 hT2 hy2 (Qb8 hx2)) (aU3 ?_)
  refine oAl (λb15 _=>?_) Xi
  refine aU4 ?_
  refine Qg (L':=[(3,_),(4,_),(5,_),(8,_),(10,_),(11,_),(12,_),(13,_),(14,_),(15,_),(16,_)]) aSx (λ_ h=>h) ?_
  refine aU4 ?_
  refine oOr 3 73 76 rfl
   (λhg16 _=>by
    refine aU4 ?_
    exact oJf 3 76)
   (λhg18 _=>by
    refine aU2 ?_
    exact oJt 3 76) ?_
  refine aU ?_
  refine oOr 4 77 81 rfl
   (λhg20 _=>by
    refine aU5 ?_
    refine o_p (QaJ rfl rfl rfl QfN (by rfl) (by rfl) (by rfl)) rfl (Qm (show _=Value.bool (!QiP 3 (pln LH) l k)from by have h9:=Qet (fdX ((3:Nat):Int) (pln LH) (QI 3 l k).key) (QI 3 l k);exact congrArg (λb=>Value.bool (!b)) (Option.some.inj h9)) ?_)
    exact oJf 4 81)
   (λhg22 _=>by
    refine aU3 ?_
    exact oJt 4 81) ?_
  refine aU ?_
  refine oOr 4 82 86 rfl
   (λhg24 _=>by
    refine aU5 ?_
    refine o_p (QaJ rfl rfl rfl QfN (by rfl) (by rfl) (by rfl)) rfl (Qm (show _=Value.bool (!QiP 2 (pln LI) l k)from by have h9:=Qet (fdX ((2:Nat):Int) (pln LI) (QI 2 l k).key) (QI 2 l k);exact congrArg (λb=>Value.bool (!b)) (Option.some.inj h9)) ?_)
    exact oJf 4 86)
   (λhg26 _=>by
    refine aU3 ?_
    exact oJt 4 86) ?_
  refine aU ?_
  refine sCd rfl (λh28=>?_) λh28=>?_
  ·have hb0:¬Z2 (pln LH) (pln LI) l k=true:=by have hq:=h28;unfold Z2;intro h9;simp only[Bool.and_eq_true]at h9;have h8:=hf3 h9.1;have h7:=hf2 h9.2;simp_all
   have hR:(ckB (pln LH) (pln LI) l)=((k:Int),19):=QjC hk hk2 hb0
   refine aU6 ?_
   exact Qf (rs:=[.tmp 6,.tmp 7]) rfl (.tmp rfl (.tmp rfl (.nil))) (λw' h'=>⟨by rw[hR];rfl,h'.below⟩)
  have hb1:Z2 (pln LH) (pln LI) l k=true:=by have hq:=h28;unfold Z2;simp_all
  refine aT5 ?_
  refine aU2 ?_
  exact sBk (k+1) om ⟨om,λi hi=>(Nat.lt_or_ge i k).elim (hk2 i) (λh=>(by have e:i=k:=om;rw[e];exact hb1))⟩
 obtain rfl:k=l.length:=om
 have hh3:=QjX (co:=3) (.inr rfl) hst0 hR3 hT3 (by rw[Qb];exact hp3) (λk hk=>by have h9:=hk2 k hk;unfold Z2 at h9;simp_all)
 have hh2:=QjX (co:=2) (.inl rfl) hst0 hR2 hT2 (by rw[Qb];exact hp2) (λk hk=>by have h9:=hk2 k hk;unfold Z2 at h9;simp_all)
 refine Qi rfl ?_
 refine aU2 ?_
 refine Xe (α:=Bool) [88,89,90,91,92,93,94,95,96,97,98,99,100,101,102,103] (λb=>[(103,.bool b)]) (λ_=>HS w [] [.blk b3 27 4 [.int .i64 2,.int .i64 mi,.int .i64 ri,.slice ai LI.length icap],.blk b2 27 4 [.int .i64 3,.int .i64 mh,.int .i64 rh,.slice ah LH.length hcap],.blk b1 24 2 [.int .i64 nx,.slice a l.length cap]]) (λb=>b= !(decide (Qel (pln LH)=l.length/\Qel (pln LI)=l.length))) ?_ ?_
 ·skip
  refine Qq [] Qx ?_
  refine dLn 0 [] ?_
  refine dFa 3 ?_
  refine dLd 4 [] ?_
  refine dV 5 rfl (Qz rfl rfl Tryz.underlying22) (dH 1 rfl (Q3 rfl Qpo rfl (λw1 h1=>c48 w1 3 mh rh ah hcap LH T3 d3 _ _ (hsH.later h1.nil) hlH hV3.bel hR3.nin hV3.idx hfH)) (λ⟨xa,xc⟩_=>dBa ?_))
  refine dV 2 rfl (Qz rfl rfl Tryz.underlying62) (dP 6 ?_)
  refine dP 7 ?_
  apply Q7 95
  ·exact rfl
  ·intro hg29
   have hs30:=hg29;try simp only[dT]at hs30
   refine dOf 8 95 hg29 ?_
   refine dOf 9 95 hg29 ?_
   refine dOf 10 95 hg29 ?_
   refine dOf 11 95 hg29 ?_
   refine dOf 12 95 hg29 ?_
   refine dOf 13 95 hg29 ?_
   refine dOf 14 95 hg29 ?_
   refine dV 15 rfl (Xk rfl rfl hg29 rfl) (dNi ?_)
   exact Qo true (by have hq:=hg29;simp at hq;rw[hn3,hn2];symm;simp;omega) aSx (λw h=>h.ent aEt)
  intro hg31
  have hs32:=hg31;try simp only[dN]at hs32
  refine dQo 8 95 [] hg31 rfl rfl rfl (YP rfl rfl Yf aPk rfl) ?_
  refine dFo 11 95 hg31 ?_
  refine dQo 12 95 [] hg31 rfl rfl rfl (XO rfl rfl Qif aPk rfl) ?_
  refine dVo 13 95 hg31 rfl rfl rfl (Qz rfl rfl Tryz.underlying22) ?_
  refine QhU 9 95 rfl rfl rfl hg31 (Q3 rfl Qpo rfl (λw1 h1=>c48 w1 2 mi ri ai icap LI T2 d2 _ _ (hsI.later h1.nil) hlI hV2.bel hR2.nin hV2.idx hfI)) (by kernel_rfl) (λw h=>h.ent aEt) rfl (λ⟨ya,yc⟩_=>?_)
  refine dBa ?_
  refine dVo 10 95 hg31 rfl rfl rfl (Qz rfl rfl Tryz.underlying62) ?_
  refine dPo 14 95 hg31 ?_
  refine dV 15 rfl (QW rfl rfl hg31 rfl) (dNi ?_)
  exact Qo (decide ((l.length:Int)<(T2.flat.length:Int))) (by have hq:=hg31;simp at hq;rw[hn3,hn2,Bool.eq_iff_iff];simp;omega) aSx (λw h=>h.ent aEt)
 intro b9 hb9
 subst hb9
 refine sCd rfl (λh33=>?_) λh33=>?_
 ·have hR:(ckB (pln LH) (pln LI) l)=((l.length:Int),19):=by rw[Qc4 hk2,if_neg];have hq:=h33;simpa using hq
  refine aU8 ?_
  exact Qf (rs:=[.tmp 6,.tmp 7]) rfl (.tmp rfl (.tmp rfl (.nil))) (λw' h'=>⟨by rw[hR];rfl,h'.below⟩)
 have hR:(ckB (pln LH) (pln LI) l)=(0,0):=by rw[Qc4 hk2,if_pos];have hq:=h33;simpa using hq
 refine aU6 ?_
 exact Qf (rs:=[.tmp 6,.tmp 7]) rfl (.tmp rfl (.tmp rfl (.nil))) (λw' h'=>⟨by rw[hR];rfl,h'.below⟩)
instance:TFn Tryz.prog 4:=⟨by kernel_rfl⟩
instance:TFn Tryz.prog 5:=⟨by kernel_rfl⟩
instance:TFn Tryz.prog 6:=⟨by kernel_rfl⟩
theorem QnY:QH Tryz.prog 8=true:=by kernel_rfl
instance:TFn Tryz.prog 8:=⟨QnY⟩
instance:TFn Tryz.prog 7:=⟨by kernel_rfl⟩
instance:TFn Tryz.prog 9:=⟨by kernel_rfl⟩
theorem QlO:QH Tryz.prog 10=true:=by kernel_rfl
instance:TFn Tryz.prog 12:=⟨by kernel_rfl⟩
theorem Qh1:QH Tryz.prog 13=true:=by kernel_rfl
instance:TFn Tryz.prog 13:=⟨Qh1⟩
theorem Qpm:QH Tryz.prog 14=true:=by kernel_rfl
theorem QpB:QH Tryz.prog 15=true:=by kernel_rfl
instance:TFn Tryz.prog 16:=⟨by kernel_rfl⟩
instance:TFn Tryz.prog 17:=⟨by kernel_rfl⟩
theorem QpP{a b c:Int}{k:Bool}(ha:a=0)(h:¬(if b=0 then c else b)=0):ckE a b c k=if b=0 then c else b:=by
  unfold ckE;rw[if_pos ha]
  by_cases hb:b=0
  · rw[if_pos hb]at h ⊢;rw[if_pos hb,if_neg h]
  · rw[if_neg hb,if_neg hb]
theorem Qqp{a b c:Int}{k:Bool}(ha:a=0)(h:(if b=0 then c else b)=0)(hE:¬ckE a b c k=0):¬k=true/\ckE a b c k=15:=by
  by_cases hb:b=0
  · rw[if_pos hb]at h;unfold ckE at hE ⊢;rw[if_pos ha,if_pos hb,if_pos h]at hE ⊢
    by_cases hk:k=true
    · exact absurd (if_pos hk) hE
    · exact⟨hk,if_neg hk⟩
  · rw[if_neg hb]at h;exact absurd h hb
theorem c3z(w:World)(nx:Int)(a:Option Addr)(cap:Nat)(l:List SItm)(ch mh rh:Int)(ah:Option Addr)(hcap:Nat)(LH:List LNd)(ci mi ri:Int)(ai:Option Addr)(icap:Nat)(LI:List LNd)(hs:Rw SItm.vals 2 w [] a l)(hmM:l.length<=9223372036854775807)(hbM:∀x∈l,x.by_.length<=9223372036854775807)(hsH:Nt w [] ah LH)(hsI:Nt w [] ai LI)(hz:¬(Qdb l=true/\Yc (pln LH)=true/\Yc (pln LI)=true)):CR 3 #[.agg #[.int .i64 nx,.slice a l.length cap],.agg #[.int .i64 ch,.int .i64 mh,.int .i64 rh,.slice ah LH.length hcap],.agg #[.int .i64 ci,.int .i64 mi,.int .i64 ri,.slice ai LI.length icap]] w (.bool true):=by
 refine eN3 Tryz.func3 Tryz.ntmps3 ?_
 refine aU2 ?_
 refine oBx λb1 _=>?_
 refine oBx λb2 _=>?_
 refine oBx λb3 _=>?_
 refine aU5 ?_
 refine oCq rfl (λw1 h1=>c4 w1) (aU2 ?_)
 refine sCd rfl (λh4=>?_) λh4=>?_
 ·exfalso;simp at h4
 refine aU5 ?_
 refine oCq rfl (λw1 h1=>c5 w1 nx a cap l (hs.later h1) hmM hbM) (aU2 ?_)
 refine oOr 4 21 25 rfl
  (λhg5 _=>by
   refine aU3 ?_
   refine oCq rfl (λw1 h1=>c6 w1 ch mh rh ah hcap LH (hsH.later h1.nil)) (aU2 ?_)
   exact oJf 4 25)
  (λhg7 _=>by
   refine aU3 ?_
   exact oJt 4 25) ?_
 refine aU ?_
 refine oOr 4 26 30 rfl
  (λhg9 _=>by
   refine aU3 ?_
   refine oCq rfl (λw1 h1=>c6 w1 ci mi ri ai icap LI (hsI.later h1.nil)) (aU2 ?_)
   exact oJf 4 30)
  (λhg11 _=>by
   refine aU3 ?_
   exact oJt 4 30) ?_
 refine aU ?_
 refine sCd rfl (λh13=>?_) λh13=>?_
 ·refine aU4 ?_
  exact rV
 exfalso;have hq:=h13;first|(simp at hq;done)|exact hz (by simp_all)
set_option maxHeartbeats 4000000 in
theorem c3e(w:World)(nx:Int)(a:Option Addr)(cap:Nat)(l:List SItm)(ch mh rh:Int)(ah:Option Addr)(hcap:Nat)(LH:List LNd)(ci mi ri:Int)(ai:Option Addr)(icap:Nat)(LI:List LNd)(hs:Rw SItm.vals 2 w [] a l)(hmM:l.length<=9223372036854775807)(hbM:∀x∈l,x.by_.length<=9223372036854775807)(hsH:Nt w [] ah LH)(hsI:Nt w [] ai LI)(hfw:Qdb l=true)(hfwH:Yc (pln LH)=true)(hfwI:Yc (pln LI)=true)(he:¬(QX nx l).2=0):CR 3 #[.agg #[.int .i64 nx,.slice a l.length cap],.agg #[.int .i64 ch,.int .i64 mh,.int .i64 rh,.slice ah LH.length hcap],.agg #[.int .i64 ci,.int .i64 mi,.int .i64 ri,.slice ai LI.length icap]] w (.bool true):=by
 obtain⟨hm62,hb300⟩:=QgV hfw
 have hm:l.length<=100000:=om
 have hb:∀x∈l,x.by_.length<=100000:=λx hx=>by have:=hb300 x hx;omega
 have hBH:=Qah hfwH
 have hBI:=Qah hfwI
 have hkH:=XM hfwH
 have hkI:=XM hfwI
 have hsmH:=Qb0 hfwH
 have hsmI:=Qb0 hfwI
 have hlH:=hBH.len
 have hlI:=hBI.len
 rw[Qb]at hlH hlI
 have hCE:(ckE (QX nx l).2 (QZ (⟨ch,mh,rh,pln LH⟩:Tre)).2 (QZ (⟨ci,mi,ri,pln LI⟩:Tre)).2 (decide (ch=3)&&decide (ci=2)))=(QX nx l).2:=by unfold ckE;exact if_neg he
 have hE:¬(ckE (QX nx l).2 (QZ (⟨ch,mh,rh,pln LH⟩:Tre)).2 (QZ (⟨ci,mi,ri,pln LI⟩:Tre)).2 (decide (ch=3)&&decide (ci=2)))=0:=by rw[hCE];exact he
 have hR:(ckI nx l (⟨ch,mh,rh,pln LH⟩:Tre) (⟨ci,mi,ri,pln LI⟩:Tre))=(0,(QX nx l).2):=by rw[<-hCE];exact if_neg hE
 refine eN3 Tryz.func3 Tryz.ntmps3 ?_
 refine aU2 ?_
 refine oBx λb1 _=>?_
 refine oBx λb2 _=>?_
 refine oBx λb3 _=>?_
 refine aU5 ?_
 refine oCq rfl (λw1 h1=>c4 w1) (aU2 ?_)
 refine sCd rfl (λh4=>?_) λh4=>?_
 ·exfalso;simp at h4
 refine aU5 ?_
 refine oCq rfl (λw1 h1=>c5 w1 nx a cap l (hs.later h1) hmM hbM) (aU2 ?_)
 refine oOr 4 21 25 rfl
  (λhg5 _=>by
   refine aU3 ?_
   refine oCq rfl (λw1 h1=>c6 w1 ch mh rh ah hcap LH (hsH.later h1.nil)) (aU2 ?_)
   exact oJf 4 25)
  (λhg7 _=>by
   refine aU3 ?_
   exact oJt 4 25) ?_
 refine aU ?_
 refine oOr 4 26 30 rfl
  (λhg9 _=>by
   refine aU3 ?_
   refine oCq rfl (λw1 h1=>c6 w1 ci mi ri ai icap LI (hsI.later h1.nil)) (aU2 ?_)
   exact oJf 4 30)
  (λhg11 _=>by
   refine aU3 ?_
   exact oJt 4 30) ?_
 refine aU ?_
 refine sCd rfl (λh13=>?_) λh13=>?_
 ·exfalso;have hq:=h13;simp[hfw,hfwH,hfwI]at hq
 refine aU4 ?_
 refine oCh rfl (λw1 h1=>c8 w1 nx a cap l (hs.later h1) hm hb) (λgS _=>oCq rfl (λw1 h1=>c7e w1 nx gS.1 gS.2 l (HS.rw_own (a:=gS.1) (l:=l) sv2 h1 aPk rfl) hm hb he) (aU3 ?_))
 refine oAl (λb14 _=>?_) Xw
 refine aU6 ?_
 refine oCh rfl (λw1 h1=>c8 w1 nx a cap l (hs.later h1) hm hb) (λgV _=>oCq rfl (λw1 h1=>c9e w1 nx gV.1 gV.2 l (HS.rw_own (a:=gV.1) (l:=l) sv2 h1 aPk rfl) hm hb he) (aU3 ?_))
 refine oAl (λb15 _=>?_) Xw
 refine aU4 ?_
 refine Qg (L':=[(3,_),(4,_),(5,_),(6,_),(7,_),(8,_),(9,_),(10,_)]) aSx (λ_ h=>h) ?_
 refine Qq [] Qx ?_
 refine dLn 0 [] ?_
 refine dLn 2 [] ?_
 refine dLn 4 [] ?_
 refine dH 1 rfl (Q3 rfl QnY rfl (λw1 h1=>c8 w1 nx a cap l (hs.later h1) hm hb)) (λgU _=>dBa ?_)
 refine dH 3 rfl (Q3 rfl Qfv rfl (λw1 h1=>c11 w1 ch mh rh ah hcap LH (hsH.later h1.nil) hlH hsmH)) (λ⟨⟨gha,ghc⟩,KH⟩hKH=>dBa ?_)
 refine dH 5 rfl (Q3 rfl Qfv rfl (λw1 h1=>c11 w1 ci mi ri ai icap LI (hsI.later h1.nil) hlI hsmI)) (λ⟨⟨gia,gic⟩,KI⟩hKI=>dBa ?_)
 refine dQ 6 [] rfl (Ql rfl QlO rfl (λw1 h1=>by have h9:=c10e w1 nx gU.1 gU.2 l ch mh rh gha ghc KH ci mi ri gia gic KI (HS.rw_own (a:=gU.1) (l:=l) sv2 h1 aPk rfl) hm hb (HS.nt h1 aPk) (by rw[hKH];exact hBH) (XM (by rw[hKH];exact hfwH)) (HS.nt h1 aPk) (by rw[hKI];exact hBI) (XM (by rw[hKI];exact hfwI)) (by rw[hKH,hKI];exact hE);rw[hKH,hKI,hR]at h9;exact h9)) (dP 7 ?_)
 refine dP 8 ?_
 refine dP 9 ?_
 refine dP 10 ?_
 refine dP 11 ?_
 refine dNi ?_
 refine aU4 ?_
 refine oCq rfl (λw1 h1=>c12 w1 nx a cap l (hs.later h1) hm hb) (aU7 ?_)
 refine sCd rfl (λh16=>?_) λh16=>?_
 ·refine aU6 ?_
  refine XJ 4 60 64 rfl
   (λhg17 _=>by
    refine aU6 ?_
    exact oJt 4 64)
   (λhg19 _=>by
    refine aU3 ?_
    exact oJf 4 64) ?_
  refine aU ?_
  refine XJ 4 65 69 rfl
   (λhg21 _=>by
    refine aU6 ?_
    exact oJt 4 69)
   (λhg23 _=>by
    refine aU3 ?_
    exact oJf 4 69) ?_
  refine aU ?_
  refine XJ 4 70 74 rfl
   (λhg25 _=>by
    refine aU3 ?_
    refine o_p (QD (cs:=[_,_,_,_]) rfl rfl Qed Xw rfl) rfl (aU ?_)
    refine oCq rfl (λw1 h1=>c13 w1 0 0 0 none none 0 0 [] [] Qhd Qhd (by decide) (by decide) Qhu Qhu rfl) ?_
    exact oJt 4 74)
   (λhg27 _=>by
    refine aU3 ?_
    exact oJf 4 74) ?_
  refine aU ?_
  refine XJ 4 75 79 rfl
   (λhg29 _=>by
    refine aU3 ?_
    refine o_p (QD (cs:=[_,_,_,_]) rfl rfl Qed Xw rfl) rfl (aU ?_)
    refine oCq rfl (λw1 h1=>c13 w1 0 0 0 none none 0 0 [] [] Qhd Qhd (by decide) (by decide) Qhu Qhu rfl) ?_
    exact oJt 4 79)
   (λhg31 _=>by
    refine aU3 ?_
    exact oJf 4 79) ?_
  refine aU ?_
  refine XJ 3 80 83 rfl
   (λhg33 _=>by
    refine aU4 ?_
    exact oJt 3 83)
   (λhg35 _=>by
    refine aU2 ?_
    exact oJf 3 83) ?_
  refine aU2 ?_
  exact rV (h:=by first|rfl|simp[QV])
 exfalso;exact he (by have hq:=h16;simpa using hq)
set_option maxHeartbeats 4000000 in
theorem c3b(w:World)(nx:Int)(a:Option Addr)(cap:Nat)(l:List SItm)(ch mh rh:Int)(ah:Option Addr)(hcap:Nat)(LH:List LNd)(ci mi ri:Int)(ai:Option Addr)(icap:Nat)(LI:List LNd)(hs:Rw SItm.vals 2 w [] a l)(hmM:l.length<=9223372036854775807)(hbM:∀x∈l,x.by_.length<=9223372036854775807)(hsH:Nt w [] ah LH)(hsI:Nt w [] ai LI)(hfw:Qdb l=true)(hfwH:Yc (pln LH)=true)(hfwI:Yc (pln LI)=true)(hst0:(QX nx l).2=0)(hE:¬(ckE (QX nx l).2 (QZ (⟨ch,mh,rh,pln LH⟩:Tre)).2 (QZ (⟨ci,mi,ri,pln LI⟩:Tre)).2 (decide (ch=3)&&decide (ci=2)))=0):CR 3 #[.agg #[.int .i64 nx,.slice a l.length cap],.agg #[.int .i64 ch,.int .i64 mh,.int .i64 rh,.slice ah LH.length hcap],.agg #[.int .i64 ci,.int .i64 mi,.int .i64 ri,.slice ai LI.length icap]] w (.bool true):=by
 obtain⟨hm62,hb300⟩:=QgV hfw
 have hm:l.length<=100000:=om
 have hb:∀x∈l,x.by_.length<=100000:=λx hx=>by have:=hb300 x hx;omega
 have hBH:=Qah hfwH
 have hBI:=Qah hfwI
 have hkH:=XM hfwH
 have hkI:=XM hfwI
 have hsmH:=Qb0 hfwH
 have hsmI:=Qb0 hfwI
 have hlH:=hBH.len
 have hlI:=hBI.len
 rw[Qb]at hlH hlI
 have hl60:=(YS hst0).2.1
 have hz:Sz 4 2 2 4 2:=⟨rfl,rfl,rfl,by decide,by decide,by decide,by decide⟩
 have hbo3:BldOk (3:Int) 4 2 2 4 2 l.length (YT (3:Int) 4 2 (QG 3 l) l.length):=Qam hz om (QcP (co:=3) (by decide) hst0 (Nat.le_refl _)).zero
 have hbl3:=hbo3.len
 have hbs3:Sm 100000 (YT (3:Int) 4 2 (QG 3 l) l.length):=(hbo3.sm hz).mono (by decide)
 have hbo2:BldOk (2:Int) 4 2 2 4 2 l.length (YT (2:Int) 4 2 (QG 2 l) l.length):=Qam hz om (QcP (co:=2) (by decide) hst0 (Nat.le_refl _)).zero
 have hbl2:=hbo2.len
 have hbs2:Sm 100000 (YT (2:Int) 4 2 (QG 2 l) l.length):=(hbo2.sm hz).mono (by decide)
 have hR:(ckI nx l (⟨ch,mh,rh,pln LH⟩:Tre) (⟨ci,mi,ri,pln LI⟩:Tre))=(0,(ckE (QX nx l).2 (QZ (⟨ch,mh,rh,pln LH⟩:Tre)).2 (QZ (⟨ci,mi,ri,pln LI⟩:Tre)).2 (decide (ch=3)&&decide (ci=2)))):=if_neg hE
 refine eN3 Tryz.func3 Tryz.ntmps3 ?_
 refine aU2 ?_
 refine oBx λb1 _=>?_
 refine oBx λb2 _=>?_
 refine oBx λb3 _=>?_
 refine aU5 ?_
 refine oCq rfl (λw1 h1=>c4 w1) (aU2 ?_)
 refine sCd rfl (λh4=>?_) λh4=>?_
 ·exfalso;simp at h4
 refine aU5 ?_
 refine oCq rfl (λw1 h1=>c5 w1 nx a cap l (hs.later h1) hmM hbM) (aU2 ?_)
 refine oOr 4 21 25 rfl
  (λhg5 _=>by
   refine aU3 ?_
   refine oCq rfl (λw1 h1=>c6 w1 ch mh rh ah hcap LH (hsH.later h1.nil)) (aU2 ?_)
   exact oJf 4 25)
  (λhg7 _=>by
   refine aU3 ?_
   exact oJt 4 25) ?_
 refine aU ?_
 refine oOr 4 26 30 rfl
  (λhg9 _=>by
   refine aU3 ?_
   refine oCq rfl (λw1 h1=>c6 w1 ci mi ri ai icap LI (hsI.later h1.nil)) (aU2 ?_)
   exact oJf 4 30)
  (λhg11 _=>by
   refine aU3 ?_
   exact oJt 4 30) ?_
 refine aU ?_
 refine sCd rfl (λh13=>?_) λh13=>?_
 ·exfalso;have hq:=h13;simp[hfw,hfwH,hfwI]at hq
 refine aU4 ?_
 refine oCh rfl (λw1 h1=>c8 w1 nx a cap l (hs.later h1) hm hb) (λgS _=>oCh rfl (λw1 h1=>c7o w1 nx gS.1 gS.2 l (HS.rw_own (a:=gS.1) (l:=l) sv2 h1 aPk rfl) hm hb hst0) (λ⟨⟨pa,pc⟩,P⟩hP=>aU3 ?_))
 refine oAl (λb14 _=>?_) Xw
 refine aU6 ?_
 refine oCh rfl (λw1 h1=>c8 w1 nx a cap l (hs.later h1) hm hb) (λgV _=>oCh rfl (λw1 h1=>c9o w1 nx gV.1 gV.2 l (HS.rw_own (a:=gV.1) (l:=l) sv2 h1 aPk rfl) hm hb hst0) (λ⟨⟨qa,qc⟩,Q⟩hQ=>aU3 ?_))
 refine oAl (λb15 _=>?_) Xw
 refine aU4 ?_
 refine Qg (L':=[(3,_),(4,_),(5,_),(6,_),(7,_),(8,_),(9,_),(10,_)]) aSx (λ_ h=>h) ?_
 refine Qq [] Qx ?_
 refine dLn 0 [] ?_
 refine dLn 2 [] ?_
 refine dLn 4 [] ?_
 refine dH 1 rfl (Q3 rfl QnY rfl (λw1 h1=>c8 w1 nx a cap l (hs.later h1) hm hb)) (λgU _=>dBa ?_)
 refine dH 3 rfl (Q3 rfl Qfv rfl (λw1 h1=>c11 w1 ch mh rh ah hcap LH (hsH.later h1.nil) hlH hsmH)) (λ⟨⟨gha,ghc⟩,KH⟩hKH=>dBa ?_)
 refine dH 5 rfl (Q3 rfl Qfv rfl (λw1 h1=>c11 w1 ci mi ri ai icap LI (hsI.later h1.nil) hlI hsmI)) (λ⟨⟨gia,gic⟩,KI⟩hKI=>dBa ?_)
 refine dQ 6 [] rfl (Ql rfl QlO rfl (λw1 h1=>by have h9:=c10e w1 nx gU.1 gU.2 l ch mh rh gha ghc KH ci mi ri gia gic KI (HS.rw_own (a:=gU.1) (l:=l) sv2 h1 aPk rfl) hm hb (HS.nt h1 aPk) (by rw[hKH];exact hBH) (XM (by rw[hKH];exact hfwH)) (HS.nt h1 aPk) (by rw[hKI];exact hBI) (XM (by rw[hKI];exact hfwI)) (by rw[hKH,hKI];exact hE);rw[hKH,hKI,hR]at h9;exact h9)) (dP 7 ?_)
 refine dP 8 ?_
 refine dP 9 ?_
 refine dP 10 ?_
 refine dP 11 ?_
 refine dNi ?_
 refine aU4 ?_
 refine oCq rfl (λw1 h1=>c12 w1 nx a cap l (hs.later h1) hm hb) (aU7 ?_)
 refine sCd rfl (λh16=>?_) λh16=>?_
 ·exfalso;exact absurd hst0 (by have hq:=h16;simpa using hq)
 refine aU3 ?_
 refine Qq [] Qx ?_
 refine dP 0 ?_
 refine dP 1 ?_
 refine dP 2 ?_
 apply Q7 86
 ·exact rfl
 ·intro hg17
  have hs18:=hg17;try simp only[Bool.not_eq_true',decide_eq_false_iff_not]at hs18
  exfalso;exact absurd hg17 (by simp)
 intro hg19
 have hs20:=hg19;try simp only[Bool.not_eq_false',decide_eq_true_eq]at hs20
 refine dQo 3 86 [] hg19 rfl rfl rfl (YP rfl rfl Yf aPk rfl) ?_
 refine dQo 4 86 [] hg19 rfl rfl rfl (YP rfl rfl QaF aPk rfl) ?_
 refine QhU 5 86 rfl rfl rfl hg19 (Q3 rfl Qpm rfl (λw1 h1=>c14 w1 nx a cap l (hs.later h1) hm hb hst0)) (by kernel_rfl) (λw h=>h.ent aEt) rfl (λ⟨⟨ua,uc⟩,U⟩hU=>?_)
 refine dBa ?_
 refine dQo 6 86 [] hg19 rfl rfl rfl (Ql rfl Qh1 rfl (λw1 h1=>c13 w1 3 4 2 (some ⟨pa,0,none⟩) ua pc uc P U (HS.nt h1 aPk) (HS.nt h1 aPk) (by rw[<-Qb,hP];omega) (by rw[<-Qb,hU];omega) (by rw[hP];exact hbs3) (by rw[hU];exact hbs3) (hP.trans hU.symm))) ?_
 refine dPo 7 86 hg19 ?_
 refine dV 8 rfl (QW rfl rfl hg19 rfl) (dP 9 ?_)
 apply Q7 93
 ·exact rfl
 ·intro hg21
  have hs22:=hg21;try simp only[Bool.not_true]at hs22
  exfalso;exact absurd hg21 (by simp)
 intro hg23
 have hs24:=hg23;try simp only[Bool.not_true]at hs24
 refine dPo 10 93 hg23 ?_
 refine dPo 11 93 hg23 ?_
 refine dV 12 rfl (QW rfl rfl hg23 rfl) (dP 13 ?_)
 apply Q7 97
 ·exact rfl
 ·intro hg25
  have hs26:=hg25;try simp only[Bool.not_eq_true',decide_eq_false_iff_not]at hs26
  exfalso;exact absurd hg25 (by simp)
 intro hg27
 have hs28:=hg27;try simp only[Bool.not_eq_false',decide_eq_true_eq]at hs28
 refine dQo 14 97 [] hg27 rfl rfl rfl (YP rfl rfl Yf aPk rfl) ?_
 refine dQo 15 97 [] hg27 rfl rfl rfl (YP rfl rfl QaF aPk rfl) ?_
 refine QhU 16 97 rfl rfl rfl hg27 (Q3 rfl QpB rfl (λw1 h1=>c15 w1 nx a cap l (hs.later h1) hm hb hst0)) (by kernel_rfl) (λw h=>h.ent aEt) rfl (λ⟨⟨va,vc⟩,V⟩hV=>?_)
 refine dBa ?_
 refine dQo 17 97 [] hg27 rfl rfl rfl (Ql rfl Qh1 rfl (λw1 h1=>c13 w1 2 4 2 (some ⟨qa,0,none⟩) va qc vc Q V (HS.nt h1 aPk) (HS.nt h1 aPk) (by rw[<-Qb,hQ];omega) (by rw[<-Qb,hV];omega) (by rw[hQ];exact hbs2) (by rw[hV];exact hbs2) (hQ.trans hV.symm))) ?_
 refine dPo 18 97 hg27 ?_
 refine dV 19 rfl (QW rfl rfl hg27 rfl) (dNi ?_)
 refine sCd rfl (λh29=>?_) λh29=>?_
 ·exfalso;simp at h29
 refine aU2 ?_
 refine Qg (L':=[(3,_),(4,_),(5,_),(6,_),(11,_),(12,_)]) aSx (λ_ h=>h) ?_
 refine aU2 ?_
 refine oCq rfl (λw1 h1=>c16 w1 ch mh rh ah hcap LH (hsH.later h1.nil) hBH hkH) (aU8 ?_)
 refine Qg1 (α:=Unit) [14,108,109] (λ_=>[(14,.int .i64 (if(QZ (⟨ch,mh,rh,pln LH⟩:Tre)).2=0 then(QZ (⟨ci,mi,ri,pln LI⟩:Tre)).2 else(QZ (⟨ch,mh,rh,pln LH⟩:Tre)).2))]) (λ_=>True) ?_ ?_
 ·skip
  refine sCd rfl (λh30=>?_) λh30=>?_
  ·have hTE:(if(QZ (⟨ch,mh,rh,pln LH⟩:Tre)).2=0 then(QZ (⟨ci,mi,ri,pln LI⟩:Tre)).2 else(QZ (⟨ch,mh,rh,pln LH⟩:Tre)).2)=(QZ (⟨ci,mi,ri,pln LI⟩:Tre)).2:=if_pos (by have hq:=h30;simpa using hq)
   refine aU2 ?_
   refine oCq rfl (λw1 h1=>c16 w1 ci mi ri ai icap LI (hsI.later h1.nil) hBI hkI) (aU2 ?_)
   exact Qo () trivial (by rw[hTE];exact aSx) (λw h=>h.ent aEt)
  have hTE:(if(QZ (⟨ch,mh,rh,pln LH⟩:Tre)).2=0 then(QZ (⟨ci,mi,ri,pln LI⟩:Tre)).2 else(QZ (⟨ch,mh,rh,pln LH⟩:Tre)).2)=(QZ (⟨ch,mh,rh,pln LH⟩:Tre)).2:=if_neg (by have hq:=h30;simpa using hq)
  refine aU ?_
  exact Qo () trivial (by rw[hTE];exact aSx) (λw h=>h.ent aEt)
 intro _ _
 refine aU6 ?_
 refine sCd rfl (λh31=>?_) λh31=>?_
 ·have hq5:¬(if(QZ (⟨ch,mh,rh,pln LH⟩:Tre)).2=0 then(QZ (⟨ci,mi,ri,pln LI⟩:Tre)).2 else(QZ (⟨ch,mh,rh,pln LH⟩:Tre)).2)=0:=by have hq:=h31;simpa using hq
  have hCE:(ckE (QX nx l).2 (QZ (⟨ch,mh,rh,pln LH⟩:Tre)).2 (QZ (⟨ci,mi,ri,pln LI⟩:Tre)).2 (decide (ch=3)&&decide (ci=2)))=(if(QZ (⟨ch,mh,rh,pln LH⟩:Tre)).2=0 then(QZ (⟨ci,mi,ri,pln LI⟩:Tre)).2 else(QZ (⟨ch,mh,rh,pln LH⟩:Tre)).2):=QpP hst0 hq5
  refine aU6 ?_
  refine XJ 3 115 118 rfl
   (λhg32 _=>by
    refine aU4 ?_
    exact oJt 3 118)
   (λhg34 _=>by
    refine aU2 ?_
    exact oJf 3 118) ?_
  refine aU2 ?_
  exact rV (h:=by first|rfl|(simp[QV,hCE];done))
 have hq5:(if(QZ (⟨ch,mh,rh,pln LH⟩:Tre)).2=0 then(QZ (⟨ci,mi,ri,pln LI⟩:Tre)).2 else(QZ (⟨ch,mh,rh,pln LH⟩:Tre)).2)=0:=by have hq:=h31;simpa using hq
 obtain⟨hk8,hCE⟩:=Qqp hst0 hq5 hE
 have hk9:¬(ch=3/\ci=2):=λh9=>hk8 (by simp[h9.1,h9.2])
 refine aU6 ?_
 refine oCq rfl (λw1 h1=>c17k w1 nx a cap l ch mh rh ah hcap LH ci mi ri ai icap LI hk9) (Y1 ?_)
 refine XJ 4 129 133 rfl
  (λhg36 _=>by
   refine aU6 ?_
   exact oJt 4 133)
  (λhg38 _=>by
   refine aU3 ?_
   exact oJf 4 133) ?_
 refine aU2 ?_
 exact rV (h:=by first|rfl|(simp[QV,hCE];done))
set_option maxHeartbeats 4000000 in
theorem c3o(w:World)(nx:Int)(a:Option Addr)(cap:Nat)(l:List SItm)(mh rh:Int)(ah:Option Addr)(hcap:Nat)(LH:List LNd)(mi ri:Int)(ai:Option Addr)(icap:Nat)(LI:List LNd)(hs:Rw SItm.vals 2 w [] a l)(hmM:l.length<=9223372036854775807)(hbM:∀x∈l,x.by_.length<=9223372036854775807)(hsH:Nt w [] ah LH)(hsI:Nt w [] ai LI)(hfw:Qdb l=true)(hfwH:Yc (pln LH)=true)(hfwI:Yc (pln LI)=true)(hst0:(QX nx l).2=0)(h0H:(QZ (⟨3,mh,rh,pln LH⟩:Tre)).2=0)(h0I:(QZ (⟨2,mi,ri,pln LI⟩:Tre)).2=0):CR 3 #[.agg #[.int .i64 nx,.slice a l.length cap],.agg #[.int .i64 3,.int .i64 mh,.int .i64 rh,.slice ah LH.length hcap],.agg #[.int .i64 2,.int .i64 mi,.int .i64 ri,.slice ai LI.length icap]] w (.bool true):=by
 obtain⟨hm62,hb300⟩:=QgV hfw
 have hm:l.length<=100000:=om
 have hb:∀x∈l,x.by_.length<=100000:=λx hx=>by have:=hb300 x hx;omega
 have hBH:=Qah hfwH
 have hBI:=Qah hfwI
 have hkH:=XM hfwH
 have hkI:=XM hfwI
 have hsmH:=Qb0 hfwH
 have hsmI:=Qb0 hfwI
 have hlH:=hBH.len
 have hlI:=hBI.len
 rw[Qb]at hlH hlI
 have hl60:=(YS hst0).2.1
 have hz:Sz 4 2 2 4 2:=⟨rfl,rfl,rfl,by decide,by decide,by decide,by decide⟩
 have hbo3:BldOk (3:Int) 4 2 2 4 2 l.length (YT (3:Int) 4 2 (QG 3 l) l.length):=Qam hz om (QcP (co:=3) (by decide) hst0 (Nat.le_refl _)).zero
 have hbl3:=hbo3.len
 have hbs3:Sm 100000 (YT (3:Int) 4 2 (QG 3 l) l.length):=(hbo3.sm hz).mono (by decide)
 have hbo2:BldOk (2:Int) 4 2 2 4 2 l.length (YT (2:Int) 4 2 (QG 2 l) l.length):=Qam hz om (QcP (co:=2) (by decide) hst0 (Nat.le_refl _)).zero
 have hbl2:=hbo2.len
 have hbs2:Sm 100000 (YT (2:Int) 4 2 (QG 2 l) l.length):=(hbo2.sm hz).mono (by decide)
 refine eN3 Tryz.func3 Tryz.ntmps3 ?_
 refine aU2 ?_
 refine oBx λb1 _=>?_
 refine oBx λb2 _=>?_
 refine oBx λb3 _=>?_
 refine aU5 ?_
 refine oCq rfl (λw1 h1=>c4 w1) (aU2 ?_)
 refine sCd rfl (λh4=>?_) λh4=>?_
 ·exfalso;simp at h4
 refine aU5 ?_
 refine oCq rfl (λw1 h1=>c5 w1 nx a cap l (hs.later h1) hmM hbM) (aU2 ?_)
 refine oOr 4 21 25 rfl
  (λhg5 _=>by
   refine aU3 ?_
   refine oCq rfl (λw1 h1=>c6 w1 3 mh rh ah hcap LH (hsH.later h1.nil)) (aU2 ?_)
   exact oJf 4 25)
  (λhg7 _=>by
   refine aU3 ?_
   exact oJt 4 25) ?_
 refine aU ?_
 refine oOr 4 26 30 rfl
  (λhg9 _=>by
   refine aU3 ?_
   refine oCq rfl (λw1 h1=>c6 w1 2 mi ri ai icap LI (hsI.later h1.nil)) (aU2 ?_)
   exact oJf 4 30)
  (λhg11 _=>by
   refine aU3 ?_
   exact oJt 4 30) ?_
 refine aU ?_
 refine sCd rfl (λh13=>?_) λh13=>?_
 ·exfalso;have hq:=h13;simp[hfw,hfwH,hfwI]at hq
 refine aU4 ?_
 refine oCh rfl (λw1 h1=>c8 w1 nx a cap l (hs.later h1) hm hb) (λgS _=>oCh rfl (λw1 h1=>c7o w1 nx gS.1 gS.2 l (HS.rw_own (a:=gS.1) (l:=l) sv2 h1 aPk rfl) hm hb hst0) (λ⟨⟨pa,pc⟩,P⟩hP=>aU3 ?_))
 refine oAl (λb14 _=>?_) Xw
 refine aU6 ?_
 refine oCh rfl (λw1 h1=>c8 w1 nx a cap l (hs.later h1) hm hb) (λgV _=>oCh rfl (λw1 h1=>c9o w1 nx gV.1 gV.2 l (HS.rw_own (a:=gV.1) (l:=l) sv2 h1 aPk rfl) hm hb hst0) (λ⟨⟨qa,qc⟩,Q⟩hQ=>aU3 ?_))
 refine oAl (λb15 _=>?_) Xw
 refine aU4 ?_
 refine Qg (L':=[(3,_),(4,_),(5,_),(6,_),(7,_),(8,_),(9,_),(10,_)]) aSx (λ_ h=>h) ?_
 refine Qq [] Qx ?_
 refine dLn 0 [] ?_
 refine dLn 2 [] ?_
 refine dLn 4 [] ?_
 refine dH 1 rfl (Q3 rfl QnY rfl (λw1 h1=>c8 w1 nx a cap l (hs.later h1) hm hb)) (λgU _=>dBa ?_)
 refine dH 3 rfl (Q3 rfl Qfv rfl (λw1 h1=>c11 w1 3 mh rh ah hcap LH (hsH.later h1.nil) hlH hsmH)) (λ⟨⟨gha,ghc⟩,KH⟩hKH=>dBa ?_)
 refine dH 5 rfl (Q3 rfl Qfv rfl (λw1 h1=>c11 w1 2 mi ri ai icap LI (hsI.later h1.nil) hlI hsmI)) (λ⟨⟨gia,gic⟩,KI⟩hKI=>dBa ?_)
 refine dQ 6 [] rfl (Ql rfl QlO rfl (λw1 h1=>by have h9:=c10o w1 nx gU.1 gU.2 l mh rh gha ghc KH mi ri gia gic KI (HS.rw_own (a:=gU.1) (l:=l) sv2 h1 aPk rfl) hm hb (HS.nt h1 aPk) (by rw[hKH];exact hBH) (XM (by rw[hKH];exact hfwH)) (HS.nt h1 aPk) (by rw[hKI];exact hBI) (XM (by rw[hKI];exact hfwI)) hst0 (by rw[hKH];exact h0H) (by rw[hKI];exact h0I);rw[hKH,hKI]at h9;exact h9)) (dP 7 ?_)
 refine dP 8 ?_
 refine dP 9 ?_
 refine dP 10 ?_
 refine dP 11 ?_
 refine dNi ?_
 refine aU4 ?_
 refine oCq rfl (λw1 h1=>c12 w1 nx a cap l (hs.later h1) hm hb) (aU7 ?_)
 refine sCd rfl (λh16=>?_) λh16=>?_
 ·exfalso;exact absurd hst0 (by have hq:=h16;simpa using hq)
 refine aU3 ?_
 refine Qq [] Qx ?_
 refine dP 0 ?_
 refine dP 1 ?_
 refine dP 2 ?_
 apply Q7 86
 ·exact rfl
 ·intro hg17
  have hs18:=hg17;try simp only[Bool.not_eq_true',decide_eq_false_iff_not]at hs18
  exfalso;exact absurd hg17 (by simp)
 intro hg19
 have hs20:=hg19;try simp only[Bool.not_eq_false',decide_eq_true_eq]at hs20
 refine dQo 3 86 [] hg19 rfl rfl rfl (YP rfl rfl Yf aPk rfl) ?_
 refine dQo 4 86 [] hg19 rfl rfl rfl (YP rfl rfl QaF aPk rfl) ?_
 refine QhU 5 86 rfl rfl rfl hg19 (Q3 rfl Qpm rfl (λw1 h1=>c14 w1 nx a cap l (hs.later h1) hm hb hst0)) (by kernel_rfl) (λw h=>h.ent aEt) rfl (λ⟨⟨ua,uc⟩,U⟩hU=>?_)
 refine dBa ?_
 refine dQo 6 86 [] hg19 rfl rfl rfl (Ql rfl Qh1 rfl (λw1 h1=>c13 w1 3 4 2 (some ⟨pa,0,none⟩) ua pc uc P U (HS.nt h1 aPk) (HS.nt h1 aPk) (by rw[<-Qb,hP];omega) (by rw[<-Qb,hU];omega) (by rw[hP];exact hbs3) (by rw[hU];exact hbs3) (hP.trans hU.symm))) ?_
 refine dPo 7 86 hg19 ?_
 refine dV 8 rfl (QW rfl rfl hg19 rfl) (dP 9 ?_)
 apply Q7 93
 ·exact rfl
 ·intro hg21
  have hs22:=hg21;try simp only[Bool.not_true]at hs22
  exfalso;exact absurd hg21 (by simp)
 intro hg23
 have hs24:=hg23;try simp only[Bool.not_true]at hs24
 refine dPo 10 93 hg23 ?_
 refine dPo 11 93 hg23 ?_
 refine dV 12 rfl (QW rfl rfl hg23 rfl) (dP 13 ?_)
 apply Q7 97
 ·exact rfl
 ·intro hg25
  have hs26:=hg25;try simp only[Bool.not_eq_true',decide_eq_false_iff_not]at hs26
  exfalso;exact absurd hg25 (by simp)
 intro hg27
 have hs28:=hg27;try simp only[Bool.not_eq_false',decide_eq_true_eq]at hs28
 refine dQo 14 97 [] hg27 rfl rfl rfl (YP rfl rfl Yf aPk rfl) ?_
 refine dQo 15 97 [] hg27 rfl rfl rfl (YP rfl rfl QaF aPk rfl) ?_
 refine QhU 16 97 rfl rfl rfl hg27 (Q3 rfl QpB rfl (λw1 h1=>c15 w1 nx a cap l (hs.later h1) hm hb hst0)) (by kernel_rfl) (λw h=>h.ent aEt) rfl (λ⟨⟨va,vc⟩,V⟩hV=>?_)
 refine dBa ?_
 refine dQo 17 97 [] hg27 rfl rfl rfl (Ql rfl Qh1 rfl (λw1 h1=>c13 w1 2 4 2 (some ⟨qa,0,none⟩) va qc vc Q V (HS.nt h1 aPk) (HS.nt h1 aPk) (by rw[<-Qb,hQ];omega) (by rw[<-Qb,hV];omega) (by rw[hQ];exact hbs2) (by rw[hV];exact hbs2) (hQ.trans hV.symm))) ?_
 refine dPo 18 97 hg27 ?_
 refine dV 19 rfl (QW rfl rfl hg27 rfl) (dNi ?_)
 refine sCd rfl (λh29=>?_) λh29=>?_
 ·exfalso;simp at h29
 refine aU2 ?_
 refine Qg (L':=[(3,_),(4,_),(5,_),(6,_),(11,_),(12,_)]) aSx (λ_ h=>h) ?_
 refine aU2 ?_
 refine oCq rfl (λw1 h1=>c16 w1 3 mh rh ah hcap LH (hsH.later h1.nil) hBH hkH) (aU8 ?_)
 refine sCd rfl (λh30=>?_) λh30=>?_
 ·refine aU2 ?_
  refine oCq rfl (λw1 h1=>c16 w1 2 mi ri ai icap LI (hsI.later h1.nil) hBI hkI) (aU8 ?_)
  refine sCd rfl (λh31=>?_) λh31=>?_
  ·exfalso;exact absurd h0I (by have hq:=h31;simpa using hq)
  refine aU6 ?_
  refine oCq rfl (λw1 h1=>c17o w1 nx a cap l mh rh ah hcap LH mi ri ai icap LI (hs.later h1) hm hb (hsH.later h1.nil) hfwH (hsI.later h1.nil) hfwI hst0 h0H h0I) (Y1 ?_)
  refine XJ 4 129 133 rfl
   (λhg32 _=>by
    refine aU6 ?_
    exact oJt 4 133)
   (λhg34 _=>by
    refine aU3 ?_
    exact oJf 4 133) ?_
  refine aU2 ?_
  exact rV (h:=by first|rfl|simp[QV])
 exfalso;exact absurd h0H (by have hq:=h30;simpa using hq)
theorem c3(w:World)(nx:Int)(a:Option Addr)(cap:Nat)(l:List SItm)(ch mh rh:Int)(ah:Option Addr)(hcap:Nat)(LH:List LNd)(ci mi ri:Int)(ai:Option Addr)(icap:Nat)(LI:List LNd)(hs:Rw SItm.vals 2 w [] a l)(hmM:l.length<=9223372036854775807)(hbM:∀x∈l,x.by_.length<=9223372036854775807)(hsH:Nt w [] ah LH)(hsI:Nt w [] ai LI):CR 3 #[.agg #[.int .i64 nx,.slice a l.length cap],.agg #[.int .i64 ch,.int .i64 mh,.int .i64 rh,.slice ah LH.length hcap],.agg #[.int .i64 ci,.int .i64 mi,.int .i64 ri,.slice ai LI.length icap]] w (.bool true):=by
  by_cases hz:Qdb l=true/\Yc (pln LH)=true/\Yc (pln LI)=true
  · obtain⟨h1,h2,h3⟩:=hz
    by_cases he:(QX nx l).2=0
    · by_cases hE:(ckE (QX nx l).2 (QZ (⟨ch,mh,rh,pln LH⟩:Tre)).2 (QZ (⟨ci,mi,ri,pln LI⟩:Tre)).2 (decide (ch=3)&&decide (ci=2)))=0
      · obtain⟨_,h5,h6,h7⟩:=QrM hE;have h8:ch=3/\ci=2:=by simpa using h7
        obtain⟨rfl,rfl⟩:=h8;exact c3o w nx a cap l mh rh ah hcap LH mi ri ai icap LI hs hmM hbM hsH hsI h1 h2 h3 he h5 h6
      · exact c3b w nx a cap l ch mh rh ah hcap LH ci mi ri ai icap LI hs hmM hbM hsH hsI h1 h2 h3 he hE
    · exact c3e w nx a cap l ch mh rh ah hcap LH ci mi ri ai icap LI hs hmM hbM hsH hsI h1 h2 h3 he
  · exact c3z w nx a cap l ch mh rh ah hcap LH ci mi ri ai icap LI hs hmM hbM hsH hsI hz
end Go.Proofs
