/- Contracts of the program's functions, proved by walking them with the rules of the Gx texts; without conditions beyond those that each contract names. -/
import Derived.WalkKit
import Derived.Deep.Draws
import Derived.TacticsIn
import Derived.OrdersIn
import Derived.RangeFuncLeaves
import Derived.Lib.Strings
import Derived.Laws.BytesArg
import Derived.Laws.IdiomStrings
import Derived.Deep.Quiet
import Derived.ProofKit
import Derived.OpenShut
import Derived.Laws.StructEq
import Derived.ChangeKeysEq
import Derived.Laws.Externs
import Derived.Lib.Overlaps
import Derived.Carry
import Derived.Laws.Small
import Derived.Lib.Bytealg
import Derived.Shelf.Small.Strs
import Derived.Shelf.Small.Wraps
import Derived.Shelf.Strconv.Itoa0
import Derived.Shelf.Strconv.Itoa1
import Derived.Shelf.LaysM
import Derived.Shelf.Strconv.Itoa2
import Derived.Shelf.Strconv.Itoa3
import Derived.Shelf.Strings.Search1
import Derived.Shelf.Strings.Search2
import Derived.Shelf.Strings.Cut
import Derived.Shelf.Strings.Shaped
import Derived.Shelf.Strings.LastIndex
import Derived.Shelf.Strings.LastIndexAll
import Derived.Shelf.Strings.Prefix
import Derived.Shelf.Slices.Turned
import Derived.Shelf.Slices.Reverse
import Derived.Shelf.Slices.Equal
import Derived.Ground.Names2Prog
import Derived.Shelf.Slices.Clone
import Derived.Shelf.Slices.SearchI
import Derived.Shelf.Slices.Delete
import Derived.Shelf.Slices.Cells
import Derived.Shelf.Slices.Empties
import Derived.Shelf.Slices.Empties2
import Derived.Ground.SlgnProg
import Derived.Shelf.SlicesE.Reverse
import Derived.Shelf.SlicesE.Delete
import Derived.Shelf.SlicesE.Clone
import Derived.Test.YtmhkomoiamljeaaGreatDoorProg
import Derived.KernelRfl
import Derived.Lib.LastIndexByte
import Derived.Lib.ItoaNum
import Derived.Lib.SmallJoins
import Derived.Lib.AppendIntMem
import Derived.RangeFuncRecord
import Derived.Lib.Builder
import Derived.Laws.Pointers
import Derived.Test.YtmhkomoiamljeaaGreatDoorTie
import Derived.Test.YtmhkomoiamljeaaGreatDoorCards
import Derived.SevenTiedAt
import Derived.LaidMore
import Derived.Lay
import Derived.Stop.Joined
import Derived.Test.YtmhkomoiamljeaaGreatDoorP1
set_option linter.unusedSimpArgs false
set_option maxHeartbeats 1000000
set_option linter.unusedVariables false
set_option linter.unusedSectionVars false
set_option linter.unnecessarySimpa false
namespace Go.Proofs
open Go Go.RowKit Gx
attribute [local irreducible] Go.Calls Gx.S Gx.O Gx.D Gx.OpP Gx.OpQ Gx.OpH
set_option maxRecDepth 20000
instance:TFn Tryz.prog 27:=⟨by kernel_rfl⟩
instance:TFn Tryz.prog 111:=⟨by kernel_rfl⟩
instance:TFn Tryz.prog 35:=⟨by kernel_rfl⟩
instance:TFn Tryz.prog 52:=⟨by kernel_rfl⟩
instance:TFn Tryz.prog 16:=⟨by kernel_rfl⟩
theorem Qua:YG Tryz.prog 30=some [(0,2),(2,4)]:=by kernel_rfl
theorem Que:QN Tryz.prog 30=some [.int .i64 0,.int .i64 0,.int .i64 0,.int .i64 0,.int .i64 0,.int .i64 0]:=by kernel_rfl
instance:TFn Tryz.prog 17:=⟨by kernel_rfl⟩
theorem QiW:QL Tryz.prog 105=true:=by kernel_rfl
instance:TFn Tryz.prog 105:=⟨QiW⟩
theorem Qvg:QL Tryz.prog 104=true:=by kernel_rfl
theorem Qxd:YG Tryz.prog 28=some [(0,1),(1,1),(2,1),(3,1)]:=by kernel_rfl
instance:TFn Tryz.prog 45:=⟨by kernel_rfl⟩
theorem QrC(s:List UInt8)(k:Nat):at1 s k=Xk s k 1:=by
  show at1 s k=at1 s k+256*0;omega
theorem QtO(s:List UInt8)(k:Nat):Value.int .i64 (IntKind.i64.wrap ((s.getD k 0).toNat:Int))=Value.int .i64 (Xk s k 1):=by
  have h:=(s.getD k 0).toNat_lt;rw[<-QrC];exact QnU om om
theorem Y8{a b:Int}(h:a=0):Xe a b=b:=if_pos h
theorem QqF{a b:Int}(h:¬a=0):Xe a b=a:=if_neg h
theorem c111(w:World)(n:Int):CR 111 #[.int .i64 n] w (.bool (decide (0<=n)&&decide (n<=1000000))):=by
 refine eN1 Tryz.func111 Tryz.ntmps111 ?_
 refine aU7 ?_
 refine oCq rfl (λw1 h1=>c27 w1 _ _ _) (aU2 ?_)
 exact rV
theorem c35(w:World)(re sq:Int):CR 35 #[.agg #[.int .i64 re,.int .i64 sq]] w (.int .i64 (Qaw re sq)):=by
 refine eN1 Tryz.func35 Tryz.ntmps35 ?_
 refine aU2 ?_
 refine oBx λb1 _=>?_
 refine aU7 ?_
 refine oCq rfl (λw1 h1=>c27 w1 _ _ _) (aU2 ?_)
 refine oOr 5 7 12 rfl
  (λhg2 _=>by
   refine aU5 ?_
   refine oCq rfl (λw1 h1=>c27 w1 _ _ _) (aU2 ?_)
   exact oJf 5 12)
  (λhg4 _=>by
   refine aU4 ?_
   exact oJt 5 12) ?_
 refine aU ?_
 refine sCd rfl (λh6=>?_) λh6=>?_
 ·refine aU4 ?_
  exact rV (h:=by have hq:=h6;simp only[Qt,Qaw,okE];grind)
 refine aU5 ?_
 exact rV (h:=by have hq:=h6;simp only[Qt,Qaw,okE];grind)
theorem c52(w:World)(fl tm al sz:Int):CR 52 #[.agg #[.int .i64 fl,.int .i64 tm,.int .i64 al,.int .i64 sz]] w (.int .i64 (Qk6 fl tm al sz)):=by
 refine eN1 Tryz.func52 Tryz.ntmps52 ?_
 refine aU2 ?_
 refine oBx λb1 _=>?_
 refine aU7 ?_
 refine oCq rfl (λw1 h1=>c27 w1 _ _ _) (aU2 ?_)
 refine oOr 5 7 12 rfl
  (λhg2 _=>by
   refine aU5 ?_
   refine oCq rfl (λw1 h1=>c111 w1 _) (aU2 ?_)
   exact oJf 5 12)
  (λhg4 _=>by
   refine aU4 ?_
   exact oJt 5 12) ?_
 refine aU ?_
 refine oOr 5 13 18 rfl
  (λhg6 _=>by
   refine aU5 ?_
   refine oCq rfl (λw1 h1=>c27 w1 _ _ _) (aU2 ?_)
   exact oJf 5 18)
  (λhg8 _=>by
   refine aU4 ?_
   exact oJt 5 18) ?_
 refine aU ?_
 refine oOr 5 19 24 rfl
  (λhg10 _=>by
   refine aU5 ?_
   refine oCq rfl (λw1 h1=>c27 w1 _ _ _) (aU2 ?_)
   exact oJf 5 24)
  (λhg12 _=>by
   refine aU4 ?_
   exact oJt 5 24) ?_
 refine aU ?_
 refine sCd rfl (λh14=>?_) λh14=>?_
 ·refine aU4 ?_
  exact rV (h:=by have hq:=h14;simp only[Qt,Qk6,okE];grind)
 refine aU5 ?_
 exact rV (h:=by have hq:=h14;simp only[Qt,Qk6,okE];grind)
theorem c17(w:World)(re sq fl tm al sz:Int):CR 17 #[.agg #[.int .i64 re,.int .i64 sq,.int .i64 fl,.int .i64 tm,.int .i64 al,.int .i64 sz]] w (.int .i64 (Xe (Qaw re sq) (Qk6 fl tm al sz))):=by
 refine eN1 Tryz.func17 Tryz.ntmps17 ?_
 refine aU2 ?_
 refine oBx λb1 _=>?_
 refine aU7 ?_
 refine oCq rfl (λw1 h1=>c35 w1 _ _) (aU7 ?_)
 refine sCd rfl (λh2=>?_) λh2=>?_
 ·have hz:¬Qaw re sq=0:=by have hq:=h2;exact hq
  refine aU5 ?_
  exact rV (h:=by rw[Xe,if_neg hz];rfl)
 have hz:Qaw re sq=0:=by have hq:=h2;simpa using hq
 refine aU5 ?_
 refine oCq rfl (λw1 h1=>c52 w1 _ _ _ _) (aU2 ?_)
 exact rV (h:=by rw[Xe,if_pos hz];rfl)
theorem c45(w:World)(e:DEnt)(hnm:e.nm.length<=1000000)(hot:e.ot.length<=1000000):CR 45 #[.agg #[.string (bs e.nm),.int .i64 e.sp,.string (bs e.ot),.int .i64 e.re,.int .i64 e.sq,.int .i64 e.fl,.int .i64 e.tm,.int .i64 e.al,.int .i64 e.sz]] w (.int .i64 (QaJ e)):=by
 refine eN1 Tryz.func45 Tryz.ntmps45 ?_
 refine aU2 ?_
 refine oBx λb1 _=>?_
 refine aU7 ?_
 refine oCq rfl (λw1 hh=>c16 w1 e.nm om) (aU7 ?_)
 refine sCd rfl (λh2=>?_) λh2=>?_
 ·have h1:¬QI e.nm=0:=by have hq:=h2;exact hq
  refine aU5 ?_
  exact rV (h:=by rw[QaJ,QqF h1];rfl)
 have h1:QI e.nm=0:=by have hq:=h2;simpa using hq
 refine aU6 ?_
 refine oCq rfl (λw1 h1=>c27 w1 _ _ _) (aU2 ?_)
 refine sCd rfl (λh3=>?_) λh3=>?_
 ·have h2:Qnn e.sp=2:=by have hq:=h3;simp only[Qnn,okE];grind
  refine aU4 ?_
  exact rV (h:=by rw[QaJ,Y8 h1,h2];rfl)
 have h2:Qnn e.sp=0:=by have hq:=h3;simp only[Qnn,okE];grind
 refine Qbg ?_
 refine o_p (Qgi rfl rfl rfl Tryz.underlying4) rfl (aU ?_)
 refine sCd rfl (λh4=>?_) λh4=>?_
 ·have h3:okE (decide (e.sp=2)==decide (e.ot=[])) 3=3:=by have hq:=h4;simp only[okE];grind
  refine aU4 ?_
  exact rV (h:=by rw[QaJ,Y8 h1,Y8 h2,h3];rfl)
 have h3:okE (decide (e.sp=2)==decide (e.ot=[])) 3=0:=by have hq:=h4;simp only[okE];grind
 refine aU8 ?_
 refine sCd rfl (λh5=>?_) λh5=>?_
 ·have h4:Qgg e.ot=QI e.ot:=if_neg (by have hq:=h5;simpa using hq)
  refine aU4 ?_
  refine oCq rfl (λw1 hh=>c16 w1 e.ot om) (aU7 ?_)
  refine sCd rfl (λh6=>?_) λh6=>?_
  ·have h5:¬Qgg e.ot=0:=by rw[h4];have hq:=h6;exact hq
   refine aU5 ?_
   exact rV (h:=by rw[QaJ,Y8 h1,Y8 h2,Y8 h3,QqF h5,h4];rfl)
  have h5:Qgg e.ot=0:=by rw[h4];have hq:=h6;simpa using hq
  refine aU7 ?_
  refine o_p (QU (cs:=[_,_,_,_,_,_]) rfl rfl Qua Que rfl) rfl (oCq rfl (λw1 h1=>c17 w1 _ _ _ _ _ _) (aU2 ?_))
  exact rV (h:=by rw[QaJ,Y8 h1,Y8 h2,Y8 h3,Y8 (a:=Qgg e.ot) (by first|exact h5|exact h4)];rfl)
 have h4:Qgg e.ot=0:=if_pos (by have hq:=h5;simpa using hq)
 refine aU7 ?_
 refine o_p (QU (cs:=[_,_,_,_,_,_]) rfl rfl Qua Que rfl) rfl (oCq rfl (λw1 h1=>c17 w1 _ _ _ _ _ _) (aU2 ?_))
 exact rV (h:=by rw[QaJ,Y8 h1,Y8 h2,Y8 h3,Y8 (a:=Qgg e.ot) (by first|exact h5|exact h4)];rfl)
theorem Qei(w:World)(s:List UInt8)(at' c:Nat)(hm:s.length<=1000000000)(hc:c<=7)(hac:at'+c<=s.length):CR 105 #[.string (bs s),.int .i64 (at':Int),.int .i64 (c:Int)] w (.int .i64 (Xk s at' c)):=by
 refine eN3 Tryz.func105 Tryz.ntmps105 ?_
 refine aT13 ?_
 refine aU3 ?_
 refine Qo (α:=Nat) [7,8,11,12,13,14,15,16,17,18,19,20,21,22,23] (λj=>[(8,.int .i64 ((j:Int)-1)),(7,.int .i64 (Xk s (at'+j) (c-j)))]) (λ_=>_) (λj=>j<=c) (λj=>j) c (Nat.le_refl _) (by rw[Nat.sub_self];exact aSx) (λw h=>h) (λj hj=>?_)
 refine aU6 ?_
 refine sCd rfl (λh1=>?_) λh1=>?_
 ·obtain⟨i,rfl⟩:∃i,j=i+1:=⟨j-1,om⟩
  have hst:Xk s (at'+i) (c-i)=at1 s (at'+i)+256*Xk s (at'+(i+1)) (c-(i+1)):=by rw[show c-i=(c-(i+1))+1 by omega,Xk];rfl
  have hb1:=Qe4 s (at'+i)
  have hn6:=Qqr s (at'+(i+1)) (k:=c-(i+1)) om
  have hb9:=(s.getD (at'+i) 0).toNat_lt
  refine aT6 ?_
  refine aT4 ?_
  refine Qs (show _=Value.int .i64 ((at'+i:Nat):Int)from by congr 1;omega) (o_p (Qy rfl rfl rfl Tryz.underlying9 (at'+i) om om) rfl ?_)
  refine o_p (QW rfl rfl QeX Qco) rfl ?_
  try refine oWr ?_
  refine aT ?_
  refine Qs (show _=Value.int .i64 (Xk s (at'+i) (c-i))from by rw[hst];congr 1;show _*256+at1 s (at'+i)=_;omega) (aT6 ?_)
  refine aU2 ?_
  exact Qv i om om (by rw[show((i:Int)-1)=((i+1:Nat):Int)-1-1 from om];exact aSx) (λw h=>h)
 obtain rfl:j=0:=om
 rw[Nat.add_zero,Nat.sub_zero]
 refine Qg rfl ?_
 refine aU5 ?_
 exact rV
theorem c104(w:World)(s:List UInt8)(hl:6<=s.length)(hm:s.length<=1000000):CR 104 #[.string (bs s)] w (.agg #[.int .i64 (Xk s 0 4),.int .i64 (Xk s 4 2)]):=by
 refine eN1 Tryz.func104 Tryz.ntmps104 ?_
 refine aU2 ?_
 refine oAl (λb1 _=>?_) QlX
 refine aU4 ?_
 refine oCq rfl (λw1 h1=>Qei w1 s 0 4 om om om) (aU ?_)
 refine oCq rfl (λw1 h1=>Qei w1 s 4 2 om om om) (o_p (QU (cs:=[_,_]) rfl rfl Quh QlX rfl) rfl (aU2 ?_))
 exact Qj (rs:=[.cell 2 26]) rfl (.cell rfl Qah aPk rfl (.nil)) (λw' h'=>⟨by rfl,h'.below⟩)
theorem c43(w:World)(x:TEnt)(hk:x.key.length<=1000000)(hv:x.val.length<=1000000):CR 43 #[.agg #[.string (bs x.key),.string (bs x.val)]] w (.tuple #[.agg #[.string (bs (dcD x).nm),.int .i64 (dcD x).sp,.string (bs (dcD x).ot),.int .i64 (dcD x).re,.int .i64 (dcD x).sq,.int .i64 (dcD x).fl,.int .i64 (dcD x).tm,.int .i64 (dcD x).al,.int .i64 (dcD x).sz],.int .i64 (dcE x)]):=by
 refine eN1 Tryz.func43 Tryz.ntmps43 ?_
 refine aU2 ?_
 refine oBx λb1 _=>?_
 refine oAl (λb2 _=>?_) Xm
 refine Qaa ?_
 refine o_p (Qp rfl rfl Tryz.underlying9) rfl (aU2 ?_)
 refine sCd rfl (λh3=>?_) λh3=>?_
 ·have hl20:x.val.length<20:=by have hq:=h3;omega
  have hE:dcE x=3:=if_pos hl20
  have hD:dcD x=noE:=if_neg (by rw[hE];decide)
  refine aU2 ?_
  refine o_p (QU (cs:=[_,_,_,_,_,_,_,_,_]) rfl rfl Qbv Xm rfl) rfl (aU3 ?_)
  exact Qj (rs:=[.cell 2 66,.tmp 3]) rfl (.cell rfl Yq aPk rfl (.tmp rfl (.nil))) (λw' h'=>⟨by rw[hD,hE];rfl,h'.below⟩)
 have hl20:¬x.val.length<20:=by have hq:=h3;omega
 have hE:dcE x=QaJ (Qh x):=if_neg hl20
 refine aU2 ?_
 refine QG [11] mixed ?_
 refine dFa 0 ?_
 refine dLd 1 [[]] ?_
 refine dP 2 ?_
 refine dQ 3 [[]] rfl (Qz rfl Qvg rfl (λw1 h1=>c104 w1 x.val om hv)) (dP 4 ?_)
 refine dV 5 rfl (Qy rfl rfl rfl Tryz.underlying9 (6) om om) ?_
 refine dV 6 rfl (QW rfl rfl QeX Qco) ?_
 try refine dWr ?_
 refine QK (show _=Value.int .i64 (Xk x.val 6 1)from QtO _ _) (dP 7 ?_)
 refine dV 8 rfl (XK 20 rfl rfl rfl Tryz.underlying9 rfl om) (dV 9 rfl (QU (cs:=[_,_,_,_,_,_,_,_,_]) rfl rfl Qbv Xm rfl) (dH 10 rfl (QfL rfl Xm) (λb4 _=>dBa ?_)))
 refine dSt 11 ?_ (hl:=(by simp only[Qi,List.length_set,List.length_cons,List.length_nil,List.length_map];omega))
 refine dTu [] ?_
 refine dNi ?_
 refine aU ?_
 refine QG [11] mixed ?_
 refine dP 0 ?_
 refine dV 1 rfl (Qy rfl rfl rfl Tryz.underlying9 (7) om om) ?_
 refine dV 2 rfl (QW rfl rfl QeX Qco) ?_
 try refine dWr ?_
 refine QK (show _=Value.int .i64 (Xk x.val 7 1)from QtO _ _) (dP 3 ?_)
 refine dQ 4 [[]] rfl (Qz rfl QiW rfl (λw1 h1=>Qei w1 x.val 8 4 om om om)) (dP 5 ?_)
 refine dQ 6 [[]] rfl (Qz rfl QiW rfl (λw1 h1=>Qei w1 x.val 12 4 om om om)) (dP 7 ?_)
 refine dQ 8 [[]] rfl (Qz rfl QiW rfl (λw1 h1=>Qei w1 x.val 16 4 om om om)) (dV 9 rfl (QU (cs:=[_,_,_,_]) rfl rfl Qxd Qug rfl) (dFa 10 ?_))
 refine dSt 11 ?_ (hl:=(by simp only[Qi,List.length_set,List.length_cons,List.length_nil,List.length_map];omega))
 refine dTu [] ?_
 refine dNi ?_
 refine aU2 ?_
 refine Qe (L':=[(2,_),(3,_),(5,_)]) aSx (λ_ h=>h) ?_
 refine aU2 ?_
 refine Qs (show _=.agg #[.string (bs (Qh x).nm),.int .i64 (Qh x).sp,.string (bs (Qh x).ot),.int .i64 (Qh x).re,.int .i64 (Qh x).sq,.int .i64 (Qh x).fl,.int .i64 (Qh x).tm,.int .i64 (Qh x).al,.int .i64 (Qh x).sz]from rfl) (Y5 (C':=HS w [] [.blk b4 66 9 [.string (bs (Qh x).nm),.int .i64 (Qh x).sp,.string (bs (Qh x).ot),.int .i64 (Qh x).re,.int .i64 (Qh x).sq,.int .i64 (Qh x).fl,.int .i64 (Qh x).tm,.int .i64 (Qh x).al,.int .i64 (Qh x).sz],.blk b2 66 9 [.string (bs []),.int .i64 0,.string (bs []),.int .i64 0,.int .i64 0,.int .i64 0,.int .i64 0,.int .i64 0,.int .i64 0]]) (λw h=>h.ent aEt) (oCq rfl (λw1 h1=>c45 w1 (Qh x) hk (by show(x.val.drop 20).length<=_;rw[List.length_drop];omega)) (aU7 ?_)))
 refine sCd rfl (λh5=>?_) λh5=>?_
 ·have hz:¬QaJ (Qh x)=0:=by have hq:=h5;exact hq
  have hD:dcD x=noE:=if_neg (by rw[hE];exact hz)
  refine aU2 ?_
  refine o_p (QU (cs:=[_,_,_,_,_,_,_,_,_]) rfl rfl Qbv Xm rfl) rfl (aU4 ?_)
  exact Qj (rs:=[.cell 2 66,.tmp 3]) rfl (.cell rfl Yq aPk rfl (.tmp rfl (.nil))) (λw' h'=>⟨by rw[hD,hE];rfl,h'.below⟩)
 have hz:QaJ (Qh x)=0:=by have hq:=h5;simpa using hq
 have hD:dcD x=Qh x:=if_pos (by rw[hE];exact hz)
 refine aU4 ?_
 refine Qs (show _=.agg #[.string (bs (Qh x).nm),.int .i64 (Qh x).sp,.string (bs (Qh x).ot),.int .i64 (Qh x).re,.int .i64 (Qh x).sq,.int .i64 (Qh x).fl,.int .i64 (Qh x).tm,.int .i64 (Qh x).al,.int .i64 (Qh x).sz]from rfl) (aU3 ?_)
 exact Qj (rs:=[.cell 2 66,.tmp 3]) rfl (.cell rfl Yq aPk rfl (.tmp rfl (.nil))) (λw' h'=>⟨by rw[hD,hE,hz];rfl,h'.below⟩)
end Go.Proofs
namespace Gx
namespace Ev
open Go Go.RowKit
structure Rho where
 f:Nat->Option (Nat×Nat)
 ex:List HA
instance:CoeFun Rho (λ_=>Nat->Option (Nat×Nat)):=⟨Rho.f⟩
def Rho.le(ρ ρ':Rho):Prop:=(∀n x,ρ n=some x->ρ' n=some x)/\ρ'.ex=ρ.ex
theorem Rho.le_refl(ρ:Rho):ρ.le ρ:=⟨λ_ _ h=>h,rfl⟩
theorem Rho.le_trans{a b c:Rho}(h1:a.le b)(h2:b.le c):a.le c:=⟨λn x h=>h2.1 n x (h1.1 n x h),h2.2.trans h1.2⟩
def XZ(ρ:Rho):Value->Option Value
 | .pointer (some ⟨n,i,none⟩)=>match ρ n with
  | some x=>some (.pointer (some ⟨x.1,i,none⟩))
  | none=>none
 | .pointer (some ⟨n,i,some q⟩)=>match ρ n with
  | some x=>some (.slice (some ⟨x.1,if x.2=0 then i else i+q,none⟩) 0 x.2)
  | none=>none
 | .pointer none=>some (.pointer none)
 | .slice (some ⟨n,i,none⟩) l c=>match ρ n with
  | some x=>some (.slice (some ⟨x.1,i,none⟩) l (c+x.2))
  | none=>none
 | .slice (some ⟨n,i,some _⟩) l c=>match ρ n with
  | some x=>some (.slice (some ⟨x.1,i,none⟩) l c)
  | none=>none
 | .slice none l c=>some (.slice none l c)
 | .map (some r)=>match ρ r with
  | some x=>some (.map (some x.1))
  | none=>none
 | .map none=>some (.map none)
 | .int k n=>some (.int k n)
 | .bool b=>some (.bool b)
 | .string s=>some (.string s)
 | .nilFunc=>some .nilFunc
 | _=>none
def Qu{α β:Type}(f:α->Option β):List α->Option (List β)
 | []=>some []
 | a::l=>match f a,Qu f l with
  | some b,some m=>some (b::m)
  | _,_=>none
def Qdo(ρ:Rho):Fn->Option Fn
 | .func f=>some (.func f)
 | .yield n=>match ρ n with
  | some x=>some (.yield x.1)
  | none=>none
 | _=>none
def QV(ρ:Rho):Value->Option Value
 | .func f a b=>match Qdo ρ f,Qu (XZ ρ) a.toList,Qu (XZ ρ) b.toList with
  | some f',some a',some b'=>some (.func f' a'.toArray b'.toArray)
  | _,_,_=>none
 | v=>XZ ρ v
def Xt(ρ:Rho):Value->Option Value
 | .agg cs=>match Qu (QV ρ) cs.toList with
  | some l=>some (.agg l.toArray)
  | none=>none
 | v=>QV ρ v
def den(ρ:Rho):Value->Option Value
 | .tuple vs=>match Qu (Xt ρ) vs.toList with
  | some l=>some (.tuple l.toArray)
  | none=>none
 | v=>Xt ρ v
section
variable{α β:Type}
theorem Xx{f g:α->Option β}(h:∀a b,f a=some b->g a=some b):∀{l:List α}{m:List β},Qu f l=some m->Qu g l=some m
 | [],m,e=>e
 | a::l,m,e=>by
  simp only[Qu]at e ⊢;split at e
  ·rename_i b m' h1 h2;rw[h a b h1,Xx h h2];exact e
  ·cases e
theorem Q7{f:α->Option β}:∀{l:List α}{m:List β},Qu f l=some m->m.length=l.length
 | [],m,e=>by cases e;rfl
 | a::l,m,e=>by
  simp only[Qu]at e;split at e
  ·rename_i b m' h1 h2;injection e with e
   subst e;simp[Q7 h2]
  ·cases e
theorem Qa6{f:α->Option β}:∀{l:List α}{m:List β}{i:Nat}{a:α},Qu f l=some m->l[i]?=some a->∃b,m[i]?=some b/\f a=some b
 | [],m,i,a,e,h=>by simp at h
 | x::l,m,i,a,e,h=>by
  simp only[Qu]at e;split at e
  ·rename_i b m' h1 h2;injection e with e
   subst e;cases i with
   | zero=>simp at h;subst h;exact⟨b,rfl,h1⟩
   | succ i=>simpa using Qa6 h2 (by simpa using h)
  ·cases e
theorem Za{f:α->Option β}:∀{l l2:List α}{m m2:List β},Qu f l=some m->Qu f l2=some m2->Qu f (l++l2)=some (m++m2)
 | [],l2,m,m2,e,e2=>by cases e;exact e2
 | a::l,l2,m,m2,e,e2=>by
  simp only[Qu]at e;split at e
  ·rename_i b m' h1 h2;injection e with e
   subst e
   simp_all[Qu,Za]
  ·cases e
theorem XJ{f:α->Option β}:∀{l:List α}{m:List β}(k:Nat),Qu f l=some m->Qu f (l.take k)=some (m.take k)
 | [],m,k,e=>by cases e;simp[Qu]
 | a::l,m,0,e=>by simp[Qu]
 | a::l,m,k+1,e=>by
  simp only[Qu]at e;split at e
  ·rename_i b m' h1 h2;injection e with e
   subst e
   simp_all[Qu,XJ]
  ·cases e
theorem YI{f:α->Option β}:∀{l:List α}{m:List β}(k:Nat),Qu f l=some m->Qu f (l.drop k)=some (m.drop k)
 | [],m,k,e=>by cases e;simp[Qu]
 | a::l,m,0,e=>by simpa using e
 | a::l,m,k+1,e=>by
  simp only[Qu]at e;split at e
  ·rename_i b m' h1 h2;injection e with e
   subst e
   simpa using YI k h2
  ·cases e
theorem QjW{f:α->Option β}:∀{l:List α}{m:List β}(i:Nat){a:α}{b:β},Qu f l=some m->f a=some b->Qu f (l.set i a)=some (m.set i b)
 | [],m,i,a,b,e,h=>by cases e;simp[Qu]
 | x::l,m,i,a,b,e,h=>by
  simp only[Qu]at e;split at e
  ·rename_i y m' h1 h2;injection e with e
   subst e;cases i with
   | zero=>simp only[List.set_cons_zero,Qu,h,h2]
   | succ i=>simp only[List.set_cons_succ,Qu,h1,QjW i h2 h]
  ·cases e
theorem Qj4{f:α->Option β}:∀{l:List α}{m:List β}{b:β},Qu f l=some m->b∈m->∃a∈l,f a=some b
 | [],m,b,e,h=>by cases e;cases h
 | x::l,m,b,e,h=>by
  simp only[Qu]at e;split at e
  ·rename_i y m' h1 h2;injection e with e
   subst e;rcases List.mem_cons.1 h with rfl|h
   ·grind
   ·obtain⟨a,ha,e⟩:=Qj4 h2 h
    grind
  ·cases e
end
theorem QnZ{ρ ρ':Rho}(h:ρ.le ρ')(v u:Value)(e:XZ ρ v=some u):XZ ρ' v=some u:=by
  unfold XZ at e ⊢
  split at e<;>first
    | exact e
    | (split at e
       · rename_i x hx;rw[h.1 _ _ hx];exact e
       · cases e)
    | cases e
theorem Qll{ρ ρ':Rho}(h:ρ.le ρ')(f g:Fn)(e:Qdo ρ f=some g):Qdo ρ' f=some g:=by
  unfold Qdo at e ⊢
  split at e<;>first
    | exact e
    | (split at e
       · rename_i x hx;rw[h.1 _ _ hx];exact e
       · cases e)
    | cases e
theorem QeR{ρ ρ':Rho}(h:ρ.le ρ')(v u:Value)(e:QV ρ v=some u):QV ρ' v=some u:=by
 unfold QV at e ⊢
 grind[Qll,Xx,QnZ]
theorem QnS{ρ ρ':Rho}(h:ρ.le ρ')(v u:Value)(e:Xt ρ v=some u):Xt ρ' v=some u:=by
 unfold Xt at e ⊢
 grind[Xx,QeR]
theorem Qbj{ρ ρ':Rho}(h:ρ.le ρ')(v u:Value)(e:den ρ v=some u):den ρ' v=some u:=by
 unfold den at e ⊢
 grind[Xx,QnS]
abbrev Env:=Nat->Option Value
def SR(ρ:Rho)(L:Env)(L':Qc):Prop:=∀t v,L t=some v->∃u,Qc.get L' t=some u/\den ρ v=some u
theorem SR.mono{ρ ρ':Rho}(h:ρ.le ρ'){L:Env}{L':Qc}(e:SR ρ L L'):SR ρ' L L':=λt v hv=>by
 obtain⟨u,h1,h2⟩:=e t v hv
 grind[Qbj]
theorem SR.get{ρ:Rho}{L:Env}{L':Qc}{t:Nat}{v:Value}(e:SR ρ L L')(h:L t=some v):∃u,Qc.get L' t=some u/\den ρ v=some u:=e t v h
theorem SR.put{ρ:Rho}{L L2:Env}{L':Qc}{d:Nat}{v u:Value}(e:SR ρ L L')(hu:den ρ v=some u)(h:∀t x,L2 t=some x->(t=d/\x=v)\/(t≠d/\L t=some x)):SR ρ L2 ((d,u)::L'):=λt x hx=>by
 simp only[Qc.get];rcases h t x hx with⟨rfl,rfl⟩|⟨h1,h2⟩
 ·simp_all
 ·have hb:Nat.beq d t=false:=by cases hb:Nat.beq d t<;>simp_all
  rw[hb];exact e t x h2
def flat:Value->Bool
 | .int _ _| .bool _| .string _| .nilFunc| .pointer none| .slice none _ _| .map none=>true
 | _=>false
theorem Qag{v:Value}(h:flat v=true)(ρ:Rho):den ρ v=some v:=by
 unfold flat at h;split at h<;>first|rfl|cases h
def opd(L:Env):Operand->Option Value
 | .tmp t=>L t
 | .const v=>bif flat v then some v else none
 | .func f=>some (.func (.func f) #[] #[])
 | _=>none
theorem Zh{ρ:Rho}{L:Env}{L':Qc}{x:Operand}{v:Value}(hs:SR ρ L L')(h:opd L x=some v):∃u,ev L' x=some u/\den ρ v=some u:=by
 unfold opd at h;split at h
 ·exact hs.get h
 ·rename_i c;cases hf:flat c with
  | true=>
   rw[hf]at h;injection h with h
   subst h;exact⟨_,rfl,Qag hf ρ⟩
  | false=>rw[hf]at h;cases h
 ·injection h with h
  subst h;exact⟨_,rfl,rfl⟩
 ·cases h
def QdU(L:Env):List Operand->Option (List Value)
 | []=>some []
 | x::l=>match opd L x,QdU L l with
  | some v,some vs=>some (v::vs)
  | _,_=>none
theorem Qfa{ρ:Rho}{L:Env}{L':Qc}(hs:SR ρ L L'):∀{l:List Operand}{vs:List Value},QdU L l=some vs->∃us,evs L' l=some us/\Qu (den ρ) vs=some us
 | [],vs,h=>by cases h;exact⟨[],rfl,rfl⟩
 | x::l,vs,h=>by
  simp only[QdU]at h;split at h
  ·rename_i v vs' h1 h2;injection h with h
   subst h;obtain⟨u,e1,e2⟩:=Zh hs h1;obtain⟨us,e3,e4⟩:=Qfa hs h2
   grind[evs,Qu]
  ·cases h
section
variable{ρ:Rho}{L:Env}{L':Qc}{x:Operand}
theorem Qk{v:Value}(hs:SR ρ L L')(h:opd L x=some v)(hf:flat v=true):ev L' x=some v:=by grind[Zh,Qag]
theorem Qeg{n i:Nat}(hs:SR ρ L L')(h:opd L x=some (.pointer (some ⟨n,i,none⟩))):∃b d,ρ n=some (b,d)/\ev L' x=some (.pointer (some ⟨b,i,none⟩)):=by grind[Zh,den,Xt,QV,XZ]
theorem Yc{n i l c:Nat}(hs:SR ρ L L')(h:opd L x=some (.slice (some ⟨n,i,none⟩) l c)):∃b d,ρ n=some (b,d)/\ev L' x=some (.slice (some ⟨b,i,none⟩) l (c+d)):=by grind[Zh,den,Xt,QV,XZ]
theorem YE{n i l c q:Nat}(hs:SR ρ L L')(h:opd L x=some (.slice (some ⟨n,i,some q⟩) l c)):∃b d,ρ n=some (b,d)/\ev L' x=some (.slice (some ⟨b,i,none⟩) l c):=by grind[Zh,den,Xt,QV,XZ]
theorem Qf7{n i q:Nat}(hs:SR ρ L L')(h:opd L x=some (.pointer (some ⟨n,i,some q⟩))):∃b d j,ρ n=some (b,d)/\ev L' x=some (.slice (some ⟨b,j,none⟩) 0 d):=by grind[Zh,den,Xt,QV,XZ]
theorem Qdd{cs:Array Value}(hs:SR ρ L L')(h:opd L x=some (.agg cs)):∃l,Qu (QV ρ) cs.toList=some l/\ev L' x=some (.agg l.toArray):=by grind[Zh,den,Xt]
theorem QnG{vs:Array Value}(hs:SR ρ L L')(h:opd L x=some (.tuple vs)):∃l,Qu (Xt ρ) vs.toList=some l/\ev L' x=some (.tuple l.toArray):=by grind[Zh,den]
end
end Ev
end Gx
namespace Gx
open Go Go.RowKit
section
variable{P:Program}{o:Oper}{L:Qc}{w0:World}{M:List Nat}{As As':List HA}
def Qps(P:Program)(t te:TypeId):Prop:=P.underlying t=some (.pointer te)/\∃j,P.info? te=some j/\j.size≠0
theorem Qm3{t te:TypeId}{n:Nat}{b:Bool}(h:P.underlying t=some (.pointer te))(h2:tsz P te=some (n,b))(hn:n≠0):Qps P t te:=by
 refine⟨h,?_⟩
 grind[tsz,hi]
theorem ptee{t te:TypeId}(h:P.underlying t=some (.pointer te)):P.underlying t=some (.pointer (P.pointee t)):=by
 rw[h];simp[Program.pointee,h]
theorem QhI{t t' te:TypeId}{x y:Operand}{p:Option Addr}(ho:o.op=.binOp .eql t x y t')(hx:ev L x=some (.pointer p))(hy:ev L y=some (.pointer none))(ht:Qps P t te):OpP P o L (.bool p.isNone):=by
 intro ρ w hρ;have hg:(eqGuard .eql t x y (.pointer p) (.pointer none)).run P w=.ok () w:=by unfold eqGuard;simp
 simp only[execOp,ho,hρ _ _ hx,hρ _ _ hy,Sem.run_bind,hg,run_eql_pointer_nil w t p (ptee ht.1),Result.andThen_ok,Sem.run_pure]
theorem QcG{t t' te:TypeId}{x y:Operand}{p:Option Addr}(ho:o.op=.binOp .neq t x y t')(hx:ev L x=some (.pointer p))(hy:ev L y=some (.pointer none))(ht:Qps P t te):OpP P o L (.bool p.isSome):=by
 intro ρ w hρ;have hg:(eqGuard .neq t x y (.pointer p) (.pointer none)).run P w=.ok () w:=by unfold eqGuard;simp
 have h:=run_neq_pointer_nil w t p (ptee ht.1);simp only[execOp,ho,hρ _ _ hx,hρ _ _ hy,Sem.run_bind,hg,h,Result.andThen_ok,Sem.run_pure];cases p<;>rfl
end
end Gx
namespace Gx
namespace Ev
open Go Go.RowKit
def vN:Option Value->Option Nat
 | some (.int _ (.ofNat n))=>some n
 | _=>none
theorem Zb{v:Option Value}{n:Nat}(h:vN v=some n):∃k,v=some (.int k (n:Int)):=by
 unfold vN at h;split at h<;>simp_all
def Xc(P:Program)(t:TypeId):Bool:=match P.underlying t with|some .string=>true|_=>false
def QcY(P:Program)(t:TypeId):Bool:=match P.underlying t with|some .bool=>true|_=>false
def Xh(P:Program)(t:TypeId):Bool:=match P.underlying t with|some (.slice _)=>true|_=>false
theorem Yt{P:Program}{t:TypeId}(h:Xc P t=true):P.underlying t=some .string:=by grind[Xc]
theorem Qg6{P:Program}{t:TypeId}(h:QcY P t=true):P.underlying t=some .bool:=by grind[QcY]
theorem X0{P:Program}{t:TypeId}(h:Xh P t=true):∃e,P.underlying t=some (.slice e):=by grind[Xh]
def Qdr(P:Program)(t:TypeId):Bool:=match P.underlying t with
 | some (.pointer te)=>(match tsz P te with
  | some (n,_)=>!Nat.beq n 0
  | none=>false)
 | _=>false
theorem Qes{P:Program}{t:TypeId}(h:Qdr P t=true):∃te,Qps P t te:=by
 unfold Qdr at h;split at h
 ·rename_i te h1;split at h
  ·rename_i n b h2;exact⟨te,Qm3 h1 h2 λe=>by subst e;cases h⟩
  ·cases h
 ·cases h
def QnV:List Nat->List Nat->Bool
 | [],[]=>true
 | a::l,b::m=>Nat.beq a b&&QnV l m
 | _,_=>false
theorem Ql6:∀{l m:List Nat},QnV l m=true->l=m
 | [],[],_=>rfl
 | a::l,b::m,h=>by
  simp only[QnV,Bool.and_eq_true]at h;rw[Nat.eq_of_beq_eq_true h.1,Ql6 h.2]
 | [],_::_,h=>by cases h
 | _::_,[],h=>by cases h
def Qtn(P:Program)(t:TypeId)(xs ys:List Value):Option Bool:=match Qjm P t with
 | some ks=>bif (QnV (xs.map X4) ks&&QnV (ys.map X4) ks)&&(xs.all flat&&ys.all flat)then eqC xs ys else none
 | none=>none
def Z2(P:Program)(op:BinOp)(t:TypeId)(a b:Value):Option Value:=match Xf op a b with
 | some v=>some v
 | none=>match op,a,b with
  | .eql,.bool x,.bool y=>bif QcY P t then some (.bool (x==y))else none
  | .neq,.bool x,.bool y=>bif QcY P t then some (.bool (!(x==y)))else none
  | .eql,.slice p _ _,.slice none _ _=>bif Xh P t then some (.bool p.isNone)else none
  | .neq,.slice p _ _,.slice none _ _=>bif Xh P t then some (.bool (!p.isNone))else none
  | .eql,.agg ⟨xs⟩,.agg ⟨ys⟩=>(match Qtn P t xs ys with
   | some b=>some (.bool b)
   | none=>none)
  | .neq,.agg ⟨xs⟩,.agg ⟨ys⟩=>(match Qtn P t xs ys with
   | some b=>some (.bool (!b))
   | none=>none)
  | .eql,.pointer none,.pointer none=>bif Qdr P t then some (.bool true)else none
  | .eql,.pointer (some ⟨_,_,none⟩),.pointer none=>bif Qdr P t then some (.bool false)else none
  | .neq,.pointer none,.pointer none=>bif Qdr P t then some (.bool false)else none
  | .neq,.pointer (some ⟨_,_,none⟩),.pointer none=>bif Qdr P t then some (.bool true)else none
  | .quo,.int k x,.int k' y=>bif kEq k k'&& !decide (y=0)then some (.int k (k.wrap (x.tdiv y)))else none
  | .rem,.int k x,.int k' y=>bif kEq k k'&& !decide (y=0)then some (.int k (x.tmod y))else none
  | .shl,.int k x,.int _ (.ofNat y)=>some (.int k (k.wrap (x*2^(min y k.bits))))
  | .shr,.int k x,.int _ (.ofNat y)=>some (.int k (x/2^(min y k.bits)))
  | .add,.string ⟨⟨x⟩⟩,.string ⟨⟨y⟩⟩=>bif Nat.ble (x.length+y.length) 9223372036854775807 then some (.string (bs (x++y)))else none
  | _,_,_=>none
theorem Qif{P:Program}{t:TypeId}{xs ys:List Value}{b:Bool}(h:Qtn P t xs ys=some b):∃ks,Qjm P t=some ks/\xs.map X4=ks/\ys.map X4=ks/\xs.all flat=true/\ys.all flat=true/\eqC xs ys=some b:=by grind[Qtn,ks,QnV,X4,flat,Ql6]
theorem QnY{ρ:Rho}{v:Value}(h:flat v=true):QV ρ v=some v:=by
 unfold flat at h;split at h<;>first|rfl|cases h
theorem Qcw{ρ:Rho}:∀{l:List Value},l.all flat=true->Qu (QV ρ) l=some l
 | [],_=>rfl
 | v::l,h=>by simp_all[Qu,QnY,Qcw]
section
variable{P:Program}{o:Oper}{ρ:Rho}{L:Env}{L':Qc}
theorem Qjb{op:BinOp}{a b v:Value}(h:Xf op a b=some v):flat a=true/\flat b=true/\flat v=true:=by
 unfold Xf at h;split at h
 ·rename_i k x k' y;refine⟨rfl,rfl,?_⟩;cases hk:kEq k k' with
  | false=>rw[hk]at h;cases h
  | true=>
   rw[hk]at h;simp only[cond_true]at h;cases op<;>simp only[X1,Option.some.injEq,reduceCtorEq]at h<;>first|(subst h;rfl)|cases h
 ·refine⟨rfl,rfl,?_⟩;cases op<;>simp only[Qec,Option.some.injEq,reduceCtorEq]at h<;>first|(subst h;rfl)|cases h
 ·cases h
theorem Qw5{op:BinOp}{t t':TypeId}{x y:Operand}{a b v:Value}(ho:o.op=.binOp op t x y t')(hs:SR ρ L L')(hx:opd L x=some a)(hy:opd L y=some b)(h:Z2 P op t a b=some v):∃u,OpP P o L' u/\den ρ v=some u:=by
 unfold Z2 at h;split at h
 ·grind[Qjb,QaB,QbU,Qk,Qag]
 ·split at h
  ·rename_i x' y' _;cases ht:QcY P t with
   | false=>rw[ht]at h;cases h
   | true=>
    rw[ht]at h;injection h with h
    subst h;exact⟨_,QdG ho (Qk hs hx rfl) (Qk hs hy rfl) (Qg6 ht),rfl⟩
  ·rename_i x' y' _;cases ht:QcY P t with
   | false=>rw[ht]at h;cases h
   | true=>
    rw[ht]at h;injection h with h
    subst h;exact⟨_,Qgi ho (Qk hs hx rfl) (Qk hs hy rfl) (Qg6 ht),rfl⟩
  ·rename_i p l1 c1 l2 c2 _;cases ht:Xh P t with
   | false=>rw[ht]at h;cases h
   | true=>
    rw[ht]at h;injection h with h
    subst h;obtain⟨e,he⟩:=X0 ht;have hy':=Qk hs hy rfl;rcases p with _|⟨n,i,_|q⟩
    ·exact⟨_,XB ho (Qk hs hx rfl) hy' he,rfl⟩
    ·obtain⟨b9,d9,_,hx'⟩:=Yc hs hx;exact⟨_,XB ho hx' hy' he,rfl⟩
    ·obtain⟨b9,d9,_,hx'⟩:=YE hs hx;exact⟨_,XB ho hx' hy' he,rfl⟩
  ·rename_i p l1 c1 l2 c2 _;cases ht:Xh P t with
   | false=>rw[ht]at h;cases h
   | true=>
    rw[ht]at h;injection h with h
    subst h;obtain⟨e,he⟩:=X0 ht;have hy':=Qk hs hy rfl;rcases p with _|⟨n,i,_|q⟩
    ·exact⟨_,Z1 ho (Qk hs hx rfl) hy' he,rfl⟩
    ·obtain⟨b9,d9,_,hx'⟩:=Yc hs hx;exact⟨_,Z1 ho hx' hy' he,rfl⟩
    ·obtain⟨b9,d9,_,hx'⟩:=YE hs hx;exact⟨_,Z1 ho hx' hy' he,rfl⟩
  ·rename_i xs ys _;split at h
   ·rename_i b hb;injection h with h
    subst h;obtain⟨ks,k1,k2,k3,k4,k5,k6⟩:=Qif hb;obtain⟨l1,m1,n1⟩:=Qdd hs hx;obtain⟨l2,m2,n2⟩:=Qdd hs hy;rw[Qcw k4]at m1;rw[Qcw k5]at m2;injection m1 with m1
    injection m2 with m2
    subst m1 m2;exact⟨_,Xj ho n1 n2 k1 k2 k3 k6,rfl⟩
   ·cases h
  ·rename_i xs ys _;split at h
   ·rename_i b hb;injection h with h
    subst h;obtain⟨ks,k1,k2,k3,k4,k5,k6⟩:=Qif hb;obtain⟨l1,m1,n1⟩:=Qdd hs hx;obtain⟨l2,m2,n2⟩:=Qdd hs hy;rw[Qcw k4]at m1;rw[Qcw k5]at m2;injection m1 with m1
    injection m2 with m2
    subst m1 m2;exact⟨_,QhK ho n1 n2 k1 k2 k3 k6,rfl⟩
   ·cases h
  ·cases hk:Qdr P t with
   | false=>rw[hk]at h;cases h
   | true=>
    rw[hk]at h;injection h with h
    subst h;obtain⟨te,ht⟩:=Qes hk;exact⟨_,QhI ho (Qk hs hx rfl) (Qk hs hy rfl) ht,rfl⟩
  ·cases hk:Qdr P t with
   | false=>rw[hk]at h;cases h
   | true=>
    rw[hk]at h;injection h with h
    subst h;obtain⟨te,ht⟩:=Qes hk;obtain⟨b9,d9,_,hx'⟩:=Qeg hs hx;exact⟨_,QhI ho hx' (Qk hs hy rfl) ht,rfl⟩
  ·cases hk:Qdr P t with
   | false=>rw[hk]at h;cases h
   | true=>
    rw[hk]at h;injection h with h
    subst h;obtain⟨te,ht⟩:=Qes hk;exact⟨_,QcG ho (Qk hs hx rfl) (Qk hs hy rfl) ht,rfl⟩
  ·cases hk:Qdr P t with
   | false=>rw[hk]at h;cases h
   | true=>
    rw[hk]at h;injection h with h
    subst h;obtain⟨te,ht⟩:=Qes hk;obtain⟨b9,d9,_,hx'⟩:=Qeg hs hx;exact⟨_,QcG ho hx' (Qk hs hy rfl) ht,rfl⟩
  ·rename_i k x' k' y' _;cases hk:kEq k k'&& !decide (y'=0)with
   | false=>rw[hk]at h;cases h
   | true=>
    rw[hk]at h;injection h with h
    subst h;simp only[Bool.and_eq_true,Bool.not_eq_true',decide_eq_false_iff_not]at hk;obtain rfl:=QcK hk.1;exact⟨_,Qub ho (Qk hs hx rfl) (Qk hs hy rfl) hk.2,rfl⟩
  ·rename_i k x' k' y' _;cases hk:kEq k k'&& !decide (y'=0)with
   | false=>rw[hk]at h;cases h
   | true=>
    rw[hk]at h;injection h with h
    subst h;simp only[Bool.and_eq_true,Bool.not_eq_true',decide_eq_false_iff_not]at hk;obtain rfl:=QcK hk.1;exact⟨_,QwI ho (Qk hs hx rfl) (Qk hs hy rfl) hk.2,rfl⟩
  ·injection h with h
   subst h;exact⟨_,QlP ho (Qk hs hx rfl) (Qk hs hy rfl) (Int.natCast_nonneg _) _ rfl,rfl⟩
  ·injection h with h
   subst h;exact⟨_,Qqi ho (Qk hs hx rfl) (Qk hs hy rfl) (Int.natCast_nonneg _) _ rfl,rfl⟩
  ·rename_i x' y' _;cases hk:Nat.ble (x'.length+y'.length) 9223372036854775807 with
   | false=>rw[hk]at h;cases h
   | true=>
    rw[hk]at h;injection h with h
    subst h;exact⟨_,XI ho (Qk hs hx rfl) (Qk hs hy rfl) (Nat.le_of_ble_eq_true hk),rfl⟩
  ·cases h
end
end Ev
namespace Ev
open Go Go.RowKit
section
variable{ρ:Rho}
theorem QoK{v u:Value}(h:XZ ρ v=some u):QV ρ v=some u:=by
 cases v<;>first|exact h|(simp[XZ]at h)
theorem QdS{v u:Value}(h:QV ρ v=some u):Xt ρ v=some u:=by
 cases v<;>first|exact h|(simp[QV,XZ]at h)
theorem Qfg{v u:Value}(h:Xt ρ v=some u):den ρ v=some u:=by
 cases v<;>first|exact h|(simp[Xt,QV,XZ]at h)
def Qk1:Value->Bool
 | .agg _| .tuple _| .func _ _ _=>false
 | _=>true
theorem QpX{v u:Value}(h:Qk1 v=true)(e:den ρ v=some u):XZ ρ v=some u:=by
 cases v<;>first|exact e|(simp[Qk1]at h)
def lone:Value->Bool
 | .agg _| .tuple _=>false
 | _=>true
theorem Qqz{v u:Value}(h:lone v=true)(e:den ρ v=some u):QV ρ v=some u:=by
 cases v<;>first|exact e|(simp[lone]at h)
theorem QgO:∀{vs us:List Value},vs.all Qk1=true->Qu (den ρ) vs=some us->Qu (XZ ρ) vs=some us
 | [],us,_,e=>by cases e;rfl
 | v::vs,us,h,e=>by
  simp only[List.all_cons,Bool.and_eq_true]at h;simp only[Qu]at e ⊢;split at e
  ·simp_all[QpX,QgO]
  ·cases e
def Z3:Value->Bool
 | .tuple _=>false
 | _=>true
theorem Qij{v u:Value}(h:Z3 v=true)(e:den ρ v=some u):Qu (QV ρ) v.cells.toList=some u.cells.toList:=by
 have one:∀{v u:Value},v.cells= #[v]->QV ρ v=some u->u.cells= #[u]->Qu (QV ρ) v.cells.toList=some u.cells.toList:=λh1 h2 h3=>by
  rw[h1,h3];simp[Qu,h2]
 cases v with
 | tuple vs=>simp[Z3]at h
 | agg cs=>
  simp only[den,Xt]at e;split at e
  ·rename_i l hl;injection e with e
   subst e
   simpa[Value.cells]using hl
  ·cases e
 | _=>
  refine one rfl e ?_;simp only[den,Xt,QV,XZ]at e
  first
   | (injection e with e;subst e;rfl)
   | (repeat' split at e)<;>first|(injection e with e;subst e;rfl)|cases e
end
section
variable{P:Program}{o:Oper}{ρ:Rho}{L:Env}{L':Qc}
def Qb0(P:Program)(src dst:TypeId):Value->Option Value
 | .int k0 n=>match tki P src,tki P dst with
  | some k1,some k=>bif kEq k0 k1 then some (.int k (k.wrap n))else none
  | _,_=>none
 | .string s=>bif Xc P src&&Xc P dst then some (.string s)else none
 | _=>none
theorem QuA{src dst:TypeId}{x:Operand}{a v:Value}(ho:o.op=.convert src dst x)(hs:SR ρ L L')(hx:opd L x=some a)(h:Qb0 P src dst a=some v):∃u,OpP P o L' u/\den ρ v=some u:=by
 unfold Qb0 at h;split at h
 ·rename_i k0 n;split at h
  ·rename_i k1 k h1 h2;cases hk:kEq k0 k1 with
   | false=>rw[hk]at h;cases h
   | true=>
    rw[hk]at h;injection h with h
    subst h;obtain rfl:=QcK hk;exact⟨_,QW ho (Qk hs hx rfl) h1 h2,rfl⟩
  ·cases h
 ·cases hk:Xc P src&&Xc P dst with
  | false=>rw[hk]at h;cases h
  | true=>
   rw[hk]at h;injection h with h
   subst h;simp only[Bool.and_eq_true]at hk;exact⟨_,QlB ho (Qk hs hx rfl) (Yt hk.1) (Yt hk.2),rfl⟩
 ·cases h
theorem Qoi{x:Operand}{i:Nat}{vs:Array Value}{v:Value}(ho:o.op=.extract x i)(hs:SR ρ L L')(hx:opd L x=some (.tuple vs))(h:vs.toList[i]?=some v):∃u,OpP P o L' u/\den ρ v=some u:=by
 obtain⟨l,h1,h2⟩:=QnG hs hx;obtain⟨u,h3,h4⟩:=Qa6 h1 h
 grind[QaB,QbU,Qfg]
theorem QlL{f:FuncId}{first cap:Array Operand}{a b:List Value}(ho:o.op=.makeFunc (.func f) first cap)(hs:SR ρ L L')(h1:QdU L first.toList=some a)(h2:QdU L cap.toList=some b)(ha:a.all Qk1=true)(hb:b.all Qk1=true) :
  ∃u,OpP P o L' u/\den ρ (.func (.func f) a.toArray b.toArray)=some u:=by
 obtain⟨a',e1,e2⟩:=Qfa hs h1;obtain⟨b',e3,e4⟩:=Qfa hs h2;refine⟨.func (.func f) a'.toArray b'.toArray,QaB (by rw[ho];simp only[QbU,e1,e3]),?_⟩
 simp_all[den,Xt,QV,Qdo,QgO,ha]
theorem QvX{c a b:Operand}{t:Bool}{x y:Value}(ho:o.op=.pick c a b)(hs:SR ρ L L')(hc:opd L c=some (.bool t))(ha:opd L a=some x)(hb:opd L b=some y):∃u,OpP P o L' u/\den ρ (if t then x else y)=some u:=by
 obtain⟨x',e1,e2⟩:=Zh hs ha;obtain⟨y',e3,e4⟩:=Zh hs hb;refine⟨if t then x' else y',QaB (by rw[ho];simp only[QbU,Qk hs hc rfl,e1,e3,Qkm]),?_⟩
 grind
theorem QpB{x:Operand}{v:Value}(ho:o.op=.move x\/o.op=.assign x)(hs:SR ρ L L')(hx:opd L x=some v):∃u,OpP P o L' u/\den ρ v=some u:=by
 obtain⟨u,h1,h2⟩:=Zh hs hx;refine⟨u,QaB ?_,h2⟩;rcases ho with ho|ho<;>rw[ho]<;>exact h1
theorem un_R{op:UnOp}{t:TypeId}{x:Operand}{a v:Value}(ho:o.op=.unOp op t x)(hs:SR ρ L L')(hx:opd L x=some a)(h:Qe5 op a=some v):∃u,OpP P o L' u/\den ρ v=some u:=by
 have hf:flat a=true/\flat v=true:=by
  unfold Qe5 at h;split at h<;>first|(injection h with h;subst h;exact⟨rfl,rfl⟩)|cases h
 grind[QaB,QbU,Qk,Qag]
theorem QkX{x:Operand}{n i:Nat}(ho:o.op=.nilCheck x)(hs:SR ρ L L')(hx:opd L x=some (.pointer (some ⟨n,i,none⟩))):∃u,OpP P o L' u/\den ρ (.pointer (some ⟨n,i,none⟩))=some u:=by
 obtain⟨b,d,h1,h2⟩:=Qeg hs hx
 grind[QaB,QbU,den,Xt,QV,XZ]
theorem QkB{x:Operand}{f:FuncId}{a b:Array Value}(ho:o.op=.nilCheck x)(hs:SR ρ L L')(hx:opd L x=some (.func (.func f) a b)):∃u,OpP P o L' u/\den ρ (.func (.func f) a b)=some u:=by
 obtain⟨u,h1,h2⟩:=Zh hs hx
 grind[den,Xt,QV,Qdo,QaB,QbU]
theorem QtE{st f off ft n:Nat}{x:Operand}{cs:Array Value}{v:Value}{ag:Bool}(ho:o.op=.field st x f)(hs:SR ρ L L')(hx:opd L x=some (.agg cs))(hf:tfd P st f=some (off,ft))(hz:tsz P ft=some (n,ag))
  (h:(if ag then some (.agg (cut cs.toList off n).toArray)else cs.toList[off]?)=some v):∃u,OpP P o L' u/\den ρ v=some u:=by
 obtain⟨l,h1,h2⟩:=Qdd hs hx;cases ag with
 | true=>
  simp only[if_true,Option.some.injEq]at h;subst h;refine⟨_,Qrc ho h2 hf hz,?_⟩
  grind[den,Xt,cut,XJ,YI]
 | false=>
  have h':cs.toList[off]?=some v:=by simpa using h
  obtain⟨u,e1,e2⟩:=Qa6 h1 h'
  grind[Qjg,Qfg,QdS]
theorem Qsb{t e sz len n:Nat}{x y:Operand}{cs:Array Value}{j:Nat}{v:Value}{ag:Bool}(ho:o.op=.index t x y)(hs:SR ρ L L')(hx:opd L x=some (.agg cs))(hy:vN (opd L y)=some j)(ht:tar P t=some (len,e,sz))(hz:tsz P e=some (n,ag))(hlt:j<len)
  (h:(if ag then some (.agg (cut cs.toList (j*sz) n).toArray)else cs.toList[j*sz]?)=some v):∃u,OpP P o L' u/\den ρ v=some u:=by
 obtain⟨l,h1,h2⟩:=Qdd hs hx;obtain⟨k,hk⟩:=Zb hy;have hy':=Qk hs hk rfl;cases ag with
 | true=>
  simp only[if_true,Option.some.injEq]at h;subst h;refine⟨_,Qet ho h2 hy' ht hz j rfl hlt,?_⟩
  grind[den,Xt,cut,XJ,YI]
 | false=>
  have h':cs.toList[j*sz]?=some v:=by simpa using h
  obtain⟨u,e1,e2⟩:=Qa6 h1 h'
  grind[Qqw,Qfg,QdS]
theorem QoT{t:TypeId}{x y:Operand}{l:List UInt8}{j:Nat}(ho:o.op=.index t x y)(hs:SR ρ L L')(hx:opd L x=some (.string ⟨⟨l⟩⟩))(hy:vN (opd L y)=some j)(h:Xc P t=true)(hlt:j<l.length):∃u,OpP P o L' u/\den ρ (.int .u8 ((l.getD j 0).toNat:Int))=some u:=by
 obtain⟨k,hk⟩:=Zb hy;exact⟨_,Qy ho (Qk hs hx rfl) (Qk hs hk rfl) (Yt h) j rfl hlt,rfl⟩
def loN(L:Env):Option Operand->Option Nat
 | none=>some 0
 | some y=>vN (opd L y)
def hiN(L:Env)(n:Nat):Option Operand->Option Nat
 | none=>some n
 | some y=>vN (opd L y)
theorem Qfo{lo:Option Operand}{a:Nat}(hs:SR ρ L L')(h:loN L lo=some a):QqY L' lo a:=by
 cases lo with
 | none=>injection h with h;exact h.symm
 | some y=>
  obtain⟨k,hk⟩:=Zb h;exact⟨k,_,Qk hs hk rfl,rfl⟩
theorem QkC{hi:Option Operand}{n b:Nat}(hs:SR ρ L L')(h:hiN L n hi=some b):QsW L' hi n b:=by
 cases hi with
 | none=>injection h with h;exact h.symm
 | some y=>
  obtain⟨k,hk⟩:=Zb h;exact⟨k,_,Qk hs hk rfl,rfl⟩
theorem QpL{t:TypeId}{x:Operand}{l:List UInt8}{lo hi:Option Operand}{a b:Nat}(ho:o.op=.slice t x lo hi none)(hs:SR ρ L L')(hx:opd L x=some (.string ⟨⟨l⟩⟩))(h:Xc P t=true)(hlo:loN L lo=some a)(hhi:hiN L l.length hi=some b)(hab:a<=b)(hbl:b<=l.length) :
  ∃u,OpP P o L' u/\den ρ (.string (bs ((l.take b).drop a)))=some u:=
 ⟨_,QaT lo hi a b ho (Qk hs hx rfl) (Yt h) (Qfo hs hlo) (QkC hs hhi) hab hbl,rfl⟩
theorem QiY{b o cap i sz:Nat}(h:i<cap):Zk (some ⟨b,o,none⟩) cap i sz=some ⟨b,o+i*sz,none⟩:=by
 unfold Zk;rw[if_neg om];simp only[Option.map_some,Addr.add]
 grind
theorem QvS{b o cap sz:Nat}:Zk (some ⟨b,o,none⟩) cap 0 sz=some ⟨b,o,none⟩:=by
 unfold Zk;split
 ·rfl
 ·simp[Addr.add]
theorem Qty{t e sz by' n of l c:Nat}{x:Operand}{lo hi:Option Operand}{i j:Nat}(ho:o.op=.slice t x lo hi none)(hs:SR ρ L L')(hx:opd L x=some (.slice (some ⟨n,of,none⟩) l c))(ht:tsl P t=some (e,sz,by'))(hlo:loN L lo=some i)(hhi:hiN L l hi=some j)(hij:i<=j)(hj:j<=c)(h:i=0\/i<c) :
  ∃u,OpP P o L' u/\den ρ (.slice (some ⟨n,of+i*sz,none⟩) (j-i) (c-i))=some u:=by
 obtain⟨b,d,h1,h2⟩:=Yc hs hx;have hp:=QX lo hi i j ho h2 ht (Qfo hs hlo) (QkC hs hhi) hij om;have e:Zk (some ⟨b,of,none⟩) (c+d) i sz=some ⟨b,of+i*sz,none⟩:=by grind[QvS,QiY]
 grind[den,Xt,QV,XZ]
theorem QpD{t e sz by' n of l c:Nat}{x:Operand}{lo hi:Option Operand}(ho:o.op=.slice t x lo hi none)(hs:SR ρ L L')(hx:opd L x=some (.slice (some ⟨n,of,none⟩) l c))(ht:tsl P t=some (e,sz,by'))(hlo:loN L lo=some c)(hhi:hiN L l hi=some c) :
  ∃u,OpP P o L' u/\den ρ (.pointer (some ⟨n,of,some (c*sz)⟩))=some u:=by
 obtain⟨b,d,h1,h2⟩:=Yc hs hx;have hp:=QX lo hi c c ho h2 ht (Qfo hs hlo) (QkC hs hhi) (Nat.le_refl _) om
 grind[Zk,QiY,den,Xt,QV,XZ]
theorem QrO{t e sz by' n of l c q:Nat}{x:Operand}{lo hi:Option Operand}{i j:Nat}(ho:o.op=.slice t x lo hi none)(hs:SR ρ L L')(hx:opd L x=some (.slice (some ⟨n,of,some q⟩) l c))(ht:tsl P t=some (e,sz,by'))(hlo:loN L lo=some i)(hhi:hiN L l hi=some j)(hij:i<=j)(hj:j<=c) :
  ∃u,OpP P o L' u/\den ρ (.slice (some ⟨n,(if c=i then of else of+i*sz),some q⟩) (j-i) (c-i))=some u:=by
 obtain⟨b,d,h1,h2⟩:=YE hs hx;have hp:=QX lo hi i j ho h2 ht (Qfo hs hlo) (QkC hs hhi) hij hj
 grind[Zk,QiY,den,Xt,QV,XZ]
theorem QoY{t e sz by' l c:Nat}{x:Operand}{lo hi:Option Operand}{i j:Nat}(ho:o.op=.slice t x lo hi none)(hs:SR ρ L L')(hx:opd L x=some (.slice none l c))(ht:tsl P t=some (e,sz,by'))(hlo:loN L lo=some i)(hhi:hiN L l hi=some j)(hij:i<=j)(hj:j<=c) :
  ∃u,OpP P o L' u/\den ρ (.slice none (j-i) (c-i))=some u:=by
 have hp:=QX lo hi i j ho (Qk hs hx rfl) ht (Qfo hs hlo) (QkC hs hhi) hij hj;have e:Zk none c i sz=none:=by unfold Zk;split<;>rfl
 rw[e]at hp;exact⟨_,hp,rfl⟩
theorem Qhg{t e sz by':Nat}{x hi mx:Operand}{a:Option Addr}{n cap:Nat}(lo:Option Operand){L:Qc}{k2 k3:IntKind}(i j m:Nat)(ho:o.op=.slice t x lo (some hi) (some mx))(hx:ev L x=some (.slice a n cap))(hl:QqY L lo i)(hh:ev L hi=some (.int k2 (j:Int)))(hm:ev L mx=some (.int k3 (m:Int)))(ht:tsl P t=some (e,sz,by'))(hij:i<=j)(hjm:j<=m)(hmc:m<=cap) :
  OpP P o L (.slice (Zk a m i sz) (j-i) (m-i)):=by
 cases lo with
 | some lo=>
  obtain⟨k1,i1,h1,h2⟩:=hl
  grind[Qo2]
 | none=>
  have hi0:i=0:=hl;subst hi0;intro ρ w hρ;obtain⟨hu,inf,h1,h2,_⟩:=Xd ht;simp[execOp,ho,hρ _ _ hx,hρ _ _ hh,hρ _ _ hm,Instr.sliceAt,Instr.slice,Instr.sliceBounds,Instr.sliceBound,asIntOf,run_underlying hu,hjm,hmc,Go.sizeOf,typeInfo,h1,h2,Zk]
theorem QpA{b of m i sz:Nat}:Zk (some ⟨b,of,none⟩) m i sz=some ⟨b,(if m=i then of else of+i*sz),none⟩:=by
 by_cases h:m=i
 ·grind[Zk]
 ·rw[if_neg h];unfold Zk;rw[if_neg h];simp only[Option.map_some,Addr.add]
  grind
theorem QrJ{t e sz by' n of l c:Nat}{q:Option Nat}{x hi mx:Operand}{lo:Option Operand}{i j m:Nat}(ho:o.op=.slice t x lo (some hi) (some mx))(hs:SR ρ L L')(hx:opd L x=some (.slice (some ⟨n,of,q⟩) l c))(ht:tsl P t=some (e,sz,by'))(hlo:loN L lo=some i)(hhi:vN (opd L hi)=some j)(hmx:vN (opd L mx)=some m)(hij:i<=j)(hjm:j<=m)(hmc:m<=c) :
  ∃u,OpP P o L' u/\den ρ (.slice (some ⟨n,(if m=i then of else of+i*sz),some 0⟩) (j-i) (m-i))=some u:=by
 obtain⟨k2,hk2⟩:=Zb hhi;obtain⟨k3,hk3⟩:=Zb hmx;have g2:=Qk hs hk2 rfl;have g3:=Qk hs hk3 rfl;cases q with
 | none=>
  obtain⟨b,d,h1,h2⟩:=Yc hs hx;have hp:=Qhg lo i j m ho h2 (Qfo hs hlo) g2 g3 ht hij hjm om
  grind[QpA,den,Xt,QV,XZ]
 | some q=>
  obtain⟨b,d,h1,h2⟩:=YE hs hx;have hp:=Qhg lo i j m ho h2 (Qfo hs hlo) g2 g3 ht hij hjm hmc
  grind[QpA,den,Xt,QV,XZ]
theorem QnF{t e sz by' l c:Nat}{x hi mx:Operand}{lo:Option Operand}{i j m:Nat}(ho:o.op=.slice t x lo (some hi) (some mx))(hs:SR ρ L L')(hx:opd L x=some (.slice none l c))(ht:tsl P t=some (e,sz,by'))(hlo:loN L lo=some i)(hhi:vN (opd L hi)=some j)(hmx:vN (opd L mx)=some m)(hij:i<=j)(hjm:j<=m)(hmc:m<=c) :
  ∃u,OpP P o L' u/\den ρ (.slice none (j-i) (m-i))=some u:=by
 obtain⟨k2,hk2⟩:=Zb hhi;obtain⟨k3,hk3⟩:=Zb hmx;have hp:=Qhg lo i j m ho (Qk hs hx rfl) (Qfo hs hlo) (Qk hs hk2 rfl) (Qk hs hk3 rfl) ht hij hjm hmc;have e:Zk none m i sz=none:=by unfold Zk;split<;>rfl
 rw[e]at hp;exact⟨_,hp,rfl⟩
theorem QjY{st f off ft sz:Nat}{x:Operand}{n i:Nat}{ag:Bool}(ho:o.op=.fieldAddr st x f)(hs:SR ρ L L')(hx:opd L x=some (.pointer (some ⟨n,i,none⟩)))(hf:tfd P st f=some (off,ft))(hz:tsz P ft=some (sz,ag))(h0:Nat.blt 0 sz=true) :
  ∃u,OpP P o L' u/\den ρ (.pointer (some ⟨n,i+off,none⟩))=some u:=by
 obtain⟨b,d,h1,h2⟩:=Qeg hs hx;exact⟨_,QaR ho h2 hf hz h0,by simp only[den,Xt,QV,XZ,h1]⟩
theorem Qj9{t e sz by' n of l c j:Nat}{x y:Operand}(ho:o.op=.indexAddr t x y)(hs:SR ρ L L')(hx:opd L x=some (.slice (some ⟨n,of,none⟩) l c))(hy:vN (opd L y)=some j)(ht:tsl P t=some (e,sz,by'))(hlt:j<l) :
  ∃u,OpP P o L' u/\den ρ (.pointer (some ⟨n,of+j*sz,none⟩))=some u:=by
 obtain⟨b,d,h1,h2⟩:=Yc hs hx;obtain⟨k,hk⟩:=Zb hy;exact⟨_,Qa ho h2 (Qk hs hk rfl) ht j rfl hlt rfl,by simp only[den,Xt,QV,XZ,h1]⟩
theorem QiE{t e sz by' n of l c j q:Nat}{x y:Operand}(ho:o.op=.indexAddr t x y)(hs:SR ρ L L')(hx:opd L x=some (.slice (some ⟨n,of,some q⟩) l c))(hy:vN (opd L y)=some j)(ht:tsl P t=some (e,sz,by'))(hlt:j<l) :
  ∃u,OpP P o L' u/\den ρ (.pointer (some ⟨n,of+j*sz,none⟩))=some u:=by
 obtain⟨b,d,h1,h2⟩:=YE hs hx;obtain⟨k,hk⟩:=Zb hy;exact⟨_,Qa ho h2 (Qk hs hk rfl) ht j rfl hlt rfl,by simp only[den,Xt,QV,XZ,h1]⟩
theorem QiB{t e sz len n i j:Nat}{x y:Operand}(ho:o.op=.indexAddr t x y)(hs:SR ρ L L')(hx:opd L x=some (.pointer (some ⟨n,i,none⟩)))(hy:vN (opd L y)=some j)(ht:tar P t=some (len,e,sz))(hlt:j<len) :
  ∃u,OpP P o L' u/\den ρ (.pointer (some ⟨n,i+j*sz,none⟩))=some u:=by
 obtain⟨b,d,h1,h2⟩:=Qeg hs hx;obtain⟨k,hk⟩:=Zb hy;exact⟨_,Qfz ho h2 (Qk hs hk rfl) ht j rfl hlt,by simp only[den,Xt,QV,XZ,h1]⟩
def QdY(L:Env):List (Nat×Operand)->Option (List (Nat×Value))
 | []=>some []
 | (i,x)::r=>match opd L x,QdY L r with
  | some v,some vs=>bif Z3 v then some ((i,v)::vs)else none
  | _,_=>none
def PR(ρ:Rho):List (Nat×Value)->List (Nat×Value)->Prop
 | [],[]=>True
 | (i,v)::l,(j,u)::m=>i=j/\Z3 v=true/\den ρ v=some u/\PR ρ l m
 | _,_=>False
theorem QfD(hs:SR ρ L L'):∀{l:List (Nat×Operand)}{vs:List (Nat×Value)},QdY L l=some vs->∃us,QaX L' l=some us/\PR ρ vs us
 | [],vs,h=>by cases h;exact⟨[],rfl,trivial⟩
 | (i,x)::r,vs,h=>by
  simp only[QdY]at h;split at h
  ·rename_i v vs' h1 h2;cases hn:Z3 v with
   | false=>rw[hn]at h;cases h
   | true=>
    rw[hn]at h;injection h with h
    subst h;obtain⟨u,e1,e2⟩:=Zh hs h1;obtain⟨us,e3,e4⟩:=QfD hs h2;exact⟨(i,u)::us,by simp only[QaX,e1,e3],rfl,hn,e2,e4⟩
  ·cases h
theorem Ym:∀{vs us cs ds:List Value}(i:Nat),Qu (QV ρ) cs=some ds->Qu (QV ρ) vs=some us->Qu (QV ρ) (Qf cs i vs)=some (Qf ds i us)
 | [],us,cs,ds,i,h,e=>by cases e;exact h
 | v::vs,us,cs,ds,i,h,e=>by
  simp only[Qu]at e;split at e
  ·rename_i b m h1 h2;injection e with e
   subst e;exact Ym (i+1) (QjW i h h1) h2
  ·cases e
theorem QfT{pl:Nat->Option (Nat×Nat)}:∀{vs us:List (Nat×Value)}{cs ds rs:List Value},PR ρ vs us->Qu (QV ρ) cs=some ds->ZN pl cs vs=some rs->∃ts,ZN pl ds us=some ts/\Qu (QV ρ) rs=some ts
 | [],[],cs,ds,rs,_,h,e=>by cases e;exact⟨ds,rfl,h⟩
 | (i,v)::vs,(j,u)::us,cs,ds,rs,hp,h,e=>by
  obtain⟨rfl,h1,h2,h3⟩:=hp;have hc:=Qij h1 h2;have hl:=Q7 hc;have hl2:=Q7 h;simp only[ZN]at e ⊢;split at e
  ·cases e
  ·rename_i off size hpl;cases hb:Nat.beq v.cells.toList.length size&&Nat.ble (off+v.cells.toList.length) cs.length with
   | false=>rw[hb]at e;cases e
   | true=>
    rw[hb]at e;simp only[hl,hl2,hb];exact QfT h3 (Ym off h hc) e
 | [],_::_,_,_,_,hp,_,_=>hp.elim
 | _::_,[],_,_,_,hp,_,_=>hp.elim
def Xb(l:List Value):Bool:=l.all flat
theorem X9:∀{l:List Value},Xb l=true->Qu (QV ρ) l=some l
 | [],_=>rfl
 | v::l,h=>by
  simp only[Xb,List.all_cons,Bool.and_eq_true]at h
  have hv:QV ρ v=some v:=by
   have:=Qag h.1 ρ
   have hl:lone v=true:=by
    have h1:=h.1;unfold flat at h1
    grind[lone]
   exact Qqz hl this
  simp only[Qu,hv,X9 (l:=l) h.2]
theorem Qtp{t:TypeId}{parts:Array (Nat×Operand)}{vs:List (Nat×Value)}{pl:List (Nat×Nat)}{z cs:List Value}(ho:o.op=.build t parts)(hs:SR ρ L L')(hp:QdY L parts.toList=some vs)(hpl:YG P t=some pl)(hz:QN P t=some z)(hf:Xb z=true)
  (hc:ZN (λi=>pl[i]?) z vs=some cs):∃u,OpP P o L' u/\den ρ (.agg cs.toArray)=some u:=by
 obtain⟨us,e1,e2⟩:=QfD hs hp;obtain⟨ts,e3,e4⟩:=QfT e2 (X9 hf) hc;exact⟨_,QU ho e1 hpl hz e3,by simp only[den,Xt,List.toList_toArray,e4]⟩
theorem QoG{t e sz len:Nat}{parts:Array (Nat×Operand)}{vs:List (Nat×Value)}{z cs:List Value}(ho:o.op=.build t parts)(hs:SR ρ L L')(hp:QdY L parts.toList=some vs)(ht:tar P t=some (len,e,sz))(hz:QN P t=some z)(hf:Xb z=true)
  (hc:ZN (λi=>some (i*sz,sz)) z vs=some cs):∃u,OpP P o L' u/\den ρ (.agg cs.toArray)=some u:=by
 obtain⟨us,e1,e2⟩:=QfD hs hp;obtain⟨ts,e3,e4⟩:=QfT e2 (X9 hf) hc;exact⟨_,Qfj ho e1 ht hz e3,by simp only[den,Xt,List.toList_toArray,e4]⟩
end
end Ev
namespace Ev
inductive Tr(α:Type) where
 | lf
 | nd (l r:Tr α)
 | vd (l:Tr α) (k:Nat) (v:α) (r:Tr α)
noncomputable def QqL(f:Nat):Nat->List Bool:=
 Nat.rec (λ_=>[]) (λ_ ih k=>Bool.rec (Nat.beq (Nat.mod k 2) 0::ih (Nat.div (Nat.sub k 1) 2)) [] (Nat.beq k 0)) f
noncomputable def pth(k:Nat):List Bool:=QqL k k
def Qvd:List Bool->Nat
 | []=>0
 | b::p=>2*Qvd p+(if b then 2 else 1)
theorem QhJ:∀(f k:Nat),k<=f->Qvd (QqL f k)=k
 | 0,k,h=>by
  have:k=0:=by omega
  subst this;rfl
 | f+1,k,h=>by
  have hu:QqL (f+1) k=(Bool.rec (Nat.beq (Nat.mod k 2) 0::QqL f (Nat.div (Nat.sub k 1) 2)) [] (Nat.beq k 0):List Bool):=rfl;rw[hu];cases hk:Nat.beq k 0 with
  | true=>exact(Nat.eq_of_beq_eq_true hk).symm
  | false=>
   have h0:k≠0:=λe=>by subst e;cases hk
   have ih:=QhJ f ((k-1)/2) om;show 2*Qvd (QqL f ((k-1)/2))+(if Nat.beq (k%2) 0=true then 2 else 1)=k;rw[ih];cases hm:Nat.beq (k%2) 0 with
   | true=>
    have:=Nat.eq_of_beq_eq_true hm;simp;omega
   | false=>
    have:k%2≠0:=λe=>by rw[e]at hm;cases hm
    simp;omega
theorem Qm2{a b:Nat}(h:pth a=pth b):a=b:=by grind[QhJ,pth]
section
variable{α:Type}
noncomputable def YS(p:List Bool):Nat->Tr α->Option α:=
 List.rec (λt T=>Tr.rec none (λ_ _ _ _=>none) (λ_ k v _ _ _=>Bool.rec none (some v) (Nat.beq k t)) T)
  (λb _ ih t T=>Tr.rec none (λl r _ _=>Bool.rec (ih t l) (ih t r) b) (λl _ _ r _ _=>Bool.rec (ih t l) (ih t r) b) T) p
noncomputable def Yr(p:List Bool):Nat->α->Tr α->Tr α:=
 List.rec (λt v T=>Tr.rec (.vd .lf t v .lf) (λl r _ _=>.vd l t v r) (λl _ _ r _ _=>.vd l t v r) T)
  (λb _ ih t v T=>Tr.rec (Bool.rec (.nd (ih t v .lf) .lf) (.nd .lf (ih t v .lf)) b) (λl r _ _=>Bool.rec (.nd (ih t v l) r) (.nd l (ih t v r)) b) (λl k x r _ _=>Bool.rec (.vd (ih t v l) k x r) (.vd l k x (ih t v r)) b) T) p
noncomputable def Qhv(p:List Bool):Tr α->Tr α:=
 List.rec (λT=>Tr.rec .lf (λl r _ _=>.nd l r) (λl _ _ r _ _=>.nd l r) T)
  (λb _ ih T=>Tr.rec .lf (λl r _ _=>Bool.rec (.nd (ih l) r) (.nd l (ih r)) b) (λl k x r _ _=>Bool.rec (.vd (ih l) k x r) (.vd l k x (ih r)) b) T) p
theorem Zd{p:List Bool}{t:Nat}:YS p t (.lf:Tr α)=none:=by cases p<;>rfl
theorem ZC(d:Nat)(v:α):∀(p:List Bool)(T:Tr α),YS p d (Yr p d v T)=some v
 | [],T=>by
  have h:∀l r:Tr α,YS [] d (.vd l d v r)=some v:=λl r=>by
   show(Bool.rec none (some v) (Nat.beq d d):Option α)=some v;rw[Nat.beq_refl]
  cases T<;>exact h _ _
 | b::p,T=>by
  cases T<;>cases b<;>exact ZC d v p _
theorem Zi{t d:Nat}{v x:α}(hne:t≠d):∀(p q:List Bool)(T:Tr α),YS p t (Yr q d v T)=some x->YS p t T=some x
 | [],[],T,h=>by
  have hd:∀l r:Tr α,YS [] t (.vd l d v r)=none:=λl r=>by
   show(Bool.rec none (some v) (Nat.beq d t):Option α)=none;cases hb:Nat.beq d t with
   | true=>exact absurd (Nat.eq_of_beq_eq_true hb).symm hne
   | false=>rfl
  cases T<;>exact absurd ((hd _ _).symm.trans h) (by simp)
 | [],c::q,T,h=>by cases T<;>cases c<;>first|exact h|cases h
 | b::p,[],T,h=>by
  cases T<;>cases b<;>first
   | exact h
   | (have h':YS p t (.lf:Tr α)=some x:=h;rw[Zd]at h';cases h')
 | b::p,c::q,T,h=>by
  cases T<;>cases b<;>cases c<;>first
   | exact h
   | (have h':YS p t (Yr q d v .lf)=some x:=h;have h2:=Zi hne p q .lf h';rw[Zd]at h2;cases h2)
   | exact Zi hne p q _ h
   | (have h':YS p t (.lf:Tr α)=some x:=h;rw[Zd]at h';cases h')
theorem Qdl{t d:Nat}{v:α}(hne:t≠d):∀(p q:List Bool)(T:Tr α),p≠q->YS p t (Yr q d v T)=YS p t T
 | [],[],T,h=>absurd rfl h
 | [],c::q,T,h=>by cases T<;>cases c<;>rfl
 | b::p,[],T,h=>by
  have hl:YS p t (.lf:Tr α)=none:=Zd;cases T<;>cases b<;>first|rfl|exact hl
 | b::p,c::q,T,h=>by
  have hl:YS p t (.lf:Tr α)=none:=Zd;have ih:=λT=>Qdl (v:=v) hne p q T
  cases T<;>cases b<;>cases c<;>first
   | rfl
   | exact hl
   | exact(ih _ λe=>h (by rw[e]))
   | exact((ih .lf λe=>h (by rw[e])).trans hl)
theorem ZA(d:Nat):∀(p:List Bool)(T:Tr α),YS p d (Qhv p T)=none
 | [],T=>by cases T<;>rfl
 | b::p,T=>by cases T<;>cases b<;>first|rfl|exact ZA d p _
theorem Qgf{t:Nat}{x:α}:∀(p q:List Bool)(T:Tr α),YS p t (Qhv q T)=some x->YS p t T=some x
 | [],[],T,h=>by cases T<;>first|exact h|cases h
 | [],c::q,T,h=>by cases T<;>cases c<;>first|exact h|cases h
 | b::p,[],T,h=>by cases T<;>cases b<;>first|exact h|cases h
 | b::p,c::q,T,h=>by
  cases T<;>cases b<;>cases c<;>first
   | exact h
   | exact Qgf p q _ h
   | cases h
theorem Qdm{t:Nat}:∀(p q:List Bool)(T:Tr α),p≠q->YS p t (Qhv q T)=YS p t T
 | [],[],T,h=>absurd rfl h
 | [],c::q,T,h=>by cases T<;>cases c<;>rfl
 | b::p,[],T,h=>by cases T<;>cases b<;>rfl
 | b::p,c::q,T,h=>by
  have ih:=λT=>Qdm (t:=t) p q T
  cases T<;>cases b<;>cases c<;>first
   | rfl
   | exact(ih _ λe=>h (by rw[e]))
end
end Ev
namespace Ev
open Go Go.RowKit
structure HB where
 ty:Nat
 sz:Nat
 cs:List Value
inductive HX where
 | row (r:HB)
 | mp (ks:List Int)
abbrev Hp:=Tr HX
noncomputable def Yv(H:Hp)(n:Nat):Option HX:=YS (pth n) n H
noncomputable def YR(H:Hp)(n:Nat)(y:HX):Hp:=Yr (pth n) n y H
noncomputable def Yd(H:Hp)(n:Nat):Option HB:=match Yv H n with
 | some (.row r)=>some r
 | _=>none
noncomputable def QgJ(H:Hp)(n:Nat):Option (List Int):=match Yv H n with
 | some (.mp r)=>some r
 | _=>none
noncomputable def Yo(H:Hp)(n:Nat)(y:HB):Hp:=YR H n (.row y)
noncomputable def Qgk(H:Hp)(n:Nat):Hp:=Qhv (pth n) H
theorem QdB{H:Hp}{n:Nat}{r:HB}(h:Yd H n=some r):Yv H n=some (.row r):=by grind[Yd]
theorem Qrn{H:Hp}{n:Nat}{r:List Int}(h:QgJ H n=some r):Yv H n=some (.mp r):=by grind[QgJ]
theorem Qgz{H:Hp}{n m:Nat}{y r:HX}(h:Yv (YR H n y) m=some r):(m=n/\r=y)\/(m≠n/\Yv H m=some r):=by grind[Yv,YR,ZC,Zi]
theorem Qfn{H:Hp}{n m:Nat}{y:HX}(hm:m≠n):Yv (YR H n y) m=Yv H m:=Qdl hm _ _ _ λe=>hm (Qm2 e)
theorem Qci{H:Hp}{n m:Nat}(hm:m≠n):Yv (Qgk H n) m=Yv H m:=Qdm _ _ _ λe=>hm (Qm2 e)
theorem Qki{H:Hp}{n m:Nat}{r:HX}(h:Yv (Qgk H n) m=some r):m≠n/\Yv H m=some r:=by grind[Qgf,Yv,Qgk,ZA]
def Qdi:List (Nat×HX)->Nat->Option HX
 | [],_=>none
 | (k,x)::H,n=>bif Nat.beq k n then some x else Qdi H n
def QjT:List (Nat×HX)->Nat->HX->List (Nat×HX)
 | [],_,_=>[]
 | (k,x)::H,n,y=>bif Nat.beq k n then(k,y)::H else(k,x)::QjT H n y
def QiL:List (Nat×HX)->Nat->List (Nat×HX)
 | [],_=>[]
 | (k,x)::H,n=>bif Nat.beq k n then H else(k,x)::QiL H n
def Qe9(x:HB)(d:Nat):Prop:=d=0\/x.cs.length+d*x.sz<=maxLen*x.sz
abbrev Qkw:Int->Value:=λn=>.int .i64 n
open Classical in
noncomputable def ha(ρ:Rho)(p:Nat×HX):Option HA:=match p.2 with
 | .row x=>match ρ p.1,Qu (QV ρ) x.cs with
  | some (b,d),some us=>if Qe9 x d then some (.blk b x.ty (us.length+d*x.sz) us)else none
  | _,_=>none
 | .mp ks=>match ρ p.1 with
  | some (b,0)=>some (.mp b Qkw ks)
  | _=>none
theorem Qiw{ρ:Rho}{n:Nat}{x:HB}{A:HA}(h:ha ρ (n,.row x)=some A):∃b d us,ρ n=some (b,d)/\Qu (QV ρ) x.cs=some us/\Qe9 x d/\A=.blk b x.ty (us.length+d*x.sz) us:=by grind[ha]
theorem QmX{ρ:Rho}{n:Nat}{x:HB}{b d:Nat}{us:List Value}(h1:ρ n=some (b,d))(h2:Qu (QV ρ) x.cs=some us)(h3:Qe9 x d):ha ρ (n,.row x)=some (.blk b x.ty (us.length+d*x.sz) us):=by grind[ha]
theorem Qqv{ρ:Rho}{n:Nat}{ks:List Int}{A:HA}(h:ha ρ (n,.mp ks)=some A):∃b,ρ n=some (b,0)/\A=.mp b Qkw ks:=by grind[ha]
theorem Qpk{ρ:Rho}{p:Nat×HX}{A:HA}(h:ha ρ p=some A):∃x,ρ p.1=some x:=by
 obtain⟨n,x⟩:=p;cases x<;>grind[Qiw,ks,Qqv]
theorem QfI{ρ ρ':Rho}(h:ρ.le ρ')(p:Nat×HX)(A:HA)(e:ha ρ p=some A):ha ρ' p=some A:=by
 obtain⟨n,x⟩:=p;cases x with
 | row x=>
  obtain⟨b,d,us,h1,h2,h3,rfl⟩:=Qiw e;exact QmX (h.1 _ _ h1) (Xx (QeR h) h2) h3
 | mp ks=>
  obtain⟨b,h1,rfl⟩:=Qqv e;simp only[ha,h.1 _ _ h1]
theorem Qe8{k m:Nat}(h:m≠k):Nat.beq k m=false:=by cases hz:Nat.beq k m<;>simp_all
theorem Qi3{ρ:Rho}{n:Nat}{x:HX}:∀{H:List (Nat×HX)}{As:List HA},Qu (ha ρ) H=some As->Qdi H n=some x->∃A Rs,ha ρ (n,x)=some A/\QH As A Rs /\
  (∀(x':HX)(A':HA),ha ρ (n,x')=some A'->∃As2,Qu (ha ρ) (QjT H n x')=some As2/\(A'::Rs).Perm As2/\∀m,Qdi (QjT H n x') m=bif Nat.beq m n then some x' else Qdi H m) /\
  ∃As3,Qu (ha ρ) (QiL H n)=some As3/\Rs.Perm As3/\∀m,m≠n->Qdi (QiL H n) m=Qdi H m
 | [],As,_,h=>by cases h
 | (k,y)::H,As,e,h=>by
  simp only[Qu]at e;split at e
  ·rename_i A As' h1 h2;injection e with e
   subst e;simp only[Qdi]at h;cases hb:Nat.beq k n with
   | true=>
    rw[hb]at h;injection h with h
    subst h;have hk:=Nat.eq_of_beq_eq_true hb;subst hk;refine⟨A,As',h1,.here,λx' A' e1=>⟨_,?_,.refl _,λm=>?_⟩,As',?_,.refl _,λm hm=>?_⟩
    ·grind[QjT,Qu]
    ·grind[QjT,Qdi,Qe8]
    ·grind[QiL]
    grind[QiL,Qdi,Qe8]
   | false=>
    rw[hb]at h;obtain⟨A0,Rs,g1,g4,g5,As3,g6,g7,g8⟩:=Qi3 h2 h;refine⟨A0,A::Rs,g1,g4.there,λx' A' e1=>?_,A::As3,?_,g7.cons _,λm hm=>?_⟩
    ·obtain⟨As2,e3,e4,e5⟩:=g5 x' A' e1;refine⟨A::As2,by simp only[QjT,hb,cond_false,Qu,h1,e3],(List.Perm.swap ..).trans (e4.cons _),λm=>?_⟩;simp only[QjT,hb,cond_false,Qdi,e5];cases hq:Nat.beq k m<;>simp_all
    ·grind[QiL,Qu]
    grind[QiL,Qdi]
  ·cases e
def HM(ρ:Rho)(H:Hp)(As:List HA):Prop:=∃(G:List (Nat×HX))(Bs:List HA),(∀m r,Yv H m=some r->Qdi G m=some r)/\Qu (ha ρ) G=some Bs/\As=Bs++ρ.ex
theorem HM.mono{ρ ρ':Rho}(h:ρ.le ρ'){H:Hp}{As:List HA}:HM ρ H As->HM ρ' H As:=λ⟨G,Bs,h1,h2,h3⟩=>⟨G,Bs,h1,Xx (QfI h) h2,by rw[h.2];exact h3⟩
theorem HM.push{ρ:Rho}{H:Hp}{As:List HA}{n:Nat}{x:HX}{A:HA}(h:HM ρ H As)(hA:ha ρ (n,x)=some A):HM ρ (YR H n x) (A::As):=by
 obtain⟨G,Bs,h1,h2,h3⟩:=h;refine⟨(n,x)::G,A::Bs,λm r hm=>?_,by simp only[Qu,hA,h2],by rw[h3];rfl⟩;simp only[Qdi];rcases Qgz hm with⟨rfl,rfl⟩|⟨h3,h4⟩
 ·simp[Nat.beq_refl]
 grind[Qe8]
theorem Qvz{ρ:Rho}{n:Nat}{x:HX}{H:Hp}{As:List HA}(hH:HM ρ H As)(h:Yv H n=some x):∃A Rs,ha ρ (n,x)=some A/\QH As A Rs /\
  (∀(x':HX)(A':HA),ha ρ (n,x')=some A'->∃As2,HM ρ (YR H n x') As2/\(A'::Rs).Perm As2) /\
  ∃As3,HM ρ (Qgk H n) As3/\Rs.Perm As3:=by
 obtain⟨G,Bs,h1,h2,rfl⟩:=hH;obtain⟨A,Rs,g1,g4,g5,As3,g6,g7,g8⟩:=Qi3 h2 (h1 _ _ h);refine⟨A,Rs++ρ.ex,g1,g4.append_right _,λx' A' e1=>?_,As3++ρ.ex,⟨QiL G n,As3,λm r hm=>?_,g6,rfl⟩,g7.append_right _⟩
 ·obtain⟨As2,e3,e4,e5⟩:=g5 x' A' e1;refine⟨As2++ρ.ex,⟨QjT G n x',As2,λm r hm=>?_,e3,rfl⟩,e4.append_right _⟩;rw[e5];rcases Qgz hm with⟨rfl,rfl⟩|⟨h3,h4⟩
  ·simp[Nat.beq_refl]
  ·rw[Qe8 (Ne.symm h3)];exact h1 m r h4
 ·obtain⟨h3,h4⟩:=Qki hm;rw[g8 m h3];exact h1 m r h4
theorem X8{ρ:Rho}{n:Nat}{x:HB}{H:Hp}{As:List HA}(hH:HM ρ H As)(h:Yd H n=some x):∃b d us Rs,ρ n=some (b,d)/\Qu (QV ρ) x.cs=some us/\Qe9 x d/\QH As (.blk b x.ty (us.length+d*x.sz) us) Rs /\
  (∀(x':HB)(us':List Value),Qu (QV ρ) x'.cs=some us'->Qe9 x' d->∃As2,HM ρ (Yo H n x') As2/\(HA.blk b x'.ty (us'.length+d*x'.sz) us'::Rs).Perm As2) /\
  ∃As3,HM ρ (Qgk H n) As3/\Rs.Perm As3:=by
 obtain⟨A,Rs,g1,g4,g5,g6⟩:=Qvz hH (QdB h);obtain⟨b,d,us,e1,e2,e3,rfl⟩:=Qiw g1;exact⟨b,d,us,Rs,e1,e2,e3,g4,λx' us' f1 f2=>g5 (.row x') _ (QmX e1 f1 f2),g6⟩
theorem Qrj{ρ:Rho}{n:Nat}{ks:List Int}{H:Hp}{As:List HA}(hH:HM ρ H As)(h:QgJ H n=some ks):∃b Rs,ρ n=some (b,0)/\QH As (.mp b Qkw ks) Rs /\
  ∀ks',∃As2,HM ρ (YR H n (.mp ks')) As2/\(HA.mp b Qkw ks'::Rs).Perm As2:=by
 obtain⟨A,Rs,g1,g4,g5,g6⟩:=Qvz hH (Qrn h);obtain⟨b,e1,rfl⟩:=Qqv g1;exact⟨b,Rs,e1,g4,λks'=>g5 (.mp ks') _ (by simp only[ha,e1])⟩
def QQ(ρ:Rho)(n:Nat):Prop:=∀k,n<=k->ρ k=none
def ext(ρ:Rho)(n:Nat)(x:Nat×Nat):Rho:=⟨λk=>bif Nat.beq k n then some x else ρ k,ρ.ex⟩
theorem QbW(ρ:Rho)(n:Nat)(x:Nat×Nat):ext ρ n x n=some x:=by simp[ext,Nat.beq_refl]
theorem QgV{ρ:Rho}{n:Nat}(h:QQ ρ n)(x:Nat×Nat):ρ.le (ext ρ n x):=⟨λk y hk=>by
 unfold ext;simp only[];cases hb:Nat.beq k n with
 | true=>
  have:=Nat.eq_of_beq_eq_true hb;subst this;rw[h k (Nat.le_refl _)]at hk;cases hk
 | false=>exact hk,rfl⟩
theorem Qbc{ρ:Rho}{n:Nat}(h:QQ ρ n)(x:Nat×Nat):QQ (ext ρ n x) (n+1):=λk hk=>by
 show(bif Nat.beq k n then some x else ρ k)=none;cases hb:Nat.beq k n with
 | true=>
  have:=Nat.eq_of_beq_eq_true hb;omega
 | false=>exact h k om
def Out(w0:World)(ρ:Rho)(v:Value)(H':Hp)(n':Nat)(u:Value)(C:World->Prop):Prop:=
 ∃ρ' As',ρ.le ρ'/\QQ ρ' n'/\den ρ' v=some u/\HM ρ' H' As'/\∀w,C w->HS w0 [] As' w
def OpT(P:Program)(o:Oper)(L':Qc)(C:World->Prop)(K:Value->(World->Prop)->Prop):Prop:=
 ∃(G:Type)(V:G->Value)(F:G->Prop)(C':G->World->Prop),OpH P o L' C V F C'/\∀g,F g->K (V g) (C' g)
section
variable{P:Program}{o:Oper}{L':Qc}{w0:World}{ρ:Rho}{L:Env}{H:Hp}{n:Nat}{As:List HA}
theorem OpT.of_p{v u:Value}(h:OpP P o L' u)(hd:den ρ v=some u)(hH:HM ρ H As)(hf:QQ ρ n):OpT P o L' (HS w0 [] As) (Out w0 ρ v H n):=
 ⟨Unit,_,_,_,(h.q (HS w0 [] As)).h (HS.stab _ _ _),λ_ _=>⟨ρ,As,ρ.le_refl,hf,hd,hH,λ_ h=>h⟩⟩
theorem OpT.of_q{v u:Value}(h:OpQ P o L' (HS w0 [] As) u)(hd:den ρ v=some u)(hH:HM ρ H As)(hf:QQ ρ n):OpT P o L' (HS w0 [] As) (Out w0 ρ v H n):=
 ⟨Unit,_,_,_,h.h (HS.stab _ _ _),λ_ _=>⟨ρ,As,ρ.le_refl,hf,hd,hH,λ_ h=>h⟩⟩
theorem QbG{b d:Nat}{x:HB}{us:List Value}{v u:Value}{C:World->Prop}(hH:HM ρ H As)(hf:QQ ρ n)(hc:Qu (QV ρ) x.cs=some us)(hr:Qe9 x d)(hv:den (ext ρ n (b,d)) v=some u)(hC:∀w,C w->HS w0 [] (.blk b x.ty (us.length+d*x.sz) us::As) w):Out w0 ρ v (Yo H n x) (n+1) u C:=by
 have hle:=QgV hf (b,d);refine⟨ext ρ n (b,d),_,hle,Qbc hf _,hv,?_,hC⟩;exact(HM.mono hle hH).push (QmX (QbW ρ n (b,d)) (Xx (QeR hle) hc) hr)
theorem Qwp{t x:Nat}{m i sz:Nat}{ag:Bool}{r:HB}{v:Value}(ho:o.op=.load t (.tmp x))(hs:SR ρ L L')(hH:HM ρ H As)(hx:L x=some (.pointer (some ⟨m,i,none⟩)))(hg:Yd H m=some r)(hz:tsz P t=some (sz,ag))
  (h:(if ag then(bif Nat.ble (i+sz) r.cs.length then some (.agg (cut r.cs i sz).toArray)else none)else(bif Nat.beq sz 1 then r.cs[i]? else none))=some v):∃u,OpQ P o L' (HS w0 [] As) u/\den ρ v=some u:=by
 obtain⟨b,d,us,Rs,g1,g2,g3,g4,_,_⟩:=X8 hH hg;obtain⟨u,e1,e2⟩:=hs.get hx;simp only[den,Xt,QV,XZ,g1,Option.some.injEq]at e2;subst e2;cases ag with
 | true=>
  simp only[if_true]at h;cases hb:Nat.ble (i+sz) r.cs.length with
  | false=>rw[hb]at h;cases h
  | true=>
   rw[hb]at h;injection h with h
   subst h;refine⟨_,Xq ho e1 hz g4 (by rw[Q7 g2];exact hb),?_⟩
   grind[den,Xt,cut,XJ,YI]
 | false=>
  cases hb:Nat.beq sz 1 with
  | false=>rw[hb]at h;simp at h
  | true=>
   rw[hb]at h;have hk:=Nat.eq_of_beq_eq_true hb;subst hk;have h':r.cs[i]?=some v:=by simpa using h
   obtain⟨u,e3,e4⟩:=Qa6 g2 h'
   grind[YN,Qfg,QdS]
theorem Qqo{v u:Value}(e:XZ ρ v=some u):u.oneCell'=true:=by
 cases v<;>simp only[XZ]at e<;>first
  | (injection e with e;subst e;rfl)
  | ((repeat' split at e)<;>first|(injection e with e;subst e;rfl)|cases e)
  | cases e
theorem QoS{v u:Value}(e:QV ρ v=some u):u.oneCell'=true:=by
 cases v with
 | func f a b=>
  simp only[QV]at e;split at e
  ·injection e with e;subst e;rfl
  ·cases e
 | _=>grind[QV,Qqo]
theorem Y1{vs us:List Value}(h:Qu (QV ρ) vs=some us):us.all (·.oneCell')=true:=by
 refine List.all_eq_true.2 λu hu=>?_;obtain⟨a,_,e⟩:=Qj4 h hu;exact QoS e
theorem Qth{t x:Nat}{y:Operand}{m i sz:Nat}{ag:Bool}{r:HB}{v:Value}(ho:o.op=.store t (.tmp x) y)(hs:SR ρ L L')(hH:HM ρ H As)(hf:QQ ρ n)(hx:L x=some (.pointer (some ⟨m,i,none⟩)))(hy:opd L y=some v)(hn:Z3 v=true)(hg:Yd H m=some r)(hz:tsz P t=some (sz,ag))
  (hl:v.cells.toList.length=sz)(hr:i+sz<=r.cs.length):OpT P o L' (HS w0 [] As) (Out w0 ρ undef (Yo H m {r with cs:=Qf r.cs i v.cells.toList}) n):=by
 obtain⟨b,d,us,Rs,g1,g2,g3,g4,g5,_⟩:=X8 hH hg;obtain⟨p,e1,e2⟩:=hs.get hx;simp only[den,Xt,QV,XZ,g1,Option.some.injEq]at e2;subst e2;obtain⟨u,e3,e4⟩:=Zh hs hy;have hc:=Qij hn e4;have hlu:=Q7 hc;have hl2:=Q7 g2;have Yo:=Ym i g2 hc;obtain⟨As2,g6,g7⟩:=g5 {r with cs:=Qf r.cs i v.cells.toList} _ Yo (by unfold Qe9 at *;simpa[Qi]using g3);have hS:=X7 (w0:=w0) (M:=[]) (As:=As) (As':=.blk b r.ty (us.length+d*r.sz) (Qf us i u.cells.toList)::Rs) (tot:=us.length+d*r.sz) ho e1 e3 hz (by rw[hlu];exact hl) ⟨Rs,g4,.refl _⟩ (by rw[hl2];exact hr) (Y1 hc);refine⟨_,_,_,_,hS,λ_ _=>⟨ρ,As2,ρ.le_refl,hf,?_,g6,λw hw=>?_⟩⟩
 ·rfl
 ·have:HS w0 [] (.blk b r.ty ((Qf us i u.cells.toList).length+d*r.sz) (Qf us i u.cells.toList)::Rs) w:=by rw[Qi];exact hw
  exact this.perm g7
theorem QiM{m b d i:Nat}:den (ext ρ m (b,d)) (.pointer (some ⟨m,i,none⟩))=some (.pointer (some ⟨b,i,none⟩)):=by simp only[den,Xt,QV,XZ,QbW]
theorem QgU{m b d i l c:Nat}:den (ext ρ m (b,d)) (.slice (some ⟨m,i,none⟩) l c)=some (.slice (some ⟨b,i,none⟩) l (c+d)):=by simp only[den,Xt,QV,XZ,QbW]
theorem QsU{t:TypeId}{z:List Value}(ho:o.op=.alloc t)(hz:QN P t=some z)(hfl:Xb z=true)(hH:HM ρ H As)(hf:QQ ρ n):OpT P o L' (HS w0 [] As) (Out w0 ρ (.pointer (some ⟨n,0,none⟩)) (Yo H n ⟨t,0,z⟩) (n+1)):=
 ⟨_,_,_,_,QfL ho hz,λb _=>QbG (d:=0) hH hf (X9 hfl) (.inl rfl) QiM λw hw=>by rw[Nat.zero_mul,Nat.add_zero];exact hw⟩
theorem QwD{t:TypeId}{x:Operand}{v:Value}(ho:o.op=.box t x)(hs:SR ρ L L')(hx:opd L x=some v)(hn:Z3 v=true)(hH:HM ρ H As)(hf:QQ ρ n):OpT P o L' (HS w0 [] As) (Out w0 ρ (.pointer (some ⟨n,0,none⟩)) (Yo H n ⟨t,0,v.cells.toList⟩) (n+1)):=by
 obtain⟨u,e1,e2⟩:=Zh hs hx;exact⟨_,_,_,_,QjO ho e1,λb _=>QbG (d:=0) hH hf (Qij hn e2) (.inl rfl) QiM λw hw=>by rw[Nat.zero_mul,Nat.add_zero];exact hw⟩
theorem QiO{t e sz by' len:Nat}{parts:Array (Nat×Operand)}{vs:List (Nat×Value)}{z cs:List Value}(ho:o.op=.buildSlice t len parts)(hs:SR ρ L L')(hp:QdY L parts.toList=some vs)(ht:tsl P t=some (e,sz,by'))(hz:QN P e=some z)(hfl:Xb z=true)(hlen:Nat.ble (len*sz) 16777216=true)(h0:Nat.blt 0 (len*sz)=true)
  (hc:ZN (λi=>some (i*sz,sz)) ((List.range (len*sz)).map λi=>z.getD (i%z.length) default) vs=some cs)(hfz:Xb ((List.range (len*sz)).map λi=>z.getD (i%z.length) default)=true)(hH:HM ρ H As)(hf:QQ ρ n):OpT P o L' (HS w0 [] As) (Out w0 ρ (.slice (some ⟨n,0,none⟩) len len) (Yo H n ⟨e,sz,cs⟩) (n+1)):=by
 obtain⟨us,e1,e2⟩:=QfD hs hp;obtain⟨ts,e3,e4⟩:=QfT e2 (X9 hfz) hc;exact⟨_,_,_,_,Ql ho e1 ht hz hlen h0 e3,λb _=>QbG (d:=0) hH hf e4 (.inl rfl) (by rw[QgU];rfl) λw hw=>by rw[Nat.zero_mul,Nat.add_zero];exact hw⟩
theorem HS.own_some{w:World}{M:List Nat}{As:List HA}{b t sz n cap:Nat}{xs:List Value}(h:HS w0 M (.own (.slice (some ⟨b,0,none⟩) n cap) t sz n xs::As) w):HS w0 M (.blk b t (cap*sz) xs::As) w:=by
 refine h.turn (λc hc=>by simpa[HA.fp_own,HA.fp_blk,Value.ownBlock]using hc) λho=>?_;obtain⟨hl,⟨e,_⟩|⟨g,cap',e,h2,h3,hb⟩⟩:=ho
 ·cases e
 ·injection e with e1 e2 e3
  injection e1 with e1
  injection e1 with e1 _ _
  subst e1 e3;exact hb
theorem Qhl{t e sz by':Nat}(ho:o.op=.buildSlice t 0 #[])(ht:tsl P t=some (e,sz,by'))(hH:HM ρ H As)(hf:QQ ρ n):OpT P o L' (HS w0 [] As) (Out w0 ρ (.slice (some ⟨n,0,none⟩) 0 0) (Yo H n ⟨e,sz,[]⟩) (n+1)):=
 ⟨_,_,_,_,X3 ho ht,λb _=>QbG (d:=0) (us:=[]) hH hf rfl (.inl rfl) (by rw[QgU]) λw hw=>by have:=HS.own_some hw;simpa using this⟩
theorem Qs6{t e sz by' k n:Nat}{x y:Operand}{z:List Value}(ho:o.op=.makeSlice t x y)(hx:Gx.ev L' x=some (.int .i64 (k:Int)))(hy:Gx.ev L' y=some (.int .i64 (n:Int)))(ht:tsl P t=some (e,sz,by'))(hz:QN P e=some z)(hlen:n*by'<=281474976710656)(hn:n<=16777216)(hkn:k<=n) :
  OpH P o L' (HS w0 [] As) (λb:Nat=>.slice (some ⟨b,0,none⟩) k n) (λ_=>True) (λb=>HS w0 [] (.blk b e (n*sz) (XE z (n*sz))::As)):=by
 intro ρ w hρ hw;obtain⟨hu,inf,h1,h2,h3⟩:=Xd ht;have hsz:∀w,(Go.sizeOf e).run P w=.ok sz w:=λw=>by simp[Go.sizeOf,typeInfo,h1,h2]
 have hti:(typeInfo e).run P w=.ok inf w:=by simp[typeInfo,h1]
 obtain⟨zv,hz',hzr⟩:∃zv:Value,zv.cells.toList=z/\∀w,(zeroValue e).run P w=.ok zv w:=by
  unfold QN at hz;rw[h1]at hz;simp only[Option.bind_some]at hz;cases hzz:inf.zero with
  | none=>rw[hzz]at hz;cases hz
  | some v=>rw[hzz]at hz;simp only[Option.map_some,Option.some.injEq]at hz;exact⟨v,hz,λw=>by simp[zeroValue,typeInfo,h1,hzz]⟩
 have hwr:IntKind.i64.wrap (n:Int)=n:=IntWalk.i64_in _ ⟨om,om⟩;have hwk:IntKind.i64.wrap (k:Int)=k:=IntWalk.i64_in _ ⟨om,om⟩;have hz'':zv.cells=z.toArray:=by rw[<-hz']
 have hpr:((inf.bytes:Nat):Int)*(n:Int)<=281474976710656:=by grind
 have e2:(2:Int)^48=281474976710656:=by decide
 have d1:¬((inf.bytes:Nat):Int)*(n:Int)>2^48:=by rw[e2];omega
 have d1k:¬((inf.bytes:Nat):Int)*(k:Int)>2^48:=by
  have h8:((inf.bytes:Nat):Int)*(k:Int)<=((inf.bytes:Nat):Int)*(n:Int):=Int.mul_le_mul_of_nonneg_left om om;rw[e2];omega
 have d2:¬(n:Int)<0:=om
 have d2k:¬(k:Int)<0:=om
 have d3:¬(k:Int)>n:=om
 have hai:∀(q:Nat)w,(asInt (.int .i64 (q:Int))).run P w=.ok (q:Int) w:=λq w=>by simp[asInt,asIntOf]
 have hb:(Instr.makeSlice t (.int .i64 k) (.int .i64 n)).run P w=.ok (.slice (some ⟨w.heap.size,0,none⟩) k n) (w.alloc (.cells (XE z (n*sz)).toArray e)):=by
  unfold Instr.makeSlice;simp only[Sem.run_bind,run_underlying hu,Result.andThen_ok,hsz,hai,Sem.run_pure,hti,hwr,hwk,d1,d1k,d2,d2k,d3,decide_false,Bool.or_false,Bool.false_eq_true,if_false,run_askRoom,Int.toNat_natCast]
  by_cases h0:n*sz=0
  ·have e1:∀q:Array Value,(Array.map (λx=>q[x%q.size]!) (Array.range 0))= #[]:=λq=>Array.eq_empty_of_size_eq_zero (by simp);have e3:(XE z (n*sz)).toArray= #[]:=by rw[h0];rfl
   simp only[h0,if_true,Sem.run_bind,Sem.run_pure,Result.andThen_ok,newRow,run_newObj,World.alloc_eq,e1,e3];simp only[h0]at e3;rw[e3]
  ·simp only[if_neg h0,Sem.run_bind,hzr,Sem.run_pure,Result.andThen_ok,newRow,run_newObj,World.alloc_eq,hz''];congr 2;simp[XE,<-List.toArray_range]
 simp only[execOp,ho,Sem.run_bind,hρ _ _ hx,hρ _ _ hy,hb,Result.andThen_ok,Sem.run_pure];have h4:=hw.blk_new e (XE z (n*sz)).toArray;refine⟨w.heap.size,rfl,trivial,?_⟩
 simpa[QA]using h4
theorem QkK{t e sz by' k c:Nat}{x y:Operand}{z:List Value}(ho:o.op=.makeSlice t x y)(hs:SR ρ L L')(hx:opd L x=some (.int .i64 (k:Int)))(hy:opd L y=some (.int .i64 (c:Int)))(hkc:k<=c)(ht:tsl P t=some (e,sz,by'))(hz:QN P e=some z)(hb:c*by'<=281474976710656)(hk:c<=16777216)(hfz:Xb (XE z (c*sz))=true)(hH:HM ρ H As)(hf:QQ ρ n) :
  OpT P o L' (HS w0 [] As) (Out w0 ρ (.slice (some ⟨n,0,none⟩) k c) (Yo H n ⟨e,sz,XE z (c*sz)⟩) (n+1)):=
 ⟨_,_,_,_,Qs6 ho (Qk hs hx rfl) (Qk hs hy rfl) ht hz hb hk hkc,λb _=>QbG (d:=0) hH hf (X9 hfz) (.inl rfl) (by rw[QgU]<;>rfl) λw hw=>by rw[QA,Nat.zero_mul,Nat.add_zero];exact hw⟩
theorem Qsu{src dst e:TypeId}{x:Operand}{l:List UInt8}(ho:o.op=.convert src dst x)(hs:SR ρ L L')(hx:opd L x=some (.string ⟨⟨l⟩⟩))(h1:P.underlying src=some .string)(h2:P.underlying dst=some (.slice e))(h3:P.underlying e=some (.int .u8))(h5:e=u8T)(hl:l.length<=maxLen)(hH:HM ρ H As)(hf:QQ ρ n) :
  OpT P o L' (HS w0 [] As) (Out w0 ρ (.slice (some ⟨n,0,none⟩) l.length l.length) (Yo H n ⟨e,1,l.map λb=>.int .u8 (b.toNat:Int)⟩) (n+1)):=by
 have hfl:Xb (l.map λb=>Value.int .u8 (b.toNat:Int))=true:=by
  unfold Xb;rw[List.all_map];exact List.all_eq_true.2 λ_ _=>rfl
 refine⟨_,_,_,_,Qad ho (Qk hs hx rfl) h1 h2 h3 h5 hl,λp hp=>QbG (b:=p.1) (d:=p.2-l.length) hH hf (X9 hfl) (.inr ?_) ?_ λw hw=>?_⟩
 ·grind
 ·grind[QgU]
 grind
theorem QnB{t:TypeId}(ho:o.op=.makeMap t none)(hH:HM ρ H As)(hf:QQ ρ n):OpT P o L' (HS w0 [] As) (Out w0 ρ (.map (some n)) (YR H n (.mp [])) (n+1)):=by
 refine⟨_,_,_,_,Qbl ho Qkw,λb _=>?_⟩;have hle:=QgV hf (b,0);refine⟨ext ρ n (b,0),_,hle,Qbc hf _,?_,(HM.mono hle hH).push (A:=.mp b Qkw []) (by simp only[ha,QbW]),λw hw=>hw⟩;simp only[den,Xt,QV,XZ,QbW]
def Qiy(a:Int):List Int->Bool
 | []=>false
 | b::l=>bif decide (a=b)then true else Qiy a l
theorem Qi8(a:Int):∀l,Qiy a l=decide (a∈l)
 | []=>by simp[Qiy]
 | b::l=>by simp_all[Qiy,Qi8]
theorem QmN{x:Operand}{m:Nat}(hs:SR ρ L L')(h:opd L x=some (.map (some m))):∃b d,ρ m=some (b,d)/\ev L' x=some (.map (some b)):=by grind[Zh,den,Xt,QV,XZ]
theorem Qq3{t kt et r:Nat}{m x:Operand}{a:Int}{ks:List Int}(ho:o.op=.lookup t m x false)(hs:SR ρ L L')(hH:HM ρ H As)(hm:opd L m=some (.map (some r)))(hx:opd L x=some (.int .i64 a))(ht:P.underlying t=some (.map kt et))(hz:tzv P et=some (.bool false))(hk:tki P kt=some .i64)(hg:QgJ H r=some ks) :
  ∃u,OpQ P o L' (HS w0 [] As) u/\den ρ (.bool (Qiy a ks))=some u:=by
 obtain⟨b,Rs,g1,g2,_⟩:=Qrj hH hg;obtain⟨b',d',e1,e2⟩:=QmN hs hm;rw[g1]at e1;injection e1 with e1
 injection e1 with e1 _
 subst e1;rw[Qi8];exact⟨_,Qgu ho e2 (Qk hs hx rfl) ht hz (QfE hk) g2,by simp only[den,Xt,QV,XZ];congr⟩
theorem QjB{t kt et r:Nat}{m x y:Operand}{a:Int}{ks:List Int}(ho:o.op=.mapUpdate t m x y\/o.op=.insert t m x y)(hs:SR ρ L L')(hH:HM ρ H As)(hf:QQ ρ n)(hm:opd L m=some (.map (some r)))(hx:opd L x=some (.int .i64 a))(hy:opd L y=some (.bool true))(ht:P.underlying t=some (.map kt et))(hk:tki P kt=some .i64)(hg:QgJ H r=some ks) :
  OpT P o L' (HS w0 [] As) (Out w0 ρ (.tuple #[]) (YR H r (.mp (bif Qiy a ks then ks else ks++[a]))) n):=by
 obtain⟨b,Rs,g1,g2,g3⟩:=Qrj hH hg;obtain⟨b',d',e1,e2⟩:=QmN hs hm;rw[g1]at e1;injection e1 with e1
 injection e1 with e1 _
 subst e1;have hik:Z5 ks a=(bif Qiy a ks then ks else ks++[a]):=by grind[Z5,Qi8,ks]
 obtain⟨As2,g4,g5⟩:=g3 (Z5 ks a);rw[<-hik];exact⟨_,_,_,_,QcA (As':=.mp b Qkw (Z5 ks a)::Rs) ho e2 (Qk hs hx rfl) (Qk hs hy rfl) ht (QfE hk) ⟨Rs,g2,.refl _⟩,λ_ _=>⟨ρ,As2,ρ.le_refl,hf,rfl,g4,λw hw=>hw.perm g5⟩⟩
end
end Ev
namespace Ev
open Go Go.RowKit
noncomputable def Qlf(P:Program)(H:Hp)(xt sz:Nat):Value->Option (Nat×List Value)
 | .slice none k _=>bif Xh P xt&&Nat.beq k 0 then some (0,[])else none
 | .slice (some ⟨m,i,_⟩) k _=>bif Xh P xt then(bif Nat.beq k 0 then some (0,[])else match Yd H m with
  | some r=>bif Nat.ble (i+k*sz) r.cs.length then some (k,cut r.cs i (k*sz))else none
  | none=>none)else none
 | .pointer (some ⟨_,_,some _⟩)=>bif Xh P xt then some (0,[])else none
 | .string ⟨⟨l⟩⟩=>bif Xc P xt&&Nat.beq sz 1 then some (l.length,l.map λb=>.int .u8 (b.toNat:Int))else none
 | _=>none
structure SrcOk(P:Program)(w0:World)(As:List HA)(xt sz:Nat)(uy:Value)(m:Nat)(us:List Value):Prop where
 ty:P.underlying xt=some .string\/∃e',P.underlying xt=some (.slice e')
 lenOf:∀w,(Builtin.lenOf uy).run P w=.ok m w
 cells:∀w,HS w0 [] As w->(Builtin.firstCells sz m uy).run P w=.ok us.toArray w
 len:us.length=m*sz
theorem QwL{ρ:Rho}(l:List UInt8):Qu (QV ρ) (l.map λb=>Value.int .u8 (b.toNat:Int))=some (l.map λb=>.int .u8 (b.toNat:Int)):=X9 (by
 unfold Xb;rw[List.all_map];exact List.all_eq_true.2 λ_ _=>rfl)
section
variable{P:Program}{o:Oper}{L':Qc}{w0:World}{ρ:Rho}{L:Env}{H:Hp}{n:Nat}{As:List HA}
theorem QnI{α:Type}{c:Bool}{x a:α}(h:(bif c then some x else none)=some a):c=true/\x=a:=by grind
theorem QlY{xt sz:Nat}{y:Operand}{v:Value}{m:Nat}{cs:List Value}(hs:SR ρ L L')(hH:HM ρ H As)(hy:opd L y=some v)(h:Qlf P H xt sz v=some (m,cs)):∃uy us,ev L' y=some uy/\Qu (QV ρ) cs=some us/\SrcOk P w0 As xt sz uy m us:=by
 unfold Qlf at h;split at h
 ·rename_i k c;cases hb:Xh P xt&&Nat.beq k 0 with
  | false=>rw[hb]at h;cases h
  | true=>
   rw[hb]at h;simp only[cond_true,Option.some.injEq,Prod.mk.injEq]at h;obtain⟨rfl,rfl⟩:=h;simp only[Bool.and_eq_true]at hb;have hk:=Nat.eq_of_beq_eq_true hb.2;subst hk;exact⟨_,[],Qk hs hy rfl,rfl,.inr (X0 hb.1),λ_=>rfl,λw _=>Ys (news:=[]) (by simp) λh=>absurd rfl h,by simp⟩
 ·rename_i m2 i q k c;cases hb:Xh P xt with
  | false=>rw[hb]at h;cases h
  | true=>
   rw[hb]at h;simp only[cond_true]at h
   have hev:∃b c',ρ m2=some b/\ev L' y=some (.slice (some ⟨b.1,i,none⟩) k c'):=by
    cases q with
    | none=>
     obtain⟨b,d,h1,h2⟩:=Yc hs hy
     simp_all
    | some q=>
     obtain⟨b,d,h1,h2⟩:=YE hs hy
     simp_all
   obtain⟨⟨b,d⟩,c',h1,h2⟩:=hev;cases hk:Nat.beq k 0 with
   | true=>
    rw[hk]at h;simp only[cond_true,Option.some.injEq,Prod.mk.injEq]at h;obtain⟨rfl,rfl⟩:=h;have hk:=Nat.eq_of_beq_eq_true hk;subst hk;exact⟨_,[],h2,rfl,.inr (X0 hb),λ_=>rfl,λw _=>Ys (news:=[]) (by simp) λh=>absurd rfl h,by simp⟩
   | false=>
    rw[hk]at h;simp only[cond_false]at h;split at h
    ·rename_i r hg;cases hl:Nat.ble (i+k*sz) r.cs.length with
     | false=>rw[hl]at h;cases h
     | true=>
      rw[hl]at h;simp only[cond_true,Option.some.injEq,Prod.mk.injEq]at h;obtain⟨rfl,rfl⟩:=h;have hl':=Nat.le_of_ble_eq_true hl;obtain⟨b9,d9,us,Rs,g1,g2,g3,g4,_,_⟩:=X8 hH hg;rw[h1]at g1;injection g1 with g1
      injection g1 with g1 g1'
      subst g1 g1';have hlu:=Q7 g2;have hcl:(cut us i (k*sz)).length=k*sz:=by simp only[cut,List.length_take,List.length_drop];omega
      exact⟨_,cut us i (k*sz),h2,XJ (k*sz) (YI i g2),.inr (X0 hb),λ_=>rfl,λw hw=>Ys hcl (Z9 i (k*sz) (λ_=>rfl) g4 w hw),hcl⟩
    ·cases h
 ·rename_i m2 i q;obtain⟨hb,h⟩:=QnI h;simp only[Prod.mk.injEq]at h;obtain⟨rfl,rfl⟩:=h;obtain⟨b,d,j,h1,h2⟩:=Qf7 hs hy;exact⟨_,[],h2,rfl,.inr (X0 hb),λ_=>rfl,λw _=>Ys (news:=[]) (by simp) λh=>absurd rfl h,by simp⟩
 ·rename_i l;cases hb:Xc P xt&&Nat.beq sz 1 with
  | false=>rw[hb]at h;cases h
  | true=>
   rw[hb]at h;simp only[cond_true,Option.some.injEq,Prod.mk.injEq]at h;obtain⟨rfl,rfl⟩:=h;simp only[Bool.and_eq_true]at hb;have hk:=Nat.eq_of_beq_eq_true hb.2;subst hk;refine⟨.string (bs l),_,Qk hs hy rfl,QwL l,.inl (Yt hb.1),λ_=>rfl,λw _=>?_,by simp⟩;have hx:(bs l).extract 0 l.length=bs l:=(Ql4 _).trans (congrArg bs (by rw[Lib.extract_data];simp));simp only[Builtin.firstCells,hx,Sem.run_pure];congr 1;simp[bs]
 ·cases h
theorem Qno{t xt e sz by' k c m p:Nat}{s y:Operand}{r:HB}{vy:Value}{cs:List Value}{q:Option Nat}(ho:o.op=.call {callee:=.builtin .append,args:=#[s,y],argTypes:=#[t,xt]})(hs:SR ρ L L')(hH:HM ρ H As)(hf:QQ ρ n)(hx:opd L s=some (.slice (some ⟨p,0,q⟩) k c))(hy:opd L y=some vy)(ht:tsl P t=some (e,sz,by'))
  (hsrc:Qlf P H xt sz vy=some (m,cs))(hg:Yd H p=some r)(hfit:k+m<=c)(hr:k*sz+cs.length<=r.cs.length):OpT P o L' (HS w0 [] As) (Out w0 ρ (.slice (some ⟨p,0,q⟩) (k+m) c) (Yo H p {r with cs:=Qf r.cs (k*sz) cs}) n):=by
 obtain⟨uy,us,h1,h2,h3⟩:=QlY (w0:=w0) hs hH hy hsrc;obtain⟨b,d,rs,Rs,g1,g2,g3,g4,g5,_⟩:=X8 hH hg;have Yo:=Ym (k*sz) g2 h2;obtain⟨As2,g6,g7⟩:=g5 {r with cs:=Qf r.cs (k*sz) cs} _ Yo (by unfold Qe9 at *;simpa[Qi]using g3);have hev:∃c',c<=c'/\ev L' s=some (.slice (some ⟨b,0,none⟩) k c')/\den ρ (.slice (some ⟨p,0,q⟩) (k+m) c)=some (.slice (some ⟨b,0,none⟩) (k+m) c'):=by cases q<;>grind[Yc,den,Xt,QV,XZ,YE]
 obtain⟨c',hc,e1,e2⟩:=hev;have hlr:=Q7 g2;have hlu:=Q7 h2;refine⟨Unit,λ_=>.slice (some ⟨b,0,none⟩) (k+m) c',λ_=>True,λ_=>HS w0 [] (.blk b r.ty (rs.length+d*r.sz) (Qf rs (k*sz) us)::Rs),?_,λ_ _=>⟨ρ,As2,ρ.le_refl,hf,e2,g6,λw hw=>?_⟩⟩
 ·intro a w hρ hw;obtain⟨hu,inf,hi,hs1,hs2⟩:=Xd ht;subst hs1;have hpk:=hw.pick g4;obtain⟨w',hst,hb,r1,r2,r3,r4,r5⟩:=Yb (P:=P) us 0 rs w hpk.head (by rw[Nat.add_zero,hlr,hlu];exact hr) (λu hu=>List.all_eq_true.1 (Y1 h2) u hu) (i:=k*inf.size);have he:=Qju (P:=P) (ty:=o.type) (x:=uy) (w':=w') (g:=b) (n:=k) (m:=m) (cap:=c') (t:=t) (xt:=xt) hu h3.ty hi (h3.lenOf w) (h3.cells w hw) (by rw[XC,Nat.zero_add];exact hst) om;simp only[execOp,ho,resolve,Sem.run_bind,Sem.run_pure,Result.andThen_ok,invoke,builtin,List.map_toArray,List.map_cons,List.map_nil,hρ _ _ e1,hρ _ _ h1,he];exact⟨(),rfl,trivial,HS.swap hpk (B:=.blk b r.ty (rs.length+d*r.sz) (Qf rs (k*inf.size) us)) (λ_ h=>h) r1 r2 r3 r4 (λk hk=>r5 k (by simpa[HA.fp_blk]using hk)) (show Q0 b _ _ (Qf rs (k*inf.size) us) w' by simpa using hb)⟩
 ·have:HS w0 [] (.blk b r.ty ((Qf rs (k*sz) us).length+d*r.sz) (Qf rs (k*sz) us)::Rs) w:=by rw[Qi];exact hw
  exact this.perm g7
theorem Qfl{t xt e sz by' k m:Nat}{s y:Operand}{v uy:Value}{z xs us:List Value}{Rs:List HA}(ho:o.op=.call {callee:=.builtin .append,args:=#[s,y],argTypes:=#[t,xt]})(hv:ev L' s=some v)(hy:ev L' y=some uy)(ht:tsl P t=some (e,sz,by'))(hz:QN P e=some z)(hzs:z.length=sz)
  (hcls:∀w,HS w0 [] As w->HS w0 [] (.own v e sz k xs::Rs) w)(h3:SrcOk P w0 As xt sz uy m us)(h1:us.all (·.oneCell')=true)(hroom:(k+m)*by'<=140737488355328)(hmax:k+m<=maxLen)(hpos:0<k+m) :
  OpH P o L' (HS w0 [] As) (λg:Nat×Nat=>.slice (some ⟨g.1,0,none⟩) (k+m) g.2) (λg=>k+m<=g.2/\g.2<=maxLen/\(xs++us).length=(k+m)*sz) (λg=>HS w0 [] (.blk g.1 e (g.2*sz) (xs++us)::Rs)):=by
 intro a w hρ hw;obtain⟨v',w',hr,hw'⟩:=QgZ (P:=P) (ty:=o.type) ht h3.ty hz hzs (hcls w hw) .here (x:=uy) (h3.lenOf w) (h3.cells w hw) (h3.cells _ hw.drew) h3.len (λu hu=>List.all_eq_true.1 h1 u hu) hroom hmax;simp only[execOp,ho,resolve,Sem.run_bind,Sem.run_pure,Result.andThen_ok,invoke,builtin,List.map_toArray,List.map_cons,List.map_nil,hρ _ _ hv,hρ _ _ hy,hr];obtain⟨a',cap',rfl,_⟩:=hw'.head.form;obtain⟨g,rfl,_,h4,h5,h6,h7⟩:=hw'.own_blk hpos .here;exact⟨(g,cap'),rfl,⟨h4,h5,h6⟩,h7⟩
theorem Qem{Rs:List HA}{H':Hp}{e sz k m:Nat}{cs xs:List Value}{g:Nat×Nat}(hH:∃As3,HM ρ H' As3/\Rs.Perm As3)(hf:QQ ρ n)(hc:Qu (QV ρ) cs=some xs)(h1:k+m<=g.2)(h2:g.2<=maxLen)(h3:xs.length=(k+m)*sz) :
  Out w0 ρ (.slice (some ⟨n,0,none⟩) (k+m) (k+m)) (Yo H' n ⟨e,sz,cs⟩) (n+1) (.slice (some ⟨g.1,0,none⟩) (k+m) g.2) (HS w0 [] (.blk g.1 e (g.2*sz) xs::Rs)):=by
 obtain⟨As3,h4,h5⟩:=hH;have hl:=Q7 hc;have hsum:(k+m)*sz+(g.2-(k+m))*sz=g.2*sz:=by rw[<-Nat.add_mul];congr 1;omega
 refine QbG (b:=g.1) (d:=g.2-(k+m)) h4 hf hc (.inr ?_) (by rw[QgU,show k+m+(g.2-(k+m))=g.2 by omega]) λw hw=>?_
 ·simp only[];rw[<-hl,h3,hsum];exact Nat.mul_le_mul_right _ h2
 ·simp only[];rw[h3,hsum];exact hw.perm (h5.cons _)
theorem QnL{t xt e sz by' k c m p:Nat}{s y:Operand}{r:HB}{vy:Value}{z cs:List Value}(ho:o.op=.call {callee:=.builtin .append,args:=#[s,y],argTypes:=#[t,xt]})(hs:SR ρ L L')(hH:HM ρ H As)(hf:QQ ρ n)(hx:opd L s=some (.slice (some ⟨p,0,none⟩) k c))(hy:opd L y=some vy)(ht:tsl P t=some (e,sz,by'))(hz:QN P e=some z)(hzs:z.length=sz)
  (hsrc:Qlf P H xt sz vy=some (m,cs))(hg:Yd H p=some r)(hty:r.ty=e)(hsz:r.sz=sz)(hlen:r.cs.length=c*sz)(hsz0:0<sz)(hkc:k<=c)(hcm:c<=maxLen)(hroom:(k+m)*by'<=140737488355328)(hmax:k+m<=maxLen)(hpos:0<k+m) :
  OpT P o L' (HS w0 [] As) (Out w0 ρ (.slice (some ⟨n,0,none⟩) (k+m) (k+m)) (Yo (Qgk H p) n ⟨e,sz,r.cs.take (k*sz)++cs⟩) (n+1)):=by
 obtain⟨uy,us,h1,h2,h3⟩:=QlY (w0:=w0) hs hH hy hsrc;obtain⟨b,d,rs,Rs,g1,g2,g3,g4,_,g6⟩:=X8 hH hg;obtain⟨b9,d9,e1,e2⟩:=Yc hs hx;rw[g1]at e1;injection e1 with e1
 injection e1 with e1 e3
 subst e1 e3;have hlr:=Q7 g2
 have hcd:c+d<=maxLen:=by
  unfold Qe9 at g3;rcases g3 with g3|g3
  ·omega
  ·rw[hlen,hsz,<-Nat.add_mul]at g3;exact Nat.le_of_mul_le_mul_right g3 hsz0
 have htot:rs.length+d*r.sz=(c+d)*sz:=by rw[hlr,hlen,hsz,Nat.add_mul]
 rw[hty,htot]at g4;have hH4:=Qfl (w0:=w0) (As:=As) (xs:=rs.take (k*sz)) (Rs:=Rs) (k:=k) ho e2 h1 ht hz hzs (λw hw=>HS.to_own g4 hw (List.take_append_drop (k*sz) rs).symm (by rw[List.length_take,hlr,hlen];exact Nat.min_eq_left (Nat.mul_le_mul_right _ hkc)) om hcd) h3 (Y1 h2) hroom hmax hpos;exact⟨_,_,_,_,hH4,λg hg4=>Qem g6 hf (Za (XJ (k*sz) g2) h2) hg4.1 hg4.2.1 hg4.2.2⟩
theorem QnQ{t xt e sz by' m:Nat}{s y:Operand}{vy:Value}{z cs:List Value}(ho:o.op=.call {callee:=.builtin .append,args:=#[s,y],argTypes:=#[t,xt]})(hs:SR ρ L L')(hH:HM ρ H As)(hf:QQ ρ n)(hx:opd L s=some (.slice none 0 0))(hy:opd L y=some vy)(ht:tsl P t=some (e,sz,by'))(hz:QN P e=some z)(hzs:z.length=sz)
  (hsrc:Qlf P H xt sz vy=some (m,cs))(hroom:(0+m)*by'<=140737488355328)(hmax:0+m<=maxLen)(hpos:0<0+m) :
  OpT P o L' (HS w0 [] As) (Out w0 ρ (.slice (some ⟨n,0,none⟩) (0+m) (0+m)) (Yo H n ⟨e,sz,[]++cs⟩) (n+1)):=by
 obtain⟨uy,us,h1,h2,h3⟩:=QlY (w0:=w0) hs hH hy hsrc;have hH4:=Qfl (w0:=w0) (As:=As) (xs:=[]) (Rs:=As) (k:=0) ho (Qk hs hx rfl) h1 ht hz hzs (λw hw=>hw.own_nil e sz) h3 (Y1 h2) hroom hmax hpos;exact⟨_,_,_,_,hH4,λg hg4=>Qem ⟨As,hH,.refl _⟩ hf (Za (by rfl) h2) hg4.1 hg4.2.1 hg4.2.2⟩
theorem Qnt{t xt e sz by':Nat}{s y:Operand}{vy:Value}{cs:List Value}(ho:o.op=.call {callee:=.builtin .append,args:=#[s,y],argTypes:=#[t,xt]})(hs:SR ρ L L')(hH:HM ρ H As)(hf:QQ ρ n)(hx:opd L s=some (.slice none 0 0))(hy:opd L y=some vy)(ht:tsl P t=some (e,sz,by'))
  (hsrc:Qlf P H xt sz vy=some (0,cs)):OpT P o L' (HS w0 [] As) (Out w0 ρ (.slice none 0 0) H n):=by
 obtain⟨uy,us,h1,h2,h3⟩:=QlY (w0:=w0) hs hH hy hsrc;refine⟨Unit,λ_=>.slice none 0 0,λ_=>True,λ_=>HS w0 [] As,?_,λ_ _=>⟨ρ,As,ρ.le_refl,hf,rfl,hH,λ_ h=>h⟩⟩;intro a w hρ hw;obtain⟨hu,inf,hi,hs1,hs2⟩:=Xd ht;subst hs1;have hu0:us=[]:=List.eq_nil_of_length_eq_zero (by have:=h3.len;omega);subst hu0;have he:=QjF (P:=P) (ty:=o.type) (t:=t) (xt:=xt) (x:=uy) (w:=w) hu h3.ty hi (h3.lenOf w) (h3.cells w hw);simp only[execOp,ho,resolve,Sem.run_bind,Sem.run_pure,Result.andThen_ok,invoke,builtin,List.map_toArray,List.map_cons,List.map_nil,hρ _ _ (Qk hs hx rfl),hρ _ _ h1,he];exact⟨(),rfl,trivial,hw⟩
end
end Ev
namespace Ev
open Go Go.RowKit
section
variable{P:Program}{o:Oper}{L':Qc}{w0:World}{ρ:Rho}{L:Env}{H:Hp}{n:Nat}{As:List HA}
theorem Qo0{cs us:List Value}(h:Xb cs=true)(e:Qu (QV ρ) cs=some us):us=cs:=by grind[X9]
theorem Qfb{x:Operand}{p i l c:Nat}{q:Option Nat}(hs:SR ρ L L')(h:opd L x=some (.slice (some ⟨p,i,q⟩) l c)):∃b d c',ρ p=some (b,d)/\ev L' x=some (.slice (some ⟨b,i,none⟩) l c'):=by cases q<;>grind[Yc,YE]
theorem Qng{src dst e p i k c:Nat}{x:Operand}{q:Option Nat}{r:HB}(ho:o.op=.convert src dst x)(hs:SR ρ L L')(hH:HM ρ H As)(hx:opd L x=some (.slice (some ⟨p,i,q⟩) k c))(h1:P.underlying src=some (.slice e))(h2:Xc P dst=true)(h3:P.underlying e=some (.int .u8))(hg:Yd H p=some r)(hl:i+k<=r.cs.length)
  (h8:(cut r.cs i k).all Qi2=true)(hf:Xb (cut r.cs i k)=true):∃u,OpQ P o L' (HS w0 [] As) u/\den ρ (.string (bs ((cut r.cs i k).map vByte)))=some u:=by
 obtain⟨b,d,us,Rs,g1,g2,g3,g4,_,_⟩:=X8 hH hg;obtain⟨b9,d9,c',e1,e2⟩:=Qfb hs hx;rw[g1]at e1;injection e1 with e1
 injection e1 with e1 e3
 subst e1 e3;have hc:Qu (QV ρ) (cut r.cs i k)=some (cut us i k):=XJ k (YI i g2);have he:=Qo0 hf hc;have hlen:(cut r.cs i k).length=k:=by simp only[cut,List.length_take,List.length_drop];omega
 refine⟨_,?_,rfl⟩;intro a w hρ hw
 have hr:(convert src dst (.slice (some ⟨b,i,none⟩) (cut r.cs i k).length c')).run P w=.ok (.string (bs ((cut r.cs i k).map vByte))) w:=
  YA h1 (Yt h2) h3 (λv hv=>List.all_eq_true.1 h8 v hv) (by rw[<-he];exact Z9 i k (λ_=>rfl) g4 w hw)
 rw[hlen]at hr;simp only[execOp,ho,Sem.run_bind,hρ _ _ e2,hr,Result.andThen_ok,Sem.run_pure];exact⟨rfl,Below.refl _ _⟩
theorem Qog{src dst e k c:Nat}{x:Operand}(ho:o.op=.convert src dst x)(hs:SR ρ L L')(hx:opd L x=some (.slice none 0 c))(h1:P.underlying src=some (.slice e))(h2:Xc P dst=true)(h3:P.underlying e=some (.int .u8)):∃u,OpQ P o L' (HS w0 [] As) u/\den ρ (.string (bs []))=some u:=by
 refine⟨_,?_,rfl⟩;intro a w hρ hw
 have hr:(convert src dst (.slice none ([]:List Value).length c)).run P w=.ok (.string (bs (([]:List Value).map vByte))) w:=
  YA h1 (Yt h2) h3 (λv hv=>by cases hv) (λh=>absurd rfl h)
 simp only[execOp,ho,Sem.run_bind,hρ _ _ (Qk hs hx rfl),show(0:Nat)=([]:List Value).length from rfl,hr,Result.andThen_ok,Sem.run_pure];exact⟨rfl,Below.refl _ _⟩
theorem Qoc{src dst e p i q:Nat}{x:Operand}(ho:o.op=.convert src dst x)(hs:SR ρ L L')(hx:opd L x=some (.pointer (some ⟨p,i,some q⟩)))(h1:P.underlying src=some (.slice e))(h2:Xc P dst=true)(h3:P.underlying e=some (.int .u8)):∃u,OpQ P o L' (HS w0 [] As) u/\den ρ (.string (bs []))=some u:=by
 obtain⟨b,d,j,_,h4⟩:=Qf7 hs hx;exact⟨_,QqC [] ho h4 h1 (Yt h2) h3 rfl (λ_ _ h=>absurd h (Nat.lt_irrefl 0)),rfl⟩
theorem QnC{t xt e sz by' m:Nat}{s y:Operand}{z:List Value}(ho:o.op=.call {callee:=.builtin .append,args:=#[s,y],argTypes:=#[t,xt]})(hs:SR ρ L L')(hH:HM ρ H As)(hf:QQ ρ n)(hx:opd L s=some (.slice none 0 0))(hy:opd L y=some (.int .i64 (m:Int)))(hk:tki P xt=some .i64)(ht:tsl P t=some (e,sz,by'))(hz:QN P e=some z)(hzs:z.length=sz)(hsz:0<sz)
  (hfz:Xb (XE z (m*sz))=true)(hroom:(0+m)*by'<=140737488355328)(hmax:0+m<=maxLen)(hpos:0<m):OpT P o L' (HS w0 [] As) (Out w0 ρ (.slice (some ⟨n,0,none⟩) (0+m) (0+m)) (Yo H n ⟨e,sz,[]++XE z (m*sz)⟩) (n+1)):=by
 exact⟨_,_,_,_,Qaz (olds:=[]) ho (Qk hs hx rfl) (Qk hs hy rfl) ht hk hz hzs hsz hpos om (λw _ h=>absurd rfl h) (by simp) hroom hmax,λg hg=>Qem ⟨As,hH,.refl _⟩ hf (Za (by rfl) (X9 hfz)) hg.1 hg.2 (by rw[List.nil_append,QA,Nat.zero_add])⟩
theorem QvI{dt st e sz by' p i k c p2 i2 k2 c2:Nat}{d s:Operand}{q q2:Option Nat}{r r2:HB}(ho:o.op=.call {callee:=.builtin .copy,args:=#[d,s],argTypes:=#[dt,st]})(hs:SR ρ L L')(hH:HM ρ H As)(hf:QQ ρ n)(hd:opd L d=some (.slice (some ⟨p,i,q⟩) k c))(hx:opd L s=some (.slice (some ⟨p2,i2,q2⟩) k2 c2))(ht:tsl P dt=some (e,sz,by'))
  (hg:Yd H p=some r)(hg2:Yd H p2=some r2)(hl:i+min k2 k*sz<=r.cs.length)(hl2:i2+min k2 k*sz<=r2.cs.length):OpT P o L' (HS w0 [] As) (Out w0 ρ (.int .i64 ((min k2 k:Nat):Int)) (Yo H p {r with cs:=Qf r.cs i (cut r2.cs i2 (min k2 k*sz))}) n):=by
 obtain⟨b,dd,us,Rs,g1,g2,g3,g4,g5,_⟩:=X8 hH hg;obtain⟨b2,dd2,us2,Rs2,m1,m2,m3,m4,_,_⟩:=X8 hH hg2;obtain⟨b9,d9,c',e1,e2⟩:=Qfb hs hd;rw[g1]at e1;injection e1 with e1
 injection e1 with e1 e3
 subst e1 e3;obtain⟨b8,d8,c8,f1,f2⟩:=Qfb hs hx;rw[m1]at f1;injection f1 with f1
 injection f1 with f1 f3
 subst f1 f3;have hc:Qu (QV ρ) (cut r2.cs i2 (min k2 k*sz))=some (cut us2 i2 (min k2 k*sz)):=XJ _ (YI i2 m2);have hlu:=Q7 g2;have hlu2:=Q7 m2;have hcl:(cut us2 i2 (min k2 k*sz)).length=min k2 k*sz:=by simp only[cut,List.length_take,List.length_drop];omega
 obtain⟨As2,g6,g7⟩:=g5 {r with cs:=Qf r.cs i (cut r2.cs i2 (min k2 k*sz))} _ (Ym i g2 hc) (by unfold Qe9 at *;simpa[Qi]using g3);have hS:=QbQ (w0:=w0) (M:=[]) (As:=As) (As':=.blk b r.ty (us.length+dd*r.sz) (Qf us i (cut us2 i2 (min k2 k*sz)))::Rs) (min k2 k) (cut us2 i2 (min k2 k*sz)) ho e2 f2 ht ⟨Rs,g4,.refl _⟩ rfl hcl (λ_=>rfl) (by rw[hcl,hlu];exact hl) (Z9 i2 _ (λ_=>rfl) m4) (λu hu=>List.all_eq_true.1 (Y1 hc) u hu);refine⟨_,_,_,_,hS,λ_ _=>⟨ρ,As2,ρ.le_refl,hf,rfl,g6,λw hw=>?_⟩⟩;have:HS w0 [] (.blk b r.ty ((Qf us i (cut us2 i2 (min k2 k*sz))).length+dd*r.sz) (Qf us i (cut us2 i2 (min k2 k*sz)))::Rs) w:=by rw[Qi];exact hw
 exact this.perm g7
theorem QsO{src e p i k c:Nat}{x:Operand}{r:HB}(ho:o.op=.convert src src x)(hs:SR ρ L L')(hH:HM ρ H As)(hf:QQ ρ n)(hx:opd L x=some (.slice (some ⟨p,i,none⟩) k c))(h1:P.underlying src=some (.slice e))(h3:P.underlying e=some (.int .u8))(hg:Yd H p=some r)(ht:r.ty=u8T) :
  OpT P o L' (HS w0 [] As) (Out w0 ρ (.slice (some ⟨p,i,none⟩) k c) H n):=by
 obtain⟨b,dd,us,Rs,g1,g2,g3,g4,g5,_⟩:=X8 hH hg;obtain⟨b9,d9,e1,e2⟩:=Yc hs hx;rw[g1]at e1;injection e1 with e1
 injection e1 with e1 e3
 subst e1 e3;rw[ht]at g4;have hS:=Qli (w0:=w0) (M:=[]) (As:=As) (As':=.blk b u8T (us.length+dd*r.sz) us::Rs) ho e2 h1 h3 ⟨Rs,g4,.refl _⟩;refine⟨_,_,_,_,hS,λ_ _=>⟨ρ,As,ρ.le_refl,hf,?_,hH,λw hw=>hw.perm g4.symm⟩⟩;simp only[den,Xt,QV,XZ,g1]
theorem QtD{dt st e by' m cd b tot i:Nat}{d s:Operand}{bt:TypeId}{cs news:List Value}{l:List UInt8}{As As':List HA}(k:Nat)(ho:o.op=.call {callee:=.builtin .copy,args:=#[d,s],argTypes:=#[dt,st]})(hd:Gx.ev L' d=some (.slice (some ⟨b,i,none⟩) m cd))(hx:Gx.ev L' s=some (.string (bs l)))(ht:tsl P dt=some (e,1,by'))
  (hnw:news=(l.take k).map λb=>Value.int .u8 (b.toNat:Int))(hp:Put As (.blk b bt tot cs) (.blk b bt tot (Qf cs i news)) As')(hk:min l.length m=k)(hr:i+k<=cs.length) :
  OpH P o L' (HS w0 [] As) (λ_:Unit=>.int .i64 (k:Int)) (λ_=>True) (λ_=>HS w0 [] As'):=by
 intro ρ w hρ hw;obtain⟨hu,inf,hi,hs1,hs2⟩:=Xd ht;have hl:news.length=k:=by rw[hnw,List.length_map,List.length_take];omega
 have hsz:(Go.sizeOf e).run P w=.ok 1 w:=by simp[Go.sizeOf,typeInfo,hi,hs1]
 have hfc:(Builtin.firstCells 1 k (.string (bs l))).run P w=.ok news.toArray w:=by
  have hx:(bs l).extract 0 k=bs (l.take k):=(Ql4 _).trans (congrArg bs (by rw[Lib.extract_data];simp));simp only[Builtin.firstCells,hx,Sem.run_pure,hnw];congr 1;simp[bs]
 have hbl:(bs l).size=l.length:=rfl;have hk':Nat.min l.length m=k:=hk;obtain⟨Rs,h3,h4⟩:=hp.ex;have hpk:=hw.pick h3;obtain⟨w',hst,hb,r1,r2,r3,r4,r5⟩:=Yb (P:=P) news 0 cs w hpk.head (by simpa[hl]using hr) (λu hu=>by rw[hnw]at hu;obtain⟨b,_,rfl⟩:=List.mem_map.1 hu;rfl) (i:=i)
 have he:(Builtin.copy_ #[dt,st] o.type #[.slice (some ⟨b,i,none⟩) m cd,.string (bs l)]).run P w=.ok (.int .i64 (k:Int)) w':=by
  unfold Builtin.copy_;simp[run_underlying hu,Builtin.lenOf,hbl,hk',hsz,hfc,goInt,hst]
 simp only[execOp,ho,resolve,Sem.run_bind,Sem.run_pure,Result.andThen_ok,invoke,builtin,List.map_toArray,List.map_cons,List.map_nil,hρ _ _ hd,hρ _ _ hx,he];exact⟨(),rfl,trivial,(HS.swap hpk (B:=.blk b bt tot (Qf cs i news)) (λ_ h=>h) r1 r2 r3 r4 (λk hk=>r5 k (by simpa[HA.fp_blk]using hk)) (show Q0 b bt tot (Qf cs i news) w' by simpa using hb)).perm h4⟩
theorem QsR{dt st e by' p i k c:Nat}{d s:Operand}{q:Option Nat}{r:HB}{l:List UInt8}(ho:o.op=.call {callee:=.builtin .copy,args:=#[d,s],argTypes:=#[dt,st]})(hs:SR ρ L L')(hH:HM ρ H As)(hf:QQ ρ n)(hd:opd L d=some (.slice (some ⟨p,i,q⟩) k c))(hx:opd L s=some (.string (bs l)))(ht:tsl P dt=some (e,1,by'))
  (hg:Yd H p=some r)(hl:i+min l.length k<=r.cs.length):OpT P o L' (HS w0 [] As) (Out w0 ρ (.int .i64 ((min l.length k:Nat):Int)) (Yo H p {r with cs:=Qf r.cs i ((l.take (min l.length k)).map λb=>Value.int .u8 (b.toNat:Int))}) n):=by
 obtain⟨b,dd,us,Rs,g1,g2,g3,g4,g5,_⟩:=X8 hH hg;obtain⟨b9,d9,c',e1,e2⟩:=Qfb hs hd;rw[g1]at e1;injection e1 with e1
 injection e1 with e1 e3
 subst e1 e3
 have hfl:Xb ((l.take (min l.length k)).map λb=>Value.int .u8 (b.toNat:Int))=true:=by
  unfold Xb;rw[List.all_map];exact List.all_eq_true.2 λ_ _=>rfl
 have hlu:=Q7 g2;obtain⟨As2,g6,g7⟩:=g5 {r with cs:=Qf r.cs i ((l.take (min l.length k)).map λb=>Value.int .u8 (b.toNat:Int))} _ (Ym i g2 (X9 hfl)) (by unfold Qe9 at *;simpa[Qi]using g3);have hS:=QtD (w0:=w0) (As:=As) (As':=.blk b r.ty (us.length+dd*r.sz) (Qf us i ((l.take (min l.length k)).map λb=>Value.int .u8 (b.toNat:Int)))::Rs) (min l.length k) ho e2 (Qk hs hx rfl) ht rfl ⟨Rs,g4,.refl _⟩ rfl (by rw[hlu];exact hl);refine⟨_,_,_,_,hS,λ_ _=>⟨ρ,As2,ρ.le_refl,hf,rfl,g6,λw hw=>?_⟩⟩;have:HS w0 [] (.blk b r.ty ((Qf us i ((l.take (min l.length k)).map λb=>Value.int .u8 (b.toNat:Int))).length+dd*r.sz) (Qf us i ((l.take (min l.length k)).map λb=>Value.int .u8 (b.toNat:Int)))::Rs) w:=by rw[Qi];exact hw
 exact this.perm g7
theorem Qtk{t e sz by' p i k c:Nat}{x:Operand}{q:Option Nat}{r:HB}{z:List Value}(ho:o.op=.call {callee:=.builtin .clear,args:=#[x],argTypes:=#[t]})(hs:SR ρ L L')(hH:HM ρ H As)(hf:QQ ρ n)(hx:opd L x=some (.slice (some ⟨p,i,q⟩) k c))(ht:tsl P t=some (e,sz,by'))(hz:QN P e=some z)(hzs:z.length=sz)(hz1:z.all (·.oneCell')=true)(hz0:Nat.blt 0 z.length=true)(hfz:Xb (XE z (k*sz))=true)
  (hg:Yd H p=some r)(hl:i+k*sz<=r.cs.length):OpT P o L' (HS w0 [] As) (Out w0 ρ (.tuple #[]) (Yo H p {r with cs:=Qf r.cs i (XE z (k*sz))}) n):=by
 obtain⟨b,dd,us,Rs,g1,g2,g3,g4,g5,_⟩:=X8 hH hg;obtain⟨b9,d9,c',e1,e2⟩:=Qfb hs hx;rw[g1]at e1;injection e1 with e1
 injection e1 with e1 e3
 subst e1 e3;have hlu:=Q7 g2;obtain⟨As2,g6,g7⟩:=g5 {r with cs:=Qf r.cs i (XE z (k*sz))} _ (Ym i g2 (X9 hfz)) (by unfold Qe9 at *;simpa[Qi]using g3);have hS:=QmI (w0:=w0) (M:=[]) (As:=As) (As':=.blk b r.ty (us.length+dd*r.sz) (Qf us i (XE z (k*sz)))::Rs) ho e2 ht hz hzs hz1 (by intro h;rw[h]at hz0;cases hz0) ⟨Rs,g4,.refl _⟩ (λ_=>rfl) (by rw[hlu];exact hl);refine⟨_,_,_,_,hS,λ_ _=>⟨ρ,As2,ρ.le_refl,hf,rfl,g6,λw hw=>?_⟩⟩;have:HS w0 [] (.blk b r.ty ((Qf us i (XE z (k*sz))).length+dd*r.sz) (Qf us i (XE z (k*sz)))::Rs) w:=by rw[Qi];exact hw
 exact this.perm g7
theorem QuX{t:TypeId}{x:Operand}{l:List UInt8}(ho:o.op=.call {callee:=.builtin .len,args:=#[x],argTypes:=#[t]})(hs:SR ρ L L')(hx:opd L x=some (.string ⟨⟨l⟩⟩))(h:Xc P t=true):∃u,OpP P o L' u/\den ρ (.int .i64 (l.length:Int))=some u:=
 ⟨_,Qp ho (Qk hs hx rfl) (Yt h),rfl⟩
theorem QuV{t:TypeId}{x:Operand}{a:Option Addr}{k c:Nat}(ho:o.op=.call {callee:=.builtin .len,args:=#[x],argTypes:=#[t]})(hs:SR ρ L L')(hx:opd L x=some (.slice a k c))(h:Xh P t=true):∃u,OpP P o L' u/\den ρ (.int .i64 (k:Int))=some u:=by
 obtain⟨e,he⟩:=X0 h;rcases a with _|⟨p,i,q⟩
 ·exact⟨_,QR ho (Qk hs hx rfl) he,rfl⟩
 ·obtain⟨b,d,c',h1,h2⟩:=Qfb hs hx;exact⟨_,QR ho h2 he,rfl⟩
theorem Qu5{t:TypeId}{x:Operand}{p i q:Nat}(ho:o.op=.call {callee:=.builtin .len,args:=#[x],argTypes:=#[t]})(hs:SR ρ L L')(hx:opd L x=some (.pointer (some ⟨p,i,some q⟩)))(h:Xh P t=true):∃u,OpP P o L' u/\den ρ (.int .i64 0)=some u:=by
 obtain⟨e,he⟩:=X0 h;obtain⟨b,d,j,h1,h2⟩:=Qf7 hs hx;exact⟨_,QR ho h2 he,rfl⟩
theorem Qu2{t:TypeId}{x:Operand}{k c:Nat}(ho:o.op=.call {callee:=.builtin .cap,args:=#[x],argTypes:=#[t]})(hs:SR ρ L L')(hx:opd L x=some (.slice none k c))(h:Xh P t=true):∃u,OpP P o L' u/\den ρ (.int .i64 (c:Int))=some u:=by
 obtain⟨e,he⟩:=X0 h;exact⟨_,Qri ho (Qk hs hx rfl) he,rfl⟩
theorem Qvl{x y:Operand}{k k':IntKind}{a b:Int}{ts:Array TypeId}(ho:o.op=.call {callee:=.builtin .min,args:=#[x,y],argTypes:=ts})(hs:SR ρ L L')(hx:opd L x=some (.int k a))(hy:opd L y=some (.int k' b))(hk:kEq k k'=true):∃u,OpP P o L' u/\den ρ (.int k (if b<a then b else a))=some u:=by
 obtain rfl:=QcK hk;exact⟨_,Qrb ho (Qk hs hx rfl) (Qk hs hy rfl),rfl⟩
theorem Qwh{x y:Operand}{k k':IntKind}{a b:Int}{ts:Array TypeId}(ho:o.op=.call {callee:=.builtin .max,args:=#[x,y],argTypes:=ts})(hs:SR ρ L L')(hx:opd L x=some (.int k a))(hy:opd L y=some (.int k' b))(hk:kEq k k'=true):∃u,OpP P o L' u/\den ρ (.int k (if b>a then b else a))=some u:=by
 obtain rfl:=QcK hk;exact⟨_,QoH ho (Qk hs hx rfl) (Qk hs hy rfl),rfl⟩
end
end Ev
namespace Ev
open Go Go.RowKit
inductive Ans where
 | p (v:Value)
 | q (v:Value)
 | h (v:Value) (H:Hp) (n:Nat)
def Qel:Option Value->Option Ans
 | some v=>some (.p v)
 | none=>none
abbrev QcI:=FuncId->List Value->Hp->Nat->Option (Value×Hp×Nat)
abbrev Qp8:=Nat->List Value->Hp->Nat->Option (Value×Hp×Nat)
structure CallF where
 f:Qp8->QcI
 e:FuncId->List Value->Option Value
 y:Qp8
noncomputable section
variable(P:Program)(L:Env)(H:Hp)(n:Nat)
def Qgo(st f:Nat):Option Value->Option Value
 | some (.agg cs)=>match tfd P st f with
  | some (off,ft)=>match tsz P ft with
   | some (k,ag)=>if ag then some (.agg (cut cs.toList off k).toArray)else cs.toList[off]?
   | none=>none
  | none=>none
 | _=>none
def QgL(t:Nat):Option Value->Option Nat->Option Value
 | some (.string ⟨⟨l⟩⟩),some j=>bif Xc P t&&Nat.blt j l.length then some (.int .u8 ((l.getD j 0).toNat:Int))else none
 | some (.agg cs),some j=>match tar P t with
  | some (len,e,sz)=>match tsz P e with
   | some (k,ag)=>bif Nat.blt j len then(if ag then some (.agg (cut cs.toList (j*sz) k).toArray)else cs.toList[j*sz]?)else none
   | none=>none
  | none=>none
 | _,_=>none
def Qlk(t:Nat)(lo hi:Option Operand):Option Value->Option Value
 | some (.string ⟨⟨l⟩⟩)=>match loN L lo,hiN L l.length hi with
  | some a,some b=>bif Xc P t&&(Nat.ble a b&&Nat.ble b l.length)then some (.string (bs ((l.take b).drop a)))else none
  | _,_=>none
 | some (.slice (some ⟨m,off,none⟩) l c)=>match tsl P t,loN L lo,hiN L l hi with
  | some (_,sz,_),some i,some j=>bif Nat.ble i j&&(Nat.ble j c&&(Nat.beq i 0||Nat.blt i c))then some (.slice (some ⟨m,off+i*sz,none⟩) (j-i) (c-i))else(bif Nat.beq i c&&Nat.beq j c then some (.pointer (some ⟨m,off,some (c*sz)⟩))else none)
  | _,_,_=>none
 | some (.slice (some ⟨m,off,some q⟩) l c)=>match tsl P t,loN L lo,hiN L l hi with
  | some (_,sz,_),some i,some j=>bif Nat.ble i j&&Nat.ble j c then some (.slice (some ⟨m,(if c=i then off else off+i*sz),some q⟩) (j-i) (c-i))else none
  | _,_,_=>none
 | some (.slice none l c)=>match tsl P t,loN L lo,hiN L l hi with
  | some _,some i,some j=>bif Nat.ble i j&&Nat.ble j c then some (.slice none (j-i) (c-i))else none
  | _,_,_=>none
 | _=>none
def Qi1(t:Nat)(lo:Option Operand)(hi mx:Operand):Option Value->Option Value
 | some (.slice (some ⟨m,off,_⟩) _ c)=>match tsl P t,loN L lo,vN (opd L hi),vN (opd L mx)with
  | some (_,sz,_),some i,some j,some k=>bif Nat.ble i j&&(Nat.ble j k&&Nat.ble k c)then some (.slice (some ⟨m,(if k=i then off else off+i*sz),some 0⟩) (j-i) (k-i))else none
  | _,_,_,_=>none
 | some (.slice none _ c)=>match tsl P t,loN L lo,vN (opd L hi),vN (opd L mx)with
  | some _,some i,some j,some k=>bif Nat.ble i j&&(Nat.ble j k&&Nat.ble k c)then some (.slice none (j-i) (k-i))else none
  | _,_,_,_=>none
 | _=>none
def QbK(st f:Nat):Option Value->Option Value
 | some (.pointer (some ⟨m,i,none⟩))=>match tfd P st f with
  | some (off,ft)=>match tsz P ft with
   | some (sz,_)=>bif Nat.blt 0 sz then some (.pointer (some ⟨m,i+off,none⟩))else none
   | none=>none
  | none=>none
 | _=>none
def QaD(t:Nat):Option Value->Option Nat->Option Value
 | some (.slice (some ⟨m,off,_⟩) l _),some j=>match tsl P t with
  | some (_,sz,_)=>bif Nat.blt j l then some (.pointer (some ⟨m,off+j*sz,none⟩))else none
  | none=>none
 | some (.pointer (some ⟨m,i,none⟩)),some j=>match tar P t with
  | some (len,_,sz)=>bif Nat.blt j len then some (.pointer (some ⟨m,i+j*sz,none⟩))else none
  | none=>none
 | _,_=>none
def QlN(t:Nat)(parts:List (Nat×Operand)):Option Value:=match QdY L parts,QN P t with
 | some vs,some z=>bif Xb z then(match YG P t with
  | some pl=>match ZN (λi=>pl[i]?) z vs with
   | some cs=>some (.agg cs.toArray)
   | none=>none
  | none=>match tar P t with
   | some (_,_,sz)=>match ZN (λi=>some (i*sz,sz)) z vs with
    | some cs=>some (.agg cs.toArray)
    | none=>none
   | none=>none)else none
 | _,_=>none
def QgD(t x:Nat):Option Value:=match L x with
 | some (.pointer (some ⟨m,i,none⟩))=>match Yd H m,tsz P t with
  | some r,some (sz,ag)=>if ag then(bif Nat.ble (i+sz) r.cs.length then some (.agg (cut r.cs i sz).toArray)else none)else(bif Nat.beq sz 1 then r.cs[i]? else none)
  | _,_=>none
 | _=>none
def QiS(t x:Nat)(y:Operand):Option Ans:=match L x,opd L y,tsz P t with
 | some (.pointer (some ⟨m,i,none⟩)),some v,some (sz,_)=>match Yd H m with
  | some r=>bif Z3 v&&(Nat.beq v.cells.toList.length sz&&Nat.ble (i+sz) r.cs.length)then some (.h undef (Yo H m {r with cs:=Qf r.cs i v.cells.toList}) n)else none
  | none=>none
 | _,_,_=>none
def Qb1(t:Nat):Bool:=match P.underlying t with|some (.int .u8)=>true|_=>false
def Qf4(src dst:Nat):Option Value->Option Ans
 | some (.string ⟨⟨l⟩⟩)=>match P.underlying dst with
  | some (.slice e)=>bif Xc P src&&(Qb1 P e&&(Nat.beq e u8T&&Nat.ble l.length maxLen))then some (.h (.slice (some ⟨n,0,none⟩) l.length l.length) (Yo H n ⟨e,1,l.map λb=>.int .u8 (b.toNat:Int)⟩) (n+1))else none
  | _=>none
 | some (.slice none k c)=>match P.underlying src with
  | some (.slice e)=>bif Xc P dst&&(Qb1 P e&&Nat.beq k 0)then some (.q (.string (bs [])))else none
  | _=>none
 | some (.slice (some ⟨p,i,q⟩) k c)=>match P.underlying src,Yd H p with
  | some (.slice e),some r=>bif Xc P dst&&(Qb1 P e&&(Nat.ble (i+k) r.cs.length&&((cut r.cs i k).all Qi2&&Xb (cut r.cs i k))))then some (.q (.string (bs ((cut r.cs i k).map vByte))))else(match q with
   | none=>bif Nat.beq src dst&&(Qb1 P e&&Nat.beq r.ty u8T)then some (.h (.slice (some ⟨p,i,none⟩) k c) H n)else none
   | _=>none)
  | _,_=>none
 | some (.pointer (some ⟨_,_,some _⟩))=>match P.underlying src with
  | some (.slice e)=>bif Xc P dst&&Qb1 P e then some (.q (.string (bs [])))else none
  | _=>none
 | _=>none
def QvB(t:Nat):Option Ans:=match QN P t with
 | some z=>bif Xb z then some (.h (.pointer (some ⟨n,0,none⟩)) (Yo H n ⟨t,0,z⟩) (n+1))else none
 | none=>none
def Qu0(t:Nat):Option Value->Option Ans
 | some v=>bif Z3 v then some (.h (.pointer (some ⟨n,0,none⟩)) (Yo H n ⟨t,0,v.cells.toList⟩) (n+1))else none
 | none=>none
def Qoz(z:List Value)(k:Nat):List Value:=(List.range k).map λi=>z.getD (i%z.length) default
def ZM(t len:Nat)(parts:List (Nat×Operand)):Option Ans:=match QdY L parts,tsl P t with
 | some vs,some (e,sz,_)=>match QN P e with
  | some z=>match ZN (λi=>some (i*sz,sz)) (Qoz z (len*sz)) vs with
   | some cs=>bif Xb z&&(Nat.ble (len*sz) 16777216&&(Nat.blt 0 (len*sz)&&Xb (Qoz z (len*sz))))then some (.h (.slice (some ⟨n,0,none⟩) len len) (Yo H n ⟨e,sz,cs⟩) (n+1))else none
   | none=>none
  | none=>none
 | _,_=>none
def QbT(t:Nat)(x y:Operand):Option Ans:=match opd L x,opd L y,tsl P t with
 | some (.int .i64 (.ofNat k)),some (.int .i64 (.ofNat k')),some (e,sz,by')=>match QN P e with
  | some z=>bif Nat.ble k k'&&(Nat.ble (k'*by') 281474976710656&&(Nat.ble k' 16777216&&Xb (XE z (k'*sz))))then some (.h (.slice (some ⟨n,0,none⟩) k k') (Yo H n ⟨e,sz,XE z (k'*sz)⟩) (n+1))else none
  | none=>none
 | _,_,_=>none
def QiK(t xt:Nat)(s y:Operand):Option Ans:=match opd L s,opd L y,tsl P t with
 | some (.slice a k c),some vy,some (e,sz,by')=>match vy with
  | .int .i64 (.ofNat m)=>match a,QN P e with
   | none,some z=>bif (Nat.beq k 0&&(Nat.beq c 0&&(Nat.beq z.length sz&&(Nat.blt 0 sz&&Xb (XE z (m*sz))))))&&((match tki P xt with|some .i64=>true|_=>false)&&(Nat.ble ((0+m)*by') 140737488355328&&(Nat.ble (0+m) maxLen&&Nat.blt 0 m)))then some (.h (.slice (some ⟨n,0,none⟩) (0+m) (0+m)) (Yo H n ⟨e,sz,[]++XE z (m*sz)⟩) (n+1))else none
   | _,_=>none
  | _=>match Qlf P H xt sz vy with
   | some (m,cs)=>match a with
    | none=>bif Nat.beq k 0&&Nat.beq c 0 then(bif Nat.beq m 0 then some (.h (.slice none 0 0) H n)else match QN P e with
     | some z=>bif Nat.beq z.length sz&&(Nat.ble ((0+m)*by') 140737488355328&&(Nat.ble (0+m) maxLen&&Nat.blt 0 (0+m)))then some (.h (.slice (some ⟨n,0,none⟩) (0+m) (0+m)) (Yo H n ⟨e,sz,[]++cs⟩) (n+1))else none
     | none=>none)else none
    | some ⟨p,off,q⟩=>bif Nat.beq off 0 then(match Yd H p with
     | some r=>bif Nat.ble (k+m) c then(bif Nat.ble (k*sz+cs.length) r.cs.length then some (.h (.slice (some ⟨p,0,q⟩) (k+m) c) (Yo H p {r with cs:=Qf r.cs (k*sz) cs}) n)else none)
      else(match q,QN P e with
       | none,some z=>bif (Nat.beq z.length sz&&(Nat.beq r.ty e&&(Nat.beq r.sz sz&&(Nat.beq r.cs.length (c*sz)&&Nat.blt 0 sz))))&&((Nat.ble k c&&Nat.ble c maxLen)&&(Nat.ble ((k+m)*by') 140737488355328&&(Nat.ble (k+m) maxLen&&Nat.blt 0 (k+m))))then some (.h (.slice (some ⟨n,0,none⟩) (k+m) (k+m)) (Yo (Qgk H p) n ⟨e,sz,r.cs.take (k*sz)++cs⟩) (n+1))else none
       | _,_=>none)
     | none=>none)else none
   | none=>none
 | _,_,_=>none
def Qov(dt:Nat)(d s:Operand):Option Ans:=match opd L d,opd L s,tsl P dt with
 | some (.slice (some ⟨p,i,_⟩) k _),some (.slice (some ⟨p2,i2,_⟩) k2 _),some (_,sz,_)=>match Yd H p,Yd H p2 with
  | some r,some r2=>bif Nat.ble (i+min k2 k*sz) r.cs.length&&Nat.ble (i2+min k2 k*sz) r2.cs.length then some (.h (.int .i64 ((min k2 k:Nat):Int)) (Yo H p {r with cs:=Qf r.cs i (cut r2.cs i2 (min k2 k*sz))}) n)else none
  | _,_=>none
 | some (.slice (some ⟨p,i,_⟩) k _),some (.string ⟨⟨l⟩⟩),some (_,sz,_)=>match Yd H p with
  | some r=>bif Nat.beq sz 1&&Nat.ble (i+min l.length k) r.cs.length then some (.h (.int .i64 ((min l.length k:Nat):Int)) (Yo H p {r with cs:=Qf r.cs i ((l.take (min l.length k)).map λb=>Value.int .u8 (b.toNat:Int))}) n)else none
  | none=>none
 | _,_,_=>none
def Qlb(t:Nat)(x:Operand):Option Ans:=match opd L x,tsl P t with
 | some (.slice (some ⟨p,i,_⟩) k _),some (e,sz,_)=>match Yd H p,QN P e with
  | some r,some z=>bif Nat.beq z.length sz&&(z.all (·.oneCell')&&(Nat.blt 0 z.length&&(Xb (XE z (k*sz))&&Nat.ble (i+k*sz) r.cs.length)))then some (.h (.tuple #[]) (Yo H p {r with cs:=Qf r.cs i (XE z (k*sz))}) n)else none
  | _,_=>none
 | _,_=>none
def Qer(b:Builtin)(args:List Operand)(ts:List TypeId):Option Ans:=match b,args,ts with
 | .len,[x],[t]=>match opd L x with
  | some (.string ⟨⟨l⟩⟩)=>bif Xc P t then some (.p (.int .i64 (l.length:Int)))else none
  | some (.slice _ k _)=>bif Xh P t then some (.p (.int .i64 (k:Int)))else none
  | some (.pointer (some ⟨_,_,some _⟩))=>bif Xh P t then some (.p (.int .i64 0))else none
  | _=>none
 | .cap,[x],[t]=>match opd L x with
  | some (.slice none _ c)=>bif Xh P t then some (.p (.int .i64 (c:Int)))else none
  | _=>none
 | .min,[x,y],_=>match opd L x,opd L y with
  | some (.int k a),some (.int k' b)=>bif kEq k k' then some (.p (.int k (if b<a then b else a)))else none
  | _,_=>none
 | .max,[x,y],_=>match opd L x,opd L y with
  | some (.int k a),some (.int k' b)=>bif kEq k k' then some (.p (.int k (if b>a then b else a)))else none
  | _,_=>none
 | .append,[s,y],[t,xt]=>QiK P L H n t xt s y
 | .copy,[d,s],[dt,_]=>Qov P L H n dt d s
 | .clear,[x],[t]=>Qlb P L H n t x
 | _,_,_=>none
def Qfi(F:CallF)(f:Option Value)(vs:Option (List Value)):Option Ans:=match f,vs with
 | some (.func (.func g) first cap),some vs=>bif QL P g then(match F.f F.y g (first.toList++vs++cap.toList) H n with
  | some (v,H',n')=>some (.h v H' n')
  | none=>none)else none
 | some (.func (.yield k) ⟨[]⟩ ⟨[]⟩),some vs=>match F.y k vs H n with
  | some (v,H',n')=>some (.h v H' n')
  | none=>none
 | _,_=>none
def QaZ(t:Nat):Option Value->Option Value->Option Ans
 | some (.map (some r)),some (.int .i64 a)=>match P.underlying t,QgJ H r with
  | some (.map kt et),some ks=>match tzv P et,tki P kt with
   | some (.bool false),some .i64=>some (.q (.bool (Qiy a ks)))
   | _,_=>none
  | _,_=>none
 | _,_=>none
def Qdz(t:Nat):Option Value->Option Value->Option Value->Option Ans
 | some (.map (some r)),some (.int .i64 a),some (.bool true)=>match P.underlying t,QgJ H r with
  | some (.map kt et),some ks=>match tki P kt with
   | some .i64=>some (.h (.tuple #[]) (YR H r (.mp (bif Qiy a ks then ks else ks++[a]))) n)
   | _=>none
  | _,_=>none
 | _,_,_=>none
def Xr(F:CallF):Op->Option Ans
 | .move x=>Qel (opd L x)
 | .assign x=>Qel (opd L x)
 | .pick c a b=>match opd L c,opd L a,opd L b with
  | some (.bool t),some x,some y=>some (.p (if t then x else y))
  | _,_,_=>none
 | .binOp op t x y _=>match opd L x,opd L y with
  | some a,some b=>Qel (Z2 P op t a b)
  | _,_=>none
 | .unOp op _ x=>match opd L x with
  | some a=>Qel (Qe5 op a)
  | none=>none
 | .convert src dst x=>match opd L x with
  | some a=>match Qb0 P src dst a with
   | some v=>some (.p v)
   | none=>Qf4 P H n src dst (some a)
  | none=>none
 | .extract x i=>match opd L x with
  | some (.tuple vs)=>Qel (vs.toList[i]?)
  | _=>none
 | .makeFunc (.func f) first cap=>match QdU L first.toList,QdU L cap.toList with
  | some a,some b=>bif a.all Qk1&&b.all Qk1 then some (.p (.func (.func f) a.toArray b.toArray))else none
  | _,_=>none
 | .nilCheck x=>match opd L x with
  | some (.pointer (some ⟨m,i,none⟩))=>some (.p (.pointer (some ⟨m,i,none⟩)))
  | some (.func (.func f) a b)=>some (.p (.func (.func f) a b))
  | _=>none
 | .field st x f=>Qel (Qgo P st f (opd L x))
 | .index t x y=>Qel (QgL P t (opd L x) (vN (opd L y)))
 | .slice t x lo hi none=>Qel (Qlk P L t lo hi (opd L x))
 | .slice t x lo (some hi) (some mx)=>Qel (Qi1 P L t lo hi mx (opd L x))
 | .fieldAddr st x f=>Qel (QbK P st f (opd L x))
 | .indexAddr t x y=>Qel (QaD P t (opd L x) (vN (opd L y)))
 | .build t parts=>Qel (QlN P L t parts.toList)
 | .load t (.tmp x)=>match QgD P L H t x with
  | some v=>some (.q v)
  | none=>none
 | .store t (.tmp x) y=>QiS P L H n t x y
 | .alloc t=>QvB P H n t
 | .box t x=>Qu0 H n t (opd L x)
 | .buildSlice t 0 ⟨[]⟩=>match tsl P t with
  | some (e,sz,_)=>some (.h (.slice (some ⟨n,0,none⟩) 0 0) (Yo H n ⟨e,sz,[]⟩) (n+1))
  | none=>none
 | .buildSlice t len parts=>ZM P L H n t len parts.toList
 | .makeSlice t x y=>QbT P L H n t x y
 | .call ⟨.builtin b,args,ts⟩=>Qer P L H n b args.toList ts.toList
 | .call ⟨.value (.func g),args,_⟩=>match QdU L args.toList with
  | some vs=>match F.e g vs with
   | some v=>some (.q v)
   | none=>Qfi P H n F (some (.func (.func g) #[] #[])) (some vs)
  | none=>none
 | .call ⟨.value f,args,_⟩=>Qfi P H n F (opd L f) (QdU L args.toList)
 | .makeMap t none=>some (.h (.map (some n)) (YR H n (.mp [])) (n+1))
 | .lookup t m x false=>QaZ P H t (opd L m) (opd L x)
 | .mapUpdate t m x y=>Qdz P H n t (opd L m) (opd L x) (opd L y)
 | _=>none
end
end Ev
namespace Ev
open Go Go.RowKit
theorem bif_some{α:Type}{c:Bool}{x a:α}(h:(bif c then some x else none)=some a):c=true/\x=a:=by grind
theorem bif_in{α:Type}{c:Bool}{x:Option α}{a:α}(h:(bif c then x else none)=some a):c=true/\x=some a:=by grind
theorem Qew{α:Type}{a:Array α}{x:α}(h:a.toList=[x]):a= #[x]:=by grind
theorem Qey{α:Type}{a:Array α}{x y:α}(h:a.toList=[x,y]):a= #[x,y]:=by grind
def QmR(w0:World)(ρ:Rho)(v:Value)(H':Hp)(n':Nat)(e:Ending)(w':World):Prop:=
 ∃ρ' As' u,ρ.le ρ'/\QQ ρ' n'/\den ρ' v=some u/\HM ρ' H' As'/\e=.returned u/\HS w0 [] As' w'
def Qef(P:Program)(r0:Rho)(F:QcI):Prop:=∀f vs H n v H' n',F f vs H n=some (v,H',n')->∀(w0:World)(ρ:Rho)(us:List Value)(As:List HA),r0.le ρ->Qu (den ρ) vs=some us->HM ρ H As->QQ ρ n->∀w,HS w0 [] As w->Calls P f us.toArray w (QmR w0 ρ v H' n')
def QhV(P:Program)(E:FuncId->List Value->Option Value):Prop:=∀f vs v,E f vs=some v->∀(w0:World)(ρ:Rho)(us:List Value)(As:List HA),Qu (den ρ) vs=some us->∀(o:Oper)(L':Qc)(args:Array Operand)(ts:Array TypeId),o.op=.call {callee:=.value (.func f),args:=args,argTypes:=ts}->evs L' args.toList=some us->∃u,den ρ v=some u/\OpQ P o L' (HS w0 [] As) u
def YOk(P:Program)(r0:Rho)(Y:Qp8):Prop:=∀k vs H n v H' n',Y k vs H n=some (v,H',n')->∀(w0:World)(ρ:Rho)(us:List Value)(As:List HA),r0.le ρ->Qu (den ρ) vs=some us->HM ρ H As->QQ ρ n->∃x,ρ k=some x/\∀w,HS w0 [] As w->ZD P x.1 us.toArray w (QmR w0 ρ v H' n')
structure CallOk(P:Program)(r0:Rho)(F:CallF):Prop where
 f:∀r1 Y,YOk P r1 Y->Qef P r1 (F.f Y)
 e:QhV P F.e
 y:YOk P r0 F.y
def QaV(P:Program)(o:Oper)(L':Qc)(w0:World)(ρ:Rho)(H:Hp)(n:Nat)(As:List HA):Ans->Prop
 | .p v=>∃u,OpP P o L' u/\den ρ v=some u
 | .q v=>∃u,OpQ P o L' (HS w0 [] As) u/\den ρ v=some u
 | .h v H' n'=>OpT P o L' (HS w0 [] As) (Out w0 ρ v H' n')
section
variable{P:Program}{o:Oper}{L':Qc}{w0:World}{ρ:Rho}{L:Env}{H:Hp}{n:Nat}{As:List HA}{F:CallF}{a:Ans}
theorem Qfw{x:Option Value}(h:Qel x=some a)(hx:∀v,x=some v->∃u,OpP P o L' u/\den ρ v=some u):QaV P o L' w0 ρ H n As a:=by
 cases x with
 | none=>cases h
 | some v=>
  injection h with h
  subst h;exact hx v rfl
theorem Qnh{st f:Nat}{x:Operand}{v:Value}(ho:o.op=.field st x f)(hs:SR ρ L L')(h:Qgo P st f (opd L x)=some v):∃u,OpP P o L' u/\den ρ v=some u:=by
 unfold Qgo at h
 grind[QtE]
theorem QnX{t:Nat}{x y:Operand}{v:Value}(ho:o.op=.index t x y)(hs:SR ρ L L')(h:QgL P t (opd L x) (vN (opd L y))=some v):∃u,OpP P o L' u/\den ρ v=some u:=by
 unfold QgL at h;split at h
 ·rename_i l j hx hy;obtain⟨hc,rfl⟩:=bif_some h;simp only[Bool.and_eq_true]at hc;exact QoT ho hs hx hy hc.1 (by simpa[Nat.blt_eq]using hc.2)
 ·rename_i cs j hx hy;split at h
  ·rename_i len e sz h1;split at h
   ·rename_i k ag h2;obtain⟨hc,h3⟩:=bif_in h;exact Qsb ho hs hx hy h1 h2 (by simpa[Nat.blt_eq]using hc) h3
   ·cases h
  ·cases h
 ·cases h
theorem Qor{t:Nat}{x:Operand}{lo hi:Option Operand}{v:Value}(ho:o.op=.slice t x lo hi none)(hs:SR ρ L L')(h:Qlk P L t lo hi (opd L x)=some v):∃u,OpP P o L' u/\den ρ v=some u:=by
 unfold Qlk at h;split at h
 ·rename_i l hx;split at h
  ·rename_i i j h1 h2;obtain⟨hc,rfl⟩:=bif_some h;simp only[Bool.and_eq_true]at hc;exact QpL ho hs hx hc.1 h1 h2 (Nat.le_of_ble_eq_true hc.2.1) (Nat.le_of_ble_eq_true hc.2.2)
  ·cases h
 ·rename_i m off l c hx;split at h
  ·rename_i e sz by' i j h1 h2 h3;cases hb:Nat.ble i j&&(Nat.ble j c&&(Nat.beq i 0||Nat.blt i c))with
   | true=>
    rw[hb]at h;injection h with h
    subst h;simp only[Bool.and_eq_true,Bool.or_eq_true]at hb;exact Qty ho hs hx h1 h2 h3 (Nat.le_of_ble_eq_true hb.1) (Nat.le_of_ble_eq_true hb.2.1) (hb.2.2.imp Nat.eq_of_beq_eq_true (λh=>by simpa[Nat.blt_eq]using h))
   | false=>
    rw[hb]at h;obtain⟨hc,rfl⟩:=bif_some h;simp only[Bool.and_eq_true]at hc;have e1:=Nat.eq_of_beq_eq_true hc.1;have e2:=Nat.eq_of_beq_eq_true hc.2
    grind[QpD]
  ·cases h
 ·rename_i m off q l c hx;split at h
  ·rename_i e sz by' i j h1 h2 h3;obtain⟨hc,rfl⟩:=bif_some h;simp only[Bool.and_eq_true]at hc;exact QrO ho hs hx h1 h2 h3 (Nat.le_of_ble_eq_true hc.1) (Nat.le_of_ble_eq_true hc.2)
  ·cases h
 ·rename_i l c hx;split at h
  ·rename_i y i j h1 h2 h3;obtain⟨e,sz,by'⟩:=y;obtain⟨hc,rfl⟩:=bif_some h;simp only[Bool.and_eq_true]at hc;exact QoY ho hs hx h1 h2 h3 (Nat.le_of_ble_eq_true hc.1) (Nat.le_of_ble_eq_true hc.2)
  ·cases h
 ·cases h
theorem QlM{t:Nat}{x hi mx:Operand}{lo:Option Operand}{v:Value}(ho:o.op=.slice t x lo (some hi) (some mx))(hs:SR ρ L L')(h:Qi1 P L t lo hi mx (opd L x)=some v):∃u,OpP P o L' u/\den ρ v=some u:=by
 unfold Qi1 at h;split at h
 ·rename_i m off q l c hx;split at h
  ·rename_i e sz by' i j k h1 h2 h3 h4;obtain⟨hc,rfl⟩:=bif_some h;simp only[Bool.and_eq_true]at hc;exact QrJ ho hs hx h1 h2 h3 h4 (Nat.le_of_ble_eq_true hc.1) (Nat.le_of_ble_eq_true hc.2.1) (Nat.le_of_ble_eq_true hc.2.2)
  ·cases h
 ·rename_i l c hx;split at h
  ·rename_i y i j k h1 h2 h3 h4;obtain⟨e,sz,by'⟩:=y;obtain⟨hc,rfl⟩:=bif_some h;simp only[Bool.and_eq_true]at hc;exact QnF ho hs hx h1 h2 h3 h4 (Nat.le_of_ble_eq_true hc.1) (Nat.le_of_ble_eq_true hc.2.1) (Nat.le_of_ble_eq_true hc.2.2)
  ·cases h
 ·cases h
theorem Qhn{st f:Nat}{x:Operand}{v:Value}(ho:o.op=.fieldAddr st x f)(hs:SR ρ L L')(h:QbK P st f (opd L x)=some v):∃u,OpP P o L' u/\den ρ v=some u:=by
 unfold QbK at h;split at h
 ·rename_i m i hx;split at h
  ·rename_i off ft h1;split at h
   ·rename_i sz ag h2;obtain⟨hc,rfl⟩:=bif_some h
    grind[QjY]
   ·cases h
  ·cases h
 ·cases h
theorem Qht{t:Nat}{x y:Operand}{v:Value}(ho:o.op=.indexAddr t x y)(hs:SR ρ L L')(h:QaD P t (opd L x) (vN (opd L y))=some v):∃u,OpP P o L' u/\den ρ v=some u:=by
 unfold QaD at h;split at h
 ·rename_i m off q l c j hx hy;split at h
  ·rename_i e sz by' h1;obtain⟨hc,rfl⟩:=bif_some h;cases q with
   | none=>exact Qj9 ho hs hx hy h1 (by simpa[Nat.blt_eq]using hc)
   | some q=>exact QiE ho hs hx hy h1 (by simpa[Nat.blt_eq]using hc)
  ·cases h
 ·rename_i m i j hx hy;split at h
  ·rename_i len e sz h1;obtain⟨hc,rfl⟩:=bif_some h;exact QiB ho hs hx hy h1 (by simpa[Nat.blt_eq]using hc)
  ·cases h
 ·cases h
theorem Qnl{t:Nat}{parts:Array (Nat×Operand)}{v:Value}(ho:o.op=.build t parts)(hs:SR ρ L L')(h:QlN P L t parts.toList=some v):∃u,OpP P o L' u/\den ρ v=some u:=by
 unfold QlN at h;split at h
 ·rename_i vs z h1 h2;obtain⟨hc,h⟩:=bif_in h
  grind[Qtp,QoG]
 ·cases h
theorem QpE{t x:Nat}{v:Value}(ho:o.op=.load t (.tmp x))(hs:SR ρ L L')(hH:HM ρ H As)(h:QgD P L H t x=some v):∃u,OpQ P o L' (HS w0 [] As) u/\den ρ v=some u:=by
 unfold QgD at h;split at h
 ·rename_i m i hx;split at h
  ·rename_i r sz ag h1 h2;exact Qwp ho hs hH hx h1 h2 h
  ·cases h
 ·cases h
theorem Qoq{t x:Nat}{y:Operand}(ho:o.op=.store t (.tmp x) y)(hs:SR ρ L L')(hH:HM ρ H As)(hf:QQ ρ n)(h:QiS P L H n t x y=some a):QaV P o L' w0 ρ H n As a:=by
 unfold QiS at h;split at h
 ·rename_i m i v sz ag hx hy hz;split at h
  ·rename_i r hg;obtain⟨hc,rfl⟩:=bif_some h;simp only[Bool.and_eq_true]at hc;exact Qth ho hs hH hf hx hy hc.1 hg hz (Nat.eq_of_beq_eq_true hc.2.1) (Nat.le_of_ble_eq_true hc.2.2)
  ·cases h
 ·cases h
theorem Qcg{t:Nat}(h:Qb1 P t=true):P.underlying t=some (.int .u8):=by grind[Qb1]
theorem Qp3{src dst:Nat}{x:Operand}{v:Value}(ho:o.op=.convert src dst x)(hs:SR ρ L L')(hH:HM ρ H As)(hf:QQ ρ n)(hx:opd L x=some v)(h:Qf4 P H n src dst (some v)=some a):QaV P o L' w0 ρ H n As a:=by
 unfold Qf4 at h;split at h
 ·rename_i l hv;injection hv with hv
  subst hv;split at h
  ·rename_i e h1;obtain⟨hc,rfl⟩:=bif_some h;simp only[Bool.and_eq_true]at hc;exact Qsu ho hs hx (Yt hc.1) h1 (Qcg hc.2.1) (Nat.eq_of_beq_eq_true hc.2.2.1) (Nat.le_of_ble_eq_true hc.2.2.2) hH hf
  ·cases h
 ·rename_i k c hv;injection hv with hv
  subst hv;split at h
  ·rename_i e h1;obtain⟨hc,rfl⟩:=bif_some h;simp only[Bool.and_eq_true]at hc;have hk:=Nat.eq_of_beq_eq_true hc.2.2;subst hk;exact Qog (k:=0) ho hs hx h1 hc.1 (Qcg hc.2.1)
  ·cases h
 ·rename_i p i q k c hv;injection hv with hv
  subst hv;split at h
  ·rename_i e r h1 h2;cases hb:Xc P dst&&(Qb1 P e&&(Nat.ble (i+k) r.cs.length&&((cut r.cs i k).all Qi2&&Xb (cut r.cs i k))))with
   | true=>
    rw[hb]at h;injection h with h
    subst h;simp only[Bool.and_eq_true]at hb;exact Qng ho hs hH hx h1 hb.1 (Qcg hb.2.1) h2 (Nat.le_of_ble_eq_true hb.2.2.1) hb.2.2.2.1 hb.2.2.2.2
   | false=>
    rw[hb]at h;simp only[cond_false]at h;split at h
    ·obtain⟨hc,rfl⟩:=bif_some h;simp only[Bool.and_eq_true]at hc;have e1:=Nat.eq_of_beq_eq_true hc.1;subst e1;exact QsO ho hs hH hf hx h1 (Qcg hc.2.1) h2 (Nat.eq_of_beq_eq_true hc.2.2)
    ·cases h
  ·cases h
 ·rename_i p i q hv;injection hv with hv
  subst hv;split at h
  ·rename_i e h1;obtain⟨hc,rfl⟩:=bif_some h;simp only[Bool.and_eq_true]at hc;exact Qoc ho hs hx h1 hc.1 (Qcg hc.2)
  ·cases h
 ·cases h
theorem Qg2{t len:Nat}{parts:Array (Nat×Operand)}(ho:o.op=.buildSlice t len parts)(hs:SR ρ L L')(hH:HM ρ H As)(hf:QQ ρ n)(h:ZM P L H n t len parts.toList=some a):QaV P o L' w0 ρ H n As a:=by
 unfold ZM at h;split at h
 ·rename_i vs e sz by' h1 h2;split at h
  ·rename_i z h3;split at h
   ·rename_i cs h4;obtain⟨hc,rfl⟩:=bif_some h;simp only[Bool.and_eq_true]at hc;exact QiO ho hs h1 h2 h3 hc.1 hc.2.1 hc.2.2.1 h4 hc.2.2.2 hH hf
   ·cases h
  ·cases h
 ·cases h
theorem Qhp{t:Nat}{x y:Operand}(ho:o.op=.makeSlice t x y)(hs:SR ρ L L')(hH:HM ρ H As)(hf:QQ ρ n)(h:QbT P L H n t x y=some a):QaV P o L' w0 ρ H n As a:=by
 unfold QbT at h;split at h
 ·rename_i k k' e sz by' hx hy ht;split at h
  ·rename_i z hz;obtain⟨hc,rfl⟩:=bif_some h;simp only[Bool.and_eq_true]at hc;exact QkK ho hs hx hy (Nat.le_of_ble_eq_true hc.1) ht hz (Nat.le_of_ble_eq_true hc.2.1) (Nat.le_of_ble_eq_true hc.2.2.1) hc.2.2.2 hH hf
  ·cases h
 ·cases h
theorem Qln{t xt:Nat}{s y:Operand}(ho:o.op=.call {callee:=.builtin .append,args:=#[s,y],argTypes:=#[t,xt]})(hs:SR ρ L L')(hH:HM ρ H As)(hf:QQ ρ n)(h:QiK P L H n t xt s y=some a):QaV P o L' w0 ρ H n As a:=by
 unfold QiK at h;split at h
 ·rename_i a0 k c vy e sz by' hx hy ht;split at h
  ·rename_i m;split at h
   ·rename_i z hz;obtain⟨hc,rfl⟩:=bif_some h;simp only[Bool.and_eq_true]at hc;obtain⟨⟨c1,c2,c3,c4,c5⟩,c6,c7,c8,c9⟩:=hc;have hk:=Nat.eq_of_beq_eq_true c1;have hc0:=Nat.eq_of_beq_eq_true c2;subst hk hc0;refine QnC ho hs hH hf hx hy ?_ ht hz (Nat.eq_of_beq_eq_true c3) (by simpa[Nat.blt_eq]using c4) c5 (Nat.le_of_ble_eq_true c7) (Nat.le_of_ble_eq_true c8) (by simpa[Nat.blt_eq]using c9)
    grind
   ·cases h
  ·split at h
   ·rename_i m cs hsrc;split at h
    ·obtain⟨hc,h⟩:=bif_in h;simp only[Bool.and_eq_true]at hc;have hk:=Nat.eq_of_beq_eq_true hc.1;have hc0:=Nat.eq_of_beq_eq_true hc.2;subst hk hc0;cases hm:Nat.beq m 0 with
     | true=>
      rw[hm]at h;have hm:=Nat.eq_of_beq_eq_true hm;subst hm;injection h with h
      subst h;exact Qnt ho hs hH hf hx hy ht hsrc
     | false=>
      rw[hm]at h;simp only[cond_false]at h;split at h
      ·rename_i z hz;obtain⟨hc,rfl⟩:=bif_some h;simp only[Bool.and_eq_true]at hc;exact QnQ ho hs hH hf hx hy ht hz (Nat.eq_of_beq_eq_true hc.1) hsrc (Nat.le_of_ble_eq_true hc.2.1) (Nat.le_of_ble_eq_true hc.2.2.1) (by simpa[Nat.blt_eq]using hc.2.2.2)
      ·cases h
    ·rename_i p off q;obtain⟨hc,h⟩:=bif_in h;have ho0:=Nat.eq_of_beq_eq_true hc;subst ho0;split at h
     ·rename_i r hg;cases hfit:Nat.ble (k+m) c with
      | true=>
       rw[hfit]at h;obtain⟨hc,rfl⟩:=bif_some h;exact Qno ho hs hH hf hx hy ht hsrc hg (Nat.le_of_ble_eq_true hfit) (Nat.le_of_ble_eq_true hc)
      | false=>
       rw[hfit]at h;simp only[cond_false]at h;split at h
       ·rename_i z hz _;obtain⟨hc,rfl⟩:=bif_some h;simp only[Bool.and_eq_true]at hc;obtain⟨⟨c1,c2,c3,c4,c5⟩,⟨c6,c7⟩,c8,c9,c10⟩:=hc;exact QnL ho hs hH hf hx hy ht hz (Nat.eq_of_beq_eq_true c1) hsrc hg (Nat.eq_of_beq_eq_true c2) (Nat.eq_of_beq_eq_true c3) (Nat.eq_of_beq_eq_true c4) (by simpa[Nat.blt_eq]using c5) (Nat.le_of_ble_eq_true c6) (Nat.le_of_ble_eq_true c7) (Nat.le_of_ble_eq_true c8) (Nat.le_of_ble_eq_true c9) (by simpa[Nat.blt_eq]using c10)
       ·cases h
     ·cases h
   ·cases h
 ·cases h
theorem Qrt{dt st:Nat}{d s:Operand}(ho:o.op=.call {callee:=.builtin .copy,args:=#[d,s],argTypes:=#[dt,st]})(hs:SR ρ L L')(hH:HM ρ H As)(hf:QQ ρ n)(h:Qov P L H n dt d s=some a):QaV P o L' w0 ρ H n As a:=by
 unfold Qov at h;split at h
 ·rename_i p i q k c p2 i2 q2 k2 c2 e sz by' hd hx ht;split at h
  ·rename_i r r2 hg hg2;obtain⟨hc,rfl⟩:=bif_some h;simp only[Bool.and_eq_true]at hc;exact QvI ho hs hH hf hd hx ht hg hg2 (Nat.le_of_ble_eq_true hc.1) (Nat.le_of_ble_eq_true hc.2)
  ·cases h
 ·rename_i p i q k c l e sz by' hd hx ht;split at h
  ·rename_i r hg;obtain⟨hc,rfl⟩:=bif_some h;simp only[Bool.and_eq_true]at hc;have h1:=Nat.eq_of_beq_eq_true hc.1;subst h1;exact QsR ho hs hH hf hd hx ht hg (Nat.le_of_ble_eq_true hc.2)
  ·cases h
 ·cases h
theorem QnD{t:Nat}{x:Operand}(ho:o.op=.call {callee:=.builtin .clear,args:=#[x],argTypes:=#[t]})(hs:SR ρ L L')(hH:HM ρ H As)(hf:QQ ρ n)(h:Qlb P L H n t x=some a):QaV P o L' w0 ρ H n As a:=by
 unfold Qlb at h;split at h
 ·rename_i p i q k c e sz by' hx ht;split at h
  ·rename_i r z hg hz;obtain⟨hc,rfl⟩:=bif_some h;simp only[Bool.and_eq_true]at hc;obtain⟨c1,c2,c3,c4,c5⟩:=hc;exact Qtk ho hs hH hf hx ht hz (Nat.eq_of_beq_eq_true c1) c2 c3 c4 hg (Nat.le_of_ble_eq_true c5)
  ·cases h
 ·cases h
theorem QpJ{vs us:List Value}(h:Qu (XZ ρ) vs=some us):Qu (den ρ) vs=some us:=Xx (λa b e=>Qfg (QdS (QoK e))) h
theorem Qkr{f:Operand}{args:Array Operand}{ts:Array TypeId}{r0:Rho}(hF:CallOk P r0 F)(h0:r0.le ρ)(ho:o.op=.call {callee:=.value f,args:=args,argTypes:=ts})(hs:SR ρ L L')(hH:HM ρ H As)(hf:QQ ρ n)(h:Qfi P H n F (opd L f) (QdU L args.toList)=some a):QaV P o L' w0 ρ H n As a:=by
 unfold Qfi at h;split at h
 ·rename_i g first cap vs hx hvs
  obtain⟨hc,h⟩:=bif_in h;split at h
  ·rename_i v H' n' hr;injection h with h
   subst h;obtain⟨u,e1,e2⟩:=Zh hs hx;simp only[den,Xt,QV,Qdo]at e2;split at e2
   ·rename_i f' a' b' g1 g2 g3;injection g1 with g1
    subst g1;injection e2 with e2
    subst e2;obtain⟨us,e3,e4⟩:=Qfa hs hvs;have hall:=Za (Za (QpJ g2) e4) (QpJ g3);refine⟨{x:Rho×List HA×Value // ρ.le x.1/\QQ x.1 n'/\den x.1 v=some x.2.2/\HM x.1 H' x.2.1},λx=>x.1.2.2,λ_=>True,λx=>HS w0 [] x.1.2.1,λag w hρ hw=>?_,λx _=>⟨x.1.1,x.1.2.1,x.2.1,x.2.2.1,x.2.2.2.1,x.2.2.2.2,λ_ h=>h⟩⟩;rw[ZK ho hρ e1 hc e3];have hcall:=hF.f r0 F.y hF.y _ _ _ _ _ _ _ hr w0 ρ _ As h0 hall hH hf w hw;have hargs:(a'++us++b').toArray=a'.toArray++us.toArray++b'.toArray:=by simp
    rw[hargs]at hcall;exact Calls.mono hcall λe w'⟨ρ',As',u',h1,h2,h3,h4,h5,h6⟩=>⟨u',h5,⟨(ρ',As',u'),h1,h2,h3,h4⟩,rfl,trivial,h6⟩
   ·cases e2
  ·cases h
 ·rename_i k vs hx hvs;split at h
  ·rename_i v H' n' hr;injection h with h
   subst h;obtain⟨u,e1,e2⟩:=Zh hs hx;obtain⟨us,e3,e4⟩:=Qfa hs hvs;obtain⟨x,hk,hy⟩:=hF.y _ _ _ _ _ _ _ hr w0 ρ us As h0 e4 hH hf;simp only[den,Xt,QV,Qdo,hk,Qu,Option.some.injEq]at e2;subst e2;refine⟨{x:Rho×List HA×Value // ρ.le x.1/\QQ x.1 n'/\den x.1 v=some x.2.2/\HM x.1 H' x.2.1},λx=>x.1.2.2,λ_=>True,λx=>HS w0 [] x.1.2.1,?_,λx _=>⟨x.1.1,x.1.2.1,x.2.1,x.2.2.1,x.2.2.2.1,x.2.2.2.2,λ_ h=>h⟩⟩;refine Qmy (l:=x.1) ho e1 e3 λw hw=>?_;obtain⟨f,tmps,assign,body,y1,y2⟩:=hy w hw;exact⟨f,tmps,assign,body,y1,RoundIn.mono y2 λe w'⟨ρ',As',u',h1,h2,h3,h4,h5,h6⟩=>⟨⟨(ρ',As',u'),h1,h2,h3,h4⟩,h5,trivial,h6⟩⟩
  ·cases h
 ·cases h
theorem Qkb{b:Builtin}{args:Array Operand}{ts:Array TypeId}(ho:o.op=.call {callee:=.builtin b,args:=args,argTypes:=ts})(hs:SR ρ L L')(hH:HM ρ H As)(hf:QQ ρ n)(h:Qer P L H n b args.toList ts.toList=some a):QaV P o L' w0 ρ H n As a:=by
 unfold Qer at h;split at h
 ·rename_i x t h1 h2;rw[Qew h1,Qew h2]at ho;split at h
  ·rename_i l hx;obtain⟨hc,rfl⟩:=bif_some h;exact QuX ho hs hx hc
  ·rename_i p k c hx;obtain⟨hc,rfl⟩:=bif_some h;exact QuV ho hs hx hc
  ·rename_i p i q hx;obtain⟨hc,rfl⟩:=bif_some h;exact Qu5 ho hs hx hc
  ·cases h
 ·rename_i x t h1 h2;rw[Qew h1,Qew h2]at ho;split at h
  ·rename_i k c hx;obtain⟨hc,rfl⟩:=bif_some h;exact Qu2 ho hs hx hc
  ·cases h
 ·rename_i x y h1;rw[Qey h1]at ho;split at h
  ·rename_i k p k' q hx hy;obtain⟨hc,rfl⟩:=bif_some h;exact Qvl ho hs hx hy hc
  ·cases h
 ·rename_i x y h1;rw[Qey h1]at ho;split at h
  ·rename_i k p k' q hx hy;obtain⟨hc,rfl⟩:=bif_some h;exact Qwh ho hs hx hy hc
  ·cases h
 ·grind[Qey,Qln]
 ·grind[Qey,Qrt]
 ·grind[Qew,QnD]
 ·cases h
theorem Qlv{t:Nat}{m x:Operand}(ho:o.op=.lookup t m x false)(hs:SR ρ L L')(hH:HM ρ H As)(h:QaZ P H t (opd L m) (opd L x)=some a):QaV P o L' w0 ρ H n As a:=by
 unfold QaZ at h;split at h
 ·rename_i r k h1 h2;split at h
  ·rename_i kt et ks h3 h4;split at h
   ·rename_i h5 h6;injection h with h
    subst h;exact Qq3 ho hs hH h1 h2 h3 h5 h6 h4
   ·cases h
  ·cases h
 ·cases h
theorem Qhq{t:Nat}{m x y:Operand}(ho:o.op=.mapUpdate t m x y)(hs:SR ρ L L')(hH:HM ρ H As)(hf:QQ ρ n)(h:Qdz P H n t (opd L m) (opd L x) (opd L y)=some a):QaV P o L' w0 ρ H n As a:=by
 unfold Qdz at h;split at h
 ·rename_i r k h1 h2 h2';split at h
  ·rename_i kt et ks h3 h4;split at h
   ·rename_i h6;injection h with h
    subst h;exact QjB (.inl ho) hs hH hf h1 h2 h2' h3 h6 h4
   ·cases h
  ·cases h
 ·cases h
theorem Z7{op:Op}{r0:Rho}(hF:CallOk P r0 F)(h0:r0.le ρ)(ho:o.op=op)(hs:SR ρ L L')(hH:HM ρ H As)(hf:QQ ρ n)(h:Xr P L H n F op=some a):QaV P o L' w0 ρ H n As a:=by
 unfold Xr at h;split at h
 ·exact Qfw h λv hv=>QpB (.inl ho) hs hv
 ·exact Qfw h λv hv=>QpB (.inr ho) hs hv
 ·split at h
  ·rename_i t x y h1 h2 h3;injection h with h
   subst h;exact QvX ho hs h1 h2 h3
  ·cases h
 ·grind[Qfw,Qw5]
 ·split at h
  ·rename_i x h1;exact Qfw h λv hv=>un_R ho hs h1 hv
  ·cases h
 ·split at h
  ·rename_i x h1;split at h
   ·rename_i v hv;injection h with h
    subst h;exact QuA ho hs h1 hv
   grind[Qp3]
  ·cases h
 ·split at h
  ·rename_i vs h1;exact Qfw h λv hv=>Qoi ho hs h1 hv
  ·cases h
 ·split at h
  ·rename_i x y h1 h2;obtain⟨hc,rfl⟩:=bif_some h;simp only[Bool.and_eq_true]at hc;exact QlL ho hs h1 h2 hc.1 hc.2
  ·cases h
 ·split at h
  ·rename_i m i h1;injection h with h
   subst h;exact QkX ho hs h1
  ·rename_i f x y h1;injection h with h
   subst h;exact QkB ho hs h1
  ·cases h
 ·grind[Qfw,Qnh]
 ·grind[Qfw,QnX]
 ·grind[Qfw,Qor]
 ·grind[Qfw,QlM]
 ·grind[Qfw,Qhn]
 ·grind[Qfw,Qht]
 ·grind[Qfw,Qnl]
 ·split at h
  ·rename_i v hv;injection h with h
   subst h;exact QpE ho hs hH hv
  ·cases h
 ·exact Qoq ho hs hH hf h
 ·unfold QvB at h;split at h
  ·rename_i z hz;obtain⟨hc,rfl⟩:=bif_some h;exact QsU ho hz hc hH hf
  ·cases h
 ·unfold Qu0 at h;split at h
  ·rename_i v hv;obtain⟨hc,rfl⟩:=bif_some h;exact QwD ho hs hv hc hH hf
  ·cases h
 ·split at h
  ·rename_i e sz by' ht;injection h with h
   subst h;exact Qhl ho ht hH hf
  ·cases h
 ·exact Qg2 ho hs hH hf h
 ·exact Qhp ho hs hH hf h
 ·exact Qkb ho hs hH hf h
 ·rename_i g args ts;split at h
  ·rename_i vs hvs;split at h
   ·rename_i v hv;injection h with h
    subst h;obtain⟨us,e3,e4⟩:=Qfa hs hvs;obtain⟨u,e5,e6⟩:=hF.e _ _ _ hv w0 ρ us As e4 o L' args ts ho e3;exact⟨u,e6,e5⟩
   ·exact Qkr hF h0 ho hs hH hf (by rw[hvs];exact h)
  ·cases h
 ·grind[Qkr]
 ·injection h with h
  subst h;exact QnB ho hH hf
 ·exact Qlv ho hs hH h
 ·exact Qhq ho hs hH hf h
 ·cases h
end
end Ev
namespace Ev
open Go Go.RowKit
structure Clo(α:Type) where
 run:α
noncomputable def en(T:Tr Value):Env:=λt=>YS (pth t) t T
inductive An where
 | no
 | p (v:Value)
 | q (m:Option Nat) (v:Value)
 | new (v:Value) (x:HX)
 | h (v:Value) (H:Hp) (n:Nat)
abbrev VF:=Tr Value->Option Value
abbrev OpF:=CallF->Tr Value->Hp->Nat->An
def QuD(P:Program)(op:Op)(F:CallF)(T:Tr Value)(H:Hp)(n:Nat):An->Prop
 | .no=>True
 | .p v=>Xr P (en T) H n F op=some (.p v)
 | .q m v=>(∀H2,(∀k,m=some k->Yv H2 k=Yv H k)->Xr P (en T) H2 n F op=some (.q v))/\∀k,m=some k->∃r,Yv H k=some r
 | .new v x=>Xr P (en T) H n F op=some (.h v (YR H n x) (n+1))
 | .h v H' n'=>Xr P (en T) H n F op=some (.h v H' n')
def Qam(P:Program)(op:Op)(f:OpF):Prop:=∀F,True->∀T H n,QuD P op F T H n (f F T H n)
noncomputable def anP:Option Value->An:=λx=>Option.rec .no (λv=>.p v) x
theorem Qlq{P:Program}{op:Op}{F:CallF}{T:Tr Value}{H:Hp}{n:Nat}{x:Option Value}(h:∀v,x=some v->Xr P (en T) H n F op=some (.p v)):QuD P op F T H n (anP x):=by
 cases x with
 | none=>trivial
 | some v=>exact h v rfl
noncomputable def fbF(P:Program)(op:Op):OpF:=λF T H n=>match Xr P (en T) H n F op with
 | some (.p v)=>.p v
 | some (.h v H n)=>.h v H n
 | _=>.no
theorem QqX(P:Program)(op:Op):Qam P op (fbF P op):=by
 intro F hF T H n;unfold fbF;split<;>first|assumption|trivial
noncomputable def QtC(l:List Value):Nat->Option Value:=List.rec (λ_=>none) (λa _ ih i=>Nat.rec (some a) (λj _=>ih j) i) l
theorem QfN:∀(l:List Value)(i:Nat),QtC l i=l[i]?
 | [],i=>by cases i<;>rfl
 | a::l,0=>rfl
 | a::l,i+1=>QfN l i
noncomputable def QkU(l:List Value):Nat->Option (List Value):=
 List.rec (λn=>Nat.rec (some []) (λ_ _=>none) n) (λa _ ih n=>Nat.rec (some []) (λj _=>Option.rec none (λm=>some (a::m)) (ih j)) n) l
theorem Qf8:∀(l:List Value)(n:Nat){c:List Value},QkU l n=some c->n<=l.length/\c=l.take n
 | [],0,c,h=>by cases h;exact⟨Nat.le_refl _,rfl⟩
 | [],n+1,c,h=>by cases h
 | a::l,0,c,h=>by cases h;exact⟨Nat.zero_le _,rfl⟩
 | a::l,n+1,c,h=>by
  have h':(Option.rec none (λm=>some (a::m)) (QkU l n):Option (List Value))=some c:=h;cases hm:QkU l n with
  | none=>rw[hm]at h';cases h'
  | some m=>
   rw[hm]at h';injection h' with h'
   obtain⟨h1,h2⟩:=Qf8 l n hm
   grind
noncomputable def QrZ(l:List Value):Nat->Nat->Option (List Value):=
 List.rec (λi n=>Nat.rec (QkU [] n) (λ_ _=>none) i) (λa t ih i n=>Nat.rec (QkU (a::t) n) (λj _=>ih j n) i) l
theorem QfK:∀(l:List Value)(i n:Nat){c:List Value},QrZ l i n=some c->i+n<=l.length/\c=cut l i n
 | [],0,n,c,h=>by
  obtain⟨h1,h2⟩:=Qf8 [] n h;exact⟨om,h2⟩
 | [],i+1,n,c,h=>by cases h
 | a::l,0,n,c,h=>by
  obtain⟨h1,h2⟩:=Qf8 (a::l) n h;exact⟨om,h2⟩
 | a::l,i+1,n,c,h=>by
  obtain⟨h1,h2⟩:=QfK l i n h
  grind[cut]
noncomputable def QoU(vs:List Value):List Value->Option (List Value):=
 List.rec (λl=>some l) (λv _ ih l=>List.rec none (λ_ l' _=>Option.rec none (λm=>some (v::m)) (ih l')) l) vs
noncomputable def setO(l:List Value):Nat->List Value->Option (List Value):=
 List.rec (λi vs=>Nat.rec (QoU vs []) (λ_ _=>none) i) (λa t ih i vs=>Nat.rec (QoU vs (a::t)) (λj _=>Option.rec none (λm=>some (a::m)) (ih j vs)) i) l
theorem Ze(a:Value):∀(vs l:List Value)(i:Nat),Qf (a::l) (i+1) vs=a::Qf l i vs
 | [],l,i=>rfl
 | v::vs,l,i=>by simp_all[Qf,Ze]
theorem Qik:∀(vs l:List Value){m:List Value},QoU vs l=some m->vs.length<=l.length/\m=Qf l 0 vs
 | [],l,m,h=>by cases h;exact⟨Nat.zero_le _,rfl⟩
 | v::vs,[],m,h=>by cases h
 | v::vs,a::l,m,h=>by
  have h':(Option.rec none (λm=>some (v::m)) (QoU vs l):Option (List Value))=some m:=h;cases hm:QoU vs l with
  | none=>rw[hm]at h';cases h'
  | some x=>
   rw[hm]at h';injection h' with h'
   obtain⟨h1,h2⟩:=Qik vs l hm
   grind[Qf,Ze]
theorem QlR:∀(l:List Value)(i:Nat)(vs:List Value){m:List Value},setO l i vs=some m->i+vs.length<=l.length/\m=Qf l i vs
 | [],0,vs,m,h=>by
  obtain⟨h1,h2⟩:=Qik vs [] h
  grind
 | [],i+1,vs,m,h=>by cases h
 | a::l,0,vs,m,h=>by
  obtain⟨h1,h2⟩:=Qik vs (a::l) h
  grind
 | a::l,i+1,vs,m,h=>by
  have h':(Option.rec none (λm=>some (a::m)) (setO l i vs):Option (List Value))=some m:=h;cases hm:setO l i vs with
  | none=>rw[hm]at h';cases h'
  | some x=>
   rw[hm]at h';injection h' with h'
   obtain⟨h1,h2⟩:=QlR l i vs hm
   grind[Ze]
def Qfy:IntKind->Nat
 | .i8=>128
 | .i16=>32768
 | .i32=>2147483648
 | .i64=>9223372036854775808
 | .u8=>256
 | .u16=>65536
 | .u32=>4294967296
 | .u64=>18446744073709551616
def fw(k:IntKind)(z:Nat):Int:=bif Nat.blt z (Qfy k)then .ofNat z else k.wrap (.ofNat z)
theorem Qhb{k:IntKind}{z:Nat}(h:z<Qfy k):k.wrap (z:Int)=(z:Int):=by
 cases k<;>simp only[Qfy]at h<;>(simp only[IntKind.wrap,IntKind.signed,IntKind.bits];simp;omega)
theorem Qh9(k:IntKind)(z:Nat):fw k z=k.wrap (z:Int):=by
 unfold fw;cases hb:Nat.blt z (Qfy k)with
 | true=>exact(Qhb (by simpa[Nat.blt_eq]using hb)).symm
 | false=>rfl
end Ev
namespace Ev
open Go Go.RowKit
theorem QgI{op:BinOp}{k:IntKind}{x y:Nat}(hx:x<Qfy k)(hy:y<Qfy k):bits .and k (x:Int) (y:Int)=((x &&& y:Nat):Int)/\bits .or k (x:Int) (y:Int)=k.wrap ((x ||| y:Nat):Int):=by
 have hb:Qfy k<=2^k.bits:=by cases k<;>simp[Qfy,IntKind.bits]
 have ex:(BitVec.ofInt k.bits (x:Int)).toNat=x:=YY _ _ om;have ey:(BitVec.ofInt k.bits (y:Int)).toNat=y:=YY _ _ om;constructor
 ·show k.wrap (((BitVec.ofInt k.bits (x:Int)) &&& (BitVec.ofInt k.bits (y:Int)):BitVec k.bits).toNat:Int)=_;rw[BitVec.toNat_and,ex,ey];exact Qhb (Nat.lt_of_le_of_lt Nat.and_le_left hx)
 ·show k.wrap (((BitVec.ofInt k.bits (x:Int)) ||| (BitVec.ofInt k.bits (y:Int)):BitVec k.bits).toNat:Int)=_
  grind
theorem d_eq(x y:Nat):decide (Int.ofNat x=Int.ofNat y)=Nat.beq x y:=by
 rw[Bool.eq_iff_iff,decide_eq_true_eq,Nat.beq_eq];constructor
 ·intro h;injection h
 ·intro h;rw[h]
abbrev IF:=IntKind->Nat->Nat->Option Value
noncomputable def Qj0:BinOp->Option (Clo IF)
 | .add=>some ⟨λk x y=>some (.int k (fw k (Nat.add x y)))⟩
 | .sub=>some ⟨λk x y=>bif Nat.ble y x then some (.int k (fw k (Nat.sub x y)))else some (.int k (k.wrap (Int.subNatNat x y)))⟩
 | .mul=>some ⟨λk x y=>some (.int k (fw k (Nat.mul x y)))⟩
 | .eql=>some ⟨λ_ x y=>some (.bool (Nat.beq x y))⟩
 | .neq=>some ⟨λ_ x y=>some (.bool (Bool.not (Nat.beq x y)))⟩
 | .lss=>some ⟨λ_ x y=>some (.bool (Nat.blt x y))⟩
 | .leq=>some ⟨λ_ x y=>some (.bool (Nat.ble x y))⟩
 | .gtr=>some ⟨λ_ x y=>some (.bool (Nat.blt y x))⟩
 | .geq=>some ⟨λ_ x y=>some (.bool (Nat.ble y x))⟩
 | .and=>some ⟨λk x y=>bif Nat.blt x (Qfy k)&&Nat.blt y (Qfy k)then some (.int k (.ofNat (Nat.land x y)))else none⟩
 | .or=>some ⟨λk x y=>bif Nat.blt x (Qfy k)&&Nat.blt y (Qfy k)then some (.int k (fw k (Nat.lor x y)))else none⟩
 | .quo=>some ⟨λk x y=>bif Nat.beq y 0 then none else some (.int k (fw k (Nat.div x y)))⟩
 | .rem=>some ⟨λk x y=>bif Nat.beq y 0 then none else some (.int k (.ofNat (Nat.mod x y)))⟩
 | _=>none
theorem Qo9{op:BinOp}{c:Clo IF}{k:IntKind}{x y:Nat}{v:Value}(P:Program)(t:TypeId)(h:Qj0 op=some c)(hv:c.run k x y=some v):Z2 P op t (.int k (.ofNat x)) (.int k (.ofNat y))=some v:=by
 have hk:kEq k k=true:=by cases k<;>rfl
 unfold Qj0 at h;split at h<;>first|(injection h with h;subst h)|cases h
 ·grind[Z2,Xf,X1,Qh9]
 ·cases hb:Nat.ble y x with
  | true=>
   simp only[hb,cond_true]at hv;injection hv with hv;subst hv
   simp only[Z2,Xf,hk,cond_true,X1];rw[Qh9];have:=Nat.le_of_ble_eq_true hb
   grind
  | false=>grind[Z2,Xf,X1]
 ·grind[Z2,Xf,X1,Qh9]
 ·grind[Z2,Xf,X1,d_eq]
 ·grind[Z2,Xf,X1,d_eq]
 ·injection hv with hv;subst hv
  simp only[Z2,Xf,hk,cond_true,X1];congr 2;rw[Bool.eq_iff_iff];simp[Nat.blt_eq]
 ·injection hv with hv;subst hv
  simp only[Z2,Xf,hk,cond_true,X1];congr 2;rw[Bool.eq_iff_iff];simp[Nat.ble_eq]
 ·injection hv with hv;subst hv
  simp only[Z2,Xf,hk,cond_true,X1];congr 2;rw[Bool.eq_iff_iff];simp[Nat.blt_eq]
 ·injection hv with hv;subst hv
  simp only[Z2,Xf,hk,cond_true,X1];congr 2;rw[Bool.eq_iff_iff];simp[Nat.ble_eq]
 ·obtain⟨hc,rfl⟩:=bif_some hv;simp only[Bool.and_eq_true,Nat.blt_eq]at hc;simp only[Z2,Xf,hk,cond_true,X1];rw[show bits .and k (Int.ofNat x) (Int.ofNat y)=_ from(QgI (op:=.and) hc.1 hc.2).1];rfl
 ·obtain⟨hc,rfl⟩:=bif_some hv;simp only[Bool.and_eq_true,Nat.blt_eq]at hc;simp only[Z2,Xf,hk,cond_true,X1];rw[show bits .or k (Int.ofNat x) (Int.ofNat y)=_ from(QgI (op:=.or) hc.1 hc.2).2,Qh9];rfl
 ·cases hb:Nat.beq y 0 with
  | true=>simp only[hb,cond_true]at hv;cases hv
  | false=>
   simp only[hb,cond_false]at hv;injection hv with hv;subst hv
   have hy:y≠0:=λe=>by subst e;cases hb
   have h0:decide ((Int.ofNat y)=0)=false:=by simpa using hy
   simp only[Z2,Xf,hk,cond_true,X1,h0,Bool.not_false,Bool.and_true];rw[Qh9];rfl
 ·cases hb:Nat.beq y 0 with
  | true=>simp only[hb,cond_true]at hv;cases hv
  | false=>
   simp only[hb,cond_false]at hv;injection hv with hv;subst hv
   have hy:y≠0:=λe=>by subst e;cases hb
   have h0:decide ((Int.ofNat y)=0)=false:=by simpa using hy
   simp only[Z2,Xf,hk,cond_true,X1,h0,Bool.not_false,Bool.and_true];rfl
end Ev
namespace Ev
open Go Go.RowKit
noncomputable def XT:Operand->Clo VF
 | .tmp t=>⟨YS (pth t) t⟩
 | .const v=>Bool.rec ⟨λ_=>none⟩ ⟨λ_=>some v⟩ (flat v)
 | .func f=>⟨λ_=>some (.func (.func f) #[] #[])⟩
 | _=>⟨λ_=>none⟩
theorem QZ(x:Operand)(T:Tr Value):(XT x).run T=opd (en T) x:=by
 cases x with
 | const v=>
  simp only[XT,opd];cases flat v<;>rfl
 | _=>rfl
noncomputable def Qh1:List Operand->Clo (Tr Value->Option (List Value))
 | []=>⟨λ_=>some []⟩
 | x::l=>⟨λT=>Option.rec none (λv=>Option.rec none (λvs=>some (v::vs)) ((Qh1 l).run T)) ((XT x).run T)⟩
theorem Qg9(T:Tr Value):∀l,(Qh1 l).run T=QdU (en T) l
 | []=>rfl
 | x::l=>by
  show(Option.rec none (λv=>Option.rec none (λvs=>some (v::vs)) ((Qh1 l).run T)) ((XT x).run T):Option (List Value))=_;rw[Qg9 T l,QZ];simp only[QdU];cases opd (en T) x<;>cases QdU (en T) l<;>rfl
def VOk(P:Program)(op:Op)(f:VF):Prop:=∀T v,f T=some v->∀F H n,Xr P (en T) H n F op=some (.p v)
noncomputable def ofV(f:VF):OpF:=λ_ T _ _=>anP (f T)
theorem Qa4{P:Program}{op:Op}{f:VF}(h:VOk P op f):Qam P op (ofV f):=λF hF T H n=>Qlq λv hv=>h T v hv F H n
theorem Ya{x:Option Value}{v:Value}(h:x=some v):Qel x=some (.p v):=by rw[h];rfl
noncomputable def QuL(P:Program)(op:BinOp)(t:TypeId)(c:Option (Clo IF))(a b:Value):Option Value:=
 Option.rec (Z2 P op t a b) (λc=>match a with
  | .int k (.ofNat x)=>match b with
   | .int k' (.ofNat y)=>bif kEq k k' then(match c.run k x y with
    | some v=>some v
    | none=>Z2 P op t a b)else none
   | b=>Z2 P op t a b
  | a=>Z2 P op t a b) c
theorem QrY{P:Program}{op:BinOp}{t:TypeId}{a b v:Value}(h:QuL P op t (Qj0 op) a b=some v):Z2 P op t a b=some v:=by
 unfold QuL at h;cases hc:Qj0 op with
 | none=>rw[hc]at h;exact h
 | some c=>
  rw[hc]at h;simp only[]at h;split at h
  ·split at h
   ·obtain⟨hk,h⟩:=bif_in h
    grind[QcK,Qo9]
   ·exact h
  ·exact h
noncomputable def QqN(P:Program)(op:BinOp)(t:TypeId)(x y:Operand):Clo VF:=
 ⟨λT=>Option.rec none (λa=>Option.rec none (λb=>QuL P op t (Qj0 op) a b) ((XT y).run T)) ((XT x).run T)⟩
theorem Qi0{P:Program}{op:BinOp}{t t':TypeId}{x y:Operand}:VOk P (.binOp op t x y t') (QqN P op t x y).run:=by
 intro T v h F H n;unfold QqN at h;simp only[QZ]at h;cases hx:opd (en T) x with
 | none=>rw[hx]at h;cases h
 | some a=>
  cases hy:opd (en T) y with
  | none=>rw[hx,hy]at h;cases h
  | some b=>simp_all[Xr,Ya,QrY]
noncomputable def QqB(c a b:Operand):Clo VF:=⟨λT=>match(XT c).run T with
 | some (.bool t)=>(match(XT a).run T with
  | some x=>(match(XT b).run T with
   | some y=>some (Bool.rec y x t)
   | none=>none)
  | none=>none)
 | _=>none⟩
theorem QoM{P:Program}{c a b:Operand}:VOk P (.pick c a b) (QqB c a b).run:=by
 intro T v h F H n;unfold QqB at h;simp only[QZ]at h;unfold Xr;split at h
 ·rename_i t h1;split at h
  ·rename_i x h2;split at h
   ·rename_i y h3;injection h with h
    subst h;simp only[h1,h2,h3];cases t<;>rfl
   ·cases h
  ·cases h
 ·cases h
noncomputable def QuH(x:Operand)(i:Nat):Clo VF:=⟨λT=>match(XT x).run T with
 | some (.tuple ⟨l⟩)=>QtC l i
 | _=>none⟩
theorem Qsf{P:Program}{x:Operand}{i:Nat}:VOk P (.extract x i) (QuH x i).run:=by
 intro T v h F H n;unfold QuH at h
 grind[QZ,QfN,Xr,Ya]
noncomputable def Qlg(P:Program)(st:Nat)(x:Operand)(f:Nat):Clo VF:=match tfd P st f with
 | some (off,ft)=>match tsz P ft with
  | some (k,true)=>⟨λT=>match(XT x).run T with
   | some (.agg ⟨l⟩)=>(match QrZ l off k with
    | some c=>some (.agg ⟨c⟩)
    | none=>none)
   | _=>none⟩
  | some (k,false)=>⟨λT=>match(XT x).run T with
   | some (.agg ⟨l⟩)=>QtC l off
   | _=>none⟩
  | none=>⟨λ_=>none⟩
 | none=>⟨λ_=>none⟩
theorem QnO{P:Program}{st f:Nat}{x:Operand}:VOk P (.field st x f) (Qlg P st x f).run:=by
 intro T v h F H n;unfold Qlg at h;unfold Xr;split at h
 ·rename_i off ft h1;split at h
  ·rename_i k h2;simp only[QZ]at h;split at h
   ·rename_i l h3;split at h
    ·rename_i c h4;injection h with h
     subst h;obtain⟨_,rfl⟩:=QfK l off k h4
     grind[Ya,Qgo]
    ·cases h
   ·cases h
  ·grind[QZ,QfN,Ya,Qgo]
  ·cases h
 ·cases h
noncomputable def cFA(P:Program)(st:Nat)(x:Operand)(f:Nat):Clo VF:=match tfd P st f with
 | some (off,ft)=>match tsz P ft with
  | some (k,_)=>bif Nat.blt 0 k then⟨λT=>match(XT x).run T with
   | some (.pointer (some ⟨m,i,none⟩))=>some (.pointer (some ⟨m,Nat.add i off,none⟩))
   | _=>none⟩else⟨λ_=>none⟩
  | none=>⟨λ_=>none⟩
 | none=>⟨λ_=>none⟩
theorem Qvq{P:Program}{st f:Nat}{x:Operand}:VOk P (.fieldAddr st x f) (cFA P st x f).run:=by
 intro T v h F H n;unfold cFA at h;unfold Xr;split at h
 ·rename_i off ft h1;split at h
  ·rename_i k ag h2;cases hk:Nat.blt 0 k with
   | false=>rw[hk]at h;cases h
   | true=>
    rw[hk]at h
    grind[QZ,Ya,QbK]
  ·cases h
 ·cases h
noncomputable def cIA(P:Program)(t:Nat)(x y:Operand):Clo VF:=match tsl P t with
 | some (_,sz,_)=>⟨λT=>match(XT x).run T with
   | some (.slice (some ⟨m,off,_⟩) l _)=>(match(XT y).run T with
    | some (.int _ (.ofNat j))=>bif Nat.blt j l then some (.pointer (some ⟨m,Nat.add off (Nat.mul j sz),none⟩))else none
    | _=>none)
   | _=>none⟩
 | none=>match tar P t with
  | some (len,_,sz)=>⟨λT=>match(XT x).run T with
   | some (.pointer (some ⟨m,off,none⟩))=>(match(XT y).run T with
    | some (.int _ (.ofNat j))=>bif Nat.blt j len then some (.pointer (some ⟨m,Nat.add off (Nat.mul j sz),none⟩))else none
    | _=>none)
   | _=>none⟩
  | none=>⟨λ_=>none⟩
theorem QuP{P:Program}{t:Nat}{x y:Operand}:VOk P (.indexAddr t x y) (cIA P t x y).run:=by
 intro T v h F H n;unfold cIA at h;unfold Xr;split at h
 ·rename_i e sz by' h1;simp only[QZ]at h;split at h
  ·rename_i m off q l c h2;split at h
   ·simp_all[bif_some,Ya,QaD,vN]
   ·cases h
  ·cases h
 ·split at h
  ·rename_i len e sz h1;simp only[QZ]at h;split at h
   ·rename_i m off h2;split at h
    ·simp_all[bif_some,Ya,QaD,vN]
    ·cases h
   ·cases h
  ·cases h
noncomputable def Qt9(l:List UInt8):Nat->Option Nat:=List.rec (λ_=>none) (λa _ ih i=>Nat.rec (some a.toNat) (λj _=>ih j) i) l
theorem Qjl:∀(l:List UInt8)(i:Nat){b:Nat},Qt9 l i=some b->i<l.length/\b=(l.getD i 0).toNat
 | [],i,b,h=>by cases i<;>cases h
 | a::l,0,b,h=>by cases h;exact⟨Nat.succ_pos _,rfl⟩
 | a::l,i+1,b,h=>by
  obtain⟨h1,h2⟩:=Qjl l i h
  grind
noncomputable def QvL(P:Program)(t:Nat)(x y:Operand):Clo VF:=bif Xc P t then⟨λT=>match(XT x).run T with
   | some (.string ⟨⟨l⟩⟩)=>(match(XT y).run T with
    | some (.int _ (.ofNat j))=>(match Qt9 l j with
     | some b=>some (.int .u8 (.ofNat b))
     | none=>none)
    | _=>none)
   | _=>none⟩else⟨λT=>QgL P t ((XT x).run T) (vN ((XT y).run T))⟩
theorem Qtz{P:Program}{t:Nat}{x y:Operand}:VOk P (.index t x y) (QvL P t x y).run:=by
 intro T v h F H n;unfold QvL at h;unfold Xr;cases ht:Xc P t with
 | false=>simp_all[QZ,Ya]
 | true=>
  rw[ht]at h;simp only[cond_true,QZ]at h;split at h
  ·rename_i l h1;split at h
   ·rename_i k j h2;split at h
    ·rename_i b h3;injection h with h
     subst h;obtain⟨h4,rfl⟩:=Qjl l j h3;refine Ya ?_;simp only[QgL,h1,h2,vN,ht,Bool.true_and];rw[show Nat.blt j l.length=true by simpa[Nat.blt_eq]using h4];rfl
    ·cases h
   ·cases h
  ·cases h
noncomputable def Qvb(P:Program)(t:Nat)(x:Operand):Clo VF:=bif Xc P t then⟨λT=>match(XT x).run T with
   | some (.string ⟨⟨l⟩⟩)=>some (.int .i64 (.ofNat l.length))
   | _=>none⟩else bif Xh P t then⟨λT=>match(XT x).run T with
   | some (.slice _ k _)=>some (.int .i64 (.ofNat k))
   | some (.pointer (some ⟨_,_,some _⟩))=>some (.int .i64 0)
   | _=>none⟩else⟨λ_=>none⟩
theorem QsT{P:Program}{t:Nat}{x:Operand}:VOk P (.call ⟨.builtin .len,#[x],#[t]⟩) (Qvb P t x).run:=by
 intro T v h F H n;unfold Qvb at h;unfold Xr Qer;cases ht:Xc P t with
 | true=>
  rw[ht]at h
  grind[QZ]
 | false=>
  rw[ht]at h;simp only[cond_false]at h;cases hs:Xh P t with
  | false=>rw[hs]at h;cases h
  | true=>
   rw[hs]at h
   grind[QZ]
end Ev
namespace Ev
open Go Go.RowKit
noncomputable def QrS(l:List UInt8):List UInt8->Bool:=
 List.rec (λm=>List.rec true (λ_ _ _=>false) m) (λa _ ih m=>List.rec false (λb m' _=>Bool.rec false (ih m') (Nat.beq a.toNat b.toNat)) m) l
theorem QfB:∀(l m:List UInt8),QrS l m=decide (l=m)
 | [],[]=>rfl
 | [],b::m=>rfl
 | a::l,[]=>rfl
 | a::l,b::m=>by
  show(Bool.rec false (QrS l m) (Nat.beq a.toNat b.toNat):Bool)=_;rw[QfB l m];cases hb:Nat.beq a.toNat b.toNat with
  | true=>
   have:a=b:=UInt8.toNat_inj.1 (Nat.eq_of_beq_eq_true hb);subst this;simp
  | false=>
   have:a≠b:=λe=>by subst e;rw[Nat.beq_refl]at hb;cases hb
   simp[this]
noncomputable def Qrl(P:Program)(op:BinOp)(t:TypeId)(x y:Operand):Clo VF:=match op with
 | .eql=>⟨λT=>match(XT x).run T with
  | some (.string ⟨⟨l⟩⟩)=>(match(XT y).run T with
   | some (.string ⟨⟨m⟩⟩)=>some (.bool (QrS l m))
   | _=>none)
  | _=>(QqN P .eql t x y).run T⟩
 | .neq=>⟨λT=>match(XT x).run T with
  | some (.string ⟨⟨l⟩⟩)=>(match(XT y).run T with
   | some (.string ⟨⟨m⟩⟩)=>some (.bool (Bool.not (QrS l m)))
   | _=>none)
  | _=>(QqN P .neq t x y).run T⟩
 | op=>QqN P op t x y
theorem QrB{P:Program}{op:BinOp}{t t':TypeId}{x y:Operand}:VOk P (.binOp op t x y t') (Qrl P op t x y).run:=by
 intro T v h F H n;unfold Qrl at h;split at h
 ·simp only[QZ]at h;split at h
  ·grind[Xr,Ya,Z2,Xf,Qec,QfB]
  ·exact Qi0 T v h F H n
 ·simp only[QZ]at h;split at h
  ·grind[Xr,Ya,Z2,Xf,Qec,QfB]
  ·exact Qi0 T v h F H n
 ·exact Qi0 T v h F H n
noncomputable def Qt3(l:List UInt8):List Value:=List.rec [] (λb _ ih=>.int .u8 (.ofNat b.toNat)::ih) l
theorem Qkf:∀l:List UInt8,Qt3 l=l.map λb=>.int .u8 (b.toNat:Int)
 | []=>rfl
 | b::l=>congrArg _ (Qkf l)
noncomputable def byS(v:Value)(ih:Option (List UInt8)):Option (List UInt8):=match v with
 | .int .u8 (.ofNat z)=>(match ih with
  | some r=>some (UInt8.ofNat z::r)
  | none=>none)
 | _=>none
noncomputable def byO(l:List Value):Option (List UInt8):=List.rec (some []) (λv _ ih=>byS v ih) l
theorem Qpw:∀(l:List Value){r:List UInt8},byO l=some r->l.all Qi2=true/\Xb l=true/\l.map vByte=r
 | [],r,h=>by cases h;exact⟨rfl,rfl,rfl⟩
 | v::l,r,h=>by
  have h':byS v (byO l)=some r:=h;unfold byS at h';split at h'
  ·rename_i z;split at h'
   ·rename_i r' hr;injection h' with h'
    subst h';obtain⟨h1,h2,h3⟩:=Qpw l hr;refine⟨?_,?_,?_⟩
    ·simpa[Qi2]using h1
    ·grind[Xb,flat]
    ·simp only[List.map_cons,h3];rfl
   ·cases h'
  ·cases h'
noncomputable def Qrp(P:Program)(src dst:TypeId)(x:Operand):Clo OpF:=match tki P src,tki P dst with
 | some k1,some k2=>⟨λ_ T _ _=>match(XT x).run T with
  | some (.int k0 (.ofNat z))=>bif kEq k0 k1 then .p (.int k2 (fw k2 z))else .no
  | some v=>anP (Qb0 P src dst v)
  | none=>.no⟩
 | _,_=>match Xc P src,P.underlying dst,P.underlying src with
  | true,some (.slice e),_=>bif Qb1 P e&&Nat.beq e u8T then⟨λ_ T H n=>match(XT x).run T with
   | some (.string ⟨⟨l⟩⟩)=>bif Nat.ble l.length maxLen then .new (.slice (some ⟨n,0,none⟩) l.length l.length) (.row ⟨e,1,Qt3 l⟩)else .no
   | _=>.no⟩else⟨λ_ _ _ _=>.no⟩
  | false,_,some (.slice e)=>bif Xc P dst&&Qb1 P e then⟨λ_ T H n=>match(XT x).run T with
   | some (.slice (some ⟨p,i,_⟩) k c)=>(match Yd H p with
    | some r=>(match QrZ r.cs i k with
     | some cs=>(match byO cs with
      | some l=>.q (some p) (.string (bs l))
      | none=>.no)
     | none=>.no)
    | none=>.no)
   | some (.slice none k c)=>bif Nat.beq k 0 then .q none (.string (bs []))else .no
   | some (.pointer (some ⟨_,_,some _⟩))=>.q none (.string (bs []))
   | _=>.no⟩else(bif Nat.beq src dst then⟨fbF P (.convert src dst x)⟩else⟨λ_ _ _ _=>.no⟩)
  | _,_,_=>⟨λ_ T _ _=>match(XT x).run T with
   | some v=>anP (Qb0 P src dst v)
   | none=>.no⟩
theorem QgN{P:Program}{src dst:TypeId}{x:Operand}{F:CallF}{T:Tr Value}{H:Hp}{n:Nat}{a v:Value}(h1:opd (en T) x=some a)(h:Qb0 P src dst a=some v):Xr P (en T) H n F (.convert src dst x)=some (.p v):=by
 simp only[Xr,h1,h]
theorem Qrd{P:Program}{src dst:TypeId}{x:Operand}:Qam P (.convert src dst x) (Qrp P src dst x).run:=by
 intro F hF T H n;unfold Qrp;split
 ·rename_i k1 k2 h1 h2;simp only[QZ];split
  ·rename_i k0 z h3;cases hk:kEq k0 k1 with
   | false=>exact trivial
   | true=>
    refine QgN h3 ?_
    grind[Qb0,Qh9]
  ·grind[Qlq,QgN]
  ·exact trivial
 ·rename_i hno;split
  ·rename_i e hs hd;cases hc:Qb1 P e&&Nat.beq e u8T with
   | false=>exact trivial
   | true=>
    simp only[cond_true,QZ];split
    ·rename_i l h3;cases hl:Nat.ble l.length maxLen with
     | false=>exact trivial
     | true=>
      simp only[cond_true];show Xr _ _ _ _ _ _=_;have hns:Xc P dst=false:=by simp[Xc,hd]
      have hcv:Qb0 P src dst (.string ⟨⟨l⟩⟩)=none:=by simp[Qb0,hns]
      simp only[Bool.and_eq_true]at hc;simp only[Xr,h3,hcv,Qf4,hd,hs,hc.1,hc.2,hl,Bool.and_self,cond_true,Qkf];rfl
    ·exact trivial
  ·rename_i e hs hu;cases hc:Xc P dst&&Qb1 P e with
   | false=>
    cases hd:Nat.beq src dst with
    | false=>exact trivial
    | true=>exact QqX P _ F hF T H n
   | true=>
    simp only[Bool.and_eq_true]at hc;simp only[cond_true,QZ];split
    ·rename_i p i q k c h3;split
     ·rename_i r hr;split
      ·rename_i cs h4;split
       ·rename_i l h5;obtain⟨g1,rfl⟩:=QfK _ _ _ h4;obtain⟨g2,g3,g4⟩:=Qpw _ h5;refine⟨λH2 h6=>?_,λk9 h9=>by injection h9 with h9;subst h9;exact⟨_,QdB hr⟩⟩;have hr2:Yd H2 p=some r:=by unfold Yd;rw[h6 p rfl,QdB hr]
        have hble:Nat.ble (i+k) r.cs.length=true:=Nat.ble_eq_true_of_le g1
        grind[Xr,Qb0,Qf4]
       ·exact trivial
      ·exact trivial
     ·exact trivial
    ·rename_i k c h3;cases hk:Nat.beq k 0 with
     | false=>exact trivial
     | true=>
      refine⟨λH2 _=>?_,λk9 h9=>by cases h9⟩
      grind[Xr,Qb0,Qf4]
    ·rename_i p i q h3;refine⟨λH2 _=>?_,λk9 h9=>by cases h9⟩
     grind[Xr,Qb0,Qf4]
    ·exact trivial
  ·simp only[QZ];split
   ·grind[Qlq,QgN]
   ·exact trivial
noncomputable def QpZ(P:Program)(t x:Nat):Clo OpF:=match tsz P t with
 | some (sz,true)=>⟨λ_ T H _=>match YS (pth x) x T with
  | some (.pointer (some ⟨m,i,none⟩))=>(match Yd H m with
   | some r=>(match QrZ r.cs i sz with
    | some c=>.q (some m) (.agg ⟨c⟩)
    | none=>.no)
   | none=>.no)
  | _=>.no⟩
 | some (sz,false)=>bif Nat.beq sz 1 then⟨λ_ T H _=>match YS (pth x) x T with
  | some (.pointer (some ⟨m,i,none⟩))=>(match Yd H m with
   | some r=>(match QtC r.cs i with
    | some c=>.q (some m) c
    | none=>.no)
   | none=>.no)
  | _=>.no⟩else⟨λ_ _ _ _=>.no⟩
 | none=>⟨λ_ _ _ _=>.no⟩
theorem QoP{P:Program}{t x:Nat}:Qam P (.load t (.tmp x)) (QpZ P t x).run:=by
 intro F hF T H n;unfold QpZ;split
 ·rename_i sz h1;simp only[];split
  ·rename_i m i h2;split
   ·rename_i r hr;split
    ·rename_i c h3;obtain⟨g1,rfl⟩:=QfK _ _ _ h3;refine⟨λH2 h6=>?_,λk9 h9=>by injection h9 with h9;subst h9;exact⟨_,QdB hr⟩⟩;have hr2:Yd H2 m=some r:=by unfold Yd;rw[h6 m rfl,QdB hr]
     have hble:Nat.ble (i+sz) r.cs.length=true:=Nat.ble_eq_true_of_le g1
     grind[Xr,QgD,en]
    ·exact trivial
   ·exact trivial
  ·exact trivial
 ·rename_i sz h1;cases hs:Nat.beq sz 1 with
  | false=>exact trivial
  | true=>
   simp only[cond_true];split
   ·rename_i m i h2;split
    ·rename_i r hr;split
     ·rename_i c h3;rw[QfN]at h3;refine⟨λH2 h6=>?_,λk9 h9=>by injection h9 with h9;subst h9;exact⟨_,QdB hr⟩⟩
      grind[Yd,QdB,Xr,QgD,en]
     ·exact trivial
    ·exact trivial
   ·exact trivial
 ·exact trivial
noncomputable def Qk3(P:Program)(t x:Nat)(y:Operand):Clo OpF:=match tsz P t with
 | some (sz,_)=>⟨λ_ T H n=>match YS (pth x) x T with
  | some (.pointer (some ⟨m,i,none⟩))=>(match(XT y).run T with
   | some v=>(match Yd H m with
    | some ⟨ty,s,cs⟩=>bif Z3 v&&Nat.beq v.cells.toList.length sz then(match setO cs i v.cells.toList with
     | some c=>.h undef (Yo H m ⟨ty,s,c⟩) n
     | none=>.no)else .no
    | none=>.no)
   | none=>.no)
  | _=>.no⟩
 | none=>⟨λ_ _ _ _=>.no⟩
theorem Qn3{P:Program}{t x:Nat}{y:Operand}:Qam P (.store t (.tmp x) y) (Qk3 P t x y).run:=by
 intro F hF T H n;unfold Qk3;split
 ·rename_i sz ag h1;simp only[QZ];split
  ·rename_i m i h2;split
   ·rename_i v h3;split
    ·rename_i ty s cs hr;cases hc:Z3 v&&Nat.beq v.cells.toList.length sz with
     | false=>exact trivial
     | true=>
      simp only[cond_true];split
      ·rename_i c h4;obtain⟨g1,rfl⟩:=QlR _ _ _ h4;simp only[Bool.and_eq_true]at hc;have hl:=Nat.eq_of_beq_eq_true hc.2;have hble:Nat.ble (i+sz) cs.length=true:=Nat.ble_eq_true_of_le (by rw[<-hl];exact g1);show Xr _ _ _ _ _ _=_
       grind[Xr,QiS,en]
      ·exact trivial
    ·exact trivial
   ·exact trivial
  ·exact trivial
 ·exact trivial
noncomputable def QkY(P:Program)(t:Nat):Clo OpF:=match QN P t with
 | some z=>bif Xb z then⟨λ_ _ _ n=>.new (.pointer (some ⟨n,0,none⟩)) (.row ⟨t,0,z⟩)⟩else⟨λ_ _ _ _=>.no⟩
 | none=>⟨λ_ _ _ _=>.no⟩
theorem QnP{P:Program}{t:Nat}:Qam P (.alloc t) (QkY P t).run:=by
 intro F hF T H n;unfold QkY;split
 ·rename_i z h1;cases hf:Xb z with
  | false=>exact trivial
  | true=>
   show Xr _ _ _ _ _ _=_;simp only[Xr,QvB,h1,hf,cond_true];rfl
 ·exact trivial
noncomputable def Qwq(t:Nat)(x:Operand):Clo OpF:=⟨λ_ T _ n=>match(XT x).run T with
 | some v=>bif Z3 v then .new (.pointer (some ⟨n,0,none⟩)) (.row ⟨t,0,v.cells.toList⟩)else .no
 | none=>.no⟩
theorem Qsj{P:Program}{t:Nat}{x:Operand}:Qam P (.box t x) (Qwq t x).run:=by
 intro F hF T H n;unfold Qwq;simp only[QZ];split
 ·rename_i v h1;cases hf:Z3 v with
  | false=>exact trivial
  | true=>
   show Xr _ _ _ _ _ _=_;simp only[Xr,Qu0,h1,hf,cond_true];rfl
 ·exact trivial
noncomputable def cBS(P:Program)(t len:Nat)(parts:List (Nat×Operand)):Clo OpF:=match tsl P t with
 | some (e,sz,_)=>match QN P e with
  | some z=>bif Xb z&&(Nat.ble (len*sz) 16777216&&(Nat.blt 0 (len*sz)&&Xb (Qoz z (len*sz))))then⟨λ_ T _ n=>match QdY (en T) parts with
   | some vs=>(match ZN (λi=>some (i*sz,sz)) (Qoz z (len*sz)) vs with
    | some cs=>.new (.slice (some ⟨n,0,none⟩) len len) (.row ⟨e,sz,cs⟩)
    | none=>.no)
   | none=>.no⟩else⟨λ_ _ _ _=>.no⟩
  | none=>⟨λ_ _ _ _=>.no⟩
 | none=>⟨λ_ _ _ _=>.no⟩
theorem Qvy{P:Program}{t len:Nat}{parts:List (Nat×Operand)}(hne:¬(len=0/\parts=[])):Qam P (.buildSlice t len ⟨parts⟩) (cBS P t len parts).run:=by
 intro F hF T H n;unfold cBS;split
 ·rename_i e sz by' h1;split
  ·rename_i z h2;cases hc:Xb z&&(Nat.ble (len*sz) 16777216&&(Nat.blt 0 (len*sz)&&Xb (Qoz z (len*sz))))with
   | false=>exact trivial
   | true=>
    simp only[cond_true];split
    ·rename_i vs h3;split
     ·rename_i cs h4;show Xr _ _ _ _ _ _=_
      have hb:ZM P (en T) H n t len parts=some (.h (.slice (some ⟨n,0,none⟩) len len) (YR H n (.row ⟨e,sz,cs⟩)) (n+1)):=by
       simp only[ZM,h3,h1,h2,h4,hc,cond_true];rfl
      grind[Xr]
     ·exact trivial
    ·exact trivial
  ·exact trivial
 ·exact trivial
noncomputable def Qv6(P:Program)(t:Nat):Clo OpF:=match tsl P t with
 | some (e,sz,_)=>⟨λ_ _ _ n=>.new (.slice (some ⟨n,0,none⟩) 0 0) (.row ⟨e,sz,[]⟩)⟩
 | none=>⟨λ_ _ _ _=>.no⟩
theorem Qts{P:Program}{t:Nat}:Qam P (.buildSlice t 0 ⟨[]⟩) (Qv6 P t).run:=by
 intro F hF T H n;unfold Qv6;split
 ·rename_i e sz by' h1;show Xr _ _ _ _ _ _=_;simp only[Xr,h1];rfl
 ·exact trivial
noncomputable def cMS(P:Program)(t:Nat)(x y:Operand):Clo OpF:=match tsl P t with
 | some (e,sz,by')=>match QN P e with
  | some z=>⟨λ_ T _ n=>match(XT x).run T with
   | some (.int .i64 (.ofNat k))=>(match(XT y).run T with
    | some (.int .i64 (.ofNat k'))=>bif Nat.ble k k'&&(Nat.ble (k'*by') 281474976710656&&(Nat.ble k' 16777216&&Xb (XE z (k'*sz))))then .new (.slice (some ⟨n,0,none⟩) k k') (.row ⟨e,sz,XE z (k'*sz)⟩)else .no
    | _=>.no)
   | _=>.no⟩
  | none=>⟨λ_ _ _ _=>.no⟩
 | none=>⟨λ_ _ _ _=>.no⟩
theorem Qv9{P:Program}{t:Nat}{x y:Operand}:Qam P (.makeSlice t x y) (cMS P t x y).run:=by
 intro F hF T H n;unfold cMS;split
 ·rename_i e sz by' h1;split
  ·rename_i z h2;simp only[QZ];split
   ·rename_i k h3;split
    ·rename_i k' h4;cases hc:Nat.ble k k'&&(Nat.ble (k'*by') 281474976710656&&(Nat.ble k' 16777216&&Xb (XE z (k'*sz))))with
     | false=>exact trivial
     | true=>
      show Xr _ _ _ _ _ _=_;simp only[Xr,QbT,h3,h4,h1,h2,hc,cond_true];rfl
    ·exact trivial
   ·exact trivial
  ·exact trivial
 ·exact trivial
noncomputable def callA(F:CallF)(g:FuncId)(vs:List Value)(H:Hp)(n:Nat):An:=match F.f F.y g vs H n with
 | some (v,H',n')=>.h v H' n'
 | none=>.no
noncomputable def Qle(P:Program)(g:Nat)(args:List Operand):Clo OpF:=⟨λF T H n=>match(Qh1 args).run T with
 | some vs=>(match F.e g vs with
  | some v=>.q none v
  | none=>bif QL P g then callA F g vs H n else .no)
 | none=>.no⟩
theorem Qjt{P:Program}{op:Op}{F:CallF}{T:Tr Value}{H:Hp}{n:Nat}{g:FuncId}{vs:List Value}(h:∀v H' n',F.f F.y g vs H n=some (v,H',n')->Xr P (en T) H n F op=some (.h v H' n')):QuD P op F T H n (callA F g vs H n):=by
 unfold callA;split
 ·rename_i v H' n' hr;exact h _ _ _ hr
 ·exact trivial
theorem Qn0{P:Program}{g:Nat}{args:List Operand}{ts:Array TypeId}:Qam P (.call ⟨.value (.func g),⟨args⟩,ts⟩) (Qle P g args).run:=by
 intro F hF T H n;unfold Qle;simp only[Qg9];split
 ·rename_i vs h1;split
  ·rename_i v h2;exact⟨λH2 _=>by simp only[Xr,h1,h2],λk h9=>by cases h9⟩
  ·rename_i h2;cases hc:QL P g with
   | false=>exact trivial
   | true=>grind[Qjt,Xr,Qfi]
 ·exact trivial
noncomputable def QlH(P:Program)(f:Operand)(args:List Operand):Clo OpF:=⟨λF T H n=>match(XT f).run T with
 | some (.func (.func g) ⟨a⟩ ⟨b⟩)=>(match(Qh1 args).run T with
  | some vs=>bif QL P g then callA F g (a++vs++b) H n else .no
  | none=>.no)
 | some (.func (.yield k) ⟨[]⟩ ⟨[]⟩)=>(match(Qh1 args).run T with
  | some vs=>(match F.y k vs H n with
   | some (v,H',n')=>.h v H' n'
   | none=>.no)
  | none=>.no)
 | _=>.no⟩
theorem QnR{P:Program}{f:Operand}{args:List Operand}{ts:Array TypeId}(hf:∀g,f≠ .func g):Qam P (.call ⟨.value f,⟨args⟩,ts⟩) (QlH P f args).run:=by
 intro F hF T H n;unfold QlH;simp only[QZ,Qg9];split
 ·rename_i g a b h1;split
  ·rename_i vs h2;cases hc:QL P g with
   | false=>exact trivial
   | true=>simp_all[Qjt,Qfi,opd,en,QdU,Xr]
  ·exact trivial
 ·rename_i k h1;split
  ·rename_i vs h2;split
   ·rename_i v H' n' hr;have hb:Qfi P H n F (opd (en T) f) (QdU (en T) args)=some (.h v H' n'):=by grind[Qfi]
    show Xr _ _ _ _ _ _=_
    simp_all[Xr]
   ·exact trivial
  ·exact trivial
 ·exact trivial
noncomputable def QpN(P:Program)(t:Nat)(m x:Operand):Clo OpF:=⟨λ_ T H _=>match(XT m).run T with
 | some (.map (some r))=>(match QaZ P H t (some (.map (some r))) ((XT x).run T)with
  | some (.q v)=>.q (some r) v
  | _=>.no)
 | _=>.no⟩
theorem QoC{P:Program}{t:Nat}{m x:Operand}:Qam P (.lookup t m x false) (QpN P t m x).run:=by
 intro F hF T H n;unfold QpN;simp only[QZ];split
 ·rename_i r h1;split
  ·rename_i v h2
   have hm:∃ks,QgJ H r=some ks:=by
    unfold QaZ at h2
    grind
   obtain⟨ks,hks⟩:=hm;refine⟨λH2 h6=>?_,λk h9=>by injection h9 with h9;subst h9;exact⟨_,Qrn hks⟩⟩;have hr2:QgJ H2 r=QgJ H r:=by unfold QgJ;rw[h6 r rfl]
   have:QaZ P H2 t (some (.map (some r))) (opd (en T) x)=QaZ P H t (some (.map (some r))) (opd (en T) x):=by
    unfold QaZ
    grind
   grind[Xr]
  ·exact trivial
 ·exact trivial
noncomputable def QtU:Clo OpF:=⟨λ_ _ _ n=>.new (.map (some n)) (.mp [])⟩
theorem QoO{P:Program}{t:Nat}:Qam P (.makeMap t none) QtU.run:=by
 intro F hF T H n;show Xr _ _ _ _ _ _=_;simp only[Xr]
noncomputable def Qai(P:Program):Op->Clo OpF
 | .move x=>⟨ofV (XT x).run⟩
 | .assign x=>⟨ofV (XT x).run⟩
 | .pick c a b=>⟨ofV (QqB c a b).run⟩
 | .binOp op t x y _=>⟨ofV (Qrl P op t x y).run⟩
 | .convert src dst x=>Qrp P src dst x
 | .extract x i=>⟨ofV (QuH x i).run⟩
 | .field st x f=>⟨ofV (Qlg P st x f).run⟩
 | .fieldAddr st x f=>⟨ofV (cFA P st x f).run⟩
 | .index t x y=>⟨ofV (QvL P t x y).run⟩
 | .indexAddr t x y=>⟨ofV (cIA P t x y).run⟩
 | .load t (.tmp x)=>QpZ P t x
 | .store t (.tmp x) y=>Qk3 P t x y
 | .alloc t=>QkY P t
 | .box t x=>Qwq t x
 | .buildSlice t 0 ⟨[]⟩=>Qv6 P t
 | .buildSlice t len ⟨parts⟩=>cBS P t len parts
 | .makeSlice t x y=>cMS P t x y
 | .call ⟨.builtin .len,⟨[x]⟩,⟨[t]⟩⟩=>⟨ofV (Qvb P t x).run⟩
 | .call ⟨.value (.func g),⟨args⟩,_⟩=>Qle P g args
 | .call ⟨.value f,⟨args⟩,_⟩=>QlH P f args
 | .makeMap t none=>QtU
 | .lookup t m x false=>QpN P t m x
 | op=>⟨fbF P op⟩
theorem QkH{P:Program}{x:Operand}:VOk P (.move x) (XT x).run/\VOk P (.assign x) (XT x).run:=by
 constructor<;>(intro T v h F H n;rw[QZ]at h;simp only[Xr,h];rfl)
theorem Qc5(P:Program)(op:Op):Qam P op (Qai P op).run:=by
 unfold Qai;split
 ·exact Qa4 QkH.1
 ·exact Qa4 QkH.2
 ·exact Qa4 QoM
 ·exact Qa4 QrB
 ·exact Qrd
 ·exact Qa4 Qsf
 ·exact Qa4 QnO
 ·exact Qa4 Qvq
 ·exact Qa4 Qtz
 ·exact Qa4 QuP
 ·exact QoP
 ·exact Qn3
 ·exact QnP
 ·exact Qsj
 ·exact Qts
 ·grind[Qvy]
 ·exact Qv9
 ·exact Qa4 QsT
 ·exact Qn0
 ·grind[QnR]
 ·exact QoO
 ·exact QoC
 ·exact QqX P _
end Ev
namespace Ev
open Go Go.RowKit
inductive Rs where
 | bad
 | nm (T:Tr Value) (H:Hp) (n:Nat)
 | ex (i:Nat) (T:Tr Value) (H:Hp) (n:Nat)
 | rt (T:Tr Value) (H:Hp) (n:Nat)
abbrev SF:=CallF->Tr Value->Hp->Nat->Rs
abbrev CS:=Clo SF
noncomputable def noC:CS:=⟨λ_ _ _ _=>.bad⟩
noncomputable def cOn(P:Program)(nt:Nat)(o:Oper)(rest:CS):CS:=match o.dst with
 | some d=>bif Nat.blt d nt then⟨λF T H n=>match(Qai P o.op).run F T H n with
  | .no=>.bad
  | .p v=>rest.run F (Yr (pth d) d v T) H n
  | .q _ v=>rest.run F (Yr (pth d) d v T) H n
  | .new v x=>rest.run F (Yr (pth d) d v T) (YR H n x) (Nat.succ n)
  | .h v H' n'=>rest.run F (Yr (pth d) d v T) H' n'⟩else noC
 | none=>⟨λF T H n=>match(Qai P o.op).run F T H n with
  | .no=>.bad
  | .p v=>rest.run F T H n
  | .q _ v=>rest.run F T H n
  | .new v x=>rest.run F T (YR H n x) (Nat.succ n)
  | .h v H' n'=>rest.run F T H' n'⟩
noncomputable def Qse(nt:Nat)(dst:Option Nat)(rest:CS):CS:=match dst with
 | some d=>bif Nat.blt d nt then⟨λF T H n=>rest.run F (Yr (pth d) d undef T) H n⟩else noC
 | none=>rest
noncomputable def QbY(P:Program)(nt:Nat)(all:Array Oper):List Oper->CS
 | []=>⟨λ_ T H n=>.nm T H n⟩
 | o::l=>match o.guard with
  | none=>cOn P nt o (QbY P nt all l)
  | some (j,want)=>match(all[j]?).bind (·.dst)with
   | some dj=>⟨λF T H n=>match YS (pth dj) dj T with
    | some (.bool b)=>Bool.rec ((Qse nt o.dst (QbY P nt all l)).run F T H n) ((cOn P nt o (QbY P nt all l)).run F T H n) (b==want)
    | some (.tuple ⟨[]⟩)=>(match o.dst with
     | some _=>(Qse nt o.dst (QbY P nt all l)).run F T H n
     | none=>.bad)
    | _=>.bad⟩
   | none=>noC
structure St where
 T:Tr Value
 H:Hp
 n:Nat
structure StOk(r0:Rho)(w0:World)(ρ:Rho)(st:St)(L':Qc)(As:List HA):Prop where
 le:r0.le ρ
 sr:SR ρ (en st.T) L'
 hp:HM ρ st.H As
 fr:QQ ρ st.n
theorem QlI{T:Tr Value}{d:Nat}{v:Value}:∀t x,en (Yr (pth d) d v T) t=some x->(t=d/\x=v)\/(t≠d/\en T t=some x):=by grind[en,ZC,Zi]
theorem SR.set{ρ:Rho}{T:Tr Value}{L':Qc}{d:Nat}{v u:Value}(e:SR ρ (en T) L')(hu:den ρ v=some u):SR ρ (en (Yr (pth d) d v T)) ((d,u)::L'):=e.put hu QlI
def Qi7(r0:Rho)(w0:World)(ρ:Rho)(st:St)(K:Qc->(World->Prop)->Prop):Prop:=
 ∀ρ' L2 As2,ρ.le ρ'->StOk r0 w0 ρ' st L2 As2->K L2 (HS w0 [] As2)
theorem Qi7.mono{r0:Rho}{w0:World}{ρ ρ':Rho}{st:St}{K:Qc->(World->Prop)->Prop}(h:ρ.le ρ')(ht:Qi7 r0 w0 ρ st K):Qi7 r0 w0 ρ' st K:=λρ2 L2 As2 h2 hs=>ht ρ2 L2 As2 (Rho.le_trans h h2) hs
def Q8(r0:Rho)(w0:World)(ρ:Rho)(X:Ctx)(k:List KI):Rs->Prop
 | .bad=>False
 | .nm T H n=>Qi7 r0 w0 ρ ⟨T,H,n⟩ (S X k)
 | .ex i T H n=>Qi7 r0 w0 ρ ⟨T,H,n⟩ (SE X (.exit i) k)
 | .rt T H n=>Qi7 r0 w0 ρ ⟨T,H,n⟩ (SE X .ret k)
theorem Q8.mono{r0:Rho}{w0:World}{ρ ρ':Rho}{X:Ctx}{k:List KI}(h:ρ.le ρ'):∀{r:Rs},Q8 r0 w0 ρ X k r->Q8 r0 w0 ρ' X k r
 | .bad,ht=>ht.elim
 | .nm _ _ _,ht=>Qi7.mono h ht
 | .ex _ _ _ _,ht=>Qi7.mono h ht
 | .rt _ _ _,ht=>Qi7.mono h ht
theorem CallOk.fok{P:Program}{r0:Rho}{F:CallF}(h:CallOk P r0 F):True:=trivial
section
variable{P:Program}{r0:Rho}{w0:World}{F:CallF}{X:Ctx}{k:List KI}{all:Array Oper}
def Quo(w0:World)(ρ:Rho)(H:Hp)(n:Nat):Ans->Value->(World->Prop)->Prop
 | .p v=>Out w0 ρ v H n
 | .q v=>Out w0 ρ v H n
 | .h v H n=>Out w0 ρ v H n
theorem Qw6{o:Oper}{L':Qc}{ρ:Rho}{st:St}{As:List HA}{a:Ans}(h:QaV P o L' w0 ρ st.H st.n As a)(hp:HM ρ st.H As)(hf:QQ ρ st.n):OpT P o L' (HS w0 [] As) (Quo w0 ρ st.H st.n a):=by
 cases a with
 | p v=>obtain⟨u,h1,h2⟩:=h;exact OpT.of_p h1 h2 hp hf
 | q v=>obtain⟨u,h1,h2⟩:=h;exact OpT.of_q h1 h2 hp hf
 | h v H n=>exact h
theorem QpM(hF:CallOk P r0 F)(hP:X.P=P){dst:Option Nat}{op:Op}{ty:TypeId}{pos:String}{aft:Array Edge}{gd:Option (Nat×Bool)}{rest:CS}{l:List Oper}{T:Tr Value}{H:Hp}{n:Nat}{ρ:Rho}{L':Qc}{As:List HA}
  (ih:∀T H n ρ L' As,Q8 r0 w0 ρ X k (rest.run F T H n)->StOk r0 w0 ρ ⟨T,H,n⟩ L' As->O X all l k L' (HS w0 [] As))(ht:Q8 r0 w0 ρ X k ((cOn P X.n ⟨dst,op,ty,pos,aft,gd⟩ rest).run F T H n))(hs:StOk r0 w0 ρ ⟨T,H,n⟩ L' As) :
  O X all (⟨dst,op,ty,pos,aft,none⟩::l) k L' (HS w0 [] As):=by
 have key:∀a v(H':Hp)(n':Nat),Xr P (en T) H n F op=some a->Quo w0 ρ H n a=Out w0 ρ v H' n'->(match dst with
   | some d=>Nat.blt d X.n=true/\Q8 r0 w0 ρ X k (rest.run F (Yr (pth d) d v T) H' n')
   | none=>Q8 r0 w0 ρ X k (rest.run F T H' n'))->O X all (⟨dst,op,ty,pos,aft,none⟩::l) k L' (HS w0 [] As):=by
  intro a v H' n' h1 h2 h3;have ha:=Z7 (w0:=w0) (L':=L') (o:=⟨dst,op,ty,pos,aft,none⟩) hF hs.le rfl hs.sr hs.hp hs.fr h1;have hT:OpT P _ L' _ (Quo w0 ρ H n a):=Qw6 (st:=⟨T,H,n⟩) ha hs.hp hs.fr;rw[h2]at hT;obtain⟨G,V,Fg,C',hH,hK⟩:=hT;cases dst with
  | some d=>
   obtain⟨hd,h3⟩:=h3;refine o_h (by rw[hP];exact hH) hd λg hg=>?_;obtain⟨ρ',As',g1,g2,g3,g4,g5⟩:=hK g hg;exact Y5 g5 (ih _ _ _ ρ' _ As' (h3.mono g1) ⟨Rho.le_trans hs.le g1,(hs.sr.mono g1).set g3,g4,g2⟩)
  | none=>
   refine Qez (by rw[hP];exact hH) λg hg=>?_;obtain⟨ρ',As',g1,g2,g3,g4,g5⟩:=hK g hg;exact Y5 g5 (ih _ _ _ ρ' _ As' (h3.mono g1) ⟨Rho.le_trans hs.le g1,hs.sr.mono g1,g4,g2⟩)
 have hc:=Qc5 P op F hF.fok T H n;cases dst with
 | some d=>
  simp only[cOn]at ht;cases hb:Nat.blt d X.n with
  | false=>rw[hb]at ht;exact ht.elim
  | true=>
   rw[hb]at ht;simp only[cond_true]at ht;cases hr:(Qai P op).run F T H n with
   | no=>rw[hr]at ht;exact ht.elim
   | p v=>rw[hr]at hc ht;exact key _ v H n hc rfl ⟨hb,ht⟩
   | q m v=>rw[hr]at hc ht;exact key _ v H n (hc.1 H λ_ _=>rfl) rfl ⟨hb,ht⟩
   | new v x=>rw[hr]at hc ht;exact key _ v (YR H n x) (n+1) hc rfl ⟨hb,ht⟩
   | h v H' n'=>rw[hr]at hc ht;exact key _ v H' n' hc rfl ⟨hb,ht⟩
 | none=>
  simp only[cOn]at ht;cases hr:(Qai P op).run F T H n with
  | no=>rw[hr]at ht;exact ht.elim
  | p v=>rw[hr]at hc ht;exact key _ v H n hc rfl ht
  | q m v=>rw[hr]at hc ht;exact key _ v H n (hc.1 H λ_ _=>rfl) rfl ht
  | new v x=>rw[hr]at hc ht;exact key _ v (YR H n x) (n+1) hc rfl ht
  | h v H' n'=>rw[hr]at hc ht;exact key _ v H' n' hc rfl ht
theorem Qc2{ρ:Rho}:den ρ undef=some undef:=rfl
theorem QfX(hF:CallOk P r0 F)(hP:X.P=P):∀(l:List Oper)(T:Tr Value)(H:Hp)(n:Nat)(ρ:Rho)(L':Qc)(As:List HA),Q8 r0 w0 ρ X k ((QbY P X.n all l).run F T H n)->StOk r0 w0 ρ ⟨T,H,n⟩ L' As->O X all l k L' (HS w0 [] As)
 | [],T,H,n,ρ,L',As,ht,hs=>Ql2 (ht ρ L' As ρ.le_refl hs)
 | ⟨dst,op,ty,pos,aft,guard⟩::l,T,H,n,ρ,L',As,ht,hs=>by
  have ih:=QfX hF hP l;cases guard with
  | none=>exact QpM hF hP ih ht hs
  | some jw=>
   obtain⟨j,want⟩:=jw;simp only[QbY]at ht;split at ht
   ·rename_i dj hj;simp only[]at ht;split at ht
    ·rename_i b hb;obtain⟨u,e1,e2⟩:=hs.sr.get (show en T dj=_ from hb);injection e2 with e2
     subst e2;cases hw:b==want with
     | true=>
      rw[hw]at ht
      grind[o_on,QpM]
     | false=>
      rw[hw]at ht;have hw':b= !want:=by cases b<;>cases want<;>simp_all
      simp only[Qse]at ht;split at ht
      ·rename_i d;cases hd:Nat.blt d X.n with
       | false=>rw[hd]at ht;exact ht.elim
       | true=>
        rw[hd]at ht;exact Qq5 dj b hj e1 hw' hd (ih _ _ _ ρ _ As ht ⟨hs.le,hs.sr.set Qc2,hs.hp,hs.fr⟩)
      grind[QlK]
    ·rename_i hb;obtain⟨u,e1,e2⟩:=hs.sr.get (show en T dj=_ from hb);injection e2 with e2
     subst e2;split at ht
     ·rename_i d;simp only[Qse]at ht;cases hd:Nat.blt d X.n with
      | false=>rw[hd]at ht;exact ht.elim
      | true=>
       rw[hd]at ht;exact Qpx dj hj e1 hd (ih _ _ _ ρ _ As ht ⟨hs.le,hs.sr.set Qc2,hs.hp,hs.fr⟩)
     ·exact ht.elim
    ·exact ht.elim
   ·exact ht.elim
end
end Ev
end Gx
namespace Gx
open Go Go.RowKit
section
variable{X:Ctx}{ops:Array Oper}{k:List KI}{L:Qc}{C:World->Prop}
theorem Qqx{α:Type}(m dj dp:Nat)(b:Bool)(v:α->Bool)(CJ:α->World->Prop)(I:α->Prop){l:List Oper}(hb:Qc.get L dj=some (.bool b))
  (h1:b=true->O X ops (l.take m) (.join (AtI X.n X.df (λx:α=>(dp,.bool (v x))::L) CJ I)::k) L C)
  (h0:b=false->O X ops (l.take m) (.join (AtI X.n X.df (λx:α=>(dp,.bool (v x))::L) CJ I)::k) L C)
  (h2:∀x,I x->O X ops (l.drop m) k ((dp,.bool (v x))::L) (CJ x)):O X ops l k L C:=by
 intro a w ha hw
 have hh:O X ops (l.take m) (.join (AtI X.n X.df (λx:α=>(dp,.bool (v x))::L) CJ I)::k) L C:=by
  cases b with
  | true=>exact h1 rfl
  | false=>exact h0 rfl
 have:=ZB (Q:=post X k) _ (l.drop m) a w (hh a w ha hw) (λa w⟨x,hI,hx,hc⟩=>h2 x hI a w hx hc) (λe a w he h=>QcD e a w he h)
 rwa[List.take_append_drop]at this
end
end Gx
namespace Gx
open Go Go.RowKit
section
variable{P:Program}{o:Oper}{L:Qc}{w0:World}{M:List Nat}{As:List HA}
theorem QrI{G:Type}{V:G->Value}{F:G->Prop}{Bs:G->List HA}{Cs Ds:List HA}{x:Operand}{args:Array Operand}{vs:List Value}{ts:Array TypeId}{l:Nat}(ho:o.op=.call {callee:=.value x,args:=args,argTypes:=ts})(hx:ev L x=some (.func (.yield l) #[] #[]))
  (ha:evs L args.toList=some vs)(hp:QaQ As Cs Ds)(hy:∀w,HS w0 M As w->HS w (fps Cs) Cs w->ZD P l vs.toArray w λe w'=>∃g,e=.returned (V g)/\F g/\HS w (fps Cs) (Bs g) w'):OpH P o L (HS w0 M As) V F (λg=>HS w0 M (Bs g++Ds)):=
 Qmy (C:=HS w0 M As) ho hx ha λw hw=>by
  obtain⟨f,tmps,assign,body,hr,hR⟩:=hy w hw (HS.focus (hw.perm hp));refine⟨f,tmps,assign,body,hr,RoundIn.mono hR λe w'⟨g,he,hf,hc⟩=>⟨g,he,hf,?_⟩⟩;exact HS.callM (hw.perm hp) (λb hb=>by obtain⟨A,hA,hb⟩:=List.mem_flatMap.1 hb;exact⟨A,hA,hb⟩) hc
end
def Qwu(fid:FuncId)(tmps:Array Value)(ps:Array Tmp)(assign body:Code)(D:Nat):Option Nat->Obj
 | none=>.loop (rdy fid tmps ps assign body D)
 | some id=>.loop {rdy fid tmps ps assign body D with state:=.done,pending:=some (.exit id)}
section
variable{X:Ctx}{k:List KI}{L:Qc}{w0:World}{M:List Nat}{As As':List HA}
def rngK(k:List KI):Option Nat->List KI
 | none=>k
 | some id=>.c (.exit id)::k
theorem Qnr{id:Nat}{j:Option Nat}(hj:j=none\/j=some id)(h:S X k L (HS w0 M As)):S X (rngK (.blk id::k) j) L (HS w0 M As):=by
 rcases hj with rfl|rfl
 ·exact QoI h
 ·exact Qg (show(bif Nat.beq id id then some k else QhW id k)=some k from by rw[Nat.beq_refl];rfl) h
theorem Qkh{g:Operand}{ps:Array Tmp}{assign body:Code}{gf:FuncId}{fa lb:Array Value}{G:Type}{Bs:G->List HA}{jmp:G->Option Nat}(hrd:X.rd=none)(hdf:X.df=[])(hg:ev L g=some (.func (.func gf) fa lb))(hfn:QL X.P gf=true)
  (hit:∀(fid:FuncId)(D l:Nat)(a:Act)(w1:World)(ob:Obj),ob=.loop (rdy fid a.tmps ps assign body D)->FR X.n [] L a->HS w0 M (.obj l ob::.obj D (.deferred (some []))::As) w1 ->
   Calls X.P gf (fa++ #[.func (.yield l) #[] #[]]++lb) w1 λe w2=>(∃v,e=.returned v)/\∃x,HS w0 M (.obj l (Qwu fid a.tmps ps assign body D (jmp x))::.obj D (.deferred (some []))::Bs x) w2)
  (next:∀D x,S {X with df:=[D]} (rngK k (jmp x)) L (HS w0 M (.obj D (.deferred (some []))::Bs x))):S X (.c (.rangeFunc g ps assign body)::k) L (HS w0 M As):=by
 intro a w ha hw;have ha0:FR X.n [] L a:=by rw[<-hdf];exact ha
 refine wpIn_rangeFunc (F:=X.F) (n:=0) λfid _=>?_;have hro:X.F.round=none:=hrd;rw[hro];have hw1:=(hw.allocObj (.deferred (some []))).allocObj (.loop (rdy fid a.tmps ps assign body w.heap.size));rw[World.size_alloc]at hw1;have hen:=run_enterLoop_outer (P:=X.P) (w:=w) fid a.tmps ps assign body;obtain⟨W1,hW1⟩:∃W1,(w.alloc (.deferred (some []))).alloc (.loop (rdy fid a.tmps ps assign body w.heap.size))=W1:=⟨_,rfl⟩;rw[hW1]at hw1;rw[show(Loop.mk .ready none fid a.tmps ps assign body w.heap.size)=rdy fid a.tmps ps assign body w.heap.size from rfl,hW1]at hen
 refine⟨w.heap.size+1,[{target:=.collected w.heap.size,args:=#[]}],W1,{target:=.fn (.func gf) lb,args:=fa++ #[.func (.yield (w.heap.size+1)) #[] #[]]},W1,gf,
  fa++ #[.func (.yield (w.heap.size+1)) #[] #[]]++lb,W1,hen,?_,λ_ _=>trivial,?_,λh=>(by cases h),?_⟩
 ·simp only[resolve,ha.evl hg];simp[go_sem]
 ·simp[invoke,go_sem,Qeq hfn]
 ·refine CallsIn.mono (X.callsIn (hit fid _ _ a _ _ rfl ha0 hw1)) λe w2 he=>?_;obtain⟨⟨v,rfl⟩,x,hx⟩:=he;have h3:=next w.heap.size x {a with defers:=[{target:=.collected w.heap.size,args:=#[]}]++a.defers}
  have hfr:FR X.n [w.heap.size] L {a with defers:=[{target:=.collected w.heap.size,args:=#[]}]++a.defers}:=⟨by show _++a.defers=_;rw[ha0.defers];rfl,ha0.size,ha0.slot⟩;cases hj:jmp x with
  | none=>
   rw[hj]at hx h3;refine⟨none,_,run_endLoop (hx.obj_get .here) (by simp[rdy]),?_⟩;have h4:=h3 _ hfr (hx.putObj .here (.loop {rdy fid a.tmps ps assign body w.heap.size with state:=.exhausted})).tail;rw[Qd6]at h4;exact h4
  | some id=>
   rw[hj]at hx h3;refine⟨some (.exit id),_,run_endLoop (hx.obj_get .here) (by simp),?_⟩;have h4:=h3 _ hfr (hx.putObj .here (.loop {rdy fid a.tmps ps assign body w.heap.size with state:=.exhausted,pending:=some (.exit id)})).tail;rw[Qd6]at h4;exact h4
end
theorem HS.callA{w0 w1 w2:World}{M:List Nat}{A:HA}{Ds Bs:List HA}(h:HS w0 M (A::Ds) w1)(hc:HS w1 (fps [A]) Bs w2):HS w0 M (Bs++Ds) w2:=
 HS.callM (Cs:=[A]) (As:=Ds) h (λb hb=>by obtain⟨A,hA,hb⟩:=List.mem_flatMap.1 hb;exact⟨A,hA,hb⟩) hc
theorem Qq8{α:Type}{P:Program}{fn:Func}{n l D:Nat}{fid:FuncId}{tmps:Array Value}{ps:Array Tmp}{assign body:Code}{args:Array Value}{L0:Qc}{L1:α->Qc}{w0 W:World}{M:List Nat}{As:List HA}{As1:α->List HA}{Rr:Ending->World->Prop}
  (hC:HS w0 M (.obj l (.loop (rdy fid tmps ps assign body D))::As) W)(hps:args.size=ps.size)(hf:FR n [] L0 {tmps:=(ps.zip args).foldl (λt(p,v)=>t.setIfInBounds p v) tmps,defers:=[]})
  (h1:S {P:=P,fn:=fn,n:=n,R:=λ_ _=>False,rd:=some l} [.c assign,.join (At n [] L1 (λx=>HS w0 M (.obj l (.loop (rdy fid tmps ps assign body D))::As1 x)))] L0 (HS w0 M (.obj l (.loop (rdy fid tmps ps assign body D))::As)))
  (h2:∀x,S {P:=P,fn:=fn,n:=n,R:=Rr,rd:=some l} [.c body] (L1 x) (HS w0 M (.obj l (.loop {rdy fid tmps ps assign body D with state:=.busy})::As1 x))):ZD P l args W Rr:=by
 refine⟨fid,_,assign,body,run_yield (hC.obj_get .here) hps,roundIn_of_wpIn trivial ?_⟩;refine wpIn_mono (h1 _ W hf hC) λe a w he=>?_;cases e with
 | normal=>
  obtain⟨x,hfr,hc⟩:=he;exact⟨_,run_beginRound (hc.obj_get .here) rfl,h2 x _ _ hfr (hc.putObj .here _)⟩
 | ret=>obtain⟨v,w',_,hx⟩:=he;exact hx
 | exit id=>obtain⟨v,w',_,hx⟩:=he;exact hx
 | goto t=>obtain⟨v,w',_,hx⟩:=he;exact hx
 | panic ch=>exact he
 | outgrown=>exact he
inductive RunY{S α:Type}(st:S->α->S->Prop)(co:S->Bool):S->List α->S->Bool->Prop
 | nil (s:S):RunY st co s [] s true
 | go {s s' s'':S} {x:α} {l:List α} {b:Bool} (h:st s x s') (hc:co s'=true) (hr:RunY st co s' l s'' b):RunY st co s (x::l) s'' b
 | stop {s s':S} {x:α} {l:List α} (h:st s x s') (hc:co s'=false):RunY st co s (x::l) s' false
section
variable{S α:Type}{st:S->α->S->Prop}{co:S->Bool}{s s1 s2:S}{A B:List α}{b:Bool}
theorem RunY.app(h:RunY st co s A s1 true)(h2:RunY st co s1 B s2 b):RunY st co s (A++B) s2 b:=by
 generalize hb:true=c at h
 induction h with
 | nil s=>exact h2
 | go h hc _ ih=>exact .go h hc (ih h2 hb)
 | stop h hc=>cases hb
theorem RunY.off(h:RunY st co s A s1 false)(B:List α):RunY st co s (A++B) s1 false:=by
 generalize hb:false=c at h
 induction h with
 | nil s=>cases hb
 | go h hc _ ih=>exact .go h hc (ih hb)
 | stop h hc=>exact .stop h hc
theorem RunY.one{x:α}(h:st s x s1):RunY st co s [x] s1 (co s1):=by
 cases hc:co s1 with
 | true=>exact .go h hc (.nil s1)
 | false=>exact .stop h hc
end
end Gx
namespace Gx
namespace Ev
open Go Go.RowKit
noncomputable def Ql1(b:SF)(m:Nat):SF:=Nat.rec (λ_ _ _ _=>.bad) (λ_ ih F T H n=>match b F T H n with
 | .nm T H n=>ih F T H n
 | r=>r) m
noncomputable def Yg(P:Program)(nt m:Nat)(Dr:Nat->Array Oper->CS):Code->CS
 | .skip=>⟨λ_ T H n=>.nm T H n⟩
 | .label _=>⟨λ_ T H n=>.nm T H n⟩
 | .region _ ⟨ops⟩ false=>QbY P nt ⟨ops⟩ ops
 | .region _ ⟨ops⟩ true=>Dr nt ⟨ops⟩
 | .seq a b=>⟨λF T H n=>match(Yg P nt m Dr a).run F T H n with
  | .nm T H n=>(Yg P nt m Dr b).run F T H n
  | r=>r⟩
 | .cond x a b=>⟨λF T H n=>match(XT x).run T with
  | some (.bool t)=>Bool.rec ((Yg P nt m Dr b).run F T H n) ((Yg P nt m Dr a).run F T H n) t
  | _=>.bad⟩
 | .block id b=>⟨λF T H n=>match(Yg P nt m Dr b).run F T H n with
  | .ex i T H n=>bif Nat.beq i id then .nm T H n else .ex i T H n
  | r=>r⟩
 | .loop b=>⟨Ql1 (Yg P nt m Dr b).run m⟩
 | .exit i=>⟨λ_ T H n=>.ex i T H n⟩
 | .ret=>⟨λ_ T H n=>.rt T H n⟩
 | _=>noC
def Qlm(P:Program)(Dr:Nat->Array Oper->CS):Prop:=∀(l:List Oper)(id:Nat)(r0:Rho)(w0:World)(X:Ctx)(k:List KI)(F:CallF)(T:Tr Value)(H:Hp)(n:Nat)(ρ:Rho)(L':Qc)(As:List HA),X.P=P->CallOk P r0 F->Q8 r0 w0 ρ X k ((Dr X.n ⟨l⟩).run F T H n)->StOk r0 w0 ρ ⟨T,H,n⟩ L' As->S X (.c (.region id ⟨l⟩ true)::k) L' (HS w0 [] As)
section
variable{P:Program}{r0:Rho}{w0:World}{X:Ctx}{m:Nat}{Dr:Nat->Array Oper->CS}
theorem QbE{x:KI}{k:List KI}{L:Qc}{C:World->Prop}(h:SE X .ret k L C):SE X .ret (x::k) L C:=by
 rcases x with c|id|J
 ·exactλa w ha hw=>h a w ha hw
 ·exactλa w ha hw=>h a w ha hw
 ·exactλa w ha hw=>h a w ha hw
def reS(L:Qc):Qc->Qc
 | []=>[]
 | (t,_)::h=>match Qc.get L t with
  | some v=>(t,v)::reS L h
  | none=>reS L h
theorem Qip(L:Qc):∀h,QbR L (reS L h)
 | []=>trivial
 | (t,x)::h=>by
  simp only[reS];split
  ·rename_i v hv;exact⟨hv,Qip L h⟩
  ·exact Qip L h
theorem QmP{L:Qc}{t:Nat}{v:Value}(hv:Qc.get L t=some v):∀h x,Qc.get h t=some x->Qc.get (reS L h) t=some v
 | [],x,hx=>by cases hx
 | (k,y)::h,x,hx=>by
  simp only[Qc.get]at hx;simp only[reS];cases hb:Nat.beq k t with
  | true=>simp_all[Qc.get]
  | false=>
   rw[hb]at hx;have ih:=QmP hv h x hx
   grind[Qc.get]
theorem SR.clean{ρ:Rho}{L:Env}{L':Qc}(h:SR ρ L L'):SR ρ L (reS L' L')/\QbR L' (reS L' L'):=
 ⟨λt v hv=>by
  obtain⟨u,h1,h2⟩:=h t v hv;exact⟨u,QmP h1 _ _ h1,h2⟩,Qip _ _⟩
theorem Q8.seq{c:Code}{k:List KI}{ρ:Rho}(b:CS){F:CallF}(ih:∀T H n ρ L' As,Q8 r0 w0 ρ X k (b.run F T H n)->StOk r0 w0 ρ ⟨T,H,n⟩ L' As->S X (.c c::k) L' (HS w0 [] As)):∀{r:Rs},Q8 r0 w0 ρ X k (match r with
  | .nm T H n=>b.run F T H n
  | r=>r)->Q8 r0 w0 ρ X (.c c::k) r
 | .bad,h=>h.elim
 | .nm T H n,h=>λρ2 L2 As2 hle hs2=>ih _ _ _ _ _ _ (Q8.mono hle h) hs2
 | .ex i T H n,h=>λρ2 L2 As2 hle hs2=>Qfc (h ρ2 L2 As2 hle hs2)
 | .rt T H n,h=>λρ2 L2 As2 hle hs2=>QbE (h ρ2 L2 As2 hle hs2)
theorem Q8.blk{id:Nat}{k:List KI}{ρ:Rho}:∀{r:Rs},Q8 r0 w0 ρ X k (match r with
  | .ex i T H n=>bif Nat.beq i id then .nm T H n else .ex i T H n
  | r=>r)->Q8 r0 w0 ρ X (.blk id::k) r
 | .bad,h=>h.elim
 | .nm T H n,h=>λρ2 L2 As2 hle hs2=>QoI (h ρ2 L2 As2 hle hs2)
 | .ex i T H n,h=>λρ2 L2 As2 hle hs2=>by
  simp only[]at h;cases hb:Nat.beq i id with
  | true=>
   rw[hb]at h;have hi:=Nat.eq_of_beq_eq_true hb;subst hi;exact QeH (h ρ2 L2 As2 hle hs2)
  | false=>
   rw[hb]at h;exact Qen hb (h ρ2 L2 As2 hle hs2)
 | .rt T H n,h=>λρ2 L2 As2 hle hs2=>QbE (h ρ2 L2 As2 hle hs2)
theorem Qqd{c:Code}{b:SF}{F:CallF}{k:List KI}(ih:∀(k:List KI)T H n ρ L' As,Q8 r0 w0 ρ X k (b F T H n)->StOk r0 w0 ρ ⟨T,H,n⟩ L' As->S X (.c c::k) L' (HS w0 [] As)){m:Nat}{T:Tr Value}{H:Hp}{n:Nat}{ρ:Rho}{L':Qc}{As:List HA}
  (ht:Q8 r0 w0 ρ X k (Ql1 b m F T H n))(hs:StOk r0 w0 ρ ⟨T,H,n⟩ L' As):S X (.c (.loop c)::k) L' (HS w0 [] As):=by
 let α:={x:Nat×St×Rho×Qc×List HA // Q8 r0 w0 x.2.2.1 X k (Ql1 b x.1 F x.2.1.T x.2.1.H x.2.1.n)/\StOk r0 w0 x.2.2.1 x.2.1 x.2.2.2.1 x.2.2.2.2}
 obtain⟨f1,f2⟩:=hs.sr.clean;refine QqA (α:=α) (λx=>x.1.2.2.2.1) (λx=>HS w0 [] x.1.2.2.2.2) (λx=>x.1.1) ⟨(m,⟨T,H,n⟩,ρ,_,As),ht,⟨hs.le,f1,hs.hp,hs.fr⟩⟩ f2 (λ_ h=>h) ?_;rintro⟨⟨m1,⟨T1,H1,n1⟩,ρ1,L1,As1⟩,h1,h2⟩;cases m1 with
 | zero=>exact h1.elim
 | succ m1=>
  refine ih _ T1 H1 n1 ρ1 L1 As1 ?_ h2
  have h3:Q8 r0 w0 ρ1 X k (match b F T1 H1 n1 with
   | .nm T H n=>Ql1 b m1 F T H n
   | r=>r):=h1
  cases hr:b F T1 H1 n1 with
  | bad=>rw[hr]at h3;exact h3.elim
  | nm T2 H2 n2=>
   rw[hr]at h3;intro ρ2 L2 As2 hle hs2;obtain⟨g1,g2⟩:=hs2.sr.clean;exact Qvv (⟨(m1,⟨T2,H2,n2⟩,ρ2,_,As2),Q8.mono hle h3,⟨hs2.le,g1,hs2.hp,hs2.fr⟩⟩:α) (Nat.lt_succ_self m1) g2 (λ_ h=>h)
  | ex i T2 H2 n2=>
   rw[hr]at h3;exactλρ2 L2 As2 hle hs2=>Qd9 (h3 ρ2 L2 As2 hle hs2)
  | rt T2 H2 n2=>
   rw[hr]at h3;exactλρ2 L2 As2 hle hs2=>QbE (h3 ρ2 L2 As2 hle hs2)
theorem Xa{F:CallF}(hF:CallOk P r0 F)(hD:Qlm P Dr)(hP:X.P=P):∀(c:Code)(k:List KI)(T:Tr Value)(H:Hp)(n:Nat)(ρ:Rho)(L':Qc)(As:List HA),Q8 r0 w0 ρ X k ((Yg P X.n m Dr c).run F T H n)->StOk r0 w0 ρ ⟨T,H,n⟩ L' As->S X (.c c::k) L' (HS w0 [] As)
 | .skip,k,T,H,n,ρ,L',As,ht,hs=>Qrm (ht ρ L' As ρ.le_refl hs)
 | .label _,k,T,H,n,ρ,L',As,ht,hs=>Qsr (ht ρ L' As ρ.le_refl hs)
 | .region _ ⟨ops⟩ false,k,T,H,n,ρ,L',As,ht,hs=>Qkl (QfX hF hP ops T H n ρ L' As ht hs)
 | .region id ⟨ops⟩ true,k,T,H,n,ρ,L',As,ht,hs=>hD ops id r0 w0 X k F T H n ρ L' As hP hF ht hs
 | .seq a b,k,T,H,n,ρ,L',As,ht,hs=>Ql0 (Xa hF hD hP a _ T H n ρ L' As (Q8.seq (Yg P X.n m Dr b) (Xa hF hD hP b k) ht) hs)
 | .cond x a b,k,T,H,n,ρ,L',As,ht,hs=>by
  simp only[Yg,QZ]at ht;split at ht
  ·rename_i t hx;have hx':=Qk hs.sr hx rfl;cases t with
   | true=>exact QgP hx' (λ_=>Xa hF hD hP a k T H n ρ L' As ht hs) (λh=>by cases h)
   | false=>exact QgP hx' (λh=>by cases h) (λ_=>Xa hF hD hP b k T H n ρ L' As ht hs)
  ·exact ht.elim
 | .block id b,k,T,H,n,ρ,L',As,ht,hs=>Qjf (Xa hF hD hP b _ T H n ρ L' As (Q8.blk ht) hs)
 | .loop b,k,T,H,n,ρ,L',As,ht,hs=>Qqd (λk=>Xa hF hD hP b k) ht hs
 | .exit i,k,T,H,n,ρ,L',As,ht,hs=>QrQ (ht ρ L' As ρ.le_refl hs)
 | .ret,k,T,H,n,ρ,L',As,ht,hs=>QrG (ht ρ L' As ρ.le_refl hs)
 | .rangeFunc _ _ _ _,_,_,_,_,_,_,_,ht,_=>ht.elim
 | .scope _,_,_,_,_,_,_,_,ht,_=>ht.elim
 | .goto _,_,_,_,_,_,_,_,ht,_=>ht.elim
 | .refuse _,_,_,_,_,_,_,_,ht,_=>ht.elim
end
def Rho.wx(ρ:Rho)(e:List HA):Rho:=⟨ρ.f,e⟩
theorem SR.wx{ρ:Rho}{L:Env}{L':Qc}(h:SR ρ L L')(e:List HA):SR (ρ.wx e) L L':=h
noncomputable def noY:Qp8:=λ_ _ _ _=>none
theorem QdP{P:Program}{r0:Rho}:YOk P r0 noY:=λ_ _ _ _ _ _ _ h=>by cases h
noncomputable def QlV(nt:Nat):List Nat->List Value->Tr Value->Option (Tr Value)
 | [],[],T=>some T
 | p::ps,v::vs,T=>bif Nat.blt p nt then QlV nt ps vs (Yr (pth p) p v T)else none
 | _,_,_=>none
noncomputable def QlF(ca cb:SF)(nt:Nat)(ps:List Nat)(F:CallF)(T0:Tr Value)(nm:Nat):Qp8:=λk vs H n=>bif Nat.beq k nm then(match QlV nt ps vs T0 with
 | some T1=>(match ca ⟨F.f,F.e,noY⟩ T1 H n with
  | .nm T2 H2 n2=>(match cb ⟨F.f,F.e,noY⟩ T2 H2 n2 with
   | .nm _ H3 n3=>some (.bool true,H3,n3)
   | _=>none)
  | _=>none)
 | none=>none)else none
noncomputable def QgK(P:Program)(g:Operand)(ca cb:SF)(nt:Nat)(ps:List Nat):CS:=⟨λF T H n=>match(XT g).run T with
 | some (.func (.func gf) ⟨la⟩ ⟨lb⟩)=>bif QL P gf then(match F.f (QlF ca cb nt ps F T n) gf (la++(.func (.yield n) #[] #[]::lb)) H (Nat.succ n)with
  | some (_,H',n')=>.nm T H' n'
  | none=>.bad)else .bad
 | _=>.bad⟩
def QiH:Code->Bool
 | .rangeFunc _ _ _ _=>true
 | .seq a b=>QiH a||QiH b
 | .cond _ a b=>QiH a||QiH b
 | .block _ b=>QiH b
 | _=>false
noncomputable def QaP(P:Program)(nt m:Nat)(Dr:Nat->Array Oper->CS):Code->CS
 | .seq a b=>Bool.rec (Bool.rec (Yg P nt m Dr (.seq a b)) ⟨λF T H n=>match(Yg P nt m Dr a).run F T H n with
   | .nm T H n=>(QaP P nt m Dr b).run F T H n
   | r=>r⟩ (QiH b)) ⟨λF T H n=>match(QaP P nt m Dr a).run F T H n with
   | .nm T H n=>(Yg P nt m Dr b).run ⟨F.f,F.e,noY⟩ T H n
   | r=>r⟩ (QiH a)
 | .cond x a b=>⟨λF T H n=>match(XT x).run T with
  | some (.bool t)=>Bool.rec ((QaP P nt m Dr b).run F T H n) ((QaP P nt m Dr a).run F T H n) t
  | _=>.bad⟩
 | .block id b=>⟨λF T H n=>match(QaP P nt m Dr b).run F T H n with
  | .ex i T H n=>bif Nat.beq i id then .nm T H n else .ex i T H n
  | r=>r⟩
 | .rangeFunc g ⟨ps⟩ assign body=>QgK P g (Yg P nt m Dr assign).run (Yg P nt m Dr body).run nt ps
 | c=>Yg P nt m Dr c
theorem QmS{ρ:Rho}{n:Nat}:∀{ps:List Nat}{vs us:List Value}{T T1:Tr Value}{L:Qc}{t:Array Value},QlV n ps vs T=some T1->Qu (den ρ) vs=some us->SR ρ (en T) L->FR n [] L {tmps:=t,defers:=[]} ->
  ∃L1,SR ρ (en T1) L1/\FR n [] L1 {tmps:=(ps.zip us).foldl (λt(p,v)=>t.setIfInBounds p v) t,defers:=[]}/\us.length=ps.length
 | [],[],us,T,T1,L,t,h,hm,hs,hf=>by
  injection h with h
  cases hm;subst h;exact⟨L,hs,hf,rfl⟩
 | p::ps,v::vs,us,T,T1,L,t,h,hm,hs,hf=>by
  simp only[QlV]at h;obtain⟨hb,h⟩:=bif_in h;simp only[Qu]at hm;split at hm
  ·rename_i u us' h1 h2;injection hm with hm
   subst hm;have hf1:=hf.put p u hb;obtain⟨L1,g1,g2,g3⟩:=QmS (t:=t.setIfInBounds p u) h h2 (hs.set h1) ⟨rfl,hf1.size,hf1.slot⟩;exact⟨L1,g1,g2,by simp[g3]⟩
  ·cases hm
 | [],_::_,_,_,_,_,_,h,_,_,_=>by cases h
 | _::_,[],_,_,_,_,_,h,_,_,_=>by cases h
theorem Qq1{α:Type}{P:Program}{fn:Func}{n l D:Nat}{fid:FuncId}{tmps:Array Value}{ps:Array Tmp}{assign body:Code}{args:Array Value}{L0:Qc}{LJ:α->Qc}{AJ:α->List HA}{w0 W:World}{As:List HA}{Rr:Ending->World->Prop}
  (hC:HS w0 [] (.obj l (.loop (rdy fid tmps ps assign body D))::As) W)(hps:args.size=ps.size)(hf:FR n [] L0 {tmps:=(ps.zip args).foldl (λt(p,v)=>t.setIfInBounds p v) tmps,defers:=[]})
  (h1:S {P:=P,fn:=fn,n:=n,R:=λ_ _=>False,rd:=some l} [.c assign,.join (At n [] LJ (λx=>HS w0 [] (.obj l (.loop (rdy fid tmps ps assign body D))::AJ x)))] L0 (HS w0 [] (.obj l (.loop (rdy fid tmps ps assign body D))::As)))
  (h2:∀x,S {P:=P,fn:=fn,n:=n,R:=Rr,rd:=some l} [.c body] (LJ x) (HS w0 [] (.obj l (.loop {rdy fid tmps ps assign body D with state:=.busy})::AJ x))):ZD P l args W Rr:=by
 refine⟨fid,_,assign,body,run_yield (hC.obj_get .here) hps,roundIn_of_wpIn trivial ?_⟩;refine wpIn_mono (h1 _ W hf hC) λe a w he=>?_;cases e with
 | normal=>
  obtain⟨x,hfr,hc⟩:=he;exact⟨_,run_beginRound (hc.obj_get .here) rfl,h2 x _ _ hfr (hc.putObj .here _)⟩
 | ret=>obtain⟨v,w',_,hx⟩:=he;exact hx
 | exit id=>obtain⟨v,w',_,hx⟩:=he;exact hx
 | goto t=>obtain⟨v,w',_,hx⟩:=he;exact hx
 | panic ch=>exact he
 | outgrown=>exact he
section
variable{P:Program}{r0:Rho}{w0:World}{X:Ctx}{m:Nat}{Dr:Nat->Array Oper->CS}
theorem HM.split{ρ:Rho}{H:Hp}{As:List HA}(h:HM ρ H As):∃Bs,As=Bs++ρ.ex/\∀e,HM (ρ.wx e) H (Bs++e):=by
 obtain⟨G,Bs,h1,h2,h3⟩:=h;exact⟨Bs,h3,λe=>⟨G,Bs,h1,h2,rfl⟩⟩
theorem Qom{fn:Func}{nt l D:Nat}{fid:FuncId}{tmps:Array Value}{ps:List Nat}{assign body:Code}{T0:Tr Value}{nm d:Nat}{r1:Rho}{rest:List HA}{L:Qc}{F:CallF}(hF:∀r,CallOk P r ⟨F.f,F.e,noY⟩)(hD:Qlm P Dr)
  (hn:r1 nm=some (l,d))(hex:r1.ex=.obj l (.loop (rdy fid tmps ⟨ps⟩ assign body D))::rest)(hf:FR nt [] L {tmps:=tmps,defers:=[]})(hs:SR r1 (en T0) L):YOk P r1 (QlF (Yg P nt m Dr assign).run (Yg P nt m Dr body).run nt ps F T0 nm):=by
 intro k vs H n v H' n' h w0 ρ us As hle hus hH hfr;unfold QlF at h;have hk:Nat.beq k nm=true:=by grind
 rw[hk]at h;simp only[cond_true]at h;have hk:=Nat.eq_of_beq_eq_true hk;subst hk;refine⟨(l,d),hle.1 _ _ hn,?_⟩;split at h
 ·rename_i T1 hb;split at h
  ·rename_i T2 H2 n2 ha;split at h
   ·rename_i T3 H3 n3 hc;injection h with h
    injection h with e1 e2
    injection e2 with e2 e3
    subst e1 e2 e3;obtain⟨L1,g1,g2,g3⟩:=QmS hb hus (hs.mono hle) hf;intro w hw;have hρe:ρ.ex=.obj l (.loop (rdy fid tmps ⟨ps⟩ assign body D))::rest:=by rw[hle.2,hex]
    obtain⟨Bs,hAs,hBs⟩:=hH.split
    let α:={x:Rho×List HA×Qc×List HA // ρ.le x.1/\StOk x.1 w0 x.1 ⟨T2,H2,n2⟩ x.2.2.1 x.2.1/\x.2.1=x.2.2.2++x.1.ex}
    refine Qq1 (fn:=fn) (n:=nt) (α:=α) (L0:=L1) (As:=Bs++rest) (LJ:=λx=>x.1.2.2.1) (AJ:=λx=>x.1.2.2.2++rest) (hw.perm (by rw[hAs,hρe];exact List.perm_middle)) (by simp[g3]) (by simpa using g2) ?_ ?_
    ·have hA:=Xa (r0:=ρ) (w0:=w0) (X:={P:=P,fn:=fn,n:=nt,R:=λ_ _=>False,rd:=some l}) (m:=m) (hF ρ) hD rfl assign [.join (At nt [] (λx:α=>x.1.2.2.1) (λx=>HS w0 [] (.obj l (.loop (rdy fid tmps ⟨ps⟩ assign body D))::(x.1.2.2.2++rest))))] T1 H n ρ L1 As (by
      rw[ha];intro ρ2 L2 As2 hle2 hs2;obtain⟨Bs2,k1,k2⟩:=hs2.hp.split;intro a9 w9 ha9 hw9
      have hpm:As2.Perm (.obj l (.loop (rdy fid tmps ⟨ps⟩ assign body D))::(Bs2++rest)):=by
       rw[k1,hle2.2,hρe];exact List.perm_middle
      exact⟨(⟨(ρ2,As2,L2,Bs2),hle2,⟨ρ2.le_refl,hs2.sr,hs2.hp,hs2.fr⟩,k1⟩:α),ha9,hw9.perm hpm⟩) ⟨ρ.le_refl,g1,hH,hfr⟩
     intro a9 w9 ha9 hw9;exact hA a9 w9 ha9 (hw9.perm (by rw[hAs,hρe];exact List.perm_middle.symm))
    ·rintro⟨⟨ρ2,As2,L2,Bs2⟩,q1,q2,q3⟩;simp only[]at q1 q2 q3;have hρ2:ρ2.ex=.obj l (.loop (rdy fid tmps ⟨ps⟩ assign body D))::rest:=by rw[q1.2,hρe]
     obtain⟨Bs2',k1,k2⟩:=q2.hp.split;have hbb:Bs2'=Bs2:=List.append_cancel_right (k1.symm.trans q3);subst hbb
     have hB:=Xa (r0:=ρ2.wx (.obj l (.loop {rdy fid tmps ⟨ps⟩ assign body D with state:=.busy})::rest)) (w0:=w0) (X:={P:=P,fn:=fn,n:=nt,R:=QmR w0 ρ (.bool true) H3 n3,rd:=some l}) (m:=m) (hF _) hD rfl body [] T2 H2 n2 (ρ2.wx (.obj l (.loop {rdy fid tmps ⟨ps⟩ assign body D with state:=.busy})::rest)) L2 (Bs2'++(.obj l (.loop {rdy fid tmps ⟨ps⟩ assign body D with state:=.busy})::rest)) (by
      rw[hc];intro ρ3 L3 As3 hle3 hs3;obtain⟨Bs3,j1,j2⟩:=hs3.hp.split;have hρ3:ρ3.ex=.obj l (.loop {rdy fid tmps ⟨ps⟩ assign body D with state:=.busy})::rest:=hle3.2;refine QkT (As':=Bs3++rest) rfl (by rw[j1,hρ3];exact List.perm_middle) λw9 hw9=>?_;refine⟨ρ3.wx (.obj l (.loop (rdy fid tmps ⟨ps⟩ assign body D))::rest),Bs3++(.obj l (.loop (rdy fid tmps ⟨ps⟩ assign body D))::rest),.bool true,⟨λn9 x9 h9=>hle3.1 _ _ (q1.1 _ _ h9),by rw[hρe];rfl⟩,hs3.fr,rfl,j2 _,rfl,hw9.perm List.perm_middle.symm⟩) ⟨Rho.le_refl _,q2.sr,k2 _,q2.fr⟩
     intro a9 w9 ha9 hw9;exact hB a9 w9 ha9 (hw9.perm List.perm_middle.symm)
   ·cases h
  ·cases h
 ·cases h
def RB(w0:World)(ρ:Rho)(X:Ctx)(k:List KI)(r:Rs):Prop:=∀(D:Nat)(ρ1:Rho),(∀n x,ρ n=some x->ρ1 n=some x)->ρ1.ex=.obj D (.deferred (some []))::ρ.ex->Q8 ρ1 w0 ρ1 {X with df:=[D]} k r
theorem RB.mono{ρ ρ':Rho}{k:List KI}{r:Rs}(h:RB w0 ρ X k r)(hle:ρ.le ρ'):RB w0 ρ' X k r:=λD ρ1 h1 h2=>h D ρ1 (λn x hx=>h1 n x (hle.1 n x hx)) (by rw[h2,hle.2])
theorem Qnp{F:CallF}(hF:CallOk P r0 F)(hD:Qlm P Dr)(hP:X.P=P)(hrd:X.rd=none)(hdf:X.df=[]){g:Operand}{ps:List Nat}{assign body:Code}{k:List KI}{T:Tr Value}{H:Hp}{n:Nat}{ρ:Rho}{L':Qc}{As:List HA}
  (hB:RB w0 ρ X k ((QgK P g (Yg P X.n m Dr assign).run (Yg P X.n m Dr body).run X.n ps).run F T H n))(hB0:(QgK P g (Yg P X.n m Dr assign).run (Yg P X.n m Dr body).run X.n ps).run F T H n≠ .bad)(hs:StOk r0 w0 ρ ⟨T,H,n⟩ L' As):S X (.c (.rangeFunc g ⟨ps⟩ assign body)::k) L' (HS w0 [] As):=by
 subst hP;have hF0:∀r,CallOk X.P r ⟨F.f,F.e,noY⟩:=λr=>⟨hF.f,hF.e,QdP⟩;unfold QgK at hB hB0;simp only[QZ]at hB hB0;split at hB0
 ·rename_i gf la lb hx;rw[hx]at hB;simp only[]at hB;cases hfn:QL X.P gf with
  | false=>rw[hfn]at hB0;exact absurd rfl hB0
  | true=>
   rw[hfn]at hB hB0;simp only[cond_true]at hB hB0;split at hB0
   ·rename_i v H' n' hr;rw[hr]at hB;simp only[]at hB;obtain⟨u,e1,e2⟩:=Zh hs.sr hx;simp only[den,Xt,QV,Qdo]at e2;split at e2
    ·rename_i f' a' lb' g1 g2 g3;injection g1 with g1
     injection e2 with e2
     subst g1 e2;obtain⟨Bs0,hAs,hBs0⟩:=hs.hp.split;have hAs:As=Bs0++ρ.ex:=hAs
     let G:={x:(Nat->Option (Nat×Nat))×List HA // (∀n y,ρ n=some y->x.1 n=some y)/\(∀k,n'<=k->x.1 k=none)/\∃Bs,x.2=Bs++ρ.ex/\∀e,HM ⟨x.1,e⟩ H' (Bs++e)}
     refine Qkh (gf:=gf) (fa:=a'.toArray) (lb:=lb'.toArray) (G:=G) (Bs:=λx=>x.1.2) (jmp:=λ_=>none) hrd hdf e1 hfn ?_ ?_
     ·intro fid D l a w1 ob hob hfr hw1;subst hob
      let r1:Rho:=⟨(ext ρ n (l,0)).f,.obj l (.loop (rdy fid a.tmps ⟨ps⟩ assign body D))::.obj D (.deferred (some []))::ρ.ex⟩
      have hle1:∀n y,ρ n=some y->r1 n=some y:=(QgV hs.fr (l,0)).1;have hr1n:r1 n=some (l,0):=QbW ρ n (l,0);have hmono:∀{x y:Value},XZ ρ x=some y->den r1 x=some y:=λ{x y}hx=>Qbj (ρ:=ρ.wx r1.ex) (ρ':=r1) ⟨hle1,rfl⟩ x y (Qfg (QdS (QoK hx)));have hY:=Qom (P:=X.P) (fn:=X.fn) (nt:=X.n) (m:=m) (Dr:=Dr) (l:=l) (D:=D) (fid:=fid) (tmps:=a.tmps) (ps:=ps) (assign:=assign) (body:=body) (T0:=T) (nm:=n) (d:=0) (r1:=r1) (L:=L') hF0 hD hr1n rfl ⟨rfl,hfr.size,hfr.slot⟩ (SR.mono (ρ:=ρ.wx r1.ex) ⟨hle1,rfl⟩ hs.sr);have hM1:HM r1 H (Bs0++r1.ex):=HM.mono (ρ:=ρ.wx r1.ex) ⟨hle1,rfl⟩ (hBs0 r1.ex)
      have hcall:=hF.f r1 _ hY gf _ H _ v H' n' hr w0 r1 (a'++(.func (.yield l) #[] #[]::lb')) (Bs0++r1.ex) r1.le_refl (by
       refine Za (Xx (λx y hx=>hmono hx) g2) ?_;simp only[Qu,den,Xt,QV,Qdo,hr1n];have:=Xx (λx y hx=>hmono hx) g3;rw[this]) hM1 (Qbc hs.fr (l,0)) w1 (hw1.perm (by
       rw[hAs];show(_::_::(Bs0++ρ.ex)).Perm (Bs0++(_::_::ρ.ex));exact(List.perm_middle.trans (List.perm_middle.cons _)).symm))
      have hargs:(a'++(.func (.yield l) #[] #[]::lb')).toArray=a'.toArray++ #[Value.func (.yield l) #[] #[]]++lb'.toArray:=by simp
      rw[hargs]at hcall;refine Calls.mono hcall λe w2⟨ρ',As',u',h1,h2,h3,h4,h5,h6⟩=>⟨⟨u',h5⟩,?_⟩;obtain⟨Bs',j1,j2⟩:=h4.split
      have hpm:As'.Perm (.obj l (.loop (rdy fid a.tmps ⟨ps⟩ assign body D))::.obj D (.deferred (some []))::(Bs'++ρ.ex)):=by
       rw[j1,h1.2];exact List.perm_middle.trans (List.perm_middle.cons _)
      exact⟨⟨(ρ'.f,Bs'++ρ.ex),λn9 y9 h9=>h1.1 _ _ (hle1 _ _ h9),h2,Bs',rfl,λe=>j2 e⟩,h6.perm hpm⟩
     ·rintro D ⟨⟨f9,As9⟩,q1,q2,Bs9,q3,q4⟩;simp only[]at q1 q2 q3 q4;have:=hB D ⟨f9,.obj D (.deferred (some []))::ρ.ex⟩ q1 rfl ⟨f9,.obj D (.deferred (some []))::ρ.ex⟩ L' (Bs9++(.obj D (.deferred (some []))::ρ.ex)) (Rho.le_refl _) ⟨Rho.le_refl _,SR.mono (ρ:=ρ.wx (.obj D (.deferred (some []))::ρ.ex)) (ρ':=⟨f9,.obj D (.deferred (some []))::ρ.ex⟩) ⟨q1,rfl⟩ hs.sr,q4 _,q2⟩;intro a9 w9 ha9 hw9;refine this a9 w9 ha9 (hw9.perm ?_);show(_::As9).Perm _;rw[q3];exact List.perm_middle.symm
    ·cases e2
   grind
 grind
theorem Qa8{F:CallF}(hF:CallOk P r0 F)(hD:Qlm P Dr)(hP:X.P=P)(hrd:X.rd=none)(hdf:X.df=[]):∀(c:Code)(k:List KI)(T:Tr Value)(H:Hp)(n:Nat)(ρ:Rho)(L':Qc)(As:List HA),Q8 r0 w0 ρ X k ((QaP P X.n m Dr c).run F T H n)->RB w0 ρ X k ((QaP P X.n m Dr c).run F T H n)->StOk r0 w0 ρ ⟨T,H,n⟩ L' As->S X (.c c::k) L' (HS w0 [] As)
 | .seq a b,k,T,H,n,ρ,L',As,hA,hB,hs=>by
  have hF0:∀r,CallOk P r ⟨F.f,F.e,noY⟩:=λr=>⟨hF.f,hF.e,QdP⟩;cases ha:QiH a with
  | true=>
   simp only[QaP,ha]at hA hB;refine Ql0 (Qa8 hF hD hP hrd hdf a (.c b::k) T H n ρ L' As ?_ ?_ hs)
   ·exact Q8.seq (F:=F) ⟨λF T H n=>(Yg P X.n m Dr b).run ⟨F.f,F.e,noY⟩ T H n⟩ (λT H n ρ L' As h1 h2=>Xa (m:=m) (hF0 r0) hD hP b k T H n ρ L' As h1 h2) hA
   ·intro D ρ1 h1 h2;exact Q8.seq (F:=F) (X:={X with df:=[D]}) ⟨λF T H n=>(Yg P X.n m Dr b).run ⟨F.f,F.e,noY⟩ T H n⟩ (λT H n ρ L' As h1 h2=>Xa (m:=m) (X:={X with df:=[D]}) (hF0 ρ1) hD hP b k T H n ρ L' As h1 h2) (hB D ρ1 h1 h2)
  | false=>
   cases hb:QiH b with
   | false=>
    simp only[QaP,ha,hb]at hA
    grind[Xa]
   | true=>
    simp only[QaP,ha,hb]at hA hB;refine Ql0 (Xa (m:=m) hF hD hP a (.c b::k) T H n ρ L' As ?_ hs);cases hr:(Yg P X.n m Dr a).run F T H n with
    | bad=>rw[hr]at hA;exact hA.elim
    | nm T2 H2 n2=>
     rw[hr]at hA hB;exactλρ2 L2 As2 hle hs2=>Qa8 hF hD hP hrd hdf b k T2 H2 n2 ρ2 L2 As2 (Q8.mono hle hA) (RB.mono hB hle) hs2
    | ex i T2 H2 n2=>
     rw[hr]at hA;exactλρ2 L2 As2 hle hs2=>Qfc (hA ρ2 L2 As2 hle hs2)
    | rt T2 H2 n2=>
     rw[hr]at hA;exactλρ2 L2 As2 hle hs2=>QbE (hA ρ2 L2 As2 hle hs2)
 | .cond x a b,k,T,H,n,ρ,L',As,hA,hB,hs=>by
  simp only[QaP,QZ]at hA hB;split at hA
  ·rename_i t hx;rw[hx]at hB;have hx':=Qk hs.sr hx rfl;cases t with
   | true=>exact QgP hx' (λ_=>Qa8 hF hD hP hrd hdf a k T H n ρ L' As hA hB hs) (λh=>by cases h)
   | false=>exact QgP hx' (λh=>by cases h) (λ_=>Qa8 hF hD hP hrd hdf b k T H n ρ L' As hA hB hs)
  ·exact hA.elim
 | .block id b,k,T,H,n,ρ,L',As,hA,hB,hs=>Qjf (Qa8 hF hD hP hrd hdf b _ T H n ρ L' As (Q8.blk hA) (λD ρ1 h1 h2=>Q8.blk (hB D ρ1 h1 h2)) hs)
 | .rangeFunc g ⟨ps⟩ assign body,k,T,H,n,ρ,L',As,hA,hB,hs=>Qnp hF hD hP hrd hdf hB (λe=>by
   have hA':Q8 r0 w0 ρ X k ((QgK P g (Yg P X.n m Dr assign).run (Yg P X.n m Dr body).run X.n ps).run F T H n):=hA;rw[e]at hA';exact hA'.elim) hs
 | .skip,k,T,H,n,ρ,L',As,hA,hB,hs=>Xa hF hD hP _ k T H n ρ L' As hA hs
 | .label _,k,T,H,n,ρ,L',As,hA,hB,hs=>Xa hF hD hP _ k T H n ρ L' As hA hs
 | .region _ _ _,k,T,H,n,ρ,L',As,hA,hB,hs=>Xa hF hD hP _ k T H n ρ L' As hA hs
 | .loop _,k,T,H,n,ρ,L',As,hA,hB,hs=>Xa hF hD hP _ k T H n ρ L' As hA hs
 | .exit _,k,T,H,n,ρ,L',As,hA,hB,hs=>Xa hF hD hP _ k T H n ρ L' As hA hs
 | .ret,k,T,H,n,ρ,L',As,hA,hB,hs=>Xa hF hD hP _ k T H n ρ L' As hA hs
 | .scope _,k,T,H,n,ρ,L',As,hA,hB,hs=>Xa hF hD hP _ k T H n ρ L' As hA hs
 | .goto _,k,T,H,n,ρ,L',As,hA,hB,hs=>Xa hF hD hP _ k T H n ρ L' As hA hs
 | .refuse _,k,T,H,n,ρ,L',As,hA,hB,hs=>Xa hF hD hP _ k T H n ρ L' As hA hs
end
noncomputable def Qop(P:Program):List ResultVar->Clo (Tr Value->Hp->Option (List Value))
 | []=>⟨λ_ _=>some []⟩
 | .tmp t::rs=>⟨λT H=>match YS (pth t) t T with
  | some v=>(match(Qop P rs).run T H with
   | some vs=>bif Z3 v then some (v::vs)else none
   | none=>none)
  | none=>none⟩
 | .cell at' t::rs=>⟨λT H=>match QgD P (en T) H t at' with
  | some v=>(match(Qop P rs).run T H with
   | some vs=>some (v::vs)
   | none=>none)
  | none=>none⟩
section
variable{P:Program}{ρ:Rho}{L':Qc}{T:Tr Value}{H:Hp}{As:List HA}
theorem Qoj{v u:Value}(h:Z3 v=true)(e:den ρ v=some u):Xt ρ v=some u:=by
 cases v<;>first|exact e|(simp[Z3]at h)
theorem QiA(hs:SR ρ (en T) L')(hH:HM ρ H As):∀{rs:List ResultVar}{vs:List Value},(Qop P rs).run T H=some vs->∃us,RV P L' As rs us/\Qu (Xt ρ) vs=some us
 | [],vs,h=>by cases h;exact⟨[],RV.nil,rfl⟩
 | .tmp t::rs,vs,h=>by
  simp only[Qop]at h;split at h
  ·rename_i v h1;split at h
   ·rename_i vs' h2;obtain⟨hc,rfl⟩:=bif_some h;obtain⟨u,e1,e2⟩:=hs.get (show en T t=_ from h1);obtain⟨us,e3,e4⟩:=QiA hs hH h2
    grind[RV.tmp,Qu,Qoj]
   ·cases h
  ·cases h
 | .cell at' t::rs,vs,h=>by
  simp only[Qop]at h;split at h
  ·rename_i v h1;split at h
   ·rename_i vs' h2;injection h with h
    subst h;obtain⟨us,e3,e4⟩:=QiA hs hH h2;unfold QgD at h1;split at h1
    ·rename_i m i hx;split at h1
     ·rename_i r sz ag hg hz;obtain⟨b,d,cu,Rs,g1,g2,g3,g4,_,_⟩:=X8 hH hg;obtain⟨p,e1,e2⟩:=hs.get hx;simp only[den,Xt,QV,XZ,g1,Option.some.injEq]at e2;subst e2;cases ag with
      | true=>
       simp only[if_true]at h1;obtain⟨hb,rfl⟩:=bif_some h1;exact⟨_,RV.cell e1 hz g4 (by rw[Q7 g2];exact hb) e3,by simp only[Qu,Xt,List.toList_toArray,cut,XJ sz (YI i g2),e4]⟩
      | false=>
       have h1':(bif Nat.beq sz 1 then r.cs[i]? else none)=some v:=by simpa using h1
       obtain⟨hb,h1'⟩:=bif_in h1';have hk:=Nat.eq_of_beq_eq_true hb;subst hk;obtain⟨u,f1,f2⟩:=Qa6 g2 h1'
       grind[RV.cell1,Qu,QdS]
     ·cases h1
    ·cases h1
   ·cases h
  ·cases h
theorem Qp9:∀{vs us:List Value},Qu (Xt ρ) vs=some us->den ρ (Qt vs)=some (Qt us)
 | [],us,h=>by cases h;rfl
 | [v],us,h=>by
  simp only[Qu]at h;split at h
  ·rename_i b m h1 h2;injection h2 with h2
   injection h with h
   subst h h2;exact Qfg h1
  ·cases h
 | v::v'::vs,us,h=>by
  have hl:=Q7 h;obtain⟨u,u',us',rfl⟩:∃u u' us',us=u::u'::us':=by rcases us with _|⟨u,_|⟨u',us'⟩⟩<;>grind
  show den ρ (.tuple (v::v'::vs).toArray)=some (.tuple (u::u'::us').toArray)
  grind[den]
end
noncomputable def Qqn(i:Nat)(vs:List Value):Tr Value:=List.rec (λ_=>.lf) (λv _ ih i=>Yr (pth i) i v (ih (Nat.succ i))) vs i
theorem QqW{ρ:Rho}:∀{vs us:List Value}(i:Nat),Qu (den ρ) vs=some us->SR ρ (en (Qqn i vs)) (Qcz i us)
 | [],us,i,h=>λt v hv=>by
  have h':YS (pth t) t (.lf:Tr Value)=some v:=hv;rw[Zd]at h';cases h'
 | v::vs,us,i,h=>by
  simp only[Qu]at h;split at h
  ·rename_i u m h1 h2;injection h with h
   subst h;exact(QqW (i+1) h2).set h1
  ·cases h
theorem Qtg{X:Ctx}{L:Qc}{w0:World}{As:List HA}{rs:List ResultVar}{vs:List Value}(hr:X.fn.results=rs.toArray)(hv:RV X.P L As rs vs)(h:∀w,HS w0 [] As w->X.R (.returned (Qt vs)) w)(hrd:X.rd=none)(hdf:X.df=[]):SE X .ret [] L (HS w0 [] As):=by
 intro a w ha hw;refine QkM hrd (ha.none hdf) (v:=Qt vs) ?_ (h w hw);have hm:=hv.run ha hw;rw[QbB hr,Array.mapM_eq_mapM_toList];simp only[Sem.run_bind,Sem.run_map,hm,Result.andThen_ok,Sem.run_pure]
 match vs with
 | []=>rfl
 | [v]=>rfl
 | u::v::vs=>simp[Qt]
theorem Qr7{X:Ctx}{L:Qc}{w0:World}{M:List Nat}{As As':List HA}{D:Nat}{rs:List ResultVar}{vs:List Value}(hr:X.fn.results=rs.toArray)(hp:QH As (.obj D (.deferred (some []))) As')(hv:RV X.P L As' rs vs)(h:∀w,HS w0 M As' w->X.R (.returned (Qt vs)) w)(hrd:X.rd=none)(hdf:X.df=[D]):SE X .ret [] L (HS w0 M As):=by
 intro a w ha hw;show(match X.rd with|none=>bodyPostM X.F 0 X.P X.fn X.R .ret a w|some l=>roundPost X.P l X.R .ret a w);rw[hrd];show LeavesInM X.F 0 X.P X.fn a.tmps X.R a.defers .returning w;rw[ha.defers,hdf];have h1:=(hw.putObj hp (.deferred none)).tail;refine⟨by simp,.inl ⟨D,_,rfl,run_takeDeferred (hw.obj_get hp),Qt vs,?_,h _ h1⟩⟩;have hm:=hv.run ha h1;rw[QbB hr,Array.mapM_eq_mapM_toList];simp only[Sem.run_bind,Sem.run_map,hm,Result.andThen_ok,Sem.run_pure]
 match vs with
 | []=>rfl
 | [v]=>rfl
 | u::v::vs=>simp[Qt]
noncomputable def Qi5(P:Program)(m:Nat)(Dr:Nat->Array Oper->CS)(g:FuncId):Clo (CallF->List Value->Hp->Nat->Option (Value×Hp×Nat)):=match P.funcs[g]? with
 | some fn=>match fn.body with
  | some b=>⟨λF vs H n=>bif Nat.ble vs.length fn.ntmps then(match(QaP P fn.ntmps m Dr b).run F (Qqn 0 vs) H n with
   | .rt T H n=>(match(Qop P fn.results.toList).run T H with
    | some rs=>some (Qt rs,H,n)
    | none=>none)
   | .nm T H n=>(match fn.results.toList with
    | []=>some (.tuple #[],H,n)
    | _=>none)
   | _=>none)else none⟩
  | none=>⟨λ_ _ _ _=>none⟩
 | none=>⟨λ_ _ _ _=>none⟩
theorem Qob{P:Program}{r0:Rho}{m:Nat}{Dr:Nat->Array Oper->CS}{F:CallF}(hF:CallOk P r0 F)(hD:Qlm P Dr):Qef P r0 (λg=>(Qi5 P m Dr g).run F):=by
 intro f vs H n v H' n' h w0 ρ us As hle0 hus hH hf w hw;simp only[Qi5]at h;split at h
 ·rename_i fn h1;split at h
  ·rename_i b h2;obtain⟨hc,h⟩:=bif_in h;have hle:Nat.ble us.length fn.ntmps=true:=by rw[Q7 hus];exact hc
   refine enter (args:=us) (C:=HS w0 [] As) h1 rfl h2 hle hw ?_;refine Qa8 (m:=m) hF hD rfl rfl rfl b [] (Qqn 0 vs) H n ρ _ As ?_ ?_ ⟨hle0,QqW 0 hus,hH,hf⟩
   ·show Q8 r0 w0 ρ _ [] ((QaP P fn.ntmps m Dr b).run F (Qqn 0 vs) H n);split at h
    ·rename_i T2 H2 n2 hr;rw[hr];intro ρ2 L2 As2 hle2 hs2;split at h
     ·rename_i rs hrs;injection h with h
      injection h with e1 e2
      injection e2 with e2 e3
      subst e1 e2 e3;obtain⟨us2,g1,g2⟩:=QiA hs2.sr hs2.hp hrs;exact Qtg (rs:=fn.results.toList) (by simp) g1 (λw' hw'=>⟨ρ2,As2,Qt us2,hle2,hs2.fr,Qp9 g2,hs2.hp,rfl,hw'⟩) rfl rfl
     ·cases h
    ·rename_i T2 H2 n2 hr;rw[hr];intro ρ2 L2 As2 hle2 hs2;split at h
     ·rename_i hres;injection h with h
      injection h with e1 e2
      injection e2 with e2 e3
      subst e1 e2 e3;have hres':fn.results= #[]:=by rw[<-Array.toArray_toList (xs:=fn.results),hres]
      exact Qlr hres' (λw' hw'=>⟨ρ2,As2,.tuple #[],hle2,hs2.fr,rfl,hs2.hp,rfl,hw'⟩) rfl rfl
     ·cases h
    ·cases h
   ·intro D ρ1 h1' h2';show Q8 ρ1 w0 ρ1 _ [] ((QaP P fn.ntmps m Dr b).run F (Qqn 0 vs) H n);split at h
    ·rename_i T2 H2 n2 hr;rw[hr];intro ρ2 L2 As2 hle2 hs2;split at h
     ·rename_i rs hrs;injection h with h
      injection h with e1 e2
      injection e2 with e2 e3
      subst e1 e2 e3;obtain⟨Bs,k1,k2⟩:=hs2.hp.split;have hex:ρ2.ex=.obj D (.deferred (some []))::ρ.ex:=hle2.2.trans h2';have hpm:As2.Perm (.obj D (.deferred (some []))::(Bs++ρ.ex)):=by simp_all
      have hsr:SR (ρ2.wx ρ.ex) (en T2) L2:=hs2.sr;obtain⟨us2,g1,g2⟩:=QiA hsr (k2 ρ.ex) hrs;exact Qr7 (rs:=fn.results.toList) (by simp) hpm g1 (λw' hw'=>⟨ρ2.wx ρ.ex,Bs++ρ.ex,Qt us2,⟨λn x hx=>hle2.1 n x (h1' n x hx),rfl⟩,hs2.fr,Qp9 g2,k2 _,rfl,hw'⟩) rfl rfl
     ·cases h
    ·rename_i T2 H2 n2 hr;rw[hr];intro ρ2 L2 As2 hle2 hs2;split at h
     ·rename_i hres;injection h with h
      injection h with e1 e2
      injection e2 with e2 e3
      subst e1 e2 e3;obtain⟨Bs,k1,k2⟩:=hs2.hp.split;have hex:ρ2.ex=.obj D (.deferred (some []))::ρ.ex:=hle2.2.trans h2';have hpm:As2.Perm (.obj D (.deferred (some []))::(Bs++ρ.ex)):=by simp_all
      have hres':fn.results= #[]:=by rw[<-Array.toArray_toList (xs:=fn.results),hres]
      exact QvM (As':=Bs++ρ.ex) (D:=D) hres' hpm (λw' hw'=>⟨ρ2.wx ρ.ex,Bs++ρ.ex,.tuple #[],⟨λn x hx=>hle2.1 n x (h1' n x hx),rfl⟩,hs2.fr,rfl,k2 _,rfl,hw'⟩) rfl rfl
     ·cases h
    ·cases h
  ·cases h
 ·cases h
noncomputable def bare(v:Value):Bool:=(den ⟨λ_=>none,[]⟩ v).isSome
def flatA:Value->Bool
 | .agg cs=>Xb cs.toList
 | v=>flat v
def Qjc(l:List Value):Bool:=l.all flatA
theorem Qok{v:Value}(h:flatA v=true)(ρ:Rho):den ρ v=some v:=by
 cases v with
 | agg cs=>
  have h2:Xb cs.toList=true:=h
  show(match Qu (QV ρ) cs.toList with
   | some l=>some (Value.agg l.toArray)
   | none=>none)=_
  rw[X9 h2]
 | _=>(unfold flatA at h;exact Qag h ρ)
theorem Qcy{ρ:Rho}:∀{l:List Value},Qjc l=true->Qu (den ρ) l=some l
 | [],_=>rfl
 | v::l,h=>by
  simp only[Qjc,List.all_cons,Bool.and_eq_true]at h;simp only[Qu,Qok h.1 ρ,Qcy (l:=l) h.2]
noncomputable def QlZ(F:QcI)(g:FuncId)(vs:List Value):Option Value:=match F g vs .lf 0 with
 | some r=>bif Qjc vs&&bare r.1 then some r.1 else none
 | none=>none
theorem QrP{P:Program}{F:QcI}(hF:Qef P ⟨λ_=>none,[]⟩ F):QhV P λg vs=>bif QL P g then QlZ F g vs else none:=by
 intro f vs v h w0 ρ us As hvs o L' args ts ho hev;obtain⟨hfn,h⟩:=bif_in h;unfold QlZ at h;split at h
 ·rename_i r hr;obtain⟨hc,rfl⟩:=bif_some h;obtain⟨v,H',n'⟩:=r;simp only[Bool.and_eq_true]at hc
  have hus:us=vs:=by
   have h2:=Qcy (ρ:=ρ) hc.1;rw[h2]at hvs;exact(Option.some.inj hvs).symm
  subst hus;obtain⟨u,hu⟩:=Option.isSome_iff_exists.1 hc.2
  have hmono:∀{ρ':Rho}{x y:Value},den ⟨λ_=>none,[]⟩ x=some y->den ρ' x=some y:=λ{ρ'}{x}{y}e=>by
   have:=Qbj (ρ:=⟨λ_=>none,ρ'.ex⟩) (ρ':=ρ') ⟨λn x h=>(by cases h),rfl⟩ x y e;exact this
  refine⟨u,hmono hu,?_⟩;intro a w hρ hw
  have hcall:=hF f us .lf 0 v H' n' hr w ⟨λ_=>none,[]⟩ us [] (Rho.le_refl _) (Qcy hc.1) ⟨[],[],(λm r hm=>by
   have h':YS (pth m) m (.lf:Hp)=some r:=hm;rw[Zd]at h';cases h'),rfl,rfl⟩ (λ_ _=>rfl) w (HS.refl w [])
  rw[ZK ho hρ (show ev L' (.func f)=some (.func (.func f) #[] #[])from rfl) hfn hev];simp only[Array.empty_append,Array.append_empty];refine Calls.mono hcall λe w'⟨ρ',As',u',h1,h2,h3,h4,h5,h6⟩=>?_;rw[hmono hu]at h3;injection h3 with h3
  subst h3;exact⟨_,h5,rfl,h6.nil.below⟩
 ·cases h
structure KnOk(P:Program)(K:CallF):Prop where
 f:∀r1 Y,Qef P r1 (K.f Y)
 e:QhV P K.e
noncomputable def evF(P:Program)(K:CallF)(Z:FuncId->Bool)(m:Nat)(Dr:Nat->Array Oper->CS)(f:Nat):CallF:=
 Nat.rec ⟨λ_ _ _ _ _=>none,K.e,noY⟩ (λ_ ih=>⟨λY g vs H n=>match K.f Y g vs H n with
  | some r=>some r
  | none=>(Qi5 P m Dr g).run ⟨ih.f,ih.e,Y⟩ vs H n,λg vs=>match K.e g vs with
  | some v=>some v
  | none=>Bool.rec none (bif QL P g then QlZ (ih.f noY) g vs else none) (Z g),noY⟩) f
theorem Qqg{P:Program}{K:CallF}{Z:FuncId->Bool}{m:Nat}{Dr:Nat->Array Oper->CS}(hK:KnOk P K)(hD:Qlm P Dr):∀f r0,CallOk P r0 (evF P K Z m Dr f)
 | 0,r0=>⟨(λ_ _ _ _ _ _ _ _ _ _ h=>by cases h),hK.e,QdP⟩
 | f+1,r0=>by
  have ih:=Qqg (Z:=Z) (m:=m) hK hD f;refine⟨?_,?_,QdP⟩
  ·intro r1 Y hY g vs H n v H' n' h
   have h':(match K.f Y g vs H n with
    | some r=>some r
    | none=>(Qi5 P m Dr g).run ⟨(evF P K Z m Dr f).f,(evF P K Z m Dr f).e,Y⟩ vs H n)=some (v,H',n'):=h
   split at h'
   ·rename_i r hr;injection h' with h'
    subst h';exact hK.f r1 Y g vs H n v H' n' hr
   ·exact Qob (r0:=r1) (⟨(ih r1).f,(ih r1).e,hY⟩:CallOk P r1 ⟨(evF P K Z m Dr f).f,(evF P K Z m Dr f).e,Y⟩) hD g vs H n v H' n' h'
  ·intro g vs v h
   have h':(match K.e g vs with
    | some v=>some v
    | none=>Bool.rec none (bif QL P g then QlZ ((evF P K Z m Dr f).f noY) g vs else none) (Z g))=some v:=h
   split at h'
   ·rename_i v' hr;injection h' with h'
    subst h';exact hK.e g vs v' hr
   ·cases hz:Z g with
    | false=>rw[hz]at h';cases h'
    | true=>
     rw[hz]at h';exact QrP ((ih ⟨λ_=>none,[]⟩).f _ _ QdP) g vs v h'
end Ev
end Gx
namespace Gx
open Go Go.RowKit
section
variable{X:Ctx}{ops:Array Oper}{F:List Nat}{fuel i:Nat}{listed:Array Bool}{k:List KI}{L:Qc}{d ty:Nat}{op:Op}{pos:String}{aft:Array Edge}{w0:World}{M:List Nat}{As Bs:List HA}
theorem Qic{B:World->Prop}{G:Type}{V:G->Value}{Fg:G->Prop}{C':G->World->Prop}{j:Nat}{want b:Bool}(i dj:Nat)(hi:ops[i]?=some ⟨some d,op,ty,pos,aft,some (j,want)⟩)(hj:(ops[j]?).bind (·.dst)=some dj)(hb:Qc.get L dj=some (.bool b))(hw:b=want)(h:OpH X.P ⟨some d,op,ty,pos,aft,none⟩ L (HS w0 M As) V Fg C')(hr:(Region.ready .any ops listed==[i])=true)(hB:∀w,HS w0 M As w->B w)(hd:Nat.blt d X.n=true)
  (next:∀g,Fg g->D X ops F B fuel (listed.setIfInBounds i true) k ((d,V g)::L) (C' g)):D X ops F B (fuel+1) listed k L (HS w0 M As):=by
 intro hcl a ha;have hy:yielded ops a.tmps j=some b:=by simp[yielded,hj,ha.slot _ _ hb]
 have hr':Region.ready .any ops listed=[i]:=by simpa using hr
 refine QfP hr' (λ_=>⟨hB,HS.stab _ _ _⟩) ?_;unfold Yp;simp only[hi];rw[if_pos (by simp[Region.wanted,hy,hw])];exact⟨G,V,Fg,C',λw hw=>h a.eval w ha.agr hw,λg hg=>next g hg (hcl.set (by rw[hr'];exact List.mem_singleton.2 rfl)) _ (ha.put d _ hd)⟩
end
end Gx
