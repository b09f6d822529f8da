/- Contracts of the program's functions, proved by walking them with the rules of the Gx texts; without conditions beyond those that each contract names. -/
import Derived.WalkKit
import Derived.Deep.Draws
import Derived.TacticsIn
import Derived.OrdersIn
import Derived.RangeFuncLeaves
import Derived.Lib.Strings
import Derived.Laws.BytesArg
import Derived.Laws.IdiomStrings
import Derived.Deep.Quiet
import Derived.Laws.StructEq
import Derived.ChangeKeysEq
import Derived.Laws.Externs
import Derived.Lib.Overlaps
import Derived.Carry
import Derived.Laws.Small
import Derived.Lib.Bytealg
import Derived.Lib.Builder
import Derived.Laws.Pointers
import Derived.RangeFuncRecord
import Derived.Test.YtldegbfcaelpdaaGreatDoorProg
import Derived.KernelRfl
import Derived.ProofKit
import Derived.OpenShut
import Derived.Lib.UnsafeStr
import Derived.LaidEqlPtr
import Derived.Shelf.Strings.Builder1
import Derived.Shelf.Strings.Builder2
import Derived.Shelf.Strings.Trim
import Derived.Shelf.Small.Utf8
import Derived.Shelf.Small.Strs
import Derived.Shelf.Strings.BuilderF
import Derived.Shelf.Strings.BuilderK
import Derived.Shelf.Strings.Builder2Cap
import Derived.Shelf.Strings.Search1
import Derived.Shelf.Strings.Prefix
import Derived.Shelf.Unicode.Decode
import Derived.Shelf.Strings.Runes
import Derived.Shelf.Strings.AsciiSet
import Derived.Shelf.Bits.Mul64
import Derived.Shelf.Strings.Repeat
import Derived.Shelf.Unicode.DecodeSlow
import Derived.Shelf.Unicode.DecodeAny
import Derived.Shelf.Unicode.DecodeLast
import Derived.Shelf.Slices.Turned
import Derived.Shelf.Slices.Reverse
import Derived.Ground.Names2Prog
import Derived.Shelf.Slices.Clone
import Derived.Shelf.Slices.Cells
import Derived.Ground.SlgnProg
import Derived.Shelf.SlicesE.Reverse
import Derived.Shelf.SlicesE.Clone
import Derived.Test.YtldegbfcaelpdaaGreatDoorTie
import Derived.Test.YtldegbfcaelpdaaGreatDoorCards
import Derived.SevenTiedAt
import Derived.LaidMore
import Derived.Lay
import Derived.Stop.Joined
import Derived.Test.YtldegbfcaelpdaaGreatDoorP2
set_option linter.unusedSimpArgs false
set_option maxHeartbeats 1000000
set_option linter.unusedVariables false
set_option linter.unusedSectionVars false
set_option linter.unnecessarySimpa false
namespace Go.Proofs
open Go Go.RowKit Gx
attribute [local irreducible] Go.Calls Gx.S Gx.O Gx.D Gx.OpP Gx.OpQ Gx.OpH
set_option maxRecDepth 20000
instance:TFn Tryz.prog 140:=⟨by kernel_rfl⟩
instance:TFn Tryz.prog 88:=⟨by kernel_rfl⟩
theorem c88(w:World)(bt:Nat)(j:Nat)(mo rm:Int)(a:Option Addr)(cap:Nat)(L:List LNd)(T:BT)(d lo hi:Nat)(hs:Nt w [] a L)(ht:TbR w [] bt (j:Int) mo rm a L.length cap)(hl:L.length<=1000)(hB:Bel lo hi d T)(hN:NIn (pln L) T)(h0:T.idx=0)(hf:T.flat.length<=10000):CE 88 #[.func (.func 89) #[.pointer (some ⟨bt,0,none⟩)] #[]] w [] (λg:Option Addr×Nat=>.slice g.1 (T.flat).length g.2) (λg=>True) λg=>[.own (.slice g.1 (T.flat).length g.2) 50 2 (T.flat).length ((T.flat).flatMap TEnt.vals)]:=by
 refine eN1 Tryz.func88 Tryz.ntmps88 ?_
 refine aU7 ?_
 refine oCh rfl (λw1 h1=>c140 w1 bt j mo rm a cap L T d lo hi (hs.later h1.nil) (ht.next h1.nil) hl hB hN h0 hf) (λ⟨gu,gv⟩_=>aU2 ?_)
 exact rT rfl rfl (λw' h'=>⟨(gu,gv),rfl,trivial,h'.ent aEt⟩)
theorem c44e(w:World)(co mo rm:Int)(a:Option Addr)(cap:Nat)(L:List LNd)(hs:Nt w [] a L)(hB:Bd (pln L))(hkl:∀i,i<L.length->∀x∈(nth L i).es,x.key.length<=1000000)(he:¬(Q0 (⟨co,mo,rm,pln L⟩:Tre)).2=0):CR 44 #[.agg #[.int .i64 co,.int .i64 mo,.int .i64 rm,.slice a L.length cap]] w (.tuple #[.slice none 0 0,.int .i64 (Q0 (⟨co,mo,rm,pln L⟩:Tre)).2]):=by
 refine eN1 Tryz.func44 Tryz.ntmps44 ?_
 refine aU2 ?_
 refine oBx λb1 _=>?_
 refine aU6 ?_
 refine oCq rfl (λw1 h1=>c87e w1 co mo rm a cap L (hs.later h1.nil) hB hkl he) (Qaf ?_)
 refine sCd rfl (λh2=>?_) λh2=>?_
 ·refine aU6 ?_
  exact Qf (rs:=[.tmp 2,.tmp 3]) rfl (.tmp rfl (.tmp rfl (.nil))) (λw' h'=>⟨rfl,h'.below⟩)
 exfalso;first|omega|(simp at h2;done)|(simp_all;done)
theorem c44o(w:World)(j:Nat)(mo rm:Int)(a:Option Addr)(cap:Nat)(L:List LNd)(T:BT)(d lo hi:Nat)(hs:Nt w [] a L)(hB:Bd (pln L))(hkl:∀i,i<L.length->∀x∈(nth L i).es,x.key.length<=1000000)(h0:(Q0 (⟨(j:Int),mo,rm,pln L⟩:Tre)).2=0)(hl2:L.length<=1000)(hBl:Bel lo hi d T)(hN:NIn (pln L) T)(hT0:T.idx=0)(hf:T.flat.length<=10000):CE 44 #[.agg #[.int .i64 (j:Int),.int .i64 mo,.int .i64 rm,.slice a L.length cap]] w [] (λg:Option Addr×Nat=>.tuple #[.slice g.1 (T.flat).length g.2,.int .i64 0]) (λg=>True) λg=>[.own (.slice g.1 (T.flat).length g.2) 50 2 (T.flat).length ((T.flat).flatMap TEnt.vals)]:=by
 obtain⟨hc0,hz0,hl0,hl120,hn0,_,_⟩:=Qcy h0
 rw[show((⟨(j:Int),mo,rm,pln L⟩:Tre)).ns=pln L from rfl,Qg]at hl0 hl120
 have hj:j<=3:=by obtain⟨j9,e9,hj9⟩:=Qcw hc0;have e8:((j:Nat):Int)=(j9:Int):=e9;omega
 have hT:TOk (j:Int) (pln L):=Qcp (t:=(⟨(j:Int),mo,rm,pln L⟩:Tre)) hn0
 have hmo:=(Qbu hz0).1
 simp only[]at hmo
 refine eN1 Tryz.func44 Tryz.ntmps44 ?_
 refine aU2 ?_
 refine oBx λb1 _=>?_
 refine aU6 ?_
 refine oCh rfl (λw1 h1=>c87o w1 j mo rm a cap L (hs.later h1.nil) hB hkl h0) (λ⟨b9,⟨gn9,c9⟩,L9⟩hF9=>?_)
 dsimp only
 obtain⟨hL9,hn9,hm9⟩:=hF9
 simp only[]at hL9 hn9 hm9
 have hl9:L9.length=L.length:=by rw[<-Qg L9,hL9,Qg]
 have hB9:Bd (pln L9):=by rw[hL9];exact hB
 have hT9:TOk (j:Int) (pln L9):=by rw[hL9];exact hT
 have hK9:∀i,i<L9.length->∀y∈(nth L9 i).es,Q3 (j:Int) y.key=true/\y.key.length<=1000000:=λi hi y hy=>Qdd hT9 i (by rw[Qg];exact hi) y (by rw[Qz hi];exact hy)
 refine Qaf ?_
 refine sCd rfl (λh2=>?_) λh2=>?_
 ·exfalso;first|omega|(simp at h2;done)|(simp_all;done)
 refine aU5 ?_
 refine oCh rfl (λw1 h1=>c88 w1 b9 j mo rm (some ⟨gn9,0,none⟩) c9 L9 T d lo hi (HS.nt_at h1 aPk aPk) (HS.tbr h1 aPk) om hBl (by rw[hL9];exact hN) hT0 hf) (λ⟨gu,gv⟩_=>aU3 ?_)
 exact Qf (rs:=[.tmp 2,.tmp 3]) rfl (.tmp rfl (.tmp rfl (.nil))) (λw' h'=>⟨(gu,gv),rfl,trivial,h'.ent aEt⟩)
instance:TFn Tryz.prog 220:=⟨by kernel_rfl⟩
instance:TFn Tryz.prog 221:=⟨by kernel_rfl⟩
instance:TFn Tryz.prog 236:=⟨by kernel_rfl⟩
instance:TFn Tryz.prog 219:=⟨by kernel_rfl⟩
theorem QaL:QE Tryz.prog 100=true:=by kernel_rfl
instance:TFn Tryz.prog 100:=⟨QaL⟩
instance:TFd Tryz.prog 119 1 1 3:=⟨by kernel_rfl⟩
instance:TFd Tryz.prog 119 2 2 3:=⟨by kernel_rfl⟩
instance:TFd Tryz.prog 119 3 3 3:=⟨by kernel_rfl⟩
instance:TFd Tryz.prog 119 0 0 3:=⟨by kernel_rfl⟩
theorem Qgm:QE Tryz.prog 99=true:=by kernel_rfl
instance:TFn Tryz.prog 99:=⟨Qgm⟩
instance:TFn Tryz.prog 209:=⟨by kernel_rfl⟩
instance:TFn Tryz.prog 152:=⟨by kernel_rfl⟩
instance:TFn Tryz.prog 153:=⟨by kernel_rfl⟩
theorem Qms(w:World)(n lo hi:Int):CR 220 #[.int .i64 n,.int .i64 lo,.int .i64 hi] w (.bool (decide (lo<=n)&&decide (n<=hi))):=by
 refine eN3 Tryz.func220 Tryz.ntmps220 ?_
 refine Zn ?_
 refine XH 4 10 14 rfl
  (λhg1 _=>by
   refine aU6 ?_
   exact oJt 4 14)
  (λhg3 _=>by
   refine aU3 ?_
   exact oJf 4 14) ?_
 refine aU2 ?_
 exact rV
theorem Qfw(w:World)(ok:Bool)(e:Int):CR 100 #[.bool ok,.int .i64 e] w (.int .i64 (cond ok 0 e)):=by
 refine eN2 Tryz.func100 Tryz.ntmps100 ?_
 refine aU9 ?_
 refine sCd rfl (λh1=>?_) λh1=>?_
 ·refine aU4 ?_
  exact rV (h:=by simp_all[QR])
 refine aU6 ?_
 exact rV (h:=by simp_all[QR])
theorem c52(w:World)(n lo hi:Int):CR 52 #[.int .i64 n,.int .i64 lo,.int .i64 hi] w (.bool (decide (lo<=n)&&decide (n<=hi))):=by
 refine eN3 Tryz.func52 Tryz.ntmps52 ?_
 refine Zn ?_
 refine XH 4 10 14 rfl
  (λhg1 _=>by
   refine aU6 ?_
   exact oJt 4 14)
  (λhg3 _=>by
   refine aU3 ?_
   exact oJf 4 14) ?_
 refine aU2 ?_
 exact rV
theorem c42(w:World)(ok:Bool)(e:Int):CR 42 #[.bool ok,.int .i64 e] w (.int .i64 (cond ok 0 e)):=by
 refine eN2 Tryz.func42 Tryz.ntmps42 ?_
 refine aU9 ?_
 refine sCd rfl (λh1=>?_) λh1=>?_
 ·refine aU4 ?_
  exact rV (h:=by simp_all[QR])
 refine aU6 ?_
 exact rV (h:=by simp_all[QR])
theorem c222(w:World)(ok:Bool)(e:Int):CR 222 #[.bool ok,.int .i64 e] w (.int .i64 (cond ok 0 e)):=by
 refine eN2 Tryz.func222 Tryz.ntmps222 ?_
 refine aU9 ?_
 refine sCd rfl (λh1=>?_) λh1=>?_
 ·refine aU4 ?_
  exact rV (h:=by simp_all[QR])
 refine aU6 ?_
 exact rV (h:=by simp_all[QR])
theorem c99(w:World)(a:Option Addr)(cap:Nat)(es:List Int)(hs:Sl w [] a 1 es.length (λi=>[.int .i64 (es.getD i 0)]))(hm:es.length<=1000):CR 99 #[.slice a es.length cap] w (.int .i64 (Yt es)):=by
 refine eN1 Tryz.func99 Tryz.ntmps99 ?_
 refine Qaf ?_
 refine Qt (α:=Nat) [2,4,7,8,9,10,11,12,13,14] (λk=>[(7,.int .i64 (k:Int))]) (λ_=>_) (λk=>k<=es.length/\Yt es=Yt (es.drop k)) (λk=>es.length-k) 0 ⟨om,rfl⟩ aSx (λw h=>h) (λk hk=>?_)
 obtain⟨hk1,hk2⟩:=hk
 refine aU5 ?_
 refine sCd rfl (λh1=>?_) λh1=>?_
 ·refine aU5 ?_
  refine o_p (Qa rfl rfl rfl Xn _ rfl om (hs.some om)) rfl (o_q (Qc rfl rfl ZK (hs.rd (i:=k) (j:=0) om rfl)) rfl (aU7 ?_))
  refine sCd rfl (λh2=>?_) λh2=>?_
  ·refine aU5 ?_
   exact rV (h:=by simp only[QR];rw[hk2,YI om,if_neg (by assumption)])
  refine aT4 ?_
  refine aU2 ?_
  exact QQ (k+1) om ⟨om,by rw[hk2,YI om,if_pos (by assumption)]⟩ aSx (λw h=>h)
 refine Qj rfl ?_
 refine aU4 ?_
 exact rV (h:=by simp only[QR];rw[hk2,Qcj om])
theorem f99{w0 w:World}{M:List Nat}{As As':List HA}{b cap n:Nat}{t:TypeId}{tot:Nat}{cs:List Value}(h:HS w0 M As w)(hp:Qv As (.blk b t tot cs) As')(hc:cs.all Qgu=true)(hn:cs.length=n)(hl:n<=1000) :
    Calls Tryz.prog 99 #[.slice (some ⟨b,0,none⟩) n cap] w λen w'=>en=.returned (.int .i64 (QK cs))/\Below w.heap.size w w':=by
  subst hn;have:=c99 w (some ⟨b,0,none⟩) cap (cs.map Go.RowKit.intOf) (by simpa using h.sl_ints hp hc) (by simpa using hl);rw[Qb3 hc]at this
  simpa using this
theorem c38(w:World)(a:Option Addr)(cap:Nat)(es:List Int)(hs:Sl w [] a 1 es.length (λi=>[.int .i64 (es.getD i 0)]))(hm:es.length<=1000):CR 38 #[.slice a es.length cap] w (.int .i64 (Yt es)):=by
 refine eN1 Tryz.func38 Tryz.ntmps38 ?_
 refine Qaf ?_
 refine Qt (α:=Nat) [2,4,7,8,9,10,11,12,13,14] (λk=>[(7,.int .i64 (k:Int))]) (λ_=>_) (λk=>k<=es.length/\Yt es=Yt (es.drop k)) (λk=>es.length-k) 0 ⟨om,rfl⟩ aSx (λw h=>h) (λk hk=>?_)
 obtain⟨hk1,hk2⟩:=hk
 refine aU5 ?_
 refine sCd rfl (λh1=>?_) λh1=>?_
 ·refine aU5 ?_
  refine o_p (Qa rfl rfl rfl Xn _ rfl om (hs.some om)) rfl (o_q (Qc rfl rfl ZK (hs.rd (i:=k) (j:=0) om rfl)) rfl (aU7 ?_))
  refine sCd rfl (λh2=>?_) λh2=>?_
  ·refine aU5 ?_
   exact rV (h:=by simp only[QR];rw[hk2,YI om,if_neg (by assumption)])
  refine aT4 ?_
  refine aU2 ?_
  exact QQ (k+1) om ⟨om,by rw[hk2,YI om,if_pos (by assumption)]⟩ aSx (λw h=>h)
 refine Qj rfl ?_
 refine aU4 ?_
 exact rV (h:=by simp only[QR];rw[hk2,Qcj om])
theorem f38{w0 w:World}{M:List Nat}{As As':List HA}{b cap n:Nat}{t:TypeId}{tot:Nat}{cs:List Value}(h:HS w0 M As w)(hp:Qv As (.blk b t tot cs) As')(hc:cs.all Qgu=true)(hn:cs.length=n)(hl:n<=1000) :
    Calls Tryz.prog 38 #[.slice (some ⟨b,0,none⟩) n cap] w λen w'=>en=.returned (.int .i64 (QK cs))/\Below w.heap.size w w':=by
  subst hn;have:=c38 w (some ⟨b,0,none⟩) cap (cs.map Go.RowKit.intOf) (by simpa using h.sl_ints hp hc) (by simpa using hl);rw[Qb3 hc]at this
  simpa using this
theorem c221(w:World)(n:Int):CR 221 #[.int .i64 n] w (.bool (QeF n)):=by
 refine eN1 Tryz.func221 Tryz.ntmps221 ?_
 refine aU7 ?_
 refine oCq rfl (λw1 h1=>Qms w1 _ _ _) (aU ?_)
 refine oOr 3 5 8 rfl
  (λhg1 _=>by
   refine aU3 ?_
   refine oCq rfl (λw1 h1=>Qms w1 _ _ _) ?_
   exact oJf 3 8)
  (λhg3 _=>by
   refine aU2 ?_
   exact oJt 3 8) ?_
 refine aU2 ?_
 exact rV
theorem c236(w:World)(n:Int):CR 236 #[.int .i64 n] w (.bool ((decide (n=2)||decide (n=3)))):=by
 refine eN1 Tryz.func236 Tryz.ntmps236 ?_
 refine aU9 ?_
 refine oOr 3 5 8 rfl
  (λhg1 _=>by
   refine aU4 ?_
   exact oJf 3 8)
  (λhg3 _=>by
   refine aU2 ?_
   exact oJt 3 8) ?_
 refine aU2 ?_
 exact rV
theorem c219(w:World)(n:Int):CR 219 #[.int .i64 n] w (.bool (Qdz n)):=by
 refine eN1 Tryz.func219 Tryz.ntmps219 ?_
 refine aU7 ?_
 refine oCq rfl (λw1 h1=>c221 w1 _) (aU ?_)
 refine XH 4 5 9 rfl
  (λhg1 _=>by
   refine aU3 ?_
   refine oCq rfl (λw1 h1=>c236 w1 _) (aU2 ?_)
   exact oJt 4 9)
  (λhg3 _=>by
   refine aU3 ?_
   exact oJf 4 9) ?_
 refine aU ?_
 refine XH 3 10 13 rfl
  (λhg5 _=>by
   refine aU4 ?_
   exact oJt 3 13)
  (λhg7 _=>by
   refine aU2 ?_
   exact oJf 3 13) ?_
 refine aU2 ?_
 exact rV
theorem c191(w:World)(o p:Int):CR 191 #[.int .i64 o,.int .i64 p] w (.int .i64 (YV o p)):=by
 refine eN2 Tryz.func191 Tryz.ntmps191 ?_
 refine aU7 ?_
 refine oCq rfl (λw1 h1=>c219 w1 _) (aU ?_)
 refine XH 3 7 10 rfl
  (λhg1 _=>by
   refine aU3 ?_
   refine oCq rfl (λw1 h1=>c219 w1 _) ?_
   exact oJt 3 10)
  (λhg3 _=>by
   refine aU2 ?_
   exact oJf 3 10) ?_
 refine oCq rfl (λw1 h1=>Qfw w1 _ _) (aU2 ?_)
 exact rV (h:=by simp only[QR,YV,cond_eq_ite])
theorem c194(w:World)(a:Ace):CR 194 #[.agg #[.int .i64 a.kd,.int .i64 a.fl,.int .i64 a.ms,.int .i64 a.wh]] w (.int .i64 (QaZ a)):=by
 refine eN1 Tryz.func194 Tryz.ntmps194 ?_
 refine aU2 ?_
 refine oBx λb1 _=>?_
 refine aU6 ?_
 refine oCq rfl (λw1 h1=>Qms w1 _ _ _) (aU ?_)
 refine XH 4 7 11 rfl
  (λhg2 _=>by
   refine aU5 ?_
   refine oCq rfl (λw1 h1=>Qms w1 _ _ _) ?_
   exact oJt 4 11)
  (λhg4 _=>by
   refine aU3 ?_
   exact oJf 4 11) ?_
 refine aU ?_
 refine XH 4 12 16 rfl
  (λhg6 _=>by
   refine aU5 ?_
   refine oCq rfl (λw1 h1=>c221 w1 _) ?_
   exact oJt 4 16)
  (λhg8 _=>by
   refine aU3 ?_
   exact oJf 4 16) ?_
 refine aU6 ?_
 refine oCq rfl (λw1 h1=>Qms w1 _ _ _) (oCq rfl (λw1 h1=>Qfw w1 _ _) (aU ?_))
 refine oCq rfl (λw1 h1=>Qfw w1 _ _) (o_h (Qd (cs:=[_,_]) rfl rfl Xn XK rfl rfl rfl) rfl (λb10 _=>oCq rfl (λw1 h1=>f99 h1 aPk (by rfl) (by rfl) (by decide)) (aU2 ?_)))
 exact rV (h:=by simp only[QR];rw[QaJ];unfold QaZ;simp only[cond_eq_ite,Bool.and_eq_true,decide_eq_true_eq];grind)
theorem c209(w:World)(n:Int):CR 209 #[.int .i64 n] w (.bool (decide (10<=n)&&decide (n<=999))):=by
 refine eN1 Tryz.func209 Tryz.ntmps209 ?_
 refine aU7 ?_
 refine oCq rfl (λw1 h1=>c56 w1 _ _ _) (aU2 ?_)
 exact rV
theorem c153(w:World)(n:Int):CR 153 #[.int .i64 n] w (.bool (QeF n)):=by
 refine eN1 Tryz.func153 Tryz.ntmps153 ?_
 refine aU7 ?_
 refine oCq rfl (λw1 h1=>c56 w1 _ _ _) (aU ?_)
 refine oOr 3 5 8 rfl
  (λhg1 _=>by
   refine aU3 ?_
   refine oCq rfl (λw1 h1=>c209 w1 _) ?_
   exact oJf 3 8)
  (λhg3 _=>by
   refine aU2 ?_
   exact oJt 3 8) ?_
 refine aU2 ?_
 exact rV
theorem c152(w:World)(n:Int):CR 152 #[.int .i64 n] w (.bool (Qdz n)):=by
 refine eN1 Tryz.func152 Tryz.ntmps152 ?_
 refine aU7 ?_
 refine oCq rfl (λw1 h1=>c209 w1 _) (aU ?_)
 refine oOr 3 5 8 rfl
  (λhg1 _=>by
   refine aU4 ?_
   exact oJf 3 8)
  (λhg3 _=>by
   refine aU2 ?_
   exact oJt 3 8) ?_
 refine aU ?_
 refine oOr 3 9 12 rfl
  (λhg5 _=>by
   refine aU4 ?_
   exact oJf 3 12)
  (λhg7 _=>by
   refine aU2 ?_
   exact oJt 3 12) ?_
 refine aU2 ?_
 exact rV (h:=by simp only[QR,Qdz,QeF];refine congrArg (λb=>Ending.returned (Value.bool b)) ?_;rw[Bool.eq_iff_iff];simp;omega)
theorem c109(w:World)(o p:Int):CR 109 #[.int .i64 o,.int .i64 p] w (.int .i64 (YV o p)):=by
 refine eN2 Tryz.func109 Tryz.ntmps109 ?_
 refine aU8 ?_
 refine oCq rfl (λw1 h1=>c152 w1 _) (aU2 ?_)
 refine oOr 4 8 12 rfl
  (λhg1 _=>by
   refine aU3 ?_
   refine oCq rfl (λw1 h1=>c152 w1 _) (aU2 ?_)
   exact oJf 4 12)
  (λhg3 _=>by
   refine aU3 ?_
   exact oJt 4 12) ?_
 refine aU ?_
 refine sCd rfl (λh5=>?_) λh5=>?_
 ·have hz:YV o p=2:=by have hq:=h5;unfold YV;rw[if_neg (by simp;grind)]
  refine aU4 ?_
  exact rV (h:=by rw[hz];rfl)
 have hz:YV o p=0:=by have hq:=h5;unfold YV;rw[if_pos (by simp;grind)]
 refine aU5 ?_
 exact rV (h:=by rw[hz];rfl)
theorem c110(w:World)(a:Ace):CR 110 #[.agg #[.int .i64 a.kd,.int .i64 a.fl,.int .i64 a.ms,.int .i64 a.wh]] w (.int .i64 (QaZ a)):=by
 refine eN1 Tryz.func110 Tryz.ntmps110 ?_
 refine aU2 ?_
 refine oBx λb1 _=>?_
 refine aU7 ?_
 refine oCq rfl (λw1 h1=>c56 w1 _ _ _) (aU2 ?_)
 refine sCd rfl (λh2=>?_) λh2=>?_
 ·have hz:QaZ a=15:=by have hq:=h2;unfold QaZ;rw[if_neg om]
  refine aU4 ?_
  exact rV (h:=by rw[hz];rfl)
 refine aU6 ?_
 refine oCq rfl (λw1 h1=>c56 w1 _ _ _) (aU2 ?_)
 refine oOr 5 11 16 rfl
  (λhg3 _=>by
   refine aU5 ?_
   refine oCq rfl (λw1 h1=>c56 w1 _ _ _) (aU2 ?_)
   exact oJf 5 16)
  (λhg5 _=>by
   refine aU4 ?_
   exact oJt 5 16) ?_
 refine aU ?_
 refine oOr 5 17 22 rfl
  (λhg7 _=>by
   refine aU5 ?_
   refine oCq rfl (λw1 h1=>c153 w1 _) (aU2 ?_)
   exact oJf 5 22)
  (λhg9 _=>by
   refine aU4 ?_
   exact oJt 5 22) ?_
 refine aU ?_
 refine sCd rfl (λh11=>?_) λh11=>?_
 ·have hz:QaZ a=2:=by unfold QaZ;rw[if_pos om,if_neg (by simp;grind)]
  refine aU4 ?_
  exact rV (h:=by rw[hz];rfl)
 have hz:QaZ a=0:=by unfold QaZ;rw[if_pos om,if_pos (by simp;grind)]
 refine aU5 ?_
 exact rV (h:=by rw[hz];rfl)
end Go.Proofs
namespace Gx
open Go Go.RowKit Go.ChangeShapes Go.WideShapes Go.ChangeAt
section
variable{H:Type}{enc:TypeId×Value->H}{P:Program}{W:World}
def okT(P:Program)(W:World):Nat->TypeId->List Value->Prop
 | 0,_,_=>False
 | d+1,t,cs=>match P.underlying t with
  | some (.int k)=>∃n,cs=[.int k n]/\(Lit.int k n).wf=true
  | some .string=>∃l,cs=[.string (bs l)]/\l.length<=maxLen
  | some .bool=>∃b,cs=[.bool b]
  | some (.slice e)=>∃a n cap cell,cs=[.slice a n cap]/\n<=cap/\cap<=maxLen/\(0<P.cellsOf e->Sl W [] a (P.cellsOf e) n cell)/\∀i,i<n->okT P W d e (cell i)
  | some (.struct fs)=>cs.length=P.cellsOf t/\∀f∈fs.toList,okT P W d f.type ((cs.drop f.offset).take (P.cellsOf f.type))
  | some (.array n e)=>cs.length=P.cellsOf t/\∀i,i<n->okT P W d e ((cs.drop (i*P.cellsOf e)).take (P.cellsOf e))
  | _=>True
theorem QeI{a:Addr}{n:Nat}{cs:List Value}(h:W.cells? 0 a n=some cs):cs.length=n/\∀j v,cs[j]?=some v->W.cell? (a.add j)=some v:=by
 unfold World.cells? at h;rw[if_pos (Nat.zero_le _)]at h;have hl:cs.length=n:=by simpa using mapM_some_length h
 refine⟨hl,λj v hv=>?_⟩;have hj:j<n:=by rw[<-hl];exact(List.getElem?_eq_some_iff.1 hv).1
 have:=mapM_some_get h j j (by simp[hj]);rw[this,hv]
theorem Qad{sp:Nat->Bool}{held:Bool}:∀(d:Nat)(t:TypeId)(cs:List Value)(x:DataW H×List MemPlace),DataW.trod enc P W 0 sp held d t cs=some x->okT P W d t cs
 | 0,_,_,_,h=>by simp[DataW.trod]at h
 | d+1,t,cs,x,h=>by
  rw[okT];split
  ·rename_i k hu;obtain⟨n,rfl,_,hw⟩:=DataW.trod_int hu h;exact⟨n,rfl,hw⟩
  ·rename_i hu;obtain⟨s,rfl,_,hs⟩:=DataW.trod_string hu h;exact⟨s.data.toList,rfl,hs⟩
  ·rename_i hu;obtain⟨b,rfl,_⟩:=DataW.trod_bool hu h;exact⟨b,rfl⟩
  ·rename_i e hu;rcases DataW.trod_slice hu h with⟨rfl,_⟩|⟨a,len,cap,elems,rest,n,hn,rfl,_,_,hl,hc,hel,hg,_⟩
   ·exact⟨none,0,0,λ_=>[],rfl,Nat.le_refl _,Nat.zero_le _,λ_=>⟨λh0=>absurd h0 (Nat.lt_irrefl _)⟩,λi hi=>absurd hi (Nat.not_lt_zero i)⟩
   ·cases hn
    have hx:∀i,i<len->∃c y,W.cells? 0 (a.add (i*P.cellsOf e)) (P.cellsOf e)=some c/\DataW.trod enc P W 0 sp held d e c=some y:=λi hi=>by
     have h1:=hg i hi;have h2:∃y,elems[i]?=some y:=⟨_,List.getElem?_eq_getElem om⟩;obtain⟨y,hy⟩:=h2;rw[hy,Option.bind_eq_some_iff]at h1;obtain⟨c,e1,e2⟩:=h1;exact⟨c,y,e1,e2⟩
    have hcell:∀i,∃c,i<len->∃y,W.cells? 0 (a.add (i*P.cellsOf e)) (P.cellsOf e)=some c/\DataW.trod enc P W 0 sp held d e c=some y:=λi=>by
     by_cases hi:i<len
     ·obtain⟨c,y,e1,e2⟩:=hx i hi;exact⟨c,λ_=>⟨y,e1,e2⟩⟩
     ·exact⟨[],λh=>absurd h hi⟩
    obtain⟨cell,hcell⟩:=Classical.axiomOfChoice hcell;refine⟨some a,len,cap,cell,rfl,hl,hc,λh0=>⟨λhpos=>?_⟩,λi hi=>?_⟩
    ·have hsp:a.spot=none:=by
      obtain⟨y,e1,_⟩:=hcell 0 hpos;obtain⟨e2,e3⟩:=QeI e1;have hz:0<(cell 0).length:=om
      have e4:=e3 0 _ (List.getElem?_eq_getElem hz);have e5:(a.add (0*P.cellsOf e)).add 0=a:=by simp[Addr.add]
      rw[e5]at e4;unfold World.cell? at e4;split at e4
      ·split at e4
       ·cases e4
       ·rename_i hns;cases hsx:a.spot with
        | none=>rfl
        | some v=>rw[hsx]at hns;simp at hns
      ·cases e4
     obtain⟨b,o,s⟩:=a;simp only at hsp;subst hsp;refine⟨b,o,rfl,λi hi=>?_⟩;obtain⟨y,e1,_⟩:=hcell i hi;obtain⟨e2,e3⟩:=QeI e1;refine⟨e2,λj v hv=>?_⟩;have e4:=e3 j v hv;have e5:((⟨b,o,none⟩:Addr).add (i*P.cellsOf e)).add j=⟨b,o+i*P.cellsOf e+j,none⟩:=by rw[XG,XG]
     rw[e5]at e4;refine⟨?_,by simp,e4⟩;unfold World.cell? at e4;split at e4
     ·rename_i hh;exact(Array.getElem?_eq_some_iff.1 hh).1
     ·cases e4
    ·obtain⟨y,_,e2⟩:=hcell i hi;exact Qad d e _ y e2
  ·rename_i fs hu;obtain⟨xs,n,hn,_,hl,hxl,hg⟩:=DataW.trod_struct hu h;cases hn;refine⟨hl,λf hf=>?_⟩;obtain⟨i,hi,rfl⟩:=List.getElem_of_mem hf;have hi':i<fs.size:=by simpa using hi
   have h1:=hg i fs[i] (by simp[hi']);rw[List.getElem?_eq_getElem om]at h1;exact Qad d _ _ _ (by simpa using h1)
  ·rename_i n e hu;obtain⟨xs,m,hm,_,hl,hxl,hg⟩:=DataW.trod_array hu h;cases hm;refine⟨hl,λi hi=>?_⟩;have h1:=hg i hi;rw[List.getElem?_eq_getElem om]at h1;exact Qad d _ _ _ h1
  ·trivial
section
variable{d:Nat}{t:TypeId}{cs:List Value}
theorem Qog{k:IntKind}(h:okT P W d t cs)(hu:P.underlying t=some (.int k)):∃n,cs=[.int k n]/\(Lit.int k n).wf=true:=by
 cases d with
 | zero=>cases h
 | succ d=>rw[okT,hu]at h;exact h
theorem Qic(h:okT P W d t cs)(hu:P.underlying t=some .bool):∃b,cs=[.bool b]:=by
 cases d with
 | zero=>cases h
 | succ d=>rw[okT,hu]at h;exact h
theorem QiO{e:TypeId}(h:okT P W d t cs)(hu:P.underlying t=some (.slice e))(hc:0<P.cellsOf e):∃d' a n cap cell,cs=[.slice a n cap]/\n<=cap/\cap<=maxLen/\Sl W [] a (P.cellsOf e) n cell/\∀i,i<n->okT P W d' e (cell i):=by
 cases d with
 | zero=>cases h
 | succ d=>
  rw[okT,hu]at h;obtain⟨a,n,cap,cell,h1,h2,h3,h4,h5⟩:=h;exact⟨d,a,n,cap,cell,h1,h2,h3,h4 hc,h5⟩
theorem QmM{fs:Array Field}(h:okT P W d t cs)(hu:P.underlying t=some (.struct fs)):∃d',cs.length=P.cellsOf t/\∀f∈fs.toList,okT P W d' f.type ((cs.drop f.offset).take (P.cellsOf f.type)):=by
 cases d with
 | zero=>cases h
 | succ d=>rw[okT,hu]at h;exact⟨d,h⟩
end
theorem Qh2{sp:Nat->Bool}{held:Bool}{t:TypeId}{v:Value}{x:DataW H}{ps:List MemPlace}(h:DataW.Trod enc P W 0 sp held t v x ps):∃d,okT P W d t v.cells.toList:=by
 obtain⟨d,h⟩:=h;exact⟨d,Qad d t _ _ h⟩
theorem Qcd(hl:laidOutB P=true){W':World}(hb:Below W.heap.size W W'):∀{ts:List TypeId}{vs:List Value}{ds:List (DataW H)}{ps:List MemPlace},ts.all (λt=>P.readableRec t&&decide (t<P.types.size))=true ->
  DataW.TrodAll enc P W 0 (λ_=>true) true ts vs ds ps->(∀x∈ps,x.block<W.heap.size)->DataW.TrodAll enc P W' 0 (λb=>decide (b<W.heap.size)) true ts vs ds ps
 | [],[],[],_,_,h,_=>h
 | [],_::_,_,_,_,h,_=>(by cases h)
 | [],[],_::_,_,_,h,_=>(by cases h)
 | _::_,[],_,_,_,h,_=>(by cases h)
 | _::_,_::_,[],_,_,h,_=>(by cases h)
 | t::ts,v::vs,d::ds,ps,hr,h,hlt=>by
  obtain⟨p,q,h1,h2,rfl⟩:=h;simp only[List.all_cons,Bool.and_eq_true,decide_eq_true_eq]at hr;exact⟨p,q,Below.trod hl hr.1.1 hr.1.2 h1 hb (λx hx=>hlt x (List.mem_append_left _ hx)),Qcd hl hb hr.2 h2 (λx hx=>hlt x (List.mem_append_right _ hx)),rfl⟩
theorem Qlo{f:Func}{s:ChangeSpec}{apart fresh handsOn:Bool}{W':World}{args:Array Value}{ds gs:List (DataW H)}{before:List MemPlace}{tb:TypeId}
  (hl:laidOutB P=true)(hr:f.params.toList.all (λt=>P.readableRec t&&decide (t<P.types.size))=true)(hbool:f.resultTypes= #[tb])(htb:P.underlying tb=some .bool)(hv:s.vars=[])
  (hs:s.fn H ds={results:=[.lit (.bool true)],args:=ds})(hW:DataW.Whole enc P f.params.toList s.vars apart W args.toList ds gs before)(hb:Below W.heap.size W W') :
  s.post enc P f apart fresh handsOn false W args (.bool true) W':=by
 have hW':=hW;obtain⟨p,q,hA,hV,rfl,hfz,hnd⟩:=hW;rw[hv]at hV;obtain⟨rfl,rfl⟩:=trodVars_none hV;have hlt:∀x∈p,x.block<W.heap.size:=λx hx=>by simpa using hW'.lt x (by simpa using hx)
 refine⟨ds,[],p++[],[],p,[],hW',?_,?_,?_,hb.frame _,λh=>by cases h⟩
 ·rw[List.append_nil,hs,hbool];exact trodAll_mk1 (shut_bool htb true)
 ·rw[List.append_nil,hs];exact Qcd hl hb hr hA hlt
 ·rw[List.append_nil,hs,hv];rfl
end
end Gx
namespace Go.Proofs
open Go Go.RowKit Gx
theorem QmO{α:Type}[Inhabited α]{vals:α->List Value}{sz n:Nat}{W:World}{a:Option Addr}{cell:Nat->List Value}{Q:α->Prop}(hs:Sl W [] a sz n cell)(hr:∀i,i<n->∃x,cell i=vals x/\Q x):∃l:List α,n=l.length/\Rw vals sz W [] a l/\(∀x∈l,Q x)/\∀i,i<n->cell i=vals (nth l i):=by
 have hr2:∀i,∃x,i<n->cell i=vals x/\Q x:=λi=>by
  by_cases hi:i<n
  ·obtain⟨x,h⟩:=hr i hi;exact⟨x,λ_=>h⟩
  ·exact⟨default,λh=>absurd h hi⟩
 obtain⟨f,hf⟩:=Classical.axiomOfChoice hr2
 have hg:∀i,i<n->nth ((List.range n).map f) i=f i:=λi hi=>by
  simp only[nth,List.getD_eq_getElem?_getD,List.getElem?_map,List.getElem?_range hi,Option.map_some,Option.getD_some]
 refine⟨(List.range n).map f,by simp,⟨λhn=>?_⟩,λx hx=>?_,λi hi=>?_⟩
 ·rw[List.length_map,List.length_range]at hn;obtain⟨b,o,e,h2⟩:=hs.at_ hn;refine⟨b,o,e,λi hi=>?_⟩;rw[List.length_map,List.length_range]at hi;have h3:=h2 i hi;rw[(hf i hi).1]at h3;rw[hg i hi];exact h3
 ·obtain⟨i,hi,rfl⟩:=List.mem_map.1 hx;exact(hf i (List.mem_range.1 hi)).2
 ·rw[hg i hi];exact(hf i hi).1
theorem Qkz:Tryz.prog.cellsOf 3=1:=by kernel_rfl
theorem Qpk:Tryz.prog.cellsOf 4=1:=by kernel_rfl
section
variable{W:World}{d:Nat}
theorem Qdk{x:Value}(h:okT Tryz.prog W d 3 [x]):∃n,x=.int .i64 n:=by
 obtain⟨n,e,_⟩:=Qog h Tryz.underlying3;cases e;exact⟨n,rfl⟩
theorem Qku{x:Value}(h:okT Tryz.prog W d 4 [x]):∃n,x=.bool n:=by
 obtain⟨n,e⟩:=Qic h Tryz.underlying4;cases e;exact⟨n,rfl⟩
end
theorem QdD:Tryz.prog.cellsOf 119=4:=by kernel_rfl
section
variable{W:World}{d:Nat}
theorem ln4{cs:List Value}(h:cs.length=4):∃x0 x1 x2 x3,cs=[x0,x1,x2,x3]:=by
 match cs,h with
 | [x0,x1,x2,x3],_=>exact⟨x0,x1,x2,x3,rfl⟩
theorem Qp4{cs:List Value}(h:okT Tryz.prog W d 119 cs):∃x:Ace,cs=x.vals/\True:=by
 obtain⟨d2,l,o⟩:=QmM h Tryz.underlying119;rw[QdD]at l;obtain⟨x0,x1,x2,x3,rfl⟩:=ln4 l;simp only[List.mem_cons,List.mem_nil_iff,or_false,forall_eq_or_imp,forall_eq]at o;rw[Qkz]at o;obtain⟨n0,rfl⟩:=Qdk (x:=x0) o.1;obtain⟨n1,rfl⟩:=Qdk (x:=x1) o.2.1;obtain⟨n2,rfl⟩:=Qdk (x:=x2) o.2.2.1;obtain⟨n3,rfl⟩:=Qdk (x:=x3) o.2.2.2;exact⟨⟨n0,n1,n2,n3⟩,rfl,trivial⟩
end
end Go.Proofs
namespace Gx
open Go Go.RowKit
def nmB(u:List Int):List UInt8:=u.flatMap le4
theorem XT(u:List Int):(nmB u).length=4*u.length:=by
 unfold nmB
 induction u with
 | nil=>rfl
 | cons x u ih=>rw[List.flatMap_cons,List.length_append,ih,List.length_cons];show 4+_=_;omega
theorem Qnh{u:List Int}{k:Nat}(h:k<u.length):nmB (u.take (k+1))=nmB (u.take k)++le4 (u.getD k 0):=by
 unfold nmB;rw[Xe (d:=0) h,List.flatMap_append];simp
def QrI:List UInt8:=[83,68,83,72]
def hd0(nx n:Int):List UInt8:=QrI++nmB [nx,n]
def QhL(nx n:Int):List UInt8:=hd0 nx n++nmB [QkL (hd0 nx n)]
def ZU(m:Int):Nat:=(upT m-m).toNat
def Xa(x:SItm):Int:=16+(x.by_.length:Int)
def Qhq(l:List SItm)(k:Nat):List UInt8:=nmB [Xk (nth l k).by_,(nth l k).id,(QF (l.take k)).2,Xa (nth l k)]++(nth l k).by_++List.replicate (ZU (Xa (nth l k))) 0
def Xo(nx:Int)(l:List SItm)(k:Nat):List UInt8:=QhL nx (QF l).2++(List.range k).flatMap (Qhq l)
def XF(nx:Int)(l:List SItm):List UInt8:=Xo nx l l.length
theorem QlG(l:List SItm)(k:Nat):((Qhq l k).length:Int)=upT (16+((nth l k).by_.length:Int)):=by
 unfold Qhq ZU Xa;rw[List.length_append,List.length_append,XT,List.length_replicate];unfold upT;simp only[List.length_cons,List.length_nil];omega
theorem QeK(nx:Int)(l:List SItm)(k:Nat):Xo nx l (k+1)=Xo nx l k++Qhq l k:=by
 unfold Xo;rw[List.range_succ,List.flatMap_append,<-List.append_assoc];simp
theorem QbU(nx:Int)(l:List SItm):∀k,k<=l.length->((Xo nx l k).length:Int)=(QF (l.take k)).2
 | 0,_=>rfl
 | k+1,h=>by
  rw[QeK,List.length_append,Yv om];have h1:=QbU nx l k om;have h2:=QlG l k;simp only[];omega
theorem Zx(nx:Int)(l:List SItm):((XF nx l).length:Int)=(QF l).2:=by
 have:=QbU nx l l.length (Nat.le_refl _)
 rwa[List.take_length]at this
theorem Qhp{l:List SItm}:∀n,n<=l.length->∀k,k<n->(QF (l.take n)).1.getD k 0=(QF (l.take k)).2
 | 0,_,k,hk=>absurd hk (Nat.not_lt_zero _)
 | n+1,hn,k,hk=>by
  rw[Yv om];have hl:=QcP n l om;rcases Nat.lt_or_ge k n with h|h
  ·rw[List.getD_eq_getElem?_getD,List.getElem?_append_left om,<-List.getD_eq_getElem?_getD];exact Qhp n om k h
  ·obtain rfl:k=n:=by omega
   rw[List.getD_eq_getElem?_getD,List.getElem?_append_right om,hl];simp
theorem Qju{l:List SItm}{k:Nat}(h:k<l.length):(QF l).1.getD k 0=(QF (l.take k)).2:=by
 have:=Qhp (l:=l) l.length (Nat.le_refl _) k h
 rwa[List.take_length]at this
def QW(nx:Int)(l:List SItm):List UInt8:=XF nx l++List.replicate (8192-(XF nx l).length) 0++XF nx l
theorem Qe9{l:List SItm}(hb:∀x∈l,x.by_.length<=100000):∀n,n<=l.length->∀k,k<=n->(QF (l.take k)).2<=(QF (l.take n)).2
 | 0,_,k,hk=>by
  obtain rfl:k=0:=by omega
  exact Int.le_refl _
 | n+1,hn,k,hk=>by
  rcases Nat.lt_or_ge k (n+1)with h|h
  ·have h1:=Qe9 hb n om k om;rw[Yv (show n<l.length by omega)];unfold upT;simp only[];omega
  ·obtain rfl:k=n+1:=by omega
   exact Int.le_refl _
end Gx
namespace Gx
open Go Go.RowKit
def dA:Dsc:=⟨10,10,false,false,[],[]⟩
def dB:Dsc:=⟨10,10,false,true,[⟨0,0,1,1⟩],[]⟩
def bA:List UInt8:=[1,0,0,0,10,0,0,0,10,0,0,0]
def bB:List UInt8:=[1,2,1,0,10,0,0,0,10,0,0,0,0,0,1,0,1,0,0,0]
def lA:List SItm:=[⟨256,bA⟩]
def lB:List SItm:=[⟨256,bA⟩,⟨257,bB⟩]
theorem aw_1:Y0 256 [] dA=⟨257,lA,256,0⟩:=by kernel_rfl
theorem Qq8:Y0 257 lA dB=⟨258,lB,257,0⟩:=by kernel_rfl
theorem aw_3:(QO 258 lB).2=0:=by kernel_rfl
theorem aw_4:QF lB=([16,48],96):=by kernel_rfl
theorem aw_5:(QO 257 lA).2=0:=by kernel_rfl
theorem aw_6:QcK 258 lB [257]=0:=by kernel_rfl
theorem aw_7:Qbh 258 lB [257]=⟨258,[⟨257,bB⟩],[256]⟩:=by kernel_rfl
theorem aw_8:(QW 257 lA).length=8240:=by
 have h:=Zx 257 lA;rw[show(QF lA).2=48 by kernel_rfl]at h;unfold QW;rw[List.length_append,List.length_append,List.length_replicate];omega
end Gx
namespace Gx
open Go Go.RowKit
theorem Qfa(x:UInt8)(l:List UInt8):at1 (x::l) 0=(x.toNat:Int):=rfl
theorem QeY(x:UInt8)(l:List UInt8)(i:Nat):at1 (x::l) (i+1)=at1 l i:=rfl
theorem Qni{a:Ace}(rest:List UInt8)(h:QaZ a=0):Ya (Yk a++rest) 0=a:=by
 obtain⟨h1,h2,h3,h4⟩:=Qjs h;have e:Yk a++rest=by8 a.kd::by8 a.fl::by8 a.ms::by8 (a.ms/256)::by8 a.wh::by8 (a.wh/256)::by8 (a.wh/65536)::by8 (a.wh/16777216)::rest:=rfl;rw[e];obtain⟨kd,fl,ms,wh⟩:=a;simp only[]at h1 h2 h3 h4;unfold Ya at4 at2;simp only[QeY,Qfa,YH,Nat.zero_add,show(2:Nat)=0+1+1 from rfl,show(3:Nat)=0+1+1+1 from rfl,show(4:Nat)=0+1+1+1+1 from rfl,show(5:Nat)=0+1+1+1+1+1 from rfl,show(6:Nat)=0+1+1+1+1+1+1 from rfl,show(7:Nat)=0+1+1+1+1+1+1+1 from rfl];congr 1<;>omega
theorem QeW:∀(l:List Ace)(i:Nat),(l.flatMap Yk).drop (8*i)=(l.drop i).flatMap Yk
 | l,0=>by simp
 | [],i+1=>by simp
 | a::l,i+1=>by
  rw[List.flatMap_cons,List.drop_succ_cons,<-QeW l i,show 8*(i+1)=8+8*i by omega,<-List.drop_drop];rfl
theorem QkW(d:Dsc)(i:Nat):(QG d).drop (12+8*i)=((d.en++d.au).drop i).flatMap Yk:=by
 rw[Qhh,<-List.drop_drop];rw[show(X5 d++(d.en++d.au).flatMap Yk).drop 12=(d.en++d.au).flatMap Yk from rfl,QeW]
theorem QiN(s:List UInt8)(k:Nat):Ya s k=Ya (s.drop k) 0:=by
 unfold Ya;rw[QcN,QcN,ZS,Zh];rfl
theorem QoV{d:Dsc}{i:Nat}(h:i<(d.en++d.au).length)(hv:QaZ (nth (d.en++d.au) i)=0):Ya (QG d) (12+8*i)=nth (d.en++d.au) i:=by
 rw[QiN,QkW,List.drop_eq_getElem_cons h,List.flatMap_cons]
 have e:(d.en++d.au)[i]=nth (d.en++d.au) i:=by
  have:=QB h;rw[List.getElem?_eq_getElem h]at this;exact Option.some.inj this
 rw[e];exact Qni _ hv
theorem YE{α:Type}[Inhabited α]{l m:List α}{k:Nat}(h:k<l.length):nth (l++m) k=nth l k:=by
 unfold nth;rw[List.getD_eq_getElem?_getD,List.getElem?_append_left h,<-List.getD_eq_getElem?_getD]
theorem Qe8{α:Type}[Inhabited α]{l m:List α}{k:Nat}:nth (l++m) (l.length+k)=nth m k:=by
 unfold nth;rw[List.getD_eq_getElem?_getD,List.getElem?_append_right om,<-List.getD_eq_getElem?_getD,show l.length+k-l.length=k by omega]
theorem QnP(d:Dsc):∃rest,QG d=1::by8 (QaV d)::by8 d.en.length::by8 d.au.length::by8 d.ow::by8 (d.ow/256)::by8 (d.ow/65536)::by8 (d.ow/16777216)::by8 d.gr::by8 (d.gr/256)::by8 (d.gr/65536)::by8 (d.gr/16777216)::rest:=⟨_,rfl⟩
theorem QoO{d:Dsc}(h:(Q9 d).2=0):YN (QG d)=0/\Q2 (QG d)=d:=by
 obtain⟨h1,⟨h2,h3⟩,h4,h5⟩:=Qbq h;obtain⟨⟨o1,o2⟩,g1,g2⟩:=Qhw h1;have hl:=Qc8 d;obtain⟨rest,hr⟩:=QnP d;have hf:0<=QaV d/\QaV d<=3:=by unfold QaV;split<;>split<;>omega
 have a0:at1 (QG d) 0=1:=by rw[hr];rfl
 have a1:at1 (QG d) 1=QaV d:=by rw[hr,QeY,Qfa,YH];omega
 have a2:at1 (QG d) 2=d.en.length:=by rw[hr];simp only[QeY,Qfa,show(2:Nat)=0+1+1 from rfl,YH];omega
 have a3:at1 (QG d) 3=d.au.length:=by rw[hr];simp only[QeY,Qfa,show(3:Nat)=0+1+1+1 from rfl,YH];omega
 have a4:at4 (QG d) 4=d.ow:=by
  unfold at4 at2;rw[hr];simp only[QeY,Qfa,show(4:Nat)=0+1+1+1+1 from rfl,show(2:Nat)=0+1+1 from rfl,<-Nat.add_assoc,YH];omega
 have a8:at4 (QG d) 8=d.gr:=by
  unfold at4 at2;rw[hr];simp only[QeY,Qfa,show(8:Nat)=0+1+1+1+1+1+1+1+1 from rfl,show(2:Nat)=0+1+1 from rfl,<-Nat.add_assoc,YH];omega
 have hv:∀i,i<(d.en++d.au).length->Ya (QG d) (12+8*i)=nth (d.en++d.au) i:=λi hi=>QoV hi (QhJ (h5 i hi));refine⟨?_,?_⟩
 ·unfold YN;rw[a0,a1,a2,a3,if_neg om,if_pos om,if_pos om,if_pos om]
 ·have e1:(List.range d.en.length).map (λi=>Ya (QG d) (12+8*i))=d.en:=by
   apply List.ext_getElem?;intro i;rw[List.getElem?_map]
   by_cases hi:i<d.en.length
   ·rw[List.getElem?_range hi,Option.map_some,hv i (by rw[List.length_append];omega),YE hi,QB hi]
   ·rw[List.getElem?_eq_none (by simp;omega),List.getElem?_eq_none om];rfl
  have e2:(List.range d.au.length).map (λi=>Ya (QG d) (12+8*(d.en.length+i)))=d.au:=by
   apply List.ext_getElem?;intro i;rw[List.getElem?_map]
   by_cases hi:i<d.au.length
   ·rw[List.getElem?_range hi,Option.map_some,hv (d.en.length+i) (by rw[List.length_append];omega),Qe8,QB hi]
   ·rw[List.getElem?_eq_none (by simp;omega),List.getElem?_eq_none om];rfl
  unfold Q2;rw[a1,a2,a3,a4,a8,Int.toNat_natCast,Int.toNat_natCast,e1,e2];obtain⟨ow,gr,pr,he,en,au⟩:=d;unfold QaV;cases pr<;>cases he<;>rfl
theorem QbR{d:Dsc}(h:(Q9 d).2=0):YT (QG d)=0/\Yf (QG d)=d:=by
 obtain⟨h1,h2⟩:=QoO h;have:=Qde h1 (by rw[h2];exact h)
 rwa[h2]at this
theorem QlI{nx:Int}{l:List SItm}{i:Nat}(h1:256<=(nth l i).id/\(nth l i).id<=nx-1)(h2:i=0\/(nth l (i-1)).id<(nth l i).id):e0E nx l i=0:=by
 unfold e0E;rw[if_pos h1,if_pos h2]
theorem Qg4{nx:Int}{l:List SItm}{i:Nat}(h0:e0E nx l i=0)(h1:YT (nth l i).by_=0)(h:¬(nth l i).by_∈(l.take i).map SItm.by_):Qbz nx l i=0:=by
 rw[<-Qbs nx l i (P:=(nth l i).by_∈(l.take i).map SItm.by_) (dP:=inferInstance) Iff.rfl];simp only[QK,e1E,if_pos h0,h1,h];simp
theorem QnL{nx:Int}{l:List SItm}(h1:256<=nx/\nx<=2147483647)(h2:l.length<=60)(h3:∀k,k<l.length->Qbz nx l k=0)(h4:(QF l).2<=8192):QO nx l=(0,0):=by
 have h5:(QN (X4 nx l) 0).2=0:=Y5.2 λe he=>by
  obtain⟨i,hi,rfl⟩:=List.mem_map.1 he;exact h3 i (List.mem_range.1 hi)
 unfold QO;rw[if_pos h1,if_pos h2,if_pos h5,if_pos h4]
theorem QkN{nx:Int}{l:List SItm}{d:Dsc}(hs:(QO nx l).2=0)(hd:(Q9 d).2=0)(h:(QaY nx l (QG d)).e=0):(QO (QaY nx l (QG d)).nx (QaY nx l (QG d)).l).2=0:=by
 obtain⟨h1,h2,h3,h4⟩:=XR hs
 by_cases hk:byK l (QG d)<l.length
 ·have e:QaY nx l (QG d)=⟨nx,l,(nth l (byK l (QG d))).id,0⟩:=by unfold QaY;rw[if_pos hk]
  rw[e];exact hs
 ·by_cases hf:(l++[SItm.mk nx (QG d)]).length>60\/(QF (l++[SItm.mk nx (QG d)])).2>8192\/nx=2147483647
  ·have e:QaY nx l (QG d)=⟨0,[],0,16⟩:=by unfold QaY;rw[if_neg hk,if_pos hf]
   rw[e]at h;exact absurd h (by decide)
  ·have e:QaY nx l (QG d)=⟨nx+1,l++[SItm.mk nx (QG d)],nx,0⟩:=by unfold QaY;rw[if_neg hk,if_neg hf]
   rw[e];show(QO (nx+1) (l++[SItm.mk nx (QG d)])).2=0;have hl:(l++[SItm.mk nx (QG d)]).length=l.length+1:=by simp
   rw[QnL om om (λk hk2=>?_) om];rw[hl]at hk2;rcases Nat.lt_or_ge k l.length with hkl|hkl
   ·have hi:=h3 k hkl;have hr:=Yb hi;have hi0:=Qen hi;have n1:nth (l++[SItm.mk nx (QG d)]) k=nth l k:=YE hkl;have n2:nth (l++[SItm.mk nx (QG d)]) (k-1)=nth l (k-1):=YE om;refine Qg4 (QlI (by rw[n1];omega) (by rw[n1,n2];exact hr.2)) (by rw[n1];exact hi0.2.1) ?_;rw[n1,List.take_append_of_le_length om];exact hi0.2.2
   ·obtain rfl:k=l.length:=by omega
    have n1:nth (l++[SItm.mk nx (QG d)]) l.length=SItm.mk nx (QG d):=QH (by simp);refine Qg4 (QlI (by rw[n1];show 256<=nx/\nx<=nx+1-1;omega) ?_) (by rw[n1];exact(QbR hd).1) ?_
    ·rcases Nat.eq_zero_or_pos l.length with h0|h0
     ·exact .inl h0
     ·right;rw[n1,YE (show l.length-1<l.length by omega)];have:=(Yb (h3 (l.length-1) om)).1;show _<nx;omega
    ·rw[n1,List.take_append_of_le_length (Nat.le_refl _),List.take_length];show¬QG d∈l.map SItm.by_;intro hm;obtain⟨x,hx,e2⟩:=List.mem_map.1 hm;obtain⟨j,hj⟩:=List.mem_iff_getElem?.1 hx
     have hjl:j<l.length:=by
      rcases Nat.lt_or_ge j l.length with h9|h9
      ·exact h9
      ·rw[List.getElem?_eq_none h9]at hj;cases hj
     have hkl':=Qg2 l (QG d);exact Qoe (l:=l) (b:=QG d) (i:=j) om (by rw[QH hj];exact e2)
theorem Qph{nx:Int}{l:List SItm}{d:Dsc}(hs:(QO nx l).2=0)(hd:(Q9 d).2=0):Y0 nx l d=QaY nx l (QG d):=by
 unfold Y0;rw[if_pos];unfold Qc0;rw[if_pos hs,hd]
theorem Qoo{nx n:Int}{l:List SItm}(hs:(QO nx l).2=0)(hk:idK l n<l.length):(Y9 nx l n).1=Yf (nth l (idK l n)).by_/\(Y9 nx l n).2=0:=by
 obtain⟨h1,h2,h3,h4⟩:=XR hs;have h5:=Qd5 hk;have h6:=(Yb (h3 _ hk)).1;have h7:=(Qen (h3 _ hk)).2.1;unfold Y9;rw[if_pos hs,if_pos om,if_pos hk];exact⟨rfl,h7⟩
def YM(s:List UInt8):List UInt8:=(s.reverse.dropWhile (· ==0)).reverse
def ZV(s:List UInt8):List UInt8:=s.dropWhile (· ==0)
theorem QeZ{s:List UInt8}(h:0<s.length):s=s.take (s.length-1)++[s.getD (s.length-1) 0]:=by
 have:=Xe (l:=s) (k:=s.length-1) (d:=0) om;rw[show s.length-1+1=s.length by omega,List.take_length]at this;exact this
theorem Qiw{s:List UInt8}(h:0<s.length)(hz:s.getD (s.length-1) 0=0):YM s=YM (s.take (s.length-1)):=by
 have e:=QeZ h;rw[hz]at e
 conv=>lhs;rw[e]
 unfold YM;rw[List.reverse_append];simp
theorem QiK{s:List UInt8}(h:0<s.length)(hz:¬s.getD (s.length-1) 0=0):YM s=s:=by
 have e:=QeZ h
 conv=>lhs;rw[e]
 unfold YM;rw[List.reverse_append,List.reverse_cons,List.reverse_nil,List.nil_append,List.singleton_append,List.dropWhile_cons_of_neg (by simpa using hz),List.reverse_cons,List.reverse_reverse,<-e]
theorem Qi1{s:List UInt8}(h:0<s.length)(hz:s.getD 0 0=0):ZV s=ZV (s.drop 1):=by
 cases s with
 | nil=>simp at h
 | cons a s=>
  have:a=0:=hz;subst this;rfl
theorem QiV{s:List UInt8}(h:0<s.length)(hz:¬s.getD 0 0=0):ZV s=s:=by
 cases s with
 | nil=>simp at h
 | cons a s=>
  have:¬a=0:=hz;unfold ZV;rw[List.dropWhile_cons_of_neg (by simpa using this)]
def QhW(s:List UInt8):Bool:=s.all (· ==0)
theorem Qix{p:UInt8->Bool}:∀{l:List UInt8},l.dropWhile p=[] ↔ ∀x∈l,p x=true
 | []=>by simp
 | a::l=>by
  rw[List.dropWhile_cons];split
  ·rename_i h;rw[Qix];constructor
   ·intro h1 x hx;rcases List.mem_cons.1 hx with rfl|hx
    ·exact h
    ·exact h1 x hx
   ·exactλh1 x hx=>h1 x (List.mem_cons_of_mem _ hx)
  ·rename_i h;constructor
   ·intro h1;cases h1
   ·intro h1;exact absurd (h1 a (List.mem_cons_self ..)) h
theorem QmH{p:UInt8->Bool}:∀{l:List UInt8}{x:UInt8},x∈l.takeWhile p->p x=true
 | [],x,h=>by cases h
 | a::l,x,h=>by
  rw[List.takeWhile_cons]at h;split at h
  ·rename_i h1;rcases List.mem_cons.1 h with rfl|h
   ·exact h1
   ·exact QmH h
  ·cases h
theorem Qij(s:List UInt8):ZV (YM s)=[] ↔ QhW s=true:=by
 unfold ZV YM QhW;constructor
 ·intro h;rw[Qix]at h;rw[List.all_eq_true];intro x hx
  by_cases hz:(x==0)=true
  ·exact hz
  ·have hm:x∈s.reverse.dropWhile (· ==0)\/(x==0)=true:=by
    have hx2:x∈s.reverse:=List.mem_reverse.2 hx;rw[<-List.takeWhile_append_dropWhile (p:=(· ==0)) (l:=s.reverse)]at hx2;rcases List.mem_append.1 hx2 with h1|h1
    ·exact .inr (QmH (p:=(· ==0)) h1)
    ·exact .inl h1
   rcases hm with hm|hm
   ·exact h x (List.mem_reverse.2 hm)
   ·exact hm
 ·intro h;rw[List.all_eq_true]at h
  have h1:s.reverse.dropWhile (· ==0)=[]:=by
   rw[Qix];intro x hx;exact h x (List.mem_reverse.1 hx)
  rw[h1];rfl
structure ItR where
 x:SItm
 n:Int
 ok:Bool
deriving Inhabited
def QfD(h:List UInt8)(p:Nat):Bool:=decide ((p:Int)+16<=h.length)&&(decide (at4 h (p+8)=p)&&(decide (16<=at4 h (p+12))&&decide ((p:Int)+upT (at4 h (p+12))<=h.length)))
def Qan(h:List UInt8)(p:Nat):List UInt8:=(h.drop (p+16)).take ((at4 h (p+12)).toNat-16)
def Qcg(h:List UInt8)(p:Nat):List UInt8:=(h.drop (p+(at4 h (p+12)).toNat)).take (ZU (at4 h (p+12)))
def itA(h:List UInt8)(p:Nat):ItR:=if QfD h p then⟨⟨at4 h (p+4),Qan h p⟩,at4 h (p+12),QhW (Qcg h p)&&decide (at4 h p=Xk (Qan h p))⟩else⟨⟨0,[]⟩,0,false⟩
theorem Qg6{h:List UInt8}{p:Nat}(hs:QfD h p=true):p+16<=h.length/\at4 h (p+8)=p/\16<=at4 h (p+12)/\(p:Int)+upT (at4 h (p+12))<=h.length:=by
 unfold QfD at hs;simp only[Bool.and_eq_true,decide_eq_true_eq]at hs;exact⟨om,hs.2.1,hs.2.2.1,hs.2.2.2⟩
theorem Qfg(n:Int):n<=upT n/\upT n<=n+15:=by unfold upT;omega
theorem Qqt{h:List UInt8}{p:Nat}(ho:(itA h p).ok=true):QfD h p=true:=by
 unfold itA at ho;split at ho
 ·assumption
 ·cases ho
theorem QrM{h:List UInt8}{p:Nat}(ho:(itA h p).ok=true):16<=(itA h p).n/\(p:Int)+upT (itA h p).n<=h.length/\(itA h p).x.by_.length<=h.length:=by
 have hs:=Qqt ho;obtain⟨h1,h2,h3,h4⟩:=Qg6 hs;unfold itA;rw[if_pos hs];refine⟨h3,h4,?_⟩;show(Qan h p).length<=_;unfold Qan;rw[List.length_take,List.length_drop];omega
def XD(s:List UInt8):Int:=if(16<=(s.length:Int)-8192/\(s.length:Int)-8192<=8192)/\((s.length:Int)-8192)%16=0 then 0 else 10
def h1S(s:List UInt8):List UInt8:=s.take (s.length-8192)
def h2S(s:List UInt8):List UInt8:=s.drop 8192
theorem Qky{s:List UInt8}(h:XD s=0):8208<=s.length/\s.length<=16384/\((s.length:Int)-8192)%16=0:=by
 unfold XD at h;split at h
 ·omega
 ·simp at h
theorem QkA{s:List UInt8}(h:8192<=s.length):(h1S s).length=s.length-8192:=by unfold h1S;rw[List.length_take];omega
theorem QjG(s:List UInt8):(h2S s).length=s.length-8192:=by unfold h2S;rw[List.length_drop]
theorem Qd9(u v:List UInt8)(i:Nat):at1 (u++v) (u.length+i)=at1 v i:=by
 unfold at1;rw[List.getD_eq_getElem?_getD,List.getD_eq_getElem?_getD,List.getElem?_append_right om,show u.length+i-u.length=i by omega]
theorem Qeh(u v:List UInt8)(i:Nat):at4 (u++v) (u.length+i)=at4 v i:=by
 unfold at4 at2;rw[show u.length+i+1=u.length+(i+1) by omega,show u.length+i+2=u.length+(i+2) by omega,show u.length+(i+2)+1=u.length+(i+2+1) by omega,Qd9,Qd9,Qd9,Qd9]
theorem Qd8{x:Int}(r:List UInt8)(h:0<=x/\x<4294967296):at4 (le4 x++r) 0=x:=by
 have e:le4 x++r=by8 x::by8 (x/256)::by8 (x/65536)::by8 (x/16777216)::r:=rfl;rw[e];unfold at4 at2;simp only[QeY,Qfa,YH,Nat.zero_add,show(2:Nat)=0+1+1 from rfl,show(3:Nat)=0+1+1+1 from rfl];omega
theorem Qf5{u:List UInt8}{x:Int}(r:List UInt8)(h:0<=x/\x<4294967296):at4 (u++(le4 x++r)) u.length=x:=by
 have:=Qeh u (le4 x++r) 0;rw[Nat.add_zero]at this;rw[this,Qd8 r h]
theorem QjW(l:List SItm):∀k,k<=l.length->(QF (l.take k)).2%16=0
 | 0,_=>rfl
 | k+1,h=>by
  rw[Yv om];have:=QjW l k om;unfold upT;simp only[];omega
theorem QnS(l:List SItm):(QF l).2%16=0:=by
 have:=QjW l l.length (Nat.le_refl _)
 rwa[List.take_length]at this
theorem QhK{n k:Nat}(h:k<n):∃r,(List.range n)=List.range k++k::r:=by
 refine⟨(List.range n).drop (k+1),?_⟩
 conv=>lhs;rw[<-List.take_append_drop k (List.range n)]
 rw[List.take_range,Nat.min_eq_left om,List.drop_eq_getElem_cons (by simpa using h)];simp
theorem Qjj(nx:Int)(l:List SItm){k:Nat}(h:k<l.length):∃r,XF nx l=Xo nx l k++(Qhq l k++r):=by
 obtain⟨r,hr⟩:=QhK h;refine⟨r.flatMap (Qhq l),?_⟩;unfold XF Xo;rw[hr,List.flatMap_append,List.flatMap_cons];simp only[List.append_assoc]
theorem Qme(n:Nat):QhW (List.replicate n 0)=true:=by
 unfold QhW;rw[List.all_replicate];simp
section
variable{nx:Int}{l:List SItm}
theorem Qqw(hst:(QO nx l).2=0){k:Nat}(hk:k<l.length)(hb:(nth l k).by_.length<=100000){p:Nat}(hp:(p:Int)=(QF (l.take k)).2)(hpl:(QF (l.take k)).2+upT (Xa (nth l k))<=(XF nx l).length)(hp9:(p:Int)<=8192):itA (XF nx l) p=⟨nth l k,Xa (nth l k),true⟩:=by
 obtain⟨h1,h2,h3,h4⟩:=XR hst;obtain⟨r,hr⟩:=Qjj nx l hk;have hlen:=QbU nx l k (Nat.le_of_lt hk);have hpu:p=(Xo nx l k).length:=om
 have hid:=(Yb (h3 k hk)).1;have hha:=Qbw (nth l k).by_;have hu:=Qfg (Xa (nth l k));have hil:Xa (nth l k)=16+((nth l k).by_.length:Int):=rfl;have hpad:upT (Xa (nth l k))=Xa (nth l k)+((ZU (Xa (nth l k)):Nat):Int):=by unfold ZU;omega
 obtain⟨B,hB⟩:∃B,XF nx l=Xo nx l k++(le4 (Xk (nth l k).by_)++(le4 (nth l k).id++(le4 (QF (l.take k)).2++(le4 (Xa (nth l k))++((nth l k).by_++(List.replicate (ZU (Xa (nth l k))) 0++B)))))):=⟨r,by
  rw[hr];unfold Qhq nmB;simp only[List.flatMap_cons,List.flatMap_nil,List.append_nil,List.append_assoc]⟩
 have a0:at4 (XF nx l) p=Xk (nth l k).by_:=by
  rw[hB,hpu];exact Qf5 _ om
 have a4:at4 (XF nx l) (p+4)=(nth l k).id:=by
  rw[hB,hpu,Qeh];exact Qf5 (u:=le4 _) _ om
 have a8:at4 (XF nx l) (p+8)=p:=by
  rw[hB,hpu,Qeh,<-List.append_assoc];rw[show(8:Nat)=(le4 (Xk (nth l k).by_)++le4 (nth l k).id).length from rfl,Qf5 _ om];omega
 have a12:at4 (XF nx l) (p+12)=Xa (nth l k):=by
  rw[hB,hpu,Qeh,<-List.append_assoc,<-List.append_assoc];rw[show(12:Nat)=(le4 (Xk (nth l k).by_)++le4 (nth l k).id++le4 (QF (l.take k)).2).length from rfl,Qf5 _ om]
 have hd16:(XF nx l).drop (p+16)=(nth l k).by_++(List.replicate (ZU (Xa (nth l k))) 0++B):=by
  rw[hB,hpu,<-List.drop_drop,List.drop_left' rfl];rfl
 have hbody:Qan (XF nx l) p=(nth l k).by_:=by
  unfold Qan;rw[a12,hd16,show(Xa (nth l k)).toNat-16=(nth l k).by_.length by omega,List.take_left' rfl]
 have hpadI:Qcg (XF nx l) p=List.replicate (ZU (Xa (nth l k))) 0:=by
  unfold Qcg;rw[a12,show p+(Xa (nth l k)).toNat=p+16+(nth l k).by_.length by omega,<-List.drop_drop,hd16,List.drop_left' rfl,List.take_left' (by simp)]
 have hshp:QfD (XF nx l) p=true:=by
  unfold QfD;rw[a8,a12,decide_eq_true (show(p:Int)+16<=_ from om),decide_eq_true (show(p:Int)=p from rfl),decide_eq_true (show(16:Int)<=Xa (nth l k)from om),decide_eq_true (show(p:Int)+upT (Xa (nth l k))<=_ from om)];rfl
 unfold itA;rw[if_pos hshp,hbody,hpadI,a0,a4,a12,Qme];simp
theorem QiL(hst:(QO nx l).2=0):(QW nx l).length=8192+(XF nx l).length/\(XF nx l).length<=8192:=by
 obtain⟨h1,h2,h3,h4⟩:=XR hst;have hhl:=Zx nx l;unfold QW;rw[List.length_append,List.length_append,List.length_replicate];omega
end
def Zf(l:List SItm)(k:Nat):List UInt8:=nmB [(QF (l.take k)).2,Xa (nth l k)]
def Zp(co:Nat)(x:SItm):List UInt8:=if co=3 then nmB [Xk x.by_,x.id]else nmB [x.id]
def Yj(co:Nat)(l:List SItm)(k:Nat):TEnt:=⟨Zp co (nth l k),Zf l k⟩
def Q7(co:Nat)(l:List SItm):List TEnt:=(List.range l.length).map (Yj co l)
theorem X2(co:Nat)(l:List SItm):(Q7 co l).length=l.length:=by simp[Q7]
theorem Y1{co:Nat}{l:List SItm}{k:Nat}(h:k<l.length):nth (Q7 co l) k=Yj co l k:=QH (by unfold Q7;rw[List.getElem?_map,List.getElem?_range h];rfl)
theorem QgC(a b:Int):nmB [a,b]=le4 a++(le4 b++[]):=rfl
theorem Qqh(a:Int):nmB [a]=le4 a++[]:=rfl
theorem Qa9{x:SItm}(h:0<=x.id/\x.id<4294967296):at4 (Zp 2 x) 0=x.id/\at4 (Zp 3 x) 0=Xk x.by_/\at4 (Zp 3 x) 4=x.id:=by
 have hh:=Qbw x.by_;refine⟨?_,?_,?_⟩
 ·show at4 (nmB [x.id]) 0=_;rw[Qqh,Qd8 _ h]
 ·show at4 (nmB [Xk x.by_,x.id]) 0=_;rw[QgC,Qd8 _ om]
 ·show at4 (nmB [Xk x.by_,x.id]) 4=_;rw[QgC];exact Qf5 (u:=le4 (Xk x.by_)) [] h
theorem QbS{nx:Int}{l:List SItm}(h:(QO nx l).2=0):∀{i k:Nat},i<k->k<l.length->(nth l i).id<(nth l k).id:=by
 obtain⟨_,_,hit,_⟩:=XR h;intro i k hik
 induction k with
 | zero=>omega
 | succ k ih=>
  intro hk;have h1:=(Yb (hit (k+1) hk)).2;rw[Nat.add_sub_cancel]at h1
  have h2:(nth l k).id<(nth l (k+1)).id:=by
   rcases h1 with h1|h1
   ·omega
   ·exact h1
  rcases Nat.lt_or_ge i k with h3|h3
  ·have:=ih h3 om;omega
  ·obtain rfl:i=k:=by omega
   exact h2
theorem Qb2{nx:Int}{l:List SItm}(h:(QO nx l).2=0){k:Nat}(hk:k<l.length):256<=(nth l k).id/\(nth l k).id<=2147483646:=by
 obtain⟨hn,_,hit,_⟩:=XR h;have:=(Yb (hit k hk)).1;omega
theorem Qml{nx:Int}{l:List SItm}{co k:Nat}(hco:co=2\/co=3)(h:(QO nx l).2=0)(hk:k<l.length):Yu (co:Int) (Yj co l k)=0:=by
 have hi:=Qb2 h hk;obtain⟨e1,e2,e3⟩:=Qa9 (x:=nth l k) om;have hh:=Qbw (nth l k).by_
 have hv:(Yj co l k).val.length<=64:=by
  show(nmB [_,_]).length<=64;rw[XT];show 4*2<=64;decide
 have hkk:Q3 (co:Int) (Zp co (nth l k))=true:=by
  rcases hco with rfl|rfl
  ·show(decide ((nmB [(nth l k).id]).length=4)&&Qaq _ 0)=true;unfold Qaq;rw[e1,XT];simp;omega
  ·show(decide ((nmB [Xk (nth l k).by_,(nth l k).id]).length=8)&&(Qaq _ 0&&Qaq _ 4))=true;unfold Qaq;rw[e2,e3,XT];simp;omega
 unfold Yu ZA;rw[show(Yj co l k).key=Zp co (nth l k)from rfl,hkk,if_pos rfl,if_pos hv];rfl
theorem QeH{nx:Int}{l:List SItm}{co i k:Nat}(hco:co=2\/co=3)(h:(QO nx l).2=0)(hik:i<k)(hk:k<l.length):¬QS (co:Int) (Yj co l i).key (Yj co l k).key=0:=by
 have h1:=QbS h hik hk;have hi:=Qb2 h (k:=i) om;have hj:=Qb2 h hk;obtain⟨e1,e2,e3⟩:=Qa9 (x:=nth l i) om;obtain⟨f1,f2,f3⟩:=Qa9 (x:=nth l k) om;show¬QS (co:Int) (Zp co (nth l i)) (Zp co (nth l k))=0;have hs:Ym (nth l i).id (nth l k).id= -1:=by unfold Ym;rw[if_pos h1]
 rcases hco with rfl|rfl
 ·show¬Ym (at4 _ 0) (at4 _ 0)=0;rw[e1,f1,hs];decide
 ·show¬(if Ym (at4 _ 0) (at4 _ 0)≠0 then Ym (at4 _ 0) (at4 _ 0)else Ym (at4 _ 4) (at4 _ 4))=0;rw[e2,e3,f2,f3,hs];split
  ·assumption
  ·decide
structure BldC(co mo rm:Int)(lo hi rt:Nat)(E:List TEnt)(k:Nat):Prop where
 zero:∀i,i<k->Qcl co mo rm E i=0
 tree:∃T d,Q5 (ZC co mo rm E k) T/\VT co lo hi rt d T/\∀x,x∈T.flat ↔ ∃i,i<k/\x=nth E i
theorem QhC{co mo rm:Int}{lo hi rt:Nat}{E:List TEnt}(hz:Sz mo rm lo hi rt)(hn:E.length<=118)(he:∀i,i<E.length->Yu co (nth E i)=0)(hd:∀i k,i<k->k<E.length->¬QS co (nth E i).key (nth E k).key=0):∀k,k<=E.length->BldC co mo rm lo hi rt E k
 | 0,_=>by
  refine⟨λi hi=>absurd hi (Nat.not_lt_zero i),?_⟩;obtain⟨T,d,h1,h2,h3⟩:=(Qeb (co:=co) hz).tree;refine⟨T,d,h1,h2,λx=>⟨λhx=>?_,λ⟨i,hi,_⟩=>absurd hi (Nat.not_lt_zero i)⟩⟩;rw[List.eq_nil_of_length_eq_zero h3]at hx;cases hx
 | k+1,hk=>by
  obtain⟨hz0,T,d,hR,hV,hm⟩:=QhC hz hn he hd k om;have hB:=Qfb (l:=E) hz (show k<=119 by omega) hz0;have hx0:=he k om
  have hnf:¬(Qr co (ZC co mo rm E k) (nth E k).key).2.2=true:=λhf=>by
   obtain⟨y,hy,hc⟩:=(Qfl hR hV (nth E k).key).1 hf;obtain⟨i,hi,rfl⟩:=(hm y).1 hy;exact hd i k hi om hc
  have hb0:Qcl co mo rm E k=0:=by rw[Qo3 hz om hz0,if_pos hx0,if_neg hnf]
  refine⟨λi hi=>(Nat.lt_or_ge i k).elim (hz0 i) λh=>(by have e:i=k:=om;rw[e];exact hb0),?_⟩;have hI:=QjU hz hR hV (by have:=hB.len;omega) hB.last hx0 hnf;obtain⟨T2,d2,hR2,hV2,hf2⟩:=hI.tree;refine⟨T2,d2,hR2,hV2,λx=>?_⟩;rw[hf2];have e:=List.take_append_drop (plc co T.flat (nth E k).key) T.flat;unfold QL;constructor
  ·intro hx;rcases List.mem_append.1 hx with hx|hx
   ·obtain⟨i,hi,h9⟩:=(hm x).1 (List.mem_of_mem_take hx);exact⟨i,om,h9⟩
   ·rcases List.mem_cons.1 hx with hx|hx
    ·exact⟨k,om,hx⟩
    ·obtain⟨i,hi,h9⟩:=(hm x).1 (List.mem_of_mem_drop hx);exact⟨i,om,h9⟩
  ·rintro⟨i,hi,h9⟩;rcases Nat.lt_or_ge i k with h8|h8
   ·have h7:=(hm x).2 ⟨i,h8,h9⟩;rw[<-e]at h7;rcases List.mem_append.1 h7 with h7|h7
    ·exact List.mem_append_left _ h7
    ·exact List.mem_append_right _ (List.mem_cons_of_mem _ h7)
   ·obtain rfl:i=k:=by omega
    rw[h9];exact List.mem_append_right _ (List.mem_cons_self ..)
theorem Qmt{nx:Int}{l:List SItm}{co:Nat}(hco:co=2\/co=3)(h:(QO nx l).2=0){k:Nat}(hk:k<=l.length):BldC (co:Int) 4 2 2 4 2 (Q7 co l) k:=by
 have hl:=(XR h).2.1;have hz:Sz 4 2 2 4 2:=⟨rfl,rfl,rfl,by decide,by decide,by decide,by decide⟩;refine QhC hz (by rw[X2];omega) (λi hi=>?_) (λi k hik hkk=>?_) k (by rw[X2];exact hk)
 ·rw[X2]at hi;rw[Y1 hi];exact Qml hco h hi
 ·rw[X2]at hkk;rw[Y1 hkk,Y1 om];exact QeH hco h hik hkk
theorem QlH{nx:Int}{l:List SItm}{co:Nat}(hco:co=2\/co=3)(h:(QO nx l).2=0):(QN (Qab (co:Int) 4 2 (Q7 co l)) 0).2=0:=by
 have hB:=(Qmt hco h (Nat.le_refl _)).zero;refine Y5.2 λe he=>?_;obtain⟨i,hi,rfl⟩:=List.mem_map.1 he;rw[List.mem_range,X2]at hi;exact hB i hi
theorem Qgl{co:Nat}(x:SItm):(Zp co x).length<=8:=by
 unfold Zp;split
 ·rw[XT];show 4*2<=8;decide
 ·rw[XT];show 4*1<=8;decide
theorem QcE{co:Nat}{l:List SItm}{x:TEnt}(h:x∈Q7 co l):x.key.length<=1000000:=by
 obtain⟨k,_,rfl⟩:=List.mem_map.1 h;exact Nat.le_trans (Qgl _) (by decide)
theorem QhD{co:Nat}{l:List SItm}{k:Nat}(h:k<l.length):(Q7 co l).take (k+1)=(Q7 co l).take k++[Yj co l k]:=by
 rw[List.take_add_one,QB (by rw[X2];exact h),Y1 h];rfl
theorem Qhu{co:Nat}{l:List SItm}{k:Nat}(h:k<=l.length):((Q7 co l).take k).length=k:=by
 rw[List.length_take,X2];omega
theorem Qjh(co:Nat)(l:List SItm):(Q7 co l).take l.length=Q7 co l:=by
 rw[<-X2 co l,List.take_length]
def QdY(h v:List UInt8):List SItm:=if(itA h (at4 v 0).toNat).ok=true/\(itA h (at4 v 0).toNat).n=at4 v 4 then[(itA h (at4 v 0).toNat).x]else[]
def Yp(s v:List UInt8):List SItm:=if v.length=8 then QdY (h1S s) v++QdY (h2S s) v else[]
theorem Qki{h v:List UInt8}:∀x∈QdY h v,x.by_.length<=h.length:=λx hx=>by
 unfold QdY at hx;split at hx
 ·rename_i h9;rw[List.mem_singleton]at hx;subst hx;exact(QrM h9.1).2.2
 ·cases hx
theorem Qg3{s v:List UInt8}(h8:8192<=s.length):∀x∈Yp s v,x.by_.length<=s.length:=λx hx=>by
 unfold Yp at hx;split at hx
 ·have e1:=QkA h8;have e2:=QjG (s:=s);rcases List.mem_append.1 hx with h|h
  ·have:=Qki x h;omega
  ·have:=Qki x h;omega
 ·cases hx
def Qjc(l:List SItm)(own:List UInt8):Option Int:=(l.find? λx=>decide (x.by_=own)).map (·.id)
def ZZ(l:List SItm)(id:Int):Option (List UInt8):=(l.find? λx=>decide (x.id=id)).map (·.by_)
def fbE(s own:List UInt8)(e:TEnt):Option Int:=if at4 e.key 0=Xk own then Qjc (Yp s e.val) own else none
def fbH(s own:List UInt8)(E:List TEnt):Option Int:=E.findSome? (fbE s own)
theorem Qp7{s own:List UInt8}{E:List TEnt}{k:Nat}(hk:k<E.length)(hb:fbH s own (E.take k)=none){r:Int}(h:fbE s own (nth E k)=some r):fbH s own E=some r:=by
 have e:E=E.take k++nth E k::E.drop (k+1):=by
  conv=>lhs;rw[<-List.take_append_drop k E,List.drop_eq_getElem_cons hk]
  congr 2;unfold nth;rw[List.getD_eq_getElem?_getD,List.getElem?_eq_getElem hk];rfl
 unfold fbH at hb ⊢;rw[e,List.findSome?_append,hb,List.findSome?_cons,h];rfl
theorem Qn8{s own:List UInt8}{E:List TEnt}{k:Nat}(hk:k<E.length)(hb:fbH s own (E.take k)=none)(h:fbE s own (nth E k)=none):fbH s own (E.take (k+1))=none:=by
 unfold fbH at hb ⊢;rw[List.take_add_one,List.getElem?_eq_getElem hk,List.findSome?_append,hb]
 have e:nth E k=E[k]:=by
  unfold nth;rw[List.getD_eq_getElem?_getD,List.getElem?_eq_getElem hk];rfl
 rw[e]at h;simp[h]
end Gx
namespace Gx
open Go Go.RowKit
def Qal(s:List UInt8)(m:Nat):List UInt8:=if m=0 then h1S s else h2S s
def Qc5(s v:List UInt8):Nat->List SItm
 | 0=>[]
 | m+1=>Qc5 s v m++QdY (Qal s m) v
theorem QnO{s v:List UInt8}(h:v.length=8):Qc5 s v 2=Yp s v:=by
 unfold Yp;rw[if_pos h,Qc5,Qc5,Qc5,List.nil_append,Qal,Qal,if_pos (by rfl),if_neg (by decide)]
theorem QlU{s:List UInt8}(h:8192<=s.length)(m:Nat):(Qal s m).length=s.length-8192:=by
 unfold Qal;split
 ·exact QkA h
 ·exact QjG _
theorem Qo0{d e:Dsc}(hd:(Q9 d).2=0)(he:(Q9 e).2=0)(h:QG d=QG e):d=e:=by
 rw[<-(QbR hd).2,h,(QbR he).2]
theorem Qmc{nx:Int}{l:List SItm}(h:(QO nx l).2=0){i k:Nat}(hi:i<l.length)(hk:k<l.length)(e:(nth l i).id=(nth l k).id):i=k:=by
 rcases Nat.lt_trichotomy i k with h1|h1|h1
 ·have:=QbS h h1 hk;omega
 ·exact h1
 ·have:=QbS h h1 hi;omega
theorem QlS{nx:Int}{l:List SItm}(h:(QO nx l).2=0){i k:Nat}(hi:i<l.length)(hk:k<l.length)(e:(nth l i).by_=(nth l k).by_):i=k:=by
 have key:∀{i k:Nat},i<k->k<l.length->(nth l i).by_≠(nth l k).by_:=λ{i k}hik hk e=>by
  have h2:=(Qen ((XR h).2.2.1 k hk)).2.2;refine h2 (List.mem_map.2 ⟨nth l i,?_,e⟩);have h3:(l.take k)[i]?=some (nth l i):=by rw[List.getElem?_take_of_lt hik,QB om]
  exact List.mem_of_getElem? h3
 rcases Nat.lt_trichotomy i k with h1|h1|h1
 ·exact absurd e (key h1 hk)
 ·exact h1
 ·exact absurd e.symm (key h1 hi)
theorem Qov{d:Dsc}(h:(Q9 d).2=0):(QG d).length<=268:=by
 obtain⟨_,h2,_,_⟩:=Qbq h;rw[Qc8];omega
theorem QmG{l:List SItm}(hb:∀x∈l,x.by_.length<=268):∀k,k<=l.length->(QF (l.take k)).2<=16+288*(k:Int)
 | 0,_=>by rw[List.take_zero];decide
 | k+1,hk=>by
  have h1:=QmG hb k om;have h2:=hb (nth l k) (QX om);rw[Yv om];show(QF (l.take k)).2+upT _<=_;unfold upT;omega
theorem QjM{l:List SItm}(hb:∀x∈l,x.by_.length<=268):(QF l).2<=16+288*(l.length:Int):=by
 have:=QmG hb l.length (Nat.le_refl _)
 rwa[List.take_length]at this
structure OnceI(nx:Int)(l:List SItm)(ds:Nat->Dsc)(ids:List Int)(i:Nat):Prop where
 sto:(QO nx l).2=0
 nxle:nx<=256+(i:Int)
 cnt:l.length<=i
 len:ids.length=i
 its:∀x∈l,x.by_.length<=268
 own:∀k,k<i->nth ids k≠0->∃j,j<l.length/\(nth l j).id=nth ids k/\(nth l j).by_=QG (ds k)
 good:∀k,k<i->(Q9 (ds k)).2=0
theorem OnceI.nil(ds:Nat->Dsc):OnceI 256 [] ds [] 0:=
 ⟨by decide,by decide,Nat.le_refl _,rfl,λx hx=>absurd hx List.not_mem_nil,λk hk=>absurd hk (Nat.not_lt_zero k),λk hk=>absurd hk (Nat.not_lt_zero k)⟩
section
variable{nx:Int}{l:List SItm}{ds:Nat->Dsc}{ids:List Int}{i:Nat}
theorem OnceI.bd(h:OnceI nx l ds ids i):∀x∈l,x.by_.length<=100000:=λx hx=>Nat.le_trans (h.its x hx) (by decide)
theorem Qpc{l:List SItm}(h1:l.length<=14)(h2:∀x∈l,x.by_.length<=268):QfQ l=true:=by
 unfold QfQ Qlu;rw[decide_eq_false (show¬14<l.length by omega),decide_eq_false (show¬62<l.length by omega)];show(l.all λx=>decide (x.by_.length<=300))=true;refine List.all_eq_true.2 λx hx=>decide_eq_true ?_;have:=h2 x hx;omega
theorem OnceI.add(h:OnceI nx l ds ids i)(hi:i<10)(hd:(Q9 (ds i)).2=0) :
  (Y0 nx l (ds i)).e=0/\OnceI (Y0 nx l (ds i)).nx (Y0 nx l (ds i)).l ds (ids++[(Y0 nx l (ds i)).id]) (i+1)/\(Y0 nx l (ds i)).id≠0 /\
  ∀k,k<i->nth ids k≠0->(ds k=ds i ↔ nth ids k=(Y0 nx l (ds i)).id):=by
 have hr:=QkN h.sto hd;have hel:=Qov hd;rw[Qph h.sto hd];have hsl:=(XR h.sto).1;have n1:∀{v:Int}{k:Nat},k<i->nth (ids++[v]) k=nth ids k:=λhk=>YE (by rw[h.len];exact hk)
 have n2:∀{v:Int},nth (ids++[v]) i=v:=λ{v}=>by
  have:=Qe8 (l:=ids) (m:=[v]) (k:=0);rw[h.len]at this;exact this
 have hgood:∀k,k<i+1->(Q9 (ds k)).2=0:=λk hk=>by
  rcases Nat.lt_or_ge k i with h1|h1
  ·exact h.good k h1
  ·rw[show k=i by omega];exact hd
 by_cases hk:byK l (QG (ds i))<l.length
 ·have e:QaY nx l (QG (ds i))=⟨nx,l,(nth l (byK l (QG (ds i)))).id,0⟩:=by unfold QaY;rw[if_pos hk]
  have hb:=Qpe hk;have hrg:=(Yb ((XR h.sto).2.2.1 _ hk)).1;rw[e];refine⟨rfl,⟨h.sto,by have:=h.nxle;show nx<=_;omega,by have:=h.cnt;show l.length<=_;omega,by rw[List.length_append,h.len];rfl,h.its,λk hki h0=>?_,hgood⟩,by show(nth l _).id≠0;omega,λk hki h0=>?_⟩
  ·rcases Nat.lt_or_ge k i with h1|h1
   ·rw[n1 h1]at h0 ⊢;exact h.own k h1 h0
   ·obtain rfl:k=i:=by omega
    rw[n2];exact⟨_,hk,rfl,hb⟩
  ·obtain⟨j,hj,e1,e2⟩:=h.own k hki h0;show _ ↔ _=(nth l (byK l (QG (ds i)))).id;constructor
   ·intro e3;rw[e3]at e2;rw[<-e1,QlS h.sto hj hk (e2.trans hb.symm)]
   ·intro e3;rw[<-e1]at e3;have e4:=Qmc h.sto hj hk e3;subst e4;exact Qo0 (h.good k hki) hd (e2.symm.trans hb)
 ·have hb9:∀x∈l++[SItm.mk nx (QG (ds i))],x.by_.length<=268:=λx hx=>by
   rcases List.mem_append.1 hx with hx|hx
   ·exact h.its x hx
   ·rw[List.mem_singleton.1 hx];exact hel
  have hl9:(l++[SItm.mk nx (QG (ds i))]).length=l.length+1:=by simp
  have hcn:=h.cnt;have hnx:=h.nxle;have hp:=QjM hb9
  have e:QaY nx l (QG (ds i))=⟨nx+1,l++[SItm.mk nx (QG (ds i))],nx,0⟩:=by
   unfold QaY;rw[if_neg hk,if_neg om]
  rw[e]at hr ⊢;refine⟨rfl,⟨hr rfl,by show nx+1<=_;omega,by show(l++_).length<=_;omega,by rw[List.length_append,h.len];rfl,hb9,λk hki h0=>?_,hgood⟩,by show nx≠0;omega,λk hki h0=>?_⟩
  ·rcases Nat.lt_or_ge k i with h1|h1
   ·rw[n1 h1]at h0 ⊢;obtain⟨j,hj,e1,e2⟩:=h.own k h1 h0;refine⟨j,by show j<(l++_).length;omega,?_,?_⟩
    ·show(nth (l++_) j).id=_;rw[YE hj];exact e1
    ·show(nth (l++_) j).by_=_;rw[YE hj];exact e2
   ·obtain rfl:k=i:=by omega
    rw[n2];have n3:nth (l++[SItm.mk nx (QG (ds k))]) l.length=SItm.mk nx (QG (ds k)):=QH (by simp);exact⟨l.length,by show l.length<(l++_).length;omega,by show(nth (l++_) l.length).id=nx;rw[n3],by show(nth (l++_) l.length).by_=_;rw[n3]⟩
  ·obtain⟨j,hj,e1,e2⟩:=h.own k hki h0;have hrg:=(Yb ((XR h.sto).2.2.1 _ hj)).1;show _ ↔ _=nx;constructor
   ·intro e3;rw[e3]at e2;have hkl:=Qg2 l (QG (ds i));exact absurd e2 (Qoe om)
   ·intro e3;omega
theorem Qno{l:List SItm}{n:Int}{k:Nat}(hk:k<l.length)(h:(nth l k).id=n):idK l n<l.length:=by
 have:=QgQ l n;rcases Nat.lt_or_ge (idK l n) l.length with h1|h1
 ·exact h1
 ·exact absurd h (Ql9 om)
theorem OnceI.col(h:OnceI nx l ds ids i)(hi:i<=10)(h1:1<l.length) :
  QcK nx l ((l.drop 1).map SItm.id)=0/\Qbh nx l ((l.drop 1).map SItm.id)=⟨nx,l.drop 1,[(nth l 0).id]⟩ /\
  OnceI nx (l.drop 1) ds (ids.map λx=>if x=(nth l 0).id then 0 else x) i:=by
 obtain⟨s1,s2,s3,s4⟩:=XR h.sto;have hul:((l.drop 1).map SItm.id).length=l.length-1:=by rw[List.length_map,List.length_drop]
 have hu:∀k,k<l.length-1->((l.drop 1).map SItm.id).getD k 0=(nth l (k+1)).id:=λk hk=>by
  rw[List.getD_eq_getElem?_getD,List.getElem?_map,List.getElem?_drop,Nat.add_comm 1 k,QB om];rfl
 have hd:∀k,k<l.length-1->nth (l.drop 1) k=nth l (k+1):=λk hk=>QH (by rw[List.getElem?_drop,Nat.add_comm 1 k,QB om])
 have hE:QcK nx l ((l.drop 1).map SItm.id)=0:=by
  unfold QcK;rw[if_pos h.sto];refine Y5.2 λe he=>?_;obtain⟨k,hk,rfl⟩:=List.mem_map.1 he;rw[List.mem_range,hul]at hk;unfold QeO;rw[hu k hk,if_pos (Qno om rfl),if_pos];rcases Nat.eq_zero_or_pos k with h0|h0
  ·exact .inl h0
  ·right;rw[hu (k-1) om];exact QbS h.sto om om
 have e0:l=nth l 0::l.drop 1:=by
  cases l with
  | nil=>exact absurd h1 (by decide)
  | cons x t=>rfl
 have hn0:(nth l 0).id ∉ (l.drop 1).map SItm.id:=λhm=>by
  obtain⟨k,hk,e⟩:=List.mem_iff_getElem.1 hm;have e2:=hu k om;rw[List.getD_eq_getElem?_getD,List.getElem?_eq_getElem hk,Option.getD_some,e]at e2;have:=QbS h.sto (i:=0) (k:=k+1) om om;omega
 have hin:∀x∈l.drop 1,x.id∈(l.drop 1).map SItm.id:=λx hx=>List.mem_map.2 ⟨x,hx,rfl⟩
 have hKG:Z0 ((l.drop 1).map SItm.id) l=l.drop 1/\ZD ((l.drop 1).map SItm.id) l=[(nth l 0).id]:=by
  have key:∀{x:SItm}{t:List SItm},x.id ∉ t.map SItm.id->Z0 (t.map SItm.id) (x::t)=t/\ZD (t.map SItm.id) (x::t)=[x.id]:=λ{x t}hx=>by
   have ht:∀y∈t,decide (y.id∈t.map SItm.id)=true:=λy hy=>decide_eq_true (List.mem_map.2 ⟨y,hy,rfl⟩);constructor
   ·unfold Z0;rw[List.filter_cons_of_neg (by rw[decide_eq_true_eq];exact hx),List.filter_eq_self.2 ht]
   ·unfold ZD;rw[List.filter_cons_of_pos (by rw[decide_eq_false hx];rfl),List.filter_eq_nil_iff.2 λy hy=>by rw[ht y hy];decide];rfl
  have h9:=key hn0;rw[<-e0]at h9;exact h9
 obtain⟨hK,hG⟩:=hKG;refine⟨hE,by unfold Qbh;rw[if_pos hE,hK,hG],?_⟩;have hsub:∀x∈l.drop 1,x∈l:=λx hx=>List.mem_of_mem_drop hx;have hdl:(l.drop 1).length=l.length-1:=List.length_drop ..;have hp:=QjM (l:=l.drop 1) λx hx=>h.its x (hsub x hx);refine⟨?_,h.nxle,by have:=h.cnt;omega,by rw[List.length_map,h.len],λx hx=>h.its x (hsub x hx),λk hki h0=>?_,h.good⟩
 ·have hl60:=h.cnt;rw[QnL s1 om (λk hk=>?_) ?_]
  ·omega
  ·rw[hdl]at hk;have hi2:=Qen (s3 (k+1) om);have hr2:=(Yb (s3 (k+1) om)).1;refine Qg4 (QlI (by rw[hd k hk];exact hr2) ?_) (by rw[hd k hk];exact hi2.2.1) ?_
   ·rcases Nat.eq_zero_or_pos k with h9|h9
    ·exact .inl h9
    ·right;rw[hd k hk,hd (k-1) om];exact QbS h.sto om om
   ·rw[hd k hk];intro hm;refine hi2.2.2 ?_;obtain⟨x,hx,e⟩:=List.mem_map.1 hm;refine List.mem_map.2 ⟨x,?_,e⟩
    have e7:l.take (k+1)=nth l 0::(l.drop 1).take k:=by
     conv=>lhs;rw[e0]
     rfl
    rw[e7];exact List.mem_cons_of_mem _ hx
 ·have hkl:k<ids.length:=by rw[h.len];exact hki
  have e1:nth (ids.map λx=>if x=(nth l 0).id then 0 else x) k=if nth ids k=(nth l 0).id then 0 else nth ids k:=QH (by rw[List.getElem?_map,QB hkl];rfl)
  rw[e1]at h0 ⊢;split at h0
  ·exact absurd rfl h0
  ·rename_i hne;rw[if_neg hne];obtain⟨j,hj,e2,e3⟩:=h.own k hki h0;have hj0:j≠0:=λe=>hne (by rw[<-e2,e]);refine⟨j-1,om,?_,?_⟩
   ·rw[hd (j-1) om,show j-1+1=j by omega];exact e2
   ·rw[hd (j-1) om,show j-1+1=j by omega];exact e3
theorem OnceI.dof(h:OnceI nx l ds ids i){k:Nat}(hk:k<i)(h0:nth ids k≠0):(Y9 nx l (nth ids k)).1=ds k/\(Y9 nx l (nth ids k)).2=0:=by
 obtain⟨j,hj,e1,e2⟩:=h.own k hk h0;have hlt:=Qno hj e1;have e3:=Qmc h.sto hlt hj ((Qd5 hlt).trans e1.symm);have h4:=Qoo h.sto hlt;rw[e3,e2,(QbR (h.good k hk)).2]at h4;exact h4
theorem Qn5{l:List SItm}{k:Nat}(hp:0<=(QF (l.take k)).2/\(QF (l.take k)).2<4294967296)(hi:0<=Xa (nth l k)/\Xa (nth l k)<4294967296):(Zf l k).length=8/\at4 (Zf l k) 0=(QF (l.take k)).2/\at4 (Zf l k) 4=Xa (nth l k):=by
 refine⟨by unfold Zf;rw[XT];rfl,?_,?_⟩
 ·unfold Zf;rw[QgC];exact Qd8 _ hp
 ·unfold Zf;rw[QgC];exact Qf5 (u:=le4 _) _ hi
theorem QiX(hst:(QO nx l).2=0):h1S (QW nx l)=XF nx l/\h2S (QW nx l)=XF nx l:=by
 obtain⟨hl,h8⟩:=QiL hst;constructor
 ·unfold h1S;rw[hl,show 8192+(XF nx l).length-8192=(XF nx l).length by omega];unfold QW;rw[List.append_assoc,List.take_left' rfl]
 ·unfold h2S QW;rw[List.drop_left' (by rw[List.length_append,List.length_replicate];omega)]
theorem QoG(hst:(QO nx l).2=0)(hb:∀x∈l,x.by_.length<=100000):XD (QW nx l)=0:=by
 obtain⟨hl,h8⟩:=QiL hst;have hhl:=Zx nx l;have hple:=QjX hb;have hmod:=QnS l;unfold XD;rw[hl,if_pos om]
theorem QfE(hst:(QO nx l).2=0)(hb:∀x∈l,x.by_.length<=100000){k:Nat}(hk:k<l.length):Yp (QW nx l) (Zf l k)=[nth l k,nth l k]:=by
 obtain⟨s1,s2,s3,s4⟩:=XR hst;have hpk:=Qct hb k om;have hm2:=Qe9 hb l.length (Nat.le_refl _) (k+1) om;rw[List.take_length,Yv hk]at hm2;have hul:=Qfg (Xa (nth l k));have hil:Xa (nth l k)=16+((nth l k).by_.length:Int):=rfl;simp only[]at hm2;rw[<-hil]at hm2;have hhl:=Zx nx l;obtain⟨v1,v2,v3⟩:=Qn5 (l:=l) (k:=k) om om;obtain⟨e1,e2⟩:=QiX hst;have hA:itA (XF nx l) (at4 (Zf l k) 0).toNat=⟨nth l k,Xa (nth l k),true⟩:=Qqw hst hk (hb _ (QX hk)) (by rw[v2];omega) om (by rw[v2];omega)
 have hK:QdY (XF nx l) (Zf l k)=[nth l k]:=by
  unfold QdY;rw[hA,v3,if_pos ⟨rfl,rfl⟩]
 unfold Yp;rw[if_pos v1,e1,e2,hK];rfl
theorem OnceI.fbh(h:OnceI nx l ds ids i){k:Nat}(hk:k<i)(h0:nth ids k≠0){E:List TEnt}(hE:∀x,x∈E ↔ ∃j,j<l.length/\x=Yj 3 l j):fbH (QW nx l) (QG (ds k)) E=some (nth ids k):=by
 obtain⟨j,hj,e1,e2⟩:=h.own k hk h0
 have hone:∀x∈E,∀r,fbE (QW nx l) (QG (ds k)) x=some r->r=nth ids k:=λx hx r hr=>by
  obtain⟨m,hm,rfl⟩:=(hE x).1 hx;unfold fbE at hr;split at hr
  ·unfold Qjc at hr;rw[show(Yj 3 l m).val=Zf l m from rfl,QfE h.sto h.bd hm]at hr
   by_cases hb:(nth l m).by_=QG (ds k)
   ·rw[List.find?_cons_of_pos (by exact decide_eq_true hb)]at hr;cases hr;rw[<-e1,QlS h.sto hm hj (hb.trans e2.symm)]
   ·rw[List.find?_cons_of_neg (by rw[decide_eq_true_eq];exact hb),List.find?_cons_of_neg (by rw[decide_eq_true_eq];exact hb)]at hr;cases hr
  ·cases hr
 have hat:fbE (QW nx l) (QG (ds k)) (Yj 3 l j)=some (nth ids k):=by
  have hid:=(Yb ((XR h.sto).2.2.1 _ hj)).1;have hnx:=(XR h.sto).1;unfold fbE;rw[if_pos]
  ·unfold Qjc;rw[show(Yj 3 l j).val=Zf l j from rfl,QfE h.sto h.bd hj,List.find?_cons_of_pos (by exact decide_eq_true e2)];show some (nth l j).id=_;rw[e1]
  ·show at4 (Zp 3 (nth l j)) 0=_;rw[(Qa9 (x:=nth l j) om).2.1,e2]
 have hmem:=(hE (Yj 3 l j)).2 ⟨j,hj,rfl⟩;unfold fbH;cases hf:E.findSome? (fbE (QW nx l) (QG (ds k)))with
 | none=>
  rw[List.findSome?_eq_none_iff]at hf;rw[hf _ hmem]at hat;cases hat
 | some r=>
  obtain⟨x,hx,hxr⟩:=List.exists_of_findSome?_eq_some hf;rw[hone x hx r hxr]
theorem OnceI.idby(h:OnceI nx l ds ids i){k:Nat}(hk:k<i)(h0:nth ids k≠0):∃j,j<l.length/\(nth l j).id=nth ids k/\(256<=nth ids k/\nth ids k<=2147483646)/\ZZ (Yp (QW nx l) (Zf l j)) (nth ids k)=some (QG (ds k)):=by
 obtain⟨j,hj,e1,e2⟩:=h.own k hk h0;refine⟨j,hj,e1,e1▸Qb2 h.sto hj,?_⟩;unfold ZZ;rw[QfE h.sto h.bd hj,List.find?_cons_of_pos (by exact decide_eq_true e1)];show some (nth l j).by_=_;rw[e2]
end
structure LDsc where
 d:Dsc
 ea:Option Addr
 ec:Nat
 aa:Option Addr
 ac:Nat
deriving Inhabited
def LDsc.vals(x:LDsc):List Value:=[.int .i64 x.d.ow,.int .i64 x.d.gr,.bool x.d.pr,.bool x.d.he,.slice x.ea x.d.en.length x.ec,.slice x.aa x.d.au.length x.ac]
structure Dt(w:World)(a:Option Addr)(L:List LDsc):Prop where
 row:Rw LDsc.vals 6 w [] a L
 en:∀i,i<L.length->Rw Ace.vals 4 w [] (nth L i).ea (nth L i).d.en
 au:∀i,i<L.length->Rw Ace.vals 4 w [] (nth L i).aa (nth L i).d.au
def Qas(g:Int)(ids:List Int)(k:Nat):List Int:=(ids.take k).map (λx=>if x=g then 0 else x)++ids.drop k
theorem Qqs(g:Int)(ids:List Int):Qas g ids 0=ids:=rfl
theorem QcI(g:Int)(ids:List Int)(k:Nat)(h:k<=ids.length):(Qas g ids k).length=ids.length:=by
 unfold Qas;rw[List.length_append,List.length_map,List.length_take,List.length_drop];omega
theorem QnG(g:Int)(ids:List Int):Qas g ids ids.length=ids.map λx=>if x=g then 0 else x:=by
 unfold Qas;rw[List.take_length,List.drop_length,List.append_nil]
theorem Qkr{g:Int}{ids:List Int}{k:Nat}(h:k<ids.length):nth (Qas g ids k) k=nth ids k:=by
 unfold Qas;have hl:((ids.take k).map λx=>if x=g then 0 else x).length=k:=by rw[List.length_map,List.length_take];omega
 refine QH ?_;rw[List.getElem?_append_right om,hl,Nat.sub_self,List.getElem?_drop,Nat.add_zero,QB h]
theorem Qgd{g:Int}{ids:List Int}{k:Nat}(h:k<ids.length):Qas g ids (k+1)=(Qas g ids k).set k (if nth ids k=g then 0 else nth ids k):=by
 unfold Qas;have hl:((ids.take k).map λx=>if x=g then 0 else x).length=k:=by rw[List.length_map,List.length_take];omega
 rw[List.set_append_right _ _ om,hl,Nat.sub_self,List.take_add_one,QB h,List.map_append,List.append_assoc];congr 1;rw[List.drop_eq_getElem_cons h];rfl
theorem Qmn{g:Int}{ids:List Int}{k:Nat}(h:k<ids.length)(e:nth ids k=g):Qas g ids (k+1)=(Qas g ids k).set k 0:=by rw[Qgd h,if_pos e]
theorem QoI{g:Int}{ids:List Int}{k:Nat}(h:k<ids.length)(e:¬nth ids k=g):Qas g ids (k+1)=Qas g ids k:=by
 rw[Qgd h,if_neg e]
 have h1:(Qas g ids k)[k]?=some (nth ids k):=by
  rw[QB (by rw[QcI g ids k om];exact h),Qkr h]
 refine List.ext_getElem? λj=>?_;rw[List.getElem?_set];split
 ·rename_i hj;subst hj;rw[h1];rw[if_pos (by rw[QcI g ids _ om];exact h)]
 ·rfl
end Gx
namespace Gx
open Go Go.RowKit
def koV(b:Bool):List Value:=[.bool b]
theorem Qmf{g:Int}{ids:List Int}{k:Nat}(h:k<ids.length):((Qas g ids k).map nv)[0+k*1]?=some (.int .i64 (nth ids k)):=by
 rw[Nat.zero_add,Nat.mul_one,List.getElem?_map,QB (by rw[QcI g ids k om];exact h),Qkr h];rfl
theorem QnF{g:Int}{ids:List Int}{k:Nat}(h:k<ids.length)(e:nth ids k=g):Qu ((Qas g ids k).map nv) (0+k*1) [.int .i64 0]=(Qas g ids (k+1)).map nv:=by
 rw[Qmn h e,Nat.zero_add,Nat.mul_one,List.map_set];rfl
end Gx
namespace Go.Proofs
open Go Go.RowKit Gx
theorem Qnj:Tryz.prog.cellsOf 26=1:=by kernel_rfl
theorem Qmx:Tryz.prog.cellsOf 28=6:=by kernel_rfl
section
variable{W:World}{d:Nat}
theorem ln6{cs:List Value}(h:cs.length=6):∃x0 x1 x2 x3 x4 x5,cs=[x0,x1,x2,x3,x4,x5]:=by
 match cs,h with
 | [x0,x1,x2,x3,x4,x5],_=>exact⟨x0,x1,x2,x3,x4,x5,rfl⟩
theorem Qkc{x:Value}(h:okT Tryz.prog W d 26 [x]):∃a c l,x=.slice a (List.length (α:=Ace) l) c/\Rw Ace.vals 4 W [] a l:=by
 obtain⟨d2,a,n,cap,cell,e,h1,h2,sl,rows⟩:=QiO h Tryz.underlying26 (by rw[QdD];decide);rw[QdD]at sl;cases e;obtain⟨l,rfl,hl,_⟩:=QmO (vals:=Ace.vals) (Q:=λ_=>True) sl λi hi=>Qp4 (rows i hi);exact⟨a,cap,l,rfl,hl⟩
theorem QpT{cs:List Value}(h:okT Tryz.prog W d 28 cs):∃k:LDsc,cs=k.vals/\Rw Ace.vals 4 W [] k.ea k.d.en/\Rw Ace.vals 4 W [] k.aa k.d.au:=by
 obtain⟨d2,l,o⟩:=QmM h Tryz.underlying28;rw[Qmx]at l;obtain⟨x0,x1,x2,x3,x4,x5,rfl⟩:=ln6 l;simp only[List.mem_cons,List.mem_nil_iff,or_false,forall_eq_or_imp,forall_eq]at o;rw[Qkz,Qpk,Qnj]at o;obtain⟨n0,rfl⟩:=Qdk (x:=x0) o.1;obtain⟨n1,rfl⟩:=Qdk (x:=x1) o.2.1;obtain⟨n2,rfl⟩:=Qku (x:=x2) o.2.2.1;obtain⟨n3,rfl⟩:=Qku (x:=x3) o.2.2.2.1;obtain⟨ea,ec,es,rfl,he⟩:=Qkc (x:=x4) o.2.2.2.2.1;obtain⟨aa,ac,us,rfl,ha⟩:=Qkc (x:=x5) o.2.2.2.2.2;exact⟨⟨⟨n0,n1,n2,n3,es,us⟩,ea,ec,aa,ac⟩,rfl,he,ha⟩
theorem QoN{n:Nat}{a:Option Addr}{cell:Nat->List Value}(sl:Sl W [] a 6 n cell)(rows:∀i,i<n->okT Tryz.prog W d 28 (cell i)):∃l:List LDsc,n=l.length/\Dt W a l:=by
 obtain⟨l,rfl,hl,hk,_⟩:=QmO (vals:=LDsc.vals) (Q:=λk=>Rw Ace.vals 4 W [] k.ea k.d.en/\Rw Ace.vals 4 W [] k.aa k.d.au) sl λi hi=>QpT (rows i hi);exact⟨l,rfl,hl,λi hi=>(hk _ (QX hi)).1,λi hi=>(hk _ (QX hi)).2⟩
theorem Qoh{n:Nat}{a:Option Addr}{cell:Nat->List Value}(sl:Sl W [] a 1 n cell)(rows:∀i,i<n->okT Tryz.prog W d 4 (cell i)):∃l:List Bool,n=l.length/\Rw koV 1 W [] a l:=by
 obtain⟨l,h1,h2,_,_⟩:=QmO (vals:=koV) (Q:=λ_=>True) sl λi hi=>by
  obtain⟨b,e⟩:=Qic (rows i hi) Tryz.underlying4;exact⟨b,e,trivial⟩
 exact⟨l,h1,h2⟩
end
end Go.Proofs
namespace Go.Proofs
open Go Go.RowKit Gx
attribute [local irreducible] Go.Calls Gx.S Gx.O Gx.D Gx.OpP Gx.OpQ Gx.OpH
set_option maxRecDepth 20000
theorem X0:tsl Tryz.prog 26=some (119,4,32):=by kernel_rfl
theorem Qag:tsz Tryz.prog 119=some (4,true):=by kernel_rfl
instance:TSz Tryz.prog 119 4 true:=⟨Qag⟩
theorem XE:Xs Tryz.prog 119=some [.int .i64 0,.int .i64 0,.int .i64 0,.int .i64 0]:=by kernel_rfl
theorem XY:tsl Tryz.prog 61=some (72,2,24):=by kernel_rfl
theorem Qaa:tsz Tryz.prog 72=some (2,true):=by kernel_rfl
instance:TSz Tryz.prog 72 2 true:=⟨Qaa⟩
theorem Yq:Xs Tryz.prog 72=some [.int .i64 0,.string (bs [])]:=by kernel_rfl
theorem Qp1:QE Tryz.prog 194=true:=by kernel_rfl
instance:TFd Tryz.prog 28 4 4 26:=⟨by kernel_rfl⟩
theorem Qhl:tsz Tryz.prog 26=some (1,false):=by kernel_rfl
instance:TSz Tryz.prog 26 1 false:=⟨Qhl⟩
theorem c192(w:World)(a:Option Addr)(cap:Nat)(l:List Ace)(q:Nat)(cv:Array Value)(es:List Int)(hs:Rw Ace.vals 4 w [] a l)(hm:l.length<=1000000)(hq:QE Tryz.prog q=true)(he:es.length=l.length)(hc:∀k w1,k<l.length->(∀j,j<k->es.getD j 0=0)->HS w [] [] w1->Calls Tryz.prog q (#[]++[.int .i64 (k:Int),.agg (Ace.vals (nth l k)).toArray].toArray++cv) w1 λen w2=>en=.returned (.int .i64 (es.getD k 0))/\Below w1.heap.size w1 w2):CR 192 #[.slice a l.length cap,.func (.func q) #[] cv] w (.tuple #[.int .i64 (QN es 0).1,.int .i64 (QN es 0).2]):=by
 refine eN2 Tryz.func192 Tryz.ntmps192 ?_
 refine Qak ?_
 refine Qt (α:=Nat) [4,5,6,7,8,11,12,13,14,15,16,17,18,19,20,21,22,23,24] (λk=>[(11,.int .i64 (k:Int))]) (λ_=>HS w [] []) (λk=>k<=l.length/\QN es 0=QN (es.drop k) k/\∀j,j<k->es.getD j 0=0) (λk=>l.length-k) 0 ⟨om,rfl,λi h=>absurd h (Nat.not_lt_zero i)⟩ aSx (λw h=>h.ent aEt) (λk hk=>?_)
 obtain⟨hk1,hk2,hk3⟩:=hk
 refine aU5 ?_
 refine sCd rfl (λh1=>?_) λh1=>?_
 ·refine aU6 ?_
  refine o_p (Qa rfl rfl rfl X0 (k) om om (Rw.some hs om)) rfl (o_q (Qm _ rfl rfl Qag rfl (Rw.rd hs om)) rfl (oAl (λb2 _=>?_) XE))
  refine aU8 ?_
  refine o_q (XS rfl rfl hq rfl (λw1 h1=>hc k w1 om hk3 (h1.ent aEt))) rfl (aU7 ?_)
  refine sCd rfl (λh3=>?_) λh3=>?_
  ·refine aU7 ?_
   exact Qf (rs:=[.tmp 4,.tmp 5]) rfl (.tmp rfl (.tmp rfl (.nil))) (λw' h'=>⟨by simp only[QR];rw[hk2,Xh om,if_neg (by assumption)],h'.below⟩)
  refine aT4 ?_
  refine aU2 ?_
  exact sBk (k+1) om ⟨om,by rw[hk2,Xh om,if_pos (by assumption)],λj hj=>(Nat.lt_or_ge j k).elim (hk3 j) (λh=>by obtain rfl:j=k:=om;assumption)⟩
 refine Qj rfl ?_
 refine aU5 ?_
 exact Qf (rs:=[.tmp 4,.tmp 5]) rfl (.tmp rfl (.tmp rfl (.nil))) (λw' h'=>⟨by simp only[QR];rw[hk2,QbX om],h'.below⟩)
theorem c193(w:World)(b m i:Nat)(ea:Option Addr)(ec:Nat)(a:Ace)(hr:Rd w [] b 4 (.slice ea m ec)):CR 193 #[.int .i64 (i:Int),.agg #[.int .i64 a.kd,.int .i64 a.fl,.int .i64 a.ms,.int .i64 a.wh],.pointer (some ⟨b,0,none⟩)] w (.int .i64 (QaR m i a)):=by
 have e1:((i:Int)>=(m:Int)) ↔ m<=i:=om
 refine eN3 Tryz.func193 Tryz.ntmps193 ?_
 refine aU2 ?_
 refine oBx λb1 _=>?_
 refine aU3 ?_
 refine Qp [] mixed ?_
 refine dLn 0 [] ?_
 refine dQ 1 [] rfl (Qh rfl Qp1 rfl (λw1 h1=>c194 w1 _)) (dFa 2 ?_)
 refine dLd 3 [] ?_
 refine dP 4 ?_
 refine dP 5 ?_
 refine dFa 6 ?_
 refine dQ 7 [] rfl (Qc rfl rfl Qhl (hr)) (dV 8 rfl (QI rfl rfl Tryz.underlying26) (dP 9 ?_))
 refine dV 10 rfl (ZE rfl rfl rfl Tryz.underlying4) (dQ 11 [] rfl (Qh rfl QaL rfl (λw1 h1=>Qfw w1 _ _)) (dH 12 rfl (Qd (cs:=[_,_]) rfl rfl Xn XK rfl rfl rfl) (λb2 _=>dBa ?_)))
 refine dQ 13 [] rfl (Qh rfl Qgm rfl (λw1 h1=>f99 h1 aPk (by rfl) (by rfl) (by decide))) (dP 14 ?_)
 refine dNi ?_
 exact rV (h:=by simp only[QR,e1];rw[QaJ];unfold QaR;simp only[cond_eq_ite,beq_iff_eq])
theorem Qdi:Xs Tryz.prog 5=some [.int .u8 0]:=by kernel_rfl
theorem QpL:QE Tryz.prog 85=true:=by kernel_rfl
theorem Qp8:QE Tryz.prog 148=true:=by kernel_rfl
theorem Qeu:tsl Tryz.prog 211=some (26,1,24):=by kernel_rfl
instance:TFn Tryz.prog 138:=⟨by kernel_rfl⟩
theorem c85(w:World)(a:Option Addr)(cap:Nat)(l:List UInt8)(n:Int)(hw:HS w (fps [.own (.slice a l.length cap) 5 1 (l.length) ((l).map bv)]) [.own (.slice a l.length cap) 5 1 (l.length) ((l).map bv)] w)(hn:0<=n/\n<65536)(hl:l.length<=1000000):CE 85 #[.slice a l.length cap,.int .u16 n] w (fps [.own (.slice a l.length cap) 5 1 (l.length) ((l).map bv)]) (λg:Option Addr×Nat=>.slice g.1 (l++le2 n).length g.2) (λg=>True) λg=>[.own (.slice g.1 (l++le2 n).length g.2) 5 1 ((l++le2 n).length) ((l++le2 n).map bv)]:=by
 refine eW2 Tryz.func85 Tryz.ntmps85 hw ?_
 refine aU8 ?_
 refine o_p (Qk rfl rfl XX Zl) rfl (Ql (Yl _) (aU ?_))
 refine o_p (QcM rfl rfl rfl (by decide) 8 rfl) rfl (o_p (Qk rfl rfl XX Zl) rfl (Ql (show _=bv (by8 (n/256))from Yl _) (o_h (Qd (cs:=[_,_]) rfl rfl QP Qdi rfl rfl rfl) rfl (λb1 _=>?_))))
 refine o_h (QA _ rfl rfl rfl QP Tryz.underlying124 Qdi rfl aPk (QZ aPk) rfl (by intro u hu;simp only[List.mem_cons,List.mem_nil_iff,or_false]at hu;rcases hu with rfl|rfl<;>rfl) om (by simp only[maxLen];omega)) rfl (λb2 _=>aU2 ?_)
 exact rT rfl rfl (λw' h'=>⟨b2,by rw[List.length_append];rfl,trivial,by rw[List.length_append,List.map_append];exact h'.ent aEt⟩)
theorem c83(w:World)(a:Option Addr)(cap:Nat)(l:List UInt8)(n:Int)(hw:HS w (fps [.own (.slice a l.length cap) 5 1 (l.length) ((l).map bv)]) [.own (.slice a l.length cap) 5 1 (l.length) ((l).map bv)] w)(hn:0<=n/\n<4294967296)(hl:l.length<=1000000):CE 83 #[.slice a l.length cap,.int .u32 n] w (fps [.own (.slice a l.length cap) 5 1 (l.length) ((l).map bv)]) (λg:Option Addr×Nat=>.slice g.1 (l++le4 n).length g.2) (λg=>True) λg=>[.own (.slice g.1 (l++le4 n).length g.2) 5 1 ((l++le4 n).length) ((l++le4 n).map bv)]:=by
 have he9:l++le4 n=(l++le2 (n%65536))++[by8 (n/65536),by8 (n/16777216)]:=by rw[QnV,Qnc,List.append_assoc]
 have hl2:(l++le2 (n%65536)).length=l.length+2:=by rw[List.length_append];rfl
 refine eW2 Tryz.func83 Tryz.ntmps83 hw ?_
 refine aU8 ?_
 refine o_p (Qk rfl rfl XP XX) rfl (Ql (show _=Value.int .u16 (n%65536)from by rw[QmZ]) (o_h (QV (Cs:=[.own (.slice a l.length cap) 5 1 (l.length) ((l).map bv)]) rfl QpL rfl aPs (λw1 h1 hf=>c85 w1 a cap l (n%65536) hf om hl)) rfl (λga _=>aU ?_)))
 refine o_p (QcM rfl rfl rfl (by decide) 16 rfl) rfl (o_p (Qk rfl rfl XP Zl) rfl (Ql (show _=bv (by8 (n/65536))from Yl _) (aU ?_)))
 refine o_p (QcM rfl rfl rfl (by decide) 24 rfl) rfl (o_p (Qk rfl rfl XP Zl) rfl (Ql (show _=bv (by8 (n/16777216))from Yl _) (o_h (Qd (cs:=[_,_]) rfl rfl QP Qdi rfl rfl rfl) rfl (λb1 _=>?_))))
 refine o_h (QA _ rfl rfl rfl QP Tryz.underlying124 Qdi rfl aPk (QZ aPk) rfl (by intro u hu;simp only[List.mem_cons,List.mem_nil_iff,or_false]at hu;rcases hu with rfl|rfl<;>rfl) om (by simp only[maxLen];omega)) rfl (λb2 _=>aU2 ?_)
 exact rT rfl rfl (λw' h'=>⟨b2,by rw[he9,@List.length_append _ (l++le2 (n%65536)) _];rfl,trivial,by rw[he9,List.map_append (l₁:=l++le2 (n%65536)),@List.length_append _ (l++le2 (n%65536)) _];exact h'.ent aEt⟩)
theorem c148(w:World)(a:Option Addr)(cap:Nat)(l:List UInt8)(n:Int)(hw:HS w (fps [.own (.slice a l.length cap) 5 1 (l.length) ((l).map bv)]) [.own (.slice a l.length cap) 5 1 (l.length) ((l).map bv)] w)(hn:0<=n/\n<65536)(hl:l.length<=1000000):CE 148 #[.slice a l.length cap,.int .u16 n] w (fps [.own (.slice a l.length cap) 5 1 (l.length) ((l).map bv)]) (λg:Option Addr×Nat=>.slice g.1 (l++le2 n).length g.2) (λg=>True) λg=>[.own (.slice g.1 (l++le2 n).length g.2) 5 1 ((l++le2 n).length) ((l++le2 n).map bv)]:=by
 refine eW2 Tryz.func148 Tryz.ntmps148 hw ?_
 refine aU8 ?_
 refine o_p (Qk rfl rfl XX Zl) rfl (Ql (Yl _) (aU ?_))
 refine o_p (QcM rfl rfl rfl (by decide) 8 rfl) rfl (o_p (Qk rfl rfl XX Zl) rfl (Ql (show _=bv (by8 (n/256))from Yl _) (o_h (Qd (cs:=[_,_]) rfl rfl QP Qdi rfl rfl rfl) rfl (λb1 _=>?_))))
 refine o_h (QA _ rfl rfl rfl QP Tryz.underlying124 Qdi rfl aPk (QZ aPk) rfl (by intro u hu;simp only[List.mem_cons,List.mem_nil_iff,or_false]at hu;rcases hu with rfl|rfl<;>rfl) om (by simp only[maxLen];omega)) rfl (λb2 _=>aU2 ?_)
 exact rT rfl rfl (λw' h'=>⟨b2,by rw[List.length_append];rfl,trivial,by rw[List.length_append,List.map_append];exact h'.ent aEt⟩)
theorem c98(w:World)(a:Option Addr)(cap:Nat)(l:List UInt8)(n:Int)(hw:HS w (fps [.own (.slice a l.length cap) 5 1 (l.length) ((l).map bv)]) [.own (.slice a l.length cap) 5 1 (l.length) ((l).map bv)] w)(hn:0<=n/\n<4294967296)(hl:l.length<=1000000):CE 98 #[.slice a l.length cap,.int .u32 n] w (fps [.own (.slice a l.length cap) 5 1 (l.length) ((l).map bv)]) (λg:Option Addr×Nat=>.slice g.1 (l++le4 n).length g.2) (λg=>True) λg=>[.own (.slice g.1 (l++le4 n).length g.2) 5 1 ((l++le4 n).length) ((l++le4 n).map bv)]:=by
 have he9:l++le4 n=(l++le2 (n%65536))++[by8 (n/65536),by8 (n/16777216)]:=by rw[QnV,Qnc,List.append_assoc]
 have hl2:(l++le2 (n%65536)).length=l.length+2:=by rw[List.length_append];rfl
 refine eW2 Tryz.func98 Tryz.ntmps98 hw ?_
 refine aU8 ?_
 refine o_p (Qk rfl rfl XP XX) rfl (Ql (show _=Value.int .u16 (n%65536)from by rw[QmZ]) (o_h (QV (Cs:=[.own (.slice a l.length cap) 5 1 (l.length) ((l).map bv)]) rfl Qp8 rfl aPs (λw1 h1 hf=>c148 w1 a cap l (n%65536) hf om hl)) rfl (λga _=>aU ?_)))
 refine o_p (QcM rfl rfl rfl (by decide) 16 rfl) rfl (o_p (Qk rfl rfl XP Zl) rfl (Ql (show _=bv (by8 (n/65536))from Yl _) (aU ?_)))
 refine o_p (QcM rfl rfl rfl (by decide) 24 rfl) rfl (o_p (Qk rfl rfl XP Zl) rfl (Ql (show _=bv (by8 (n/16777216))from Yl _) (o_h (Qd (cs:=[_,_]) rfl rfl QP Qdi rfl rfl rfl) rfl (λb1 _=>?_))))
 refine o_h (QA _ rfl rfl rfl QP Tryz.underlying124 Qdi rfl aPk (QZ aPk) rfl (by intro u hu;simp only[List.mem_cons,List.mem_nil_iff,or_false]at hu;rcases hu with rfl|rfl<;>rfl) om (by simp only[maxLen];omega)) rfl (λb2 _=>aU2 ?_)
 exact rT rfl rfl (λw' h'=>⟨b2,by rw[he9,@List.length_append _ (l++le2 (n%65536)) _];rfl,trivial,by rw[he9,List.map_append (l₁:=l++le2 (n%65536)),@List.length_append _ (l++le2 (n%65536)) _];exact h'.ent aEt⟩)
theorem c138(w:World)(n:Nat)(hn:n<=1000000):CE 138 #[.slice none 0 0,.int .i64 (n:Int)] w [] (λg:Option Addr×Nat=>.slice g.1 0 g.2) (λg=>True) λg=>[.own (.slice g.1 0 g.2) 119 4 0 []]:=by
 refine eN2 Tryz.func138 Tryz.ntmps138 ?_
 refine Zn ?_
 refine sCd rfl (λh1=>?_) λh1=>?_
 ·exfalso;first|omega|(simp at h1;done)|(simp_all;done)
 refine aU6 ?_
 refine o_p (Qkt rfl rfl Tryz.underlying26) rfl (aT3 ?_)
 refine aT ?_
 refine Ql (show _=Value.int .i64 (n:Int)from by first|rfl|(congr 1;omega)) (aU7 ?_)
 refine sCd rfl (λh2=>?_) λh2=>?_
 ·refine aU3 ?_
  refine o_p (Qkt rfl rfl Tryz.underlying26) rfl (o_p (QM _ _ 0 0 rfl rfl X0 rfl ⟨_,_,rfl,rfl⟩ om om) rfl (Ql (show _=Value.slice none 0 0 from rfl) (aU ?_)))
  refine o_h (ZJ (m:=n) (olds:=[]) rfl rfl rfl X0 Yx XE rfl (by decide) om om (λw h hne=>absurd rfl hne) rfl om (by simp only[maxLen];omega)) rfl (λ⟨b3,c4⟩⟨h5,k6⟩=>aU2 ?_)
  refine o_p (QM _ _ 0 0 rfl rfl X0 rfl ⟨_,_,rfl,rfl⟩ om om) rfl ?_
  refine Ql (show _=Value.slice (some ⟨b3,0,none⟩) 0 c4 from by rw[Qav]<;>rfl) (aU7 ?_)
  exact rT rfl rfl (λw' h'=>by first|exact⟨(some ⟨b3,0,none⟩,c4),rfl,trivial,(HS.to_own (n:=0) (xs:=[]) (ds:=Qb6 [.int .i64 0,.int .i64 0,.int .i64 0,.int .i64 0] (n*4)) aPk h' rfl rfl om om).ent aEt⟩|exact⟨(none,0),rfl,trivial,(h'.own_nil 119 4).ent aEt⟩)
 refine aU6 ?_
 exact rT rfl rfl (λw' h'=>by first|exact⟨(some ⟨b3,0,none⟩,c4),rfl,trivial,(HS.to_own (n:=0) (xs:=[]) (ds:=Qb6 [.int .i64 0,.int .i64 0,.int .i64 0,.int .i64 0] (n*4)) aPk h' rfl rfl om om).ent aEt⟩|exact⟨(none,0),rfl,trivial,(h'.own_nil 119 4).ent aEt⟩)
theorem c84(w:World)(a:Option Addr)(cap:Nat)(rs:List (RowV Ace))(hs:Vl w a (rs.map RowV.v))(hr:∀r∈rs,Rw Ace.vals 4 w [] r.a r.l)(hm:(rs.flatMap RowV.l).length<=1000000)(hn:rs.length<=1000):CE 84 #[.slice a rs.length cap] w [] (λg:Option Addr×Nat=>.slice g.1 (rs.flatMap RowV.l).length g.2) (λg=>True) λg=>[.own (.slice g.1 (rs.flatMap RowV.l).length g.2) 119 4 (rs.flatMap RowV.l).length ((rs.flatMap RowV.l).flatMap Ace.vals)]:=by
 refine eN1 Tryz.func84 Tryz.ntmps84 ?_
 refine Qqa ?_
 refine Qt (α:=Nat) [3,5,11,12,13,14,15,16,17,18,19,20,21,22] (λk=>[(11,.int .i64 (k:Int)),(3,.int .i64 ((((rs.take k).flatMap RowV.l).length:Nat):Int))]) (λ_=>HS w [] []) (λk=>k<=rs.length) (λk=>rs.length-k) 0 (Nat.zero_le _) aSx (λw h=>h.ent aEt) (λk hk1=>?_)
 refine aU5 ?_
 refine sCd rfl (λh1=>?_) λh1=>?_
 ·have hk:k<rs.length:=by omega
  have hst:=congrArg List.length (Qj6 hk)
  rw[List.length_append]at hst
  have hle:=Qpt rs (k+1)
  refine aU5 ?_
  refine o_p (Qa rfl rfl rfl Qeu (k) om om (hs.some (by rw[List.length_map];omega))) rfl (o_q (Qc rfl rfl Qhl ((hs.rd (QlC hk)))) rfl (aT8 ?_))
  refine Ql (show _=Value.int .i64 ((((rs.take k).flatMap RowV.l).length+(rs.getD k default).l.length:Nat):Int)from by congr 1) (aU7 ?_)
  refine sCd rfl (λh2=>?_) λh2=>?_
  ·exfalso;first|omega|(simp at h2;done)|(simp_all;done)
  refine aT4 ?_
  refine aU2 ?_
  exact sBk (k+1) om om (by rw[hst];exact aSx)
 obtain rfl:k=rs.length:=om
 rw[List.take_length]
 refine Qj rfl ?_
 refine aU3 ?_
 refine oCh rfl (λw1 h1=>c138 w1 (rs.flatMap RowV.l).length hm) (λgg _=>Zn ?_)
 refine Qt (α:=Nat×Option Addr×Nat) [6,8,27,28,29,30,31,32,33,34] (λx=>[(27,.int .i64 (x.1:Int)),(6,.slice x.2.1 ((rs.take x.1).flatMap RowV.l).length x.2.2)]) (λx=>HS w [] [.own (.slice x.2.1 ((rs.take x.1).flatMap RowV.l).length x.2.2) 119 4 ((rs.take x.1).flatMap RowV.l).length (((rs.take x.1).flatMap RowV.l).flatMap Ace.vals)]) (λx=>x.1<=rs.length) (λx=>rs.length-x.1) (0,gg.1,gg.2) (Nat.zero_le _) aSx (λw h=>h.ent aEt) (λ⟨k,ga,gc⟩hk1=>?_)
 dsimp only
 simp only[]at hk1
 refine aU5 ?_
 refine sCd rfl (λh3=>?_) λh3=>?_
 ·have hk:k<rs.length:=by omega
  have hst:=Qj6 hk
  have hle:=Qpt rs (k+1)
  rw[hst,List.length_append]at hle
  have hmem:rs.getD k default∈rs:=XO hk
  refine aU5 ?_
  refine o_p (Qa rfl rfl rfl Qeu (k) om om (hs.some (by rw[List.length_map];omega))) rfl (o_q (Qc rfl rfl Qhl ((hs.rd (QlC hk)))) rfl (aU5 ?_))
  refine o_h (QA ((rs.getD k default).l.flatMap Ace.vals) rfl rfl rfl X0 Tryz.underlying26 XE rfl aPk (λw h=>Rw.src av4 (hr _ hmem) h) (Qq av4 _) (Yh av1 _) om (by simp only[maxLen];omega)) rfl (λb4 _=>aT5 ?_)
  refine aU2 ?_
  exact QQ (k+1,b4.1,b4.2) (by(try simp only[]);omega) (by(try simp only[]);omega) (by dsimp only;rw[hst,List.length_append];exact aSx) (λw h=>by dsimp only;rw[hst,List.length_append,Xz];exact h.ent aEt)
 obtain rfl:k=rs.length:=om
 rw[List.take_length]
 refine Qj rfl ?_
 refine aU5 ?_
 exact rT rfl rfl (λw' h'=>⟨(ga,gc),rfl,trivial,h'.ent aEt⟩)
theorem Ql4:QE Tryz.prog 193=true:=by kernel_rfl
instance:TFd Tryz.prog 28 0 0 3:=⟨by kernel_rfl⟩
instance:TFd Tryz.prog 28 1 1 3:=⟨by kernel_rfl⟩
theorem Qqe:QE Tryz.prog 191=true:=by kernel_rfl
instance:TFd Tryz.prog 28 5 5 26:=⟨by kernel_rfl⟩
instance:TFd Tryz.prog 28 3 3 4:=⟨by kernel_rfl⟩
theorem Qoa:Xs Tryz.prog 26=some [.slice none 0 0]:=by kernel_rfl
instance:TFn Tryz.prog 84:=⟨by kernel_rfl⟩
instance:TFn Tryz.prog 192:=⟨by kernel_rfl⟩
theorem Xr:tsz Tryz.prog 28=some (6,true):=by kernel_rfl
instance:TSz Tryz.prog 28 6 true:=⟨Xr⟩
instance:TFn Tryz.prog 137:=⟨by kernel_rfl⟩
instance:TFn Tryz.prog 109:=⟨by kernel_rfl⟩
theorem QgV:YA Tryz.prog 119=some [(0,1),(1,1),(2,1),(3,1)]:=by kernel_rfl
instance:TFn Tryz.prog 110:=⟨by kernel_rfl⟩
instance:TFn Tryz.prog 58:=⟨by kernel_rfl⟩
def Qeo(d:Dsc):Int:=if YV d.ow d.gr=0 then if d.en.length<=16/\d.au.length<=16 then if d.he||decide (d.en.length=0)then 0 else 3 else 8 else YV d.ow d.gr
theorem QbI(d:Dsc){mx:Int}{b:Bool}(hm:mx<=16 ↔ ((d.en.length:Int)<=16/\(d.au.length:Int)<=16))(hb:b=(d.he||decide (d.en.length=0))):QK [.int .i64 (YV d.ow d.gr),.int .i64 (cond (decide (mx<=16)) 0 8),.int .i64 (cond b 0 3)]=Qeo d:=by
  subst hb;unfold Qeo;simp only[QK,cond_eq_ite,decide_eq_true_eq,hm];have:((d.en.length:Int)<=16/\(d.au.length:Int)<=16) ↔ (d.en.length<=16/\d.au.length<=16):=om
  simp only[this]
  grind
theorem Qem(d:Dsc):Q9 d=if Qeo d=0 then QN (Qae d.en.length (d.en++d.au)) 0 else(0,Qeo d):=by
  unfold Q9 Qeo;split
  · split
    · split
      · simp
      · simp
    · simp
  · rename_i h;simp[h]
theorem cat2(w:World){b t tot:Nat}{w0:World}{M:List Nat}{As As':List HA}(ea aa:Option Addr)(ec ac:Nat)(l m:List Ace)(hw:HS w0 M As w)(hp:Qv As (.blk b t tot [.slice ea l.length ec,.slice aa m.length ac]) As')(hl:Rw Ace.vals 4 w [] ea l)(hm:Rw Ace.vals 4 w [] aa m)(h1:l.length<=100000)(h2:m.length<=100000) :
    Calls Tryz.prog 84 #[.slice (some ⟨b,0,none⟩) 2 2] w λen w'=>∃g:Option Addr×Nat,en=.returned (.slice g.1 (l++m).length g.2)/\True/\HS w [] [.own (.slice g.1 (l++m).length g.2) 119 4 (l++m).length ((l++m).flatMap Ace.vals)] w':=by
  have h9:=c84 w (some ⟨b,0,none⟩) 2 [⟨ea,ec,l⟩,⟨aa,ac,m⟩] (hw.vl_blk hp) (by intro r hr;simp only[List.mem_cons,List.mem_nil_iff,or_false]at hr;rcases hr with rfl|rfl;exact hl;exact hm) (by simp;omega) (by simp);rw[show([⟨ea,ec,l⟩,⟨aa,ac,m⟩]:List (RowV Ace)).flatMap RowV.l=l++m from by simp]at h9;exact h9
theorem c137(w:World)(d:Dsc)(ea:Option Addr)(eac:Nat)(aa:Option Addr)(aac:Nat)(hse:Rw Ace.vals 4 w [] ea d.en)(hsa:Rw Ace.vals 4 w [] aa d.au)(hme:d.en.length<=100000)(hma:d.au.length<=100000):CR 137 #[.agg #[.int .i64 d.ow,.int .i64 d.gr,.bool d.pr,.bool d.he,.slice ea d.en.length eac,.slice aa d.au.length aac]] w (.tuple #[.int .i64 (Q9 d).1,.int .i64 (Q9 d).2]):=by
 refine eN1 Tryz.func137 Tryz.ntmps137 ?_
 refine aU2 ?_
 refine oBx λb1 _=>?_
 refine aU4 ?_
 refine Qp [] mixed ?_
 refine dFa 0 ?_
 refine dLd 1 [] ?_
 refine dFa 2 ?_
 refine dLd 3 [] ?_
 refine dQ 4 [] rfl (Qh rfl Qqe rfl (λw1 h1=>c191 w1 _ _)) (dFa 5 ?_)
 refine dLd 6 [] ?_
 refine dV 7 rfl (QI rfl rfl Tryz.underlying26) (dFa 8 ?_)
 refine dLd 9 [] ?_
 refine dV 10 rfl (QI rfl rfl Tryz.underlying26) (dV 11 rfl (Qdp rfl rfl rfl ) (dP 12 ?_))
 refine dQ 13 [] rfl (Qh rfl QaL rfl (λw1 h1=>Qfw w1 _ _)) (dFa 14 ?_)
 refine dLd 15 [] ?_
 refine dP 16 ?_
 apply XC 21
 ·exact rfl
 ·intro hg2
  have hs3:=hg2;skip
  refine dOf 17 21 hg2 ?_
  refine dOf 18 21 hg2 ?_
  refine dOf 19 21 hg2 ?_
  refine dOf 20 21 hg2 ?_
  refine dV 21 rfl (XI rfl rfl hg2 rfl) (dQ 22 [] rfl (Qh rfl QaL rfl (λw1 h1=>Qfw w1 _ _)) (dH 23 rfl (Qd (cs:=[_,_,_]) rfl rfl Xn XK rfl rfl rfl) (λb4 _=>dBa ?_)))
  refine dQ 24 [] rfl (Qh rfl Qgm rfl (λw1 h1=>f99 h1 aPk (by rfl) (by rfl) (by decide))) (dP 25 ?_)
  refine dNi ?_
  refine aU2 ?_
  refine Qi (L':=[(1,_),(2,_),(3,_),(4,_)]) aSx (λ_ h=>h) ?_
  refine aU4 ?_
  refine sCd rfl (λh5=>?_) λh5=>?_
  ·have hp9:=QbI d (mx:=if(d.au.length:Int)>d.en.length then(d.au.length:Int)else d.en.length) (b:=d.he||decide ((d.en.length:Int)=0)) (by split<;>omega) (by congr 1;exact decide_eq_decide.2 om)
   rw[show d.he=_ from hg2]at hp9
   have h0:¬Qeo d=0:=by rw[<-hp9];exact h5
   have hse9:Q9 d=(0,Qeo d):=by rw[Qem,if_neg h0]
   refine aU6 ?_
   exact Qf (rs:=[.tmp 2,.tmp 3]) rfl (.tmp rfl (.tmp rfl (.nil))) (λw' h'=>⟨by rw[hse9,<-hp9];rfl,h'.below⟩)
  have hp9:=QbI d (mx:=if(d.au.length:Int)>d.en.length then(d.au.length:Int)else d.en.length) (b:=d.he||decide ((d.en.length:Int)=0)) (by split<;>omega) (by congr 1;exact decide_eq_decide.2 om)
  rw[show d.he=_ from hg2]at hp9
  have h0:Qeo d=0:=by rw[<-hp9];exact h5
  have hse9:Q9 d=QN (Qae d.en.length (d.en++d.au)) 0:=by rw[Qem,if_pos h0]
  refine aU7 ?_
  refine o_h (Qd (cs:=[_,_]) rfl rfl Qeu Qoa rfl rfl rfl) rfl (λb6 _=>oCh rfl (λw1 h1=>cat2 w1 ea aa eac aac d.en d.au h1 aPk (hse.later h1) (hsa.later h1) hme hma) (λgl _=>aU ?_))
  refine oCq rfl (λw1 h1=>c192 w1 gl.1 gl.2 (d.en++d.au) 193 _ (Qae d.en.length (d.en++d.au)) (h1.rw_own av4 aPk rfl) (by simp;omega) Ql4 (Qaz _ _) (λk w2 hk _ h2=>by have h9:=c193 w2 b1 d.en.length k ea eac (nth (d.en++d.au) k) ((h1.rd_blk (i:=4) aPk rfl (by simp)).later h2 (by simp));rw[Zg hk];exact h9)) (aU5 ?_)
  exact Qf (rs:=[.tmp 2,.tmp 3]) rfl (.tmp rfl (.tmp rfl (.nil))) (λw' h'=>⟨by rw[hse9];rfl,h'.below⟩)
 intro hg7
 have hs8:=hg7;skip
 refine dFo 17 21 hg7 ?_
 refine dQo 18 21 [] hg7 rfl rfl rfl (X8 rfl rfl Qhl aPk rfl) ?_
 refine dVo 19 21 hg7 rfl rfl rfl (QI rfl rfl Tryz.underlying26) ?_
 refine dPo 20 21 hg7 ?_
 refine dV 21 rfl (Q8 rfl rfl hg7 rfl) (dQ 22 [] rfl (Qh rfl QaL rfl (λw1 h1=>Qfw w1 _ _)) (dH 23 rfl (Qd (cs:=[_,_,_]) rfl rfl Xn XK rfl rfl rfl) (λb9 _=>dBa ?_)))
 refine dQ 24 [] rfl (Qh rfl Qgm rfl (λw1 h1=>f99 h1 aPk (by rfl) (by rfl) (by decide))) (dP 25 ?_)
 refine dNi ?_
 refine aU2 ?_
 refine Qi (L':=[(1,_),(2,_),(3,_),(4,_)]) aSx (λ_ h=>h) ?_
 refine aU4 ?_
 refine sCd rfl (λh10=>?_) λh10=>?_
 ·have hp9:=QbI d (mx:=if(d.au.length:Int)>d.en.length then(d.au.length:Int)else d.en.length) (b:=d.he||decide ((d.en.length:Int)=0)) (by split<;>omega) (by congr 1;exact decide_eq_decide.2 om)
  rw[show d.he=_ from hg7]at hp9
  have h0:¬Qeo d=0:=by rw[<-hp9];exact h10
  have hse9:Q9 d=(0,Qeo d):=by rw[Qem,if_neg h0]
  refine aU6 ?_
  exact Qf (rs:=[.tmp 2,.tmp 3]) rfl (.tmp rfl (.tmp rfl (.nil))) (λw' h'=>⟨by rw[hse9,<-hp9];rfl,h'.below⟩)
 have hp9:=QbI d (mx:=if(d.au.length:Int)>d.en.length then(d.au.length:Int)else d.en.length) (b:=d.he||decide ((d.en.length:Int)=0)) (by split<;>omega) (by congr 1;exact decide_eq_decide.2 om)
 rw[show d.he=_ from hg7]at hp9
 have h0:Qeo d=0:=by rw[<-hp9];exact h10
 have hse9:Q9 d=QN (Qae d.en.length (d.en++d.au)) 0:=by rw[Qem,if_pos h0]
 refine aU7 ?_
 refine o_h (Qd (cs:=[_,_]) rfl rfl Qeu Qoa rfl rfl rfl) rfl (λb11 _=>oCh rfl (λw1 h1=>cat2 w1 ea aa eac aac d.en d.au h1 aPk (hse.later h1) (hsa.later h1) hme hma) (λgl _=>aU ?_))
 refine oCq rfl (λw1 h1=>c192 w1 gl.1 gl.2 (d.en++d.au) 193 _ (Qae d.en.length (d.en++d.au)) (h1.rw_own av4 aPk rfl) (by simp;omega) Ql4 (Qaz _ _) (λk w2 hk _ h2=>by have h9:=c193 w2 b1 d.en.length k ea eac (nth (d.en++d.au) k) ((h1.rd_blk (i:=4) aPk rfl (by simp)).later h2 (by simp));rw[Zg hk];exact h9)) (aU5 ?_)
 exact Qf (rs:=[.tmp 2,.tmp 3]) rfl (.tmp rfl (.tmp rfl (.nil))) (λw' h'=>⟨by rw[hse9];rfl,h'.below⟩)
theorem c82(w:World)(d:Dsc)(ea:Option Addr)(eac:Nat)(aa:Option Addr)(aac:Nat)(hse:Rw Ace.vals 4 w [] ea d.en)(hsa:Rw Ace.vals 4 w [] aa d.au)(hme:d.en.length<=100000)(hma:d.au.length<=100000):CR 82 #[.agg #[.int .i64 d.ow,.int .i64 d.gr,.bool d.pr,.bool d.he,.slice ea d.en.length eac,.slice aa d.au.length aac]] w (.int .i64 (Q9 d).2):=by
 refine eN1 Tryz.func82 Tryz.ntmps82 ?_
 refine aU2 ?_
 refine oBx λb1 _=>?_
 refine aU5 ?_
 refine oCq rfl (λw1 h1=>c137 w1 d ea eac aa aac (hse.later h1) (hsa.later h1) hme hma) (ZW ?_)
 exact rV
theorem eachF_at{es:List Int}{k:Nat}(hk:k<es.length)(h:∀j,j<k->es.getD j 0=0)(h2:es.getD k 0≠0):QN es 0=((k:Int),es.getD k 0):=by
  have key:∀i,i<=k->QN es 0=QN (es.drop i) i:=by
    intro i
    induction i with
    | zero=>intro _;rfl
    | succ i ih=>
      intro hi;rw[ih om,Xh om,if_pos (h i om)]
  rw[key k (Nat.le_refl _),Xh hk,if_neg h2]
theorem eachF_all{es:List Int}(h:∀j,j<es.length->es.getD j 0=0):QN es 0=(0,0):=by
  have key:∀i,i<=es.length->QN es 0=QN (es.drop i) i:=by
    intro i
    induction i with
    | zero=>intro _;rfl
    | succ i ih=>
      intro hi;rw[ih om,Xh om,if_pos (h i om)]
  rw[key _ (Nat.le_refl _),List.drop_length];rfl
theorem Qn1{α:Type}[Inhabited α]{l m:List α}{k:Nat}(h:k<l.length):nth (l++m) k=nth l k:=by
  unfold nth;rw[List.getD_eq_getElem?_getD,List.getElem?_append_left h,<-List.getD_eq_getElem?_getD]
theorem QkS{α:Type}[Inhabited α]{l m:List α}{k:Nat}(h:l.length<=k):nth (l++m) k=nth m (k-l.length):=by
  unfold nth;rw[List.getD_eq_getElem?_getD,List.getElem?_append_right h,<-List.getD_eq_getElem?_getD]
theorem c58(w:World)(d:Dsc)(ea:Option Addr)(eac:Nat)(aa:Option Addr)(aac:Nat)(hse:Rw Ace.vals 4 w [] ea d.en)(hsa:Rw Ace.vals 4 w [] aa d.au)(hme:d.en.length<=100000)(hma:d.au.length<=100000):CR 58 #[.agg #[.int .i64 d.ow,.int .i64 d.gr,.bool d.pr,.bool d.he,.slice ea d.en.length eac,.slice aa d.au.length aac]] w (.tuple #[.int .i64 (Q9 d).1,.int .i64 (Q9 d).2]):=by
 refine eN1 Tryz.func58 Tryz.ntmps58 ?_
 refine aU2 ?_
 refine oBx λb1 _=>?_
 refine Zn ?_
 refine oCq rfl (λw1 h1=>c109 w1 _ _) (aU7 ?_)
 refine sCd rfl (λh2=>?_) λh2=>?_
 ·have h0:¬YV d.ow d.gr=0:=h2
  have h9:Q9 d=(0,YV d.ow d.gr):=by unfold Q9;rw[if_neg h0]
  refine aU6 ?_
  exact Qf (rs:=[.tmp 2,.tmp 3]) rfl (.tmp rfl (.tmp rfl (.nil))) (λw' h'=>⟨by rw[h9];rfl,h'.below⟩)
 have h0:YV d.ow d.gr=0:=h2
 refine aU9 ?_
 refine oOr 5 21 26 rfl
  (λhg3 _=>by
   refine aU8 ?_
   exact oJf 5 26)
  (λhg5 _=>by
   refine aU4 ?_
   exact oJt 5 26) ?_
 refine aU ?_
 refine sCd rfl (λh7=>?_) λh7=>?_
 ·have h1:¬(d.en.length<=16/\d.au.length<=16):=by have hq:=h7;omega
  have h9:Q9 d=(0,8):=by unfold Q9;rw[if_pos h0,if_neg h1]
  refine aU5 ?_
  exact Qf (rs:=[.tmp 2,.tmp 3]) rfl (.tmp rfl (.tmp rfl (.nil))) (λw' h'=>⟨by rw[h9];rfl,h'.below⟩)
 have h1:d.en.length<=16/\d.au.length<=16:=by have hq:=h7;omega
 refine aU9 ?_
 refine XH 4 31 35 rfl
  (λhg8 _=>by
   refine aU6 ?_
   exact oJt 4 35)
  (λhg10 _=>by
   refine aU3 ?_
   exact oJf 4 35) ?_
 refine aU ?_
 refine sCd rfl (λh12=>?_) λh12=>?_
 ·have h2:¬(d.he||decide (d.en.length=0))=true:=by have hq:=h12;simp;exact⟨hq.2,by have:=hq.1;intro h;rw[h]at this;simp at this⟩
  have h9:Q9 d=(0,3):=by unfold Q9;rw[if_pos h0,if_pos h1,if_neg h2]
  refine aU5 ?_
  exact Qf (rs:=[.tmp 2,.tmp 3]) rfl (.tmp rfl (.tmp rfl (.nil))) (λw' h'=>⟨by rw[h9];rfl,h'.below⟩)
 have h2:(d.he||decide (d.en.length=0))=true:=by have hq:=h12;rcases hq with hq|hq<;>simp at hq ⊢ <;>first|exact .inl hq|exact .inr om|exact .inr hq
 have h9:Q9 d=QN (Qae d.en.length (d.en++d.au)) 0:=by unfold Q9;rw[if_pos h0,if_pos h1,if_pos h2]
 refine aU7 ?_
 refine Qi (L':=[(1,_),(2,_),(3,_),(5,_)]) aSx (λ_ h=>h) ?_
 refine Qt (α:=Nat) [2,3,5,6,7,8,36,37,38,39,40,41,42,43,44,45,46,47,48,49,50,51,52,53,54,55,56,57,58,59,60,61,62,63,64,65,66,67,68,69,70,71,72,73,74,75,76,77,78,79] (λk=>[(5,.int .i64 (k:Int))]) (λ_=>HS w [] [.blk b1 28 6 [.int .i64 d.ow,.int .i64 d.gr,.bool d.pr,.bool d.he,.slice ea d.en.length eac,.slice aa d.au.length aac]]) (λk=>k<=(d.en++d.au).length/\∀j,j<k->(Qae d.en.length (d.en++d.au)).getD j 0=0) (λk=>(d.en++d.au).length-k) 0 ⟨Nat.zero_le _,λj h=>absurd h (Nat.not_lt_zero j)⟩ aSx (λw h=>h.ent aEt) (λk hk1=>?_)
 obtain⟨hk1,hk2⟩:=hk1
 rw[List.length_append]at hk1
 refine aT11 ?_
 refine aU2 ?_
 refine sCd rfl (λh13=>?_) λh13=>?_
 ·have hk:k<(d.en++d.au).length:=by rw[List.length_append];omega
  refine Qfd ?_
  refine o_p (Qw (cs:=[_,_,_,_]) rfl rfl QgV XE rfl) rfl (oAl (λb14 _=>?_) XE)
  refine aU7 ?_
  refine Qi (L':=[(1,_),(5,_),(6,_),(7,_),(53,_)]) aSx (λ_ h=>h) ?_
  refine Xv (α:=Unit) [54,55,56,57,58,59,60,61,62,63,64,65,66,67] (λ_=>[]) (λ_=>HS w [] [.blk b14 119 4 (Ace.vals (nth (d.en++d.au) k)),.blk b1 28 6 [.int .i64 d.ow,.int .i64 d.gr,.bool d.pr,.bool d.he,.slice ea d.en.length eac,.slice aa d.au.length aac]]) (λ_=>True) ?_ ?_
  ·skip
   refine sCd rfl (λh15=>?_) λh15=>?_
   ·have ha4:d.en.length<=k:=by have hq:=h15;omega
    have hn4:nth (d.en++d.au) k=nth d.au (k-d.en.length):=QkS ha4
    refine aT8 ?_
    refine o_p (Qa rfl rfl rfl X0 (k-d.en.length) om om (Rw.some hsa om)) rfl (o_q (Qm _ rfl rfl Qag rfl (Rw.rd hsa (i:=k-d.en.length) om)) rfl (aU2 ?_))
    exact Qn () trivial aSx (λw h=>by rw[hn4];exact h.ent aEt)
   have ha4:k<d.en.length:=by have hq:=h15;omega
   have hn4:nth (d.en++d.au) k=nth d.en k:=Qn1 ha4
   refine aU4 ?_
   refine o_p (Qa rfl rfl rfl X0 (k) om om (Rw.some hse om)) rfl (o_q (Qm _ rfl rfl Qag rfl (Rw.rd hse (i:=k) om)) rfl (aU2 ?_))
   exact Qn () trivial aSx (λw h=>by rw[hn4];exact h.ent aEt)
  intro _ _
  refine aU4 ?_
  refine oCq rfl (λw1 h1=>c110 w1 _) (aU7 ?_)
  refine sCd rfl (λh16=>?_) λh16=>?_
  ·have ha5:¬QaZ (nth (d.en++d.au) k)=0:=h16
   have he5:=eachF_at (es:=(Qae d.en.length (d.en++d.au))) (by rw[Qaz];exact hk) hk2 (by rw[Zg hk,QaR,if_neg ha5];exact ha5)
   rw[Zg hk,QaR,if_neg ha5]at he5
   refine aU7 ?_
   exact Qf (rs:=[.tmp 2,.tmp 3]) rfl (.tmp rfl (.tmp rfl (.nil))) (λw' h'=>⟨by rw[h9,he5];rfl,h'.below⟩)
  have ha5:QaZ (nth (d.en++d.au) k)=0:=h16
  refine aU7 ?_
  refine o_p (Qez rfl rfl rfl Tryz.underlying4) rfl (aU ?_)
  refine sCd rfl (λh17=>?_) λh17=>?_
  ·have ha6:¬(decide ((nth (d.en++d.au) k).kd=2)=decide (d.en.length<=k)):=by have hq:=beq_eq_false_iff_ne.1 h17;intro h;exact hq (by rw[h];exact decide_eq_decide.2 om)
   have he5:=eachF_at (es:=(Qae d.en.length (d.en++d.au))) (by rw[Qaz];exact hk) hk2 (by rw[Zg hk,QaR,if_pos ha5,if_neg ha6];decide)
   rw[Zg hk,QaR,if_pos ha5,if_neg ha6]at he5
   refine aU6 ?_
   exact Qf (rs:=[.tmp 2,.tmp 3]) rfl (.tmp rfl (.tmp rfl (.nil))) (λw' h'=>⟨by rw[h9,he5];rfl,h'.below⟩)
  have ha6:decide ((nth (d.en++d.au) k).kd=2)=decide (d.en.length<=k):=by have hq:=eq_of_beq h17;rw[hq];exact decide_eq_decide.2 om
  refine aT5 ?_
  refine aU2 ?_
  exact sBk (k+1) om ⟨om,λj hj=>(Nat.lt_or_ge j k).elim (hk2 j) (λh=>by obtain rfl:j=k:=om;rw[Zg hk,QaR,if_pos ha5,if_pos ha6])⟩
 obtain rfl:k=(d.en++d.au).length:=by rw[List.length_append];omega
 refine Qj rfl ?_
 refine aU5 ?_
 exact Qf (rs:=[.tmp 2,.tmp 3]) rfl (.tmp rfl (.tmp rfl (.nil))) (λw' h'=>⟨by rw[h9,eachF_all (by rw[Qaz];exact hk2)];rfl,h'.below⟩)
theorem c14(w:World)(d:Dsc)(ea:Option Addr)(eac:Nat)(aa:Option Addr)(aac:Nat)(hse:Rw Ace.vals 4 w [] ea d.en)(hsa:Rw Ace.vals 4 w [] aa d.au)(hme:d.en.length<=100000)(hma:d.au.length<=100000):CR 14 #[.agg #[.int .i64 d.ow,.int .i64 d.gr,.bool d.pr,.bool d.he,.slice ea d.en.length eac,.slice aa d.au.length aac]] w (.int .i64 (Q9 d).2):=by
 refine eN1 Tryz.func14 Tryz.ntmps14 ?_
 refine aU2 ?_
 refine oBx λb1 _=>?_
 refine aU5 ?_
 refine oCq rfl (λw1 h1=>c58 w1 d ea eac aa aac (hse.later h1) (hsa.later h1) hme hma) (ZW ?_)
 exact rV
instance:TFd Tryz.prog 28 2 2 4:=⟨by kernel_rfl⟩
theorem Qps:QE Tryz.prog 50=true:=by kernel_rfl
theorem c50(w:World)(a:Option Addr)(cap:Nat)(l:List Ace)(hs:Rw Ace.vals 4 w [] a l)(hm:l.length<=1000000):CE 50 #[.slice a l.length cap] w [] (λg:Option Addr×Nat=>.slice g.1 l.length g.2) (λg=>True) λg=>[.own (.slice g.1 l.length g.2) 119 4 l.length (l.flatMap Ace.vals)]:=by
 refine eN1 Tryz.func50 Tryz.ntmps50 ?_
 refine aU6 ?_
 refine o_h (XJ rfl X0) rfl (λb1 _=>aU ?_)
 refine o_h (QA (l.flatMap Ace.vals) rfl rfl rfl X0 Tryz.underlying26 XE rfl aPk (λw h=>Rw.src av4 hs h) (Qq av4 l) (Yh av1 l) om (by simp only[maxLen];omega)) rfl (λb2 _=>aU2 ?_)
 exact rT rfl rfl (λw' h'=>⟨b2,by simp only[QR,Nat.zero_add],trivial,by have h2:=h';simp only[Nat.zero_add,List.nil_append]at h2;exact h2.ent aEt⟩)
theorem QqM:QE Tryz.prog 144=true:=by kernel_rfl
theorem QqC:QE Tryz.prog 212=true:=by kernel_rfl
theorem QiP:QE Tryz.prog 149=true:=by kernel_rfl
theorem QeM:QE Tryz.prog 101=true:=by kernel_rfl
instance:TFn Tryz.prog 222:=⟨by kernel_rfl⟩
instance:TFn Tryz.prog 198:=⟨by kernel_rfl⟩
instance:TFn Tryz.prog 143:=⟨by kernel_rfl⟩
instance:TFn Tryz.prog 91:=⟨by kernel_rfl⟩
instance:TFn Tryz.prog 161:=⟨by kernel_rfl⟩
theorem QqR(w:World)(a:Option Addr)(m cap:Nat)(x:List UInt8)(hs:Vl w a (x.map bv))(hm:x.length=m)(h2:2<=m)(hc:m<=cap)(hc9:cap<=9223372036854775807):CR 149 #[.slice a m cap] w (.int .u16 (at2 x 0)):=by
 refine eN1 Tryz.func149 Tryz.ntmps149 ?_
 refine aU5 ?_
 refine Qp [] mixed ?_
 refine dP 0 ?_
 refine dV 1 rfl (Qa rfl rfl rfl QP 0 rfl om (hs.some (by rw[List.length_map];omega))) (dQ 2 [] rfl (Qc rfl rfl QaP ((hs.rd (i:=0) (X9 (l:=x) (k:=0) om)))) (dV 3 rfl (Qk rfl rfl Zl XX) (dP 4 ?_)))
 refine dV 5 rfl (Qa rfl rfl rfl QP 1 rfl om (hs.some (by rw[List.length_map];omega))) (dQ 6 [] rfl (Qc rfl rfl QaP ((hs.rd (i:=1) (X9 (l:=x) (k:=1) om)))) (dV 7 rfl (Qk rfl rfl Zl XX) (dV 8 rfl (Qfj rfl rfl rfl (by decide) 8 rfl) (dP 9 ?_))))
 refine dP 10 ?_
 refine dNi ?_
 exact rV (h:=by rw[<-Qep];rfl)
theorem Qn9(w:World)(a:Option Addr)(m cap:Nat)(x:List UInt8)(hs:Vl w a (x.map bv))(hm:x.length=m)(h2:4<=m)(hc:m<=cap)(hc9:cap<=9223372036854775807):CR 101 #[.slice a m cap] w (.int .u32 (at4 x 0)):=by
 have hx2:=YC x 0
 have hx3:=YC x 2
 refine eN1 Tryz.func101 Tryz.ntmps101 ?_
 refine aU5 ?_
 refine Qp [] mixed ?_
 refine dP 0 ?_
 refine dQ 1 [] rfl (Qh rfl QiP rfl (λw1 h1=>QqR w1 a m cap x (hs.later h1) hm om hc hc9)) (dV 2 rfl (Qk rfl rfl XX XP) (dP 3 ?_))
 refine dV 4 rfl (QM _ _ 2 m rfl rfl QP ⟨_,_,rfl,rfl⟩ rfl om om) (dQ 5 [] rfl (Qh rfl QiP rfl (λw1 h1=>QqR w1 (X1 a cap 2 1) (m-2) (cap-2) (x.drop 2) (by rw[List.map_drop];exact(hs.later h1).drop (by rw[List.length_map];omega) om) (by rw[List.length_drop];omega) om om om)) (dV 6 rfl (Qk rfl rfl XX XP) (dV 7 rfl (Qfj rfl rfl rfl (by decide) 16 rfl) (dP 8 ?_))))
 refine dP 9 ?_
 refine dNi ?_
 exact rV (h:=by have h9:=Qfy (at2 x 0) (at2 (x.drop 2) 0) (YC _ _) (YC _ _);rw[ZS]at h9 ⊢;exact(congrArg Ending.returned h9))
theorem QoS(w:World)(a:Option Addr)(m cap:Nat)(x:List UInt8)(hs:Vl w a (x.map bv))(hm:x.length=m)(h2:8<=m)(hc:m<=cap)(hc9:cap<=9223372036854775807):CR 103 #[.slice a m cap] w (.agg #[.int .i64 (Ya x 0).kd,.int .i64 (Ya x 0).fl,.int .i64 (Ya x 0).ms,.int .i64 (Ya x 0).wh]):=by
 have hx2:=YC x 2
 have hx4:=Qaj x 4
 have hb0:=(x.getD 0 0).toNat_lt
 have hb1:=(x.getD 1 0).toNat_lt
 refine eN1 Tryz.func103 Tryz.ntmps103 ?_
 refine aU2 ?_
 refine oAl (λb1 _=>?_) XE
 refine aU2 ?_
 refine Qp [17] mixed ?_
 refine dP 0 ?_
 refine dV 1 rfl (Qa rfl rfl rfl QP 0 rfl om (hs.some (by rw[List.length_map];omega))) (dQ 2 [[]] rfl (Qc rfl rfl QaP ((hs.rd (i:=0) (X9 (l:=x) (k:=0) om)))) (dV 3 rfl (Qk rfl rfl Zl Yx) (Qs (show _=Value.int .i64 (at1 x 0)from Qh8 om om) (dP 4 ?_))))
 refine dV 5 rfl (Qa rfl rfl rfl QP 1 rfl om (hs.some (by rw[List.length_map];omega))) (dQ 6 [[]] rfl (Qc rfl rfl QaP ((hs.rd (i:=1) (X9 (l:=x) (k:=1) om)))) (dV 7 rfl (Qk rfl rfl Zl Yx) (Qs (show _=Value.int .i64 (at1 x 1)from Qh8 om om) (dP 8 ?_))))
 refine dV 9 rfl (QM _ _ 2 m rfl rfl QP ⟨_,_,rfl,rfl⟩ rfl om om) (dQ 10 [[]] rfl (Qh rfl QiP rfl (λw1 h1=>QqR w1 (X1 a cap 2 1) (m-2) (cap-2) (x.drop 2) (by rw[List.map_drop];exact(hs.later h1).drop (by rw[List.length_map];omega) om) (by rw[List.length_drop];omega) om om om)) (dV 11 rfl (Qk rfl rfl XX Yx) (Qs (show _=Value.int .i64 (at2 x 2)from by rw[ZS,Nat.add_zero];exact Qh8 om om) (dP 12 ?_))))
 refine dV 13 rfl (QM _ _ 4 m rfl rfl QP ⟨_,_,rfl,rfl⟩ rfl om om) (dQ 14 [[]] rfl (Qh rfl QeM rfl (λw1 h1=>Qn9 w1 (X1 a cap 4 1) (m-4) (cap-4) (x.drop 4) (by rw[List.map_drop];exact(hs.later h1).drop (by rw[List.length_map];omega) om) (by rw[List.length_drop];omega) om om om)) (dV 15 rfl (Qk rfl rfl XP Yx) (Qs (show _=Value.int .i64 (at4 x 4)from by rw[Zh,Nat.add_zero];exact Qh8 om om) (dV 16 rfl (Qw (cs:=[_,_,_,_]) rfl rfl QgV XE rfl) (dSt 17 ?_ (hl:=(by simp only[Qb,List.length_set,List.length_cons,List.length_nil,List.length_map];omega)))))))
 refine dTu [] ?_
 refine dNi ?_
 exact Qf (rs:=[.cell 2 119]) rfl (.cell rfl Qag aPk rfl (.nil)) (λw' h'=>⟨by rfl,h'.below⟩)
theorem c198(w:World)(s:List UInt8)(hm:s.length<=200000):CR 198 #[.string (bs s)] w (.int .i64 0):=by
 refine eN1 Tryz.func198 Tryz.ntmps198 ?_
 refine aU7 ?_
 refine o_p (QJ rfl rfl Tryz.underlying9) rfl (aU ?_)
 refine oCq rfl (λw1 h1=>c222 w1 _ _) (aU2 ?_)
 exact rV (h:=by rw[show decide ((s.length:Int)<=200000)=true from decide_eq_true om];rfl)
theorem c143(w:World)(s:List UInt8)(n0:Int)(q:Nat)(cv:Array Value)(st:Int->UInt8->Int)(hm:s.length<=200000)(hn:0<=n0/\n0<2147483648)(hst:∀n c,0<=st n c/\st n c<2147483648)(hq:QE Tryz.prog q=true)(hc:∀n c w1,0<=n/\n<2147483648->Calls Tryz.prog q (#[]++[.int .i64 n,.int .i64 ((c:UInt8).toNat:Int)].toArray++cv) w1 λen w2=>en=.returned (.int .i64 (st n c))/\Below w1.heap.size w1 w2):CR 143 #[.string (bs s),.int .i64 n0,.func (.func q) #[] cv] w (.tuple #[.int .i64 (s.foldl st n0),.int .i64 0]):=by
 refine eN3 Tryz.func143 Tryz.ntmps143 ?_
 refine aU9 ?_
 refine oCq rfl (λw1 h1=>c198 w1 s hm) (aU7 ?_)
 refine sCd rfl (λh1=>?_) λh1=>?_
 ·exfalso;first|omega|(simp at h1;done)|(simp_all;done)
 refine aU5 ?_
 refine o_h (Qc9 rfl rfl Tryz.underlying9 Tryz.underlying124 Tryz.underlying5 rfl (by simp only[maxLen];omega)) rfl (λ⟨b2,c3⟩⟨h4,k5⟩=>aU4 ?_)
 refine Qt (α:=Nat) [1,10,19,20,21,22,23,24,25,26,27,28] (λk=>[(19,.int .i64 (k:Int)),(1,.int .i64 ((s.take k).foldl st n0))]) (λ_=>_) (λk=>k<=s.length) (λk=>s.length-k) 0 (Nat.zero_le _) aSx (λw h=>h) (λk hk1=>?_)
 refine aU5 ?_
 refine sCd rfl (λh6=>?_) λh6=>?_
 ·have hk:k<s.length:=by omega
  have hs9:=QiI (f:=st) (a:=n0) hk
  have hle:=Qc2 hst (s.take k) n0 hn
  have hb9:=(s.getD k 0).toNat_lt
  refine aU5 ?_
  refine o_p (Qa rfl rfl rfl QP (k) om om rfl) rfl (o_q (Qo rfl rfl QaP (λw h=>by rw[Nat.zero_add];exact h.rd_blk (Mc:=[]) aPk (by rw[Nat.mul_one];exact X9 hk) (by simp))) rfl (aU6 ?_))
  refine o_p (Qk rfl rfl Zl Yx) rfl ?_
  try refine oWr ?_
  refine o_q (XS rfl rfl hq rfl (λw1 h1=>hc ((s.take k).foldl st n0) (s.getD k 0) w1 hle)) rfl (aT5 ?_)
  refine aU2 ?_
  exact QQ (k+1) om om (by rw[hs9];exact aSx) (λw h=>h)
 obtain rfl:k=s.length:=om
 rw[List.take_length]
 refine Qj rfl ?_
 refine aU6 ?_
 exact Qf (rs:=[.tmp 6,.tmp 7]) rfl (.tmp rfl (.tmp rfl (.nil))) (λw' h'=>⟨by rfl,h'.below⟩)
theorem c144(w:World)(n:Int)(c:UInt8)(hn:0<=n/\n<2147483648):CR 144 #[.int .i64 n,.int .i64 (c.toNat:Int)] w (.int .i64 (QeE n c)):=by
 have hb:=c.toNat_lt
 refine eN2 Tryz.func144 Tryz.ntmps144 ?_
 refine aT8 ?_
 refine aT2 ?_
 refine o_p (Qc3 rfl rfl rfl om om) rfl (aU2 ?_)
 exact rV
theorem c212(w:World)(n:Int)(c:UInt8)(hn:0<=n/\n<2147483648):CR 212 #[.int .i64 n,.int .i64 (c.toNat:Int)] w (.int .i64 (QfL n c)):=by
 have hb:=c.toNat_lt
 obtain⟨m,rfl⟩:=Int.eq_ofNat_of_zero_le hn.1
 refine eN2 Tryz.func212 Tryz.ntmps212 ?_
 refine aU7 ?_
 refine o_p (Qfj rfl rfl rfl (by decide) 1 rfl) rfl (aU2 ?_)
 refine o_p (QcM rfl rfl rfl (by decide) 30 rfl) rfl (aU ?_)
 refine Ql (show _=Value.int .i64 ((2*m%2147483648+m/1073741824:Nat):Int)from QrE m om) (aU7 ?_)
 refine Ql (Qh8 om om) (o_p (Qc3 rfl rfl rfl om om) rfl (aU2 ?_))
 exact rV (h:=by unfold QfL;rw[show(2*(m:Int)%2147483648+(m:Int)/1073741824)=((2*m%2147483648+m/1073741824:Nat):Int) by omega];rfl)
theorem c91(w:World)(s:List UInt8)(hm:s.length<=200000):CR 91 #[.string (bs s)] w (.tuple #[.int .i64 (Xk s),.int .i64 0]):=by
 refine eN1 Tryz.func91 Tryz.ntmps91 ?_
 refine aU8 ?_
 refine oCq rfl (λw1 h1=>c143 w1 s 17 144 #[] QeE hm om QfW QqM (λn c w2 hn=>c144 w2 n c hn)) (aU5 ?_)
 exact Qf (rs:=[.tmp 2,.tmp 3]) rfl (.tmp rfl (.tmp rfl (.nil))) (λw' h'=>⟨by rfl,h'.below⟩)
theorem c46(w:World)(s:List UInt8)(hm:s.length<=200000):CR 46 #[.string (bs s)] w (.int .i64 (Xk s)):=by
 refine eN1 Tryz.func46 Tryz.ntmps46 ?_
 refine aU7 ?_
 refine oCq rfl (λw1 h1=>c91 w1 s hm) (ZW ?_)
 exact rV
theorem c161(w:World)(s:List UInt8)(hm:s.length<=200000):CR 161 #[.string (bs s)] w (.tuple #[.int .i64 (QkL s),.int .i64 0]):=by
 refine eN1 Tryz.func161 Tryz.ntmps161 ?_
 refine aU8 ?_
 refine oCq rfl (λw1 h1=>c143 w1 s 0 212 #[] QfL hm om Qhx QqC (λn c w2 hn=>c212 w2 n c hn)) (aU5 ?_)
 exact Qf (rs:=[.tmp 2,.tmp 3]) rfl (.tmp rfl (.tmp rfl (.nil))) (λw' h'=>⟨by rfl,h'.below⟩)
theorem c123(w:World)(s:List UInt8)(hm:s.length<=200000):CR 123 #[.string (bs s)] w (.int .i64 (QkL s)):=by
 refine eN1 Tryz.func123 Tryz.ntmps123 ?_
 refine aU7 ?_
 refine oCq rfl (λw1 h1=>c161 w1 s hm) (ZW ?_)
 exact rV
instance:TFn Tryz.prog 82:=⟨by kernel_rfl⟩
theorem Qm8:QE Tryz.prog 83=true:=by kernel_rfl
def h4B(d:Dsc):List UInt8:=[1,by8 (QaV d),by8 d.en.length,by8 d.au.length]
theorem QmT(d:Dsc):X5 d=h4B d++le4 d.ow++le4 d.gr:=rfl
theorem Qof(h x:List UInt8)(a:Ace):h++(x++Yk a)=h++x++[by8 a.kd,by8 a.fl]++le2 a.ms++le4 a.wh:=by
  simp only[Yk,List.append_assoc,List.cons_append,List.nil_append]
theorem c41(w:World)(d:Dsc)(ea:Option Addr)(eac:Nat)(aa:Option Addr)(aac:Nat)(hse:Rw Ace.vals 4 w [] ea d.en)(hsa:Rw Ace.vals 4 w [] aa d.au)(hme:d.en.length<=100000)(hma:d.au.length<=100000):CR 41 #[.agg #[.int .i64 d.ow,.int .i64 d.gr,.bool d.pr,.bool d.he,.slice ea d.en.length eac,.slice aa d.au.length aac]] w (.tuple #[.string (bs (if(Q9 d).2=0 then QG d else[])),.int .i64 (Q9 d).2]):=by
 refine eN1 Tryz.func41 Tryz.ntmps41 ?_
 refine aU2 ?_
 refine oBx λb1 _=>?_
 refine aU7 ?_
 refine oCq rfl (λw1 h1=>c82 w1 d ea eac aa aac (hse.later h1) (hsa.later h1) hme hma) (aU7 ?_)
 refine sCd rfl (λh2=>?_) λh2=>?_
 ·have h0:¬(Q9 d).2=0:=h2
  refine aU6 ?_
  exact Qf (rs:=[.tmp 2,.tmp 3]) rfl (.tmp rfl (.tmp rfl (.nil))) (λw' h'=>⟨by rw[if_neg h0];rfl,h'.below⟩)
 have h0:(Q9 d).2=0:=h2
 obtain⟨hok1,hok2,hok3,hok4⟩:=Qbq h0
 have hokp:=Qhw hok1
 have hll:(d.en++d.au).length<=32:=by rw[List.length_append];omega
 refine ZW ?_
 refine Xv (α:=Unit) [5,16,17] (λ_=>[(5,.int .i64 (if d.pr then 1 else 0))]) (λ_=>HS w [] [.blk b1 28 6 [.int .i64 d.ow,.int .i64 d.gr,.bool d.pr,.bool d.he,.slice ea d.en.length eac,.slice aa d.au.length aac]]) (λ_=>True) ?_ ?_
 ·skip
  refine sCd rfl (λh3=>?_) λh3=>?_
  ·have hp9:d.pr=true:=h3
   refine aU5 ?_
   exact Qn () trivial (by(try dsimp only);rw[hp9];exact aSx) (λw h=>h.ent aEt)
  have hp9:d.pr=false:=by simpa using h3
  refine aU ?_
  exact Qn () trivial (by(try dsimp only);rw[hp9];exact aSx) (λw h=>h.ent aEt)
 intro _ _
 refine aU6 ?_
 refine Xv (α:=Unit) [5,20,21] (λ_=>[(5,.int .i64 (QaV d))]) (λ_=>HS w [] [.blk b1 28 6 [.int .i64 d.ow,.int .i64 d.gr,.bool d.pr,.bool d.he,.slice ea d.en.length eac,.slice aa d.au.length aac]]) (λ_=>True) ?_ ?_
 ·skip
  refine sCd rfl (λh4=>?_) λh4=>?_
  ·have hh9:d.he=true:=h4
   refine aU5 ?_
   exact Qn () trivial (by unfold QaV;rw[hh9];cases d.pr<;>exact aSx) (λw h=>h.ent aEt)
  have hh9:d.he=false:=by simpa using h4
  refine aU ?_
  exact Qn () trivial (by unfold QaV;rw[hh9];cases d.pr<;>exact aSx) (λw h=>h.ent aEt)
 intro _ _
 refine aU3 ?_
 refine o_p (Qk rfl rfl Yx Zl) rfl (Ql (Yl _) (aU3 ?_))
 refine o_p (Qk rfl rfl Yx Zl) rfl (Ql (Yl _) (aU3 ?_))
 refine o_p (Qk rfl rfl Yx Zl) rfl (Ql (Yl _) (o_h (Qd (cs:=[_,_,_,_]) rfl rfl QP Qdi rfl rfl rfl) rfl (λb5 _=>Xm (C':=HS w [] [.own (.slice (some ⟨b5,0,none⟩) 4 4) 5 1 (4) ((h4B d).map bv),.blk b1 28 6 [.int .i64 d.ow,.int .i64 d.gr,.bool d.pr,.bool d.he,.slice ea d.en.length eac,.slice aa d.au.length aac]]) (λw h=>HS.own_shut (cap:=4) (n:=4) (sz:=1) (h.ent aEt) rfl om (by decide)) (aU7 ?_))))
 refine o_p (Qk rfl rfl Yx XP) rfl (Ql (show _=Value.int .u32 d.ow from by rw[QdL,Int.emod_eq_of_lt om om]) (o_h (QV (Cs:=[.own (.slice (some ⟨b5,0,none⟩) (h4B d).length 4) 5 1 ((h4B d).length) ((h4B d).map bv)]) rfl Qm8 rfl aPs (λw1 h1 hf=>c83 w1 (some ⟨b5,0,none⟩) 4 (h4B d) d.ow hf om (by simp only[List.length_append,h4B,List.length_cons,List.length_nil,le4,le2];omega))) rfl (λg8 _=>aU3 ?_)))
 refine Qi (L':=[(1,_),(2,_),(3,_),(6,_)]) aSx (λ_ h=>h) ?_
 refine aU4 ?_
 refine o_p (Qk rfl rfl Yx XP) rfl (Ql (show _=Value.int .u32 d.gr from by rw[QdL,Int.emod_eq_of_lt om om]) (o_h (QV (Cs:=[.own (.slice g8.1 (h4B d++le4 d.ow).length g8.2) 5 1 ((h4B d++le4 d.ow).length) ((h4B d++le4 d.ow).map bv)]) rfl Qm8 rfl aPs (λw1 h1 hf=>c83 w1 g8.1 g8.2 (h4B d++le4 d.ow) d.gr hf om (by simp only[List.length_append,h4B,List.length_cons,List.length_nil,le4,le2];omega))) rfl (λg12 _=>aU9 ?_)))
 refine o_h (Qd (cs:=[_,_]) rfl rfl Qeu Qoa rfl rfl rfl) rfl (λb6 _=>oCh rfl (λw1 h1=>cat2 w1 ea aa eac aac d.en d.au h1 aPk (hse.later h1) (hsa.later h1) om om) (λgw _=>aU4 ?_))
 refine Qi (L':=[(2,_),(3,_),(6,_),(48,_),(49,_),(50,_)]) aSx (λ_ h=>h) ?_
 refine Qt (α:=Nat×Option Addr×Nat) [6,8,50,51,52,53,54,55,56,57,58,59,60,61,62,63,64,65,66,67,68,69,70,71,72,73] (λx=>[(50,.int .i64 (x.1:Int)),(6,.slice x.2.1 (X5 d++((d.en++d.au).take x.1).flatMap Yk).length x.2.2)]) (λx=>HS w [] [.own (.slice x.2.1 ((X5 d++((d.en++d.au).take x.1).flatMap Yk)).length x.2.2) 5 1 (((X5 d++((d.en++d.au).take x.1).flatMap Yk)).length) (((X5 d++((d.en++d.au).take x.1).flatMap Yk)).map bv),.own (.slice gw.1 (d.en++d.au).length gw.2) 119 4 (d.en++d.au).length ((d.en++d.au).flatMap Ace.vals),.blk b1 28 6 [.int .i64 d.ow,.int .i64 d.gr,.bool d.pr,.bool d.he,.slice ea d.en.length eac,.slice aa d.au.length aac]]) (λx=>x.1<=(d.en++d.au).length) (λx=>(d.en++d.au).length-x.1) (0,g12.1,g12.2) (Nat.zero_le _) (by rw[List.take_zero,List.flatMap_nil,List.append_nil];exact aSx) (λw h=>by dsimp only;rw[List.take_zero,List.flatMap_nil,List.append_nil,QmT];exact h.ent aEt) (λ⟨k,ga,gc⟩hk1=>?_)
 dsimp only
 simp only[]at hk1
 refine aU5 ?_
 refine sCd rfl (λh7=>?_) λh7=>?_
 ·have hk:k<(d.en++d.au).length:=by omega
  have hae:=Qjs (QhJ (hok4 k hk))
  have hst:(X5 d++((d.en++d.au).take (k+1)).flatMap Yk)=_:=(congrArg (X5 d++ ·) (Qpl (f:=Yk) hk)).trans (Qof _ _ _)
  have hln:=Qf0 ((d.en++d.au).take k)
  have hhl:=Qf1 d
  rw[List.length_take]at hln
  refine Yr (λw h=>Rw.some (h.rw_own av4 aPk rfl) om) λhsm=>aU5 ?_
  refine o_p (Qa rfl rfl rfl X0 (k) om om hsm) rfl (o_q (ZQ _ rfl rfl Qag rfl (λw h=>Rw.rd (h.rw_own av4 aPk rfl) hk)) rfl (oAl (λb8 _=>?_) XE))
  refine aU7 ?_
  refine o_p (Qk rfl rfl Yx Zl) rfl (Ql (Yl _) (aU2 ?_))
  refine o_p (Qk rfl rfl Yx Zl) rfl (Ql (Yl _) (o_h (Qd (cs:=[_,_]) rfl rfl QP Qdi rfl rfl rfl) rfl (λb9 _=>?_)))
  refine o_h (QA _ rfl rfl rfl QP Tryz.underlying124 Qdi rfl aPk (QZ aPk) rfl (by intro u hu;simp only[List.mem_cons,List.mem_nil_iff,or_false]at hu;rcases hu with rfl|rfl<;>rfl) (by simp only[List.length_append];omega) (by simp only[maxLen,List.length_append];omega)) rfl (λb10 _=>Ql (show _=Value.slice b10.1 ((X5 d++((d.en++d.au).take k).flatMap Yk)++[by8 (nth (d.en++d.au) k).kd,by8 (nth (d.en++d.au) k).fl]).length b10.2 from by rw[@List.length_append _ (X5 d++((d.en++d.au).take k).flatMap Yk) _];rfl) (Xm (C':=HS w [] [.own (.slice b10.1 ((X5 d++((d.en++d.au).take k).flatMap Yk)++[by8 (nth (d.en++d.au) k).kd,by8 (nth (d.en++d.au) k).fl]).length b10.2) 5 1 (((X5 d++((d.en++d.au).take k).flatMap Yk)++[by8 (nth (d.en++d.au) k).kd,by8 (nth (d.en++d.au) k).fl]).length) (((X5 d++((d.en++d.au).take k).flatMap Yk)++[by8 (nth (d.en++d.au) k).kd,by8 (nth (d.en++d.au) k).fl]).map bv),.blk b8 119 4 (Ace.vals (nth (d.en++d.au) k)),.own (.slice gw.1 (d.en++d.au).length gw.2) 119 4 (d.en++d.au).length ((d.en++d.au).flatMap Ace.vals),.blk b1 28 6 [.int .i64 d.ow,.int .i64 d.gr,.bool d.pr,.bool d.he,.slice ea d.en.length eac,.slice aa d.au.length aac]]) (λw h=>by rw[List.map_append (l₁:=(X5 d++((d.en++d.au).take k).flatMap Yk)),@List.length_append _ (X5 d++((d.en++d.au).take k).flatMap Yk) _];exact h.ent aEt) (aU7 ?_)))
  refine o_p (Qk rfl rfl Yx XX) rfl (Ql (show _=Value.int .u16 (nth (d.en++d.au) k).ms from by rw[QmZ,Int.emod_eq_of_lt om om]) (o_h (QV (Cs:=[.own (.slice b10.1 ((X5 d++((d.en++d.au).take k).flatMap Yk)++[by8 (nth (d.en++d.au) k).kd,by8 (nth (d.en++d.au) k).fl]).length b10.2) 5 1 (((X5 d++((d.en++d.au).take k).flatMap Yk)++[by8 (nth (d.en++d.au) k).kd,by8 (nth (d.en++d.au) k).fl]).length) (((X5 d++((d.en++d.au).take k).flatMap Yk)++[by8 (nth (d.en++d.au) k).kd,by8 (nth (d.en++d.au) k).fl]).map bv)]) rfl QpL rfl aPs (λw1 h1 hf=>c85 w1 b10.1 b10.2 ((X5 d++((d.en++d.au).take k).flatMap Yk)++[by8 (nth (d.en++d.au) k).kd,by8 (nth (d.en++d.au) k).fl]) (nth (d.en++d.au) k).ms hf om (by simp only[List.length_append,h4B,List.length_cons,List.length_nil,le4,le2];omega))) rfl (λg16 _=>aU6 ?_)))
  refine o_p (Qk rfl rfl Yx XP) rfl (Ql (show _=Value.int .u32 (nth (d.en++d.au) k).wh from by rw[QdL,Int.emod_eq_of_lt om om]) (o_h (QV (Cs:=[.own (.slice g16.1 ((X5 d++((d.en++d.au).take k).flatMap Yk)++[by8 (nth (d.en++d.au) k).kd,by8 (nth (d.en++d.au) k).fl]++le2 (nth (d.en++d.au) k).ms).length g16.2) 5 1 (((X5 d++((d.en++d.au).take k).flatMap Yk)++[by8 (nth (d.en++d.au) k).kd,by8 (nth (d.en++d.au) k).fl]++le2 (nth (d.en++d.au) k).ms).length) (((X5 d++((d.en++d.au).take k).flatMap Yk)++[by8 (nth (d.en++d.au) k).kd,by8 (nth (d.en++d.au) k).fl]++le2 (nth (d.en++d.au) k).ms).map bv)]) rfl Qm8 rfl aPs (λw1 h1 hf=>c83 w1 g16.1 g16.2 ((X5 d++((d.en++d.au).take k).flatMap Yk)++[by8 (nth (d.en++d.au) k).kd,by8 (nth (d.en++d.au) k).fl]++le2 (nth (d.en++d.au) k).ms) (nth (d.en++d.au) k).wh hf om (by simp only[List.length_append,h4B,List.length_cons,List.length_nil,le4,le2];omega))) rfl (λg32 _=>aT5 ?_)))
  refine aU2 ?_
  exact QQ (k+1,g32.1,g32.2) (by(try simp only[]);omega) (by(try simp only[]);omega) (by dsimp only;rw[hst];exact aSx) (λw h=>by dsimp only;rw[hst];exact h.ent aEt)
 obtain rfl:k=(d.en++d.au).length:=om
 rw[List.take_length,<-Qhh]
 refine Qj rfl ?_
 refine aU3 ?_
 refine o_q (QcL rfl rfl Tryz.underlying124 Tryz.underlying9 Tryz.underlying5 aPk (QgF _)) rfl (aU3 ?_)
 exact Qf (rs:=[.tmp 2,.tmp 3]) rfl (.tmp rfl (.tmp rfl (.nil))) (λw' h'=>⟨by rw[if_pos h0,h0,QfG];rfl,h'.below⟩)
theorem QgJ:tsz Tryz.prog 124=some (1,false):=by kernel_rfl
instance:TSz Tryz.prog 124 1 false:=⟨QgJ⟩
theorem c150(w:World){G:Type}(w0:World)(M:List Nat)(Cs:Nat->G->List HA)(g0:G)(l b1 b2 K:Nat)(a:Option Addr)(m cap:Nat)(hm:m=8*K)(hmc:m<=cap)(hcap:cap<=9223372036854775807)(hw:HS w0 M (Cs 0 g0) w)(hr:∀k g w,HS w0 M (Cs k g) w->Rd w [] b1 0 (.slice a m cap)/\Rd w [] b2 0 (.int .i64 8))(hy:∀k g w,k<K->HS w0 M (Cs k g) w->YO Tryz.prog l #[.slice (X1 a (8*k+8) (8*k) 1) 8 8] w λe w'=>∃g',e=.returned (.bool true)/\True/\HS w0 M (Cs (k+1) g') w'):Calls Tryz.prog 150 #[.func (.yield l) #[] #[],.pointer (some ⟨b1,0,none⟩),.pointer (some ⟨b2,0,none⟩)] w λen w'=>(∃v,en=.returned v)/\∃x:G,HS w0 M (Cs K x) w':=by
 refine eW3 Tryz.func150 Tryz.ntmps150 hw ?_
 refine aU5 ?_
 refine Qt (α:=Nat×G) [4,5,6,7,8,9,10,11,12,13,14,15,16,17,18,19,20,21,22,23,24,25,26,27,28,29,30] (λx=>[(4,.int .i64 ((8*x.1:Nat):Int))]) (λx=>HS w0 M (Cs x.1 x.2)) (λx=>x.1<=K) (λx=>K-x.1) (0,g0) (Nat.zero_le _) aSx (λw h=>h) (λ⟨k,gg⟩hk1=>?_)
 dsimp only
 simp only[]at hk1
 refine aU4 ?_
 refine o_q (Qo rfl rfl QgJ (λw h=>(hr _ _ w h).1)) rfl (aU3 ?_)
 refine sCd rfl (λh1=>?_) λh1=>?_
 ·have hk:k<K:=by omega
  refine aU4 ?_
  refine Qp [] mixed ?_
  refine dQ 0 [] rfl (Qo rfl rfl XB (λw h=>(hr _ _ w h).2)) (dQ 1 [] rfl (Qo rfl rfl QgJ (λw h=>(hr _ _ w h).1)) (dP 2 ?_))
  refine dV 3 rfl (QM _ _ (8*k) m rfl rfl QP ⟨_,_,rfl,rfl⟩ rfl om om) (dV 4 rfl (QI rfl rfl Tryz.underlying124) (dV 5 rfl (QpZ rfl rfl rfl ) ?_))
  refine Qs (show _=Value.int .i64 8 from by congr 1;split<;>omega) (dP 6 ?_)
  refine dNi ?_
  refine aU3 ?_
  refine o_q (Qo rfl rfl QgJ (λw h=>(hr _ _ w h).1)) rfl (aT4 ?_)
  refine aT3 ?_
  refine o_p (QmA (8*k) (8*k+8) (8*k+8) rfl rfl rfl rfl rfl QP rfl om om om om om) rfl ?_
  refine Ql (show _=Value.slice (X1 a (8*k+8) (8*k) 1) 8 8 from by congr 1<;>omega) (o_h (QgO rfl rfl rfl (λw1 h1=>hy k gg w1 hk h1)) rfl (λgy _=>aU2 ?_))
  refine sCd rfl (λh2=>?_) λh2=>?_
  ·exfalso;first|omega|(simp at h2;done)|(simp_all;done)
  refine aU4 ?_
  refine o_q (Qo rfl rfl XB (λw h=>(hr _ _ w h).2)) rfl (aT ?_)
  refine aU2 ?_
  exact QQ (k+1,gy) (by(try simp only[]);omega) (by(try simp only[]);omega) aSx (λw h=>h)
 obtain rfl:k=K:=om
 refine Qj rfl ?_
 exact Qcr rfl (λw' h'=>⟨⟨_,rfl⟩,gg,h'⟩)
theorem Xq:Xs Tryz.prog 28=some [.int .i64 0,.int .i64 0,.bool false,.bool false,.slice none 0 0,.slice none 0 0]:=by kernel_rfl
theorem YU:YA Tryz.prog 28=some [(0,1),(1,1),(2,1),(3,1),(4,1),(5,1)]:=by kernel_rfl
instance:TFn Tryz.prog 102:=⟨by kernel_rfl⟩
theorem QmF:QE Tryz.prog 150=true:=by kernel_rfl
theorem QgY:QE Tryz.prog 103=true:=by kernel_rfl
theorem c102(w:World)(a:Option Addr)(m cap:Nat):CE 102 #[.slice a m cap,.int .i64 8] w [] (λg:Nat×Nat=>.func (.func 150) #[] #[.pointer (some ⟨g.1,0,none⟩),.pointer (some ⟨g.2,0,none⟩)]) (λg=>True) λg=>[.blk g.1 124 1 [.slice a m cap],.blk g.2 3 1 [.int .i64 8]]:=by
 refine eN2 Tryz.func102 Tryz.ntmps102 ?_
 refine aU2 ?_
 refine oBx λb1 _=>?_
 refine oBx λb2 _=>?_
 refine aU8 ?_
 refine sCd rfl (λh3=>?_) λh3=>?_
 ·exfalso;first|omega|(simp at h3;done)|(simp_all;done)
 refine aU6 ?_
 exact rT rfl rfl (λw' h'=>⟨(b1,b2),rfl,trivial,h'.ent aEt⟩)
set_option maxHeartbeats 4000000 in
theorem c55(w:World)(s:List UInt8)(hm:s.length<=1000000):CE 55 #[.string (bs s)] w [] (λg:(Option Addr×Nat)×(Option Addr×Nat)=>.tuple #[.agg #[.int .i64 (Yf s).ow,.int .i64 (Yf s).gr,.bool (Yf s).pr,.bool (Yf s).he,.slice g.1.1 (Yf s).en.length g.1.2,.slice g.2.1 (Yf s).au.length g.2.2],.int .i64 (YT s)]) (λg=>True) λg=>[.own (.slice g.1.1 (Yf s).en.length g.1.2) 119 4 (Yf s).en.length ((Yf s).en.flatMap Ace.vals),.own (.slice g.2.1 (Yf s).au.length g.2.2) 119 4 (Yf s).au.length ((Yf s).au.flatMap Ace.vals)]:=by
 have hc2:=(s.getD 2 0).toNat_lt
 have hc3:=(s.getD 3 0).toNat_lt
 have hb0:=Zm s 0
 have hb1:=Zm s 1
 have hb2:=Zm s 2
 have hb3:=Zm s 3
 have hx4:=Qaj s 4
 have hx8:=Qaj s 8
 refine eN1 Tryz.func55 Tryz.ntmps55 ?_
 refine aU2 ?_
 refine oAl (λb1 _=>?_) Xq
 refine aU5 ?_
 refine o_h (Qc9 rfl rfl Tryz.underlying9 Tryz.underlying124 Tryz.underlying5 rfl (by simp only[maxLen];omega)) rfl (λ⟨b2,c3⟩⟨h4,k5⟩=>aU9 ?_)
 refine sCd rfl (λh6=>?_) λh6=>?_
 ·have hl12:s.length<12:=by omega
  have hz9:YN s=10:=by unfold YN;rw[if_pos hl12]
  obtain⟨hE9,hD9⟩:=QaD (s:=s) (by rw[hz9];decide)
  refine aU2 ?_
  refine o_p (Qw (cs:=[_,_,_,_,_,_]) rfl rfl YU Xq rfl) rfl (aU3 ?_)
  exact Qf (rs:=[.cell 2 28,.tmp 3]) rfl (.cell rfl Xr aPk rfl (.tmp rfl (.nil))) (λw' h'=>⟨((none,0),(none,0)),by rw[hE9,hD9,hz9];rfl,trivial,by rw[hD9];exact((h'.own_nil 119 4).own_nil 119 4).ent aEt⟩)
 have hl12:¬s.length<12:=om
 refine aU2 ?_
 refine Qdg [.blk b2 5 c3 (s.map bv)] [] mixed ?_
 refine dP 0 ?_
 refine dV 1 rfl (Qa rfl rfl rfl QP (2) om om rfl) (dQ 2 [] rfl (Qo rfl rfl QaP (λw h=>h.rd_blk (Mc:=[]) (b:=b2) (i:=2) aPk (X9 (l:=s) (k:=2) om) (by simp))) (dV 3 rfl (Qk rfl rfl Zl Yx) ?_))
 try refine dWr ?_
 refine Qs (show _=Value.int .i64 (at1 s 2)from rfl) (dP 4 ?_)
 refine dV 5 rfl (Qa rfl rfl rfl QP (3) om om rfl) (dQ 6 [] rfl (Qo rfl rfl QaP (λw h=>h.rd_blk (Mc:=[]) (b:=b2) (i:=3) aPk (X9 (l:=s) (k:=3) om) (by simp))) (dV 7 rfl (Qk rfl rfl Zl Yx) ?_))
 try refine dWr ?_
 refine Qs (show _=Value.int .i64 (at1 s 3)from rfl) (dH 8 rfl (Xf rfl Ye) (λb7 _=>dSt 9 ?_ (hl:=(by simp only[Qb,List.length_set,List.length_cons,List.length_nil,List.length_map];omega))))
 refine dP 10 ?_
 refine dNi ?_
 refine aU ?_
 refine Qp [] mixed ?_
 refine dLd 0 [] ?_
 refine dP 1 ?_
 refine dV 2 rfl (Qdp rfl rfl rfl ) (dP 3 ?_)
 refine dQ 4 [] rfl (Qh rfl QaL rfl (λw1 h1=>Qfw w1 _ _)) (dP 5 ?_)
 refine dV 6 rfl (QI rfl rfl Tryz.underlying124) (dLd 7 [] ?_)
 refine dP 8 ?_
 refine dP 9 ?_
 try refine dWr ?_
 refine dP 10 ?_
 try refine dWr ?_
 refine dP 11 ?_
 try refine dWr ?_
 refine dP 12 ?_
 refine dQ 13 [] rfl (Qh rfl QaL rfl (λw1 h1=>Qfw w1 _ _)) (dP 14 ?_)
 refine dV 15 rfl (Qa rfl rfl rfl QP (0) om om rfl) (dQ 16 [] rfl (Qo rfl rfl QaP (λw h=>h.rd_blk (Mc:=[]) (b:=b2) (i:=0) aPk (X9 (l:=s) (k:=0) om) (by simp))) (dP 17 ?_))
 refine dP 18 ?_
 apply XC 43
 ·exact rfl
 ·intro hg8
  have hs9:=hg8;try simp only[dT]at hs9
  refine dPo 19 43 hg8 ?_
  refine dVo 20 43 hg8 rfl rfl rfl (Qa rfl rfl rfl QP (1) om om rfl) ?_
  refine dQo 21 43 [] hg8 rfl rfl rfl (Qo rfl rfl QaP (λw h=>h.rd_blk (Mc:=[]) (b:=b2) (i:=1) aPk (X9 (l:=s) (k:=1) om) (by simp))) ?_
  refine dPo 22 43 hg8 ?_
  refine dV 23 rfl (XI rfl rfl hg8 rfl) (dQ 24 [] rfl (Qh rfl QaL rfl (λw1 h1=>Qfw w1 _ _)) (dH 25 rfl (Qd (cs:=[_,_,_]) rfl rfl Xn XK rfl rfl rfl) (λb10 _=>dBa ?_)))
  refine dQ 26 [] rfl (Qh rfl Qgm rfl (λw1 h1=>f99 h1 aPk (by rfl) (by rfl) (by decide))) (dP 27 ?_)
  refine dNi ?_
  refine aU2 ?_
  refine Qi (L':=[(2,_),(3,_),(4,_),(5,_),(7,_)]) aSx (λ_ h=>h) ?_
  refine aU4 ?_
  refine sCd rfl (λh11=>?_) λh11=>?_
  ·have hp9:=Qb1 (s:=s) (mx:=(if at1 s 3>at1 s 2 then at1 s 3 else at1 s 2)) (c:=decide ((s.length:Int)=12+(at1 s 2+at1 s 3)*8)) (b:=decide (at1 s 0=1)&&decide (at1 s 1<=3)) hl12 (by split<;>omega) rfl rfl
   rw[show decide (at1 s 0=1)=_ from hg8]at hp9
   have hz9:¬YN s=0:=by rw[<-hp9];exact h11
   obtain⟨hE9,hD9⟩:=QaD hz9
   refine aU2 ?_
   refine o_p (Qw (cs:=[_,_,_,_,_,_]) rfl rfl YU Xq rfl) rfl (aU4 ?_)
   exact Qf (rs:=[.cell 2 28,.tmp 3]) rfl (.cell rfl Xr aPk rfl (.tmp rfl (.nil))) (λw' h'=>⟨((none,0),(none,0)),by rw[hE9,hD9,<-hp9];rfl,trivial,by rw[hD9];exact((h'.own_nil 119 4).own_nil 119 4).ent aEt⟩)
  have hp9:=Qb1 (s:=s) (mx:=(if at1 s 3>at1 s 2 then at1 s 3 else at1 s 2)) (c:=decide ((s.length:Int)=12+(at1 s 2+at1 s 3)*8)) (b:=decide (at1 s 0=1)&&decide (at1 s 1<=3)) hl12 (by split<;>omega) rfl rfl
  rw[show decide (at1 s 0=1)=_ from hg8]at hp9
  have hz9:YN s=0:=by rw[<-hp9];exact h11
  obtain⟨hs1,⟨hs2,hs3⟩,hs4,hs5,hs6⟩:=QlJ hz9
  have hraw:=@Q2
  refine aU2 ?_
  refine Qp [12] mixed ?_
  refine dP 0 ?_
  refine dV 1 rfl (Qa rfl rfl rfl QP (1) om om rfl) (dQ 2 [[]] rfl (Qo rfl rfl QaP (λw h=>h.rd_blk (Mc:=[]) (b:=b2) (i:=1) aPk (X9 (l:=s) (k:=1) om) (by simp))) (dP 3 ?_))
  refine dP 4 ?_
  refine Qs (show _=Value.bool (Q2 s).pr from by rw[show Gx.bits .and .u8 ((s.getD 1 0).toNat:Int) 1=Gx.bits .and .u8 (at1 s 1) 1 from rfl,bit0 om,Bool.not_not];rfl) (dP 5 ?_)
  refine dV 6 rfl (Qa rfl rfl rfl QP (1) om om rfl) (dQ 7 [[]] rfl (Qo rfl rfl QaP (λw h=>h.rd_blk (Mc:=[]) (b:=b2) (i:=1) aPk (X9 (l:=s) (k:=1) om) (by simp))) (dP 8 ?_))
  refine dP 9 ?_
  refine Qs (show _=Value.bool (Q2 s).he from by rw[show Gx.bits .and .u8 ((s.getD 1 0).toNat:Int) 2=Gx.bits .and .u8 (at1 s 1) 2 from rfl,bit1 om,Bool.not_not];rfl) (dV 10 rfl (Qw (cs:=[_,_,_,_,_,_]) rfl rfl YU Xq rfl) (dH 11 rfl (Xf rfl Xq) (λb12 _=>dBa ?_)))
  refine dSt 12 ?_ (hl:=(by simp only[Qb,List.length_set,List.length_cons,List.length_nil,List.length_map];omega))
  refine dTu [] ?_
  refine dNi ?_
  refine aU ?_
  refine Qp [9,11] mixed ?_
  refine dP 0 ?_
  refine dV 1 rfl (QM _ _ 4 s.length rfl rfl QP ⟨_,_,rfl,rfl⟩ rfl om om) (dQ 2 [[],[]] rfl (Qh rfl QeM rfl (λw1 h1=>by have h9:=Qn9 w1 (X1 (some ⟨b2,0,none⟩) c3 4 1) (s.length-4) (c3-4) (s.drop 4) (by rw[List.map_drop];exact(h1.vl_blk aPk).drop (by rw[List.length_map];omega) om) (by rw[List.length_drop]) om om (by have hq9:c3<=maxLen:=(by assumption);simp only[maxLen]at hq9;omega);rw[Zh,Nat.add_zero]at h9;exact h9)) (dV 3 rfl (Qk rfl rfl XP Yx) ?_))
  try refine dWr ?_
  try refine dWr ?_
  refine dP 4 ?_
  refine dV 5 rfl (QM _ _ 8 s.length rfl rfl QP ⟨_,_,rfl,rfl⟩ rfl om om) (dQ 6 [[],[]] rfl (Qh rfl QeM rfl (λw1 h1=>by have h9:=Qn9 w1 (X1 (some ⟨b2,0,none⟩) c3 8 1) (s.length-8) (c3-8) (s.drop 8) (by rw[List.map_drop];exact(h1.vl_blk aPk).drop (by rw[List.length_map];omega) om) (by rw[List.length_drop]) om om (by have hq9:c3<=maxLen:=(by assumption);simp only[maxLen]at hq9;omega);rw[Zh,Nat.add_zero]at h9;exact h9)) (dV 7 rfl (Qk rfl rfl XP Yx) ?_))
  try refine dWr ?_
  try refine dWr ?_
  refine dFa 8 ?_
  refine dSt 9 ?_ (hl:=(by simp only[Qb,List.length_set,List.length_cons,List.length_nil,List.length_map];omega))
  refine dTu [11] ?_
  refine dFa 10 ?_
  refine dSt 11 ?_ (hl:=(by simp only[Qb,List.length_set,List.length_cons,List.length_nil,List.length_map];omega))
  refine dTu [] ?_
  refine dNi ?_
  refine aU4 ?_
  refine o_p (QM _ _ 12 s.length rfl rfl QP ⟨_,_,rfl,rfl⟩ rfl om om) rfl (oCh rfl (λw1 h1=>c102 w1 _ _ _) (λgc _=>aU2 ?_))
  refine Qg9 (G:=(Option Addr×Nat)×(Option Addr×Nat)) (Bs:=λg=>[.blk b12 28 6 [.int .i64 (Q2 s).ow,.int .i64 (Q2 s).gr,.bool (Q2 s).pr,.bool (Q2 s).he,.slice g.1.1 (Q2 s).en.length g.1.2,.slice g.2.1 (Q2 s).au.length g.2.2],.own (.slice g.1.1 (Q2 s).en.length g.1.2) 119 4 (Q2 s).en.length ((Q2 s).en.flatMap Ace.vals),.own (.slice g.2.1 (Q2 s).au.length g.2.2) 119 4 (Q2 s).au.length ((Q2 s).au.flatMap Ace.vals),.blk b7 3 1 [.int .i64 (at1 s 2)],.blk b2 5 c3 (s.map bv),.blk b1 28 6 [.int .i64 0,.int .i64 0,.bool false,.bool false,.slice none 0 0,.slice none 0 0],.blk gc.1 124 1 [.slice (X1 (some ⟨b2,0,none⟩) c3 12 1) (s.length-12) (c3-12)],.blk gc.2 3 1 [.int .i64 8]]) rfl rfl rfl QmF (λfid D l a9 w1 ob hob ha9 hw1=>?_) (λD x=>?_)
  ·skip
   refine(c150 w1 w [] (λ(k:Nat)(g:(Option Addr×Nat)×(Option Addr×Nat))=>.obj l ob::.obj D (.deferred (some []))::[.blk b12 28 6 [.int .i64 (Q2 s).ow,.int .i64 (Q2 s).gr,.bool (Q2 s).pr,.bool (Q2 s).he,.slice g.1.1 (enK s k).length g.1.2,.slice g.2.1 (auK s k).length g.2.2],.own (.slice g.1.1 (enK s k).length g.1.2) 119 4 (enK s k).length ((enK s k).flatMap Ace.vals),.own (.slice g.2.1 (auK s k).length g.2.2) 119 4 (auK s k).length ((auK s k).flatMap Ace.vals),.blk b7 3 1 [.int .i64 (at1 s 2)],.blk b2 5 c3 (s.map bv),.blk b1 28 6 [.int .i64 0,.int .i64 0,.bool false,.bool false,.slice none 0 0,.slice none 0 0],.blk gc.1 124 1 [.slice (X1 (some ⟨b2,0,none⟩) c3 12 1) (s.length-12) (c3-12)],.blk gc.2 3 1 [.int .i64 8]]) ((none,0),(none,0)) l gc.1 gc.2 ((at1 s 2).toNat+(at1 s 3).toNat) (X1 (some ⟨b2,0,none⟩) c3 12 1) (s.length-12) (c3-12) om om (by have hq9:c3<=maxLen:=(by assumption);simp only[maxLen]at hq9;omega) ?_ ?_ (λk g w2 hk h2=>?_)).mono λe w2 hx=>?_
   ·show HS w [] (_::_) w1;rw[QfK,QfB];exact((hw1.own_nil 119 4).own_nil 119 4).ent aEt
   ·exactλk g w2 h2=>⟨h2.rd_blk (i:=0) aPk rfl (by simp),h2.rd_blk (i:=0) aPk rfl (by simp)⟩
   rotate_left
   ·obtain⟨hx1,x,hx2⟩:=hx
    refine⟨hx1,x,?_⟩
    rw[<-QbL,<-QbP]
    exact hx2
   subst hob
   have hel:=QbY s k
   have hal:=QbO s k
   rw[QbB (b:=b2) (o:=0+12) (k:=8*k) (cap:=8*k+8) (QbB rfl om) om,show 0+12+8*k=0+(12+8*k)from om]
   refine QgA (fn:=Tryz.f55) (As1:=.obj D (.deferred (some []))::[.blk b12 28 6 [.int .i64 (Q2 s).ow,.int .i64 (Q2 s).gr,.bool (Q2 s).pr,.bool (Q2 s).he,.slice g.1.1 (enK s k).length g.1.2,.slice g.2.1 (auK s k).length g.2.2],.own (.slice g.1.1 (enK s k).length g.1.2) 119 4 (enK s k).length ((enK s k).flatMap Ace.vals),.own (.slice g.2.1 (auK s k).length g.2.2) 119 4 (auK s k).length ((auK s k).flatMap Ace.vals),.blk b7 3 1 [.int .i64 (at1 s 2)],.blk b2 5 c3 (s.map bv),.blk b1 28 6 [.int .i64 0,.int .i64 0,.bool false,.bool false,.slice none 0 0,.slice none 0 0],.blk gc.1 124 1 [.slice (X1 (some ⟨b2,0,none⟩) c3 12 1) (s.length-12) (c3-12)],.blk gc.2 3 1 [.int .i64 8]]) (L1:=[(9,.slice (some ⟨b2,0+(12+8*k),none⟩) 8 8),(8,.pointer (some ⟨b12,0,none⟩)),(5,.pointer (some ⟨b7,0,none⟩))]) h2 rfl (FR.round1 ha9 80 _ rfl) ?_ ?_
   ·skip
    refine aU3 ?_
    exact Qck () aSx (λw h=>h.ent aEt)
   skip
   refine aU9 ?_
   refine sCd rfl (λh13=>?_) λh13=>?_
   ·have hke:k<(at1 s 2).toNat:=by have hq:=h13;omega
    have hen:=Qfx hke
    have hau:=Qfc hke
    refine Qp [5,7] mixed ?_
    refine dFa 0 ?_
    refine dLd 1 [[],[]] ?_
    refine dP 2 ?_
    refine dQ 3 [[],[]] rfl (Qh rfl QgY rfl (λw1 h1=>by have h9:=QoS w1 (some ⟨b2,0+(12+8*k),none⟩) 8 8 ((s.drop (12+8*k)).take 8) (by rw[List.map_take,List.map_drop];exact Qef (h1.vl_blk aPk) rfl (by rw[List.length_map];omega)) (by rw[List.length_take,List.length_drop];omega) om om om;rw[Qdh]at h9;exact h9)) (dH 4 rfl (Qd (cs:=[_,_,_,_]) rfl rfl X0 XE rfl rfl rfl) (λb14 _=>dBa ?_))
    refine dH 5 rfl (QA [_,_,_,_] rfl rfl rfl X0 Tryz.underlying26 XE rfl aPk (QZ aPk) rfl (av1 _) om (by simp only[maxLen];omega)) (λb15 _=>dTu [7] ?_)
    refine dFa 6 ?_
    refine dSt 7 ?_ (hl:=(by simp only[Qb,List.length_set,List.length_cons,List.length_nil,List.length_map];omega))
    refine dTu [] ?_
    refine dNi ?_
    refine aU ?_
    exact Zd rfl aPk (λw h=>⟨(b15,g.2),rfl,trivial,by dsimp only;rw[hen,hau,List.length_append,Xz];exact h.ent aEt⟩)
   have hke:(at1 s 2).toNat<=k:=by have hq:=h13;omega
   have hen:=Qfs hke
   have hau:=QfA hke
   refine Qp [5,7] mixed ?_
   refine dFa 0 ?_
   refine dLd 1 [[],[]] ?_
   refine dP 2 ?_
   refine dQ 3 [[],[]] rfl (Qh rfl QgY rfl (λw1 h1=>by have h9:=QoS w1 (some ⟨b2,0+(12+8*k),none⟩) 8 8 ((s.drop (12+8*k)).take 8) (by rw[List.map_take,List.map_drop];exact Qef (h1.vl_blk aPk) rfl (by rw[List.length_map];omega)) (by rw[List.length_take,List.length_drop];omega) om om om;rw[Qdh]at h9;exact h9)) (dH 4 rfl (Qd (cs:=[_,_,_,_]) rfl rfl X0 XE rfl rfl rfl) (λb16 _=>dBa ?_))
   refine dH 5 rfl (QA [_,_,_,_] rfl rfl rfl X0 Tryz.underlying26 XE rfl aPk (QZ aPk) rfl (av1 _) om (by simp only[maxLen];omega)) (λb17 _=>dTu [7] ?_)
   refine dFa 6 ?_
   refine dSt 7 ?_ (hl:=(by simp only[Qb,List.length_set,List.length_cons,List.length_nil,List.length_map];omega))
   refine dTu [] ?_
   refine dNi ?_
   refine aU ?_
   exact Zd rfl aPk (λw h=>⟨(g.1,b17),rfl,trivial,by dsimp only;rw[hen,hau,List.length_append,Xz];exact h.ent aEt⟩)
  skip
  refine aU3 ?_
  refine Qi (L':=[(2,_),(3,_),(8,_)]) aSx (λ_ h=>h) ?_
  refine aU2 ?_
  refine oCq rfl (λw1 h1=>c82 w1 (Q2 s) x.1.1 x.1.2 x.2.1 x.2.2 (h1.rw_own av4 aPk rfl) (h1.rw_own av4 aPk rfl) (by rw[<-QbL,QbY];omega) (by rw[<-QbP,QbO];omega)) (aU7 ?_)
  refine sCd rfl (λh18=>?_) λh18=>?_
  ·have hn9:¬(Q9 (Q2 s)).2=0:=h18
   obtain⟨hE9,hD9⟩:=Qg0 hz9 hn9
   refine aU2 ?_
   refine o_p (Qw (cs:=[_,_,_,_,_,_]) rfl rfl YU Xq rfl) rfl (aU4 ?_)
   exact QaF (rs:=[.cell 2 28,.tmp 3]) rfl aPk (.cell rfl Xr aPk rfl (.tmp rfl (.nil))) (λw' h'=>⟨((none,0),(none,0)),by rw[hE9,hD9];rfl,trivial,by rw[hD9];exact((h'.own_nil 119 4).own_nil 119 4).ent aEt⟩)
  have hn9:(Q9 (Q2 s)).2=0:=h18
  obtain⟨hE9,hD9⟩:=Qde hz9 hn9
  refine aU7 ?_
  exact QaF (rs:=[.cell 2 28,.tmp 3]) rfl aPk (.cell rfl Xr aPk rfl (.tmp rfl (.nil))) (λw' h'=>⟨x,by rw[hE9,hD9];rfl,trivial,by rw[hD9];exact h'.ent aEt⟩)
 intro hg19
 have hs20:=hg19;try simp only[dN]at hs20
 refine dOf 19 43 hg19 ?_
 refine dOf 20 43 hg19 ?_
 refine dOf 21 43 hg19 ?_
 refine dOf 22 43 hg19 ?_
 refine dV 23 rfl (Q8 rfl rfl hg19 rfl) (dQ 24 [] rfl (Qh rfl QaL rfl (λw1 h1=>Qfw w1 _ _)) (dH 25 rfl (Qd (cs:=[_,_,_]) rfl rfl Xn XK rfl rfl rfl) (λb21 _=>dBa ?_)))
 refine dQ 26 [] rfl (Qh rfl Qgm rfl (λw1 h1=>f99 h1 aPk (by rfl) (by rfl) (by decide))) (dP 27 ?_)
 refine dNi ?_
 refine aU2 ?_
 refine Qi (L':=[(2,_),(3,_),(4,_),(5,_),(7,_)]) aSx (λ_ h=>h) ?_
 refine aU4 ?_
 refine sCd rfl (λh22=>?_) λh22=>?_
 ·have hp9:=Qb1 (s:=s) (mx:=(if at1 s 3>at1 s 2 then at1 s 3 else at1 s 2)) (c:=decide ((s.length:Int)=12+(at1 s 2+at1 s 3)*8)) (b:=decide (at1 s 0=1)&&decide (at1 s 1<=3)) hl12 (by split<;>omega) rfl rfl
  rw[show decide (at1 s 0=1)=_ from hg19]at hp9
  have hz9:¬YN s=0:=by rw[<-hp9];exact h22
  obtain⟨hE9,hD9⟩:=QaD hz9
  refine aU2 ?_
  refine o_p (Qw (cs:=[_,_,_,_,_,_]) rfl rfl YU Xq rfl) rfl (aU4 ?_)
  exact Qf (rs:=[.cell 2 28,.tmp 3]) rfl (.cell rfl Xr aPk rfl (.tmp rfl (.nil))) (λw' h'=>⟨((none,0),(none,0)),by rw[hE9,hD9,<-hp9];rfl,trivial,by rw[hD9];exact((h'.own_nil 119 4).own_nil 119 4).ent aEt⟩)
 have hp9:=Qb1 (s:=s) (mx:=(if at1 s 3>at1 s 2 then at1 s 3 else at1 s 2)) (c:=decide ((s.length:Int)=12+(at1 s 2+at1 s 3)*8)) (b:=decide (at1 s 0=1)&&decide (at1 s 1<=3)) hl12 (by split<;>omega) rfl rfl
 rw[show decide (at1 s 0=1)=_ from hg19]at hp9
 have hz9:YN s=0:=by rw[<-hp9];exact h22
 obtain⟨hs1,⟨hs2,hs3⟩,hs4,hs5,hs6⟩:=QlJ hz9
 have hraw:=@Q2
 refine aU2 ?_
 refine Qp [12] mixed ?_
 refine dP 0 ?_
 refine dV 1 rfl (Qa rfl rfl rfl QP (1) om om rfl) (dQ 2 [[]] rfl (Qo rfl rfl QaP (λw h=>h.rd_blk (Mc:=[]) (b:=b2) (i:=1) aPk (X9 (l:=s) (k:=1) om) (by simp))) (dP 3 ?_))
 refine dP 4 ?_
 refine Qs (show _=Value.bool (Q2 s).pr from by rw[show Gx.bits .and .u8 ((s.getD 1 0).toNat:Int) 1=Gx.bits .and .u8 (at1 s 1) 1 from rfl,bit0 om,Bool.not_not];rfl) (dP 5 ?_)
 refine dV 6 rfl (Qa rfl rfl rfl QP (1) om om rfl) (dQ 7 [[]] rfl (Qo rfl rfl QaP (λw h=>h.rd_blk (Mc:=[]) (b:=b2) (i:=1) aPk (X9 (l:=s) (k:=1) om) (by simp))) (dP 8 ?_))
 refine dP 9 ?_
 refine Qs (show _=Value.bool (Q2 s).he from by rw[show Gx.bits .and .u8 ((s.getD 1 0).toNat:Int) 2=Gx.bits .and .u8 (at1 s 1) 2 from rfl,bit1 om,Bool.not_not];rfl) (dV 10 rfl (Qw (cs:=[_,_,_,_,_,_]) rfl rfl YU Xq rfl) (dH 11 rfl (Xf rfl Xq) (λb23 _=>dBa ?_)))
 refine dSt 12 ?_ (hl:=(by simp only[Qb,List.length_set,List.length_cons,List.length_nil,List.length_map];omega))
 refine dTu [] ?_
 refine dNi ?_
 refine aU ?_
 refine Qp [9,11] mixed ?_
 refine dP 0 ?_
 refine dV 1 rfl (QM _ _ 4 s.length rfl rfl QP ⟨_,_,rfl,rfl⟩ rfl om om) (dQ 2 [[],[]] rfl (Qh rfl QeM rfl (λw1 h1=>by have h9:=Qn9 w1 (X1 (some ⟨b2,0,none⟩) c3 4 1) (s.length-4) (c3-4) (s.drop 4) (by rw[List.map_drop];exact(h1.vl_blk aPk).drop (by rw[List.length_map];omega) om) (by rw[List.length_drop]) om om (by have hq9:c3<=maxLen:=(by assumption);simp only[maxLen]at hq9;omega);rw[Zh,Nat.add_zero]at h9;exact h9)) (dV 3 rfl (Qk rfl rfl XP Yx) ?_))
 try refine dWr ?_
 try refine dWr ?_
 refine dP 4 ?_
 refine dV 5 rfl (QM _ _ 8 s.length rfl rfl QP ⟨_,_,rfl,rfl⟩ rfl om om) (dQ 6 [[],[]] rfl (Qh rfl QeM rfl (λw1 h1=>by have h9:=Qn9 w1 (X1 (some ⟨b2,0,none⟩) c3 8 1) (s.length-8) (c3-8) (s.drop 8) (by rw[List.map_drop];exact(h1.vl_blk aPk).drop (by rw[List.length_map];omega) om) (by rw[List.length_drop]) om om (by have hq9:c3<=maxLen:=(by assumption);simp only[maxLen]at hq9;omega);rw[Zh,Nat.add_zero]at h9;exact h9)) (dV 7 rfl (Qk rfl rfl XP Yx) ?_))
 try refine dWr ?_
 try refine dWr ?_
 refine dFa 8 ?_
 refine dSt 9 ?_ (hl:=(by simp only[Qb,List.length_set,List.length_cons,List.length_nil,List.length_map];omega))
 refine dTu [11] ?_
 refine dFa 10 ?_
 refine dSt 11 ?_ (hl:=(by simp only[Qb,List.length_set,List.length_cons,List.length_nil,List.length_map];omega))
 refine dTu [] ?_
 refine dNi ?_
 refine aU4 ?_
 refine o_p (QM _ _ 12 s.length rfl rfl QP ⟨_,_,rfl,rfl⟩ rfl om om) rfl (oCh rfl (λw1 h1=>c102 w1 _ _ _) (λgc _=>aU2 ?_))
 refine Qg9 (G:=(Option Addr×Nat)×(Option Addr×Nat)) (Bs:=λg=>[.blk b23 28 6 [.int .i64 (Q2 s).ow,.int .i64 (Q2 s).gr,.bool (Q2 s).pr,.bool (Q2 s).he,.slice g.1.1 (Q2 s).en.length g.1.2,.slice g.2.1 (Q2 s).au.length g.2.2],.own (.slice g.1.1 (Q2 s).en.length g.1.2) 119 4 (Q2 s).en.length ((Q2 s).en.flatMap Ace.vals),.own (.slice g.2.1 (Q2 s).au.length g.2.2) 119 4 (Q2 s).au.length ((Q2 s).au.flatMap Ace.vals),.blk b7 3 1 [.int .i64 (at1 s 2)],.blk b2 5 c3 (s.map bv),.blk b1 28 6 [.int .i64 0,.int .i64 0,.bool false,.bool false,.slice none 0 0,.slice none 0 0],.blk gc.1 124 1 [.slice (X1 (some ⟨b2,0,none⟩) c3 12 1) (s.length-12) (c3-12)],.blk gc.2 3 1 [.int .i64 8]]) rfl rfl rfl QmF (λfid D l a9 w1 ob hob ha9 hw1=>?_) (λD x=>?_)
 ·skip
  refine(c150 w1 w [] (λ(k:Nat)(g:(Option Addr×Nat)×(Option Addr×Nat))=>.obj l ob::.obj D (.deferred (some []))::[.blk b23 28 6 [.int .i64 (Q2 s).ow,.int .i64 (Q2 s).gr,.bool (Q2 s).pr,.bool (Q2 s).he,.slice g.1.1 (enK s k).length g.1.2,.slice g.2.1 (auK s k).length g.2.2],.own (.slice g.1.1 (enK s k).length g.1.2) 119 4 (enK s k).length ((enK s k).flatMap Ace.vals),.own (.slice g.2.1 (auK s k).length g.2.2) 119 4 (auK s k).length ((auK s k).flatMap Ace.vals),.blk b7 3 1 [.int .i64 (at1 s 2)],.blk b2 5 c3 (s.map bv),.blk b1 28 6 [.int .i64 0,.int .i64 0,.bool false,.bool false,.slice none 0 0,.slice none 0 0],.blk gc.1 124 1 [.slice (X1 (some ⟨b2,0,none⟩) c3 12 1) (s.length-12) (c3-12)],.blk gc.2 3 1 [.int .i64 8]]) ((none,0),(none,0)) l gc.1 gc.2 ((at1 s 2).toNat+(at1 s 3).toNat) (X1 (some ⟨b2,0,none⟩) c3 12 1) (s.length-12) (c3-12) om om (by have hq9:c3<=maxLen:=(by assumption);simp only[maxLen]at hq9;omega) ?_ ?_ (λk g w2 hk h2=>?_)).mono λe w2 hx=>?_
  ·show HS w [] (_::_) w1;rw[QfK,QfB];exact((hw1.own_nil 119 4).own_nil 119 4).ent aEt
  ·exactλk g w2 h2=>⟨h2.rd_blk (i:=0) aPk rfl (by simp),h2.rd_blk (i:=0) aPk rfl (by simp)⟩
  rotate_left
  ·obtain⟨hx1,x,hx2⟩:=hx
   refine⟨hx1,x,?_⟩
   rw[<-QbL,<-QbP]
   exact hx2
  subst hob
  have hel:=QbY s k
  have hal:=QbO s k
  rw[QbB (b:=b2) (o:=0+12) (k:=8*k) (cap:=8*k+8) (QbB rfl om) om,show 0+12+8*k=0+(12+8*k)from om]
  refine QgA (fn:=Tryz.f55) (As1:=.obj D (.deferred (some []))::[.blk b23 28 6 [.int .i64 (Q2 s).ow,.int .i64 (Q2 s).gr,.bool (Q2 s).pr,.bool (Q2 s).he,.slice g.1.1 (enK s k).length g.1.2,.slice g.2.1 (auK s k).length g.2.2],.own (.slice g.1.1 (enK s k).length g.1.2) 119 4 (enK s k).length ((enK s k).flatMap Ace.vals),.own (.slice g.2.1 (auK s k).length g.2.2) 119 4 (auK s k).length ((auK s k).flatMap Ace.vals),.blk b7 3 1 [.int .i64 (at1 s 2)],.blk b2 5 c3 (s.map bv),.blk b1 28 6 [.int .i64 0,.int .i64 0,.bool false,.bool false,.slice none 0 0,.slice none 0 0],.blk gc.1 124 1 [.slice (X1 (some ⟨b2,0,none⟩) c3 12 1) (s.length-12) (c3-12)],.blk gc.2 3 1 [.int .i64 8]]) (L1:=[(9,.slice (some ⟨b2,0+(12+8*k),none⟩) 8 8),(8,.pointer (some ⟨b23,0,none⟩)),(5,.pointer (some ⟨b7,0,none⟩))]) h2 rfl (FR.round1 ha9 80 _ rfl) ?_ ?_
  ·skip
   refine aU3 ?_
   exact Qck () aSx (λw h=>h.ent aEt)
  skip
  refine aU9 ?_
  refine sCd rfl (λh24=>?_) λh24=>?_
  ·have hke:k<(at1 s 2).toNat:=by have hq:=h24;omega
   have hen:=Qfx hke
   have hau:=Qfc hke
   refine Qp [5,7] mixed ?_
   refine dFa 0 ?_
   refine dLd 1 [[],[]] ?_
   refine dP 2 ?_
   refine dQ 3 [[],[]] rfl (Qh rfl QgY rfl (λw1 h1=>by have h9:=QoS w1 (some ⟨b2,0+(12+8*k),none⟩) 8 8 ((s.drop (12+8*k)).take 8) (by rw[List.map_take,List.map_drop];exact Qef (h1.vl_blk aPk) rfl (by rw[List.length_map];omega)) (by rw[List.length_take,List.length_drop];omega) om om om;rw[Qdh]at h9;exact h9)) (dH 4 rfl (Qd (cs:=[_,_,_,_]) rfl rfl X0 XE rfl rfl rfl) (λb25 _=>dBa ?_))
   refine dH 5 rfl (QA [_,_,_,_] rfl rfl rfl X0 Tryz.underlying26 XE rfl aPk (QZ aPk) rfl (av1 _) om (by simp only[maxLen];omega)) (λb26 _=>dTu [7] ?_)
   refine dFa 6 ?_
   refine dSt 7 ?_ (hl:=(by simp only[Qb,List.length_set,List.length_cons,List.length_nil,List.length_map];omega))
   refine dTu [] ?_
   refine dNi ?_
   refine aU ?_
   exact Zd rfl aPk (λw h=>⟨(b26,g.2),rfl,trivial,by dsimp only;rw[hen,hau,List.length_append,Xz];exact h.ent aEt⟩)
  have hke:(at1 s 2).toNat<=k:=by have hq:=h24;omega
  have hen:=Qfs hke
  have hau:=QfA hke
  refine Qp [5,7] mixed ?_
  refine dFa 0 ?_
  refine dLd 1 [[],[]] ?_
  refine dP 2 ?_
  refine dQ 3 [[],[]] rfl (Qh rfl QgY rfl (λw1 h1=>by have h9:=QoS w1 (some ⟨b2,0+(12+8*k),none⟩) 8 8 ((s.drop (12+8*k)).take 8) (by rw[List.map_take,List.map_drop];exact Qef (h1.vl_blk aPk) rfl (by rw[List.length_map];omega)) (by rw[List.length_take,List.length_drop];omega) om om om;rw[Qdh]at h9;exact h9)) (dH 4 rfl (Qd (cs:=[_,_,_,_]) rfl rfl X0 XE rfl rfl rfl) (λb27 _=>dBa ?_))
  refine dH 5 rfl (QA [_,_,_,_] rfl rfl rfl X0 Tryz.underlying26 XE rfl aPk (QZ aPk) rfl (av1 _) om (by simp only[maxLen];omega)) (λb28 _=>dTu [7] ?_)
  refine dFa 6 ?_
  refine dSt 7 ?_ (hl:=(by simp only[Qb,List.length_set,List.length_cons,List.length_nil,List.length_map];omega))
  refine dTu [] ?_
  refine dNi ?_
  refine aU ?_
  exact Zd rfl aPk (λw h=>⟨(g.1,b28),rfl,trivial,by dsimp only;rw[hen,hau,List.length_append,Xz];exact h.ent aEt⟩)
 skip
 refine aU3 ?_
 refine Qi (L':=[(2,_),(3,_),(8,_)]) aSx (λ_ h=>h) ?_
 refine aU2 ?_
 refine oCq rfl (λw1 h1=>c82 w1 (Q2 s) x.1.1 x.1.2 x.2.1 x.2.2 (h1.rw_own av4 aPk rfl) (h1.rw_own av4 aPk rfl) (by rw[<-QbL,QbY];omega) (by rw[<-QbP,QbO];omega)) (aU7 ?_)
 refine sCd rfl (λh29=>?_) λh29=>?_
 ·have hn9:¬(Q9 (Q2 s)).2=0:=h29
  obtain⟨hE9,hD9⟩:=Qg0 hz9 hn9
  refine aU2 ?_
  refine o_p (Qw (cs:=[_,_,_,_,_,_]) rfl rfl YU Xq rfl) rfl (aU4 ?_)
  exact QaF (rs:=[.cell 2 28,.tmp 3]) rfl aPk (.cell rfl Xr aPk rfl (.tmp rfl (.nil))) (λw' h'=>⟨((none,0),(none,0)),by rw[hE9,hD9];rfl,trivial,by rw[hD9];exact((h'.own_nil 119 4).own_nil 119 4).ent aEt⟩)
 have hn9:(Q9 (Q2 s)).2=0:=h29
 obtain⟨hE9,hD9⟩:=Qde hz9 hn9
 refine aU7 ?_
 exact QaF (rs:=[.cell 2 28,.tmp 3]) rfl aPk (.cell rfl Xr aPk rfl (.tmp rfl (.nil))) (λw' h'=>⟨x,by rw[hE9,hD9];rfl,trivial,by rw[hD9];exact h'.ent aEt⟩)
instance:TFn Tryz.prog 14:=⟨by kernel_rfl⟩
set_option maxHeartbeats 4000000 in
theorem c22(w:World)(s:List UInt8)(hm:s.length<=1000000):CE 22 #[.string (bs s)] w [] (λg:(Option Addr×Nat)×(Option Addr×Nat)=>.tuple #[.agg #[.int .i64 (Yf s).ow,.int .i64 (Yf s).gr,.bool (Yf s).pr,.bool (Yf s).he,.slice g.1.1 (Yf s).en.length g.1.2,.slice g.2.1 (Yf s).au.length g.2.2],.int .i64 (YT s)]) (λg=>True) λg=>[.own (.slice g.1.1 (Yf s).en.length g.1.2) 119 4 (Yf s).en.length ((Yf s).en.flatMap Ace.vals),.own (.slice g.2.1 (Yf s).au.length g.2.2) 119 4 (Yf s).au.length ((Yf s).au.flatMap Ace.vals)]:=by
 have hb0:=Zm s 0
 have hb1:=Zm s 1
 have hb2:=Zm s 2
 have hb3:=Zm s 3
 have hx4:=Qaj s 4
 have hx8:=Qaj s 8
 refine eN1 Tryz.func22 Tryz.ntmps22 ?_
 refine aU2 ?_
 refine oAl (λb1 _=>?_) Xq
 refine aU4 ?_
 refine o_p (Qw (cs:=[_,_,_,_,_,_]) rfl rfl YU Xq rfl) rfl (oAl (λb2 _=>?_) Xq)
 refine aU6 ?_
 refine o_p (QJ rfl rfl Tryz.underlying9) rfl (aU2 ?_)
 refine sCd rfl (λh3=>?_) λh3=>?_
 ·have hl12:s.length<12:=by omega
  have hz9:YN s=10:=by unfold YN;rw[if_pos hl12]
  obtain⟨hE9,hD9⟩:=QaD (s:=s) (by rw[hz9];decide)
  refine aU6 ?_
  exact Qf (rs:=[.cell 2 28,.tmp 3]) rfl (.cell rfl Xr aPk rfl (.tmp rfl (.nil))) (λw' h'=>⟨((none,0),(none,0)),by rw[hE9,hD9,hz9];rfl,trivial,by rw[hD9];exact((h'.own_nil 119 4).own_nil 119 4).ent aEt⟩)
 have hl12:¬s.length<12:=om
 refine aU4 ?_
 refine oCq rfl (λw1 h1=>by have h9:=c60 w1 s 2 1 om om om;rw[Qdn]at h9;exact h9) (aU ?_)
 refine oCq rfl (λw1 h1=>by have h9:=c60 w1 s 3 1 om om om;rw[Qdn]at h9;exact h9) (aU9 ?_)
 refine oOr 3 24 27 rfl
  (λhg4 _=>by
   refine aU4 ?_
   exact oJf 3 27)
  (λhg6 _=>by
   refine aU2 ?_
   exact oJt 3 27) ?_
 refine aU ?_
 refine sCd rfl (λh8=>?_) λh8=>?_
 ·have h16:¬(at1 s 2<=16/\at1 s 3<=16):=by have hq:=h8;omega
  have hz9:YN s=8:=by unfold YN;rw[if_neg hl12,if_neg h16]
  obtain⟨hE9,hD9⟩:=QaD (s:=s) (by rw[hz9];decide)
  refine aU6 ?_
  exact Qf (rs:=[.cell 2 28,.tmp 3]) rfl (.cell rfl Xr aPk rfl (.tmp rfl (.nil))) (λw' h'=>⟨((none,0),(none,0)),by rw[hE9,hD9,hz9];rfl,trivial,by rw[hD9];exact((h'.own_nil 119 4).own_nil 119 4).ent aEt⟩)
 have h16:at1 s 2<=16/\at1 s 3<=16:=by have hq:=h8;omega
 refine aU5 ?_
 refine o_p (QJ rfl rfl Tryz.underlying9) rfl (aT3 ?_)
 refine aT ?_
 refine aT ?_
 refine aU2 ?_
 refine sCd rfl (λh9=>?_) λh9=>?_
 ·have hsl:¬(s.length:Int)=12+(at1 s 2+at1 s 3)*8:=by have hq:=h9;omega
  have hz9:YN s=10:=by unfold YN;rw[if_neg hl12,if_pos h16,if_neg hsl]
  obtain⟨hE9,hD9⟩:=QaD (s:=s) (by rw[hz9];decide)
  refine aU6 ?_
  exact Qf (rs:=[.cell 2 28,.tmp 3]) rfl (.cell rfl Xr aPk rfl (.tmp rfl (.nil))) (λw' h'=>⟨((none,0),(none,0)),by rw[hE9,hD9,hz9];rfl,trivial,by rw[hD9];exact((h'.own_nil 119 4).own_nil 119 4).ent aEt⟩)
 have hsl:(s.length:Int)=12+(at1 s 2+at1 s 3)*8:=by have hq:=h9;omega
 refine aU4 ?_
 refine oCq rfl (λw1 h1=>by have h9:=c60 w1 s 1 1 om om om;rw[Qdn]at h9;exact h9) (aU6 ?_)
 refine oCq rfl (λw1 h1=>by have h9:=c60 w1 s 0 1 om om om;rw[Qdn]at h9;exact h9) (aU2 ?_)
 refine oOr 3 43 46 rfl
  (λhg10 _=>by
   refine aU4 ?_
   exact oJf 3 46)
  (λhg12 _=>by
   refine aU2 ?_
   exact oJt 3 46) ?_
 refine aU ?_
 refine sCd rfl (λh14=>?_) λh14=>?_
 ·have hfm:¬(at1 s 0=1/\at1 s 1<=3):=by have hq:=h14;omega
  have hz9:YN s=3:=by unfold YN;rw[if_neg hl12,if_pos h16,if_pos hsl,if_neg hfm]
  obtain⟨hE9,hD9⟩:=QaD (s:=s) (by rw[hz9];decide)
  refine aU ?_
  refine Qi (L':=[(0,_),(2,_),(3,_),(4,_),(5,_),(6,_),(7,_)]) aSx (λ_ h=>h) ?_
  refine aU5 ?_
  exact Qf (rs:=[.cell 2 28,.tmp 3]) rfl (.cell rfl Xr aPk rfl (.tmp rfl (.nil))) (λw' h'=>⟨((none,0),(none,0)),by rw[hE9,hD9,hz9];rfl,trivial,by rw[hD9];exact((h'.own_nil 119 4).own_nil 119 4).ent aEt⟩)
 have hfm:at1 s 0=1/\at1 s 1<=3:=by have hq:=h14;omega
 have hz9:YN s=0:=by unfold YN;rw[if_neg hl12,if_pos h16,if_pos hsl,if_pos hfm]
 refine aU2 ?_
 refine Qi (L':=[(0,_),(2,_),(3,_),(4,_),(5,_),(6,_),(7,_)]) aSx (λ_ h=>h) ?_
 refine aU2 ?_
 refine oCq rfl (λw1 h1=>by have h9:=c60 w1 s 4 4 om om om;rw[Qi9]at h9;exact h9) (aU ?_)
 refine oCq rfl (λw1 h1=>by have h9:=c60 w1 s 8 4 om om om;rw[Qi9]at h9;exact h9) (aU ?_)
 refine o_p (Qc3 rfl rfl rfl om om) rfl (aU ?_)
 refine Ql (show _=Value.bool (Q2 s).pr from rfl) (aU ?_)
 refine o_p (Qa5 rfl rfl rfl om om om) rfl (aU ?_)
 refine Ql (show _=Value.bool (Q2 s).he from by show Value.bool (decide (at1 s 1/2=1))=Value.bool (decide (at1 s 1/2%2=1));congr 1;exact decide_eq_decide.2 om) (o_p (Qw (cs:=[_,_,_,_,_,_]) rfl rfl YU Xq rfl) rfl (oAl (λb15 _=>?_) Xq))
 refine aU8 ?_
 refine Qi (L':=[(0,_),(2,_),(3,_),(4,_),(5,_),(6,_),(8,_),(9,_)]) aSx (λ_ h=>h) ?_
 refine Qt (α:=Nat×(Option Addr×Nat)×(Option Addr×Nat)) [9,10,11,59,60,61,62,63,64,65,66,67,68,69,70,71,72,73,74,75,76,77,78,79,80,81,82,83,84,85,86,87,88,89,90,91,92,93,94,95,96,97,98,99] (λy=>[(9,.int .i64 (y.1:Int))]) (λy=>HS w [] [.blk b15 28 6 [.int .i64 (Q2 s).ow,.int .i64 (Q2 s).gr,.bool (Q2 s).pr,.bool (Q2 s).he,.slice y.2.1.1 (enK s y.1).length y.2.1.2,.slice y.2.2.1 (auK s y.1).length y.2.2.2],.own (.slice y.2.1.1 (enK s y.1).length y.2.1.2) 119 4 (enK s y.1).length ((enK s y.1).flatMap Ace.vals),.own (.slice y.2.2.1 (auK s y.1).length y.2.2.2) 119 4 (auK s y.1).length ((auK s y.1).flatMap Ace.vals),.blk b2 28 6 [.int .i64 0,.int .i64 0,.bool false,.bool false,.slice none 0 0,.slice none 0 0],.blk b1 28 6 [.int .i64 0,.int .i64 0,.bool false,.bool false,.slice none 0 0,.slice none 0 0]]) (λy=>y.1<=((at1 s 2).toNat+(at1 s 3).toNat)) (λy=>((at1 s 2).toNat+(at1 s 3).toNat)-y.1) (0,(none,0),(none,0)) (Nat.zero_le _) aSx (λw h=>by dsimp only;rw[QfK,QfB];exact((h.own_nil 119 4).own_nil 119 4).ent aEt) (λ⟨k,ga,gb9⟩hk1=>?_)
 dsimp only
 simp only[]at hk1
 refine aT7 ?_
 refine aU2 ?_
 refine sCd rfl (λh16=>?_) λh16=>?_
 ·have hk:k<((at1 s 2).toNat+(at1 s 3).toNat):=by omega
  have hel:=QbY s k
  have hal:=QbO s k
  refine aT7 ?_
  refine aT ?_
  refine Ql (show _=Value.int .i64 ((12+8*k:Nat):Int)from by congr 1) (aU6 ?_)
  refine oCq rfl (λw1 h1=>by have h9:=c60 w1 s (12+8*k) 1 om om om;rw[Qdn]at h9;exact h9) (aT3 ?_)
  refine Ql (show _=Value.int .i64 ((12+8*k+1:Nat):Int)from by congr 1) (oCq rfl (λw1 h1=>by have h9:=c60 w1 s (12+8*k+1) 1 om om om;rw[Qdn]at h9;exact h9) (aT3 ?_))
  refine Ql (show _=Value.int .i64 ((12+8*k+2:Nat):Int)from by congr 1) (oCq rfl (λw1 h1=>by have h9:=c60 w1 s (12+8*k+2) 2 om om om;rw[Qqd]at h9;exact h9) (aT3 ?_))
  refine Ql (show _=Value.int .i64 ((12+8*k+4:Nat):Int)from by congr 1) (oCq rfl (λw1 h1=>by have h9:=c60 w1 s (12+8*k+4) 4 om om om;rw[Qi9]at h9;exact h9) (o_p (Qw (cs:=[_,_,_,_]) rfl rfl QgV XE rfl) rfl (oAl (λb17 _=>?_) XE)))
  refine aU3 ?_
  refine Qi (L':=[(0,_),(2,_),(3,_),(4,_),(5,_),(6,_),(8,_),(9,_),(11,_)]) aSx (λ_ h=>h) ?_
  refine aU5 ?_
  refine sCd rfl (λh18=>?_) λh18=>?_
  ·have hke:k<(at1 s 2).toNat:=by have hq:=h18;omega
   have hen:=Qfx hke
   have hau:=Qfc hke
   refine aU4 ?_
   refine o_h (Qd (cs:=[_,_,_,_]) rfl rfl X0 XE rfl rfl rfl) rfl (λb19 _=>o_h (QA [_,_,_,_] rfl rfl rfl X0 Tryz.underlying26 XE rfl aPk (QZ aPk) rfl (av1 (Ya s (12+8*k))) om (by simp only[maxLen];omega)) rfl (λb20 _=>aT7 ?_))
   refine aU2 ?_
   exact QQ (k+1,b20,gb9) (by(try simp only[]);omega) (by(try simp only[]);omega) aSx (λw h=>by dsimp only;rw[hen,hau,List.length_append,Xz];exact h.ent aEt)
  have hke:(at1 s 2).toNat<=k:=by have hq:=h18;omega
  have hen:=Qfs hke
  have hau:=QfA hke
  refine aU4 ?_
  refine o_h (Qd (cs:=[_,_,_,_]) rfl rfl X0 XE rfl rfl rfl) rfl (λb21 _=>o_h (QA [_,_,_,_] rfl rfl rfl X0 Tryz.underlying26 XE rfl aPk (QZ aPk) rfl (av1 (Ya s (12+8*k))) om (by simp only[maxLen];omega)) rfl (λb22 _=>aT7 ?_))
  refine aU2 ?_
  exact QQ (k+1,ga,b22) (by(try simp only[]);omega) (by(try simp only[]);omega) aSx (λw h=>by dsimp only;rw[hen,hau,List.length_append,Xz];exact h.ent aEt)
 obtain rfl:k=((at1 s 2).toNat+(at1 s 3).toNat):=om
 rw[QbL,QbP]
 refine Qj rfl ?_
 refine aU4 ?_
 refine oCq rfl (λw1 h1=>c14 w1 (Q2 s) ga.1 ga.2 gb9.1 gb9.2 (h1.rw_own av4 aPk rfl) (h1.rw_own av4 aPk rfl) (by rw[<-QbL,QbY];omega) (by rw[<-QbP,QbO];omega)) (aU7 ?_)
 refine sCd rfl (λh23=>?_) λh23=>?_
 ·have hn9:¬(Q9 (Q2 s)).2=0:=h23
  obtain⟨hE9,hD9⟩:=Qg0 hz9 hn9
  refine aU7 ?_
  exact Qf (rs:=[.cell 2 28,.tmp 3]) rfl (.cell rfl Xr aPk rfl (.tmp rfl (.nil))) (λw' h'=>⟨((none,0),(none,0)),by rw[hE9,hD9];rfl,trivial,by rw[hD9];exact((h'.own_nil 119 4).own_nil 119 4).ent aEt⟩)
 have hn9:(Q9 (Q2 s)).2=0:=h23
 obtain⟨hE9,hD9⟩:=Qde hz9 hn9
 refine aU7 ?_
 exact Qf (rs:=[.cell 2 28,.tmp 3]) rfl (.cell rfl Xr aPk rfl (.tmp rfl (.nil))) (λw' h'=>⟨(ga,gb9),by rw[hE9,hD9];rfl,trivial,by rw[hD9];exact h'.ent aEt⟩)
instance:TFn Tryz.prog 227:=⟨by kernel_rfl⟩
instance:TFn Tryz.prog 210:=⟨by kernel_rfl⟩
instance:TFd Tryz.prog 72 1 1 9:=⟨by kernel_rfl⟩
instance:TFn Tryz.prog 116:=⟨by kernel_rfl⟩
instance:TFd Tryz.prog 63 1 1 61:=⟨by kernel_rfl⟩
theorem Qkb:tsz Tryz.prog 61=some (1,false):=by kernel_rfl
instance:TSz Tryz.prog 61 1 false:=⟨Qkb⟩
instance:TFn Tryz.prog 154:=⟨by kernel_rfl⟩
theorem Qo2{m:Int}(h:0<=m/\m<=1000000000000):Value.int .i64 (IntKind.i64.wrap ((-m).tdiv 16))=.int .i64 (-(m/16)):=by
  rw[QoX h.1];exact Qh8 om om
theorem Qo7(w:World)(m:Int)(hm:0<=m/\m<=1000000000000):CR 116 #[.int .i64 m] w (.int .i64 (upT m)):=by
 refine eN1 Tryz.func116 Tryz.ntmps116 ?_
 refine aT8 ?_
 refine aT ?_
 refine o_p (Qa5 rfl rfl rfl om om om) rfl (aT ?_)
 refine aU2 ?_
 exact rV (h:=by unfold upT;rw[show m+16-1=m+15 by omega];rfl)
theorem c227(w:World)(m:Int)(hm:0<=m/\m<=1000000000000):CR 227 #[.int .i64 (-m),.int .i64 16] w (.int .i64 (-((m+15)/16))):=by
 refine eN2 Tryz.func227 Tryz.ntmps227 ?_
 refine aU8 ?_
 refine o_p (QpB rfl rfl rfl (by decide)) rfl (Ql (Qo2 hm) (aU7 ?_))
 refine o_p (QpF rfl rfl rfl (by decide)) rfl (Ql (show _=Value.int .i64 (-(m%16))from by rw[Qoy hm.1]) (aU2 ?_))
 refine sCd rfl (λh1=>?_) λh1=>?_
 ·refine aT3 ?_
  refine aU7 ?_
  exact rV (h:=by simp only[QR];congr 2;omega)
 refine aU6 ?_
 exact rV (h:=by simp only[QR];congr 2;omega)
theorem c210(w:World)(m:Int)(hm:0<=m/\m<=1000000000000):CR 210 #[.int .i64 m,.int .i64 16] w (.int .i64 ((m+15)/16)):=by
 refine eN2 Tryz.func210 Tryz.ntmps210 ?_
 refine aT8 ?_
 refine Ql (show _=Value.int .i64 (-m)from by rw[Int.zero_sub]) (aU ?_)
 refine oCq rfl (λw1 h1=>c227 w1 m hm) (aT ?_)
 refine Ql (show _=Value.int .i64 ((m+15)/16)from by congr 1;omega) (aU2 ?_)
 exact rV
theorem c154(w:World)(m:Int)(hm:0<=m/\m<=1000000000000):CR 154 #[.int .i64 m] w (.int .i64 (upT m)):=by
 refine eN1 Tryz.func154 Tryz.ntmps154 ?_
 refine aU7 ?_
 refine oCq rfl (λw1 h1=>c210 w1 m hm) (aT ?_)
 refine aU2 ?_
 exact rV
theorem c70(w:World)(a:Option Addr)(cap:Nat)(l:List SItm)(hs:Rw SItm.vals 2 w [] a l)(hm:l.length<=100000)(hb:∀x∈l,x.by_.length<=100000):CE 70 #[.slice a l.length cap] w [] (λg:Option Addr×Nat=>.tuple #[.slice g.1 l.length g.2,.int .i64 (QF l).2]) (λg=>True) λg=>[.own (.slice g.1 l.length g.2) 3 1 l.length ((QF l).1.map nv)]:=by
 refine eN1 Tryz.func70 Tryz.ntmps70 ?_
 refine aU21 ?_
 refine Qt (α:=Nat×Option Addr×Nat) [4,5,7,10,11,12,13,14,15,16,17,18,19,20,21,22,23,24,25] (λy=>[(10,.int .i64 (y.1:Int)),(4,.int .i64 (QF (l.take y.1)).2),(5,.slice y.2.1 (QF (l.take y.1)).1.length y.2.2)]) (λy=>HS w [] [.own (.slice y.2.1 (QF (l.take y.1)).1.length y.2.2) 3 1 (QF (l.take y.1)).1.length ((QF (l.take y.1)).1.map nv)]) (λy=>y.1<=l.length) (λy=>l.length-y.1) (0,none,0) (Nat.zero_le _) aSx (λw h=>(h.own_nil 3 1).ent aEt) (λ⟨k,ga,gc⟩hk1=>?_)
 dsimp only
 simp only[]at hk1
 refine aU5 ?_
 refine sCd rfl (λh1=>?_) λh1=>?_
 ·have hk:k<l.length:=by omega
  have hst:=Yv hk
  have hpl:=QcP k l om
  have hpb:=Qct hb k om
  have hb9:(nth l k).by_.length<=100000:=hb _ (XO hk)
  have hpu:0<=upT (16+((nth l k).by_.length:Int))/\upT (16+((nth l k).by_.length:Int))<=100032:=by unfold upT;omega
  refine aU5 ?_
  refine o_p (Qa rfl rfl rfl XY (k) om om (Rw.some hs om)) rfl (o_q (Qm _ rfl rfl Qaa rfl (Rw.rd hs om)) rfl (oAl (λb2 _=>?_) Yq))
  refine aU6 ?_
  refine o_h (Qd (cs:=[_]) rfl rfl QD Ye rfl rfl rfl) rfl (λb3 _=>o_h (QA _ rfl rfl rfl QD Tryz.underlying65 Ye rfl aPk (QZ aPk) rfl (by intro u hu;simp only[List.mem_cons,List.mem_nil_iff,or_false]at hu;subst hu;rfl) om (by simp only[maxLen];omega)) rfl (λb4 _=>aU6 ?_))
  refine o_p (QJ rfl rfl Tryz.underlying9) rfl (aT ?_)
  refine oCq rfl (λw1 h1=>Qo7 w1 _ om) (aT ?_)
  refine aT5 ?_
  refine aU2 ?_
  exact QQ (k+1,b4.1,b4.2) (by(try simp only[]);omega) (by(try simp only[]);omega) (by dsimp only;rw[hst,List.length_append];exact aSx) (λw h=>by dsimp only;rw[hst,List.length_append,List.map_append];exact h.ent aEt)
 obtain rfl:k=l.length:=om
 rw[List.take_length]
 refine Qj rfl ?_
 refine aU7 ?_
 exact Qf (rs:=[.tmp 2,.tmp 3]) rfl (.tmp rfl (.tmp rfl (.nil))) (λw' h'=>⟨(ga,gc),by rw[Zb];rfl,trivial,by have h2:=h';rw[Zb]at h2;exact h2.ent aEt⟩)
theorem c117(w:World)(nx:Int)(a:Option Addr)(cap:Nat)(l:List SItm)(hs:Rw SItm.vals 2 w [] a l)(hm:l.length<=100000)(hb:∀x∈l,x.by_.length<=100000):CE 117 #[.agg #[.int .i64 nx,.slice a l.length cap]] w [] (λg:Option Addr×Nat=>.tuple #[.slice g.1 l.length g.2,.int .i64 (QF l).2]) (λg=>True) λg=>[.own (.slice g.1 l.length g.2) 3 1 l.length ((QF l).1.map nv)]:=by
 refine eN1 Tryz.func117 Tryz.ntmps117 ?_
 refine aU2 ?_
 refine oBx λb1 _=>?_
 refine aU17 ?_
 refine Qt (α:=Nat×Option Addr×Nat) [4,5,6,7,8,9,10,11,12,13,14,15,16,17,18,19,20,21,22,23,24,25,26,27,28] (λy=>[(6,.int .i64 (y.1:Int)),(4,.int .i64 (QF (l.take y.1)).2),(5,.slice y.2.1 (QF (l.take y.1)).1.length y.2.2)]) (λy=>HS w [] [.own (.slice y.2.1 (QF (l.take y.1)).1.length y.2.2) 3 1 (QF (l.take y.1)).1.length ((QF (l.take y.1)).1.map nv),.blk b1 63 2 [.int .i64 nx,.slice a l.length cap]]) (λy=>y.1<=l.length) (λy=>l.length-y.1) (0,none,0) (Nat.zero_le _) aSx (λw h=>(h.own_nil 3 1).ent aEt) (λ⟨k,ga,gc⟩hk1=>?_)
 dsimp only
 simp only[]at hk1
 refine aU9 ?_
 refine sCd rfl (λh2=>?_) λh2=>?_
 ·have hk:k<l.length:=by omega
  have hst:=Yv hk
  have hpl:=QcP k l om
  have hpb:=Qct hb k om
  have hb9:(nth l k).by_.length<=100000:=hb _ (XO hk)
  have hpu:0<=upT (16+((nth l k).by_.length:Int))/\upT (16+((nth l k).by_.length:Int))<=100032:=by unfold upT;omega
  refine aU7 ?_
  refine o_h (Qd (cs:=[_]) rfl rfl QD Ye rfl rfl rfl) rfl (λb3 _=>o_h (QA _ rfl rfl rfl QD Tryz.underlying65 Ye rfl aPk (QZ aPk) rfl (by intro u hu;simp only[List.mem_cons,List.mem_nil_iff,or_false]at hu;subst hu;rfl) om (by simp only[maxLen];omega)) rfl (λb4 _=>aU7 ?_))
  refine o_p (Qa rfl rfl rfl XY (k) om om (Rw.some hs om)) rfl (aU ?_)
  refine o_q (Qc rfl rfl ZR ((hs.rdj 1 hk rfl))) rfl (o_p (QJ rfl rfl Tryz.underlying9) rfl (aT ?_))
  refine oCq rfl (λw1 h1=>c154 w1 _ om) (aT ?_)
  refine aT6 ?_
  refine aU2 ?_
  exact QQ (k+1,b4.1,b4.2) (by(try simp only[]);omega) (by(try simp only[]);omega) (by dsimp only;rw[hst,List.length_append];exact aSx) (λw h=>by dsimp only;rw[hst,List.length_append,List.map_append];exact h.ent aEt)
 obtain rfl:k=l.length:=om
 rw[List.take_length]
 refine Qj rfl ?_
 refine aU7 ?_
 exact Qf (rs:=[.tmp 2,.tmp 3]) rfl (.tmp rfl (.tmp rfl (.nil))) (λw' h'=>⟨(ga,gc),by rw[Zb];rfl,trivial,by have h2:=h';rw[Zb]at h2;exact h2.ent aEt⟩)
instance:TFd Tryz.prog 72 0 0 3:=⟨by kernel_rfl⟩
instance:TFd Tryz.prog 63 0 0 3:=⟨by kernel_rfl⟩
theorem Qgc:QE Tryz.prog 52=true:=by kernel_rfl
instance:TFn Tryz.prog 52:=⟨Qgc⟩
theorem Z2:QE Tryz.prog 42=true:=by kernel_rfl
instance:TFn Tryz.prog 42:=⟨Z2⟩
theorem Qa2:QE Tryz.prog 38=true:=by kernel_rfl
instance:TFn Tryz.prog 38:=⟨Qa2⟩
instance:TFn Tryz.prog 55:=⟨by kernel_rfl⟩
theorem QeB:tsz Tryz.prog 225=some (1,false):=by kernel_rfl
instance:TSz Tryz.prog 225 1 false:=⟨QeB⟩
theorem QqK:QE Tryz.prog 159=true:=by kernel_rfl
theorem QpS:Xs Tryz.prog 225=some [.map none]:=by kernel_rfl
theorem QpO:QE Tryz.prog 158=true:=by kernel_rfl
instance:TFn Tryz.prog 70:=⟨by kernel_rfl⟩
theorem QcV:tsz Tryz.prog 63=some (2,true):=by kernel_rfl
instance:TSz Tryz.prog 63 2 true:=⟨QcV⟩
instance:TFn Tryz.prog 118:=⟨by kernel_rfl⟩
theorem c159(w:World)(r bS bM i:Nat)(ks:List (List UInt8))(nx:Int)(a:Option Addr)(cap:Nat)(l:List SItm)(hw:HS w [r] [.mp r KS (ks)] w)(hA1:Rd w [r] bS 0 (.int .i64 nx))(hA2:Rd w [r] bS 1 (.slice a l.length cap))(hA5:Rd w [r] bM 0 (.map (some r)))(hs:Rw SItm.vals 2 w [r] a l)(hm:l.length<=100000)(hb:∀x∈l,x.by_.length<=100000)(hnx:0<=nx/\nx<=2147483647)(hi:i<l.length)(hks:∀y,y∈ks ↔ y∈(l.take i).map SItm.by_):CE 159 #[.int .i64 (i:Int),.agg #[.int .i64 (nth l i).id,.string (bs (nth l i).by_)],.pointer (some ⟨bS,0,none⟩),.pointer (some ⟨bM,0,none⟩)] w [r] (λg:List (List UInt8)=>.int .i64 (Qbz nx l i)) (λg=>(∀y,y∈g ↔ y∈(l.take (i+1)).map SItm.by_)) λg=>[.mp r KS (g)]:=by
 have hbi:(nth l i).by_.length<=100000:=hb _ (XO hi)
 refine eW4 Tryz.func159 Tryz.ntmps159 hw ?_
 refine aU2 ?_
 refine oBx λb1 _=>?_
 refine aU3 ?_
 refine Qp [] mixed ?_
 refine dFa 0 ?_
 refine dLd 1 [] ?_
 refine dFa 2 ?_
 refine dQ 3 [] rfl (Qc rfl rfl XB (hA1)) (dP 4 ?_)
 try refine dWr ?_
 refine dQ 5 [] rfl (Qh rfl Qgc rfl (λw1 h1=>c52 w1 _ _ _)) (dQ 6 [] rfl (Qh rfl Z2 rfl (λw1 h1=>c42 w1 _ _)) (dP 7 ?_))
 refine dP 8 ?_
 refine dP 9 ?_
 apply XC 17
 ·exact rfl
 ·intro hg2
  have hs3:=hg2;try simp only[dT]at hs3
  refine dOf 10 17 hg2 ?_
  refine dOf 11 17 hg2 ?_
  refine dOf 12 17 hg2 ?_
  refine dOf 13 17 hg2 ?_
  refine dOf 14 17 hg2 ?_
  refine dOf 15 17 hg2 ?_
  refine dOf 16 17 hg2 ?_
  refine dOf 17 17 hg2 ?_
  refine dOf 18 17 hg2 ?_
  refine dOf 19 17 hg2 ?_
  refine dOf 20 17 hg2 ?_
  refine dV 21 rfl (XI rfl rfl hg2 rfl) (dQ 22 [] rfl (Qh rfl Z2 rfl (λw1 h1=>c42 w1 _ _)) (dH 23 rfl (Qd (cs:=[_,_]) rfl rfl Xn XK rfl rfl rfl) (λb4 _=>dBa ?_)))
  refine dQ 24 [] rfl (Qh rfl Qa2 rfl (λw1 h1=>f38 h1 aPk (by rfl) (by rfl) (by decide))) (dP 25 ?_)
  refine dNi ?_
  refine aU2 ?_
  refine Qi (L':=[(3,_),(5,_),(6,_),(7,_)]) aSx (λ_ h=>h) ?_
  refine aU4 ?_
  refine Xv (α:=Unit) [7,35,36,37,38,39,40] (λ_=>[(7,.int .i64 (e1E nx l i))]) (λ_=>HS w [r] [.mp r KS (ks),.blk b1 72 2 [.int .i64 (nth l i).id,.string (bs (nth l i).by_)]]) (λ_=>True) ?_ ?_
  ·skip
   refine sCd rfl (λh5=>?_) λh5=>?_
   ·have he9:=QcS (nx:=nx) (l:=l) (i:=i) (b:=decide (i=0\/(nth l (i-1)).id<(nth l i).id)) rfl
    have hi9:((i:Int)=0) ↔ i=0:=om
    have hg9:=hg2
    (have hi0:i=0:=by(simp at hg9;exact hg9))
    have hb99:decide (i=0\/(nth l (i-1)).id<(nth l i).id)=(if i=0 then true else decide ((nth l (i-1)).id<(nth l i).id)):=by split<;>simp_all
    rw[hb99]at he9
    rw[if_pos hi0]at he9
    have hz9:e0E nx l i=0:=by rw[<-he9];exact h5
    refine aU3 ?_
    refine oCh rfl (λw1 h1=>c55 w1 (nth l i).by_ om) (λgd _=>aU5 ?_)
    exact Qn () trivial (by(try dsimp only);unfold e1E;rw[if_pos hz9];exact aSx) (λw h=>h.ent aEt)
   have he9:=QcS (nx:=nx) (l:=l) (i:=i) (b:=decide (i=0\/(nth l (i-1)).id<(nth l i).id)) rfl
   have hi9:((i:Int)=0) ↔ i=0:=om
   have hg9:=hg2
   (have hi0:i=0:=by(simp at hg9;exact hg9))
   have hb99:decide (i=0\/(nth l (i-1)).id<(nth l i).id)=(if i=0 then true else decide ((nth l (i-1)).id<(nth l i).id)):=by split<;>simp_all
   rw[hb99]at he9
   rw[if_pos hi0]at he9
   have hz9:¬e0E nx l i=0:=by rw[<-he9];exact h5
   refine aU ?_
   exact Qn () trivial (by(try dsimp only);unfold e1E;rw[if_neg hz9,<-he9];exact aSx) (λw h=>h.ent aEt)
  intro _ _
  refine aU3 ?_
  refine o_q (Qc rfl rfl QeB (hA5)) rfl (aU2 ?_)
  refine o_q (QeV (K:=KS) rfl rfl rfl Tryz.underlying225 Qqc (Qeg Tryz.underlying9) aPk) rfl (aU ?_)
  refine oCq rfl (λw1 h1=>c42 w1 _ _) (o_h (Qd (cs:=[_,_]) rfl rfl Xn XK rfl rfl rfl) rfl (λb6 _=>oCq rfl (λw1 h1=>f38 h1 aPk (by rfl) (by rfl) (by decide)) (aU4 ?_)))
  refine o_q (Qc rfl rfl QeB (hA5)) rfl (aU2 ?_)
  refine Qcq (Qbf (K:=KS) (.inl rfl) rfl rfl rfl Tryz.underlying225 (Qeg Tryz.underlying9) aPt) (λ_ _=>aU6 ?_)
  exact rT rfl rfl (λw' h'=>⟨QaS ks (nth l i).by_,by rw[<-Qbs nx l i (hks _)];rfl,λy=>by rw[QhR,QjZ hi,hks],h'.ent aEt⟩)
 intro hg7
 have hs8:=hg7;try simp only[dN]at hs8
 refine dFo 10 17 hg7 ?_
 refine dQo 11 17 [] hg7 rfl rfl rfl (Qc rfl rfl Qkb (hA2)) ?_
 refine dPo 12 17 hg7 ?_
 refine dPo 13 17 hg7 ?_
 try refine dWr ?_
 refine dVo 14 17 hg7 rfl rfl rfl (Qdp rfl rfl rfl ) ?_
 refine Qs (show _=Value.int .i64 ((i-1:Nat):Int)from by congr 1;split<;>omega) (dVo 15 17 hg7 rfl rfl rfl (Qa rfl rfl rfl XY (i-1) om om (Rw.some hs om)) ?_)
 refine dFo 16 17 hg7 ?_
 refine dQo 17 17 [] hg7 rfl rfl rfl (Qc rfl rfl XB ((hs.rdj (i:=i-1) 0 om rfl))) ?_
 refine dFo 18 17 hg7 ?_
 refine dQo 19 17 [] hg7 rfl rfl rfl (X8 rfl rfl XB aPk rfl) ?_
 refine dPo 20 17 hg7 ?_
 refine dV 21 rfl (Q8 rfl rfl hg7 rfl) (dQ 22 [] rfl (Qh rfl Z2 rfl (λw1 h1=>c42 w1 _ _)) (dH 23 rfl (Qd (cs:=[_,_]) rfl rfl Xn XK rfl rfl rfl) (λb9 _=>dBa ?_)))
 refine dQ 24 [] rfl (Qh rfl Qa2 rfl (λw1 h1=>f38 h1 aPk (by rfl) (by rfl) (by decide))) (dP 25 ?_)
 refine dNi ?_
 refine aU2 ?_
 refine Qi (L':=[(3,_),(5,_),(6,_),(7,_)]) aSx (λ_ h=>h) ?_
 refine aU4 ?_
 refine Xv (α:=Unit) [7,35,36,37,38,39,40] (λ_=>[(7,.int .i64 (e1E nx l i))]) (λ_=>HS w [r] [.mp r KS (ks),.blk b1 72 2 [.int .i64 (nth l i).id,.string (bs (nth l i).by_)]]) (λ_=>True) ?_ ?_
 ·skip
  refine sCd rfl (λh10=>?_) λh10=>?_
  ·have he9:=QcS (nx:=nx) (l:=l) (i:=i) (b:=decide (i=0\/(nth l (i-1)).id<(nth l i).id)) rfl
   have hi9:((i:Int)=0) ↔ i=0:=om
   have hg9:=hg7
   (have hi0:¬i=0:=by(simp at hg9;exact hg9))
   have hb99:decide (i=0\/(nth l (i-1)).id<(nth l i).id)=(if i=0 then true else decide ((nth l (i-1)).id<(nth l i).id)):=by split<;>simp_all
   rw[hb99]at he9
   rw[if_neg hi0]at he9
   have hz9:e0E nx l i=0:=by rw[<-he9];exact h10
   refine aU3 ?_
   refine oCh rfl (λw1 h1=>c55 w1 (nth l i).by_ om) (λgd _=>aU5 ?_)
   exact Qn () trivial (by(try dsimp only);unfold e1E;rw[if_pos hz9];exact aSx) (λw h=>h.ent aEt)
  have he9:=QcS (nx:=nx) (l:=l) (i:=i) (b:=decide (i=0\/(nth l (i-1)).id<(nth l i).id)) rfl
  have hi9:((i:Int)=0) ↔ i=0:=om
  have hg9:=hg7
  (have hi0:¬i=0:=by(simp at hg9;exact hg9))
  have hb99:decide (i=0\/(nth l (i-1)).id<(nth l i).id)=(if i=0 then true else decide ((nth l (i-1)).id<(nth l i).id)):=by split<;>simp_all
  rw[hb99]at he9
  rw[if_neg hi0]at he9
  have hz9:¬e0E nx l i=0:=by rw[<-he9];exact h10
  refine aU ?_
  exact Qn () trivial (by(try dsimp only);unfold e1E;rw[if_neg hz9,<-he9];exact aSx) (λw h=>h.ent aEt)
 intro _ _
 refine aU3 ?_
 refine o_q (Qc rfl rfl QeB (hA5)) rfl (aU2 ?_)
 refine o_q (QeV (K:=KS) rfl rfl rfl Tryz.underlying225 Qqc (Qeg Tryz.underlying9) aPk) rfl (aU ?_)
 refine oCq rfl (λw1 h1=>c42 w1 _ _) (o_h (Qd (cs:=[_,_]) rfl rfl Xn XK rfl rfl rfl) rfl (λb11 _=>oCq rfl (λw1 h1=>f38 h1 aPk (by rfl) (by rfl) (by decide)) (aU4 ?_)))
 refine o_q (Qc rfl rfl QeB (hA5)) rfl (aU2 ?_)
 refine Qcq (Qbf (K:=KS) (.inl rfl) rfl rfl rfl Tryz.underlying225 (Qeg Tryz.underlying9) aPt) (λ_ _=>aU6 ?_)
 exact rT rfl rfl (λw' h'=>⟨QaS ks (nth l i).by_,by rw[<-Qbs nx l i (hks _)];rfl,λy=>by rw[QhR,QjZ hi,hks],h'.ent aEt⟩)
theorem d158(w:World)(r bS bM:Nat)(nx:Int)(a:Option Addr)(cap:Nat)(l:List SItm)(hw:HS w [r] [.mp r KS ([])] w)(hA1:Rd w [r] bS 0 (.int .i64 nx))(hA2:Rd w [r] bS 1 (.slice a l.length cap))(hA5:Rd w [r] bM 0 (.map (some r)))(hs:Rw SItm.vals 2 w [r] a l)(hm:l.length<=100000)(hb:∀x∈l,x.by_.length<=100000)(hnx:0<=nx/\nx<=2147483647):CE 158 #[.slice a l.length cap,.func (.func 159) #[] #[.pointer (some ⟨bS,0,none⟩),.pointer (some ⟨bM,0,none⟩)]] w [r] (λg:List (List UInt8)=>.tuple #[.int .i64 (QN (X4 nx l) 0).1,.int .i64 (QN (X4 nx l) 0).2]) (λg=>True) λg=>[.mp r KS (g)]:=by
 refine eW2 Tryz.func158 Tryz.ntmps158 hw ?_
 refine Qak ?_
 refine Qt (α:=Nat×List (List UInt8)) [4,5,6,7,8,11,12,13,14,15,16,17,18,19,20,21,22,23,24] (λx=>[(11,.int .i64 (x.1:Int))]) (λx=>HS w [r] [.mp r KS (x.2)]) (λx=>x.1<=l.length/\(∀y,y∈x.2 ↔ y∈(l.take x.1).map SItm.by_)/\∀j,j<x.1->(X4 nx l).getD j 0=0) (λx=>l.length-x.1) (0,[]) ⟨Nat.zero_le _,by simp,λj h=>absurd h (Nat.not_lt_zero j)⟩ aSx (λw h=>h) (λ⟨k,ks⟩hx=>?_)
 dsimp only
 obtain⟨hk1,hks,hk3⟩:=hx
 simp only[]at hk1 hks hk3
 refine aU5 ?_
 refine sCd rfl (λh1=>?_) λh1=>?_
 ·have hk:k<l.length:=by omega
  have hkl:k<(X4 nx l).length:=by rw[Yi];exact hk
  refine aU6 ?_
  refine o_p (Qa rfl rfl rfl XY (k) om om (Rw.some hs om)) rfl (o_q (Qm _ rfl rfl Qaa rfl (Rw.rd hs om)) rfl (oAl (λb2 _=>?_) Yq))
  refine aU8 ?_
  refine o_h (Qc1 (Cs:=[.mp r KS (ks)]) rfl rfl QqK rfl aPs (λw1 hh hf=>c159 w1 r bS bM k ks nx a cap l hf (hA1.later hh hA1.2.1) (hA2.later hh hA2.2.1) (hA5.later hh hA5.2.1) (hs.keep (hh.ent (Bs:=[.mp r KS (ks)]) aEt)) hm hb hnx hk hks)) rfl (λgz hgz=>aU7 ?_)
  refine sCd rfl (λh3=>?_) λh3=>?_
  ·have hz9:¬Qbz nx l k=0:=h3
   refine aU7 ?_
   exact Qf (rs:=[.tmp 4,.tmp 5]) rfl (.tmp rfl (.tmp rfl (.nil))) (λw' h'=>⟨_,by rw[eachF_at hkl hk3 (by rw[Xj hk];exact hz9),Xj hk];rfl,trivial,h'.ent aEt⟩)
  have hz9:Qbz nx l k=0:=h3
  refine aT4 ?_
  refine aU2 ?_
  exact sBk (k+1,gz) (by(try simp only[]);omega) ⟨by(try simp only[]);omega,hgz,λj hj=>(Nat.lt_or_ge j k).elim (hk3 j) (λh=>by obtain rfl:j=k:=(by(try simp only[]at hj);omega);rw[Xj hk];exact hz9)⟩
 obtain rfl:k=l.length:=om
 refine Qj rfl ?_
 refine aU5 ?_
 exact Qf (rs:=[.tmp 4,.tmp 5]) rfl (.tmp rfl (.tmp rfl (.nil))) (λw' h'=>⟨_,by rw[eachF_all (by rw[Yi];exact hk3)];rfl,trivial,h'.ent aEt⟩)
theorem c118(w:World)(nx:Int)(a:Option Addr)(cap:Nat)(l:List SItm)(hs:Rw SItm.vals 2 w [] a l)(hm:l.length<=100000)(hb:∀x∈l,x.by_.length<=100000):CR 118 #[.agg #[.int .i64 nx,.slice a l.length cap]] w (.tuple #[.int .i64 (QO nx l).1,.int .i64 (QO nx l).2]):=by
 refine eN1 Tryz.func118 Tryz.ntmps118 ?_
 refine aU2 ?_
 refine oBx λb1 _=>?_
 refine aU5 ?_
 refine Qp [] mixed ?_
 refine dFa 0 ?_
 refine dLd 1 [] ?_
 refine dQ 2 [] rfl (Qh rfl Qgc rfl (λw1 h1=>c52 w1 _ _ _)) (dQ 3 [] rfl (Qh rfl Z2 rfl (λw1 h1=>c42 w1 _ _)) (dFa 4 ?_))
 refine dLd 5 [] ?_
 refine dV 6 rfl (QI rfl rfl Tryz.underlying61) (dP 7 ?_)
 refine dQ 8 [] rfl (Qh rfl Z2 rfl (λw1 h1=>c42 w1 _ _)) (dH 9 rfl (Qd (cs:=[_,_]) rfl rfl Xn XK rfl rfl rfl) (λb2 _=>dBa ?_))
 refine dQ 10 [] rfl (Qh rfl Qa2 rfl (λw1 h1=>f38 h1 aPk (by rfl) (by rfl) (by decide))) (dP 11 ?_)
 refine dNi ?_
 refine aU5 ?_
 refine sCd rfl (λh3=>?_) λh3=>?_
 ·have h0:¬Qa6 nx l=0:=by rw[<-Qcz];exact h3
  have hse:QO nx l=(0,Qa6 nx l):=by rw[YB,if_neg h0]
  refine aU6 ?_
  exact Qf (rs:=[.tmp 2,.tmp 3]) rfl (.tmp rfl (.tmp rfl (.nil))) (λw' h'=>⟨by rw[hse,<-Qcz];rfl,h'.below⟩)
 have h0:Qa6 nx l=0:=by rw[<-Qcz];exact h3
 have hnx:0<=nx/\nx<=2147483647:=by unfold Qa6 at h0;split at h0;omega;omega
 refine aU3 ?_
 refine o_h (Qdt rfl KS) rfl (λb4 _=>oAl (λb5 _=>?_) QpS)
 refine aU8 ?_
 refine o_h (QV (Cs:=[.mp b4 KS ([])]) rfl QpO rfl aPs (λw1 h1 hf=>d158 w1 b4 b1 b5 nx a cap l hf ((h1.ent (Bs:=[.blk b1 63 2 [.int .i64 nx,.slice a l.length cap],.mp b4 KS ([])]) aEt).rd_beside rfl) ((h1.ent (Bs:=[.blk b1 63 2 [.int .i64 nx,.slice a l.length cap],.mp b4 KS ([])]) aEt).rd_beside rfl) ((h1.ent (Bs:=[.blk b5 225 1 [.map (some b4)],.mp b4 KS ([])]) aEt).rd_beside rfl) (hs.keep (h1.ent (Bs:=[.mp b4 KS ([])]) aEt)) hm hb hnx)) rfl (λgz _=>ZW ?_)
 refine sCd rfl (λh6=>?_) λh6=>?_
 ·have h9:¬(QN (X4 nx l) 0).2=0:=h6
  have hse:QO nx l=QN (X4 nx l) 0:=by rw[YB,if_pos h0,if_neg h9]
  refine aU ?_
  refine Qi (L':=[(1,_),(2,_),(3,_),(6,_),(7,_)]) aSx (λ_ h=>h) ?_
  refine aU6 ?_
  exact Qf (rs:=[.tmp 2,.tmp 3]) rfl (.tmp rfl (.tmp rfl (.nil))) (λw' h'=>⟨by rw[hse];rfl,h'.below⟩)
 have h9:(QN (X4 nx l) 0).2=0:=h6
 have hse:QO nx l=(0,cond (decide ((QF l).2<=8192)) 0 16):=by rw[YB,if_pos h0,if_pos h9];by_cases hq:(QF l).2<=8192<;>simp[hq]
 refine aU2 ?_
 refine Qi (L':=[(1,_),(2,_),(3,_)]) aSx (λ_ h=>h) ?_
 refine aU3 ?_
 refine oCh rfl (λw1 h1=>c70 w1 a cap l (hs.later h1) hm hb) (λgp _=>Zn ?_)
 refine oCq rfl (λw1 h1=>c42 w1 _ _) (aU3 ?_)
 exact Qf (rs:=[.tmp 2,.tmp 3]) rfl (.tmp rfl (.tmp rfl (.nil))) (λw' h'=>⟨by rw[hse];rfl,h'.below⟩)
theorem c72(w:World)(nx:Int)(a:Option Addr)(cap:Nat)(l:List SItm)(hs:Rw SItm.vals 2 w [] a l)(hm:l.length<=100000)(hb:∀x∈l,x.by_.length<=100000):CR 72 #[.agg #[.int .i64 nx,.slice a l.length cap]] w (.int .i64 (QO nx l).2):=by
 refine eN1 Tryz.func72 Tryz.ntmps72 ?_
 refine aU2 ?_
 refine oBx λb1 _=>?_
 refine aU5 ?_
 refine oCq rfl (λw1 h1=>c118 w1 nx a cap l (hs.later h1) hm hb) (ZW ?_)
 exact rV
instance:TFn Tryz.prog 22:=⟨by kernel_rfl⟩
instance:TFn Tryz.prog 117:=⟨by kernel_rfl⟩
instance:TFn Tryz.prog 71:=⟨by kernel_rfl⟩
theorem Qg7{nx:Int}{l:List SItm}{i:Nat}(h:¬e0E nx l i=0):Qbz nx l i=e0E nx l i:=by
  rw[<-Qbs nx l i (P:=(nth l i).by_∈(l.take i).map SItm.by_) (dP:=inferInstance) Iff.rfl];simp only[QK,e1E,if_neg h]
theorem Qjm{nx:Int}{l:List SItm}{i:Nat}(h0:e0E nx l i=0)(h:¬YT (nth l i).by_=0):Qbz nx l i=YT (nth l i).by_:=by
  rw[<-Qbs nx l i (P:=(nth l i).by_∈(l.take i).map SItm.by_) (dP:=inferInstance) Iff.rfl];simp only[QK,e1E,if_pos h0,if_neg h]
theorem Qkl{nx:Int}{l:List SItm}{i:Nat}(h0:e0E nx l i=0)(h1:YT (nth l i).by_=0)(h:(nth l i).by_∈(l.take i).map SItm.by_):Qbz nx l i=23:=by
  rw[<-Qbs nx l i (P:=(nth l i).by_∈(l.take i).map SItm.by_) (dP:=inferInstance) Iff.rfl];simp only[QK,e1E,if_pos h0,h1,h];simp
theorem QlP{nx:Int}{l:List SItm}{i:Nat}(h0:e0E nx l i=0)(h1:YT (nth l i).by_=0)(h:¬(nth l i).by_∈(l.take i).map SItm.by_):Qbz nx l i=0:=by
  rw[<-Qbs nx l i (P:=(nth l i).by_∈(l.take i).map SItm.by_) (dP:=inferInstance) Iff.rfl];simp only[QK,e1E,if_pos h0,h1,h];simp
theorem QnT{l:List SItm}{i j:Nat}(hj:j<i)(hi:i<=l.length):(nth l j).by_∈(l.take i).map SItm.by_:=by
  refine List.mem_map.2 ⟨nth l j,?_,rfl⟩;refine List.mem_iff_getElem?.2 ⟨j,?_⟩;rw[List.getElem?_take,if_pos hj];exact QB om
theorem Ql7{l:List SItm}{i:Nat}{y:List UInt8}(hi:i<=l.length)(h:∀j,j<i->(nth l j).by_≠y):¬y∈(l.take i).map SItm.by_:=λhm=>by
  obtain⟨x,hx,e⟩:=List.mem_map.1 hm;obtain⟨j,hj⟩:=List.mem_iff_getElem?.1 hx;rw[List.getElem?_take]at hj;split at hj
  · rename_i h9;exact h j h9 (by rw[QH hj];exact e)
  · cases hj
set_option maxHeartbeats 2000000 in
theorem c71(w:World)(nx:Int)(a:Option Addr)(cap:Nat)(l:List SItm)(hs:Rw SItm.vals 2 w [] a l)(hm:l.length<=100000)(hb:∀x∈l,x.by_.length<=100000):CR 71 #[.agg #[.int .i64 nx,.slice a l.length cap]] w (.tuple #[.int .i64 (QO nx l).1,.int .i64 (QO nx l).2]):=by
 refine eN1 Tryz.func71 Tryz.ntmps71 ?_
 refine aU2 ?_
 refine oBx λb1 _=>?_
 refine aU8 ?_
 refine oCq rfl (λw1 h1=>c56 w1 _ _ _) (aU2 ?_)
 refine sCd rfl (λh2=>?_) λh2=>?_
 ·have hq9:¬(256<=nx/\nx<=2147483647):=by have hq:=h2;omega
  have hse:QO nx l=(0,2):=by unfold QO;rw[if_neg hq9]
  refine aU5 ?_
  exact Qf (rs:=[.tmp 2,.tmp 3]) rfl (.tmp rfl (.tmp rfl (.nil))) (λw' h'=>⟨by rw[hse];rfl,h'.below⟩)
 have hq9:256<=nx/\nx<=2147483647:=by have hq:=h2;omega
 refine aU9 ?_
 refine sCd rfl (λh3=>?_) λh3=>?_
 ·have hq8:¬l.length<=60:=by have hq:=h3;omega
  have hse:QO nx l=(0,8):=by unfold QO;rw[if_pos hq9,if_neg hq8]
  refine aU5 ?_
  exact Qf (rs:=[.tmp 2,.tmp 3]) rfl (.tmp rfl (.tmp rfl (.nil))) (λw' h'=>⟨by rw[hse];rfl,h'.below⟩)
 have hq8:l.length<=60:=by have hq:=h3;omega
 have h0:Qa6 nx l=0:=by unfold Qa6;rw[if_pos hq9,if_pos hq8]
 refine aU7 ?_
 refine Qt (α:=Nat) [2,3,4,5,6,7,8,19,20,21,22,23,24,25,26,27,28,29,30,31,32,33,34,35,36,37,38,39,40,41,42,43,44,45,46,47,48,49,50,51,52,53,54,55,56,57,58,59,60,61,62,63,64,65,66,67,68,69,70,71,72,73,74,75,76,77,78] (λi=>[(4,.int .i64 (i:Int))]) (λ_=>HS w [] [.blk b1 63 2 [.int .i64 nx,.slice a l.length cap]]) (λi=>i<=l.length/\∀j,j<i->(X4 nx l).getD j 0=0) (λi=>l.length-i) 0 ⟨Nat.zero_le _,λj h=>absurd h (Nat.not_lt_zero j)⟩ aSx (λw h=>h.ent aEt) (λi hii=>?_)
 obtain⟨hi1,hi3⟩:=hii
 refine aU9 ?_
 refine sCd rfl (λh4=>?_) λh4=>?_
 ·have hi:i<l.length:=by omega
  have hbi:(nth l i).by_.length<=100000:=hb _ (XO hi)
  refine aU8 ?_
  refine o_p (Qa rfl rfl rfl XY (i) om om (Rw.some hs om)) rfl (o_q (Qm _ rfl rfl Qaa rfl (Rw.rd hs hi)) rfl (oAl (λb5 _=>?_) Yq))
  refine QoU ?_
  refine oCq rfl (λw1 h1=>c56 w1 _ _ _) (aU2 ?_)
  refine sCd rfl (λh6=>?_) λh6=>?_
  ·have hr9:¬(256<=(nth l i).id/\(nth l i).id<=nx-1):=by have hq:=h6;omega
   have he0:e0E nx l i=2:=by unfold e0E;rw[if_neg hr9]
   have hit:=(Qg7 (nx:=nx) (l:=l) (i:=i) (by rw[he0];decide)).trans he0
   have hek:=eachF_at (es:=X4 nx l) (k:=i) (by rw[Yi];exact hi) hi3 (by rw[Xj hi,hit];first|decide|assumption)
   rw[Xj hi,hit]at hek
   have hse:QO nx l=((i:Int),2):=by rw[YB,if_pos h0,if_neg (by rw[hek];first|assumption|(dsimp only;decide))];exact hek
   refine aU6 ?_
   exact Qf (rs:=[.tmp 2,.tmp 3]) rfl (.tmp rfl (.tmp rfl (.nil))) (λw' h'=>⟨by rw[hse];rfl,h'.below⟩)
  have hr9:256<=(nth l i).id/\(nth l i).id<=nx-1:=by have hq:=h6;omega
  refine aU3 ?_
  refine Qp [] mixed ?_
  refine dP 0 ?_
  refine dP 1 ?_
  refine dP 2 ?_
  apply XC 41
  ·exact rfl
  ·intro hg7
   have hs8:=hg7;try simp only[dT]at hs8
   refine dFo 3 41 hg7 ?_
   refine dQo 4 41 [] hg7 rfl rfl rfl (X8 rfl rfl XB aPk rfl) ?_
   refine dFo 5 41 hg7 ?_
   refine dQo 6 41 [] hg7 rfl rfl rfl (X8 rfl rfl Qkb aPk rfl) ?_
   refine dPo 7 41 hg7 ?_
   refine dPo 8 41 hg7 ?_
   try refine dWr ?_
   refine dVo 9 41 hg7 rfl rfl rfl (Qa rfl rfl rfl XY (i-1) om om (Rw.some hs om)) ?_
   refine dFo 10 41 hg7 ?_
   refine dQo 11 41 [] hg7 rfl rfl rfl (Qc rfl rfl XB ((hs.rdj (i:=i-1) 0 om rfl))) ?_
   refine dPo 12 41 hg7 ?_
   refine dV 13 rfl (XI rfl rfl hg7 rfl) (dNi ?_)
   refine sCd rfl (λh9=>?_) λh9=>?_
   ·have ho9:¬(i=0\/(nth l (i-1)).id<(nth l i).id):=by first|(have hq:=h9;simp at hq;done)|(have hq:=h9;have hg:=hg7;simp at hg;omega)
    have he0:e0E nx l i=9:=by unfold e0E;rw[if_pos hr9,if_neg ho9]
    have hit:=(Qg7 (nx:=nx) (l:=l) (i:=i) (by rw[he0];decide)).trans he0
    have hek:=eachF_at (es:=X4 nx l) (k:=i) (by rw[Yi];exact hi) hi3 (by rw[Xj hi,hit];first|decide|assumption)
    rw[Xj hi,hit]at hek
    have hse:QO nx l=((i:Int),9):=by rw[YB,if_pos h0,if_neg (by rw[hek];first|assumption|(dsimp only;decide))];exact hek
    refine aU ?_
    refine Qi (L':=[(0,_),(1,_),(4,_),(5,_),(11,_),(12,_),(13,_),(14,_),(15,_),(16,_),(17,_),(18,_)]) aSx (λ_ h=>h) ?_
    refine aU5 ?_
    exact Qf (rs:=[.tmp 2,.tmp 3]) rfl (.tmp rfl (.tmp rfl (.nil))) (λw' h'=>⟨by rw[hse];rfl,h'.below⟩)
   have ho9:i=0\/(nth l (i-1)).id<(nth l i).id:=by first|(have hq:=h9;have hg:=hg7;simp at hg;omega)|(have hg:=hg7;simp at hg;exact .inl om)
   have he0:e0E nx l i=0:=by unfold e0E;rw[if_pos hr9,if_pos ho9]
   refine aU3 ?_
   refine Qi (L':=[(0,_),(1,_),(4,_),(5,_),(11,_),(12,_),(13,_),(14,_),(15,_),(16,_),(17,_),(18,_)]) aSx (λ_ h=>h) ?_
   refine aU3 ?_
   refine oCh rfl (λw1 h1=>c22 w1 (nth l i).by_ om) (λgd _=>aU3 ?_)
   refine oAl (λb10 _=>?_) Xq
   refine aU8 ?_
   refine sCd rfl (λh11=>?_) λh11=>?_
   ·have hd9:¬YT (nth l i).by_=0:=h11
    have hit:=Qjm he0 hd9
    have hek:=eachF_at (es:=X4 nx l) (k:=i) (by rw[Yi];exact hi) hi3 (by rw[Xj hi,hit];first|decide|assumption)
    rw[Xj hi,hit]at hek
    have hse:QO nx l=((i:Int),YT (nth l i).by_):=by rw[YB,if_pos h0,if_neg (by rw[hek];first|assumption|(dsimp only;decide))];exact hek
    refine aU7 ?_
    exact Qf (rs:=[.tmp 2,.tmp 3]) rfl (.tmp rfl (.tmp rfl (.nil))) (λw' h'=>⟨by rw[hse];rfl,h'.below⟩)
   have hd9:YT (nth l i).by_=0:=h11
   refine aU6 ?_
   refine Qi (L':=[(0,_),(1,_),(4,_),(5,_),(8,_),(11,_),(12,_),(13,_),(14,_),(15,_),(16,_),(17,_),(18,_)]) aSx (λ_ h=>h) ?_
   refine Qt (α:=Nat) [2,3,8,64,65,66,67,68,69,70,71,72,73,74,75,76,77,78] (λj=>[(8,.int .i64 (j:Int))]) (λ_=>HS w [] [.blk b5 72 2 [.int .i64 (nth l i).id,.string (bs (nth l i).by_)],.blk b1 63 2 [.int .i64 nx,.slice a l.length cap]]) (λj=>j<=i/\∀q,q<j->(nth l q).by_≠(nth l i).by_) (λj=>i-j) 0 ⟨Nat.zero_le _,λj h=>absurd h (Nat.not_lt_zero j)⟩ aSx (λw h=>h.ent aEt) (λj hjj=>?_)
   obtain⟨hj1,hj2⟩:=hjj
   refine aU7 ?_
   refine sCd rfl (λh12=>?_) λh12=>?_
   ·have hj:j<i:=by omega
    refine aU4 ?_
    refine Qp [] mixed ?_
    refine dFa 0 ?_
    refine dLd 1 [] ?_
    refine dP 2 ?_
    refine dV 3 rfl (Qa rfl rfl rfl XY (j) om om (Rw.some hs om)) (dFa 4 ?_)
    refine dQ 5 [] rfl (Qc rfl rfl ZR ((hs.rdj (i:=j) 1 om rfl))) (dFa 6 ?_)
    refine dLd 7 [] ?_
    refine dP 8 ?_
    refine dNi ?_
    refine sCd rfl (λh13=>?_) λh13=>?_
    ·have hjx:(nth l j).by_=(nth l i).by_:=h13
     have hmb:(nth l i).by_∈(l.take i).map SItm.by_:=by rw[<-hjx];exact QnT hj (Nat.le_of_lt hi)
     have hit:=Qkl he0 hd9 hmb
     have hek:=eachF_at (es:=X4 nx l) (k:=i) (by rw[Yi];exact hi) hi3 (by rw[Xj hi,hit];first|decide|assumption)
     rw[Xj hi,hit]at hek
     have hse:QO nx l=((i:Int),23):=by rw[YB,if_pos h0,if_neg (by rw[hek];first|assumption|(dsimp only;decide))];exact hek
     refine aU6 ?_
     exact Qf (rs:=[.tmp 2,.tmp 3]) rfl (.tmp rfl (.tmp rfl (.nil))) (λw' h'=>⟨by rw[hse];rfl,h'.below⟩)
    have hjx:¬(nth l j).by_=(nth l i).by_:=h13
    refine aT5 ?_
    refine aU2 ?_
    exact sBk (j+1) om ⟨om,λq hq=>(Nat.lt_or_ge q j).elim (hj2 q) (λh=>by obtain rfl:q=j:=om;exact hjx)⟩
   have hij:i=j:=om
   have hnb:=Ql7 (Nat.le_of_lt hi) (λq hq=>hj2 q om)
   have hit:=QlP he0 hd9 hnb
   refine Qj rfl ?_
   refine aT4 ?_
   refine aU2 ?_
   exact sBk (i+1) om ⟨om,λq hq=>(Nat.lt_or_ge q i).elim (hi3 q) (λh=>by obtain rfl:q=i:=om;rw[Xj hi];exact hit)⟩
  intro hg14
  have hs15:=hg14;try simp only[dN]at hs15
  refine dOf 3 41 hg14 ?_
  refine dOf 4 41 hg14 ?_
  refine dOf 5 41 hg14 ?_
  refine dOf 6 41 hg14 ?_
  refine dOf 7 41 hg14 ?_
  refine dOf 8 41 hg14 ?_
  refine dOf 9 41 hg14 ?_
  refine dOf 10 41 hg14 ?_
  refine dOf 11 41 hg14 ?_
  refine dOf 12 41 hg14 ?_
  refine dV 13 rfl (Q8 rfl rfl hg14 rfl) (dNi ?_)
  refine sCd rfl (λh16=>?_) λh16=>?_
  ·have ho9:¬(i=0\/(nth l (i-1)).id<(nth l i).id):=by first|(have hq:=h16;simp at hq;done)|(have hq:=h16;have hg:=hg14;simp at hg;omega)
   have he0:e0E nx l i=9:=by unfold e0E;rw[if_pos hr9,if_neg ho9]
   have hit:=(Qg7 (nx:=nx) (l:=l) (i:=i) (by rw[he0];decide)).trans he0
   have hek:=eachF_at (es:=X4 nx l) (k:=i) (by rw[Yi];exact hi) hi3 (by rw[Xj hi,hit];first|decide|assumption)
   rw[Xj hi,hit]at hek
   have hse:QO nx l=((i:Int),9):=by rw[YB,if_pos h0,if_neg (by rw[hek];first|assumption|(dsimp only;decide))];exact hek
   refine aU ?_
   refine Qi (L':=[(0,_),(1,_),(4,_),(5,_),(11,_),(12,_),(13,_),(14,_),(15,_),(16,_),(17,_),(18,_)]) aSx (λ_ h=>h) ?_
   refine aU5 ?_
   exact Qf (rs:=[.tmp 2,.tmp 3]) rfl (.tmp rfl (.tmp rfl (.nil))) (λw' h'=>⟨by rw[hse];rfl,h'.below⟩)
  have ho9:i=0\/(nth l (i-1)).id<(nth l i).id:=by first|(have hq:=h16;have hg:=hg14;simp at hg;omega)|(have hg:=hg14;simp at hg;exact .inl om)
  have he0:e0E nx l i=0:=by unfold e0E;rw[if_pos hr9,if_pos ho9]
  refine aU3 ?_
  refine Qi (L':=[(0,_),(1,_),(4,_),(5,_),(11,_),(12,_),(13,_),(14,_),(15,_),(16,_),(17,_),(18,_)]) aSx (λ_ h=>h) ?_
  refine aU3 ?_
  refine oCh rfl (λw1 h1=>c22 w1 (nth l i).by_ om) (λgd _=>aU3 ?_)
  refine oAl (λb17 _=>?_) Xq
  refine aU8 ?_
  refine sCd rfl (λh18=>?_) λh18=>?_
  ·have hd9:¬YT (nth l i).by_=0:=h18
   have hit:=Qjm he0 hd9
   have hek:=eachF_at (es:=X4 nx l) (k:=i) (by rw[Yi];exact hi) hi3 (by rw[Xj hi,hit];first|decide|assumption)
   rw[Xj hi,hit]at hek
   have hse:QO nx l=((i:Int),YT (nth l i).by_):=by rw[YB,if_pos h0,if_neg (by rw[hek];first|assumption|(dsimp only;decide))];exact hek
   refine aU7 ?_
   exact Qf (rs:=[.tmp 2,.tmp 3]) rfl (.tmp rfl (.tmp rfl (.nil))) (λw' h'=>⟨by rw[hse];rfl,h'.below⟩)
  have hd9:YT (nth l i).by_=0:=h18
  refine aU6 ?_
  refine Qi (L':=[(0,_),(1,_),(4,_),(5,_),(8,_),(11,_),(12,_),(13,_),(14,_),(15,_),(16,_),(17,_),(18,_)]) aSx (λ_ h=>h) ?_
  refine Qt (α:=Nat) [2,3,8,64,65,66,67,68,69,70,71,72,73,74,75,76,77,78] (λj=>[(8,.int .i64 (j:Int))]) (λ_=>HS w [] [.blk b5 72 2 [.int .i64 (nth l i).id,.string (bs (nth l i).by_)],.blk b1 63 2 [.int .i64 nx,.slice a l.length cap]]) (λj=>j<=i/\∀q,q<j->(nth l q).by_≠(nth l i).by_) (λj=>i-j) 0 ⟨Nat.zero_le _,λj h=>absurd h (Nat.not_lt_zero j)⟩ aSx (λw h=>h.ent aEt) (λj hjj=>?_)
  obtain⟨hj1,hj2⟩:=hjj
  refine aU7 ?_
  refine sCd rfl (λh19=>?_) λh19=>?_
  ·have hj:j<i:=by omega
   refine aU4 ?_
   refine Qp [] mixed ?_
   refine dFa 0 ?_
   refine dLd 1 [] ?_
   refine dP 2 ?_
   refine dV 3 rfl (Qa rfl rfl rfl XY (j) om om (Rw.some hs om)) (dFa 4 ?_)
   refine dQ 5 [] rfl (Qc rfl rfl ZR ((hs.rdj (i:=j) 1 om rfl))) (dFa 6 ?_)
   refine dLd 7 [] ?_
   refine dP 8 ?_
   refine dNi ?_
   refine sCd rfl (λh20=>?_) λh20=>?_
   ·have hjx:(nth l j).by_=(nth l i).by_:=h20
    have hmb:(nth l i).by_∈(l.take i).map SItm.by_:=by rw[<-hjx];exact QnT hj (Nat.le_of_lt hi)
    have hit:=Qkl he0 hd9 hmb
    have hek:=eachF_at (es:=X4 nx l) (k:=i) (by rw[Yi];exact hi) hi3 (by rw[Xj hi,hit];first|decide|assumption)
    rw[Xj hi,hit]at hek
    have hse:QO nx l=((i:Int),23):=by rw[YB,if_pos h0,if_neg (by rw[hek];first|assumption|(dsimp only;decide))];exact hek
    refine aU6 ?_
    exact Qf (rs:=[.tmp 2,.tmp 3]) rfl (.tmp rfl (.tmp rfl (.nil))) (λw' h'=>⟨by rw[hse];rfl,h'.below⟩)
   have hjx:¬(nth l j).by_=(nth l i).by_:=h20
   refine aT5 ?_
   refine aU2 ?_
   exact sBk (j+1) om ⟨om,λq hq=>(Nat.lt_or_ge q j).elim (hj2 q) (λh=>by obtain rfl:q=j:=om;exact hjx)⟩
  have hij:i=j:=om
  have hnb:=Ql7 (Nat.le_of_lt hi) (λq hq=>hj2 q om)
  have hit:=QlP he0 hd9 hnb
  refine Qj rfl ?_
  refine aT4 ?_
  refine aU2 ?_
  exact sBk (i+1) om ⟨om,λq hq=>(Nat.lt_or_ge q i).elim (hi3 q) (λh=>by obtain rfl:q=i:=om;rw[Xj hi];exact hit)⟩
 obtain rfl:i=l.length:=om
 have hal:=eachF_all (es:=X4 nx l) (by rw[Yi];exact hi3)
 refine Qj rfl ?_
 refine aU4 ?_
 refine oCh rfl (λw1 h1=>c117 w1 nx a cap l (hs.later h1) hm hb) (λgp _=>ZW ?_)
 refine sCd rfl (λh21=>?_) λh21=>?_
 ·have hp9:¬(QF l).2<=8192:=by have hq:=h21;omega
  have hse:QO nx l=(0,16):=by rw[YB,if_pos h0,if_pos (by rw[hal]),if_neg hp9]
  refine aU5 ?_
  exact Qf (rs:=[.tmp 2,.tmp 3]) rfl (.tmp rfl (.tmp rfl (.nil))) (λw' h'=>⟨by rw[hse];rfl,h'.below⟩)
 have hp9:(QF l).2<=8192:=by have hq:=h21;omega
 have hse:QO nx l=(0,0):=by rw[YB,if_pos h0,if_pos (by rw[hal]),if_pos hp9]
 refine aU6 ?_
 exact Qf (rs:=[.tmp 2,.tmp 3]) rfl (.tmp rfl (.tmp rfl (.nil))) (λw' h'=>⟨by rw[hse];rfl,h'.below⟩)
theorem c26(w:World)(nx:Int)(a:Option Addr)(cap:Nat)(l:List SItm)(hs:Rw SItm.vals 2 w [] a l)(hm:l.length<=100000)(hb:∀x∈l,x.by_.length<=100000):CR 26 #[.agg #[.int .i64 nx,.slice a l.length cap]] w (.int .i64 (QO nx l).2):=by
 refine eN1 Tryz.func26 Tryz.ntmps26 ?_
 refine aU2 ?_
 refine oBx λb1 _=>?_
 refine aU5 ?_
 refine oCq rfl (λw1 h1=>c71 w1 nx a cap l (hs.later h1) hm hb) (ZW ?_)
 exact rV
theorem QpU:QE Tryz.prog 115=true:=by kernel_rfl
instance:TFn Tryz.prog 114:=⟨by kernel_rfl⟩
instance:TFn Tryz.prog 72:=⟨by kernel_rfl⟩
instance:TFn Tryz.prog 41:=⟨by kernel_rfl⟩
theorem Yd:Xs Tryz.prog 63=some [.int .i64 0,.slice none 0 0]:=by kernel_rfl
instance:TFn Tryz.prog 67:=⟨by kernel_rfl⟩
theorem QdM:YA Tryz.prog 63=some [(0,1),(1,1)]:=by kernel_rfl
instance:TFn Tryz.prog 68:=⟨by kernel_rfl⟩
instance:TFn Tryz.prog 69:=⟨by kernel_rfl⟩
theorem QjC:YA Tryz.prog 72=some [(0,1),(1,1)]:=by kernel_rfl
theorem c68(w:World)(a:Option Addr)(cap:Nat)(l:List SItm)(hs:Rw SItm.vals 2 w [] a l)(hm:l.length<=1000000):CE 68 #[.slice a l.length cap] w [] (λg:Option Addr×Nat=>.slice g.1 l.length g.2) (λg=>True) λg=>[.own (.slice g.1 l.length g.2) 72 2 l.length (l.flatMap SItm.vals)]:=by
 refine eN1 Tryz.func68 Tryz.ntmps68 ?_
 refine aU8 ?_
 refine o_p (Yz rfl rfl rfl Tryz.underlying61) rfl (aU ?_)
 refine sCd rfl (λh1=>?_) λh1=>?_
 ·have ha0:a=none:=by cases a with|none=>rfl|some b=>simp at h1
  subst ha0
  have hl0:l=[]:=Rw.none hs
  refine aU4 ?_
  exact rT rfl rfl (λw' h'=>⟨(none,0),by rw[hl0];rfl,trivial,by rw[hl0];exact(h'.own_nil 72 2).ent aEt⟩)
 refine aU3 ?_
 refine o_h (XJ rfl XY) rfl (λb2 _=>aU ?_)
 refine o_h (QA (l.flatMap SItm.vals) rfl rfl rfl XY Tryz.underlying61 Yq rfl aPk (λw h=>Rw.src sv2 hs h) (Qq sv2 l) (Yh sv1 l) om (by simp only[maxLen];omega)) rfl (λb3 _=>aU2 ?_)
 exact rT rfl rfl (λw' h'=>⟨b3,by simp only[QR,Nat.zero_add],trivial,by have h2:=h';simp only[Nat.zero_add,List.nil_append]at h2;exact h2.ent aEt⟩)
theorem c114(w:World)(a:Option Addr)(cap:Nat)(l:List SItm)(q:Nat)(cv:Array Value)(bt:List Bool)(hs:Rw SItm.vals 2 w [] a l)(hm:l.length<=1000000)(hq:QE Tryz.prog q=true)(hb:bt.length=l.length)(hc:∀k w1,k<l.length->HS w [] [] w1->Calls Tryz.prog q (#[]++[.agg (SItm.vals (nth l k)).toArray].toArray++cv) w1 λen w2=>en=.returned (.bool (bt.getD k false))/\Below w1.heap.size w1 w2):CR 114 #[.slice a l.length cap,.func (.func q) #[] cv] w (.int .i64 (ixI bt)):=by
 refine eN2 Tryz.func114 Tryz.ntmps114 ?_
 refine Qaf ?_
 refine Qt (α:=Nat) [4,5,8,9,10,11,12,13,14,15,16,17,18] (λk=>[(8,.int .i64 (k:Int))]) (λ_=>_) (λk=>k<=l.length/\∀i,i<k->bt.getD i false=false) (λk=>l.length-k) 0 ⟨om,λi h=>absurd h (Nat.not_lt_zero i)⟩ aSx (λw h=>h) (λk hk=>?_)
 obtain⟨hk1,hk2⟩:=hk
 refine aU5 ?_
 refine sCd rfl (λh1=>?_) λh1=>?_
 ·refine Qak ?_
  refine o_p (Qa rfl rfl rfl XY (k) om om (Rw.some hs om)) rfl (o_q (Qm _ rfl rfl Qaa rfl (Rw.rd hs om)) rfl (o_q (XS rfl rfl hq rfl (λw1 h1=>hc k w1 om (h1.ent aEt))) rfl (aU ?_)))
  refine sCd rfl (λh2=>?_) λh2=>?_
  ·refine aU5 ?_
   exact rV (h:=by have e:=Qcu (l:=bt) (k:=k) om hk2 (λ_=>by assumption);simp only[QR,ixI,e];rw[if_pos om])
  refine aT4 ?_
  refine aU2 ?_
  exact QQ (k+1) om ⟨om,λi hi=>(Nat.lt_or_ge i k).elim (hk2 i) (λh=>by obtain rfl:i=k:=om;assumption)⟩ aSx (λw h=>h)
 refine Qj rfl ?_
 refine aU4 ?_
 exact rV (h:=by have e:=Qcu (l:=bt) (k:=k) om hk2 (λh=>om);simp only[QR,ixI,e];rw[if_neg om])
theorem c115(w:World)(bS:Nat)(x:SItm)(s:List UInt8)(hr:Rd w [] bS 0 (.string (bs s))):CR 115 #[.agg #[.int .i64 x.id,.string (bs x.by_)],.pointer (some ⟨bS,0,none⟩)] w (.bool (decide (x.by_=s))):=by
 refine eN2 Tryz.func115 Tryz.ntmps115 ?_
 refine aU2 ?_
 refine oBx λb1 _=>?_
 refine aU6 ?_
 refine o_q (Qc rfl rfl ZR (hr)) rfl (aU3 ?_)
 exact rV
theorem c69(w:World)(a:Option Addr)(cap:Nat)(l:List SItm)(s:List UInt8)(hs:Rw SItm.vals 2 w [] a l)(hm:l.length<=1000000):CR 69 #[.slice a l.length cap,.string (bs s)] w (.int .i64 (ixI (byB l s))):=by
 refine eN2 Tryz.func69 Tryz.ntmps69 ?_
 refine aU2 ?_
 refine oBx λb1 _=>?_
 refine aU6 ?_
 refine oCq rfl (λw1 h1=>c114 w1 a cap l 115 _ (byB l s) (hs.later h1) hm QpU (Qb5 l s) (λk w2 hk h2=>by have h9:=c115 w2 b1 (nth l k) s ((h1.rd_blk (i:=0) aPk rfl (by simp)).later h2 (by simp));rw[QgU hk];exact h9)) (aU2 ?_)
 exact rV
theorem c67(w:World)(nx:Int)(a:Option Addr)(cap:Nat)(l:List SItm)(d:Dsc)(ea:Option Addr)(eac:Nat)(aa:Option Addr)(aac:Nat)(hs:Rw SItm.vals 2 w [] a l)(hm:l.length<=100000)(hb:∀x∈l,x.by_.length<=100000)(hse:Rw Ace.vals 4 w [] ea d.en)(hsa:Rw Ace.vals 4 w [] aa d.au)(hme:d.en.length<=100000)(hma:d.au.length<=100000):CR 67 #[.agg #[.int .i64 nx,.slice a l.length cap],.agg #[.int .i64 d.ow,.int .i64 d.gr,.bool d.pr,.bool d.he,.slice ea d.en.length eac,.slice aa d.au.length aac]] w (.tuple #[.string (bs (if Qc0 nx l d=0 then QG d else[])),.int .i64 (Qc0 nx l d)]):=by
 refine eN2 Tryz.func67 Tryz.ntmps67 ?_
 refine aU2 ?_
 refine oBx λb1 _=>?_
 refine oBx λb2 _=>?_
 refine aU7 ?_
 refine oCq rfl (λw1 h1=>c72 w1 nx a cap l (hs.later h1) hm hb) (aU7 ?_)
 refine sCd rfl (λh3=>?_) λh3=>?_
 ·have h0:¬(QO nx l).2=0:=h3
  have he9:Qc0 nx l d=(QO nx l).2:=by unfold Qc0;rw[if_neg h0]
  refine aU6 ?_
  exact Qf (rs:=[.tmp 4,.tmp 5]) rfl (.tmp rfl (.tmp rfl (.nil))) (λw' h'=>⟨by rw[he9,if_neg h0];rfl,h'.below⟩)
 have h0:(QO nx l).2=0:=h3
 have he9:Qc0 nx l d=(Q9 d).2:=by unfold Qc0;rw[if_pos h0]
 refine aU4 ?_
 refine oCq rfl (λw1 h1=>c41 w1 d ea eac aa aac (hse.later h1) (hsa.later h1) hme hma) (aU5 ?_)
 exact Qf (rs:=[.tmp 4,.tmp 5]) rfl (.tmp rfl (.tmp rfl (.nil))) (λw' h'=>⟨by rw[he9];rfl,h'.below⟩)
theorem c24(w:World)(nx:Int)(a:Option Addr)(cap:Nat)(l:List SItm)(d:Dsc)(ea:Option Addr)(eac:Nat)(aa:Option Addr)(aac:Nat)(hs:Rw SItm.vals 2 w [] a l)(hm:l.length<=100000)(hb:∀x∈l,x.by_.length<=100000)(hse:Rw Ace.vals 4 w [] ea d.en)(hsa:Rw Ace.vals 4 w [] aa d.au)(hme:d.en.length<=100000)(hma:d.au.length<=100000):CE 24 #[.agg #[.int .i64 nx,.slice a l.length cap],.agg #[.int .i64 d.ow,.int .i64 d.gr,.bool d.pr,.bool d.he,.slice ea d.en.length eac,.slice aa d.au.length aac]] w [] (λg:Option Addr×Nat=>.tuple #[.agg #[.int .i64 (Y0 nx l d).nx,.slice g.1 (Y0 nx l d).l.length g.2],.int .i64 (Y0 nx l d).id,.int .i64 (Y0 nx l d).e]) (λg=>True) λg=>[.own (.slice g.1 (Y0 nx l d).l.length g.2) 72 2 (Y0 nx l d).l.length ((Y0 nx l d).l.flatMap SItm.vals)]:=by
 have hkl:=Qg2 l (QG d)
 refine eN2 Tryz.func24 Tryz.ntmps24 ?_
 refine aU2 ?_
 refine oBx λb1 _=>?_
 refine oBx λb2 _=>?_
 refine oAl (λb3 _=>?_) Yd
 refine aU7 ?_
 refine oCq rfl (λw1 h1=>c67 w1 nx a cap l d ea eac aa aac (hs.later h1) hm hb (hse.later h1) (hsa.later h1) hme hma) (Qaf ?_)
 refine sCd rfl (λh4=>?_) λh4=>?_
 ·have h0:¬Qc0 nx l d=0:=h4
  have hT:Y0 nx l d=⟨0,[],0,Qc0 nx l d⟩:=by unfold Y0;rw[if_neg h0]
  refine aU2 ?_
  refine o_p (Qw (cs:=[_,_]) rfl rfl QdM Yd rfl) rfl (aU5 ?_)
  exact Qf (rs:=[.cell 4 63,.tmp 5,.tmp 6]) rfl (.cell rfl QcV aPk rfl (.tmp rfl (.tmp rfl (.nil)))) (λw' h'=>⟨(none,0),by rw[hT];rfl,trivial,by rw[hT];exact(h'.own_nil 72 2).ent aEt⟩)
 have h0:Qc0 nx l d=0:=h4
 obtain⟨hst0,hds0⟩:=QpQ h0
 have hdl:=Qc8 d
 obtain⟨hnx,hl60,hit9,hpl9⟩:=XR hst0
 obtain⟨_,⟨hen16,hau16⟩,_,_⟩:=Qbq hds0
 rw[if_pos h0]
 refine aU5 ?_
 refine oCh rfl (λw1 h1=>c68 w1 a cap l (hs.later h1) om) (λb5 _=>aU7 ?_)
 refine oCq rfl (λw1 h1=>c69 w1 b5.1 b5.2 l (QG d) (h1.rw_own sv2 aPk rfl) om) (aU7 ?_)
 refine sCd rfl (λh6=>?_) λh6=>?_
 ·have hk:(byK l (QG d))<l.length:=by have hq:=h6;unfold ixI at hq;rw[Qb5]at hq;split at hq;assumption;omega
  have hix:ixI (byB l (QG d))=(((byK l (QG d)):Nat):Int):=by unfold ixI;rw[Qb5,if_pos (show ixB (byB l (QG d))<l.length from hk)];rfl
  have hT:Y0 nx l d=⟨nx,l,(nth l (byK l (QG d))).id,0⟩:=by unfold Y0 QaY;rw[if_pos h0,if_pos hk]
  refine Yr (λw h=>Rw.some (h.rw_own sv2 aPk rfl) om) λhsm=>aU ?_
  refine Qdg [.own (.slice b5.1 l.length b5.2) 72 2 l.length (l.flatMap SItm.vals),.blk b1 63 2 [.int .i64 nx,.slice a l.length cap]] [] mixed ?_
  refine dFa 0 ?_
  refine dLd 1 [] ?_
  refine dP 2 ?_
  refine dV 3 rfl (Qw (cs:=[_,_]) rfl rfl QdM Yd rfl) (dP 4 ?_)
  refine dP 5 ?_
  refine dV 6 rfl (Qa rfl rfl rfl XY ((byK l (QG d))) om om hsm) (dFa 7 ?_)
  refine dQ 8 [] rfl (Qo rfl rfl XB (λw h=>(h.rw_own sv2 aPk rfl).rdj 0 hk rfl)) (dSt 9 ?_ (hl:=(by simp only[Qb,List.length_set,List.length_cons,List.length_nil,List.length_map];omega)))
  refine dP 10 ?_
  refine dP 11 ?_
  refine dNi ?_
  exact Qf (rs:=[.cell 4 63,.tmp 5,.tmp 6]) rfl (.cell rfl QcV aPk rfl (.tmp rfl (.tmp rfl (.nil)))) (λw' h'=>⟨b5,by rw[hT];rfl,trivial,by rw[hT];exact h'.ent aEt⟩)
 have hk:¬(byK l (QG d))<l.length:=by have hq:=h6;unfold ixI at hq;rw[Qb5]at hq;split at hq;(exfalso;omega);assumption
 refine aU7 ?_
 refine o_p (Qw (cs:=[_,_]) rfl rfl QjC Yq rfl) rfl (o_h (Qd (cs:=[_,_]) rfl rfl XY Yq rfl rfl rfl) rfl (λb7 _=>?_))
 refine o_h (QA _ rfl rfl rfl XY Tryz.underlying61 Yq rfl aPk (QZ aPk) rfl (by intro u hu;simp only[List.mem_cons,List.mem_nil_iff,or_false]at hu;rcases hu with rfl|rfl<;>rfl) om (by simp only[maxLen];omega)) rfl (λb8 _=>Ql (show _=Value.slice b8.1 (l++[SItm.mk nx (QG d)]).length b8.2 from by rw[List.length_append];rfl) (Xm (C':=HS w [] [.own (.slice b8.1 (l++[SItm.mk nx (QG d)]).length b8.2) 72 2 (l++[SItm.mk nx (QG d)]).length ((l++[SItm.mk nx (QG d)]).flatMap SItm.vals),.blk b1 63 2 [.int .i64 nx,.slice a l.length cap],.blk b3 63 2 [.int .i64 0,.slice none 0 0]]) (λw h=>by rw[Xz,List.length_append];exact h.ent aEt) (aU4 ?_)))
 refine Qi (L':=[(2,_),(4,_),(5,_),(6,_),(9,_)]) aSx (λ_ h=>h) ?_
 refine aU2 ?_
 refine oCh rfl (λw1 h1=>c70 w1 b8.1 b8.2 (l++[SItm.mk nx (QG d)]) (h1.rw_own sv2 aPk rfl) (by rw[List.length_append];simp only[List.length_cons,List.length_nil];omega) (by intro x hx;rcases List.mem_append.1 hx with hx|hx;exact hb x hx;rw[List.mem_singleton.1 hx];show(QG d).length<=_;omega)) (λgp _=>Qaf ?_)
 refine oOr 3 55 58 rfl
  (λhg9 _=>by
   refine aU4 ?_
   exact oJf 3 58)
  (λhg11 _=>by
   refine aU2 ?_
   exact oJt 3 58) ?_
 refine aU ?_
 refine oOr 4 59 63 rfl
  (λhg13 _=>by
   refine aU6 ?_
   exact oJf 4 63)
  (λhg15 _=>by
   refine aU3 ?_
   exact oJt 4 63) ?_
 refine aU ?_
 refine sCd rfl (λh17=>?_) λh17=>?_
 ·have hfl:(l++[SItm.mk nx (QG d)]).length>60\/(QF (l++[SItm.mk nx (QG d)])).2>8192\/nx=2147483647:=by have hq:=h17;rw[List.length_append]at hq ⊢;simp only[List.length_cons,List.length_nil]at hq ⊢;omega
  have hT:Y0 nx l d=⟨0,[],0,16⟩:=by unfold Y0 QaY;rw[if_pos h0,if_neg hk,if_pos hfl]
  refine aU2 ?_
  refine o_p (Qw (cs:=[_,_]) rfl rfl QdM Yd rfl) rfl (aU4 ?_)
  exact Qf (rs:=[.cell 4 63,.tmp 5,.tmp 6]) rfl (.cell rfl QcV aPk rfl (.tmp rfl (.tmp rfl (.nil)))) (λw' h'=>⟨(none,0),by rw[hT];rfl,trivial,by rw[hT];exact(h'.own_nil 72 2).ent aEt⟩)
 have hfl:¬((l++[SItm.mk nx (QG d)]).length>60\/(QF (l++[SItm.mk nx (QG d)])).2>8192\/nx=2147483647):=by have hq:=h17;rw[List.length_append]at hq ⊢;simp only[List.length_cons,List.length_nil]at hq ⊢;omega
 have hT:Y0 nx l d=⟨nx+1,(l++[SItm.mk nx (QG d)]),nx,0⟩:=by unfold Y0 QaY;rw[if_pos h0,if_neg hk,if_neg hfl]
 refine aU2 ?_
 refine Qdg [.blk b1 63 2 [.int .i64 nx,.slice a l.length cap]] [] mixed ?_
 refine dFa 0 ?_
 refine dLd 1 [] ?_
 refine dP 2 ?_
 try refine dWr ?_
 refine dP 3 ?_
 refine dV 4 rfl (Qw (cs:=[_,_]) rfl rfl QdM Yd rfl) (dFa 5 ?_)
 refine dLd 6 [] ?_
 refine dSt 7 ?_ (hl:=(by simp only[Qb,List.length_set,List.length_cons,List.length_nil,List.length_map];omega))
 refine dP 8 ?_
 refine dP 9 ?_
 refine dNi ?_
 exact Qf (rs:=[.cell 4 63,.tmp 5,.tmp 6]) rfl (.cell rfl QcV aPk rfl (.tmp rfl (.tmp rfl (.nil)))) (λw' h'=>⟨b8,by rw[hT];rfl,trivial,by rw[hT];exact h'.ent aEt⟩)
theorem QqB:QE Tryz.prog 120=true:=by kernel_rfl
instance:TFn Tryz.prog 119:=⟨by kernel_rfl⟩
instance:TFn Tryz.prog 75:=⟨by kernel_rfl⟩
theorem c119(w:World)(a:Option Addr)(cap:Nat)(l:List SItm)(q:Nat)(cv:Array Value)(cs:List Int)(n:Int)(hs:Rw SItm.vals 2 w [] a l)(hm:l.length<=1000000)(hq:QE Tryz.prog q=true)(hb:cs.length=l.length)(hc:∀k w1,k<l.length->HS w [] [] w1->Calls Tryz.prog q (#[]++[.agg (SItm.vals (nth l k)).toArray,.int .i64 n].toArray++cv) w1 λen w2=>en=.returned (.int .i64 (cs.getD k 0))/\Below w1.heap.size w1 w2):CR 119 #[.slice a l.length cap,.int .i64 n,.func (.func q) #[] cv] w (.tuple #[.int .i64 (bsL cs:Int),.bool (QfN cs)]):=by
 refine eN3 Tryz.func119 Tryz.ntmps119 ?_
 refine Qrm ?_
 refine Qt (α:=Nat×Nat×Nat) [9,10,11,15,16,17,18,19,20,21,22,23,24,25,26,27,28,29,30,31,32,33,34] (λx=>[(9,.int .i64 (x.2.1:Int)),(10,.int .i64 (x.2.2:Int))]) (λ_=>_) (λx=>x.2.1<=x.2.2/\x.2.2<=l.length/\x.2.2-x.2.1<=x.1/\bsC cs x.1 x.2.1 x.2.2=bsL cs) (λx=>x.1) (l.length,0,l.length) ⟨by simp,by simp,by simp,by rw[<-hb];rfl⟩ aSx (λw h=>h.ent aEt) (λ⟨m,lo,hi⟩hx=>?_)
 dsimp only
 obtain⟨hx1,hx2,hx3,hx4⟩:=hx
 simp only[]at hx1 hx2 hx3 hx4
 refine aU7 ?_
 refine sCd rfl (λh1=>?_) λh1=>?_
 ·refine aT7 ?_
  refine o_p (Qk rfl rfl Yx QgN) rfl ?_
  rw[show IntKind.u64.wrap ((lo:Int)+(hi:Int))=((lo+hi:Nat):Int)from Ql1 _ om]
  refine o_p (QcM rfl rfl rfl (by decide) 1 rfl) rfl (o_p (Qk rfl rfl QgN Yx) rfl ?_)
  try refine oWr ?_
  refine Ql (show _=Value.int .i64 (((lo+hi)/2:Nat):Int)from by congr 1) ?_
  obtain⟨q2,hq1,hq2⟩:=Qif (cs:=cs) (show lo<hi by omega) hx3
  refine aU7 ?_
  refine o_p (Qa rfl rfl rfl XY ((lo+hi)/2) om om (Rw.some hs om)) rfl (o_q (Qm _ rfl rfl Qaa rfl (Rw.rd hs (i:=(lo+hi)/2) om)) rfl (aU ?_))
  refine o_q (XS rfl rfl hq rfl (λw1 h1=>hc ((lo+hi)/2) w1 om (h1.ent aEt))) rfl (aU2 ?_)
  refine sCd rfl (λh2=>?_) λh2=>?_
  ·refine aT3 ?_
   refine aU3 ?_
   exact sBk (q2,(lo+hi)/2+1,hi) (by(try simp only[]);omega) ⟨by(try simp only[]);omega,hx2,by(try simp only[]);omega,by simp only[];rw[<-hx4,hq2,if_pos h2]⟩ (by refine QfM (congrArg (λe=>some (Value.int .i64 e)) (show(((lo+hi)/2:Nat):Int)+1=(((lo+hi)/2+1:Nat):Int) by omega)) ?_;repeat (first|exact QkO|refine QfM rfl ?_))
  refine aU5 ?_
  exact sBk (q2,lo,(lo+hi)/2) (by(try simp only[]);omega) ⟨by(try simp only[]);omega,by(try simp only[]);omega,by(try simp only[]);omega,by simp only[];rw[<-hx4,hq2,if_neg h2]⟩
 refine Qj rfl ?_
 refine aU3 ?_
 have hlo:bsL cs=lo:=by rw[<-hx4,QjK _ _ _ _ om]
 refine aU4 ?_
 refine XH 9 39 48 rfl
  (λhg3 _=>by
   refine aU7 ?_
   refine o_p (Qa rfl rfl rfl XY (lo) om om (Rw.some hs om)) rfl (aU ?_)
   refine o_q (Qm _ rfl rfl Qaa rfl (Rw.rd hs (i:=lo) om)) rfl (aU3 ?_)
   refine o_q (XS rfl rfl hq rfl (λw1 h1=>hc lo w1 om (h1.ent aEt))) rfl (aU2 ?_)
   exact oJt 9 48)
  (λhg5 _=>by
   refine aU8 ?_
   exact oJf 9 48) ?_
 refine aU3 ?_
 exact Qf (rs:=[.tmp 6,.tmp 7]) rfl (.tmp rfl (.tmp rfl (.nil))) (λw' h'=>⟨by simp only[QR,QfN,hlo];first|(rw[hb];simp;done)|(have:¬lo<cs.length:=om;simp[this];done)|(have:lo<cs.length:=om;simp[this];done)|(have:lo<cs.length:=om;have hl9:lo<l.length:=om;simp only[this,hl9,decide_true,Bool.true_and,Bool.and_true];rfl)|(have:lo<cs.length:=om;have hl9:lo<l.length:=om;simp[this,hl9]),h'.below⟩)
theorem c120(w:World)(x:SItm)(n:Int)(hn:0<=n/\n<=9223372036854775807)(hx:0<=x.id/\x.id<=9223372036854775807):CR 120 #[.agg #[.int .i64 x.id,.string (bs x.by_)],.int .i64 n] w (.int .i64 (x.id-n)):=by
 refine eN2 Tryz.func120 Tryz.ntmps120 ?_
 refine aU2 ?_
 refine oBx λb1 _=>?_
 refine aT8 ?_
 refine aU2 ?_
 exact rV
theorem c75(w:World)(a:Option Addr)(cap:Nat)(l:List SItm)(n:Int)(hs:Rw SItm.vals 2 w [] a l)(hm:l.length<=1000000)(hn:0<=n/\n<=9223372036854775807)(hx:∀k,k<l.length->0<=(nth l k).id/\(nth l k).id<=9223372036854775807):CR 75 #[.slice a l.length cap,.int .i64 n] w (.tuple #[.int .i64 (bsL (idC l n):Int),.bool (QfN (idC l n))]):=by
 refine eN2 Tryz.func75 Tryz.ntmps75 ?_
 refine aU9 ?_
 refine oCq rfl (λw1 h1=>c119 w1 a cap l 120 #[] (idC l n) n (hs.later h1) hm QqB (Qc6 l n) (λk w2 hk h2=>by have h9:=c120 w2 (nth l k) n hn (hx k hk);rw[QcT hk];exact h9)) (aU5 ?_)
 exact Qf (rs:=[.tmp 4,.tmp 5]) rfl (.tmp rfl (.tmp rfl (.nil))) (λw' h'=>⟨by rfl,h'.below⟩)
theorem c33(w:World)(nx:Int)(a:Option Addr)(cap:Nat)(l:List SItm)(n:Int)(hs:Rw SItm.vals 2 w [] a l)(hm:l.length<=100000)(hb:∀x∈l,x.by_.length<=100000):CE 33 #[.agg #[.int .i64 nx,.slice a l.length cap],.int .i64 n] w [] (λg:(Option Addr×Nat)×(Option Addr×Nat)=>.tuple #[.agg #[.int .i64 (Y9 nx l n).1.ow,.int .i64 (Y9 nx l n).1.gr,.bool (Y9 nx l n).1.pr,.bool (Y9 nx l n).1.he,.slice g.1.1 (Y9 nx l n).1.en.length g.1.2,.slice g.2.1 (Y9 nx l n).1.au.length g.2.2],.int .i64 (Y9 nx l n).2]) (λg=>True) λg=>[.own (.slice g.1.1 (Y9 nx l n).1.en.length g.1.2) 119 4 (Y9 nx l n).1.en.length ((Y9 nx l n).1.en.flatMap Ace.vals),.own (.slice g.2.1 (Y9 nx l n).1.au.length g.2.2) 119 4 (Y9 nx l n).1.au.length ((Y9 nx l n).1.au.flatMap Ace.vals)]:=by
 have hkl:=QgQ l n
 refine eN2 Tryz.func33 Tryz.ntmps33 ?_
 refine aU2 ?_
 refine oBx λb1 _=>?_
 refine oAl (λb2 _=>?_) Xq
 refine aU6 ?_
 refine oCq rfl (λw1 h1=>c72 w1 nx a cap l (hs.later h1) hm hb) (aU ?_)
 refine oCq rfl (λw1 h1=>c52 w1 _ _ _) (oCq rfl (λw1 h1=>c42 w1 _ _) (o_h (Qd (cs:=[_,_]) rfl rfl Xn XK rfl rfl rfl) rfl (λb3 _=>oCq rfl (λw1 h1=>f38 h1 aPk (by rfl) (by rfl) (by decide)) (aU7 ?_))))
 refine sCd rfl (λh4=>?_) λh4=>?_
 ·have hf9:QK [.int .i64 (QO nx l).2,.int .i64 (cond (decide (256<=n)&&decide (n<=2147483647)) 0 6)]=if(QO nx l).2=0 then if 256<=n/\n<=2147483647 then 0 else 6 else(QO nx l).2:=by simp only[QK,cond_eq_ite,Bool.and_eq_true,decide_eq_true_eq];grind
  have h0:¬QK [.int .i64 (QO nx l).2,.int .i64 (cond (decide (256<=n)&&decide (n<=2147483647)) 0 6)]=0:=h4
  have hT:Y9 nx l n=(noD,QK [.int .i64 (QO nx l).2,.int .i64 (cond (decide (256<=n)&&decide (n<=2147483647)) 0 6)]):=by unfold Y9;rw[hf9];rw[hf9]at h0;by_cases hA:(QO nx l).2=0;(rw[if_pos hA,if_pos hA];rw[if_pos hA]at h0;by_cases hB:256<=n/\n<=2147483647;(rw[if_pos hB]at h0;exact absurd rfl h0);rw[if_neg hB,if_neg hB]);rw[if_neg hA,if_neg hA]
  refine aU2 ?_
  refine o_p (Qw (cs:=[_,_,_,_,_,_]) rfl rfl YU Xq rfl) rfl (aU4 ?_)
  exact Qf (rs:=[.cell 4 28,.tmp 5]) rfl (.cell rfl Xr aPk rfl (.tmp rfl (.nil))) (λw' h'=>⟨((none,0),(none,0)),by rw[hT];rfl,trivial,by rw[hT];exact((h'.own_nil 119 4).own_nil 119 4).ent aEt⟩)
 have hf9:QK [.int .i64 (QO nx l).2,.int .i64 (cond (decide (256<=n)&&decide (n<=2147483647)) 0 6)]=if(QO nx l).2=0 then if 256<=n/\n<=2147483647 then 0 else 6 else(QO nx l).2:=by simp only[QK,cond_eq_ite,Bool.and_eq_true,decide_eq_true_eq];grind
 have h0:QK [.int .i64 (QO nx l).2,.int .i64 (cond (decide (256<=n)&&decide (n<=2147483647)) 0 6)]=0:=h4
 rw[hf9]at h0
 have hA:(QO nx l).2=0:=by by_cases hA:(QO nx l).2=0;exact hA;rw[if_neg hA]at h0;exact h0
 rw[if_pos hA]at h0
 have hB:256<=n/\n<=2147483647:=by by_cases hB:256<=n/\n<=2147483647;exact hB;rw[if_neg hB]at h0;exact absurd h0 (by decide)
 obtain⟨hnx,hl60,hit9,hpl9⟩:=XR hA
 obtain⟨hbf,hbl⟩:=Qpo (n:=n) (QiT hit9)
 have hrg:∀k,k<l.length->0<=(nth l k).id/\(nth l k).id<=9223372036854775807:=λk hk=>by have:=Yb (hit9 k hk);omega
 refine aU6 ?_
 refine oCq rfl (λw1 h1=>c75 w1 a cap l n (hs.later h1) om om hrg) (Qaf ?_)
 refine sCd rfl (λh5=>?_) λh5=>?_
 ·have hk:¬idK l n<l.length:=by have hq:=h5;rw[hbf]at hq;simpa using hq
  have hT:Y9 nx l n=(noD,6):=by unfold Y9;rw[if_pos hA,if_pos hB,if_neg hk]
  refine aU2 ?_
  refine o_p (Qw (cs:=[_,_,_,_,_,_]) rfl rfl YU Xq rfl) rfl (aU3 ?_)
  exact Qf (rs:=[.cell 4 28,.tmp 5]) rfl (.cell rfl Xr aPk rfl (.tmp rfl (.nil))) (λw' h'=>⟨((none,0),(none,0)),by rw[hT];rfl,trivial,by rw[hT];exact((h'.own_nil 119 4).own_nil 119 4).ent aEt⟩)
 have hk:idK l n<l.length:=by have hq:=h5;rw[hbf]at hq;simpa using hq
 have hix:=hbl hk
 have hT:Y9 nx l n=(Yf (nth l (idK l n)).by_,YT (nth l (idK l n)).by_):=by unfold Y9;rw[if_pos hA,if_pos hB,if_pos hk]
 have hbl9:(nth l (idK l n)).by_.length<=100000:=hb _ (XO hk)
 refine aU6 ?_
 refine o_p (Qa rfl rfl rfl XY (idK l n) om om (Rw.some hs om)) rfl (aU ?_)
 refine o_q (Qc rfl rfl ZR ((hs.rdj 1 hk rfl))) rfl (oCh rfl (λw1 h1=>c55 w1 (nth l (idK l n)).by_ om) (λgd _=>aU5 ?_))
 exact Qf (rs:=[.cell 4 28,.tmp 5]) rfl (.cell rfl Xr aPk rfl (.tmp rfl (.nil))) (λw' h'=>⟨gd,by rw[hT];rfl,trivial,by rw[hT];exact h'.ent aEt⟩)
theorem c36(w:World)(nx:Int)(a:Option Addr)(cap:Nat)(l:List SItm)(hs:Rw SItm.vals 2 w [] a l)(hm:l.length<=100000)(hb:∀x∈l,x.by_.length<=100000):CE 36 #[.agg #[.int .i64 nx,.slice a l.length cap]] w [] (λg:Option Addr×Nat=>.tuple #[.slice g.1 (if(QO nx l).2=0 then QF l else([],0)).1.length g.2,.int .i64 (if(QO nx l).2=0 then QF l else([],0)).2,.int .i64 (QO nx l).2]) (λg=>True) λg=>[.own (.slice g.1 (if(QO nx l).2=0 then QF l else([],0)).1.length g.2) 3 1 (if(QO nx l).2=0 then QF l else([],0)).1.length ((if(QO nx l).2=0 then QF l else([],0)).1.map nv)]:=by
 refine eN1 Tryz.func36 Tryz.ntmps36 ?_
 refine aU2 ?_
 refine oBx λb1 _=>?_
 refine aU8 ?_
 refine oCq rfl (λw1 h1=>c72 w1 nx a cap l (hs.later h1) hm hb) (aU7 ?_)
 refine sCd rfl (λh2=>?_) λh2=>?_
 ·have h0:¬(QO nx l).2=0:=h2
  refine aU7 ?_
  exact Qf (rs:=[.tmp 2,.tmp 3,.tmp 4]) rfl (.tmp rfl (.tmp rfl (.tmp rfl (.nil)))) (λw' h'=>⟨(none,0),by rw[if_neg h0];rfl,trivial,by rw[if_neg h0];exact(h'.own_nil 3 1).ent aEt⟩)
 have h0:(QO nx l).2=0:=h2
 refine aU5 ?_
 refine oCh rfl (λw1 h1=>c70 w1 a cap l (hs.later h1) hm hb) (λgp _=>Qfd ?_)
 exact Qf (rs:=[.tmp 2,.tmp 3,.tmp 4]) rfl (.tmp rfl (.tmp rfl (.tmp rfl (.nil)))) (λw' h'=>⟨gp,by rw[if_pos h0,h0,Zb];rfl,trivial,by rw[if_pos h0,Zb];exact h'.ent aEt⟩)
theorem c23(w:World):CR 23 #[] w (.agg #[.int .i64 256,.slice none 0 0]):=by
 refine eN0 Tryz.func23 Tryz.ntmps23 ?_
 refine aU2 ?_
 refine oAl (λb1 _=>?_) Yd
 refine aU3 ?_
 refine o_p (Qw (cs:=[_,_]) rfl rfl QdM Yd rfl) rfl (aU2 ?_)
 exact Qf (rs:=[.cell 0 63]) rfl (.cell rfl QcV aPk rfl (.nil)) (λw' h'=>⟨by rfl,h'.below⟩)
end Go.Proofs
namespace Gx
open Go Go.RowKit
theorem Vl.rwI{w:World}{a:Option Addr}{u:List Int}(h:Vl w a (u.map nv)):Rw inV 1 w [] a u:=by
 refine⟨λhn=>?_⟩;obtain⟨b,o,e,h2⟩:=h.at_ (by rw[List.length_map];exact hn);refine⟨b,o,e,λi hi=>?_⟩;have h3:=h2 i (by rw[List.length_map];exact hi);have e9:((u.map nv)[i]?).toList=inV (nth u i):=by rw[List.getElem?_map,QB hi];rfl
 rw[e9]at h3;exact h3
end Gx
