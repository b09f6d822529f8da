/- Contracts of the program's functions, proved by walking them with the rules of the Gx texts; without conditions beyond those that each contract names. -/
import Derived.WalkKit
import Derived.Deep.Draws
import Derived.TacticsIn
import Derived.OrdersIn
import Derived.RangeFuncLeaves
import Derived.Lib.Strings
import Derived.Laws.BytesArg
import Derived.Laws.IdiomStrings
import Derived.Deep.Quiet
import Derived.ProofKit
import Derived.OpenShut
import Derived.Laws.StructEq
import Derived.ChangeKeysEq
import Derived.Laws.Externs
import Derived.Lib.Overlaps
import Derived.Carry
import Derived.Laws.Small
import Derived.Lib.Bytealg
import Derived.Shelf.Small.Strs
import Derived.Shelf.Small.Wraps
import Derived.Shelf.Strconv.Itoa0
import Derived.Shelf.Strconv.Itoa1
import Derived.Shelf.LaysM
import Derived.Shelf.Strconv.Itoa2
import Derived.Shelf.Strconv.Itoa3
import Derived.Shelf.Strings.Search1
import Derived.Shelf.Strings.Search2
import Derived.Shelf.Strings.Cut
import Derived.Shelf.Strings.Shaped
import Derived.Shelf.Strings.LastIndex
import Derived.Shelf.Strings.LastIndexAll
import Derived.Shelf.Strings.Prefix
import Derived.Shelf.Slices.Turned
import Derived.Shelf.Slices.Reverse
import Derived.Shelf.Slices.Equal
import Derived.Ground.Names2Prog
import Derived.Shelf.Slices.Clone
import Derived.Shelf.Slices.SearchI
import Derived.Shelf.Slices.Delete
import Derived.Shelf.Slices.Cells
import Derived.Shelf.Slices.Empties
import Derived.Shelf.Slices.Empties2
import Derived.Ground.SlgnProg
import Derived.Shelf.SlicesE.Reverse
import Derived.Shelf.SlicesE.Delete
import Derived.Shelf.SlicesE.Clone
import Derived.Test.YtmhkomoiamljeaaGreatDoorProg
import Derived.KernelRfl
import Derived.Lib.LastIndexByte
import Derived.Lib.ItoaNum
import Derived.Lib.SmallJoins
import Derived.Lib.AppendIntMem
import Derived.RangeFuncRecord
import Derived.Lib.Builder
import Derived.Laws.Pointers
import Derived.Test.YtmhkomoiamljeaaGreatDoorTie
import Derived.Test.YtmhkomoiamljeaaGreatDoorCards
import Derived.SevenTiedAt
import Derived.LaidMore
import Derived.Lay
import Derived.Stop.Joined
import Derived.Test.YtmhkomoiamljeaaGreatDoorP4
set_option linter.unusedSimpArgs false
set_option maxHeartbeats 1000000
set_option linter.unusedVariables false
set_option linter.unusedSectionVars false
set_option linter.unnecessarySimpa false
namespace Go.Proofs
open Go Go.RowKit Gx
attribute [local irreducible] Go.Calls Gx.S Gx.O Gx.D Gx.OpP Gx.OpQ Gx.OpH
set_option maxRecDepth 20000
instance:TFn Tryz.prog 135:=⟨by kernel_rfl⟩
instance:TFn Tryz.prog 136:=⟨by kernel_rfl⟩
instance:TFn Tryz.prog 125:=⟨by kernel_rfl⟩
theorem Quf{t:Tre}{X:List TEnt}(h:¬(XD t).2=0):Xg t X=XD t/\Qcs t X=[]:=by
  have h1:Xg t X=XD t:=if_neg h;exact⟨h1,if_neg (by rw[h1];exact h)⟩
theorem QtN{t:Tre}{X:List TEnt}(h:(XD t).2=0)(hc:¬t.co=1):Xg t X=(0,15)/\Qcs t X=[]:=by
  have h1:Xg t X=(0,15):=by unfold Xg;rw[if_pos h,if_neg hc]
  exact⟨h1,if_neg (by rw[h1];decide)⟩
theorem QtS{t:Tre}{X:List TEnt}(h:(XD t).2=0)(hc:t.co=1):Xg t X=QnW X:=by unfold Xg;rw[if_pos h,if_pos hc]
theorem QtK{X:List TEnt}{k:Nat}{e:Int}(hk:QB (X.map dcE) 0=((k:Int),e))(he:¬e=0):QnW X=((k:Int),e):=by
  unfold QnW;rw[hk,if_neg he]
theorem Qt8{X:List TEnt}(h:(QB (X.map dcE) 0).2=0):QnW X=QB ((X.map Qh).map (stE (X.map Qh))) 0:=if_pos h
theorem Qvn{x:TEnt}(h:dcE x=0):QaJ (Qh x)=0:=by
  have h1:=(Qve h).1
  rwa[show dcD x=Qh x from if_pos h]at h1
theorem Qc6{X:List TEnt}(h:(QB (X.map dcE) 0).2=0){e:DEnt}(he:e∈X.map Qh):QaJ e=0:=by
  obtain⟨x,hx,rfl⟩:=List.mem_map.1 he;exact Qvn (ZE.1 h _ (List.mem_map.2 ⟨x,hx,rfl⟩))
theorem QwV(w:World)(co mo rm:Int)(a:Option Addr)(cap:Nat)(L:List LNd)(T:BT)(d lo hi:Nat)(hco:co=1)(hs:Nt w [] a L)(hB:Bd (pln L))(hkl:∀i,i<L.length->∀x∈(nth L i).es,x.key.length<=1000000)(h0:(XD (⟨co,mo,rm,pln L⟩:Tre)).2=0)(hl2:L.length<=1000)(hBl:Bel lo hi d T)(hN:NIn (pln L) T)(hT0:T.idx=0)(hf:T.flat.length<=10000):CE 135 #[.agg #[.int .i64 co,.int .i64 mo,.int .i64 rm,.slice a L.length cap]] w [] (λg:Option Addr×Nat=>.tuple #[.slice g.1 (T.flat).length g.2,.int .i64 0]) (λg=>True) λg=>[.own (.slice g.1 (T.flat).length g.2) 84 2 (T.flat).length ((T.flat).flatMap TEnt.vals)]:=by
  subst hco;exact Qxb w 1 mo rm a cap L T d lo hi hs hB hkl h0 hl2 hBl hN hT0 hf
set_option maxHeartbeats 4000000 in
theorem c74(w:World)(co mo rm:Int)(a:Option Addr)(cap:Nat)(L:List LNd)(T:BT)(hs:Nt w [] a L)(hB:Bd (pln L))(hkl:∀i,i<L.length->∀x∈(nth L i).es,x.key.length<=1000000)(hl2:L.length<=1000)(hT:DT (⟨co,mo,rm,pln L⟩:Tre) T):CE 74 #[.agg #[.int .i64 co,.int .i64 mo,.int .i64 rm,.slice a L.length cap]] w [] (λg:Option Addr×Nat=>.tuple #[.slice g.1 (Qcs (⟨co,mo,rm,pln L⟩:Tre) T.flat).length g.2,.int .i64 (Xg (⟨co,mo,rm,pln L⟩:Tre) T.flat).1,.int .i64 (Xg (⟨co,mo,rm,pln L⟩:Tre) T.flat).2]) (λg=>True) λg=>[.own (.slice g.1 (Qcs (⟨co,mo,rm,pln L⟩:Tre) T.flat).length g.2) 66 9 (Qcs (⟨co,mo,rm,pln L⟩:Tre) T.flat).length ((Qcs (⟨co,mo,rm,pln L⟩:Tre) T.flat).flatMap DEnt.vals)]:=by
 refine eN1 Tryz.func74 Tryz.ntmps74 ?_
 refine aU2 ?_
 refine oBx λb1 _=>?_
 refine aU8 ?_
 refine oCq rfl (λw1 h1=>Qul w1 co mo rm a cap L (hs.later h1.nil) hB hkl) (Qas ?_)
 refine sCd rfl (λh2=>?_) λh2=>?_
 ·have h0:¬(XD (⟨co,mo,rm,pln L⟩:Tre)).2=0:=by have hq:=h2;simpa using hq
  obtain⟨hZ,hLL⟩:=Quf (X:=T.flat) h0
  refine aU8 ?_
  exact Qj (rs:=[.tmp 2,.tmp 3,.tmp 4]) rfl (.tmp rfl (.tmp rfl (.tmp rfl (.nil)))) (λw' h'=>⟨(none,0),by rw[hZ,hLL];rfl,trivial,by rw[hLL];exact(h'.own_nil 66 9).ent aEt⟩)
 have h0:(XD (⟨co,mo,rm,pln L⟩:Tre)).2=0:=by have hq:=h2;simpa using hq
 obtain⟨d9,lo9,hi9,hBl,hN,hT0,hf9,hsm9⟩:=hT h0
 refine aU8 ?_
 refine sCd rfl (λh3=>?_) λh3=>?_
 ·have h1c:¬co=1:=by have hq:=h3;simpa using hq
  obtain⟨hZ,hLL⟩:=QtN (X:=T.flat) h0 h1c
  refine aU6 ?_
  exact Qj (rs:=[.tmp 2,.tmp 3,.tmp 4]) rfl (.tmp rfl (.tmp rfl (.tmp rfl (.nil)))) (λw' h'=>⟨(none,0),by rw[hZ,hLL];rfl,trivial,by rw[hLL];exact(h'.own_nil 66 9).ent aEt⟩)
 have hco:co=1:=by have hq:=h3;simpa using hq
 have hdo:=QtS (X:=T.flat) h0 hco
 refine aU4 ?_
 refine oCh rfl (λw1 h1=>QwV w1 co mo rm a cap L T d9 lo9 hi9 hco (hs.later h1.nil) hB hkl h0 hl2 hBl hN hT0 hf9) (λgX _=>aU18 ?_)
 refine Qe (L':=[(2,_),(3,_),(4,_),(9,_),(35,_),(36,_),(37,_)]) aSx (λ_ h=>h) ?_
 refine Qo (α:=Nat×(Option Addr×Nat)) [2,3,4,9,10,11,12,13,37,38,39,40,41,42,43,44,45,46,47,48,49,50,51,52,53,54,55] (λy=>[(37,.int .i64 (y.1:Int)),(9,.slice y.2.1 ((T.flat.take y.1).map Qh).length y.2.2)]) (λy=>HS w [] [.own (.slice y.2.1 ((T.flat.take y.1).map Qh).length y.2.2) 66 9 ((T.flat.take y.1).map Qh).length (((T.flat.take y.1).map Qh).flatMap DEnt.vals),.own (.slice gX.1 T.flat.length gX.2) 84 2 T.flat.length (T.flat.flatMap TEnt.vals)]) (λy=>y.1<=T.flat.length/\QB (T.flat.map dcE) 0=QB ((T.flat.map dcE).drop y.1) y.1) (λy=>T.flat.length-y.1) (0,(none,0)) ⟨Nat.zero_le _,rfl⟩ aSx (λw h=>(h.own_nil 66 9).ent aEt) (λ⟨k,A⟩hkk=>?_)
 dsimp only at hkk ⊢
 obtain⟨hk1,hk2⟩:=hkk
 refine aU5 ?_
 refine sCd rfl (λh4=>?_) λh4=>?_
 ·have hk:k<T.flat.length:=by have hq:=h4;omega
  have hst:=QbI (f:=dcE) (d:=default) hk
  have hs2:((T.flat.take (k+1)).map Qh)=((T.flat.take k).map Qh)++[Qh (nth T.flat k)]:=by rw[Q9 (d:=default) hk,List.map_append];rfl
  have hkl9:((T.flat.take k).map Qh).length=k:=by rw[List.length_map,List.length_take];omega
  refine Qcb (λw h=>Rw.some (h.rw_own ev2 aPk rfl) om) λhsm=>aU6 ?_
  refine o_p (Qa rfl rfl rfl QD (k) om om hsm) rfl (o_q (Xz _ rfl rfl ZT rfl (λw h=>Rw.rd (h.rw_own ev2 aPk rfl) hk)) rfl (oAl (λb5 _=>?_) YD))
  refine aU6 ?_
  refine oCq rfl (λw1 h1=>c40 w1 (nth T.flat k) (by have:=(hsm9 _ (Qq hk)).1;omega) (by have:=(hsm9 _ (Qq hk)).2;omega)) (aU3 ?_)
  refine oAl (λb6 _=>?_) Xm
  refine aU9 ?_
  refine sCd rfl (λh7=>?_) λh7=>?_
  ·have hne:¬dcE (nth T.flat k)=0:=by have hq:=h7;simpa using hq
   have hZ:(Xg (⟨co,mo,rm,pln L⟩:Tre) T.flat)=((k:Int),dcE (nth T.flat k)):=by rw[hdo,QtK (k:=k) (e:=dcE (nth T.flat k)) (by rw[hk2];exact hst.trans (if_neg hne)) hne]
   have hLL:(Qcs (⟨co,mo,rm,pln L⟩:Tre) T.flat)=[]:=if_neg (by rw[hZ];exact hne)
   refine aU8 ?_
   exact Qj (rs:=[.tmp 2,.tmp 3,.tmp 4]) rfl (.tmp rfl (.tmp rfl (.tmp rfl (.nil)))) (λw' h'=>⟨(none,0),by rw[hZ,hLL];rfl,trivial,by rw[hLL];exact(h'.own_nil 66 9).ent aEt⟩)
  have he0:dcE (nth T.flat k)=0:=by have hq:=h7;simpa using hq
  have hst3:QB ((T.flat.map dcE).drop k) k=QB ((T.flat.map dcE).drop (k+1)) (k+1):=hst.trans (if_pos he0)
  have hdc:dcD (nth T.flat k)=Qh (nth T.flat k):=if_pos he0
  rw[hdc]
  refine aU4 ?_
  refine o_h (Ql (cs:=[_,_,_,_,_,_,_,_,_]) rfl rfl Zz Xm rfl rfl rfl) rfl (λb8 _=>o_h (QM (n:=((T.flat.take k).map Qh).length) (Qh (nth T.flat k)).vals rfl rfl rfl Zz Tryz.underlying128 Xm rfl aPk (Xp aPk) rfl (dv1 _) om (by simp only[maxLen];omega)) rfl (λb9 _=>aT5 ?_))
  refine aU2 ?_
  exact Qv (k+1,b9) (by dsimp only;omega) (by dsimp only;exact⟨om,by rw[hk2,hst3]⟩) (by dsimp only;rw[hs2,List.length_append];exact aSx) (λw h=>by dsimp only;rw[hs2,List.length_append,QaK];exact h.ent aEt)
 obtain rfl:k=T.flat.length:=by have hq:=h4;omega
 rw[List.take_length]
 have hall:(QB (T.flat.map dcE) 0).2=0:=by rw[hk2,Zw (by rw[List.length_map];exact Nat.le_refl _)]
 have hol:=Qt8 hall
 refine Qg rfl ?_
 refine aU8 ?_
 refine Qo (α:=Nat) [2,3,4,14,15,16,17,58,59,60,61,62,63,64,65,66,67,68,69,70,71,72,73,74,75,76,77,78,79] (λk=>[(58,.int .i64 (k:Int))]) (λk=>HS w [] [.own (.slice A.1 (T.flat.map Qh).length A.2) 66 9 (T.flat.map Qh).length ((T.flat.map Qh).flatMap DEnt.vals)]) (λk=>k<=(T.flat.map Qh).length/\QB ((T.flat.map Qh).map (stE (T.flat.map Qh))) 0=QB (((T.flat.map Qh).map (stE (T.flat.map Qh))).drop k) k) (λk=>(T.flat.map Qh).length-k) 0 ⟨Nat.zero_le _,rfl⟩ aSx (λw h=>h.ent aEt) (λk hkk=>?_)
 obtain⟨hk1,hk2⟩:=hkk
 refine aU5 ?_
 refine sCd rfl (λh10=>?_) λh10=>?_
 ·have hk:k<(T.flat.map Qh).length:=by have hq:=h10;omega
  have hk10:k<10000:=by have hq:=hk;rw[List.length_map]at hq;omega
  have hst:=QbI (f:=stE (T.flat.map Qh)) (d:=default) hk
  refine Qcb (λw h=>Rw.some (h.rw_own dv9 aPk rfl) om) λhsm2=>aU6 ?_
  refine o_p (Qa rfl rfl rfl Zz (k) om om hsm2) rfl (o_q (Xz _ rfl rfl Yq rfl (λw h=>Rw.rd (h.rw_own dv9 aPk rfl) hk)) rfl (oAl (λb11 _=>?_) Xm))
  refine aU7 ?_
  refine oCq rfl (λw1 h1=>c136 w1 (nth (T.flat.map Qh) k) (QeQ (Qc6 hall (Qq hk))).1) (aU2 ?_)
  refine sCd rfl (λh12=>?_) λh12=>?_
  ·have hsv:stE (T.flat.map Qh) (nth (T.flat.map Qh) k)=20:=by have hq:=h12;unfold stE;rw[if_neg (by simpa using hq)]
   have hZ:(Xg (⟨co,mo,rm,pln L⟩:Tre) T.flat)=((k:Int),20):=by rw[hdo,hol,hk2];exact hst.trans (by rw[show(T.flat.map Qh).getD k default=(nth (T.flat.map Qh) k)from rfl,hsv];rfl)
   have hLL:(Qcs (⟨co,mo,rm,pln L⟩:Tre) T.flat)=[]:=if_neg (by rw[hZ];simp)
   refine aU7 ?_
   exact Qj (rs:=[.tmp 2,.tmp 3,.tmp 4]) rfl (.tmp rfl (.tmp rfl (.tmp rfl (.nil)))) (λw' h'=>⟨(none,0),by rw[hZ,hLL];rfl,trivial,by rw[hLL];exact(h'.own_nil 66 9).ent aEt⟩)
  have hfb:Qg0 (nth (T.flat.map Qh) k)=true:=by have hq:=h12;simpa using hq
  refine aU8 ?_
  refine sCd rfl (λh13=>?_) λh13=>?_
  ·have hsv:stE (T.flat.map Qh) (nth (T.flat.map Qh) k)=0:=by have hq:=h13;unfold stE;rw[if_pos hfb,if_pos (by simpa using hq)]
   have hst3:QB (((T.flat.map Qh).map (stE (T.flat.map Qh))).drop k) k=QB (((T.flat.map Qh).map (stE (T.flat.map Qh))).drop (k+1)) (k+1):=hst.trans (if_pos hsv)
   refine Qg rfl ?_
   refine aT2 ?_
   refine aU2 ?_
   exact sBk (k+1) om ⟨om,by rw[hk2,hst3]⟩
  have hs9:¬(nth (T.flat.map Qh) k).sp=2:=by have hq:=h13;simpa using hq
  refine aU5 ?_
  refine oCq rfl (λw1 h1=>c125 w1 A.1 A.2 (T.flat.map Qh) (nth (T.flat.map Qh) k) (h1.rw_own dv9 aPk rfl) (by rw[List.length_map];omega)) (aU3 ?_)
  refine oAl (λb14 _=>?_) Xm
  refine aU8 ?_
  refine sCd rfl (λh15=>?_) λh15=>?_
  ·have hsv:stE (T.flat.map Qh) (nth (T.flat.map Qh) k)=21:=by have hq:=h15;unfold stE;rw[if_pos hfb,if_neg hs9,if_neg (by simpa using hq)]
   have hZ:(Xg (⟨co,mo,rm,pln L⟩:Tre) T.flat)=((k:Int),21):=by rw[hdo,hol,hk2];exact hst.trans (by rw[show(T.flat.map Qh).getD k default=(nth (T.flat.map Qh) k)from rfl,hsv];rfl)
   have hLL:(Qcs (⟨co,mo,rm,pln L⟩:Tre) T.flat)=[]:=if_neg (by rw[hZ];simp)
   refine aU ?_
   refine Qe (L':=[(9,_),(14,_),(35,_),(36,_),(37,_),(38,_),(56,_),(57,_),(58,_)]) aSx (λ_ h=>h) ?_
   refine aU6 ?_
   exact Qj (rs:=[.tmp 2,.tmp 3,.tmp 4]) rfl (.tmp rfl (.tmp rfl (.tmp rfl (.nil)))) (λw' h'=>⟨(none,0),by rw[hZ,hLL];rfl,trivial,by rw[hLL];exact(h'.own_nil 66 9).ent aEt⟩)
  have hsv:stE (T.flat.map Qh) (nth (T.flat.map Qh) k)=0:=by have hq:=h15;unfold stE;rw[if_pos hfb,if_neg hs9,if_pos (by simpa using hq)]
  have hst3:QB (((T.flat.map Qh).map (stE (T.flat.map Qh))).drop k) k=QB (((T.flat.map Qh).map (stE (T.flat.map Qh))).drop (k+1)) (k+1):=hst.trans (if_pos hsv)
  refine aU2 ?_
  refine Qe (L':=[(9,_),(35,_),(36,_),(37,_),(38,_),(56,_),(57,_),(58,_)]) aSx (λ_ h=>h) ?_
  refine aT2 ?_
  refine aU2 ?_
  exact sBk (k+1) om ⟨om,by rw[hk2,hst3]⟩
 obtain rfl:k=(T.flat.map Qh).length:=by have hq:=h10;omega
 have hZ:(Xg (⟨co,mo,rm,pln L⟩:Tre) T.flat)=(0,0):=by rw[hdo,hol,hk2,Zw (by rw[List.length_map];exact Nat.le_refl _)]
 have hLL:(Qcs (⟨co,mo,rm,pln L⟩:Tre) T.flat)=(T.flat.map Qh):=if_pos (by rw[hZ])
 refine Qg rfl ?_
 refine aU7 ?_
 exact Qj (rs:=[.tmp 2,.tmp 3,.tmp 4]) rfl (.tmp rfl (.tmp rfl (.tmp rfl (.nil)))) (λw' h'=>⟨A,by rw[hZ,hLL];rfl,trivial,by rw[hLL];exact h'.ent aEt⟩)
theorem QtZ:QL Tryz.prog 86=true:=by kernel_rfl
theorem QvU:QL Tryz.prog 121=true:=by kernel_rfl
theorem XL:tsl Tryz.prog 33=some (66,9,88):=by kernel_rfl
def QhA(l:List DEnt)(e:DEnt):Bool:=decide (e.sp=2)||Qhs l e
theorem Qt0{ds:List DEnt}{e:DEnt}:stE ds e=if Qg0 e=true then if QhA ds e=true then 0 else 21 else 20:=by
  unfold stE QhA
  by_cases h:e.sp=2<;>simp[h]
theorem XY{l:List DEnt}{e:DEnt}{k:Nat}(hk:k<l.length)(h:prB e (nth l k)=true):Qhs l e=true:=by
  rw[Qmc,List.any_eq_true];exact⟨_,Qq hk,h⟩
theorem QpP{l:List DEnt}{e:DEnt}(h:∀j,j<l.length->prB e (nth l j)=false):Qhs l e=false:=by
  rw[Qmc,List.any_eq_false];intro x hx;obtain⟨i,hi,rfl⟩:=List.getElem_of_mem hx;have h6:nth l i=l[i]:=by unfold nth;rw[List.getD_eq_getElem?_getD,List.getElem?_eq_getElem hi];rfl
  rw[<-h6,h i hi];simp
theorem Qjh{t:Tre}{X:List TEnt}(h:(Xg t X).2=0):(XD t).2=0/\t.co=1/\(QB (X.map dcE) 0).2=0/\Qcs t X=X.map Qh:=by
  have hL:Qcs t X=X.map Qh:=if_pos h;unfold Xg at h;split at h
  · rename_i h0;split at h
    · rename_i h1;refine⟨h0,h1,?_,hL⟩;unfold QnW at h;split at h
      · assumption
      · exact h
    · cases h
  · rename_i h0;exact absurd h h0
theorem c94(w:World)(e:DEnt)(h0:QI e.nm=0)(hsp:0<=e.sp/\e.sp<=2):CR 94 #[.agg #[.string (bs e.nm),.int .i64 e.sp,.string (bs e.ot),.int .i64 e.re,.int .i64 e.sq,.int .i64 e.fl,.int .i64 e.tm,.int .i64 e.al,.int .i64 e.sz]] w (.bool (Qg0 e)):=by
 obtain⟨hl1,hl⟩:=Qcu h0
 refine eN1 Tryz.func94 Tryz.ntmps94 ?_
 refine aU2 ?_
 refine oBx λb1 _=>?_
 refine aU3 ?_
 refine QG [] mixed ?_
 refine dQ 0 [] rfl (Qz rfl QtZ rfl (λw1 h1=>c86 w1)) (dFa 1 ?_)
 refine dLd 2 [] ?_
 refine dQ 3 [] rfl (Qz rfl QvU rfl (λw1 h1=>c121 w1 Yz e.nm Qap hl1 om)) (dP 4 ?_)
 refine dNi ?_
 refine aU7 ?_
 refine sCd rfl (λh2=>?_) λh2=>?_
 ·have h1:e.sp=1:=h2
  refine aU4 ?_
  refine oCq rfl (λw1 h1=>c158 w1 e.nm om) (aU2 ?_)
  exact rV (h:=by rw[Qg0,if_neg om,if_neg om];rfl)
 have h1:¬e.sp=1:=h2
 refine aU7 ?_
 refine o_p (QdG rfl rfl rfl Tryz.underlying4) rfl (aU2 ?_)
 exact rV (h:=by simp only[Qt,Qg0,QlS];by_cases h2:e.sp=0;(rw[if_neg om,if_pos h2,decide_eq_true h2];simp);(rw[if_pos om,decide_eq_false h2];simp))
set_option maxHeartbeats 4000000 in
theorem c95(w:World)(a:Option Addr)(cap:Nat)(l:List DEnt)(e:DEnt)(hs:Rw DEnt.vals 9 w [] a l)(hm:l.length<=100000)(hsp:0<=e.sp/\e.sp<=2):CR 95 #[.slice a l.length cap,.agg #[.string (bs e.nm),.int .i64 e.sp,.string (bs e.ot),.int .i64 e.re,.int .i64 e.sq,.int .i64 e.fl,.int .i64 e.tm,.int .i64 e.al,.int .i64 e.sz]] w (.bool (QhA l e)):=by
 refine eN2 Tryz.func95 Tryz.ntmps95 ?_
 refine aU2 ?_
 refine oBx λb1 _=>?_
 refine aU9 ?_
 refine sCd rfl (λh2=>?_) λh2=>?_
 ·have h1:e.sp=2:=h2
  refine aU4 ?_
  exact rV (h:=by unfold QhA;rw[decide_eq_true h1];rfl)
 have h1:¬e.sp=2:=h2
 have hp9:QhA l e=Qhs l e:=by unfold QhA;rw[decide_eq_false h1];rfl
 refine aU7 ?_
 refine Qo (α:=Nat) [4,5,9,10,11,12,13,14,15,16,17,18,19,20,21,22,23,24,25,26,27,28,29,30,31,32,33,34,35,36,37,38,39,40,41,42,43,44,45,46,47,48,49,50,51,52,53,54,55,56,57,58,59,60,61,62,63] (λk=>[(5,.int .i64 (k:Int))]) (λ_=>HS w [] [.blk b1 66 9 [.string (bs e.nm),.int .i64 e.sp,.string (bs e.ot),.int .i64 e.re,.int .i64 e.sq,.int .i64 e.fl,.int .i64 e.tm,.int .i64 e.al,.int .i64 e.sz]]) (λk=>k<=l.length/\∀j,j<k->prB e (nth l j)=false) (λk=>l.length-k) 0 ⟨Nat.zero_le _,λj h=>absurd h (Nat.not_lt_zero j)⟩ aSx (λw h=>h.ent aEt) (λk hkk=>?_)
 obtain⟨hk1,hk2⟩:=hkk
 refine aU8 ?_
 refine sCd rfl (λh3=>?_) λh3=>?_
 ·have hk:k<l.length:=by have hq:=h3;omega
  refine aU4 ?_
  refine QG [] mixed ?_
  refine dP 0 ?_
  refine dP 1 ?_
  refine dV 2 rfl (Qa rfl rfl rfl XL (k) om om (Rw.some hs om)) (dFa 3 ?_)
  refine dQ 4 [] rfl (Qb rfl rfl YB ((hs.rdj 0 hk rfl))) (dFa 5 ?_)
  refine dLd 6 [] ?_
  refine dP 7 ?_
  refine dP 8 ?_
  apply QE 23
  ·exact rfl
  ·intro hg4
   have hs5:=hg4;try simp only[dT]at hs5
   refine dPo 9 23 hg4 ?_
   refine dPo 10 23 hg4 ?_
   refine dVo 11 23 hg4 rfl rfl rfl (Qa rfl rfl rfl XL (k) om om (Rw.some hs om)) ?_
   refine dFo 12 23 hg4 ?_
   refine dQo 13 23 [] hg4 rfl rfl rfl (Qb rfl rfl YB ((hs.rdj 2 hk rfl))) ?_
   refine dFo 14 23 hg4 ?_
   refine dQo 15 23 [] hg4 rfl rfl rfl (YN rfl rfl YB aPk rfl) ?_
   refine dPo 16 23 hg4 ?_
   refine dV 17 rfl (QF rfl rfl hg4 rfl) (dP 18 ?_)
   apply QE 33
   ·exact rfl
   ·intro hg6
    have hs7:=hg6;try simp only[dT]at hs7
    refine dPo 19 33 hg6 ?_
    refine dPo 20 33 hg6 ?_
    refine dVo 21 33 hg6 rfl rfl rfl (Qa rfl rfl rfl XL (k) om om (Rw.some hs om)) ?_
    refine dFo 22 33 hg6 ?_
    refine dQo 23 33 [] hg6 rfl rfl rfl (Qb rfl rfl Y2 ((hs.rdj 1 hk rfl))) ?_
    refine dFo 24 33 hg6 ?_
    refine dQo 25 33 [] hg6 rfl rfl rfl (YN rfl rfl Y2 aPk rfl) ?_
    refine dPo 26 33 hg6 ?_
    try refine dWr ?_
    refine dPo 27 33 hg6 ?_
    refine dV 28 rfl (QF rfl rfl hg6 rfl) (dP 29 ?_)
    apply QE 44
    ·exact rfl
    ·intro hg8
     have hs9:=hg8;try simp only[dT]at hs9
     refine dPo 30 44 hg8 ?_
     refine dPo 31 44 hg8 ?_
     refine dVo 32 44 hg8 rfl rfl rfl (Qa rfl rfl rfl XL (k) om om (Rw.some hs om)) ?_
     refine dFo 33 44 hg8 ?_
     refine dQo 34 44 [] hg8 rfl rfl rfl (Qn _ rfl rfl Qah rfl (Qgh hs hk)) ?_
     refine dFo 35 44 hg8 ?_
     refine dQo 36 44 [] hg8 rfl rfl rfl (Xq rfl rfl Qah aPk rfl) ?_
     refine dVo 37 44 hg8 rfl rfl rfl (Xj rfl rfl rfl QdL (by rfl) (by rfl) (by rfl)) ?_
     refine dV 38 rfl (QF rfl rfl hg8 rfl) (dP 39 ?_)
     apply QE 54
     ·exact rfl
     ·intro hg10
      have hs11:=hg10;try simp only[Bool.and_eq_true,decide_eq_true_eq]at hs11
      refine dPo 40 54 hg10 ?_
      refine dPo 41 54 hg10 ?_
      refine dVo 42 54 hg10 rfl rfl rfl (Qa rfl rfl rfl XL (k) om om (Rw.some hs om)) ?_
      refine dFo 43 54 hg10 ?_
      refine dQo 44 54 [] hg10 rfl rfl rfl (Qn _ rfl rfl Zo rfl (Qcv hs hk)) ?_
      refine dFo 45 54 hg10 ?_
      refine dQo 46 54 [] hg10 rfl rfl rfl (Xq rfl rfl Zo aPk rfl) ?_
      refine dVo 47 54 hg10 rfl rfl rfl (Xj rfl rfl rfl QbX (by rfl) (by rfl) (by rfl)) ?_
      refine dV 48 rfl (QF rfl rfl hg10 rfl) (dNi ?_)
      refine sCd rfl (λh12=>?_) λh12=>?_
      ·have hp:prB e (nth l k)=true:=by have hq:=h12;unfold prB;grind
       refine aU ?_
       refine Qe (L':=[(0,_),(1,_),(3,_),(5,_),(6,_),(7,_),(8,_)]) aSx (λ_ h=>h) ?_
       refine aU3 ?_
       exact rV (h:=by first|(rw[hp9,XY hk hp];rfl)|(rw[hp9,hno];rfl))
      have hp:prB e (nth l k)=false:=by have hq:=h12;unfold prB;grind
      refine aU2 ?_
      refine Qe (L':=[(0,_),(1,_),(3,_),(5,_),(6,_),(7,_),(8,_)]) aSx (λ_ h=>h) ?_
      refine aT3 ?_
      refine aU2 ?_
      exact sBk (k+1) om ⟨om,λj hj=>(Nat.lt_succ_iff_lt_or_eq.1 hj).elim (hk2 j) (λe9=>by rw[e9];exact hp)⟩
     intro hg13
     have hs14:=hg13;try simp only[Bool.and_eq_false_iff,decide_eq_false_iff_not]at hs14
     refine dOf 40 54 hg13 ?_
     refine dOf 41 54 hg13 ?_
     refine dOf 42 54 hg13 ?_
     refine dOf 43 54 hg13 ?_
     refine dOf 44 54 hg13 ?_
     refine dOf 45 54 hg13 ?_
     refine dOf 46 54 hg13 ?_
     refine dOf 47 54 hg13 ?_
     refine dV 48 rfl (Qx rfl rfl hg13 rfl) (dNi ?_)
     refine sCd rfl (λh15=>?_) λh15=>?_
     ·have hp:prB e (nth l k)=true:=by have hq:=h15;unfold prB;grind
      refine aU ?_
      refine Qe (L':=[(0,_),(1,_),(3,_),(5,_),(6,_),(7,_),(8,_)]) aSx (λ_ h=>h) ?_
      refine aU3 ?_
      exact rV (h:=by first|(rw[hp9,XY hk hp];rfl)|(rw[hp9,hno];rfl))
     have hp:prB e (nth l k)=false:=by have hq:=h15;unfold prB;grind
     refine aU2 ?_
     refine Qe (L':=[(0,_),(1,_),(3,_),(5,_),(6,_),(7,_),(8,_)]) aSx (λ_ h=>h) ?_
     refine aT3 ?_
     refine aU2 ?_
     exact sBk (k+1) om ⟨om,λj hj=>(Nat.lt_succ_iff_lt_or_eq.1 hj).elim (hk2 j) (λe9=>by rw[e9];exact hp)⟩
    intro hg16
    have hs17:=hg16;try simp only[dN]at hs17
    refine dOf 30 44 hg16 ?_
    refine dOf 31 44 hg16 ?_
    refine dOf 32 44 hg16 ?_
    refine dOf 33 44 hg16 ?_
    refine dOf 34 44 hg16 ?_
    refine dOf 35 44 hg16 ?_
    refine dOf 36 44 hg16 ?_
    refine dOf 37 44 hg16 ?_
    refine dV 38 rfl (Qx rfl rfl hg16 rfl) (dP 39 ?_)
    apply QE 54
    ·exact rfl
    ·intro hg18
     have hs19:=hg18;skip
     refine dPo 40 54 hg18 ?_
     refine dPo 41 54 hg18 ?_
     refine dVo 42 54 hg18 rfl rfl rfl (Qa rfl rfl rfl XL (k) om om (Rw.some hs om)) ?_
     refine dFo 43 54 hg18 ?_
     refine dQo 44 54 [] hg18 rfl rfl rfl (Qn _ rfl rfl Zo rfl (Qcv hs hk)) ?_
     refine dFo 45 54 hg18 ?_
     refine dQo 46 54 [] hg18 rfl rfl rfl (Xq rfl rfl Zo aPk rfl) ?_
     refine dVo 47 54 hg18 rfl rfl rfl (Xj rfl rfl rfl QbX (by rfl) (by rfl) (by rfl)) ?_
     refine dV 48 rfl (QF rfl rfl hg18 rfl) (dNi ?_)
     refine sCd rfl (λh20=>?_) λh20=>?_
     ·have hp:prB e (nth l k)=true:=by have hq:=h20;unfold prB;grind
      refine aU ?_
      refine Qe (L':=[(0,_),(1,_),(3,_),(5,_),(6,_),(7,_),(8,_)]) aSx (λ_ h=>h) ?_
      refine aU3 ?_
      exact rV (h:=by first|(rw[hp9,XY hk hp];rfl)|(rw[hp9,hno];rfl))
     have hp:prB e (nth l k)=false:=by have hq:=h20;unfold prB;grind
     refine aU2 ?_
     refine Qe (L':=[(0,_),(1,_),(3,_),(5,_),(6,_),(7,_),(8,_)]) aSx (λ_ h=>h) ?_
     refine aT3 ?_
     refine aU2 ?_
     exact sBk (k+1) om ⟨om,λj hj=>(Nat.lt_succ_iff_lt_or_eq.1 hj).elim (hk2 j) (λe9=>by rw[e9];exact hp)⟩
    intro hg21
    have hs22:=hg21;skip
    refine dOf 40 54 hg21 ?_
    refine dOf 41 54 hg21 ?_
    refine dOf 42 54 hg21 ?_
    refine dOf 43 54 hg21 ?_
    refine dOf 44 54 hg21 ?_
    refine dOf 45 54 hg21 ?_
    refine dOf 46 54 hg21 ?_
    refine dOf 47 54 hg21 ?_
    refine dV 48 rfl (Qx rfl rfl hg21 rfl) (dNi ?_)
    refine sCd rfl (λh23=>?_) λh23=>?_
    ·have hp:prB e (nth l k)=true:=by have hq:=h23;unfold prB;grind
     refine aU ?_
     refine Qe (L':=[(0,_),(1,_),(3,_),(5,_),(6,_),(7,_),(8,_)]) aSx (λ_ h=>h) ?_
     refine aU3 ?_
     exact rV (h:=by first|(rw[hp9,XY hk hp];rfl)|(rw[hp9,hno];rfl))
    have hp:prB e (nth l k)=false:=by have hq:=h23;unfold prB;grind
    refine aU2 ?_
    refine Qe (L':=[(0,_),(1,_),(3,_),(5,_),(6,_),(7,_),(8,_)]) aSx (λ_ h=>h) ?_
    refine aT3 ?_
    refine aU2 ?_
    exact sBk (k+1) om ⟨om,λj hj=>(Nat.lt_succ_iff_lt_or_eq.1 hj).elim (hk2 j) (λe9=>by rw[e9];exact hp)⟩
   intro hg24
   have hs25:=hg24;try simp only[dN]at hs25
   refine dOf 19 33 hg24 ?_
   refine dOf 20 33 hg24 ?_
   refine dOf 21 33 hg24 ?_
   refine dOf 22 33 hg24 ?_
   refine dOf 23 33 hg24 ?_
   refine dOf 24 33 hg24 ?_
   refine dOf 25 33 hg24 ?_
   refine dOf 26 33 hg24 ?_
   refine dOf 27 33 hg24 ?_
   refine dV 28 rfl (Qx rfl rfl hg24 rfl) (dP 29 ?_)
   apply QE 44
   ·exact rfl
   ·intro hg26
    have hs27:=hg26;skip
    refine dPo 30 44 hg26 ?_
    refine dPo 31 44 hg26 ?_
    refine dVo 32 44 hg26 rfl rfl rfl (Qa rfl rfl rfl XL (k) om om (Rw.some hs om)) ?_
    refine dFo 33 44 hg26 ?_
    refine dQo 34 44 [] hg26 rfl rfl rfl (Qn _ rfl rfl Qah rfl (Qgh hs hk)) ?_
    refine dFo 35 44 hg26 ?_
    refine dQo 36 44 [] hg26 rfl rfl rfl (Xq rfl rfl Qah aPk rfl) ?_
    refine dVo 37 44 hg26 rfl rfl rfl (Xj rfl rfl rfl QdL (by rfl) (by rfl) (by rfl)) ?_
    refine dV 38 rfl (QF rfl rfl hg26 rfl) (dP 39 ?_)
    apply QE 54
    ·exact rfl
    ·intro hg28
     have hs29:=hg28;try simp only[Bool.and_eq_true,decide_eq_true_eq]at hs29
     refine dPo 40 54 hg28 ?_
     refine dPo 41 54 hg28 ?_
     refine dVo 42 54 hg28 rfl rfl rfl (Qa rfl rfl rfl XL (k) om om (Rw.some hs om)) ?_
     refine dFo 43 54 hg28 ?_
     refine dQo 44 54 [] hg28 rfl rfl rfl (Qn _ rfl rfl Zo rfl (Qcv hs hk)) ?_
     refine dFo 45 54 hg28 ?_
     refine dQo 46 54 [] hg28 rfl rfl rfl (Xq rfl rfl Zo aPk rfl) ?_
     refine dVo 47 54 hg28 rfl rfl rfl (Xj rfl rfl rfl QbX (by rfl) (by rfl) (by rfl)) ?_
     refine dV 48 rfl (QF rfl rfl hg28 rfl) (dNi ?_)
     refine sCd rfl (λh30=>?_) λh30=>?_
     ·have hp:prB e (nth l k)=true:=by have hq:=h30;unfold prB;grind
      refine aU ?_
      refine Qe (L':=[(0,_),(1,_),(3,_),(5,_),(6,_),(7,_),(8,_)]) aSx (λ_ h=>h) ?_
      refine aU3 ?_
      exact rV (h:=by first|(rw[hp9,XY hk hp];rfl)|(rw[hp9,hno];rfl))
     have hp:prB e (nth l k)=false:=by have hq:=h30;unfold prB;grind
     refine aU2 ?_
     refine Qe (L':=[(0,_),(1,_),(3,_),(5,_),(6,_),(7,_),(8,_)]) aSx (λ_ h=>h) ?_
     refine aT3 ?_
     refine aU2 ?_
     exact sBk (k+1) om ⟨om,λj hj=>(Nat.lt_succ_iff_lt_or_eq.1 hj).elim (hk2 j) (λe9=>by rw[e9];exact hp)⟩
    intro hg31
    have hs32:=hg31;try simp only[Bool.and_eq_false_iff,decide_eq_false_iff_not]at hs32
    refine dOf 40 54 hg31 ?_
    refine dOf 41 54 hg31 ?_
    refine dOf 42 54 hg31 ?_
    refine dOf 43 54 hg31 ?_
    refine dOf 44 54 hg31 ?_
    refine dOf 45 54 hg31 ?_
    refine dOf 46 54 hg31 ?_
    refine dOf 47 54 hg31 ?_
    refine dV 48 rfl (Qx rfl rfl hg31 rfl) (dNi ?_)
    refine sCd rfl (λh33=>?_) λh33=>?_
    ·have hp:prB e (nth l k)=true:=by have hq:=h33;unfold prB;grind
     refine aU ?_
     refine Qe (L':=[(0,_),(1,_),(3,_),(5,_),(6,_),(7,_),(8,_)]) aSx (λ_ h=>h) ?_
     refine aU3 ?_
     exact rV (h:=by first|(rw[hp9,XY hk hp];rfl)|(rw[hp9,hno];rfl))
    have hp:prB e (nth l k)=false:=by have hq:=h33;unfold prB;grind
    refine aU2 ?_
    refine Qe (L':=[(0,_),(1,_),(3,_),(5,_),(6,_),(7,_),(8,_)]) aSx (λ_ h=>h) ?_
    refine aT3 ?_
    refine aU2 ?_
    exact sBk (k+1) om ⟨om,λj hj=>(Nat.lt_succ_iff_lt_or_eq.1 hj).elim (hk2 j) (λe9=>by rw[e9];exact hp)⟩
   intro hg34
   have hs35:=hg34;skip
   refine dOf 30 44 hg34 ?_
   refine dOf 31 44 hg34 ?_
   refine dOf 32 44 hg34 ?_
   refine dOf 33 44 hg34 ?_
   refine dOf 34 44 hg34 ?_
   refine dOf 35 44 hg34 ?_
   refine dOf 36 44 hg34 ?_
   refine dOf 37 44 hg34 ?_
   refine dV 38 rfl (Qx rfl rfl hg34 rfl) (dP 39 ?_)
   apply QE 54
   ·exact rfl
   ·intro hg36
    have hs37:=hg36;skip
    refine dPo 40 54 hg36 ?_
    refine dPo 41 54 hg36 ?_
    refine dVo 42 54 hg36 rfl rfl rfl (Qa rfl rfl rfl XL (k) om om (Rw.some hs om)) ?_
    refine dFo 43 54 hg36 ?_
    refine dQo 44 54 [] hg36 rfl rfl rfl (Qn _ rfl rfl Zo rfl (Qcv hs hk)) ?_
    refine dFo 45 54 hg36 ?_
    refine dQo 46 54 [] hg36 rfl rfl rfl (Xq rfl rfl Zo aPk rfl) ?_
    refine dVo 47 54 hg36 rfl rfl rfl (Xj rfl rfl rfl QbX (by rfl) (by rfl) (by rfl)) ?_
    refine dV 48 rfl (QF rfl rfl hg36 rfl) (dNi ?_)
    refine sCd rfl (λh38=>?_) λh38=>?_
    ·have hp:prB e (nth l k)=true:=by have hq:=h38;unfold prB;grind
     refine aU ?_
     refine Qe (L':=[(0,_),(1,_),(3,_),(5,_),(6,_),(7,_),(8,_)]) aSx (λ_ h=>h) ?_
     refine aU3 ?_
     exact rV (h:=by first|(rw[hp9,XY hk hp];rfl)|(rw[hp9,hno];rfl))
    have hp:prB e (nth l k)=false:=by have hq:=h38;unfold prB;grind
    refine aU2 ?_
    refine Qe (L':=[(0,_),(1,_),(3,_),(5,_),(6,_),(7,_),(8,_)]) aSx (λ_ h=>h) ?_
    refine aT3 ?_
    refine aU2 ?_
    exact sBk (k+1) om ⟨om,λj hj=>(Nat.lt_succ_iff_lt_or_eq.1 hj).elim (hk2 j) (λe9=>by rw[e9];exact hp)⟩
   intro hg39
   have hs40:=hg39;skip
   refine dOf 40 54 hg39 ?_
   refine dOf 41 54 hg39 ?_
   refine dOf 42 54 hg39 ?_
   refine dOf 43 54 hg39 ?_
   refine dOf 44 54 hg39 ?_
   refine dOf 45 54 hg39 ?_
   refine dOf 46 54 hg39 ?_
   refine dOf 47 54 hg39 ?_
   refine dV 48 rfl (Qx rfl rfl hg39 rfl) (dNi ?_)
   refine sCd rfl (λh41=>?_) λh41=>?_
   ·have hp:prB e (nth l k)=true:=by have hq:=h41;unfold prB;grind
    refine aU ?_
    refine Qe (L':=[(0,_),(1,_),(3,_),(5,_),(6,_),(7,_),(8,_)]) aSx (λ_ h=>h) ?_
    refine aU3 ?_
    exact rV (h:=by first|(rw[hp9,XY hk hp];rfl)|(rw[hp9,hno];rfl))
   have hp:prB e (nth l k)=false:=by have hq:=h41;unfold prB;grind
   refine aU2 ?_
   refine Qe (L':=[(0,_),(1,_),(3,_),(5,_),(6,_),(7,_),(8,_)]) aSx (λ_ h=>h) ?_
   refine aT3 ?_
   refine aU2 ?_
   exact sBk (k+1) om ⟨om,λj hj=>(Nat.lt_succ_iff_lt_or_eq.1 hj).elim (hk2 j) (λe9=>by rw[e9];exact hp)⟩
  intro hg42
  have hs43:=hg42;try simp only[dN]at hs43
  refine dOf 9 23 hg42 ?_
  refine dOf 10 23 hg42 ?_
  refine dOf 11 23 hg42 ?_
  refine dOf 12 23 hg42 ?_
  refine dOf 13 23 hg42 ?_
  refine dOf 14 23 hg42 ?_
  refine dOf 15 23 hg42 ?_
  refine dOf 16 23 hg42 ?_
  refine dV 17 rfl (Qx rfl rfl hg42 rfl) (dP 18 ?_)
  apply QE 33
  ·exact rfl
  ·intro hg44
   have hs45:=hg44;skip
   refine dPo 19 33 hg44 ?_
   refine dPo 20 33 hg44 ?_
   refine dVo 21 33 hg44 rfl rfl rfl (Qa rfl rfl rfl XL (k) om om (Rw.some hs om)) ?_
   refine dFo 22 33 hg44 ?_
   refine dQo 23 33 [] hg44 rfl rfl rfl (Qb rfl rfl Y2 ((hs.rdj 1 hk rfl))) ?_
   refine dFo 24 33 hg44 ?_
   refine dQo 25 33 [] hg44 rfl rfl rfl (YN rfl rfl Y2 aPk rfl) ?_
   refine dPo 26 33 hg44 ?_
   try refine dWr ?_
   refine dPo 27 33 hg44 ?_
   refine dV 28 rfl (QF rfl rfl hg44 rfl) (dP 29 ?_)
   apply QE 44
   ·exact rfl
   ·intro hg46
    have hs47:=hg46;try simp only[dT]at hs47
    refine dPo 30 44 hg46 ?_
    refine dPo 31 44 hg46 ?_
    refine dVo 32 44 hg46 rfl rfl rfl (Qa rfl rfl rfl XL (k) om om (Rw.some hs om)) ?_
    refine dFo 33 44 hg46 ?_
    refine dQo 34 44 [] hg46 rfl rfl rfl (Qn _ rfl rfl Qah rfl (Qgh hs hk)) ?_
    refine dFo 35 44 hg46 ?_
    refine dQo 36 44 [] hg46 rfl rfl rfl (Xq rfl rfl Qah aPk rfl) ?_
    refine dVo 37 44 hg46 rfl rfl rfl (Xj rfl rfl rfl QdL (by rfl) (by rfl) (by rfl)) ?_
    refine dV 38 rfl (QF rfl rfl hg46 rfl) (dP 39 ?_)
    apply QE 54
    ·exact rfl
    ·intro hg48
     have hs49:=hg48;try simp only[Bool.and_eq_true,decide_eq_true_eq]at hs49
     refine dPo 40 54 hg48 ?_
     refine dPo 41 54 hg48 ?_
     refine dVo 42 54 hg48 rfl rfl rfl (Qa rfl rfl rfl XL (k) om om (Rw.some hs om)) ?_
     refine dFo 43 54 hg48 ?_
     refine dQo 44 54 [] hg48 rfl rfl rfl (Qn _ rfl rfl Zo rfl (Qcv hs hk)) ?_
     refine dFo 45 54 hg48 ?_
     refine dQo 46 54 [] hg48 rfl rfl rfl (Xq rfl rfl Zo aPk rfl) ?_
     refine dVo 47 54 hg48 rfl rfl rfl (Xj rfl rfl rfl QbX (by rfl) (by rfl) (by rfl)) ?_
     refine dV 48 rfl (QF rfl rfl hg48 rfl) (dNi ?_)
     refine sCd rfl (λh50=>?_) λh50=>?_
     ·have hp:prB e (nth l k)=true:=by have hq:=h50;unfold prB;grind
      refine aU ?_
      refine Qe (L':=[(0,_),(1,_),(3,_),(5,_),(6,_),(7,_),(8,_)]) aSx (λ_ h=>h) ?_
      refine aU3 ?_
      exact rV (h:=by first|(rw[hp9,XY hk hp];rfl)|(rw[hp9,hno];rfl))
     have hp:prB e (nth l k)=false:=by have hq:=h50;unfold prB;grind
     refine aU2 ?_
     refine Qe (L':=[(0,_),(1,_),(3,_),(5,_),(6,_),(7,_),(8,_)]) aSx (λ_ h=>h) ?_
     refine aT3 ?_
     refine aU2 ?_
     exact sBk (k+1) om ⟨om,λj hj=>(Nat.lt_succ_iff_lt_or_eq.1 hj).elim (hk2 j) (λe9=>by rw[e9];exact hp)⟩
    intro hg51
    have hs52:=hg51;try simp only[Bool.and_eq_false_iff,decide_eq_false_iff_not]at hs52
    refine dOf 40 54 hg51 ?_
    refine dOf 41 54 hg51 ?_
    refine dOf 42 54 hg51 ?_
    refine dOf 43 54 hg51 ?_
    refine dOf 44 54 hg51 ?_
    refine dOf 45 54 hg51 ?_
    refine dOf 46 54 hg51 ?_
    refine dOf 47 54 hg51 ?_
    refine dV 48 rfl (Qx rfl rfl hg51 rfl) (dNi ?_)
    refine sCd rfl (λh53=>?_) λh53=>?_
    ·have hp:prB e (nth l k)=true:=by have hq:=h53;unfold prB;grind
     refine aU ?_
     refine Qe (L':=[(0,_),(1,_),(3,_),(5,_),(6,_),(7,_),(8,_)]) aSx (λ_ h=>h) ?_
     refine aU3 ?_
     exact rV (h:=by first|(rw[hp9,XY hk hp];rfl)|(rw[hp9,hno];rfl))
    have hp:prB e (nth l k)=false:=by have hq:=h53;unfold prB;grind
    refine aU2 ?_
    refine Qe (L':=[(0,_),(1,_),(3,_),(5,_),(6,_),(7,_),(8,_)]) aSx (λ_ h=>h) ?_
    refine aT3 ?_
    refine aU2 ?_
    exact sBk (k+1) om ⟨om,λj hj=>(Nat.lt_succ_iff_lt_or_eq.1 hj).elim (hk2 j) (λe9=>by rw[e9];exact hp)⟩
   intro hg54
   have hs55:=hg54;try simp only[dN]at hs55
   refine dOf 30 44 hg54 ?_
   refine dOf 31 44 hg54 ?_
   refine dOf 32 44 hg54 ?_
   refine dOf 33 44 hg54 ?_
   refine dOf 34 44 hg54 ?_
   refine dOf 35 44 hg54 ?_
   refine dOf 36 44 hg54 ?_
   refine dOf 37 44 hg54 ?_
   refine dV 38 rfl (Qx rfl rfl hg54 rfl) (dP 39 ?_)
   apply QE 54
   ·exact rfl
   ·intro hg56
    have hs57:=hg56;skip
    refine dPo 40 54 hg56 ?_
    refine dPo 41 54 hg56 ?_
    refine dVo 42 54 hg56 rfl rfl rfl (Qa rfl rfl rfl XL (k) om om (Rw.some hs om)) ?_
    refine dFo 43 54 hg56 ?_
    refine dQo 44 54 [] hg56 rfl rfl rfl (Qn _ rfl rfl Zo rfl (Qcv hs hk)) ?_
    refine dFo 45 54 hg56 ?_
    refine dQo 46 54 [] hg56 rfl rfl rfl (Xq rfl rfl Zo aPk rfl) ?_
    refine dVo 47 54 hg56 rfl rfl rfl (Xj rfl rfl rfl QbX (by rfl) (by rfl) (by rfl)) ?_
    refine dV 48 rfl (QF rfl rfl hg56 rfl) (dNi ?_)
    refine sCd rfl (λh58=>?_) λh58=>?_
    ·have hp:prB e (nth l k)=true:=by have hq:=h58;unfold prB;grind
     refine aU ?_
     refine Qe (L':=[(0,_),(1,_),(3,_),(5,_),(6,_),(7,_),(8,_)]) aSx (λ_ h=>h) ?_
     refine aU3 ?_
     exact rV (h:=by first|(rw[hp9,XY hk hp];rfl)|(rw[hp9,hno];rfl))
    have hp:prB e (nth l k)=false:=by have hq:=h58;unfold prB;grind
    refine aU2 ?_
    refine Qe (L':=[(0,_),(1,_),(3,_),(5,_),(6,_),(7,_),(8,_)]) aSx (λ_ h=>h) ?_
    refine aT3 ?_
    refine aU2 ?_
    exact sBk (k+1) om ⟨om,λj hj=>(Nat.lt_succ_iff_lt_or_eq.1 hj).elim (hk2 j) (λe9=>by rw[e9];exact hp)⟩
   intro hg59
   have hs60:=hg59;skip
   refine dOf 40 54 hg59 ?_
   refine dOf 41 54 hg59 ?_
   refine dOf 42 54 hg59 ?_
   refine dOf 43 54 hg59 ?_
   refine dOf 44 54 hg59 ?_
   refine dOf 45 54 hg59 ?_
   refine dOf 46 54 hg59 ?_
   refine dOf 47 54 hg59 ?_
   refine dV 48 rfl (Qx rfl rfl hg59 rfl) (dNi ?_)
   refine sCd rfl (λh61=>?_) λh61=>?_
   ·have hp:prB e (nth l k)=true:=by have hq:=h61;unfold prB;grind
    refine aU ?_
    refine Qe (L':=[(0,_),(1,_),(3,_),(5,_),(6,_),(7,_),(8,_)]) aSx (λ_ h=>h) ?_
    refine aU3 ?_
    exact rV (h:=by first|(rw[hp9,XY hk hp];rfl)|(rw[hp9,hno];rfl))
   have hp:prB e (nth l k)=false:=by have hq:=h61;unfold prB;grind
   refine aU2 ?_
   refine Qe (L':=[(0,_),(1,_),(3,_),(5,_),(6,_),(7,_),(8,_)]) aSx (λ_ h=>h) ?_
   refine aT3 ?_
   refine aU2 ?_
   exact sBk (k+1) om ⟨om,λj hj=>(Nat.lt_succ_iff_lt_or_eq.1 hj).elim (hk2 j) (λe9=>by rw[e9];exact hp)⟩
  intro hg62
  have hs63:=hg62;skip
  refine dOf 19 33 hg62 ?_
  refine dOf 20 33 hg62 ?_
  refine dOf 21 33 hg62 ?_
  refine dOf 22 33 hg62 ?_
  refine dOf 23 33 hg62 ?_
  refine dOf 24 33 hg62 ?_
  refine dOf 25 33 hg62 ?_
  refine dOf 26 33 hg62 ?_
  refine dOf 27 33 hg62 ?_
  refine dV 28 rfl (Qx rfl rfl hg62 rfl) (dP 29 ?_)
  apply QE 44
  ·exact rfl
  ·intro hg64
   have hs65:=hg64;skip
   refine dPo 30 44 hg64 ?_
   refine dPo 31 44 hg64 ?_
   refine dVo 32 44 hg64 rfl rfl rfl (Qa rfl rfl rfl XL (k) om om (Rw.some hs om)) ?_
   refine dFo 33 44 hg64 ?_
   refine dQo 34 44 [] hg64 rfl rfl rfl (Qn _ rfl rfl Qah rfl (Qgh hs hk)) ?_
   refine dFo 35 44 hg64 ?_
   refine dQo 36 44 [] hg64 rfl rfl rfl (Xq rfl rfl Qah aPk rfl) ?_
   refine dVo 37 44 hg64 rfl rfl rfl (Xj rfl rfl rfl QdL (by rfl) (by rfl) (by rfl)) ?_
   refine dV 38 rfl (QF rfl rfl hg64 rfl) (dP 39 ?_)
   apply QE 54
   ·exact rfl
   ·intro hg66
    have hs67:=hg66;try simp only[Bool.and_eq_true,decide_eq_true_eq]at hs67
    refine dPo 40 54 hg66 ?_
    refine dPo 41 54 hg66 ?_
    refine dVo 42 54 hg66 rfl rfl rfl (Qa rfl rfl rfl XL (k) om om (Rw.some hs om)) ?_
    refine dFo 43 54 hg66 ?_
    refine dQo 44 54 [] hg66 rfl rfl rfl (Qn _ rfl rfl Zo rfl (Qcv hs hk)) ?_
    refine dFo 45 54 hg66 ?_
    refine dQo 46 54 [] hg66 rfl rfl rfl (Xq rfl rfl Zo aPk rfl) ?_
    refine dVo 47 54 hg66 rfl rfl rfl (Xj rfl rfl rfl QbX (by rfl) (by rfl) (by rfl)) ?_
    refine dV 48 rfl (QF rfl rfl hg66 rfl) (dNi ?_)
    refine sCd rfl (λh68=>?_) λh68=>?_
    ·have hp:prB e (nth l k)=true:=by have hq:=h68;unfold prB;grind
     refine aU ?_
     refine Qe (L':=[(0,_),(1,_),(3,_),(5,_),(6,_),(7,_),(8,_)]) aSx (λ_ h=>h) ?_
     refine aU3 ?_
     exact rV (h:=by first|(rw[hp9,XY hk hp];rfl)|(rw[hp9,hno];rfl))
    have hp:prB e (nth l k)=false:=by have hq:=h68;unfold prB;grind
    refine aU2 ?_
    refine Qe (L':=[(0,_),(1,_),(3,_),(5,_),(6,_),(7,_),(8,_)]) aSx (λ_ h=>h) ?_
    refine aT3 ?_
    refine aU2 ?_
    exact sBk (k+1) om ⟨om,λj hj=>(Nat.lt_succ_iff_lt_or_eq.1 hj).elim (hk2 j) (λe9=>by rw[e9];exact hp)⟩
   intro hg69
   have hs70:=hg69;try simp only[Bool.and_eq_false_iff,decide_eq_false_iff_not]at hs70
   refine dOf 40 54 hg69 ?_
   refine dOf 41 54 hg69 ?_
   refine dOf 42 54 hg69 ?_
   refine dOf 43 54 hg69 ?_
   refine dOf 44 54 hg69 ?_
   refine dOf 45 54 hg69 ?_
   refine dOf 46 54 hg69 ?_
   refine dOf 47 54 hg69 ?_
   refine dV 48 rfl (Qx rfl rfl hg69 rfl) (dNi ?_)
   refine sCd rfl (λh71=>?_) λh71=>?_
   ·have hp:prB e (nth l k)=true:=by have hq:=h71;unfold prB;grind
    refine aU ?_
    refine Qe (L':=[(0,_),(1,_),(3,_),(5,_),(6,_),(7,_),(8,_)]) aSx (λ_ h=>h) ?_
    refine aU3 ?_
    exact rV (h:=by first|(rw[hp9,XY hk hp];rfl)|(rw[hp9,hno];rfl))
   have hp:prB e (nth l k)=false:=by have hq:=h71;unfold prB;grind
   refine aU2 ?_
   refine Qe (L':=[(0,_),(1,_),(3,_),(5,_),(6,_),(7,_),(8,_)]) aSx (λ_ h=>h) ?_
   refine aT3 ?_
   refine aU2 ?_
   exact sBk (k+1) om ⟨om,λj hj=>(Nat.lt_succ_iff_lt_or_eq.1 hj).elim (hk2 j) (λe9=>by rw[e9];exact hp)⟩
  intro hg72
  have hs73:=hg72;skip
  refine dOf 30 44 hg72 ?_
  refine dOf 31 44 hg72 ?_
  refine dOf 32 44 hg72 ?_
  refine dOf 33 44 hg72 ?_
  refine dOf 34 44 hg72 ?_
  refine dOf 35 44 hg72 ?_
  refine dOf 36 44 hg72 ?_
  refine dOf 37 44 hg72 ?_
  refine dV 38 rfl (Qx rfl rfl hg72 rfl) (dP 39 ?_)
  apply QE 54
  ·exact rfl
  ·intro hg74
   have hs75:=hg74;skip
   refine dPo 40 54 hg74 ?_
   refine dPo 41 54 hg74 ?_
   refine dVo 42 54 hg74 rfl rfl rfl (Qa rfl rfl rfl XL (k) om om (Rw.some hs om)) ?_
   refine dFo 43 54 hg74 ?_
   refine dQo 44 54 [] hg74 rfl rfl rfl (Qn _ rfl rfl Zo rfl (Qcv hs hk)) ?_
   refine dFo 45 54 hg74 ?_
   refine dQo 46 54 [] hg74 rfl rfl rfl (Xq rfl rfl Zo aPk rfl) ?_
   refine dVo 47 54 hg74 rfl rfl rfl (Xj rfl rfl rfl QbX (by rfl) (by rfl) (by rfl)) ?_
   refine dV 48 rfl (QF rfl rfl hg74 rfl) (dNi ?_)
   refine sCd rfl (λh76=>?_) λh76=>?_
   ·have hp:prB e (nth l k)=true:=by have hq:=h76;unfold prB;grind
    refine aU ?_
    refine Qe (L':=[(0,_),(1,_),(3,_),(5,_),(6,_),(7,_),(8,_)]) aSx (λ_ h=>h) ?_
    refine aU3 ?_
    exact rV (h:=by first|(rw[hp9,XY hk hp];rfl)|(rw[hp9,hno];rfl))
   have hp:prB e (nth l k)=false:=by have hq:=h76;unfold prB;grind
   refine aU2 ?_
   refine Qe (L':=[(0,_),(1,_),(3,_),(5,_),(6,_),(7,_),(8,_)]) aSx (λ_ h=>h) ?_
   refine aT3 ?_
   refine aU2 ?_
   exact sBk (k+1) om ⟨om,λj hj=>(Nat.lt_succ_iff_lt_or_eq.1 hj).elim (hk2 j) (λe9=>by rw[e9];exact hp)⟩
  intro hg77
  have hs78:=hg77;skip
  refine dOf 40 54 hg77 ?_
  refine dOf 41 54 hg77 ?_
  refine dOf 42 54 hg77 ?_
  refine dOf 43 54 hg77 ?_
  refine dOf 44 54 hg77 ?_
  refine dOf 45 54 hg77 ?_
  refine dOf 46 54 hg77 ?_
  refine dOf 47 54 hg77 ?_
  refine dV 48 rfl (Qx rfl rfl hg77 rfl) (dNi ?_)
  refine sCd rfl (λh79=>?_) λh79=>?_
  ·have hp:prB e (nth l k)=true:=by have hq:=h79;unfold prB;grind
   refine aU ?_
   refine Qe (L':=[(0,_),(1,_),(3,_),(5,_),(6,_),(7,_),(8,_)]) aSx (λ_ h=>h) ?_
   refine aU3 ?_
   exact rV (h:=by first|(rw[hp9,XY hk hp];rfl)|(rw[hp9,hno];rfl))
  have hp:prB e (nth l k)=false:=by have hq:=h79;unfold prB;grind
  refine aU2 ?_
  refine Qe (L':=[(0,_),(1,_),(3,_),(5,_),(6,_),(7,_),(8,_)]) aSx (λ_ h=>h) ?_
  refine aT3 ?_
  refine aU2 ?_
  exact sBk (k+1) om ⟨om,λj hj=>(Nat.lt_succ_iff_lt_or_eq.1 hj).elim (hk2 j) (λe9=>by rw[e9];exact hp)⟩
 obtain rfl:k=l.length:=by have hq:=h3;omega
 have hno:=QpP hk2
 refine Qg rfl ?_
 refine aU4 ?_
 exact rV (h:=by first|(rw[hp9,XY hk hp];rfl)|(rw[hp9,hno];rfl))
instance:TFn Tryz.prog 93:=⟨by kernel_rfl⟩
instance:TFn Tryz.prog 87:=⟨by kernel_rfl⟩
instance:TFn Tryz.prog 94:=⟨by kernel_rfl⟩
instance:TFn Tryz.prog 95:=⟨by kernel_rfl⟩
instance:TFn Tryz.prog 34:=⟨by kernel_rfl⟩
instance:TFn Tryz.prog 74:=⟨by kernel_rfl⟩
set_option maxHeartbeats 4000000 in
theorem c34(w:World)(co mo rm:Int)(a:Option Addr)(cap:Nat)(L:List LNd)(T:BT)(hs:Nt w [] a L)(hB:Bd (pln L))(hkl:∀i,i<L.length->∀x∈(nth L i).es,x.key.length<=1000000)(hl2:L.length<=1000)(hT:DT (⟨co,mo,rm,pln L⟩:Tre) T):CR 34 #[.agg #[.int .i64 co,.int .i64 mo,.int .i64 rm,.slice a L.length cap]] w (.tuple #[.int .i64 (Xg (⟨co,mo,rm,pln L⟩:Tre) T.flat).1,.int .i64 (Xg (⟨co,mo,rm,pln L⟩:Tre) T.flat).2]):=by
 refine eN1 Tryz.func34 Tryz.ntmps34 ?_
 refine aU2 ?_
 refine oBx λb1 _=>?_
 refine aU7 ?_
 refine oCq rfl (λw1 h1=>c93 w1 co mo rm a cap L (hs.later h1.nil) hB hkl) (Qas ?_)
 refine sCd rfl (λh2=>?_) λh2=>?_
 ·have h0:¬(XD (⟨co,mo,rm,pln L⟩:Tre)).2=0:=by have hq:=h2;simpa using hq
  obtain⟨hZ,hLL⟩:=Quf (X:=T.flat) h0
  refine aU7 ?_
  exact Qj (rs:=[.tmp 2,.tmp 3]) rfl (.tmp rfl (.tmp rfl (.nil))) (λw' h'=>⟨by rw[hZ];rfl,h'.below⟩)
 have h0:(XD (⟨co,mo,rm,pln L⟩:Tre)).2=0:=by have hq:=h2;simpa using hq
 obtain⟨d9,lo9,hi9,hBl,hN,hT0,hf9,hsm9⟩:=hT h0
 refine aU8 ?_
 refine sCd rfl (λh3=>?_) λh3=>?_
 ·have h1c:¬co=1:=by have hq:=h3;simpa using hq
  obtain⟨hZ,hLL⟩:=QtN (X:=T.flat) h0 h1c
  refine aU5 ?_
  exact Qj (rs:=[.tmp 2,.tmp 3]) rfl (.tmp rfl (.tmp rfl (.nil))) (λw' h'=>⟨by rw[hZ];rfl,h'.below⟩)
 have hco:co=1:=by have hq:=h3;simpa using hq
 have hdo:=QtS (X:=T.flat) h0 hco
 refine aU4 ?_
 refine oCh rfl (λw1 h1=>c87 w1 co mo rm a cap L T d9 lo9 hi9 (hs.later h1.nil) hl2 hBl hN hT0 hf9) (λgX _=>Qaa ?_)
 refine Qe (L':=[(2,_),(3,_),(6,_),(7,_),(8,_)]) aSx (λ_ h=>h) ?_
 refine Qo (α:=Nat×(Option Addr×Nat)) [2,3,7,8,9,10,26,27,28,29,30,31,32,33,34,35,36,37,38,39,40,41,42,43,44,45,46,47] (λy=>[(8,.int .i64 (y.1:Int)),(7,.slice y.2.1 ((T.flat.take y.1).map Qh).length y.2.2)]) (λy=>HS w [] [.own (.slice y.2.1 ((T.flat.take y.1).map Qh).length y.2.2) 66 9 ((T.flat.take y.1).map Qh).length (((T.flat.take y.1).map Qh).flatMap DEnt.vals),.own (.slice gX.1 T.flat.length gX.2) 84 2 T.flat.length (T.flat.flatMap TEnt.vals)]) (λy=>y.1<=T.flat.length/\QB (T.flat.map dcE) 0=QB ((T.flat.map dcE).drop y.1) y.1) (λy=>T.flat.length-y.1) (0,(none,0)) ⟨Nat.zero_le _,rfl⟩ aSx (λw h=>(h.own_nil 66 9).ent aEt) (λ⟨k,A⟩hkk=>?_)
 dsimp only at hkk ⊢
 obtain⟨hk1,hk2⟩:=hkk
 refine aU8 ?_
 refine sCd rfl (λh4=>?_) λh4=>?_
 ·have hk:k<T.flat.length:=by have hq:=h4;omega
  have hs2:((T.flat.take (k+1)).map Qh)=((T.flat.take k).map Qh)++[Qh (nth T.flat k)]:=by rw[Q9 (d:=default) hk,List.map_append];rfl
  have hkl9:((T.flat.take k).map Qh).length=k:=by rw[List.length_map,List.length_take];omega
  refine Qcb (λw h=>Rw.some (h.rw_own ev2 aPk rfl) om) λhsm=>?_
  have hst:=QbI (f:=dcE) (d:=default) hk
  refine aU7 ?_
  refine o_p (Qa rfl rfl rfl QD (k) om om hsm) rfl (o_q (Xz _ rfl rfl ZT rfl (λw h=>Rw.rd (h.rw_own ev2 aPk rfl) hk)) rfl (oCq rfl (λw1 h1=>c43 w1 (nth T.flat k) (by have:=(hsm9 _ (Qq hk)).1;omega) (by have:=(hsm9 _ (Qq hk)).2;omega)) (aU3 ?_)))
  refine oAl (λb5 _=>?_) Xm
  refine aU9 ?_
  refine sCd rfl (λh6=>?_) λh6=>?_
  ·have hne:¬dcE (nth T.flat k)=0:=by have hq:=h6;simpa using hq
   have hZ:(Xg (⟨co,mo,rm,pln L⟩:Tre) T.flat)=((k:Int),dcE (nth T.flat k)):=by rw[hdo,QtK (k:=k) (e:=dcE (nth T.flat k)) (by rw[hk2];exact hst.trans (if_neg hne)) hne]
   refine aU7 ?_
   exact Qj (rs:=[.tmp 2,.tmp 3]) rfl (.tmp rfl (.tmp rfl (.nil))) (λw' h'=>⟨by rw[hZ];rfl,h'.below⟩)
  have he0:dcE (nth T.flat k)=0:=by have hq:=h6;simpa using hq
  have hst3:QB ((T.flat.map dcE).drop k) k=QB ((T.flat.map dcE).drop (k+1)) (k+1):=hst.trans (if_pos he0)
  have hdc:dcD (nth T.flat k)=Qh (nth T.flat k):=if_pos he0
  rw[hdc]
  refine aU4 ?_
  refine o_h (Ql (cs:=[_,_,_,_,_,_,_,_,_]) rfl rfl XL Xm rfl rfl rfl) rfl (λb7 _=>o_h (QM (n:=((T.flat.take k).map Qh).length) (Qh (nth T.flat k)).vals rfl rfl rfl XL Tryz.underlying33 Xm rfl aPk (Xp aPk) rfl (dv1 _) om (by simp only[maxLen];omega)) rfl (λb8 _=>aT6 ?_))
  refine aU2 ?_
  exact Qv (k+1,b8) (by dsimp only;omega) (by dsimp only;exact⟨om,by rw[hk2,hst3]⟩) (by dsimp only;rw[hs2,List.length_append];exact aSx) (λw h=>by dsimp only;rw[hs2,List.length_append,QaK];exact h.ent aEt)
 obtain rfl:k=T.flat.length:=by have hq:=h4;omega
 rw[List.take_length]
 have hall:(QB (T.flat.map dcE) 0).2=0:=by rw[hk2,Zw (by rw[List.length_map];exact Nat.le_refl _)]
 have hol:=Qt8 hall
 refine Qg rfl ?_
 refine aU6 ?_
 refine Qo (α:=Nat) [2,3,11,48,49,50,51,52,53,54,55,56,57,58,59,60,61,62,63,64,65,66,67,68] (λk=>[(11,.int .i64 (k:Int))]) (λk=>HS w [] [.own (.slice A.1 (T.flat.map Qh).length A.2) 66 9 (T.flat.map Qh).length ((T.flat.map Qh).flatMap DEnt.vals)]) (λk=>k<=(T.flat.map Qh).length/\QB ((T.flat.map Qh).map (stE (T.flat.map Qh))) 0=QB (((T.flat.map Qh).map (stE (T.flat.map Qh))).drop k) k) (λk=>(T.flat.map Qh).length-k) 0 ⟨Nat.zero_le _,rfl⟩ aSx (λw h=>h.ent aEt) (λk hkk=>?_)
 obtain⟨hk1,hk2⟩:=hkk
 refine aU8 ?_
 refine sCd rfl (λh9=>?_) λh9=>?_
 ·have hk:k<(T.flat.map Qh).length:=by have hq:=h9;omega
  have hk10:k<10000:=by have hq:=hk;rw[List.length_map]at hq;omega
  have hst:=QbI (f:=stE (T.flat.map Qh)) (d:=default) hk
  refine Qcb (λw h=>Rw.some (h.rw_own dv9 aPk rfl) om) λhsm2=>aU8 ?_
  refine o_p (Qa rfl rfl rfl XL (k) om om hsm2) rfl (o_q (Xz _ rfl rfl Yq rfl (λw h=>Rw.rd (h.rw_own dv9 aPk rfl) hk)) rfl (oCq rfl (λw1 h1=>c94 w1 (nth (T.flat.map Qh) k) (QeQ (Qc6 hall (Qq hk))).1 (QeQ (Qc6 hall (Qq hk))).2.2.1) (aU2 ?_)))
  refine sCd rfl (λh10=>?_) λh10=>?_
  ·have hsv:stE (T.flat.map Qh) (nth (T.flat.map Qh) k)=20:=by have hq:=h10;unfold stE;rw[if_neg (by simpa using hq)]
   have hZ:(Xg (⟨co,mo,rm,pln L⟩:Tre) T.flat)=((k:Int),20):=by rw[hdo,hol,hk2];exact hst.trans (by rw[show(T.flat.map Qh).getD k default=(nth (T.flat.map Qh) k)from rfl,hsv];rfl)
   refine aU6 ?_
   exact Qj (rs:=[.tmp 2,.tmp 3]) rfl (.tmp rfl (.tmp rfl (.nil))) (λw' h'=>⟨by rw[hZ];rfl,h'.below⟩)
  have hfb:Qg0 (nth (T.flat.map Qh) k)=true:=by have hq:=h10;simpa using hq
  refine aU6 ?_
  refine o_p (Qa rfl rfl rfl XL (k) om om hsm2) rfl (o_q (Xz _ rfl rfl Yq rfl (λw h=>Rw.rd (h.rw_own dv9 aPk rfl) hk)) rfl (oCq rfl (λw1 h1=>c95 w1 A.1 A.2 (T.flat.map Qh) (nth (T.flat.map Qh) k) (h1.rw_own dv9 aPk rfl) (by rw[List.length_map];omega) (QeQ (Qc6 hall (Qq hk))).2.2.1) (aU2 ?_)))
  refine sCd rfl (λh11=>?_) λh11=>?_
  ·have hsv:stE (T.flat.map Qh) (nth (T.flat.map Qh) k)=21:=by have hq:=h11;rw[Qt0,if_pos hfb,if_neg (by simpa using hq)]
   have hZ:(Xg (⟨co,mo,rm,pln L⟩:Tre) T.flat)=((k:Int),21):=by rw[hdo,hol,hk2];exact hst.trans (by rw[show(T.flat.map Qh).getD k default=(nth (T.flat.map Qh) k)from rfl,hsv];rfl)
   refine aU6 ?_
   exact Qj (rs:=[.tmp 2,.tmp 3]) rfl (.tmp rfl (.tmp rfl (.nil))) (λw' h'=>⟨by rw[hZ];rfl,h'.below⟩)
  have hsv:stE (T.flat.map Qh) (nth (T.flat.map Qh) k)=0:=by have hq:=h11;rw[Qt0,if_pos hfb,if_pos (by simpa using hq)]
  have hst3:QB (((T.flat.map Qh).map (stE (T.flat.map Qh))).drop k) k=QB (((T.flat.map Qh).map (stE (T.flat.map Qh))).drop (k+1)) (k+1):=hst.trans (if_pos hsv)
  refine aT5 ?_
  refine aU2 ?_
  exact sBk (k+1) om ⟨om,by rw[hk2,hst3]⟩
 obtain rfl:k=(T.flat.map Qh).length:=by have hq:=h9;omega
 have hZ:(Xg (⟨co,mo,rm,pln L⟩:Tre) T.flat)=(0,0):=by rw[hdo,hol,hk2,Zw (by rw[List.length_map];exact Nat.le_refl _)]
 refine Qg rfl ?_
 refine aU5 ?_
 exact Qj (rs:=[.tmp 2,.tmp 3]) rfl (.tmp rfl (.tmp rfl (.nil))) (λw' h'=>⟨by rw[hZ];rfl,h'.below⟩)
set_option maxHeartbeats 2000000 in
theorem c29(w:World)(co mo rm:Int)(a:Option Addr)(cap:Nat)(L:List LNd)(T:BT)(hs:Nt w [] a L)(hB:Bd (pln L))(hkl:∀i,i<L.length->∀x∈(nth L i).es,x.key.length<=1000000)(hl2:L.length<=1000)(hT:DT (⟨co,mo,rm,pln L⟩:Tre) T)(hz0:(Xg (⟨co,mo,rm,pln L⟩:Tre) T.flat).2=0):CE 29 #[.agg #[.int .i64 co,.int .i64 mo,.int .i64 rm,.slice a L.length cap]] w [] (λg:Option Addr×Nat=>.slice g.1 (T.flat.map Qh).length g.2) (λg=>True) λg=>[.own (.slice g.1 (T.flat.map Qh).length g.2) 66 9 (T.flat.map Qh).length ((T.flat.map Qh).flatMap DEnt.vals)]:=by
 obtain⟨h0,hco,hall,_⟩:=Qjh hz0
 obtain⟨d9,lo9,hi9,hBl,hN,hT0,hf9,hsm9⟩:=hT h0
 refine eN1 Tryz.func29 Tryz.ntmps29 ?_
 refine aU2 ?_
 refine oBx λb1 _=>?_
 refine aU9 ?_
 refine oCh rfl (λw1 h1=>c87 w1 co mo rm a cap L T d9 lo9 hi9 (hs.later h1.nil) hl2 hBl hN hT0 hf9) (λgX _=>aU8 ?_)
 refine Qo (α:=Nat×(Option Addr×Nat)) [3,5,6,7,10,11,12,13,14,15,16,17,18,19,20,21,22,23,24,25,26,27] (λy=>[(5,.int .i64 (y.1:Int)),(3,.slice y.2.1 ((T.flat.take y.1).map Qh).length y.2.2)]) (λy=>HS w [] [.own (.slice y.2.1 ((T.flat.take y.1).map Qh).length y.2.2) 66 9 ((T.flat.take y.1).map Qh).length (((T.flat.take y.1).map Qh).flatMap DEnt.vals),.own (.slice gX.1 T.flat.length gX.2) 84 2 T.flat.length (T.flat.flatMap TEnt.vals)]) (λy=>y.1<=T.flat.length) (λy=>T.flat.length-y.1) (0,(none,0)) (Nat.zero_le _) aSx (λw h=>(h.own_nil 66 9).ent aEt) (λ⟨k,A⟩hk1=>?_)
 dsimp only at hk1 ⊢
 refine aU8 ?_
 refine sCd rfl (λh2=>?_) λh2=>?_
 ·have hk:k<T.flat.length:=by have hq:=h2;omega
  have hs2:((T.flat.take (k+1)).map Qh)=((T.flat.take k).map Qh)++[Qh (nth T.flat k)]:=by rw[Q9 (d:=default) hk,List.map_append];rfl
  have hkl9:((T.flat.take k).map Qh).length=k:=by rw[List.length_map,List.length_take];omega
  refine Qcb (λw h=>Rw.some (h.rw_own ev2 aPk rfl) om) λhsm=>?_
  have he0:dcE (nth T.flat k)=0:=ZE.1 hall _ (List.mem_map.2 ⟨_,Qq hk,rfl⟩)
  have hdc:dcD (nth T.flat k)=Qh (nth T.flat k):=if_pos he0
  refine aU7 ?_
  refine o_p (Qa rfl rfl rfl QD (k) om om hsm) rfl (o_q (Xz _ rfl rfl ZT rfl (λw h=>Rw.rd (h.rw_own ev2 aPk rfl) hk)) rfl (oCq rfl (λw1 h1=>c43 w1 (nth T.flat k) (by have:=(hsm9 _ (Qq hk)).1;omega) (by have:=(hsm9 _ (Qq hk)).2;omega)) ?_))
  rw[hdc]
  refine aU3 ?_
  refine oAl (λb3 _=>?_) Xm
  refine aU6 ?_
  refine o_h (Ql (cs:=[_,_,_,_,_,_,_,_,_]) rfl rfl XL Xm rfl rfl rfl) rfl (λb4 _=>o_h (QM (n:=((T.flat.take k).map Qh).length) (Qh (nth T.flat k)).vals rfl rfl rfl XL Tryz.underlying33 Xm rfl aPk (Xp aPk) rfl (dv1 _) om (by simp only[maxLen];omega)) rfl (λb5 _=>aT6 ?_))
  refine aU2 ?_
  exact Qv (k+1,b5) (by dsimp only;omega) (by dsimp only;omega) (by dsimp only;rw[hs2,List.length_append];exact aSx) (λw h=>by dsimp only;rw[hs2,List.length_append,QaK];exact h.ent aEt)
 obtain rfl:k=T.flat.length:=by have hq:=h2;omega
 rw[List.take_length]
 refine Qg rfl ?_
 refine aU5 ?_
 exact rT rfl rfl (λw' h'=>⟨A,rfl,trivial,h'.ent aEt⟩)
theorem c31(w:World)(co mo rm:Int)(a:Option Addr)(cap:Nat)(L:List LNd)(T:BT)(hs:Nt w [] a L)(hB:Bd (pln L))(hkl:∀i,i<L.length->∀x∈(nth L i).es,x.key.length<=1000000)(hl2:L.length<=1000)(hT:DT (⟨co,mo,rm,pln L⟩:Tre) T):CR 31 #[.agg #[.int .i64 co,.int .i64 mo,.int .i64 rm,.slice a L.length cap]] w (.tuple #[.int .i64 (Xg (⟨co,mo,rm,pln L⟩:Tre) T.flat).1,.int .i64 (Xg (⟨co,mo,rm,pln L⟩:Tre) T.flat).2]):=by
 refine eN1 Tryz.func31 Tryz.ntmps31 ?_
 refine aU2 ?_
 refine oBx λb1 _=>?_
 refine aU6 ?_
 refine oCh rfl (λw1 h1=>c74 w1 co mo rm a cap L T (hs.later h1.nil) hB hkl hl2 hT) (λgO _=>Qp0 ?_)
 exact Qj (rs:=[.tmp 2,.tmp 3]) rfl (.tmp rfl (.tmp rfl (.nil))) (λw' h'=>⟨by rfl,h'.below⟩)
theorem c61(w:World)(co mo rm:Int)(a:Option Addr)(cap:Nat)(L:List LNd)(T:BT)(s:List UInt8)(hs:Nt w [] a L)(hB:Bd (pln L))(hkl:∀i,i<L.length->∀x∈(nth L i).es,x.key.length<=1000000)(hl2:L.length<=1000)(hT:DT (⟨co,mo,rm,pln L⟩:Tre) T)(hm:s.length<=1000000):CE 61 #[.agg #[.int .i64 co,.int .i64 mo,.int .i64 rm,.slice a L.length cap],.string (bs s)] w [] (λg:Option Addr×Nat=>.tuple #[.slice g.1 (Qcs (⟨co,mo,rm,pln L⟩:Tre) T.flat).length g.2,.int .i64 (Xe (Xg (⟨co,mo,rm,pln L⟩:Tre) T.flat).2 (QI s))]) (λg=>True) λg=>[.own (.slice g.1 (Qcs (⟨co,mo,rm,pln L⟩:Tre) T.flat).length g.2) 66 9 (Qcs (⟨co,mo,rm,pln L⟩:Tre) T.flat).length ((Qcs (⟨co,mo,rm,pln L⟩:Tre) T.flat).flatMap DEnt.vals)]:=by
 refine eN2 Tryz.func61 Tryz.ntmps61 ?_
 refine aU2 ?_
 refine oBx λb1 _=>?_
 refine aU6 ?_
 refine oCh rfl (λw1 h1=>c74 w1 co mo rm a cap L T (hs.later h1.nil) hB hkl hl2 hT) (λgO _=>Z8 ?_)
 refine oCq rfl (λw1 h1=>c75 w1 s hm) (o_h (Ql (cs:=[_,_]) rfl rfl YF QaO rfl rfl rfl) rfl (λb2 _=>oCq rfl (λw1 h1=>f62 h1 aPk (by rfl) (by rfl) (by decide)) (aU3 ?_)))
 exact Qj (rs:=[.tmp 4,.tmp 5]) rfl (.tmp rfl (.tmp rfl (.nil))) (λw' h'=>⟨gO,by rw[QfQ];rfl,trivial,h'.ent aEt⟩)
end Go.Proofs
namespace Gx
open Go Go.RowKit
def Qd3(x:TEnt):Bool:=decide (x.key.length<=60/\x.val.length<=100)
def QdA(n:Nd):Bool:=decide (n.es.length<=20/\n.cs.length<=30)&&n.es.all Qd3
def Qb9:List Nd->Nat
 | []=>0
 | n::ns=>n.es.length+Qb9 ns
def Z6(ns:List Nd):Bool:=ns.all QdA&&(decide (ns.length<=125)&&decide (Qb9 ns<=300))
theorem QkA:∀(a b:List Nd),Qb9 (a++b)=Qb9 a+Qb9 b
 | [],b=>by simp[Qb9]
 | n::a,b=>by rw[List.cons_append,Qb9,Qb9,QkA a b];omega
theorem Qhx{ns:List Nd}{k:Nat}(hk:k<ns.length):Qb9 (ns.take (k+1))=Qb9 (ns.take k)+(nth ns k).es.length:=by
 rw[Q9 (d:=default) hk,QkA];simp only[Qb9];rfl
theorem Qui{α:Type}[Inhabited α]{p:α->Bool}{l:List α}(h:∀q,q<l.length->p (nth l q)=true):l.all p=true:=by
 refine List.all_eq_true.2 λx hx=>?_;obtain⟨q,hq,e⟩:=List.getElem_of_mem hx;have e2:nth l q=x:=XR (by rw[List.getElem?_eq_getElem hq,e]);rw[<-e2];exact h q hq
theorem Qt6{α:Type}[Inhabited α]{p:α->Bool}{l:List α}{k:Nat}(hk:k<l.length)(h:¬p (nth l k)=true):l.all p=false:=by
 cases e:l.all p
 ·rfl
 ·exact absurd (List.all_eq_true.1 e _ (Qq hk)) h
theorem Qv5{n:Nd}(h:20<n.es.length\/30<n.cs.length):¬QdA n=true:=λh9=>by
 rw[QdA,Bool.and_eq_true,decide_eq_true_eq]at h9;omega
theorem QuK{n:Nd}{k:Nat}(hk:k<n.es.length)(h:¬Qd3 (nth n.es k)=true):¬QdA n=true:=λh9=>by
 rw[QdA,Bool.and_eq_true,Qt6 hk h]at h9;exact absurd h9.2 (by decide)
theorem Qwf{n:Nd}(h1:n.es.length<=20)(h2:n.cs.length<=30)(h:∀q,q<n.es.length->Qd3 (nth n.es q)=true):QdA n=true:=by
 rw[QdA,decide_eq_true (And.intro h1 h2),Qui h];rfl
theorem Qmw{ns:List Nd}{k:Nat}(hk:k<ns.length)(h:¬QdA (nth ns k)=true):Z6 ns=false:=by
 rw[Z6,Qt6 hk h];rfl
theorem Qss{ns:List Nd}(h:∀q,q<ns.length->QdA (nth ns q)=true):Z6 ns=(decide (ns.length<=125)&&decide (Qb9 ns<=300)):=by
 rw[Z6,Qui h];rfl
theorem Qkt{ns:List Nd}:∀{i:Nat},(∀q,q<i->QdA (nth ns q)=true)->i<=ns.length->Qb9 (ns.take i)<=20*i
 | 0,_,_=>by simp[Qb9]
 | i+1,h,hi=>by
  have h1:=Qkt (i:=i) (λq hq=>h q om) om;have h2:=h i om;rw[QdA,Bool.and_eq_true,decide_eq_true_eq]at h2;rw[Qhx om];omega
theorem QsS{e:Int}(h1: -9223372036854775808<=e)(h2:e<=9223372036854775807):IntKind.i64.wrap e=e:=by
 have h9:=QnU h1 h2;injection h9
theorem QuS{ns:List Nd}{i:Nat}{v:Int}(hi:i<ns.length)(h:∀q,q<i->QdA (nth ns q)=true)(h9:ns.length<=125)(hv:v=((Qb9 (ns.take i):Nat):Int))(hl:(nth ns i).es.length<=20):IntKind.i64.wrap (v+((nth ns i).es.length:Int))=((Qb9 (ns.take (i+1)):Nat):Int):=by
 have h6:=Qkt h om;rw[Qhx hi,hv,QsS om om];omega
theorem Qkd{ns:List Nd}(h:Z6 ns=true):ns.length<=125:=by
 rw[Z6,Bool.and_eq_true,Bool.and_eq_true,decide_eq_true_eq,decide_eq_true_eq]at h;exact h.2.1
theorem QcU{ns:List Nd}(h:Z6 ns=true){k:Nat}(hk:k<ns.length):(nth ns k).es.length<=20/\(nth ns k).cs.length<=30/\∀x∈(nth ns k).es,x.key.length<=60/\x.val.length<=100:=by
 rw[Z6,Bool.and_eq_true]at h;have h2:=List.all_eq_true.1 h.1 _ (Qq hk);rw[QdA,Bool.and_eq_true,decide_eq_true_eq]at h2;refine⟨h2.1.1,h2.1.2,λx hx=>?_⟩;have h3:=List.all_eq_true.1 h2.2 _ hx;rw[Qd3,decide_eq_true_eq]at h3;exact h3
theorem QtI{ns:List Nd}(h:Z6 ns=true):Bd ns where
 len:=Nat.le_trans (Qkd h) (by decide)
 es i hi:=Nat.le_trans (QcU h hi).1 (by decide)
 cs i hi:=Nat.le_trans (QcU h hi).2.1 (by decide)
theorem Qsx{ns:List Nd}(h:Z6 ns=true):Sm 1000 ns:=λk=>by
 rcases Nat.lt_or_ge k ns.length with hk|hk
 ·exact⟨Nat.le_trans (QcU h hk).1 (by decide),Nat.le_trans (QcU h hk).2.1 (by decide)⟩
 ·rw[Qs5 hk];exact⟨Nat.zero_le _,Nat.zero_le _⟩
theorem Qc8{L:List LNd}(h:Z6 (pln L)=true):∀i,i<L.length->∀x∈(nth L i).es,x.key.length<=1000000:=λi hi x hx=>by
 have h2:=(QcU h (k:=i) (by rw[Qd];exact hi)).2.2 x (by rw[QJ hi];exact hx);omega
def DV(t:Tre)(T:BT):Prop:=(XD t).2=0->∃d lo hi rt,Qab t.ns T/\VT t.co lo hi rt d T
theorem QuR{t:Tre}(h:Z6 t.ns=true):∃T,DT t T/\DV t T/\T.flat.length<=2500:=by
 by_cases h0:(XD t).2=0
 ·obtain⟨T,d9,hR,hV,hZ,hU⟩:=Qvp h0
  have hfl:T.flat.length<=2500:=by
   have h9:=hR.flat_len (m:=20) (λi hi=>(QcU h hi).1);have h8:=Qkd h;omega
  refine⟨T,λ_=>⟨d9,_,_,hV.bel,hR.nin,hV.idx,om,λx hx=>?_⟩,λ_=>⟨d9,_,_,_,hR,hV⟩,hfl⟩;have h7:=hV.ents x hx;have h6:=Qde (Qal h7);have h5:x.val.length<=64:=by grind[YQ]
  omega
 ·exact⟨.nd 0 [] [],λh9=>absurd h9 h0,λh9=>absurd h9 h0,by rw[show(BT.nd 0 [] []).flat=[]from rfl];simp⟩
theorem QsG:∀n:Nat,n<128->Yz.getD n 0=Qa1 (UInt8.ofNat n):=by decide +kernel
theorem QqO{s:List UInt8}(h:∀c∈s,c.toNat<128):up Yz s=s.map Qa1:=by
 unfold up;refine List.map_congr_left λc hc=>?_;rw[QsG _ (h c hc),UInt8.ofNat_toNat]
theorem QpV{a b:List UInt8}(ha:∀c∈a,c.toNat<128)(hb:∀c∈b,c.toNat<128):YT Yz a b=decide (QC 1 a b=0):=by
 unfold YT;rw[QqO ha,QqO hb];refine decide_eq_decide.2 ?_;rw[QbL];rfl
theorem Qq0{s:List UInt8}(h:QI s=0):Zl (1:Int) s=0:=by
 obtain⟨h1,h2,_⟩:=QjL h
 have hk:QP (1:Int) s=true:=by
  show decide (1<=s.length/\s.length<=32)=true;exact decide_eq_true ⟨h2,h1⟩
 unfold Zl;rw[hk];rfl
theorem Qnf{co:Int}{l:List TEnt}(h:Srt co l){x y:TEnt}(hx:x∈l)(hy:y∈l)(hc:QC co x.key y.key=0):x=y:=by
 obtain⟨i,hi,rfl⟩:=List.getElem_of_mem hx;obtain⟨k,hk,rfl⟩:=List.getElem_of_mem hy;rcases Nat.lt_trichotomy i k with h1|h1|h1
 ·have:=List.pairwise_iff_getElem.1 h i k hi hk h1;omega
 ·subst h1;rfl
 ·have h2:=List.pairwise_iff_getElem.1 h k i hk hi h1;have:=Qc7 co (l[i]).key (l[k]).key;omega
theorem QmQ{co:Int}{lo hi rt d:Nat}{ns:List Nd}{T:BT}{key:List UInt8}(hR:Qab ns T)(hV:VT co lo hi rt d T)(hf:(Q5 co ns key).2.2=true):ZR co ns key∈T.flat/\QC co (ZR co ns key).key key=0:=by
 obtain⟨D,T',d',e1,e2,e3,e4,e5,e6,e7,e8,e9,e10⟩:=Qna hR hV key;rw[e8]at hf;obtain⟨i,es,ks⟩:=T';have hfnd:fnd co es key=true:=hf;have hpl:(Q5 co ns key).2.1=plc co es key:=by rw[e8];rfl
 have hplt:=Qpu hfnd;have hR1:Qab ns (plug D (.nd i es ks)):=by rw[e1];exact hR
 have hat:i<ns.length/\nth ns i=⟨true,es,ZI ks⟩:=Qab.at_ hR1;have hlast:YM (Q5 co ns key).1=i:=by rw[e7];exact Qpf _ _
 have hen:ZR co ns key=nth es (plc co es key):=by
  unfold ZR;rw[hlast,hat.2,hpl]
 have hc:QC co (nth es (plc co es key)).key key=0:=by
  unfold fnd at hfnd;simp only[Bool.and_eq_true,decide_eq_true_eq]at hfnd;exact hfnd.2
 refine⟨?_,by rw[hen];exact hc⟩;rw[hen,<-e1,QeL e2];refine List.mem_append_right _ (List.mem_append_left _ ?_);rw[BT.flat];exact(QeO es ks).subset (Qq hplt)
theorem QvO(l:List DEnt)(s:List UInt8):(ixI (l.map λe=>YT Yz e.nm s)= -1/\∀k,k<l.length->YT Yz (nth l k).nm s=false)\/∃i,i<l.length/\ixI (l.map λe=>YT Yz e.nm s)=(i:Int)/\YT Yz (nth l i).nm s=true/\∀k,k<i->YT Yz (nth l k).nm s=false:=by
 have hg:∀k,k<l.length->(l.map λe=>YT Yz e.nm s).getD k false=YT Yz (nth l k).nm s:=λk hk=>Xn (d:=default) hk;have h:=Qea (l.map λe=>YT Yz e.nm s);rw[List.length_map]at h;rcases h with⟨h1,h2⟩|⟨i,h1,h2,h3,h4⟩
 ·exact .inl ⟨h1,λk hk=>by rw[<-hg k hk];exact h2 k hk⟩
 ·exact .inr ⟨i,h1,h2,by rw[<-hg i h1];exact h3,λk hk=>by rw[<-hg k om];exact h4 k hk⟩
theorem Qtt{l:List Bool}(h:∀k,k<l.length->l.getD k false=false):ixI l= -1:=by
 rcases Qea l with⟨h1,_⟩|⟨i,h1,h2,h3,h4⟩
 ·exact h1
 ·rw[h i h1]at h3;cases h3
theorem Qun{l:List Bool}{k:Nat}(hk:k<l.length)(h1:l.getD k false=true)(h:∀q,q<k->l.getD q false=false):ixI l=(k:Int):=by
 rcases Qea l with⟨_,h2⟩|⟨i,h2,h3,h4,h5⟩
 ·rw[h2 k hk]at h1;cases h1
 ·rcases Nat.lt_trichotomy i k with h6|h6|h6
  ·rw[h i h6]at h4;cases h4
  ·rw[h3,h6]
  ·rw[h5 k h6]at h1;cases h1
theorem QsM{e:DEnt}(h:QaJ e=0):QI e.nm=0:=by
 unfold QaJ Xe at h;split at h
 ·assumption
 ·exact h
theorem QeM{T:BT}{t:Tre}{lo hi rt d:Nat}{s:List UInt8}(hco:t.co=1)(hR:Qab t.ns T)(hV:VT t.co lo hi rt d T)(hall:(QB (T.flat.map dcE) 0).2=0)(hs:QI s=0) :
  ((Q5 1 t.ns s).2.2=false/\ixI ((T.flat.map Qh).map λe=>YT Yz e.nm s)= -1)\/((Q5 1 t.ns s).2.2=true/\∃i,i<(T.flat.map Qh).length/\ixI ((T.flat.map Qh).map λe=>YT Yz e.nm s)=(i:Int)/\nth (T.flat.map Qh) i=Qh (ZR 1 t.ns s)/\dcE (ZR 1 t.ns s)=0):=by
 rw[hco]at hV;have hsl:=Qbu hs;have hdc:∀x∈T.flat,dcE x=0:=λx hx=>ZE.1 hall _ (List.mem_map.2 ⟨x,hx,rfl⟩)
 have hkl:∀x∈T.flat,∀c∈x.key,c.toNat<128:=λx hx=>by
  have h1:=hdc x hx;unfold dcE at h1;split at h1
  ·cases h1
  ·exact Qbu (QsM h1)
 have hnt:∀i,i<(T.flat.map Qh).length->nth (T.flat.map Qh) i=Qh (nth T.flat i)/\nth T.flat i∈T.flat:=λi hi=>by
  rw[List.length_map]at hi;exact⟨Xn (d:=default) hi,Qq hi⟩
 have hsm:∀i,i<(T.flat.map Qh).length->YT Yz (nth (T.flat.map Qh) i).nm s=decide (QC 1 (nth T.flat i).key s=0):=λi hi=>by
  obtain⟨h1,h2⟩:=hnt i hi;rw[h1];exact QpV (hkl _ h2) hsl
 have hp:=Qpl hR hV s;rcases QvO (T.flat.map Qh) s with⟨h1,h2⟩|⟨i,h1,h2,h3,h4⟩
 ·refine .inl ⟨?_,h1⟩;cases e:(Q5 1 t.ns s).2.2
  ·rfl
  ·obtain⟨y,hy,hc⟩:=hp.1 e;obtain⟨i,hi,rfl⟩:=List.getElem_of_mem hy;have hi2:i<(T.flat.map Qh).length:=by rw[List.length_map];exact hi
   have h5:=h2 i hi2;rw[hsm i hi2,show nth T.flat i=T.flat[i]from XR (List.getElem?_eq_getElem hi),decide_eq_true hc]at h5;cases h5
 ·rw[hsm i h1]at h3;have h3:=of_decide_eq_true h3;obtain⟨h5,h6⟩:=hnt i h1;have hf:(Q5 1 t.ns s).2.2=true:=hp.2 ⟨_,h6,h3⟩;obtain⟨h7,h8⟩:=QmQ hR hV hf;have h9:nth T.flat i=ZR 1 t.ns s:=Qnf hV.srt h6 h7 (QbL.2 ((QbL.1 h3).trans (QbL.1 h8).symm));exact .inr ⟨hf,i,h1,h2,by rw[h5,h9],by rw[<-h9];exact hdc _ h6⟩
theorem Qol{l:List DEnt}{k:Nat}(hk:k<l.length):Q1 (l.take (k+1))=if(nth l k).sp=1 then Q1 (l.take k)else Q1 (l.take k)++[nth l k]:=by
 unfold Q1;rw[List.take_add_one,Xu hk,List.filter_append]
 by_cases h:(nth l k).sp=1<;>simp[h]
theorem QfC{l:List DEnt}:(Q1 l).length<=l.length:=List.length_filter_le _ _
def QbS(l:List DEnt)(re sq:Int):List (List UInt8):=(l.filter λx=>!(!decide (x.re=re/\x.sq=sq))).map DEnt.nm
theorem Qpi{l:List DEnt}{re sq:Int}:(QbS l re sq).length<=l.length:=by
 unfold QbS;rw[List.length_map];exact List.length_filter_le _ _
theorem Qrq{l:List DEnt}{re sq:Int}{k:Nat}(hk:k<l.length):QbS (l.take (k+1)) re sq=if(nth l k).re=re/\(nth l k).sq=sq then QbS (l.take k) re sq++[(nth l k).nm]else QbS (l.take k) re sq:=by
 unfold QbS;rw[List.take_add_one,Xu hk,List.filter_append,List.map_append]
 by_cases h:(nth l k).re=re/\(nth l k).sq=sq
 ·rw[if_pos h];simp[h.1,h.2]
 ·rw[if_neg h];have h2:decide ((nth l k).re=re/\(nth l k).sq=sq)=false:=decide_eq_false h;simp only[Option.toList_some,List.filter_cons,List.filter_nil,h2,Bool.not_false,Bool.not_true,Bool.false_eq_true,if_false,List.map_nil,List.append_nil]
end Gx
namespace Go.Proofs
open Go Go.RowKit Gx
attribute [local irreducible] Go.Calls Gx.S Gx.O Gx.D Gx.OpP Gx.OpQ Gx.OpH
set_option maxRecDepth 20000
instance:TFn Tryz.prog 83:=⟨by kernel_rfl⟩
theorem QwO:QL Tryz.prog 96=true:=by kernel_rfl
theorem str_get{l:List (List UInt8)}{k:Nat}(h:k<l.length):(l.map Qar)[k]?=some (Qar (nth l k)):=by
  rw[List.getElem?_map,Xu h];rfl
theorem c36(w:World)(a b:Option Addr)(ca cb:Nat)(l:List (List UInt8))(ha:Vl w a (l.map Qar))(hb:Vl w b (l.map Qar))(hm:l.length<=1000000):CR 36 #[.slice a l.length ca,.slice b l.length cb] w (.bool true):=by
 refine eN2 Tryz.func36 Tryz.ntmps36 ?_
 refine Z8 ?_
 refine sCd rfl (λh1=>?_) λh1=>?_
 ·exfalso;first|omega|(simp at h1;done)|(simp_all;done)
 refine aU7 ?_
 refine Qo (α:=Nat) [4,5,11,12,13,14,15,16,17,18,19,20,21,22,23,24,25] (λk=>[(5,.int .i64 (k:Int))]) (λ_=>HS w [] []) (λk=>k<=l.length) (λk=>l.length-k) 0 (by simp) aSx (λw h=>h.ent aEt) (λk hk=>?_)
 refine aU8 ?_
 refine sCd rfl (λh2=>?_) λh2=>?_
 ·have hkl:k<l.length:=by omega
  refine aU4 ?_
  refine QG [] mixed ?_
  refine dP 0 ?_
  refine dP 1 ?_
  refine dV 2 rfl (Qa rfl rfl rfl YK (k) om om (ha.some (by rw[List.length_map];omega))) (dQ 3 [] rfl (Qb rfl rfl YB ((ha.rd (str_get (k:=k) hkl)))) (dP 4 ?_))
  refine dP 5 ?_
  refine dV 6 rfl (Qa rfl rfl rfl YK (k) om om (hb.some (by rw[List.length_map];omega))) (dQ 7 [] rfl (Qb rfl rfl YB ((hb.rd (str_get (k:=k) hkl)))) (dP 8 ?_))
  refine dNi ?_
  refine sCd rfl (λh3=>?_) λh3=>?_
  ·exfalso;first|omega|(simp at h3;done)|(simp_all;done)
  refine aT5 ?_
  refine aU2 ?_
  exact sBk (k+1)
 refine Qg rfl ?_
 refine aU4 ?_
 exact rV
set_option maxHeartbeats 2000000 in
theorem c12(w:World)(co mo rm:Int)(a:Option Addr)(cap:Nat)(L:List LNd)(hs:Nt w [] a L)(hml:L.length<=9223372036854775807):CR 12 #[.agg #[.int .i64 co,.int .i64 mo,.int .i64 rm,.slice a L.length cap]] w (.bool (Z6 (pln L))):=by
 have hnl:(pln L).length=L.length:=Qd L
 refine eN1 Tryz.func12 Tryz.ntmps12 ?_
 refine aU2 ?_
 refine oBx λb1 _=>?_
 refine Qaa ?_
 refine Qo (α:=Nat×Int) [2,3,4,5,6,7,8,9,10,11,12,13,14,15,16,17,18,19,20,21,22,23,24,25,26,27,28,29,30,31,32,33,34,35,36,37,38,39,40,41,42,43,44,45,46,47,48,49,50,51,52,53,54,55,56,57,58,59,60,61,62,63,64,65,66,67,68,69,70,71,72,73,74,75,76] (λx=>[(3,.int .i64 x.2),(4,.int .i64 (x.1:Int))]) (λ_=>HS w [] [.blk b1 24 4 [.int .i64 co,.int .i64 mo,.int .i64 rm,.slice a L.length cap]]) (λx=>x.1<=L.length/\(∀q,q<x.1->QdA (nth (pln L) q)=true)/\(L.length<=125->x.2=((Qb9 ((pln L).take x.1):Nat):Int))) (λx=>L.length-x.1) (0,0) ⟨Nat.zero_le _,λq h=>absurd h (Nat.not_lt_zero q),λ_=>rfl⟩ aSx (λw h=>h.ent aEt) (λ⟨i,v⟩hx=>?_)
 dsimp only at hx ⊢
 obtain⟨hi1,hi3,hi4⟩:=hx
 refine aU9 ?_
 refine sCd rfl (λh2=>?_) λh2=>?_
 ·have hi5:i<L.length:=by have hq:=h2;omega
  have hnk:=QJ hi5
  refine aU9 ?_
  refine o_p (Qa rfl rfl rfl Xl (i) om om (Rw.some hs.1 om)) rfl (aU ?_)
  refine o_q (Qb rfl rfl Zx ((hs.1.rdj 1 hi5 rfl))) rfl (aU3 ?_)
  refine oOr 9 21 30 rfl
   (λhg3 _=>by
    refine aU7 ?_
    refine o_p (Qa rfl rfl rfl Xl (i) om om (Rw.some hs.1 om)) rfl (aU3 ?_)
    refine o_q (Qb rfl rfl ZU ((hs.1.rdj 2 hi5 rfl))) rfl (aU4 ?_)
    exact oJf 9 30)
   (λhg5 _=>by
    refine aU8 ?_
    exact oJt 9 30) ?_
  refine aU ?_
  refine sCd rfl (λh7=>?_) λh7=>?_
  ·have hbad:=Qmw (ns:=pln L) (k:=i) (by rw[hnl];exact hi5) (by rw[hnk];exact Qv5 (by have hq:=h7;show 20<(nth L i).es.length\/30<(nth L i).cs.length;omega))
   refine aU4 ?_
   exact rV (h:=by rw[hbad];rfl)
  have hel:(nth L i).es.length<=20/\(nth L i).cs.length<=30:=by have hq:=h7;omega
  have hv9:L.length<=125->IntKind.i64.wrap (v+((nth L i).es.length:Int))=((Qb9 ((pln L).take (i+1)):Nat):Int):=λh9=>by have h8:=QuS (ns:=pln L) (by rw[hnl];exact hi5) hi3 (by rw[hnl];exact h9) (hi4 h9) (by rw[hnk];exact hel.1);rw[hnk]at h8;exact h8
  refine aU7 ?_
  refine o_p (Qa rfl rfl rfl Xl (i) om om (Rw.some hs.1 om)) rfl (aU ?_)
  refine o_q (Qb rfl rfl Zx ((hs.1.rdj 1 hi5 rfl))) rfl (aT2 ?_)
  refine aU7 ?_
  refine Qe (L':=[(0,_),(1,_),(3,_),(4,_),(5,_)]) aSx (λ_ h=>h) ?_
  refine Qo (α:=Nat) [2,5,40,41,42,43,44,45,46,47,48,49,50,51,52,53,54,55,56,57,58,59,60,61,62,63,64,65,66,67,68,69,70,71,72,73,74,75,76] (λk=>[(5,.int .i64 (k:Int))]) (λ_=>HS w [] [.blk b1 24 4 [.int .i64 co,.int .i64 mo,.int .i64 rm,.slice a L.length cap]]) (λk=>k<=(nth L i).es.length/\∀q,q<k->Qd3 (nth (nth L i).es q)=true) (λk=>(nth L i).es.length-k) 0 ⟨Nat.zero_le _,λq h=>absurd h (Nat.not_lt_zero q)⟩ aSx (λw h=>h.ent aEt) (λk hx=>?_)
  obtain⟨hk1,hk3⟩:=hx
  refine aU7 ?_
  refine o_p (Qa rfl rfl rfl Xl (i) om om (Rw.some hs.1 om)) rfl (aU ?_)
  refine o_q (Qb rfl rfl Zx ((hs.1.rdj 1 hi5 rfl))) rfl (aU3 ?_)
  refine sCd rfl (λh8=>?_) λh8=>?_
  ·have hk5:k<(nth L i).es.length:=by have hq:=h8;omega
   refine aU8 ?_
   refine o_p (Qa rfl rfl rfl Xl (i) om om (Rw.some hs.1 om)) rfl (aU ?_)
   refine o_q (Qb rfl rfl Zx ((hs.1.rdj 1 hi5 rfl))) rfl (aU ?_)
   refine o_p (Qa rfl rfl rfl QD (k) om om (Rw.some (hs.es hi5) om)) rfl (aU ?_)
   refine o_q (Qb rfl rfl YB (((hs.es hi5).rdj 0 hk5 rfl))) rfl (o_p (Qp rfl rfl Tryz.underlying9) rfl (aU2 ?_))
   refine oOr 13 63 76 rfl
    (λhg9 _=>by
     refine aU7 ?_
     refine o_p (Qa rfl rfl rfl Xl (i) om om (Rw.some hs.1 om)) rfl (aU3 ?_)
     refine o_q (Qb rfl rfl Zx ((hs.1.rdj 1 hi5 rfl))) rfl (aU3 ?_)
     refine o_p (Qa rfl rfl rfl QD (k) om om (Rw.some (hs.es hi5) om)) rfl (aU3 ?_)
     refine o_q (Qb rfl rfl YB (((hs.es hi5).rdj 1 hk5 rfl))) rfl (aU ?_)
     refine o_p (Qp rfl rfl Tryz.underlying9) rfl (aU2 ?_)
     exact oJf 13 76)
    (λhg11 _=>by
     refine Qaa ?_
     exact oJt 13 76) ?_
   refine aU ?_
   refine sCd rfl (λh13=>?_) λh13=>?_
   ·have hz2:¬Qd3 (nth (nth L i).es k)=true:=by have hq:=h13;unfold Qd3;rw[decide_eq_true_eq];omega
    have hbad:=Qmw (ns:=pln L) (k:=i) (by rw[hnl];exact hi5) (by rw[hnk];exact QuK (k:=k) hk5 hz2)
    refine aU4 ?_
    exact rV (h:=by rw[hbad];rfl)
   have hz2:Qd3 (nth (nth L i).es k)=true:=by have hq:=h13;unfold Qd3;rw[decide_eq_true_eq];omega
   refine aT5 ?_
   refine aU2 ?_
   exact sBk (k+1) om ⟨om,λq hq=>(Nat.lt_or_ge q k).elim (hk3 q) (λh9=>by obtain rfl:q=k:=om;exact hz2)⟩
  have hz1:QdA (nth (pln L) i)=true:=by rw[hnk];exact Qwf hel.1 hel.2 (λq hq=>hk3 q (by have hq8:=h8;have hq7:q<(nth L i).es.length:=hq;omega))
  refine Qg rfl ?_
  refine aT4 ?_
  refine aU2 ?_
  exact sBk (i+1,IntKind.i64.wrap (v+((nth L i).es.length:Int))) (by dsimp only;omega) (by dsimp only;exact⟨om,λq hq=>(Nat.lt_or_ge q i).elim (hi3 q) (λh9=>by obtain rfl:q=i:=om;exact hz1),hv9⟩)
 have hall:=Qss (ns:=pln L) (λq hq=>hi3 q (by rw[hnl]at hq;omega))
 obtain rfl:i=L.length:=by have hq:=h2;omega
 refine Qg rfl ?_
 refine aU7 ?_
 refine Xs 3 81 84 rfl
  (λhg14 _=>by
   refine aU4 ?_
   exact oJt 3 84)
  (λhg16 _=>by
   refine aU2 ?_
   exact oJf 3 84) ?_
 refine aU2 ?_
 exact rV (h:=by rw[hall];simp only[Qt];congr 1;by_cases h9:L.length<=125;(have h8:=hi4 h9;rw[List.take_of_length_le (by rw[hnl];exact Nat.le_refl _)]at h8;subst h8;simp only[hnl];grind);(simp only[hnl];grind))
theorem c83(w:World)(a:Option Addr)(cap:Nat)(l:List DEnt)(hs:Rw DEnt.vals 9 w [] a l)(hm:l.length<=100000):CE 83 #[.slice a l.length cap] w [] (λg:Option Addr×Nat=>.slice g.1 (Q1 l).length g.2) (λg=>True) λg=>[.own (.slice g.1 (Q1 l).length g.2) 66 9 (Q1 l).length ((Q1 l).flatMap DEnt.vals)]:=by
 refine eN1 Tryz.func83 Tryz.ntmps83 ?_
 refine Qhm ?_
 refine Qo (α:=Nat×(Option Addr×Nat)) [3,4,5,6,7,8,9,10,11,12,13,14,15,16,17,18,19,20,21,22,23] (λy=>[(4,.int .i64 (y.1:Int)),(3,.slice y.2.1 (Q1 (l.take y.1)).length y.2.2)]) (λy=>HS w [] [.own (.slice y.2.1 (Q1 (l.take y.1)).length y.2.2) 66 9 (Q1 (l.take y.1)).length ((Q1 (l.take y.1)).flatMap DEnt.vals)]) (λy=>y.1<=l.length) (λy=>l.length-y.1) (0,(none,0)) (Nat.zero_le _) aSx (λw h=>(h.own_nil 66 9).ent aEt) (λ⟨k,A⟩hk1=>?_)
 dsimp only at hk1 ⊢
 have hkl:=QfC (l:=l.take k)
 rw[List.length_take]at hkl
 refine aU8 ?_
 refine sCd rfl (λh1=>?_) λh1=>?_
 ·have hk:k<l.length:=by have hq:=h1;omega
  have hst:=Qol hk
  refine aU7 ?_
  refine o_p (Qa rfl rfl rfl XL (k) om om (Rw.some hs om)) rfl (aU ?_)
  refine o_q (Qb rfl rfl Y2 ((hs.rdj 1 hk rfl))) rfl (aU2 ?_)
  refine sCd rfl (λh2=>?_) λh2=>?_
  ·rw[if_neg (by have hq:=h2;simpa using hq)]at hst
   refine aU4 ?_
   refine o_p (Qa rfl rfl rfl XL (k) om om (Rw.some hs om)) rfl (o_q (Qn _ rfl rfl Yq rfl (Rw.rd hs hk)) rfl (o_h (Ql (cs:=[_,_,_,_,_,_,_,_,_]) rfl rfl XL Xm rfl rfl rfl) rfl (λb3 _=>o_h (QM (n:=(Q1 (l.take k)).length) (nth l k).vals rfl rfl rfl XL Tryz.underlying33 Xm rfl aPk (Xp aPk) rfl (dv1 _) om (by simp only[maxLen];omega)) rfl (λb4 _=>aT6 ?_))))
   refine aU2 ?_
   exact Qv (k+1,b4) (by dsimp only;omega) (by dsimp only;omega) (by dsimp only;rw[hst,List.length_append];exact aSx) (λw h=>by dsimp only;rw[hst,List.length_append,QaK];exact h.ent aEt)
  rw[if_pos (by have hq:=h2;simpa using hq)]at hst
  refine aT5 ?_
  refine aU2 ?_
  exact Qv (k+1,A) (by dsimp only;omega) (by dsimp only;omega) (by dsimp only;rw[hst];exact aSx) (λw h=>by dsimp only;rw[hst];exact h.ent aEt)
 obtain rfl:k=l.length:=by have hq:=h1;omega
 rw[List.take_length]
 refine Qg rfl ?_
 refine aU5 ?_
 exact rT rfl rfl (λw' h'=>⟨A,rfl,trivial,h'.ent aEt⟩)
set_option maxHeartbeats 2000000 in
theorem c37(w:World)(a:Option Addr)(cap:Nat)(l:List DEnt)(re sq:Int)(hs:Rw DEnt.vals 9 w [] a l)(hm:l.length<=100000):CE 37 #[.slice a l.length cap,.agg #[.int .i64 re,.int .i64 sq]] w [] (λg:Option Addr×Nat=>.slice g.1 (QbS (Q1 l) re sq).length g.2) (λg=>True) λg=>[.own (.slice g.1 (QbS (Q1 l) re sq).length g.2) 9 1 (QbS (Q1 l) re sq).length ((QbS (Q1 l) re sq).map Qar)]:=by
 have hlo:=QfC (l:=l)
 refine eN2 Tryz.func37 Tryz.ntmps37 ?_
 refine aU2 ?_
 refine oBx λb1 _=>?_
 refine aU9 ?_
 refine oCh rfl (λw1 h1=>c83 w1 a cap l (hs.later h1.nil) hm) (λgL _=>aU8 ?_)
 refine Qo (α:=Nat×(Option Addr×Nat)) [5,7,10,11,12,13,14,15,16,17,18,19,20,21,22,23,24,25,26,27,28,29,30] (λy=>[(7,.int .i64 (y.1:Int)),(5,.slice y.2.1 (QbS ((Q1 l).take y.1) re sq).length y.2.2)]) (λy=>HS w [] [.own (.slice y.2.1 (QbS ((Q1 l).take y.1) re sq).length y.2.2) 9 1 (QbS ((Q1 l).take y.1) re sq).length ((QbS ((Q1 l).take y.1) re sq).map Qar),.own (.slice gL.1 (Q1 l).length gL.2) 66 9 (Q1 l).length ((Q1 l).flatMap DEnt.vals),.blk b1 26 2 [.int .i64 re,.int .i64 sq]]) (λy=>y.1<=(Q1 l).length) (λy=>(Q1 l).length-y.1) (0,(none,0)) (Nat.zero_le _) aSx (λw h=>(h.own_nil 9 1).ent aEt) (λ⟨k,A⟩hk1=>?_)
 dsimp only at hk1 ⊢
 have hkl:=Qpi (l:=(Q1 l).take k) (re:=re) (sq:=sq)
 rw[List.length_take]at hkl
 refine aU8 ?_
 refine sCd rfl (λh2=>?_) λh2=>?_
 ·have hk:k<(Q1 l).length:=by have hq:=h2;omega
  have hst:=Qrq (re:=re) (sq:=sq) hk
  refine Qcb (λw h=>Rw.some (h.rw_own dv9 aPk rfl) om) λhsm=>aU4 ?_
  refine QG [] mixed ?_
  refine dP 0 ?_
  refine dP 1 ?_
  refine dV 2 rfl (Qa rfl rfl rfl XL (k) om om hsm) (dFa 3 ?_)
  refine dQ 4 [] rfl (Xz _ rfl rfl Qah rfl (λw h=>Qgh (h.rw_own dv9 aPk rfl) hk)) (dLn 5 [] ?_)
  refine dV 6 rfl (Xj rfl rfl rfl QdL (by rfl) (by rfl) (by rfl)) (dNi ?_)
  refine sCd rfl (λh3=>?_) λh3=>?_
  ·rw[if_pos (by have hq:=h3;grind)]at hst
   refine aU4 ?_
   refine o_p (Qa rfl rfl rfl XL (k) om om hsm) rfl (aU ?_)
   refine o_q (Xi rfl rfl YB ((λw h=>(h.rw_own dv9 aPk rfl).rdj 0 hk rfl))) rfl (o_h (Ql (cs:=[_]) rfl rfl YK QeP rfl rfl rfl) rfl (λb4 _=>o_h (QM (n:=(QbS ((Q1 l).take k) re sq).length) [.string (bs (nth (Q1 l) k).nm)] rfl rfl rfl YK Tryz.underlying69 QeP rfl aPk (Xp aPk) rfl (by intro u hu;simp only[List.mem_cons,List.mem_nil_iff,or_false]at hu;subst hu;rfl) om (by simp only[maxLen];omega)) rfl (λb5 _=>aT6 ?_)))
   refine aU2 ?_
   exact Qv (k+1,b5) (by dsimp only;omega) (by dsimp only;omega) (by dsimp only;rw[hst,List.length_append];exact aSx) (λw h=>by dsimp only;rw[hst,List.length_append,List.map_append];exact h.ent aEt)
  rw[if_neg (by have hq:=h3;grind)]at hst
  refine aT5 ?_
  refine aU2 ?_
  exact Qv (k+1,A) (by dsimp only;omega) (by dsimp only;omega) (by dsimp only;rw[hst];exact aSx) (λw h=>by dsimp only;rw[hst];exact h.ent aEt)
 obtain rfl:k=(Q1 l).length:=by have hq:=h2;omega
 rw[List.take_length]
 refine Qg rfl ?_
 refine aU5 ?_
 exact rT rfl rfl (λw' h'=>⟨A,rfl,trivial,h'.ent aEt⟩)
theorem c38(w:World)(a:Option Addr)(cap:Nat)(l:List DEnt)(s:List UInt8)(hs:Rw DEnt.vals 9 w [] a l)(hm:l.length<=100000)(hl:∀e∈l,QI e.nm=0)(h0:QI s=0):CR 38 #[.slice a l.length cap,.string (bs s)] w (.int .i64 (ixI (l.map λe=>YT Yz e.nm s))):=by
 obtain⟨hs1,hs2⟩:=Qcu h0
 have hg9:∀k,k<l.length->(l.map λe=>YT Yz e.nm s).getD k false=YT Yz (nth l k).nm s:=λk hk=>Xn (d:=default) hk
 refine eN2 Tryz.func38 Tryz.ntmps38 ?_
 refine Qbg ?_
 refine Qo (α:=Nat) [4,5,6,7,8,9,10,11,12,13,14,15,16,17,18,19,20] (λk=>[(5,.int .i64 (k:Int))]) (λ_=>HS w [] []) (λk=>k<=l.length/\∀j,j<k->YT Yz (nth l j).nm s=false) (λk=>l.length-k) 0 ⟨Nat.zero_le _,λj h=>absurd h (Nat.not_lt_zero j)⟩ aSx (λw h=>h.ent aEt) (λk hkk=>?_)
 obtain⟨hk1,hk2⟩:=hkk
 refine aU8 ?_
 refine sCd rfl (λh1=>?_) λh1=>?_
 ·have hk:k<l.length:=by have hq:=h1;omega
  refine aU4 ?_
  refine QG [] mixed ?_
  refine dQ 0 [] rfl (Qz rfl QtZ rfl (λw1 h1=>c86 w1)) (dP 1 ?_)
  refine dP 2 ?_
  refine dV 3 rfl (Qa rfl rfl rfl XL (k) om om (Rw.some hs om)) (dFa 4 ?_)
  refine dQ 5 [] rfl (Qb rfl rfl YB ((hs.rdj 0 hk rfl))) (dP 6 ?_)
  refine dQ 7 [] rfl (Qz rfl QwO rfl (λw1 h1=>by have h9:=Qcu (hl _ (Qq hk));exact c96 w1 Yz (nth l k).nm s Qap h9.1 hs1 om om)) (dNi ?_)
  refine sCd rfl (λh2=>?_) λh2=>?_
  ·have hix:=Qun (l:=l.map λe=>YT Yz e.nm s) (k:=k) (by rw[List.length_map];exact hk) (by rw[hg9 k hk];have hq:=h2;simpa using hq) (λj hj=>by rw[hg9 j om];exact hk2 j hj)
   refine aU5 ?_
   exact rV (h:=by rw[hix];rfl)
  have hp:YT Yz (nth l k).nm s=false:=by have hq:=h2;simpa using hq
  refine aT5 ?_
  refine aU2 ?_
  exact sBk (k+1) om ⟨om,λj hj=>(Nat.lt_succ_iff_lt_or_eq.1 hj).elim (hk2 j) (λe9=>by rw[e9];exact hp)⟩
 have hix:=Qtt (l:=l.map λe=>YT Yz e.nm s) (λj hj=>by rw[List.length_map]at hj;rw[hg9 j hj];exact hk2 j (by have hq:=h1;omega))
 refine Qg rfl ?_
 refine aU4 ?_
 exact rV (h:=by rw[hix];rfl)
theorem QwF:QL Tryz.prog 91=true:=by kernel_rfl
instance:TFn Tryz.prog 61:=⟨by kernel_rfl⟩
instance:TFn Tryz.prog 88:=⟨by kernel_rfl⟩
instance:TFn Tryz.prog 79:=⟨by kernel_rfl⟩
instance:TFn Tryz.prog 92:=⟨by kernel_rfl⟩
def Qtl(ns:List Nd)(s:List UInt8):TEnt:=if(Q5 1 ns s).2.2=true then ZR 1 ns s else⟨[],[]⟩
def QcH(ns:List Nd)(s:List UInt8):Int:=if(Q5 1 ns s).2.2=true then 0 else 6
def QeG(t:Tre)(T:BT)(s:List UInt8):Int:=Xe (Xg t T.flat).2 (Xe (QI s) (QcH t.ns s))
def XS(t:Tre)(T:BT)(s:List UInt8):DEnt:=if QeG t T s=0 then Qh (ZR 1 t.ns s)else noE
theorem QcT(b:Int):Xe 0 b=b:=if_pos rfl
theorem Qv0{ns:List Nd}{s:List UInt8}(h:QcH ns s=0):(Q5 1 ns s).2.2=true:=by
  unfold QcH at h;split at h
  · assumption
  · cases h
theorem Qv8{ns:List Nd}{s:List UInt8}(h:¬QcH ns s=0):QcH ns s=6:=by
  unfold QcH at h ⊢;split at h
  · exact absurd rfl h
  · rename_i h1;exact if_neg h1
theorem c88w(w:World)(co mo rm:Int)(a:Option Addr)(cap:Nat)(L:List LNd)(s:List UInt8)(hco:co=1)(hs:Nt w [] a L)(hB:Bd (pln L))(hkl:∀i,i<L.length->∀x∈(nth L i).es,x.key.length<=1000000)(h0:(XD (⟨co,mo,rm,pln L⟩:Tre)).2=0)(hm:s.length<=1000000)(hx0:Zl (1:Int) s=0):CR 88 #[.agg #[.int .i64 co,.int .i64 mo,.int .i64 rm,.slice a L.length cap],.string (bs s)] w (.tuple #[.agg #[.string (bs (Qtl (pln L) s).key),.string (bs (Qtl (pln L) s).val)],.int .i64 (QcH (pln L) s)]):=by
  subst hco;unfold Qtl QcH
  by_cases hx:(Q5 1 (pln L) s).2.2=true
  · rw[if_pos hx,if_pos hx];exact c88o w 1 mo rm a cap L s hs hB hkl h0 hm hx0 hx
  · rw[if_neg hx,if_neg hx];exact c88m w 1 mo rm a cap L s hs hB hkl h0 hm hx0 hx
theorem QrL{t:Tre}{T:BT}{s:List UInt8}(hV:DV t T)(hz:(Xg t T.flat).2=0)(hs:QI s=0)(hf:(Q5 1 t.ns s).2.2=true):dcE (ZR 1 t.ns s)=0/\(ZR 1 t.ns s).key.length<=1000000/\(ZR 1 t.ns s).val.length<=1000000:=by
  obtain⟨h0,hco,hall,_⟩:=Qjh hz;obtain⟨d,lo,hi,rt,hR,hVT⟩:=hV h0
  have h1:dcE (ZR 1 t.ns s)=0:=by
    rcases QeM hco hR hVT hall hs with⟨h1,_⟩|⟨_,i,_,_,_,h1⟩
    · rw[h1]at hf;cases hf
    · exact h1
  rw[hco]at hVT;have h7:=hVT.ents _ (QmQ hR hVT hf).1;have h6:=Qde (Qal h7)
  have h5:(ZR 1 t.ns s).val.length<=64:=by
    unfold YQ at h7;split at h7
    · split at h7
      · assumption
      · cases h7
    · cases h7
  exact⟨h1,om,om⟩
set_option maxHeartbeats 2000000 in
theorem c32(w:World)(co mo rm:Int)(a:Option Addr)(cap:Nat)(L:List LNd)(T:BT)(s:List UInt8)(hs:Nt w [] a L)(hB:Bd (pln L))(hkl:∀i,i<L.length->∀x∈(nth L i).es,x.key.length<=1000000)(hl2:L.length<=1000)(hT:DT (⟨co,mo,rm,pln L⟩:Tre) T)(hV:DV (⟨co,mo,rm,pln L⟩:Tre) T)(hm:s.length<=1000000):CR 32 #[.agg #[.int .i64 co,.int .i64 mo,.int .i64 rm,.slice a L.length cap],.string (bs s)] w (.tuple #[.agg #[.string (bs (XS (⟨co,mo,rm,pln L⟩:Tre) T s).nm),.int .i64 (XS (⟨co,mo,rm,pln L⟩:Tre) T s).sp,.string (bs (XS (⟨co,mo,rm,pln L⟩:Tre) T s).ot),.int .i64 (XS (⟨co,mo,rm,pln L⟩:Tre) T s).re,.int .i64 (XS (⟨co,mo,rm,pln L⟩:Tre) T s).sq,.int .i64 (XS (⟨co,mo,rm,pln L⟩:Tre) T s).fl,.int .i64 (XS (⟨co,mo,rm,pln L⟩:Tre) T s).tm,.int .i64 (XS (⟨co,mo,rm,pln L⟩:Tre) T s).al,.int .i64 (XS (⟨co,mo,rm,pln L⟩:Tre) T s).sz],.int .i64 (QeG (⟨co,mo,rm,pln L⟩:Tre) T s)]):=by
 refine eN2 Tryz.func32 Tryz.ntmps32 ?_
 refine aU2 ?_
 refine oBx λb1 _=>?_
 refine oAl (λb2 _=>?_) Xm
 refine aU7 ?_
 refine oCh rfl (λw1 h1=>c61 w1 co mo rm a cap L T s (hs.later h1.nil) hB hkl hl2 hT hm) (λgO _=>Qas ?_)
 refine sCd rfl (λh3=>?_) λh3=>?_
 ·have he:¬Xe (Xg (⟨co,mo,rm,pln L⟩:Tre) T.flat).2 (QI s)=0:=by have hq:=h3;simpa using hq
  have hE:(QeG (⟨co,mo,rm,pln L⟩:Tre) T s)=Xe (Xg (⟨co,mo,rm,pln L⟩:Tre) T.flat).2 (QI s):=by unfold QeG;unfold Xe at he ⊢;grind
  have hD:(XS (⟨co,mo,rm,pln L⟩:Tre) T s)=noE:=if_neg (by rw[hE];exact he)
  refine aU2 ?_
  refine o_p (QU (cs:=[_,_,_,_,_,_,_,_,_]) rfl rfl Qbv Xm rfl) rfl (aU4 ?_)
  exact Qj (rs:=[.cell 4 66,.tmp 5]) rfl (.cell rfl Yq aPk rfl (.tmp rfl (.nil))) (λw' h'=>⟨by rw[hE,hD];rfl,h'.below⟩)
 have he:Xe (Xg (⟨co,mo,rm,pln L⟩:Tre) T.flat).2 (QI s)=0:=by have hq:=h3;simpa using hq
 obtain⟨hz0,hn0⟩:=Y9 he
 obtain⟨h0,hco,hall,_⟩:=Qjh hz0
 have hE:(QeG (⟨co,mo,rm,pln L⟩:Tre) T s)=QcH (pln L) s:=by unfold QeG;rw[hz0,hn0,QcT,QcT]
 refine aU5 ?_
 refine oCq rfl (λw1 h1=>c88w w1 co mo rm a cap L s hco (hs.later h1.nil) hB hkl h0 hm (Qq0 hn0)) (aU3 ?_)
 refine oAl (λb4 _=>?_) YD
 refine aU9 ?_
 refine sCd rfl (λh5=>?_) λh5=>?_
 ·have hf:¬QcH (pln L) s=0:=by have hq:=h5;simpa using hq
  have hD:(XS (⟨co,mo,rm,pln L⟩:Tre) T s)=noE:=if_neg (by rw[hE];exact hf)
  have hE6:=Qv8 hf
  refine aU2 ?_
  refine o_p (QU (cs:=[_,_,_,_,_,_,_,_,_]) rfl rfl Qbv Xm rfl) rfl (aU3 ?_)
  exact Qj (rs:=[.cell 4 66,.tmp 5]) rfl (.cell rfl Yq aPk rfl (.tmp rfl (.nil))) (λw' h'=>⟨by rw[hE,hE6,hD];rfl,h'.below⟩)
 have hf:QcH (pln L) s=0:=by have hq:=h5;simpa using hq
 have hp:=Qv0 hf
 have hdc:dcE (ZR 1 (pln L) s)=0/\(ZR 1 (pln L) s).key.length<=1000000/\(ZR 1 (pln L) s).val.length<=1000000:=QrL (s:=s) hV hz0 hn0 hp
 have hD:(XS (⟨co,mo,rm,pln L⟩:Tre) T s)=Qh (ZR 1 (pln L) s):=if_pos (by rw[hE];exact hf)
 rw[show Qtl (pln L) s=ZR 1 (pln L) s from if_pos hp]
 refine aU4 ?_
 refine oCq rfl (λw1 h1=>by have h9:=c40 w1 (ZR 1 (pln L) s) om om;rw[show dcD (ZR 1 (pln L) s)=Qh (ZR 1 (pln L) s)from if_pos hdc.1,hdc.1]at h9;exact h9) (aU5 ?_)
 exact Qj (rs:=[.cell 4 66,.tmp 5]) rfl (.cell rfl Yq aPk rfl (.tmp rfl (.nil))) (λw' h'=>⟨by rw[hE,hf,hD];rfl,h'.below⟩)
theorem Qvo{w:World}{M:List Nat}{b:Nat}{re sq:Int}(h0:Rd w M b 0 (.int .i64 re))(h1:Rd w M b 1 (.int .i64 sq)):∀j v,([.int .i64 re,.int .i64 sq]:List Value)[j]?=some v->Rd w M b (0+j) v:=by
  intro j v hv
  match j,hv with
  | 0,hv=>cases hv;exact h0
  | 1,hv=>cases hv;exact h1
  | j+2,hv=>simp at hv
theorem c91(w:World)(b:Nat)(re sq:Int)(o:DEnt)(hr:∀j v,([.int .i64 re,.int .i64 sq]:List Value)[j]?=some v->Rd w [] b (0+j) v):CR 91 #[.agg #[.string (bs o.nm),.int .i64 o.sp,.string (bs o.ot),.int .i64 o.re,.int .i64 o.sq,.int .i64 o.fl,.int .i64 o.tm,.int .i64 o.al,.int .i64 o.sz],.pointer (some ⟨b,0,none⟩)] w (.bool (!decide (o.re=re/\o.sq=sq))):=by
 refine eN2 Tryz.func91 Tryz.ntmps91 ?_
 refine aU2 ?_
 refine oBx λb1 _=>?_
 refine aU6 ?_
 refine o_q (Qn _ rfl rfl Qah rfl hr) rfl (o_p (QhK rfl rfl rfl QdL (by rfl) (by rfl) (by rfl)) rfl (aU2 ?_))
 exact rV (h:=by simp only[Qt];congr 2;grind)
def Qb6(t:Tre)(X:List TEnt)(re sq:Int):List (List UInt8):=if Xe (Xg t X).2 (Qaw re sq)=0 then QbS (Q1 (X.map Qh)) re sq else[]
theorem Qvc{t:Tre}{X:List TEnt}(h:(Xg t X).2=0):Qcs t X=X.map Qh:=if_pos h
set_option maxHeartbeats 2000000 in
theorem c33(w:World)(co mo rm:Int)(a:Option Addr)(cap:Nat)(L:List LNd)(T:BT)(re sq:Int)(hs:Nt w [] a L)(hB:Bd (pln L))(hkl:∀i,i<L.length->∀x∈(nth L i).es,x.key.length<=1000000)(hl2:L.length<=1000)(hT:DT (⟨co,mo,rm,pln L⟩:Tre) T)(hfl:T.flat.length<=2500):CE 33 #[.agg #[.int .i64 co,.int .i64 mo,.int .i64 rm,.slice a L.length cap],.agg #[.int .i64 re,.int .i64 sq]] w [] (λg:Option Addr×Nat=>.tuple #[.slice g.1 (Qb6 (⟨co,mo,rm,pln L⟩:Tre) T.flat re sq).length g.2,.int .i64 (Xe (Xg (⟨co,mo,rm,pln L⟩:Tre) T.flat).2 (Qaw re sq))]) (λg=>True) λg=>[.own (.slice g.1 (Qb6 (⟨co,mo,rm,pln L⟩:Tre) T.flat re sq).length g.2) 9 1 (Qb6 (⟨co,mo,rm,pln L⟩:Tre) T.flat re sq).length ((Qb6 (⟨co,mo,rm,pln L⟩:Tre) T.flat re sq).map Qar)]:=by
 refine eN2 Tryz.func33 Tryz.ntmps33 ?_
 refine aU2 ?_
 refine oBx λb1 _=>?_
 refine oBx λb2 _=>?_
 refine aU6 ?_
 refine oCh rfl (λw1 h1=>c74 w1 co mo rm a cap L T (hs.later h1.nil) hB hkl hl2 hT) (λgO _=>Z8 ?_)
 refine oCq rfl (λw1 h1=>c89 w1 re sq) (o_h (Ql (cs:=[_,_]) rfl rfl YF QaO rfl rfl rfl) rfl (λb3 _=>oCq rfl (λw1 h1=>f62 h1 aPk (by rfl) (by rfl) (by decide)) (aU7 ?_)))
 refine sCd rfl (λh4=>?_) λh4=>?_
 ·rw[QfQ]at h4
  have he:¬(Xe (Xg (⟨co,mo,rm,pln L⟩:Tre) T.flat).2 (Qaw re sq))=0:=by have hq:=h4;simpa using hq
  have hN:(Qb6 (⟨co,mo,rm,pln L⟩:Tre) T.flat re sq)=[]:=if_neg he
  refine aU6 ?_
  exact Qj (rs:=[.tmp 4,.tmp 5]) rfl (.tmp rfl (.tmp rfl (.nil))) (λw' h'=>⟨(none,0),by rw[hN,QfQ];rfl,trivial,by rw[hN];exact(h'.own_nil 9 1).ent aEt⟩)
 rw[QfQ]at h4
 have he:(Xe (Xg (⟨co,mo,rm,pln L⟩:Tre) T.flat).2 (Qaw re sq))=0:=by have hq:=h4;simpa using hq
 obtain⟨hz0,hr0⟩:=Y9 he
 have hN:(Qb6 (⟨co,mo,rm,pln L⟩:Tre) T.flat re sq)=QbS (Q1 (T.flat.map Qh)) re sq:=if_pos he
 have hlo:=QfC (l:=T.flat.map Qh)
 rw[List.length_map]at hlo
 rw[Qvc hz0]
 refine aU4 ?_
 refine oCh rfl (λw1 h1=>c79 w1 gO.1 gO.2 (T.flat.map Qh) (h1.rw_own dv9 aPk rfl) (by rw[List.length_map];omega)) (λgL _=>aU ?_)
 refine o_h (Xy (Cs:=[.own (.slice gL.1 (Q1 (T.flat.map Qh)).length gL.2) 66 9 (Q1 (T.flat.map Qh)).length ((Q1 (T.flat.map Qh)).flatMap DEnt.vals)]) rfl QtP rfl aPs (λw1 h1 hf=>c90o w1 gL.1 gL.2 (Q1 (T.flat.map Qh)) 91 _ (λx=>!decide (x.re=re/\x.sq=sq)) hf om QwF (λx w2 hx h2=>by have h9:=c91 w2 b2 re sq x (Qvo ((h2.keep (h1.rd_blkF aPs (b:=b2) (i:=0) aPk rfl)).mono (by simp)) ((h2.keep (h1.rd_blkF aPs (b:=b2) (i:=1) aPk rfl)).mono (by simp)));exact h9))) rfl (λ_ _=>aU5 ?_)
 refine oCh rfl (λw1 h1=>c92 w1 gL.1 gL.2 ((Q1 (T.flat.map Qh)).filter λx=>!(!decide (x.re=re/\x.sq=sq))) (h1.rw_own dv9 aPk rfl) (by have:=List.length_filter_le (λx:DEnt=>!(!decide (x.re=re/\x.sq=sq))) (Q1 (T.flat.map Qh));omega)) (λgN _=>aU3 ?_)
 exact Qj (rs:=[.tmp 4,.tmp 5]) rfl (.tmp rfl (.tmp rfl (.nil))) (λw' h'=>⟨gN,by rw[hN,he];rfl,trivial,by rw[hN];exact h'.ent aEt⟩)
instance:TFn Tryz.prog 12:=⟨by kernel_rfl⟩
instance:TFn Tryz.prog 31:=⟨by kernel_rfl⟩
instance:TFn Tryz.prog 32:=⟨by kernel_rfl⟩
theorem QwS:QL Tryz.prog 33=true:=by kernel_rfl
theorem Ql9:QL Tryz.prog 29=true:=by kernel_rfl
instance:TFn Tryz.prog 29:=⟨Ql9⟩
theorem QwW:QL Tryz.prog 37=true:=by kernel_rfl
theorem QwU:QL Tryz.prog 36=true:=by kernel_rfl
instance:TFn Tryz.prog 38:=⟨by kernel_rfl⟩
theorem Qrx(w:World)(co mo rm:Int)(a:Option Addr)(cap:Nat)(L:List LNd)(T:BT)(hs:Nt w [] a L)(hB:Bd (pln L))(hkl:∀i,i<L.length->∀x∈(nth L i).es,x.key.length<=1000000)(hl2:L.length<=1000)(hT:DT (⟨co,mo,rm,pln L⟩:Tre) T)(hz0:(Xg (⟨co,mo,rm,pln L⟩:Tre) T.flat).2=0):Calls Tryz.prog 29 #[.agg #[.int .i64 co,.int .i64 mo,.int .i64 rm,.slice a L.length cap]] w λen w'=>∃g:Option Addr×Nat,en=.returned (.slice g.1 (T.flat.map Qh).length g.2)/\(0<(T.flat.map Qh).length->g.1=some ⟨ab g.1,ao g.1,none⟩)/\HS w [] [.own (.slice g.1 (T.flat.map Qh).length g.2) 66 9 (T.flat.map Qh).length ((T.flat.map Qh).flatMap DEnt.vals)] w':=
  (c29 w co mo rm a cap L T hs hB hkl hl2 hT hz0).mono λen w'⟨g,h1,_,h3⟩=>⟨g,h1,λh9=>Rw.some (h3.rw_own dv9 .here rfl) h9,h3⟩
theorem c6z(w:World)(co mo rm:Int)(a:Option Addr)(cap:Nat)(L:List LNd)(s:List UInt8)(re sq:Int)(hs:Nt w [] a L)(hml:L.length<=9223372036854775807)(hz:¬(Z6 (pln L)=true/\s.length<=60)):CR 6 #[.agg #[.int .i64 co,.int .i64 mo,.int .i64 rm,.slice a L.length cap],.string (bs s),.agg #[.int .i64 re,.int .i64 sq]] w (.bool true):=by
 refine eN3 Tryz.func6 Tryz.ntmps6 ?_
 refine aU2 ?_
 refine oBx λb1 _=>?_
 refine oBx λb2 _=>?_
 refine aU5 ?_
 refine oCq rfl (λw1 h1=>c11 w1) (aU2 ?_)
 refine sCd rfl (λh3=>?_) λh3=>?_
 ·exfalso;simp at h3
 refine aU5 ?_
 refine oCq rfl (λw1 h1=>c12 w1 co mo rm a cap L (hs.later h1.nil) hml) (aU2 ?_)
 refine oOr 4 22 26 rfl
  (λhg4 _=>by
   refine aU3 ?_
   refine o_p (Qp rfl rfl Tryz.underlying9) rfl (aU2 ?_)
   exact oJf 4 26)
  (λhg6 _=>by
   refine aU3 ?_
   exact oJt 4 26) ?_
 refine aU ?_
 refine sCd rfl (λh8=>?_) λh8=>?_
 ·refine aU4 ?_
  exact rV
 exfalso;have hq:=h8;simp at hq;exact hz ⟨hq.1,om⟩
set_option maxHeartbeats 8000000 in
theorem c6w(w:World)(co mo rm:Int)(a:Option Addr)(cap:Nat)(L:List LNd)(T:BT)(s:List UInt8)(re sq:Int)(hs:Nt w [] a L)(hfw:Z6 (pln L)=true)(hsl:s.length<=60)(hT:DT (⟨co,mo,rm,pln L⟩:Tre) T)(hV:DV (⟨co,mo,rm,pln L⟩:Tre) T)(hfl:T.flat.length<=2500):CR 6 #[.agg #[.int .i64 co,.int .i64 mo,.int .i64 rm,.slice a L.length cap],.string (bs s),.agg #[.int .i64 re,.int .i64 sq]] w (.bool true):=by
 have hB:=QtI hfw
 have hkl:=Qc8 hfw
 have hsm:=Qsx hfw
 have hle:=hB.len
 rw[Qd]at hle
 have hml:L.length<=9223372036854775807:=om
 refine eN3 Tryz.func6 Tryz.ntmps6 ?_
 refine aU2 ?_
 refine oBx λb1 _=>?_
 refine oBx λb2 _=>?_
 refine aU5 ?_
 refine oCq rfl (λw1 h1=>c11 w1) (aU2 ?_)
 refine sCd rfl (λh3=>?_) λh3=>?_
 ·exfalso;simp at h3
 refine aU5 ?_
 refine oCq rfl (λw1 h1=>c12 w1 co mo rm a cap L (hs.later h1.nil) hml) (aU2 ?_)
 refine oOr 4 22 26 rfl
  (λhg4 _=>by
   refine aU3 ?_
   refine o_p (Qp rfl rfl Tryz.underlying9) rfl (aU2 ?_)
   exact oJf 4 26)
  (λhg6 _=>by
   refine aU3 ?_
   exact oJt 4 26) ?_
 refine aU ?_
 refine sCd rfl (λh8=>?_) λh8=>?_
 ·exfalso;have hq:=h8;simp[hfw]at hq;omega
 refine aU4 ?_
 refine oCh rfl (λw1 h1=>c14 w1 co mo rm a cap L (hs.later h1.nil) hle hsm) (λ⟨⟨ga1,gc1⟩,LC1⟩hLC1=>oCq rfl (λw1 h1=>by have h9:=c31 w1 co mo rm ga1 gc1 LC1 T (HS.nt h1 aPk) (by rw[hLC1];exact hB) (Qc8 (by rw[hLC1];exact hfw)) (by have h8:=congrArg List.length (show pln LC1=pln L from hLC1);rw[Qd,Qd]at h8;omega) (by rw[hLC1];exact hT);rw[hLC1]at h9;exact h9) (aU9 ?_))
 refine oCh rfl (λw1 h1=>c14 w1 co mo rm a cap L (hs.later h1.nil) hle hsm) (λ⟨⟨ga2,gc2⟩,LC2⟩hLC2=>aU ?_)
 refine oCq rfl (λw1 h1=>by have h9:=c32 w1 co mo rm ga2 gc2 LC2 T s (HS.nt h1 aPk) (by rw[hLC2];exact hB) (Qc8 (by rw[hLC2];exact hfw)) (by have h8:=congrArg List.length (show pln LC2=pln L from hLC2);rw[Qd,Qd]at h8;omega) (by rw[hLC2];exact hT) (by rw[hLC2];exact hV) om;rw[hLC2]at h9;exact h9) (aU3 ?_)
 refine oAl (λb9 _=>?_) Xm
 refine aU4 ?_
 refine Qe (L':=[(1,_),(3,_),(5,_),(6,_),(7,_),(8,_),(9,_),(10,_)]) aSx (λ_ h=>h) ?_
 refine QG [] mixed ?_
 refine dLn 0 [] ?_
 refine dLn 2 [] ?_
 refine dH 1 rfl (ZZ rfl QtT rfl (λw1 h1=>c14 w1 co mo rm a cap L (hs.later h1.nil) hle hsm)) (λ⟨⟨ga3,gc3⟩,LC3⟩hLC3=>dBa ?_)
 refine dH 3 rfl (ZZ rfl QwS rfl (λw1 h1=>by have h9:=c33 w1 co mo rm ga3 gc3 LC3 T re sq (HS.nt h1 aPk) (by rw[hLC3];exact hB) (Qc8 (by rw[hLC3];exact hfw)) (by have h8:=congrArg List.length (show pln LC3=pln L from hLC3);rw[Qd,Qd]at h8;omega) (by rw[hLC3];exact hT) hfl;rw[hLC3]at h9;exact h9)) (λgN _=>dBa ?_)
 refine dP 4 ?_
 refine dP 5 ?_
 refine dP 6 ?_
 refine dP 7 ?_
 refine dP 8 ?_
 refine dNi ?_
 refine aU3 ?_
 refine oCq rfl (λw1 h1=>c34 w1 co mo rm a cap L T (hs.later h1.nil) hB hkl hle hT) (Z8 ?_)
 refine oOr 4 55 59 rfl
  (λhg10 _=>by
   refine aU6 ?_
   exact oJf 4 59)
  (λhg12 _=>by
   refine aU3 ?_
   exact oJt 4 59) ?_
 refine aU ?_
 refine sCd rfl (λh14=>?_) λh14=>?_
 ·exfalso;simp at h14
 refine aU8 ?_
 refine Qe (L':=[(1,_),(3,_),(5,_),(6,_),(9,_),(10,_),(11,_),(12,_),(14,_),(15,_)]) aSx (λ_ h=>h) ?_
 refine aU4 ?_
 refine XG (α:=Unit) [15,63,64] (λ_=>[(15,.int .i64 (Xe (Xg (⟨co,mo,rm,pln L⟩:Tre) T.flat).2 (Qaw re sq)))]) (λ_=>HS w [] [.blk b1 24 4 [.int .i64 co,.int .i64 mo,.int .i64 rm,.slice a L.length cap],.blk b2 26 2 [.int .i64 re,.int .i64 sq],.blk b9 66 9 [.string (bs (XS (⟨co,mo,rm,pln L⟩:Tre) T s).nm),.int .i64 (XS (⟨co,mo,rm,pln L⟩:Tre) T s).sp,.string (bs (XS (⟨co,mo,rm,pln L⟩:Tre) T s).ot),.int .i64 (XS (⟨co,mo,rm,pln L⟩:Tre) T s).re,.int .i64 (XS (⟨co,mo,rm,pln L⟩:Tre) T s).sq,.int .i64 (XS (⟨co,mo,rm,pln L⟩:Tre) T s).fl,.int .i64 (XS (⟨co,mo,rm,pln L⟩:Tre) T s).tm,.int .i64 (XS (⟨co,mo,rm,pln L⟩:Tre) T s).al,.int .i64 (XS (⟨co,mo,rm,pln L⟩:Tre) T s).sz],.own (.slice gN.1 (Qb6 (⟨co,mo,rm,pln L⟩:Tre) T.flat re sq).length gN.2) 9 1 (Qb6 (⟨co,mo,rm,pln L⟩:Tre) T.flat re sq).length ((Qb6 (⟨co,mo,rm,pln L⟩:Tre) T.flat re sq).map Qar)]) (λ_=>True) ?_ ?_
 ·skip
  refine sCd rfl (λh15=>?_) λh15=>?_
  ·have hc3:(Xe (Xg (⟨co,mo,rm,pln L⟩:Tre) T.flat).2 (Qaw re sq))=(Qaw re sq):=by have hq:=h15;unfold Xe;rw[if_pos hq]
   refine aU2 ?_
   refine oCq rfl (λw1 h1=>c35 w1 re sq) (aU2 ?_)
   exact Qm () trivial (by rw[hc3];exact aSx) (λw h=>h.ent aEt)
  have hc3:(Xe (Xg (⟨co,mo,rm,pln L⟩:Tre) T.flat).2 (Qaw re sq))=(Xg (⟨co,mo,rm,pln L⟩:Tre) T.flat).2:=by have hq:=h15;unfold Xe;rw[if_neg hq]
  refine aU ?_
  exact Qm () trivial (by rw[hc3];exact aSx) (λw h=>h.ent aEt)
 intro _ _
 refine aU2 ?_
 refine QG [] mixed ?_
 refine dP 0 ?_
 refine dP 1 ?_
 refine dP 2 ?_
 apply QE 67
 ·exact rfl
 ·intro hg16
  have hs17:=hg16;try simp only[Bool.not_eq_true',decide_eq_false_iff_not]at hs17
  refine dPo 3 67 hg16 ?_
  refine dPo 4 67 hg16 ?_
  refine dPo 5 67 hg16 ?_
  refine dPo 6 67 hg16 ?_
  apply QE 71
  ·exact rfl
  ·intro hg18
   have hs19:=hg18;try simp only[Bool.not_eq_true',decide_eq_false_iff_not]at hs19
   exfalso;simp at hg18
  intro hg20
  have hs21:=hg20;try simp only[Bool.not_eq_false',decide_eq_true_eq]at hs21
  refine dPo 7 71 hg20 ?_
  refine dVo 8 71 hg20 rfl rfl rfl (QR rfl rfl Tryz.underlying69) ?_
  refine dPo 9 71 hg20 ?_
  refine dVo 10 67 hg16 rfl rfl rfl (Qx rfl rfl hg20 rfl) ?_
  refine dV 11 rfl (QF rfl rfl hg16 rfl) (dP 12 ?_)
  apply QE 77
  ·exact rfl
  ·intro hg22
   have hs23:=hg22;try simp only[Bool.not_eq_true',decide_eq_false_iff_not]at hs23
   exfalso;have hq:=hg22;simp_all[Qb6]
  intro hg24
  have hs25:=hg24;try simp only[Bool.not_eq_false',decide_eq_true_eq]at hs25
  refine dPo 13 77 hg24 ?_
  refine dPo 14 77 hg24 ?_
  refine dPo 15 77 hg24 ?_
  apply QE 80
  ·exact rfl
  ·intro hg26
   have hs27:=hg26;try simp only[dT]at hs27
   exfalso;have hq:=hg26;simp_all
  intro hg28
  have hs29:=hg28;try simp only[dN]at hs29
  refine dOf 16 80 hg28 ?_
  refine dOf 17 80 hg28 ?_
  refine dOf 18 80 hg28 ?_
  refine dOu 19 83 ?_
  refine dOu 20 83 ?_
  refine dOu 21 83 ?_
  refine dOu 22 83 ?_
  refine dOu 23 83 ?_
  refine dOu 24 83 ?_
  refine dOu 25 83 ?_
  refine dOf 26 80 hg28 ?_
  refine dVo 27 77 hg24 rfl rfl rfl (Qx rfl rfl hg28 rfl) ?_
  refine dV 28 rfl (Qx rfl rfl hg24 rfl) (dNi ?_)
  refine sCd rfl (λh30=>?_) λh30=>?_
  ·exfalso;simp at h30
  refine aU3 ?_
  refine Qe (L':=[(1,_),(3,_),(6,_),(9,_),(10,_),(14,_)]) aSx (λ_ h=>h) ?_
  refine aU4 ?_
  refine XG (α:=Unit) [14,96,97] (λ_=>[(14,.int .i64 (Xe (Xg (⟨co,mo,rm,pln L⟩:Tre) T.flat).2 (QI s)))]) (λ_=>HS w [] [.blk b1 24 4 [.int .i64 co,.int .i64 mo,.int .i64 rm,.slice a L.length cap],.blk b2 26 2 [.int .i64 re,.int .i64 sq],.blk b9 66 9 [.string (bs (XS (⟨co,mo,rm,pln L⟩:Tre) T s).nm),.int .i64 (XS (⟨co,mo,rm,pln L⟩:Tre) T s).sp,.string (bs (XS (⟨co,mo,rm,pln L⟩:Tre) T s).ot),.int .i64 (XS (⟨co,mo,rm,pln L⟩:Tre) T s).re,.int .i64 (XS (⟨co,mo,rm,pln L⟩:Tre) T s).sq,.int .i64 (XS (⟨co,mo,rm,pln L⟩:Tre) T s).fl,.int .i64 (XS (⟨co,mo,rm,pln L⟩:Tre) T s).tm,.int .i64 (XS (⟨co,mo,rm,pln L⟩:Tre) T s).al,.int .i64 (XS (⟨co,mo,rm,pln L⟩:Tre) T s).sz],.own (.slice gN.1 (Qb6 (⟨co,mo,rm,pln L⟩:Tre) T.flat re sq).length gN.2) 9 1 (Qb6 (⟨co,mo,rm,pln L⟩:Tre) T.flat re sq).length ((Qb6 (⟨co,mo,rm,pln L⟩:Tre) T.flat re sq).map Qar)]) (λ_=>True) ?_ ?_
  ·skip
   refine sCd rfl (λh31=>?_) λh31=>?_
   ·have hc5:(Xe (Xg (⟨co,mo,rm,pln L⟩:Tre) T.flat).2 (QI s))=QI s:=by have hq:=h31;unfold Xe;rw[if_pos hq]
    refine aU2 ?_
    refine oCq rfl (λw1 h1=>c16 w1 s om) (aU2 ?_)
    exact Qm () trivial (by rw[hc5];exact aSx) (λw h=>h.ent aEt)
   have hc5:(Xe (Xg (⟨co,mo,rm,pln L⟩:Tre) T.flat).2 (QI s))=(Xg (⟨co,mo,rm,pln L⟩:Tre) T.flat).2:=by have hq:=h31;unfold Xe;rw[if_neg hq]
   refine aU ?_
   exact Qm () trivial (by rw[hc5];exact aSx) (λw h=>h.ent aEt)
  intro _ _
  refine aU6 ?_
  refine sCd rfl (λh32=>?_) λh32=>?_
  ·have hde:¬(Xe (Xg (⟨co,mo,rm,pln L⟩:Tre) T.flat).2 (QI s))=0:=by have hq:=h32;simpa using hq
   have hFE:(QeG (⟨co,mo,rm,pln L⟩:Tre) T s)=(Xe (Xg (⟨co,mo,rm,pln L⟩:Tre) T.flat).2 (QI s)):=by unfold QeG;unfold Xe at hde ⊢;grind
   have hFD:(XS (⟨co,mo,rm,pln L⟩:Tre) T s)=noE:=if_neg (by rw[hFE];exact hde)
   refine aU6 ?_
   refine Xs 4 103 107 rfl
    (λhg33 _=>by
     refine aU3 ?_
     refine o_p (QU (cs:=[_,_,_,_,_,_,_,_,_]) rfl rfl Qbv Xm rfl) rfl (aU ?_)
     refine o_p (Zt rfl rfl rfl Qe0 (by rfl) (by rfl) (by rfl)) rfl ?_
     exact oJt 4 107)
    (λhg35 _=>by
     refine aU3 ?_
     exact oJf 4 107) ?_
   refine aU2 ?_
   exact rV (h:=by first|rfl|(rw[hFE,hFD];simp[noE,Qt];done)|(rw[hFE,hF6,hFD];simp[noE,Qt];done)|(simp[Qt];done))
  have hde:(Xe (Xg (⟨co,mo,rm,pln L⟩:Tre) T.flat).2 (QI s))=0:=by have hq:=h32;simpa using hq
  obtain⟨hz0,hn0⟩:=Y9 hde
  obtain⟨h0,hco,hall,_⟩:=Qjh hz0
  obtain⟨d9,lo9,hi9,rt9,hR9,hV9⟩:=hV h0
  have hff:=QeM (s:=s) hco hR9 hV9 hall hn0
  have hle9:∀e∈T.flat.map Qh,QI e.nm=0:=λe he=>(QeQ (Qc6 hall he)).1
  have hFE:(QeG (⟨co,mo,rm,pln L⟩:Tre) T s)=QcH (pln L) s:=by unfold QeG;rw[hz0,hn0,QcT,QcT]
  refine aU4 ?_
  refine oCh rfl (λw1 h1=>Qrx w1 co mo rm a cap L T (hs.later h1.nil) hB hkl hle hT (by first|exact hz0|exact(Y9 (show(Xe (Xg (⟨co,mo,rm,pln L⟩:Tre) T.flat).2 (Qaw re sq))=0 from by have hq:=hg35;simpa using hq)).1)) (λgE hgE=>aU ?_)
  refine oCq rfl (λw1 h1=>c38 w1 gE.1 gE.2 (T.flat.map Qh) s (h1.rw_own dv9 aPk rfl) (by rw[List.length_map];omega) hle9 hn0) (aU8 ?_)
  refine sCd rfl (λh37=>?_) λh37=>?_
  ·have hff2:=hff.resolve_right (λh9=>by obtain⟨_,i,_,h8,_⟩:=h9;have hq:=h37;omega)
   have hF6:QcH (pln L) s=6:=if_neg (by rw[hff2.1];decide)
   have hFD:(XS (⟨co,mo,rm,pln L⟩:Tre) T s)=noE:=if_neg (by rw[hFE,hF6];decide)
   refine aU5 ?_
   refine Xs 4 116 120 rfl
    (λhg38 _=>by
     refine aU3 ?_
     refine o_p (QU (cs:=[_,_,_,_,_,_,_,_,_]) rfl rfl Qbv Xm rfl) rfl (aU ?_)
     refine o_p (Zt rfl rfl rfl Qe0 (by rfl) (by rfl) (by rfl)) rfl ?_
     exact oJt 4 120)
    (λhg40 _=>by
     refine aU3 ?_
     exact oJf 4 120) ?_
   refine aU2 ?_
   exact rV (h:=by first|rfl|(rw[hFE,hFD];simp[noE,Qt];done)|(rw[hFE,hF6,hFD];simp[noE,Qt];done)|(simp[Qt];done))
  obtain⟨hp,i,hil,hix,hnt,_⟩:=hff.resolve_left (λh9=>by have h8:=h9.2;have hq:=h37;omega)
  have hF0:QcH (pln L) s=0:=if_pos hp
  have hFD:(XS (⟨co,mo,rm,pln L⟩:Tre) T s)=nth (T.flat.map Qh) i:=(if_pos (by rw[hFE,hF0])).trans hnt.symm
  rw[hFE,hF0,hFD,hix]
  refine aU2 ?_
  refine QG [] mixed ?_
  refine dP 0 ?_
  refine dP 1 ?_
  refine dP 2 ?_
  apply QE 123
  ·exact rfl
  ·intro hg42
   have hs43:=hg42;try simp only[dT]at hs43
   refine dQo 3 123 [] hg42 rfl rfl rfl (Xq rfl rfl Yq aPk rfl) ?_
   refine dQo 4 123 [] hg42 rfl rfl rfl (Xq rfl rfl Qkn aPk rfl) ?_
   refine dPo 6 123 hg42 ?_
   refine Qic 5 123 rfl rfl rfl hg42 (ZZ rfl Ql9 rfl (λw1 h1=>Qrx w1 co mo rm a cap L T (hs.later h1.nil) hB hkl hle hT (by first|exact hz0|exact(Y9 (show(Xe (Xg (⟨co,mo,rm,pln L⟩:Tre) T.flat).2 (Qaw re sq))=0 from by have hq:=hg42;simpa using hq)).1))) (by kernel_rfl) (λw h=>h.ent aEt) rfl (λgE hgE=>?_)
   refine dBa ?_
   refine dVo 7 123 hg42 rfl rfl rfl (Qa rfl rfl rfl XL (i) om om (hgE om)) ?_
   refine dQo 8 123 [] hg42 rfl rfl rfl (Xz _ rfl rfl Yq rfl (λw h=>Rw.rd (h.rw_own dv9 aPk rfl) hil)) ?_
   refine dVo 9 123 hg42 rfl rfl rfl (Zt rfl rfl rfl Qe0 (by rfl) (by rfl) (by rfl)) ?_
   refine dV 10 rfl (QF rfl rfl hg42 rfl) (dP 11 ?_)
   refine dNi ?_
   exact rV (h:=by first|rfl|(rw[hFE,hFD];simp[noE,Qt];done)|(rw[hFE,hF6,hFD];simp[noE,Qt];done)|(simp[Qt];done))
  intro hg44
  have hs45:=hg44;try simp only[dN]at hs45
  exfalso;simp at hg44
 intro hg46
 have hs47:=hg46;try simp only[Bool.not_eq_false',decide_eq_true_eq]at hs47
 refine dOf 3 67 hg46 ?_
 refine dOf 4 67 hg46 ?_
 refine dOf 5 67 hg46 ?_
 refine dOf 6 67 hg46 ?_
 refine dOu 7 71 ?_
 refine dOu 8 71 ?_
 refine dOu 9 71 ?_
 refine dOf 10 67 hg46 ?_
 refine dV 11 rfl (Qx rfl rfl hg46 rfl) (dP 12 ?_)
 apply QE 77
 ·exact rfl
 ·intro hg48
  have hs49:=hg48;skip
  exfalso;simp at hg48
 intro hg50
 have hs51:=hg50;skip
 refine dPo 13 77 hg50 ?_
 refine dPo 14 77 hg50 ?_
 refine dPo 15 77 hg50 ?_
 apply QE 80
 ·exact rfl
 ·intro hg52
  have hs53:=hg52;try simp only[dT]at hs53
  refine dPo 16 80 hg52 ?_
  refine dPo 17 80 hg52 ?_
  refine dPo 18 80 hg52 ?_
  apply QE 83
  ·exact rfl
  ·intro hg54
   have hs55:=hg54;try simp only[Bool.not_eq_true',decide_eq_false_iff_not]at hs55
   exfalso;have hq:=hg54;simp_all
  intro hg56
  have hs57:=hg56;try simp only[Bool.not_eq_false',decide_eq_true_eq]at hs57
  refine dPo 19 83 hg56 ?_
  refine dQo 20 83 [] hg56 rfl rfl rfl (Xq rfl rfl Qkn aPk rfl) ?_
  refine dQo 22 83 [] hg56 rfl rfl rfl (Xq rfl rfl Qah aPk rfl) ?_
  refine Qic 21 83 rfl rfl rfl hg56 (ZZ rfl Ql9 rfl (λw1 h1=>Qrx w1 co mo rm a cap L T (hs.later h1.nil) hB hkl hle hT (by first|exact hz0|exact(Y9 (show(Xe (Xg (⟨co,mo,rm,pln L⟩:Tre) T.flat).2 (Qaw re sq))=0 from by have hq:=hg56;simpa using hq)).1))) (by kernel_rfl) (λw h=>h.ent aEt) rfl (λgE hgE=>?_)
  refine dBa ?_
  refine Qic 23 83 rfl rfl rfl hg56 (ZZ rfl QwW rfl (λw1 h1=>c37 w1 gE.1 gE.2 (T.flat.map Qh) re sq (h1.rw_own dv9 aPk rfl) (by rw[List.length_map];omega))) (by kernel_rfl) (λw h=>h.ent aEt) rfl (λgM _=>?_)
  refine dBa ?_
  refine dQo 24 83 [] hg56 rfl rfl rfl (Qz rfl QwU rfl (λw1 h1=>by have hNL:(Qb6 (⟨co,mo,rm,pln L⟩:Tre) T.flat re sq)=QbS (Q1 (T.flat.map Qh)) re sq:=if_pos (show(Xe (Xg (⟨co,mo,rm,pln L⟩:Tre) T.flat).2 (Qaw re sq))=0 from by have hq:=hg56;simpa using hq);rw[hNL];exact c36 w1 gN.1 gM.1 gN.2 gM.2 (QbS (Q1 (T.flat.map Qh)) re sq) (by have h9:Vl w1 gN.1 ((Qb6 (⟨co,mo,rm,pln L⟩:Tre) T.flat re sq).map Qar):=h1.vl_own aPk;rw[hNL]at h9;exact h9) (h1.vl_own aPk) (by have h9:=Qpi (l:=Q1 (T.flat.map Qh)) (re:=re) (sq:=sq);have h8:=QfC (l:=T.flat.map Qh);rw[List.length_map]at h8;omega))) ?_
  refine dPo 25 83 hg56 ?_
  refine dVo 26 80 hg52 rfl rfl rfl (Qx rfl rfl hg56 rfl) ?_
  refine dVo 27 77 hg50 rfl rfl rfl (QF rfl rfl hg52 rfl) ?_
  refine dV 28 rfl (Qx rfl rfl hg50 rfl) (dNi ?_)
  refine sCd rfl (λh58=>?_) λh58=>?_
  ·exfalso;simp at h58
  refine aU3 ?_
  refine Qe (L':=[(1,_),(3,_),(6,_),(9,_),(10,_),(14,_)]) aSx (λ_ h=>h) ?_
  refine aU4 ?_
  refine XG (α:=Unit) [14,96,97] (λ_=>[(14,.int .i64 (Xe (Xg (⟨co,mo,rm,pln L⟩:Tre) T.flat).2 (QI s)))]) (λ_=>HS w [] [.blk b1 24 4 [.int .i64 co,.int .i64 mo,.int .i64 rm,.slice a L.length cap],.blk b2 26 2 [.int .i64 re,.int .i64 sq],.blk b9 66 9 [.string (bs (XS (⟨co,mo,rm,pln L⟩:Tre) T s).nm),.int .i64 (XS (⟨co,mo,rm,pln L⟩:Tre) T s).sp,.string (bs (XS (⟨co,mo,rm,pln L⟩:Tre) T s).ot),.int .i64 (XS (⟨co,mo,rm,pln L⟩:Tre) T s).re,.int .i64 (XS (⟨co,mo,rm,pln L⟩:Tre) T s).sq,.int .i64 (XS (⟨co,mo,rm,pln L⟩:Tre) T s).fl,.int .i64 (XS (⟨co,mo,rm,pln L⟩:Tre) T s).tm,.int .i64 (XS (⟨co,mo,rm,pln L⟩:Tre) T s).al,.int .i64 (XS (⟨co,mo,rm,pln L⟩:Tre) T s).sz],.own (.slice gN.1 (Qb6 (⟨co,mo,rm,pln L⟩:Tre) T.flat re sq).length gN.2) 9 1 (Qb6 (⟨co,mo,rm,pln L⟩:Tre) T.flat re sq).length ((Qb6 (⟨co,mo,rm,pln L⟩:Tre) T.flat re sq).map Qar)]) (λ_=>True) ?_ ?_
  ·skip
   refine sCd rfl (λh59=>?_) λh59=>?_
   ·have hc5:(Xe (Xg (⟨co,mo,rm,pln L⟩:Tre) T.flat).2 (QI s))=QI s:=by have hq:=h59;unfold Xe;rw[if_pos hq]
    refine aU2 ?_
    refine oCq rfl (λw1 h1=>c16 w1 s om) (aU2 ?_)
    exact Qm () trivial (by rw[hc5];exact aSx) (λw h=>h.ent aEt)
   have hc5:(Xe (Xg (⟨co,mo,rm,pln L⟩:Tre) T.flat).2 (QI s))=(Xg (⟨co,mo,rm,pln L⟩:Tre) T.flat).2:=by have hq:=h59;unfold Xe;rw[if_neg hq]
   refine aU ?_
   exact Qm () trivial (by rw[hc5];exact aSx) (λw h=>h.ent aEt)
  intro _ _
  refine aU6 ?_
  refine sCd rfl (λh60=>?_) λh60=>?_
  ·have hde:¬(Xe (Xg (⟨co,mo,rm,pln L⟩:Tre) T.flat).2 (QI s))=0:=by have hq:=h60;simpa using hq
   have hFE:(QeG (⟨co,mo,rm,pln L⟩:Tre) T s)=(Xe (Xg (⟨co,mo,rm,pln L⟩:Tre) T.flat).2 (QI s)):=by unfold QeG;unfold Xe at hde ⊢;grind
   have hFD:(XS (⟨co,mo,rm,pln L⟩:Tre) T s)=noE:=if_neg (by rw[hFE];exact hde)
   refine aU6 ?_
   refine Xs 4 103 107 rfl
    (λhg61 _=>by
     refine aU3 ?_
     refine o_p (QU (cs:=[_,_,_,_,_,_,_,_,_]) rfl rfl Qbv Xm rfl) rfl (aU ?_)
     refine o_p (Zt rfl rfl rfl Qe0 (by rfl) (by rfl) (by rfl)) rfl ?_
     exact oJt 4 107)
    (λhg63 _=>by
     refine aU3 ?_
     exact oJf 4 107) ?_
   refine aU2 ?_
   exact rV (h:=by first|rfl|(rw[hFE,hFD];simp[noE,Qt];done)|(rw[hFE,hF6,hFD];simp[noE,Qt];done)|(simp[Qt];done))
  have hde:(Xe (Xg (⟨co,mo,rm,pln L⟩:Tre) T.flat).2 (QI s))=0:=by have hq:=h60;simpa using hq
  obtain⟨hz0,hn0⟩:=Y9 hde
  obtain⟨h0,hco,hall,_⟩:=Qjh hz0
  obtain⟨d9,lo9,hi9,rt9,hR9,hV9⟩:=hV h0
  have hff:=QeM (s:=s) hco hR9 hV9 hall hn0
  have hle9:∀e∈T.flat.map Qh,QI e.nm=0:=λe he=>(QeQ (Qc6 hall he)).1
  have hFE:(QeG (⟨co,mo,rm,pln L⟩:Tre) T s)=QcH (pln L) s:=by unfold QeG;rw[hz0,hn0,QcT,QcT]
  refine aU4 ?_
  refine oCh rfl (λw1 h1=>Qrx w1 co mo rm a cap L T (hs.later h1.nil) hB hkl hle hT (by first|exact hz0|exact(Y9 (show(Xe (Xg (⟨co,mo,rm,pln L⟩:Tre) T.flat).2 (Qaw re sq))=0 from by have hq:=hg63;simpa using hq)).1)) (λgE hgE=>aU ?_)
  refine oCq rfl (λw1 h1=>c38 w1 gE.1 gE.2 (T.flat.map Qh) s (h1.rw_own dv9 aPk rfl) (by rw[List.length_map];omega) hle9 hn0) (aU8 ?_)
  refine sCd rfl (λh65=>?_) λh65=>?_
  ·have hff2:=hff.resolve_right (λh9=>by obtain⟨_,i,_,h8,_⟩:=h9;have hq:=h65;omega)
   have hF6:QcH (pln L) s=6:=if_neg (by rw[hff2.1];decide)
   have hFD:(XS (⟨co,mo,rm,pln L⟩:Tre) T s)=noE:=if_neg (by rw[hFE,hF6];decide)
   refine aU5 ?_
   refine Xs 4 116 120 rfl
    (λhg66 _=>by
     refine aU3 ?_
     refine o_p (QU (cs:=[_,_,_,_,_,_,_,_,_]) rfl rfl Qbv Xm rfl) rfl (aU ?_)
     refine o_p (Zt rfl rfl rfl Qe0 (by rfl) (by rfl) (by rfl)) rfl ?_
     exact oJt 4 120)
    (λhg68 _=>by
     refine aU3 ?_
     exact oJf 4 120) ?_
   refine aU2 ?_
   exact rV (h:=by first|rfl|(rw[hFE,hFD];simp[noE,Qt];done)|(rw[hFE,hF6,hFD];simp[noE,Qt];done)|(simp[Qt];done))
  obtain⟨hp,i,hil,hix,hnt,_⟩:=hff.resolve_left (λh9=>by have h8:=h9.2;have hq:=h65;omega)
  have hF0:QcH (pln L) s=0:=if_pos hp
  have hFD:(XS (⟨co,mo,rm,pln L⟩:Tre) T s)=nth (T.flat.map Qh) i:=(if_pos (by rw[hFE,hF0])).trans hnt.symm
  rw[hFE,hF0,hFD,hix]
  refine aU2 ?_
  refine QG [] mixed ?_
  refine dP 0 ?_
  refine dP 1 ?_
  refine dP 2 ?_
  apply QE 123
  ·exact rfl
  ·intro hg70
   have hs71:=hg70;try simp only[dT]at hs71
   refine dQo 3 123 [] hg70 rfl rfl rfl (Xq rfl rfl Yq aPk rfl) ?_
   refine dQo 4 123 [] hg70 rfl rfl rfl (Xq rfl rfl Qkn aPk rfl) ?_
   refine dPo 6 123 hg70 ?_
   refine Qic 5 123 rfl rfl rfl hg70 (ZZ rfl Ql9 rfl (λw1 h1=>Qrx w1 co mo rm a cap L T (hs.later h1.nil) hB hkl hle hT (by first|exact hz0|exact(Y9 (show(Xe (Xg (⟨co,mo,rm,pln L⟩:Tre) T.flat).2 (Qaw re sq))=0 from by have hq:=hg70;simpa using hq)).1))) (by kernel_rfl) (λw h=>h.ent aEt) rfl (λgE hgE=>?_)
   refine dBa ?_
   refine dVo 7 123 hg70 rfl rfl rfl (Qa rfl rfl rfl XL (i) om om (hgE om)) ?_
   refine dQo 8 123 [] hg70 rfl rfl rfl (Xz _ rfl rfl Yq rfl (λw h=>Rw.rd (h.rw_own dv9 aPk rfl) hil)) ?_
   refine dVo 9 123 hg70 rfl rfl rfl (Zt rfl rfl rfl Qe0 (by rfl) (by rfl) (by rfl)) ?_
   refine dV 10 rfl (QF rfl rfl hg70 rfl) (dP 11 ?_)
   refine dNi ?_
   exact rV (h:=by first|rfl|(rw[hFE,hFD];simp[noE,Qt];done)|(rw[hFE,hF6,hFD];simp[noE,Qt];done)|(simp[Qt];done))
  intro hg72
  have hs73:=hg72;try simp only[dN]at hs73
  exfalso;simp at hg72
 intro hg74
 have hs75:=hg74;try simp only[dN]at hs75
 exfalso;have hq:=hg74;simp_all
theorem c6(w:World)(co mo rm:Int)(a:Option Addr)(cap:Nat)(L:List LNd)(s:List UInt8)(re sq:Int)(hs:Nt w [] a L)(hml:L.length<=9223372036854775807):CR 6 #[.agg #[.int .i64 co,.int .i64 mo,.int .i64 rm,.slice a L.length cap],.string (bs s),.agg #[.int .i64 re,.int .i64 sq]] w (.bool true):=by
  by_cases hz:Z6 (pln L)=true/\s.length<=60
  · obtain⟨T,hT,hV,hfl⟩:=QuR (t:=⟨co,mo,rm,pln L⟩) hz.1;exact c6w w co mo rm a cap L T s re sq hs hz.1 hz.2 hT hV hfl
  · exact c6z w co mo rm a cap L s re sq hs hml hz
end Go.Proofs
namespace Go.Proofs.YtmhkomoiamljeaaGreatDoor
open Go Go.RowKit Go.ChangeShapes Go.WideShapes Go.ChangeAt Gx Go.Proofs
theorem Quu{n:Nat}(h:n<=maxLen):n<=9223372036854775807:=by
 simp only[maxLen]at h;omega
theorem len2{cs:List Value}(h:cs.length=2):∃x0 x1,cs=[x0,x1]:=by
 match cs,h with
 | [x0,x1],_=>exact⟨x0,x1,rfl⟩
theorem len4{cs:List Value}(h:cs.length=4):∃x0 x1 x2 x3,cs=[x0,x1,x2,x3]:=by
 match cs,h with
 | [x0,x1,x2,x3],_=>exact⟨x0,x1,x2,x3,rfl⟩
theorem Qhi:Tryz.prog.cellsOf 3=1:=by kernel_rfl
theorem Qto:Tryz.prog.cellsOf 22=1:=by kernel_rfl
theorem Qsz:Tryz.prog.cellsOf 24=4:=by kernel_rfl
theorem Qsq:Tryz.prog.cellsOf 26=2:=by kernel_rfl
theorem Qjw:Tryz.prog.cellsOf 127=3:=by kernel_rfl
theorem own6:ownKnob Tryz.prog.godebug=none:=by kernel_rfl
theorem Qw1:laidOutB Tryz.prog=true:=by kernel_rfl
def Ql7:List (String×DataW Unit):=[("math/bits.deBruijn32tab",Rows.laid_math_bits_deBruijn32tab),("math/bits.deBruijn64tab",Rows.laid_math_bits_deBruijn64tab),("internal/strconv.uint64pow10",Rows.laid_internal_strconv_uint64pow10)]
set_option maxRecDepth 100000 in
theorem Qtm(os:Os)(started:os.Started)(H:Type)(enc:TypeId×Value->H) :
  ReturnsInHanded {} Tryz.checked os 6 .any (λw args=>(Rows.directoryChecksSpec.pre enc Tryz.prog Tryz.f6 [] false w args/\laidMetH Tryz.prog Ql7 w)/\sizedMet enc Tryz.prog Tryz.f6 (OpenSpec.ofChange Rows.directoryChecksSpec) false w args)
   (Rows.directoryChecksSpec.post enc Tryz.prog Tryz.f6 false true false false):=by
 refine returnsInHanded_of_change_and (C:=Tryz.checked) (X:=λw _=>laidMetH Tryz.prog Ql7 w) (λ_ _ _ hh h=>h.of_heap hh) own6 started (by kernel_rfl) Tryz.func6
  (ChangeSpec.witness_shaped (enc:=enc) (C:=Tryz.checked) (os:=os) (X:=λw _=>laidMetH Tryz.prog Ql7 w) false (World.laidAll Tryz.prog os Ql7) #[.agg #[.int .i64 0,.int .i64 0,.int .i64 0,.slice none 0 0],.string (bs []),.agg #[.int .i64 0,.int .i64 0]] 8 (World.laidAll_os _ _ _) (World.shaped_of_ZipB (by kernel_rfl) (by kernel_rfl)) (by kernel_rfl) (by kernel_rfl) (by kernel_rfl) (by rw[MakeChecks.laidMetH_plain _ _ _ (by kernel_rfl)];exact laidMet_laidAll _ (by kernel_rfl) (by kernel_rfl))) ?_
 intro W base args ds gs before hval0 hW _ hsz hL _
 have hval:∀(j:Nat)t v,Tryz.f6.params[j]?=some t->args[j]?=some v->Value.okWide Tryz.prog W .any base t v:=hval0
 have hW':=hW
 obtain⟨p,q,hA0,hV,rfl,hfz,hnd⟩:=hW
 have hA:DataW.TrodAll enc Tryz.prog W 0 (λ_=>true) true Tryz.f6.params.toList args.toList ds p:=hA0
 rw[Tryz.params6]at hA hval
 obtain⟨v0,vs0,d0,ds0,p0,q0,hargs0,rfl,rfl,h0,r0⟩:=trodAll_cons hA
 obtain⟨v1,vs1,d1,ds1,p1,q1,hargs1,rfl,rfl,h1,r1⟩:=trodAll_cons r0
 obtain⟨v2,vs2,d2,ds2,p2,q2,hargs2,rfl,rfl,h2,r2⟩:=trodAll_cons r1
 obtain⟨rfl,rfl,rfl⟩:=trodAll_nil r2
 obtain rfl:args= #[v0,v1,v2]:=by cases args;simp_all
 obtain⟨d2,o1⟩:=Qf0 h0
 obtain⟨cs3,rfl,hc4⟩:=QpK (hval 0 24 v0 rfl rfl) (by rw[Tryz.underlying24])
 rw[hc4]at o1
 obtain⟨d6,len5,o7⟩:=QiT o1 Tryz.underlying24
 rw[Qsz]at len5
 obtain⟨x8,x9,x10,x11,rfl⟩:=len4 len5
 simp only[List.mem_cons,List.mem_nil_iff,or_false,forall_eq_or_imp,forall_eq]at o7
 have h12:=o7.1
 rw[Qhi]at h12
 change okT _ _ _ 3 [x8]at h12
 obtain⟨n13,e14,g15⟩:=Qdf h12 Tryz.underlying3
 have wf16:=Qgs g15
 cases e14
 have h17:=o7.2.1
 rw[Qhi]at h17
 change okT _ _ _ 3 [x9]at h17
 obtain⟨n18,e19,g20⟩:=Qdf h17 Tryz.underlying3
 have wf21:=Qgs g20
 cases e19
 have h22:=o7.2.2.1
 rw[Qhi]at h22
 change okT _ _ _ 3 [x10]at h22
 obtain⟨n23,e24,g25⟩:=Qdf h22 Tryz.underlying3
 have wf26:=Qgs g25
 cases e24
 have h27:=o7.2.2.2
 rw[Qto]at h27
 change okT _ _ _ 22 [x11]at h27
 obtain⟨d37,a28,n29,cap30,cell31,e32,hn33,hcap34,sl35,rows36⟩:=Qls h27 Tryz.underlying22 (by rw[Qjw];decide)
 rw[Qjw]at sl35
 cases e32
 obtain⟨d39,o38⟩:=Qf0 h1
 obtain⟨x40,rfl⟩:=okWide_string Tryz.underlying9 (hval 1 9 v1 rfl rfl)
 obtain⟨l41,e42,g43⟩:=QmE o38 Tryz.underlying9
 cases e42
 obtain⟨d45,o44⟩:=Qf0 h2
 obtain⟨cs46,rfl,hc47⟩:=QpK (hval 2 26 v2 rfl rfl) (by rw[Tryz.underlying26])
 rw[hc47]at o44
 obtain⟨d49,len48,o50⟩:=QiT o44 Tryz.underlying26
 rw[Qsq]at len48
 obtain⟨x51,x52,rfl⟩:=len2 len48
 simp only[List.mem_cons,List.mem_nil_iff,or_false,forall_eq_or_imp,forall_eq]at o50
 have h53:=o50.1
 rw[Qhi]at h53
 change okT _ _ _ 3 [x51]at h53
 obtain⟨n54,e55,g56⟩:=Qdf h53 Tryz.underlying3
 have wf57:=Qgs g56
 cases e55
 have h58:=o50.2
 rw[Qhi]at h58
 change okT _ _ _ 3 [x52]at h58
 obtain⟨n59,e60,g61⟩:=Qdf h58 Tryz.underlying3
 have wf62:=Qgs g61
 cases e60
 obtain⟨L,hn_L,hR_L⟩:=Qqu sl35 rows36
 subst hn_L
 have hcall:=c6 W n13 n18 n23 a28 cap30 L l41 n54 n59 hR_L (Quu (Nat.le_trans hn33 hcap34))
 refine(hcall).mono λe W'⟨he,hb⟩=>?_
 subst he
 exact⟨_,rfl,Qoa Qw1 (by kernel_rfl) rfl Tryz.underlying4 rfl rfl hW' hb⟩
set_option maxHeartbeats 4000000 in
set_option maxRecDepth 100000 in
theorem Qut:joinedFacts Tryz.pinned.checked.prog 6 Tryz.f6 Rows.directoryChecksSpec Rows.directoryChecksRow=true:=by
 unfold joinedFacts
 simp only[Bool.and_eq_true]
 repeat' apply And.intro
 all_goals (as_aux_lemma=>kernel_rfl)
set_option maxRecDepth 100000 in
theorem Qb7:Rows.DirectoryChecksSaid:=
 OpenClaim.holds_of_wide 6 Tryz.f6 rfl rfl rfl rfl rfl rfl rfl ⟨rfl,rfl,rfl,rfl,rfl⟩ rfl rfl rfl rfl rfl (by kernel_rfl) Tryz.func6 Qut
  (of_decide_eq_true (by kernel_rfl)) (by unfold Func.isWrapper;first|(rw[if_pos (by decide +kernel)];kernel_rfl)|(rw[if_neg (by decide +kernel)];exact⟨rfl,rfl⟩))
  (λos started H enc _=>Qtm os started H enc)
end Go.Proofs.YtmhkomoiamljeaaGreatDoor
