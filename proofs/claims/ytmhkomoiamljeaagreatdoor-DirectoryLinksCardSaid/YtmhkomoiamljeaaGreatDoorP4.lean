/- Contracts of the program's functions, proved by walking them with the rules of the Gx texts; without conditions beyond those that each contract names. -/
import Derived.WalkKit
import Derived.Deep.Draws
import Derived.TacticsIn
import Derived.OrdersIn
import Derived.RangeFuncLeaves
import Derived.Lib.Strings
import Derived.Laws.BytesArg
import Derived.Laws.IdiomStrings
import Derived.Deep.Quiet
import Derived.ProofKit
import Derived.OpenShut
import Derived.Laws.StructEq
import Derived.ChangeKeysEq
import Derived.Laws.Externs
import Derived.Lib.Overlaps
import Derived.Carry
import Derived.Laws.Small
import Derived.Lib.Bytealg
import Derived.Shelf.Small.Strs
import Derived.Shelf.Small.Wraps
import Derived.Shelf.Strconv.Itoa0
import Derived.Shelf.Strconv.Itoa1
import Derived.Shelf.LaysM
import Derived.Shelf.Strconv.Itoa2
import Derived.Shelf.Strconv.Itoa3
import Derived.Shelf.Strings.Search1
import Derived.Shelf.Strings.Search2
import Derived.Shelf.Strings.Cut
import Derived.Shelf.Strings.Shaped
import Derived.Shelf.Strings.LastIndex
import Derived.Shelf.Strings.LastIndexAll
import Derived.Shelf.Strings.Prefix
import Derived.Shelf.Slices.Turned
import Derived.Shelf.Slices.Reverse
import Derived.Shelf.Slices.Equal
import Derived.Ground.Names2Prog
import Derived.Shelf.Slices.Clone
import Derived.Shelf.Slices.SearchI
import Derived.Shelf.Slices.Delete
import Derived.Shelf.Slices.Cells
import Derived.Shelf.Slices.Empties
import Derived.Shelf.Slices.Empties2
import Derived.Ground.SlgnProg
import Derived.Shelf.SlicesE.Reverse
import Derived.Shelf.SlicesE.Delete
import Derived.Shelf.SlicesE.Clone
import Derived.Test.YtmhkomoiamljeaaGreatDoorProg
import Derived.KernelRfl
import Derived.Lib.LastIndexByte
import Derived.Lib.ItoaNum
import Derived.Lib.SmallJoins
import Derived.Lib.AppendIntMem
import Derived.RangeFuncRecord
import Derived.Lib.Builder
import Derived.Laws.Pointers
import Derived.Test.YtmhkomoiamljeaaGreatDoorTie
import Derived.Test.YtmhkomoiamljeaaGreatDoorCards
import Derived.SevenTiedAt
import Derived.LaidMore
import Derived.Lay
import Derived.Stop.Joined
import Derived.Test.YtmhkomoiamljeaaGreatDoorP3
set_option linter.unusedSimpArgs false
set_option maxHeartbeats 1000000
set_option linter.unusedVariables false
set_option linter.unusedSectionVars false
set_option linter.unnecessarySimpa false
namespace Go.Proofs
open Go Go.RowKit Gx
attribute [local irreducible] Go.Calls Gx.S Gx.O Gx.D Gx.OpP Gx.OpQ Gx.OpH
set_option maxRecDepth 20000
theorem QcT:Qz Tryz.prog 114=some [.int .i64 0,.string (bs []),.int .i64 0,.int .i64 0,.bool false,.string (bs []),.int .i64 0,.slice none 0 0,.int .i64 0,.int .i64 0,.int .i64 0]:=by kernel_rfl
instance:TFn Tryz.prog 162:=⟨by kernel_rfl⟩
theorem Qo9:QJ Tryz.prog 165=true:=by kernel_rfl
theorem Qqa:QJ Tryz.prog 166=true:=by kernel_rfl
instance:TFn Tryz.prog 230:=⟨by kernel_rfl⟩
theorem Qpn:QJ Tryz.prog 231=true:=by kernel_rfl
theorem QiQ:Qij Tryz.prog 288=some [0,1,0]:=by kernel_rfl
instance:TFn Tryz.prog 168:=⟨by kernel_rfl⟩
instance:TFn Tryz.prog 113:=⟨by kernel_rfl⟩
theorem Qc1:tsl Tryz.prog 115=some (82,4,40):=by kernel_rfl
instance:TFn Tryz.prog 115:=⟨by kernel_rfl⟩
set_option maxHeartbeats 4000000 in
theorem c113(w:World)(a:Option Addr)(cap:Nat)(L:List Att)(hs:AtM w a L)(hb:Qd8 L)(hcp:L.length<=cap):CR 113 #[.slice a L.length cap] w (.tuple #[.int .i64 (QaD L).1,.int .i64 (QaD L).2]):=by
 have hb40:=hb.1
 refine eN1 Tryz.func113 Tryz.ntmps113 ?_
 refine QcZ ?_
 refine sCd rfl (λh1=>?_) λh1=>?_
 ·have hZ:QaD L=(0,8):=if_neg (by have hq:=h1;omega)
  refine aU5 ?_
  exact Qj (rs:=[.tmp 2,.tmp 3]) rfl (.tmp rfl (.tmp rfl (.nil))) (λw' h'=>⟨by rw[hZ];rfl,h'.below⟩)
 have h32:L.length<=32:=by have hq:=h1;omega
 refine aU9 ?_
 refine Qs (α:=Nat) [2,3,4,5,6,7,13,14,15,16,17,18,19,20,21,22,23,24,25,26,27,28,29,30,31,32,33,34,35,36,37,38,39,40,41,42,43,44,45,46,47,48,49,50] (λk=>[(13,.int .i64 (k:Int))]) (λ_=>HS w [] []) (λk=>k<=L.length/\Qx ((List.range L.length).map (oaE L)) 0=Qx (((List.range L.length).map (oaE L)).drop k) k) (λk=>L.length-k) 0 ⟨Nat.zero_le _,rfl⟩ aSx (λw h=>h.ent aEt) (λk hx=>?_)
 obtain⟨hk1,hk2⟩:=hx
 refine aU5 ?_
 refine sCd rfl (λh2=>?_) λh2=>?_
 ·have hk:k<L.length:=by have hq:=h2;omega
  refine aU6 ?_
  refine o_p (Qb rfl rfl rfl QX (k) om om (Rw.some hs.1 om)) rfl (o_q (Qr _ rfl rfl Yb rfl (Rw.rd hs.1 hk)) rfl (oAl (λb3 _=>?_) QcT))
  refine aU7 ?_
  refine oCq rfl (λw1 h1=>c162 w1 a cap L k (hs.later h1.nil) hb hk hcp) (aU8 ?_)
  refine YE (α:=Unit) [6,7,23,24,25,26,27,28,29,30,31,32,33,34,35,36,37,38,39,40,41,42,43,44,45] (λ_=>[(6,.int .i64 (oaE L k))]) (λ_=>HS w [] []) (λ_=>True) ?_ ?_
  ·skip
   refine sCd rfl (λh4=>?_) λh4=>?_
   ·have hk0:0<k:=by have hq:=h4;omega
    have hoa:oaE L k=Qf8 (ZX L k) (nth L (k-1)) (nth L k):=if_pos hk0
    refine aT5 ?_
    refine o_p (Qb rfl rfl rfl QX ((k-1)) om om (Rw.some hs.1 om)) rfl (o_q (Qr _ rfl rfl Yb rfl (Rw.rd hs.1 (show k-1<L.length by omega))) rfl (oAl (λb5 _=>?_) QcT))
    refine aU2 ?_
    refine QA [] mixed ?_
    refine dP 0 ?_
    refine dLn 1 [] ?_
    refine dLn 2 [] ?_
    refine dQ 3 [] rfl (Qd rfl Qo9 rfl (λw1 h1=>c165 w1 (nth L (k-1)) (nth L k))) (dP 4 ?_)
    refine dQ 5 [] rfl (Qd rfl Xi rfl (λw1 h1=>YW w1 _ _)) (dLn 6 [] ?_)
    refine dLn 7 [] ?_
    refine dQ 8 [] rfl (Qd rfl Qqa rfl (λw1 h1=>c166 w1 (nth L (k-1)) (nth L k))) (dP 9 ?_)
    refine dP 10 ?_
    apply Xl 38
    ·exact rfl
    ·intro hg6
     have hs7:=hg6;try simp only[Bool.not_eq_true']at hs7
     refine dOf 11 38 hg6 ?_
     refine dOf 12 38 hg6 ?_
     refine dOf 13 38 hg6 ?_
     refine dV 14 rfl (Xf rfl rfl hg6 rfl) (Qu (show _=Value.bool (!(XU (nth L (k-1)) (nth L k)&& !decide ((nth L k).ty=48)))from by congr 1;simp_all) (dQ 15 [] rfl (Qd rfl Xi rfl (λw1 h1=>YW w1 _ _)) (dH 16 rfl (Qg (cs:=[_,_,_]) rfl rfl Xp YC rfl rfl rfl) (λb8 _=>dBa ?_))))
     refine dQ 17 [] rfl (Qd rfl Qai rfl (λw1 h1=>QfU h1 aPk (by rfl) (by rfl) (by decide))) ?_
     refine Qu (show _=Value.int .i64 (Qf8 (ZX L k) (nth L (k-1)) (nth L k))from by rw[Qbw];unfold Qf8;simp only[cond_eq_ite,decide_eq_true_eq];congr 3;cases XU (nth L (k-1)) (nth L k)<;>by_cases h9:(nth L k).ty=48<;>simp[h9]) (dP 18 ?_)
     refine dNi ?_
     exact QM () trivial (by rw[hoa];exact aSx) (λw h=>h.ent aEt)
    intro hg9
    have hs10:=hg9;try simp only[Bool.not_eq_false']at hs10
    refine dFo 11 38 hg9 ?_
    refine dQo 12 38 [] hg9 rfl rfl rfl (Qan rfl rfl ZI aPk rfl) ?_
    refine dPo 13 38 hg9 ?_
    refine dV 14 rfl (Xk rfl rfl hg9 rfl) (Qu (show _=Value.bool (!(XU (nth L (k-1)) (nth L k)&& !decide ((nth L k).ty=48)))from by congr 1;simp_all) (dQ 15 [] rfl (Qd rfl Xi rfl (λw1 h1=>YW w1 _ _)) (dH 16 rfl (Qg (cs:=[_,_,_]) rfl rfl Xp YC rfl rfl rfl) (λb11 _=>dBa ?_))))
    refine dQ 17 [] rfl (Qd rfl Qai rfl (λw1 h1=>QfU h1 aPk (by rfl) (by rfl) (by decide))) ?_
    refine Qu (show _=Value.int .i64 (Qf8 (ZX L k) (nth L (k-1)) (nth L k))from by rw[Qbw];unfold Qf8;simp only[cond_eq_ite,decide_eq_true_eq];congr 3;cases XU (nth L (k-1)) (nth L k)<;>by_cases h9:(nth L k).ty=48<;>simp[h9]) (dP 18 ?_)
    refine dNi ?_
    exact QM () trivial (by rw[hoa];exact aSx) (λw h=>h.ent aEt)
   have hoa:oaE L k=ZX L k:=if_neg (by have hq:=h4;omega)
   refine aU ?_
   exact QM () trivial (by rw[hoa];exact aSx) (λw h=>h.ent aEt)
  intro _ _
  refine aU5 ?_
  refine sCd rfl (λh12=>?_) λh12=>?_
  ·have hZ:=Yf h32 hk hk2 rfl h12
   refine aU7 ?_
   exact Qj (rs:=[.tmp 2,.tmp 3]) rfl (.tmp rfl (.tmp rfl (.nil))) (λw' h'=>⟨by rw[hZ];rfl,h'.below⟩)
  have hk5:=Qad hk hk2 (by have hq:=h12;simpa using hq)
  refine aT4 ?_
  refine aU2 ?_
  exact sBk (k+1) om ⟨om,hk5⟩
 obtain rfl:k=L.length:=by have hq:=h2;omega
 have hZ:=Qjl h32 hk2
 refine Qh rfl ?_
 refine aU5 ?_
 exact Qj (rs:=[.tmp 2,.tmp 3]) rfl (.tmp rfl (.tmp rfl (.nil))) (λw' h'=>⟨by rw[hZ];rfl,h'.below⟩)
set_option maxHeartbeats 4000000 in
theorem c168(w:World)(a:Option Addr)(cap:Nat)(L:List Att)(hs:AtM w a L)(hb:Qd8 L):CR 168 #[.slice a L.length cap] w (.tuple #[.int .i64 (QaD L).1,.int .i64 (QaD L).2]):=by
 have hb40:=hb.1
 refine eN1 Tryz.func168 Tryz.ntmps168 ?_
 refine QcZ ?_
 refine sCd rfl (λh1=>?_) λh1=>?_
 ·have hZ:QaD L=(0,8):=if_neg (by have hq:=h1;omega)
  refine aU5 ?_
  exact Qj (rs:=[.tmp 2,.tmp 3]) rfl (.tmp rfl (.tmp rfl (.nil))) (λw' h'=>⟨by rw[hZ];rfl,h'.below⟩)
 have h32:L.length<=32:=by have hq:=h1;omega
 refine aU7 ?_
 refine Qs (α:=Nat) [2,3,4,5,9,10,11,12,13,14,15,16,17,18,19,20,21,22,23,24,25,26,27,28,29,30,31,32,33,34,35,36,37,38,39,40,41,42,43,44,45,46,47,48,49,50,51,52,53,54,55,56,57,58,59,60,61,62] (λk=>[(4,.int .i64 (k:Int))]) (λ_=>HS w [] []) (λk=>k<=L.length/\Qx ((List.range L.length).map (oaE L)) 0=Qx (((List.range L.length).map (oaE L)).drop k) k) (λk=>L.length-k) 0 ⟨Nat.zero_le _,rfl⟩ aSx (λw h=>h.ent aEt) (λk hx=>?_)
 obtain⟨hk1,hk2⟩:=hx
 refine aU8 ?_
 refine sCd rfl (λh2=>?_) λh2=>?_
 ·have hk:k<L.length:=by have hq:=h2;omega
  refine aU8 ?_
  refine oCq rfl (λw1 h1=>c230 w1 a cap L k (hs.later h1.nil) hb hk) (aU7 ?_)
  refine sCd rfl (λh3=>?_) λh3=>?_
  ·have hne:¬ZX L k=0:=h3
   have hZ:=Yf h32 hk hk2 (oa_1 hne) hne
   refine aU7 ?_
   exact Qj (rs:=[.tmp 2,.tmp 3]) rfl (.tmp rfl (.tmp rfl (.nil))) (λw' h'=>⟨by rw[hZ];rfl,h'.below⟩)
  have hs0:ZX L k=0:=by have hq:=h3;simpa using hq
  refine aU3 ?_
  refine QA [] mixed ?_
  refine dP 0 ?_
  refine dP 1 ?_
  refine dP 2 ?_
  apply Xl 24
  ·exact rfl
  ·intro hg4
   have hs5:=hg4;try simp only[dT]at hs5
   refine dPo 3 24 hg4 ?_
   refine dPo 4 24 hg4 ?_
   refine dPo 5 24 hg4 ?_
   try refine dWr ?_
   refine dVo 6 24 hg4 rfl rfl rfl (Qb rfl rfl rfl QX ((k-1)) om om (Rw.some hs.1 om)) ?_
   refine dQo 7 24 [] hg4 rfl rfl rfl (Qr _ rfl rfl Yb rfl (Rw.rd hs.1 (show k-1<L.length by omega))) ?_
   refine dPo 8 24 hg4 ?_
   refine dPo 9 24 hg4 ?_
   refine dVo 10 24 hg4 rfl rfl rfl (Qb rfl rfl rfl QX (k) om om (Rw.some hs.1 om)) ?_
   refine dQo 11 24 [] hg4 rfl rfl rfl (Qr _ rfl rfl Yb rfl (Rw.rd hs.1 hk)) ?_
   refine dQo 12 24 [] hg4 rfl rfl rfl (Qd rfl Qpn rfl (λw1 h1=>c231 w1 (nth L (k-1)) (nth L k))) ?_
   refine dPo 13 24 hg4 ?_
   refine dV 14 rfl (Xf rfl rfl hg4 rfl) (Qu (show _=Value.bool (decide (0<k)&&decide (0<Qag (nth L (k-1)) (nth L k)))from by congr 1;simp_all) (dNi ?_))
   refine sCd rfl (λh6=>?_) λh6=>?_
   ·have hp3:0<k/\0<Qag (nth L (k-1)) (nth L k):=by have hq:=h6;first|exact hq|(simp at hq;exact hq)
    have hZ:=Yf h32 hk hk2 (oa_2 hs0 hp3.1 hp3.2) (by decide)
    refine aU ?_
    refine Ql (L':=[(0,_),(4,_),(6,_),(7,_),(8,_)]) aSx (λ_ h=>h) ?_
    refine aU5 ?_
    exact Qj (rs:=[.tmp 2,.tmp 3]) rfl (.tmp rfl (.tmp rfl (.nil))) (λw' h'=>⟨by rw[hZ];rfl,h'.below⟩)
   have hp3:¬(0<k/\0<Qag (nth L (k-1)) (nth L k)):=by have hq:=h6;grind
   refine aU2 ?_
   refine Ql (L':=[(0,_),(4,_),(6,_),(7,_),(8,_)]) aSx (λ_ h=>h) ?_
   refine QA [] mixed ?_
   refine dP 0 ?_
   refine dP 1 ?_
   refine dP 2 ?_
   apply Xl 40
   ·exact rfl
   ·intro hg7
    have hs8:=hg7;try simp only[dT]at hs8
    refine dPo 3 40 hg7 ?_
    refine dPo 4 40 hg7 ?_
    refine dPo 5 40 hg7 ?_
    try refine dWr ?_
    refine dVo 6 40 hg7 rfl rfl rfl (Qb rfl rfl rfl QX ((k-1)) om om (Rw.some hs.1 om)) ?_
    refine dQo 7 40 [] hg7 rfl rfl rfl (Qr _ rfl rfl Yb rfl (Rw.rd hs.1 (show k-1<L.length by omega))) ?_
    refine dQo 8 40 [] hg7 rfl rfl rfl (Qd rfl QcO rfl (λw1 h1=>Qka w1 (nth L (k-1)))) ?_
    refine dPo 9 40 hg7 ?_
    refine dPo 10 40 hg7 ?_
    refine dVo 11 40 hg7 rfl rfl rfl (Qb rfl rfl rfl QX (k) om om (Rw.some hs.1 om)) ?_
    refine dQo 12 40 [] hg7 rfl rfl rfl (Qr _ rfl rfl Yb rfl (Rw.rd hs.1 hk)) ?_
    refine dQo 13 40 [] hg7 rfl rfl rfl (Qd rfl QcO rfl (λw1 h1=>Qka w1 (nth L k))) ?_
    refine dVo 14 40 hg7 rfl rfl rfl (QcU rfl rfl rfl QiQ (by rfl) (by rfl) (by rfl)) ?_
    refine Qu (show _=Value.bool (XU (nth L (k-1)) (nth L k))from congrArg Value.bool (by show(decide ((nth L (k-1)).ty=(nth L k).ty)&&(decide ((nth L (k-1)).nm=(nth L k).nm)&&(decide ((nth L (k-1)).fi=(nth L k).fi)&&true)))=_;unfold XU;rw[Bool.and_true,Bool.and_assoc])) (dV 15 rfl (Xf rfl rfl hg7 rfl) (dP 16 ?_))
    apply Xl 54
    ·exact rfl
    ·intro hg9
     have hs10:=hg9;skip
     refine dPo 17 54 hg9 ?_
     refine dPo 18 54 hg9 ?_
     refine dVo 19 54 hg9 rfl rfl rfl (Qb rfl rfl rfl QX (k) om om (Rw.some hs.1 om)) ?_
     refine dFo 20 54 hg9 ?_
     refine dQo 21 54 [] hg9 rfl rfl rfl (Qp rfl rfl ZI ((hs.1.rdj 0 hk rfl))) ?_
     refine dPo 22 54 hg9 ?_
     refine dV 23 rfl (Xf rfl rfl hg9 rfl) (Qu (show _=Value.bool ((decide (0<k)&&XU (nth L (k-1)) (nth L k))&& !decide ((nth L k).ty=48))from by congr 1;simp_all) (dNi ?_))
     refine sCd rfl (λh11=>?_) λh11=>?_
     ·have hp4:(0<k/\XU (nth L (k-1)) (nth L k)=true)/\¬(nth L k).ty=48:=by have hq:=h11;first|exact hq|(simp at hq;exact hq)
      have hZ:=Yf h32 hk hk2 (QgD hs0 hp3 hp4.1.1 hp4.1.2 hp4.2) (by decide)
      refine aU6 ?_
      exact Qj (rs:=[.tmp 2,.tmp 3]) rfl (.tmp rfl (.tmp rfl (.nil))) (λw' h'=>⟨by rw[hZ];rfl,h'.below⟩)
     have hp4:¬((0<k/\XU (nth L (k-1)) (nth L k)=true)/\¬(nth L k).ty=48):=by have hq:=h11;grind
     have hk5:=Qad hk hk2 (Qg9 hs0 hp3 hp4)
     refine aT5 ?_
     refine aU2 ?_
     exact sBk (k+1) om ⟨om,hk5⟩
    intro hg12
    have hs13:=hg12;skip
    refine dOf 17 54 hg12 ?_
    refine dOf 18 54 hg12 ?_
    refine dOf 19 54 hg12 ?_
    refine dOf 20 54 hg12 ?_
    refine dOf 21 54 hg12 ?_
    refine dOf 22 54 hg12 ?_
    refine dV 23 rfl (Xk rfl rfl hg12 rfl) (Qu (show _=Value.bool ((decide (0<k)&&XU (nth L (k-1)) (nth L k))&& !decide ((nth L k).ty=48))from by congr 1;simp_all) (dNi ?_))
    refine sCd rfl (λh14=>?_) λh14=>?_
    ·have hp4:(0<k/\XU (nth L (k-1)) (nth L k)=true)/\¬(nth L k).ty=48:=by have hq:=h14;first|exact hq|(simp at hq;exact hq)
     have hZ:=Yf h32 hk hk2 (QgD hs0 hp3 hp4.1.1 hp4.1.2 hp4.2) (by decide)
     refine aU6 ?_
     exact Qj (rs:=[.tmp 2,.tmp 3]) rfl (.tmp rfl (.tmp rfl (.nil))) (λw' h'=>⟨by rw[hZ];rfl,h'.below⟩)
    have hp4:¬((0<k/\XU (nth L (k-1)) (nth L k)=true)/\¬(nth L k).ty=48):=by have hq:=h14;grind
    have hk5:=Qad hk hk2 (Qg9 hs0 hp3 hp4)
    refine aT5 ?_
    refine aU2 ?_
    exact sBk (k+1) om ⟨om,hk5⟩
   intro hg15
   have hs16:=hg15;try simp only[dN]at hs16
   refine dOf 3 40 hg15 ?_
   refine dOf 4 40 hg15 ?_
   refine dOf 5 40 hg15 ?_
   refine dOf 6 40 hg15 ?_
   refine dOf 7 40 hg15 ?_
   refine dOf 8 40 hg15 ?_
   refine dOf 9 40 hg15 ?_
   refine dOf 10 40 hg15 ?_
   refine dOf 11 40 hg15 ?_
   refine dOf 12 40 hg15 ?_
   refine dOf 13 40 hg15 ?_
   refine dOf 14 40 hg15 ?_
   refine dV 15 rfl (Xk rfl rfl hg15 rfl) (dP 16 ?_)
   apply Xl 54
   ·exact rfl
   ·intro hg17
    have hs18:=hg17;skip
    refine dPo 17 54 hg17 ?_
    refine dPo 18 54 hg17 ?_
    refine dVo 19 54 hg17 rfl rfl rfl (Qb rfl rfl rfl QX (k) om om (Rw.some hs.1 om)) ?_
    refine dFo 20 54 hg17 ?_
    refine dQo 21 54 [] hg17 rfl rfl rfl (Qp rfl rfl ZI ((hs.1.rdj 0 hk rfl))) ?_
    refine dPo 22 54 hg17 ?_
    refine dV 23 rfl (Xf rfl rfl hg17 rfl) (Qu (show _=Value.bool ((decide (0<k)&&XU (nth L (k-1)) (nth L k))&& !decide ((nth L k).ty=48))from by congr 1;simp_all) (dNi ?_))
    refine sCd rfl (λh19=>?_) λh19=>?_
    ·have hp4:(0<k/\XU (nth L (k-1)) (nth L k)=true)/\¬(nth L k).ty=48:=by have hq:=h19;first|exact hq|(simp at hq;exact hq)
     have hZ:=Yf h32 hk hk2 (QgD hs0 hp3 hp4.1.1 hp4.1.2 hp4.2) (by decide)
     refine aU6 ?_
     exact Qj (rs:=[.tmp 2,.tmp 3]) rfl (.tmp rfl (.tmp rfl (.nil))) (λw' h'=>⟨by rw[hZ];rfl,h'.below⟩)
    have hp4:¬((0<k/\XU (nth L (k-1)) (nth L k)=true)/\¬(nth L k).ty=48):=by have hq:=h19;grind
    have hk5:=Qad hk hk2 (Qg9 hs0 hp3 hp4)
    refine aT5 ?_
    refine aU2 ?_
    exact sBk (k+1) om ⟨om,hk5⟩
   intro hg20
   have hs21:=hg20;skip
   refine dOf 17 54 hg20 ?_
   refine dOf 18 54 hg20 ?_
   refine dOf 19 54 hg20 ?_
   refine dOf 20 54 hg20 ?_
   refine dOf 21 54 hg20 ?_
   refine dOf 22 54 hg20 ?_
   refine dV 23 rfl (Xk rfl rfl hg20 rfl) (Qu (show _=Value.bool ((decide (0<k)&&XU (nth L (k-1)) (nth L k))&& !decide ((nth L k).ty=48))from by congr 1;simp_all) (dNi ?_))
   refine sCd rfl (λh22=>?_) λh22=>?_
   ·have hp4:(0<k/\XU (nth L (k-1)) (nth L k)=true)/\¬(nth L k).ty=48:=by have hq:=h22;first|exact hq|(simp at hq;exact hq)
    have hZ:=Yf h32 hk hk2 (QgD hs0 hp3 hp4.1.1 hp4.1.2 hp4.2) (by decide)
    refine aU6 ?_
    exact Qj (rs:=[.tmp 2,.tmp 3]) rfl (.tmp rfl (.tmp rfl (.nil))) (λw' h'=>⟨by rw[hZ];rfl,h'.below⟩)
   have hp4:¬((0<k/\XU (nth L (k-1)) (nth L k)=true)/\¬(nth L k).ty=48):=by have hq:=h22;grind
   have hk5:=Qad hk hk2 (Qg9 hs0 hp3 hp4)
   refine aT5 ?_
   refine aU2 ?_
   exact sBk (k+1) om ⟨om,hk5⟩
  intro hg23
  have hs24:=hg23;try simp only[dN]at hs24
  refine dOf 3 24 hg23 ?_
  refine dOf 4 24 hg23 ?_
  refine dOf 5 24 hg23 ?_
  refine dOf 6 24 hg23 ?_
  refine dOf 7 24 hg23 ?_
  refine dOf 8 24 hg23 ?_
  refine dOf 9 24 hg23 ?_
  refine dOf 10 24 hg23 ?_
  refine dOf 11 24 hg23 ?_
  refine dOf 12 24 hg23 ?_
  refine dOf 13 24 hg23 ?_
  refine dV 14 rfl (Xk rfl rfl hg23 rfl) (Qu (show _=Value.bool (decide (0<k)&&decide (0<Qag (nth L (k-1)) (nth L k)))from by congr 1;simp_all) (dNi ?_))
  refine sCd rfl (λh25=>?_) λh25=>?_
  ·have hp3:0<k/\0<Qag (nth L (k-1)) (nth L k):=by have hq:=h25;first|exact hq|(simp at hq;exact hq)
   have hZ:=Yf h32 hk hk2 (oa_2 hs0 hp3.1 hp3.2) (by decide)
   refine aU ?_
   refine Ql (L':=[(0,_),(4,_),(6,_),(7,_),(8,_)]) aSx (λ_ h=>h) ?_
   refine aU5 ?_
   exact Qj (rs:=[.tmp 2,.tmp 3]) rfl (.tmp rfl (.tmp rfl (.nil))) (λw' h'=>⟨by rw[hZ];rfl,h'.below⟩)
  have hp3:¬(0<k/\0<Qag (nth L (k-1)) (nth L k)):=by have hq:=h25;grind
  refine aU2 ?_
  refine Ql (L':=[(0,_),(4,_),(6,_),(7,_),(8,_)]) aSx (λ_ h=>h) ?_
  refine QA [] mixed ?_
  refine dP 0 ?_
  refine dP 1 ?_
  refine dP 2 ?_
  apply Xl 40
  ·exact rfl
  ·intro hg26
   have hs27:=hg26;try simp only[dT]at hs27
   refine dPo 3 40 hg26 ?_
   refine dPo 4 40 hg26 ?_
   refine dPo 5 40 hg26 ?_
   try refine dWr ?_
   refine dVo 6 40 hg26 rfl rfl rfl (Qb rfl rfl rfl QX ((k-1)) om om (Rw.some hs.1 om)) ?_
   refine dQo 7 40 [] hg26 rfl rfl rfl (Qr _ rfl rfl Yb rfl (Rw.rd hs.1 (show k-1<L.length by omega))) ?_
   refine dQo 8 40 [] hg26 rfl rfl rfl (Qd rfl QcO rfl (λw1 h1=>Qka w1 (nth L (k-1)))) ?_
   refine dPo 9 40 hg26 ?_
   refine dPo 10 40 hg26 ?_
   refine dVo 11 40 hg26 rfl rfl rfl (Qb rfl rfl rfl QX (k) om om (Rw.some hs.1 om)) ?_
   refine dQo 12 40 [] hg26 rfl rfl rfl (Qr _ rfl rfl Yb rfl (Rw.rd hs.1 hk)) ?_
   refine dQo 13 40 [] hg26 rfl rfl rfl (Qd rfl QcO rfl (λw1 h1=>Qka w1 (nth L k))) ?_
   refine dVo 14 40 hg26 rfl rfl rfl (QcU rfl rfl rfl QiQ (by rfl) (by rfl) (by rfl)) ?_
   refine Qu (show _=Value.bool (XU (nth L (k-1)) (nth L k))from congrArg Value.bool (by show(decide ((nth L (k-1)).ty=(nth L k).ty)&&(decide ((nth L (k-1)).nm=(nth L k).nm)&&(decide ((nth L (k-1)).fi=(nth L k).fi)&&true)))=_;unfold XU;rw[Bool.and_true,Bool.and_assoc])) (dV 15 rfl (Xf rfl rfl hg26 rfl) (dP 16 ?_))
   apply Xl 54
   ·exact rfl
   ·intro hg28
    have hs29:=hg28;skip
    refine dPo 17 54 hg28 ?_
    refine dPo 18 54 hg28 ?_
    refine dVo 19 54 hg28 rfl rfl rfl (Qb rfl rfl rfl QX (k) om om (Rw.some hs.1 om)) ?_
    refine dFo 20 54 hg28 ?_
    refine dQo 21 54 [] hg28 rfl rfl rfl (Qp rfl rfl ZI ((hs.1.rdj 0 hk rfl))) ?_
    refine dPo 22 54 hg28 ?_
    refine dV 23 rfl (Xf rfl rfl hg28 rfl) (Qu (show _=Value.bool ((decide (0<k)&&XU (nth L (k-1)) (nth L k))&& !decide ((nth L k).ty=48))from by congr 1;simp_all) (dNi ?_))
    refine sCd rfl (λh30=>?_) λh30=>?_
    ·have hp4:(0<k/\XU (nth L (k-1)) (nth L k)=true)/\¬(nth L k).ty=48:=by have hq:=h30;first|exact hq|(simp at hq;exact hq)
     have hZ:=Yf h32 hk hk2 (QgD hs0 hp3 hp4.1.1 hp4.1.2 hp4.2) (by decide)
     refine aU6 ?_
     exact Qj (rs:=[.tmp 2,.tmp 3]) rfl (.tmp rfl (.tmp rfl (.nil))) (λw' h'=>⟨by rw[hZ];rfl,h'.below⟩)
    have hp4:¬((0<k/\XU (nth L (k-1)) (nth L k)=true)/\¬(nth L k).ty=48):=by have hq:=h30;grind
    have hk5:=Qad hk hk2 (Qg9 hs0 hp3 hp4)
    refine aT5 ?_
    refine aU2 ?_
    exact sBk (k+1) om ⟨om,hk5⟩
   intro hg31
   have hs32:=hg31;skip
   refine dOf 17 54 hg31 ?_
   refine dOf 18 54 hg31 ?_
   refine dOf 19 54 hg31 ?_
   refine dOf 20 54 hg31 ?_
   refine dOf 21 54 hg31 ?_
   refine dOf 22 54 hg31 ?_
   refine dV 23 rfl (Xk rfl rfl hg31 rfl) (Qu (show _=Value.bool ((decide (0<k)&&XU (nth L (k-1)) (nth L k))&& !decide ((nth L k).ty=48))from by congr 1;simp_all) (dNi ?_))
   refine sCd rfl (λh33=>?_) λh33=>?_
   ·have hp4:(0<k/\XU (nth L (k-1)) (nth L k)=true)/\¬(nth L k).ty=48:=by have hq:=h33;first|exact hq|(simp at hq;exact hq)
    have hZ:=Yf h32 hk hk2 (QgD hs0 hp3 hp4.1.1 hp4.1.2 hp4.2) (by decide)
    refine aU6 ?_
    exact Qj (rs:=[.tmp 2,.tmp 3]) rfl (.tmp rfl (.tmp rfl (.nil))) (λw' h'=>⟨by rw[hZ];rfl,h'.below⟩)
   have hp4:¬((0<k/\XU (nth L (k-1)) (nth L k)=true)/\¬(nth L k).ty=48):=by have hq:=h33;grind
   have hk5:=Qad hk hk2 (Qg9 hs0 hp3 hp4)
   refine aT5 ?_
   refine aU2 ?_
   exact sBk (k+1) om ⟨om,hk5⟩
  intro hg34
  have hs35:=hg34;try simp only[dN]at hs35
  refine dOf 3 40 hg34 ?_
  refine dOf 4 40 hg34 ?_
  refine dOf 5 40 hg34 ?_
  refine dOf 6 40 hg34 ?_
  refine dOf 7 40 hg34 ?_
  refine dOf 8 40 hg34 ?_
  refine dOf 9 40 hg34 ?_
  refine dOf 10 40 hg34 ?_
  refine dOf 11 40 hg34 ?_
  refine dOf 12 40 hg34 ?_
  refine dOf 13 40 hg34 ?_
  refine dOf 14 40 hg34 ?_
  refine dV 15 rfl (Xk rfl rfl hg34 rfl) (dP 16 ?_)
  apply Xl 54
  ·exact rfl
  ·intro hg36
   have hs37:=hg36;skip
   refine dPo 17 54 hg36 ?_
   refine dPo 18 54 hg36 ?_
   refine dVo 19 54 hg36 rfl rfl rfl (Qb rfl rfl rfl QX (k) om om (Rw.some hs.1 om)) ?_
   refine dFo 20 54 hg36 ?_
   refine dQo 21 54 [] hg36 rfl rfl rfl (Qp rfl rfl ZI ((hs.1.rdj 0 hk rfl))) ?_
   refine dPo 22 54 hg36 ?_
   refine dV 23 rfl (Xf rfl rfl hg36 rfl) (Qu (show _=Value.bool ((decide (0<k)&&XU (nth L (k-1)) (nth L k))&& !decide ((nth L k).ty=48))from by congr 1;simp_all) (dNi ?_))
   refine sCd rfl (λh38=>?_) λh38=>?_
   ·have hp4:(0<k/\XU (nth L (k-1)) (nth L k)=true)/\¬(nth L k).ty=48:=by have hq:=h38;first|exact hq|(simp at hq;exact hq)
    have hZ:=Yf h32 hk hk2 (QgD hs0 hp3 hp4.1.1 hp4.1.2 hp4.2) (by decide)
    refine aU6 ?_
    exact Qj (rs:=[.tmp 2,.tmp 3]) rfl (.tmp rfl (.tmp rfl (.nil))) (λw' h'=>⟨by rw[hZ];rfl,h'.below⟩)
   have hp4:¬((0<k/\XU (nth L (k-1)) (nth L k)=true)/\¬(nth L k).ty=48):=by have hq:=h38;grind
   have hk5:=Qad hk hk2 (Qg9 hs0 hp3 hp4)
   refine aT5 ?_
   refine aU2 ?_
   exact sBk (k+1) om ⟨om,hk5⟩
  intro hg39
  have hs40:=hg39;skip
  refine dOf 17 54 hg39 ?_
  refine dOf 18 54 hg39 ?_
  refine dOf 19 54 hg39 ?_
  refine dOf 20 54 hg39 ?_
  refine dOf 21 54 hg39 ?_
  refine dOf 22 54 hg39 ?_
  refine dV 23 rfl (Xk rfl rfl hg39 rfl) (Qu (show _=Value.bool ((decide (0<k)&&XU (nth L (k-1)) (nth L k))&& !decide ((nth L k).ty=48))from by congr 1;simp_all) (dNi ?_))
  refine sCd rfl (λh41=>?_) λh41=>?_
  ·have hp4:(0<k/\XU (nth L (k-1)) (nth L k)=true)/\¬(nth L k).ty=48:=by have hq:=h41;first|exact hq|(simp at hq;exact hq)
   have hZ:=Yf h32 hk hk2 (QgD hs0 hp3 hp4.1.1 hp4.1.2 hp4.2) (by decide)
   refine aU6 ?_
   exact Qj (rs:=[.tmp 2,.tmp 3]) rfl (.tmp rfl (.tmp rfl (.nil))) (λw' h'=>⟨by rw[hZ];rfl,h'.below⟩)
  have hp4:¬((0<k/\XU (nth L (k-1)) (nth L k)=true)/\¬(nth L k).ty=48):=by have hq:=h41;grind
  have hk5:=Qad hk hk2 (Qg9 hs0 hp3 hp4)
  refine aT5 ?_
  refine aU2 ?_
  exact sBk (k+1) om ⟨om,hk5⟩
 obtain rfl:k=L.length:=by have hq:=h2;omega
 have hZ:=Qjl h32 hk2
 refine Qh rfl ?_
 refine aU5 ?_
 exact Qj (rs:=[.tmp 2,.tmp 3]) rfl (.tmp rfl (.tmp rfl (.nil))) (λw' h'=>⟨by rw[hZ];rfl,h'.below⟩)
theorem c115(w:World)(a:Option Addr)(cap:Nat)(L:List Att)(hs:AtM w a L)(hb:Qd8 L):CR 115 #[.slice a L.length cap] w (.int .i64 (QaD L).2):=by
 refine eN1 Tryz.func115 Tryz.ntmps115 ?_
 refine aU7 ?_
 refine oCq rfl (λw1 h1=>c168 w1 a cap L (hs.later h1.nil) hb) (QbB ?_)
 exact rV
set_option maxHeartbeats 2000000 in
theorem c56(w:World)(a:Option Addr)(cap:Nat)(L:List Att)(hs:AtM w a L)(hb:Qd8 L)(hcp:L.length<=cap):CE 56 #[.slice a L.length cap] w [] (λg:Option Addr×Nat=>.tuple #[.slice g.1 (lkL L).length g.2,.int .i64 (lkE L)]) (λg=>True) λg=>[.own (.slice g.1 (lkL L).length g.2) 82 4 (lkL L).length ((lkL L).flatMap DLnk.vals)]:=by
 have hb40:=hb.1
 refine eN1 Tryz.func56 Tryz.ntmps56 ?_
 refine aU9 ?_
 refine oCq rfl (λw1 h1=>c113 w1 a cap L (hs.later h1.nil) hb hcp) (QbB ?_)
 refine sCd rfl (λh1=>?_) λh1=>?_
 ·have hE:lkE L=(QaD L).2:=if_neg h1
  have hL:lkL L=[]:=if_neg (by rw[hE];exact h1)
  refine aU6 ?_
  exact Qj (rs:=[.tmp 2,.tmp 3]) rfl (.tmp rfl (.tmp rfl (.nil))) (λw' h'=>⟨(none,0),by rw[hE,hL];rfl,trivial,by rw[hL];exact(h'.own_nil 82 4).ent aEt⟩)
 have hc0:(QaD L).2=0:=by have hq:=h1;simpa using hq
 have hlk:lkE L=lnE L:=if_pos hc0
 refine Qby ?_
 refine Ql (L':=[(2,_),(3,_),(6,_),(19,_),(20,_),(21,_)]) aSx (λ_ h=>h) ?_
 refine Qs (α:=Nat×(Option Addr×Nat)) [2,3,6,8,9,10,21,22,23,24,25,26,27,28,29,30,31,32,33,34,35,36,37,38,39,40,41] (λy=>[(21,.int .i64 (y.1:Int)),(6,.slice y.2.1 (lnL (L.take y.1)).length y.2.2)]) (λy=>HS w [] [.own (.slice y.2.1 (lnL (L.take y.1)).length y.2.2) 82 4 (lnL (L.take y.1)).length ((lnL (L.take y.1)).flatMap DLnk.vals)]) (λy=>y.1<=L.length/\lnE L=lnE (L.drop y.1)) (λy=>L.length-y.1) (0,(none,0)) ⟨Nat.zero_le _,rfl⟩ aSx (λw h=>(h.own_nil 82 4).ent aEt) (λ⟨k,A⟩hx=>?_)
 dsimp only at hx ⊢
 obtain⟨hk1,hk2⟩:=hx
 have hkl9:=QhV (L:=L.take k)
 rw[List.length_take]at hkl9
 refine aU5 ?_
 refine sCd rfl (λh2=>?_) λh2=>?_
 ·have hk:k<L.length:=by have hq:=h2;omega
  have hst:=Qhq hk
  have hs2:=QhD hk
  refine aU5 ?_
  refine o_p (Qb rfl rfl rfl QX (k) om om (Rw.some hs.1 om)) rfl (o_q (Qr _ rfl rfl Yb rfl (Rw.rd hs.1 hk)) rfl (oAl (λb3 _=>?_) QcT))
  refine aU9 ?_
  refine sCd rfl (λh4=>?_) λh4=>?_
  ·have h48:¬(nth L k).ty=48:=by have hq:=h4;simpa using hq
   rw[if_neg h48]at hst hs2
   refine Qh rfl ?_
   refine aT2 ?_
   refine aU2 ?_
   exact Qv (k+1,A) (by dsimp only;omega) (by dsimp only;exact⟨om,by rw[hk2,hst]⟩) (by dsimp only;rw[hs2];exact aSx) (λw h=>by dsimp only;rw[hs2];exact h.ent aEt)
  have h48:(nth L k).ty=48:=by have hq:=h4;simpa using hq
  rw[if_pos h48]at hst hs2
  refine aU5 ?_
  refine oCq rfl (λw1 h1=>c42 w1 (nth L k).va (by have:=(hb.2 k hk).1;omega)) (aU3 ?_)
  refine oAl (λb5 _=>?_) Ze
  refine aU9 ?_
  refine sCd rfl (λh6=>?_) λh6=>?_
  ·have hE:lkE L=dlE (nth L k).va:=by rw[hlk,hk2,hst];exact if_neg h6
   have hL:lkL L=[]:=if_neg (by rw[hE];exact h6)
   refine aU6 ?_
   exact Qj (rs:=[.tmp 2,.tmp 3]) rfl (.tmp rfl (.tmp rfl (.nil))) (λw' h'=>⟨(none,0),by rw[hE,hL];rfl,trivial,by rw[hL];exact(h'.own_nil 82 4).ent aEt⟩)
  have hd0:dlE (nth L k).va=0:=by have hq:=h6;simpa using hq
  rw[hd0,QdN]at hst
  refine aU4 ?_
  refine o_h (Qg (cs:=[_,_,_,_]) rfl rfl Qc1 Ze rfl rfl rfl) rfl (λb7 _=>o_h (QZ (n:=(lnL (L.take k)).length) (dlD (nth L k).va).vals rfl rfl rfl Qc1 Tryz.underlying115 Ze rfl aPk (Xx aPk) rfl (kv1 _) om (by simp only[maxLen];omega)) rfl (λb8 _=>aT5 ?_))
  refine aU2 ?_
  exact Qv (k+1,b8) (by dsimp only;omega) (by dsimp only;exact⟨om,by rw[hk2,hst]⟩) (by dsimp only;rw[hs2,List.length_append];exact aSx) (λw h=>by dsimp only;rw[hs2,List.length_append,Qdc];exact h.ent aEt)
 obtain rfl:k=L.length:=by have hq:=h2;omega
 have hE:lkE L=0:=by rw[hlk,hk2,List.drop_length];rfl
 have hL:lkL L=(lnL (L.take L.length)):=by rw[List.take_length];exact if_pos hE
 refine Qh rfl ?_
 refine aU6 ?_
 exact Qj (rs:=[.tmp 2,.tmp 3]) rfl (.tmp rfl (.tmp rfl (.nil))) (λw' h'=>⟨A,by rw[hE,hL];rfl,trivial,by rw[hL];exact h'.ent aEt⟩)
set_option maxHeartbeats 2000000 in
theorem c58(w:World)(a:Option Addr)(cap:Nat)(L:List Att)(hs:AtM w a L)(hb:Qd8 L):CE 58 #[.slice a L.length cap] w [] (λg:Option Addr×Nat=>.tuple #[.slice g.1 (lkL L).length g.2,.int .i64 (lkE L)]) (λg=>True) λg=>[.own (.slice g.1 (lkL L).length g.2) 82 4 (lkL L).length ((lkL L).flatMap DLnk.vals)]:=by
 have hb40:=hb.1
 refine eN1 Tryz.func58 Tryz.ntmps58 ?_
 refine aU9 ?_
 refine oCq rfl (λw1 h1=>c115 w1 a cap L (hs.later h1.nil) hb) (aU7 ?_)
 refine sCd rfl (λh1=>?_) λh1=>?_
 ·have hE:lkE L=(QaD L).2:=if_neg h1
  have hL:lkL L=[]:=if_neg (by rw[hE];exact h1)
  refine aU6 ?_
  exact Qj (rs:=[.tmp 2,.tmp 3]) rfl (.tmp rfl (.tmp rfl (.nil))) (λw' h'=>⟨(none,0),by rw[hE,hL];rfl,trivial,by rw[hL];exact(h'.own_nil 82 4).ent aEt⟩)
 have hc0:(QaD L).2=0:=by have hq:=h1;simpa using hq
 have hlk:lkE L=lnE L:=if_pos hc0
 refine QbB ?_
 refine Qs (α:=Nat×(Option Addr×Nat)) [2,3,5,6,7,8,14,15,16,17,18,19,20,21,22,23,24,25,26,27,28,29,30,31,32,33,34,35,36,37,38,39,40,41] (λy=>[(6,.int .i64 (y.1:Int)),(5,.slice y.2.1 (lnL (L.take y.1)).length y.2.2)]) (λy=>HS w [] [.own (.slice y.2.1 (lnL (L.take y.1)).length y.2.2) 82 4 (lnL (L.take y.1)).length ((lnL (L.take y.1)).flatMap DLnk.vals)]) (λy=>y.1<=L.length/\lnE L=lnE (L.drop y.1)) (λy=>L.length-y.1) (0,(none,0)) ⟨Nat.zero_le _,rfl⟩ aSx (λw h=>(h.own_nil 82 4).ent aEt) (λ⟨k,A⟩hx=>?_)
 dsimp only at hx ⊢
 obtain⟨hk1,hk2⟩:=hx
 have hkl9:=QhV (L:=L.take k)
 rw[List.length_take]at hkl9
 refine aU8 ?_
 refine sCd rfl (λh2=>?_) λh2=>?_
 ·have hk:k<L.length:=by have hq:=h2;omega
  have hst:=Qhq hk
  have hs2:=QhD hk
  refine aU7 ?_
  refine o_p (Qb rfl rfl rfl QX (k) om om (Rw.some hs.1 om)) rfl (aU ?_)
  refine o_q (Qp rfl rfl ZI ((hs.1.rdj 0 hk rfl))) rfl (aU2 ?_)
  refine sCd rfl (λh3=>?_) λh3=>?_
  ·have h48:(nth L k).ty=48:=by have hq:=h3;simpa using hq
   rw[if_pos h48]at hst hs2
   refine aU4 ?_
   refine o_p (Qb rfl rfl rfl QX (k) om om (Rw.some hs.1 om)) rfl (aU ?_)
   refine o_q (Qp rfl rfl QhK ((hs.1.rdj 5 hk rfl))) rfl (oCq rfl (λw1 h1=>c44 w1 (nth L k).va (by have:=(hb.2 k hk).1;omega)) (aU3 ?_))
   refine oAl (λb4 _=>?_) Ze
   refine aU9 ?_
   refine sCd rfl (λh5=>?_) λh5=>?_
   ·have hE:lkE L=dlE (nth L k).va:=by rw[hlk,hk2,hst];exact if_neg h5
    have hL:lkL L=[]:=if_neg (by rw[hE];exact h5)
    refine aU ?_
    refine Ql (L':=[(0,_),(4,_),(5,_),(6,_),(7,_),(8,_),(9,_),(10,_),(11,_),(12,_)]) aSx (λ_ h=>h) ?_
    refine aU5 ?_
    exact Qj (rs:=[.tmp 2,.tmp 3]) rfl (.tmp rfl (.tmp rfl (.nil))) (λw' h'=>⟨(none,0),by rw[hE,hL];rfl,trivial,by rw[hL];exact(h'.own_nil 82 4).ent aEt⟩)
   have hd0:dlE (nth L k).va=0:=by have hq:=h5;simpa using hq
   rw[hd0,QdN]at hst
   refine aU ?_
   refine Ql (L':=[(0,_),(4,_),(5,_),(6,_),(7,_),(9,_),(10,_),(11,_),(12,_)]) aSx (λ_ h=>h) ?_
   refine aU3 ?_
   refine o_h (Qg (cs:=[_,_,_,_]) rfl rfl Qc1 Ze rfl rfl rfl) rfl (λb6 _=>o_h (QZ (n:=(lnL (L.take k)).length) (dlD (nth L k).va).vals rfl rfl rfl Qc1 Tryz.underlying115 Ze rfl aPk (Xx aPk) rfl (kv1 _) om (by simp only[maxLen];omega)) rfl (λb7 _=>aT6 ?_))
   refine aU2 ?_
   exact Qv (k+1,b7) (by dsimp only;omega) (by dsimp only;exact⟨om,by rw[hk2,hst]⟩) (by dsimp only;rw[hs2,List.length_append];exact aSx) (λw h=>by dsimp only;rw[hs2,List.length_append,Qdc];exact h.ent aEt)
  have h48:¬(nth L k).ty=48:=by have hq:=h3;simpa using hq
  rw[if_neg h48]at hst hs2
  refine aT5 ?_
  refine aU2 ?_
  exact Qv (k+1,A) (by dsimp only;omega) (by dsimp only;exact⟨om,by rw[hk2,hst]⟩) (by dsimp only;rw[hs2];exact aSx) (λw h=>by dsimp only;rw[hs2];exact h.ent aEt)
 obtain rfl:k=L.length:=by have hq:=h2;omega
 have hE:lkE L=0:=by rw[hlk,hk2,List.drop_length];rfl
 have hL:lkL L=(lnL (L.take L.length)):=by rw[List.take_length];exact if_pos hE
 refine Qh rfl ?_
 refine aU6 ?_
 exact Qj (rs:=[.tmp 2,.tmp 3]) rfl (.tmp rfl (.tmp rfl (.nil))) (λw' h'=>⟨A,by rw[hE,hL];rfl,trivial,by rw[hL];exact h'.ent aEt⟩)
set_option maxHeartbeats 2000000 in
theorem c59(w:World)(a b:Option Addr)(ca cb:Nat)(l:List DLnk)(ha:Rw DLnk.vals 4 w [] a l)(hb:Rw DLnk.vals 4 w [] b l)(hm:l.length<=1000000):CR 59 #[.slice a l.length ca,.slice b l.length cb] w (.bool true):=by
 refine eN2 Tryz.func59 Tryz.ntmps59 ?_
 refine Qby ?_
 refine sCd rfl (λh1=>?_) λh1=>?_
 ·exfalso;first|omega|(simp at h1;done)|(simp_all;done)
 refine aU7 ?_
 refine Qs (α:=Nat) [4,5,11,12,13,14,15,16,17,18,19,20,21,22,23,24,25] (λk=>[(5,.int .i64 (k:Int))]) (λ_=>HS w [] []) (λk=>k<=l.length) (λk=>l.length-k) 0 (by simp) aSx (λw h=>h.ent aEt) (λk hk=>?_)
 refine aU8 ?_
 refine sCd rfl (λh2=>?_) λh2=>?_
 ·have hkl:k<l.length:=by omega
  refine aU4 ?_
  refine QA [] mixed ?_
  refine dP 0 ?_
  refine dP 1 ?_
  refine dV 2 rfl (Qb rfl rfl rfl Qc1 (k) om om (Rw.some ha om)) (dQ 3 [] rfl (Qr _ rfl rfl Qcb rfl (Rw.rd ha hkl)) (dP 4 ?_))
  refine dP 5 ?_
  refine dV 6 rfl (Qb rfl rfl rfl Qc1 (k) om om (Rw.some hb om)) (dQ 7 [] rfl (Qr _ rfl rfl Qcb rfl (Rw.rd hb hkl)) (dV 8 rfl (Qia rfl rfl rfl QqS (by rfl) (by rfl) (by rfl)) (dNi ?_)))
  refine sCd rfl (λh3=>?_) λh3=>?_
  ·exfalso;first|omega|(simp at h3;done)|(simp_all;done)
  refine aT5 ?_
  refine aU2 ?_
  exact sBk (k+1)
 refine Qh rfl ?_
 refine aU4 ?_
 exact rV
instance:TFn Tryz.prog 167:=⟨by kernel_rfl⟩
instance:TFn Tryz.prog 114:=⟨by kernel_rfl⟩
instance:TFn Tryz.prog 57:=⟨by kernel_rfl⟩
instance:TFn Tryz.prog 56:=⟨by kernel_rfl⟩
instance:TFn Tryz.prog 58:=⟨by kernel_rfl⟩
instance:TFn Tryz.prog 59:=⟨by kernel_rfl⟩
theorem c167(w:World)(a:Option Addr)(cap:Nat)(l:List Rn)(hs:Rw Rn.vals 2 w [] a l)(hm:l.length<=100000):CE 167 #[.slice a l.length cap] w [] (λg:Option Addr×Nat=>.slice g.1 l.length g.2) (λg=>True) λg=>[.own (.slice g.1 l.length g.2) 352 2 l.length (l.flatMap Rn.vals)]:=by
 refine eN1 Tryz.func167 Tryz.ntmps167 ?_
 refine aU6 ?_
 refine o_h (QbE rfl XZ) rfl (λb1 _=>aU ?_)
 refine o_h (QZ (l.flatMap Rn.vals) rfl rfl rfl XZ Tryz.underlying112 Qef rfl aPk (λw h=>Rw.src rv2 hs h) (QaW rv2 _) (Qla rv1 _) om (by simp only[maxLen];omega)) rfl (λb2 _=>aU2 ?_)
 exact rT rfl rfl (λw' h'=>⟨b2,by first|rfl|(simp only[Qw,Nat.zero_add]),trivial,by have h2:=h';(try simp only[Nat.zero_add,List.nil_append]at h2);exact h2.ent aEt⟩)
theorem c114(w:World)(x:Att)(hs:Rw Rn.vals 2 w [] x.ra x.rl)(hm:x.rl.length<=100000):CE 114 #[.agg #[.int .i64 x.ty,.string (bs x.nm),.int .i64 x.id,.int .i64 x.fl,.bool x.rs,.string (bs x.va),.int .i64 x.fi,.slice x.ra x.rl.length x.rc,.int .i64 x.al,.int .i64 x.sz,.int .i64 x.vd]] w [] (λg:Option Addr×Nat=>.agg #[.int .i64 x.ty,.string (bs x.nm),.int .i64 x.id,.int .i64 x.fl,.bool x.rs,.string (bs x.va),.int .i64 x.fi,.slice g.1 x.rl.length g.2,.int .i64 x.al,.int .i64 x.sz,.int .i64 x.vd]) (λg=>True) λg=>[.own (.slice g.1 x.rl.length g.2) 352 2 x.rl.length (x.rl.flatMap Rn.vals)]:=by
 refine eN1 Tryz.func114 Tryz.ntmps114 ?_
 refine aU2 ?_
 refine oBx λb1 _=>?_
 refine oAl (λb2 _=>?_) QcT
 refine aU5 ?_
 refine oCh rfl (λw1 h1=>c167 w1 x.ra x.rc x.rl (hs.later h1.nil) hm) (λgR _=>aU ?_)
 refine ZG (X5 rfl rfl rfl Qee rfl aPt (by show 8<=11;decide) rfl) (λ_ _=>aU4 ?_)
 refine ZG (X5 rfl rfl rfl Yb rfl aPt (by show 11<=11;decide) rfl) (λ_ _=>aU ?_)
 exact Qj (rs:=[.cell 2 114]) rfl (.cell rfl Yb aPk rfl (.nil)) (λw' h'=>⟨gR,rfl,trivial,h'.ent aEt⟩)
set_option maxHeartbeats 2000000 in
theorem c57(w:World)(a:Option Addr)(cap:Nat)(L:List Att)(hs:AtM w a L)(hb:Qd8 L):CE 57 #[.slice a L.length cap] w [] (λg:(Option Addr×Nat)×List Att=>.slice g.1.1 g.2.length g.1.2) (λg=>plA g.2=plA L) λg=>[.row 114 11 Att.vals (QhA 352) g.1.1 g.1.2 g.2]:=by
 have hb40:=hb.1
 refine eN1 Tryz.func57 Tryz.ntmps57 ?_
 refine Qgo ?_
 refine Qs (α:=Nat×(Option Addr×Nat)×List Att) [3,4,5,6,7,8,9,10,11,12,13,14,15,16,17,18] (λy=>[(4,.int .i64 (y.1:Int)),(3,.slice y.2.1.1 y.2.2.length y.2.1.2)]) (λy=>HS w [] [.own (.slice y.2.1.1 (y.2.2).length y.2.1.2) 114 11 (y.2.2).length ((y.2.2).flatMap Att.vals),.star (y.2.2.map (QhA 352))]) (λy=>y.1<=L.length/\y.2.2.length=y.1/\plA y.2.2=(plA L).take y.1) (λy=>L.length-y.1) (0,(none,0),[]) ⟨Nat.zero_le _,rfl,rfl⟩ aSx (λw h=>((h.own_nil 114 11).star_nil).ent aEt) (λ⟨k,⟨ga,gc⟩,Q⟩hx=>?_)
 dsimp only at hx ⊢
 obtain⟨hk1,hk2,hk3⟩:=hx
 refine aU8 ?_
 refine sCd rfl (λh1=>?_) λh1=>?_
 ·have hk:k<L.length:=by have hq:=h1;omega
  refine aU7 ?_
  refine o_p (Qb rfl rfl rfl QX (k) om om (Rw.some hs.1 om)) rfl (o_q (Qr _ rfl rfl Yb rfl (Rw.rd hs.1 hk)) rfl (oCh rfl (λw1 h1=>c114 w1 (nth L k) ((hs.rl hk).later h1.nil) (by have:=(hb.2 k hk).2.1;omega)) (λgC _=>o_h (Qg (cs:=[_,_,_,_,_,_,_,_,_,_,_]) rfl rfl QX QcT rfl rfl rfl) rfl (λb2 _=>o_h (QZ (n:=Q.length) (Att.vals ({(nth L k)with ra:=gC.1,rc:=gC.2}:Att)) rfl rfl rfl QX Tryz.underlying111 QcT rfl aPk (Xx aPk) rfl (atv1 _) om (by simp only[maxLen];omega)) rfl (λb3 _=>aT6 ?_)))))
  refine aU2 ?_
  exact Qv (k+1,b3,Q++[({(nth L k)with ra:=gC.1,rc:=gC.2}:Att)]) (by dsimp only;omega) (by dsimp only;exact⟨om,by rw[List.length_append,List.length_singleton];omega,Qoh hk hk3 rfl⟩) (by dsimp only;rw[List.length_append];exact aSx) (λw h=>by have h2:=HS.sub_app (sub:=QhA 352) (l:=Q) (x:=({(nth L k)with ra:=gC.1,rc:=gC.2}:Att)) (h.ent (Bs:=[.own (.slice gC.1 (nth L k).rl.length gC.2) 352 2 (nth L k).rl.length ((nth L k).rl.flatMap Rn.vals),.star (Q.map (QhA 352)),.own (.slice b3.1 (Q.length+1) b3.2) 114 11 (Q.length+1) (Q.flatMap Att.vals++Att.vals ({(nth L k)with ra:=gC.1,rc:=gC.2}:Att))]) aEt);dsimp only;rw[List.length_append,List.length_singleton,List.flatMap_append,List.flatMap_singleton];exact h2.ent aEt)
 obtain rfl:k=L.length:=by have hq:=h1;omega
 have hD:plA Q=plA L:=by rw[hk3,<-QaG L,List.take_length]
 refine Qh rfl ?_
 refine aU5 ?_
 exact rT rfl rfl (λw' h'=>⟨((ga,gc),Q),rfl,hD,HS.row_shut (a:=ga) (cap:=gc) (l:=Q) (sub:=QhA 352) (t:=114) (sz:=11) (vals:=Att.vals) (h'.ent (Bs:=[.own (.slice ga (Q).length gc) 114 11 (Q).length ((Q).flatMap Att.vals),.star (Q.map (QhA 352))]) aEt) rfl rfl⟩)
set_option maxHeartbeats 4000000 in
theorem c10w(w:World)(a:Option Addr)(cap:Nat)(L:List Att)(hs:AtM w a L):CR 10 #[.slice a L.length cap] w (.bool true):=by
 refine eN1 Tryz.func10 Tryz.ntmps10 ?_
 refine aU7 ?_
 refine oCq rfl (λw1 h1=>c11 w1) (aU2 ?_)
 refine sCd rfl (λh1=>?_) λh1=>?_
 ·exfalso;simp at h1
 refine aU8 ?_
 refine sCd rfl (λh2=>?_) λh2=>?_
 ·refine aU4 ?_
  exact rV
 have hl40:L.length<=40:=by have hq:=h2;omega
 refine aU7 ?_
 refine Qs (α:=Nat) [2,3,13,14,15,16,17,18,19,20,21,22,23,24,25,26,27,28,29,30,31,32,33,34,35,36,37,38,39,40,41,42,43] (λk=>[(3,.int .i64 (k:Int))]) (λ_=>HS w [] []) (λk=>k<=L.length/\∀j,j<k->Qnr (nth L j)=true) (λk=>L.length-k) 0 ⟨Nat.zero_le _,λj h=>absurd h (Nat.not_lt_zero j)⟩ aSx (λw h=>h.ent aEt) (λk hkk=>?_)
 obtain⟨hk1,hk2⟩:=hkk
 refine aU8 ?_
 refine sCd rfl (λh3=>?_) λh3=>?_
 ·have hk:k<L.length:=by have hq:=h3;omega
  refine aU7 ?_
  refine o_p (Qb rfl rfl rfl QX (k) om om (Rw.some hs.1 om)) rfl (aU ?_)
  refine o_q (Qp rfl rfl QhK ((hs.1.rdj 5 hk rfl))) rfl (o_p (Qi rfl rfl Tryz.underlying9) rfl (aU2 ?_))
  refine oOr 8 26 34 rfl
   (λhg4 _=>by
    refine aU5 ?_
    refine o_p (Qb rfl rfl rfl QX (k) om om (Rw.some hs.1 om)) rfl (aU3 ?_)
    refine o_q (Qp rfl rfl Qee ((hs.1.rdj 7 hk rfl))) rfl (aU4 ?_)
    exact oJf 8 34)
   (λhg6 _=>by
    refine aU7 ?_
    exact oJt 8 34) ?_
  refine aU ?_
  refine oOr 8 35 43 rfl
   (λhg8 _=>by
    refine aU5 ?_
    refine o_p (Qb rfl rfl rfl QX (k) om om (Rw.some hs.1 om)) rfl (aU3 ?_)
    refine o_q (Qp rfl rfl QhK ((hs.1.rdj 1 hk rfl))) rfl (aU ?_)
    refine o_p (Qi rfl rfl Tryz.underlying9) rfl (aU2 ?_)
    exact oJf 8 43)
   (λhg10 _=>by
    refine aU7 ?_
    exact oJt 8 43) ?_
  refine aU ?_
  refine sCd rfl (λh12=>?_) λh12=>?_
  ·refine aU4 ?_
   exact rV (h:=by first|rfl|(simp[Qw];done))
  have hp:Qnr (nth L k)=true:=by have hq:=h12;unfold Qnr;rw[decide_eq_true_eq];first|omega|(simp at hq;omega)
  refine aT5 ?_
  refine aU2 ?_
  exact sBk (k+1) om ⟨om,λj hj=>(Nat.lt_succ_iff_lt_or_eq.1 hj).elim (hk2 j) (λe9=>by rw[e9];exact hp)⟩
 have hL:Qd8 L:=⟨hl40,λi hi=>by have h9:=hk2 i (by have hq:=h3;omega);unfold Qnr at h9;exact of_decide_eq_true h9⟩
 refine Qh rfl ?_
 refine aU3 ?_
 refine oCh rfl (λw1 h1=>c57 w1 a cap L (hs.later h1.nil) hL) (λ⟨⟨ga,gc⟩,LC⟩hLC=>oCh rfl (λw1 h1=>by have hLC9:plA LC=plA L:=hLC;have h9:=c56 w1 ga gc LC (h1.atm aPk) (QpI hLC9 hL) (h1.atm_cap aPk);rw[<-(QjB LC).1,<-(QjB LC).2,hLC9]at h9;exact h9) (λgN _=>aU9 ?_))
 refine oCh rfl (λw1 h1=>by have h9:=c58 w1 a cap L (hs.later h1.nil) hL;rw[<-(QjB L).1,<-(QjB L).2]at h9;exact h9) (λgM _=>QcZ ?_)
 refine Xu 4 58 62 rfl
  (λhg13 _=>by
   refine aU5 ?_
   refine oCq rfl (λw1 h1=>c59 w1 gN.1 gM.1 gN.2 gM.2 (lkL (plA L)) (h1.rw_own kv4 aPk rfl) (h1.rw_own kv4 aPk rfl) (by have h9:=Qo8 (L:=plA L);rw[QaG]at h9;have h8:=hL.1;omega)) ?_
   exact oJt 4 62)
  (λhg15 _=>by
   refine aU3 ?_
   exact oJf 4 62) ?_
 refine aU2 ?_
 exact rV (h:=by first|rfl|(simp[Qw];done))
end Go.Proofs
namespace Go.Proofs.YtmhkomoiamljeaaGreatDoor
open Go Go.RowKit Go.ChangeShapes Go.WideShapes Go.ChangeAt Gx Go.Proofs
theorem Qho:Tryz.prog.cellsOf 114=11:=by kernel_rfl
theorem Qrk:ownKnob Tryz.prog.godebug=none:=by kernel_rfl
theorem Qp1:laidOutB Tryz.prog=true:=by kernel_rfl
theorem QjH{a a2:Option Addr}{n n2 c c2:Nat}(h:[Value.slice a n c]=[Value.slice a2 n2 c2]):a=a2/\n=n2/\c=c2:=by cases h;exact⟨rfl,rfl,rfl⟩
def QiT:List (String×DataW Unit):=[("math/bits.deBruijn32tab",Rows.laid_math_bits_deBruijn32tab),("math/bits.deBruijn64tab",Rows.laid_math_bits_deBruijn64tab),("internal/strconv.uint64pow10",Rows.laid_internal_strconv_uint64pow10)]
set_option maxRecDepth 100000 in
theorem Qlm(os:Os)(started:os.Started)(H:Type)(enc:TypeId×Value->H) :
  ReturnsInHanded {} Tryz.checked os 10 .any (λw args=>(Rows.directoryLinksSpec.pre enc Tryz.prog Tryz.f10 [] false w args/\laidMetH Tryz.prog QiT w)/\sizedMet enc Tryz.prog Tryz.f10 (OpenSpec.ofChange Rows.directoryLinksSpec) false w args)
   (Rows.directoryLinksSpec.post enc Tryz.prog Tryz.f10 false true false false):=by
 refine returnsInHanded_of_change_and (C:=Tryz.checked) (X:=λw _=>laidMetH Tryz.prog QiT w) (λ_ _ _ hh h=>h.of_heap hh) Qrk started (by kernel_rfl) Tryz.func10
  (ChangeSpec.witness_shaped (enc:=enc) (C:=Tryz.checked) (os:=os) (X:=λw _=>laidMetH Tryz.prog QiT w) false (World.laidAll Tryz.prog os QiT) #[.slice none 0 0] 8 (World.laidAll_os _ _ _) (World.shaped_of_ZipB (by kernel_rfl) (by kernel_rfl)) (by kernel_rfl) (by kernel_rfl) (by kernel_rfl) (by rw[MakeChecks.laidMetH_plain _ _ _ (by kernel_rfl)];exact laidMet_laidAll _ (by kernel_rfl) (by kernel_rfl))) ?_
 intro W base args ds gs before hval0 hW _ hsz hL _
 have hval:∀(j:Nat)t v,Tryz.f10.params[j]?=some t->args[j]?=some v->Value.okWide Tryz.prog W .any base t v:=hval0
 have hW':=hW
 obtain⟨p,q,hA0,hV,rfl,hfz,hnd⟩:=hW
 have hA:DataW.TrodAll enc Tryz.prog W 0 (λ_=>true) true Tryz.f10.params.toList args.toList ds p:=hA0
 rw[Tryz.params10]at hA hval
 obtain⟨v0,vs0,d0,ds0,p0,q0,hargs0,rfl,rfl,h0,r0⟩:=trodAll_cons hA
 obtain⟨rfl,rfl,rfl⟩:=trodAll_nil r0
 obtain rfl:args= #[v0]:=by cases args;simp_all
 obtain⟨d2,o1⟩:=QkC h0
 obtain⟨x3,x4,x5,rfl⟩:=okWide_slice Tryz.underlying111 (hval 0 111 v0 rfl rfl)
 obtain⟨d15,a6,n7,cap8,cell9,e10,hn11,hcap12,sl13,rows14⟩:=QmB o1 Tryz.underlying111 (by rw[Qho];decide)
 rw[Qho]at sl13
 obtain⟨q16,q17,q18⟩:=QjH e10
 subst x3 x4 x5
 obtain⟨L,hn_L,hR_L⟩:=Qn7 sl13 rows14
 subst hn_L
 have hcall:=c10w W a6 cap8 L hR_L
 refine(hcall).mono λe W'⟨he,hb⟩=>?_
 subst he
 exact⟨_,rfl,Qkx Qp1 (by kernel_rfl) rfl Tryz.underlying4 rfl rfl hW' hb⟩
set_option maxHeartbeats 4000000 in
set_option maxRecDepth 100000 in
theorem Qob:joinedFacts Tryz.pinned.checked.prog 10 Tryz.f10 Rows.directoryLinksSpec Rows.directoryLinksRow=true:=by
 unfold joinedFacts
 simp only[Bool.and_eq_true]
 repeat' apply And.intro
 all_goals (as_aux_lemma=>kernel_rfl)
set_option maxRecDepth 100000 in
theorem QaQ:Rows.DirectoryLinksSaid:=
 OpenClaim.holds_of_wide 10 Tryz.f10 rfl rfl rfl rfl rfl rfl rfl ⟨rfl,rfl,rfl,rfl,rfl⟩ rfl rfl rfl rfl rfl (by kernel_rfl) Tryz.func10 Qob
  (of_decide_eq_true (by kernel_rfl)) (by unfold Func.isWrapper;first|(rw[if_pos (by decide +kernel)];kernel_rfl)|(rw[if_neg (by decide +kernel)];exact⟨rfl,rfl⟩))
  (λos started H enc _=>Qlm os started H enc)
end Go.Proofs.YtmhkomoiamljeaaGreatDoor
