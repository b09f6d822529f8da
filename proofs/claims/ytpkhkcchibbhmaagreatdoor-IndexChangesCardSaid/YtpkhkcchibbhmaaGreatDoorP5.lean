/- Contracts of the program's functions, proved by walking them with the rules of the Gx texts; without conditions beyond those that each contract names. -/
import Derived.WalkKit
import Derived.Deep.Draws
import Derived.TacticsIn
import Derived.OrdersIn
import Derived.RangeFuncLeaves
import Derived.Lib.Strings
import Derived.Laws.BytesArg
import Derived.Laws.IdiomStrings
import Derived.Deep.Quiet
import Derived.ProofKit
import Derived.OpenShut
import Derived.Laws.StructEq
import Derived.ChangeKeysEq
import Derived.Laws.Externs
import Derived.Lib.Overlaps
import Derived.Carry
import Derived.Laws.Small
import Derived.Lib.Bytealg
import Derived.Lib.Builder
import Derived.Laws.Pointers
import Derived.RangeFuncRecord
import Derived.Test.YtpkhkcchibbhmaaGreatDoorProg
import Derived.KernelRfl
import Derived.Test.YtpkhkcchibbhmaaGreatDoorTie
import Derived.Test.YtpkhkcchibbhmaaGreatDoorCards
import Derived.SevenTiedAt
import Derived.LaidMore
import Derived.Lay
import Derived.Stop.Joined
import Derived.Test.YtpkhkcchibbhmaaGreatDoorP4
set_option linter.unusedSimpArgs false
set_option maxHeartbeats 1000000
set_option linter.unusedVariables false
set_option linter.unusedSectionVars false
set_option linter.unnecessarySimpa false
namespace Go.Proofs
open Go Go.RowKit Gx
attribute [local irreducible] Go.Calls Gx.S Gx.O Gx.D Gx.OpP Gx.OpQ Gx.OpH
set_option maxRecDepth 20000
theorem Qb2:QS Tryz.prog 108=some [.string (bs []),.string (bs []),.string (bs []),.int .i64 0,.int .i64 0,.int .i64 0,.slice none 0 0]:=by kernel_rfl
theorem Qqz:Y2 Tryz.prog 108=some [(0,3),(3,4)]:=by kernel_rfl
instance:TFd Tryz.prog 108 1 3 37:=⟨by kernel_rfl⟩
theorem Quk:QK Tryz.prog 61=true:=by kernel_rfl
instance:TFn Tryz.prog 61:=⟨Quk⟩
theorem QfX{x:Ixs}{v:Bool}(hE:ixE x=if x.n=0\/ZW x.bm (x.n-1)=true then 0 else 3)(hv:v=true ↔ (x.n=0\/ZW x.bm (x.n-1)=true)):ixE x=bif v then 0 else 3:=by
  rw[hE];cases v with
  | false=>rw[if_neg (λh=>by cases hv.2 h)];rfl
  | true=>rw[if_pos (hv.1 rfl)];rfl
theorem QkG{x:Ixs}(h:¬x.n=0):Qa4 x x.n=true ↔ (x.n=0\/ZW x.bm (x.n-1)=true):=by
  unfold Qa4;rw[decide_eq_true (show 1<=x.n/\x.n<=x.n by omega),Bool.true_and];exact⟨.inr,λh9=>h9.elim (λh8=>absurd h8 h) id⟩
theorem Qer{x:Ixs}{u v:Bool}(hu:u=true ↔ x.al.length<=61440/\x.ro.length<=200000)(hv:v=true ↔ x.al.length%512=0/\x.bm.length=QH ((x.n+7)/8)) :
    (Xp [.int .i64 (bif u then 0 else 8),.int .i64 (bif v then 0 else 10)]=0->(x.al.length<=61440/\x.ro.length<=200000)/\x.al.length%512=0/\x.bm.length=QH ((x.n+7)/8)) /\
    (¬Xp [.int .i64 (bif u then 0 else 8),.int .i64 (bif v then 0 else 10)]=0->ixE x=Xp [.int .i64 (bif u then 0 else 8),.int .i64 (bif v then 0 else 10)]):=by
  cases u with
  | false=>exact⟨λh=>absurd (show(8:Int)=0 from h) (by decide),λ_=>Qjq λh9=>by cases hu.2 h9⟩
  | true=>
    cases v with
    | false=>exact⟨λh=>absurd (show(10:Int)=0 from h) (by decide),λ_=>QjT (hu.1 rfl) λh9=>by cases hv.2 h9⟩
    | true=>exact⟨λ_=>⟨hu.1 rfl,hv.1 rfl⟩,λh=>absurd rfl h⟩
set_option maxHeartbeats 2000000 in
theorem c56(w:World)(x:Ixs)(hl:x.al.length<=900000)(hr:x.ro.length<=1000000)(hb:x.bm.length<=100000):CE 56 #[.agg #[.string (bs x.ro),.string (bs x.al),.string (bs x.bm)]] w [] (λg:(Int×Int×Int)×(Option Addr×Nat)×List LNd=>.tuple #[.agg #[.string (bs x.ro),.string (bs x.al),.string (bs x.bm),.int .i64 g.1.1,.int .i64 g.1.2.1,.int .i64 g.1.2.2,.slice g.2.1.1 g.2.2.length g.2.1.2],.int .i64 (ixE x)]) (λg=>(ixE x=0->(⟨g.1.1,g.1.2.1,g.1.2.2,pln g.2.2⟩:Tre)=(Qd x.ro).1)) λg=>[.nodes 27 69 g.2.1.1 g.2.1.2 g.2.2]:=by
 have hn9:x.n<=x.al.length:=Nat.div_le_self _ _
 have hpd:QH ((x.n+7)/8)=((x.n+7)/8+7)/8*8:=rfl
 refine eN1 Tryz.func56 Tryz.ntmps56 ?_
 refine aU2 ?_
 refine oBx λb1 _=>?_
 refine oAl (λb2 _=>?_) Qb2
 refine aU5 ?_
 refine o_p (QE (cs:=[_,_,_,_,_,_,_]) rfl rfl Qqz Qb2 rfl) rfl (oAl (λb3 _=>?_) Qb2)
 refine aU5 ?_
 refine oCq rfl (λw1 h1=>Qlh w1 x 0 0 0 none 0 0 om) (aT6 ?_)
 refine aT ?_
 refine o_p (XC rfl rfl rfl om om om) rfl (aU3 ?_)
 refine ZR (α:=Int) [7,17,18,19,20,21,22,23,24,25,26,27,28,29,30,31,32,33,34,35,36,37,38,39,40,41,42,43,44,45,46] (λe=>[(7,.int .i64 e)]) (λe=>(e=0->(x.al.length<=61440/\x.ro.length<=200000)/\x.al.length%512=0/\x.bm.length=QH ((x.n+7)/8))/\(¬e=0->ixE x=e)) ?_ ?_
 ·skip
  refine Qz [] QJ ?_
  refine dFa 0 ?_
  refine dLd 1 [] ?_
  refine dV 2 rfl (Qg rfl rfl Tryz.underlying9) (dP 3 ?_)
  refine dP 4 ?_
  apply Xy 21
  ·exact rfl
  ·intro hg4
   have hs5:=hg4;try simp only[dT]at hs5
   refine dFo 5 21 hg4 ?_
   refine dQo 6 21 [] hg4 rfl rfl rfl (Yo rfl rfl Zu aPk rfl) ?_
   refine dVo 7 21 hg4 rfl rfl rfl (Qg rfl rfl Tryz.underlying9) ?_
   refine dPo 8 21 hg4 ?_
   refine dV 9 rfl (Xv rfl rfl hg4 rfl) (dQ 10 [] rfl (Qr rfl Qez rfl (λw1 h1=>c60 w1 _ _)) (dFa 11 ?_))
   refine dLd 12 [] ?_
   refine dV 13 rfl (Qg rfl rfl Tryz.underlying9) (dV 14 rfl (YE rfl rfl rfl om om) (dP 15 ?_))
   refine dP 16 ?_
   apply Xy 33
   ·exact rfl
   ·intro hg6
    have hs7:=hg6;try simp only[dT]at hs7
    refine dFo 17 33 hg6 ?_
    refine dQo 18 33 [] hg6 rfl rfl rfl (Yo rfl rfl Zu aPk rfl) ?_
    refine dVo 19 33 hg6 rfl rfl rfl (Qg rfl rfl Tryz.underlying9) ?_
    refine dPo 20 33 hg6 ?_
    refine dPo 21 33 hg6 ?_
    try refine dWr ?_
    refine dPo 22 33 hg6 ?_
    try refine dWr ?_
    refine dVo 23 33 hg6 rfl rfl rfl (XC rfl rfl rfl om om om) ?_
    refine dPo 24 33 hg6 ?_
    try refine dWr ?_
    refine dPo 25 33 hg6 ?_
    refine dV 26 rfl (Xv rfl rfl hg6 rfl) (dQ 27 [] rfl (Qr rfl Qez rfl (λw1 h1=>c60 w1 _ _)) (dH 28 rfl (Qk (cs:=[_,_]) rfl rfl Yq ZY rfl rfl rfl) (λb8 _=>dBa ?_)))
    refine dQ 29 [] rfl (Qr rfl Qj9 rfl (λw1 h1=>f59 h1 aPk (by rfl) (by rfl) (by decide))) (dP 30 ?_)
    refine dNi ?_
    exact Qo (Xp [.int .i64 (bif decide ((x.ro.length:Int)<=200000)then 0 else 8),.int .i64 (bif decide ((x.bm.length:Int)=(((x.n:Int)+8-1)/8+8-1)/8*8)then 0 else 10)]) (Qer (x:=x) (by first|(simp only[decide_eq_true_eq];omega)|(simp;omega)|grind) (by first|(simp only[decide_eq_true_eq];omega)|(simp;omega)|grind)) aSx (λw h=>h.ent aEt)
   intro hg9
   have hs10:=hg9;try simp only[dN]at hs10
   refine dOf 17 33 hg9 ?_
   refine dOf 18 33 hg9 ?_
   refine dOf 19 33 hg9 ?_
   refine dOf 20 33 hg9 ?_
   refine dOf 21 33 hg9 ?_
   refine dOf 22 33 hg9 ?_
   refine dOf 23 33 hg9 ?_
   refine dOf 24 33 hg9 ?_
   refine dOf 25 33 hg9 ?_
   refine dV 26 rfl (Q8 rfl rfl hg9 rfl) (dQ 27 [] rfl (Qr rfl Qez rfl (λw1 h1=>c60 w1 _ _)) (dH 28 rfl (Qk (cs:=[_,_]) rfl rfl Yq ZY rfl rfl rfl) (λb11 _=>dBa ?_)))
   refine dQ 29 [] rfl (Qr rfl Qj9 rfl (λw1 h1=>f59 h1 aPk (by rfl) (by rfl) (by decide))) (dP 30 ?_)
   refine dNi ?_
   exact Qo (Xp [.int .i64 (bif decide ((x.ro.length:Int)<=200000)then 0 else 8),.int .i64 (bif false then 0 else 10)]) (Qer (x:=x) (by first|(simp only[decide_eq_true_eq];omega)|(simp;omega)|grind) (by first|(simp only[decide_eq_true_eq];omega)|(simp;omega)|grind)) aSx (λw h=>h.ent aEt)
  intro hg12
  have hs13:=hg12;try simp only[dN]at hs13
  refine dOf 5 21 hg12 ?_
  refine dOf 6 21 hg12 ?_
  refine dOf 7 21 hg12 ?_
  refine dOf 8 21 hg12 ?_
  refine dV 9 rfl (Q8 rfl rfl hg12 rfl) (dQ 10 [] rfl (Qr rfl Qez rfl (λw1 h1=>c60 w1 _ _)) (dFa 11 ?_))
  refine dLd 12 [] ?_
  refine dV 13 rfl (Qg rfl rfl Tryz.underlying9) (dV 14 rfl (YE rfl rfl rfl om om) (dP 15 ?_))
  refine dP 16 ?_
  apply Xy 33
  ·exact rfl
  ·intro hg14
   have hs15:=hg14;try simp only[dT]at hs15
   refine dFo 17 33 hg14 ?_
   refine dQo 18 33 [] hg14 rfl rfl rfl (Yo rfl rfl Zu aPk rfl) ?_
   refine dVo 19 33 hg14 rfl rfl rfl (Qg rfl rfl Tryz.underlying9) ?_
   refine dPo 20 33 hg14 ?_
   refine dPo 21 33 hg14 ?_
   try refine dWr ?_
   refine dPo 22 33 hg14 ?_
   try refine dWr ?_
   refine dVo 23 33 hg14 rfl rfl rfl (XC rfl rfl rfl om om om) ?_
   refine dPo 24 33 hg14 ?_
   try refine dWr ?_
   refine dPo 25 33 hg14 ?_
   refine dV 26 rfl (Xv rfl rfl hg14 rfl) (dQ 27 [] rfl (Qr rfl Qez rfl (λw1 h1=>c60 w1 _ _)) (dH 28 rfl (Qk (cs:=[_,_]) rfl rfl Yq ZY rfl rfl rfl) (λb16 _=>dBa ?_)))
   refine dQ 29 [] rfl (Qr rfl Qj9 rfl (λw1 h1=>f59 h1 aPk (by rfl) (by rfl) (by decide))) (dP 30 ?_)
   refine dNi ?_
   exact Qo (Xp [.int .i64 (bif false then 0 else 8),.int .i64 (bif decide ((x.bm.length:Int)=(((x.n:Int)+8-1)/8+8-1)/8*8)then 0 else 10)]) (Qer (x:=x) (by first|(simp only[decide_eq_true_eq];omega)|(simp;omega)|grind) (by first|(simp only[decide_eq_true_eq];omega)|(simp;omega)|grind)) aSx (λw h=>h.ent aEt)
  intro hg17
  have hs18:=hg17;try simp only[dN]at hs18
  refine dOf 17 33 hg17 ?_
  refine dOf 18 33 hg17 ?_
  refine dOf 19 33 hg17 ?_
  refine dOf 20 33 hg17 ?_
  refine dOf 21 33 hg17 ?_
  refine dOf 22 33 hg17 ?_
  refine dOf 23 33 hg17 ?_
  refine dOf 24 33 hg17 ?_
  refine dOf 25 33 hg17 ?_
  refine dV 26 rfl (Q8 rfl rfl hg17 rfl) (dQ 27 [] rfl (Qr rfl Qez rfl (λw1 h1=>c60 w1 _ _)) (dH 28 rfl (Qk (cs:=[_,_]) rfl rfl Yq ZY rfl rfl rfl) (λb19 _=>dBa ?_)))
  refine dQ 29 [] rfl (Qr rfl Qj9 rfl (λw1 h1=>f59 h1 aPk (by rfl) (by rfl) (by decide))) (dP 30 ?_)
  refine dNi ?_
  exact Qo (Xp [.int .i64 (bif false then 0 else 8),.int .i64 (bif false then 0 else 10)]) (Qer (x:=x) (by first|(simp only[decide_eq_true_eq];omega)|(simp;omega)|grind) (by first|(simp only[decide_eq_true_eq];omega)|(simp;omega)|grind)) aSx (λw h=>h.ent aEt)
 intro e9 he9
 refine aU6 ?_
 refine sCd rfl (λh20=>?_) λh20=>?_
 ·have hR:ixE x=e9:=he9.2 h20
  refine aU7 ?_
  exact Ql (rs:=[.cell 2 108,.tmp 3]) rfl (.cell rfl Yn aPk rfl (.tmp rfl (.nil))) (λw' h'=>⟨((0,0,0),(none,0),[]),by rw[hR];rfl,(λh9=>by rw[hR]at h9;exact absurd h9 (by assumption)),(QY 27 69 h'.nil).ent aEt⟩)
 obtain⟨hA,hBB⟩:=he9.1 h20
 refine aU6 ?_
 refine oCh rfl (λw1 h1=>c28 w1 x.ro hr) (λ⟨⟨ra,rc⟩,RL⟩hRL=>Qay ?_)
 refine sCd rfl (λh21=>?_) λh21=>?_
 ·have hR:=Qmv hA hBB h21
  refine aU7 ?_
  exact Ql (rs:=[.cell 2 108,.tmp 3]) rfl (.cell rfl Yn aPk rfl (.tmp rfl (.nil))) (λw' h'=>⟨(((Qd x.ro).1.co,(Qd x.ro).1.mo,(Qd x.ro).1.rm),(ra,rc),RL),by rw[hR];rfl,(λh9=>by rw[hR]at h9;first|exact absurd h9 (by assumption)|cases h9),h'.ent aEt⟩)
 have hC:(Qd x.ro).2=0:=h21
 refine aU6 ?_
 refine o_p (Qg rfl rfl Tryz.underlying9) rfl (aT ?_)
 refine aU3 ?_
 refine Qj (L':=[(1,_),(2,_),(3,_),(4,_),(5,_),(65,_),(66,_)]) aSx (λ_ h=>h) ?_
 refine Qt (α:=Nat) [3,8,66,67,68,69,70,71,72,73,74,75,76,77,78,79,80,81,82,83,84,85] (λk=>[(66,.int .i64 (k:Int))]) (λ_=>HS w [] [.nodes 27 69 ra rc RL,.blk b3 108 7 [.string (bs x.ro),.string (bs x.al),.string (bs x.bm),.int .i64 (Qd x.ro).1.co,.int .i64 (Qd x.ro).1.mo,.int .i64 (Qd x.ro).1.rm,.slice ra RL.length rc],.blk b2 108 7 [.string (bs []),.string (bs []),.string (bs []),.int .i64 0,.int .i64 0,.int .i64 0,.slice none 0 0],.blk b1 23 3 [.string (bs x.ro),.string (bs x.al),.string (bs x.bm)]]) (λk=>k<=8*x.bm.length/\∀j,j<k->x.n<=j->ZW x.bm j=false) (λk=>8*x.bm.length-k) 0 ⟨Nat.zero_le _,λj h=>absurd h (Nat.not_lt_zero _)⟩ aSx (λw h=>h.ent aEt) (λk hkk=>?_)
 obtain⟨hk1,hk2⟩:=hkk
 refine aU5 ?_
 refine sCd rfl (λh22=>?_) λh22=>?_
 ·have hk:k<8*x.bm.length:=by have hq:=h22;omega
  refine QgU ?_
  refine XP 11 72 83 rfl
   (λhg23 _=>by
    refine aU7 ?_
    refine o_p (XC rfl rfl rfl om om om) rfl (aU ?_)
    refine o_p (Xk rfl rfl rfl Tryz.underlying9 (k/8) om om) rfl ?_
    refine Qm (show _=Value.int .u8 ((ub1 x.bm (k/8):Nat):Int)from rfl) (aU3 ?_)
    refine o_p (YE rfl rfl rfl om om) rfl (aU ?_)
    refine o_p (Qey rfl rfl rfl om (k%8) (by show min _ 8=_;omega)) rfl (aU4 ?_)
    exact oJt 11 83)
   (λhg25 _=>by
    refine YR ?_
    exact oJf 11 83) ?_
  refine aU ?_
  refine sCd rfl (λh27=>?_) λh27=>?_
  ·have hR:=Ql8 hA hBB hC (Qk7 (x:=x) (j:=k) (by have hq:=h27;omega) hk (by rw[<-Qgk];have hq:=h27;exact decide_eq_true hq.2))
   refine aU6 ?_
   exact Ql (rs:=[.cell 2 108,.tmp 3]) rfl (.cell rfl Yn aPk rfl (.tmp rfl (.nil))) (λw' h'=>⟨(((Qd x.ro).1.co,(Qd x.ro).1.mo,(Qd x.ro).1.rm),(ra,rc),RL),by rw[hR];rfl,(λh9=>by rw[hR]at h9;cases h9),h'.ent aEt⟩)
  have hZ:x.n<=k->ZW x.bm k=false:=λh9=>by rw[<-Qgk];refine decide_eq_false λh8=>?_;have hq:=h27;grind
  refine aT4 ?_
  refine aU2 ?_
  exact sBk (k+1) om ⟨om,λj hj hn=>(Nat.lt_or_ge j k).elim (λh=>hk2 j h hn) (λh=>by obtain rfl:j=k:=om;exact hZ hn)⟩
 have hO:=Qnr (x:=x) (λj h1 h2=>hk2 j (by have hq:=h22;omega) h1)
 have hE:=QmI hA hBB hC hO
 refine Qh rfl ?_
 refine aU ?_
 refine Qz [9] QJ ?_
 refine dLn 0 [[]] ?_
 refine dP 1 ?_
 refine dP 2 ?_
 refine dP 3 ?_
 apply Xy 89
 ·exact rfl
 ·intro hg28
  have hs29:=hg28;try simp only[dT]at hs29
  refine dOf 4 89 hg28 ?_
  refine dOf 5 89 hg28 ?_
  refine dOf 6 89 hg28 ?_
  refine dV 7 rfl (Xv rfl rfl hg28 rfl) (dQ 8 [[]] rfl (Qr rfl Qez rfl (λw1 h1=>c60 w1 _ _)) (dSt 9 ?_ (hl:=(by simp only[Qf,List.length_set,List.length_cons,List.length_nil,List.length_map];omega))))
  refine dTu [] ?_
  refine dP 10 ?_
  refine dNi ?_
  exact Ql (rs:=[.cell 2 108,.tmp 3]) rfl (.cell rfl Yn aPk rfl (.tmp rfl (.nil))) (λw' h'=>⟨(((Qd x.ro).1.co,(Qd x.ro).1.mo,(Qd x.ro).1.rm),(ra,rc),RL),(by first|(rw[QfX hE (v:=true) ⟨λ_=>.inl (by grind),λ_=>rfl⟩];rfl)|(rw[QfX hE (v:=Qa4 x x.n) (QkG (by grind))];rfl)|(exfalso;grind)),(λ_=>by rw[hRL]),h'.ent aEt⟩)
 intro hg30
 have hs31:=hg30;try simp only[dN]at hs31
 refine dQo 4 89 [[8,6]] hg30 rfl rfl rfl (Zy rfl rfl Yn aPk rfl) ?_
 refine dPo 5 89 hg30 ?_
 refine dQo 6 89 [[8]] hg30 rfl rfl rfl (Qr rfl Quk rfl (λw1 h1=>c61 w1 x (Qd x.ro).1.co (Qd x.ro).1.mo (Qd x.ro).1.rm ra RL.length rc x.n om om)) ?_
 refine dV 7 rfl (Q8 rfl rfl hg30 rfl) (dQ 8 [[]] rfl (Qr rfl Qez rfl (λw1 h1=>c60 w1 _ _)) (dSt 9 ?_ (hl:=(by simp only[Qf,List.length_set,List.length_cons,List.length_nil,List.length_map];omega))))
 refine dTu [] ?_
 refine dP 10 ?_
 refine dNi ?_
 exact Ql (rs:=[.cell 2 108,.tmp 3]) rfl (.cell rfl Yn aPk rfl (.tmp rfl (.nil))) (λw' h'=>⟨(((Qd x.ro).1.co,(Qd x.ro).1.mo,(Qd x.ro).1.rm),(ra,rc),RL),(by first|(rw[QfX hE (v:=true) ⟨λ_=>.inl (by grind),λ_=>rfl⟩];rfl)|(rw[QfX hE (v:=Qa4 x x.n) (QkG (by grind))];rfl)|(exfalso;grind)),(λ_=>by rw[hRL]),h'.ent aEt⟩)
def QoK(x:Ixs):Bool:=((decide ((x.al.length:Int)<=10241)||(decide ((x.al.length:Int)>61440)&&decide ((x.al.length:Int)<200000)))&&decide ((x.ro.length:Int)<=500))&&decide ((x.bm.length:Int)<=40)
theorem QtM{x:Ixs}(h:QoK x=true):x.al.length<=200000/\x.ro.length<=500/\x.bm.length<=40:=by
  simp only[QoK,Bool.and_eq_true,Bool.or_eq_true,decide_eq_true_eq]at h;omega
theorem c12(w:World)(x:Ixs):CR 12 #[.agg #[.string (bs x.ro),.string (bs x.al),.string (bs x.bm)]] w (.bool (QoK x)):=by
 refine eN1 Tryz.func12 Tryz.ntmps12 ?_
 refine aU2 ?_
 refine oBx λb1 _=>?_
 refine aU6 ?_
 refine o_p (Qg rfl rfl Tryz.underlying9) rfl (aU2 ?_)
 refine oOr 11 7 18 rfl
  (λhg2 _=>by
   refine aU5 ?_
   refine o_p (Qg rfl rfl Tryz.underlying9) rfl (aU4 ?_)
   refine XP 5 12 17 rfl
    (λhg4 _=>by
     refine aU5 ?_
     refine o_p (Qg rfl rfl Tryz.underlying9) rfl (aU3 ?_)
     exact oJt 5 17)
    (λhg6 _=>by
     refine aU5 ?_
     exact oJf 5 17) ?_
   exact oJf 7 18)
  (λhg8 _=>by
   refine YR ?_
   exact oJt 11 18) ?_
 refine aU ?_
 refine XP 5 19 24 rfl
  (λhg10 _=>by
   refine aU5 ?_
   refine o_p (Qg rfl rfl Tryz.underlying9) rfl (aU2 ?_)
   exact oJt 5 24)
  (λhg12 _=>by
   refine aU4 ?_
   exact oJf 5 24) ?_
 refine aU ?_
 refine XP 5 25 30 rfl
  (λhg14 _=>by
   refine aU5 ?_
   refine o_p (Qg rfl rfl Tryz.underlying9) rfl (aU2 ?_)
   exact oJt 5 30)
  (λhg16 _=>by
   refine aU4 ?_
   exact oJf 5 30) ?_
 refine aU2 ?_
 exact rV
end Go.Proofs
namespace Gx
open Go Go.RowKit
section
variable{w0 w:World}{M:List Nat}{As As':List HA}{a:Option Addr}{cap et nt':Nat}{L:List LNd}
theorem HS.nodes_open(h:HS w0 M As w)(hp:QP As (.nodes et nt' a cap L) As'):HS w0 M (.own (.slice a L.length cap) nt' 3 L.length (L.flatMap LNd.vals)::.star (L.map (QaA et))::As') w:=HS.row_open (h.pick hp)
theorem HS.nodes_app{n:LNd}(h:HS w0 M (.ents et n.ea n.ec n.es::.kids n.ca n.cc n.cs::.star (L.map (QaA et))::.own (.slice a (L.length+1) cap) nt' 3 (L.length+1) (L.flatMap LNd.vals++LNd.vals n)::As) w):HS w0 M (.nodes et nt' a cap (L++[n])::As) w:=by
 have h2:HS w0 M (QaA et n::.star (L.map (QaA et))::.own (.slice a (L.length+1) cap) nt' 3 (L.length+1) (L.flatMap LNd.vals++LNd.vals n)::As) w:=HS.star_close (Bs:=[_,_]) h;have h3:=HS.sub_app h2;exact HS.row_shut (l:=L++[n]) (h3.perm (List.Perm.swap ..)) (by simp) (by simp[List.flatMap_append])
end
theorem QfU{x:Ixs}{i:Nat}(h:1<=i/\i*512<=x.al.length):(x.blk i).length=512:=QU om
theorem QnB{x:Ixs}{i:Nat}(h:1<=i/\i*512<=x.al.length):x.blk i=Qd3 ↔ zer (x.blk i)=true:=by
 rw[QaT,QfU h];rfl
theorem QgM{x:Ixs}{i:Nat}(h:Qa4 x i=false):bkN x i=QqC:=by unfold bkN;rw[h];rfl
theorem Qco{x:Ixs}{i:Nat}(h:Qa4 x i=false):bkE x i=if zer (x.blk i)=true then 0 else 3:=by unfold bkE;rw[h];rfl
theorem Qfa{x:Ixs}{i:Nat}(h:Qa4 x i=true):bkN x i=(XR (x.blk i) i).n:=by unfold bkN;rw[h];rfl
theorem Qa9{x:Ixs}{i:Nat}(h:Qa4 x i=true):bkE x i=(XR (x.blk i) i).e:=by unfold bkE;rw[h];rfl
theorem QhL{x:Ixs}:∀(m f i:Nat),(∀j,i<=j->j<i+m->bkE x j=0)->m<f->¬bkE x (i+m)=0->Qge x f i=some (i+m)
 | 0,0,_,_,h,_=>absurd h (Nat.lt_irrefl _)
 | 0,f+1,i,_,_,hb=>by grind[Qge]
 | m+1,0,_,_,h,_=>absurd h (Nat.not_lt_zero _)
 | m+1,f+1,i,h,hf,hb=>by
  rw[Qge,if_pos (h i (Nat.le_refl _) om),QhL m f (i+1) (λj h1 h2=>h j om om) om (by rw[show i+1+m=i+(m+1) by omega];exact hb)];congr 1;omega
theorem QiB{x:Ixs}(h:¬ixE x=0):rdI x=((noT,0),ixE x):=by unfold rdI;rw[if_neg h]
theorem QgX{x:Ixs}{k:Nat}(h:ixE x=0)(hk:k<x.n)(h1:∀j,j<k->bkE x (j+1)=0)(h2:¬bkE x (k+1)=0):rdI x=((noT,((k+1:Nat):Int)),bkE x (k+1)):=by
 have e:Qge x x.n 1=some (k+1):=by
  have h9:=QhL (x:=x) k x.n 1 (λj a b=>by
   obtain⟨j,rfl⟩:∃q,j=q+1:=⟨j-1,om⟩;exact h1 j om) hk (by rw[Nat.add_comm];exact h2)
  grind
 grind[rdI]
theorem QlK{x:Ixs}(h:ixE x=0)(h1:∀j,j<x.n->bkE x (j+1)=0):rdI x=if(Yw (Qaz x)).2=0 then((Qaz x,0),0)else((noT,(Yw (Qaz x)).1),(Yw (Qaz x)).2):=by
 have e:Qge x x.n 1=none:=QeR λj a b=>by
  obtain⟨j,rfl⟩:∃q,j=q+1:=⟨j-1,om⟩;exact h1 j om
 grind[rdI]
structure NdS(n:Nd):Prop where
 es:n.es.length<=255
 cs:n.cs.length<=256
 ent:∀x∈n.es,x.key.length<=1000000/\x.val.length<=1000000
theorem NdS.no:NdS QqC:=⟨Nat.zero_le _,Nat.zero_le _,λx hx=>by cases hx⟩
theorem Qm9{x:TEnt}(h:X8 x 0=true):x.key.length<=1000000/\x.val.length<=1000000:=by grind[X8]
theorem NdS.of(b:List UInt8)(num:Int):NdS (XR b num).n:=by
 by_cases h1:b.length=512
 ·by_cases h2:1<=num/\num<=120
  ·cases h3:XD b with
   | true=>rw[Qil h1 h2 h3];exact NdS.no
   | false=>
    cases h4:rdB (QL b)with
    | none=>rw[QfL h1 h2 h3 h4];exact NdS.no
    | some q=>
     obtain⟨m,last⟩:=q;have e:=Qec h1 h2 h3 h4;obtain⟨_,_,_,q4,q5,q6⟩:=Qdb (Y7 h1) h4;have hcl:=q6.cl;rw[e];split
     ·exact⟨by show m.es.length<=_;omega,by show m.cs.length<=_;omega,λx hx=>Qm9 (q6.es x hx)⟩
     ·exact NdS.no
  ·rw[QlR h1 h2];exact NdS.no
 ·rw[Qls h1];exact NdS.no
theorem NdS.bk(x:Ixs)(i:Nat):NdS (bkN x i):=by grind[bkN,NdS.of,NdS.no]
theorem Qbb{x:Ixs}(h:(Qd x.ro).2=0)(k:Nat):∀n∈Qw x k,NdS n:=by
 obtain⟨n0,l0,hr,_,_,hrt,hl,_⟩:=Qby h;intro n hn;unfold Qw at hn;rw[List.mem_append,hrt]at hn;rcases hn with hn|hn
 ·have hn:n=n0:=by simpa using hn
  subst hn;obtain⟨_,_,_,_,_,q6,q7,q8,_⟩:=Qip om hr;have:=Yj x.ro 7;exact⟨om,om,λy hy=>Qm9 (q8 y hy)⟩
 grind[NdS.bk]
theorem Qf4{x:Ixs}(h:(Qd x.ro).2=0){k:Nat}(hk:k<=900):Bd (Qw x k):=by
 obtain⟨n0,l0,_,_,_,hrt,_⟩:=Qby h;have hl:=YN (x:=x) (by rw[hrt];rfl) k;exact⟨om,λi hi=>by have:=(Qbb h k _ (Qy hi)).es;omega,λi hi=>by have:=(Qbb h k _ (Qy hi)).cs;omega⟩
theorem Qjp{x:Ixs}(h:(Qd x.ro).2=0){k:Nat}{L:List LNd}(hL:pln L=Qw x k):∀i,i<L.length->∀y∈(nth L i).es,y.key.length<=1000000/\y.val.length<=1000000:=λi hi y hy=>by
 have h1:=(Qbb h k (nth (pln L) i) (by rw[<-hL];exact Qy (by rwa[Qe]))).ent y;rw[Q0 hi]at h1;exact h1 hy
end Gx
namespace Go.Proofs
open Go Go.RowKit Gx
attribute [local irreducible] Go.Calls Gx.S Gx.O Gx.D Gx.OpP Gx.OpQ Gx.OpH
set_option maxRecDepth 20000
instance:TFn Tryz.prog 49:=⟨by kernel_rfl⟩
instance:TFn Tryz.prog 69:=⟨by kernel_rfl⟩
set_option maxHeartbeats 4000000 in
theorem c16(w:World)(x:Ixs)(hl:x.al.length<=900000)(hr:x.ro.length<=1000000)(hb:x.bm.length<=100000):CE 16 #[.agg #[.string (bs x.ro),.string (bs x.al),.string (bs x.bm)]] w [] (λg:(Option Addr×Nat)×List LNd=>.tuple #[.agg #[.int .i64 (rdI x).1.1.co,.int .i64 (rdI x).1.1.mo,.int .i64 (rdI x).1.1.rm,.slice g.1.1 g.2.length g.1.2],.int .i64 (rdI x).1.2,.int .i64 (rdI x).2]) (λg=>pln g.2=(rdI x).1.1.ns) λg=>[.nodes 27 69 g.1.1 g.1.2 g.2]:=by
 have hn9:x.n<=x.al.length:=Nat.div_le_self _ _
 have hn8:x.n=x.al.length/512:=rfl
 refine eN1 Tryz.func16 Tryz.ntmps16 ?_
 refine aU2 ?_
 refine oBx λb1 _=>?_
 refine oAl (λb2 _=>?_) XN
 refine aU5 ?_
 refine o_p (QE (cs:=[_,_,_,_]) rfl rfl QaQ XN rfl) rfl (oAl (λb3 _=>?_) XN)
 refine aU6 ?_
 refine oCq rfl (λw1 h1=>c49 w1 x hl hr hb) (aU7 ?_)
 refine sCd rfl (λh4=>?_) λh4=>?_
 ·have hR:=QiB (x:=x) h4
  refine aU8 ?_
  exact Ql (rs:=[.cell 2 37,.tmp 3,.tmp 4]) rfl (.cell rfl X2 aPk rfl (.tmp rfl (.tmp rfl (.nil)))) (λw' h'=>⟨((none,0),[]),by rw[hR];rfl,by rw[hR];rfl,(QY 27 69 h'.nil).ent aEt⟩)
 have hE:ixE x=0:=h4
 obtain⟨hA,hB,hC,hO,hLs⟩:=QdU hE
 obtain⟨n0,l0,_,_,_,hrt,_⟩:=Qby hC
 have hL1:(Qd x.ro).1.ns.length=1:=by rw[hrt];rfl
 refine aU5 ?_
 refine oCh rfl (λw1 h1=>c31 w1 x.ro hr) (λ⟨⟨ra,rc⟩,RL⟩hRL=>aU3 ?_)
 refine oAl (λb5 _=>?_) XN
 refine aU9 ?_
 refine Qj (L':=[(1,_),(2,_),(3,_),(4,_),(5,_),(7,_),(9,_)]) aSx (λ_ h=>h) ?_
 refine Qt (α:=Nat×(Option Addr×Nat)×List LNd) [3,4,9,10,11,12,13,29,30,31,32,33,34,35,36,37,38,39,40,41,42,43,44,45,46,47,48,49,50,51,52,53,54,55,56,57,58,59,60,61,62,63,64,65,66,67,68,69,70,71,72] (λx=>[(9,.int .i64 ((x.1+1:Nat):Int))]) (λy=>HS w [] [.nodes 27 69 y.2.1.1 y.2.1.2 y.2.2,.blk b5 37 4 [.int .i64 (Qd x.ro).1.co,.int .i64 (Qd x.ro).1.mo,.int .i64 (Qd x.ro).1.rm,.slice y.2.1.1 y.2.2.length y.2.1.2],.blk b3 37 4 [.int .i64 0,.int .i64 0,.int .i64 0,.slice none 0 0],.blk b2 37 4 [.int .i64 0,.int .i64 0,.int .i64 0,.slice none 0 0],.blk b1 23 3 [.string (bs x.ro),.string (bs x.al),.string (bs x.bm)]]) (λy=>y.1<=x.n/\pln y.2.2=Qw x y.1/\∀j,j<y.1->bkE x (j+1)=0) (λy=>x.n-y.1) (0,(ra,rc),RL) ⟨Nat.zero_le _,by(try simp only[]);rw[hRL];unfold Qw;simp,λj h=>absurd h (Nat.not_lt_zero _)⟩ aSx (λw h=>h.ent aEt) (λ⟨k,⟨ga,gc⟩,L⟩hkk=>?_)
 dsimp only
 simp only[]at hkk
 obtain⟨hk1,hk2,hk3⟩:=hkk
 have hLl:L.length=k+1:=by rw[<-Qe,hk2,YN hL1]
 refine aU5 ?_
 refine oCq rfl (λw1 h1=>c66 w1 x om) (aU2 ?_)
 refine sCd rfl (λh6=>?_) λh6=>?_
 ·have hk:k<x.n:=by have hq:=h6;omega
  have hb5:=QfU (x:=x) (i:=k+1) om
  have hnm:Qa4 x (k+1)=ZW x.bm (k+1-1):=by unfold Qa4;rw[decide_eq_true om,Bool.true_and]
  refine aU8 ?_
  refine oCq rfl (λw1 h1=>c67 w1 x (k+1) om om) (aU2 ?_)
  refine sCd rfl (λh7=>?_) λh7=>?_
  ·have hnf:Qa4 x (k+1)=false:=by rw[hnm];have hq:=h7;simpa using hq
   refine aU5 ?_
   refine oCq rfl (λw1 h1=>c69 w1 x (k+1) om om) (oCq rfl (λw1 h1=>c53 w1 (x.blk (k+1)) om) (aU2 ?_))
   refine sCd rfl (λh8=>?_) λh8=>?_
   ·have hbe:bkE x (k+1)=3:=by rw[Qco hnf,if_neg];have hq:=h8;simpa using hq
    have hR:=QgX hE hk hk3 (by rw[hbe];decide)
    rw[hbe]at hR
    refine aU8 ?_
    exact Ql (rs:=[.cell 2 37,.tmp 3,.tmp 4]) rfl (.cell rfl X2 aPk rfl (.tmp rfl (.tmp rfl (.nil)))) (λw' h'=>⟨((none,0),[]),by rw[hR];rfl,by rw[hR];rfl,(QY 27 69 h'.nil).ent aEt⟩)
   have hbe:bkE x (k+1)=0:=by rw[Qco hnf,if_pos];have hq:=h8;simpa using hq
   refine aU4 ?_
   refine XB (C':=HS w [] [.own (.slice ga L.length gc) 69 3 L.length (L.flatMap LNd.vals),.star (L.map (QaA 27)),.blk b5 37 4 [.int .i64 (Qd x.ro).1.co,.int .i64 (Qd x.ro).1.mo,.int .i64 (Qd x.ro).1.rm,.slice ga L.length gc],.blk b3 37 4 [.int .i64 0,.int .i64 0,.int .i64 0,.slice none 0 0],.blk b2 37 4 [.int .i64 0,.int .i64 0,.int .i64 0,.slice none 0 0],.blk b1 23 3 [.string (bs x.ro),.string (bs x.al),.string (bs x.bm)]]) (λw9 h=>(HS.nodes_open h aPk).ent aEt) (aU ?_)
   refine o_p (QE (cs:=[_,_,_]) rfl rfl Qfj Xr rfl) rfl (o_h (Qk (cs:=[_,_,_]) rfl rfl QT Xr rfl rfl rfl) rfl (λb9 _=>?_))
   refine o_h (Xe [_,_,_] rfl rfl rfl QT Tryz.underlying35 Xr rfl aPk (Xg aPk) rfl (by intro u hu;simp only[List.mem_cons,List.mem_nil_iff,or_false]at hu;rcases hu with rfl|rfl|rfl<;>rfl) om (by simp only[maxLen];omega)) rfl (λb10 _=>aU3 ?_)
   refine Qh rfl ?_
   refine aT3 ?_
   refine Qm (show _=Value.int .i64 ((k+1+1:Nat):Int)from congrArg (Value.int .i64) om) (aU2 ?_)
   exact QO (k+1,(b10.1,b10.2),L++[⟨false,none,0,[],none,0,[]⟩]) (by(try simp only[]);omega) ⟨by(try simp only[]);omega,by(try simp only[]);rw[Qeg,hk2,QbP,QgM hnf];rfl,λj hj=>(Nat.lt_or_ge j k).elim (hk3 j) (λh=>by obtain rfl:j=k:=om;exact hbe)⟩ (by simp only[List.length_append,List.length_singleton];exact aSx) (λw h=>by have h9:=((h.own_nil 3 1).own_nil 27 2);have h8:=HS.nodes_app (n:=⟨false,none,0,[],none,0,[]⟩) (L:=L) (et:=27) (nt':=69) (h9.ent (Bs:=[.ents 27 (⟨false,none,0,[],none,0,[]⟩:LNd).ea (⟨false,none,0,[],none,0,[]⟩:LNd).ec (⟨false,none,0,[],none,0,[]⟩:LNd).es,.kids (⟨false,none,0,[],none,0,[]⟩:LNd).ca (⟨false,none,0,[],none,0,[]⟩:LNd).cc (⟨false,none,0,[],none,0,[]⟩:LNd).cs,.star (L.map (QaA 27)),.own (.slice b10.1 (L.length+1) b10.2) 69 3 (L.length+1) (L.flatMap LNd.vals++LNd.vals ⟨false,none,0,[],none,0,[]⟩),.blk b5 37 4 [.int .i64 (Qd x.ro).1.co,.int .i64 (Qd x.ro).1.mo,.int .i64 (Qd x.ro).1.rm,.slice b10.1 (L.length+1) b10.2],.blk b3 37 4 [.int .i64 0,.int .i64 0,.int .i64 0,.slice none 0 0],.blk b2 37 4 [.int .i64 0,.int .i64 0,.int .i64 0,.slice none 0 0],.blk b1 23 3 [.string (bs x.ro),.string (bs x.al),.string (bs x.bm)]]) aEt);dsimp only;rw[List.length_append];exact h8.ent aEt)
  have hnf:Qa4 x (k+1)=true:=by rw[hnm];have hq:=h7;simpa using hq
  refine aU5 ?_
  refine oCq rfl (λw1 h1=>c69 w1 x (k+1) om om) (aU ?_)
  refine oCh rfl (λw1 h1=>c39 w1 (x.blk (k+1)) ((k+1:Nat):Int) om) (λgn hgn=>aU5 ?_)
  refine oAl (λb11 _=>?_) Xr
  refine QbK ?_
  refine sCd rfl (λh12=>?_) λh12=>?_
  ·have hbe:=Qa9 hnf
   have hR:=QgX hE hk hk3 (by rw[hbe];exact h12)
   rw[hbe]at hR
   refine aU9 ?_
   exact Ql (rs:=[.cell 2 37,.tmp 3,.tmp 4]) rfl (.cell rfl X2 aPk rfl (.tmp rfl (.tmp rfl (.nil)))) (λw' h'=>⟨((none,0),[]),by rw[hR];rfl,by rw[hR];rfl,(QY 27 69 h'.nil).ent aEt⟩)
  have hbe:bkE x (k+1)=0:=by rw[Qa9 hnf];exact h12
  refine aU3 ?_
  refine XB (C':=HS w [] [.own (.slice ga L.length gc) 69 3 L.length (L.flatMap LNd.vals),.star (L.map (QaA 27)),.ents 27 gn.ea gn.ec gn.es,.kids gn.ca gn.cc gn.cs,.blk b11 69 3 (LNd.vals gn),.blk b5 37 4 [.int .i64 (Qd x.ro).1.co,.int .i64 (Qd x.ro).1.mo,.int .i64 (Qd x.ro).1.rm,.slice ga L.length gc],.blk b3 37 4 [.int .i64 0,.int .i64 0,.int .i64 0,.slice none 0 0],.blk b2 37 4 [.int .i64 0,.int .i64 0,.int .i64 0,.slice none 0 0],.blk b1 23 3 [.string (bs x.ro),.string (bs x.al),.string (bs x.bm)]]) (λw9 h=>(HS.nodes_open h aPk).ent aEt) (aU2 ?_)
  refine o_h (Qk (cs:=[_,_,_]) rfl rfl QT Xr rfl rfl rfl) rfl (λb13 _=>?_)
  refine o_h (Xe [_,_,_] rfl rfl rfl QT Tryz.underlying35 Xr rfl aPk (Xg aPk) rfl (by intro u hu;simp only[List.mem_cons,List.mem_nil_iff,or_false]at hu;rcases hu with rfl|rfl|rfl<;>rfl) om (by simp only[maxLen];omega)) rfl (λb14 _=>aU4 ?_)
  refine Qj (L':=[(1,_),(2,_),(5,_),(7,_),(9,_)]) aSx (λ_ h=>h) ?_
  refine aT3 ?_
  refine Qm (show _=Value.int .i64 ((k+1+1:Nat):Int)from congrArg (Value.int .i64) om) (aU2 ?_)
  exact QO (k+1,(b14.1,b14.2),L++[gn]) (by(try simp only[]);omega) ⟨by(try simp only[]);omega,by(try simp only[]);rw[Qeg,hk2,QbP,Qfa hnf];(show _++[gn.pl]=_);rw[hgn],λj hj=>(Nat.lt_or_ge j k).elim (hk3 j) (λh=>by obtain rfl:j=k:=om;exact hbe)⟩ (by simp only[List.length_append,List.length_singleton];exact aSx) (λw h=>by have h9:=h;have h8:=HS.nodes_app (n:=gn) (L:=L) (et:=27) (nt':=69) (h9.ent (Bs:=[.ents 27 (gn:LNd).ea (gn:LNd).ec (gn:LNd).es,.kids (gn:LNd).ca (gn:LNd).cc (gn:LNd).cs,.star (L.map (QaA 27)),.own (.slice b14.1 (L.length+1) b14.2) 69 3 (L.length+1) (L.flatMap LNd.vals++LNd.vals gn),.blk b5 37 4 [.int .i64 (Qd x.ro).1.co,.int .i64 (Qd x.ro).1.mo,.int .i64 (Qd x.ro).1.rm,.slice b14.1 (L.length+1) b14.2],.blk b3 37 4 [.int .i64 0,.int .i64 0,.int .i64 0,.slice none 0 0],.blk b2 37 4 [.int .i64 0,.int .i64 0,.int .i64 0,.slice none 0 0],.blk b1 23 3 [.string (bs x.ro),.string (bs x.al),.string (bs x.bm)]]) aEt);dsimp only;rw[List.length_append];exact h8.ent aEt)
 obtain rfl:k=x.n:=by have hq:=h6;omega
 have hall:=QlK hE hk3
 have hT:(⟨(Qd x.ro).1.co,(Qd x.ro).1.mo,(Qd x.ro).1.rm,pln L⟩:Tre)=Qaz x:=by rw[hk2];rfl
 refine Qh rfl ?_
 refine aU4 ?_
 refine oCq rfl (λw1 h1=>c71 w1 _ _ _ ga gc L (HS.nt h1 aPk) (by rw[hk2];exact Qf4 hC om) (λi hi y hy=>(Qjp hC hk2 i hi y hy).1)) ?_
 rw[hT]
 refine QbK ?_
 refine sCd rfl (λh15=>?_) λh15=>?_
 ·have hR:rdI x=((noT,(Yw (Qaz x)).1),(Yw (Qaz x)).2):=by rw[hall,if_neg h15]
  refine aU9 ?_
  exact Ql (rs:=[.cell 2 37,.tmp 3,.tmp 4]) rfl (.cell rfl X2 aPk rfl (.tmp rfl (.tmp rfl (.nil)))) (λw' h'=>⟨((none,0),[]),by rw[hR];rfl,by rw[hR];rfl,(QY 27 69 h'.nil).ent aEt⟩)
 have hR:rdI x=((Qaz x,0),0):=by rw[hall,if_pos h15]
 refine aU8 ?_
 exact Ql (rs:=[.cell 2 37,.tmp 3,.tmp 4]) rfl (.cell rfl X2 aPk rfl (.tmp rfl (.tmp rfl (.nil)))) (λw' h'=>⟨((ga,gc),L),by rw[hR];rfl,by rw[hR];exact hk2,h'.ent aEt⟩)
instance:TFn Tryz.prog 56:=⟨by kernel_rfl⟩
theorem Qk8:QK Tryz.prog 64=true:=by kernel_rfl
instance:TFn Tryz.prog 64:=⟨Qk8⟩
set_option maxHeartbeats 4000000 in
theorem c82(w:World)(x:Ixs)(hl:x.al.length<=900000)(hr:x.ro.length<=1000000)(hb:x.bm.length<=100000):CE 82 #[.agg #[.string (bs x.ro),.string (bs x.al),.string (bs x.bm)]] w [] (λg:((Option Addr×Nat)×List LNd)×(Int×Int×Int)×(Option Addr×Nat×Nat)=>.tuple #[.agg #[.string (bs x.ro),.string (bs x.al),.string (bs x.bm),.int .i64 g.2.1.1,.int .i64 g.2.1.2.1,.int .i64 g.2.1.2.2,.slice g.2.2.1 g.2.2.2.1 g.2.2.2.2],.agg #[.int .i64 (rdI x).1.1.co,.int .i64 (rdI x).1.1.mo,.int .i64 (rdI x).1.1.rm,.slice g.1.1.1 g.1.2.length g.1.1.2],.int .i64 (rdI x).1.2,.int .i64 (rdI x).2]) (λg=>pln g.1.2=(rdI x).1.1.ns) λg=>[.nodes 27 69 g.1.1.1 g.1.1.2 g.1.2]:=by
 have hn9:x.n<=x.al.length:=Nat.div_le_self _ _
 have hn8:x.n=x.al.length/512:=rfl
 refine eN1 Tryz.func82 Tryz.ntmps82 ?_
 refine aU2 ?_
 refine oBx λb1 _=>?_
 refine oAl (λb2 _=>?_) Qb2
 refine oAl (λb3 _=>?_) XN
 refine aU6 ?_
 refine oCh rfl (λw1 h1=>c56 w1 x hl hr hb) (λ⟨⟨c1,m1,r1⟩,⟨ra,rc⟩,RL⟩hRL=>aU3 ?_)
 refine oAl (λb4 _=>?_) Qb2
 refine aU9 ?_
 refine sCd rfl (λh5=>?_) λh5=>?_
 ·have hR:=QiB (x:=x) h5
  refine aU3 ?_
  refine o_p (QE (cs:=[_,_,_,_]) rfl rfl QaQ XN rfl) rfl (aU6 ?_)
  exact Ql (rs:=[.cell 2 108,.cell 3 37,.tmp 4,.tmp 5]) rfl (.cell rfl Yn aPk rfl (.cell rfl X2 aPk rfl (.tmp rfl (.tmp rfl (.nil))))) (λw' h'=>⟨(((none,0),[]),(c1,m1,r1),(ra,RL.length,rc)),by rw[hR];rfl,by rw[hR];rfl,(QY 27 69 h'.nil).ent aEt⟩)
 have hE:ixE x=0:=h5
 have hRT:=hRL hE
 dsimp only at hRT
 obtain rfl:c1=(Qd x.ro).1.co:=congrArg Tre.co hRT
 obtain rfl:m1=(Qd x.ro).1.mo:=congrArg Tre.mo hRT
 obtain rfl:r1=(Qd x.ro).1.rm:=congrArg Tre.rm hRT
 have hRn:pln RL=(Qd x.ro).1.ns:=congrArg Tre.ns hRT
 obtain⟨hA,hB,hC,hO,hLs⟩:=QdU hE
 obtain⟨n0,l0,_,_,_,hrt,_⟩:=Qby hC
 have hL1:(Qd x.ro).1.ns.length=1:=by rw[hrt];rfl
 have hb8:x.n<=8*x.bm.length:=by have:=XT ((x.n+7)/8);omega
 refine aU5 ?_
 refine oAl (λb6 _=>?_) XN
 refine aU8 ?_
 refine Qj (L':=[(2,_),(3,_),(4,_),(5,_),(6,_),(8,_),(9,_)]) aSx (λ_ h=>h) ?_
 refine Qt (α:=Nat×(Option Addr×Nat)×List LNd) [4,5,9,10,11,26,27,28,29,30,31,32,33,34,35,36,37,38,39,40,41,42,43,44,45,46,47,48,49,50,51,52,53,54,55,56,57,58,59,60,61,62,63,64,65,66,67,68,69,70] (λy=>[(9,.int .i64 ((y.1+1:Nat):Int))]) (λy=>HS w [] [.nodes 27 69 y.2.1.1 y.2.1.2 y.2.2,.blk b6 37 4 [.int .i64 (Qd x.ro).1.co,.int .i64 (Qd x.ro).1.mo,.int .i64 (Qd x.ro).1.rm,.slice y.2.1.1 y.2.2.length y.2.1.2],.blk b4 108 7 [.string (bs x.ro),.string (bs x.al),.string (bs x.bm),.int .i64 (Qd x.ro).1.co,.int .i64 (Qd x.ro).1.mo,.int .i64 (Qd x.ro).1.rm,.slice ra RL.length rc],.blk b2 108 7 [.string (bs []),.string (bs []),.string (bs []),.int .i64 0,.int .i64 0,.int .i64 0,.slice none 0 0],.blk b3 37 4 [.int .i64 0,.int .i64 0,.int .i64 0,.slice none 0 0],.blk b1 23 3 [.string (bs x.ro),.string (bs x.al),.string (bs x.bm)]]) (λy=>y.1<=x.n/\pln y.2.2=Qw x y.1/\∀j,j<y.1->bkE x (j+1)=0) (λy=>x.n-y.1) (0,(ra,rc),RL) ⟨Nat.zero_le _,by(try simp only[]);rw[hRn];unfold Qw;simp,λj h=>absurd h (Nat.not_lt_zero _)⟩ aSx (λw h=>h.ent aEt) (λ⟨k,⟨ga,gc⟩,L⟩hkk=>?_)
 dsimp only
 simp only[]at hkk
 obtain⟨hk1,hk2,hk3⟩:=hkk
 have hLl:L.length=k+1:=by rw[<-Qe,hk2,YN hL1]
 refine aU5 ?_
 refine oCq rfl (λw1 h1=>Qlh w1 x (Qd x.ro).1.co (Qd x.ro).1.mo (Qd x.ro).1.rm ra RL.length rc om) (aU2 ?_)
 refine sCd rfl (λh7=>?_) λh7=>?_
 ·have hk:k<x.n:=by have hq:=h7;omega
  have hb5:=QfU (x:=x) (i:=k+1) om
  refine aU8 ?_
  refine oCq rfl (λw1 h1=>c61 w1 x (Qd x.ro).1.co (Qd x.ro).1.mo (Qd x.ro).1.rm ra RL.length rc (k+1) om hb8) (aU2 ?_)
  refine sCd rfl (λh8=>?_) λh8=>?_
  ·have hnf:Qa4 x (k+1)=false:=by have hq:=h8;simpa using hq
   refine aU5 ?_
   refine oCq rfl (λw1 h1=>c64 w1 x (Qd x.ro).1.co (Qd x.ro).1.mo (Qd x.ro).1.rm ra RL.length rc (k+1) om om) (oCq rfl (λw1 h1=>c78 w1) (aU2 ?_))
   refine sCd rfl (λh9=>?_) λh9=>?_
   ·have hbe:bkE x (k+1)=3:=by rw[Qco hnf,if_neg];rw[<-QnB om];exact h9
    have hR:=QgX hE hk hk3 (by rw[hbe];decide)
    rw[hbe]at hR
    refine aU3 ?_
    refine o_p (QE (cs:=[_,_,_,_]) rfl rfl QaQ XN rfl) rfl (aU6 ?_)
    exact Ql (rs:=[.cell 2 108,.cell 3 37,.tmp 4,.tmp 5]) rfl (.cell rfl Yn aPk rfl (.cell rfl X2 aPk rfl (.tmp rfl (.tmp rfl (.nil))))) (λw' h'=>⟨(((none,0),[]),((Qd x.ro).1.co,(Qd x.ro).1.mo,(Qd x.ro).1.rm),(ra,RL.length,rc)),by rw[hR];rfl,by rw[hR];rfl,(QY 27 69 h'.nil).ent aEt⟩)
   have hbe:bkE x (k+1)=0:=by rw[Qco hnf,if_pos];rw[<-QnB om];have hq:=h9;first|exact hq|simpa using hq
   refine aU4 ?_
   refine XB (C':=HS w [] [.own (.slice ga L.length gc) 69 3 L.length (L.flatMap LNd.vals),.star (L.map (QaA 27)),.blk b6 37 4 [.int .i64 (Qd x.ro).1.co,.int .i64 (Qd x.ro).1.mo,.int .i64 (Qd x.ro).1.rm,.slice ga L.length gc],.blk b4 108 7 [.string (bs x.ro),.string (bs x.al),.string (bs x.bm),.int .i64 (Qd x.ro).1.co,.int .i64 (Qd x.ro).1.mo,.int .i64 (Qd x.ro).1.rm,.slice ra RL.length rc],.blk b2 108 7 [.string (bs []),.string (bs []),.string (bs []),.int .i64 0,.int .i64 0,.int .i64 0,.slice none 0 0],.blk b3 37 4 [.int .i64 0,.int .i64 0,.int .i64 0,.slice none 0 0],.blk b1 23 3 [.string (bs x.ro),.string (bs x.al),.string (bs x.bm)]]) (λw9 h=>(HS.nodes_open h aPk).ent aEt) (aU ?_)
   refine o_p (QE (cs:=[_,_,_]) rfl rfl Qfj Xr rfl) rfl (o_h (Qk (cs:=[_,_,_]) rfl rfl QT Xr rfl rfl rfl) rfl (λb10 _=>?_))
   refine o_h (Xe [_,_,_] rfl rfl rfl QT Tryz.underlying35 Xr rfl aPk (Xg aPk) rfl (by intro u hu;simp only[List.mem_cons,List.mem_nil_iff,or_false]at hu;rcases hu with rfl|rfl|rfl<;>rfl) om (by simp only[maxLen];omega)) rfl (λb11 _=>aU3 ?_)
   refine Qh rfl ?_
   refine aT3 ?_
   refine Qm (show _=Value.int .i64 ((k+1+1:Nat):Int)from congrArg (Value.int .i64) om) (aU2 ?_)
   exact QO (k+1,(b11.1,b11.2),L++[⟨false,none,0,[],none,0,[]⟩]) (by(try simp only[]);omega) ⟨by(try simp only[]);omega,by(try simp only[]);rw[Qeg,hk2,QbP,QgM hnf];rfl,λj hj=>(Nat.lt_or_ge j k).elim (hk3 j) (λh=>by obtain rfl:j=k:=om;exact hbe)⟩ (by simp only[List.length_append,List.length_singleton];exact aSx) (λw h=>by have h9:=((h.own_nil 3 1).own_nil 27 2);have h8:=HS.nodes_app (n:=⟨false,none,0,[],none,0,[]⟩) (L:=L) (et:=27) (nt':=69) (h9.ent (Bs:=[.ents 27 (⟨false,none,0,[],none,0,[]⟩:LNd).ea (⟨false,none,0,[],none,0,[]⟩:LNd).ec (⟨false,none,0,[],none,0,[]⟩:LNd).es,.kids (⟨false,none,0,[],none,0,[]⟩:LNd).ca (⟨false,none,0,[],none,0,[]⟩:LNd).cc (⟨false,none,0,[],none,0,[]⟩:LNd).cs,.star (L.map (QaA 27)),.own (.slice b11.1 (L.length+1) b11.2) 69 3 (L.length+1) (L.flatMap LNd.vals++LNd.vals ⟨false,none,0,[],none,0,[]⟩),.blk b6 37 4 [.int .i64 (Qd x.ro).1.co,.int .i64 (Qd x.ro).1.mo,.int .i64 (Qd x.ro).1.rm,.slice b11.1 (L.length+1) b11.2],.blk b4 108 7 [.string (bs x.ro),.string (bs x.al),.string (bs x.bm),.int .i64 (Qd x.ro).1.co,.int .i64 (Qd x.ro).1.mo,.int .i64 (Qd x.ro).1.rm,.slice ra RL.length rc],.blk b2 108 7 [.string (bs []),.string (bs []),.string (bs []),.int .i64 0,.int .i64 0,.int .i64 0,.slice none 0 0],.blk b3 37 4 [.int .i64 0,.int .i64 0,.int .i64 0,.slice none 0 0],.blk b1 23 3 [.string (bs x.ro),.string (bs x.al),.string (bs x.bm)]]) aEt);dsimp only;rw[List.length_append];exact h8.ent aEt)
  have hnf:Qa4 x (k+1)=true:=by have hq:=h8;simpa using hq
  refine aU5 ?_
  refine oCq rfl (λw1 h1=>c64 w1 x (Qd x.ro).1.co (Qd x.ro).1.mo (Qd x.ro).1.rm ra RL.length rc (k+1) om om) (aU ?_)
  refine oCh rfl (λw1 h1=>c63 w1 (x.blk (k+1)) ((k+1:Nat):Int) om) (λgn hgn=>aU3 ?_)
  refine oAl (λb12 _=>?_) Qak
  refine aU9 ?_
  refine sCd rfl (λh13=>?_) λh13=>?_
  ·have hbe:=Qa9 hnf
   have hR:=QgX hE hk hk3 (by rw[hbe];exact h13)
   rw[hbe]at hR
   refine aU3 ?_
   refine o_p (QE (cs:=[_,_,_,_]) rfl rfl QaQ XN rfl) rfl (aU7 ?_)
   exact Ql (rs:=[.cell 2 108,.cell 3 37,.tmp 4,.tmp 5]) rfl (.cell rfl Yn aPk rfl (.cell rfl X2 aPk rfl (.tmp rfl (.tmp rfl (.nil))))) (λw' h'=>⟨(((none,0),[]),((Qd x.ro).1.co,(Qd x.ro).1.mo,(Qd x.ro).1.rm),(ra,RL.length,rc)),by rw[hR];rfl,by rw[hR];rfl,(QY 27 69 h'.nil).ent aEt⟩)
  have hbe:bkE x (k+1)=0:=by rw[Qa9 hnf];exact h13
  refine aU3 ?_
  refine XB (C':=HS w [] [.own (.slice ga L.length gc) 69 3 L.length (L.flatMap LNd.vals),.star (L.map (QaA 27)),.ents 27 gn.ea gn.ec gn.es,.kids gn.ca gn.cc gn.cs,.blk b12 118 5 _,.blk b6 37 4 [.int .i64 (Qd x.ro).1.co,.int .i64 (Qd x.ro).1.mo,.int .i64 (Qd x.ro).1.rm,.slice ga L.length gc],.blk b4 108 7 [.string (bs x.ro),.string (bs x.al),.string (bs x.bm),.int .i64 (Qd x.ro).1.co,.int .i64 (Qd x.ro).1.mo,.int .i64 (Qd x.ro).1.rm,.slice ra RL.length rc],.blk b2 108 7 [.string (bs []),.string (bs []),.string (bs []),.int .i64 0,.int .i64 0,.int .i64 0,.slice none 0 0],.blk b3 37 4 [.int .i64 0,.int .i64 0,.int .i64 0,.slice none 0 0],.blk b1 23 3 [.string (bs x.ro),.string (bs x.al),.string (bs x.bm)]]) (λw9 h=>(HS.nodes_open h aPk).ent aEt) (aU3 ?_)
  refine o_h (Qk (cs:=[_,_,_]) rfl rfl QT Xr rfl rfl rfl) rfl (λb14 _=>?_)
  refine o_h (Xe [_,_,_] rfl rfl rfl QT Tryz.underlying35 Xr rfl aPk (Xg aPk) rfl (by intro u hu;simp only[List.mem_cons,List.mem_nil_iff,or_false]at hu;rcases hu with rfl|rfl|rfl<;>rfl) om (by simp only[maxLen];omega)) rfl (λb15 _=>aU4 ?_)
  refine Qj (L':=[(2,_),(3,_),(6,_),(8,_),(9,_)]) aSx (λ_ h=>h) ?_
  refine aT3 ?_
  refine Qm (show _=Value.int .i64 ((k+1+1:Nat):Int)from congrArg (Value.int .i64) om) (aU2 ?_)
  exact QO (k+1,(b15.1,b15.2),L++[gn]) (by(try simp only[]);omega) ⟨by(try simp only[]);omega,by(try simp only[]);rw[Qeg,hk2,QbP,Qfa hnf];(show _++[gn.pl]=_);rw[hgn],λj hj=>(Nat.lt_or_ge j k).elim (hk3 j) (λh=>by obtain rfl:j=k:=om;exact hbe)⟩ (by simp only[List.length_append,List.length_singleton];exact aSx) (λw h=>by have h9:=h;have h8:=HS.nodes_app (n:=gn) (L:=L) (et:=27) (nt':=69) (h9.ent (Bs:=[.ents 27 (gn:LNd).ea (gn:LNd).ec (gn:LNd).es,.kids (gn:LNd).ca (gn:LNd).cc (gn:LNd).cs,.star (L.map (QaA 27)),.own (.slice b15.1 (L.length+1) b15.2) 69 3 (L.length+1) (L.flatMap LNd.vals++LNd.vals gn),.blk b6 37 4 [.int .i64 (Qd x.ro).1.co,.int .i64 (Qd x.ro).1.mo,.int .i64 (Qd x.ro).1.rm,.slice b15.1 (L.length+1) b15.2],.blk b4 108 7 [.string (bs x.ro),.string (bs x.al),.string (bs x.bm),.int .i64 (Qd x.ro).1.co,.int .i64 (Qd x.ro).1.mo,.int .i64 (Qd x.ro).1.rm,.slice ra RL.length rc],.blk b2 108 7 [.string (bs []),.string (bs []),.string (bs []),.int .i64 0,.int .i64 0,.int .i64 0,.slice none 0 0],.blk b3 37 4 [.int .i64 0,.int .i64 0,.int .i64 0,.slice none 0 0],.blk b1 23 3 [.string (bs x.ro),.string (bs x.al),.string (bs x.bm)]]) aEt);dsimp only;rw[List.length_append];exact h8.ent aEt)
 obtain rfl:k=x.n:=by have hq:=h7;omega
 have hall:=QlK hE hk3
 have hT:(⟨(Qd x.ro).1.co,(Qd x.ro).1.mo,(Qd x.ro).1.rm,pln L⟩:Tre)=Qaz x:=by rw[hk2];rfl
 refine Qh rfl ?_
 refine aU4 ?_
 refine oCq rfl (λw1 h1=>c140 w1 _ _ _ ga gc L (HS.nt h1 aPk) (by rw[hk2];exact Qf4 hC om) (λi hi y hy=>(Qjp hC hk2 i hi y hy).1)) ?_
 rw[hT]
 refine QbK ?_
 refine sCd rfl (λh16=>?_) λh16=>?_
 ·have hR:rdI x=((noT,(Yw (Qaz x)).1),(Yw (Qaz x)).2):=by rw[hall,if_neg h16]
  refine aU3 ?_
  refine o_p (QE (cs:=[_,_,_,_]) rfl rfl QaQ XN rfl) rfl (aU7 ?_)
  exact Ql (rs:=[.cell 2 108,.cell 3 37,.tmp 4,.tmp 5]) rfl (.cell rfl Yn aPk rfl (.cell rfl X2 aPk rfl (.tmp rfl (.tmp rfl (.nil))))) (λw' h'=>⟨(((none,0),[]),((Qd x.ro).1.co,(Qd x.ro).1.mo,(Qd x.ro).1.rm),(ra,RL.length,rc)),by rw[hR];rfl,by rw[hR];rfl,(QY 27 69 h'.nil).ent aEt⟩)
 have hR:rdI x=((Qaz x,0),0):=by rw[hall,if_pos h16]
 refine aU2 ?_
 refine Qjl [.nodes 27 69 ga gc L,.blk b6 37 4 [.int .i64 (Qd x.ro).1.co,.int .i64 (Qd x.ro).1.mo,.int .i64 (Qd x.ro).1.rm,.slice ga L.length gc],.blk b4 108 7 [.string (bs x.ro),.string (bs x.al),.string (bs x.bm),.int .i64 (Qd x.ro).1.co,.int .i64 (Qd x.ro).1.mo,.int .i64 (Qd x.ro).1.rm,.slice ra RL.length rc]] [] QJ ?_
 refine dLn 0 [] ?_
 refine dLn 1 [] ?_
 refine dSt 2 ?_ (hl:=(by simp only[Qf,List.length_set,List.length_cons,List.length_nil,List.length_map];omega))
 refine dSt 3 ?_ (hl:=(by simp only[Qf,List.length_set,List.length_cons,List.length_nil,List.length_map];omega))
 refine dP 4 ?_
 refine dP 5 ?_
 refine dNi ?_
 exact Ql (rs:=[.cell 2 108,.cell 3 37,.tmp 4,.tmp 5]) rfl (.cell rfl Yn aPk rfl (.cell rfl X2 aPk rfl (.tmp rfl (.tmp rfl (.nil))))) (λw' h'=>⟨(((ga,gc),L),((Qd x.ro).1.co,(Qd x.ro).1.mo,(Qd x.ro).1.rm),(ra,RL.length,rc)),by rw[hR];rfl,by rw[hR];exact hk2,h'.ent aEt⟩)
instance:TFn Tryz.prog 82:=⟨by kernel_rfl⟩
theorem c22(w:World)(x:Ixs)(hl:x.al.length<=900000)(hr:x.ro.length<=1000000)(hb:x.bm.length<=100000):CE 22 #[.agg #[.string (bs x.ro),.string (bs x.al),.string (bs x.bm)]] w [] (λg:(Option Addr×Nat)×List LNd=>.tuple #[.agg #[.int .i64 (rdI x).1.1.co,.int .i64 (rdI x).1.1.mo,.int .i64 (rdI x).1.1.rm,.slice g.1.1 g.2.length g.1.2],.int .i64 (rdI x).1.2,.int .i64 (rdI x).2]) (λg=>pln g.2=(rdI x).1.1.ns) λg=>[.nodes 27 69 g.1.1 g.1.2 g.2]:=by
 refine eN1 Tryz.func22 Tryz.ntmps22 ?_
 refine aU2 ?_
 refine oBx λb1 _=>?_
 refine oAl (λb2 _=>?_) XN
 refine aU6 ?_
 refine oCh rfl (λw1 h1=>c82 w1 x hl hr hb) (λ⟨⟨⟨ga,gc⟩,L⟩,⟨c1,m1,r1⟩,⟨ra,rn,rc⟩⟩hL=>aU5 ?_)
 refine oAl (λb3 _=>?_) Qb2
 refine oAl (λb4 _=>?_) XN
 refine QgU ?_
 exact Ql (rs:=[.cell 2 37,.tmp 3,.tmp 4]) rfl (.cell rfl X2 aPk rfl (.tmp rfl (.tmp rfl (.nil)))) (λw' h'=>⟨((ga,gc),L),rfl,hL,h'.ent aEt⟩)
end Go.Proofs
namespace Gx
open Go Go.RowKit
section
variable{w0 w:World}{M:List Nat}{As As':List HA}{a:Option Addr}{cap et nt':Nat}{L:List LNd}
theorem HS.nodes_cap(h:HS w0 M As w)(hp:QP As (.nodes et nt' a cap L) As'):L.length<=cap/\cap<=maxLen:=by
 obtain⟨_,⟨e,h0⟩|⟨g,cap',e,h1,h2,_⟩⟩:=(h.nodes_own hp).head
 ·grind
 grind
end
theorem Qug{ns:List Nd}(h:∀n∈ns,NdS n):Sm 100000 ns:=λk=>by
 rcases Nat.lt_or_ge k ns.length with hk|hk
 ·have:=h _ (Qy hk);have h1:=this.es;have h2:=this.cs;omega
 ·rw[Z9 hk];exact⟨Nat.zero_le _,Nat.zero_le _⟩
theorem Qvu{x:Ixs}(hl:x.al.length<=400000):Sm 100000 (rdI x).1.1.ns/\(rdI x).1.1.ns.length<=1000:=by
 have hno:Sm 100000 noT.ns/\noT.ns.length<=1000:=⟨Qug (λn hn=>by cases hn),Nat.zero_le _⟩
 by_cases h:ixE x=0
 ·obtain⟨_,_,hC,_⟩:=QdU h;unfold rdI;rw[if_pos h];cases hb:Qge x x.n 1 with
  | some i=>exact hno
  | none=>grind[Yw,Qaz,Ixs.n,Qug,Qbb,Qf4]
 ·rw[QiB h];exact hno
end Gx
namespace Go.Proofs
open Go Go.RowKit Gx
attribute [local irreducible] Go.Calls Gx.S Gx.O Gx.D Gx.OpP Gx.OpQ Gx.OpH
set_option maxRecDepth 20000
instance:TFn Tryz.prog 12:=⟨by kernel_rfl⟩
instance:TFn Tryz.prog 22:=⟨by kernel_rfl⟩
instance:TFn Tryz.prog 16:=⟨by kernel_rfl⟩
theorem Qpm:Qkm Tryz.prog 23=some [1,1,1]:=by kernel_rfl
end Go.Proofs
namespace Gx
open Go Go.RowKit
theorem QqF{x:Ixs}(h:(Qd x.ro).1.ns.length=1){i:Nat}(h1:1<=i/\i<=x.n):nth (Qw x x.n) i=bkN x i:=by
 apply YW
 grind[Qw]
theorem Qaw{x:Ixs}(h:(rdI x).2=0):ixE x=0/\(rdI x).1.1=Qaz x/\(Yw (Qaz x)).2=0/\(Qd x.ro).1.ns.length=1/\∀i,1<=i->i<=x.n->bkE x i=0:=by
 have h0:ixE x=0:=by grind[ixE,QiB]
 have hr:(Qd x.ro).1.ns.length=1:=by
  obtain⟨n0,l0,_,_,_,hrt,_⟩:=Qby (QdU h0).2.2.1;rw[hrt];rfl
 have hb:∀k,k<=x.n->∀j,j<k->bkE x (j+1)=0:=by
  intro k
  induction k with
  | zero=>exactλ_ j hj=>absurd hj (Nat.not_lt_zero _)
  | succ k ih=>
   intro hk j hj;rcases Nat.lt_or_ge j k with h1|h1
   ·grind
   ·obtain rfl:j=k:=by omega
    by_cases h9:bkE x (j+1)=0
    ·exact h9
    ·rw[QgX h0 om (ih om) h9]at h;exact absurd h h9
 have ha:=QlK h0 (hb x.n (Nat.le_refl _))
 by_cases h9:(Yw (Qaz x)).2=0
 ·rw[if_pos h9]at ha;refine⟨h0,by rw[ha],h9,hr,λi h1 h2=>?_⟩;have:=hb x.n (Nat.le_refl _) (i-1) om
  grind
 grind
end Gx
namespace Go.Proofs
open Go Go.RowKit Gx
attribute [local irreducible] Go.Calls Gx.S Gx.O Gx.D Gx.OpP Gx.OpQ Gx.OpH
set_option maxRecDepth 20000
theorem Qwc{P Q:List Nat}:iN P=iN Q ↔ P=Q:=by
  constructor
  · intro h;apply List.ext_getElem?;intro j;have h1:=congrArg (λl:List Int=>(l[j]?).map Int.toNat) h
    simpa[iN,Function.comp_def]using h1
  · exactλh=>by rw[h]
theorem c15P(w:World)(a b:Option Addr)(c d:Nat)(P Q:List Nat)(hs:Rw inV 1 w [] a (iN P))(ht:Rw inV 1 w [] b (iN Q))(hl:P.length<=100000)(hm:Q.length<=100000):CR 15 #[.slice a P.length c,.slice b Q.length d] w (.bool (decide (P=Q))):=by
  have h:=c15 w a b c d (iN P) (iN Q) hs ht (by rw[Qgd];exact hl) (by rw[Qgd];exact hm);rw[Qgd,Qgd,show decide (iN P=iN Q)=decide (P=Q)from decide_eq_decide.2 Qwc]at h;exact h
end Go.Proofs
namespace Gx
open Go Go.RowKit
def chB(x:Ixs)(os ts:List Nd)(lsn:Int)(i:Nat):List UInt8:=
 if i=0 then Qd3
 else if(nth ts i).us=true then
  if os.length<=i\/¬(nth os i).us=true then ZL (nth ts i) i lsn 1
  else if nth os i=nth ts i then x.blk i
  else ZL (nth ts i) i lsn ((ub2 (x.blk i) 40%65535+1:Nat):Int)
 else Qd3
def chX(x:Ixs)(os:List Nd)(t:Tre)(lsn:Int):Ixs:=Qai t (chB x os t.ns lsn)
def chD(x y:Ixs)(i:Nat):Bool:=decide (x.n<i)||(decide (y.n<i)||decide (x.blk i≠y.blk i))
def ZN(x y:Ixs):Nat->List Nat
 | 0=>[]
 | k+1=>if chD x y (k+1)=true then ZN x y k++[k+1]else ZN x y k
def chL(x y:Ixs):List Nat:=ZN x y (max x.n y.n)
theorem Qej(x y:Ixs):∀k,(ZN x y k).length<=k
 | 0=>Nat.le_refl _
 | k+1=>by
  have:=Qej x y k;rw[ZN];split
  ·rw[List.length_append,List.length_singleton];omega
  ·omega
def chE(x:Ixs)(t:Tre)(lsn:Int):Int:=
 if(rdI x).2=0 then
  if Yy t=0 then
   if(t.co=(rdI x).1.1.co/\t.mo=(rdI x).1.1.mo)/\t.rm=(rdI x).1.1.rm then
    if 0<=lsn/\lsn<=2147483647 then 0 else 2
   else 13
  else Yy t
 else(rdI x).2
theorem Qid{b:List UInt8}{num:Int}(h:(XR b num).e=0):b.length=512/\XD b=false/\1<=ub2 b 40:=by
 have h1:b.length=512/\XD b=false:=by
  unfold XR at h
  grind[ndE]
 have h2:=(Qhe.1 h1.2).1;exact⟨h1.1,h1.2,om⟩
theorem QwF{b:List UInt8}{num:Int}(h:(XR b num).e=0):(XR b num).n.us=true:=by
 have key:∃n last,rdB (QL b)=some (n,last)/\b.length=512/\(XR b num).n=n:=by
  unfold XR at h ⊢
  grind[ndE]
 obtain⟨n,last,h4,h1,e⟩:=key;rw[e];exact(Qdb (Y7 h1) h4).2.2.2.2.2.us
theorem Qmp{x:Ixs}(h:(rdI x).2=0){i:Nat}(h1:1<=i/\i<=x.n):((nth (Qw x x.n) i).us=true->(XR (x.blk i) i).n=nth (Qw x x.n) i/\(XR (x.blk i) i).e=0/\zer (x.blk i)=false)/\(¬(nth (Qw x x.n) i).us=true->zer (x.blk i)=true):=by
 obtain⟨h0,ht,he,hr,hb⟩:=Qaw h;rw[QqF hr h1];have hbe:=hb i h1.1 h1.2;cases hn:Qa4 x i with
 | true=>
  rw[Qfa hn];rw[Qa9 hn]at hbe;obtain⟨q1,q2,q3⟩:=Qid hbe;refine⟨λ_=>⟨rfl,hbe,?_⟩,λh9=>?_⟩
  ·cases hz:zer (x.blk i)with
   | false=>rfl
   | true=>
    have h8:∀b∈x.blk i,b=0:=λb hb=>of_decide_eq_true (List.all_eq_true.1 hz b hb)
    have e:∀p,ub1 (x.blk i) p=0:=λp=>by
     unfold ub1;rcases Nat.lt_or_ge p (x.blk i).length with hp|hp
     ·rw[List.getD_eq_getElem?_getD,List.getElem?_eq_getElem hp,Option.getD_some,h8 _ (List.getElem_mem hp)];rfl
     ·rw[List.getD_eq_getElem?_getD,List.getElem?_eq_none hp];rfl
    have h7:ub2 (x.blk i) 40=0:=by simp only[ub2,e]
    omega
  ·exact absurd (QwF hbe) h9
 | false=>
  rw[QgM hn];rw[Qco hn]at hbe;refine⟨λh9=>(by cases h9),λ_=>?_⟩
  by_cases hz:zer (x.blk i)=true
  ·exact hz
  ·rw[if_neg hz]at hbe;cases hbe
theorem Qaq{x:Ixs}{t:Tre}{lsn:Int}(h:(rdI x).2=0)(hi:Yy t=0)(hl:0<=lsn/\lsn<=2147483647):Holds t (chB x (Qw x x.n) t.ns lsn):=by
 obtain⟨h0,ht,he,hr,hb⟩:=Qaw h;have hnl:=YN hr x.n;have hout:∀i,t.ns.length<=i->(nth t.ns i).us=false:=λi h9=>by rw[Z9 h9];rfl
 have hnode:∀i(usn:Int),1<=i->(nth t.ns i).us=true->1<=usn/\usn<=65535->(ZL (nth t.ns i) i lsn usn).length=512/\(XR (ZL (nth t.ns i) i lsn usn) i).n=nth t.ns i/\(XR (ZL (nth t.ns i) i lsn usn) i).e=0:=λi usn h1 hu hs=>by
  have hil:i<t.ns.length:=by
   rcases Nat.lt_or_ge i t.ns.length with h9|h9
   ·exact h9
   ·rw[hout i h9]at hu;cases hu
  obtain⟨q1,q2,q3,_,q5⟩:=Qam hi hil hu;have q6:=Qty hi om hil hu;have e:=Qpf (num:=(i:Int)) (lsn:=lsn) (usn:=usn) q1 ⟨q6,q2⟩ om om hl hs;rw[e];exact⟨Qc9 (Qbm om),rfl,rfl⟩
 have hU:∀s:List UInt8,(1:Int)<=((ub2 s 40%65535+1:Nat):Int)/\((ub2 s 40%65535+1:Nat):Int)<=65535:=λs=>om
 have hold:∀i,1<=i->¬((Qw x x.n).length<=i\/¬(nth (Qw x x.n) i).us=true)->(x.blk i).length=512/\(XR (x.blk i) i).n=nth (Qw x x.n) i/\(XR (x.blk i) i).e=0:=λi h1 h9=>by
  have h8:i<=x.n:=by
   rcases Nat.lt_or_ge x.n i with h7|h7
   ·exact absurd (.inl om) h9
   ·exact h7
  have h7:=(Qmp h ⟨h1,h8⟩).1 (by
   cases hq:(nth (Qw x x.n) i).us with
   | true=>rfl
   | false=>exact absurd (.inr (by rw[hq];decide)) h9)
  exact⟨(Qid h7.2.1).1,h7.1,h7.2.1⟩
 refine⟨λi=>?_,λi a b hu=>?_,λi a b hu=>?_⟩
 ·unfold chB;split
  ·exact Qe9
  ·split
   ·rename_i h1 hu;split
    ·exact(hnode i 1 om hu om).1
    ·rename_i h9;split
     ·exact(hold i om h9).1
     ·exact(hnode i _ om hu (hU _)).1
   ·exact Qe9
 ·unfold chB;rw[if_neg om,if_pos hu];split
  ·exact(hnode i 1 a hu om).2
  ·rename_i h9;split
   ·rename_i h8;have h7:=hold i a h9;exact⟨h7.2.1.trans h8,h7.2.2⟩
   ·exact(hnode i _ a hu (hU _)).2
 ·unfold chB;rw[if_neg om,hu,if_neg (by decide)];exact Qex 512
theorem Qww{x:Ixs}{t:Tre}{lsn:Int}(h:(rdI x).2=0)(hi:Yy t=0)(hl:0<=lsn/\lsn<=2147483647):rdI (chX x (Qw x x.n) t lsn)=((t,0),0):=(QjQ hi (Qaq h hi hl)).2
theorem QtS{x:Ixs}{t:Tre}{lsn:Int}(h:(rdI x).2=0)(hi:Yy t=0)(hl:0<=lsn/\lsn<=2147483647):(chX x (Qw x x.n) t lsn).al.length=512*(t.ns.length-1)/\(chX x (Qw x x.n) t lsn).n=t.ns.length-1:=by
 have h1:=Qbe (Qaq h hi hl).len (t.ns.length-1);refine⟨h1,?_⟩;show(YB _ _).length/512=_;rw[h1];omega
theorem Qvt{x:Ixs}{t:Tre}{lsn:Int}(h:(rdI x).2=0)(hi:Yy t=0)(hl:0<=lsn/\lsn<=2147483647){i:Nat}(h1:1<=i/\i<t.ns.length):(chX x (Qw x x.n) t lsn).blk i=chB x (Qw x x.n) t.ns lsn i:=Qe1 (Qaq h hi hl).len h1.1 _ om
def Z3(x:Ixs)(i:Nat):List UInt8:=if i<=x.n then x.blk i else[]
def Qbu(x:Ixs)(os ts:List Nd)(lsn:Int)(i:Nat):List UInt8:=if i<ts.length then chB x os ts lsn i else[]
section
variable{x:Ixs}{t:Tre}{lsn:Int}
theorem Qio(i:Nat)(h:1<=i):(Z3 x i).length=if i<=x.n then 512 else 0:=by
 unfold Z3;split
 ·exact QfU (by have:x.n=x.al.length/512:=rfl;omega)
 ·rfl
theorem Qm7(h:(rdI x).2=0)(hi:Yy t=0)(hl:0<=lsn/\lsn<=2147483647)(i:Nat):(Qbu x (Qw x x.n) t.ns lsn i).length=if i<t.ns.length then 512 else 0:=by
 unfold Qbu;split
 ·exact(Qaq h hi hl).len i
 ·rfl
theorem Qvr(h:(rdI x).2=0)(hi:Yy t=0)(hl:0<=lsn/\lsn<=2147483647){k:Nat}(hk:k+1<max (Qw x x.n).length t.ns.length):(¬Qbu x (Qw x x.n) t.ns lsn (k+1)=Z3 x (k+1)) ↔ chD x (chX x (Qw x x.n) t lsn) (k+1)=true:=by
 obtain⟨_,_,_,hr1,_⟩:=Qaw h;have hnl:=YN hr1 x.n;have h1:=Qm7 h hi hl (k+1);have h2:=Qio (x:=x) (k+1) om;have h3:=(QtS h hi hl).2;have h0:=(ZM hi).1;unfold chD;rw[h3];simp only[Bool.or_eq_true,decide_eq_true_eq]
 by_cases c1:k+1<t.ns.length
 ·by_cases c2:k+1<=x.n
  ·rw[Qvt h hi hl (i:=k+1) om];unfold Qbu Z3;rw[if_pos c1,if_pos c2];constructor
   ·exactλh9=>.inr (.inr λe=>h9 e.symm)
   ·rintro(h9|h9|h9)
    ·omega
    ·omega
    ·exactλe=>h9 e.symm
  ·refine⟨λ_=>.inl om,λ_ e=>?_⟩;rw[e,h2,if_neg c2,if_pos c1]at h1;cases h1
 ·refine⟨λ_=>.inr (.inl om),λ_ e=>?_⟩;rw[e,h2,if_pos om,if_neg c1]at h1;cases h1
theorem QrB(h0:0<t.ns.length)(k:Nat):YB (chB x (Qw x x.n) t.ns lsn) (min k (t.ns.length-1))++Qbu x (Qw x x.n) t.ns lsn (k+1)=YB (chB x (Qw x x.n) t.ns lsn) (min (k+1) (t.ns.length-1)):=by
 unfold Qbu;split
 ·rw[show min k (t.ns.length-1)=k by omega,show min (k+1) (t.ns.length-1)=k+1 by omega,YB]
 ·rw[show min k (t.ns.length-1)=t.ns.length-1 by omega,show min (k+1) (t.ns.length-1)=t.ns.length-1 by omega,List.append_nil]
theorem QqN{os ts:List Nd}{k:Nat}(hu:¬(nth ts (k+1)).us=true)(hk:k+1<ts.length):Qbu x os ts lsn (k+1)=Qd3:=by
 unfold Qbu chB;rw[if_pos hk,if_neg (Nat.succ_ne_zero k),if_neg hu]
theorem QrL{os ts:List Nd}{k:Nat}(hu:(nth ts (k+1)).us=true)(hk:k+1<ts.length)(hx:os.length=x.n+1)(h1:k+1<os.length)(h2:nth os (k+1)=nth ts (k+1)):Qbu x os ts lsn (k+1)=Z3 x (k+1):=by
 unfold Qbu chB Z3;rw[if_pos hk,if_neg (Nat.succ_ne_zero k),if_pos hu,if_neg (by rw[h2,hu];simp;omega),if_pos h2,if_pos om]
theorem Qtx(h:(rdI x).2=0){ts:List Nd}{k:Nat}(hu:(nth ts (k+1)).us=true)(hk:k+1<ts.length)(hx:(Qw x x.n).length=x.n+1)(hz:Z3 x (k+1)=[]\/zer (Z3 x (k+1))=true):Qbu x (Qw x x.n) ts lsn (k+1)=ZL (nth ts (k+1)) ((k+1:Nat):Int) lsn 1:=by
 unfold Qbu chB;rw[if_pos hk,if_neg (Nat.succ_ne_zero k),if_pos hu,if_pos]
 by_cases c:k+1<=x.n
 ·refine .inr λh9=>?_;have h8:=((Qmp h (i:=k+1) om).1 h9);have h7:Z3 x (k+1)=x.blk (k+1):=if_pos c;rw[h7]at hz;rcases hz with hz|hz
  ·have:=(Qid h8.2.1).1;rw[hz]at this;cases this
  ·rw[h8.2.2]at hz;cases hz
 ·exact .inl om
theorem Qsi(h:(rdI x).2=0){ts:List Nd}{k:Nat}(hu:(nth ts (k+1)).us=true)(hk:k+1<ts.length)(hx:(Qw x x.n).length=x.n+1)(hn:¬(k+1<(Qw x x.n).length/\nth (Qw x x.n) (k+1)=nth ts (k+1)))(hz:¬Z3 x (k+1)=[]/\zer (Z3 x (k+1))=false):Qbu x (Qw x x.n) ts lsn (k+1)=ZL (nth ts (k+1)) ((k+1:Nat):Int) lsn ((ub2 (Z3 x (k+1)) 40%65535+1:Nat):Int)/\(Z3 x (k+1)).length=512:=by
 have c:k+1<=x.n:=by
  rcases Nat.lt_or_ge x.n (k+1)with h9|h9
  ·exact absurd (if_neg om) hz.1
  ·exact h9
 have h7:Z3 x (k+1)=x.blk (k+1):=if_pos c
 have h8:(nth (Qw x x.n) (k+1)).us=true:=by
  cases hq:(nth (Qw x x.n) (k+1)).us with
  | true=>rfl
  | false=>
   have:=(Qmp h (i:=k+1) om).2 (by rw[hq];decide);rw[h7,this]at hz;cases hz.2
 refine⟨?_,by rw[Qio _ om,if_pos c]⟩;unfold Qbu chB;rw[if_pos hk,if_neg (Nat.succ_ne_zero k),if_pos hu,if_neg (by rw[h8];simp;omega),if_neg λe=>hn ⟨om,e⟩,h7]
end
end Gx
namespace Go.Proofs
open Go Go.RowKit Gx
attribute [local irreducible] Go.Calls Gx.S Gx.O Gx.D Gx.OpP Gx.OpQ Gx.OpH
set_option maxRecDepth 20000
instance:TFn Tryz.prog 208:=⟨by kernel_rfl⟩
instance:TFn Tryz.prog 209:=⟨by kernel_rfl⟩
theorem QvE:QK Tryz.prog 161=true:=by kernel_rfl
instance:TFn Tryz.prog 162:=⟨by kernel_rfl⟩
theorem c208(w:World)(a b:Option Addr)(c d:Nat)(l m:List TEnt)(hs:Rw TEnt.vals 2 w [] a l)(ht:Rw TEnt.vals 2 w [] b m)(hl:l.length<=100000)(hm:m.length<=100000):CR 208 #[.slice a l.length c,.slice b m.length d] w (.bool (decide (l=m))):=by
 refine eN2 Tryz.func208 Tryz.ntmps208 ?_
 refine QaU ?_
 refine sCd rfl (λh1=>?_) λh1=>?_
 ·have hn9:l≠m:=λe=>by have hq:=h1;rw[e]at hq;simp at hq
  refine aU4 ?_
  exact rV (h:=by rw[decide_eq_false hn9];rfl)
 have hlm:l.length=m.length:=by have hq:=h1;omega
 refine aU9 ?_
 refine Qt (α:=Nat) [4,5,13,14,15,16,17,18,19,20,21,22,23,24,25] (λk=>[(13,.int .i64 (k:Int))]) (λ_=>HS w [] []) (λk=>k<=l.length/\∀j,j<k->nth l j=nth m j) (λk=>l.length-k) 0 ⟨Nat.zero_le _,λj h=>absurd h (Nat.not_lt_zero j)⟩ aSx (λw h=>h.ent aEt) (λk hx=>?_)
 obtain⟨hk1,hk3⟩:=hx
 refine aU5 ?_
 refine sCd rfl (λh2=>?_) λh2=>?_
 ·have hk:k<l.length:=by omega
  have hk2:k<m.length:=om
  refine aU9 ?_
  refine Qz [] QJ ?_
  refine dP 0 ?_
  refine dP 1 ?_
  refine dV 2 rfl (Qa rfl rfl rfl Q3 (k) om om (Rw.some hs om)) (dQ 3 [] rfl (Qs _ rfl rfl QaM rfl (Rw.rd hs om)) (dP 4 ?_))
  refine dP 5 ?_
  refine dV 6 rfl (Qa rfl rfl rfl Q3 (k) om om (Rw.some ht om)) (dQ 7 [] rfl (Qs _ rfl rfl QaM rfl (Rw.rd ht om)) (dV 8 rfl (Qdc rfl rfl rfl Qse (by rfl) (by rfl) (by rfl)) (dNi ?_)))
  refine sCd rfl (λh3=>?_) λh3=>?_
  ·have hn9:l≠m:=λe=>by have hq:=h3;rw[e]at hq;simp at hq
   refine aU4 ?_
   exact rV (h:=by rw[decide_eq_false hn9];rfl)
  have he9:nth l k=nth m k:=by have hq:=h3;first|exact hq|exact Qi4 hq.1 hq.2.1
  refine aT4 ?_
  refine aU2 ?_
  exact sBk (k+1) om ⟨om,λj hj=>(Nat.lt_or_ge j k).elim (hk3 j) (λh9=>by obtain rfl:j=k:=om;exact he9)⟩
 have hl9:l=m:=Z4 hlm λj hj=>hk3 j om
 refine Qh rfl ?_
 refine aU4 ?_
 exact rV (h:=by rw[decide_eq_true hl9];rfl)
theorem c209(w:World)(a b:Option Addr)(c d:Nat)(l m:List Int)(hs:Rw inV 1 w [] a l)(ht:Rw inV 1 w [] b m)(hl:l.length<=100000)(hm:m.length<=100000):CR 209 #[.slice a l.length c,.slice b m.length d] w (.bool (decide (l=m))):=by
 refine eN2 Tryz.func209 Tryz.ntmps209 ?_
 refine QaU ?_
 refine sCd rfl (λh1=>?_) λh1=>?_
 ·have hn9:l≠m:=λe=>by have hq:=h1;rw[e]at hq;simp at hq
  refine aU4 ?_
  exact rV (h:=by rw[decide_eq_false hn9];rfl)
 have hlm:l.length=m.length:=by have hq:=h1;omega
 refine aU9 ?_
 refine Qt (α:=Nat) [4,5,13,14,15,16,17,18,19,20,21,22,23,24,25] (λk=>[(13,.int .i64 (k:Int))]) (λ_=>HS w [] []) (λk=>k<=l.length/\∀j,j<k->nth l j=nth m j) (λk=>l.length-k) 0 ⟨Nat.zero_le _,λj h=>absurd h (Nat.not_lt_zero j)⟩ aSx (λw h=>h.ent aEt) (λk hx=>?_)
 obtain⟨hk1,hk3⟩:=hx
 refine aU5 ?_
 refine sCd rfl (λh2=>?_) λh2=>?_
 ·have hk:k<l.length:=by omega
  have hk2:k<m.length:=om
  refine aU9 ?_
  refine Qz [] QJ ?_
  refine dP 0 ?_
  refine dP 1 ?_
  refine dV 2 rfl (Qa rfl rfl rfl QW (k) om om (Rw.some hs om)) (dQ 3 [] rfl (Qb rfl rfl Zg ((hs.rdj 0 om rfl))) (dP 4 ?_))
  refine dP 5 ?_
  refine dV 6 rfl (Qa rfl rfl rfl QW (k) om om (Rw.some ht om)) (dQ 7 [] rfl (Qb rfl rfl Zg ((ht.rdj 0 om rfl))) (dP 8 ?_))
  refine dNi ?_
  refine sCd rfl (λh3=>?_) λh3=>?_
  ·have hn9:l≠m:=λe=>by have hq:=h3;rw[e]at hq;simp at hq
   refine aU4 ?_
   exact rV (h:=by rw[decide_eq_false hn9];rfl)
  have he9:nth l k=nth m k:=by have hq:=h3;first|exact hq|exact Qi4 hq.1 hq.2.1
  refine aT4 ?_
  refine aU2 ?_
  exact sBk (k+1) om ⟨om,λj hj=>(Nat.lt_or_ge j k).elim (hk3 j) (λh9=>by obtain rfl:j=k:=om;exact he9)⟩
 have hl9:l=m:=Z4 hlm λj hj=>hk3 j om
 refine Qh rfl ?_
 refine aU4 ?_
 exact rV (h:=by rw[decide_eq_true hl9];rfl)
theorem c161(w:World)(n m:LNd)(hne:Rw TEnt.vals 2 w [] n.ea n.es)(hnc:Rw inV 1 w [] n.ca n.cs)(hme:Rw TEnt.vals 2 w [] m.ea m.es)(hmc:Rw inV 1 w [] m.ca m.cs)(h1:n.es.length<=100000/\n.cs.length<=100000)(h2:m.es.length<=100000/\m.cs.length<=100000):CR 161 #[.agg #[.bool n.us,.slice n.ea n.es.length n.ec,.slice n.ca n.cs.length n.cc],.agg #[.bool m.us,.slice m.ea m.es.length m.ec,.slice m.ca m.cs.length m.cc]] w (.bool (decide (n.pl=m.pl))):=by
 refine eN2 Tryz.func161 Tryz.ntmps161 ?_
 refine aU2 ?_
 refine oBx λb1 _=>?_
 refine oBx λb2 _=>?_
 refine aU8 ?_
 refine o_p (QdJ rfl rfl rfl Tryz.underlying4) rfl (aU ?_)
 refine XP 6 10 16 rfl
  (λhg3 _=>by
   refine aU9 ?_
   refine oCq rfl (λw1 h1=>c208 w1 n.ea m.ea n.ec m.ec n.es m.es (hne.later h1.nil) (hme.later h1.nil) om om) ?_
   exact oJt 6 16)
  (λhg5 _=>by
   refine aU5 ?_
   exact oJf 6 16) ?_
 refine aU ?_
 refine XP 6 17 23 rfl
  (λhg7 _=>by
   refine aU9 ?_
   refine oCq rfl (λw1 h1=>c209 w1 n.ca m.ca n.cc m.cc n.cs m.cs (hnc.later h1.nil) (hmc.later h1.nil) om om) ?_
   exact oJt 6 23)
  (λhg9 _=>by
   refine aU5 ?_
   exact oJf 6 23) ?_
 refine aU2 ?_
 exact rV (h:=by simp only[QX];rw[Qka])
theorem c162(w:World)(u:Nat)(hu:u<=65535):CR 162 #[.int .i64 (u:Int)] w (.tuple #[.int .i64 ((u%65535+1:Nat):Int),.int .i64 0]):=by
 refine eN1 Tryz.func162 Tryz.ntmps162 ?_
 refine aU9 ?_
 refine oCq rfl (λw1 h1=>c205 w1 _ _ _) (aU2 ?_)
 refine sCd rfl (λh1=>?_) λh1=>?_
 ·exfalso;have hq:=h1;omega
 refine aU4 ?_
 refine o_p (YE rfl rfl rfl om om) rfl (aT ?_)
 refine aU3 ?_
 exact Ql (rs:=[.tmp 2,.tmp 3]) rfl (.tmp rfl (.tmp rfl (.nil))) (λw' h'=>⟨by rw[show((u%65535+1:Nat):Int)=(u:Int)%65535+1 by omega];rfl,h'.below⟩)
theorem c160(w:World)(b6 b5 b7 b4:Nat)(x:Ixs)(c2 m2 r2:Int)(ra:Option Addr)(rn rc:Nat)(co mo rm:Int)(a:Option Addr)(cap:Nat)(L:List LNd)(oa:Option Addr)(oc:Nat)(OL:List LNd)(lsn:Int)(k:Nat)(hb6:Rd w [] b6 3 (.slice a L.length cap))(hb5:Rd w [] b5 3 (.slice oa OL.length oc))(hb7:Rd w [] b7 0 (.int .i64 lsn))(hb4:∀j v,([.string (bs x.ro),.string (bs x.al),.string (bs x.bm),.int .i64 c2,.int .i64 m2,.int .i64 r2,.slice ra rn rc]:List Value)[j]?=some v->Rd w [] b4 (0+j) v)(hs:Nt w [] a L)(ho:Nt w [] oa OL)(hr:(rdI x).2=0)(hO:pln OL=Qw x x.n)(hi:Yy (⟨co,mo,rm,pln L⟩:Tre)=0)(hl9:0<=lsn/\lsn<=2147483647)(hal:x.al.length<=900000)(hkk:k+1<L.length):CR 160 #[.int .i64 ((k+1:Nat):Int),.pointer (some ⟨b6,0,none⟩),.pointer (some ⟨b5,0,none⟩),.pointer (some ⟨b7,0,none⟩),.pointer (some ⟨b4,0,none⟩)] w (.string (bs (chB x (pln OL) (pln L) lsn (k+1)))):=by
 have hr9:=ZM hi
 have h09:0<L.length:=by have:=hr9.1;rwa[show(⟨co,mo,rm,pln L⟩:Tre).ns=pln L from rfl,Qe]at this
 have hn9:=Qam hi hr9.1 hr9.2.1
 have hp9:NdP (nth L 0).pl:=by have hq:=hn9.1.ndp (by have:=hn9.2.1;omega);rwa[show(⟨co,mo,rm,pln L⟩:Tre).ns=pln L from rfl,Qu]at hq
 have hbb:(0<=co/\co<256)/\(0<=mo/\mo<256)/\0<=rm/\rm<256:=by have h1:=hr9.2.2.1;have h2:=hr9.2.2.2.1;have h3:Qv co=0:=h1;have h4:XF mo rm=0:=h2;unfold Qv at h3;unfold XF at h4;split at h3;(split at h4;omega;cases h4);cases h3
 have hL120:L.length<=120:=by have:=hn9.2.2.2.2;rwa[show(⟨co,mo,rm,pln L⟩:Tre).ns=pln L from rfl,Qe]at this
 obtain⟨h0r,htr,her,hr1,hbr⟩:=Qaw hr
 have hOl:OL.length=x.n+1:=by rw[<-Qe,hO];exact YN hr1 _
 have hn8:x.n=x.al.length/512:=rfl
 refine eN5 Tryz.func160 Tryz.ntmps160 ?_
 refine aU9 ?_
 refine o_q (Qb rfl rfl Y0 (hb6)) rfl (aU ?_)
 refine o_p (Qa rfl rfl rfl QT ((k+1)) om om (Rw.some hs.1 om)) rfl (aU ?_)
 refine o_q (Qb rfl rfl QdH ((hs.1.rdj (i:=k+1) 0 om rfl))) rfl (aU3 ?_)
 refine sCd rfl (λh1=>?_) λh1=>?_
 ·have hu1:¬(nth (pln L) (k+1)).us=true:=by rw[Qu];have hq:=h1;first|exact hq|(intro h9;have h8:(nth L (k+1)).us=true:=h9;rw[h8]at hq;cases hq)
  have hnw:(chB x (pln OL) (pln L) lsn (k+1))=Qd3:=by unfold chB;rw[if_neg (Nat.succ_ne_zero k),if_neg hu1]
  refine aU2 ?_
  refine oCq rfl (λw1 h1=>c78 w1) (aU2 ?_)
  exact rV (h:=by rw[hnw];rfl)
 have hk1:k+1<L.length:=om
 have hu1:(nth (pln L) (k+1)).us=true:=by rw[Qu];have hq:=h1;first|exact hq|simpa using hq
 have hn1:=Qam hi (i:=k+1) (by rw[show(⟨co,mo,rm,pln L⟩:Tre).ns=pln L from rfl,Qe];omega) hu1
 have hq1:NdP (nth L (k+1)).pl:=by have hq:=hn1.1.ndp (by have:=hn1.2.1;omega);rwa[show(⟨co,mo,rm,pln L⟩:Tre).ns=pln L from rfl,Qu]at hq
 have hcb1:(Q9 (nth L (k+1)).pl).length<=448:=by have hq:=hn1.2.2.1;rw[show(⟨co,mo,rm,pln L⟩:Tre).ns=pln L from rfl,Qu]at hq;omega
 have hsz1:(nth L (k+1)).es.length<=100000/\(nth L (k+1)).cs.length<=100000:=by have h1:=hn1.2.1;have h2:=hn1.1.cl;rw[show(⟨co,mo,rm,pln L⟩:Tre).ns=pln L from rfl,Qu]at h1 h2;have h3:(nth L (k+1)).es.length<=4:=h1;have h4:(nth L (k+1)).cs.length=0\/(nth L (k+1)).cs.length=(nth L (k+1)).es.length+1:=h2;omega
 refine aU4 ?_
 refine o_q (Qb rfl rfl Y0 (hb5)) rfl (aU3 ?_)
 refine oOr 8 25 33 rfl
  (λhg2 _=>by
   refine aU3 ?_
   refine o_q (Qb rfl rfl Y0 (hb5)) rfl (aU3 ?_)
   refine o_p (Qa rfl rfl rfl QT ((k+1)) om om (Rw.some ho.1 om)) rfl (aU3 ?_)
   refine o_q (Qb rfl rfl QdH ((ho.1.rdj (i:=k+1) 0 om rfl))) rfl (aU2 ?_)
   exact oJf 8 33)
  (λhg4 _=>by
   refine aU7 ?_
   exact oJt 8 33) ?_
 refine aU2 ?_
 refine sCd rfl (λh6=>?_) λh6=>?_
 ·have hnw:(chB x (pln OL) (pln L) lsn (k+1))=ZL (nth L (k+1)).pl ((k+1:Nat):Int) lsn 1:=by unfold chB;rw[if_neg (Nat.succ_ne_zero k),if_pos hu1,if_pos,<-Qu];rw[Qe,Qu];have hq:=h6;rcases hq with hq|hq;exact .inl om;exact .inr (λh9=>by have h8:(nth OL (k+1)).us=true:=h9;rw[h8]at hq;cases hq)
  refine aU ?_
  refine Qz [] QJ ?_
  refine dFa 0 ?_
  refine dQ 1 [] rfl (Qb rfl rfl Y0 (hb6)) (dP 2 ?_)
  refine dV 3 rfl (Qa rfl rfl rfl QT ((k+1)) om om (Rw.some hs.1 om)) (dQ 4 [] rfl (Qs _ rfl rfl Xo rfl (Rw.rd hs.1 om)) (dQ 5 [] rfl (Qb rfl rfl Zg (hb7)) (dV 6 rfl (QE (cs:=[_,_,_,_,_]) rfl rfl QcK Qak rfl) (dP 7 ?_))))
  refine dQ 8 [] rfl (Qr rfl QrT rfl (λw1 h1=>c79 w1 (nth L (k+1)) ((k+1:Nat):Int) lsn 1 ((hs.es hk1).later h1.nil) ((hs.cs hk1).later h1.nil) hq1 hcb1 om om om)) (dP 9 ?_)
  refine dNi ?_
  exact rV (h:=by rw[hnw];rfl)
 have hq8:=h6
 have hko:k+1<OL.length:=by have hq:=hq8.1;omega
 have huo:(nth OL (k+1)).us=true:=by have hq:=hq8.2;first|exact hq|simpa using hq
 have hon:nth (Qw x x.n) (k+1)=(nth OL (k+1)).pl:=by rw[<-hO];exact Q0 hko
 have hch:=(Qmp hr (i:=k+1) om).1 (by rw[hon];exact huo)
 have hlt:=Qid hch.2.1
 have hbl9:1<=k+1/\(k+1)*512<=x.al.length:=om
 have hb2:=QcO (x.blk (k+1)) 40
 have hsz2:(nth OL (k+1)).es.length<=100000/\(nth OL (k+1)).cs.length<=100000:=by have h9:=Qbb (QdU h0r).2.2.1 x.n _ (Qy (i:=k+1) (by rw[YN hr1];omega));rw[hon]at h9;have h1:=h9.es;have h2:=h9.cs;have h3:(nth OL (k+1)).es.length<=255:=h1;have h4:(nth OL (k+1)).cs.length<=256:=h2;omega
 have hnot:¬((pln OL).length<=k+1\/¬(nth (pln OL) (k+1)).us=true):=by rw[Qe,Qu];intro h9;rcases h9 with h9|h9;omega;exact h9 huo
 refine aU ?_
 refine Qz [] QJ ?_
 refine dFa 0 ?_
 refine dQ 1 [] rfl (Qb rfl rfl Y0 (hb5)) (dP 2 ?_)
 refine dV 3 rfl (Qa rfl rfl rfl QT ((k+1)) om om (Rw.some ho.1 om)) (dQ 4 [] rfl (Qs _ rfl rfl Xo rfl (Rw.rd ho.1 om)) (dFa 5 ?_))
 refine dQ 6 [] rfl (Qb rfl rfl Y0 (hb6)) (dP 7 ?_)
 refine dV 8 rfl (Qa rfl rfl rfl QT ((k+1)) om om (Rw.some hs.1 om)) (dQ 9 [] rfl (Qs _ rfl rfl Xo rfl (Rw.rd hs.1 om)) (dQ 10 [] rfl (Qr rfl QvE rfl (λw1 h1=>c161 w1 (nth OL (k+1)) (nth L (k+1)) ((ho.es hko).later h1.nil) ((ho.cs hko).later h1.nil) ((hs.es hk1).later h1.nil) ((hs.cs hk1).later h1.nil) hsz2 hsz1)) (dP 11 ?_)))
 refine dNi ?_
 refine sCd rfl (λh7=>?_) λh7=>?_
 ·have hnw:(chB x (pln OL) (pln L) lsn (k+1))=x.blk (k+1):=by unfold chB;rw[if_neg (Nat.succ_ne_zero k),if_pos hu1,if_neg hnot,if_pos];rw[Qu,Qu];exact h7
  refine aU ?_
  refine Qj (L':=[(0,_),(1,_),(3,_),(4,_),(6,_)]) aSx (λ_ h=>h) ?_
  refine aU ?_
  refine o_q (Qs _ rfl rfl Yn rfl hb4) rfl (aU ?_)
  refine oCq rfl (λw1 h1=>c64 w1 x c2 m2 r2 ra rn rc (k+1) om hbl9) (aU2 ?_)
  exact rV (h:=by rw[hnw];rfl)
 have hnw:(chB x (pln OL) (pln L) lsn (k+1))=ZL (nth L (k+1)).pl ((k+1:Nat):Int) lsn ((ub2 (x.blk (k+1)) 40%65535+1:Nat):Int):=by unfold chB;rw[if_neg (Nat.succ_ne_zero k),if_pos hu1,if_neg hnot,if_neg,<-Qu];rw[Qu,Qu];exact h7
 refine aU3 ?_
 refine Qj (L':=[(0,_),(1,_),(3,_),(4,_),(6,_)]) aSx (λ_ h=>h) ?_
 refine aU ?_
 refine o_q (Qs _ rfl rfl Yn rfl hb4) rfl (aU ?_)
 refine oCq rfl (λw1 h1=>c64 w1 x c2 m2 r2 ra rn rc (k+1) om hbl9) (oCq rfl (λw1 h1=>by have h9:=c130 w1 (x.blk (k+1)) om;rw[QfF hlt.1 hlt.2.1]at h9;exact h9) (QbK ?_))
 refine oCq rfl (λw1 h1=>c162 w1 (ub2 (x.blk (k+1)) 40) om) (aU6 ?_)
 refine Qz [] QJ ?_
 refine dFa 0 ?_
 refine dQ 1 [] rfl (Qb rfl rfl Y0 (hb6)) (dP 2 ?_)
 refine dV 3 rfl (Qa rfl rfl rfl QT ((k+1)) om om (Rw.some hs.1 om)) (dQ 4 [] rfl (Qs _ rfl rfl Xo rfl (Rw.rd hs.1 om)) (dQ 5 [] rfl (Qb rfl rfl Zg (hb7)) (dP 6 ?_)))
 refine dV 7 rfl (QE (cs:=[_,_,_,_,_]) rfl rfl QcK Qak rfl) (dP 8 ?_)
 refine dQ 9 [] rfl (Qr rfl QrT rfl (λw1 h1=>c79 w1 (nth L (k+1)) ((k+1:Nat):Int) lsn ((ub2 (x.blk (k+1)) 40%65535+1:Nat):Int) ((hs.es hk1).later h1.nil) ((hs.cs hk1).later h1.nil) hq1 hcb1 om om om)) (dP 10 ?_)
 refine dNi ?_
 exact rV (h:=by rw[hnw];rfl)
theorem Qv3:QK Tryz.prog 160=true:=by kernel_rfl
set_option maxHeartbeats 2000000 in
theorem c101(w:World)(x:Ixs)(c2 m2 r2:Int)(ra:Option Addr)(rn rc:Nat)(co mo rm:Int)(a:Option Addr)(cap:Nat)(L:List LNd)(co5 mo5 rm5:Int)(oa:Option Addr)(oc:Nat)(OL:List LNd)(lsn:Int)(hs:Nt w [] a L)(ho:Nt w [] oa OL)(hr:(rdI x).2=0)(hO:pln OL=Qw x x.n)(hi:Yy (⟨co,mo,rm,pln L⟩:Tre)=0)(hl9:0<=lsn/\lsn<=2147483647)(hal:x.al.length<=900000)(hcap:L.length<=cap)(hc9:cap<=maxLen):CE 101 #[.agg #[.string (bs x.ro),.string (bs x.al),.string (bs x.bm),.int .i64 c2,.int .i64 m2,.int .i64 r2,.slice ra rn rc],.agg #[.int .i64 co5,.int .i64 mo5,.int .i64 rm5,.slice oa OL.length oc],.agg #[.int .i64 co,.int .i64 mo,.int .i64 rm,.slice a L.length cap],.int .i64 lsn] w [] (λg:Option Addr×Nat=>.tuple #[.agg #[.string (bs (chX x (pln OL) (⟨co,mo,rm,pln L⟩:Tre) lsn).ro),.string (bs (chX x (pln OL) (⟨co,mo,rm,pln L⟩:Tre) lsn).al),.string (bs (chX x (pln OL) (⟨co,mo,rm,pln L⟩:Tre) lsn).bm)],.slice g.1 (chL x (chX x (pln OL) (⟨co,mo,rm,pln L⟩:Tre) lsn)).length g.2]) (λg=>True) λg=>[.own (.slice g.1 ((chL x (chX x (pln OL) (⟨co,mo,rm,pln L⟩:Tre) lsn))).length g.2) 3 1 ((chL x (chX x (pln OL) (⟨co,mo,rm,pln L⟩:Tre) lsn))).length (((chL x (chX x (pln OL) (⟨co,mo,rm,pln L⟩:Tre) lsn))).map λi:Nat=>Value.int .i64 (i:Int))]:=by
 have hr9:=ZM hi
 have h09:0<L.length:=by have:=hr9.1;rwa[show(⟨co,mo,rm,pln L⟩:Tre).ns=pln L from rfl,Qe]at this
 have hn9:=Qam hi hr9.1 hr9.2.1
 have hp9:NdP (nth L 0).pl:=by have hq:=hn9.1.ndp (by have:=hn9.2.1;omega);rwa[show(⟨co,mo,rm,pln L⟩:Tre).ns=pln L from rfl,Qu]at hq
 have hbb:(0<=co/\co<256)/\(0<=mo/\mo<256)/\0<=rm/\rm<256:=by have h1:=hr9.2.2.1;have h2:=hr9.2.2.2.1;have h3:Qv co=0:=h1;have h4:XF mo rm=0:=h2;unfold Qv at h3;unfold XF at h4;split at h3;(split at h4;omega;cases h4);cases h3
 have hL120:L.length<=120:=by have:=hn9.2.2.2.2;rwa[show(⟨co,mo,rm,pln L⟩:Tre).ns=pln L from rfl,Qe]at this
 have hn8:x.n=x.al.length/512:=rfl
 have hyn:(chX x (pln OL) (⟨co,mo,rm,pln L⟩:Tre) lsn).al.length=512*(L.length-1)/\(chX x (pln OL) (⟨co,mo,rm,pln L⟩:Tre) lsn).n=L.length-1:=by have h9:=QtS (lsn:=lsn) hr hi hl9;rw[<-hO,show(⟨co,mo,rm,pln L⟩:Tre).ns=pln L from rfl,Qe]at h9;exact h9
 obtain⟨hya,hyn⟩:=hyn
 have hbk9:∀i,(chB x (pln OL) (pln L) lsn i).length<=512:=λi=>by have h9:=(Qaq (lsn:=lsn) hr hi hl9).len i;rw[<-hO]at h9;exact Nat.le_of_eq h9
 refine eN4 Tryz.func101 Tryz.ntmps101 ?_
 refine aU2 ?_
 refine oBx λb1 _=>?_
 refine oBx λb2 _=>?_
 refine oBx λb3 _=>?_
 refine oBx λb4 _=>?_
 refine oAl (λb5 _=>?_) Qag
 refine aU6 ?_
 refine oCq rfl (λw1 h1=>c76 w1 co mo rm a cap L 160 #[.pointer (some ⟨b3,0,none⟩),.pointer (some ⟨b2,0,none⟩),.pointer (some ⟨b4,0,none⟩),.pointer (some ⟨b1,0,none⟩)] (chB x (pln OL) (pln L) lsn) (hs.later h1.nil) h09 om hp9 hcap hc9 hbk9 Qv3 (λk w2 hk h2=>c160 w2 b3 b2 b4 b1 x c2 m2 r2 ra rn rc co mo rm a cap L oa oc OL lsn k ((h1.call h2).rd_blk (Mc:=[]) aPk rfl (by simp)) ((h1.call h2).rd_blk (Mc:=[]) aPk rfl (by simp)) ((h1.call h2).rd_blk (Mc:=[]) aPk rfl (by simp)) (λj v hv=>by rw[Nat.zero_add];exact(h1.call h2).rd_blk (Mc:=[]) aPk hv (by simp)) (hs.later (h1.call h2).nil) (ho.later (h1.call h2).nil) hr hO hi hl9 hal hk)) (Qm (show _=Value.agg #[.string (bs (chX x (pln OL) (⟨co,mo,rm,pln L⟩:Tre) lsn).ro),.string (bs (chX x (pln OL) (⟨co,mo,rm,pln L⟩:Tre) lsn).al),.string (bs (chX x (pln OL) (⟨co,mo,rm,pln L⟩:Tre) lsn).bm)]from by rw[show(chX x (pln OL) (⟨co,mo,rm,pln L⟩:Tre) lsn).al=YB (chB x (pln OL) (pln L) lsn) (L.length-1)from by(show YB _ ((pln L).length-1)=_);rw[Qe]];rfl) (oAl (λb6 _=>?_) Qag))
 refine aU5 ?_
 refine o_p (QE (cs:=[_,_,_,_,_,_,_]) rfl rfl Qqz Qb2 rfl) rfl (oAl (λb7 _=>?_) Qb2)
 refine Qay ?_
 refine Qj (L':=[(4,_),(8,_),(9,_),(10,_),(11,_),(12,_),(13,_)]) aSx (λ_ h=>h) ?_
 refine Qt (α:=Nat×Option Addr×Nat) [12,13,19,20,21,22,23,24,25,26,27,28,29,30,31,32,33,34,35,36,37,38,39,40,41,42,43,44,45,46,47,48,49,50] (λy=>[(13,.int .i64 ((y.1+1:Nat):Int)),(12,.slice y.2.1 (ZN x (chX x (pln OL) (⟨co,mo,rm,pln L⟩:Tre) lsn) y.1).length y.2.2)]) (λy=>HS w [] [.own (.slice y.2.1 ((ZN x (chX x (pln OL) (⟨co,mo,rm,pln L⟩:Tre) lsn) y.1)).length y.2.2) 3 1 ((ZN x (chX x (pln OL) (⟨co,mo,rm,pln L⟩:Tre) lsn) y.1)).length (((ZN x (chX x (pln OL) (⟨co,mo,rm,pln L⟩:Tre) lsn) y.1)).map λi:Nat=>Value.int .i64 (i:Int)),.blk b1 108 7 [.string (bs x.ro),.string (bs x.al),.string (bs x.bm),.int .i64 c2,.int .i64 m2,.int .i64 r2,.slice ra rn rc],.blk b6 23 3 [.string (bs (chX x (pln OL) (⟨co,mo,rm,pln L⟩:Tre) lsn).ro),.string (bs (chX x (pln OL) (⟨co,mo,rm,pln L⟩:Tre) lsn).al),.string (bs (chX x (pln OL) (⟨co,mo,rm,pln L⟩:Tre) lsn).bm)],.blk b7 108 7 [.string (bs (chX x (pln OL) (⟨co,mo,rm,pln L⟩:Tre) lsn).ro),.string (bs (chX x (pln OL) (⟨co,mo,rm,pln L⟩:Tre) lsn).al),.string (bs (chX x (pln OL) (⟨co,mo,rm,pln L⟩:Tre) lsn).bm),.int .i64 0,.int .i64 0,.int .i64 0,.slice none 0 0],.blk b5 23 3 [.string (bs []),.string (bs []),.string (bs [])]]) (λy=>y.1<=(max x.n (chX x (pln OL) (⟨co,mo,rm,pln L⟩:Tre) lsn).n)) (λy=>(max x.n (chX x (pln OL) (⟨co,mo,rm,pln L⟩:Tre) lsn).n)-y.1) (0,none,0) (Nat.zero_le _) aSx (λw h=>(h.own_nil 3 1).ent aEt) (λ⟨k,ga,gc⟩hk1=>?_)
 dsimp only
 simp only[]at hk1
 have hkl:=Qej x (chX x (pln OL) (⟨co,mo,rm,pln L⟩:Tre) lsn) k
 refine aU2 ?_
 refine Qz [] QJ ?_
 refine dP 0 ?_
 refine dLn 1 [] ?_
 refine dQ 2 [] rfl (Qr rfl QgN rfl (λw1 h1=>Qlh w1 x c2 m2 r2 ra rn rc om)) (dLn 3 [] ?_)
 refine dQ 4 [] rfl (Qr rfl QgN rfl (λw1 h1=>Qlh w1 (chX x (pln OL) (⟨co,mo,rm,pln L⟩:Tre) lsn) 0 0 0 none 0 0 om)) (dV 5 rfl (QdT rfl rfl rfl ) (dP 6 ?_))
 refine dNi ?_
 refine sCd rfl (λh8=>?_) λh8=>?_
 ·have hk:k<(max x.n (chX x (pln OL) (⟨co,mo,rm,pln L⟩:Tre) lsn).n):=by have hq:=h8;omega
  refine aU4 ?_
  refine ZR (α:=Bool) [28,29,30,31,32,33,34,35,36,37,38,39,40,41,42,43,44,45,46] (λu=>[(46,.bool u)]) (λu=>u=chD x (chX x (pln OL) (⟨co,mo,rm,pln L⟩:Tre) lsn) (k+1)) ?_ ?_
  ·skip
   refine Qz [] QJ ?_
   refine dP 0 ?_
   refine dLn 1 [] ?_
   refine dQ 2 [] rfl (Qr rfl QgN rfl (λw1 h1=>Qlh w1 x c2 m2 r2 ra rn rc om)) (dP 3 ?_)
   refine dP 4 ?_
   apply Xy 32
   ·exact rfl
   ·intro hg9
    have hs10:=hg9;try simp only[dT]at hs10
    refine dOf 5 32 hg9 ?_
    refine dOf 6 32 hg9 ?_
    refine dOf 7 32 hg9 ?_
    refine dOf 8 32 hg9 ?_
    refine dV 9 rfl (Xv rfl rfl hg9 rfl) (dP 10 ?_)
    apply Xy 38
    ·exact rfl
    ·intro hg11
     have hs12:=hg11;skip
     refine dOf 11 38 hg11 ?_
     refine dOf 12 38 hg11 ?_
     refine dOf 13 38 hg11 ?_
     refine dOf 14 38 hg11 ?_
     refine dOf 15 38 hg11 ?_
     refine dOf 16 38 hg11 ?_
     refine dOf 17 38 hg11 ?_
     refine dV 18 rfl (Xv rfl rfl hg11 rfl) (dNi ?_)
     exact Qo true (by rw[eq_comm];unfold chD;simp only[Bool.or_eq_true,decide_eq_true_eq];omega) aSx (λw h=>h.ent aEt)
    intro hg13
    have hs14:=hg13;skip
    refine dQo 11 38 [] hg13 rfl rfl rfl (Zy rfl rfl Yn aPk rfl) ?_
    refine dPo 12 38 hg13 ?_
    refine dQo 13 38 [] hg13 rfl rfl rfl (Qr rfl Qk8 rfl (λw1 h1=>c64 w1 x c2 m2 r2 ra rn rc (k+1) om (by first|omega|(exfalso;simp_all;done)))) ?_
    refine dQo 14 38 [] hg13 rfl rfl rfl (Zy rfl rfl Yn aPk rfl) ?_
    refine dPo 15 38 hg13 ?_
    refine dQo 16 38 [] hg13 rfl rfl rfl (Qr rfl Qk8 rfl (λw1 h1=>c64 w1 (chX x (pln OL) (⟨co,mo,rm,pln L⟩:Tre) lsn) 0 0 0 none 0 0 (k+1) om (by first|omega|(exfalso;simp_all;done)))) ?_
    refine dPo 17 38 hg13 ?_
    refine dV 18 rfl (Q8 rfl rfl hg13 rfl) (dNi ?_)
    exact Qo (!decide (x.blk (k+1)=(chX x (pln OL) (⟨co,mo,rm,pln L⟩:Tre) lsn).blk (k+1))) (by exfalso;simp_all) aSx (λw h=>h.ent aEt)
   intro hg15
   have hs16:=hg15;try simp only[dN]at hs16
   refine dPo 5 32 hg15 ?_
   refine dQo 6 32 [] hg15 rfl rfl rfl (Zy rfl rfl Yn aPk rfl) ?_
   refine dQo 7 32 [] hg15 rfl rfl rfl (Qr rfl QgN rfl (λw1 h1=>Qlh w1 (chX x (pln OL) (⟨co,mo,rm,pln L⟩:Tre) lsn) 0 0 0 none 0 0 om)) ?_
   refine dPo 8 32 hg15 ?_
   refine dV 9 rfl (Q8 rfl rfl hg15 rfl) (dP 10 ?_)
   apply Xy 38
   ·exact rfl
   ·intro hg17
    have hs18:=hg17;try simp only[dT]at hs18
    refine dOf 11 38 hg17 ?_
    refine dOf 12 38 hg17 ?_
    refine dOf 13 38 hg17 ?_
    refine dOf 14 38 hg17 ?_
    refine dOf 15 38 hg17 ?_
    refine dOf 16 38 hg17 ?_
    refine dOf 17 38 hg17 ?_
    refine dV 18 rfl (Xv rfl rfl hg17 rfl) (dNi ?_)
    exact Qo true (by rw[eq_comm];unfold chD;simp only[Bool.or_eq_true,decide_eq_true_eq];omega) aSx (λw h=>h.ent aEt)
   intro hg19
   have hs20:=hg19;try simp only[dN]at hs20
   refine dQo 11 38 [] hg19 rfl rfl rfl (Zy rfl rfl Yn aPk rfl) ?_
   refine dPo 12 38 hg19 ?_
   refine dQo 13 38 [] hg19 rfl rfl rfl (Qr rfl Qk8 rfl (λw1 h1=>c64 w1 x c2 m2 r2 ra rn rc (k+1) om (by first|omega|(exfalso;simp_all;done)))) ?_
   refine dQo 14 38 [] hg19 rfl rfl rfl (Zy rfl rfl Yn aPk rfl) ?_
   refine dPo 15 38 hg19 ?_
   refine dQo 16 38 [] hg19 rfl rfl rfl (Qr rfl Qk8 rfl (λw1 h1=>c64 w1 (chX x (pln OL) (⟨co,mo,rm,pln L⟩:Tre) lsn) 0 0 0 none 0 0 (k+1) om (by first|omega|(exfalso;simp_all;done)))) ?_
   refine dPo 17 38 hg19 ?_
   refine dV 18 rfl (Q8 rfl rfl hg19 rfl) (dNi ?_)
   exact Qo (!decide (x.blk (k+1)=(chX x (pln OL) (⟨co,mo,rm,pln L⟩:Tre) lsn).blk (k+1))) (by unfold chD;rw[decide_eq_false (show¬x.n<k+1 by omega),decide_eq_false (show¬(chX x (pln OL) (⟨co,mo,rm,pln L⟩:Tre) lsn).n<k+1 by omega)];simp) aSx (λw h=>h.ent aEt)
  intro u hu
  refine sCd rfl (λh21=>?_) λh21=>?_
  ·have hst:(ZN x (chX x (pln OL) (⟨co,mo,rm,pln L⟩:Tre) lsn) (k+1))=(ZN x (chX x (pln OL) (⟨co,mo,rm,pln L⟩:Tre) lsn) k)++[k+1]:=by rw[ZN,if_pos];rw[<-hu];exact h21
   refine aU3 ?_
   refine o_h (Qk (cs:=[_]) rfl rfl QW Qcf rfl rfl rfl) rfl (λb22 _=>o_h (Xe [_] rfl rfl rfl QW Tryz.underlying28 Qcf rfl aPk (Xg aPk) rfl (by intro u hu;simp only[List.mem_cons,List.mem_nil_iff,or_false]at hu;subst hu;rfl) om (by simp only[maxLen];omega)) rfl (λb23 _=>aT6 ?_))
   refine Qm (show _=Value.int .i64 ((k+1+1:Nat):Int)from congrArg (Value.int .i64) om) (aU2 ?_)
   exact QO (k+1,b23.1,b23.2) (by(try simp only[]);omega) (by(try simp only[]);omega) (by dsimp only;rw[hst];simp only[List.length_append,List.length_singleton];exact aSx) (λw h=>by have h2:=h;dsimp only;rw[hst];simp only[List.length_append,List.length_singleton,List.map_append,List.map_cons,List.map_nil];exact h2.ent aEt)
  have hst:(ZN x (chX x (pln OL) (⟨co,mo,rm,pln L⟩:Tre) lsn) (k+1))=(ZN x (chX x (pln OL) (⟨co,mo,rm,pln L⟩:Tre) lsn) k):=by rw[ZN,if_neg];rw[<-hu];have hq:=h21;simp[hq]
  refine aT5 ?_
  refine Qm (show _=Value.int .i64 ((k+1+1:Nat):Int)from congrArg (Value.int .i64) om) (aU2 ?_)
  exact QO (k+1,ga,gc) (by(try simp only[]);omega) (by(try simp only[]);omega) (by dsimp only;rw[hst];exact aSx) (λw h=>by dsimp only;rw[hst];exact h.ent aEt)
 obtain rfl:k=(max x.n (chX x (pln OL) (⟨co,mo,rm,pln L⟩:Tre) lsn).n):=by have hq:=h8;omega
 refine Qh rfl ?_
 refine aU7 ?_
 exact Ql (rs:=[.cell 8 23,.tmp 9]) rfl (.cell rfl Qhd aPk rfl (.tmp rfl (.nil))) (λw' h'=>⟨(ga,gc),rfl,trivial,h'.ent aEt⟩)
instance:TFn Tryz.prog 101:=⟨by kernel_rfl⟩
def cgX(x:Ixs)(t:Tre)(lsn:Int):Ixs:=if chE x t lsn=0 then chX x (rdI x).1.1.ns t lsn else⟨[],[],[]⟩
def cgL(x:Ixs)(t:Tre)(lsn:Int):List Nat:=if chE x t lsn=0 then chL x (chX x (rdI x).1.1.ns t lsn)else[]
theorem Qsb{E B:Int}{u v:Bool}:Xp [.int .i64 (Xp [.int .i64 E,.int .i64 B]),.int .i64 (bif u then 0 else 13),.int .i64 (bif v then 0 else 2)]=if E=0 then if B=0 then if u=true then if v=true then 0 else 2 else 13 else B else E:=by
  have h:Xp [.int .i64 E,.int .i64 B]=if E=0 then B else E:=by simp only[Xp];grind
  rw[h];cases u<;>cases v<;>simp only[Xp]<;>grind
theorem QrG{x:Ixs}{t:Tre}{lsn:Int}(h:chE x t lsn=0):(rdI x).2=0/\Yy t=0/\(0<=lsn/\lsn<=2147483647)/\(t.co=(rdI x).1.1.co/\t.mo=(rdI x).1.1.mo)/\t.rm=(rdI x).1.1.rm:=by
  unfold chE at h
  grind
set_option maxHeartbeats 2000000 in
theorem c34(w:World)(x:Ixs)(co mo rm:Int)(a:Option Addr)(cap:Nat)(L:List LNd)(lsn:Int)(hl:x.al.length<=900000)(hr5:x.ro.length<=1000000)(hb:x.bm.length<=100000)(hs:Nt w [] a L)(hB:Bd (pln L))(hcap:L.length<=cap)(hc9:cap<=maxLen)(hkl:∀i,i<L.length->∀x∈(nth L i).es,x.key.length<=1000000/\x.val.length<=1000000):CE 34 #[.agg #[.string (bs x.ro),.string (bs x.al),.string (bs x.bm)],.agg #[.int .i64 co,.int .i64 mo,.int .i64 rm,.slice a L.length cap],.int .i64 lsn] w [] (λg:Option Addr×Nat=>.tuple #[.agg #[.string (bs (cgX x (⟨co,mo,rm,pln L⟩:Tre) lsn).ro),.string (bs (cgX x (⟨co,mo,rm,pln L⟩:Tre) lsn).al),.string (bs (cgX x (⟨co,mo,rm,pln L⟩:Tre) lsn).bm)],.slice g.1 (cgL x (⟨co,mo,rm,pln L⟩:Tre) lsn).length g.2,.int .i64 (chE x (⟨co,mo,rm,pln L⟩:Tre) lsn)]) (λg=>True) λg=>[.own (.slice g.1 ((cgL x (⟨co,mo,rm,pln L⟩:Tre) lsn)).length g.2) 3 1 ((cgL x (⟨co,mo,rm,pln L⟩:Tre) lsn)).length (((cgL x (⟨co,mo,rm,pln L⟩:Tre) lsn)).map λi:Nat=>Value.int .i64 (i:Int))]:=by
 have hFV:Xp [.int .i64 (Xp [.int .i64 (rdI x).2,.int .i64 (Yy (⟨co,mo,rm,pln L⟩:Tre))]),.int .i64 (bif ((decide (co=(rdI x).1.1.co)&&decide (mo=(rdI x).1.1.mo))&&decide (rm=(rdI x).1.1.rm))then 0 else 13),.int .i64 (bif (decide (0<=lsn)&&decide (lsn<=2147483647))then 0 else 2)]=chE x (⟨co,mo,rm,pln L⟩:Tre) lsn:=by rw[Qsb];unfold chE;simp only[Bool.and_eq_true,decide_eq_true_eq]
 refine eN3 Tryz.func34 Tryz.ntmps34 ?_
 refine aU2 ?_
 refine oBx λb1 _=>?_
 refine oBx λb2 _=>?_
 refine oAl (λb3 _=>?_) Qag
 refine aU6 ?_
 refine oCh rfl (λw1 h1=>c82 w1 x hl hr5 hb) (λ⟨⟨⟨oa,oc⟩,OL⟩,⟨c2,m2,r2⟩,⟨ra,rn,rc⟩⟩hOL=>aU5 ?_)
 refine oAl (λb4 _=>?_) Qb2
 refine oAl (λb5 _=>?_) XN
 refine aU9 ?_
 refine oCq rfl (λw1 h1=>c75 w1 co mo rm a cap L (hs.later h1.nil) hB hkl) (o_h (Qk (cs:=[_,_]) rfl rfl Yq ZY rfl rfl rfl) rfl (λb6 _=>oCq rfl (λw1 h1=>f59 h1 aPk (by rfl) (by rfl) (by decide)) (YR ?_)))
 refine XP 6 33 39 rfl
  (λhg7 _=>by
   refine YR ?_
   exact oJt 6 39)
  (λhg9 _=>by
   refine aU5 ?_
   exact oJf 6 39) ?_
 refine aU ?_
 refine XP 6 40 46 rfl
  (λhg11 _=>by
   refine YR ?_
   exact oJt 6 46)
  (λhg13 _=>by
   refine aU5 ?_
   exact oJf 6 46) ?_
 refine aU4 ?_
 refine Qj (L':=[(2,_),(4,_),(6,_),(7,_),(8,_),(9,_),(10,_),(12,_),(13,_)]) aSx (λ_ h=>h) ?_
 refine aU3 ?_
 refine oCq rfl (λw1 h1=>c60 w1 _ _) (aU ?_)
 refine oCq rfl (λw1 h1=>c100 w1 _) (o_h (Qk (cs:=[_,_,_]) rfl rfl Yq ZY rfl rfl rfl) rfl (λb15 _=>oCq rfl (λw1 h1=>f59 h1 aPk (by rfl) (by rfl) (by decide)) (Qm (show _=Value.int .i64 (chE x (⟨co,mo,rm,pln L⟩:Tre) lsn)from by rw[<-hFV]) (aU7 ?_))))
 refine sCd rfl (λh16=>?_) λh16=>?_
 ·have hE:¬chE x (⟨co,mo,rm,pln L⟩:Tre) lsn=0:=h16
  have hX:(cgX x (⟨co,mo,rm,pln L⟩:Tre) lsn)=⟨[],[],[]⟩:=if_neg hE
  have hL9:(cgL x (⟨co,mo,rm,pln L⟩:Tre) lsn)=[]:=if_neg hE
  refine aU2 ?_
  refine o_p (QE (cs:=[_,_,_]) rfl rfl Qne Qag rfl) rfl (aU5 ?_)
  exact Ql (rs:=[.cell 6 23,.tmp 7,.tmp 8]) rfl (.cell rfl Qhd aPk rfl (.tmp rfl (.tmp rfl (.nil)))) (λw' h'=>⟨(none,0),by rw[hX,hL9];rfl,trivial,by rw[hL9];exact(h'.nil.own_nil 3 1).ent aEt⟩)
 have hE:chE x (⟨co,mo,rm,pln L⟩:Tre) lsn=0:=h16
 obtain⟨hr,hi,hl9,_⟩:=QrG hE
 obtain⟨_,ht9,_⟩:=Qaw hr
 have hO:pln OL=Qw x x.n:=by have h9:pln OL=(rdI x).1.1.ns:=hOL;rw[h9,ht9];rfl
 have hX:(cgX x (⟨co,mo,rm,pln L⟩:Tre) lsn)=(chX x (pln OL) (⟨co,mo,rm,pln L⟩:Tre) lsn):=by unfold cgX;rw[if_pos hE,ht9,hO];rfl
 have hL9:(cgL x (⟨co,mo,rm,pln L⟩:Tre) lsn)=(chL x (chX x (pln OL) (⟨co,mo,rm,pln L⟩:Tre) lsn)):=by unfold cgL;rw[if_pos hE,ht9,hO];rfl
 refine aU7 ?_
 refine oCh rfl (λw1 h1=>c101 w1 x c2 m2 r2 ra rn rc co mo rm a cap L (rdI x).1.1.co (rdI x).1.1.mo (rdI x).1.1.rm oa oc OL lsn (hs.later h1.nil) (HS.nt h1 aPk) hr hO hi hl9 hl hcap hc9) (λ⟨la,lc⟩_=>aU3 ?_)
 refine oAl (λb17 _=>?_) Qag
 refine QbK ?_
 exact Ql (rs:=[.cell 6 23,.tmp 7,.tmp 8]) rfl (.cell rfl Qhd aPk rfl (.tmp rfl (.tmp rfl (.nil)))) (λw' h'=>⟨(la,lc),by rw[hX,hL9,hE];rfl,trivial,by rw[hL9];exact h'.ent aEt⟩)
set_option maxHeartbeats 4000000 in
theorem c36(w:World)(x:Ixs)(co mo rm:Int)(a:Option Addr)(cap:Nat)(L:List LNd)(co5 mo5 rm5:Int)(oa:Option Addr)(oc:Nat)(OL:List LNd)(lsn:Int)(hs:Nt w [] a L)(ho:Nt w [] oa OL)(hr:(rdI x).2=0)(hO:pln OL=Qw x x.n)(hi:Yy (⟨co,mo,rm,pln L⟩:Tre)=0)(hl9:0<=lsn/\lsn<=2147483647)(hal:x.al.length<=900000):CE 36 #[.agg #[.string (bs x.ro),.string (bs x.al),.string (bs x.bm)],.agg #[.int .i64 co5,.int .i64 mo5,.int .i64 rm5,.slice oa OL.length oc],.agg #[.int .i64 co,.int .i64 mo,.int .i64 rm,.slice a L.length cap],.int .i64 lsn] w [] (λg:Option Addr×Nat=>.tuple #[.agg #[.string (bs (chX x (Qw x x.n) (⟨co,mo,rm,pln L⟩:Tre) lsn).ro),.string (bs (chX x (Qw x x.n) (⟨co,mo,rm,pln L⟩:Tre) lsn).al),.string (bs (chX x (Qw x x.n) (⟨co,mo,rm,pln L⟩:Tre) lsn).bm)],.slice g.1 (chL x (chX x (Qw x x.n) (⟨co,mo,rm,pln L⟩:Tre) lsn)).length g.2]) (λg=>True) λg=>[.own (.slice g.1 ((chL x (chX x (Qw x x.n) (⟨co,mo,rm,pln L⟩:Tre) lsn))).length g.2) 3 1 ((chL x (chX x (Qw x x.n) (⟨co,mo,rm,pln L⟩:Tre) lsn))).length (((chL x (chX x (Qw x x.n) (⟨co,mo,rm,pln L⟩:Tre) lsn))).map λi:Nat=>Value.int .i64 (i:Int))]:=by
 have hr9:=ZM hi
 have h09:0<L.length:=by have:=hr9.1;rwa[show(⟨co,mo,rm,pln L⟩:Tre).ns=pln L from rfl,Qe]at this
 have hn9:=Qam hi hr9.1 hr9.2.1
 have hp9:NdP (nth L 0).pl:=by have hq:=hn9.1.ndp (by have:=hn9.2.1;omega);rwa[show(⟨co,mo,rm,pln L⟩:Tre).ns=pln L from rfl,Qu]at hq
 have hbb:(0<=co/\co<256)/\(0<=mo/\mo<256)/\0<=rm/\rm<256:=by have h1:=hr9.2.2.1;have h2:=hr9.2.2.2.1;have h3:Qv co=0:=h1;have h4:XF mo rm=0:=h2;unfold Qv at h3;unfold XF at h4;split at h3;(split at h4;omega;cases h4);cases h3
 have hL120:L.length<=120:=by have:=hn9.2.2.2.2;rwa[show(⟨co,mo,rm,pln L⟩:Tre).ns=pln L from rfl,Qe]at this
 obtain⟨h0r,htr,her,hr1,hbr⟩:=Qaw hr
 have hnl:=YN hr1 x.n
 have hOl:OL.length=x.n+1:=by rw[<-Qe,hO];exact hnl
 have hn8:x.n=x.al.length/512:=rfl
 have hyn:(chX x (Qw x x.n) (⟨co,mo,rm,pln L⟩:Tre) lsn).n=L.length-1:=by have h9:=(QtS (lsn:=lsn) hr hi hl9).2;rw[show(⟨co,mo,rm,pln L⟩:Tre).ns=pln L from rfl,Qe]at h9;exact h9
 refine eN4 Tryz.func36 Tryz.ntmps36 ?_
 refine aU2 ?_
 refine oBx λb1 _=>?_
 refine oBx λb2 _=>?_
 refine oBx λb3 _=>?_
 refine oAl (λb4 _=>?_) Qag
 refine aU3 ?_
 refine Qz [6] QJ ?_
 refine dLn 0 [[]] ?_
 refine dQ 1 [[]] rfl (Qr rfl QwT rfl (λw1 h1=>c32 w1 co mo rm a cap L (hs.later h1.nil) h09 hp9 hbb)) (dLn 2 [[]] ?_)
 refine dQ 3 [[]] rfl (Qr rfl QwN rfl (λw1 h1=>c85 w1 co mo rm a cap L (hs.later h1.nil) om)) (dV 4 rfl (QE (cs:=[_,_,_]) rfl rfl Qne Qag rfl) (dH 5 rfl (ZA rfl Qag) (λb5 _=>dBa ?_)))
 refine dSt 6 ?_ (hl:=(by simp only[Qf,List.length_set,List.length_cons,List.length_nil,List.length_map];omega))
 refine dTu [] ?_
 refine dNi ?_
 refine YR ?_
 refine Qt (α:=Nat×Option Addr×Nat) [11,12,13,14,15,21,22,23,24,25,26,27,28,29,30,31,32,33,34,35,36,37,38,39,40,41,42,43,44,45,46,47,48,49,50,51,52,53,54,55,56,57,58,59,60,61,62,63,64,65,66,67,68,69,70,71,72,73,74,75,76,77,78,79,80,81,82,83,84,85,86,87,88,89,90,91,92,93,94,95,96,97] (λy=>[(12,.int .i64 ((y.1+1:Nat):Int)),(11,.slice y.2.1 (ZN x (chX x (Qw x x.n) (⟨co,mo,rm,pln L⟩:Tre) lsn) y.1).length y.2.2)]) (λy=>HS w [] [.own (.slice y.2.1 ((ZN x (chX x (Qw x x.n) (⟨co,mo,rm,pln L⟩:Tre) lsn) y.1)).length y.2.2) 3 1 ((ZN x (chX x (Qw x x.n) (⟨co,mo,rm,pln L⟩:Tre) lsn) y.1)).length (((ZN x (chX x (Qw x x.n) (⟨co,mo,rm,pln L⟩:Tre) lsn) y.1)).map λi:Nat=>Value.int .i64 (i:Int)),.blk b5 23 3 [.string (bs (QaX (⟨co,mo,rm,pln L⟩:Tre))),.string (bs (YB (chB x (Qw x x.n) (pln L) lsn) (min y.1 (L.length-1)))),.string (bs (bmB (pln L)))],.blk b1 23 3 [.string (bs x.ro),.string (bs x.al),.string (bs x.bm)],.blk b2 37 4 [.int .i64 co5,.int .i64 mo5,.int .i64 rm5,.slice oa OL.length oc],.blk b3 37 4 [.int .i64 co,.int .i64 mo,.int .i64 rm,.slice a L.length cap],.blk b4 23 3 [.string (bs []),.string (bs []),.string (bs [])]]) (λy=>y.1+1<=(max OL.length L.length)) (λy=>(max OL.length L.length)-y.1) (0,none,0) (by(try simp only[]);omega) aSx (λw h=>(by have h2:=h.own_nil 3 1;exact h2.ent aEt)) (λ⟨k,ga,gc⟩hk0=>?_)
 dsimp only
 simp only[]at hk0
 have hkl:=Qej x (chX x (Qw x x.n) (⟨co,mo,rm,pln L⟩:Tre) lsn) k
 refine YR ?_
 refine o_p (QdT rfl rfl rfl ) rfl (aU2 ?_)
 refine sCd rfl (λh6=>?_) λh6=>?_
 ·have hk:k+1<(max OL.length L.length):=by have hq:=h6;omega
  have hol:=Qio (x:=x) (k+1) om
  have hol10:(Z3 x (k+1)).length<=512:=by rw[hol];split<;>omega
  have hnl9:=Qm7 hr hi hl9 (k+1)
  rw[show(⟨co,mo,rm,pln L⟩:Tre).ns=pln L from rfl,Qe]at hnl9
  have hnl10:(Qbu x (Qw x x.n) (pln L) lsn (k+1)).length<=512:=by rw[hnl9];split<;>omega
  have hcl:=Qbe (Qaq hr hi hl9).len (min k (L.length-1))
  have hne9:=Qvr (k:=k) hr hi hl9 (by rw[hnl,show(⟨co,mo,rm,pln L⟩:Tre).ns=pln L from rfl,Qe];omega)
  rw[show(⟨co,mo,rm,pln L⟩:Tre).ns=pln L from rfl]at hne9 hcl
  have hbn:=QrB (x:=x) (t:=(⟨co,mo,rm,pln L⟩:Tre)) (lsn:=lsn) (by rw[show(⟨co,mo,rm,pln L⟩:Tre).ns=pln L from rfl,Qe];exact h09) k
  rw[show(⟨co,mo,rm,pln L⟩:Tre).ns=pln L from rfl,Qe]at hbn
  refine Qay ?_
  refine oCq rfl (λw1 h1=>c66 w1 x om) (aU2 ?_)
  refine Qj (L':=[(0,_),(1,_),(2,_),(3,_),(4,_),(5,_),(6,_),(8,_),(9,_),(10,_),(11,_),(12,_),(13,_),(16,_),(17,_),(18,_),(19,_),(20,_),(35,_)]) aSx (λ_ h=>h) ?_
  refine ZR (α:=Unit) [13,36,37,38] (λ_=>[(13,.string (bs (Z3 x (k+1))))]) (λ_=>True) ?_ ?_
  ·skip
   refine sCd rfl (λh7=>?_) λh7=>?_
   ·have hos:(Z3 x (k+1))=x.blk (k+1):=if_pos (by have hq:=h7;omega)
    refine aU3 ?_
    refine oCq rfl (λw1 h1=>c69 w1 x (k+1) om om) (aU2 ?_)
    exact Qo () trivial (by rw[hos];exact aSx) (λw h=>h.ent aEt)
   have hos:(Z3 x (k+1))=[]:=if_neg (by have hq:=h7;omega)
   refine aU ?_
   exact Qo () trivial (by rw[hos];exact aSx) (λw h=>h.ent aEt)
  intro _ _
  refine QaU ?_
  refine ZR (α:=Unit) [14,15,44,45,46,47,48,49,50,51,52,53,54,55,56,57,58,59,60,61,62,63,64,65,66,67,68,69,70,71,72,73,74,75,76,77,78,79,80,81,82,83,84,85] (λ_=>[(14,.string (bs (Qbu x (Qw x x.n) (pln L) lsn (k+1))))]) (λ_=>True) ?_ ?_
  ·skip
   refine sCd rfl (λh8=>?_) λh8=>?_
   ·have hk1:k+1<L.length:=by have hq:=h8;omega
    refine aU2 ?_
    refine oCq rfl (λw1 h1=>c86 w1 512 (by decide)) (aU7 ?_)
    refine o_p (Qa rfl rfl rfl QT ((k+1)) om om (Rw.some hs.1 om)) rfl (aU ?_)
    refine o_q (Qb rfl rfl QdH ((hs.1.rdj (i:=k+1) 0 om rfl))) rfl (aU ?_)
    refine sCd rfl (λh9=>?_) λh9=>?_
    ·have hu1:(nth (pln L) (k+1)).us=true:=by rw[Qu];have hq:=h9;first|exact hq|simpa using hq
     have hn1:=Qam hi (i:=k+1) (by rw[show(⟨co,mo,rm,pln L⟩:Tre).ns=pln L from rfl,Qe];omega) hu1
     have hq1:NdP (nth L (k+1)).pl:=by have hq:=hn1.1.ndp (by have:=hn1.2.1;omega);rwa[show(⟨co,mo,rm,pln L⟩:Tre).ns=pln L from rfl,Qu]at hq
     have hcb1:(Q9 (nth L (k+1)).pl).length<=448:=by have hq:=hn1.2.2.1;rw[show(⟨co,mo,rm,pln L⟩:Tre).ns=pln L from rfl,Qu]at hq;omega
     have hsz1:(nth L (k+1)).es.length<=100000/\(nth L (k+1)).cs.length<=100000:=by have h1:=hn1.2.1;have h2:=hn1.1.cl;rw[show(⟨co,mo,rm,pln L⟩:Tre).ns=pln L from rfl,Qu]at h1 h2;have h3:(nth L (k+1)).es.length<=4:=h1;have h4:(nth L (k+1)).cs.length=0\/(nth L (k+1)).cs.length=(nth L (k+1)).es.length+1:=h2;omega
     refine aU ?_
     have hsz2:k+1<OL.length->(nth OL (k+1)).es.length<=100000/\(nth OL (k+1)).cs.length<=100000:=λh7=>by have h9:=Qbb (QdU h0r).2.2.1 x.n _ (Qy (i:=k+1) (by rw[YN hr1];omega));rw[<-hO,Qu]at h9;have h1:=h9.es;have h2:=h9.cs;have h3:(nth OL (k+1)).es.length<=255:=h1;have h4:(nth OL (k+1)).cs.length<=256:=h2;omega
     refine ZR (α:=Bool) [51,52,53,54,55,56,57,58,59,60,61,62,63,64,65,66,67,68] (λu=>[(68,.bool u)]) (λu=>u=true ↔ (k+1<OL.length/\(nth OL (k+1)).pl=(nth L (k+1)).pl)) ?_ ?_
     ·skip
      refine Qz [] QJ ?_
      refine dP 0 ?_
      refine dFa 1 ?_
      refine dLd 2 [] ?_
      refine dV 3 rfl (QR rfl rfl Tryz.underlying35) (dP 4 ?_)
      refine dP 5 ?_
      apply Xy 56
      ·exact rfl
      ·intro hg10
       have hs11:=hg10;try simp only[dT]at hs11
       refine dFo 6 56 hg10 ?_
       refine dQo 7 56 [] hg10 rfl rfl rfl (Yo rfl rfl Y0 aPk rfl) ?_
       refine dPo 8 56 hg10 ?_
       refine dVo 9 56 hg10 rfl rfl rfl (Qa rfl rfl rfl QT ((k+1)) om om (Rw.some ho.1 om)) ?_
       refine dQo 10 56 [] hg10 rfl rfl rfl (Qs _ rfl rfl Xo rfl (Rw.rd ho.1 om)) ?_
       refine dFo 11 56 hg10 ?_
       refine dQo 12 56 [] hg10 rfl rfl rfl (Yo rfl rfl Y0 aPk rfl) ?_
       refine dPo 13 56 hg10 ?_
       refine dVo 14 56 hg10 rfl rfl rfl (Qa rfl rfl rfl QT ((k+1)) om om (Rw.some hs.1 om)) ?_
       refine dQo 15 56 [] hg10 rfl rfl rfl (Qs _ rfl rfl Xo rfl (Rw.rd hs.1 om)) ?_
       refine dQo 16 56 [] hg10 rfl rfl rfl (Qr rfl Quq rfl (λw1 h1=>c33 w1 (nth OL (k+1)) (nth L (k+1)) ((ho.es om).later h1.nil) ((ho.cs om).later h1.nil) ((hs.es hk1).later h1.nil) ((hs.cs hk1).later h1.nil) (hsz2 om) hsz1)) ?_
       refine dV 17 rfl (Xv rfl rfl hg10 rfl) (dNi ?_)
       exact Qo (decide ((nth OL (k+1)).pl=(nth L (k+1)).pl)) (by rw[decide_eq_true_eq];exact⟨λh9=>⟨om,h9⟩,λh9=>h9.2⟩) aSx (λw h=>h.ent aEt)
      intro hg12
      have hs13:=hg12;try simp only[dN]at hs13
      refine dOf 6 56 hg12 ?_
      refine dOf 7 56 hg12 ?_
      refine dOf 8 56 hg12 ?_
      refine dOf 9 56 hg12 ?_
      refine dOf 10 56 hg12 ?_
      refine dOf 11 56 hg12 ?_
      refine dOf 12 56 hg12 ?_
      refine dOf 13 56 hg12 ?_
      refine dOf 14 56 hg12 ?_
      refine dOf 15 56 hg12 ?_
      refine dOf 16 56 hg12 ?_
      refine dV 17 rfl (Q8 rfl rfl hg12 rfl) (dNi ?_)
      exact Qo false (by constructor<;>intro h9<;>first|(cases h9;done)|omega) aSx (λw h=>h.ent aEt)
     intro u hu
     refine sCd rfl (λh14=>?_) λh14=>?_
     ·obtain⟨hko,hsm⟩:=hu.1 (by assumption)
      have hns:(Qbu x (Qw x x.n) (pln L) lsn (k+1))=(Z3 x (k+1)):=QrL hu1 (by rw[Qe];exact hk1) hnl (by rw[hnl];omega) (by rw[<-hO,Qu,Qu];exact hsm)
      refine aU4 ?_
      exact Qo () trivial (by rw[hns];exact aSx) (λw h=>h.ent aEt)
     have hnsm:¬(k+1<(Qw x x.n).length/\nth (Qw x x.n) (k+1)=nth (pln L) (k+1)):=λh9=>by have h8:=hu.2 ⟨by rw[hOl];have:=h9.1;omega,by have h7:=h9.2;rw[<-hO,Qu,Qu]at h7;exact h7⟩;simp_all
     refine YR ?_
     refine XP 4 72 76 rfl
      (λhg15 _=>by
       refine aU3 ?_
       refine oCq rfl (λw1 h1=>c53 w1 (Z3 x (k+1)) om) (aU2 ?_)
       exact oJt 4 76)
      (λhg17 _=>by
       refine aU3 ?_
       exact oJf 4 76) ?_
     refine aU ?_
     refine Qj (L':=[(0,_),(1,_),(2,_),(3,_),(4,_),(5,_),(6,_),(8,_),(9,_),(10,_),(11,_),(12,_),(13,_),(14,_),(15,_),(16,_),(17,_),(18,_),(19,_),(20,_),(35,_),(39,_),(40,_),(41,_),(42,_),(43,_),(76,_)]) aSx (λ_ h=>h) ?_
     refine ZR (α:=Int) [15,77,78,79,80] (λuv=>[(15,.int .i64 uv)]) (λuv=>(Qbu x (Qw x x.n) (pln L) lsn (k+1))=ZL (nth (pln L) (k+1)) ((k+1:Nat):Int) lsn uv/\(1<=uv/\uv<=65535)) ?_ ?_
     ·skip
      refine sCd rfl (λh19=>?_) λh19=>?_
      ·obtain⟨hnsu,hol5⟩:=Qsi (lsn:=lsn) hr hu1 (by rw[Qe];exact hk1) hnl hnsm (by have hq:=h19;simpa using hq)
       have hb2:=QcO (Z3 x (k+1)) 40
       refine aU2 ?_
       refine oCq rfl (λw1 h1=>by have h9:=c72 w1 (Z3 x (k+1)) 40 2 om om om;rw[QcQ,Qcm]at h9;exact h9) (o_p (YE rfl rfl rfl om om) rfl (aT ?_))
       refine Qm (show _=Value.int .i64 ((ub2 (Z3 x (k+1)) 40%65535+1:Nat):Int)from congrArg (Value.int .i64) om) (aU2 ?_)
       exact Qo ((ub2 (Z3 x (k+1)) 40%65535+1:Nat):Int) ⟨hnsu,om⟩ aSx (λw h=>h.ent aEt)
      have hnsu:=Qtx (lsn:=lsn) hr hu1 (by rw[Qe];exact hk1) hnl (by have hq:=h19;grind)
      refine aU ?_
      exact Qo 1 ⟨hnsu,om⟩ aSx (λw h=>h.ent aEt)
     intro uv huv
     obtain⟨hnu,huv2⟩:=huv
     have hns:=hnu
     refine aU5 ?_
     refine oCq rfl (λw1 h1=>by have h9:=c41 w1 co mo rm a cap L ((k+1:Nat):Int) lsn uv (hs.later h1.nil) om (by rw[Int.toNat_natCast];exact hk1) (by rw[Int.toNat_natCast];exact hq1) (by rw[Int.toNat_natCast];exact hcb1) om om;rw[Int.toNat_natCast,<-Qu]at h9;exact h9) (aU2 ?_)
     exact Qo () trivial (by rw[hns];exact aSx) (λw h=>h.ent aEt)
    have hu1:¬(nth (pln L) (k+1)).us=true:=by rw[Qu];have hq:=h9;first|exact hq|(intro h9;have h8:(nth L (k+1)).us=true:=h9;rw[h8]at hq;cases hq)
    have hns:(Qbu x (Qw x x.n) (pln L) lsn (k+1))=List.replicate 512 0:=QqN hu1 (by rw[Qe];exact hk1)
    refine aU ?_
    exact Qo () trivial (by rw[hns];exact aSx) (λw h=>h.ent aEt)
   have hns:(Qbu x (Qw x x.n) (pln L) lsn (k+1))=[]:=if_neg (by rw[Qe];have hq:=h8;omega)
   refine aU ?_
   exact Qo () trivial (by rw[hns];exact aSx) (λw h=>h.ent aEt)
  intro _ _
  refine aU5 ?_
  refine o_p (QF rfl rfl rfl (by(try simp only[List.length_append,List.length_cons,List.length_nil,List.length_replicate,List.length_take,List.length_drop]);omega)) rfl (aU4 ?_)
  refine Qj (L':=[(0,_),(1,_),(2,_),(3,_),(4,_),(5,_),(6,_),(8,_),(9,_),(10,_),(11,_),(12,_),(13,_),(14,_),(16,_),(17,_),(18,_),(19,_),(20,_)]) aSx (λ_ h=>h) ?_
  refine aU5 ?_
  refine sCd rfl (λh20=>?_) λh20=>?_
  ·have hst:(ZN x (chX x (Qw x x.n) (⟨co,mo,rm,pln L⟩:Tre) lsn) (k+1))=(ZN x (chX x (Qw x x.n) (⟨co,mo,rm,pln L⟩:Tre) lsn) k)++[k+1]:=by rw[ZN,if_pos];exact hne9.1 h20
   refine aU3 ?_
   refine o_h (Qk (cs:=[_]) rfl rfl QW Qcf rfl rfl rfl) rfl (λb21 _=>o_h (Xe [_] rfl rfl rfl QW Tryz.underlying28 Qcf rfl aPk (Xg aPk) rfl (by intro u hu;simp only[List.mem_cons,List.mem_nil_iff,or_false]at hu;subst hu;rfl) om (by simp only[maxLen];omega)) rfl (λb22 _=>aT6 ?_))
   refine Qm (show _=Value.int .i64 ((k+1+1:Nat):Int)from congrArg (Value.int .i64) om) (aU2 ?_)
   exact QO (k+1,b22.1,b22.2) (by(try simp only[]);omega) (by(try simp only[]);omega) (by dsimp only;rw[hst];simp only[List.length_append,List.length_singleton];exact aSx) (λw h=>by have h2:=h;dsimp only;rw[hst,<-hbn];simp only[List.length_append,List.length_singleton,List.map_append,List.map_cons,List.map_nil];exact h2.ent aEt)
  have hst:(ZN x (chX x (Qw x x.n) (⟨co,mo,rm,pln L⟩:Tre) lsn) (k+1))=(ZN x (chX x (Qw x x.n) (⟨co,mo,rm,pln L⟩:Tre) lsn) k):=by rw[ZN,if_neg];intro h9;exact hne9.2 h9 (by have hq:=h20;first|exact hq|simpa using hq)
  refine aT5 ?_
  refine Qm (show _=Value.int .i64 ((k+1+1:Nat):Int)from congrArg (Value.int .i64) om) (aU2 ?_)
  exact QO (k+1,ga,gc) (by(try simp only[]);omega) (by(try simp only[]);omega) (by dsimp only;rw[hst];exact aSx) (λw h=>by dsimp only;rw[hst,<-hbn];exact h.ent aEt)
 have hk:¬k+1<(max OL.length L.length):=by have hq:=h6;omega
 have hkm:max x.n (chX x (Qw x x.n) (⟨co,mo,rm,pln L⟩:Tre) lsn).n=k:=om
 have hal9:(chX x (Qw x x.n) (⟨co,mo,rm,pln L⟩:Tre) lsn).al=YB (chB x (Qw x x.n) (pln L) lsn) (min k (L.length-1)):=by(show YB _ ((pln L).length-1)=_);rw[Qe,Nat.min_eq_right om]
 have hcl9:(chL x (chX x (Qw x x.n) (⟨co,mo,rm,pln L⟩:Tre) lsn))=(ZN x (chX x (Qw x x.n) (⟨co,mo,rm,pln L⟩:Tre) lsn) k):=by unfold chL;rw[hkm]
 refine Qh rfl ?_
 refine aU7 ?_
 exact Ql (rs:=[.cell 8 23,.tmp 9]) rfl (.cell rfl Qhd aPk rfl (.tmp rfl (.nil))) (λw' h'=>⟨(ga,gc),by rw[hal9,hcl9];rfl,trivial,by rw[hcl9];exact h'.ent aEt⟩)
theorem Qo1:QK Tryz.prog 34=true:=by kernel_rfl
instance:TFn Tryz.prog 36:=⟨by kernel_rfl⟩
def QlG(x:Ixs)(t:Tre):Int:=if(rdI x).2=0 then Yy t else(rdI x).2
def QiM(x:Ixs)(t:Tre):Int:=if QlG x t=0 then if(t.co=(rdI x).1.1.co/\t.mo=(rdI x).1.1.mo)/\t.rm=(rdI x).1.1.rm then 0 else 13 else QlG x t
theorem Qt5(x:Ixs)(t:Tre)(lsn:Int):chE x t lsn=if QiM x t=0 then if 0<=lsn/\lsn<=2147483647 then 0 else 2 else QiM x t:=by
  unfold chE QiM QlG
  grind
theorem QvT(w:World)(x:Ixs)(co mo rm:Int)(a:Option Addr)(cap:Nat)(L:List LNd)(lsn:Int)(ns:List Nd)(hn:pln L=ns)(hl:x.al.length<=800000)(hr5:x.ro.length<=1000000)(hb:x.bm.length<=100000)(hs:Nt w [] a L)(hB:Bd ns)(hcap:L.length<=cap)(hc9:cap<=maxLen)(hkl:∀i,i<L.length->∀x∈(nth L i).es,x.key.length<=1000000/\x.val.length<=1000000):CE 34 #[.agg #[.string (bs x.ro),.string (bs x.al),.string (bs x.bm)],.agg #[.int .i64 co,.int .i64 mo,.int .i64 rm,.slice a L.length cap],.int .i64 lsn] w [] (λg:Option Addr×Nat=>.tuple #[.agg #[.string (bs (cgX x (⟨co,mo,rm,ns⟩:Tre) lsn).ro),.string (bs (cgX x (⟨co,mo,rm,ns⟩:Tre) lsn).al),.string (bs (cgX x (⟨co,mo,rm,ns⟩:Tre) lsn).bm)],.slice g.1 (cgL x (⟨co,mo,rm,ns⟩:Tre) lsn).length g.2,.int .i64 (chE x (⟨co,mo,rm,ns⟩:Tre) lsn)]) (λg=>True) λg=>[.own (.slice g.1 ((cgL x (⟨co,mo,rm,ns⟩:Tre) lsn)).length g.2) 3 1 ((cgL x (⟨co,mo,rm,ns⟩:Tre) lsn)).length (((cgL x (⟨co,mo,rm,ns⟩:Tre) lsn)).map λi:Nat=>Value.int .i64 (i:Int))]:=by
  subst hn;exact c34 w x co mo rm a cap L lsn om hr5 hb hs hB hcap hc9 hkl
set_option maxHeartbeats 4000000 in
theorem c6a(w:World)(x:Ixs)(co mo rm:Int)(a:Option Addr)(cap:Nat)(L:List LNd)(lsn:Int)(hs:Nt w [] a L)(hfw:Zb (pln L)=true)(hl20:L.length<=20)(hfx:QoK x=true):CR 6 #[.agg #[.string (bs x.ro),.string (bs x.al),.string (bs x.bm)],.agg #[.int .i64 co,.int .i64 mo,.int .i64 rm,.slice a L.length cap],.int .i64 lsn] w (.bool true):=by
 have hB:=Qsr hfw
 have hkl:=Qow hfw
 have hsm:=Qt0 hfw
 have hle:=hB.len
 rw[Qe]at hle
 have hkv:=QfR hfw
 obtain⟨hx1,hx2,hx3⟩:=QtM hfx
 obtain⟨hsm1,hsm2⟩:=Qvu (x:=x) om
 have hn8:x.n=x.al.length/512:=rfl
 refine eN3 Tryz.func6 Tryz.ntmps6 ?_
 refine aU2 ?_
 refine oBx λb1 _=>?_
 refine oBx λb2 _=>?_
 refine aU5 ?_
 refine oCq rfl (λw1 h1=>c11 w1) (aU2 ?_)
 refine sCd rfl (λh3=>?_) λh3=>?_
 ·exfalso;simp at h3
 refine aU5 ?_
 refine oCq rfl (λw1 h1=>c19 w1 co mo rm a cap L (hs.later h1.nil)) (aU2 ?_)
 refine oOr 4 23 27 rfl
  (λhg4 _=>by
   refine aU3 ?_
   refine oCq rfl (λw1 h1=>c12 w1 x) (aU2 ?_)
   exact oJf 4 27)
  (λhg6 _=>by
   refine aU3 ?_
   exact oJt 4 27) ?_
 refine aU ?_
 refine sCd rfl (λh8=>?_) λh8=>?_
 ·exfalso;have hq:=h8;simp[hfw,hfx]at hq;omega
 refine aU2 ?_
 refine Ye (α:=Nat×Option Addr×Nat) [7,8,9,28,29,30,31,32,33,34,35,36] (λy=>[(7,.pointer (some ⟨y.1,0,none⟩)),(8,.slice y.2.1 (cgL x (⟨co,mo,rm,pln L⟩:Tre) lsn).length y.2.2),(9,.int .i64 (chE x (⟨co,mo,rm,pln L⟩:Tre) lsn))]) (λy=>HS w [] [.blk y.1 23 3 [.string (bs (cgX x (⟨co,mo,rm,pln L⟩:Tre) lsn).ro),.string (bs (cgX x (⟨co,mo,rm,pln L⟩:Tre) lsn).al),.string (bs (cgX x (⟨co,mo,rm,pln L⟩:Tre) lsn).bm)],.own (.slice y.2.1 ((cgL x (⟨co,mo,rm,pln L⟩:Tre) lsn)).length y.2.2) 3 1 ((cgL x (⟨co,mo,rm,pln L⟩:Tre) lsn)).length (((cgL x (⟨co,mo,rm,pln L⟩:Tre) lsn)).map λi:Nat=>Value.int .i64 (i:Int)),.blk b1 23 3 [.string (bs x.ro),.string (bs x.al),.string (bs x.bm)],.blk b2 37 4 [.int .i64 co,.int .i64 mo,.int .i64 rm,.slice a L.length cap]]) (λ_=>True) ?_ ?_
 ·skip
  refine Qz [10] QJ ?_
  refine dLn 0 [[]] ?_
  refine dLn 1 [[]] ?_
  refine dP 3 ?_
  refine QqX 2 9 rfl rfl (Qcl rfl Qt6 rfl (λw1 h1=>c21 w1 co mo rm a cap L (hs.later h1.nil) hle hsm)) (ZA rfl Qag) (by kernel_rfl) (λw h=>h.ent aEt) rfl rfl (λ⟨⟨ga,gc⟩,LC⟩hLC=>?_) (λb9 _=>?_)
  ·skip
   refine dBa ?_
   refine QqX 4 9 rfl rfl (Qcl rfl Qo1 rfl (λw1 h1=>QvT w1 x co mo rm ga gc LC lsn (pln L) hLC om om om (HS.nt h1 aPk) hB (HS.nodes_cap h1 aPk).1 (HS.nodes_cap h1 aPk).2 (QfR (by rw[hLC];exact hfw)))) (ZA rfl Qag) (by kernel_rfl) (λw h=>h.ent aEt) rfl rfl (λ⟨la,lc⟩_=>?_) (λb10 _=>?_)
   ·skip
    refine dBa ?_
    refine dP 5 ?_
    refine dP 6 ?_
    refine dP 7 ?_
    refine dP 8 ?_
    refine dH 9 rfl (ZA rfl Qag) (λb11 _=>dBa ?_)
    refine dSt 10 ?_ (hl:=(by simp only[Qf,List.length_set,List.length_cons,List.length_nil,List.length_map];omega))
    refine dTu [] ?_
    refine dP 11 ?_
    refine dP 12 ?_
    refine dNi ?_
    exact Qo (b11,la,lc) trivial aSx (λw h=>h.ent aEt)
   skip
   refine dBa ?_
   refine dH 4 rfl (Qcl rfl Qo1 rfl (λw1 h1=>QvT w1 x co mo rm ga gc LC lsn (pln L) hLC om om om (HS.nt h1 aPk) hB (HS.nodes_cap h1 aPk).1 (HS.nodes_cap h1 aPk).2 (QfR (by rw[hLC];exact hfw)))) (λ⟨la,lc⟩_=>dBa ?_)
   refine dP 5 ?_
   refine dP 6 ?_
   refine dP 7 ?_
   refine dP 8 ?_
   refine dSt 10 ?_ (hl:=(by simp only[Qf,List.length_set,List.length_cons,List.length_nil,List.length_map];omega))
   refine dTu [] ?_
   refine dP 11 ?_
   refine dP 12 ?_
   refine dNi ?_
   exact Qo (b10,la,lc) trivial aSx (λw h=>h.ent aEt)
  skip
  refine dBa ?_
  refine dH 2 rfl (Qcl rfl Qt6 rfl (λw1 h1=>c21 w1 co mo rm a cap L (hs.later h1.nil) hle hsm)) (λ⟨⟨ga,gc⟩,LC⟩hLC=>dBa ?_)
  refine dH 4 rfl (Qcl rfl Qo1 rfl (λw1 h1=>QvT w1 x co mo rm ga gc LC lsn (pln L) hLC om om om (HS.nt h1 aPk) hB (HS.nodes_cap h1 aPk).1 (HS.nodes_cap h1 aPk).2 (QfR (by rw[hLC];exact hfw)))) (λ⟨la,lc⟩_=>dBa ?_)
  refine dP 5 ?_
  refine dP 6 ?_
  refine dP 7 ?_
  refine dP 8 ?_
  refine dSt 10 ?_ (hl:=(by simp only[Qf,List.length_set,List.length_cons,List.length_nil,List.length_map];omega))
  refine dTu [] ?_
  refine dP 11 ?_
  refine dP 12 ?_
  refine dNi ?_
  exact Qo (b9,la,lc) trivial aSx (λw h=>h.ent aEt)
 intro⟨bY,la,lc⟩ _
 dsimp only
 refine aU3 ?_
 refine oCh rfl (λw1 h1=>c16 w1 x om om om) (λ⟨⟨ra,rc⟩,RL⟩hRL=>aU4 ?_)
 refine oAl (λb12 _=>?_) XN
 refine YR ?_
 refine Qj (L':=[(2,_),(3,_),(4,_),(6,_),(7,_),(8,_),(9,_),(10,_),(12,_),(44,_)]) aSx (λ_ h=>h) ?_
 refine ZR (α:=Unit) [12,45,46] (λ_=>[(12,.int .i64 (QlG x (⟨co,mo,rm,pln L⟩:Tre)))]) (λ_=>True) ?_ ?_
 ·skip
  refine sCd rfl (λh13=>?_) λh13=>?_
  ·have hd2:(QlG x (⟨co,mo,rm,pln L⟩:Tre))=Yy (⟨co,mo,rm,pln L⟩:Tre):=if_pos h13
   refine aU2 ?_
   refine oCq rfl (λw1 h1=>c24 w1 co mo rm a cap L (hs.later h1.nil) hB hkv) (aU2 ?_)
   exact Qo () trivial (by rw[hd2];exact aSx) (λw h=>h.ent aEt)
  have hd2:(QlG x (⟨co,mo,rm,pln L⟩:Tre))=(rdI x).2:=if_neg h13
  refine aU ?_
  exact Qo () trivial (by rw[hd2];exact aSx) (λw h=>h.ent aEt)
 intro _ _
 refine aU6 ?_
 refine XP 20 49 69 rfl
  (λhg14 _=>by
   refine Qay ?_
   refine oOr 6 55 61 rfl
    (λhg16 _=>by
     refine QbK ?_
     exact oJf 6 61)
    (λhg18 _=>by
     refine aU6 ?_
     exact oJt 6 61) ?_
   refine aU2 ?_
   refine oOr 6 62 68 rfl
    (λhg20 _=>by
     refine QbK ?_
     exact oJf 6 68)
    (λhg22 _=>by
     refine aU6 ?_
     exact oJt 6 68) ?_
   exact oJt 10 69)
  (λhg24 _=>by
   refine aU19 ?_
   exact oJf 20 69) ?_
 refine aU ?_
 refine ZR (α:=Unit) [12] (λ_=>[(12,.int .i64 (QiM x (⟨co,mo,rm,pln L⟩:Tre)))]) (λ_=>True) ?_ ?_
 ·skip
  refine sCd rfl (λh26=>?_) λh26=>?_
  ·have hd3:(QiM x (⟨co,mo,rm,pln L⟩:Tre))=13:=by have hq:=h26;unfold QiM;grind
   refine aU3 ?_
   exact Qo () trivial (by rw[hd3];exact aSx) (λw h=>h.ent aEt)
  have hd3:(QiM x (⟨co,mo,rm,pln L⟩:Tre))=(QlG x (⟨co,mo,rm,pln L⟩:Tre)):=by have hq:=h26;unfold QiM;grind
  refine aU ?_
  exact Qo () trivial (by rw[hd3];exact aSx) (λw h=>h.ent aEt)
 intro _ _
 refine aU6 ?_
 refine XP 4 72 76 rfl
  (λhg27 _=>by
   refine aU3 ?_
   refine oCq rfl (λw1 h1=>c35 w1 lsn) (aU2 ?_)
   exact oJt 4 76)
  (λhg29 _=>by
   refine aU3 ?_
   exact oJf 4 76) ?_
 refine aU ?_
 refine ZR (α:=Unit) [12] (λ_=>[(12,.int .i64 (chE x (⟨co,mo,rm,pln L⟩:Tre) lsn))]) (λ_=>True) ?_ ?_
 ·skip
  refine sCd rfl (λh31=>?_) λh31=>?_
  ·have hd4:(chE x (⟨co,mo,rm,pln L⟩:Tre) lsn)=2:=by have hq:=h31;rw[Qt5];grind
   refine aU3 ?_
   exact Qo () trivial (by rw[hd4];exact aSx) (λw h=>h.ent aEt)
  have hd4:(chE x (⟨co,mo,rm,pln L⟩:Tre) lsn)=(QiM x (⟨co,mo,rm,pln L⟩:Tre)):=by have hq:=h31;rw[Qt5];grind
  refine aU ?_
  exact Qo () trivial (by rw[hd4];exact aSx) (λw h=>h.ent aEt)
 intro _ _
 refine aU6 ?_
 refine sCd rfl (λh32=>?_) λh32=>?_
 ·have hE:¬(chE x (⟨co,mo,rm,pln L⟩:Tre) lsn)=0:=h32
  have hX:(cgX x (⟨co,mo,rm,pln L⟩:Tre) lsn)=⟨[],[],[]⟩:=if_neg hE
  have hL9:(cgL x (⟨co,mo,rm,pln L⟩:Tre) lsn)=[]:=if_neg hE
  rw[hX,hL9]
  refine aU6 ?_
  refine XP 4 82 86 rfl
   (λhg33 _=>by
    refine aU3 ?_
    refine o_p (QE (cs:=[_,_,_]) rfl rfl Qne Qag rfl) rfl (aU ?_)
    refine o_p (Qh3 rfl rfl rfl Qpm (by rfl) (by rfl) (by rfl)) rfl ?_
    exact oJt 4 86)
   (λhg35 _=>by
    refine aU3 ?_
    exact oJf 4 86) ?_
  refine aU ?_
  refine XP 4 87 91 rfl
   (λhg37 _=>by
    refine aU6 ?_
    exact oJt 4 91)
   (λhg39 _=>by
    refine aU3 ?_
    exact oJf 4 91) ?_
  refine aU2 ?_
  exact rV (h:=by simp[QX])
 have hE:(chE x (⟨co,mo,rm,pln L⟩:Tre) lsn)=0:=h32
 obtain⟨hr,hi,hl9,_⟩:=QrG hE
 obtain⟨h0r,ht9,_⟩:=Qaw hr
 have hO:pln RL=Qw x x.n:=by have h9:pln RL=(rdI x).1.1.ns:=hRL;rw[h9,ht9];rfl
 have hX:(cgX x (⟨co,mo,rm,pln L⟩:Tre) lsn)=(chX x (Qw x x.n) (⟨co,mo,rm,pln L⟩:Tre) lsn):=by unfold cgX;rw[if_pos hE,ht9];rfl
 have hL9:(cgL x (⟨co,mo,rm,pln L⟩:Tre) lsn)=(chL x (chX x (Qw x x.n) (⟨co,mo,rm,pln L⟩:Tre) lsn)):=by unfold cgL;rw[if_pos hE,ht9];rfl
 rw[hX,hL9,hE]
 obtain⟨hya,hyn⟩:=QtS (lsn:=lsn) hr hi hl9
 rw[show(⟨co,mo,rm,pln L⟩:Tre).ns=pln L from rfl,Qe]at hya hyn
 have hrd:=Qww (lsn:=lsn) hr hi hl9
 have hwa:(chX x (Qw x x.n) (⟨co,mo,rm,pln L⟩:Tre) lsn).al.length<=900000:=om
 have hix9:ixE (chX x (Qw x x.n) (⟨co,mo,rm,pln L⟩:Tre) lsn)=0:=(QjQ hi (Qaq hr hi hl9)).1
 have hwr:(chX x (Qw x x.n) (⟨co,mo,rm,pln L⟩:Tre) lsn).ro.length<=1000000:=Nat.le_trans (QdU hix9).1.2 (by decide)
 have hwb:(chX x (Qw x x.n) (⟨co,mo,rm,pln L⟩:Tre) lsn).bm.length<=100000:=by show(bmB (pln L)).length<=_;rw[Qjk];unfold YT;rw[Qe];have:=XT ((L.length-1+7)/8);omega
 have hL10:(chL x (chX x (Qw x x.n) (⟨co,mo,rm,pln L⟩:Tre) lsn)).length<=100000:=Nat.le_trans (Qej x (chX x (Qw x x.n) (⟨co,mo,rm,pln L⟩:Tre) lsn) _) om
 refine aU7 ?_
 refine oCh rfl (λw1 h1=>c36 w1 x co mo rm a cap L (rdI x).1.1.co (rdI x).1.1.mo (rdI x).1.1.rm ra rc RL lsn (hs.later h1.nil) (HS.nt h1 aPk) hr hO hi hl9 om) (λ⟨qa,qc⟩_=>aU3 ?_)
 refine oAl (λb41 _=>?_) Qag
 refine aU5 ?_
 refine Qj (L':=[(4,_),(6,_),(7,_),(8,_),(9,_),(13,_),(14,_)]) aSx (λ_ h=>h) ?_
 refine aU4 ?_
 refine oOr 4 102 106 rfl
  (λhg42 _=>by
   refine aU5 ?_
   refine o_p (Qdc rfl rfl rfl Qpm (by rfl) (by rfl) (by rfl)) rfl ?_
   exact oJf 4 106)
  (λhg44 _=>by
   refine aU3 ?_
   exact oJt 4 106) ?_
 refine aU ?_
 refine oOr 5 107 112 rfl
  (λhg46 _=>by
   refine aU5 ?_
   refine oCq rfl (λw1 h1=>c15P w1 la qa lc qc (chL x (chX x (Qw x x.n) (⟨co,mo,rm,pln L⟩:Tre) lsn)) (chL x (chX x (Qw x x.n) (⟨co,mo,rm,pln L⟩:Tre) lsn)) (HS.pown_row (P:=(chL x (chX x (Qw x x.n) (⟨co,mo,rm,pln L⟩:Tre) lsn))) h1 aPk) (HS.pown_row (P:=(chL x (chX x (Qw x x.n) (⟨co,mo,rm,pln L⟩:Tre) lsn))) h1 aPk) hL10 hL10) (aU2 ?_)
   exact oJf 5 112)
  (λhg48 _=>by
   refine aU4 ?_
   exact oJt 5 112) ?_
 refine aU ?_
 refine sCd rfl (λh50=>?_) λh50=>?_
 ·exfalso;have hq:=h50;simp at hq
 refine aU4 ?_
 refine oCh rfl (λw1 h1=>c22 w1 (chX x (Qw x x.n) (⟨co,mo,rm,pln L⟩:Tre) lsn) hwa hwr hwb) (λ⟨⟨va,vc⟩,VL⟩hVL=>?_)
 rw[hrd]at hVL ⊢
 dsimp only at hVL ⊢
 refine aU4 ?_
 refine oAl (λb51 _=>?_) XN
 refine aU9 ?_
 refine XP 3 121 124 rfl
  (λhg52 _=>by
   refine aU4 ?_
   exact oJt 3 124)
  (λhg54 _=>absurd hg54 (by decide)) ?_
 refine aU ?_
 refine XP 4 125 129 rfl
  (λhg56 _=>by
   refine aU5 ?_
   refine oCq rfl (λw1 h1=>c23 w1 co mo rm va a vc cap VL L (HS.nt h1 aPk) (hs.later h1.nil) (by rw[<-Qe,hVL,Qe];omega) om (by rw[hVL];exactλk=>by have:=hsm k;omega) (λk=>by have:=hsm k;omega) hVL) ?_
   exact oJt 4 129)
  (λhg58 _=>absurd hg58 (by simp)) ?_
 refine aU2 ?_
 exact rV (h:=by first|rfl|(simp[QX];done))
theorem c6z(w:World)(x:Ixs)(co mo rm:Int)(a:Option Addr)(cap:Nat)(L:List LNd)(lsn:Int)(hs:Nt w [] a L)(hz:¬((Zb (pln L)=true/\L.length<=20)/\QoK x=true)):CR 6 #[.agg #[.string (bs x.ro),.string (bs x.al),.string (bs x.bm)],.agg #[.int .i64 co,.int .i64 mo,.int .i64 rm,.slice a L.length cap],.int .i64 lsn] w (.bool true):=by
 refine eN3 Tryz.func6 Tryz.ntmps6 ?_
 refine aU2 ?_
 refine oBx λb1 _=>?_
 refine oBx λb2 _=>?_
 refine aU5 ?_
 refine oCq rfl (λw1 h1=>c11 w1) (aU2 ?_)
 refine sCd rfl (λh3=>?_) λh3=>?_
 ·exfalso;simp at h3
 refine aU5 ?_
 refine oCq rfl (λw1 h1=>c19 w1 co mo rm a cap L (hs.later h1.nil)) (aU2 ?_)
 refine oOr 4 23 27 rfl
  (λhg4 _=>by
   refine aU3 ?_
   refine oCq rfl (λw1 h1=>c12 w1 x) (aU2 ?_)
   exact oJf 4 27)
  (λhg6 _=>by
   refine aU3 ?_
   exact oJt 4 27) ?_
 refine aU ?_
 refine sCd rfl (λh8=>?_) λh8=>?_
 ·refine aU4 ?_
  exact rV
 exfalso;have hq:=h8;exact hz ⟨⟨hq.1.1,by have:=hq.1.2;omega⟩,hq.2⟩
theorem c6(w:World)(x:Ixs)(co mo rm:Int)(a:Option Addr)(cap:Nat)(L:List LNd)(lsn:Int)(hs:Nt w [] a L):CR 6 #[.agg #[.string (bs x.ro),.string (bs x.al),.string (bs x.bm)],.agg #[.int .i64 co,.int .i64 mo,.int .i64 rm,.slice a L.length cap],.int .i64 lsn] w (.bool true):=by
  by_cases hz:((Zb (pln L)=true/\L.length<=20)/\QoK x=true)
  · obtain⟨⟨h1,h2⟩,h3⟩:=hz;exact c6a w x co mo rm a cap L lsn hs h1 h2 h3
  · exact c6z w x co mo rm a cap L lsn hs hz
end Go.Proofs
