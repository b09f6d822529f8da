/- Contracts of the program's functions, proved by walking them with the rules of the Gx texts; without conditions beyond those that each contract names. -/
import Derived.WalkKit
import Derived.Deep.Draws
import Derived.TacticsIn
import Derived.OrdersIn
import Derived.RangeFuncLeaves
import Derived.Lib.Strings
import Derived.Laws.BytesArg
import Derived.Laws.IdiomStrings
import Derived.Deep.Quiet
import Derived.ProofKit
import Derived.OpenShut
import Derived.Laws.StructEq
import Derived.ChangeKeysEq
import Derived.Laws.Externs
import Derived.Lib.Overlaps
import Derived.Carry
import Derived.Laws.Small
import Derived.Lib.Bytealg
import Derived.Lib.Builder
import Derived.Laws.Pointers
import Derived.RangeFuncRecord
import Derived.Test.YtpkhkcchibbhmaaGreatDoorProg
import Derived.KernelRfl
import Derived.Test.YtpkhkcchibbhmaaGreatDoorTie
import Derived.Test.YtpkhkcchibbhmaaGreatDoorCards
import Derived.SevenTiedAt
import Derived.LaidMore
import Derived.Lay
import Derived.Stop.Joined
import Derived.Test.YtpkhkcchibbhmaaGreatDoorP3
set_option linter.unusedSimpArgs false
set_option maxHeartbeats 1000000
set_option linter.unusedVariables false
set_option linter.unusedSectionVars false
set_option linter.unnecessarySimpa false
namespace Go.Proofs
open Go Go.RowKit Gx
attribute [local irreducible] Go.Calls Gx.S Gx.O Gx.D Gx.OpP Gx.OpQ Gx.OpH
set_option maxRecDepth 20000
instance:TFn Tryz.prog 53:=⟨by kernel_rfl⟩
instance:TFn Tryz.prog 29:=⟨by kernel_rfl⟩
theorem c98(w:World)(s:List UInt8)(p0 count:Nat)(hp0:p0<=s.length)(hsl:s.length<=1000000)(hct:count<=1000):CE 98 #[.string (bs s),.int .i64 (p0:Int),.int .i64 (count:Int)] w [] (λg:LNd×Nat=>.tuple #[.agg (LNd.vals g.1).toArray,.int .i64 (g.2:Int),.bool (rdN s p0 count).isSome]) (λg=>((∀nd e,rdN s p0 count=some (nd,e)->g.1.pl=nd/\g.2=e)/\g.1.es.length<=count/\∀x∈g.1.es,Yq x 0=true)) λg=>[.ents 27 g.1.ea g.1.ec g.1.es,.kids g.1.ca g.1.cc g.1.cs]:=by
 refine eN3 Tryz.func98 Tryz.ntmps98 ?_
 refine aU2 ?_
 refine oAl (λb1 _=>?_) Xc
 refine aU5 ?_
 refine o_p (QF (cs:=[_,_,_]) rfl rfl Qco Xc rfl) rfl (oAl (λb2 _=>?_) Xc)
 refine Zg ?_
 refine Qo (α:=Nat×RdS×(Option Addr×Nat)×(Option Addr×Nat)) [1,7,8,10,11,12,13,14,15,16,17,21,22,23,24,25,26,27,28,29,30,31,32,33,34,35,36,37,38,39,40,41,42,43,44,45,46,47,48,49,50,51,52,53,54,55,56,57,58,59,60,61,62,63,64,65,66,67,68,69,70,71,72,73,74,75,76,77,78,79,80,81,82,83,84,85,86,87,88,89,90,91,92,93,94,95,96,97,98,99,100,101,102,103,104,105,106,107,108,109,110,111,112,113,114,115,116,117] (λx=>[(11,.int .i64 (x.1:Int)),(1,.int .i64 (x.2.1.p:Int)),(10,.slice x.2.2.2.1 x.2.1.cs.length x.2.2.2.2)]) (λx=>HS w [] [.blk b2 69 3 [.bool true,.slice x.2.2.1.1 x.2.1.es.length x.2.2.1.2,.slice none 0 0],.own (.slice x.2.2.1.1 x.2.1.es.length x.2.2.1.2) 27 2 x.2.1.es.length (x.2.1.es.flatMap TEnt.vals),.own (.slice x.2.2.2.1 x.2.1.cs.length x.2.2.2.2) 3 1 x.2.1.cs.length (x.2.1.cs.flatMap inV),.blk b1 69 3 [.bool false,.slice none 0 0,.slice none 0 0]]) (λx=>x.1<=count/\rdE s p0 x.1=some x.2.1) (λx=>count-x.1) (0,⟨[],[],p0⟩,(none,0),(none,0)) ⟨Nat.zero_le _,rfl⟩ aSx (λw h=>((h.own_nil 27 2).own_nil 3 1).ent aEt) (λ⟨k,r,⟨ea,ec⟩,⟨da,dc⟩⟩hk1=>?_)
 dsimp only
 simp only[]at hk1
 obtain⟨hk2,hst⟩:=hk1
 obtain⟨hle,hlc,hp1,hp2,_,hee,_⟩:=QbK hp0 hst
 refine aU7 ?_
 refine sCd rfl (λh3=>?_) λh3=>?_
 ·have hk:k<count:=by omega
  refine aT8 ?_
  refine aU ?_
  refine o_p (Qn rfl rfl Tryz.underlying9) rfl (aU2 ?_)
  refine sCd rfl (λh4=>?_) λh4=>?_
  ·have hN:rdN s p0 count=none:=QfD hst hk (QkR (λh9=>by have hq:=h4;have:=h9.1;omega)).1
   refine aU7 ?_
   exact Qj (rs:=[.cell 6 69,.tmp 7,.tmp 8]) rfl (.cell rfl Xv aPk rfl (.tmp rfl (.tmp rfl (.nil)))) (λw' h'=>⟨(⟨true,ea,ec,r.es,none,0,[]⟩,0),by rw[hN];rfl,⟨λ_ _ h9=>(by rw[hN]at h9;cases h9),by show r.es.length<=_;omega,hee⟩,(h'.own_nil 3 1).ent aEt⟩)
  have h8:r.p+8<=s.length:=by have hq:=h4;omega
  have hb2:=Qds s r.p
  have hbk:=YC s (r.p+2)
  have hbv:=YC s (r.p+3)
  have hb4:=Qnp s (r.p+4)
  have hsz:XA s r.p=8+ub1 s (r.p+2)+ub1 s (r.p+3):=rfl
  have hp8:=Yx (XA s r.p)
  refine aU5 ?_
  refine oCq rfl (λw1 h1=>by have h9:=c72 w1 s (r.p) 2 om om om;rw[QdI,Qdv]at h9;exact h9) (aT3 ?_)
  refine oCq rfl (λw1 h1=>by have h9:=c72 w1 s (r.p+2) 1 om om om;rw[QdC,QkB]at h9;exact h9) (aT3 ?_)
  refine oCq rfl (λw1 h1=>by have h9:=c72 w1 s (r.p+3) 1 om om om;rw[QdC,QkB]at h9;exact h9) (aT3 ?_)
  refine oCq rfl (λw1 h1=>by have h9:=c72 w1 s (r.p+4) 4 om om om;rw[ZF,Qf1]at h9;exact h9) (aU6 ?_)
  refine Qe (L':=[(0,_),(1,_),(2,_),(6,_),(9,_),(10,_),(11,_),(12,_),(13,_),(14,_),(15,_),(20,_)]) aSx (λ_ h=>h) ?_
  refine aT3 ?_
  refine aT2 ?_
  refine Qf (show _=Value.int .i64 ((XA s r.p:Nat):Int)from congrArg (Value.int .i64) om) (aU7 ?_)
  refine oCq rfl (λw1 h1=>c95 w1 (XA s r.p) om) (aU2 ?_)
  refine oOr 7 55 62 rfl
   (λhg5 _=>by
    refine aT6 ?_
    refine aU3 ?_
    refine o_p (Qn rfl rfl Tryz.underlying9) rfl (aU2 ?_)
    exact oJf 7 62)
   (λhg7 _=>by
    refine aU6 ?_
    exact oJt 7 62) ?_
  refine aU ?_
  refine oOr 11 63 74 rfl
   (λhg9 _=>by
    refine aT8 ?_
    refine aT6 ?_
    refine aU ?_
    refine o_p (Xa _ _ (r.p+XA s r.p) (r.p+ub2 s r.p) rfl rfl Tryz.underlying9 ⟨_,_,rfl,om⟩ ⟨_,_,rfl,om⟩ om om) rfl (Qf (show _=Value.string (bs (Qs s (r.p+XA s r.p) (ub2 s r.p-XA s r.p)))from by rw[Qbb];congr 3;omega) (aU ?_))
    refine oCq rfl (λw1 h1=>c53 w1 (Qs s (r.p+XA s r.p) (ub2 s r.p-XA s r.p)) (by rw[Xw om];omega)) (aU2 ?_)
    exact oJf 11 74)
   (λhg11 _=>by
    refine Zo ?_
    exact oJt 11 74) ?_
  refine aU ?_
  refine sCd rfl (λh13=>?_) λh13=>?_
  ·have hN:rdN s p0 count=none:=QfD hst hk (QsR (λh9=>by have hq:=h13;obtain⟨q1,q2,q3⟩:=h9;grind))
   refine aU7 ?_
   exact Qj (rs:=[.cell 6 69,.tmp 7,.tmp 8]) rfl (.cell rfl Xv aPk rfl (.tmp rfl (.tmp rfl (.nil)))) (λw' h'=>⟨(⟨true,ea,ec,r.es,none,0,[]⟩,0),by rw[hN];rfl,⟨λ_ _ h9=>(by rw[hN]at h9;cases h9),by show r.es.length<=_;omega,hee⟩,(h'.own_nil 3 1).ent aEt⟩)
  have h4:ub2 s r.p=Q5 (XA s r.p)/\r.p+ub2 s r.p<=s.length/\zer (Qs s (r.p+XA s r.p) (ub2 s r.p-XA s r.p))=true:=by have hq:=h13;grind
  obtain⟨hes,hkl,hvl⟩:=QdV (s:=s) (p:=r.p) om
  refine aU2 ?_
  refine Qu [19] QG ?_
  refine dP 0 ?_
  refine dP 1 ?_
  refine dP 2 ?_
  try refine dWr ?_
  refine dP 3 ?_
  refine dP 4 ?_
  try refine dWr ?_
  refine dP 5 ?_
  refine dP 6 ?_
  try refine dWr ?_
  refine dV 7 rfl (Xa _ _ (r.p+8) (r.p+8+ub1 s (r.p+2)) rfl rfl Tryz.underlying9 ⟨_,_,rfl,om⟩ ⟨_,_,rfl,om⟩ om om) (Qv (show _=Value.string (bs (Xp s r.p).key)from by rw[Qbb];congr 2;show Qs _ _ _=Qs _ _ _;congr 1;omega) (dP 8 ?_))
  refine dP 9 ?_
  refine dP 10 ?_
  try refine dWr ?_
  refine dP 11 ?_
  refine dP 12 ?_
  try refine dWr ?_
  refine dP 13 ?_
  refine dP 14 ?_
  refine dP 15 ?_
  try refine dWr ?_
  refine dV 16 rfl (Xa _ _ (r.p+8+ub1 s (r.p+2)) (r.p+XA s r.p) rfl rfl Tryz.underlying9 ⟨_,_,rfl,om⟩ ⟨_,_,rfl,om⟩ om om) (Qv (show _=Value.string (bs (Xp s r.p).val)from by rw[Qbb];congr 2;show Qs _ _ _=Qs _ _ _;congr 1;omega) (dV 17 rfl (QF (cs:=[_,_]) rfl rfl QcG XD rfl) (dH 18 rfl (Qfm rfl XD) (λb14 _=>dBa ?_))))
  refine dSt 19 ?_ (hl:=(by simp only[Qk,List.length_set,List.length_cons,List.length_nil,List.length_map];omega))
  refine dTu [] ?_
  refine dNi ?_
  refine aU2 ?_
  refine Qe (L':=[(0,_),(1,_),(2,_),(6,_),(9,_),(10,_),(11,_),(12,_),(15,_),(17,_),(20,_)]) aSx (λ_ h=>h) ?_
  refine aU3 ?_
  refine oCq rfl (λw1 h1=>c29 w1 (Xp s r.p) ((ub4 s (r.p+4):Nat):Int) om om) (aU2 ?_)
  refine oOr 5 98 103 rfl
   (λhg15 _=>by
    refine aU5 ?_
    refine o_p (Qn rfl rfl Tryz.underlying9) rfl (aU2 ?_)
    exact oJf 5 103)
   (λhg17 _=>by
    refine aU4 ?_
    exact oJt 5 103) ?_
  refine aU ?_
  refine sCd rfl (λh19=>?_) λh19=>?_
  ·have hN:rdN s p0 count=none:=QfD hst hk (Qm5 (by rw[QjQ];have hq:=h19;grind))
   refine aU7 ?_
   exact Qj (rs:=[.cell 6 69,.tmp 7,.tmp 8]) rfl (.cell rfl Xv aPk rfl (.tmp rfl (.tmp rfl (.nil)))) (λw' h'=>⟨(⟨true,ea,ec,r.es,none,0,[]⟩,0),by rw[hN];rfl,⟨λ_ _ h9=>(by rw[hN]at h9;cases h9),by show r.es.length<=_;omega,hee⟩,(h'.own_nil 3 1).ent aEt⟩)
  have hK:Yq (Xp s r.p) (ub4 s (r.p+4))=true:=by rw[QjQ];have hq:=h19;grind
  have hok:=QsF h8 h4 hK
  refine aU6 ?_
  refine o_h (Qg (cs:=[_,_]) rfl rfl Qy XD rfl rfl rfl) rfl (λb20 _=>o_h (QO ((Xp s r.p).vals) rfl rfl rfl Qy Tryz.underlying67 XD rfl aPk (Q7 aPk) rfl (ev1 _) om (by simp only[maxLen];omega)) rfl (λb21 _=>aU2 ?_))
  refine o_h (Qg (cs:=[_]) rfl rfl QM YP rfl rfl rfl) rfl (λb22 _=>o_h (QO (inV ((ub4 s (r.p+4):Nat):Int)) rfl rfl rfl QM Tryz.underlying28 YP rfl aPk (Q7 aPk) rfl (Qfe _) om (by simp only[maxLen];omega)) rfl (λb23 _=>aT8 ?_))
  refine aU3 ?_
  refine Qe (L':=[(0,_),(1,_),(2,_),(6,_),(9,_),(10,_),(11,_),(20,_)]) aSx (λ_ h=>h) ?_
  refine aT3 ?_
  refine aU2 ?_
  exact QK (k+1,⟨r.es++[Xp s r.p],r.cs++[((ub4 s (r.p+4):Nat):Int)],r.p+ub2 s r.p⟩,(b21.1,b21.2),(b23.1,b23.2)) (by(try simp only[]);omega) ⟨by(try simp only[]);omega,QcN hst hok⟩ (by dsimp only;rw[List.length_append];exact aSx) (λw h=>by dsimp only;rw[@List.length_append _ r.es _,@List.length_append _ r.cs _,QdG,QdG];exact h.ent aEt)
 obtain rfl:k=count:=om
 refine Qh rfl ?_
 refine aT5 ?_
 refine aU ?_
 refine o_p (Qn rfl rfl Tryz.underlying9) rfl (aU2 ?_)
 refine oOr 5 123 128 rfl
  (λhg24 _=>by
   refine aU5 ?_
   refine oCq rfl (λw1 h1=>by have h9:=c72 w1 s (r.p) 2 om om om;rw[QdI,Qdv]at h9;exact h9) (aU2 ?_)
   exact oJf 5 128)
  (λhg26 _=>by
   refine aU4 ?_
   exact oJt 5 128) ?_
 refine aU ?_
 refine oOr 6 129 135 rfl
  (λhg28 _=>by
   refine aT6 ?_
   refine aU ?_
   refine oCq rfl (λw1 h1=>by have h9:=c72 w1 s (r.p+2) 2 om om om;rw[QdI,Qdv]at h9;exact h9) (aU2 ?_)
   exact oJf 6 135)
  (λhg30 _=>by
   refine aU5 ?_
   exact oJt 6 135) ?_
 refine aU ?_
 refine oOr 7 136 143 rfl
  (λhg32 _=>by
   refine aT6 ?_
   refine aU ?_
   refine oCq rfl (λw1 h1=>by have h9:=c72 w1 s (r.p+4) 4 om om om;rw[ZF,Qf1]at h9;exact h9) (aU ?_)
   refine oCq rfl (λw1 h1=>c40 w1 _ _ _) (aU2 ?_)
   exact oJf 7 143)
  (λhg34 _=>by
   refine aU6 ?_
   exact oJt 7 143) ?_
 refine aU ?_
 refine sCd rfl (λh36=>?_) λh36=>?_
 ·have hN:rdN s p0 k=none:=Qm4 hst (by unfold Zu;have hq:=h36;grind)
  refine aU7 ?_
  exact Qj (rs:=[.cell 6 69,.tmp 7,.tmp 8]) rfl (.cell rfl Xv aPk rfl (.tmp rfl (.tmp rfl (.nil)))) (λw' h'=>⟨(⟨true,ea,ec,r.es,none,0,[]⟩,0),by rw[hN];rfl,⟨λ_ _ h9=>(by rw[hN]at h9;cases h9),by show r.es.length<=_;omega,hee⟩,(h'.own_nil 3 1).ent aEt⟩)
 have hE:Zu s r.p=true:=by unfold Zu;have hq:=h36;grind
 have hN:=QlR hst hE
 obtain⟨h8,_,_,_⟩:r.p+8<=s.length/\ub2 s r.p=8/\ub2 s (r.p+2)=0/\ub4 s (r.p+4)<=120:=by simpa[Zu]using hE
 obtain⟨ch,hch⟩:∃ch:List Int,ch=r.cs++[((ub4 s (r.p+4):Nat):Int)]:=⟨_,rfl⟩
 rw[<-hch]at hN
 have hchl:ch.length<=1001:=by rw[hch,List.length_append];simp only[List.length_cons,List.length_nil];omega
 refine aT7 ?_
 refine oCq rfl (λw1 h1=>by have h9:=c72 w1 s (r.p+4) 4 om om om;rw[ZF,Qf1]at h9;exact h9) (o_h (Qg (cs:=[_]) rfl rfl QM YP rfl rfl rfl) rfl (λb37 _=>o_h (QO (inV ((ub4 s (r.p+4):Nat):Int)) rfl rfl rfl QM Tryz.underlying28 YP rfl aPk (Q7 aPk) rfl (Qfe _) om (by simp only[maxLen];omega)) rfl (λb38 _=>Qf (show _=Value.slice b38.1 ch.length b38.2 from by rw[hch,List.length_append];rfl) (aU8 ?_))))
 refine Qe (L':=[(0,_),(1,_),(2,_),(6,_),(9,_),(10,_),(11,_),(18,_),(20,_)]) aSx (λ_ h=>h) ?_
 refine aU4 ?_
 obtain⟨fa,fc⟩:=b38
 dsimp only
 refine Yv (λw9 h=>HS.kids_some (l:=ch) (by rw[hch,List.length_append];exact Nat.succ_pos _) (show HS w [] [.kids fa fc ch] w9 from by rw[hch,HA.kids,@List.length_append _ r.cs _,QdG];exact h.ent aEt) .here) λhfa=>?_
 obtain⟨gf,rfl⟩:=hfa
 refine Qo (α:=Nat) [18,19,152,153,154,155,156,157,158,159,160,161,162,163,164,165] (λi=>[(19,.int .i64 (i:Int)),(18,.int .i64 ((czI (ch.take i):Nat):Int))]) (λ_=>HS w [] [.blk b2 69 3 [.bool true,.slice ea r.es.length ec,.slice none 0 0],.own (.slice ea r.es.length ec) 27 2 r.es.length (r.es.flatMap TEnt.vals),.own (.slice (some ⟨gf,0,none⟩) ch.length fc) 3 1 ch.length (ch.flatMap inV),.blk b1 69 3 [.bool false,.slice none 0 0,.slice none 0 0]]) (λi=>i<=ch.length) (λi=>ch.length-i) 0 (Nat.zero_le _) aSx (λw h=>by rw[hch,@List.length_append _ r.cs _,QdG];exact h.ent aEt) (λi hi1=>?_)
 refine aU8 ?_
 refine sCd rfl (λh39=>?_) λh39=>?_
 ·have hi:i<ch.length:=by omega
  have hcz:((czI (ch.take (i+1)):Nat):Int)=((czI (ch.take i):Nat):Int)+(if nth ch i=0 then 1 else 0):=by rw[QpM hi];split<;>simp
  have hczl:=QqA (ch.take i)
  rw[List.length_take]at hczl
  refine aU7 ?_
  refine o_p (Qa rfl rfl rfl QM (i) om om rfl) rfl (o_q (Qx rfl rfl Ye (λw9 h=>(show Rd w9 [] gf (0+i*1) (.int .i64 (nth ch i))from(h.rw_own (a:=some ⟨gf,0,none⟩) (l:=ch) iv1 aPk rfl).rdj (i:=i) 0 hi rfl))) rfl (aU ?_))
  refine oCq rfl (λw1 h1=>Qus w1 _) (aT ?_)
  refine Qf (show _=Value.int .i64 ((czI (ch.take (i+1)):Nat):Int)from by rw[hcz];by_cases hz9:nth ch i=0<;>simp only[hz9,decide_true,decide_false,if_true,if_false,Bool.false_eq_true]<;>first|rfl|exact Qfd om om) (aT6 ?_)
  refine aU2 ?_
  exact sBk (i+1) om om (by exact aSx)
 obtain rfl:i=ch.length:=om
 rw[List.take_length]
 refine Qh rfl ?_
 refine aU6 ?_
 refine sCd rfl (λh40=>?_) λh40=>?_
 ·have hz:noz ch=true:=Qte.1 (by have hq:=h40;omega)
  rw[hz]at hN
  have hN:rdN s p0 k=some (⟨true,r.es,ch⟩,r.p+8):=hN
  refine QjE ?_
  refine aU4 ?_
  exact Qj (rs:=[.cell 6 69,.tmp 7,.tmp 8]) rfl (.cell rfl Xv aPk rfl (.tmp rfl (.tmp rfl (.nil)))) (λw' h'=>by first|exact⟨(⟨true,ea,ec,r.es,some ⟨gf,0,none⟩,fc,ch⟩,r.p+8),by rw[hN];rfl,⟨λnd e h9=>(by rw[hN]at h9;injection h9 with h9;injection h9 with q1 q2;subst q1 q2;exact⟨rfl,rfl⟩),by show r.es.length<=_;omega,hee⟩,h'.ent aEt⟩|exact⟨(⟨true,ea,ec,r.es,none,0,[]⟩,r.p+8),by rw[hN];rfl,⟨λnd e h9=>(by rw[hN]at h9;injection h9 with h9;injection h9 with q1 q2;subst q1 q2;exact⟨rfl,rfl⟩),by show r.es.length<=_;omega,hee⟩,(h'.own_nil 3 1).ent aEt⟩)
 have hz0:¬czI ch=0:=by have hq:=h40;omega
 have hz:noz ch=false:=by cases hb:noz ch;rfl;exact absurd (Qte.2 hb) hz0
 rw[hz]at hN
 refine aU7 ?_
 refine sCd rfl (λh41=>?_) λh41=>?_
 ·have hz2:QdD ch=false:=by cases hb:QdD ch;rfl;have:=Qnb.2 hb;have hq:=h41;omega
  rw[hz2]at hN
  have hN:rdN s p0 k=none:=hN
  refine aU7 ?_
  exact Qj (rs:=[.cell 6 69,.tmp 7,.tmp 8]) rfl (.cell rfl Xv aPk rfl (.tmp rfl (.tmp rfl (.nil)))) (λw' h'=>⟨(⟨true,ea,ec,r.es,none,0,[]⟩,0),by rw[hN];rfl,⟨λ_ _ h9=>(by rw[hN]at h9;cases h9),by show r.es.length<=_;omega,hee⟩,(h'.own_nil 3 1).ent aEt⟩)
 have hz2:QdD ch=true:=Qnb.1 (by have:=QqA ch;have hq:=h41;omega)
 rw[hz2]at hN
 have hN:rdN s p0 k=some (⟨true,r.es,[]⟩,r.p+8):=hN
 refine aT6 ?_
 refine aU4 ?_
 exact Qj (rs:=[.cell 6 69,.tmp 7,.tmp 8]) rfl (.cell rfl Xv aPk rfl (.tmp rfl (.tmp rfl (.nil)))) (λw' h'=>by first|exact⟨(⟨true,ea,ec,r.es,some ⟨gf,0,none⟩,fc,ch⟩,r.p+8),by rw[hN];rfl,⟨λnd e h9=>(by rw[hN]at h9;injection h9 with h9;injection h9 with q1 q2;subst q1 q2;exact⟨rfl,rfl⟩),by show r.es.length<=_;omega,hee⟩,h'.ent aEt⟩|exact⟨(⟨true,ea,ec,r.es,none,0,[]⟩,r.p+8),by rw[hN];rfl,⟨λnd e h9=>(by rw[hN]at h9;injection h9 with h9;injection h9 with q1 q2;subst q1 q2;exact⟨rfl,rfl⟩),by show r.es.length<=_;omega,hee⟩,(h'.own_nil 3 1).ent aEt⟩)
theorem Qtb:QQ Tryz.prog 58=true:=by kernel_rfl
instance:TFn Tryz.prog 58:=⟨Qtb⟩
theorem QrZ{co:Int}{l:List TEnt}{k:Nat}(hco:QC co=0)(hk:k<l.length)(h:∀i,i<k->QaT co l i=true):Qbw co (nth l (k-1)).key (nth l k).key=X3 co (nth l k).key:=by
  unfold Qbw;rw[if_pos hco];rcases Nat.eq_zero_or_pos k with h0|h0
  · subst h0
    by_cases hz:X3 co (nth l 0).key=0
    · rw[if_pos hz]
    · rw[if_neg hz]
  · have h1:=h (k-1) om;unfold QaT at h1;rw[Bool.and_eq_true]at h1;rw[if_pos (Qqt.2 h1.1)]
theorem c93(w:World)(co:Int)(a:Option Addr)(cap:Nat)(l:List TEnt)(hs:Rw TEnt.vals 2 w [] a l)(hl:l.length<=100000)(hkl:∀x∈l,x.key.length<=1000000)(hco:QC co=0):CR 93 #[.int .i64 co,.slice a l.length cap] w (.bool (Qd7 co l)):=by
 refine eN2 Tryz.func93 Tryz.ntmps93 ?_
 refine Zg ?_
 refine Qo (α:=Nat) [4,5,6,7,8,11,12,13,14,15,16,17,18,19,20,21,22,23,24,25,26,27,28,29,30,31,32,33,34,35,36,37,38,39,40] (λk=>[(11,.int .i64 (k:Int))]) (λ_=>HS w [] []) (λk=>k<=l.length/\∀i,i<k->QaT co l i=true) (λk=>l.length-k) 0 ⟨Nat.zero_le _,λi h=>absurd h (Nat.not_lt_zero _)⟩ aSx (λw h=>h.ent aEt) (λk hkk=>?_)
 obtain⟨hk1,hk2⟩:=hkk
 refine aU5 ?_
 refine sCd rfl (λh1=>?_) λh1=>?_
 ·have hk:k<l.length:=by omega
  have hcm:=QrZ hco hk hk2
  refine aU6 ?_
  refine o_p (Qa rfl rfl rfl Qy (k) om om (Rw.some hs om)) rfl (o_q (QI _ rfl rfl Xb rfl (Rw.rd hs om)) rfl (oAl (λb2 _=>?_) XD))
  refine aU4 ?_
  refine Qu [] QG ?_
  refine dP 0 ?_
  refine dP 1 ?_
  refine dP 2 ?_
  refine dP 3 ?_
  try refine dWr ?_
  refine dV 4 rfl (Qgg rfl rfl rfl ) ?_
  refine Qv (show _=Value.int .i64 ((k-1:Nat):Int)from congrArg (Value.int .i64) (by split<;>omega)) (dV 5 rfl (Qa rfl rfl rfl Qy (k-1) om om (Rw.some hs om)) (dFa 6 ?_))
  refine dQ 7 [] rfl (Qc rfl rfl Zd ((hs.rdj (i:=k-1) 0 om rfl))) (dFa 8 ?_)
  refine dLd 9 [] ?_
  refine dQ 10 [] rfl (QA rfl Qtb rfl (λw1 h1=>c58 w1 co (nth l (k-1)).key (nth l k).key (hkl _ (Qz om)) (hkl _ (Qz hk)))) (dP 11 ?_)
  refine dP 12 ?_
  refine dP 13 ?_
  refine dP 14 ?_
  refine dP 15 ?_
  refine dNi ?_
  refine aU5 ?_
  refine oOr 7 32 39 rfl
   (λhg3 _=>by
    refine aU6 ?_
    refine X0 3 35 38 rfl
     (λhg5 _=>by
      refine aU5 ?_
      exact oJt 3 38)
     (λhg7 _=>by
      refine aU3 ?_
      exact oJf 3 38) ?_
    exact oJf 5 39)
   (λhg9 _=>by
    refine aU6 ?_
    exact oJt 7 39) ?_
  refine aU ?_
  refine sCd rfl (λh11=>?_) λh11=>?_
  ·have hF:Qd7 co l=false:=QlU hk (by unfold QaT;have hq:=h11;rw[hcm]at hq;unfold X3 at hq;grind)
   refine aU ?_
   refine Qe (L':=[(0,_),(1,_),(9,_),(10,_),(11,_)]) aSx (λ_ h=>h) ?_
   refine aU3 ?_
   exact rV (h:=by rw[hF];rfl)
  have hA:QaT co l k=true:=by unfold QaT;have hq:=h11;rw[hcm]at hq;unfold X3 at hq;grind
  refine aU2 ?_
  refine Qe (L':=[(0,_),(1,_),(9,_),(10,_),(11,_)]) aSx (λ_ h=>h) ?_
  refine aT2 ?_
  refine aU2 ?_
  exact sBk (k+1) om ⟨om,λi hi=>(Nat.lt_or_ge i k).elim (hk2 i) (λh=>by obtain rfl:i=k:=om;exact hA)⟩
 obtain rfl:k=l.length:=om
 have hT:Qd7 co l=true:=Qbn.2 hk2
 refine Qh rfl ?_
 refine aU4 ?_
 exact rV (h:=by rw[hT];rfl)
theorem c70(w:World)(j:Nat)(n:LNd)(hj:j<=3)(hes:Rw TEnt.vals 2 w [] n.ea n.es)(hl:n.es.length<=100000)(hkl:∀x∈n.es,x.key.length<=1000000):CR 70 #[.int .i64 (j:Int),.agg #[.bool n.us,.slice n.ea n.es.length n.ec,.slice n.ca n.cs.length n.cc]] w (.bool (Zv (j:Int) n.es)):=by
 refine eN2 Tryz.func70 Tryz.ntmps70 ?_
 refine aU2 ?_
 refine oBx λb1 _=>?_
 refine aU8 ?_
 refine Qo (α:=Nat) [4,5,6,7,8,9,10,11,12,13,14,15,16,17,18,19,20,21] (λk=>[(5,.int .i64 (k:Int))]) (λ_=>HS w [] [.blk b1 69 3 (LNd.vals n)]) (λk=>k<=n.es.length/\∀i,i<k->QL (j:Int) (nth n.es i).key=true) (λk=>n.es.length-k) 0 ⟨Nat.zero_le _,λi h=>absurd h (Nat.not_lt_zero _)⟩ aSx (λw h=>h.ent aEt) (λk hkk=>?_)
 obtain⟨hk1,hk2⟩:=hkk
 refine aU9 ?_
 refine sCd rfl (λh2=>?_) λh2=>?_
 ·have hk:k<n.es.length:=by omega
  refine aU9 ?_
  refine o_p (Qa rfl rfl rfl Qy (k) om om (Rw.some hes om)) rfl (aU ?_)
  refine o_q (Qc rfl rfl Zd ((hes.rdj (i:=k) 0 om rfl))) rfl (oCq rfl (λw1 h1=>c17 w1 j (nth n.es k).key hj (hkl _ (Qz hk))) (aU2 ?_))
  refine sCd rfl (λh3=>?_) λh3=>?_
  ·have hF:Zv (j:Int) n.es=false:=QkJ hk (by have hq:=h3;unfold X3 at hq;grind)
   refine aU4 ?_
   exact rV (h:=by rw[hF];rfl)
  have hA:QL (j:Int) (nth n.es k).key=true:=by have hq:=h3;unfold X3 at hq;grind
  refine aT5 ?_
  refine aU2 ?_
  exact sBk (k+1) om ⟨om,λi hi=>(Nat.lt_or_ge i k).elim (hk2 i) (λh=>by obtain rfl:i=k:=om;exact hA)⟩
 obtain rfl:k=n.es.length:=om
 have hT:Zv (j:Int) n.es=true:=Qdd hk2
 refine Qh rfl ?_
 refine aU4 ?_
 exact rV (h:=by rw[hT];rfl)
instance:TFn Tryz.prog 91:=⟨by kernel_rfl⟩
instance:TFn Tryz.prog 92:=⟨by kernel_rfl⟩
instance:TFn Tryz.prog 93:=⟨by kernel_rfl⟩
theorem c28(w:World)(s:List UInt8)(hsl:s.length<=1000000):CE 28 #[.string (bs s)] w [] (λg:(Option Addr×Nat)×List LNd=>.tuple #[.agg #[.int .i64 (Qb s).1.co,.int .i64 (Qb s).1.mo,.int .i64 (Qb s).1.rm,.slice g.1.1 g.2.length g.1.2],.int .i64 (Qb s).2]) (λg=>pln g.2=(Qb s).1.ns) λg=>[.nodes 27 69 g.1.1 g.1.2 g.2]:=by
 have hb4:=(s.getD 4 0).toNat_lt
 have hb5:=(s.getD 5 0).toNat_lt
 have hb6:=(s.getD 6 0).toNat_lt
 have hb7:=(s.getD 7 0).toNat_lt
 have hf9:Xs [.int .i64 (if QC (at1 s 4)=0 then XI (at1 s 5) (at1 s 6)else QC (at1 s 4)),.int .i64 (cond (decide (at1 s 5<=4)) 0 8),.int .i64 (cond (decide (at1 s 7<=at1 s 6)) 0 16)]=rtE s:=by simp only[Xs,rtE,cond_eq_ite,decide_eq_true_eq];grind
 refine eN1 Tryz.func28 Tryz.ntmps28 ?_
 refine aU2 ?_
 refine oAl (λb1 _=>?_) Xn
 refine aU5 ?_
 refine o_h (QbG rfl rfl Tryz.underlying9 Tryz.underlying139 Tryz.underlying5 rfl (by simp only[maxLen];omega)) rfl (λ⟨b2,c3⟩⟨h4,k5⟩=>aU9 ?_)
 refine sCd rfl (λh6=>?_) λh6=>?_
 ·have hR:Qb s=(noT,10):=Qkx (by have hq:=h6;omega)
  refine aU2 ?_
  refine o_p (QF (cs:=[_,_,_,_]) rfl rfl ZQ Xn rfl) rfl (aU3 ?_)
  exact Qj (rs:=[.cell 2 37,.tmp 3]) rfl (.cell rfl XM aPk rfl (.tmp rfl (.nil))) (λw' h'=>⟨((none,0),[]),by rw[hR];rfl,by rw[hR];rfl,(Q9 27 69 h'.nil).ent aEt⟩)
 have h16:¬s.length<16:=by have hq:=h6;omega
 refine aU5 ?_
 refine o_p (QJ _ _ 0 4 rfl rfl QR rfl ⟨_,_,rfl,rfl⟩ om om) rfl (Qf (show _=Value.slice (some ⟨b2,0,none⟩) 4 c3 from by rw[Y8];rfl) (o_q (Qh1 s rfl rfl Tryz.underlying139 Tryz.underlying9 Tryz.underlying5 om aPk) rfl (aU2 ?_)))
 refine sCd rfl (λh7=>?_) λh7=>?_
 ·have hR:Qb s=(noT,3):=QmF h16 (by have hq:=h7;intro h9;rw[h9]at hq;simp[ZI]at hq)
  refine aU2 ?_
  refine o_p (QF (cs:=[_,_,_,_]) rfl rfl ZQ Xn rfl) rfl (aU3 ?_)
  exact Qj (rs:=[.cell 2 37,.tmp 3]) rfl (.cell rfl XM aPk rfl (.tmp rfl (.nil))) (λw' h'=>⟨((none,0),[]),by rw[hR];rfl,by rw[hR];rfl,(Q9 27 69 h'.nil).ent aEt⟩)
 have hs4:s.take 4=ZI:=by have hq:=h7;first|exact hq|simpa[ZI]using hq
 refine aU2 ?_
 refine Qu [] QG ?_
 refine dP 0 ?_
 refine dV 1 rfl (Qa rfl rfl rfl QR 4 rfl om rfl) (dQ 2 [] rfl (Qx rfl rfl QdU (λw9 h=>by rw[Nat.zero_add];exact h.rd_blk (Mc:=[]) aPk (by rw[Nat.mul_one];exact QaQ (l:=s) (k:=4) om) (by simp))) (dV 3 rfl (Qm rfl rfl Zz Yn) ?_))
 try refine dWr ?_
 refine Qv (show _=Value.int .i64 (at1 s 4)from by first|rfl|exact Qfd om om) (dP 4 ?_)
 refine dV 5 rfl (Qa rfl rfl rfl QR 5 rfl om rfl) (dQ 6 [] rfl (Qx rfl rfl QdU (λw9 h=>by rw[Nat.zero_add];exact h.rd_blk (Mc:=[]) aPk (by rw[Nat.mul_one];exact QaQ (l:=s) (k:=5) om) (by simp))) (dV 7 rfl (Qm rfl rfl Zz Yn) ?_))
 try refine dWr ?_
 refine Qv (show _=Value.int .i64 (at1 s 5)from by first|rfl|exact Qfd om om) (dP 8 ?_)
 refine dV 9 rfl (Qa rfl rfl rfl QR 6 rfl om rfl) (dQ 10 [] rfl (Qx rfl rfl QdU (λw9 h=>by rw[Nat.zero_add];exact h.rd_blk (Mc:=[]) aPk (by rw[Nat.mul_one];exact QaQ (l:=s) (k:=6) om) (by simp))) (dV 11 rfl (Qm rfl rfl Zz Yn) ?_))
 try refine dWr ?_
 refine Qv (show _=Value.int .i64 (at1 s 6)from by first|rfl|exact Qfd om om) (dP 12 ?_)
 refine dV 13 rfl (Qa rfl rfl rfl QR 7 rfl om rfl) (dQ 14 [] rfl (Qx rfl rfl QdU (λw9 h=>by rw[Nat.zero_add];exact h.rd_blk (Mc:=[]) aPk (by rw[Nat.mul_one];exact QaQ (l:=s) (k:=7) om) (by simp))) (dV 15 rfl (Qm rfl rfl Zz Yn) ?_))
 try refine dWr ?_
 refine Qv (show _=Value.int .i64 (at1 s 7)from by first|rfl|exact Qfd om om) (dP 16 ?_)
 refine dP 17 ?_
 refine dP 18 ?_
 refine dP 19 ?_
 refine dNi ?_
 refine aU ?_
 refine Qe (L':=[(2,_),(3,_),(4,_),(5,_),(6,_),(7,_),(8,_)]) aSx (λ_ h=>h) ?_
 refine aU4 ?_
 refine oCh rfl (λw1 h1=>c91 w1 (at1 s 4) (at1 s 5) (at1 s 6)) (λ⟨⟨na,nc⟩,nL⟩hnL=>aU3 ?_)
 refine oAl (λb8 _=>?_) Xn
 refine aU9 ?_
 refine oCq rfl (λw1 h1=>c60 w1 _ _) (aU3 ?_)
 refine oCq rfl (λw1 h1=>c60 w1 _ _) (o_h (Qg (cs:=[_,_,_]) rfl rfl Yt ZP rfl rfl rfl) rfl (λb9 _=>oCq rfl (λw1 h1=>f59 h1 aPk (by rfl) (by rfl) (by decide)) (aU7 ?_)))
 refine sCd rfl (λh10=>?_) λh10=>?_
 ·have hR:Qb s=(noT,Xs [.int .i64 (if QC (at1 s 4)=0 then XI (at1 s 5) (at1 s 6)else QC (at1 s 4)),.int .i64 (cond (decide (at1 s 5<=4)) 0 8),.int .i64 (cond (decide (at1 s 7<=at1 s 6)) 0 16)]):=by rw[hf9];exact Quf h16 hs4 (by have hq:=h10;rwa[hf9]at hq)
  refine aU2 ?_
  refine o_p (QF (cs:=[_,_,_,_]) rfl rfl ZQ Xn rfl) rfl (aU4 ?_)
  exact Qj (rs:=[.cell 2 37,.tmp 3]) rfl (.cell rfl XM aPk rfl (.tmp rfl (.nil))) (λw' h'=>⟨((none,0),[]),by rw[hR];rfl,by rw[hR];rfl,(Q9 27 69 h'.nil).ent aEt⟩)
 have hE:rtE s=0:=by have hq:=h10;rwa[hf9]at hq
 obtain⟨h3,h4,h5,h6⟩:=Qwt hE
 have hem:Qg7 (at1 s 4) (at1 s 5) (at1 s 6)=⟨at1 s 4,at1 s 5,at1 s 6,[⟨true,[],[]⟩]⟩:=by unfold Qg7;rw[if_pos h3,if_pos h4]
 rw[hem]at hnL
 obtain⟨x9,hx9,_⟩:=Qlp hnL
 subst hx9
 rw[hem]
 dsimp only
 refine Yv (λw9 h=>HS.nodes_some (L:=[x9]) (Nat.succ_pos _) h aPk) λhna=>?_
 obtain⟨g9,rfl,hna1,hna2⟩:=hna
 refine YL (λw9 h=>(show HS w [] (.blk g9 69 (nc*3) [.bool x9.us,.slice x9.ea x9.es.length x9.ec,.slice x9.ca x9.cs.length x9.cc]::_) w9 from HS.nodes_blk h aPk)) (aU4 ?_)
 refine o_p (QJ _ _ 8 s.length rfl rfl QR ⟨_,_,rfl,rfl⟩ rfl om om) rfl (aU ?_)
 refine oCh rfl (λw1 h1=>c92 w1 s 8 (ub1 s 7) (YW (some ⟨b2,0,none⟩) c3 8 1) (c3-8) (by have h9:=(h1.vl_blk (cs:=s.map bv) aPk).dropA (k:=8) (cap:=c3) (by rw[List.length_map];omega) (by rw[List.length_map];omega);rw[<-List.map_drop]at h9;exact h9) om hsl om (by have hq9:c3<=maxLen:=(by assumption);simp only[maxLen]at hq9;omega) (by have:=YC s 7;omega)) (λ⟨gn,gr,gl,gc⟩hgn=>aU4 ?_)
 refine oAl (λb11 _=>?_) Xc
 refine aU6 ?_
 refine Qe (L':=[(2,_),(3,_),(5,_),(9,_),(11,_),(12,_),(13,_)]) aSx (λ_ h=>h) ?_
 refine aU4 ?_
 refine oOr 4 72 76 rfl
  (λhg12 _=>by
   refine aU6 ?_
   exact oJf 4 76)
  (λhg14 _=>by
   refine aU3 ?_
   exact oJt 4 76) ?_
 refine aU ?_
 refine oOr 6 77 83 rfl
  (λhg16 _=>by
   refine aU7 ?_
   refine oCq rfl (λw1 h1=>c93 w1 (at1 s 4) gn.ea gn.ec gn.es (h1.rw_own ev2 aPk rfl) (by have h9:gn.es.length<=ub1 s 7:=hgn.2.1;have:=YC s 7;omega) (λx hx=>by have:=hgn.2.2 x hx;simp only[Yq,decide_eq_true_eq]at this;omega) h3) (aU2 ?_)
   exact oJf 6 83)
  (λhg18 _=>by
   refine aU5 ?_
   exact oJt 6 83) ?_
 refine aU ?_
 refine sCd rfl (λh20=>?_) λh20=>?_
 ·have hR:Qb s=(noT,3):=Qk4 h16 hs4 h3 h4 h5 h6 (λn9 hn9=>by have hq:=h20;have h91:=hgn.1 _ _ hn9;rw[hn9]at hq;have h92:gn.es=n9.es:=congrArg Nd.es h91.1;rw[h92]at hq;have h93:=h91.2;(try simp only[Option.isSome_some]at hq);grind)
  refine aU2 ?_
  refine o_p (QF (cs:=[_,_,_,_]) rfl rfl ZQ Xn rfl) rfl (aU3 ?_)
  exact Qj (rs:=[.cell 2 37,.tmp 3]) rfl (.cell rfl XM aPk rfl (.tmp rfl (.nil))) (λw' h'=>⟨((none,0),[]),by rw[hR];rfl,by rw[hR];rfl,(Q9 27 69 h'.nil).ent aEt⟩)
 obtain⟨⟨n9,e9⟩,hrd⟩:∃q,rdN s 8 (ub1 s 7)=some q:=Option.isSome_iff_exists.1 (by have hq:=h20;grind)
 obtain⟨hpl9,hgl9⟩:=hgn.1 _ _ hrd
 have he9:=(Qef om hrd).2.2.1
 have hee:e9=s.length:=by have hq:=h20;grind
 subst hee
 have hes9:gn.es=n9.es:=congrArg Nd.es hpl9
 have hR:=Qtc h16 hs4 h3 h4 h5 h6 hrd (by rw[<-hes9];have hq:=h20;grind)
 refine aU5 ?_
 refine Qf (show _=Value.slice (some ⟨g9,0,none⟩) 1 nc from rfl) (aU ?_)
 refine o_p (Qa rfl rfl rfl QH 0 rfl om rfl) rfl (Qf (show _=Value.pointer (some ⟨g9,0,none⟩)from rfl) (aU8 ?_))
 exact Qj (rs:=[.cell 2 37,.tmp 3]) rfl (.cell rfl XM aPk rfl (.tmp rfl (.nil))) (λw' h'=>⟨((some ⟨g9,0,none⟩,nc),[gn]),by rw[hR];rfl,by rw[hR];show[gn.pl]=_;rw[hpl9],(HS.nodes_of1 (HS.own_shut (n:=1) (cap:=nc) (sz:=3) (h'.ent (Bs:=[.blk g9 69 (nc*3) (LNd.vals gn),.ents 27 gn.ea gn.ec gn.es,.kids gn.ca gn.cc gn.cs]) aEt) rfl hna1 hna2)).ent aEt⟩)
instance:TFn Tryz.prog 98:=⟨by kernel_rfl⟩
instance:TFn Tryz.prog 70:=⟨by kernel_rfl⟩
theorem c31(w:World)(s:List UInt8)(hsl:s.length<=1000000):CE 31 #[.string (bs s)] w [] (λg:(Option Addr×Nat)×List LNd=>.tuple #[.agg #[.int .i64 (Qb s).1.co,.int .i64 (Qb s).1.mo,.int .i64 (Qb s).1.rm,.slice g.1.1 g.2.length g.1.2],.int .i64 (Qb s).2]) (λg=>pln g.2=(Qb s).1.ns) λg=>[.nodes 27 69 g.1.1 g.1.2 g.2]:=by
 have hb4:=Qcv s 4
 have hb5:=Qcv s 5
 have hb6:=Qcv s 6
 have hb7:=Qcv s 7
 refine eN1 Tryz.func31 Tryz.ntmps31 ?_
 refine aU2 ?_
 refine oAl (λb1 _=>?_) Xn
 refine aU4 ?_
 refine o_p (QF (cs:=[_,_,_,_]) rfl rfl ZQ Xn rfl) rfl (oAl (λb2 _=>?_) Xn)
 refine aU6 ?_
 refine o_p (Qn rfl rfl Tryz.underlying9) rfl (aU2 ?_)
 refine sCd rfl (λh3=>?_) λh3=>?_
 ·have hR:Qb s=(noT,10):=Qkx (by have hq:=h3;omega)
  refine aU6 ?_
  exact Qj (rs:=[.cell 2 37,.tmp 3]) rfl (.cell rfl XM aPk rfl (.tmp rfl (.nil))) (λw' h'=>⟨((none,0),[]),by rw[hR];rfl,by rw[hR];rfl,(Q9 27 69 h'.nil).ent aEt⟩)
 have h16:¬s.length<16:=by have hq:=h3;omega
 refine aU5 ?_
 refine o_p (ZJ 4 rfl rfl rfl Tryz.underlying9 rfl om) rfl (aU2 ?_)
 refine sCd rfl (λh4=>?_) λh4=>?_
 ·have hR:Qb s=(noT,3):=QmF h16 (by have hq:=h4;intro h9;rw[h9]at hq;simp[ZI]at hq)
  refine aU6 ?_
  exact Qj (rs:=[.cell 2 37,.tmp 3]) rfl (.cell rfl XM aPk rfl (.tmp rfl (.nil))) (λw' h'=>⟨((none,0),[]),by rw[hR];rfl,by rw[hR];rfl,(Q9 27 69 h'.nil).ent aEt⟩)
 have hs4:s.take 4=ZI:=by have hq:=h4;first|exact hq|simpa[ZI]using hq
 refine aU4 ?_
 refine oCq rfl (λw1 h1=>by have h9:=c72 w1 s 4 1 om om om;rw[QdC]at h9;exact h9) (aU ?_)
 refine oCq rfl (λw1 h1=>by have h9:=c72 w1 s 5 1 om om om;rw[QdC]at h9;exact h9) (aU ?_)
 refine oCq rfl (λw1 h1=>by have h9:=c72 w1 s 6 1 om om om;rw[QdC]at h9;exact h9) (o_p (QF (cs:=[_,_,_,_]) rfl rfl ZQ Xn rfl) rfl (oAl (λb5 _=>?_) Xn))
 refine aU7 ?_
 refine oCq rfl (λw1 h1=>c96 w1 _) (aU7 ?_)
 refine sCd rfl (λh6=>?_) λh6=>?_
 ·have hR:Qb s=(noT,QC (at1 s 4)):=Qqh h16 hs4 h6
  refine aU7 ?_
  exact Qj (rs:=[.cell 2 37,.tmp 3]) rfl (.cell rfl XM aPk rfl (.tmp rfl (.nil))) (λw' h'=>⟨((none,0),[]),by rw[hR];rfl,by rw[hR];rfl,(Q9 27 69 h'.nil).ent aEt⟩)
 have h3:QC (at1 s 4)=0:=h6
 obtain⟨j,hj,hj3⟩:=Qa7 h3
 refine aU8 ?_
 refine oCq rfl (λw1 h1=>c97 w1 _ _) (aU3 ?_)
 refine Qe (L':=[(0,_),(2,_),(3,_),(4,_),(5,_),(7,_)]) aSx (λ_ h=>h) ?_
 refine aU4 ?_
 refine sCd rfl (λh7=>?_) λh7=>?_
 ·have hR:Qb s=(noT,XI (at1 s 5) (at1 s 6)):=Qq3 h16 hs4 h3 h7
  refine aU7 ?_
  exact Qj (rs:=[.cell 2 37,.tmp 3]) rfl (.cell rfl XM aPk rfl (.tmp rfl (.nil))) (λw' h'=>⟨((none,0),[]),by rw[hR];rfl,by rw[hR];rfl,(Q9 27 69 h'.nil).ent aEt⟩)
 have h4:XI (at1 s 5) (at1 s 6)=0:=h7
 refine aU8 ?_
 refine sCd rfl (λh8=>?_) λh8=>?_
 ·have hR:Qb s=(noT,8):=Qm3 h16 hs4 h3 h4 (by have hq:=h8;omega)
  refine aU6 ?_
  exact Qj (rs:=[.cell 2 37,.tmp 3]) rfl (.cell rfl XM aPk rfl (.tmp rfl (.nil))) (λw' h'=>⟨((none,0),[]),by rw[hR];rfl,by rw[hR];rfl,(Q9 27 69 h'.nil).ent aEt⟩)
 have h5:at1 s 5<=4:=by have hq:=h8;omega
 refine aU4 ?_
 refine oCq rfl (λw1 h1=>by have h9:=c72 w1 s 7 1 om om om;rw[QdC]at h9;exact h9) (Zo ?_)
 refine sCd rfl (λh9=>?_) λh9=>?_
 ·have hR:Qb s=(noT,16):=QmT h16 hs4 h3 h4 h5 (by have hq:=h9;omega)
  refine aU6 ?_
  exact Qj (rs:=[.cell 2 37,.tmp 3]) rfl (.cell rfl XM aPk rfl (.tmp rfl (.nil))) (λw' h'=>⟨((none,0),[]),by rw[hR];rfl,by rw[hR];rfl,(Q9 27 69 h'.nil).ent aEt⟩)
 have h6:at1 s 7<=at1 s 6:=by have hq:=h9;omega
 refine aU5 ?_
 refine oCh rfl (λw1 h1=>c98 w1 s 8 (ub1 s 7) om hsl (by have:=YC s 7;omega)) (λ⟨gn,gl⟩hgn=>aU4 ?_)
 refine oAl (λb10 _=>?_) Xc
 refine Zo ?_
 refine oOr 5 65 70 rfl
  (λhg11 _=>by
   refine aU5 ?_
   refine o_p (Qn rfl rfl Tryz.underlying9) rfl (aU2 ?_)
   exact oJf 5 70)
  (λhg13 _=>by
   refine aU4 ?_
   exact oJt 5 70) ?_
 refine aU ?_
 refine oOr 6 71 77 rfl
  (λhg15 _=>by
   refine aU7 ?_
   refine oCq rfl (λw1 h1=>by have h9:=c70 w1 j gn hj3 (h1.rw_own ev2 aPk rfl) (by have h9:gn.es.length<=ub1 s 7:=hgn.2.1;have:=YC s 7;omega) (λx hx=>by have:=hgn.2.2 x hx;simp only[Yq,decide_eq_true_eq]at this;omega);rw[<-hj]at h9;exact h9) (aU2 ?_)
   exact oJf 6 77)
  (λhg17 _=>by
   refine aU5 ?_
   exact oJt 6 77) ?_
 refine aU ?_
 refine sCd rfl (λh19=>?_) λh19=>?_
 ·have hR:Qb s=(noT,3):=Qk4 h16 hs4 h3 h4 h5 h6 (λn9 hn9=>by have hq:=h19;have h91:=hgn.1 _ _ hn9;rw[hn9]at hq;have h92:gn.es=n9.es:=congrArg Nd.es h91.1;(try simp only[Option.isSome_some]at hq);have h93:gl=s.length:=h91.2;have h94:Zv (at1 s 4) gn.es=false:=(by grind);rw[<-h92];cases hb9:Qd7 (at1 s 4) gn.es;rfl;have h95:Zv (at1 s 4) gn.es=true:=Qdd (λi hi=>(by have:=Qbn.1 hb9 i hi;unfold QaT at this;rw[Bool.and_eq_true]at this;exact this.1));rw[h94]at h95;cases h95)
  refine aU ?_
  refine Qe (L':=[(2,_),(3,_),(4,_),(5,_),(9,_)]) aSx (λ_ h=>h) ?_
  refine aU5 ?_
  exact Qj (rs:=[.cell 2 37,.tmp 3]) rfl (.cell rfl XM aPk rfl (.tmp rfl (.nil))) (λw' h'=>⟨((none,0),[]),by rw[hR];rfl,by rw[hR];rfl,(Q9 27 69 h'.nil).ent aEt⟩)
 obtain⟨⟨n9,e9⟩,hrd⟩:∃q,rdN s 8 (ub1 s 7)=some q:=Option.isSome_iff_exists.1 (by have hq:=h19;grind)
 obtain⟨hpl9,hgl9⟩:=hgn.1 _ _ hrd
 have hee:e9=s.length:=by have hq:=h19;grind
 subst hee
 have hes9:gn.es=n9.es:=congrArg Nd.es hpl9
 have hky:Zv (at1 s 4) gn.es=true:=by have hq:=h19;grind
 have hgl:gn.es.length<=255:=by have h9:gn.es.length<=ub1 s 7:=hgn.2.1;have:=YC s 7;omega
 have hkl9:∀x∈gn.es,x.key.length<=1000000:=(λx hx=>by have:=hgn.2.2 x hx;simp only[Yq,decide_eq_true_eq]at this;omega)
 refine aU3 ?_
 refine Qe (L':=[(2,_),(3,_),(4,_),(5,_),(9,_)]) aSx (λ_ h=>h) ?_
 refine aU4 ?_
 refine Qo (α:=Nat) [3,12,79,80,81,82,83,84,85,86,87,88,89,90,91,92,93,94,95,96,97,98,99,100,101,102,103] (λi=>[(12,.int .i64 (i:Int))]) (λ_=>HS w [] [.blk b10 69 3 [.bool gn.us,.slice gn.ea gn.es.length gn.ec,.slice gn.ca gn.cs.length gn.cc],.ents 27 gn.ea gn.ec gn.es,.kids gn.ca gn.cc gn.cs,.blk b5 37 4 [.int .i64 (at1 s 4),.int .i64 (at1 s 5),.int .i64 (at1 s 6),.slice none 0 0],.blk b2 37 4 [.int .i64 0,.int .i64 0,.int .i64 0,.slice none 0 0],.blk b1 37 4 [.int .i64 0,.int .i64 0,.int .i64 0,.slice none 0 0]]) (λi=>1<=i/\∀i9,0<i9->i9<i->QN (at1 s 4) (nth gn.es (i9-1)).key (nth gn.es i9).key<0) (λi=>gn.es.length+1-i) 1 ⟨Nat.le_refl _,λi h1 h2=>om⟩ aSx (λw h=>h.ent aEt) (λi hii=>?_)
 obtain⟨hi1,hi2⟩:=hii
 refine aU9 ?_
 refine sCd rfl (λh20=>?_) λh20=>?_
 ·have hi:i<gn.es.length:=by omega
  refine Yv (λw9 h=>HS.ents_some (l:=gn.es) om h aPk) λhge=>?_
  obtain⟨ge,hge⟩:=hge
  refine aU4 ?_
  refine Qu [] QG ?_
  refine dFa 0 ?_
  refine dLd 1 [] ?_
  refine dFa 2 ?_
  refine dLd 3 [] ?_
  refine dP 4 ?_
  refine dP 5 ?_
  try refine dWr ?_
  refine dV 6 rfl (Qa rfl rfl rfl Qy (i-1) om om hge) (dFa 7 ?_)
  refine dQ 8 [] rfl (Qx rfl rfl Zd (λw9 h=>by have h8:=(h.rw_own (a:=gn.ea) (l:=gn.es) ev2 aPk rfl).rdj (i:=i-1) 0 om rfl;rw[hge]at h8;exact h8)) (dFa 9 ?_)
  refine dLd 10 [] ?_
  refine dP 11 ?_
  refine dV 12 rfl (Qa rfl rfl rfl Qy (i) om om hge) (dFa 13 ?_)
  refine dQ 14 [] rfl (Qx rfl rfl Zd (λw9 h=>by have h8:=(h.rw_own (a:=gn.ea) (l:=gn.es) ev2 aPk rfl).rdj (i:=i) 0 hi rfl;rw[hge]at h8;exact h8)) (dQ 15 [] rfl (QA rfl Qgr rfl (λw1 h1=>by have h9:=c65 w1 j (nth gn.es (i-1)).key (nth gn.es i).key hj3 (by rw[<-hj];exact QgD hky om) (by rw[<-hj];exact QgD hky hi) (hkl9 _ (Qz om)) (hkl9 _ (Qz hi));rw[<-hj]at h9;exact h9)) (dP 16 ?_))
  refine dNi ?_
  refine sCd rfl (λh21=>?_) λh21=>?_
  ·have hR:Qb s=(noT,3):=Qk4 h16 hs4 h3 h4 h5 h6 (λm9 hm9=>by rw[hrd]at hm9;injection hm9 with hm9;injection hm9 with q1 q2;subst q1;rw[<-hes9];refine QlU hi (i:=i) ?_;unfold QaT;have hq:=h21;rw[Bool.and_eq_false_iff];exact .inr (decide_eq_false om))
   refine aU6 ?_
   exact Qj (rs:=[.cell 2 37,.tmp 3]) rfl (.cell rfl XM aPk rfl (.tmp rfl (.nil))) (λw' h'=>⟨((none,0),[]),by rw[hR];rfl,by rw[hR];rfl,(Q9 27 69 h'.nil).ent aEt⟩)
  have hlt:QN (at1 s 4) (nth gn.es (i-1)).key (nth gn.es i).key<0:=by have hq:=h21;omega
  refine aT5 ?_
  refine aU2 ?_
  exact sBk (i+1) om ⟨om,λi9 h91 h92=>(Nat.lt_or_ge i9 i).elim (hi2 i9 h91) (λh=>by obtain rfl:i9=i:=om;exact hlt)⟩
 have hA:Qd7 (at1 s 4) gn.es=true:=Qbn.2 (λi9 h9=>by unfold QaT;rw[QgD hky h9,Bool.true_and];exact decide_eq_true (Nat.eq_zero_or_pos i9 |>.imp id (λhp=>hi2 i9 hp om)))
 have hR:=Qtc h16 hs4 h3 h4 h5 h6 hrd (by rw[<-hes9];exact hA)
 refine Qh rfl ?_
 refine aU3 ?_
 refine o_h (Qg (cs:=[_,_,_]) rfl rfl QH Xc rfl rfl rfl) rfl (λb22 _=>aU9 ?_)
 exact Qj (rs:=[.cell 2 37,.tmp 3]) rfl (.cell rfl XM aPk rfl (.tmp rfl (.nil))) (λw' h'=>⟨((some ⟨b22,0,none⟩,1),[gn]),by rw[hR];rfl,by rw[hR];show[gn.pl]=_;rw[hpl9],(HS.nodes_of1 (HS.own_shut (n:=1) (cap:=1) (sz:=3) (h'.ent (Bs:=[.blk b22 69 (1*3) (LNd.vals gn),.ents 27 gn.ea gn.ec gn.es,.kids gn.ca gn.cc gn.cs]) aEt) rfl (by decide) (by decide))).ent aEt⟩)
end Go.Proofs
namespace Gx
namespace Ev
open Go Go.RowKit
section
variable{ops:List Oper}
theorem b3{a b c:Bool}(h:(Bool.rec (Bool.rec false c b) false a:Bool)=true):a=false/\b=true/\c=true:=by
 cases a<;>cases b<;>cases c<;>first|exact⟨rfl,rfl,rfl⟩|cases h
end
end Ev
end Gx
namespace Go.Proofs
open Go Go.RowKit Gx
attribute [local irreducible] Go.Calls Gx.S Gx.O Gx.D Gx.OpP Gx.OpQ Gx.OpH
set_option maxRecDepth 20000
instance:TFn Tryz.prog 11:=⟨by kernel_rfl⟩
instance:TFn Tryz.prog 26:=⟨by kernel_rfl⟩
instance:TFn Tryz.prog 21:=⟨by kernel_rfl⟩
instance:TFn Tryz.prog 28:=⟨by kernel_rfl⟩
instance:TFn Tryz.prog 31:=⟨by kernel_rfl⟩
theorem QfO:tsl Tryz.prog 236=some (5,1,1):=by kernel_rfl
theorem Qss(w:World)(i:Nat)(hi:i<=1000):CR 197 #[.int .i64 (i:Int)] w (.int .i64 ((tlA i:Nat):Int)):=by
 refine eN1 Tryz.func197 Tryz.ntmps197 ?_
 refine aT8 ?_
 refine aT ?_
 refine aT ?_
 refine aU2 ?_
 exact rV (h:=by rw[<-QsS i hi];rfl)
theorem c194(w:World)(s:List UInt8)(hl:2<=s.length):CR 194 #[.string (bs s)] w (.int .i64 ((ub2 s 0:Nat):Int)):=by
 refine eN1 Tryz.func194 Tryz.ntmps194 ?_
 refine aU5 ?_
 refine Qu [] QG ?_
 refine dP 0 ?_
 refine dV 1 rfl (XE rfl rfl rfl Tryz.underlying9 0 rfl om) ?_
 refine dV 2 rfl (Qm rfl rfl Zz Yn) ?_
 try refine dWr ?_
 refine dP 3 ?_
 refine dV 4 rfl (XE rfl rfl rfl Tryz.underlying9 1 rfl om) ?_
 refine dV 5 rfl (Qm rfl rfl Zz Yn) ?_
 try refine dWr ?_
 refine dV 6 rfl (Qgs rfl rfl rfl (by decide) 8 rfl) (dP 7 ?_)
 refine dP 8 ?_
 refine dNi ?_
 exact rV (h:=by rw[<-Qpz];rfl)
theorem c206(w:World)(u:Int)(hu:0<=u/\u<65536):CR 206 #[.int .i64 u] w (.string (bs (le2 u))):=by
 refine eN1 Tryz.func206 Tryz.ntmps206 ?_
 refine aU7 ?_
 refine o_p (Qm rfl rfl Yn Zz) rfl (Qf (show _=bv (by8 u)from YM _) (aU ?_))
 refine o_p (Qbl rfl rfl rfl (by decide) 8 rfl) rfl (o_p (Qm rfl rfl Yn Zz) rfl (Qf (show _=bv (by8 (u/256))from YM _) (o_h (Qg (cs:=[_,_]) rfl rfl QR Qad rfl rfl rfl) rfl (λb1 _=>o_q (Ym rfl rfl Tryz.underlying139 Tryz.underlying9 Tryz.underlying5 aPk (by simp[le2]) (Zi (le2 u))) rfl (aU2 ?_)))))
 exact rV (h:=by exact congrArg (λz=>Ending.returned (Value.string (bs z))) (YQ (le2 u)))
theorem Qoj(w:World)(a:Option Addr)(cap m i:Nat)(l:List UInt8)(hs:Vl w a (l.map bv))(hm:l.length=m)(hi:i+2<=m)(hc:m<=cap)(hc9:cap<=9223372036854775807):CR 195 #[.slice a m cap,.int .i64 (i:Int)] w (.string (bs (Qs l i 2))):=by
 refine eN2 Tryz.func195 Tryz.ntmps195 ?_
 refine QjE ?_
 refine o_p (QJ _ _ i (i+2) rfl rfl QfO ⟨_,_,rfl,rfl⟩ ⟨_,_,rfl,om⟩ om om) rfl (o_q (Z1 (Qs l i 2) rfl rfl Tryz.underlying236 Tryz.underlying9 Tryz.underlying5 (by rw[Q6 om];omega) (hs.sub om om)) rfl (aU2 ?_))
 exact rV
theorem Qr7(w:World)(g cap m tot p:Nat)(l x:List UInt8)(hw:HS w (fps [.blk g u8T tot ((l).map bv)]) [.blk g u8T tot ((l).map bv)] w)(hm:l.length=m)(hp:p+x.length<=m)(hpm:p<m)(hc:m<=cap)(hc9:cap<=9223372036854775807):Calls Tryz.prog 196 #[.slice (some ⟨g,0,none⟩) m cap,.int .i64 (p:Int),.string (bs x)] w λen w'=>∃_:Unit,en=.returned (.tuple #[])/\True/\HS w (fps [.blk g u8T tot ((l).map bv)]) [.blk g u8T tot ((Q2 l p x).map bv)] w':=by
 refine eW3 Tryz.func196 Tryz.ntmps196 hw ?_
 refine aU3 ?_
 refine o_p (QJ _ _ p m rfl rfl QfO ⟨_,_,rfl,rfl⟩ rfl om om) rfl (aU ?_)
 refine o_h (QgV (b:=g) (i:=p) rfl rfl (λ_=>by rw[XL om]<;>(congr 2<;>omega)) rfl QfO aPt om om om) rfl (λ_ _=>aU ?_)
 exact Za rfl (λw' h'=>⟨(),rfl,trivial,h'.ent aEt⟩)
theorem c238(w:World)(s:List UInt8)(hl:s.length<=1000000):CR 238 #[.string (bs s),.int .u8 0] w (.string (bs (trL s))):=by
 refine eN2 Tryz.func238 Tryz.ntmps238 ?_
 refine aU6 ?_
 refine Qo (α:=List UInt8) [0,5,6,7,8,9,10,11,12,13,14,15] (λl=>[(0,.string (bs l))]) (λ_=>_) (λl=>l.length<=s.length/\trL l=trL s) (λl=>l.length) s ⟨Nat.le_refl _,rfl⟩ aSx (λw h=>h) (λl hl9=>?_)
 obtain⟨hl1,hl2⟩:=hl9
 refine aU4 ?_
 refine o_p (Qn rfl rfl Tryz.underlying9) rfl (aU2 ?_)
 refine X0 5 8 13 rfl
  (λhg1 _=>by
   refine aU3 ?_
   refine o_p (XE rfl rfl rfl Tryz.underlying9 0 rfl om) rfl ?_
   refine aU4 ?_
   exact oJt 5 13)
  (λhg3 _=>by
   refine aU4 ?_
   exact oJf 5 13) ?_
 refine aU ?_
 refine sCd rfl (λh5=>?_) λh5=>?_
 ·have hk:0<l.length/\l.getD 0 0=0:=by have hq:=h5;first|(exact⟨om,QkL.1 hq.2⟩)|(simp[QkL]at hq;exact⟨om,hq.2⟩)
  refine aU4 ?_
  refine o_p (Y6 1 rfl rfl rfl Tryz.underlying9 rfl om) rfl (aU3 ?_)
  exact QK (l.drop 1) (by rw[List.length_drop];omega) ⟨by rw[List.length_drop];omega,(QjT hk.1 hk.2).trans hl2⟩ aSx (λw h=>h)
 have hk:¬(0<l.length/\l.getD 0 0=0):=λh9=>by have hq:=h5;have h8:=QkL.2 h9.2;simp[h8]at hq;omega
 refine Qh rfl ?_
 refine aU5 ?_
 exact rV (h:=by rw[<-hl2,Qi5 hk];rfl)
theorem c239(w:World)(s:List UInt8)(hl:s.length<=1000000):CR 239 #[.string (bs s),.int .u8 0] w (.string (bs (trR s))):=by
 refine eN2 Tryz.func239 Tryz.ntmps239 ?_
 refine aU6 ?_
 refine Qo (α:=List UInt8) [0,5,6,7,8,9,10,11,12,13,14,15,16,17,18,19,20,21] (λl=>[(0,.string (bs l))]) (λ_=>_) (λl=>l.length<=s.length/\trR l=trR s) (λl=>l.length) s ⟨Nat.le_refl _,rfl⟩ aSx (λw h=>h) (λl hl9=>?_)
 obtain⟨hl1,hl2⟩:=hl9
 refine aU4 ?_
 refine o_p (Qn rfl rfl Tryz.underlying9) rfl (aU2 ?_)
 refine X0 8 8 16 rfl
  (λhg1 _=>by
   refine aU5 ?_
   refine o_p (Qn rfl rfl Tryz.underlying9) rfl (aT2 ?_)
   refine aU ?_
   refine o_p (XE rfl rfl rfl Tryz.underlying9 (l.length-1) om om) rfl ?_
   refine aU4 ?_
   exact oJt 8 16)
  (λhg3 _=>by
   refine aU7 ?_
   exact oJf 8 16) ?_
 refine aU ?_
 refine sCd rfl (λh5=>?_) λh5=>?_
 ·have hk:0<l.length/\l.getD (l.length-1) 0=0:=by have hq:=h5;first|(exact⟨om,QkL.1 hq.2⟩)|(simp[QkL]at hq;exact⟨om,hq.2⟩)
  refine aU5 ?_
  refine o_p (Qn rfl rfl Tryz.underlying9) rfl (aT ?_)
  refine o_p (ZJ (l.length-1) rfl rfl rfl Tryz.underlying9 om om) rfl (aU3 ?_)
  exact QK (l.take (l.length-1)) (by rw[List.length_take];omega) ⟨by rw[List.length_take];omega,(QoQ hk.1 hk.2).trans hl2⟩ aSx (λw h=>h)
 have hk:¬(0<l.length/\l.getD (l.length-1) 0=0):=λh9=>by have hq:=h5;have h8:=QkL.2 h9.2;simp[h8]at hq;omega
 refine Qh rfl ?_
 refine aU5 ?_
 exact rV (h:=by rw[<-hl2,QpH hk];rfl)
theorem Quw:QQ Tryz.prog 239=true:=by kernel_rfl
theorem Qt0:QQ Tryz.prog 238=true:=by kernel_rfl
instance:TFn Tryz.prog 129:=⟨by kernel_rfl⟩
instance:TFn Tryz.prog 204:=⟨by kernel_rfl⟩
instance:TFn Tryz.prog 205:=⟨by kernel_rfl⟩
instance:TFn Tryz.prog 203:=⟨by kernel_rfl⟩
instance:TFn Tryz.prog 206:=⟨by kernel_rfl⟩
theorem Qii:QQ Tryz.prog 196=true:=by kernel_rfl
instance:TFn Tryz.prog 197:=⟨by kernel_rfl⟩
instance:TFn Tryz.prog 195:=⟨by kernel_rfl⟩
instance:TFn Tryz.prog 194:=⟨by kernel_rfl⟩
theorem c204(w:World)(s:List UInt8)(hl:s.length<=1000000):CR 204 #[.string (bs s),.string (bs [0])] w (.string (bs (trL (trR s)))):=by
 have hT:=Quu s
 refine eN2 Tryz.func204 Tryz.ntmps204 ?_
 refine Zo ?_
 refine oOr 3 9 12 rfl
  (λhg1 _=>by
   refine aU4 ?_
   exact oJf 3 12)
  (λhg3 _=>by
   refine aU2 ?_
   exact oJt 3 12) ?_
 refine aU ?_
 refine sCd rfl (λh5=>?_) λh5=>?_
 ·have h0:s=[]:=by have hq:=h5;simpa using hq
  refine aU5 ?_
  exact rV (h:=by subst h0;rfl)
 refine aU5 ?_
 refine o_p (Qn rfl rfl Tryz.underlying9) rfl (aU2 ?_)
 refine X0 4 17 21 rfl
  (λhg6 _=>by
   refine aU3 ?_
   refine o_p (XE rfl rfl rfl Tryz.underlying9 0 rfl om) rfl ?_
   refine aU2 ?_
   exact oJt 4 21)
  (λhg8 _=>by
   refine aU3 ?_
   exact oJf 4 21) ?_
 refine aU ?_
 refine sCd rfl (λh10=>?_) λh10=>?_
 ·refine aU ?_
  refine Qu [] QG ?_
  refine dP 0 ?_
  refine dP 1 ?_
  refine dV 2 rfl (XE rfl rfl rfl Tryz.underlying9 0 rfl om) ?_
  refine dQ 3 [] rfl (QA rfl Quw rfl (λw1 h1=>c239 w1 s hl)) (dP 4 ?_)
  refine dV 5 rfl (XE rfl rfl rfl Tryz.underlying9 0 rfl om) ?_
  refine dQ 6 [] rfl (QA rfl Qt0 rfl (λw1 h1=>c238 w1 (trR s) om)) (dP 7 ?_)
  refine dNi ?_
  exact rV
 exfalso;simp at h10
theorem c149(w:World)(s:List UInt8)(u:Int)(h5:s.length=512)(hz:zer (Qs s 40 18)=true)(hu:1<=u/\u<=65535):CR 149 #[.string (bs s),.int .i64 u] w (.tuple #[.string (bs (Qb9 s u)),.int .i64 0]):=by
 have hsl:Qs s 40 18=(s.drop 40).take 18:=rfl
 have hb:(Qs s 40 18).length=18:=Q6 om
 have hzt:=(QqL (Qs s 40 18)).2 hz
 have h0l:s.length=s.length:=rfl
 refine eN2 Tryz.func149 Tryz.ntmps149 ?_
 refine aU9 ?_
 refine oCq rfl (λw1 h1=>Qu4 w1 _) (aU7 ?_)
 refine sCd rfl (λh1=>?_) λh1=>?_
 ·exfalso;have hq:=h1;simp[h5]at hq
 refine aU5 ?_
 refine o_p (Xa _ _ 40 58 rfl rfl Tryz.underlying9 ⟨_,_,rfl,rfl⟩ ⟨_,_,rfl,rfl⟩ om om) rfl (Qf (show _=Value.string (bs (Qs s 40 18))from by rw[Y2 (n:=18) rfl]) (oCq rfl (λw1 h1=>c204 w1 (Qs s 40 18) om) (aU ?_)))
 refine oCq rfl (λw1 h1=>QtD w1 _ _) (aU ?_)
 refine oCq rfl (λw1 h1=>c205 w1 _ _ _) (oCq rfl (λw1 h1=>QtD w1 _ _) (o_h (Qg (cs:=[_,_]) rfl rfl Yt ZP rfl rfl rfl) rfl (λb2 _=>oCq rfl (λw1 h1=>f203 h1 aPk (by rfl) (by rfl) (by decide)) (aU7 ?_))))
 refine sCd rfl (λh3=>?_) λh3=>?_
 ·exfalso;have hq:=h3;simp[hzt,hu]at hq;exact hq rfl
 refine aU4 ?_
 refine o_h (QbG rfl rfl Tryz.underlying9 Tryz.underlying236 Tryz.underlying5 rfl (by simp only[maxLen];omega)) rfl (λ⟨b4,c5⟩⟨h6,k7⟩=>aU6 ?_)
 refine oCq rfl (λw1 h1=>c206 w1 u om) (o_h (QE (Cs:=[.blk b4 u8T c5 ((s).map bv)]) rfl Qii rfl aPs (λw1 h1 hf=>Qr7 w1 b4 c5 s.length c5 40 s (le2 u) hf rfl (by rw[show((le2 u)).length=2 from rfl];first|omega|(unfold tlA;omega)) (by first|omega|(unfold tlA;omega)) om (by simp only[maxLen]at *;omega))) rfl (λ_ _=>aU7 ?_))
 refine Qe (L':=[(1,_),(4,_),(5,_),(8,_),(34,_)]) aSx (λ_ h=>h) ?_
 refine Qo (α:=Nat) [9,34,35,36,37,38,39,40,41,42,43,44,45,46,47,48,49,50,51,52] (λk=>[(34,.int .i64 (k:Int))]) (λk=>HS w [] [.blk b4 u8T c5 ((prI s u k).map bv)]) (λk=>k<=8) (λk=>8-k) 0 (Nat.zero_le _) aSx (λw h=>h.ent aEt) (λk hk8=>?_)
 refine aU5 ?_
 refine sCd rfl (λh8=>?_) λh8=>?_
 ·have hk:k<8:=by omega
  have hpl:(prI s u k).length=s.length:=by rw[Qea h5 k om,h5]
  have hpl1:(Q2 (prI s u k) (42+2*k) (Qs (prI s u k) (tlA k) 2)).length=s.length:=by rw[XY (by rw[show(Qs (prI s u k) (tlA k) 2).length=2 from Q6 (by rw[hpl];unfold tlA;omega),hpl];omega),hpl]
  refine aT13 ?_
  refine aT ?_
  refine Qf (show _=Value.int .i64 ((42+2*k:Nat):Int)from by congr 1) (aU2 ?_)
  refine oCq rfl (λw1 h1=>Qss w1 k om) (oCq rfl (λw1 h1=>Qoj w1 (some ⟨b4,0,none⟩) c5 s.length (tlA k) (prI s u k) (h1.vl_blk aPk) hpl (by unfold tlA;omega) om (by simp only[maxLen]at *;omega)) (o_h (QE (Cs:=[.blk b4 u8T c5 (((prI s u k)).map bv)]) rfl Qii rfl aPs (λw1 h1 hf=>Qr7 w1 b4 c5 s.length c5 (42+2*k) (prI s u k) (Qs (prI s u k) (tlA k) 2) hf hpl (by rw[show((Qs (prI s u k) (tlA k) 2)).length=2 from Q6 (by rw[hpl];unfold tlA;omega)];first|omega|(unfold tlA;omega)) (by first|omega|(unfold tlA;omega)) om (by simp only[maxLen]at *;omega))) rfl (λ_ _=>aU4 ?_)))
  refine oCq rfl (λw1 h1=>Qss w1 k om) (aU ?_)
  refine oCq rfl (λw1 h1=>c206 w1 u om) (o_h (QE (Cs:=[.blk b4 u8T c5 (((Q2 (prI s u k) (42+2*k) (Qs (prI s u k) (tlA k) 2))).map bv)]) rfl Qii rfl aPs (λw1 h1 hf=>Qr7 w1 b4 c5 s.length c5 (tlA k) (Q2 (prI s u k) (42+2*k) (Qs (prI s u k) (tlA k) 2)) (le2 u) hf hpl1 (by rw[show((le2 u)).length=2 from rfl];first|omega|(unfold tlA;omega)) (by first|omega|(unfold tlA;omega)) om (by simp only[maxLen]at *;omega))) rfl (λ_ _=>aT4 ?_))
  refine aU2 ?_
  exact sBk (k+1)
 obtain rfl:k=8:=om
 have hpl:(prI s u 8).length=s.length:=by rw[Qea h5 8 om,h5]
 refine Qh rfl ?_
 refine aU3 ?_
 refine o_q (Ym rfl rfl Tryz.underlying236 Tryz.underlying9 Tryz.underlying5 aPk (by simp[hpl]) (Zi _)) rfl (aU3 ?_)
 exact Qj (rs:=[.tmp 4,.tmp 5]) rfl (.tmp rfl (.tmp rfl (.nil))) (λw' h'=>⟨by rw[YQ];rfl,h'.below⟩)
theorem c193(w:World)(s:List UInt8)(hs5:s.length=512):CE 193 #[.string (bs s)] w [] (λg:Option Addr×Nat=>.slice g.1 (YU s 8).length g.2) (λg=>True) λg=>[.own (.slice g.1 (YU s 8).length g.2) 3 1 (YU s 8).length ((YU s 8).flatMap inV)]:=by
 refine eN1 Tryz.func193 Tryz.ntmps193 ?_
 refine aU7 ?_
 refine o_h (QbG rfl rfl Tryz.underlying9 Tryz.underlying236 Tryz.underlying5 rfl (by simp only[maxLen];omega)) rfl (λ⟨b1,c2⟩⟨h3,k4⟩=>Zg ?_)
 refine Qo (α:=Nat×Option Addr×Nat) [4,5,8,9,10,11,12,13,14,15,16,17,18,19,20,21,22,23,24,25,26,27,28] (λx=>[(8,.int .i64 (x.1:Int)),(4,.slice x.2.1 (YU s x.1).length x.2.2)]) (λx=>HS w [] [.blk b1 5 c2 (s.map bv),.own (.slice x.2.1 (YU s x.1).length x.2.2) 3 1 (YU s x.1).length ((YU s x.1).flatMap inV)]) (λx=>x.1<=8) (λx=>8-x.1) (0,none,0) (Nat.zero_le _) aSx (λw h=>((h.own_nil 3 1).ent aEt)) (λ⟨k,ga,gc⟩hk8=>?_)
 dsimp only
 simp only[]at hk8
 have htl:=QlA s k
 refine aU5 ?_
 refine sCd rfl (λh5=>?_) λh5=>?_
 ·have hk:k<8:=by omega
  have h40:=QhX (s:=s) (p:=40) om
  refine Zw ?_
  refine oCq rfl (λw1 h1=>Qoj w1 (some ⟨b1,0,none⟩) c2 s.length 40 s (h1.vl_blk aPk) rfl (by first|omega|(unfold tlA;omega)) om (by simp only[maxLen]at *;omega)) (oCq rfl (λw1 h1=>c194 w1 (Qs s 40 2) (by rw[Q6 om];exact Nat.le_refl _)) (aU2 ?_))
  refine oOr 8 15 23 rfl
   (λhg6 _=>by
    refine aU5 ?_
    refine oCq rfl (λw1 h1=>Qss w1 k om) (aU ?_)
    refine oCq rfl (λw1 h1=>Qoj w1 (some ⟨b1,0,none⟩) c2 s.length (tlA k) s (h1.vl_blk aPk) rfl (by first|omega|(unfold tlA;omega)) om (by simp only[maxLen]at *;omega)) (aU3 ?_)
    refine oCq rfl (λw1 h1=>Qoj w1 (some ⟨b1,0,none⟩) c2 s.length 40 s (h1.vl_blk aPk) rfl (by first|omega|(unfold tlA;omega)) om (by simp only[maxLen]at *;omega)) (aU2 ?_)
    exact oJf 8 23)
   (λhg8 _=>by
    refine aU7 ?_
    exact oJt 8 23) ?_
  refine aU ?_
  refine sCd rfl (λh10=>?_) λh10=>?_
  ·have hnx:=QkV (s:=s) (k:=k) ((QhD hs5 hk).2 (by have hq:=h10;rw[h40]at hq;simpa using hq))
   refine aU3 ?_
   refine o_h (Qg (cs:=[_]) rfl rfl QM YP rfl rfl rfl) rfl (λb11 _=>o_h (QO _ rfl rfl rfl QM Tryz.underlying28 YP rfl aPk (Q7 aPk) rfl (by intro u hu;simp only[List.mem_cons,List.mem_nil_iff,or_false]at hu;subst hu;rfl) om (by simp only[maxLen];omega)) rfl (λb12 _=>aT5 ?_))
   refine aU2 ?_
   exact QK (k+1,b12.1,b12.2) (by(try simp only[]);omega) (by simp only[];omega) (by dsimp only;rw[hnx,List.length_append];exact aSx) (λw h=>by dsimp only;rw[hnx,List.length_append,QdG];exact h.ent aEt)
  have hnx:=Qoi (s:=s) (k:=k) (Bool.eq_false_iff.2 λh9=>by have hq:=h10;rw[h40]at hq;have h8:=(QhD hs5 hk).1 h9;simp at hq;rcases h8 with h8|h8;exact hq.1 h8;exact h8 hq.2)
  refine aT4 ?_
  refine aU2 ?_
  exact QK (k+1,ga,gc) (by(try simp only[]);omega) (by simp only[];omega) (by dsimp only;rw[hnx];exact aSx) (λw h=>by dsimp only;rw[hnx];exact h.ent aEt)
 obtain rfl:k=8:=om
 refine Qh rfl ?_
 refine aU5 ?_
 exact rT rfl rfl (λw' h'=>⟨(ga,gc),rfl,trivial,h'.ent aEt⟩)
instance:TFn Tryz.prog 193:=⟨by kernel_rfl⟩
def QhU(s:List UInt8):List UInt8×Int×Int:=if s.length=512 then if XB s then([],0,31)else(Q0 s,((ub2 s 40:Nat):Int),0)else([],0,10)
theorem QoU{s:List UInt8}(h:¬s.length=512):QhU s=([],0,10):=by unfold QhU;rw[if_neg h]
theorem Qho{s:List UInt8}(h:s.length=512)(ht:XB s=true):QhU s=([],0,31):=by unfold QhU;rw[if_pos h,if_pos ht]
theorem QfE{s:List UInt8}(h:s.length=512)(ht:XB s=false):QhU s=(Q0 s,((ub2 s 40:Nat):Int),0):=by unfold QhU;rw[if_pos h,ht];rfl
theorem c130(w:World)(s:List UInt8)(hsl:s.length<=1000000):CR 130 #[.string (bs s)] w (.tuple #[.string (bs (QhU s).1),.int .i64 (QhU s).2.1,.int .i64 (QhU s).2.2]):=by
 refine eN1 Tryz.func130 Tryz.ntmps130 ?_
 refine Zo ?_
 refine oCq rfl (λw1 h1=>Qu4 w1 _) (aU7 ?_)
 refine sCd rfl (λh1=>?_) λh1=>?_
 ·have hn5:¬s.length=512:=λh9=>by have hq:=h1;simp[h9]at hq
  have hV:=QoU hn5
  have hd9:decide ((s.length:Int)=512)=false:=decide_eq_false om
  refine aU7 ?_
  exact Qj (rs:=[.tmp 2,.tmp 3,.tmp 4]) rfl (.tmp rfl (.tmp rfl (.tmp rfl (.nil)))) (λw' h'=>⟨by rw[hV,hd9];rfl,h'.below⟩)
 have hs5:s.length=512:=by have hq:=h1;cases hd9:decide ((s.length:Int)=512);rw[hd9]at hq;cases hq;have:=of_decide_eq_true hd9;omega
 refine aU5 ?_
 refine oCh rfl (λw1 h1=>c193 w1 s hs5) (λ⟨ga,gc⟩_=>aU3 ?_)
 refine sCd rfl (λh2=>?_) λh2=>?_
 ·have hV:=Qho hs5 (Qhs.1 (by have hq:=h2;omega))
  refine aU6 ?_
  exact Qj (rs:=[.tmp 2,.tmp 3,.tmp 4]) rfl (.tmp rfl (.tmp rfl (.tmp rfl (.nil)))) (λw' h'=>⟨by rw[hV];rfl,h'.below⟩)
 have ht:XB s=false:=Bool.eq_false_iff.2 λh9=>by have hq:=h2;have:=Qhs.2 h9;omega
 have hV:=QfE hs5 ht
 refine aU4 ?_
 refine o_h (QbG rfl rfl Tryz.underlying9 Tryz.underlying236 Tryz.underlying5 rfl (by simp only[maxLen];omega)) rfl (λ⟨b3,c4⟩⟨h5,k6⟩=>aU5 ?_)
 refine oCq rfl (λw1 h1=>Qoj w1 (some ⟨b3,0,none⟩) c4 s.length 40 s (h1.vl_blk aPk) rfl om om (by simp only[maxLen]at *;omega)) (oCq rfl (λw1 h1=>by have h9:=c194 w1 (Qs s 40 2) (by rw[Q6 om];exact Nat.le_refl _);rw[QhX om]at h9;exact h9) (aU8 ?_))
 refine Qe (L':=[(2,_),(3,_),(4,_),(6,_),(7,_),(23,_)]) aSx (λ_ h=>h) ?_
 refine Qo (α:=Nat) [8,23,24,25,26,27,28,29,30,31,32,33,34,35] (λk=>[(23,.int .i64 (k:Int))]) (λk=>HS w [] [.blk b3 u8T c4 ((opI s k).map bv)]) (λk=>k<=8) (λk=>8-k) 0 (Nat.zero_le _) aSx (λw h=>h.ent aEt) (λk hk8=>?_)
 refine aU5 ?_
 refine sCd rfl (λh7=>?_) λh7=>?_
 ·have hk:k<8:=by omega
  have hpl:(opI s k).length=s.length:=by rw[Qai hs5 k om,hs5]
  have hxl:(Qs (opI s k) (42+2*k) 2).length=2:=Q6 (by rw[hpl];omega)
  have htl:tlA k=64*k+62:=rfl
  refine Zw ?_
  refine oCq rfl (λw1 h1=>Qss w1 k om) (aT3 ?_)
  refine aT ?_
  refine Qf (show _=Value.int .i64 ((42+2*k:Nat):Int)from by congr 1) (oCq rfl (λw1 h1=>Qoj w1 (some ⟨b3,0,none⟩) c4 s.length (42+2*k) (opI s k) (h1.vl_blk aPk) hpl om om (by simp only[maxLen]at *;omega)) (o_h (QE (Cs:=[.blk b3 u8T c4 (((opI s k)).map bv)]) rfl Qii rfl aPs (λw1 h1 hf=>Qr7 w1 b3 c4 s.length c4 (tlA k) (opI s k) (Qs (opI s k) (42+2*k) 2) hf hpl om om om (by simp only[maxLen]at *;omega))) rfl (λ_ _=>aT4 ?_)))
  refine aU2 ?_
  exact sBk (k+1)
 obtain rfl:k=8:=om
 have hpl:(opI s 8).length=s.length:=by rw[Qai hs5 8 om,hs5]
 have hop:(Q0 s).length=s.length:=by rw[YT hs5,hs5]
 have hpu:=Qm2 (x:=(opI s 8)) (l:=List.replicate 18 (0:UInt8)) (i:=40) (by rw[hpl,List.length_replicate];omega)
 have hcl:Qq ((opI s 8).map bv) 40 (Y4 [.int .u8 0] (18*1))=(Q0 s).map bv:=by rw[Qjn];exact hpu
 refine Qh rfl ?_
 refine aU3 ?_
 refine o_p (QJ _ _ 40 58 rfl rfl QfO ⟨_,_,rfl,rfl⟩ ⟨_,_,rfl,rfl⟩ om om) rfl ?_
 refine Qah (Qih (b:=b3) (i:=40) rfl rfl QfO Qad rfl rfl (by simp) aPt (λ_=>by rw[XL om]<;>(congr 2<;>omega)) (by rw[List.length_map,hpl];omega)) (λ_ _=>aU4 ?_)
 refine QZ (L:=_) (C':=HS w [] [.blk b3 u8T c4 ((Q0 s).map bv)]) (λw9 h=>by have h9:HS w [] [.blk b3 u8T c4 (Qq ((opI s 8).map bv) 40 (Y4 [.int .u8 0] (18*1)))] w9:=h;rwa[hcl]at h9) (o_q (Ym rfl rfl Tryz.underlying236 Tryz.underlying9 Tryz.underlying5 aPk (by simp[hop]) (Zi _)) rfl (aU5 ?_))
 exact Qj (rs:=[.tmp 2,.tmp 3,.tmp 4]) rfl (.tmp rfl (.tmp rfl (.tmp rfl (.nil)))) (λw' h'=>⟨by rw[hV,YQ];rfl,h'.below⟩)
theorem Qvk(w:World)(g m cap tot p:Nat)(l:List UInt8)(u:Int)(hw:HS w (fps [.blk g u8T tot ((l).map bv)]) [.blk g u8T tot ((l).map bv)] w)(hp:p+m<=l.length)(hm:2<=m)(hu:0<=u/\u<65536):Calls Tryz.prog 147 #[.slice (some ⟨g,p,none⟩) m cap,.int .u16 u] w λen w'=>∃_:Unit,en=.returned (.tuple #[])/\True/\HS w (fps [.blk g u8T tot ((l).map bv)]) [.blk g u8T tot ((Q2 l p (le2 u)).map bv)] w':=by
 refine eW2 Tryz.func147 Tryz.ntmps147 hw ?_
 refine aU4 ?_
 refine o_p (Qm rfl rfl YO Zz) rfl (Qf (show _=bv (by8 u)from YM _) (aU ?_))
 refine o_p (Qbl rfl rfl rfl (by decide) 8 rfl) rfl (o_p (Qm rfl rfl YO Zz) rfl (Qf (show _=bv (by8 (u/256))from YM _) (o_p (Qa rfl rfl rfl QR 0 rfl om rfl) rfl (aU ?_))))
 refine o_p (Qa rfl rfl rfl QR 1 rfl om rfl) rfl (aU2 ?_)
 exact Za rfl (λw' h'=>⟨(),rfl,trivial,by have h9:=Qm2 (x:=l) (l:=le2 u) (i:=p) (by simp only[le2,List.length_cons,List.length_nil];omega);rw[<-h9];exact h'.ent aEt⟩)
theorem Qlr:QQ Tryz.prog 147=true:=by kernel_rfl
instance:TFd Tryz.prog 118 1 3 3:=⟨by kernel_rfl⟩
theorem Qpw:QQ Tryz.prog 146=true:=by kernel_rfl
instance:TFd Tryz.prog 118 0 0 69:=⟨by kernel_rfl⟩
instance:TFd Tryz.prog 118 2 4 3:=⟨by kernel_rfl⟩
theorem QtK:QQ Tryz.prog 149=true:=by kernel_rfl
theorem QvY(w:World)(g m cap tot p:Nat)(l:List UInt8)(u:Int)(hw:HS w (fps [.blk g u8T tot ((l).map bv)]) [.blk g u8T tot ((l).map bv)] w)(hp:p+m<=l.length)(hm:2<=m):Calls Tryz.prog 147 #[.slice (some ⟨g,p,none⟩) m cap,.int .u16 (u%65536)] w λen w'=>∃_:Unit,en=.returned (.tuple #[])/\True/\HS w (fps [.blk g u8T tot ((l).map bv)]) [.blk g u8T tot ((Q2 l p (le2 u)).map bv)] w':=by
  have h9:=Qvk w g m cap tot p l (u%65536) hw hp hm om;rw[Qql]at h9;exact h9
theorem c146(w:World)(g m cap tot p:Nat)(l:List UInt8)(u:Int)(hw:HS w (fps [.blk g u8T tot ((l).map bv)]) [.blk g u8T tot ((l).map bv)] w)(hp:p+m<=l.length)(hm:4<=m)(hmc:m<=cap)(hc9:cap<=9223372036854775807)(hu:0<=u/\u<4294967296):Calls Tryz.prog 146 #[.slice (some ⟨g,p,none⟩) m cap,.int .u32 u] w λen w'=>∃_:Unit,en=.returned (.tuple #[])/\True/\HS w (fps [.blk g u8T tot ((l).map bv)]) [.blk g u8T tot ((Q2 l p (le4 u)).map bv)] w':=by
 have hl1:(Q2 l p (le2 u)).length=l.length:=XY (by show p+2<=_;omega)
 have he9:Q2 (Q2 l p (le2 u)) (p+2) (le2 (u/65536))=Q2 l p (le4 u):=by rw[QhR (l:=l) (p:=p) (q:=p+2) (x:=le2 u) rfl (by show p+2+2<=_;omega),show le2 (u/65536)=[by8 (u/65536),by8 (u/16777216)]from by unfold le2;rw[show u/65536/256=u/16777216 from om]];rfl
 refine eW2 Tryz.func146 Tryz.ntmps146 hw ?_
 refine aU4 ?_
 refine o_p (Qm rfl rfl Zl YO) rfl (Qf (show _=Value.int .u16 (u%65536)from by rw[Qj2]) (o_h (QE (Cs:=[.blk g u8T tot ((l).map bv)]) rfl Qlr rfl aPs (λw1 h1 hf=>QvY w1 g m cap tot p l u hf hp om)) rfl (λ_ _=>aU3 ?_)))
 refine o_p (QJ _ _ 2 m rfl rfl QR ⟨_,_,rfl,rfl⟩ rfl om om) rfl (Qf (show _=Value.slice (some ⟨g,p+2,none⟩) (m-2) (cap-2)from by rw[Qjp rfl om]) (aU ?_))
 refine o_p (Qbl rfl rfl rfl (by decide) 16 rfl) rfl (o_p (Qm rfl rfl Zl YO) rfl (Qf (show _=Value.int .u16 (u/65536)from by rw[Qj2];congr 1;omega) (o_h (QE (Cs:=[.blk g u8T tot (((Q2 l p (le2 u))).map bv)]) rfl Qlr rfl aPs (λw1 h1 hf=>Qvk w1 g (m-2) (cap-2) tot (p+2) (Q2 l p (le2 u)) (u/65536) hf om om om)) rfl (λ_ _=>aU ?_))))
 exact Za rfl (λw' h'=>⟨(),rfl,trivial,by rw[<-he9];exact h'.ent aEt⟩)
theorem c79(w:World)(n:LNd)(num lsn usn:Int)(hes:Rw TEnt.vals 2 w [] n.ea n.es)(hcs:Rw inV 1 w [] n.ca n.cs)(hp:NdP n.pl)(hcb:(XK n.pl).length<=448)(hnum:0<=num/\num<4294967296)(hlsn:0<=lsn/\lsn<4294967296)(hu:1<=usn/\usn<=65535):CR 79 #[.agg #[.bool n.us,.slice n.ea n.es.length n.ec,.slice n.ca n.cs.length n.cc,.int .i64 lsn,.int .i64 usn],.int .i64 num] w (.string (bs (QaD n.pl num lsn usn))):=by
 have hel:n.es.length<=1000:=hp.el
 have z0:(List.replicate 512 (0:UInt8)).length=512:=List.length_replicate
 have z1:(Q2 (List.replicate 512 (0:UInt8)) 0 Qeh).length=512:=by rw[XY (by rw[z0];decide),z0]
 have z2:(Q2 (Q2 (List.replicate 512 (0:UInt8)) 0 Qeh) 8 (le4 lsn)).length=512:=by rw[XY (by rw[z1];show 8+4<=512;decide),z1]
 have z3:(Q2 (Q2 (Q2 (List.replicate 512 (0:UInt8)) 0 Qeh) 8 (le4 lsn)) 12 (le4 num)).length=512:=by rw[XY (by rw[z2];show 12+4<=512;decide),z2]
 have hd9:=QtJ num lsn n.es.length
 have hfu:((hdB num lsn n.es.length)++XK n.pl)++List.replicate (512-((hdB num lsn n.es.length)++XK n.pl).length) 0=Qab n.pl num lsn:=by rw[List.length_append,QbS,show 512-(64+(XK n.pl).length)=448-(XK n.pl).length by omega];rfl
 have hnl:=QaJ (num:=num) (lsn:=lsn) hcb
 refine eN2 Tryz.func79 Tryz.ntmps79 ?_
 refine aU2 ?_
 refine oBx λb1 _=>?_
 refine aU4 ?_
 refine o_h (Ev.h_make2 (k:=64) (n:=512) rfl rfl rfl QR Qad (by decide) (by decide) (by decide)) rfl (λb2 _=>QZ (C':=HS w [] [.blk b1 118 5 _,.blk b2 u8T 512 (((List.replicate 512 (0:UInt8))).map bv)]) (λw9 h=>by have h9:=h.ent (Bs:=[.blk b1 118 5 _,.blk b2 u8T 512 (Y4 [.int .u8 0] (512*1))]) aEt;rwa[Qjn]at h9) (aU5 ?_))
 refine o_h (QgV (b:=b2) (i:=0) (l:=Qeh) (x:=(List.replicate 512 (0:UInt8))) rfl rfl (λ_=>rfl) rfl QR aPt (by decide) (by decide) (by rw[z0];decide)) rfl (λ_ _=>aU2 ?_)
 refine Qu [5] QG ?_
 refine dP 0 ?_
 refine dV 1 rfl (QJ _ _ 8 64 rfl rfl QR ⟨_,_,rfl,rfl⟩ rfl om om) (Qv (show _=Value.slice (some ⟨b2,8,none⟩) 56 504 from by rw[XL (by decide)]) (dFa 2 ?_))
 refine dLd 3 [[4]] ?_
 refine dV 4 rfl (Qm rfl rfl Yn Zl) (Qv (show _=Value.int .u32 lsn from by rw[Qe2];congr 1;omega) (dH 5 rfl (QE (Cs:=[.blk b2 u8T 512 (((Q2 (List.replicate 512 (0:UInt8)) 0 Qeh)).map bv)]) rfl Qpw rfl aPs (λw1 h1 hf=>c146 w1 b2 56 504 512 8 (Q2 (List.replicate 512 (0:UInt8)) 0 Qeh) lsn hf (by rw[z1];decide) (by decide) (by decide) (by decide) hlsn)) (λ_ _=>dTu [] ?_)))
 refine dNi ?_
 refine aU3 ?_
 refine o_p (QJ _ _ 12 64 rfl rfl QR ⟨_,_,rfl,rfl⟩ rfl om om) rfl (Qf (show _=Value.slice (some ⟨b2,12,none⟩) 52 500 from by rw[XL (by decide)]) (aU ?_))
 refine o_p (Qm rfl rfl Yn Zl) rfl (Qf (show _=Value.int .u32 num from by rw[Qe2];congr 1;omega) (o_h (QE (Cs:=[.blk b2 u8T 512 (((Q2 (Q2 (List.replicate 512 (0:UInt8)) 0 Qeh) 8 (le4 lsn))).map bv)]) rfl Qpw rfl aPs (λw1 h1 hf=>c146 w1 b2 52 500 512 12 (Q2 (Q2 (List.replicate 512 (0:UInt8)) 0 Qeh) 8 (le4 lsn)) num hf (by rw[z2];decide) (by decide) (by decide) (by decide) hnum)) rfl (λ_ _=>aU2 ?_)))
 refine Qu [7] QG ?_
 refine dP 0 ?_
 refine dV 1 rfl (QJ _ _ 16 64 rfl rfl QR ⟨_,_,rfl,rfl⟩ rfl om om) (Qv (show _=Value.slice (some ⟨b2,16,none⟩) 48 496 from by rw[XL (by decide)]) (dFa 2 ?_))
 refine dFa 3 ?_
 refine dLd 4 [[6,5]] ?_
 refine dV 5 rfl (QX rfl rfl Tryz.underlying67) (dV 6 rfl (Qm rfl rfl Yn YO) (Qv (show _=Value.int .u16 (n.es.length:Int)from by rw[Qj2];congr 1;omega) (dH 7 rfl (QE (Cs:=[.blk b2 u8T 512 (((Q2 (Q2 (Q2 (List.replicate 512 (0:UInt8)) 0 Qeh) 8 (le4 lsn)) 12 (le4 num))).map bv)]) rfl Qlr rfl aPs (λw1 h1 hf=>Qvk w1 b2 48 496 512 16 (Q2 (Q2 (Q2 (List.replicate 512 (0:UInt8)) 0 Qeh) 8 (le4 lsn)) 12 (le4 num)) (n.es.length:Int) hf (by rw[z3];decide) (by decide) om)) (λ_ _=>dTu [] ?_))))
 refine dNi ?_
 refine aU3 ?_
 refine QZ (λw9 h=>(HS.byz_blk (l:=(hdB num lsn n.es.length)) (cap:=512) (g:=b2) (cs:=(Q2 (Q2 (Q2 (Q2 (List.replicate 512 (0:UInt8)) 0 Qeh) 8 (le4 lsn)) 12 (le4 num)) 16 (le2 (n.es.length:Int))).map bv) aPk h (by rw[QbS];decide) (by decide) (by rw[hd9,QtC (cap:=512) 448 (by rw[QbS])]))) (aU2 ?_)
 refine o_h (QE (Cs:=[.byz (some ⟨b2,0,none⟩) 512 ((hdB num lsn n.es.length))]) rfl Qqb rfl aPs (λw1 h1 hf=>c148 w1 (some ⟨b2,0,none⟩) 512 (hdB num lsn n.es.length) n hf (by rw[QbS];decide) (by rw[QbS]) ((hes.keep h1).mono (Xm aPs)) ((hcs.keep h1).mono (Xm aPs)) hp)) rfl (λ⟨b3,c4⟩hz5=>?_)
 obtain⟨hB9,hC9⟩:=hz5 (by rw[List.length_append,QbS];omega)
 simp only[]at hB9 hC9
 subst hB9 hC9
 refine QZ (C':=HS w [] [.blk b2 u8T 512 (((Qab n.pl num lsn)).map bv),.blk b1 118 5 _]) (λw9 h=>by have h8:=HS.byz_full (l:=(hdB num lsn n.es.length)++XK n.pl) (cap:=512) (g:=b2) aPk h (by decide);rw[hfu]at h8;exact h8) (aU3 ?_)
 refine Qe (L':=[(2,_),(4,_),(5,_)]) aSx (λ_ h=>h) ?_
 refine Qu [] QG ?_
 refine dP 0 ?_
 refine dV 1 rfl (QJ _ _ 0 512 rfl rfl QR rfl ⟨_,_,rfl,rfl⟩ om om) (Qv (show _=Value.slice (some ⟨b2,0,none⟩) 512 512 from by first|(simp only[Y8];done)|(simp only[Y8];rfl)) (dQ 2 [] rfl (Ym rfl rfl Tryz.underlying139 Tryz.underlying9 Tryz.underlying5 aPk (by simp[hnl]) (Zi (Qab n.pl num lsn))) (Qv (show _=Value.string (bs (Qab n.pl num lsn))from by rw[YQ]) (dFa 3 ?_))))
 refine dLd 4 [] ?_
 refine dQ 5 [] rfl (QA rfl QtK rfl (λw1 h1=>c149 w1 (Qab n.pl num lsn) usn hnl Qc2 hu)) (dP 6 ?_)
 refine dP 7 ?_
 refine dP 8 ?_
 refine dP 9 ?_
 refine dP 10 ?_
 refine dNi ?_
 refine aU5 ?_
 exact rV
instance:TFn Tryz.prog 100:=⟨by kernel_rfl⟩
theorem Qcz:ZY Tryz.prog 118=some [(0,3),(3,1),(4,1)]:=by kernel_rfl
theorem ZK:XX Tryz.prog 118=some [.bool false,.slice none 0 0,.slice none 0 0,.int .i64 0,.int .i64 0]:=by kernel_rfl
theorem Qp6:QQ Tryz.prog 79=true:=by kernel_rfl
instance:TFn Tryz.prog 79:=⟨Qp6⟩
theorem Qev:tsz Tryz.prog 118=some (5,true):=by kernel_rfl
instance:TSz Tryz.prog 118 5 true:=⟨Qev⟩
instance:TFn Tryz.prog 130:=⟨by kernel_rfl⟩
theorem c63(w:World)(s:List UInt8)(num:Int)(hsl:s.length<=1000000):CE 63 #[.string (bs s),.int .i64 num] w [] (λg:LNd=>.tuple #[.agg #[.bool g.us,.slice g.ea g.es.length g.ec,.slice g.ca g.cs.length g.cc,.int .i64 (Xl s num).lsn,.int .i64 (Xl s num).usn],.int .i64 (Xl s num).e]) (λg=>g.pl=(Xl s num).n) λg=>[.ents 27 g.ea g.ec g.es,.kids g.ca g.cc g.cs]:=by
 have hF:=QqD (b:=s) (num:=num) (u:=decide ((s.length:Int)=512)) (v:=decide (1<=num)&&decide (num<=120)) (by rw[decide_eq_true_eq];omega) (by simp only[Bool.and_eq_true,decide_eq_true_eq])
 refine eN2 Tryz.func63 Tryz.ntmps63 ?_
 refine aU2 ?_
 refine oAl (λb1 _=>?_) ZK
 refine aU6 ?_
 refine oCq rfl (λw1 h1=>Qu4 w1 _) (aU ?_)
 refine oCq rfl (λw1 h1=>c87 w1 _ _ _) (oCq rfl (λw1 h1=>c60 w1 _ _) (o_h (Qg (cs:=[_,_]) rfl rfl Yt ZP rfl rfl rfl) rfl (λb2 _=>oCq rfl (λw1 h1=>f59 h1 aPk (by rfl) (by rfl) (by decide)) (aU7 ?_))))
 refine sCd rfl (λh3=>?_) λh3=>?_
 ·have hR:=hF.2 h3
  refine aU2 ?_
  refine o_p (QF (cs:=[_,_,_,_,_]) rfl rfl Qcz ZK rfl) rfl (aU4 ?_)
  exact Qj (rs:=[.cell 4 118,.tmp 5]) rfl (.cell rfl Qev aPk rfl (.tmp rfl (.nil))) (λw' h'=>⟨⟨false,none,0,[],none,0,[]⟩,by rw[hR];rfl,by rw[hR];rfl,((h'.nil.own_nil 3 1).own_nil 27 2).ent aEt⟩)
 obtain⟨hs5,hn5⟩:=hF.1 h3
 refine aU4 ?_
 refine oCq rfl (λw1 h1=>c130 w1 s hsl) (QgE ?_)
 refine sCd rfl (λh4=>?_) λh4=>?_
 ·have ht:XB s=true:=by cases ht:XB s;have hq:=h4;rw[QfE hs5 ht]at hq;exact absurd rfl hq;rfl
  have hR:=Qd5 hs5 hn5 ht
  refine aU2 ?_
  refine o_p (QF (cs:=[_,_,_,_,_]) rfl rfl Qcz ZK rfl) rfl (aU3 ?_)
  exact Qj (rs:=[.cell 4 118,.tmp 5]) rfl (.cell rfl Qev aPk rfl (.tmp rfl (.nil))) (λw' h'=>⟨⟨false,none,0,[],none,0,[]⟩,by rw[hR];rfl,by rw[hR];rfl,((h'.nil.own_nil 3 1).own_nil 27 2).ent aEt⟩)
 have ht:XB s=false:=by cases ht:XB s;rfl;have hq:=h4;rw[Qho hs5 ht]at hq;cases hq
 rw[QfE hs5 ht]
 dsimp only
 have hol9:=YT hs5
 obtain⟨o,ho⟩:∃o,o=Q0 s:=⟨_,rfl⟩
 rw[<-ho]
 rw[<-ho]at hol9
 have hol:o.length=512:=hol9
 have hdl:∀k,k<=512->(o.drop k).length=512-k:=λk hk=>by rw[List.length_drop,hol]
 have hb4:=Qnp o 8
 have hb2:=Qds o 16
 have hu40:=Qds s 40
 have hu0:1<=ub2 s 40:=by have:=(Qbh.1 ht).1;omega
 refine aU4 ?_
 refine o_h (QbG rfl rfl Tryz.underlying9 Tryz.underlying139 Tryz.underlying5 rfl (by simp only[maxLen];omega)) rfl (λ⟨b5,c6⟩⟨h7,k8⟩=>aU5 ?_)
 refine o_p (QJ _ _ 16 o.length rfl rfl QR ⟨_,_,rfl,rfl⟩ rfl om om) rfl (Qf (show _=Value.slice (YW (some ⟨b5,0,none⟩) c6 16 1) (512-16) (c6-16)from by rw[hol]) (oCq rfl (λw1 h1=>QrK w1 (YW (some ⟨b5,0,none⟩) c6 16 1) (512-16) (c6-16) (o.drop 16) (by have h9:=(h1.vl_blk (cs:=o.map bv) aPk).dropA (k:=16) (cap:=c6) (by rw[List.length_map];omega) (by rw[List.length_map];omega);rw[<-List.map_drop]at h9;exact h9) (hdl 16 om) om om (by simp only[maxLen]at *;omega)) (Qf (show _=Value.int .u16 ((ub2 o 16:Nat):Int)from by rw[Qbt,Nat.add_zero,Qdv]) (o_p (Qm rfl rfl YO Yn) rfl ?_))))
 try refine oWr ?_
 refine aU4 ?_
 refine Qe (L':=[(0,_),(1,_),(4,_),(5,_),(8,_),(10,_),(11,_)]) aSx (λ_ h=>h) ?_
 refine aU2 ?_
 refine oCq rfl (λw1 h1=>c87 w1 _ _ _) (aU2 ?_)
 refine sCd rfl (λh9=>?_) λh9=>?_
 ·have hR:=QdX hs5 hn5 ht (by rw[<-ho];exact Qp8 (by have hq:=h9;intro h9;simp at hq;omega))
  refine aU2 ?_
  refine o_p (QF (cs:=[_,_,_,_,_]) rfl rfl Qcz ZK rfl) rfl (aU3 ?_)
  exact Qj (rs:=[.cell 4 118,.tmp 5]) rfl (.cell rfl Qev aPk rfl (.tmp rfl (.nil))) (λw' h'=>⟨⟨false,none,0,[],none,0,[]⟩,by rw[hR];rfl,by rw[hR];rfl,((h'.nil.own_nil 3 1).own_nil 27 2).ent aEt⟩)
 have hct:1<=ub2 o 16/\ub2 o 16<=4:=by have hq:=h9;omega
 have hrb:=QpG hct
 refine aU4 ?_
 refine o_p (QJ _ _ 64 o.length rfl rfl QR ⟨_,_,rfl,rfl⟩ rfl om om) rfl (aU ?_)
 refine oCh rfl (λw1 h1=>c92 w1 o 64 (ub2 o 16) (YW (some ⟨b5,0,none⟩) c6 64 1) (c6-64) (by have h9:=(h1.vl_blk (cs:=o.map bv) aPk).dropA (k:=64) (cap:=c6) (by rw[List.length_map];omega) (by rw[List.length_map];omega);rw[<-List.map_drop]at h9;exact h9) (by rw[hol];decide) (by rw[hol];decide) (by rw[hol];omega) (by simp only[maxLen]at *;omega) om) (λ⟨gn,gr,gl,gc⟩hgn=>aU4 ?_)
 refine oAl (λb10 _=>?_) Xc
 refine aU5 ?_
 refine Qu [8] QG ?_
 refine dLn 0 [[]] ?_
 refine dP 1 ?_
 refine dV 2 rfl (QJ _ _ 8 o.length rfl rfl QR ⟨_,_,rfl,rfl⟩ rfl om om) (Qv (show _=Value.slice (YW (some ⟨b5,0,none⟩) c6 8 1) (512-8) (c6-8)from by rw[hol]) (dQ 3 [[]] rfl (QA rfl Qpt rfl (λw1 h1=>c132 w1 (YW (some ⟨b5,0,none⟩) c6 8 1) (512-8) (c6-8) (o.drop 8) (by have h9:=(h1.vl_blk (cs:=o.map bv) aPk).dropA (k:=8) (cap:=c6) (by rw[List.length_map];omega) (by rw[List.length_map];omega);rw[<-List.map_drop]at h9;exact h9) (hdl 8 om) om om (by simp only[maxLen]at *;omega))) (Qv (show _=Value.int .u32 ((ub4 o 8:Nat):Int)from by rw[Qgu,Nat.add_zero,Qf1]) (dV 4 rfl (Qm rfl rfl Zl Yn) ?_))))
 try refine dWr ?_
 refine dP 5 ?_
 refine dV 6 rfl (QF (cs:=[_,_,_,_,_]) rfl rfl Qcz ZK rfl) (dH 7 rfl (Qfm rfl ZK) (λb11 _=>dBa ?_))
 refine dSt 8 ?_ (hl:=(by simp only[Qk,List.length_set,List.length_cons,List.length_nil,List.length_map];omega))
 refine dTu [] ?_
 refine dNi ?_
 refine aU6 ?_
 refine oOr 4 63 67 rfl
  (λhg12 _=>by
   refine aU6 ?_
   exact oJf 4 67)
  (λhg14 _=>by
   refine aU3 ?_
   exact oJt 4 67) ?_
 refine aU ?_
 refine oOr 6 68 74 rfl
  (λhg16 _=>by
   refine aU4 ?_
   have hq9:=hg16
   obtain⟨⟨n9,e9⟩,hrd⟩:∃q,rdN o 64 (ub2 o 16)=some q:=Option.isSome_iff_exists.1 (by grind)
   have hls:ub4 o 8<=2147483647:=by grind
   obtain⟨hpl9,_⟩:=hgn.1 _ _ hrd
   obtain⟨_,q2,q3,q4,q5,q6⟩:=QaW hol (hrb.trans hrd)
   have hcb:(XK gn.pl).length<=448:=by rw[hpl9,QjG hol (hrb.trans hrd)];omega
   have hnp:NdP gn.pl:=by rw[hpl9];exact q6.ndp om
   refine aU ?_
   refine oCq rfl (λw1 h1=>c79 w1 gn num ((ub4 o 8:Nat):Int) ((ub2 s 40:Nat):Int) (h1.rw_own ev2 aPk rfl) (h1.rw_own iv1 aPk rfl) hnp hcb om om om) (aU4 ?_)
   exact oJf 6 74)
  (λhg18 _=>by
   refine aU5 ?_
   exact oJt 6 74) ?_
 refine aU ?_
 refine sCd rfl (λh20=>?_) λh20=>?_
 ·have hR:Xl s num=ndE 3:=by cases hr:rdN o 64 (ub2 o 16)with|none=>exact QdX hs5 hn5 ht (by rw[<-ho];exact hrb.trans hr)|some q=>(obtain⟨n9,e9⟩:=q;have hp9:=(hgn.1 _ _ hr).1;refine Qt2 hs5 hn5 ht (by rw[<-ho];exact hrb.trans hr) (λh9=>?_);rw[<-ho]at h9;have hq:=h20;rw[hr,hp9]at hq;have h91:=h9.1;have h92:=h9.2;simp[h92]at hq;omega)
  refine aU ?_
  refine Qe (L':=[(4,_),(5,_),(15,_)]) aSx (λ_ h=>h) ?_
  refine aU ?_
  refine o_p (QF (cs:=[_,_,_,_,_]) rfl rfl Qcz ZK rfl) rfl (aU3 ?_)
  exact Qj (rs:=[.cell 4 118,.tmp 5]) rfl (.cell rfl Qev aPk rfl (.tmp rfl (.nil))) (λw' h'=>⟨⟨false,none,0,[],none,0,[]⟩,by rw[hR];rfl,by rw[hR];rfl,((h'.nil.own_nil 3 1).own_nil 27 2).ent aEt⟩)
 obtain⟨⟨n9,e9⟩,hrd⟩:∃q,rdN o 64 (ub2 o 16)=some q:=Option.isSome_iff_exists.1 (by have hq:=h20;grind)
 obtain⟨hpl9,_⟩:=hgn.1 _ _ hrd
 have hR:=QvP hs5 hn5 ht (by rw[<-ho];exact hrb.trans hrd) (by rw[<-ho];have hq:=h20;grind) (by rw[<-ho,<-hpl9];have hq:=h20;grind)
 rw[<-ho]at hR
 refine aU2 ?_
 refine Qe (L':=[(4,_),(5,_),(15,_)]) aSx (λ_ h=>h) ?_
 refine aU5 ?_
 exact Qj (rs:=[.cell 4 118,.tmp 5]) rfl (.cell rfl Qev aPk rfl (.tmp rfl (.nil))) (λw' h'=>⟨gn,by rw[hR];rfl,by rw[hR];exact hpl9,h'.ent aEt⟩)
instance:TFn Tryz.prog 63:=⟨by kernel_rfl⟩
def rpT(s:List UInt8)(u:Int):Nat->List UInt8
  | 0=>le2 u
  | i+1=>rpT s u i++Qs s (tlA i) 2
def rpS(s:List UInt8)(u:Int):Nat->List UInt8
  | 0=>s
  | i+1=>Q2 (rpS s u i) (tlA i) (le2 u)
theorem Qen{s:List UInt8}{u:Int}(h:s.length=512):∀i,i<=8->(rpS s u i).length=512
  | 0,_=>h
  | i+1,hi=>by
    have h1:=Qen (u:=u) h i om;show(Q2 _ _ _).length=512;rw[XY (by rw[h1];show tlA i+2<=512;unfold tlA;omega),h1]
theorem Qh2{s:List UInt8}{u:Int}(h:s.length=512):∀i,i<=8->∀j,i<=j->j<8->Qs (rpS s u i) (tlA j) 2=Qs s (tlA j) 2
  | 0,_,_,_,_=>rfl
  | i+1,hi,j,hj,h8=>by
    have h1:=Qen (u:=u) h i om;show Qs (Q2 _ _ _) _ _=_;rw[Qb5 (by rw[h1];show tlA i+2<=512;unfold tlA;omega) (.inr (by show tlA i+2<=tlA j;unfold tlA;omega))];exact Qh2 h i om j om h8
theorem Qfx{s:List UInt8}{u:Int}(h:s.length=512):∀i,i<=8->(rpT s u i).length=2+2*i
  | 0,_=>rfl
  | i+1,hi=>by
    show(rpT s u i++Qs s (tlA i) 2).length=_;rw[List.length_append,Qfx h i om,Q6 (by unfold tlA;omega)];omega
theorem Qhv{l x y:List UInt8}{p q:Nat}(hp:p+x.length<=l.length)(hq:q+y.length<=l.length)(hd:p+x.length<=q\/q+y.length<=p):Q2 (Q2 l p x) q y=Q2 (Q2 l q y) p x:=by
  apply List.ext_getElem?;intro j;rw[Yo (by rw[XY hp];exact hq),Yo hp,Yo (by rw[XY hq];exact hp),Yo hq]
  by_cases h1:j<p<;>by_cases h2:j<q<;>by_cases h3:j<p+x.length<;>by_cases h4:j<q+y.length<;>simp only[h1,h2,h3,h4,if_true,if_false]<;>omega
theorem Qqg{s:List UInt8}{u:Int}(h:s.length=512):∀i,i<=8->prI s u i=Q2 (rpS s u i) 40 (rpT s u i)
  | 0,_=>rfl
  | i+1,hi=>by
    have ih:=Qqg (u:=u) h i om;have hS:=Qen (u:=u) h i om;have hT:=Qfx (u:=u) h i om
    have hsub:Qs (prI s u i) (tlA i) 2=Qs s (tlA i) 2:=by
      rw[ih,Qb5 (by rw[hS,hT];omega) (.inr (by rw[hT];unfold tlA;omega)),Qh2 h i om i (Nat.le_refl _) om]
    have h2:(Qs s (tlA i) 2).length=2:=Q6 (by unfold tlA;omega);show Q2 (Q2 (prI s u i) (42+2*i) (Qs (prI s u i) (tlA i) 2)) (tlA i) (le2 u)=Q2 (Q2 (rpS s u i) (tlA i) (le2 u)) 40 (rpT s u i++Qs s (tlA i) 2);have e9:=QhR (l:=rpS s u i) (p:=40) (q:=42+2*i) (x:=rpT s u i) (y:=Qs s (tlA i) 2) (by rw[hT];omega) (by rw[hT,hS,h2];omega);rw[hsub,ih,e9];have hx:(rpT s u i++Qs s (tlA i) 2).length=4+2*i:=by rw[List.length_append,hT,h2];omega
    exact Qhv (by rw[hx,hS];omega) (by rw[hS];show tlA i+2<=512;unfold tlA;omega) (.inl (by rw[hx];unfold tlA;omega))
theorem Qs3{s:List UInt8}{u:Int}(h:s.length=512):Qb9 s u=Q2 (rpS s u 8) 40 (rpT s u 8):=Qqg h 8 (Nat.le_refl _)
theorem Qtn:QQ Tryz.prog 54=true:=by kernel_rfl
instance:TFn Tryz.prog 54:=⟨Qtn⟩
theorem c103(w:World)(s:List UInt8)(u:Int)(h5:s.length=512)(hu:0<=u/\u<65536):CR 103 #[.string (bs s),.int .i64 u] w (.string (bs (Qb9 s u))):=by
 refine eN2 Tryz.func103 Tryz.ntmps103 ?_
 refine aU7 ?_
 refine oCq rfl (λw1 h1=>by have h9:=c94 w1 (u) 2 om om;rw[Qpp]at h9;exact h9) (aU8 ?_)
 refine Qo (α:=Nat) [0,5,6,7,10,11,12,13,14,15,16,17,18,19,20,21,22,23,24,25,26,27,28] (λk=>[(6,.int .i64 ((k:Int)+1)),(0,.string (bs (rpS s u k))),(5,.string (bs (rpT s u k)))]) (λ_=>HS w [] []) (λk=>k<=8) (λk=>8-k) 0 (Nat.zero_le _) aSx (λw h=>h.ent aEt) (λk hk8=>?_)
 refine aU6 ?_
 refine sCd rfl (λh1=>?_) λh1=>?_
 ·have hk:k<8:=by omega
  have hsl:=Qen (u:=u) h5 k hk8
  have htl:=Qfx (u:=u) h5 k hk8
  have hsb:=Qh2 (u:=u) h5 k hk8 k (Nat.le_refl _) hk
  have ht9:tlA k=64*k+62:=rfl
  have hxl:(Qs (rpS s u k) (tlA k) 2).length=2:=Q6 om
  refine aT7 ?_
  refine aT ?_
  refine Qf (show _=Value.int .i64 ((tlA k:Nat):Int)from congrArg (Value.int .i64) (by unfold tlA;omega)) (aT9 ?_)
  refine o_p (Xa _ _ (tlA k) (tlA k+2) rfl rfl Tryz.underlying9 ⟨_,_,rfl,rfl⟩ ⟨_,_,rfl,om⟩ om om) rfl (Qf (show _=Value.string (bs (Qs (rpS s u k) (tlA k) 2))from by rw[Y2 (n:=2) rfl]) (o_p (QeR rfl rfl rfl (by(try simp only[List.length_append,List.length_cons,List.length_nil,List.length_replicate,List.length_take,List.length_drop]);omega)) rfl (aU6 ?_)))
  refine oCq rfl (λw1 h1=>by have h9:=c94 w1 (u) 2 om om;rw[Qpp]at h9;exact h9) (oCq rfl (λw1 h1=>c54 w1 (rpS s u k) (tlA k) (le2 u) (by show tlA k+2<=_;omega) om) (aT6 ?_))
  refine Qf (show _=Value.int .i64 (((k+1:Nat):Int)+1)from congrArg (Value.int .i64) om) (aU2 ?_)
  exact sBk (k+1) om om (by rw[show(rpT s u (k+1))=rpT s u k++Qs s (tlA k) 2 from rfl,<-hsb];exact aSx)
 obtain rfl:k=8:=om
 have hsl:=Qen (u:=u) h5 8 hk8
 have htl:=Qfx (u:=u) h5 8 hk8
 refine Qh rfl ?_
 refine aU4 ?_
 refine oCq rfl (λw1 h1=>c54 w1 (rpS s u 8) 40 (rpT s u 8) om om) (aU2 ?_)
 exact rV (h:=by rw[Qs3 h5];rfl)
def roI(s:List UInt8):Nat->List UInt8
  | 0=>Q2 s 40 (List.replicate 18 0)
  | i+1=>Q2 (roI s i) (tlA i) (Qs s (42+2*i) 2)
theorem Qnt{s:List UInt8}(h:s.length=512):∀i,i<=8->(roI s i).length=512
  | 0,_=>by
    show(Q2 _ _ _).length=512;rw[XY (by rw[h];decide),h]
  | i+1,hi=>by
    have h1:=Qnt h i om;have h2:(Qs s (42+2*i) 2).length=2:=Q6 om;show(Q2 _ _ _).length=512;rw[XY (by rw[h1,h2];unfold tlA;omega),h1]
theorem QmC{s:List UInt8}(h:s.length=512):∀i,i<=8->∀j,j<8->Qs (opI s i) (42+2*j) 2=Qs s (42+2*j) 2
  | 0,_,_,_=>rfl
  | i+1,hi,j,h8=>by
    have h1:=Qai h i om;have h2:(Qs (opI s i) (42+2*i) 2).length=2:=Q6 om;show Qs (Q2 _ _ _) _ _=_;rw[Qb5 (by rw[h1,h2];unfold tlA;omega) (.inl (by unfold tlA;omega))];exact QmC h i om j h8
theorem Qo0{s:List UInt8}(h:s.length=512):∀i,i<=8->roI s i=Q2 (opI s i) 40 (List.replicate 18 0)
  | 0,_=>rfl
  | i+1,hi=>by
    have ih:=Qo0 h i om;have h1:=Qai h i om;have h2:(Qs s (42+2*i) 2).length=2:=Q6 om;show Q2 (roI s i) (tlA i) (Qs s (42+2*i) 2)=Q2 (Q2 (opI s i) (tlA i) (Qs (opI s i) (42+2*i) 2)) 40 (List.replicate 18 0);rw[ih,QmC h i om i om];exact Qhv (by rw[h1];decide) (by rw[h1,h2];unfold tlA;omega) (.inl (by show 40+18<=tlA i;unfold tlA;omega))
theorem QrS{s:List UInt8}(h:s.length=512):Q0 s=roI s 8:=(Qo0 h 8 (Nat.le_refl _)).symm
theorem QoB{s:List UInt8}(h:∀i,i<8->QbB s i=false):XB s=false:=by
  cases hb:XB s with
  | false=>rfl
  | true=>
    obtain⟨i,hi,h1⟩:=List.any_eq_true.1 hb;rw[h i (List.mem_range.1 hi)]at h1;cases h1
theorem Qrg{s:List UInt8}{i:Nat}(hi:i<8)(h:QbB s i=true):XB s=true:=List.any_eq_true.2 ⟨i,List.mem_range.2 hi,h⟩
theorem c102(w:World)(s:List UInt8)(h5:s.length=512):CR 102 #[.string (bs s)] w (.tuple #[.string (bs (if XB s=true then[]else Q0 s)),.bool (!XB s)]):=by
 refine eN1 Tryz.func102 Tryz.ntmps102 ?_
 refine aU8 ?_
 refine oCq rfl (λw1 h1=>by have h9:=c72 w1 s (40) 2 om om om;rw[QdI,Qdv]at h9;exact h9) (aU5 ?_)
 refine oCq rfl (λw1 h1=>c86 w1 18 om) (oCq rfl (λw1 h1=>c54 w1 s 40 (List.replicate 18 0) (by rw[List.length_replicate];omega) om) (aU8 ?_))
 refine Qo (α:=Nat) [2,3,5,6,7,13,14,15,16,17,18,19,20,21,22,23,24,25,26,27,28,29,30,31,32,33,34,35,36,37,38,39,40] (λk=>[(6,.int .i64 ((k:Int)+1)),(5,.string (bs (roI s k)))]) (λ_=>HS w [] []) (λk=>k<=8/\∀i,i<k->QbB s i=false) (λk=>8-k) 0 ⟨Nat.zero_le _,λi h=>absurd h (Nat.not_lt_zero _)⟩ aSx (λw h=>h.ent aEt) (λk hkk=>?_)
 obtain⟨hk8,hkt⟩:=hkk
 refine aU6 ?_
 refine sCd rfl (λh1=>?_) λh1=>?_
 ·have hk:k<8:=by omega
  have hol:=Qnt h5 k hk8
  have ht9:tlA k=64*k+62:=rfl
  have hxl:(Qs s (42+2*k) 2).length=2:=Q6 om
  refine aT7 ?_
  refine aT ?_
  refine Qf (show _=Value.int .i64 ((tlA k:Nat):Int)from congrArg (Value.int .i64) (by unfold tlA;omega)) (aU8 ?_)
  refine oOr 6 22 28 rfl
   (λhg2 _=>by
    refine aU5 ?_
    refine oCq rfl (λw1 h1=>by have h9:=c72 w1 s (tlA k) 2 om om om;rw[QdI,Qdv]at h9;exact h9) (aU4 ?_)
    exact oJf 6 28)
   (λhg4 _=>by
    refine aU5 ?_
    exact oJt 6 28) ?_
  refine aU ?_
  refine sCd rfl (λh6=>?_) λh6=>?_
  ·have hTB:XB s=true:=Qrg hk (decide_eq_true (by have hq:=h6;omega))
   refine aU5 ?_
   exact Qj (rs:=[.tmp 2,.tmp 3]) rfl (.tmp rfl (.tmp rfl (.nil))) (λw' h'=>⟨by rw[hTB];rfl,h'.below⟩)
  have hT:QbB s k=false:=decide_eq_false (by have hq:=h6;omega)
  refine aT7 ?_
  refine aT ?_
  refine aT2 ?_
  refine aT ?_
  refine aT ?_
  refine o_p (Xa _ _ (42+2*k) (42+2*k+2) rfl rfl Tryz.underlying9 ⟨_,_,rfl,om⟩ ⟨_,_,rfl,om⟩ om om) rfl (Qf (show _=Value.string (bs (Qs s (42+2*k) 2))from by rw[Y2 (n:=2) rfl]) (oCq rfl (λw1 h1=>c54 w1 (roI s k) (tlA k) (Qs s (42+2*k) 2) om om) (aU3 ?_)))
  refine Qe (L':=[(0,_),(4,_),(5,_),(6,_),(8,_),(9,_),(10,_),(11,_),(12,_)]) aSx (λ_ h=>h) ?_
  refine aT3 ?_
  refine Qf (show _=Value.int .i64 (((k+1:Nat):Int)+1)from congrArg (Value.int .i64) om) (aU2 ?_)
  exact sBk (k+1) om ⟨om,λi hi=>(Nat.lt_or_ge i k).elim (hkt i) (λh=>by obtain rfl:i=k:=om;exact hT)⟩
 obtain rfl:k=8:=om
 have hTB:=QoB hkt
 refine Qh rfl ?_
 refine aU6 ?_
 exact Qj (rs:=[.tmp 2,.tmp 3]) rfl (.tmp rfl (.tmp rfl (.nil))) (λw' h'=>⟨by rw[hTB,QrS h5];rfl,h'.below⟩)
instance:TFn Tryz.prog 102:=⟨by kernel_rfl⟩
theorem c39(w:World)(s:List UInt8)(num:Int)(hsl:s.length<=1000000):CE 39 #[.string (bs s),.int .i64 num] w [] (λg:LNd=>.tuple #[.agg #[.bool g.us,.slice g.ea g.es.length g.ec,.slice g.ca g.cs.length g.cc],.int .i64 (Xl s num).lsn,.int .i64 (Xl s num).usn,.int .i64 (Xl s num).e]) (λg=>g.pl=(Xl s num).n) λg=>[.ents 27 g.ea g.ec g.es,.kids g.ca g.cc g.cs]:=by
 refine eN2 Tryz.func39 Tryz.ntmps39 ?_
 refine aU2 ?_
 refine oAl (λb1 _=>?_) Xc
 refine aU6 ?_
 refine o_p (QF (cs:=[_,_,_]) rfl rfl Qco Xc rfl) rfl (oAl (λb2 _=>?_) Xc)
 refine aU6 ?_
 refine o_p (Qn rfl rfl Tryz.underlying9) rfl (aU2 ?_)
 refine sCd rfl (λh3=>?_) λh3=>?_
 ·have hR:Xl s num=ndE 10:=Qil (by have hq:=h3;omega)
  refine aU8 ?_
  exact Qj (rs:=[.cell 4 69,.tmp 5,.tmp 6,.tmp 7]) rfl (.cell rfl Xv aPk rfl (.tmp rfl (.tmp rfl (.tmp rfl (.nil))))) (λw' h'=>⟨⟨false,none,0,[],none,0,[]⟩,by rw[hR];rfl,by rw[hR];rfl,((h'.nil.own_nil 3 1).own_nil 27 2).ent aEt⟩)
 have hs5:s.length=512:=by have hq:=h3;omega
 refine aU5 ?_
 refine oCq rfl (λw1 h1=>c40 w1 _ _ _) (aU2 ?_)
 refine sCd rfl (λh4=>?_) λh4=>?_
 ·have hR:Xl s num=ndE 2:=QhS hs5 (by have hq:=h4;grind)
  refine aU8 ?_
  exact Qj (rs:=[.cell 4 69,.tmp 5,.tmp 6,.tmp 7]) rfl (.cell rfl Xv aPk rfl (.tmp rfl (.tmp rfl (.tmp rfl (.nil))))) (λw' h'=>⟨⟨false,none,0,[],none,0,[]⟩,by rw[hR];rfl,by rw[hR];rfl,((h'.nil.own_nil 3 1).own_nil 27 2).ent aEt⟩)
 have hn5:1<=num/\num<=120:=by have hq:=h4;grind
 refine aU4 ?_
 refine oCq rfl (λw1 h1=>c102 w1 s hs5) (Zg ?_)
 refine sCd rfl (λh5=>?_) λh5=>?_
 ·have ht:XB s=true:=by have hq:=h5;grind
  have hR:=Qd5 hs5 hn5 ht
  refine aU8 ?_
  exact Qj (rs:=[.cell 4 69,.tmp 5,.tmp 6,.tmp 7]) rfl (.cell rfl Xv aPk rfl (.tmp rfl (.tmp rfl (.tmp rfl (.nil))))) (λw' h'=>⟨⟨false,none,0,[],none,0,[]⟩,by rw[hR];rfl,by rw[hR];rfl,((h'.nil.own_nil 3 1).own_nil 27 2).ent aEt⟩)
 have ht:XB s=false:=by have hq:=h5;grind
 rw[ht]
 rw[if_neg Bool.false_ne_true]
 have hol9:=YT hs5
 obtain⟨o,ho⟩:∃o,o=Q0 s:=⟨_,rfl⟩
 rw[<-ho]
 rw[<-ho]at hol9
 have hol:o.length=512:=hol9
 have hb2:=Qds o 16
 refine aU4 ?_
 refine oCq rfl (λw1 h1=>by have h9:=c72 w1 o (8) 4 om om om;rw[ZF,Qf1]at h9;exact h9) (aU ?_)
 refine oCq rfl (λw1 h1=>by have h9:=c72 w1 o (16) 2 om om om;rw[QdI,Qdv]at h9;exact h9) (aU5 ?_)
 refine o_p (QF (cs:=[_,_,_]) rfl rfl Qco Xc rfl) rfl (oAl (λb6 _=>?_) Xc)
 refine aU6 ?_
 refine Qe (L':=[(0,_),(1,_),(4,_),(5,_),(6,_),(7,_),(8,_),(9,_),(11,_),(12,_),(13,_),(14,_),(15,_)]) aSx (λ_ h=>h) ?_
 refine aU2 ?_
 refine oCq rfl (λw1 h1=>c40 w1 _ _ _) (aU ?_)
 refine XP (α:=LNd×Nat×Bool) [14,15,40,41,42,43,44,45,46] (λx=>[(14,.int .i64 (x.2.1:Int)),(15,.bool x.2.2)]) (λx=>HS w [] [.blk b6 69 3 (LNd.vals x.1),.ents 27 x.1.ea x.1.ec x.1.es,.kids x.1.ca x.1.cc x.1.cs,.blk b2 69 3 [.bool false,.slice none 0 0,.slice none 0 0],.blk b1 69 3 [.bool false,.slice none 0 0,.slice none 0 0]]) (λx=>x.2.2=(rdB o).isSome/\(∀nd e,rdB o=some (nd,e)->x.1.pl=nd/\x.2.1=e)) ?_ ?_
 ·skip
  refine sCd rfl (λh7=>?_) λh7=>?_
  ·have hct:1<=ub2 o 16/\ub2 o 16<=4:=by have hq:=h7;omega
   have hrb:=QpG hct
   refine aU3 ?_
   refine oCh rfl (λw1 h1=>c98 w1 o 64 (ub2 o 16) om om om) (λ⟨gn,gl⟩hgn=>aU8 ?_)
   exact Qp (gn,gl,(rdN o 64 (ub2 o 16)).isSome) ⟨by rw[hrb],λnd e h9=>hgn.1 nd e (by rw[<-hrb];exact h9)⟩ aSx (λw h=>h.ent aEt)
  have hrb:rdB o=none:=Qp8 (by have hq:=h7;omega)
  refine aU ?_
  exact Qp (⟨false,none,0,[],none,0,[]⟩,0,false) ⟨by rw[hrb];rfl,λnd e h9=>(by rw[hrb]at h9;cases h9)⟩ aSx (λw h=>((h.own_nil 3 1).own_nil 27 2).ent aEt)
 intro⟨gn,gl,gk⟩ ⟨hg8,hg9⟩
 dsimp only
 simp only[]at hg8 hg9
 refine aU6 ?_
 refine oOr 4 49 53 rfl
  (λhg8 _=>by
   refine aU3 ?_
   refine o_p (ZJ 4 rfl rfl rfl Tryz.underlying9 rfl om) rfl (Qf (show _=Value.string (bs (o.take 4))from rfl) (aU2 ?_))
   exact oJf 4 53)
  (λhg10 _=>by
   refine aU3 ?_
   exact oJt 4 53) ?_
 refine aU ?_
 refine oOr 5 54 59 rfl
  (λhg12 _=>by
   refine aU3 ?_
   refine o_p (Xa _ _ 4 8 rfl rfl Tryz.underlying9 ⟨_,_,rfl,rfl⟩ ⟨_,_,rfl,rfl⟩ om om) rfl (Qf (show _=Value.string (bs (Qs o 4 4))from by rw[Y2 (n:=4) rfl]) (aU ?_))
   refine oCq rfl (λw1 h1=>c53 w1 (Qs o 4 4) (by rw[Q6 om];omega)) (aU2 ?_)
   exact oJf 5 59)
  (λhg14 _=>by
   refine aU4 ?_
   exact oJt 5 59) ?_
 refine aU ?_
 refine oOr 4 60 64 rfl
  (λhg16 _=>by
   refine aU3 ?_
   refine oCq rfl (λw1 h1=>c35 w1 _) (aU2 ?_)
   exact oJf 4 64)
  (λhg18 _=>by
   refine aU3 ?_
   exact oJt 4 64) ?_
 refine aU ?_
 refine oOr 5 65 70 rfl
  (λhg20 _=>by
   refine aU3 ?_
   refine oCq rfl (λw1 h1=>by have h9:=c72 w1 o (12) 4 om om om;rw[ZF,Qf1]at h9;exact h9) (aU4 ?_)
   exact oJf 5 70)
  (λhg22 _=>by
   refine aU4 ?_
   exact oJt 5 70) ?_
 refine aU ?_
 refine oOr 5 71 76 rfl
  (λhg24 _=>by
   refine aU3 ?_
   refine o_p (Xa _ _ 18 40 rfl rfl Tryz.underlying9 ⟨_,_,rfl,rfl⟩ ⟨_,_,rfl,rfl⟩ om om) rfl (Qf (show _=Value.string (bs (Qs o 18 22))from by rw[Y2 (n:=22) rfl]) (aU ?_))
   refine oCq rfl (λw1 h1=>c53 w1 (Qs o 18 22) (by rw[Q6 om];omega)) (aU2 ?_)
   exact oJf 5 76)
  (λhg26 _=>by
   refine aU4 ?_
   exact oJt 5 76) ?_
 refine aU ?_
 refine oOr 5 77 82 rfl
  (λhg28 _=>by
   refine aU3 ?_
   refine o_p (Xa _ _ 58 64 rfl rfl Tryz.underlying9 ⟨_,_,rfl,rfl⟩ ⟨_,_,rfl,rfl⟩ om om) rfl (Qf (show _=Value.string (bs (Qs o 58 6))from by rw[Y2 (n:=6) rfl]) (aU ?_))
   refine oCq rfl (λw1 h1=>c53 w1 (Qs o 58 6) (by rw[Q6 om];omega)) (aU2 ?_)
   exact oJf 5 82)
  (λhg30 _=>by
   refine aU4 ?_
   exact oJt 5 82) ?_
 refine aU ?_
 refine oOr 6 83 89 rfl
  (λhg32 _=>by
   refine aU4 ?_
   have hq9:=hg32
   have hgl:gl<=512:=by have hgk:gk=true:=(by grind);rw[hg8]at hgk;obtain⟨⟨n9,e9⟩,hrd⟩:=Option.isSome_iff_exists.1 hgk;obtain⟨_,e⟩:=hg9 _ _ hrd;have h3:=(QaW hol hrd).2.2.1;omega
   refine aU ?_
   refine o_p (Y6 gl rfl rfl rfl Tryz.underlying9 rfl om) rfl (aU ?_)
   refine oCq rfl (λw1 h1=>c53 w1 (o.drop gl) (by rw[List.length_drop];omega)) (aU2 ?_)
   exact oJf 6 89)
  (λhg34 _=>by
   refine aU5 ?_
   exact oJt 6 89) ?_
 refine aU ?_
 refine sCd rfl (λh36=>?_) λh36=>?_
 ·have hR:Xl s num=ndE 3:=by cases hr:rdB o with|none=>exact QdX hs5 hn5 ht (by rw[<-ho];exact hr)|some q=>(obtain⟨n9,e9⟩:=q;obtain⟨_,hp9⟩:=hg9 _ _ hr;rw[QcQ hs5 hn5 ht (by rw[<-ho];exact hr),if_neg];rw[<-ho];intro h9;have hq:=h36;rw[hg8,hr]at hq;simp only[Qgx,Bool.and_eq_true,decide_eq_true_eq]at h9;obtain⟨⟨a1,a2,a3,a4,a5,a6⟩,a7⟩:=h9;rw[hp9]at hq;have a0:List.take 4 o=[73,78,68,88]:=a1;simp[a0,a2,a4,a5,a6,a7]at hq;omega)
  refine aU ?_
  refine Qe (L':=[(0,_),(4,_),(5,_),(6,_),(7,_),(8,_),(11,_),(13,_)]) aSx (λ_ h=>h) ?_
  refine aU7 ?_
  exact Qj (rs:=[.cell 4 69,.tmp 5,.tmp 6,.tmp 7]) rfl (.cell rfl Xv aPk rfl (.tmp rfl (.tmp rfl (.tmp rfl (.nil))))) (λw' h'=>⟨⟨false,none,0,[],none,0,[]⟩,by rw[hR];rfl,by rw[hR];rfl,((h'.nil.own_nil 3 1).own_nil 27 2).ent aEt⟩)
 obtain⟨⟨n9,e9⟩,hrd⟩:∃q,rdB o=some q:=Option.isSome_iff_exists.1 (by rw[<-hg8];have hq:=h36;grind)
 obtain⟨hpl9,hl9⟩:=hg9 _ _ hrd
 have hR:Xl s num=⟨n9,(ub4 o 8:Int),(ub2 s 40:Int),0⟩:=by rw[QcQ hs5 hn5 ht (by rw[<-ho];exact hrd),if_pos];(rw[<-ho]);rw[<-ho];have hq:=h36;rw[hl9]at hq;simp only[Qgx,Bool.and_eq_true,decide_eq_true_eq];obtain⟨⟨⟨⟨⟨⟨⟨q1,q2⟩,q3⟩,q4⟩,q5⟩,q6⟩,q7⟩,q8⟩:=hq;exact⟨⟨q2,q3,om,q5,q6,q7⟩,q8⟩
 refine aU2 ?_
 refine Qe (L':=[(0,_),(4,_),(5,_),(6,_),(7,_),(11,_),(13,_)]) aSx (λ_ h=>h) ?_
 refine Qu [4] QG ?_
 refine dLn 0 [[]] ?_
 refine dP 1 ?_
 refine dP 2 ?_
 refine dQ 3 [[]] rfl (QA rfl Qs6 rfl (λw1 h1=>by have h9:=c72 w1 s (40) 2 om om om;rw[QdI,Qdv]at h9;exact h9)) (dSt 4 ?_ (hl:=(by simp only[Qk,List.length_set,List.length_cons,List.length_nil,List.length_map];omega)))
 refine dTu [] ?_
 refine dP 5 ?_
 refine dP 6 ?_
 refine dP 7 ?_
 refine dNi ?_
 exact Qj (rs:=[.cell 4 69,.tmp 5,.tmp 6,.tmp 7]) rfl (.cell rfl Xv aPk rfl (.tmp rfl (.tmp rfl (.tmp rfl (.nil))))) (λw' h'=>⟨gn,by rw[hR];rfl,by rw[hR];exact hpl9,h'.ent aEt⟩)
instance:TFn Tryz.prog 39:=⟨by kernel_rfl⟩
theorem Qrd{m:Nd}{num lsn usn:Int}(h:(XK m).length<=448):(QaD m num lsn usn).length=512:=Qbo (QaJ h)
instance:TFd Tryz.prog 108 0 0 23:=⟨by kernel_rfl⟩
theorem Qdo:tsz Tryz.prog 23=some (3,true):=by kernel_rfl
instance:TSz Tryz.prog 23 3 true:=⟨Qdo⟩
instance:TFd Tryz.prog 23 1 1 9:=⟨by kernel_rfl⟩
theorem YN:tsz Tryz.prog 108=some (7,true):=by kernel_rfl
instance:TSz Tryz.prog 108 7 true:=⟨YN⟩
theorem Qgj:QQ Tryz.prog 113=true:=by kernel_rfl
instance:TFn Tryz.prog 113:=⟨Qgj⟩
instance:TFd Tryz.prog 23 2 2 9:=⟨by kernel_rfl⟩
theorem c78(w:World):CR 78 #[] w (.string (bs Qe0)):=by
 refine eN0 Tryz.func78 Tryz.ntmps78 ?_
 refine aU6 ?_
 refine o_h (QeI (n:=512) rfl rfl rfl QR Qad om om) rfl (λb1 _=>o_q (Ym rfl rfl Tryz.underlying139 Tryz.underlying9 Tryz.underlying5 aPk (by simp[QW]) (by intro v hv;rw[QdY]at hv;exact Zi _ v hv)) rfl (aU2 ?_))
 exact rV (h:=by rw[QdY,YQ];rfl)
theorem QiL(w:World)(x:Ixs)(co mo rm:Int)(ra:Option Addr)(rn rc:Nat)(hl:x.al.length<=1000000000):CR 113 #[.agg #[.string (bs x.ro),.string (bs x.al),.string (bs x.bm),.int .i64 co,.int .i64 mo,.int .i64 rm,.slice ra rn rc]] w (.int .i64 ((x.n:Nat):Int)):=by
 refine eN1 Tryz.func113 Tryz.ntmps113 ?_
 refine aU2 ?_
 refine oBx λb1 _=>?_
 refine aU7 ?_
 refine o_p (Qn rfl rfl Tryz.underlying9) rfl (o_p (XC rfl rfl rfl om om om) rfl (aU2 ?_))
 exact rV
theorem c64(w:World)(x:Ixs)(co mo rm:Int)(ra:Option Addr)(rn rc:Nat)(i:Nat)(hl:x.al.length<=1000000000)(hi:1<=i/\i*512<=x.al.length):CR 64 #[.agg #[.string (bs x.ro),.string (bs x.al),.string (bs x.bm),.int .i64 co,.int .i64 mo,.int .i64 rm,.slice ra rn rc],.int .i64 (i:Int)] w (.string (bs (x.blk i))):=by
 refine eN2 Tryz.func64 Tryz.ntmps64 ?_
 refine aU2 ?_
 refine oBx λb1 _=>?_
 refine aT9 ?_
 refine aT ?_
 refine aT2 ?_
 refine o_p (Xa _ _ ((i-1)*512) (i*512) rfl rfl Tryz.underlying9 ⟨_,_,rfl,om⟩ ⟨_,_,rfl,om⟩ om om) rfl (aU2 ?_)
 exact rV (h:=by rw[Y2 (n:=512) om];rfl)
theorem c66(w:World)(x:Ixs)(hl:x.al.length<=1000000000):CR 66 #[.agg #[.string (bs x.ro),.string (bs x.al),.string (bs x.bm)]] w (.int .i64 ((x.n:Nat):Int)):=by
 refine eN1 Tryz.func66 Tryz.ntmps66 ?_
 refine aU2 ?_
 refine oBx λb1 _=>?_
 refine aU6 ?_
 refine o_p (Qn rfl rfl Tryz.underlying9) rfl (o_p (XC rfl rfl rfl om om om) rfl (aU2 ?_))
 exact rV
theorem c69(w:World)(x:Ixs)(i:Nat)(hl:x.al.length<=1000000000)(hi:1<=i/\i*512<=x.al.length):CR 69 #[.agg #[.string (bs x.ro),.string (bs x.al),.string (bs x.bm)],.int .i64 (i:Int)] w (.string (bs (x.blk i))):=by
 refine eN2 Tryz.func69 Tryz.ntmps69 ?_
 refine aU2 ?_
 refine oBx λb1 _=>?_
 refine aT8 ?_
 refine aT ?_
 refine aT2 ?_
 refine o_p (Xa _ _ ((i-1)*512) (i*512) rfl rfl Tryz.underlying9 ⟨_,_,rfl,om⟩ ⟨_,_,rfl,om⟩ om om) rfl (aU2 ?_)
 exact rV (h:=by rw[Y2 (n:=512) om];rfl)
theorem c135(w:World)(m:Nat)(hm:m<=8):CR 135 #[.int .i64 (m:Int)] w (.int .i64 ((2^m:Nat):Int)):=by
 refine eN1 Tryz.func135 Tryz.ntmps135 ?_
 refine aU7 ?_
 refine o_p (Qgs rfl rfl rfl om m (by show min _ 64=_;omega)) rfl (aU2 ?_)
 exact rV (h:=by have h9:m=0\/m=1\/m=2\/m=3\/m=4\/m=5\/m=6\/m=7\/m=8:=om;rcases h9 with rfl|rfl|rfl|rfl|rfl|rfl|rfl|rfl|rfl<;>rfl)
theorem c61(w:World)(x:Ixs)(co mo rm:Int)(ra:Option Addr)(rn rc:Nat)(i:Nat)(hl:x.al.length<=1000000000)(hb:x.n<=8*x.bm.length):CR 61 #[.agg #[.string (bs x.ro),.string (bs x.al),.string (bs x.bm),.int .i64 co,.int .i64 mo,.int .i64 rm,.slice ra rn rc],.int .i64 (i:Int)] w (.bool (Yb x i)):=by
 have hn9:x.n<=x.al.length:=Nat.div_le_self _ _
 refine eN2 Tryz.func61 Tryz.ntmps61 ?_
 refine aU2 ?_
 refine oBx λb1 _=>?_
 refine aU6 ?_
 refine oCq rfl (λw1 h1=>QiL w1 x co mo rm ra rn rc hl) (oCq rfl (λw1 h1=>c87 w1 _ _ _) (aU ?_))
 refine X0 14 9 23 rfl
  (λhg2 _=>by
   refine QjE ?_
   refine aU ?_
   refine o_p (XC rfl rfl rfl om om om) rfl (aU ?_)
   refine o_p (XE rfl rfl rfl Tryz.underlying9 ((i-1)/8) om om) rfl ?_
   refine Qf (show _=Value.int .u8 ((ub1 x.bm ((i-1)/8):Nat):Int)from rfl) (aT4 ?_)
   refine aU ?_
   refine o_p (Zc rfl rfl rfl om om) rfl (aU ?_)
   refine o_p (Qbl rfl rfl rfl om ((i-1)%8) (by show min _ 8=_;omega)) rfl (aU4 ?_)
   exact oJt 14 23)
  (λhg4 _=>by
   refine Qa5 ?_
   exact oJf 14 23) ?_
 refine aU2 ?_
 exact rV (h:=by simp only[Q3,Yb];rw[QgO];congr 3;rw[<-Bool.decide_and];exact decide_eq_decide.2 om)
instance:TFn Tryz.prog 135:=⟨by kernel_rfl⟩
theorem QtM(i:Nat):1<=2^(i%8)/\2^(i%8)<=128:=by
  have h:i%8=0\/i%8=1\/i%8=2\/i%8=3\/i%8=4\/i%8=5\/i%8=6\/i%8=7:=om
  rcases h with h|h|h|h|h|h|h|h<;>rw[h]<;>decide
theorem c67(w:World)(x:Ixs)(i:Nat)(hi:1<=i/\i<=1000000)(hb:x.bm.length<=1000000):CR 67 #[.agg #[.string (bs x.ro),.string (bs x.al),.string (bs x.bm)],.int .i64 (i:Int)] w (.bool (Z8 x.bm (i-1))):=by
 have hpw:=QtM (i-1)
 have hbl:=YC x.bm ((i-1)/8)
 have hdv:ub1 x.bm ((i-1)/8)/2^((i-1)%8)<=ub1 x.bm ((i-1)/8):=Nat.div_le_self _ _
 refine eN2 Tryz.func67 Tryz.ntmps67 ?_
 refine aU2 ?_
 refine oBx λb1 _=>?_
 refine aT6 ?_
 refine Qf (show _=Value.int .i64 ((i-1:Nat):Int)from congrArg (Value.int .i64) om) (aU5 ?_)
 refine o_p (XC rfl rfl rfl om om om) rfl (Qf (show _=Value.int .i64 (((i-1)/8:Nat):Int)from congrArg (Value.int .i64) om) (aU2 ?_))
 refine o_p (Qn rfl rfl Tryz.underlying9) rfl (aU2 ?_)
 refine X0 12 14 26 rfl
  (λhg2 _=>by
   refine aU7 ?_
   refine o_p (XC rfl rfl rfl om om om) rfl (Qf (show _=Value.int .i64 (((i-1)/8:Nat):Int)from congrArg (Value.int .i64) om) (aU ?_))
   refine oCq rfl (λw1 h1=>by have h9:=c72 w1 x.bm ((i-1)/8) 1 om om om;rw[QdC,QkB]at h9;exact h9) (aU3 ?_)
   refine o_p (Zc rfl rfl rfl om om) rfl (Qf (show _=Value.int .i64 (((i-1)%8:Nat):Int)from congrArg (Value.int .i64) om) (aU ?_))
   refine oCq rfl (λw1 h1=>c135 w1 ((i-1)%8) om) (aU ?_)
   refine o_p (XC rfl rfl rfl om om om) rfl (Qf (show _=Value.int .i64 ((ub1 x.bm ((i-1)/8)/2^((i-1)%8):Nat):Int)from congrArg (Value.int .i64) (Int.natCast_ediv _ _).symm) (aU ?_))
   refine o_p (Qq7 rfl rfl rfl (by decide)) rfl (aU2 ?_)
   exact oJt 12 26)
  (λhg4 _=>by
   refine Zw ?_
   exact oJf 12 26) ?_
 refine aU2 ?_
 exact rV (h:=by simp only[Q3];congr 2;by_cases hq9:(i-1)/8<x.bm.length;rw[show decide ((((i-1)/8:Nat):Int)<(x.bm.length:Int))=true from decide_eq_true om,Bool.true_and,<-Qsr];rfl;rw[show decide ((((i-1)/8:Nat):Int)<(x.bm.length:Int))=false from decide_eq_false om,Bool.false_and,Qpj om])
instance:TFd Tryz.prog 23 0 0 9:=⟨by kernel_rfl⟩
theorem Qtj:QQ Tryz.prog 66=true:=by kernel_rfl
instance:TFn Tryz.prog 66:=⟨Qtj⟩
instance:TFn Tryz.prog 67:=⟨by kernel_rfl⟩
theorem c49(w:World)(x:Ixs)(hl:x.al.length<=900000)(hr:x.ro.length<=1000000)(hb:x.bm.length<=100000):CR 49 #[.agg #[.string (bs x.ro),.string (bs x.al),.string (bs x.bm)]] w (.int .i64 (ixE x)):=by
 have hn9:x.n<=x.al.length:=Nat.div_le_self _ _
 refine eN1 Tryz.func49 Tryz.ntmps49 ?_
 refine aU2 ?_
 refine oBx λb1 _=>?_
 refine aU7 ?_
 refine o_p (Qn rfl rfl Tryz.underlying9) rfl (aU2 ?_)
 refine oOr 5 11 16 rfl
  (λhg2 _=>by
   refine aU5 ?_
   refine o_p (Qn rfl rfl Tryz.underlying9) rfl (aU2 ?_)
   exact oJf 5 16)
  (λhg4 _=>by
   refine aU4 ?_
   exact oJt 5 16) ?_
 refine aU ?_
 refine sCd rfl (λh6=>?_) λh6=>?_
 ·have hE:=Qj9 (x:=x) (by have hq:=h6;omega)
  refine aU4 ?_
  exact rV (h:=by rw[hE];rfl)
 have hA:x.al.length<=61440/\x.ro.length<=200000:=by have hq:=h6;omega
 refine aU3 ?_
 refine QbX (α:=Bool) [17,18,19,20,21,22,23,24,25,26,27,28,29,30,31] (λb=>[(31,.bool b)]) (λb=>(b=true->¬(x.al.length%512=0/\x.bm.length=Q5 ((x.n+7)/8)))/\(b=false->x.al.length%512=0/\x.bm.length=Q5 ((x.n+7)/8))) ?_ ?_
 ·skip
  refine Qu [] QG ?_
  refine dFa 0 ?_
  refine dLd 1 [] ?_
  refine dV 2 rfl (Qn rfl rfl Tryz.underlying9) (dV 3 rfl (Zc rfl rfl rfl om om) (dP 4 ?_))
  refine dP 5 ?_
  apply Xu 22
  ·exact rfl
  ·intro hg7
   have hs8:=hg7;try simp only[Bool.not_eq_true',decide_eq_false_iff_not]at hs8
   refine dOf 6 22 hg7 ?_
   refine dOf 7 22 hg7 ?_
   refine dOf 8 22 hg7 ?_
   refine dOf 9 22 hg7 ?_
   refine dOf 10 22 hg7 ?_
   refine dOf 11 22 hg7 ?_
   refine dOf 12 22 hg7 ?_
   refine dOf 13 22 hg7 ?_
   refine dV 14 rfl (Xq rfl rfl hg7 rfl) (dNi ?_)
   exact Qp true ⟨λ_ h9=>by grind,λh9=>by cases h9⟩ aSx (λw h=>h.ent aEt)
  intro hg9
  have hs10:=hg9;try simp only[Bool.not_eq_false',decide_eq_true_eq]at hs10
  refine dFo 6 22 hg9 ?_
  refine dQo 7 22 [] hg9 rfl rfl rfl (Yh rfl rfl Zd aPk rfl) ?_
  refine dVo 8 22 hg9 rfl rfl rfl (Qn rfl rfl Tryz.underlying9) ?_
  refine dQo 9 22 [] hg9 rfl rfl rfl (Qaf rfl rfl Qdo aPk rfl) ?_
  refine dQo 10 22 [] hg9 rfl rfl rfl (QA rfl Qtj rfl (λw1 h1=>c66 w1 x om)) ?_
  refine dQo 11 22 [] hg9 rfl rfl rfl (QA rfl Qps rfl (λw1 h1=>c121 w1 (x.n:Int) om)) ?_
  refine Qv (show _=Value.int .i64 (((x.n+7)/8:Nat):Int)from congrArg (Value.int .i64) om) (dQo 12 22 [] hg9 rfl rfl rfl (QA rfl Qtg rfl (λw1 h1=>c95 w1 ((x.n+7)/8) om)) ?_)
  refine dPo 13 22 hg9 ?_
  refine dV 14 rfl (Xe rfl rfl hg9 rfl) (dNi ?_)
  exact Qp (!decide ((x.bm.length:Int)=((Q5 ((x.n+7)/8):Nat):Int))) ⟨λh8 h9=>by grind,λh8=>by grind⟩ aSx (λw h=>h.ent aEt)
 intro b9 hb9
 refine sCd rfl (λh11=>?_) λh11=>?_
 ·have hE:=Qkl hA (hb9.1 h11)
  refine aU4 ?_
  exact rV (h:=by rw[hE];rfl)
 have hB:=hb9.2 h11
 refine aU6 ?_
 refine oCh rfl (λw1 h1=>c31 w1 x.ro hr) (λ⟨⟨ra,rc⟩,RL⟩hRL=>aU3 ?_)
 refine oAl (λb12 _=>?_) Xn
 refine aU8 ?_
 refine sCd rfl (λh13=>?_) λh13=>?_
 ·have hE:=Qnq hA hB h13
  refine aU5 ?_
  exact rV (h:=by rw[hE];rfl)
 have hC:(Qb x.ro).2=0:=h13
 refine aU5 ?_
 refine oCq rfl (λw1 h1=>c66 w1 x om) (aT ?_)
 refine aU3 ?_
 refine Qe (L':=[(1,_),(2,_),(5,_)]) aSx (λ_ h=>h) ?_
 refine Qo (α:=Nat) [2,5,44,45,46,47,48,49,50,51,52,53,54] (λi=>[(5,.int .i64 ((i:Int)+1))]) (λ_=>HS w [] [.blk b1 23 3 [.string (bs x.ro),.string (bs x.al),.string (bs x.bm)]]) (λi=>x.n<=i/\i<=x.n+8*x.bm.length/\∀j,x.n<=j->j<i->Z8 x.bm j=false) (λi=>8*x.bm.length-i) x.n ⟨Nat.le_refl _,om,λj h1 h2=>om⟩ aSx (λw h=>h.ent aEt) (λi hii=>?_)
 obtain⟨hi1,hi2,hi3⟩:=hii
 refine aU6 ?_
 refine o_p (Qn rfl rfl Tryz.underlying9) rfl (aT ?_)
 refine aU2 ?_
 refine sCd rfl (λh14=>?_) λh14=>?_
 ·have hi:i+1<=8*x.bm.length:=by have hq:=h14;omega
  refine aU7 ?_
  refine oCq rfl (λw1 h1=>c67 w1 x (i+1) om om) (aU ?_)
  refine sCd rfl (λh15=>?_) λh15=>?_
  ·have hE:=QlQ hA hB hC (Qjf hi1 om (by have hq:=h15;exact hq))
   refine aU4 ?_
   exact rV (h:=by rw[hE];rfl)
  have hZ:Z8 x.bm i=false:=by have hq:=h15;simpa using hq
  refine aT5 ?_
  refine aU2 ?_
  exact sBk (i+1) om ⟨om,om,λj h1 h2=>(Nat.lt_or_ge j i).elim (hi3 j h1) (λh=>by obtain rfl:j=i:=om;exact hZ)⟩
 have hi:8*x.bm.length<=i:=by have hq:=h14;omega
 have hO:=QmH (x:=x) (λj h1 h2=>hi3 j h1 om)
 have hE:=Ql9 hA hB hC hO
 refine Qh rfl ?_
 refine aU4 ?_
 refine oCq rfl (λw1 h1=>c66 w1 x om) (aU7 ?_)
 refine X0 5 59 64 rfl
  (λhg16 _=>by
   refine aU5 ?_
   refine oCq rfl (λw1 h1=>c67 w1 x x.n om om) (aU2 ?_)
   exact oJt 5 64)
  (λhg18 _=>by
   refine aU4 ?_
   exact oJf 5 64) ?_
 refine aU ?_
 refine sCd rfl (λh20=>?_) λh20=>?_
 ·have hE2:ixE x=3:=by rw[hE,if_neg];have hq:=h20;intro h9;rcases h9 with h9|h9;omega;rw[h9]at hq;simp at hq
  refine aU4 ?_
  exact rV (h:=by rw[hE2];rfl)
 have hE2:ixE x=0:=by rw[hE,if_pos];have hq:=h20;by_cases h9:x.n=0;exact .inl h9;exact .inr (by simp at hq;grind)
 refine aU5 ?_
 exact rV (h:=by rw[hE2];rfl)
theorem QtB{w0 w:World}{M:List Nat}{As As':List HA}{a:Option Addr}{n cap t sz:Nat}{xs:List Value}(h:HS w0 M As w)(hp:QD As (.own (.slice a n cap) t sz n xs) As')(hn:0<n):∃gg,a=some ⟨gg,0,none⟩/\n<=cap/\cap<=maxLen:=by
  obtain⟨gg,e,_,h1,h2,_⟩:=h.own_blk hn hp;exact⟨gg,e,h1,h2⟩
theorem Qt4{w0 w:World}{M:List Nat}{As As':List HA}{gg n cap t sz:Nat}{xs:List Value}(h:HS w0 M As w)(hp:QD As (.own (.slice (some ⟨gg,0,none⟩) n cap) t sz n xs) As')(hn:0<n):HS w0 M (.blk gg t (cap*sz) xs::As') w:=by
  obtain⟨g',e,_,_,_,_,h1⟩:=h.own_blk hn hp;injection e with e
  injection e with e
  subst e;exact h1
theorem QhF{α:Type}[Inhabited α](l:List α)(k:Nat):nth (l.drop 1) k=nth l (k+1):=by
  unfold nth;rw[List.getD_eq_getElem?_getD,List.getD_eq_getElem?_getD,List.getElem?_drop,Nat.add_comm]
theorem QhQ{n:Nat}(h:n<256):bv (by8 ((n:Nat):Int))=.int .u8 ((n:Nat):Int):=by
  unfold bv;rw[QY];congr 1;omega
theorem c145(w:World)(a:Option Addr)(cap:Nat)(L:List LNd)(hs:Rw LNd.vals 3 w [] a L)(h0:0<L.length)(hl:L.length<=1000)(hcap:L.length<=cap)(hc9:cap<=maxLen):CR 145 #[.slice a L.length cap] w (.string (bs (bmB (pln L)))):=by
 have hs2:=hs.cut (i:=1) hcap
 obtain⟨a2,ha2⟩:∃z,z=YW a cap 1 3:=⟨_,rfl⟩
 rw[<-ha2]at hs2
 have hdl:(L.drop 1).length=L.length-1:=List.length_drop
 have hp8:=Yx ((L.length-1+7)/8)
 have hbm:(ZE (pln L))=Q5 ((L.length-1+7)/8):=by unfold ZE;rw[Qd]
 have hz9:(List.replicate ((L.length-1+7)/8) (0:UInt8))++List.replicate (Q5 (List.replicate ((L.length-1+7)/8) (0:UInt8)).length-(List.replicate ((L.length-1+7)/8) (0:UInt8)).length) 0=bmW (pln L) (ZE (pln L)) 1:=by rw[Qwe,List.length_replicate,List.replicate_append_replicate,hbm];congr 1;omega
 refine eN1 Tryz.func145 Tryz.ntmps145 ?_
 refine aT9 ?_
 refine aT6 ?_
 refine aT ?_
 refine o_p (XC rfl rfl rfl om om om) rfl (Qf (show _=Value.int .i64 ((((L.length-1+7)/8):Nat):Int)from congrArg (Value.int .i64) om) (o_h (QeI (n:=((L.length-1+7)/8)) rfl rfl rfl QR Qad om om) rfl (λb1 _=>QZ (C':=HS w [] [.byz (some ⟨b1,0,none⟩) ((L.length-1+7)/8) ((List.replicate ((L.length-1+7)/8) (0:UInt8)))]) (λw9 h=>by have h9:=h.ent (Bs:=[.blk b1 u8T (((L.length-1+7)/8)*1) (Y4 [.int .u8 0] (((L.length-1+7)/8)*1))]) aEt;rw[QdY,Nat.mul_one]at h9;exact HS.byz_blk (l:=(List.replicate ((L.length-1+7)/8) (0:UInt8))) (cap:=((L.length-1+7)/8)) .here h9 (by rw[List.length_replicate];exact Nat.le_refl _) (by simp only[maxLen];omega) (by rw[QeU,List.length_replicate,Nat.sub_self,List.replicate_zero,List.append_nil])) (Qf (show _=Value.slice (some ⟨b1,0,none⟩) (List.replicate ((L.length-1+7)/8) (0:UInt8)).length ((L.length-1+7)/8)from by rw[List.length_replicate]) (o_h (QE (Cs:=[.byz (some ⟨b1,0,none⟩) ((L.length-1+7)/8) ((List.replicate ((L.length-1+7)/8) (0:UInt8)))]) rfl Qqu rfl aPs (λw1 h1 hf=>c154 w1 (some ⟨b1,0,none⟩) ((L.length-1+7)/8) (List.replicate ((L.length-1+7)/8) (0:UInt8)) hf (by rw[List.length_replicate];omega))) rfl (λ⟨b2,c3⟩hz4=>?_))))))
 rw[hz9]
 refine QZ (λw9 h=>h.byz_own .here) ?_
 rw[Qfv]
 refine aU6 ?_
 refine o_p (QJ _ _ 1 L.length rfl rfl QH ⟨_,_,rfl,rfl⟩ rfl om om) rfl (Qf (show _=Value.slice a2 (L.length-1) (cap-1)from by rw[ha2]) (aU4 ?_))
 refine Qe (L':=[(2,_),(4,_),(17,_),(18,_),(19,_)]) aSx (λ_ h=>h) ?_
 refine Qo (α:=Nat) [5,6,19,20,21,22,23,24,25,26,27,28,29,30,31,32,33,34,35,36] (λk=>[(19,.int .i64 (k:Int))]) (λk=>HS w [] [.own (.slice b2 (ZE (pln L)) c3) u8T 1 (ZE (pln L)) ((bmW (pln L) (ZE (pln L)) (k+1)).map bv)]) (λk=>k<=L.length-1) (λk=>L.length-1-k) 0 (Nat.zero_le _) aSx (λw h=>h.ent aEt) (λk hk1=>?_)
 refine aU5 ?_
 refine sCd rfl (λh5=>?_) λh5=>?_
 ·have hk:k<L.length-1:=by have hq:=h5;omega
  have hbwl:=Qfv (pln L) (ZE (pln L)) (k+1)
  have hpw:2^(k%8)<=2^7:=Nat.pow_le_pow_right (by decide) om
  have hlow:(Zx (pln L) (k+1) (k/8) 8)<2^(k%8):=by have h9:=Qju (pln L) k (8-k%8);rwa[show k%8+(8-k%8)=8 by omega]at h9
  refine aU6 ?_
  refine o_p (Qa rfl rfl rfl QH (k) om om (Rw.some hs2 om)) rfl (o_q (QI _ rfl rfl Xv rfl (Rw.rd hs2 om)) rfl (oAl (λb6 _=>?_) Xc))
  refine aU8 ?_
  refine sCd rfl (λh7=>?_) λh7=>?_
  ·have hus:(nth (pln L) (k+1)).us=true:=by rw[Q1,<-QhF];exact h7
   refine Yv (λw9 h=>QtB (a:=b2) (n:=(ZE (pln L))) (cap:=c3) h aPk om) λhB9=>?_
   obtain⟨gg,rfl,hc1,hc2⟩:=hB9
   refine YL (λw9 h=>Qt4 (gg:=gg) (n:=(ZE (pln L))) (cap:=c3) h aPk om) (Qu [10] QG ?_)
   refine dP 0 ?_
   refine dP 1 ?_
   refine dV 2 rfl (XC rfl rfl rfl om om om) (dV 3 rfl (Qa rfl rfl rfl QR (k/8) om om rfl) (dQ 4 [[]] rfl (Qx rfl rfl QdU (λw9 h=>by rw[Nat.zero_add];exact h.rd_blk (Mc:=[]) aPk (by rw[Nat.mul_one,List.getElem?_map,QmY om];rfl) (by simp))) ?_))
   refine Qv (show _=Value.int .u8 (((Zx (pln L) (k+1) (k/8) 8):Nat):Int)from QhQ (n:=(Zx (pln L) (k+1) (k/8) 8)) om) (dP 5 ?_)
   refine dV 6 rfl (Zc rfl rfl rfl om om) (dV 7 rfl (Qgs rfl rfl rfl om (k%8) (by show min _ 8=_;omega)) (dP 8 ?_))
   refine Qv (show _=bv (by8 (((Zx (pln L) (k+1) (k/8) 8)+2^(k%8):Nat):Int))from by rw[QuY (k%8) (Nat.mod_lt _ (by decide)) (Zx (pln L) (k+1) (k/8) 8) hlow,QhQ om]) (dV 9 rfl (Qa rfl rfl rfl QR (k/8) om om rfl) (dSt 10 ?_ (hl:=(by simp only[Qk,List.length_set,List.length_cons,List.length_nil,List.length_map];omega))))
   refine dTu [] ?_
   refine dNi ?_
   refine aT3 ?_
   refine aU2 ?_
   exact QK (k+1) om om aSx (λw h=>by have hx:(bmW (pln L) (ZE (pln L)) (k+2)).map bv=(((bmW (pln L) (ZE (pln L)) (k+1)).map bv).set (0+k/8*1) (bv (by8 ((Zx (pln L) (k+1) (k/8) 8+2^(k%8):Nat):Int)))):=(by rw[Nat.zero_add,Nat.mul_one,Qsq hus om,List.map_set]);have h8:=HS.own_shut (g:=gg) (cap:=c3) (n:=(ZE (pln L))) (sz:=1) (t:=u8T) (xs:=(((bmW (pln L) (ZE (pln L)) (k+1)).map bv).set (0+k/8*1) (bv (by8 ((Zx (pln L) (k+1) (k/8) 8+2^(k%8):Nat):Int))))) (As:=[]) (h.ent aEt) (by rw[List.length_set,List.length_map,Qfv,Nat.mul_one]) om om;rw[<-hx]at h8;exact h8.ent aEt)
  have hus:(nth (pln L) (k+1)).us=false:=by rw[Q1,<-QhF];have hq:=h7;first|exact hq|exact Bool.eq_false_iff.2 hq|(simp only[Bool.not_eq_true]at hq;exact hq)
  refine aT4 ?_
  refine aU2 ?_
  exact QK (k+1) om om aSx (λw h=>by rw[QtR hus];exact h.ent aEt)
 obtain rfl:k=L.length-1:=by have hq:=h5;omega
 have hend:bmW (pln L) (ZE (pln L)) (L.length-1+1)=bmB (pln L):=by rw[show L.length-1+1=(pln L).length by rw[Qd];omega];exact QrX
 refine Qh rfl ?_
 refine aU3 ?_
 refine o_q (ZD rfl rfl Tryz.underlying139 Tryz.underlying9 Tryz.underlying5 aPk (Zi _)) rfl (aU2 ?_)
 exact rV (h:=by rw[YQ,hend];rfl)
theorem QaG:XX Tryz.prog 23=some [.string (bs []),.string (bs []),.string (bs [])]:=by kernel_rfl
theorem QmA:ZY Tryz.prog 23=some [(0,1),(1,1),(2,1)]:=by kernel_rfl
theorem QvM:QQ Tryz.prog 77=true:=by kernel_rfl
instance:TFn Tryz.prog 78:=⟨by kernel_rfl⟩
theorem Qu0:QQ Tryz.prog 145=true:=by kernel_rfl
instance:TFn Tryz.prog 76:=⟨by kernel_rfl⟩
def wfI(t:Tre):Ixs:=if Zy t=0 then wrI t else⟨[],[],[]⟩
theorem c77(w:World)(b:Nat)(co mo rm:Int)(a:Option Addr)(cap:Nat)(L:List LNd)(k:Nat)(hb:Rd w [] b 3 (.slice a L.length cap))(hs:Nt w [] a L)(hi:Zy (⟨co,mo,rm,pln L⟩:Tre)=0)(hkk:k+1<L.length):CR 77 #[.int .i64 ((k+1:Nat):Int),.pointer (some ⟨b,0,none⟩)] w (.string (bs (QcF (⟨co,mo,rm,pln L⟩:Tre) (k+1)))):=by
 have hr9:=Z4 hi
 have h09:0<L.length:=by have:=hr9.1;rwa[show(⟨co,mo,rm,pln L⟩:Tre).ns=pln L from rfl,Qd]at this
 have hn9:=ZA hi hr9.1 hr9.2.1
 have hp9:NdP (nth L 0).pl:=by have hq:=hn9.1.ndp (by have:=hn9.2.1;omega);rwa[show(⟨co,mo,rm,pln L⟩:Tre).ns=pln L from rfl,Q1]at hq
 have hbb:(0<=co/\co<256)/\(0<=mo/\mo<256)/\0<=rm/\rm<256:=by have h1:=hr9.2.2.1;have h2:=hr9.2.2.2.1;have h3:QC co=0:=h1;have h4:XI mo rm=0:=h2;unfold QC at h3;unfold XI at h4;split at h3;(split at h4;omega;cases h4);cases h3
 have hL120:L.length<=120:=by have:=hn9.2.2.2.2;rwa[show(⟨co,mo,rm,pln L⟩:Tre).ns=pln L from rfl,Qd]at this
 refine eN2 Tryz.func77 Tryz.ntmps77 ?_
 refine aU8 ?_
 refine o_q (Qc rfl rfl Yz (hb)) rfl (aU ?_)
 refine o_p (Qa rfl rfl rfl QH ((k+1)) om om (Rw.some hs.1 om)) rfl (aU ?_)
 refine o_q (Qc rfl rfl Qdm ((hs.1.rdj (i:=k+1) 0 om rfl))) rfl (aU2 ?_)
 refine sCd rfl (λh1=>?_) λh1=>?_
 ·have hu1:¬(nth (pln L) (k+1)).us=true:=by rw[Q1];have hq:=h1;first|exact hq|(intro h9;have h8:(nth L (k+1)).us=true:=h9;rw[h8]at hq;cases hq)
  have hnw:(QcF (⟨co,mo,rm,pln L⟩:Tre) (k+1))=Qe0:=by unfold QcF;rw[if_neg hu1]
  have hnl:(QcF (⟨co,mo,rm,pln L⟩:Tre) (k+1)).length=512:=by rw[hnw];exact Qbv
  refine aU2 ?_
  refine oCq rfl (λw1 h1=>c78 w1) (aU2 ?_)
  exact rV (h:=by rw[hnw];rfl)
 have hk1:k+1<L.length:=om
 have hu1:(nth (pln L) (k+1)).us=true:=by rw[Q1];have hq:=h1;first|exact hq|simpa using hq
 have hn1:=ZA hi (i:=k+1) (by rw[show(⟨co,mo,rm,pln L⟩:Tre).ns=pln L from rfl,Qd];omega) hu1
 have hq1:NdP (nth L (k+1)).pl:=by have hq:=hn1.1.ndp (by have:=hn1.2.1;omega);rwa[show(⟨co,mo,rm,pln L⟩:Tre).ns=pln L from rfl,Q1]at hq
 have hcb1:(XK (nth L (k+1)).pl).length<=448:=by have hq:=hn1.2.2.1;rw[show(⟨co,mo,rm,pln L⟩:Tre).ns=pln L from rfl,Q1]at hq;omega
 have hnw:(QcF (⟨co,mo,rm,pln L⟩:Tre) (k+1))=QaD (nth L (k+1)).pl ((k+1:Nat):Int) 0 1:=by unfold QcF;rw[if_pos hu1,<-Q1]
 have hnl:(QcF (⟨co,mo,rm,pln L⟩:Tre) (k+1)).length=512:=by rw[hnw];exact Qrd hcb1
 refine aU4 ?_
 refine o_q (Qc rfl rfl Yz (hb)) rfl (aU ?_)
 refine o_p (Qa rfl rfl rfl QH ((k+1)) om om (Rw.some hs.1 om)) rfl (o_q (QI _ rfl rfl Xv rfl (Rw.rd hs.1 om)) rfl (o_p (QF (cs:=[_,_,_,_,_]) rfl rfl Qcz ZK rfl) rfl (aU ?_)))
 refine oCq rfl (λw1 h1=>c79 w1 (nth L (k+1)) ((k+1:Nat):Int) 0 1 ((hs.es hk1).later h1) ((hs.cs hk1).later h1) hq1 hcb1 om (by decide) (by decide)) (aU2 ?_)
 exact rV (h:=by rw[hnw];rfl)
theorem c76(w:World)(co mo rm:Int)(a:Option Addr)(cap:Nat)(L:List LNd)(q:Nat)(cv:Array Value)(blk:Nat->List UInt8)(hs:Nt w [] a L)(h0:0<L.length)(hl:L.length<=1000)(hp:NdP (nth L 0).pl)(hcap:L.length<=cap)(hc9:cap<=maxLen)(hbk:∀i,(blk i).length<=512)(hq:QQ Tryz.prog q=true)(hc:∀k w1,k+1<L.length->HS w [] [] w1->Calls Tryz.prog q (#[]++[.int .i64 ((k+1:Nat):Int)].toArray++cv) w1 λen w2=>en=.returned (.string (bs (blk (k+1))))/\Below w1.heap.size w1 w2):CR 76 #[.agg #[.int .i64 co,.int .i64 mo,.int .i64 rm,.slice a L.length cap],.func (.func q) #[] cv] w (.agg #[.string (bs (Qcl (⟨co,mo,rm,pln L⟩:Tre))),.string (bs (ZG blk (L.length-1))),.string (bs (bmB (pln L)))]):=by
 refine eN2 Tryz.func76 Tryz.ntmps76 ?_
 refine aU2 ?_
 refine oBx λb1 _=>?_
 refine oAl (λb2 _=>?_) QaG
 refine Zw ?_
 refine Qo (α:=Nat×Option Addr×Nat) [5,6,7,8,9,10,11,12,13,14,15,16,17,18] (λx=>[(6,.int .i64 ((x.1+1:Nat):Int)),(5,.slice x.2.1 (ZG blk x.1).length x.2.2)]) (λx=>HS w [] [.byz x.2.1 x.2.2 (ZG blk x.1),.blk b1 37 4 [.int .i64 co,.int .i64 mo,.int .i64 rm,.slice a L.length cap],.blk b2 23 3 [.string (bs []),.string (bs []),.string (bs [])]]) (λx=>x.1+1<=L.length/\(ZG blk x.1).length<=512*x.1) (λx=>L.length-x.1) (0,none,0) ⟨by(try simp only[]);omega,Nat.le_refl _⟩ aSx (λw h=>(h.byz_nil.ent aEt)) (λ⟨k,ga,gc⟩hkk=>?_)
 dsimp only
 simp only[]at hkk
 obtain⟨hk0,hbl⟩:=hkk
 have hb1:=hbk (k+1)
 refine aU9 ?_
 refine sCd rfl (λh3=>?_) λh3=>?_
 ·have hk:k+1<L.length:=by have hq:=h3;omega
  refine aU7 ?_
  refine o_q (Xj rfl rfl hq rfl (λw1 h1=>hc k w1 om (h1.ent aEt))) rfl (o_h (Qa8 rfl rfl rfl QR Tryz.underlying9 Qad aPk om (by simp only[maxLen];omega)) rfl (λ⟨b4,c5⟩h6=>aT6 ?_))
  refine Qf (show _=Value.int .i64 ((k+1+1:Nat):Int)from congrArg (Value.int .i64) om) (aU2 ?_)
  exact sBk (k+1,b4,c5) (by(try simp only[]);omega) ⟨by(try simp only[]);omega,by(try simp only[]);rw[ZG,List.length_append];omega⟩
 obtain rfl:k=L.length-1:=by have hq:=h3;omega
 refine Qh rfl ?_
 refine aU ?_
 refine YL (λw9 h=>h.byz_own aPk) (Qu [8] QG ?_)
 refine dLn 0 [[]] ?_
 refine dQ 1 [[]] rfl (QA rfl Qwd rfl (λw1 h1=>c90 w1 co mo rm a cap L (hs.later h1.nil) h0 hp)) (dP 2 ?_)
 refine dQ 3 [[]] rfl (ZD rfl rfl Tryz.underlying139 Tryz.underlying9 Tryz.underlying5 aPk (Zi _)) (dFa 4 ?_)
 refine dLd 5 [[]] ?_
 refine dQ 6 [[]] rfl (QA rfl Qu0 rfl (λw1 h1=>c145 w1 a cap L (hs.1.later h1.nil) h0 hl hcap hc9)) (dV 7 rfl (QF (cs:=[_,_,_]) rfl rfl QmA QaG rfl) (dSt 8 ?_ (hl:=(by simp only[Qk,List.length_set,List.length_cons,List.length_nil,List.length_map];omega))))
 refine dTu [] ?_
 refine dNi ?_
 exact Qj (rs:=[.cell 4 23]) rfl (.cell rfl Qdo aPk rfl (.nil)) (λw' h'=>⟨by rw[YQ];rfl,h'.below⟩)
theorem c20(w:World)(co mo rm:Int)(a:Option Addr)(cap:Nat)(L:List LNd)(hs:Nt w [] a L)(hB:Bd (pln L))(hcap:L.length<=cap)(hc9:cap<=maxLen)(hkl:∀i,i<L.length->∀x∈(nth L i).es,x.key.length<=1000000/\x.val.length<=1000000):CR 20 #[.agg #[.int .i64 co,.int .i64 mo,.int .i64 rm,.slice a L.length cap]] w (.tuple #[.agg #[.string (bs (wfI (⟨co,mo,rm,pln L⟩:Tre)).ro),.string (bs (wfI (⟨co,mo,rm,pln L⟩:Tre)).al),.string (bs (wfI (⟨co,mo,rm,pln L⟩:Tre)).bm)],.int .i64 (Zy (⟨co,mo,rm,pln L⟩:Tre))]):=by
 refine eN1 Tryz.func20 Tryz.ntmps20 ?_
 refine aU2 ?_
 refine oBx λb1 _=>?_
 refine oAl (λb2 _=>?_) QaG
 refine aU6 ?_
 refine oCq rfl (λw1 h1=>c75 w1 co mo rm a cap L (hs.later h1.nil) hB hkl) (aU7 ?_)
 refine sCd rfl (λh3=>?_) λh3=>?_
 ·have hE:¬Zy (⟨co,mo,rm,pln L⟩:Tre)=0:=h3
  have hW:wfI (⟨co,mo,rm,pln L⟩:Tre)=⟨[],[],[]⟩:=if_neg hE
  refine aU2 ?_
  refine o_p (QF (cs:=[_,_,_]) rfl rfl QmA QaG rfl) rfl (aU4 ?_)
  exact Qj (rs:=[.cell 2 23,.tmp 3]) rfl (.cell rfl Qdo aPk rfl (.tmp rfl (.nil))) (λw' h'=>⟨by rw[hW];rfl,h'.below⟩)
 have hi:Zy (⟨co,mo,rm,pln L⟩:Tre)=0:=h3
 have hW:wfI (⟨co,mo,rm,pln L⟩:Tre)=wrI (⟨co,mo,rm,pln L⟩:Tre):=if_pos hi
 have hr9:=Z4 hi
 have h09:0<L.length:=by have:=hr9.1;rwa[show(⟨co,mo,rm,pln L⟩:Tre).ns=pln L from rfl,Qd]at this
 have hn9:=ZA hi hr9.1 hr9.2.1
 have hp9:NdP (nth L 0).pl:=by have hq:=hn9.1.ndp (by have:=hn9.2.1;omega);rwa[show(⟨co,mo,rm,pln L⟩:Tre).ns=pln L from rfl,Q1]at hq
 have hbb:(0<=co/\co<256)/\(0<=mo/\mo<256)/\0<=rm/\rm<256:=by have h1:=hr9.2.2.1;have h2:=hr9.2.2.2.1;have h3:QC co=0:=h1;have h4:XI mo rm=0:=h2;unfold QC at h3;unfold XI at h4;split at h3;(split at h4;omega;cases h4);cases h3
 have hL120:L.length<=120:=by have:=hn9.2.2.2.2;rwa[show(⟨co,mo,rm,pln L⟩:Tre).ns=pln L from rfl,Qd]at this
 have hbk9:∀i,(QcF (⟨co,mo,rm,pln L⟩:Tre) i).length<=512:=λi=>Nat.le_of_eq ((QjK hi).1.len i)
 refine aU5 ?_
 refine oCq rfl (λw1 h1=>c76 w1 co mo rm a cap L 77 _ (QcF (⟨co,mo,rm,pln L⟩:Tre)) (hs.later h1.nil) h09 om hp9 hcap hc9 hbk9 QvM (λk w2 hk h2=>c77 w2 b1 co mo rm a cap L k ((h1.call h2).rd_blk (Mc:=[]) aPk rfl (by simp)) (hs.later (h1.call h2).nil) hi hk)) (aU3 ?_)
 exact Qj (rs:=[.cell 2 23,.tmp 3]) rfl (.cell rfl Qdo aPk rfl (.tmp rfl (.nil))) (λw' h'=>⟨by rw[hW,hi,wrI,show(⟨co,mo,rm,pln L⟩:Tre).ns=pln L from rfl,Qd];rfl,h'.below⟩)
theorem Qas:XX Tryz.prog 108=some [.string (bs []),.string (bs []),.string (bs []),.int .i64 0,.int .i64 0,.int .i64 0,.slice none 0 0]:=by kernel_rfl
theorem Qrr:ZY Tryz.prog 108=some [(0,3),(3,4)]:=by kernel_rfl
instance:TFd Tryz.prog 108 1 3 37:=⟨by kernel_rfl⟩
theorem Qto:QQ Tryz.prog 61=true:=by kernel_rfl
instance:TFn Tryz.prog 61:=⟨Qto⟩
theorem QfH{x:Ixs}{v:Bool}(hE:ixE x=if x.n=0\/Z8 x.bm (x.n-1)=true then 0 else 3)(hv:v=true ↔ (x.n=0\/Z8 x.bm (x.n-1)=true)):ixE x=bif v then 0 else 3:=by
  rw[hE];cases v with
  | false=>rw[if_neg (λh=>by cases hv.2 h)];rfl
  | true=>rw[if_pos (hv.1 rfl)];rfl
theorem Qkr{x:Ixs}(h:¬x.n=0):Yb x x.n=true ↔ (x.n=0\/Z8 x.bm (x.n-1)=true):=by
  unfold Yb;rw[decide_eq_true (show 1<=x.n/\x.n<=x.n by omega),Bool.true_and];exact⟨.inr,λh9=>h9.elim (λh8=>absurd h8 h) id⟩
theorem Qeq{x:Ixs}{u v:Bool}(hu:u=true ↔ x.al.length<=61440/\x.ro.length<=200000)(hv:v=true ↔ x.al.length%512=0/\x.bm.length=Q5 ((x.n+7)/8)) :
    (Xs [.int .i64 (bif u then 0 else 8),.int .i64 (bif v then 0 else 10)]=0->(x.al.length<=61440/\x.ro.length<=200000)/\x.al.length%512=0/\x.bm.length=Q5 ((x.n+7)/8)) /\
    (¬Xs [.int .i64 (bif u then 0 else 8),.int .i64 (bif v then 0 else 10)]=0->ixE x=Xs [.int .i64 (bif u then 0 else 8),.int .i64 (bif v then 0 else 10)]):=by
  cases u with
  | false=>exact⟨λh=>absurd (show(8:Int)=0 from h) (by decide),λ_=>Qj9 λh9=>by cases hu.2 h9⟩
  | true=>
    cases v with
    | false=>exact⟨λh=>absurd (show(10:Int)=0 from h) (by decide),λ_=>Qkl (hu.1 rfl) λh9=>by cases hv.2 h9⟩
    | true=>exact⟨λ_=>⟨hu.1 rfl,hv.1 rfl⟩,λh=>absurd rfl h⟩
set_option maxHeartbeats 2000000 in
theorem c56(w:World)(x:Ixs)(hl:x.al.length<=900000)(hr:x.ro.length<=1000000)(hb:x.bm.length<=100000):CE 56 #[.agg #[.string (bs x.ro),.string (bs x.al),.string (bs x.bm)]] w [] (λg:(Int×Int×Int)×(Option Addr×Nat)×List LNd=>.tuple #[.agg #[.string (bs x.ro),.string (bs x.al),.string (bs x.bm),.int .i64 g.1.1,.int .i64 g.1.2.1,.int .i64 g.1.2.2,.slice g.2.1.1 g.2.2.length g.2.1.2],.int .i64 (ixE x)]) (λg=>(ixE x=0->(⟨g.1.1,g.1.2.1,g.1.2.2,pln g.2.2⟩:Tre)=(Qb x.ro).1)) λg=>[.nodes 27 69 g.2.1.1 g.2.1.2 g.2.2]:=by
 have hn9:x.n<=x.al.length:=Nat.div_le_self _ _
 have hpd:Q5 ((x.n+7)/8)=((x.n+7)/8+7)/8*8:=rfl
 refine eN1 Tryz.func56 Tryz.ntmps56 ?_
 refine aU2 ?_
 refine oBx λb1 _=>?_
 refine oAl (λb2 _=>?_) Qas
 refine aU5 ?_
 refine o_p (QF (cs:=[_,_,_,_,_,_,_]) rfl rfl Qrr Qas rfl) rfl (oAl (λb3 _=>?_) Qas)
 refine aU5 ?_
 refine oCq rfl (λw1 h1=>QiL w1 x 0 0 0 none 0 0 om) (aT6 ?_)
 refine aT ?_
 refine o_p (XC rfl rfl rfl om om om) rfl (aU3 ?_)
 refine QbX (α:=Int) [7,17,18,19,20,21,22,23,24,25,26,27,28,29,30,31,32,33,34,35,36,37,38,39,40,41,42,43,44,45,46] (λe=>[(7,.int .i64 e)]) (λe=>(e=0->(x.al.length<=61440/\x.ro.length<=200000)/\x.al.length%512=0/\x.bm.length=Q5 ((x.n+7)/8))/\(¬e=0->ixE x=e)) ?_ ?_
 ·skip
  refine Qu [] QG ?_
  refine dFa 0 ?_
  refine dLd 1 [] ?_
  refine dV 2 rfl (Qn rfl rfl Tryz.underlying9) (dP 3 ?_)
  refine dP 4 ?_
  apply Xu 21
  ·exact rfl
  ·intro hg4
   have hs5:=hg4;try simp only[dT]at hs5
   refine dFo 5 21 hg4 ?_
   refine dQo 6 21 [] hg4 rfl rfl rfl (Yh rfl rfl Zd aPk rfl) ?_
   refine dVo 7 21 hg4 rfl rfl rfl (Qn rfl rfl Tryz.underlying9) ?_
   refine dPo 8 21 hg4 ?_
   refine dV 9 rfl (Xq rfl rfl hg4 rfl) (dQ 10 [] rfl (QA rfl Qbx rfl (λw1 h1=>c60 w1 _ _)) (dFa 11 ?_))
   refine dLd 12 [] ?_
   refine dV 13 rfl (Qn rfl rfl Tryz.underlying9) (dV 14 rfl (Zc rfl rfl rfl om om) (dP 15 ?_))
   refine dP 16 ?_
   apply Xu 33
   ·exact rfl
   ·intro hg6
    have hs7:=hg6;try simp only[dT]at hs7
    refine dFo 17 33 hg6 ?_
    refine dQo 18 33 [] hg6 rfl rfl rfl (Yh rfl rfl Zd aPk rfl) ?_
    refine dVo 19 33 hg6 rfl rfl rfl (Qn rfl rfl Tryz.underlying9) ?_
    refine dPo 20 33 hg6 ?_
    refine dPo 21 33 hg6 ?_
    try refine dWr ?_
    refine dPo 22 33 hg6 ?_
    try refine dWr ?_
    refine dVo 23 33 hg6 rfl rfl rfl (XC rfl rfl rfl om om om) ?_
    refine dPo 24 33 hg6 ?_
    try refine dWr ?_
    refine dPo 25 33 hg6 ?_
    refine dV 26 rfl (Xq rfl rfl hg6 rfl) (dQ 27 [] rfl (QA rfl Qbx rfl (λw1 h1=>c60 w1 _ _)) (dH 28 rfl (Qg (cs:=[_,_]) rfl rfl Yt ZP rfl rfl rfl) (λb8 _=>dBa ?_)))
    refine dQ 29 [] rfl (QA rfl Qgw rfl (λw1 h1=>f59 h1 aPk (by rfl) (by rfl) (by decide))) (dP 30 ?_)
    refine dNi ?_
    exact Qp (Xs [.int .i64 (bif decide ((x.ro.length:Int)<=200000)then 0 else 8),.int .i64 (bif decide ((x.bm.length:Int)=(((x.n:Int)+8-1)/8+8-1)/8*8)then 0 else 10)]) (Qeq (x:=x) (by first|(simp only[decide_eq_true_eq];omega)|(simp;omega)|grind) (by first|(simp only[decide_eq_true_eq];omega)|(simp;omega)|grind)) aSx (λw h=>h.ent aEt)
   intro hg9
   have hs10:=hg9;try simp only[dN]at hs10
   refine dOf 17 33 hg9 ?_
   refine dOf 18 33 hg9 ?_
   refine dOf 19 33 hg9 ?_
   refine dOf 20 33 hg9 ?_
   refine dOf 21 33 hg9 ?_
   refine dOf 22 33 hg9 ?_
   refine dOf 23 33 hg9 ?_
   refine dOf 24 33 hg9 ?_
   refine dOf 25 33 hg9 ?_
   refine dV 26 rfl (Xe rfl rfl hg9 rfl) (dQ 27 [] rfl (QA rfl Qbx rfl (λw1 h1=>c60 w1 _ _)) (dH 28 rfl (Qg (cs:=[_,_]) rfl rfl Yt ZP rfl rfl rfl) (λb11 _=>dBa ?_)))
   refine dQ 29 [] rfl (QA rfl Qgw rfl (λw1 h1=>f59 h1 aPk (by rfl) (by rfl) (by decide))) (dP 30 ?_)
   refine dNi ?_
   exact Qp (Xs [.int .i64 (bif decide ((x.ro.length:Int)<=200000)then 0 else 8),.int .i64 (bif false then 0 else 10)]) (Qeq (x:=x) (by first|(simp only[decide_eq_true_eq];omega)|(simp;omega)|grind) (by first|(simp only[decide_eq_true_eq];omega)|(simp;omega)|grind)) aSx (λw h=>h.ent aEt)
  intro hg12
  have hs13:=hg12;try simp only[dN]at hs13
  refine dOf 5 21 hg12 ?_
  refine dOf 6 21 hg12 ?_
  refine dOf 7 21 hg12 ?_
  refine dOf 8 21 hg12 ?_
  refine dV 9 rfl (Xe rfl rfl hg12 rfl) (dQ 10 [] rfl (QA rfl Qbx rfl (λw1 h1=>c60 w1 _ _)) (dFa 11 ?_))
  refine dLd 12 [] ?_
  refine dV 13 rfl (Qn rfl rfl Tryz.underlying9) (dV 14 rfl (Zc rfl rfl rfl om om) (dP 15 ?_))
  refine dP 16 ?_
  apply Xu 33
  ·exact rfl
  ·intro hg14
   have hs15:=hg14;try simp only[dT]at hs15
   refine dFo 17 33 hg14 ?_
   refine dQo 18 33 [] hg14 rfl rfl rfl (Yh rfl rfl Zd aPk rfl) ?_
   refine dVo 19 33 hg14 rfl rfl rfl (Qn rfl rfl Tryz.underlying9) ?_
   refine dPo 20 33 hg14 ?_
   refine dPo 21 33 hg14 ?_
   try refine dWr ?_
   refine dPo 22 33 hg14 ?_
   try refine dWr ?_
   refine dVo 23 33 hg14 rfl rfl rfl (XC rfl rfl rfl om om om) ?_
   refine dPo 24 33 hg14 ?_
   try refine dWr ?_
   refine dPo 25 33 hg14 ?_
   refine dV 26 rfl (Xq rfl rfl hg14 rfl) (dQ 27 [] rfl (QA rfl Qbx rfl (λw1 h1=>c60 w1 _ _)) (dH 28 rfl (Qg (cs:=[_,_]) rfl rfl Yt ZP rfl rfl rfl) (λb16 _=>dBa ?_)))
   refine dQ 29 [] rfl (QA rfl Qgw rfl (λw1 h1=>f59 h1 aPk (by rfl) (by rfl) (by decide))) (dP 30 ?_)
   refine dNi ?_
   exact Qp (Xs [.int .i64 (bif false then 0 else 8),.int .i64 (bif decide ((x.bm.length:Int)=(((x.n:Int)+8-1)/8+8-1)/8*8)then 0 else 10)]) (Qeq (x:=x) (by first|(simp only[decide_eq_true_eq];omega)|(simp;omega)|grind) (by first|(simp only[decide_eq_true_eq];omega)|(simp;omega)|grind)) aSx (λw h=>h.ent aEt)
  intro hg17
  have hs18:=hg17;try simp only[dN]at hs18
  refine dOf 17 33 hg17 ?_
  refine dOf 18 33 hg17 ?_
  refine dOf 19 33 hg17 ?_
  refine dOf 20 33 hg17 ?_
  refine dOf 21 33 hg17 ?_
  refine dOf 22 33 hg17 ?_
  refine dOf 23 33 hg17 ?_
  refine dOf 24 33 hg17 ?_
  refine dOf 25 33 hg17 ?_
  refine dV 26 rfl (Xe rfl rfl hg17 rfl) (dQ 27 [] rfl (QA rfl Qbx rfl (λw1 h1=>c60 w1 _ _)) (dH 28 rfl (Qg (cs:=[_,_]) rfl rfl Yt ZP rfl rfl rfl) (λb19 _=>dBa ?_)))
  refine dQ 29 [] rfl (QA rfl Qgw rfl (λw1 h1=>f59 h1 aPk (by rfl) (by rfl) (by decide))) (dP 30 ?_)
  refine dNi ?_
  exact Qp (Xs [.int .i64 (bif false then 0 else 8),.int .i64 (bif false then 0 else 10)]) (Qeq (x:=x) (by first|(simp only[decide_eq_true_eq];omega)|(simp;omega)|grind) (by first|(simp only[decide_eq_true_eq];omega)|(simp;omega)|grind)) aSx (λw h=>h.ent aEt)
 intro e9 he9
 refine aU6 ?_
 refine sCd rfl (λh20=>?_) λh20=>?_
 ·have hR:ixE x=e9:=he9.2 h20
  refine aU7 ?_
  exact Qj (rs:=[.cell 2 108,.tmp 3]) rfl (.cell rfl YN aPk rfl (.tmp rfl (.nil))) (λw' h'=>⟨((0,0,0),(none,0),[]),by rw[hR];rfl,(λh9=>by rw[hR]at h9;exact absurd h9 (by assumption)),(Q9 27 69 h'.nil).ent aEt⟩)
 obtain⟨hA,hBB⟩:=he9.1 h20
 refine aU6 ?_
 refine oCh rfl (λw1 h1=>c28 w1 x.ro hr) (λ⟨⟨ra,rc⟩,RL⟩hRL=>Zg ?_)
 refine sCd rfl (λh21=>?_) λh21=>?_
 ·have hR:=Qnq hA hBB h21
  refine aU7 ?_
  exact Qj (rs:=[.cell 2 108,.tmp 3]) rfl (.cell rfl YN aPk rfl (.tmp rfl (.nil))) (λw' h'=>⟨(((Qb x.ro).1.co,(Qb x.ro).1.mo,(Qb x.ro).1.rm),(ra,rc),RL),by rw[hR];rfl,(λh9=>by rw[hR]at h9;first|exact absurd h9 (by assumption)|cases h9),h'.ent aEt⟩)
 have hC:(Qb x.ro).2=0:=h21
 refine aU6 ?_
 refine o_p (Qn rfl rfl Tryz.underlying9) rfl (aT ?_)
 refine aU3 ?_
 refine Qe (L':=[(1,_),(2,_),(3,_),(4,_),(5,_),(65,_),(66,_)]) aSx (λ_ h=>h) ?_
 refine Qo (α:=Nat) [3,8,66,67,68,69,70,71,72,73,74,75,76,77,78,79,80,81,82,83,84,85] (λk=>[(66,.int .i64 (k:Int))]) (λ_=>HS w [] [.nodes 27 69 ra rc RL,.blk b3 108 7 [.string (bs x.ro),.string (bs x.al),.string (bs x.bm),.int .i64 (Qb x.ro).1.co,.int .i64 (Qb x.ro).1.mo,.int .i64 (Qb x.ro).1.rm,.slice ra RL.length rc],.blk b2 108 7 [.string (bs []),.string (bs []),.string (bs []),.int .i64 0,.int .i64 0,.int .i64 0,.slice none 0 0],.blk b1 23 3 [.string (bs x.ro),.string (bs x.al),.string (bs x.bm)]]) (λk=>k<=8*x.bm.length/\∀j,j<k->x.n<=j->Z8 x.bm j=false) (λk=>8*x.bm.length-k) 0 ⟨Nat.zero_le _,λj h=>absurd h (Nat.not_lt_zero _)⟩ aSx (λw h=>h.ent aEt) (λk hkk=>?_)
 obtain⟨hk1,hk2⟩:=hkk
 refine aU5 ?_
 refine sCd rfl (λh22=>?_) λh22=>?_
 ·have hk:k<8*x.bm.length:=by have hq:=h22;omega
  refine QgE ?_
  refine X0 11 72 83 rfl
   (λhg23 _=>by
    refine aU7 ?_
    refine o_p (XC rfl rfl rfl om om om) rfl (aU ?_)
    refine o_p (XE rfl rfl rfl Tryz.underlying9 (k/8) om om) rfl ?_
    refine Qf (show _=Value.int .u8 ((ub1 x.bm (k/8):Nat):Int)from rfl) (aU3 ?_)
    refine o_p (Zc rfl rfl rfl om om) rfl (aU ?_)
    refine o_p (Qbl rfl rfl rfl om (k%8) (by show min _ 8=_;omega)) rfl (aU4 ?_)
    exact oJt 11 83)
   (λhg25 _=>by
    refine Zo ?_
    exact oJf 11 83) ?_
  refine aU ?_
  refine sCd rfl (λh27=>?_) λh27=>?_
  ·have hR:=QlQ hA hBB hC (Qjf (x:=x) (j:=k) (by have hq:=h27;omega) hk (by rw[<-QgO];have hq:=h27;exact decide_eq_true hq.2))
   refine aU6 ?_
   exact Qj (rs:=[.cell 2 108,.tmp 3]) rfl (.cell rfl YN aPk rfl (.tmp rfl (.nil))) (λw' h'=>⟨(((Qb x.ro).1.co,(Qb x.ro).1.mo,(Qb x.ro).1.rm),(ra,rc),RL),by rw[hR];rfl,(λh9=>by rw[hR]at h9;cases h9),h'.ent aEt⟩)
  have hZ:x.n<=k->Z8 x.bm k=false:=λh9=>by rw[<-QgO];refine decide_eq_false λh8=>?_;have hq:=h27;grind
  refine aT4 ?_
  refine aU2 ?_
  exact sBk (k+1) om ⟨om,λj hj hn=>(Nat.lt_or_ge j k).elim (λh=>hk2 j h hn) (λh=>by obtain rfl:j=k:=om;exact hZ hn)⟩
 have hO:=QmH (x:=x) (λj h1 h2=>hk2 j (by have hq:=h22;omega) h1)
 have hE:=Ql9 hA hBB hC hO
 refine Qh rfl ?_
 refine aU ?_
 refine Qu [9] QG ?_
 refine dLn 0 [[]] ?_
 refine dP 1 ?_
 refine dP 2 ?_
 refine dP 3 ?_
 apply Xu 89
 ·exact rfl
 ·intro hg28
  have hs29:=hg28;try simp only[dT]at hs29
  refine dOf 4 89 hg28 ?_
  refine dOf 5 89 hg28 ?_
  refine dOf 6 89 hg28 ?_
  refine dV 7 rfl (Xq rfl rfl hg28 rfl) (dQ 8 [[]] rfl (QA rfl Qbx rfl (λw1 h1=>c60 w1 _ _)) (dSt 9 ?_ (hl:=(by simp only[Qk,List.length_set,List.length_cons,List.length_nil,List.length_map];omega))))
  refine dTu [] ?_
  refine dP 10 ?_
  refine dNi ?_
  exact Qj (rs:=[.cell 2 108,.tmp 3]) rfl (.cell rfl YN aPk rfl (.tmp rfl (.nil))) (λw' h'=>⟨(((Qb x.ro).1.co,(Qb x.ro).1.mo,(Qb x.ro).1.rm),(ra,rc),RL),(by first|(rw[QfH hE (v:=true) ⟨λ_=>.inl (by grind),λ_=>rfl⟩];rfl)|(rw[QfH hE (v:=Yb x x.n) (Qkr (by grind))];rfl)|(exfalso;grind)),(λ_=>by rw[hRL]),h'.ent aEt⟩)
 intro hg30
 have hs31:=hg30;try simp only[dN]at hs31
 refine dQo 4 89 [[8,6]] hg30 rfl rfl rfl (Qaf rfl rfl YN aPk rfl) ?_
 refine dPo 5 89 hg30 ?_
 refine dQo 6 89 [[8]] hg30 rfl rfl rfl (QA rfl Qto rfl (λw1 h1=>c61 w1 x (Qb x.ro).1.co (Qb x.ro).1.mo (Qb x.ro).1.rm ra RL.length rc x.n om om)) ?_
 refine dV 7 rfl (Xe rfl rfl hg30 rfl) (dQ 8 [[]] rfl (QA rfl Qbx rfl (λw1 h1=>c60 w1 _ _)) (dSt 9 ?_ (hl:=(by simp only[Qk,List.length_set,List.length_cons,List.length_nil,List.length_map];omega))))
 refine dTu [] ?_
 refine dP 10 ?_
 refine dNi ?_
 exact Qj (rs:=[.cell 2 108,.tmp 3]) rfl (.cell rfl YN aPk rfl (.tmp rfl (.nil))) (λw' h'=>⟨(((Qb x.ro).1.co,(Qb x.ro).1.mo,(Qb x.ro).1.rm),(ra,rc),RL),(by first|(rw[QfH hE (v:=true) ⟨λ_=>.inl (by grind),λ_=>rfl⟩];rfl)|(rw[QfH hE (v:=Yb x x.n) (Qkr (by grind))];rfl)|(exfalso;grind)),(λ_=>by rw[hRL]),h'.ent aEt⟩)
def QkN(x:Ixs):Bool:=((decide ((x.al.length:Int)<=10241)||(decide ((x.al.length:Int)>61440)&&decide ((x.al.length:Int)<200000)))&&decide ((x.ro.length:Int)<=500))&&decide ((x.bm.length:Int)<=40)
theorem Qmj{x:Ixs}(h:QkN x=true):x.al.length<=200000/\x.ro.length<=500/\x.bm.length<=40:=by
  simp only[QkN,Bool.and_eq_true,Bool.or_eq_true,decide_eq_true_eq]at h;omega
theorem c12(w:World)(x:Ixs):CR 12 #[.agg #[.string (bs x.ro),.string (bs x.al),.string (bs x.bm)]] w (.bool (QkN x)):=by
 refine eN1 Tryz.func12 Tryz.ntmps12 ?_
 refine aU2 ?_
 refine oBx λb1 _=>?_
 refine aU6 ?_
 refine o_p (Qn rfl rfl Tryz.underlying9) rfl (aU2 ?_)
 refine oOr 11 7 18 rfl
  (λhg2 _=>by
   refine aU5 ?_
   refine o_p (Qn rfl rfl Tryz.underlying9) rfl (aU4 ?_)
   refine X0 5 12 17 rfl
    (λhg4 _=>by
     refine aU5 ?_
     refine o_p (Qn rfl rfl Tryz.underlying9) rfl (aU3 ?_)
     exact oJt 5 17)
    (λhg6 _=>by
     refine aU5 ?_
     exact oJf 5 17) ?_
   exact oJf 7 18)
  (λhg8 _=>by
   refine Zo ?_
   exact oJt 11 18) ?_
 refine aU ?_
 refine X0 5 19 24 rfl
  (λhg10 _=>by
   refine aU5 ?_
   refine o_p (Qn rfl rfl Tryz.underlying9) rfl (aU2 ?_)
   exact oJt 5 24)
  (λhg12 _=>by
   refine aU4 ?_
   exact oJf 5 24) ?_
 refine aU ?_
 refine X0 5 25 30 rfl
  (λhg14 _=>by
   refine aU5 ?_
   refine o_p (Qn rfl rfl Tryz.underlying9) rfl (aU2 ?_)
   exact oJt 5 30)
  (λhg16 _=>by
   refine aU4 ?_
   exact oJf 5 30) ?_
 refine aU2 ?_
 exact rV
instance:TFn Tryz.prog 49:=⟨by kernel_rfl⟩
instance:TFn Tryz.prog 69:=⟨by kernel_rfl⟩
set_option maxHeartbeats 4000000 in
theorem c16(w:World)(x:Ixs)(hl:x.al.length<=900000)(hr:x.ro.length<=1000000)(hb:x.bm.length<=100000):CE 16 #[.agg #[.string (bs x.ro),.string (bs x.al),.string (bs x.bm)]] w [] (λg:(Option Addr×Nat)×List LNd=>.tuple #[.agg #[.int .i64 (rdI x).1.1.co,.int .i64 (rdI x).1.1.mo,.int .i64 (rdI x).1.1.rm,.slice g.1.1 g.2.length g.1.2],.int .i64 (rdI x).1.2,.int .i64 (rdI x).2]) (λg=>pln g.2=(rdI x).1.1.ns) λg=>[.nodes 27 69 g.1.1 g.1.2 g.2]:=by
 have hn9:x.n<=x.al.length:=Nat.div_le_self _ _
 have hn8:x.n=x.al.length/512:=rfl
 refine eN1 Tryz.func16 Tryz.ntmps16 ?_
 refine aU2 ?_
 refine oBx λb1 _=>?_
 refine oAl (λb2 _=>?_) Xn
 refine aU5 ?_
 refine o_p (QF (cs:=[_,_,_,_]) rfl rfl ZQ Xn rfl) rfl (oAl (λb3 _=>?_) Xn)
 refine aU6 ?_
 refine oCq rfl (λw1 h1=>c49 w1 x hl hr hb) (aU7 ?_)
 refine sCd rfl (λh4=>?_) λh4=>?_
 ·have hR:=Qlj (x:=x) h4
  refine aU8 ?_
  exact Qj (rs:=[.cell 2 37,.tmp 3,.tmp 4]) rfl (.cell rfl XM aPk rfl (.tmp rfl (.tmp rfl (.nil)))) (λw' h'=>⟨((none,0),[]),by rw[hR];rfl,by rw[hR];rfl,(Q9 27 69 h'.nil).ent aEt⟩)
 have hE:ixE x=0:=h4
 obtain⟨hA,hB,hC,hO,hLs⟩:=QbO hE
 obtain⟨n0,l0,_,_,_,hrt,_⟩:=Y1 hC
 have hL1:(Qb x.ro).1.ns.length=1:=by rw[hrt];rfl
 refine aU5 ?_
 refine oCh rfl (λw1 h1=>c31 w1 x.ro hr) (λ⟨⟨ra,rc⟩,RL⟩hRL=>aU3 ?_)
 refine oAl (λb5 _=>?_) Xn
 refine aU9 ?_
 refine Qe (L':=[(1,_),(2,_),(3,_),(4,_),(5,_),(7,_),(9,_)]) aSx (λ_ h=>h) ?_
 refine Qo (α:=Nat×(Option Addr×Nat)×List LNd) [3,4,9,10,11,12,13,29,30,31,32,33,34,35,36,37,38,39,40,41,42,43,44,45,46,47,48,49,50,51,52,53,54,55,56,57,58,59,60,61,62,63,64,65,66,67,68,69,70,71,72] (λx=>[(9,.int .i64 ((x.1+1:Nat):Int))]) (λy=>HS w [] [.nodes 27 69 y.2.1.1 y.2.1.2 y.2.2,.blk b5 37 4 [.int .i64 (Qb x.ro).1.co,.int .i64 (Qb x.ro).1.mo,.int .i64 (Qb x.ro).1.rm,.slice y.2.1.1 y.2.2.length y.2.1.2],.blk b3 37 4 [.int .i64 0,.int .i64 0,.int .i64 0,.slice none 0 0],.blk b2 37 4 [.int .i64 0,.int .i64 0,.int .i64 0,.slice none 0 0],.blk b1 23 3 [.string (bs x.ro),.string (bs x.al),.string (bs x.bm)]]) (λy=>y.1<=x.n/\pln y.2.2=Xf x y.1/\∀j,j<y.1->bkE x (j+1)=0) (λy=>x.n-y.1) (0,(ra,rc),RL) ⟨Nat.zero_le _,by(try simp only[]);rw[hRL];unfold Xf;simp,λj h=>absurd h (Nat.not_lt_zero _)⟩ aSx (λw h=>h.ent aEt) (λ⟨k,⟨ga,gc⟩,L⟩hkk=>?_)
 dsimp only
 simp only[]at hkk
 obtain⟨hk1,hk2,hk3⟩:=hkk
 have hLl:L.length=k+1:=by rw[<-Qd,hk2,Y3 hL1]
 refine aU5 ?_
 refine oCq rfl (λw1 h1=>c66 w1 x om) (aU2 ?_)
 refine sCd rfl (λh6=>?_) λh6=>?_
 ·have hk:k<x.n:=by have hq:=h6;omega
  have hb5:=Qb3 (x:=x) (i:=k+1) om
  have hnm:Yb x (k+1)=Z8 x.bm (k+1-1):=by unfold Yb;rw[decide_eq_true om,Bool.true_and]
  refine aU8 ?_
  refine oCq rfl (λw1 h1=>c67 w1 x (k+1) om om) (aU2 ?_)
  refine sCd rfl (λh7=>?_) λh7=>?_
  ·have hnf:Yb x (k+1)=false:=by rw[hnm];have hq:=h7;simpa using hq
   refine aU5 ?_
   refine oCq rfl (λw1 h1=>c69 w1 x (k+1) om om) (oCq rfl (λw1 h1=>c53 w1 (x.blk (k+1)) om) (aU2 ?_))
   refine sCd rfl (λh8=>?_) λh8=>?_
   ·have hbe:bkE x (k+1)=3:=by rw[QcA hnf,if_neg];have hq:=h8;simpa using hq
    have hR:=Qgq hE hk hk3 (by rw[hbe];decide)
    rw[hbe]at hR
    refine aU8 ?_
    exact Qj (rs:=[.cell 2 37,.tmp 3,.tmp 4]) rfl (.cell rfl XM aPk rfl (.tmp rfl (.tmp rfl (.nil)))) (λw' h'=>⟨((none,0),[]),by rw[hR];rfl,by rw[hR];rfl,(Q9 27 69 h'.nil).ent aEt⟩)
   have hbe:bkE x (k+1)=0:=by rw[QcA hnf,if_pos];have hq:=h8;simpa using hq
   refine aU4 ?_
   refine QZ (C':=HS w [] [.own (.slice ga L.length gc) 69 3 L.length (L.flatMap LNd.vals),.star (L.map (QB 27)),.blk b5 37 4 [.int .i64 (Qb x.ro).1.co,.int .i64 (Qb x.ro).1.mo,.int .i64 (Qb x.ro).1.rm,.slice ga L.length gc],.blk b3 37 4 [.int .i64 0,.int .i64 0,.int .i64 0,.slice none 0 0],.blk b2 37 4 [.int .i64 0,.int .i64 0,.int .i64 0,.slice none 0 0],.blk b1 23 3 [.string (bs x.ro),.string (bs x.al),.string (bs x.bm)]]) (λw9 h=>(HS.nodes_open h aPk).ent aEt) (aU ?_)
   refine o_p (QF (cs:=[_,_,_]) rfl rfl Qco Xc rfl) rfl (o_h (Qg (cs:=[_,_,_]) rfl rfl QH Xc rfl rfl rfl) rfl (λb9 _=>?_))
   refine o_h (QO [_,_,_] rfl rfl rfl QH Tryz.underlying35 Xc rfl aPk (Q7 aPk) rfl (by intro u hu;simp only[List.mem_cons,List.mem_nil_iff,or_false]at hu;rcases hu with rfl|rfl|rfl<;>rfl) om (by simp only[maxLen];omega)) rfl (λb10 _=>aU3 ?_)
   refine Qh rfl ?_
   refine aT3 ?_
   refine Qf (show _=Value.int .i64 ((k+1+1:Nat):Int)from congrArg (Value.int .i64) om) (aU2 ?_)
   exact QK (k+1,(b10.1,b10.2),L++[⟨false,none,0,[],none,0,[]⟩]) (by(try simp only[]);omega) ⟨by(try simp only[]);omega,by(try simp only[]);rw[QbI,hk2,QbZ,Qci hnf];rfl,λj hj=>(Nat.lt_or_ge j k).elim (hk3 j) (λh=>by obtain rfl:j=k:=om;exact hbe)⟩ (by simp only[List.length_append,List.length_singleton];exact aSx) (λw h=>by have h9:=((h.own_nil 3 1).own_nil 27 2);have h8:=HS.nodes_app (n:=⟨false,none,0,[],none,0,[]⟩) (L:=L) (et:=27) (nt':=69) (h9.ent (Bs:=[.ents 27 (⟨false,none,0,[],none,0,[]⟩:LNd).ea (⟨false,none,0,[],none,0,[]⟩:LNd).ec (⟨false,none,0,[],none,0,[]⟩:LNd).es,.kids (⟨false,none,0,[],none,0,[]⟩:LNd).ca (⟨false,none,0,[],none,0,[]⟩:LNd).cc (⟨false,none,0,[],none,0,[]⟩:LNd).cs,.star (L.map (QB 27)),.own (.slice b10.1 (L.length+1) b10.2) 69 3 (L.length+1) (L.flatMap LNd.vals++LNd.vals ⟨false,none,0,[],none,0,[]⟩),.blk b5 37 4 [.int .i64 (Qb x.ro).1.co,.int .i64 (Qb x.ro).1.mo,.int .i64 (Qb x.ro).1.rm,.slice b10.1 (L.length+1) b10.2],.blk b3 37 4 [.int .i64 0,.int .i64 0,.int .i64 0,.slice none 0 0],.blk b2 37 4 [.int .i64 0,.int .i64 0,.int .i64 0,.slice none 0 0],.blk b1 23 3 [.string (bs x.ro),.string (bs x.al),.string (bs x.bm)]]) aEt);dsimp only;rw[List.length_append];exact h8.ent aEt)
  have hnf:Yb x (k+1)=true:=by rw[hnm];have hq:=h7;simpa using hq
  refine aU5 ?_
  refine oCq rfl (λw1 h1=>c69 w1 x (k+1) om om) (aU ?_)
  refine oCh rfl (λw1 h1=>c39 w1 (x.blk (k+1)) ((k+1:Nat):Int) om) (λgn hgn=>aU5 ?_)
  refine oAl (λb11 _=>?_) Xc
  refine Zw ?_
  refine sCd rfl (λh12=>?_) λh12=>?_
  ·have hbe:=ZU hnf
   have hR:=Qgq hE hk hk3 (by rw[hbe];exact h12)
   rw[hbe]at hR
   refine aU9 ?_
   exact Qj (rs:=[.cell 2 37,.tmp 3,.tmp 4]) rfl (.cell rfl XM aPk rfl (.tmp rfl (.tmp rfl (.nil)))) (λw' h'=>⟨((none,0),[]),by rw[hR];rfl,by rw[hR];rfl,(Q9 27 69 h'.nil).ent aEt⟩)
  have hbe:bkE x (k+1)=0:=by rw[ZU hnf];exact h12
  refine aU3 ?_
  refine QZ (C':=HS w [] [.own (.slice ga L.length gc) 69 3 L.length (L.flatMap LNd.vals),.star (L.map (QB 27)),.ents 27 gn.ea gn.ec gn.es,.kids gn.ca gn.cc gn.cs,.blk b11 69 3 (LNd.vals gn),.blk b5 37 4 [.int .i64 (Qb x.ro).1.co,.int .i64 (Qb x.ro).1.mo,.int .i64 (Qb x.ro).1.rm,.slice ga L.length gc],.blk b3 37 4 [.int .i64 0,.int .i64 0,.int .i64 0,.slice none 0 0],.blk b2 37 4 [.int .i64 0,.int .i64 0,.int .i64 0,.slice none 0 0],.blk b1 23 3 [.string (bs x.ro),.string (bs x.al),.string (bs x.bm)]]) (λw9 h=>(HS.nodes_open h aPk).ent aEt) (aU2 ?_)
  refine o_h (Qg (cs:=[_,_,_]) rfl rfl QH Xc rfl rfl rfl) rfl (λb13 _=>?_)
  refine o_h (QO [_,_,_] rfl rfl rfl QH Tryz.underlying35 Xc rfl aPk (Q7 aPk) rfl (by intro u hu;simp only[List.mem_cons,List.mem_nil_iff,or_false]at hu;rcases hu with rfl|rfl|rfl<;>rfl) om (by simp only[maxLen];omega)) rfl (λb14 _=>aU4 ?_)
  refine Qe (L':=[(1,_),(2,_),(5,_),(7,_),(9,_)]) aSx (λ_ h=>h) ?_
  refine aT3 ?_
  refine Qf (show _=Value.int .i64 ((k+1+1:Nat):Int)from congrArg (Value.int .i64) om) (aU2 ?_)
  exact QK (k+1,(b14.1,b14.2),L++[gn]) (by(try simp only[]);omega) ⟨by(try simp only[]);omega,by(try simp only[]);rw[QbI,hk2,QbZ,QcU hnf];(show _++[gn.pl]=_);rw[hgn],λj hj=>(Nat.lt_or_ge j k).elim (hk3 j) (λh=>by obtain rfl:j=k:=om;exact hbe)⟩ (by simp only[List.length_append,List.length_singleton];exact aSx) (λw h=>by have h9:=h;have h8:=HS.nodes_app (n:=gn) (L:=L) (et:=27) (nt':=69) (h9.ent (Bs:=[.ents 27 (gn:LNd).ea (gn:LNd).ec (gn:LNd).es,.kids (gn:LNd).ca (gn:LNd).cc (gn:LNd).cs,.star (L.map (QB 27)),.own (.slice b14.1 (L.length+1) b14.2) 69 3 (L.length+1) (L.flatMap LNd.vals++LNd.vals gn),.blk b5 37 4 [.int .i64 (Qb x.ro).1.co,.int .i64 (Qb x.ro).1.mo,.int .i64 (Qb x.ro).1.rm,.slice b14.1 (L.length+1) b14.2],.blk b3 37 4 [.int .i64 0,.int .i64 0,.int .i64 0,.slice none 0 0],.blk b2 37 4 [.int .i64 0,.int .i64 0,.int .i64 0,.slice none 0 0],.blk b1 23 3 [.string (bs x.ro),.string (bs x.al),.string (bs x.bm)]]) aEt);dsimp only;rw[List.length_append];exact h8.ent aEt)
 obtain rfl:k=x.n:=by have hq:=h6;omega
 have hall:=Qli hE hk3
 have hT:(⟨(Qb x.ro).1.co,(Qb x.ro).1.mo,(Qb x.ro).1.rm,pln L⟩:Tre)=QaK x:=by rw[hk2];rfl
 refine Qh rfl ?_
 refine aU4 ?_
 refine oCq rfl (λw1 h1=>c71 w1 _ _ _ ga gc L (HS.nt h1 aPk) (by rw[hk2];exact QfP hC om) (λi hi y hy=>(Qjy hC hk2 i hi y hy).1)) ?_
 rw[hT]
 refine Zw ?_
 refine sCd rfl (λh15=>?_) λh15=>?_
 ·have hR:rdI x=((noT,(XQ (QaK x)).1),(XQ (QaK x)).2):=by rw[hall,if_neg h15]
  refine aU9 ?_
  exact Qj (rs:=[.cell 2 37,.tmp 3,.tmp 4]) rfl (.cell rfl XM aPk rfl (.tmp rfl (.tmp rfl (.nil)))) (λw' h'=>⟨((none,0),[]),by rw[hR];rfl,by rw[hR];rfl,(Q9 27 69 h'.nil).ent aEt⟩)
 have hR:rdI x=((QaK x,0),0):=by rw[hall,if_pos h15]
 refine aU8 ?_
 exact Qj (rs:=[.cell 2 37,.tmp 3,.tmp 4]) rfl (.cell rfl XM aPk rfl (.tmp rfl (.tmp rfl (.nil)))) (λw' h'=>⟨((ga,gc),L),by rw[hR];rfl,by rw[hR];exact hk2,h'.ent aEt⟩)
instance:TFn Tryz.prog 56:=⟨by kernel_rfl⟩
theorem Qjv:QQ Tryz.prog 64=true:=by kernel_rfl
instance:TFn Tryz.prog 64:=⟨Qjv⟩
set_option maxHeartbeats 4000000 in
theorem c82(w:World)(x:Ixs)(hl:x.al.length<=900000)(hr:x.ro.length<=1000000)(hb:x.bm.length<=100000):CE 82 #[.agg #[.string (bs x.ro),.string (bs x.al),.string (bs x.bm)]] w [] (λg:((Option Addr×Nat)×List LNd)×(Int×Int×Int)×(Option Addr×Nat×Nat)=>.tuple #[.agg #[.string (bs x.ro),.string (bs x.al),.string (bs x.bm),.int .i64 g.2.1.1,.int .i64 g.2.1.2.1,.int .i64 g.2.1.2.2,.slice g.2.2.1 g.2.2.2.1 g.2.2.2.2],.agg #[.int .i64 (rdI x).1.1.co,.int .i64 (rdI x).1.1.mo,.int .i64 (rdI x).1.1.rm,.slice g.1.1.1 g.1.2.length g.1.1.2],.int .i64 (rdI x).1.2,.int .i64 (rdI x).2]) (λg=>pln g.1.2=(rdI x).1.1.ns) λg=>[.nodes 27 69 g.1.1.1 g.1.1.2 g.1.2]:=by
 have hn9:x.n<=x.al.length:=Nat.div_le_self _ _
 have hn8:x.n=x.al.length/512:=rfl
 refine eN1 Tryz.func82 Tryz.ntmps82 ?_
 refine aU2 ?_
 refine oBx λb1 _=>?_
 refine oAl (λb2 _=>?_) Qas
 refine oAl (λb3 _=>?_) Xn
 refine aU6 ?_
 refine oCh rfl (λw1 h1=>c56 w1 x hl hr hb) (λ⟨⟨c1,m1,r1⟩,⟨ra,rc⟩,RL⟩hRL=>aU3 ?_)
 refine oAl (λb4 _=>?_) Qas
 refine aU9 ?_
 refine sCd rfl (λh5=>?_) λh5=>?_
 ·have hR:=Qlj (x:=x) h5
  refine aU3 ?_
  refine o_p (QF (cs:=[_,_,_,_]) rfl rfl ZQ Xn rfl) rfl (aU6 ?_)
  exact Qj (rs:=[.cell 2 108,.cell 3 37,.tmp 4,.tmp 5]) rfl (.cell rfl YN aPk rfl (.cell rfl XM aPk rfl (.tmp rfl (.tmp rfl (.nil))))) (λw' h'=>⟨(((none,0),[]),(c1,m1,r1),(ra,RL.length,rc)),by rw[hR];rfl,by rw[hR];rfl,(Q9 27 69 h'.nil).ent aEt⟩)
 have hE:ixE x=0:=h5
 have hRT:=hRL hE
 dsimp only at hRT
 obtain rfl:c1=(Qb x.ro).1.co:=congrArg Tre.co hRT
 obtain rfl:m1=(Qb x.ro).1.mo:=congrArg Tre.mo hRT
 obtain rfl:r1=(Qb x.ro).1.rm:=congrArg Tre.rm hRT
 have hRn:pln RL=(Qb x.ro).1.ns:=congrArg Tre.ns hRT
 obtain⟨hA,hB,hC,hO,hLs⟩:=QbO hE
 obtain⟨n0,l0,_,_,_,hrt,_⟩:=Y1 hC
 have hL1:(Qb x.ro).1.ns.length=1:=by rw[hrt];rfl
 have hb8:x.n<=8*x.bm.length:=by have:=Yx ((x.n+7)/8);omega
 refine aU5 ?_
 refine oAl (λb6 _=>?_) Xn
 refine aU8 ?_
 refine Qe (L':=[(2,_),(3,_),(4,_),(5,_),(6,_),(8,_),(9,_)]) aSx (λ_ h=>h) ?_
 refine Qo (α:=Nat×(Option Addr×Nat)×List LNd) [4,5,9,10,11,26,27,28,29,30,31,32,33,34,35,36,37,38,39,40,41,42,43,44,45,46,47,48,49,50,51,52,53,54,55,56,57,58,59,60,61,62,63,64,65,66,67,68,69,70] (λy=>[(9,.int .i64 ((y.1+1:Nat):Int))]) (λy=>HS w [] [.nodes 27 69 y.2.1.1 y.2.1.2 y.2.2,.blk b6 37 4 [.int .i64 (Qb x.ro).1.co,.int .i64 (Qb x.ro).1.mo,.int .i64 (Qb x.ro).1.rm,.slice y.2.1.1 y.2.2.length y.2.1.2],.blk b4 108 7 [.string (bs x.ro),.string (bs x.al),.string (bs x.bm),.int .i64 (Qb x.ro).1.co,.int .i64 (Qb x.ro).1.mo,.int .i64 (Qb x.ro).1.rm,.slice ra RL.length rc],.blk b2 108 7 [.string (bs []),.string (bs []),.string (bs []),.int .i64 0,.int .i64 0,.int .i64 0,.slice none 0 0],.blk b3 37 4 [.int .i64 0,.int .i64 0,.int .i64 0,.slice none 0 0],.blk b1 23 3 [.string (bs x.ro),.string (bs x.al),.string (bs x.bm)]]) (λy=>y.1<=x.n/\pln y.2.2=Xf x y.1/\∀j,j<y.1->bkE x (j+1)=0) (λy=>x.n-y.1) (0,(ra,rc),RL) ⟨Nat.zero_le _,by(try simp only[]);rw[hRn];unfold Xf;simp,λj h=>absurd h (Nat.not_lt_zero _)⟩ aSx (λw h=>h.ent aEt) (λ⟨k,⟨ga,gc⟩,L⟩hkk=>?_)
 dsimp only
 simp only[]at hkk
 obtain⟨hk1,hk2,hk3⟩:=hkk
 have hLl:L.length=k+1:=by rw[<-Qd,hk2,Y3 hL1]
 refine aU5 ?_
 refine oCq rfl (λw1 h1=>QiL w1 x (Qb x.ro).1.co (Qb x.ro).1.mo (Qb x.ro).1.rm ra RL.length rc om) (aU2 ?_)
 refine sCd rfl (λh7=>?_) λh7=>?_
 ·have hk:k<x.n:=by have hq:=h7;omega
  have hb5:=Qb3 (x:=x) (i:=k+1) om
  refine aU8 ?_
  refine oCq rfl (λw1 h1=>c61 w1 x (Qb x.ro).1.co (Qb x.ro).1.mo (Qb x.ro).1.rm ra RL.length rc (k+1) om hb8) (aU2 ?_)
  refine sCd rfl (λh8=>?_) λh8=>?_
  ·have hnf:Yb x (k+1)=false:=by have hq:=h8;simpa using hq
   refine aU5 ?_
   refine oCq rfl (λw1 h1=>c64 w1 x (Qb x.ro).1.co (Qb x.ro).1.mo (Qb x.ro).1.rm ra RL.length rc (k+1) om om) (oCq rfl (λw1 h1=>c78 w1) (aU2 ?_))
   refine sCd rfl (λh9=>?_) λh9=>?_
   ·have hbe:bkE x (k+1)=3:=by rw[QcA hnf,if_neg];rw[<-Qnl om];exact h9
    have hR:=Qgq hE hk hk3 (by rw[hbe];decide)
    rw[hbe]at hR
    refine aU3 ?_
    refine o_p (QF (cs:=[_,_,_,_]) rfl rfl ZQ Xn rfl) rfl (aU6 ?_)
    exact Qj (rs:=[.cell 2 108,.cell 3 37,.tmp 4,.tmp 5]) rfl (.cell rfl YN aPk rfl (.cell rfl XM aPk rfl (.tmp rfl (.tmp rfl (.nil))))) (λw' h'=>⟨(((none,0),[]),((Qb x.ro).1.co,(Qb x.ro).1.mo,(Qb x.ro).1.rm),(ra,RL.length,rc)),by rw[hR];rfl,by rw[hR];rfl,(Q9 27 69 h'.nil).ent aEt⟩)
   have hbe:bkE x (k+1)=0:=by rw[QcA hnf,if_pos];rw[<-Qnl om];have hq:=h9;first|exact hq|simpa using hq
   refine aU4 ?_
   refine QZ (C':=HS w [] [.own (.slice ga L.length gc) 69 3 L.length (L.flatMap LNd.vals),.star (L.map (QB 27)),.blk b6 37 4 [.int .i64 (Qb x.ro).1.co,.int .i64 (Qb x.ro).1.mo,.int .i64 (Qb x.ro).1.rm,.slice ga L.length gc],.blk b4 108 7 [.string (bs x.ro),.string (bs x.al),.string (bs x.bm),.int .i64 (Qb x.ro).1.co,.int .i64 (Qb x.ro).1.mo,.int .i64 (Qb x.ro).1.rm,.slice ra RL.length rc],.blk b2 108 7 [.string (bs []),.string (bs []),.string (bs []),.int .i64 0,.int .i64 0,.int .i64 0,.slice none 0 0],.blk b3 37 4 [.int .i64 0,.int .i64 0,.int .i64 0,.slice none 0 0],.blk b1 23 3 [.string (bs x.ro),.string (bs x.al),.string (bs x.bm)]]) (λw9 h=>(HS.nodes_open h aPk).ent aEt) (aU ?_)
   refine o_p (QF (cs:=[_,_,_]) rfl rfl Qco Xc rfl) rfl (o_h (Qg (cs:=[_,_,_]) rfl rfl QH Xc rfl rfl rfl) rfl (λb10 _=>?_))
   refine o_h (QO [_,_,_] rfl rfl rfl QH Tryz.underlying35 Xc rfl aPk (Q7 aPk) rfl (by intro u hu;simp only[List.mem_cons,List.mem_nil_iff,or_false]at hu;rcases hu with rfl|rfl|rfl<;>rfl) om (by simp only[maxLen];omega)) rfl (λb11 _=>aU3 ?_)
   refine Qh rfl ?_
   refine aT3 ?_
   refine Qf (show _=Value.int .i64 ((k+1+1:Nat):Int)from congrArg (Value.int .i64) om) (aU2 ?_)
   exact QK (k+1,(b11.1,b11.2),L++[⟨false,none,0,[],none,0,[]⟩]) (by(try simp only[]);omega) ⟨by(try simp only[]);omega,by(try simp only[]);rw[QbI,hk2,QbZ,Qci hnf];rfl,λj hj=>(Nat.lt_or_ge j k).elim (hk3 j) (λh=>by obtain rfl:j=k:=om;exact hbe)⟩ (by simp only[List.length_append,List.length_singleton];exact aSx) (λw h=>by have h9:=((h.own_nil 3 1).own_nil 27 2);have h8:=HS.nodes_app (n:=⟨false,none,0,[],none,0,[]⟩) (L:=L) (et:=27) (nt':=69) (h9.ent (Bs:=[.ents 27 (⟨false,none,0,[],none,0,[]⟩:LNd).ea (⟨false,none,0,[],none,0,[]⟩:LNd).ec (⟨false,none,0,[],none,0,[]⟩:LNd).es,.kids (⟨false,none,0,[],none,0,[]⟩:LNd).ca (⟨false,none,0,[],none,0,[]⟩:LNd).cc (⟨false,none,0,[],none,0,[]⟩:LNd).cs,.star (L.map (QB 27)),.own (.slice b11.1 (L.length+1) b11.2) 69 3 (L.length+1) (L.flatMap LNd.vals++LNd.vals ⟨false,none,0,[],none,0,[]⟩),.blk b6 37 4 [.int .i64 (Qb x.ro).1.co,.int .i64 (Qb x.ro).1.mo,.int .i64 (Qb x.ro).1.rm,.slice b11.1 (L.length+1) b11.2],.blk b4 108 7 [.string (bs x.ro),.string (bs x.al),.string (bs x.bm),.int .i64 (Qb x.ro).1.co,.int .i64 (Qb x.ro).1.mo,.int .i64 (Qb x.ro).1.rm,.slice ra RL.length rc],.blk b2 108 7 [.string (bs []),.string (bs []),.string (bs []),.int .i64 0,.int .i64 0,.int .i64 0,.slice none 0 0],.blk b3 37 4 [.int .i64 0,.int .i64 0,.int .i64 0,.slice none 0 0],.blk b1 23 3 [.string (bs x.ro),.string (bs x.al),.string (bs x.bm)]]) aEt);dsimp only;rw[List.length_append];exact h8.ent aEt)
  have hnf:Yb x (k+1)=true:=by have hq:=h8;simpa using hq
  refine aU5 ?_
  refine oCq rfl (λw1 h1=>c64 w1 x (Qb x.ro).1.co (Qb x.ro).1.mo (Qb x.ro).1.rm ra RL.length rc (k+1) om om) (aU ?_)
  refine oCh rfl (λw1 h1=>c63 w1 (x.blk (k+1)) ((k+1:Nat):Int) om) (λgn hgn=>aU3 ?_)
  refine oAl (λb12 _=>?_) ZK
  refine aU9 ?_
  refine sCd rfl (λh13=>?_) λh13=>?_
  ·have hbe:=ZU hnf
   have hR:=Qgq hE hk hk3 (by rw[hbe];exact h13)
   rw[hbe]at hR
   refine aU3 ?_
   refine o_p (QF (cs:=[_,_,_,_]) rfl rfl ZQ Xn rfl) rfl (aU7 ?_)
   exact Qj (rs:=[.cell 2 108,.cell 3 37,.tmp 4,.tmp 5]) rfl (.cell rfl YN aPk rfl (.cell rfl XM aPk rfl (.tmp rfl (.tmp rfl (.nil))))) (λw' h'=>⟨(((none,0),[]),((Qb x.ro).1.co,(Qb x.ro).1.mo,(Qb x.ro).1.rm),(ra,RL.length,rc)),by rw[hR];rfl,by rw[hR];rfl,(Q9 27 69 h'.nil).ent aEt⟩)
  have hbe:bkE x (k+1)=0:=by rw[ZU hnf];exact h13
  refine aU3 ?_
  refine QZ (C':=HS w [] [.own (.slice ga L.length gc) 69 3 L.length (L.flatMap LNd.vals),.star (L.map (QB 27)),.ents 27 gn.ea gn.ec gn.es,.kids gn.ca gn.cc gn.cs,.blk b12 118 5 _,.blk b6 37 4 [.int .i64 (Qb x.ro).1.co,.int .i64 (Qb x.ro).1.mo,.int .i64 (Qb x.ro).1.rm,.slice ga L.length gc],.blk b4 108 7 [.string (bs x.ro),.string (bs x.al),.string (bs x.bm),.int .i64 (Qb x.ro).1.co,.int .i64 (Qb x.ro).1.mo,.int .i64 (Qb x.ro).1.rm,.slice ra RL.length rc],.blk b2 108 7 [.string (bs []),.string (bs []),.string (bs []),.int .i64 0,.int .i64 0,.int .i64 0,.slice none 0 0],.blk b3 37 4 [.int .i64 0,.int .i64 0,.int .i64 0,.slice none 0 0],.blk b1 23 3 [.string (bs x.ro),.string (bs x.al),.string (bs x.bm)]]) (λw9 h=>(HS.nodes_open h aPk).ent aEt) (aU3 ?_)
  refine o_h (Qg (cs:=[_,_,_]) rfl rfl QH Xc rfl rfl rfl) rfl (λb14 _=>?_)
  refine o_h (QO [_,_,_] rfl rfl rfl QH Tryz.underlying35 Xc rfl aPk (Q7 aPk) rfl (by intro u hu;simp only[List.mem_cons,List.mem_nil_iff,or_false]at hu;rcases hu with rfl|rfl|rfl<;>rfl) om (by simp only[maxLen];omega)) rfl (λb15 _=>aU4 ?_)
  refine Qe (L':=[(2,_),(3,_),(6,_),(8,_),(9,_)]) aSx (λ_ h=>h) ?_
  refine aT3 ?_
  refine Qf (show _=Value.int .i64 ((k+1+1:Nat):Int)from congrArg (Value.int .i64) om) (aU2 ?_)
  exact QK (k+1,(b15.1,b15.2),L++[gn]) (by(try simp only[]);omega) ⟨by(try simp only[]);omega,by(try simp only[]);rw[QbI,hk2,QbZ,QcU hnf];(show _++[gn.pl]=_);rw[hgn],λj hj=>(Nat.lt_or_ge j k).elim (hk3 j) (λh=>by obtain rfl:j=k:=om;exact hbe)⟩ (by simp only[List.length_append,List.length_singleton];exact aSx) (λw h=>by have h9:=h;have h8:=HS.nodes_app (n:=gn) (L:=L) (et:=27) (nt':=69) (h9.ent (Bs:=[.ents 27 (gn:LNd).ea (gn:LNd).ec (gn:LNd).es,.kids (gn:LNd).ca (gn:LNd).cc (gn:LNd).cs,.star (L.map (QB 27)),.own (.slice b15.1 (L.length+1) b15.2) 69 3 (L.length+1) (L.flatMap LNd.vals++LNd.vals gn),.blk b6 37 4 [.int .i64 (Qb x.ro).1.co,.int .i64 (Qb x.ro).1.mo,.int .i64 (Qb x.ro).1.rm,.slice b15.1 (L.length+1) b15.2],.blk b4 108 7 [.string (bs x.ro),.string (bs x.al),.string (bs x.bm),.int .i64 (Qb x.ro).1.co,.int .i64 (Qb x.ro).1.mo,.int .i64 (Qb x.ro).1.rm,.slice ra RL.length rc],.blk b2 108 7 [.string (bs []),.string (bs []),.string (bs []),.int .i64 0,.int .i64 0,.int .i64 0,.slice none 0 0],.blk b3 37 4 [.int .i64 0,.int .i64 0,.int .i64 0,.slice none 0 0],.blk b1 23 3 [.string (bs x.ro),.string (bs x.al),.string (bs x.bm)]]) aEt);dsimp only;rw[List.length_append];exact h8.ent aEt)
 obtain rfl:k=x.n:=by have hq:=h7;omega
 have hall:=Qli hE hk3
 have hT:(⟨(Qb x.ro).1.co,(Qb x.ro).1.mo,(Qb x.ro).1.rm,pln L⟩:Tre)=QaK x:=by rw[hk2];rfl
 refine Qh rfl ?_
 refine aU4 ?_
 refine oCq rfl (λw1 h1=>Qr1 w1 _ _ _ ga gc L (HS.nt h1 aPk) (by rw[hk2];exact QfP hC om) (λi hi y hy=>(Qjy hC hk2 i hi y hy).1)) ?_
 rw[hT]
 refine Zw ?_
 refine sCd rfl (λh16=>?_) λh16=>?_
 ·have hR:rdI x=((noT,(XQ (QaK x)).1),(XQ (QaK x)).2):=by rw[hall,if_neg h16]
  refine aU3 ?_
  refine o_p (QF (cs:=[_,_,_,_]) rfl rfl ZQ Xn rfl) rfl (aU7 ?_)
  exact Qj (rs:=[.cell 2 108,.cell 3 37,.tmp 4,.tmp 5]) rfl (.cell rfl YN aPk rfl (.cell rfl XM aPk rfl (.tmp rfl (.tmp rfl (.nil))))) (λw' h'=>⟨(((none,0),[]),((Qb x.ro).1.co,(Qb x.ro).1.mo,(Qb x.ro).1.rm),(ra,RL.length,rc)),by rw[hR];rfl,by rw[hR];rfl,(Q9 27 69 h'.nil).ent aEt⟩)
 have hR:rdI x=((QaK x,0),0):=by rw[hall,if_pos h16]
 refine aU2 ?_
 refine QbL [.nodes 27 69 ga gc L,.blk b6 37 4 [.int .i64 (Qb x.ro).1.co,.int .i64 (Qb x.ro).1.mo,.int .i64 (Qb x.ro).1.rm,.slice ga L.length gc],.blk b4 108 7 [.string (bs x.ro),.string (bs x.al),.string (bs x.bm),.int .i64 (Qb x.ro).1.co,.int .i64 (Qb x.ro).1.mo,.int .i64 (Qb x.ro).1.rm,.slice ra RL.length rc]] [] QG ?_
 refine dLn 0 [] ?_
 refine dLn 1 [] ?_
 refine dSt 2 ?_ (hl:=(by simp only[Qk,List.length_set,List.length_cons,List.length_nil,List.length_map];omega))
 refine dSt 3 ?_ (hl:=(by simp only[Qk,List.length_set,List.length_cons,List.length_nil,List.length_map];omega))
 refine dP 4 ?_
 refine dP 5 ?_
 refine dNi ?_
 exact Qj (rs:=[.cell 2 108,.cell 3 37,.tmp 4,.tmp 5]) rfl (.cell rfl YN aPk rfl (.cell rfl XM aPk rfl (.tmp rfl (.tmp rfl (.nil))))) (λw' h'=>⟨(((ga,gc),L),((Qb x.ro).1.co,(Qb x.ro).1.mo,(Qb x.ro).1.rm),(ra,RL.length,rc)),by rw[hR];rfl,by rw[hR];exact hk2,h'.ent aEt⟩)
instance:TFn Tryz.prog 82:=⟨by kernel_rfl⟩
instance:TFn Tryz.prog 12:=⟨by kernel_rfl⟩
instance:TFn Tryz.prog 20:=⟨by kernel_rfl⟩
instance:TFn Tryz.prog 16:=⟨by kernel_rfl⟩
theorem Qqv:QQ Tryz.prog 57=true:=by kernel_rfl
theorem Qk0{co:Int}{a key:List UInt8}(hco:QC co=0)(hk:QL co key=true):Qbw co a key=X3 co a:=by
  unfold Qbw X3;rw[if_pos hco,if_pos hk];split<;>simp_all
theorem Qwr{c:Nat}{P:List Nat}:((c:Int)∈iN P) ↔ c∈P:=by
  simp only[iN,List.mem_map]
  grind
theorem c62P(w:World)(a:Option Addr)(cap:Nat)(P:List Nat)(c:Nat)(hs:Rw inV 1 w [] a (iN P))(hl:P.length<=100000):CR 62 #[.slice a P.length cap,.int .i64 (c:Int)] w (.bool (decide (c∈P))):=by
  have h:=c62 w a cap (iN P) (c:Int) hs (by rw[Z7];exact hl);rw[Z7,show decide ((c:Int)∈iN P)=decide (c∈P)from decide_eq_decide.2 Qwr]at h;exact h
theorem QeT{u v:Bool}:Xs [.int .i64 (bif u then 0 else 6),.int .i64 (bif !v then 0 else 25)]=if u=true then if v=true then 25 else 0 else 6:=by
  cases u<;>cases v<;>rfl
theorem c57(w:World)(b7 b3:Nat)(co:Int)(a key:List UInt8)(hb:Rd w [] b7 3 (.int .i64 co))(hk:Rd w [] b3 0 (.string (bs key)))(ha:a.length<=1000000)(hkl:key.length<=1000000):CR 57 #[.string (bs a),.pointer (some ⟨b7,0,none⟩),.pointer (some ⟨b3,0,none⟩)] w (.tuple #[.int .i64 (if Qbw co a key=0 then QN co a key else 0),.int .i64 (Qbw co a key)]):=by
 refine eN3 Tryz.func57 Tryz.ntmps57 ?_
 refine aU9 ?_
 refine o_q (Qc rfl rfl Ye (hb)) rfl (aU ?_)
 refine o_q (Qc rfl rfl Zd (hk)) rfl (oCq rfl (λw1 h1=>c58 w1 co a key ha hkl) (aU5 ?_))
 exact Qj (rs:=[.tmp 4,.tmp 5]) rfl (.tmp rfl (.tmp rfl (.nil))) (λw' h'=>⟨by rfl,h'.below⟩)
set_option maxHeartbeats 4000000 in
theorem c13(w:World)(x:Ixs)(key:List UInt8)(hl:x.al.length<=900000)(hr:x.ro.length<=1000000)(hb:x.bm.length<=100000)(hkl:key.length<=1000000):CE 13 #[.agg #[.string (bs x.ro),.string (bs x.al),.string (bs x.bm)],.string (bs key)] w [] (λg:Option Addr×Nat=>.tuple #[.agg #[.string (bs (QaC x key).1.1.key),.string (bs (QaC x key).1.1.val)],.slice g.1 (QaC x key).1.2.length g.2,.int .i64 (QaC x key).2]) (λg=>True) λg=>[.own (.slice g.1 ((QaC x key).1.2).length g.2) 3 1 ((QaC x key).1.2).length (((QaC x key).1.2).map λi:Nat=>Value.int .i64 (i:Int))]:=by
 have hn9:x.n<=x.al.length:=Nat.div_le_self _ _
 have hn8:x.n=x.al.length/512:=rfl
 refine eN2 Tryz.func13 Tryz.ntmps13 ?_
 refine aU2 ?_
 refine oBx λb1 _=>?_
 refine oBx λb2 _=>?_
 refine oAl (λb3 _=>?_) XD
 refine aU6 ?_
 refine oCh rfl (λw1 h1=>c56 w1 x hl hr hb) (λ⟨⟨c1,m1,r1⟩,⟨ra,rc⟩,RL⟩hRL=>aU3 ?_)
 refine oAl (λb4 _=>?_) Qas
 refine aU9 ?_
 refine sCd rfl (λh5=>?_) λh5=>?_
 ·have hR:QaC x key=((Z0,[]),ixE x):=by unfold QaC;rw[if_neg h5]
  refine aU2 ?_
  refine o_p (QF (cs:=[_,_]) rfl rfl QcG XD rfl) rfl (aU5 ?_)
  exact Qj (rs:=[.cell 4 27,.tmp 5,.tmp 6]) rfl (.cell rfl Xb aPk rfl (.tmp rfl (.tmp rfl (.nil)))) (λw' h'=>⟨(none,0),by rw[hR];rfl,trivial,by rw[hR];exact(h'.nil.own_nil 3 1).ent aEt⟩)
 have hE:ixE x=0:=h5
 have hRT:=hRL hE
 dsimp only at hRT
 obtain rfl:c1=(Qb x.ro).1.co:=congrArg Tre.co hRT
 obtain rfl:m1=(Qb x.ro).1.mo:=congrArg Tre.mo hRT
 obtain rfl:r1=(Qb x.ro).1.rm:=congrArg Tre.rm hRT
 have hRn:pln RL=(Qb x.ro).1.ns:=congrArg Tre.ns hRT
 obtain⟨hA,hB,hC,hO,hLs⟩:=QbO hE
 obtain⟨n0,l0,_,_,_,hrt,_,_,hco,_⟩:=Y1 hC
 have hco:QC (Qb x.ro).1.co=0:=by rw[hrt];exact hco
 have hb8:x.n<=8*x.bm.length:=by have:=Yx ((x.n+7)/8);omega
 obtain⟨hrf,hrk⟩:=NdF.root hC
 have hns:(Qb x.ro).1.ns=[n0]:=by rw[hrt]
 rw[hns]at hRn hrf hrk
 obtain⟨x9,hx9,hxp⟩:=Qlp hRn
 subst hx9
 refine Yv (λw9 h=>HS.nodes_some (L:=[x9]) (Nat.succ_pos _) h aPk) λhna=>?_
 obtain⟨g9,rfl,hna1,hna2⟩:=hna
 refine YL (λw9 h=>(show HS w [] (.blk g9 69 (rc*3) [.bool x9.us,.slice x9.ea x9.es.length x9.ec,.slice x9.ca x9.cs.length x9.cc]::.ents 27 x9.ea x9.ec x9.es::.kids x9.ca x9.cc x9.cs::_) w9 from Qhe h aPk)) (Zw ?_)
 refine o_q (Xj rfl rfl Qqv rfl (λw1 h1=>c57 w1 b4 b2 (Qb x.ro).1.co key key (h1.rd_blk (Mc:=[]) aPk rfl (by simp)) (h1.rd_blk (Mc:=[]) aPk rfl (by simp)) hkl hkl)) rfl (Zw ?_)
 refine sCd rfl (λh6=>?_) λh6=>?_
 ·have hR:QaC x key=((Z0,[]),3):=by have hq:=h6;unfold QaC;rw[if_pos hE,if_neg];intro h9;exact hq (by rw[Qk0 hco h9];unfold X3;rw[if_pos h9])
  have hR3:Qbw (Qb x.ro).1.co key key=3:=by have hq:=h6;unfold Qbw at hq ⊢;unfold X3 at hq ⊢;grind
  refine aU2 ?_
  refine o_p (QF (cs:=[_,_]) rfl rfl QcG XD rfl) rfl (aU5 ?_)
  exact Qj (rs:=[.cell 4 27,.tmp 5,.tmp 6]) rfl (.cell rfl Xb aPk rfl (.tmp rfl (.tmp rfl (.nil)))) (λw' h'=>⟨(none,0),by rw[hR];simp only[Q3,hR3];rfl,trivial,by rw[hR];exact(h'.nil.own_nil 3 1).ent aEt⟩)
 have hke:QL (Qb x.ro).1.co key=true:=by have hq:=h6;unfold Qbw at hq;unfold X3 at hq;grind
 have hF0:QaC x key=fbI x (Qb x.ro).1.co key (x.n+1) x9.pl []:=by unfold QaC;rw[if_pos hE,if_pos hke,hns,hxp];rfl
 refine Zo ?_
 refine Qf (show _=Value.slice (some ⟨g9,0,none⟩) 1 rc from rfl) (o_p (Qa rfl rfl rfl QH 0 rfl om rfl) rfl (aU ?_))
 refine oAl (λb7 _=>?_) Xc
 refine aU3 ?_
 refine Qe (L':=[(4,_),(5,_),(6,_),(7,_),(9,_),(12,_),(13,_)]) aSx (λ_ h=>h) ?_
 refine Qo (α:=Nat×(Option Addr×Nat)×List Nat×LNd×Nat) [5,6,12,13,14,15,16,17,18,19,20,21,22,23,49,50,51,52,53,54,55,56,57,58,59,60,61,62,63,64,65,66,67,68,69,70,71,72,73,74,75,76,77,78,79,80,81,82,83,84,85,86,87,88,89,90,91,92,93,94,95,96,97,98,99,100,101,102,103,104,105,106,107,108,109,110,111,112,113,114,115,116,117,118,119,120,121,122,123,124,125,126,127,128,129,130,131,132,133,134,135,136,137,138,139,140,141,142,143,144] (λy=>[(13,.pointer (some ⟨y.1,0,none⟩)),(12,.slice y.2.1.1 y.2.2.1.length y.2.1.2)]) (λy=>HS w [] [.blk y.1 69 3 (LNd.vals y.2.2.2.1),.ents 27 (y.2.2.2.1).ea (y.2.2.2.1).ec (y.2.2.2.1).es,.kids (y.2.2.2.1).ca (y.2.2.2.1).cc (y.2.2.2.1).cs,.own (.slice y.2.1.1 (y.2.2.1).length y.2.1.2) 3 1 (y.2.2.1).length ((y.2.2.1).map λi:Nat=>Value.int .i64 (i:Int)),.blk b4 108 7 [.string (bs x.ro),.string (bs x.al),.string (bs x.bm),.int .i64 (Qb x.ro).1.co,.int .i64 (Qb x.ro).1.mo,.int .i64 (Qb x.ro).1.rm,.slice (some ⟨g9,0,none⟩) 1 rc],.blk b2 9 1 [.string (bs key)],.blk b3 27 2 [.string (bs []),.string (bs [])]]) (λy=>NdF y.2.2.2.1.pl/\y.2.2.1.length+y.2.2.2.2=x.n+1/\y.2.2.1.Nodup/\(∀i∈y.2.2.1,1<=i/\i<=x.n)/\QaC x key=fbI x (Qb x.ro).1.co key y.2.2.2.2 y.2.2.2.1.pl y.2.2.1) (λy=>y.2.2.2.2) (b7,(none,0),[],x9,x.n+1) ⟨by rw[hxp];exact hrf,by(try simp only[]);rw[List.length_nil];omega,List.nodup_nil,λi hi=>(List.not_mem_nil hi).elim,hF0⟩ aSx (λw h=>(h.own_nil 3 1).ent aEt) (λ⟨nb,⟨pa,pc⟩,P,gn,f⟩hyy=>?_)
 dsimp only
 obtain⟨hgn,hPf,hPd,hPr,hfb⟩:=hyy
 simp only[]at hgn hPf hPd hPr hfb
 obtain⟨f,rfl⟩:=QnT hPd hPr hPf
 have hes9:gn.es.length<=255:=hgn.sm.es
 have hcs9:gn.cs.length<=256:=hgn.sm.cs
 have hpel:gn.pl.es.length=gn.es.length:=rfl
 have hpcl:gn.pl.cs.length=gn.cs.length:=rfl
 refine Yv (p:=0<gn.es.length->gn.ea=some ⟨ab gn.ea,ao gn.ea,none⟩) (λw9 h h0=>Rw.some (HS.rw_own (l:=gn.es) ev2 h aPk rfl) h0) λhsE=>Yv (p:=0<gn.cs.length->gn.ca=some ⟨ab gn.ca,ao gn.ca,none⟩) (λw9 h h0=>Rw.some (HS.rw_own (l:=gn.cs) iv1 h aPk rfl) h0) λhsC=>aT16 ?_
 refine aU3 ?_
 refine Qo (α:=Nat) [5,6,14,15,16,17,56,57,58,59,60,61,62,63,64,65,66,67,68,69,70,71,72,73,74,75,76] (λm=>[(15,.int .i64 ((m:Int)-1)),(14,.int .i64 (((m+plc (Qb x.ro).1.co (gn.es.drop m) key):Nat):Int))]) (λ_=>HS w [] [.blk nb 69 3 (LNd.vals gn),.ents 27 (gn).ea (gn).ec (gn).es,.kids (gn).ca (gn).cc (gn).cs,.own (.slice pa (P).length pc) 3 1 (P).length ((P).map λi:Nat=>Value.int .i64 (i:Int)),.blk b4 108 7 [.string (bs x.ro),.string (bs x.al),.string (bs x.bm),.int .i64 (Qb x.ro).1.co,.int .i64 (Qb x.ro).1.mo,.int .i64 (Qb x.ro).1.rm,.slice (some ⟨g9,0,none⟩) 1 rc],.blk b2 9 1 [.string (bs key)],.blk b3 27 2 [.string (bs []),.string (bs [])]]) (λm=>m<=gn.es.length/\∀i,m<=i->i<gn.es.length->QL (Qb x.ro).1.co (nth gn.es i).key=true) (λm=>m) gn.es.length ⟨Nat.le_refl _,λi h1 h2=>absurd h2 om⟩ (by rw[List.drop_length];exact aSx) (λw h=>h.ent aEt) (λm hmm=>?_)
 obtain⟨hm1,hm2⟩:=hmm
 refine aU6 ?_
 refine sCd rfl (λh8=>?_) λh8=>?_
 ·have hm:0<m:=by have hq:=h8;omega
  have hce:Qbw (Qb x.ro).1.co (nth gn.es (m-1)).key key=X3 (Qb x.ro).1.co (nth gn.es (m-1)).key:=Qk0 hco hke
  have hpd:=QqP (co:=(Qb x.ro).1.co) (key:=key) (m:=m-1) (es:=gn.es) om
  rw[Nat.sub_add_cancel hm]at hpd
  refine aU9 ?_
  refine o_p (Qa rfl rfl rfl Qy (m-1) om om (hsE om)) rfl (aU ?_)
  refine o_q (Qx rfl rfl Zd (λw h=>(HS.rw_own (l:=gn.es) ev2 h aPk rfl).rdj 0 (i:=m-1) om rfl)) rfl (o_q (Xj rfl rfl Qqv rfl (λw1 h1=>c57 w1 b4 b2 (Qb x.ro).1.co (nth gn.es (m-1)).key key (h1.rd_blk (Mc:=[]) aPk rfl (by simp)) (h1.rd_blk (Mc:=[]) aPk rfl (by simp)) (hgn.sm.ent _ (Qz om)).1 hkl)) rfl (Zg ?_))
  refine sCd rfl (λh9=>?_) λh9=>?_
  ·have hkn:Zv (Qb x.ro).1.co gn.pl.es=false:=QkJ (k:=m-1) (es:=gn.pl.es) om (by have hq:=h9;rw[hce]at hq;unfold X3 at hq;(show QL _ (nth gn.es (m-1)).key=false);grind)
   have hR:QaC x key=((Z0,[]),3):=by rw[hfb];exact Qt5 hkn
   refine aU ?_
   refine Qe (L':=[(4,_),(7,_),(9,_),(12,_),(13,_),(14,_),(15,_),(16,_),(49,_),(50,_),(51,_),(52,_),(53,_),(54,_),(55,_)]) aSx (λ_ h=>h) ?_
   refine aU ?_
   refine o_p (QF (cs:=[_,_]) rfl rfl QcG XD rfl) rfl (aU4 ?_)
   exact Qj (rs:=[.cell 4 27,.tmp 5,.tmp 6]) rfl (.cell rfl Xb aPk rfl (.tmp rfl (.tmp rfl (.nil)))) (λw' h'=>⟨(none,0),by rw[hR];rfl,trivial,by rw[hR];exact(h'.nil.own_nil 3 1).ent aEt⟩)
  have hky:QL (Qb x.ro).1.co (nth gn.es (m-1)).key=true:=by have hq:=h9;rw[hce]at hq;unfold X3 at hq;grind
  have hz9:Qbw (Qb x.ro).1.co (nth gn.es (m-1)).key key=0:=h9
  refine aU2 ?_
  refine Qe (L':=[(4,_),(7,_),(9,_),(12,_),(13,_),(14,_),(15,_),(16,_),(49,_),(50,_),(51,_),(52,_),(53,_),(54,_),(55,_)]) aSx (λ_ h=>h) ?_
  refine aU4 ?_
  refine sCd rfl (λh10=>?_) λh10=>?_
  ·have hq4:¬QN (Qb x.ro).1.co (nth gn.es (m-1)).key key<0:=by have hq:=h10;rw[if_pos hz9]at hq;omega
   rw[if_neg hq4]at hpd
   refine aT8 ?_
   refine aU2 ?_
   exact sBk (m-1) om ⟨om,λi h1 h2=>(Nat.lt_or_ge i m).elim (λh9=>by obtain rfl:i=m-1:=om;exact hky) (λh9=>hm2 i h9 h2)⟩ (by rw[hpd,show((m-1+0:Nat):Int)=(m:Int)-1 by omega,show((m-1:Nat):Int)=(m:Int)-1 by omega];exact aSx)
  have hq4:QN (Qb x.ro).1.co (nth gn.es (m-1)).key key<0:=by have hq:=h10;rw[if_pos hz9]at hq;omega
  rw[if_pos hq4]at hpd
  refine aT5 ?_
  refine aU2 ?_
  exact sBk (m-1) om ⟨om,λi h1 h2=>(Nat.lt_or_ge i m).elim (λh9=>by obtain rfl:i=m-1:=om;exact hky) (λh9=>hm2 i h9 h2)⟩ (by rw[hpd,show m-1+(plc (Qb x.ro).1.co (gn.es.drop m) key+1)=m+plc (Qb x.ro).1.co (gn.es.drop m) key by omega];rw[show((m-1:Nat):Int)=(m:Int)-1 by omega];exact aSx)
 obtain rfl:m=0:=by have hq:=h8;omega
 have hkk:Zv (Qb x.ro).1.co gn.pl.es=true:=Qdd λi hi=>hm2 i (Nat.zero_le _) hi
 rw[Nat.zero_add,List.drop_zero]
 refine Qh rfl ?_
 refine aU9 ?_
 refine QbX (α:=Unit) [5,6,18,19,82,83,84,85,86,87,88,89,90,91,92,93,94,95,96,97,98,99,100] (λ_=>[]) (λ_=>¬fnd (Qb x.ro).1.co gn.pl.es key=true) ?_ ?_
 ·skip
  refine sCd rfl (λh11=>?_) λh11=>?_
  ·have hpl5:plc (Qb x.ro).1.co gn.es key<gn.es.length:=by have hq:=h11;omega
   have hz5:Qbw (Qb x.ro).1.co (nth gn.es (plc (Qb x.ro).1.co gn.es key)).key key=0:=by rw[Qk0 hco hke];exact Qqt.2 (hm2 _ (Nat.zero_le _) hpl5)
   refine aU6 ?_
   refine o_p (Qa rfl rfl rfl Qy (plc (Qb x.ro).1.co gn.es key) om om (hsE om)) rfl (aU ?_)
   refine o_q (Qx rfl rfl Zd (λw h=>(HS.rw_own (l:=gn.es) ev2 h aPk rfl).rdj 0 (i:=plc (Qb x.ro).1.co gn.es key) om rfl)) rfl (o_q (Xj rfl rfl Qqv rfl (λw1 h1=>c57 w1 b4 b2 (Qb x.ro).1.co (nth gn.es (plc (Qb x.ro).1.co gn.es key)).key key (h1.rd_blk (Mc:=[]) aPk rfl (by simp)) (h1.rd_blk (Mc:=[]) aPk rfl (by simp)) (hgn.sm.ent _ (Qz om)).1 hkl)) rfl (aU7 ?_))
   refine Qe (L':=[(4,_),(7,_),(9,_),(12,_),(13,_),(14,_),(15,_),(18,_),(49,_),(50,_),(51,_),(52,_),(53,_),(54,_),(55,_),(56,_),(57,_),(77,_),(78,_),(79,_),(80,_),(81,_)]) aSx (λ_ h=>h) ?_
   refine aU4 ?_
   refine sCd rfl (λh12=>?_) λh12=>?_
   ·have hfn:fnd (Qb x.ro).1.co gn.pl.es key=true:=by have hq:=h12;rw[if_pos hz5]at hq;(show(decide (plc (Qb x.ro).1.co gn.es key<gn.es.length)&&decide (QN (Qb x.ro).1.co (nth gn.es (plc (Qb x.ro).1.co gn.es key)).key key=0))=true);rw[decide_eq_true hpl5,decide_eq_true hq];rfl
    have hR:QaC x key=((nth gn.es (plc (Qb x.ro).1.co gn.es key),P),0):=by rw[hfb];exact Qt9 hkk hfn
    refine aU5 ?_
    refine o_p (Qa rfl rfl rfl Qy (plc (Qb x.ro).1.co gn.es key) om om (hsE om)) rfl (o_q (QU _ rfl rfl Xb rfl (λw h=>Rw.rd (HS.rw_own (l:=gn.es) ev2 h aPk rfl) (i:=plc (Qb x.ro).1.co gn.es key) om)) rfl (aU5 ?_))
    exact Qj (rs:=[.cell 4 27,.tmp 5,.tmp 6]) rfl (.cell rfl Xb aPk rfl (.tmp rfl (.tmp rfl (.nil)))) (λw' h'=>⟨(pa,pc),by rw[hR];rfl,trivial,by rw[hR];exact h'.ent aEt⟩)
   refine aU ?_
   exact Qp () (by have hq:=h12;rw[if_pos hz5]at hq;(show¬(decide (plc (Qb x.ro).1.co gn.es key<gn.es.length)&&decide (QN (Qb x.ro).1.co (nth gn.es (plc (Qb x.ro).1.co gn.es key)).key key=0))=true);rw[decide_eq_false (p:=QN (Qb x.ro).1.co (nth gn.es (plc (Qb x.ro).1.co gn.es key)).key key=0) hq];simp) aSx (λw h=>h.ent aEt)
  have hpl5:¬plc (Qb x.ro).1.co gn.es key<gn.es.length:=by have hq:=h11;omega
  refine aU ?_
  exact Qp () (λh9=>hpl5 (Qso h9)) aSx (λw h=>h.ent aEt)
 intro _ hnf
 refine aU8 ?_
 refine sCd rfl (λh13=>?_) λh13=>?_
 ·have hR:QaC x key=((Z0,[]),6):=by rw[hfb];exact Qsm hkk hnf (by have hq:=h13;(show gn.cs.length=0);omega)
  refine aU2 ?_
  refine o_p (QF (cs:=[_,_]) rfl rfl QcG XD rfl) rfl (aU4 ?_)
  exact Qj (rs:=[.cell 4 27,.tmp 5,.tmp 6]) rfl (.cell rfl Xb aPk rfl (.tmp rfl (.tmp rfl (.nil)))) (λw' h'=>⟨(none,0),by rw[hR];rfl,trivial,by rw[hR];exact(h'.nil.own_nil 3 1).ent aEt⟩)
 have hncs:¬gn.pl.cs.length=0:=by have hq:=h13;(show¬gn.cs.length=0);omega
 obtain⟨hkd1,hkd2,hkd3,hkd4⟩:=hgn.kid hncs (Qb x.ro).1.co key
 have hkd1:plc (Qb x.ro).1.co gn.es key<gn.cs.length:=hkd1
 have hkd2:(((XW (Qb x.ro).1.co gn.pl key):Nat):Int)=gn.cs.getD (plc (Qb x.ro).1.co gn.es key) 0:=hkd2
 refine aU6 ?_
 refine o_p (Qa rfl rfl rfl QM (plc (Qb x.ro).1.co gn.es key) om om (hsC om)) rfl (o_q (Qx rfl rfl Ye (λw h=>(HS.rw_own (l:=gn.cs) iv1 h aPk rfl).rdj 0 (i:=plc (Qb x.ro).1.co gn.es key) om rfl)) rfl (aU ?_))
 refine Qf (show _=Value.int .i64 (((XW (Qb x.ro).1.co gn.pl key):Nat):Int)from by rw[hkd2];rfl) (aU3 ?_)
 refine Qe (L':=[(4,_),(7,_),(9,_),(12,_),(13,_),(14,_),(15,_),(20,_),(49,_),(50,_),(51,_),(52,_),(53,_),(54,_),(55,_)]) aSx (λ_ h=>h) ?_
 refine aU3 ?_
 refine oCq rfl (λw1 h1=>c61 w1 x (Qb x.ro).1.co (Qb x.ro).1.mo (Qb x.ro).1.rm (some ⟨g9,0,none⟩) 1 rc (XW (Qb x.ro).1.co gn.pl key) om hb8) (oCq rfl (λw1 h1=>c60 w1 _ _) (aU2 ?_))
 refine oCq rfl (λw1 h1=>c62P w1 pa pc P (XW (Qb x.ro).1.co gn.pl key) (HS.pown_row (P:=P) h1 aPk) om) (aU ?_)
 refine oCq rfl (λw1 h1=>c60 w1 _ _) (o_h (Qg (cs:=[_,_]) rfl rfl Yt ZP rfl rfl rfl) rfl (λb14 _=>oCq rfl (λw1 h1=>f59 h1 aPk (by rfl) (by rfl) (by decide)) (aU7 ?_)))
 refine sCd rfl (λh15=>?_) λh15=>?_
 ·have hR:=QuP (x:=x) (f:=f) (P:=P) hkk hnf hncs rfl (by have hq:=h15;rw[QeT]at hq;simpa using hq)
  rw[<-hfb]at hR
  have hR3:Xs [.int .i64 (bif Yb x (XW (Qb x.ro).1.co gn.pl key)then 0 else 6),.int .i64 (bif !decide ((XW (Qb x.ro).1.co gn.pl key)∈P)then 0 else 25)]=(QaC x key).2:=by rw[hR,QeT];simp
  refine aU2 ?_
  refine o_p (QF (cs:=[_,_]) rfl rfl QcG XD rfl) rfl (aU5 ?_)
  exact Qj (rs:=[.cell 4 27,.tmp 5,.tmp 6]) rfl (.cell rfl Xb aPk rfl (.tmp rfl (.tmp rfl (.nil)))) (λw' h'=>⟨(none,0),by simp only[Q3];rw[hR3,hR];rfl,trivial,by rw[hR];exact(h'.nil.own_nil 3 1).ent aEt⟩)
 have hnm9:Yb x (XW (Qb x.ro).1.co gn.pl key)=true/\¬(XW (Qb x.ro).1.co gn.pl key)∈P:=by have hq:=h15;rw[QeT]at hq;grind
 obtain⟨hnm9,hin9⟩:=hnm9
 obtain⟨hb1,hb2,hb3⟩:=Qes hnm9
 have hbl9:1<=(XW (Qb x.ro).1.co gn.pl key)/\(XW (Qb x.ro).1.co gn.pl key)*512<=x.al.length:=⟨hb1,hb3⟩
 have hb5:=Qb3 hbl9
 refine aU5 ?_
 refine oCq rfl (λw1 h1=>c64 w1 x (Qb x.ro).1.co (Qb x.ro).1.mo (Qb x.ro).1.rm (some ⟨g9,0,none⟩) 1 rc (XW (Qb x.ro).1.co gn.pl key) om hbl9) (aU ?_)
 refine oCh rfl (λw1 h1=>c63 w1 (x.blk (XW (Qb x.ro).1.co gn.pl key)) (((XW (Qb x.ro).1.co gn.pl key):Nat):Int) om) (λg2 hg2=>aU3 ?_)
 refine oAl (λb16 _=>?_) ZK
 refine aU5 ?_
 refine Qe (L':=[(4,_),(7,_),(9,_),(12,_),(13,_),(14,_),(15,_),(20,_),(22,_),(23,_),(49,_),(50,_),(51,_),(52,_),(53,_),(54,_),(55,_)]) aSx (λ_ h=>h) ?_
 refine aU4 ?_
 refine sCd rfl (λh17=>?_) λh17=>?_
 ·have hR:QaC x key=((Z0,[]),(Xl (x.blk (XW (Qb x.ro).1.co gn.pl key)) (XW (Qb x.ro).1.co gn.pl key)).e):=by rw[hfb];exact Qtu hkk hnf hncs hnm9 hin9 h17
  refine aU2 ?_
  refine o_p (QF (cs:=[_,_]) rfl rfl QcG XD rfl) rfl (aU5 ?_)
  exact Qj (rs:=[.cell 4 27,.tmp 5,.tmp 6]) rfl (.cell rfl Xb aPk rfl (.tmp rfl (.tmp rfl (.nil)))) (λw' h'=>⟨(none,0),by rw[hR];rfl,trivial,by rw[hR];exact(h'.nil.own_nil 3 1).ent aEt⟩)
 have he9:(Xl (x.blk (XW (Qb x.ro).1.co gn.pl key)) (XW (Qb x.ro).1.co gn.pl key)).e=0:=h17
 have hfn9:=Qr4 (f:=f) hkk hnf hncs hnm9 hin9 he9
 rw[<-hfb]at hfn9
 have hg3:NdF g2.pl:=by rw[hg2];exact NdF.of he9
 refine aU ?_
 refine QbL [.blk b16 118 5 [.bool g2.us,.slice g2.ea g2.es.length g2.ec,.slice g2.ca g2.cs.length g2.cc,.int .i64 (Xl (x.blk (XW (Qb x.ro).1.co gn.pl key)) (XW (Qb x.ro).1.co gn.pl key)).lsn,.int .i64 (Xl (x.blk (XW (Qb x.ro).1.co gn.pl key)) (XW (Qb x.ro).1.co gn.pl key)).usn]] [6] QG ?_
 refine dFa 0 ?_
 refine dLn 1 [[]] ?_
 refine dP 2 ?_
 refine dP 3 ?_
 refine dH 4 rfl (Qg (cs:=[_]) rfl rfl QM YP rfl rfl rfl) (λb18 _=>dH 5 rfl (QO [_] rfl rfl rfl QM Tryz.underlying28 YP rfl aPk (Q7 aPk) rfl (by intro u hu;simp only[List.mem_cons,List.mem_nil_iff,or_false]at hu;subst hu;rfl) om (by simp only[maxLen];omega)) (λb19 _=>Qep 6 rfl (Q8 rfl rfl rfl Xv rfl aPt (by show 0+3<=3;omega) rfl) (by kernel_rfl) (λw h=>h.ent aEt) (λ_ _=>?_)))
 refine dTu [] ?_
 refine dP 7 ?_
 refine dNi ?_
 refine aU6 ?_
 refine oAl (λb20 _=>?_) Xc
 refine aU2 ?_
 exact QK (b20,(b19.1,b19.2),P++[(XW (Qb x.ro).1.co gn.pl key)],g2,f) (by(try simp only[]);omega) ⟨hg3,by(try simp only[]);rw[List.length_append,List.length_singleton];omega,Qls hPd hin9,λi hi=>by rcases List.mem_append.1 hi with h9|h9;exact hPr i h9;obtain rfl:=List.mem_singleton.1 h9;exact⟨hb1,hb2⟩,by(try simp only[]);rw[hg2];exact hfn9⟩ (by simp only[List.length_append (bs:=[(XW (Qb x.ro).1.co gn.pl key)]),List.length_singleton];exact aSx) (λw h=>by have h2:=h;simp only[List.length_append (bs:=[(XW (Qb x.ro).1.co gn.pl key)]),List.length_singleton,List.map_append (l₂:=[(XW (Qb x.ro).1.co gn.pl key)]),List.map_cons,List.map_nil];exact h2.ent aEt)
instance:TFn Tryz.prog 13:=⟨by kernel_rfl⟩
instance:TFn Tryz.prog 18:=⟨by kernel_rfl⟩
theorem Qvh{P Q:List Nat}:iN P=iN Q ↔ P=Q:=by
  constructor
  · intro h;apply List.ext_getElem?;intro j;have h1:=congrArg (λl:List Int=>(l[j]?).map Int.toNat) h
    simpa[iN,Function.comp_def]using h1
  · exactλh=>by rw[h]
theorem c15P(w:World)(a b:Option Addr)(c d:Nat)(P Q:List Nat)(hs:Rw inV 1 w [] a (iN P))(ht:Rw inV 1 w [] b (iN Q))(hl:P.length<=100000)(hm:Q.length<=100000):CR 15 #[.slice a P.length c,.slice b Q.length d] w (.bool (decide (P=Q))):=by
  have h:=c15 w a b c d (iN P) (iN Q) hs ht (by rw[Z7];exact hl) (by rw[Z7];exact hm);rw[Z7,Z7,show decide (iN P=iN Q)=decide (P=Q)from decide_eq_decide.2 Qvh]at h;exact h
instance:TFn Tryz.prog 208:=⟨by kernel_rfl⟩
instance:TFn Tryz.prog 209:=⟨by kernel_rfl⟩
theorem Qvz:QQ Tryz.prog 161=true:=by kernel_rfl
instance:TFn Tryz.prog 162:=⟨by kernel_rfl⟩
theorem c208(w:World)(a b:Option Addr)(c d:Nat)(l m:List TEnt)(hs:Rw TEnt.vals 2 w [] a l)(ht:Rw TEnt.vals 2 w [] b m)(hl:l.length<=100000)(hm:m.length<=100000):CR 208 #[.slice a l.length c,.slice b m.length d] w (.bool (decide (l=m))):=by
 refine eN2 Tryz.func208 Tryz.ntmps208 ?_
 refine Qa5 ?_
 refine sCd rfl (λh1=>?_) λh1=>?_
 ·have hn9:l≠m:=λe=>by have hq:=h1;rw[e]at hq;simp at hq
  refine aU4 ?_
  exact rV (h:=by rw[decide_eq_false hn9];rfl)
 have hlm:l.length=m.length:=by have hq:=h1;omega
 refine aU9 ?_
 refine Qo (α:=Nat) [4,5,13,14,15,16,17,18,19,20,21,22,23,24,25] (λk=>[(13,.int .i64 (k:Int))]) (λ_=>HS w [] []) (λk=>k<=l.length/\∀j,j<k->nth l j=nth m j) (λk=>l.length-k) 0 ⟨Nat.zero_le _,λj h=>absurd h (Nat.not_lt_zero j)⟩ aSx (λw h=>h.ent aEt) (λk hx=>?_)
 obtain⟨hk1,hk3⟩:=hx
 refine aU5 ?_
 refine sCd rfl (λh2=>?_) λh2=>?_
 ·have hk:k<l.length:=by omega
  have hk2:k<m.length:=om
  refine aU9 ?_
  refine Qu [] QG ?_
  refine dP 0 ?_
  refine dP 1 ?_
  refine dV 2 rfl (Qa rfl rfl rfl Qy (k) om om (Rw.some hs om)) (dQ 3 [] rfl (QI _ rfl rfl Xb rfl (Rw.rd hs om)) (dP 4 ?_))
  refine dP 5 ?_
  refine dV 6 rfl (Qa rfl rfl rfl Qy (k) om om (Rw.some ht om)) (dQ 7 [] rfl (QI _ rfl rfl Xb rfl (Rw.rd ht om)) (dV 8 rfl (QnW rfl rfl rfl QuU (by rfl) (by rfl) (by rfl)) (dNi ?_)))
  refine sCd rfl (λh3=>?_) λh3=>?_
  ·have hn9:l≠m:=λe=>by have hq:=h3;rw[e]at hq;simp at hq
   refine aU4 ?_
   exact rV (h:=by rw[decide_eq_false hn9];rfl)
  have he9:nth l k=nth m k:=by have hq:=h3;first|exact hq|exact QlE hq.1 hq.2.1
  refine aT4 ?_
  refine aU2 ?_
  exact sBk (k+1) om ⟨om,λj hj=>(Nat.lt_or_ge j k).elim (hk3 j) (λh9=>by obtain rfl:j=k:=om;exact he9)⟩
 have hl9:l=m:=QbN hlm λj hj=>hk3 j om
 refine Qh rfl ?_
 refine aU4 ?_
 exact rV (h:=by rw[decide_eq_true hl9];rfl)
theorem c209(w:World)(a b:Option Addr)(c d:Nat)(l m:List Int)(hs:Rw inV 1 w [] a l)(ht:Rw inV 1 w [] b m)(hl:l.length<=100000)(hm:m.length<=100000):CR 209 #[.slice a l.length c,.slice b m.length d] w (.bool (decide (l=m))):=by
 refine eN2 Tryz.func209 Tryz.ntmps209 ?_
 refine Qa5 ?_
 refine sCd rfl (λh1=>?_) λh1=>?_
 ·have hn9:l≠m:=λe=>by have hq:=h1;rw[e]at hq;simp at hq
  refine aU4 ?_
  exact rV (h:=by rw[decide_eq_false hn9];rfl)
 have hlm:l.length=m.length:=by have hq:=h1;omega
 refine aU9 ?_
 refine Qo (α:=Nat) [4,5,13,14,15,16,17,18,19,20,21,22,23,24,25] (λk=>[(13,.int .i64 (k:Int))]) (λ_=>HS w [] []) (λk=>k<=l.length/\∀j,j<k->nth l j=nth m j) (λk=>l.length-k) 0 ⟨Nat.zero_le _,λj h=>absurd h (Nat.not_lt_zero j)⟩ aSx (λw h=>h.ent aEt) (λk hx=>?_)
 obtain⟨hk1,hk3⟩:=hx
 refine aU5 ?_
 refine sCd rfl (λh2=>?_) λh2=>?_
 ·have hk:k<l.length:=by omega
  have hk2:k<m.length:=om
  refine aU9 ?_
  refine Qu [] QG ?_
  refine dP 0 ?_
  refine dP 1 ?_
  refine dV 2 rfl (Qa rfl rfl rfl QM (k) om om (Rw.some hs om)) (dQ 3 [] rfl (Qc rfl rfl Ye ((hs.rdj 0 om rfl))) (dP 4 ?_))
  refine dP 5 ?_
  refine dV 6 rfl (Qa rfl rfl rfl QM (k) om om (Rw.some ht om)) (dQ 7 [] rfl (Qc rfl rfl Ye ((ht.rdj 0 om rfl))) (dP 8 ?_))
  refine dNi ?_
  refine sCd rfl (λh3=>?_) λh3=>?_
  ·have hn9:l≠m:=λe=>by have hq:=h3;rw[e]at hq;simp at hq
   refine aU4 ?_
   exact rV (h:=by rw[decide_eq_false hn9];rfl)
  have he9:nth l k=nth m k:=by have hq:=h3;first|exact hq|exact QlE hq.1 hq.2.1
  refine aT4 ?_
  refine aU2 ?_
  exact sBk (k+1) om ⟨om,λj hj=>(Nat.lt_or_ge j k).elim (hk3 j) (λh9=>by obtain rfl:j=k:=om;exact he9)⟩
 have hl9:l=m:=QbN hlm λj hj=>hk3 j om
 refine Qh rfl ?_
 refine aU4 ?_
 exact rV (h:=by rw[decide_eq_true hl9];rfl)
theorem c161(w:World)(n m:LNd)(hne:Rw TEnt.vals 2 w [] n.ea n.es)(hnc:Rw inV 1 w [] n.ca n.cs)(hme:Rw TEnt.vals 2 w [] m.ea m.es)(hmc:Rw inV 1 w [] m.ca m.cs)(h1:n.es.length<=100000/\n.cs.length<=100000)(h2:m.es.length<=100000/\m.cs.length<=100000):CR 161 #[.agg #[.bool n.us,.slice n.ea n.es.length n.ec,.slice n.ca n.cs.length n.cc],.agg #[.bool m.us,.slice m.ea m.es.length m.ec,.slice m.ca m.cs.length m.cc]] w (.bool (decide (n.pl=m.pl))):=by
 refine eN2 Tryz.func161 Tryz.ntmps161 ?_
 refine aU2 ?_
 refine oBx λb1 _=>?_
 refine oBx λb2 _=>?_
 refine aU8 ?_
 refine o_p (Qgt rfl rfl rfl Tryz.underlying4) rfl (aU ?_)
 refine X0 6 10 16 rfl
  (λhg3 _=>by
   refine aU9 ?_
   refine oCq rfl (λw1 h1=>c208 w1 n.ea m.ea n.ec m.ec n.es m.es (hne.later h1.nil) (hme.later h1.nil) om om) ?_
   exact oJt 6 16)
  (λhg5 _=>by
   refine aU5 ?_
   exact oJf 6 16) ?_
 refine aU ?_
 refine X0 6 17 23 rfl
  (λhg7 _=>by
   refine aU9 ?_
   refine oCq rfl (λw1 h1=>c209 w1 n.ca m.ca n.cc m.cc n.cs m.cs (hnc.later h1.nil) (hmc.later h1.nil) om om) ?_
   exact oJt 6 23)
  (λhg9 _=>by
   refine aU5 ?_
   exact oJf 6 23) ?_
 refine aU2 ?_
 exact rV (h:=by simp only[Q3];rw[QkI])
theorem c162(w:World)(u:Nat)(hu:u<=65535):CR 162 #[.int .i64 (u:Int)] w (.tuple #[.int .i64 ((u%65535+1:Nat):Int),.int .i64 0]):=by
 refine eN1 Tryz.func162 Tryz.ntmps162 ?_
 refine aU9 ?_
 refine oCq rfl (λw1 h1=>c205 w1 _ _ _) (aU2 ?_)
 refine sCd rfl (λh1=>?_) λh1=>?_
 ·exfalso;have hq:=h1;omega
 refine aU4 ?_
 refine o_p (Zc rfl rfl rfl om om) rfl (aT ?_)
 refine aU3 ?_
 exact Qj (rs:=[.tmp 2,.tmp 3]) rfl (.tmp rfl (.tmp rfl (.nil))) (λw' h'=>⟨by rw[show((u%65535+1:Nat):Int)=(u:Int)%65535+1 by omega];rfl,h'.below⟩)
theorem c160(w:World)(b6 b5 b7 b4:Nat)(x:Ixs)(c2 m2 r2:Int)(ra:Option Addr)(rn rc:Nat)(co mo rm:Int)(a:Option Addr)(cap:Nat)(L:List LNd)(oa:Option Addr)(oc:Nat)(OL:List LNd)(lsn:Int)(k:Nat)(hb6:Rd w [] b6 3 (.slice a L.length cap))(hb5:Rd w [] b5 3 (.slice oa OL.length oc))(hb7:Rd w [] b7 0 (.int .i64 lsn))(hb4:∀j v,([.string (bs x.ro),.string (bs x.al),.string (bs x.bm),.int .i64 c2,.int .i64 m2,.int .i64 r2,.slice ra rn rc]:List Value)[j]?=some v->Rd w [] b4 (0+j) v)(hs:Nt w [] a L)(ho:Nt w [] oa OL)(hr:(rdI x).2=0)(hO:pln OL=Xf x x.n)(hi:Zy (⟨co,mo,rm,pln L⟩:Tre)=0)(hl9:0<=lsn/\lsn<=2147483647)(hal:x.al.length<=900000)(hkk:k+1<L.length):CR 160 #[.int .i64 ((k+1:Nat):Int),.pointer (some ⟨b6,0,none⟩),.pointer (some ⟨b5,0,none⟩),.pointer (some ⟨b7,0,none⟩),.pointer (some ⟨b4,0,none⟩)] w (.string (bs (chB x (pln OL) (pln L) lsn (k+1)))):=by
 have hr9:=Z4 hi
 have h09:0<L.length:=by have:=hr9.1;rwa[show(⟨co,mo,rm,pln L⟩:Tre).ns=pln L from rfl,Qd]at this
 have hn9:=ZA hi hr9.1 hr9.2.1
 have hp9:NdP (nth L 0).pl:=by have hq:=hn9.1.ndp (by have:=hn9.2.1;omega);rwa[show(⟨co,mo,rm,pln L⟩:Tre).ns=pln L from rfl,Q1]at hq
 have hbb:(0<=co/\co<256)/\(0<=mo/\mo<256)/\0<=rm/\rm<256:=by have h1:=hr9.2.2.1;have h2:=hr9.2.2.2.1;have h3:QC co=0:=h1;have h4:XI mo rm=0:=h2;unfold QC at h3;unfold XI at h4;split at h3;(split at h4;omega;cases h4);cases h3
 have hL120:L.length<=120:=by have:=hn9.2.2.2.2;rwa[show(⟨co,mo,rm,pln L⟩:Tre).ns=pln L from rfl,Qd]at this
 obtain⟨h0r,htr,her,hr1,hbr⟩:=QaE hr
 have hOl:OL.length=x.n+1:=by rw[<-Qd,hO];exact Y3 hr1 _
 have hn8:x.n=x.al.length/512:=rfl
 refine eN5 Tryz.func160 Tryz.ntmps160 ?_
 refine aU9 ?_
 refine o_q (Qc rfl rfl Yz (hb6)) rfl (aU ?_)
 refine o_p (Qa rfl rfl rfl QH ((k+1)) om om (Rw.some hs.1 om)) rfl (aU ?_)
 refine o_q (Qc rfl rfl Qdm ((hs.1.rdj (i:=k+1) 0 om rfl))) rfl (aU3 ?_)
 refine sCd rfl (λh1=>?_) λh1=>?_
 ·have hu1:¬(nth (pln L) (k+1)).us=true:=by rw[Q1];have hq:=h1;first|exact hq|(intro h9;have h8:(nth L (k+1)).us=true:=h9;rw[h8]at hq;cases hq)
  have hnw:(chB x (pln OL) (pln L) lsn (k+1))=Qe0:=by unfold chB;rw[if_neg (Nat.succ_ne_zero k),if_neg hu1]
  refine aU2 ?_
  refine oCq rfl (λw1 h1=>c78 w1) (aU2 ?_)
  exact rV (h:=by rw[hnw];rfl)
 have hk1:k+1<L.length:=om
 have hu1:(nth (pln L) (k+1)).us=true:=by rw[Q1];have hq:=h1;first|exact hq|simpa using hq
 have hn1:=ZA hi (i:=k+1) (by rw[show(⟨co,mo,rm,pln L⟩:Tre).ns=pln L from rfl,Qd];omega) hu1
 have hq1:NdP (nth L (k+1)).pl:=by have hq:=hn1.1.ndp (by have:=hn1.2.1;omega);rwa[show(⟨co,mo,rm,pln L⟩:Tre).ns=pln L from rfl,Q1]at hq
 have hcb1:(XK (nth L (k+1)).pl).length<=448:=by have hq:=hn1.2.2.1;rw[show(⟨co,mo,rm,pln L⟩:Tre).ns=pln L from rfl,Q1]at hq;omega
 have hsz1:(nth L (k+1)).es.length<=100000/\(nth L (k+1)).cs.length<=100000:=by have h1:=hn1.2.1;have h2:=hn1.1.cl;rw[show(⟨co,mo,rm,pln L⟩:Tre).ns=pln L from rfl,Q1]at h1 h2;have h3:(nth L (k+1)).es.length<=4:=h1;have h4:(nth L (k+1)).cs.length=0\/(nth L (k+1)).cs.length=(nth L (k+1)).es.length+1:=h2;omega
 refine aU4 ?_
 refine o_q (Qc rfl rfl Yz (hb5)) rfl (aU3 ?_)
 refine oOr 8 25 33 rfl
  (λhg2 _=>by
   refine aU3 ?_
   refine o_q (Qc rfl rfl Yz (hb5)) rfl (aU3 ?_)
   refine o_p (Qa rfl rfl rfl QH ((k+1)) om om (Rw.some ho.1 om)) rfl (aU3 ?_)
   refine o_q (Qc rfl rfl Qdm ((ho.1.rdj (i:=k+1) 0 om rfl))) rfl (aU2 ?_)
   exact oJf 8 33)
  (λhg4 _=>by
   refine aU7 ?_
   exact oJt 8 33) ?_
 refine aU2 ?_
 refine sCd rfl (λh6=>?_) λh6=>?_
 ·have hnw:(chB x (pln OL) (pln L) lsn (k+1))=QaD (nth L (k+1)).pl ((k+1:Nat):Int) lsn 1:=by unfold chB;rw[if_neg (Nat.succ_ne_zero k),if_pos hu1,if_pos,<-Q1];rw[Qd,Q1];have hq:=h6;rcases hq with hq|hq;exact .inl om;exact .inr (λh9=>by have h8:(nth OL (k+1)).us=true:=h9;rw[h8]at hq;cases hq)
  refine aU ?_
  refine Qu [] QG ?_
  refine dFa 0 ?_
  refine dQ 1 [] rfl (Qc rfl rfl Yz (hb6)) (dP 2 ?_)
  refine dV 3 rfl (Qa rfl rfl rfl QH ((k+1)) om om (Rw.some hs.1 om)) (dQ 4 [] rfl (QI _ rfl rfl Xv rfl (Rw.rd hs.1 om)) (dQ 5 [] rfl (Qc rfl rfl Ye (hb7)) (dV 6 rfl (QF (cs:=[_,_,_,_,_]) rfl rfl Qcz ZK rfl) (dP 7 ?_))))
  refine dQ 8 [] rfl (QA rfl Qp6 rfl (λw1 h1=>c79 w1 (nth L (k+1)) ((k+1:Nat):Int) lsn 1 ((hs.es hk1).later h1.nil) ((hs.cs hk1).later h1.nil) hq1 hcb1 om om om)) (dP 9 ?_)
  refine dNi ?_
  exact rV (h:=by rw[hnw];rfl)
 have hq8:=h6
 have hko:k+1<OL.length:=by have hq:=hq8.1;omega
 have huo:(nth OL (k+1)).us=true:=by have hq:=hq8.2;first|exact hq|simpa using hq
 have hon:nth (Xf x x.n) (k+1)=(nth OL (k+1)).pl:=by rw[<-hO];exact Qr hko
 have hch:=(Qmw hr (i:=k+1) om).1 (by rw[hon];exact huo)
 have hlt:=QgF hch.2.1
 have hbl9:1<=k+1/\(k+1)*512<=x.al.length:=om
 have hb2:=Qds (x.blk (k+1)) 40
 have hsz2:(nth OL (k+1)).es.length<=100000/\(nth OL (k+1)).cs.length<=100000:=by have h9:=Qcf (QbO h0r).2.2.1 x.n _ (Qz (i:=k+1) (by rw[Y3 hr1];omega));rw[hon]at h9;have h1:=h9.es;have h2:=h9.cs;have h3:(nth OL (k+1)).es.length<=255:=h1;have h4:(nth OL (k+1)).cs.length<=256:=h2;omega
 have hnot:¬((pln OL).length<=k+1\/¬(nth (pln OL) (k+1)).us=true):=by rw[Qd,Q1];intro h9;rcases h9 with h9|h9;omega;exact h9 huo
 refine aU ?_
 refine Qu [] QG ?_
 refine dFa 0 ?_
 refine dQ 1 [] rfl (Qc rfl rfl Yz (hb5)) (dP 2 ?_)
 refine dV 3 rfl (Qa rfl rfl rfl QH ((k+1)) om om (Rw.some ho.1 om)) (dQ 4 [] rfl (QI _ rfl rfl Xv rfl (Rw.rd ho.1 om)) (dFa 5 ?_))
 refine dQ 6 [] rfl (Qc rfl rfl Yz (hb6)) (dP 7 ?_)
 refine dV 8 rfl (Qa rfl rfl rfl QH ((k+1)) om om (Rw.some hs.1 om)) (dQ 9 [] rfl (QI _ rfl rfl Xv rfl (Rw.rd hs.1 om)) (dQ 10 [] rfl (QA rfl Qvz rfl (λw1 h1=>c161 w1 (nth OL (k+1)) (nth L (k+1)) ((ho.es hko).later h1.nil) ((ho.cs hko).later h1.nil) ((hs.es hk1).later h1.nil) ((hs.cs hk1).later h1.nil) hsz2 hsz1)) (dP 11 ?_)))
 refine dNi ?_
 refine sCd rfl (λh7=>?_) λh7=>?_
 ·have hnw:(chB x (pln OL) (pln L) lsn (k+1))=x.blk (k+1):=by unfold chB;rw[if_neg (Nat.succ_ne_zero k),if_pos hu1,if_neg hnot,if_pos];rw[Q1,Q1];exact h7
  refine aU ?_
  refine Qe (L':=[(0,_),(1,_),(3,_),(4,_),(6,_)]) aSx (λ_ h=>h) ?_
  refine aU ?_
  refine o_q (QI _ rfl rfl YN rfl hb4) rfl (aU ?_)
  refine oCq rfl (λw1 h1=>c64 w1 x c2 m2 r2 ra rn rc (k+1) om hbl9) (aU2 ?_)
  exact rV (h:=by rw[hnw];rfl)
 have hnw:(chB x (pln OL) (pln L) lsn (k+1))=QaD (nth L (k+1)).pl ((k+1:Nat):Int) lsn ((ub2 (x.blk (k+1)) 40%65535+1:Nat):Int):=by unfold chB;rw[if_neg (Nat.succ_ne_zero k),if_pos hu1,if_neg hnot,if_neg,<-Q1];rw[Q1,Q1];exact h7
 refine aU3 ?_
 refine Qe (L':=[(0,_),(1,_),(3,_),(4,_),(6,_)]) aSx (λ_ h=>h) ?_
 refine aU ?_
 refine o_q (QI _ rfl rfl YN rfl hb4) rfl (aU ?_)
 refine oCq rfl (λw1 h1=>c64 w1 x c2 m2 r2 ra rn rc (k+1) om hbl9) (oCq rfl (λw1 h1=>by have h9:=c130 w1 (x.blk (k+1)) om;rw[QfE hlt.1 hlt.2.1]at h9;exact h9) (Zw ?_))
 refine oCq rfl (λw1 h1=>c162 w1 (ub2 (x.blk (k+1)) 40) om) (aU6 ?_)
 refine Qu [] QG ?_
 refine dFa 0 ?_
 refine dQ 1 [] rfl (Qc rfl rfl Yz (hb6)) (dP 2 ?_)
 refine dV 3 rfl (Qa rfl rfl rfl QH ((k+1)) om om (Rw.some hs.1 om)) (dQ 4 [] rfl (QI _ rfl rfl Xv rfl (Rw.rd hs.1 om)) (dQ 5 [] rfl (Qc rfl rfl Ye (hb7)) (dP 6 ?_)))
 refine dV 7 rfl (QF (cs:=[_,_,_,_,_]) rfl rfl Qcz ZK rfl) (dP 8 ?_)
 refine dQ 9 [] rfl (QA rfl Qp6 rfl (λw1 h1=>c79 w1 (nth L (k+1)) ((k+1:Nat):Int) lsn ((ub2 (x.blk (k+1)) 40%65535+1:Nat):Int) ((hs.es hk1).later h1.nil) ((hs.cs hk1).later h1.nil) hq1 hcb1 om om om)) (dP 10 ?_)
 refine dNi ?_
 exact rV (h:=by rw[hnw];rfl)
theorem QuI:QQ Tryz.prog 160=true:=by kernel_rfl
set_option maxHeartbeats 2000000 in
theorem c101(w:World)(x:Ixs)(c2 m2 r2:Int)(ra:Option Addr)(rn rc:Nat)(co mo rm:Int)(a:Option Addr)(cap:Nat)(L:List LNd)(co5 mo5 rm5:Int)(oa:Option Addr)(oc:Nat)(OL:List LNd)(lsn:Int)(hs:Nt w [] a L)(ho:Nt w [] oa OL)(hr:(rdI x).2=0)(hO:pln OL=Xf x x.n)(hi:Zy (⟨co,mo,rm,pln L⟩:Tre)=0)(hl9:0<=lsn/\lsn<=2147483647)(hal:x.al.length<=900000)(hcap:L.length<=cap)(hc9:cap<=maxLen):CE 101 #[.agg #[.string (bs x.ro),.string (bs x.al),.string (bs x.bm),.int .i64 c2,.int .i64 m2,.int .i64 r2,.slice ra rn rc],.agg #[.int .i64 co5,.int .i64 mo5,.int .i64 rm5,.slice oa OL.length oc],.agg #[.int .i64 co,.int .i64 mo,.int .i64 rm,.slice a L.length cap],.int .i64 lsn] w [] (λg:Option Addr×Nat=>.tuple #[.agg #[.string (bs (chX x (pln OL) (⟨co,mo,rm,pln L⟩:Tre) lsn).ro),.string (bs (chX x (pln OL) (⟨co,mo,rm,pln L⟩:Tre) lsn).al),.string (bs (chX x (pln OL) (⟨co,mo,rm,pln L⟩:Tre) lsn).bm)],.slice g.1 (chL x (chX x (pln OL) (⟨co,mo,rm,pln L⟩:Tre) lsn)).length g.2]) (λg=>True) λg=>[.own (.slice g.1 ((chL x (chX x (pln OL) (⟨co,mo,rm,pln L⟩:Tre) lsn))).length g.2) 3 1 ((chL x (chX x (pln OL) (⟨co,mo,rm,pln L⟩:Tre) lsn))).length (((chL x (chX x (pln OL) (⟨co,mo,rm,pln L⟩:Tre) lsn))).map λi:Nat=>Value.int .i64 (i:Int))]:=by
 have hr9:=Z4 hi
 have h09:0<L.length:=by have:=hr9.1;rwa[show(⟨co,mo,rm,pln L⟩:Tre).ns=pln L from rfl,Qd]at this
 have hn9:=ZA hi hr9.1 hr9.2.1
 have hp9:NdP (nth L 0).pl:=by have hq:=hn9.1.ndp (by have:=hn9.2.1;omega);rwa[show(⟨co,mo,rm,pln L⟩:Tre).ns=pln L from rfl,Q1]at hq
 have hbb:(0<=co/\co<256)/\(0<=mo/\mo<256)/\0<=rm/\rm<256:=by have h1:=hr9.2.2.1;have h2:=hr9.2.2.2.1;have h3:QC co=0:=h1;have h4:XI mo rm=0:=h2;unfold QC at h3;unfold XI at h4;split at h3;(split at h4;omega;cases h4);cases h3
 have hL120:L.length<=120:=by have:=hn9.2.2.2.2;rwa[show(⟨co,mo,rm,pln L⟩:Tre).ns=pln L from rfl,Qd]at this
 have hn8:x.n=x.al.length/512:=rfl
 have hyn:(chX x (pln OL) (⟨co,mo,rm,pln L⟩:Tre) lsn).al.length=512*(L.length-1)/\(chX x (pln OL) (⟨co,mo,rm,pln L⟩:Tre) lsn).n=L.length-1:=by have h9:=ch_n (lsn:=lsn) hr hi hl9;rw[<-hO,show(⟨co,mo,rm,pln L⟩:Tre).ns=pln L from rfl,Qd]at h9;exact h9
 obtain⟨hya,hyn⟩:=hyn
 have hbk9:∀i,(chB x (pln OL) (pln L) lsn i).length<=512:=λi=>by have h9:=(Qeg (lsn:=lsn) hr hi hl9).len i;rw[<-hO]at h9;exact Nat.le_of_eq h9
 refine eN4 Tryz.func101 Tryz.ntmps101 ?_
 refine aU2 ?_
 refine oBx λb1 _=>?_
 refine oBx λb2 _=>?_
 refine oBx λb3 _=>?_
 refine oBx λb4 _=>?_
 refine oAl (λb5 _=>?_) QaG
 refine aU6 ?_
 refine oCq rfl (λw1 h1=>c76 w1 co mo rm a cap L 160 #[.pointer (some ⟨b3,0,none⟩),.pointer (some ⟨b2,0,none⟩),.pointer (some ⟨b4,0,none⟩),.pointer (some ⟨b1,0,none⟩)] (chB x (pln OL) (pln L) lsn) (hs.later h1.nil) h09 om hp9 hcap hc9 hbk9 QuI (λk w2 hk h2=>c160 w2 b3 b2 b4 b1 x c2 m2 r2 ra rn rc co mo rm a cap L oa oc OL lsn k ((h1.call h2).rd_blk (Mc:=[]) aPk rfl (by simp)) ((h1.call h2).rd_blk (Mc:=[]) aPk rfl (by simp)) ((h1.call h2).rd_blk (Mc:=[]) aPk rfl (by simp)) (λj v hv=>by rw[Nat.zero_add];exact(h1.call h2).rd_blk (Mc:=[]) aPk hv (by simp)) (hs.later (h1.call h2).nil) (ho.later (h1.call h2).nil) hr hO hi hl9 hal hk)) (Qf (show _=Value.agg #[.string (bs (chX x (pln OL) (⟨co,mo,rm,pln L⟩:Tre) lsn).ro),.string (bs (chX x (pln OL) (⟨co,mo,rm,pln L⟩:Tre) lsn).al),.string (bs (chX x (pln OL) (⟨co,mo,rm,pln L⟩:Tre) lsn).bm)]from by rw[show(chX x (pln OL) (⟨co,mo,rm,pln L⟩:Tre) lsn).al=ZG (chB x (pln OL) (pln L) lsn) (L.length-1)from by(show ZG _ ((pln L).length-1)=_);rw[Qd]];rfl) (oAl (λb6 _=>?_) QaG))
 refine aU5 ?_
 refine o_p (QF (cs:=[_,_,_,_,_,_,_]) rfl rfl Qrr Qas rfl) rfl (oAl (λb7 _=>?_) Qas)
 refine Zg ?_
 refine Qe (L':=[(4,_),(8,_),(9,_),(10,_),(11,_),(12,_),(13,_)]) aSx (λ_ h=>h) ?_
 refine Qo (α:=Nat×Option Addr×Nat) [12,13,19,20,21,22,23,24,25,26,27,28,29,30,31,32,33,34,35,36,37,38,39,40,41,42,43,44,45,46,47,48,49,50] (λy=>[(13,.int .i64 ((y.1+1:Nat):Int)),(12,.slice y.2.1 (Qb0 x (chX x (pln OL) (⟨co,mo,rm,pln L⟩:Tre) lsn) y.1).length y.2.2)]) (λy=>HS w [] [.own (.slice y.2.1 ((Qb0 x (chX x (pln OL) (⟨co,mo,rm,pln L⟩:Tre) lsn) y.1)).length y.2.2) 3 1 ((Qb0 x (chX x (pln OL) (⟨co,mo,rm,pln L⟩:Tre) lsn) y.1)).length (((Qb0 x (chX x (pln OL) (⟨co,mo,rm,pln L⟩:Tre) lsn) y.1)).map λi:Nat=>Value.int .i64 (i:Int)),.blk b1 108 7 [.string (bs x.ro),.string (bs x.al),.string (bs x.bm),.int .i64 c2,.int .i64 m2,.int .i64 r2,.slice ra rn rc],.blk b6 23 3 [.string (bs (chX x (pln OL) (⟨co,mo,rm,pln L⟩:Tre) lsn).ro),.string (bs (chX x (pln OL) (⟨co,mo,rm,pln L⟩:Tre) lsn).al),.string (bs (chX x (pln OL) (⟨co,mo,rm,pln L⟩:Tre) lsn).bm)],.blk b7 108 7 [.string (bs (chX x (pln OL) (⟨co,mo,rm,pln L⟩:Tre) lsn).ro),.string (bs (chX x (pln OL) (⟨co,mo,rm,pln L⟩:Tre) lsn).al),.string (bs (chX x (pln OL) (⟨co,mo,rm,pln L⟩:Tre) lsn).bm),.int .i64 0,.int .i64 0,.int .i64 0,.slice none 0 0],.blk b5 23 3 [.string (bs []),.string (bs []),.string (bs [])]]) (λy=>y.1<=(max x.n (chX x (pln OL) (⟨co,mo,rm,pln L⟩:Tre) lsn).n)) (λy=>(max x.n (chX x (pln OL) (⟨co,mo,rm,pln L⟩:Tre) lsn).n)-y.1) (0,none,0) (Nat.zero_le _) aSx (λw h=>(h.own_nil 3 1).ent aEt) (λ⟨k,ga,gc⟩hk1=>?_)
 dsimp only
 simp only[]at hk1
 have hkl:=Qjb x (chX x (pln OL) (⟨co,mo,rm,pln L⟩:Tre) lsn) k
 refine aU2 ?_
 refine Qu [] QG ?_
 refine dP 0 ?_
 refine dLn 1 [] ?_
 refine dQ 2 [] rfl (QA rfl Qgj rfl (λw1 h1=>QiL w1 x c2 m2 r2 ra rn rc om)) (dLn 3 [] ?_)
 refine dQ 4 [] rfl (QA rfl Qgj rfl (λw1 h1=>QiL w1 (chX x (pln OL) (⟨co,mo,rm,pln L⟩:Tre) lsn) 0 0 0 none 0 0 om)) (dV 5 rfl (Qgg rfl rfl rfl ) (dP 6 ?_))
 refine dNi ?_
 refine sCd rfl (λh8=>?_) λh8=>?_
 ·have hk:k<(max x.n (chX x (pln OL) (⟨co,mo,rm,pln L⟩:Tre) lsn).n):=by have hq:=h8;omega
  refine aU4 ?_
  refine QbX (α:=Bool) [28,29,30,31,32,33,34,35,36,37,38,39,40,41,42,43,44,45,46] (λu=>[(46,.bool u)]) (λu=>u=chD x (chX x (pln OL) (⟨co,mo,rm,pln L⟩:Tre) lsn) (k+1)) ?_ ?_
  ·skip
   refine Qu [] QG ?_
   refine dP 0 ?_
   refine dLn 1 [] ?_
   refine dQ 2 [] rfl (QA rfl Qgj rfl (λw1 h1=>QiL w1 x c2 m2 r2 ra rn rc om)) (dP 3 ?_)
   refine dP 4 ?_
   apply Xu 32
   ·exact rfl
   ·intro hg9
    have hs10:=hg9;try simp only[dT]at hs10
    refine dOf 5 32 hg9 ?_
    refine dOf 6 32 hg9 ?_
    refine dOf 7 32 hg9 ?_
    refine dOf 8 32 hg9 ?_
    refine dV 9 rfl (Xq rfl rfl hg9 rfl) (dP 10 ?_)
    apply Xu 38
    ·exact rfl
    ·intro hg11
     have hs12:=hg11;skip
     refine dOf 11 38 hg11 ?_
     refine dOf 12 38 hg11 ?_
     refine dOf 13 38 hg11 ?_
     refine dOf 14 38 hg11 ?_
     refine dOf 15 38 hg11 ?_
     refine dOf 16 38 hg11 ?_
     refine dOf 17 38 hg11 ?_
     refine dV 18 rfl (Xq rfl rfl hg11 rfl) (dNi ?_)
     exact Qp true (by rw[eq_comm];unfold chD;simp only[Bool.or_eq_true,decide_eq_true_eq];omega) aSx (λw h=>h.ent aEt)
    intro hg13
    have hs14:=hg13;skip
    refine dQo 11 38 [] hg13 rfl rfl rfl (Qaf rfl rfl YN aPk rfl) ?_
    refine dPo 12 38 hg13 ?_
    refine dQo 13 38 [] hg13 rfl rfl rfl (QA rfl Qjv rfl (λw1 h1=>c64 w1 x c2 m2 r2 ra rn rc (k+1) om (by first|omega|(exfalso;simp_all;done)))) ?_
    refine dQo 14 38 [] hg13 rfl rfl rfl (Qaf rfl rfl YN aPk rfl) ?_
    refine dPo 15 38 hg13 ?_
    refine dQo 16 38 [] hg13 rfl rfl rfl (QA rfl Qjv rfl (λw1 h1=>c64 w1 (chX x (pln OL) (⟨co,mo,rm,pln L⟩:Tre) lsn) 0 0 0 none 0 0 (k+1) om (by first|omega|(exfalso;simp_all;done)))) ?_
    refine dPo 17 38 hg13 ?_
    refine dV 18 rfl (Xe rfl rfl hg13 rfl) (dNi ?_)
    exact Qp (!decide (x.blk (k+1)=(chX x (pln OL) (⟨co,mo,rm,pln L⟩:Tre) lsn).blk (k+1))) (by exfalso;simp_all) aSx (λw h=>h.ent aEt)
   intro hg15
   have hs16:=hg15;try simp only[dN]at hs16
   refine dPo 5 32 hg15 ?_
   refine dQo 6 32 [] hg15 rfl rfl rfl (Qaf rfl rfl YN aPk rfl) ?_
   refine dQo 7 32 [] hg15 rfl rfl rfl (QA rfl Qgj rfl (λw1 h1=>QiL w1 (chX x (pln OL) (⟨co,mo,rm,pln L⟩:Tre) lsn) 0 0 0 none 0 0 om)) ?_
   refine dPo 8 32 hg15 ?_
   refine dV 9 rfl (Xe rfl rfl hg15 rfl) (dP 10 ?_)
   apply Xu 38
   ·exact rfl
   ·intro hg17
    have hs18:=hg17;try simp only[dT]at hs18
    refine dOf 11 38 hg17 ?_
    refine dOf 12 38 hg17 ?_
    refine dOf 13 38 hg17 ?_
    refine dOf 14 38 hg17 ?_
    refine dOf 15 38 hg17 ?_
    refine dOf 16 38 hg17 ?_
    refine dOf 17 38 hg17 ?_
    refine dV 18 rfl (Xq rfl rfl hg17 rfl) (dNi ?_)
    exact Qp true (by rw[eq_comm];unfold chD;simp only[Bool.or_eq_true,decide_eq_true_eq];omega) aSx (λw h=>h.ent aEt)
   intro hg19
   have hs20:=hg19;try simp only[dN]at hs20
   refine dQo 11 38 [] hg19 rfl rfl rfl (Qaf rfl rfl YN aPk rfl) ?_
   refine dPo 12 38 hg19 ?_
   refine dQo 13 38 [] hg19 rfl rfl rfl (QA rfl Qjv rfl (λw1 h1=>c64 w1 x c2 m2 r2 ra rn rc (k+1) om (by first|omega|(exfalso;simp_all;done)))) ?_
   refine dQo 14 38 [] hg19 rfl rfl rfl (Qaf rfl rfl YN aPk rfl) ?_
   refine dPo 15 38 hg19 ?_
   refine dQo 16 38 [] hg19 rfl rfl rfl (QA rfl Qjv rfl (λw1 h1=>c64 w1 (chX x (pln OL) (⟨co,mo,rm,pln L⟩:Tre) lsn) 0 0 0 none 0 0 (k+1) om (by first|omega|(exfalso;simp_all;done)))) ?_
   refine dPo 17 38 hg19 ?_
   refine dV 18 rfl (Xe rfl rfl hg19 rfl) (dNi ?_)
   exact Qp (!decide (x.blk (k+1)=(chX x (pln OL) (⟨co,mo,rm,pln L⟩:Tre) lsn).blk (k+1))) (by unfold chD;rw[decide_eq_false (show¬x.n<k+1 by omega),decide_eq_false (show¬(chX x (pln OL) (⟨co,mo,rm,pln L⟩:Tre) lsn).n<k+1 by omega)];simp) aSx (λw h=>h.ent aEt)
  intro u hu
  refine sCd rfl (λh21=>?_) λh21=>?_
  ·have hst:(Qb0 x (chX x (pln OL) (⟨co,mo,rm,pln L⟩:Tre) lsn) (k+1))=(Qb0 x (chX x (pln OL) (⟨co,mo,rm,pln L⟩:Tre) lsn) k)++[k+1]:=by rw[Qb0,if_pos];rw[<-hu];exact h21
   refine aU3 ?_
   refine o_h (Qg (cs:=[_]) rfl rfl QM YP rfl rfl rfl) rfl (λb22 _=>o_h (QO [_] rfl rfl rfl QM Tryz.underlying28 YP rfl aPk (Q7 aPk) rfl (by intro u hu;simp only[List.mem_cons,List.mem_nil_iff,or_false]at hu;subst hu;rfl) om (by simp only[maxLen];omega)) rfl (λb23 _=>aT6 ?_))
   refine Qf (show _=Value.int .i64 ((k+1+1:Nat):Int)from congrArg (Value.int .i64) om) (aU2 ?_)
   exact QK (k+1,b23.1,b23.2) (by(try simp only[]);omega) (by(try simp only[]);omega) (by dsimp only;rw[hst];simp only[List.length_append,List.length_singleton];exact aSx) (λw h=>by have h2:=h;dsimp only;rw[hst];simp only[List.length_append,List.length_singleton,List.map_append,List.map_cons,List.map_nil];exact h2.ent aEt)
  have hst:(Qb0 x (chX x (pln OL) (⟨co,mo,rm,pln L⟩:Tre) lsn) (k+1))=(Qb0 x (chX x (pln OL) (⟨co,mo,rm,pln L⟩:Tre) lsn) k):=by rw[Qb0,if_neg];rw[<-hu];have hq:=h21;simp[hq]
  refine aT5 ?_
  refine Qf (show _=Value.int .i64 ((k+1+1:Nat):Int)from congrArg (Value.int .i64) om) (aU2 ?_)
  exact QK (k+1,ga,gc) (by(try simp only[]);omega) (by(try simp only[]);omega) (by dsimp only;rw[hst];exact aSx) (λw h=>by dsimp only;rw[hst];exact h.ent aEt)
 obtain rfl:k=(max x.n (chX x (pln OL) (⟨co,mo,rm,pln L⟩:Tre) lsn).n):=by have hq:=h8;omega
 refine Qh rfl ?_
 refine aU7 ?_
 exact Qj (rs:=[.cell 8 23,.tmp 9]) rfl (.cell rfl Qdo aPk rfl (.tmp rfl (.nil))) (λw' h'=>⟨(ga,gc),rfl,trivial,h'.ent aEt⟩)
instance:TFn Tryz.prog 101:=⟨by kernel_rfl⟩
end Go.Proofs
namespace Gx
def swp(I:List Nat)(i j:Nat):List Nat:=(I.set i (I.getD j 0)).set j (I.getD i 0)
def Xk(N n:Nat)(I:List Nat):Prop:=I.length=n/\∀i∈I,i<N
theorem Xk.get{N n:Nat}{I:List Nat}(h:Xk N n I){k:Nat}(hk:k<n):I.getD k 0<N:=by
 have hk':k<I.length:=by rw[h.1];exact hk
 rw[List.getD_eq_getElem?_getD,List.getElem?_eq_getElem hk'];exact h.2 _ (List.getElem_mem hk')
theorem Xk.set{N n:Nat}{I:List Nat}(h:Xk N n I)(i:Nat){v:Nat}(hv:I≠[]->v<N):Xk N n (I.set i v):=by
 refine⟨by rw[List.length_set];exact h.1,λx hx=>?_⟩;rcases List.mem_or_eq_of_mem_set hx with hx|rfl
 ·exact h.2 x hx
 ·exact hv λe=>by subst e;cases hx
theorem Xk.getD{N n:Nat}{I:List Nat}(h:Xk N n I)(j:Nat)(hI:I≠[]):I.getD j 0<N:=by
 rcases Nat.lt_or_ge j I.length with hj|hj
 ·exact h.get (by rw[<-h.1];exact hj)
 ·rw[List.getD_eq_getElem?_getD,List.getElem?_eq_none hj];cases I with
  | nil=>exact absurd rfl hI
  | cons a I=>exact Nat.lt_of_le_of_lt (Nat.zero_le _) (h.2 a (List.mem_cons_self ..))
theorem Xk.swp{N n:Nat}{I:List Nat}(h:Xk N n I)(i j:Nat):Xk N n (swp I i j):=
 (h.set i (h.getD j)).set j λ_=>h.getD i (by rintro rfl;contradiction)
section
variable(c:Nat->Nat->Int)
def bub(a:Nat):Nat->List Nat->List Nat
 | 0,I=>I
 | j+1,I=>if a<j+1/\c (I.getD (j+1) 0) (I.getD j 0)<0 then bub a j (swp I (j+1) j)else I
def insS(a:Nat):Nat->Nat->List Nat->List Nat
 | 0,_,I=>I
 | k+1,i,I=>insS a k (i+1) (bub c a i I)
def ins(a e:Nat)(I:List Nat):List Nat:=insS c a (e-(a+1)) (a+1) I
def Zh(p:Nat->Bool):Nat->Nat->Nat->Nat
 | 0,i,_=>i
 | f+1,i,j=>if i<j then(if p ((i+j)/2)=true then Zh p f ((i+j)/2+1) j else Zh p f i ((i+j)/2))else i
def mvR:Nat->Nat->List Nat->List Nat
 | 0,_,I=>I
 | f+1,k,I=>mvR f (k+1) (swp I k (k+1))
def mvL:Nat->Nat->List Nat->List Nat
 | 0,_,I=>I
 | f+1,k,I=>mvL f (k-1) (swp I k (k-1))
def swr:Nat->Nat->Nat->List Nat->List Nat
 | 0,_,_,I=>I
 | n+1,a,b,I=>swr n (a+1) (b+1) (swp I a b)
def rotS:Nat->Nat->Nat->Nat->List Nat->List Nat
 | 0,_,_,_,I=>I
 | f+1,i,j,m,I=>if i=j then swr i (m-i) m I else if j<i then rotS f (i-j) j m (swr j (m-i) m I)else rotS f i (j-i) m (swr i (m-i) (m+j-i) I)
def rot(a m b:Nat)(I:List Nat):List Nat:=rotS ((m-a)+(b-m)) (m-a) (b-m) m I
def p1(I:List Nat)(a h:Nat):Bool:=decide (c (I.getD h 0) (I.getD a 0)<0)
def p2(I:List Nat)(m h:Nat):Bool:=!decide (c (I.getD m 0) (I.getD h 0)<0)
def p3(I:List Nat)(q h:Nat):Bool:=!decide (c (I.getD (q-h) 0) (I.getD h 0)<0)
def Qay(I:List Nat)(a m b:Nat):Nat:=
 Zh (p3 c I ((a+b)/2+m-1)) (b-a) (if(a+b)/2<m then(a+b)/2+m-b else a) (if(a+b)/2<m then(a+b)/2 else m)
def symR(g:Nat->Nat->Nat->List Nat->List Nat)(a b mid s e:Nat)(I:List Nat):List Nat:=
 if mid<e/\e<b then g mid e b (if a<s/\s<mid then g a s mid I else I)else if a<s/\s<mid then g a s mid I else I
def symM:Nat->Nat->Nat->Nat->List Nat->List Nat
 | 0,_,_,_,I=>I
 | f+1,a,m,b,I=>
  if m-a=1 then mvR (Zh (p1 c I a) (b-m) m b-1-a) a I
  else if b-m=1 then mvL (m-Zh (p2 c I m) (m-a) a m) m I
  else symR (symM f) a b ((a+b)/2) (Qay c I a m b) ((a+b)/2+m-Qay c I a m b) (if Qay c I a m b<m/\m<(a+b)/2+m-Qay c I a m b then rot (Qay c I a m b) m ((a+b)/2+m-Qay c I a m b) I else I)
def stI(n:Nat):Nat->Nat->List Nat->List Nat
 | 0,a,I=>ins c a n I
 | f+1,a,I=>if a+20<=n then stI n f (a+20) (ins c a (a+20) I)else ins c a n I
def stP(n bs:Nat):Nat->Nat->List Nat->List Nat
 | 0,_,I=>I
 | f+1,a,I=>if a+2*bs<=n then stP n bs f (a+2*bs) (symM c n a (a+bs) (a+2*bs) I)else if a+bs<n then symM c n a (a+bs) n I else I
def Qip(n:Nat):Nat->Nat->List Nat->List Nat
 | 0,_,I=>I
 | f+1,bs,I=>if bs<n then Qip n f (2*bs) (stP c n bs n 0 I)else I
def stab(n:Nat)(I:List Nat):List Nat:=Qip c n n 20 (stI c n n 0 I)
theorem Qj6(a:Nat)(I:List Nat):bub c a a I=I:=by
 cases a with
 | zero=>rfl
 | succ a=>rw[bub,if_neg om]
theorem QsG{a j:Nat}{K:List Nat}(haj:a<=j)(h:¬(a<j/\c (K.getD j 0) (K.getD (j-1) 0)<0)):bub c a j K=K:=by
 rcases Nat.lt_or_ge a j with h9|h9
 ·obtain⟨j9,rfl⟩:∃j9,j=j9+1:=⟨j-1,om⟩;rw[Nat.add_sub_cancel]at h;rw[bub,if_neg h]
 ·obtain rfl:j=a:=by omega
  exact Qj6 ..
theorem QtN{a j:Nat}{K:List Nat}(h:a<j/\c (K.getD j 0) (K.getD (j-1) 0)<0):bub c a j K=bub c a (j-1) (swp K j (j-1)):=by
 obtain⟨j9,rfl⟩:∃j9,j=j9+1:=⟨j-1,om⟩;rw[Nat.add_sub_cancel]at h ⊢;rw[bub,if_pos h]
theorem QnV{I:List Nat}{x m y mid s0 r0:Nat}(hm:(x+y)/2=mid)(hs:s0=if mid<m then mid+m-y else x)(hr:r0=if mid<m then mid else m):Qay c I x m y=Zh (p3 c I (mid+m-1)) (y-x) s0 r0:=by
 unfold Qay;rw[hm,<-hs,<-hr]
end
section
variable{c:Nat->Nat->Int}{N n:Nat}
theorem Xk.bub(a:Nat):∀(j:Nat){I:List Nat},Xk N n I->Xk N n (bub c a j I)
 | 0,_,h=>h
 | j+1,_,h=>by
  unfold Gx.bub;split
  ·exact Xk.bub a j (h.swp _ _)
  ·exact h
theorem Xk.insS(a:Nat):∀(k i:Nat){I:List Nat},Xk N n I->Xk N n (insS c a k i I)
 | 0,_,_,h=>h
 | k+1,i,_,h=>Xk.insS a k (i+1) (h.bub a i)
theorem Xk.ins{a e:Nat}{I:List Nat}(h:Xk N n I):Xk N n (ins c a e I):=h.insS a _ _
theorem Xk.mvR:∀(f k:Nat){I:List Nat},Xk N n I->Xk N n (mvR f k I)
 | 0,_,_,h=>h
 | f+1,k,_,h=>Xk.mvR f (k+1) (h.swp _ _)
theorem Xk.mvL:∀(f k:Nat){I:List Nat},Xk N n I->Xk N n (mvL f k I)
 | 0,_,_,h=>h
 | f+1,k,_,h=>Xk.mvL f (k-1) (h.swp _ _)
theorem Xk.swr:∀(f a b:Nat){I:List Nat},Xk N n I->Xk N n (swr f a b I)
 | 0,_,_,_,h=>h
 | f+1,a,b,_,h=>Xk.swr f (a+1) (b+1) (h.swp _ _)
theorem Xk.rotS:∀(f i j m:Nat){I:List Nat},Xk N n I->Xk N n (rotS f i j m I)
 | 0,_,_,_,_,h=>h
 | f+1,i,j,m,_,h=>by
  unfold Gx.rotS;split
  ·exact h.swr _ _ _
  ·split
   ·exact Xk.rotS f _ _ _ (h.swr _ _ _)
   ·exact Xk.rotS f _ _ _ (h.swr _ _ _)
theorem Xk.rot{a m b:Nat}{I:List Nat}(h:Xk N n I):Xk N n (rot a m b I):=h.rotS _ _ _ _
theorem Xk.symM:∀(f a m b:Nat){I:List Nat},Xk N n I->Xk N n (symM c f a m b I)
 | 0,_,_,_,_,h=>h
 | f+1,a,m,b,_,h=>by
  unfold Gx.symM;split
  ·exact h.mvR _ _
  ·split
   ·exact h.mvL _ _
   ·have h1:∀{J:List Nat}(s e mid:Nat),Xk N n J->Xk N n (Gx.symR (Gx.symM c f) a b mid s e J):=λs e mid hJ=>by
     unfold Gx.symR;split
     ·refine Xk.symM f _ _ _ ?_;split
      ·exact Xk.symM f _ _ _ hJ
      ·exact hJ
     ·split
      ·exact Xk.symM f _ _ _ hJ
      ·exact hJ
    refine h1 _ _ _ ?_;split
    ·exact h.rot
    ·exact h
theorem Xk.stI:∀(f a:Nat){q:Nat}{I:List Nat},Xk N n I->Xk N n (stI c q f a I)
 | 0,_,_,_,h=>h.ins
 | f+1,a,_,_,h=>by
  unfold Gx.stI;split
  ·exact Xk.stI f _ h.ins
  ·exact h.ins
end
theorem Qd1{p:Nat->Bool}:∀{f i j:Nat},j-i<=f->i<=j->i<=Zh p f i j/\Zh p f i j<=j/\(Zh p f i j=i\/p (Zh p f i j-1)=true)/\(Zh p f i j=j\/p (Zh p f i j)=false)
 | 0,i,j,hf,hij=>by
  obtain rfl:i=j:=by omega
  exact⟨Nat.le_refl _,Nat.le_refl _,.inl rfl,.inl rfl⟩
 | f+1,i,j,hf,hij=>by
  unfold Zh;split
  ·rename_i h;split
   ·rename_i hp;obtain⟨h1,h2,h3,h4⟩:=Qd1 (p:=p) (f:=f) (i:=(i+j)/2+1) (j:=j) om om;refine⟨om,h2,?_,h4⟩;rcases h3 with h3|h3
    ·right;rw[h3,Nat.add_sub_cancel];exact hp
    ·exact .inr h3
   ·rename_i hp;obtain⟨h1,h2,h3,h4⟩:=Qd1 (p:=p) (f:=f) (i:=i) (j:=(i+j)/2) om om;refine⟨h1,om,h3,?_⟩;rcases h4 with h4|h4
    ·right;rw[h4];simpa using hp
    ·exact .inr h4
  ·obtain rfl:i=j:=by omega
   exact⟨Nat.le_refl _,Nat.le_refl _,.inl rfl,.inl rfl⟩
theorem QeE{p:Nat->Bool}{f i j:Nat}(h:i<j)(hf:j-i<=f):∃g,f=g+1/\Zh p f i j=if p ((i+j)/2)=true then Zh p g ((i+j)/2+1) j else Zh p g i ((i+j)/2):=by
 obtain⟨g,rfl⟩:∃g,f=g+1:=⟨f-1,om⟩;exact⟨g,rfl,by rw[Zh,if_pos h]⟩
theorem QgZ{p:Nat->Bool}{f i j:Nat}(h:¬i<j):Zh p f i j=i:=by
 cases f with
 | zero=>rfl
 | succ f=>rw[Zh,if_neg h]
theorem QhH(A B:List Nat)(x:Nat):(A++x::B).getD A.length 0=x:=by simp[List.getD_eq_getElem?_getD]
theorem Qfp{A B:List Nat}{x k:Nat}(h:k=A.length):(A++x::B).getD k 0=x:=by subst h;exact QhH A B x
theorem QiW(A B:List Nat)(x y:Nat):(A++x::B).set A.length y=A++y::B:=by simp
theorem QqS{I:List Nat}{i j:Nat}(h:i≠j):swp I i j=swp I j i:=by unfold swp;rw[List.set_comm _ _ h]
theorem Qnc(A M B:List Nat)(x y:Nat):swp (A++x::(M++y::B)) A.length (A.length+1+M.length)=A++y::(M++x::B):=by
 unfold swp;have e:A++x::(M++y::B)=(A++x::M)++y::B:=by simp
 have h1:(A++x::(M++y::B)).getD (A.length+1+M.length) 0=y:=by rw[e];exact Qfp (by simp;omega)
 rw[h1,QhH,QiW];have e2:A++y::(M++y::B)=(A++y::M)++y::B:=by simp
 have hl:A.length+1+M.length=(A++y::M).length:=by simp;omega
 rw[e2,hl,QiW];simp
theorem Qmb(A B:List Nat)(x y:Nat):swp (A++x::y::B) A.length (A.length+1)=A++y::x::B:=Qnc A [] B x y
theorem Qj8(A B:List Nat)(x y:Nat):swp (A++x::y::B) (A.length+1) A.length=A++y::x::B:=by rw[QqS om];exact Qmb A B x y
theorem QlH(x:Nat)(S:List Nat):∀(R A:List Nat),mvR R.length A.length (A++x::(R++S))=A++(R++x::S)
 | [],A=>rfl
 | y::R,A=>by
  rw[List.length_cons,mvR,List.cons_append,Qmb];have h:=QlH x S R (A++[y]);rw[List.length_append,List.length_singleton]at h
  simpa using h
theorem Ql1(y:Nat)(S:List Nat):∀(k:Nat)(A L:List Nat),L.length=k->mvL k (A.length+k) (A++(L++y::S))=A++y::(L++S)
 | 0,A,L,h=>by
  obtain rfl:=List.eq_nil_of_length_eq_zero h;rfl
 | k+1,A,L,h=>by
  obtain⟨L',z,rfl⟩:∃L' z,L=L'++[z]:=by
   rcases List.eq_nil_or_concat L with rfl|⟨L',z,rfl⟩
   ·cases h
   ·exact⟨L',z,by simp⟩
  have hl:L'.length=k:=by simpa using h
  rw[mvL];have e:A++(L'++[z]++y::S)=(A++L')++z::y::S:=by simp
  have h2:A.length+(k+1)=(A++L').length+1:=by simp;omega
  rw[e,h2,Nat.add_sub_cancel,Qj8];have h3:=Ql1 y (z::S) k A L' hl;rw[show(A++L').length=A.length+k by simp[hl],show A++L'++y::z::S=A++(L'++y::z::S) by simp,h3];simp
theorem QfB(B:List Nat):∀(X Z A Y:List Nat),X.length=Z.length->swr X.length A.length (A.length+X.length+Y.length) (A++(X++(Y++(Z++B))))=A++(Z++(Y++(X++B)))
 | [],Z,A,Y,h=>by
  obtain rfl:=List.eq_nil_of_length_eq_zero h.symm;rfl
 | x::X,[],A,Y,h=>by cases h
 | x::X,z::Z,A,Y,h=>by
  have hl:X.length=Z.length:=by simpa using h
  rw[List.length_cons,swr];have e:A++(x::X++(Y++(z::Z++B)))=A++x::((X++Y)++z::(Z++B)):=by simp
  rw[e,show A.length+(X.length+1)+Y.length=A.length+1+(X++Y).length by simp;omega,Qnc];have h3:=QfB B X Z (A++[z]) (Y++[x]) hl;rw[show(A++[z]).length=A.length+1 by simp,show A.length+1+X.length+(Y++[x]).length=A.length+1+(X++Y).length+1 by simp;omega,show A++[z]++(X++(Y++[x]++(Z++B)))=A++z::(X++Y++x::(Z++B)) by simp]at h3;rw[h3];simp
theorem Qg0:∀(f:Nat)(A L R B:List Nat)(m:Nat),L.length+R.length<=f->0<L.length->0<R.length->m=A.length+L.length->rotS f L.length R.length m (A++(L++(R++B)))=A++(R++(L++B))
 | 0,_,_,_,_,_,h,h1,h2,_=>by omega
 | f+1,A,L,R,B,m,hf,h1,h2,hm=>by
  unfold rotS;split
  ·rename_i he;have h3:=QfB B L R A [] he;subst hm;rw[Nat.add_sub_cancel]
   simpa using h3
  ·rename_i he;split
   ·rename_i hlt;obtain⟨L1,L2,rfl,hl1⟩:∃L1 L2,L=L1++L2/\L1.length=R.length:=⟨L.take R.length,L.drop R.length,(List.take_append_drop _ _).symm,by rw[List.length_take];omega⟩;have hl:(L1++L2).length=L1.length+L2.length:=List.length_append;have h3:=QfB B L1 R A L2 hl1;rw[hl]at hf hlt he hm h1 ⊢;rw[show m-(L1.length+L2.length)=A.length by omega,show m=A.length+L1.length+L2.length by omega,<-hl1,List.append_assoc,h3];have h4:=Qg0 f (A++R) L2 L1 B m om om om (by rw[List.length_append];omega);rw[show L1.length+L2.length-L1.length=L2.length by omega,show A.length+L1.length+L2.length=m by omega];rw[show A++(R++(L2++(L1++B)))=A++R++(L2++(L1++B)) by simp,h4];simp
   ·rename_i hge;obtain⟨R1,R2,rfl,hl1⟩:∃R1 R2,R=R1++R2/\R2.length=L.length:=⟨R.take (R.length-L.length),R.drop (R.length-L.length),(List.take_append_drop _ _).symm,by rw[List.length_drop];omega⟩;have hl:(R1++R2).length=R1.length+R2.length:=List.length_append;have h3:=QfB B L R2 A R1 hl1.symm;rw[hl]at hf hge he h2 ⊢;rw[show m-L.length=A.length by omega,show m+(R1.length+R2.length)-L.length=A.length+L.length+R1.length by omega,List.append_assoc,h3];have h4:=Qg0 f A R2 R1 (L++B) m om om om om;rw[show R1.length+R2.length-L.length=R1.length by omega,<-hl1,h4];simp
theorem QsJ(A L R B:List Nat)(h1:0<L.length)(h2:0<R.length):rot A.length (A.length+L.length) (A.length+L.length+R.length) (A++(L++(R++B)))=A++(R++(L++B)):=by
 unfold rot;rw[show A.length+L.length-A.length=L.length by omega,show A.length+L.length+R.length-(A.length+L.length)=R.length by omega];exact Qg0 _ A L R B _ (Nat.le_refl _) h1 h2 rfl
end Gx
