/- Contracts of the program's functions, proved by walking them with the rules of the Gx texts; without conditions beyond those that each contract names. -/
import Derived.WalkKit
import Derived.Deep.Draws
import Derived.TacticsIn
import Derived.OrdersIn
import Derived.RangeFuncLeaves
import Derived.Lib.Strings
import Derived.Laws.BytesArg
import Derived.Laws.IdiomStrings
import Derived.Deep.Quiet
import Derived.ProofKit
import Derived.OpenShut
import Derived.Laws.StructEq
import Derived.ChangeKeysEq
import Derived.Laws.Externs
import Derived.Lib.Overlaps
import Derived.Carry
import Derived.Laws.Small
import Derived.Lib.Bytealg
import Derived.Lib.Builder
import Derived.Laws.Pointers
import Derived.RangeFuncRecord
import Derived.Test.YtpkhkcchibbhmaaGreatDoorProg
import Derived.KernelRfl
import Derived.Test.YtpkhkcchibbhmaaGreatDoorTie
import Derived.Test.YtpkhkcchibbhmaaGreatDoorCards
import Derived.SevenTiedAt
import Derived.LaidMore
import Derived.Lay
import Derived.Stop.Joined
import Derived.Test.YtpkhkcchibbhmaaGreatDoorP2
set_option linter.unusedSimpArgs false
set_option maxHeartbeats 1000000
set_option linter.unusedVariables false
set_option linter.unusedSectionVars false
set_option linter.unnecessarySimpa false
namespace Go.Proofs
open Go Go.RowKit Gx
attribute [local irreducible] Go.Calls Gx.S Gx.O Gx.D Gx.OpP Gx.OpQ Gx.OpH
set_option maxRecDepth 20000
theorem Qpl:ZY Tryz.prog 166=some [(0,4),(4,2)]:=by kernel_rfl
theorem Qrp:XX Tryz.prog 166=some [.int .i64 0,.int .i64 0,.int .i64 0,.slice none 0 0,.nilFunc,.nilFunc]:=by kernel_rfl
theorem Qun:QQ Tryz.prog 199=true:=by kernel_rfl
instance:TFn Tryz.prog 200:=⟨by kernel_rfl⟩
instance:TFn Tryz.prog 245:=⟨by kernel_rfl⟩
theorem QkP:QQ Tryz.prog 114=true:=by kernel_rfl
instance:TFn Tryz.prog 114:=⟨QkP⟩
theorem Qqs:QQ Tryz.prog 246=true:=by kernel_rfl
theorem Qr1(w:World)(co mo rm:Int)(a:Option Addr)(cap:Nat)(L:List LNd)(hs:Nt w [] a L)(hB:Bd (pln L))(hkl:∀i,i<L.length->∀x∈(nth L i).es,x.key.length<=1000000):CR 140 #[.agg #[.int .i64 co,.int .i64 mo,.int .i64 rm,.slice a L.length cap]] w (.tuple #[.int .i64 (XQ (⟨co,mo,rm,pln L⟩:Tre)).1,.int .i64 (XQ (⟨co,mo,rm,pln L⟩:Tre)).2]):=by
 have hle:=hB.len
 rw[Qd]at hle
 have hes9:∀i,i<L.length->(nth L i).es.length<=1000:=λi hi=>by have h9:=hB.es i (by rw[Qd];exact hi);rw[Qr hi]at h9;exact h9
 have hcs9:∀i,i<L.length->(nth L i).cs.length<=1000:=λi hi=>by have h9:=hB.cs i (by rw[Qd];exact hi);rw[Qr hi]at h9;exact h9
 refine eN1 Tryz.func140 Tryz.ntmps140 ?_
 refine aU2 ?_
 refine oBx λb1 _=>?_
 refine Zg ?_
 refine oCq rfl (λw1 h1=>c155 w1 _ _ _) (aU7 ?_)
 refine sCd rfl (λh2=>?_) λh2=>?_
 ·have hz:=Qdb (t:=(⟨co,mo,rm,pln L⟩:Tre)) h2
  refine aU6 ?_
  exact Qj (rs:=[.tmp 2,.tmp 3]) rfl (.tmp rfl (.tmp rfl (.nil))) (λw' h'=>⟨by rw[hz];rfl,h'.below⟩)
 have hc0:(if QC co=0 then XI mo rm else QC co)=0:=h2
 obtain⟨hco,hsz⟩:=Qin (t:=(⟨co,mo,rm,pln L⟩:Tre)) hc0
 obtain⟨j,rfl,hj⟩:=Qa7 hco
 have hsz2:(3<=mo/\mo<=8)/\(mo/2<=rm/\rm<=mo):=Qcn hsz
 refine aU3 ?_
 refine Qu [] QG ?_
 refine dFa 0 ?_
 refine dLd 1 [] ?_
 refine dV 2 rfl (QX rfl rfl Tryz.underlying35) (dP 3 ?_)
 refine dQ 4 [] rfl (QA rfl Qb1 rfl (λw1 h1=>QdM w1 _ _)) (dFa 5 ?_)
 refine dLd 6 [] ?_
 refine dV 7 rfl (QX rfl rfl Tryz.underlying35) (dP 8 ?_)
 refine dQ 9 [] rfl (QA rfl Qb1 rfl (λw1 h1=>QdM w1 _ _)) (dH 10 rfl (Qg (cs:=[_,_]) rfl rfl Yt ZP rfl rfl rfl) (λb3 _=>dBa ?_))
 refine dQ 11 [] rfl (QA rfl Qgh rfl (λw1 h1=>Qog h1 aPk (by rfl) (by rfl) (by decide))) ?_
 refine Qv (show _=Value.int .i64 (ZM L.length)from by congr 1;rw[Qb4];unfold ZM;simp only[cond_eq_ite,decide_eq_true_eq];first|(split<;>(try split)<;>(try split)<;>(try split)<;>first|rfl|omega)) (dP 12 ?_)
 refine dNi ?_
 refine aU5 ?_
 refine sCd rfl (λh4=>?_) λh4=>?_
 ·have hz:=Qd6 (t:=(⟨(j:Int),mo,rm,pln L⟩:Tre)) hc0 (by rw[show((⟨(j:Int),mo,rm,pln L⟩:Tre)).ns.length=L.length from Qd L];exact h4)
  rw[show((⟨(j:Int),mo,rm,pln L⟩:Tre)).ns.length=L.length from Qd L]at hz
  refine aU6 ?_
  exact Qj (rs:=[.tmp 2,.tmp 3]) rfl (.tmp rfl (.tmp rfl (.nil))) (λw' h'=>⟨by rw[hz];rfl,h'.below⟩)
 have hc1:ZM L.length=0:=h4
 have hz:=QeB (t:=(⟨(j:Int),mo,rm,pln L⟩:Tre)) hc0 (by rw[show((⟨(j:Int),mo,rm,pln L⟩:Tre)).ns.length=L.length from Qd L];exact hc1)
 rw[show((⟨(j:Int),mo,rm,pln L⟩:Tre)).ns.length=L.length from Qd L]at hz
 obtain⟨h00,h120⟩:=QkW hc1
 refine aU2 ?_
 refine Qe (L':=[(1,_),(2,_),(3,_)]) aSx (λ_ h=>h) ?_
 refine XP (α:=Nat×Nat) [6,7,37,38,39,40,41,42,43,44] (λx=>[(6,.pointer (some ⟨x.1,0,none⟩)),(7,.map (some x.2))]) (λx=>HS w [] [.blk b1 37 4 [.int .i64 (j:Int),.int .i64 mo,.int .i64 rm,.slice a L.length cap],.blk x.1 166 6 (tbV (j:Int) mo rm a L.length cap),.mp x.2 KI []]) (λ_=>True) ?_ ?_
 ·skip
  refine Qu [] QG ?_
  refine dLn 0 [] ?_
  refine dQ 1 [] rfl (QA rfl Qlw rfl (λw1 h1=>QrO w1)) (dFa 2 ?_)
  refine dLd 3 [] ?_
  refine dV 4 rfl (QdW rfl rfl rfl Qgp QfS j rfl om) (Qv (Qer j hj) (dV 5 rfl (QF (cs:=[_,_,_,_,_,_]) rfl rfl Qpl Qrp rfl) (Qv8 6 7 rfl rfl (Qmi rfl rfl) (Qhb rfl KI) (by kernel_rfl) (λw h=>h.ent aEt) rfl rfl (λb5 _=>?_) (λb6 _=>?_))))
  ·skip
   refine dBa ?_
   refine dP 8 ?_
   refine dH 7 rfl (Qhb rfl KI) (λb7 _=>dBa ?_)
   refine dP 9 ?_
   refine dNi ?_
   exact Qp (b5,b7) trivial aSx (λw h=>h.ent aEt)
  skip
  refine dBa ?_
  refine dH 6 rfl (Qmi rfl rfl) (λb8 _=>dBa ?_)
  refine dP 8 ?_
  refine dP 9 ?_
  refine dNi ?_
  exact Qp (b8,b6) trivial aSx (λw h=>h.ent aEt)
 intro⟨bt,r⟩ _
 refine aU9 ?_
 refine Qo (α:=Nat×List Int×List Int) [2,3,8,9,48,49,50,51,52,53,54,55,56,57,58,59] (λx=>[(48,.int .i64 (x.1:Int))]) (λx=>HS w [] [.blk b1 37 4 [.int .i64 (j:Int),.int .i64 mo,.int .i64 rm,.slice a L.length cap],.blk bt 166 6 (tbV (j:Int) mo rm a L.length cap),.mp r KI x.2.1]) (λx=>x.1<=L.length/\(∀y,y∈x.2.1 ↔ y∈x.2.2)/\(X9 (⟨(j:Int),mo,rm,pln L⟩:Tre) L.length 0 [])=X9 (⟨(j:Int),mo,rm,pln L⟩:Tre) (L.length-x.1) x.1 x.2.2) (λx=>L.length-x.1) (0,[],[]) ⟨Nat.zero_le _,λ_=>Iff.rfl,rfl⟩ aSx (λw h=>h.ent aEt) (λ⟨k,K,S9⟩hx=>?_)
 dsimp only
 obtain⟨hk1,hk2,hk3⟩:=hx
 simp only[]at hk1 hk2 hk3
 refine aU5 ?_
 refine sCd rfl (λh9=>?_) λh9=>?_
 ·have hkl9:k<L.length:=by omega
  have hst:=QgI (t:=(⟨(j:Int),mo,rm,pln L⟩:Tre)) (k:=k) (seen:=S9) (by rw[show((⟨(j:Int),mo,rm,pln L⟩:Tre)).ns.length=L.length from Qd L];exact hkl9)
  rw[show((⟨(j:Int),mo,rm,pln L⟩:Tre)).ns.length=L.length from Qd L]at hst
  refine Qa5 ?_
  refine o_h (QE (Cs:=[.mp r KI K]) rfl Qun rfl aPs (λw1 h1 hf=>c199 w1 k r K S9 bt j mo rm a cap L hf hk2 (λk9 v9 hv9=>h1.rd_blkF aPs (b:=bt) aPk hv9) ((hs.keep h1).mono (Xm aPs)) hle hj hkl9 (hes9 _ hkl9) (hcs9 _ hkl9) (hkl _ hkl9))) rfl (λb10 hkG=>aU7 ?_)
  refine sCd rfl (λh11=>?_) λh11=>?_
  ·have hz3:(X9 (⟨(j:Int),mo,rm,pln L⟩:Tre) L.length 0 [])=((k:Int),(X7 (⟨(j:Int),mo,rm,pln L⟩:Tre) k S9).1):=by rw[hk3,hst,if_neg h11]
   rw[hz3,if_neg (show¬(((k:Int),(X7 (⟨(j:Int),mo,rm,pln L⟩:Tre) k S9).1):Int×Int).2=0 from h11)]at hz
   refine aU7 ?_
   exact Qj (rs:=[.tmp 2,.tmp 3]) rfl (.tmp rfl (.tmp rfl (.nil))) (λw' h'=>⟨by rw[hz];rfl,h'.below⟩)
  have hz3:X9 (⟨(j:Int),mo,rm,pln L⟩:Tre) (L.length-k) k S9=X9 (⟨(j:Int),mo,rm,pln L⟩:Tre) (L.length-(k+1)) (k+1) (X7 (⟨(j:Int),mo,rm,pln L⟩:Tre) k S9).2:=by rw[hst,if_pos h11]
  refine aT4 ?_
  refine aU2 ?_
  exact sBk (k+1,b10,(X7 (⟨(j:Int),mo,rm,pln L⟩:Tre) k S9).2) (by(try simp only[]);omega) ⟨by(try simp only[]);omega,hkG,by simp only[];rw[hk3,hz3]⟩
 have hnd:(X9 (⟨(j:Int),mo,rm,pln L⟩:Tre) L.length 0 [])=(0,0):=by rw[hk3,show L.length-k=0 by omega];rfl
 rw[hnd,if_pos rfl]at hz
 have hT:TOk (j:Int) (pln L):=Qaa (t:=(⟨(j:Int),mo,rm,pln L⟩:Tre)) (by show(X9 (⟨(j:Int),mo,rm,pln L⟩:Tre) (pln L).length 0 []).2=0;rw[Qd,hnd])
 refine Qh rfl ?_
 refine aU3 ?_
 refine oCq rfl (λw1 h1=>c200 w1 bt j mo rm a cap L (HS.tbr h1 aPk) (hs.later h1) hj om h00 hB hT) (Zg ?_)
 refine XP (α:=Unit) [10] (λ_=>[(10,.int .i64 (XQ (⟨(j:Int),mo,rm,pln L⟩:Tre)).1)]) (λ_=>HS w [] []) (λ_=>True) ?_ ?_
 ·skip
  refine sCd rfl (λh12=>?_) λh12=>?_
  ·refine aU3 ?_
   exact Qp () trivial (by rw[hz,QlL h12];exact aSx) (λw h=>h.ent aEt)
  refine aU ?_
  exact Qp () trivial (by rw[hz];exact aSx) (λw h=>h.ent aEt)
 intro _ _
 refine aU7 ?_
 exact Qj (rs:=[.tmp 2,.tmp 3]) rfl (.tmp rfl (.tmp rfl (.nil))) (λw' h'=>⟨by simp only[Q3];rw[hz],h'.below⟩)
theorem c245(w:World)(a:Option Addr)(cap:Nat)(l:List LNd)(hs:Rw LNd.vals 3 w [] a l)(hm:l.length<=1000000):CE 245 #[.slice a l.length cap] w [] (λg:Option Addr×Nat=>.slice g.1 l.length g.2) (λg=>True) λg=>[.own (.slice g.1 l.length g.2) 69 3 l.length (l.flatMap LNd.vals)]:=by
 refine eN1 Tryz.func245 Tryz.ntmps245 ?_
 refine aU8 ?_
 refine o_p (Z9 rfl rfl rfl Tryz.underlying35) rfl (aU ?_)
 refine sCd rfl (λh1=>?_) λh1=>?_
 ·have ha0:a=none:=by cases a with|none=>rfl|some b=>simp at h1
  subst ha0
  have hl0:l=[]:=Rw.none hs
  refine aU4 ?_
  exact rT rfl rfl (λw' h'=>⟨(none,0),by rw[hl0];rfl,trivial,by rw[hl0];exact(h'.own_nil 69 3).ent aEt⟩)
 refine aU3 ?_
 refine o_h (Xy rfl QH) rfl (λb2 _=>aU ?_)
 refine o_h (QO (l.flatMap LNd.vals) rfl rfl rfl QH Tryz.underlying35 Xc rfl aPk (λw h=>Rw.src nv3 hs h) (Qi nv3 l) (X5 nv1 l) om (by simp only[maxLen];omega)) rfl (λb3 _=>aU2 ?_)
 exact rT rfl rfl (λw' h'=>⟨b3,by simp only[Q3,Nat.zero_add],trivial,by have h2:=h';simp only[Nat.zero_add,List.nil_append]at h2;exact h2.ent aEt⟩)
theorem Qtz(w:World)(a:Option Addr)(cap:Nat)(l:List TEnt)(hs:Rw TEnt.vals 2 w [] a l)(hm:l.length<=1000000):CE 114 #[.slice a l.length cap] w [] (λg:Option Addr×Nat=>.slice g.1 l.length g.2) (λg=>True) λg=>[.own (.slice g.1 l.length g.2) 27 2 l.length (l.flatMap TEnt.vals)]:=by
 refine eN1 Tryz.func114 Tryz.ntmps114 ?_
 refine aU8 ?_
 refine o_p (Z9 rfl rfl rfl Tryz.underlying67) rfl (aU ?_)
 refine sCd rfl (λh1=>?_) λh1=>?_
 ·have ha0:a=none:=by cases a with|none=>rfl|some b=>simp at h1
  subst ha0
  have hl0:l=[]:=Rw.none hs
  refine aU4 ?_
  exact rT rfl rfl (λw' h'=>⟨(none,0),by rw[hl0];rfl,trivial,by rw[hl0];exact(h'.own_nil 27 2).ent aEt⟩)
 refine aU3 ?_
 refine o_h (Xy rfl Qy) rfl (λb2 _=>aU ?_)
 refine o_h (QO (l.flatMap TEnt.vals) rfl rfl rfl Qy Tryz.underlying67 XD rfl aPk (λw h=>Rw.src ev2 hs h) (Qi ev2 l) (X5 ev1 l) om (by simp only[maxLen];omega)) rfl (λb3 _=>aU2 ?_)
 exact rT rfl rfl (λw' h'=>⟨b3,by simp only[Q3,Nat.zero_add],trivial,by have h2:=h';simp only[Nat.zero_add,List.nil_append]at h2;exact h2.ent aEt⟩)
theorem c246(w:World)(a:Option Addr)(cap:Nat)(l:List Int)(hs:Rw inV 1 w [] a l)(hm:l.length<=1000000):CE 246 #[.slice a l.length cap] w [] (λg:Option Addr×Nat=>.slice g.1 l.length g.2) (λg=>True) λg=>[.own (.slice g.1 l.length g.2) 3 1 l.length (l.flatMap inV)]:=by
 refine eN1 Tryz.func246 Tryz.ntmps246 ?_
 refine aU8 ?_
 refine o_p (Z9 rfl rfl rfl Tryz.underlying28) rfl (aU ?_)
 refine sCd rfl (λh1=>?_) λh1=>?_
 ·have ha0:a=none:=by cases a with|none=>rfl|some b=>simp at h1
  subst ha0
  have hl0:l=[]:=Rw.none hs
  refine aU4 ?_
  exact rT rfl rfl (λw' h'=>⟨(none,0),by rw[hl0];rfl,trivial,by rw[hl0];exact(h'.own_nil 3 1).ent aEt⟩)
 refine aU3 ?_
 refine o_h (Xy rfl QM) rfl (λb2 _=>aU ?_)
 refine o_h (QO (l.flatMap inV) rfl rfl rfl QM Tryz.underlying28 YP rfl aPk (λw h=>Rw.src iv1 hs h) (Qi iv1 l) (X5 Qfe l) om (by simp only[maxLen];omega)) rfl (λb3 _=>aU2 ?_)
 exact rT rfl rfl (λw' h'=>⟨b3,by simp only[Q3,Nat.zero_add],trivial,by have h2:=h';simp only[Nat.zero_add,List.nil_append]at h2;exact h2.ent aEt⟩)
theorem c210(w:World)(j:Nat)(mo rm:Int)(a:Option Addr)(cap:Nat)(L:List LNd)(hs:Nt w [] a L)(hB:Bd (pln L))(hj:j<=3)(h0:0<L.length):CE 210 #[.agg #[.int .i64 (j:Int),.int .i64 mo,.int .i64 rm,.slice a L.length cap]] w [] (λg:Nat×(Option Addr×Nat)×List LNd=>.pointer (some ⟨g.1,0,none⟩)) (λg=>pln g.2.2=pln L) λg=>[.blk g.1 166 6 (tbV (j:Int) mo rm g.2.1.1 g.2.2.length g.2.1.2),.nodes 27 69 g.2.1.1 g.2.1.2 g.2.2]:=by
 have hle:=hB.len
 rw[Qd]at hle
 have hes9:∀i,i<L.length->(nth L i).es.length<=1000:=λi hi=>by have h9:=hB.es i (by rw[Qd];exact hi);rw[Qr hi]at h9;exact h9
 have hcs9:∀i,i<L.length->(nth L i).cs.length<=1000:=λi hi=>by have h9:=hB.cs i (by rw[Qd];exact hi);rw[Qr hi]at h9;exact h9
 refine eN1 Tryz.func210 Tryz.ntmps210 ?_
 refine aU2 ?_
 refine oBx λb1 _=>?_
 refine aU3 ?_
 refine Qu [] QG ?_
 refine dLn 0 [] ?_
 refine dQ 1 [] rfl (QA rfl Qlw rfl (λw1 h1=>QrO w1)) (dFa 2 ?_)
 refine dLd 3 [] ?_
 refine dV 4 rfl (QdW rfl rfl rfl Qgp QfS j rfl om) (Qv (Qer j hj) (dV 5 rfl (QF (cs:=[_,_,_,_,_,_]) rfl rfl Qpl Qrp rfl) (dH 6 rfl (Qmi rfl rfl) (λb2 _=>dBa ?_))))
 refine dP 7 ?_
 refine dNi ?_
 refine aU5 ?_
 refine oCh rfl (λw1 h1=>c245 w1 a cap L (hs.1.later h1) om) (λ⟨b3,c4⟩_=>X4 (λw h=>Qf4 h0 h aPk) (λhgn=>?_))
 obtain⟨gn,rfl,hcap,hcm⟩:=hgn
 refine QZ (λw h=>HS.own_at h aPk) (aU3 ?_)
 refine Qah (Q8 rfl rfl rfl Yz rfl aPt (by show 4<=6;omega) rfl) (λ_ _=>Qa5 ?_)
 refine Qe (L':=[(2,_),(3,_),(24,_),(25,_),(26,_)]) aSx (λ_ h=>h) ?_
 refine Qo (α:=Nat×List LNd) [4,5,26,27,28,29,30,31,32,33,34,35,36,37,38,39,40,41,42,43,44,45,46,47,48,49,50,51,52,53] (λx=>[(26,.int .i64 (x.1:Int))]) (λx=>HS w [] [.blk gn 69 (c4*3) ((x.2++L.drop x.1).flatMap LNd.vals),.star (x.2.map (QB 27)),.blk b2 166 6 (tbV (j:Int) mo rm (some ⟨gn,0,none⟩) L.length c4)]) (λx=>x.1<=L.length/\x.2.length=x.1/\pln x.2=(pln L).take x.1) (λx=>L.length-x.1) (0,[]) ⟨Nat.zero_le _,rfl,rfl⟩ aSx (λw h=>(h.star_nil).ent aEt) (λ⟨k,D⟩hx=>?_)
 dsimp only
 obtain⟨hk1,hk2,hk3⟩:=hx
 simp only[]at hk1 hk2 hk3
 refine aU5 ?_
 refine sCd rfl (λh5=>?_) λh5=>?_
 ·have hkl:k<L.length:=by omega
  refine aU6 ?_
  refine o_p (Qa rfl rfl rfl QH (k) om om rfl) rfl (o_q (QU (LNd.vals (nth L k)) rfl rfl Xv rfl (λw h=>by have h9:=Rw.rd (h.rw_blk nv3 aPk) (i:=k) (by simp only[List.length_append,List.length_drop];omega);rw[Ql8 hk2 hkl]at h9;exact h9)) rfl (oAl (λb6 _=>?_) Xc))
  refine aU3 ?_
  refine Qu [20,23] QG ?_
  refine dP 0 ?_
  refine dP 1 ?_
  refine dFa 2 ?_
  refine dFa 3 ?_
  refine dLd 4 [[],[]] ?_
  refine dP 5 ?_
  refine dP 6 ?_
  refine dP 7 ?_
  refine dFa 8 ?_
  refine dFa 9 ?_
  refine dLd 10 [[],[]] ?_
  refine dP 11 ?_
  refine dFa 12 ?_
  refine dLd 13 [[],[]] ?_
  refine dFa 15 ?_
  refine dLd 16 [[17],[]] ?_
  refine dH 14 rfl (Qav rfl QkP rfl (λw1 h1=>Qtz w1 (nth L k).ea (nth L k).ec (nth L k).es ((hs.es hkl).later h1) (by have:=hes9 k hkl;omega))) (λb7 _=>dBa ?_)
  refine dH 17 rfl (Qav rfl Qqs rfl (λw1 h1=>c246 w1 (nth L k).ca (nth L k).cc (nth L k).cs ((hs.cs hkl).later h1) (by have:=hcs9 k hkl;omega))) (λb8 _=>dBa ?_)
  refine dV 18 rfl (Qa rfl rfl rfl QH (k) om om rfl) (dFa 19 ?_)
  refine Qep 20 rfl (Q8 rfl rfl rfl YE rfl aPt (by simp only[Qk,Qi nv3,List.length_append,List.length_drop,Nat.zero_add];show _+1<=_;omega) rfl) (by kernel_rfl) (λw h=>h.ent aEt) (λ_ _=>?_)
  refine dTu [23] ?_
  refine dV 21 rfl (Qa rfl rfl rfl QH (k) om om rfl) (dFa 22 ?_)
  refine Qep 23 rfl (Q8 rfl rfl rfl Ya rfl aPt (by simp only[Qk,Qi nv3,List.length_append,List.length_drop,Nat.zero_add];show _+1<=_;omega) rfl) (by kernel_rfl) (λw h=>h.ent aEt) (λ_ _=>?_)
  refine dTu [] ?_
  refine dNi ?_
  refine aU ?_
  refine Qe (L':=[(2,_),(3,_),(24,_),(25,_),(26,_)]) aSx (λ_ h=>h) ?_
  refine aT2 ?_
  refine aU2 ?_
  exact QK (k+1,D++[⟨(nth L k).us,b7.1,b7.2,(nth L k).es,b8.1,b8.2,(nth L k).cs⟩]) (by(try simp only[]);omega) ⟨by(try simp only[]);omega,by simp[hk2],Qjm hkl hk3 rfl⟩ aSx (λw h=>by have e9:=QeO (l:=D++L.drop k) (k:=k) (by simp only[List.length_append,List.length_drop];omega) b7.1 b7.2 (nth L k).es b8.1 b8.2 (nth L k).cs;rw[Ql8 hk2 hkl,QsO hk2 hkl]at e9;have h2:=h.ent (Bs:=[.own (.slice b7.1 (nth L k).es.length b7.2) 27 2 (nth L k).es.length ((nth L k).es.flatMap TEnt.vals),.own (.slice b8.1 (nth L k).cs.length b8.2) 3 1 (nth L k).cs.length ((nth L k).cs.flatMap inV),.star (D.map (QB 27)),.blk gn 69 (c4*3) (Qq (Qq ((D++L.drop k).flatMap LNd.vals) (0+k*3+1) [.slice b7.1 (nth L k).es.length b7.2]) (0+k*3+2) [.slice b8.1 (nth L k).cs.length b8.2]),.blk b2 166 6 (tbV (j:Int) mo rm (some ⟨gn,0,none⟩) L.length c4)]) aEt;rw[Nat.zero_add,e9]at h2;exact(HS.sub_app (sub:=QB 27) (l:=D) (x:=(⟨(nth L k).us,b7.1,b7.2,(nth L k).es,b8.1,b8.2,(nth L k).cs⟩:LNd)) (HS.star_close (Bs:=[_,_]) h2)).ent aEt)
 obtain rfl:k=L.length:=om
 have hD:pln D=pln L:=by rw[hk3,<-Qd L,List.take_length]
 refine Qh rfl ?_
 refine aU5 ?_
 exact rT rfl rfl (λw' h'=>⟨(b2,(some ⟨gn,0,none⟩,c4),D),rfl,hD,by have h2:=h';rw[List.drop_length,List.append_nil]at h2;have h3:=HS.own_shut (n:=D.length) (h2.ent (Bs:=[.blk gn 69 (c4*3) (D.flatMap LNd.vals),.star (D.map (QB 27)),.blk b2 166 6 (tbV (j:Int) mo rm (some ⟨gn,0,none⟩) L.length c4)]) aEt) (Qi nv3 D) om hcm;have h4:=HS.row_shut (l:=D) (sub:=QB 27) h3 rfl rfl;have h5:HS w [] [.nodes 27 69 (some ⟨gn,0,none⟩) c4 D,.blk b2 166 6 (tbV (j:Int) mo rm (some ⟨gn,0,none⟩) L.length c4)] w':=h4;rw[hk2];exact h5.ent aEt⟩)
theorem QvX:QQ Tryz.prog 80=true:=by kernel_rfl
theorem Qwx:QQ Tryz.prog 81=true:=by kernel_rfl
theorem c80(w:World)(a:Option Addr)(cap:Nat)(l:List TEnt)(hs:Rw TEnt.vals 2 w [] a l)(hl:l.length<=100000):CE 80 #[.slice a l.length cap] w [] (λg:Option Addr×Nat=>.slice g.1 l.length g.2) (λg=>True) λg=>[.own (.slice g.1 l.length g.2) 27 2 l.length (l.flatMap TEnt.vals)]:=by
 refine eN1 Tryz.func80 Tryz.ntmps80 ?_
 refine aU6 ?_
 refine o_h (Xy rfl Qy) rfl (λb1 _=>aU ?_)
 refine o_h (QO (l.flatMap TEnt.vals) rfl rfl rfl Qy Tryz.underlying67 XD rfl aPk (λw h=>Rw.src ev2 hs h) (Qi ev2 _) (X5 ev1 _) om (by simp only[maxLen];omega)) rfl (λb2 _=>aU2 ?_)
 exact rT rfl rfl (λw' h'=>⟨b2,by simp only[Q3,Nat.zero_add],trivial,by have h2:=h';simp only[Nat.zero_add,List.nil_append]at h2;exact h2.ent aEt⟩)
theorem c81(w:World)(a:Option Addr)(cap:Nat)(l:List Int)(hs:Rw inV 1 w [] a l)(hl:l.length<=100000):CE 81 #[.slice a l.length cap] w [] (λg:Option Addr×Nat=>.slice g.1 l.length g.2) (λg=>True) λg=>[.own (.slice g.1 l.length g.2) 3 1 l.length (l.flatMap inV)]:=by
 refine eN1 Tryz.func81 Tryz.ntmps81 ?_
 refine aU6 ?_
 refine o_h (Xy rfl QM) rfl (λb1 _=>aU ?_)
 refine o_h (QO (l.flatMap inV) rfl rfl rfl QM Tryz.underlying28 YP rfl aPk (λw h=>Rw.src iv1 hs h) (Qi iv1 _) (X5 Qfe _) om (by simp only[maxLen];omega)) rfl (λb2 _=>aU2 ?_)
 exact rT rfl rfl (λw' h'=>⟨b2,by simp only[Q3,Nat.zero_add],trivial,by have h2:=h';simp only[Nat.zero_add,List.nil_append]at h2;exact h2.ent aEt⟩)
theorem c21(w:World)(co mo rm:Int)(a:Option Addr)(cap:Nat)(L:List LNd)(hs:Nt w [] a L)(hl:L.length<=1000)(hsm:Sm 1000 (pln L)):CE 21 #[.agg #[.int .i64 co,.int .i64 mo,.int .i64 rm,.slice a L.length cap]] w [] (λg:(Option Addr×Nat)×List LNd=>.agg #[.int .i64 co,.int .i64 mo,.int .i64 rm,.slice g.1.1 g.2.length g.1.2]) (λg=>pln g.2=pln L) λg=>[.nodes 27 69 g.1.1 g.1.2 g.2]:=by
 refine eN1 Tryz.func21 Tryz.ntmps21 ?_
 refine aU2 ?_
 refine oBx λb1 _=>?_
 refine oAl (λb2 _=>?_) Xn
 refine aU9 ?_
 refine o_p (QF (cs:=[_,_,_,_]) rfl rfl ZQ Xn rfl) rfl (oAl (λb3 _=>?_) Xn)
 refine aU8 ?_
 refine Qo (α:=Nat×(Option Addr×Nat)×List LNd) [4,5,13,14,15,16,17,18,19,20,21,22,23,24,25,26,27,28,29,30,31,32,33,34,35,36,37,38] (λx=>[(4,.int .i64 (x.1:Int))]) (λx=>HS w [] [.own (.slice x.2.1.1 (x.2.2).length x.2.1.2) 69 3 (x.2.2).length ((x.2.2).flatMap LNd.vals),.star ((x.2.2).map (QB 27)),.blk b3 37 4 [.int .i64 co,.int .i64 mo,.int .i64 rm,.slice x.2.1.1 (x.2.2).length x.2.1.2],.blk b2 37 4 [.int .i64 0,.int .i64 0,.int .i64 0,.slice none 0 0],.blk b1 37 4 [.int .i64 co,.int .i64 mo,.int .i64 rm,.slice a L.length cap]]) (λx=>x.1<=L.length/\x.2.2.length=x.1/\pln x.2.2=(pln L).take x.1) (λx=>L.length-x.1) (0,(none,0),[]) ⟨Nat.zero_le _,rfl,rfl⟩ aSx (λw h=>((h.own_nil 69 3).star_nil).ent aEt) (λ⟨k,⟨ga,gc⟩,D⟩hx=>?_)
 dsimp only
 obtain⟨hk1,hk2,hk3⟩:=hx
 simp only[]at hk1 hk2 hk3
 refine aU9 ?_
 refine sCd rfl (λh4=>?_) λh4=>?_
 ·have hkl:k<L.length:=by omega
  have hsk:=hsm k
  rw[Qr hkl]at hsk
  simp only[LNd.pl]at hsk
  refine aU8 ?_
  refine o_p (Qa rfl rfl rfl QH (k) om om (Rw.some hs.1 om)) rfl (o_q (QI _ rfl rfl Xv rfl (Rw.rd hs.1 hkl)) rfl (oAl (λb5 _=>?_) Xc))
  refine aU2 ?_
  refine Qu [12,14] QG ?_
  refine dFa 0 ?_
  refine dLd 1 [[],[]] ?_
  refine dFa 2 ?_
  refine dLd 3 [[11,10],[]] ?_
  refine dFa 4 ?_
  refine dLd 5 [[9,6],[]] ?_
  refine dFa 7 ?_
  refine dLd 8 [[9],[]] ?_
  refine dH 6 rfl (Qav rfl QvX rfl (λw1 h1=>c80 w1 (nth L k).ea (nth L k).ec (nth L k).es ((hs.es hkl).later h1) om)) (λb6 _=>dBa ?_)
  refine dH 9 rfl (Qav rfl Qwx rfl (λw1 h1=>c81 w1 (nth L k).ca (nth L k).cc (nth L k).cs ((hs.cs hkl).later h1) om)) (λb7 _=>dBa ?_)
  refine dV 10 rfl (QF (cs:=[_,_,_]) rfl rfl Qco Xc rfl) (dH 11 rfl (Qg (cs:=[_,_,_]) rfl rfl QH Xc rfl rfl rfl) (λb8 _=>dBa ?_))
  refine dH 12 rfl (QO (LNd.vals (⟨(nth L k).us,b6.1,b6.2,(nth L k).es,b7.1,b7.2,(nth L k).cs⟩:LNd)) rfl rfl rfl QH Tryz.underlying35 Xc rfl aPk (Q7 aPk) rfl (nv1 _) om (by simp only[maxLen];omega)) (λb9 _=>dTu [14] ?_)
  refine dFa 13 ?_
  refine dSt 14 ?_ (hl:=(by simp only[Qk,List.length_set,List.length_cons,List.length_nil,List.length_map];omega))
  refine dTu [] ?_
  refine dNi ?_
  refine aU ?_
  refine Qe (L':=[(0,_),(1,_),(2,_),(3,_),(4,_),(6,_),(7,_),(8,_),(9,_),(10,_),(11,_),(12,_)]) aSx (λ_ h=>h) ?_
  refine aT3 ?_
  refine aU2 ?_
  exact QK (k+1,(b9.1,b9.2),D++[⟨(nth L k).us,b6.1,b6.2,(nth L k).es,b7.1,b7.2,(nth L k).cs⟩]) (by(try simp only[]);omega) ⟨by(try simp only[]);omega,by simp[hk2],Qjm hkl hk3 rfl⟩ aSx (λw h=>by have h2:=HS.sub_app (sub:=QB 27) (l:=D) (x:=(⟨(nth L k).us,b6.1,b6.2,(nth L k).es,b7.1,b7.2,(nth L k).cs⟩:LNd)) (HS.star_close (Bs:=[_,_]) (h.ent (Bs:=[.own (.slice b6.1 (nth L k).es.length b6.2) 27 2 (nth L k).es.length ((nth L k).es.flatMap TEnt.vals),.own (.slice b7.1 (nth L k).cs.length b7.2) 3 1 (nth L k).cs.length ((nth L k).cs.flatMap inV),.star (D.map (QB 27)),.own (.slice b9.1 (D.length+1) b9.2) 69 3 (D.length+1) (D.flatMap LNd.vals++LNd.vals (⟨(nth L k).us,b6.1,b6.2,(nth L k).es,b7.1,b7.2,(nth L k).cs⟩:LNd)),.blk b3 37 4 [.int .i64 co,.int .i64 mo,.int .i64 rm,.slice b9.1 (D.length+1) b9.2],.blk b2 37 4 [.int .i64 0,.int .i64 0,.int .i64 0,.slice none 0 0],.blk b1 37 4 [.int .i64 co,.int .i64 mo,.int .i64 rm,.slice a L.length cap]]) aEt));simp only[List.length_append,List.length_singleton,List.flatMap_append,List.flatMap_singleton];exact h2.ent aEt)
 obtain rfl:k=L.length:=om
 have hD:pln D=pln L:=by rw[hk3,<-Qd L,List.take_length]
 refine Qh rfl ?_
 refine aU5 ?_
 exact Qj (rs:=[.cell 2 37]) rfl (.cell rfl XM aPk rfl (.nil)) (λw' h'=>⟨((ga,gc),D),by simp only[Q3];rw[hk2];rfl,hD,by have h3:=HS.row_shut (a:=ga) (cap:=gc) (l:=D) (sub:=QB 27) (t:=69) (sz:=3) (vals:=LNd.vals) (h'.ent (Bs:=[.own (.slice ga D.length gc) 69 3 D.length (D.flatMap LNd.vals),.star (D.map (QB 27))]) aEt) rfl rfl;exact h3⟩)
theorem Qgr:QQ Tryz.prog 65=true:=by kernel_rfl
theorem c15(w:World)(a b:Option Addr)(c d:Nat)(l m:List Int)(hs:Rw inV 1 w [] a l)(ht:Rw inV 1 w [] b m)(hl:l.length<=100000)(hm:m.length<=100000):CR 15 #[.slice a l.length c,.slice b m.length d] w (.bool (decide (l=m))):=by
 refine eN2 Tryz.func15 Tryz.ntmps15 ?_
 refine Qa5 ?_
 refine sCd rfl (λh1=>?_) λh1=>?_
 ·have hn9:l≠m:=λe=>by have hq:=h1;rw[e]at hq;simp at hq
  refine aU4 ?_
  exact rV (h:=by rw[decide_eq_false hn9];rfl)
 have hlm:l.length=m.length:=by have hq:=h1;omega
 refine aU7 ?_
 refine Qo (α:=Nat) [4,5,11,12,13,14,15,16,17,18,19,20,21,22,23,24,25] (λk=>[(5,.int .i64 (k:Int))]) (λ_=>HS w [] []) (λk=>k<=l.length/\∀j,j<k->nth l j=nth m j) (λk=>l.length-k) 0 ⟨Nat.zero_le _,λj h=>absurd h (Nat.not_lt_zero j)⟩ aSx (λw h=>h.ent aEt) (λk hx=>?_)
 obtain⟨hk1,hk3⟩:=hx
 refine aU8 ?_
 refine sCd rfl (λh2=>?_) λh2=>?_
 ·have hk:k<l.length:=by omega
  have hk2:k<m.length:=om
  refine aU4 ?_
  refine Qu [] QG ?_
  refine dP 0 ?_
  refine dP 1 ?_
  refine dV 2 rfl (Qa rfl rfl rfl QM (k) om om (Rw.some hs om)) (dQ 3 [] rfl (Qc rfl rfl Ye ((hs.rdj 0 om rfl))) (dP 4 ?_))
  refine dP 5 ?_
  refine dV 6 rfl (Qa rfl rfl rfl QM (k) om om (Rw.some ht om)) (dQ 7 [] rfl (Qc rfl rfl Ye ((ht.rdj 0 om rfl))) (dP 8 ?_))
  refine dNi ?_
  refine sCd rfl (λh3=>?_) λh3=>?_
  ·have hn9:l≠m:=λe=>by have hq:=h3;rw[e]at hq;simp at hq
   refine aU4 ?_
   exact rV (h:=by rw[decide_eq_false hn9];rfl)
  have he9:nth l k=nth m k:=by have hq:=h3;exact hq
  refine aT5 ?_
  refine aU2 ?_
  exact sBk (k+1) om ⟨om,λj hj=>(Nat.lt_or_ge j k).elim (hk3 j) (λh9=>by obtain rfl:j=k:=om;exact he9)⟩
 have hl9:l=m:=QbN hlm λj hj=>hk3 j om
 refine Qh rfl ?_
 refine aU4 ?_
 exact rV (h:=by rw[decide_eq_true hl9];rfl)
theorem c179(w:World)(a:Option Addr)(cap:Nat)(l:List TEnt)(i:Nat)(x:TEnt)(hs:Rw TEnt.vals 2 w [] a l)(hl:l.length<=100000)(hi:i<=l.length)(hlc:l.length<=cap):CE 179 #[.slice a l.length cap,.int .i64 (i:Int),.agg #[.string (bs x.key),.string (bs x.val)]] w [] (λg:Option Addr×Nat=>.slice g.1 (QP l i x).length g.2) (λg=>True) λg=>[.own (.slice g.1 (QP l i x).length g.2) 27 2 (QP l i x).length ((QP l i x).flatMap TEnt.vals)]:=by
 refine eN3 Tryz.func179 Tryz.ntmps179 ?_
 refine aU2 ?_
 refine oBx λb1 _=>?_
 refine aU4 ?_
 refine o_h (Xy rfl Qy) rfl (λb2 _=>aU2 ?_)
 refine o_p (QJ _ _ 0 i rfl rfl Qy rfl ⟨_,_,rfl,rfl⟩ om om) rfl (o_h (QO ((l.take i).flatMap TEnt.vals) rfl rfl rfl Qy Tryz.underlying67 XD rfl aPk (λw h=>Rw.src ev2 (QfI (Rw.cut (i:=0) hs hlc) i) h) (by rw[Qi ev2,List.length_take,Nat.min_eq_left hi];first|rfl|omega) (X5 ev1 _) om (by simp only[maxLen];omega)) rfl (λb3 _=>aU3 ?_))
 refine Qu [3,7] QG ?_
 refine dP 0 ?_
 refine dLn 1 [[2],[3,2]] ?_
 refine dP 4 ?_
 refine dP 5 ?_
 refine dV 6 rfl (QJ _ _ i l.length rfl rfl Qy ⟨_,_,rfl,rfl⟩ rfl om om) (dH 2 rfl (Qg (cs:=[_,_]) rfl rfl Qy XD rfl rfl rfl) (λb4 _=>dBa ?_))
 refine dH 3 rfl (QO (TEnt.vals x) rfl rfl rfl Qy Tryz.underlying67 XD rfl aPk (Q7 aPk) rfl (ev1 _) om (by simp only[maxLen];omega)) (λb5 _=>dTu [7] ?_)
 refine dH 7 rfl (QO ((l.drop i).flatMap TEnt.vals) rfl rfl rfl Qy Tryz.underlying67 XD rfl aPk (λw h=>Rw.src ev2 (Rw.cut hs hlc) h) (by rw[Qi ev2,List.length_drop]) (X5 ev1 _) om (by simp only[maxLen];omega)) (λb6 _=>dTu [] ?_)
 refine dP 8 ?_
 refine dNi ?_
 exact rT rfl rfl (λw' h'=>⟨b6,by simp only[Q3];congr 2;rw[Zj hi];omega,trivial,by have h2:=h';rw[show 0+(i-0)+1+(l.length-i)=l.length+1 by omega,List.nil_append]at h2;rw[Zj hi,show(QP l i x).flatMap TEnt.vals=(l.take i).flatMap TEnt.vals++TEnt.vals x++(l.drop i).flatMap TEnt.vals by simp[QP]];exact h2.ent aEt⟩)
theorem c225(w:World)(a:Option Addr)(cap:Nat)(l:List Int)(i:Nat)(x:Int)(hs:Rw inV 1 w [] a l)(hl:l.length<=100000)(hi:i<=l.length)(hlc:l.length<=cap):CE 225 #[.slice a l.length cap,.int .i64 (i:Int),.int .i64 x] w [] (λg:Option Addr×Nat=>.slice g.1 (QP l i x).length g.2) (λg=>True) λg=>[.own (.slice g.1 (QP l i x).length g.2) 3 1 (QP l i x).length ((QP l i x).flatMap inV)]:=by
 refine eN3 Tryz.func225 Tryz.ntmps225 ?_
 refine aU6 ?_
 refine o_h (Xy rfl QM) rfl (λb1 _=>aU2 ?_)
 refine o_p (QJ _ _ 0 i rfl rfl QM rfl ⟨_,_,rfl,rfl⟩ om om) rfl (o_h (QO ((l.take i).flatMap inV) rfl rfl rfl QM Tryz.underlying28 YP rfl aPk (λw h=>Rw.src iv1 (QfI (Rw.cut (i:=0) hs hlc) i) h) (by rw[Qi iv1,List.length_take,Nat.min_eq_left hi];first|rfl|omega) (X5 Qfe _) om (by simp only[maxLen];omega)) rfl (λb2 _=>aU3 ?_))
 refine Qu [3,7] QG ?_
 refine dP 0 ?_
 refine dP 1 ?_
 refine dP 4 ?_
 refine dP 5 ?_
 refine dV 6 rfl (QJ _ _ i l.length rfl rfl QM ⟨_,_,rfl,rfl⟩ rfl om om) (dH 2 rfl (Qg (cs:=[_]) rfl rfl QM YP rfl rfl rfl) (λb3 _=>dBa ?_))
 refine dH 3 rfl (QO (inV x) rfl rfl rfl QM Tryz.underlying28 YP rfl aPk (Q7 aPk) rfl (Qfe _) om (by simp only[maxLen];omega)) (λb4 _=>dTu [7] ?_)
 refine dH 7 rfl (QO ((l.drop i).flatMap inV) rfl rfl rfl QM Tryz.underlying28 YP rfl aPk (λw h=>Rw.src iv1 (Rw.cut hs hlc) h) (by rw[Qi iv1,List.length_drop]) (X5 Qfe _) om (by simp only[maxLen];omega)) (λb5 _=>dTu [] ?_)
 refine dP 8 ?_
 refine dNi ?_
 exact rT rfl rfl (λw' h'=>⟨b5,by simp only[Q3];congr 2;rw[Zj hi];omega,trivial,by have h2:=h';rw[show 0+(i-0)+1+(l.length-i)=l.length+1 by omega,List.nil_append]at h2;rw[Zj hi,show(QP l i x).flatMap inV=(l.take i).flatMap inV++inV x++(l.drop i).flatMap inV by simp[QP]];exact h2.ent aEt⟩)
theorem c73(w:World)(j:Nat)(mo rm:Int)(a:Option Addr)(cap:Nat)(L:List LNd)(i:Nat)(key:List UInt8)(hj:j<=3)(hi:i<L.length)(hs:Nt w [] a L)(hl:L.length<=1000)(hel:(nth L i).es.length<=1000)(hK:∀y∈(nth L i).es,QL (j:Int) y.key=true/\y.key.length<=1000000)(hk:QL (j:Int) key=true)(hkl:key.length<=1000000):CR 73 #[.agg #[.int .i64 (j:Int),.int .i64 mo,.int .i64 rm,.slice a L.length cap],.int .i64 (i:Int),.string (bs key)] w (.tuple #[.int .i64 ((plc (j:Int) (nth L i).es key):Int),.bool (fnd (j:Int) (nth L i).es key)]):=by
 refine eN3 Tryz.func73 Tryz.ntmps73 ?_
 refine aU2 ?_
 refine oBx λb1 _=>?_
 refine aU8 ?_
 refine o_p (Qa rfl rfl rfl QH (i) om om (Rw.some hs.1 om)) rfl (aU ?_)
 refine o_q (Qc rfl rfl YE ((hs.1.rdj 1 hi rfl))) rfl (aU8 ?_)
 refine Qo (α:=Nat) [9,16,17,18,19,20,21,22,23,24,25,26,27,28,29,30,31,32,33] (λk=>[(9,.int .i64 (k:Int))]) (λ_=>HS w [] [.blk b1 37 4 [.int .i64 (j:Int),.int .i64 mo,.int .i64 rm,.slice a L.length cap]]) (λk=>k<=(nth L i).es.length/\∀q,q<k->QN (j:Int) (nth (nth L i).es q).key key<0) (λk=>(nth L i).es.length-k) 0 ⟨Nat.zero_le _,λj h=>absurd h (Nat.not_lt_zero j)⟩ aSx (λw h=>h.ent aEt) (λk hx=>?_)
 obtain⟨hk1,hk3⟩:=hx
 refine aU2 ?_
 refine XP (α:=Bool) [16,17,18,19,20,21,22,23,24,25,26,27,28,29,30,31] (λx=>[(31,.bool x)]) (λ_=>HS w [] [.blk b1 37 4 [.int .i64 (j:Int),.int .i64 mo,.int .i64 rm,.slice a L.length cap]]) (λx=>x=true ↔ (k<(nth L i).es.length/\QN (j:Int) (nth (nth L i).es k).key key<0)) ?_ ?_
 ·skip
  refine Qu [] QG ?_
  refine dP 0 ?_
  refine dP 1 ?_
  refine dV 2 rfl (QX rfl rfl Tryz.underlying67) (dP 3 ?_)
  refine dP 4 ?_
  apply Xu 20
  ·exact rfl
  ·intro hg2
   have hs3:=hg2;try simp only[dT]at hs3
   refine dFo 5 20 hg2 ?_
   refine dQo 6 20 [] hg2 rfl rfl rfl (Yh rfl rfl Ye aPk rfl) ?_
   refine dPo 7 20 hg2 ?_
   refine dPo 8 20 hg2 ?_
   refine dVo 9 20 hg2 rfl rfl rfl (Qa rfl rfl rfl Qy (k) om om (Rw.some (hs.es hi) om)) ?_
   refine dFo 10 20 hg2 ?_
   refine dQo 11 20 [] hg2 rfl rfl rfl (Qc rfl rfl Zd (((hs.es hi).rdj 0 om rfl))) ?_
   refine dPo 12 20 hg2 ?_
   refine dQo 13 20 [] hg2 rfl rfl rfl (QA rfl Qgr rfl (λw1 h1=>c65 w1 j (nth (nth L i).es k).key key hj (hK _ (Qz om)).1 hk (hK _ (Qz om)).2 hkl)) ?_
   refine dPo 14 20 hg2 ?_
   refine dV 15 rfl (Xq rfl rfl hg2 rfl) (dNi ?_)
   exact Qp (decide (QN (j:Int) (nth (nth L i).es k).key key<0)) (by rw[decide_eq_true_eq];omega) aSx (λw h=>h.ent aEt)
  intro hg4
  have hs5:=hg4;try simp only[dN]at hs5
  refine dOf 5 20 hg4 ?_
  refine dOf 6 20 hg4 ?_
  refine dOf 7 20 hg4 ?_
  refine dOf 8 20 hg4 ?_
  refine dOf 9 20 hg4 ?_
  refine dOf 10 20 hg4 ?_
  refine dOf 11 20 hg4 ?_
  refine dOf 12 20 hg4 ?_
  refine dOf 13 20 hg4 ?_
  refine dOf 14 20 hg4 ?_
  refine dV 15 rfl (Xe rfl rfl hg4 rfl) (dNi ?_)
  exact Qp false (by constructor<;>intro h9<;>first|(cases h9;done)|omega) aSx (λw h=>h.ent aEt)
 intro x hx
 refine sCd rfl (λh6=>?_) λh6=>?_
 ·obtain⟨hk5,hk6⟩:=hx.1 (by assumption)
  refine aT5 ?_
  refine aU3 ?_
  exact sBk (k+1) om ⟨om,λq hq=>(Nat.lt_or_ge q k).elim (hk3 q) (λh9=>by obtain rfl:q=k:=om;exact hk6)⟩
 have hno:¬(k<(nth L i).es.length/\QN (j:Int) (nth (nth L i).es k).key key<0):=λh9=>by have h8:=hx.2 h9;simp_all
 have hpk:(plc (j:Int) (nth L i).es key)=k:=Qvo hk1 hk3 hno
 refine Qh rfl ?_
 refine aU ?_
 refine Qu [] QG ?_
 refine dP 0 ?_
 refine dP 1 ?_
 refine dP 2 ?_
 refine dV 3 rfl (QX rfl rfl Tryz.underlying67) (dP 4 ?_)
 refine dP 5 ?_
 apply Xu 39
 ·exact rfl
 ·intro hg7
  have hs8:=hg7;try simp only[dT]at hs8
  refine dFo 6 39 hg7 ?_
  refine dQo 7 39 [] hg7 rfl rfl rfl (Yh rfl rfl Ye aPk rfl) ?_
  refine dPo 8 39 hg7 ?_
  refine dPo 9 39 hg7 ?_
  refine dVo 10 39 hg7 rfl rfl rfl (Qa rfl rfl rfl Qy (k) om om (Rw.some (hs.es hi) om)) ?_
  refine dFo 11 39 hg7 ?_
  refine dQo 12 39 [] hg7 rfl rfl rfl (Qc rfl rfl Zd (((hs.es hi).rdj 0 om rfl))) ?_
  refine dPo 13 39 hg7 ?_
  refine dQo 14 39 [] hg7 rfl rfl rfl (QA rfl Qgr rfl (λw1 h1=>c65 w1 j (nth (nth L i).es k).key key hj (hK _ (Qz om)).1 hk (hK _ (Qz om)).2 hkl)) ?_
  refine dPo 15 39 hg7 ?_
  refine dV 16 rfl (Xq rfl rfl hg7 rfl) (dP 17 ?_)
  refine dP 18 ?_
  refine dNi ?_
  exact Qj (rs:=[.tmp 6,.tmp 7]) rfl (.tmp rfl (.tmp rfl (.nil))) (λw' h'=>⟨by simp only[Q3,fnd];rw[hpk];first|(rw[decide_eq_true (show k<(nth L i).es.length by omega)];rfl)|(rw[decide_eq_false (show¬k<(nth L i).es.length by omega)];rfl),h'.below⟩)
 intro hg9
 have hs10:=hg9;try simp only[dN]at hs10
 refine dOf 6 39 hg9 ?_
 refine dOf 7 39 hg9 ?_
 refine dOf 8 39 hg9 ?_
 refine dOf 9 39 hg9 ?_
 refine dOf 10 39 hg9 ?_
 refine dOf 11 39 hg9 ?_
 refine dOf 12 39 hg9 ?_
 refine dOf 13 39 hg9 ?_
 refine dOf 14 39 hg9 ?_
 refine dOf 15 39 hg9 ?_
 refine dV 16 rfl (Xe rfl rfl hg9 rfl) (dP 17 ?_)
 refine dP 18 ?_
 refine dNi ?_
 exact Qj (rs:=[.tmp 6,.tmp 7]) rfl (.tmp rfl (.tmp rfl (.nil))) (λw' h'=>⟨by simp only[Q3,fnd];rw[hpk];first|(rw[decide_eq_true (show k<(nth L i).es.length by omega)];rfl)|(rw[decide_eq_false (show¬k<(nth L i).es.length by omega)];rfl),h'.below⟩)
instance:TFn Tryz.prog 73:=⟨by kernel_rfl⟩
theorem c18(w:World)(j:Nat)(mo rm:Int)(a:Option Addr)(cap:Nat)(L:List LNd)(key:List UInt8)(hj:j<=3)(h0:0<L.length)(hB:Bd (pln L))(hT:TOk (j:Int) (pln L))(hs:Nt w [] a L)(hk:QL (j:Int) key=true)(hkl:key.length<=1000000):CE 18 #[.agg #[.int .i64 (j:Int),.int .i64 mo,.int .i64 rm,.slice a L.length cap],.string (bs key)] w [] (λg:Option Addr×Nat=>.tuple #[.slice g.1 (Qt (j:Int) (pln L) key).1.length g.2,.bool (Qt (j:Int) (pln L) key).2.2]) (λg=>True) λg=>[.own (.slice g.1 ((Qt (j:Int) (pln L) key).1).length g.2) 3 1 ((Qt (j:Int) (pln L) key).1).length (((Qt (j:Int) (pln L) key).1).map λi:Nat=>Value.int .i64 (i:Int))]:=by
 have hK:∀i,i<L.length->∀y∈(nth L i).es,QL (j:Int) y.key=true/\y.key.length<=1000000:=λi hi y hy=>QcR hT i (by rw[Qd];exact hi) y (by rw[Qr hi];exact hy)
 refine eN2 Tryz.func18 Tryz.ntmps18 ?_
 refine aU2 ?_
 refine oBx λb1 _=>?_
 refine aU9 ?_
 refine o_h (Qg (cs:=[_]) rfl rfl QM YP rfl rfl rfl) rfl (λb2 _=>aU3 ?_)
 refine Qo (α:=(Option Addr×Nat)×List Nat×Nat×Nat) [4,5,6,7,8,9,11,12,13,14,15,16,17,18,19,20,21,22,23,24,25,26,27,28,29,30,31,32,33,34,35,36,37,38,39,40,41,42,43] (λx=>[(7,.slice x.1.1 (x.2.1++[x.2.2.1]).length x.1.2),(6,.int .i64 (x.2.2.1:Int))]) (λx=>HS w [] [.own (.slice x.1.1 (x.2.1++[x.2.2.1]).length x.1.2) 3 1 (x.2.1++[x.2.2.1]).length ((x.2.1++[x.2.2.1]).map λi:Nat=>Value.int .i64 (i:Int)),.blk b1 37 4 [.int .i64 (j:Int),.int .i64 mo,.int .i64 rm,.slice a L.length cap]]) (λx=>x.2.2.1<L.length/\x.2.1.length+x.2.2.2=L.length/\Gx.Way (pln L) (x.2.2.1::x.2.1.reverse)/\(Qt (j:Int) (pln L) key)=(x.2.1++(Qdk (j:Int) (pln L) key x.2.2.2 x.2.2.1).1,(Qdk (j:Int) (pln L) key x.2.2.2 x.2.2.1).2)) (λx=>x.2.2.2) ((some ⟨b2,0,none⟩,1),[],0,L.length) ⟨h0,by simp,rfl,by rw[Qt,Qd];rfl⟩ aSx (λw h=>(HS.own_shut (t:=3) (sz:=1) (n:=1) (cap:=1) (h.pick (A:=.blk b2 3 (1*1) [.int .i64 0]) aPk) rfl (by decide) (by decide)).ent aEt) (λ⟨⟨ga,gc⟩,P,i,f⟩hx=>?_)
 dsimp only
 obtain⟨hi,hlen,hway,hpath⟩:=hx
 simp only[]at hi hlen hway hpath
 have hwl:=YK hT (by rw[Qd];exact h0) hway
 simp only[List.length_cons,List.length_reverse,Qd]at hwl
 obtain⟨f,rfl⟩:∃f9,f=f9+1:=⟨f-1,om⟩
 have hni:=Qr hi
 have hle:=hB.len
 rw[Qd]at hle
 have hes9:=hB.es i (by rw[Qd];exact hi)
 have hcs9:=hB.cs i (by rw[Qd];exact hi)
 rw[hni]at hes9 hcs9
 have hPl:(P++[i]).length=P.length+1:=by simp
 refine aU6 ?_
 refine oCq rfl (λw1 h1=>c73 w1 j mo rm a cap L i key hj hi (hs.later h1.nil) om hes9 (hK i hi) hk hkl) (Zw ?_)
 refine oOr 9 19 28 rfl
  (λhg3 _=>by
   refine aU7 ?_
   refine o_p (Qa rfl rfl rfl QH (i) om om (Rw.some hs.1 om)) rfl (aU3 ?_)
   refine o_q (Qc rfl rfl Ya ((hs.1.rdj 2 hi rfl))) rfl (aU4 ?_)
   exact oJf 9 28)
  (λhg5 _=>by
   refine aU8 ?_
   exact oJt 9 28) ?_
 refine aU ?_
 refine sCd rfl (λh7=>?_) λh7=>?_
 ·have hst:fnd (j:Int) (nth (pln L) i).es key=true\/(nth (pln L) i).cs.length=0:=by rw[hni];have hq:=h7;first|exact hq|(simp at hq;simpa[LNd.pl]using hq)
  refine aU7 ?_
  exact Qj (rs:=[.tmp 4,.tmp 5]) rfl (.tmp rfl (.tmp rfl (.nil))) (λw' h'=>⟨(ga,gc),by rw[hpath,QcW hst,hni];rfl,trivial,by rw[hpath,QcW hst];exact h'.ent aEt⟩)
 have hst:¬(fnd (j:Int) (nth (pln L) i).es key=true\/(nth (pln L) i).cs.length=0):=by rw[hni];have hq:=h7;first|exact hq|(simp at hq;simpa[LNd.pl]using hq)
 have hcl:(nth L i).cs.length=(nth L i).es.length+1:=by rcases hT.shape i (by rw[Qd];exact hi)with h9|h9;exact absurd (.inr h9) hst;rw[hni]at h9;exact h9
 have hple:=Qat (j:Int) key (nth L i).es
 have hpk:plc (j:Int) (nth L i).es key<(nth L i).cs.length:=om
 have hkid:=Qdx hT (by rw[Qd];exact hi) (i:=i) (k:=plc (j:Int) (nth L i).es key) (by rw[hni];exact hpk)
 rw[hni,Qd]at hkid
 simp only[LNd.pl]at hkid
 have hway2:=QbT hway (by rw[Qd];exact hi) (k:=plc (j:Int) (nth L i).es key) (by rw[hni];exact hpk) (by rw[hni];simp only[LNd.pl];omega)
 rw[hni]at hway2
 simp only[LNd.pl]at hway2
 refine aU6 ?_
 refine o_p (Qa rfl rfl rfl QH (i) om om (Rw.some hs.1 om)) rfl (aU ?_)
 refine o_q (Qc rfl rfl Ya ((hs.1.rdj 2 hi rfl))) rfl (aU ?_)
 refine o_p (Qa rfl rfl rfl QM (plc (j:Int) (nth L i).es key) om om (Rw.some (hs.cs hi) om)) rfl (o_q (Qc rfl rfl Ye (((hs.cs hi).rdj 0 (i:=plc (j:Int) (nth L i).es key) hpk rfl))) rfl (aU5 ?_))
 refine o_h (Qg (cs:=[_]) rfl rfl QM YP rfl rfl rfl) rfl (λb8 _=>o_h (QO [_] rfl rfl rfl QM Tryz.underlying28 YP rfl aPk (Q7 aPk) rfl (by intro u hu;simp only[List.mem_cons,List.mem_nil_iff,or_false]at hu;subst hu;rfl) om (by simp only[maxLen];omega)) rfl (λb9 _=>aU3 ?_))
 exact QK ((b9.1,b9.2),P++[i],((nth L i).cs.getD (plc (j:Int) (nth L i).es key) 0).toNat,f) (by(try simp only[]);omega) ⟨by simp only[];omega,by simp only[List.length_append,List.length_singleton];omega,by simp only[List.reverse_append,List.reverse_singleton,List.singleton_append];exact hway2,by simp only[];rw[hpath,Qhj hst];simp[hni,LNd.pl]⟩ (by simp only[List.length_append (bs:=[((nth L i).cs.getD (plc (j:Int) (nth L i).es key) 0).toNat]),List.length_singleton];rw[Int.toNat_of_nonneg om];exact aSx) (λw h=>by have h2:=h;simp only[List.length_append (bs:=[((nth L i).cs.getD (plc (j:Int) (nth L i).es key) 0).toNat]),List.length_singleton,List.map_append (l₂:=[((nth L i).cs.getD (plc (j:Int) (nth L i).es key) 0).toNat]),List.map_cons,List.map_nil];rw[Int.toNat_of_nonneg om];exact h2.ent aEt)
theorem c224(w:World)(j:Nat)(mo rm:Int)(a:Option Addr)(cap:Nat)(L:List LNd)(p:Nat)(c:Int)(hp:p<L.length)(hs:Nt w [] a L)(hl:L.length<=1000)(hcl:(nth L p).cs.length<=1000):CR 224 #[.agg #[.int .i64 (j:Int),.int .i64 mo,.int .i64 rm,.slice a L.length cap],.int .i64 (p:Int),.int .i64 c] w (.int .i64 (ixR (nth L p).cs c:Int)):=by
 refine eN3 Tryz.func224 Tryz.ntmps224 ?_
 refine aU2 ?_
 refine oBx λb1 _=>?_
 refine aU8 ?_
 refine Qo (α:=Nat) [6,7,8,9,10,11,12,13,14,15,16,17,18,19,20,21,22,23,24,25,26,27,28,29,30] (λk=>[(7,.int .i64 (k:Int))]) (λ_=>HS w [] [.blk b1 37 4 [.int .i64 (j:Int),.int .i64 mo,.int .i64 rm,.slice a L.length cap]]) (λk=>k<=(nth L p).cs.length/\∀q,q<k->(ZB (nth L p).cs c).getD q false=false) (λk=>(nth L p).cs.length-k) 0 ⟨Nat.zero_le _,λj h=>absurd h (Nat.not_lt_zero j)⟩ aSx (λw h=>h.ent aEt) (λk hx=>?_)
 obtain⟨hk1,hk3⟩:=hx
 refine aU7 ?_
 refine o_p (Qa rfl rfl rfl QH (p) om om (Rw.some hs.1 om)) rfl (aU ?_)
 refine o_q (Qc rfl rfl Ya ((hs.1.rdj 2 hp rfl))) rfl (aU3 ?_)
 refine sCd rfl (λh2=>?_) λh2=>?_
 ·have hk:k<(nth L p).cs.length:=by omega
  refine aU8 ?_
  refine o_p (Qa rfl rfl rfl QH (p) om om (Rw.some hs.1 om)) rfl (aU ?_)
  refine o_q (Qc rfl rfl Ya ((hs.1.rdj 2 hp rfl))) rfl (aU ?_)
  refine o_p (Qa rfl rfl rfl QM (k) om om (Rw.some (hs.cs hp) om)) rfl (o_q (Qc rfl rfl Ye (((hs.cs hp).rdj 0 om rfl))) rfl (aU3 ?_))
  refine sCd rfl (λh3=>?_) λh3=>?_
  ·have hq9:c=(nth L p).cs.getD k 0:=(h3).symm
   have hix:=QaA (l:=ZB (nth L p).cs c) (k:=k) (by rw[YS];omega) hk3 (λh9=>by rw[Qcw hk];exact decide_eq_true hq9)
   refine aU5 ?_
   exact rV (h:=by simp only[Q3,ixR];rw[hix,if_pos hk])
  have hq9:¬c=(nth L p).cs.getD k 0:=λe=>h3 e.symm
  refine aT5 ?_
  refine aU2 ?_
  exact sBk (k+1) om ⟨om,λq hq=>(Nat.lt_or_ge q k).elim (hk3 q) (λh9=>by obtain rfl:q=k:=om;rw[Qcw hk];exact decide_eq_false hq9)⟩
 obtain rfl:k=(nth L p).cs.length:=om
 have hix:=QaA (l:=ZB (nth L p).cs c) (k:=(nth L p).cs.length) (by rw[YS];omega) hk3 (λh9=>absurd h9 (by rw[YS];omega))
 refine Qh rfl ?_
 refine aU4 ?_
 exact rV (h:=by simp only[Q3,ixR];rw[hix,if_neg (Nat.lt_irrefl _)];rfl)
theorem c181(w:World)(bt:Nat)(j:Nat)(mo rm:Int)(gn cap:Nat)(L:List LNd)(hw:HS w (fps [.blk bt 37 4 [.int .i64 (j:Int),.int .i64 mo,.int .i64 rm,.slice (some ⟨gn,0,none⟩) (L).length cap],.blk gn 69 (cap*3) ((L).flatMap LNd.vals),.star ((L).map (QB 27))]) [.blk bt 37 4 [.int .i64 (j:Int),.int .i64 mo,.int .i64 rm,.slice (some ⟨gn,0,none⟩) (L).length cap],.blk gn 69 (cap*3) ((L).flatMap LNd.vals),.star ((L).map (QB 27))] w)(hnc:L.length<=cap)(hcm:cap<=maxLen)(h0:0<L.length)(hl:L.length<=1000):CE 181 #[.pointer (some ⟨bt,0,none⟩)] w (fps [.blk bt 37 4 [.int .i64 (j:Int),.int .i64 mo,.int .i64 rm,.slice (some ⟨gn,0,none⟩) (L).length cap],.blk gn 69 (cap*3) ((L).flatMap LNd.vals),.star ((L).map (QB 27))]) (λg:(Nat×Nat)×List LNd=>.int .i64 ((Xi (pln L)).1:Int)) (λg=>(pln g.2=(Xi (pln L)).2/\g.2.length<=g.1.2/\g.1.2<=maxLen)) λg=>[.blk bt 37 4 [.int .i64 (j:Int),.int .i64 mo,.int .i64 rm,.slice (some ⟨g.1.1,0,none⟩) (g.2).length g.1.2],.blk g.1.1 69 (g.1.2*3) ((g.2).flatMap LNd.vals),.star ((g.2).map (QB 27))]:=by
 have hnl:(pln L).length=L.length:=Qd L
 refine eW1 Tryz.func181 Tryz.ntmps181 hw ?_
 refine Zo ?_
 refine Qo (α:=Nat×Nat) [2,3,4,5,6,7,8,9,10,11,12,13,14,15,16,17,18,19,20,21,22,23,24,25,26,27,28,29] (λx=>[(3,.int .i64 (x.1:Int))]) (λ_=>HS w (fps [.blk bt 37 4 [.int .i64 (j:Int),.int .i64 mo,.int .i64 rm,.slice (some ⟨gn,0,none⟩) (L).length cap],.blk gn 69 (cap*3) ((L).flatMap LNd.vals),.star ((L).map (QB 27))]) [.blk bt 37 4 [.int .i64 (j:Int),.int .i64 mo,.int .i64 rm,.slice (some ⟨gn,0,none⟩) (L).length cap],.blk gn 69 (cap*3) ((L).flatMap LNd.vals),.star ((L).map (QB 27))]) (λx=>(1<=x.1/\x.1<=L.length)/\x.1+x.2=L.length+1/\Qcd (pln L) x.2 x.1=(QdH (pln L))) (λx=>x.2) (1,L.length) ⟨⟨Nat.le_refl _,h0⟩,by simp only[];omega,by rw[QdH,hnl]⟩ aSx (λw h=>h.ent aEt) (λ⟨i,f⟩hx=>?_)
 dsimp only
 obtain⟨⟨hi1,hi2⟩,hf1,hf2⟩:=hx
 simp only[]at hi1 hi2 hf1 hf2
 obtain⟨f,rfl⟩:∃f9,f=f9+1:=⟨f-1,om⟩
 rw[Qcd]at hf2
 refine Zw ?_
 refine sCd rfl (λh1=>?_) λh1=>?_
 ·have hil:i<L.length:=by omega
  rw[if_pos (by rw[hnl];exact hil),Qr hil]at hf2
  simp only[LNd.pl]at hf2
  refine Zo ?_
  refine o_p (Qa rfl rfl rfl QH (i) om om rfl) rfl (Qf (show _=Value.pointer (some ⟨gn,i*3,none⟩)from by rw[Nat.zero_add]) (aU ?_))
  refine o_q (Qx rfl rfl Qdm (λw h=>HS.nd_cell (i:=i) om h aPk 0 rfl (by decide))) rfl (aU2 ?_)
  refine sCd rfl (λh2=>?_) λh2=>?_
  ·have hus:¬(nth L i).us=true:=by have hq:=h2;simp[hq]
   have hf3:i=(QdH (pln L)):=by rw[<-hf2];exact(if_neg hus).symm
   have hz:(QdH (pln L))<(pln L).length:=by rw[<-hf3,hnl];exact hil
   refine aU7 ?_
   refine o_p (QF (cs:=[_,_,_]) rfl rfl Qco Xc rfl) rfl (o_p (Qa rfl rfl rfl QH (i) om om rfl) rfl (Qf (show _=Value.pointer (some ⟨gn,i*3,none⟩)from by rw[Nat.zero_add]) (Qah (Q8 rfl rfl rfl Xv rfl aPt (by rw[Qi nv3];show _+3<=_;omega) rfl) (λ_ _=>aU6 ?_))))
   exact rT rfl rfl (λw' h'=>by obtain⟨L9,hS9,hC⟩:=HS.node_fre (i:=i) (gn:=gn) (cap:=cap) hil h' aPk aPk;exact⟨((gn,cap),L9),by rw[Xi,if_pos hz,<-hf3];rfl,⟨by rw[hS9.pl,Xi,if_pos hz,<-hf3];rfl,by simp only[];rw[hS9.len];exact hnc,hcm⟩,by simp only[];rw[hS9.len];exact hC.ent aEt⟩)
  have hus:(nth L i).us=true:=by have hq:=h2;simpa using hq
  have hf4:Qcd (pln L) f (i+1)=(QdH (pln L)):=by rw[<-hf2];exact(if_pos hus).symm
  refine aT5 ?_
  refine aU2 ?_
  exact sBk (i+1,f) (by(try simp only[]);omega) ⟨⟨by(try simp only[]);omega,by(try simp only[]);omega⟩,by(try simp only[]);omega,hf4⟩
 obtain rfl:i=L.length:=om
 rw[if_neg (by rw[hnl];omega)]at hf2
 have hz:¬(QdH (pln L))<(pln L).length:=by rw[<-hf2,hnl];omega
 refine YL (λw h=>(HS.own_shut (n:=L.length) (h.ent (Bs:=[.blk gn 69 (cap*3) (L.flatMap LNd.vals),.star (L.map (QB 27)),.blk bt 37 4 [.int .i64 (j:Int),.int .i64 mo,.int .i64 rm,.slice (some ⟨gn,0,none⟩) L.length cap]]) aEt) (Qi nv3 L) hnc hcm)) (Qh rfl ?_)
 refine aU7 ?_
 refine o_p (QF (cs:=[_,_,_]) rfl rfl Qco Xc rfl) rfl (o_h (Qg (cs:=[_,_,_]) rfl rfl QH Xc rfl rfl rfl) rfl (λb3 _=>?_))
 refine o_h (QO [_,_,_] rfl rfl rfl QH Tryz.underlying35 Xc rfl aPk (Q7 aPk) rfl (by intro u hu;simp only[List.mem_cons,List.mem_nil_iff,or_false]at hu;rcases hu with rfl|rfl|rfl<;>rfl) om (by simp only[maxLen];omega)) rfl (λb4 _=>X4 (λw h=>Qf4 (n:=L.length+1) om h aPk) (λhgn=>?_))
 obtain⟨⟨ga,gc⟩,hga⟩:∃q:Option Addr×Nat,b4=q:=⟨_,rfl⟩
 subst hga
 obtain⟨g9,e9,hn9,hm9⟩:=hgn
 simp only[]at e9 hn9 hm9
 subst e9
 refine QZ (λw h=>HS.own_at h aPk) (aU2 ?_)
 refine Qah (Q8 rfl rfl rfl Yz rfl aPt (by show 4<=4;omega) rfl) (λ_ _=>aT9 ?_)
 refine aU2 ?_
 exact rT rfl rfl (λw' h'=>⟨((g9,gc),L++[(LNd.fre:LNd)]),by rw[Xi,if_neg hz,hnl];simp only[Q3];congr 2;omega,⟨by rw[Xi,if_neg hz,QbI];rfl,by simp only[List.length_append,List.length_singleton];exact hn9,hm9⟩,by have h2:=HS.sub_app (sub:=QB 27) (l:=L) (x:=(LNd.fre:LNd)) (HS.star_close (Bs:=[_,_]) (((h'.ent (Bs:=[.star (L.map (QB 27)),.blk bt 37 4 [.int .i64 (j:Int),.int .i64 mo,.int .i64 rm,.slice (some ⟨g9,0,none⟩) (L.length+1) gc],.blk g9 69 (gc*3) (L.flatMap LNd.vals++[.bool true,.slice none 0 0,.slice none 0 0])]) aEt).own_nil 3 1).own_nil 27 2));have e8:(L++[(LNd.fre:LNd)]).flatMap LNd.vals=L.flatMap LNd.vals++[.bool true,.slice none 0 0,.slice none 0 0]:=(by rw[List.flatMap_append];rfl);have e7:(L++[(LNd.fre:LNd)]).length=L.length+1:=(by simp);dsimp only;rw[e8,e7];exact h2.ent aEt⟩)
theorem QuU:Qvg Tryz.prog 27=some [1,1]:=by kernel_rfl
instance:TFn Tryz.prog 15:=⟨by kernel_rfl⟩
end Go.Proofs
namespace Gx
open Go Go.RowKit
def Xr(n:Nat)(S:List Int):List Value:=(List.range n).map λk=>Value.bool (decide (((k:Nat):Int)∈S))
theorem QbC(n:Nat)(S:List Int):(Xr n S).length=n:=by simp[Xr]
theorem Qbi{n k:Nat}{S:List Int}(h:k<n):(Xr n S)[k]?=some (.bool (decide (((k:Nat):Int)∈S))):=by
 unfold Xr;rw[List.getElem?_map,List.getElem?_range h];rfl
theorem Qkf{n k:Nat}{S:List Int}(h:k<n):Qq (Xr n S) k [.bool true]=Xr n (((k:Nat):Int)::S):=by
 apply List.ext_getElem?;intro i;show((Xr n S).set k (.bool true))[i]?=_;rw[List.getElem?_set]
 by_cases hi:i<n
 ·rw[Qbi hi]
  by_cases e:k=i
  ·subst e;rw[if_pos rfl,if_pos (by rw[QbC];exact h),Qbi h,decide_eq_true (List.mem_cons_self ..)]
  ·rw[if_neg e,Qbi hi];congr 2;have hne:((i:Nat):Int)≠((k:Nat):Int):=by omega
   simp[List.mem_cons,hne]
 ·rw[if_neg om,List.getElem?_eq_none (by rw[QbC];omega),List.getElem?_eq_none (by rw[QbC];omega)]
theorem QqN{n:Nat}{c:Int}{S:List Int}(h:c∈S):Xr n (c::S)=Xr n S:=by
 unfold Xr;apply List.map_congr_left;intro k _;congr 1
 by_cases e:((k:Nat):Int)∈S
 ·rw[decide_eq_true e,decide_eq_true (List.mem_cons_of_mem _ e)]
 ·rw[decide_eq_false e,decide_eq_false (λh2=>by
   rcases List.mem_cons.1 h2 with h3|h3
   ·exact e (h3▸h)
   ·exact e h3)]
theorem QmD{t:Tre}{i:Nat}{S:List Int}(h:¬(nth t.ns i).us=true):X7 t i S=if(0<i/\i+1<t.ns.length)/\(nth t.ns i).es.length+(nth t.ns i).cs.length=0 then(0,S)else(3,S):=by
 unfold X7;simp only[];rw[if_neg h]
section
variable{t:Tre}{i:Nat}{S:List Int}{n:Nd}
theorem QsC(hn:nth t.ns i=n)(hu:n.us=true)(h:¬(n.es.length:Int)<=Yr t.mo t.rm i):X7 t i S=(16,S):=by
 subst hn;unfold X7;simp only[];rw[if_pos hu,if_neg h]
theorem QsK(hn:nth t.ns i=n)(hu:n.us=true)(h:(n.es.length:Int)<=Yr t.mo t.rm i)(h2:¬(n.cs.length=0\/n.cs.length=n.es.length+1)):X7 t i S=(10,S):=by
 subst hn;unfold X7;simp only[];rw[if_pos hu,if_pos h,if_neg h2]
theorem QrF(hn:nth t.ns i=n)(hu:n.us=true)(h:(n.es.length:Int)<=Yr t.mo t.rm i)(h2:n.cs.length=0\/n.cs.length=n.es.length+1)(h3:¬ZH t.co n.es=0):X7 t i S=(ZH t.co n.es,S):=by
 subst hn;unfold X7;simp only[];rw[if_pos hu,if_pos h,if_pos h2,if_neg h3]
theorem QmM(hn:nth t.ns i=n)(hu:n.us=true)(h:(n.es.length:Int)<=Yr t.mo t.rm i)(h2:n.cs.length=0\/n.cs.length=n.es.length+1)(h3:ZH t.co n.es=0)(h4:¬(Yg t.ns n.cs S).1=0):X7 t i S=Yg t.ns n.cs S:=by
 subst hn;unfold X7;simp only[];rw[if_pos hu,if_pos h,if_pos h2,if_pos h3,if_neg h4]
theorem Qnn(hn:nth t.ns i=n)(hu:n.us=true)(h:(n.es.length:Int)<=Yr t.mo t.rm i)(h2:n.cs.length=0\/n.cs.length=n.es.length+1)(h3:ZH t.co n.es=0)(h4:(Yg t.ns n.cs S).1=0):X7 t i S=(QaN t.co n.es,(Yg t.ns n.cs S).2):=by
 subst hn;unfold X7;simp only[];rw[if_pos hu,if_pos h,if_pos h2,if_pos h3,if_pos h4]
end
theorem QjH{es:List Int}{k:Nat}(hk:k<es.length)(h:∀j,j<k->es.getD j 0=0)(h2:es.getD k 0≠0):Y9 es 0=((k:Int),es.getD k 0):=by
 have key:∀i,i<=k->Y9 es 0=Y9 (es.drop i) i:=by
  intro i
  induction i with
  | zero=>intro _;rfl
  | succ i ih=>
   intro hi;rw[ih om,Qaq om,if_pos (h i om)]
 rw[key k (Nat.le_refl _),Qaq hk,if_neg h2]
theorem QhI{es:List Int}(h:∀j,j<es.length->es.getD j 0=0):Y9 es 0=(0,0):=by
 have key:∀i,i<=es.length->Y9 es 0=Y9 (es.drop i) i:=by
  intro i
  induction i with
  | zero=>intro _;rfl
  | succ i ih=>
   intro hi;rw[ih om,Qaq om,if_pos (h i om)]
 rw[key _ (Nat.le_refl _),List.drop_length];rfl
theorem QpU{co:Int}{es:List TEnt}{k:Nat}(hk:k<es.length)(h1:∀q,q<k->Yc co (nth es q)=0)(h2:¬Yc co (nth es k)=0):ZH co es=Yc co (nth es k):=by
 unfold ZH;rw[QjH (es:=es.map (Yc co)) (k:=k) (by rw[List.length_map];exact hk) (λq hq=>by rw[Qcp om];exact h1 q hq) (by rw[Qcp hk];exact h2),Qcp hk]
theorem Qpd{co:Int}{es:List TEnt}(h1:∀q,q<es.length->Yc co (nth es q)=0):ZH co es=0:=by
 unfold ZH;rw[QhI (λq hq=>by rw[List.length_map]at hq;rw[Qcp hq];exact h1 q hq)]
theorem Qqa{co:Int}{es:List TEnt}{k:Nat}(hk:k<es.length)(h1:∀q,q<k->Qa9 co es q=0)(h2:¬Qa9 co es k=0):QaN co es=Qa9 co es k:=by
 unfold QaN;rw[QjH (es:=(List.range es.length).map (Qa9 co es)) (k:=k) (by simpa using hk) (λq hq=>by rw[Qch om];exact h1 q hq) (by rw[Qch hk];exact h2),Qch hk]
theorem QoM{co:Int}{es:List TEnt}(h1:∀q,q<es.length->Qa9 co es q=0):QaN co es=0:=by
 unfold QaN;rw[QhI (λq hq=>by rw[List.length_map,List.length_range]at hq;rw[Qch hq];exact h1 q hq)]
theorem Qua{co:Int}{es:List TEnt}(h:∀x∈es,Yc co x=0):ZH co es=0:=by
 unfold ZH;refine QdT.2 λe he=>?_;obtain⟨x,hx,rfl⟩:=List.mem_map.1 he;exact h x hx
theorem QtX{co:Int}{es:List TEnt}(h:Asc co es):QaN co es=0:=by
 unfold QaN;refine QdT.2 λe he=>?_;obtain⟨k,hk,rfl⟩:=List.mem_map.1 he;have hk:=List.mem_range.1 hk;unfold Qa9;rw[if_pos];rcases Nat.eq_zero_or_pos k with h0|h0
 ·exact .inl h0
 ·refine .inr ?_;have:=h (k-1) om
  rwa[show k-1+1=k by omega]at this
theorem QqR{ns:List Nd}:∀{cs seen:List Int},(∀c∈cs,(1<=c/\c<=(ns.length:Int)-1)/\(nth ns c.toNat).us=true)->(seen.reverse++cs).Nodup->Yg ns cs seen=(0,cs.reverse++seen)
 | [],seen,_,_=>rfl
 | c::cs,seen,h,hn=>by
  have hc:c ∉ seen:=λhm=>by
   have h1:=List.nodup_append.1 hn;exact h1.2.2 c (List.mem_reverse.2 hm) c (List.mem_cons_self ..) rfl
  rw[Yg,if_pos (h c (List.mem_cons_self ..)),if_neg hc,QqR (λx hx=>h x (List.mem_cons_of_mem _ hx)) (by rw[List.reverse_cons,List.append_assoc];exact hn),List.reverse_cons,List.append_assoc];rfl
theorem Qu2{t:Tre}{i:Nat}{seen:List Int}(hT:TOk t.co t.ns)(hi:i<t.ns.length)(hm:(nth t.ns i).us=true->((nth t.ns i).es.length:Int)<=Yr t.mo t.rm i)(hn:(seen.reverse++(nth t.ns i).cs).Nodup):X7 t i seen=(0,(nth t.ns i).cs.reverse++seen):=by
 cases hu:(nth t.ns i).us with
 | true=>
  have hk:=QqR (hT.kid i hi) hn;rw[Qnn rfl hu (hm hu) (hT.shape i hi) (Qua (hT.ents i hi)) (by rw[hk]),hk,QtX (hT.asc i hi)]
 | false=>
  have h1:=hT.free i hi hu;rw[QmD (by rw[hu];decide),if_pos ⟨h1.1,by rw[h1.2.1,h1.2.2];rfl⟩,h1.2.2];rfl
theorem QoE{t:Tre}(hT:TOk t.co t.ns)(hm:∀i,i<t.ns.length->(nth t.ns i).us=true->((nth t.ns i).es.length:Int)<=Yr t.mo t.rm i):∀(f i:Nat)(seen:List Int),i+f=t.ns.length->(seen.reverse++(t.ns.drop i).flatMap Nd.cs).Nodup->(X9 t f i seen).2=0
 | 0,i,seen,_,_=>rfl
 | f+1,i,seen,hf,hn=>by
  have hi:i<t.ns.length:=by omega
  have e:t.ns.drop i=nth t.ns i::t.ns.drop (i+1):=Qej hi;rw[e,List.flatMap_cons,<-List.append_assoc]at hn;have h1:=Qu2 hT hi (hm i hi) (List.nodup_append.1 hn).1;rw[X9,h1,if_pos rfl];refine QoE hT hm f (i+1) _ om ?_;rw[List.reverse_append,List.reverse_reverse];exact hn
theorem Qld{lo hi d:Nat}:∀{ks:List BT},(∀k∈ks,Bal lo hi d k)->∀p∈nodesL ks,lo<=p.2.es.length/\p.2.es.length<=hi:=by
 induction d with
 | zero=>
  intro ks h p hp;obtain⟨k,hk,hp⟩:=Qby (k:=default) hp;have hb:=h k hk;cases k with
  | nd i es js=>
   have e:js=[]:=hb.1;rw[e,BT.nodes,nodesL]at hp;rcases List.mem_cons.1 hp with rfl|hp
   ·exact hb.2
   ·cases hp
 | succ d ih=>
  intro ks h p hp;obtain⟨k,hk,hp⟩:=Qby (k:=default) hp;have hb:=h k hk;cases k with
  | nd i es js=>
   rw[BT.nodes]at hp;rcases List.mem_cons.1 hp with rfl|hp
   ·exact hb.2
   ·exact ih hb.1.2 p hp
theorem Qrb{ns:List Nd}{lo hi:Nat}:∀{d f:Nat}{T:BT},Bel lo hi d T->NIn ns T->d<f->btN ns f T.idx=T
 | d,0,_,_,_,h=>absurd h (Nat.not_lt_zero _)
 | 0,f+1,.nd i es ks,hB,hN,_=>by
  have hk:=Qmh hB;subst hk;show btN ns (f+1) i=_;rw[btN,hN.root.2];rfl
 | d+1,f+1,.nd i es ks,hB,hN,h=>by
  show btN ns (f+1) i=_;rw[btN,hN.root.2];show BT.nd i es ((Xd ks).map λc=>btN ns f c.toNat)=_;congr 1;refine List.ext_getElem (by rw[List.length_map,XH]) λk h1 h2=>?_;rw[List.getElem_map]
  have e:(Xd ks)[k]'(by rw[XH];exact h2)=((nth ks k).idx:Int):=by
   have:=Qit h2;rw[List.getD_eq_getElem?_getD,List.getElem?_eq_getElem (by rw[XH];exact h2)]at this;exact this
  rw[e,Int.toNat_natCast,Qrb (Qfr hB h2) (hN.kid h2) om,show nth ks k=ks[k]from QS (List.getElem?_eq_getElem h2)]
theorem Qmf{ns:List Nd}{lo hi:Nat}:∀{d f:Nat}{T:BT},Bel lo hi d T->NIn ns T->d<f->YD ns f T.idx=(d:Int)
 | d,0,_,_,_,h=>absurd h (Nat.not_lt_zero _)
 | 0,f+1,.nd i es ks,hB,hN,_=>by
  have hk:=Qmh hB;subst hk;show YD ns (f+1) i=_;rw[YD,hN.root.2];exact if_pos rfl
 | d+1,f+1,.nd i es ks,hB,hN,h=>by
  have hl:0<ks.length:=by have:=hB.1;simp only[BT.ks,BT.es]at this;omega
  show YD ns (f+1) i=_;rw[YD,hN.root.2,if_neg (by show¬(Xd ks).length=0;rw[XH];omega)];show YD ns f ((Xd ks).getD 0 0).toNat+1=_;rw[Qit hl,Int.toNat_natCast,Qmf (Qfr hB hl) (hN.kid hl) om];simp
section
variable{co:Int}{es:List TEnt}{ks:List BT}{k:Nat}
theorem Qtr(hs:Srt co (flatL es ks))(h:ks.length=es.length+1)(hk:k<es.length){x:TEnt}(hx:x∈(nth ks k).flat):QN co x.key (nth es k).key<0:=by
 obtain⟨B,hB⟩:=Qmu (.inr h) (k:=k+1) om;rw[hB,Qek hk,Qbr om]at hs;have h1:=(List.pairwise_append.1 hs).1;exact(List.pairwise_append.1 h1).2.2 x (List.mem_append_right _ hx) _ (List.mem_singleton.2 rfl)
theorem Qva(hs:Srt co (flatL es ks))(h:ks.length=es.length+1)(hk:k<es.length){x:TEnt}(hx:x∈(nth ks (k+1)).flat):QN co (nth es k).key x.key<0:=by
 obtain⟨B,hB⟩:=Qiq (.inr h) (k:=k+1) om;rw[hB,Qbr om,Qek hk]at hs;have h1:=(List.pairwise_append.1 hs).1;exact(List.pairwise_append.1 h1).2.2 _ (List.mem_append_right _ (List.mem_singleton.2 rfl)) x hx
theorem Qs2(hs:Srt co (flatL es ks))(h:ks.length=es.length+1)(hk:k<ks.length):Srt co (nth ks k).flat:=by
 obtain⟨B,hB⟩:=Qiq (.inr h) (k:=k) om;rw[hB,Qbr om]at hs;exact(List.pairwise_append.1 (List.pairwise_append.1 hs).1).2.1
end
theorem Qru{co:Int}{ns:List Nd}{lo hi:Nat}:∀{d f:Nat}{T:BT}{v:Vis},Bel lo hi d T->NIn ns T->d<f->v.i=T.idx->Srt co T.flat->(∀x∈T.flat,InB co v.lo v.hi x)->∀u∈vis ns f v,(∀x∈(nth ns u.i).es,InB co u.lo u.hi x)/\((nth ns u.i).cs.length=0->u.d=v.d+(d:Int))
 | d,0,_,_,_,_,h,_,_,_,_,_=>absurd h (Nat.not_lt_zero _)
 | 0,f+1,.nd i es ks,v,hB,hN,_,hv,hs,hb,u,hu=>by
  have hk:=Qmh hB;subst hk;have hi:v.i=i:=hv;rw[vis,hi,hN.root.2]at hu;rcases List.mem_cons.1 hu with rfl|hu
  ·rw[hi,hN.root.2];rw[BT.flat,Yk]at hb;exact⟨hb,λ_=>by simp⟩
  ·cases hu
 | d+1,f+1,.nd i es ks,v,hB,hN,h,hv,hs,hb,u,hu=>by
  have hi:v.i=i:=hv;have hl:ks.length=es.length+1:=hB.1;rw[BT.flat]at hs hb;rw[vis,hi,hN.root.2]at hu;rcases List.mem_cons.1 hu with rfl|hu
  ·rw[hi,hN.root.2];refine⟨λx hx=>hb x ((Qia es ks).subset hx),λh9=>?_⟩;have h8:(Xd ks).length=0:=h9;rw[XH]at h8;omega
  ·obtain⟨k,hk,hu⟩:=List.mem_flatMap.1 hu;have hk:=List.mem_range.1 hk;have hk:k<ks.length:=by rw[<-XH];exact hk
   have hj:((Xd ks).getD k 0).toNat=(nth ks k).idx:=by rw[Qit hk,Int.toNat_natCast]
   have h1:=Qru (co:=co) (f:=f) (v:=⟨((Xd ks).getD k 0).toNat,v.d+1,loK es k v.lo,hiK es k v.hi⟩) (Qfr hB hk) (hN.kid hk) om hj (Qs2 hs hl hk) (λx hx=>?_) u hu
   ·refine⟨h1.1,λh9=>?_⟩;rw[h1.2 h9];show v.d+1+(d:Int)=_;simp only[Int.natCast_add,Int.natCast_one];omega
   ·have h2:=hb x (Qr3 hl hk hx);refine⟨λb hb2=>?_,λb hb2=>?_⟩
    ·change loK es k v.lo=some b at hb2
     unfold loK at hb2
     by_cases h0:0<k
     ·rw[if_pos h0]at hb2;injection hb2 with hb2
      subst hb2;obtain⟨q,rfl⟩:∃q,k=q+1:=⟨k-1,om⟩;exact Qva hs hl om hx
     ·rw[if_neg h0]at hb2;exact h2.1 b hb2
    ·change hiK es k v.hi=some b at hb2
     unfold hiK at hb2
     by_cases h0:k<es.length
     ·rw[if_pos h0]at hb2;injection hb2 with hb2
      subst hb2;exact Qtr hs hl h0 hx
     ·rw[if_neg h0]at hb2;exact h2.2 b hb2
theorem QpP{ns:List Nd}{below:List Nat}:∀{f i:Nat},(∀j,i<=j->j<i+f->(nth ns j).us=true->j∈below)->ZX ns below f i=none
 | 0,i,_=>rfl
 | f+1,i,h=>by
  rw[ZX,if_neg (λh1=>h1.2 (h i (Nat.le_refl _) om h1.1))];exact QpP λj h1 h2=>h j om om
theorem Qq8{t:Tre}{deep:Int}:∀{vs:List Vis},(∀v∈vs,Qcc t deep v=0)->(Ys t deep vs).2=0
 | [],_=>rfl
 | v::vs,h=>by
  rw[Ys,if_pos (h v (List.mem_cons_self ..))];exact Qq8 λu hu=>h u (List.mem_cons_of_mem _ hu)
theorem Qow{lo hi:Nat}:∀{d:Nat}{T:BT},Bel lo hi d T->d<T.nodes.length
 | 0,.nd i es ks,h=>by
  rw[BT.nodes];exact Nat.succ_pos _
 | d+1,.nd i es ks,h=>by
  have hl:0<ks.length:=by have:=h.1;simp only[BT.ks,BT.es]at this;omega
  have h1:=Qow (Qfr h hl);rw[BT.nodes];cases ks with
  | nil=>cases hl
  | cons k ks=>
   rw[nodesL,List.length_cons,List.length_append];have e:nth (k::ks) 0=k:=rfl;rw[e]at h1;omega
theorem QtY{t:Tre}{lo hi rt d:Nat}{T:BT}(hc:QC t.co=0)(hse:XI t.mo t.rm=0)(hz:Sz t.mo t.rm lo hi rt)(hR:Xt t.ns T)(hV:VT t.co lo hi rt d T)(hu:XT t.ns)(hl:t.ns.length<=120):(XQ t).2=0:=by
 have hT:=QsM hR hV hu;have hroot:=hR.root;have h0:0<t.ns.length:=om
 have hN:=hR.nin;have hdl:d<t.ns.length:=Nat.lt_of_lt_of_le (Qow hV.bel) hR.nlen;have hw:Gx.Way t.ns [0]:=rfl
 have hbt:btN t.ns t.ns.length 0=T:=by
  have:=Qrb hV.bel hN hdl
  rwa[hV.idx]at this
 have hvb:=Qlz hT h0 t.ns.length Zr [] hw (by simp);rw[show Zr.i=0 from rfl,hbt]at hvb
 have hes:∀p∈T.nodes,p.1=0\/(lo<=p.2.es.length/\p.2.es.length<=hi):=λp hp=>by
  cases T with
  | nd i es ks=>
   rw[BT.nodes]at hp;rcases List.mem_cons.1 hp with rfl|hp
   ·exact .inl hV.idx
   ·cases d with
    | zero=>
     rw[Qmh hV.bel,nodesL]at hp;cases hp
    | succ d=>exact .inr (Qld hV.bel.2 p hp)
 have hin:∀i,i<t.ns.length->(nth t.ns i).us=true->(i,nth t.ns i)∈T.nodes:=λi hi hus=>by
  by_cases hm:i∈T.nodes.map Prod.fst
  ·obtain⟨p,hp,rfl⟩:=List.mem_map.1 hm;rw[(hN p hp).2];exact hp
  ·rw[RepN.rest hR i hi hm]at hus;cases hus
 have hmost:∀i,i<t.ns.length->(nth t.ns i).us=true->((nth t.ns i).es.length:Int)<=Yr t.mo t.rm i:=λi hi hus=>by
  unfold Yr;have e1:=hz.emo;have e2:=hz.erm
  by_cases h9:i=0
  ·subst h9;rw[if_pos rfl];have h8:=hroot.2;rw[hV.idx]at h8;rw[h8];have:=hV.root;simp only;omega
  ·rw[if_neg h9];rcases hes _ (hin i hi hus)with h|h
   ·exact absurd h h9
   ·simp only at h;omega
 have hnods:=QoE (t:=t) hT hmost t.ns.length 0 [] om (by rw[List.drop_zero];exact hT.once);unfold XQ;rw[if_pos hc,if_pos hse,if_pos h0,if_pos hl,if_pos hnods]
 have hop:ZX t.ns ((YR t.ns).map Vis.i) t.ns.length 0=none:=QpP λj _ h2 hus=>by
  show j∈(vis t.ns t.ns.length Zr).map Vis.i;rw[hvb];exact List.mem_map.2 ⟨_,hin j om hus,rfl⟩
 rw[hop]
 have hdeep:YD t.ns t.ns.length 0=(d:Int):=by
  have:=Qmf hV.bel hN hdl
  rwa[hV.idx]at this
 refine Qq8 λu huv=>?_;have h1:=Qru (co:=t.co) (v:=Zr) hV.bel hN hdl hV.idx.symm hV.srt (λx _=>⟨λb h=>(nomatch h),λb h=>(nomatch h)⟩) u huv
 have hmem:u.i∈T.nodes.map Prod.fst:=by
  rw[<-hvb];exact List.mem_map.2 ⟨u,huv,rfl⟩
 obtain⟨p,hp,hpu⟩:=List.mem_map.1 hmem;have hpn:=hN p hp;rw[hpu]at hpn;rw[QaZ,if_neg,if_neg,if_neg]
 ·intro h9;rw[hdeep]at h9;have:=h1.2 h9.1;have e:Zr.d=1:=rfl;omega
 ·unfold ZO;intro h9;obtain⟨x,hx,ho⟩:=List.any_eq_true.1 h9;have h8:=h1.1 x hx;rcases Qjs.1 ho with⟨b,hb,hle⟩|⟨b,hb,hle⟩
  ·have:=h8.1 b hb;omega
  ·have:=h8.2 b hb;omega
 ·unfold ZS;intro h9;simp only[Bool.and_eq_true,Bool.or_eq_true,decide_eq_true_eq]at h9;have e1:=hz.emo;have e2:=hz.erm;have e3:=hz.elo;rcases hes p hp with h|h
  ·omega
  ·rw[hpn.2]at h9;rcases h9.2 with h8|h8
   ·omega
   ·have h7:=hroot.2;rw[hV.idx]at h7;rw[h7]at h8;have hnil:T.es=[]:=List.eq_nil_of_length_eq_zero h8.1.1;have hm9:(u.i:Int)∈Xd T.ks:=h8.1.2;obtain⟨k,hk,hke⟩:=List.mem_map.1 hm9
    have hone:T.ks=[k]:=by
     have hs:=hV.bel.cs;rcases hs with hs|hs
     ·rw[hs]at hk;cases hk
     ·rw[hnil]at hs;cases hks:T.ks with
      | nil=>
       rw[hks]at hk;cases hk
      | cons q qs=>
       rw[hks]at hs hk;have:qs=[]:=List.eq_nil_of_length_eq_zero (by simpa using hs);subst this;rcases List.mem_singleton.1 hk with rfl
       rfl
    have hg:=hV.gap hnil k hone
    have hkn:(u.i,(⟨true,k.es,Xd k.ks⟩:Nd))∈T.nodes:=by
     have:k.idx=u.i:=om
     rw[<-this];cases T with
     | nd i es ks=>
      rw[BT.nodes];refine List.mem_cons_of_mem _ (Qdw (k:=k) hk ?_);cases k with
      | nd a b c=>
       rw[BT.nodes];exact List.mem_cons_self ..
    have h6:=(hN _ hkn).2;simp only at h6;rw[hpn.2]at h6;have h5:=h8.2;rw[h6]at h5;simp only at h5;omega
end Gx
namespace Gx
open Go Go.RowKit
theorem Qjq{ns:List Nd}{T:BT}(h:Xt ns T):ns.all Zn=true ↔ ∀x∈T.flat,YJ x=true:=by
 constructor
 ·intro h1 x hx;obtain⟨p,hp,h2⟩:=QbU T x hx;have h3:=RepN.at_ (i:=p.1) (x:=p.2) h hp;have h4:=List.all_eq_true.1 h1 p.2 (by rw[<-h3.2];exact Qz h3.1);exact List.all_eq_true.1 h4 x h2
 ·intro h1;refine QnI λi hi=>?_
  by_cases hm:i∈T.nodes.map Prod.fst
  ·obtain⟨p,hp,rfl⟩:=List.mem_map.1 hm;have h3:=RepN.at_ (i:=p.1) (x:=p.2) h hp;rw[h3.2];exact List.all_eq_true.2 λx hx=>h1 x ((Qbs T p hp).subset hx)
  ·rw[RepN.rest h i hi hm];rfl
theorem NdK.of(b:List UInt8)(num:Int):Zn (Xl b num).n=true:=by
 have h0:Zn Qlk=true:=rfl
 by_cases h1:b.length=512
 ·by_cases h2:1<=num/\num<=120
  ·cases h3:XB b with
   | true=>rw[Qd5 h1 h2 h3];exact h0
   | false=>
    cases h4:rdB (Q0 b)with
    | none=>rw[QdX h1 h2 h3 h4];exact h0
    | some q=>
     obtain⟨m,last⟩:=q;have e:=QcQ h1 h2 h3 h4;obtain⟨_,_,_,_,_,q6⟩:=QaW (YT h1) h4;rw[e];split
     ·exact List.all_eq_true.2 λx hx=>by have:=q6.es x hx;grind[Yq,YJ]
     ·exact h0
  ·rw[QhS h1 h2];exact h0
 ·rw[Qil h1];exact h0
theorem NdK.bk(x:Ixs)(i:Nat):Zn (bkN x i)=true:=by
 have h0:Zn Qlk=true:=rfl
 grind[bkN,NdK.of]
theorem Qjd{x:Ixs}(h:(rdI x).2=0):(rdI x).1.1.mo<=4/\(rdI x).1.1.ns.all Zn=true:=by
 obtain⟨h0,ht,_⟩:=QaE h;obtain⟨n0,l0,hr,_,_,hrt,hl,hx9⟩:=Y1 (QbO h0).2.2.1
 have hmo:(Qb x.ro).1.mo<=4:=by
  rw[hrt]
  grind
 rw[ht];refine⟨hmo,?_⟩;show(Xf x x.n).all Zn=true;refine List.all_eq_true.2 λn hn=>?_;unfold Xf at hn;rw[List.mem_append,hrt]at hn;rcases hn with hn|hn
 ·obtain rfl:n=n0:=by simpa using hn
  obtain⟨_,_,_,_,_,_,_,q8,_⟩:=Qef om hr;exact List.all_eq_true.2 λy hy=>by have:=q8 y hy;grind[Yq,YJ]
 ·obtain⟨j,_,rfl⟩:=List.mem_map.1 hn;exact NdK.bk x (j+1)
theorem QvO{x:Ixs}(h:(rdI x).2=0):Sm 1000 (rdI x).1.1.ns/\(rdI x).1.1.ns.length<=1000:=by
 obtain⟨_,hn,hB,_⟩:=QbH h;rw[hn];refine⟨λk=>?_,hB.len⟩;rcases Nat.lt_or_ge k (Xf x x.n).length with hk|hk
 ·exact⟨hB.es k hk,hB.cs k hk⟩
 ·rw[Yy hk];exact⟨Nat.zero_le _,Nat.zero_le _⟩
theorem Qsw{t:Tre}{e:TEnt}(h0:(XQ t).2=0)(hmo:t.mo<=4)(hsm:t.ns.all Zn=true):InsP t e/\(YA t e=0->Zy (inT t e)=0):=by
 obtain⟨hc,hs,hl0,hl,_⟩:=ZC h0;obtain⟨T,d,hR,hV,hz,hu⟩:=QpO h0
 have key:inE t e=0->(XQ (inT t e)).2=0/\∃T':BT,Xt (inT t e).ns T'/\T'.flat=QP T.flat (plc t.co T.flat e.key) e/\Sm 100000 (inT t e).ns:=λh9=>by
  have h8:Yc t.co e=0:=by grind[inE]
  have h7:QdF t.co t.mo t.rm t.ns e=0:=by grind[inE]
  have h6:¬(Qt t.co t.ns e.key).2.2=true/\(Qac t.co t.mo t.rm t.ns e).length<=120:=by grind[QdF]
  have hI:=QmN hz hR hV om hu h8 h6.1;obtain⟨T',d',hR',hV',hf⟩:=hI.tree;exact⟨QtY (t:=inT t e) hc hs hz hR' hV' hI.last h6.2,T',hR',hf,(hR'.sm hV'.bel (Nat.le_refl _) (Nat.le_trans hV'.root hz.rh)).mono (by have:=hz.hi8;omega)⟩
 refine⟨⟨λh1 h2=>(QmN hz hR hV om hu h1 h2).ok,λh1=>(key h1).2.choose_spec.2.2⟩,λh1=>?_⟩;have h2:inE t e=0/\YJ e=true:=by grind[YA,YJ]
 obtain⟨h3,T',hR',hf,_⟩:=key h2.1;unfold Zy;rw[if_pos h3,if_pos];refine⟨hmo,(Qjq hR').2 λy hy=>?_⟩;rw[hf]at hy;have h4:=(Qjq hR).1 hsm;unfold QP at hy;rcases List.mem_append.1 hy with hy|hy
 ·exact h4 y (List.mem_of_mem_take hy)
 ·rcases List.mem_cons.1 hy with rfl|hy
  ·exact h2.2
  ·exact h4 y (List.mem_of_mem_drop hy)
theorem QlJ{x:Ixs}{e:TEnt}(h:(rdI x).2=0):InsX x e:=
 have h1:=Qsw (e:=e) (QbH h).1 (Qjd h).1 (Qjd h).2
 ⟨h1.1,h1.2⟩
theorem Qpu{x:Ixs}{t:Tre}{E lsn:Int}(h:opE x E lsn=0):opX x t E lsn=chX x (Xf x x.n) t lsn/\opL x t E lsn=chL x (chX x (Xf x x.n) t lsn):=by
 unfold opX opL;rw[if_pos h,if_pos h,(QbH (Qox h).1).2.1];exact⟨rfl,rfl⟩
end Gx
namespace Go.Proofs
open Go Go.RowKit Gx
attribute [local irreducible] Go.Calls Gx.S Gx.O Gx.D Gx.OpP Gx.OpQ Gx.OpH
set_option maxRecDepth 20000
theorem Quj:QQ Tryz.prog 198=true:=by kernel_rfl
theorem c136(w:World)(j:Nat)(mo rm:Int)(a:Option Addr)(cap:Nat)(L:List LNd)(i sb scap tot:Nat)(S:List Int)(hw:HS w (fps [.blk sb 4 tot (Xr L.length S)]) [.blk sb 4 tot (Xr L.length S)] w)(hs:Nt w (fps [.blk sb 4 tot (Xr L.length S)]) a L)(hj:j<=3)(hi:i<L.length)(hl:L.length<=1000)(hel:(nth L i).es.length<=1000)(hcl:(nth L i).cs.length<=1000)(hK:∀x∈(nth L i).es,x.key.length<=1000000):CE 136 #[.agg #[.int .i64 (j:Int),.int .i64 mo,.int .i64 rm,.slice a L.length cap],.int .i64 (i:Int),.slice (some ⟨sb,0,none⟩) L.length scap] w (fps [.blk sb 4 tot (Xr L.length S)]) (λg:Unit=>.int .i64 (X7 (⟨(j:Int),mo,rm,pln L⟩:Tre) i S).1) (λg=>True) λg=>[.blk sb 4 tot (Xr L.length (X7 (⟨(j:Int),mo,rm,pln L⟩:Tre) i S).2)]:=by
 have hNI:=Qr hi
 have hnl:(pln L).length=L.length:=Qd L
 refine eW3 Tryz.func136 Tryz.ntmps136 hw ?_
 refine aU2 ?_
 refine oBx λb1 _=>?_
 refine aU7 ?_
 refine o_p (Qa rfl rfl rfl QH (i) om om (Rw.some hs.1 om)) rfl (o_q (QI _ rfl rfl Xv rfl (Rw.rd hs.1 hi)) rfl (oAl (λb2 _=>?_) Xc))
 refine aU9 ?_
 refine sCd rfl (λh3=>?_) λh3=>?_
 ·have hu9:¬(nth L i).us=true:=by have hq:=h3;simp[hq]
  have hun:=QmD (t:=(⟨(j:Int),mo,rm,pln L⟩:Tre)) (S:=S) (i:=i) (by rw[show((⟨(j:Int),mo,rm,pln L⟩:Tre)).ns=pln L from rfl,hNI];exact hu9)
  rw[show((⟨(j:Int),mo,rm,pln L⟩:Tre)).ns=pln L from rfl,hNI,hnl]at hun
  refine aU6 ?_
  refine oOr 7 24 31 rfl
   (λhg4 _=>by
    refine aT4 ?_
    refine aU8 ?_
    exact oJf 7 31)
   (λhg6 _=>by
    refine aU6 ?_
    exact oJt 7 31) ?_
  refine aU ?_
  refine oOr 5 32 37 rfl
   (λhg8 _=>by
    refine aU8 ?_
    exact oJf 5 37)
   (λhg10 _=>by
    refine aU4 ?_
    exact oJt 5 37) ?_
  refine aU ?_
  refine oOr 5 38 43 rfl
   (λhg12 _=>by
    refine aU8 ?_
    exact oJf 5 43)
   (λhg14 _=>by
    refine aU4 ?_
    exact oJt 5 43) ?_
  refine aU ?_
  refine sCd rfl (λh16=>?_) λh16=>?_
  ·have hn9:¬((0<i/\i+1<L.length)/\(nth L i).es.length+(nth L i).cs.length=0):=by have hq:=h16;omega
   have hun2:(X7 (⟨(j:Int),mo,rm,pln L⟩:Tre) i S)=(3,S):=by rw[hun];exact if_neg hn9
   refine aU4 ?_
   exact rT rfl rfl (λw' h'=>⟨(),by rw[hun2];rfl,trivial,by rw[hun2];exact h'.ent aEt⟩)
  have hn9:(0<i/\i+1<L.length)/\(nth L i).es.length+(nth L i).cs.length=0:=by have hq:=h16;omega
  have hun2:(X7 (⟨(j:Int),mo,rm,pln L⟩:Tre) i S)=(0,S):=by rw[hun];exact if_pos hn9
  refine aU5 ?_
  exact rT rfl rfl (λw' h'=>⟨(),by rw[hun2];rfl,trivial,by rw[hun2];exact h'.ent aEt⟩)
 have hu9:(nth L i).us=true:=by have hq:=h3;simpa using hq
 refine Qa5 ?_
 refine Qe (L':=[(2,_),(3,_),(6,_),(7,_),(8,_),(47,_)]) aSx (λ_ h=>h) ?_
 refine QbX (α:=Unit) [8,48,49] (λ_=>[(8,.int .i64 (Yr mo rm i))]) (λ_=>True) ?_ ?_
 ·skip
  refine sCd rfl (λh17=>?_) λh17=>?_
  ·have hi0:i=0:=by have hq:=h17;omega
   refine aU5 ?_
   exact Qp () trivial (by rw[show Yr mo rm i=rm from if_pos hi0];exact aSx) (λw h=>h)
  have hi0:¬i=0:=by have hq:=h17;omega
  refine aU ?_
  exact Qp () trivial (by rw[show Yr mo rm i=mo from if_neg hi0];exact aSx) (λw h=>h)
 intro _ _
 refine aU9 ?_
 refine sCd rfl (λh18=>?_) λh18=>?_
 ·have h16:(X7 (⟨(j:Int),mo,rm,pln L⟩:Tre) i S)=(16,S):=QsC (t:=(⟨(j:Int),mo,rm,pln L⟩:Tre)) hNI hu9 (by show¬((nth L i).es.length:Int)<=Yr mo rm i;have hq:=h18;omega)
  refine aU4 ?_
  exact rT rfl rfl (λw' h'=>⟨(),by rw[h16];rfl,trivial,by rw[h16];exact h'.ent aEt⟩)
 have hM9:((nth L i).es.length:Int)<=Yr mo rm i:=by have hq:=h18;omega
 refine aU9 ?_
 refine X0 9 59 68 rfl
  (λhg19 _=>by
   refine aT14 ?_
   refine aU2 ?_
   exact oJt 9 68)
  (λhg21 _=>by
   refine aU8 ?_
   exact oJf 9 68) ?_
 refine aU ?_
 refine sCd rfl (λh23=>?_) λh23=>?_
 ·have h10:(X7 (⟨(j:Int),mo,rm,pln L⟩:Tre) i S)=(10,S):=QsK (t:=(⟨(j:Int),mo,rm,pln L⟩:Tre)) hNI hu9 hM9 (by show¬((nth L i).cs.length=0\/(nth L i).cs.length=(nth L i).es.length+1);have hq:=h23;omega)
  refine aU4 ?_
  exact rT rfl rfl (λw' h'=>⟨(),by rw[h10];rfl,trivial,by rw[h10];exact h'.ent aEt⟩)
 have hS9:(nth L i).cs.length=0\/(nth L i).cs.length=(nth L i).es.length+1:=by have hq:=h23;omega
 refine aU7 ?_
 refine Qe (L':=[(2,_),(3,_),(6,_),(7,_),(9,_)]) aSx (λ_ h=>h) ?_
 refine Qo (α:=Nat) [6,9,10,69,70,71,72,73,74,75,76,77,78,79,80,81,82,83,84,85,86] (λk=>[(9,.int .i64 (k:Int))]) (λ_=>HS w (fps [.blk sb 4 tot (Xr L.length S)]) [.blk sb 4 tot (Xr L.length S),.blk b1 37 4 [.int .i64 (j:Int),.int .i64 mo,.int .i64 rm,.slice a L.length cap],.blk b2 69 3 (LNd.vals (nth L i))]) (λk=>k<=(nth L i).es.length/\∀q,q<k->Yc (j:Int) (nth (nth L i).es q)=0) (λk=>(nth L i).es.length-k) 0 ⟨Nat.zero_le _,λj h=>absurd h (Nat.not_lt_zero j)⟩ aSx (λw h=>h.ent aEt) (λk hx=>?_)
 obtain⟨hk1,hk3⟩:=hx
 refine aU9 ?_
 refine sCd rfl (λh24=>?_) λh24=>?_
 ·have hk5:k<(nth L i).es.length:=by omega
  refine aU4 ?_
  refine Qu [] QG ?_
  refine dFa 0 ?_
  refine dLd 1 [] ?_
  refine dFa 2 ?_
  refine dLd 3 [] ?_
  refine dP 4 ?_
  refine dV 5 rfl (Qa rfl rfl rfl Qy (k) om om (Rw.some (hs.es hi) om)) (dQ 6 [] rfl (QI _ rfl rfl Xb rfl (Rw.rd (hs.es hi) hk5)) (dQ 7 [] rfl (QA rfl Quj rfl (λw1 h1=>c198 w1 j (nth (nth L i).es k) hj (hK _ (Qz hk5)))) (dP 8 ?_)))
  refine dNi ?_
  refine aU5 ?_
  refine sCd rfl (λh25=>?_) λh25=>?_
  ·have hz6:¬Yc (j:Int) (nth (nth L i).es k)=0:=h25
   have hEb:=QpU hk5 hk3 hz6
   have hEe:(X7 (⟨(j:Int),mo,rm,pln L⟩:Tre) i S)=(Yc (j:Int) (nth (nth L i).es k),S):=by rw[<-hEb];exact QrF (t:=(⟨(j:Int),mo,rm,pln L⟩:Tre)) hNI hu9 hM9 hS9 (by show¬ZH (j:Int) (nth L i).es=0;rw[hEb];exact hz6)
   refine aU5 ?_
   exact rT rfl rfl (λw' h'=>⟨(),by rw[hEe];rfl,trivial,by rw[hEe];exact h'.ent aEt⟩)
  have hz6:Yc (j:Int) (nth (nth L i).es k)=0:=by have hq:=h25;omega
  refine aT5 ?_
  refine aU2 ?_
  exact sBk (k+1) om ⟨om,λq hq=>(Nat.lt_or_ge q k).elim (hk3 q) (λh9=>by obtain rfl:q=k:=om;exact hz6)⟩
 have hEn:∀q,q<(nth L i).es.length->Yc (j:Int) (nth (nth L i).es q)=0:=λq hq=>hk3 q om
 have hE0:ZH (j:Int) (nth L i).es=0:=Qpd hEn
 refine Qh rfl ?_
 refine aU6 ?_
 refine Qo (α:=Nat×List Int) [6,11,12,87,88,89,90,91,92,93,94,95,96,97,98,99,100,101,102,103,104,105,106,107,108,109,110,111,112,113,114,115,116,117,118,119,120,121] (λy=>[(11,.int .i64 (y.1:Int))]) (λy=>HS w (fps [.blk sb 4 tot (Xr L.length S)]) [.blk sb 4 tot (Xr L.length y.2),.blk b1 37 4 [.int .i64 (j:Int),.int .i64 mo,.int .i64 rm,.slice a L.length cap],.blk b2 69 3 (LNd.vals (nth L i))]) (λy=>y.1<=(nth L i).cs.length/\(Yg (pln L) (nth L i).cs S)=Yg (pln L) ((nth L i).cs.drop y.1) y.2) (λy=>(nth L i).cs.length-y.1) (0,S) ⟨Nat.zero_le _,rfl⟩ aSx (λw h=>h.ent aEt) (λ⟨k,Sk⟩hx=>?_)
 dsimp only
 obtain⟨hk1,hk3⟩:=hx
 simp only[]at hk1 hk3
 refine aU9 ?_
 refine sCd rfl (λh26=>?_) λh26=>?_
 ·have hk5:k<(nth L i).cs.length:=by omega
  have hkd9:nth (nth L i).cs k=((nth L i).cs.getD k 0):=rfl
  have hst:=Qc8 hk5
  rw[hst,QbM]at hk3
  refine aU8 ?_
  refine o_p (Qa rfl rfl rfl QM (k) om om (Rw.some (hs.cs hi) om)) rfl (o_q (Qc rfl rfl Ye (((hs.cs hi).rdj 0 hk5 rfl))) rfl (Qf (show _=Value.int .i64 ((nth L i).cs.getD k 0)from rfl) (QjE ?_)))
  refine oCq rfl (λw1 h1=>c40 w1 _ _ _) (aU2 ?_)
  refine oOr 8 106 114 rfl
   (λhg27 _=>by
    refine aU7 ?_
    refine o_p (Qa rfl rfl rfl QH (((nth L i).cs.getD k 0).toNat) om om (Rw.some hs.1 om)) rfl (aU3 ?_)
    refine o_q (Qc rfl rfl Qdm ((hs.1.rdj 0 (i:=((nth L i).cs.getD k 0).toNat) om rfl))) rfl (aU2 ?_)
    exact oJf 8 114)
   (λhg29 _=>by
    refine aU7 ?_
    exact oJt 8 114) ?_
  refine aU ?_
  refine sCd rfl (λh31=>?_) λh31=>?_
  ·have hko:¬Qdt (pln L) ((nth L i).cs.getD k 0):=by rintro⟨h91,h92⟩;rw[hnl]at h91;rw[Qr om]at h92;have hq:=h31;exact hq.elim (λhq=>om) (λhq=>by rw[show(nth L ((nth L i).cs.getD k 0).toNat).pl.us=(nth L ((nth L i).cs.getD k 0).toNat).us from rfl,hq]at h92;cases h92)
   have hk6e:(X7 (⟨(j:Int),mo,rm,pln L⟩:Tre) i S)=(6,Sk):=by have h8:QcJ (pln L) ((nth L i).cs.getD k 0) Sk=6:=if_neg hko;have h7:Qd3 (pln L) ((nth L i).cs.getD k 0) Sk=Sk:=if_neg hko;rw[h8,h7,if_neg (by decide)]at hk3;rw[<-hk3];exact QmM (t:=(⟨(j:Int),mo,rm,pln L⟩:Tre)) hNI hu9 hM9 hS9 hE0 (by show¬(Yg (pln L) (nth L i).cs S).1=0;rw[hk3];show¬(6:Int)=0;decide)
   refine aU ?_
   refine Qe (L':=[(2,_),(3,_),(7,_),(9,_),(11,_),(12,_),(69,_),(70,_),(71,_),(72,_),(73,_)]) aSx (λ_ h=>h) ?_
   refine aU3 ?_
   exact rT rfl rfl (λw' h'=>⟨(),by rw[hk6e];rfl,trivial,by rw[hk6e];exact h'.ent aEt⟩)
  have hko:Qdt (pln L) ((nth L i).cs.getD k 0):=by have hq:=h31;refine⟨by rw[hnl];exact hq.1,?_⟩;rw[Qr om];exact hq.2
  have hko1:=hko.1
  rw[hnl]at hko1
  have hcv2:((nth L i).cs.getD k 0).toNat<L.length:=om
  have hcc:((((nth L i).cs.getD k 0).toNat:Nat):Int)=((nth L i).cs.getD k 0):=Int.toNat_of_nonneg om
  have h7:Qd3 (pln L) ((nth L i).cs.getD k 0) Sk=((nth L i).cs.getD k 0)::Sk:=if_pos hko
  rw[h7]at hk3
  have hsv:=Qkf (n:=L.length) (S:=Sk) hcv2
  rw[hcc]at hsv
  refine aU3 ?_
  refine Qe (L':=[(2,_),(3,_),(7,_),(9,_),(11,_),(12,_),(69,_),(70,_),(71,_),(72,_),(73,_)]) aSx (λ_ h=>h) ?_
  refine aU3 ?_
  refine o_p (Qa rfl rfl rfl Qbc (((nth L i).cs.getD k 0).toNat) om om rfl) rfl (Qf (show _=Value.pointer (some ⟨sb,((nth L i).cs.getD k 0).toNat,none⟩)from by rw[Nat.zero_add,Nat.mul_one]) (o_q (Qx rfl rfl Qdm (λw h=>h.rd_blk (Mc:=[]) aPk (Qbi hcv2) (by simp))) rfl (aU ?_)))
  refine sCd rfl (λh32=>?_) λh32=>?_
  ·have hmem:((nth L i).cs.getD k 0)∈Sk:=by have hq:=h32;rw[hcc]at hq;exact hq
   have h8:QcJ (pln L) ((nth L i).cs.getD k 0) Sk=23:=by rw[QcJ,if_pos hko,if_pos hmem]
   rw[h8,if_neg (by decide)]at hk3
   have hk23:(X7 (⟨(j:Int),mo,rm,pln L⟩:Tre) i S)=(23,((nth L i).cs.getD k 0)::Sk):=by rw[<-hk3];exact QmM (t:=(⟨(j:Int),mo,rm,pln L⟩:Tre)) hNI hu9 hM9 hS9 hE0 (by show¬(Yg (pln L) (nth L i).cs S).1=0;rw[hk3];show¬(23:Int)=0;decide)
   refine aU4 ?_
   exact rT rfl rfl (λw' h'=>⟨(),by rw[hk23];rfl,trivial,by rw[hk23,QqN hmem];exact h'.ent aEt⟩)
  have hmem:¬((nth L i).cs.getD k 0)∈Sk:=by have hq:=h32;rw[hcc]at hq;exact hq
  have h8:QcJ (pln L) ((nth L i).cs.getD k 0) Sk=0:=by rw[QcJ,if_pos hko,if_neg hmem]
  rw[h8,if_pos rfl]at hk3
  have hk9:=hk3
  refine aU4 ?_
  refine o_p (Qa rfl rfl rfl Qbc (((nth L i).cs.getD k 0).toNat) om om rfl) rfl (Qf (show _=Value.pointer (some ⟨sb,((nth L i).cs.getD k 0).toNat,none⟩)from by rw[Nat.zero_add,Nat.mul_one]) (Qah (Q8 rfl rfl rfl Qdm rfl aPt (by rw[QbC];show _+1<=_;omega) rfl) (λ_ _=>aT5 ?_)))
  refine aU2 ?_
  exact QK (k+1,((nth L i).cs.getD k 0)::Sk) (by(try simp only[]);omega) ⟨by(try simp only[]);omega,hk9⟩ aSx (λw h=>by have h2:=h;rw[show Qq (Xr L.length Sk) ((nth L i).cs.getD k 0).toNat (Value.cells (.bool true)).toList=Xr L.length (((nth L i).cs.getD k 0)::Sk)from hsv]at h2;exact h2.ent aEt)
 have hdr9:(nth L i).cs.drop k=[]:=List.drop_of_length_le om
 rw[hdr9]at hk3
 have hK0:(Yg (pln L) (nth L i).cs S).1=0:=by rw[hk3];rfl
 have hK2:(Yg (pln L) (nth L i).cs S).2=Sk:=by rw[hk3];rfl
 have hOr:(X7 (⟨(j:Int),mo,rm,pln L⟩:Tre) i S)=(QaN (j:Int) (nth L i).es,(Yg (pln L) (nth L i).cs S).2):=by have h9:=Qnn (t:=(⟨(j:Int),mo,rm,pln L⟩:Tre)) (i:=i) (S:=S) (n:=(nth L i).pl) hNI hu9 hM9 hS9 hE0 hK0;exact h9
 refine Qh rfl ?_
 refine aU6 ?_
 refine Qo (α:=Nat) [6,13,122,123,124,125,126,127,128,129,130,131,132,133,134,135,136,137,138,139,140,141,142,143,144,145] (λk=>[(13,.int .i64 (k:Int))]) (λ_=>HS w (fps [.blk sb 4 tot (Xr L.length S)]) [.blk sb 4 tot (Xr L.length (Yg (pln L) (nth L i).cs S).2),.blk b1 37 4 [.int .i64 (j:Int),.int .i64 mo,.int .i64 rm,.slice a L.length cap],.blk b2 69 3 (LNd.vals (nth L i))]) (λk=>1<=k/\∀q,q<k->Qa9 (j:Int) (nth L i).es q=0) (λk=>(nth L i).es.length-k) 1 ⟨Nat.le_refl _,λq h=>if_pos (.inl om)⟩ aSx (λw h=>by rw[hK2];exact h.ent aEt) (λk hx=>?_)
 obtain⟨hk1,hk3b⟩:=hx
 refine aU9 ?_
 refine sCd rfl (λh33=>?_) λh33=>?_
 ·have hk5:k<(nth L i).es.length:=by omega
  have hk6:k-1<(nth L i).es.length:=om
  refine aU4 ?_
  refine Qu [] QG ?_
  refine dFa 0 ?_
  refine dLd 1 [] ?_
  refine dFa 2 ?_
  refine dLd 3 [] ?_
  refine dP 4 ?_
  refine dP 5 ?_
  try refine dWr ?_
  refine dV 6 rfl (Qa rfl rfl rfl Qy (k-1) om om (Rw.some (hs.es hi) om)) (dFa 7 ?_)
  refine dQ 8 [] rfl (Qc rfl rfl Zd (((hs.es hi).rdj 0 hk6 rfl))) (dFa 9 ?_)
  refine dLd 10 [] ?_
  refine dP 11 ?_
  refine dV 12 rfl (Qa rfl rfl rfl Qy (k) om om (Rw.some (hs.es hi) om)) (dFa 13 ?_)
  refine dQ 14 [] rfl (Qc rfl rfl Zd (((hs.es hi).rdj 0 hk5 rfl))) (dQ 15 [] rfl (QA rfl Qgr rfl (λw1 h1=>c65 w1 j (nth (nth L i).es (k-1)).key (nth (nth L i).es k).key hj (QaB (hEn _ hk6)) (QaB (hEn _ hk5)) (hK _ (Qz hk6)) (hK _ (Qz hk5)))) (dP 16 ?_))
  refine dNi ?_
  refine sCd rfl (λh34=>?_) λh34=>?_
  ·have hz11:¬Qa9 (j:Int) (nth L i).es k=0:=by unfold Qa9;rw[if_neg (by have hq:=h34;omega)];decide
   have hOb:=Qqa hk5 hk3b hz11
   have hOv:Qa9 (j:Int) (nth L i).es k=9:=if_neg (by have hq:=h34;omega)
   refine aU ?_
   refine Qe (L':=[(2,_),(3,_),(7,_),(9,_),(11,_),(13,_),(69,_),(70,_),(71,_),(72,_),(73,_),(87,_),(88,_),(89,_),(90,_),(91,_)]) aSx (λ_ h=>h) ?_
   refine aU3 ?_
   exact rT rfl rfl (λw' h'=>⟨(),by rw[hOr,hOb,hOv];rfl,trivial,by rw[hOr];exact h'.ent aEt⟩)
  have hz11:Qa9 (j:Int) (nth L i).es k=0:=if_pos (.inr (by have hq:=h34;omega))
  refine aU2 ?_
  refine Qe (L':=[(2,_),(3,_),(7,_),(9,_),(11,_),(13,_),(69,_),(70,_),(71,_),(72,_),(73,_),(87,_),(88,_),(89,_),(90,_),(91,_)]) aSx (λ_ h=>h) ?_
  refine aT3 ?_
  refine aU2 ?_
  exact sBk (k+1) om ⟨om,λq hq=>(Nat.lt_or_ge q k).elim (hk3b q) (λh9=>by obtain rfl:q=k:=om;exact hz11)⟩
 have hO0:QaN (j:Int) (nth L i).es=0:=QoM (λq hq=>hk3b q om)
 refine Qh rfl ?_
 refine aU4 ?_
 exact rT rfl rfl (λw' h'=>⟨(),by rw[hOr,hO0];rfl,trivial,by rw[hOr];exact h'.ent aEt⟩)
end Go.Proofs
namespace Gx
open Go Go.RowKit
def mkS(vs:List Vis)(S:List Int):List Int:=(vs.map λv=>((v.i:Nat):Int)).reverse++S
theorem Qsl(A B:List Vis)(S:List Int):mkS (A++B) S=mkS B (mkS A S):=by simp[mkS]
theorem QsB{vs:List Vis}{c:Int}:c∈mkS vs [] ↔ ∃v∈vs,((v.i:Nat):Int)=c:=by simp[mkS]
end Gx
namespace Go.Proofs
open Go Go.RowKit Gx
attribute [local irreducible] Go.Calls Gx.S Gx.O Gx.D Gx.OpP Gx.OpQ Gx.OpH
set_option maxRecDepth 20000
theorem QpC:QQ Tryz.prog 137=true:=by kernel_rfl
def MkC(j:Nat)(mo rm:Int)(a:Option Addr)(cap:Nat)(L:List LNd)(sb scap tot:Nat)(f:Nat):Prop:=∀(w:World)(S:List Int)(v:Vis)(P:List Nat),(HS w (fps [.blk sb 4 tot (Xr L.length S)]) [.blk sb 4 tot (Xr L.length S)] w)->(Nt w (fps [.blk sb 4 tot (Xr L.length S)]) a L)->(TOk (j:Int) (pln L))->(Bd (pln L))->(0<L.length)->(Gx.Way (pln L) (v.i::P))->P.length+f=L.length->Calls Tryz.prog 137 #[.agg #[.int .i64 (j:Int),.int .i64 mo,.int .i64 rm,.slice a L.length cap],.int .i64 (v.i:Int),.slice (some ⟨sb,0,none⟩) L.length scap] w λen w'=>∃g:Unit,en=.returned (.tuple #[])/\True/\HS w (fps [.blk sb 4 tot (Xr L.length S)]) [.blk sb 4 tot (Xr L.length (mkS (vis (pln L) f v) S))] w'
theorem QwB(w:World)(j:Nat)(mo rm:Int)(a:Option Addr)(cap:Nat)(L:List LNd)(sb scap tot:Nat)(S:List Int)(v:Vis)(P:List Nat)(f:Nat)(hw:HS w (fps [.blk sb 4 tot (Xr L.length S)]) [.blk sb 4 tot (Xr L.length S)] w)(hs:Nt w (fps [.blk sb 4 tot (Xr L.length S)]) a L)(hT:TOk (j:Int) (pln L))(hB:Bd (pln L))(h0:0<L.length)(hway:Gx.Way (pln L) (v.i::P))(hf:P.length+(f+1)=L.length)(ih:MkC j mo rm a cap L sb scap tot f):CE 137 #[.agg #[.int .i64 (j:Int),.int .i64 mo,.int .i64 rm,.slice a L.length cap],.int .i64 (v.i:Int),.slice (some ⟨sb,0,none⟩) L.length scap] w (fps [.blk sb 4 tot (Xr L.length S)]) (λg:Unit=>.tuple #[]) (λg=>True) λg=>[.blk sb 4 tot (Xr L.length (mkS (vis (pln L) (f+1) v) S))]:=by
 have hi0:=Qcy hT (by rw[Qd];exact h0) hway v.i (List.mem_cons_self ..)
 have hi:v.i<L.length:=by rw[Qd]at hi0;exact hi0
 have hn:=Qr hi
 have hle:=hB.len
 rw[Qd]at hle
 have hcl:=hB.cs v.i hi0
 rw[hn]at hcl
 simp only[LNd.pl]at hcl
 refine eW3 Tryz.func137 Tryz.ntmps137 hw ?_
 refine aU2 ?_
 refine oBx λb1 _=>?_
 refine aU5 ?_
 refine o_p (Qa rfl rfl rfl Qbc (v.i) om om rfl) rfl (Qf (show _=Value.pointer (some ⟨sb,v.i,none⟩)from by rw[Nat.zero_add,Nat.mul_one]) (Qah (Q8 rfl rfl rfl Qdm rfl aPt (by rw[QbC];show _+1<=_;omega) rfl) (λ_ _=>aU6 ?_)))
 refine Qo (α:=Nat) [6,10,11,12,13,14,15,16,17,18,19,20,21,22,23,24,25,26,27,28,29,30,31,32] (λk=>[(6,.int .i64 (k:Int))]) (λk=>HS w (fps [.blk sb 4 tot (Xr L.length S)]) [.blk sb 4 tot (Xr L.length (mkS (QbA (pln L) f v k) S)),.blk b1 37 4 [.int .i64 (j:Int),.int .i64 mo,.int .i64 rm,.slice a L.length cap]]) (λk=>k<=(nth L v.i).cs.length) (λk=>(nth L v.i).cs.length-k) 0 (Nat.zero_le _) aSx (λw h=>by have h2:=h;rw[show Qq (Xr L.length S) v.i (Value.cells (.bool true)).toList=Xr L.length (((v.i:Nat):Int)::S)from Qkf hi]at h2;exact h2.ent aEt) (λk hk1=>?_)
 refine aU7 ?_
 refine o_p (Qa rfl rfl rfl QH (v.i) om om (Rw.some hs.1 om)) rfl (aU ?_)
 refine o_q (Qc rfl rfl Ya ((hs.1.rdj 2 hi rfl))) rfl (aU3 ?_)
 refine sCd rfl (λh2=>?_) λh2=>?_
 ·have hkl:k<(nth L v.i).cs.length:=by omega
  have hkid:=Qdx hT hi0 (k:=k) (by rw[hn];exact hkl)
  rw[hn,Qd]at hkid
  simp only[LNd.pl]at hkid
  have hway2:=QbT hway hi0 (k:=k) (by rw[hn];exact hkl) (by rw[hn];simp only[LNd.pl];omega)
  refine aU3 ?_
  refine Qu [11] QG ?_
  refine dLn 0 [[]] ?_
  refine dFa 1 ?_
  refine dLd 2 [[9,8,6,5,4]] ?_
  refine dP 3 ?_
  refine dV 4 rfl (Qa rfl rfl rfl QH (v.i) om om (Rw.some hs.1 om)) (dFa 5 ?_)
  refine dQ 6 [[9,8]] rfl (Qc rfl rfl Ya ((hs.1.rdj 2 hi rfl))) (dP 7 ?_)
  refine dV 8 rfl (Qa rfl rfl rfl QM (k) om om (Rw.some (hs.cs hi) om)) (dQ 9 [[]] rfl (Qc rfl rfl Ye (((hs.cs hi).rdj 0 (i:=k) hkl rfl))) (Qv (show _=Value.int .i64 ((X8 (pln L) v k).i:Int)from by rw[X8,hn];exact congrArg (Value.int .i64) (Int.toNat_of_nonneg (show 0<=(nth L v.i).cs.getD k 0 by omega)).symm) (dP 10 ?_)))
  refine dH 11 rfl (QE (Cs:=[.blk sb 4 tot (Xr L.length (mkS (QbA (pln L) f v k) S))]) rfl QpC rfl aPs (λw1 h1 hf9=>ih w1 (mkS (QbA (pln L) f v k) S) (X8 (pln L) v k) (v.i::P) hf9 ((hs.keep h1).mono (Xm aPs)) hT hB h0 hway2 (by simp only[List.length_cons];omega))) (λ_ _=>dTu [] ?_)
  refine dNi ?_
  refine aT4 ?_
  refine aU2 ?_
  exact QK (k+1) om om aSx (λw h=>by rw[Yj,Qsl];exact h.ent aEt)
 obtain rfl:k=(nth L v.i).cs.length:=om
 refine Qh rfl ?_
 exact Za rfl (λw' h'=>⟨(),rfl,trivial,by rw[ZN,hn];exact h'.ent aEt⟩)
theorem c137(j:Nat)(mo rm:Int)(a:Option Addr)(cap:Nat)(L:List LNd)(sb scap tot:Nat):∀f,MkC j mo rm a cap L sb scap tot f
  | 0=>λw S v P hw hs hT hB h0 hway hf=>by
    have h1:=YK hT (by rw[Qd];exact h0) hway;rw[Qd,List.length_cons]at h1;omega
  | f+1=>λw S v P hw hs hT hB h0 hway hf=>QwB w j mo rm a cap L sb scap tot S v P f hw hs hT hB h0 hway hf (c137 j mo rm a cap L sb scap tot f)
end Go.Proofs
namespace Gx
open Go Go.RowKit
def StK(w:World)(p:Option Addr)(n:Nat)(o:Option (List UInt8)):Prop:=match o with
 | none=>n=0
 | some k=>n=1/\∃b off,p=some ⟨b,off,none⟩/\Rd w [] b off (.string (bs k))
theorem StK.later{w w':World}{As:List HA}{p:Option Addr}{n:Nat}{o:Option (List UInt8)}(h:StK w p n o)(hs:HS w [] As w'):StK w' p n o:=by
 cases o with
 | none=>exact h
 | some k=>
  obtain⟨h1,b,off,h2,h3⟩:=h;exact⟨h1,b,off,h2,h3.next hs⟩
theorem StK.of_pos{w:World}{p:Option Addr}{n:Nat}{o:Option (List UInt8)}(h:StK w p n o)(hn:0<n):∃k b off,o=some k/\n=1/\p=some ⟨b,off,none⟩/\Rd w [] b off (.string (bs k)):=by
 cases o with
 | none=>
  have:n=0:=h;omega
 | some k=>
  obtain⟨h1,b,off,h2,h3⟩:=h;exact⟨k,b,off,rfl,h1,h2,h3⟩
theorem StK.of_no{w:World}{p:Option Addr}{n:Nat}{o:Option (List UInt8)}(h:StK w p n o)(hn:¬0<n):o=none:=by
 cases o with
 | none=>rfl
 | some k=>
  obtain⟨h1,_⟩:=h;omega
theorem StK.new{w:World}{b:Nat}{k:List UInt8}(h:Rd w [] b 0 (.string (bs k))):StK w (some ⟨b,0,none⟩) 1 (some k):=⟨rfl,b,0,rfl,h⟩
theorem Qft{es:List TEnt}{k:Nat}{lo:Option (List UInt8)}(h:0<k):loK es k lo=some (nth es (k-1)).key:=if_pos h
theorem QiP{es:List TEnt}{k:Nat}{lo:Option (List UInt8)}(h:¬0<k):loK es k lo=lo:=if_neg h
theorem Qfu{es:List TEnt}{k:Nat}{hi:Option (List UInt8)}(h:k<es.length):hiK es k hi=some (nth es k).key:=if_pos h
theorem QhT{es:List TEnt}{k:Nat}{hi:Option (List UInt8)}(h:¬k<es.length):hiK es k hi=hi:=if_neg h
theorem YF{t:Tre}{deep:Int}:∀(A B:List Vis),Ys t deep (A++B)=if(Ys t deep A).2=0 then Ys t deep B else Ys t deep A
 | [],B=>rfl
 | v::A,B=>by
  rw[List.cons_append,Ys,Ys]
  by_cases h:Qcc t deep v=0
  ·rw[if_pos h,if_pos h];exact YF A B
  ·rw[if_neg h,if_neg h,if_neg h]
theorem QsH{t:Tre}{v:Vis}{N R:Nd}(hN:nth t.ns v.i=N)(hR:nth t.ns 0=R)(h1:R.cs.length=0\/R.cs.length=R.es.length+1)(h2:∀c∈R.cs,1<=c):ZS t v=true ↔ (v.i≠0/\(N.es.length:Int)<t.mo/2)\/(((R.es.length=0/\R.cs.length=1)/\R.cs.getD 0 0=(v.i:Int))/\(N.es.length:Int)<=t.rm):=by
 subst hN hR;unfold ZS;simp only[Bool.and_eq_true,Bool.or_eq_true,decide_eq_true_eq];constructor
 ·rintro⟨h3,h4|⟨⟨h4,h5⟩,h6⟩⟩
  ·exact .inl ⟨om,h4⟩
  ·refine .inr ⟨⟨⟨h4,?_⟩,?_⟩,h6⟩
   ·rcases h1 with h1|h1
    ·rw[List.eq_nil_of_length_eq_zero h1]at h5;cases h5
    ·omega
   ·have hl:(nth t.ns 0).cs.length=1:=by
     rcases h1 with h1|h1
     ·rw[List.eq_nil_of_length_eq_zero h1]at h5;cases h5
     ·omega
    obtain⟨c,hc⟩:=List.length_eq_one_iff.1 hl;rw[hc]at h5 ⊢;exact(List.mem_singleton.1 h5).symm
 ·rintro(⟨h3,h4⟩|⟨⟨⟨h4,h5⟩,h6⟩,h7⟩)
  ·exact⟨om,.inl h4⟩
  ·obtain⟨c,hc⟩:=List.length_eq_one_iff.1 h5;have h8:=h2 c (by rw[hc];exact List.mem_singleton.2 rfl);rw[hc]at h6 ⊢;have h9:c=(v.i:Int):=h6;exact⟨om,.inr ⟨⟨h4,List.mem_singleton.2 h9.symm⟩,h7⟩⟩
theorem QiU{t:Tre}{deep:Int}{v:Vis}(h:ZS t v=true):Qcc t deep v=14:=by rw[QaZ,if_pos h]
theorem QqZ{t:Tre}{deep:Int}{v:Vis}(h:¬ZS t v=true)(h2:ZO t v=true):Qcc t deep v=9:=by rw[QaZ,if_neg h,if_pos h2]
theorem Qsu{t:Tre}{deep:Int}{v:Vis}(h:¬ZS t v=true)(h2:¬ZO t v=true)(h3:(nth t.ns v.i).cs.length=0/\v.d≠deep+1):Qcc t deep v=22:=by rw[QaZ,if_neg h,if_neg h2,if_pos h3]
theorem QrY{t:Tre}{deep:Int}{v:Vis}(h:¬ZS t v=true)(h2:¬ZO t v=true)(h3:¬((nth t.ns v.i).cs.length=0/\v.d≠deep+1)):Qcc t deep v=0:=by rw[QaZ,if_neg h,if_neg h2,if_neg h3]
theorem QoD{t:Tre}{v:Vis}{N:Nd}{k:Nat}(hN:nth t.ns v.i=N)(hk:k<N.es.length)(h:Qae t v (nth N.es k)=true):ZO t v=true:=by
 subst hN;exact List.any_eq_true.2 ⟨_,Qz hk,h⟩
theorem Qsi{t:Tre}{v:Vis}{N:Nd}(hN:nth t.ns v.i=N)(h:∀q,q<N.es.length->¬Qae t v (nth N.es q)=true):¬ZO t v=true:=λh2=>by
 subst hN;obtain⟨x,hx,h3⟩:=List.any_eq_true.1 h2;obtain⟨q,hq,e⟩:=List.getElem_of_mem hx;have e2:nth (nth t.ns v.i).es q=x:=QS (by rw[List.getElem?_eq_getElem hq,e]);exact h q hq (by rw[e2];exact h3)
theorem Qel{t:Tre}{v:Vis}{x:TEnt}:Qae t v x=true ↔ (∃b,v.lo=some b/\0<=QN t.co b x.key)\/(∃b,v.hi=some b/\0<=QN t.co x.key b):=by
 unfold Qae;cases v.lo<;>cases v.hi<;>simp
section
variable{t:Tre}{v:Vis}{x:TEnt}{kl kh:List UInt8}
theorem Qv9(h1:v.lo=some kl)(h:0<=QN t.co kl x.key):(true=true ↔ Qae t v x=true):=⟨λ_=>Qel.2 (.inl ⟨kl,h1,h⟩),λ_=>rfl⟩
theorem Qwq(h1:v.lo=some kl)(h:¬0<=QN t.co kl x.key)(h2:v.hi=some kh):(decide (QN t.co x.key kh>=0)=true ↔ Qae t v x=true):=by
 rw[decide_eq_true_eq,Qel,h1,h2];constructor
 ·exactλh9=>.inr ⟨kh,rfl,h9⟩
 ·rintro(⟨b,hb,h9⟩|⟨b,hb,h9⟩)
  ·cases hb;exact absurd h9 h
  ·cases hb;exact h9
theorem Qwv(h1:v.lo=some kl)(h:¬0<=QN t.co kl x.key)(h2:v.hi=none):(false=true ↔ Qae t v x=true):=by
 rw[Qel,h1,h2];constructor
 ·exactλh9=>(nomatch h9)
 ·rintro(⟨b,hb,h9⟩|⟨b,hb,h9⟩)
  ·cases hb;exact absurd h9 h
  ·cases hb
theorem Qv0(h1:v.lo=none)(h2:v.hi=some kh):(decide (QN t.co x.key kh>=0)=true ↔ Qae t v x=true):=by
 rw[decide_eq_true_eq,Qel,h1,h2];constructor
 ·exactλh9=>.inr ⟨kh,rfl,h9⟩
 ·rintro(⟨b,hb,h9⟩|⟨b,hb,h9⟩)
  ·cases hb
  ·cases hb;exact h9
theorem QwC(h1:v.lo=none)(h2:v.hi=none):(false=true ↔ Qae t v x=true):=by
 rw[Qel,h1,h2];constructor
 ·exactλh9=>(nomatch h9)
 ·rintro(⟨b,hb,h9⟩|⟨b,hb,h9⟩)<;>cases hb
end
theorem Qd4{t:Tre}{deep:Int}{f:Nat}{v:Vis}(h:¬Qcc t deep v=0):Ys t deep (vis t.ns (f+1) v)=((v.i:Int),Qcc t deep v):=by
 rw[vis,Ys,if_neg h]
theorem Qvs{t:Tre}{deep:Int}{f:Nat}{v:Vis}(h:Qcc t deep v=0):(Ys t deep (QbA t.ns f v 0)).2=0:=by
 rw[Qlh,Ys,if_pos h];rfl
end Gx
namespace Go.Proofs
open Go Go.RowKit Gx
attribute [local irreducible] Go.Calls Gx.S Gx.O Gx.D Gx.OpP Gx.OpQ Gx.OpH
set_option maxRecDepth 20000
theorem QeV:tsl Tryz.prog 241=some (9,1,16):=by kernel_rfl
theorem Qt8:XX Tryz.prog 9=some [.string (bs [])]:=by kernel_rfl
theorem Qgo:QQ Tryz.prog 138=true:=by kernel_rfl
instance:TFn Tryz.prog 138:=⟨Qgo⟩
def PlC(j:Nat)(mo rm:Int)(a:Option Addr)(cap:Nat)(L:List LNd)(deep:Int)(f:Nat):Prop:=∀(w:World)(v:Vis)(P:List Nat)(lv:Int)(pa qa:Option Addr)(pn pc qn qc:Nat),(Nt w [] a L)->(j<=3)->((0<=mo/\mo<=1000)/\(0<=deep/\deep<=1000))->(TOk (j:Int) (pln L))->(Bd (pln L))->(0<L.length)->(Gx.Way (pln L) (v.i::P))->(v.d=(P.length:Int)+1)->(lv=deep+1-v.d)->(KOk (j:Int) v.lo)->(KOk (j:Int) v.hi)->(StK w pa pn v.lo)->(StK w qa qn v.hi)->P.length+f=L.length->Calls Tryz.prog 138 #[.agg #[.int .i64 (j:Int),.int .i64 mo,.int .i64 rm,.slice a L.length cap],.int .i64 (v.i:Int),.int .i64 lv,.slice pa pn pc,.slice qa qn qc] w λen w'=>en=.returned (.tuple #[.int .i64 (Ys (⟨(j:Int),mo,rm,pln L⟩:Tre) deep (vis (pln L) f v)).1,.int .i64 (Ys (⟨(j:Int),mo,rm,pln L⟩:Tre) deep (vis (pln L) f v)).2])/\Below w.heap.size w w'
theorem QvI(w:World)(j:Nat)(mo rm:Int)(a:Option Addr)(cap:Nat)(L:List LNd)(deep:Int)(v:Vis)(P:List Nat)(lv:Int)(pa qa:Option Addr)(pn pc qn qc:Nat)(f:Nat)(hs:Nt w [] a L)(hj:j<=3)(hmo:(0<=mo/\mo<=1000)/\(0<=deep/\deep<=1000))(hT:TOk (j:Int) (pln L))(hB:Bd (pln L))(h0:0<L.length)(hway:Gx.Way (pln L) (v.i::P))(hd:v.d=(P.length:Int)+1)(hlv:lv=deep+1-v.d)(hko:KOk (j:Int) v.lo)(hkp:KOk (j:Int) v.hi)(hlo:StK w pa pn v.lo)(hhi:StK w qa qn v.hi)(hf:P.length+(f+1)=L.length)(ih:PlC j mo rm a cap L deep f):CR 138 #[.agg #[.int .i64 (j:Int),.int .i64 mo,.int .i64 rm,.slice a L.length cap],.int .i64 (v.i:Int),.int .i64 lv,.slice pa pn pc,.slice qa qn qc] w (.tuple #[.int .i64 (Ys (⟨(j:Int),mo,rm,pln L⟩:Tre) deep (vis (pln L) (f+1) v)).1,.int .i64 (Ys (⟨(j:Int),mo,rm,pln L⟩:Tre) deep (vis (pln L) (f+1) v)).2]):=by
 have hi0:=Qcy hT (by rw[Qd];exact h0) hway v.i (List.mem_cons_self ..)
 have hi:v.i<L.length:=by rw[Qd]at hi0;exact hi0
 have hn:=Qr hi
 have hn0:=Qr h0
 have hle:=hB.len
 rw[Qd]at hle
 have hwl:=YK hT (by rw[Qd];exact h0) hway
 rw[Qd,List.length_cons]at hwl
 have hcl:=hB.cs v.i hi0
 have hel:=hB.es v.i hi0
 rw[hn]at hcl hel
 simp only[LNd.pl]at hcl hel
 have hsh:=hT.shape v.i hi0
 rw[hn]at hsh
 simp only[LNd.pl]at hsh
 have hgi:=QsH (t:=(⟨(j:Int),mo,rm,pln L⟩:Tre)) (v:=v) hn hn0 (hn0▸hT.shape 0 (by rw[Qd];exact h0)) (λc hc=>(hT.kid 0 (by rw[Qd];exact h0) c (by rw[hn0];exact hc)).1.1)
 simp only[LNd.pl]at hgi
 have hE9:=Qeb hT hi0
 rw[hn]at hE9
 simp only[LNd.pl]at hE9
 refine eN5 Tryz.func138 Tryz.ntmps138 ?_
 refine aU2 ?_
 refine oBx λb1 _=>?_
 refine aU8 ?_
 refine o_p (Qa rfl rfl rfl QH (v.i) om om (Rw.some hs.1 om)) rfl (o_q (QI _ rfl rfl Xv rfl (Rw.rd hs.1 hi)) rfl (oAl (λb2 _=>?_) Xc))
 refine aU8 ?_
 refine X0 8 27 35 rfl
  (λhg3 _=>by
   refine Zw ?_
   refine o_p (XC rfl rfl rfl om om om) rfl (aU2 ?_)
   exact oJt 8 35)
  (λhg5 _=>by
   refine aU7 ?_
   exact oJf 8 35) ?_
 refine aU ?_
 refine sCd rfl (λh7=>?_) λh7=>?_
 ·have hgp:ZS (⟨(j:Int),mo,rm,pln L⟩:Tre) v=true:=hgi.2 (.inl (by have hq:=h7;omega))
  have hV:=QiU (deep:=deep) hgp
  refine aU6 ?_
  exact Qj (rs:=[.tmp 10,.tmp 11]) rfl (.tmp rfl (.tmp rfl (.nil))) (λw' h'=>⟨by rw[Qd4 (by rw[hV];decide),hV];rfl,h'.below⟩)
 have hng1:¬(v.i≠0/\((nth L v.i).es.length:Int)<mo/2):=by have hq:=h7;omega
 refine aU6 ?_
 refine o_p (Qa rfl rfl rfl QH (0) om om (Rw.some hs.1 om)) rfl (aU ?_)
 refine o_q (Qc rfl rfl YE ((hs.1.rdj 1 h0 rfl))) rfl (aU3 ?_)
 refine X0 8 44 52 rfl
  (λhg8 _=>by
   refine aU5 ?_
   refine o_p (Qa rfl rfl rfl QH (0) om om (Rw.some hs.1 om)) rfl (aU3 ?_)
   refine o_q (Qc rfl rfl Ya ((hs.1.rdj 2 h0 rfl))) rfl (aU4 ?_)
   exact oJt 8 52)
  (λhg10 _=>by
   refine aU7 ?_
   exact oJf 8 52) ?_
 refine aU ?_
 refine X0 10 53 63 rfl
  (λhg12 _=>by
   refine aU5 ?_
   refine o_p (Qa rfl rfl rfl QH (0) om om (Rw.some hs.1 om)) rfl (aU3 ?_)
   refine o_q (Qc rfl rfl Ya ((hs.1.rdj 2 h0 rfl))) rfl (aU ?_)
   refine o_p (Qa rfl rfl rfl QM (0) om om (Rw.some (hs.cs h0) om)) rfl (aU ?_)
   refine o_q (Qc rfl rfl Ye (((hs.cs h0).rdj 0 (i:=0) om rfl))) rfl (aU4 ?_)
   exact oJt 10 63)
  (λhg14 _=>by
   refine aU9 ?_
   exact oJf 10 63) ?_
 refine aU ?_
 refine X0 7 64 71 rfl
  (λhg16 _=>by
   refine Zg ?_
   exact oJt 7 71)
  (λhg18 _=>by
   refine aU6 ?_
   exact oJf 7 71) ?_
 refine aU ?_
 refine sCd rfl (λh20=>?_) λh20=>?_
 ·have hgp:ZS (⟨(j:Int),mo,rm,pln L⟩:Tre) v=true:=hgi.2 (.inr (by have hq:=h20;exact⟨⟨⟨om,om⟩,hq.1.2⟩,om⟩))
  have hV:=QiU (deep:=deep) hgp
  refine aU ?_
  refine Qe (L':=[(1,_),(2,_),(3,_),(4,_),(5,_),(10,_),(11,_),(12,_)]) aSx (λ_ h=>h) ?_
  refine aU5 ?_
  exact Qj (rs:=[.tmp 10,.tmp 11]) rfl (.tmp rfl (.tmp rfl (.nil))) (λw' h'=>⟨by rw[Qd4 (by rw[hV];decide),hV];rfl,h'.below⟩)
 have hgn:¬ZS (⟨(j:Int),mo,rm,pln L⟩:Tre) v=true:=λh9=>(hgi.1 h9).elim hng1 (λh8=>by have hq:=h20;rcases hq with((hq|hq)|hq)|hq<;>first|omega|exact hq h8.1.2)
 refine aU3 ?_
 refine Qe (L':=[(1,_),(2,_),(3,_),(4,_),(5,_),(10,_),(11,_),(12,_)]) aSx (λ_ h=>h) ?_
 refine aU4 ?_
 refine Qo (α:=Nat) [10,11,13,14,73,74,75,76,77,78,79,80,81,82,83,84,85,86,87,88,89,90,91,92,93,94,95,96,97,98,99,100,101,102,103,104,105,106,107,108,109,110,111,112,113,114] (λk=>[(13,.int .i64 (k:Int))]) (λ_=>HS w [] [.blk b1 37 4 [.int .i64 (j:Int),.int .i64 mo,.int .i64 rm,.slice a L.length cap],.blk b2 69 3 (LNd.vals (nth L v.i))]) (λk=>k<=(nth L v.i).es.length/\∀q,q<k->¬Qae (⟨(j:Int),mo,rm,pln L⟩:Tre) v (nth (nth L v.i).es q)=true) (λk=>(nth L v.i).es.length-k) 0 ⟨Nat.zero_le _,λq h=>absurd h (Nat.not_lt_zero q)⟩ aSx (λw h=>h.ent aEt) (λk hx9=>?_)
 obtain⟨hk1,hk3⟩:=hx9
 refine aU9 ?_
 refine sCd rfl (λh21=>?_) λh21=>?_
 ·have hk5:k<(nth L v.i).es.length:=by omega
  refine aU8 ?_
  refine o_p (Qa rfl rfl rfl Qy (k) om om (Rw.some (hs.es hi) om)) rfl (aU ?_)
  refine o_q (Qc rfl rfl Zd (((hs.es hi).rdj 0 hk5 rfl))) rfl (aU3 ?_)
  refine Qe (L':=[(1,_),(2,_),(3,_),(4,_),(5,_),(12,_),(13,_),(14,_)]) aSx (λ_ h=>h) ?_
  refine QbX (α:=Bool) [86,87,88,89,90,91,92,93,94,95,96,97,98,99,100,101,102,103,104,105,106,107,108,109,110,111,112,113] (λx=>[(113,.bool x)]) (λx=>x=true ↔ (Qae (⟨(j:Int),mo,rm,pln L⟩:Tre) v (nth (nth L v.i).es k))=true) ?_ ?_
  ·skip
   refine Qu [] QG ?_
   refine dP 0 ?_
   refine dV 1 rfl (QX rfl rfl Tryz.underlying241) (dP 2 ?_)
   refine dP 3 ?_
   apply Xu 89
   ·exact rfl
   ·intro hg22
    have hs23:=hg22;try simp only[dT]at hs23
    refine dFo 4 89 hg22 ?_
    obtain⟨kl,bl,ol,hlo1,hlo2,hlo3,hlo4⟩:=hlo.of_pos om
    refine dQo 5 89 [] hg22 rfl rfl rfl (Yh rfl rfl Ye aPk rfl) ?_
    refine dPo 6 89 hg22 ?_
    refine dVo 7 89 hg22 rfl rfl rfl (Qa rfl rfl rfl QeV (0) om om hlo3) ?_
    refine dQo 8 89 [] hg22 rfl rfl rfl (Qc rfl rfl Zd (hlo4)) ?_
    refine dPo 9 89 hg22 ?_
    refine dQo 10 89 [] hg22 rfl rfl rfl (QA rfl Qgr rfl (λw1 h1=>c65 w1 j kl (nth (nth L v.i).es k).key hj (hko _ hlo1).1 (hE9 _ (Qz hk5)).1 (hko _ hlo1).2 (hE9 _ (Qz hk5)).2)) ?_
    refine dPo 11 89 hg22 ?_
    refine dV 12 rfl (Xq rfl rfl hg22 rfl) (dP 13 ?_)
    apply Xu 99
    ·exact rfl
    ·intro hg24
     have hs25:=hg24;try simp only[dT]at hs25
     refine dOf 14 99 hg24 ?_
     refine dOf 15 99 hg24 ?_
     refine dOf 16 99 hg24 ?_
     refine dOf 17 99 hg24 ?_
     refine dOu 18 103 ?_
     refine dOu 19 103 ?_
     refine dOu 20 103 ?_
     refine dOu 21 103 ?_
     refine dOu 22 103 ?_
     refine dOu 23 103 ?_
     refine dOu 24 103 ?_
     refine dOu 25 103 ?_
     refine dOf 26 99 hg24 ?_
     refine dV 27 rfl (Xq rfl rfl hg24 rfl) (dNi ?_)
     exact Qp true (Qv9 hlo1 (by show 0<=QN (j:Int) kl _;omega)) aSx (λw h=>h.ent aEt)
    intro hg26
    have hs27:=hg26;try simp only[dN]at hs27
    refine dPo 14 99 hg26 ?_
    refine dVo 15 99 hg26 rfl rfl rfl (QX rfl rfl Tryz.underlying241) ?_
    refine dPo 16 99 hg26 ?_
    refine dPo 17 99 hg26 ?_
    apply Xu 103
    ·exact rfl
    ·intro hg28
     have hs29:=hg28;try simp only[dT]at hs29
     refine dFo 18 103 hg28 ?_
     obtain⟨kh,bh,oh,hhi1,hhi2,hhi3,hhi4⟩:=hhi.of_pos om
     refine dQo 19 103 [] hg28 rfl rfl rfl (Yh rfl rfl Ye aPk rfl) ?_
     refine dPo 20 103 hg28 ?_
     refine dPo 21 103 hg28 ?_
     refine dVo 22 103 hg28 rfl rfl rfl (Qa rfl rfl rfl QeV (0) om om hhi3) ?_
     refine dQo 23 103 [] hg28 rfl rfl rfl (Qc rfl rfl Zd (hhi4)) ?_
     refine dQo 24 103 [] hg28 rfl rfl rfl (QA rfl Qgr rfl (λw1 h1=>c65 w1 j (nth (nth L v.i).es k).key kh hj (hE9 _ (Qz hk5)).1 (hkp _ hhi1).1 (hE9 _ (Qz hk5)).2 (hkp _ hhi1).2)) ?_
     refine dPo 25 103 hg28 ?_
     refine dVo 26 99 hg26 rfl rfl rfl (Xq rfl rfl hg28 rfl) ?_
     refine dV 27 rfl (Xe rfl rfl hg26 rfl) (dNi ?_)
     exact Qp (decide (QN (j:Int) (nth (nth L v.i).es k).key kh>=0)) (Qwq (t:=(⟨(j:Int),mo,rm,pln L⟩:Tre)) hlo1 (by show¬0<=QN (j:Int) kl _;omega) hhi1) aSx (λw h=>h.ent aEt)
    intro hg30
    have hs31:=hg30;try simp only[dN]at hs31
    refine dOf 18 103 hg30 ?_
    refine dOf 19 103 hg30 ?_
    refine dOf 20 103 hg30 ?_
    refine dOf 21 103 hg30 ?_
    refine dOf 22 103 hg30 ?_
    refine dOf 23 103 hg30 ?_
    refine dOf 24 103 hg30 ?_
    refine dOf 25 103 hg30 ?_
    refine dVo 26 99 hg26 rfl rfl rfl (Xe rfl rfl hg30 rfl) ?_
    refine dV 27 rfl (Xe rfl rfl hg26 rfl) (dNi ?_)
    exact Qp false (Qwv hlo1 (by show¬0<=QN (j:Int) kl _;omega) (hhi.of_no om)) aSx (λw h=>h.ent aEt)
   intro hg32
   have hs33:=hg32;try simp only[dN]at hs33
   refine dOf 4 89 hg32 ?_
   refine dOf 5 89 hg32 ?_
   refine dOf 6 89 hg32 ?_
   refine dOf 7 89 hg32 ?_
   refine dOf 8 89 hg32 ?_
   refine dOf 9 89 hg32 ?_
   refine dOf 10 89 hg32 ?_
   refine dOf 11 89 hg32 ?_
   refine dV 12 rfl (Xe rfl rfl hg32 rfl) (dP 13 ?_)
   apply Xu 99
   ·exact rfl
   ·intro hg34
    have hs35:=hg34;skip
    refine dOf 14 99 hg34 ?_
    refine dOf 15 99 hg34 ?_
    refine dOf 16 99 hg34 ?_
    refine dOf 17 99 hg34 ?_
    refine dOu 18 103 ?_
    refine dOu 19 103 ?_
    refine dOu 20 103 ?_
    refine dOu 21 103 ?_
    refine dOu 22 103 ?_
    refine dOu 23 103 ?_
    refine dOu 24 103 ?_
    refine dOu 25 103 ?_
    refine dOf 26 99 hg34 ?_
    refine dV 27 rfl (Xq rfl rfl hg34 rfl) (dNi ?_)
    exact Qp true (by exfalso;simp_all;done) aSx (λw h=>h.ent aEt)
   intro hg36
   have hs37:=hg36;skip
   refine dPo 14 99 hg36 ?_
   refine dVo 15 99 hg36 rfl rfl rfl (QX rfl rfl Tryz.underlying241) ?_
   refine dPo 16 99 hg36 ?_
   refine dPo 17 99 hg36 ?_
   apply Xu 103
   ·exact rfl
   ·intro hg38
    have hs39:=hg38;try simp only[dT]at hs39
    refine dFo 18 103 hg38 ?_
    obtain⟨kh,bh,oh,hhi1,hhi2,hhi3,hhi4⟩:=hhi.of_pos om
    refine dQo 19 103 [] hg38 rfl rfl rfl (Yh rfl rfl Ye aPk rfl) ?_
    refine dPo 20 103 hg38 ?_
    refine dPo 21 103 hg38 ?_
    refine dVo 22 103 hg38 rfl rfl rfl (Qa rfl rfl rfl QeV (0) om om hhi3) ?_
    refine dQo 23 103 [] hg38 rfl rfl rfl (Qc rfl rfl Zd (hhi4)) ?_
    refine dQo 24 103 [] hg38 rfl rfl rfl (QA rfl Qgr rfl (λw1 h1=>c65 w1 j (nth (nth L v.i).es k).key kh hj (hE9 _ (Qz hk5)).1 (hkp _ hhi1).1 (hE9 _ (Qz hk5)).2 (hkp _ hhi1).2)) ?_
    refine dPo 25 103 hg38 ?_
    refine dVo 26 99 hg36 rfl rfl rfl (Xq rfl rfl hg38 rfl) ?_
    refine dV 27 rfl (Xe rfl rfl hg36 rfl) (dNi ?_)
    exact Qp (decide (QN (j:Int) (nth (nth L v.i).es k).key kh>=0)) (Qv0 (t:=(⟨(j:Int),mo,rm,pln L⟩:Tre)) (hlo.of_no om) hhi1) aSx (λw h=>h.ent aEt)
   intro hg40
   have hs41:=hg40;try simp only[dN]at hs41
   refine dOf 18 103 hg40 ?_
   refine dOf 19 103 hg40 ?_
   refine dOf 20 103 hg40 ?_
   refine dOf 21 103 hg40 ?_
   refine dOf 22 103 hg40 ?_
   refine dOf 23 103 hg40 ?_
   refine dOf 24 103 hg40 ?_
   refine dOf 25 103 hg40 ?_
   refine dVo 26 99 hg36 rfl rfl rfl (Xe rfl rfl hg40 rfl) ?_
   refine dV 27 rfl (Xe rfl rfl hg36 rfl) (dNi ?_)
   exact Qp false (QwC (hlo.of_no om) (hhi.of_no om)) aSx (λw h=>h.ent aEt)
  intro x hx
  refine sCd rfl (λh42=>?_) λh42=>?_
  ·have hV:=QqZ (deep:=deep) hgn (QoD hn hk5 (hx.1 h42))
   refine aU6 ?_
   exact Qj (rs:=[.tmp 10,.tmp 11]) rfl (.tmp rfl (.tmp rfl (.nil))) (λw' h'=>⟨by rw[Qd4 (by rw[hV];decide),hV];rfl,h'.below⟩)
  have hz3:¬(Qae (⟨(j:Int),mo,rm,pln L⟩:Tre) v (nth (nth L v.i).es k))=true:=λh9=>by have h8:=hx.2 h9;simp_all
  refine aT5 ?_
  refine aU2 ?_
  exact sBk (k+1) om ⟨om,λq hq=>(Nat.lt_or_ge q k).elim (hk3 q) (λh9=>by obtain rfl:q=k:=om;exact hz3)⟩
 have hon:¬ZO (⟨(j:Int),mo,rm,pln L⟩:Tre) v=true:=Qsi hn (λq hq=>hk3 q (by have hq9:=hq;simp only[LNd.pl]at hq9;omega))
 refine Qh rfl ?_
 refine aU8 ?_
 refine X0 3 119 122 rfl
  (λhg43 _=>by
   refine aU4 ?_
   exact oJt 3 122)
  (λhg45 _=>by
   refine aU2 ?_
   exact oJf 3 122) ?_
 refine aU ?_
 refine sCd rfl (λh47=>?_) λh47=>?_
 ·have hV:=Qsu (deep:=deep) hgn hon (by rw[show((⟨(j:Int),mo,rm,pln L⟩:Tre)).ns=pln L from rfl,hn];have hq:=h47;simp only[LNd.pl];omega)
  refine aU6 ?_
  exact Qj (rs:=[.tmp 10,.tmp 11]) rfl (.tmp rfl (.tmp rfl (.nil))) (λw' h'=>⟨by rw[Qd4 (by rw[hV];decide),hV];rfl,h'.below⟩)
 have hV0:=QrY (deep:=deep) hgn hon (by rw[show((⟨(j:Int),mo,rm,pln L⟩:Tre)).ns=pln L from rfl,hn];have hq:=h47;simp only[LNd.pl];omega)
 refine aU7 ?_
 refine Qe (L':=[(1,_),(2,_),(3,_),(4,_),(5,_),(12,_),(13,_),(15,_)]) aSx (λ_ h=>h) ?_
 refine Qo (α:=Nat) [10,11,15,16,17,18,19,124,125,126,127,128,129,130,131,132,133,134,135,136,137,138,139,140,141,142,143,144,145,146,147,148,149,150,151,152,153,154,155,156,157,158,159,160,161,162,163,164,165,166,167,168,169,170,171,172] (λk=>[(15,.int .i64 (k:Int))]) (λ_=>HS w [] [.blk b1 37 4 [.int .i64 (j:Int),.int .i64 mo,.int .i64 rm,.slice a L.length cap],.blk b2 69 3 (LNd.vals (nth L v.i))]) (λk=>k<=(nth L v.i).cs.length/\(Ys (⟨(j:Int),mo,rm,pln L⟩:Tre) deep (QbA (pln L) f v k)).2=0) (λk=>(nth L v.i).cs.length-k) 0 ⟨Nat.zero_le _,Qvs hV0⟩ aSx (λw h=>h.ent aEt) (λk hx9=>?_)
 obtain⟨hk1,hk3⟩:=hx9
 refine aU9 ?_
 refine sCd rfl (λh48=>?_) λh48=>?_
 ·have hkl:k<(nth L v.i).cs.length:=by omega
  have hkid:=Qdx hT hi0 (k:=k) (by rw[hn];exact hkl)
  rw[hn,Qd]at hkid
  simp only[LNd.pl]at hkid
  have hway2:=QbT hway hi0 (k:=k) (by rw[hn];exact hkl) (by rw[hn];simp only[LNd.pl];omega)
  refine aU16 ?_
  refine sCd rfl (λh49=>?_) λh49=>?_
  ·have hk0:0<k:=by have hq:=h49;omega
   refine aT5 ?_
   refine o_p (Qa rfl rfl rfl Qy (k-1) om om (Rw.some (hs.es hi) om)) rfl (aU ?_)
   refine o_q (Qc rfl rfl Zd (((hs.es hi).rdj 0 (i:=k-1) om rfl))) rfl (o_h (Qg (cs:=[_]) rfl rfl QeV Qt8 rfl rfl rfl) rfl (λb50 _=>Zw ?_))
   refine sCd rfl (λh51=>?_) λh51=>?_
   ·have hk9:k<(nth L v.i).es.length:=by have hq:=h51;omega
    refine Qe (L':=[(1,_),(2,_),(3,_),(4,_),(5,_),(12,_),(13,_),(15,_),(16,_),(17,_)]) aSx (λ_ h=>h) ?_
    refine aU4 ?_
    refine o_p (Qa rfl rfl rfl Qy (k) om om (Rw.some (hs.es hi) om)) rfl (aU ?_)
    refine o_q (Qc rfl rfl Zd (((hs.es hi).rdj 0 (i:=k) om rfl))) rfl (o_h (Qg (cs:=[_]) rfl rfl QeV Qt8 rfl rfl rfl) rfl (λb52 _=>aU3 ?_))
    refine Qu [] QG ?_
    refine dLn 0 [] ?_
    refine dFa 1 ?_
    refine dLd 2 [] ?_
    refine dP 3 ?_
    refine dV 4 rfl (Qa rfl rfl rfl QM (k) om om (Rw.some (hs.cs hi) om)) (dQ 5 [] rfl (Qc rfl rfl Ye (((hs.cs hi).rdj 0 (i:=k) hkl rfl))) (Qv (show _=Value.int .i64 ((X8 (pln L) v k).i:Int)from by rw[X8,hn];exact congrArg (Value.int .i64) (Int.toNat_of_nonneg (show 0<=(nth L v.i).cs.getD k 0 by omega)).symm) (dP 6 ?_)))
    refine dP 7 ?_
    try refine dWr ?_
    refine dP 8 ?_
    refine dP 9 ?_
    refine dQ 10 [] rfl (QA rfl Qgo rfl (λw1 h1=>ih w1 (X8 (pln L) v k) (v.i::P) (lv-1) _ _ _ _ _ _ (hs.later h1) hj hmo hT hB h0 hway2 (by simp only[X8,List.length_cons];omega) (by simp only[X8];omega) (Qf0 hT hi0 (by rw[hn];show k<=(nth L v.i).es.length;omega) hko) (QgG hT hi0 hkp) (by show StK w1 _ _ (loK (nth (pln L) v.i).es k v.lo);rw[hn];show StK w1 _ _ (loK (nth L v.i).es k v.lo);first|(rw[Qft hk0];exact StK.new (h1.rd_blk (Mc:=[]) aPk rfl (by simp)))|(rw[QiP hk0];exact hlo.later h1)) (by show StK w1 _ _ (hiK (nth (pln L) v.i).es k v.hi);rw[hn];show StK w1 _ _ (hiK (nth L v.i).es k v.hi);first|(rw[Qfu hk9];exact StK.new (h1.rd_blk (Mc:=[]) aPk rfl (by simp)))|(rw[QhT hk9];exact hhi.later h1)) (by simp only[List.length_cons];omega))) (dP 11 ?_)
    refine dP 12 ?_
    refine dP 13 ?_
    refine dP 14 ?_
    refine dP 15 ?_
    refine dNi ?_
    refine aU ?_
    refine Qe (L':=[(1,_),(2,_),(3,_),(4,_),(5,_),(12,_),(13,_),(15,_),(18,_),(19,_)]) aSx (λ_ h=>h) ?_
    refine aU4 ?_
    refine sCd rfl (λh53=>?_) λh53=>?_
    ·have hbad:Ys (⟨(j:Int),mo,rm,pln L⟩:Tre) deep (vis (pln L) (f+1) v)=Ys (⟨(j:Int),mo,rm,pln L⟩:Tre) deep (vis (pln L) f (X8 (pln L) v k)):=by rw[ZN,hn];obtain⟨B9,hB9⟩:=Qbq (pln L) f v (show k+1<=(nth L v.i).pl.cs.length by show k+1<=(nth L v.i).cs.length;omega);rw[hB9,Yj,List.append_assoc,YF,if_pos hk3,YF,if_neg h53]
     refine aU7 ?_
     exact Qj (rs:=[.tmp 10,.tmp 11]) rfl (.tmp rfl (.tmp rfl (.nil))) (λw' h'=>⟨by rw[hbad];rfl,h'.below⟩)
    have hgood:(Ys (⟨(j:Int),mo,rm,pln L⟩:Tre) deep (QbA (pln L) f v (k+1))).2=0:=by rw[Yj,YF,if_pos hk3];have hq:=h53;omega
    refine aT5 ?_
    refine aU2 ?_
    exact sBk (k+1) om ⟨om,hgood⟩
   have hk9:¬k<(nth L v.i).es.length:=by have hq:=h51;omega
   refine aU2 ?_
   refine Qe (L':=[(1,_),(2,_),(3,_),(4,_),(5,_),(12,_),(13,_),(15,_),(16,_),(17,_)]) aSx (λ_ h=>h) ?_
   refine Qu [] QG ?_
   refine dLn 0 [] ?_
   refine dFa 1 ?_
   refine dLd 2 [] ?_
   refine dP 3 ?_
   refine dV 4 rfl (Qa rfl rfl rfl QM (k) om om (Rw.some (hs.cs hi) om)) (dQ 5 [] rfl (Qc rfl rfl Ye (((hs.cs hi).rdj 0 (i:=k) hkl rfl))) (Qv (show _=Value.int .i64 ((X8 (pln L) v k).i:Int)from by rw[X8,hn];exact congrArg (Value.int .i64) (Int.toNat_of_nonneg (show 0<=(nth L v.i).cs.getD k 0 by omega)).symm) (dP 6 ?_)))
   refine dP 7 ?_
   try refine dWr ?_
   refine dP 8 ?_
   refine dP 9 ?_
   refine dQ 10 [] rfl (QA rfl Qgo rfl (λw1 h1=>ih w1 (X8 (pln L) v k) (v.i::P) (lv-1) _ _ _ _ _ _ (hs.later h1) hj hmo hT hB h0 hway2 (by simp only[X8,List.length_cons];omega) (by simp only[X8];omega) (Qf0 hT hi0 (by rw[hn];show k<=(nth L v.i).es.length;omega) hko) (QgG hT hi0 hkp) (by show StK w1 _ _ (loK (nth (pln L) v.i).es k v.lo);rw[hn];show StK w1 _ _ (loK (nth L v.i).es k v.lo);first|(rw[Qft hk0];exact StK.new (h1.rd_blk (Mc:=[]) aPk rfl (by simp)))|(rw[QiP hk0];exact hlo.later h1)) (by show StK w1 _ _ (hiK (nth (pln L) v.i).es k v.hi);rw[hn];show StK w1 _ _ (hiK (nth L v.i).es k v.hi);first|(rw[Qfu hk9];exact StK.new (h1.rd_blk (Mc:=[]) aPk rfl (by simp)))|(rw[QhT hk9];exact hhi.later h1)) (by simp only[List.length_cons];omega))) (dP 11 ?_)
   refine dP 12 ?_
   refine dP 13 ?_
   refine dP 14 ?_
   refine dP 15 ?_
   refine dNi ?_
   refine aU5 ?_
   refine sCd rfl (λh54=>?_) λh54=>?_
   ·have hbad:Ys (⟨(j:Int),mo,rm,pln L⟩:Tre) deep (vis (pln L) (f+1) v)=Ys (⟨(j:Int),mo,rm,pln L⟩:Tre) deep (vis (pln L) f (X8 (pln L) v k)):=by rw[ZN,hn];obtain⟨B9,hB9⟩:=Qbq (pln L) f v (show k+1<=(nth L v.i).pl.cs.length by show k+1<=(nth L v.i).cs.length;omega);rw[hB9,Yj,List.append_assoc,YF,if_pos hk3,YF,if_neg h54]
    refine aU7 ?_
    exact Qj (rs:=[.tmp 10,.tmp 11]) rfl (.tmp rfl (.tmp rfl (.nil))) (λw' h'=>⟨by rw[hbad];rfl,h'.below⟩)
   have hgood:(Ys (⟨(j:Int),mo,rm,pln L⟩:Tre) deep (QbA (pln L) f v (k+1))).2=0:=by rw[Yj,YF,if_pos hk3];have hq:=h54;omega
   refine aT5 ?_
   refine aU2 ?_
   exact sBk (k+1) om ⟨om,hgood⟩
  have hk0:¬0<k:=by have hq:=h49;omega
  refine Zo ?_
  refine sCd rfl (λh55=>?_) λh55=>?_
  ·have hk9:k<(nth L v.i).es.length:=by have hq:=h55;omega
   refine aU4 ?_
   refine o_p (Qa rfl rfl rfl Qy (k) om om (Rw.some (hs.es hi) om)) rfl (aU ?_)
   refine o_q (Qc rfl rfl Zd (((hs.es hi).rdj 0 (i:=k) om rfl))) rfl (o_h (Qg (cs:=[_]) rfl rfl QeV Qt8 rfl rfl rfl) rfl (λb56 _=>aU3 ?_))
   refine Qe (L':=[(1,_),(2,_),(3,_),(4,_),(5,_),(12,_),(13,_),(15,_),(16,_),(17,_)]) aSx (λ_ h=>h) ?_
   refine Qu [] QG ?_
   refine dLn 0 [] ?_
   refine dFa 1 ?_
   refine dLd 2 [] ?_
   refine dP 3 ?_
   refine dV 4 rfl (Qa rfl rfl rfl QM (k) om om (Rw.some (hs.cs hi) om)) (dQ 5 [] rfl (Qc rfl rfl Ye (((hs.cs hi).rdj 0 (i:=k) hkl rfl))) (Qv (show _=Value.int .i64 ((X8 (pln L) v k).i:Int)from by rw[X8,hn];exact congrArg (Value.int .i64) (Int.toNat_of_nonneg (show 0<=(nth L v.i).cs.getD k 0 by omega)).symm) (dP 6 ?_)))
   refine dP 7 ?_
   try refine dWr ?_
   refine dP 8 ?_
   refine dP 9 ?_
   refine dQ 10 [] rfl (QA rfl Qgo rfl (λw1 h1=>ih w1 (X8 (pln L) v k) (v.i::P) (lv-1) _ _ _ _ _ _ (hs.later h1) hj hmo hT hB h0 hway2 (by simp only[X8,List.length_cons];omega) (by simp only[X8];omega) (Qf0 hT hi0 (by rw[hn];show k<=(nth L v.i).es.length;omega) hko) (QgG hT hi0 hkp) (by show StK w1 _ _ (loK (nth (pln L) v.i).es k v.lo);rw[hn];show StK w1 _ _ (loK (nth L v.i).es k v.lo);first|(rw[Qft hk0];exact StK.new (h1.rd_blk (Mc:=[]) aPk rfl (by simp)))|(rw[QiP hk0];exact hlo.later h1)) (by show StK w1 _ _ (hiK (nth (pln L) v.i).es k v.hi);rw[hn];show StK w1 _ _ (hiK (nth L v.i).es k v.hi);first|(rw[Qfu hk9];exact StK.new (h1.rd_blk (Mc:=[]) aPk rfl (by simp)))|(rw[QhT hk9];exact hhi.later h1)) (by simp only[List.length_cons];omega))) (dP 11 ?_)
   refine dP 12 ?_
   refine dP 13 ?_
   refine dP 14 ?_
   refine dP 15 ?_
   refine dNi ?_
   refine aU5 ?_
   refine sCd rfl (λh57=>?_) λh57=>?_
   ·have hbad:Ys (⟨(j:Int),mo,rm,pln L⟩:Tre) deep (vis (pln L) (f+1) v)=Ys (⟨(j:Int),mo,rm,pln L⟩:Tre) deep (vis (pln L) f (X8 (pln L) v k)):=by rw[ZN,hn];obtain⟨B9,hB9⟩:=Qbq (pln L) f v (show k+1<=(nth L v.i).pl.cs.length by show k+1<=(nth L v.i).cs.length;omega);rw[hB9,Yj,List.append_assoc,YF,if_pos hk3,YF,if_neg h57]
    refine aU7 ?_
    exact Qj (rs:=[.tmp 10,.tmp 11]) rfl (.tmp rfl (.tmp rfl (.nil))) (λw' h'=>⟨by rw[hbad];rfl,h'.below⟩)
   have hgood:(Ys (⟨(j:Int),mo,rm,pln L⟩:Tre) deep (QbA (pln L) f v (k+1))).2=0:=by rw[Yj,YF,if_pos hk3];have hq:=h57;omega
   refine aT5 ?_
   refine aU2 ?_
   exact sBk (k+1) om ⟨om,hgood⟩
  have hk9:¬k<(nth L v.i).es.length:=by have hq:=h55;omega
  refine aU2 ?_
  refine Qu [] QG ?_
  refine dLn 0 [] ?_
  refine dFa 1 ?_
  refine dLd 2 [] ?_
  refine dP 3 ?_
  refine dV 4 rfl (Qa rfl rfl rfl QM (k) om om (Rw.some (hs.cs hi) om)) (dQ 5 [] rfl (Qc rfl rfl Ye (((hs.cs hi).rdj 0 (i:=k) hkl rfl))) (Qv (show _=Value.int .i64 ((X8 (pln L) v k).i:Int)from by rw[X8,hn];exact congrArg (Value.int .i64) (Int.toNat_of_nonneg (show 0<=(nth L v.i).cs.getD k 0 by omega)).symm) (dP 6 ?_)))
  refine dP 7 ?_
  try refine dWr ?_
  refine dP 8 ?_
  refine dP 9 ?_
  refine dQ 10 [] rfl (QA rfl Qgo rfl (λw1 h1=>ih w1 (X8 (pln L) v k) (v.i::P) (lv-1) _ _ _ _ _ _ (hs.later h1) hj hmo hT hB h0 hway2 (by simp only[X8,List.length_cons];omega) (by simp only[X8];omega) (Qf0 hT hi0 (by rw[hn];show k<=(nth L v.i).es.length;omega) hko) (QgG hT hi0 hkp) (by show StK w1 _ _ (loK (nth (pln L) v.i).es k v.lo);rw[hn];show StK w1 _ _ (loK (nth L v.i).es k v.lo);first|(rw[Qft hk0];exact StK.new (h1.rd_blk (Mc:=[]) aPk rfl (by simp)))|(rw[QiP hk0];exact hlo.later h1)) (by show StK w1 _ _ (hiK (nth (pln L) v.i).es k v.hi);rw[hn];show StK w1 _ _ (hiK (nth L v.i).es k v.hi);first|(rw[Qfu hk9];exact StK.new (h1.rd_blk (Mc:=[]) aPk rfl (by simp)))|(rw[QhT hk9];exact hhi.later h1)) (by simp only[List.length_cons];omega))) (dP 11 ?_)
  refine dP 12 ?_
  refine dP 13 ?_
  refine dP 14 ?_
  refine dP 15 ?_
  refine dNi ?_
  refine aU ?_
  refine Qe (L':=[(1,_),(2,_),(3,_),(4,_),(5,_),(12,_),(13,_),(15,_),(18,_),(19,_)]) aSx (λ_ h=>h) ?_
  refine aU4 ?_
  refine sCd rfl (λh58=>?_) λh58=>?_
  ·have hbad:Ys (⟨(j:Int),mo,rm,pln L⟩:Tre) deep (vis (pln L) (f+1) v)=Ys (⟨(j:Int),mo,rm,pln L⟩:Tre) deep (vis (pln L) f (X8 (pln L) v k)):=by rw[ZN,hn];obtain⟨B9,hB9⟩:=Qbq (pln L) f v (show k+1<=(nth L v.i).pl.cs.length by show k+1<=(nth L v.i).cs.length;omega);rw[hB9,Yj,List.append_assoc,YF,if_pos hk3,YF,if_neg h58]
   refine aU7 ?_
   exact Qj (rs:=[.tmp 10,.tmp 11]) rfl (.tmp rfl (.tmp rfl (.nil))) (λw' h'=>⟨by rw[hbad];rfl,h'.below⟩)
  have hgood:(Ys (⟨(j:Int),mo,rm,pln L⟩:Tre) deep (QbA (pln L) f v (k+1))).2=0:=by rw[Yj,YF,if_pos hk3];have hq:=h58;omega
  refine aT5 ?_
  refine aU2 ?_
  exact sBk (k+1) om ⟨om,hgood⟩
 obtain rfl:k=(nth L v.i).cs.length:=om
 have hfin:Ys (⟨(j:Int),mo,rm,pln L⟩:Tre) deep (vis (pln L) (f+1) v)=(0,0):=by rw[ZN,hn];exact Qle hk3
 refine Qh rfl ?_
 refine aU5 ?_
 exact Qj (rs:=[.tmp 10,.tmp 11]) rfl (.tmp rfl (.tmp rfl (.nil))) (λw' h'=>⟨by rw[hfin];rfl,h'.below⟩)
theorem c138(j:Nat)(mo rm:Int)(a:Option Addr)(cap:Nat)(L:List LNd)(deep:Int):∀f,PlC j mo rm a cap L deep f
  | 0=>λw v P lv pa qa pn pc qn qc hs hj hmo hT hB h0 hway hd hlv hko hkp hlo hhi hf=>by
    have h1:=YK hT (by rw[Qd];exact h0) hway;rw[Qd,List.length_cons]at h1;omega
  | f+1=>λw v P lv pa qa pn pc qn qc hs hj hmo hT hB h0 hway hd hlv hko hkp hlo hhi hf=>QvI w j mo rm a cap L deep v P lv pa qa pn pc qn qc f hs hj hmo hT hB h0 hway hd hlv hko hkp hlo hhi hf (c138 j mo rm a cap L deep f)
end Go.Proofs
namespace Gx
open Go Go.RowKit
theorem QtL{t:Tre}(h:¬QC t.co=0):XQ t=(0,QC t.co):=by rw[Qdb (by rw[if_neg h];exact h),if_neg h]
theorem QuR{t:Tre}(h:QC t.co=0)(h2:¬XI t.mo t.rm=0):XQ t=(0,XI t.mo t.rm):=by rw[Qdb (by rw[if_pos h];exact h2),if_pos h]
theorem QtV{t:Tre}(h:QC t.co=0)(h2:XI t.mo t.rm=0)(h3:¬0<t.ns.length):XQ t=(0,10):=by
 have e:ZM t.ns.length=10:=if_neg h3;rw[Qd6 (by rw[if_pos h];exact h2) (by rw[e];decide),e]
theorem Qu7{t:Tre}(h:QC t.co=0)(h2:XI t.mo t.rm=0)(h3:0<t.ns.length)(h4:¬t.ns.length<=120):XQ t=(0,8):=by
 have e:ZM t.ns.length=8:=by rw[ZM,if_pos h3,if_neg h4]
 rw[Qd6 (by rw[if_pos h];exact h2) (by rw[e];decide),e]
theorem QuK{t:Tre}(h:QC t.co=0)(h2:XI t.mo t.rm=0)(h3:0<t.ns.length)(h4:t.ns.length<=120):XQ t=if(X9 t t.ns.length 0 []).2=0 then Qb6 t else X9 t t.ns.length 0 []:=QeB (by rw[if_pos h];exact h2) (by rw[ZM,if_pos h3,if_pos h4])
theorem Qkv(n:Nat):Y4 [Value.bool false] n=Xr n []:=by
 rw[Qcx];apply List.ext_getElem?;intro i
 by_cases hi:i<n
 ·rw[Qbi hi,List.getElem?_replicate,if_pos hi];rfl
 ·rw[List.getElem?_eq_none (by rw[List.length_replicate];omega),List.getElem?_eq_none (by rw[QbC];omega)]
theorem Qkp{vs:List Vis}{k:Nat}:((k:Nat):Int)∈mkS vs [] ↔ k∈vs.map Vis.i:=by
 rw[QsB,List.mem_map];constructor
 ·rintro⟨v,hv,h⟩;exact⟨v,hv,om⟩
 ·rintro⟨v,hv,h⟩;exact⟨v,hv,om⟩
theorem Qjz(ns:List Nd):∀(f i:Nat),0<=YD ns f i/\YD ns f i<=f
 | 0,i=>by rw[YD];omega
 | f+1,i=>by
  rw[YD];split
  ·omega
  ·have:=Qjz ns f ((nth ns i).cs.getD 0 0).toNat;omega
theorem QoF{ns:List Nd}{f i:Nat}(h:(nth ns i).cs.length=0):YD ns f i=0:=by
 cases f with
 | zero=>rfl
 | succ f=>rw[YD,if_pos h]
theorem Qnw{ns:List Nd}{f i:Nat}(h0:0<f)(h:¬(nth ns i).cs.length=0):YD ns f i=YD ns (f-1) ((nth ns i).cs.getD 0 0).toNat+1:=by
 obtain⟨g,rfl⟩:∃g,f=g+1:=⟨f-1,om⟩;rw[YD,if_neg h];rfl
end Gx
namespace Go.Proofs
open Go Go.RowKit Gx
attribute [local irreducible] Go.Calls Gx.S Gx.O Gx.D Gx.OpP Gx.OpQ Gx.OpH
set_option maxRecDepth 20000
instance:TFn Tryz.prog 96:=⟨by kernel_rfl⟩
instance:TFn Tryz.prog 97:=⟨by kernel_rfl⟩
theorem QtZ:QQ Tryz.prog 136=true:=by kernel_rfl
instance:TFn Tryz.prog 71:=⟨by kernel_rfl⟩
theorem c71(w:World)(co mo rm:Int)(a:Option Addr)(cap:Nat)(L:List LNd)(hs:Nt w [] a L)(hB:Bd (pln L))(hkl:∀i,i<L.length->∀x∈(nth L i).es,x.key.length<=1000000):CR 71 #[.agg #[.int .i64 co,.int .i64 mo,.int .i64 rm,.slice a L.length cap]] w (.tuple #[.int .i64 (XQ (⟨co,mo,rm,pln L⟩:Tre)).1,.int .i64 (XQ (⟨co,mo,rm,pln L⟩:Tre)).2]):=by
 have hle:=hB.len
 rw[Qd]at hle
 have hes9:∀i,i<L.length->(nth L i).es.length<=1000:=λi hi=>by have h9:=hB.es i (by rw[Qd];exact hi);rw[Qr hi]at h9;exact h9
 have hcs9:∀i,i<L.length->(nth L i).cs.length<=1000:=λi hi=>by have h9:=hB.cs i (by rw[Qd];exact hi);rw[Qr hi]at h9;exact h9
 refine eN1 Tryz.func71 Tryz.ntmps71 ?_
 refine aU2 ?_
 refine oBx λb1 _=>?_
 refine aU8 ?_
 refine oCq rfl (λw1 h1=>c96 w1 _) (aU7 ?_)
 refine sCd rfl (λh2=>?_) λh2=>?_
 ·have hz:=QtL (t:=(⟨co,mo,rm,pln L⟩:Tre)) h2
  refine aU6 ?_
  exact Qj (rs:=[.tmp 2,.tmp 3]) rfl (.tmp rfl (.tmp rfl (.nil))) (λw' h'=>⟨by rw[hz];rfl,h'.below⟩)
 have hc0:QC co=0:=by have hq:=h2;omega
 obtain⟨j,rfl,hj⟩:=Qa7 hc0
 refine aU8 ?_
 refine oCq rfl (λw1 h1=>c97 w1 _ _) (aU7 ?_)
 refine sCd rfl (λh3=>?_) λh3=>?_
 ·have hz:=QuR (t:=(⟨(j:Int),mo,rm,pln L⟩:Tre)) hc0 h3
  refine aU6 ?_
  exact Qj (rs:=[.tmp 2,.tmp 3]) rfl (.tmp rfl (.tmp rfl (.nil))) (λw' h'=>⟨by rw[hz];rfl,h'.below⟩)
 have hc1:XI mo rm=0:=by have hq:=h3;omega
 have hsz2:(3<=mo/\mo<=8)/\(mo/2<=rm/\rm<=mo):=Qcn hc1
 have hTL:((⟨(j:Int),mo,rm,pln L⟩:Tre)).ns.length=L.length:=Qd L
 refine aU9 ?_
 refine sCd rfl (λh4=>?_) λh4=>?_
 ·have hz:=QtV (t:=(⟨(j:Int),mo,rm,pln L⟩:Tre)) hc0 hc1 (by rw[hTL];have hq:=h4;omega)
  refine aU5 ?_
  exact Qj (rs:=[.tmp 2,.tmp 3]) rfl (.tmp rfl (.tmp rfl (.nil))) (λw' h'=>⟨by rw[hz];rfl,h'.below⟩)
 have h00:0<L.length:=by have hq:=h4;omega
 refine aU9 ?_
 refine sCd rfl (λh5=>?_) λh5=>?_
 ·have hz:=Qu7 (t:=(⟨(j:Int),mo,rm,pln L⟩:Tre)) hc0 hc1 (by rw[hTL];exact h00) (by rw[hTL];have hq:=h5;omega)
  refine aU5 ?_
  exact Qj (rs:=[.tmp 2,.tmp 3]) rfl (.tmp rfl (.tmp rfl (.nil))) (λw' h'=>⟨by rw[hz];rfl,h'.below⟩)
 have h120:L.length<=120:=by have hq:=h5;omega
 have hz:=QuK (t:=(⟨(j:Int),mo,rm,pln L⟩:Tre)) hc0 hc1 (by rw[hTL];exact h00) (by rw[hTL];exact h120)
 rw[hTL]at hz
 refine aU6 ?_
 refine o_h (QeI (n:=L.length) rfl rfl rfl Qbc Que om om) rfl (λb6 _=>QZ (λw h=>(show HS _ _ [.blk b6 4 L.length (Xr L.length []),.blk b1 37 4 [.int .i64 (j:Int),.int .i64 mo,.int .i64 rm,.slice a L.length cap]] w from by have h9:=h;rw[Nat.mul_one,Qkv]at h9;exact h9.ent aEt)) (aU4 ?_))
 refine Qe (L':=[(1,_),(2,_),(3,_),(6,_)]) aSx (λ_ h=>h) ?_
 refine aU4 ?_
 refine Qo (α:=Nat×List Int) [2,3,7,8,39,40,41,42,43,44,45,46,47,48,49,50,51,52,53] (λx=>[(7,.int .i64 (x.1:Int))]) (λx=>HS w [] [.blk b6 4 L.length (Xr L.length x.2),.blk b1 37 4 [.int .i64 (j:Int),.int .i64 mo,.int .i64 rm,.slice a L.length cap]]) (λx=>x.1<=L.length/\(X9 (⟨(j:Int),mo,rm,pln L⟩:Tre) L.length 0 [])=X9 (⟨(j:Int),mo,rm,pln L⟩:Tre) (L.length-x.1) x.1 x.2) (λx=>L.length-x.1) (0,[]) ⟨Nat.zero_le _,rfl⟩ aSx (λw h=>h.ent aEt) (λ⟨k,S9⟩hx=>?_)
 dsimp only
 obtain⟨hk1,hk3⟩:=hx
 simp only[]at hk1 hk3
 refine aU9 ?_
 refine sCd rfl (λh7=>?_) λh7=>?_
 ·have hkl9:k<L.length:=by omega
  have hst:=QgI (t:=(⟨(j:Int),mo,rm,pln L⟩:Tre)) (k:=k) (seen:=S9) (by rw[hTL];exact hkl9)
  rw[hTL]at hst
  refine aU8 ?_
  refine o_h (QE (Cs:=[.blk b6 4 L.length (Xr L.length S9)]) rfl QtZ rfl aPs (λw1 h1 hf=>c136 w1 j mo rm a cap L k b6 L.length L.length S9 hf ((hs.keep h1).mono (Xm aPs)) hj hkl9 om (hes9 _ hkl9) (hcs9 _ hkl9) (hkl _ hkl9))) rfl (λ_ _=>aU7 ?_)
  refine sCd rfl (λh8=>?_) λh8=>?_
  ·have hz3:(X9 (⟨(j:Int),mo,rm,pln L⟩:Tre) L.length 0 [])=((k:Int),(X7 (⟨(j:Int),mo,rm,pln L⟩:Tre) k S9).1):=by rw[hk3,hst,if_neg h8]
   rw[hz3,if_neg (show¬(((k:Int),(X7 (⟨(j:Int),mo,rm,pln L⟩:Tre) k S9).1):Int×Int).2=0 from h8)]at hz
   refine aU7 ?_
   exact Qj (rs:=[.tmp 2,.tmp 3]) rfl (.tmp rfl (.tmp rfl (.nil))) (λw' h'=>⟨by rw[hz];rfl,h'.below⟩)
  have hz3:X9 (⟨(j:Int),mo,rm,pln L⟩:Tre) (L.length-k) k S9=X9 (⟨(j:Int),mo,rm,pln L⟩:Tre) (L.length-(k+1)) (k+1) (X7 (⟨(j:Int),mo,rm,pln L⟩:Tre) k S9).2:=by rw[hst,if_pos (by have hq:=h8;omega)]
  refine aT5 ?_
  refine aU2 ?_
  exact sBk (k+1,(X7 (⟨(j:Int),mo,rm,pln L⟩:Tre) k S9).2) (by(try simp only[]);omega) ⟨by(try simp only[]);omega,by simp only[];rw[hk3,hz3]⟩
 have hnd:(X9 (⟨(j:Int),mo,rm,pln L⟩:Tre) L.length 0 [])=(0,0):=by rw[hk3,show L.length-k=0 by omega];rfl
 rw[hnd,if_pos rfl]at hz
 have hT:TOk (j:Int) (pln L):=Qaa (t:=(⟨(j:Int),mo,rm,pln L⟩:Tre)) (by show(X9 (⟨(j:Int),mo,rm,pln L⟩:Tre) (pln L).length 0 []).2=0;rw[Qd,hnd])
 have hvis:vis (pln L) L.length Zr=YR (pln L):=by unfold YR;rw[Qd]
 refine Qh rfl ?_
 refine aU5 ?_
 refine o_h (QeI (n:=L.length) rfl rfl rfl Qbc Que om om) rfl (λb9 _=>QZ (λw h=>(show HS _ _ [.blk b9 4 L.length (Xr L.length []),.blk b1 37 4 [.int .i64 (j:Int),.int .i64 mo,.int .i64 rm,.slice a L.length cap]] w from by have h9:=h;rw[Nat.mul_one,Qkv]at h9;exact h9.ent aEt)) (aU6 ?_))
 refine o_h (QE (Cs:=[.blk b9 4 L.length (Xr L.length [])]) rfl QpC rfl aPs (λw1 h1 hf=>c137 j mo rm a cap L b9 L.length L.length L.length w1 [] Zr [] hf ((hs.keep h1).mono (Xm aPs)) hT hB h00 rfl (by simp))) rfl (λ_ _=>aU7 ?_)
 refine Qe (L':=[(1,_),(6,_),(7,_),(9,_),(10,_)]) aSx (λ_ h=>h) ?_
 refine Qo (α:=Nat) [2,3,10,61,62,63,64,65,66,67,68,69,70,71,72,73,74,75,76,77,78,79,80,81] (λk=>[(10,.int .i64 (k:Int))]) (λ_=>HS w [] [.blk b9 4 L.length (Xr L.length (mkS (vis (pln L) L.length Zr) [])),.blk b1 37 4 [.int .i64 (j:Int),.int .i64 mo,.int .i64 rm,.slice a L.length cap]]) (λk=>k<=L.length/\ZX (pln L) ((YR (pln L)).map Vis.i) L.length 0=ZX (pln L) ((YR (pln L)).map Vis.i) (L.length-k) k) (λk=>L.length-k) 0 ⟨Nat.zero_le _,rfl⟩ aSx (λw h=>h.ent aEt) (λk hx=>?_)
 obtain⟨hk1,hk2⟩:=hx
 refine aU9 ?_
 refine sCd rfl (λh10=>?_) λh10=>?_
 ·have hkl9:k<L.length:=by omega
  have hst:=QhL (ns:=pln L) (below:=((YR (pln L)).map Vis.i)) (k:=k) (by rw[Qd];exact hkl9)
  rw[Qd,Qr hkl9]at hst
  refine aU8 ?_
  refine o_p (Qa rfl rfl rfl QH (k) om om (Rw.some hs.1 om)) rfl (aU ?_)
  refine o_q (Qc rfl rfl Qdm ((hs.1.rdj 0 hkl9 rfl))) rfl (aU ?_)
  refine X0 6 74 80 rfl
   (λhg11 _=>by
    refine aU5 ?_
    refine o_p (Qa rfl rfl rfl Qbc (k) om om rfl) rfl (Qf (show _=Value.pointer (some ⟨b9,k,none⟩)from by rw[Nat.zero_add,Nat.mul_one]) (aU ?_))
    refine o_q (Qx rfl rfl Qdm (λw h=>h.rd_blk (Mc:=[]) aPk (Qbi hkl9) (by simp))) rfl (aU2 ?_)
    exact oJt 6 80)
   (λhg13 _=>by
    refine aU5 ?_
    exact oJf 6 80) ?_
  refine aU ?_
  refine sCd rfl (λh15=>?_) λh15=>?_
  ·have hz7:(nth L k).pl.us=true/\k ∉ ((YR (pln L)).map Vis.i):=by have hq:=h15;rw[<-Qkp,<-hvis];simp only[LNd.pl];simpa using hq
   have hz8:=hz.trans (QbF (t:=(⟨(j:Int),mo,rm,pln L⟩:Tre)) (i:=k) (show ZX (pln L) _ (pln L).length 0=some k from by rw[Qd,hk2,hst,if_pos hz7]))
   refine aU6 ?_
   exact Qj (rs:=[.tmp 2,.tmp 3]) rfl (.tmp rfl (.tmp rfl (.nil))) (λw' h'=>⟨by rw[hz8];rfl,h'.below⟩)
  have hz7:¬((nth L k).pl.us=true/\k ∉ ((YR (pln L)).map Vis.i)):=by have hq:=h15;rw[<-Qkp,<-hvis];simp only[LNd.pl];intro h9;exact hq.elim (λh8=>by rw[h8]at h9;cases h9.1) (λh8=>h9.2 h8)
  refine aT5 ?_
  refine aU2 ?_
  exact sBk (k+1) om ⟨om,by rw[hk2,hst,if_neg hz7]⟩
 have hnone:ZX (pln L) ((YR (pln L)).map Vis.i) L.length 0=none:=by rw[hk2,show L.length-k=0 by omega];rfl
 have hz8:=hz.trans (QbQ (t:=(⟨(j:Int),mo,rm,pln L⟩:Tre)) (show ZX (pln L) _ (pln L).length 0=none from by rw[Qd];exact hnone))
 refine Qh rfl ?_
 refine Zo ?_
 refine Qo (α:=Nat×Nat×List Nat) [11,12,82,83,84,85,86,87,88,89,90,91,92,93,94,95,96,97,98,99] (λy=>[(11,.int .i64 (y.1:Int)),(12,.int .i64 (y.2.1:Int))]) (λ_=>HS w [] [.blk b1 37 4 [.int .i64 (j:Int),.int .i64 mo,.int .i64 rm,.slice a L.length cap]]) (λy=>Gx.Way (pln L) (y.2.1::y.2.2)/\y.2.2.length=y.1/\YD (pln L) L.length 0=(y.1:Int)+YD (pln L) (L.length-y.1) y.2.1) (λy=>L.length-y.1) (0,0,[]) ⟨rfl,rfl,by simp⟩ aSx (λw h=>h.ent aEt) (λ⟨d,i,P⟩hx=>?_)
 dsimp only
 obtain⟨hway,hpl,hdp⟩:=hx
 simp only[]at hway hpl hdp
 have hil0:=Qcy hT (by rw[Qd];exact h00) hway i (List.mem_cons_self ..)
 have hil:i<L.length:=by rw[Qd]at hil0;exact hil0
 have hnI:=Qr hil
 have hwl:=YK hT (by rw[Qd];exact h00) hway
 rw[Qd,List.length_cons]at hwl
 have hcl:=hcs9 i hil
 refine aU6 ?_
 refine o_p (Qa rfl rfl rfl QH (i) om om (Rw.some hs.1 om)) rfl (aU ?_)
 refine o_q (Qc rfl rfl Ya ((hs.1.rdj 2 hil rfl))) rfl (aU3 ?_)
 refine sCd rfl (λh16=>?_) λh16=>?_
 ·have hcl0:0<(nth L i).cs.length:=by have hq:=h16;omega
  have hkid:=Qdx hT (by rw[Qd];exact hil) (i:=i) (k:=0) (by rw[hnI];exact hcl0)
  rw[hnI,Qd]at hkid
  simp only[LNd.pl]at hkid
  have hway2:=QbT hway (by rw[Qd];exact hil) (k:=0) (by rw[hnI];exact hcl0) (by rw[hnI];simp only[LNd.pl];omega)
  rw[hnI]at hway2
  have hwl2:=YK hT (by rw[Qd];exact h00) hway2
  rw[Qd,List.length_cons,List.length_cons]at hwl2
  have hdm:=Qnw (ns:=pln L) (f:=L.length-d) (i:=i) om (by rw[hnI];show¬(nth L i).cs.length=0;omega)
  rw[hnI]at hdm
  refine aU7 ?_
  refine o_p (Qa rfl rfl rfl QH (i) om om (Rw.some hs.1 om)) rfl (aU ?_)
  refine o_q (Qc rfl rfl Ya ((hs.1.rdj 2 hil rfl))) rfl (o_p (Qa rfl rfl rfl QM (0) om om (Rw.some (hs.cs hil) om)) rfl (o_q (Qc rfl rfl Ye (((hs.cs hil).rdj 0 (i:=0) om rfl))) rfl (Qf (show _=Value.int .i64 (((nth L i).cs.getD 0 0).toNat:Int)from congrArg (Value.int .i64) (Int.toNat_of_nonneg (show 0<=(nth L i).cs.getD 0 0 by omega)).symm) (aT6 ?_))))
  refine aU2 ?_
  exact sBk (d+1,((nth L i).cs.getD 0 0).toNat,i::P) (by(try simp only[]);omega) ⟨hway2,by simp[hpl],by simp only[]at *;rw[show L.length-(d+1)=L.length-d-1 by omega];have h9:(nth L i).pl.cs=(nth L i).cs:=rfl;rw[h9]at hdm;omega⟩
 have hde:=QoF (ns:=pln L) (f:=L.length-d) (i:=i) (by rw[hnI];show(nth L i).cs.length=0;have hq:=h16;omega)
 rw[hde,Int.add_zero]at hdp
 have hdl:=Qjz (pln L) L.length 0
 refine Qh rfl ?_
 refine aU4 ?_
 refine oCq rfl (λw1 h1=>c138 j mo rm a cap L (d:Int) L.length w1 Zr [] (d:Int) none none 0 0 0 0 (hs.later h1) hj om hT hB h00 rfl rfl (by show(d:Int)=d+1-1;omega) (λ_ h=>by cases h) (λ_ h=>by cases h) rfl rfl (by simp)) (aU5 ?_)
 exact Qj (rs:=[.tmp 2,.tmp 3]) rfl (.tmp rfl (.tmp rfl (.nil))) (λw' h'=>⟨by rw[hz8,show YD ((⟨(j:Int),mo,rm,pln L⟩:Tre)).ns ((⟨(j:Int),mo,rm,pln L⟩:Tre)).ns.length 0=(d:Int)from by rw[hTL];exact hdp,show YR ((⟨(j:Int),mo,rm,pln L⟩:Tre)).ns=vis (pln L) L.length Zr from hvis.symm];rfl,h'.below⟩)
end Go.Proofs
namespace Gx
open Go Go.RowKit
def Qgf(x:TEnt):Bool:=decide (x.key.length<=44/\x.val.length<=70)
end Gx
namespace Go.Proofs
open Go Go.RowKit Gx
attribute [local irreducible] Go.Calls Gx.S Gx.O Gx.D Gx.OpP Gx.OpQ Gx.OpH
set_option maxRecDepth 20000
instance:TFn Tryz.prog 42:=⟨by kernel_rfl⟩
theorem c42(w:World)(x:TEnt):CR 42 #[.agg #[.string (bs x.key),.string (bs x.val)]] w (.bool (Qgf x)):=by
 refine eN1 Tryz.func42 Tryz.ntmps42 ?_
 refine aU2 ?_
 refine oBx λb1 _=>?_
 refine aU6 ?_
 refine o_p (Qn rfl rfl Tryz.underlying9) rfl (aU2 ?_)
 refine X0 5 7 12 rfl
  (λhg2 _=>by
   refine aU5 ?_
   refine o_p (Qn rfl rfl Tryz.underlying9) rfl (aU2 ?_)
   exact oJt 5 12)
  (λhg4 _=>by
   refine aU4 ?_
   exact oJf 5 12) ?_
 refine aU2 ?_
 exact rV (h:=by simp only[Q3,Qgf,Bool.decide_and];congr 3<;>exact decide_eq_decide.2 om)
theorem Qvl:QuW Tryz.prog 211 67 4:=⟨_,Tryz.func211,rfl,rfl,by kernel_rfl,by kernel_rfl⟩
theorem Qtq:QuW Tryz.prog 263 28 4:=⟨_,Tryz.func263,rfl,rfl,by kernel_rfl,by kernel_rfl⟩
theorem Qwc(w:World)(a:Option Addr)(i n m cap:Nat)(xs news:List Value)(b0 c0 tot2:Nat)(hw:HS w (fps [.own (.slice a n cap) 27 2 n xs,.blk b0 27 tot2 news]) [.own (.slice a n cap) 27 2 n xs,.blk b0 27 tot2 news] w)(hm0:0<m)(hl:news.length=m*2)(hn1:∀u∈news,u.oneCell'=true)(hx1:∀u∈xs,u.oneCell'=true)(hmax:(n+m)*32<=140737488355328)(hi:i=n):CE 165 #[.slice a n cap,.int .i64 i,.slice (some ⟨b0,0,none⟩) m c0] w (fps [.own (.slice a n cap) 27 2 n xs,.blk b0 27 tot2 news]) (λg:Option Addr×Nat=>.slice g.1 (n+m) g.2) (λg=>True) λg=>[.own (.slice g.1 (n+m) g.2) 27 2 (n+m) (xs.take (i*2)++news++xs.drop (i*2)),.blk b0 27 tot2 news]:=by
 obtain⟨_,hnc,hcm,hxl⟩:=hw.own_facts .here
 refine eW3 Tryz.func165 Tryz.ntmps165 hw ?_
 refine aU8 ?_
 refine o_p (QJ _ _ i n rfl rfl Qy ⟨_,_,rfl,rfl⟩ rfl om om) rfl (Qa5 ?_)
 refine sCd rfl (λh1=>?_) λh1=>?_
 ·exfalso;first|omega|(simp at h1;done)|(simp_all;done)
 refine QgE ?_
 refine sCd rfl (λh2=>?_) λh2=>?_
 ·refine aU4 ?_
  refine o_h (QO news rfl rfl rfl Qy Tryz.underlying67 XD rfl aPk (Q7 aPk) hl hn1 om (by simp only[maxLen];omega)) rfl (λb3 _=>aU2 ?_)
  exact rT rfl rfl (λw' h'=>⟨(_,_),rfl,trivial,by subst hi;rw[List.take_of_length_le om,List.drop_eq_nil_of_le om,List.append_nil];exact h'.ent aEt⟩)
 exfalso;first|omega|(simp at h2;done)|(simp_all;done)
theorem Qv4(w:World)(gg i n m cap:Nat)(xs news:List Value)(b0 c0 tot2:Nat)(M:List Nat)(hw:HS w M [.blk gg 27 (cap*2) xs,.blk b0 27 tot2 news] w)(hnc:n<=cap)(hcm:cap<=maxLen)(hxl:xs.length=n*2)(hm0:0<m)(hl:news.length=m*2)(hn1:∀u∈news,u.oneCell'=true)(hx1:∀u∈xs,u.oneCell'=true)(hmax:(n+m)*32<=140737488355328)(hi:i<n):CE 165 #[.slice (some ⟨gg,0,none⟩) n cap,.int .i64 i,.slice (some ⟨b0,0,none⟩) m c0] w M (λg:Option Addr×Nat=>.slice g.1 (n+m) g.2) (λg=>True) λg=>[.own (.slice g.1 (n+m) g.2) 27 2 (n+m) (xs.take (i*2)++news++xs.drop (i*2)),.blk b0 27 tot2 news]:=by
 have ht2:=(hw.blk_get (.there .here)).len_le
 have hcl:(cut xs 0 (i*2)).length=i*2:=XR _ _ _ om
 refine eW3 Tryz.func165 Tryz.ntmps165 hw ?_
 refine aU8 ?_
 refine o_p (QJ _ _ i n rfl rfl Qy ⟨_,_,rfl,rfl⟩ rfl om om) rfl (Qa5 ?_)
 refine sCd rfl (λh1=>?_) λh1=>?_
 ·exfalso;first|omega|(simp at h1;done)|(simp_all;done)
 refine QgE ?_
 refine sCd rfl (λh2=>?_) λh2=>?_
 ·exfalso;first|omega|(simp at h2;done)|(simp_all;done)
 refine aT7 ?_
 refine aU ?_
 refine o_p (Qta rfl rfl Tryz.underlying67) rfl (aU2 ?_)
 refine sCd rfl (λh3=>?_) λh3=>?_
 ·refine aU4 ?_
  refine o_p (QJ _ _ 0 i rfl rfl Qy rfl ⟨_,_,rfl,rfl⟩ om om) rfl ?_
  refine Qf (show _=Value.slice (some ⟨gg,0,none⟩) (i) (cap)from by rw[Y8]<;>(congr 1<;>omega)) (aT3 ?_)
  refine aT2 ?_
  refine Qf (show _=Value.int .i64 ((n+m-i:Nat):Int)from by first|rfl|(congr 1<;>first|rfl|omega)) (o_h (QcC (m:=n+m-i) (olds:=cut xs 0 (i*2)) rfl rfl rfl Qy Yn XD rfl (by decide) om om (Qde 0 (i*2) (λ_=>rfl) aPk) hcl om (by simp only[maxLen];omega)) rfl (λ⟨b4,c5⟩⟨h6,k7⟩=>?_))
  refine Qf (show _=Value.slice (some ⟨b4,0,none⟩) (n+m) c5 from by first|rfl|(congr 1<;>first|rfl|omega)) (aU3 ?_)
  refine Qe (L':=[(0,_),(1,_),(2,_),(6,_),(7,_),(8,_),(9,_)]) aSx (λ_ h=>h) ?_
  refine aU3 ?_
  refine o_p (QJ _ _ i (n+m) rfl rfl Qy ⟨_,_,rfl,rfl⟩ rfl om om) rfl ?_
  refine Qf (show _=Value.slice (some ⟨b4,i*2,none⟩) (n+m-i) (c5-i)from by rw[XL om]<;>(congr 1<;>omega)) (aU ?_)
  refine o_h (Qcg m news rfl rfl rfl Qy aPt om hl (λ_=>rfl) (by simp only[QW,List.length_append,Qk];omega) (Q7 aPk) hn1) rfl (λ_ _=>aU2 ?_)
  refine Qu [8] QG ?_
  refine dP 0 ?_
  refine dP 1 ?_
  refine dP 2 ?_
  refine dP 3 ?_
  try refine dWr ?_
  refine dV 4 rfl (QJ _ _ (i+m) (n+m) rfl rfl Qy ⟨_,_,rfl,om⟩ rfl om om) ?_
  refine Qv (show _=Value.slice (some ⟨b4,(i+m)*2,none⟩) (n-i) (c5-(i+m))from by rw[XL om]<;>(congr 1<;>omega)) (dP 5 ?_)
  refine dP 6 ?_
  refine dV 7 rfl (QJ _ _ i n rfl rfl Qy ⟨_,_,rfl,rfl⟩ rfl om om) ?_
  refine Qv (show _=Value.slice (some ⟨gg,i*2,none⟩) (n-i) (cap-i)from by rw[XL om]<;>(congr 1<;>omega)) (dH 8 rfl (Qcg (n-i) (cut xs (i*2) ((n-i)*2)) rfl rfl rfl Qy aPt om (XR _ _ _ om) (λ_=>rfl) (by rw[XR _ _ _ om];simp only[QW,List.length_append,Qk];omega) (Qde (i*2) ((n-i)*2) (λ_=>rfl) aPk) (Qim hx1 _ _)) (λ_ _=>dTu [] ?_))
  refine dNi ?_
  refine aU5 ?_
  exact rT rfl rfl (λw' h'=>⟨(some ⟨b4,0,none⟩,c5),rfl,trivial,(HS.to_own (n:=n+m) (xs:=xs.take (i*2)++news++xs.drop (i*2)) (ds:=[]) aPk h' (by have hq:=Qkc (xs:=xs) (news:=news) (z:=Y4 [.string (bs []),.string (bs [])] ((n+m-i)*2)) (p:=i*2) (q:=m*2) (N:=n*2) hxl om hl (by rw[QW];omega);rw[List.append_nil];rw[show(i+m)*2=i*2+m*2 from om,show(n-i)*2=n*2-i*2 from om];exact hq) (by simp only[List.length_append,List.length_take,List.length_drop];omega) om om).ent aEt⟩)
 refine aT7 ?_
 refine o_p (QJ _ _ 0 (n+m) rfl rfl Qy rfl ⟨_,_,rfl,om⟩ om om) rfl ?_
 refine Qf (show _=Value.slice (some ⟨gg,0,none⟩) (n+m) cap from by rw[Y8]<;>(congr 1<;>omega)) (Qfc (λw h=>HS.blk_full (b:=gg) aPk h) λds=>?_)
 refine X4 (λw h=>h.1) λhds=>QZ (λw h=>h.2) (QjE ?_)
 refine o_p (QJ _ _ (i+m) (n+m) rfl rfl Qy ⟨_,_,rfl,om⟩ rfl om om) rfl ?_
 refine Qf (show _=Value.slice (some ⟨gg,(i+m)*2,none⟩) (n-i) (cap-(i+m))from by rw[XL om]<;>(congr 1<;>omega)) (o_q (Qf3 rfl Qvl rfl rfl Qy (hp:=aPk) (hp':=aPk) (by decide) om om) rfl (aU2 ?_))
 refine sCd rfl (λh8=>?_) λh8=>?_
 ·refine aU ?_
  refine Qe (L':=[(0,_),(1,_),(2,_),(6,_),(7,_),(8,_)]) aSx (λ_ h=>h) ?_
  refine Qu [8] QG ?_
  refine dP 0 ?_
  refine dP 1 ?_
  refine dP 2 ?_
  refine dP 3 ?_
  try refine dWr ?_
  refine dV 4 rfl (QJ _ _ (i+m) (n+m) rfl rfl Qy ⟨_,_,rfl,om⟩ rfl om om) ?_
  refine Qv (show _=Value.slice (some ⟨gg,(i+m)*2,none⟩) (n-i) (cap-(i+m))from by rw[XL om]<;>(congr 1<;>omega)) (dP 5 ?_)
  refine dP 6 ?_
  refine dV 7 rfl (QJ _ _ i (n+m) rfl rfl Qy ⟨_,_,rfl,rfl⟩ rfl om om) ?_
  refine Qv (show _=Value.slice (some ⟨gg,i*2,none⟩) (n+m-i) (cap-i)from by rw[XL om]<;>(congr 1<;>omega)) (dH 8 rfl (Qcg (n-i) (cut (xs++ds) (i*2) ((n-i)*2)) rfl rfl rfl Qy aPt om (XR _ _ _ (by simp only[QW,List.length_append,Qk];omega)) (λ_=>rfl) (by rw[XR _ _ _ (by simp only[QW,List.length_append,Qk];omega)];simp only[QW,List.length_append,Qk];omega) (Qde (i*2) ((n-i)*2) (λ_=>rfl) aPk) (Qmo hx1 om)) (λ_ _=>dTu [] ?_))
  refine dNi ?_
  refine aU4 ?_
  refine o_p (QJ _ _ i (n+m) rfl rfl Qy ⟨_,_,rfl,rfl⟩ rfl om om) rfl ?_
  refine Qf (show _=Value.slice (some ⟨gg,i*2,none⟩) (n+m-i) (cap-i)from by rw[XL om]<;>(congr 1<;>omega)) (aU ?_)
  refine o_h (Qcg m news rfl rfl rfl Qy aPt om hl (λ_=>rfl) (by simp only[QW,List.length_append,Qk];omega) (Q7 aPk) hn1) rfl (λ_ _=>aU6 ?_)
  exact rT rfl rfl (λw' h'=>⟨(some ⟨gg,0,none⟩,cap),rfl,trivial,(HS.to_own (n:=n+m) (xs:=xs.take (i*2)++news++xs.drop (i*2)) (ds:=ds.drop (m*2)) aPk h' (by have hq:=Qpn (xs:=xs) (ds:=ds) (news:=news) (p:=i*2) (q:=m*2) (N:=n*2) hxl om hl om;rw[show(i+m)*2=i*2+m*2 from om,show(n-i)*2=n*2-i*2 from om];exact hq) (by simp only[List.length_append,List.length_take,List.length_drop];omega) om om).ent aEt⟩)
 exfalso;first|omega|(simp at h8;done)|(simp_all;done)
theorem c165(w:World)(a:Option Addr)(i n m cap:Nat)(xs news:List Value)(b0 c0 tot2:Nat)(hw:HS w (fps [.own (.slice a n cap) 27 2 n xs,.blk b0 27 tot2 news]) [.own (.slice a n cap) 27 2 n xs,.blk b0 27 tot2 news] w)(hm0:0<m)(hl:news.length=m*2)(hn1:∀u∈news,u.oneCell'=true)(hx1:∀u∈xs,u.oneCell'=true)(hmax:(n+m)*32<=140737488355328)(hi:i<=n):CE 165 #[.slice a n cap,.int .i64 i,.slice (some ⟨b0,0,none⟩) m c0] w (fps [.own (.slice a n cap) 27 2 n xs,.blk b0 27 tot2 news]) (λg:Option Addr×Nat=>.slice g.1 (n+m) g.2) (λg=>True) λg=>[.own (.slice g.1 (n+m) g.2) 27 2 (n+m) (xs.take (i*2)++news++xs.drop (i*2)),.blk b0 27 tot2 news]:=by
  rcases Nat.lt_or_ge i n with h|h
  · obtain⟨gg,rfl,_,hnc,hcm,hxl,hb⟩:=hw.own_blk om .here;exact Qv4 w gg i n m cap xs news b0 c0 tot2 _ hb hnc hcm hxl hm0 hl hn1 hx1 hmax h
  · exact Qwc w a i n m cap xs news b0 c0 tot2 hw hm0 hl hn1 hx1 hmax om
theorem Qwz(w:World)(a:Option Addr)(i n m cap:Nat)(xs news:List Value)(b0 c0 tot2:Nat)(hw:HS w (fps [.own (.slice a n cap) 3 1 n xs,.blk b0 3 tot2 news]) [.own (.slice a n cap) 3 1 n xs,.blk b0 3 tot2 news] w)(hm0:0<m)(hl:news.length=m*1)(hn1:∀u∈news,u.oneCell'=true)(hx1:∀u∈xs,u.oneCell'=true)(hmax:(n+m)*8<=140737488355328)(hi:i=n):CE 249 #[.slice a n cap,.int .i64 i,.slice (some ⟨b0,0,none⟩) m c0] w (fps [.own (.slice a n cap) 3 1 n xs,.blk b0 3 tot2 news]) (λg:Option Addr×Nat=>.slice g.1 (n+m) g.2) (λg=>True) λg=>[.own (.slice g.1 (n+m) g.2) 3 1 (n+m) (xs.take (i*1)++news++xs.drop (i*1)),.blk b0 3 tot2 news]:=by
 obtain⟨_,hnc,hcm,hxl⟩:=hw.own_facts .here
 refine eW3 Tryz.func249 Tryz.ntmps249 hw ?_
 refine aU8 ?_
 refine o_p (QJ _ _ i n rfl rfl QM ⟨_,_,rfl,rfl⟩ rfl om om) rfl (Qa5 ?_)
 refine sCd rfl (λh1=>?_) λh1=>?_
 ·exfalso;first|omega|(simp at h1;done)|(simp_all;done)
 refine QgE ?_
 refine sCd rfl (λh2=>?_) λh2=>?_
 ·refine aU4 ?_
  refine o_h (QO news rfl rfl rfl QM Tryz.underlying28 YP rfl aPk (Q7 aPk) hl hn1 om (by simp only[maxLen];omega)) rfl (λb3 _=>aU2 ?_)
  exact rT rfl rfl (λw' h'=>⟨(_,_),rfl,trivial,by subst hi;rw[List.take_of_length_le om,List.drop_eq_nil_of_le om,List.append_nil];exact h'.ent aEt⟩)
 exfalso;first|omega|(simp at h2;done)|(simp_all;done)
theorem Qwo(w:World)(gg i n m cap:Nat)(xs news:List Value)(b0 c0 tot2:Nat)(M:List Nat)(hw:HS w M [.blk gg 3 (cap*1) xs,.blk b0 3 tot2 news] w)(hnc:n<=cap)(hcm:cap<=maxLen)(hxl:xs.length=n*1)(hm0:0<m)(hl:news.length=m*1)(hn1:∀u∈news,u.oneCell'=true)(hx1:∀u∈xs,u.oneCell'=true)(hmax:(n+m)*8<=140737488355328)(hi:i<n):CE 249 #[.slice (some ⟨gg,0,none⟩) n cap,.int .i64 i,.slice (some ⟨b0,0,none⟩) m c0] w M (λg:Option Addr×Nat=>.slice g.1 (n+m) g.2) (λg=>True) λg=>[.own (.slice g.1 (n+m) g.2) 3 1 (n+m) (xs.take (i*1)++news++xs.drop (i*1)),.blk b0 3 tot2 news]:=by
 have ht2:=(hw.blk_get (.there .here)).len_le
 have hcl:(cut xs 0 (i*1)).length=i*1:=XR _ _ _ om
 refine eW3 Tryz.func249 Tryz.ntmps249 hw ?_
 refine aU8 ?_
 refine o_p (QJ _ _ i n rfl rfl QM ⟨_,_,rfl,rfl⟩ rfl om om) rfl (Qa5 ?_)
 refine sCd rfl (λh1=>?_) λh1=>?_
 ·exfalso;first|omega|(simp at h1;done)|(simp_all;done)
 refine QgE ?_
 refine sCd rfl (λh2=>?_) λh2=>?_
 ·exfalso;first|omega|(simp at h2;done)|(simp_all;done)
 refine aT7 ?_
 refine aU ?_
 refine o_p (Qta rfl rfl Tryz.underlying28) rfl (aU2 ?_)
 refine sCd rfl (λh3=>?_) λh3=>?_
 ·refine aU4 ?_
  refine o_p (QJ _ _ 0 i rfl rfl QM rfl ⟨_,_,rfl,rfl⟩ om om) rfl ?_
  refine Qf (show _=Value.slice (some ⟨gg,0,none⟩) (i) (cap)from by rw[Y8]<;>(congr 1<;>omega)) (aT3 ?_)
  refine aT2 ?_
  refine Qf (show _=Value.int .i64 ((n+m-i:Nat):Int)from by first|rfl|(congr 1<;>first|rfl|omega)) (o_h (QcC (m:=n+m-i) (olds:=cut xs 0 (i*1)) rfl rfl rfl QM Yn YP rfl (by decide) om om (Qde 0 (i*1) (λ_=>rfl) aPk) hcl om (by simp only[maxLen];omega)) rfl (λ⟨b4,c5⟩⟨h6,k7⟩=>?_))
  refine Qf (show _=Value.slice (some ⟨b4,0,none⟩) (n+m) c5 from by first|rfl|(congr 1<;>first|rfl|omega)) (aU3 ?_)
  refine Qe (L':=[(0,_),(1,_),(2,_),(6,_),(7,_),(8,_),(9,_)]) aSx (λ_ h=>h) ?_
  refine aU3 ?_
  refine o_p (QJ _ _ i (n+m) rfl rfl QM ⟨_,_,rfl,rfl⟩ rfl om om) rfl ?_
  refine Qf (show _=Value.slice (some ⟨b4,i*1,none⟩) (n+m-i) (c5-i)from by rw[XL om]<;>(congr 1<;>omega)) (aU ?_)
  refine o_h (Qcg m news rfl rfl rfl QM aPt om hl (λ_=>rfl) (by simp only[QW,List.length_append,Qk];omega) (Q7 aPk) hn1) rfl (λ_ _=>aU2 ?_)
  refine Qu [8] QG ?_
  refine dP 0 ?_
  refine dP 1 ?_
  refine dP 2 ?_
  refine dP 3 ?_
  try refine dWr ?_
  refine dV 4 rfl (QJ _ _ (i+m) (n+m) rfl rfl QM ⟨_,_,rfl,om⟩ rfl om om) ?_
  refine Qv (show _=Value.slice (some ⟨b4,(i+m)*1,none⟩) (n-i) (c5-(i+m))from by rw[XL om]<;>(congr 1<;>omega)) (dP 5 ?_)
  refine dP 6 ?_
  refine dV 7 rfl (QJ _ _ i n rfl rfl QM ⟨_,_,rfl,rfl⟩ rfl om om) ?_
  refine Qv (show _=Value.slice (some ⟨gg,i*1,none⟩) (n-i) (cap-i)from by rw[XL om]<;>(congr 1<;>omega)) (dH 8 rfl (Qcg (n-i) (cut xs (i*1) ((n-i)*1)) rfl rfl rfl QM aPt om (XR _ _ _ om) (λ_=>rfl) (by rw[XR _ _ _ om];simp only[QW,List.length_append,Qk];omega) (Qde (i*1) ((n-i)*1) (λ_=>rfl) aPk) (Qim hx1 _ _)) (λ_ _=>dTu [] ?_))
  refine dNi ?_
  refine aU5 ?_
  exact rT rfl rfl (λw' h'=>⟨(some ⟨b4,0,none⟩,c5),rfl,trivial,(HS.to_own (n:=n+m) (xs:=xs.take (i*1)++news++xs.drop (i*1)) (ds:=[]) aPk h' (by have hq:=Qkc (xs:=xs) (news:=news) (z:=Y4 [.int .i64 0] ((n+m-i)*1)) (p:=i*1) (q:=m*1) (N:=n*1) hxl om hl (by rw[QW];omega);rw[List.append_nil];rw[show(i+m)*1=i*1+m*1 from om,show(n-i)*1=n*1-i*1 from om];exact hq) (by simp only[List.length_append,List.length_take,List.length_drop];omega) om om).ent aEt⟩)
 refine aT7 ?_
 refine o_p (QJ _ _ 0 (n+m) rfl rfl QM rfl ⟨_,_,rfl,om⟩ om om) rfl ?_
 refine Qf (show _=Value.slice (some ⟨gg,0,none⟩) (n+m) cap from by rw[Y8]<;>(congr 1<;>omega)) (Qfc (λw h=>HS.blk_full (b:=gg) aPk h) λds=>?_)
 refine X4 (λw h=>h.1) λhds=>QZ (λw h=>h.2) (QjE ?_)
 refine o_p (QJ _ _ (i+m) (n+m) rfl rfl QM ⟨_,_,rfl,om⟩ rfl om om) rfl ?_
 refine Qf (show _=Value.slice (some ⟨gg,(i+m)*1,none⟩) (n-i) (cap-(i+m))from by rw[XL om]<;>(congr 1<;>omega)) (o_q (Qf3 rfl Qtq rfl rfl QM (hp:=aPk) (hp':=aPk) (by decide) om om) rfl (aU2 ?_))
 refine sCd rfl (λh8=>?_) λh8=>?_
 ·refine aU ?_
  refine Qe (L':=[(0,_),(1,_),(2,_),(6,_),(7,_),(8,_)]) aSx (λ_ h=>h) ?_
  refine Qu [8] QG ?_
  refine dP 0 ?_
  refine dP 1 ?_
  refine dP 2 ?_
  refine dP 3 ?_
  try refine dWr ?_
  refine dV 4 rfl (QJ _ _ (i+m) (n+m) rfl rfl QM ⟨_,_,rfl,om⟩ rfl om om) ?_
  refine Qv (show _=Value.slice (some ⟨gg,(i+m)*1,none⟩) (n-i) (cap-(i+m))from by rw[XL om]<;>(congr 1<;>omega)) (dP 5 ?_)
  refine dP 6 ?_
  refine dV 7 rfl (QJ _ _ i (n+m) rfl rfl QM ⟨_,_,rfl,rfl⟩ rfl om om) ?_
  refine Qv (show _=Value.slice (some ⟨gg,i*1,none⟩) (n+m-i) (cap-i)from by rw[XL om]<;>(congr 1<;>omega)) (dH 8 rfl (Qcg (n-i) (cut (xs++ds) (i*1) ((n-i)*1)) rfl rfl rfl QM aPt om (XR _ _ _ (by simp only[QW,List.length_append,Qk];omega)) (λ_=>rfl) (by rw[XR _ _ _ (by simp only[QW,List.length_append,Qk];omega)];simp only[QW,List.length_append,Qk];omega) (Qde (i*1) ((n-i)*1) (λ_=>rfl) aPk) (Qmo hx1 om)) (λ_ _=>dTu [] ?_))
  refine dNi ?_
  refine aU4 ?_
  refine o_p (QJ _ _ i (n+m) rfl rfl QM ⟨_,_,rfl,rfl⟩ rfl om om) rfl ?_
  refine Qf (show _=Value.slice (some ⟨gg,i*1,none⟩) (n+m-i) (cap-i)from by rw[XL om]<;>(congr 1<;>omega)) (aU ?_)
  refine o_h (Qcg m news rfl rfl rfl QM aPt om hl (λ_=>rfl) (by simp only[QW,List.length_append,Qk];omega) (Q7 aPk) hn1) rfl (λ_ _=>aU6 ?_)
  exact rT rfl rfl (λw' h'=>⟨(some ⟨gg,0,none⟩,cap),rfl,trivial,(HS.to_own (n:=n+m) (xs:=xs.take (i*1)++news++xs.drop (i*1)) (ds:=ds.drop (m*1)) aPk h' (by have hq:=Qpn (xs:=xs) (ds:=ds) (news:=news) (p:=i*1) (q:=m*1) (N:=n*1) hxl om hl om;rw[show(i+m)*1=i*1+m*1 from om,show(n-i)*1=n*1-i*1 from om];exact hq) (by simp only[List.length_append,List.length_take,List.length_drop];omega) om om).ent aEt⟩)
 exfalso;first|omega|(simp at h8;done)|(simp_all;done)
theorem c249(w:World)(a:Option Addr)(i n m cap:Nat)(xs news:List Value)(b0 c0 tot2:Nat)(hw:HS w (fps [.own (.slice a n cap) 3 1 n xs,.blk b0 3 tot2 news]) [.own (.slice a n cap) 3 1 n xs,.blk b0 3 tot2 news] w)(hm0:0<m)(hl:news.length=m*1)(hn1:∀u∈news,u.oneCell'=true)(hx1:∀u∈xs,u.oneCell'=true)(hmax:(n+m)*8<=140737488355328)(hi:i<=n):CE 249 #[.slice a n cap,.int .i64 i,.slice (some ⟨b0,0,none⟩) m c0] w (fps [.own (.slice a n cap) 3 1 n xs,.blk b0 3 tot2 news]) (λg:Option Addr×Nat=>.slice g.1 (n+m) g.2) (λg=>True) λg=>[.own (.slice g.1 (n+m) g.2) 3 1 (n+m) (xs.take (i*1)++news++xs.drop (i*1)),.blk b0 3 tot2 news]:=by
  rcases Nat.lt_or_ge i n with h|h
  · obtain⟨gg,rfl,_,hnc,hcm,hxl,hb⟩:=hw.own_blk om .here;exact Qwo w gg i n m cap xs news b0 c0 tot2 _ hb hnc hcm hxl hm0 hl hn1 hx1 hmax h
  · exact Qwz w a i n m cap xs news b0 c0 tot2 hw hm0 hl hn1 hx1 hmax om
theorem QpL:QQ Tryz.prog 87=true:=by kernel_rfl
instance:TFn Tryz.prog 87:=⟨QpL⟩
theorem Qbx:QQ Tryz.prog 60=true:=by kernel_rfl
instance:TFn Tryz.prog 60:=⟨Qbx⟩
instance:TFn Tryz.prog 192:=⟨by kernel_rfl⟩
theorem Qiz:QQ Tryz.prog 131=true:=by kernel_rfl
instance:TFn Tryz.prog 131:=⟨Qiz⟩
theorem Qad:XX Tryz.prog 5=some [.int .u8 0]:=by kernel_rfl
theorem QkM:QQ Tryz.prog 152=true:=by kernel_rfl
theorem QoG:QQ Tryz.prog 153=true:=by kernel_rfl
theorem c87(w:World)(n lo hi:Int):CR 87 #[.int .i64 n,.int .i64 lo,.int .i64 hi] w (.bool (decide (lo<=n)&&decide (n<=hi))):=by
 refine eN3 Tryz.func87 Tryz.ntmps87 ?_
 refine Zo ?_
 refine X0 4 10 14 rfl
  (λhg1 _=>by
   refine aU6 ?_
   exact oJt 4 14)
  (λhg3 _=>by
   refine aU3 ?_
   exact oJf 4 14) ?_
 refine aU2 ?_
 exact rV
theorem c205(w:World)(n lo hi:Int):CR 205 #[.int .i64 n,.int .i64 lo,.int .i64 hi] w (.bool (decide (lo<=n)&&decide (n<=hi))):=by
 refine eN3 Tryz.func205 Tryz.ntmps205 ?_
 refine Zo ?_
 refine X0 4 10 14 rfl
  (λhg1 _=>by
   refine aU6 ?_
   exact oJt 4 14)
  (λhg3 _=>by
   refine aU3 ?_
   exact oJf 4 14) ?_
 refine aU2 ?_
 exact rV
theorem c60(w:World)(ok:Bool)(e:Int):CR 60 #[.bool ok,.int .i64 e] w (.int .i64 (cond ok 0 e)):=by
 refine eN2 Tryz.func60 Tryz.ntmps60 ?_
 refine aU9 ?_
 refine sCd rfl (λh1=>?_) λh1=>?_
 ·refine aU4 ?_
  exact rV (h:=by simp_all[Q3])
 refine aU6 ?_
 exact rV (h:=by simp_all[Q3])
theorem QtD(w:World)(ok:Bool)(e:Int):CR 192 #[.bool ok,.int .i64 e] w (.int .i64 (cond ok 0 e)):=by
 refine eN2 Tryz.func192 Tryz.ntmps192 ?_
 refine aU9 ?_
 refine sCd rfl (λh1=>?_) λh1=>?_
 ·refine aU4 ?_
  exact rV (h:=by simp_all[Q3])
 refine aU6 ?_
 exact rV (h:=by simp_all[Q3])
theorem c59(w:World)(a:Option Addr)(cap:Nat)(es:List Int)(hs:Sl w [] a 1 es.length (λi=>[.int .i64 (es.getD i 0)]))(hm:es.length<=1000):CR 59 #[.slice a es.length cap] w (.int .i64 (Zb es)):=by
 refine eN1 Tryz.func59 Tryz.ntmps59 ?_
 refine Zg ?_
 refine Qo (α:=Nat) [2,4,7,8,9,10,11,12,13,14] (λk=>[(7,.int .i64 (k:Int))]) (λ_=>_) (λk=>k<=es.length/\Zb es=Zb (es.drop k)) (λk=>es.length-k) 0 ⟨om,rfl⟩ aSx (λw h=>h) (λk hk=>?_)
 obtain⟨hk1,hk2⟩:=hk
 refine aU5 ?_
 refine sCd rfl (λh1=>?_) λh1=>?_
 ·refine aU5 ?_
  refine o_p (Qa rfl rfl rfl Yt _ rfl om (hs.some om)) rfl (o_q (Qc rfl rfl Qrn (hs.rd (i:=k) (j:=0) om rfl)) rfl (aU7 ?_))
  refine sCd rfl (λh2=>?_) λh2=>?_
  ·refine aU5 ?_
   exact rV (h:=by simp only[Q3];rw[hk2,Zq om,if_neg (by assumption)])
  refine aT4 ?_
  refine aU2 ?_
  exact QK (k+1) om ⟨om,by rw[hk2,Zq om,if_pos (by assumption)]⟩ aSx (λw h=>h)
 refine Qh rfl ?_
 refine aU4 ?_
 exact rV (h:=by simp only[Q3];rw[hk2,Qdy om])
theorem f59{w0 w:World}{M:List Nat}{As As':List HA}{b cap n:Nat}{t:TypeId}{tot:Nat}{cs:List Value}(h:HS w0 M As w)(hp:QD As (.blk b t tot cs) As')(hc:cs.all Qhf=true)(hn:cs.length=n)(hl:n<=1000) :
    Calls Tryz.prog 59 #[.slice (some ⟨b,0,none⟩) n cap] w λen w'=>en=.returned (.int .i64 (Xs cs))/\Below w.heap.size w w':=by
  subst hn;have:=c59 w (some ⟨b,0,none⟩) cap (cs.map Go.RowKit.intOf) (by simpa using h.sl_ints hp hc) (by simpa using hl);rw[Qc3 hc]at this
  simpa using this
theorem c203(w:World)(a:Option Addr)(cap:Nat)(es:List Int)(hs:Sl w [] a 1 es.length (λi=>[.int .i64 (es.getD i 0)]))(hm:es.length<=1000):CR 203 #[.slice a es.length cap] w (.int .i64 (Zb es)):=by
 refine eN1 Tryz.func203 Tryz.ntmps203 ?_
 refine Zg ?_
 refine Qo (α:=Nat) [2,4,7,8,9,10,11,12,13,14] (λk=>[(7,.int .i64 (k:Int))]) (λ_=>_) (λk=>k<=es.length/\Zb es=Zb (es.drop k)) (λk=>es.length-k) 0 ⟨om,rfl⟩ aSx (λw h=>h) (λk hk=>?_)
 obtain⟨hk1,hk2⟩:=hk
 refine aU5 ?_
 refine sCd rfl (λh1=>?_) λh1=>?_
 ·refine aU5 ?_
  refine o_p (Qa rfl rfl rfl Yt _ rfl om (hs.some om)) rfl (o_q (Qc rfl rfl Qrn (hs.rd (i:=k) (j:=0) om rfl)) rfl (aU7 ?_))
  refine sCd rfl (λh2=>?_) λh2=>?_
  ·refine aU5 ?_
   exact rV (h:=by simp only[Q3];rw[hk2,Zq om,if_neg (by assumption)])
  refine aT4 ?_
  refine aU2 ?_
  exact QK (k+1) om ⟨om,by rw[hk2,Zq om,if_pos (by assumption)]⟩ aSx (λw h=>h)
 refine Qh rfl ?_
 refine aU4 ?_
 exact rV (h:=by simp only[Q3];rw[hk2,Qdy om])
theorem f203{w0 w:World}{M:List Nat}{As As':List HA}{b cap n:Nat}{t:TypeId}{tot:Nat}{cs:List Value}(h:HS w0 M As w)(hp:QD As (.blk b t tot cs) As')(hc:cs.all Qhf=true)(hn:cs.length=n)(hl:n<=1000) :
    Calls Tryz.prog 203 #[.slice (some ⟨b,0,none⟩) n cap] w λen w'=>en=.returned (.int .i64 (Xs cs))/\Below w.heap.size w w':=by
  subst hn;have:=c203 w (some ⟨b,0,none⟩) cap (cs.map Go.RowKit.intOf) (by simpa using h.sl_ints hp hc) (by simpa using hl);rw[Qc3 hc]at this
  simpa using this
theorem c88(w:World)(x:TEnt)(hk:x.key.length<=1000000)(hv:x.val.length<=1000000):CR 88 #[.agg #[.string (bs x.key),.string (bs x.val)]] w (.bool (YJ x)):=by
 refine eN1 Tryz.func88 Tryz.ntmps88 ?_
 refine aU2 ?_
 refine oBx λb1 _=>?_
 refine aU6 ?_
 refine o_p (Qn rfl rfl Tryz.underlying9) rfl (aU2 ?_)
 refine o_p (Qn rfl rfl Tryz.underlying9) rfl (aT ?_)
 refine aU3 ?_
 exact rV (h:=by simp only[Q3,YJ];congr 2;congr 1;first|omega|(rw[eq_iff_iff];omega)|(apply decide_eq_decide.2;omega))
theorem c100(w:World)(n:Int):CR 100 #[.int .i64 n] w (.int .i64 (cond (decide (0<=n)&&decide (n<=2147483647)) 0 2)):=by
 refine eN1 Tryz.func100 Tryz.ntmps100 ?_
 refine aU7 ?_
 refine oCq rfl (λw1 h1=>c87 w1 _ _ _) (oCq rfl (λw1 h1=>c60 w1 _ _) (aU2 ?_))
 exact rV
theorem Qu4(w:World)(s:List UInt8):CR 129 #[.string (bs s)] w (.int .i64 (cond (decide ((s.length:Int)=512)) 0 10)):=by
 refine eN1 Tryz.func129 Tryz.ntmps129 ?_
 refine aU7 ?_
 refine o_p (Qn rfl rfl Tryz.underlying9) rfl (aU ?_)
 refine oCq rfl (λw1 h1=>QtD w1 _ _) (aU2 ?_)
 exact rV
theorem QrK(w:World)(a:Option Addr)(m cap:Nat)(x:List UInt8)(hs:Vl w a (x.map bv))(hm:x.length=m)(h2:2<=m)(hc:m<=cap)(hc9:cap<=9223372036854775807):CR 131 #[.slice a m cap] w (.int .u16 (at2 x 0)):=by
 refine eN1 Tryz.func131 Tryz.ntmps131 ?_
 refine aU5 ?_
 refine Qu [] QG ?_
 refine dP 0 ?_
 refine dV 1 rfl (Qa rfl rfl rfl QR 0 rfl om (hs.some (by rw[List.length_map];omega))) (dQ 2 [] rfl (Qc rfl rfl QdU ((hs.rd (i:=0) (QaQ (l:=x) (k:=0) om)))) (dV 3 rfl (Qm rfl rfl Zz YO) (dP 4 ?_)))
 refine dV 5 rfl (Qa rfl rfl rfl QR 1 rfl om (hs.some (by rw[List.length_map];omega))) (dQ 6 [] rfl (Qc rfl rfl QdU ((hs.rd (i:=1) (QaQ (l:=x) (k:=1) om)))) (dV 7 rfl (Qm rfl rfl Zz YO) (dV 8 rfl (Qgs rfl rfl rfl (by decide) 8 rfl) (dP 9 ?_))))
 refine dP 10 ?_
 refine dNi ?_
 exact rV (h:=by rw[<-Qjx];rfl)
theorem c132(w:World)(a:Option Addr)(m cap:Nat)(x:List UInt8)(hs:Vl w a (x.map bv))(hm:x.length=m)(h2:4<=m)(hc:m<=cap)(hc9:cap<=9223372036854775807):CR 132 #[.slice a m cap] w (.int .u32 (at4 x 0)):=by
 have hx2:=Qba x 0
 have hx3:=Qba x 2
 refine eN1 Tryz.func132 Tryz.ntmps132 ?_
 refine aU5 ?_
 refine Qu [] QG ?_
 refine dP 0 ?_
 refine dQ 1 [] rfl (QA rfl Qiz rfl (λw1 h1=>QrK w1 a m cap x (hs.later h1) hm om hc hc9)) (dV 2 rfl (Qm rfl rfl YO Zl) (dP 3 ?_))
 refine dV 4 rfl (QJ _ _ 2 m rfl rfl QR ⟨_,_,rfl,rfl⟩ rfl om om) (dQ 5 [] rfl (QA rfl Qiz rfl (λw1 h1=>QrK w1 (YW a cap 2 1) (m-2) (cap-2) (x.drop 2) (by rw[List.map_drop];exact(hs.later h1).drop (by rw[List.length_map];omega) om) (by rw[List.length_drop];omega) om om om)) (dV 6 rfl (Qm rfl rfl YO Zl) (dV 7 rfl (Qgs rfl rfl rfl (by decide) 16 rfl) (dP 8 ?_))))
 refine dP 9 ?_
 refine dNi ?_
 exact rV (h:=by have h9:=Qi1 (at2 x 0) (at2 (x.drop 2) 0) (Qba _ _) (Qba _ _);rw[Qbt]at h9 ⊢;exact(congrArg Ending.returned h9))
theorem QvF(w:World)(a:Option Addr)(cap:Nat)(l:List UInt8)(n:Int)(hw:HS w (fps [.byz a cap (l)]) [.byz a cap (l)] w)(hn:0<=n/\n<65536)(hl:l.length<=1000000):CE 152 #[.slice a l.length cap,.int .u16 n] w (fps [.byz a cap (l)]) (λg:Option Addr×Nat=>.slice g.1 (l++le2 n).length g.2) (λg=>QcB a cap g (l++le2 n).length) λg=>[.byz g.1 g.2 (l++le2 n)]:=by
 refine eW2 Tryz.func152 Tryz.ntmps152 hw ?_
 refine aU8 ?_
 refine o_p (Qm rfl rfl YO Zz) rfl (Qf (YM _) (aU ?_))
 refine o_p (Qbl rfl rfl rfl (by decide) 8 rfl) rfl (o_p (Qm rfl rfl YO Zz) rfl (Qf (show _=bv (by8 (n/256))from YM _) (o_h (Qg (cs:=[_,_]) rfl rfl QR Qad rfl rfl rfl) rfl (λb1 _=>?_))))
 refine o_h (Qap [by8 n,by8 (n/256)] rfl rfl rfl QR Tryz.underlying139 Qad aPk (Q7 aPk) (by simp only[List.length_append,List.length_cons,List.length_nil,le2,le4]<;>omega) (by simp only[maxLen,List.length_append,List.length_cons,List.length_nil,le2,le4]<;>omega)) rfl (λ⟨b2,c3⟩h4=>aU2 ?_)
 exact rT rfl rfl (λw' h'=>⟨(b2,c3),rfl,h4,h'.ent aEt⟩)
theorem Qwn(w:World)(a:Option Addr)(cap:Nat)(l:List UInt8)(n:Int)(hw:HS w (fps [.byz a cap (l)]) [.byz a cap (l)] w)(hn:0<=n)(hl:l.length<=1000000):CE 152 #[.slice a l.length cap,.int .u16 (n%65536)] w (fps [.byz a cap (l)]) (λg:Option Addr×Nat=>.slice g.1 (l++le2 n).length g.2) (λg=>QcB a cap g (l++le2 n).length) λg=>[.byz g.1 g.2 (l++le2 n)]:=by
  have h9:=QvF w a cap l (n%65536) hw om hl;rw[Qql]at h9;exact h9
theorem c153(w:World)(a:Option Addr)(cap:Nat)(l:List UInt8)(n:Int)(hw:HS w (fps [.byz a cap (l)]) [.byz a cap (l)] w)(hn:0<=n/\n<4294967296)(hl:l.length<=1000000):CE 153 #[.slice a l.length cap,.int .u32 n] w (fps [.byz a cap (l)]) (λg:Option Addr×Nat=>.slice g.1 (l++le4 n).length g.2) (λg=>QcB a cap g (l++le4 n).length) λg=>[.byz g.1 g.2 (l++le4 n)]:=by
 have he9:l++le4 n=(l++le2 n)++[by8 (n/65536),by8 (n/16777216)]:=by rw[Qui,List.append_assoc]
 refine eW2 Tryz.func153 Tryz.ntmps153 hw ?_
 refine aU8 ?_
 refine o_p (Qm rfl rfl Zl YO) rfl (Qf (show _=Value.int .u16 (n%65536)from by rw[Qj2]) (o_h (QE (Cs:=[.byz a cap (l)]) rfl QkM rfl aPs (λw1 h1 hf=>Qwn w1 a cap l n hf om hl)) rfl (λ⟨b1,c2⟩hz3=>aU ?_)))
 refine o_p (Qbl rfl rfl rfl (by decide) 16 rfl) rfl (o_p (Qm rfl rfl Zl Zz) rfl (Qf (show _=bv (by8 (n/65536))from YM _) (aU ?_)))
 refine o_p (Qbl rfl rfl rfl (by decide) 24 rfl) rfl (o_p (Qm rfl rfl Zl Zz) rfl (Qf (show _=bv (by8 (n/16777216))from YM _) (o_h (Qg (cs:=[_,_]) rfl rfl QR Qad rfl rfl rfl) rfl (λb4 _=>?_))))
 refine o_h (Qap (l:=l++le2 n) [by8 (n/65536),by8 (n/16777216)] rfl rfl rfl QR Tryz.underlying139 Qad aPk (Q7 aPk) (by simp only[List.length_append,List.length_cons,List.length_nil,le2,le4]<;>omega) (by simp only[maxLen,List.length_append,List.length_cons,List.length_nil,le2,le4]<;>omega)) rfl (λ⟨b5,c6⟩h7=>aU2 ?_)
 exact rT rfl rfl (λw' h'=>⟨(b5,c6),by rw[he9];rfl,by rw[he9];exact(hz3).trans h7 (by simp only[List.length_append];omega),by rw[he9];exact h'.ent aEt⟩)
theorem c154(w:World)(a:Option Addr)(cap:Nat)(l:List UInt8)(hw:HS w (fps [.byz a cap (l)]) [.byz a cap (l)] w)(hl:l.length<=1000000):CE 154 #[.slice a l.length cap] w (fps [.byz a cap (l)]) (λg:Option Addr×Nat=>.slice g.1 (l++List.replicate (Q5 l.length-l.length) 0).length g.2) (λg=>QcB a cap g (l++List.replicate (Q5 l.length-l.length) 0).length) λg=>[.byz g.1 g.2 (l++List.replicate (Q5 l.length-l.length) 0)]:=by
 have hp8:=Yx l.length
 have hm8:Q5 l.length%8=0:=by unfold Q5;omega
 refine eW1 Tryz.func154 Tryz.ntmps154 hw ?_
 refine aU6 ?_
 refine Qo (α:=Nat×Option Addr×Nat) [0,3,4,5,6,7,8,9] (λx=>[(0,.slice x.2.1 (l++List.replicate x.1 0).length x.2.2)]) (λx=>HS w (fps [.byz a cap (l)]) [.byz x.2.1 x.2.2 (l++List.replicate x.1 0)]) (λx=>x.1<=(Q5 l.length-l.length)/\QcB a cap (x.2.1,x.2.2) (l++List.replicate x.1 0).length) (λx=>(Q5 l.length-l.length)-x.1) (0,a,cap) ⟨Nat.zero_le _,λ_=>⟨rfl,rfl⟩⟩ (by simp only[List.replicate_zero,List.append_nil];exact aSx) (λw h=>(by simp only[List.replicate_zero,List.append_nil];exact h.ent aEt)) (λ⟨k,a2,c2⟩hk1=>?_)
 dsimp only
 simp only[]at hk1
 obtain⟨hk2,hk3⟩:=hk1
 have hlk:(l++List.replicate k 0).length=l.length+k:=by simp
 refine aU5 ?_
 refine o_p (Zc rfl rfl rfl om om) rfl (aU2 ?_)
 refine sCd rfl (λh1=>?_) λh1=>?_
 ·have hk:k<(Q5 l.length-l.length):=by have hq:=h1;rw[hlk]at hq;omega
  have hrep:l++List.replicate (k+1) 0=(l++List.replicate k 0)++[0]:=by rw[List.replicate_succ',List.append_assoc]
  refine aU4 ?_
  refine o_h (Qg (cs:=[_]) rfl rfl QR Qad rfl rfl rfl) rfl (λb2 _=>?_)
  refine o_h (Qap (l:=l++List.replicate k 0) [0] rfl rfl rfl QR Tryz.underlying139 Qad aPk (Q7 aPk) (by simp only[List.length_replicate,List.length_append,List.length_cons,List.length_nil,le2,le4]<;>omega) (by simp only[maxLen,List.length_replicate,List.length_append,List.length_cons,List.length_nil,le2,le4]<;>omega)) rfl (λ⟨b3,c4⟩h5=>aU3 ?_)
  exact QK (k+1,b3,c4) (by(try simp only[]);omega) (by simp only[];rw[hrep];exact⟨om,hk3.trans h5 (by simp only[List.length_append];omega)⟩) (by dsimp only;rw[hrep];exact aSx) (λw h=>by dsimp only;rw[hrep];exact h.ent aEt)
 have hk:k=(Q5 l.length-l.length):=by have hq:=h1;rw[hlk]at hq;omega
 subst hk
 refine Qh rfl ?_
 refine aU5 ?_
 exact rT rfl rfl (λw' h'=>⟨(a2,c2),rfl,hk3,h'.ent aEt⟩)
theorem c156(w:World)(a:Option Addr)(cap:Nat)(l:List UInt8)(c:Int)(hw:HS w (fps [.byz a cap (l)]) [.byz a cap (l)] w)(hc9:0<=c/\c<4294967296)(hl:l.length<=900000):CE 156 #[.slice a l.length cap,.int .i64 c] w (fps [.byz a cap (l)]) (λg:Option Addr×Nat=>.slice g.1 (l++Qbg c).length g.2) (λg=>QcB a cap g (l++Qbg c).length) λg=>[.byz g.1 g.2 (l++Qbg c)]:=by
 have he9:l++Qbg c=((l++le2 8)++[0,0])++le4 c:=by simp only[Qbg,List.append_assoc]
 have l2:(l++le2 8).length=l.length+2:=by rw[List.length_append];rfl
 have l3:((l++le2 8)++[0,0]).length=l.length+4:=by rw[List.length_append,l2];rfl
 refine eW2 Tryz.func156 Tryz.ntmps156 hw ?_
 refine aU7 ?_
 refine o_h (QE (Cs:=[.byz a cap (l)]) rfl QkM rfl aPs (λw1 h1 hf=>QvF w1 a cap l 8 hf om om)) rfl (λ⟨b1,c2⟩hz3=>aU5 ?_)
 refine o_h (Qg (cs:=[_,_]) rfl rfl QR Qad rfl rfl rfl) rfl (λb4 _=>?_)
 refine o_h (Qap (l:=l++le2 8) [0,0] rfl rfl rfl QR Tryz.underlying139 Qad aPk (Q7 aPk) (by simp only[List.length_append,List.length_cons,List.length_nil,le2,le4]<;>omega) (by simp only[maxLen,List.length_append,List.length_cons,List.length_nil,le2,le4]<;>omega)) rfl (λ⟨b5,c6⟩h7=>aU6 ?_)
 refine o_p (Qm rfl rfl Yn Zl) rfl (Qf (show _=Value.int .u32 c from by rw[Qe2];congr 1;omega) (o_h (QE (Cs:=[.byz b5 c6 ((l++le2 8)++[0,0])]) rfl QoG rfl aPs (λw1 h1 hf=>c153 w1 b5 c6 ((l++le2 8)++[0,0]) c hf hc9 om)) rfl (λ⟨b8,c9⟩hz10=>aU2 ?_)))
 exact rT rfl rfl (λw' h'=>⟨(b8,c9),by rw[he9];rfl,by rw[he9];exact((hz3).trans h7 (by simp only[List.length_append];omega)).trans hz10 (by simp only[List.length_append];omega),by rw[he9];exact h'.ent aEt⟩)
instance:TFn Tryz.prog 178:=⟨by kernel_rfl⟩
theorem Qps:QQ Tryz.prog 121=true:=by kernel_rfl
instance:TFn Tryz.prog 121:=⟨Qps⟩
theorem Qtg:QQ Tryz.prog 95=true:=by kernel_rfl
instance:TFn Tryz.prog 95:=⟨Qtg⟩
instance:TFn Tryz.prog 94:=⟨by kernel_rfl⟩
instance:TFn Tryz.prog 86:=⟨by kernel_rfl⟩
theorem c94(w:World)(n:Int)(c:Nat)(hn:0<=n/\n<=9223372036854775807)(hc:c<=1000):CR 94 #[.int .i64 n,.int .i64 (c:Int)] w (.string (bs (QkY c n))):=by
 refine eN2 Tryz.func94 Tryz.ntmps94 ?_
 refine QgE ?_
 refine Qo (α:=Nat×Int×List UInt8×Option Addr×Nat) [0,5,6,7,8,9,10,11,12,13,14,15,16,17,18,19] (λx=>[(6,.int .i64 (x.1:Int)),(0,.int .i64 x.2.1),(5,.slice x.2.2.2.1 x.2.2.1.length x.2.2.2.2)]) (λx=>HS w [] [.own (.slice x.2.2.2.1 x.2.2.1.length x.2.2.2.2) 5 1 (x.2.2.1.length) ((x.2.2.1).map bv)]) (λx=>x.1<=c/\x.2.2.1.length=x.1/\(0<=x.2.1/\x.2.1<=9223372036854775807)/\QkY c n=x.2.2.1++QkY (c-x.1) x.2.1) (λx=>c-x.1) (0,n,[],none,0) ⟨Nat.zero_le _,rfl,hn,rfl⟩ aSx (λw h=>(h.own_nil 5 1).ent aEt) (λ⟨k,m,p,ga,gc⟩hx=>?_)
 dsimp only
 obtain⟨hk1,hpl,hm,hst⟩:=hx
 simp only[]at hk1 hpl hm hst
 refine aU7 ?_
 refine sCd rfl (λh1=>?_) λh1=>?_
 ·have hk:k<c:=by omega
  refine aU7 ?_
  refine o_p (Zc rfl rfl rfl om om) rfl (o_p (Qm rfl rfl Yn Zz) rfl (Qf (show _=bv (by8 m)from(YM _).trans (by rw[QdB (show m%256%256=m%256 by omega)])) (o_h (Qg (cs:=[_]) rfl rfl QR Qad rfl rfl rfl) rfl (λb2 _=>o_h (QO _ rfl rfl rfl QR Tryz.underlying139 Qad rfl aPk (Q7 aPk) rfl (by intro u hu;simp only[List.mem_cons,List.mem_nil_iff,or_false]at hu;subst hu;rfl) om (by simp only[maxLen];omega)) rfl (λb3 _=>aU4 ?_)))))
  refine o_p (XC rfl rfl rfl om om om) rfl (aT6 ?_)
  refine aU2 ?_
  exact QK (k+1,m/256,p++[by8 m],b3.1,b3.2) (by(try simp only[]);omega) ⟨by(try simp only[]);omega,by simp[hpl],by(try simp only[]);omega,by simp only[];rw[hst,show c-k=(c-(k+1))+1 by omega,QkY,List.append_assoc];rfl⟩ (by dsimp only;rw[List.length_append];exact aSx) (λw h=>by dsimp only;rw[List.length_append,List.map_append];exact h.ent aEt)
 obtain rfl:k=c:=om
 rw[Nat.sub_self,QkY,List.append_nil]at hst
 refine Qh rfl ?_
 refine aU3 ?_
 refine o_q (ZD rfl rfl Tryz.underlying139 Tryz.underlying9 Tryz.underlying5 aPk (Zi _)) rfl (aU2 ?_)
 exact rV (h:=by rw[YQ,hst];rfl)
theorem QdY(c:Nat):Y4 [.int .u8 0] (c*1)=(List.replicate c (0:UInt8)).map bv:=by
  rw[Nat.mul_one,List.map_replicate];exact Qcx _ _
theorem Qrm{m:Int}(h:0<=m/\m<=1000000000000):Value.int .i64 (IntKind.i64.wrap ((-m).tdiv 8))=Value.int .i64 (-(m/8)):=by
  rw[Int.neg_tdiv,Int.tdiv_eq_ediv_of_nonneg h.1];exact Qfd om om
theorem Qry{m:Int}(h:0<=m):(-m).tmod 8= -(m%8):=by rw[Int.neg_tmod,Int.tmod_eq_emod_of_nonneg h]
theorem c86(w:World)(c:Nat)(hc:c<=100000):CR 86 #[.int .i64 (c:Int)] w (.string (bs (List.replicate c 0))):=by
 refine eN1 Tryz.func86 Tryz.ntmps86 ?_
 refine aU7 ?_
 refine o_p (Qux rfl rfl rfl ) rfl (o_p (Qgg rfl rfl rfl ) rfl ?_)
 refine Qf (show _=Value.int .i64 (c:Int)from congrArg (Value.int .i64) (by split<;>split<;>omega)) (o_h (QeI (n:=c) rfl rfl rfl QR Qad om om) rfl (λb1 _=>o_q (Ym rfl rfl Tryz.underlying139 Tryz.underlying9 Tryz.underlying5 aPk (by simp[QW]) (by intro v hv;rw[QdY]at hv;exact Zi _ v hv)) rfl (aU2 ?_)))
 exact rV (h:=by rw[QdY,YQ];rfl)
theorem c53(w:World)(s:List UInt8)(hm:s.length<=1000000000):CR 53 #[.string (bs s)] w (.bool (zer s)):=by
 refine eN1 Tryz.func53 Tryz.ntmps53 ?_
 refine Zo ?_
 refine Qo (α:=Nat) [2,3,4,5,6,7,8,9,10,11,12,13] (λk=>[(3,.int .i64 (k:Int))]) (λ_=>_) (λk=>k<=s.length/\zer (s.take k)=true) (λk=>s.length-k) 0 ⟨Nat.zero_le _,rfl⟩ aSx (λw h=>h) (λk hkk=>?_)
 obtain⟨hk1,hk2⟩:=hkk
 refine aU5 ?_
 refine o_p (Qn rfl rfl Tryz.underlying9) rfl (aU2 ?_)
 refine sCd rfl (λh1=>?_) λh1=>?_
 ·have hk:k<s.length:=by omega
  have hst:=QpI hk
  refine aU7 ?_
  refine o_p (XE rfl rfl rfl Tryz.underlying9 (k) om om) rfl ?_
  refine aU2 ?_
  refine sCd rfl (λh2=>?_) λh2=>?_
  ·have hz:¬s.getD k 0=0:=by have hq:=h2;intro h9;exact hq (QkL.2 h9)
   have hf:=QtW hk hz
   refine aU4 ?_
   exact rV (h:=by rw[hf];rfl)
  have hz:s.getD k 0=0:=QkL.1 (by have hq:=h2;simpa using hq)
  refine aT5 ?_
  refine aU2 ?_
  exact QK (k+1) om ⟨om,by rw[hst,hk2,hz];rfl⟩ aSx (λw h=>h)
 obtain rfl:k=s.length:=om
 rw[List.take_length]at hk2
 refine Qh rfl ?_
 refine aU4 ?_
 exact rV (h:=by rw[hk2];rfl)
theorem c54(w:World)(l:List UInt8)(p:Nat)(d:List UInt8)(hp:p+d.length<=l.length)(hl:l.length<=1000000000):CR 54 #[.string (bs l),.int .i64 (p:Int),.string (bs d)] w (.string (bs (Q2 l p d))):=by
 refine eN3 Tryz.func54 Tryz.ntmps54 ?_
 refine aU5 ?_
 refine Qu [] QG ?_
 refine dP 0 ?_
 refine dP 1 ?_
 refine dV 2 rfl (ZJ p rfl rfl rfl Tryz.underlying9 rfl om) (dP 3 ?_)
 refine dV 4 rfl (QeR rfl rfl rfl (by(try simp only[List.length_append,List.length_cons,List.length_nil,List.length_replicate,List.length_take,List.length_drop]);omega)) (dP 5 ?_)
 refine dP 6 ?_
 refine dP 7 ?_
 refine dV 8 rfl (Qn rfl rfl Tryz.underlying9) (dP 9 ?_)
 try refine dWr ?_
 refine dV 10 rfl (Y6 (p+d.length) rfl rfl rfl Tryz.underlying9 om om) (dV 11 rfl (QeR rfl rfl rfl (by(try simp only[List.length_append,List.length_cons,List.length_nil,List.length_replicate,List.length_take,List.length_drop]);omega)) (dP 12 ?_))
 refine dNi ?_
 exact rV
theorem c178(w:World)(m:Int)(hm:0<=m/\m<=1000000000000):CR 178 #[.int .i64 (-m),.int .i64 8] w (.int .i64 (-((m+7)/8))):=by
 refine eN2 Tryz.func178 Tryz.ntmps178 ?_
 refine aU8 ?_
 refine o_p (Qtp rfl rfl rfl (by decide)) rfl (Qf (Qrm hm) (aU7 ?_))
 refine o_p (Qq7 rfl rfl rfl (by decide)) rfl (Qf (show _=Value.int .i64 (-(m%8))from by rw[Qry hm.1]) (aU2 ?_))
 refine sCd rfl (λh1=>?_) λh1=>?_
 ·refine aT3 ?_
  refine aU7 ?_
  exact rV (h:=by simp only[Q3];congr 2;omega)
 refine aU6 ?_
 exact rV (h:=by simp only[Q3];congr 2;omega)
theorem c121(w:World)(m:Int)(hm:0<=m/\m<=1000000000000):CR 121 #[.int .i64 m,.int .i64 8] w (.int .i64 ((m+7)/8)):=by
 refine eN2 Tryz.func121 Tryz.ntmps121 ?_
 refine aT8 ?_
 refine Qf (show _=Value.int .i64 (-m)from by rw[Int.zero_sub]) (aU ?_)
 refine oCq rfl (λw1 h1=>c178 w1 m hm) (aT ?_)
 refine Qf (show _=Value.int .i64 ((m+7)/8)from by congr 1;omega) (aU2 ?_)
 exact rV
theorem c95(w:World)(m:Nat)(hm:m<=1000000000):CR 95 #[.int .i64 (m:Int)] w (.int .i64 ((Q5 m:Nat):Int)):=by
 refine eN1 Tryz.func95 Tryz.ntmps95 ?_
 refine aU7 ?_
 refine oCq rfl (λw1 h1=>c121 w1 (m:Int) om) (aT ?_)
 refine aU2 ?_
 exact rV (h:=by simp only[Q3,Q5];congr 2)
theorem c29(w:World)(x:TEnt)(c:Int)(hk:x.key.length<=1000000)(hv:x.val.length<=1000000):CR 29 #[.agg #[.string (bs x.key),.string (bs x.val)],.int .i64 c] w (.int .i64 (YH x c)):=by
 refine eN2 Tryz.func29 Tryz.ntmps29 ?_
 refine aU2 ?_
 refine oBx λb1 _=>?_
 refine aU7 ?_
 refine o_p (Qn rfl rfl Tryz.underlying9) rfl (oCq rfl (λw1 h1=>c40 w1 _ _ _) (aU2 ?_))
 refine sCd rfl (λh2=>?_) λh2=>?_
 ·have hz:YH x c=3:=by have hq:=h2;unfold YH;rw[if_neg (by first|omega|(simp at hq;omega))]
  refine aU4 ?_
  exact rV (h:=by rw[hz];rfl)
 have hk1:1<=x.key.length/\x.key.length<=40:=by have hq:=h2;first|omega|(simp at hq;omega)
 refine aU6 ?_
 refine o_p (Qn rfl rfl Tryz.underlying9) rfl (aU2 ?_)
 refine o_p (Qn rfl rfl Tryz.underlying9) rfl (aT ?_)
 refine aU2 ?_
 refine sCd rfl (λh3=>?_) λh3=>?_
 ·have hz:YH x c=8:=by have hq:=h3;unfold YH;rw[if_pos hk1,if_neg om]
  refine aU4 ?_
  exact rV (h:=by rw[hz];rfl)
 have hk2:x.key.length+x.val.length<=88:=by have hq:=h3;omega
 refine aU5 ?_
 refine oCq rfl (λw1 h1=>c40 w1 _ _ _) (aU2 ?_)
 refine sCd rfl (λh4=>?_) λh4=>?_
 ·have hz:YH x c=2:=by have hq:=h4;unfold YH;rw[if_pos hk1,if_pos hk2,if_neg (by first|omega|(simp at hq;omega))]
  refine aU4 ?_
  exact rV (h:=by rw[hz];rfl)
 have hz:YH x c=0:=by have hq:=h4;unfold YH;rw[if_pos hk1,if_pos hk2,if_pos (by first|omega|(simp at hq;omega))]
 refine aU5 ?_
 exact rV (h:=by rw[hz];rfl)
theorem Qqu:QQ Tryz.prog 154=true:=by kernel_rfl
theorem Qq2:QQ Tryz.prog 88=true:=by kernel_rfl
instance:TFn Tryz.prog 88:=⟨Qq2⟩
theorem Qgw:QQ Tryz.prog 59=true:=by kernel_rfl
instance:TFn Tryz.prog 59:=⟨Qgw⟩
theorem Qq6:QQ Tryz.prog 89=true:=by kernel_rfl
theorem c89(w:World)(a:Option Addr)(cap:Nat)(l:List UInt8)(x:TEnt)(c:Int)(hw:HS w (fps [.byz a cap (l)]) [.byz a cap (l)] w)(hl:l.length<=900000)(hl8:l.length%8=0)(hk:x.key.length<=300)(hv:x.val.length<=300)(hc:0<=c/\c<4294967296):CE 89 #[.slice a l.length cap,.agg #[.string (bs x.key),.string (bs x.val)],.int .i64 c] w (fps [.byz a cap (l)]) (λg:Option Addr×Nat=>.slice g.1 (l++YG x c).length g.2) (λg=>QcB a cap g (l++YG x c).length) λg=>[.byz g.1 g.2 (l++YG x c)]:=by
 have hsz:x.sz=8+x.key.length+x.val.length:=rfl
 have hp8:=Yx x.sz
 have l1:(l++le2 ((Q5 x.sz:Nat):Int)).length=l.length+2:=by rw[List.length_append];rfl
 have l2:((l++le2 ((Q5 x.sz:Nat):Int))++[by8 x.key.length,by8 x.val.length]).length=l.length+4:=by rw[List.length_append,l1];rfl
 have l3:(((l++le2 ((Q5 x.sz:Nat):Int))++[by8 x.key.length,by8 x.val.length])++le4 c).length=l.length+8:=by rw[List.length_append,l2];rfl
 have l4:((((l++le2 ((Q5 x.sz:Nat):Int))++[by8 x.key.length,by8 x.val.length])++le4 c)++x.key).length=l.length+8+x.key.length:=by rw[List.length_append,l3]
 have l5:(((((l++le2 ((Q5 x.sz:Nat):Int))++[by8 x.key.length,by8 x.val.length])++le4 c)++x.key)++x.val).length=l.length+x.sz:=by rw[List.length_append,l4];omega
 have hpd:Q5 (((((l++le2 ((Q5 x.sz:Nat):Int))++[by8 x.key.length,by8 x.val.length])++le4 c)++x.key)++x.val).length-(((((l++le2 ((Q5 x.sz:Nat):Int))++[by8 x.key.length,by8 x.val.length])++le4 c)++x.key)++x.val).length=Q5 x.sz-x.sz:=by rw[l5,QoH hl8];omega
 have he9:l++YG x c=(((((l++le2 ((Q5 x.sz:Nat):Int))++[by8 x.key.length,by8 x.val.length])++le4 c)++x.key)++x.val)++List.replicate (Q5 (((((l++le2 ((Q5 x.sz:Nat):Int))++[by8 x.key.length,by8 x.val.length])++le4 c)++x.key)++x.val).length-(((((l++le2 ((Q5 x.sz:Nat):Int))++[by8 x.key.length,by8 x.val.length])++le4 c)++x.key)++x.val).length) 0:=by rw[hpd];simp only[YG,List.append_assoc]
 refine eW3 Tryz.func89 Tryz.ntmps89 hw ?_
 refine aU2 ?_
 refine oBx λb1 _=>?_
 refine aU6 ?_
 refine o_p (Qn rfl rfl Tryz.underlying9) rfl (aT ?_)
 refine aU2 ?_
 refine o_p (Qn rfl rfl Tryz.underlying9) rfl (aT ?_)
 refine aT ?_
 refine aT ?_
 refine o_p (XC rfl rfl rfl om om om) rfl (aT ?_)
 refine Qf (show _=Value.int .i64 ((Q5 x.sz:Nat):Int)from by congr 1;unfold Q5;omega) (aU6 ?_)
 refine o_p (Qm rfl rfl Yn YO) rfl (Qf (show _=Value.int .u16 ((Q5 x.sz:Nat):Int)from by first|rfl|(rw[Qj2];congr 1;omega)) (o_h (QE (Cs:=[.byz a cap (l)]) rfl QkM rfl aPs (λw1 h1 hf=>QvF w1 a cap l ((Q5 x.sz:Nat):Int) hf om om)) rfl (λ⟨b2,c3⟩hz4=>aU7 ?_)))
 refine o_p (Qn rfl rfl Tryz.underlying9) rfl (o_p (Qm rfl rfl Yn Zz) rfl (Qf (YM _) (aU2 ?_)))
 refine o_p (Qn rfl rfl Tryz.underlying9) rfl (o_p (Qm rfl rfl Yn Zz) rfl (Qf (YM _) (o_h (Qg (cs:=[_,_]) rfl rfl QR Qad rfl rfl rfl) rfl (λb5 _=>?_))))
 refine o_h (Qap (l:=(l++le2 ((Q5 x.sz:Nat):Int))) [by8 x.key.length,by8 x.val.length] rfl rfl rfl QR Tryz.underlying139 Qad aPk (Q7 aPk) (by simp only[List.length_append,List.length_cons,List.length_nil,le2,le4]<;>omega) (by simp only[maxLen,List.length_append,List.length_cons,List.length_nil,le2,le4]<;>omega)) rfl (λ⟨b6,c7⟩h8=>aU3 ?_)
 refine Qe (L':=[(0,_),(2,_),(4,_),(6,_)]) aSx (λ_ h=>h) ?_
 refine aU3 ?_
 refine o_p (Qm rfl rfl Yn Zl) rfl (Qf (show _=Value.int .u32 c from by first|rfl|(rw[Qe2];congr 1;omega)) (o_h (QE (Cs:=[.byz b6 c7 (((l++le2 ((Q5 x.sz:Nat):Int))++[by8 x.key.length,by8 x.val.length]))]) rfl QoG rfl aPs (λw1 h1 hf=>c153 w1 b6 c7 ((l++le2 ((Q5 x.sz:Nat):Int))++[by8 x.key.length,by8 x.val.length]) c hf hc om)) rfl (λ⟨b9,c10⟩hz11=>aU3 ?_)))
 refine QbL [.blk b1 27 2 [.string (bs x.key),.string (bs x.val)]] [] QG ?_
 refine dP 0 ?_
 refine dFa 1 ?_
 refine dLd 2 [] ?_
 refine dFa 4 ?_
 refine dLd 5 [] ?_
 refine dH 3 rfl (Qa8 (l:=(((l++le2 ((Q5 x.sz:Nat):Int))++[by8 x.key.length,by8 x.val.length])++le4 c)) rfl rfl rfl QR Tryz.underlying9 Qad aPk (by simp only[List.length_append,List.length_cons,List.length_nil,le2,le4]<;>omega) (by simp only[maxLen,List.length_append,List.length_cons,List.length_nil,le2,le4]<;>omega)) (λ⟨b12,c13⟩h14=>?_)
 refine dH 6 rfl (Qa8 (l:=((((l++le2 ((Q5 x.sz:Nat):Int))++[by8 x.key.length,by8 x.val.length])++le4 c)++x.key)) rfl rfl rfl QR Tryz.underlying9 Qad aPk (by simp only[List.length_append,List.length_cons,List.length_nil,le2,le4]<;>omega) (by simp only[maxLen,List.length_append,List.length_cons,List.length_nil,le2,le4]<;>omega)) (λ⟨b15,c16⟩h17=>dH 7 rfl (QE (Cs:=[.byz b15 c16 ((((((l++le2 ((Q5 x.sz:Nat):Int))++[by8 x.key.length,by8 x.val.length])++le4 c)++x.key)++x.val))]) rfl Qqu rfl aPs (λw1 h1 hf=>c154 w1 b15 c16 (((((l++le2 ((Q5 x.sz:Nat):Int))++[by8 x.key.length,by8 x.val.length])++le4 c)++x.key)++x.val) hf om)) (λ⟨b18,c19⟩hz20=>dP 8 ?_))
 refine dNi ?_
 exact rT rfl rfl (λw' h'=>⟨(b18,c19),by rw[he9];rfl,by rw[he9];exact(((((hz4).trans h8 (by simp only[List.length_append];omega)).trans hz11 (by simp only[List.length_append];omega)).trans h14 (by simp only[List.length_append];omega)).trans h17 (by simp only[List.length_append];omega)).trans hz20 (by simp only[List.length_append];omega),by rw[he9];exact h'.ent aEt⟩)
theorem c26(w:World)(x:TEnt)(c:Int)(hk:x.key.length<=1000000)(hv:x.val.length<=1000000):CR 26 #[.agg #[.string (bs x.key),.string (bs x.val)],.int .i64 c] w (.tuple #[.string (bs (if YH x c=0 then YG x c else[])),.int .i64 (YH x c)]):=by
 have hf9:Xs [.int .i64 (cond (decide (1<=(x.key.length:Int))&&decide ((x.key.length:Int)<=40)) 0 3),.int .i64 (cond (YJ x) 0 8),.int .i64 (cond (decide (0<=c)&&decide (c<=120)) 0 2)]=YH x c:=by simp only[Xs,YH,YJ,cond_eq_ite,Bool.and_eq_true,decide_eq_true_eq];grind
 refine eN2 Tryz.func26 Tryz.ntmps26 ?_
 refine aU2 ?_
 refine oBx λb1 _=>?_
 refine aU4 ?_
 refine Qu [] QG ?_
 refine dFa 0 ?_
 refine dLd 1 [] ?_
 refine dV 2 rfl (Qn rfl rfl Tryz.underlying9) (dQ 3 [] rfl (QA rfl QpL rfl (λw1 h1=>c87 w1 _ _ _)) (dQ 4 [] rfl (QA rfl Qbx rfl (λw1 h1=>c60 w1 _ _)) (dLn 5 [] ?_)))
 refine dQ 6 [] rfl (QA rfl Qq2 rfl (λw1 h1=>c88 w1 _ om om)) (dQ 7 [] rfl (QA rfl Qbx rfl (λw1 h1=>c60 w1 _ _)) (dP 8 ?_))
 refine dQ 9 [] rfl (QA rfl QpL rfl (λw1 h1=>c87 w1 _ _ _)) (dQ 10 [] rfl (QA rfl Qbx rfl (λw1 h1=>c60 w1 _ _)) (dH 11 rfl (Qg (cs:=[_,_,_]) rfl rfl Yt ZP rfl rfl rfl) (λb2 _=>dBa ?_)))
 refine dQ 12 [] rfl (QA rfl Qgw rfl (λw1 h1=>f59 h1 aPk (by rfl) (by rfl) (by decide))) (dP 13 ?_)
 refine dNi ?_
 refine aU6 ?_
 refine sCd rfl (λh3=>?_) λh3=>?_
 ·have h0:¬YH x c=0:=by have hq:=h3;rw[hf9]at hq;exact hq
  refine aU6 ?_
  exact Qj (rs:=[.tmp 4,.tmp 5]) rfl (.tmp rfl (.tmp rfl (.nil))) (λw' h'=>⟨by rw[hf9,if_neg h0];rfl,h'.below⟩)
 have h0:YH x c=0:=by have hq:=h3;rw[hf9]at hq;exact hq
 have hk9:x.key.length<=300/\x.val.length<=300/\0<=c/\c<4294967296:=by have hq:=h0;unfold YH at hq;split at hq;(split at hq;(split at hq;omega;cases hq);cases hq);cases hq
 refine aU5 ?_
 refine QZ (λw h=>h.byz_nil) (o_h (QE (Cs:=[.byz none 0 []]) rfl Qq6 rfl aPs (λw1 h1 hf=>c89 w1 none 0 [] x c hf (Nat.zero_le _) rfl hk9.1 hk9.2.1 hk9.2.2)) rfl (λ⟨b4,c5⟩hz6=>QZ (λw h=>h.byz_own .here) (o_q (ZD rfl rfl Tryz.underlying139 Tryz.underlying9 Tryz.underlying5 aPk (Zi _)) rfl (aU3 ?_))))
 exact Qj (rs:=[.tmp 4,.tmp 5]) rfl (.tmp rfl (.tmp rfl (.nil))) (λw' h'=>⟨by rw[if_pos h0,h0,YQ];rfl,h'.below⟩)
theorem Qq0:QQ Tryz.prog 202=true:=by kernel_rfl
theorem Qrt:QQ Tryz.prog 156=true:=by kernel_rfl
theorem c202(w:World)(b:Nat)(n:LNd)(i:Nat)(hb:Rd w [] b 2 (.slice n.ca n.cs.length n.cc))(hcs:Rw inV 1 w [] n.ca n.cs)(hl:n.cs.length<=1000000)(hi:n.cs.length=0\/i<n.cs.length):CR 202 #[.int .i64 (i:Int),.pointer (some ⟨b,0,none⟩)] w (.int .i64 (XN n.cs i)):=by
 refine eN2 Tryz.func202 Tryz.ntmps202 ?_
 refine aU8 ?_
 refine o_q (Qc rfl rfl Ya (hb)) rfl (aU3 ?_)
 refine sCd rfl (λh1=>?_) λh1=>?_
 ·have hz:XN n.cs i=0:=if_pos (by have hq:=h1;omega)
  refine aU4 ?_
  exact rV (h:=by rw[hz];rfl)
 have hc0:¬n.cs.length=0:=by have hq:=h1;omega
 have hz:XN n.cs i=nth n.cs i:=if_neg hc0
 refine aU4 ?_
 refine o_q (Qc rfl rfl Ya (hb)) rfl (aU ?_)
 refine o_p (Qa rfl rfl rfl QM (i) om om (Rw.some hcs om)) rfl (o_q (Qc rfl rfl Ye ((hcs.rdj (i:=i) 0 om rfl))) rfl (aU2 ?_))
 exact rV (h:=by rw[hz];rfl)
theorem c148(w:World)(a:Option Addr)(cap:Nat)(l:List UInt8)(n:LNd)(hw:HS w (fps [.byz a cap (l)]) [.byz a cap (l)] w)(hl:l.length<=100000)(hl8:l.length%8=0)(hes:Rw TEnt.vals 2 w (fps [.byz a cap (l)]) n.ea n.es)(hcs:Rw inV 1 w (fps [.byz a cap (l)]) n.ca n.cs)(hp:NdP n.pl):CE 148 #[.slice a l.length cap,.agg #[.bool n.us,.slice n.ea n.es.length n.ec,.slice n.ca n.cs.length n.cc]] w (fps [.byz a cap (l)]) (λg:Option Addr×Nat=>.slice g.1 (l++XK n.pl).length g.2) (λg=>QcB a cap g (l++XK n.pl).length) λg=>[.byz g.1 g.2 (l++XK n.pl)]:=by
 have hcl:n.cs.length=0\/n.cs.length=n.es.length+1:=hp.cl
 have hel:n.es.length<=1000:=hp.el
 have he9:l++XK n.pl=(l++Xh n.pl n.es.length)++Qbg (XN n.cs n.es.length):=by rw[List.append_assoc];rfl
 have hee:=hp.ents n.es.length (Nat.le_refl _)
 have hle:(l++Xh n.pl n.es.length).length=l.length+(Xh n.pl n.es.length).length:=List.length_append
 have hke:0<=XN n.cs n.es.length/\XN n.cs n.es.length<4294967296:=hp.kid (i:=n.es.length) (Nat.le_refl _)
 refine eW2 Tryz.func148 Tryz.ntmps148 hw ?_
 refine aU2 ?_
 refine oBx λb1 _=>?_
 refine aU16 ?_
 refine Qo (α:=Nat×Option Addr×Nat) [0,6,7,12,13,14,15,16,17,18,19,20,21,22,23] (λx=>[(12,.int .i64 (x.1:Int)),(0,.slice x.2.1 (l++Xh n.pl x.1).length x.2.2)]) (λx=>HS w (fps [.byz a cap (l)]) [.byz x.2.1 x.2.2 (l++Xh n.pl x.1),.blk b1 69 3 (LNd.vals n)]) (λx=>x.1<=n.es.length/\QcB a cap (x.2.1,x.2.2) (l++Xh n.pl x.1).length) (λx=>n.es.length-x.1) (0,a,cap) ⟨Nat.zero_le _,λ_=>⟨rfl,rfl⟩⟩ (by simp only[Xh,List.append_nil];exact aSx) (λw h=>(by simp only[Xh,List.append_nil];exact h.ent aEt)) (λ⟨k,a2,c2⟩hk1=>?_)
 dsimp only
 simp only[]at hk1
 obtain⟨hk2,hk3⟩:=hk1
 have hek:=hp.ents k hk2
 have hlk:(l++Xh n.pl k).length=l.length+(Xh n.pl k).length:=List.length_append
 refine aU5 ?_
 refine sCd rfl (λh2=>?_) λh2=>?_
 ·have hk:k<n.es.length:=by omega
  have hst:l++Xh n.pl (k+1)=(l++Xh n.pl k)++YG (nth n.es k) (XN n.cs k):=by rw[List.append_assoc];rfl
  have hkk:0<=XN n.cs k/\XN n.cs k<4294967296:=hp.kid (i:=k) (Nat.le_of_lt hk)
  have hx9:(nth n.es k).key.length<=300/\(nth n.es k).val.length<=300:=hp.es _ (Qz hk)
  refine aU6 ?_
  refine o_p (Qa rfl rfl rfl Qy (k) om om (Rw.some hes om)) rfl (o_q (QI _ rfl rfl Xb rfl (Rw.rd hes om)) rfl (oAl (λb3 _=>?_) XD))
  refine aU3 ?_
  refine Qu [5] QG ?_
  refine dP 0 ?_
  refine dLn 1 [[]] ?_
  refine dP 2 ?_
  refine dP 3 ?_
  refine dQ 4 [[]] rfl (Xj rfl rfl Qq0 rfl (λw1 h1=>c202 w1 b1 n k (h1.rd_blk (Mc:=[]) aPk rfl (by simp)) (hcs.later h1) om om)) (dH 5 rfl (QE (Cs:=[.byz a2 c2 (l++Xh n.pl k)]) rfl Qq6 rfl aPs (λw1 h1 hf=>c89 w1 a2 c2 (l++Xh n.pl k) (nth n.es k) (XN n.cs k) hf om om hx9.1 hx9.2 hkk)) (λ⟨b4,c5⟩hz6=>dTu [] ?_))
  refine dP 6 ?_
  refine dNi ?_
  refine aT3 ?_
  refine aU2 ?_
  exact QK (k+1,b4,c5) (by(try simp only[]);omega) (by simp only[];rw[hst];exact⟨om,hk3.trans hz6 (by simp only[List.length_append];omega)⟩) (by dsimp only;rw[hst];exact aSx) (λw h=>by dsimp only;rw[hst];exact h.ent aEt)
 obtain rfl:k=n.es.length:=om
 refine Qh rfl ?_
 refine aU7 ?_
 refine o_q (Xj rfl rfl Qq0 rfl (λw1 h1=>c202 w1 b1 n n.es.length (h1.rd_blk (Mc:=[]) aPk rfl (by simp)) (hcs.later h1) om om)) rfl (o_h (QE (Cs:=[.byz a2 c2 (l++Xh n.pl n.es.length)]) rfl Qrt rfl aPs (λw1 h1 hf=>c156 w1 a2 c2 (l++Xh n.pl n.es.length) (XN n.cs n.es.length) hf hke om)) rfl (λ⟨b7,c8⟩hz9=>aU2 ?_))
 exact rT rfl rfl (λw' h'=>⟨(b7,c8),by rw[he9];rfl,by rw[he9];exact hk3.trans hz9 (by simp only[List.length_append];omega),by rw[he9];exact h'.ent aEt⟩)
theorem Qum:QQ Tryz.prog 144=true:=by kernel_rfl
theorem Qvc:QQ Tryz.prog 142=true:=by kernel_rfl
instance:TFn Tryz.prog 176:=⟨by kernel_rfl⟩
instance:TFn Tryz.prog 201:=⟨by kernel_rfl⟩
instance:TFn Tryz.prog 143:=⟨by kernel_rfl⟩
instance:TFn Tryz.prog 140:=⟨by kernel_rfl⟩
instance:TFn Tryz.prog 141:=⟨by kernel_rfl⟩
theorem c144(w:World)(x:TEnt)(hk:x.key.length<=1000000)(hv:x.val.length<=1000000):CR 144 #[.agg #[.string (bs x.key),.string (bs x.val)]] w (.bool (!YJ x)):=by
 refine eN1 Tryz.func144 Tryz.ntmps144 ?_
 refine aU2 ?_
 refine oBx λb1 _=>?_
 refine aU5 ?_
 refine oCq rfl (λw1 h1=>c88 w1 _ om om) (aU3 ?_)
 exact rV
theorem QuN(w:World)(a:Option Addr)(cap:Nat)(l:List TEnt)(q:Nat)(cv:Array Value)(bt:List Bool)(hs:Rw TEnt.vals 2 w [] a l)(hm:l.length<=1000000)(hq:QQ Tryz.prog q=true)(hb:bt.length=l.length)(hc:∀k w1,k<l.length->HS w [] [] w1->Calls Tryz.prog q (#[]++[.agg (TEnt.vals (nth l k)).toArray].toArray++cv) w1 λen w2=>en=.returned (.bool (bt.getD k false))/\Below w1.heap.size w1 w2):CR 176 #[.slice a l.length cap,.func (.func q) #[] cv] w (.int .i64 (ixI bt)):=by
 refine eN2 Tryz.func176 Tryz.ntmps176 ?_
 refine Zg ?_
 refine Qo (α:=Nat) [4,5,8,9,10,11,12,13,14,15,16,17,18] (λk=>[(8,.int .i64 (k:Int))]) (λ_=>_) (λk=>k<=l.length/\∀i,i<k->bt.getD i false=false) (λk=>l.length-k) 0 ⟨om,λi h=>absurd h (Nat.not_lt_zero i)⟩ aSx (λw h=>h) (λk hk=>?_)
 obtain⟨hk1,hk2⟩:=hk
 refine aU5 ?_
 refine sCd rfl (λh1=>?_) λh1=>?_
 ·refine Qa5 ?_
  refine o_p (Qa rfl rfl rfl Qy (k) om om (Rw.some hs om)) rfl (o_q (QI _ rfl rfl Xb rfl (Rw.rd hs om)) rfl (o_q (Xj rfl rfl hq rfl (λw1 h1=>hc k w1 om (h1.ent aEt))) rfl (aU ?_)))
  refine sCd rfl (λh2=>?_) λh2=>?_
  ·refine aU5 ?_
   exact rV (h:=by have e:=QaA (l:=bt) (k:=k) om hk2 (λ_=>by assumption);simp only[Q3,ixI,e];rw[if_pos om])
  refine aT4 ?_
  refine aU2 ?_
  exact QK (k+1) om ⟨om,λi hi=>(Nat.lt_or_ge i k).elim (hk2 i) (λh=>by obtain rfl:i=k:=om;assumption)⟩ aSx (λw h=>h)
 refine Qh rfl ?_
 refine aU4 ?_
 exact rV (h:=by have e:=QaA (l:=bt) (k:=k) om hk2 (λh=>om);simp only[Q3,ixI,e];rw[if_neg om])
theorem c143(w:World)(a:Option Addr)(cap:Nat)(l:List TEnt)(q:Nat)(cv:Array Value)(bt:List Bool)(hs:Rw TEnt.vals 2 w [] a l)(hm:l.length<=1000000)(hq:QQ Tryz.prog q=true)(hb:bt.length=l.length)(hc:∀k w1,k<l.length->HS w [] [] w1->Calls Tryz.prog q (#[]++[.agg (TEnt.vals (nth l k)).toArray].toArray++cv) w1 λen w2=>en=.returned (.bool (bt.getD k false))/\Below w1.heap.size w1 w2):CR 143 #[.slice a l.length cap,.func (.func q) #[] cv] w (.bool (bt.any id)):=by
 refine eN2 Tryz.func143 Tryz.ntmps143 ?_
 refine aU8 ?_
 refine oCq rfl (λw1 h1=>QuN w1 a cap l q cv bt (hs.later h1) hm hq hb (λk w2 hk h2=>hc k w2 hk (by simpa using h1.call h2))) (aU3 ?_)
 exact rV (h:=by simp only[Q3];rw[<-Qfn])
theorem c201(w:World)(a:Option Addr)(cap:Nat)(l:List LNd)(q:Nat)(cv:Array Value)(bt:List Bool)(hs:Rw LNd.vals 3 w [] a l)(hm:l.length<=1000000)(hq:QQ Tryz.prog q=true)(hb:bt.length=l.length)(hc:∀k w1,k<l.length->HS w [] [] w1->Calls Tryz.prog q (#[]++[.agg (LNd.vals (nth l k)).toArray].toArray++cv) w1 λen w2=>en=.returned (.bool (bt.getD k false))/\Below w1.heap.size w1 w2):CR 201 #[.slice a l.length cap,.func (.func q) #[] cv] w (.int .i64 (ixI bt)):=by
 refine eN2 Tryz.func201 Tryz.ntmps201 ?_
 refine Zg ?_
 refine Qo (α:=Nat) [4,5,8,9,10,11,12,13,14,15,16,17,18] (λk=>[(8,.int .i64 (k:Int))]) (λ_=>_) (λk=>k<=l.length/\∀i,i<k->bt.getD i false=false) (λk=>l.length-k) 0 ⟨om,λi h=>absurd h (Nat.not_lt_zero i)⟩ aSx (λw h=>h) (λk hk=>?_)
 obtain⟨hk1,hk2⟩:=hk
 refine aU5 ?_
 refine sCd rfl (λh1=>?_) λh1=>?_
 ·refine Qa5 ?_
  refine o_p (Qa rfl rfl rfl QH (k) om om (Rw.some hs om)) rfl (o_q (QI _ rfl rfl Xv rfl (Rw.rd hs om)) rfl (o_q (Xj rfl rfl hq rfl (λw1 h1=>hc k w1 om (h1.ent aEt))) rfl (aU ?_)))
  refine sCd rfl (λh2=>?_) λh2=>?_
  ·refine aU5 ?_
   exact rV (h:=by have e:=QaA (l:=bt) (k:=k) om hk2 (λ_=>by assumption);simp only[Q3,ixI,e];rw[if_pos om])
  refine aT4 ?_
  refine aU2 ?_
  exact QK (k+1) om ⟨om,λi hi=>(Nat.lt_or_ge i k).elim (hk2 i) (λh=>by obtain rfl:i=k:=om;assumption)⟩ aSx (λw h=>h)
 refine Qh rfl ?_
 refine aU4 ?_
 exact rV (h:=by have e:=QaA (l:=bt) (k:=k) om hk2 (λh=>om);simp only[Q3,ixI,e];rw[if_neg om])
theorem c141(w:World)(a:Option Addr)(cap:Nat)(l:List LNd)(q:Nat)(cv:Array Value)(bt:List Bool)(hs:Rw LNd.vals 3 w [] a l)(hm:l.length<=1000000)(hq:QQ Tryz.prog q=true)(hb:bt.length=l.length)(hc:∀k w1,k<l.length->HS w [] [] w1->Calls Tryz.prog q (#[]++[.agg (LNd.vals (nth l k)).toArray].toArray++cv) w1 λen w2=>en=.returned (.bool (bt.getD k false))/\Below w1.heap.size w1 w2):CR 141 #[.slice a l.length cap,.func (.func q) #[] cv] w (.bool (bt.any id)):=by
 refine eN2 Tryz.func141 Tryz.ntmps141 ?_
 refine aU8 ?_
 refine oCq rfl (λw1 h1=>c201 w1 a cap l q cv bt (hs.later h1) hm hq hb (λk w2 hk h2=>hc k w2 hk (by simpa using h1.call h2))) (aU3 ?_)
 exact rV (h:=by simp only[Q3];rw[<-Qfn])
theorem c142(w:World)(n:LNd)(hes:Rw TEnt.vals 2 w [] n.ea n.es)(hl:n.es.length<=1000000)(hkl:∀x∈n.es,x.key.length<=1000000/\x.val.length<=1000000):CR 142 #[.agg #[.bool n.us,.slice n.ea n.es.length n.ec,.slice n.ca n.cs.length n.cc]] w (.bool (!Zn n.pl)):=by
 refine eN1 Tryz.func142 Tryz.ntmps142 ?_
 refine aU2 ?_
 refine oBx λb1 _=>?_
 refine aU6 ?_
 refine oCq rfl (λw1 h1=>c143 w1 n.ea n.ec n.es 144 #[] (Qhc n.es) (hes.later h1) hl Qum (by simp[Qhc]) (λk w2 hk h2=>by rw[QnE hk];exact c144 w2 (nth n.es k) (hkl _ (Qz hk)).1 (hkl _ (Qz hk)).2)) (aU2 ?_)
 exact rV (h:=by simp only[Q3];rw[Qol];rfl)
theorem c75(w:World)(co mo rm:Int)(a:Option Addr)(cap:Nat)(L:List LNd)(hs:Nt w [] a L)(hB:Bd (pln L))(hkl:∀i,i<L.length->∀x∈(nth L i).es,x.key.length<=1000000/\x.val.length<=1000000):CR 75 #[.agg #[.int .i64 co,.int .i64 mo,.int .i64 rm,.slice a L.length cap]] w (.int .i64 (Zy (⟨co,mo,rm,pln L⟩:Tre))):=by
 have hLl:L.length<=1000:=by have:=hB.len;rwa[Qd]at this
 refine eN1 Tryz.func75 Tryz.ntmps75 ?_
 refine aU2 ?_
 refine oBx λb1 _=>?_
 refine aU5 ?_
 refine oCq rfl (λw1 h1=>Qr1 w1 co mo rm a cap L (hs.later h1.nil) hB (λi hi x hx=>(hkl i hi x hx).1)) (Zg ?_)
 refine oOr 4 14 18 rfl
  (λhg2 _=>by
   refine aU5 ?_
   refine oCq rfl (λw1 h1=>c141 w1 a cap L 142 #[] (Qhn L) (Rw.later hs.1 h1) om Qvc (by simp[Qhn]) (λk w2 hk h2=>by rw[Qoe hk];exact c142 w2 (nth L k) ((hs.es hk).later (by simpa using h1.call h2)) (by have:=hB.es k (by rwa[Qd]);rw[Q1]at this;have h8:(nth L k).es.length<=1000:=this;omega) (hkl k hk))) ?_
   exact oJf 4 18)
  (λhg4 _=>by
   refine aU3 ?_
   exact oJt 4 18) ?_
 refine aU7 ?_
 refine oCq rfl (λw1 h1=>c60 w1 _ _) (o_h (Qg (cs:=[_,_]) rfl rfl Yt ZP rfl rfl rfl) rfl (λb6 _=>oCq rfl (λw1 h1=>f59 h1 aPk (by rfl) (by rfl) (by decide)) (aU2 ?_)))
 exact rV (h:=by simp only[Q3,Xs,Zy,QnP];first|grind|(simp_all;done))
theorem Qqb:QQ Tryz.prog 148=true:=by kernel_rfl
instance:TFn Tryz.prog 75:=⟨by kernel_rfl⟩
theorem Qwd:QQ Tryz.prog 90=true:=by kernel_rfl
theorem c90(w:World)(co mo rm:Int)(a:Option Addr)(cap:Nat)(L:List LNd)(hs:Nt w [] a L)(h0:0<L.length)(hp:NdP (nth L 0).pl):CR 90 #[.agg #[.int .i64 co,.int .i64 mo,.int .i64 rm,.slice a L.length cap]] w (.string (bs (Qcl (⟨co,mo,rm,pln L⟩:Tre)))):=by
 have hel:(nth L 0).es.length<=1000:=hp.el
 have hee:(Xh (nth L 0).pl (nth L 0).es.length).length<=608*(nth L 0).es.length/\(Xh (nth L 0).pl (nth L 0).es.length).length%8=0:=hp.ents _ (Nat.le_refl _)
 have hR:Qcl (⟨co,mo,rm,pln L⟩:Tre)=(ZI++[by8 co,by8 mo,by8 rm,by8 ((nth L 0).es.length:Int)])++XK (nth L 0).pl:=by simp only[Qcl,Q1];rfl
 have l8:(ZI++[by8 co,by8 mo,by8 rm,by8 ((nth L 0).es.length:Int)]).length=8:=rfl
 refine eN1 Tryz.func90 Tryz.ntmps90 ?_
 refine aU2 ?_
 refine oBx λb1 _=>?_
 refine aU6 ?_
 refine o_p (Qa rfl rfl rfl QH 0 rfl om (Rw.some hs.1 om)) rfl (o_q (QI _ rfl rfl Xv rfl (Rw.rd hs.1 om)) rfl (oAl (λb2 _=>?_) Xc))
 refine aU4 ?_
 refine o_h (Qg (cs:=[_,_,_,_]) rfl rfl QR Qad rfl rfl rfl) rfl (λb3 _=>o_h (Qlm rfl rfl Tryz.underlying139 Tryz.underlying5 aPt) rfl (λ_ _=>QZ (λw h=>h.byz_blk (l:=ZI) aPk (by decide) (by decide) rfl) (aU2 ?_)))
 refine o_p (Qm rfl rfl Yn Zz) rfl (Qf (YM _) (aU2 ?_))
 refine o_p (Qm rfl rfl Yn Zz) rfl (Qf (YM _) (aU2 ?_))
 refine o_p (Qm rfl rfl Yn Zz) rfl (Qf (YM _) (aU3 ?_))
 refine o_p (Qm rfl rfl Yn Zz) rfl (Qf (YM _) (o_h (Qg (cs:=[_,_,_,_]) rfl rfl QR Qad rfl rfl rfl) rfl (λb4 _=>o_h (Qap (l:=ZI) [by8 co,by8 mo,by8 rm,by8 ((nth L 0).es.length:Int)] rfl rfl rfl QR Tryz.underlying139 Qad aPk (Q7 aPk) (by show(4+4)*_<=_;omega) (by show 4+4<=maxLen;simp only[maxLen];omega)) rfl (λ⟨b5,c6⟩h7=>aU6 ?_))))
 refine o_h (QE (Cs:=[.byz b5 c6 ((ZI++[by8 co,by8 mo,by8 rm,by8 ((nth L 0).es.length:Int)]))]) rfl Qqb rfl aPs (λw1 h1 hf=>c148 w1 b5 c6 (ZI++[by8 co,by8 mo,by8 rm,by8 ((nth L 0).es.length:Int)]) (nth L 0) hf om (by rw[l8]) (((hs.es h0).keep h1).mono (Xm aPs)) (((hs.cs h0).keep h1).mono (Xm aPs)) hp)) rfl (λ⟨b8,c9⟩hz10=>QZ (λw h=>h.byz_own .here) (o_q (ZD rfl rfl Tryz.underlying139 Tryz.underlying9 Tryz.underlying5 aPk (Zi _)) rfl (aU2 ?_)))
 exact rV (h:=by rw[YQ,hR];rfl)
instance:TFn Tryz.prog 207:=⟨by kernel_rfl⟩
theorem c157(w:World)(a b:Option Addr)(c d:Nat)(x y:List UInt8)(hx:Vl w a (x.map bv))(hy:Vl w b (y.map bv)):CR 157 #[.slice a x.length c,.slice b y.length d] w (.bool (decide (x=y))):=by
 refine eN2 Tryz.func157 Tryz.ntmps157 ?_
 refine aU7 ?_
 refine o_q (Z1 x rfl rfl Tryz.underlying139 Tryz.underlying9 Tryz.underlying5 rfl hx) rfl (aU ?_)
 refine o_q (Z1 y rfl rfl Tryz.underlying139 Tryz.underlying9 Tryz.underlying5 rfl hy) rfl (aU3 ?_)
 exact rV
theorem c159(w:World)(c:Int):CR 159 #[.int .i64 c] w (.bool (decide (c≠0))):=by
 refine eN1 Tryz.func159 Tryz.ntmps159 ?_
 refine Zo ?_
 exact rV (h:=by simp only[Q3];congr 2;simp)
theorem c207(w:World)(a:Option Addr)(cap:Nat)(l:List Int)(q:Nat)(cv:Array Value)(bt:List Bool)(hs:Rw inV 1 w [] a l)(hm:l.length<=1000000)(hq:QQ Tryz.prog q=true)(hb:bt.length=l.length)(hc:∀k w1,k<l.length->HS w [] [] w1->Calls Tryz.prog q (#[]++[.int .i64 (nth l k)].toArray++cv) w1 λen w2=>en=.returned (.bool (bt.getD k false))/\Below w1.heap.size w1 w2):CR 207 #[.slice a l.length cap,.func (.func q) #[] cv] w (.int .i64 (ixI bt)):=by
 refine eN2 Tryz.func207 Tryz.ntmps207 ?_
 refine Zg ?_
 refine Qo (α:=Nat) [4,5,8,9,10,11,12,13,14,15,16,17,18] (λk=>[(8,.int .i64 (k:Int))]) (λ_=>_) (λk=>k<=l.length/\∀i,i<k->bt.getD i false=false) (λk=>l.length-k) 0 ⟨om,λi h=>absurd h (Nat.not_lt_zero i)⟩ aSx (λw h=>h) (λk hk=>?_)
 obtain⟨hk1,hk2⟩:=hk
 refine aU5 ?_
 refine sCd rfl (λh1=>?_) λh1=>?_
 ·refine Qa5 ?_
  refine o_p (Qa rfl rfl rfl QM (k) om om (Rw.some hs om)) rfl (o_q (Qc rfl rfl Ye ((hs.rdj (i:=k) 0 om rfl))) rfl (o_q (Xj rfl rfl hq rfl (λw1 h1=>hc k w1 om (h1.ent aEt))) rfl (aU ?_)))
  refine sCd rfl (λh2=>?_) λh2=>?_
  ·refine aU5 ?_
   exact rV (h:=by have e:=QaA (l:=bt) (k:=k) om hk2 (λ_=>by assumption);simp only[Q3,ixI,e];rw[if_pos om])
  refine aT4 ?_
  refine aU2 ?_
  exact QK (k+1) om ⟨om,λi hi=>(Nat.lt_or_ge i k).elim (hk2 i) (λh=>by obtain rfl:i=k:=om;assumption)⟩ aSx (λw h=>h)
 refine Qh rfl ?_
 refine aU4 ?_
 exact rV (h:=by have e:=QaA (l:=bt) (k:=k) om hk2 (λh=>om);simp only[Q3,ixI,e];rw[if_neg om])
theorem c158(w:World)(a:Option Addr)(cap:Nat)(l:List Int)(q:Nat)(cv:Array Value)(bt:List Bool)(hs:Rw inV 1 w [] a l)(hm:l.length<=1000000)(hq:QQ Tryz.prog q=true)(hb:bt.length=l.length)(hc:∀k w1,k<l.length->HS w [] [] w1->Calls Tryz.prog q (#[]++[.int .i64 (nth l k)].toArray++cv) w1 λen w2=>en=.returned (.bool (bt.getD k false))/\Below w1.heap.size w1 w2):CR 158 #[.slice a l.length cap,.func (.func q) #[] cv] w (.bool (bt.any id)):=by
 refine eN2 Tryz.func158 Tryz.ntmps158 ?_
 refine aU8 ?_
 refine oCq rfl (λw1 h1=>c207 w1 a cap l q cv bt (hs.later h1) hm hq hb (λk w2 hk h2=>hc k w2 hk (by simpa using h1.call h2))) (aU3 ?_)
 exact rV (h:=by simp only[Q3];rw[<-Qfn])
theorem Quv:QQ Tryz.prog 159=true:=by kernel_rfl
theorem Qpt:QQ Tryz.prog 132=true:=by kernel_rfl
theorem QcG:ZY Tryz.prog 27=some [(0,1),(1,1)]:=by kernel_rfl
instance:TFn Tryz.prog 157:=⟨by kernel_rfl⟩
instance:TFn Tryz.prog 158:=⟨by kernel_rfl⟩
theorem c92(w:World)(s:List UInt8)(p0 count:Nat)(a:Option Addr)(cap:Nat)(hs:Vl w a ((s.drop p0).map bv))(hp0:p0<=s.length)(hsl:s.length<=1000000)(hcap:s.length-p0<=cap)(hc9:cap<=9223372036854775807)(hct:count<=1000):CE 92 #[.slice a (s.length-p0) cap,.int .i64 (count:Int)] w [] (λg:LNd×Option Addr×Nat×Nat=>.tuple #[.agg (LNd.vals g.1).toArray,.slice g.2.1 g.2.2.1 g.2.2.2,.bool (rdN s p0 count).isSome]) (λg=>((∀nd e,rdN s p0 count=some (nd,e)->g.1.pl=nd/\g.2.2.1=s.length-e)/\g.1.es.length<=count/\∀x∈g.1.es,Yq x 0=true)) λg=>[.ents 27 g.1.ea g.1.ec g.1.es,.kids g.1.ca g.1.cc g.1.cs]:=by
 refine eN2 Tryz.func92 Tryz.ntmps92 ?_
 refine aU2 ?_
 refine oAl (λb1 _=>?_) Xc
 refine aT17 ?_
 refine aU3 ?_
 refine Qo (α:=Nat×RdS×(Option Addr×Nat)×(Option Addr×Nat)×(Option Addr×Nat)) [0,5,6,7,8,9,10,11,12,13,14,19,20,21,22,23,24,25,26,27,28,29,30,31,32,33,34,35,36,37,38,39,40,41,42,43,44,45,46,47,48,49,50,51,52,53,54,55,56,57,58,59,60,61,62,63,64,65,66,67,68,69,70,71,72,73,74,75,76,77,78,79,80,81,82,83,84,85,86,87,88,89,90,91,92,93,94,95,96,97,98,99,100,101,102,103,104,105,106,107,108,109,110,111,112,113,114] (λx=>[(19,.int .i64 (x.1:Int)),(7,.slice x.2.2.2.1.1 x.2.1.cs.length x.2.2.2.1.2),(0,.slice x.2.2.2.2.1 (s.length-x.2.1.p) x.2.2.2.2.2)]) (λx=>HS w [] [.blk b1 69 3 [.bool true,.slice x.2.2.1.1 x.2.1.es.length x.2.2.1.2,.slice none 0 0],.own (.slice x.2.2.1.1 x.2.1.es.length x.2.2.1.2) 27 2 x.2.1.es.length (x.2.1.es.flatMap TEnt.vals),.own (.slice x.2.2.2.1.1 x.2.1.cs.length x.2.2.2.1.2) 3 1 x.2.1.cs.length (x.2.1.cs.flatMap inV)]) (λx=>x.1<=count+1/\stR s p0 count x.1=some x.2.1/\Vl w x.2.2.2.2.1 ((s.drop x.2.1.p).map bv)/\s.length-x.2.1.p<=x.2.2.2.2.2/\x.2.2.2.2.2<=9223372036854775807) (λx=>count+1-x.1) (0,⟨[],[],p0⟩,(none,0),(none,0),(a,cap)) ⟨Nat.zero_le _,QeA (Nat.zero_le _),hs,hcap,hc9⟩ aSx (λw h=>((h.own_nil 27 2).own_nil 3 1).ent aEt) (λ⟨k,r,⟨ea,ec⟩,⟨da,dc⟩,⟨ba,bc⟩⟩hk1=>?_)
 dsimp only
 simp only[]at hk1
 obtain⟨hk2,hst,hv,hbc,hbm⟩:=hk1
 obtain⟨hp1,hp2,hle,hlc⟩:=Qvv hp0 hst hk2
 have hdl:(s.drop r.p).length=s.length-r.p:=List.length_drop
 refine aU5 ?_
 refine sCd rfl (λh2=>?_) λh2=>?_
 ·have hk:k<count+1:=by omega
  refine aU15 ?_
  refine sCd rfl (λh3=>?_) λh3=>?_
  ·have hN:rdN s p0 count=none:=Ql3 hst hk (λh9=>by have hq:=h3;have:=h9.1;omega)
   refine aU7 ?_
   exact Qj (rs:=[.cell 4 69,.tmp 5,.tmp 6]) rfl (.cell rfl Xv aPk rfl (.tmp rfl (.tmp rfl (.nil)))) (λw' h'=>⟨(⟨true,ea,ec,r.es,none,0,[]⟩,none,0,0),by rw[hN];rfl,⟨λ_ _ h9=>(by rw[hN]at h9;cases h9),QbJ hp0 hst hk2⟩,(h'.own_nil 3 1).ent aEt⟩)
  have h8:r.p+8<=s.length:=by have hq:=h3;omega
  have hb2:=Qds s r.p
  have hbk:=YC s (r.p+2)
  have hbv:=YC s (r.p+3)
  have hb4:=Qnp s (r.p+4)
  have hsz:XA s r.p=8+ub1 s (r.p+2)+ub1 s (r.p+3):=rfl
  have hb12:((s.drop r.p).getD 2 0).toNat=ub1 s (r.p+2):=Qml s r.p 2
  have hb13:((s.drop r.p).getD 3 0).toNat=ub1 s (r.p+3):=Qml s r.p 3
  have ha2:at2 (s.drop r.p) 0=((ub2 s r.p:Nat):Int):=by rw[Qbt,Nat.add_zero,Qdv]
  have ha4:at4 (s.drop (r.p+4)) 0=((ub4 s (r.p+4):Nat):Int):=by rw[Qgu,Nat.add_zero,Qf1]
  refine aU2 ?_
  refine Qu [] QG ?_
  refine dP 0 ?_
  refine dQ 1 [] rfl (QA rfl Qiz rfl (λw1 h1=>QrK w1 ba (s.length-r.p) bc (s.drop r.p) (hv.later h1) hdl om hbc hbm)) (dV 2 rfl (Qm rfl rfl YO Yn) ?_)
  try refine dWr ?_
  refine Qv (show _=Value.int .i64 ((ub2 s r.p:Nat):Int)from by first|exact congrArg (Value.int .i64) ha2|(rw[ha2];exact Qfd om om)) (dP 3 ?_)
  refine dV 4 rfl (Qa rfl rfl rfl QR 2 rfl om (hv.some (by rw[List.length_map,List.length_drop];omega))) (dQ 5 [] rfl (Qc rfl rfl QdU ((hv.rd (i:=2) (QaQ (l:=(s.drop r.p)) (k:=2) om)))) (dV 6 rfl (Qm rfl rfl Zz Yn) ?_))
  try refine dWr ?_
  refine Qv (show _=Value.int .i64 ((ub1 s (r.p+2):Nat):Int)from by first|exact congrArg (λz:Nat=>Value.int .i64 (z:Int)) hb12|(rw[hb12];exact Qfd om om)) (dP 7 ?_)
  refine dV 8 rfl (Qa rfl rfl rfl QR 3 rfl om (hv.some (by rw[List.length_map,List.length_drop];omega))) (dQ 9 [] rfl (Qc rfl rfl QdU ((hv.rd (i:=3) (QaQ (l:=(s.drop r.p)) (k:=3) om)))) (dV 10 rfl (Qm rfl rfl Zz Yn) ?_))
  try refine dWr ?_
  refine Qv (show _=Value.int .i64 ((ub1 s (r.p+3):Nat):Int)from by first|exact congrArg (λz:Nat=>Value.int .i64 (z:Int)) hb13|(rw[hb13];exact Qfd om om)) (dP 11 ?_)
  refine dV 12 rfl (QJ _ _ 4 (s.length-r.p) rfl rfl QR ⟨_,_,rfl,rfl⟩ rfl om om) (dQ 13 [] rfl (QA rfl Qpt rfl (λw1 h1=>c132 w1 (YW ba bc 4 1) (s.length-r.p-4) (bc-4) (s.drop (r.p+4)) (by have h9:=(hv.later h1).dropA (k:=4) (cap:=bc) (by rw[List.length_map,hdl];omega) (by rw[List.length_map,hdl];omega);rw[<-List.map_drop,List.drop_drop]at h9;exact h9) (by rw[List.length_drop];omega) om om om)) (dV 14 rfl (Qm rfl rfl Zl Yn) ?_))
  try refine dWr ?_
  refine Qv (show _=Value.int .i64 ((ub4 s (r.p+4):Nat):Int)from by first|exact congrArg (Value.int .i64) ha4|(rw[ha4];exact Qfd om om)) (dP 15 ?_)
  refine dP 16 ?_
  refine dP 17 ?_
  refine dP 18 ?_
  refine dNi ?_
  refine aU2 ?_
  refine Qe (L':=[(0,_),(1,_),(4,_),(7,_),(8,_),(9,_),(10,_),(11,_),(12,_),(16,_),(17,_),(18,_),(19,_)]) aSx (λ_ h=>h) ?_
  refine aU4 ?_
  refine oOr 5 43 48 rfl
   (λhg4 _=>by
    refine aU8 ?_
    exact oJf 5 48)
   (λhg6 _=>by
    refine aU4 ?_
    exact oJt 5 48) ?_
  refine aU ?_
  refine oOr 7 49 56 rfl
   (λhg8 _=>by
    refine aT6 ?_
    refine aT4 ?_
    refine aU2 ?_
    exact oJf 7 56)
   (λhg10 _=>by
    refine aU6 ?_
    exact oJt 7 56) ?_
  refine aU ?_
  refine sCd rfl (λh12=>?_) λh12=>?_
  ·have hN:rdN s p0 count=none:=Ql3 hst hk (λh9=>by have hq:=h12;obtain⟨q1,q2,q3,q4⟩:=h9;grind)
   refine aU7 ?_
   exact Qj (rs:=[.cell 4 69,.tmp 5,.tmp 6]) rfl (.cell rfl Xv aPk rfl (.tmp rfl (.tmp rfl (.nil)))) (λw' h'=>⟨(⟨true,ea,ec,r.es,none,0,[]⟩,none,0,0),by rw[hN];rfl,⟨λ_ _ h9=>(by rw[hN]at h9;cases h9),QbJ hp0 hst hk2⟩,(h'.own_nil 3 1).ent aEt⟩)
  have h4:Qr2 s r.p:=by have hq:=h12;refine⟨h8,?_,?_,?_⟩<;>grind
  obtain⟨_,h41,h42,h43⟩:=id h4
  obtain⟨hes,hkl,hvl⟩:=QdV (s:=s) (p:=r.p) om
  refine aU2 ?_
  refine Qu [16] QG ?_
  refine dP 0 ?_
  refine dP 1 ?_
  refine dP 2 ?_
  try refine dWr ?_
  refine dV 3 rfl (QJ _ _ 8 (8+ub1 s (r.p+2)) rfl rfl QR ⟨_,_,rfl,rfl⟩ ⟨_,_,rfl,om⟩ om om) (dQ 4 [[]] rfl (Z1 (Xp s r.p).key rfl rfl Tryz.underlying139 Tryz.underlying9 Tryz.underlying5 (by rw[hkl];omega) (by have h9:=hv.sub (cap:=bc) (lo:=8) (n:=ub1 s (r.p+2)) (by rw[hdl];omega) (by rw[hdl];omega);rw[QeN]at h9;exact h9)) (dP 5 ?_))
  refine dP 6 ?_
  refine dP 7 ?_
  try refine dWr ?_
  refine dP 8 ?_
  refine dP 9 ?_
  try refine dWr ?_
  refine dP 10 ?_
  refine dP 11 ?_
  try refine dWr ?_
  refine dV 12 rfl (QJ _ _ (8+ub1 s (r.p+2)) (8+ub1 s (r.p+2)+ub1 s (r.p+3)) rfl rfl QR ⟨_,_,rfl,om⟩ ⟨_,_,rfl,om⟩ om om) (dQ 13 [[]] rfl (Z1 (Xp s r.p).val rfl rfl Tryz.underlying139 Tryz.underlying9 Tryz.underlying5 (by rw[hvl];omega) (by have h9:=hv.sub (cap:=bc) (lo:=8+ub1 s (r.p+2)) (n:=ub1 s (r.p+3)) (by rw[hdl];omega) (by rw[hdl];omega);rw[QeN,<-Nat.add_assoc]at h9;exact h9)) (dV 14 rfl (QF (cs:=[_,_]) rfl rfl QcG XD rfl) (dH 15 rfl (Qfm rfl XD) (λb13 _=>dBa ?_))))
  refine dSt 16 ?_ (hl:=(by simp only[Qk,List.length_set,List.length_cons,List.length_nil,List.length_map];omega))
  refine dTu [] ?_
  refine dNi ?_
  refine aU ?_
  refine Qe (L':=[(0,_),(1,_),(4,_),(7,_),(8,_),(9,_),(10,_),(11,_),(12,_),(13,_),(16,_),(17,_),(18,_),(19,_)]) aSx (λ_ h=>h) ?_
  refine aU2 ?_
  refine QZ (λw h=>h.byz_nil) (o_h (QE (Cs:=[.byz none 0 []]) rfl Qrt rfl aPs (λw1 h1 hf=>c156 w1 none 0 [] ((ub4 s (r.p+4):Nat):Int) hf om (Nat.zero_le _))) rfl (λ⟨b14,c15⟩hz16=>aU9 ?_))
  refine XP (α:=(Option Addr×Nat)×(Option Addr×Nat)) [5,6,14,78,79,80,81,82,83,84,85,86,87,88,89,90,91,92,93,94,95,96,97,98,99] (λy=>[(14,.slice y.1.1 (Qjj s r.p k count).length y.1.2)]) (λy=>HS w [] [.blk b1 69 3 [.bool true,.slice y.2.1 (esR s r k count).length y.2.2,.slice none 0 0],.own (.slice y.2.1 (esR s r k count).length y.2.2) 27 2 (esR s r k count).length ((esR s r k count).flatMap TEnt.vals),.own (.slice da r.cs.length dc) 3 1 r.cs.length (r.cs.flatMap inV),.byz y.1.1 y.1.2 (Qjj s r.p k count)]) (λ_=>k<count->Yq (Xp s r.p) (ub4 s (r.p+4))=true) ?_ ?_
  ·skip
   refine sCd rfl (λh17=>?_) λh17=>?_
   ·have hkc:k<count:=by have hq:=h17;omega
    refine aU4 ?_
    refine oCq rfl (λw1 h1=>c87 w1 _ _ _) (aU2 ?_)
    refine oOr 3 81 84 rfl
     (λhg18 _=>by
      refine aU4 ?_
      exact oJf 3 84)
     (λhg20 _=>by
      refine aU2 ?_
      exact oJt 3 84) ?_
    refine aU ?_
    refine oOr 4 85 89 rfl
     (λhg22 _=>by
      refine aU3 ?_
      refine oCq rfl (λw1 h1=>c88 w1 _ om om) (aU2 ?_)
      exact oJf 4 89)
     (λhg24 _=>by
      refine aU3 ?_
      exact oJt 4 89) ?_
    refine aU ?_
    refine sCd rfl (λh26=>?_) λh26=>?_
    ·have hN:rdN s p0 count=none:=Qh4 hst hkc (Qm5 (by rw[QfN h41];have hq:=h26;grind))
     refine aU7 ?_
     exact Qj (rs:=[.cell 4 69,.tmp 5,.tmp 6]) rfl (.cell rfl Xv aPk rfl (.tmp rfl (.tmp rfl (.nil)))) (λw' h'=>⟨(⟨true,ea,ec,r.es,none,0,[]⟩,none,0,0),by rw[hN];rfl,⟨λ_ _ h9=>(by rw[hN]at h9;cases h9),QbJ hp0 hst hk2⟩,(h'.own_nil 3 1).ent aEt⟩)
    have hK:Yq (Xp s r.p) (ub4 s (r.p+4))=true:=by rw[QfN h41];have hq:=h26;grind
    refine aU5 ?_
    refine QZ (λw h=>h.byz_nil) (o_h (QE (Cs:=[.byz none 0 []]) rfl Qq6 rfl aPs (λw1 h1 hf=>c89 w1 none 0 [] (Xp s r.p) ((ub4 s (r.p+4):Nat):Int) hf (Nat.zero_le _) rfl om om om)) rfl (λ⟨b27,c28⟩hz29=>aU2 ?_))
    refine Qe (L':=[(0,_),(1,_),(4,_),(7,_),(8,_),(9,_),(10,_),(11,_),(12,_),(13,_),(14,_),(16,_),(17,_),(18,_),(19,_),(73,_),(74,_),(75,_),(76,_),(77,_)]) aSx (λ_ h=>h) ?_
    refine aU4 ?_
    refine o_h (Qg (cs:=[_,_]) rfl rfl Qy XD rfl rfl rfl) rfl (λb30 _=>o_h (QO ((Xp s r.p).vals) rfl rfl rfl Qy Tryz.underlying67 XD rfl aPk (Q7 aPk) rfl (ev1 _) om (by simp only[maxLen];omega)) rfl (λb31 _=>aU3 ?_))
    exact Qp ((b27,c28),(b31.1,b31.2)) (λ_=>hK) (by dsimp only;rw[QiQ hkc];exact aSx) (λw h=>by dsimp only;rw[QiQ hkc,Qo2 hkc,List.length_append,QdG];exact h.ent aEt)
   have hkc:¬k<count:=by have hq:=h17;omega
   refine aU ?_
   exact Qp ((b14,c15),(ea,ec)) (λh9=>absurd h9 hkc) (by dsimp only;rw[QiT hkc];exact aSx) (λw h=>by dsimp only;rw[QiT hkc,QqE hkc];exact h.ent aEt)
  intro⟨⟨o1,o2⟩,⟨e1,e2⟩⟩ hKK
  refine aU6 ?_
  refine o_p (QJ _ _ 0 (ub2 s r.p) rfl rfl QR rfl ⟨_,_,rfl,rfl⟩ om om) rfl (Qf (show _=Value.slice (YW ba bc 0 1) (Qs s r.p (ub2 s r.p)).length (bc-0)from by rw[Xw h42];rfl) (oCq rfl (λw1 h1=>c157 w1 o1 (YW ba bc 0 1) o2 (bc-0) (Qjj s r.p k count) (Qs s r.p (ub2 s r.p)) (h1.vl_byz aPk) (by have h9:=(hv.later h1).sub (cap:=bc) (lo:=0) (n:=(ub2 s r.p)) (by rw[hdl];omega) (by rw[hdl];omega);rw[QeN,Nat.add_zero]at h9;exact h9)) (aU2 ?_)))
  refine sCd rfl (λh32=>?_) λh32=>?_
  ·have hN:rdN s p0 count=none:=QtO hst hk h4 hKK (by have hq:=h32;simpa using hq)
   refine aU7 ?_
   exact Qj (rs:=[.cell 4 69,.tmp 5,.tmp 6]) rfl (.cell rfl Xv aPk rfl (.tmp rfl (.tmp rfl (.nil)))) (λw' h'=>⟨(⟨true,e1,e2,esR s r k count,none,0,[]⟩,none,0,0),by rw[hN];rfl,⟨λ_ _ h9=>(by rw[hN]at h9;cases h9),Qtw hp0 hst hk hKK⟩,(h'.own_nil 3 1).ent aEt⟩)
  have how:Qjj s r.p k count=Qs s r.p (ub2 s r.p):=by have hq:=h32;simpa using hq
  have hnx:=QvG hst hk h4 hKK how
  have hvn:Vl w (YW ba bc (ub2 s r.p) 1) ((s.drop (r.p+(ub2 s r.p))).map bv):=by have h9:=hv.dropA (k:=(ub2 s r.p)) (cap:=bc) (by rw[List.length_map,hdl];omega) (by rw[List.length_map,hdl];omega);rw[<-List.map_drop,List.drop_drop]at h9;exact h9
  refine aU ?_
  refine Qu [3] QG ?_
  refine dP 0 ?_
  refine dP 1 ?_
  refine dP 4 ?_
  refine dP 5 ?_
  refine dV 6 rfl (QJ _ _ (ub2 s r.p) (s.length-r.p) rfl rfl QR ⟨_,_,rfl,rfl⟩ rfl om om) (Qv (show _=Value.slice (YW ba bc (ub2 s r.p) 1) (s.length-(r.p+(ub2 s r.p))) (bc-(ub2 s r.p))from by rw[Nat.sub_sub]) (dH 2 rfl (Qg (cs:=[_]) rfl rfl QM YP rfl rfl rfl) (λb33 _=>dBa ?_)))
  refine dH 3 rfl (QO (inV ((ub4 s (r.p+4):Nat):Int)) rfl rfl rfl QM Tryz.underlying28 YP rfl aPk (Q7 aPk) rfl (Qfe _) om (by simp only[maxLen];omega)) (λb34 _=>dTu [] ?_)
  refine dP 7 ?_
  refine dP 8 ?_
  refine dNi ?_
  refine aU ?_
  refine Qe (L':=[(0,_),(1,_),(4,_),(7,_),(16,_),(17,_),(18,_),(19,_)]) aSx (λ_ h=>h) ?_
  refine aT2 ?_
  refine aU2 ?_
  exact QK (k+1,⟨esR s r k count,r.cs++[((ub4 s (r.p+4):Nat):Int)],r.p+(ub2 s r.p)⟩,(e1,e2),(b34.1,b34.2),(YW ba bc (ub2 s r.p) 1,bc-(ub2 s r.p))) (by(try simp only[]);omega) (by simp only[];exact⟨om,hnx,hvn,om,om⟩) (by dsimp only;rw[List.length_append];exact aSx) (λw h=>by dsimp only;rw[List.length_append,QdG];exact h.ent aEt)
 obtain rfl:k=count+1:=om
 have hN:=QsP hst
 refine Qh rfl ?_
 refine aU4 ?_
 refine oCq rfl (λw1 h1=>c62 w1 da dc r.cs 0 (h1.rw_own iv1 aPk rfl) om) (aU9 ?_)
 refine sCd rfl (λh35=>?_) λh35=>?_
 ·have hz:noz r.cs=true:=by rw[Qm0];have hq:=h35;simpa using hq
  rw[hz]at hN
  have hN:rdN s p0 count=some (⟨true,r.es,r.cs⟩,r.p):=hN
  refine QgE ?_
  exact Qj (rs:=[.cell 4 69,.tmp 5,.tmp 6]) rfl (.cell rfl Xv aPk rfl (.tmp rfl (.tmp rfl (.nil)))) (λw' h'=>by first|exact⟨(⟨true,ea,ec,r.es,da,dc,r.cs⟩,ba,s.length-r.p,bc),by rw[hN];rfl,⟨λnd e h9=>by(rw[hN]at h9;injection h9 with h9;injection h9 with q1 q2;subst q1 q2;exact⟨rfl,rfl⟩),QbJ hp0 hst hk2⟩,h'.ent aEt⟩|exact⟨(⟨true,ea,ec,r.es,none,0,[]⟩,ba,s.length-r.p,bc),by rw[hN];rfl,⟨λnd e h9=>by(rw[hN]at h9;injection h9 with h9;injection h9 with q1 q2;subst q1 q2;exact⟨rfl,rfl⟩),QbJ hp0 hst hk2⟩,(h'.own_nil 3 1).ent aEt⟩)
 have hz:noz r.cs=false:=by rw[Qm0];have hq:=h35;simpa using hq
 rw[hz]at hN
 refine aU3 ?_
 refine oCq rfl (λw1 h1=>c158 w1 da dc r.cs 159 #[] (nzB r.cs) (h1.rw_own iv1 aPk rfl) om Quv (by simp[nzB]) (λk w2 hk h2=>by rw[QsT hk];exact c159 w2 (nth r.cs k))) (aU2 ?_)
 refine sCd rfl (λh36=>?_) λh36=>?_
 ·have hz2:QdD r.cs=false:=by have hq:=h36;rw[Qmc]at hq;simpa using hq
  rw[hz2]at hN
  have hN:rdN s p0 count=none:=hN
  refine aU7 ?_
  exact Qj (rs:=[.cell 4 69,.tmp 5,.tmp 6]) rfl (.cell rfl Xv aPk rfl (.tmp rfl (.tmp rfl (.nil)))) (λw' h'=>⟨(⟨true,ea,ec,r.es,none,0,[]⟩,none,0,0),by rw[hN];rfl,⟨λ_ _ h9=>(by rw[hN]at h9;cases h9),QbJ hp0 hst hk2⟩,(h'.own_nil 3 1).ent aEt⟩)
 have hz2:QdD r.cs=true:=by have hq:=h36;rw[Qmc]at hq;simpa using hq
 rw[hz2]at hN
 have hN:rdN s p0 count=some (⟨true,r.es,[]⟩,r.p):=hN
 refine Zo ?_
 exact Qj (rs:=[.cell 4 69,.tmp 5,.tmp 6]) rfl (.cell rfl Xv aPk rfl (.tmp rfl (.tmp rfl (.nil)))) (λw' h'=>by first|exact⟨(⟨true,ea,ec,r.es,da,dc,r.cs⟩,ba,s.length-r.p,bc),by rw[hN];rfl,⟨λnd e h9=>by(rw[hN]at h9;injection h9 with h9;injection h9 with q1 q2;subst q1 q2;exact⟨rfl,rfl⟩),QbJ hp0 hst hk2⟩,h'.ent aEt⟩|exact⟨(⟨true,ea,ec,r.es,none,0,[]⟩,ba,s.length-r.p,bc),by rw[hN];rfl,⟨λnd e h9=>by(rw[hN]at h9;injection h9 with h9;injection h9 with q1 q2;subst q1 q2;exact⟨rfl,rfl⟩),QbJ hp0 hst hk2⟩,(h'.own_nil 3 1).ent aEt⟩)
end Go.Proofs
