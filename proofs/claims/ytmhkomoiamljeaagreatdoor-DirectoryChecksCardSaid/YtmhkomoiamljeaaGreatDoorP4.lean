/- Contracts of the program's functions, proved by walking them with the rules of the Gx texts; without conditions beyond those that each contract names. -/
import Derived.WalkKit
import Derived.Deep.Draws
import Derived.TacticsIn
import Derived.OrdersIn
import Derived.RangeFuncLeaves
import Derived.Lib.Strings
import Derived.Laws.BytesArg
import Derived.Laws.IdiomStrings
import Derived.Deep.Quiet
import Derived.ProofKit
import Derived.OpenShut
import Derived.Laws.StructEq
import Derived.ChangeKeysEq
import Derived.Laws.Externs
import Derived.Lib.Overlaps
import Derived.Carry
import Derived.Laws.Small
import Derived.Lib.Bytealg
import Derived.Shelf.Small.Strs
import Derived.Shelf.Small.Wraps
import Derived.Shelf.Strconv.Itoa0
import Derived.Shelf.Strconv.Itoa1
import Derived.Shelf.LaysM
import Derived.Shelf.Strconv.Itoa2
import Derived.Shelf.Strconv.Itoa3
import Derived.Shelf.Strings.Search1
import Derived.Shelf.Strings.Search2
import Derived.Shelf.Strings.Cut
import Derived.Shelf.Strings.Shaped
import Derived.Shelf.Strings.LastIndex
import Derived.Shelf.Strings.LastIndexAll
import Derived.Shelf.Strings.Prefix
import Derived.Shelf.Slices.Turned
import Derived.Shelf.Slices.Reverse
import Derived.Shelf.Slices.Equal
import Derived.Ground.Names2Prog
import Derived.Shelf.Slices.Clone
import Derived.Shelf.Slices.SearchI
import Derived.Shelf.Slices.Delete
import Derived.Shelf.Slices.Cells
import Derived.Shelf.Slices.Empties
import Derived.Shelf.Slices.Empties2
import Derived.Ground.SlgnProg
import Derived.Shelf.SlicesE.Reverse
import Derived.Shelf.SlicesE.Delete
import Derived.Shelf.SlicesE.Clone
import Derived.Test.YtmhkomoiamljeaaGreatDoorProg
import Derived.KernelRfl
import Derived.Lib.LastIndexByte
import Derived.Lib.ItoaNum
import Derived.Lib.SmallJoins
import Derived.Lib.AppendIntMem
import Derived.RangeFuncRecord
import Derived.Lib.Builder
import Derived.Laws.Pointers
import Derived.Test.YtmhkomoiamljeaaGreatDoorTie
import Derived.Test.YtmhkomoiamljeaaGreatDoorCards
import Derived.SevenTiedAt
import Derived.LaidMore
import Derived.Lay
import Derived.Stop.Joined
import Derived.Test.YtmhkomoiamljeaaGreatDoorP3
set_option linter.unusedSimpArgs false
set_option maxHeartbeats 1000000
set_option linter.unusedVariables false
set_option linter.unusedSectionVars false
set_option linter.unnecessarySimpa false
namespace Go.Proofs
open Go Go.RowKit Gx
attribute [local irreducible] Go.Calls Gx.S Gx.O Gx.D Gx.OpP Gx.OpQ Gx.OpH
set_option maxRecDepth 20000
instance:TFn Tryz.prog 198:=⟨by kernel_rfl⟩
theorem Qos:YG Tryz.prog 207=some [(0,4),(4,2)]:=by kernel_rfl
theorem Qpt:QN Tryz.prog 207=some [.int .i64 0,.int .i64 0,.int .i64 0,.slice none 0 0,.nilFunc,.nilFunc]:=by kernel_rfl
theorem Quj:QL Tryz.prog 200=true:=by kernel_rfl
instance:TFn Tryz.prog 201:=⟨by kernel_rfl⟩
instance:TFn Tryz.prog 298:=⟨by kernel_rfl⟩
theorem Qwa:QL Tryz.prog 299=true:=by kernel_rfl
theorem Qup:QL Tryz.prog 300=true:=by kernel_rfl
theorem Qul(w:World)(co mo rm:Int)(a:Option Addr)(cap:Nat)(L:List LNd)(hs:Nt w [] a L)(hB:Bd (pln L))(hkl:∀i,i<L.length->∀x∈(nth L i).es,x.key.length<=1000000):CR 134 #[.agg #[.int .i64 co,.int .i64 mo,.int .i64 rm,.slice a L.length cap]] w (.tuple #[.int .i64 (XD (⟨co,mo,rm,pln L⟩:Tre)).1,.int .i64 (XD (⟨co,mo,rm,pln L⟩:Tre)).2]):=by
 have hle:=hB.len
 rw[Qd]at hle
 have hes9:∀i,i<L.length->(nth L i).es.length<=1000:=λi hi=>by have h9:=hB.es i (by rw[Qd];exact hi);rw[QJ hi]at h9;exact h9
 have hcs9:∀i,i<L.length->(nth L i).cs.length<=1000:=λi hi=>by have h9:=hB.cs i (by rw[Qd];exact hi);rw[QJ hi]at h9;exact h9
 refine eN1 Tryz.func134 Tryz.ntmps134 ?_
 refine aU2 ?_
 refine oBx λb1 _=>?_
 refine Qaa ?_
 refine oCq rfl (λw1 h1=>c198 w1 _ _ _) (aU7 ?_)
 refine sCd rfl (λh2=>?_) λh2=>?_
 ·have hz:=Qc3 (t:=(⟨co,mo,rm,pln L⟩:Tre)) h2
  refine aU6 ?_
  exact Qj (rs:=[.tmp 2,.tmp 3]) rfl (.tmp rfl (.tmp rfl (.nil))) (λw' h'=>⟨by rw[hz];rfl,h'.below⟩)
 have hc0:(if QY co=0 then Zs mo rm else QY co)=0:=h2
 obtain⟨hco,hsz⟩:=Qio (t:=(⟨co,mo,rm,pln L⟩:Tre)) hc0
 obtain⟨j,rfl,hj⟩:=Qcp hco
 have hsz2:(3<=mo/\mo<=8)/\(mo/2<=rm/\rm<=mo):=Qbz hsz
 refine aU3 ?_
 refine QG [] mixed ?_
 refine dFa 0 ?_
 refine dLd 1 [] ?_
 refine dV 2 rfl (QR rfl rfl Tryz.underlying22) (dP 3 ?_)
 refine dQ 4 [] rfl (Qz rfl QbH rfl (λw1 h1=>Qd5 w1 _ _)) (dFa 5 ?_)
 refine dLd 6 [] ?_
 refine dV 7 rfl (QR rfl rfl Tryz.underlying22) (dP 8 ?_)
 refine dQ 9 [] rfl (Qz rfl QbH rfl (λw1 h1=>Qd5 w1 _ _)) (dH 10 rfl (Ql (cs:=[_,_]) rfl rfl YF QaO rfl rfl rfl) (λb3 _=>dBa ?_))
 refine dQ 11 [] rfl (Qz rfl Qgc rfl (λw1 h1=>Qpj h1 aPk (by rfl) (by rfl) (by decide))) ?_
 refine QK (show _=Value.int .i64 (Zg L.length)from by congr 1;rw[Qep];unfold Zg;simp only[cond_eq_ite,decide_eq_true_eq];first|(split<;>(try split)<;>(try split)<;>(try split)<;>first|rfl|omega)) (dP 12 ?_)
 refine dNi ?_
 refine aU5 ?_
 refine sCd rfl (λh4=>?_) λh4=>?_
 ·have hz:=Qd8 (t:=(⟨(j:Int),mo,rm,pln L⟩:Tre)) hc0 (by rw[show((⟨(j:Int),mo,rm,pln L⟩:Tre)).ns.length=L.length from Qd L];exact h4)
  rw[show((⟨(j:Int),mo,rm,pln L⟩:Tre)).ns.length=L.length from Qd L]at hz
  refine aU6 ?_
  exact Qj (rs:=[.tmp 2,.tmp 3]) rfl (.tmp rfl (.tmp rfl (.nil))) (λw' h'=>⟨by rw[hz];rfl,h'.below⟩)
 have hc1:Zg L.length=0:=h4
 have hz:=QeN (t:=(⟨(j:Int),mo,rm,pln L⟩:Tre)) hc0 (by rw[show((⟨(j:Int),mo,rm,pln L⟩:Tre)).ns.length=L.length from Qd L];exact hc1)
 rw[show((⟨(j:Int),mo,rm,pln L⟩:Tre)).ns.length=L.length from Qd L]at hz
 obtain⟨h00,h120⟩:=QlE hc1
 refine aU2 ?_
 refine Qe (L':=[(1,_),(2,_),(3,_)]) aSx (λ_ h=>h) ?_
 refine XG (α:=Nat×Nat) [6,7,37,38,39,40,41,42,43,44] (λx=>[(6,.pointer (some ⟨x.1,0,none⟩)),(7,.map (some x.2))]) (λx=>HS w [] [.blk b1 24 4 [.int .i64 (j:Int),.int .i64 mo,.int .i64 rm,.slice a L.length cap],.blk x.1 207 6 (tbV (j:Int) mo rm a L.length cap),.mp x.2 KI []]) (λ_=>True) ?_ ?_
 ·skip
  refine QG [] mixed ?_
  refine dLn 0 [] ?_
  refine dQ 1 [] rfl (Qz rfl Qk8 rfl (λw1 h1=>Qu6 w1)) (dFa 2 ?_)
  refine dLd 3 [] ?_
  refine dV 4 rfl (Qet rfl rfl rfl QiF QiN j rfl om) (QK (QgA j hj) (dV 5 rfl (QU (cs:=[_,_,_,_,_,_]) rfl rfl Qos Qpt rfl) (Qwz 6 7 rfl rfl (QjO rfl rfl) (Qbl rfl KI) (by kernel_rfl) (λw h=>h.ent aEt) rfl rfl (λb5 _=>?_) (λb6 _=>?_))))
  ·skip
   refine dBa ?_
   refine dP 8 ?_
   refine dH 7 rfl (Qbl rfl KI) (λb7 _=>dBa ?_)
   refine dP 9 ?_
   refine dNi ?_
   exact Qm (b5,b7) trivial aSx (λw h=>h.ent aEt)
  skip
  refine dBa ?_
  refine dH 6 rfl (QjO rfl rfl) (λb8 _=>dBa ?_)
  refine dP 8 ?_
  refine dP 9 ?_
  refine dNi ?_
  exact Qm (b8,b6) trivial aSx (λw h=>h.ent aEt)
 intro⟨bt,r⟩ _
 refine aU9 ?_
 refine Qo (α:=Nat×List Int×List Int) [2,3,8,9,48,49,50,51,52,53,54,55,56,57,58,59] (λx=>[(48,.int .i64 (x.1:Int))]) (λx=>HS w [] [.blk b1 24 4 [.int .i64 (j:Int),.int .i64 mo,.int .i64 rm,.slice a L.length cap],.blk bt 207 6 (tbV (j:Int) mo rm a L.length cap),.mp r KI x.2.1]) (λx=>x.1<=L.length/\(∀y,y∈x.2.1 ↔ y∈x.2.2)/\(XX (⟨(j:Int),mo,rm,pln L⟩:Tre) L.length 0 [])=XX (⟨(j:Int),mo,rm,pln L⟩:Tre) (L.length-x.1) x.1 x.2.2) (λx=>L.length-x.1) (0,[],[]) ⟨Nat.zero_le _,λ_=>Iff.rfl,rfl⟩ aSx (λw h=>h.ent aEt) (λ⟨k,K,S9⟩hx=>?_)
 dsimp only
 obtain⟨hk1,hk2,hk3⟩:=hx
 simp only[]at hk1 hk2 hk3
 refine aU5 ?_
 refine sCd rfl (λh9=>?_) λh9=>?_
 ·have hkl9:k<L.length:=by omega
  have hst:=QgG (t:=(⟨(j:Int),mo,rm,pln L⟩:Tre)) (k:=k) (seen:=S9) (by rw[show((⟨(j:Int),mo,rm,pln L⟩:Tre)).ns.length=L.length from Qd L];exact hkl9)
  rw[show((⟨(j:Int),mo,rm,pln L⟩:Tre)).ns.length=L.length from Qd L]at hst
  refine Z8 ?_
  refine o_h (Xy (Cs:=[.mp r KI K]) rfl Quj rfl aPs (λw1 h1 hf=>c200 w1 k r K S9 bt j mo rm a cap L hf hk2 (λk9 v9 hv9=>h1.rd_blkF aPs (b:=bt) aPk hv9) ((hs.keep h1).mono (Q2 aPs)) hle hj hkl9 (hes9 _ hkl9) (hcs9 _ hkl9) (hkl _ hkl9))) rfl (λb10 hkG=>aU7 ?_)
  refine sCd rfl (λh11=>?_) λh11=>?_
  ·have hz3:(XX (⟨(j:Int),mo,rm,pln L⟩:Tre) L.length 0 [])=((k:Int),(XO (⟨(j:Int),mo,rm,pln L⟩:Tre) k S9).1):=by rw[hk3,hst,if_neg h11]
   rw[hz3,if_neg (show¬(((k:Int),(XO (⟨(j:Int),mo,rm,pln L⟩:Tre) k S9).1):Int×Int).2=0 from h11)]at hz
   refine aU7 ?_
   exact Qj (rs:=[.tmp 2,.tmp 3]) rfl (.tmp rfl (.tmp rfl (.nil))) (λw' h'=>⟨by rw[hz];rfl,h'.below⟩)
  have hz3:XX (⟨(j:Int),mo,rm,pln L⟩:Tre) (L.length-k) k S9=XX (⟨(j:Int),mo,rm,pln L⟩:Tre) (L.length-(k+1)) (k+1) (XO (⟨(j:Int),mo,rm,pln L⟩:Tre) k S9).2:=by rw[hst,if_pos h11]
  refine aT4 ?_
  refine aU2 ?_
  exact sBk (k+1,b10,(XO (⟨(j:Int),mo,rm,pln L⟩:Tre) k S9).2) (by(try simp only[]);omega) ⟨by(try simp only[]);omega,hkG,by simp only[];rw[hk3,hz3]⟩
 have hnd:(XX (⟨(j:Int),mo,rm,pln L⟩:Tre) L.length 0 [])=(0,0):=by rw[hk3,show L.length-k=0 by omega];rfl
 rw[hnd,if_pos rfl]at hz
 have hT:TOk (j:Int) (pln L):=QbF (t:=(⟨(j:Int),mo,rm,pln L⟩:Tre)) (by show(XX (⟨(j:Int),mo,rm,pln L⟩:Tre) (pln L).length 0 []).2=0;rw[Qd,hnd])
 refine Qg rfl ?_
 refine aU3 ?_
 refine oCq rfl (λw1 h1=>c201 w1 bt j mo rm a cap L (HS.tbr h1 aPk) (hs.later h1) hj om h00 hB hT) (Qaa ?_)
 refine XG (α:=Unit) [10] (λ_=>[(10,.int .i64 (XD (⟨(j:Int),mo,rm,pln L⟩:Tre)).1)]) (λ_=>HS w [] []) (λ_=>True) ?_ ?_
 ·skip
  refine sCd rfl (λh12=>?_) λh12=>?_
  ·refine aU3 ?_
   exact Qm () trivial (by rw[hz,QmC h12];exact aSx) (λw h=>h.ent aEt)
  refine aU ?_
  exact Qm () trivial (by rw[hz];exact aSx) (λw h=>h.ent aEt)
 intro _ _
 refine aU7 ?_
 exact Qj (rs:=[.tmp 2,.tmp 3]) rfl (.tmp rfl (.tmp rfl (.nil))) (λw' h'=>⟨by simp only[Qt];rw[hz],h'.below⟩)
theorem c298(w:World)(a:Option Addr)(cap:Nat)(l:List LNd)(hs:Rw LNd.vals 3 w [] a l)(hm:l.length<=1000000):CE 298 #[.slice a l.length cap] w [] (λg:Option Addr×Nat=>.slice g.1 l.length g.2) (λg=>True) λg=>[.own (.slice g.1 l.length g.2) 127 3 l.length (l.flatMap LNd.vals)]:=by
 refine eN1 Tryz.func298 Tryz.ntmps298 ?_
 refine aU8 ?_
 refine o_p (XB rfl rfl rfl Tryz.underlying22) rfl (aU ?_)
 refine sCd rfl (λh1=>?_) λh1=>?_
 ·have ha0:a=none:=by cases a with|none=>rfl|some b=>simp at h1
  subst ha0
  have hl0:l=[]:=Rw.none hs
  refine aU4 ?_
  exact rT rfl rfl (λw' h'=>⟨(none,0),by rw[hl0];rfl,trivial,by rw[hl0];exact(h'.own_nil 127 3).ent aEt⟩)
 refine aU3 ?_
 refine o_h (X3 rfl Xl) rfl (λb2 _=>aU ?_)
 refine o_h (QM (l.flatMap LNd.vals) rfl rfl rfl Xl Tryz.underlying22 YV rfl aPk (λw h=>Rw.src nv3 hs h) (QS nv3 l) (Qaj nv1 l) om (by simp only[maxLen];omega)) rfl (λb3 _=>aU2 ?_)
 exact rT rfl rfl (λw' h'=>⟨b3,by simp only[Qt,Nat.zero_add],trivial,by have h2:=h';simp only[Nat.zero_add,List.nil_append]at h2;exact h2.ent aEt⟩)
theorem c299(w:World)(a:Option Addr)(cap:Nat)(l:List TEnt)(hs:Rw TEnt.vals 2 w [] a l)(hm:l.length<=1000000):CE 299 #[.slice a l.length cap] w [] (λg:Option Addr×Nat=>.slice g.1 l.length g.2) (λg=>True) λg=>[.own (.slice g.1 l.length g.2) 84 2 l.length (l.flatMap TEnt.vals)]:=by
 refine eN1 Tryz.func299 Tryz.ntmps299 ?_
 refine aU8 ?_
 refine o_p (XB rfl rfl rfl Tryz.underlying124) rfl (aU ?_)
 refine sCd rfl (λh1=>?_) λh1=>?_
 ·have ha0:a=none:=by cases a with|none=>rfl|some b=>simp at h1
  subst ha0
  have hl0:l=[]:=Rw.none hs
  refine aU4 ?_
  exact rT rfl rfl (λw' h'=>⟨(none,0),by rw[hl0];rfl,trivial,by rw[hl0];exact(h'.own_nil 84 2).ent aEt⟩)
 refine aU3 ?_
 refine o_h (X3 rfl QD) rfl (λb2 _=>aU ?_)
 refine o_h (QM (l.flatMap TEnt.vals) rfl rfl rfl QD Tryz.underlying124 YD rfl aPk (λw h=>Rw.src ev2 hs h) (QS ev2 l) (Qaj ev1 l) om (by simp only[maxLen];omega)) rfl (λb3 _=>aU2 ?_)
 exact rT rfl rfl (λw' h'=>⟨b3,by simp only[Qt,Nat.zero_add],trivial,by have h2:=h';simp only[Nat.zero_add,List.nil_append]at h2;exact h2.ent aEt⟩)
theorem c300(w:World)(a:Option Addr)(cap:Nat)(l:List Int)(hs:Rw inV 1 w [] a l)(hm:l.length<=1000000):CE 300 #[.slice a l.length cap] w [] (λg:Option Addr×Nat=>.slice g.1 l.length g.2) (λg=>True) λg=>[.own (.slice g.1 l.length g.2) 3 1 l.length (l.flatMap inV)]:=by
 refine eN1 Tryz.func300 Tryz.ntmps300 ?_
 refine aU8 ?_
 refine o_p (XB rfl rfl rfl Tryz.underlying125) rfl (aU ?_)
 refine sCd rfl (λh1=>?_) λh1=>?_
 ·have ha0:a=none:=by cases a with|none=>rfl|some b=>simp at h1
  subst ha0
  have hl0:l=[]:=Rw.none hs
  refine aU4 ?_
  exact rT rfl rfl (λw' h'=>⟨(none,0),by rw[hl0];rfl,trivial,by rw[hl0];exact(h'.own_nil 3 1).ent aEt⟩)
 refine aU3 ?_
 refine o_h (X3 rfl QT) rfl (λb2 _=>aU ?_)
 refine o_h (QM (l.flatMap inV) rfl rfl rfl QT Tryz.underlying125 Qkv rfl aPk (λw h=>Rw.src iv1 hs h) (QS iv1 l) (Qaj iv1c l) om (by simp only[maxLen];omega)) rfl (λb3 _=>aU2 ?_)
 exact rT rfl rfl (λw' h'=>⟨b3,by simp only[Qt,Nat.zero_add],trivial,by have h2:=h';simp only[Nat.zero_add,List.nil_append]at h2;exact h2.ent aEt⟩)
theorem c244(w:World)(j:Nat)(mo rm:Int)(a:Option Addr)(cap:Nat)(L:List LNd)(hs:Nt w [] a L)(hB:Bd (pln L))(hj:j<=3)(h0:0<L.length):CE 244 #[.agg #[.int .i64 (j:Int),.int .i64 mo,.int .i64 rm,.slice a L.length cap]] w [] (λg:Nat×(Option Addr×Nat)×List LNd=>.pointer (some ⟨g.1,0,none⟩)) (λg=>pln g.2.2=pln L) λg=>[.blk g.1 207 6 (tbV (j:Int) mo rm g.2.1.1 g.2.2.length g.2.1.2),.nodes 84 127 g.2.1.1 g.2.1.2 g.2.2]:=by
 have hle:=hB.len
 rw[Qd]at hle
 have hes9:∀i,i<L.length->(nth L i).es.length<=1000:=λi hi=>by have h9:=hB.es i (by rw[Qd];exact hi);rw[QJ hi]at h9;exact h9
 have hcs9:∀i,i<L.length->(nth L i).cs.length<=1000:=λi hi=>by have h9:=hB.cs i (by rw[Qd];exact hi);rw[QJ hi]at h9;exact h9
 refine eN1 Tryz.func244 Tryz.ntmps244 ?_
 refine aU2 ?_
 refine oBx λb1 _=>?_
 refine aU3 ?_
 refine QG [] mixed ?_
 refine dLn 0 [] ?_
 refine dQ 1 [] rfl (Qz rfl Qk8 rfl (λw1 h1=>Qu6 w1)) (dFa 2 ?_)
 refine dLd 3 [] ?_
 refine dV 4 rfl (Qet rfl rfl rfl QiF QiN j rfl om) (QK (QgA j hj) (dV 5 rfl (QU (cs:=[_,_,_,_,_,_]) rfl rfl Qos Qpt rfl) (dH 6 rfl (QjO rfl rfl) (λb2 _=>dBa ?_))))
 refine dP 7 ?_
 refine dNi ?_
 refine aU5 ?_
 refine oCh rfl (λw1 h1=>c298 w1 a cap L (hs.1.later h1) om) (λ⟨b3,c4⟩_=>Qis (λw h=>QpF h0 h aPk) (λhgn=>?_))
 obtain⟨gn,rfl,hcap,hcm⟩:=hgn
 refine Y5 (λw h=>HS.own_at h aPk) (aU3 ?_)
 refine Qez (X7 rfl rfl rfl Qat rfl aPt (by show 4<=6;omega) rfl) (λ_ _=>Z8 ?_)
 refine Qe (L':=[(2,_),(3,_),(24,_),(25,_),(26,_)]) aSx (λ_ h=>h) ?_
 refine Qo (α:=Nat×List LNd) [4,5,26,27,28,29,30,31,32,33,34,35,36,37,38,39,40,41,42,43,44,45,46,47,48,49,50,51,52,53] (λx=>[(26,.int .i64 (x.1:Int))]) (λx=>HS w [] [.blk gn 127 (c4*3) ((x.2++L.drop x.1).flatMap LNd.vals),.star (x.2.map (Z0 84)),.blk b2 207 6 (tbV (j:Int) mo rm (some ⟨gn,0,none⟩) L.length c4)]) (λx=>x.1<=L.length/\x.2.length=x.1/\pln x.2=(pln L).take x.1) (λx=>L.length-x.1) (0,[]) ⟨Nat.zero_le _,rfl,rfl⟩ aSx (λw h=>(h.star_nil).ent aEt) (λ⟨k,D⟩hx=>?_)
 dsimp only
 obtain⟨hk1,hk2,hk3⟩:=hx
 simp only[]at hk1 hk2 hk3
 refine aU5 ?_
 refine sCd rfl (λh5=>?_) λh5=>?_
 ·have hkl:k<L.length:=by omega
  refine aU6 ?_
  refine o_p (Qa rfl rfl rfl Xl (k) om om rfl) rfl (o_q (Xz (LNd.vals (nth L k)) rfl rfl ZY rfl (λw h=>by have h9:=Rw.rd (h.rw_blk nv3 aPk) (i:=k) (by simp only[List.length_append,List.length_drop];omega);rw[Qmt hk2 hkl]at h9;exact h9)) rfl (oAl (λb6 _=>?_) YV))
  refine aU3 ?_
  refine QG [20,23] mixed ?_
  refine dP 0 ?_
  refine dP 1 ?_
  refine dFa 2 ?_
  refine dFa 3 ?_
  refine dLd 4 [[],[]] ?_
  refine dP 5 ?_
  refine dP 6 ?_
  refine dP 7 ?_
  refine dFa 8 ?_
  refine dFa 9 ?_
  refine dLd 10 [[],[]] ?_
  refine dP 11 ?_
  refine dFa 12 ?_
  refine dLd 13 [[],[]] ?_
  refine dFa 15 ?_
  refine dLd 16 [[17],[]] ?_
  refine dH 14 rfl (ZZ rfl Qwa rfl (λw1 h1=>c299 w1 (nth L k).ea (nth L k).ec (nth L k).es ((hs.es hkl).later h1) (by have:=hes9 k hkl;omega))) (λb7 _=>dBa ?_)
  refine dH 17 rfl (ZZ rfl Qup rfl (λw1 h1=>c300 w1 (nth L k).ca (nth L k).cc (nth L k).cs ((hs.cs hkl).later h1) (by have:=hcs9 k hkl;omega))) (λb8 _=>dBa ?_)
  refine dV 18 rfl (Qa rfl rfl rfl Xl (k) om om rfl) (dFa 19 ?_)
  refine QnK 20 rfl (X7 rfl rfl rfl Zx rfl aPt (by simp only[Qi,QS nv3,List.length_append,List.length_drop,Nat.zero_add];show _+1<=_;omega) rfl) (by kernel_rfl) (λw h=>h.ent aEt) (λ_ _=>?_)
  refine dTu [23] ?_
  refine dV 21 rfl (Qa rfl rfl rfl Xl (k) om om rfl) (dFa 22 ?_)
  refine QnK 23 rfl (X7 rfl rfl rfl ZU rfl aPt (by simp only[Qi,QS nv3,List.length_append,List.length_drop,Nat.zero_add];show _+1<=_;omega) rfl) (by kernel_rfl) (λw h=>h.ent aEt) (λ_ _=>?_)
  refine dTu [] ?_
  refine dNi ?_
  refine aU ?_
  refine Qe (L':=[(2,_),(3,_),(24,_),(25,_),(26,_)]) aSx (λ_ h=>h) ?_
  refine aT2 ?_
  refine aU2 ?_
  exact Qv (k+1,D++[⟨(nth L k).us,b7.1,b7.2,(nth L k).es,b8.1,b8.2,(nth L k).cs⟩]) (by(try simp only[]);omega) ⟨by(try simp only[]);omega,by simp[hk2],Qjo hkl hk3 rfl⟩ aSx (λw h=>by have e9:=Qnz (l:=D++L.drop k) (k:=k) (by simp only[List.length_append,List.length_drop];omega) b7.1 b7.2 (nth L k).es b8.1 b8.2 (nth L k).cs;rw[Qmt hk2 hkl,Qr6 hk2 hkl]at e9;have h2:=h.ent (Bs:=[.own (.slice b7.1 (nth L k).es.length b7.2) 84 2 (nth L k).es.length ((nth L k).es.flatMap TEnt.vals),.own (.slice b8.1 (nth L k).cs.length b8.2) 3 1 (nth L k).cs.length ((nth L k).cs.flatMap inV),.star (D.map (Z0 84)),.blk gn 127 (c4*3) (Qf (Qf ((D++L.drop k).flatMap LNd.vals) (0+k*3+1) [.slice b7.1 (nth L k).es.length b7.2]) (0+k*3+2) [.slice b8.1 (nth L k).cs.length b8.2]),.blk b2 207 6 (tbV (j:Int) mo rm (some ⟨gn,0,none⟩) L.length c4)]) aEt;rw[Nat.zero_add,e9]at h2;exact(HS.sub_app (sub:=Z0 84) (l:=D) (x:=(⟨(nth L k).us,b7.1,b7.2,(nth L k).es,b8.1,b8.2,(nth L k).cs⟩:LNd)) (HS.star_close (Bs:=[_,_]) h2)).ent aEt)
 obtain rfl:k=L.length:=om
 have hD:pln D=pln L:=by rw[hk3,<-Qd L,List.take_length]
 refine Qg rfl ?_
 refine aU5 ?_
 exact rT rfl rfl (λw' h'=>⟨(b2,(some ⟨gn,0,none⟩,c4),D),rfl,hD,by have h2:=h';rw[List.drop_length,List.append_nil]at h2;have h3:=HS.own_shut (n:=D.length) (h2.ent (Bs:=[.blk gn 127 (c4*3) (D.flatMap LNd.vals),.star (D.map (Z0 84)),.blk b2 207 6 (tbV (j:Int) mo rm (some ⟨gn,0,none⟩) L.length c4)]) aEt) (QS nv3 D) om hcm;have h4:=HS.row_shut (l:=D) (sub:=Z0 84) h3 rfl rfl;have h5:HS w [] [.nodes 84 127 (some ⟨gn,0,none⟩) c4 D,.blk b2 207 6 (tbV (j:Int) mo rm (some ⟨gn,0,none⟩) L.length c4)] w':=h4;rw[hk2];exact h5.ent aEt⟩)
end Go.Proofs
namespace Gx
open Go Go.RowKit
section
variable{w0 w:World}{M:List Nat}{As As' As'':List HA}{gn cap et nt':Nat}{a:Option Addr}{L:List LNd}
theorem Qjv(h0:0<L.length)(h:HS w0 M As w)(hp:QH As (.nodes et nt' a cap L) As'):∃gn,a=some ⟨gn,0,none⟩/\L.length<=cap/\cap<=maxLen/\HS w0 M (.blk gn nt' (cap*3) (L.flatMap LNd.vals)::.star (L.map (Z0 et))::As') w:=by
 have h1:=HS.row_open (h.pick hp);obtain⟨gn,e,_,h2,h3,_,h4⟩:=h1.own_blk h0 .here
 grind
theorem HS.nt_at(h:HS w0 M As w)(hp:QH As (.blk gn nt' (cap*3) (L.flatMap LNd.vals)) As')(hp2:QH As' (.star (L.map (Z0 et))) As''):Nt w [] (some ⟨gn,0,none⟩) L:=by
 refine⟨h.rw_blk nv3 hp,λn hn=>?_⟩;obtain⟨i,hi,e⟩:=List.getElem_of_mem hn;have e2:nth L i=n:=XR (by rw[List.getElem?_eq_getElem hi,e]);have h2:=HS.sub_open hi ((h.pick hp).tail.pick hp2);rw[e2]at h2;have h3:=HS.star_open h2;exact⟨h3.rw_own ev2 .here rfl,h3.rw_own iv1 (.there .here) rfl⟩
theorem HS.node_out{i:Nat}(hi:i<L.length)(h:HS w0 M As w)(hp:QH As (.star (L.map (Z0 et))) As'):HS w0 M (.own (.slice (nth L i).ea (nth L i).es.length (nth L i).ec) et 2 (nth L i).es.length ((nth L i).es.flatMap TEnt.vals)::.own (.slice (nth L i).ca (nth L i).cs.length (nth L i).cc) 3 1 (nth L i).cs.length ((nth L i).cs.flatMap inV)::.star ((Qch L i).map (Z0 et))::As') w:=
 HS.star_open (Bs:=[_,_]) (HS.sub_open hi (h.pick hp))
theorem HS.node_in{i:Nat}(hi:i<L.length)(x:LNd)(h:HS w0 M (.own (.slice x.ea x.es.length x.ec) et 2 x.es.length (x.es.flatMap TEnt.vals)::.own (.slice x.ca x.cs.length x.cc) 3 1 x.cs.length (x.cs.flatMap inV)::.star ((Qch L i).map (Z0 et))::As) w):HS w0 M (.star ((L.set i x).map (Z0 et))::As) w:=
 HS.sub_shut (sub:=Z0 et) hi (HS.star_close (Bs:=[_,_]) h)
end
abbrev LNd.noE(n:LNd):LNd:={n with ea:=none,ec:=0,es:=[]}
abbrev ownE(et:Nat)(n:LNd):HA:=.own (.slice n.ea n.es.length n.ec) et 2 n.es.length (n.es.flatMap TEnt.vals)
section
variable{w0 w:World}{M:List Nat}{As As' As'':List HA}{et:Nat}{L:List LNd}{i:Nat}
theorem HS.es_take(hi:i<L.length)(h:HS w0 M As w)(hp:QH As (.star (L.map (Z0 et))) As'):HS w0 M (ownE et (nth L i)::.star ((L.set i (nth L i).noE).map (Z0 et))::As') w:=by
 have h1:=(h.node_out hi hp).own_nil et 2;have h2:=h1.perm (As':=_::_::_::ownE et (nth L i)::As') (List.Perm.cons _ (List.perm_middle (l₁:=[_,_])).symm);exact(HS.node_in hi (nth L i).noE h2).perm (List.Perm.swap ..)
theorem HS.es_some(hi:i<L.length)(hn:0<(nth L i).es.length)(h:HS w0 M As w)(hp:QH As (.star (L.map (Z0 et))) As'):∃g,(nth L i).ea=some ⟨g,0,none⟩:=by
 obtain⟨g,e,_⟩:=HS.own_blk hn .here (HS.es_take hi h hp);exact⟨g,e⟩
theorem HS.es_row(hi:i<L.length)(h:HS w0 M As w)(hp:QH As (.star (L.map (Z0 et))) As'):Rw TEnt.vals 2 w [] (nth L i).ea (nth L i).es:=(HS.es_take hi h hp).rw_own ev2 .here rfl
theorem HS.es_rd{k g:Nat}(hi:i<L.length)(hk:k<(nth L i).es.length)(hg:(nth L i).ea=some ⟨g,0,none⟩)(h:HS w0 M As w)(hp:QH As (.star (L.map (Z0 et))) As'):∀j v,(TEnt.vals (nth (nth L i).es k))[j]?=some v->Rd w [] g (0+k*2+j) v:=by
 have h1:=Rw.rd (HS.es_row hi h hp) hk;rw[hg]at h1;exact h1
theorem HS.nd_cell{gn cap nt':Nat}(hi:i<L.length)(h:HS w0 M As w)(hp:QH As (.blk gn nt' (cap*3) (L.flatMap LNd.vals)) As')(j:Nat){v:Value}(hj:(LNd.vals (nth L i))[j]?=some v)(hj3:j<3):Rd w [] gn (i*3+j) v:=
 h.rd_blk hp (by rw[QcN nv3 L i j _ (Xu hi) hj3];exact hj) (by simp)
end
def Sm(m:Nat)(ns:List Nd):Prop:=∀k,(nth ns k).es.length<=m/\(nth ns k).cs.length<=m
theorem Qs5{α:Type}[Inhabited α]{l:List α}{k:Nat}(h:l.length<=k):nth l k=default:=by grind[nth]
abbrev iN(P:List Nat):List Int:=P.map λi:Nat=>(i:Int)
theorem Qv2{P:List Nat}{k:Nat}(h:k<P.length):(iN P).getD k 0=((nth P k:Nat):Int):=by
 rw[Xn (d:=0) h];rfl
theorem Qvj{P:List Nat}{k:Nat}(h:k<P.length):nth (iN P) k=((nth P k:Nat):Int):=Qv2 h
theorem Qo1(P:List Nat):(iN P).length=P.length:=by simp
theorem QsI{P:List Nat}{k:Nat}(h:k<P.length):P.reverse[k]?=some (nth P (P.length-1-k)):=by grind[Xu]
theorem rev_take{P:List Nat}{k:Nat}(h:k<P.length):P.reverse.take (k+1)=P.reverse.take k++[nth P (P.length-1-k)]:=by
 rw[List.take_add_one,QsI h];rfl
section
variable{w0 w:World}{M:List Nat}{As As':List HA}{a:Option Addr}{cap:Nat}{P:List Nat}
theorem HS.kids_some{l:List Int}(hn:0<l.length)(h:HS w0 M As w)(hp:QH As (.kids a cap l) As'):∃g,a=some ⟨g,0,none⟩:=by
 obtain⟨g,e,_⟩:=HS.own_blk hn hp h;exact⟨g,e⟩
theorem HS.path_rd{k g:Nat}(hk:k<P.length)(hg:a=some ⟨g,0,none⟩)(h:HS w0 M As w)(hp:QH As (.kids a cap (iN P)) As'):Rd w [] g (0+k*1) (.int .i64 ((nth P k:Nat):Int)):=by
 have h1:=Rw.rd (h.rw_own (vals:=inV) (l:=iN P) iv1 hp rfl) (i:=k) (by rw[Qo1];exact hk) 0 (.int .i64 ((nth P k:Nat):Int)) (by rw[Qvj hk];rfl);rw[hg]at h1;exact h1
end
theorem QfH{co:Int}{ns:List Nd}(h:TOk co ns):∀i,i<ns.length->∀x∈(nth ns i).es,QP co x.key=true/\x.key.length<=1000000:=λi hi x hx=>by
 have h1:=Qal (h.ents i hi x hx)
 grind[Qde]
end Gx
namespace Go.Proofs
open Go Go.RowKit Gx
attribute [local irreducible] Go.Calls Gx.S Gx.O Gx.D Gx.OpP Gx.OpQ Gx.OpH
set_option maxRecDepth 20000
instance:TFn Tryz.prog 127:=⟨by kernel_rfl⟩
instance:TFn Tryz.prog 134:=⟨by kernel_rfl⟩
instance:TFn Tryz.prog 244:=⟨by kernel_rfl⟩
instance:TFn Tryz.prog 186:=⟨by kernel_rfl⟩
theorem QtY(w:World)(co mo rm:Int)(a:Option Addr)(cap:Nat)(L:List LNd)(hs:Nt w [] a L)(hB:Bd (pln L))(hkl:∀i,i<L.length->∀x∈(nth L i).es,x.key.length<=1000000)(he:¬(XD (⟨co,mo,rm,pln L⟩:Tre)).2=0):CR 186 #[.agg #[.int .i64 co,.int .i64 mo,.int .i64 rm,.slice a L.length cap]] w (.tuple #[.pointer none,.int .i64 (XD (⟨co,mo,rm,pln L⟩:Tre)).2]):=by
 refine eN1 Tryz.func186 Tryz.ntmps186 ?_
 refine aU2 ?_
 refine oBx λb1 _=>?_
 refine aU7 ?_
 refine oCq rfl (λw1 h1=>Qul w1 co mo rm a cap L (hs.later h1.nil) hB hkl) (Qas ?_)
 refine sCd rfl (λh2=>?_) λh2=>?_
 ·refine aU6 ?_
  exact Qj (rs:=[.tmp 2,.tmp 3]) rfl (.tmp rfl (.tmp rfl (.nil))) (λw' h'=>⟨rfl,h'.below⟩)
 exfalso;first|omega|(simp at h2;done)|(simp_all;done)
theorem QtM(w:World)(j:Nat)(mo rm:Int)(a:Option Addr)(cap:Nat)(L:List LNd)(hs:Nt w [] a L)(hB:Bd (pln L))(hkl:∀i,i<L.length->∀x∈(nth L i).es,x.key.length<=1000000)(h0:(XD (⟨(j:Int),mo,rm,pln L⟩:Tre)).2=0):CE 186 #[.agg #[.int .i64 (j:Int),.int .i64 mo,.int .i64 rm,.slice a L.length cap]] w [] (λg:Nat×(Nat×Nat)×List LNd=>.tuple #[.pointer (some ⟨g.1,0,none⟩),.int .i64 (0)]) (λg=>(pln g.2.2=pln L/\g.2.2.length<=g.2.1.2/\g.2.1.2<=maxLen)) λg=>[.blk g.1 207 6 (tbV (j:Int) mo rm (some ⟨g.2.1.1,0,none⟩) (g.2.2).length g.2.1.2),.blk g.2.1.1 127 (g.2.1.2*3) ((g.2.2).flatMap LNd.vals),.star ((g.2.2).map (Z0 84))]:=by
 obtain⟨hc0,hz0,hl0,hl120,hn0,_,_⟩:=QdM h0
 rw[show((⟨(j:Int),mo,rm,pln L⟩:Tre)).ns=pln L from rfl,Qd]at hl0 hl120
 have hj:j<=3:=by obtain⟨j9,e9,hj9⟩:=Qcp hc0;have e8:((j:Nat):Int)=(j9:Int):=e9;omega
 have hT:TOk (j:Int) (pln L):=QbF (t:=(⟨(j:Int),mo,rm,pln L⟩:Tre)) hn0
 have hmo:=(Qbz hz0).1
 simp only[]at hmo
 refine eN1 Tryz.func186 Tryz.ntmps186 ?_
 refine aU2 ?_
 refine oBx λb1 _=>?_
 refine aU7 ?_
 refine oCq rfl (λw1 h1=>Qul w1 (j:Int) mo rm a cap L (hs.later h1.nil) hB hkl) (Qas ?_)
 refine sCd rfl (λh2=>?_) λh2=>?_
 ·exfalso;first|omega|(simp at h2;done)|(simp_all;done)
 refine aU4 ?_
 refine oCh rfl (λw1 h1=>c244 w1 j mo rm a cap L (hs.later h1.nil) hB hj hl0) (λ⟨b9,⟨a9,c9⟩,L9⟩hF9=>?_)
 dsimp only
 refine aU3 ?_
 exact Qj (rs:=[.tmp 2,.tmp 3]) rfl (.tmp rfl (.tmp rfl (.nil))) (λw' h'=>by obtain⟨g9,rfl,hl9,hm9,h2⟩:=Qjv (by rw[<-Qd,hF9,Qd];exact hl0) h' aPk;exact⟨(b9,(g9,c9),L9),rfl,⟨hF9,hl9,hm9⟩,h2.ent aEt⟩)
theorem QwH(w:World)(co mo rm:Int)(a:Option Addr)(cap:Nat)(L:List LNd)(key:List UInt8)(hs:Nt w [] a L)(hB:Bd (pln L))(hkl:∀i,i<L.length->∀x∈(nth L i).es,x.key.length<=1000000)(he:¬(XD (⟨co,mo,rm,pln L⟩:Tre)).2=0):CR 126 #[.agg #[.int .i64 co,.int .i64 mo,.int .i64 rm,.slice a L.length cap],.string (bs key)] w (.tuple #[.pointer none,.int .i64 (XD (⟨co,mo,rm,pln L⟩:Tre)).2]):=by
 refine eN2 Tryz.func126 Tryz.ntmps126 ?_
 refine aU2 ?_
 refine oBx λb1 _=>?_
 refine aU6 ?_
 refine oCq rfl (λw1 h1=>QtY w1 co mo rm a cap L (hs.later h1.nil) hB hkl he) (Qaa ?_)
 refine sCd rfl (λh2=>?_) λh2=>?_
 ·exfalso;first|omega|(simp at h2;done)|(simp_all;done)
 refine aU8 ?_
 exact Qj (rs:=[.tmp 4,.tmp 5]) rfl (.tmp rfl (.tmp rfl (.nil))) (λw' h'=>⟨rfl,h'.below⟩)
theorem Qp1(w:World)(j:Nat)(mo rm:Int)(a:Option Addr)(cap:Nat)(L:List LNd)(key:List UInt8)(hs:Nt w [] a L)(hB:Bd (pln L))(hkl:∀i,i<L.length->∀x∈(nth L i).es,x.key.length<=1000000)(hkk:key.length<=1000000)(h0:(XD (⟨(j:Int),mo,rm,pln L⟩:Tre)).2=0):CE 126 #[.agg #[.int .i64 (j:Int),.int .i64 mo,.int .i64 rm,.slice a L.length cap],.string (bs key)] w [] (λg:Nat×(Nat×Nat)×List LNd=>.tuple #[.pointer (some ⟨g.1,0,none⟩),.int .i64 (Zl (j:Int) key)]) (λg=>(pln g.2.2=pln L/\g.2.2.length<=g.2.1.2/\g.2.1.2<=maxLen)) λg=>[.blk g.1 207 6 (tbV (j:Int) mo rm (some ⟨g.2.1.1,0,none⟩) (g.2.2).length g.2.1.2),.blk g.2.1.1 127 (g.2.1.2*3) ((g.2.2).flatMap LNd.vals),.star ((g.2.2).map (Z0 84))]:=by
 obtain⟨hc0,hz0,hl0,hl120,hn0,_,_⟩:=QdM h0
 rw[show((⟨(j:Int),mo,rm,pln L⟩:Tre)).ns=pln L from rfl,Qd]at hl0 hl120
 have hj:j<=3:=by obtain⟨j9,e9,hj9⟩:=Qcp hc0;have e8:((j:Nat):Int)=(j9:Int):=e9;omega
 have hT:TOk (j:Int) (pln L):=QbF (t:=(⟨(j:Int),mo,rm,pln L⟩:Tre)) hn0
 have hmo:=(Qbz hz0).1
 simp only[]at hmo
 refine eN2 Tryz.func126 Tryz.ntmps126 ?_
 refine aU2 ?_
 refine oBx λb1 _=>?_
 refine aU6 ?_
 refine oCh rfl (λw1 h1=>QtM w1 j mo rm a cap L (hs.later h1.nil) hB hkl h0) (λg9 hF9=>Qaa ?_)
 refine sCd rfl (λh2=>?_) λh2=>?_
 ·refine aU4 ?_
  refine oCq rfl (λw1 h1=>c144 w1 j key hj hkk) (aU9 ?_)
  exact Qj (rs:=[.tmp 4,.tmp 5]) rfl (.tmp rfl (.tmp rfl (.nil))) (λw' h'=>⟨g9,rfl,hF9,h'.ent aEt⟩)
 exfalso;first|omega|(simp at h2;done)|(simp_all;done)
theorem Qw7:QL Tryz.prog 65=true:=by kernel_rfl
theorem QwK:QL Tryz.prog 66=true:=by kernel_rfl
theorem c65(w:World)(a:Option Addr)(cap:Nat)(l:List TEnt)(hs:Rw TEnt.vals 2 w [] a l)(hl:l.length<=100000):CE 65 #[.slice a l.length cap] w [] (λg:Option Addr×Nat=>.slice g.1 l.length g.2) (λg=>True) λg=>[.own (.slice g.1 l.length g.2) 84 2 l.length (l.flatMap TEnt.vals)]:=by
 refine eN1 Tryz.func65 Tryz.ntmps65 ?_
 refine aU6 ?_
 refine o_h (X3 rfl QD) rfl (λb1 _=>aU ?_)
 refine o_h (QM (l.flatMap TEnt.vals) rfl rfl rfl QD Tryz.underlying124 YD rfl aPk (λw h=>Rw.src ev2 hs h) (QS ev2 _) (Qaj ev1 _) om (by simp only[maxLen];omega)) rfl (λb2 _=>aU2 ?_)
 exact rT rfl rfl (λw' h'=>⟨b2,by simp only[Qt,Nat.zero_add],trivial,by have h2:=h';simp only[Nat.zero_add,List.nil_append]at h2;exact h2.ent aEt⟩)
theorem c66(w:World)(a:Option Addr)(cap:Nat)(l:List Int)(hs:Rw inV 1 w [] a l)(hl:l.length<=100000):CE 66 #[.slice a l.length cap] w [] (λg:Option Addr×Nat=>.slice g.1 l.length g.2) (λg=>True) λg=>[.own (.slice g.1 l.length g.2) 3 1 l.length (l.flatMap inV)]:=by
 refine eN1 Tryz.func66 Tryz.ntmps66 ?_
 refine aU6 ?_
 refine o_h (X3 rfl QT) rfl (λb1 _=>aU ?_)
 refine o_h (QM (l.flatMap inV) rfl rfl rfl QT Tryz.underlying125 Qkv rfl aPk (λw h=>Rw.src iv1 hs h) (QS iv1 _) (Qaj iv1c _) om (by simp only[maxLen];omega)) rfl (λb2 _=>aU2 ?_)
 exact rT rfl rfl (λw' h'=>⟨b2,by simp only[Qt,Nat.zero_add],trivial,by have h2:=h';simp only[Nat.zero_add,List.nil_append]at h2;exact h2.ent aEt⟩)
theorem c14(w:World)(co mo rm:Int)(a:Option Addr)(cap:Nat)(L:List LNd)(hs:Nt w [] a L)(hl:L.length<=1000)(hsm:Sm 1000 (pln L)):CE 14 #[.agg #[.int .i64 co,.int .i64 mo,.int .i64 rm,.slice a L.length cap]] w [] (λg:(Option Addr×Nat)×List LNd=>.agg #[.int .i64 co,.int .i64 mo,.int .i64 rm,.slice g.1.1 g.2.length g.1.2]) (λg=>pln g.2=pln L) λg=>[.nodes 84 127 g.1.1 g.1.2 g.2]:=by
 refine eN1 Tryz.func14 Tryz.ntmps14 ?_
 refine aU2 ?_
 refine oBx λb1 _=>?_
 refine oAl (λb2 _=>?_) QoX
 refine aU9 ?_
 refine o_p (QU (cs:=[_,_,_,_]) rfl rfl QwT QoX rfl) rfl (oAl (λb3 _=>?_) QoX)
 refine aU8 ?_
 refine Qo (α:=Nat×(Option Addr×Nat)×List LNd) [4,5,13,14,15,16,17,18,19,20,21,22,23,24,25,26,27,28,29,30,31,32,33,34,35,36,37,38] (λx=>[(4,.int .i64 (x.1:Int))]) (λx=>HS w [] [.own (.slice x.2.1.1 (x.2.2).length x.2.1.2) 127 3 (x.2.2).length ((x.2.2).flatMap LNd.vals),.star ((x.2.2).map (Z0 84)),.blk b3 24 4 [.int .i64 co,.int .i64 mo,.int .i64 rm,.slice x.2.1.1 (x.2.2).length x.2.1.2],.blk b2 24 4 [.int .i64 0,.int .i64 0,.int .i64 0,.slice none 0 0],.blk b1 24 4 [.int .i64 co,.int .i64 mo,.int .i64 rm,.slice a L.length cap]]) (λx=>x.1<=L.length/\x.2.2.length=x.1/\pln x.2.2=(pln L).take x.1) (λx=>L.length-x.1) (0,(none,0),[]) ⟨Nat.zero_le _,rfl,rfl⟩ aSx (λw h=>((h.own_nil 127 3).star_nil).ent aEt) (λ⟨k,⟨ga,gc⟩,D⟩hx=>?_)
 dsimp only
 obtain⟨hk1,hk2,hk3⟩:=hx
 simp only[]at hk1 hk2 hk3
 refine aU9 ?_
 refine sCd rfl (λh4=>?_) λh4=>?_
 ·have hkl:k<L.length:=by omega
  have hsk:=hsm k
  rw[QJ hkl]at hsk
  simp only[LNd.pl]at hsk
  refine aU8 ?_
  refine o_p (Qa rfl rfl rfl Xl (k) om om (Rw.some hs.1 om)) rfl (o_q (Qn _ rfl rfl ZY rfl (Rw.rd hs.1 hkl)) rfl (oAl (λb5 _=>?_) YV))
  refine aU2 ?_
  refine QG [12,14] mixed ?_
  refine dFa 0 ?_
  refine dLd 1 [[],[]] ?_
  refine dFa 2 ?_
  refine dLd 3 [[11,10],[]] ?_
  refine dFa 4 ?_
  refine dLd 5 [[9,6],[]] ?_
  refine dFa 7 ?_
  refine dLd 8 [[9],[]] ?_
  refine dH 6 rfl (ZZ rfl Qw7 rfl (λw1 h1=>c65 w1 (nth L k).ea (nth L k).ec (nth L k).es ((hs.es hkl).later h1) om)) (λb6 _=>dBa ?_)
  refine dH 9 rfl (ZZ rfl QwK rfl (λw1 h1=>c66 w1 (nth L k).ca (nth L k).cc (nth L k).cs ((hs.cs hkl).later h1) om)) (λb7 _=>dBa ?_)
  refine dV 10 rfl (QU (cs:=[_,_,_]) rfl rfl Qv1 YV rfl) (dH 11 rfl (Ql (cs:=[_,_,_]) rfl rfl Xl YV rfl rfl rfl) (λb8 _=>dBa ?_))
  refine dH 12 rfl (QM (LNd.vals (⟨(nth L k).us,b6.1,b6.2,(nth L k).es,b7.1,b7.2,(nth L k).cs⟩:LNd)) rfl rfl rfl Xl Tryz.underlying22 YV rfl aPk (Xp aPk) rfl (nv1 _) om (by simp only[maxLen];omega)) (λb9 _=>dTu [14] ?_)
  refine dFa 13 ?_
  refine dSt 14 ?_ (hl:=(by simp only[Qi,List.length_set,List.length_cons,List.length_nil,List.length_map];omega))
  refine dTu [] ?_
  refine dNi ?_
  refine aU ?_
  refine Qe (L':=[(0,_),(1,_),(2,_),(3,_),(4,_),(6,_),(7,_),(8,_),(9,_),(10,_),(11,_),(12,_)]) aSx (λ_ h=>h) ?_
  refine aT3 ?_
  refine aU2 ?_
  exact Qv (k+1,(b9.1,b9.2),D++[⟨(nth L k).us,b6.1,b6.2,(nth L k).es,b7.1,b7.2,(nth L k).cs⟩]) (by(try simp only[]);omega) ⟨by(try simp only[]);omega,by simp[hk2],Qjo hkl hk3 rfl⟩ aSx (λw h=>by have h2:=HS.sub_app (sub:=Z0 84) (l:=D) (x:=(⟨(nth L k).us,b6.1,b6.2,(nth L k).es,b7.1,b7.2,(nth L k).cs⟩:LNd)) (HS.star_close (Bs:=[_,_]) (h.ent (Bs:=[.own (.slice b6.1 (nth L k).es.length b6.2) 84 2 (nth L k).es.length ((nth L k).es.flatMap TEnt.vals),.own (.slice b7.1 (nth L k).cs.length b7.2) 3 1 (nth L k).cs.length ((nth L k).cs.flatMap inV),.star (D.map (Z0 84)),.own (.slice b9.1 (D.length+1) b9.2) 127 3 (D.length+1) (D.flatMap LNd.vals++LNd.vals (⟨(nth L k).us,b6.1,b6.2,(nth L k).es,b7.1,b7.2,(nth L k).cs⟩:LNd)),.blk b3 24 4 [.int .i64 co,.int .i64 mo,.int .i64 rm,.slice b9.1 (D.length+1) b9.2],.blk b2 24 4 [.int .i64 0,.int .i64 0,.int .i64 0,.slice none 0 0],.blk b1 24 4 [.int .i64 co,.int .i64 mo,.int .i64 rm,.slice a L.length cap]]) aEt));simp only[List.length_append,List.length_singleton,List.flatMap_append,List.flatMap_singleton];exact h2.ent aEt)
 obtain rfl:k=L.length:=om
 have hD:pln D=pln L:=by rw[hk3,<-Qd L,List.take_length]
 refine Qg rfl ?_
 refine aU5 ?_
 exact Qj (rs:=[.cell 2 24]) rfl (.cell rfl Qkn aPk rfl (.nil)) (λw' h'=>⟨((ga,gc),D),by simp only[Qt];rw[hk2];rfl,hD,by have h3:=HS.row_shut (a:=ga) (cap:=gc) (l:=D) (sub:=Z0 84) (t:=127) (sz:=3) (vals:=LNd.vals) (h'.ent (Bs:=[.own (.slice ga D.length gc) 127 3 D.length (D.flatMap LNd.vals),.star (D.map (Z0 84))]) aEt) rfl rfl;exact h3⟩)
end Go.Proofs
namespace Gx
open Go Go.RowKit
def YM(P:List Nat):Nat:=nth P (P.length-1)
theorem keyE_ok{co:Int}{k:List UInt8}(h:Zl co k=0):QP co k=true:=by grind[Zl]
end Gx
namespace Go.Proofs
open Go Go.RowKit Gx
attribute [local irreducible] Go.Calls Gx.S Gx.O Gx.D Gx.OpP Gx.OpQ Gx.OpH
set_option maxRecDepth 20000
theorem QmB:QL Tryz.prog 84=true:=by kernel_rfl
theorem QtT:QL Tryz.prog 14=true:=by kernel_rfl
instance:TFn Tryz.prog 14:=⟨QtT⟩
end Go.Proofs
namespace Gx
open Go Go.RowKit
def Q6(n:Nat)(S:List Int):List Value:=(List.range n).map λk=>Value.bool (decide (((k:Nat):Int)∈S))
theorem Qbi(n:Nat)(S:List Int):(Q6 n S).length=n:=by simp[Q6]
theorem Qbs{n k:Nat}{S:List Int}(h:k<n):(Q6 n S)[k]?=some (.bool (decide (((k:Nat):Int)∈S))):=by
 unfold Q6;rw[List.getElem?_map,List.getElem?_range h];rfl
theorem Qku{n k:Nat}{S:List Int}(h:k<n):Qf (Q6 n S) k [.bool true]=Q6 n (((k:Nat):Int)::S):=by
 apply List.ext_getElem?;intro i;show((Q6 n S).set k (.bool true))[i]?=_;rw[List.getElem?_set]
 by_cases hi:i<n
 ·rw[Qbs hi]
  by_cases e:k=i
  ·subst e;rw[if_pos rfl,if_pos (by rw[Qbi];exact h),Qbs h,decide_eq_true (List.mem_cons_self ..)]
  ·rw[if_neg e,Qbs hi];congr 2;have hne:((i:Nat):Int)≠((k:Nat):Int):=by omega
   simp[List.mem_cons,hne]
 ·rw[if_neg om,List.getElem?_eq_none (by rw[Qbi];omega),List.getElem?_eq_none (by rw[Qbi];omega)]
theorem QqZ{n:Nat}{c:Int}{S:List Int}(h:c∈S):Q6 n (c::S)=Q6 n S:=by
 unfold Q6;apply List.map_congr_left;intro k _;congr 1
 by_cases e:((k:Nat):Int)∈S
 ·rw[decide_eq_true e,decide_eq_true (List.mem_cons_of_mem _ e)]
 ·rw[decide_eq_false e,decide_eq_false (λh2=>by
   rcases List.mem_cons.1 h2 with h3|h3
   ·exact e (h3▸h)
   ·exact e h3)]
theorem Qs4{t:Tre}{i:Nat}{S:List Int}(h:¬(nth t.ns i).us=true):XO t i S=if(0<i/\i+1<t.ns.length)/\(nth t.ns i).es.length+(nth t.ns i).cs.length=0 then(0,S)else(3,S):=by
 unfold XO;simp only[];rw[if_neg h]
section
variable{t:Tre}{i:Nat}{S:List Int}{n:Nd}
theorem Qsg(hn:nth t.ns i=n)(hu:n.us=true)(h:¬(n.es.length:Int)<=YL t.mo t.rm i):XO t i S=(16,S):=by
 subst hn;unfold XO;simp only[];rw[if_pos hu,if_neg h]
theorem QsY(hn:nth t.ns i=n)(hu:n.us=true)(h:(n.es.length:Int)<=YL t.mo t.rm i)(h2:¬(n.cs.length=0\/n.cs.length=n.es.length+1)):XO t i S=(10,S):=by
 subst hn;unfold XO;simp only[];rw[if_pos hu,if_pos h,if_neg h2]
theorem Qsk(hn:nth t.ns i=n)(hu:n.us=true)(h:(n.es.length:Int)<=YL t.mo t.rm i)(h2:n.cs.length=0\/n.cs.length=n.es.length+1)(h3:¬ZH t.co n.es=0):XO t i S=(ZH t.co n.es,S):=by
 subst hn;unfold XO;simp only[];rw[if_pos hu,if_pos h,if_pos h2,if_neg h3]
theorem QlQ(hn:nth t.ns i=n)(hu:n.us=true)(h:(n.es.length:Int)<=YL t.mo t.rm i)(h2:n.cs.length=0\/n.cs.length=n.es.length+1)(h3:ZH t.co n.es=0)(h4:¬(X5 t.ns n.cs S).1=0):XO t i S=X5 t.ns n.cs S:=by
 subst hn;unfold XO;simp only[];rw[if_pos hu,if_pos h,if_pos h2,if_pos h3,if_neg h4]
theorem Qsy(hn:nth t.ns i=n)(hu:n.us=true)(h:(n.es.length:Int)<=YL t.mo t.rm i)(h2:n.cs.length=0\/n.cs.length=n.es.length+1)(h3:ZH t.co n.es=0)(h4:(X5 t.ns n.cs S).1=0):XO t i S=(Qba t.co n.es,(X5 t.ns n.cs S).2):=by
 subst hn;unfold XO;simp only[];rw[if_pos hu,if_pos h,if_pos h2,if_pos h3,if_pos h4]
end
theorem Qkc{es:List Int}{k:Nat}(hk:k<es.length)(h:∀j,j<k->es.getD j 0=0)(h2:es.getD k 0≠0):QB es 0=((k:Int),es.getD k 0):=by
 have key:∀i,i<=k->QB es 0=QB (es.drop i) i:=by
  intro i
  induction i with
  | zero=>intro _;rfl
  | succ i ih=>
   intro hi;rw[ih om,X2 om,if_pos (h i om)]
 rw[key k (Nat.le_refl _),X2 hk,if_neg h2]
theorem Qhz{es:List Int}(h:∀j,j<es.length->es.getD j 0=0):QB es 0=(0,0):=by
 have key:∀i,i<=es.length->QB es 0=QB (es.drop i) i:=by
  intro i
  induction i with
  | zero=>intro _;rfl
  | succ i ih=>
   intro hi;rw[ih om,X2 om,if_pos (h i om)]
 rw[key _ (Nat.le_refl _),List.drop_length];rfl
theorem Qo6{co:Int}{es:List TEnt}{k:Nat}(hk:k<es.length)(h1:∀q,q<k->YQ co (nth es q)=0)(h2:¬YQ co (nth es k)=0):ZH co es=YQ co (nth es k):=by
 unfold ZH;rw[Qkc (es:=es.map (YQ co)) (k:=k) (by rw[List.length_map];exact hk) (λq hq=>by rw[Qcf om];exact h1 q hq) (by rw[Qcf hk];exact h2),Qcf hk]
theorem Qru{co:Int}{es:List TEnt}(h1:∀q,q<es.length->YQ co (nth es q)=0):ZH co es=0:=by
 unfold ZH;rw[Qhz (λq hq=>by rw[List.length_map]at hq;rw[Qcf hq];exact h1 q hq)]
theorem QoE{co:Int}{es:List TEnt}{k:Nat}(hk:k<es.length)(h1:∀q,q<k->Qbq co es q=0)(h2:¬Qbq co es k=0):Qba co es=Qbq co es k:=by
 unfold Qba;rw[Qkc (es:=(List.range es.length).map (Qbq co es)) (k:=k) (by simpa using hk) (λq hq=>by rw[QcL om];exact h1 q hq) (by rw[QcL hk];exact h2),QcL hk]
theorem QrM{co:Int}{es:List TEnt}(h1:∀q,q<es.length->Qbq co es q=0):Qba co es=0:=by
 unfold Qba;rw[Qhz (λq hq=>by rw[List.length_map,List.length_range]at hq;rw[QcL hq];exact h1 q hq)]
end Gx
namespace Go.Proofs
open Go Go.RowKit Gx
attribute [local irreducible] Go.Calls Gx.S Gx.O Gx.D Gx.OpP Gx.OpQ Gx.OpH
set_option maxRecDepth 20000
theorem Qvm:QL Tryz.prog 220=true:=by kernel_rfl
theorem c155(w:World)(j:Nat)(mo rm:Int)(a:Option Addr)(cap:Nat)(L:List LNd)(i sb scap tot:Nat)(S:List Int)(hw:HS w (fps [.blk sb 4 tot (Q6 L.length S)]) [.blk sb 4 tot (Q6 L.length S)] w)(hs:Nt w (fps [.blk sb 4 tot (Q6 L.length S)]) a L)(hj:j<=3)(hi:i<L.length)(hl:L.length<=1000)(hel:(nth L i).es.length<=1000)(hcl:(nth L i).cs.length<=1000)(hK:∀x∈(nth L i).es,x.key.length<=1000000):CE 155 #[.agg #[.int .i64 (j:Int),.int .i64 mo,.int .i64 rm,.slice a L.length cap],.int .i64 (i:Int),.slice (some ⟨sb,0,none⟩) L.length scap] w (fps [.blk sb 4 tot (Q6 L.length S)]) (λg:Unit=>.int .i64 (XO (⟨(j:Int),mo,rm,pln L⟩:Tre) i S).1) (λg=>True) λg=>[.blk sb 4 tot (Q6 L.length (XO (⟨(j:Int),mo,rm,pln L⟩:Tre) i S).2)]:=by
 have hNI:=QJ hi
 have hnl:(pln L).length=L.length:=Qd L
 refine eW3 Tryz.func155 Tryz.ntmps155 hw ?_
 refine aU2 ?_
 refine oBx λb1 _=>?_
 refine aU7 ?_
 refine o_p (Qa rfl rfl rfl Xl (i) om om (Rw.some hs.1 om)) rfl (o_q (Qn _ rfl rfl ZY rfl (Rw.rd hs.1 hi)) rfl (oAl (λb2 _=>?_) YV))
 refine aU9 ?_
 refine sCd rfl (λh3=>?_) λh3=>?_
 ·have hu9:¬(nth L i).us=true:=by have hq:=h3;simp[hq]
  have hun:=Qs4 (t:=(⟨(j:Int),mo,rm,pln L⟩:Tre)) (S:=S) (i:=i) (by rw[show((⟨(j:Int),mo,rm,pln L⟩:Tre)).ns=pln L from rfl,hNI];exact hu9)
  rw[show((⟨(j:Int),mo,rm,pln L⟩:Tre)).ns=pln L from rfl,hNI,hnl]at hun
  refine aU6 ?_
  refine oOr 7 24 31 rfl
   (λhg4 _=>by
    refine aT4 ?_
    refine aU8 ?_
    exact oJf 7 31)
   (λhg6 _=>by
    refine aU6 ?_
    exact oJt 7 31) ?_
  refine aU ?_
  refine oOr 5 32 37 rfl
   (λhg8 _=>by
    refine aU8 ?_
    exact oJf 5 37)
   (λhg10 _=>by
    refine aU4 ?_
    exact oJt 5 37) ?_
  refine aU ?_
  refine oOr 5 38 43 rfl
   (λhg12 _=>by
    refine aU8 ?_
    exact oJf 5 43)
   (λhg14 _=>by
    refine aU4 ?_
    exact oJt 5 43) ?_
  refine aU ?_
  refine sCd rfl (λh16=>?_) λh16=>?_
  ·have hn9:¬((0<i/\i+1<L.length)/\(nth L i).es.length+(nth L i).cs.length=0):=by have hq:=h16;omega
   have hun2:(XO (⟨(j:Int),mo,rm,pln L⟩:Tre) i S)=(3,S):=by rw[hun];exact if_neg hn9
   refine aU4 ?_
   exact rT rfl rfl (λw' h'=>⟨(),by rw[hun2];rfl,trivial,by rw[hun2];exact h'.ent aEt⟩)
  have hn9:(0<i/\i+1<L.length)/\(nth L i).es.length+(nth L i).cs.length=0:=by have hq:=h16;omega
  have hun2:(XO (⟨(j:Int),mo,rm,pln L⟩:Tre) i S)=(0,S):=by rw[hun];exact if_pos hn9
  refine aU5 ?_
  exact rT rfl rfl (λw' h'=>⟨(),by rw[hun2];rfl,trivial,by rw[hun2];exact h'.ent aEt⟩)
 have hu9:(nth L i).us=true:=by have hq:=h3;simpa using hq
 refine Z8 ?_
 refine Qe (L':=[(2,_),(3,_),(6,_),(7,_),(8,_),(47,_)]) aSx (λ_ h=>h) ?_
 refine QlO (α:=Unit) [8,48,49] (λ_=>[(8,.int .i64 (YL mo rm i))]) (λ_=>True) ?_ ?_
 ·skip
  refine sCd rfl (λh17=>?_) λh17=>?_
  ·have hi0:i=0:=by have hq:=h17;omega
   refine aU5 ?_
   exact Qm () trivial (by rw[show YL mo rm i=rm from if_pos hi0];exact aSx) (λw h=>h)
  have hi0:¬i=0:=by have hq:=h17;omega
  refine aU ?_
  exact Qm () trivial (by rw[show YL mo rm i=mo from if_neg hi0];exact aSx) (λw h=>h)
 intro _ _
 refine aU9 ?_
 refine sCd rfl (λh18=>?_) λh18=>?_
 ·have h16:(XO (⟨(j:Int),mo,rm,pln L⟩:Tre) i S)=(16,S):=Qsg (t:=(⟨(j:Int),mo,rm,pln L⟩:Tre)) hNI hu9 (by show¬((nth L i).es.length:Int)<=YL mo rm i;have hq:=h18;omega)
  refine aU4 ?_
  exact rT rfl rfl (λw' h'=>⟨(),by rw[h16];rfl,trivial,by rw[h16];exact h'.ent aEt⟩)
 have hM9:((nth L i).es.length:Int)<=YL mo rm i:=by have hq:=h18;omega
 refine aU9 ?_
 refine Xs 9 59 68 rfl
  (λhg19 _=>by
   refine aT14 ?_
   refine aU2 ?_
   exact oJt 9 68)
  (λhg21 _=>by
   refine aU8 ?_
   exact oJf 9 68) ?_
 refine aU ?_
 refine sCd rfl (λh23=>?_) λh23=>?_
 ·have h10:(XO (⟨(j:Int),mo,rm,pln L⟩:Tre) i S)=(10,S):=QsY (t:=(⟨(j:Int),mo,rm,pln L⟩:Tre)) hNI hu9 hM9 (by show¬((nth L i).cs.length=0\/(nth L i).cs.length=(nth L i).es.length+1);have hq:=h23;omega)
  refine aU4 ?_
  exact rT rfl rfl (λw' h'=>⟨(),by rw[h10];rfl,trivial,by rw[h10];exact h'.ent aEt⟩)
 have hS9:(nth L i).cs.length=0\/(nth L i).cs.length=(nth L i).es.length+1:=by have hq:=h23;omega
 refine aU7 ?_
 refine Qe (L':=[(2,_),(3,_),(6,_),(7,_),(9,_)]) aSx (λ_ h=>h) ?_
 refine Qo (α:=Nat) [6,9,10,69,70,71,72,73,74,75,76,77,78,79,80,81,82,83,84,85,86] (λk=>[(9,.int .i64 (k:Int))]) (λ_=>HS w (fps [.blk sb 4 tot (Q6 L.length S)]) [.blk sb 4 tot (Q6 L.length S),.blk b1 24 4 [.int .i64 (j:Int),.int .i64 mo,.int .i64 rm,.slice a L.length cap],.blk b2 127 3 (LNd.vals (nth L i))]) (λk=>k<=(nth L i).es.length/\∀q,q<k->YQ (j:Int) (nth (nth L i).es q)=0) (λk=>(nth L i).es.length-k) 0 ⟨Nat.zero_le _,λj h=>absurd h (Nat.not_lt_zero j)⟩ aSx (λw h=>h.ent aEt) (λk hx=>?_)
 obtain⟨hk1,hk3⟩:=hx
 refine aU9 ?_
 refine sCd rfl (λh24=>?_) λh24=>?_
 ·have hk5:k<(nth L i).es.length:=by omega
  refine aU4 ?_
  refine QG [] mixed ?_
  refine dFa 0 ?_
  refine dLd 1 [] ?_
  refine dFa 2 ?_
  refine dLd 3 [] ?_
  refine dP 4 ?_
  refine dV 5 rfl (Qa rfl rfl rfl QD (k) om om (Rw.some (hs.es hi) om)) (dQ 6 [] rfl (Qn _ rfl rfl ZT rfl (Rw.rd (hs.es hi) hk5)) (dQ 7 [] rfl (Qz rfl Qvm rfl (λw1 h1=>c220 w1 j (nth (nth L i).es k) hj (hK _ (Qq hk5)))) (dP 8 ?_)))
  refine dNi ?_
  refine aU5 ?_
  refine sCd rfl (λh25=>?_) λh25=>?_
  ·have hz6:¬YQ (j:Int) (nth (nth L i).es k)=0:=h25
   have hEb:=Qo6 hk5 hk3 hz6
   have hEe:(XO (⟨(j:Int),mo,rm,pln L⟩:Tre) i S)=(YQ (j:Int) (nth (nth L i).es k),S):=by rw[<-hEb];exact Qsk (t:=(⟨(j:Int),mo,rm,pln L⟩:Tre)) hNI hu9 hM9 hS9 (by show¬ZH (j:Int) (nth L i).es=0;rw[hEb];exact hz6)
   refine aU5 ?_
   exact rT rfl rfl (λw' h'=>⟨(),by rw[hEe];rfl,trivial,by rw[hEe];exact h'.ent aEt⟩)
  have hz6:YQ (j:Int) (nth (nth L i).es k)=0:=by have hq:=h25;omega
  refine aT5 ?_
  refine aU2 ?_
  exact sBk (k+1) om ⟨om,λq hq=>(Nat.lt_or_ge q k).elim (hk3 q) (λh9=>by obtain rfl:q=k:=om;exact hz6)⟩
 have hEn:∀q,q<(nth L i).es.length->YQ (j:Int) (nth (nth L i).es q)=0:=λq hq=>hk3 q om
 have hE0:ZH (j:Int) (nth L i).es=0:=Qru hEn
 refine Qg rfl ?_
 refine aU6 ?_
 refine Qo (α:=Nat×List Int) [6,11,12,87,88,89,90,91,92,93,94,95,96,97,98,99,100,101,102,103,104,105,106,107,108,109,110,111,112,113,114,115,116,117,118,119,120,121] (λy=>[(11,.int .i64 (y.1:Int))]) (λy=>HS w (fps [.blk sb 4 tot (Q6 L.length S)]) [.blk sb 4 tot (Q6 L.length y.2),.blk b1 24 4 [.int .i64 (j:Int),.int .i64 mo,.int .i64 rm,.slice a L.length cap],.blk b2 127 3 (LNd.vals (nth L i))]) (λy=>y.1<=(nth L i).cs.length/\(X5 (pln L) (nth L i).cs S)=X5 (pln L) ((nth L i).cs.drop y.1) y.2) (λy=>(nth L i).cs.length-y.1) (0,S) ⟨Nat.zero_le _,rfl⟩ aSx (λw h=>h.ent aEt) (λ⟨k,Sk⟩hx=>?_)
 dsimp only
 obtain⟨hk1,hk3⟩:=hx
 simp only[]at hk1 hk3
 refine aU9 ?_
 refine sCd rfl (λh26=>?_) λh26=>?_
 ·have hk5:k<(nth L i).cs.length:=by omega
  have hkd9:nth (nth L i).cs k=((nth L i).cs.getD k 0):=rfl
  have hst:=QcR hk5
  rw[hst,QbA]at hk3
  refine aU8 ?_
  refine o_p (Qa rfl rfl rfl QT (k) om om (Rw.some (hs.cs hi) om)) rfl (o_q (Qb rfl rfl Y2 (((hs.cs hi).rdj 0 hk5 rfl))) rfl (Qs (show _=Value.int .i64 ((nth L i).cs.getD k 0)from rfl) (Qv3 ?_)))
  refine oCq rfl (λw1 h1=>c27 w1 _ _ _) (aU2 ?_)
  refine oOr 8 106 114 rfl
   (λhg27 _=>by
    refine aU7 ?_
    refine o_p (Qa rfl rfl rfl Xl (((nth L i).cs.getD k 0).toNat) om om (Rw.some hs.1 om)) rfl (aU3 ?_)
    refine o_q (Qb rfl rfl Qb5 ((hs.1.rdj 0 (i:=((nth L i).cs.getD k 0).toNat) om rfl))) rfl (aU2 ?_)
    exact oJf 8 114)
   (λhg29 _=>by
    refine aU7 ?_
    exact oJt 8 114) ?_
  refine aU ?_
  refine sCd rfl (λh31=>?_) λh31=>?_
  ·have hko:¬Qdn (pln L) ((nth L i).cs.getD k 0):=by rintro⟨h91,h92⟩;rw[hnl]at h91;rw[QJ om]at h92;have hq:=h31;exact hq.elim (λhq=>om) (λhq=>by rw[show(nth L ((nth L i).cs.getD k 0).toNat).pl.us=(nth L ((nth L i).cs.getD k 0).toNat).us from rfl,hq]at h92;cases h92)
   have hk6e:(XO (⟨(j:Int),mo,rm,pln L⟩:Tre) i S)=(6,Sk):=by have h8:QcE (pln L) ((nth L i).cs.getD k 0) Sk=6:=if_neg hko;have h7:Qej (pln L) ((nth L i).cs.getD k 0) Sk=Sk:=if_neg hko;rw[h8,h7,if_neg (by decide)]at hk3;rw[<-hk3];exact QlQ (t:=(⟨(j:Int),mo,rm,pln L⟩:Tre)) hNI hu9 hM9 hS9 hE0 (by show¬(X5 (pln L) (nth L i).cs S).1=0;rw[hk3];show¬(6:Int)=0;decide)
   refine aU ?_
   refine Qe (L':=[(2,_),(3,_),(7,_),(9,_),(11,_),(12,_),(69,_),(70,_),(71,_),(72,_),(73,_)]) aSx (λ_ h=>h) ?_
   refine aU3 ?_
   exact rT rfl rfl (λw' h'=>⟨(),by rw[hk6e];rfl,trivial,by rw[hk6e];exact h'.ent aEt⟩)
  have hko:Qdn (pln L) ((nth L i).cs.getD k 0):=by have hq:=h31;refine⟨by rw[hnl];exact hq.1,?_⟩;rw[QJ om];exact hq.2
  have hko1:=hko.1
  rw[hnl]at hko1
  have hcv2:((nth L i).cs.getD k 0).toNat<L.length:=om
  have hcc:((((nth L i).cs.getD k 0).toNat:Nat):Int)=((nth L i).cs.getD k 0):=Int.toNat_of_nonneg om
  have h7:Qej (pln L) ((nth L i).cs.getD k 0) Sk=((nth L i).cs.getD k 0)::Sk:=if_pos hko
  rw[h7]at hk3
  have hsv:=Qku (n:=L.length) (S:=Sk) hcv2
  rw[hcc]at hsv
  refine aU3 ?_
  refine Qe (L':=[(2,_),(3,_),(7,_),(9,_),(11,_),(12,_),(69,_),(70,_),(71,_),(72,_),(73,_)]) aSx (λ_ h=>h) ?_
  refine aU3 ?_
  refine o_p (Qa rfl rfl rfl Yl (((nth L i).cs.getD k 0).toNat) om om rfl) rfl (Qs (show _=Value.pointer (some ⟨sb,((nth L i).cs.getD k 0).toNat,none⟩)from by rw[Nat.zero_add,Nat.mul_one]) (o_q (Xi rfl rfl Qb5 (λw h=>h.rd_blk (Mc:=[]) aPk (Qbs hcv2) (by simp))) rfl (aU ?_)))
  refine sCd rfl (λh32=>?_) λh32=>?_
  ·have hmem:((nth L i).cs.getD k 0)∈Sk:=by have hq:=h32;rw[hcc]at hq;exact hq
   have h8:QcE (pln L) ((nth L i).cs.getD k 0) Sk=23:=by rw[QcE,if_pos hko,if_pos hmem]
   rw[h8,if_neg (by decide)]at hk3
   have hk23:(XO (⟨(j:Int),mo,rm,pln L⟩:Tre) i S)=(23,((nth L i).cs.getD k 0)::Sk):=by rw[<-hk3];exact QlQ (t:=(⟨(j:Int),mo,rm,pln L⟩:Tre)) hNI hu9 hM9 hS9 hE0 (by show¬(X5 (pln L) (nth L i).cs S).1=0;rw[hk3];show¬(23:Int)=0;decide)
   refine aU4 ?_
   exact rT rfl rfl (λw' h'=>⟨(),by rw[hk23];rfl,trivial,by rw[hk23,QqZ hmem];exact h'.ent aEt⟩)
  have hmem:¬((nth L i).cs.getD k 0)∈Sk:=by have hq:=h32;rw[hcc]at hq;exact hq
  have h8:QcE (pln L) ((nth L i).cs.getD k 0) Sk=0:=by rw[QcE,if_pos hko,if_neg hmem]
  rw[h8,if_pos rfl]at hk3
  have hk9:=hk3
  refine aU4 ?_
  refine o_p (Qa rfl rfl rfl Yl (((nth L i).cs.getD k 0).toNat) om om rfl) rfl (Qs (show _=Value.pointer (some ⟨sb,((nth L i).cs.getD k 0).toNat,none⟩)from by rw[Nat.zero_add,Nat.mul_one]) (Qez (X7 rfl rfl rfl Qb5 rfl aPt (by rw[Qbi];show _+1<=_;omega) rfl) (λ_ _=>aT5 ?_)))
  refine aU2 ?_
  exact Qv (k+1,((nth L i).cs.getD k 0)::Sk) (by(try simp only[]);omega) ⟨by(try simp only[]);omega,hk9⟩ aSx (λw h=>by have h2:=h;rw[show Qf (Q6 L.length Sk) ((nth L i).cs.getD k 0).toNat (Value.cells (.bool true)).toList=Q6 L.length (((nth L i).cs.getD k 0)::Sk)from hsv]at h2;exact h2.ent aEt)
 have hdr9:(nth L i).cs.drop k=[]:=List.drop_of_length_le om
 rw[hdr9]at hk3
 have hK0:(X5 (pln L) (nth L i).cs S).1=0:=by rw[hk3];rfl
 have hK2:(X5 (pln L) (nth L i).cs S).2=Sk:=by rw[hk3];rfl
 have hOr:(XO (⟨(j:Int),mo,rm,pln L⟩:Tre) i S)=(Qba (j:Int) (nth L i).es,(X5 (pln L) (nth L i).cs S).2):=by have h9:=Qsy (t:=(⟨(j:Int),mo,rm,pln L⟩:Tre)) (i:=i) (S:=S) (n:=(nth L i).pl) hNI hu9 hM9 hS9 hE0 hK0;exact h9
 refine Qg rfl ?_
 refine aU6 ?_
 refine Qo (α:=Nat) [6,13,122,123,124,125,126,127,128,129,130,131,132,133,134,135,136,137,138,139,140,141,142,143,144,145] (λk=>[(13,.int .i64 (k:Int))]) (λ_=>HS w (fps [.blk sb 4 tot (Q6 L.length S)]) [.blk sb 4 tot (Q6 L.length (X5 (pln L) (nth L i).cs S).2),.blk b1 24 4 [.int .i64 (j:Int),.int .i64 mo,.int .i64 rm,.slice a L.length cap],.blk b2 127 3 (LNd.vals (nth L i))]) (λk=>1<=k/\∀q,q<k->Qbq (j:Int) (nth L i).es q=0) (λk=>(nth L i).es.length-k) 1 ⟨Nat.le_refl _,λq h=>if_pos (.inl om)⟩ aSx (λw h=>by rw[hK2];exact h.ent aEt) (λk hx=>?_)
 obtain⟨hk1,hk3b⟩:=hx
 refine aU9 ?_
 refine sCd rfl (λh33=>?_) λh33=>?_
 ·have hk5:k<(nth L i).es.length:=by omega
  have hk6:k-1<(nth L i).es.length:=om
  refine aU4 ?_
  refine QG [] mixed ?_
  refine dFa 0 ?_
  refine dLd 1 [] ?_
  refine dFa 2 ?_
  refine dLd 3 [] ?_
  refine dP 4 ?_
  refine dP 5 ?_
  try refine dWr ?_
  refine dV 6 rfl (Qa rfl rfl rfl QD (k-1) om om (Rw.some (hs.es hi) om)) (dFa 7 ?_)
  refine dQ 8 [] rfl (Qb rfl rfl YB (((hs.es hi).rdj 0 hk6 rfl))) (dFa 9 ?_)
  refine dLd 10 [] ?_
  refine dP 11 ?_
  refine dV 12 rfl (Qa rfl rfl rfl QD (k) om om (Rw.some (hs.es hi) om)) (dFa 13 ?_)
  refine dQ 14 [] rfl (Qb rfl rfl YB (((hs.es hi).rdj 0 hk5 rfl))) (dQ 15 [] rfl (Qz rfl QmB rfl (λw1 h1=>c84 w1 j (nth (nth L i).es (k-1)).key (nth (nth L i).es k).key hj (Qal (hEn _ hk6)) (Qal (hEn _ hk5)) (hK _ (Qq hk6)) (hK _ (Qq hk5)))) (dP 16 ?_))
  refine dNi ?_
  refine sCd rfl (λh34=>?_) λh34=>?_
  ·have hz11:¬Qbq (j:Int) (nth L i).es k=0:=by unfold Qbq;rw[if_neg (by have hq:=h34;omega)];decide
   have hOb:=QoE hk5 hk3b hz11
   have hOv:Qbq (j:Int) (nth L i).es k=9:=if_neg (by have hq:=h34;omega)
   refine aU ?_
   refine Qe (L':=[(2,_),(3,_),(7,_),(9,_),(11,_),(13,_),(69,_),(70,_),(71,_),(72,_),(73,_),(87,_),(88,_),(89,_),(90,_),(91,_)]) aSx (λ_ h=>h) ?_
   refine aU3 ?_
   exact rT rfl rfl (λw' h'=>⟨(),by rw[hOr,hOb,hOv];rfl,trivial,by rw[hOr];exact h'.ent aEt⟩)
  have hz11:Qbq (j:Int) (nth L i).es k=0:=if_pos (.inr (by have hq:=h34;omega))
  refine aU2 ?_
  refine Qe (L':=[(2,_),(3,_),(7,_),(9,_),(11,_),(13,_),(69,_),(70,_),(71,_),(72,_),(73,_),(87,_),(88,_),(89,_),(90,_),(91,_)]) aSx (λ_ h=>h) ?_
  refine aT3 ?_
  refine aU2 ?_
  exact sBk (k+1) om ⟨om,λq hq=>(Nat.lt_or_ge q k).elim (hk3b q) (λh9=>by obtain rfl:q=k:=om;exact hz11)⟩
 have hO0:Qba (j:Int) (nth L i).es=0:=QrM (λq hq=>hk3b q om)
 refine Qg rfl ?_
 refine aU4 ?_
 exact rT rfl rfl (λw' h'=>⟨(),by rw[hOr,hO0];rfl,trivial,by rw[hOr];exact h'.ent aEt⟩)
end Go.Proofs
namespace Gx
open Go Go.RowKit
def mkS(vs:List Vis)(S:List Int):List Int:=(vs.map λv=>((v.i:Nat):Int)).reverse++S
theorem Qs8(A B:List Vis)(S:List Int):mkS (A++B) S=mkS B (mkS A S):=by simp[mkS]
theorem Qtd{vs:List Vis}{c:Int}:c∈mkS vs [] ↔ ∃v∈vs,((v.i:Nat):Int)=c:=by simp[mkS]
end Gx
namespace Go.Proofs
open Go Go.RowKit Gx
attribute [local irreducible] Go.Calls Gx.S Gx.O Gx.D Gx.OpP Gx.OpQ Gx.OpH
set_option maxRecDepth 20000
theorem QqP:QL Tryz.prog 156=true:=by kernel_rfl
def MkC(j:Nat)(mo rm:Int)(a:Option Addr)(cap:Nat)(L:List LNd)(sb scap tot:Nat)(f:Nat):Prop:=∀(w:World)(S:List Int)(v:Vis)(P:List Nat),(HS w (fps [.blk sb 4 tot (Q6 L.length S)]) [.blk sb 4 tot (Q6 L.length S)] w)->(Nt w (fps [.blk sb 4 tot (Q6 L.length S)]) a L)->(TOk (j:Int) (pln L))->(Bd (pln L))->(0<L.length)->(Gx.Way (pln L) (v.i::P))->P.length+f=L.length->Calls Tryz.prog 156 #[.agg #[.int .i64 (j:Int),.int .i64 mo,.int .i64 rm,.slice a L.length cap],.int .i64 (v.i:Int),.slice (some ⟨sb,0,none⟩) L.length scap] w λen w'=>∃g:Unit,en=.returned (.tuple #[])/\True/\HS w (fps [.blk sb 4 tot (Q6 L.length S)]) [.blk sb 4 tot (Q6 L.length (mkS (vis (pln L) f v) S))] w'
theorem Qw4(w:World)(j:Nat)(mo rm:Int)(a:Option Addr)(cap:Nat)(L:List LNd)(sb scap tot:Nat)(S:List Int)(v:Vis)(P:List Nat)(f:Nat)(hw:HS w (fps [.blk sb 4 tot (Q6 L.length S)]) [.blk sb 4 tot (Q6 L.length S)] w)(hs:Nt w (fps [.blk sb 4 tot (Q6 L.length S)]) a L)(hT:TOk (j:Int) (pln L))(hB:Bd (pln L))(h0:0<L.length)(hway:Gx.Way (pln L) (v.i::P))(hf:P.length+(f+1)=L.length)(ih:MkC j mo rm a cap L sb scap tot f):CE 156 #[.agg #[.int .i64 (j:Int),.int .i64 mo,.int .i64 rm,.slice a L.length cap],.int .i64 (v.i:Int),.slice (some ⟨sb,0,none⟩) L.length scap] w (fps [.blk sb 4 tot (Q6 L.length S)]) (λg:Unit=>.tuple #[]) (λg=>True) λg=>[.blk sb 4 tot (Q6 L.length (mkS (vis (pln L) (f+1) v) S))]:=by
 have hi0:=Qa3 hT (by rw[Qd];exact h0) hway v.i (List.mem_cons_self ..)
 have hi:v.i<L.length:=by rw[Qd]at hi0;exact hi0
 have hn:=QJ hi
 have hle:=hB.len
 rw[Qd]at hle
 have hcl:=hB.cs v.i hi0
 rw[hn]at hcl
 simp only[LNd.pl]at hcl
 refine eW3 Tryz.func156 Tryz.ntmps156 hw ?_
 refine aU2 ?_
 refine oBx λb1 _=>?_
 refine aU5 ?_
 refine o_p (Qa rfl rfl rfl Yl (v.i) om om rfl) rfl (Qs (show _=Value.pointer (some ⟨sb,v.i,none⟩)from by rw[Nat.zero_add,Nat.mul_one]) (Qez (X7 rfl rfl rfl Qb5 rfl aPt (by rw[Qbi];show _+1<=_;omega) rfl) (λ_ _=>aU6 ?_)))
 refine Qo (α:=Nat) [6,10,11,12,13,14,15,16,17,18,19,20,21,22,23,24,25,26,27,28,29,30,31,32] (λk=>[(6,.int .i64 (k:Int))]) (λk=>HS w (fps [.blk sb 4 tot (Q6 L.length S)]) [.blk sb 4 tot (Q6 L.length (mkS (Qbe (pln L) f v k) S)),.blk b1 24 4 [.int .i64 (j:Int),.int .i64 mo,.int .i64 rm,.slice a L.length cap]]) (λk=>k<=(nth L v.i).cs.length) (λk=>(nth L v.i).cs.length-k) 0 (Nat.zero_le _) aSx (λw h=>by have h2:=h;rw[show Qf (Q6 L.length S) v.i (Value.cells (.bool true)).toList=Q6 L.length (((v.i:Nat):Int)::S)from Qku hi]at h2;exact h2.ent aEt) (λk hk1=>?_)
 refine aU7 ?_
 refine o_p (Qa rfl rfl rfl Xl (v.i) om om (Rw.some hs.1 om)) rfl (aU ?_)
 refine o_q (Qb rfl rfl ZU ((hs.1.rdj 2 hi rfl))) rfl (aU3 ?_)
 refine sCd rfl (λh2=>?_) λh2=>?_
 ·have hkl:k<(nth L v.i).cs.length:=by omega
  have hkid:=Qdv hT hi0 (k:=k) (by rw[hn];exact hkl)
  rw[hn,Qd]at hkid
  simp only[LNd.pl]at hkid
  have hway2:=QbJ hway hi0 (k:=k) (by rw[hn];exact hkl) (by rw[hn];simp only[LNd.pl];omega)
  refine aU3 ?_
  refine QG [11] mixed ?_
  refine dLn 0 [[]] ?_
  refine dFa 1 ?_
  refine dLd 2 [[9,8,6,5,4]] ?_
  refine dP 3 ?_
  refine dV 4 rfl (Qa rfl rfl rfl Xl (v.i) om om (Rw.some hs.1 om)) (dFa 5 ?_)
  refine dQ 6 [[9,8]] rfl (Qb rfl rfl ZU ((hs.1.rdj 2 hi rfl))) (dP 7 ?_)
  refine dV 8 rfl (Qa rfl rfl rfl QT (k) om om (Rw.some (hs.cs hi) om)) (dQ 9 [[]] rfl (Qb rfl rfl Y2 (((hs.cs hi).rdj 0 (i:=k) hkl rfl))) (QK (show _=Value.int .i64 ((XF (pln L) v k).i:Int)from by rw[XF,hn];exact congrArg (Value.int .i64) (Int.toNat_of_nonneg (show 0<=(nth L v.i).cs.getD k 0 by omega)).symm) (dP 10 ?_)))
  refine dH 11 rfl (Xy (Cs:=[.blk sb 4 tot (Q6 L.length (mkS (Qbe (pln L) f v k) S))]) rfl QqP rfl aPs (λw1 h1 hf9=>ih w1 (mkS (Qbe (pln L) f v k) S) (XF (pln L) v k) (v.i::P) hf9 ((hs.keep h1).mono (Q2 aPs)) hT hB h0 hway2 (by simp only[List.length_cons];omega))) (λ_ _=>dTu [] ?_)
  refine dNi ?_
  refine aT4 ?_
  refine aU2 ?_
  exact Qv (k+1) om om aSx (λw h=>by rw[XW,Qs8];exact h.ent aEt)
 obtain rfl:k=(nth L v.i).cs.length:=om
 refine Qg rfl ?_
 exact Qlr rfl (λw' h'=>⟨(),rfl,trivial,by rw[Y6,hn];exact h'.ent aEt⟩)
theorem c156(j:Nat)(mo rm:Int)(a:Option Addr)(cap:Nat)(L:List LNd)(sb scap tot:Nat):∀f,MkC j mo rm a cap L sb scap tot f
  | 0=>λw S v P hw hs hT hB h0 hway hf=>by
    have h1:=Yi hT (by rw[Qd];exact h0) hway;rw[Qd,List.length_cons]at h1;omega
  | f+1=>λw S v P hw hs hT hB h0 hway hf=>Qw4 w j mo rm a cap L sb scap tot S v P f hw hs hT hB h0 hway hf (c156 j mo rm a cap L sb scap tot f)
end Go.Proofs
namespace Gx
open Go Go.RowKit
def StK(w:World)(p:Option Addr)(n:Nat)(o:Option (List UInt8)):Prop:=match o with
 | none=>n=0
 | some k=>n=1/\∃b off,p=some ⟨b,off,none⟩/\Rd w [] b off (.string (bs k))
theorem StK.later{w w':World}{As:List HA}{p:Option Addr}{n:Nat}{o:Option (List UInt8)}(h:StK w p n o)(hs:HS w [] As w'):StK w' p n o:=by
 cases o with
 | none=>exact h
 | some k=>
  obtain⟨h1,b,off,h2,h3⟩:=h;exact⟨h1,b,off,h2,h3.next hs⟩
theorem StK.of_pos{w:World}{p:Option Addr}{n:Nat}{o:Option (List UInt8)}(h:StK w p n o)(hn:0<n):∃k b off,o=some k/\n=1/\p=some ⟨b,off,none⟩/\Rd w [] b off (.string (bs k)):=by
 cases o with
 | none=>
  have:n=0:=h;omega
 | some k=>
  obtain⟨h1,b,off,h2,h3⟩:=h;exact⟨k,b,off,rfl,h1,h2,h3⟩
theorem StK.of_no{w:World}{p:Option Addr}{n:Nat}{o:Option (List UInt8)}(h:StK w p n o)(hn:¬0<n):o=none:=by
 cases o with
 | none=>rfl
 | some k=>
  obtain⟨h1,_⟩:=h;omega
theorem StK.new{w:World}{b:Nat}{k:List UInt8}(h:Rd w [] b 0 (.string (bs k))):StK w (some ⟨b,0,none⟩) 1 (some k):=⟨rfl,b,0,rfl,h⟩
theorem QfM{es:List TEnt}{k:Nat}{lo:Option (List UInt8)}(h:0<k):loK es k lo=some (nth es (k-1)).key:=if_pos h
theorem QiP{es:List TEnt}{k:Nat}{lo:Option (List UInt8)}(h:¬0<k):loK es k lo=lo:=if_neg h
theorem QfV{es:List TEnt}{k:Nat}{hi:Option (List UInt8)}(h:k<es.length):hiK es k hi=some (nth es k).key:=if_pos h
theorem Qja{es:List TEnt}{k:Nat}{hi:Option (List UInt8)}(h:¬k<es.length):hiK es k hi=hi:=if_neg h
theorem Ye{t:Tre}{deep:Int}:∀(A B:List Vis),X6 t deep (A++B)=if(X6 t deep A).2=0 then X6 t deep B else X6 t deep A
 | [],B=>rfl
 | v::A,B=>by
  rw[List.cons_append,X6,X6]
  by_cases h:Qdh t deep v=0
  ·rw[if_pos h,if_pos h];exact Ye A B
  ·rw[if_neg h,if_neg h,if_neg h]
theorem Qr0{t:Tre}{v:Vis}{N R:Nd}(hN:nth t.ns v.i=N)(hR:nth t.ns 0=R)(h1:R.cs.length=0\/R.cs.length=R.es.length+1)(h2:∀c∈R.cs,1<=c):ZG t v=true ↔ (v.i≠0/\(N.es.length:Int)<t.mo/2)\/(((R.es.length=0/\R.cs.length=1)/\R.cs.getD 0 0=(v.i:Int))/\(N.es.length:Int)<=t.rm):=by
 subst hN hR;unfold ZG;simp only[Bool.and_eq_true,Bool.or_eq_true,decide_eq_true_eq];constructor
 ·rintro⟨h3,h4|⟨⟨h4,h5⟩,h6⟩⟩
  ·exact .inl ⟨om,h4⟩
  ·refine .inr ⟨⟨⟨h4,?_⟩,?_⟩,h6⟩
   ·rcases h1 with h1|h1
    ·rw[List.eq_nil_of_length_eq_zero h1]at h5;cases h5
    ·omega
   ·have hl:(nth t.ns 0).cs.length=1:=by
     rcases h1 with h1|h1
     ·rw[List.eq_nil_of_length_eq_zero h1]at h5;cases h5
     ·omega
    obtain⟨c,hc⟩:=List.length_eq_one_iff.1 hl;rw[hc]at h5 ⊢;exact(List.mem_singleton.1 h5).symm
 ·rintro(⟨h3,h4⟩|⟨⟨⟨h4,h5⟩,h6⟩,h7⟩)
  ·exact⟨om,.inl h4⟩
  ·obtain⟨c,hc⟩:=List.length_eq_one_iff.1 h5;have h8:=h2 c (by rw[hc];exact List.mem_singleton.2 rfl);rw[hc]at h6 ⊢;have h9:c=(v.i:Int):=h6;exact⟨om,.inr ⟨⟨h4,List.mem_singleton.2 h9.symm⟩,h7⟩⟩
theorem Qj3{t:Tre}{deep:Int}{v:Vis}(h:ZG t v=true):Qdh t deep v=14:=by rw[Qbw,if_pos h]
theorem Qp4{t:Tre}{deep:Int}{v:Vis}(h:¬ZG t v=true)(h2:Zm t v=true):Qdh t deep v=9:=by rw[Qbw,if_neg h,if_pos h2]
theorem Qr3{t:Tre}{deep:Int}{v:Vis}(h:¬ZG t v=true)(h2:¬Zm t v=true)(h3:(nth t.ns v.i).cs.length=0/\v.d≠deep+1):Qdh t deep v=22:=by rw[Qbw,if_neg h,if_neg h2,if_pos h3]
theorem QrX{t:Tre}{deep:Int}{v:Vis}(h:¬ZG t v=true)(h2:¬Zm t v=true)(h3:¬((nth t.ns v.i).cs.length=0/\v.d≠deep+1)):Qdh t deep v=0:=by rw[Qbw,if_neg h,if_neg h2,if_neg h3]
theorem QqG{t:Tre}{v:Vis}{N:Nd}{k:Nat}(hN:nth t.ns v.i=N)(hk:k<N.es.length)(h:ZX t v (nth N.es k)=true):Zm t v=true:=by
 subst hN;exact List.any_eq_true.2 ⟨_,Qq hk,h⟩
theorem Qsc{t:Tre}{v:Vis}{N:Nd}(hN:nth t.ns v.i=N)(h:∀q,q<N.es.length->¬ZX t v (nth N.es q)=true):¬Zm t v=true:=λh2=>by
 subst hN;obtain⟨x,hx,h3⟩:=List.any_eq_true.1 h2;obtain⟨q,hq,e⟩:=List.getElem_of_mem hx;have e2:nth (nth t.ns v.i).es q=x:=XR (by rw[List.getElem?_eq_getElem hq,e]);exact h q hq (by rw[e2];exact h3)
theorem QeD{t:Tre}{v:Vis}{x:TEnt}:ZX t v x=true ↔ (∃b,v.lo=some b/\0<=QC t.co b x.key)\/(∃b,v.hi=some b/\0<=QC t.co x.key b):=by
 unfold ZX;cases v.lo<;>cases v.hi<;>simp
section
variable{t:Tre}{v:Vis}{x:TEnt}{kl kh:List UInt8}
theorem Qw9(h1:v.lo=some kl)(h:0<=QC t.co kl x.key):(true=true ↔ ZX t v x=true):=⟨λ_=>QeD.2 (.inl ⟨kl,h1,h⟩),λ_=>rfl⟩
theorem QwY(h1:v.lo=some kl)(h:¬0<=QC t.co kl x.key)(h2:v.hi=some kh):(decide (QC t.co x.key kh>=0)=true ↔ ZX t v x=true):=by
 rw[decide_eq_true_eq,QeD,h1,h2];constructor
 ·exactλh9=>.inr ⟨kh,rfl,h9⟩
 ·rintro(⟨b,hb,h9⟩|⟨b,hb,h9⟩)
  ·cases hb;exact absurd h9 h
  ·cases hb;exact h9
theorem Qxi(h1:v.lo=some kl)(h:¬0<=QC t.co kl x.key)(h2:v.hi=none):(false=true ↔ ZX t v x=true):=by
 rw[QeD,h1,h2];constructor
 ·exactλh9=>(nomatch h9)
 ·rintro(⟨b,hb,h9⟩|⟨b,hb,h9⟩)
  ·cases hb;exact absurd h9 h
  ·cases hb
theorem QwA(h1:v.lo=none)(h2:v.hi=some kh):(decide (QC t.co x.key kh>=0)=true ↔ ZX t v x=true):=by
 rw[decide_eq_true_eq,QeD,h1,h2];constructor
 ·exactλh9=>.inr ⟨kh,rfl,h9⟩
 ·rintro(⟨b,hb,h9⟩|⟨b,hb,h9⟩)
  ·cases hb
  ·cases hb;exact h9
theorem Qw8(h1:v.lo=none)(h2:v.hi=none):(false=true ↔ ZX t v x=true):=by
 rw[QeD,h1,h2];constructor
 ·exactλh9=>(nomatch h9)
 ·rintro(⟨b,hb,h9⟩|⟨b,hb,h9⟩)<;>cases hb
end
theorem Qex{t:Tre}{deep:Int}{f:Nat}{v:Vis}(h:¬Qdh t deep v=0):X6 t deep (vis t.ns (f+1) v)=((v.i:Int),Qdh t deep v):=by
 rw[vis,X6,if_neg h]
theorem Qu1{t:Tre}{deep:Int}{f:Nat}{v:Vis}(h:Qdh t deep v=0):(X6 t deep (Qbe t.ns f v 0)).2=0:=by
 rw[QlG,X6,if_pos h];rfl
end Gx
namespace Go.Proofs
open Go Go.RowKit Gx
attribute [local irreducible] Go.Calls Gx.S Gx.O Gx.D Gx.OpP Gx.OpQ Gx.OpH
set_option maxRecDepth 20000
theorem Qhc:QL Tryz.prog 157=true:=by kernel_rfl
instance:TFn Tryz.prog 157:=⟨Qhc⟩
def PlC(j:Nat)(mo rm:Int)(a:Option Addr)(cap:Nat)(L:List LNd)(deep:Int)(f:Nat):Prop:=∀(w:World)(v:Vis)(P:List Nat)(lv:Int)(pa qa:Option Addr)(pn pc qn qc:Nat),(Nt w [] a L)->(j<=3)->((0<=mo/\mo<=1000)/\(0<=deep/\deep<=1000))->(TOk (j:Int) (pln L))->(Bd (pln L))->(0<L.length)->(Gx.Way (pln L) (v.i::P))->(v.d=(P.length:Int)+1)->(lv=deep+1-v.d)->(KOk (j:Int) v.lo)->(KOk (j:Int) v.hi)->(StK w pa pn v.lo)->(StK w qa qn v.hi)->P.length+f=L.length->Calls Tryz.prog 157 #[.agg #[.int .i64 (j:Int),.int .i64 mo,.int .i64 rm,.slice a L.length cap],.int .i64 (v.i:Int),.int .i64 lv,.slice pa pn pc,.slice qa qn qc] w λen w'=>en=.returned (.tuple #[.int .i64 (X6 (⟨(j:Int),mo,rm,pln L⟩:Tre) deep (vis (pln L) f v)).1,.int .i64 (X6 (⟨(j:Int),mo,rm,pln L⟩:Tre) deep (vis (pln L) f v)).2])/\Below w.heap.size w w'
theorem QwE(w:World)(j:Nat)(mo rm:Int)(a:Option Addr)(cap:Nat)(L:List LNd)(deep:Int)(v:Vis)(P:List Nat)(lv:Int)(pa qa:Option Addr)(pn pc qn qc:Nat)(f:Nat)(hs:Nt w [] a L)(hj:j<=3)(hmo:(0<=mo/\mo<=1000)/\(0<=deep/\deep<=1000))(hT:TOk (j:Int) (pln L))(hB:Bd (pln L))(h0:0<L.length)(hway:Gx.Way (pln L) (v.i::P))(hd:v.d=(P.length:Int)+1)(hlv:lv=deep+1-v.d)(hko:KOk (j:Int) v.lo)(hkp:KOk (j:Int) v.hi)(hlo:StK w pa pn v.lo)(hhi:StK w qa qn v.hi)(hf:P.length+(f+1)=L.length)(ih:PlC j mo rm a cap L deep f):CR 157 #[.agg #[.int .i64 (j:Int),.int .i64 mo,.int .i64 rm,.slice a L.length cap],.int .i64 (v.i:Int),.int .i64 lv,.slice pa pn pc,.slice qa qn qc] w (.tuple #[.int .i64 (X6 (⟨(j:Int),mo,rm,pln L⟩:Tre) deep (vis (pln L) (f+1) v)).1,.int .i64 (X6 (⟨(j:Int),mo,rm,pln L⟩:Tre) deep (vis (pln L) (f+1) v)).2]):=by
 have hi0:=Qa3 hT (by rw[Qd];exact h0) hway v.i (List.mem_cons_self ..)
 have hi:v.i<L.length:=by rw[Qd]at hi0;exact hi0
 have hn:=QJ hi
 have hn0:=QJ h0
 have hle:=hB.len
 rw[Qd]at hle
 have hwl:=Yi hT (by rw[Qd];exact h0) hway
 rw[Qd,List.length_cons]at hwl
 have hcl:=hB.cs v.i hi0
 have hel:=hB.es v.i hi0
 rw[hn]at hcl hel
 simp only[LNd.pl]at hcl hel
 have hsh:=hT.shape v.i hi0
 rw[hn]at hsh
 simp only[LNd.pl]at hsh
 have hgi:=Qr0 (t:=(⟨(j:Int),mo,rm,pln L⟩:Tre)) (v:=v) hn hn0 (hn0▸hT.shape 0 (by rw[Qd];exact h0)) (λc hc=>(hT.kid 0 (by rw[Qd];exact h0) c (by rw[hn0];exact hc)).1.1)
 simp only[LNd.pl]at hgi
 have hE9:=QeE hT hi0
 rw[hn]at hE9
 simp only[LNd.pl]at hE9
 refine eN5 Tryz.func157 Tryz.ntmps157 ?_
 refine aU2 ?_
 refine oBx λb1 _=>?_
 refine aU8 ?_
 refine o_p (Qa rfl rfl rfl Xl (v.i) om om (Rw.some hs.1 om)) rfl (o_q (Qn _ rfl rfl ZY rfl (Rw.rd hs.1 hi)) rfl (oAl (λb2 _=>?_) YV))
 refine aU8 ?_
 refine Xs 8 27 35 rfl
  (λhg3 _=>by
   refine Qas ?_
   refine o_p (Qee rfl rfl rfl om om om) rfl (aU2 ?_)
   exact oJt 8 35)
  (λhg5 _=>by
   refine aU7 ?_
   exact oJf 8 35) ?_
 refine aU ?_
 refine sCd rfl (λh7=>?_) λh7=>?_
 ·have hgp:ZG (⟨(j:Int),mo,rm,pln L⟩:Tre) v=true:=hgi.2 (.inl (by have hq:=h7;omega))
  have hV:=Qj3 (deep:=deep) hgp
  refine aU6 ?_
  exact Qj (rs:=[.tmp 10,.tmp 11]) rfl (.tmp rfl (.tmp rfl (.nil))) (λw' h'=>⟨by rw[Qex (by rw[hV];decide),hV];rfl,h'.below⟩)
 have hng1:¬(v.i≠0/\((nth L v.i).es.length:Int)<mo/2):=by have hq:=h7;omega
 refine aU6 ?_
 refine o_p (Qa rfl rfl rfl Xl (0) om om (Rw.some hs.1 om)) rfl (aU ?_)
 refine o_q (Qb rfl rfl Zx ((hs.1.rdj 1 h0 rfl))) rfl (aU3 ?_)
 refine Xs 8 44 52 rfl
  (λhg8 _=>by
   refine aU5 ?_
   refine o_p (Qa rfl rfl rfl Xl (0) om om (Rw.some hs.1 om)) rfl (aU3 ?_)
   refine o_q (Qb rfl rfl ZU ((hs.1.rdj 2 h0 rfl))) rfl (aU4 ?_)
   exact oJt 8 52)
  (λhg10 _=>by
   refine aU7 ?_
   exact oJf 8 52) ?_
 refine aU ?_
 refine Xs 10 53 63 rfl
  (λhg12 _=>by
   refine aU5 ?_
   refine o_p (Qa rfl rfl rfl Xl (0) om om (Rw.some hs.1 om)) rfl (aU3 ?_)
   refine o_q (Qb rfl rfl ZU ((hs.1.rdj 2 h0 rfl))) rfl (aU ?_)
   refine o_p (Qa rfl rfl rfl QT (0) om om (Rw.some (hs.cs h0) om)) rfl (aU ?_)
   refine o_q (Qb rfl rfl Y2 (((hs.cs h0).rdj 0 (i:=0) om rfl))) rfl (aU4 ?_)
   exact oJt 10 63)
  (λhg14 _=>by
   refine aU9 ?_
   exact oJf 10 63) ?_
 refine aU ?_
 refine Xs 7 64 71 rfl
  (λhg16 _=>by
   refine Qaa ?_
   exact oJt 7 71)
  (λhg18 _=>by
   refine aU6 ?_
   exact oJf 7 71) ?_
 refine aU ?_
 refine sCd rfl (λh20=>?_) λh20=>?_
 ·have hgp:ZG (⟨(j:Int),mo,rm,pln L⟩:Tre) v=true:=hgi.2 (.inr (by have hq:=h20;exact⟨⟨⟨om,om⟩,hq.1.2⟩,om⟩))
  have hV:=Qj3 (deep:=deep) hgp
  refine aU ?_
  refine Qe (L':=[(1,_),(2,_),(3,_),(4,_),(5,_),(10,_),(11,_),(12,_)]) aSx (λ_ h=>h) ?_
  refine aU5 ?_
  exact Qj (rs:=[.tmp 10,.tmp 11]) rfl (.tmp rfl (.tmp rfl (.nil))) (λw' h'=>⟨by rw[Qex (by rw[hV];decide),hV];rfl,h'.below⟩)
 have hgn:¬ZG (⟨(j:Int),mo,rm,pln L⟩:Tre) v=true:=λh9=>(hgi.1 h9).elim hng1 (λh8=>by have hq:=h20;rcases hq with((hq|hq)|hq)|hq<;>first|omega|exact hq h8.1.2)
 refine aU3 ?_
 refine Qe (L':=[(1,_),(2,_),(3,_),(4,_),(5,_),(10,_),(11,_),(12,_)]) aSx (λ_ h=>h) ?_
 refine aU4 ?_
 refine Qo (α:=Nat) [10,11,13,14,73,74,75,76,77,78,79,80,81,82,83,84,85,86,87,88,89,90,91,92,93,94,95,96,97,98,99,100,101,102,103,104,105,106,107,108,109,110,111,112,113,114] (λk=>[(13,.int .i64 (k:Int))]) (λ_=>HS w [] [.blk b1 24 4 [.int .i64 (j:Int),.int .i64 mo,.int .i64 rm,.slice a L.length cap],.blk b2 127 3 (LNd.vals (nth L v.i))]) (λk=>k<=(nth L v.i).es.length/\∀q,q<k->¬ZX (⟨(j:Int),mo,rm,pln L⟩:Tre) v (nth (nth L v.i).es q)=true) (λk=>(nth L v.i).es.length-k) 0 ⟨Nat.zero_le _,λq h=>absurd h (Nat.not_lt_zero q)⟩ aSx (λw h=>h.ent aEt) (λk hx9=>?_)
 obtain⟨hk1,hk3⟩:=hx9
 refine aU9 ?_
 refine sCd rfl (λh21=>?_) λh21=>?_
 ·have hk5:k<(nth L v.i).es.length:=by omega
  refine aU8 ?_
  refine o_p (Qa rfl rfl rfl QD (k) om om (Rw.some (hs.es hi) om)) rfl (aU ?_)
  refine o_q (Qb rfl rfl YB (((hs.es hi).rdj 0 hk5 rfl))) rfl (aU3 ?_)
  refine Qe (L':=[(1,_),(2,_),(3,_),(4,_),(5,_),(12,_),(13,_),(14,_)]) aSx (λ_ h=>h) ?_
  refine QlO (α:=Bool) [86,87,88,89,90,91,92,93,94,95,96,97,98,99,100,101,102,103,104,105,106,107,108,109,110,111,112,113] (λx=>[(113,.bool x)]) (λx=>x=true ↔ (ZX (⟨(j:Int),mo,rm,pln L⟩:Tre) v (nth (nth L v.i).es k))=true) ?_ ?_
  ·skip
   refine QG [] mixed ?_
   refine dP 0 ?_
   refine dV 1 rfl (QR rfl rfl Tryz.underlying69) (dP 2 ?_)
   refine dP 3 ?_
   apply QE 89
   ·exact rfl
   ·intro hg22
    have hs23:=hg22;try simp only[dT]at hs23
    refine dFo 4 89 hg22 ?_
    obtain⟨kl,bl,ol,hlo1,hlo2,hlo3,hlo4⟩:=hlo.of_pos om
    refine dQo 5 89 [] hg22 rfl rfl rfl (YN rfl rfl Y2 aPk rfl) ?_
    refine dPo 6 89 hg22 ?_
    refine dVo 7 89 hg22 rfl rfl rfl (Qa rfl rfl rfl YK (0) om om hlo3) ?_
    refine dQo 8 89 [] hg22 rfl rfl rfl (Qb rfl rfl YB (hlo4)) ?_
    refine dPo 9 89 hg22 ?_
    refine dQo 10 89 [] hg22 rfl rfl rfl (Qz rfl QmB rfl (λw1 h1=>c84 w1 j kl (nth (nth L v.i).es k).key hj (hko _ hlo1).1 (hE9 _ (Qq hk5)).1 (hko _ hlo1).2 (hE9 _ (Qq hk5)).2)) ?_
    refine dPo 11 89 hg22 ?_
    refine dV 12 rfl (QF rfl rfl hg22 rfl) (dP 13 ?_)
    apply QE 99
    ·exact rfl
    ·intro hg24
     have hs25:=hg24;try simp only[dT]at hs25
     refine dOf 14 99 hg24 ?_
     refine dOf 15 99 hg24 ?_
     refine dOf 16 99 hg24 ?_
     refine dOf 17 99 hg24 ?_
     refine dOu 18 103 ?_
     refine dOu 19 103 ?_
     refine dOu 20 103 ?_
     refine dOu 21 103 ?_
     refine dOu 22 103 ?_
     refine dOu 23 103 ?_
     refine dOu 24 103 ?_
     refine dOu 25 103 ?_
     refine dOf 26 99 hg24 ?_
     refine dV 27 rfl (QF rfl rfl hg24 rfl) (dNi ?_)
     exact Qm true (Qw9 hlo1 (by show 0<=QC (j:Int) kl _;omega)) aSx (λw h=>h.ent aEt)
    intro hg26
    have hs27:=hg26;try simp only[dN]at hs27
    refine dPo 14 99 hg26 ?_
    refine dVo 15 99 hg26 rfl rfl rfl (QR rfl rfl Tryz.underlying69) ?_
    refine dPo 16 99 hg26 ?_
    refine dPo 17 99 hg26 ?_
    apply QE 103
    ·exact rfl
    ·intro hg28
     have hs29:=hg28;try simp only[dT]at hs29
     refine dFo 18 103 hg28 ?_
     obtain⟨kh,bh,oh,hhi1,hhi2,hhi3,hhi4⟩:=hhi.of_pos om
     refine dQo 19 103 [] hg28 rfl rfl rfl (YN rfl rfl Y2 aPk rfl) ?_
     refine dPo 20 103 hg28 ?_
     refine dPo 21 103 hg28 ?_
     refine dVo 22 103 hg28 rfl rfl rfl (Qa rfl rfl rfl YK (0) om om hhi3) ?_
     refine dQo 23 103 [] hg28 rfl rfl rfl (Qb rfl rfl YB (hhi4)) ?_
     refine dQo 24 103 [] hg28 rfl rfl rfl (Qz rfl QmB rfl (λw1 h1=>c84 w1 j (nth (nth L v.i).es k).key kh hj (hE9 _ (Qq hk5)).1 (hkp _ hhi1).1 (hE9 _ (Qq hk5)).2 (hkp _ hhi1).2)) ?_
     refine dPo 25 103 hg28 ?_
     refine dVo 26 99 hg26 rfl rfl rfl (QF rfl rfl hg28 rfl) ?_
     refine dV 27 rfl (Qx rfl rfl hg26 rfl) (dNi ?_)
     exact Qm (decide (QC (j:Int) (nth (nth L v.i).es k).key kh>=0)) (QwY (t:=(⟨(j:Int),mo,rm,pln L⟩:Tre)) hlo1 (by show¬0<=QC (j:Int) kl _;omega) hhi1) aSx (λw h=>h.ent aEt)
    intro hg30
    have hs31:=hg30;try simp only[dN]at hs31
    refine dOf 18 103 hg30 ?_
    refine dOf 19 103 hg30 ?_
    refine dOf 20 103 hg30 ?_
    refine dOf 21 103 hg30 ?_
    refine dOf 22 103 hg30 ?_
    refine dOf 23 103 hg30 ?_
    refine dOf 24 103 hg30 ?_
    refine dOf 25 103 hg30 ?_
    refine dVo 26 99 hg26 rfl rfl rfl (Qx rfl rfl hg30 rfl) ?_
    refine dV 27 rfl (Qx rfl rfl hg26 rfl) (dNi ?_)
    exact Qm false (Qxi hlo1 (by show¬0<=QC (j:Int) kl _;omega) (hhi.of_no om)) aSx (λw h=>h.ent aEt)
   intro hg32
   have hs33:=hg32;try simp only[dN]at hs33
   refine dOf 4 89 hg32 ?_
   refine dOf 5 89 hg32 ?_
   refine dOf 6 89 hg32 ?_
   refine dOf 7 89 hg32 ?_
   refine dOf 8 89 hg32 ?_
   refine dOf 9 89 hg32 ?_
   refine dOf 10 89 hg32 ?_
   refine dOf 11 89 hg32 ?_
   refine dV 12 rfl (Qx rfl rfl hg32 rfl) (dP 13 ?_)
   apply QE 99
   ·exact rfl
   ·intro hg34
    have hs35:=hg34;skip
    refine dOf 14 99 hg34 ?_
    refine dOf 15 99 hg34 ?_
    refine dOf 16 99 hg34 ?_
    refine dOf 17 99 hg34 ?_
    refine dOu 18 103 ?_
    refine dOu 19 103 ?_
    refine dOu 20 103 ?_
    refine dOu 21 103 ?_
    refine dOu 22 103 ?_
    refine dOu 23 103 ?_
    refine dOu 24 103 ?_
    refine dOu 25 103 ?_
    refine dOf 26 99 hg34 ?_
    refine dV 27 rfl (QF rfl rfl hg34 rfl) (dNi ?_)
    exact Qm true (by exfalso;simp_all;done) aSx (λw h=>h.ent aEt)
   intro hg36
   have hs37:=hg36;skip
   refine dPo 14 99 hg36 ?_
   refine dVo 15 99 hg36 rfl rfl rfl (QR rfl rfl Tryz.underlying69) ?_
   refine dPo 16 99 hg36 ?_
   refine dPo 17 99 hg36 ?_
   apply QE 103
   ·exact rfl
   ·intro hg38
    have hs39:=hg38;try simp only[dT]at hs39
    refine dFo 18 103 hg38 ?_
    obtain⟨kh,bh,oh,hhi1,hhi2,hhi3,hhi4⟩:=hhi.of_pos om
    refine dQo 19 103 [] hg38 rfl rfl rfl (YN rfl rfl Y2 aPk rfl) ?_
    refine dPo 20 103 hg38 ?_
    refine dPo 21 103 hg38 ?_
    refine dVo 22 103 hg38 rfl rfl rfl (Qa rfl rfl rfl YK (0) om om hhi3) ?_
    refine dQo 23 103 [] hg38 rfl rfl rfl (Qb rfl rfl YB (hhi4)) ?_
    refine dQo 24 103 [] hg38 rfl rfl rfl (Qz rfl QmB rfl (λw1 h1=>c84 w1 j (nth (nth L v.i).es k).key kh hj (hE9 _ (Qq hk5)).1 (hkp _ hhi1).1 (hE9 _ (Qq hk5)).2 (hkp _ hhi1).2)) ?_
    refine dPo 25 103 hg38 ?_
    refine dVo 26 99 hg36 rfl rfl rfl (QF rfl rfl hg38 rfl) ?_
    refine dV 27 rfl (Qx rfl rfl hg36 rfl) (dNi ?_)
    exact Qm (decide (QC (j:Int) (nth (nth L v.i).es k).key kh>=0)) (QwA (t:=(⟨(j:Int),mo,rm,pln L⟩:Tre)) (hlo.of_no om) hhi1) aSx (λw h=>h.ent aEt)
   intro hg40
   have hs41:=hg40;try simp only[dN]at hs41
   refine dOf 18 103 hg40 ?_
   refine dOf 19 103 hg40 ?_
   refine dOf 20 103 hg40 ?_
   refine dOf 21 103 hg40 ?_
   refine dOf 22 103 hg40 ?_
   refine dOf 23 103 hg40 ?_
   refine dOf 24 103 hg40 ?_
   refine dOf 25 103 hg40 ?_
   refine dVo 26 99 hg36 rfl rfl rfl (Qx rfl rfl hg40 rfl) ?_
   refine dV 27 rfl (Qx rfl rfl hg36 rfl) (dNi ?_)
   exact Qm false (Qw8 (hlo.of_no om) (hhi.of_no om)) aSx (λw h=>h.ent aEt)
  intro x hx
  refine sCd rfl (λh42=>?_) λh42=>?_
  ·have hV:=Qp4 (deep:=deep) hgn (QqG hn hk5 (hx.1 h42))
   refine aU6 ?_
   exact Qj (rs:=[.tmp 10,.tmp 11]) rfl (.tmp rfl (.tmp rfl (.nil))) (λw' h'=>⟨by rw[Qex (by rw[hV];decide),hV];rfl,h'.below⟩)
  have hz3:¬(ZX (⟨(j:Int),mo,rm,pln L⟩:Tre) v (nth (nth L v.i).es k))=true:=λh9=>by have h8:=hx.2 h9;simp_all
  refine aT5 ?_
  refine aU2 ?_
  exact sBk (k+1) om ⟨om,λq hq=>(Nat.lt_or_ge q k).elim (hk3 q) (λh9=>by obtain rfl:q=k:=om;exact hz3)⟩
 have hon:¬Zm (⟨(j:Int),mo,rm,pln L⟩:Tre) v=true:=Qsc hn (λq hq=>hk3 q (by have hq9:=hq;simp only[LNd.pl]at hq9;omega))
 refine Qg rfl ?_
 refine aU8 ?_
 refine Xs 3 119 122 rfl
  (λhg43 _=>by
   refine aU4 ?_
   exact oJt 3 122)
  (λhg45 _=>by
   refine aU2 ?_
   exact oJf 3 122) ?_
 refine aU ?_
 refine sCd rfl (λh47=>?_) λh47=>?_
 ·have hV:=Qr3 (deep:=deep) hgn hon (by rw[show((⟨(j:Int),mo,rm,pln L⟩:Tre)).ns=pln L from rfl,hn];have hq:=h47;simp only[LNd.pl];omega)
  refine aU6 ?_
  exact Qj (rs:=[.tmp 10,.tmp 11]) rfl (.tmp rfl (.tmp rfl (.nil))) (λw' h'=>⟨by rw[Qex (by rw[hV];decide),hV];rfl,h'.below⟩)
 have hV0:=QrX (deep:=deep) hgn hon (by rw[show((⟨(j:Int),mo,rm,pln L⟩:Tre)).ns=pln L from rfl,hn];have hq:=h47;simp only[LNd.pl];omega)
 refine aU7 ?_
 refine Qe (L':=[(1,_),(2,_),(3,_),(4,_),(5,_),(12,_),(13,_),(15,_)]) aSx (λ_ h=>h) ?_
 refine Qo (α:=Nat) [10,11,15,16,17,18,19,124,125,126,127,128,129,130,131,132,133,134,135,136,137,138,139,140,141,142,143,144,145,146,147,148,149,150,151,152,153,154,155,156,157,158,159,160,161,162,163,164,165,166,167,168,169,170,171,172] (λk=>[(15,.int .i64 (k:Int))]) (λ_=>HS w [] [.blk b1 24 4 [.int .i64 (j:Int),.int .i64 mo,.int .i64 rm,.slice a L.length cap],.blk b2 127 3 (LNd.vals (nth L v.i))]) (λk=>k<=(nth L v.i).cs.length/\(X6 (⟨(j:Int),mo,rm,pln L⟩:Tre) deep (Qbe (pln L) f v k)).2=0) (λk=>(nth L v.i).cs.length-k) 0 ⟨Nat.zero_le _,Qu1 hV0⟩ aSx (λw h=>h.ent aEt) (λk hx9=>?_)
 obtain⟨hk1,hk3⟩:=hx9
 refine aU9 ?_
 refine sCd rfl (λh48=>?_) λh48=>?_
 ·have hkl:k<(nth L v.i).cs.length:=by omega
  have hkid:=Qdv hT hi0 (k:=k) (by rw[hn];exact hkl)
  rw[hn,Qd]at hkid
  simp only[LNd.pl]at hkid
  have hway2:=QbJ hway hi0 (k:=k) (by rw[hn];exact hkl) (by rw[hn];simp only[LNd.pl];omega)
  refine QvH ?_
  refine sCd rfl (λh49=>?_) λh49=>?_
  ·have hk0:0<k:=by have hq:=h49;omega
   refine aT5 ?_
   refine o_p (Qa rfl rfl rfl QD (k-1) om om (Rw.some (hs.es hi) om)) rfl (aU ?_)
   refine o_q (Qb rfl rfl YB (((hs.es hi).rdj 0 (i:=k-1) om rfl))) rfl (o_h (Ql (cs:=[_]) rfl rfl YK QeP rfl rfl rfl) rfl (λb50 _=>Qas ?_))
   refine sCd rfl (λh51=>?_) λh51=>?_
   ·have hk9:k<(nth L v.i).es.length:=by have hq:=h51;omega
    refine Qe (L':=[(1,_),(2,_),(3,_),(4,_),(5,_),(12,_),(13,_),(15,_),(16,_),(17,_)]) aSx (λ_ h=>h) ?_
    refine aU4 ?_
    refine o_p (Qa rfl rfl rfl QD (k) om om (Rw.some (hs.es hi) om)) rfl (aU ?_)
    refine o_q (Qb rfl rfl YB (((hs.es hi).rdj 0 (i:=k) om rfl))) rfl (o_h (Ql (cs:=[_]) rfl rfl YK QeP rfl rfl rfl) rfl (λb52 _=>aU3 ?_))
    refine QG [] mixed ?_
    refine dLn 0 [] ?_
    refine dFa 1 ?_
    refine dLd 2 [] ?_
    refine dP 3 ?_
    refine dV 4 rfl (Qa rfl rfl rfl QT (k) om om (Rw.some (hs.cs hi) om)) (dQ 5 [] rfl (Qb rfl rfl Y2 (((hs.cs hi).rdj 0 (i:=k) hkl rfl))) (QK (show _=Value.int .i64 ((XF (pln L) v k).i:Int)from by rw[XF,hn];exact congrArg (Value.int .i64) (Int.toNat_of_nonneg (show 0<=(nth L v.i).cs.getD k 0 by omega)).symm) (dP 6 ?_)))
    refine dP 7 ?_
    try refine dWr ?_
    refine dP 8 ?_
    refine dP 9 ?_
    refine dQ 10 [] rfl (Qz rfl Qhc rfl (λw1 h1=>ih w1 (XF (pln L) v k) (v.i::P) (lv-1) _ _ _ _ _ _ (hs.later h1) hj hmo hT hB h0 hway2 (by simp only[XF,List.length_cons];omega) (by simp only[XF];omega) (QgH hT hi0 (by rw[hn];show k<=(nth L v.i).es.length;omega) hko) (Qgb hT hi0 hkp) (by show StK w1 _ _ (loK (nth (pln L) v.i).es k v.lo);rw[hn];show StK w1 _ _ (loK (nth L v.i).es k v.lo);first|(rw[QfM hk0];exact StK.new (h1.rd_blk (Mc:=[]) aPk rfl (by simp)))|(rw[QiP hk0];exact hlo.later h1)) (by show StK w1 _ _ (hiK (nth (pln L) v.i).es k v.hi);rw[hn];show StK w1 _ _ (hiK (nth L v.i).es k v.hi);first|(rw[QfV hk9];exact StK.new (h1.rd_blk (Mc:=[]) aPk rfl (by simp)))|(rw[Qja hk9];exact hhi.later h1)) (by simp only[List.length_cons];omega))) (dP 11 ?_)
    refine dP 12 ?_
    refine dP 13 ?_
    refine dP 14 ?_
    refine dP 15 ?_
    refine dNi ?_
    refine aU ?_
    refine Qe (L':=[(1,_),(2,_),(3,_),(4,_),(5,_),(12,_),(13,_),(15,_),(18,_),(19,_)]) aSx (λ_ h=>h) ?_
    refine aU4 ?_
    refine sCd rfl (λh53=>?_) λh53=>?_
    ·have hbad:X6 (⟨(j:Int),mo,rm,pln L⟩:Tre) deep (vis (pln L) (f+1) v)=X6 (⟨(j:Int),mo,rm,pln L⟩:Tre) deep (vis (pln L) f (XF (pln L) v k)):=by rw[Y6,hn];obtain⟨B9,hB9⟩:=Qa5 (pln L) f v (show k+1<=(nth L v.i).pl.cs.length by show k+1<=(nth L v.i).cs.length;omega);rw[hB9,XW,List.append_assoc,Ye,if_pos hk3,Ye,if_neg h53]
     refine aU7 ?_
     exact Qj (rs:=[.tmp 10,.tmp 11]) rfl (.tmp rfl (.tmp rfl (.nil))) (λw' h'=>⟨by rw[hbad];rfl,h'.below⟩)
    have hgood:(X6 (⟨(j:Int),mo,rm,pln L⟩:Tre) deep (Qbe (pln L) f v (k+1))).2=0:=by rw[XW,Ye,if_pos hk3];have hq:=h53;omega
    refine aT5 ?_
    refine aU2 ?_
    exact sBk (k+1) om ⟨om,hgood⟩
   have hk9:¬k<(nth L v.i).es.length:=by have hq:=h51;omega
   refine aU2 ?_
   refine Qe (L':=[(1,_),(2,_),(3,_),(4,_),(5,_),(12,_),(13,_),(15,_),(16,_),(17,_)]) aSx (λ_ h=>h) ?_
   refine QG [] mixed ?_
   refine dLn 0 [] ?_
   refine dFa 1 ?_
   refine dLd 2 [] ?_
   refine dP 3 ?_
   refine dV 4 rfl (Qa rfl rfl rfl QT (k) om om (Rw.some (hs.cs hi) om)) (dQ 5 [] rfl (Qb rfl rfl Y2 (((hs.cs hi).rdj 0 (i:=k) hkl rfl))) (QK (show _=Value.int .i64 ((XF (pln L) v k).i:Int)from by rw[XF,hn];exact congrArg (Value.int .i64) (Int.toNat_of_nonneg (show 0<=(nth L v.i).cs.getD k 0 by omega)).symm) (dP 6 ?_)))
   refine dP 7 ?_
   try refine dWr ?_
   refine dP 8 ?_
   refine dP 9 ?_
   refine dQ 10 [] rfl (Qz rfl Qhc rfl (λw1 h1=>ih w1 (XF (pln L) v k) (v.i::P) (lv-1) _ _ _ _ _ _ (hs.later h1) hj hmo hT hB h0 hway2 (by simp only[XF,List.length_cons];omega) (by simp only[XF];omega) (QgH hT hi0 (by rw[hn];show k<=(nth L v.i).es.length;omega) hko) (Qgb hT hi0 hkp) (by show StK w1 _ _ (loK (nth (pln L) v.i).es k v.lo);rw[hn];show StK w1 _ _ (loK (nth L v.i).es k v.lo);first|(rw[QfM hk0];exact StK.new (h1.rd_blk (Mc:=[]) aPk rfl (by simp)))|(rw[QiP hk0];exact hlo.later h1)) (by show StK w1 _ _ (hiK (nth (pln L) v.i).es k v.hi);rw[hn];show StK w1 _ _ (hiK (nth L v.i).es k v.hi);first|(rw[QfV hk9];exact StK.new (h1.rd_blk (Mc:=[]) aPk rfl (by simp)))|(rw[Qja hk9];exact hhi.later h1)) (by simp only[List.length_cons];omega))) (dP 11 ?_)
   refine dP 12 ?_
   refine dP 13 ?_
   refine dP 14 ?_
   refine dP 15 ?_
   refine dNi ?_
   refine aU5 ?_
   refine sCd rfl (λh54=>?_) λh54=>?_
   ·have hbad:X6 (⟨(j:Int),mo,rm,pln L⟩:Tre) deep (vis (pln L) (f+1) v)=X6 (⟨(j:Int),mo,rm,pln L⟩:Tre) deep (vis (pln L) f (XF (pln L) v k)):=by rw[Y6,hn];obtain⟨B9,hB9⟩:=Qa5 (pln L) f v (show k+1<=(nth L v.i).pl.cs.length by show k+1<=(nth L v.i).cs.length;omega);rw[hB9,XW,List.append_assoc,Ye,if_pos hk3,Ye,if_neg h54]
    refine aU7 ?_
    exact Qj (rs:=[.tmp 10,.tmp 11]) rfl (.tmp rfl (.tmp rfl (.nil))) (λw' h'=>⟨by rw[hbad];rfl,h'.below⟩)
   have hgood:(X6 (⟨(j:Int),mo,rm,pln L⟩:Tre) deep (Qbe (pln L) f v (k+1))).2=0:=by rw[XW,Ye,if_pos hk3];have hq:=h54;omega
   refine aT5 ?_
   refine aU2 ?_
   exact sBk (k+1) om ⟨om,hgood⟩
  have hk0:¬0<k:=by have hq:=h49;omega
  refine Qbg ?_
  refine sCd rfl (λh55=>?_) λh55=>?_
  ·have hk9:k<(nth L v.i).es.length:=by have hq:=h55;omega
   refine aU4 ?_
   refine o_p (Qa rfl rfl rfl QD (k) om om (Rw.some (hs.es hi) om)) rfl (aU ?_)
   refine o_q (Qb rfl rfl YB (((hs.es hi).rdj 0 (i:=k) om rfl))) rfl (o_h (Ql (cs:=[_]) rfl rfl YK QeP rfl rfl rfl) rfl (λb56 _=>aU3 ?_))
   refine Qe (L':=[(1,_),(2,_),(3,_),(4,_),(5,_),(12,_),(13,_),(15,_),(16,_),(17,_)]) aSx (λ_ h=>h) ?_
   refine QG [] mixed ?_
   refine dLn 0 [] ?_
   refine dFa 1 ?_
   refine dLd 2 [] ?_
   refine dP 3 ?_
   refine dV 4 rfl (Qa rfl rfl rfl QT (k) om om (Rw.some (hs.cs hi) om)) (dQ 5 [] rfl (Qb rfl rfl Y2 (((hs.cs hi).rdj 0 (i:=k) hkl rfl))) (QK (show _=Value.int .i64 ((XF (pln L) v k).i:Int)from by rw[XF,hn];exact congrArg (Value.int .i64) (Int.toNat_of_nonneg (show 0<=(nth L v.i).cs.getD k 0 by omega)).symm) (dP 6 ?_)))
   refine dP 7 ?_
   try refine dWr ?_
   refine dP 8 ?_
   refine dP 9 ?_
   refine dQ 10 [] rfl (Qz rfl Qhc rfl (λw1 h1=>ih w1 (XF (pln L) v k) (v.i::P) (lv-1) _ _ _ _ _ _ (hs.later h1) hj hmo hT hB h0 hway2 (by simp only[XF,List.length_cons];omega) (by simp only[XF];omega) (QgH hT hi0 (by rw[hn];show k<=(nth L v.i).es.length;omega) hko) (Qgb hT hi0 hkp) (by show StK w1 _ _ (loK (nth (pln L) v.i).es k v.lo);rw[hn];show StK w1 _ _ (loK (nth L v.i).es k v.lo);first|(rw[QfM hk0];exact StK.new (h1.rd_blk (Mc:=[]) aPk rfl (by simp)))|(rw[QiP hk0];exact hlo.later h1)) (by show StK w1 _ _ (hiK (nth (pln L) v.i).es k v.hi);rw[hn];show StK w1 _ _ (hiK (nth L v.i).es k v.hi);first|(rw[QfV hk9];exact StK.new (h1.rd_blk (Mc:=[]) aPk rfl (by simp)))|(rw[Qja hk9];exact hhi.later h1)) (by simp only[List.length_cons];omega))) (dP 11 ?_)
   refine dP 12 ?_
   refine dP 13 ?_
   refine dP 14 ?_
   refine dP 15 ?_
   refine dNi ?_
   refine aU5 ?_
   refine sCd rfl (λh57=>?_) λh57=>?_
   ·have hbad:X6 (⟨(j:Int),mo,rm,pln L⟩:Tre) deep (vis (pln L) (f+1) v)=X6 (⟨(j:Int),mo,rm,pln L⟩:Tre) deep (vis (pln L) f (XF (pln L) v k)):=by rw[Y6,hn];obtain⟨B9,hB9⟩:=Qa5 (pln L) f v (show k+1<=(nth L v.i).pl.cs.length by show k+1<=(nth L v.i).cs.length;omega);rw[hB9,XW,List.append_assoc,Ye,if_pos hk3,Ye,if_neg h57]
    refine aU7 ?_
    exact Qj (rs:=[.tmp 10,.tmp 11]) rfl (.tmp rfl (.tmp rfl (.nil))) (λw' h'=>⟨by rw[hbad];rfl,h'.below⟩)
   have hgood:(X6 (⟨(j:Int),mo,rm,pln L⟩:Tre) deep (Qbe (pln L) f v (k+1))).2=0:=by rw[XW,Ye,if_pos hk3];have hq:=h57;omega
   refine aT5 ?_
   refine aU2 ?_
   exact sBk (k+1) om ⟨om,hgood⟩
  have hk9:¬k<(nth L v.i).es.length:=by have hq:=h55;omega
  refine aU2 ?_
  refine QG [] mixed ?_
  refine dLn 0 [] ?_
  refine dFa 1 ?_
  refine dLd 2 [] ?_
  refine dP 3 ?_
  refine dV 4 rfl (Qa rfl rfl rfl QT (k) om om (Rw.some (hs.cs hi) om)) (dQ 5 [] rfl (Qb rfl rfl Y2 (((hs.cs hi).rdj 0 (i:=k) hkl rfl))) (QK (show _=Value.int .i64 ((XF (pln L) v k).i:Int)from by rw[XF,hn];exact congrArg (Value.int .i64) (Int.toNat_of_nonneg (show 0<=(nth L v.i).cs.getD k 0 by omega)).symm) (dP 6 ?_)))
  refine dP 7 ?_
  try refine dWr ?_
  refine dP 8 ?_
  refine dP 9 ?_
  refine dQ 10 [] rfl (Qz rfl Qhc rfl (λw1 h1=>ih w1 (XF (pln L) v k) (v.i::P) (lv-1) _ _ _ _ _ _ (hs.later h1) hj hmo hT hB h0 hway2 (by simp only[XF,List.length_cons];omega) (by simp only[XF];omega) (QgH hT hi0 (by rw[hn];show k<=(nth L v.i).es.length;omega) hko) (Qgb hT hi0 hkp) (by show StK w1 _ _ (loK (nth (pln L) v.i).es k v.lo);rw[hn];show StK w1 _ _ (loK (nth L v.i).es k v.lo);first|(rw[QfM hk0];exact StK.new (h1.rd_blk (Mc:=[]) aPk rfl (by simp)))|(rw[QiP hk0];exact hlo.later h1)) (by show StK w1 _ _ (hiK (nth (pln L) v.i).es k v.hi);rw[hn];show StK w1 _ _ (hiK (nth L v.i).es k v.hi);first|(rw[QfV hk9];exact StK.new (h1.rd_blk (Mc:=[]) aPk rfl (by simp)))|(rw[Qja hk9];exact hhi.later h1)) (by simp only[List.length_cons];omega))) (dP 11 ?_)
  refine dP 12 ?_
  refine dP 13 ?_
  refine dP 14 ?_
  refine dP 15 ?_
  refine dNi ?_
  refine aU ?_
  refine Qe (L':=[(1,_),(2,_),(3,_),(4,_),(5,_),(12,_),(13,_),(15,_),(18,_),(19,_)]) aSx (λ_ h=>h) ?_
  refine aU4 ?_
  refine sCd rfl (λh58=>?_) λh58=>?_
  ·have hbad:X6 (⟨(j:Int),mo,rm,pln L⟩:Tre) deep (vis (pln L) (f+1) v)=X6 (⟨(j:Int),mo,rm,pln L⟩:Tre) deep (vis (pln L) f (XF (pln L) v k)):=by rw[Y6,hn];obtain⟨B9,hB9⟩:=Qa5 (pln L) f v (show k+1<=(nth L v.i).pl.cs.length by show k+1<=(nth L v.i).cs.length;omega);rw[hB9,XW,List.append_assoc,Ye,if_pos hk3,Ye,if_neg h58]
   refine aU7 ?_
   exact Qj (rs:=[.tmp 10,.tmp 11]) rfl (.tmp rfl (.tmp rfl (.nil))) (λw' h'=>⟨by rw[hbad];rfl,h'.below⟩)
  have hgood:(X6 (⟨(j:Int),mo,rm,pln L⟩:Tre) deep (Qbe (pln L) f v (k+1))).2=0:=by rw[XW,Ye,if_pos hk3];have hq:=h58;omega
  refine aT5 ?_
  refine aU2 ?_
  exact sBk (k+1) om ⟨om,hgood⟩
 obtain rfl:k=(nth L v.i).cs.length:=om
 have hfin:X6 (⟨(j:Int),mo,rm,pln L⟩:Tre) deep (vis (pln L) (f+1) v)=(0,0):=by rw[Y6,hn];exact Qk2 hk3
 refine Qg rfl ?_
 refine aU5 ?_
 exact Qj (rs:=[.tmp 10,.tmp 11]) rfl (.tmp rfl (.tmp rfl (.nil))) (λw' h'=>⟨by rw[hfin];rfl,h'.below⟩)
theorem c157(j:Nat)(mo rm:Int)(a:Option Addr)(cap:Nat)(L:List LNd)(deep:Int):∀f,PlC j mo rm a cap L deep f
  | 0=>λw v P lv pa qa pn pc qn qc hs hj hmo hT hB h0 hway hd hlv hko hkp hlo hhi hf=>by
    have h1:=Yi hT (by rw[Qd];exact h0) hway;rw[Qd,List.length_cons]at h1;omega
  | f+1=>λw v P lv pa qa pn pc qn qc hs hj hmo hT hB h0 hway hd hlv hko hkp hlo hhi hf=>QwE w j mo rm a cap L deep v P lv pa qa pn pc qn qc f hs hj hmo hT hB h0 hway hd hlv hko hkp hlo hhi hf (c157 j mo rm a cap L deep f)
end Go.Proofs
namespace Gx
open Go Go.RowKit
theorem QvK{t:Tre}(h:¬QY t.co=0):XD t=(0,QY t.co):=by rw[Qc3 (by rw[if_neg h];exact h),if_neg h]
theorem QvT{t:Tre}(h:QY t.co=0)(h2:¬Zs t.mo t.rm=0):XD t=(0,Zs t.mo t.rm):=by rw[Qc3 (by rw[if_pos h];exact h2),if_pos h]
theorem Quz{t:Tre}(h:QY t.co=0)(h2:Zs t.mo t.rm=0)(h3:¬0<t.ns.length):XD t=(0,10):=by
 have e:Zg t.ns.length=10:=if_neg h3;rw[Qd8 (by rw[if_pos h];exact h2) (by rw[e];decide),e]
theorem Qwm{t:Tre}(h:QY t.co=0)(h2:Zs t.mo t.rm=0)(h3:0<t.ns.length)(h4:¬t.ns.length<=120):XD t=(0,8):=by
 have e:Zg t.ns.length=8:=by rw[Zg,if_pos h3,if_neg h4]
 rw[Qd8 (by rw[if_pos h];exact h2) (by rw[e];decide),e]
theorem QuC{t:Tre}(h:QY t.co=0)(h2:Zs t.mo t.rm=0)(h3:0<t.ns.length)(h4:t.ns.length<=120):XD t=if(XX t t.ns.length 0 []).2=0 then QbZ t else XX t t.ns.length 0 []:=QeN (by rw[if_pos h];exact h2) (by rw[Zg,if_pos h3,if_pos h4])
theorem Qj6(n:Nat):XE [Value.bool false] n=Q6 n []:=by
 rw[QeK];apply List.ext_getElem?;intro i
 by_cases hi:i<n
 ·rw[Qbs hi,List.getElem?_replicate,if_pos hi];rfl
 ·rw[List.getElem?_eq_none (by rw[List.length_replicate];omega),List.getElem?_eq_none (by rw[Qbi];omega)]
theorem QjX{vs:List Vis}{k:Nat}:((k:Nat):Int)∈mkS vs [] ↔ k∈vs.map Vis.i:=by
 rw[Qtd,List.mem_map];constructor
 ·rintro⟨v,hv,h⟩;exact⟨v,hv,om⟩
 ·rintro⟨v,hv,h⟩;exact⟨v,hv,om⟩
theorem Qjs(ns:List Nd):∀(f i:Nat),0<=YX ns f i/\YX ns f i<=f
 | 0,i=>by rw[YX];omega
 | f+1,i=>by
  rw[YX];split
  ·omega
  ·have:=Qjs ns f ((nth ns i).cs.getD 0 0).toNat;omega
theorem QpI{ns:List Nd}{f i:Nat}(h:(nth ns i).cs.length=0):YX ns f i=0:=by
 cases f with
 | zero=>rfl
 | succ f=>rw[YX,if_pos h]
theorem Qoo{ns:List Nd}{f i:Nat}(h0:0<f)(h:¬(nth ns i).cs.length=0):YX ns f i=YX ns (f-1) ((nth ns i).cs.getD 0 0).toNat+1:=by
 obtain⟨g,rfl⟩:∃g,f=g+1:=⟨f-1,om⟩;rw[YX,if_neg h];rfl
end Gx
namespace Go.Proofs
open Go Go.RowKit Gx
attribute [local irreducible] Go.Calls Gx.S Gx.O Gx.D Gx.OpP Gx.OpQ Gx.OpH
set_option maxRecDepth 20000
instance:TFn Tryz.prog 153:=⟨by kernel_rfl⟩
instance:TFn Tryz.prog 154:=⟨by kernel_rfl⟩
theorem QuF:QL Tryz.prog 155=true:=by kernel_rfl
theorem c93(w:World)(co mo rm:Int)(a:Option Addr)(cap:Nat)(L:List LNd)(hs:Nt w [] a L)(hB:Bd (pln L))(hkl:∀i,i<L.length->∀x∈(nth L i).es,x.key.length<=1000000):CR 93 #[.agg #[.int .i64 co,.int .i64 mo,.int .i64 rm,.slice a L.length cap]] w (.tuple #[.int .i64 (XD (⟨co,mo,rm,pln L⟩:Tre)).1,.int .i64 (XD (⟨co,mo,rm,pln L⟩:Tre)).2]):=by
 have hle:=hB.len
 rw[Qd]at hle
 have hes9:∀i,i<L.length->(nth L i).es.length<=1000:=λi hi=>by have h9:=hB.es i (by rw[Qd];exact hi);rw[QJ hi]at h9;exact h9
 have hcs9:∀i,i<L.length->(nth L i).cs.length<=1000:=λi hi=>by have h9:=hB.cs i (by rw[Qd];exact hi);rw[QJ hi]at h9;exact h9
 refine eN1 Tryz.func93 Tryz.ntmps93 ?_
 refine aU2 ?_
 refine oBx λb1 _=>?_
 refine aU8 ?_
 refine oCq rfl (λw1 h1=>c153 w1 _) (aU7 ?_)
 refine sCd rfl (λh2=>?_) λh2=>?_
 ·have hz:=QvK (t:=(⟨co,mo,rm,pln L⟩:Tre)) h2
  refine aU6 ?_
  exact Qj (rs:=[.tmp 2,.tmp 3]) rfl (.tmp rfl (.tmp rfl (.nil))) (λw' h'=>⟨by rw[hz];rfl,h'.below⟩)
 have hc0:QY co=0:=by have hq:=h2;omega
 obtain⟨j,rfl,hj⟩:=Qcp hc0
 refine aU8 ?_
 refine oCq rfl (λw1 h1=>c154 w1 _ _) (aU7 ?_)
 refine sCd rfl (λh3=>?_) λh3=>?_
 ·have hz:=QvT (t:=(⟨(j:Int),mo,rm,pln L⟩:Tre)) hc0 h3
  refine aU6 ?_
  exact Qj (rs:=[.tmp 2,.tmp 3]) rfl (.tmp rfl (.tmp rfl (.nil))) (λw' h'=>⟨by rw[hz];rfl,h'.below⟩)
 have hc1:Zs mo rm=0:=by have hq:=h3;omega
 have hsz2:(3<=mo/\mo<=8)/\(mo/2<=rm/\rm<=mo):=Qbz hc1
 have hTL:((⟨(j:Int),mo,rm,pln L⟩:Tre)).ns.length=L.length:=Qd L
 refine aU9 ?_
 refine sCd rfl (λh4=>?_) λh4=>?_
 ·have hz:=Quz (t:=(⟨(j:Int),mo,rm,pln L⟩:Tre)) hc0 hc1 (by rw[hTL];have hq:=h4;omega)
  refine aU5 ?_
  exact Qj (rs:=[.tmp 2,.tmp 3]) rfl (.tmp rfl (.tmp rfl (.nil))) (λw' h'=>⟨by rw[hz];rfl,h'.below⟩)
 have h00:0<L.length:=by have hq:=h4;omega
 refine aU9 ?_
 refine sCd rfl (λh5=>?_) λh5=>?_
 ·have hz:=Qwm (t:=(⟨(j:Int),mo,rm,pln L⟩:Tre)) hc0 hc1 (by rw[hTL];exact h00) (by rw[hTL];have hq:=h5;omega)
  refine aU5 ?_
  exact Qj (rs:=[.tmp 2,.tmp 3]) rfl (.tmp rfl (.tmp rfl (.nil))) (λw' h'=>⟨by rw[hz];rfl,h'.below⟩)
 have h120:L.length<=120:=by have hq:=h5;omega
 have hz:=QuC (t:=(⟨(j:Int),mo,rm,pln L⟩:Tre)) hc0 hc1 (by rw[hTL];exact h00) (by rw[hTL];exact h120)
 rw[hTL]at hz
 refine aU6 ?_
 refine o_h (QdI (n:=L.length) rfl rfl rfl Yl Qrr om om) rfl (λb6 _=>Y5 (λw h=>(show HS _ _ [.blk b6 4 L.length (Q6 L.length []),.blk b1 24 4 [.int .i64 (j:Int),.int .i64 mo,.int .i64 rm,.slice a L.length cap]] w from by have h9:=h;rw[Nat.mul_one,Qj6]at h9;exact h9.ent aEt)) (aU4 ?_))
 refine Qe (L':=[(1,_),(2,_),(3,_),(6,_)]) aSx (λ_ h=>h) ?_
 refine aU4 ?_
 refine Qo (α:=Nat×List Int) [2,3,7,8,39,40,41,42,43,44,45,46,47,48,49,50,51,52,53] (λx=>[(7,.int .i64 (x.1:Int))]) (λx=>HS w [] [.blk b6 4 L.length (Q6 L.length x.2),.blk b1 24 4 [.int .i64 (j:Int),.int .i64 mo,.int .i64 rm,.slice a L.length cap]]) (λx=>x.1<=L.length/\(XX (⟨(j:Int),mo,rm,pln L⟩:Tre) L.length 0 [])=XX (⟨(j:Int),mo,rm,pln L⟩:Tre) (L.length-x.1) x.1 x.2) (λx=>L.length-x.1) (0,[]) ⟨Nat.zero_le _,rfl⟩ aSx (λw h=>h.ent aEt) (λ⟨k,S9⟩hx=>?_)
 dsimp only
 obtain⟨hk1,hk3⟩:=hx
 simp only[]at hk1 hk3
 refine aU9 ?_
 refine sCd rfl (λh7=>?_) λh7=>?_
 ·have hkl9:k<L.length:=by omega
  have hst:=QgG (t:=(⟨(j:Int),mo,rm,pln L⟩:Tre)) (k:=k) (seen:=S9) (by rw[hTL];exact hkl9)
  rw[hTL]at hst
  refine aU8 ?_
  refine o_h (Xy (Cs:=[.blk b6 4 L.length (Q6 L.length S9)]) rfl QuF rfl aPs (λw1 h1 hf=>c155 w1 j mo rm a cap L k b6 L.length L.length S9 hf ((hs.keep h1).mono (Q2 aPs)) hj hkl9 om (hes9 _ hkl9) (hcs9 _ hkl9) (hkl _ hkl9))) rfl (λ_ _=>aU7 ?_)
  refine sCd rfl (λh8=>?_) λh8=>?_
  ·have hz3:(XX (⟨(j:Int),mo,rm,pln L⟩:Tre) L.length 0 [])=((k:Int),(XO (⟨(j:Int),mo,rm,pln L⟩:Tre) k S9).1):=by rw[hk3,hst,if_neg h8]
   rw[hz3,if_neg (show¬(((k:Int),(XO (⟨(j:Int),mo,rm,pln L⟩:Tre) k S9).1):Int×Int).2=0 from h8)]at hz
   refine aU7 ?_
   exact Qj (rs:=[.tmp 2,.tmp 3]) rfl (.tmp rfl (.tmp rfl (.nil))) (λw' h'=>⟨by rw[hz];rfl,h'.below⟩)
  have hz3:XX (⟨(j:Int),mo,rm,pln L⟩:Tre) (L.length-k) k S9=XX (⟨(j:Int),mo,rm,pln L⟩:Tre) (L.length-(k+1)) (k+1) (XO (⟨(j:Int),mo,rm,pln L⟩:Tre) k S9).2:=by rw[hst,if_pos (by have hq:=h8;omega)]
  refine aT5 ?_
  refine aU2 ?_
  exact sBk (k+1,(XO (⟨(j:Int),mo,rm,pln L⟩:Tre) k S9).2) (by(try simp only[]);omega) ⟨by(try simp only[]);omega,by simp only[];rw[hk3,hz3]⟩
 have hnd:(XX (⟨(j:Int),mo,rm,pln L⟩:Tre) L.length 0 [])=(0,0):=by rw[hk3,show L.length-k=0 by omega];rfl
 rw[hnd,if_pos rfl]at hz
 have hT:TOk (j:Int) (pln L):=QbF (t:=(⟨(j:Int),mo,rm,pln L⟩:Tre)) (by show(XX (⟨(j:Int),mo,rm,pln L⟩:Tre) (pln L).length 0 []).2=0;rw[Qd,hnd])
 have hvis:vis (pln L) L.length QaE=Yx (pln L):=by unfold Yx;rw[Qd]
 refine Qg rfl ?_
 refine aU5 ?_
 refine o_h (QdI (n:=L.length) rfl rfl rfl Yl Qrr om om) rfl (λb9 _=>Y5 (λw h=>(show HS _ _ [.blk b9 4 L.length (Q6 L.length []),.blk b1 24 4 [.int .i64 (j:Int),.int .i64 mo,.int .i64 rm,.slice a L.length cap]] w from by have h9:=h;rw[Nat.mul_one,Qj6]at h9;exact h9.ent aEt)) (aU6 ?_))
 refine o_h (Xy (Cs:=[.blk b9 4 L.length (Q6 L.length [])]) rfl QqP rfl aPs (λw1 h1 hf=>c156 j mo rm a cap L b9 L.length L.length L.length w1 [] QaE [] hf ((hs.keep h1).mono (Q2 aPs)) hT hB h00 rfl (by simp))) rfl (λ_ _=>aU7 ?_)
 refine Qe (L':=[(1,_),(6,_),(7,_),(9,_),(10,_)]) aSx (λ_ h=>h) ?_
 refine Qo (α:=Nat) [2,3,10,61,62,63,64,65,66,67,68,69,70,71,72,73,74,75,76,77,78,79,80,81] (λk=>[(10,.int .i64 (k:Int))]) (λ_=>HS w [] [.blk b9 4 L.length (Q6 L.length (mkS (vis (pln L) L.length QaE) [])),.blk b1 24 4 [.int .i64 (j:Int),.int .i64 mo,.int .i64 rm,.slice a L.length cap]]) (λk=>k<=L.length/\QaG (pln L) ((Yx (pln L)).map Vis.i) L.length 0=QaG (pln L) ((Yx (pln L)).map Vis.i) (L.length-k) k) (λk=>L.length-k) 0 ⟨Nat.zero_le _,rfl⟩ aSx (λw h=>h.ent aEt) (λk hx=>?_)
 obtain⟨hk1,hk2⟩:=hx
 refine aU9 ?_
 refine sCd rfl (λh10=>?_) λh10=>?_
 ·have hkl9:k<L.length:=by omega
  have hst:=QhO (ns:=pln L) (below:=((Yx (pln L)).map Vis.i)) (k:=k) (by rw[Qd];exact hkl9)
  rw[Qd,QJ hkl9]at hst
  refine aU8 ?_
  refine o_p (Qa rfl rfl rfl Xl (k) om om (Rw.some hs.1 om)) rfl (aU ?_)
  refine o_q (Qb rfl rfl Qb5 ((hs.1.rdj 0 hkl9 rfl))) rfl (aU ?_)
  refine Xs 6 74 80 rfl
   (λhg11 _=>by
    refine aU5 ?_
    refine o_p (Qa rfl rfl rfl Yl (k) om om rfl) rfl (Qs (show _=Value.pointer (some ⟨b9,k,none⟩)from by rw[Nat.zero_add,Nat.mul_one]) (aU ?_))
    refine o_q (Xi rfl rfl Qb5 (λw h=>h.rd_blk (Mc:=[]) aPk (Qbs hkl9) (by simp))) rfl (aU2 ?_)
    exact oJt 6 80)
   (λhg13 _=>by
    refine aU5 ?_
    exact oJf 6 80) ?_
  refine aU ?_
  refine sCd rfl (λh15=>?_) λh15=>?_
  ·have hz7:(nth L k).pl.us=true/\k ∉ ((Yx (pln L)).map Vis.i):=by have hq:=h15;rw[<-QjX,<-hvis];simp only[LNd.pl];simpa using hq
   have hz8:=hz.trans (Qdx (t:=(⟨(j:Int),mo,rm,pln L⟩:Tre)) (i:=k) (show QaG (pln L) _ (pln L).length 0=some k from by rw[Qd,hk2,hst,if_pos hz7]))
   refine aU6 ?_
   exact Qj (rs:=[.tmp 2,.tmp 3]) rfl (.tmp rfl (.tmp rfl (.nil))) (λw' h'=>⟨by rw[hz8];rfl,h'.below⟩)
  have hz7:¬((nth L k).pl.us=true/\k ∉ ((Yx (pln L)).map Vis.i)):=by have hq:=h15;rw[<-QjX,<-hvis];simp only[LNd.pl];intro h9;exact hq.elim (λh8=>by rw[h8]at h9;cases h9.1) (λh8=>h9.2 h8)
  refine aT5 ?_
  refine aU2 ?_
  exact sBk (k+1) om ⟨om,by rw[hk2,hst,if_neg hz7]⟩
 have hnone:QaG (pln L) ((Yx (pln L)).map Vis.i) L.length 0=none:=by rw[hk2,show L.length-k=0 by omega];rfl
 have hz8:=hz.trans (QdR (t:=(⟨(j:Int),mo,rm,pln L⟩:Tre)) (show QaG (pln L) _ (pln L).length 0=none from by rw[Qd];exact hnone))
 refine Qg rfl ?_
 refine Qbg ?_
 refine Qo (α:=Nat×Nat×List Nat) [11,12,82,83,84,85,86,87,88,89,90,91,92,93,94,95,96,97,98,99] (λy=>[(11,.int .i64 (y.1:Int)),(12,.int .i64 (y.2.1:Int))]) (λ_=>HS w [] [.blk b1 24 4 [.int .i64 (j:Int),.int .i64 mo,.int .i64 rm,.slice a L.length cap]]) (λy=>Gx.Way (pln L) (y.2.1::y.2.2)/\y.2.2.length=y.1/\YX (pln L) L.length 0=(y.1:Int)+YX (pln L) (L.length-y.1) y.2.1) (λy=>L.length-y.1) (0,0,[]) ⟨rfl,rfl,by simp⟩ aSx (λw h=>h.ent aEt) (λ⟨d,i,P⟩hx=>?_)
 dsimp only
 obtain⟨hway,hpl,hdp⟩:=hx
 simp only[]at hway hpl hdp
 have hil0:=Qa3 hT (by rw[Qd];exact h00) hway i (List.mem_cons_self ..)
 have hil:i<L.length:=by rw[Qd]at hil0;exact hil0
 have hnI:=QJ hil
 have hwl:=Yi hT (by rw[Qd];exact h00) hway
 rw[Qd,List.length_cons]at hwl
 have hcl:=hcs9 i hil
 refine aU6 ?_
 refine o_p (Qa rfl rfl rfl Xl (i) om om (Rw.some hs.1 om)) rfl (aU ?_)
 refine o_q (Qb rfl rfl ZU ((hs.1.rdj 2 hil rfl))) rfl (aU3 ?_)
 refine sCd rfl (λh16=>?_) λh16=>?_
 ·have hcl0:0<(nth L i).cs.length:=by have hq:=h16;omega
  have hkid:=Qdv hT (by rw[Qd];exact hil) (i:=i) (k:=0) (by rw[hnI];exact hcl0)
  rw[hnI,Qd]at hkid
  simp only[LNd.pl]at hkid
  have hway2:=QbJ hway (by rw[Qd];exact hil) (k:=0) (by rw[hnI];exact hcl0) (by rw[hnI];simp only[LNd.pl];omega)
  rw[hnI]at hway2
  have hwl2:=Yi hT (by rw[Qd];exact h00) hway2
  rw[Qd,List.length_cons,List.length_cons]at hwl2
  have hdm:=Qoo (ns:=pln L) (f:=L.length-d) (i:=i) om (by rw[hnI];show¬(nth L i).cs.length=0;omega)
  rw[hnI]at hdm
  refine aU7 ?_
  refine o_p (Qa rfl rfl rfl Xl (i) om om (Rw.some hs.1 om)) rfl (aU ?_)
  refine o_q (Qb rfl rfl ZU ((hs.1.rdj 2 hil rfl))) rfl (o_p (Qa rfl rfl rfl QT (0) om om (Rw.some (hs.cs hil) om)) rfl (o_q (Qb rfl rfl Y2 (((hs.cs hil).rdj 0 (i:=0) om rfl))) rfl (Qs (show _=Value.int .i64 (((nth L i).cs.getD 0 0).toNat:Int)from congrArg (Value.int .i64) (Int.toNat_of_nonneg (show 0<=(nth L i).cs.getD 0 0 by omega)).symm) (aT6 ?_))))
  refine aU2 ?_
  exact sBk (d+1,((nth L i).cs.getD 0 0).toNat,i::P) (by(try simp only[]);omega) ⟨hway2,by simp[hpl],by simp only[]at *;rw[show L.length-(d+1)=L.length-d-1 by omega];have h9:(nth L i).pl.cs=(nth L i).cs:=rfl;rw[h9]at hdm;omega⟩
 have hde:=QpI (ns:=pln L) (f:=L.length-d) (i:=i) (by rw[hnI];show(nth L i).cs.length=0;have hq:=h16;omega)
 rw[hde,Int.add_zero]at hdp
 have hdl:=Qjs (pln L) L.length 0
 refine Qg rfl ?_
 refine aU4 ?_
 refine oCq rfl (λw1 h1=>c157 j mo rm a cap L (d:Int) L.length w1 QaE [] (d:Int) none none 0 0 0 0 (hs.later h1) hj om hT hB h00 rfl rfl (by show(d:Int)=d+1-1;omega) (λ_ h=>by cases h) (λ_ h=>by cases h) rfl rfl (by simp)) (aU5 ?_)
 exact Qj (rs:=[.tmp 2,.tmp 3]) rfl (.tmp rfl (.tmp rfl (.nil))) (λw' h'=>⟨by rw[hz8,show YX ((⟨(j:Int),mo,rm,pln L⟩:Tre)).ns ((⟨(j:Int),mo,rm,pln L⟩:Tre)).ns.length 0=(d:Int)from by rw[hTL];exact hdp,show Yx ((⟨(j:Int),mo,rm,pln L⟩:Tre)).ns=vis (pln L) L.length QaE from hvis.symm];rfl,h'.below⟩)
end Go.Proofs
namespace Gx
open Go Go.RowKit
theorem Qnk{i:Nat}{P:List Nat}(h:0<P.length):YM (i::P)=YM P:=by
 cases P with
 | nil=>exact absurd h (Nat.lt_irrefl _)
 | cons p P=>
  unfold YM;rw[show(i::p::P).length-1=(p::P).length-1+1 by simp];rfl
theorem Qmm{co:Int}{ns:List Nd}(hT:TOk co ns)(h0:0<ns.length)(key:List UInt8):∀(f i:Nat)(P:List Nat),Way ns (i::P)->P.length+f=ns.length->0<(QaC co ns key f i).1.length/\(QaC co ns key f i).1.length<=f/\YM (QaC co ns key f i).1<ns.length/\(QaC co ns key f i).2.1=plc co (nth ns (YM (QaC co ns key f i).1)).es key/\(QaC co ns key f i).2.2=fnd co (nth ns (YM (QaC co ns key f i).1)).es key
 | 0,i,P,hw,hf=>by
  have:=Yi hT h0 hw;rw[List.length_cons]at this;omega
 | f+1,i,P,hw,hf=>by
  by_cases h:fnd co (nth ns i).es key=true\/(nth ns i).cs.length=0
  ·rw[QaC,if_pos h];exact⟨Nat.one_pos,Nat.le_add_left 1 f,Qa3 hT h0 hw i (List.mem_cons_self ..),rfl,rfl⟩
  ·rw[QaC,if_neg h];have hi:=Qa3 hT h0 hw i (List.mem_cons_self ..)
   have hc:(nth ns i).cs.length=(nth ns i).es.length+1:=by
    rcases hT.shape i hi with h9|h9
    ·exact absurd (.inr h9) h
    ·exact h9
   have hk:plc co (nth ns i).es key<(nth ns i).cs.length:=by
    have:=QeW co key (nth ns i).es;omega
   have hkid:=Qdv hT hi hk;have ih:=Qmm hT h0 key f ((nth ns i).cs.getD (plc co (nth ns i).es key) 0).toNat (i::P) (QbJ hw hi hk om) (by rw[List.length_cons];omega);simp only[];rw[Qnk ih.1];exact⟨by rw[List.length_cons];omega,by rw[List.length_cons];omega,ih.2.2⟩
theorem QrN{co:Int}{ns:List Nd}(hT:TOk co ns)(h0:0<ns.length)(key:List UInt8):0<(Q5 co ns key).1.length/\(Q5 co ns key).1.length<=ns.length/\YM (Q5 co ns key).1<ns.length/\(Q5 co ns key).2.1=plc co (nth ns (YM (Q5 co ns key).1)).es key/\(Q5 co ns key).2.2=fnd co (nth ns (YM (Q5 co ns key).1)).es key:=Qmm hT h0 key ns.length 0 [] rfl (by simp)
theorem Qpu{co:Int}{es:List TEnt}{key:List UInt8}(h:fnd co es key=true):plc co es key<es.length:=by
 rw[fnd,Bool.and_eq_true,decide_eq_true_eq]at h;exact h.1
def ZR(co:Int)(ns:List Nd)(key:List UInt8):TEnt:=nth (nth ns (YM (Q5 co ns key).1)).es (Q5 co ns key).2.1
end Gx
namespace Go.Proofs
open Go Go.RowKit Gx
attribute [local irreducible] Go.Calls Gx.S Gx.O Gx.D Gx.OpP Gx.OpQ Gx.OpH
set_option maxRecDepth 20000
instance:TFn Tryz.prog 126:=⟨by kernel_rfl⟩
theorem c88e(w:World)(co mo rm:Int)(a:Option Addr)(cap:Nat)(L:List LNd)(key:List UInt8)(hs:Nt w [] a L)(hB:Bd (pln L))(hkl:∀i,i<L.length->∀x∈(nth L i).es,x.key.length<=1000000)(he:¬(XD (⟨co,mo,rm,pln L⟩:Tre)).2=0):CR 88 #[.agg #[.int .i64 co,.int .i64 mo,.int .i64 rm,.slice a L.length cap],.string (bs key)] w (.tuple #[.agg #[.string (bs []),.string (bs [])],.int .i64 (XD (⟨co,mo,rm,pln L⟩:Tre)).2]):=by
 refine eN2 Tryz.func88 Tryz.ntmps88 ?_
 refine aU2 ?_
 refine oBx λb1 _=>?_
 refine oAl (λb2 _=>?_) YD
 refine aU6 ?_
 refine oCq rfl (λw1 h1=>QwH w1 co mo rm a cap L key (hs.later h1.nil) hB hkl he) (Qaa ?_)
 refine sCd rfl (λh3=>?_) λh3=>?_
 ·refine aU2 ?_
  refine o_p (QU (cs:=[_,_]) rfl rfl QmV YD rfl) rfl (aU4 ?_)
  exact Qj (rs:=[.cell 4 84,.tmp 5]) rfl (.cell rfl ZT aPk rfl (.tmp rfl (.nil))) (λw' h'=>⟨rfl,h'.below⟩)
 exfalso;first|omega|(simp at h3;done)|(simp_all;done)
theorem c88x(w:World)(j:Nat)(mo rm:Int)(a:Option Addr)(cap:Nat)(L:List LNd)(key:List UInt8)(hs:Nt w [] a L)(hB:Bd (pln L))(hkl:∀i,i<L.length->∀x∈(nth L i).es,x.key.length<=1000000)(hkk:key.length<=1000000)(h0:(XD (⟨(j:Int),mo,rm,pln L⟩:Tre)).2=0)(hx:¬Zl (j:Int) key=0):CR 88 #[.agg #[.int .i64 (j:Int),.int .i64 mo,.int .i64 rm,.slice a L.length cap],.string (bs key)] w (.tuple #[.agg #[.string (bs []),.string (bs [])],.int .i64 (Zl (j:Int) key)]):=by
 obtain⟨hc0,hz0,hl0,hl120,hn0,_,_⟩:=QdM h0
 rw[show((⟨(j:Int),mo,rm,pln L⟩:Tre)).ns=pln L from rfl,Qd]at hl0 hl120
 have hj:j<=3:=by obtain⟨j9,e9,hj9⟩:=Qcp hc0;have e8:((j:Nat):Int)=(j9:Int):=e9;omega
 have hT:TOk (j:Int) (pln L):=QbF (t:=(⟨(j:Int),mo,rm,pln L⟩:Tre)) hn0
 have hmo:=(Qbz hz0).1
 simp only[]at hmo
 refine eN2 Tryz.func88 Tryz.ntmps88 ?_
 refine aU2 ?_
 refine oBx λb1 _=>?_
 refine oAl (λb2 _=>?_) YD
 refine aU6 ?_
 refine oCh rfl (λw1 h1=>Qp1 w1 j mo rm a cap L key (hs.later h1.nil) hB hkl hkk h0) (λ⟨b9,⟨gn9,c9⟩,L9⟩hF9=>?_)
 dsimp only
 obtain⟨hL9,hn9,hm9⟩:=hF9
 simp only[]at hL9 hn9 hm9
 have hl9:L9.length=L.length:=by rw[<-Qd L9,hL9,Qd]
 have hB9:Bd (pln L9):=by rw[hL9];exact hB
 have hT9:TOk (j:Int) (pln L9):=by rw[hL9];exact hT
 have hK9:∀i,i<L9.length->∀y∈(nth L9 i).es,QP (j:Int) y.key=true/\y.key.length<=1000000:=λi hi y hy=>QfH hT9 i (by rw[Qd];exact hi) y (by rw[QJ hi];exact hy)
 refine Qaa ?_
 refine sCd rfl (λh3=>?_) λh3=>?_
 ·refine aU2 ?_
  refine o_p (QU (cs:=[_,_]) rfl rfl QmV YD rfl) rfl (aU4 ?_)
  exact Qj (rs:=[.cell 4 84,.tmp 5]) rfl (.cell rfl ZT aPk rfl (.tmp rfl (.nil))) (λw' h'=>⟨rfl,h'.below⟩)
 exfalso;first|omega|(simp at h3;done)|(simp_all;done)
theorem c88m(w:World)(j:Nat)(mo rm:Int)(a:Option Addr)(cap:Nat)(L:List LNd)(key:List UInt8)(hs:Nt w [] a L)(hB:Bd (pln L))(hkl:∀i,i<L.length->∀x∈(nth L i).es,x.key.length<=1000000)(h0:(XD (⟨(j:Int),mo,rm,pln L⟩:Tre)).2=0)(hkk:key.length<=1000000)(hx0:Zl (j:Int) key=0)(hx:¬(Q5 (j:Int) (pln L) key).2.2=true):CR 88 #[.agg #[.int .i64 (j:Int),.int .i64 mo,.int .i64 rm,.slice a L.length cap],.string (bs key)] w (.tuple #[.agg #[.string (bs []),.string (bs [])],.int .i64 6]):=by
 obtain⟨hc0,hz0,hl0,hl120,hn0,_,_⟩:=QdM h0
 rw[show((⟨(j:Int),mo,rm,pln L⟩:Tre)).ns=pln L from rfl,Qd]at hl0 hl120
 have hj:j<=3:=by obtain⟨j9,e9,hj9⟩:=Qcp hc0;have e8:((j:Nat):Int)=(j9:Int):=e9;omega
 have hT:TOk (j:Int) (pln L):=QbF (t:=(⟨(j:Int),mo,rm,pln L⟩:Tre)) hn0
 have hmo:=(Qbz hz0).1
 simp only[]at hmo
 have hkey:QP (j:Int) key=true:=keyE_ok hx0
 refine eN2 Tryz.func88 Tryz.ntmps88 ?_
 refine aU2 ?_
 refine oBx λb1 _=>?_
 refine oAl (λb2 _=>?_) YD
 refine aU6 ?_
 refine oCh rfl (λw1 h1=>Qp1 w1 j mo rm a cap L key (hs.later h1.nil) hB hkl hkk h0) (λ⟨b9,⟨gn9,c9⟩,L9⟩hF9=>?_)
 dsimp only
 obtain⟨hL9,hn9,hm9⟩:=hF9
 simp only[]at hL9 hn9 hm9
 have hl9:L9.length=L.length:=by rw[<-Qd L9,hL9,Qd]
 have hB9:Bd (pln L9):=by rw[hL9];exact hB
 have hT9:TOk (j:Int) (pln L9):=by rw[hL9];exact hT
 have hK9:∀i,i<L9.length->∀y∈(nth L9 i).es,QP (j:Int) y.key=true/\y.key.length<=1000000:=λi hi y hy=>QfH hT9 i (by rw[Qd];exact hi) y (by rw[QJ hi];exact hy)
 refine Qaa ?_
 refine sCd rfl (λh3=>?_) λh3=>?_
 ·exfalso;first|omega|(simp at h3;done)|(simp_all;done)
 refine aU5 ?_
 refine oCh rfl (λw1 h1=>c127 w1 b9 j mo rm (some ⟨gn9,0,none⟩) c9 L9 key hj om hB9 hT9 hK9 hkey hkk (HS.nt_at h1 aPk aPk) (HS.tbr h1 aPk)) (λ⟨pa,pc⟩_=>?_)
 dsimp only
 rw[hL9]
 refine Qhm ?_
 refine sCd rfl (λh4=>?_) λh4=>?_
 ·refine aU2 ?_
  refine o_p (QU (cs:=[_,_]) rfl rfl QmV YD rfl) rfl (aU3 ?_)
  exact Qj (rs:=[.cell 4 84,.tmp 5]) rfl (.cell rfl ZT aPk rfl (.tmp rfl (.nil))) (λw' h'=>⟨rfl,h'.below⟩)
 exfalso;first|omega|(simp at h4;done)|(simp_all;done)
theorem c88o(w:World)(j:Nat)(mo rm:Int)(a:Option Addr)(cap:Nat)(L:List LNd)(key:List UInt8)(hs:Nt w [] a L)(hB:Bd (pln L))(hkl:∀i,i<L.length->∀x∈(nth L i).es,x.key.length<=1000000)(h0:(XD (⟨(j:Int),mo,rm,pln L⟩:Tre)).2=0)(hkk:key.length<=1000000)(hx0:Zl (j:Int) key=0)(hx:(Q5 (j:Int) (pln L) key).2.2=true):CR 88 #[.agg #[.int .i64 (j:Int),.int .i64 mo,.int .i64 rm,.slice a L.length cap],.string (bs key)] w (.tuple #[.agg #[.string (bs (ZR (j:Int) (pln L) key).key),.string (bs (ZR (j:Int) (pln L) key).val)],.int .i64 0]):=by
 obtain⟨hc0,hz0,hl0,hl120,hn0,_,_⟩:=QdM h0
 rw[show((⟨(j:Int),mo,rm,pln L⟩:Tre)).ns=pln L from rfl,Qd]at hl0 hl120
 have hj:j<=3:=by obtain⟨j9,e9,hj9⟩:=Qcp hc0;have e8:((j:Nat):Int)=(j9:Int):=e9;omega
 have hT:TOk (j:Int) (pln L):=QbF (t:=(⟨(j:Int),mo,rm,pln L⟩:Tre)) hn0
 have hmo:=(Qbz hz0).1
 simp only[]at hmo
 have hkey:QP (j:Int) key=true:=keyE_ok hx0
 have hend:=QrN hT (by rw[Qd];exact hl0) key
 obtain⟨hp1,hp2,hp3,hp4,hp5⟩:=hend
 rw[Qd]at hp2 hp3
 refine eN2 Tryz.func88 Tryz.ntmps88 ?_
 refine aU2 ?_
 refine oBx λb1 _=>?_
 refine oAl (λb2 _=>?_) YD
 refine aU6 ?_
 refine oCh rfl (λw1 h1=>Qp1 w1 j mo rm a cap L key (hs.later h1.nil) hB hkl hkk h0) (λ⟨b9,⟨gn9,c9⟩,L9⟩hF9=>?_)
 dsimp only
 obtain⟨hL9,hn9,hm9⟩:=hF9
 simp only[]at hL9 hn9 hm9
 have hl9:L9.length=L.length:=by rw[<-Qd L9,hL9,Qd]
 have hB9:Bd (pln L9):=by rw[hL9];exact hB
 have hT9:TOk (j:Int) (pln L9):=by rw[hL9];exact hT
 have hK9:∀i,i<L9.length->∀y∈(nth L9 i).es,QP (j:Int) y.key=true/\y.key.length<=1000000:=λi hi y hy=>QfH hT9 i (by rw[Qd];exact hi) y (by rw[QJ hi];exact hy)
 refine Qaa ?_
 refine sCd rfl (λh3=>?_) λh3=>?_
 ·exfalso;first|omega|(simp at h3;done)|(simp_all;done)
 refine aU5 ?_
 refine oCh rfl (λw1 h1=>c127 w1 b9 j mo rm (some ⟨gn9,0,none⟩) c9 L9 key hj om hB9 hT9 hK9 hkey hkk (HS.nt_at h1 aPk aPk) (HS.tbr h1 aPk)) (λ⟨pa,pc⟩_=>?_)
 dsimp only
 rw[hL9]
 refine Qhm ?_
 refine sCd rfl (λh4=>?_) λh4=>?_
 ·exfalso;first|omega|(simp at h4;done)|(simp_all;done)
 have hlf:(YM (Q5 (j:Int) (pln L) key).1)<L9.length:=om
 have hn9f:nth (pln L) (YM (Q5 (j:Int) (pln L) key).1)=(nth L9 (YM (Q5 (j:Int) (pln L) key).1)).pl:=by have h9:=QJ hlf;rw[hL9]at h9;exact h9
 have hat:=Qpu (hp5▸hx)
 rw[<-hp4,hn9f]at hat
 simp only[LNd.pl]at hat
 have hpn:(Q5 (j:Int) (pln L) key).1.length-1<(Q5 (j:Int) (pln L) key).1.length:=om
 have hXN:(ZR (j:Int) (pln L) key)=nth (nth L9 (YM (Q5 (j:Int) (pln L) key).1)).es (Q5 (j:Int) (pln L) key).2.1:=by rw[ZR,hn9f];rfl
 refine Qcb (λw h=>HS.kids_some (by rw[Qo1];omega) h aPk) λhpa=>?_
 obtain⟨gp,hpa⟩:=hpa
 refine Qcb (λw h=>HS.es_some (i:=(YM (Q5 (j:Int) (pln L) key).1)) hlf om h aPk) λhge=>?_
 obtain⟨ge,hge⟩:=hge
 refine aU2 ?_
 refine QG [17] mixed ?_
 refine dP 0 ?_
 refine dP 1 ?_
 refine dFa 2 ?_
 refine dFa 3 ?_
 refine dLd 4 [[]] ?_
 refine dP 5 ?_
 refine dP 6 ?_
 refine dV 7 rfl (QR rfl rfl Tryz.underlying125) (dP 8 ?_)
 try refine dWr ?_
 refine dV 9 rfl (Qa rfl rfl rfl QT ((Q5 (j:Int) (pln L) key).1.length-1) om om hpa) (dQ 10 [[]] rfl (Xi rfl rfl Y2 (λw h=>HS.path_rd hpn hpa h aPk)) (QK (show _=Value.int .i64 (((YM (Q5 (j:Int) (pln L) key).1):Nat):Int)from rfl) (dV 11 rfl (Qa rfl rfl rfl Xl ((YM (Q5 (j:Int) (pln L) key).1)) om om rfl) (QK (show _=Value.pointer (some ⟨gn9,(YM (Q5 (j:Int) (pln L) key).1)*3,none⟩)from by rw[Nat.zero_add]) (dFa 12 ?_)))))
 refine dQ 13 [[]] rfl (Xi rfl rfl Zx (λw h=>HS.nd_cell hlf h aPk 1 rfl (by decide))) (dP 14 ?_)
 refine dV 15 rfl (Qa rfl rfl rfl QD ((Q5 (j:Int) (pln L) key).2.1) om om hge) (dQ 16 [[]] rfl (Xz _ rfl rfl ZT (by rfl) (λw h=>HS.es_rd (i:=(YM (Q5 (j:Int) (pln L) key).1)) hlf hat hge h aPk)) (dSt 17 ?_ (hl:=(by simp only[Qi,List.length_set,List.length_cons,List.length_nil,List.length_map];omega))))
 refine dTu [] ?_
 refine dP 18 ?_
 refine dNi ?_
 exact Qj (rs:=[.cell 4 84,.tmp 5]) rfl (.cell rfl ZT aPk rfl (.tmp rfl (.nil))) (λw' h'=>⟨by rw[hXN];rfl,h'.below⟩)
end Go.Proofs
namespace Gx
open Go Go.RowKit
theorem QjJ{ns:List Nd}{below:List Nat}:∀{f i:Nat},QaG ns below f i=none->∀j,i<=j->j<i+f->(nth ns j).us=true->j∈below
 | 0,i,_,j,h1,h2,_=>by omega
 | f+1,i,h,j,h1,h2,hu=>by
  rw[QaG]at h;split at h
  ·cases h
  ·rename_i hn;rcases Nat.eq_or_lt_of_le h1 with e|e
   ·grind
   ·exact QjJ h j e om hu
theorem QmD{t:Tre}{deep:Int}:∀{vs:List Vis},(X6 t deep vs).2=0->∀v∈vs,Qdh t deep v=0
 | [],_,v,hv=>by cases hv
 | u::vs,h,v,hv=>by
  rw[X6]at h;split at h
  ·rename_i h1;rcases List.mem_cons.1 hv with e|e
   ·rw[e];exact h1
   ·exact QmD h v e
  grind
end Gx
namespace Gx
open Go Go.RowKit
inductive BT where
 | nd (i:Nat) (es:List TEnt) (ks:List BT)
namespace BT
def idx:BT->Nat|nd i _ _=>i
def es:BT->List TEnt|nd _ es _=>es
def ks:BT->List BT|nd _ _ ks=>ks
end BT
instance:Inhabited BT:=⟨.nd 0 [] []⟩
def ZI(ks:List BT):List Int:=ks.map λk=>(k.idx:Int)
theorem QkV(a b:List BT):ZI (a++b)=ZI a++ZI b:=by simp[ZI]
theorem Qe6(a:BT)(b:List BT):ZI (a::b)=(a.idx:Int)::ZI b:=rfl
theorem QeB(a:List BT):(ZI a).length=a.length:=by simp[ZI]
mutual
def BT.nodes:BT->List (Nat×Nd)
 | .nd i es ks=>(i,⟨true,es,ZI ks⟩)::nodesL ks
def nodesL:List BT->List (Nat×Nd)
 | []=>[]
 | k::ks=>k.nodes++nodesL ks
end
mutual
def BT.flat:BT->List TEnt
 | .nd _ es ks=>flatL es ks
def flatL:List TEnt->List BT->List TEnt
 | es,[]=>es
 | [],k::ks=>k.flat++flatL [] ks
 | e::es,k::ks=>k.flat++e::flatL es ks
end
theorem Qld(a b:List BT):nodesL (a++b)=nodesL a++nodesL b:=by
 induction a with
 | nil=>rfl
 | cons x a ih=>rw[List.cons_append,nodesL,nodesL,ih,List.append_assoc]
structure RepN(ns:List Nd)(N:List (Nat×Nd)):Prop where
 get:∀p∈N,ns[p.1]?=some p.2
 nd:(N.map Prod.fst).Nodup
 rest:∀i,i<ns.length->i ∉ N.map Prod.fst->nth ns i=⟨false,[],[]⟩
section
variable{ns:List Nd}{N N':List (Nat×Nd)}{i:Nat}{x y:Nd}
theorem RepN.perm(h:RepN ns N)(hp:N.Perm N'):RepN ns N':=
 ⟨λp hp'=>h.get p (hp.mem_iff.2 hp'),(hp.map _).nodup_iff.1 h.nd,λi hi hn=>h.rest i hi λhm=>hn ((hp.map _).mem_iff.1 hm)⟩
theorem RepN.lt(h:RepN ns N){p:Nat×Nd}(hp:p∈N):p.1<ns.length:=(List.getElem?_eq_some_iff.1 (h.get p hp)).1
theorem RepN.at_(h:RepN ns N)(hp:(i,x)∈N):i<ns.length/\nth ns i=x:=⟨h.lt hp,XR (h.get _ hp)⟩
end
structure Fr where
 i:Nat
 es:List TEnt
 l:List BT
 r:List BT
instance:Inhabited Fr:=⟨⟨0,[],[],[]⟩⟩
def Fr.fill(f:Fr)(T:BT):BT:=.nd f.i f.es (f.l++T::f.r)
def plug:List Fr->BT->BT
 | [],T=>T
 | f::C,T=>plug C (f.fill T)
def Fr.nodes(f:Fr)(h:Nat):List (Nat×Nd):=(f.i,⟨true,f.es,ZI f.l++(h:Int)::ZI f.r⟩)::(nodesL f.l++nodesL f.r)
def Qck:List Fr->Nat->List (Nat×Nd)
 | [],_=>[]
 | f::C,h=>f.nodes h++Qck C f.i
theorem Qly(f:Fr)(T:BT):(f.fill T).nodes.Perm (f.nodes T.idx++T.nodes):=by
 unfold Fr.fill Fr.nodes;rw[BT.nodes,Qld,nodesL,QkV,Qe6,List.cons_append];refine List.Perm.cons _ ?_;rw[List.append_assoc];exact List.Perm.append_left _ List.perm_append_comm
theorem Qgm:∀(C:List Fr)(T:BT),(plug C T).nodes.Perm (Qck C T.idx++T.nodes)
 | [],T=>.refl _
 | f::C,T=>by
  refine(Qgm C (f.fill T)).trans ?_;show(Qck C f.i++(f.fill T).nodes).Perm (f.nodes T.idx++Qck C f.i++T.nodes);refine((Qly f T).append_left _).trans ?_;rw[<-List.append_assoc];exact List.perm_append_comm.append_right _
theorem Qrz(C D:List Fr)(T:BT):plug (C++D) T=plug D (plug C T):=by
 induction C generalizing T with
 | nil=>rfl
 | cons f C ih=>exact ih _
def Qab(ns:List Nd)(T:BT):Prop:=RepN ns T.nodes
theorem Qab.plug{ns:List Nd}{C:List Fr}{T:BT}(h:Qab ns (plug C T)):RepN ns (Qck C T.idx++T.nodes):=RepN.perm h (Qgm C T)
theorem Qab.at_{ns:List Nd}{C:List Fr}{T:BT}(h:Qab ns (Gx.plug C T)):T.idx<ns.length/\nth ns T.idx=⟨true,T.es,ZI T.ks⟩:=by
 cases T with
 | nd i es ks=>exact RepN.at_ h.plug (List.mem_append_right _ (by rw[BT.nodes];exact List.mem_cons_self ..))
def Bal(lo hi:Nat):Nat->BT->Prop
 | 0,T=>T.ks=[]/\lo<=T.es.length/\T.es.length<=hi
 | d+1,T=>(T.ks.length=T.es.length+1/\∀k∈T.ks,Bal lo hi d k)/\lo<=T.es.length/\T.es.length<=hi
def Bel(lo hi:Nat):Nat->BT->Prop
 | 0,T=>T.ks=[]
 | d+1,T=>T.ks.length=T.es.length+1/\∀k∈T.ks,Bal lo hi d k
theorem QfO{lo hi d:Nat}{T:BT}:Bal lo hi d T ↔ Bel lo hi d T/\lo<=T.es.length/\T.es.length<=hi:=by
 cases d<;>simp only[Bal,Bel]
def Qft(lo hi rt:Nat):Nat->List Fr->Prop
 | _,[]=>True
 | d,f::C=>((∀k∈f.l,Bal lo hi d k)/\(∀k∈f.r,Bal lo hi d k))/\f.l.length+f.r.length=f.es.length/\((C=[]->f.es.length<=rt)/\(C≠[]->lo<=f.es.length/\f.es.length<=hi))/\Qft lo hi rt (d+1) C
theorem Zu(es:List TEnt):flatL es []=es:=by cases es<;>rfl
theorem Qn2(i:Nat)(es:List TEnt):(BT.nd i es []).flat=es:=by rw[BT.flat,Zu]
def flatA:List TEnt->List BT->List TEnt
 | e::es,k::ks=>k.flat++e::flatA es ks
 | _,_=>[]
def Qky:List TEnt->List BT->List TEnt
 | e::es,k::ks=>e::(k.flat++Qky es ks)
 | _,_=>[]
theorem Qfr:∀(es:List TEnt)(T:BT)(r:List BT),r.length=es.length->flatL es (T::r)=T.flat++Qky es r
 | [],T,[],_=>by
  rw[flatL,Zu];rfl
 | [],T,k::r,h=>absurd h (by simp)
 | e::es,T,[],h=>absurd h (by simp)
 | e::es,T,k::r,h=>by
  rw[flatL,Qfr es k r (by simpa using h)];rfl
theorem QhC:∀(l:List BT)(es:List TEnt)(T:BT)(r:List BT),l.length+r.length=es.length->flatL es (l++T::r)=flatA es l++(T.flat++Qky (es.drop l.length) r)
 | [],es,T,r,h=>by
  have e:flatA es []=[]:=by cases es<;>rfl
  rw[e];exact Qfr es T r (by simpa using h)
 | k::l,[],T,r,h=>absurd h (by simp only[List.length_cons,List.length_nil];omega)
 | k::l,e::es,T,r,h=>by
  rw[List.cons_append,flatL,QhC l es T r (by simp only[List.length_cons]at h;omega),flatA,List.length_cons,List.drop_succ_cons];simp only[List.append_assoc,List.cons_append]
def QjI:List Fr->List TEnt
 | []=>[]
 | f::C=>QjI C++flatA f.es f.l
def QjZ:List Fr->List TEnt
 | []=>[]
 | f::C=>Qky (f.es.drop f.l.length) f.r++QjZ C
theorem QeL{lo hi rt:Nat}:∀{C:List Fr}{d:Nat}{T:BT},Qft lo hi rt d C->(plug C T).flat=QjI C++(T.flat++QjZ C)
 | [],d,T,_=>by
  show T.flat=[]++(T.flat++[]);simp
 | f::C,d,T,hC=>by
  show(plug C (f.fill T)).flat=_;rw[QeL (C:=C) hC.2.2.2];show QjI C++((BT.nd f.i f.es (f.l++T::f.r)).flat++QjZ C)=_;rw[BT.flat,QhC f.l f.es T f.r hC.2.1];simp only[QjI,QjZ,List.append_assoc]
theorem BT.idx_mem(T:BT):T.idx∈T.nodes.map Prod.fst:=by
 cases T with
 | nd i es ks=>
  rw[BT.nodes];exact List.mem_cons_self ..
theorem Qab.root{ns:List Nd}{T:BT}(h:Qab ns T):T.idx<ns.length/\nth ns T.idx=⟨true,T.es,ZI T.ks⟩:=Qab.at_ (C:=[]) h
def Qmr(co:Int)(key:List UInt8)(C:List Fr):Prop:=∀f∈C,f.l.length=plc co f.es key/\¬fnd co f.es key=true
theorem Qqt{α:Type}[Inhabited α](l:List α)(x:α)(r:List α):nth (l++x::r) l.length=x:=XR (by simp)
theorem Qpz{α:Type}(l:List α)(x d:α)(r:List α):(l++x::r).getD l.length d=x:=by simp
theorem BT.eta(T:BT):T=.nd T.idx T.es T.ks:=by cases T;rfl
theorem split_at{α:Type}[Inhabited α]{ks:List α}{p:Nat}(h:p<ks.length):ks=ks.take p++nth ks p::ks.drop (p+1):=by
 have e:nth ks p=ks[p]:=XR (List.getElem?_eq_getElem h);rw[e,<-List.drop_eq_getElem_cons h,List.take_append_drop]
theorem desc{co:Int}{ns:List Nd}{key:List UInt8}{lo hi rt:Nat}:∀(f d:Nat)(C:List Fr)(T:BT),Qab ns (plug C T)->Qft lo hi rt d C->Bel lo hi d T->((C=[]->T.es.length<=rt)/\(C≠[]->lo<=T.es.length/\T.es.length<=hi))->d<f ->
  ∃D T' d',plug D T'=T/\Qft lo hi rt d' (D++C)/\Bel lo hi d' T'/\((D++C=[]->T'.es.length<=rt)/\(D++C≠[]->lo<=T'.es.length/\T'.es.length<=hi))/\d'+D.length=d /\
   (QaC co ns key f T.idx).1=(D.map Fr.i).reverse++[T'.idx]/\(QaC co ns key f T.idx).2=(plc co T'.es key,fnd co T'.es key)/\(fnd co T'.es key=true\/T'.ks=[])/\Qmr co key D
 | 0,d,C,T,_,_,_,_,h=>absurd h (Nat.not_lt_zero _)
 | f+1,d,C,T,hR,hC,hB,hb,hd=>by
  have hat:=hR.at_;have hes:(nth ns T.idx).es=T.es:=by rw[hat.2]
  have hcs:(nth ns T.idx).cs=ZI T.ks:=by rw[hat.2]
  rw[QaC,hes,hcs,QeB]
  by_cases h1:fnd co T.es key=true\/T.ks.length=0
  ·rw[if_pos h1];exact⟨[],T,d,rfl,hC,hB,hb,by simp,rfl,rfl,h1.imp id λh=>List.eq_nil_of_length_eq_zero h,λf hf=>(nomatch hf)⟩
  ·rw[if_neg h1];have hk:¬T.ks.length=0:=λh=>h1 (.inr h)
   obtain⟨d',rfl⟩:∃d',d=d'+1:=by
    cases d with
    | zero=>exact absurd (show T.ks.length=0 by rw[show T.ks=[]from hB];rfl) hk
    | succ d'=>exact⟨d',rfl⟩
   have hp:plc co T.es key<T.ks.length:=by
    have:=QeW co key T.es;have:=hB.1;omega
   have hsp:=split_at hp;generalize hl:T.ks.take (plc co T.es key)=l at hsp;generalize hr:T.ks.drop (plc co T.es key+1)=r at hsp;generalize hK:nth T.ks (plc co T.es key)=K at hsp;have hll:l.length=plc co T.es key:=by rw[<-hl,List.length_take];omega
   have hT:T=Fr.fill ⟨T.idx,T.es,l,r⟩ K:=by
    have:=T.eta;rw[hsp]at this;exact this
   have hbal:∀k∈T.ks,Bal lo hi d' k:=hB.2;have hBK:Bal lo hi d' K:=hbal K (by rw[hsp];simp)
   have hci:((ZI T.ks).getD (plc co T.es key) 0).toNat=K.idx:=by
    rw[hsp,QkV,Qe6,<-hll,<-QeB l,Qpz];rfl
   rw[hci]
   have hctx:Qft lo hi rt d' (⟨T.idx,T.es,l,r⟩::C):=⟨⟨λk hk=>hbal k (by rw[hsp];simp[hk]),λk hk=>hbal k (by rw[hsp];simp[hk])⟩,by
    show l.length+r.length=T.es.length;have h9:=hB.1;rw[hsp]at h9;simp only[List.length_append,List.length_cons]at h9;omega,hb,hC⟩
   have hb2:=QfO.1 hBK
   obtain⟨D,T',d9,e1,e2,e3,e4,e5,e6,e7,e8,e9⟩:=desc f d' (⟨T.idx,T.es,l,r⟩::C) K (by
    show Qab ns (plug C (Fr.fill _ K));rw[<-hT];exact hR) hctx hb2.1 ⟨λh=>(nomatch h),λ_=>hb2.2⟩ om
   refine⟨D++[⟨T.idx,T.es,l,r⟩],T',d9,?_,?_,e3,?_,?_,?_,e7,e8,λg hg=>?_⟩
   ·rw[Qrz,e1];exact hT.symm
   ·rw[List.append_assoc];exact e2
   ·rw[List.append_assoc];exact e4
   ·simp only[List.length_append,List.length_singleton];omega
   ·rw[e6];simp
   ·rcases List.mem_append.1 hg with hg|hg
    ·exact e9 g hg
    ·rcases List.mem_singleton.1 hg;exact⟨hll,λh=>h1 (.inl h)⟩
theorem Qha{k:BT}:∀{ks:List BT},k∈ks->k.nodes.length<=(nodesL ks).length
 | [],h=>(nomatch h)
 | x::ks,h=>by
  rw[nodesL,List.length_append];rcases List.mem_cons.1 h with rfl|h
  ·omega
  ·have:=Qha (ks:=ks) h;omega
theorem Qie(T:BT):T.nodes.length=(nodesL T.ks).length+1:=by
 cases T with
 | nd i es ks=>rw[BT.nodes,List.length_cons];rfl
theorem Qkp{lo hi:Nat}:∀{d:Nat}{T:BT},Bel lo hi d T->d+1<=T.nodes.length
 | 0,T,_=>by
  rw[Qie];omega
 | d+1,T,h=>by
  obtain⟨k,ks,e⟩:∃k ks,T.ks=k::ks:=by
   cases hk:T.ks with
   | nil=>
    have:=h.1;rw[hk]at this;simp at this
   | cons k ks=>exact⟨k,ks,rfl⟩
  have hm:k∈T.ks:=by rw[e];exact List.mem_cons_self ..
  have h1:=Qkp (QfO.1 (h.2 k hm)).1;have h2:=Qha hm;rw[Qie];omega
theorem Qab.nlen{ns:List Nd}{T:BT}(h:Qab ns T):T.nodes.length<=ns.length:=by
 have:=Qgd ns.length (T.nodes.map Prod.fst) h.nd λx hx=>by
  obtain⟨p,hp,rfl⟩:=List.mem_map.1 hx;exact RepN.lt h hp
 rwa[List.length_map]at this
def QwP(rt:Nat)(T:BT):Prop:=T.es=[]->∀k,T.ks=[k]->rt<k.es.length
def Qt2(ns:List Nd):Prop:=(nth ns (ns.length-1)).us=true
def Srt(co:Int)(l:List TEnt):Prop:=l.Pairwise λa b=>QC co a.key b.key<0
theorem Qh3{co:Int}{a b:List UInt8}(h:¬QC co a b<0)(h2:QC co a b≠0):QC co b a<0:=by
 have:=Qc7 co a b;omega
theorem Srt.of_asc{co:Int}{l:List TEnt}(h:Asc co l):Srt co l:=List.pairwise_iff_getElem.2 λi j hi hj hij=>by
 have:=h.lt hij hj;rw[show nth l i=l[i]from XR (List.getElem?_eq_getElem hi),show nth l j=l[j]from XR (List.getElem?_eq_getElem hj)]at this;exact this
def QpH(co:Int)(l:List TEnt)(key:List UInt8):Prop:=∃y∈l,QC co y.key key=0
theorem Qg8{co:Int}{key:List UInt8}:∀{l:List TEnt},Srt co l->(QpH co l key ↔ fnd co l key=true)
 | [],_=>by simp[QpH,fnd]
 | y::l,h=>by
  have hp:=List.pairwise_cons.1 h;have ih:=Qg8 (key:=key) hp.2;unfold fnd at ih ⊢;rw[plc]
  by_cases h1:QC co y.key key<0
  ·rw[if_pos h1];have e:nth (y::l) (plc co l key+1)=nth l (plc co l key):=rfl;rw[e,List.length_cons]
   have hh:QpH co (y::l) key ↔ QpH co l key:=by
    constructor
    ·rintro⟨z,hz,h2⟩;rcases List.mem_cons.1 hz with rfl|hz
     ·omega
     ·exact⟨z,hz,h2⟩
    ·rintro⟨z,hz,h2⟩;exact⟨z,List.mem_cons_of_mem _ hz,h2⟩
   rw[hh,ih];simp
  ·rw[if_neg h1];have e:nth (y::l) 0=y:=rfl;rw[e];simp only[List.length_cons,Nat.zero_lt_succ,decide_true,Bool.true_and,decide_eq_true_eq];constructor
   ·rintro⟨z,hz,h2⟩;rcases List.mem_cons.1 hz with rfl|hz
    ·exact h2
    ·exfalso;have h3:=hp.1 z hz
     by_cases h4:QC co y.key key=0
     ·have h5:=QbL.1 h4;have h6:=QbL.1 h2;have h7:=QbL.2 (h5.trans h6.symm);omega
     ·have h5:=Qh3 h1 h4;have h6:=YC h5 h3;have h7:=Qc7 co z.key key;omega
   ·intro h2;exact⟨y,List.mem_cons_self ..,h2⟩
theorem QkF{co:Int}{key:List UInt8}:∀{es:List TEnt}{l:List BT},Srt co (flatA es l)->l.length<=es.length->(∀j,j<l.length->QC co (nth es j).key key<0)->∀x∈flatA es l,QC co x.key key<0
 | es,[],_,_,_,x,hx=>by
  have e:flatA es []=[]:=by cases es<;>rfl
  rw[e]at hx;cases hx
 | [],k::l,_,h,_,x,hx=>absurd h (by simp)
 | e::es,k::l,hs,hl,h,x,hx=>by
  rw[flatA]at hs hx;have h1:=List.pairwise_append.1 hs;have he:QC co e.key key<0:=h 0 (by simp);rcases List.mem_append.1 hx with hx|hx
  ·exact YC (h1.2.2 x hx e (List.mem_cons_self ..)) he
  ·rcases List.mem_cons.1 hx with rfl|hx
   ·exact he
   ·exact QkF (List.pairwise_cons.1 h1.2.1).2 (by simpa using hl) (λj hj=>h (j+1) (by simpa using hj)) x hx
theorem QoB{co:Int}{key:List UInt8}{lo hi rt:Nat}:∀{D:List Fr}{d:Nat},Qft lo hi rt d D->Qmr co key D->Srt co (QjI D)->∀x∈QjI D,QC co x.key key<0
 | [],_,_,_,_,x,hx=>(nomatch hx)
 | f::D,d,hC,hL,hs,x,hx=>by
  rw[QjI]at hs hx;have h1:=List.pairwise_append.1 hs;have hf:=hL f (List.mem_cons_self ..);have hlen:=hC.2.1;rcases List.mem_append.1 hx with hx|hx
  ·exact QoB hC.2.2.2 (λg hg=>hL g (List.mem_cons_of_mem _ hg)) h1.1 x hx
  ·exact QkF h1.2.1 om (λj hj=>QdN co key f.es j om) x hx
theorem QqS{co:Int}{key:List UInt8}{lo hi rt:Nat}:∀{D:List Fr}{d:Nat},Qft lo hi rt d D->Qmr co key D->Srt co (QjZ D)->∀x∈QjZ D,QC co key x.key<0
 | [],_,_,_,_,x,hx=>(nomatch hx)
 | f::D,d,hC,hL,hs,x,hx=>by
  rw[QjZ]at hs hx;have h1:=List.pairwise_append.1 hs;have hf:=hL f (List.mem_cons_self ..);rcases List.mem_append.1 hx with hx|hx
  ·rcases Nat.lt_or_ge f.l.length f.es.length with h2|h2
   ·have e:f.es.drop f.l.length=nth f.es f.l.length::f.es.drop (f.l.length+1):=by
     rw[List.drop_eq_getElem_cons h2,show nth f.es f.l.length=f.es[f.l.length]from XR (List.getElem?_eq_getElem h2)]
    have hgt:QC co key (nth f.es f.l.length).key<0:=by
     refine Qh3 ?_ λh3=>?_
     ·rw[hf.1]at h2 ⊢;exact Qlx co key f.es h2
     ·refine hf.2 ?_;unfold fnd;rw[<-hf.1,decide_eq_true h2,decide_eq_true h3];rfl
    rw[e]at hx h1;cases hr:f.r with
    | nil=>
     rw[hr]at hx;cases hx
    | cons k r=>
     rw[hr]at hx h1;rw[Qky]at hx h1;rcases List.mem_cons.1 hx with rfl|hx
     ·exact hgt
     ·exact YC hgt ((List.pairwise_cons.1 h1.1).1 x hx)
   ·rw[List.drop_of_length_le h2]at hx;cases hx
  ·exact QqS hC.2.2.2 (λg hg=>hL g (List.mem_cons_of_mem _ hg)) h1.2.1 x hx
structure Sz(mo rm:Int)(lo hi rt:Nat):Prop where
 emo:mo=(hi:Int)
 erm:rm=(rt:Int)
 elo:lo=hi/2
 hi3:3<=hi
 hi8:hi<=8
 lr:lo<=rt
 rh:rt<=hi
theorem QwR{mo rm:Int}(h:Zs mo rm=0):Sz mo rm (mo.toNat/2) mo.toNat rm.toNat:=by
 have h1:=Qbz h;constructor<;>omega
structure VT(co:Int)(lo hi rt d:Nat)(T:BT):Prop where
 idx:T.idx=0
 bel:Bel lo hi d T
 root:T.es.length<=rt
 gap:QwP rt T
 srt:Srt co T.flat
 ents:∀x∈T.flat,YQ co x=0
theorem Qna{co:Int}{lo hi rt d:Nat}{ns:List Nd}{T:BT}(hR:Qab ns T)(hV:VT co lo hi rt d T)(key:List UInt8):∃D T' d',plug D T'=T/\Qft lo hi rt d' D/\Bel lo hi d' T'/\((D=[]->T'.es.length<=rt)/\(D≠[]->lo<=T'.es.length/\T'.es.length<=hi))/\d'+D.length=d/\d<ns.length /\
  (Q5 co ns key).1=(D.map Fr.i).reverse++[T'.idx]/\(Q5 co ns key).2=(plc co T'.es key,fnd co T'.es key)/\(fnd co T'.es key=true\/T'.ks=[])/\Qmr co key D:=by
 have h1:=Qkp hV.bel;have h2:=hR.nlen;obtain⟨D,T',d',e1,e2,e3,e4,e5,e6,e7,e8,e9⟩:=desc (key:=key) (rt:=rt) (co:=co) ns.length d [] T hR trivial hV.bel ⟨λ_=>hV.root,λh=>absurd rfl h⟩ om;rw[hV.idx]at e6 e7;simp only[List.append_nil]at e2 e4;exact⟨D,T',d',e1,e2,e3,e4,e5,om,e6,e7,e8,e9⟩
theorem Qpf(A:List Nat)(i:Nat):YM (A++[i])=i:=by
 unfold YM;rw[List.length_append,List.length_singleton,Nat.add_sub_cancel];exact Qqt A i []
theorem QeO:∀(es:List TEnt)(ks:List BT),es.Sublist (flatL es ks)
 | es,[]=>by rw[Zu];exact List.Sublist.refl _
 | [],k::ks=>List.nil_sublist _
 | e::es,k::ks=>by
  rw[flatL];exact((QeO es ks).cons_cons e).trans (List.sublist_append_right _ _)
theorem Qpl{co:Int}{lo hi rt d:Nat}{ns:List Nd}{T:BT}(hR:Qab ns T)(hV:VT co lo hi rt d T)(key:List UInt8):(Q5 co ns key).2.2=true ↔ QpH co T.flat key:=by
 obtain⟨D,T',d',e1,e2,e3,e4,e5,e6,e7,e8,e9,e10⟩:=Qna hR hV key;have hfl:T.flat=QjI D++(T'.flat++QjZ D):=by rw[<-e1];exact QeL e2
 have hs:=hV.srt;rw[hfl]at hs;have h1:=List.pairwise_append.1 hs;have h2:=List.pairwise_append.1 h1.2.1;rw[e8,hfl];simp only[];cases T' with
 | nd i es ks=>
 constructor
 ·intro h;have hsub:=QeO es ks;have hses:Srt co es:=h2.1.sublist (by rw[BT.flat];exact hsub);obtain⟨y,hy,hc⟩:=(Qg8 hses).2 h;exact⟨y,List.mem_append_right _ (List.mem_append_left _ (by rw[BT.flat];exact hsub.subset hy)),hc⟩
 ·intro h;rcases e9 with h9|h9
  ·exact h9
  ·have hk:ks=[]:=h9;subst hk;obtain⟨y,hy,hc⟩:=h;rw[Qn2]at hy h2;refine(Qg8 (show Srt co es from h2.1)).1 ?_;rcases List.mem_append.1 hy with hy|hy
   ·have:=QoB e2 e10 h1.1 y hy;omega
   ·rcases List.mem_append.1 hy with hy|hy
    ·exact⟨y,hy,hc⟩
    ·have:=QqS e2 e10 h2.2.1 y hy;have:=Qc7 co y.key key;omega
def btN(ns:List Nd):Nat->Nat->BT
 | 0,i=>.nd i [] []
 | f+1,i=>.nd i (nth ns i).es ((nth ns i).cs.map λc=>btN ns f c.toNat)
theorem QfJ(ns:List Nd)(f i:Nat):(btN ns f i).idx=i:=by cases f<;>rfl
theorem QkP{ns:List Nd}{f:Nat}:∀{cs:List Int},(∀c∈cs,0<=c)->ZI (cs.map λc=>btN ns f c.toNat)=cs
 | [],_=>rfl
 | c::cs,h=>by
  rw[List.map_cons,Qe6,QkP λx hx=>h x (List.mem_cons_of_mem _ hx),QfJ,Int.toNat_of_nonneg (h c (List.mem_cons_self ..))]
theorem Qak{α:Type}(g:α->BT):∀(cs:List α),nodesL (cs.map g)=cs.flatMap λc=>(g c).nodes
 | []=>rfl
 | c::cs=>by rw[List.map_cons,nodesL,Qak g cs,List.flatMap_cons]
theorem QgW{α β:Type}{f g:α->List β}:∀{l:List α},(∀x∈l,f x=g x)->l.flatMap f=l.flatMap g
 | [],_=>rfl
 | a::l,h=>by rw[List.flatMap_cons,List.flatMap_cons,h a (List.mem_cons_self ..),QgW λx hx=>h x (List.mem_cons_of_mem _ hx)]
theorem Qhh{α:Type}(F:Int->List α):∀(cs:List Int),((List.range cs.length).flatMap λk=>F (cs.getD k 0))=cs.flatMap F
 | []=>rfl
 | c::cs=>by
  rw[List.length_cons,List.range_succ_eq_map,List.flatMap_cons,List.flatMap_map,List.flatMap_cons,<-Qhh F cs];rfl
theorem Qgr{co:Int}{ns:List Nd}(hT:TOk co ns):∀{A B:List Nat}{c:Nat},Gx.Way ns (c::A)->Gx.Way ns (c::B)->A=B
 | [],[],_,_,_=>rfl
 | [],q::B,c,h,h2=>by
  have h0:c=0:=h;have:=(hT.kid q h2.1.2 _ h2.1.1).1.1;omega
 | p::A,[],c,h,h2=>by
  have h0:c=0:=h2;have:=(hT.kid p h.1.2 _ h.1.1).1.1;omega
 | p::A,q::B,c,h,h2=>by
  have e:p=q:=Qcc (f:=Nd.cs) hT.once h.1.2 h2.1.2 h.1.1 h2.1.1;subst e;rw[Qgr hT h.2 h2.2]
section
variable{co:Int}{ns:List Nd}
theorem Qfm(hT:TOk co ns){i:Nat}{P:List Nat}{c:Int}(hw:Gx.Way ns (i::P))(hi:i<ns.length)(hc:c∈(nth ns i).cs):Gx.Way ns (c.toNat::i::P):=by
 refine⟨⟨?_,hi⟩,hw⟩;rw[Int.toNat_of_nonneg (by have:=(hT.kid i hi c hc).1.1;omega)];exact hc
theorem QeV(hT:TOk co ns)(h0:0<ns.length){i:Nat}{P:List Nat}(hw:Gx.Way ns (i::P)):i<ns.length:=Qa3 hT h0 hw i (List.mem_cons_self ..)
theorem QpC(hT:TOk co ns)(h0:0<ns.length):∀{i:Nat}{P:List Nat},Gx.Way ns (i::P)->(nth ns i).us=true
 | i,[],h=>by
  have e:i=0:=h;subst e;cases hu:(nth ns 0).us with
  | true=>rfl
  | false=>
   have:=(hT.free 0 h0 hu).1.1;omega
 | i,p::P,h=>by
  have:=(hT.kid p h.1.2 _ h.1.1).2;exact this
theorem Qed(hT:TOk co ns)(h0:0<ns.length):∀(f i:Nat)(P:List Nat),Gx.Way ns (i::P)->P.length+f=ns.length->∀p∈(btN ns f i).nodes,ns[p.1]?=some p.2/\∃Q R,Gx.Way ns (Q++i::P)/\Q++i::P=p.1::R
 | 0,i,P,hw,hf,p,hp=>by
  have:=Yi hT h0 hw;simp only[List.length_cons]at this;omega
 | f+1,i,P,hw,hf,p,hp=>by
  have hi:=QeV hT h0 hw
  have hk:∀c∈(nth ns i).cs,0<=c:=λc hc=>by
   have:=(hT.kid i hi c hc).1.1;omega
  rw[btN,BT.nodes,QkP hk,Qak]at hp;rcases List.mem_cons.1 hp with rfl|hp
  ·refine⟨?_,[],P,hw,rfl⟩;have hu:=QpC hT h0 hw;rw[Xu hi];show some (nth ns i)=some ⟨true,(nth ns i).es,(nth ns i).cs⟩;rw[<-hu]
  ·obtain⟨c,hc,hp⟩:=List.mem_flatMap.1 hp;obtain⟨h1,Q,R,h2,h3⟩:=Qed hT h0 f c.toNat (i::P) (Qfm hT hw hi hc) (by simp only[List.length_cons];omega) p hp;refine⟨h1,Q++[c.toNat],R,?_,?_⟩
   ·rw[List.append_assoc];exact h2
   ·rw[List.append_assoc];exact h3
theorem QrK(hT:TOk co ns)(h0:0<ns.length):∀(f i:Nat)(P:List Nat),Gx.Way ns (i::P)->P.length+f=ns.length->((btN ns f i).nodes.map Prod.fst).Nodup
 | 0,i,P,hw,hf=>by
  have:=Yi hT h0 hw;simp only[List.length_cons]at this;omega
 | f+1,i,P,hw,hf=>by
  have hi:=QeV hT h0 hw;have hlen:(i::P).length+f=ns.length:=by simp only[List.length_cons];omega
  rw[btN,BT.nodes,Qak,List.map_cons,List.map_flatMap];refine List.nodup_cons.2 ⟨λhm=>?_,?_⟩
  ·obtain⟨c,hc,hm⟩:=List.mem_flatMap.1 hm;obtain⟨p,hp,e⟩:=List.mem_map.1 hm;obtain⟨_,Q,R,h2,h3⟩:=Qed hT h0 f c.toNat (i::P) (Qfm hT hw hi hc) hlen p hp;rw[h3,e]at h2;have h4:=Qgr hT h2 hw;have h5:=congrArg List.length h3;rw[h4]at h5;simp only[List.length_append,List.length_cons]at h5;omega
  ·refine List.pairwise_flatMap.2 ⟨λc hc=>QrK hT h0 f c.toNat (i::P) (Qfm hT hw hi hc) hlen,?_⟩;refine(QgM (f:=Nd.cs) hT.once hi).imp_of_mem λ{c c'}hc hc' hne x hx y hy exy=>?_;subst exy;obtain⟨p,hp,e⟩:=List.mem_map.1 hx;obtain⟨q,hq,e'⟩:=List.mem_map.1 hy;obtain⟨_,Q,R,h2,h3⟩:=Qed hT h0 f c.toNat (i::P) (Qfm hT hw hi hc) hlen p hp;obtain⟨_,Q',R',h2',h3'⟩:=Qed hT h0 f c'.toNat (i::P) (Qfm hT hw hi hc') hlen q hq;rw[e]at h3;rw[e']at h3';have h4:=Qgr hT (h3▸h2) (h3'▸h2');have h5:Q++c.toNat::i::P=Q'++c'.toNat::i::P:=by rw[h3,h3',h4]
   have h6:Q.length=Q'.length:=by
    have:=congrArg List.length h5;simp only[List.length_append,List.length_cons]at this;omega
   have h7:=(List.append_inj h5 h6).2;have h8:c.toNat=c'.toNat:=(List.cons.inj h7).1;have k1:=(hT.kid i hi c hc).1.1;have k2:=(hT.kid i hi c' hc').1.1;exact hne om
theorem Qo3(hT:TOk co ns)(h0:0<ns.length):∀(f:Nat)(v:Vis)(P:List Nat),Gx.Way ns (v.i::P)->P.length+f=ns.length->(vis ns f v).map Vis.i=(btN ns f v.i).nodes.map Prod.fst
 | 0,v,P,hw,hf=>by
  have:=Yi hT h0 hw;simp only[List.length_cons]at this;omega
 | f+1,v,P,hw,hf=>by
  have hi:=QeV hT h0 hw;rw[vis,btN,BT.nodes,Qak,List.map_cons,List.map_cons,List.map_flatMap,List.map_flatMap];congr 1;rw[<-Qhh];refine QgW λk hk=>?_;have hkl:=List.mem_range.1 hk
  have hc:(nth ns v.i).cs.getD k 0∈(nth ns v.i).cs:=by
   rw[List.getD_eq_getElem?_getD,List.getElem?_eq_getElem hkl];exact List.getElem_mem hkl
  exact Qo3 hT h0 f ⟨((nth ns v.i).cs.getD k 0).toNat,v.d+1,loK (nth ns v.i).es k v.lo,hiK (nth ns v.i).es k v.hi⟩ (v.i::P) (Qfm hT hw hi hc) (by simp only[List.length_cons];omega)
end
def InB(co:Int)(lo hi:Option (List UInt8))(x:TEnt):Prop:=(∀b,lo=some b->QC co b x.key<0)/\(∀b,hi=some b->QC co x.key b<0)
theorem Qq7{t:Tre}{v:Vis}{x:TEnt}:ZX t v x=true ↔ (∃b,v.lo=some b/\0<=QC t.co b x.key)\/(∃b,v.hi=some b/\0<=QC t.co x.key b):=by
 unfold ZX;cases v.lo<;>cases v.hi<;>simp
theorem QvG{t:Tre}{v:Vis}{x:TEnt}(h:¬ZX t v x=true):InB t.co v.lo v.hi x:=by
 rw[Qq7]at h;refine⟨λb hb=>?_,λb hb=>?_⟩
 ·rcases Int.lt_or_le (QC t.co b x.key) 0 with h1|h1
  ·exact h1
  ·exact absurd (.inl ⟨b,hb,h1⟩) h
 ·rcases Int.lt_or_le (QC t.co x.key b) 0 with h1|h1
  ·exact h1
  ·exact absurd (.inr ⟨b,hb,h1⟩) h
theorem Qh8{co:Int}{hi:Option (List UInt8)}:∀{es:List TEnt}{ks:List BT}{lo:Option (List UInt8)},ks.length=es.length+1->Srt co es->(∀x∈es,InB co lo hi x) ->
  (∀k,k<ks.length->Srt co (nth ks k).flat/\∀x∈(nth ks k).flat,InB co (loK es k lo) (hiK es k hi) x)->Srt co (flatL es ks)/\∀x∈flatL es ks,InB co lo hi x
 | [],[],_,h,_,_,_=>absurd h (by simp)
 | [],k::k'::ks,_,h,_,_,_=>absurd h (by simp)
 | [],[k],lo,_,_,_,hk=>by
  rw[flatL,flatL,List.append_nil];exact hk 0 (by simp)
 | e::es,[],_,h,_,_,_=>absurd h (by simp)
 | e::es,k::ks,lo,hl,hs,hb,hk=>by
  have hp:=List.pairwise_cons.1 hs;have he:=hb e (List.mem_cons_self ..);have h0:=hk 0 (by simp);have e0:nth (k::ks) 0=k:=rfl;have e1:loK (e::es) 0 lo=lo:=if_neg (Nat.lt_irrefl 0);have e2:hiK (e::es) 0 hi=some e.key:=if_pos (by simp);rw[e0,e1,e2]at h0
  have ih:=Qh8 (co:=co) (hi:=hi) (es:=es) (ks:=ks) (lo:=some e.key) (by simpa using hl) hp.2 (λx hx=>⟨λb hb'=>by injection hb' with hb';subst hb';exact hp.1 x hx,(hb x (List.mem_cons_of_mem _ hx)).2⟩) (λq hq=>by
   have h1:=hk (q+1) (by simpa using hq);have e3:nth (k::ks) (q+1)=nth ks q:=rfl
   have e4:loK (e::es) (q+1) lo=loK es q (some e.key):=by
    unfold loK;rw[if_pos om];rcases Nat.eq_zero_or_pos q with h9|h9
    ·subst h9;rfl
    ·rw[if_pos h9];obtain⟨r,rfl⟩:∃r,q=r+1:=⟨q-1,om⟩;rfl
   have e5:hiK (e::es) (q+1) hi=hiK es q hi:=by
    unfold hiK
    by_cases h9:q<es.length
    ·rw[if_pos h9,if_pos (by simpa using h9)];rfl
    ·rw[if_neg h9,if_neg (by simpa using h9)]
   rw[e3,e4,e5]at h1;exact h1)
  rw[flatL];have hge:∀x∈flatL es ks,QC co e.key x.key<0:=λx hx=>(ih.2 x hx).1 _ rfl;have hle:∀x∈k.flat,QC co x.key e.key<0:=λx hx=>(h0.2 x hx).2 _ rfl;refine⟨List.pairwise_append.2 ⟨h0.1,List.pairwise_cons.2 ⟨hge,ih.1⟩,λx hx y hy=>?_⟩,λx hx=>?_⟩
  ·rcases List.mem_cons.1 hy with rfl|hy
   ·exact hle x hx
   ·exact YC (hle x hx) (hge y hy)
  ·rcases List.mem_append.1 hx with hx|hx
   ·exact⟨(h0.2 x hx).1,λb hb'=>YC (hle x hx) (he.2 b hb')⟩
   ·rcases List.mem_cons.1 hx with rfl|hx
    ·exact he
    ·exact⟨λb hb'=>YC (he.1 b hb') (hge x hx),(ih.2 x hx).2⟩
theorem Qla{t:Tre}{deep:Int}{v:Vis}(h:Qdh t deep v=0):¬ZG t v=true/\(∀x∈(nth t.ns v.i).es,InB t.co v.lo v.hi x)/\((nth t.ns v.i).cs.length=0->v.d=deep+1):=by
 rw[Qbw]at h;split at h
 ·exact absurd h (by decide)
 ·rename_i h1;split at h
  ·exact absurd h (by decide)
  ·rename_i h2;split at h
   ·exact absurd h (by decide)
   ·rename_i h3;refine⟨h1,λx hx=>QvG λh4=>h2 ?_,λh4=>?_⟩
    ·unfold Zm;exact List.any_eq_true.2 ⟨x,hx,h4⟩
    ·rcases Int.lt_trichotomy v.d (deep+1)with h5|h5|h5
     ·exact absurd ⟨h4,om⟩ h3
     ·exact h5
     ·exact absurd ⟨h4,om⟩ h3
theorem Qnx{t:Tre}(h:(XX t t.ns.length 0 []).2=0){i:Nat}(hi:i<t.ns.length)(hu:(nth t.ns i).us=true):((nth t.ns i).es.length:Int)<=YL t.mo t.rm i:=by
 obtain⟨s,hs⟩:=(QgX (f:=t.ns.length) (i:=0) om h List.nodup_nil).1 i (Nat.zero_le _) hi;rw[Qih t i hu]at hs;have h4:nE4 t i s=0:=hs;unfold nE4 at h4;split at h4
 ·rename_i h3;have h2:=QtX t i h3;unfold nE2 at h2;split at h2
  ·rename_i h1;unfold nE1 at h1;split at h1
   ·assumption
   ·exact absurd h1 (by decide)
  ·rename_i h1;exact absurd h2 h1
 ·rename_i h3;exact absurd h4 h3
theorem Qmf{t:Tre}{deep:Int}{lo hi rt:Nat}(hz:Sz t.mo t.rm lo hi rt)(hT:TOk t.co t.ns)(h0:0<t.ns.length)(hmost:∀i,i<t.ns.length->(nth t.ns i).us=true->((nth t.ns i).es.length:Int)<=YL t.mo t.rm i):∀(f:Nat)(v:Vis)(P:List Nat),Gx.Way t.ns (v.i::P)->P.length+f=t.ns.length->(∀u∈vis t.ns f v,Qdh t deep u=0) ->
  ∃d:Nat,v.d+(d:Int)=deep+1/\Bel lo hi d (btN t.ns f v.i)/\Srt t.co (btN t.ns f v.i).flat/\∀x∈(btN t.ns f v.i).flat,InB t.co v.lo v.hi x
 | 0,v,P,hw,hf,_=>by
  have:=Yi hT h0 hw;simp only[List.length_cons]at this;omega
 | f+1,v,P,hw,hf,hE=>by
  have hi':=QeV hT h0 hw;have hv:=Qla (hE v (by rw[vis];exact List.mem_cons_self ..));have hasc:=Srt.of_asc (hT.asc v.i hi');rw[btN,BT.flat];rcases hT.shape v.i hi' with hs|hs
  ·have hcs:(nth t.ns v.i).cs=[]:=List.eq_nil_of_length_eq_zero hs;rw[hcs,List.map_nil,Zu];exact⟨0,by have:=hv.2.2 hs;simpa using this,rfl,hasc,hv.2.1⟩
  ·have key:∀k,k<(nth t.ns v.i).cs.length->∃d:Nat,v.d+1+(d:Int)=deep+1/\Bal lo hi d (btN t.ns f ((nth t.ns v.i).cs.getD k 0).toNat)/\Srt t.co (btN t.ns f ((nth t.ns v.i).cs.getD k 0).toNat).flat/\∀x∈(btN t.ns f ((nth t.ns v.i).cs.getD k 0).toNat).flat,InB t.co (loK (nth t.ns v.i).es k v.lo) (hiK (nth t.ns v.i).es k v.hi) x:=λk hk=>by
    have hc:(nth t.ns v.i).cs.getD k 0∈(nth t.ns v.i).cs:=by
     rw[List.getD_eq_getElem?_getD,List.getElem?_eq_getElem hk];exact List.getElem_mem hk
    have hwk:=Qfm hT hw hi' hc
    have hmem:∀u∈vis t.ns f (XF t.ns v k),u∈vis t.ns (f+1) v:=λu hu=>by
     rw[vis];exact List.mem_cons_of_mem _ (List.mem_flatMap.2 ⟨k,List.mem_range.2 hk,hu⟩)
    obtain⟨d,h1,h2,h3,h4⟩:=Qmf hz hT h0 hmost f (XF t.ns v k) (v.i::P) hwk (by simp only[List.length_cons];omega) λu hu=>hE u (hmem u hu);have hki:=QeV hT h0 hwk;have hku:=QpC hT h0 hwk;have hk1:=(hT.kid v.i hi' _ hc).1.1
    obtain⟨f',rfl⟩:∃f',f=f'+1:=by
     cases f with
     | zero=>
      have:=Yi hT h0 hwk;simp only[List.length_cons]at this;omega
     | succ f'=>exact⟨f',rfl⟩
    have hkv:=Qla (hE (XF t.ns v k) (hmem _ (by rw[vis];exact List.mem_cons_self ..)));refine⟨d,h1,QfO.2 ⟨h2,?_,?_⟩,h3,h4⟩
    ·have hg:=hkv.1;unfold ZG at hg;simp only[Bool.and_eq_true,Bool.or_eq_true,decide_eq_true_eq,not_and,not_or]at hg;have h5:=(hg (show 0<(XF t.ns v k).i by show 0<((nth t.ns v.i).cs.getD k 0).toNat;omega)).1;have e1:=hz.emo;have e2:=hz.elo;show lo<=(nth t.ns ((nth t.ns v.i).cs.getD k 0).toNat).es.length;have h6:¬((nth t.ns ((nth t.ns v.i).cs.getD k 0).toNat).es.length:Int)<t.mo/2:=h5;omega
    ·have h5:=hmost _ hki hku;unfold YL at h5;rw[if_neg om]at h5;have e1:=hz.emo;show(nth t.ns ((nth t.ns v.i).cs.getD k 0).toNat).es.length<=hi;omega
   obtain⟨d,hd,_⟩:=key 0 om
   have hnk:∀k,k<(nth t.ns v.i).cs.length->nth ((nth t.ns v.i).cs.map λc=>btN t.ns f c.toNat) k=btN t.ns f ((nth t.ns v.i).cs.getD k 0).toNat:=λk hk=>XR (by
    rw[List.getElem?_map,List.getElem?_eq_getElem hk,List.getD_eq_getElem?_getD,List.getElem?_eq_getElem hk];rfl)
   have hfl:=Qh8 (co:=t.co) (hi:=v.hi) (es:=(nth t.ns v.i).es) (ks:=(nth t.ns v.i).cs.map λc=>btN t.ns f c.toNat) (lo:=v.lo) (by rw[List.length_map];exact hs) hasc hv.2.1 λk hk=>by
    rw[List.length_map]at hk;rw[hnk k hk];obtain⟨_,_,_,h3,h4⟩:=key k hk;exact⟨h3,h4⟩
   refine⟨d+1,by simp only[Int.natCast_add,Int.natCast_one];omega,⟨by show(List.map _ _).length=_;rw[List.length_map];exact hs,λk hk=>?_⟩,hfl.1,hfl.2⟩;obtain⟨c,hc,rfl⟩:=List.mem_map.1 hk;obtain⟨q,hq,rfl⟩:=List.getElem_of_mem hc;obtain⟨d2,hd2,h2,_⟩:=key q hq;have e:d2=d:=om
   subst e;rw[List.getD_eq_getElem?_getD,List.getElem?_eq_getElem hq]at h2;exact h2
mutual
theorem QdO:∀(T:BT)(x:TEnt),x∈T.flat->∃p∈T.nodes,x∈p.2.es
 | .nd i es ks,x,h=>by
  rw[BT.flat]at h;rw[BT.nodes];rcases flat_nodesL es ks x h with h|⟨p,hp,hx⟩
  ·exact⟨_,List.mem_cons_self ..,h⟩
  ·exact⟨p,List.mem_cons_of_mem _ hp,hx⟩
theorem flat_nodesL:∀(es:List TEnt)(ks:List BT)(x:TEnt),x∈flatL es ks->x∈es\/∃p∈nodesL ks,x∈p.2.es
 | es,[],x,h=>by
  rw[Zu]at h;exact .inl h
 | [],k::ks,x,h=>by
  rw[flatL]at h;rw[nodesL];rcases List.mem_append.1 h with h|h
  ·obtain⟨p,hp,hx⟩:=QdO k x h;exact .inr ⟨p,List.mem_append_left _ hp,hx⟩
  ·rcases flat_nodesL [] ks x h with h|⟨p,hp,hx⟩
   ·exact .inl h
   ·exact .inr ⟨p,List.mem_append_right _ hp,hx⟩
 | e::es,k::ks,x,h=>by
  rw[flatL]at h;rw[nodesL];rcases List.mem_append.1 h with h|h
  ·obtain⟨p,hp,hx⟩:=QdO k x h;exact .inr ⟨p,List.mem_append_left _ hp,hx⟩
  ·rcases List.mem_cons.1 h with rfl|h
   ·exact .inl (List.mem_cons_self ..)
   ·rcases flat_nodesL es ks x h with h|⟨p,hp,hx⟩
    ·exact .inl (List.mem_cons_of_mem _ h)
    ·exact .inr ⟨p,List.mem_append_right _ hp,hx⟩
end
theorem Qvp{t:Tre}(h:(XD t).2=0):∃T d,Qab t.ns T/\VT t.co (t.mo.toNat/2) t.mo.toNat t.rm.toNat d T/\Sz t.mo t.rm (t.mo.toNat/2) t.mo.toNat t.rm.toNat/\Qt2 t.ns:=by
 obtain⟨hc,hs,h0,hl,hn,hsh,_⟩:=QdM h;have hT:=QbF hn;have hz:=QwR hs
 have hop:QaG t.ns ((Yx t.ns).map Vis.i) t.ns.length 0=none:=by
  cases e:QaG t.ns ((Yx t.ns).map Vis.i) t.ns.length 0 with
  | none=>rfl
  | some i=>
   rw[Qdx e]at hsh;have h21:(21:Int)=0:=hsh;exact absurd h21 (by decide)
 rw[QdR hop]at hsh;have hall:=QmD hsh;have hmost:=λi hi hu=>Qnx (t:=t) hn (i:=i) hi hu;have hw:Gx.Way t.ns [0]:=rfl;obtain⟨d,hd,hB,hS,_⟩:=Qmf hz hT h0 hmost t.ns.length QaE [] hw (by simp) hall;have hvb:=Qo3 hT h0 t.ns.length QaE [] hw (by simp);have Yd:=Qed hT h0 t.ns.length 0 [] hw (by simp)
 have hR:Qab t.ns (btN t.ns t.ns.length 0):=by
  refine⟨λp hp=>(Yd p hp).1,QrK hT h0 t.ns.length 0 [] hw (by simp),λi hi hm=>?_⟩;cases hu:(nth t.ns i).us with
  | true=>
   have:=QjJ hop i (Nat.zero_le _) om hu;exact absurd (hvb▸this) hm
  | false=>
   have h1:=hT.free i hi hu;have h2:=h1.2;cases hnd:nth t.ns i with
   | mk us es cs=>
    rw[hnd]at h2 hu;simp only at h2 hu;rw[hu,h2.1,h2.2]
 have hroot:=hR.root;rw[QfJ]at hroot;have hes:(btN t.ns t.ns.length 0).es=(nth t.ns 0).es:=by rw[hroot.2]
 have hu0:(nth t.ns 0).us=true:=by rw[hroot.2]
 refine⟨_,d,hR,⟨QfJ _ _ _,hB,?_,λe k hk=>?_,hS,λx hx=>?_⟩,hz,?_⟩
 ·have h1:=hmost 0 h0 hu0;unfold YL at h1;rw[if_pos rfl]at h1;rw[hes];have:=hz.erm;omega
 ·obtain⟨f,hf⟩:∃f,t.ns.length=f+1:=⟨t.ns.length-1,om⟩;have hkm:k∈(btN t.ns t.ns.length 0).ks:=by rw[hk];exact List.mem_cons_self ..
  have hk':=hkm;rw[hf]at hk';obtain⟨c,hcm,rfl⟩:=List.mem_map.1 (show k∈(nth t.ns 0).cs.map λc=>btN t.ns f c.toNat from hk');have hwk:=Qfm hT hw h0 hcm;have hki:=QeV hT h0 hwk
  obtain⟨f',rfl⟩:∃f',f=f'+1:=by
   cases f with
   | zero=>
    have:=Yi hT h0 hwk;simp only[List.length_cons,List.length_nil]at this;omega
   | succ f'=>exact⟨f',rfl⟩
  have hk1:=(hT.kid 0 h0 c hcm).1.1
  have hgv:∃v∈Yx t.ns,v.i=c.toNat:=by
   have:c.toNat∈(Yx t.ns).map Vis.i:=by
    show c.toNat∈(vis t.ns t.ns.length QaE).map Vis.i;rw[hvb,hf];rw[show QaE.i=0 from rfl,btN,BT.nodes,Qak,List.map_cons];refine List.mem_cons_of_mem _ (List.mem_map.2 ?_);have hid:=(btN t.ns (f'+1) c.toNat).idx_mem;rw[QfJ]at hid;obtain⟨p,hp,ep⟩:=List.mem_map.1 hid;exact⟨p,List.mem_flatMap.2 ⟨c,hcm,hp⟩,ep⟩
   obtain⟨v,hv,e⟩:=List.mem_map.1 this;exact⟨v,hv,e⟩
  obtain⟨v,hv,hvi⟩:=hgv;have hg:=(Qla (hall v hv)).1;unfold ZG at hg;simp only[Bool.and_eq_true,Bool.or_eq_true,decide_eq_true_eq,not_and,not_or]at hg;have h5:=(hg om).2 ⟨by rw[<-hes,e];rfl,by rw[hvi,Int.toNat_of_nonneg om];exact hcm⟩;rw[hvi]at h5;show t.rm.toNat<(nth t.ns c.toNat).es.length;have:=hz.erm;omega
 ·obtain⟨p,hp,hx⟩:=QdO _ x hx;have h1:=RepN.at_ (i:=p.1) (x:=p.2) hR hp;exact hT.ents p.1 h1.1 x (by rw[h1.2];exact hx)
 ·unfold Qt2;cases hu:(nth t.ns (t.ns.length-1)).us with
  | true=>rfl
  | false=>
   have:=(hT.free (t.ns.length-1) om hu).1.2;omega
section
variable{es:List TEnt}{ks:List BT}{k:Nat}
def YP(es:List TEnt)(ks:List BT):Nat->List TEnt
 | 0=>[]
 | k+1=>(YP es ks k++if 0<ks.length then(nth ks k).flat else[])++if k<es.length then[nth es k]else[]
def QaH(es:List TEnt)(ks:List BT)(k:Nat):List TEnt:=YP es ks k++if 0<ks.length then(nth ks k).flat else[]
theorem Qbh:YP es ks (k+1)=QaH es ks k++if k<es.length then[nth es k]else[]:=rfl
theorem Qao(h:k<es.length):YP es ks (k+1)=QaH es ks k++[nth es k]:=by rw[Qbh,if_pos h]
theorem Qdg(h:¬k<es.length):YP es ks (k+1)=QaH es ks k:=by rw[Qbh,if_neg h,List.append_nil]
theorem Y4(h:0<ks.length):QaH es ks k=YP es ks k++(nth ks k).flat:=by rw[QaH,if_pos h]
theorem Qc9(h:¬0<ks.length):QaH es ks k=YP es ks k:=by rw[QaH,if_neg h,List.append_nil]
theorem QgF{α:Type}[Inhabited α]{l:List α}{i:Nat}(h:i<l.length):l.drop i=nth l i::l.drop (i+1):=by
 rw[List.drop_eq_getElem_cons h,show nth l i=l[i]from XR (List.getElem?_eq_getElem h)]
theorem Qh4:∀{k:Nat},k<=es.length->YP es [] k=es.take k
 | 0,_=>by rw[YP,List.take_zero]
 | k+1,h=>by
  rw[Qao om,Qc9 (by simp),Qh4 om,List.take_add_one,Xu om];rfl
theorem QhG(h:ks.length=es.length+1):∀{k:Nat},k<=es.length->YP es ks k++flatL (es.drop k) (ks.drop k)=flatL es ks
 | 0,_=>by rw[YP,List.drop_zero,List.drop_zero,List.nil_append]
 | k+1,hk=>by
  have h1:=QhG (k:=k) h om;rw[QgF (l:=es) (i:=k) om,QgF (l:=ks) (i:=k) om,flatL]at h1;rw[Qao om,Y4 om,<-h1];simp
theorem Qbt(h:ks=[]\/ks.length=es.length+1):YP es ks (es.length+1)=flatL es ks:=by
 rcases h with h|h
 ·subst h;rw[Qdg om,Qc9 (by simp),Qh4 (Nat.le_refl _),List.take_length,Zu]
 ·have h1:=QhG (k:=es.length) h (Nat.le_refl _);rw[QgF (l:=ks) (i:=es.length) om,List.drop_length,flatL,List.drop_of_length_le om,flatL]at h1;rw[Qdg om,Y4 om,<-h1,List.append_nil]
theorem QjA:(YP es ks k).length<=(QaH es ks k).length:=by
 unfold QaH;rw[List.length_append];omega
theorem Qgv:(QaH es ks k).length<=(YP es ks (k+1)).length:=by
 rw[Qbh,List.length_append];omega
theorem Qsl{m:Nat}(h:k<=m):(YP es ks k).length<=(YP es ks m).length:=by
 obtain⟨d,rfl⟩:=Nat.exists_eq_add_of_le h
 clear h
 induction d with
 | zero=>exact Nat.le_refl _
 | succ d ih=>exact Nat.le_trans ih (Nat.le_trans QjA Qgv)
theorem Qcn(h:ks=[]\/ks.length=es.length+1)(hk:k<=es.length+1):(YP es ks k).length<=(flatL es ks).length:=by
 rw[<-Qbt h];exact Qsl hk
theorem Qg7(h:ks=[]\/ks.length=es.length+1)(hk:k<=es.length):(QaH es ks k).length<=(flatL es ks).length:=Nat.le_trans Qgv (Qcn h om)
theorem Qmi(h:ks=[]\/ks.length=es.length+1){k:Nat}(hk:k<=es.length+1):∃B,flatL es ks=YP es ks k++B:=by
 rw[<-Qbt h];obtain⟨d,hd⟩:=Nat.exists_eq_add_of_le hk;rw[hd]
 clear hd hk h
 induction d with
 | zero=>exact⟨[],by rw[List.append_nil];rfl⟩
 | succ d ih=>
  obtain⟨B,hB⟩:=ih;rw[show k+(d+1)=(k+d)+1 from rfl,Qbh,QaH,hB,List.append_assoc,List.append_assoc];exact⟨_,rfl⟩
theorem QmA(h:ks=[]\/ks.length=es.length+1){k:Nat}(hk:k<=es.length):∃B,flatL es ks=QaH es ks k++B:=by
 obtain⟨B,hB⟩:=Qmi h (k:=k+1) om;rw[hB,Qbh,List.append_assoc];exact⟨_,rfl⟩
theorem Qv7(h:ks=[]\/ks.length=es.length+1){k:Nat}(hk:k<es.length):nth es k∈flatL es ks:=(QeO es ks).subset (Qq hk)
theorem QsH(h:ks.length=es.length+1){k:Nat}(hk:k<ks.length){x:TEnt}(hx:x∈(nth ks k).flat):x∈flatL es ks:=by
 obtain⟨B,hB⟩:=QmA (.inr h) (k:=k) om;rw[hB,Y4 om];exact List.mem_append_left _ (List.mem_append_right _ hx)
def NIn(ns:List Nd)(T:BT):Prop:=∀p∈T.nodes,p.1<ns.length/\nth ns p.1=p.2
theorem Qab.nin{ns:List Nd}{T:BT}(h:Qab ns T):NIn ns T:=λp hp=>RepN.at_ (i:=p.1) (x:=p.2) h hp
theorem NIn.root{ns:List Nd}{i:Nat}(h:NIn ns (.nd i es ks)):i<ns.length/\nth ns i=⟨true,es,ZI ks⟩:=by
 refine h (i,⟨true,es,ZI ks⟩) ?_;rw[BT.nodes];exact List.mem_cons_self ..
theorem QgC{k:BT}{p:Nat×Nd}:∀{ks:List BT},k∈ks->p∈k.nodes->p∈nodesL ks
 | [],h,_=>(nomatch h)
 | x::ks,h,hp=>by
  rw[nodesL];rcases List.mem_cons.1 h with rfl|h
  ·exact List.mem_append_left _ hp
  ·exact List.mem_append_right _ (QgC h hp)
theorem Qq6{ks:List BT}{k:Nat}(h:k<ks.length):nth ks k∈ks:=Qq h
theorem NIn.kid{ns:List Nd}{i:Nat}(h:NIn ns (.nd i es ks))(hk:k<ks.length):NIn ns (nth ks k):=λp hp=>h p (by
 rw[BT.nodes];exact List.mem_cons_of_mem _ (QgC (Qq6 hk) hp))
theorem Ql3(hk:k<ks.length):(ZI ks).getD k 0=((nth ks k).idx:Int):=by
 unfold ZI;rw[List.getD_eq_getElem?_getD,List.getElem?_map,Xu hk];rfl
theorem QmK{lo hi d i:Nat}(h:Bel lo hi (d+1) (.nd i es ks))(hk:k<ks.length):Bel lo hi d (nth ks k):=(QfO.1 (h.2 _ (Qq6 hk))).1
theorem Qt7{lo hi i:Nat}(h:Bel lo hi 0 (.nd i es ks)):ks=[]:=h
end
mutual
theorem QdQ(m:Nat):∀T:BT,(∀p∈T.nodes,p.2.es.length<=m)->T.flat.length<=T.nodes.length*m
 | .nd i es ks,h=>by
  rw[BT.nodes]at h ⊢;have h1:=flatL_bound m es ks λp hp=>h p (List.mem_cons_of_mem _ hp);have h2:=h (i,⟨true,es,ZI ks⟩) (List.mem_cons_self ..);simp only at h2;rw[BT.flat,List.length_cons,Nat.succ_mul];omega
theorem flatL_bound(m:Nat):∀(es:List TEnt)(ks:List BT),(∀p∈nodesL ks,p.2.es.length<=m)->(flatL es ks).length<=(nodesL ks).length*m+es.length
 | es,[],_=>by
  rw[Zu];omega
 | [],k::ks,h=>by
  rw[nodesL]at h ⊢;have h1:=QdQ m k λp hp=>h p (List.mem_append_left _ hp);have h2:=flatL_bound m [] ks λp hp=>h p (List.mem_append_right _ hp);rw[flatL,List.length_append,List.length_append,Nat.add_mul];omega
 | e::es,k::ks,h=>by
  rw[nodesL]at h ⊢;have h1:=QdQ m k λp hp=>h p (List.mem_append_left _ hp);have h2:=flatL_bound m es ks λp hp=>h p (List.mem_append_right _ hp);rw[flatL,List.length_append,List.length_append,Nat.add_mul,List.length_cons,List.length_cons];omega
end
theorem Qab.flat_len{ns:List Nd}{T:BT}{m:Nat}(h:Qab ns T)(hm:∀i,i<ns.length->(nth ns i).es.length<=m):T.flat.length<=ns.length*m:=by
 refine Nat.le_trans (QdQ m T λp hp=>?_) (Nat.mul_le_mul_right m h.nlen);have h1:=h.nin p hp;rw[<-h1.2];exact hm _ h1.1
theorem QmW{es:List TEnt}{ks:List BT}{k:Nat}(h:ks.length=es.length+1)(hk:k<ks.length):(nth ks k).flat.length<=(flatL es ks).length:=by
 have h1:=congrArg List.length (Y4 (es:=es) (ks:=ks) (k:=k) om);rw[List.length_append]at h1;have h2:=Qg7 (es:=es) (ks:=ks) (k:=k) (.inr h) om;omega
end Gx
namespace Go.Proofs
open Go Go.RowKit Gx
attribute [local irreducible] Go.Calls Gx.S Gx.O Gx.D Gx.OpP Gx.OpQ Gx.OpH
set_option maxRecDepth 20000
theorem Qpa:QL Tryz.prog 151=true:=by kernel_rfl
instance:TFn Tryz.prog 151:=⟨Qpa⟩
theorem QtR(w:World)(co mo rm:Int)(a:Option Addr)(cap:Nat)(L:List LNd)(i:Nat)(es:List TEnt)(ks:List BT)(hs:Nt w [] a L)(hl:L.length<=1000)(hi:i<L.length)(hn:nth (pln L) i=⟨true,es,ZI ks⟩)(hsh:ks=[]\/ks.length=es.length+1)(hfl:(flatL es ks).length<=10000)(ih:∀(w1:World)(k:Nat),k<ks.length->Nt w1 [] a L->Calls Tryz.prog 151 #[.agg #[.int .i64 co,.int .i64 mo,.int .i64 rm,.slice a L.length cap],.int .i64 ((nth ks k).idx:Int)] w1 λen w'=>∃g:Option Addr×Nat,en=.returned (.slice g.1 ((nth ks k).flat).length g.2)/\True/\HS w1 [] [.own (.slice g.1 ((nth ks k).flat).length g.2) 84 2 ((nth ks k).flat).length (((nth ks k).flat).flatMap TEnt.vals)] w'):CE 151 #[.agg #[.int .i64 co,.int .i64 mo,.int .i64 rm,.slice a L.length cap],.int .i64 (i:Int)] w [] (λg:Option Addr×Nat=>.slice g.1 ((flatL es ks)).length g.2) (λg=>True) λg=>[.own (.slice g.1 ((flatL es ks)).length g.2) 84 2 ((flatL es ks)).length (((flatL es ks)).flatMap TEnt.vals)]:=by
 rw[QJ hi]at hn
 have hes:(nth L i).es=es:=congrArg Nd.es hn
 have hcs:(nth L i).cs=ZI ks:=congrArg Nd.cs hn
 have hesl:(nth L i).es.length=es.length:=by rw[hes]
 have hcsl:(nth L i).cs.length=ks.length:=by rw[hcs,QeB]
 have hel:es.length<=10000:=Nat.le_trans (QeO es ks).length_le hfl
 have hkl:ks.length<=10001:=by rcases hsh with h|h;rw[h];exact Nat.zero_le _;omega
 refine eN2 Tryz.func151 Tryz.ntmps151 ?_
 refine aU2 ?_
 refine oBx λb1 _=>?_
 refine aU7 ?_
 refine o_p (Qa rfl rfl rfl Xl (i) om om (Rw.some hs.1 om)) rfl (o_q (Qn _ rfl rfl ZY rfl (Rw.rd hs.1 hi)) rfl (oAl (λb2 _=>?_) YV))
 refine Qaa ?_
 refine Qo (α:=Nat×(Option Addr×Nat)) [6,7,13,14,15,16,17,18,19,20,21,22,23,24,25,26,27,28,29,30,31,32,33,34,35,36,37,38,39,40,41,42,43,44,45] (λx=>[(7,.int .i64 (x.1:Int)),(6,.slice x.2.1 (YP es ks x.1).length x.2.2)]) (λx=>HS w [] [.blk b1 24 4 [.int .i64 co,.int .i64 mo,.int .i64 rm,.slice a L.length cap],.blk b2 127 3 (nth L i).vals,.own (.slice x.2.1 (YP es ks x.1).length x.2.2) 84 2 (YP es ks x.1).length ((YP es ks x.1).flatMap TEnt.vals)]) (λx=>x.1<=es.length+1) (λx=>es.length+1-x.1) (0,(none,0)) (Nat.zero_le _) aSx (λw h=>(h.own_nil 84 2).ent aEt) (λ⟨k,ga,gc⟩hk1=>?_)
 dsimp only
 simp only[]at hk1
 have hm1:=Qcn (k:=k) hsh hk1
 refine aU9 ?_
 refine sCd rfl (λh3=>?_) λh3=>?_
 ·have hke:k<=es.length:=by have hq:=h3;omega
  have hm2:=Qg7 hsh hke
  have hm3:=Qcn (k:=k+1) hsh om
  refine Qas ?_
  refine XG (α:=Option Addr×Nat) [6,24,25,26,27,28,29,30,31,32] (λx=>[(6,.slice x.1 (QaH es ks k).length x.2)]) (λx=>HS w [] [.blk b1 24 4 [.int .i64 co,.int .i64 mo,.int .i64 rm,.slice a L.length cap],.blk b2 127 3 (nth L i).vals,.own (.slice x.1 (QaH es ks k).length x.2) 84 2 (QaH es ks k).length ((QaH es ks k).flatMap TEnt.vals)]) (λ_=>True) ?_ ?_
  ·skip
   refine sCd rfl (λh4=>?_) λh4=>?_
   ·have hk0:0<ks.length:=by have hq:=h4;omega
    have hkk:k<ks.length:=by rcases hsh with h|h;rw[h]at hk0;exact absurd hk0 (by decide);omega
    have hm4:=congrArg List.length (Y4 (es:=es) (k:=k) hk0)
    rw[List.length_append]at hm4
    refine QG [8] mixed ?_
    refine dP 0 ?_
    refine dLn 1 [[7]] ?_
    refine dFa 2 ?_
    refine dLd 3 [[7,6,5]] ?_
    refine dP 4 ?_
    refine dV 5 rfl (Qa rfl rfl rfl QT (k) om om (Rw.some (hs.cs hi) om)) (dQ 6 [[7]] rfl (Qb rfl rfl Y2 (((hs.cs hi).rdj 0 (i:=k) om rfl))) (QK (show _=Value.int .i64 ((nth ks k).idx:Int)from congrArg (Value.int .i64) (by rw[hcs];exact Ql3 hkk)) (dH 7 rfl (ZZ rfl Qpa rfl (λw1 h1=>ih w1 k hkk (hs.later h1.nil))) (λ⟨gu,gv⟩_=>dBa ?_))))
    refine dH 8 rfl (QM ((nth ks k).flat.flatMap TEnt.vals) rfl rfl rfl QD Tryz.underlying124 YD rfl aPk (λw h=>Rw.src ev2 (HS.rw_own ev2 h aPk rfl) (HS.refl w [])) (QS ev2 _) (Qaj ev1 _) om (by simp only[maxLen];omega)) (λb5 _=>dTu [] ?_)
    refine dP 9 ?_
    refine dNi ?_
    exact Qm b5 trivial (by rw[Y4 hk0,List.length_append];exact aSx) (λw h=>by rw[Y4 hk0,List.length_append,List.flatMap_append];exact h.ent aEt)
   have hk0:¬0<ks.length:=by have hq:=h4;omega
   refine aU ?_
   exact Qm (ga,gc) trivial (by rw[Qc9 hk0];exact aSx) (λw h=>by rw[Qc9 hk0];exact h.ent aEt)
  intro⟨gb,gf⟩ _
  refine aU8 ?_
  refine Qe (L':=[(0,_),(1,_),(2,_),(4,_),(5,_),(6,_),(7,_),(8,_),(9,_),(10,_),(11,_),(12,_),(37,_)]) aSx (λ_ h=>h) ?_
  refine XG (α:=Option Addr×Nat) [6,38,39,40,41,42,43,44,45] (λx=>[(6,.slice x.1 (YP es ks (k+1)).length x.2)]) (λx=>HS w [] [.blk b1 24 4 [.int .i64 co,.int .i64 mo,.int .i64 rm,.slice a L.length cap],.blk b2 127 3 (nth L i).vals,.own (.slice x.1 (YP es ks (k+1)).length x.2) 84 2 (YP es ks (k+1)).length ((YP es ks (k+1)).flatMap TEnt.vals)]) (λ_=>True) ?_ ?_
  ·skip
   refine sCd rfl (λh6=>?_) λh6=>?_
   ·have hke2:k<es.length:=by have hq:=h6;omega
    have hm5:=congrArg List.length (Qao (es:=es) (ks:=ks) hke2)
    rw[List.length_append]at hm5
    refine aU5 ?_
    refine o_p (Qa rfl rfl rfl QD (k) om om (Rw.some (hs.es hi) om)) rfl (o_q (Qn _ rfl rfl ZT rfl (Rw.rd (hs.es hi) om)) rfl (Qs (show _=Value.agg (TEnt.vals (nth es k)).toArray from by rw[hes]) (o_h (Ql (cs:=[_,_]) rfl rfl QD YD rfl rfl rfl) rfl (λb7 _=>o_h (QM (TEnt.vals (nth es k)) rfl rfl rfl QD Tryz.underlying124 YD rfl aPk (Xp aPk) rfl (ev1 _) (by simp only[List.length_singleton]at hm5;omega) (by simp only[maxLen];omega)) rfl (λb8 _=>aU2 ?_)))))
    exact Qm b8 trivial (by rw[Qao hke2,List.length_append];exact aSx) (λw h=>by rw[Qao hke2,List.length_append,List.flatMap_append];simp only[List.flatMap_cons,List.flatMap_nil,List.append_nil];exact h.ent aEt)
   have hke2:¬k<es.length:=by have hq:=h6;omega
   refine aU ?_
   exact Qm (gb,gf) trivial (by rw[Qdg hke2];exact aSx) (λw h=>by rw[Qdg hke2];exact h.ent aEt)
  intro⟨gd,ge⟩ _
  refine aT4 ?_
  refine aU2 ?_
  exact sBk (k+1,(gd,ge)) (by(try simp only[]);omega) (by(try simp only[]);omega)
 refine Qg rfl ?_
 refine aU5 ?_
 exact rT rfl rfl (λw' h'=>⟨(ga,gc),by have hke:k=es.length+1:=om;simp only[Qt];rw[<-Qbt hsh,<-hke],trivial,by have hke:k=es.length+1:=om;rw[<-Qbt hsh,<-hke];exact h'.ent aEt⟩)
theorem c151:∀(d:Nat)(w:World)(co mo rm:Int)(a:Option Addr)(cap:Nat)(L:List LNd)(T:BT)(lo hi:Nat),Nt w [] a L->L.length<=1000->Bel lo hi d T->NIn (pln L) T->T.flat.length<=10000->Calls Tryz.prog 151 #[.agg #[.int .i64 co,.int .i64 mo,.int .i64 rm,.slice a L.length cap],.int .i64 (T.idx:Int)] w λen w'=>∃g:Option Addr×Nat,en=.returned (.slice g.1 (T.flat).length g.2)/\True/\HS w [] [.own (.slice g.1 (T.flat).length g.2) 84 2 (T.flat).length ((T.flat).flatMap TEnt.vals)] w'
  | 0,w,co,mo,rm,a,cap,L,.nd i es ks,lo,hi,hs,hl,hB,hN,hf=>by
    rw[BT.flat]at hf ⊢;have hk:=Qt7 hB;exact QtR w co mo rm a cap L i es ks hs hl (by have h9:=hN.root.1;rwa[Qd]at h9) hN.root.2 (.inl hk) hf (λw1 k h=>by rw[hk]at h;exact absurd h (Nat.not_lt_zero _))
  | d+1,w,co,mo,rm,a,cap,L,.nd i es ks,lo,hi,hs,hl,hB,hN,hf=>by
    have hf2:=hf;rw[BT.flat]at hf ⊢;exact QtR w co mo rm a cap L i es ks hs hl (by have h9:=hN.root.1;rwa[Qd]at h9) hN.root.2 (.inr hB.1) hf (λw1 k h h1=>c151 d w1 co mo rm a cap L (nth ks k) lo hi h1 hl (QmK hB h) (hN.kid h) (Nat.le_trans (QmW hB.1 h) hf))
theorem QwB(w:World)(co mo rm:Int)(a:Option Addr)(cap:Nat)(L:List LNd)(T:BT)(d lo hi:Nat)(hs:Nt w [] a L)(hl:L.length<=1000)(hB:Bel lo hi d T)(hN:NIn (pln L) T)(h0:T.idx=0)(hf:T.flat.length<=10000):CE 151 #[.agg #[.int .i64 co,.int .i64 mo,.int .i64 rm,.slice a L.length cap],.int .i64 0] w [] (λg:Option Addr×Nat=>.slice g.1 (T.flat).length g.2) (λg=>True) λg=>[.own (.slice g.1 (T.flat).length g.2) 84 2 (T.flat).length ((T.flat).flatMap TEnt.vals)]:=by
  have h9:=c151 d w co mo rm a cap L T lo hi hs hl hB hN hf;rw[h0]at h9;exact h9
theorem c87(w:World)(co mo rm:Int)(a:Option Addr)(cap:Nat)(L:List LNd)(T:BT)(d lo hi:Nat)(hs:Nt w [] a L)(hl:L.length<=1000)(hB:Bel lo hi d T)(hN:NIn (pln L) T)(h0:T.idx=0)(hf:T.flat.length<=10000):CE 87 #[.agg #[.int .i64 co,.int .i64 mo,.int .i64 rm,.slice a L.length cap]] w [] (λg:Option Addr×Nat=>.slice g.1 (T.flat).length g.2) (λg=>True) λg=>[.own (.slice g.1 (T.flat).length g.2) 84 2 (T.flat).length ((T.flat).flatMap TEnt.vals)]:=by
 refine eN1 Tryz.func87 Tryz.ntmps87 ?_
 refine aU2 ?_
 refine oBx λb1 _=>?_
 refine aU5 ?_
 refine oCh rfl (λw1 h1=>QwB w1 co mo rm a cap L T d lo hi (hs.later h1.nil) hl hB hN h0 hf) (λ⟨gu,gv⟩_=>aU2 ?_)
 exact rT rfl rfl (λw' h'=>⟨(gu,gv),rfl,trivial,h'.ent aEt⟩)
theorem Qph:QL Tryz.prog 265=true:=by kernel_rfl
theorem Quy:QL Tryz.prog 203=true:=by kernel_rfl
def AllC(S:Type)(I:Nat->S->Prop)(C:S->HA)(st:S->TEnt->S->Prop)(co:S->Bool)(Q:TEnt->Prop)(lr:Nat)(bt:Nat)(j:Nat)(mo rm:Int)(a:Option Addr)(cap:Nat)(L:List LNd)(T:BT):Prop:=∀(w:World)(s:S)(r:Nat),(HS w (fps [C s]) [C s] w)->((∀(n:Nat)(s2:S)(x:TEnt)(w1:World),HS w (fps [C s]) [C s2] w1->I (n+1) s2->Q x->ZD Tryz.prog lr [Value.agg (TEnt.vals x).toArray].toArray w1 λe w2=>∃s3:S,e=.returned (.bool (co s3))/\(st s2 x s3/\(co s3=true->I n s3))/\HS w1 (fps [C s2]) [C s3] w2))->(TbR w (fps [C s]) bt (j:Int) mo rm a L.length cap)->(Nt w (fps [C s]) a L)->(∀x∈T.flat,Q x)->((T.flat).length<=10000)->(I ((T.flat).length+r) s)->Calls Tryz.prog 265 #[.pointer (some ⟨bt,0,none⟩),.int .i64 (T.idx:Int),.func (.yield lr) #[] #[]] w λen w'=>∃g:S×Bool,en=.returned (.bool g.2)/\(RunY st co s T.flat g.1 g.2/\(g.2=true->I r g.1))/\HS w (fps [C s]) [C g.1] w'
theorem QtL(w:World)(S:Type)(I:Nat->S->Prop)(C:S->HA)(st:S->TEnt->S->Prop)(co:S->Bool)(Q:TEnt->Prop)(lr:Nat)(bt:Nat)(j:Nat)(mo rm:Int)(a:Option Addr)(cap:Nat)(L:List LNd)(i:Nat)(es:List TEnt)(ks:List BT)(s:S)(r:Nat)(hw:HS w (fps [C s]) [C s] w)(hv:(∀(n:Nat)(s2:S)(x:TEnt)(w1:World),HS w (fps [C s]) [C s2] w1->I (n+1) s2->Q x->ZD Tryz.prog lr [Value.agg (TEnt.vals x).toArray].toArray w1 λe w2=>∃s3:S,e=.returned (.bool (co s3))/\(st s2 x s3/\(co s3=true->I n s3))/\HS w1 (fps [C s2]) [C s3] w2))(ht:TbR w (fps [C s]) bt (j:Int) mo rm a L.length cap)(hs:Nt w (fps [C s]) a L)(hQ:∀x∈(flatL es ks),Q x)(hf:((flatL es ks)).length<=10000)(hI:I (((flatL es ks)).length+r) s)(hl:L.length<=1000)(hi:i<L.length)(hn:nth (pln L) i=⟨true,es,ZI ks⟩)(hsh:ks=[]\/ks.length=es.length+1)(ih:∀k,k<ks.length->AllC S I C st co Q lr bt j mo rm a cap L (nth ks k)):CE 265 #[.pointer (some ⟨bt,0,none⟩),.int .i64 (i:Int),.func (.yield lr) #[] #[]] w (fps [C s]) (λg:S×Bool=>.bool g.2) (λg=>(RunY st co s (flatL es ks) g.1 g.2/\(g.2=true->I r g.1))) λg=>[C g.1]:=by
 rw[QJ hi]at hn
 have hes:(nth L i).es=es:=congrArg Nd.es hn
 have hcs:(nth L i).cs=ZI ks:=congrArg Nd.cs hn
 have hesl:(nth L i).es.length=es.length:=by rw[hes]
 have hcsl:(nth L i).cs.length=ks.length:=by rw[hcs,QeB]
 have hel:es.length<=10000:=Nat.le_trans (QeO es ks).length_le hf
 have hkl:ks.length<=10001:=by rcases hsh with h|h;rw[h];exact Nat.zero_le _;omega
 refine eW3 Tryz.func265 Tryz.ntmps265 hw ?_
 refine Qbg ?_
 refine o_q (Qb rfl rfl Qat (ht 3 _ rfl)) rfl (aU ?_)
 refine o_p (Qa rfl rfl rfl Xl (i) om om (Rw.some hs.1 om)) rfl (o_q (Qn _ rfl rfl ZY rfl (Rw.rd hs.1 hi)) rfl (oAl (λb1 _=>?_) YV))
 refine aT9 ?_
 refine aU3 ?_
 refine Qe (L':=[(0,_),(2,_),(6,_),(7,_),(20,_),(21,_)]) aSx (λ_ h=>h) ?_
 refine Qo (α:=Nat×S) [6,8,21,22,23,24,25,26,27,28,29,30,31,32,33,34,35,36,37,38,39,40,41,42,43,44,45,46,47,48,49,50,51,52,53,54] (λx=>[(21,.int .i64 (x.1:Int))]) (λx=>HS w (fps [C s]) [.blk b1 127 3 (nth L i).vals,C x.2]) (λx=>x.1<=es.length+1/\RunY st co s (YP es ks x.1) x.2 true/\I ((flatL es ks).length-(YP es ks x.1).length+r) x.2) (λx=>es.length+1-x.1) (0,s) ⟨Nat.zero_le _,.nil s,hI⟩ aSx (λw h=>h.ent aEt) (λ⟨k,sk⟩hx=>?_)
 dsimp only
 obtain⟨hk1,hk2,hk3⟩:=hx
 simp only[]at hk1 hk2 hk3
 have hm1:=Qcn (k:=k) hsh hk1
 refine aU5 ?_
 refine sCd rfl (λh2=>?_) λh2=>?_
 ·have hke:k<=es.length:=by have hq:=h2;omega
  have hm2:=Qg7 hsh hke
  have hm3:=Qcn (k:=k+1) hsh om
  have hm6:=QjA (es:=es) (ks:=ks) (k:=k)
  have hm7:=Qgv (es:=es) (ks:=ks) (k:=k)
  refine QvH ?_
  refine Qqx (α:=S×Bool) 10 28 38 _ (λx=>!x.2) (λx=>HS w (fps [C s]) [.blk b1 127 3 (nth L i).vals,C x.1]) (λx=>RunY st co s (QaH es ks k) x.1 x.2/\(x.2=true->I ((flatL es ks).length-(QaH es ks k).length+r) x.1)) rfl
   (by
    intro hg3
    have hs4:=hg3;try simp only[dT]at hs4
    have hk0:0<ks.length:=by have hq:=hg3;simp at hq;omega
    have hsk:ks.length=es.length+1:=by rcases hsh with h|h;rw[h]at hk0;exact absurd hk0 (by decide);exact h
    have hkk:k<ks.length:=om
    have hm4:=congrArg List.length (Y4 (es:=es) (k:=k) hk0)
    rw[List.length_append]at hm4
    refine aU9 ?_
    refine o_p (Qa rfl rfl rfl QT (k) om om (Rw.some (hs.cs hi) om)) rfl (aU ?_)
    refine o_q (Qb rfl rfl Y2 (((hs.cs hi).rdj 0 (i:=k) om rfl))) rfl (Qs (show _=Value.int .i64 ((nth ks k).idx:Int)from congrArg (Value.int .i64) (by rw[hcs];exact Ql3 hkk)) (aU3 ?_))
    refine o_h (Xy (Cs:=[C sk]) rfl Qph rfl aPs (λw1 h1 hf9=>ih k hkk w1 sk ((flatL es ks).length-(QaH es ks k).length+r) hf9 (λn9 s2 x w2 h2 hI2 hQ2=>hv n9 s2 x w2 (HS.thenF (h1.ent (Bs:=[C sk]) aEt) h2) hI2 hQ2) ((ht.keep h1).mono (Q2 aPs)) ((hs.keep h1).mono (Q2 aPs)) (λx hx=>hQ x (QsH hsk hkk hx)) (Nat.le_trans (QmW hsk hkk) hf) (by rw[show(nth ks k).flat.length+((flatL es ks).length-(QaH es ks k).length+r)=((flatL es ks).length-(YP es ks k).length+r)from om];exact hk3))) rfl (λ⟨sm,bm⟩hRm=>aU2 ?_)
    refine o_p (QF rfl rfl hg3 rfl) rfl (aU ?_)
    exact Qm (sm,bm) ⟨by rw[Y4 hk0];exact hk2.app hRm.1,hRm.2⟩ aSx (λw h=>h.ent aEt))
   (by
    intro hg5
    have hs6:=hg5;try simp only[dN]at hs6
    have hk0:¬0<ks.length:=by have hq:=hg5;simp at hq;omega
    refine aU9 ?_
    refine o_p (Qx rfl rfl hg5 rfl) rfl (aU ?_)
    exact Qm (sk,true) ⟨by rw[Qc9 hk0];exact hk2,λ_=>by rw[Qc9 hk0];exact hk3⟩ aSx (λw h=>h.ent aEt)) ?_
  intro⟨sm,bm⟩ hx
  dsimp only
  obtain⟨hR1,hI1⟩:=hx
  simp only[]at hR1 hI1
  refine aU ?_
  refine sCd rfl (λh7=>?_) λh7=>?_
  ·obtain rfl:bm=false:=by have hq:=h7;simpa using hq
   obtain⟨B9,hB9⟩:=QmA hsh hke
   refine aU4 ?_
   exact rT rfl rfl (λw' h'=>⟨(sm,false),rfl,⟨by rw[hB9];exact hR1.off B9,λh=>by cases h⟩,h'.ent aEt⟩)
  obtain rfl:bm=true:=by have hq:=h7;simpa using hq
  refine aU9 ?_
  refine Qqx (α:=S×Bool) 9 44 53 _ (λx=>!x.2) (λx=>HS w (fps [C s]) [.blk b1 127 3 (nth L i).vals,C x.1]) (λx=>RunY st co s (YP es ks (k+1)) x.1 x.2/\(x.2=true->I ((flatL es ks).length-(YP es ks (k+1)).length+r) x.1)) rfl
   (by
    intro hg8
    have hs9:=hg8;try simp only[dT]at hs9
    have hke2:k<es.length:=by have hq:=hg8;simp at hq;omega
    have hm5:=congrArg List.length (Qao (es:=es) (ks:=ks) hke2)
    rw[List.length_append,List.length_singleton]at hm5
    refine aU9 ?_
    refine o_p (Qa rfl rfl rfl QD (k) om om (Rw.some (hs.es hi) om)) rfl (aU ?_)
    refine o_q (Qn _ rfl rfl ZT rfl (Rw.rd (hs.es hi) om)) rfl (Qs (show _=Value.agg (TEnt.vals (nth es k)).toArray from by rw[hes]) (aU ?_))
    refine o_h (QrI (Cs:=[C sm]) rfl rfl rfl aPs (λw1 h1 hf9=>hv ((flatL es ks).length-(YP es ks (k+1)).length+r) sm (nth es k) w1 (h1.ent aEt) (by rw[show((flatL es ks).length-(YP es ks (k+1)).length+r)+1=((flatL es ks).length-(QaH es ks k).length+r)from om];exact hI1 rfl) (hQ _ (Qv7 hsh hke2)))) rfl (λsy hRy=>aU2 ?_)
    refine o_p (QF rfl rfl hg8 rfl) rfl (aU ?_)
    exact Qm (sy,co sy) ⟨by rw[Qao hke2];exact hR1.app (RunY.one hRy.1),hRy.2⟩ aSx (λw h=>h.ent aEt))
   (by
    intro hg10
    have hs11:=hg10;try simp only[dN]at hs11
    have hke2:¬k<es.length:=by have hq:=hg10;simp at hq;omega
    refine aU8 ?_
    refine o_p (Qx rfl rfl hg10 rfl) rfl (aU ?_)
    exact Qm (sm,true) ⟨by rw[Qdg hke2];exact hR1,λ_=>by rw[Qdg hke2];exact hI1 rfl⟩ aSx (λw h=>h.ent aEt)) ?_
  intro⟨sy,by9⟩ hx
  dsimp only
  obtain⟨hR2,hI2⟩:=hx
  simp only[]at hR2 hI2
  refine aU ?_
  refine sCd rfl (λh12=>?_) λh12=>?_
  ·obtain rfl:by9=false:=by have hq:=h12;simpa using hq
   obtain⟨B9,hB9⟩:=Qmi hsh (show k+1<=es.length+1 by omega)
   refine aU4 ?_
   exact rT rfl rfl (λw' h'=>⟨(sy,false),rfl,⟨by rw[hB9];exact hR2.off B9,λh=>by cases h⟩,h'.ent aEt⟩)
  obtain rfl:by9=true:=by have hq:=h12;simpa using hq
  refine aT4 ?_
  refine aU2 ?_
  exact sBk (k+1,sy) (by(try simp only[]);omega) ⟨by(try simp only[]);omega,hR2,hI2 rfl⟩
 refine Qg rfl ?_
 refine aU4 ?_
 exact rT rfl rfl (λw' h'=>⟨(sk,true),rfl,by have hke:k=es.length+1:=om;rw[<-Qbt hsh,<-hke];exact⟨hk2,λ_=>by rw[<-Qbt hsh,<-hke,Nat.sub_self,Nat.zero_add]at hk3;exact hk3⟩,h'.ent aEt⟩)
theorem c265(S:Type)(I:Nat->S->Prop)(C:S->HA)(st:S->TEnt->S->Prop)(co:S->Bool)(Q:TEnt->Prop)(lr:Nat)(bt:Nat)(j:Nat)(mo rm:Int)(a:Option Addr)(cap:Nat)(L:List LNd)(hl:L.length<=1000):∀(d:Nat)(T:BT)(lo hi:Nat),Bel lo hi d T->NIn (pln L) T->AllC S I C st co Q lr bt j mo rm a cap L T
  | 0,.nd i es ks,lo,hi,hB,hN=>λw s r hw hv ht hs hQ hf hI=>by
    rw[BT.flat]at hQ hf hI ⊢;have hk:=Qt7 hB;exact QtL w S I C st co Q lr bt j mo rm a cap L i es ks s r hw hv ht hs hQ hf hI hl (by have h9:=hN.root.1;rwa[Qd]at h9) hN.root.2 (.inl hk) (λk h=>by rw[hk]at h;exact absurd h (Nat.not_lt_zero _))
  | d+1,.nd i es ks,lo,hi,hB,hN=>λw s r hw hv ht hs hQ hf hI=>by
    rw[BT.flat]at hQ hf hI ⊢;exact QtL w S I C st co Q lr bt j mo rm a cap L i es ks s r hw hv ht hs hQ hf hI hl (by have h9:=hN.root.1;rwa[Qd]at h9) hN.root.2 (.inr hB.1) (λk h=>c265 S I C st co Q lr bt j mo rm a cap L hl d (nth ks k) lo hi (QmK hB h) (hN.kid h))
theorem Qwv(w:World)(S:Type)(I:Nat->S->Prop)(C:S->HA)(st:S->TEnt->S->Prop)(co:S->Bool)(Q:TEnt->Prop)(lr:Nat)(bt:Nat)(j:Nat)(mo rm:Int)(a:Option Addr)(cap:Nat)(L:List LNd)(T:BT)(d lo hi:Nat)(s:S)(r:Nat)(hw:HS w (fps [C s]) [C s] w)(hv:(∀(n:Nat)(s2:S)(x:TEnt)(w1:World),HS w (fps [C s]) [C s2] w1->I (n+1) s2->Q x->ZD Tryz.prog lr [Value.agg (TEnt.vals x).toArray].toArray w1 λe w2=>∃s3:S,e=.returned (.bool (co s3))/\(st s2 x s3/\(co s3=true->I n s3))/\HS w1 (fps [C s2]) [C s3] w2))(ht:TbR w (fps [C s]) bt (j:Int) mo rm a L.length cap)(hs:Nt w (fps [C s]) a L)(hQ:∀x∈T.flat,Q x)(hf:(T.flat).length<=10000)(hI:I ((T.flat).length+r) s)(hl:L.length<=1000)(hB:Bel lo hi d T)(hN:NIn (pln L) T)(h0:T.idx=0):CE 265 #[.pointer (some ⟨bt,0,none⟩),.int .i64 0,.func (.yield lr) #[] #[]] w (fps [C s]) (λg:S×Bool=>.bool g.2) (λg=>(RunY st co s T.flat g.1 g.2/\(g.2=true->I r g.1))) λg=>[C g.1]:=by
  have h9:=c265 S I C st co Q lr bt j mo rm a cap L hl d T lo hi hB hN w s r hw hv ht hs hQ hf hI;rw[h0]at h9;exact h9
theorem Qs9{St α:Type}{st:St->α->St->Prop}{f:St->List α}{l:List α}{s s1:St}{b:Bool}(hst:∀s x s',st s x s'->f s'=f s++[x])(h:RunY st (λ_=>true) s l s1 b):f s1=f s++l:=by
  induction h with
  | nil s=>rw[List.append_nil]
  | go h hc _ ih=>rw[ih,hst _ _ _ h,List.append_assoc];rfl
  | stop h hc=>cases hc
theorem c203(w:World)(S:Type)(I:Nat->S->Prop)(C:S->HA)(st:S->TEnt->S->Prop)(co:S->Bool)(Q:TEnt->Prop)(lr:Nat)(bt:Nat)(j:Nat)(mo rm:Int)(a:Option Addr)(cap:Nat)(L:List LNd)(T:BT)(d lo hi:Nat)(s:S)(r:Nat)(hw:HS w (fps [C s]) [C s] w)(hv:(∀(n:Nat)(s2:S)(x:TEnt)(w1:World),HS w (fps [C s]) [C s2] w1->I (n+1) s2->Q x->ZD Tryz.prog lr [Value.agg (TEnt.vals x).toArray].toArray w1 λe w2=>∃s3:S,e=.returned (.bool (co s3))/\(st s2 x s3/\(co s3=true->I n s3))/\HS w1 (fps [C s2]) [C s3] w2))(ht:TbR w (fps [C s]) bt (j:Int) mo rm a L.length cap)(hs:Nt w (fps [C s]) a L)(hQ:∀x∈T.flat,Q x)(hf:(T.flat).length<=10000)(hI:I ((T.flat).length+r) s)(hl:L.length<=1000)(hB:Bel lo hi d T)(hN:NIn (pln L) T)(h0:T.idx=0):CE 203 #[.pointer (some ⟨bt,0,none⟩),.func (.yield lr) #[] #[]] w (fps [C s]) (λg:S×Bool=>.tuple #[]) (λg=>(RunY st co s T.flat g.1 g.2/\(g.2=true->I r g.1))) λg=>[C g.1]:=by
 refine eW2 Tryz.func203 Tryz.ntmps203 hw ?_
 refine aU3 ?_
 refine o_h (Xy (Cs:=[C s]) rfl Qph rfl aPs (λw1 h1 hf9=>Qwv w1 S I C st co Q lr bt j mo rm a cap L T d lo hi s r hf9 (λn9 s2 x w2 h2 hI2 hQ2=>hv n9 s2 x w2 (HS.thenF (h1.ent (Bs:=[C s]) aEt) h2) hI2 hQ2) ((ht.keep h1).mono (Q2 aPs)) ((hs.keep h1).mono (Q2 aPs)) hQ hf hI hl hB hN h0)) rfl (λ⟨sm,bm⟩hRm=>aU ?_)
 exact Qlr rfl (λw' h'=>⟨(sm,bm),rfl,hRm,h'.ent aEt⟩)
theorem c264(w:World)(bt:Nat)(j:Nat)(mo rm:Int)(a:Option Addr)(cap:Nat)(L:List LNd)(T:BT)(d lo hi:Nat)(hs:Nt w [] a L)(ht:TbR w [] bt (j:Int) mo rm a L.length cap)(hl:L.length<=1000)(hB:Bel lo hi d T)(hN:NIn (pln L) T)(h0:T.idx=0)(hf:T.flat.length<=10000):CE 264 #[.slice none 0 0,.func (.func 203) #[.pointer (some ⟨bt,0,none⟩)] #[]] w [] (λg:Option Addr×Nat=>.slice g.1 (T.flat).length g.2) (λg=>True) λg=>[.own (.slice g.1 (T.flat).length g.2) 84 2 (T.flat).length ((T.flat).flatMap TEnt.vals)]:=by
 refine eN2 Tryz.func264 Tryz.ntmps264 ?_
 refine aU2 ?_
 refine oBx λb1 _=>?_
 refine aU8 ?_
 refine Qkh (G:={s:((Option Addr×Nat)×List TEnt) // s.2=T.flat}) (Bs:=λs=>[.blk b1 124 1 [.slice s.1.1.1 s.1.2.length s.1.1.2],.own (.slice s.1.1.1 (s.1.2).length s.1.1.2) 84 2 (s.1.2).length ((s.1.2).flatMap TEnt.vals)]) (jmp:=λ_=>none) rfl rfl rfl Quy (λfid D l a9 w1 ob hob ha9 hw1=>?_) (λD x=>?_)
 ·skip
  have h2:HS w [] [(λs=>.star [.obj l ob,.obj D (.deferred (some [])),.blk b1 124 1 [.slice s.1.1 s.2.length s.1.2],.own (.slice s.1.1 (s.2).length s.1.2) 84 2 (s.2).length ((s.2).flatMap TEnt.vals)]) ((none,0),[])] w1:=HS.star_close (Bs:=[_,_,_,_]) ((hw1.own_nil 84 2).ent aEt)
  refine Calls.mono (c203 w1 ((Option Addr×Nat)×List TEnt) (λn s=>s.2.length+n<=10000) (λs=>.star [.obj l ob,.obj D (.deferred (some [])),.blk b1 124 1 [.slice s.1.1 s.2.length s.1.2],.own (.slice s.1.1 (s.2).length s.1.2) 84 2 (s.2).length ((s.2).flatMap TEnt.vals)]) (λs x s3=>s3.2=s.2++[x]) (λ_=>true) (λ_=>True) l bt j mo rm a cap L T d lo hi ((none,0),[]) 0 (HS.focus (Cs:=[_]) (Ds:=[]) h2) ?_ (ht.keep h2) (hs.keep h2) (λ_ _=>trivial) hf (by show 0+_<=_;omega) hl hB hN h0) λe w2 hx=>?_
  rotate_left
  ·obtain⟨⟨sm,bm⟩,he,⟨hr,_⟩,h5⟩:=hx
   refine⟨⟨_,he⟩,⟨sm,by have h7:=Qs9 (f:=λs:((Option Addr×Nat)×List TEnt)=>s.2) (λ_ _ _ h=>h) hr;simpa using h7⟩,?_⟩
   have h6:=HS.star_open (HS.callA h2 h5)
   subst hob
   exact h6.ent aEt
  intro n9 s2 x w3 h3 hI2 _
  have h4:=HS.star_open (HS.focus (Cs:=[_]) (Ds:=[]) h3)
  subst hob
  obtain⟨⟨ga,gc⟩,lg⟩:=s2
  dsimp only at h4 hI2 ⊢
  refine Qq8 (α:=Nat) (fn:=Tryz.f264) (As1:=λb5=>.obj D (.deferred (some []))::[.blk b1 124 1 [.slice ga lg.length gc],.own (.slice ga (lg).length gc) 84 2 (lg).length ((lg).flatMap TEnt.vals),.blk b5 84 2 (TEnt.vals x)]) (L1:=λb5=>[(5,.pointer (some ⟨b5,0,none⟩)),(2,.pointer (some ⟨b1,0,none⟩))]) h4 rfl (FR.round1 ha9 7 _ rfl) ?_ ?_
  ·skip
   refine aU ?_
   refine oAl (λb2 _=>?_) YD
   refine aU2 ?_
   exact Qvi b2 aSx (λw h=>h.ent aEt)
  skip
  intro b5
  refine aU4 ?_
  refine o_h (Ql (cs:=[_,_]) rfl rfl QD YD rfl rfl rfl) rfl (λb3 _=>o_h (QM (TEnt.vals x) rfl rfl rfl QD Tryz.underlying124 YD rfl aPk (Xp aPk) rfl (ev1 _) om (by simp only[maxLen];omega)) rfl (λb4 _=>aU3 ?_))
  exact QkT rfl aPk (λw h=>⟨(b4,lg++[x]),rfl,⟨rfl,λ_=>by simp only[List.length_append,List.length_singleton];omega⟩,by refine HS.star_close (Bs:=[_,_,_,_]) ?_;simp only[List.length_append,List.length_singleton,List.flatMap_append,List.flatMap_cons,List.flatMap_nil,List.append_nil];exact h.ent aEt⟩)
 skip
 obtain⟨⟨⟨gx,gy⟩,lg⟩,hlg⟩:=x
 dsimp only at hlg
 subst hlg
 dsimp only
 refine Qnr (.inl rfl) ?_
 refine aU5 ?_
 exact QuY (rs:=[.tmp 4]) rfl aPk (.tmp rfl (.nil)) (λw' h'=>⟨(gx,gy),rfl,trivial,h'.ent aEt⟩)
instance:TFn Tryz.prog 264:=⟨by kernel_rfl⟩
instance:TFn Tryz.prog 202:=⟨by kernel_rfl⟩
theorem c202(w:World)(bt:Nat)(j:Nat)(mo rm:Int)(a:Option Addr)(cap:Nat)(L:List LNd)(T:BT)(d lo hi:Nat)(hs:Nt w [] a L)(ht:TbR w [] bt (j:Int) mo rm a L.length cap)(hl:L.length<=1000)(hB:Bel lo hi d T)(hN:NIn (pln L) T)(h0:T.idx=0)(hf:T.flat.length<=10000):CE 202 #[.func (.func 203) #[.pointer (some ⟨bt,0,none⟩)] #[]] w [] (λg:Option Addr×Nat=>.slice g.1 (T.flat).length g.2) (λg=>True) λg=>[.own (.slice g.1 (T.flat).length g.2) 84 2 (T.flat).length ((T.flat).flatMap TEnt.vals)]:=by
 refine eN1 Tryz.func202 Tryz.ntmps202 ?_
 refine aU7 ?_
 refine oCh rfl (λw1 h1=>c264 w1 bt j mo rm a cap L T d lo hi (hs.later h1.nil) (ht.next h1.nil) hl hB hN h0 hf) (λ⟨gu,gv⟩_=>aU2 ?_)
 exact rT rfl rfl (λw' h'=>⟨(gu,gv),rfl,trivial,h'.ent aEt⟩)
theorem c135e(w:World)(co mo rm:Int)(a:Option Addr)(cap:Nat)(L:List LNd)(hs:Nt w [] a L)(hB:Bd (pln L))(hkl:∀i,i<L.length->∀x∈(nth L i).es,x.key.length<=1000000)(he:¬(XD (⟨co,mo,rm,pln L⟩:Tre)).2=0):CR 135 #[.agg #[.int .i64 co,.int .i64 mo,.int .i64 rm,.slice a L.length cap]] w (.tuple #[.slice none 0 0,.int .i64 (XD (⟨co,mo,rm,pln L⟩:Tre)).2]):=by
 refine eN1 Tryz.func135 Tryz.ntmps135 ?_
 refine aU2 ?_
 refine oBx λb1 _=>?_
 refine aU6 ?_
 refine oCq rfl (λw1 h1=>QtY w1 co mo rm a cap L (hs.later h1.nil) hB hkl he) (Qaa ?_)
 refine sCd rfl (λh2=>?_) λh2=>?_
 ·refine aU6 ?_
  exact Qj (rs:=[.tmp 2,.tmp 3]) rfl (.tmp rfl (.tmp rfl (.nil))) (λw' h'=>⟨rfl,h'.below⟩)
 exfalso;first|omega|(simp at h2;done)|(simp_all;done)
theorem Qxb(w:World)(j:Nat)(mo rm:Int)(a:Option Addr)(cap:Nat)(L:List LNd)(T:BT)(d lo hi:Nat)(hs:Nt w [] a L)(hB:Bd (pln L))(hkl:∀i,i<L.length->∀x∈(nth L i).es,x.key.length<=1000000)(h0:(XD (⟨(j:Int),mo,rm,pln L⟩:Tre)).2=0)(hl2:L.length<=1000)(hBl:Bel lo hi d T)(hN:NIn (pln L) T)(hT0:T.idx=0)(hf:T.flat.length<=10000):CE 135 #[.agg #[.int .i64 (j:Int),.int .i64 mo,.int .i64 rm,.slice a L.length cap]] w [] (λg:Option Addr×Nat=>.tuple #[.slice g.1 (T.flat).length g.2,.int .i64 0]) (λg=>True) λg=>[.own (.slice g.1 (T.flat).length g.2) 84 2 (T.flat).length ((T.flat).flatMap TEnt.vals)]:=by
 obtain⟨hc0,hz0,hl0,hl120,hn0,_,_⟩:=QdM h0
 rw[show((⟨(j:Int),mo,rm,pln L⟩:Tre)).ns=pln L from rfl,Qd]at hl0 hl120
 have hj:j<=3:=by obtain⟨j9,e9,hj9⟩:=Qcp hc0;have e8:((j:Nat):Int)=(j9:Int):=e9;omega
 have hT:TOk (j:Int) (pln L):=QbF (t:=(⟨(j:Int),mo,rm,pln L⟩:Tre)) hn0
 have hmo:=(Qbz hz0).1
 simp only[]at hmo
 refine eN1 Tryz.func135 Tryz.ntmps135 ?_
 refine aU2 ?_
 refine oBx λb1 _=>?_
 refine aU6 ?_
 refine oCh rfl (λw1 h1=>QtM w1 j mo rm a cap L (hs.later h1.nil) hB hkl h0) (λ⟨b9,⟨gn9,c9⟩,L9⟩hF9=>?_)
 dsimp only
 obtain⟨hL9,hn9,hm9⟩:=hF9
 simp only[]at hL9 hn9 hm9
 have hl9:L9.length=L.length:=by rw[<-Qd L9,hL9,Qd]
 have hB9:Bd (pln L9):=by rw[hL9];exact hB
 have hT9:TOk (j:Int) (pln L9):=by rw[hL9];exact hT
 have hK9:∀i,i<L9.length->∀y∈(nth L9 i).es,QP (j:Int) y.key=true/\y.key.length<=1000000:=λi hi y hy=>QfH hT9 i (by rw[Qd];exact hi) y (by rw[QJ hi];exact hy)
 refine Qaa ?_
 refine sCd rfl (λh2=>?_) λh2=>?_
 ·exfalso;first|omega|(simp at h2;done)|(simp_all;done)
 refine aU5 ?_
 refine oCh rfl (λw1 h1=>c202 w1 b9 j mo rm (some ⟨gn9,0,none⟩) c9 L9 T d lo hi (HS.nt_at h1 aPk aPk) (HS.tbr h1 aPk) om hBl (by rw[hL9];exact hN) hT0 hf) (λ⟨gu,gv⟩_=>aU3 ?_)
 exact Qj (rs:=[.tmp 2,.tmp 3]) rfl (.tmp rfl (.tmp rfl (.nil))) (λw' h'=>⟨(gu,gv),rfl,trivial,h'.ent aEt⟩)
theorem QbI{α:Type}{l:List α}{f:α->Int}{k:Nat}{d:α}(h:k<l.length):QB ((l.map f).drop k) k=if f (l.getD k d)=0 then QB ((l.map f).drop (k+1)) (k+1)else((k:Int),f (l.getD k d)):=by
  rw[X2 (by rw[List.length_map];exact h),Xn (d:=d) h]
theorem QuU(w:World)(t s:List UInt8)(hl:t.length=128)(hc:∀c∈s,c.toNat<128)(hm:s.length<=1000000):CR 159 #[.string (bs t),.string (bs s)] w (.string (bs (up t s))):=by
 refine eN2 Tryz.func159 Tryz.ntmps159 ?_
 refine Qhm ?_
 refine Qo (α:=Nat) [5,6,7,8,9,10,11,12,13,14,15,16,17,18,19,20,21] (λk=>[(6,.int .i64 (k:Int)),(5,.string (bs ((up t s).take k)))]) (λ_=>HS w [] []) (λk=>k<=s.length) (λk=>s.length-k) 0 (Nat.zero_le _) aSx (λw h=>h.ent aEt) (λk hk1=>?_)
 refine aU5 ?_
 refine o_p (Qp rfl rfl Tryz.underlying9) rfl (aU2 ?_)
 refine sCd rfl (λh1=>?_) λh1=>?_
 ·have hk:k<s.length:=by omega
  have hck:=hc (s.getD k 0) (Yn hk)
  have hul:=ZV t s
  have hsu:(up t s).take (k+1)=(up t s).take k++[t.getD (s.getD k 0).toNat 0]:=by rw[Q9 (d:=0) om];unfold up;rw[Xn (d:=0) hk]
  refine aU8 ?_
  refine o_p (Qy rfl rfl rfl Tryz.underlying9 (k) om om) rfl ?_
  refine o_p (Qy rfl rfl rfl Tryz.underlying9 ((s.getD k 0).toNat) om om) rfl ?_
  refine o_h (Ql (cs:=[_]) rfl rfl XH Qi6 rfl rfl rfl) rfl (λb2 _=>o_q (Zf rfl rfl Tryz.underlying226 Tryz.underlying9 Tryz.underlying5 aPk (by simp) (by intro v hv;simp only[List.mem_cons,List.mem_nil_iff,or_false]at hv;subst hv;rfl)) rfl (Qs (show _=Value.string (bs [t.getD (s.getD k 0).toNat 0])from by simp[Gx.vByte,Go.RowKit.intOf]) (o_p (XI rfl rfl rfl (by(try simp only[List.length_append,List.length_cons,List.length_nil,List.length_replicate,List.length_take,List.length_drop]);omega)) rfl (aT6 ?_))))
  refine aU2 ?_
  exact sBk (k+1) om om (by(try dsimp only);rw[hsu];exact aSx)
 obtain rfl:k=s.length:=om
 refine Qg rfl ?_
 refine aU5 ?_
 exact rV (h:=by simp only[Qt];rw[List.take_of_length_le (by rw[ZV];exact Nat.le_refl _)])
theorem c86(w:World):CR 86 #[] w (.string (bs Yz)):=by
 refine eN0 Tryz.func86 Tryz.ntmps86 ?_
 refine aU6 ?_
 refine o_h (QdI (n:=128) rfl rfl rfl XH Qi6 om om) rfl (λb1 _=>aU8 ?_)
 refine Qo (α:=Nat) [2,4,5,6,7,8,9,10,11,12,13,14,15,16,17,18,19,20] (λk=>[(2,.int .i64 (k:Int))]) (λk=>HS w [] [.blk b1 5 (128*1) ((QdJ k).map bv)]) (λk=>k<=128) (λk=>128-k) 0 (Nat.zero_le _) aSx (λw h=>h.ent aEt) (λk hk1=>?_)
 refine aU6 ?_
 refine sCd rfl (λh2=>?_) λh2=>?_
 ·have hk:k<128:=by omega
  have hkm:k<(QdJ k).length:=by rw[QeC hk1];exact hk
  refine aU8 ?_
  refine o_p (QW rfl rfl Qco QeX) rfl ?_
  refine Qs (show _=bv (UInt8.ofNat k)from by unfold bv;congr 1<;>(rw[UInt8.toNat_ofNat',QcZ k om];omega)) (o_p (Qa rfl rfl rfl XH (k) om om rfl) rfl (Qs (show _=Value.pointer (some ⟨b1,k*1,none⟩)from by rw[Nat.zero_add]) (aU5 ?_)))
  refine oCq rfl (λw1 h1=>c27 w1 _ _ _) (aU ?_)
  refine sCd rfl (λh3=>?_) λh3=>?_
  ·have hq:=h3
   have hsk:Qce k=UInt8.ofNat (k-32):=by unfold Qce;rw[if_pos om]
   refine aT5 ?_
   refine o_p (QW rfl rfl Qco QeX) rfl (Qs (show _=bv (Qce k)from by rw[hsk];unfold bv;congr 1;rw[UInt8.toNat_ofNat',show((k:Int)-32)=((k-32:Nat):Int)from om,QcZ _ om];omega) (o_p (Qa rfl rfl rfl XH (k) om om rfl) rfl (Qs (show _=Value.pointer (some ⟨b1,k*1,none⟩)from by rw[Nat.zero_add]) (aT6 ?_))))
   refine aU2 ?_
   exact Qv (k+1) om om aSx (λw h=>by have h1:=HS.blk_to (b:=b1) h aPk (show Qf (Qf ((QdJ k).map bv) (k*1) [bv (UInt8.ofNat k)]) (k*1) [bv (Qce k)]=((QdJ k).set k (Qce k)).map bv from by rw[Qsn hkm rfl,Qsn (by rw[List.length_set];exact hkm) rfl,List.set_set]);rw[Qeh hk]at h1;exact h1.ent aEt)
  have hq:=h3
  have hsk:Qce k=UInt8.ofNat k:=by unfold Qce;rw[if_neg om]
  refine aT5 ?_
  refine aU2 ?_
  exact Qv (k+1) om om aSx (λw h=>by have h1:=HS.blk_to (b:=b1) h aPk (Qsn (x:=UInt8.ofNat k) hkm rfl);rw[<-hsk,Qeh hk]at h1;exact h1.ent aEt)
 obtain rfl:k=128:=om
 refine Qg rfl ?_
 refine aU3 ?_
 refine o_q (Zf rfl rfl Tryz.underlying226 Tryz.underlying9 Tryz.underlying5 aPk (by simp[QeC]) (QcW _)) rfl (aU2 ?_)
 exact rV (h:=by simp only[Qbr];simp[QdJ,Qap,List.take_of_length_le];rfl)
instance:TFn Tryz.prog 221:=⟨by kernel_rfl⟩
instance:TFn Tryz.prog 222:=⟨by kernel_rfl⟩
instance:TFn Tryz.prog 159:=⟨by kernel_rfl⟩
instance:TFn Tryz.prog 158:=⟨by kernel_rfl⟩
theorem Qpr{s:List UInt8}{j k:Nat}(hj:j<=k)(hk:k<s.length)(h:s.getD k 0=46)(hn:∀x,j<=x->x<k->s.getD x 0≠46):Qw (s.drop j)=(s.take k).drop j::Qw (s.drop (k+1)):=by
  have hg:∀x,(s.drop j).getD x 0=s.getD (j+x) 0:=λx=>by rw[List.getD_eq_getElem?_getD,List.getD_eq_getElem?_getD,List.getElem?_drop]
  rw[split_at (i:=k-j) (by rw[List.length_drop];omega) (by rw[hg,show j+(k-j)=k by omega];exact h) (λx hx=>by rw[hg];exact hn _ om om),List.drop_drop,show j+(k-j+1)=k+1 by omega,List.drop_take]
theorem Qk9{s:List UInt8}{j:Nat}(hn:∀x,j<=x->x<s.length->s.getD x 0≠46):Qw (s.drop j)=[s.drop j]:=Qeb λhm=>by
  obtain⟨x,hx,e⟩:=Qek (d:=0) hm;rw[List.length_drop]at hx;refine hn (j+x) om om ?_;rw[<-e,List.getD_eq_getElem?_getD,List.getD_eq_getElem?_getD,List.getElem?_drop]
theorem Qii:∀s:List UInt8,(Qw s).length<=s.length+1
  | []=>by simp[Qw]
  | c::s=>by
    have:=Qii s;unfold Qw;split
    · simp;omega
    · have h2:=List.length_pos_iff.2 (QeJ s);simp only[List.length_cons,List.length_tail];omega
theorem QbO:∀(s:List UInt8),∀p∈Qw s,p.length<=s.length
  | [],p,h=>by simp[Qw]at h;simp[h]
  | c::s,p,h=>by
    unfold Qw at h;split at h
    · rcases List.mem_cons.1 h with rfl|h
      · simp
      · have:=QbO s p h;simp;omega
    · rcases List.mem_cons.1 h with rfl|h
      · have h2:=QeJ s
        have h3:(Qw s).head!∈Qw s:=by
          cases hA:Qw s with
          | nil=>exact absurd hA h2
          | cons a l=>simp[List.head!]
        have:=QbO s _ h3;simp only[List.length_cons];omega
      · have:=QbO s p (List.mem_of_mem_tail h);simp;omega
theorem QuW{s:List UInt8}(h:(2<((Qw s).length:Int)\/¬1<=(((Qw s).getD 0 []).length:Int)\/¬(((Qw s).getD 0 []).length:Int)<=8)\/((Qw s).length:Int)=2/\(¬1<=(((Qw s).getD 1 []).length:Int)\/¬(((Qw s).getD 1 []).length:Int)<=3)):shR s=false:=by
  rw[Bool.eq_false_iff];intro hA;unfold shR at hA;simp only[Bool.and_eq_true,Bool.or_eq_true,Bool.not_eq_true',decide_eq_true_eq,decide_eq_false_iff_not]at hA;obtain⟨⟨⟨h1,h2⟩,h3⟩,_⟩:=hA;omega
theorem QsJ{s:List UInt8}(h:(¬2<((Qw s).length:Int)/\1<=(((Qw s).getD 0 []).length:Int)/\(((Qw s).getD 0 []).length:Int)<=8)/\(¬((Qw s).length:Int)=2\/1<=(((Qw s).getD 1 []).length:Int)/\(((Qw s).getD 1 []).length:Int)<=3)):shR s=s.all λc=>decide (c=46)||Xv c:=by
  unfold shR
  have hA:(decide ((Qw s).length<=2)&&(decide (1<=((Qw s).getD 0 []).length)&&decide (((Qw s).getD 0 []).length<=8))&&(!decide ((Qw s).length=2)||(decide (1<=((Qw s).getD 1 []).length)&&decide (((Qw s).getD 1 []).length<=3))))=true:=by
    simp only[Bool.and_eq_true,Bool.or_eq_true,Bool.not_eq_true',decide_eq_true_eq,decide_eq_false_iff_not];omega
  rw[hA,Bool.true_and]
theorem c221(w:World)(s:List UInt8)(hm:s.length<=1000000):CE 221 #[.string (bs s),.int .u8 46] w [] (λg:Option Addr×Nat=>.slice g.1 (Qw s).length g.2) (λg=>True) λg=>[.own (.slice g.1 (Qw s).length g.2) 9 1 (Qw s).length ((Qw s).map Qar)]:=by
 refine eN2 Tryz.func221 Tryz.ntmps221 ?_
 refine aU18 ?_
 refine Qo (α:=Nat×Nat×(Option Addr×Nat)×List (List UInt8)) [5,6,7,8,9,10,11,12,13,14,15,16,17,18,19,20,21,22,23,24,25,26,27] (λy=>[(7,.int .i64 (y.1:Int)),(6,.int .i64 (y.2.1:Int)),(5,.slice y.2.2.1.1 y.2.2.2.length y.2.2.1.2)]) (λy=>HS w [] [.own (.slice y.2.2.1.1 y.2.2.2.length y.2.2.1.2) 9 1 y.2.2.2.length (y.2.2.2.map Qar)]) (λy=>y.2.1<=y.1/\y.1<=s.length/\(Qw s=y.2.2.2++Qw (s.drop y.2.1)/\y.2.2.2.length<=y.2.1)/\∀x,y.2.1<=x->x<y.1->s.getD x 0≠46) (λy=>s.length-y.1) (0,0,(none,0),[]) ⟨Nat.le_refl _,Nat.zero_le _,⟨rfl,Nat.le_refl _⟩,λx _ h=>absurd h (Nat.not_lt_zero x)⟩ aSx (λw h=>(h.own_nil 9 1).ent aEt) (λ⟨k,j,A,P⟩hy=>?_)
 dsimp only at hy ⊢
 obtain⟨hy1,hy2,⟨hy3,hyl⟩,hy4⟩:=hy
 refine aU5 ?_
 refine o_p (Qp rfl rfl Tryz.underlying9) rfl (aU2 ?_)
 refine sCd rfl (λh1=>?_) λh1=>?_
 ·have hk:k<s.length:=by omega
  have e46:((s.getD k 0).toNat:Int)=46 ↔ s.getD k 0=46:=⟨λh=>UInt8.toNat_inj.1 (by show(s.getD k 0).toNat=46;omega),λh=>by rw[h];rfl⟩
  refine aU7 ?_
  refine o_p (Qy rfl rfl rfl Tryz.underlying9 (k) om om) rfl ?_
  refine aU3 ?_
  refine sCd rfl (λh2=>?_) λh2=>?_
  ·have hc46:s.getD k 0=46:=e46.1 h2
   have hsg:=Qpr hy1 hk hc46 hy4
   refine aU6 ?_
   refine o_p (QaT _ _ j k rfl rfl Tryz.underlying9 ⟨_,_,rfl,rfl⟩ ⟨_,_,rfl,rfl⟩ om om) rfl (o_h (Ql (cs:=[_]) rfl rfl YK QeP rfl rfl rfl) rfl (λb3 _=>o_h (QM (n:=P.length) [.string (bs ((s.take k).drop j))] rfl rfl rfl YK Tryz.underlying69 QeP rfl aPk (Xp aPk) rfl (by intro u hu;simp only[List.mem_cons,List.mem_nil_iff,or_false]at hu;subst hu;rfl) om (by simp only[maxLen];omega)) rfl (λb4 _=>aT5 ?_)))
   refine aT6 ?_
   refine aU2 ?_
   exact Qv (k+1,k+1,b4,P++[(s.take k).drop j]) (by show s.length-(k+1)<s.length-k;omega) ⟨Nat.le_refl _,by show k+1<=s.length;omega,⟨by dsimp only;rw[hy3,hsg,List.append_assoc];rfl,by dsimp only;rw[List.length_append,List.length_singleton];omega⟩,λx h1 h2=>absurd (Nat.lt_of_lt_of_le h2 h1) (Nat.lt_irrefl _)⟩ (by(try dsimp only);rw[List.length_append];exact aSx) (λw h=>by dsimp only;rw[List.length_append,List.map_append];exact h.ent aEt)
  have hc46:¬s.getD k 0=46:=λhA=>h2 (e46.2 hA)
  refine aT5 ?_
  refine aU2 ?_
  exact sBk (k+1,j,A,P) (by show s.length-(k+1)<s.length-k;omega) ⟨by show j<=k+1;omega,by show k+1<=s.length;omega,⟨hy3,hyl⟩,λx h1 h2=>(Nat.lt_succ_iff_lt_or_eq.1 h2).elim (hy4 x h1) (λe=>by rw[e];exact hc46)⟩
 obtain rfl:k=s.length:=om
 have hse:=Qk9 (s:=s) (j:=j) hy4
 refine Qg rfl ?_
 refine aU5 ?_
 refine o_p (XK j rfl rfl rfl Tryz.underlying9 rfl om) rfl (o_h (Ql (cs:=[_]) rfl rfl YK QeP rfl rfl rfl) rfl (λb5 _=>o_h (QM (n:=P.length) [.string (bs (s.drop j))] rfl rfl rfl YK Tryz.underlying69 QeP rfl aPk (Xp aPk) rfl (by intro u hu;simp only[List.mem_cons,List.mem_nil_iff,or_false]at hu;subst hu;rfl) om (by simp only[maxLen];omega)) rfl (λb6 _=>aU2 ?_)))
 exact rT rfl rfl (λw' h'=>⟨b6,by simp only[Qt];rw[hy3,hse,List.length_append];rfl,trivial,by rw[hy3,hse,List.length_append,List.map_append];exact h'.ent aEt⟩)
set_option maxHeartbeats 2000000 in
theorem c158(w:World)(s:List UInt8)(hm:s.length<=100000):CR 158 #[.string (bs s)] w (.bool (YW s)):=by
 have hpl:=Qii s
 have hp0:=List.length_pos_iff.2 (QeJ s)
 have hx0:((Qw s).getD 0 []).length<=s.length:=QbO s _ (Yn hp0)
 have e46:∀k:Nat,((s.getD k 0).toNat:Int)=46 ↔ s.getD k 0=46:=λk=>⟨λh=>UInt8.toNat_inj.1 (by show(s.getD k 0).toNat=46;omega),λh=>by rw[h];rfl⟩
 refine eN1 Tryz.func158 Tryz.ntmps158 ?_
 refine aU7 ?_
 refine oCh rfl (λw1 h1=>c221 w1 s om) (λgs _=>aU ?_)
 refine Qis (λw h=>(h.vl_own aPk).some (by rw[List.length_map];exact hp0)) (λhsm=>aU8 ?_)
 refine oOr 7 10 17 rfl
  (λhg1 _=>by
   refine aU3 ?_
   refine o_p (Qa rfl rfl rfl YK (0) om om hsm) rfl (aU ?_)
   refine o_q (Xi rfl rfl YB (λw h=>(h.vl_own aPk).rd (QeI (k:=0) hp0))) rfl (aU ?_)
   refine o_p (Qp rfl rfl Tryz.underlying9) rfl (aU ?_)
   refine oCq rfl (λw1 h1=>c27 w1 _ _ _) (aU2 ?_)
   exact oJf 7 17)
  (λhg3 _=>by
   refine aU6 ?_
   exact oJt 7 17) ?_
 refine aU ?_
 refine oOr 12 18 30 rfl
  (λhg5 _=>by
   refine aU8 ?_
   refine Xs 7 22 29 rfl
    (λhg7 _=>by
     refine aU3 ?_
     refine o_p (Qa rfl rfl rfl YK (1) om om hsm) rfl (aU ?_)
     refine o_q (Xi rfl rfl YB (λw h=>(h.vl_own aPk).rd (QeI (k:=1) (by have hq:=hg7;simp at hq;omega)))) rfl (aU ?_)
     refine o_p (Qp rfl rfl Tryz.underlying9) rfl (aU ?_)
     refine oCq rfl (λw1 h1=>c27 w1 _ _ _) (aU3 ?_)
     exact oJt 7 29)
    (λhg9 _=>by
     refine aU7 ?_
     exact oJf 7 29) ?_
   exact oJf 6 30)
  (λhg11 _=>by
   refine Qas ?_
   exact oJt 12 30) ?_
 refine aU ?_
 refine sCd rfl (λh13=>?_) λh13=>?_
 ·have hf:shR s=false:=QuW h13
  refine aU4 ?_
  exact rV (h:=by rw[<-QkW,hf];rfl)
 have hr:shR s=s.all λc=>decide (c=46)||Xv c:=QsJ h13
 refine aU7 ?_
 refine Qe (L':=[(0,_),(2,_),(4,_)]) aSx (λ_ h=>h) ?_
 refine Qo (α:=Nat) [2,4,31,32,33,34,35,36,37,38,39,40,41,42,43,44,45,46,47] (λk=>[(4,.int .i64 (k:Int))]) (λ_=>HS w [] []) (λk=>k<=s.length/\(s.take k).all (λc=>decide (c=46)||Xv c)=true) (λk=>s.length-k) 0 ⟨Nat.zero_le _,rfl⟩ aSx (λw h=>h.ent aEt) (λk hkk=>?_)
 obtain⟨hk1,hk2⟩:=hkk
 refine aU5 ?_
 refine o_p (Qp rfl rfl Tryz.underlying9) rfl (aU2 ?_)
 refine sCd rfl (λh14=>?_) λh14=>?_
 ·have hk:k<s.length:=by omega
  have hst:=Qj2 (p:=λc=>decide (c=46)||Xv c) hk
  refine aU7 ?_
  refine o_p (Qy rfl rfl rfl Tryz.underlying9 (k) om om) rfl ?_
  refine aU2 ?_
  refine Xs 6 41 47 rfl
   (λhg15 _=>by
    refine aU5 ?_
    refine o_p (Qy rfl rfl rfl Tryz.underlying9 (k) om om) rfl ?_
    refine aU ?_
    refine oCq rfl (λw1 h1=>c222 w1 (s.getD k 0)) (aU2 ?_)
    exact oJt 6 47)
   (λhg17 _=>by
    refine aU5 ?_
    exact oJf 6 47) ?_
  refine aU ?_
  refine sCd rfl (λh19=>?_) λh19=>?_
  ·have hf:shR s=false:=by rw[hr];exact Qmk hk (by have hq:=h19;simp only[e46]at hq;simp;exact hq)
   refine aU4 ?_
   exact rV (h:=by rw[<-QkW,hf];rfl)
  have hk3:(decide (s.getD k 0=46)||Xv (s.getD k 0))=true:=by have hq:=h19;simp only[e46]at hq;simp;grind
  refine aT5 ?_
  refine aU2 ?_
  exact sBk (k+1) om ⟨om,by rw[hst,hk2,hk3];rfl⟩
 obtain rfl:k=s.length:=om
 refine Qg rfl ?_
 refine aU4 ?_
 exact rV (h:=by rw[List.take_length]at hk2;rw[<-QkW,hr,hk2];rfl)
theorem c121(w:World)(t s:List UInt8)(hl:t.length=128)(hc:∀c∈s,c.toNat<128)(hm:s.length<=100000):CR 121 #[.string (bs t),.string (bs s)] w (.bool (!YW (up t s))):=by
 have hul:=ZV t s
 refine eN2 Tryz.func121 Tryz.ntmps121 ?_
 refine aU8 ?_
 refine oCq rfl (λw1 h1=>QuU w1 t s hl hc om) (oCq rfl (λw1 h1=>c158 w1 (up t s) om) (aU3 ?_))
 exact rV
theorem c96(w:World)(t a b:List UInt8)(hl:t.length=128)(ha:∀c∈a,c.toNat<128)(hb:∀c∈b,c.toNat<128)(hma:a.length<=1000000)(hmb:b.length<=1000000):CR 96 #[.string (bs t),.string (bs a),.string (bs b)] w (.bool (YT t a b)):=by
 refine eN3 Tryz.func96 Tryz.ntmps96 ?_
 refine aU8 ?_
 refine oCq rfl (λw1 h1=>QuU w1 t a hl ha hma) (aU2 ?_)
 refine oCq rfl (λw1 h1=>QuU w1 t b hl hb hmb) (aU3 ?_)
 exact rV
end Go.Proofs
namespace Gx
open Go Go.RowKit
theorem HS.trans9{w0 w w':World}{M:List Nat}{As:List HA}(h0:HS w0 M [] w)(h:HS w M As w'):HS w0 M [] w':=
 ⟨h.os.trans h0.os,h.tape.trans h0.tape,h.output.trans h0.output,Nat.le_trans h0.size h.size,λb hb hm=>(h.old b (Nat.lt_of_lt_of_le hb h0.size) hm).trans (h0.old b hb hm),λ_ h=>(by cases h),λ_ h=>(by cases h),.nil⟩
theorem dv9(e:DEnt):e.vals.length=9:=rfl
theorem dv1(e:DEnt):∀u∈e.vals,u.oneCell'=true:=by
 intro u hu;simp only[DEnt.vals,List.mem_cons,List.mem_nil_iff,or_false]at hu;rcases hu with rfl|rfl|rfl|rfl|rfl|rfl|rfl|rfl|rfl<;>rfl
theorem QvJ{w:World}{M:List Nat}{b:Nat}{e:DEnt}(hr:∀j v,(e.vals)[j]?=some v->Rd w M b (0+j) v):∀j v,([.int .i64 e.re,.int .i64 e.sq]:List Value)[j]?=some v->Rd w M b (0+3+j) v:=by
 intro j v hv;have h:=hr (3+j) v;rw[show 0+3+j=0+(3+j)from om]
 match j,hv with
 | 0,hv=>exact h hv
 | 1,hv=>exact h hv
 | j+2,hv=>simp at hv
theorem QuO{w:World}{M:List Nat}{b:Nat}{e:DEnt}(hr:∀j v,(e.vals)[j]?=some v->Rd w M b (0+j) v):∀j v,([.int .i64 e.fl,.int .i64 e.tm,.int .i64 e.al,.int .i64 e.sz]:List Value)[j]?=some v->Rd w M b (0+5+j) v:=by
 intro j v hv;have h:=hr (5+j) v;rw[show 0+5+j=0+(5+j)from om]
 match j,hv with
 | 0,hv=>exact h hv
 | 1,hv=>exact h hv
 | 2,hv=>exact h hv
 | 3,hv=>exact h hv
 | j+4,hv=>simp at hv
theorem Qgh{w:World}{M:List Nat}{a:Option Addr}{l:List DEnt}(h:Rw DEnt.vals 9 w M a l){k:Nat}(hk:k<l.length):∀j v,([.int .i64 (nth l k).re,.int .i64 (nth l k).sq]:List Value)[j]?=some v->Rd w M (ab a) (ao a+k*9+3+j) v:=by
 intro j v hv;have h9:=h.rd hk (3+j) v;rw[show ao a+k*9+3+j=ao a+k*9+(3+j)from om]
 match j,hv with
 | 0,hv=>exact h9 hv
 | 1,hv=>exact h9 hv
 | j+2,hv=>simp at hv
theorem Qcv{w:World}{M:List Nat}{a:Option Addr}{l:List DEnt}(h:Rw DEnt.vals 9 w M a l){k:Nat}(hk:k<l.length):∀j v,([.int .i64 (nth l k).fl,.int .i64 (nth l k).tm,.int .i64 (nth l k).al,.int .i64 (nth l k).sz]:List Value)[j]?=some v->Rd w M (ab a) (ao a+k*9+5+j) v:=by
 intro j v hv;have h9:=h.rd hk (5+j) v;rw[show ao a+k*9+5+j=ao a+k*9+(5+j)from om]
 match j,hv with
 | 0,hv=>exact h9 hv
 | 1,hv=>exact h9 hv
 | 2,hv=>exact h9 hv
 | 3,hv=>exact h9 hv
 | j+4,hv=>simp at hv
section
variable{w0 w:World}{M:List Nat}{As As':List HA}{b t tot:Nat}{l:List DEnt}
theorem QrD(h:HS w0 M As w)(hp:QH As (.blk b t tot (l.flatMap DEnt.vals)) As'){k:Nat}(hk:k<l.length):∀j v,(DEnt.vals (nth l k))[j]?=some v->Rd w [] b (0+k*9+j) v:=λj v hj=>by
 have hlt:j<9:=by
  rcases Nat.lt_or_ge j (DEnt.vals (nth l k)).length with h|h
  ·exact h
  ·rw[List.getElem?_eq_none h]at hj;cases hj
 rw[Nat.zero_add];exact h.rd_blk (Mc:=[]) hp (by rw[QcN dv9 l k j _ (Xu hk) hlt];exact hj) (by simp)
theorem Qta(h:HS w0 M As w)(hp:QH As (.blk b t tot (l.flatMap DEnt.vals)) As'){k o:Nat}{x:DEnt}(hk:k<l.length)(ho:o=k*9)(hx:nth l k=x):∀j v,(DEnt.vals x)[j]?=some v->Rd w [] b (o+j) v:=by
 subst hx ho;intro j v hv;have h9:=QrD h hp hk j v hv
 rwa[Nat.zero_add]at h9
theorem Qvk(h:HS w0 M As w)(hp:QH As (.blk b t tot (l.flatMap DEnt.vals)) As'):Rw DEnt.vals 9 w [] (some ⟨b,0,none⟩) l:=⟨λh0=>⟨b,0,rfl,λi hi=>⟨rfl,λj v hv=>QrD h hp hi j v hv⟩⟩⟩
end
theorem QrV{l:List DEnt}{i:Nat}(hi:i<l.length)(x:DEnt):Qf (l.flatMap DEnt.vals) (0+i*9) (DEnt.vals x)=(l.set i x).flatMap DEnt.vals:=by
 have h:=Qan dv9 l i 0 (DEnt.vals x) (nth l i) x (Xu hi) rfl (by simp[DEnt.vals])
 rwa[Nat.add_zero,<-Nat.zero_add (i*9)]at h
theorem QsD{l:List DEnt}{i:Nat}(hi:i<=l.length){zs:List Value}(hz:zs.length=(l.length-i)*9):Qf (l.flatMap DEnt.vals) (i*9) zs=(l.take i).flatMap DEnt.vals++zs:=by
 have hl:=QS dv9 l;have ht:((l.take i).flatMap DEnt.vals).length=i*9:=by rw[QS dv9,List.length_take];omega
 rw[Qgq _ _ _ om];have e:l.flatMap DEnt.vals=(l.take i).flatMap DEnt.vals++(l.drop i).flatMap DEnt.vals:=by rw[<-List.flatMap_append,List.take_append_drop]
 rw[List.drop_eq_nil_of_le om,List.append_nil];congr 1;rw[e,List.take_left' ht]
def Qdw(K l:List DEnt):List DEnt:=K++l.drop K.length
theorem Qbp{K l:List DEnt}(h:K.length<=l.length):(Qdw K l).length=l.length:=by
 unfold Qdw;rw[List.length_append,List.length_drop];omega
theorem Qq9{K l:List DEnt}{j:Nat}(h:K.length<=j)(hj:j<l.length):nth (Qdw K l) j=nth l j:=by
 apply XR;unfold Qdw;rw[List.getElem?_append_right h,List.getElem?_drop,show K.length+(j-K.length)=j by omega];exact Xu hj
theorem QqQ{K l:List DEnt}(h:K.length<l.length)(x:DEnt):(Qdw K l).set K.length x=Qdw (K++[x]) l:=by
 unfold Qdw;rw[List.drop_eq_getElem_cons h,List.set_append_right _ _ (Nat.le_refl _),Nat.sub_self,List.set_cons_zero,List.length_append,List.length_singleton,List.append_assoc];rfl
theorem Qny(l:List DEnt)(i:Nat):Qdw (l.take i) l=l:=by
 unfold Qdw;rw[List.length_take];rcases Nat.le_total i l.length with h|h
 ·rw[Nat.min_eq_left h,List.take_append_drop]
 ·rw[Nat.min_eq_right h,List.drop_length,List.append_nil,List.take_of_length_le h]
theorem Qrw(K l:List DEnt):(Qdw K l).take K.length=K:=by
 unfold Qdw;rw[List.take_left' rfl]
section
variable{w0 w:World}{M:List Nat}{As As':List HA}{b t tot:Nat}{K l:List DEnt}{x:DEnt}{zs:List Value}
theorem QrR(hK:K.length<l.length)(hp:QH As (.blk b t tot (Qf ((Qdw K l).flatMap DEnt.vals) (0+K.length*9) (DEnt.vals x))) As')(h:HS w0 M As w):HS w0 M (.blk b t tot ((Qdw (K++[x]) l).flatMap DEnt.vals)::As') w:=by
 have h1:=h.pick hp;rw[QrV (by rw[Qbp om];exact hK),QqQ hK]at h1;exact h1
theorem Qqa(h:HS w0 M As w)(hp:QH As (.blk b t tot (Qf ((Qdw K l).flatMap DEnt.vals) (K.length*9) zs)) As')(hK:K.length<=l.length)(hz:zs.length=(l.length-K.length)*9):HS w0 M (.blk b t tot (K.flatMap DEnt.vals)::As') w:=by
 have h1:=h.pick hp;rw[QsD (by rw[Qbp hK];exact hK) (by rw[Qbp hK];exact hz),Qrw]at h1;exact HS.blk_less .here h1
end
def kpD(p:DEnt->Bool)(l:List DEnt)(j:Nat):List DEnt:=(l.take j).filter λx=>!p x
section
variable{p:DEnt->Bool}{l:List DEnt}{j:Nat}
theorem QsQ:(kpD p l j).length<=j/\(kpD p l j).length<=l.length:=by
 have:=List.length_filter_le (λx=>!p x) (l.take j);rw[List.length_take]at this;unfold kpD;omega
theorem QjR(hj:j<l.length):kpD p l (j+1)=if p (nth l j)=true then kpD p l j else kpD p l j++[nth l j]:=by
 unfold kpD;rw[List.take_add_one,Xu hj,List.filter_append]
 by_cases h:p (nth l j)=true
 ·simp[h]
 ·simp[h]
theorem Qit:kpD p l l.length=l.filter λx=>!p x:=by unfold kpD;rw[List.take_length]
theorem QkI(h:∀k,k<j->p (nth l k)=false)(hj:j<=l.length):kpD p l j=l.take j:=by
 unfold kpD;rw[List.filter_eq_self];intro x hx;obtain⟨i,hi,rfl⟩:=List.getElem_of_mem hx;rw[List.length_take]at hi;have h1:=h i om;rw[List.getElem_take];rw[show nth l i=l[i]from XR (List.getElem?_eq_getElem om)]at h1;rw[h1];rfl
end
theorem Qea(bt:List Bool):(ixI bt= -1/\∀k,k<bt.length->bt.getD k false=false)\/∃i,i<bt.length/\ixI bt=(i:Int)/\bt.getD i false=true/\∀k,k<i->bt.getD k false=false:=by
 have key:∀l:List Bool,(∀k,k<ixB l->l.getD k false=false)/\(ixB l<l.length->l.getD (ixB l) false=true):=λl=>by
  induction l with
  | nil=>exact⟨λk hk=>by simp[ixB]at hk,λh=>by simp at h⟩
  | cons a l ih=>
   rw[ixB];cases a with
   | true=>exact⟨λk hk=>by simp at hk,λ_=>by simp⟩
   | false=>
    refine⟨λk hk=>?_,λh=>?_⟩
    ·cases k with
     | zero=>rfl
     | succ k=>simpa using ih.1 k (by simpa using hk)
    ·simpa using ih.2 (by simpa using h)
 obtain⟨h1,h2⟩:=key bt;unfold ixI;split
 ·rename_i h;exact .inr ⟨ixB bt,h,rfl,h2 h,h1⟩
 ·rename_i h;exact .inl ⟨rfl,λk hk=>h1 k om⟩
def QlS(s:List UInt8):Bool:=!YW (up Yz s)
def Qg0(e:DEnt):Bool:=if e.sp=2 then !QlS e.nm else if e.sp=0 then QlS e.nm else YW e.nm
def prB(e o:DEnt):Bool:=decide (o.nm=e.ot)&&decide (o.ot=e.nm)&&decide (o.sp=if e.sp=1 then 0 else 1)&&decide (o.re=e.re/\o.sq=e.sq)&&decide (o.fl=e.fl/\o.tm=e.tm/\o.al=e.al/\o.sz=e.sz)
def Qkg(l:List DEnt)(e:DEnt):Nat:=ixB (l.map (prB e))
def Qhs(l:List DEnt)(e:DEnt):Bool:=decide (Qkg l e<l.length)
def Qf1(l:List DEnt)(e:DEnt):DEnt:=if Qkg l e<l.length then nth l (Qkg l e)else noE
def stE(ds:List DEnt)(e:DEnt):Int:=if Qg0 e=true then if e.sp=2 then 0 else if Qhs ds e=true then 0 else 21 else 20
def QnW(X:List TEnt):Int×Int:=if(QB (X.map dcE) 0).2=0 then QB ((X.map Qh).map (stE (X.map Qh))) 0 else QB (X.map dcE) 0
def Xg(t:Tre)(X:List TEnt):Int×Int:=if(XD t).2=0 then if t.co=1 then QnW X else(0,15)else XD t
def Qcs(t:Tre)(X:List TEnt):List DEnt:=if(Xg t X).2=0 then X.map Qh else[]
def Q1(l:List DEnt):List DEnt:=l.filter λx=>!decide (x.sp=1)
def DT(t:Tre)(T:BT):Prop:=(XD t).2=0->∃d lo hi,Bel lo hi d T/\NIn t.ns T/\T.idx=0/\T.flat.length<=10000/\∀x∈T.flat,x.key.length<=100000/\x.val.length<=100000
theorem Qmc(l:List DEnt)(e:DEnt):Qhs l e=l.any (prB e):=by
 unfold Qhs Qkg;have h:=Qea (l.map (prB e));rw[List.length_map]at h;unfold ixI at h;rw[List.length_map]at h;have hg:∀k,k<l.length->(l.map (prB e)).getD k false=prB e (nth l k):=λk hk=>Xn (d:=default) hk
 by_cases hk:ixB (l.map (prB e))<l.length
 ·rw[decide_eq_true hk];rw[if_pos hk]at h;rcases h with⟨h1,_⟩|⟨i,hi,_,h3,_⟩
  ·omega
  ·symm
   rw[List.any_eq_true];exact⟨nth l i,Qq hi,by rw[<-hg i hi];exact h3⟩
 ·rw[decide_eq_false hk];rw[if_neg hk]at h;rcases h with⟨_,h2⟩|⟨i,hi,h1,h3,_⟩
  ·symm
   rw[List.any_eq_false];intro x hx;obtain⟨i,hi,rfl⟩:=List.getElem_of_mem hx;have h5:=h2 i hi;rw[hg i hi]at h5;have h6:nth l i=l[i]:=by unfold nth;rw[List.getD_eq_getElem?_getD,List.getElem?_eq_getElem hi];rfl
   rw[<-h6,h5];simp
  ·omega
end Gx
namespace Go.Proofs
open Go Go.RowKit Gx
attribute [local irreducible] Go.Calls Gx.S Gx.O Gx.D Gx.OpP Gx.OpQ Gx.OpH
set_option maxRecDepth 20000
theorem Zz:tsl Tryz.prog 128=some (66,9,88):=by kernel_rfl
instance:TFn Tryz.prog 82:=⟨by kernel_rfl⟩
instance:TFn Tryz.prog 169:=⟨by kernel_rfl⟩
instance:TFn Tryz.prog 117:=⟨by kernel_rfl⟩
theorem QdL:Qjm Tryz.prog 26=some [0,0]:=by kernel_rfl
theorem QbX:Qjm Tryz.prog 28=some [0,0,0,0]:=by kernel_rfl
theorem QpT{s:List UInt8}(h:QI s=0):openE Yz [s]=0:=by
  unfold openE;rw[if_pos (by rw[Qr9])];simp[XU,h]
theorem Qcu{s:List UInt8}(h:QI s=0):(∀c∈s,c.toNat<128)/\s.length<=32:=by
  unfold QI at h;split at h
  · rename_i hl;refine⟨?_,hl⟩;split at h
    · rename_i hs;unfold ZW at hs;simp only[Bool.and_eq_true,List.all_eq_true]at hs;intro c hc;have h9:=hs.1.1.1.2 c hc;unfold Yy at h9;simp only[Bool.and_eq_true,decide_eq_true_eq]at h9;omega
    · exact absurd h (by decide)
  · exact absurd h (by decide)
theorem c117(w:World)(s:List UInt8)(h0:QI s=0):CR 117 #[.string (bs s)] w (.bool (QlS s)):=by
 have hl:=(Qcu h0).2
 refine eN1 Tryz.func117 Tryz.ntmps117 ?_
 refine aU6 ?_
 refine oCq rfl (λw1 h1=>c82 w1) (aU ?_)
 refine oCq rfl (λw1 h1=>by have h9:=c169 w1 Yz s (by rw[Qap];decide) om;rw[QpT h0,if_pos rfl]at h9;exact h9) (Qas ?_)
 exact rV
theorem c136(w:World)(e:DEnt)(h0:QI e.nm=0):CR 136 #[.agg #[.string (bs e.nm),.int .i64 e.sp,.string (bs e.ot),.int .i64 e.re,.int .i64 e.sq,.int .i64 e.fl,.int .i64 e.tm,.int .i64 e.al,.int .i64 e.sz]] w (.bool (Qg0 e)):=by
 have hl:=(Qcu h0).2
 refine eN1 Tryz.func136 Tryz.ntmps136 ?_
 refine aU2 ?_
 refine oBx λb1 _=>?_
 refine Qhm ?_
 refine sCd rfl (λh2=>?_) λh2=>?_
 ·have h1:e.sp=2:=h2
  refine aU4 ?_
  refine oCq rfl (λw1 h1=>c117 w1 e.nm h0) (aU3 ?_)
  exact rV (h:=by rw[Qg0,if_pos h1];rfl)
 have h1:¬e.sp=2:=h2
 refine aU5 ?_
 refine sCd rfl (λh3=>?_) λh3=>?_
 ·have h2:e.sp=0:=h3
  refine aU4 ?_
  refine oCq rfl (λw1 h1=>c117 w1 e.nm h0) (aU2 ?_)
  exact rV (h:=by rw[Qg0,if_neg h1,if_pos h2];rfl)
 have h2:¬e.sp=0:=h3
 refine aU6 ?_
 refine oCq rfl (λw1 h1=>Qr5 w1 e.nm om) (aU2 ?_)
 exact rV (h:=by rw[Qg0,if_neg h1,if_neg h2];rfl)
theorem c140(w:World)(a:Option Addr)(cap:Nat)(l:List DEnt)(hs:Rw DEnt.vals 9 w [] a l)(hm:l.length<=1000000):CE 140 #[.slice a l.length cap] w [] (λg:Option Addr×Nat=>.slice g.1 l.length g.2) (λg=>True) λg=>[.own (.slice g.1 l.length g.2) 66 9 l.length (l.flatMap DEnt.vals)]:=by
 refine eN1 Tryz.func140 Tryz.ntmps140 ?_
 refine aU8 ?_
 refine o_p (XB rfl rfl rfl Tryz.underlying128) rfl (aU ?_)
 refine sCd rfl (λh1=>?_) λh1=>?_
 ·have ha0:a=none:=by cases a with|none=>rfl|some b=>simp at h1
  subst ha0
  have hl0:l=[]:=Rw.none hs
  refine aU4 ?_
  exact rT rfl rfl (λw' h'=>⟨(none,0),by rw[hl0];rfl,trivial,by rw[hl0];exact(h'.own_nil 66 9).ent aEt⟩)
 refine aU3 ?_
 refine o_h (X3 rfl Zz) rfl (λb2 _=>aU ?_)
 refine o_h (QM (l.flatMap DEnt.vals) rfl rfl rfl Zz Tryz.underlying128 Xm rfl aPk (λw h=>Rw.src dv9 hs h) (QS dv9 l) (Qaj dv1 l) om (by simp only[maxLen];omega)) rfl (λb3 _=>aU2 ?_)
 exact rT rfl rfl (λw' h'=>⟨b3,by simp only[Qt,Nat.zero_add],trivial,by have h2:=h';simp only[Nat.zero_add,List.nil_append]at h2;exact h2.ent aEt⟩)
theorem Qvs(w:World)(a:Option Addr)(cap:Nat)(l:List DEnt)(q:Nat)(cv:Array Value)(bt:List Bool)(hs:Rw DEnt.vals 9 w [] a l)(hm:l.length<=1000000)(hq:QL Tryz.prog q=true)(hb:bt.length=l.length)(hc:∀k w1,k<l.length->HS w [] [] w1->Calls Tryz.prog q (#[]++[.agg (DEnt.vals (nth l k)).toArray].toArray++cv) w1 λen w2=>en=.returned (.bool (bt.getD k false))/\Below w1.heap.size w1 w2):CR 152 #[.slice a l.length cap,.func (.func q) #[] cv] w (.int .i64 (ixI bt)):=by
 refine eN2 Tryz.func152 Tryz.ntmps152 ?_
 refine Qaa ?_
 refine Qo (α:=Nat) [4,5,8,9,10,11,12,13,14,15,16,17,18] (λk=>[(8,.int .i64 (k:Int))]) (λ_=>_) (λk=>k<=l.length/\∀i,i<k->bt.getD i false=false) (λk=>l.length-k) 0 ⟨om,λi h=>absurd h (Nat.not_lt_zero i)⟩ aSx (λw h=>h) (λk hk=>?_)
 obtain⟨hk1,hk2⟩:=hk
 refine aU5 ?_
 refine sCd rfl (λh1=>?_) λh1=>?_
 ·refine Z8 ?_
  refine o_p (Qa rfl rfl rfl Zz (k) om om (Rw.some hs om)) rfl (o_q (Qn _ rfl rfl Yq rfl (Rw.rd hs om)) rfl (o_q (Yh rfl rfl hq rfl (λw1 h1=>hc k w1 om (h1.ent aEt))) rfl (aU ?_)))
  refine sCd rfl (λh2=>?_) λh2=>?_
  ·refine aU5 ?_
   exact rV (h:=by have e:=QdC (l:=bt) (k:=k) om hk2 (λ_=>by assumption);simp only[Qt,ixI,e];rw[if_pos om])
  refine aT4 ?_
  refine aU2 ?_
  exact Qv (k+1) om ⟨om,λi hi=>(Nat.lt_or_ge i k).elim (hk2 i) (λh=>by obtain rfl:i=k:=om;assumption)⟩ aSx (λw h=>h)
 refine Qg rfl ?_
 refine aU4 ?_
 exact rV (h:=by have e:=QdC (l:=bt) (k:=k) om hk2 (λh=>om);simp only[Qt,ixI,e];rw[if_neg om])
theorem c185(w:World)(b3 b6:Nat)(e o:DEnt)(hr:∀j v,(e.vals)[j]?=some v->Rd w [] b3 (0+j) v)(hk:Rd w [] b6 0 (.int .i64 (if e.sp=1 then 0 else 1))):CR 185 #[.agg #[.string (bs o.nm),.int .i64 o.sp,.string (bs o.ot),.int .i64 o.re,.int .i64 o.sq,.int .i64 o.fl,.int .i64 o.tm,.int .i64 o.al,.int .i64 o.sz],.pointer (some ⟨b3,0,none⟩),.pointer (some ⟨b6,0,none⟩)] w (.bool (prB e o)):=by
 refine eN3 Tryz.func185 Tryz.ntmps185 ?_
 refine aU2 ?_
 refine oBx λb1 _=>?_
 refine aU7 ?_
 refine o_q (Qb rfl rfl YB (hr 2 _ rfl)) rfl (aU2 ?_)
 refine Xs 6 10 16 rfl
  (λhg2 _=>by
   refine aU7 ?_
   refine o_q (Qb rfl rfl YB (hr 0 _ rfl)) rfl (aU2 ?_)
   exact oJt 6 16)
  (λhg4 _=>by
   refine aU5 ?_
   exact oJf 6 16) ?_
 refine aU ?_
 refine Xs 5 17 22 rfl
  (λhg6 _=>by
   refine aU5 ?_
   refine o_q (Qb rfl rfl Y2 (hk)) rfl (aU2 ?_)
   exact oJt 5 22)
  (λhg8 _=>by
   refine aU4 ?_
   exact oJf 5 22) ?_
 refine aU ?_
 refine Xs 6 23 29 rfl
  (λhg10 _=>by
   refine aU7 ?_
   refine o_q (Qn _ rfl rfl Qah rfl (QvJ hr)) rfl (aU ?_)
   refine o_p (Xj rfl rfl rfl QdL (by rfl) (by rfl) (by rfl)) rfl ?_
   exact oJt 6 29)
  (λhg12 _=>by
   refine aU5 ?_
   exact oJf 6 29) ?_
 refine aU ?_
 refine Xs 6 30 36 rfl
  (λhg14 _=>by
   refine aU7 ?_
   refine o_q (Qn _ rfl rfl Zo rfl (QuO hr)) rfl (aU ?_)
   refine o_p (Xj rfl rfl rfl QbX (by rfl) (by rfl) (by rfl)) rfl ?_
   exact oJt 6 36)
  (λhg16 _=>by
   refine aU5 ?_
   exact oJf 6 36) ?_
 refine aU2 ?_
 exact rV (h:=by unfold prB;simp only[Qt];congr 2;grind)
theorem QuT:QL Tryz.prog 185=true:=by kernel_rfl
theorem QvQ:QL Tryz.prog 141=true:=by kernel_rfl
instance:TFn Tryz.prog 152:=⟨by kernel_rfl⟩
instance:TFn Tryz.prog 140:=⟨by kernel_rfl⟩
theorem QtP:QL Tryz.prog 90=true:=by kernel_rfl
theorem c125(w:World)(a:Option Addr)(cap:Nat)(l:List DEnt)(e:DEnt)(hs:Rw DEnt.vals 9 w [] a l)(hm:l.length<=100000):CR 125 #[.slice a l.length cap,.agg #[.string (bs e.nm),.int .i64 e.sp,.string (bs e.ot),.int .i64 e.re,.int .i64 e.sq,.int .i64 e.fl,.int .i64 e.tm,.int .i64 e.al,.int .i64 e.sz]] w (.tuple #[.agg #[.string (bs (Qf1 l e).nm),.int .i64 (Qf1 l e).sp,.string (bs (Qf1 l e).ot),.int .i64 (Qf1 l e).re,.int .i64 (Qf1 l e).sq,.int .i64 (Qf1 l e).fl,.int .i64 (Qf1 l e).tm,.int .i64 (Qf1 l e).al,.int .i64 (Qf1 l e).sz],.bool (Qhs l e)]):=by
 refine eN2 Tryz.func125 Tryz.ntmps125 ?_
 refine aU2 ?_
 refine oBx λb1 _=>?_
 refine oAl (λb2 _=>?_) Xm
 refine aU4 ?_
 refine oAl (λb3 _=>?_) Qkv
 refine aU9 ?_
 refine XG (α:=Unit) [] (λ_=>[]) (λ_=>HS w [] [.blk b3 3 1 [.int .i64 (if e.sp=1 then 0 else 1)],.blk b1 66 9 [.string (bs e.nm),.int .i64 e.sp,.string (bs e.ot),.int .i64 e.re,.int .i64 e.sq,.int .i64 e.fl,.int .i64 e.tm,.int .i64 e.al,.int .i64 e.sz],.blk b2 66 9 [.string (bs []),.int .i64 0,.string (bs []),.int .i64 0,.int .i64 0,.int .i64 0,.int .i64 0,.int .i64 0,.int .i64 0]]) (λ_=>True) ?_ ?_
 ·skip
  refine sCd rfl (λh4=>?_) λh4=>?_
  ·have h1:e.sp=1:=h4
   refine aU3 ?_
   exact Qm () trivial aSx (λw h=>by rw[if_pos h1];exact h.ent aEt)
  have h1:¬e.sp=1:=h4
  refine aU ?_
  exact Qm () trivial aSx (λw h=>by rw[if_neg h1];exact h.ent aEt)
 intro _ _
 refine aU4 ?_
 refine oCq rfl (λw1 h1=>Qvs w1 a cap l 185 _ (l.map (prB e)) (hs.later h1) om QuT (by rw[List.length_map]) (λk w2 hk h2=>by have h9:=c185 w2 b1 b3 e (nth l k) (λj v hj=>(h1.rd_blk (Mc:=[]) aPk (by rw[Nat.zero_add];exact hj) (by simp)).later h2 (by simp)) ((h1.rd_blk (i:=0) aPk rfl (by simp)).later h2 (by simp));rw[Xn (d:=default) hk];exact h9)) (aU8 ?_)
 refine sCd rfl (λh5=>?_) λh5=>?_
 ·have hk:¬(Qkg l e)<l.length:=by have hq:=h5;unfold ixI at hq;rw[List.length_map]at hq;split at hq;(exfalso;omega);assumption
  refine aU2 ?_
  refine o_p (QU (cs:=[_,_,_,_,_,_,_,_,_]) rfl rfl Qbv Xm rfl) rfl (aU3 ?_)
  exact Qj (rs:=[.cell 4 66,.tmp 5]) rfl (.cell rfl Yq aPk rfl (.tmp rfl (.nil))) (λw' h'=>⟨by rw[Qf1,Qhs,if_neg hk,decide_eq_false hk];rfl,h'.below⟩)
 have hk:(Qkg l e)<l.length:=by have hq:=h5;unfold ixI at hq;rw[List.length_map]at hq;split at hq;assumption;(exfalso;omega)
 have hix:ixI (l.map (prB e))=(((Qkg l e):Nat):Int):=by unfold ixI;rw[List.length_map,if_pos (show ixB (l.map (prB e))<l.length from hk)];rfl
 rw[hix]
 refine aU5 ?_
 refine o_p (Qa rfl rfl rfl Zz ((Qkg l e)) om om (Rw.some hs om)) rfl (o_q (Qn _ rfl rfl Yq rfl (Rw.rd hs hk)) rfl (aU3 ?_))
 exact Qj (rs:=[.cell 4 66,.tmp 5]) rfl (.cell rfl Yq aPk rfl (.tmp rfl (.nil))) (λw' h'=>⟨by rw[Qf1,Qhs,if_pos hk,decide_eq_true hk];rfl,h'.below⟩)
theorem c90(w:World)(b cap tot:Nat)(l:List DEnt)(w00:World)(q:Nat)(cv:Array Value)(p:DEnt->Bool)(h0:HS w00 [b] [] w)(hw:HS w [b] [.blk b 66 tot (l.flatMap DEnt.vals)] w)(hn:l.length<=1000000)(hnc:l.length<=cap)(hq:QL Tryz.prog q=true)(hc:∀x w1,x∈l->HS w00 [b] [] w1->Calls Tryz.prog q (#[]++[.agg (DEnt.vals (x)).toArray].toArray++cv) w1 λen w2=>en=.returned (.bool (p x))/\Below w1.heap.size w1 w2):CE 90 #[.slice (some ⟨b,0,none⟩) l.length cap,.func (.func q) #[] cv] w [b] (λg:Unit=>.slice (some ⟨b,0,none⟩) (l.filter λx=>!p x).length cap) (λg=>True) λg=>[.blk b 66 tot ((l.filter λx=>!p x).flatMap DEnt.vals)]:=by
 have hix:=Qea (l.map p)
 rw[List.length_map]at hix
 have hg9:∀k,k<l.length->(l.map p).getD k false=p (nth l k):=λk hk=>Xn (d:=default) hk
 refine eW2 Tryz.func90 Tryz.ntmps90 hw ?_
 refine aU8 ?_
 refine oCq rfl (λw1 h1=>Qvs w1 (some ⟨b,0,none⟩) cap l q cv (l.map p) (Qvk h1 aPk) hn hq (by simp) (λk w2 hk h2=>by rw[hg9 k hk];exact hc (nth l k) w2 (Qq hk) ((h0.trans9 h1).call h2))) (aU8 ?_)
 refine sCd rfl (λh1=>?_) λh1=>?_
 ·have hfl:(l.filter λx=>!p x)=l:=by rw[<-Qit,QkI (λk hk=>?_) (Nat.le_refl _),List.take_length];rcases hix with h9|⟨i,h9,h8,_⟩;rw[<-hg9 k hk];exact h9.2 k hk;have hq8:=h1;omega
  refine aU5 ?_
  exact rT rfl rfl (λw' h'=>⟨(),by rw[hfl];rfl,trivial,by rw[hfl];exact h'.ent aEt⟩)
 obtain⟨i,hil,hie,hip,hin⟩:=hix.resolve_left (λh9=>h1 h9.1)
 rw[hie]
 have hki2:(kpD p l (i+1))=l.take i:=by rw[QjR hil,<-hg9 i hil,if_pos hip,QkI (λk hk=>by rw[<-hg9 k om];exact hin k hk) om]
 have hki:(kpD p l (i+1)).length=i:=by rw[hki2,List.length_take];omega
 refine aT6 ?_
 refine aU3 ?_
 refine Qo (α:=Nat) [5,6,7,16,17,18,19,20,21,22,23,24,25,26,27,28,29,30,31,32,33,34,35] (λj=>[(6,.int .i64 (j:Int)),(5,.int .i64 ((kpD p l j).length:Int))]) (λj=>HS w [b] [.blk b 66 tot ((Qdw (kpD p l j) l).flatMap DEnt.vals)]) (λj=>j<=l.length) (λj=>l.length-j) (i+1) om (by rw[hki];exact aSx) (λw h=>by rw[hki2,Qny];exact h.ent aEt) (λj hj1=>?_)
 have hkl:=QsQ (p:=p) (l:=l) (j:=j)
 refine aU8 ?_
 refine sCd rfl (λh2=>?_) λh2=>?_
 ·have hj:j<l.length:=by have hq8:=h2;omega
  have hst:=QjR (p:=p) hj
  refine aU7 ?_
  refine o_p (Qa rfl rfl rfl Zz (j) om om rfl) rfl (o_q (Xz _ rfl rfl Yq rfl (λw h=>Qta h aPk (k:=j) (by rw[Qbp om];omega) (Nat.zero_add _) (Qq9 om hj))) rfl (oAl (λb3 _=>?_) Xm))
  refine aU6 ?_
  refine o_q (Yh rfl rfl hq rfl (λw1 h1=>hc (nth l j) w1 (Qq hj) (h0.trans9 h1))) rfl (aU2 ?_)
  refine sCd rfl (λh4=>?_) λh4=>?_
  ·rw[if_neg (by have hq8:=h4;simp[hq8])]at hst
   refine aU5 ?_
   refine o_p (Qa rfl rfl rfl Zz ((kpD p l j).length) om om rfl) rfl (Qez (X7 rfl rfl rfl Yq rfl aPt (by(try rw[Qi]);rw[QS dv9,Qbp om];omega) rfl) (λ_ _=>aT4 ?_))
   refine aU3 ?_
   refine Qe (L':=[(0,_),(1,_),(4,_),(5,_),(6,_),(8,_),(9,_),(10,_),(11,_),(12,_),(14,_),(15,_)]) aSx (λ_ h=>h) ?_
   refine aT3 ?_
   refine aU2 ?_
   exact Qv (j+1) om om (by rw[hst,List.length_append,List.length_singleton];exact aSx) (λw h=>by have h2:=QrR (K:=(kpD p l j)) (x:=nth l j) (l:=l) om aPk h;rw[hst];exact h2.ent aEt)
  rw[if_pos (by have hq8:=h4;simpa using hq8)]at hst
  refine aT5 ?_
  refine aU2 ?_
  exact Qv (j+1) om om (by rw[hst];exact aSx) (λw h=>by rw[hst];exact h.ent aEt)
 obtain rfl:j=l.length:=by have hq8:=h2;omega
 refine Qg rfl ?_
 refine aU4 ?_
 refine o_p (QX _ _ (kpD p l l.length).length l.length rfl rfl Zz ⟨_,_,rfl,rfl⟩ rfl om om) rfl (Qez (QmI rfl rfl Zz Xm rfl rfl (by simp) aPt (λhn=>Yj om) (by rw[QS dv9,Qbp om];omega)) (λ_ _=>aU5 ?_))
 refine o_p (QX _ _ 0 (kpD p l l.length).length rfl rfl Zz rfl ⟨_,_,rfl,rfl⟩ om om) rfl ?_
 refine Qs (show _=Value.slice (some ⟨b,0,none⟩) (kpD p l l.length).length cap from by rw[Qbf]<;>rfl) (aU2 ?_)
 exact rT rfl rfl (λw' h'=>⟨(),by rw[<-Qit];rfl,trivial,by rw[<-Qit];exact(Qqa (K:=(kpD p l l.length)) (l:=l) h' aPk om (by rw[QA])).ent aEt⟩)
theorem c90e(w:World)(a:Option Addr)(cap:Nat)(q:Nat)(cv:Array Value)(hq:QL Tryz.prog q=true):CR 90 #[.slice a 0 cap,.func (.func q) #[] cv] w (.slice a 0 cap):=by
 refine eN2 Tryz.func90 Tryz.ntmps90 ?_
 refine aU8 ?_
 refine oCq rfl (λw1 h1=>Qvs w1 a cap [] q cv [] ⟨λh9=>absurd h9 (by simp)⟩ (by decide) hq rfl (λk w2 hk h2=>absurd hk (by simp))) (aU8 ?_)
 refine sCd rfl (λh1=>?_) λh1=>?_
 ·refine aU5 ?_
  exact rV
 exfalso;exact h1 rfl
theorem c90o(w:World)(a:Option Addr)(cap:Nat)(l:List DEnt)(q:Nat)(cv:Array Value)(p:DEnt->Bool)(hw:HS w (fps [.own (.slice a l.length cap) 66 9 l.length (l.flatMap DEnt.vals)]) [.own (.slice a l.length cap) 66 9 l.length (l.flatMap DEnt.vals)] w)(hn:l.length<=1000000)(hq:QL Tryz.prog q=true)(hc:∀x w1,x∈l->HS w (fps [.own (.slice a l.length cap) 66 9 l.length (l.flatMap DEnt.vals)]) [] w1->Calls Tryz.prog q (#[]++[.agg (DEnt.vals (x)).toArray].toArray++cv) w1 λen w2=>en=.returned (.bool (p x))/\Below w1.heap.size w1 w2):CE 90 #[.slice a l.length cap,.func (.func q) #[] cv] w (fps [.own (.slice a l.length cap) 66 9 l.length (l.flatMap DEnt.vals)]) (λg:Unit=>.slice a (l.filter λx=>!p x).length cap) (λg=>True) λg=>[.own (.slice a (l.filter λx=>!p x).length cap) 66 9 (l.filter λx=>!p x).length ((l.filter λx=>!p x).flatMap DEnt.vals)]:=by
  rcases Nat.eq_zero_or_pos l.length with h0|h0
  · obtain rfl:l=[]:=List.eq_nil_of_length_eq_zero h0;refine(c90e w a cap q cv hq).mono λen w'⟨he,hb⟩=>⟨(),he,trivial,hw.stable hb⟩
  · obtain⟨b,rfl,_,hnc,hcm,hxl,hb⟩:=hw.own_blk h0 .here;refine(c90 w b cap (cap*9) l w q cv p (HS.refl w [b]) hb hn hnc hq hc).mono λen w'⟨_,he,_,h⟩=>⟨(),he,trivial,?_⟩;exact HS.own_shut h (QS dv9 _) (Nat.le_trans (List.length_filter_le _ l) hnc) hcm
theorem c141(w:World)(o:DEnt):CR 141 #[.agg #[.string (bs o.nm),.int .i64 o.sp,.string (bs o.ot),.int .i64 o.re,.int .i64 o.sq,.int .i64 o.fl,.int .i64 o.tm,.int .i64 o.al,.int .i64 o.sz]] w (.bool (decide (o.sp=1))):=by
 refine eN1 Tryz.func141 Tryz.ntmps141 ?_
 refine aU2 ?_
 refine oBx λb1 _=>?_
 refine aU9 ?_
 exact rV
theorem c79(w:World)(a:Option Addr)(cap:Nat)(l:List DEnt)(hs:Rw DEnt.vals 9 w [] a l)(hm:l.length<=100000):CE 79 #[.slice a l.length cap] w [] (λg:Option Addr×Nat=>.slice g.1 (Q1 l).length g.2) (λg=>True) λg=>[.own (.slice g.1 (Q1 l).length g.2) 66 9 (Q1 l).length ((Q1 l).flatMap DEnt.vals)]:=by
 refine eN1 Tryz.func79 Tryz.ntmps79 ?_
 refine aU7 ?_
 refine oCh rfl (λw1 h1=>c140 w1 a cap l (hs.later h1) om) (λgC _=>o_h (Xy (Cs:=[.own (.slice gC.1 l.length gC.2) 66 9 l.length (l.flatMap DEnt.vals)]) rfl QtP rfl aPs (λw1 h1 hf=>c90o w1 gC.1 gC.2 l 141 _ (λx=>decide (x.sp=1)) hf om QvQ (λx w2 hx h2=>by have h9:=c141 w2 x;exact h9))) rfl (λ_ _=>aU2 ?_))
 exact rT rfl rfl (λw' h'=>⟨gC,rfl,trivial,h'.ent aEt⟩)
theorem c92(w:World)(a:Option Addr)(cap:Nat)(l:List DEnt)(hs:Rw DEnt.vals 9 w [] a l)(hm:l.length<=100000):CE 92 #[.slice a l.length cap] w [] (λg:Option Addr×Nat=>.slice g.1 (l.map DEnt.nm).length g.2) (λg=>True) λg=>[.own (.slice g.1 (l.map DEnt.nm).length g.2) 9 1 (l.map DEnt.nm).length ((l.map DEnt.nm).map Qar)]:=by
 refine eN1 Tryz.func92 Tryz.ntmps92 ?_
 refine QvH ?_
 refine Qo (α:=Nat×(Option Addr×Nat)) [3,5,8,9,10,11,12,13,14,15,16,17] (λy=>[(8,.int .i64 (y.1:Int)),(3,.slice y.2.1 ((l.map DEnt.nm).take y.1).length y.2.2)]) (λy=>HS w [] [.own (.slice y.2.1 ((l.map DEnt.nm).take y.1).length y.2.2) 9 1 ((l.map DEnt.nm).take y.1).length (((l.map DEnt.nm).take y.1).map Qar)]) (λy=>y.1<=l.length) (λy=>l.length-y.1) (0,(none,0)) (Nat.zero_le _) aSx (λw h=>(h.own_nil 9 1).ent aEt) (λ⟨k,A⟩hk1=>?_)
 dsimp only at hk1 ⊢
 refine aU5 ?_
 refine sCd rfl (λh1=>?_) λh1=>?_
 ·have hk:k<l.length:=by have hq:=h1;omega
  have hst:(l.map DEnt.nm).take (k+1)=(l.map DEnt.nm).take k++[(nth l k).nm]:=by rw[Q9 (d:=[]) (by rw[List.length_map];exact hk),Xn (d:=default) hk];rfl
  refine aU5 ?_
  refine o_p (Qa rfl rfl rfl Zz (k) om om (Rw.some hs om)) rfl (o_q (Qn _ rfl rfl Yq rfl (Rw.rd hs om)) rfl (oAl (λb2 _=>?_) Xm))
  refine aU6 ?_
  refine o_h (Ql (cs:=[_]) rfl rfl YK QeP rfl rfl rfl) rfl (λb3 _=>o_h (QM (n:=((l.map DEnt.nm).take k).length) [.string (bs (nth l k).nm)] rfl rfl rfl YK Tryz.underlying69 QeP rfl aPk (Xp aPk) rfl (by intro u hu;simp only[List.mem_cons,List.mem_nil_iff,or_false]at hu;subst hu;rfl) (by simp only[List.length_take,List.length_map];omega) (by simp only[maxLen,List.length_take,List.length_map];omega)) rfl (λb4 _=>aT5 ?_))
  refine aU2 ?_
  exact Qv (k+1,b4) (by dsimp only;omega) (by dsimp only;omega) (by dsimp only;rw[hst,List.length_append];exact aSx) (λw h=>by dsimp only;rw[hst,List.length_append,List.map_append];exact h.ent aEt)
 obtain rfl:k=l.length:=by have hq:=h1;omega
 refine Qg rfl ?_
 refine aU5 ?_
 exact rT rfl rfl (λw' h'=>⟨A,by simp only[Qt];rw[List.take_of_length_le (by rw[List.length_map];exact Nat.le_refl _)],trivial,by rw[<-List.take_of_length_le (l:=l.map DEnt.nm) (i:=l.length) (by rw[List.length_map];exact Nat.le_refl _)];exact h'.ent aEt⟩)
end Go.Proofs
