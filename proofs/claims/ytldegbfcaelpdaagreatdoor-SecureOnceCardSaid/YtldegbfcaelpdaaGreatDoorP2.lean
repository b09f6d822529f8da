/- Contracts of the program's functions, proved by walking them with the rules of the Gx texts; without conditions beyond those that each contract names. -/
import Derived.WalkKit
import Derived.Deep.Draws
import Derived.TacticsIn
import Derived.OrdersIn
import Derived.RangeFuncLeaves
import Derived.Lib.Strings
import Derived.Laws.BytesArg
import Derived.Laws.IdiomStrings
import Derived.Deep.Quiet
import Derived.Laws.StructEq
import Derived.ChangeKeysEq
import Derived.Laws.Externs
import Derived.Lib.Overlaps
import Derived.Carry
import Derived.Laws.Small
import Derived.Lib.Bytealg
import Derived.Lib.Builder
import Derived.Laws.Pointers
import Derived.RangeFuncRecord
import Derived.Test.YtldegbfcaelpdaaGreatDoorProg
import Derived.KernelRfl
import Derived.ProofKit
import Derived.OpenShut
import Derived.Lib.UnsafeStr
import Derived.LaidEqlPtr
import Derived.Shelf.Strings.Builder1
import Derived.Shelf.Strings.Builder2
import Derived.Shelf.Strings.Trim
import Derived.Shelf.Small.Utf8
import Derived.Shelf.Small.Strs
import Derived.Shelf.Strings.BuilderF
import Derived.Shelf.Strings.BuilderK
import Derived.Shelf.Strings.Builder2Cap
import Derived.Shelf.Strings.Search1
import Derived.Shelf.Strings.Prefix
import Derived.Shelf.Unicode.Decode
import Derived.Shelf.Strings.Runes
import Derived.Shelf.Strings.AsciiSet
import Derived.Shelf.Bits.Mul64
import Derived.Shelf.Strings.Repeat
import Derived.Shelf.Unicode.DecodeSlow
import Derived.Shelf.Unicode.DecodeAny
import Derived.Shelf.Unicode.DecodeLast
import Derived.Shelf.Slices.Turned
import Derived.Shelf.Slices.Reverse
import Derived.Ground.Names2Prog
import Derived.Shelf.Slices.Clone
import Derived.Shelf.Slices.Cells
import Derived.Ground.SlgnProg
import Derived.Shelf.SlicesE.Reverse
import Derived.Shelf.SlicesE.Clone
import Derived.Test.YtldegbfcaelpdaaGreatDoorTie
import Derived.Test.YtldegbfcaelpdaaGreatDoorCards
import Derived.SevenTiedAt
import Derived.LaidMore
import Derived.Lay
import Derived.Stop.Joined
import Derived.Test.YtldegbfcaelpdaaGreatDoorP1
set_option linter.unusedSimpArgs false
set_option maxHeartbeats 1000000
set_option linter.unusedVariables false
set_option linter.unusedSectionVars false
set_option linter.unnecessarySimpa false
namespace Go.Proofs
open Go Go.RowKit Gx
attribute [local irreducible] Go.Calls Gx.S Gx.O Gx.D Gx.OpP Gx.OpQ Gx.OpH
set_option maxRecDepth 20000
theorem QmU:YA Tryz.prog 167=some [(0,4),(4,2)]:=by kernel_rfl
theorem QnK:Xs Tryz.prog 167=some [.int .i64 0,.int .i64 0,.int .i64 0,.slice none 0 0,.nilFunc,.nilFunc]:=by kernel_rfl
theorem Qp3:QE Tryz.prog 135=true:=by kernel_rfl
instance:TFn Tryz.prog 136:=⟨by kernel_rfl⟩
instance:TFn Tryz.prog 195:=⟨by kernel_rfl⟩
theorem Qmk:QE Tryz.prog 196=true:=by kernel_rfl
theorem Qnu:QE Tryz.prog 197=true:=by kernel_rfl
theorem c81(w:World)(co mo rm:Int)(a:Option Addr)(cap:Nat)(L:List LNd)(hs:Nt w [] a L)(hB:Bd (pln L))(hkl:∀i,i<L.length->∀x∈(nth L i).es,x.key.length<=1000000):CR 81 #[.agg #[.int .i64 co,.int .i64 mo,.int .i64 rm,.slice a L.length cap]] w (.tuple #[.int .i64 (Q0 (⟨co,mo,rm,pln L⟩:Tre)).1,.int .i64 (Q0 (⟨co,mo,rm,pln L⟩:Tre)).2]):=by
 have hle:=hB.len
 rw[Qg]at hle
 have hes9:∀i,i<L.length->(nth L i).es.length<=1000:=λi hi=>by have h9:=hB.es i (by rw[Qg];exact hi);rw[Qz hi]at h9;exact h9
 have hcs9:∀i,i<L.length->(nth L i).cs.length<=1000:=λi hi=>by have h9:=hB.cs i (by rw[Qg];exact hi);rw[Qz hi]at h9;exact h9
 refine eN1 Tryz.func81 Tryz.ntmps81 ?_
 refine aU2 ?_
 refine oBx λb1 _=>?_
 refine Qaf ?_
 refine oCq rfl (λw1 h1=>c131 w1 _ _ _) (aU7 ?_)
 refine sCd rfl (λh2=>?_) λh2=>?_
 ·have hz:=Qgh (t:=(⟨co,mo,rm,pln L⟩:Tre)) h2
  refine aU6 ?_
  exact Qf (rs:=[.tmp 2,.tmp 3]) rfl (.tmp rfl (.tmp rfl (.nil))) (λw' h'=>⟨by rw[hz];rfl,h'.below⟩)
 have hc0:(if Xb co=0 then Zs mo rm else Xb co)=0:=h2
 obtain⟨hco,hsz⟩:=Qhc (t:=(⟨co,mo,rm,pln L⟩:Tre)) hc0
 obtain⟨j,rfl,hj⟩:=Qcw hco
 have hsz2:(3<=mo/\mo<=8)/\(mo/2<=rm/\rm<=mo):=Qbu hsz
 refine aU3 ?_
 refine Qp [] mixed ?_
 refine dFa 0 ?_
 refine dLd 1 [] ?_
 refine dV 2 rfl (QI rfl rfl Tryz.underlying22) (dP 3 ?_)
 refine dQ 4 [] rfl (Qh rfl QaM rfl (λw1 h1=>Qa1 w1 _ _)) (dFa 5 ?_)
 refine dLd 6 [] ?_
 refine dV 7 rfl (QI rfl rfl Tryz.underlying22) (dP 8 ?_)
 refine dQ 9 [] rfl (Qh rfl QaM rfl (λw1 h1=>Qa1 w1 _ _)) (dH 10 rfl (Qd (cs:=[_,_]) rfl rfl Xn XK rfl rfl rfl) (λb3 _=>dBa ?_))
 refine dQ 11 [] rfl (Qh rfl Qfq rfl (λw1 h1=>Qjk h1 aPk (by rfl) (by rfl) (by decide))) ?_
 refine Qs (show _=Value.int .i64 (Qam L.length)from by congr 1;rw[QaJ];unfold Qam;simp only[cond_eq_ite,decide_eq_true_eq];first|(split<;>(try split)<;>(try split)<;>(try split)<;>first|rfl|omega)) (dP 12 ?_)
 refine dNi ?_
 refine aU5 ?_
 refine sCd rfl (λh4=>?_) λh4=>?_
 ·have hz:=Qim (t:=(⟨(j:Int),mo,rm,pln L⟩:Tre)) hc0 (by rw[show((⟨(j:Int),mo,rm,pln L⟩:Tre)).ns.length=L.length from Qg L];exact h4)
  rw[show((⟨(j:Int),mo,rm,pln L⟩:Tre)).ns.length=L.length from Qg L]at hz
  refine aU6 ?_
  exact Qf (rs:=[.tmp 2,.tmp 3]) rfl (.tmp rfl (.tmp rfl (.nil))) (λw' h'=>⟨by rw[hz];rfl,h'.below⟩)
 have hc1:Qam L.length=0:=h4
 have hz:=QfX (t:=(⟨(j:Int),mo,rm,pln L⟩:Tre)) hc0 (by rw[show((⟨(j:Int),mo,rm,pln L⟩:Tre)).ns.length=L.length from Qg L];exact hc1)
 rw[show((⟨(j:Int),mo,rm,pln L⟩:Tre)).ns.length=L.length from Qg L]at hz
 obtain⟨h00,h120⟩:=QiD hc1
 refine aU2 ?_
 refine Qi (L':=[(1,_),(2,_),(3,_)]) aSx (λ_ h=>h) ?_
 refine Xv (α:=Nat×Nat) [6,7,37,38,39,40,41,42,43,44] (λx=>[(6,.pointer (some ⟨x.1,0,none⟩)),(7,.map (some x.2))]) (λx=>HS w [] [.blk b1 24 4 [.int .i64 (j:Int),.int .i64 mo,.int .i64 rm,.slice a L.length cap],.blk x.1 167 6 (tbV (j:Int) mo rm a L.length cap),.mp x.2 KI []]) (λ_=>True) ?_ ?_
 ·skip
  refine Qp [] mixed ?_
  refine dLn 0 [] ?_
  refine dQ 1 [] rfl (Qh rfl Qjg rfl (λw1 h1=>Qqo w1)) (dFa 2 ?_)
  refine dLd 3 [] ?_
  refine dV 4 rfl (QeX rfl rfl rfl Qha Qhg j rfl om) (Qs (Qft j hj) (dV 5 rfl (Qw (cs:=[_,_,_,_,_,_]) rfl rfl QmU QnK rfl) (Z5 6 7 rfl rfl (Qj8 rfl rfl) (Qdt rfl KI) (by kernel_rfl) (λw h=>h.ent aEt) rfl rfl (λb5 _=>?_) (λb6 _=>?_))))
  ·skip
   refine dBa ?_
   refine dP 8 ?_
   refine dH 7 rfl (Qdt rfl KI) (λb7 _=>dBa ?_)
   refine dP 9 ?_
   refine dNi ?_
   exact Qn (b5,b7) trivial aSx (λw h=>h.ent aEt)
  skip
  refine dBa ?_
  refine dH 6 rfl (Qj8 rfl rfl) (λb8 _=>dBa ?_)
  refine dP 8 ?_
  refine dP 9 ?_
  refine dNi ?_
  exact Qn (b8,b6) trivial aSx (λw h=>h.ent aEt)
 intro⟨bt,r⟩ _
 refine aU9 ?_
 refine Qt (α:=Nat×List Int×List Int) [2,3,8,9,48,49,50,51,52,53,54,55,56,57,58,59] (λx=>[(48,.int .i64 (x.1:Int))]) (λx=>HS w [] [.blk b1 24 4 [.int .i64 (j:Int),.int .i64 mo,.int .i64 rm,.slice a L.length cap],.blk bt 167 6 (tbV (j:Int) mo rm a L.length cap),.mp r KI x.2.1]) (λx=>x.1<=L.length/\(∀y,y∈x.2.1 ↔ y∈x.2.2)/\(Yw (⟨(j:Int),mo,rm,pln L⟩:Tre) L.length 0 [])=Yw (⟨(j:Int),mo,rm,pln L⟩:Tre) (L.length-x.1) x.1 x.2.2) (λx=>L.length-x.1) (0,[],[]) ⟨Nat.zero_le _,λ_=>Iff.rfl,rfl⟩ aSx (λw h=>h.ent aEt) (λ⟨k,K,S9⟩hx=>?_)
 dsimp only
 obtain⟨hk1,hk2,hk3⟩:=hx
 simp only[]at hk1 hk2 hk3
 refine aU5 ?_
 refine sCd rfl (λh9=>?_) λh9=>?_
 ·have hkl9:k<L.length:=by omega
  have hst:=Qi2 (t:=(⟨(j:Int),mo,rm,pln L⟩:Tre)) (k:=k) (seen:=S9) (by rw[show((⟨(j:Int),mo,rm,pln L⟩:Tre)).ns.length=L.length from Qg L];exact hkl9)
  rw[show((⟨(j:Int),mo,rm,pln L⟩:Tre)).ns.length=L.length from Qg L]at hst
  refine Qak ?_
  refine o_h (QV (Cs:=[.mp r KI K]) rfl Qp3 rfl aPs (λw1 h1 hf=>c135 w1 k r K S9 bt j mo rm a cap L hf hk2 (λk9 v9 hv9=>h1.rd_blkF aPs (b:=bt) aPk hv9) ((hs.keep h1).mono (Q1 aPs)) hle hj hkl9 (hes9 _ hkl9) (hcs9 _ hkl9) (hkl _ hkl9))) rfl (λb10 hkG=>aU7 ?_)
  refine sCd rfl (λh11=>?_) λh11=>?_
  ·have hz3:(Yw (⟨(j:Int),mo,rm,pln L⟩:Tre) L.length 0 [])=((k:Int),(Zi (⟨(j:Int),mo,rm,pln L⟩:Tre) k S9).1):=by rw[hk3,hst,if_neg h11]
   rw[hz3,if_neg (show¬(((k:Int),(Zi (⟨(j:Int),mo,rm,pln L⟩:Tre) k S9).1):Int×Int).2=0 from h11)]at hz
   refine aU7 ?_
   exact Qf (rs:=[.tmp 2,.tmp 3]) rfl (.tmp rfl (.tmp rfl (.nil))) (λw' h'=>⟨by rw[hz];rfl,h'.below⟩)
  have hz3:Yw (⟨(j:Int),mo,rm,pln L⟩:Tre) (L.length-k) k S9=Yw (⟨(j:Int),mo,rm,pln L⟩:Tre) (L.length-(k+1)) (k+1) (Zi (⟨(j:Int),mo,rm,pln L⟩:Tre) k S9).2:=by rw[hst,if_pos h11]
  refine aT4 ?_
  refine aU2 ?_
  exact sBk (k+1,b10,(Zi (⟨(j:Int),mo,rm,pln L⟩:Tre) k S9).2) (by(try simp only[]);omega) ⟨by(try simp only[]);omega,hkG,by simp only[];rw[hk3,hz3]⟩
 have hnd:(Yw (⟨(j:Int),mo,rm,pln L⟩:Tre) L.length 0 [])=(0,0):=by rw[hk3,show L.length-k=0 by omega];rfl
 rw[hnd,if_pos rfl]at hz
 have hT:TOk (j:Int) (pln L):=Qcp (t:=(⟨(j:Int),mo,rm,pln L⟩:Tre)) (by show(Yw (⟨(j:Int),mo,rm,pln L⟩:Tre) (pln L).length 0 []).2=0;rw[Qg,hnd])
 refine Qj rfl ?_
 refine aU3 ?_
 refine oCq rfl (λw1 h1=>c136 w1 bt j mo rm a cap L (HS.tbr h1 aPk) (hs.later h1) hj om h00 hB hT) (Qaf ?_)
 refine Xv (α:=Unit) [10] (λ_=>[(10,.int .i64 (Q0 (⟨(j:Int),mo,rm,pln L⟩:Tre)).1)]) (λ_=>HS w [] []) (λ_=>True) ?_ ?_
 ·skip
  refine sCd rfl (λh12=>?_) λh12=>?_
  ·refine aU3 ?_
   exact Qn () trivial (by rw[hz,Qkj h12];exact aSx) (λw h=>h.ent aEt)
  refine aU ?_
  exact Qn () trivial (by rw[hz];exact aSx) (λw h=>h.ent aEt)
 intro _ _
 refine aU7 ?_
 exact Qf (rs:=[.tmp 2,.tmp 3]) rfl (.tmp rfl (.tmp rfl (.nil))) (λw' h'=>⟨by simp only[QR];rw[hz],h'.below⟩)
theorem c195(w:World)(a:Option Addr)(cap:Nat)(l:List LNd)(hs:Rw LNd.vals 3 w [] a l)(hm:l.length<=1000000):CE 195 #[.slice a l.length cap] w [] (λg:Option Addr×Nat=>.slice g.1 l.length g.2) (λg=>True) λg=>[.own (.slice g.1 l.length g.2) 87 3 l.length (l.flatMap LNd.vals)]:=by
 refine eN1 Tryz.func195 Tryz.ntmps195 ?_
 refine aU8 ?_
 refine o_p (Yz rfl rfl rfl Tryz.underlying22) rfl (aU ?_)
 refine sCd rfl (λh1=>?_) λh1=>?_
 ·have ha0:a=none:=by cases a with|none=>rfl|some b=>simp at h1
  subst ha0
  have hl0:l=[]:=Rw.none hs
  refine aU4 ?_
  exact rT rfl rfl (λw' h'=>⟨(none,0),by rw[hl0];rfl,trivial,by rw[hl0];exact(h'.own_nil 87 3).ent aEt⟩)
 refine aU3 ?_
 refine o_h (XJ rfl Xx) rfl (λb2 _=>aU ?_)
 refine o_h (QA (l.flatMap LNd.vals) rfl rfl rfl Xx Tryz.underlying22 YX rfl aPk (λw h=>Rw.src nv3 hs h) (Qq nv3 l) (Yh nv1 l) om (by simp only[maxLen];omega)) rfl (λb3 _=>aU2 ?_)
 exact rT rfl rfl (λw' h'=>⟨b3,by simp only[QR,Nat.zero_add],trivial,by have h2:=h';simp only[Nat.zero_add,List.nil_append]at h2;exact h2.ent aEt⟩)
theorem c196(w:World)(a:Option Addr)(cap:Nat)(l:List TEnt)(hs:Rw TEnt.vals 2 w [] a l)(hm:l.length<=1000000):CE 196 #[.slice a l.length cap] w [] (λg:Option Addr×Nat=>.slice g.1 l.length g.2) (λg=>True) λg=>[.own (.slice g.1 l.length g.2) 50 2 l.length (l.flatMap TEnt.vals)]:=by
 refine eN1 Tryz.func196 Tryz.ntmps196 ?_
 refine aU8 ?_
 refine o_p (Yz rfl rfl rfl Tryz.underlying85) rfl (aU ?_)
 refine sCd rfl (λh1=>?_) λh1=>?_
 ·have ha0:a=none:=by cases a with|none=>rfl|some b=>simp at h1
  subst ha0
  have hl0:l=[]:=Rw.none hs
  refine aU4 ?_
  exact rT rfl rfl (λw' h'=>⟨(none,0),by rw[hl0];rfl,trivial,by rw[hl0];exact(h'.own_nil 50 2).ent aEt⟩)
 refine aU3 ?_
 refine o_h (XJ rfl Xg) rfl (λb2 _=>aU ?_)
 refine o_h (QA (l.flatMap TEnt.vals) rfl rfl rfl Xg Tryz.underlying85 XU rfl aPk (λw h=>Rw.src ev2 hs h) (Qq ev2 l) (Yh ev1 l) om (by simp only[maxLen];omega)) rfl (λb3 _=>aU2 ?_)
 exact rT rfl rfl (λw' h'=>⟨b3,by simp only[QR,Nat.zero_add],trivial,by have h2:=h';simp only[Nat.zero_add,List.nil_append]at h2;exact h2.ent aEt⟩)
theorem c197(w:World)(a:Option Addr)(cap:Nat)(l:List Int)(hs:Rw inV 1 w [] a l)(hm:l.length<=1000000):CE 197 #[.slice a l.length cap] w [] (λg:Option Addr×Nat=>.slice g.1 l.length g.2) (λg=>True) λg=>[.own (.slice g.1 l.length g.2) 3 1 l.length (l.flatMap inV)]:=by
 refine eN1 Tryz.func197 Tryz.ntmps197 ?_
 refine aU8 ?_
 refine o_p (Yz rfl rfl rfl Tryz.underlying65) rfl (aU ?_)
 refine sCd rfl (λh1=>?_) λh1=>?_
 ·have ha0:a=none:=by cases a with|none=>rfl|some b=>simp at h1
  subst ha0
  have hl0:l=[]:=Rw.none hs
  refine aU4 ?_
  exact rT rfl rfl (λw' h'=>⟨(none,0),by rw[hl0];rfl,trivial,by rw[hl0];exact(h'.own_nil 3 1).ent aEt⟩)
 refine aU3 ?_
 refine o_h (XJ rfl QD) rfl (λb2 _=>aU ?_)
 refine o_h (QA (l.flatMap inV) rfl rfl rfl QD Tryz.underlying65 Ye rfl aPk (λw h=>Rw.src iv1 hs h) (Qq iv1 l) (Yh QoW l) om (by simp only[maxLen];omega)) rfl (λb3 _=>aU2 ?_)
 exact rT rfl rfl (λw' h'=>⟨b3,by simp only[QR,Nat.zero_add],trivial,by have h2:=h';simp only[Nat.zero_add,List.nil_append]at h2;exact h2.ent aEt⟩)
theorem Qrf(w:World)(j:Nat)(mo rm:Int)(a:Option Addr)(cap:Nat)(L:List LNd)(hs:Nt w [] a L)(hB:Bd (pln L))(hj:j<=3)(h0:0<L.length):CE 139 #[.agg #[.int .i64 (j:Int),.int .i64 mo,.int .i64 rm,.slice a L.length cap]] w [] (λg:Nat×(Option Addr×Nat)×List LNd=>.pointer (some ⟨g.1,0,none⟩)) (λg=>pln g.2.2=pln L) λg=>[.blk g.1 167 6 (tbV (j:Int) mo rm g.2.1.1 g.2.2.length g.2.1.2),.nodes 50 87 g.2.1.1 g.2.1.2 g.2.2]:=by
 have hle:=hB.len
 rw[Qg]at hle
 have hes9:∀i,i<L.length->(nth L i).es.length<=1000:=λi hi=>by have h9:=hB.es i (by rw[Qg];exact hi);rw[Qz hi]at h9;exact h9
 have hcs9:∀i,i<L.length->(nth L i).cs.length<=1000:=λi hi=>by have h9:=hB.cs i (by rw[Qg];exact hi);rw[Qz hi]at h9;exact h9
 refine eN1 Tryz.func139 Tryz.ntmps139 ?_
 refine aU2 ?_
 refine oBx λb1 _=>?_
 refine aU3 ?_
 refine Qp [] mixed ?_
 refine dLn 0 [] ?_
 refine dQ 1 [] rfl (Qh rfl Qjg rfl (λw1 h1=>Qqo w1)) (dFa 2 ?_)
 refine dLd 3 [] ?_
 refine dV 4 rfl (QeX rfl rfl rfl Qha Qhg j rfl om) (Qs (Qft j hj) (dV 5 rfl (Qw (cs:=[_,_,_,_,_,_]) rfl rfl QmU QnK rfl) (dH 6 rfl (Qj8 rfl rfl) (λb2 _=>dBa ?_))))
 refine dP 7 ?_
 refine dNi ?_
 refine aU5 ?_
 refine oCh rfl (λw1 h1=>c195 w1 a cap L (hs.1.later h1) om) (λ⟨b3,c4⟩_=>XQ (λw h=>QcQ h0 h aPk) (λhgn=>?_))
 obtain⟨gn,rfl,hcap,hcm⟩:=hgn
 refine Xm (λw h=>HS.own_at h aPk) (aU3 ?_)
 refine Qcq (XW rfl rfl rfl YY rfl aPt (by show 4<=6;omega) rfl) (λ_ _=>Qak ?_)
 refine Qi (L':=[(2,_),(3,_),(24,_),(25,_),(26,_)]) aSx (λ_ h=>h) ?_
 refine Qt (α:=Nat×List LNd) [4,5,26,27,28,29,30,31,32,33,34,35,36,37,38,39,40,41,42,43,44,45,46,47,48,49,50,51,52,53] (λx=>[(26,.int .i64 (x.1:Int))]) (λx=>HS w [] [.blk gn 87 (c4*3) ((x.2++L.drop x.1).flatMap LNd.vals),.star (x.2.map (Qx 50)),.blk b2 167 6 (tbV (j:Int) mo rm (some ⟨gn,0,none⟩) L.length c4)]) (λx=>x.1<=L.length/\x.2.length=x.1/\pln x.2=(pln L).take x.1) (λx=>L.length-x.1) (0,[]) ⟨Nat.zero_le _,rfl,rfl⟩ aSx (λw h=>(h.star_nil).ent aEt) (λ⟨k,D⟩hx=>?_)
 dsimp only
 obtain⟨hk1,hk2,hk3⟩:=hx
 simp only[]at hk1 hk2 hk3
 refine aU5 ?_
 refine sCd rfl (λh5=>?_) λh5=>?_
 ·have hkl:k<L.length:=by omega
  refine aU6 ?_
  refine o_p (Qa rfl rfl rfl Xx (k) om om rfl) rfl (o_q (ZQ (LNd.vals (nth L k)) rfl rfl Qbj rfl (λw h=>by have h9:=Rw.rd (h.rw_blk nv3 aPk) (i:=k) (by simp only[List.length_append,List.length_drop];omega);rw[QkF hk2 hkl]at h9;exact h9)) rfl (oAl (λb6 _=>?_) YX))
  refine aU3 ?_
  refine Qp [20,23] mixed ?_
  refine dP 0 ?_
  refine dP 1 ?_
  refine dFa 2 ?_
  refine dFa 3 ?_
  refine dLd 4 [[],[]] ?_
  refine dP 5 ?_
  refine dP 6 ?_
  refine dP 7 ?_
  refine dFa 8 ?_
  refine dFa 9 ?_
  refine dLd 10 [[],[]] ?_
  refine dP 11 ?_
  refine dFa 12 ?_
  refine dLd 13 [[],[]] ?_
  refine dFa 15 ?_
  refine dLd 16 [[17],[]] ?_
  refine dH 14 rfl (QT rfl Qmk rfl (λw1 h1=>c196 w1 (nth L k).ea (nth L k).ec (nth L k).es ((hs.es hkl).later h1) (by have:=hes9 k hkl;omega))) (λb7 _=>dBa ?_)
  refine dH 17 rfl (QT rfl Qnu rfl (λw1 h1=>c197 w1 (nth L k).ca (nth L k).cc (nth L k).cs ((hs.cs hkl).later h1) (by have:=hcs9 k hkl;omega))) (λb8 _=>dBa ?_)
  refine dV 18 rfl (Qa rfl rfl rfl Xx (k) om om rfl) (dFa 19 ?_)
  refine QoD 20 rfl (XW rfl rfl rfl YW rfl aPt (by simp only[Qb,Qq nv3,List.length_append,List.length_drop,Nat.zero_add];show _+1<=_;omega) rfl) (by kernel_rfl) (λw h=>h.ent aEt) (λ_ _=>?_)
  refine dTu [23] ?_
  refine dV 21 rfl (Qa rfl rfl rfl Xx (k) om om rfl) (dFa 22 ?_)
  refine QoD 23 rfl (XW rfl rfl rfl Y8 rfl aPt (by simp only[Qb,Qq nv3,List.length_append,List.length_drop,Nat.zero_add];show _+1<=_;omega) rfl) (by kernel_rfl) (λw h=>h.ent aEt) (λ_ _=>?_)
  refine dTu [] ?_
  refine dNi ?_
  refine aU ?_
  refine Qi (L':=[(2,_),(3,_),(24,_),(25,_),(26,_)]) aSx (λ_ h=>h) ?_
  refine aT2 ?_
  refine aU2 ?_
  exact QQ (k+1,D++[⟨(nth L k).us,b7.1,b7.2,(nth L k).es,b8.1,b8.2,(nth L k).cs⟩]) (by(try simp only[]);omega) ⟨by(try simp only[]);omega,by simp[hk2],Qia hkl hk3 rfl⟩ aSx (λw h=>by have e9:=Qdx (l:=D++L.drop k) (k:=k) (by simp only[List.length_append,List.length_drop];omega) b7.1 b7.2 (nth L k).es b8.1 b8.2 (nth L k).cs;rw[QkF hk2 hkl,Qo6 hk2 hkl]at e9;have h2:=h.ent (Bs:=[.own (.slice b7.1 (nth L k).es.length b7.2) 50 2 (nth L k).es.length ((nth L k).es.flatMap TEnt.vals),.own (.slice b8.1 (nth L k).cs.length b8.2) 3 1 (nth L k).cs.length ((nth L k).cs.flatMap inV),.star (D.map (Qx 50)),.blk gn 87 (c4*3) (Qu (Qu ((D++L.drop k).flatMap LNd.vals) (0+k*3+1) [.slice b7.1 (nth L k).es.length b7.2]) (0+k*3+2) [.slice b8.1 (nth L k).cs.length b8.2]),.blk b2 167 6 (tbV (j:Int) mo rm (some ⟨gn,0,none⟩) L.length c4)]) aEt;rw[Nat.zero_add,e9]at h2;exact(HS.sub_app (sub:=Qx 50) (l:=D) (x:=(⟨(nth L k).us,b7.1,b7.2,(nth L k).es,b8.1,b8.2,(nth L k).cs⟩:LNd)) (HS.star_close (Bs:=[_,_]) h2)).ent aEt)
 obtain rfl:k=L.length:=om
 have hD:pln D=pln L:=by rw[hk3,<-Qg L,List.take_length]
 refine Qj rfl ?_
 refine aU5 ?_
 exact rT rfl rfl (λw' h'=>⟨(b2,(some ⟨gn,0,none⟩,c4),D),rfl,hD,by have h2:=h';rw[List.drop_length,List.append_nil]at h2;have h3:=HS.own_shut (n:=D.length) (h2.ent (Bs:=[.blk gn 87 (c4*3) (D.flatMap LNd.vals),.star (D.map (Qx 50)),.blk b2 167 6 (tbV (j:Int) mo rm (some ⟨gn,0,none⟩) L.length c4)]) aEt) (Qq nv3 D) om hcm;have h4:=HS.row_shut (l:=D) (sub:=Qx 50) h3 rfl rfl;have h5:HS w [] [.nodes 50 87 (some ⟨gn,0,none⟩) c4 D,.blk b2 167 6 (tbV (j:Int) mo rm (some ⟨gn,0,none⟩) L.length c4)] w':=h4;rw[hk2];exact h5.ent aEt⟩)
instance:TFn Tryz.prog 251:=⟨by kernel_rfl⟩
theorem Qqf:QqV Tryz.prog 228 85 4:=⟨_,Tryz.func228,rfl,rfl,by kernel_rfl,by kernel_rfl⟩
theorem Qq1:QqV Tryz.prog 253 65 4:=⟨_,Tryz.func253,rfl,rfl,by kernel_rfl,by kernel_rfl⟩
theorem c251(w:World)(a:Option Addr)(cap:Nat)(l:List LNd)(q:Nat)(cv:Array Value)(bt:List Bool)(hs:Rw LNd.vals 3 w [] a l)(hm:l.length<=1000000)(hq:QE Tryz.prog q=true)(hb:bt.length=l.length)(hc:∀k w1,k<l.length->HS w [] [] w1->Calls Tryz.prog q (#[]++[.agg (LNd.vals (nth l k)).toArray].toArray++cv) w1 λen w2=>en=.returned (.bool (bt.getD k false))/\Below w1.heap.size w1 w2):CR 251 #[.slice a l.length cap,.func (.func q) #[] cv] w (.int .i64 (ixI bt)):=by
 refine eN2 Tryz.func251 Tryz.ntmps251 ?_
 refine Qaf ?_
 refine Qt (α:=Nat) [4,5,8,9,10,11,12,13,14,15,16,17,18] (λk=>[(8,.int .i64 (k:Int))]) (λ_=>_) (λk=>k<=l.length/\∀i,i<k->bt.getD i false=false) (λk=>l.length-k) 0 ⟨om,λi h=>absurd h (Nat.not_lt_zero i)⟩ aSx (λw h=>h) (λk hk=>?_)
 obtain⟨hk1,hk2⟩:=hk
 refine aU5 ?_
 refine sCd rfl (λh1=>?_) λh1=>?_
 ·refine Qak ?_
  refine o_p (Qa rfl rfl rfl Xx (k) om om (Rw.some hs om)) rfl (o_q (Qm _ rfl rfl Qbj rfl (Rw.rd hs om)) rfl (o_q (XS rfl rfl hq rfl (λw1 h1=>hc k w1 om (h1.ent aEt))) rfl (aU ?_)))
  refine sCd rfl (λh2=>?_) λh2=>?_
  ·refine aU5 ?_
   exact rV (h:=by have e:=Qcu (l:=bt) (k:=k) om hk2 (λ_=>by assumption);simp only[QR,ixI,e];rw[if_pos om])
  refine aT4 ?_
  refine aU2 ?_
  exact QQ (k+1) om ⟨om,λi hi=>(Nat.lt_or_ge i k).elim (hk2 i) (λh=>by obtain rfl:i=k:=om;assumption)⟩ aSx (λw h=>h)
 refine Qj rfl ?_
 refine aU4 ?_
 exact rV (h:=by have e:=Qcu (l:=bt) (k:=k) om hk2 (λh=>om);simp only[QR,ixI,e];rw[if_neg om])
theorem c252(w:World)(n:LNd):CR 252 #[.agg #[.bool n.us,.slice n.ea n.es.length n.ec,.slice n.ca n.cs.length n.cc]] w (.bool (!n.us)):=by
 refine eN1 Tryz.func252 Tryz.ntmps252 ?_
 refine aU2 ?_
 refine oBx λb1 _=>?_
 refine aU9 ?_
 exact rV
theorem c242(w:World)(bt:Nat)(j:Nat)(mo rm:Int)(gn cap:Nat)(L:List LNd)(hw:HS w (fps [.blk bt 167 6 (tbV (j:Int) mo rm (some ⟨gn,0,none⟩) (L).length cap),.blk gn 87 (cap*3) ((L).flatMap LNd.vals),.star ((L).map (Qx 50))]) [.blk bt 167 6 (tbV (j:Int) mo rm (some ⟨gn,0,none⟩) (L).length cap),.blk gn 87 (cap*3) ((L).flatMap LNd.vals),.star ((L).map (Qx 50))] w)(hnc:L.length<=cap)(hcm:cap<=maxLen)(h0:0<L.length)(hl:L.length<=1000):CE 242 #[.pointer (some ⟨bt,0,none⟩)] w (fps [.blk bt 167 6 (tbV (j:Int) mo rm (some ⟨gn,0,none⟩) (L).length cap),.blk gn 87 (cap*3) ((L).flatMap LNd.vals),.star ((L).map (Qx 50))]) (λg:(Nat×Nat)×List LNd=>.int .i64 ((QC (pln L)).1:Int)) (λg=>(pln g.2=(QC (pln L)).2/\g.2.length<=g.1.2/\g.1.2<=maxLen)) λg=>[.blk bt 167 6 (tbV (j:Int) mo rm (some ⟨g.1.1,0,none⟩) (g.2).length g.1.2),.blk g.1.1 87 (g.1.2*3) ((g.2).flatMap LNd.vals),.star ((g.2).map (Qx 50))]:=by
 have hixe:ixB (L.map λn=>!n.us)=Xu (pln L):=by unfold Xu;rw[List.map_map];rfl
 have hnl:(pln L).length=L.length:=Qg L
 refine eW1 Tryz.func242 Tryz.ntmps242 hw ?_
 refine ZW ?_
 refine oCq rfl (λw1 h1=>c251 w1 (some ⟨gn,0,none⟩) cap L 252 #[] (L.map λn=>!n.us) (h1.rw_blk nv3 aPk) om (by kernel_rfl) (by simp) (λk w2 hk h2=>by rw[Yy (d:=default) hk];exact c252 w2 (nth L k))) (aU8 ?_)
 refine Xv (α:=(Nat×Nat)×List LNd) [3,12,13,14,15,16,17,18,19,20,21,22,23,24,25,26,27,28,29] (λx=>[(3,.int .i64 ((Xu (pln L)):Int))]) (λx=>HS w (fps [.blk bt 167 6 (tbV (j:Int) mo rm (some ⟨gn,0,none⟩) (L).length cap),.blk gn 87 (cap*3) ((L).flatMap LNd.vals),.star ((L).map (Qx 50))]) [.blk bt 167 6 (tbV (j:Int) mo rm (some ⟨x.1.1,0,none⟩) (x.2).length x.1.2),.blk x.1.1 87 (x.1.2*3) ((x.2).flatMap LNd.vals),.star ((x.2).map (Qx 50))]) (λx=>(Xu (pln L))<x.2.length/\x.2.length<=x.1.2/\x.1.2<=maxLen/\usN (pln x.2) (Xu (pln L)) true=(QC (pln L)).2/\x.2.length<=1001) ?_ ?_
 ·skip
  refine sCd rfl (λh1=>?_) λh1=>?_
  ·have hz:¬Xu (pln L)<L.length:=by have hq:=h1;unfold ixI at hq;rw[hixe,List.length_map]at hq;intro h9;rw[if_pos h9]at hq;omega
   have hz1:Xu (pln L)=L.length:=by have h9:=Qer (L.map λn=>!n.us);rw[hixe,List.length_map]at h9;omega
   refine QcY (λw h=>(HS.own_shut (n:=L.length) (h.ent (Bs:=[.blk gn 87 (cap*3) (L.flatMap LNd.vals),.star (L.map (Qx 50)),.blk bt 167 6 (tbV (j:Int) mo rm (some ⟨gn,0,none⟩) L.length cap)]) aEt) (Qq nv3 L) hnc hcm)) (aU17 ?_)
   refine o_p (Qw (cs:=[_,_,_]) rfl rfl Qnd YX rfl) rfl (o_h (Qd (cs:=[_,_,_]) rfl rfl Xx YX rfl rfl rfl) rfl (λb2 _=>?_))
   refine o_h (QA [_,_,_] rfl rfl rfl Xx Tryz.underlying22 YX rfl aPk (QZ aPk) rfl (by intro u hu;simp only[List.mem_cons,List.mem_nil_iff,or_false]at hu;rcases hu with rfl|rfl|rfl<;>rfl) om (by simp only[maxLen];omega)) rfl (λb3 _=>XQ (λw h=>QcQ (n:=L.length+1) om h aPk) (λhgn=>?_))
   obtain⟨⟨ga,gc⟩,hga⟩:∃q:Option Addr×Nat,b3=q:=⟨_,rfl⟩
   subst hga
   obtain⟨g9,e9,hn9,hm9⟩:=hgn
   simp only[]at e9 hn9 hm9
   subst e9
   refine Xm (λw h=>HS.own_at h aPk) (aU3 ?_)
   refine Qcq (XW rfl rfl rfl YY rfl aPt (by show 4<=6;omega) rfl) (λ_ _=>aU ?_)
   exact Qn ((g9,gc),L++[⟨false,none,0,[],none,0,[]⟩]) ⟨by simp only[List.length_append,List.length_singleton];omega,by simp only[List.length_append,List.length_singleton];exact hn9,hm9,by unfold QC usN;rw[if_neg (by rw[hnl];exact hz),hz1,Qjl,List.set_append_right _ _ (by rw[Qg];omega),Qg,Nat.sub_self];simp only[];congr 1;show[_]=[_];congr 1;rw[show nth (pln L++pln [(⟨false,none,0,[],none,0,[]⟩:LNd)]) L.length=⟨false,[],[]⟩from QH (by rw[List.getElem?_append_right (by rw[Qg];omega),Qg,Nat.sub_self];rfl)],by simp only[List.length_append,List.length_singleton];omega⟩ (by rw[hz1];exact aSx) (λw h=>by have h2:=HS.sub_app (sub:=Qx 50) (l:=L) (x:=(⟨false,none,0,[],none,0,[]⟩:LNd)) (HS.star_close (Bs:=[_,_]) (((h.ent (Bs:=[.star (L.map (Qx 50)),.blk bt 167 6 (tbV (j:Int) mo rm (some ⟨g9,0,none⟩) (L.length+1) gc),.blk g9 87 (gc*3) (L.flatMap LNd.vals++[.bool false,.slice none 0 0,.slice none 0 0])]) aEt).own_nil 3 1).own_nil 50 2));have e8:(L++[(⟨false,none,0,[],none,0,[]⟩:LNd)]).flatMap LNd.vals=L.flatMap LNd.vals++[.bool false,.slice none 0 0,.slice none 0 0]:=(by rw[List.flatMap_append];rfl);have e7:(L++[(⟨false,none,0,[],none,0,[]⟩:LNd)]).length=L.length+1:=(by simp);dsimp only;rw[e8,e7];exact h2.ent aEt)
  have hz:Xu (pln L)<L.length:=by have hq:=h1;unfold ixI at hq;rw[hixe,List.length_map]at hq;split at hq<;>first|assumption|omega
  have hz2:ixI (L.map λn=>!n.us)=(Xu (pln L):Int):=by unfold ixI;rw[hixe,List.length_map,if_pos hz]
  refine aU ?_
  exact Qn ((gn,cap),L) ⟨hz,hnc,hcm,by unfold QC;rw[if_pos (by rw[hnl];exact hz)],by show L.length<=1001;omega⟩ (by rw[hz2];exact aSx) (λw h=>h.ent aEt)
 intro⟨⟨gn1,cap1⟩,L1⟩ hx
 dsimp only
 obtain⟨hx1,hx2,hx3,hx4,hx5⟩:=hx
 simp only[]at hx1 hx2 hx3 hx4 hx5
 refine aU8 ?_
 refine o_p (Qa rfl rfl rfl Xx ((Xu (pln L))) om om rfl) rfl (aU ?_)
 refine Qcq (XW rfl rfl rfl Qla rfl aPt (by rw[Qq nv3];show _+1<=_;omega) rfl) (λ_ _=>aU6 ?_)
 exact rT rfl rfl (λw' h'=>⟨((gn1,cap1),L1.set (Xu (pln L)) {nth L1 (Xu (pln L))with us:=true}),by unfold QC;split<;>first|rfl|(have hq9:=Qer (L.map λn=>!n.us);rw[hixe,List.length_map]at hq9;simp only[QR];congr 2;rw[hnl]at *;congr 1;omega),⟨by rw[QqI hx1];exact hx4,by simp only[List.length_set];exact hx2,hx3⟩,by have h2:=h'.ent (Bs:=[.blk bt 167 6 (tbV (j:Int) mo rm (some ⟨gn1,0,none⟩) L1.length cap1),.blk gn1 87 (cap1*3) (Qu (L1.flatMap LNd.vals) (0+(Xu (pln L))*3+0) [.bool true]),.star (L1.map (Qx 50))]) aEt;rw[QnC hx1]at h2;simp only[List.length_set];rw[Qo8 hx1];exact h2.ent aEt⟩)
theorem c243(w:World)(bt:Nat)(j:Nat)(mo rm:Int)(a:Option Addr)(cap:Nat)(L:List LNd)(i:Int)(ht:TbR w [] bt (j:Int) mo rm a L.length cap)(hs:Nt w [] a L)(hl:L.length<=100000)(hcl:∀k,k<L.length->(nth L k).cs.length<=100000):CR 243 #[.pointer (some ⟨bt,0,none⟩),.int .i64 i] w (.tuple #[.int .i64 ((Xp i (pln L) 0).1:Int),.int .i64 ((Xp i (pln L) 0).2:Int)]):=by
 refine eN2 Tryz.func243 Tryz.ntmps243 ?_
 refine Qaf ?_
 refine o_q (Qc rfl rfl YY (ht 3 _ rfl)) rfl (aU4 ?_)
 refine Qt (α:=Nat) [4,5,6,7,8,15,16,17,18,19,20,21,22,23,24,25,26,27,28] (λk=>[(15,.int .i64 (k:Int))]) (λ_=>HS w [] []) (λk=>k<=L.length/\(Xp i (pln L) 0)=Xp i ((pln L).drop k) k) (λk=>L.length-k) 0 ⟨Nat.zero_le _,rfl⟩ aSx (λw h=>h.ent aEt) (λk hx=>?_)
 obtain⟨hk1,hk2⟩:=hx
 refine aU5 ?_
 refine sCd rfl (λh1=>?_) λh1=>?_
 ·have hkl:k<L.length:=by omega
  have hst:=Qlh (i:=i) (ns:=pln L) (k:=k) (by rw[Qg];exact hkl)
  rw[Qz hkl]at hst
  simp only[LNd.pl]at hst
  refine aU6 ?_
  refine o_p (Qa rfl rfl rfl Xx (k) om om (Rw.some hs.1 om)) rfl (o_q (Qm _ rfl rfl Qbj rfl (Rw.rd hs.1 hkl)) rfl (oAl (λb2 _=>?_) YX))
  refine aU8 ?_
  refine oCq rfl (λw1 h1=>c121 w1 (nth L k).ca (nth L k).cc (nth L k).cs i ((hs.cs hkl).later h1) (hcl k hkl)) (aU7 ?_)
  refine sCd rfl (λh3=>?_) λh3=>?_
  ·have hz:ixB (Y7 (nth L k).cs i)<(nth L k).cs.length:=by have hq:=h3;unfold ixI at hq;rw[YS]at hq;split at hq<;>first|assumption|omega
   have hz3:(Xp i (pln L) 0)=(k,ixB (Y7 (nth L k).cs i)):=(hk2.trans hst).trans (if_pos hz)
   have hz2:ixI (Y7 (nth L k).cs i)=(ixB (Y7 (nth L k).cs i):Int):=by unfold ixI;rw[YS,if_pos hz]
   refine aU7 ?_
   exact Qf (rs:=[.tmp 4,.tmp 5]) rfl (.tmp rfl (.tmp rfl (.nil))) (λw' h'=>⟨by rw[hz3,hz2];rfl,h'.below⟩)
  have hz:¬ixB (Y7 (nth L k).cs i)<(nth L k).cs.length:=by have hq:=h3;unfold ixI at hq;rw[YS]at hq;intro h9;rw[if_pos h9]at hq;omega
  refine aT4 ?_
  refine aU2 ?_
  exact sBk (k+1) om ⟨om,(hk2.trans hst).trans (if_neg hz)⟩
 have hz:(Xp i (pln L) 0)=(0,0):=by rw[hk2,List.drop_of_length_le (by rw[Qg];omega)];rfl
 refine Qj rfl ?_
 refine aU5 ?_
 exact Qf (rs:=[.tmp 4,.tmp 5]) rfl (.tmp rfl (.tmp rfl (.nil))) (λw' h'=>⟨by rw[hz];rfl,h'.below⟩)
theorem Qrz(w:World)(a:Option Addr)(i n m cap:Nat)(xs news:List Value)(b0 c0 tot2:Nat)(hw:HS w (fps [.own (.slice a n cap) 50 2 n xs,.blk b0 50 tot2 news]) [.own (.slice a n cap) 50 2 n xs,.blk b0 50 tot2 news] w)(hm0:0<m)(hl:news.length=m*2)(hn1:∀u∈news,u.oneCell'=true)(hx1:∀u∈xs,u.oneCell'=true)(hmax:(n+m)*32<=140737488355328)(hi:i=n):CE 214 #[.slice a n cap,.int .i64 i,.slice (some ⟨b0,0,none⟩) m c0] w (fps [.own (.slice a n cap) 50 2 n xs,.blk b0 50 tot2 news]) (λg:Option Addr×Nat=>.slice g.1 (n+m) g.2) (λg=>True) λg=>[.own (.slice g.1 (n+m) g.2) 50 2 (n+m) (xs.take (i*2)++news++xs.drop (i*2)),.blk b0 50 tot2 news]:=by
 obtain⟨_,hnc,hcm,hxl⟩:=hw.own_facts .here
 refine eW3 Tryz.func214 Tryz.ntmps214 hw ?_
 refine aU8 ?_
 refine o_p (QM _ _ i n rfl rfl Xg ⟨_,_,rfl,rfl⟩ rfl om om) rfl (Qak ?_)
 refine sCd rfl (λh1=>?_) λh1=>?_
 ·exfalso;first|omega|(simp at h1;done)|(simp_all;done)
 refine Qfd ?_
 refine sCd rfl (λh2=>?_) λh2=>?_
 ·refine aU4 ?_
  refine o_h (QA news rfl rfl rfl Xg Tryz.underlying85 XU rfl aPk (QZ aPk) hl hn1 om (by simp only[maxLen];omega)) rfl (λb3 _=>aU2 ?_)
  exact rT rfl rfl (λw' h'=>⟨(_,_),rfl,trivial,by subst hi;rw[List.take_of_length_le om,List.drop_eq_nil_of_le om,List.append_nil];exact h'.ent aEt⟩)
 exfalso;first|omega|(simp at h2;done)|(simp_all;done)
theorem QrA(w:World)(gg i n m cap:Nat)(xs news:List Value)(b0 c0 tot2:Nat)(M:List Nat)(hw:HS w M [.blk gg 50 (cap*2) xs,.blk b0 50 tot2 news] w)(hnc:n<=cap)(hcm:cap<=maxLen)(hxl:xs.length=n*2)(hm0:0<m)(hl:news.length=m*2)(hn1:∀u∈news,u.oneCell'=true)(hx1:∀u∈xs,u.oneCell'=true)(hmax:(n+m)*32<=140737488355328)(hi:i<n):CE 214 #[.slice (some ⟨gg,0,none⟩) n cap,.int .i64 i,.slice (some ⟨b0,0,none⟩) m c0] w M (λg:Option Addr×Nat=>.slice g.1 (n+m) g.2) (λg=>True) λg=>[.own (.slice g.1 (n+m) g.2) 50 2 (n+m) (xs.take (i*2)++news++xs.drop (i*2)),.blk b0 50 tot2 news]:=by
 have ht2:=(hw.blk_get (.there .here)).len_le
 have hcl:(cut xs 0 (i*2)).length=i*2:=Xt _ _ _ om
 refine eW3 Tryz.func214 Tryz.ntmps214 hw ?_
 refine aU8 ?_
 refine o_p (QM _ _ i n rfl rfl Xg ⟨_,_,rfl,rfl⟩ rfl om om) rfl (Qak ?_)
 refine sCd rfl (λh1=>?_) λh1=>?_
 ·exfalso;first|omega|(simp at h1;done)|(simp_all;done)
 refine Qfd ?_
 refine sCd rfl (λh2=>?_) λh2=>?_
 ·exfalso;first|omega|(simp at h2;done)|(simp_all;done)
 refine aT7 ?_
 refine aU ?_
 refine o_p (Qkt rfl rfl Tryz.underlying85) rfl (aU2 ?_)
 refine sCd rfl (λh3=>?_) λh3=>?_
 ·refine aU4 ?_
  refine o_p (QM _ _ 0 i rfl rfl Xg rfl ⟨_,_,rfl,rfl⟩ om om) rfl ?_
  refine Ql (show _=Value.slice (some ⟨gg,0,none⟩) (i) (cap)from by rw[Qav]<;>(congr 1<;>omega)) (aT3 ?_)
  refine aT2 ?_
  refine Ql (show _=Value.int .i64 ((n+m-i:Nat):Int)from by first|rfl|(congr 1<;>first|rfl|omega)) (o_h (ZJ (m:=n+m-i) (olds:=cut xs 0 (i*2)) rfl rfl rfl Xg Yx XU rfl (by decide) om om (QbH 0 (i*2) (λ_=>rfl) aPk) hcl om (by simp only[maxLen];omega)) rfl (λ⟨b4,c5⟩⟨h6,k7⟩=>?_))
  refine Ql (show _=Value.slice (some ⟨b4,0,none⟩) (n+m) c5 from by first|rfl|(congr 1<;>first|rfl|omega)) (aU3 ?_)
  refine Qi (L':=[(0,_),(1,_),(2,_),(6,_),(7,_),(8,_),(9,_)]) aSx (λ_ h=>h) ?_
  refine aU3 ?_
  refine o_p (QM _ _ i (n+m) rfl rfl Xg ⟨_,_,rfl,rfl⟩ rfl om om) rfl ?_
  refine Ql (show _=Value.slice (some ⟨b4,i*2,none⟩) (n+m-i) (c5-i)from by rw[Yc om]<;>(congr 1<;>omega)) (aU ?_)
  refine o_h (Qbo m news rfl rfl rfl Xg aPt om hl (λ_=>rfl) (by simp only[QY,List.length_append,Qb];omega) (QZ aPk) hn1) rfl (λ_ _=>aU2 ?_)
  refine Qp [8] mixed ?_
  refine dP 0 ?_
  refine dP 1 ?_
  refine dP 2 ?_
  refine dP 3 ?_
  try refine dWr ?_
  refine dV 4 rfl (QM _ _ (i+m) (n+m) rfl rfl Xg ⟨_,_,rfl,om⟩ rfl om om) ?_
  refine Qs (show _=Value.slice (some ⟨b4,(i+m)*2,none⟩) (n-i) (c5-(i+m))from by rw[Yc om]<;>(congr 1<;>omega)) (dP 5 ?_)
  refine dP 6 ?_
  refine dV 7 rfl (QM _ _ i n rfl rfl Xg ⟨_,_,rfl,rfl⟩ rfl om om) ?_
  refine Qs (show _=Value.slice (some ⟨gg,i*2,none⟩) (n-i) (cap-i)from by rw[Yc om]<;>(congr 1<;>omega)) (dH 8 rfl (Qbo (n-i) (cut xs (i*2) ((n-i)*2)) rfl rfl rfl Xg aPt om (Xt _ _ _ om) (λ_=>rfl) (by rw[Xt _ _ _ om];simp only[QY,List.length_append,Qb];omega) (QbH (i*2) ((n-i)*2) (λ_=>rfl) aPk) (QgZ hx1 _ _)) (λ_ _=>dTu [] ?_))
  refine dNi ?_
  refine aU5 ?_
  exact rT rfl rfl (λw' h'=>⟨(some ⟨b4,0,none⟩,c5),rfl,trivial,(HS.to_own (n:=n+m) (xs:=xs.take (i*2)++news++xs.drop (i*2)) (ds:=[]) aPk h' (by have hq:=Qib (xs:=xs) (news:=news) (z:=Qb6 [.string (bs []),.string (bs [])] ((n+m-i)*2)) (p:=i*2) (q:=m*2) (N:=n*2) hxl om hl (by rw[QY];omega);rw[List.append_nil];rw[show(i+m)*2=i*2+m*2 from om,show(n-i)*2=n*2-i*2 from om];exact hq) (by simp only[List.length_append,List.length_take,List.length_drop];omega) om om).ent aEt⟩)
 refine aT7 ?_
 refine o_p (QM _ _ 0 (n+m) rfl rfl Xg rfl ⟨_,_,rfl,om⟩ om om) rfl ?_
 refine Ql (show _=Value.slice (some ⟨gg,0,none⟩) (n+m) cap from by rw[Qav]<;>(congr 1<;>omega)) (QfP (λw h=>HS.blk_full (b:=gg) aPk h) λds=>?_)
 refine XQ (λw h=>h.1) λhds=>Xm (λw h=>h.2) (QoU ?_)
 refine o_p (QM _ _ (i+m) (n+m) rfl rfl Xg ⟨_,_,rfl,om⟩ rfl om om) rfl ?_
 refine Ql (show _=Value.slice (some ⟨gg,(i+m)*2,none⟩) (n-i) (cap-(i+m))from by rw[Yc om]<;>(congr 1<;>omega)) (o_q (Qe7 rfl Qqf rfl rfl Xg (hp:=aPk) (hp':=aPk) (by decide) om om) rfl (aU2 ?_))
 refine sCd rfl (λh8=>?_) λh8=>?_
 ·refine aU ?_
  refine Qi (L':=[(0,_),(1,_),(2,_),(6,_),(7,_),(8,_)]) aSx (λ_ h=>h) ?_
  refine Qp [8] mixed ?_
  refine dP 0 ?_
  refine dP 1 ?_
  refine dP 2 ?_
  refine dP 3 ?_
  try refine dWr ?_
  refine dV 4 rfl (QM _ _ (i+m) (n+m) rfl rfl Xg ⟨_,_,rfl,om⟩ rfl om om) ?_
  refine Qs (show _=Value.slice (some ⟨gg,(i+m)*2,none⟩) (n-i) (cap-(i+m))from by rw[Yc om]<;>(congr 1<;>omega)) (dP 5 ?_)
  refine dP 6 ?_
  refine dV 7 rfl (QM _ _ i (n+m) rfl rfl Xg ⟨_,_,rfl,rfl⟩ rfl om om) ?_
  refine Qs (show _=Value.slice (some ⟨gg,i*2,none⟩) (n+m-i) (cap-i)from by rw[Yc om]<;>(congr 1<;>omega)) (dH 8 rfl (Qbo (n-i) (cut (xs++ds) (i*2) ((n-i)*2)) rfl rfl rfl Xg aPt om (Xt _ _ _ (by simp only[QY,List.length_append,Qb];omega)) (λ_=>rfl) (by rw[Xt _ _ _ (by simp only[QY,List.length_append,Qb];omega)];simp only[QY,List.length_append,Qb];omega) (QbH (i*2) ((n-i)*2) (λ_=>rfl) aPk) (QjH hx1 om)) (λ_ _=>dTu [] ?_))
  refine dNi ?_
  refine aU4 ?_
  refine o_p (QM _ _ i (n+m) rfl rfl Xg ⟨_,_,rfl,rfl⟩ rfl om om) rfl ?_
  refine Ql (show _=Value.slice (some ⟨gg,i*2,none⟩) (n+m-i) (cap-i)from by rw[Yc om]<;>(congr 1<;>omega)) (aU ?_)
  refine o_h (Qbo m news rfl rfl rfl Xg aPt om hl (λ_=>rfl) (by simp only[QY,List.length_append,Qb];omega) (QZ aPk) hn1) rfl (λ_ _=>aU6 ?_)
  exact rT rfl rfl (λw' h'=>⟨(some ⟨gg,0,none⟩,cap),rfl,trivial,(HS.to_own (n:=n+m) (xs:=xs.take (i*2)++news++xs.drop (i*2)) (ds:=ds.drop (m*2)) aPk h' (by have hq:=QmL (xs:=xs) (ds:=ds) (news:=news) (p:=i*2) (q:=m*2) (N:=n*2) hxl om hl om;rw[show(i+m)*2=i*2+m*2 from om,show(n-i)*2=n*2-i*2 from om];exact hq) (by simp only[List.length_append,List.length_take,List.length_drop];omega) om om).ent aEt⟩)
 exfalso;first|omega|(simp at h8;done)|(simp_all;done)
theorem c214(w:World)(a:Option Addr)(i n m cap:Nat)(xs news:List Value)(b0 c0 tot2:Nat)(hw:HS w (fps [.own (.slice a n cap) 50 2 n xs,.blk b0 50 tot2 news]) [.own (.slice a n cap) 50 2 n xs,.blk b0 50 tot2 news] w)(hm0:0<m)(hl:news.length=m*2)(hn1:∀u∈news,u.oneCell'=true)(hx1:∀u∈xs,u.oneCell'=true)(hmax:(n+m)*32<=140737488355328)(hi:i<=n):CE 214 #[.slice a n cap,.int .i64 i,.slice (some ⟨b0,0,none⟩) m c0] w (fps [.own (.slice a n cap) 50 2 n xs,.blk b0 50 tot2 news]) (λg:Option Addr×Nat=>.slice g.1 (n+m) g.2) (λg=>True) λg=>[.own (.slice g.1 (n+m) g.2) 50 2 (n+m) (xs.take (i*2)++news++xs.drop (i*2)),.blk b0 50 tot2 news]:=by
  rcases Nat.lt_or_ge i n with h|h
  · obtain⟨gg,rfl,_,hnc,hcm,hxl,hb⟩:=hw.own_blk om .here;exact QrA w gg i n m cap xs news b0 c0 tot2 _ hb hnc hcm hxl hm0 hl hn1 hx1 hmax h
  · exact Qrz w a i n m cap xs news b0 c0 tot2 hw hm0 hl hn1 hx1 hmax om
theorem QrG(w:World)(a:Option Addr)(i n m cap:Nat)(xs news:List Value)(b0 c0 tot2:Nat)(hw:HS w (fps [.own (.slice a n cap) 3 1 n xs,.blk b0 3 tot2 news]) [.own (.slice a n cap) 3 1 n xs,.blk b0 3 tot2 news] w)(hm0:0<m)(hl:news.length=m*1)(hn1:∀u∈news,u.oneCell'=true)(hx1:∀u∈xs,u.oneCell'=true)(hmax:(n+m)*8<=140737488355328)(hi:i=n):CE 244 #[.slice a n cap,.int .i64 i,.slice (some ⟨b0,0,none⟩) m c0] w (fps [.own (.slice a n cap) 3 1 n xs,.blk b0 3 tot2 news]) (λg:Option Addr×Nat=>.slice g.1 (n+m) g.2) (λg=>True) λg=>[.own (.slice g.1 (n+m) g.2) 3 1 (n+m) (xs.take (i*1)++news++xs.drop (i*1)),.blk b0 3 tot2 news]:=by
 obtain⟨_,hnc,hcm,hxl⟩:=hw.own_facts .here
 refine eW3 Tryz.func244 Tryz.ntmps244 hw ?_
 refine aU8 ?_
 refine o_p (QM _ _ i n rfl rfl QD ⟨_,_,rfl,rfl⟩ rfl om om) rfl (Qak ?_)
 refine sCd rfl (λh1=>?_) λh1=>?_
 ·exfalso;first|omega|(simp at h1;done)|(simp_all;done)
 refine Qfd ?_
 refine sCd rfl (λh2=>?_) λh2=>?_
 ·refine aU4 ?_
  refine o_h (QA news rfl rfl rfl QD Tryz.underlying65 Ye rfl aPk (QZ aPk) hl hn1 om (by simp only[maxLen];omega)) rfl (λb3 _=>aU2 ?_)
  exact rT rfl rfl (λw' h'=>⟨(_,_),rfl,trivial,by subst hi;rw[List.take_of_length_le om,List.drop_eq_nil_of_le om,List.append_nil];exact h'.ent aEt⟩)
 exfalso;first|omega|(simp at h2;done)|(simp_all;done)
theorem QrK(w:World)(gg i n m cap:Nat)(xs news:List Value)(b0 c0 tot2:Nat)(M:List Nat)(hw:HS w M [.blk gg 3 (cap*1) xs,.blk b0 3 tot2 news] w)(hnc:n<=cap)(hcm:cap<=maxLen)(hxl:xs.length=n*1)(hm0:0<m)(hl:news.length=m*1)(hn1:∀u∈news,u.oneCell'=true)(hx1:∀u∈xs,u.oneCell'=true)(hmax:(n+m)*8<=140737488355328)(hi:i<n):CE 244 #[.slice (some ⟨gg,0,none⟩) n cap,.int .i64 i,.slice (some ⟨b0,0,none⟩) m c0] w M (λg:Option Addr×Nat=>.slice g.1 (n+m) g.2) (λg=>True) λg=>[.own (.slice g.1 (n+m) g.2) 3 1 (n+m) (xs.take (i*1)++news++xs.drop (i*1)),.blk b0 3 tot2 news]:=by
 have ht2:=(hw.blk_get (.there .here)).len_le
 have hcl:(cut xs 0 (i*1)).length=i*1:=Xt _ _ _ om
 refine eW3 Tryz.func244 Tryz.ntmps244 hw ?_
 refine aU8 ?_
 refine o_p (QM _ _ i n rfl rfl QD ⟨_,_,rfl,rfl⟩ rfl om om) rfl (Qak ?_)
 refine sCd rfl (λh1=>?_) λh1=>?_
 ·exfalso;first|omega|(simp at h1;done)|(simp_all;done)
 refine Qfd ?_
 refine sCd rfl (λh2=>?_) λh2=>?_
 ·exfalso;first|omega|(simp at h2;done)|(simp_all;done)
 refine aT7 ?_
 refine aU ?_
 refine o_p (Qkt rfl rfl Tryz.underlying65) rfl (aU2 ?_)
 refine sCd rfl (λh3=>?_) λh3=>?_
 ·refine aU4 ?_
  refine o_p (QM _ _ 0 i rfl rfl QD rfl ⟨_,_,rfl,rfl⟩ om om) rfl ?_
  refine Ql (show _=Value.slice (some ⟨gg,0,none⟩) (i) (cap)from by rw[Qav]<;>(congr 1<;>omega)) (aT3 ?_)
  refine aT2 ?_
  refine Ql (show _=Value.int .i64 ((n+m-i:Nat):Int)from by first|rfl|(congr 1<;>first|rfl|omega)) (o_h (ZJ (m:=n+m-i) (olds:=cut xs 0 (i*1)) rfl rfl rfl QD Yx Ye rfl (by decide) om om (QbH 0 (i*1) (λ_=>rfl) aPk) hcl om (by simp only[maxLen];omega)) rfl (λ⟨b4,c5⟩⟨h6,k7⟩=>?_))
  refine Ql (show _=Value.slice (some ⟨b4,0,none⟩) (n+m) c5 from by first|rfl|(congr 1<;>first|rfl|omega)) (aU3 ?_)
  refine Qi (L':=[(0,_),(1,_),(2,_),(6,_),(7,_),(8,_),(9,_)]) aSx (λ_ h=>h) ?_
  refine aU3 ?_
  refine o_p (QM _ _ i (n+m) rfl rfl QD ⟨_,_,rfl,rfl⟩ rfl om om) rfl ?_
  refine Ql (show _=Value.slice (some ⟨b4,i*1,none⟩) (n+m-i) (c5-i)from by rw[Yc om]<;>(congr 1<;>omega)) (aU ?_)
  refine o_h (Qbo m news rfl rfl rfl QD aPt om hl (λ_=>rfl) (by simp only[QY,List.length_append,Qb];omega) (QZ aPk) hn1) rfl (λ_ _=>aU2 ?_)
  refine Qp [8] mixed ?_
  refine dP 0 ?_
  refine dP 1 ?_
  refine dP 2 ?_
  refine dP 3 ?_
  try refine dWr ?_
  refine dV 4 rfl (QM _ _ (i+m) (n+m) rfl rfl QD ⟨_,_,rfl,om⟩ rfl om om) ?_
  refine Qs (show _=Value.slice (some ⟨b4,(i+m)*1,none⟩) (n-i) (c5-(i+m))from by rw[Yc om]<;>(congr 1<;>omega)) (dP 5 ?_)
  refine dP 6 ?_
  refine dV 7 rfl (QM _ _ i n rfl rfl QD ⟨_,_,rfl,rfl⟩ rfl om om) ?_
  refine Qs (show _=Value.slice (some ⟨gg,i*1,none⟩) (n-i) (cap-i)from by rw[Yc om]<;>(congr 1<;>omega)) (dH 8 rfl (Qbo (n-i) (cut xs (i*1) ((n-i)*1)) rfl rfl rfl QD aPt om (Xt _ _ _ om) (λ_=>rfl) (by rw[Xt _ _ _ om];simp only[QY,List.length_append,Qb];omega) (QbH (i*1) ((n-i)*1) (λ_=>rfl) aPk) (QgZ hx1 _ _)) (λ_ _=>dTu [] ?_))
  refine dNi ?_
  refine aU5 ?_
  exact rT rfl rfl (λw' h'=>⟨(some ⟨b4,0,none⟩,c5),rfl,trivial,(HS.to_own (n:=n+m) (xs:=xs.take (i*1)++news++xs.drop (i*1)) (ds:=[]) aPk h' (by have hq:=Qib (xs:=xs) (news:=news) (z:=Qb6 [.int .i64 0] ((n+m-i)*1)) (p:=i*1) (q:=m*1) (N:=n*1) hxl om hl (by rw[QY];omega);rw[List.append_nil];rw[show(i+m)*1=i*1+m*1 from om,show(n-i)*1=n*1-i*1 from om];exact hq) (by simp only[List.length_append,List.length_take,List.length_drop];omega) om om).ent aEt⟩)
 refine aT7 ?_
 refine o_p (QM _ _ 0 (n+m) rfl rfl QD rfl ⟨_,_,rfl,om⟩ om om) rfl ?_
 refine Ql (show _=Value.slice (some ⟨gg,0,none⟩) (n+m) cap from by rw[Qav]<;>(congr 1<;>omega)) (QfP (λw h=>HS.blk_full (b:=gg) aPk h) λds=>?_)
 refine XQ (λw h=>h.1) λhds=>Xm (λw h=>h.2) (QoU ?_)
 refine o_p (QM _ _ (i+m) (n+m) rfl rfl QD ⟨_,_,rfl,om⟩ rfl om om) rfl ?_
 refine Ql (show _=Value.slice (some ⟨gg,(i+m)*1,none⟩) (n-i) (cap-(i+m))from by rw[Yc om]<;>(congr 1<;>omega)) (o_q (Qe7 rfl Qq1 rfl rfl QD (hp:=aPk) (hp':=aPk) (by decide) om om) rfl (aU2 ?_))
 refine sCd rfl (λh8=>?_) λh8=>?_
 ·refine aU ?_
  refine Qi (L':=[(0,_),(1,_),(2,_),(6,_),(7,_),(8,_)]) aSx (λ_ h=>h) ?_
  refine Qp [8] mixed ?_
  refine dP 0 ?_
  refine dP 1 ?_
  refine dP 2 ?_
  refine dP 3 ?_
  try refine dWr ?_
  refine dV 4 rfl (QM _ _ (i+m) (n+m) rfl rfl QD ⟨_,_,rfl,om⟩ rfl om om) ?_
  refine Qs (show _=Value.slice (some ⟨gg,(i+m)*1,none⟩) (n-i) (cap-(i+m))from by rw[Yc om]<;>(congr 1<;>omega)) (dP 5 ?_)
  refine dP 6 ?_
  refine dV 7 rfl (QM _ _ i (n+m) rfl rfl QD ⟨_,_,rfl,rfl⟩ rfl om om) ?_
  refine Qs (show _=Value.slice (some ⟨gg,i*1,none⟩) (n+m-i) (cap-i)from by rw[Yc om]<;>(congr 1<;>omega)) (dH 8 rfl (Qbo (n-i) (cut (xs++ds) (i*1) ((n-i)*1)) rfl rfl rfl QD aPt om (Xt _ _ _ (by simp only[QY,List.length_append,Qb];omega)) (λ_=>rfl) (by rw[Xt _ _ _ (by simp only[QY,List.length_append,Qb];omega)];simp only[QY,List.length_append,Qb];omega) (QbH (i*1) ((n-i)*1) (λ_=>rfl) aPk) (QjH hx1 om)) (λ_ _=>dTu [] ?_))
  refine dNi ?_
  refine aU4 ?_
  refine o_p (QM _ _ i (n+m) rfl rfl QD ⟨_,_,rfl,rfl⟩ rfl om om) rfl ?_
  refine Ql (show _=Value.slice (some ⟨gg,i*1,none⟩) (n+m-i) (cap-i)from by rw[Yc om]<;>(congr 1<;>omega)) (aU ?_)
  refine o_h (Qbo m news rfl rfl rfl QD aPt om hl (λ_=>rfl) (by simp only[QY,List.length_append,Qb];omega) (QZ aPk) hn1) rfl (λ_ _=>aU6 ?_)
  exact rT rfl rfl (λw' h'=>⟨(some ⟨gg,0,none⟩,cap),rfl,trivial,(HS.to_own (n:=n+m) (xs:=xs.take (i*1)++news++xs.drop (i*1)) (ds:=ds.drop (m*1)) aPk h' (by have hq:=QmL (xs:=xs) (ds:=ds) (news:=news) (p:=i*1) (q:=m*1) (N:=n*1) hxl om hl om;rw[show(i+m)*1=i*1+m*1 from om,show(n-i)*1=n*1-i*1 from om];exact hq) (by simp only[List.length_append,List.length_take,List.length_drop];omega) om om).ent aEt⟩)
 exfalso;first|omega|(simp at h8;done)|(simp_all;done)
theorem c244(w:World)(a:Option Addr)(i n m cap:Nat)(xs news:List Value)(b0 c0 tot2:Nat)(hw:HS w (fps [.own (.slice a n cap) 3 1 n xs,.blk b0 3 tot2 news]) [.own (.slice a n cap) 3 1 n xs,.blk b0 3 tot2 news] w)(hm0:0<m)(hl:news.length=m*1)(hn1:∀u∈news,u.oneCell'=true)(hx1:∀u∈xs,u.oneCell'=true)(hmax:(n+m)*8<=140737488355328)(hi:i<=n):CE 244 #[.slice a n cap,.int .i64 i,.slice (some ⟨b0,0,none⟩) m c0] w (fps [.own (.slice a n cap) 3 1 n xs,.blk b0 3 tot2 news]) (λg:Option Addr×Nat=>.slice g.1 (n+m) g.2) (λg=>True) λg=>[.own (.slice g.1 (n+m) g.2) 3 1 (n+m) (xs.take (i*1)++news++xs.drop (i*1)),.blk b0 3 tot2 news]:=by
  rcases Nat.lt_or_ge i n with h|h
  · obtain⟨gg,rfl,_,hnc,hcm,hxl,hb⟩:=hw.own_blk om .here;exact QrK w gg i n m cap xs news b0 c0 tot2 _ hb hnc hcm hxl hm0 hl hn1 hx1 hmax h
  · exact QrG w a i n m cap xs news b0 c0 tot2 hw hm0 hl hn1 hx1 hmax om
theorem Qm3:QE Tryz.prog 242=true:=by kernel_rfl
instance:TFn Tryz.prog 243:=⟨by kernel_rfl⟩
theorem QlZ:QE Tryz.prog 214=true:=by kernel_rfl
theorem Qp9:QE Tryz.prog 244=true:=by kernel_rfl
theorem Qpq(w:World)(a:Option Addr)(i cap:Nat)(l:List TEnt)(x:TEnt)(b0 c0 tot2:Nat)(hw:HS w (fps [.own (.slice a l.length cap) 50 2 l.length (l.flatMap TEnt.vals),.blk b0 50 tot2 (TEnt.vals x)]) [.own (.slice a l.length cap) 50 2 l.length (l.flatMap TEnt.vals),.blk b0 50 tot2 (TEnt.vals x)] w)(hmax:l.length<=100000)(hi:i<=l.length):CE 214 #[.slice a l.length cap,.int .i64 (i:Int),.slice (some ⟨b0,0,none⟩) 1 c0] w (fps [.own (.slice a l.length cap) 50 2 l.length (l.flatMap TEnt.vals),.blk b0 50 tot2 (TEnt.vals x)]) (λg:Option Addr×Nat=>.slice g.1 (QL l i x).length g.2) (λg=>True) λg=>[.own (.slice g.1 (QL l i x).length g.2) 50 2 (QL l i x).length ((QL l i x).flatMap TEnt.vals),.blk b0 50 tot2 (TEnt.vals x)]:=by
  have h:=c214 w a i l.length 1 cap (l.flatMap TEnt.vals) (TEnt.vals x) b0 c0 tot2 hw (by decide) (ev2 x) (λu hu=>ev1 x u hu) (Yh ev1 l) om hi;rw[QhM ev2]at h;rw[Zt hi];exact h
theorem QrF(w:World)(a:Option Addr)(i cap:Nat)(l:List Int)(x:Int)(b0 c0 tot2:Nat)(hw:HS w (fps [.own (.slice a l.length cap) 3 1 l.length (l.flatMap inV),.blk b0 3 tot2 (inV x)]) [.own (.slice a l.length cap) 3 1 l.length (l.flatMap inV),.blk b0 3 tot2 (inV x)] w)(hmax:l.length<=100000)(hi:i<=l.length):CE 244 #[.slice a l.length cap,.int .i64 (i:Int),.slice (some ⟨b0,0,none⟩) 1 c0] w (fps [.own (.slice a l.length cap) 3 1 l.length (l.flatMap inV),.blk b0 3 tot2 (inV x)]) (λg:Option Addr×Nat=>.slice g.1 (QL l i x).length g.2) (λg=>True) λg=>[.own (.slice g.1 (QL l i x).length g.2) 3 1 (QL l i x).length ((QL l i x).flatMap inV),.blk b0 3 tot2 (inV x)]:=by
  have h:=c244 w a i l.length 1 cap (l.flatMap inV) (inV x) b0 c0 tot2 hw (by decide) (iv1 x) (λu hu=>QoW x u hu) (Yh QoW l) om hi;rw[QhM iv1]at h;rw[Zt hi];exact h
set_option maxHeartbeats 4000000 in
theorem c231(w:World)(bt:Nat)(j:Nat)(mo rm:Int)(gn cap:Nat)(L:List LNd)(i:Nat)(hw:HS w (fps [.blk bt 167 6 (tbV (j:Int) mo rm (some ⟨gn,0,none⟩) (L).length cap),.blk gn 87 (cap*3) ((L).flatMap LNd.vals),.star ((L).map (Qx 50))]) [.blk bt 167 6 (tbV (j:Int) mo rm (some ⟨gn,0,none⟩) (L).length cap),.blk gn 87 (cap*3) ((L).flatMap LNd.vals),.star ((L).map (Qx 50))] w)(hnc:L.length<=cap)(hcm:cap<=maxLen)(hok:SpOk mo (pln L) i):CE 231 #[.pointer (some ⟨bt,0,none⟩),.int .i64 (i:Int)] w (fps [.blk bt 167 6 (tbV (j:Int) mo rm (some ⟨gn,0,none⟩) (L).length cap),.blk gn 87 (cap*3) ((L).flatMap LNd.vals),.star ((L).map (Qx 50))]) (λg:(Nat×Nat)×List LNd=>.tuple #[]) (λg=>(pln g.2=Qah mo (pln L) i/\g.2.length<=g.1.2/\g.1.2<=maxLen)) λg=>[.blk bt 167 6 (tbV (j:Int) mo rm (some ⟨g.1.1,0,none⟩) (g.2).length g.1.2),.blk g.1.1 87 (g.1.2*3) ((g.2).flatMap LNd.vals),.star ((g.2).map (Qx 50))]:=by
 have hlt0:=hok.lt
 have hln0:=hok.len
 rw[Qg]at hlt0 hln0
 have hmo:=hok.mo0
 have hes0:=hok.es
 have hcs0:=hok.cs
 have hne:=Qel hok.lt hok.us
 have hfn:=Qba hok.lt hok.us
 have hfl:=Qek (pln L)
 have hfl2:=Qbr (pln L)
 rw[Qg]at hfl2
 have hpar:=hok.par
 have hparE:=hok.parE
 have hparC:=hok.parC
 rw[Qhy]at hpar
 have hsA:=hok.sm.splA mo i
 have hsF:=hok.sm.fre
 refine eW2 Tryz.func231 Tryz.ntmps231 hw ?_
 refine aU3 ?_
 refine o_h (QV (Cs:=[.blk bt 167 6 (tbV (j:Int) mo rm (some ⟨gn,0,none⟩) (L).length cap),.blk gn 87 (cap*3) ((L).flatMap LNd.vals),.star ((L).map (Qx 50))]) rfl Qm3 rfl aPs (λw1 h1 hf=>c242 w1 bt j mo rm gn cap L hf hnc hcm om om)) rfl (λ⟨⟨gn1,cap1⟩,L1⟩hF1=>?_)
 dsimp only
 obtain⟨hL1,hn1,hm1⟩:=hF1
 simp only[]at hL1 hn1 hm1
 have hl1:L1.length=(QC (pln L)).2.length:=by rw[<-hL1,Qg]
 have hi1:i<L1.length:=om
 have ho1:(QC (pln L)).1<L1.length:=om
 have hN1:(nth L1 i).pl=nth (pln L) i:=by rw[<-Qz hi1,hL1,hfn]
 have hE1:(nth L1 i).es=(nth (pln L) i).es:=congrArg Nd.es hN1
 have hC1:(nth L1 i).cs=(nth (pln L) i).cs:=congrArg Nd.cs hN1
 have hN1e:(nth (QC (pln L)).2 i).es=(nth L1 i).es:=by rw[<-hL1,Qz hi1];rfl
 have hN1c:(nth (QC (pln L)).2 i).cs=(nth L1 i).cs:=by rw[<-hL1,Qz hi1];rfl
 have hsm1:(Qy mo)<(nth L1 i).es.length:=by rw[hE1];exact hes0
 have hsE1:=(hok.sm i).1
 rw[<-hE1]at hsE1
 have hsC1:=(hok.sm i).2
 rw[<-hC1]at hsC1
 rw[<-hC1]at hcs0
 refine Zn ?_
 refine o_p (Qa rfl rfl rfl Xx (i) om om rfl) rfl (Ql (show _=Value.pointer (some ⟨gn1,i*3,none⟩)from by rw[Nat.zero_add]) (QoU ?_))
 refine o_p (Qa5 rfl rfl rfl om om om) rfl (Ql (show _=Value.int .i64 ((Qy mo):Int)from by unfold Qy;congr 1;omega) (aU7 ?_))
 refine o_q (Qo rfl rfl YW (λw h=>HS.nd_cell hi1 h aPk 1 rfl (by decide))) rfl (XQ (λw h=>HS.es_some hi1 om h aPk) λhge=>?_)
 obtain⟨ge,hge⟩:=hge
 refine XQ (λw h=>HS.es_room hi1 h aPk) λhrE=>aU ?_
 refine o_p (Qa rfl rfl rfl Xg _ rfl om hge) rfl (o_q (ZQ _ rfl rfl Z4 rfl (λw h=>HS.es_rd hi1 hsm1 hge h aPk)) rfl (oAl (λb1 _=>?_) XU))
 refine aU3 ?_
 refine Qp [16] mixed ?_
 refine dP 0 ?_
 refine dP 1 ?_
 refine dFa 2 ?_
 refine dFa 3 ?_
 refine dLd 4 [[]] ?_
 refine dP 5 ?_
 refine dP 6 ?_
 refine dP 7 ?_
 refine dFa 8 ?_
 refine dQ 9 [[]] rfl (Qo rfl rfl YW (λw h=>HS.nd_cell hi1 h aPk 1 rfl (by decide))) (dP 10 ?_)
 refine dP 11 ?_
 try refine dWr ?_
 refine dV 12 rfl (QM _ _ ((Qy mo)+1) ((nth L1 i).es.length) rfl rfl Xg ⟨_,_,rfl,om⟩ rfl om om) (Qs (show _=Value.slice (X1 (nth L1 i).ea (nth L1 i).ec ((Qy mo)+1) 2) ((nth L1 i).es.drop ((Qy mo)+1)).length ((nth L1 i).ec-((Qy mo)+1))from by rw[List.length_drop]) (dH 13 rfl (QT rfl Qmk rfl (λw1 h1=>c196 w1 (X1 (nth L1 i).ea (nth L1 i).ec ((Qy mo)+1) 2) ((nth L1 i).ec-((Qy mo)+1)) ((nth L1 i).es.drop ((Qy mo)+1)) ((HS.es_row hi1 h1 aPk).cut om) (by rw[List.length_drop];omega))) (λ⟨b2,c3⟩_=>dBa ?_)))
 refine dV 14 rfl (Qa rfl rfl rfl Xx _ rfl om rfl) (Qs (show _=Value.pointer (some ⟨gn1,(QC (pln L)).1*3,none⟩)from by rw[Nat.zero_add]) (dFa 15 ?_))
 refine dSt 16 ?_ (hl:=(by rw[Qq nv3];show _+1<=_;omega))
 refine dTu [] ?_
 refine dNi ?_
 refine aU ?_
 refine Qi (L':=[(0,_),(1,_),(4,_),(5,_),(6,_),(7,_)]) aSx (λ_ h=>h) ?_
 refine aU2 ?_
 refine QfP (λw h=>HS.es_set (gn:=gn1) (cap:=cap1) (ea:=b2) (ec:=c3) (es:=(nth L1 i).es.drop ((Qy mo)+1)) ho1 h aPk aPk aPk) λL2=>?_
 refine XQ (λw h=>h.1) λhS2=>Xm (λw h=>h.2) ?_
 have hi2:i<L2.length:=by rw[hS2.len];exact hi1
 have hN2:nth L2 i=nth L1 i:=hS2.other hi1 hne
 have hsm2:(Qy mo)<(nth L2 i).es.length:=by rw[hN2];exact hsm1
 refine aU3 ?_
 refine o_q (Qo rfl rfl YW (λw h=>HS.nd_cell hi2 h aPk 1 rfl (by decide))) rfl (XQ (λw h=>HS.es_room hi2 h aPk) λhrE2=>XQ (λw h=>HS.es_form hi2 h aPk) λhfE2=>aU2 ?_)
 refine o_p (Qgp (Qy mo) (Qy mo) rfl rfl rfl rfl Xg rfl rfl om om) rfl (Ql (show _=Value.slice (nth L2 i).ea ((Qy mo)) ((Qy mo))from by rw[QlA _ _ _ hfE2]) (aU2 ?_))
 refine Qcq (XW rfl rfl rfl YW rfl aPt (by rw[Qq nv3];show _+1<=_;omega) rfl) (λ_ _=>aU5 ?_)
 refine QfP (λw h=>HS.es_setC (gn:=gn1) (cap:=cap1) (m:=(Qy mo)) (c:=(Qy mo)) hi2 (Nat.le_refl _) om om (λh9 _=>h9) h aPk aPk) λL3=>?_
 refine XQ (λw h=>h.1) λhS3=>Xm (λw h=>h.2) ?_
 have hi3:i<L3.length:=by rw[hS3.len];exact hi2
 have ho3:(QC (pln L)).1<L3.length:=by rw[hS3.len,hS2.len];exact ho1
 have hC3:(nth L3 i).cs=(nth L1 i).cs:=by rw[hS3.at_,hN2]
 refine aU2 ?_
 refine o_q (Qo rfl rfl Y8 (λw h=>HS.nd_cell hi3 h aPk 2 rfl (by decide))) rfl (aU3 ?_)
 refine Qi (L':=[(0,_),(1,_),(4,_),(5,_),(6,_),(7,_),(65,_)]) aSx (λ_ h=>h) ?_
 refine Xv (α:=List LNd) [66,67,68,69,70,71,72,73,74,75,76,77,78,79,80,81,82,83,84,85,86,87,88,89,90,91,92,93] (λ_=>[]) (λx=>HS w (fps [.blk bt 167 6 (tbV (j:Int) mo rm (some ⟨gn,0,none⟩) (L).length cap),.blk gn 87 (cap*3) ((L).flatMap LNd.vals),.star ((L).map (Qx 50))]) [.blk bt 167 6 (tbV (j:Int) mo rm (some ⟨gn1,0,none⟩) (x).length cap1),.blk gn1 87 (cap1*3) ((x).flatMap LNd.vals),.star ((x).map (Qx 50)),.blk b1 50 2 (TEnt.vals (nth (nth L1 i).es ((Qy mo))))]) (λx=>pln x=splA mo (pln L) i/\x.length=L1.length) ?_ ?_
 ·skip
  refine sCd rfl (λh4=>?_) λh4=>?_
  ·have hcs3:(Qy mo)+1<=(nth L3 i).cs.length:=by have hq:=h4;rw[hC3]at hq ⊢;omega
   refine Yr (λw h=>HS.cs_room hi3 h aPk) λhrC3=>?_
   have hsC3:(nth L3 i).cs.length<=900:=by rw[hC3];exact hsC1
   refine aU ?_
   refine Qp [16] mixed ?_
   refine dP 0 ?_
   refine dP 1 ?_
   refine dFa 2 ?_
   refine dFa 3 ?_
   refine dLd 4 [[]] ?_
   refine dP 5 ?_
   refine dP 6 ?_
   refine dP 7 ?_
   refine dFa 8 ?_
   refine dQ 9 [[]] rfl (Qo rfl rfl Y8 (λw h=>HS.nd_cell hi3 h aPk 2 rfl (by decide))) (dP 10 ?_)
   refine dP 11 ?_
   try refine dWr ?_
   refine dV 12 rfl (QM _ _ ((Qy mo)+1) ((nth L3 i).cs.length) rfl rfl QD ⟨_,_,rfl,om⟩ rfl om om) (Qs (show _=Value.slice (X1 (nth L3 i).ca (nth L3 i).cc ((Qy mo)+1) 1) ((nth L3 i).cs.drop ((Qy mo)+1)).length ((nth L3 i).cc-((Qy mo)+1))from by rw[List.length_drop]) (dH 13 rfl (QT rfl Qnu rfl (λw1 h1=>c197 w1 (X1 (nth L3 i).ca (nth L3 i).cc ((Qy mo)+1) 1) ((nth L3 i).cc-((Qy mo)+1)) ((nth L3 i).cs.drop ((Qy mo)+1)) ((HS.cs_row hi3 h1 aPk).cut om) (by rw[List.length_drop];omega))) (λ⟨b5,c6⟩_=>dBa ?_)))
   refine dV 14 rfl (Qa rfl rfl rfl Xx _ rfl om rfl) (Qs (show _=Value.pointer (some ⟨gn1,(QC (pln L)).1*3,none⟩)from by rw[Nat.zero_add]) (dFa 15 ?_))
   refine dSt 16 ?_ (hl:=(by rw[Qq nv3];show _+1<=_;omega))
   refine dTu [] ?_
   refine dNi ?_
   refine aU2 ?_
   refine QfP (λw h=>HS.cs_set (gn:=gn1) (cap:=cap1) (ca:=b5) (cc:=c6) (cs:=(nth L3 i).cs.drop ((Qy mo)+1)) ho3 h aPk aPk aPk) λL4=>?_
   refine XQ (λw h=>h.1) λhS4=>Xm (λw h=>h.2) ?_
   have hi4:i<L4.length:=by rw[hS4.len];exact hi3
   have hN4:nth L4 i=nth L3 i:=hS4.other hi3 hne
   have hcs4:(Qy mo)+1<=(nth L4 i).cs.length:=by rw[hN4];exact hcs3
   refine aU3 ?_
   refine o_q (Qo rfl rfl Y8 (λw h=>HS.nd_cell hi4 h aPk 2 rfl (by decide))) rfl (XQ (λw h=>HS.cs_room hi4 h aPk) λhrC4=>XQ (λw h=>HS.cs_form hi4 h aPk) λhfC4=>aT2 ?_)
   refine aT2 ?_
   refine o_p (Qgp ((Qy mo)+1) ((Qy mo)+1) rfl rfl rfl rfl QD om om om om) rfl (Ql (show _=Value.slice (nth L4 i).ca ((Qy mo)+1) ((Qy mo)+1)from by rw[QlA _ _ _ hfC4]) (aU2 ?_))
   refine Qcq (XW rfl rfl rfl Y8 rfl aPt (by rw[Qq nv3];show _+1<=_;omega) rfl) (λ_ _=>aU ?_)
   refine s_ex (λw h=>HS.cs_setC (gn:=gn1) (cap:=cap1) (m:=(Qy mo)+1) (c:=(Qy mo)+1) hi4 (Nat.le_refl _) om om (λh9 _=>h9) h aPk aPk) λL5=>?_
   exact Yr (λw h=>h.1) λhS5=>QcY (λw h=>h.2) (Qn L5 ⟨by rw[hS5.cs,hS4.cs,hS3.es,hS2.es,hN4,hC3,hN2,<-hN1c,<-hN1e,hL1,splA,if_neg (by rw[hN1c,<-hC3];omega)],by rw[hS5.len,hS4.len,hS3.len,hS2.len]⟩ aSx (λw h=>by rw[hS5.len,hS4.len,hS3.len,hS2.len];exact h.ent aEt))
  have hz:(nth L1 i).cs.length=0:=by rw[<-hC3];omega
  refine aU ?_
  exact Qn L3 ⟨by rw[hS3.es,hS2.es,hN2,<-hN1e,hL1,splA,if_pos (by rw[hN1c];exact hz)],by rw[hS3.len,hS2.len]⟩ aSx (λw h=>by rw[hS3.len,hS2.len];exact h.ent aEt)
 intro LA hx
 obtain⟨hA,hlA⟩:=hx
 have hpA:(Xp (i:Int) (splA mo (pln L) i) 0).1<LA.length:=om
 have hNA:(nth LA (Xp (i:Int) (splA mo (pln L) i) 0).1).pl=nth (splA mo (pln L) i) (Xp (i:Int) (splA mo (pln L) i) 0).1:=by rw[<-Qz hpA,hA]
 have hEA:(nth LA (Xp (i:Int) (splA mo (pln L) i) 0).1).es=(nth (splA mo (pln L) i) (Xp (i:Int) (splA mo (pln L) i) 0).1).es:=congrArg Nd.es hNA
 have hCA:(nth LA (Xp (i:Int) (splA mo (pln L) i) 0).1).cs=(nth (splA mo (pln L) i) (Xp (i:Int) (splA mo (pln L) i) 0).1).cs:=congrArg Nd.cs hNA
 rw[<-hEA]at hparE
 rw[<-hCA]at hparC
 have hsAE:=(hsA (Xp (i:Int) (splA mo (pln L) i) 0).1).1
 have hsAC:=(hsA (Xp (i:Int) (splA mo (pln L) i) 0).1).2
 rw[<-hEA]at hsAE
 rw[<-hCA]at hsAC
 refine aU4 ?_
 refine oCq rfl (λw1 h1=>by have h9:=c243 w1 bt j mo rm (some ⟨gn1,0,none⟩) cap1 LA i (HS.tbr h1 aPk) (HS.nt_at h1 aPk aPk) om (λk hk=>by have:=(hsA k).2;rw[<-hA,Qz hk]at this;exact Nat.le_trans this (by decide));rw[hA]at h9;exact h9) (Qfd ?_)
 refine o_p (Qa rfl rfl rfl Xx _ rfl om rfl) rfl (Ql (show _=Value.pointer (some ⟨gn1,(Xp (i:Int) (splA mo (pln L) i) 0).1*3,none⟩)from by rw[Nat.zero_add]) (aU ?_))
 refine Xm (λw h=>HS.es_take hpA h aPk) (aU2 ?_)
 refine Qp [8,11] mixed ?_
 refine dP 0 ?_
 refine dP 1 ?_
 refine dP 2 ?_
 refine dFa 3 ?_
 refine dQ 4 [[],[]] rfl (Qo rfl rfl YW (λw h=>HS.nd_cell hpA h aPk 1 rfl (by decide))) (dP 5 ?_)
 refine dLn 6 [[7],[]] ?_
 refine dH 7 rfl (Qd (cs:=[_,_]) rfl rfl Xg XU rfl rfl rfl) (λb7 _=>dBa ?_)
 refine dH 8 rfl (QV (Cs:=[.own (.slice ((nth LA (Xp (i:Int) (splA mo (pln L) i) 0).1)).ea ((nth LA (Xp (i:Int) (splA mo (pln L) i) 0).1)).es.length ((nth LA (Xp (i:Int) (splA mo (pln L) i) 0).1)).ec) 50 2 ((nth LA (Xp (i:Int) (splA mo (pln L) i) 0).1)).es.length (((nth LA (Xp (i:Int) (splA mo (pln L) i) 0).1)).es.flatMap TEnt.vals),.blk b7 50 2 (TEnt.vals (nth (nth L1 i).es ((Qy mo))))]) rfl QlZ rfl aPs (λw1 h1 hf=>Qpq w1 (nth LA (Xp (i:Int) (splA mo (pln L) i) 0).1).ea (Xp (i:Int) (splA mo (pln L) i) 0).2 (nth LA (Xp (i:Int) (splA mo (pln L) i) 0).1).ec (nth LA (Xp (i:Int) (splA mo (pln L) i) 0).1).es (nth (nth L1 i).es ((Qy mo))) b7 1 2 hf om om)) (λb8 _=>dTu [11] ?_)
 refine dP 9 ?_
 refine dFa 10 ?_
 refine dSt 11 ?_ (hl:=(by rw[Qq nv3];show _+1<=_;omega))
 refine dTu [] ?_
 refine dNi ?_
 refine Qi (L':=[(4,_),(9,_),(10,_)]) aSx (λ_ h=>h) ?_
 refine aU2 ?_
 refine QfP (λw h=>HS.es_setB (gn:=gn1) (cap:=cap1) (ea:=b8.1) (ec:=b8.2) (es:=QL (nth LA (Xp (i:Int) (splA mo (pln L) i) 0).1).es (Xp (i:Int) (splA mo (pln L) i) 0).2 (nth (nth L1 i).es ((Qy mo)))) hpA h aPk aPk aPk) λLB=>?_
 refine XQ (λw h=>h.1) λhSB=>Xm (λw h=>h.2) ?_
 have hpB:(Xp (i:Int) (splA mo (pln L) i) 0).1<LB.length:=by rw[hSB.len];exact hpA
 refine Xm (λw h=>HS.cs_take hpB h aPk) ?_
 have hBC:(nth LB (Xp (i:Int) (splA mo (pln L) i) 0).1).cs=(nth LA (Xp (i:Int) (splA mo (pln L) i) 0).1).cs:=by rw[hSB.at_]
 have hBCl:(nth LB (Xp (i:Int) (splA mo (pln L) i) 0).1).cs.length=(nth LA (Xp (i:Int) (splA mo (pln L) i) 0).1).cs.length:=by rw[hBC]
 refine aU3 ?_
 refine o_q (Qo rfl rfl Y8 (λw h=>HS.nd_cell hpB h aPk 2 rfl (by decide))) rfl (aT2 ?_)
 refine aU ?_
 refine o_h (Qd (cs:=[_]) rfl rfl QD Ye rfl rfl rfl) rfl (λb9 _=>o_h (QV (Cs:=[.own (.slice ((nth LB (Xp (i:Int) (splA mo (pln L) i) 0).1)).ca ((nth LB (Xp (i:Int) (splA mo (pln L) i) 0).1)).cs.length ((nth LB (Xp (i:Int) (splA mo (pln L) i) 0).1)).cc) 3 1 ((nth LB (Xp (i:Int) (splA mo (pln L) i) 0).1)).cs.length (((nth LB (Xp (i:Int) (splA mo (pln L) i) 0).1)).cs.flatMap inV),.blk b9 3 1 (inV ((QC (pln L)).1:Int))]) rfl Qp9 rfl aPs (λw1 h1 hf=>QrF w1 (nth LB (Xp (i:Int) (splA mo (pln L) i) 0).1).ca ((Xp (i:Int) (splA mo (pln L) i) 0).2+1) (nth LB (Xp (i:Int) (splA mo (pln L) i) 0).1).cc (nth LB (Xp (i:Int) (splA mo (pln L) i) 0).1).cs ((QC (pln L)).1:Int) b9 1 1 hf om om)) rfl (λb10 _=>aU2 ?_))
 refine Qcq (XW rfl rfl rfl Y8 rfl aPt (by rw[Qq nv3];show _+1<=_;omega) rfl) (λ_ _=>aU ?_)
 exact Qcr rfl (λw' h'=>by obtain⟨LC,hSC,hC⟩:=HS.cs_setB (gn:=gn1) (cap:=cap1) (ca:=b10.1) (cc:=b10.2) (cs:=QL (nth LB (Xp (i:Int) (splA mo (pln L) i) 0).1).cs ((Xp (i:Int) (splA mo (pln L) i) 0).2+1) ((QC (pln L)).1:Int)) hpB h' aPk aPk aPk;exact⟨((gn1,cap1),LC),rfl,⟨by rw[hSC.cs,hBC,hSB.es,hA,hEA,hCA];unfold Qah addP;rw[hN1e],by simp only[];rw[hSC.len,hSB.len,hlA];exact hn1,hm1⟩,by simp only[];rw[hSC.len,hSB.len];exact hC.ent aEt⟩)
theorem c232(w:World)(bt:Nat)(j:Nat)(mo rm:Int)(gn cap:Nat)(L:List LNd)(hw:HS w (fps [.blk bt 167 6 (tbV (j:Int) mo rm (some ⟨gn,0,none⟩) (L).length cap),.blk gn 87 (cap*3) ((L).flatMap LNd.vals),.star ((L).map (Qx 50))]) [.blk bt 167 6 (tbV (j:Int) mo rm (some ⟨gn,0,none⟩) (L).length cap),.blk gn 87 (cap*3) ((L).flatMap LNd.vals),.star ((L).map (Qx 50))] w)(hnc:L.length<=cap)(hcm:cap<=maxLen)(h0:0<L.length)(hl:L.length<=1000)(hu:(nth (pln L) 0).us=true):CE 232 #[.pointer (some ⟨bt,0,none⟩)] w (fps [.blk bt 167 6 (tbV (j:Int) mo rm (some ⟨gn,0,none⟩) (L).length cap),.blk gn 87 (cap*3) ((L).flatMap LNd.vals),.star ((L).map (Qx 50))]) (λg:(Nat×Nat)×List LNd=>.int .i64 ((QC (pln L)).1:Int)) (λg=>(pln g.2=(XN (pln L)).2/\g.2.length<=g.1.2/\g.1.2<=maxLen)) λg=>[.blk bt 167 6 (tbV (j:Int) mo rm (some ⟨g.1.1,0,none⟩) (g.2).length g.1.2),.blk g.1.1 87 (g.1.2*3) ((g.2).flatMap LNd.vals),.star ((g.2).map (Qx 50))]:=by
 have hfl2:=Qbr (pln L)
 rw[Qg]at hfl2
 obtain⟨hne,hfl,hfn⟩:=Qom (by rw[Qg];exact h0) hu
 refine eW1 Tryz.func232 Tryz.ntmps232 hw ?_
 refine aU7 ?_
 refine o_h (QV (Cs:=[.blk bt 167 6 (tbV (j:Int) mo rm (some ⟨gn,0,none⟩) (L).length cap),.blk gn 87 (cap*3) ((L).flatMap LNd.vals),.star ((L).map (Qx 50))]) rfl Qm3 rfl aPs (λw1 h1 hf=>c242 w1 bt j mo rm gn cap L hf hnc hcm h0 hl)) rfl (λ⟨⟨gn1,cap1⟩,L1⟩hF1=>?_)
 dsimp only
 obtain⟨hL1,hn1,hm1⟩:=hF1
 simp only[]at hL1 hn1 hm1
 have hl1:L1.length=(QC (pln L)).2.length:=by rw[<-hL1,Qg]
 have hi1:0<L1.length:=om
 have ho1:(QC (pln L)).1<L1.length:=om
 have hN1:(nth L1 0).pl=nth (pln L) 0:=by rw[<-Qz hi1,hL1,hfn]
 refine aU9 ?_
 refine o_p (Qa rfl rfl rfl Xx (0) om om rfl) rfl (Ql (show _=Value.pointer (some ⟨gn1,0*3,none⟩)from by rw[Nat.zero_add]) (aU3 ?_))
 refine Qp [22,25] mixed ?_
 refine dP 0 ?_
 refine dP 1 ?_
 refine dFa 2 ?_
 refine dFa 3 ?_
 refine dLd 4 [[],[]] ?_
 refine dP 5 ?_
 refine dP 6 ?_
 refine dP 7 ?_
 refine dFa 8 ?_
 refine dFa 9 ?_
 refine dLd 10 [[],[]] ?_
 refine dP 11 ?_
 refine dP 12 ?_
 refine dP 13 ?_
 refine dFa 14 ?_
 refine dQ 15 [[],[]] rfl (Qo rfl rfl YW (λw h=>HS.nd_cell hi1 h aPk 1 rfl (by decide))) (dP 16 ?_)
 refine dP 17 ?_
 refine dFa 18 ?_
 refine dQ 19 [[],[]] rfl (Qo rfl rfl Y8 (λw h=>HS.nd_cell hi1 h aPk 2 rfl (by decide))) (dV 20 rfl (Qa rfl rfl rfl Xx _ rfl om rfl) (Qs (show _=Value.pointer (some ⟨gn1,(QC (pln L)).1*3,none⟩)from by rw[Nat.zero_add]) (dFa 21 ?_)))
 refine dSt 22 ?_ (hl:=(by rw[Qq nv3];show _+1<=_;omega))
 refine dTu [25] ?_
 refine dV 23 rfl (Qa rfl rfl rfl Xx _ rfl om rfl) (Qs (show _=Value.pointer (some ⟨gn1,(QC (pln L)).1*3,none⟩)from by rw[Nat.zero_add]) (dFa 24 ?_))
 refine QoD 25 rfl (XW rfl rfl rfl Y8 rfl aPt (by rw[Qb,Qq nv3];show _+1<=_;omega) rfl) (by kernel_rfl) (λw h=>h.ent aEt) (λ_ _=>?_)
 refine dTu [] ?_
 refine dNi ?_
 refine aU ?_
 refine Qi (L':=[(2,_),(3,_),(4,_)]) aSx (λ_ h=>h) ?_
 refine aU2 ?_
 refine QfP (λw h=>HS.node_move (i:=0) (gn:=gn1) (cap:=cap1) hi1 ho1 (λe=>hne e.symm) h aPk aPk) λL2=>?_
 refine XQ (λw h=>h.1) λhS2=>Xm (λw h=>h.2) ?_
 have hi2:0<L2.length:=by rw[hS2.len];exact hi1
 have hN2:nth L2 0=nth L1 0:=hS2.other hi1 hne
 rw[<-hN2]
 refine aU2 ?_
 refine o_h (Qd (cs:=[_]) rfl rfl QD Ye rfl rfl rfl) rfl (λb1 _=>aU2 ?_)
 refine Qcq (XW rfl rfl rfl YW rfl aPt (by rw[Qq nv3];show _+1<=_;omega) rfl) (λ_ _=>aU2 ?_)
 refine Qcq (XW rfl rfl rfl Y8 rfl aPt (by rw[Qb,Qq nv3];show _+1<=_;omega) rfl) (λ_ _=>aU6 ?_)
 exact rT rfl rfl (λw' h'=>by obtain⟨LC,hSC,hC⟩:=HS.node_low (i:=0) (gn:=gn1) (cap:=cap1) (ca:=some ⟨b1,0,none⟩) (cc:=1) (cs:=[((QC (pln L)).1:Int)]) hi2 (HS.own_shut (t:=3) (sz:=1) (n:=1) (cap:=1) (h'.pick (A:=.blk b1 3 (1*1) (inV ((QC (pln L)).1:Int))) aPk) rfl (by decide) (by decide)) (.there aPk) .here aPk;exact⟨((gn1,cap1),LC),rfl,⟨by have e2:pln L2=csN (esN (pln L1) (QC (pln L)).1 (nth (pln L) 0).es) (QC (pln L)).1 (nth (pln L) 0).cs:=(by rw[QjA (by rw[Qg];exact ho1),hS2.pl,Qz ho1,<-hN1];rfl);rw[hSC.pl,XN,<-hL1,<-e2,QjA (by rw[Qg];exact hi2),Qz hi2];rfl,by simp only[];rw[hSC.len,hS2.len];exact hn1,hm1⟩,by simp only[];rw[hSC.len,hS2.len];exact hC.ent aEt⟩)
theorem c230(w:World)(a:Option Addr)(n cap:Nat):CE 230 #[.slice a n cap] w [] (λg:Nat=>.func (.func 241) #[] #[.pointer (some ⟨g,0,none⟩)]) (λg=>True) λg=>[.blk g 65 1 [.slice a n cap]]:=by
 refine eN1 Tryz.func230 Tryz.ntmps230 ?_
 refine aU2 ?_
 refine oBx λb1 _=>?_
 refine aU7 ?_
 exact rT rfl rfl (λw' h'=>⟨b1,rfl,trivial,h'.ent aEt⟩)
theorem c241(w:World){G:Type}(w0:World)(M:List Nat)(Cs:Nat->G->List HA)(g0:G)(l b1:Nat)(P:List Nat)(a:Option Addr)(cap:Nat)(hl:P.length<=100000)(hw:HS w0 M (Cs 0 g0) w)(hr:∀k g w,HS w0 M (Cs k g) w->Rd w [] b1 0 (.slice a P.length cap)/\Rw inV 1 w [] a (iN P))(hy:∀k g w,k<P.length->HS w0 M (Cs k g) w->YO Tryz.prog l #[.int .i64 ((P.length-1-k:Nat):Int),.int .i64 (((nth P (P.length-1-k)):Nat):Int)] w λe w'=>∃g',e=.returned (.bool true)/\True/\HS w0 M (Cs (k+1) g') w'):Calls Tryz.prog 241 #[.func (.yield l) #[] #[],.pointer (some ⟨b1,0,none⟩)] w λen w'=>(∃v,en=.returned v)/\∃x:G,HS w0 M (Cs P.length x) w':=by
 refine eW2 Tryz.func241 Tryz.ntmps241 hw ?_
 refine aU2 ?_
 refine o_q (Qo rfl rfl Y8 (λw h=>(hr _ _ w h).1)) rfl (aT2 ?_)
 refine aU3 ?_
 refine Qt (α:=Nat×G) [3,7,8,9,10,11,12,13,14,15,16,17,18] (λx=>[(3,.int .i64 ((P.length:Int)-1-(x.1:Int)))]) (λx=>HS w0 M (Cs x.1 x.2)) (λx=>x.1<=P.length) (λx=>P.length-x.1) (0,g0) (Nat.zero_le _) (by refine QfM (congrArg (λe=>some (Value.int .i64 e)) (show _=_ from by simp only[];omega)) ?_;repeat (first|exact QkO|refine QfM rfl ?_)) (λw h=>h) (λ⟨k,gg⟩hk1=>?_)
 dsimp only
 simp only[]at hk1
 refine aU4 ?_
 refine Ql (show _=Value.int .i64 (((P.length:Int)-1-(k:Int)))from rfl) (aU2 ?_)
 refine sCd rfl (λh1=>?_) λh1=>?_
 ·have hk:k<P.length:=by omega
  refine Yr (λw h=>Rw.some (hr _ _ w h).2 (by rw[Qe1];omega)) λhas=>aU7 ?_
  refine Ql (show _=Value.int .i64 ((P.length-1-k:Nat):Int)from by congr 1;omega) (o_q (Qo rfl rfl Y8 (λw h=>(hr _ _ w h).1)) rfl (aU ?_))
  refine Ql (show _=Value.int .i64 ((P.length-1-k:Nat):Int)from by congr 1;omega) (o_p (Qa rfl rfl rfl QD (P.length-1-k) om om has) rfl (o_q (Qo rfl rfl XB (λw h=>by have h9:=(hr _ _ w h).2.rdj 0 (i:=P.length-1-k) (by rw[Qe1];omega) rfl;rw[Qnf om]at h9;exact h9)) rfl (o_h (QgO rfl rfl rfl (λw1 h1=>hy k gg w1 hk h1)) rfl (λgy _=>aU2 ?_))))
  refine sCd rfl (λh2=>?_) λh2=>?_
  ·exfalso;first|omega|(simp at h2;done)|(simp_all;done)
  refine aT5 ?_
  refine aU2 ?_
  exact QQ (k+1,gy) (by(try simp only[]);omega) (by(try simp only[]);omega) (by refine QfM (congrArg (λe=>some (Value.int .i64 e)) (show _=_ from by simp only[];omega)) ?_;repeat (first|exact QkO|refine QfM rfl ?_)) (λw h=>h)
 obtain rfl:k=P.length:=om
 refine Qj rfl ?_
 exact Qcr rfl (λw' h'=>⟨⟨_,rfl⟩,gg,h'⟩)
instance:TFn Tryz.prog 230:=⟨by kernel_rfl⟩
theorem Qqu:QE Tryz.prog 241=true:=by kernel_rfl
theorem Qly:QE Tryz.prog 231=true:=by kernel_rfl
theorem Qrc:QE Tryz.prog 232=true:=by kernel_rfl
set_option maxHeartbeats 4000000 in
theorem c215(w:World)(bt:Nat)(j:Nat)(mo rm:Int)(gn cap:Nat)(L:List LNd)(P:List Nat)(pa:Option Addr)(pc:Nat)(hw:HS w (fps [.blk bt 167 6 (tbV (j:Int) mo rm (some ⟨gn,0,none⟩) (L).length cap),.blk gn 87 (cap*3) ((L).flatMap LNd.vals),.star ((L).map (Qx 50))]) [.blk bt 167 6 (tbV (j:Int) mo rm (some ⟨gn,0,none⟩) (L).length cap),.blk gn 87 (cap*3) ((L).flatMap LNd.vals),.star ((L).map (Qx 50))] w)(hnc:L.length<=cap)(hcm:cap<=maxLen)(hP:Rw inV 1 w (fps [.blk bt 167 6 (tbV (j:Int) mo rm (some ⟨gn,0,none⟩) (L).length cap),.blk gn 87 (cap*3) ((L).flatMap LNd.vals),.star ((L).map (Qx 50))]) pa (iN P))(hpl:P.length<=100000)(hok:Qca mo (pln L) P.reverse)(hroot:RootOk mo rm (XM mo (pln L) P.reverse)):CE 215 #[.pointer (some ⟨bt,0,none⟩),.slice pa P.length pc] w (fps [.blk bt 167 6 (tbV (j:Int) mo rm (some ⟨gn,0,none⟩) (L).length cap),.blk gn 87 (cap*3) ((L).flatMap LNd.vals),.star ((L).map (Qx 50))]) (λg:(Nat×Nat)×List LNd=>.tuple #[]) (λg=>(pln g.2=QdX mo rm (pln L) P.reverse/\g.2.length<=g.1.2/\g.1.2<=maxLen)) λg=>[.blk bt 167 6 (tbV (j:Int) mo rm (some ⟨g.1.1,0,none⟩) (g.2).length g.1.2),.blk g.1.1 87 (g.1.2*3) ((g.2).flatMap LNd.vals),.star ((g.2).map (Qx 50))]:=by
 refine eW2 Tryz.func215 Tryz.ntmps215 hw ?_
 refine aU2 ?_
 refine oBx λb1 _=>?_
 refine aU5 ?_
 refine oCh rfl (λw1 h1=>c230 w1 pa P.length pc) (λb2 _=>aU2 ?_)
 refine Qg9 (G:=(Nat×Nat)×List LNd) (Bs:=λg=>[.blk bt 167 6 (tbV (j:Int) mo rm (some ⟨g.1.1,0,none⟩) (g.2).length g.1.2),.blk g.1.1 87 (g.1.2*3) ((g.2).flatMap LNd.vals),.star ((g.2).map (Qx 50)),.blk b1 147 1 [.pointer (some ⟨bt,0,none⟩)],.blk b2 65 1 [.slice pa P.length pc],.pure (pln (g.2)=XM mo (pln L) (P.reverse.take P.length)/\Qca mo (pln (g.2)) (P.reverse.drop P.length)/\(g.2).length<=g.1.2/\g.1.2<=maxLen)]) rfl rfl rfl Qqu (λfid D l a9 w1 ob hob ha9 hw1=>?_) (λD x=>?_)
 ·skip
  refine(c241 w1 w (fps [.blk bt 167 6 (tbV (j:Int) mo rm (some ⟨gn,0,none⟩) (L).length cap),.blk gn 87 (cap*3) ((L).flatMap LNd.vals),.star ((L).map (Qx 50))]) (λk g=>.obj l ob::.obj D (.deferred (some []))::[.blk bt 167 6 (tbV (j:Int) mo rm (some ⟨g.1.1,0,none⟩) (g.2).length g.1.2),.blk g.1.1 87 (g.1.2*3) ((g.2).flatMap LNd.vals),.star ((g.2).map (Qx 50)),.blk b1 147 1 [.pointer (some ⟨bt,0,none⟩)],.blk b2 65 1 [.slice pa P.length pc],.pure (pln (g.2)=XM mo (pln L) (P.reverse.take k)/\Qca mo (pln (g.2)) (P.reverse.drop k)/\(g.2).length<=g.1.2/\g.1.2<=maxLen)]) ((gn,cap),L) l b2 P pa pc hpl ?_ ?_ (λk g w2 hk h2=>?_)).mono λe w2 hx=>?_
  ·exact(HS.add_pure (p:=pln L=XM mo (pln L) (P.reverse.take 0)/\Qca mo (pln L) (P.reverse.drop 0)/\L.length<=cap/\cap<=maxLen) ⟨rfl,hok,hnc,hcm⟩ hw1).ent aEt
  ·exactλk g w2 h2=>⟨h2.rd_blk (i:=0) aPk rfl (by simp),hP.later h2⟩
  rotate_left
  ·exact hx
  subst hob
  obtain⟨⟨ga,gc⟩,Lg⟩:=g
  dsimp only at h2
  obtain⟨hg1,hg2,hg3,hg4⟩:=h2.get_pure aPk
  rw[QlQ hk]at hg2
  obtain⟨⟨hi,hsp⟩,hnx⟩:=hg2
  have hst:XM mo (pln L) (P.reverse.take (k+1))=QaC mo (pln Lg) (nth P (P.length-1-k)):=by rw[QnH hk,QkV,<-hg1]
  rw[Qg]at hi
  rw[Qz hi]at hsp
  simp only[LNd.pl]at hsp
  refine QgA (fn:=Tryz.f215) (As1:=.obj D (.deferred (some []))::[.blk bt 167 6 (tbV (j:Int) mo rm (some ⟨ga,0,none⟩) (Lg).length gc),.blk ga 87 (gc*3) ((Lg).flatMap LNd.vals),.star ((Lg).map (Qx 50)),.blk b1 147 1 [.pointer (some ⟨bt,0,none⟩)],.blk b2 65 1 [.slice pa P.length pc],.pure (pln (Lg)=XM mo (pln L) (P.reverse.take k)/\Qca mo (pln (Lg)) (P.reverse.drop k)/\(Lg).length<=gc/\gc<=maxLen)]) (L1:=[(5,.int .i64 (((nth P (P.length-1-k)):Nat):Int)),(2,.pointer (some ⟨b1,0,none⟩))]) h2 rfl (FR.round2 ha9 9 10 _ _ rfl rfl) ?_ ?_
  ·skip
   refine aU3 ?_
   exact Qck () aSx (λw h=>h.ent aEt)
  skip
  refine aU2 ?_
  refine Qp0 (α:=Bool) [11,12,13,14,15,16,17,18,19,20,21,22,23,24,25,26,27,28,29,30] (λx=>[(30,.bool x)]) (λx=>x=true ↔ (0<(nth P (P.length-1-k))/\mo<((nth Lg (nth P (P.length-1-k))).es.length:Int))) ?_ ?_
  ·skip
   refine Qp [] mixed ?_
   refine dP 0 ?_
   refine dP 1 ?_
   refine dP 2 ?_
   apply XC 13
   ·exact rfl
   ·intro hg3
    have hs4:=hg3;try simp only[dT]at hs4
    refine dQo 3 13 [] hg3 rfl rfl rfl (X8 rfl rfl Ys aPk rfl) ?_
    refine dPo 4 13 hg3 ?_
    refine dFo 5 13 hg3 ?_
    refine dFo 6 13 hg3 ?_
    refine dQo 7 13 [] hg3 rfl rfl rfl (X8 rfl rfl YY aPk rfl) ?_
    refine dPo 8 13 hg3 ?_
    refine dVo 9 13 hg3 rfl rfl rfl (Qa rfl rfl rfl Xx ((nth P (P.length-1-k))) om om rfl) ?_
    refine Qs (show _=Value.pointer (some ⟨ga,(nth P (P.length-1-k))*3,none⟩)from by rw[Nat.zero_add]) (dFo 10 13 hg3 ?_)
    refine dQo 11 13 [] hg3 rfl rfl rfl (Qo rfl rfl YW (λw h=>HS.nd_cell hi h aPk 1 rfl (by decide))) ?_
    refine dVo 12 13 hg3 rfl rfl rfl (QI rfl rfl Tryz.underlying85) ?_
    refine dQo 13 13 [] hg3 rfl rfl rfl (X8 rfl rfl Ys aPk rfl) ?_
    refine dPo 14 13 hg3 ?_
    refine dFo 15 13 hg3 ?_
    refine dFo 16 13 hg3 ?_
    refine dQo 17 13 [] hg3 rfl rfl rfl (X8 rfl rfl XB aPk rfl) ?_
    refine dPo 18 13 hg3 ?_
    refine dV 19 rfl (XI rfl rfl hg3 rfl) (dNi ?_)
    exact Qn (decide (((nth Lg (nth P (P.length-1-k))).es.length:Int)>mo)) (by rw[decide_eq_true_eq];omega) aSx (λw h=>h.ent aEt)
   intro hg5
   have hs6:=hg5;try simp only[dN]at hs6
   refine dOf 3 13 hg5 ?_
   refine dOf 4 13 hg5 ?_
   refine dOf 5 13 hg5 ?_
   refine dOf 6 13 hg5 ?_
   refine dOf 7 13 hg5 ?_
   refine dOf 8 13 hg5 ?_
   refine dOf 9 13 hg5 ?_
   refine dOf 10 13 hg5 ?_
   refine dOf 11 13 hg5 ?_
   refine dOf 12 13 hg5 ?_
   refine dOf 13 13 hg5 ?_
   refine dOf 14 13 hg5 ?_
   refine dOf 15 13 hg5 ?_
   refine dOf 16 13 hg5 ?_
   refine dOf 17 13 hg5 ?_
   refine dOf 18 13 hg5 ?_
   refine dV 19 rfl (Q8 rfl rfl hg5 rfl) (dNi ?_)
   exact Qn false (by constructor<;>intro h9<;>first|(cases h9;done)|omega) aSx (λw h=>h.ent aEt)
  intro x hx
  refine sCd rfl (λh7=>?_) λh7=>?_
  ·obtain⟨hpos,hbig⟩:=hx.1 (by assumption)
   refine aU3 ?_
   refine o_h (QV (Cs:=[.blk bt 167 6 (tbV (j:Int) mo rm (some ⟨ga,0,none⟩) (Lg).length gc),.blk ga 87 (gc*3) ((Lg).flatMap LNd.vals),.star ((Lg).map (Qx 50))]) rfl Qly rfl aPs (λw1 h1 hf=>c231 w1 bt j mo rm ga gc Lg (nth P (P.length-1-k)) hf hg3 hg4 (hsp hpos hbig))) rfl (λ⟨⟨g5,c5⟩,L5⟩hF5=>aU2 ?_)
   exact Zd rfl aPk (λw h=>⟨((g5,c5),L5),rfl,trivial,by exact(HS.add_pure (p:=pln L5=XM mo (pln L) (P.reverse.take (k+1))/\Qca mo (pln L5) (P.reverse.drop (k+1))/\L5.length<=c5/\c5<=maxLen) ⟨by rw[hst,QaC,if_pos ⟨hpos,by rw[Qz hi];exact hbig⟩];exact hF5.1,by have h9:=hnx;rw[QaC,if_pos ⟨hpos,by rw[Qz hi];exact hbig⟩]at h9;rw[hF5.1];exact h9,hF5.2.1,hF5.2.2⟩ h).ent aEt⟩)
  have hno:¬(0<(nth P (P.length-1-k))/\mo<((nth Lg (nth P (P.length-1-k))).es.length:Int)):=λh9=>by have h8:=hx.2 h9;simp_all
  refine aU2 ?_
  exact Zd rfl aPk (λw h=>⟨((ga,gc),Lg),rfl,trivial,by exact(HS.add_pure (p:=pln Lg=XM mo (pln L) (P.reverse.take (k+1))/\Qca mo (pln Lg) (P.reverse.drop (k+1))/\Lg.length<=gc/\gc<=maxLen) ⟨by rw[hst,QaC,if_neg (by rw[Qz hi];exact hno)],by have h9:=hnx;rw[QaC,if_neg (by rw[Qz hi];exact hno)]at h9;exact h9,hg3,hg4⟩ h).ent aEt⟩)
 skip
 obtain⟨⟨ga,gc⟩,LG⟩:=x
 dsimp only
 refine Yr (λw h=>h.get_pure aPk) λhpu=>?_
 obtain⟨hLG,_,hg3,hg4⟩:=hpu
 rw[show P.length=P.reverse.length from(List.length_reverse ..).symm,List.take_length]at hLG
 have hiG:0<LG.length:=by rw[<-Qg,hLG];exact hroot.lt
 have hlG:=hroot.len
 rw[<-hLG,Qg]at hlG
 refine aU2 ?_
 refine Qp [] mixed ?_
 refine dLd 0 [] ?_
 refine dP 1 ?_
 refine dFa 2 ?_
 refine dFa 3 ?_
 refine dLd 4 [] ?_
 refine dV 5 rfl (Qa rfl rfl rfl Xx (0) om om rfl) (Qs (show _=Value.pointer (some ⟨ga,0*3,none⟩)from by rw[Nat.zero_add]) (dFa 6 ?_))
 refine dQ 7 [] rfl (Qo rfl rfl YW (λw h=>HS.nd_cell hiG h aPk 1 rfl (by decide))) (dV 8 rfl (QI rfl rfl Tryz.underlying85) (dLd 9 [] ?_))
 refine dP 10 ?_
 refine dFa 11 ?_
 refine dFa 12 ?_
 refine dLd 13 [] ?_
 refine dP 14 ?_
 refine dNi ?_
 refine sCd rfl (λh8=>?_) λh8=>?_
 ·have hbigR:rm<((nth (pln LG) 0).es.length:Int):=by rw[Qz hiG];exact h8
  refine aU3 ?_
  refine o_h (QV (Cs:=[.blk bt 167 6 (tbV (j:Int) mo rm (some ⟨ga,0,none⟩) (LG).length gc),.blk ga 87 (gc*3) ((LG).flatMap LNd.vals),.star ((LG).map (Qx 50))]) rfl Qrc rfl aPs (λw1 h1 hf=>c232 w1 bt j mo rm ga gc LG hf hg3 hg4 hiG om (by rw[hLG];exact hroot.us))) rfl (λ⟨⟨g6,c6⟩,L6⟩hF6=>?_)
  dsimp only
  obtain⟨hL6,hn6,hm6⟩:=hF6
  simp only[]at hL6 hn6 hm6
  have ho6:(QC (pln LG)).1<L6.length:=by rw[<-Qg,hL6,hLG];exact Qpg _
  refine aU3 ?_
  refine Qp [] mixed ?_
  refine dLd 0 [] ?_
  refine dP 1 ?_
  refine dFa 2 ?_
  refine dFa 3 ?_
  refine dLd 4 [] ?_
  refine dP 5 ?_
  refine dV 6 rfl (Qa rfl rfl rfl Xx ((QC (pln LG)).1) om om rfl) (Qs (show _=Value.pointer (some ⟨g6,(QC (pln LG)).1*3,none⟩)from by rw[Nat.zero_add]) (dFa 7 ?_))
  refine dQ 8 [] rfl (Qo rfl rfl YW (λw h=>HS.nd_cell ho6 h aPk 1 rfl (by decide))) (dV 9 rfl (QI rfl rfl Tryz.underlying85) (dLd 10 [] ?_))
  refine dP 11 ?_
  refine dFa 12 ?_
  refine dFa 13 ?_
  refine dLd 14 [] ?_
  refine dP 15 ?_
  refine dNi ?_
  refine sCd rfl (λh9=>?_) λh9=>?_
  ·have hbig2:mo<((nth (pln L6) (QC (pln LG)).1).es.length:Int):=by rw[Qz ho6];exact h9
   refine Qi (L':=[(2,_),(6,_)]) aSx (λ_ h=>h) ?_
   refine aU3 ?_
   refine o_h (QV (Cs:=[.blk bt 167 6 (tbV (j:Int) mo rm (some ⟨g6,0,none⟩) (L6).length c6),.blk g6 87 (c6*3) ((L6).flatMap LNd.vals),.star ((L6).map (Qx 50))]) rfl Qly rfl aPs (λw1 h1 hf=>c231 w1 bt j mo rm g6 c6 L6 (QC (pln LG)).1 hf hn6 hm6 (by rw[hL6,hLG];exact hroot.spl (by rw[<-hLG];exact hbigR) (by rw[<-hLG,<-hL6];exact hbig2)))) rfl (λ⟨⟨g7,c7⟩,L7⟩hF7=>aU ?_)
   exact QiJ rfl aPk (λw' h'=>by first|exact⟨((g7,c7),L7),rfl,⟨by rw[QdX,<-hLG,Qai,if_pos hbigR,if_pos (by rw[<-hL6];exact hbig2),<-hL6];exact hF7.1,hF7.2.1,hF7.2.2⟩,h'.ent aEt⟩|exact⟨((g6,c6),L6),rfl,⟨by rw[QdX,<-hLG,Qai,if_pos hbigR,if_neg (by rw[<-hL6];exact hbig2n),<-hL6],hn6,hm6⟩,h'.ent aEt⟩|exact⟨((ga,gc),LG),rfl,⟨by rw[QdX,<-hLG,Qai,if_neg hsmR],hg3,hg4⟩,h'.ent aEt⟩)
  have hbig2n:¬mo<((nth (pln L6) (QC (pln LG)).1).es.length:Int):=by rw[Qz ho6];have hq:=h9;simp only[LNd.pl];omega
  refine aU ?_
  exact QiJ rfl aPk (λw' h'=>by first|exact⟨((g7,c7),L7),rfl,⟨by rw[QdX,<-hLG,Qai,if_pos hbigR,if_pos (by rw[<-hL6];exact hbig2),<-hL6];exact hF7.1,hF7.2.1,hF7.2.2⟩,h'.ent aEt⟩|exact⟨((g6,c6),L6),rfl,⟨by rw[QdX,<-hLG,Qai,if_pos hbigR,if_neg (by rw[<-hL6];exact hbig2n),<-hL6],hn6,hm6⟩,h'.ent aEt⟩|exact⟨((ga,gc),LG),rfl,⟨by rw[QdX,<-hLG,Qai,if_neg hsmR],hg3,hg4⟩,h'.ent aEt⟩)
 have hsmR:¬rm<((nth (pln LG) 0).es.length:Int):=by rw[Qz hiG];have hq:=h8;simp only[LNd.pl];omega
 refine aU ?_
 exact QiJ rfl aPk (λw' h'=>by first|exact⟨((g7,c7),L7),rfl,⟨by rw[QdX,<-hLG,Qai,if_pos hbigR,if_pos (by rw[<-hL6];exact hbig2),<-hL6];exact hF7.1,hF7.2.1,hF7.2.2⟩,h'.ent aEt⟩|exact⟨((g6,c6),L6),rfl,⟨by rw[QdX,<-hLG,Qai,if_pos hbigR,if_neg (by rw[<-hL6];exact hbig2n),<-hL6],hn6,hm6⟩,h'.ent aEt⟩|exact⟨((ga,gc),LG),rfl,⟨by rw[QdX,<-hLG,Qai,if_neg hsmR],hg3,hg4⟩,h'.ent aEt⟩)
instance:TFn Tryz.prog 97:=⟨by kernel_rfl⟩
theorem Qrj:QE Tryz.prog 215=true:=by kernel_rfl
set_option maxHeartbeats 4000000 in
theorem c170(w:World)(bt:Nat)(j:Nat)(mo rm:Int)(gn cap:Nat)(L:List LNd)(x:TEnt)(hw:HS w (fps [.blk bt 167 6 (tbV (j:Int) mo rm (some ⟨gn,0,none⟩) (L).length cap),.blk gn 87 (cap*3) ((L).flatMap LNd.vals),.star ((L).map (Qx 50))]) [.blk bt 167 6 (tbV (j:Int) mo rm (some ⟨gn,0,none⟩) (L).length cap),.blk gn 87 (cap*3) ((L).flatMap LNd.vals),.star ((L).map (Qx 50))] w)(hnc:L.length<=cap)(hcm:cap<=maxLen)(hj:j<=3)(h0:0<L.length)(hB:Bd (pln L))(hT:TOk (j:Int) (pln L))(hk:Q3 (j:Int) x.key=true)(hok:¬(Qr (j:Int) (pln L) x.key).2.2=true->InsOk (j:Int) mo rm (pln L) x):CE 170 #[.pointer (some ⟨bt,0,none⟩),.agg #[.string (bs x.key),.string (bs x.val)]] w (fps [.blk bt 167 6 (tbV (j:Int) mo rm (some ⟨gn,0,none⟩) (L).length cap),.blk gn 87 (cap*3) ((L).flatMap LNd.vals),.star ((L).map (Qx 50))]) (λg:(Nat×Nat)×List LNd=>.int .i64 (Qhr (j:Int) mo rm (pln L) x)) (λg=>(pln g.2=QaG (j:Int) mo rm (pln L) x/\g.2.length<=g.1.2/\g.1.2<=maxLen)) λg=>[.blk bt 167 6 (tbV (j:Int) mo rm (some ⟨g.1.1,0,none⟩) (g.2).length g.1.2),.blk g.1.1 87 (g.1.2*3) ((g.2).flatMap LNd.vals),.star ((g.2).map (Qx 50))]:=by
 have hK:∀i,i<L.length->∀y∈(nth L i).es,Q3 (j:Int) y.key=true/\y.key.length<=1000000:=λi hi y hy=>Qdd hT i (by rw[Qg];exact hi) y (by rw[Qz hi];exact hy)
 have hkl:x.key.length<=1000000:=by have:=Qdj hk;omega
 refine eW2 Tryz.func170 Tryz.ntmps170 hw ?_
 refine aU2 ?_
 refine oBx λb1 _=>?_
 refine aU7 ?_
 refine oCh rfl (λw1 h1=>c97 w1 bt j mo rm (some ⟨gn,0,none⟩) cap L x.key hj h0 hB hT hK hk hkl (HS.nt_at h1 aPk aPk) (HS.tbr h1 aPk)) (λ⟨pa,pc⟩_=>?_)
 dsimp only
 refine Qak ?_
 refine sCd rfl (λh2=>?_) λh2=>?_
 ·have hfd:(Qr (j:Int) (pln L) x.key).2.2=true:=h2
  refine aU4 ?_
  exact rT rfl rfl (λw' h'=>⟨((gn,cap),L),by simp only[QR];rw[Qhr,if_pos hfd],⟨by simp only[];rw[QaG,if_pos hfd],hnc,hcm⟩,h'.ent aEt⟩)
 have hfd:¬(Qr (j:Int) (pln L) x.key).2.2=true:=by have hq:=h2;simp[hq]
 have hk9:=hok hfd
 have hne:=hk9.ne
 have hlen9:=hk9.len
 have hlf:=hk9.lf
 rw[Qg]at hlf
 have hpl:=hk9.pl
 rw[Qz hlf]at hpl
 have hes9:=hk9.es
 rw[Qz hlf]at hes9
 simp only[LNd.pl]at hpl hes9
 have hpn:(Qr (j:Int) (pln L) x.key).1.length-1<(Qr (j:Int) (pln L) x.key).1.length:=om
 refine Yr (λw h=>HS.kids_some (by rw[Qe1];omega) h aPk) λhpa=>?_
 obtain⟨gp,hpa⟩:=hpa
 refine aU2 ?_
 refine Qp [] mixed ?_
 refine dP 0 ?_
 refine dP 1 ?_
 refine dFa 2 ?_
 refine dFa 3 ?_
 refine dLd 4 [] ?_
 refine dP 5 ?_
 refine dP 6 ?_
 refine dV 7 rfl (QI rfl rfl Tryz.underlying65) (dP 8 ?_)
 try refine dWr ?_
 refine dV 9 rfl (Qa rfl rfl rfl QD ((Qr (j:Int) (pln L) x.key).1.length-1) om om hpa) (dQ 10 [] rfl (Qo rfl rfl XB (λw h=>HS.path_rd hpn hpa h aPk)) (Qs (show _=Value.int .i64 (((YJ (j:Int) (pln L) x.key):Nat):Int)from rfl) (dV 11 rfl (Qa rfl rfl rfl Xx ((YJ (j:Int) (pln L) x.key)) om om rfl) (Qs (show _=Value.pointer (some ⟨gn,(YJ (j:Int) (pln L) x.key)*3,none⟩)from by rw[Nat.zero_add]) (dP 12 ?_)))))
 refine dNi ?_
 refine aU ?_
 refine QcY (λw h=>HS.es_take hlf h aPk) (Qp [8,11] mixed ?_)
 refine dP 0 ?_
 refine dP 1 ?_
 refine dP 2 ?_
 refine dFa 3 ?_
 refine dQ 4 [[],[]] rfl (Qo rfl rfl YW (λw h=>HS.nd_cell hlf h aPk 1 rfl (by decide))) (dP 5 ?_)
 refine dLn 6 [[7],[]] ?_
 refine dH 7 rfl (Qd (cs:=[_,_]) rfl rfl Xg XU rfl rfl rfl) (λb3 _=>dBa ?_)
 refine dH 8 rfl (QV (Cs:=[.own (.slice ((nth L (YJ (j:Int) (pln L) x.key))).ea ((nth L (YJ (j:Int) (pln L) x.key))).es.length ((nth L (YJ (j:Int) (pln L) x.key))).ec) 50 2 ((nth L (YJ (j:Int) (pln L) x.key))).es.length (((nth L (YJ (j:Int) (pln L) x.key))).es.flatMap TEnt.vals),.blk b3 50 2 (TEnt.vals x)]) rfl QlZ rfl aPs (λw1 h1 hf=>Qpq w1 (nth L (YJ (j:Int) (pln L) x.key)).ea (Qr (j:Int) (pln L) x.key).2.1 (nth L (YJ (j:Int) (pln L) x.key)).ec (nth L (YJ (j:Int) (pln L) x.key)).es x b3 1 2 hf om hpl)) (λb4 _=>dTu [11] ?_)
 refine dP 9 ?_
 refine dFa 10 ?_
 refine dSt 11 ?_ (hl:=(by rw[Qq nv3];show _+1<=_;omega))
 refine dTu [] ?_
 refine dNi ?_
 refine aU ?_
 refine Qi (L':=[(0,_),(4,_),(5,_)]) aSx (λ_ h=>h) ?_
 refine aU2 ?_
 refine QfP (λw h=>HS.es_setB (gn:=gn) (cap:=cap) (ea:=b4.1) (ec:=b4.2) (es:=QL (nth L (YJ (j:Int) (pln L) x.key)).es (Qr (j:Int) (pln L) x.key).2.1 x) hlf h aPk aPk aPk) λL2=>?_
 refine XQ (λw h=>h.1) λhS2=>Xm (λw h=>h.2) ?_
 have hL2:pln L2=QiF (j:Int) (pln L) x:=by rw[hS2.es,QiF,Qz hlf];rfl
 refine Xm (C':=HS w (fps [.blk bt 167 6 (tbV (j:Int) mo rm (some ⟨gn,0,none⟩) (L).length cap),.blk gn 87 (cap*3) ((L).flatMap LNd.vals),.star ((L).map (Qx 50))]) [.blk bt 167 6 (tbV (j:Int) mo rm (some ⟨gn,0,none⟩) (L2).length cap),.blk gn 87 (cap*3) ((L2).flatMap LNd.vals),.star ((L2).map (Qx 50)),.kids pa pc (iN (Qr (j:Int) (pln L) x.key).1)]) (λw2 h=>by rw[hS2.len];exact h.ent aEt) (aU ?_)
 refine o_h (QV (Cs:=[.blk bt 167 6 (tbV (j:Int) mo rm (some ⟨gn,0,none⟩) (L2).length cap),.blk gn 87 (cap*3) ((L2).flatMap LNd.vals),.star ((L2).map (Qx 50))]) rfl Qrj rfl aPs (λw1 h1 hf=>c215 w1 bt j mo rm gn cap L2 (Qr (j:Int) (pln L) x.key).1 pa pc hf (by rw[hS2.len];exact hnc) hcm (HS.rw_ownF (n:=(iN (Qr (j:Int) (pln L) x.key).1).length) iv1 h1 aPs aPk rfl) om (by rw[hL2];exact hk9.grw) (by rw[hL2];exact hk9.root))) rfl (λ⟨⟨g5,c5⟩,L5⟩hF5=>?_)
 dsimp only
 obtain⟨hL5,hn5,hm5⟩:=hF5
 simp only[]at hL5 hn5 hm5
 have hI:QaG (j:Int) mo rm (pln L) x=pln L5:=by rw[QaG,if_neg hfd,hL5,hL2]
 have hIl:(QaG (j:Int) mo rm (pln L) x).length=L5.length:=by rw[hI,Qg]
 refine Zn ?_
 refine oCq rfl (λw1 h1=>Qa1 w1 _ _) (aU2 ?_)
 exact rT rfl rfl (λw' h'=>⟨((g5,c5),L5),by simp only[QR];congr 2;rw[Qhr,if_neg hfd,hIl];exact(Nat.lt_or_ge 120 L5.length).elim (λh120=>by rw[if_neg om,decide_eq_false om];rfl) (λh120=>by rw[if_pos h120,decide_eq_true om];rfl),⟨hI.symm,hn5,hm5⟩,h'.ent aEt⟩)
instance:TFn Tryz.prog 81:=⟨by kernel_rfl⟩
instance:TFn Tryz.prog 139:=⟨by kernel_rfl⟩
instance:TFn Tryz.prog 87:=⟨by kernel_rfl⟩
theorem c87e(w:World)(co mo rm:Int)(a:Option Addr)(cap:Nat)(L:List LNd)(hs:Nt w [] a L)(hB:Bd (pln L))(hkl:∀i,i<L.length->∀x∈(nth L i).es,x.key.length<=1000000)(he:¬(Q0 (⟨co,mo,rm,pln L⟩:Tre)).2=0):CR 87 #[.agg #[.int .i64 co,.int .i64 mo,.int .i64 rm,.slice a L.length cap]] w (.tuple #[.pointer none,.int .i64 (Q0 (⟨co,mo,rm,pln L⟩:Tre)).2]):=by
 refine eN1 Tryz.func87 Tryz.ntmps87 ?_
 refine aU2 ?_
 refine oBx λb1 _=>?_
 refine aU7 ?_
 refine oCq rfl (λw1 h1=>c81 w1 co mo rm a cap L (hs.later h1.nil) hB hkl) (ZW ?_)
 refine sCd rfl (λh2=>?_) λh2=>?_
 ·refine aU6 ?_
  exact Qf (rs:=[.tmp 2,.tmp 3]) rfl (.tmp rfl (.tmp rfl (.nil))) (λw' h'=>⟨rfl,h'.below⟩)
 exfalso;first|omega|(simp at h2;done)|(simp_all;done)
theorem c87o(w:World)(j:Nat)(mo rm:Int)(a:Option Addr)(cap:Nat)(L:List LNd)(hs:Nt w [] a L)(hB:Bd (pln L))(hkl:∀i,i<L.length->∀x∈(nth L i).es,x.key.length<=1000000)(h0:(Q0 (⟨(j:Int),mo,rm,pln L⟩:Tre)).2=0):CE 87 #[.agg #[.int .i64 (j:Int),.int .i64 mo,.int .i64 rm,.slice a L.length cap]] w [] (λg:Nat×(Nat×Nat)×List LNd=>.tuple #[.pointer (some ⟨g.1,0,none⟩),.int .i64 (0)]) (λg=>(pln g.2.2=pln L/\g.2.2.length<=g.2.1.2/\g.2.1.2<=maxLen)) λg=>[.blk g.1 167 6 (tbV (j:Int) mo rm (some ⟨g.2.1.1,0,none⟩) (g.2.2).length g.2.1.2),.blk g.2.1.1 87 (g.2.1.2*3) ((g.2.2).flatMap LNd.vals),.star ((g.2.2).map (Qx 50))]:=by
 obtain⟨hc0,hz0,hl0,hl120,hn0,_,_⟩:=Qcy h0
 rw[show((⟨(j:Int),mo,rm,pln L⟩:Tre)).ns=pln L from rfl,Qg]at hl0 hl120
 have hj:j<=3:=by obtain⟨j9,e9,hj9⟩:=Qcw hc0;have e8:((j:Nat):Int)=(j9:Int):=e9;omega
 have hT:TOk (j:Int) (pln L):=Qcp (t:=(⟨(j:Int),mo,rm,pln L⟩:Tre)) hn0
 have hmo:=(Qbu hz0).1
 simp only[]at hmo
 refine eN1 Tryz.func87 Tryz.ntmps87 ?_
 refine aU2 ?_
 refine oBx λb1 _=>?_
 refine aU7 ?_
 refine oCq rfl (λw1 h1=>c81 w1 (j:Int) mo rm a cap L (hs.later h1.nil) hB hkl) (ZW ?_)
 refine sCd rfl (λh2=>?_) λh2=>?_
 ·exfalso;first|omega|(simp at h2;done)|(simp_all;done)
 refine aU4 ?_
 refine oCh rfl (λw1 h1=>Qrf w1 j mo rm a cap L (hs.later h1.nil) hB hj hl0) (λ⟨b9,⟨a9,c9⟩,L9⟩hF9=>?_)
 dsimp only
 refine aU3 ?_
 exact Qf (rs:=[.tmp 2,.tmp 3]) rfl (.tmp rfl (.tmp rfl (.nil))) (λw' h'=>by obtain⟨g9,rfl,hl9,hm9,h2⟩:=Qbd (by rw[<-Qg,hF9,Qg];exact hl0) h' aPk;exact⟨(b9,(g9,c9),L9),rfl,⟨hF9,hl9,hm9⟩,h2.ent aEt⟩)
theorem c96e(w:World)(co mo rm:Int)(a:Option Addr)(cap:Nat)(L:List LNd)(key:List UInt8)(hs:Nt w [] a L)(hB:Bd (pln L))(hkl:∀i,i<L.length->∀x∈(nth L i).es,x.key.length<=1000000)(he:¬(Q0 (⟨co,mo,rm,pln L⟩:Tre)).2=0):CR 96 #[.agg #[.int .i64 co,.int .i64 mo,.int .i64 rm,.slice a L.length cap],.string (bs key)] w (.tuple #[.pointer none,.int .i64 (Q0 (⟨co,mo,rm,pln L⟩:Tre)).2]):=by
 refine eN2 Tryz.func96 Tryz.ntmps96 ?_
 refine aU2 ?_
 refine oBx λb1 _=>?_
 refine aU6 ?_
 refine oCq rfl (λw1 h1=>c87e w1 co mo rm a cap L (hs.later h1.nil) hB hkl he) (Qaf ?_)
 refine sCd rfl (λh2=>?_) λh2=>?_
 ·exfalso;first|omega|(simp at h2;done)|(simp_all;done)
 refine aU8 ?_
 exact Qf (rs:=[.tmp 4,.tmp 5]) rfl (.tmp rfl (.tmp rfl (.nil))) (λw' h'=>⟨rfl,h'.below⟩)
theorem QpR(w:World)(j:Nat)(mo rm:Int)(a:Option Addr)(cap:Nat)(L:List LNd)(key:List UInt8)(hs:Nt w [] a L)(hB:Bd (pln L))(hkl:∀i,i<L.length->∀x∈(nth L i).es,x.key.length<=1000000)(hkk:key.length<=1000000)(h0:(Q0 (⟨(j:Int),mo,rm,pln L⟩:Tre)).2=0):CE 96 #[.agg #[.int .i64 (j:Int),.int .i64 mo,.int .i64 rm,.slice a L.length cap],.string (bs key)] w [] (λg:Nat×(Nat×Nat)×List LNd=>.tuple #[.pointer (some ⟨g.1,0,none⟩),.int .i64 (ZA (j:Int) key)]) (λg=>(pln g.2.2=pln L/\g.2.2.length<=g.2.1.2/\g.2.1.2<=maxLen)) λg=>[.blk g.1 167 6 (tbV (j:Int) mo rm (some ⟨g.2.1.1,0,none⟩) (g.2.2).length g.2.1.2),.blk g.2.1.1 87 (g.2.1.2*3) ((g.2.2).flatMap LNd.vals),.star ((g.2.2).map (Qx 50))]:=by
 obtain⟨hc0,hz0,hl0,hl120,hn0,_,_⟩:=Qcy h0
 rw[show((⟨(j:Int),mo,rm,pln L⟩:Tre)).ns=pln L from rfl,Qg]at hl0 hl120
 have hj:j<=3:=by obtain⟨j9,e9,hj9⟩:=Qcw hc0;have e8:((j:Nat):Int)=(j9:Int):=e9;omega
 have hT:TOk (j:Int) (pln L):=Qcp (t:=(⟨(j:Int),mo,rm,pln L⟩:Tre)) hn0
 have hmo:=(Qbu hz0).1
 simp only[]at hmo
 refine eN2 Tryz.func96 Tryz.ntmps96 ?_
 refine aU2 ?_
 refine oBx λb1 _=>?_
 refine aU6 ?_
 refine oCh rfl (λw1 h1=>c87o w1 j mo rm a cap L (hs.later h1.nil) hB hkl h0) (λg9 hF9=>Qaf ?_)
 refine sCd rfl (λh2=>?_) λh2=>?_
 ·refine aU4 ?_
  refine oCq rfl (λw1 h1=>c146 w1 j key hj hkk) (aU9 ?_)
  exact Qf (rs:=[.tmp 4,.tmp 5]) rfl (.tmp rfl (.tmp rfl (.nil))) (λw' h'=>⟨g9,rfl,hF9,h'.ent aEt⟩)
 exfalso;first|omega|(simp at h2;done)|(simp_all;done)
theorem Qry:QE Tryz.prog 48=true:=by kernel_rfl
theorem QrB:QE Tryz.prog 49=true:=by kernel_rfl
theorem c48(w:World)(a:Option Addr)(cap:Nat)(l:List TEnt)(hs:Rw TEnt.vals 2 w [] a l)(hl:l.length<=100000):CE 48 #[.slice a l.length cap] w [] (λg:Option Addr×Nat=>.slice g.1 l.length g.2) (λg=>True) λg=>[.own (.slice g.1 l.length g.2) 50 2 l.length (l.flatMap TEnt.vals)]:=by
 refine eN1 Tryz.func48 Tryz.ntmps48 ?_
 refine aU6 ?_
 refine o_h (XJ rfl Xg) rfl (λb1 _=>aU ?_)
 refine o_h (QA (l.flatMap TEnt.vals) rfl rfl rfl Xg Tryz.underlying85 XU rfl aPk (λw h=>Rw.src ev2 hs h) (Qq ev2 _) (Yh ev1 _) om (by simp only[maxLen];omega)) rfl (λb2 _=>aU2 ?_)
 exact rT rfl rfl (λw' h'=>⟨b2,by simp only[QR,Nat.zero_add],trivial,by have h2:=h';simp only[Nat.zero_add,List.nil_append]at h2;exact h2.ent aEt⟩)
theorem c49(w:World)(a:Option Addr)(cap:Nat)(l:List Int)(hs:Rw inV 1 w [] a l)(hl:l.length<=100000):CE 49 #[.slice a l.length cap] w [] (λg:Option Addr×Nat=>.slice g.1 l.length g.2) (λg=>True) λg=>[.own (.slice g.1 l.length g.2) 3 1 l.length (l.flatMap inV)]:=by
 refine eN1 Tryz.func49 Tryz.ntmps49 ?_
 refine aU6 ?_
 refine o_h (XJ rfl QD) rfl (λb1 _=>aU ?_)
 refine o_h (QA (l.flatMap inV) rfl rfl rfl QD Tryz.underlying65 Ye rfl aPk (λw h=>Rw.src iv1 hs h) (Qq iv1 _) (Yh QoW _) om (by simp only[maxLen];omega)) rfl (λb2 _=>aU2 ?_)
 exact rT rfl rfl (λw' h'=>⟨b2,by simp only[QR,Nat.zero_add],trivial,by have h2:=h';simp only[Nat.zero_add,List.nil_append]at h2;exact h2.ent aEt⟩)
theorem c9(w:World)(co mo rm:Int)(a:Option Addr)(cap:Nat)(L:List LNd)(hs:Nt w [] a L)(hl:L.length<=1000)(hsm:Sm 1000 (pln L)):CE 9 #[.agg #[.int .i64 co,.int .i64 mo,.int .i64 rm,.slice a L.length cap]] w [] (λg:(Option Addr×Nat)×List LNd=>.agg #[.int .i64 co,.int .i64 mo,.int .i64 rm,.slice g.1.1 g.2.length g.1.2]) (λg=>pln g.2=pln L) λg=>[.nodes 50 87 g.1.1 g.1.2 g.2]:=by
 refine eN1 Tryz.func9 Tryz.ntmps9 ?_
 refine aU2 ?_
 refine oBx λb1 _=>?_
 refine oAl (λb2 _=>?_) YQ
 refine aU9 ?_
 refine o_p (Qw (cs:=[_,_,_,_]) rfl rfl QjT YQ rfl) rfl (oAl (λb3 _=>?_) YQ)
 refine aU8 ?_
 refine Qt (α:=Nat×(Option Addr×Nat)×List LNd) [4,5,13,14,15,16,17,18,19,20,21,22,23,24,25,26,27,28,29,30,31,32,33,34,35,36,37,38] (λx=>[(4,.int .i64 (x.1:Int))]) (λx=>HS w [] [.own (.slice x.2.1.1 (x.2.2).length x.2.1.2) 87 3 (x.2.2).length ((x.2.2).flatMap LNd.vals),.star ((x.2.2).map (Qx 50)),.blk b3 24 4 [.int .i64 co,.int .i64 mo,.int .i64 rm,.slice x.2.1.1 (x.2.2).length x.2.1.2],.blk b2 24 4 [.int .i64 0,.int .i64 0,.int .i64 0,.slice none 0 0],.blk b1 24 4 [.int .i64 co,.int .i64 mo,.int .i64 rm,.slice a L.length cap]]) (λx=>x.1<=L.length/\x.2.2.length=x.1/\pln x.2.2=(pln L).take x.1) (λx=>L.length-x.1) (0,(none,0),[]) ⟨Nat.zero_le _,rfl,rfl⟩ aSx (λw h=>((h.own_nil 87 3).star_nil).ent aEt) (λ⟨k,⟨ga,gc⟩,D⟩hx=>?_)
 dsimp only
 obtain⟨hk1,hk2,hk3⟩:=hx
 simp only[]at hk1 hk2 hk3
 refine aU9 ?_
 refine sCd rfl (λh4=>?_) λh4=>?_
 ·have hkl:k<L.length:=by omega
  have hsk:=hsm k
  rw[Qz hkl]at hsk
  simp only[LNd.pl]at hsk
  refine aU8 ?_
  refine o_p (Qa rfl rfl rfl Xx (k) om om (Rw.some hs.1 om)) rfl (o_q (Qm _ rfl rfl Qbj rfl (Rw.rd hs.1 hkl)) rfl (oAl (λb5 _=>?_) YX))
  refine aU2 ?_
  refine Qp [12,14] mixed ?_
  refine dFa 0 ?_
  refine dLd 1 [[],[]] ?_
  refine dFa 2 ?_
  refine dLd 3 [[11,10],[]] ?_
  refine dFa 4 ?_
  refine dLd 5 [[9,6],[]] ?_
  refine dFa 7 ?_
  refine dLd 8 [[9],[]] ?_
  refine dH 6 rfl (QT rfl Qry rfl (λw1 h1=>c48 w1 (nth L k).ea (nth L k).ec (nth L k).es ((hs.es hkl).later h1) om)) (λb6 _=>dBa ?_)
  refine dH 9 rfl (QT rfl QrB rfl (λw1 h1=>c49 w1 (nth L k).ca (nth L k).cc (nth L k).cs ((hs.cs hkl).later h1) om)) (λb7 _=>dBa ?_)
  refine dV 10 rfl (Qw (cs:=[_,_,_]) rfl rfl Qnd YX rfl) (dH 11 rfl (Qd (cs:=[_,_,_]) rfl rfl Xx YX rfl rfl rfl) (λb8 _=>dBa ?_))
  refine dH 12 rfl (QA (LNd.vals (⟨(nth L k).us,b6.1,b6.2,(nth L k).es,b7.1,b7.2,(nth L k).cs⟩:LNd)) rfl rfl rfl Xx Tryz.underlying22 YX rfl aPk (QZ aPk) rfl (nv1 _) om (by simp only[maxLen];omega)) (λb9 _=>dTu [14] ?_)
  refine dFa 13 ?_
  refine dSt 14 ?_ (hl:=(by simp only[Qb,List.length_set,List.length_cons,List.length_nil,List.length_map];omega))
  refine dTu [] ?_
  refine dNi ?_
  refine aU ?_
  refine Qi (L':=[(0,_),(1,_),(2,_),(3,_),(4,_),(6,_),(7,_),(8,_),(9,_),(10,_),(11,_),(12,_)]) aSx (λ_ h=>h) ?_
  refine aT3 ?_
  refine aU2 ?_
  exact QQ (k+1,(b9.1,b9.2),D++[⟨(nth L k).us,b6.1,b6.2,(nth L k).es,b7.1,b7.2,(nth L k).cs⟩]) (by(try simp only[]);omega) ⟨by(try simp only[]);omega,by simp[hk2],Qia hkl hk3 rfl⟩ aSx (λw h=>by have h2:=HS.sub_app (sub:=Qx 50) (l:=D) (x:=(⟨(nth L k).us,b6.1,b6.2,(nth L k).es,b7.1,b7.2,(nth L k).cs⟩:LNd)) (HS.star_close (Bs:=[_,_]) (h.ent (Bs:=[.own (.slice b6.1 (nth L k).es.length b6.2) 50 2 (nth L k).es.length ((nth L k).es.flatMap TEnt.vals),.own (.slice b7.1 (nth L k).cs.length b7.2) 3 1 (nth L k).cs.length ((nth L k).cs.flatMap inV),.star (D.map (Qx 50)),.own (.slice b9.1 (D.length+1) b9.2) 87 3 (D.length+1) (D.flatMap LNd.vals++LNd.vals (⟨(nth L k).us,b6.1,b6.2,(nth L k).es,b7.1,b7.2,(nth L k).cs⟩:LNd)),.blk b3 24 4 [.int .i64 co,.int .i64 mo,.int .i64 rm,.slice b9.1 (D.length+1) b9.2],.blk b2 24 4 [.int .i64 0,.int .i64 0,.int .i64 0,.slice none 0 0],.blk b1 24 4 [.int .i64 co,.int .i64 mo,.int .i64 rm,.slice a L.length cap]]) aEt));simp only[List.length_append,List.length_singleton,List.flatMap_append,List.flatMap_singleton];exact h2.ent aEt)
 obtain rfl:k=L.length:=om
 have hD:pln D=pln L:=by rw[hk3,<-Qg L,List.take_length]
 refine Qj rfl ?_
 refine aU5 ?_
 exact Qf (rs:=[.cell 2 24]) rfl (.cell rfl Qbt aPk rfl (.nil)) (λw' h'=>⟨((ga,gc),D),by simp only[QR];rw[hk2];rfl,hD,by have h3:=HS.row_shut (a:=ga) (cap:=gc) (l:=D) (sub:=Qx 50) (t:=87) (sz:=3) (vals:=LNd.vals) (h'.ent (Bs:=[.own (.slice ga D.length gc) 87 3 D.length (D.flatMap LNd.vals),.star (D.map (Qx 50))]) aEt) rfl rfl;exact h3⟩)
theorem c29(w:World)(a b:Option Addr)(c d:Nat)(l m:List Int)(hs:Rw inV 1 w [] a l)(ht:Rw inV 1 w [] b m)(hl:l.length<=100000)(hm:m.length<=100000):CR 29 #[.slice a l.length c,.slice b m.length d] w (.bool (decide (l=m))):=by
 refine eN2 Tryz.func29 Tryz.ntmps29 ?_
 refine Qak ?_
 refine sCd rfl (λh1=>?_) λh1=>?_
 ·have hn9:l≠m:=λe=>by have hq:=h1;rw[e]at hq;simp at hq
  refine aU4 ?_
  exact rV (h:=by rw[decide_eq_false hn9];rfl)
 have hlm:l.length=m.length:=by have hq:=h1;omega
 refine aU7 ?_
 refine Qt (α:=Nat) [4,5,11,12,13,14,15,16,17,18,19,20,21,22,23,24,25] (λk=>[(5,.int .i64 (k:Int))]) (λ_=>HS w [] []) (λk=>k<=l.length/\∀j,j<k->nth l j=nth m j) (λk=>l.length-k) 0 ⟨Nat.zero_le _,λj h=>absurd h (Nat.not_lt_zero j)⟩ aSx (λw h=>h.ent aEt) (λk hx=>?_)
 obtain⟨hk1,hk3⟩:=hx
 refine aU8 ?_
 refine sCd rfl (λh2=>?_) λh2=>?_
 ·have hk:k<l.length:=by omega
  have hk2:k<m.length:=om
  refine aU4 ?_
  refine Qp [] mixed ?_
  refine dP 0 ?_
  refine dP 1 ?_
  refine dV 2 rfl (Qa rfl rfl rfl QD (k) om om (Rw.some hs om)) (dQ 3 [] rfl (Qc rfl rfl XB ((hs.rdj 0 om rfl))) (dP 4 ?_))
  refine dP 5 ?_
  refine dV 6 rfl (Qa rfl rfl rfl QD (k) om om (Rw.some ht om)) (dQ 7 [] rfl (Qc rfl rfl XB ((ht.rdj 0 om rfl))) (dP 8 ?_))
  refine dNi ?_
  refine sCd rfl (λh3=>?_) λh3=>?_
  ·have hn9:l≠m:=λe=>by have hq:=h3;rw[e]at hq;simp at hq
   refine aU4 ?_
   exact rV (h:=by rw[decide_eq_false hn9];rfl)
  have he9:nth l k=nth m k:=by have hq:=h3;exact hq
  refine aT5 ?_
  refine aU2 ?_
  exact sBk (k+1) om ⟨om,λj hj=>(Nat.lt_or_ge j k).elim (hk3 j) (λh9=>by obtain rfl:j=k:=om;exact he9)⟩
 have hl9:l=m:=QgK hlm λj hj=>hk3 j om
 refine Qj rfl ?_
 refine aU4 ?_
 exact rV (h:=by rw[decide_eq_true hl9];rfl)
end Go.Proofs
namespace Gx
open Go Go.RowKit
theorem QoT{t:Tre}{i:Nat}{S:List Int}(h:¬(nth t.ns i).us=true):Zi t i S=if(0<i/\i+1<t.ns.length)/\(nth t.ns i).es.length+(nth t.ns i).cs.length=0 then(0,S)else(3,S):=by
 unfold Zi;simp only[];rw[if_neg h]
section
variable{t:Tre}{i:Nat}{S:List Int}{n:Nd}
theorem QoZ(hn:nth t.ns i=n)(hu:n.us=true)(h:(n.es.length:Int)<=Qap t.mo t.rm i)(h2:n.cs.length=0\/n.cs.length=n.es.length+1)(h3:Qcc t.co n.es=0)(h4:(YK t.ns n.cs S).1=0):Zi t i S=(Qc4 t.co n.es,(YK t.ns n.cs S).2):=by
 subst hn;unfold Zi;simp only[];rw[if_pos hu,if_pos h,if_pos h2,if_pos h3,if_pos h4]
end
theorem eachF_at{es:List Int}{k:Nat}(hk:k<es.length)(h:∀j,j<k->es.getD j 0=0)(h2:es.getD k 0≠0):QN es 0=((k:Int),es.getD k 0):=by
 have key:∀i,i<=k->QN es 0=QN (es.drop i) i:=by
  intro i
  induction i with
  | zero=>intro _;rfl
  | succ i ih=>
   intro hi;rw[ih om,Xh om,if_pos (h i om)]
 rw[key k (Nat.le_refl _),Xh hk,if_neg h2]
theorem eachF_all{es:List Int}(h:∀j,j<es.length->es.getD j 0=0):QN es 0=(0,0):=by
 have key:∀i,i<=es.length->QN es 0=QN (es.drop i) i:=by
  intro i
  induction i with
  | zero=>intro _;rfl
  | succ i ih=>
   intro hi;rw[ih om,Xh om,if_pos (h i om)]
 rw[key _ (Nat.le_refl _),List.drop_length];rfl
end Gx
namespace Go.Proofs
open Go Go.RowKit Gx
attribute [local irreducible] Go.Calls Gx.S Gx.O Gx.D Gx.OpP Gx.OpQ Gx.OpH
set_option maxRecDepth 20000
theorem zr_9:Xs Tryz.prog 9=some [.string (bs [])]:=by kernel_rfl
end Go.Proofs
namespace Gx
open Go Go.RowKit
def Qmo(x:TEnt):Bool:=decide (x.key.length<=44/\x.val.length<=70)
def Qkw(es:List TEnt):Bool:=es.all Qmo
def QjP(n:Nd):Bool:=decide (n.es.length<=10/\n.cs.length<=11)&&Qkw n.es
def Z8(ns:List Nd):Bool:=decide (ns.length<=122/\¬(60<ns.length/\ns.length<=120))&&ns.all QjP
theorem Qoj{n:Nd}(h1:n.es.length<=10)(h2:n.cs.length<=11)(h3:Qkw n.es=true):QjP n=true:=by
 rw[QjP,decide_eq_true (And.intro h1 h2),h3];rfl
theorem Qmp{ns:List Nd}(h:Z8 ns=true):ns.length<=122:=by
 rw[Z8,Bool.and_eq_true,decide_eq_true_eq]at h;exact h.1.1
theorem QaN{ns:List Nd}(h:Z8 ns=true){k:Nat}(hk:k<ns.length):(nth ns k).es.length<=10/\(nth ns k).cs.length<=11/\∀x∈(nth ns k).es,x.key.length<=44/\x.val.length<=70:=by
 rw[Z8,Bool.and_eq_true]at h;have h2:=List.all_eq_true.1 h.2 _ (QX hk);rw[QjP,Bool.and_eq_true,decide_eq_true_eq]at h2;refine⟨h2.1.1,h2.1.2,λx hx=>?_⟩;have h3:=List.all_eq_true.1 h2.2 _ hx;rw[Qmo,decide_eq_true_eq]at h3;exact h3
theorem Qd6{ns:List Nd}(h:Z8 ns=true):Bd ns where
 len:=Nat.le_trans (Qmp h) (by decide)
 es i hi:=Nat.le_trans (QaN h hi).1 (by decide)
 cs i hi:=Nat.le_trans (QaN h hi).2.1 (by decide)
theorem Qkv{ns:List Nd}(h:Z8 ns=true):Sm 1000 ns:=λk=>by
 rcases Nat.lt_or_ge k ns.length with hk|hk
 ·exact⟨Nat.le_trans (QaN h hk).1 (by decide),Nat.le_trans (QaN h hk).2.1 (by decide)⟩
 ·rw[QbG hk];exact⟨Nat.zero_le _,Nat.zero_le _⟩
theorem Qf7{L:List LNd}(h:Z8 (pln L)=true):∀i,i<L.length->∀x∈(nth L i).es,x.key.length<=1000000:=λi hi x hx=>by
 have h2:=(QaN h (k:=i) (by rw[Qg];exact hi)).2.2 x (by rw[Qz hi];exact hx);omega
theorem QkP{i:Nat}{P:List Nat}(h:0<P.length):XA (i::P)=XA P:=by
 cases P with
 | nil=>exact absurd h (Nat.lt_irrefl _)
 | cons p P=>
  unfold XA;rw[show(i::p::P).length-1=(p::P).length-1+1 by simp];rfl
theorem Qjz{co:Int}{ns:List Nd}(hT:TOk co ns)(h0:0<ns.length)(key:List UInt8):∀(f i:Nat)(P:List Nat),Way ns (i::P)->P.length+f=ns.length->0<(ZM co ns key f i).1.length/\(ZM co ns key f i).1.length<=f/\XA (ZM co ns key f i).1<ns.length/\(ZM co ns key f i).2.1=plc co (nth ns (XA (ZM co ns key f i).1)).es key/\(ZM co ns key f i).2.2=fnd co (nth ns (XA (ZM co ns key f i).1)).es key
 | 0,i,P,hw,hf=>by
  have:=QbD hT h0 hw;rw[List.length_cons]at this;omega
 | f+1,i,P,hw,hf=>by
  by_cases h:fnd co (nth ns i).es key=true\/(nth ns i).cs.length=0
  ·rw[ZM,if_pos h];exact⟨Nat.one_pos,Nat.le_add_left 1 f,Qcx hT h0 hw i (List.mem_cons_self ..),rfl,rfl⟩
  ·rw[ZM,if_neg h];have hi:=Qcx hT h0 hw i (List.mem_cons_self ..)
   have hc:(nth ns i).cs.length=(nth ns i).es.length+1:=by
    rcases hT.shape i hi with h9|h9
    ·exact absurd (.inr h9) h
    ·exact h9
   have hk:plc co (nth ns i).es key<(nth ns i).cs.length:=by
    have:=Qbv co key (nth ns i).es;omega
   have hkid:=Qhb hT hi hk;have ih:=Qjz hT h0 key f ((nth ns i).cs.getD (plc co (nth ns i).es key) 0).toNat (i::P) (Qec hw hi hk om) (by rw[List.length_cons];omega);simp only[];rw[QkP ih.1];exact⟨by rw[List.length_cons];omega,by rw[List.length_cons];omega,ih.2.2⟩
theorem QhQ{co:Int}{ns:List Nd}(hT:TOk co ns)(h0:0<ns.length)(key:List UInt8):0<(Qr co ns key).1.length/\(Qr co ns key).1.length<=ns.length/\XA (Qr co ns key).1<ns.length/\(Qr co ns key).2.1=plc co (nth ns (XA (Qr co ns key).1)).es key/\(Qr co ns key).2.2=fnd co (nth ns (XA (Qr co ns key).1)).es key:=Qjz hT h0 key ns.length 0 [] rfl (by simp)
theorem QmW{co:Int}{es:List TEnt}{key:List UInt8}(h:fnd co es key=true):plc co es key<es.length:=by
 rw[fnd,Bool.and_eq_true,decide_eq_true_eq]at h;exact h.1
def XV(co:Int)(ns:List Nd)(key:List UInt8):TEnt:=nth (nth ns (XA (Qr co ns key).1)).es (Qr co ns key).2.1
end Gx
namespace Go.Proofs
open Go Go.RowKit Gx
attribute [local irreducible] Go.Calls Gx.S Gx.O Gx.D Gx.OpP Gx.OpQ Gx.OpH
set_option maxRecDepth 20000
instance:TFn Tryz.prog 96:=⟨by kernel_rfl⟩
theorem Qj0:YA Tryz.prog 50=some [(0,1),(1,1)]:=by kernel_rfl
theorem c53e(w:World)(co mo rm:Int)(a:Option Addr)(cap:Nat)(L:List LNd)(key:List UInt8)(hs:Nt w [] a L)(hB:Bd (pln L))(hkl:∀i,i<L.length->∀x∈(nth L i).es,x.key.length<=1000000)(he:¬(Q0 (⟨co,mo,rm,pln L⟩:Tre)).2=0):CR 53 #[.agg #[.int .i64 co,.int .i64 mo,.int .i64 rm,.slice a L.length cap],.string (bs key)] w (.tuple #[.agg #[.string (bs []),.string (bs [])],.int .i64 (Q0 (⟨co,mo,rm,pln L⟩:Tre)).2]):=by
 refine eN2 Tryz.func53 Tryz.ntmps53 ?_
 refine aU2 ?_
 refine oBx λb1 _=>?_
 refine oAl (λb2 _=>?_) XU
 refine aU6 ?_
 refine oCq rfl (λw1 h1=>c96e w1 co mo rm a cap L key (hs.later h1.nil) hB hkl he) (Qaf ?_)
 refine sCd rfl (λh3=>?_) λh3=>?_
 ·refine aU2 ?_
  refine o_p (Qw (cs:=[_,_]) rfl rfl Qj0 XU rfl) rfl (aU4 ?_)
  exact Qf (rs:=[.cell 4 50,.tmp 5]) rfl (.cell rfl Z4 aPk rfl (.tmp rfl (.nil))) (λw' h'=>⟨rfl,h'.below⟩)
 exfalso;first|omega|(simp at h3;done)|(simp_all;done)
theorem c53x(w:World)(j:Nat)(mo rm:Int)(a:Option Addr)(cap:Nat)(L:List LNd)(key:List UInt8)(hs:Nt w [] a L)(hB:Bd (pln L))(hkl:∀i,i<L.length->∀x∈(nth L i).es,x.key.length<=1000000)(hkk:key.length<=1000000)(h0:(Q0 (⟨(j:Int),mo,rm,pln L⟩:Tre)).2=0)(hx:¬ZA (j:Int) key=0):CR 53 #[.agg #[.int .i64 (j:Int),.int .i64 mo,.int .i64 rm,.slice a L.length cap],.string (bs key)] w (.tuple #[.agg #[.string (bs []),.string (bs [])],.int .i64 (ZA (j:Int) key)]):=by
 obtain⟨hc0,hz0,hl0,hl120,hn0,_,_⟩:=Qcy h0
 rw[show((⟨(j:Int),mo,rm,pln L⟩:Tre)).ns=pln L from rfl,Qg]at hl0 hl120
 have hj:j<=3:=by obtain⟨j9,e9,hj9⟩:=Qcw hc0;have e8:((j:Nat):Int)=(j9:Int):=e9;omega
 have hT:TOk (j:Int) (pln L):=Qcp (t:=(⟨(j:Int),mo,rm,pln L⟩:Tre)) hn0
 have hmo:=(Qbu hz0).1
 simp only[]at hmo
 refine eN2 Tryz.func53 Tryz.ntmps53 ?_
 refine aU2 ?_
 refine oBx λb1 _=>?_
 refine oAl (λb2 _=>?_) XU
 refine aU6 ?_
 refine oCh rfl (λw1 h1=>QpR w1 j mo rm a cap L key (hs.later h1.nil) hB hkl hkk h0) (λ⟨b9,⟨gn9,c9⟩,L9⟩hF9=>?_)
 dsimp only
 obtain⟨hL9,hn9,hm9⟩:=hF9
 simp only[]at hL9 hn9 hm9
 have hl9:L9.length=L.length:=by rw[<-Qg L9,hL9,Qg]
 have hB9:Bd (pln L9):=by rw[hL9];exact hB
 have hT9:TOk (j:Int) (pln L9):=by rw[hL9];exact hT
 have hK9:∀i,i<L9.length->∀y∈(nth L9 i).es,Q3 (j:Int) y.key=true/\y.key.length<=1000000:=λi hi y hy=>Qdd hT9 i (by rw[Qg];exact hi) y (by rw[Qz hi];exact hy)
 refine Qaf ?_
 refine sCd rfl (λh3=>?_) λh3=>?_
 ·refine aU2 ?_
  refine o_p (Qw (cs:=[_,_]) rfl rfl Qj0 XU rfl) rfl (aU4 ?_)
  exact Qf (rs:=[.cell 4 50,.tmp 5]) rfl (.cell rfl Z4 aPk rfl (.tmp rfl (.nil))) (λw' h'=>⟨rfl,h'.below⟩)
 exfalso;first|omega|(simp at h3;done)|(simp_all;done)
theorem c53m(w:World)(j:Nat)(mo rm:Int)(a:Option Addr)(cap:Nat)(L:List LNd)(key:List UInt8)(hs:Nt w [] a L)(hB:Bd (pln L))(hkl:∀i,i<L.length->∀x∈(nth L i).es,x.key.length<=1000000)(h0:(Q0 (⟨(j:Int),mo,rm,pln L⟩:Tre)).2=0)(hkk:key.length<=1000000)(hx0:ZA (j:Int) key=0)(hx:¬(Qr (j:Int) (pln L) key).2.2=true):CR 53 #[.agg #[.int .i64 (j:Int),.int .i64 mo,.int .i64 rm,.slice a L.length cap],.string (bs key)] w (.tuple #[.agg #[.string (bs []),.string (bs [])],.int .i64 6]):=by
 obtain⟨hc0,hz0,hl0,hl120,hn0,_,_⟩:=Qcy h0
 rw[show((⟨(j:Int),mo,rm,pln L⟩:Tre)).ns=pln L from rfl,Qg]at hl0 hl120
 have hj:j<=3:=by obtain⟨j9,e9,hj9⟩:=Qcw hc0;have e8:((j:Nat):Int)=(j9:Int):=e9;omega
 have hT:TOk (j:Int) (pln L):=Qcp (t:=(⟨(j:Int),mo,rm,pln L⟩:Tre)) hn0
 have hmo:=(Qbu hz0).1
 simp only[]at hmo
 have hkey:Q3 (j:Int) key=true:=keyE_ok hx0
 refine eN2 Tryz.func53 Tryz.ntmps53 ?_
 refine aU2 ?_
 refine oBx λb1 _=>?_
 refine oAl (λb2 _=>?_) XU
 refine aU6 ?_
 refine oCh rfl (λw1 h1=>QpR w1 j mo rm a cap L key (hs.later h1.nil) hB hkl hkk h0) (λ⟨b9,⟨gn9,c9⟩,L9⟩hF9=>?_)
 dsimp only
 obtain⟨hL9,hn9,hm9⟩:=hF9
 simp only[]at hL9 hn9 hm9
 have hl9:L9.length=L.length:=by rw[<-Qg L9,hL9,Qg]
 have hB9:Bd (pln L9):=by rw[hL9];exact hB
 have hT9:TOk (j:Int) (pln L9):=by rw[hL9];exact hT
 have hK9:∀i,i<L9.length->∀y∈(nth L9 i).es,Q3 (j:Int) y.key=true/\y.key.length<=1000000:=λi hi y hy=>Qdd hT9 i (by rw[Qg];exact hi) y (by rw[Qz hi];exact hy)
 refine Qaf ?_
 refine sCd rfl (λh3=>?_) λh3=>?_
 ·exfalso;first|omega|(simp at h3;done)|(simp_all;done)
 refine aU5 ?_
 refine oCh rfl (λw1 h1=>c97 w1 b9 j mo rm (some ⟨gn9,0,none⟩) c9 L9 key hj om hB9 hT9 hK9 hkey hkk (HS.nt_at h1 aPk aPk) (HS.tbr h1 aPk)) (λ⟨pa,pc⟩_=>?_)
 dsimp only
 rw[hL9]
 refine Qfd ?_
 refine sCd rfl (λh4=>?_) λh4=>?_
 ·refine aU2 ?_
  refine o_p (Qw (cs:=[_,_]) rfl rfl Qj0 XU rfl) rfl (aU3 ?_)
  exact Qf (rs:=[.cell 4 50,.tmp 5]) rfl (.cell rfl Z4 aPk rfl (.tmp rfl (.nil))) (λw' h'=>⟨rfl,h'.below⟩)
 exfalso;first|omega|(simp at h4;done)|(simp_all;done)
theorem c53o(w:World)(j:Nat)(mo rm:Int)(a:Option Addr)(cap:Nat)(L:List LNd)(key:List UInt8)(hs:Nt w [] a L)(hB:Bd (pln L))(hkl:∀i,i<L.length->∀x∈(nth L i).es,x.key.length<=1000000)(h0:(Q0 (⟨(j:Int),mo,rm,pln L⟩:Tre)).2=0)(hkk:key.length<=1000000)(hx0:ZA (j:Int) key=0)(hx:(Qr (j:Int) (pln L) key).2.2=true):CR 53 #[.agg #[.int .i64 (j:Int),.int .i64 mo,.int .i64 rm,.slice a L.length cap],.string (bs key)] w (.tuple #[.agg #[.string (bs (XV (j:Int) (pln L) key).key),.string (bs (XV (j:Int) (pln L) key).val)],.int .i64 0]):=by
 obtain⟨hc0,hz0,hl0,hl120,hn0,_,_⟩:=Qcy h0
 rw[show((⟨(j:Int),mo,rm,pln L⟩:Tre)).ns=pln L from rfl,Qg]at hl0 hl120
 have hj:j<=3:=by obtain⟨j9,e9,hj9⟩:=Qcw hc0;have e8:((j:Nat):Int)=(j9:Int):=e9;omega
 have hT:TOk (j:Int) (pln L):=Qcp (t:=(⟨(j:Int),mo,rm,pln L⟩:Tre)) hn0
 have hmo:=(Qbu hz0).1
 simp only[]at hmo
 have hkey:Q3 (j:Int) key=true:=keyE_ok hx0
 have hend:=QhQ hT (by rw[Qg];exact hl0) key
 obtain⟨hp1,hp2,hp3,hp4,hp5⟩:=hend
 rw[Qg]at hp2 hp3
 refine eN2 Tryz.func53 Tryz.ntmps53 ?_
 refine aU2 ?_
 refine oBx λb1 _=>?_
 refine oAl (λb2 _=>?_) XU
 refine aU6 ?_
 refine oCh rfl (λw1 h1=>QpR w1 j mo rm a cap L key (hs.later h1.nil) hB hkl hkk h0) (λ⟨b9,⟨gn9,c9⟩,L9⟩hF9=>?_)
 dsimp only
 obtain⟨hL9,hn9,hm9⟩:=hF9
 simp only[]at hL9 hn9 hm9
 have hl9:L9.length=L.length:=by rw[<-Qg L9,hL9,Qg]
 have hB9:Bd (pln L9):=by rw[hL9];exact hB
 have hT9:TOk (j:Int) (pln L9):=by rw[hL9];exact hT
 have hK9:∀i,i<L9.length->∀y∈(nth L9 i).es,Q3 (j:Int) y.key=true/\y.key.length<=1000000:=λi hi y hy=>Qdd hT9 i (by rw[Qg];exact hi) y (by rw[Qz hi];exact hy)
 refine Qaf ?_
 refine sCd rfl (λh3=>?_) λh3=>?_
 ·exfalso;first|omega|(simp at h3;done)|(simp_all;done)
 refine aU5 ?_
 refine oCh rfl (λw1 h1=>c97 w1 b9 j mo rm (some ⟨gn9,0,none⟩) c9 L9 key hj om hB9 hT9 hK9 hkey hkk (HS.nt_at h1 aPk aPk) (HS.tbr h1 aPk)) (λ⟨pa,pc⟩_=>?_)
 dsimp only
 rw[hL9]
 refine Qfd ?_
 refine sCd rfl (λh4=>?_) λh4=>?_
 ·exfalso;first|omega|(simp at h4;done)|(simp_all;done)
 have hlf:(XA (Qr (j:Int) (pln L) key).1)<L9.length:=om
 have hn9f:nth (pln L) (XA (Qr (j:Int) (pln L) key).1)=(nth L9 (XA (Qr (j:Int) (pln L) key).1)).pl:=by have h9:=Qz hlf;rw[hL9]at h9;exact h9
 have hat:=QmW (hp5▸hx)
 rw[<-hp4,hn9f]at hat
 simp only[LNd.pl]at hat
 have hpn:(Qr (j:Int) (pln L) key).1.length-1<(Qr (j:Int) (pln L) key).1.length:=om
 have hXN:(XV (j:Int) (pln L) key)=nth (nth L9 (XA (Qr (j:Int) (pln L) key).1)).es (Qr (j:Int) (pln L) key).2.1:=by rw[XV,hn9f];rfl
 refine Yr (λw h=>HS.kids_some (by rw[Qe1];omega) h aPk) λhpa=>?_
 obtain⟨gp,hpa⟩:=hpa
 refine Yr (λw h=>HS.es_some (i:=(XA (Qr (j:Int) (pln L) key).1)) hlf om h aPk) λhge=>?_
 obtain⟨ge,hge⟩:=hge
 refine aU2 ?_
 refine Qp [17] mixed ?_
 refine dP 0 ?_
 refine dP 1 ?_
 refine dFa 2 ?_
 refine dFa 3 ?_
 refine dLd 4 [[]] ?_
 refine dP 5 ?_
 refine dP 6 ?_
 refine dV 7 rfl (QI rfl rfl Tryz.underlying65) (dP 8 ?_)
 try refine dWr ?_
 refine dV 9 rfl (Qa rfl rfl rfl QD ((Qr (j:Int) (pln L) key).1.length-1) om om hpa) (dQ 10 [[]] rfl (Qo rfl rfl XB (λw h=>HS.path_rd hpn hpa h aPk)) (Qs (show _=Value.int .i64 (((XA (Qr (j:Int) (pln L) key).1):Nat):Int)from rfl) (dV 11 rfl (Qa rfl rfl rfl Xx ((XA (Qr (j:Int) (pln L) key).1)) om om rfl) (Qs (show _=Value.pointer (some ⟨gn9,(XA (Qr (j:Int) (pln L) key).1)*3,none⟩)from by rw[Nat.zero_add]) (dFa 12 ?_)))))
 refine dQ 13 [[]] rfl (Qo rfl rfl YW (λw h=>HS.nd_cell hlf h aPk 1 rfl (by decide))) (dP 14 ?_)
 refine dV 15 rfl (Qa rfl rfl rfl Xg ((Qr (j:Int) (pln L) key).2.1) om om hge) (dQ 16 [[]] rfl (ZQ _ rfl rfl Z4 (by rfl) (λw h=>HS.es_rd (i:=(XA (Qr (j:Int) (pln L) key).1)) hlf hat hge h aPk)) (dSt 17 ?_ (hl:=(by simp only[Qb,List.length_set,List.length_cons,List.length_nil,List.length_map];omega))))
 refine dTu [] ?_
 refine dP 18 ?_
 refine dNi ?_
 exact Qf (rs:=[.cell 4 50,.tmp 5]) rfl (.cell rfl Z4 aPk rfl (.tmp rfl (.nil))) (λw' h'=>⟨by rw[hXN];rfl,h'.below⟩)
end Go.Proofs
namespace Gx
open Go Go.RowKit
inductive BT where
 | nd (i:Nat) (es:List TEnt) (ks:List BT)
namespace BT
def idx:BT->Nat|nd i _ _=>i
def es:BT->List TEnt|nd _ es _=>es
def ks:BT->List BT|nd _ _ ks=>ks
end BT
instance:Inhabited BT:=⟨.nd 0 [] []⟩
def QU(ks:List BT):List Int:=ks.map λk=>(k.idx:Int)
theorem QeA(a b:List BT):QU (a++b)=QU a++QU b:=by simp[QU]
theorem Zy(a:BT)(b:List BT):QU (a::b)=(a.idx:Int)::QU b:=rfl
theorem Xi(a:List BT):(QU a).length=a.length:=by simp[QU]
theorem Qk7(a:List BT)(n:Nat):QU (a.take n)=(QU a).take n:=by simp[QU,List.map_take]
theorem Qlm(a:List BT)(n:Nat):QU (a.drop n)=(QU a).drop n:=by simp[QU,List.map_drop]
mutual
def BT.nodes:BT->List (Nat×Nd)
 | .nd i es ks=>(i,⟨true,es,QU ks⟩)::nodesL ks
def nodesL:List BT->List (Nat×Nd)
 | []=>[]
 | k::ks=>k.nodes++nodesL ks
end
mutual
def BT.flat:BT->List TEnt
 | .nd _ es ks=>flatL es ks
def flatL:List TEnt->List BT->List TEnt
 | es,[]=>es
 | [],k::ks=>k.flat++flatL [] ks
 | e::es,k::ks=>k.flat++e::flatL es ks
end
theorem QcA(a b:List BT):nodesL (a++b)=nodesL a++nodesL b:=by
 induction a with
 | nil=>rfl
 | cons x a ih=>rw[List.cons_append,nodesL,nodesL,ih,List.append_assoc]
structure RepN(ns:List Nd)(N:List (Nat×Nd)):Prop where
 get:∀p∈N,ns[p.1]?=some p.2
 nd:(N.map Prod.fst).Nodup
 rest:∀i,i<ns.length->i ∉ N.map Prod.fst->nth ns i=⟨false,[],[]⟩
section
variable{ns:List Nd}{N N':List (Nat×Nd)}{i:Nat}{x y:Nd}
theorem RepN.perm(h:RepN ns N)(hp:N.Perm N'):RepN ns N':=
 ⟨λp hp'=>h.get p (hp.mem_iff.2 hp'),(hp.map _).nodup_iff.1 h.nd,λi hi hn=>h.rest i hi λhm=>hn ((hp.map _).mem_iff.1 hm)⟩
theorem RepN.lt(h:RepN ns N){p:Nat×Nd}(hp:p∈N):p.1<ns.length:=(List.getElem?_eq_some_iff.1 (h.get p hp)).1
theorem RepN.head(h:RepN ns ((i,x)::N)):i<ns.length/\nth ns i=x:=⟨h.lt (List.mem_cons_self ..),QH (h.get _ (List.mem_cons_self ..))⟩
theorem RepN.at_(h:RepN ns N)(hp:(i,x)∈N):i<ns.length/\nth ns i=x:=⟨h.lt hp,QH (h.get _ hp)⟩
theorem RepN.set(h:RepN ns ((i,x)::N))(y:Nd):RepN (ns.set i y) ((i,y)::N):=by
 have hn:=List.nodup_cons.1 h.nd;refine⟨λp hp=>?_,h.nd,λj hj hm=>?_⟩
 ·rcases List.mem_cons.1 hp with rfl|hp
  ·exact List.getElem?_set_self h.head.1
  ·have hne:i≠p.1:=λe=>hn.1 (e▸List.mem_map.2 ⟨p,hp,rfl⟩);rw[List.getElem?_set_ne hne];exact h.get p (List.mem_cons_of_mem _ hp)
 ·have hne:i≠j:=λe=>hm (e▸List.mem_cons_self ..);rw[List.length_set]at hj;rw[<-h.rest j hj hm];exact QH (by rw[List.getElem?_set_ne hne];exact QB hj)
theorem RepN.es(h:RepN ns ((i,x)::N))(es:List TEnt):RepN (esN ns i es) ((i,{x with es:=es})::N):=by
 have:=h.set {x with es:=es};unfold esN;rw[h.head.2];exact this
theorem RepN.cs(h:RepN ns ((i,x)::N))(cs:List Int):RepN (csN ns i cs) ((i,{x with cs:=cs})::N):=by
 have:=h.set {x with cs:=cs};unfold csN;rw[h.head.2];exact this
theorem RepN.free(h:RepN ns N)(hu:∀p∈N,p.2.us=true):(QC ns).1 ∉ N.map Prod.fst/\RepN (QC ns).2 (((QC ns).1,⟨true,[],[]⟩)::N):=by
 have hnu:(QC ns).1 ∉ N.map Prod.fst:=λhm=>by
  obtain⟨p,hp,e⟩:=List.mem_map.1 hm;have h1:=h.at_ (i:=p.1) (x:=p.2) hp;exact Qel h1.1 (by rw[h1.2];exact hu p hp) e.symm
 refine⟨hnu,?_⟩;have hnd:((((QC ns).1,(⟨true,[],[]⟩:Nd))::N).map Prod.fst).Nodup:=List.nodup_cons.2 ⟨hnu,h.nd⟩
 have hget:∀p∈N,(QC ns).2[p.1]?=some p.2:=λp hp=>by
  have h1:=h.at_ (i:=p.1) (x:=p.2) hp;have h2:=Qba h1.1 (by rw[h1.2];exact hu p hp);rw[QB (Nat.lt_of_lt_of_le h1.1 (Qbr ns).1),h2,h1.2]
 have hown:nth (QC ns).2 (QC ns).1=⟨true,[],[]⟩:=by
  unfold QC at hnu ⊢;split
  ·rename_i hlt;rw[if_pos hlt]at hnu;simp only[]at hnu ⊢;unfold usN;rw[h.rest _ hlt hnu];exact QH (List.getElem?_set_self hlt)
  ·exact QH (by simp)
 refine⟨λp hp=>?_,hnd,λj hj hm=>?_⟩
 ·rcases List.mem_cons.1 hp with rfl|hp
  ·rw[QB (Qek ns),hown]
  ·exact hget p hp
 ·have hne:(QC ns).1≠j:=λe=>hm (e▸List.mem_cons_self ..);have hm2:j ∉ N.map Prod.fst:=λh9=>hm (List.mem_cons_of_mem _ h9);unfold QC at hj hne ⊢;split
  ·rename_i hlt;rw[if_pos hlt]at hj hne;simp only[QgG]at hj hne ⊢;rw[<-h.rest j hj hm2];exact QH (by unfold usN;rw[List.getElem?_set_ne hne];exact QB hj)
  ·rename_i hlt;rw[if_neg hlt]at hj hne;simp only[List.length_append,List.length_singleton]at hj hne ⊢;have hj2:j<ns.length:=by omega
   rw[<-h.rest j hj2 hm2];exact QH (by rw[List.getElem?_append_left hj2];exact QB hj2)
end
def X3(N:List (Nat×Nd)):List Int:=N.flatMap λp=>p.2.cs
theorem QeG(A B:List (Nat×Nd)):X3 (A++B)=X3 A++X3 B:=List.flatMap_append
theorem Qby(p:Nat×Nd)(B:List (Nat×Nd)):X3 (p::B)=p.2.cs++X3 B:=List.flatMap_cons
theorem QmX{cs:List Int}{n:Int}(h:n ∉ cs):¬ixB (Y7 cs n)<cs.length:=λhl=>by
 have h1:(Y7 cs n).getD (ixB (Y7 cs n)) false=true:=Qbn (by rw[YS];exact hl);rw[Qfo hl]at h1;refine h (of_decide_eq_true h1▸?_);rw[List.getD_eq_getElem?_getD,List.getElem?_eq_getElem hl];exact List.getElem_mem hl
theorem QgD{A B:List Int}{n:Int}(h:n ∉ A):ixB (Y7 (A++n::B) n)=A.length:=by
 induction A with
 | nil=>
  show ixB (decide (n=n)::_)=0;simp[ixB]
 | cons a A ih=>
  have h1:n≠a:=λe=>h (e▸List.mem_cons_self ..);show ixB (decide (n=a)::Y7 (A++n::B) n)=_;rw[decide_eq_false h1];simp only[ixB,List.length_cons];rw[ih λhm=>h (List.mem_cons_of_mem _ hm)]
  first|rfl|simp
theorem Qjo{i:Nat}:∀{l:List Nd}{s p:Nat}{A B:List Int},p<l.length->(nth l p).cs=A++(i:Int)::B->(i:Int) ∉ A->(∀j,j<p->(i:Int) ∉ (nth l j).cs)->Xp i l s=(s+p,A.length)
 | [],s,p,A,B,hp,_,_,_=>absurd hp (Nat.not_lt_zero _)
 | n::l,s,0,A,B,hp,he,hA,_=>by
  have e:n.cs=A++(i:Int)::B:=he;rw[Xp,e,QgD hA,if_pos (by simp)];rfl
 | n::l,s,p+1,A,B,hp,he,hA,hn=>by
  have hn0:(i:Int) ∉ n.cs:=hn 0 (Nat.succ_pos _);rw[Xp,if_neg (QmX hn0),Qjo (l:=l) (s:=s+1) (p:=p) (by simpa using hp) he hA λj hj=>hn (j+1) om];congr 1;omega
theorem RepN.par{ns:List Nd}{N:List (Nat×Nd)}{p i:Nat}{x:Nd}{A B:List Int}(h:RepN ns ((p,x)::N))(hk:(X3 ((p,x)::N)).Nodup)(he:x.cs=A++(i:Int)::B):Xp i ns 0=(p,A.length):=by
 rw[Qby,he]at hk;have h1:=List.nodup_append.1 hk;have hA:(i:Int) ∉ A:=λhm=>(List.nodup_append.1 h1.1).2.2 _ hm _ (List.mem_cons_self ..) rfl;have h2:=h.head
 have:=Qjo (i:=i) (l:=ns) (s:=0) (p:=p) h2.1 (by rw[h2.2];exact he) hA λj hj hm=>by
  by_cases hjm:j∈N.map Prod.fst
  ·obtain⟨q,hq,e⟩:=List.mem_map.1 hjm;have h3:=h.at_ (i:=q.1) (x:=q.2) (List.mem_cons_of_mem _ hq);rw[e]at h3;rw[h3.2]at hm;exact h1.2.2 (i:Int) (by simp) (i:Int) (List.mem_flatMap.2 ⟨q,hq,hm⟩) rfl
  ·have h3:=h.rest j om (λh9=>by
    rcases List.mem_cons.1 h9 with e|h9
    ·have:j=p:=e;omega
    ·exact hjm h9)
   rw[h3]at hm;cases hm
 rw[this,Nat.zero_add]
mutual
theorem Qci:∀T:BT,(((T.idx:Nat):Int)::X3 T.nodes).Perm (T.nodes.map λp=>((p.1:Nat):Int))
 | .nd i es ks=>by
  rw[BT.nodes,Qby,List.map_cons];exact List.Perm.cons _ (kids_nodesL ks)
theorem kids_nodesL:∀ks:List BT,(QU ks++X3 (nodesL ks)).Perm ((nodesL ks).map λp=>((p.1:Nat):Int))
 | []=>.refl _
 | k::ks=>by
  rw[nodesL,QeG,List.map_append,Zy,List.cons_append];have h1:=Qci k;have h2:=kids_nodesL ks
  have h3:((k.idx:Int)::(QU ks++(X3 k.nodes++X3 (nodesL ks)))).Perm (((k.idx:Int)::X3 k.nodes)++(QU ks++X3 (nodesL ks))):=by
   rw[List.cons_append];refine List.Perm.cons _ ?_;rw[<-List.append_assoc,<-List.append_assoc];exact List.perm_append_comm.append_right _
  exact h3.trans (h1.append h2)
end
theorem Qrn{l:List (Nat×Nd)}(h:(l.map Prod.fst).Nodup):(l.map λp=>((p.1:Nat):Int)).Nodup:=by
 have e:(l.map λp=>((p.1:Nat):Int))=(l.map Prod.fst).map λn:Nat=>(n:Int):=by simp
 rw[e];exact List.Pairwise.map _ (λa b hab e=>hab om) h
theorem Qje{T:BT}(h:(T.nodes.map Prod.fst).Nodup):(X3 T.nodes).Nodup:=(List.nodup_cons.1 ((Qci T).nodup_iff.2 (Qrn h))).2
mutual
theorem Qat:∀T:BT,∀p∈T.nodes,p.2.us=true
 | .nd i es ks=>λp hp=>by
  rw[BT.nodes]at hp;rcases List.mem_cons.1 hp with rfl|hp
  ·rfl
  ·exact nodesL_us ks p hp
theorem nodesL_us:∀ks:List BT,∀p∈nodesL ks,p.2.us=true
 | []=>λp hp=>(nomatch hp)
 | k::ks=>λp hp=>by
  rw[nodesL]at hp;rcases List.mem_append.1 hp with hp|hp
  ·exact Qat k p hp
  ·exact nodesL_us ks p hp
end
structure Fr where
 i:Nat
 es:List TEnt
 l:List BT
 r:List BT
instance:Inhabited Fr:=⟨⟨0,[],[],[]⟩⟩
def Fr.fill(f:Fr)(T:BT):BT:=.nd f.i f.es (f.l++T::f.r)
def plug:List Fr->BT->BT
 | [],T=>T
 | f::C,T=>plug C (f.fill T)
def Fr.nodes(f:Fr)(h:Nat):List (Nat×Nd):=(f.i,⟨true,f.es,QU f.l++(h:Int)::QU f.r⟩)::(nodesL f.l++nodesL f.r)
def Xd:List Fr->Nat->List (Nat×Nd)
 | [],_=>[]
 | f::C,h=>f.nodes h++Xd C f.i
theorem QiY(f:Fr)(T:BT):(f.fill T).nodes.Perm (f.nodes T.idx++T.nodes):=by
 unfold Fr.fill Fr.nodes;rw[BT.nodes,QcA,nodesL,QeA,Zy,List.cons_append];refine List.Perm.cons _ ?_;rw[List.append_assoc];exact List.Perm.append_left _ List.perm_append_comm
theorem ZX:∀(C:List Fr)(T:BT),(plug C T).nodes.Perm (Xd C T.idx++T.nodes)
 | [],T=>.refl _
 | f::C,T=>by
  refine(ZX C (f.fill T)).trans ?_;show(Xd C f.i++(f.fill T).nodes).Perm (f.nodes T.idx++Xd C f.i++T.nodes);refine((QiY f T).append_left _).trans ?_;rw[<-List.append_assoc];exact List.perm_append_comm.append_right _
theorem QnR(C D:List Fr)(T:BT):plug (C++D) T=plug D (plug C T):=by
 induction C generalizing T with
 | nil=>rfl
 | cons f C ih=>exact ih _
def Q5(ns:List Nd)(T:BT):Prop:=RepN ns T.nodes
theorem Q5.plug{ns:List Nd}{C:List Fr}{T:BT}(h:Q5 ns (plug C T)):RepN ns (Xd C T.idx++T.nodes):=RepN.perm h (ZX C T)
theorem Q5.of_plug{ns:List Nd}{C:List Fr}{T:BT}(h:RepN ns (Xd C T.idx++T.nodes)):Q5 ns (Gx.plug C T):=RepN.perm h (ZX C T).symm
theorem Q5.at_{ns:List Nd}{C:List Fr}{T:BT}(h:Q5 ns (Gx.plug C T)):T.idx<ns.length/\nth ns T.idx=⟨true,T.es,QU T.ks⟩:=by
 cases T with
 | nd i es ks=>exact RepN.at_ h.plug (List.mem_append_right _ (by rw[BT.nodes];exact List.mem_cons_self ..))
theorem QgT{α:Type}[BEq α][LawfulBEq α]{a b:List α}(h:∀x,a.count x=b.count x):a.Perm b:=List.perm_iff_count.2 h
theorem QnA{α:Type}[BEq α](l:List α)(n:Nat)(x:α):l.count x=(l.take n).count x+(l.drop n).count x:=by
 rw[<-List.count_append,List.take_append_drop]
theorem QgI(ks:List BT)(n:Nat):nodesL ks=nodesL (ks.take n)++nodesL (ks.drop n):=by
 rw[<-QcA,List.take_append_drop]
theorem QeN(l r:List BT)(i own:Nat):QL (QU l++(i:Int)::QU r) (l.length+1) (own:Int)=QU l++(i:Int)::(own:Int)::QU r:=by
 unfold QL;rw[List.take_append,List.drop_append,Xi,List.take_of_length_le (by rw[Xi];omega),List.drop_of_length_le (by rw[Xi];omega),show l.length+1-l.length=1 by omega];simp
section
variable{ns:List Nd}{mo rm:Int}{f:Fr}{C:List Fr}{i:Nat}{es:List TEnt}{ks:List BT}
theorem Qn7{T:BT}(h:Q5 ns T):(X3 T.nodes).Nodup:=Qje h.nd
theorem Qho(h:Q5 ns (plug C (.nd i es ks))):(QC ns).1 ∉ (plug C (.nd i es ks)).nodes.map Prod.fst /\
  RepN (splA mo ns i) ((i,⟨true,es.take (Qy mo),(QU ks).take (Qy mo+1)⟩)::((QC ns).1,⟨true,es.drop (Qy mo+1),(QU ks).drop (Qy mo+1)⟩)::(Xd C i++nodesL ks)):=by
 have hf:=RepN.free h (Qat _);refine⟨hf.1,?_⟩
 have h1:=hf.2.perm (N':=((QC ns).1,⟨true,[],[]⟩)::(i,⟨true,es,QU ks⟩)::(Xd C i++nodesL ks)) (List.Perm.cons _ ((ZX C (.nd i es ks)).trans (by
  show(Xd C i++(BT.nd i es ks).nodes).Perm _;rw[BT.nodes];exact List.perm_middle)))
 have h2:=h1.perm (List.Perm.swap ..);have hi:=h2.head;have h3:=((h1.es (es.drop (Qy mo+1))).perm (List.Perm.swap ..)).es (es.take (Qy mo));unfold splA;rw[hi.2];simp only[];split
 ·rename_i h0;have h0':QU ks=[]:=List.eq_nil_of_length_eq_zero h0;rw[h0']at h3;rw[h0',List.take_nil,List.drop_nil];exact h3
 ·have h4:=(h3.perm (List.Perm.swap ..)).cs ((QU ks).drop (Qy mo+1));exact(h4.perm (List.Perm.swap ..)).cs ((QU ks).take (Qy mo+1))
theorem QfZ(h:Q5 ns (plug C (.nd i es ks))):(X3 ((i,(⟨true,es.take (Qy mo),(QU ks).take (Qy mo+1)⟩:Nd))::((QC ns).1,⟨true,es.drop (Qy mo+1),(QU ks).drop (Qy mo+1)⟩)::(Xd C i++nodesL ks))).Nodup:=by
 have h1:=((ZX C (.nd i es ks)).flatMap_right (λp:Nat×Nd=>p.2.cs)).nodup_iff.1 (Qn7 h);refine(List.Perm.nodup_iff ?_).1 h1;rw[BT.nodes];show(X3 (Xd C i++(i,⟨true,es,QU ks⟩)::nodesL ks)).Perm _;refine QgT λx=>?_;simp only[Qby,QeG,List.count_append,QnA (QU ks) (Qy mo+1) x];omega
theorem Qax(h:Q5 ns (plug (f::C) (.nd i es ks))) :
  (QC ns).1 ∉ (plug (f::C) (.nd i es ks)).nodes.map Prod.fst/\Xp (i:Int) (splA mo ns i) 0=(f.i,f.l.length) /\
  Q5 (Qah mo ns i) (plug C (.nd f.i (QL f.es f.l.length (nth es (Qy mo))) (f.l++.nd i (es.take (Qy mo)) (ks.take (Qy mo+1))::.nd (QC ns).1 (es.drop (Qy mo+1)) (ks.drop (Qy mo+1))::f.r))):=by
 obtain⟨h0,h1⟩:=Qho (mo:=mo) h;have hk:=QfZ (mo:=mo) h
 have hp:(((i,(⟨true,es.take (Qy mo),(QU ks).take (Qy mo+1)⟩:Nd))::((QC ns).1,⟨true,es.drop (Qy mo+1),(QU ks).drop (Qy mo+1)⟩)::(Xd (f::C) i++nodesL ks))).Perm
   ((f.i,⟨true,f.es,QU f.l++(i:Int)::QU f.r⟩)::(i,(⟨true,es.take (Qy mo),(QU ks).take (Qy mo+1)⟩:Nd))::((QC ns).1,⟨true,es.drop (Qy mo+1),(QU ks).drop (Qy mo+1)⟩)::(nodesL f.l++nodesL f.r++Xd C f.i++nodesL ks)):=by
  refine QgT λx=>?_;simp only[Xd,Fr.nodes,List.count_append,List.count_cons,List.cons_append];omega
 have h2:=h1.perm hp;have hpar:=h2.par ((hp.flatMap_right (λp:Nat×Nd=>p.2.cs)).nodup_iff.1 hk) rfl;rw[Xi]at hpar;refine⟨h0,hpar,?_⟩;unfold Qah;rw[hpar]
 have hi:nth (nth (QC ns).2 i).es (Qy mo)=nth es (Qy mo):=by
  have h4:i<ns.length/\nth ns i=⟨true,es,QU ks⟩:=Q5.at_ (T:=.nd i es ks) h;rw[Qba h4.1 (by rw[h4.2]),h4.2]
 rw[hi];unfold addP;simp only[];have h5:=h2.head;have h6:=(h2.es (QL f.es f.l.length (nth es (Qy mo)))).cs (QL (QU f.l++(i:Int)::QU f.r) (f.l.length+1) ((QC ns).1:Int));rw[QeN]at h6;rw[h5.2];simp only[];rw[QeN];refine Q5.of_plug (h6.perm ?_);show List.Perm _ (Xd C f.i++BT.nodes _);rw[BT.nodes,QcA,nodesL,nodesL,BT.nodes,BT.nodes,QeA,Zy,Zy,Qk7,Qlm];refine QgT λx=>?_;simp only[List.count_append,List.count_cons,List.cons_append,QgI ks (Qy mo+1),BT.idx];omega
end
theorem Qot{ns:List Nd}{es:List TEnt}{ks:List BT}(h:Q5 ns (.nd 0 es ks)):(QC ns).1 ∉ (BT.nd 0 es ks).nodes.map Prod.fst/\Q5 (XN ns).2 (.nd 0 [] [.nd (QC ns).1 es ks]):=by
 have hf:=RepN.free h (Qat _);refine⟨hf.1,?_⟩;have h0:=Q5.at_ (C:=[]) h;unfold XN;rw[show nth ns 0=nth ns (BT.nd 0 es ks).idx from rfl,h0.2];simp only[BT.es,BT.ks]
 have h1:RepN (QC ns).2 (((QC ns).1,⟨true,[],[]⟩)::(0,⟨true,es,QU ks⟩)::nodesL ks):=by
  have:=hf.2;rw[BT.nodes]at this;exact this
 have h2:=(((h1.es es).cs (QU ks)).perm (List.Perm.swap ..)).es [];have h3:=h2.cs [((QC ns).1:Int)];refine RepN.perm h3 ?_;rw[BT.nodes,nodesL,BT.nodes,nodesL,List.append_nil];exact .refl _
def Bal(lo hi:Nat):Nat->BT->Prop
 | 0,T=>T.ks=[]/\lo<=T.es.length/\T.es.length<=hi
 | d+1,T=>(T.ks.length=T.es.length+1/\∀k∈T.ks,Bal lo hi d k)/\lo<=T.es.length/\T.es.length<=hi
def Bel(lo hi:Nat):Nat->BT->Prop
 | 0,T=>T.ks=[]
 | d+1,T=>T.ks.length=T.es.length+1/\∀k∈T.ks,Bal lo hi d k
theorem Zq{lo hi d:Nat}{T:BT}:Bal lo hi d T ↔ Bel lo hi d T/\lo<=T.es.length/\T.es.length<=hi:=by
 cases d<;>simp only[Bal,Bel]
theorem Bel.cs{lo hi d:Nat}{T:BT}(h:Bel lo hi d T):T.ks=[]\/T.ks.length=T.es.length+1:=by
 cases d with
 | zero=>exact .inl h
 | succ d=>exact .inr h.1
theorem Bel.leaf{lo hi d:Nat}{T:BT}(h:Bel lo hi d T)(hk:T.ks=[]):d=0:=by
 cases d with
 | zero=>rfl
 | succ d=>
  have:=h.1;rw[hk]at this;simp at this
def ZO(lo hi rt:Nat):Nat->List Fr->Prop
 | _,[]=>True
 | d,f::C=>((∀k∈f.l,Bal lo hi d k)/\(∀k∈f.r,Bal lo hi d k))/\f.l.length+f.r.length=f.es.length/\((C=[]->f.es.length<=rt)/\(C≠[]->lo<=f.es.length/\f.es.length<=hi))/\ZO lo hi rt (d+1) C
theorem QlV{lo hi rt d:Nat}{f:Fr}{C:List Fr}{T:BT}(hC:ZO lo hi rt d (f::C))(h:Bal lo hi d T):Bel lo hi (d+1) (f.fill T):=by
 refine⟨?_,λk hk=>?_⟩
 ·show(f.l++T::f.r).length=f.es.length+1;have:=hC.2.1;simp only[List.length_append,List.length_cons];omega
 ·rcases List.mem_append.1 hk with hk|hk
  ·exact hC.1.1 k hk
  ·rcases List.mem_cons.1 hk with rfl|hk
   ·exact h
   ·exact hC.1.2 k hk
theorem XL(es:List TEnt):flatL es []=es:=by cases es<;>rfl
theorem Qdo(i:Nat)(es:List TEnt):(BT.nd i es []).flat=es:=by rw[BT.flat,XL]
def YZ:List TEnt->List BT->List TEnt
 | e::es,k::ks=>k.flat++e::YZ es ks
 | _,_=>[]
def QeL:List TEnt->List BT->List TEnt
 | e::es,k::ks=>e::(k.flat++QeL es ks)
 | _,_=>[]
theorem QdJ:∀(es:List TEnt)(T:BT)(r:List BT),r.length=es.length->flatL es (T::r)=T.flat++QeL es r
 | [],T,[],_=>by
  rw[flatL,XL];rfl
 | [],T,k::r,h=>absurd h (by simp)
 | e::es,T,[],h=>absurd h (by simp)
 | e::es,T,k::r,h=>by
  rw[flatL,QdJ es k r (by simpa using h)];rfl
theorem QbC:∀(l:List BT)(es:List TEnt)(T:BT)(r:List BT),l.length+r.length=es.length->flatL es (l++T::r)=YZ es l++(T.flat++QeL (es.drop l.length) r)
 | [],es,T,r,h=>by
  have e:YZ es []=[]:=by cases es<;>rfl
  rw[e];exact QdJ es T r (by simpa using h)
 | k::l,[],T,r,h=>absurd h (by simp only[List.length_cons,List.length_nil];omega)
 | k::l,e::es,T,r,h=>by
  rw[List.cons_append,flatL,QbC l es T r (by simp only[List.length_cons]at h;omega),YZ,List.length_cons,List.drop_succ_cons];simp only[List.append_assoc,List.cons_append]
theorem QdA:∀(a b:List TEnt)(l:List BT),l.length<=a.length->YZ (a++b) l=YZ a l
 | a,b,[],_=>by
  have e:∀c:List TEnt,YZ c []=[]:=λc=>by cases c<;>rfl
  rw[e,e]
 | [],b,k::l,h=>absurd h (by simp)
 | x::a,b,k::l,h=>by
  rw[List.cons_append,YZ,YZ,QdA a b l (by simpa using h)]
theorem QiC{es:List TEnt}{l:List BT}(h:l.length<=es.length):YZ (es.take l.length) l=YZ es l:=by
 have:=QdA (es.take l.length) (es.drop l.length) l (by rw[List.length_take];omega);rw[List.take_append_drop]at this;exact this.symm
theorem QkX{l r:List BT}{es:List TEnt}{A B:BT}{up:TEnt}(h:l.length+r.length=es.length):flatL (QL es l.length up) (l++A::B::r)=YZ es l++((A.flat++up::B.flat)++QeL (es.drop l.length) r):=by
 have hl:(es.take l.length).length=l.length:=by rw[List.length_take];omega
 rw[QbC l _ A (B::r) (by rw[Zt om,List.length_cons];omega)];unfold QL;rw[QdA _ _ _ om,QiC om,List.drop_append,List.drop_of_length_le (by omega:(es.take l.length).length<=l.length),hl,Nat.sub_self,List.nil_append,List.drop_zero];show YZ es l++(A.flat++(up::(B.flat++QeL (es.drop l.length) r)))=_;simp only[List.append_assoc,List.cons_append]
theorem QdR:∀(m:Nat)(es:List TEnt)(ks:List BT),m<es.length->(ks=[]\/ks.length=es.length+1)->flatL (es.take m) (ks.take (m+1))++nth es m::flatL (es.drop (m+1)) (ks.drop (m+1))=flatL es ks
 | m,es,[],h,_=>by
  rw[List.take_nil,List.drop_nil,XL,XL,XL];have e:nth es m=es[m]:=QH (List.getElem?_eq_getElem h);rw[e,<-List.drop_eq_getElem_cons h,List.take_append_drop]
 | m,[],k::ks,h,_=>absurd h (by simp)
 | 0,e::es,k::ks,h,h2=>by
  rw[List.take_zero,List.take_succ_cons,List.take_zero,flatL,XL,List.drop_succ_cons,List.drop_zero,List.drop_succ_cons,List.drop_zero,flatL,List.append_nil];rfl
 | m+1,e::es,k::ks,h,h2=>by
  have hk:ks.length=es.length+1:=by
   rcases h2 with h2|h2
   ·cases h2
   ·simpa using h2
  rw[List.take_succ_cons,List.take_succ_cons,flatL,List.drop_succ_cons,List.drop_succ_cons,flatL];have:=QdR m es ks (by simpa using h) (.inr hk);show k.flat++e::flatL (es.take m) (ks.take (m+1))++nth es m::flatL (es.drop (m+1)) (ks.drop (m+1))=_;rw[<-this];simp only[List.append_assoc,List.cons_append]
def Qhi:List Fr->List TEnt
 | []=>[]
 | f::C=>Qhi C++YZ f.es f.l
def QgE:List Fr->List TEnt
 | []=>[]
 | f::C=>QeL (f.es.drop f.l.length) f.r++QgE C
theorem Zz{lo hi rt:Nat}:∀{C:List Fr}{d:Nat}{T:BT},ZO lo hi rt d C->(plug C T).flat=Qhi C++(T.flat++QgE C)
 | [],d,T,_=>by
  show T.flat=[]++(T.flat++[]);simp
 | f::C,d,T,hC=>by
  show(plug C (f.fill T)).flat=_;rw[Zz (C:=C) hC.2.2.2];show Qhi C++((BT.nd f.i f.es (f.l++T::f.r)).flat++QgE C)=_;rw[BT.flat,QbC f.l f.es T f.r hC.2.1];simp only[Qhi,QgE,List.append_assoc]
theorem QeT:∀(C:List Fr)(T T':BT),T.idx=T'.idx->(plug C T).idx=(plug C T').idx
 | [],T,T',h=>h
 | f::C,T,T',_=>QeT C (f.fill T) (f.fill T') rfl
theorem QjV:∀(C:List Fr)(T:BT)(h:Nat),C≠[]->(plug C T).idx∈(Xd C h).map Prod.fst
 | [],T,h,hne=>absurd rfl hne
 | [f],T,h,_=>by
  show f.i∈_;simp[Xd,Fr.nodes]
 | f::g::C,T,h,_=>by
  have:=QjV (g::C) (f.fill T) f.i (by simp);show(plug (g::C) (f.fill T)).idx∈_;rw[Xd,List.map_append];exact List.mem_append_right _ this
theorem BT.idx_mem(T:BT):T.idx∈T.nodes.map Prod.fst:=by
 cases T with
 | nd i es ks=>
  rw[BT.nodes];exact List.mem_cons_self ..
theorem Qo5{ns:List Nd}{C:List Fr}{T:BT}(h:Q5 ns (plug C T))(hC:C≠[]):T.idx≠(plug C T).idx:=λe=>by
 have h1:=h.plug.nd;rw[List.map_append]at h1;exact(List.nodup_append.1 h1).2.2 _ (e▸QjV C T T.idx hC) _ T.idx_mem rfl
theorem Qq6{ns:List Nd}{C:List Fr}{i:Nat}{es:List TEnt}{ks:List BT}(h:Q5 ns (plug C (.nd i es ks)))(es':List TEnt):Q5 (esN ns i es') (plug C (.nd i es' ks)):=by
 refine Q5.of_plug ?_;have h1:=h.plug;rw[BT.nodes]at h1 ⊢;have h2:=(h1.perm List.perm_middle).es es';exact h2.perm List.perm_middle.symm
theorem QhE(ns:List Nd):∀f i j,i<=j->j<Qdf ns f i->(nth ns j).us=true
 | 0,i,j,h,h2=>by
  rw[Qdf]at h2;omega
 | f+1,i,j,h,h2=>by
  rw[Qdf]at h2;split at h2
  ·split at h2
   ·rcases Nat.eq_or_lt_of_le h with rfl|h3
    ·assumption
    ·exact QhE ns f (i+1) j h3 h2
   ·omega
  ·omega
theorem QiH{ns:List Nd}{j:Nat}(h:j<Xu ns)(hl:j<ns.length):(nth ns j).us=true:=by
 have h1:=Qb4 (l:=ns.map λn=>!n.us) h;rw[Yy (d:=default) hl]at h1;show(ns.getD j default).us=true
 simpa using h1
theorem QoK{ns:List Nd}(h0:0<ns.length)(hu:(nth ns 0).us=true)(hb:∀i,i<ns.length->(nth ns i).us=false->nth ns i=⟨false,[],[]⟩):QcU ns=QC ns:=by
 have hle:Xu ns<=ns.length:=by
  have:=Qer (ns.map λn=>!n.us);rw[List.length_map]at this;exact this
 have hfl:Qg1 ns<=ns.length:=Qjr ns _ 1 h0;have hge:1<=Qg1 ns:=QkB ns _ 1
 have e:Qg1 ns=Xu ns:=by
  rcases Nat.lt_trichotomy (Qg1 ns) (Xu ns)with h|h|h
  ·have h1:=Qjp ns ns.length 1 (by show Qg1 ns<_;omega) om;have h2:=QiH (ns:=ns) h om;rw[show Qdf ns ns.length 1=Qg1 ns from rfl,h2]at h1;cases h1
  ·exact h
  ·have h1:=Qdv (ns:=ns) om
   have h2:1<=Xu ns:=by
    rcases Nat.eq_zero_or_pos (Xu ns)with h3|h3
    ·rw[h3,hu]at h1;cases h1
    ·exact h3
   have h3:=QhE ns ns.length 1 (Xu ns) h2 h;rw[h3]at h1;cases h1
 unfold QcU QC;rw[e];split
 ·rename_i h;unfold usN;rw[hb _ h (Qdv h)]
 ·rfl
theorem Q5.blank{ns:List Nd}{T:BT}(h:Q5 ns T){i:Nat}(hi:i<ns.length)(hu:(nth ns i).us=false):nth ns i=⟨false,[],[]⟩:=by
 by_cases hm:i∈T.nodes.map Prod.fst
 ·obtain⟨p,hp,rfl⟩:=List.mem_map.1 hm;have h1:=RepN.at_ (i:=p.1) (x:=p.2) h hp;rw[h1.2,Qat T p hp]at hu;cases hu
 ·exact h.rest i hi hm
theorem Q5.root{ns:List Nd}{T:BT}(h:Q5 ns T):T.idx<ns.length/\nth ns T.idx=⟨true,T.es,QU T.ks⟩:=Q5.at_ (C:=[]) h
theorem Q5.frs{ns:List Nd}{T:BT}(h:Q5 ns T)(h0:T.idx=0):QcU ns=QC ns:=by
 have h1:=h.root;rw[h0]at h1;exact QoK h1.1 (by rw[h1.2]) λi hi hu=>h.blank hi hu
def Qj7(co:Int)(key:List UInt8)(C:List Fr):Prop:=∀f∈C,f.l.length=plc co f.es key/\¬fnd co f.es key=true
theorem QhY{α:Type}[Inhabited α](l:List α)(x:α)(r:List α):nth (l++x::r) l.length=x:=QH (by simp)
theorem Qnt{α:Type}(l:List α)(x d:α)(r:List α):(l++x::r).getD l.length d=x:=by simp
theorem BT.eta(T:BT):T=.nd T.idx T.es T.ks:=by cases T;rfl
theorem Qmd{α:Type}[Inhabited α]{ks:List α}{p:Nat}(h:p<ks.length):ks=ks.take p++nth ks p::ks.drop (p+1):=by
 have e:nth ks p=ks[p]:=QH (List.getElem?_eq_getElem h);rw[e,<-List.drop_eq_getElem_cons h,List.take_append_drop]
theorem desc{co:Int}{ns:List Nd}{key:List UInt8}{lo hi rt:Nat}:∀(f d:Nat)(C:List Fr)(T:BT),Q5 ns (plug C T)->ZO lo hi rt d C->Bel lo hi d T->((C=[]->T.es.length<=rt)/\(C≠[]->lo<=T.es.length/\T.es.length<=hi))->d<f ->
  ∃D T' d',plug D T'=T/\ZO lo hi rt d' (D++C)/\Bel lo hi d' T'/\((D++C=[]->T'.es.length<=rt)/\(D++C≠[]->lo<=T'.es.length/\T'.es.length<=hi))/\d'+D.length=d /\
   (ZM co ns key f T.idx).1=(D.map Fr.i).reverse++[T'.idx]/\(ZM co ns key f T.idx).2=(plc co T'.es key,fnd co T'.es key)/\(fnd co T'.es key=true\/T'.ks=[])/\Qj7 co key D
 | 0,d,C,T,_,_,_,_,h=>absurd h (Nat.not_lt_zero _)
 | f+1,d,C,T,hR,hC,hB,hb,hd=>by
  have hat:=hR.at_;have hes:(nth ns T.idx).es=T.es:=by rw[hat.2]
  have hcs:(nth ns T.idx).cs=QU T.ks:=by rw[hat.2]
  rw[ZM,hes,hcs,Xi]
  by_cases h1:fnd co T.es key=true\/T.ks.length=0
  ·rw[if_pos h1];exact⟨[],T,d,rfl,hC,hB,hb,by simp,rfl,rfl,h1.imp id λh=>List.eq_nil_of_length_eq_zero h,λf hf=>(nomatch hf)⟩
  ·rw[if_neg h1];have hk:¬T.ks.length=0:=λh=>h1 (.inr h)
   obtain⟨d',rfl⟩:∃d',d=d'+1:=by
    cases d with
    | zero=>exact absurd (show T.ks.length=0 by rw[show T.ks=[]from hB];rfl) hk
    | succ d'=>exact⟨d',rfl⟩
   have hp:plc co T.es key<T.ks.length:=by
    have:=Qbv co key T.es;have:=hB.1;omega
   have hsp:=Qmd hp;generalize hl:T.ks.take (plc co T.es key)=l at hsp;generalize hr:T.ks.drop (plc co T.es key+1)=r at hsp;generalize hK:nth T.ks (plc co T.es key)=K at hsp;have hll:l.length=plc co T.es key:=by rw[<-hl,List.length_take];omega
   have hT:T=Fr.fill ⟨T.idx,T.es,l,r⟩ K:=by
    have:=T.eta;rw[hsp]at this;exact this
   have hbal:∀k∈T.ks,Bal lo hi d' k:=hB.2;have hBK:Bal lo hi d' K:=hbal K (by rw[hsp];simp)
   have hci:((QU T.ks).getD (plc co T.es key) 0).toNat=K.idx:=by
    rw[hsp,QeA,Zy,<-hll,<-Xi l,Qnt];rfl
   rw[hci]
   have hctx:ZO lo hi rt d' (⟨T.idx,T.es,l,r⟩::C):=⟨⟨λk hk=>hbal k (by rw[hsp];simp[hk]),λk hk=>hbal k (by rw[hsp];simp[hk])⟩,by
    show l.length+r.length=T.es.length;have h9:=hB.1;rw[hsp]at h9;simp only[List.length_append,List.length_cons]at h9;omega,hb,hC⟩
   have hb2:=Zq.1 hBK
   obtain⟨D,T',d9,e1,e2,e3,e4,e5,e6,e7,e8,e9⟩:=desc f d' (⟨T.idx,T.es,l,r⟩::C) K (by
    show Q5 ns (plug C (Fr.fill _ K));rw[<-hT];exact hR) hctx hb2.1 ⟨λh=>(nomatch h),λ_=>hb2.2⟩ om
   refine⟨D++[⟨T.idx,T.es,l,r⟩],T',d9,?_,?_,e3,?_,?_,?_,e7,e8,λg hg=>?_⟩
   ·rw[QnR,e1];exact hT.symm
   ·rw[List.append_assoc];exact e2
   ·rw[List.append_assoc];exact e4
   ·simp only[List.length_append,List.length_singleton];omega
   ·rw[e6];simp
   ·rcases List.mem_append.1 hg with hg|hg
    ·exact e9 g hg
    ·rcases List.mem_singleton.1 hg;exact⟨hll,λh=>h1 (.inl h)⟩
theorem Qe2{k:BT}:∀{ks:List BT},k∈ks->k.nodes.length<=(nodesL ks).length
 | [],h=>(nomatch h)
 | x::ks,h=>by
  rw[nodesL,List.length_append];rcases List.mem_cons.1 h with rfl|h
  ·omega
  ·have:=Qe2 (ks:=ks) h;omega
theorem Qf2(T:BT):T.nodes.length=(nodesL T.ks).length+1:=by
 cases T with
 | nd i es ks=>rw[BT.nodes,List.length_cons];rfl
theorem QhI{lo hi:Nat}:∀{d:Nat}{T:BT},Bel lo hi d T->d+1<=T.nodes.length
 | 0,T,_=>by
  rw[Qf2];omega
 | d+1,T,h=>by
  obtain⟨k,ks,e⟩:∃k ks,T.ks=k::ks:=by
   cases hk:T.ks with
   | nil=>
    have:=h.1;rw[hk]at this;simp at this
   | cons k ks=>exact⟨k,ks,rfl⟩
  have hm:k∈T.ks:=by rw[e];exact List.mem_cons_self ..
  have h1:=QhI (Zq.1 (h.2 k hm)).1;have h2:=Qe2 hm;rw[Qf2];omega
theorem Q5.nlen{ns:List Nd}{T:BT}(h:Q5 ns T):T.nodes.length<=ns.length:=by
 have:=Qex ns.length (T.nodes.map Prod.fst) h.nd λx hx=>by
  obtain⟨p,hp,rfl⟩:=List.mem_map.1 hx;exact RepN.lt h hp
 rwa[List.length_map]at this
section
variable{ns:List Nd}{mo:Int}{f:Fr}{C:List Fr}{i:Nat}{es:List TEnt}{ks:List BT}
theorem QiU(h:Q5 ns (plug (f::C) (.nd i es ks))):f.i<(splA mo ns i).length/\nth (splA mo ns i) f.i=⟨true,f.es,QU f.l++(i:Int)::QU f.r⟩/\(i:Int) ∉ QU f.l:=by
 have h1:=(Qho (mo:=mo) h).2;have hk:=QfZ (mo:=mo) h
 have hm:(f.i,(⟨true,f.es,QU f.l++(i:Int)::QU f.r⟩:Nd))∈((i,(⟨true,es.take (Qy mo),(QU ks).take (Qy mo+1)⟩:Nd))::((QC ns).1,⟨true,es.drop (Qy mo+1),(QU ks).drop (Qy mo+1)⟩)::(Xd (f::C) i++nodesL ks)):=by
  refine List.mem_cons_of_mem _ (List.mem_cons_of_mem _ (List.mem_append_left _ ?_));rw[Xd,Fr.nodes];exact List.mem_cons_self ..
 have h2:=h1.at_ hm;refine⟨h2.1,h2.2,λhi=>?_⟩;have h3:=(List.pairwise_flatMap.1 hk).1 _ hm;exact(List.nodup_append.1 h3).2.2 _ hi _ (List.mem_cons_self ..) rfl
theorem QjJ(h:Q5 ns (plug (f::C) (.nd i es ks)))(h0:(plug (f::C) (.nd i es ks)).idx=0):QkZ mo ns f.i i=Qah mo ns i:=by
 have hA:Qbx mo ns i=splA mo ns i:=by
  unfold Qbx splA;rw[h.frs h0]
 have h1:=QiU (mo:=mo) h;have h2:=(Qax (mo:=mo) h).2.1;unfold QkZ Qah;rw[hA,h2,h1.2.1,h.frs h0];simp only[];have h3:=QgD (B:=QU f.r) h1.2.2;unfold ixR;rw[h3,if_pos (by simp),Xi]
theorem QnI{lo hi rt d:Nat}(h:Q5 ns (plug (f::C) (.nd i es ks)))(hC:ZO lo hi rt d (f::C))(hB:Bel lo hi d (.nd i es ks))(hmo:0<=mo/\mo<=1000)(hlen:ns.length<=900)(hsm:Sm 900 ns)(hes:Qy mo<es.length):SpOk mo ns i:=by
 have hat:i<ns.length/\nth ns i=⟨true,es,QU ks⟩:=Q5.at_ (T:=.nd i es ks) h;have h1:=QiU (mo:=mo) h;have h2:=(Qax (mo:=mo) h).2.1;have h3:=hC.2.1;refine⟨hmo,hlen,hsm,hat.1,by rw[hat.2],by rw[hat.2];exact hes,?_,?_,?_,?_⟩
 ·rw[hat.2];rcases hB.cs with hk|hk
  ·left;show(QU ks).length=0;rw[show ks=[]from hk];rfl
  ·right;have:ks.length=es.length+1:=hk;show _<=(QU ks).length;rw[Xi];omega
 ·rw[h2];exact h1.1
 ·rw[h2];simp only[];rw[h1.2.1];show f.l.length<=f.es.length;omega
 ·rw[h2];simp only[];rw[h1.2.1];simp only[List.length_append,List.length_cons,Xi];omega
theorem QmN(h:Q5 ns (plug (f::C) (.nd i es ks)))(h0:(plug (f::C) (.nd i es ks)).idx=0)(hs:SpOk mo ns i):SpROk mo ns f.i i:=by
 have hA:Qbx mo ns i=splA mo ns i:=by
  unfold Qbx splA;rw[h.frs h0]
 have h1:=QiU (mo:=mo) h;have h2:=(Qax (mo:=mo) h).2.1;have h3:=QgD (B:=QU f.r) h1.2.2
 have hx:ixR (nth (Qbx mo ns i) f.i).cs (i:Int)=f.l.length:=by
  rw[hA,h1.2.1];unfold ixR;simp only[];rw[h3,if_pos (by simp),Xi]
 have hp:f.i<ns.length:=by
  have:=h.plug;exact this.lt (p:=(f.i,⟨true,f.es,QU f.l++(i:Int)::QU f.r⟩)) (List.mem_append_left _ (by rw[Xd,Fr.nodes];exact List.mem_cons_self ..))
 refine⟨hs.mo0,hs.len,hs.sm,hs.lt,hs.us,hs.es,hs.cs,hp,?_,?_⟩
 ·rw[hx,hA,h1.2.1];have:=hs.parE;rw[h2]at this;simp only[]at this;rw[h1.2.1]at this;exact this
 ·rw[hx,hA,h1.2.1];simp only[List.length_append,List.length_cons,Xi];omega
end
def Qgr(rt:Nat)(T:BT):Prop:=T.es=[]->∀k,T.ks=[k]->rt<k.es.length
def QfT(rt:Nat):List Fr->Nat->Prop
 | [],_=>True
 | [f],n=>f.es=[]->rt<n
 | f::g::C,_=>QfT rt (g::C) f.es.length
theorem QfT.mono{rt:Nat}:∀{C:List Fr}{n m:Nat},QfT rt C n->n<=m->QfT rt C m
 | [],_,_,_,_=>trivial
 | [f],n,m,h,hm=>λe=>Nat.lt_of_lt_of_le (h e) hm
 | f::g::C,_,_,h,_=>h
theorem Qjq{lo hi rt:Nat}:∀{D:List Fr}{d:Nat}{T:BT},ZO lo hi rt d D->Qgr rt (plug D T)->QfT rt D T.es.length
 | [],_,T,_,_=>trivial
 | [f],_,T,hC,h=>λe=>by
  have h1:=hC.2.1;rw[e]at h1;have hl:f.l=[]:=List.eq_nil_of_length_eq_zero (by simp only[List.length_nil]at h1;omega);have hr:f.r=[]:=List.eq_nil_of_length_eq_zero (by simp only[List.length_nil]at h1;omega);refine h e T ?_;show f.l++T::f.r=[T];rw[hl,hr];rfl
 | f::g::C,d,T,hC,h=>Qjq (D:=g::C) (T:=f.fill T) hC.2.2.2 h
theorem Qhz{P A:List Nat}{x:Nat}(h:P.take (A.length+1)=(x::A).reverse):nth P A.length=x/\P.take A.length=A.reverse:=by
 rw[List.reverse_cons]at h;constructor
 ·apply QH
  have h1:(P.take (A.length+1))[A.length]?=some x:=by
   rw[h,List.getElem?_append_right (by simp)];simp
  rw[List.getElem?_take]at h1
  simpa using h1
 ·have h1:(P.take (A.length+1)).take A.length=A.reverse:=by
   rw[h,List.take_append_of_le_length (by simp),List.take_of_length_le (by simp)]
  rw[List.take_take]at h1;rw[<-h1];congr 1;omega
theorem Ql0{mo:Int}{lo hi d i o:Nat}{es:List TEnt}{ks:List BT}(hmo:mo=(hi:Int))(hlo:lo=hi/2)(hB:Bel lo hi d (.nd i es ks))(hl:es.length=hi+1) :
  Bal lo hi d (.nd i (es.take (Qy mo)) (ks.take (Qy mo+1)))/\Bal lo hi d (.nd o (es.drop (Qy mo+1)) (ks.drop (Qy mo+1))):=by
 have hm:Qy mo=(hi+1)/2:=by unfold Qy;omega
 rw[Zq,Zq];have e1:lo<=(es.take (Qy mo)).length/\(es.take (Qy mo)).length<=hi:=by rw[List.length_take];omega
 have e2:lo<=(es.drop (Qy mo+1)).length/\(es.drop (Qy mo+1)).length<=hi:=by rw[List.length_drop];omega
 refine⟨⟨?_,e1⟩,⟨?_,e2⟩⟩
 ·cases d with
  | zero=>
   show ks.take _=[];rw[show ks=[]from hB,List.take_nil]
  | succ d=>
   have h1:ks.length=es.length+1:=hB.1;refine⟨?_,λk hk=>hB.2 k (List.mem_of_mem_take hk)⟩;show(ks.take (Qy mo+1)).length=(es.take (Qy mo)).length+1;rw[List.length_take,List.length_take];omega
 ·cases d with
  | zero=>
   show ks.drop _=[];rw[show ks=[]from hB,List.drop_nil]
  | succ d=>
   have h1:ks.length=es.length+1:=hB.1;refine⟨?_,λk hk=>hB.2 k (List.mem_of_mem_drop hk)⟩;show(ks.drop (Qy mo+1)).length=(es.drop (Qy mo+1)).length+1;rw[List.length_drop,List.length_drop];omega
theorem Qgf{mo:Int}{lo hi rt d i o:Nat}{f:Fr}{C:List Fr}{es:List TEnt}{ks:List BT}{up:TEnt}(hmo:mo=(hi:Int))(hlo:lo=hi/2)(hC:ZO lo hi rt d (f::C))(hB:Bel lo hi d (.nd i es ks))(hl:es.length=hi+1) :
  Bel lo hi (d+1) (.nd f.i (QL f.es f.l.length up) (f.l++.nd i (es.take (Qy mo)) (ks.take (Qy mo+1))::.nd o (es.drop (Qy mo+1)) (ks.drop (Qy mo+1))::f.r)):=by
 have h1:=Ql0 (o:=o) hmo hlo hB hl;have h2:=hC.2.1;refine⟨?_,λk hk=>?_⟩
 ·show(f.l++_::_::f.r).length=(QL f.es f.l.length up).length+1;rw[Zt om];simp only[List.length_append,List.length_cons];omega
 ·rcases List.mem_append.1 hk with hk|hk
  ·exact hC.1.1 k hk
  ·rcases List.mem_cons.1 hk with rfl|hk
   ·exact h1.1
   ·rcases List.mem_cons.1 hk with rfl|hk
    ·exact h1.2
    ·exact hC.1.2 k hk
theorem Qfk{mo:Int}{lo hi rt d i o:Nat}{f:Fr}{C:List Fr}{es:List TEnt}{ks:List BT}(hC:ZO lo hi rt d (f::C))(hB:Bel lo hi d (.nd i es ks))(hl:Qy mo<es.length) :
  (BT.nd f.i (QL f.es f.l.length (nth es (Qy mo))) (f.l++.nd i (es.take (Qy mo)) (ks.take (Qy mo+1))::.nd o (es.drop (Qy mo+1)) (ks.drop (Qy mo+1))::f.r)).flat=(f.fill (.nd i es ks)).flat:=by
 rw[BT.flat,QkX hC.2.1,BT.flat,BT.flat,QdR (Qy mo) es ks hl hB.cs];show _=(BT.nd f.i f.es (f.l++BT.nd i es ks::f.r)).flat;rw[BT.flat,QbC _ _ _ _ hC.2.1,BT.flat]
def Xw(ns:List Nd):Prop:=(nth ns (ns.length-1)).us=true
theorem Qm9{ns:List Nd}{i:Nat}{x:Nd}(hx:x.us=(nth ns i).us)(k:Nat):(nth (ns.set i x) k).us=(nth ns k).us:=by
 rw[QaO];split
 ·rename_i h;rw[hx,h.1]
 ·rfl
theorem QpD(ns:List Nd)(i:Nat)(es:List TEnt)(k:Nat):(nth (esN ns i es) k).us=(nth ns k).us:=Qm9 (x:={nth ns i with es:=es}) rfl k
theorem Qpv(ns:List Nd)(i:Nat)(cs:List Int)(k:Nat):(nth (csN ns i cs) k).us=(nth ns k).us:=Qm9 (x:={nth ns i with cs:=cs}) rfl k
theorem Xw.es{ns:List Nd}(h:Xw ns)(i:Nat)(es:List TEnt):Xw (esN ns i es):=by
 unfold Xw;rw[Z3,QpD];exact h
theorem Xw.cs{ns:List Nd}(h:Xw ns)(i:Nat)(cs:List Int):Xw (csN ns i cs):=by
 unfold Xw;rw[QbZ,Qpv];exact h
theorem Xw.fre{ns:List Nd}(h:Xw ns):Xw (QC ns).2:=by
 unfold QC;split
 ·unfold Xw usN;simp only[List.length_set];rw[QaO];split
  ·rfl
  ·exact h
 ·unfold Xw;simp only[List.length_append,List.length_singleton,Nat.add_sub_cancel];rw[QhY]
theorem Xw.spl{ns:List Nd}(h:Xw ns)(mo:Int)(i:Nat):Xw (Qah mo ns i):=by
 unfold Qah addP;refine Xw.cs (Xw.es ?_ _ _) _ _;unfold splA;split
 ·exact(h.fre.es _ _).es _ _
 ·exact(((h.fre.es _ _).es _ _).cs _ _).cs _ _
theorem Xw.low{ns:List Nd}(h:Xw ns):Xw (XN ns).2:=by
 unfold XN;exact(((h.fre.es _ _).cs _ _).es _ _).cs _ _
structure Grown(mo:Int)(lo hi rt:Nat)(P:List Nat)(m k:Nat)(ns:List Nd)(W:List Nat)(fl:List TEnt):Prop where
 ok:Qca mo ns W
 okR:Qi7 mo P k ns
 same:Qgk mo P k ns=XM mo ns W
 tree:∃T d,Q5 (XM mo ns W) T/\T.idx=0/\Bel lo hi d T/\T.es.length<=rt+1/\Qgr rt T/\T.flat=fl
 sm:Sm (m+k) (XM mo ns W)
 len:ns.length<=(XM mo ns W).length/\(XM mo ns W).length<=ns.length+k
 last:Xw (XM mo ns W)
theorem QgB{mo:Int}{lo hi rt:Nat}(hmo:mo=(hi:Int))(hlo:lo=hi/2)(hhi:hi<=900)(hrt:rt<=hi)(P:List Nat):∀(C:List Fr)(d m:Nat)(ns:List Nd)(T:BT),Q5 ns (plug C T)->(plug C T).idx=0->ZO lo hi rt d C->Bel lo hi d T ->
  ((C=[]->T.es.length<=rt+1)/\(C≠[]->lo<=T.es.length/\T.es.length<=hi+1))->QfT rt C T.es.length->(C=[]->Qgr rt T)->Sm m ns->m+C.length<=899->ns.length+C.length<=899->Xw ns->P.take (C.length+1)=(T.idx::C.map Fr.i).reverse ->
  Grown mo lo hi rt P m C.length ns (T.idx::C.map Fr.i) (plug C T).flat
 | [],d,m,ns,T,hR,h0,hC,hB,hb,hg,hn,hs,hm,hl,hu,hP=>by
  have h1:T.idx=0:=h0;have hat:=Q5.at_ (C:=[]) hR
  have e:XM mo ns [T.idx]=ns:=by
   show QaC mo ns T.idx=ns;unfold QaC;rw[if_neg (λh=>om)]
  have hroot:Q5 ns T:=hR;refine⟨⟨⟨hat.1,λh=>om⟩,trivial⟩,trivial,e.symm,?_,?_,?_,?_⟩
  ·show∃T' d',Q5 (XM mo ns [T.idx]) T'/\_;rw[e];exact⟨T,d,hroot,h1,hB,hb.1 rfl,hn rfl,rfl⟩
  ·show Sm m (XM mo ns [T.idx]);rw[e];exact hs
  ·show _<=(XM mo ns [T.idx]).length/\(XM mo ns [T.idx]).length<=_;rw[e];exact⟨Nat.le_refl _,Nat.le_refl _⟩
  ·show Xw (XM mo ns [T.idx]);rw[e];exact hu
 | f::C,d,m,ns,.nd i es ks,hR,h0,hC,hB,hb,hg,hn,hs,hm,hl,hu,hP=>by
  have hne:i≠0:=by
   have:=Qo5 hR (by simp);rw[h0]at this;exact this
  have hat:i<ns.length/\nth ns i=⟨true,es,QU ks⟩:=Q5.at_ (T:=.nd i es ks) hR;have hb1:lo<=es.length/\es.length<=hi+1:=hb.2 (by simp);have hlen2:(C.map Fr.i).length=C.length:=by simp
  have hP1:=Qhz (A:=f.i::C.map Fr.i) (x:=i) (by
   rw[List.length_cons,hlen2];exact hP)
  rw[List.length_cons,hlen2]at hP1
  have hP2:=Qhz (A:=C.map Fr.i) (x:=f.i) (by
   rw[hlen2];exact hP1.2)
  rw[hlen2]at hP2;have hCl:(f::C).length=C.length+1:=rfl;have hf:=hC.2.2.1
  have hgC:∀n,f.es.length<=n->QfT rt C n:=λn hle=>by
   cases C with
   | nil=>trivial
   | cons g C'=>exact QfT.mono (show QfT rt (g::C') f.es.length from hg) hle
  have hlt9:(nth ns (nth P (C.length+1))).es.length=es.length:=by rw[hP1.1,hat.2]
  by_cases hbig:es.length<=hi
  ·have e1:QaC mo ns i=ns:=by
    unfold QaC;rw[if_neg (λh=>by rw[hat.2]at h;have:=h.2;simp only[]at this;omega)]
   have hno:¬mo<((nth ns (nth P (C.length+1))).es.length:Int):=by rw[hlt9];omega
   have ih:=QgB hmo hlo hhi hrt P C (d+1) m ns (f.fill (.nd i es ks)) hR h0 hC.2.2.2 (QlV hC (Zq.2 ⟨hB,hb1.1,hbig⟩)) ⟨λh=>Nat.le_succ_of_le (hf.1 h),λh=>⟨(hf.2 h).1,Nat.le_succ_of_le (hf.2 h).2⟩⟩ (hgC _ (Nat.le_refl _)) (λh=>by
    subst h;intro e k hk;have h9:f.l++BT.nd i es ks::f.r=[k]:=hk;cases hfl:f.l with
    | nil=>
     rw[hfl]at h9;have:BT.nd i es ks=k:=(List.cons.inj h9).1;rw[<-this];exact hg e
    | cons a b=>
     rw[hfl]at h9;simp at h9) hs (by rw[hCl]at hm;omega) (by rw[hCl]at hl;omega) hu hP1.2
   have eW:XM mo ns (i::(f::C).map Fr.i)=XM mo ns ((f.fill (.nd i es ks)).idx::C.map Fr.i):=by
    show XM mo (QaC mo ns i) _=_;rw[e1];rfl
   refine⟨⟨⟨hat.1,λ_(h:mo<((nth ns i).es.length:Int))=>by rw[hat.2]at h;simp only[]at h;omega⟩,?_⟩,⟨⟨by rw[hP1.1];exact hat.1,λh=>absurd h hno⟩,?_⟩,?_,?_,?_,?_,?_⟩
   ·rw[show QaC mo ns (BT.nd i es ks).idx=ns from e1];exact ih.ok
   ·rw[if_neg hno];exact ih.okR
   ·show Qgk mo P C.length (if _ then _ else _)=XM mo ns (i::(f::C).map Fr.i);rw[if_neg hno,eW];exact ih.same
   ·show∃T d,Q5 (XM mo ns (i::(f::C).map Fr.i)) T/\_;rw[eW];exact ih.tree
   ·show Sm _ (XM mo ns (i::(f::C).map Fr.i));rw[eW];exact ih.sm.mono (by rw[hCl];omega)
   ·show _<=(XM mo ns (i::(f::C).map Fr.i)).length/\(XM mo ns (i::(f::C).map Fr.i)).length<=_;rw[eW];have:=ih.len;rw[hCl];omega
   ·show Xw (XM mo ns (i::(f::C).map Fr.i));rw[eW];exact ih.last
  ·have hle:es.length=hi+1:=om
   have hmE:Qy mo<es.length:=by unfold Qy;omega
   have hyes:mo<((nth ns (nth P (C.length+1))).es.length:Int):=by rw[hlt9];omega
   have e1:QaC mo ns i=Qah mo ns i:=by
    unfold QaC;rw[if_pos ⟨om,by rw[hat.2];simp only[];omega⟩]
   have hok:=QnI hR hC hB om om (hs.mono om) hmE;have hokR:=QmN hR h0 hok;have hsR:=QjJ (mo:=mo) hR h0;have hsp:=(Qax (mo:=mo) hR).2.2;have hsl:=Qip mo ns i;generalize hup:nth es (Qy mo)=up at hsp;have hflat:=Qfk (mo:=mo) (o:=(QC ns).1) hC hB hmE;rw[hup]at hflat;have hbl:=Qgf (o:=(QC ns).1) (up:=up) hmo hlo hC hB hle;have hil:(QL f.es f.l.length up).length=f.es.length+1:=Zt (by have:=hC.2.1;omega);generalize hT2:BT.nd f.i (QL f.es f.l.length up) (f.l++BT.nd i (es.take (Qy mo)) (ks.take (Qy mo+1))::BT.nd (QC ns).1 (es.drop (Qy mo+1)) (ks.drop (Qy mo+1))::f.r)=T2 at hsp hflat hbl;have hT2i:T2.idx=f.i:=by rw[<-hT2];rfl
   have hT2e:T2.es.length=f.es.length+1:=by rw[<-hT2];exact hil
   have ih:=QgB hmo hlo hhi hrt P C (d+1) (m+1) (Qah mo ns i) T2 hsp (by
    rw[QeT C T2 (f.fill (.nd i es ks)) hT2i];exact h0) hC.2.2.2 hbl ⟨λh=>by rw[hT2e];have:=hf.1 h;omega,λh=>by rw[hT2e];have:=hf.2 h;omega⟩ (hgC _ om) (λh e=>by rw[e]at hT2e;simp at hT2e) (hs.spl mo i) (by rw[hCl]at hm;omega) (by rw[hCl]at hl;omega) (hu.spl mo i) (by rw[hT2i];exact hP1.2)
   have eW:XM mo ns (i::(f::C).map Fr.i)=XM mo (Qah mo ns i) (T2.idx::C.map Fr.i):=by
    show XM mo (QaC mo ns i) _=_;rw[e1,hT2i];rfl
   have hpf:(plug C T2).flat=(plug (f::C) (.nd i es ks)).flat:=by
    show _=(plug C (f.fill (.nd i es ks))).flat;rw[Zz hC.2.2.2,Zz hC.2.2.2,hflat]
   refine⟨⟨⟨hat.1,λ_ _=>hok⟩,?_⟩,⟨⟨by rw[hP1.1];exact hat.1,λ_=>by rw[hP1.1,hP2.1];exact hokR⟩,?_⟩,?_,?_,?_,?_,?_⟩
   ·rw[show QaC mo ns (BT.nd i es ks).idx=Qah mo ns i from e1];have:=ih.ok;rw[hT2i]at this;exact this
   ·rw[if_pos hyes,hP1.1,hP2.1,hsR];exact ih.okR
   ·show Qgk mo P C.length (if _ then _ else _)=XM mo ns (i::(f::C).map Fr.i);rw[if_pos hyes,hP1.1,hP2.1,hsR,eW];exact ih.same
   ·show∃T d,Q5 (XM mo ns (i::(f::C).map Fr.i)) T/\_;rw[eW,<-hpf];exact ih.tree
   ·show Sm _ (XM mo ns (i::(f::C).map Fr.i));rw[eW];exact ih.sm.mono (by rw[hCl];omega)
   ·show _<=(XM mo ns (i::(f::C).map Fr.i)).length/\(XM mo ns (i::(f::C).map Fr.i)).length<=_;rw[eW];have:=ih.len;rw[hCl];omega
   ·show Xw (XM mo ns (i::(f::C).map Fr.i));rw[eW];exact ih.last
def Srt(co:Int)(l:List TEnt):Prop:=l.Pairwise λa b=>QS co a.key b.key<0
theorem Qdu{co:Int}{a b:List UInt8}(h:¬QS co a b<0)(h2:QS co a b≠0):QS co b a<0:=by
 have:=Zw co a b;omega
theorem Srt.asc{co:Int}{l:List TEnt}(h:Srt co l):Asc co l:=λk hk=>by
 have:=List.pairwise_iff_getElem.1 h k (k+1) om hk om;rw[show nth l k=l[k]from QH (List.getElem?_eq_getElem om),show nth l (k+1)=l[k+1]from QH (List.getElem?_eq_getElem hk)];exact this
theorem Qhs{co:Int}{key:List UInt8}:∀{A l:List TEnt},(∀x∈A,QS co x.key key<0)->plc co (A++l) key=A.length+plc co l key
 | [],l,_=>by simp
 | a::A,l,h=>by
  rw[List.cons_append,plc,if_pos (h a (List.mem_cons_self ..)),Qhs λx hx=>h x (List.mem_cons_of_mem _ hx),List.length_cons];omega
theorem Qh1{co:Int}{key:List UInt8}:∀{l B:List TEnt},(∀x∈B,QS co key x.key<0)->plc co (l++B) key=plc co l key
 | [],[],_=>rfl
 | [],b::B,h=>by
  have h1:=h b (List.mem_cons_self ..);have h2:=Zw co b.key key;show plc co (b::B) key=0;rw[plc,if_neg om]
 | a::l,B,h=>by
  rw[List.cons_append,plc,plc,Qh1 h]
theorem Qk9{α:Type}{A l B:List α}{p:Nat}{x:α}(hp:p<=l.length):QL (A++(l++B)) (A.length+p) x=A++(QL l p x++B):=by
 unfold QL;rw[List.take_length_add_append,List.drop_length_add_append,List.take_append_of_le_length hp,List.drop_append_of_le_length hp];simp only[List.append_assoc,List.cons_append]
def QiB(co:Int)(l:List TEnt)(key:List UInt8):Prop:=∃y∈l,QS co y.key key=0
theorem QfJ{co:Int}{key:List UInt8}:∀{l:List TEnt},Srt co l->(QiB co l key ↔ fnd co l key=true)
 | [],_=>by simp[QiB,fnd]
 | y::l,h=>by
  have hp:=List.pairwise_cons.1 h;have ih:=QfJ (key:=key) hp.2;unfold fnd at ih ⊢;rw[plc]
  by_cases h1:QS co y.key key<0
  ·rw[if_pos h1];have e:nth (y::l) (plc co l key+1)=nth l (plc co l key):=rfl;rw[e,List.length_cons]
   have hh:QiB co (y::l) key ↔ QiB co l key:=by
    constructor
    ·rintro⟨z,hz,h2⟩;rcases List.mem_cons.1 hz with rfl|hz
     ·omega
     ·exact⟨z,hz,h2⟩
    ·rintro⟨z,hz,h2⟩;exact⟨z,List.mem_cons_of_mem _ hz,h2⟩
   rw[hh,ih];simp
  ·rw[if_neg h1];have e:nth (y::l) 0=y:=rfl;rw[e];simp only[List.length_cons,Nat.zero_lt_succ,decide_true,Bool.true_and,decide_eq_true_eq];constructor
   ·rintro⟨z,hz,h2⟩;rcases List.mem_cons.1 hz with rfl|hz
    ·exact h2
    ·exfalso;have h3:=hp.1 z hz
     by_cases h4:QS co y.key key=0
     ·have h5:=QgP.1 h4;have h6:=QgP.1 h2;have h7:=QgP.2 (h5.trans h6.symm);omega
     ·have h5:=Qdu h1 h4;have h6:=Y3 h5 h3;have h7:=Zw co z.key key;omega
   ·intro h2;exact⟨y,List.mem_cons_self ..,h2⟩
theorem QjN{co:Int}{x:TEnt}:∀{l:List TEnt},Srt co l->¬QiB co l x.key->Srt co (QL l (plc co l x.key) x)
 | [],_,_=>by
  show Srt co [x];simp[Srt]
 | y::l,h,hn=>by
  have hp:=List.pairwise_cons.1 h;have ih:=QjN (x:=x) hp.2 λ⟨z,hz,h2⟩=>hn ⟨z,List.mem_cons_of_mem _ hz,h2⟩;rw[plc]
  by_cases h1:QS co y.key x.key<0
  ·rw[if_pos h1];show Srt co (y::QL l (plc co l x.key) x);refine List.pairwise_cons.2 ⟨λz hz=>?_,ih⟩;unfold QL at hz;rcases List.mem_append.1 hz with hz|hz
   ·exact hp.1 z (List.mem_of_mem_take hz)
   ·rcases List.mem_cons.1 hz with rfl|hz
    ·exact h1
    ·exact hp.1 z (List.mem_of_mem_drop hz)
  ·rw[if_neg h1];show Srt co (x::y::l);have h2:=Qdu h1 λh2=>hn ⟨y,List.mem_cons_self ..,h2⟩;refine List.pairwise_cons.2 ⟨λz hz=>?_,h⟩;rcases List.mem_cons.1 hz with rfl|hz
   ·exact h2
   ·exact Y3 h2 (hp.1 z hz)
theorem Qhm{co:Int}{key:List UInt8}:∀{es:List TEnt}{l:List BT},Srt co (YZ es l)->l.length<=es.length->(∀j,j<l.length->QS co (nth es j).key key<0)->∀x∈YZ es l,QS co x.key key<0
 | es,[],_,_,_,x,hx=>by
  have e:YZ es []=[]:=by cases es<;>rfl
  rw[e]at hx;cases hx
 | [],k::l,_,h,_,x,hx=>absurd h (by simp)
 | e::es,k::l,hs,hl,h,x,hx=>by
  rw[YZ]at hs hx;have h1:=List.pairwise_append.1 hs;have he:QS co e.key key<0:=h 0 (by simp);rcases List.mem_append.1 hx with hx|hx
  ·exact Y3 (h1.2.2 x hx e (List.mem_cons_self ..)) he
  ·rcases List.mem_cons.1 hx with rfl|hx
   ·exact he
   ·exact Qhm (List.pairwise_cons.1 h1.2.1).2 (by simpa using hl) (λj hj=>h (j+1) (by simpa using hj)) x hx
theorem QiZ{co:Int}{key:List UInt8}{lo hi rt:Nat}:∀{D:List Fr}{d:Nat},ZO lo hi rt d D->Qj7 co key D->Srt co (Qhi D)->∀x∈Qhi D,QS co x.key key<0
 | [],_,_,_,_,x,hx=>(nomatch hx)
 | f::D,d,hC,hL,hs,x,hx=>by
  rw[Qhi]at hs hx;have h1:=List.pairwise_append.1 hs;have hf:=hL f (List.mem_cons_self ..);have hlen:=hC.2.1;rcases List.mem_append.1 hx with hx|hx
  ·exact QiZ hC.2.2.2 (λg hg=>hL g (List.mem_cons_of_mem _ hg)) h1.1 x hx
  ·exact Qhm h1.2.1 om (λj hj=>QcC co key f.es j om) x hx
theorem Qjf{co:Int}{key:List UInt8}{lo hi rt:Nat}:∀{D:List Fr}{d:Nat},ZO lo hi rt d D->Qj7 co key D->Srt co (QgE D)->∀x∈QgE D,QS co key x.key<0
 | [],_,_,_,_,x,hx=>(nomatch hx)
 | f::D,d,hC,hL,hs,x,hx=>by
  rw[QgE]at hs hx;have h1:=List.pairwise_append.1 hs;have hf:=hL f (List.mem_cons_self ..);rcases List.mem_append.1 hx with hx|hx
  ·rcases Nat.lt_or_ge f.l.length f.es.length with h2|h2
   ·have e:f.es.drop f.l.length=nth f.es f.l.length::f.es.drop (f.l.length+1):=by
     rw[List.drop_eq_getElem_cons h2,show nth f.es f.l.length=f.es[f.l.length]from QH (List.getElem?_eq_getElem h2)]
    have hgt:QS co key (nth f.es f.l.length).key<0:=by
     refine Qdu ?_ λh3=>?_
     ·rw[hf.1]at h2 ⊢;exact Qi5 co key f.es h2
     ·refine hf.2 ?_;unfold fnd;rw[<-hf.1,decide_eq_true h2,decide_eq_true h3];rfl
    rw[e]at hx h1;cases hr:f.r with
    | nil=>
     rw[hr]at hx;cases hx
    | cons k r=>
     rw[hr]at hx h1;rw[QeL]at hx h1;rcases List.mem_cons.1 hx with rfl|hx
     ·exact hgt
     ·exact Y3 hgt ((List.pairwise_cons.1 h1.1).1 x hx)
   ·rw[List.drop_of_length_le h2]at hx;cases hx
  ·exact Qjf hC.2.2.2 (λg hg=>hL g (List.mem_cons_of_mem _ hg)) h1.2.1 x hx
structure Sz(mo rm:Int)(lo hi rt:Nat):Prop where
 emo:mo=(hi:Int)
 erm:rm=(rt:Int)
 elo:lo=hi/2
 hi3:3<=hi
 hi8:hi<=8
 lr:lo<=rt
 rh:rt<=hi
theorem QpA{mo rm:Int}(h:Zs mo rm=0):Sz mo rm (mo.toNat/2) mo.toNat rm.toNat:=by
 have h1:=Qbu h;constructor<;>omega
structure VT(co:Int)(lo hi rt d:Nat)(T:BT):Prop where
 idx:T.idx=0
 bel:Bel lo hi d T
 root:T.es.length<=rt
 gap:Qgr rt T
 srt:Srt co T.flat
 ents:∀x∈T.flat,Yu co x=0
theorem QaA{k:BT}{p:Nat×Nd}:∀{ks:List BT},p∈nodesL ks->∃k∈ks,p∈k.nodes
 | [],h=>by
  rw[nodesL]at h;cases h
 | x::ks,h=>by
  rw[nodesL]at h;rcases List.mem_append.1 h with h|h
  ·exact⟨x,List.mem_cons_self ..,h⟩
  ·obtain⟨k,hk,h2⟩:=QaA (k:=k) h;exact⟨k,List.mem_cons_of_mem _ hk,h2⟩
theorem QhF{lo hi:Nat}:∀{d:Nat}{T:BT},Bel lo hi d T->∀{n:Nat},hi<=n->T.es.length<=n->∀p∈T.nodes,p.2.es.length<=n+1/\p.2.cs.length<=n+1
 | 0,.nd i es ks,h,n,hn,hl,p,hp=>by
  have e:ks=[]:=h;rw[e,BT.nodes,nodesL]at hp;rcases List.mem_cons.1 hp with rfl|hp
  ·exact⟨Nat.le_succ_of_le hl,by show 0<=_;omega⟩
  ·cases hp
 | d+1,.nd i es ks,h,n,hn,hl,p,hp=>by
  rw[BT.nodes]at hp;have hl':es.length<=n:=hl;have h1:ks.length=es.length+1:=h.1;rcases List.mem_cons.1 hp with rfl|hp
  ·refine⟨Nat.le_succ_of_le hl,?_⟩;show(QU ks).length<=_;rw[Xi];omega
  ·obtain⟨k,hk,hp⟩:=QaA (k:=default) hp;have h2:=Zq.1 (h.2 k hk);exact QhF h2.1 hn om p hp
theorem Q5.sm{ns:List Nd}{T:BT}{lo hi d n:Nat}(h:Q5 ns T)(hB:Bel lo hi d T)(hn:hi<=n)(hl:T.es.length<=n):Sm (n+1) ns:=λk=>by
 rcases Nat.lt_or_ge k ns.length with hk|hk
 ·by_cases hm:k∈T.nodes.map Prod.fst
  ·obtain⟨p,hp,rfl⟩:=List.mem_map.1 hm;have h1:=RepN.at_ (i:=p.1) (x:=p.2) h hp;rw[h1.2];exact QhF hB hn hl p hp
  ·rw[h.rest k hk hm];exact⟨Nat.zero_le _,Nat.zero_le _⟩
 ·rw[QbG hk];exact⟨Nat.zero_le _,Nat.zero_le _⟩
theorem Qnb{ns:List Nd}{T:BT}(h:Q5 ns T)(h0:T.idx=0):QeP ns=XN ns:=by
 have hr:=h.root;rw[h0]at hr;unfold QeP XN;rw[h.frs h0,Qba hr.1 (by rw[hr.2])]
structure RootGrown(mo rm:Int)(lo hi rt m:Nat)(ns:List Nd)(fl:List TEnt):Prop where
 ok:RootOk mo rm ns
 okR:RootROk mo rm ns
 same:QnN mo rm ns=Qai mo rm ns
 tree:∃T d,Q5 (Qai mo rm ns) T/\T.idx=0/\Bel lo hi d T/\T.es.length<=rt/\Qgr rt T/\T.flat=fl
 len:ns.length<=(Qai mo rm ns).length/\(Qai mo rm ns).length<=ns.length+2
 last:Xw (Qai mo rm ns)
theorem QkH{mo rm:Int}{lo hi rt d m:Nat}{ns:List Nd}{T:BT}(hz:Sz mo rm lo hi rt)(hR:Q5 ns T)(h0:T.idx=0)(hB:Bel lo hi d T)(hb:T.es.length<=rt+1)(hg:Qgr rt T)(hs:Sm m ns)(hm:1<=m/\m<=880)(hl:ns.length<=880)(hu:Xw ns):RootGrown mo rm lo hi rt m ns T.flat:=by
 cases T with
 | nd i es ks=>
 have hi0:i=0:=h0;subst hi0;have hmo:=hz.emo;have hrm:=hz.erm;have hlo:=hz.elo;have hi3:=hz.hi3;have hi8:=hz.hi8;have hlr:=hz.lr;have hrh:=hz.rh;have hat:0<ns.length/\nth ns 0=⟨true,es,QU ks⟩:=Q5.root hR;have hb':es.length<=rt+1:=hb;have hlow:=Qnb hR h0;have hrl:=(Qot hR).2;have hrl2:Q5 (XN ns).2 (plug [⟨0,[],[],[]⟩] (.nd (QC ns).1 es ks)):=hrl;have hown:(XN ns).1<(XN ns).2.length/\nth (XN ns).2 (XN ns).1=⟨true,es,QU ks⟩:=Q5.at_ hrl2;have hC:ZO lo hi rt d [⟨0,[],[],[]⟩]:=⟨⟨λk hk=>(nomatch hk),λk hk=>(nomatch hk)⟩,rfl,⟨λ_=>Nat.zero_le _,λh=>absurd rfl h⟩,trivial⟩;have hll:=Qnk ns;have hsl:Sm 900 (XN ns).2:=(hs.low hm.1).mono om;have hspl:Qy mo<es.length->SpOk mo (XN ns).2 (XN ns).1:=λh=>QnI hrl2 hC (show Bel lo hi d (.nd (QC ns).1 es ks) by cases d<;>exact hB) om om hsl h;have hsplR:SpOk mo (XN ns).2 (XN ns).1->SpROk mo (XN ns).2 0 (XN ns).1:=λh=>QmN hrl2 rfl h;have hspE:QkZ mo (XN ns).2 0 (XN ns).1=Qah mo (XN ns).2 (XN ns).1:=QjJ (mo:=mo) hrl2 rfl
 have hbig:mo<((nth (XN ns).2 (XN ns).1).es.length:Int)->Qy mo<es.length:=λh=>by
  rw[hown.2]at h;simp only[]at h;unfold Qy;omega
 have hnB:Bel lo hi d (.nd (QC ns).1 es ks):=by cases d<;>exact hB
 refine⟨⟨hat.1,om,by rw[hat.2],λ_ h=>hspl (hbig h)⟩,⟨hat.1,om,by rw[hat.2],λ_ h=>by rw[hlow]at h ⊢;exact hsplR (hspl (hbig h))⟩,?_,?_,?_,?_⟩
 ·unfold QnN Qai;rw[hlow,hspE]
 ·unfold Qai;rw[hat.2,hown.2];simp only[]
  by_cases h1:rm<(es.length:Int)
  ·rw[if_pos h1]
   by_cases h2:mo<(es.length:Int)
   ·rw[if_pos h2];have hsp:=(Qax (mo:=mo) hrl2).2.2;have hE:Qy mo<es.length:=by unfold Qy;omega
    have hle:es.length=hi+1:=om
    refine⟨_,d+1,hsp,rfl,Qgf hmo hlo hC hnB hle,?_,λe=>?_,?_⟩
    ·show(QL ([]:List TEnt) 0 _).length<=rt;rw[Zt (Nat.zero_le _)];simp only[List.length_nil];omega
    ·exfalso;have e2:(QL ([]:List TEnt) 0 (nth es (Qy mo))).length=0:=congrArg List.length e;rw[Zt (Nat.zero_le _)]at e2;simp at e2
    ·have hf:=Qfk (mo:=mo) (o:=(QC (XN ns).2).1) hC hnB hE;refine hf.trans ?_;show(BT.nd 0 [] [BT.nd (QC ns).1 es ks]).flat=_;rw[BT.flat,flatL,flatL,List.append_nil,BT.flat,BT.flat]
   ·rw[if_neg h2];refine⟨_,d+1,hrl,rfl,⟨rfl,λk hk=>?_⟩,Nat.zero_le _,λ_ k hk=>?_,?_⟩
    ·rcases List.mem_singleton.1 hk;exact Zq.2 ⟨hnB,by show lo<=es.length/\es.length<=hi;omega⟩
    ·have:BT.nd (QC ns).1 es ks=k:=(List.cons.inj hk).1;rw[<-this];show rt<es.length;omega
    ·rw[BT.flat,flatL,flatL,List.append_nil,BT.flat,BT.flat]
  ·rw[if_neg h1];exact⟨_,d,hR,rfl,hB,by show es.length<=rt;omega,hg,rfl⟩
 ·unfold Qai;split
  ·split
   ·have:=Qip mo (XN ns).2 (XN ns).1;omega
   ·omega
  ·omega
 ·unfold Qai;split
  ·split
   ·exact hu.low.spl _ _
   ·exact hu.low
  ·exact hu
theorem QjS{co:Int}{lo hi rt d:Nat}{ns:List Nd}{T:BT}(hR:Q5 ns T)(hV:VT co lo hi rt d T)(key:List UInt8):∃D T' d',plug D T'=T/\ZO lo hi rt d' D/\Bel lo hi d' T'/\((D=[]->T'.es.length<=rt)/\(D≠[]->lo<=T'.es.length/\T'.es.length<=hi))/\d'+D.length=d/\d<ns.length /\
  (Qr co ns key).1=(D.map Fr.i).reverse++[T'.idx]/\(Qr co ns key).2=(plc co T'.es key,fnd co T'.es key)/\(fnd co T'.es key=true\/T'.ks=[])/\Qj7 co key D:=by
 have h1:=QhI hV.bel;have h2:=hR.nlen;obtain⟨D,T',d',e1,e2,e3,e4,e5,e6,e7,e8,e9⟩:=desc (key:=key) (rt:=rt) (co:=co) ns.length d [] T hR trivial hV.bel ⟨λ_=>hV.root,λh=>absurd rfl h⟩ om;rw[hV.idx]at e6 e7;simp only[List.append_nil]at e2 e4;exact⟨D,T',d',e1,e2,e3,e4,e5,om,e6,e7,e8,e9⟩
theorem Qmm(A:List Nat)(i:Nat):XA (A++[i])=i:=by
 unfold XA;rw[List.length_append,List.length_singleton,Nat.add_sub_cancel];exact QhY A i []
structure Inserted(co mo rm:Int)(lo hi rt:Nat)(ns:List Nd)(x:TEnt)(fl:List TEnt):Prop where
 ok:InsOk co mo rm ns x
 okR:InsROk co mo rm ns x
 same:Qrd co mo rm ns x=QaG co mo rm ns x
 tree:∃T d,Q5 (QaG co mo rm ns x) T/\VT co lo hi rt d T/\T.flat=QL fl (plc co fl x.key) x
 len:ns.length<=(QaG co mo rm ns x).length/\(QaG co mo rm ns x).length<=2*ns.length+2
 last:Xw (QaG co mo rm ns x)
theorem QdE:∀(es:List TEnt)(ks:List BT),es.Sublist (flatL es ks)
 | es,[]=>by rw[XL];exact List.Sublist.refl _
 | [],k::ks=>List.nil_sublist _
 | e::es,k::ks=>by
  rw[flatL];exact((QdE es ks).cons_cons e).trans (List.sublist_append_right _ _)
theorem Qfl{co:Int}{lo hi rt d:Nat}{ns:List Nd}{T:BT}(hR:Q5 ns T)(hV:VT co lo hi rt d T)(key:List UInt8):(Qr co ns key).2.2=true ↔ QiB co T.flat key:=by
 obtain⟨D,T',d',e1,e2,e3,e4,e5,e6,e7,e8,e9,e10⟩:=QjS hR hV key;have hfl:T.flat=Qhi D++(T'.flat++QgE D):=by rw[<-e1];exact Zz e2
 have hs:=hV.srt;rw[hfl]at hs;have h1:=List.pairwise_append.1 hs;have h2:=List.pairwise_append.1 h1.2.1;rw[e8,hfl];simp only[];cases T' with
 | nd i es ks=>
 constructor
 ·intro h;have hsub:=QdE es ks;have hses:Srt co es:=h2.1.sublist (by rw[BT.flat];exact hsub);obtain⟨y,hy,hc⟩:=(QfJ hses).2 h;exact⟨y,List.mem_append_right _ (List.mem_append_left _ (by rw[BT.flat];exact hsub.subset hy)),hc⟩
 ·intro h;rcases e9 with h9|h9
  ·exact h9
  ·have hk:ks=[]:=h9;subst hk;obtain⟨y,hy,hc⟩:=h;rw[Qdo]at hy h2;refine(QfJ (show Srt co es from h2.1)).1 ?_;rcases List.mem_append.1 hy with hy|hy
   ·have:=QiZ e2 e10 h1.1 y hy;omega
   ·rcases List.mem_append.1 hy with hy|hy
    ·exact⟨y,hy,hc⟩
    ·have:=Qjf e2 e10 h2.2.1 y hy;have:=Zw co y.key key;omega
theorem QjU{co mo rm:Int}{lo hi rt d:Nat}{ns:List Nd}{T:BT}{x:TEnt}(hz:Sz mo rm lo hi rt)(hR:Q5 ns T)(hV:VT co lo hi rt d T)(hl:ns.length<=400)(hu:Xw ns)(hx:Yu co x=0)(hnf:¬(Qr co ns x.key).2.2=true):Inserted co mo rm lo hi rt ns x T.flat:=by
 have hnk:¬QiB co T.flat x.key:=λh=>hnf ((Qfl hR hV x.key).2 h);have hsmT:=hR.sm hV.bel (Nat.le_refl hi) (Nat.le_trans hV.root hz.rh);obtain⟨D,T',d',e1,e2,e3,e4,e5,e6,e7,e8,e9,e10⟩:=QjS hR hV x.key;rw[e8]at hnf;have hks:T'.ks=[]:=e9.resolve_left hnf;cases T' with
 | nd i es ks=>
 have hk0:ks=[]:=hks;subst hk0;have hi8:=hz.hi8;have hi3:=hz.hi3;have hrh:=hz.rh;have hR1:Q5 ns (plug D (.nd i es [])):=by rw[e1];exact hR
 have hat:i<ns.length/\nth ns i=⟨true,es,[]⟩:=Q5.at_ hR1;have hfl:T.flat=Qhi D++(es++QgE D):=by rw[<-e1,Zz e2,Qdo]
 have hsr:=hV.srt;rw[hfl]at hsr;have hs1:=List.pairwise_append.1 hsr;have hs2:=List.pairwise_append.1 hs1.2.1;have hple:=Qbv co x.key es
 have hb4:es.length<=hi:=by
  by_cases hD:D=[]
  ·have:es.length<=rt:=e4.1 hD;omega
  ·exact(e4.2 hD).2
 have hlf:XA (Qr co ns x.key).1=i:=by rw[e7];exact Qmm _ _
 have hlf2:YJ co ns x.key=i:=hlf;have hpl:(Qr co ns x.key).2.1=plc co es x.key:=by rw[e8];rfl
 have hinsB:QiF co ns x=esN ns i (QL es (plc co es x.key) x):=by
  unfold QiF;rw[hlf2,hpl,hat.2]
 have hPl:(Qr co ns x.key).1.length=D.length+1:=by rw[e7];simp
 have hPr:(Qr co ns x.key).1.reverse=i::D.map Fr.i:=by
  rw[e7];simp;rfl
 have hidx:(plug D (.nd i (QL es (plc co es x.key) x) [])).idx=0:=by
  rw[QeT D (.nd i (QL es (plc co es x.key) x) []) (.nd i es []) rfl,e1];exact hV.idx
 have hgc:QfT rt D es.length:=Qjq (T:=.nd i es []) e2 (by rw[e1];exact hV.gap);have hil:(QL es (plc co es x.key) x).length=es.length+1:=Zt hple
 have hG:=QgB (lo:=lo) (hi:=hi) (rt:=rt) hz.emo hz.elo om hz.rh (Qr co ns x.key).1 D d' (hi+2) (esN ns i (QL es (plc co es x.key) x)) (.nd i (QL es (plc co es x.key) x) []) (Qq6 hR1 _) hidx e2 (show Bel lo hi d' (.nd i _ []) by
   have:=e3.leaf rfl;subst this
   rfl) ⟨λh=>by show(QL es _ x).length<=_;rw[hil];have:=e4.1 h;exact Nat.succ_le_succ this,λh=>by show lo<=(QL es _ x).length/\(QL es _ x).length<=_;rw[hil];have h9:=e4.2 h;exact⟨Nat.le_succ_of_le h9.1,Nat.succ_le_succ h9.2⟩⟩ (hgc.mono (by show es.length<=(QL es _ x).length;omega)) (λ_ e=>by
    intro k hk;cases hk) ((hsmT.mono om).es i (by rw[hil];omega)) om (by rw[Z3];omega) (hu.es _ _) (by
    show(Qr co ns x.key).1.take (D.length+1)=(i::D.map Fr.i).reverse;rw[<-hPl,List.take_length,<-hPr,List.reverse_reverse])
 have hfl2:(plug D (.nd i (QL es (plc co es x.key) x) [])).flat=QL T.flat (plc co T.flat x.key) x:=by
  rw[Zz e2,Qdo,hfl,Qhs (QiZ e2 e10 hs1.1),Qh1 (Qjf e2 e10 hs2.2.1),Qk9 hple]
 rw[hfl2]at hG;have hsrt:=QjN (x:=x) hV.srt hnk;obtain⟨T1,d1,g1,g2,g3,g4,g5,g6⟩:=hG.tree;have hglen:=hG.len;rw[Z3]at hglen;have hRt:=QkH hz g1 g2 g3 g4 g5 hG.sm om om hG.last;rw[g6]at hRt
 have hiT:QaG co mo rm ns x=Qai mo rm (XM mo (esN ns i (QL es (plc co es x.key) x)) (i::D.map Fr.i)):=by
  unfold QaG;rw[if_neg (by rw[e8];exact hnf),hinsB,hPr];rfl
 have hesR:esN ns (XA (Qr co ns x.key).1) (QL (nth ns (XA (Qr co ns x.key).1)).es (plc co (nth ns (XA (Qr co ns x.key).1)).es x.key) x)=esN ns i (QL es (plc co es x.key) x):=by
  rw[hlf,hat.2]
 have hsub:(Qr co ns x.key).1.length-1=D.length:=om
 refine⟨⟨om,om,by rw[hlf2];exact hat.1,by rw[hlf2,hat.2];show es.length<=900;omega,by rw[hlf2,hat.2,hpl];exact hple,by rw[hinsB,hPr];exact hG.ok,by rw[hinsB,hPr];exact hRt.ok⟩,⟨om,om,by rw[hlf];exact hat.1,by rw[hesR,hsub];exact hG.okR,by rw[hesR,hsub,hG.same];exact hRt.okR⟩,?_,?_,?_,?_⟩
 ·unfold Qrd;simp only[];rw[hesR,hsub,hG.same,hiT];exact hRt.same
 ·rw[hiT];obtain⟨T2,d2,t1,t2,t3,t4,t5,t6⟩:=hRt.tree;refine⟨T2,d2,t1,⟨t2,t3,t4,t5,by rw[t6];exact hsrt,λy hy=>?_⟩,t6⟩;rw[t6]at hy;unfold QL at hy;rcases List.mem_append.1 hy with hy|hy
  ·exact hV.ents y (List.mem_of_mem_take hy)
  ·rcases List.mem_cons.1 hy with rfl|hy
   ·exact hx
   ·exact hV.ents y (List.mem_of_mem_drop hy)
 ·rw[hiT];have h9:ns.length<=(XM mo (esN ns i (QL es (plc co es x.key) x)) (i::D.map Fr.i)).length/\(XM mo (esN ns i (QL es (plc co es x.key) x)) (i::D.map Fr.i)).length<=ns.length+D.length:=hglen;have h8:=hRt.len;simp only[BT.idx]at h8;omega
 ·rw[hiT];exact hRt.last
def btN(ns:List Nd):Nat->Nat->BT
 | 0,i=>.nd i [] []
 | f+1,i=>.nd i (nth ns i).es ((nth ns i).cs.map λc=>btN ns f c.toNat)
theorem QoC(ns:List Nd)(f i:Nat):(btN ns f i).idx=i:=by cases f<;>rfl
theorem QhG{ns:List Nd}{f:Nat}:∀{cs:List Int},(∀c∈cs,0<=c)->QU (cs.map λc=>btN ns f c.toNat)=cs
 | [],_=>rfl
 | c::cs,h=>by
  rw[List.map_cons,Zy,QhG λx hx=>h x (List.mem_cons_of_mem _ hx),QoC,Int.toNat_of_nonneg (h c (List.mem_cons_self ..))]
theorem Qcv{α:Type}(g:α->BT):∀(cs:List α),nodesL (cs.map g)=cs.flatMap λc=>(g c).nodes
 | []=>rfl
 | c::cs=>by rw[List.map_cons,nodesL,Qcv g cs,List.flatMap_cons]
theorem Qe3{α β:Type}{f g:α->List β}:∀{l:List α},(∀x∈l,f x=g x)->l.flatMap f=l.flatMap g
 | [],_=>rfl
 | a::l,h=>by rw[List.flatMap_cons,List.flatMap_cons,h a (List.mem_cons_self ..),Qe3 λx hx=>h x (List.mem_cons_of_mem _ hx)]
theorem Qfn{α:Type}(F:Int->List α):∀(cs:List Int),((List.range cs.length).flatMap λk=>F (cs.getD k 0))=cs.flatMap F
 | []=>rfl
 | c::cs=>by
  rw[List.length_cons,List.range_succ_eq_map,List.flatMap_cons,List.flatMap_map,List.flatMap_cons,<-Qfn F cs];rfl
section
variable{co:Int}{ns:List Nd}
theorem QpH(hT:TOk co ns){i:Nat}{P:List Nat}{c:Int}(hw:Gx.Way ns (i::P))(hi:i<ns.length)(hc:c∈(nth ns i).cs):Gx.Way ns (c.toNat::i::P):=by
 refine⟨⟨?_,hi⟩,hw⟩;rw[Int.toNat_of_nonneg (by have:=(hT.kid i hi c hc).1.1;omega)];exact hc
theorem QnE(hT:TOk co ns)(h0:0<ns.length){i:Nat}{P:List Nat}(hw:Gx.Way ns (i::P)):i<ns.length:=Qcx hT h0 hw i (List.mem_cons_self ..)
theorem QqT(hT:TOk co ns)(h0:0<ns.length):∀{i:Nat}{P:List Nat},Gx.Way ns (i::P)->(nth ns i).us=true
 | i,[],h=>by
  have e:i=0:=h;subst e;cases hu:(nth ns 0).us with
  | true=>rfl
  | false=>
   have:=(hT.free 0 h0 hu).1.1;omega
 | i,p::P,h=>by
  have:=(hT.kid p h.1.2 _ h.1.1).2;exact this
theorem Qpi(hT:TOk co ns)(h0:0<ns.length):∀(f i:Nat)(P:List Nat),Gx.Way ns (i::P)->P.length+f=ns.length->∀p∈(btN ns f i).nodes,ns[p.1]?=some p.2/\∃Q R,Gx.Way ns (Q++i::P)/\Q++i::P=p.1::R
 | 0,i,P,hw,hf,p,hp=>by
  have:=QbD hT h0 hw;simp only[List.length_cons]at this;omega
 | f+1,i,P,hw,hf,p,hp=>by
  have hi:=QnE hT h0 hw
  have hk:∀c∈(nth ns i).cs,0<=c:=λc hc=>by
   have:=(hT.kid i hi c hc).1.1;omega
  rw[btN,BT.nodes,QhG hk,Qcv]at hp;rcases List.mem_cons.1 hp with rfl|hp
  ·refine⟨?_,[],P,hw,rfl⟩;have hu:=QqT hT h0 hw;rw[QB hi];show some (nth ns i)=some ⟨true,(nth ns i).es,(nth ns i).cs⟩;rw[<-hu]
  ·obtain⟨c,hc,hp⟩:=List.mem_flatMap.1 hp;obtain⟨h1,Q,R,h2,h3⟩:=Qpi hT h0 f c.toNat (i::P) (QpH hT hw hi hc) (by simp only[List.length_cons];omega) p hp;refine⟨h1,Q++[c.toNat],R,?_,?_⟩
   ·rw[List.append_assoc];exact h2
   ·rw[List.append_assoc];exact h3
theorem Qny(hT:TOk co ns)(h0:0<ns.length):∀(f:Nat)(v:Vis)(P:List Nat),Gx.Way ns (v.i::P)->P.length+f=ns.length->(vis ns f v).map Vis.i=(btN ns f v.i).nodes.map Prod.fst
 | 0,v,P,hw,hf=>by
  have:=QbD hT h0 hw;simp only[List.length_cons]at this;omega
 | f+1,v,P,hw,hf=>by
  have hi:=QnE hT h0 hw;rw[vis,btN,BT.nodes,Qcv,List.map_cons,List.map_cons,List.map_flatMap,List.map_flatMap];congr 1;rw[<-Qfn];refine Qe3 λk hk=>?_;have hkl:=List.mem_range.1 hk
  have hc:(nth ns v.i).cs.getD k 0∈(nth ns v.i).cs:=by
   rw[List.getD_eq_getElem?_getD,List.getElem?_eq_getElem hkl];exact List.getElem_mem hkl
  exact Qny hT h0 f ⟨((nth ns v.i).cs.getD k 0).toNat,v.d+1,loK (nth ns v.i).es k v.lo,hiK (nth ns v.i).es k v.hi⟩ (v.i::P) (QpH hT hw hi hc) (by simp only[List.length_cons];omega)
end
def InB(co:Int)(lo hi:Option (List UInt8))(x:TEnt):Prop:=(∀b,lo=some b->QS co b x.key<0)/\(∀b,hi=some b->QS co x.key b<0)
theorem Qlz{t:Tre}{v:Vis}{x:TEnt}:QdW t v x=true ↔ (∃b,v.lo=some b/\0<=QS t.co b x.key)\/(∃b,v.hi=some b/\0<=QS t.co x.key b):=by
 unfold QdW;cases v.lo<;>cases v.hi<;>simp
def Za(ns:List Nd):Prop:=∀i,i<ns.length->(nth ns i).us=true
section
variable{ns:List Nd}
theorem Za.es(h:Za ns)(i:Nat)(es:List TEnt):Za (esN ns i es):=λk hk=>by
 rw[QpD];exact h k (by rwa[Z3]at hk)
theorem Za.cs(h:Za ns)(i:Nat)(cs:List Int):Za (csN ns i cs):=λk hk=>by
 rw[Qpv];exact h k (by rwa[QbZ]at hk)
theorem Za.fre(h:Za ns):Za (QC ns).2:=by
 unfold QC;split
 ·intro k hk;unfold usN at hk ⊢;simp only[List.length_set]at hk;rw[QaO];split
  ·rfl
  ·exact h k hk
 ·intro k hk;simp only[List.length_append,List.length_singleton]at hk;rcases Nat.lt_or_ge k ns.length with h1|h1
  ·rw[QH (show(ns++[(⟨true,[],[]⟩:Nd)])[k]?=some (nth ns k)from by rw[List.getElem?_append_left h1];exact QB h1)];exact h k h1
  ·have e:k=ns.length:=by omega
   subst e;rw[QH (show(ns++[(⟨true,[],[]⟩:Nd)])[ns.length]?=some ⟨true,[],[]⟩from by simp)]
theorem Za.spl(h:Za ns)(mo:Int)(i:Nat):Za (Qah mo ns i):=by
 unfold Qah addP;refine Za.cs (Za.es ?_ _ _) _ _;unfold splA;split
 ·exact(h.fre.es _ _).es _ _
 ·exact(((h.fre.es _ _).es _ _).cs _ _).cs _ _
theorem Za.low(h:Za ns):Za (XN ns).2:=by
 unfold XN;exact(((h.fre.es _ _).cs _ _).es _ _).cs _ _
theorem Za.grw(h:Za ns)(mo:Int)(P:List Nat):Za (XM mo ns P):=by
 unfold XM
 induction P generalizing ns with
 | nil=>exact h
 | cons i P ih=>
  rw[List.foldl_cons];refine ih ?_;unfold QaC;split
  ·exact h.spl _ _
  ·exact h
theorem Za.ins(h:Za ns)(co mo rm:Int)(x:TEnt):Za (QaG co mo rm ns x):=by
 unfold QaG;split
 ·exact h
 ·unfold QdX;have h1:=(h.es (YJ co ns x.key) (QL (nth ns (YJ co ns x.key)).es (Qr co ns x.key).2.1 x)).grw mo (Qr co ns x.key).1.reverse;unfold Qai;split
  ·split
   ·exact h1.low.spl _ _
   ·exact h1.low
  ·exact h1
end
theorem Qgt{α:Type}[DecidableEq α]:∀{l m:List α},l.Nodup->(∀x∈l,x∈m)->l.length<=m.length
 | [],_,_,_=>Nat.zero_le _
 | a::l,m,hd,hs=>by
  have h1:=List.nodup_cons.1 hd;have ha:=hs a (List.mem_cons_self ..);have h2:=Qgt (l:=l) (m:=m.erase a) h1.2 λx hx=>(List.mem_erase_of_ne (λe=>h1.1 (by rw[<-e];exact hx))).2 (hs x (List.mem_cons_of_mem _ hx));rw[List.length_erase_of_mem ha]at h2;have h3:=List.length_pos_of_mem ha;simp only[List.length_cons];omega
theorem Za.len{ns:List Nd}{T:BT}(h:Za ns)(hR:Q5 ns T):ns.length<=T.nodes.length:=by
 have:=Qgt (l:=List.range ns.length) (m:=T.nodes.map Prod.fst) List.nodup_range λx hx=>by
  by_cases hm:x∈T.nodes.map Prod.fst
  ·exact hm
  ·have hx:=List.mem_range.1 hx;have h1:=h x hx;rw[RepN.rest hR x hx hm]at h1;cases h1
 simpa using this
theorem Y6:∀{es:List TEnt}{ks:List BT},(∀k∈ks,k.nodes.length<=k.flat.length)->(nodesL ks).length+es.length<=(flatL es ks).length
 | es,[],_=>by
  rw[XL,nodesL];simp
 | [],k::ks,h=>by
  have h1:=h k (List.mem_cons_self ..);have h2:=Y6 (es:=[]) (ks:=ks) λq hq=>h q (List.mem_cons_of_mem _ hq);rw[flatL,nodesL];simp only[List.length_append,List.length_nil]at h2 ⊢;omega
 | e::es,k::ks,h=>by
  have h1:=h k (List.mem_cons_self ..);have h2:=Y6 (es:=es) (ks:=ks) λq hq=>h q (List.mem_cons_of_mem _ hq);rw[flatL,nodesL];simp only[List.length_append,List.length_cons]at h2 ⊢;omega
theorem Qgy{lo hi:Nat}(h0:1<=lo):∀{d:Nat}{T:BT},Bal lo hi d T->T.nodes.length<=T.flat.length
 | 0,.nd i es ks,h=>by
  have h1:=Y6 (es:=es) (ks:=ks) λk hk=>by
   have e:ks=[]:=h.1;rw[e]at hk;cases hk
  have h2:lo<=es.length:=h.2.1;rw[BT.nodes,BT.flat,List.length_cons];omega
 | d+1,.nd i es ks,h=>by
  have h1:=Y6 (es:=es) (ks:=ks) λk hk=>Qgy h0 (h.1.2 k hk);have h2:lo<=es.length:=h.2.1;rw[BT.nodes,BT.flat,List.length_cons];omega
theorem Qlv{lo hi d:Nat}(h0:1<=lo){T:BT}(h:Bel lo hi d T):T.nodes.length<=T.flat.length+1:=by
 cases T with
 | nd i es ks=>
  have h1:=Y6 (es:=es) (ks:=ks) λk hk=>by
   cases d with
   | zero=>
    have e:ks=[]:=h;rw[e]at hk;cases hk
   | succ d=>exact Qgy h0 (h.2 k hk)
  rw[BT.nodes,BT.flat,List.length_cons];omega
mutual
theorem ZG:∀(T:BT)(p:Nat×Nd),p∈T.nodes->p.2.es.Sublist T.flat
 | .nd i es ks,p,h=>by
  rw[BT.nodes]at h;rw[BT.flat];rcases List.mem_cons.1 h with rfl|h
  ·exact QdE es ks
  ·exact nodesL_es es ks p h
theorem nodesL_es:∀(es:List TEnt)(ks:List BT)(p:Nat×Nd),p∈nodesL ks->p.2.es.Sublist (flatL es ks)
 | es,[],p,h=>by
  rw[nodesL]at h;cases h
 | [],k::ks,p,h=>by
  rw[nodesL]at h;rw[flatL];rcases List.mem_append.1 h with h|h
  ·exact(ZG k p h).trans (List.sublist_append_left ..)
  ·exact(nodesL_es [] ks p h).trans (List.sublist_append_right ..)
 | e::es,k::ks,p,h=>by
  rw[nodesL]at h;rw[flatL];rcases List.mem_append.1 h with h|h
  ·exact(ZG k p h).trans (List.sublist_append_left ..)
  ·exact((nodesL_es es ks p h).cons e).trans (List.sublist_append_right ..)
end
theorem Qe6{lo hi:Nat}:∀{d:Nat}{T:BT},Bel lo hi d T->∀p∈T.nodes,p.2.cs.length=0\/p.2.cs.length=p.2.es.length+1
 | 0,.nd i es ks,h,p,hp=>by
  have e:ks=[]:=h;rw[e,BT.nodes,nodesL]at hp;rcases List.mem_cons.1 hp with rfl|hp
  ·exact .inl rfl
  ·cases hp
 | d+1,.nd i es ks,h,p,hp=>by
  rw[BT.nodes]at hp;rcases List.mem_cons.1 hp with rfl|hp
  ·exact .inr (by show(QU ks).length=_;rw[Xi];exact h.1)
  ·obtain⟨k,hk,hp⟩:=QaA (k:=default) hp;exact Qe6 (Zq.1 (h.2 k hk)).1 p hp
theorem QgR{co:Int}{lo hi rt d:Nat}{ns:List Nd}{T:BT}(hR:Q5 ns T)(hV:VT co lo hi rt d T)(hu:Xw ns):TOk co ns:=by
 have hat:∀p∈T.nodes,p.1<ns.length/\nth ns p.1=p.2:=λp hp=>RepN.at_ (i:=p.1) (x:=p.2) hR hp
 have hcs:∀i,i<ns.length->(i∈T.nodes.map Prod.fst/\(i,nth ns i)∈T.nodes)\/nth ns i=⟨false,[],[]⟩:=λi hi=>by
  by_cases hm:i∈T.nodes.map Prod.fst
  ·refine .inl ⟨hm,?_⟩;obtain⟨p,hp,rfl⟩:=List.mem_map.1 hm;rw[(hat p hp).2];exact hp
  ·exact .inr (RepN.rest hR i hi hm)
 have hkp:=Qci T
 have hnd:((((T.idx:Nat):Int)::X3 T.nodes)).Nodup:=hkp.nodup_iff.2 (by
  have h1:=RepN.nd hR;unfold List.Nodup at h1 ⊢;rw[List.pairwise_map]at h1 ⊢;exact h1.imp λh e=>h om)
 refine⟨λi hi c hc=>?_,?_,λi hi=>?_,λi hi hus=>?_,λi hi=>?_,λi hi x hx=>?_⟩
 ·rcases hcs i hi with⟨_,hm⟩|he
  ·have hck:c∈X3 T.nodes:=List.mem_flatMap.2 ⟨_,hm,hc⟩;obtain⟨q,hq,rfl⟩:=List.mem_map.1 (hkp.mem_iff.1 (List.mem_cons_of_mem _ hck));have h1:=hat q hq
   have h2:q.1≠0:=λe=>by
    have h3:=(List.nodup_cons.1 hnd).1;rw[hV.idx]at h3;rw[e]at hck;exact h3 hck
   refine⟨om,?_⟩;rw[Int.toNat_natCast,h1.2];exact Qat T q hq
  ·rw[he]at hc;cases hc
 ·have hk2:=(List.nodup_cons.1 hnd).2;unfold X3 List.Nodup at hk2;rw[List.pairwise_flatMap]at hk2;unfold List.Nodup;rw[List.pairwise_flatMap];refine⟨λx hx=>?_,List.pairwise_iff_getElem.2 λi j hi hj hij=>?_⟩
  ·obtain⟨i,hi,rfl⟩:=List.getElem_of_mem hx;rw[<-QH (List.getElem?_eq_getElem hi)];rcases hcs i hi with⟨_,hm⟩|he
   ·exact hk2.1 _ hm
   ·rw[he];exact List.Pairwise.nil
  ·rw[<-QH (List.getElem?_eq_getElem hi),<-QH (List.getElem?_eq_getElem hj)];intro x hx y hy e;rcases hcs i hi with⟨_,hm⟩|he
   ·rcases hcs j hj with⟨_,hm2⟩|he
    ·obtain⟨a,ha,ea⟩:=List.getElem_of_mem hm;obtain⟨b,hb,eb⟩:=List.getElem_of_mem hm2;have hp:=List.pairwise_iff_getElem.1 hk2.2;rcases Nat.lt_trichotomy a b with h|h|h
     ·exact hp a b ha hb h x (by rw[ea];exact hx) y (by rw[eb];exact hy) e
     ·subst h;rw[ea]at eb;have:=congrArg Prod.fst eb;simp only at this;omega
     ·exact hp b a hb ha h y (by rw[eb];exact hy) x (by rw[ea];exact hx) e.symm
    ·rw[he]at hy;cases hy
   ·rw[he]at hx;cases hx
 ·rcases hcs i hi with⟨_,hm⟩|he
  ·exact Qe6 hV.bel _ hm
  ·rw[he];exact .inl rfl
 ·rcases hcs i hi with⟨_,hm⟩|he
  ·have:=Qat T _ hm;simp only at this;rw[hus]at this;cases this
  ·refine⟨⟨?_,?_⟩,by rw[he],by rw[he]⟩
   ·have h1:=(Q5.root hR).2;rw[hV.idx]at h1;rcases Nat.eq_zero_or_pos i with e|h
    ·rw[e,h1]at hus;cases hus
    ·exact h
   ·unfold Xw at hu
    by_cases e:i=ns.length-1
    ·rw[e,hu]at hus;cases hus
    ·omega
 ·rcases hcs i hi with⟨_,hm⟩|he
  ·exact Srt.asc (List.Pairwise.sublist (ZG T _ hm) hV.srt)
  ·rw[he];intro k hk;exact absurd hk (by simp)
 ·rcases hcs i hi with⟨_,hm⟩|he
  ·exact hV.ents x ((ZG T _ hm).subset hx)
  ·rw[he]at hx;cases hx
theorem Qri{co mo rm:Int}{lo hi rt d:Nat}{ns:List Nd}{T:BT}(hz:Sz mo rm lo hi rt)(hR:Q5 ns T)(hV:VT co lo hi rt d T)(hl:ns.length<=1000):Bd ns:=by
 have h1:=hR.sm hV.bel (Nat.le_refl _) (Nat.le_trans hV.root hz.rh);have:=hz.hi8;exact⟨hl,λi hi=>Nat.le_trans (h1 i).1 om,λi hi=>Nat.le_trans (h1 i).2 om⟩
section
variable(co mo rm:Int)(l:List TEnt)
def ZC:Nat->List Nd
 | 0=>[⟨true,[],[]⟩]
 | k+1=>QaG co mo rm (ZC k) (nth l k)
def Qcl(k:Nat):Int:=if Yu co (nth l k)=0 then Qhr co mo rm (ZC co mo rm l k) (nth l k)else Yu co (nth l k)
def Qab:List Int:=(List.range l.length).map (Qcl co mo rm l)
end
structure BldOk(co mo rm:Int)(lo hi rt k:Nat)(ns:List Nd):Prop where
 tree:∃T d,Q5 ns T/\VT co lo hi rt d T/\T.flat.length=k
 all:Za ns
 len:ns.length<=k+1
 pos:0<ns.length
section
variable{co mo rm:Int}{lo hi rt k:Nat}{l:List TEnt}{ns:List Nd}{x:TEnt}
theorem Qk6:(Qab co mo rm l).length=l.length:=by simp[Qab]
theorem QdF{k:Nat}(hk:k<l.length):(Qab co mo rm l).getD k 0=Qcl co mo rm l k:=by
 unfold Qab;rw[List.getD_eq_getElem?_getD,List.getElem?_map,List.getElem?_range hk];rfl
theorem Qmb(h:Qcl co mo rm l k=0):Yu co (nth l k)=0/\Qhr co mo rm (ZC co mo rm l k) (nth l k)=0:=by
 unfold Qcl at h;split at h
 ·exact⟨by assumption,h⟩
 ·exact absurd h (by assumption)
theorem BldOk.last(h:BldOk co mo rm lo hi rt k ns):Xw ns:=h.all _ (by have:=h.pos;omega)
theorem BldOk.tok(h:BldOk co mo rm lo hi rt k ns):TOk co ns:=by
 obtain⟨T,d,hR,hV,_⟩:=h.tree;exact QgR hR hV h.last
theorem BldOk.bd(hz:Sz mo rm lo hi rt)(h:BldOk co mo rm lo hi rt k ns)(hk:k<=999):Bd ns:=by
 obtain⟨T,d,hR,hV,_⟩:=h.tree;exact Qri hz hR hV (by have:=h.len;omega)
theorem BldOk.ins(hz:Sz mo rm lo hi rt)(h:BldOk co mo rm lo hi rt k ns)(hk:k<=399)(hx:Yu co x=0)(hnf:¬(Qr co ns x.key).2.2=true):InsOk co mo rm ns x/\InsROk co mo rm ns x/\Qrd co mo rm ns x=QaG co mo rm ns x/\BldOk co mo rm lo hi rt (k+1) (QaG co mo rm ns x):=by
 obtain⟨T,d,hR,hV,hfl⟩:=h.tree;have hI:=QjU hz hR hV (by have:=h.len;omega) h.last hx hnf;obtain⟨T2,d2,hR2,hV2,hf2⟩:=hI.tree;have hall:=h.all.ins co mo rm x;have hlo:1<=lo:=by have:=hz.elo;have:=hz.hi3;omega
 have hfl2:T2.flat.length=k+1:=by rw[hf2,Zt (Qbv _ _ _),hfl]
 refine⟨hI.ok,hI.okR,hI.same,⟨T2,d2,hR2,hV2,hfl2⟩,hall,?_,by have:=hI.len.1;have:=h.pos;omega⟩;have h1:=hall.len hR2;have h2:=Qlv hlo hV2.bel;omega
theorem Qeb(hz:Sz mo rm lo hi rt):BldOk co mo rm lo hi rt 0 [⟨true,[],[]⟩]:=by
 refine⟨⟨.nd 0 [] [],0,⟨λp hp=>?_,?_,λi hi hm=>?_⟩,⟨rfl,rfl,Nat.zero_le _,?_,?_,λx hx=>?_⟩,?_⟩,λi hi=>?_,Nat.le_refl _,Nat.succ_pos _⟩
 ·rw[BT.nodes,nodesL]at hp;rcases List.mem_singleton.1 hp with rfl
  rfl
 ·rw[BT.nodes,nodesL];exact List.pairwise_singleton _ _
 ·refine absurd ?_ hm;rw[BT.nodes,nodesL];have h1:i<1:=hi;have e:i=0:=by omega
  rw[e];exact List.mem_cons_self ..
 ·intro _ k hk;cases hk
 ·exact List.Pairwise.nil
 ·rw[BT.flat,XL]at hx;cases hx
 ·rw[BT.flat,XL];rfl
 ·have h1:i<1:=hi;have e:i=0:=by omega
  rw[e];rfl
theorem Qfb(hz:Sz mo rm lo hi rt):∀{k:Nat},k<=119->(∀i,i<k->Qcl co mo rm l i=0)->BldOk co mo rm lo hi rt k (ZC co mo rm l k)
 | 0,_,_=>Qeb hz
 | k+1,hk,h=>by
  have h1:=Qmb (h k (Nat.lt_succ_self k))
  exact(BldOk.ins hz (Qfb hz om λi hi=>h i om) om h1.1 (λh2=>by
   have h3:=h1.2;unfold Qhr at h3;rw[if_pos h2]at h3;cases h3)).2.2.2
theorem Qo3(hz:Sz mo rm lo hi rt)(hk:k<119)(h:∀i,i<k->Qcl co mo rm l i=0):Qcl co mo rm l k=if Yu co (nth l k)=0 then if(Qr co (ZC co mo rm l k) (nth l k).key).2.2=true then 5 else 0 else Yu co (nth l k):=by
 have h0:=Qfb hz om h;unfold Qcl
 by_cases hx:Yu co (nth l k)=0
 ·rw[if_pos hx,if_pos hx];unfold Qhr
  by_cases hf:(Qr co (ZC co mo rm l k) (nth l k).key).2.2=true
  ·rw[if_pos hf,if_pos hf]
  ·rw[if_neg hf,if_neg hf,if_pos (by have:=(BldOk.ins hz h0 om hx hf).2.2.2.len;omega)]
 ·rw[if_neg hx,if_neg hx]
end
end Gx
namespace Go.Proofs
open Go Go.RowKit Gx
attribute [local irreducible] Go.Calls Gx.S Gx.O Gx.D Gx.OpP Gx.OpQ Gx.OpH
set_option maxRecDepth 20000
theorem QqU:QE Tryz.prog 168=true:=by kernel_rfl
theorem QpY:QE Tryz.prog 170=true:=by kernel_rfl
instance:TFn Tryz.prog 166:=⟨by kernel_rfl⟩
theorem Qmh:Xs Tryz.prog 147=some [.pointer none]:=by kernel_rfl
theorem Qpz(E:Int)(n:Nat):QK [.int .i64 E,.int .i64 (cond (decide ((n:Int)<=200)) 0 8)]=if E=0 then(if 200<n then 8 else 0)else E:=by
  unfold QK
  by_cases h:E=0
  · rw[if_pos h,if_pos h]
    by_cases h2:200<n
    · rw[if_pos h2,decide_eq_false om];rfl
    · rw[if_neg h2,decide_eq_true om];rfl
  · rw[if_neg h,if_neg h]
theorem c168(w:World)(bt:Nat)(j:Nat)(mo rm:Int)(gn cap:Nat)(L:List LNd)(x:TEnt)(i:Int)(c4 c13:Nat)(hw:HS w (fps [.blk bt 167 6 (tbV (j:Int) mo rm (some ⟨gn,0,none⟩) (L).length cap),.blk gn 87 (cap*3) ((L).flatMap LNd.vals),.star ((L).map (Qx 50))]) [.blk bt 167 6 (tbV (j:Int) mo rm (some ⟨gn,0,none⟩) (L).length cap),.blk gn 87 (cap*3) ((L).flatMap LNd.vals),.star ((L).map (Qx 50))] w)(hnc:L.length<=cap)(hcm:cap<=maxLen)(hj:j<=3)(h0:0<L.length)(hB:Bd (pln L))(hT:TOk (j:Int) (pln L))(hkk:x.key.length<=1000000)(hok:Yu (j:Int) x=0->¬(Qr (j:Int) (pln L) x.key).2.2=true->InsOk (j:Int) mo rm (pln L) x)(hc4:Rd w (fps [.blk bt 167 6 (tbV (j:Int) mo rm (some ⟨gn,0,none⟩) (L).length cap),.blk gn 87 (cap*3) ((L).flatMap LNd.vals),.star ((L).map (Qx 50))]) c4 0 (.int .i64 (j:Int)))(hc13:Rd w (fps [.blk bt 167 6 (tbV (j:Int) mo rm (some ⟨gn,0,none⟩) (L).length cap),.blk gn 87 (cap*3) ((L).flatMap LNd.vals),.star ((L).map (Qx 50))]) c13 0 (.pointer (some ⟨bt,0,none⟩))):CE 168 #[.int .i64 i,.agg #[.string (bs x.key),.string (bs x.val)],.pointer (some ⟨c4,0,none⟩),.pointer (some ⟨c13,0,none⟩)] w (fps [.blk bt 167 6 (tbV (j:Int) mo rm (some ⟨gn,0,none⟩) (L).length cap),.blk gn 87 (cap*3) ((L).flatMap LNd.vals),.star ((L).map (Qx 50))]) (λg:(Nat×Nat)×List LNd=>.int .i64 (if Yu (j:Int) x=0 then Qhr (j:Int) mo rm (pln L) x else Yu (j:Int) x)) (λg=>(pln g.2=(if Yu (j:Int) x=0 then QaG (j:Int) mo rm (pln L) x else pln L)/\g.2.length<=g.1.2/\g.1.2<=maxLen)) λg=>[.blk bt 167 6 (tbV (j:Int) mo rm (some ⟨g.1.1,0,none⟩) (g.2).length g.1.2),.blk g.1.1 87 (g.1.2*3) ((g.2).flatMap LNd.vals),.star ((g.2).map (Qx 50))]:=by
 refine eW4 Tryz.func168 Tryz.ntmps168 hw ?_
 refine aU2 ?_
 refine oBx λb1 _=>?_
 refine aU5 ?_
 refine o_q (Qc rfl rfl XB (hc4)) rfl (aU ?_)
 refine oCq rfl (λw1 h1=>c169 w1 j x hj hkk) (aU7 ?_)
 refine sCd rfl (λh2=>?_) λh2=>?_
 ·have hx0:¬Yu (j:Int) x=0:=by have hq:=h2;exact hq
  refine aU5 ?_
  exact rT rfl rfl (λw' h'=>⟨((gn,cap),L),by simp only[QR];rw[if_neg hx0],⟨by simp only[];rw[if_neg hx0],hnc,hcm⟩,h'.ent aEt⟩)
 have hx0:Yu (j:Int) x=0:=by have hq:=h2;exact hq
 refine aU3 ?_
 refine o_q (Qc rfl rfl Ys (hc13)) rfl (aU ?_)
 refine o_h (QV (Cs:=[.blk bt 167 6 (tbV (j:Int) mo rm (some ⟨gn,0,none⟩) (L).length cap),.blk gn 87 (cap*3) ((L).flatMap LNd.vals),.star ((L).map (Qx 50))]) rfl QpY rfl aPs (λw1 h1 hf=>c170 w1 bt j mo rm gn cap L x hf hnc hcm hj h0 hB hT (QcZ hx0) (hok hx0))) rfl (λ⟨⟨g5,c5⟩,L5⟩hF5=>aU2 ?_)
 exact rT rfl rfl (λw' h'=>⟨((g5,c5),L5),by simp only[QR];rw[if_pos hx0],⟨by simp only[];rw[if_pos hx0];exact hF5.1,hF5.2.1,hF5.2.2⟩,h'.ent aEt⟩)
theorem QpJ(w:World)(bt:Nat)(j:Nat)(mo rm:Int)(gn cap:Nat)(L:List LNd)(al:Option Addr)(ca:Nat)(l:List TEnt)(c4 c13:Nat)(lo hi rt:Nat)(hw:HS w (fps [.blk bt 167 6 (tbV (j:Int) mo rm (some ⟨gn,0,none⟩) (L).length cap),.blk gn 87 (cap*3) ((L).flatMap LNd.vals),.star ((L).map (Qx 50))]) [.blk bt 167 6 (tbV (j:Int) mo rm (some ⟨gn,0,none⟩) (L).length cap),.blk gn 87 (cap*3) ((L).flatMap LNd.vals),.star ((L).map (Qx 50))] w)(hnc:L.length<=cap)(hcm:cap<=maxLen)(hj:j<=3)(hz:Sz mo rm lo hi rt)(hl:l.length<=118)(hlk:∀x∈l,x.key.length<=1000000)(hs:Rw TEnt.vals 2 w (fps [.blk bt 167 6 (tbV (j:Int) mo rm (some ⟨gn,0,none⟩) (L).length cap),.blk gn 87 (cap*3) ((L).flatMap LNd.vals),.star ((L).map (Qx 50))]) al l)(hL0:pln L=(ZC (j:Int) mo rm l 0))(hc4:Rd w (fps [.blk bt 167 6 (tbV (j:Int) mo rm (some ⟨gn,0,none⟩) (L).length cap),.blk gn 87 (cap*3) ((L).flatMap LNd.vals),.star ((L).map (Qx 50))]) c4 0 (.int .i64 (j:Int)))(hc13:Rd w (fps [.blk bt 167 6 (tbV (j:Int) mo rm (some ⟨gn,0,none⟩) (L).length cap),.blk gn 87 (cap*3) ((L).flatMap LNd.vals),.star ((L).map (Qx 50))]) c13 0 (.pointer (some ⟨bt,0,none⟩))):CE 167 #[.slice al l.length ca,.func (.func 168) #[] #[.pointer (some ⟨c4,0,none⟩),.pointer (some ⟨c13,0,none⟩)]] w (fps [.blk bt 167 6 (tbV (j:Int) mo rm (some ⟨gn,0,none⟩) (L).length cap),.blk gn 87 (cap*3) ((L).flatMap LNd.vals),.star ((L).map (Qx 50))]) (λg:(Nat×Nat)×List LNd=>.tuple #[.int .i64 (QN (Qab (j:Int) mo rm l) 0).1,.int .i64 (QN (Qab (j:Int) mo rm l) 0).2]) (λg=>(((QN (Qab (j:Int) mo rm l) 0).2=0->pln g.2=(ZC (j:Int) mo rm l l.length))/\g.2.length<=g.1.2/\g.1.2<=maxLen)) λg=>[.blk bt 167 6 (tbV (j:Int) mo rm (some ⟨g.1.1,0,none⟩) (g.2).length g.1.2),.blk g.1.1 87 (g.1.2*3) ((g.2).flatMap LNd.vals),.star ((g.2).map (Qx 50))]:=by
 refine eW2 Tryz.func167 Tryz.ntmps167 hw ?_
 refine Qak ?_
 refine Qt (α:=(Nat×(Nat×Nat))×List LNd) [4,5,6,7,8,11,12,13,14,15,16,17,18,19,20,21,22,23,24] (λx=>[(11,.int .i64 (x.1.1:Int))]) (λx=>HS w (fps [.blk bt 167 6 (tbV (j:Int) mo rm (some ⟨gn,0,none⟩) (L).length cap),.blk gn 87 (cap*3) ((L).flatMap LNd.vals),.star ((L).map (Qx 50))]) [.blk bt 167 6 (tbV (j:Int) mo rm (some ⟨x.1.2.1,0,none⟩) (x.2).length x.1.2.2),.blk x.1.2.1 87 (x.1.2.2*3) ((x.2).flatMap LNd.vals),.star ((x.2).map (Qx 50))]) (λx=>x.1.1<=l.length/\(QN (Qab (j:Int) mo rm l) 0)=QN ((Qab (j:Int) mo rm l).drop x.1.1) x.1.1/\(∀i,i<x.1.1->Qcl (j:Int) mo rm l i=0)/\pln x.2=(ZC (j:Int) mo rm l x.1.1)/\x.2.length<=x.1.2.2/\x.1.2.2<=maxLen) (λx=>l.length-x.1.1) ((0,(gn,cap)),L) ⟨Nat.zero_le _,rfl,λi h=>absurd h (Nat.not_lt_zero i),hL0,hnc,hcm⟩ aSx (λw h=>h.ent aEt) (λ⟨⟨k,gn1,cap1⟩,L1⟩hx=>?_)
 dsimp only
 obtain⟨hk1,hk2,hk3,hk4,hk5,hk6⟩:=hx
 simp only[]at hk1 hk2 hk3 hk4 hk5 hk6
 have hbo:=Qfb (l:=l) hz (show k<=119 by omega) hk3
 have hel:=Qk6 (co:=(j:Int)) (mo:=mo) (rm:=rm) (l:=l)
 refine aU5 ?_
 refine sCd rfl (λh1=>?_) λh1=>?_
 ·refine aU6 ?_
  refine o_p (Qa rfl rfl rfl Xg (k) om om (Rw.some hs om)) rfl (o_q (Qm _ rfl rfl Z4 rfl (Rw.rd hs om)) rfl (oAl (λb2 _=>?_) XU))
  refine aU8 ?_
  refine o_h (Qc1 (Cs:=[.blk bt 167 6 (tbV (j:Int) mo rm (some ⟨gn1,0,none⟩) (L1).length cap1),.blk gn1 87 (cap1*3) ((L1).flatMap LNd.vals),.star ((L1).map (Qx 50))]) rfl rfl QqU rfl aPs (λw1 h1 hf=>c168 w1 bt j mo rm gn1 cap1 L1 (nth l k) (k:Int) c4 c13 hf hk5 hk6 hj (by have h9:=hbo.pos;rw[<-hk4,Qg]at h9;exact h9) (by rw[hk4];exact hbo.bd hz om) (by rw[hk4];exact hbo.tok) (hlk _ (QX om)) (by rw[hk4];exactλhx hf=>(hbo.ins hz om hx hf).1) ((h1.keep hc4).mono (Q1 aPs)) ((h1.keep hc13).mono (Q1 aPs)))) rfl (λ⟨⟨g5,c5⟩,L5⟩hF5=>Ql (show _=Value.int .i64 (Qcl (j:Int) mo rm l k)from by unfold Qcl;rw[hk4]) (aU7 ?_))
  refine sCd rfl (λh3=>?_) λh3=>?_
  ·have hb0:¬Qcl (j:Int) mo rm l k=0:=by have hq:=h3;exact hq
   refine aU7 ?_
   exact Qf (rs:=[.tmp 4,.tmp 5]) rfl (.tmp rfl (.tmp rfl (.nil))) (λw' h'=>⟨((g5,c5),L5),by simp only[QR];rw[hk2,Xh om,QdF om,if_neg hb0],⟨λh9=>by rw[hk2,Xh om,QdF om,if_neg hb0]at h9;exact absurd h9 hb0,hF5.2.1,hF5.2.2⟩,h'.ent aEt⟩)
  have hb0:Qcl (j:Int) mo rm l k=0:=by have hq:=h3;exact hq
  refine aT4 ?_
  refine aU2 ?_
  exact sBk ((k+1,(g5,c5)),L5) (by(try simp only[]);omega) ⟨by(try simp only[]);omega,by simp only[];rw[hk2,Xh om,if_pos (by rw[QdF om];exact hb0)],λi hi=>(Nat.lt_or_ge i k).elim (hk3 i) (λh=>by have hi9:i<k+1:=hi;obtain rfl:i=k:=om;exact hb0),by simp only[];rw[hF5.1,if_pos (Qmb hb0).1,hk4];rfl,hF5.2.1,hF5.2.2⟩
 refine Qj rfl ?_
 refine aU5 ?_
 exact Qf (rs:=[.tmp 4,.tmp 5]) rfl (.tmp rfl (.tmp rfl (.nil))) (λw' h'=>⟨((gn1,cap1),L1),by simp only[QR];rw[hk2,QbX om],⟨λ_=>by simp only[];rw[hk4];congr 1;omega,hk5,hk6⟩,h'.ent aEt⟩)
theorem Qpu(w:World)(j:Nat)(mo rm:Int)(hj:j<=3)(hs0:Zs mo rm=0):CE 166 #[.int .i64 (j:Int),.int .i64 mo,.int .i64 rm] w [] (λg:(Option Addr×Nat)×List LNd=>.tuple #[.agg #[.int .i64 (j:Int),.int .i64 mo,.int .i64 rm,.slice g.1.1 g.2.length g.1.2],.int .i64 0]) (λg=>pln g.2=[⟨true,[],[]⟩]) λg=>[.nodes 50 87 g.1.1 g.1.2 g.2]:=by
  have hcE:Xb (j:Int)=0:=by unfold Xb;rw[if_pos om]
  have hEE:(if Xb (j:Int)=0 then Zs mo rm else Xb (j:Int))=0:=by rw[if_pos hcE];exact hs0
  have hemp:QfO (j:Int) mo rm=⟨(j:Int),mo,rm,[⟨true,[],[]⟩]⟩:=by unfold QfO;rw[if_pos hEE]
  have h9:=c166 w (j:Int) mo rm;simp only[hemp,hEE]at h9;exact h9
theorem c129x(w:World)(j:Nat)(mo rm:Int)(al:Option Addr)(ca:Nat)(l:List TEnt)(hs:Rw TEnt.vals 2 w [] al l)(hl9:l.length<=1000)(hl:l.length<=118)(hj:j<=3)(hs0:Zs mo rm=0)(hlk:∀x∈l,x.key.length<=1000000)(hx:¬(QN (Qab (j:Int) mo rm l) 0).2=0):CR 129 #[.int .i64 (j:Int),.int .i64 mo,.int .i64 rm,.slice al l.length ca] w (.tuple #[.agg #[.int .i64 0,.int .i64 0,.int .i64 0,.slice none 0 0],.int .i64 (QN (Qab (j:Int) mo rm l) 0).1,.int .i64 (QN (Qab (j:Int) mo rm l) 0).2]):=by
 have hz:=QpA hs0
 have hb1:=Qeb (co:=(j:Int)) hz
 refine eN4 Tryz.func129 Tryz.ntmps129 ?_
 refine aU2 ?_
 refine oBx λb1 _=>?_
 refine oAl (λb2 _=>?_) YQ
 refine aU8 ?_
 refine oCh rfl (λw1 h1=>Qpu w1 j mo rm hj hs0) (λ⟨⟨ae,ce⟩,LE⟩hLE=>?_)
 dsimp only
 have hLE2:pln LE=[⟨true,[],[]⟩]:=hLE
 have hLEn:LE.length=1:=by rw[<-Qg,hLE2];rfl
 refine aU3 ?_
 refine oAl (λb3 _=>?_) YQ
 refine Zn ?_
 refine oCq rfl (λw1 h1=>Qa1 w1 _ _) (o_h (Qd (cs:=[_,_]) rfl rfl Xn XK rfl rfl rfl) rfl (λb4 _=>oCq rfl (λw1 h1=>Qjk h1 aPk (by rfl) (by rfl) (by decide)) (Ql (show _=Value.int .i64 0 from by rw[Qpz,if_pos rfl,if_neg om]) (aU7 ?_))))
 refine sCd rfl (λh5=>?_) λh5=>?_
 ·exfalso;first|omega|(simp at h5;done)|(simp_all;done)
 refine aU4 ?_
 refine oCh rfl (λw1 h1=>Qrf w1 j mo rm ae ce LE (HS.nt h1 aPk) (by rw[hLE2];exact hb1.bd hz om) hj om) (λ⟨b9,⟨a9,c9⟩,L9⟩hF9=>?_)
 dsimp only
 have hF92:pln L9=pln LE:=hF9
 refine QfP (λw h=>Qbd (by rw[<-Qg,hF92,Qg];omega) h aPk) λg9=>?_
 refine XQ (λw h=>h.1) λhg9=>XQ (λw h=>h.2.1) λhn9=>XQ (λw h=>h.2.2.1) λhm9=>Xm (λw h=>h.2.2.2) ?_
 subst hg9
 refine oAl (λb6 _=>?_) Qmh
 refine aU7 ?_
 refine o_h (QV (Cs:=[.blk b9 167 6 (tbV (j:Int) mo rm (some ⟨g9,0,none⟩) (L9).length c9),.blk g9 87 (c9*3) ((L9).flatMap LNd.vals),.star ((L9).map (Qx 50))]) rfl Qi4 rfl aPs (λw1 h1 hf=>QpJ w1 b9 j mo rm g9 c9 L9 al ca l b1 b6 _ _ _ hf hn9 hm9 hj hz hl hlk ((hs.keep h1).mono (Q1 aPs)) (by rw[hF9,hLE2];rfl) (h1.rd_blkF aPs (b:=b1) aPk rfl) (h1.rd_blkF aPs (b:=b6) aPk rfl))) rfl (λ⟨⟨g5,c5⟩,L5⟩hF5=>aU7 ?_)
 refine Qi (L':=[(3,_),(8,_),(9,_),(10,_),(13,_),(14,_),(15,_)]) aSx (λ_ h=>h) ?_
 refine aU4 ?_
 refine sCd rfl (λh7=>?_) λh7=>?_
 ·refine aU2 ?_
  refine o_p (Qw (cs:=[_,_,_,_]) rfl rfl QjT YQ rfl) rfl (aU6 ?_)
  exact Qf (rs:=[.cell 8 24,.tmp 9,.tmp 10]) rfl (.cell rfl Qbt aPk rfl (.tmp rfl (.tmp rfl (.nil)))) (λw' h'=>⟨rfl,h'.below⟩)
 exfalso;first|omega|(simp at h7;done)|(simp_all;done)
theorem Ql5(w:World)(j:Nat)(mo rm:Int)(al:Option Addr)(ca:Nat)(l:List TEnt)(hs:Rw TEnt.vals 2 w [] al l)(hl9:l.length<=1000)(hl:l.length<=118)(hj:j<=3)(hs0:Zs mo rm=0)(hlk:∀x∈l,x.key.length<=1000000)(hx:(QN (Qab (j:Int) mo rm l) 0).2=0):CE 129 #[.int .i64 (j:Int),.int .i64 mo,.int .i64 rm,.slice al l.length ca] w [] (λg:(Nat×Nat)×List LNd=>.tuple #[.agg #[.int .i64 (j:Int),.int .i64 mo,.int .i64 rm,.slice (some ⟨g.1.1,0,none⟩) g.2.length g.1.2],.int .i64 (l.length:Int),.int .i64 0]) (λg=>pln g.2=(ZC (j:Int) mo rm l l.length)) λg=>[.nodes 50 87 (some ⟨g.1.1,0,none⟩) g.1.2 g.2]:=by
 have hz:=QpA hs0
 have hb1:=Qeb (co:=(j:Int)) hz
 refine eN4 Tryz.func129 Tryz.ntmps129 ?_
 refine aU2 ?_
 refine oBx λb1 _=>?_
 refine oAl (λb2 _=>?_) YQ
 refine aU8 ?_
 refine oCh rfl (λw1 h1=>Qpu w1 j mo rm hj hs0) (λ⟨⟨ae,ce⟩,LE⟩hLE=>?_)
 dsimp only
 have hLE2:pln LE=[⟨true,[],[]⟩]:=hLE
 have hLEn:LE.length=1:=by rw[<-Qg,hLE2];rfl
 refine aU3 ?_
 refine oAl (λb3 _=>?_) YQ
 refine Zn ?_
 refine oCq rfl (λw1 h1=>Qa1 w1 _ _) (o_h (Qd (cs:=[_,_]) rfl rfl Xn XK rfl rfl rfl) rfl (λb4 _=>oCq rfl (λw1 h1=>Qjk h1 aPk (by rfl) (by rfl) (by decide)) (Ql (show _=Value.int .i64 0 from by rw[Qpz,if_pos rfl,if_neg om]) (aU7 ?_))))
 refine sCd rfl (λh5=>?_) λh5=>?_
 ·exfalso;first|omega|(simp at h5;done)|(simp_all;done)
 refine aU4 ?_
 refine oCh rfl (λw1 h1=>Qrf w1 j mo rm ae ce LE (HS.nt h1 aPk) (by rw[hLE2];exact hb1.bd hz om) hj om) (λ⟨b9,⟨a9,c9⟩,L9⟩hF9=>?_)
 dsimp only
 have hF92:pln L9=pln LE:=hF9
 refine QfP (λw h=>Qbd (by rw[<-Qg,hF92,Qg];omega) h aPk) λg9=>?_
 refine XQ (λw h=>h.1) λhg9=>XQ (λw h=>h.2.1) λhn9=>XQ (λw h=>h.2.2.1) λhm9=>Xm (λw h=>h.2.2.2) ?_
 subst hg9
 refine oAl (λb6 _=>?_) Qmh
 refine aU7 ?_
 refine o_h (QV (Cs:=[.blk b9 167 6 (tbV (j:Int) mo rm (some ⟨g9,0,none⟩) (L9).length c9),.blk g9 87 (c9*3) ((L9).flatMap LNd.vals),.star ((L9).map (Qx 50))]) rfl Qi4 rfl aPs (λw1 h1 hf=>QpJ w1 b9 j mo rm g9 c9 L9 al ca l b1 b6 _ _ _ hf hn9 hm9 hj hz hl hlk ((hs.keep h1).mono (Q1 aPs)) (by rw[hF9,hLE2];rfl) (h1.rd_blkF aPs (b:=b1) aPk rfl) (h1.rd_blkF aPs (b:=b6) aPk rfl))) rfl (λ⟨⟨g5,c5⟩,L5⟩hF5=>aU7 ?_)
 refine Qi (L':=[(3,_),(8,_),(9,_),(10,_),(13,_),(14,_),(15,_)]) aSx (λ_ h=>h) ?_
 refine aU4 ?_
 refine sCd rfl (λh7=>?_) λh7=>?_
 ·exfalso;first|omega|(simp at h7;done)|(simp_all;done)
 refine Qak ?_
 exact Qf (rs:=[.cell 8 24,.tmp 9,.tmp 10]) rfl (.cell rfl Qbt aPk rfl (.tmp rfl (.tmp rfl (.nil)))) (λw' h'=>⟨((g5,c5),L5),rfl,hF5.1 hx,(QiR (h'.ent (Bs:=[.blk g5 87 (c5*3) (L5.flatMap LNd.vals),.star (L5.map (Qx 50))]) aEt) hF5.2.1 hF5.2.2)⟩)
end Go.Proofs
namespace Gx
open Go Go.RowKit
section
variable{es:List TEnt}{ks:List BT}{k:Nat}
def Zk(es:List TEnt)(ks:List BT):Nat->List TEnt
 | 0=>[]
 | k+1=>(Zk es ks k++if 0<ks.length then(nth ks k).flat else[])++if k<es.length then[nth es k]else[]
def QaW(es:List TEnt)(ks:List BT)(k:Nat):List TEnt:=Zk es ks k++if 0<ks.length then(nth ks k).flat else[]
theorem QaB:Zk es ks (k+1)=QaW es ks k++if k<es.length then[nth es k]else[]:=rfl
theorem Qau(h:k<es.length):Zk es ks (k+1)=QaW es ks k++[nth es k]:=by rw[QaB,if_pos h]
theorem Qea(h:¬k<es.length):Zk es ks (k+1)=QaW es ks k:=by rw[QaB,if_neg h,List.append_nil]
theorem YP(h:0<ks.length):QaW es ks k=Zk es ks k++(nth ks k).flat:=by rw[QaW,if_pos h]
theorem Qed(h:¬0<ks.length):QaW es ks k=Zk es ks k:=by rw[QaW,if_neg h,List.append_nil]
theorem QcJ{α:Type}[Inhabited α]{l:List α}{i:Nat}(h:i<l.length):l.drop i=nth l i::l.drop (i+1):=by
 rw[List.drop_eq_getElem_cons h,show nth l i=l[i]from QH (List.getElem?_eq_getElem h)]
theorem Qgw:∀{k:Nat},k<=es.length->Zk es [] k=es.take k
 | 0,_=>by rw[Zk,List.take_zero]
 | k+1,h=>by
  rw[Qau om,Qed (by simp),Qgw om,List.take_add_one,QB om];rfl
theorem Qgg(h:ks.length=es.length+1):∀{k:Nat},k<=es.length->Zk es ks k++flatL (es.drop k) (ks.drop k)=flatL es ks
 | 0,_=>by rw[Zk,List.drop_zero,List.drop_zero,List.nil_append]
 | k+1,hk=>by
  have h1:=Qgg (k:=k) h om;rw[QcJ (l:=es) (i:=k) om,QcJ (l:=ks) (i:=k) om,flatL]at h1;rw[Qau om,YP om,<-h1];simp
theorem QcO(h:ks=[]\/ks.length=es.length+1):Zk es ks (es.length+1)=flatL es ks:=by
 rcases h with h|h
 ·subst h;rw[Qea om,Qed (by simp),Qgw (Nat.le_refl _),List.take_length,XL]
 ·have h1:=Qgg (k:=es.length) h (Nat.le_refl _);rw[QcJ (l:=ks) (i:=es.length) om,List.drop_length,flatL,List.drop_of_length_le om,flatL]at h1;rw[Qea om,YP om,<-h1,List.append_nil]
theorem Qik:(Zk es ks k).length<=(QaW es ks k).length:=by
 unfold QaW;rw[List.length_append];omega
theorem Qfp:(QaW es ks k).length<=(Zk es ks (k+1)).length:=by
 rw[QaB,List.length_append];omega
theorem Qos{m:Nat}(h:k<=m):(Zk es ks k).length<=(Zk es ks m).length:=by
 obtain⟨d,rfl⟩:=Nat.exists_eq_add_of_le h
 clear h
 induction d with
 | zero=>exact Nat.le_refl _
 | succ d ih=>exact Nat.le_trans ih (Nat.le_trans Qik Qfp)
theorem QeJ(h:ks=[]\/ks.length=es.length+1)(hk:k<=es.length+1):(Zk es ks k).length<=(flatL es ks).length:=by
 rw[<-QcO h];exact Qos hk
theorem QhB(h:ks=[]\/ks.length=es.length+1)(hk:k<=es.length):(QaW es ks k).length<=(flatL es ks).length:=Nat.le_trans Qfp (QeJ h om)
theorem Qhj(h:ks=[]\/ks.length=es.length+1){k:Nat}(hk:k<=es.length+1):∃B,flatL es ks=Zk es ks k++B:=by
 rw[<-QcO h];obtain⟨d,hd⟩:=Nat.exists_eq_add_of_le hk;rw[hd]
 clear hd hk h
 induction d with
 | zero=>exact⟨[],by rw[List.append_nil];rfl⟩
 | succ d ih=>
  obtain⟨B,hB⟩:=ih;rw[show k+(d+1)=(k+d)+1 from rfl,QaB,QaW,hB,List.append_assoc,List.append_assoc];exact⟨_,rfl⟩
theorem Qei(h:ks=[]\/ks.length=es.length+1){k:Nat}(hk:k<=es.length):∃B,flatL es ks=QaW es ks k++B:=by
 obtain⟨B,hB⟩:=Qhj h (k:=k+1) om;rw[hB,QaB,List.append_assoc];exact⟨_,rfl⟩
theorem Qrk(h:ks=[]\/ks.length=es.length+1){k:Nat}(hk:k<es.length):nth es k∈flatL es ks:=(QdE es ks).subset (QX hk)
theorem QkE(h:ks.length=es.length+1){k:Nat}(hk:k<ks.length){x:TEnt}(hx:x∈(nth ks k).flat):x∈flatL es ks:=by
 obtain⟨B,hB⟩:=Qei (.inr h) (k:=k) om;rw[hB,YP om];exact List.mem_append_left _ (List.mem_append_right _ hx)
def NIn(ns:List Nd)(T:BT):Prop:=∀p∈T.nodes,p.1<ns.length/\nth ns p.1=p.2
theorem Q5.nin{ns:List Nd}{T:BT}(h:Q5 ns T):NIn ns T:=λp hp=>RepN.at_ (i:=p.1) (x:=p.2) h hp
theorem NIn.root{ns:List Nd}{i:Nat}(h:NIn ns (.nd i es ks)):i<ns.length/\nth ns i=⟨true,es,QU ks⟩:=by
 refine h (i,⟨true,es,QU ks⟩) ?_;rw[BT.nodes];exact List.mem_cons_self ..
theorem QcF{k:BT}{p:Nat×Nd}:∀{ks:List BT},k∈ks->p∈k.nodes->p∈nodesL ks
 | [],h,_=>(nomatch h)
 | x::ks,h,hp=>by
  rw[nodesL];rcases List.mem_cons.1 h with rfl|h
  ·exact List.mem_append_left _ hp
  ·exact List.mem_append_right _ (QcF h hp)
theorem QmJ{ks:List BT}{k:Nat}(h:k<ks.length):nth ks k∈ks:=QX h
theorem NIn.kid{ns:List Nd}{i:Nat}(h:NIn ns (.nd i es ks))(hk:k<ks.length):NIn ns (nth ks k):=λp hp=>h p (by
 rw[BT.nodes];exact List.mem_cons_of_mem _ (QcF (QmJ hk) hp))
theorem Qej(hk:k<ks.length):(QU ks).getD k 0=((nth ks k).idx:Int):=by
 unfold QU;rw[List.getD_eq_getElem?_getD,List.getElem?_map,QB hk];rfl
theorem QcW{lo hi d i:Nat}(h:Bel lo hi (d+1) (.nd i es ks))(hk:k<ks.length):Bel lo hi d (nth ks k):=(Zq.1 (h.2 _ (QmJ hk))).1
theorem Qh3{lo hi i:Nat}(h:Bel lo hi 0 (.nd i es ks)):ks=[]:=h
end
mutual
theorem Qch(m:Nat):∀T:BT,(∀p∈T.nodes,p.2.es.length<=m)->T.flat.length<=T.nodes.length*m
 | .nd i es ks,h=>by
  rw[BT.nodes]at h ⊢;have h1:=flatL_bound m es ks λp hp=>h p (List.mem_cons_of_mem _ hp);have h2:=h (i,⟨true,es,QU ks⟩) (List.mem_cons_self ..);simp only at h2;rw[BT.flat,List.length_cons,Nat.succ_mul];omega
theorem flatL_bound(m:Nat):∀(es:List TEnt)(ks:List BT),(∀p∈nodesL ks,p.2.es.length<=m)->(flatL es ks).length<=(nodesL ks).length*m+es.length
 | es,[],_=>by
  rw[XL];omega
 | [],k::ks,h=>by
  rw[nodesL]at h ⊢;have h1:=Qch m k λp hp=>h p (List.mem_append_left _ hp);have h2:=flatL_bound m [] ks λp hp=>h p (List.mem_append_right _ hp);rw[flatL,List.length_append,List.length_append,Nat.add_mul];omega
 | e::es,k::ks,h=>by
  rw[nodesL]at h ⊢;have h1:=Qch m k λp hp=>h p (List.mem_append_left _ hp);have h2:=flatL_bound m es ks λp hp=>h p (List.mem_append_right _ hp);rw[flatL,List.length_append,List.length_append,Nat.add_mul,List.length_cons,List.length_cons];omega
end
theorem Q5.flat_len{ns:List Nd}{T:BT}{m:Nat}(h:Q5 ns T)(hm:∀i,i<ns.length->(nth ns i).es.length<=m):T.flat.length<=ns.length*m:=by
 refine Nat.le_trans (Qch m T λp hp=>?_) (Nat.mul_le_mul_right m h.nlen);have h1:=h.nin p hp;rw[<-h1.2];exact hm _ h1.1
theorem Qo9{es:List TEnt}{ks:List BT}{k:Nat}(h:ks.length=es.length+1)(hk:k<ks.length):(nth ks k).flat.length<=(flatL es ks).length:=by
 have h1:=congrArg List.length (YP (es:=es) (ks:=ks) (k:=k) om);rw[List.length_append]at h1;have h2:=QhB (es:=es) (ks:=ks) (k:=k) (.inr h) om;omega
end Gx
namespace Go.Proofs
open Go Go.RowKit Gx
attribute [local irreducible] Go.Calls Gx.S Gx.O Gx.D Gx.OpP Gx.OpQ Gx.OpH
set_option maxRecDepth 20000
theorem QoB{w0 w:World}{M:List Nat}{As As':List HA}{a:Option Addr}{cap t k g:Nat}{l:List TEnt}(hk:k<l.length)(hg:a=some ⟨g,0,none⟩)(h:HS w0 M As w)(hp:Qv As (.own (.slice a l.length cap) t 2 l.length (l.flatMap TEnt.vals)) As')(q:Nat)(v:Value)(hv:(TEnt.vals (nth l k))[q]?=some v):Rd w [] g (0+k*2+q) v:=by
  have h1:=Rw.rd (h.rw_own ev2 hp rfl) (i:=k) hk q v hv;rw[hg]at h1;exact h1
theorem QlX:QE Tryz.prog 141=true:=by kernel_rfl
theorem Qrq:QE Tryz.prog 89=true:=by kernel_rfl
def AllC(S:Type)(I:Nat->S->Prop)(C:S->HA)(st:S->TEnt->S->Prop)(co:S->Bool)(Q:TEnt->Prop)(lr:Nat)(bt:Nat)(j:Nat)(mo rm:Int)(a:Option Addr)(cap:Nat)(L:List LNd)(T:BT):Prop:=∀(w:World)(s:S)(r:Nat),(HS w (fps [C s]) [C s] w)->((∀(n:Nat)(s2:S)(x:TEnt)(w1:World),HS w (fps [C s]) [C s2] w1->I (n+1) s2->Q x->YO Tryz.prog lr [Value.agg (TEnt.vals x).toArray].toArray w1 λe w2=>∃s3:S,e=.returned (.bool (co s3))/\(st s2 x s3/\(co s3=true->I n s3))/\HS w1 (fps [C s2]) [C s3] w2))->(TbR w (fps [C s]) bt (j:Int) mo rm a L.length cap)->(Nt w (fps [C s]) a L)->(∀x∈T.flat,Q x)->((T.flat).length<=10000)->(I ((T.flat).length+r) s)->Calls Tryz.prog 141 #[.pointer (some ⟨bt,0,none⟩),.int .i64 (T.idx:Int),.func (.yield lr) #[] #[]] w λen w'=>∃g:S×Bool,en=.returned (.bool g.2)/\(RunY st co s T.flat g.1 g.2/\(g.2=true->I r g.1))/\HS w (fps [C s]) [C g.1] w'
theorem Qpp(w:World)(S:Type)(I:Nat->S->Prop)(C:S->HA)(st:S->TEnt->S->Prop)(co:S->Bool)(Q:TEnt->Prop)(lr:Nat)(bt:Nat)(j:Nat)(mo rm:Int)(a:Option Addr)(cap:Nat)(L:List LNd)(i:Nat)(es:List TEnt)(ks:List BT)(s:S)(r:Nat)(hw:HS w (fps [C s]) [C s] w)(hv:(∀(n:Nat)(s2:S)(x:TEnt)(w1:World),HS w (fps [C s]) [C s2] w1->I (n+1) s2->Q x->YO Tryz.prog lr [Value.agg (TEnt.vals x).toArray].toArray w1 λe w2=>∃s3:S,e=.returned (.bool (co s3))/\(st s2 x s3/\(co s3=true->I n s3))/\HS w1 (fps [C s2]) [C s3] w2))(ht:TbR w (fps [C s]) bt (j:Int) mo rm a L.length cap)(hs:Nt w (fps [C s]) a L)(hQ:∀x∈(flatL es ks),Q x)(hf:((flatL es ks)).length<=10000)(hI:I (((flatL es ks)).length+r) s)(hl:L.length<=1000)(hi:i<L.length)(hn:nth (pln L) i=⟨true,es,QU ks⟩)(hsh:ks=[]\/ks.length=es.length+1)(ih:∀k,k<ks.length->AllC S I C st co Q lr bt j mo rm a cap L (nth ks k)):CE 141 #[.pointer (some ⟨bt,0,none⟩),.int .i64 (i:Int),.func (.yield lr) #[] #[]] w (fps [C s]) (λg:S×Bool=>.bool g.2) (λg=>(RunY st co s (flatL es ks) g.1 g.2/\(g.2=true->I r g.1))) λg=>[C g.1]:=by
 rw[Qz hi]at hn
 have hes:(nth L i).es=es:=congrArg Nd.es hn
 have hcs:(nth L i).cs=QU ks:=congrArg Nd.cs hn
 have hesl:(nth L i).es.length=es.length:=by rw[hes]
 have hcsl:(nth L i).cs.length=ks.length:=by rw[hcs,Xi]
 have hel:es.length<=10000:=Nat.le_trans (QdE es ks).length_le hf
 have hkl:ks.length<=10001:=by rcases hsh with h|h;rw[h];exact Nat.zero_le _;omega
 refine eW3 Tryz.func141 Tryz.ntmps141 hw ?_
 refine Zn ?_
 refine o_q (Qc rfl rfl YY (ht 3 _ rfl)) rfl (aU ?_)
 refine o_p (Qa rfl rfl rfl Xx (i) om om (Rw.some hs.1 om)) rfl (o_q (Qm _ rfl rfl Qbj rfl (Rw.rd hs.1 hi)) rfl (oAl (λb1 _=>?_) YX))
 refine aT9 ?_
 refine aU3 ?_
 refine Qi (L':=[(0,_),(2,_),(6,_),(7,_),(20,_),(21,_)]) aSx (λ_ h=>h) ?_
 refine Qt (α:=Nat×S) [6,8,21,22,23,24,25,26,27,28,29,30,31,32,33,34,35,36,37,38,39,40,41,42,43,44,45,46,47,48,49,50,51,52,53,54] (λx=>[(21,.int .i64 (x.1:Int))]) (λx=>HS w (fps [C s]) [.blk b1 87 3 (nth L i).vals,C x.2]) (λx=>x.1<=es.length+1/\RunY st co s (Zk es ks x.1) x.2 true/\I ((flatL es ks).length-(Zk es ks x.1).length+r) x.2) (λx=>es.length+1-x.1) (0,s) ⟨Nat.zero_le _,.nil s,hI⟩ aSx (λw h=>h.ent aEt) (λ⟨k,sk⟩hx=>?_)
 dsimp only
 obtain⟨hk1,hk2,hk3⟩:=hx
 simp only[]at hk1 hk2 hk3
 have hm1:=QeJ (k:=k) hsh hk1
 refine aU5 ?_
 refine sCd rfl (λh2=>?_) λh2=>?_
 ·have hke:k<=es.length:=by have hq:=h2;omega
  have hm2:=QhB hsh hke
  have hm3:=QeJ (k:=k+1) hsh om
  have hm6:=Qik (es:=es) (ks:=ks) (k:=k)
  have hm7:=Qfp (es:=es) (ks:=ks) (k:=k)
  refine Qqa ?_
  refine Qjb (α:=S×Bool) 10 28 38 _ (λx=>!x.2) (λx=>HS w (fps [C s]) [.blk b1 87 3 (nth L i).vals,C x.1]) (λx=>RunY st co s (QaW es ks k) x.1 x.2/\(x.2=true->I ((flatL es ks).length-(QaW es ks k).length+r) x.1)) rfl
   (by
    intro hg3
    have hs4:=hg3;try simp only[dT]at hs4
    have hk0:0<ks.length:=by have hq:=hg3;simp at hq;omega
    have hsk:ks.length=es.length+1:=by rcases hsh with h|h;rw[h]at hk0;exact absurd hk0 (by decide);exact h
    have hkk:k<ks.length:=om
    have hm4:=congrArg List.length (YP (es:=es) (k:=k) hk0)
    rw[List.length_append]at hm4
    refine aU9 ?_
    refine o_p (Qa rfl rfl rfl QD (k) om om (Rw.some (hs.cs hi) om)) rfl (aU ?_)
    refine o_q (Qc rfl rfl XB (((hs.cs hi).rdj 0 (i:=k) om rfl))) rfl (Ql (show _=Value.int .i64 ((nth ks k).idx:Int)from congrArg (Value.int .i64) (by rw[hcs];exact Qej hkk)) (aU3 ?_))
    refine o_h (QV (Cs:=[C sk]) rfl QlX rfl aPs (λw1 h1 hf9=>ih k hkk w1 sk ((flatL es ks).length-(QaW es ks k).length+r) hf9 (λn9 s2 x w2 h2 hI2 hQ2=>hv n9 s2 x w2 (HS.thenF (h1.ent (Bs:=[C sk]) aEt) h2) hI2 hQ2) ((ht.keep h1).mono (Q1 aPs)) ((hs.keep h1).mono (Q1 aPs)) (λx hx=>hQ x (QkE hsk hkk hx)) (Nat.le_trans (Qo9 hsk hkk) hf) (by rw[show(nth ks k).flat.length+((flatL es ks).length-(QaW es ks k).length+r)=((flatL es ks).length-(Zk es ks k).length+r)from om];exact hk3))) rfl (λ⟨sm,bm⟩hRm=>aU2 ?_)
    refine o_p (XI rfl rfl hg3 rfl) rfl (aU ?_)
    exact Qn (sm,bm) ⟨by rw[YP hk0];exact hk2.app hRm.1,hRm.2⟩ aSx (λw h=>h.ent aEt))
   (by
    intro hg5
    have hs6:=hg5;try simp only[dN]at hs6
    have hk0:¬0<ks.length:=by have hq:=hg5;simp at hq;omega
    refine aU9 ?_
    refine o_p (Q8 rfl rfl hg5 rfl) rfl (aU ?_)
    exact Qn (sk,true) ⟨by rw[Qed hk0];exact hk2,λ_=>by rw[Qed hk0];exact hk3⟩ aSx (λw h=>h.ent aEt)) ?_
  intro⟨sm,bm⟩ hx
  dsimp only
  obtain⟨hR1,hI1⟩:=hx
  simp only[]at hR1 hI1
  refine aU ?_
  refine sCd rfl (λh7=>?_) λh7=>?_
  ·obtain rfl:bm=false:=by have hq:=h7;simpa using hq
   obtain⟨B9,hB9⟩:=Qei hsh hke
   refine aU4 ?_
   exact rT rfl rfl (λw' h'=>⟨(sm,false),rfl,⟨by rw[hB9];exact hR1.off B9,λh=>by cases h⟩,h'.ent aEt⟩)
  obtain rfl:bm=true:=by have hq:=h7;simpa using hq
  refine aU9 ?_
  refine Qjb (α:=S×Bool) 9 44 53 _ (λx=>!x.2) (λx=>HS w (fps [C s]) [.blk b1 87 3 (nth L i).vals,C x.1]) (λx=>RunY st co s (Zk es ks (k+1)) x.1 x.2/\(x.2=true->I ((flatL es ks).length-(Zk es ks (k+1)).length+r) x.1)) rfl
   (by
    intro hg8
    have hs9:=hg8;try simp only[dT]at hs9
    have hke2:k<es.length:=by have hq:=hg8;simp at hq;omega
    have hm5:=congrArg List.length (Qau (es:=es) (ks:=ks) hke2)
    rw[List.length_append,List.length_singleton]at hm5
    refine aU9 ?_
    refine o_p (Qa rfl rfl rfl Xg (k) om om (Rw.some (hs.es hi) om)) rfl (aU ?_)
    refine o_q (Qm _ rfl rfl Z4 rfl (Rw.rd (hs.es hi) om)) rfl (Ql (show _=Value.agg (TEnt.vals (nth es k)).toArray from by rw[hes]) (aU ?_))
    refine o_h (Qhn (Cs:=[C sm]) rfl rfl rfl aPs (λw1 h1 hf9=>hv ((flatL es ks).length-(Zk es ks (k+1)).length+r) sm (nth es k) w1 (h1.ent aEt) (by rw[show((flatL es ks).length-(Zk es ks (k+1)).length+r)+1=((flatL es ks).length-(QaW es ks k).length+r)from om];exact hI1 rfl) (hQ _ (Qrk hsh hke2)))) rfl (λsy hRy=>aU2 ?_)
    refine o_p (XI rfl rfl hg8 rfl) rfl (aU ?_)
    exact Qn (sy,co sy) ⟨by rw[Qau hke2];exact hR1.app (RunY.one hRy.1),hRy.2⟩ aSx (λw h=>h.ent aEt))
   (by
    intro hg10
    have hs11:=hg10;try simp only[dN]at hs11
    have hke2:¬k<es.length:=by have hq:=hg10;simp at hq;omega
    refine aU8 ?_
    refine o_p (Q8 rfl rfl hg10 rfl) rfl (aU ?_)
    exact Qn (sm,true) ⟨by rw[Qea hke2];exact hR1,λ_=>by rw[Qea hke2];exact hI1 rfl⟩ aSx (λw h=>h.ent aEt)) ?_
  intro⟨sy,by9⟩ hx
  dsimp only
  obtain⟨hR2,hI2⟩:=hx
  simp only[]at hR2 hI2
  refine aU ?_
  refine sCd rfl (λh12=>?_) λh12=>?_
  ·obtain rfl:by9=false:=by have hq:=h12;simpa using hq
   obtain⟨B9,hB9⟩:=Qhj hsh (show k+1<=es.length+1 by omega)
   refine aU4 ?_
   exact rT rfl rfl (λw' h'=>⟨(sy,false),rfl,⟨by rw[hB9];exact hR2.off B9,λh=>by cases h⟩,h'.ent aEt⟩)
  obtain rfl:by9=true:=by have hq:=h12;simpa using hq
  refine aT4 ?_
  refine aU2 ?_
  exact sBk (k+1,sy) (by(try simp only[]);omega) ⟨by(try simp only[]);omega,hR2,hI2 rfl⟩
 refine Qj rfl ?_
 refine aU4 ?_
 exact rT rfl rfl (λw' h'=>⟨(sk,true),rfl,by have hke:k=es.length+1:=om;rw[<-QcO hsh,<-hke];exact⟨hk2,λ_=>by rw[<-QcO hsh,<-hke,Nat.sub_self,Nat.zero_add]at hk3;exact hk3⟩,h'.ent aEt⟩)
theorem c141(S:Type)(I:Nat->S->Prop)(C:S->HA)(st:S->TEnt->S->Prop)(co:S->Bool)(Q:TEnt->Prop)(lr:Nat)(bt:Nat)(j:Nat)(mo rm:Int)(a:Option Addr)(cap:Nat)(L:List LNd)(hl:L.length<=1000):∀(d:Nat)(T:BT)(lo hi:Nat),Bel lo hi d T->NIn (pln L) T->AllC S I C st co Q lr bt j mo rm a cap L T
  | 0,.nd i es ks,lo,hi,hB,hN=>λw s r hw hv ht hs hQ hf hI=>by
    rw[BT.flat]at hQ hf hI ⊢;have hk:=Qh3 hB;exact Qpp w S I C st co Q lr bt j mo rm a cap L i es ks s r hw hv ht hs hQ hf hI hl (by have h9:=hN.root.1;rwa[Qg]at h9) hN.root.2 (.inl hk) (λk h=>by rw[hk]at h;exact absurd h (Nat.not_lt_zero _))
  | d+1,.nd i es ks,lo,hi,hB,hN=>λw s r hw hv ht hs hQ hf hI=>by
    rw[BT.flat]at hQ hf hI ⊢;exact Qpp w S I C st co Q lr bt j mo rm a cap L i es ks s r hw hv ht hs hQ hf hI hl (by have h9:=hN.root.1;rwa[Qg]at h9) hN.root.2 (.inr hB.1) (λk h=>c141 S I C st co Q lr bt j mo rm a cap L hl d (nth ks k) lo hi (QcW hB h) (hN.kid h))
theorem QrR(w:World)(S:Type)(I:Nat->S->Prop)(C:S->HA)(st:S->TEnt->S->Prop)(co:S->Bool)(Q:TEnt->Prop)(lr:Nat)(bt:Nat)(j:Nat)(mo rm:Int)(a:Option Addr)(cap:Nat)(L:List LNd)(T:BT)(d lo hi:Nat)(s:S)(r:Nat)(hw:HS w (fps [C s]) [C s] w)(hv:(∀(n:Nat)(s2:S)(x:TEnt)(w1:World),HS w (fps [C s]) [C s2] w1->I (n+1) s2->Q x->YO Tryz.prog lr [Value.agg (TEnt.vals x).toArray].toArray w1 λe w2=>∃s3:S,e=.returned (.bool (co s3))/\(st s2 x s3/\(co s3=true->I n s3))/\HS w1 (fps [C s2]) [C s3] w2))(ht:TbR w (fps [C s]) bt (j:Int) mo rm a L.length cap)(hs:Nt w (fps [C s]) a L)(hQ:∀x∈T.flat,Q x)(hf:(T.flat).length<=10000)(hI:I ((T.flat).length+r) s)(hl:L.length<=1000)(hB:Bel lo hi d T)(hN:NIn (pln L) T)(h0:T.idx=0):CE 141 #[.pointer (some ⟨bt,0,none⟩),.int .i64 0,.func (.yield lr) #[] #[]] w (fps [C s]) (λg:S×Bool=>.bool g.2) (λg=>(RunY st co s T.flat g.1 g.2/\(g.2=true->I r g.1))) λg=>[C g.1]:=by
  have h9:=c141 S I C st co Q lr bt j mo rm a cap L hl d T lo hi hB hN w s r hw hv ht hs hQ hf hI;rw[h0]at h9;exact h9
theorem QoF{St α:Type}{st:St->α->St->Prop}{f:St->List α}{l:List α}{s s1:St}{b:Bool}(hst:∀s x s',st s x s'->f s'=f s++[x])(h:RunY st (λ_=>true) s l s1 b):f s1=f s++l:=by
  induction h with
  | nil s=>rw[List.append_nil]
  | go h hc _ ih=>rw[ih,hst _ _ _ h,List.append_assoc];rfl
  | stop h hc=>cases hc
theorem c89(w:World)(S:Type)(I:Nat->S->Prop)(C:S->HA)(st:S->TEnt->S->Prop)(co:S->Bool)(Q:TEnt->Prop)(lr:Nat)(bt:Nat)(j:Nat)(mo rm:Int)(a:Option Addr)(cap:Nat)(L:List LNd)(T:BT)(d lo hi:Nat)(s:S)(r:Nat)(hw:HS w (fps [C s]) [C s] w)(hv:(∀(n:Nat)(s2:S)(x:TEnt)(w1:World),HS w (fps [C s]) [C s2] w1->I (n+1) s2->Q x->YO Tryz.prog lr [Value.agg (TEnt.vals x).toArray].toArray w1 λe w2=>∃s3:S,e=.returned (.bool (co s3))/\(st s2 x s3/\(co s3=true->I n s3))/\HS w1 (fps [C s2]) [C s3] w2))(ht:TbR w (fps [C s]) bt (j:Int) mo rm a L.length cap)(hs:Nt w (fps [C s]) a L)(hQ:∀x∈T.flat,Q x)(hf:(T.flat).length<=10000)(hI:I ((T.flat).length+r) s)(hl:L.length<=1000)(hB:Bel lo hi d T)(hN:NIn (pln L) T)(h0:T.idx=0):CE 89 #[.pointer (some ⟨bt,0,none⟩),.func (.yield lr) #[] #[]] w (fps [C s]) (λg:S×Bool=>.tuple #[]) (λg=>(RunY st co s T.flat g.1 g.2/\(g.2=true->I r g.1))) λg=>[C g.1]:=by
 refine eW2 Tryz.func89 Tryz.ntmps89 hw ?_
 refine aU3 ?_
 refine o_h (QV (Cs:=[C s]) rfl QlX rfl aPs (λw1 h1 hf9=>QrR w1 S I C st co Q lr bt j mo rm a cap L T d lo hi s r hf9 (λn9 s2 x w2 h2 hI2 hQ2=>hv n9 s2 x w2 (HS.thenF (h1.ent (Bs:=[C s]) aEt) h2) hI2 hQ2) ((ht.keep h1).mono (Q1 aPs)) ((hs.keep h1).mono (Q1 aPs)) hQ hf hI hl hB hN h0)) rfl (λ⟨sm,bm⟩hRm=>aU ?_)
 exact Qcr rfl (λw' h'=>⟨(sm,bm),rfl,hRm,h'.ent aEt⟩)
theorem c140(w:World)(bt:Nat)(j:Nat)(mo rm:Int)(a:Option Addr)(cap:Nat)(L:List LNd)(T:BT)(d lo hi:Nat)(hs:Nt w [] a L)(ht:TbR w [] bt (j:Int) mo rm a L.length cap)(hl:L.length<=1000)(hB:Bel lo hi d T)(hN:NIn (pln L) T)(h0:T.idx=0)(hf:T.flat.length<=10000):CE 140 #[.slice none 0 0,.func (.func 89) #[.pointer (some ⟨bt,0,none⟩)] #[]] w [] (λg:Option Addr×Nat=>.slice g.1 (T.flat).length g.2) (λg=>True) λg=>[.own (.slice g.1 (T.flat).length g.2) 50 2 (T.flat).length ((T.flat).flatMap TEnt.vals)]:=by
 refine eN2 Tryz.func140 Tryz.ntmps140 ?_
 refine aU2 ?_
 refine oBx λb1 _=>?_
 refine aU8 ?_
 refine Qod (G:={s:((Option Addr×Nat)×List TEnt) // s.2=T.flat}) (Bs:=λs=>[.blk b1 85 1 [.slice s.1.1.1 s.1.2.length s.1.1.2],.own (.slice s.1.1.1 (s.1.2).length s.1.1.2) 50 2 (s.1.2).length ((s.1.2).flatMap TEnt.vals)]) (jmp:=λ_=>none) rfl rfl rfl Qrq (λfid D l a9 w1 ob hob ha9 hw1=>?_) (λD x=>?_)
 ·skip
  have h2:HS w [] [(λs=>.star [.obj l ob,.obj D (.deferred (some [])),.blk b1 85 1 [.slice s.1.1 s.2.length s.1.2],.own (.slice s.1.1 (s.2).length s.1.2) 50 2 (s.2).length ((s.2).flatMap TEnt.vals)]) ((none,0),[])] w1:=HS.star_close (Bs:=[_,_,_,_]) ((hw1.own_nil 50 2).ent aEt)
  refine Calls.mono (c89 w1 ((Option Addr×Nat)×List TEnt) (λn s=>s.2.length+n<=10000) (λs=>.star [.obj l ob,.obj D (.deferred (some [])),.blk b1 85 1 [.slice s.1.1 s.2.length s.1.2],.own (.slice s.1.1 (s.2).length s.1.2) 50 2 (s.2).length ((s.2).flatMap TEnt.vals)]) (λs x s3=>s3.2=s.2++[x]) (λ_=>true) (λ_=>True) l bt j mo rm a cap L T d lo hi ((none,0),[]) 0 (HS.focus (Cs:=[_]) (Ds:=[]) h2) ?_ (ht.keep h2) (hs.keep h2) (λ_ _=>trivial) hf (by show 0+_<=_;omega) hl hB hN h0) λe w2 hx=>?_
  rotate_left
  ·obtain⟨⟨sm,bm⟩,he,⟨hr,_⟩,h5⟩:=hx
   refine⟨⟨_,he⟩,⟨sm,by have h7:=QoF (f:=λs:((Option Addr×Nat)×List TEnt)=>s.2) (λ_ _ _ h=>h) hr;simpa using h7⟩,?_⟩
   have h6:=HS.star_open (HS.callA h2 h5)
   subst hob
   exact h6.ent aEt
  intro n9 s2 x w3 h3 hI2 _
  have h4:=HS.star_open (HS.focus (Cs:=[_]) (Ds:=[]) h3)
  subst hob
  obtain⟨⟨ga,gc⟩,lg⟩:=s2
  dsimp only at h4 hI2 ⊢
  refine QcH (α:=Nat) (fn:=Tryz.f140) (As1:=λb5=>.obj D (.deferred (some []))::[.blk b1 85 1 [.slice ga lg.length gc],.own (.slice ga (lg).length gc) 50 2 (lg).length ((lg).flatMap TEnt.vals),.blk b5 50 2 (TEnt.vals x)]) (L1:=λb5=>[(5,.pointer (some ⟨b5,0,none⟩)),(2,.pointer (some ⟨b1,0,none⟩))]) h4 rfl (FR.round1 ha9 7 _ rfl) ?_ ?_
  ·skip
   refine aU ?_
   refine oAl (λb2 _=>?_) XU
   refine aU2 ?_
   exact Qck b2 aSx (λw h=>h.ent aEt)
  skip
  intro b5
  refine aU4 ?_
  refine o_h (Qd (cs:=[_,_]) rfl rfl Xg XU rfl rfl rfl) rfl (λb3 _=>o_h (QA (TEnt.vals x) rfl rfl rfl Xg Tryz.underlying85 XU rfl aPk (QZ aPk) rfl (ev1 _) om (by simp only[maxLen];omega)) rfl (λb4 _=>aU3 ?_))
  exact Zd rfl aPk (λw h=>⟨(b4,lg++[x]),rfl,⟨rfl,λ_=>by simp only[List.length_append,List.length_singleton];omega⟩,by refine HS.star_close (Bs:=[_,_,_,_]) ?_;simp only[List.length_append,List.length_singleton,List.flatMap_append,List.flatMap_cons,List.flatMap_nil,List.append_nil];exact h.ent aEt⟩)
 skip
 obtain⟨⟨⟨gx,gy⟩,lg⟩,hlg⟩:=x
 dsimp only at hlg
 subst hlg
 dsimp only
 refine QkT (.inl rfl) ?_
 refine aU5 ?_
 exact QaF (rs:=[.tmp 4]) rfl aPk (.tmp rfl (.nil)) (λw' h'=>⟨(gx,gy),rfl,trivial,h'.ent aEt⟩)
end Go.Proofs
