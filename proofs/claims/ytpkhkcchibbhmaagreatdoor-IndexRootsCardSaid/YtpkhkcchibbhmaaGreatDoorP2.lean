/- Contracts of the program's functions, proved by walking them with the rules of the Gx texts; without conditions beyond those that each contract names. -/
import Derived.WalkKit
import Derived.Deep.Draws
import Derived.TacticsIn
import Derived.OrdersIn
import Derived.RangeFuncLeaves
import Derived.Lib.Strings
import Derived.Laws.BytesArg
import Derived.Laws.IdiomStrings
import Derived.Deep.Quiet
import Derived.ProofKit
import Derived.OpenShut
import Derived.Laws.StructEq
import Derived.ChangeKeysEq
import Derived.Laws.Externs
import Derived.Lib.Overlaps
import Derived.Carry
import Derived.Laws.Small
import Derived.Lib.Bytealg
import Derived.Lib.Builder
import Derived.Laws.Pointers
import Derived.RangeFuncRecord
import Derived.Test.YtpkhkcchibbhmaaGreatDoorProg
import Derived.KernelRfl
import Derived.SizedLaws
import Derived.ChangeSame
import Derived.Handed
import Derived.Test.YtpkhkcchibbhmaaGreatDoorTie
import Derived.Test.YtpkhkcchibbhmaaGreatDoorCards
import Derived.SevenTiedAt
import Derived.LaidMore
import Derived.Lay
import Derived.Stop.Joined
import Derived.Test.YtpkhkcchibbhmaaGreatDoorP1
set_option linter.unusedSimpArgs false
set_option linter.unusedVariables false
set_option linter.unusedSectionVars false
set_option linter.unnecessarySimpa false
namespace Go.Proofs
open Go Go.RowKit Gx
attribute [local irreducible] Go.Calls Gx.S Gx.O Gx.D Gx.OpP Gx.OpQ Gx.OpH
set_option maxRecDepth 20000
theorem QsR : QO Tryz.prog 4 = some [.bool false]:=by kernel_rfl
theorem Qsf : QO Tryz.prog 102 = some [.slice none 0 0]:=by kernel_rfl
theorem c200 (w : World) (bt : Nat) (j : Nat) (mo rm : Int) (a : Option Addr) (cap : Nat) (L : List LNd) (ht : TbR w [] bt (j : Int) mo rm a L.length cap) (hs : Nt w [] a L) (hj : j ≤ 3) (hmo : 0 ≤ mo ∧ mo ≤ 1000) (h0 : 0 < L.length) (hB : Bd (pln L)) (hT : TOk (j : Int) (pln L)) : Calls Tryz.prog 200 #[.pointer (some ⟨bt,0,none⟩)] w fun en w'=>en = .returned (.tuple #[.int .i64 (Qbi (⟨(j : Int),mo,rm,pln L⟩ : Tre)).1,.int .i64 (Qbi (⟨(j : Int),mo,rm,pln L⟩ : Tre)).2]) ∧ Below w.heap.size w w':=by
 have hle:=hB.len
 rw [Qh] at hle
 have hvis : vis (pln L) L.length QbB = YH (pln L):=by unfold YH;rw [Qh]
 have hmar:=Qkb (YH (pln L)) (List.replicate L.length false)
 rw [List.length_replicate] at hmar
 have hbel : ∀ i,i < L.length → (Xs Qeu (fun _ _=>(0,0)) (List.replicate L.length false) (YH (pln L))).2.getD i false = decide (i ∈ (YH (pln L)).map Vis.i):=fun i hi=>by rw [hmar.2.2 i hi,show (List.replicate L.length false).getD i false = false from by rw [List.getD_eq_getElem?_getD,List.getElem?_replicate];split <;> rfl,Bool.false_or]
 have hes9 : ∀ i,i < L.length → (nth L i).es.length ≤ 1000:=fun i hi=>by have h9:=hB.es i (by rw [Qh];exact hi);rw [QZ hi] at h9;exact h9
 have hcs9 : ∀ i,i < L.length → (nth L i).cs.length ≤ 1000:=fun i hi=>by have h9:=hB.cs i (by rw [Qh];exact hi);rw [QZ hi] at h9;exact h9
 have hok9 : ∀ i,i < L.length → ∀ x ∈ (nth L i).es,QP (j : Int) x.key = true ∧ x.key.length ≤ 1000000:=fun i hi=>by have h9:=Qc0 hT (i:=i) (by rw [Qh];exact hi);rw [QZ hi] at h9;exact h9
 refine enter (args:=[_]) Tryz.func200 Tryz.ntmps200 rfl rfl (HS.refl w []) ?_
 refine aS2 ?_
 refine oBx fun b1 _=>?_
 refine aS9 ?_
 refine o_q (Qe rfl rfl Zx (ht 3 _ rfl)) rfl ?_
 refine aS ?_
 refine o_h (Qhk (n:=L.length) rfl rfl rfl QaW QsR (by omega) (by omega)) rfl (fun b2 _=>?_)
 refine Yj (fun w h=>(show HS _ _ [.blk b2 4 L.length ((List.replicate L.length false).map Value.bool),.blk b1 158 1 [.pointer (some ⟨bt,0,none⟩)]] w from by have h9:=h;rw [Nat.mul_one,Qdw,← List.map_replicate] at h9;exact h9.ent aEt)) ?_
 refine oAl (fun b3 _=>?_) Qsf
 refine oSt ?_
 refine aS5 ?_
 refine o_h (Xw (Cs:=[.blk b2 4 L.length ((List.replicate L.length false).map Value.bool)]) rfl QjB rfl aPs (fun w1 h1 hf=>by have h9:=Qj5 (List Bool) (fun s=>s.length = L.length) (fun s=>.blk b2 4 L.length (s.map Value.bool)) Qeu (fun _ _=>(0,0)) 236 #[.pointer (some ⟨b3,0,none⟩)] bt j mo rm a cap L L.length w1 (List.replicate L.length false) QbB none none [] hf (by kernel_rfl) (fun _ _=>rfl) (fun s v h=>by simpa [Qeu] using h) (by simp) (fun s2 v2 p2 p3 w2 h2 hs2 hi2 _ _ _ _=>c236 w2 v2.i v2.d p2 p3 b3 b2 L.length s2 (HS.focus (Cs:=[_]) (Ds:=[]) h2) (h2.keep (h1.rd_blkF aPs (b:=b3) aPk rfl)) hi2 hs2) ((ht.keep h1).mono (Xc aPs)) ((hs.keep h1).mono (Xc aPs)) hT hB rfl rfl h0 rfl (by simp) rfl (fun _ h=>by cases h) (fun _ h=>by cases h);rw [hvis] at h9;exact h9)) rfl (fun _ _=>?_)
 refine aS3 ?_
 refine Yj (fun w h=>(show HS _ _ [.blk b2 4 L.length ((Xs Qeu (fun _ _=>(0,0)) (List.replicate L.length false) (YH (pln L))).2.map Value.bool),.blk b3 102 1 [.slice (some ⟨b2,0,none⟩) L.length L.length],.blk b1 158 1 [.pointer (some ⟨bt,0,none⟩)]] w from h.ent aEt)) ?_
 refine aS8 ?_
 refine o_q (Qe rfl rfl Zx (ht 3 _ rfl)) rfl ?_
 refine aS4 ?_
 refine Qm (L':=[(1,_),(2,_),(3,_),(4,_),(25,_),(26,_),(27,_)]) aSx (fun _ h=>h) ?_
 refine QB (α:=Nat) [2,3,5,6,27,28,29,30,31,32,33,34,35,36,37,38,39,40,41,42] (fun k=>[(27,.int .i64 (k : Int))]) (fun _=>HS w [] [.blk b2 4 L.length ((Xs Qeu (fun _ _=>(0,0)) (List.replicate L.length false) (YH (pln L))).2.map Value.bool),.blk b3 102 1 [.slice (some ⟨b2,0,none⟩) L.length L.length],.blk b1 158 1 [.pointer (some ⟨bt,0,none⟩)]]) (fun k=>k ≤ L.length ∧ Qbr (pln L) ((YH (pln L)).map Vis.i) L.length 0 = Qbr (pln L) ((YH (pln L)).map Vis.i) (L.length - k) k) (fun k=>L.length - k) 0 ⟨Nat.zero_le _,rfl⟩ aSx (fun w h=>h.ent aEt) (fun k hx=>?_)
 obtain ⟨hk1,hk2⟩:=hx
 refine aS5 ?_
 refine Qc rfl (fun h4=>?_) fun h4=>?_
 ·try simp only [dT] at h4
  have hkl : k < L.length:=by omega
  have hst:=Qgp (ns:=pln L) (below:=(YH (pln L)).map Vis.i) (k:=k) (by rw [Qh];exact hkl)
  rw [Qh,QZ hkl] at hst
  refine aS6 ?_
  refine o_p (Qa rfl rfl rfl Xm (k) (by omega) (by omega) (Rw.some hs.1 (by omega))) rfl ?_
  refine o_q (QA _ rfl rfl Xz rfl (Rw.rd hs.1 hkl)) rfl ?_
  refine oAl (fun b5 _=>?_) Yp
  refine aS ?_
  refine oSt ?_
  refine aS6 ?_
  refine Xq 6 34 40 _ _ rfl
   (by
    intro hg6
    have hs7:=hg6;skip
    refine oOn 34 hg6 ?_
    refine aS ?_
    refine oOn 34 hg6 ?_
    refine aS ?_
    refine oOn 34 hg6 ?_
    refine o_p (Qa rfl rfl rfl QaW (k) (by omega) (by omega) rfl) rfl ?_
    refine oOn 34 hg6 ?_
    refine o_q (X1 rfl rfl Qf4 (fun w h=>by rw [Nat.zero_add,Nat.mul_one];exact h.rd_blk (Mc:=[]) (b:=b2) aPk (QnJ (by rw [hmar.2.1];exact hkl)) (by simp))) rfl ?_
    refine oOn 34 hg6 ?_
    refine aS ?_
    refine o_p (Qg rfl rfl hg6 rfl) rfl ?_
    refine aS ?_
    exact oJn 6 40)
   (by
    intro hg8
    have hs9:=hg8;skip
    refine oOf 34 hg8 ?_
    refine oOf 34 hg8 ?_
    refine oOf 34 hg8 ?_
    refine oOf 34 hg8 ?_
    refine oOf 34 hg8 ?_
    refine o_p (Qf rfl rfl hg8 rfl) rfl ?_
    refine aS ?_
    exact oJn 6 40) ?_
  refine aS ?_
  refine Qc rfl (fun h10=>?_) fun h10=>?_
  ·try simp only [Bool.and_eq_true,Bool.not_eq_true'] at h10
   have hz : (nth L k).pl.us = true ∧ k ∉ (YH (pln L)).map Vis.i:=by have hq:=h10;rw [hbel k hkl] at hq;simp only [LNd.pl];simpa using hq
   refine aS6 ?_
   exact Qq (rs:=[.tmp 2,.tmp 3]) rfl (.tmp rfl (.tmp rfl (.nil))) (fun w' h'=>⟨by rw [Qfn (t:=(⟨(j : Int),mo,rm,pln L⟩ : Tre)) (i:=k) (show Qbr (pln L) _ (pln L).length 0 = some k from by rw [Qh,hk2,hst,if_pos hz])];rfl,h'.below⟩)
  try simp only [Bool.and_eq_false_iff,Bool.not_eq_false'] at h10
  have hz : ¬ ((nth L k).pl.us = true ∧ k ∉ (YH (pln L)).map Vis.i):=by have hq:=h10;rw [hbel k hkl] at hq;simp only [LNd.pl];intro h9;simp at hq h9;grind
  refine aS4 ?_
  try refine oWr ?_
  refine aS2 ?_
  exact Qw (k + 1) (by omega) ⟨by omega,by rw [hk2,hst,if_neg hz]⟩ aSx (fun w h=>h.ent aEt)
 try simp only [dN] at h4
 have hnone : Qbr (pln L) ((YH (pln L)).map Vis.i) L.length 0 = none:=by rw [hk2,show L.length - k = 0 by omega];rfl
 refine Qo rfl ?_
 refine aS2 ?_
 refine oAl (fun b11 _=>?_) Qet
 refine oSt ?_
 refine aS5 ?_
 refine o_h (Xw (Cs:=[.blk b11 3 1 [.int .i64 0]]) rfl QjB rfl aPs (fun w1 h1 hf=>by have h9:=Qj5 Int (fun _=>True) (fun s=>.blk b11 3 1 [.int .i64 s]) (stV (⟨(j : Int),mo,rm,pln L⟩ : Tre)) (erV (⟨(j : Int),mo,rm,pln L⟩ : Tre)) 237 #[.pointer (some ⟨b1,0,none⟩),.pointer (some ⟨b11,0,none⟩)] bt j mo rm a cap L L.length w1 0 QbB none none [] hf (by kernel_rfl) (fun _ _=>rfl) (fun _ _ _=>trivial) trivial (fun s2 v2 p2 p3 w2 h2 _ hi2 ha2 hb2 hp2 hp3=>c237 w2 v2 p2 p3 b1 b11 s2 bt j mo rm a cap L (HS.focus (Cs:=[_]) (Ds:=[]) h2) (h2.keep (h1.rd_blkF aPs (b:=b1) aPk rfl)) (((ht.keep h1).mono (Xc aPs)).keep h2) (((hs.keep h1).mono (Xc aPs)).keep h2) hj hmo hi2 hle (hes9 _ hi2) (hcs9 _ hi2) (hcs9 _ h0) (hes9 _ h0) hp2 hp3 ha2 hb2 (hok9 _ hi2)) ((ht.keep h1).mono (Xc aPs)) ((hs.keep h1).mono (Xc aPs)) hT hB rfl rfl h0 rfl (by simp) rfl (fun _ h=>by cases h) (fun _ h=>by cases h);rw [hvis,Gx.run_shape (t:=(⟨(j : Int),mo,rm,pln L⟩ : Tre)) hT (by show 0 < (pln L).length;rw [Qh];exact h0)] at h9;exact h9)) rfl (fun _ _=>?_)
 refine aS5 ?_
 exact Qq (rs:=[.tmp 2,.tmp 3]) rfl (.tmp rfl (.tmp rfl (.nil))) (fun w' h'=>⟨by rw [QfD (t:=(⟨(j : Int),mo,rm,pln L⟩ : Tre)) (show Qbr (pln L) _ (pln L).length 0 = none from by rw [Qh];exact hnone)];rfl,h'.below⟩)
theorem QtK : ZD Tryz.prog 166 = some [(0,4),(4,2)]:=by kernel_rfl
theorem QtS : QO Tryz.prog 166 = some [.int .i64 0,.int .i64 0,.int .i64 0,.slice none 0 0,.nilFunc,.nilFunc]:=by kernel_rfl
theorem QsX : Qt Tryz.prog 199 = true:=by kernel_rfl
theorem Qsh : Qt Tryz.prog 200 = true:=by kernel_rfl
theorem c140 (w : World) (co mo rm : Int) (a : Option Addr) (cap : Nat) (L : List LNd) (hs : Nt w [] a L) (hB : Bd (pln L)) (hkl : ∀ i,i < L.length → ∀ x ∈ (nth L i).es,x.key.length ≤ 1000000) : Calls Tryz.prog 140 #[.agg #[.int .i64 co,.int .i64 mo,.int .i64 rm,.slice a L.length cap]] w fun en w'=>en = .returned (.tuple #[.int .i64 (Y2 (⟨co,mo,rm,pln L⟩ : Tre)).1,.int .i64 (Y2 (⟨co,mo,rm,pln L⟩ : Tre)).2]) ∧ Below w.heap.size w w':=by
 have hle:=hB.len
 rw [Qh] at hle
 have hes9 : ∀ i,i < L.length → (nth L i).es.length ≤ 1000:=fun i hi=>by have h9:=hB.es i (by rw [Qh];exact hi);rw [QZ hi] at h9;exact h9
 have hcs9 : ∀ i,i < L.length → (nth L i).cs.length ≤ 1000:=fun i hi=>by have h9:=hB.cs i (by rw [Qh];exact hi);rw [QZ hi] at h9;exact h9
 refine enter (args:=[_]) Tryz.func140 Tryz.ntmps140 rfl rfl (HS.refl w []) ?_
 refine aS2 ?_
 refine oBx fun b1 _=>?_
 refine Qer ?_
 refine o_q (Qb rfl QpO rfl (fun w1 h1=>c155 w1 _ _ _)) rfl ?_
 refine aS7 ?_
 refine Qc rfl (fun h2=>?_) fun h2=>?_
 ·try simp only [Bool.not_eq_true',decide_eq_false_iff_not] at h2
  have hz:=Qce (t:=(⟨co,mo,rm,pln L⟩ : Tre)) h2
  refine aS6 ?_
  exact Qq (rs:=[.tmp 2,.tmp 3]) rfl (.tmp rfl (.tmp rfl (.nil))) (fun w' h'=>⟨by rw [hz];rfl,h'.below⟩)
 try simp only [Bool.not_eq_false',decide_eq_true_eq] at h2
 have hc0 : (if Qr co = 0 then Xy mo rm else Qr co) = 0:=h2
 obtain ⟨hco,hsz⟩:=Qht (t:=(⟨co,mo,rm,pln L⟩ : Tre)) hc0
 obtain ⟨j,rfl,hj⟩:=Qhx hco
 have hsz2 : (3 ≤ mo ∧ mo ≤ 8) ∧ (mo / 2 ≤ rm ∧ rm ≤ mo):=QpI hsz
 refine aS3 ?_
 refine QL [] Q8 ?_
 refine dFa 0 ?_
 refine dLd 1 [] ?_
 refine dV 2 rfl (QM rfl rfl Tryz.underlying35) ?_
 refine dP 3 ?_
 refine dQ 4 [] rfl (Qb rfl YV rfl (fun w1 h1=>QcY w1 _ _)) ?_
 refine dFa 5 ?_
 refine dLd 6 [] ?_
 refine dV 7 rfl (QM rfl rfl Tryz.underlying35) ?_
 refine dP 8 ?_
 refine dQ 9 [] rfl (Qb rfl YV rfl (fun w1 h1=>QcY w1 _ _)) ?_
 refine dH 10 rfl (Qp (cs:=[_,_]) rfl rfl ZO Qds rfl rfl rfl) (fun b3 _=>?_)
 refine dBa ?_
 refine dQ 11 [] rfl (Qb rfl QdM rfl (fun w1 h1=>QlE h1 aPk (by rfl) (by rfl) (by decide))) ?_
 refine QG (show _ = Value.int .i64 (YU L.length) from by congr 1;rw [QaR];unfold YU;simp only [cond_eq_ite,decide_eq_true_eq];first | (split <;> (try split) <;> (try split) <;> (try split) <;> first | rfl | omega)) ?_
 refine dP 12 ?_
 refine dNi ?_
 refine aS5 ?_
 refine Qc rfl (fun h4=>?_) fun h4=>?_
 ·try simp only [Bool.not_eq_true',decide_eq_false_iff_not] at h4
  have hz:=Qdq (t:=(⟨(j : Int),mo,rm,pln L⟩ : Tre)) hc0 (by rw [show ((⟨(j : Int),mo,rm,pln L⟩ : Tre)).ns.length = L.length from Qh L];exact h4)
  rw [show ((⟨(j : Int),mo,rm,pln L⟩ : Tre)).ns.length = L.length from Qh L] at hz
  refine aS6 ?_
  exact Qq (rs:=[.tmp 2,.tmp 3]) rfl (.tmp rfl (.tmp rfl (.nil))) (fun w' h'=>⟨by rw [hz];rfl,h'.below⟩)
 try simp only [Bool.not_eq_false',decide_eq_true_eq] at h4
 have hc1 : YU L.length = 0:=h4
 have hz:=QdO (t:=(⟨(j : Int),mo,rm,pln L⟩ : Tre)) hc0 (by rw [show ((⟨(j : Int),mo,rm,pln L⟩ : Tre)).ns.length = L.length from Qh L];exact hc1)
 rw [show ((⟨(j : Int),mo,rm,pln L⟩ : Tre)).ns.length = L.length from Qh L] at hz
 obtain ⟨h00,h120⟩:=QjZ hc1
 refine aS2 ?_
 refine Qm (L':=[(1,_),(2,_),(3,_)]) aSx (fun _ h=>h) ?_
 refine Yh (α:=Nat × Nat) [6,7,37,38,39,40,41,42,43,44] (fun x=>[(6,.pointer (some ⟨x.1,0,none⟩)),(7,.map (some x.2))]) (fun x=>HS w [] [.blk b1 37 4 [.int .i64 (j : Int),.int .i64 mo,.int .i64 rm,.slice a L.length cap],.blk x.1 166 6 (tbV (j : Int) mo rm a L.length cap),.mp x.2 KI []]) (fun _=>True) ?_ ?_
 ·skip
  refine QL [] Q8 ?_
  refine dLn 0 [] ?_
  refine dQ 1 [] rfl (Qb rfl Qj3 rfl (fun w1 h1=>Qtz w1)) ?_
  refine dFa 2 ?_
  refine dLd 3 [] ?_
  refine dV 4 rfl (Qdk rfl rfl rfl Qhv QgN j rfl (by omega)) ?_
  refine QG (QeY j hj) ?_
  refine dV 5 rfl (Xr (cs:=[_,_,_,_,_,_]) rfl rfl QtK QtS rfl) ?_
  refine Quo 6 7 rfl rfl  (Qko rfl rfl) (Qca rfl KI) (by kernel_rfl) (fun w h=>h.ent aEt) rfl rfl  (fun b5 _=>?_) (fun b6 _=>?_)
  ·skip
   refine dBa ?_
   refine dP 8 ?_
   refine dH 7 rfl (Qca rfl KI) (fun b7 _=>?_)
   refine dBa ?_
   refine dP 9 ?_
   refine dNi ?_
   exact Qx (b5,b7) trivial aSx (fun w h=>h.ent aEt)
  skip
  refine dBa ?_
  refine dH 6 rfl (Qko rfl rfl) (fun b8 _=>?_)
  refine dBa ?_
  refine dP 8 ?_
  refine dP 9 ?_
  refine dNi ?_
  exact Qx (b8,b6) trivial aSx (fun w h=>h.ent aEt)
 intro ⟨bt,r⟩ _
 refine aS9 ?_
 refine QB (α:=Nat × List Int × List Int) [2,3,8,9,48,49,50,51,52,53,54,55,56,57,58,59] (fun x=>[(48,.int .i64 (x.1 : Int))]) (fun x=>HS w [] [.blk b1 37 4 [.int .i64 (j : Int),.int .i64 mo,.int .i64 rm,.slice a L.length cap],.blk bt 166 6 (tbV (j : Int) mo rm a L.length cap),.mp r KI x.2.1]) (fun x=>x.1 ≤ L.length ∧ (∀ y,y ∈ x.2.1 ↔ y ∈ x.2.2) ∧ (XS (⟨(j : Int),mo,rm,pln L⟩ : Tre) L.length 0 []) = XS (⟨(j : Int),mo,rm,pln L⟩ : Tre) (L.length - x.1) x.1 x.2.2) (fun x=>L.length - x.1) (0,[],[]) ⟨Nat.zero_le _,fun _=>Iff.rfl,rfl⟩ aSx (fun w h=>h.ent aEt) (fun ⟨k,K,S9⟩ hx=>?_)
 dsimp only
 obtain ⟨hk1,hk2,hk3⟩:=hx
 simp only [] at hk1 hk2 hk3
 refine aS5 ?_
 refine Qc rfl (fun h9=>?_) fun h9=>?_
 ·try simp only [dT] at h9
  have hkl9 : k < L.length:=by omega
  have hst:=Qft (t:=(⟨(j : Int),mo,rm,pln L⟩ : Tre)) (k:=k) (seen:=S9) (by rw [show ((⟨(j : Int),mo,rm,pln L⟩ : Tre)).ns.length = L.length from Qh L];exact hkl9)
  rw [show ((⟨(j : Int),mo,rm,pln L⟩ : Tre)).ns.length = L.length from Qh L] at hst
  iterate 13 refine aS ?_
  refine o_h (Xw (Cs:=[.mp r KI K]) rfl QsX rfl aPs (fun w1 h1 hf=>c199 w1 k r K S9 bt j mo rm a cap L hf hk2 (fun k9 v9 hv9=>h1.rd_blkF aPs (b:=bt) aPk hv9) ((hs.keep h1).mono (Xc aPs)) hle hj hkl9 (hes9 _ hkl9) (hcs9 _ hkl9) (hkl _ hkl9))) rfl (fun b10 hkG=>?_)
  refine aS7 ?_
  refine Qc rfl (fun h11=>?_) fun h11=>?_
  ·try simp only [Bool.not_eq_true',decide_eq_false_iff_not] at h11
   have hz3 : (XS (⟨(j : Int),mo,rm,pln L⟩ : Tre) L.length 0 []) = ((k : Int),(XC (⟨(j : Int),mo,rm,pln L⟩ : Tre) k S9).1):=by rw [hk3,hst,if_neg h11]
   rw [hz3,if_neg (show ¬ (((k : Int),(XC (⟨(j : Int),mo,rm,pln L⟩ : Tre) k S9).1) : Int × Int).2 = 0 from h11)] at hz
   refine aS7 ?_
   exact Qq (rs:=[.tmp 2,.tmp 3]) rfl (.tmp rfl (.tmp rfl (.nil))) (fun w' h'=>⟨by rw [hz];rfl,h'.below⟩)
  try simp only [Bool.not_eq_false',decide_eq_true_eq] at h11
  have hz3 : XS (⟨(j : Int),mo,rm,pln L⟩ : Tre) (L.length - k) k S9 = XS (⟨(j : Int),mo,rm,pln L⟩ : Tre) (L.length - (k + 1)) (k + 1) (XC (⟨(j : Int),mo,rm,pln L⟩ : Tre) k S9).2:=by rw [hst,if_pos h11]
  refine aS4 ?_
  try refine oWr ?_
  refine aS2 ?_
  exact Qw (k + 1,b10,(XC (⟨(j : Int),mo,rm,pln L⟩ : Tre) k S9).2) (by (try simp only []);omega) ⟨by (try simp only []);omega,hkG,by simp only [];rw [hk3,hz3]⟩ aSx (fun w h=>h.ent aEt)
 try simp only [dN] at h9
 have hnd : (XS (⟨(j : Int),mo,rm,pln L⟩ : Tre) L.length 0 []) = (0,0):=by rw [hk3,show L.length - k = 0 by omega];rfl
 rw [hnd,if_pos rfl] at hz
 have hT : TOk (j : Int) (pln L):=Qhg (t:=(⟨(j : Int),mo,rm,pln L⟩ : Tre)) (by show (XS (⟨(j : Int),mo,rm,pln L⟩ : Tre) (pln L).length 0 []).2 = 0;rw [Qh,hnd])
 refine Qo rfl ?_
 refine aS3 ?_
 refine o_q (Qb rfl Qsh rfl (fun w1 h1=>c200 w1 bt j mo rm a cap L (HS.tbr h1 aPk) (hs.later h1) hj (by omega) h00 hB hT)) rfl ?_
 refine Qer ?_
 refine Yh (α:=Unit) [10] (fun _=>[(10,.int .i64 (Y2 (⟨(j : Int),mo,rm,pln L⟩ : Tre)).1)]) (fun _=>HS w [] []) (fun _=>True) ?_ ?_
 ·skip
  refine Qc rfl (fun h12=>?_) fun h12=>?_
  ·try simp only [dT] at h12
   refine aS3 ?_
   exact Qx () trivial (by rw [hz,Qkh h12];exact aSx) (fun w h=>h.ent aEt)
  try simp only [dN] at h12
  refine aS ?_
  exact Qx () trivial (by rw [hz];exact aSx) (fun w h=>h.ent aEt)
 intro _ _
 refine aS7 ?_
 exact Qq (rs:=[.tmp 2,.tmp 3]) rfl (.tmp rfl (.tmp rfl (.nil))) (fun w' h'=>⟨by simp only [QV];rw [hz],h'.below⟩)
theorem Qu4 : Qt Tryz.prog 80 = true:=by kernel_rfl
theorem Quq : Qt Tryz.prog 81 = true:=by kernel_rfl
theorem c80 (w : World) (a : Option Addr) (cap : Nat) (l : List TEnt) (hs : Rw TEnt.vals 2 w [] a l) (hl : l.length ≤ 100000) : Calls Tryz.prog 80 #[.slice a l.length cap] w fun en w'=>∃ g : Option Addr × Nat,en = .returned (.slice g.1 l.length g.2) ∧ True ∧ HS w [] [.own (.slice g.1 l.length g.2) 27 2 l.length (l.flatMap TEnt.vals)] w':=by
 refine enter (args:=[_]) Tryz.func80 Tryz.ntmps80 rfl rfl (HS.refl w []) ?_
 refine aS6 ?_
 refine o_h (Qai rfl QX) rfl (fun b1 _=>?_)
 refine aS ?_
 refine o_h (XM (l.flatMap TEnt.vals) rfl rfl rfl QX Tryz.underlying67 Zv rfl aPk (fun w h=>Rw.src ev2 hs h) (Y8 ev2 _) (Qig ev1 _) (by omega) (by simp only [maxLen];omega)) rfl (fun b2 _=>?_)
 refine aS2 ?_
 exact rT rfl rfl (fun w' h'=>⟨b2,by simp only [QV,Nat.zero_add],trivial,by have h2:=h';simp only [Nat.zero_add,List.nil_append] at h2;exact h2.ent aEt⟩)
theorem c81 (w : World) (a : Option Addr) (cap : Nat) (l : List Int) (hs : Rw inV 1 w [] a l) (hl : l.length ≤ 100000) : Calls Tryz.prog 81 #[.slice a l.length cap] w fun en w'=>∃ g : Option Addr × Nat,en = .returned (.slice g.1 l.length g.2) ∧ True ∧ HS w [] [.own (.slice g.1 l.length g.2) 3 1 l.length (l.flatMap inV)] w':=by
 refine enter (args:=[_]) Tryz.func81 Tryz.ntmps81 rfl rfl (HS.refl w []) ?_
 refine aS6 ?_
 refine o_h (Qai rfl Q7) rfl (fun b1 _=>?_)
 refine aS ?_
 refine o_h (XM (l.flatMap inV) rfl rfl rfl Q7 Tryz.underlying28 Qet rfl aPk (fun w h=>Rw.src iv1 hs h) (Y8 iv1 _) (Qig Qqj _) (by omega) (by simp only [maxLen];omega)) rfl (fun b2 _=>?_)
 refine aS2 ?_
 exact rT rfl rfl (fun w' h'=>⟨b2,by simp only [QV,Nat.zero_add],trivial,by have h2:=h';simp only [Nat.zero_add,List.nil_append] at h2;exact h2.ent aEt⟩)
set_option maxHeartbeats 400000 in
theorem c21 (w : World) (co mo rm : Int) (a : Option Addr) (cap : Nat) (L : List LNd) (hs : Nt w [] a L) (hl : L.length ≤ 1000) (hsm : Sm 1000 (pln L)) : Calls Tryz.prog 21 #[.agg #[.int .i64 co,.int .i64 mo,.int .i64 rm,.slice a L.length cap]] w fun en w'=>∃ g : (Option Addr × Nat) × List LNd,en = .returned (.agg #[.int .i64 co,.int .i64 mo,.int .i64 rm,.slice g.1.1 g.2.length g.1.2]) ∧ pln g.2 = pln L ∧ HS w [] [.nodes 27 69 g.1.1 g.1.2 g.2] w':=by
 refine enter (args:=[_]) Tryz.func21 Tryz.ntmps21 rfl rfl (HS.refl w []) ?_
 refine aS2 ?_
 refine oBx fun b1 _=>?_
 refine oAl (fun b2 _=>?_) X3
 refine aS9 ?_
 refine o_p (Xr (cs:=[_,_,_,_]) rfl rfl QcZ X3 rfl) rfl ?_
 refine oAl (fun b3 _=>?_) X3
 refine oSt ?_
 refine aS7 ?_
 refine QB (α:=Nat × (Option Addr × Nat) × List LNd) [4,5,13,14,15,16,17,18,19,20,21,22,23,24,25,26,27,28,29,30,31,32,33,34,35,36,37,38] (fun x=>[(4,.int .i64 (x.1 : Int))]) (fun x=>HS w [] [.own (.slice x.2.1.1 (x.2.2).length x.2.1.2) 69 3 (x.2.2).length ((x.2.2).flatMap LNd.vals),.star ((x.2.2).map (Qf6 27)),.blk b3 37 4 [.int .i64 co,.int .i64 mo,.int .i64 rm,.slice x.2.1.1 (x.2.2).length x.2.1.2],.blk b2 37 4 [.int .i64 0,.int .i64 0,.int .i64 0,.slice none 0 0],.blk b1 37 4 [.int .i64 co,.int .i64 mo,.int .i64 rm,.slice a L.length cap]]) (fun x=>x.1 ≤ L.length ∧ x.2.2.length = x.1 ∧ pln x.2.2 = (pln L).take x.1) (fun x=>L.length - x.1) (0,(none,0),[]) ⟨Nat.zero_le _,rfl,rfl⟩ aSx (fun w h=>((h.own_nil 69 3).star_nil).ent aEt) (fun ⟨k,⟨ga,gc⟩,D⟩ hx=>?_)
 dsimp only
 obtain ⟨hk1,hk2,hk3⟩:=hx
 simp only [] at hk1 hk2 hk3
 refine aS9 ?_
 refine Qc rfl (fun h4=>?_) fun h4=>?_
 ·try simp only [dT] at h4
  have hkl : k < L.length:=by omega
  have hsk:=hsm k
  rw [QZ hkl] at hsk
  simp only [LNd.pl] at hsk
  refine aS8 ?_
  refine o_p (Qa rfl rfl rfl Xm (k) (by omega) (by omega) (Rw.some hs.1 (by omega))) rfl ?_
  refine o_q (QA _ rfl rfl Xz rfl (Rw.rd hs.1 hkl)) rfl ?_
  refine oAl (fun b5 _=>?_) Yp
  refine oSt ?_
  refine aS ?_
  refine QL [12,14] Q8 ?_
  refine dFa 0 ?_
  refine dLd 1 [[],[]] ?_
  refine dFa 2 ?_
  refine dLd 3 [[11,10],[]] ?_
  refine dFa 4 ?_
  refine dLd 5 [[9,6],[]] ?_
  refine dFa 7 ?_
  refine dLd 8 [[9],[]] ?_
  refine dH 6 rfl (XX rfl Qu4 rfl (fun w1 h1=>c80 w1 (nth L k).ea (nth L k).ec (nth L k).es ((hs.es hkl).later h1) (by omega))) (fun b6 _=>?_)
  refine dBa ?_
  refine dH 9 rfl (XX rfl Quq rfl (fun w1 h1=>c81 w1 (nth L k).ca (nth L k).cc (nth L k).cs ((hs.cs hkl).later h1) (by omega))) (fun b7 _=>?_)
  refine dBa ?_
  refine dV 10 rfl (Xr (cs:=[_,_,_]) rfl rfl Qkz Yp rfl) ?_
  refine dH 11 rfl (Qp (cs:=[_,_,_]) rfl rfl Xm Yp rfl rfl rfl) (fun b8 _=>?_)
  refine dBa ?_
  refine dH 12 rfl (XM (LNd.vals (⟨(nth L k).us,b6.1,b6.2,(nth L k).es,b7.1,b7.2,(nth L k).cs⟩ : LNd)) rfl rfl rfl Xm Tryz.underlying35 Yp rfl aPk (Xv aPk) rfl (nv1 _) (by omega) (by simp only [maxLen];omega)) (fun b9 _=>?_)
  refine dTu [14] ?_
  refine dFa 13 ?_
  refine dSt 14 ?_ (hl:=(by simp only [Ql,List.length_set,List.length_cons,List.length_nil,List.length_map];omega))
  refine dTu [] ?_
  refine dNi ?_
  refine aS ?_
  refine Qm (L':=[(0,_),(1,_),(2,_),(3,_),(4,_),(6,_),(7,_),(8,_),(9,_),(10,_),(11,_),(12,_)]) aSx (fun _ h=>h) ?_
  refine aS3 ?_
  try refine oWr ?_
  refine aS2 ?_
  exact Qw (k + 1,(b9.1,b9.2),D ++ [⟨(nth L k).us,b6.1,b6.2,(nth L k).es,b7.1,b7.2,(nth L k).cs⟩]) (by (try simp only []);omega) ⟨by (try simp only []);omega,by simp [hk2],QoA hkl hk3 rfl⟩ aSx (fun w h=>by have h2:=HS.sub_app (sub:=Qf6 27) (l:=D) (x:=(⟨(nth L k).us,b6.1,b6.2,(nth L k).es,b7.1,b7.2,(nth L k).cs⟩ : LNd)) (HS.star_close (Bs:=[_,_]) (h.ent (Bs:=[.own (.slice b6.1 (nth L k).es.length b6.2) 27 2 (nth L k).es.length ((nth L k).es.flatMap TEnt.vals),.own (.slice b7.1 (nth L k).cs.length b7.2) 3 1 (nth L k).cs.length ((nth L k).cs.flatMap inV),.star (D.map (Qf6 27)),.own (.slice b9.1 (D.length + 1) b9.2) 69 3 (D.length + 1) (D.flatMap LNd.vals ++ LNd.vals (⟨(nth L k).us,b6.1,b6.2,(nth L k).es,b7.1,b7.2,(nth L k).cs⟩ : LNd)),.blk b3 37 4 [.int .i64 co,.int .i64 mo,.int .i64 rm,.slice b9.1 (D.length + 1) b9.2],.blk b2 37 4 [.int .i64 0,.int .i64 0,.int .i64 0,.slice none 0 0],.blk b1 37 4 [.int .i64 co,.int .i64 mo,.int .i64 rm,.slice a L.length cap]]) aEt));simp only [List.length_append,List.length_singleton,List.flatMap_append,List.flatMap_singleton];exact h2.ent aEt)
 try simp only [dN] at h4
 obtain rfl : k = L.length:=by omega
 have hD : pln D = pln L:=by rw [hk3,← Qh L,List.take_length]
 refine Qo rfl ?_
 refine aS3 ?_
 refine oSt ?_
 refine aS ?_
 exact Qq (rs:=[.cell 2 37]) rfl (.cell rfl Y4 aPk rfl (.nil)) (fun w' h'=>⟨((ga,gc),D),by simp only [QV];rw [hk2];rfl,hD,by have h3:=HS.row_shut (a:=ga) (cap:=gc) (l:=D) (sub:=Qf6 27) (t:=69) (sz:=3) (vals:=LNd.vals) (h'.ent (Bs:=[.own (.slice ga D.length gc) 69 3 D.length (D.flatMap LNd.vals),.star (D.map (Qf6 27))]) aEt) rfl rfl;exact h3⟩)
theorem Qin : Qt Tryz.prog 65 = true:=by kernel_rfl
theorem c15 (w : World) (a b : Option Addr) (c d : Nat) (l m : List Int) (hs : Rw inV 1 w [] a l) (ht : Rw inV 1 w [] b m) (hl : l.length ≤ 100000) (hm : m.length ≤ 100000) : Calls Tryz.prog 15 #[.slice a l.length c,.slice b m.length d] w fun en w'=>en = .returned (.bool (decide (l = m))) ∧ Below w.heap.size w w':=by
 refine enter (args:=[_,_]) Tryz.func15 Tryz.ntmps15 rfl rfl (HS.refl w []) ?_
 iterate 13 refine aS ?_
 refine Qc rfl (fun h1=>?_) fun h1=>?_
 ·try simp only [Bool.not_eq_true',decide_eq_false_iff_not] at h1
  have hn9 : l ≠ m:=fun e=>by have hq:=h1;rw [e] at hq;simp at hq
  refine aS4 ?_
  exact rT rfl rfl (fun w' h'=>⟨by rw [decide_eq_false hn9];rfl,h'.below⟩)
 try simp only [Bool.not_eq_false',decide_eq_true_eq] at h1
 have hlm : l.length = m.length:=by have hq:=h1;omega
 refine aS7 ?_
 refine QB (α:=Nat) [4,5,11,12,13,14,15,16,17,18,19,20,21,22,23,24,25] (fun k=>[(5,.int .i64 (k : Int))]) (fun _=>HS w [] []) (fun k=>k ≤ l.length ∧ ∀ j,j < k → nth l j = nth m j) (fun k=>l.length - k) 0 ⟨Nat.zero_le _,fun j h=>absurd h (Nat.not_lt_zero j)⟩ aSx (fun w h=>h.ent aEt) (fun k hx=>?_)
 obtain ⟨hk1,hk3⟩:=hx
 refine aS8 ?_
 refine Qc rfl (fun h2=>?_) fun h2=>?_
 ·try simp only [dT] at h2
  have hk : k < l.length:=by omega
  have hk2 : k < m.length:=by omega
  refine aS4 ?_
  refine QL [] Q8 ?_
  refine dP 0 ?_
  refine dP 1 ?_
  refine dV 2 rfl (Qa rfl rfl rfl Q7 (k) (by omega) (by omega) (Rw.some hs (by omega))) ?_
  refine dQ 3 [] rfl (Qe rfl rfl Y9 ((hs.rdj 0 (by omega) rfl))) ?_
  refine dP 4 ?_
  refine dP 5 ?_
  refine dV 6 rfl (Qa rfl rfl rfl Q7 (k) (by omega) (by omega) (Rw.some ht (by omega))) ?_
  refine dQ 7 [] rfl (Qe rfl rfl Y9 ((ht.rdj 0 (by omega) rfl))) ?_
  refine dP 8 ?_
  refine dNi ?_
  refine Qc rfl (fun h3=>?_) fun h3=>?_
  ·try simp only [Bool.not_eq_true',decide_eq_false_iff_not] at h3
   have hn9 : l ≠ m:=fun e=>by have hq:=h3;rw [e] at hq;simp at hq
   refine aS4 ?_
   exact rT rfl rfl (fun w' h'=>⟨by rw [decide_eq_false hn9];rfl,h'.below⟩)
  try simp only [Bool.not_eq_false',decide_eq_true_eq] at h3
  have he9 : nth l k = nth m k:=by have hq:=h3;exact hq
  refine aS5 ?_
  try refine oWr ?_
  refine aS2 ?_
  exact Qw (k + 1) (by omega) ⟨by omega,fun j hj=>(Nat.lt_or_ge j k).elim (hk3 j) (fun h9=>by obtain rfl : j = k:=(by omega);exact he9)⟩ aSx (fun w h=>h.ent aEt)
 try simp only [dN] at h2
 have hl9 : l = m:=Qdm hlm fun j hj=>hk3 j (by omega)
 refine Qo rfl ?_
 refine aS4 ?_
 exact rT rfl rfl (fun w' h'=>⟨by rw [decide_eq_true hl9];rfl,h'.below⟩)
theorem Qt0 : Qjz Tryz.prog 27 = some [1,1]:=by kernel_rfl
theorem Qu6 : Qt Tryz.prog 51 = true:=by kernel_rfl
theorem Qvk : Qt Tryz.prog 15 = true:=by kernel_rfl
theorem Qnv : Qt Tryz.prog 150 = true:=by kernel_rfl
theorem Qoj : Qt Tryz.prog 33 = true:=by kernel_rfl
theorem Quu : Qt Tryz.prog 83 = true:=by kernel_rfl
theorem c51 (w : World) (a b : Option Addr) (c d : Nat) (l m : List TEnt) (hs : Rw TEnt.vals 2 w [] a l) (ht : Rw TEnt.vals 2 w [] b m) (hl : l.length ≤ 100000) (hm : m.length ≤ 100000) : Calls Tryz.prog 51 #[.slice a l.length c,.slice b m.length d] w fun en w'=>en = .returned (.bool (decide (l = m))) ∧ Below w.heap.size w w':=by
 refine enter (args:=[_,_]) Tryz.func51 Tryz.ntmps51 rfl rfl (HS.refl w []) ?_
 iterate 13 refine aS ?_
 refine Qc rfl (fun h1=>?_) fun h1=>?_
 ·try simp only [Bool.not_eq_true',decide_eq_false_iff_not] at h1
  have hn9 : l ≠ m:=fun e=>by have hq:=h1;rw [e] at hq;simp at hq
  refine aS4 ?_
  exact rT rfl rfl (fun w' h'=>⟨by rw [decide_eq_false hn9];rfl,h'.below⟩)
 try simp only [Bool.not_eq_false',decide_eq_true_eq] at h1
 have hlm : l.length = m.length:=by have hq:=h1;omega
 refine aS7 ?_
 refine QB (α:=Nat) [4,5,11,12,13,14,15,16,17,18,19,20,21,22,23,24,25] (fun k=>[(5,.int .i64 (k : Int))]) (fun _=>HS w [] []) (fun k=>k ≤ l.length ∧ ∀ j,j < k → nth l j = nth m j) (fun k=>l.length - k) 0 ⟨Nat.zero_le _,fun j h=>absurd h (Nat.not_lt_zero j)⟩ aSx (fun w h=>h.ent aEt) (fun k hx=>?_)
 obtain ⟨hk1,hk3⟩:=hx
 refine aS8 ?_
 refine Qc rfl (fun h2=>?_) fun h2=>?_
 ·try simp only [dT] at h2
  have hk : k < l.length:=by omega
  have hk2 : k < m.length:=by omega
  refine aS4 ?_
  refine QL [] Q8 ?_
  refine dP 0 ?_
  refine dP 1 ?_
  refine dV 2 rfl (Qa rfl rfl rfl QX (k) (by omega) (by omega) (Rw.some hs (by omega))) ?_
  refine dQ 3 [] rfl (QA _ rfl rfl Qbm rfl (Rw.rd hs (by omega))) ?_
  refine dP 4 ?_
  refine dP 5 ?_
  refine dV 6 rfl (Qa rfl rfl rfl QX (k) (by omega) (by omega) (Rw.some ht (by omega))) ?_
  refine dQ 7 [] rfl (QA _ rfl rfl Qbm rfl (Rw.rd ht (by omega))) ?_
  refine dV 8 rfl (Qgt rfl rfl rfl Qt0 (by rfl) (by rfl) (by rfl)) ?_
  refine dNi ?_
  refine Qc rfl (fun h3=>?_) fun h3=>?_
  ·try simp only [Bool.not_eq_true',Bool.and_eq_false_iff,decide_eq_false_iff_not] at h3
   have hn9 : l ≠ m:=fun e=>by have hq:=h3;rw [e] at hq;simp at hq
   refine aS4 ?_
   exact rT rfl rfl (fun w' h'=>⟨by rw [decide_eq_false hn9];rfl,h'.below⟩)
  try simp only [Bool.not_eq_false',Bool.and_eq_true,decide_eq_true_eq] at h3
  have he9 : nth l k = nth m k:=by have hq:=h3;exact Qri hq.1 hq.2.1
  refine aS5 ?_
  try refine oWr ?_
  refine aS2 ?_
  exact Qw (k + 1) (by omega) ⟨by omega,fun j hj=>(Nat.lt_or_ge j k).elim (hk3 j) (fun h9=>by obtain rfl : j = k:=(by omega);exact he9)⟩ aSx (fun w h=>h.ent aEt)
 try simp only [dN] at h2
 have hl9 : l = m:=Qdm hlm fun j hj=>hk3 j (by omega)
 refine Qo rfl ?_
 refine aS4 ?_
 exact rT rfl rfl (fun w' h'=>⟨by rw [decide_eq_true hl9];rfl,h'.below⟩)
theorem c33 (w : World) (n m : LNd) (hne : Rw TEnt.vals 2 w [] n.ea n.es) (hnc : Rw inV 1 w [] n.ca n.cs) (hme : Rw TEnt.vals 2 w [] m.ea m.es) (hmc : Rw inV 1 w [] m.ca m.cs) (h1 : n.es.length ≤ 100000 ∧ n.cs.length ≤ 100000) (h2 : m.es.length ≤ 100000 ∧ m.cs.length ≤ 100000) : Calls Tryz.prog 33 #[.agg #[.bool n.us,.slice n.ea n.es.length n.ec,.slice n.ca n.cs.length n.cc],.agg #[.bool m.us,.slice m.ea m.es.length m.ec,.slice m.ca m.cs.length m.cc]] w fun en w'=>en = .returned (.bool (decide (n.pl = m.pl))) ∧ Below w.heap.size w w':=by
 refine enter (args:=[_,_]) Tryz.func33 Tryz.ntmps33 rfl rfl (HS.refl w []) ?_
 refine aS2 ?_
 refine oBx fun b1 _=>?_
 refine oBx fun b2 _=>?_
 refine aS8 ?_
 refine o_p (Qfl rfl rfl rfl Tryz.underlying4) rfl ?_
 refine aS ?_
 refine Xq 6 10 16 _ _ rfl
  (by
   intro hg3
   have hs4:=hg3;skip
   refine oOn 10 hg3 ?_
   refine aS ?_
   refine oOn 10 hg3 ?_
   refine aS ?_
   refine oOn 10 hg3 ?_
   refine aS ?_
   refine oOn 10 hg3 ?_
   refine aS ?_
   refine oOn 10 hg3 ?_
   refine o_q (Qb rfl Qu6 rfl (fun w1 h1=>c51 w1 n.ea m.ea n.ec m.ec n.es m.es (hne.later h1.nil) (hme.later h1.nil) (by omega) (by omega))) rfl ?_
   refine o_p (Qg rfl rfl hg3 rfl) rfl ?_
   refine aS ?_
   exact oJn 6 16)
  (by
   intro hg5
   have hs6:=hg5;skip
   refine oOf 10 hg5 ?_
   refine oOf 10 hg5 ?_
   refine oOf 10 hg5 ?_
   refine oOf 10 hg5 ?_
   refine oOf 10 hg5 ?_
   refine o_p (Qf rfl rfl hg5 rfl) rfl ?_
   refine aS ?_
   exact oJn 6 16) ?_
 refine aS ?_
 refine Xq 6 17 23 _ _ rfl
  (by
   intro hg7
   have hs8:=hg7;try simp only [Bool.and_eq_true,decide_eq_true_eq] at hs8
   refine oOn 17 hg7 ?_
   refine aS ?_
   refine oOn 17 hg7 ?_
   refine aS ?_
   refine oOn 17 hg7 ?_
   refine aS ?_
   refine oOn 17 hg7 ?_
   refine aS ?_
   refine oOn 17 hg7 ?_
   refine o_q (Qb rfl Qvk rfl (fun w1 h1=>c15 w1 n.ca m.ca n.cc m.cc n.cs m.cs (hnc.later h1.nil) (hmc.later h1.nil) (by omega) (by omega))) rfl ?_
   refine o_p (Qg rfl rfl hg7 rfl) rfl ?_
   refine aS ?_
   exact oJn 6 23)
  (by
   intro hg9
   have hs10:=hg9;try simp only [Bool.and_eq_false_iff,decide_eq_false_iff_not] at hs10
   refine oOf 17 hg9 ?_
   refine oOf 17 hg9 ?_
   refine oOf 17 hg9 ?_
   refine oOf 17 hg9 ?_
   refine oOf 17 hg9 ?_
   refine o_p (Qf rfl rfl hg9 rfl) rfl ?_
   refine aS ?_
   exact oJn 6 23) ?_
 refine aS2 ?_
 exact rT rfl rfl (fun w' h'=>⟨by simp only [QV];rw [Qo0],h'.below⟩)
theorem c150 (w : World) (co mo rm : Int) (a : Option Addr) (cap : Nat) (L : List LNd) (k : Nat) (hs : Rw LNd.vals 3 w [] a L) : Calls Tryz.prog 150 #[.agg #[.int .i64 co,.int .i64 mo,.int .i64 rm,.slice a L.length cap],.int .i64 (k : Int)] w fun en w'=>en = .returned (.agg (LNd.vals (nth L k)).toArray) ∧ Below w.heap.size w w':=by
 refine enter (args:=[_,_]) Tryz.func150 Tryz.ntmps150 rfl rfl (HS.refl w []) ?_
 refine aS2 ?_
 refine oBx fun b1 _=>?_
 refine oAl (fun b2 _=>?_) Yp
 refine Qaq ?_
 refine Qc rfl (fun h3=>?_) fun h3=>?_
 ·try simp only [dT] at h3
  refine aS5 ?_
  refine o_p (Qa rfl rfl rfl Xm (k) (by omega) (by omega) (Rw.some hs (by omega))) rfl ?_
  refine o_q (QA _ rfl rfl Xz rfl (Rw.rd hs (by omega))) rfl ?_
  refine oSt ?_
  refine aS ?_
  exact Qq (rs:=[.cell 4 69]) rfl (.cell rfl Xz aPk rfl (.nil)) (fun w' h'=>⟨by first | rfl | (rw [Qa4 (by omega)];rfl),h'.below⟩)
 try simp only [dN] at h3
 refine aS3 ?_
 refine o_p (Xr (cs:=[_,_,_]) rfl rfl Qkz Yp rfl) rfl ?_
 refine oSt ?_
 refine aS ?_
 exact Qq (rs:=[.cell 4 69]) rfl (.cell rfl Xz aPk rfl (.nil)) (fun w' h'=>⟨by first | rfl | (rw [Qa4 (by omega)];rfl),h'.below⟩)
theorem c83 (w : World) (co mo rm co2 mo2 rm2 : Int) (a b : Option Addr) (ca cb : Nat) (L M : List LNd) (hs : Nt w [] a L) (ht : Nt w [] b M) (hL : L.length ≤ 1000) (hM : M.length ≤ 1000) (hLs : Sm 100000 (pln L)) (hMs : Sm 100000 (pln M)) : Calls Tryz.prog 83 #[.agg #[.int .i64 co,.int .i64 mo,.int .i64 rm,.slice a L.length ca],.agg #[.int .i64 co2,.int .i64 mo2,.int .i64 rm2,.slice b M.length cb]] w fun en w'=>∃ g : Option Addr × Nat,en = .returned (.slice g.1 (QgY (pln L) (pln M)).length g.2) ∧ True ∧ HS w [] [.own (.slice g.1 ((QgY (pln L) (pln M))).length g.2) 3 1 ((QgY (pln L) (pln M))).length (((QgY (pln L) (pln M))).map fun i : Nat=>Value.int .i64 (i : Int))] w':=by
 refine enter (args:=[_,_]) Tryz.func83 Tryz.ntmps83 rfl rfl (HS.refl w []) ?_
 refine aS2 ?_
 refine oBx fun b1 _=>?_
 refine oBx fun b2 _=>?_
 refine Qer ?_
 refine QB (α:=Nat × Option Addr × Nat) [5,6,7,8,9,10,11,12,13,14,15,16,17,18,19,20,21,22,23,24,25,26,27,28,29] (fun x=>[(6,.int .i64 (x.1 : Int)),(5,.slice x.2.1 (Qd4 (pln L) (pln M) x.1).length x.2.2)]) (fun x=>HS w [] [.own (.slice x.2.1 ((Qd4 (pln L) (pln M) x.1)).length x.2.2) 3 1 ((Qd4 (pln L) (pln M) x.1)).length (((Qd4 (pln L) (pln M) x.1)).map fun i : Nat=>Value.int .i64 (i : Int)),.blk b1 37 4 [.int .i64 co,.int .i64 mo,.int .i64 rm,.slice a L.length ca],.blk b2 37 4 [.int .i64 co2,.int .i64 mo2,.int .i64 rm2,.slice b M.length cb]]) (fun x=>x.1 ≤ (max L.length M.length)) (fun x=>(max L.length M.length) - x.1) (0,none,0) (Nat.zero_le _) aSx (fun w h=>(h.own_nil 3 1).ent aEt) (fun ⟨k,ga,gc⟩ hk1=>?_)
 dsimp only
 simp only [] at hk1
 refine Qaq ?_
 refine o_p (Qfu rfl rfl rfl ) rfl ?_
 refine aS2 ?_
 refine Qc rfl (fun h3=>?_) fun h3=>?_
 ·try simp only [dT] at h3
  have hk : k < (max L.length M.length):=by have hq:=h3;omega
  have hkl:=QnK (pln L) (pln M) k
  refine aS4 ?_
  refine QL [] Q8 ?_
  refine dLn 0 [] ?_
  refine dP 1 ?_
  refine dQ 2 [] rfl (Qb rfl Qnv rfl (fun w1 h1=>c150 w1 co mo rm a ca L k (Rw.later hs.1 h1.nil))) ?_
  refine dLn 3 [] ?_
  refine dP 4 ?_
  refine dQ 5 [] rfl (Qb rfl Qnv rfl (fun w1 h1=>c150 w1 co2 mo2 rm2 b cb M k (Rw.later ht.1 h1.nil))) ?_
  refine dQ 6 [] rfl (Qb rfl Qoj rfl (fun w1 h1=>c33 w1 (nth L k) (nth M k) ((hs.esA k).later h1.nil) ((hs.csA k).later h1.nil) ((ht.esA k).later h1.nil) ((ht.csA k).later h1.nil) (by have:=hLs k;rw [Xg] at this;exact this) (by have:=hMs k;rw [Xg] at this;exact this))) ?_
  refine dP 7 ?_
  refine dNi ?_
  refine Qc rfl (fun h4=>?_) fun h4=>?_
  ·try simp only [Bool.not_eq_true',decide_eq_false_iff_not] at h4
   have hne9 : nth (pln L) k ≠ nth (pln M) k:=by rw [Xg,Xg];have hq:=h4;simpa using hq
   have hst:=Qrc hne9
   refine aS3 ?_
   refine o_h (Qp (cs:=[_]) rfl rfl Q7 Qet rfl rfl rfl) rfl (fun b5 _=>?_)
   refine o_h (XM [_] rfl rfl rfl Q7 Tryz.underlying28 Qet rfl aPk (Xv aPk) rfl (by intro u hu;simp only [List.mem_cons,List.mem_nil_iff,or_false] at hu;subst hu;rfl) (by omega) (by simp only [maxLen];omega)) rfl (fun b6 _=>?_)
   refine aS6 ?_
   try refine oWr ?_
   refine aS2 ?_
   exact Qw (k + 1,b6.1,b6.2) (by (try simp only []);omega) (by (try simp only []);omega) (by dsimp only;rw [hst];simp only [List.length_append,List.length_singleton];exact aSx) (fun w h=>by have h2:=h;dsimp only;rw [hst];simp only [List.length_append,List.length_singleton,List.map_append,List.map_cons,List.map_nil];exact h2.ent aEt)
  try simp only [Bool.not_eq_false',decide_eq_true_eq] at h4
  have hne9 : nth (pln L) k = nth (pln M) k:=by rw [Xg,Xg];have hq:=h4;simpa using hq
  have hst:=Qqi hne9
  refine aS5 ?_
  try refine oWr ?_
  refine aS2 ?_
  exact Qw (k + 1,ga,gc) (by (try simp only []);omega) (by (try simp only []);omega) (by dsimp only;rw [hst];exact aSx) (fun w h=>by dsimp only;rw [hst];exact h.ent aEt)
 try simp only [dN] at h3
 obtain rfl : k = (max L.length M.length):=by omega
 refine Qo rfl ?_
 refine aS5 ?_
 exact rT rfl rfl (fun w' h'=>⟨(ga,gc),by unfold QgY;rw [Qh,Qh];rfl,trivial,by unfold QgY;rw [Qh,Qh];exact h'.ent aEt⟩)
theorem c23 (w : World) (co mo rm : Int) (a b : Option Addr) (ca cb : Nat) (L M : List LNd) (hs : Nt w [] a L) (ht : Nt w [] b M) (hL : L.length ≤ 1000) (hM : M.length ≤ 1000) (hLs : Sm 100000 (pln L)) (hMs : Sm 100000 (pln M)) (he : pln L = pln M) : Calls Tryz.prog 23 #[.agg #[.int .i64 co,.int .i64 mo,.int .i64 rm,.slice a L.length ca],.agg #[.int .i64 co,.int .i64 mo,.int .i64 rm,.slice b M.length cb]] w fun en w'=>en = .returned (.bool true) ∧ Below w.heap.size w w':=by
 have hl9 : L.length = M.length:=by rw [← Qh L,he,Qh]
 have hch : (QgY (pln L) (pln M)) = []:=Qnk he
 refine enter (args:=[_,_]) Tryz.func23 Tryz.ntmps23 rfl rfl (HS.refl w []) ?_
 refine aS2 ?_
 refine oBx fun b1 _=>?_
 refine oBx fun b2 _=>?_
 refine Qjh ?_
 refine Xn 6 10 16 _ _ rfl
  (by
   intro hg3
   have hs4:=hg3;try simp only [Bool.not_eq_false',decide_eq_true_eq] at hs4
   refine oOn 10 hg3 ?_
   refine aS ?_
   refine oOn 10 hg3 ?_
   refine aS ?_
   refine oOn 10 hg3 ?_
   refine aS ?_
   refine oOn 10 hg3 ?_
   refine aS ?_
   refine oOn 10 hg3 ?_
   refine aS ?_
   refine o_p (Qf rfl rfl hg3 rfl) rfl ?_
   refine aS ?_
   exact oJn 6 16)
  (by
   intro hg5
   have hs6:=hg5;try simp only [Bool.not_eq_true',decide_eq_false_iff_not] at hs6
   refine oOf 10 hg5 ?_
   refine oOf 10 hg5 ?_
   refine oOf 10 hg5 ?_
   refine oOf 10 hg5 ?_
   refine oOf 10 hg5 ?_
   refine o_p (Qg rfl rfl hg5 rfl) rfl ?_
   refine aS ?_
   exact oJn 6 16) ?_
 refine aS ?_
 refine Xn 6 17 23 _ _ rfl
  (by
   intro hg7
   have hs8:=hg7;try simp only [Bool.or_eq_false_iff,Bool.not_eq_false',decide_eq_true_eq] at hs8
   refine oOn 17 hg7 ?_
   refine aS ?_
   refine oOn 17 hg7 ?_
   refine aS ?_
   refine oOn 17 hg7 ?_
   refine aS ?_
   refine oOn 17 hg7 ?_
   refine aS ?_
   refine oOn 17 hg7 ?_
   refine aS ?_
   refine o_p (Qf rfl rfl hg7 rfl) rfl ?_
   refine aS ?_
   exact oJn 6 23)
  (by
   intro hg9
   have hs10:=hg9;try simp only [Bool.or_eq_true,Bool.not_eq_true',decide_eq_false_iff_not] at hs10
   refine oOf 17 hg9 ?_
   refine oOf 17 hg9 ?_
   refine oOf 17 hg9 ?_
   refine oOf 17 hg9 ?_
   refine oOf 17 hg9 ?_
   refine o_p (Qg rfl rfl hg9 rfl) rfl ?_
   refine aS ?_
   exact oJn 6 23) ?_
 refine aS ?_
 refine Xn 8 24 32 _ _ rfl
  (by
   intro hg11
   have hs12:=hg11;try simp only [Bool.or_eq_false_iff,Bool.not_eq_false',decide_eq_true_eq] at hs12
   refine oOn 24 hg11 ?_
   refine aS ?_
   refine oOn 24 hg11 ?_
   refine aS ?_
   refine oOn 24 hg11 ?_
   refine aS ?_
   refine oOn 24 hg11 ?_
   refine aS ?_
   refine oOn 24 hg11 ?_
   refine aS ?_
   refine oOn 24 hg11 ?_
   refine aS ?_
   refine oOn 24 hg11 ?_
   refine aS ?_
   refine o_p (Qf rfl rfl hg11 rfl) rfl ?_
   refine aS ?_
   exact oJn 8 32)
  (by
   intro hg13
   have hs14:=hg13;try simp only [Bool.or_eq_true,Bool.not_eq_true',decide_eq_false_iff_not] at hs14
   refine oOf 24 hg13 ?_
   refine oOf 24 hg13 ?_
   refine oOf 24 hg13 ?_
   refine oOf 24 hg13 ?_
   refine oOf 24 hg13 ?_
   refine oOf 24 hg13 ?_
   refine oOf 24 hg13 ?_
   refine o_p (Qg rfl rfl hg13 rfl) rfl ?_
   refine aS ?_
   exact oJn 8 32) ?_
 refine aS ?_
 refine Qc rfl (fun h15=>?_) fun h15=>?_
 ·try simp only [Bool.or_eq_true,Bool.not_eq_true',decide_eq_false_iff_not] at h15
  exfalso;have hq9:=h15;simp [hl9] at hq9
 try simp only [Bool.or_eq_false_iff,Bool.not_eq_false',decide_eq_true_eq] at h15
 refine aS5 ?_
 refine o_h (XX rfl Quu rfl (fun w1 h1=>c83 w1 co mo rm co mo rm a b ca cb L M (hs.later h1.nil) (ht.later h1.nil) hL hM hLs hMs)) rfl (fun b16 _=>?_)
 rw [hch]
 refine aS4 ?_
 exact rT rfl rfl (fun w' h'=>⟨by rfl,h'.below⟩)
end Go.Proofs
namespace Gx
open Go Go.RowKit Go.Proofs
section
variable {w0 w : World} {M : List Nat} {As As' : List HA}
end
abbrev siz0 (co mo rm : Int) : Int:=if Qr co = 0 then Xy mo rm else Qr co
abbrev cE1 (co : Int) (a : List UInt8) : Int:=if Qr co = 0 then XW co a else Qr co
end Gx
namespace Gx
open Go Go.RowKit
def Q6 (n : Nat) (S : List Int) : List Value:=(List.range n).map fun k=>Value.bool (decide (((k : Nat) : Int) ∈ S))
theorem Qav (n : Nat) (S : List Int) : (Q6 n S).length = n:=by simp [Q6]
theorem QaK {n k : Nat} {S : List Int} (h : k < n) : (Q6 n S)[k]? = some (.bool (decide (((k : Nat) : Int) ∈ S))):=by
 unfold Q6;rw [List.getElem?_map,List.getElem?_range h];rfl
theorem QiJ {n k : Nat} {S : List Int} (h : k < n) : Qi (Q6 n S) k [.bool true] = Q6 n (((k : Nat) : Int) :: S):=by
 apply List.ext_getElem?;intro i;show ((Q6 n S).set k (.bool true))[i]? = _;rw [List.getElem?_set]
 by_cases hi : i < n
 ·rw [QaK hi]
  by_cases e : k = i
  ·subst e;rw [if_pos rfl,if_pos (by rw [Qav];exact h),QaK h,decide_eq_true (List.mem_cons_self ..)]
  ·rw [if_neg e,QaK hi];congr 2;have hne : ((i : Nat) : Int) ≠ ((k : Nat) : Int):=by omega
   simp [List.mem_cons,hne]
 ·rw [if_neg (by omega),List.getElem?_eq_none (by rw [Qav];omega),List.getElem?_eq_none (by rw [Qav];omega)]
theorem Qog {n : Nat} {c : Int} {S : List Int} (h : c ∈ S) : Q6 n (c :: S) = Q6 n S:=by
 unfold Q6;apply List.map_congr_left;intro k _;congr 1
 by_cases e : ((k : Nat) : Int) ∈ S
 ·rw [decide_eq_true e,decide_eq_true (List.mem_cons_of_mem _ e)]
 ·rw [decide_eq_false e,decide_eq_false (fun h2=>by
   rcases List.mem_cons.1 h2 with h3 | h3
   ·exact e (h3 ▸ h)
   ·exact e h3)]
theorem QqF {t : Tre} {i : Nat} {S : List Int} (h : ¬ (nth t.ns i).us = true) : XC t i S = if (0 < i ∧ i + 1 < t.ns.length) ∧ (nth t.ns i).es.length + (nth t.ns i).cs.length = 0 then (0,S) else (3,S):=by
 unfold XC;simp only [];rw [if_neg h]
section
variable {t : Tre} {i : Nat} {S : List Int} {n : Nd}
theorem Qq1 (hn : nth t.ns i = n) (hu : n.us = true) (h : ¬ (n.es.length : Int) ≤ Yx t.mo t.rm i) : XC t i S = (16,S):=by
 subst hn;unfold XC;simp only [];rw [if_pos hu,if_neg h]
theorem QqU (hn : nth t.ns i = n) (hu : n.us = true) (h : (n.es.length : Int) ≤ Yx t.mo t.rm i) (h2 : ¬ (n.cs.length = 0 ∨ n.cs.length = n.es.length + 1)) : XC t i S = (10,S):=by
 subst hn;unfold XC;simp only [];rw [if_pos hu,if_pos h,if_neg h2]
theorem QqM (hn : nth t.ns i = n) (hu : n.us = true) (h : (n.es.length : Int) ≤ Yx t.mo t.rm i) (h2 : n.cs.length = 0 ∨ n.cs.length = n.es.length + 1) (h3 : ¬ Y3 t.co n.es = 0) : XC t i S = (Y3 t.co n.es,S):=by
 subst hn;unfold XC;simp only [];rw [if_pos hu,if_pos h,if_pos h2,if_neg h3]
theorem Qk1 (hn : nth t.ns i = n) (hu : n.us = true) (h : (n.es.length : Int) ≤ Yx t.mo t.rm i) (h2 : n.cs.length = 0 ∨ n.cs.length = n.es.length + 1) (h3 : Y3 t.co n.es = 0) (h4 : ¬ (XQ t.ns n.cs S).1 = 0) : XC t i S = XQ t.ns n.cs S:=by
 subst hn;unfold XC;simp only [];rw [if_pos hu,if_pos h,if_pos h2,if_pos h3,if_neg h4]
theorem Qp6 (hn : nth t.ns i = n) (hu : n.us = true) (h : (n.es.length : Int) ≤ Yx t.mo t.rm i) (h2 : n.cs.length = 0 ∨ n.cs.length = n.es.length + 1) (h3 : Y3 t.co n.es = 0) (h4 : (XQ t.ns n.cs S).1 = 0) : XC t i S = (Qaz t.co n.es,(XQ t.ns n.cs S).2):=by
 subst hn;unfold XC;simp only [];rw [if_pos hu,if_pos h,if_pos h2,if_pos h3,if_pos h4]
end
theorem QhW {es : List Int} {k : Nat} (hk : k < es.length) (h : ∀ j,j < k → es.getD j 0 = 0) (h2 : es.getD k 0 ≠ 0) : XA es 0 = ((k : Int),es.getD k 0):=by
 have key : ∀ i,i ≤ k → XA es 0 = XA (es.drop i) i:=by
  intro i
  induction i with
  | zero=>intro _;rfl
  | succ i ih=>
   intro hi;rw [ih (by omega),ZV (by omega),if_pos (h i (by omega))]
 rw [key k (Nat.le_refl _),ZV hk,if_neg h2]
theorem Qgq {es : List Int} (h : ∀ j,j < es.length → es.getD j 0 = 0) : XA es 0 = (0,0):=by
 have key : ∀ i,i ≤ es.length → XA es 0 = XA (es.drop i) i:=by
  intro i
  induction i with
  | zero=>intro _;rfl
  | succ i ih=>
   intro hi;rw [ih (by omega),ZV (by omega),if_pos (h i (by omega))]
 rw [key _ (Nat.le_refl _),List.drop_length];rfl
theorem QoQ {co : Int} {es : List TEnt} {k : Nat} (hk : k < es.length) (h1 : ∀ q,q < k → YI co (nth es q) = 0) (h2 : ¬ YI co (nth es k) = 0) : Y3 co es = YI co (nth es k):=by
 unfold Y3;rw [QhW (es:=es.map (YI co)) (k:=k) (by rw [List.length_map];exact hk) (fun q hq=>by rw [Qbz (by omega)];exact h1 q hq) (by rw [Qbz hk];exact h2),Qbz hk]
theorem Qpm {co : Int} {es : List TEnt} (h1 : ∀ q,q < es.length → YI co (nth es q) = 0) : Y3 co es = 0:=by
 unfold Y3;rw [Qgq (fun q hq=>by rw [List.length_map] at hq;rw [Qbz hq];exact h1 q hq)]
theorem QpH {co : Int} {es : List TEnt} {k : Nat} (hk : k < es.length) (h1 : ∀ q,q < k → QaI co es q = 0) (h2 : ¬ QaI co es k = 0) : Qaz co es = QaI co es k:=by
 unfold Qaz;rw [QhW (es:=(List.range es.length).map (QaI co es)) (k:=k) (by simpa using hk) (fun q hq=>by rw [QbY (by omega)];exact h1 q hq) (by rw [QbY hk];exact h2),QbY hk]
theorem QoP {co : Int} {es : List TEnt} (h1 : ∀ q,q < es.length → QaI co es q = 0) : Qaz co es = 0:=by
 unfold Qaz;rw [Qgq (fun q hq=>by rw [List.length_map,List.length_range] at hq;rw [QbY hq];exact h1 q hq)]
end Gx
namespace Go.Proofs
open Go Go.RowKit Gx
attribute [local irreducible] Go.Calls Gx.S Gx.O Gx.D Gx.OpP Gx.OpQ Gx.OpH
set_option maxRecDepth 20000
theorem QsG : Qt Tryz.prog 198 = true:=by kernel_rfl
set_option maxHeartbeats 400000 in
theorem c136 (w : World) (j : Nat) (mo rm : Int) (a : Option Addr) (cap : Nat) (L : List LNd) (i sb scap tot : Nat) (S : List Int) (hw : HS w (fps [.blk sb 4 tot (Q6 L.length S)]) [.blk sb 4 tot (Q6 L.length S)] w) (hs : Nt w (fps [.blk sb 4 tot (Q6 L.length S)]) a L) (hj : j ≤ 3) (hi : i < L.length) (hl : L.length ≤ 1000) (hel : (nth L i).es.length ≤ 1000) (hcl : (nth L i).cs.length ≤ 1000) (hK : ∀ x ∈ (nth L i).es,x.key.length ≤ 1000000) : Calls Tryz.prog 136 #[.agg #[.int .i64 (j : Int),.int .i64 mo,.int .i64 rm,.slice a L.length cap],.int .i64 (i : Int),.slice (some ⟨sb,0,none⟩) L.length scap] w fun en w'=>∃ g : Unit,en = .returned (.int .i64 (XC (⟨(j : Int),mo,rm,pln L⟩ : Tre) i S).1) ∧ True ∧ HS w (fps [.blk sb 4 tot (Q6 L.length S)]) [.blk sb 4 tot (Q6 L.length (XC (⟨(j : Int),mo,rm,pln L⟩ : Tre) i S).2)] w':=by
 have hNI:=QZ hi
 have hnl : (pln L).length = L.length:=Qh L
 refine enter (args:=[_,_,_]) Tryz.func136 Tryz.ntmps136 rfl rfl hw ?_
 refine aS2 ?_
 refine oBx fun b1 _=>?_
 refine aS7 ?_
 refine o_p (Qa rfl rfl rfl Xm (i) (by omega) (by omega) (Rw.some hs.1 (by omega))) rfl ?_
 refine o_q (QA _ rfl rfl Xz rfl (Rw.rd hs.1 hi)) rfl ?_
 refine oAl (fun b2 _=>?_) Yp
 refine oSt ?_
 refine aS8 ?_
 refine Qc rfl (fun h3=>?_) fun h3=>?_
 ·try simp only [Bool.not_eq_true'] at h3
  have hu9 : ¬ (nth L i).us = true:=by have hq:=h3;simp [hq]
  have hun:=QqF (t:=(⟨(j : Int),mo,rm,pln L⟩ : Tre)) (S:=S) (i:=i) (by rw [show ((⟨(j : Int),mo,rm,pln L⟩ : Tre)).ns = pln L from rfl,hNI];exact hu9)
  rw [show ((⟨(j : Int),mo,rm,pln L⟩ : Tre)).ns = pln L from rfl,hNI,hnl] at hun
  refine aS6 ?_
  refine Xn 7 24 31 _ _ rfl
   (by
    intro hg4
    have hs5:=hg4;try simp only [dN] at hs5
    refine oOn 24 hg4 ?_
    refine aS ?_
    refine oOn 24 hg4 ?_
    refine aS ?_
    try refine oWr ?_
    refine oOn 24 hg4 ?_
    refine aS ?_
    refine oOn 24 hg4 ?_
    refine aS ?_
    refine oOn 24 hg4 ?_
    refine aS ?_
    refine oOn 24 hg4 ?_
    refine aS ?_
    refine o_p (Qf rfl rfl hg4 rfl) rfl ?_
    refine aS ?_
    exact oJn 7 31)
   (by
    intro hg6
    have hs7:=hg6;try simp only [dT] at hs7
    refine oOf 24 hg6 ?_
    refine oOf 24 hg6 ?_
    refine oOf 24 hg6 ?_
    refine oOf 24 hg6 ?_
    refine oOf 24 hg6 ?_
    refine oOf 24 hg6 ?_
    refine o_p (Qg rfl rfl hg6 rfl) rfl ?_
    refine aS ?_
    exact oJn 7 31) ?_
  refine aS ?_
  refine Xn 5 32 37 _ _ rfl
   (by
    intro hg8
    have hs9:=hg8;try simp only [Bool.or_eq_false_iff,decide_eq_false_iff_not] at hs9
    refine oOn 32 hg8 ?_
    refine aS ?_
    refine oOn 32 hg8 ?_
    refine aS ?_
    refine oOn 32 hg8 ?_
    refine aS ?_
    refine oOn 32 hg8 ?_
    refine aS ?_
    refine o_p (Qf rfl rfl hg8 rfl) rfl ?_
    refine aS ?_
    exact oJn 5 37)
   (by
    intro hg10
    have hs11:=hg10;try simp only [Bool.or_eq_true,decide_eq_true_eq] at hs11
    refine oOf 32 hg10 ?_
    refine oOf 32 hg10 ?_
    refine oOf 32 hg10 ?_
    refine oOf 32 hg10 ?_
    refine o_p (Qg rfl rfl hg10 rfl) rfl ?_
    refine aS ?_
    exact oJn 5 37) ?_
  refine aS ?_
  refine Xn 5 38 43 _ _ rfl
   (by
    intro hg12
    have hs13:=hg12;try simp only [Bool.or_eq_false_iff,decide_eq_false_iff_not] at hs13
    refine oOn 38 hg12 ?_
    refine aS ?_
    refine oOn 38 hg12 ?_
    refine aS ?_
    refine oOn 38 hg12 ?_
    refine aS ?_
    refine oOn 38 hg12 ?_
    refine aS ?_
    refine o_p (Qf rfl rfl hg12 rfl) rfl ?_
    refine aS ?_
    exact oJn 5 43)
   (by
    intro hg14
    have hs15:=hg14;try simp only [Bool.or_eq_true,decide_eq_true_eq] at hs15
    refine oOf 38 hg14 ?_
    refine oOf 38 hg14 ?_
    refine oOf 38 hg14 ?_
    refine oOf 38 hg14 ?_
    refine o_p (Qg rfl rfl hg14 rfl) rfl ?_
    refine aS ?_
    exact oJn 5 43) ?_
  refine aS ?_
  refine Qc rfl (fun h16=>?_) fun h16=>?_
  ·try simp only [Bool.or_eq_true,decide_eq_true_eq] at h16
   have hn9 : ¬ ((0 < i ∧ i + 1 < L.length) ∧ (nth L i).es.length + (nth L i).cs.length = 0):=by have hq:=h16;omega
   have hun2 : (XC (⟨(j : Int),mo,rm,pln L⟩ : Tre) i S) = (3,S):=by rw [hun];exact if_neg hn9
   refine aS4 ?_
   exact rT rfl rfl (fun w' h'=>⟨(),by rw [hun2];rfl,trivial,by rw [hun2];exact h'.ent aEt⟩)
  try simp only [Bool.or_eq_false_iff,decide_eq_false_iff_not] at h16
  have hn9 : (0 < i ∧ i + 1 < L.length) ∧ (nth L i).es.length + (nth L i).cs.length = 0:=by have hq:=h16;omega
  have hun2 : (XC (⟨(j : Int),mo,rm,pln L⟩ : Tre) i S) = (0,S):=by rw [hun];exact if_pos hn9
  refine aS5 ?_
  exact rT rfl rfl (fun w' h'=>⟨(),by rw [hun2];rfl,trivial,by rw [hun2];exact h'.ent aEt⟩)
 try simp only [Bool.not_eq_false'] at h3
 have hu9 : (nth L i).us = true:=by have hq:=h3;simpa using hq
 iterate 13 refine aS ?_
 refine Qm (L':=[(2,_),(3,_),(6,_),(7,_),(8,_),(47,_)]) aSx (fun _ h=>h) ?_
 refine Qom (α:=Unit) [8,48,49] (fun _=>[(8,.int .i64 (Yx mo rm i))]) (fun _=>True) ?_ ?_
 ·skip
  refine Qc rfl (fun h17=>?_) fun h17=>?_
  ·try simp only [dT] at h17
   have hi0 : i = 0:=by have hq:=h17;omega
   refine aS5 ?_
   exact Qx () trivial (by rw [show Yx mo rm i = rm from if_pos hi0];exact aSx) (fun w h=>h)
  try simp only [dN] at h17
  have hi0 : ¬ i = 0:=by have hq:=h17;omega
  refine aS ?_
  exact Qx () trivial (by rw [show Yx mo rm i = mo from if_neg hi0];exact aSx) (fun w h=>h)
 intro _ _
 refine aS9 ?_
 refine Qc rfl (fun h18=>?_) fun h18=>?_
 ·try simp only [dT] at h18
  have h16 : (XC (⟨(j : Int),mo,rm,pln L⟩ : Tre) i S) = (16,S):=Qq1 (t:=(⟨(j : Int),mo,rm,pln L⟩ : Tre)) hNI hu9 (by show ¬ ((nth L i).es.length : Int) ≤ Yx mo rm i;have hq:=h18;omega)
  refine aS4 ?_
  exact rT rfl rfl (fun w' h'=>⟨(),by rw [h16];rfl,trivial,by rw [h16];exact h'.ent aEt⟩)
 try simp only [dN] at h18
 have hM9 : ((nth L i).es.length : Int) ≤ Yx mo rm i:=by have hq:=h18;omega
 refine aS9 ?_
 refine Xq 9 59 68 _ _ rfl
  (by
   intro hg19
   have hs20:=hg19;try simp only [dT] at hs20
   refine oOn 59 hg19 ?_
   refine aS ?_
   refine oOn 59 hg19 ?_
   refine aS ?_
   refine oOn 59 hg19 ?_
   refine aS ?_
   refine oOn 59 hg19 ?_
   refine aS ?_
   refine oOn 59 hg19 ?_
   refine aS ?_
   refine oOn 59 hg19 ?_
   refine aS ?_
   refine oOn 59 hg19 ?_
   refine aS ?_
   try refine oWr ?_
   refine oOn 59 hg19 ?_
   refine aS ?_
   refine o_p (Qg rfl rfl hg19 rfl) rfl ?_
   refine aS ?_
   exact oJn 9 68)
  (by
   intro hg21
   have hs22:=hg21;try simp only [dN] at hs22
   refine oOf 59 hg21 ?_
   refine oOf 59 hg21 ?_
   refine oOf 59 hg21 ?_
   refine oOf 59 hg21 ?_
   refine oOf 59 hg21 ?_
   refine oOf 59 hg21 ?_
   refine oOf 59 hg21 ?_
   refine oOf 59 hg21 ?_
   refine o_p (Qf rfl rfl hg21 rfl) rfl ?_
   refine aS ?_
   exact oJn 9 68) ?_
 refine aS ?_
 refine Qc rfl (fun h23=>?_) fun h23=>?_
 ·try simp only [Bool.and_eq_true,decide_eq_true_eq,Bool.not_eq_true',decide_eq_false_iff_not] at h23
  have h10 : (XC (⟨(j : Int),mo,rm,pln L⟩ : Tre) i S) = (10,S):=QqU (t:=(⟨(j : Int),mo,rm,pln L⟩ : Tre)) hNI hu9 hM9 (by show ¬ ((nth L i).cs.length = 0 ∨ (nth L i).cs.length = (nth L i).es.length + 1);have hq:=h23;omega)
  refine aS4 ?_
  exact rT rfl rfl (fun w' h'=>⟨(),by rw [h10];rfl,trivial,by rw [h10];exact h'.ent aEt⟩)
 try simp only [Bool.and_eq_false_iff,decide_eq_false_iff_not,Bool.not_eq_false',decide_eq_true_eq] at h23
 have hS9 : (nth L i).cs.length = 0 ∨ (nth L i).cs.length = (nth L i).es.length + 1:=by have hq:=h23;omega
 refine aS7 ?_
 refine Qm (L':=[(2,_),(3,_),(6,_),(7,_),(9,_)]) aSx (fun _ h=>h) ?_
 refine QB (α:=Nat) [6,9,10,69,70,71,72,73,74,75,76,77,78,79,80,81,82,83,84,85,86] (fun k=>[(9,.int .i64 (k : Int))]) (fun _=>HS w (fps [.blk sb 4 tot (Q6 L.length S)]) [.blk sb 4 tot (Q6 L.length S),.blk b1 37 4 [.int .i64 (j : Int),.int .i64 mo,.int .i64 rm,.slice a L.length cap],.blk b2 69 3 (LNd.vals (nth L i))]) (fun k=>k ≤ (nth L i).es.length ∧ ∀ q,q < k → YI (j : Int) (nth (nth L i).es q) = 0) (fun k=>(nth L i).es.length - k) 0 ⟨Nat.zero_le _,fun j h=>absurd h (Nat.not_lt_zero j)⟩ aSx (fun w h=>h.ent aEt) (fun k hx=>?_)
 obtain ⟨hk1,hk3⟩:=hx
 refine aS9 ?_
 refine Qc rfl (fun h24=>?_) fun h24=>?_
 ·try simp only [dT] at h24
  have hk5 : k < (nth L i).es.length:=by omega
  refine aS4 ?_
  refine QL [] Q8 ?_
  refine dFa 0 ?_
  refine dLd 1 [] ?_
  refine dFa 2 ?_
  refine dLd 3 [] ?_
  refine dP 4 ?_
  refine dV 5 rfl (Qa rfl rfl rfl QX (k) (by omega) (by omega) (Rw.some (hs.es hi) (by omega))) ?_
  refine dQ 6 [] rfl (QA _ rfl rfl Qbm rfl (Rw.rd (hs.es hi) hk5)) ?_
  refine dQ 7 [] rfl (Qb rfl QsG rfl (fun w1 h1=>c198 w1 j (nth (nth L i).es k) hj (hK _ (Qy hk5)))) ?_
  refine dP 8 ?_
  refine dNi ?_
  refine aS5 ?_
  refine Qc rfl (fun h25=>?_) fun h25=>?_
  ·try simp only [Bool.not_eq_true',decide_eq_false_iff_not] at h25
   have hz6 : ¬ YI (j : Int) (nth (nth L i).es k) = 0:=h25
   have hEb:=QoQ hk5 hk3 hz6
   have hEe : (XC (⟨(j : Int),mo,rm,pln L⟩ : Tre) i S) = (YI (j : Int) (nth (nth L i).es k),S):=by rw [← hEb];exact QqM (t:=(⟨(j : Int),mo,rm,pln L⟩ : Tre)) hNI hu9 hM9 hS9 (by show ¬ Y3 (j : Int) (nth L i).es = 0;rw [hEb];exact hz6)
   refine aS5 ?_
   exact rT rfl rfl (fun w' h'=>⟨(),by rw [hEe];rfl,trivial,by rw [hEe];exact h'.ent aEt⟩)
  try simp only [Bool.not_eq_false',decide_eq_true_eq] at h25
  have hz6 : YI (j : Int) (nth (nth L i).es k) = 0:=by have hq:=h25;omega
  refine aS5 ?_
  try refine oWr ?_
  refine aS2 ?_
  exact Qw (k + 1) (by omega) ⟨by omega,fun q hq=>(Nat.lt_or_ge q k).elim (hk3 q) (fun h9=>by obtain rfl : q = k:=(by omega);exact hz6)⟩ aSx (fun w h=>h.ent aEt)
 try simp only [dN] at h24
 have hEn : ∀ q,q < (nth L i).es.length → YI (j : Int) (nth (nth L i).es q) = 0:=fun q hq=>hk3 q (by omega)
 have hE0 : Y3 (j : Int) (nth L i).es = 0:=Qpm hEn
 refine Qo rfl ?_
 refine aS6 ?_
 refine QB (α:=Nat × List Int) [6,11,12,87,88,89,90,91,92,93,94,95,96,97,98,99,100,101,102,103,104,105,106,107,108,109,110,111,112,113,114,115,116,117,118,119,120,121] (fun y=>[(11,.int .i64 (y.1 : Int))]) (fun y=>HS w (fps [.blk sb 4 tot (Q6 L.length S)]) [.blk sb 4 tot (Q6 L.length y.2),.blk b1 37 4 [.int .i64 (j : Int),.int .i64 mo,.int .i64 rm,.slice a L.length cap],.blk b2 69 3 (LNd.vals (nth L i))]) (fun y=>y.1 ≤ (nth L i).cs.length ∧ (XQ (pln L) (nth L i).cs S) = XQ (pln L) ((nth L i).cs.drop y.1) y.2) (fun y=>(nth L i).cs.length - y.1) (0,S) ⟨Nat.zero_le _,rfl⟩ aSx (fun w h=>h.ent aEt) (fun ⟨k,Sk⟩ hx=>?_)
 dsimp only
 obtain ⟨hk1,hk3⟩:=hx
 simp only [] at hk1 hk3
 refine aS9 ?_
 refine Qc rfl (fun h26=>?_) fun h26=>?_
 ·try simp only [dT] at h26
  have hk5 : k < (nth L i).cs.length:=by omega
  have hkd9 : nth (nth L i).cs k = ((nth L i).cs.getD k 0):=rfl
  have hst:=Qb7 hk5
  rw [hst,Qba] at hk3
  refine aS8 ?_
  refine o_p (Qa rfl rfl rfl Q7 (k) (by omega) (by omega) (Rw.some (hs.cs hi) (by omega))) rfl ?_
  refine o_q (Qe rfl rfl Y9 (((hs.cs hi).rdj 0 hk5 rfl))) rfl ?_
  refine Qz (show _ = Value.int .i64 ((nth L i).cs.getD k 0) from rfl) ?_
  refine Qaq ?_
  try refine oWr ?_
  refine o_q (Qb rfl QbK rfl (fun w1 h1=>c40 w1 _ _ _)) rfl ?_
  refine aS2 ?_
  refine Xn 8 106 114 _ _ rfl
   (by
    intro hg27
    have hs28:=hg27;try simp only [Bool.not_eq_false',Bool.and_eq_true,decide_eq_true_eq] at hs28
    refine oOn 106 hg27 ?_
    refine aS ?_
    refine oOn 106 hg27 ?_
    refine aS ?_
    refine oOn 106 hg27 ?_
    refine aS ?_
    refine oOn 106 hg27 ?_
    refine o_p (Qa rfl rfl rfl Xm (((nth L i).cs.getD k 0).toNat) (by omega) (by omega) (Rw.some hs.1 (by omega))) rfl ?_
    refine oOn 106 hg27 ?_
    refine aS ?_
    refine oOn 106 hg27 ?_
    refine o_q (Qe rfl rfl Qf4 ((hs.1.rdj 0 (i:=((nth L i).cs.getD k 0).toNat) (by omega) rfl))) rfl ?_
    refine oOn 106 hg27 ?_
    refine aS ?_
    refine o_p (Qf rfl rfl hg27 rfl) rfl ?_
    refine aS ?_
    exact oJn 8 114)
   (by
    intro hg29
    have hs30:=hg29;try simp only [Bool.not_eq_true',Bool.and_eq_false_iff,decide_eq_false_iff_not] at hs30
    refine oOf 106 hg29 ?_
    refine oOf 106 hg29 ?_
    refine oOf 106 hg29 ?_
    refine oOf 106 hg29 ?_
    refine oOf 106 hg29 ?_
    refine oOf 106 hg29 ?_
    refine oOf 106 hg29 ?_
    refine o_p (Qg rfl rfl hg29 rfl) rfl ?_
    refine aS ?_
    exact oJn 8 114) ?_
  refine aS ?_
  refine Qc rfl (fun h31=>?_) fun h31=>?_
  ·try simp only [Bool.or_eq_true,Bool.not_eq_true',Bool.and_eq_false_iff,decide_eq_false_iff_not] at h31
   have hko : ¬ Qcy (pln L) ((nth L i).cs.getD k 0):=by rintro ⟨h91,h92⟩;rw [hnl] at h91;rw [QZ (by omega)] at h92;have hq:=h31;exact hq.elim (fun hq=>by omega) (fun hq=>by rw [show (nth L ((nth L i).cs.getD k 0).toNat).pl.us = (nth L ((nth L i).cs.getD k 0).toNat).us from rfl,hq] at h92;cases h92)
   have hk6e : (XC (⟨(j : Int),mo,rm,pln L⟩ : Tre) i S) = (6,Sk):=by have h8 : QbP (pln L) ((nth L i).cs.getD k 0) Sk = 6:=if_neg hko;have h7 : Qde (pln L) ((nth L i).cs.getD k 0) Sk = Sk:=if_neg hko;rw [h8,h7,if_neg (by decide)] at hk3;rw [← hk3];exact Qk1 (t:=(⟨(j : Int),mo,rm,pln L⟩ : Tre)) hNI hu9 hM9 hS9 hE0 (by show ¬ (XQ (pln L) (nth L i).cs S).1 = 0;rw [hk3];show ¬ (6 : Int) = 0;decide)
   refine aS ?_
   refine Qm (L':=[(2,_),(3,_),(7,_),(9,_),(11,_),(12,_),(69,_),(70,_),(71,_),(72,_),(73,_)]) aSx (fun _ h=>h) ?_
   refine aS3 ?_
   exact rT rfl rfl (fun w' h'=>⟨(),by rw [hk6e];rfl,trivial,by rw [hk6e];exact h'.ent aEt⟩)
  try simp only [Bool.or_eq_false_iff,Bool.not_eq_false',Bool.and_eq_true,decide_eq_true_eq] at h31
  have hko : Qcy (pln L) ((nth L i).cs.getD k 0):=by have hq:=h31;refine ⟨by rw [hnl];exact hq.1,?_⟩;rw [QZ (by omega)];exact hq.2
  have hko1:=hko.1
  rw [hnl] at hko1
  have hcv2 : ((nth L i).cs.getD k 0).toNat < L.length:=by omega
  have hcc : ((((nth L i).cs.getD k 0).toNat : Nat) : Int) = ((nth L i).cs.getD k 0):=Int.toNat_of_nonneg (by omega)
  have h7 : Qde (pln L) ((nth L i).cs.getD k 0) Sk = ((nth L i).cs.getD k 0) :: Sk:=if_pos hko
  rw [h7] at hk3
  have hsv:=QiJ (n:=L.length) (S:=Sk) hcv2
  rw [hcc] at hsv
  refine aS3 ?_
  refine Qm (L':=[(2,_),(3,_),(7,_),(9,_),(11,_),(12,_),(69,_),(70,_),(71,_),(72,_),(73,_)]) aSx (fun _ h=>h) ?_
  refine aS3 ?_
  refine o_p (Qa rfl rfl rfl QaW (((nth L i).cs.getD k 0).toNat) (by omega) (by omega) rfl) rfl ?_
  refine Qz (show _ = Value.pointer (some ⟨sb,((nth L i).cs.getD k 0).toNat,none⟩) from by rw [Nat.zero_add,Nat.mul_one]) ?_
  refine o_q (X1 rfl rfl Qf4 (fun w h=>h.rd_blk (Mc:=[]) aPk (QaK hcv2) (by simp))) rfl ?_
  refine aS ?_
  refine Qc rfl (fun h32=>?_) fun h32=>?_
  ·try simp only [dT] at h32
   have hmem : ((nth L i).cs.getD k 0) ∈ Sk:=by have hq:=h32;rw [hcc] at hq;exact hq
   have h8 : QbP (pln L) ((nth L i).cs.getD k 0) Sk = 23:=by rw [QbP,if_pos hko,if_pos hmem]
   rw [h8,if_neg (by decide)] at hk3
   have hk23 : (XC (⟨(j : Int),mo,rm,pln L⟩ : Tre) i S) = (23,((nth L i).cs.getD k 0) :: Sk):=by rw [← hk3];exact Qk1 (t:=(⟨(j : Int),mo,rm,pln L⟩ : Tre)) hNI hu9 hM9 hS9 hE0 (by show ¬ (XQ (pln L) (nth L i).cs S).1 = 0;rw [hk3];show ¬ (23 : Int) = 0;decide)
   refine aS4 ?_
   exact rT rfl rfl (fun w' h'=>⟨(),by rw [hk23];rfl,trivial,by rw [hk23,Qog hmem];exact h'.ent aEt⟩)
  try simp only [dN] at h32
  have hmem : ¬ ((nth L i).cs.getD k 0) ∈ Sk:=by have hq:=h32;rw [hcc] at hq;exact hq
  have h8 : QbP (pln L) ((nth L i).cs.getD k 0) Sk = 0:=by rw [QbP,if_pos hko,if_neg hmem]
  rw [h8,if_pos rfl] at hk3
  have hk9:=hk3
  refine aS4 ?_
  refine o_p (Qa rfl rfl rfl QaW (((nth L i).cs.getD k 0).toNat) (by omega) (by omega) rfl) rfl ?_
  refine Qz (show _ = Value.pointer (some ⟨sb,((nth L i).cs.getD k 0).toNat,none⟩) from by rw [Nat.zero_add,Nat.mul_one]) ?_
  refine QjQ (QaT rfl rfl rfl Qf4 rfl aPt (by rw [Qav];show _ + 1 ≤ _;omega) rfl) (fun _ _=>?_)
  refine aS5 ?_
  try refine oWr ?_
  refine aS2 ?_
  exact Qw (k + 1,((nth L i).cs.getD k 0) :: Sk) (by (try simp only []);omega) ⟨by (try simp only []);omega,hk9⟩ aSx (fun w h=>by have h2:=h;rw [show Qi (Q6 L.length Sk) ((nth L i).cs.getD k 0).toNat (Value.cells (.bool true)).toList = Q6 L.length (((nth L i).cs.getD k 0) :: Sk) from hsv] at h2;exact h2.ent aEt)
 try simp only [dN] at h26
 have hdr9 : (nth L i).cs.drop k = []:=List.drop_of_length_le (by omega)
 rw [hdr9] at hk3
 have hK0 : (XQ (pln L) (nth L i).cs S).1 = 0:=by rw [hk3];rfl
 have hK2 : (XQ (pln L) (nth L i).cs S).2 = Sk:=by rw [hk3];rfl
 have hOr : (XC (⟨(j : Int),mo,rm,pln L⟩ : Tre) i S) = (Qaz (j : Int) (nth L i).es,(XQ (pln L) (nth L i).cs S).2):=by have h9:=Qp6 (t:=(⟨(j : Int),mo,rm,pln L⟩ : Tre)) (i:=i) (S:=S) (n:=(nth L i).pl) hNI hu9 hM9 hS9 hE0 hK0;exact h9
 refine Qo rfl ?_
 refine aS6 ?_
 refine QB (α:=Nat) [6,13,122,123,124,125,126,127,128,129,130,131,132,133,134,135,136,137,138,139,140,141,142,143,144,145] (fun k=>[(13,.int .i64 (k : Int))]) (fun _=>HS w (fps [.blk sb 4 tot (Q6 L.length S)]) [.blk sb 4 tot (Q6 L.length (XQ (pln L) (nth L i).cs S).2),.blk b1 37 4 [.int .i64 (j : Int),.int .i64 mo,.int .i64 rm,.slice a L.length cap],.blk b2 69 3 (LNd.vals (nth L i))]) (fun k=>1 ≤ k ∧ ∀ q,q < k → QaI (j : Int) (nth L i).es q = 0) (fun k=>(nth L i).es.length - k) 1 ⟨Nat.le_refl _,fun q h=>if_pos (.inl (by omega))⟩ aSx (fun w h=>by rw [hK2];exact h.ent aEt) (fun k hx=>?_)
 obtain ⟨hk1,hk3b⟩:=hx
 refine aS9 ?_
 refine Qc rfl (fun h33=>?_) fun h33=>?_
 ·try simp only [dT] at h33
  have hk5 : k < (nth L i).es.length:=by omega
  have hk6 : k - 1 < (nth L i).es.length:=by omega
  refine aS4 ?_
  refine QL [] Q8 ?_
  refine dFa 0 ?_
  refine dLd 1 [] ?_
  refine dFa 2 ?_
  refine dLd 3 [] ?_
  refine dP 4 ?_
  refine dP 5 ?_
  try refine dWr ?_
  refine dV 6 rfl (Qa rfl rfl rfl QX (k - 1) (by omega) (by omega) (Rw.some (hs.es hi) (by omega))) ?_
  refine dFa 7 ?_
  refine dQ 8 [] rfl (Qe rfl rfl ZR (((hs.es hi).rdj 0 hk6 rfl))) ?_
  refine dFa 9 ?_
  refine dLd 10 [] ?_
  refine dP 11 ?_
  refine dV 12 rfl (Qa rfl rfl rfl QX (k) (by omega) (by omega) (Rw.some (hs.es hi) (by omega))) ?_
  refine dFa 13 ?_
  refine dQ 14 [] rfl (Qe rfl rfl ZR (((hs.es hi).rdj 0 hk5 rfl))) ?_
  refine dQ 15 [] rfl (Qb rfl Qin rfl (fun w1 h1=>c65 w1 j (nth (nth L i).es (k - 1)).key (nth (nth L i).es k).key hj (Qc5 (hEn _ hk6)) (Qc5 (hEn _ hk5)) (hK _ (Qy hk6)) (hK _ (Qy hk5)))) ?_
  refine dP 16 ?_
  refine dNi ?_
  refine Qc rfl (fun h34=>?_) fun h34=>?_
  ·try simp only [dT] at h34
   have hz11 : ¬ QaI (j : Int) (nth L i).es k = 0:=by unfold QaI;rw [if_neg (by have hq:=h34;omega)];decide
   have hOb:=QpH hk5 hk3b hz11
   have hOv : QaI (j : Int) (nth L i).es k = 9:=if_neg (by have hq:=h34;omega)
   refine aS ?_
   refine Qm (L':=[(2,_),(3,_),(7,_),(9,_),(11,_),(13,_),(69,_),(70,_),(71,_),(72,_),(73,_),(87,_),(88,_),(89,_),(90,_),(91,_)]) aSx (fun _ h=>h) ?_
   refine aS3 ?_
   exact rT rfl rfl (fun w' h'=>⟨(),by rw [hOr,hOb,hOv];rfl,trivial,by rw [hOr];exact h'.ent aEt⟩)
  try simp only [dN] at h34
  have hz11 : QaI (j : Int) (nth L i).es k = 0:=if_pos (.inr (by have hq:=h34;omega))
  refine aS2 ?_
  refine Qm (L':=[(2,_),(3,_),(7,_),(9,_),(11,_),(13,_),(69,_),(70,_),(71,_),(72,_),(73,_),(87,_),(88,_),(89,_),(90,_),(91,_)]) aSx (fun _ h=>h) ?_
  refine aS3 ?_
  try refine oWr ?_
  refine aS2 ?_
  exact Qw (k + 1) (by omega) ⟨by omega,fun q hq=>(Nat.lt_or_ge q k).elim (hk3b q) (fun h9=>by obtain rfl : q = k:=(by omega);exact hz11)⟩ aSx (fun w h=>h.ent aEt)
 try simp only [dN] at h33
 have hO0 : Qaz (j : Int) (nth L i).es = 0:=QoP (fun q hq=>hk3b q (by omega))
 refine Qo rfl ?_
 refine aS4 ?_
 exact rT rfl rfl (fun w' h'=>⟨(),by rw [hOr,hO0];rfl,trivial,by rw [hOr];exact h'.ent aEt⟩)
end Go.Proofs
namespace Gx
open Go Go.RowKit
def mkS (vs : List Vis) (S : List Int) : List Int:=(vs.map fun v=>((v.i : Nat) : Int)).reverse ++ S
theorem QpZ (A B : List Vis) (S : List Int) : mkS (A ++ B) S = mkS B (mkS A S):=by simp [mkS]
theorem Qqu {vs : List Vis} {c : Int} : c ∈ mkS vs [] ↔ ∃ v ∈ vs,((v.i : Nat) : Int) = c:=by simp [mkS]
end Gx
namespace Go.Proofs
open Go Go.RowKit Gx
attribute [local irreducible] Go.Calls Gx.S Gx.O Gx.D Gx.OpP Gx.OpQ Gx.OpH
set_option maxRecDepth 20000
theorem Qpp : Qt Tryz.prog 137 = true:=by kernel_rfl
def MkC (j : Nat) (mo rm : Int) (a : Option Addr) (cap : Nat) (L : List LNd) (sb scap tot : Nat) (f : Nat) : Prop:=∀ (w : World) (S : List Int) (v : Vis) (P : List Nat),(HS w (fps [.blk sb 4 tot (Q6 L.length S)]) [.blk sb 4 tot (Q6 L.length S)] w) → (Nt w (fps [.blk sb 4 tot (Q6 L.length S)]) a L) → (TOk (j : Int) (pln L)) → (Bd (pln L)) → (0 < L.length) → (Gx.Way (pln L) (v.i :: P)) → P.length + f = L.length → Calls Tryz.prog 137 #[.agg #[.int .i64 (j : Int),.int .i64 mo,.int .i64 rm,.slice a L.length cap],.int .i64 (v.i : Int),.slice (some ⟨sb,0,none⟩) L.length scap] w fun en w'=>∃ g : Unit,en = .returned (.tuple #[]) ∧ True ∧ HS w (fps [.blk sb 4 tot (Q6 L.length S)]) [.blk sb 4 tot (Q6 L.length (mkS (vis (pln L) f v) S))] w'
theorem Qus (w : World) (j : Nat) (mo rm : Int) (a : Option Addr) (cap : Nat) (L : List LNd) (sb scap tot : Nat) (S : List Int) (v : Vis) (P : List Nat) (f : Nat) (hw : HS w (fps [.blk sb 4 tot (Q6 L.length S)]) [.blk sb 4 tot (Q6 L.length S)] w) (hs : Nt w (fps [.blk sb 4 tot (Q6 L.length S)]) a L) (hT : TOk (j : Int) (pln L)) (hB : Bd (pln L)) (h0 : 0 < L.length) (hway : Gx.Way (pln L) (v.i :: P)) (hf : P.length + (f + 1) = L.length) (ih : MkC j mo rm a cap L sb scap tot f) : Calls Tryz.prog 137 #[.agg #[.int .i64 (j : Int),.int .i64 mo,.int .i64 rm,.slice a L.length cap],.int .i64 (v.i : Int),.slice (some ⟨sb,0,none⟩) L.length scap] w fun en w'=>∃ g : Unit,en = .returned (.tuple #[]) ∧ True ∧ HS w (fps [.blk sb 4 tot (Q6 L.length S)]) [.blk sb 4 tot (Q6 L.length (mkS (vis (pln L) (f + 1) v) S))] w':=by
 have hi0:=QcN hT (by rw [Qh];exact h0) hway v.i (List.mem_cons_self ..)
 have hi : v.i < L.length:=by rw [Qh] at hi0;exact hi0
 have hn:=QZ hi
 have hle:=hB.len
 rw [Qh] at hle
 have hcl:=hB.cs v.i hi0
 rw [hn] at hcl
 simp only [LNd.pl] at hcl
 refine enter (args:=[_,_,_]) Tryz.func137 Tryz.ntmps137 rfl rfl hw ?_
 refine aS2 ?_
 refine oBx fun b1 _=>?_
 refine aS5 ?_
 refine o_p (Qa rfl rfl rfl QaW (v.i) (by omega) (by omega) rfl) rfl ?_
 refine Qz (show _ = Value.pointer (some ⟨sb,v.i,none⟩) from by rw [Nat.zero_add,Nat.mul_one]) ?_
 refine QjQ (QaT rfl rfl rfl Qf4 rfl aPt (by rw [Qav];show _ + 1 ≤ _;omega) rfl) (fun _ _=>?_)
 refine aS6 ?_
 refine QB (α:=Nat) [6,10,11,12,13,14,15,16,17,18,19,20,21,22,23,24,25,26,27,28,29,30,31,32] (fun k=>[(6,.int .i64 (k : Int))]) (fun k=>HS w (fps [.blk sb 4 tot (Q6 L.length S)]) [.blk sb 4 tot (Q6 L.length (mkS (Qat (pln L) f v k) S)),.blk b1 37 4 [.int .i64 (j : Int),.int .i64 mo,.int .i64 rm,.slice a L.length cap]]) (fun k=>k ≤ (nth L v.i).cs.length) (fun k=>(nth L v.i).cs.length - k) 0 (Nat.zero_le _) aSx (fun w h=>by have h2:=h;rw [show Qi (Q6 L.length S) v.i (Value.cells (.bool true)).toList = Q6 L.length (((v.i : Nat) : Int) :: S) from QiJ hi] at h2;exact h2.ent aEt) (fun k hk1=>?_)
 refine aS7 ?_
 refine o_p (Qa rfl rfl rfl Xm (v.i) (by omega) (by omega) (Rw.some hs.1 (by omega))) rfl ?_
 refine aS ?_
 refine o_q (Qe rfl rfl QbF ((hs.1.rdj 2 hi rfl))) rfl ?_
 refine aS3 ?_
 refine Qc rfl (fun h2=>?_) fun h2=>?_
 ·try simp only [dT] at h2
  have hkl : k < (nth L v.i).cs.length:=by omega
  have hkid:=QfZ hT hi0 (k:=k) (by rw [hn];exact hkl)
  rw [hn,Qh] at hkid
  simp only [LNd.pl] at hkid
  have hway2:=Qdj hway hi0 (k:=k) (by rw [hn];exact hkl) (by rw [hn];simp only [LNd.pl];omega)
  refine aS3 ?_
  refine QL [11] Q8 ?_
  refine dLn 0 [[]] ?_
  refine dFa 1 ?_
  refine dLd 2 [[9,8,6,5,4]] ?_
  refine dP 3 ?_
  refine dV 4 rfl (Qa rfl rfl rfl Xm (v.i) (by omega) (by omega) (Rw.some hs.1 (by omega))) ?_
  refine dFa 5 ?_
  refine dQ 6 [[9,8]] rfl (Qe rfl rfl QbF ((hs.1.rdj 2 hi rfl))) ?_
  refine dP 7 ?_
  refine dV 8 rfl (Qa rfl rfl rfl Q7 (k) (by omega) (by omega) (Rw.some (hs.cs hi) (by omega))) ?_
  refine dQ 9 [[]] rfl (Qe rfl rfl Y9 (((hs.cs hi).rdj 0 (i:=k) hkl rfl))) ?_
  refine QG (show _ = Value.int .i64 ((XJ (pln L) v k).i : Int) from by rw [XJ,hn];exact congrArg (Value.int .i64) (Int.toNat_of_nonneg (show 0 ≤ (nth L v.i).cs.getD k 0 by omega)).symm) ?_
  refine dP 10 ?_
  refine dH 11 rfl (Xw (Cs:=[.blk sb 4 tot (Q6 L.length (mkS (Qat (pln L) f v k) S))]) rfl Qpp rfl aPs (fun w1 h1 hf9=>ih w1 (mkS (Qat (pln L) f v k) S) (XJ (pln L) v k) (v.i :: P) hf9 ((hs.keep h1).mono (Xc aPs)) hT hB h0 hway2 (by simp only [List.length_cons];omega))) (fun _ _=>?_)
  refine dTu [] ?_
  refine dNi ?_
  refine aS4 ?_
  try refine oWr ?_
  refine aS2 ?_
  exact Qw (k + 1) (by omega) (by omega) aSx (fun w h=>by rw [XL,QpZ];exact h.ent aEt)
 try simp only [dN] at h2
 obtain rfl : k = (nth L v.i).cs.length:=by omega
 refine Qo rfl ?_
 exact Qpt rfl (fun w' h'=>⟨(),rfl,trivial,by rw [YS,hn];exact h'.ent aEt⟩)
theorem c137 (j : Nat) (mo rm : Int) (a : Option Addr) (cap : Nat) (L : List LNd) (sb scap tot : Nat) : ∀ f,MkC j mo rm a cap L sb scap tot f
  | 0=>fun w S v P hw hs hT hB h0 hway hf=>by
    have h1:=QaX hT (by rw [Qh];exact h0) hway;rw [Qh,List.length_cons] at h1;omega
  | f + 1=>fun w S v P hw hs hT hB h0 hway hf=>Qus w j mo rm a cap L sb scap tot S v P f hw hs hT hB h0 hway hf (c137 j mo rm a cap L sb scap tot f)
end Go.Proofs
namespace Gx
open Go Go.RowKit
def StK (w : World) (p : Option Addr) (n : Nat) (o : Option (List UInt8)) : Prop:=match o with
 | none=>n = 0
 | some k=>n = 1 ∧ ∃ b off,p = some ⟨b,off,none⟩ ∧ Rd w [] b off (.string (bs k))
theorem StK.later {w w' : World} {As : List HA} {p : Option Addr} {n : Nat} {o : Option (List UInt8)} (h : StK w p n o) (hs : HS w [] As w') : StK w' p n o:=by
 cases o with
 | none=>exact h
 | some k=>
  obtain ⟨h1,b,off,h2,h3⟩:=h;exact ⟨h1,b,off,h2,h3.next hs⟩
theorem StK.of_pos {w : World} {p : Option Addr} {n : Nat} {o : Option (List UInt8)} (h : StK w p n o) (hn : 0 < n) : ∃ k b off,o = some k ∧ n = 1 ∧ p = some ⟨b,off,none⟩ ∧ Rd w [] b off (.string (bs k)):=by
 cases o with
 | none=>
  have : n = 0:=h;omega
 | some k=>
  obtain ⟨h1,b,off,h2,h3⟩:=h;exact ⟨k,b,off,rfl,h1,h2,h3⟩
theorem StK.of_no {w : World} {p : Option Addr} {n : Nat} {o : Option (List UInt8)} (h : StK w p n o) (hn : ¬ 0 < n) : o = none:=by
 cases o with
 | none=>rfl
 | some k=>
  obtain ⟨h1,_⟩:=h;omega
theorem StK.new {w : World} {b : Nat} {k : List UInt8} (h : Rd w [] b 0 (.string (bs k))) : StK w (some ⟨b,0,none⟩) 1 (some k):=⟨rfl,b,0,rfl,h⟩
theorem QeE {es : List TEnt} {k : Nat} {lo : Option (List UInt8)} (h : 0 < k) : loK es k lo = some (nth es (k - 1)).key:=if_pos h
theorem Qha {es : List TEnt} {k : Nat} {lo : Option (List UInt8)} (h : ¬ 0 < k) : loK es k lo = lo:=if_neg h
theorem Qew {es : List TEnt} {k : Nat} {hi : Option (List UInt8)} (h : k < es.length) : hiK es k hi = some (nth es k).key:=if_pos h
theorem QgT {es : List TEnt} {k : Nat} {hi : Option (List UInt8)} (h : ¬ k < es.length) : hiK es k hi = hi:=if_neg h
theorem XY {t : Tre} {deep : Int} : ∀ (A B : List Vis),X5 t deep (A ++ B) = if (X5 t deep A).2 = 0 then X5 t deep B else X5 t deep A
 | [],B=>rfl
 | v :: A,B=>by
  rw [List.cons_append,X5,X5]
  by_cases h : QdE t deep v = 0
  ·rw [if_pos h,if_pos h];exact XY A B
  ·rw [if_neg h,if_neg h,if_neg h]
theorem QqR {t : Tre} {v : Vis} {N R : Nd} (hN : nth t.ns v.i = N) (hR : nth t.ns 0 = R) (h1 : R.cs.length = 0 ∨ R.cs.length = R.es.length + 1) (h2 : ∀ c ∈ R.cs,1 ≤ c) : ZJ t v = true ↔ (v.i ≠ 0 ∧ (N.es.length : Int) < t.mo / 2) ∨ (((R.es.length = 0 ∧ R.cs.length = 1) ∧ R.cs.getD 0 0 = (v.i : Int)) ∧ (N.es.length : Int) ≤ t.rm):=by
 subst hN hR;unfold ZJ;simp only [Bool.and_eq_true,Bool.or_eq_true,decide_eq_true_eq];constructor
 ·rintro ⟨h3,h4 | ⟨⟨h4,h5⟩,h6⟩⟩
  ·exact .inl ⟨by omega,h4⟩
  ·refine .inr ⟨⟨⟨h4,?_⟩,?_⟩,h6⟩
   ·rcases h1 with h1 | h1
    ·rw [List.eq_nil_of_length_eq_zero h1] at h5;cases h5
    ·omega
   ·have hl : (nth t.ns 0).cs.length = 1:=by
     rcases h1 with h1 | h1
     ·rw [List.eq_nil_of_length_eq_zero h1] at h5;cases h5
     ·omega
    obtain ⟨c,hc⟩:=List.length_eq_one_iff.1 hl;rw [hc] at h5 ⊢;exact (List.mem_singleton.1 h5).symm
 ·rintro (⟨h3,h4⟩ | ⟨⟨⟨h4,h5⟩,h6⟩,h7⟩)
  ·exact ⟨by omega,.inl h4⟩
  ·obtain ⟨c,hc⟩:=List.length_eq_one_iff.1 h5;have h8:=h2 c (by rw [hc];exact List.mem_singleton.2 rfl);rw [hc] at h6 ⊢;have h9 : c = (v.i : Int):=h6;exact ⟨by omega,.inr ⟨⟨h4,List.mem_singleton.2 h9.symm⟩,h7⟩⟩
theorem QiK {t : Tre} {deep : Int} {v : Vis} (h : ZJ t v = true) : QdE t deep v = 14:=by rw [Qch,if_pos h]
theorem QmM {t : Tre} {deep : Int} {v : Vis} (h : ¬ ZJ t v = true) (h2 : Za t v = true) : QdE t deep v = 9:=by rw [Qch,if_neg h,if_pos h2]
theorem QqO {t : Tre} {deep : Int} {v : Vis} (h : ¬ ZJ t v = true) (h2 : ¬ Za t v = true) (h3 : (nth t.ns v.i).cs.length = 0 ∧ v.d ≠ deep + 1) : QdE t deep v = 22:=by rw [Qch,if_neg h,if_neg h2,if_pos h3]
theorem Qqy {t : Tre} {deep : Int} {v : Vis} (h : ¬ ZJ t v = true) (h2 : ¬ Za t v = true) (h3 : ¬ ((nth t.ns v.i).cs.length = 0 ∧ v.d ≠ deep + 1)) : QdE t deep v = 0:=by rw [Qch,if_neg h,if_neg h2,if_neg h3]
theorem Qos {t : Tre} {v : Vis} {N : Nd} {k : Nat} (hN : nth t.ns v.i = N) (hk : k < N.es.length) (h : ZW t v (nth N.es k) = true) : Za t v = true:=by
 subst hN;exact List.any_eq_true.2 ⟨_,Qy hk,h⟩
theorem Qrk {t : Tre} {v : Vis} {N : Nd} (hN : nth t.ns v.i = N) (h : ∀ q,q < N.es.length → ¬ ZW t v (nth N.es q) = true) : ¬ Za t v = true:=fun h2=>by
 subst hN;obtain ⟨x,hx,h3⟩:=List.any_eq_true.1 h2;obtain ⟨q,hq,e⟩:=List.getElem_of_mem hx;have e2 : nth (nth t.ns v.i).es q = x:=YY (by rw [List.getElem?_eq_getElem hq,e]);exact h q hq (by rw [e2];exact h3)
theorem QdB {t : Tre} {v : Vis} {x : TEnt} : ZW t v x = true ↔ (∃ b,v.lo = some b ∧ 0 ≤ Xe t.co b x.key) ∨ (∃ b,v.hi = some b ∧ 0 ≤ Xe t.co x.key b):=by
 unfold ZW;cases v.lo <;> cases v.hi <;> simp
section
variable {t : Tre} {v : Vis} {x : TEnt} {kl kh : List UInt8}
theorem QuZ (h1 : v.lo = some kl) (h : 0 ≤ Xe t.co kl x.key) : (true = true ↔ ZW t v x = true):=⟨fun _=>QdB.2 (.inl ⟨kl,h1,h⟩),fun _=>rfl⟩
theorem Qvp (h1 : v.lo = some kl) (h : ¬ 0 ≤ Xe t.co kl x.key) (h2 : v.hi = some kh) : (decide (Xe t.co x.key kh ≥ 0) = true ↔ ZW t v x = true):=by
 rw [decide_eq_true_eq,QdB,h1,h2];constructor
 ·exact fun h9=>.inr ⟨kh,rfl,h9⟩
 ·rintro (⟨b,hb,h9⟩ | ⟨b,hb,h9⟩)
  ·cases hb;exact absurd h9 h
  ·cases hb;exact h9
theorem Qut (h1 : v.lo = some kl) (h : ¬ 0 ≤ Xe t.co kl x.key) (h2 : v.hi = none) : (false = true ↔ ZW t v x = true):=by
 rw [QdB,h1,h2];constructor
 ·exact fun h9=>(nomatch h9)
 ·rintro (⟨b,hb,h9⟩ | ⟨b,hb,h9⟩)
  ·cases hb;exact absurd h9 h
  ·cases hb
theorem Qu3 (h1 : v.lo = none) (h2 : v.hi = some kh) : (decide (Xe t.co x.key kh ≥ 0) = true ↔ ZW t v x = true):=by
 rw [decide_eq_true_eq,QdB,h1,h2];constructor
 ·exact fun h9=>.inr ⟨kh,rfl,h9⟩
 ·rintro (⟨b,hb,h9⟩ | ⟨b,hb,h9⟩)
  ·cases hb
  ·cases hb;exact h9
theorem Qvi (h1 : v.lo = none) (h2 : v.hi = none) : (false = true ↔ ZW t v x = true):=by
 rw [QdB,h1,h2];constructor
 ·exact fun h9=>(nomatch h9)
 ·rintro (⟨b,hb,h9⟩ | ⟨b,hb,h9⟩) <;> cases hb
end
theorem Qdt {t : Tre} {deep : Int} {f : Nat} {v : Vis} (h : ¬ QdE t deep v = 0) : X5 t deep (vis t.ns (f + 1) v) = ((v.i : Int),QdE t deep v):=by
 rw [vis,X5,if_neg h]
theorem Qs5 {t : Tre} {deep : Int} {f : Nat} {v : Vis} (h : QdE t deep v = 0) : (X5 t deep (Qat t.ns f v 0)).2 = 0:=by
 rw [Qj1,X5,if_pos h];rfl
end Gx
namespace Go.Proofs
open Go Go.RowKit Gx
attribute [local irreducible] Go.Calls Gx.S Gx.O Gx.D Gx.OpP Gx.OpQ Gx.OpH
set_option maxRecDepth 20000
theorem Qd5 : tsl Tryz.prog 241 = some (9,1,16):=by kernel_rfl
theorem QtC : QO Tryz.prog 9 = some [.string (bs [])]:=by kernel_rfl
theorem QeX : Qt Tryz.prog 138 = true:=by kernel_rfl
def PlC (j : Nat) (mo rm : Int) (a : Option Addr) (cap : Nat) (L : List LNd) (deep : Int) (f : Nat) : Prop:=∀ (w : World) (v : Vis) (P : List Nat) (lv : Int) (pa qa : Option Addr) (pn pc qn qc : Nat),(Nt w [] a L) → (j ≤ 3) → ((0 ≤ mo ∧ mo ≤ 1000) ∧ (0 ≤ deep ∧ deep ≤ 1000)) → (TOk (j : Int) (pln L)) → (Bd (pln L)) → (0 < L.length) → (Gx.Way (pln L) (v.i :: P)) → (v.d = (P.length : Int) + 1) → (lv = deep + 1 - v.d) → (KOk (j : Int) v.lo) → (KOk (j : Int) v.hi) → (StK w pa pn v.lo) → (StK w qa qn v.hi) → P.length + f = L.length → Calls Tryz.prog 138 #[.agg #[.int .i64 (j : Int),.int .i64 mo,.int .i64 rm,.slice a L.length cap],.int .i64 (v.i : Int),.int .i64 lv,.slice pa pn pc,.slice qa qn qc] w fun en w'=>en = .returned (.tuple #[.int .i64 (X5 (⟨(j : Int),mo,rm,pln L⟩ : Tre) deep (vis (pln L) f v)).1,.int .i64 (X5 (⟨(j : Int),mo,rm,pln L⟩ : Tre) deep (vis (pln L) f v)).2]) ∧ Below w.heap.size w w'
set_option maxHeartbeats 400000 in
theorem Qvf (w : World) (j : Nat) (mo rm : Int) (a : Option Addr) (cap : Nat) (L : List LNd) (deep : Int) (v : Vis) (P : List Nat) (lv : Int) (pa qa : Option Addr) (pn pc qn qc : Nat) (f : Nat) (hs : Nt w [] a L) (hj : j ≤ 3) (hmo : (0 ≤ mo ∧ mo ≤ 1000) ∧ (0 ≤ deep ∧ deep ≤ 1000)) (hT : TOk (j : Int) (pln L)) (hB : Bd (pln L)) (h0 : 0 < L.length) (hway : Gx.Way (pln L) (v.i :: P)) (hd : v.d = (P.length : Int) + 1) (hlv : lv = deep + 1 - v.d) (hko : KOk (j : Int) v.lo) (hkp : KOk (j : Int) v.hi) (hlo : StK w pa pn v.lo) (hhi : StK w qa qn v.hi) (hf : P.length + (f + 1) = L.length) (ih : PlC j mo rm a cap L deep f) : Calls Tryz.prog 138 #[.agg #[.int .i64 (j : Int),.int .i64 mo,.int .i64 rm,.slice a L.length cap],.int .i64 (v.i : Int),.int .i64 lv,.slice pa pn pc,.slice qa qn qc] w fun en w'=>en = .returned (.tuple #[.int .i64 (X5 (⟨(j : Int),mo,rm,pln L⟩ : Tre) deep (vis (pln L) (f + 1) v)).1,.int .i64 (X5 (⟨(j : Int),mo,rm,pln L⟩ : Tre) deep (vis (pln L) (f + 1) v)).2]) ∧ Below w.heap.size w w':=by
 have hi0:=QcN hT (by rw [Qh];exact h0) hway v.i (List.mem_cons_self ..)
 have hi : v.i < L.length:=by rw [Qh] at hi0;exact hi0
 have hn:=QZ hi
 have hn0:=QZ h0
 have hle:=hB.len
 rw [Qh] at hle
 have hwl:=QaX hT (by rw [Qh];exact h0) hway
 rw [Qh,List.length_cons] at hwl
 have hcl:=hB.cs v.i hi0
 have hel:=hB.es v.i hi0
 rw [hn] at hcl hel
 simp only [LNd.pl] at hcl hel
 have hsh:=hT.shape v.i hi0
 rw [hn] at hsh
 simp only [LNd.pl] at hsh
 have hgi:=QqR (t:=(⟨(j : Int),mo,rm,pln L⟩ : Tre)) (v:=v) hn hn0 (hn0 ▸ hT.shape 0 (by rw [Qh];exact h0)) (fun c hc=>(hT.kid 0 (by rw [Qh];exact h0) c (by rw [hn0];exact hc)).1.1)
 simp only [LNd.pl] at hgi
 have hE9:=Qc0 hT hi0
 rw [hn] at hE9
 simp only [LNd.pl] at hE9
 refine enter (args:=[_,_,_,_,_]) Tryz.func138 Tryz.ntmps138 rfl rfl (HS.refl w []) ?_
 refine aS2 ?_
 refine oBx fun b1 _=>?_
 refine aS8 ?_
 refine o_p (Qa rfl rfl rfl Xm (v.i) (by omega) (by omega) (Rw.some hs.1 (by omega))) rfl ?_
 refine o_q (QA _ rfl rfl Xz rfl (Rw.rd hs.1 hi)) rfl ?_
 refine oAl (fun b2 _=>?_) Yp
 refine oSt ?_
 refine aS7 ?_
 refine Xq 8 27 35 _ _ rfl
  (by
   intro hg3
   have hs4:=hg3;try simp only [Bool.not_eq_true',decide_eq_false_iff_not] at hs4
   refine oOn 27 hg3 ?_
   refine aS ?_
   refine oOn 27 hg3 ?_
   refine aS ?_
   refine oOn 27 hg3 ?_
   refine aS ?_
   refine oOn 27 hg3 ?_
   refine aS ?_
   refine oOn 27 hg3 ?_
   refine aS ?_
   refine oOn 27 hg3 ?_
   refine o_p (Qax rfl rfl rfl (by omega) (by omega) (by omega)) rfl ?_
   refine oOn 27 hg3 ?_
   refine aS ?_
   refine o_p (Qg rfl rfl hg3 rfl) rfl ?_
   refine aS ?_
   exact oJn 8 35)
  (by
   intro hg5
   have hs6:=hg5;try simp only [Bool.not_eq_false',decide_eq_true_eq] at hs6
   refine oOf 27 hg5 ?_
   refine oOf 27 hg5 ?_
   refine oOf 27 hg5 ?_
   refine oOf 27 hg5 ?_
   refine oOf 27 hg5 ?_
   refine oOf 27 hg5 ?_
   refine oOf 27 hg5 ?_
   refine o_p (Qf rfl rfl hg5 rfl) rfl ?_
   refine aS ?_
   exact oJn 8 35) ?_
 refine aS ?_
 refine Qc rfl (fun h7=>?_) fun h7=>?_
 ·try simp only [Bool.and_eq_true,Bool.not_eq_true',decide_eq_false_iff_not,decide_eq_true_eq] at h7
  have hgp : ZJ (⟨(j : Int),mo,rm,pln L⟩ : Tre) v = true:=hgi.2 (.inl (by have hq:=h7;omega))
  have hV:=QiK (deep:=deep) hgp
  refine aS6 ?_
  exact Qq (rs:=[.tmp 10,.tmp 11]) rfl (.tmp rfl (.tmp rfl (.nil))) (fun w' h'=>⟨by rw [Qdt (by rw [hV];decide),hV];rfl,h'.below⟩)
 try simp only [Bool.and_eq_false_iff,Bool.not_eq_false',decide_eq_true_eq,decide_eq_false_iff_not] at h7
 have hng1 : ¬ (v.i ≠ 0 ∧ ((nth L v.i).es.length : Int) < mo / 2):=by have hq:=h7;omega
 refine aS6 ?_
 refine o_p (Qa rfl rfl rfl Xm (0) (by omega) (by omega) (Rw.some hs.1 (by omega))) rfl ?_
 refine aS ?_
 refine o_q (Qe rfl rfl Qcz ((hs.1.rdj 1 h0 rfl))) rfl ?_
 refine aS3 ?_
 refine Xq 8 44 52 _ _ rfl
  (by
   intro hg8
   have hs9:=hg8;try simp only [dT] at hs9
   refine oOn 44 hg8 ?_
   refine aS ?_
   refine oOn 44 hg8 ?_
   refine aS ?_
   refine oOn 44 hg8 ?_
   refine o_p (Qa rfl rfl rfl Xm (0) (by omega) (by omega) (Rw.some hs.1 (by omega))) rfl ?_
   refine oOn 44 hg8 ?_
   refine aS ?_
   refine oOn 44 hg8 ?_
   refine o_q (Qe rfl rfl QbF ((hs.1.rdj 2 h0 rfl))) rfl ?_
   refine oOn 44 hg8 ?_
   refine aS ?_
   refine oOn 44 hg8 ?_
   refine aS ?_
   refine o_p (Qg rfl rfl hg8 rfl) rfl ?_
   refine aS ?_
   exact oJn 8 52)
  (by
   intro hg10
   have hs11:=hg10;try simp only [dN] at hs11
   refine oOf 44 hg10 ?_
   refine oOf 44 hg10 ?_
   refine oOf 44 hg10 ?_
   refine oOf 44 hg10 ?_
   refine oOf 44 hg10 ?_
   refine oOf 44 hg10 ?_
   refine oOf 44 hg10 ?_
   refine o_p (Qf rfl rfl hg10 rfl) rfl ?_
   refine aS ?_
   exact oJn 8 52) ?_
 refine aS ?_
 refine Xq 10 53 63 _ _ rfl
  (by
   intro hg12
   have hs13:=hg12;try simp only [Bool.and_eq_true,decide_eq_true_eq] at hs13
   refine oOn 53 hg12 ?_
   refine aS ?_
   refine oOn 53 hg12 ?_
   refine aS ?_
   refine oOn 53 hg12 ?_
   refine o_p (Qa rfl rfl rfl Xm (0) (by omega) (by omega) (Rw.some hs.1 (by omega))) rfl ?_
   refine oOn 53 hg12 ?_
   refine aS ?_
   refine oOn 53 hg12 ?_
   refine o_q (Qe rfl rfl QbF ((hs.1.rdj 2 h0 rfl))) rfl ?_
   refine oOn 53 hg12 ?_
   refine o_p (Qa rfl rfl rfl Q7 (0) (by omega) (by omega) (Rw.some (hs.cs h0) (by omega))) rfl ?_
   refine oOn 53 hg12 ?_
   refine o_q (Qe rfl rfl Y9 (((hs.cs h0).rdj 0 (i:=0) (by omega) rfl))) rfl ?_
   refine oOn 53 hg12 ?_
   refine aS ?_
   refine oOn 53 hg12 ?_
   refine aS ?_
   refine o_p (Qg rfl rfl hg12 rfl) rfl ?_
   refine aS ?_
   exact oJn 10 63)
  (by
   intro hg14
   have hs15:=hg14;try simp only [Bool.and_eq_false_iff,decide_eq_false_iff_not] at hs15
   refine oOf 53 hg14 ?_
   refine oOf 53 hg14 ?_
   refine oOf 53 hg14 ?_
   refine oOf 53 hg14 ?_
   refine oOf 53 hg14 ?_
   refine oOf 53 hg14 ?_
   refine oOf 53 hg14 ?_
   refine oOf 53 hg14 ?_
   refine oOf 53 hg14 ?_
   refine o_p (Qf rfl rfl hg14 rfl) rfl ?_
   refine aS ?_
   exact oJn 10 63) ?_
 refine aS ?_
 refine Xq 7 64 71 _ _ rfl
  (by
   intro hg16
   have hs17:=hg16;try simp only [Bool.and_eq_true,decide_eq_true_eq] at hs17
   refine oOn 64 hg16 ?_
   refine aS ?_
   refine oOn 64 hg16 ?_
   refine aS ?_
   refine oOn 64 hg16 ?_
   refine aS ?_
   refine oOn 64 hg16 ?_
   refine aS ?_
   refine oOn 64 hg16 ?_
   refine aS ?_
   refine oOn 64 hg16 ?_
   refine aS ?_
   refine o_p (Qg rfl rfl hg16 rfl) rfl ?_
   refine aS ?_
   exact oJn 7 71)
  (by
   intro hg18
   have hs19:=hg18;try simp only [Bool.and_eq_false_iff,decide_eq_false_iff_not] at hs19
   refine oOf 64 hg18 ?_
   refine oOf 64 hg18 ?_
   refine oOf 64 hg18 ?_
   refine oOf 64 hg18 ?_
   refine oOf 64 hg18 ?_
   refine oOf 64 hg18 ?_
   refine o_p (Qf rfl rfl hg18 rfl) rfl ?_
   refine aS ?_
   exact oJn 7 71) ?_
 refine aS ?_
 refine Qc rfl (fun h20=>?_) fun h20=>?_
 ·try simp only [Bool.and_eq_true,decide_eq_true_eq] at h20
  have hgp : ZJ (⟨(j : Int),mo,rm,pln L⟩ : Tre) v = true:=hgi.2 (.inr (by have hq:=h20;exact ⟨⟨⟨by omega,by omega⟩,hq.1.2⟩,by omega⟩))
  have hV:=QiK (deep:=deep) hgp
  refine aS ?_
  refine Qm (L':=[(1,_),(2,_),(3,_),(4,_),(5,_),(10,_),(11,_),(12,_)]) aSx (fun _ h=>h) ?_
  refine aS5 ?_
  exact Qq (rs:=[.tmp 10,.tmp 11]) rfl (.tmp rfl (.tmp rfl (.nil))) (fun w' h'=>⟨by rw [Qdt (by rw [hV];decide),hV];rfl,h'.below⟩)
 try simp only [Bool.and_eq_false_iff,decide_eq_false_iff_not] at h20
 have hgn : ¬ ZJ (⟨(j : Int),mo,rm,pln L⟩ : Tre) v = true:=fun h9=>(hgi.1 h9).elim hng1 (fun h8=>by have hq:=h20;rcases hq with ((hq | hq) | hq) | hq <;> first | omega | exact hq h8.1.2)
 refine aS3 ?_
 refine Qm (L':=[(1,_),(2,_),(3,_),(4,_),(5,_),(10,_),(11,_),(12,_)]) aSx (fun _ h=>h) ?_
 refine aS4 ?_
 refine QB (α:=Nat) [10,11,13,14,73,74,75,76,77,78,79,80,81,82,83,84,85,86,87,88,89,90,91,92,93,94,95,96,97,98,99,100,101,102,103,104,105,106,107,108,109,110,111,112,113,114] (fun k=>[(13,.int .i64 (k : Int))]) (fun _=>HS w [] [.blk b1 37 4 [.int .i64 (j : Int),.int .i64 mo,.int .i64 rm,.slice a L.length cap],.blk b2 69 3 (LNd.vals (nth L v.i))]) (fun k=>k ≤ (nth L v.i).es.length ∧ ∀ q,q < k → ¬ ZW (⟨(j : Int),mo,rm,pln L⟩ : Tre) v (nth (nth L v.i).es q) = true) (fun k=>(nth L v.i).es.length - k) 0 ⟨Nat.zero_le _,fun q h=>absurd h (Nat.not_lt_zero q)⟩ aSx (fun w h=>h.ent aEt) (fun k hx9=>?_)
 obtain ⟨hk1,hk3⟩:=hx9
 refine aS9 ?_
 refine Qc rfl (fun h21=>?_) fun h21=>?_
 ·try simp only [dT] at h21
  have hk5 : k < (nth L v.i).es.length:=by omega
  refine aS8 ?_
  refine o_p (Qa rfl rfl rfl QX (k) (by omega) (by omega) (Rw.some (hs.es hi) (by omega))) rfl ?_
  refine aS ?_
  refine o_q (Qe rfl rfl ZR (((hs.es hi).rdj 0 hk5 rfl))) rfl ?_
  refine aS3 ?_
  refine Qm (L':=[(1,_),(2,_),(3,_),(4,_),(5,_),(12,_),(13,_),(14,_)]) aSx (fun _ h=>h) ?_
  refine Qom (α:=Bool) [86,87,88,89,90,91,92,93,94,95,96,97,98,99,100,101,102,103,104,105,106,107,108,109,110,111,112,113] (fun x=>[(113,.bool x)]) (fun x=>x = true ↔ (ZW (⟨(j : Int),mo,rm,pln L⟩ : Tre) v (nth (nth L v.i).es k)) = true) ?_ ?_
  ·skip
   refine QL [] Q8 ?_
   refine dP 0 ?_
   refine dV 1 rfl (QM rfl rfl Tryz.underlying241) ?_
   refine dP 2 ?_
   refine dP 3 ?_
   apply XG 89
   ·exact rfl
   ·intro hg22
    have hs23:=hg22;try simp only [dT] at hs23
    refine dFo 4 89 hg22 ?_
    obtain ⟨kl,bl,ol,hlo1,hlo2,hlo3,hlo4⟩:=hlo.of_pos (by omega)
    refine dQo 5 89 [] hg22 rfl rfl rfl (Yb rfl rfl Y9 aPk rfl) ?_
    refine dPo 6 89 hg22 ?_
    refine dVo 7 89 hg22 rfl rfl rfl (Qa rfl rfl rfl Qd5 (0) (by omega) (by omega) hlo3) ?_
    refine dQo 8 89 [] hg22 rfl rfl rfl (Qe rfl rfl ZR (hlo4)) ?_
    refine dPo 9 89 hg22 ?_
    refine dQo 10 89 [] hg22 rfl rfl rfl (Qb rfl Qin rfl (fun w1 h1=>c65 w1 j kl (nth (nth L v.i).es k).key hj (hko _ hlo1).1 (hE9 _ (Qy hk5)).1 (hko _ hlo1).2 (hE9 _ (Qy hk5)).2)) ?_
    refine dPo 11 89 hg22 ?_
    refine dV 12 rfl (Qg rfl rfl hg22 rfl) ?_
    refine dP 13 ?_
    apply XG 99
    ·exact rfl
    ·intro hg24
     have hs25:=hg24;try simp only [dT] at hs25
     refine dOf 14 99 hg24 ?_
     refine dOf 15 99 hg24 ?_
     refine dOf 16 99 hg24 ?_
     refine dOf 17 99 hg24 ?_
     refine dOu 18 103 ?_
     refine dOu 19 103 ?_
     refine dOu 20 103 ?_
     refine dOu 21 103 ?_
     refine dOu 22 103 ?_
     refine dOu 23 103 ?_
     refine dOu 24 103 ?_
     refine dOu 25 103 ?_
     refine dOf 26 99 hg24 ?_
     refine dV 27 rfl (Qg rfl rfl hg24 rfl) ?_
     refine dNi ?_
     exact Qx true (QuZ hlo1 (by show 0 ≤ Xe (j : Int) kl _;omega)) aSx (fun w h=>h.ent aEt)
    intro hg26
    have hs27:=hg26;try simp only [dN] at hs27
    refine dPo 14 99 hg26 ?_
    refine dVo 15 99 hg26 rfl rfl rfl (QM rfl rfl Tryz.underlying241) ?_
    refine dPo 16 99 hg26 ?_
    refine dPo 17 99 hg26 ?_
    apply XG 103
    ·exact rfl
    ·intro hg28
     have hs29:=hg28;try simp only [dT] at hs29
     refine dFo 18 103 hg28 ?_
     obtain ⟨kh,bh,oh,hhi1,hhi2,hhi3,hhi4⟩:=hhi.of_pos (by omega)
     refine dQo 19 103 [] hg28 rfl rfl rfl (Yb rfl rfl Y9 aPk rfl) ?_
     refine dPo 20 103 hg28 ?_
     refine dPo 21 103 hg28 ?_
     refine dVo 22 103 hg28 rfl rfl rfl (Qa rfl rfl rfl Qd5 (0) (by omega) (by omega) hhi3) ?_
     refine dQo 23 103 [] hg28 rfl rfl rfl (Qe rfl rfl ZR (hhi4)) ?_
     refine dQo 24 103 [] hg28 rfl rfl rfl (Qb rfl Qin rfl (fun w1 h1=>c65 w1 j (nth (nth L v.i).es k).key kh hj (hE9 _ (Qy hk5)).1 (hkp _ hhi1).1 (hE9 _ (Qy hk5)).2 (hkp _ hhi1).2)) ?_
     refine dPo 25 103 hg28 ?_
     refine dVo 26 99 hg26 rfl rfl rfl (Qg rfl rfl hg28 rfl) ?_
     refine dV 27 rfl (Qf rfl rfl hg26 rfl) ?_
     refine dNi ?_
     exact Qx (decide (Xe (j : Int) (nth (nth L v.i).es k).key kh ≥ 0)) (Qvp (t:=(⟨(j : Int),mo,rm,pln L⟩ : Tre)) hlo1 (by show ¬ 0 ≤ Xe (j : Int) kl _;omega) hhi1) aSx (fun w h=>h.ent aEt)
    intro hg30
    have hs31:=hg30;try simp only [dN] at hs31
    refine dOf 18 103 hg30 ?_
    refine dOf 19 103 hg30 ?_
    refine dOf 20 103 hg30 ?_
    refine dOf 21 103 hg30 ?_
    refine dOf 22 103 hg30 ?_
    refine dOf 23 103 hg30 ?_
    refine dOf 24 103 hg30 ?_
    refine dOf 25 103 hg30 ?_
    refine dVo 26 99 hg26 rfl rfl rfl (Qf rfl rfl hg30 rfl) ?_
    refine dV 27 rfl (Qf rfl rfl hg26 rfl) ?_
    refine dNi ?_
    exact Qx false (Qut hlo1 (by show ¬ 0 ≤ Xe (j : Int) kl _;omega) (hhi.of_no (by omega))) aSx (fun w h=>h.ent aEt)
   intro hg32
   have hs33:=hg32;try simp only [dN] at hs33
   refine dOf 4 89 hg32 ?_
   refine dOf 5 89 hg32 ?_
   refine dOf 6 89 hg32 ?_
   refine dOf 7 89 hg32 ?_
   refine dOf 8 89 hg32 ?_
   refine dOf 9 89 hg32 ?_
   refine dOf 10 89 hg32 ?_
   refine dOf 11 89 hg32 ?_
   refine dV 12 rfl (Qf rfl rfl hg32 rfl) ?_
   refine dP 13 ?_
   apply XG 99
   ·exact rfl
   ·intro hg34
    have hs35:=hg34;skip
    refine dOf 14 99 hg34 ?_
    refine dOf 15 99 hg34 ?_
    refine dOf 16 99 hg34 ?_
    refine dOf 17 99 hg34 ?_
    refine dOu 18 103 ?_
    refine dOu 19 103 ?_
    refine dOu 20 103 ?_
    refine dOu 21 103 ?_
    refine dOu 22 103 ?_
    refine dOu 23 103 ?_
    refine dOu 24 103 ?_
    refine dOu 25 103 ?_
    refine dOf 26 99 hg34 ?_
    refine dV 27 rfl (Qg rfl rfl hg34 rfl) ?_
    refine dNi ?_
    exact Qx true (by exfalso;simp_all;done) aSx (fun w h=>h.ent aEt)
   intro hg36
   have hs37:=hg36;skip
   refine dPo 14 99 hg36 ?_
   refine dVo 15 99 hg36 rfl rfl rfl (QM rfl rfl Tryz.underlying241) ?_
   refine dPo 16 99 hg36 ?_
   refine dPo 17 99 hg36 ?_
   apply XG 103
   ·exact rfl
   ·intro hg38
    have hs39:=hg38;try simp only [dT] at hs39
    refine dFo 18 103 hg38 ?_
    obtain ⟨kh,bh,oh,hhi1,hhi2,hhi3,hhi4⟩:=hhi.of_pos (by omega)
    refine dQo 19 103 [] hg38 rfl rfl rfl (Yb rfl rfl Y9 aPk rfl) ?_
    refine dPo 20 103 hg38 ?_
    refine dPo 21 103 hg38 ?_
    refine dVo 22 103 hg38 rfl rfl rfl (Qa rfl rfl rfl Qd5 (0) (by omega) (by omega) hhi3) ?_
    refine dQo 23 103 [] hg38 rfl rfl rfl (Qe rfl rfl ZR (hhi4)) ?_
    refine dQo 24 103 [] hg38 rfl rfl rfl (Qb rfl Qin rfl (fun w1 h1=>c65 w1 j (nth (nth L v.i).es k).key kh hj (hE9 _ (Qy hk5)).1 (hkp _ hhi1).1 (hE9 _ (Qy hk5)).2 (hkp _ hhi1).2)) ?_
    refine dPo 25 103 hg38 ?_
    refine dVo 26 99 hg36 rfl rfl rfl (Qg rfl rfl hg38 rfl) ?_
    refine dV 27 rfl (Qf rfl rfl hg36 rfl) ?_
    refine dNi ?_
    exact Qx (decide (Xe (j : Int) (nth (nth L v.i).es k).key kh ≥ 0)) (Qu3 (t:=(⟨(j : Int),mo,rm,pln L⟩ : Tre)) (hlo.of_no (by omega)) hhi1) aSx (fun w h=>h.ent aEt)
   intro hg40
   have hs41:=hg40;try simp only [dN] at hs41
   refine dOf 18 103 hg40 ?_
   refine dOf 19 103 hg40 ?_
   refine dOf 20 103 hg40 ?_
   refine dOf 21 103 hg40 ?_
   refine dOf 22 103 hg40 ?_
   refine dOf 23 103 hg40 ?_
   refine dOf 24 103 hg40 ?_
   refine dOf 25 103 hg40 ?_
   refine dVo 26 99 hg36 rfl rfl rfl (Qf rfl rfl hg40 rfl) ?_
   refine dV 27 rfl (Qf rfl rfl hg36 rfl) ?_
   refine dNi ?_
   exact Qx false (Qvi (hlo.of_no (by omega)) (hhi.of_no (by omega))) aSx (fun w h=>h.ent aEt)
  intro x hx
  refine Qc rfl (fun h42=>?_) fun h42=>?_
  ·skip
   have hV:=QmM (deep:=deep) hgn (Qos hn hk5 (hx.1 h42))
   refine aS6 ?_
   exact Qq (rs:=[.tmp 10,.tmp 11]) rfl (.tmp rfl (.tmp rfl (.nil))) (fun w' h'=>⟨by rw [Qdt (by rw [hV];decide),hV];rfl,h'.below⟩)
  skip
  have hz3 : ¬ (ZW (⟨(j : Int),mo,rm,pln L⟩ : Tre) v (nth (nth L v.i).es k)) = true:=fun h9=>by have h8:=hx.2 h9;simp_all
  refine aS5 ?_
  try refine oWr ?_
  refine aS2 ?_
  exact Qw (k + 1) (by omega) ⟨by omega,fun q hq=>(Nat.lt_or_ge q k).elim (hk3 q) (fun h9=>by obtain rfl : q = k:=(by omega);exact hz3)⟩ aSx (fun w h=>h.ent aEt)
 try simp only [dN] at h21
 have hon : ¬ Za (⟨(j : Int),mo,rm,pln L⟩ : Tre) v = true:=Qrk hn (fun q hq=>hk3 q (by have hq9:=hq;simp only [LNd.pl] at hq9;omega))
 refine Qo rfl ?_
 refine aS8 ?_
 refine Xq 3 119 122 _ _ rfl
  (by
   intro hg43
   have hs44:=hg43;try simp only [dT] at hs44
   refine oOn 119 hg43 ?_
   refine aS ?_
   refine oOn 119 hg43 ?_
   refine aS ?_
   refine o_p (Qg rfl rfl hg43 rfl) rfl ?_
   refine aS ?_
   exact oJn 3 122)
  (by
   intro hg45
   have hs46:=hg45;try simp only [dN] at hs46
   refine oOf 119 hg45 ?_
   refine oOf 119 hg45 ?_
   refine o_p (Qf rfl rfl hg45 rfl) rfl ?_
   refine aS ?_
   exact oJn 3 122) ?_
 refine aS ?_
 refine Qc rfl (fun h47=>?_) fun h47=>?_
 ·try simp only [Bool.and_eq_true,decide_eq_true_eq,Bool.not_eq_true',decide_eq_false_iff_not] at h47
  have hV:=QqO (deep:=deep) hgn hon (by rw [show ((⟨(j : Int),mo,rm,pln L⟩ : Tre)).ns = pln L from rfl,hn];have hq:=h47;simp only [LNd.pl];omega)
  refine aS6 ?_
  exact Qq (rs:=[.tmp 10,.tmp 11]) rfl (.tmp rfl (.tmp rfl (.nil))) (fun w' h'=>⟨by rw [Qdt (by rw [hV];decide),hV];rfl,h'.below⟩)
 try simp only [Bool.and_eq_false_iff,decide_eq_false_iff_not,Bool.not_eq_false',decide_eq_true_eq] at h47
 have hV0:=Qqy (deep:=deep) hgn hon (by rw [show ((⟨(j : Int),mo,rm,pln L⟩ : Tre)).ns = pln L from rfl,hn];have hq:=h47;simp only [LNd.pl];omega)
 refine aS7 ?_
 refine Qm (L':=[(1,_),(2,_),(3,_),(4,_),(5,_),(12,_),(13,_),(15,_)]) aSx (fun _ h=>h) ?_
 refine QB (α:=Nat) [10,11,15,16,17,18,19,124,125,126,127,128,129,130,131,132,133,134,135,136,137,138,139,140,141,142,143,144,145,146,147,148,149,150,151,152,153,154,155,156,157,158,159,160,161,162,163,164,165,166,167,168,169,170,171,172] (fun k=>[(15,.int .i64 (k : Int))]) (fun _=>HS w [] [.blk b1 37 4 [.int .i64 (j : Int),.int .i64 mo,.int .i64 rm,.slice a L.length cap],.blk b2 69 3 (LNd.vals (nth L v.i))]) (fun k=>k ≤ (nth L v.i).cs.length ∧ (X5 (⟨(j : Int),mo,rm,pln L⟩ : Tre) deep (Qat (pln L) f v k)).2 = 0) (fun k=>(nth L v.i).cs.length - k) 0 ⟨Nat.zero_le _,Qs5 hV0⟩ aSx (fun w h=>h.ent aEt) (fun k hx9=>?_)
 obtain ⟨hk1,hk3⟩:=hx9
 refine aS9 ?_
 refine Qc rfl (fun h48=>?_) fun h48=>?_
 ·try simp only [dT] at h48
  have hkl : k < (nth L v.i).cs.length:=by omega
  have hkid:=QfZ hT hi0 (k:=k) (by rw [hn];exact hkl)
  rw [hn,Qh] at hkid
  simp only [LNd.pl] at hkid
  have hway2:=Qdj hway hi0 (k:=k) (by rw [hn];exact hkl) (by rw [hn];simp only [LNd.pl];omega)
  iterate 16 refine aS ?_
  refine Qc rfl (fun h49=>?_) fun h49=>?_
  ·try simp only [dT] at h49
   have hk0 : 0 < k:=by have hq:=h49;omega
   refine aS5 ?_
   try refine oWr ?_
   refine o_p (Qa rfl rfl rfl QX (k - 1) (by omega) (by omega) (Rw.some (hs.es hi) (by omega))) rfl ?_
   refine aS ?_
   refine o_q (Qe rfl rfl ZR (((hs.es hi).rdj 0 (i:=k - 1) (by omega) rfl))) rfl ?_
   refine o_h (Qp (cs:=[_]) rfl rfl Qd5 QtC rfl rfl rfl) rfl (fun b50 _=>?_)
   refine Qjh ?_
   refine Qc rfl (fun h51=>?_) fun h51=>?_
   ·try simp only [dT] at h51
    have hk9 : k < (nth L v.i).es.length:=by have hq:=h51;omega
    refine Qm (L':=[(1,_),(2,_),(3,_),(4,_),(5,_),(12,_),(13,_),(15,_),(16,_),(17,_)]) aSx (fun _ h=>h) ?_
    refine aS4 ?_
    refine o_p (Qa rfl rfl rfl QX (k) (by omega) (by omega) (Rw.some (hs.es hi) (by omega))) rfl ?_
    refine aS ?_
    refine o_q (Qe rfl rfl ZR (((hs.es hi).rdj 0 (i:=k) (by omega) rfl))) rfl ?_
    refine o_h (Qp (cs:=[_]) rfl rfl Qd5 QtC rfl rfl rfl) rfl (fun b52 _=>?_)
    refine aS3 ?_
    refine QL [] Q8 ?_
    refine dLn 0 [] ?_
    refine dFa 1 ?_
    refine dLd 2 [] ?_
    refine dP 3 ?_
    refine dV 4 rfl (Qa rfl rfl rfl Q7 (k) (by omega) (by omega) (Rw.some (hs.cs hi) (by omega))) ?_
    refine dQ 5 [] rfl (Qe rfl rfl Y9 (((hs.cs hi).rdj 0 (i:=k) hkl rfl))) ?_
    refine QG (show _ = Value.int .i64 ((XJ (pln L) v k).i : Int) from by rw [XJ,hn];exact congrArg (Value.int .i64) (Int.toNat_of_nonneg (show 0 ≤ (nth L v.i).cs.getD k 0 by omega)).symm) ?_
    refine dP 6 ?_
    refine dP 7 ?_
    try refine dWr ?_
    refine dP 8 ?_
    refine dP 9 ?_
    refine dQ 10 [] rfl (Qb rfl QeX rfl (fun w1 h1=>ih w1 (XJ (pln L) v k) (v.i :: P) (lv - 1) _ _ _ _ _ _ (hs.later h1) hj hmo hT hB h0 hway2 (by simp only [XJ,List.length_cons];omega) (by simp only [XJ];omega) (QfV hT hi0 (by rw [hn];show k ≤ (nth L v.i).es.length;omega) hko) (QfK hT hi0 hkp) (by show StK w1 _ _ (loK (nth (pln L) v.i).es k v.lo);rw [hn];show StK w1 _ _ (loK (nth L v.i).es k v.lo);first | (rw [QeE hk0];exact StK.new (h1.rd_blk (Mc:=[]) aPk rfl (by simp))) | (rw [Qha hk0];exact hlo.later h1)) (by show StK w1 _ _ (hiK (nth (pln L) v.i).es k v.hi);rw [hn];show StK w1 _ _ (hiK (nth L v.i).es k v.hi);first | (rw [Qew hk9];exact StK.new (h1.rd_blk (Mc:=[]) aPk rfl (by simp))) | (rw [QgT hk9];exact hhi.later h1)) (by simp only [List.length_cons];omega))) ?_
    refine dP 11 ?_
    refine dP 12 ?_
    refine dP 13 ?_
    refine dP 14 ?_
    refine dP 15 ?_
    refine dNi ?_
    refine aS ?_
    refine Qm (L':=[(1,_),(2,_),(3,_),(4,_),(5,_),(12,_),(13,_),(15,_),(18,_),(19,_)]) aSx (fun _ h=>h) ?_
    refine aS4 ?_
    refine Qc rfl (fun h53=>?_) fun h53=>?_
    ·try simp only [Bool.not_eq_true',decide_eq_false_iff_not] at h53
     have hbad : X5 (⟨(j : Int),mo,rm,pln L⟩ : Tre) deep (vis (pln L) (f + 1) v) = X5 (⟨(j : Int),mo,rm,pln L⟩ : Tre) deep (vis (pln L) f (XJ (pln L) v k)):=by rw [YS,hn];obtain ⟨B9,hB9⟩:=QaD (pln L) f v (show k + 1 ≤ (nth L v.i).pl.cs.length by show k + 1 ≤ (nth L v.i).cs.length;omega);rw [hB9,XL,List.append_assoc,XY,if_pos hk3,XY,if_neg h53]
     refine aS7 ?_
     exact Qq (rs:=[.tmp 10,.tmp 11]) rfl (.tmp rfl (.tmp rfl (.nil))) (fun w' h'=>⟨by rw [hbad];rfl,h'.below⟩)
    try simp only [Bool.not_eq_false',decide_eq_true_eq] at h53
    have hgood : (X5 (⟨(j : Int),mo,rm,pln L⟩ : Tre) deep (Qat (pln L) f v (k + 1))).2 = 0:=by rw [XL,XY,if_pos hk3];have hq:=h53;omega
    refine aS5 ?_
    try refine oWr ?_
    refine aS2 ?_
    exact Qw (k + 1) (by omega) ⟨by omega,hgood⟩ aSx (fun w h=>h.ent aEt)
   try simp only [dN] at h51
   have hk9 : ¬ k < (nth L v.i).es.length:=by have hq:=h51;omega
   refine aS2 ?_
   refine Qm (L':=[(1,_),(2,_),(3,_),(4,_),(5,_),(12,_),(13,_),(15,_),(16,_),(17,_)]) aSx (fun _ h=>h) ?_
   refine QL [] Q8 ?_
   refine dLn 0 [] ?_
   refine dFa 1 ?_
   refine dLd 2 [] ?_
   refine dP 3 ?_
   refine dV 4 rfl (Qa rfl rfl rfl Q7 (k) (by omega) (by omega) (Rw.some (hs.cs hi) (by omega))) ?_
   refine dQ 5 [] rfl (Qe rfl rfl Y9 (((hs.cs hi).rdj 0 (i:=k) hkl rfl))) ?_
   refine QG (show _ = Value.int .i64 ((XJ (pln L) v k).i : Int) from by rw [XJ,hn];exact congrArg (Value.int .i64) (Int.toNat_of_nonneg (show 0 ≤ (nth L v.i).cs.getD k 0 by omega)).symm) ?_
   refine dP 6 ?_
   refine dP 7 ?_
   try refine dWr ?_
   refine dP 8 ?_
   refine dP 9 ?_
   refine dQ 10 [] rfl (Qb rfl QeX rfl (fun w1 h1=>ih w1 (XJ (pln L) v k) (v.i :: P) (lv - 1) _ _ _ _ _ _ (hs.later h1) hj hmo hT hB h0 hway2 (by simp only [XJ,List.length_cons];omega) (by simp only [XJ];omega) (QfV hT hi0 (by rw [hn];show k ≤ (nth L v.i).es.length;omega) hko) (QfK hT hi0 hkp) (by show StK w1 _ _ (loK (nth (pln L) v.i).es k v.lo);rw [hn];show StK w1 _ _ (loK (nth L v.i).es k v.lo);first | (rw [QeE hk0];exact StK.new (h1.rd_blk (Mc:=[]) aPk rfl (by simp))) | (rw [Qha hk0];exact hlo.later h1)) (by show StK w1 _ _ (hiK (nth (pln L) v.i).es k v.hi);rw [hn];show StK w1 _ _ (hiK (nth L v.i).es k v.hi);first | (rw [Qew hk9];exact StK.new (h1.rd_blk (Mc:=[]) aPk rfl (by simp))) | (rw [QgT hk9];exact hhi.later h1)) (by simp only [List.length_cons];omega))) ?_
   refine dP 11 ?_
   refine dP 12 ?_
   refine dP 13 ?_
   refine dP 14 ?_
   refine dP 15 ?_
   refine dNi ?_
   refine aS5 ?_
   refine Qc rfl (fun h54=>?_) fun h54=>?_
   ·try simp only [Bool.not_eq_true',decide_eq_false_iff_not] at h54
    have hbad : X5 (⟨(j : Int),mo,rm,pln L⟩ : Tre) deep (vis (pln L) (f + 1) v) = X5 (⟨(j : Int),mo,rm,pln L⟩ : Tre) deep (vis (pln L) f (XJ (pln L) v k)):=by rw [YS,hn];obtain ⟨B9,hB9⟩:=QaD (pln L) f v (show k + 1 ≤ (nth L v.i).pl.cs.length by show k + 1 ≤ (nth L v.i).cs.length;omega);rw [hB9,XL,List.append_assoc,XY,if_pos hk3,XY,if_neg h54]
    refine aS7 ?_
    exact Qq (rs:=[.tmp 10,.tmp 11]) rfl (.tmp rfl (.tmp rfl (.nil))) (fun w' h'=>⟨by rw [hbad];rfl,h'.below⟩)
   try simp only [Bool.not_eq_false',decide_eq_true_eq] at h54
   have hgood : (X5 (⟨(j : Int),mo,rm,pln L⟩ : Tre) deep (Qat (pln L) f v (k + 1))).2 = 0:=by rw [XL,XY,if_pos hk3];have hq:=h54;omega
   refine aS5 ?_
   try refine oWr ?_
   refine aS2 ?_
   exact Qw (k + 1) (by omega) ⟨by omega,hgood⟩ aSx (fun w h=>h.ent aEt)
  try simp only [dN] at h49
  have hk0 : ¬ 0 < k:=by have hq:=h49;omega
  refine Qaq ?_
  refine Qc rfl (fun h55=>?_) fun h55=>?_
  ·try simp only [dT] at h55
   have hk9 : k < (nth L v.i).es.length:=by have hq:=h55;omega
   refine aS4 ?_
   refine o_p (Qa rfl rfl rfl QX (k) (by omega) (by omega) (Rw.some (hs.es hi) (by omega))) rfl ?_
   refine aS ?_
   refine o_q (Qe rfl rfl ZR (((hs.es hi).rdj 0 (i:=k) (by omega) rfl))) rfl ?_
   refine o_h (Qp (cs:=[_]) rfl rfl Qd5 QtC rfl rfl rfl) rfl (fun b56 _=>?_)
   refine aS3 ?_
   refine Qm (L':=[(1,_),(2,_),(3,_),(4,_),(5,_),(12,_),(13,_),(15,_),(16,_),(17,_)]) aSx (fun _ h=>h) ?_
   refine QL [] Q8 ?_
   refine dLn 0 [] ?_
   refine dFa 1 ?_
   refine dLd 2 [] ?_
   refine dP 3 ?_
   refine dV 4 rfl (Qa rfl rfl rfl Q7 (k) (by omega) (by omega) (Rw.some (hs.cs hi) (by omega))) ?_
   refine dQ 5 [] rfl (Qe rfl rfl Y9 (((hs.cs hi).rdj 0 (i:=k) hkl rfl))) ?_
   refine QG (show _ = Value.int .i64 ((XJ (pln L) v k).i : Int) from by rw [XJ,hn];exact congrArg (Value.int .i64) (Int.toNat_of_nonneg (show 0 ≤ (nth L v.i).cs.getD k 0 by omega)).symm) ?_
   refine dP 6 ?_
   refine dP 7 ?_
   try refine dWr ?_
   refine dP 8 ?_
   refine dP 9 ?_
   refine dQ 10 [] rfl (Qb rfl QeX rfl (fun w1 h1=>ih w1 (XJ (pln L) v k) (v.i :: P) (lv - 1) _ _ _ _ _ _ (hs.later h1) hj hmo hT hB h0 hway2 (by simp only [XJ,List.length_cons];omega) (by simp only [XJ];omega) (QfV hT hi0 (by rw [hn];show k ≤ (nth L v.i).es.length;omega) hko) (QfK hT hi0 hkp) (by show StK w1 _ _ (loK (nth (pln L) v.i).es k v.lo);rw [hn];show StK w1 _ _ (loK (nth L v.i).es k v.lo);first | (rw [QeE hk0];exact StK.new (h1.rd_blk (Mc:=[]) aPk rfl (by simp))) | (rw [Qha hk0];exact hlo.later h1)) (by show StK w1 _ _ (hiK (nth (pln L) v.i).es k v.hi);rw [hn];show StK w1 _ _ (hiK (nth L v.i).es k v.hi);first | (rw [Qew hk9];exact StK.new (h1.rd_blk (Mc:=[]) aPk rfl (by simp))) | (rw [QgT hk9];exact hhi.later h1)) (by simp only [List.length_cons];omega))) ?_
   refine dP 11 ?_
   refine dP 12 ?_
   refine dP 13 ?_
   refine dP 14 ?_
   refine dP 15 ?_
   refine dNi ?_
   refine aS5 ?_
   refine Qc rfl (fun h57=>?_) fun h57=>?_
   ·try simp only [Bool.not_eq_true',decide_eq_false_iff_not] at h57
    have hbad : X5 (⟨(j : Int),mo,rm,pln L⟩ : Tre) deep (vis (pln L) (f + 1) v) = X5 (⟨(j : Int),mo,rm,pln L⟩ : Tre) deep (vis (pln L) f (XJ (pln L) v k)):=by rw [YS,hn];obtain ⟨B9,hB9⟩:=QaD (pln L) f v (show k + 1 ≤ (nth L v.i).pl.cs.length by show k + 1 ≤ (nth L v.i).cs.length;omega);rw [hB9,XL,List.append_assoc,XY,if_pos hk3,XY,if_neg h57]
    refine aS7 ?_
    exact Qq (rs:=[.tmp 10,.tmp 11]) rfl (.tmp rfl (.tmp rfl (.nil))) (fun w' h'=>⟨by rw [hbad];rfl,h'.below⟩)
   try simp only [Bool.not_eq_false',decide_eq_true_eq] at h57
   have hgood : (X5 (⟨(j : Int),mo,rm,pln L⟩ : Tre) deep (Qat (pln L) f v (k + 1))).2 = 0:=by rw [XL,XY,if_pos hk3];have hq:=h57;omega
   refine aS5 ?_
   try refine oWr ?_
   refine aS2 ?_
   exact Qw (k + 1) (by omega) ⟨by omega,hgood⟩ aSx (fun w h=>h.ent aEt)
  try simp only [dN] at h55
  have hk9 : ¬ k < (nth L v.i).es.length:=by have hq:=h55;omega
  refine aS2 ?_
  refine QL [] Q8 ?_
  refine dLn 0 [] ?_
  refine dFa 1 ?_
  refine dLd 2 [] ?_
  refine dP 3 ?_
  refine dV 4 rfl (Qa rfl rfl rfl Q7 (k) (by omega) (by omega) (Rw.some (hs.cs hi) (by omega))) ?_
  refine dQ 5 [] rfl (Qe rfl rfl Y9 (((hs.cs hi).rdj 0 (i:=k) hkl rfl))) ?_
  refine QG (show _ = Value.int .i64 ((XJ (pln L) v k).i : Int) from by rw [XJ,hn];exact congrArg (Value.int .i64) (Int.toNat_of_nonneg (show 0 ≤ (nth L v.i).cs.getD k 0 by omega)).symm) ?_
  refine dP 6 ?_
  refine dP 7 ?_
  try refine dWr ?_
  refine dP 8 ?_
  refine dP 9 ?_
  refine dQ 10 [] rfl (Qb rfl QeX rfl (fun w1 h1=>ih w1 (XJ (pln L) v k) (v.i :: P) (lv - 1) _ _ _ _ _ _ (hs.later h1) hj hmo hT hB h0 hway2 (by simp only [XJ,List.length_cons];omega) (by simp only [XJ];omega) (QfV hT hi0 (by rw [hn];show k ≤ (nth L v.i).es.length;omega) hko) (QfK hT hi0 hkp) (by show StK w1 _ _ (loK (nth (pln L) v.i).es k v.lo);rw [hn];show StK w1 _ _ (loK (nth L v.i).es k v.lo);first | (rw [QeE hk0];exact StK.new (h1.rd_blk (Mc:=[]) aPk rfl (by simp))) | (rw [Qha hk0];exact hlo.later h1)) (by show StK w1 _ _ (hiK (nth (pln L) v.i).es k v.hi);rw [hn];show StK w1 _ _ (hiK (nth L v.i).es k v.hi);first | (rw [Qew hk9];exact StK.new (h1.rd_blk (Mc:=[]) aPk rfl (by simp))) | (rw [QgT hk9];exact hhi.later h1)) (by simp only [List.length_cons];omega))) ?_
  refine dP 11 ?_
  refine dP 12 ?_
  refine dP 13 ?_
  refine dP 14 ?_
  refine dP 15 ?_
  refine dNi ?_
  refine aS ?_
  refine Qm (L':=[(1,_),(2,_),(3,_),(4,_),(5,_),(12,_),(13,_),(15,_),(18,_),(19,_)]) aSx (fun _ h=>h) ?_
  refine aS4 ?_
  refine Qc rfl (fun h58=>?_) fun h58=>?_
  ·try simp only [Bool.not_eq_true',decide_eq_false_iff_not] at h58
   have hbad : X5 (⟨(j : Int),mo,rm,pln L⟩ : Tre) deep (vis (pln L) (f + 1) v) = X5 (⟨(j : Int),mo,rm,pln L⟩ : Tre) deep (vis (pln L) f (XJ (pln L) v k)):=by rw [YS,hn];obtain ⟨B9,hB9⟩:=QaD (pln L) f v (show k + 1 ≤ (nth L v.i).pl.cs.length by show k + 1 ≤ (nth L v.i).cs.length;omega);rw [hB9,XL,List.append_assoc,XY,if_pos hk3,XY,if_neg h58]
   refine aS7 ?_
   exact Qq (rs:=[.tmp 10,.tmp 11]) rfl (.tmp rfl (.tmp rfl (.nil))) (fun w' h'=>⟨by rw [hbad];rfl,h'.below⟩)
  try simp only [Bool.not_eq_false',decide_eq_true_eq] at h58
  have hgood : (X5 (⟨(j : Int),mo,rm,pln L⟩ : Tre) deep (Qat (pln L) f v (k + 1))).2 = 0:=by rw [XL,XY,if_pos hk3];have hq:=h58;omega
  refine aS5 ?_
  try refine oWr ?_
  refine aS2 ?_
  exact Qw (k + 1) (by omega) ⟨by omega,hgood⟩ aSx (fun w h=>h.ent aEt)
 try simp only [dN] at h48
 obtain rfl : k = (nth L v.i).cs.length:=by omega
 have hfin : X5 (⟨(j : Int),mo,rm,pln L⟩ : Tre) deep (vis (pln L) (f + 1) v) = (0,0):=by rw [YS,hn];exact Qjl hk3
 refine Qo rfl ?_
 refine aS5 ?_
 exact Qq (rs:=[.tmp 10,.tmp 11]) rfl (.tmp rfl (.tmp rfl (.nil))) (fun w' h'=>⟨by rw [hfin];rfl,h'.below⟩)
theorem c138 (j : Nat) (mo rm : Int) (a : Option Addr) (cap : Nat) (L : List LNd) (deep : Int) : ∀ f,PlC j mo rm a cap L deep f
  | 0=>fun w v P lv pa qa pn pc qn qc hs hj hmo hT hB h0 hway hd hlv hko hkp hlo hhi hf=>by
    have h1:=QaX hT (by rw [Qh];exact h0) hway;rw [Qh,List.length_cons] at h1;omega
  | f + 1=>fun w v P lv pa qa pn pc qn qc hs hj hmo hT hB h0 hway hd hlv hko hkp hlo hhi hf=>Qvf w j mo rm a cap L deep v P lv pa qa pn pc qn qc f hs hj hmo hT hB h0 hway hd hlv hko hkp hlo hhi hf (c138 j mo rm a cap L deep f)
end Go.Proofs
namespace Gx
open Go Go.RowKit
theorem Qtq {t : Tre} (h : ¬ Qr t.co = 0) : Y2 t = (0,Qr t.co):=by rw [Qce (by rw [if_neg h];exact h),if_neg h]
theorem QtH {t : Tre} (h : Qr t.co = 0) (h2 : ¬ Xy t.mo t.rm = 0) : Y2 t = (0,Xy t.mo t.rm):=by rw [Qce (by rw [if_pos h];exact h2),if_pos h]
theorem Qs7 {t : Tre} (h : Qr t.co = 0) (h2 : Xy t.mo t.rm = 0) (h3 : ¬ 0 < t.ns.length) : Y2 t = (0,10):=by
 have e : YU t.ns.length = 10:=if_neg h3;rw [Qdq (by rw [if_pos h];exact h2) (by rw [e];decide),e]
theorem Qr7 {t : Tre} (h : Qr t.co = 0) (h2 : Xy t.mo t.rm = 0) (h3 : 0 < t.ns.length) (h4 : ¬ t.ns.length ≤ 120) : Y2 t = (0,8):=by
 have e : YU t.ns.length = 8:=by rw [YU,if_pos h3,if_neg h4]
 rw [Qdq (by rw [if_pos h];exact h2) (by rw [e];decide),e]
theorem Qti {t : Tre} (h : Qr t.co = 0) (h2 : Xy t.mo t.rm = 0) (h3 : 0 < t.ns.length) (h4 : t.ns.length ≤ 120) : Y2 t = if (XS t t.ns.length 0 []).2 = 0 then Qbi t else XS t t.ns.length 0 []:=QdO (by rw [if_pos h];exact h2) (by rw [YU,if_pos h3,if_pos h4])
theorem Qh5 (n : Nat) : XB [Value.bool false] n = Q6 n []:=by
 rw [Qdw];apply List.ext_getElem?;intro i
 by_cases hi : i < n
 ·rw [QaK hi,List.getElem?_replicate,if_pos hi];rfl
 ·rw [List.getElem?_eq_none (by rw [List.length_replicate];omega),List.getElem?_eq_none (by rw [Qav];omega)]
theorem QiX {vs : List Vis} {k : Nat} : ((k : Nat) : Int) ∈ mkS vs [] ↔ k ∈ vs.map Vis.i:=by
 rw [Qqu,List.mem_map];constructor
 ·rintro ⟨v,hv,h⟩;exact ⟨v,hv,by omega⟩
 ·rintro ⟨v,hv,h⟩;exact ⟨v,hv,by omega⟩
theorem Qi8 (ns : List Nd) : ∀ (f i : Nat),0 ≤ YC ns f i ∧ YC ns f i ≤ f
 | 0,i=>by rw [YC];omega
 | f + 1,i=>by
  rw [YC];split
  ·omega
  ·have:=Qi8 ns f ((nth ns i).cs.getD 0 0).toNat;omega
theorem Qon {ns : List Nd} {f i : Nat} (h : (nth ns i).cs.length = 0) : YC ns f i = 0:=by
 cases f with
 | zero=>rfl
 | succ f=>rw [YC,if_pos h]
theorem QlG {ns : List Nd} {f i : Nat} (h0 : 0 < f) (h : ¬ (nth ns i).cs.length = 0) : YC ns f i = YC ns (f - 1) ((nth ns i).cs.getD 0 0).toNat + 1:=by
 obtain ⟨g,rfl⟩ : ∃ g,f = g + 1:=⟨f - 1,by omega⟩;rw [YC,if_neg h];rfl
end Gx
namespace Go.Proofs
open Go Go.RowKit Gx
attribute [local irreducible] Go.Calls Gx.S Gx.O Gx.D Gx.OpP Gx.OpQ Gx.OpH
set_option maxRecDepth 20000
theorem QrX : Qt Tryz.prog 96 = true:=by kernel_rfl
theorem QrK : Qt Tryz.prog 97 = true:=by kernel_rfl
theorem QtR : Qt Tryz.prog 136 = true:=by kernel_rfl
theorem QuA : Qt Tryz.prog 71 = true:=by kernel_rfl
set_option maxHeartbeats 400000 in
theorem c71 (w : World) (co mo rm : Int) (a : Option Addr) (cap : Nat) (L : List LNd) (hs : Nt w [] a L) (hB : Bd (pln L)) (hkl : ∀ i,i < L.length → ∀ x ∈ (nth L i).es,x.key.length ≤ 1000000) : Calls Tryz.prog 71 #[.agg #[.int .i64 co,.int .i64 mo,.int .i64 rm,.slice a L.length cap]] w fun en w'=>en = .returned (.tuple #[.int .i64 (Y2 (⟨co,mo,rm,pln L⟩ : Tre)).1,.int .i64 (Y2 (⟨co,mo,rm,pln L⟩ : Tre)).2]) ∧ Below w.heap.size w w':=by
 have hle:=hB.len
 rw [Qh] at hle
 have hes9 : ∀ i,i < L.length → (nth L i).es.length ≤ 1000:=fun i hi=>by have h9:=hB.es i (by rw [Qh];exact hi);rw [QZ hi] at h9;exact h9
 have hcs9 : ∀ i,i < L.length → (nth L i).cs.length ≤ 1000:=fun i hi=>by have h9:=hB.cs i (by rw [Qh];exact hi);rw [QZ hi] at h9;exact h9
 refine enter (args:=[_]) Tryz.func71 Tryz.ntmps71 rfl rfl (HS.refl w []) ?_
 refine aS2 ?_
 refine oBx fun b1 _=>?_
 refine aS8 ?_
 refine o_q (Qb rfl QrX rfl (fun w1 h1=>c96 w1 _)) rfl ?_
 refine aS7 ?_
 refine Qc rfl (fun h2=>?_) fun h2=>?_
 ·try simp only [Bool.not_eq_true',decide_eq_false_iff_not] at h2
  have hz:=Qtq (t:=(⟨co,mo,rm,pln L⟩ : Tre)) h2
  refine aS6 ?_
  exact Qq (rs:=[.tmp 2,.tmp 3]) rfl (.tmp rfl (.tmp rfl (.nil))) (fun w' h'=>⟨by rw [hz];rfl,h'.below⟩)
 try simp only [Bool.not_eq_false',decide_eq_true_eq] at h2
 have hc0 : Qr co = 0:=by have hq:=h2;omega
 obtain ⟨j,rfl,hj⟩:=Qhx hc0
 refine aS8 ?_
 refine o_q (Qb rfl QrK rfl (fun w1 h1=>c97 w1 _ _)) rfl ?_
 refine aS7 ?_
 refine Qc rfl (fun h3=>?_) fun h3=>?_
 ·try simp only [Bool.not_eq_true',decide_eq_false_iff_not] at h3
  have hz:=QtH (t:=(⟨(j : Int),mo,rm,pln L⟩ : Tre)) hc0 h3
  refine aS6 ?_
  exact Qq (rs:=[.tmp 2,.tmp 3]) rfl (.tmp rfl (.tmp rfl (.nil))) (fun w' h'=>⟨by rw [hz];rfl,h'.below⟩)
 try simp only [Bool.not_eq_false',decide_eq_true_eq] at h3
 have hc1 : Xy mo rm = 0:=by have hq:=h3;omega
 have hsz2 : (3 ≤ mo ∧ mo ≤ 8) ∧ (mo / 2 ≤ rm ∧ rm ≤ mo):=QpI hc1
 have hTL : ((⟨(j : Int),mo,rm,pln L⟩ : Tre)).ns.length = L.length:=Qh L
 refine aS9 ?_
 refine Qc rfl (fun h4=>?_) fun h4=>?_
 ·try simp only [dT] at h4
  have hz:=Qs7 (t:=(⟨(j : Int),mo,rm,pln L⟩ : Tre)) hc0 hc1 (by rw [hTL];have hq:=h4;omega)
  refine aS5 ?_
  exact Qq (rs:=[.tmp 2,.tmp 3]) rfl (.tmp rfl (.tmp rfl (.nil))) (fun w' h'=>⟨by rw [hz];rfl,h'.below⟩)
 try simp only [dN] at h4
 have h00 : 0 < L.length:=by have hq:=h4;omega
 refine aS9 ?_
 refine Qc rfl (fun h5=>?_) fun h5=>?_
 ·try simp only [dT] at h5
  have hz:=Qr7 (t:=(⟨(j : Int),mo,rm,pln L⟩ : Tre)) hc0 hc1 (by rw [hTL];exact h00) (by rw [hTL];have hq:=h5;omega)
  refine aS5 ?_
  exact Qq (rs:=[.tmp 2,.tmp 3]) rfl (.tmp rfl (.tmp rfl (.nil))) (fun w' h'=>⟨by rw [hz];rfl,h'.below⟩)
 try simp only [dN] at h5
 have h120 : L.length ≤ 120:=by have hq:=h5;omega
 have hz:=Qti (t:=(⟨(j : Int),mo,rm,pln L⟩ : Tre)) hc0 hc1 (by rw [hTL];exact h00) (by rw [hTL];exact h120)
 rw [hTL] at hz
 refine aS6 ?_
 refine o_h (Qhk (n:=L.length) rfl rfl rfl QaW QsR (by omega) (by omega)) rfl (fun b6 _=>?_)
 refine Yj (fun w h=>(show HS _ _ [.blk b6 4 L.length (Q6 L.length []),.blk b1 37 4 [.int .i64 (j : Int),.int .i64 mo,.int .i64 rm,.slice a L.length cap]] w from by have h9:=h;rw [Nat.mul_one,Qh5] at h9;exact h9.ent aEt)) ?_
 refine aS4 ?_
 refine Qm (L':=[(1,_),(2,_),(3,_),(6,_)]) aSx (fun _ h=>h) ?_
 refine aS4 ?_
 refine QB (α:=Nat × List Int) [2,3,7,8,39,40,41,42,43,44,45,46,47,48,49,50,51,52,53] (fun x=>[(7,.int .i64 (x.1 : Int))]) (fun x=>HS w [] [.blk b6 4 L.length (Q6 L.length x.2),.blk b1 37 4 [.int .i64 (j : Int),.int .i64 mo,.int .i64 rm,.slice a L.length cap]]) (fun x=>x.1 ≤ L.length ∧ (XS (⟨(j : Int),mo,rm,pln L⟩ : Tre) L.length 0 []) = XS (⟨(j : Int),mo,rm,pln L⟩ : Tre) (L.length - x.1) x.1 x.2) (fun x=>L.length - x.1) (0,[]) ⟨Nat.zero_le _,rfl⟩ aSx (fun w h=>h.ent aEt) (fun ⟨k,S9⟩ hx=>?_)
 dsimp only
 obtain ⟨hk1,hk3⟩:=hx
 simp only [] at hk1 hk3
 refine aS9 ?_
 refine Qc rfl (fun h7=>?_) fun h7=>?_
 ·try simp only [dT] at h7
  have hkl9 : k < L.length:=by omega
  have hst:=Qft (t:=(⟨(j : Int),mo,rm,pln L⟩ : Tre)) (k:=k) (seen:=S9) (by rw [hTL];exact hkl9)
  rw [hTL] at hst
  refine aS8 ?_
  refine o_h (Xw (Cs:=[.blk b6 4 L.length (Q6 L.length S9)]) rfl QtR rfl aPs (fun w1 h1 hf=>c136 w1 j mo rm a cap L k b6 L.length L.length S9 hf ((hs.keep h1).mono (Xc aPs)) hj hkl9 (by omega) (hes9 _ hkl9) (hcs9 _ hkl9) (hkl _ hkl9))) rfl (fun _ _=>?_)
  refine aS7 ?_
  refine Qc rfl (fun h8=>?_) fun h8=>?_
  ·try simp only [Bool.not_eq_true',decide_eq_false_iff_not] at h8
   have hz3 : (XS (⟨(j : Int),mo,rm,pln L⟩ : Tre) L.length 0 []) = ((k : Int),(XC (⟨(j : Int),mo,rm,pln L⟩ : Tre) k S9).1):=by rw [hk3,hst,if_neg h8]
   rw [hz3,if_neg (show ¬ (((k : Int),(XC (⟨(j : Int),mo,rm,pln L⟩ : Tre) k S9).1) : Int × Int).2 = 0 from h8)] at hz
   refine aS7 ?_
   exact Qq (rs:=[.tmp 2,.tmp 3]) rfl (.tmp rfl (.tmp rfl (.nil))) (fun w' h'=>⟨by rw [hz];rfl,h'.below⟩)
  try simp only [Bool.not_eq_false',decide_eq_true_eq] at h8
  have hz3 : XS (⟨(j : Int),mo,rm,pln L⟩ : Tre) (L.length - k) k S9 = XS (⟨(j : Int),mo,rm,pln L⟩ : Tre) (L.length - (k + 1)) (k + 1) (XC (⟨(j : Int),mo,rm,pln L⟩ : Tre) k S9).2:=by rw [hst,if_pos (by have hq:=h8;omega)]
  refine aS5 ?_
  try refine oWr ?_
  refine aS2 ?_
  exact Qw (k + 1,(XC (⟨(j : Int),mo,rm,pln L⟩ : Tre) k S9).2) (by (try simp only []);omega) ⟨by (try simp only []);omega,by simp only [];rw [hk3,hz3]⟩ aSx (fun w h=>h.ent aEt)
 try simp only [dN] at h7
 have hnd : (XS (⟨(j : Int),mo,rm,pln L⟩ : Tre) L.length 0 []) = (0,0):=by rw [hk3,show L.length - k = 0 by omega];rfl
 rw [hnd,if_pos rfl] at hz
 have hT : TOk (j : Int) (pln L):=Qhg (t:=(⟨(j : Int),mo,rm,pln L⟩ : Tre)) (by show (XS (⟨(j : Int),mo,rm,pln L⟩ : Tre) (pln L).length 0 []).2 = 0;rw [Qh,hnd])
 have hvis : vis (pln L) L.length QbB = YH (pln L):=by unfold YH;rw [Qh]
 refine Qo rfl ?_
 refine aS5 ?_
 refine o_h (Qhk (n:=L.length) rfl rfl rfl QaW QsR (by omega) (by omega)) rfl (fun b9 _=>?_)
 refine Yj (fun w h=>(show HS _ _ [.blk b9 4 L.length (Q6 L.length []),.blk b1 37 4 [.int .i64 (j : Int),.int .i64 mo,.int .i64 rm,.slice a L.length cap]] w from by have h9:=h;rw [Nat.mul_one,Qh5] at h9;exact h9.ent aEt)) ?_
 refine aS6 ?_
 refine o_h (Xw (Cs:=[.blk b9 4 L.length (Q6 L.length [])]) rfl Qpp rfl aPs (fun w1 h1 hf=>c137 j mo rm a cap L b9 L.length L.length L.length w1 [] QbB [] hf ((hs.keep h1).mono (Xc aPs)) hT hB h00 rfl (by simp))) rfl (fun _ _=>?_)
 refine aS7 ?_
 refine Qm (L':=[(1,_),(6,_),(7,_),(9,_),(10,_)]) aSx (fun _ h=>h) ?_
 refine QB (α:=Nat) [2,3,10,61,62,63,64,65,66,67,68,69,70,71,72,73,74,75,76,77,78,79,80,81] (fun k=>[(10,.int .i64 (k : Int))]) (fun _=>HS w [] [.blk b9 4 L.length (Q6 L.length (mkS (vis (pln L) L.length QbB) [])),.blk b1 37 4 [.int .i64 (j : Int),.int .i64 mo,.int .i64 rm,.slice a L.length cap]]) (fun k=>k ≤ L.length ∧ Qbr (pln L) ((YH (pln L)).map Vis.i) L.length 0 = Qbr (pln L) ((YH (pln L)).map Vis.i) (L.length - k) k) (fun k=>L.length - k) 0 ⟨Nat.zero_le _,rfl⟩ aSx (fun w h=>h.ent aEt) (fun k hx=>?_)
 obtain ⟨hk1,hk2⟩:=hx
 refine aS9 ?_
 refine Qc rfl (fun h10=>?_) fun h10=>?_
 ·try simp only [dT] at h10
  have hkl9 : k < L.length:=by omega
  have hst:=Qgp (ns:=pln L) (below:=((YH (pln L)).map Vis.i)) (k:=k) (by rw [Qh];exact hkl9)
  rw [Qh,QZ hkl9] at hst
  refine aS8 ?_
  refine o_p (Qa rfl rfl rfl Xm (k) (by omega) (by omega) (Rw.some hs.1 (by omega))) rfl ?_
  refine aS ?_
  refine o_q (Qe rfl rfl Qf4 ((hs.1.rdj 0 hkl9 rfl))) rfl ?_
  refine aS ?_
  refine Xq 6 74 80 _ _ rfl
   (by
    intro hg11
    have hs12:=hg11;skip
    refine oOn 74 hg11 ?_
    refine aS ?_
    refine oOn 74 hg11 ?_
    refine aS ?_
    refine oOn 74 hg11 ?_
    refine o_p (Qa rfl rfl rfl QaW (k) (by omega) (by omega) rfl) rfl ?_
    refine Qz (show _ = Value.pointer (some ⟨b9,k,none⟩) from by rw [Nat.zero_add,Nat.mul_one]) ?_
    refine oOn 74 hg11 ?_
    refine o_q (X1 rfl rfl Qf4 (fun w h=>h.rd_blk (Mc:=[]) aPk (QaK hkl9) (by simp))) rfl ?_
    refine oOn 74 hg11 ?_
    refine aS ?_
    refine o_p (Qg rfl rfl hg11 rfl) rfl ?_
    refine aS ?_
    exact oJn 6 80)
   (by
    intro hg13
    have hs14:=hg13;skip
    refine oOf 74 hg13 ?_
    refine oOf 74 hg13 ?_
    refine oOf 74 hg13 ?_
    refine oOf 74 hg13 ?_
    refine oOf 74 hg13 ?_
    refine o_p (Qf rfl rfl hg13 rfl) rfl ?_
    refine aS ?_
    exact oJn 6 80) ?_
  refine aS ?_
  refine Qc rfl (fun h15=>?_) fun h15=>?_
  ·try simp only [Bool.and_eq_true,Bool.not_eq_true',decide_eq_false_iff_not] at h15
   have hz7 : (nth L k).pl.us = true ∧ k ∉ ((YH (pln L)).map Vis.i):=by have hq:=h15;rw [← QiX,← hvis];simp only [LNd.pl];simpa using hq
   have hz8:=hz.trans (Qfn (t:=(⟨(j : Int),mo,rm,pln L⟩ : Tre)) (i:=k) (show Qbr (pln L) _ (pln L).length 0 = some k from by rw [Qh,hk2,hst,if_pos hz7]))
   refine aS6 ?_
   exact Qq (rs:=[.tmp 2,.tmp 3]) rfl (.tmp rfl (.tmp rfl (.nil))) (fun w' h'=>⟨by rw [hz8];rfl,h'.below⟩)
  try simp only [Bool.and_eq_false_iff,Bool.not_eq_false',decide_eq_true_eq] at h15
  have hz7 : ¬ ((nth L k).pl.us = true ∧ k ∉ ((YH (pln L)).map Vis.i)):=by have hq:=h15;rw [← QiX,← hvis];simp only [LNd.pl];intro h9;exact hq.elim (fun h8=>by rw [h8] at h9;cases h9.1) (fun h8=>h9.2 h8)
  refine aS5 ?_
  try refine oWr ?_
  refine aS2 ?_
  exact Qw (k + 1) (by omega) ⟨by omega,by rw [hk2,hst,if_neg hz7]⟩ aSx (fun w h=>h.ent aEt)
 try simp only [dN] at h10
 have hnone : Qbr (pln L) ((YH (pln L)).map Vis.i) L.length 0 = none:=by rw [hk2,show L.length - k = 0 by omega];rfl
 have hz8:=hz.trans (QfD (t:=(⟨(j : Int),mo,rm,pln L⟩ : Tre)) (show Qbr (pln L) _ (pln L).length 0 = none from by rw [Qh];exact hnone))
 refine Qo rfl ?_
 refine Qaq ?_
 refine QB (α:=Nat × Nat × List Nat) [11,12,82,83,84,85,86,87,88,89,90,91,92,93,94,95,96,97,98,99] (fun y=>[(11,.int .i64 (y.1 : Int)),(12,.int .i64 (y.2.1 : Int))]) (fun _=>HS w [] [.blk b1 37 4 [.int .i64 (j : Int),.int .i64 mo,.int .i64 rm,.slice a L.length cap]]) (fun y=>Gx.Way (pln L) (y.2.1 :: y.2.2) ∧ y.2.2.length = y.1 ∧ YC (pln L) L.length 0 = (y.1 : Int) + YC (pln L) (L.length - y.1) y.2.1) (fun y=>L.length - y.1) (0,0,[]) ⟨rfl,rfl,by simp⟩ aSx (fun w h=>h.ent aEt) (fun ⟨d,i,P⟩ hx=>?_)
 dsimp only
 obtain ⟨hway,hpl,hdp⟩:=hx
 simp only [] at hway hpl hdp
 have hil0:=QcN hT (by rw [Qh];exact h00) hway i (List.mem_cons_self ..)
 have hil : i < L.length:=by rw [Qh] at hil0;exact hil0
 have hnI:=QZ hil
 have hwl:=QaX hT (by rw [Qh];exact h00) hway
 rw [Qh,List.length_cons] at hwl
 have hcl:=hcs9 i hil
 refine aS6 ?_
 refine o_p (Qa rfl rfl rfl Xm (i) (by omega) (by omega) (Rw.some hs.1 (by omega))) rfl ?_
 refine aS ?_
 refine o_q (Qe rfl rfl QbF ((hs.1.rdj 2 hil rfl))) rfl ?_
 refine aS3 ?_
 refine Qc rfl (fun h16=>?_) fun h16=>?_
 ·try simp only [dT] at h16
  have hcl0 : 0 < (nth L i).cs.length:=by have hq:=h16;omega
  have hkid:=QfZ hT (by rw [Qh];exact hil) (i:=i) (k:=0) (by rw [hnI];exact hcl0)
  rw [hnI,Qh] at hkid
  simp only [LNd.pl] at hkid
  have hway2:=Qdj hway (by rw [Qh];exact hil) (k:=0) (by rw [hnI];exact hcl0) (by rw [hnI];simp only [LNd.pl];omega)
  rw [hnI] at hway2
  have hwl2:=QaX hT (by rw [Qh];exact h00) hway2
  rw [Qh,List.length_cons,List.length_cons] at hwl2
  have hdm:=QlG (ns:=pln L) (f:=L.length - d) (i:=i) (by omega) (by rw [hnI];show ¬ (nth L i).cs.length = 0;omega)
  rw [hnI] at hdm
  refine aS7 ?_
  refine o_p (Qa rfl rfl rfl Xm (i) (by omega) (by omega) (Rw.some hs.1 (by omega))) rfl ?_
  refine aS ?_
  refine o_q (Qe rfl rfl QbF ((hs.1.rdj 2 hil rfl))) rfl ?_
  refine o_p (Qa rfl rfl rfl Q7 (0) (by omega) (by omega) (Rw.some (hs.cs hil) (by omega))) rfl ?_
  refine o_q (Qe rfl rfl Y9 (((hs.cs hil).rdj 0 (i:=0) (by omega) rfl))) rfl ?_
  refine Qz (show _ = Value.int .i64 (((nth L i).cs.getD 0 0).toNat : Int) from congrArg (Value.int .i64) (Int.toNat_of_nonneg (show 0 ≤ (nth L i).cs.getD 0 0 by omega)).symm) ?_
  refine aS6 ?_
  try refine oWr ?_
  refine aS2 ?_
  exact Qw (d + 1,((nth L i).cs.getD 0 0).toNat,i :: P) (by (try simp only []);omega) ⟨hway2,by simp [hpl],by simp only [] at *;rw [show L.length - (d + 1) = L.length - d - 1 by omega];have h9 : (nth L i).pl.cs = (nth L i).cs:=rfl;rw [h9] at hdm;omega⟩ aSx (fun w h=>h.ent aEt)
 try simp only [dN] at h16
 have hde:=Qon (ns:=pln L) (f:=L.length - d) (i:=i) (by rw [hnI];show (nth L i).cs.length = 0;have hq:=h16;omega)
 rw [hde,Int.add_zero] at hdp
 have hdl:=Qi8 (pln L) L.length 0
 refine Qo rfl ?_
 refine aS4 ?_
 refine o_q (Qb rfl QeX rfl (fun w1 h1=>c138 j mo rm a cap L (d : Int) L.length w1 QbB [] (d : Int) none none 0 0 0 0 (hs.later h1) hj (by omega) hT hB h00 rfl rfl (by show (d : Int) = d + 1 - 1;omega) (fun _ h=>by cases h) (fun _ h=>by cases h) rfl rfl (by simp))) rfl ?_
 refine aS5 ?_
 exact Qq (rs:=[.tmp 2,.tmp 3]) rfl (.tmp rfl (.tmp rfl (.nil))) (fun w' h'=>⟨by rw [hz8,show YC ((⟨(j : Int),mo,rm,pln L⟩ : Tre)).ns ((⟨(j : Int),mo,rm,pln L⟩ : Tre)).ns.length 0 = (d : Int) from by rw [hTL];exact hdp,show YH ((⟨(j : Int),mo,rm,pln L⟩ : Tre)).ns = vis (pln L) L.length QbB from hvis.symm];rfl,h'.below⟩)
theorem c84 (w : World) (co mo rm : Int) (a : Option Addr) (cap : Nat) (L : List LNd) (hs : Nt w [] a L) (hB : Bd (pln L)) (hkl : ∀ i,i < L.length → ∀ x ∈ (nth L i).es,x.key.length ≤ 1000000) : Calls Tryz.prog 84 #[.agg #[.int .i64 co,.int .i64 mo,.int .i64 rm,.slice a L.length cap]] w fun en w'=>en = .returned (.int .i64 (Y2 (⟨co,mo,rm,pln L⟩ : Tre)).2) ∧ Below w.heap.size w w':=by
 refine enter (args:=[_]) Tryz.func84 Tryz.ntmps84 rfl rfl (HS.refl w []) ?_
 refine aS2 ?_
 refine oBx fun b1 _=>?_
 refine aS5 ?_
 refine o_q (Qb rfl QuA rfl (fun w1 h1=>c71 w1 co mo rm a cap L (hs.later h1) hB hkl)) rfl ?_
 refine Qjh ?_
 exact rT rfl rfl (fun w' h'=>⟨by rfl,h'.below⟩)
end Go.Proofs
namespace Gx
open Go Go.RowKit
def QaP (x : TEnt) : Bool:=decide (x.key.length ≤ 44 ∧ x.val.length ≤ 70)
def Qa8 (es : List TEnt) : Bool:=es.all QaP
def QbG (n : Nd) : Bool:=decide (n.es.length ≤ 10 ∧ n.cs.length ≤ 11) && Qa8 n.es
def Yu (ns : List Nd) : Bool:=decide (ns.length ≤ 122 ∧ ¬ (60 < ns.length ∧ ns.length ≤ 120)) && ns.all QbG
theorem Qqh {n : Nd} (h1 : n.es.length ≤ 10) (h2 : n.cs.length ≤ 11) (h3 : Qa8 n.es = true) : QbG n = true:=by
 rw [QbG,decide_eq_true (And.intro h1 h2),h3];rfl
theorem Qq5 {n : Nd} (h : (10 < n.es.length ∨ 11 < n.cs.length) ∨ Qa8 n.es = false) : ¬ QbG n = true:=fun h9=>by
 rw [QbG,Bool.and_eq_true,decide_eq_true_eq] at h9;rcases h with h | h
 ·omega
 ·rw [h] at h9;cases h9.2
theorem Qmd {es : List TEnt} (h : ∀ q,q < es.length → QaP (nth es q) = true) : Qa8 es = true:=by
 refine List.all_eq_true.2 fun x hx=>?_;obtain ⟨q,hq,e⟩:=List.getElem_of_mem hx;have e2 : nth es q = x:=YY (by rw [List.getElem?_eq_getElem hq,e]);rw [← e2];exact h q hq
theorem Qly {es : List TEnt} {k : Nat} (hk : k < es.length) (h : ¬ QaP (nth es k) = true) : Qa8 es = false:=by
 cases e : Qa8 es
 ·rfl
 ·exact absurd (List.all_eq_true.1 e _ (Qy hk)) h
theorem QqY {ns : List Nd} (h0 : ns.length ≤ 122 ∧ ¬ (60 < ns.length ∧ ns.length ≤ 120)) (h : ∀ q,q < ns.length → QbG (nth ns q) = true) : Yu ns = true:=by
 rw [Yu,decide_eq_true h0,Bool.true_and];refine List.all_eq_true.2 fun x hx=>?_;obtain ⟨q,hq,e⟩:=List.getElem_of_mem hx;have e2 : nth ns q = x:=YY (by rw [List.getElem?_eq_getElem hq,e]);rw [← e2];exact h q hq
theorem Qqt {ns : List Nd} {k : Nat} (hk : k < ns.length) (h : ¬ QbG (nth ns k) = true) : Yu ns = false:=by
 cases e : Yu ns
 ·rfl
 ·rw [Yu,Bool.and_eq_true] at e;exact absurd (List.all_eq_true.1 e.2 _ (Qy hk)) h
theorem QqB {ns : List Nd} (h : ¬ (ns.length ≤ 122 ∧ ¬ (60 < ns.length ∧ ns.length ≤ 120))) : Yu ns = false:=by
 rw [Yu,decide_eq_false h,Bool.false_and]
theorem Qpo {ns : List Nd} (h : Yu ns = true) : ns.length ≤ 122:=by
 rw [Yu,Bool.and_eq_true,decide_eq_true_eq] at h;exact h.1.1
theorem Qck {ns : List Nd} (h : Yu ns = true) {k : Nat} (hk : k < ns.length) : (nth ns k).es.length ≤ 10 ∧ (nth ns k).cs.length ≤ 11 ∧ ∀ x ∈ (nth ns k).es,x.key.length ≤ 44 ∧ x.val.length ≤ 70:=by
 rw [Yu,Bool.and_eq_true] at h;have h2:=List.all_eq_true.1 h.2 _ (Qy hk);rw [QbG,Bool.and_eq_true,decide_eq_true_eq] at h2;refine ⟨h2.1.1,h2.1.2,fun x hx=>?_⟩;have h3:=List.all_eq_true.1 h2.2 _ hx;rw [QaP,decide_eq_true_eq] at h3;exact h3
theorem QeN {ns : List Nd} (h : Yu ns = true) : Bd ns where
 len:=Nat.le_trans (Qpo h) (by decide)
 es i hi:=Nat.le_trans (Qck h hi).1 (by decide)
 cs i hi:=Nat.le_trans (Qck h hi).2.1 (by decide)
theorem QeG {ns : List Nd} (h : Yu ns = true) : Sm 1000 ns:=fun k=>by
 rcases Nat.lt_or_ge k ns.length with hk | hk
 ·exact ⟨Nat.le_trans (Qck h hk).1 (by decide),Nat.le_trans (Qck h hk).2.1 (by decide)⟩
 ·rw [Qa4 hk];exact ⟨Nat.zero_le _,Nat.zero_le _⟩
theorem Qcj {L : List LNd} (h : Yu (pln L) = true) : ∀ i,i < L.length → ∀ x ∈ (nth L i).es,x.key.length ≤ 1000000:=fun i hi x hx=>by
 have h2:=(Qck h (k:=i) (by rw [Qh];exact hi)).2.2 x (by rw [QZ hi];exact hx);omega
def entN (co : Int) (ns : List Nd) (key : List UInt8) : TEnt:=nth (nth ns (QW (Q3 co ns key).1)).es (Q3 co ns key).2.1
end Gx
namespace Go.Proofs
open Go Go.RowKit Gx
attribute [local irreducible] Go.Calls Gx.S Gx.O Gx.D Gx.OpP Gx.OpQ Gx.OpH
set_option maxRecDepth 20000
theorem QuP : Qt Tryz.prog 42 = true:=by kernel_rfl
theorem Qs2 : Qt Tryz.prog 139 = true:=by kernel_rfl
theorem c42 (w : World) (x : TEnt) : Calls Tryz.prog 42 #[.agg #[.string (bs x.key),.string (bs x.val)]] w fun en w'=>en = .returned (.bool (QaP x)) ∧ Below w.heap.size w w':=by
 refine enter (args:=[_]) Tryz.func42 Tryz.ntmps42 rfl rfl (HS.refl w []) ?_
 refine aS2 ?_
 refine oBx fun b1 _=>?_
 refine aS6 ?_
 refine o_p (Qk rfl rfl Tryz.underlying9) rfl ?_
 refine aS2 ?_
 refine Xq 5 7 12 _ _ rfl
  (by
   intro hg2
   have hs3:=hg2;try simp only [dT] at hs3
   refine oOn 7 hg2 ?_
   refine aS ?_
   refine oOn 7 hg2 ?_
   refine aS ?_
   refine oOn 7 hg2 ?_
   refine o_p (Qk rfl rfl Tryz.underlying9) rfl ?_
   refine oOn 7 hg2 ?_
   refine aS ?_
   refine o_p (Qg rfl rfl hg2 rfl) rfl ?_
   refine aS ?_
   exact oJn 5 12)
  (by
   intro hg4
   have hs5:=hg4;try simp only [dN] at hs5
   refine oOf 7 hg4 ?_
   refine oOf 7 hg4 ?_
   refine oOf 7 hg4 ?_
   refine oOf 7 hg4 ?_
   refine o_p (Qf rfl rfl hg4 rfl) rfl ?_
   refine aS ?_
   exact oJn 5 12) ?_
 refine aS2 ?_
 exact rT rfl rfl (fun w' h'=>⟨by simp only [QV,QaP,Bool.decide_and];congr 3 <;> exact decide_eq_decide.2 (by omega),h'.below⟩)
theorem c139 (w : World) (a : Option Addr) (cap : Nat) (l : List TEnt) (hs : Rw TEnt.vals 2 w [] a l) (hl : l.length ≤ 1000) : Calls Tryz.prog 139 #[.slice a l.length cap] w fun en w'=>en = .returned (.bool (Qa8 l)) ∧ Below w.heap.size w w':=by
 refine enter (args:=[_]) Tryz.func139 Tryz.ntmps139 rfl rfl (HS.refl w []) ?_
 refine Qaq ?_
 refine QB (α:=Nat) [2,3,4,5,6,7,8,9,10,11,12,13,14,15] (fun k=>[(3,.int .i64 (k : Int))]) (fun _=>HS w [] []) (fun k=>k ≤ l.length ∧ ∀ q,q < k → QaP (nth l q) = true) (fun k=>l.length - k) 0 ⟨Nat.zero_le _,fun q h=>absurd h (Nat.not_lt_zero q)⟩ aSx (fun w h=>h.ent aEt) (fun k hx=>?_)
 obtain ⟨hk1,hk3⟩:=hx
 refine aS8 ?_
 refine Qc rfl (fun h1=>?_) fun h1=>?_
 ·try simp only [dT] at h1
  have hk5 : k < l.length:=by omega
  refine aS7 ?_
  refine o_p (Qa rfl rfl rfl QX (k) (by omega) (by omega) (Rw.some hs (by omega))) rfl ?_
  refine o_q (QA _ rfl rfl Qbm rfl (Rw.rd hs hk5)) rfl ?_
  refine o_q (Qb rfl QuP rfl (fun w1 h1=>c42 w1 (nth l k))) rfl ?_
  refine aS2 ?_
  refine Qc rfl (fun h2=>?_) fun h2=>?_
  ·try simp only [Bool.not_eq_true'] at h2
   have hz1 : ¬ QaP (nth l k) = true:=by have hq:=h2;simp [hq]
   have hbad:=Qly hk5 hz1
   refine aS4 ?_
   exact rT rfl rfl (fun w' h'=>⟨by rw [hbad];rfl,h'.below⟩)
  try simp only [Bool.not_eq_false'] at h2
  have hz1 : QaP (nth l k) = true:=by have hq:=h2;simpa using hq
  refine aS5 ?_
  try refine oWr ?_
  refine aS2 ?_
  exact Qw (k + 1) (by omega) ⟨by omega,fun q hq=>(Nat.lt_or_ge q k).elim (hk3 q) (fun h9=>by obtain rfl : q = k:=(by omega);exact hz1)⟩ aSx (fun w h=>h.ent aEt)
 try simp only [dN] at h1
 have hall:=Qmd (es:=l) (fun q hq=>hk3 q (by omega))
 refine Qo rfl ?_
 refine aS4 ?_
 exact rT rfl rfl (fun w' h'=>⟨by rw [hall];rfl,h'.below⟩)
theorem c74 (w : World) (co mo rm : Int) (a : Option Addr) (cap : Nat) (L : List LNd) (hs : Nt w [] a L) : Calls Tryz.prog 74 #[.agg #[.int .i64 co,.int .i64 mo,.int .i64 rm,.slice a L.length cap]] w fun en w'=>en = .returned (.bool (Yu (pln L))) ∧ Below w.heap.size w w':=by
 have hnl : (pln L).length = L.length:=Qh L
 refine enter (args:=[_]) Tryz.func74 Tryz.ntmps74 rfl rfl (HS.refl w []) ?_
 refine aS2 ?_
 refine oBx fun b1 _=>?_
 refine Qaq ?_
 refine Xq 5 8 13 _ _ rfl
  (by
   intro hg2
   have hs3:=hg2;try simp only [dT] at hs3
   refine oOn 8 hg2 ?_
   refine aS ?_
   refine oOn 8 hg2 ?_
   refine aS ?_
   refine oOn 8 hg2 ?_
   refine aS ?_
   refine oOn 8 hg2 ?_
   refine aS ?_
   refine o_p (Qg rfl rfl hg2 rfl) rfl ?_
   refine aS ?_
   exact oJn 5 13)
  (by
   intro hg4
   have hs5:=hg4;try simp only [dN] at hs5
   refine oOf 8 hg4 ?_
   refine oOf 8 hg4 ?_
   refine oOf 8 hg4 ?_
   refine oOf 8 hg4 ?_
   refine o_p (Qf rfl rfl hg4 rfl) rfl ?_
   refine aS ?_
   exact oJn 5 13) ?_
 refine aS ?_
 refine Xn 5 14 19 _ _ rfl
  (by
   intro hg6
   have hs7:=hg6;try simp only [Bool.and_eq_false_iff,decide_eq_false_iff_not] at hs7
   refine oOn 14 hg6 ?_
   refine aS ?_
   refine oOn 14 hg6 ?_
   refine aS ?_
   refine oOn 14 hg6 ?_
   refine aS ?_
   refine oOn 14 hg6 ?_
   refine aS ?_
   refine o_p (Qf rfl rfl hg6 rfl) rfl ?_
   refine aS ?_
   exact oJn 5 19)
  (by
   intro hg8
   have hs9:=hg8;try simp only [Bool.and_eq_true,decide_eq_true_eq] at hs9
   refine oOf 14 hg8 ?_
   refine oOf 14 hg8 ?_
   refine oOf 14 hg8 ?_
   refine oOf 14 hg8 ?_
   refine o_p (Qg rfl rfl hg8 rfl) rfl ?_
   refine aS ?_
   exact oJn 5 19) ?_
 refine aS ?_
 refine Qc rfl (fun h10=>?_) fun h10=>?_
 ·try simp only [Bool.or_eq_true,Bool.and_eq_true,decide_eq_true_eq] at h10
  have hbad:=QqB (ns:=pln L) (by rw [hnl];have hq:=h10;omega)
  refine aS4 ?_
  exact rT rfl rfl (fun w' h'=>⟨by rw [hbad];rfl,h'.below⟩)
 try simp only [Bool.or_eq_false_iff,Bool.and_eq_false_iff,decide_eq_false_iff_not] at h10
 have hlen : L.length ≤ 122 ∧ ¬ (60 < L.length ∧ L.length ≤ 120):=by have hq:=h10;omega
 refine aS7 ?_
 refine QB (α:=Nat) [2,3,20,21,22,23,24,25,26,27,28,29,30,31,32,33,34,35,36,37,38,39,40,41,42,43,44,45,46,47,48,49,50,51,52,53,54] (fun k=>[(3,.int .i64 (k : Int))]) (fun _=>HS w [] [.blk b1 37 4 [.int .i64 co,.int .i64 mo,.int .i64 rm,.slice a L.length cap]]) (fun k=>k ≤ L.length ∧ ∀ q,q < k → QbG (nth (pln L) q) = true) (fun k=>L.length - k) 0 ⟨Nat.zero_le _,fun q h=>absurd h (Nat.not_lt_zero q)⟩ aSx (fun w h=>h.ent aEt) (fun k hx=>?_)
 obtain ⟨hk1,hk3⟩:=hx
 refine aS9 ?_
 refine Qc rfl (fun h11=>?_) fun h11=>?_
 ·try simp only [dT] at h11
  have hk5 : k < L.length:=by omega
  have hnk:=QZ hk5
  refine aS8 ?_
  refine o_p (Qa rfl rfl rfl Xm (k) (by omega) (by omega) (Rw.some hs.1 (by omega))) rfl ?_
  refine aS ?_
  refine o_q (Qe rfl rfl Qcz ((hs.1.rdj 1 hk5 rfl))) rfl ?_
  refine aS3 ?_
  refine Xn 9 35 44 _ _ rfl
   (by
    intro hg12
    have hs13:=hg12;try simp only [dN] at hs13
    refine oOn 35 hg12 ?_
    refine aS ?_
    refine oOn 35 hg12 ?_
    refine aS ?_
    refine oOn 35 hg12 ?_
    refine aS ?_
    refine oOn 35 hg12 ?_
    refine o_p (Qa rfl rfl rfl Xm (k) (by omega) (by omega) (Rw.some hs.1 (by omega))) rfl ?_
    refine oOn 35 hg12 ?_
    refine aS ?_
    refine oOn 35 hg12 ?_
    refine o_q (Qe rfl rfl QbF ((hs.1.rdj 2 hk5 rfl))) rfl ?_
    refine oOn 35 hg12 ?_
    refine aS ?_
    refine oOn 35 hg12 ?_
    refine aS ?_
    refine o_p (Qf rfl rfl hg12 rfl) rfl ?_
    refine aS ?_
    exact oJn 9 44)
   (by
    intro hg14
    have hs15:=hg14;try simp only [dT] at hs15
    refine oOf 35 hg14 ?_
    refine oOf 35 hg14 ?_
    refine oOf 35 hg14 ?_
    refine oOf 35 hg14 ?_
    refine oOf 35 hg14 ?_
    refine oOf 35 hg14 ?_
    refine oOf 35 hg14 ?_
    refine oOf 35 hg14 ?_
    refine o_p (Qg rfl rfl hg14 rfl) rfl ?_
    refine aS ?_
    exact oJn 9 44) ?_
  refine aS ?_
  refine Xn 9 45 54 _ _ rfl
   (by
    intro hg16
    have hs17:=hg16;try simp only [Bool.or_eq_false_iff,decide_eq_false_iff_not] at hs17
    refine oOn 45 hg16 ?_
    refine aS ?_
    refine oOn 45 hg16 ?_
    refine aS ?_
    refine oOn 45 hg16 ?_
    refine aS ?_
    refine oOn 45 hg16 ?_
    refine o_p (Qa rfl rfl rfl Xm (k) (by omega) (by omega) (Rw.some hs.1 (by omega))) rfl ?_
    refine oOn 45 hg16 ?_
    refine aS ?_
    refine oOn 45 hg16 ?_
    refine o_q (Qe rfl rfl Qcz ((hs.1.rdj 1 hk5 rfl))) rfl ?_
    refine oOn 45 hg16 ?_
    refine o_q (Qb rfl Qs2 rfl (fun w1 h1=>c139 w1 (nth L k).ea (nth L k).ec (nth L k).es ((hs.es hk5).later h1) (by have hq:=hg16;omega))) rfl ?_
    refine oOn 45 hg16 ?_
    refine aS ?_
    refine o_p (Qf rfl rfl hg16 rfl) rfl ?_
    refine aS ?_
    exact oJn 9 54)
   (by
    intro hg18
    have hs19:=hg18;try simp only [Bool.or_eq_true,decide_eq_true_eq] at hs19
    refine oOf 45 hg18 ?_
    refine oOf 45 hg18 ?_
    refine oOf 45 hg18 ?_
    refine oOf 45 hg18 ?_
    refine oOf 45 hg18 ?_
    refine oOf 45 hg18 ?_
    refine oOf 45 hg18 ?_
    refine oOf 45 hg18 ?_
    refine o_p (Qg rfl rfl hg18 rfl) rfl ?_
    refine aS ?_
    exact oJn 9 54) ?_
  refine aS ?_
  refine Qc rfl (fun h20=>?_) fun h20=>?_
  ·try simp only [Bool.or_eq_true,decide_eq_true_eq,Bool.not_eq_true'] at h20
   have hz1 : ¬ QbG (nth (pln L) k) = true:=by rw [hnk];have hq:=h20;exact Qq5 (hq.imp (fun h9=>by show 10 < (nth L k).es.length ∨ 11 < (nth L k).cs.length;omega) id)
   have hbad:=Qqt (by rw [hnl];exact hk5) hz1
   refine aS4 ?_
   exact rT rfl rfl (fun w' h'=>⟨by rw [hbad];rfl,h'.below⟩)
  try simp only [Bool.or_eq_false_iff,decide_eq_false_iff_not,Bool.not_eq_false'] at h20
  have hz1 : QbG (nth (pln L) k) = true:=by rw [hnk];have hq:=h20;exact Qqh (by show (nth L k).es.length ≤ 10;omega) (by show (nth L k).cs.length ≤ 11;omega) hq.2
  refine aS5 ?_
  try refine oWr ?_
  refine aS2 ?_
  exact Qw (k + 1) (by omega) ⟨by omega,fun q hq=>(Nat.lt_or_ge q k).elim (hk3 q) (fun h9=>by obtain rfl : q = k:=(by omega);exact hz1)⟩ aSx (fun w h=>h.ent aEt)
 try simp only [dN] at h11
 have hall:=QqY (ns:=pln L) (by rw [hnl];exact hlen) (fun q hq=>hk3 q (by rw [hnl] at hq;omega))
 refine Qo rfl ?_
 refine aS4 ?_
 exact rT rfl rfl (fun w' h'=>⟨by rw [hall];rfl,h'.below⟩)
theorem Qsk : QtM Tryz.prog 211 67 4:=⟨_,Tryz.func211,rfl,rfl,by kernel_rfl,by kernel_rfl⟩
theorem Qsi : QtM Tryz.prog 263 28 4:=⟨_,Tryz.func263,rfl,rfl,by kernel_rfl,by kernel_rfl⟩
theorem Qu2 (w : World) (a : Option Addr) (i n m cap : Nat) (xs news : List Value) (b0 c0 tot2 : Nat) (hw : HS w (fps [.own (.slice a n cap) 27 2 n xs,.blk b0 27 tot2 news]) [.own (.slice a n cap) 27 2 n xs,.blk b0 27 tot2 news] w) (hm0 : 0 < m) (hl : news.length = m * 2) (hn1 : ∀ u ∈ news,u.oneCell' = true) (hx1 : ∀ u ∈ xs,u.oneCell' = true) (hmax : (n + m) * 32 ≤ 140737488355328) (hi : i = n) : Calls Tryz.prog 165 #[.slice a n cap,.int .i64 i,.slice (some ⟨b0,0,none⟩) m c0] w fun en w'=>∃ g : Option Addr × Nat,en = .returned (.slice g.1 (n + m) g.2) ∧ True ∧ HS w (fps [.own (.slice a n cap) 27 2 n xs,.blk b0 27 tot2 news]) [.own (.slice g.1 (n + m) g.2) 27 2 (n + m) (xs.take (i * 2) ++ news ++ xs.drop (i * 2)),.blk b0 27 tot2 news] w':=by
 obtain ⟨_,hnc,hcm,hxl⟩:=hw.own_facts .here
 refine enter (args:=[_,_,_]) Tryz.func165 Tryz.ntmps165 rfl rfl hw ?_
 refine aS8 ?_
 refine o_p (QI _ _ i n rfl rfl QX ⟨_,_,rfl,rfl⟩ rfl (by omega) (by omega)) rfl ?_
 iterate 13 refine aS ?_
 refine Qc rfl (fun h1=>?_) fun h1=>?_
 ·try simp only [dT] at h1
  exfalso;first | omega | (simp at h1;done) | (simp_all;done)
 try simp only [dN] at h1
 iterate 14 refine aS ?_
 refine Qc rfl (fun h2=>?_) fun h2=>?_
 ·try simp only [dT] at h2
  refine aS4 ?_
  refine o_h (XM news rfl rfl rfl QX Tryz.underlying67 Zv rfl aPk (Xv aPk) hl hn1 (by omega) (by simp only [maxLen];omega)) rfl (fun b3 _=>?_)
  refine aS2 ?_
  exact rT rfl rfl (fun w' h'=>⟨(_,_),rfl,trivial,by subst hi;rw [List.take_of_length_le (by omega),List.drop_eq_nil_of_le (by omega),List.append_nil];exact h'.ent aEt⟩)
 try simp only [dN] at h2
 exfalso;first | omega | (simp at h2;done) | (simp_all;done)
theorem Qvj (w : World) (gg i n m cap : Nat) (xs news : List Value) (b0 c0 tot2 : Nat) (M : List Nat) (hw : HS w M [.blk gg 27 (cap * 2) xs,.blk b0 27 tot2 news] w) (hnc : n ≤ cap) (hcm : cap ≤ maxLen) (hxl : xs.length = n * 2) (hm0 : 0 < m) (hl : news.length = m * 2) (hn1 : ∀ u ∈ news,u.oneCell' = true) (hx1 : ∀ u ∈ xs,u.oneCell' = true) (hmax : (n + m) * 32 ≤ 140737488355328) (hi : i < n) : Calls Tryz.prog 165 #[.slice (some ⟨gg,0,none⟩) n cap,.int .i64 i,.slice (some ⟨b0,0,none⟩) m c0] w fun en w'=>∃ g : Option Addr × Nat,en = .returned (.slice g.1 (n + m) g.2) ∧ True ∧ HS w M [.own (.slice g.1 (n + m) g.2) 27 2 (n + m) (xs.take (i * 2) ++ news ++ xs.drop (i * 2)),.blk b0 27 tot2 news] w':=by
 have ht2:=(hw.blk_get (.there .here)).len_le
 have hcl : (cut xs 0 (i * 2)).length = i * 2:=Xp _ _ _ (by omega)
 refine enter (args:=[_,_,_]) Tryz.func165 Tryz.ntmps165 rfl rfl hw ?_
 refine aS8 ?_
 refine o_p (QI _ _ i n rfl rfl QX ⟨_,_,rfl,rfl⟩ rfl (by omega) (by omega)) rfl ?_
 iterate 13 refine aS ?_
 refine Qc rfl (fun h1=>?_) fun h1=>?_
 ·try simp only [dT] at h1
  exfalso;first | omega | (simp at h1;done) | (simp_all;done)
 try simp only [dN] at h1
 iterate 14 refine aS ?_
 refine Qc rfl (fun h2=>?_) fun h2=>?_
 ·try simp only [dT] at h2
  exfalso;first | omega | (simp at h2;done) | (simp_all;done)
 try simp only [dN] at h2
 refine aS7 ?_
 try refine oWr ?_
 refine aS ?_
 refine o_p (Qoz rfl rfl Tryz.underlying67) rfl ?_
 refine aS2 ?_
 refine Qc rfl (fun h3=>?_) fun h3=>?_
 ·try simp only [dT] at h3
  refine aS4 ?_
  refine o_p (QI _ _ 0 i rfl rfl QX rfl ⟨_,_,rfl,rfl⟩ (by omega) (by omega)) rfl ?_
  refine Qz (show _ = Value.slice (some ⟨gg,0,none⟩) (i) (cap) from by rw [QaH] <;> (congr 1 <;> omega)) ?_
  refine aS3 ?_
  try refine oWr ?_
  refine aS2 ?_
  try refine oWr ?_
  refine Qz (show _ = Value.int .i64 ((n + m - i : Nat) : Int) from by first | rfl | (congr 1 <;> first | rfl | omega)) ?_
  refine o_h (ZM (m:=n + m - i) (olds:=cut xs 0 (i * 2)) rfl rfl rfl QX Zo Zv rfl (by decide) (by omega) (by omega) (Zz 0 (i * 2) (fun _=>rfl) aPk) hcl (by omega) (by simp only [maxLen];omega)) rfl (fun ⟨b4,c5⟩ ⟨h6,k7⟩=>?_)
  refine Qz (show _ = Value.slice (some ⟨b4,0,none⟩) (n + m) c5 from by first | rfl | (congr 1 <;> first | rfl | omega)) ?_
  refine aS3 ?_
  refine Qm (L':=[(0,_),(1,_),(2,_),(6,_),(7,_),(8,_),(9,_)]) aSx (fun _ h=>h) ?_
  refine aS3 ?_
  refine o_p (QI _ _ i (n + m) rfl rfl QX ⟨_,_,rfl,rfl⟩ rfl (by omega) (by omega)) rfl ?_
  refine Qz (show _ = Value.slice (some ⟨b4,i * 2,none⟩) (n + m - i) (c5 - i) from by rw [Yk (by omega)] <;> (congr 1 <;> omega)) ?_
  refine aS ?_
  refine o_h (Qa9 m news rfl rfl rfl QX aPt (by omega) hl (fun _=>rfl) (by simp only [QD,List.length_append,Ql];omega) (Xv aPk) hn1) rfl (fun _ _=>?_)
  refine aS2 ?_
  refine QL [8] Q8 ?_
  refine dP 0 ?_
  refine dP 1 ?_
  refine dP 2 ?_
  refine dP 3 ?_
  try refine dWr ?_
  refine dV 4 rfl (QI _ _ (i + m) (n + m) rfl rfl QX ⟨_,_,rfl,(by omega)⟩ rfl (by omega) (by omega)) ?_
  refine QG (show _ = Value.slice (some ⟨b4,(i + m) * 2,none⟩) (n - i) (c5 - (i + m)) from by rw [Yk (by omega)] <;> (congr 1 <;> omega)) ?_
  refine dP 5 ?_
  refine dP 6 ?_
  refine dV 7 rfl (QI _ _ i n rfl rfl QX ⟨_,_,rfl,rfl⟩ rfl (by omega) (by omega)) ?_
  refine QG (show _ = Value.slice (some ⟨gg,i * 2,none⟩) (n - i) (cap - i) from by rw [Yk (by omega)] <;> (congr 1 <;> omega)) ?_
  refine dH 8 rfl (Qa9 (n - i) (cut xs (i * 2) ((n - i) * 2)) rfl rfl rfl QX aPt (by omega) (Xp _ _ _ (by omega)) (fun _=>rfl) (by rw [Xp _ _ _ (by omega)];simp only [QD,List.length_append,Ql];omega) (Zz (i * 2) ((n - i) * 2) (fun _=>rfl) aPk) (Qhh hx1 _ _)) (fun _ _=>?_)
  refine dTu [] ?_
  refine dNi ?_
  refine aS5 ?_
  exact rT rfl rfl (fun w' h'=>⟨(some ⟨b4,0,none⟩,c5),rfl,trivial,(HS.to_own (n:=n + m) (xs:=xs.take (i * 2) ++ news ++ xs.drop (i * 2)) (ds:=[]) aPk h' (by have hq:=QiW (xs:=xs) (news:=news) (z:=XB [.string (bs []),.string (bs [])] ((n + m - i) * 2)) (p:=i * 2) (q:=m * 2) (N:=n * 2) hxl (by omega) hl (by rw [QD];omega);rw [List.append_nil];rw [show (i + m) * 2 = i * 2 + m * 2 from by omega,show (n - i) * 2 = n * 2 - i * 2 from by omega];exact hq) (by simp only [List.length_append,List.length_take,List.length_drop];omega) (by omega) (by omega)).ent aEt⟩)
 try simp only [dN] at h3
 refine aS7 ?_
 try refine oWr ?_
 refine o_p (QI _ _ 0 (n + m) rfl rfl QX rfl ⟨_,_,rfl,(by omega)⟩ (by omega) (by omega)) rfl ?_
 refine Qz (show _ = Value.slice (some ⟨gg,0,none⟩) (n + m) cap from by rw [QaH] <;> (congr 1 <;> omega)) ?_
 refine o_ex (fun w h=>HS.blk_full (b:=gg) aPk h) fun ds=>?_
 refine Qg1 (fun w h=>h.1) fun hds=>?_
 refine Yj (fun w h=>h.2) ?_
 refine Qaq ?_
 try refine oWr ?_
 refine o_p (QI _ _ (i + m) (n + m) rfl rfl QX ⟨_,_,rfl,(by omega)⟩ rfl (by omega) (by omega)) rfl ?_
 refine Qz (show _ = Value.slice (some ⟨gg,(i + m) * 2,none⟩) (n - i) (cap - (i + m)) from by rw [Yk (by omega)] <;> (congr 1 <;> omega)) ?_
 refine o_q (Qe4 rfl Qsk rfl rfl QX (hp:=aPk) (hp':=aPk) (by decide) (by omega) (by omega)) rfl ?_
 refine aS2 ?_
 refine Qc rfl (fun h8=>?_) fun h8=>?_
 ·try simp only [Bool.not_false] at h8
  refine aS ?_
  refine Qm (L':=[(0,_),(1,_),(2,_),(6,_),(7,_),(8,_)]) aSx (fun _ h=>h) ?_
  refine QL [8] Q8 ?_
  refine dP 0 ?_
  refine dP 1 ?_
  refine dP 2 ?_
  refine dP 3 ?_
  try refine dWr ?_
  refine dV 4 rfl (QI _ _ (i + m) (n + m) rfl rfl QX ⟨_,_,rfl,(by omega)⟩ rfl (by omega) (by omega)) ?_
  refine QG (show _ = Value.slice (some ⟨gg,(i + m) * 2,none⟩) (n - i) (cap - (i + m)) from by rw [Yk (by omega)] <;> (congr 1 <;> omega)) ?_
  refine dP 5 ?_
  refine dP 6 ?_
  refine dV 7 rfl (QI _ _ i (n + m) rfl rfl QX ⟨_,_,rfl,rfl⟩ rfl (by omega) (by omega)) ?_
  refine QG (show _ = Value.slice (some ⟨gg,i * 2,none⟩) (n + m - i) (cap - i) from by rw [Yk (by omega)] <;> (congr 1 <;> omega)) ?_
  refine dH 8 rfl (Qa9 (n - i) (cut (xs ++ ds) (i * 2) ((n - i) * 2)) rfl rfl rfl QX aPt (by omega) (Xp _ _ _ (by simp only [QD,List.length_append,Ql];omega)) (fun _=>rfl) (by rw [Xp _ _ _ (by simp only [QD,List.length_append,Ql];omega)];simp only [QD,List.length_append,Ql];omega) (Zz (i * 2) ((n - i) * 2) (fun _=>rfl) aPk) (QkE hx1 (by omega))) (fun _ _=>?_)
  refine dTu [] ?_
  refine dNi ?_
  refine aS4 ?_
  refine o_p (QI _ _ i (n + m) rfl rfl QX ⟨_,_,rfl,rfl⟩ rfl (by omega) (by omega)) rfl ?_
  refine Qz (show _ = Value.slice (some ⟨gg,i * 2,none⟩) (n + m - i) (cap - i) from by rw [Yk (by omega)] <;> (congr 1 <;> omega)) ?_
  refine aS ?_
  refine o_h (Qa9 m news rfl rfl rfl QX aPt (by omega) hl (fun _=>rfl) (by simp only [QD,List.length_append,Ql];omega) (Xv aPk) hn1) rfl (fun _ _=>?_)
  refine aS6 ?_
  exact rT rfl rfl (fun w' h'=>⟨(some ⟨gg,0,none⟩,cap),rfl,trivial,(HS.to_own (n:=n + m) (xs:=xs.take (i * 2) ++ news ++ xs.drop (i * 2)) (ds:=ds.drop (m * 2)) aPk h' (by have hq:=Qpx (xs:=xs) (ds:=ds) (news:=news) (p:=i * 2) (q:=m * 2) (N:=n * 2) hxl (by omega) hl (by omega);rw [show (i + m) * 2 = i * 2 + m * 2 from by omega,show (n - i) * 2 = n * 2 - i * 2 from by omega];exact hq) (by simp only [List.length_append,List.length_take,List.length_drop];omega) (by omega) (by omega)).ent aEt⟩)
 try simp only [Bool.not_false] at h8
 exfalso;first | omega | (simp at h8;done) | (simp_all;done)
theorem c165 (w : World) (a : Option Addr) (i n m cap : Nat) (xs news : List Value) (b0 c0 tot2 : Nat) (hw : HS w (fps [.own (.slice a n cap) 27 2 n xs,.blk b0 27 tot2 news]) [.own (.slice a n cap) 27 2 n xs,.blk b0 27 tot2 news] w) (hm0 : 0 < m) (hl : news.length = m * 2) (hn1 : ∀ u ∈ news,u.oneCell' = true) (hx1 : ∀ u ∈ xs,u.oneCell' = true) (hmax : (n + m) * 32 ≤ 140737488355328) (hi : i ≤ n) : Calls Tryz.prog 165 #[.slice a n cap,.int .i64 i,.slice (some ⟨b0,0,none⟩) m c0] w fun en w'=>∃ g : Option Addr × Nat,en = .returned (.slice g.1 (n + m) g.2) ∧ True ∧ HS w (fps [.own (.slice a n cap) 27 2 n xs,.blk b0 27 tot2 news]) [.own (.slice g.1 (n + m) g.2) 27 2 (n + m) (xs.take (i * 2) ++ news ++ xs.drop (i * 2)),.blk b0 27 tot2 news] w':=by
  rcases Nat.lt_or_ge i n with h | h
  · obtain ⟨gg,rfl,_,hnc,hcm,hxl,hb⟩:=hw.own_blk (by omega) .here;exact Qvj w gg i n m cap xs news b0 c0 tot2 _ hb hnc hcm hxl hm0 hl hn1 hx1 hmax h
  · exact Qu2 w a i n m cap xs news b0 c0 tot2 hw hm0 hl hn1 hx1 hmax (by omega)
theorem QuC (w : World) (a : Option Addr) (i n m cap : Nat) (xs news : List Value) (b0 c0 tot2 : Nat) (hw : HS w (fps [.own (.slice a n cap) 3 1 n xs,.blk b0 3 tot2 news]) [.own (.slice a n cap) 3 1 n xs,.blk b0 3 tot2 news] w) (hm0 : 0 < m) (hl : news.length = m * 1) (hn1 : ∀ u ∈ news,u.oneCell' = true) (hx1 : ∀ u ∈ xs,u.oneCell' = true) (hmax : (n + m) * 8 ≤ 140737488355328) (hi : i = n) : Calls Tryz.prog 249 #[.slice a n cap,.int .i64 i,.slice (some ⟨b0,0,none⟩) m c0] w fun en w'=>∃ g : Option Addr × Nat,en = .returned (.slice g.1 (n + m) g.2) ∧ True ∧ HS w (fps [.own (.slice a n cap) 3 1 n xs,.blk b0 3 tot2 news]) [.own (.slice g.1 (n + m) g.2) 3 1 (n + m) (xs.take (i * 1) ++ news ++ xs.drop (i * 1)),.blk b0 3 tot2 news] w':=by
 obtain ⟨_,hnc,hcm,hxl⟩:=hw.own_facts .here
 refine enter (args:=[_,_,_]) Tryz.func249 Tryz.ntmps249 rfl rfl hw ?_
 refine aS8 ?_
 refine o_p (QI _ _ i n rfl rfl Q7 ⟨_,_,rfl,rfl⟩ rfl (by omega) (by omega)) rfl ?_
 iterate 13 refine aS ?_
 refine Qc rfl (fun h1=>?_) fun h1=>?_
 ·try simp only [dT] at h1
  exfalso;first | omega | (simp at h1;done) | (simp_all;done)
 try simp only [dN] at h1
 iterate 14 refine aS ?_
 refine Qc rfl (fun h2=>?_) fun h2=>?_
 ·try simp only [dT] at h2
  refine aS4 ?_
  refine o_h (XM news rfl rfl rfl Q7 Tryz.underlying28 Qet rfl aPk (Xv aPk) hl hn1 (by omega) (by simp only [maxLen];omega)) rfl (fun b3 _=>?_)
  refine aS2 ?_
  exact rT rfl rfl (fun w' h'=>⟨(_,_),rfl,trivial,by subst hi;rw [List.take_of_length_le (by omega),List.drop_eq_nil_of_le (by omega),List.append_nil];exact h'.ent aEt⟩)
 try simp only [dN] at h2
 exfalso;first | omega | (simp at h2;done) | (simp_all;done)
theorem QuS (w : World) (gg i n m cap : Nat) (xs news : List Value) (b0 c0 tot2 : Nat) (M : List Nat) (hw : HS w M [.blk gg 3 (cap * 1) xs,.blk b0 3 tot2 news] w) (hnc : n ≤ cap) (hcm : cap ≤ maxLen) (hxl : xs.length = n * 1) (hm0 : 0 < m) (hl : news.length = m * 1) (hn1 : ∀ u ∈ news,u.oneCell' = true) (hx1 : ∀ u ∈ xs,u.oneCell' = true) (hmax : (n + m) * 8 ≤ 140737488355328) (hi : i < n) : Calls Tryz.prog 249 #[.slice (some ⟨gg,0,none⟩) n cap,.int .i64 i,.slice (some ⟨b0,0,none⟩) m c0] w fun en w'=>∃ g : Option Addr × Nat,en = .returned (.slice g.1 (n + m) g.2) ∧ True ∧ HS w M [.own (.slice g.1 (n + m) g.2) 3 1 (n + m) (xs.take (i * 1) ++ news ++ xs.drop (i * 1)),.blk b0 3 tot2 news] w':=by
 have ht2:=(hw.blk_get (.there .here)).len_le
 have hcl : (cut xs 0 (i * 1)).length = i * 1:=Xp _ _ _ (by omega)
 refine enter (args:=[_,_,_]) Tryz.func249 Tryz.ntmps249 rfl rfl hw ?_
 refine aS8 ?_
 refine o_p (QI _ _ i n rfl rfl Q7 ⟨_,_,rfl,rfl⟩ rfl (by omega) (by omega)) rfl ?_
 iterate 13 refine aS ?_
 refine Qc rfl (fun h1=>?_) fun h1=>?_
 ·try simp only [dT] at h1
  exfalso;first | omega | (simp at h1;done) | (simp_all;done)
 try simp only [dN] at h1
 iterate 14 refine aS ?_
 refine Qc rfl (fun h2=>?_) fun h2=>?_
 ·try simp only [dT] at h2
  exfalso;first | omega | (simp at h2;done) | (simp_all;done)
 try simp only [dN] at h2
 refine aS7 ?_
 try refine oWr ?_
 refine aS ?_
 refine o_p (Qoz rfl rfl Tryz.underlying28) rfl ?_
 refine aS2 ?_
 refine Qc rfl (fun h3=>?_) fun h3=>?_
 ·try simp only [dT] at h3
  refine aS4 ?_
  refine o_p (QI _ _ 0 i rfl rfl Q7 rfl ⟨_,_,rfl,rfl⟩ (by omega) (by omega)) rfl ?_
  refine Qz (show _ = Value.slice (some ⟨gg,0,none⟩) (i) (cap) from by rw [QaH] <;> (congr 1 <;> omega)) ?_
  refine aS3 ?_
  try refine oWr ?_
  refine aS2 ?_
  try refine oWr ?_
  refine Qz (show _ = Value.int .i64 ((n + m - i : Nat) : Int) from by first | rfl | (congr 1 <;> first | rfl | omega)) ?_
  refine o_h (ZM (m:=n + m - i) (olds:=cut xs 0 (i * 1)) rfl rfl rfl Q7 Zo Qet rfl (by decide) (by omega) (by omega) (Zz 0 (i * 1) (fun _=>rfl) aPk) hcl (by omega) (by simp only [maxLen];omega)) rfl (fun ⟨b4,c5⟩ ⟨h6,k7⟩=>?_)
  refine Qz (show _ = Value.slice (some ⟨b4,0,none⟩) (n + m) c5 from by first | rfl | (congr 1 <;> first | rfl | omega)) ?_
  refine aS3 ?_
  refine Qm (L':=[(0,_),(1,_),(2,_),(6,_),(7,_),(8,_),(9,_)]) aSx (fun _ h=>h) ?_
  refine aS3 ?_
  refine o_p (QI _ _ i (n + m) rfl rfl Q7 ⟨_,_,rfl,rfl⟩ rfl (by omega) (by omega)) rfl ?_
  refine Qz (show _ = Value.slice (some ⟨b4,i * 1,none⟩) (n + m - i) (c5 - i) from by rw [Yk (by omega)] <;> (congr 1 <;> omega)) ?_
  refine aS ?_
  refine o_h (Qa9 m news rfl rfl rfl Q7 aPt (by omega) hl (fun _=>rfl) (by simp only [QD,List.length_append,Ql];omega) (Xv aPk) hn1) rfl (fun _ _=>?_)
  refine aS2 ?_
  refine QL [8] Q8 ?_
  refine dP 0 ?_
  refine dP 1 ?_
  refine dP 2 ?_
  refine dP 3 ?_
  try refine dWr ?_
  refine dV 4 rfl (QI _ _ (i + m) (n + m) rfl rfl Q7 ⟨_,_,rfl,(by omega)⟩ rfl (by omega) (by omega)) ?_
  refine QG (show _ = Value.slice (some ⟨b4,(i + m) * 1,none⟩) (n - i) (c5 - (i + m)) from by rw [Yk (by omega)] <;> (congr 1 <;> omega)) ?_
  refine dP 5 ?_
  refine dP 6 ?_
  refine dV 7 rfl (QI _ _ i n rfl rfl Q7 ⟨_,_,rfl,rfl⟩ rfl (by omega) (by omega)) ?_
  refine QG (show _ = Value.slice (some ⟨gg,i * 1,none⟩) (n - i) (cap - i) from by rw [Yk (by omega)] <;> (congr 1 <;> omega)) ?_
  refine dH 8 rfl (Qa9 (n - i) (cut xs (i * 1) ((n - i) * 1)) rfl rfl rfl Q7 aPt (by omega) (Xp _ _ _ (by omega)) (fun _=>rfl) (by rw [Xp _ _ _ (by omega)];simp only [QD,List.length_append,Ql];omega) (Zz (i * 1) ((n - i) * 1) (fun _=>rfl) aPk) (Qhh hx1 _ _)) (fun _ _=>?_)
  refine dTu [] ?_
  refine dNi ?_
  refine aS5 ?_
  exact rT rfl rfl (fun w' h'=>⟨(some ⟨b4,0,none⟩,c5),rfl,trivial,(HS.to_own (n:=n + m) (xs:=xs.take (i * 1) ++ news ++ xs.drop (i * 1)) (ds:=[]) aPk h' (by have hq:=QiW (xs:=xs) (news:=news) (z:=XB [.int .i64 0] ((n + m - i) * 1)) (p:=i * 1) (q:=m * 1) (N:=n * 1) hxl (by omega) hl (by rw [QD];omega);rw [List.append_nil];rw [show (i + m) * 1 = i * 1 + m * 1 from by omega,show (n - i) * 1 = n * 1 - i * 1 from by omega];exact hq) (by simp only [List.length_append,List.length_take,List.length_drop];omega) (by omega) (by omega)).ent aEt⟩)
 try simp only [dN] at h3
 refine aS7 ?_
 try refine oWr ?_
 refine o_p (QI _ _ 0 (n + m) rfl rfl Q7 rfl ⟨_,_,rfl,(by omega)⟩ (by omega) (by omega)) rfl ?_
 refine Qz (show _ = Value.slice (some ⟨gg,0,none⟩) (n + m) cap from by rw [QaH] <;> (congr 1 <;> omega)) ?_
 refine o_ex (fun w h=>HS.blk_full (b:=gg) aPk h) fun ds=>?_
 refine Qg1 (fun w h=>h.1) fun hds=>?_
 refine Yj (fun w h=>h.2) ?_
 refine Qaq ?_
 try refine oWr ?_
 refine o_p (QI _ _ (i + m) (n + m) rfl rfl Q7 ⟨_,_,rfl,(by omega)⟩ rfl (by omega) (by omega)) rfl ?_
 refine Qz (show _ = Value.slice (some ⟨gg,(i + m) * 1,none⟩) (n - i) (cap - (i + m)) from by rw [Yk (by omega)] <;> (congr 1 <;> omega)) ?_
 refine o_q (Qe4 rfl Qsi rfl rfl Q7 (hp:=aPk) (hp':=aPk) (by decide) (by omega) (by omega)) rfl ?_
 refine aS2 ?_
 refine Qc rfl (fun h8=>?_) fun h8=>?_
 ·try simp only [Bool.not_false] at h8
  refine aS ?_
  refine Qm (L':=[(0,_),(1,_),(2,_),(6,_),(7,_),(8,_)]) aSx (fun _ h=>h) ?_
  refine QL [8] Q8 ?_
  refine dP 0 ?_
  refine dP 1 ?_
  refine dP 2 ?_
  refine dP 3 ?_
  try refine dWr ?_
  refine dV 4 rfl (QI _ _ (i + m) (n + m) rfl rfl Q7 ⟨_,_,rfl,(by omega)⟩ rfl (by omega) (by omega)) ?_
  refine QG (show _ = Value.slice (some ⟨gg,(i + m) * 1,none⟩) (n - i) (cap - (i + m)) from by rw [Yk (by omega)] <;> (congr 1 <;> omega)) ?_
  refine dP 5 ?_
  refine dP 6 ?_
  refine dV 7 rfl (QI _ _ i (n + m) rfl rfl Q7 ⟨_,_,rfl,rfl⟩ rfl (by omega) (by omega)) ?_
  refine QG (show _ = Value.slice (some ⟨gg,i * 1,none⟩) (n + m - i) (cap - i) from by rw [Yk (by omega)] <;> (congr 1 <;> omega)) ?_
  refine dH 8 rfl (Qa9 (n - i) (cut (xs ++ ds) (i * 1) ((n - i) * 1)) rfl rfl rfl Q7 aPt (by omega) (Xp _ _ _ (by simp only [QD,List.length_append,Ql];omega)) (fun _=>rfl) (by rw [Xp _ _ _ (by simp only [QD,List.length_append,Ql];omega)];simp only [QD,List.length_append,Ql];omega) (Zz (i * 1) ((n - i) * 1) (fun _=>rfl) aPk) (QkE hx1 (by omega))) (fun _ _=>?_)
  refine dTu [] ?_
  refine dNi ?_
  refine aS4 ?_
  refine o_p (QI _ _ i (n + m) rfl rfl Q7 ⟨_,_,rfl,rfl⟩ rfl (by omega) (by omega)) rfl ?_
  refine Qz (show _ = Value.slice (some ⟨gg,i * 1,none⟩) (n + m - i) (cap - i) from by rw [Yk (by omega)] <;> (congr 1 <;> omega)) ?_
  refine aS ?_
  refine o_h (Qa9 m news rfl rfl rfl Q7 aPt (by omega) hl (fun _=>rfl) (by simp only [QD,List.length_append,Ql];omega) (Xv aPk) hn1) rfl (fun _ _=>?_)
  refine aS6 ?_
  exact rT rfl rfl (fun w' h'=>⟨(some ⟨gg,0,none⟩,cap),rfl,trivial,(HS.to_own (n:=n + m) (xs:=xs.take (i * 1) ++ news ++ xs.drop (i * 1)) (ds:=ds.drop (m * 1)) aPk h' (by have hq:=Qpx (xs:=xs) (ds:=ds) (news:=news) (p:=i * 1) (q:=m * 1) (N:=n * 1) hxl (by omega) hl (by omega);rw [show (i + m) * 1 = i * 1 + m * 1 from by omega,show (n - i) * 1 = n * 1 - i * 1 from by omega];exact hq) (by simp only [List.length_append,List.length_take,List.length_drop];omega) (by omega) (by omega)).ent aEt⟩)
 try simp only [Bool.not_false] at h8
 exfalso;first | omega | (simp at h8;done) | (simp_all;done)
theorem c249 (w : World) (a : Option Addr) (i n m cap : Nat) (xs news : List Value) (b0 c0 tot2 : Nat) (hw : HS w (fps [.own (.slice a n cap) 3 1 n xs,.blk b0 3 tot2 news]) [.own (.slice a n cap) 3 1 n xs,.blk b0 3 tot2 news] w) (hm0 : 0 < m) (hl : news.length = m * 1) (hn1 : ∀ u ∈ news,u.oneCell' = true) (hx1 : ∀ u ∈ xs,u.oneCell' = true) (hmax : (n + m) * 8 ≤ 140737488355328) (hi : i ≤ n) : Calls Tryz.prog 249 #[.slice a n cap,.int .i64 i,.slice (some ⟨b0,0,none⟩) m c0] w fun en w'=>∃ g : Option Addr × Nat,en = .returned (.slice g.1 (n + m) g.2) ∧ True ∧ HS w (fps [.own (.slice a n cap) 3 1 n xs,.blk b0 3 tot2 news]) [.own (.slice g.1 (n + m) g.2) 3 1 (n + m) (xs.take (i * 1) ++ news ++ xs.drop (i * 1)),.blk b0 3 tot2 news] w':=by
  rcases Nat.lt_or_ge i n with h | h
  · obtain ⟨gg,rfl,_,hnc,hcm,hxl,hb⟩:=hw.own_blk (by omega) .here;exact QuS w gg i n m cap xs news b0 c0 tot2 _ hb hnc hcm hxl hm0 hl hn1 hx1 hmax h
  · exact QuC w a i n m cap xs news b0 c0 tot2 hw hm0 hl hn1 hx1 hmax (by omega)
end Go.Proofs
namespace Gx
open Go Go.RowKit
def Qf9 (cap : Nat) (l : List UInt8) : List Value:=l.map bv ++ List.replicate (cap - l.length) (bv 0)
def QuU (a : Option Addr) (cap : Nat) (l : List UInt8) (w : World) : Prop:=
 (a = none ∧ cap = 0 ∧ l = []) ∨ ∃ g,a = some ⟨g,0,none⟩ ∧ l.length ≤ cap ∧ cap ≤ maxLen ∧ QU g u8T cap (Qf9 cap l) w
theorem Qiv {cap : Nat} {l : List UInt8} (h : l.length ≤ cap) : (Qf9 cap l).length = cap:=by
 simp only [Qf9,List.length_append,List.length_map,List.length_replicate];omega
def HA.byz (a : Option Addr) (cap : Nat) (l : List UInt8) : HA:=⟨(Value.slice a l.length cap).ownBlock.toList,QuU a cap l,fun w w' h ha=>by
  obtain ⟨h1,h2,h3⟩ | ⟨g,rfl,h2,h3,hb⟩:=ha
  ·exact .inl ⟨h1,h2,h3⟩
  ·exact .inr ⟨g,rfl,h2,h3,QU.loc (h g (by simp [Value.ownBlock])) hb⟩⟩
theorem HA.fp_byz (a : Option Addr) (cap : Nat) (l : List UInt8) : (HA.byz a cap l).fp = (Value.slice a l.length cap).ownBlock.toList:=rfl
def QbD (a : Option Addr) (cap : Nat) (g : Option Addr × Nat) (n : Nat) : Prop:=n ≤ cap → g.1 = a ∧ g.2 = cap
theorem QbD.trans {a : Option Addr} {cap : Nat} {g g' : Option Addr × Nat} {n m : Nat} (h : QbD a cap g n) (h' : QbD g.1 g.2 g' m) (hle : n ≤ m) : QbD a cap g' m:=fun hm=>by
 obtain ⟨e1,e2⟩:=h (Nat.le_trans hle hm);obtain ⟨e3,e4⟩:=h' (by rw [e2];exact hm);exact ⟨e3.trans e1,e4.trans e2⟩
section
variable {w0 w : World} {M : List Nat} {As As' : List HA}
theorem HS.byz_nil (h : HS w0 M As w) : HS w0 M (.byz none 0 [] :: As) w:=
 ⟨h.os,h.tape,h.output,h.size,h.old,fun A hA=>by
  rcases List.mem_cons.1 hA with rfl | hA
  ·exact .inl ⟨rfl,rfl,rfl⟩
  ·exact h.ok A hA,fun A hA b hb=>by
  rcases List.mem_cons.1 hA with rfl | hA
  ·simp [HA.fp_byz,Value.ownBlock] at hb
  ·exact h.lt A hA b hb,.cons (fun B _ b hb=>by simp [HA.fp_byz,Value.ownBlock] at hb) h.sep⟩
theorem HS.byz_blk {g cap : Nat} {l : List UInt8} {cs : List Value} (hp : QN As (.blk g u8T cap cs) As') (h : HS w0 M As w) (hl : l.length ≤ cap) (hc : cap ≤ maxLen) (hcs : cs = Qf9 cap l) : HS w0 M (.byz (some ⟨g,0,none⟩) cap l :: As') w:=by
 subst hcs;exact (h.pick hp).turn (fun b hb=>by simpa [HA.fp_byz,HA.fp_blk,Value.ownBlock] using hb) fun hb=>.inr ⟨g,rfl,hl,hc,hb⟩
theorem HS.byz_own {a : Option Addr} {cap : Nat} {l : List UInt8} (hp : QN As (.byz a cap l) As') (h : HS w0 M As w) : HS w0 M (.own (.slice a l.length cap) u8T 1 l.length (l.map bv) :: As') w:=by
 have h1:=h.pick hp;refine h1.turn (fun b hb=>hb) fun ho=>⟨by simp,?_⟩;rcases ho with ⟨rfl,rfl,rfl⟩ | ⟨g,rfl,h2,h3,hb⟩
 ·exact .inl ⟨rfl,rfl⟩
 ·refine .inr ⟨g,cap,rfl,h2,h3,?_⟩;rw [Nat.mul_one];exact hb.less
theorem HS.vl_byz {a : Option Addr} {cap : Nat} {l : List UInt8} (h : HS w0 M As w) (hp : QN As (.byz a cap l) As') : Vl w a (l.map bv):=(h.byz_own hp).vl_own .here
end
theorem Qeh (A : List Value) : ∀ (vs B : List Value),vs.length ≤ B.length → Qi (A ++ B) A.length vs = A ++ (vs ++ B.drop vs.length)
 | [],B,_=>by simp [Qi]
 | v :: vs,[],h=>by simp at h
 | v :: vs,b :: B,h=>by
  rw [Qi,List.set_append_right _ _ (Nat.le_refl _),Nat.sub_self,List.set_cons_zero,show A ++ v :: B = (A ++ [v]) ++ B by simp,show A.length + 1 = (A ++ [v]).length by simp,Qeh (A ++ [v]) vs B (by simpa using h)];simp
theorem Qqp {cap : Nat} {l m : List UInt8} (h : (l ++ m).length ≤ cap) : Qi (Qf9 cap l) l.length (m.map bv) = Qf9 cap (l ++ m):=by
 rw [List.length_append] at h;unfold Qf9;have e:=Qeh (l.map bv) (m.map bv) (List.replicate (cap - l.length) (bv 0)) (by simp;omega);rw [List.length_map] at e;rw [e,List.map_append,List.append_assoc];congr 2;simp only [List.length_map,List.drop_replicate,List.length_append];congr 1;omega
theorem Qie (n : Nat) : Builtin.zeroCells #[Value.int .u8 0] n = (List.replicate n (bv 0)).toArray:=by
 rw [ZK,show (#[Value.int .u8 0]).toList = [bv 0] from rfl,Qdw];simp
theorem Qq6 (l : List UInt8) : ∀ u ∈ l.map bv,u.oneCell' = true:=fun u hu=>by
 obtain ⟨b,_,rfl⟩:=List.mem_map.1 hu;rfl
theorem Qfb {P : Program} {t xt ty by' : Nat} {a : Option Addr} {cap : Nat} {x : Value} {l m : List UInt8} {w w0 : World} {M : List Nat} {As As' : List HA} (ht : tsl P t = some (u8T,1,by')) (hxt : P.underlying xt = some .string ∨ ∃ e',P.underlying xt = some (.slice e')) (hz : QO P u8T = some [.int .u8 0])
  (hw : HS w0 M As w) (hp : QN As (.byz a cap l) As') (hlen : (Builtin.lenOf x).run P w = .ok m.length w) (hfc : (Builtin.firstCells 1 m.length x).run P w = .ok (m.map bv).toArray w) (hfc' : (Builtin.firstCells 1 m.length x).run P w.drew = .ok (m.map bv).toArray w.drew)
  (hroom : (l.length + m.length) * by' ≤ 140737488355328) (hmax : l.length + m.length ≤ maxLen) :
  ∃ a' cap' w',(Builtin.append_ #[t,xt] ty #[.slice a l.length cap,x]).run P w = .ok (.slice a' (l ++ m).length cap') w' ∧ QbD a cap (a',cap') (l ++ m).length ∧ HS w0 M (.byz a' cap' (l ++ m) :: As') w':=by
 obtain ⟨hu,inf,hi,hs1,hs2⟩:=Xa ht;obtain ⟨inf',zv,h4,h5,h6⟩:=Yo hz;rw [hi] at h4;injection h4 with h4
 subst h4;subst hs2;have hzv : zv.cells = #[Value.int .u8 0]:=Array.ext' (by rw [h6]);have hpk:=hw.pick hp;have hlm : (l ++ m).length = l.length + m.length:=List.length_append;have hmx : ((l.length + m.length : Nat) : Int) ≤ 9223372036854775807:=by simp only [maxLen] at hmax;omega
 rw [← hs1] at hfc hfc'
 have grow : cap < l.length + m.length → (Builtin.firstCells inf.size l.length (.slice a l.length cap)).run P w.drew = .ok (l.map bv).toArray w.drew →
   ∃ a' cap' w',(Builtin.append_ #[t,xt] ty #[.slice a l.length cap,x]).run P w = .ok (.slice a' (l ++ m).length cap') w' ∧ QbD a cap (a',cap') (l ++ m).length ∧ HS w0 M (.byz a' cap' (l ++ m) :: As') w':=by
  intro hcap hold;have hfit:=growslice_fits hcap hroom;have hge:=grownCap_ge w (l.length + m.length) cap u8T;have hle:=grownCap_le_maxLen w (l.length + m.length) cap u8T hmax;refine ⟨some ⟨w.heap.size,0,none⟩,grownCap w (l.length + m.length) cap u8T,w.drew.alloc (.cells ((l.map bv).toArray ++ (m.map bv).toArray ++ Builtin.zeroCells zv.cells (grownCap w (l.length + m.length) cap u8T - (l.length + m.length))) u8T),?_,fun h=>by omega,?_⟩
  ·rw [hlm];exact QiE hu hxt hi h5 hlen hfc' hold hcap hmx hfit
  ·generalize grownCap w (l.length + m.length) cap u8T = N at *;refine ((hw.drew.pick hp).tail).alloc _ _ rfl (.inr ⟨_,rfl,by omega,hle,_,_,heap_alloc_new _ _,?_,?_,fun i hi=>?_,Nat.le_refl _,fun _ _ h=>absurd h (Nat.not_lt_zero _)⟩)
   ·rw [hzv,Qie];simp only [Array.size_append,List.size_toArray,List.length_map,List.length_replicate];omega
   ·rw [Qiv (by omega)];exact Nat.le_refl _
   ·rw [hzv,Qie]
    have : Qf9 N (l ++ m) = l.map bv ++ m.map bv ++ List.replicate (N - (l.length + m.length)) (bv 0):=by
     unfold Qf9;rw [List.map_append,hlm]
    rw [this,← Array.getElem?_toList];simp only [Array.toList_append,List.append_assoc]
 rcases hpk.head with ⟨rfl,rfl,rfl⟩ | ⟨g,rfl,h2,h3,hb⟩
 ·rcases Nat.eq_zero_or_pos m.length with hm | hm
  ·have hm0 : m = []:=List.eq_nil_of_length_eq_zero hm;subst hm0;exact ⟨none,0,w,QeQ hu hxt hi hlen (by simpa using hfc),fun _=>⟨rfl,rfl⟩,hpk⟩
  ·exact grow (by simp only [List.length_nil];omega) (by simp [Builtin.firstCells])
 ·by_cases hr : l.length + m.length ≤ cap
  ·obtain ⟨w',hst,hb',r1,r2,r3,r4,r5⟩:=XE (P:=P) (b:=g) (i:=l.length) (m.map bv) 0 (Qf9 cap l) w hb (by rw [Qiv h2,List.length_map];omega) (Qq6 m);refine ⟨some ⟨g,0,none⟩,cap,w',?_,fun _=>⟨rfl,rfl⟩,HS.swap hpk (B:=.byz (some ⟨g,0,none⟩) cap (l ++ m)) (fun _ h=>h) r1 r2 r3 r4 (fun k hk=>r5 k (by simpa [HA.fp_byz,Value.ownBlock] using hk)) (.inr ⟨g,rfl,by omega,h3,?_⟩)⟩
   ·rw [hlm];exact QeW hu hxt hi hlen hfc (by rw [hs1,Nat.mul_one,Xu,Nat.zero_add];exact hst) hr
   ·rw [Nat.add_zero,Qqp (by omega)] at hb';exact hb'
  ·refine grow (by omega) ?_;rw [hs1]
   exact XF (w:=w.drew) (by simp) fun _=>⟨g,0,rfl,fun j u hu=>by
    have hc:=hb.less.cell hu
    simpa using hc⟩
section
variable {P : Program} {o : Oper} {L : Qd} {w0 : World} {M : List Nat} {As As' : List HA}
theorem ZE {t xt e' by' c cap : Nat} {a b : Option Addr} {s x : Operand} {l : List UInt8} (m : List UInt8) (ho : o.op = .call { callee:=.builtin .append,args:=#[s,x],argTypes:=#[t,xt] }) (hs : ev L s = some (.slice a l.length cap)) (hx : ev L x = some (.slice b m.length c)) (ht : tsl P t = some (u8T,1,by')) (hxt : P.underlying xt = some (.slice e')) (hz : QO P u8T = some [.int .u8 0])
  (hp : QN As (.byz a cap l) As') (hsrc : ∀ w,HS w0 M As w → Src b (m.map bv) w) (hroom : (l.length + m.length) * by' ≤ 140737488355328) (hmax : l.length + m.length ≤ maxLen) :
  OpH P o L (HS w0 M As) (fun g : Option Addr × Nat=>.slice g.1 (l ++ m).length g.2) (fun g=>QbD a cap g (l ++ m).length) (fun g=>HS w0 M (.byz g.1 g.2 (l ++ m) :: As')):=by
 intro ρ w hρ hw;obtain ⟨a',cap',w',hr,hk,hw'⟩:=Qfb (P:=P) (ty:=o.type) ht (.inr ⟨e',hxt⟩) hz hw hp (x:=.slice b m.length c) rfl (XF (by simp) (hsrc w hw)) (XF (w:=w.drew) (by simp) (hsrc w hw)) hroom hmax;simp only [execOp,ho,resolve,Sem.run_bind,Sem.run_pure,Result.andThen_ok,invoke,builtin,List.map_toArray,List.map_cons,List.map_nil,hρ _ _ hs,hρ _ _ hx,hr];exact ⟨(a',cap'),rfl,hk,hw'⟩
theorem Qct {t xt by' cap : Nat} {a : Option Addr} {s x : Operand} {l m : List UInt8} (ho : o.op = .call { callee:=.builtin .append,args:=#[s,x],argTypes:=#[t,xt] }) (hs : ev L s = some (.slice a l.length cap)) (hx : ev L x = some (.string (bs m))) (ht : tsl P t = some (u8T,1,by')) (hxt : P.underlying xt = some .string) (hz : QO P u8T = some [.int .u8 0])
  (hp : QN As (.byz a cap l) As') (hroom : (l.length + m.length) * by' ≤ 140737488355328) (hmax : l.length + m.length ≤ maxLen) :
  OpH P o L (HS w0 M As) (fun g : Option Addr × Nat=>.slice g.1 (l ++ m).length g.2) (fun g=>QbD a cap g (l ++ m).length) (fun g=>HS w0 M (.byz g.1 g.2 (l ++ m) :: As')):=by
 intro ρ w hρ hw
 have hfc : ∀ w,(Builtin.firstCells 1 m.length (.string (bs m))).run P w = .ok (m.map bv).toArray w:=fun w=>by
  have hx : (bs m).extract 0 m.length = bs m:=(Qif _).trans (congrArg bs (by rw [Lib.extract_data];simp));simp only [Builtin.firstCells,hx,Sem.run_pure];congr 1;simp [bs,bv]
 obtain ⟨a',cap',w',hr,hk,hw'⟩:=Qfb (P:=P) (ty:=o.type) ht (.inl hxt) hz hw hp (x:=.string (bs m)) rfl (hfc _) (hfc _) hroom hmax;simp only [execOp,ho,resolve,Sem.run_bind,Sem.run_pure,Result.andThen_ok,invoke,builtin,List.map_toArray,List.map_cons,List.map_nil,hρ _ _ hs,hρ _ _ hx,hr];exact ⟨(a',cap'),rfl,hk,hw'⟩
end
end Gx
namespace Gx
open Go Go.RowKit
def ub1 (s : List UInt8) (i : Nat) : Nat:=(s.getD i 0).toNat
def ub2 (s : List UInt8) (i : Nat) : Nat:=ub1 s i + ub1 s (i + 1) * 256
def ub4 (s : List UInt8) (i : Nat) : Nat:=ub2 s i + ub2 s (i + 2) * 65536
theorem QkX (s : List UInt8) (i : Nat) : at1 s i = (ub1 s i : Int):=rfl
theorem Qib (s : List UInt8) (i : Nat) : at2 s i = (ub2 s i : Int):=by simp only [at2,ub2,QkX];omega
theorem QkF (s : List UInt8) (i : Nat) : at4 s i = (ub4 s i : Int):=by simp only [at4,ub4,Qib];omega
theorem YB (s : List UInt8) (i : Nat) : ub1 s i < 256:=UInt8.toNat_lt _
theorem QhU (s : List UInt8) (i : Nat) : ub2 s i < 65536:=by have:=YB s i;have:=YB s (i + 1);unfold ub2;omega
theorem QrW (s : List UInt8) (i : Nat) : ub4 s i < 4294967296:=by have:=QhU s i;have:=QhU s (i + 2);unfold ub4;omega
theorem Qkr (s : List UInt8) (k i : Nat) : ub1 (s.drop k) i = ub1 s (k + i):=by
 simp only [ub1,List.getD_eq_getElem?_getD,List.getElem?_drop]
def QJ (n : Nat) : Nat:=(n + 7) / 8 * 8
theorem YF (n : Nat) : n ≤ QJ n ∧ QJ n < n + 8:=by unfold QJ;omega
def QH (s : List UInt8) (i n : Nat) : List UInt8:=(s.drop i).take n
theorem Zd {s : List UInt8} {i n : Nat} (h : i + n ≤ s.length) : (QH s i n).length = n:=by simp only [QH,List.length_take,List.length_drop];omega
theorem QdL (s : List UInt8) (k i n : Nat) : QH (s.drop k) i n = QH s (k + i) n:=by simp only [QH,List.drop_drop]
theorem Qne {s : List UInt8} {i n j : Nat} (h : j < n) : (QH s i n)[j]? = s[i + j]?:=by simp only [QH,List.getElem?_take,h,if_true,List.getElem?_drop]
theorem Yd (s : List UInt8) (i n m : Nat) : QH s i (n + m) = QH s i n ++ QH s (i + n) m:=by
 simp only [QH,List.take_add,List.drop_drop]
def zer (l : List UInt8) : Bool:=l.all fun b=>decide (b = 0)
theorem Qlk (l : List UInt8) : zer l = true ↔ l = List.replicate l.length 0:=by
 simp only [zer,List.all_eq_true,decide_eq_true_eq];constructor
 ·intro h;exact List.eq_replicate_iff.2 ⟨rfl,h⟩
 ·intro h b hb;exact List.eq_of_mem_replicate (h ▸ hb)
theorem Qls (n : Nat) : zer (List.replicate n 0) = true:=by rw [Qlk];simp
def TEnt.sz (x : TEnt) : Nat:=8 + x.key.length + x.val.length
def XN (x : TEnt) (c : Int) : List UInt8:=le2 (QJ x.sz : Nat) ++ [by8 x.key.length,by8 x.val.length] ++ le4 c ++ x.key ++ x.val ++ List.replicate (QJ x.sz - x.sz) 0
def Qak (c : Int) : List UInt8:=le2 8 ++ [0,0] ++ le4 c
theorem Qc2 (x : TEnt) (c : Int) : (XN x c).length = QJ x.sz:=by
 have:=YF x.sz;have h : x.sz = 8 + x.key.length + x.val.length:=rfl;simp only [XN,List.length_append,List.length_replicate,le2,le4,List.length_cons,List.length_nil];omega
theorem QaG (c : Int) : (Qak c).length = 8:=rfl
theorem Qg7 (s : List UInt8) (i : Nat) : by8 (ub1 s i : Int) = s.getD i 0:=by
 have:=YB s i;unfold by8;rw [show ((ub1 s i : Int) % 256).toNat = (s.getD i 0).toNat by unfold ub1 at *;omega];simp
theorem QtW (s : List UInt8) (i : Nat) : le2 (ub2 s i : Int) = [s.getD i 0,s.getD (i + 1) 0]:=by
 have h1:=YB s i;have h2:=YB s (i + 1);simp only [le2];rw [Qbg (m:=(ub2 s i : Int)) (n:=(ub1 s i : Int)) (by unfold ub2;omega),Qbg (m:=(ub2 s i : Int) / 256) (n:=(ub1 s (i + 1) : Int)) (by unfold ub2;omega),Qg7,Qg7]
theorem Qts (s : List UInt8) (i : Nat) : le4 (ub4 s i : Int) = [s.getD i 0,s.getD (i + 1) 0,s.getD (i + 2) 0,s.getD (i + 3) 0]:=by
 have h1:=YB s i;have h2:=YB s (i + 1);have h3:=YB s (i + 2);have h4:=YB s (i + 3);have e : ub4 s i = ub1 s i + ub1 s (i + 1) * 256 + (ub1 s (i + 2) + ub1 s (i + 3) * 256) * 65536:=rfl;simp only [le4];rw [Qbg (m:=(ub4 s i : Int)) (n:=(ub1 s i : Int)) (by omega),Qbg (m:=(ub4 s i : Int) / 256) (n:=(ub1 s (i + 1) : Int)) (by omega),Qbg (m:=(ub4 s i : Int) / 65536) (n:=(ub1 s (i + 2) : Int)) (by omega),Qbg (m:=(ub4 s i : Int) / 16777216) (n:=(ub1 s (i + 3) : Int)) (by omega)];simp only [Qg7]
theorem YK {s : List UInt8} {i n : Nat} (h : i < s.length) : QH s i (n + 1) = s.getD i 0 :: QH s (i + 1) n:=by
 simp only [QH];rw [List.drop_eq_getElem_cons h,List.take_succ_cons,List.getD_eq_getElem?_getD,List.getElem?_eq_getElem h];rfl
theorem Qcd (s : List UInt8) (i : Nat) : QH s i 0 = []:=by simp [QH]
theorem QjL {s : List UInt8} {i : Nat} (h : i + 2 ≤ s.length) : QH s i 2 = le2 (ub2 s i : Int):=by
 rw [QtW,YK (by omega),YK (by omega),Qcd]
theorem QmV {s : List UInt8} {i : Nat} (h : i + 4 ≤ s.length) : QH s i 4 = le4 (ub4 s i : Int):=by
 rw [Qts,YK (by omega),YK (by omega),YK (by omega),YK (by omega),Qcd]
theorem QkU {a b : Int} (h : by8 a = by8 b) : a % 256 = b % 256:=by
 have:=congrArg (fun x : UInt8=>(x.toNat : Int)) h
 simpa only [Q9] using this
theorem QqV {a b : Int} (h : le2 a = le2 b) : a % 65536 = b % 65536:=by
 simp only [le2,List.cons.injEq,and_true] at h;have h1:=QkU h.1;have h2:=QkU h.2;omega
def Q0 (s : List UInt8) (p : Nat) : TEnt:=⟨QH s (p + 8) (ub1 s (p + 2)),QH s (p + 8 + ub1 s (p + 2)) (ub1 s (p + 3))⟩
def Q2 (s : List UInt8) (p : Nat) : Nat:=8 + ub1 s (p + 2) + ub1 s (p + 3)
def XZ (x : TEnt) (c : Nat) : Bool:=decide (1 ≤ x.key.length ∧ x.key.length ≤ 40 ∧ x.val.length ≤ 64 ∧ x.key.length + x.val.length ≤ 88 ∧ c ≤ 120)
def YR (s : List UInt8) (p : Nat) : Bool:=decide (p + 8 ≤ s.length ∧ ub2 s p = QJ (Q2 s p) ∧ p + ub2 s p ≤ s.length) && (zer (QH s (p + Q2 s p) (ub2 s p - Q2 s p)) && XZ (Q0 s p) (ub4 s (p + 4)))
theorem Qdb {s : List UInt8} {p : Nat} (h : p + Q2 s p ≤ s.length) : (Q0 s p).sz = Q2 s p ∧ (Q0 s p).key.length = ub1 s (p + 2) ∧ (Q0 s p).val.length = ub1 s (p + 3):=by
 unfold Q2 at h;have h1 : (Q0 s p).key.length = ub1 s (p + 2):=Zd (by omega);have h2 : (Q0 s p).val.length = ub1 s (p + 3):=Zd (by omega);exact ⟨by unfold TEnt.sz Q2;rw [h1,h2],h1,h2⟩
theorem QqW {s : List UInt8} {p : Nat} (h : p + Q2 s p ≤ s.length) : QH s p (Q2 s p) = le2 (ub2 s p : Int) ++ [by8 (ub1 s (p + 2) : Int),by8 (ub1 s (p + 3) : Int)] ++ le4 (ub4 s (p + 4) : Int) ++ (Q0 s p).key ++ (Q0 s p).val:=by
 have h9 : Q2 s p = 2 + (1 + (1 + (4 + (ub1 s (p + 2) + ub1 s (p + 3))))):=by unfold Q2;omega
 unfold Q2 at h;rw [h9,Yd,QjL (by omega),Yd,show (1 : Nat) = 0 + 1 from rfl,YK (by omega),Qcd,Yd,show (1 : Nat) = 0 + 1 from rfl,YK (by omega),Qcd,Yd,QmV (by omega),Yd];simp only [Qg7,Q0,List.append_assoc,List.cons_append,List.nil_append,Nat.zero_add,Nat.add_assoc,Nat.reduceAdd]
theorem Qkl {s : List UInt8} {p : Nat} (hn : p + ub2 s p ≤ s.length) (ht : Q2 s p ≤ ub2 s p) : (XN (Q0 s p) (ub4 s (p + 4) : Int) = QH s p (ub2 s p)) ↔ (ub2 s p = QJ (Q2 s p) ∧ zer (QH s (p + Q2 s p) (ub2 s p - Q2 s p)) = true):=by
 obtain ⟨e1,e2,e3⟩:=Qdb (s:=s) (p:=p) (by omega);have hh:=QqW (s:=s) (p:=p) (by omega);have hlt:=QhU s p;have hk:=YB s (p + 2);have hv:=YB s (p + 3);have hp:=YF (Q2 s p);have hs : Q2 s p = 8 + ub1 s (p + 2) + ub1 s (p + 3):=rfl;have hsplit : QH s p (ub2 s p) = QH s p (Q2 s p) ++ QH s (p + Q2 s p) (ub2 s p - Q2 s p):=by rw [← Yd];congr 1;omega
 have hlen : (QH s (p + Q2 s p) (ub2 s p - Q2 s p)).length = ub2 s p - Q2 s p:=Zd (by omega)
 have hE : XN (Q0 s p) (ub4 s (p + 4) : Int) = le2 (QJ (Q2 s p) : Nat) ++ ([by8 (ub1 s (p + 2) : Int),by8 (ub1 s (p + 3) : Int)] ++ le4 (ub4 s (p + 4) : Int) ++ (Q0 s p).key ++ (Q0 s p).val ++ List.replicate (QJ (Q2 s p) - Q2 s p) 0):=by
  simp only [XN,e1,e2,e3,List.append_assoc]
 have hS : QH s p (ub2 s p) = le2 (ub2 s p : Nat) ++ ([by8 (ub1 s (p + 2) : Int),by8 (ub1 s (p + 3) : Int)] ++ le4 (ub4 s (p + 4) : Int) ++ (Q0 s p).key ++ (Q0 s p).val ++ QH s (p + Q2 s p) (ub2 s p - Q2 s p)):=by
  rw [hsplit,hh];simp only [List.append_assoc]
 constructor
 ·intro h;rw [hE,hS] at h;obtain ⟨h1,h2⟩:=List.append_inj h rfl;have h3:=QqV h1;have h4 : ub2 s p = QJ (Q2 s p):=by omega
  refine ⟨h4,?_⟩;have h5:=List.append_cancel_left h2;rw [← h5];exact Qls _
 ·rintro ⟨h1,h2⟩;rw [hE,hS,← h1];rw [Qlk,hlen] at h2;rw [h2]
theorem Qk5 {s : List UInt8} {p : Nat} (h8 : p + 8 ≤ s.length) (hn : p + ub2 s p ≤ s.length) (ht : Q2 s p ≤ ub2 s p) : (Qak (ub4 s (p + 4) : Int) = QH s p (ub2 s p)) ↔ (ub2 s p = 8 ∧ ub2 s (p + 2) = 0):=by
 have hs : Q2 s p = 8 + ub1 s (p + 2) + ub1 s (p + 3):=rfl;have hd : ub2 s (p + 2) = ub1 s (p + 2) + ub1 s (p + 3) * 256:=rfl
 have h4 : QH s p 8 = le2 (ub2 s p : Int) ++ (le2 (ub2 s (p + 2) : Int) ++ le4 (ub4 s (p + 4) : Int)):=by
  rw [show 8 = 2 + (2 + 4) from rfl,Yd,QjL (by omega),Yd,QjL (by omega),QmV (by omega)]
 constructor
 ·intro h;have hl:=congrArg List.length h;rw [QaG,Zd hn] at hl;exact ⟨hl.symm,by omega⟩
 ·rintro ⟨h1,h2⟩;rw [h1,h4,h1,h2];rfl
structure RdS where
 es : List TEnt
 cs : List Int
 p : Nat
def rdE (s : List UInt8) (p0 : Nat) : Nat → Option RdS
 | 0=>some ⟨[],[],p0⟩
 | k + 1=>match rdE s p0 k with
  | none=>none
  | some r=>if YR s r.p then some ⟨r.es ++ [Q0 s r.p],r.cs ++ [(ub4 s (r.p + 4) : Int)],r.p + ub2 s r.p⟩ else none
def YD (s : List UInt8) (p : Nat) : Bool:=decide (p + 8 ≤ s.length ∧ ub2 s p = 8 ∧ ub2 s (p + 2) = 0 ∧ ub4 s (p + 4) ≤ 120)
def noz (l : List Int) : Bool:=l.all fun c=>decide (c ≠ 0)
def QcG (l : List Int) : Bool:=l.all fun c=>decide (c = 0)
def rdN (s : List UInt8) (p0 k : Nat) : Option (Nd × Nat):=match rdE s p0 k with
 | none=>none
 | some r=>if YD s r.p then (if noz (r.cs ++ [(ub4 s (r.p + 4) : Int)]) then some (⟨true,r.es,r.cs ++ [(ub4 s (r.p + 4) : Int)]⟩,r.p + 8) else if QcG (r.cs ++ [(ub4 s (r.p + 4) : Int)]) then some (⟨true,r.es,[]⟩,r.p + 8) else none) else none
theorem QoI {s : List UInt8} {p0 k : Nat} (h : rdE s p0 k = none) : ∀ j,k ≤ j → rdE s p0 j = none:=by
 intro j hj
 induction j with
 | zero=>
  obtain rfl : k = 0:=by omega
  exact h
 | succ j ih=>
  rcases Nat.lt_or_ge j k with h1 | h1
  ·obtain rfl : k = j + 1:=by omega
   exact h
  ·simp only [rdE,ih h1]
theorem Qt8 {s : List UInt8} {p0 k j : Nat} {r : RdS} (h : rdE s p0 k = some r) (hs : YR s r.p = false) (hj : k < j) : rdE s p0 j = none:=
 QoI (k:=k + 1) (by simp only [rdE,h,hs];rfl) j hj
theorem QbI {s : List UInt8} {p0 k : Nat} {r : RdS} (h : rdE s p0 k = some r) (hs : YR s r.p = true) : rdE s p0 (k + 1) = some ⟨r.es ++ [Q0 s r.p],r.cs ++ [(ub4 s (r.p + 4) : Int)],r.p + ub2 s r.p⟩:=by
 simp only [rdE,h,hs,if_true]
theorem YN {s : List UInt8} {p : Nat} : YR s p = true ↔ (p + 8 ≤ s.length ∧ ub2 s p = QJ (Q2 s p) ∧ p + ub2 s p ≤ s.length) ∧ zer (QH s (p + Q2 s p) (ub2 s p - Q2 s p)) = true ∧ XZ (Q0 s p) (ub4 s (p + 4)) = true:=by
 simp only [YR,Bool.and_eq_true,decide_eq_true_eq]
theorem Qa2 {s : List UInt8} {p0 : Nat} (h0 : p0 ≤ s.length) : ∀ {k : Nat} {r : RdS},rdE s p0 k = some r → r.es.length = k ∧ r.cs.length = k ∧ p0 ≤ r.p ∧ r.p ≤ s.length ∧ r.p ≤ p0 + 96 * k ∧ (∀ x ∈ r.es,XZ x 0 = true) ∧ ∀ c ∈ r.cs,0 ≤ c ∧ c ≤ 120
 | 0,r,h=>by
  injection h with h
  subst h;exact ⟨rfl,rfl,Nat.le_refl _,h0,Nat.le_add_right _ _,by simp,by simp⟩
 | k + 1,r,h=>by
  cases hk : rdE s p0 k with
  | none=>simp only [rdE,hk] at h;cases h
  | some q=>
   obtain ⟨h1,h2,h3,h4,h5,h6,h7⟩:=Qa2 h0 hk;cases hs : YR s q.p with
   | false=>simp only [rdE,hk,hs] at h;cases h
   | true=>
    rw [QbI hk hs] at h;injection h with h
    subst h;obtain ⟨⟨g1,g2,g3⟩,g4,g5⟩:=YN.1 hs;have hp:=YF (Q2 s q.p);obtain ⟨e1,e2,e3⟩:=Qdb (s:=s) (p:=q.p) (by omega);simp only [XZ,decide_eq_true_eq] at g5;have hsz : Q2 s q.p = 8 + ub1 s (q.p + 2) + ub1 s (q.p + 3):=rfl;have hp96 : QJ (Q2 s q.p) ≤ 96:=by unfold QJ;omega
    refine ⟨by simp [h1],by simp [h2],by simp only [];omega,by simp only [];omega,by simp only [];omega,?_,?_⟩
    ·intro x hx;rcases List.mem_append.1 hx with hx | hx
     ·exact h6 x hx
     ·rcases List.mem_singleton.1 hx;simp only [XZ,decide_eq_true_eq];omega
    ·intro c hc;rcases List.mem_append.1 hc with hc | hc
     ·exact h7 c hc
     ·rcases List.mem_singleton.1 hc;omega
def QR (cs : List Int) (i : Nat) : Int:=if cs.length = 0 then 0 else cs.getD i 0
def QF (n : Nd) : Nat → List UInt8
 | 0=>[]
 | k + 1=>QF n k ++ XN (nth n.es k) (QR n.cs k)
def X6 (n : Nd) : List UInt8:=QF n n.es.length ++ Qak (QR n.cs n.es.length)
theorem Qhw {s : List UInt8} {p0 : Nat} (h0 : p0 ≤ s.length) {n : Nd} : ∀ {k : Nat} {r : RdS},rdE s p0 k = some r → k ≤ n.es.length → (∀ i,i < k → nth n.es i = nth r.es i ∧ QR n.cs i = r.cs.getD i 0) → QF n k = QH s p0 (r.p - p0)
 | 0,r,h,_,_=>by
  injection h with h
  subst h;simp [QF,QH]
 | k + 1,r,h,hk,hn=>by
  cases hq : rdE s p0 k with
  | none=>simp only [rdE,hq] at h;cases h
  | some q=>
   obtain ⟨h1,h2,h3,h4,_⟩:=Qa2 h0 hq;cases hs : YR s q.p with
   | false=>simp only [rdE,hq,hs] at h;cases h
   | true=>
    rw [QbI hq hs] at h;injection h with h
    subst h;obtain ⟨⟨g1,g2,g3⟩,g4,g5⟩:=YN.1 hs;have hp:=YF (Q2 s q.p)
    have ih:=Qhw h0 (n:=n) hq (by omega) (fun i hi=>by
     obtain ⟨a1,a2⟩:=hn i (by omega);rw [a1,a2];constructor
     ·unfold nth;rw [List.getD_eq_getElem?_getD,List.getElem?_append_left (by omega),← List.getD_eq_getElem?_getD]
     ·rw [List.getD_eq_getElem?_getD,List.getElem?_append_left (by omega),← List.getD_eq_getElem?_getD])
    obtain ⟨a1,a2⟩:=hn k (by omega)
    have ub1' : nth (q.es ++ [Q0 s q.p]) k = Q0 s q.p:=by
     unfold nth;rw [List.getD_eq_getElem?_getD,List.getElem?_append_right (by omega),h1,Nat.sub_self];rfl
    have ub2' : (q.cs ++ [(ub4 s (q.p + 4) : Int)]).getD k 0 = (ub4 s (q.p + 4) : Int):=by
     rw [List.getD_eq_getElem?_getD,List.getElem?_append_right (by omega),h2,Nat.sub_self];rfl
    rw [QF,ih,a1,a2,ub1',ub2',(Qkl g3 (by omega)).2 ⟨g2,g4⟩];simp only [];rw [show q.p + ub2 s q.p - p0 = (q.p - p0) + ub2 s q.p by omega,Yd,show p0 + (q.p - p0) = q.p by omega]
theorem Qk3 {s : List UInt8} {p0 k : Nat} (h0 : p0 ≤ s.length) {n : Nd} {e : Nat} (h : rdN s p0 k = some (n,e)) : X6 n = QH s p0 (e - p0) ∧ p0 + 8 ≤ e ∧ e ≤ s.length ∧ e ≤ p0 + 96 * k + 8 ∧ n.us = true ∧ n.es.length = k ∧ (n.cs.length = 0 ∨ n.cs.length = k + 1) ∧ (∀ x ∈ n.es,XZ x 0 = true) ∧ ∀ c ∈ n.cs,1 ≤ c ∧ c ≤ 120:=by
 unfold rdN at h;cases hq : rdE s p0 k with
 | none=>rw [hq] at h;cases h
 | some r=>
  rw [hq] at h;simp only [] at h;obtain ⟨h1,h2,h3,h4,h5,h6,h7⟩:=Qa2 h0 hq;split at h
  ·rename_i he;simp only [YD,decide_eq_true_eq] at he;obtain ⟨g1,g2,g3,g4⟩:=he;have hb2 : ub2 s (r.p + 2) = ub1 s (r.p + 2) + ub1 s (r.p + 3) * 256:=rfl;have hsz : Q2 s r.p = 8 + ub1 s (r.p + 2) + ub1 s (r.p + 3):=rfl;have hend:=(Qk5 (s:=s) (p:=r.p) g1 (by omega) (by omega)).2 ⟨g2,g3⟩;rw [g2] at hend
   have hfin : QH s p0 (r.p + 8 - p0) = QH s p0 (r.p - p0) ++ QH s r.p 8:=by
    rw [show r.p + 8 - p0 = (r.p - p0) + 8 by omega,Yd,show p0 + (r.p - p0) = r.p by omega]
   split at h
   ·rename_i hz;injection h with h
    injection h with e1 e2
    subst e1 e2
    have hkid : ∀ i,i ≤ k → QR (r.cs ++ [(ub4 s (r.p + 4) : Int)]) i = (r.cs ++ [(ub4 s (r.p + 4) : Int)]).getD i 0:=fun i _=>by
     unfold QR;rw [if_neg (by simp)]
    refine ⟨?_,by omega,by omega,by omega,rfl,h1,.inr (by simp [h2]),h6,?_⟩
    ·unfold X6;simp only []
     rw [h1,Qhw h0 (n:=⟨true,r.es,r.cs ++ [(ub4 s (r.p + 4) : Int)]⟩) hq (Nat.le_of_eq h1.symm) (fun i hi=>⟨rfl,by
      rw [hkid i (by omega),List.getD_eq_getElem?_getD,List.getElem?_append_left (by omega),← List.getD_eq_getElem?_getD]⟩),hkid k (Nat.le_refl _)]
     rw [List.getD_eq_getElem?_getD,List.getElem?_append_right (by omega),h2,Nat.sub_self,hfin,← hend];rfl
    ·intro c hc;simp only [noz,List.all_eq_true,decide_eq_true_eq] at hz;have hz':=hz c hc;rcases List.mem_append.1 hc with hc | hc
     ·have:=h7 c hc;omega
     ·rcases List.mem_singleton.1 hc;omega
   ·split at h
    ·rename_i hz;injection h with h
     injection h with e1 e2
     subst e1 e2;refine ⟨?_,by omega,by omega,by omega,rfl,h1,.inl rfl,h6,by simp⟩
     have hall : ∀ i,i ≤ k → (r.cs ++ [(ub4 s (r.p + 4) : Int)]).getD i 0 = 0:=fun i hi=>by
      simp only [QcG,List.all_eq_true,decide_eq_true_eq] at hz;have hl : i < (r.cs ++ [(ub4 s (r.p + 4) : Int)]).length:=by simp;omega
      have:=hz _ (List.getElem_mem hl);rw [List.getD_eq_getElem?_getD,List.getElem?_eq_getElem hl];exact this
     have hlast:=hall k (Nat.le_refl _);rw [List.getD_eq_getElem?_getD,List.getElem?_append_right (by omega),h2,Nat.sub_self] at hlast;have hlast : (ub4 s (r.p + 4) : Int) = 0:=hlast;unfold X6;simp only []
     rw [h1,Qhw h0 (n:=⟨true,r.es,[]⟩) hq (Nat.le_of_eq h1.symm) (fun i hi=>⟨rfl,by
      have:=hall i (by omega);rw [List.getD_eq_getElem?_getD,List.getElem?_append_left (by omega),← List.getD_eq_getElem?_getD] at this;rw [this];rfl⟩),hfin,← hend,hlast]
     rfl
    ·cases h
  ·cases h
theorem QdU {s : List UInt8} {i n j m : Nat} (h : j + m ≤ n) : QH (QH s i n) j m = QH s (i + j) m:=by
 simp only [QH,List.drop_take,List.take_take,List.drop_drop];rw [Nat.min_eq_left (by omega)]
theorem Qjr {s : List UInt8} {p n j : Nat} (h : j < n) : ub1 (QH s p n) j = ub1 s (p + j):=by
 simp only [ub1,List.getD_eq_getElem?_getD,Qne h]
theorem Qfh {s : List UInt8} {p n j : Nat} (h : j + 1 < n) : ub2 (QH s p n) j = ub2 s (p + j):=by
 simp only [ub2,Qjr (show j < n by omega),Qjr h,Nat.add_assoc]
theorem QpP {s : List UInt8} {p n j : Nat} (h : j + 3 < n) : ub4 (QH s p n) j = ub4 s (p + j):=by
 simp only [ub4,Qfh (show j + 1 < n by omega),Qfh (show j + 2 + 1 < n by omega),Nat.add_assoc]
theorem Quj (x : TEnt) (c : Int) (hs : x.sz < 60000) (hk : x.key.length < 256) (hv : x.val.length < 256) (hc : 0 ≤ c ∧ c < 4294967296) : ub2 (XN x c) 0 = QJ x.sz ∧ ub1 (XN x c) 2 = x.key.length ∧ ub1 (XN x c) 3 = x.val.length ∧ (ub4 (XN x c) 4 : Int) = c:=by
 have hp:=YF x.sz;have e0 : ub1 (XN x c) 0 = (by8 (QJ x.sz : Nat)).toNat:=rfl;have e1 : ub1 (XN x c) 1 = (by8 ((QJ x.sz : Nat) / 256 : Int)).toNat:=rfl;have e2 : ub1 (XN x c) 2 = (by8 (x.key.length : Int)).toNat:=rfl;have e3 : ub1 (XN x c) 3 = (by8 (x.val.length : Int)).toNat:=rfl;have e4 : ub1 (XN x c) 4 = (by8 c).toNat:=rfl;have e5 : ub1 (XN x c) 5 = (by8 (c / 256)).toNat:=rfl;have e6 : ub1 (XN x c) 6 = (by8 (c / 65536)).toNat:=rfl;have e7 : ub1 (XN x c) 7 = (by8 (c / 16777216)).toNat:=rfl;have f0:=Q9 (QJ x.sz : Nat);have f1:=Q9 ((QJ x.sz : Nat) / 256 : Int);have f2:=Q9 (x.key.length : Int);have f3:=Q9 (x.val.length : Int);have f4:=Q9 c;have f5:=Q9 (c / 256);have f6:=Q9 (c / 65536);have f7:=Q9 (c / 16777216);refine ⟨?_,?_,?_,?_⟩
 ·unfold ub2;rw [e0,e1];omega
 ·rw [e2];omega
 ·rw [e3];omega
 ·unfold ub4 ub2;simp only [Nat.reduceAdd];rw [e4,e5,e6,e7];omega
theorem QkG {A B C : List UInt8} {i n : Nat} (hi : A.length = i) (hn : B.length = n) : QH (A ++ (B ++ C)) i n = B:=by
 unfold QH;subst hi hn;rw [List.drop_left,List.take_left]
theorem Qp4 (x : TEnt) (c : Int) : QH (XN x c) 8 x.key.length = x.key:=by
 have : XN x c = (le2 (QJ x.sz : Nat) ++ [by8 x.key.length,by8 x.val.length] ++ le4 c) ++ (x.key ++ (x.val ++ List.replicate (QJ x.sz - x.sz) 0)):=by simp only [XN,List.append_assoc]
 rw [this];exact QkG rfl rfl
theorem QpV (x : TEnt) (c : Int) : QH (XN x c) (8 + x.key.length) x.val.length = x.val:=by
 have : XN x c = (le2 (QJ x.sz : Nat) ++ [by8 x.key.length,by8 x.val.length] ++ le4 c ++ x.key) ++ (x.val ++ List.replicate (QJ x.sz - x.sz) 0):=by simp only [XN,List.append_assoc]
 rw [this]
 have hl : (le2 (QJ x.sz : Nat) ++ [by8 x.key.length,by8 x.val.length] ++ le4 c ++ x.key).length = 8 + x.key.length:=by
  simp only [List.length_append,le2,le4,List.length_cons,List.length_nil]
 unfold QH;rw [← hl,List.drop_left,List.take_left]
theorem Qpq (x : TEnt) (c : Int) : QH (XN x c) x.sz (QJ x.sz - x.sz) = List.replicate (QJ x.sz - x.sz) 0:=by
 have : XN x c = (le2 (QJ x.sz : Nat) ++ [by8 x.key.length,by8 x.val.length] ++ le4 c ++ x.key ++ x.val) ++ (List.replicate (QJ x.sz - x.sz) 0 ++ []):=by simp only [XN,List.append_nil]
 rw [this];refine QkG ?_ (by simp);unfold TEnt.sz;simp only [List.length_append,le2,le4,List.length_cons,List.length_nil]
theorem Qt4 {s : List UInt8} {p : Nat} {x : TEnt} {c : Int} (hw : QH s p (QJ x.sz) = XN x c) (hl : p + QJ x.sz ≤ s.length) (hk : XZ x c.toNat = true) (hc : 0 ≤ c) : YR s p = true ∧ Q0 s p = x ∧ (ub4 s (p + 4) : Int) = c ∧ ub2 s p = QJ x.sz:=by
 have hkk:=hk;simp only [XZ,decide_eq_true_eq] at hk;have hsz : x.sz = 8 + x.key.length + x.val.length:=rfl;have hp:=YF x.sz;obtain ⟨a0,a2,a3,a4⟩:=Quj x c (by omega) (by omega) (by omega) (by omega);rw [← hw,Qfh (by omega),Nat.add_zero] at a0;rw [← hw,Qjr (by omega)] at a2 a3;rw [← hw,QpP (by omega)] at a4
 have e : Q0 s p = x:=by
  have k1:=Qp4 x c;have k2:=QpV x c;rw [← hw,QdU (by omega)] at k1 k2;unfold Q0;rw [a2,a3,k1,show p + 8 + x.key.length = p + (8 + x.key.length) by omega,k2]
 have hz : Q2 s p = x.sz:=by unfold Q2;rw [a2,a3];rfl
 refine ⟨YN.2 ⟨⟨by omega,by rw [a0,hz],by omega⟩,?_,?_⟩,e,a4,a0⟩
 ·have k3:=Qpq x c;rw [← hw,QdU (by omega)] at k3;rw [hz,a0,k3];exact Qls _
 ·rw [e,show ub4 s (p + 4) = c.toNat by omega];exact hkk
theorem Qtk {s : List UInt8} {p : Nat} {c : Int} (hw : QH s p 8 = Qak c) (hl : p + 8 ≤ s.length) (hc : 0 ≤ c ∧ c ≤ 120) : YD s p = true ∧ (ub4 s (p + 4) : Int) = c:=by
 have f4:=Q9 c;have f5:=Q9 (c / 256);have f6:=Q9 (c / 65536);have f7:=Q9 (c / 16777216)
 have e0 : ub2 (Qak c) 0 = 8:=by
  show (by8 8).toNat + (by8 (8 / 256)).toNat * 256 = 8;decide
 have e2 : ub2 (Qak c) 2 = 0:=by
  show (0 : UInt8).toNat + (0 : UInt8).toNat * 256 = 0;decide
 have e4 : ub4 (Qak c) 4 = (by8 c).toNat + (by8 (c / 256)).toNat * 256 + ((by8 (c / 65536)).toNat + (by8 (c / 16777216)).toNat * 256) * 65536:=by
  have g0 : ub1 (Qak c) 4 = (by8 c).toNat:=rfl;have g1 : ub1 (Qak c) 5 = (by8 (c / 256)).toNat:=rfl;have g2 : ub1 (Qak c) 6 = (by8 (c / 65536)).toNat:=rfl;have g3 : ub1 (Qak c) 7 = (by8 (c / 16777216)).toNat:=rfl;unfold ub4 ub2;simp only [Nat.reduceAdd];rw [g0,g1,g2,g3]
 rw [← hw,Qfh (by omega),Nat.add_zero] at e0;rw [← hw,Qfh (by omega)] at e2;rw [← hw,QpP (by omega)] at e4;have h4 : (ub4 s (p + 4) : Int) = c:=by omega
 refine ⟨?_,h4⟩;simp only [YD,decide_eq_true_eq];omega
structure NdW (n : Nd) : Prop where
 us : n.us = true
 es : ∀ x ∈ n.es,XZ x 0 = true
 cl : n.cs.length = 0 ∨ n.cs.length = n.es.length + 1
 cs : ∀ c ∈ n.cs,1 ≤ c ∧ c ≤ 120
theorem NdW.kid {n : Nd} (h : NdW n) {i : Nat} (hi : i ≤ n.es.length) : 0 ≤ QR n.cs i ∧ QR n.cs i ≤ 120 ∧ (n.cs.length = 0 → QR n.cs i = 0) ∧ (n.cs.length ≠ 0 → QR n.cs i = n.cs.getD i 0 ∧ QR n.cs i ≠ 0):=by
 unfold QR
 by_cases h0 : n.cs.length = 0
 ·rw [if_pos h0];exact ⟨by omega,by omega,fun _=>rfl,fun h=>absurd h0 h⟩
 ·rw [if_neg h0];have hl : i < n.cs.length:=by have:=h.cl;omega
  have h1:=h.cs _ (List.getElem_mem hl);have h2 : n.cs.getD i 0 = n.cs[i]:=by rw [List.getD_eq_getElem?_getD,List.getElem?_eq_getElem hl];rfl
  rw [h2];exact ⟨by omega,by omega,fun h=>absurd h h0,fun _=>⟨rfl,by omega⟩⟩
theorem QfO (n : Nd) : ∀ k j,(QF n k).length ≤ (QF n (k + j)).length
 | k,0=>Nat.le_refl _
 | k,j + 1=>by
  have:=QfO n k j;show _ ≤ (QF n (k + j) ++ _).length;rw [List.length_append];omega
theorem Qgc (n : Nd) : ∀ k j,QH (QF n (k + j)) 0 (QF n k).length = QF n k
 | k,0=>by simp [QH]
 | k,j + 1=>by
  have ih:=Qgc n k j;have hl:=QfO n k j;show QH (QF n (k + j) ++ _) 0 _ = _;unfold QH at ih ⊢;rw [List.drop_zero] at ih ⊢;rw [List.take_append_of_le_length hl];exact ih
theorem QiI {s : List UInt8} {p0 : Nat} {n : Nd} (hn : NdW n) (hl : p0 + (QF n n.es.length).length ≤ s.length) (hw : QH s p0 (QF n n.es.length).length = QF n n.es.length) : ∀ k,k ≤ n.es.length → rdE s p0 k = some ⟨n.es.take k,(List.range k).map (QR n.cs),p0 + (QF n k).length⟩
 | 0,_=>by simp [rdE,QF]
 | k + 1,hk=>by
  have ih:=QiI hn hl hw k (by omega);have hx:=hn.es _ (List.getElem_mem (show k < n.es.length by omega));have hxe : nth n.es k = n.es[k]:=YY (by rw [List.getElem?_eq_getElem (show k < n.es.length by omega)]);obtain ⟨c1,c2,_,_⟩:=hn.kid (i:=k) (by omega);have hle:=QfO n (k + 1) (n.es.length - (k + 1));rw [show k + 1 + (n.es.length - (k + 1)) = n.es.length by omega] at hle
  have hlk : (QF n (k + 1)).length = (QF n k).length + QJ (nth n.es k).sz:=by
   show (QF n k ++ _).length = _;rw [List.length_append,Qc2]
  have hpre:=Qgc n (k + 1) (n.es.length - (k + 1));rw [show k + 1 + (n.es.length - (k + 1)) = n.es.length by omega,← hw,QdU (by omega),Nat.add_zero] at hpre
  have hwin : QH s (p0 + (QF n k).length) (QJ (nth n.es k).sz) = XN (nth n.es k) (QR n.cs k):=by
   rw [hlk,Yd] at hpre;have h2 : QH s p0 (QF n k).length ++ QH s (p0 + (QF n k).length) (QJ (nth n.es k).sz) = QF n k ++ XN (nth n.es k) (QR n.cs k):=hpre;exact (List.append_inj h2 (Zd (by omega))).2
  have hK : XZ (nth n.es k) (QR n.cs k).toNat = true:=by
   rw [hxe];simp only [XZ,decide_eq_true_eq] at hx ⊢;omega
  obtain ⟨g1,g2,g3,g4⟩:=Qt4 hwin (by omega) hK c1;rw [QbI ih g1];congr 1
  have t1 : n.es.take (k + 1) = n.es.take k ++ [nth n.es k]:=by
   rw [List.take_add_one,List.getElem?_eq_getElem (show k < n.es.length by omega),hxe];rfl
  simp only [g2,g3,g4];rw [t1,List.range_succ,List.map_append,hlk,Nat.add_assoc];rfl
theorem Qn6 {s : List UInt8} {p0 : Nat} {n : Nd} (hn : NdW n) (hl : p0 + (X6 n).length ≤ s.length) (hw : QH s p0 (X6 n).length = X6 n) : rdN s p0 n.es.length = some (n,p0 + (X6 n).length):=by
 have hcl : (X6 n).length = (QF n n.es.length).length + 8:=by unfold X6;rw [List.length_append,QaG]
 have hw2:=hw;rw [hcl,Yd] at hw2;unfold X6 at hw2;obtain ⟨w1,w2⟩:=List.append_inj hw2 (Zd (by omega));have hE:=QiI hn (by omega) w1 n.es.length (Nat.le_refl _);obtain ⟨c1,c2,c3,c4⟩:=hn.kid (Nat.le_refl n.es.length);obtain ⟨g1,g2⟩:=Qtk w2 (by omega) ⟨c1,c2⟩;have hch : (List.range n.es.length).map (QR n.cs) ++ [QR n.cs n.es.length] = (List.range (n.es.length + 1)).map (QR n.cs):=by rw [List.range_succ,List.map_append];rfl
 unfold rdN;rw [hE];simp only [g1,if_true,g2,hch,List.take_length,hcl]
 by_cases h0 : n.cs.length = 0
 ·have hz : ∀ i,i ≤ n.es.length → QR n.cs i = 0:=fun i hi=>(hn.kid hi).2.2.1 h0
  have hnz : noz ((List.range (n.es.length + 1)).map (QR n.cs)) = false:=by
   cases hb : noz ((List.range (n.es.length + 1)).map (QR n.cs)) with
   | false=>rfl
   | true=>
    simp only [noz,List.all_eq_true,decide_eq_true_eq,List.mem_map,List.mem_range] at hb;exact absurd (hz 0 (by omega)) (hb _ ⟨0,by omega,rfl⟩)
  have haz : QcG ((List.range (n.es.length + 1)).map (QR n.cs)) = true:=by
   simp only [QcG,List.all_eq_true,decide_eq_true_eq,List.mem_map,List.mem_range];rintro c ⟨i,hi,rfl⟩;exact hz i (by omega)
  rw [hnz,haz];simp only [Bool.false_eq_true,if_false,if_true,Option.some.injEq,Prod.mk.injEq];refine ⟨?_,by omega⟩;obtain ⟨us,es,cs⟩:=n;have hcs : cs = []:=List.eq_nil_of_length_eq_zero h0;have hu:=hn.us;simp only at hu;subst hcs hu;rfl
 ·have hnz : noz ((List.range (n.es.length + 1)).map (QR n.cs)) = true:=by
   simp only [noz,List.all_eq_true,decide_eq_true_eq,List.mem_map,List.mem_range];rintro c ⟨i,hi,rfl⟩;exact ((hn.kid (i:=i) (by omega)).2.2.2 h0).2
  rw [hnz];simp only [if_true,Option.some.injEq,Prod.mk.injEq];refine ⟨?_,by omega⟩;have hlc : n.cs.length = n.es.length + 1:=by have:=hn.cl;omega
  have hcs : (List.range (n.es.length + 1)).map (QR n.cs) = n.cs:=by
   apply List.ext_getElem?;intro i;rcases Nat.lt_or_ge i (n.es.length + 1) with hi | hi
   ·rw [List.getElem?_map,List.getElem?_range hi];simp only [Option.map_some];rw [((hn.kid (i:=i) (by omega)).2.2.2 h0).1,List.getD_eq_getElem?_getD,List.getElem?_eq_getElem (show i < n.cs.length by omega)];rfl
   ·rw [List.getElem?_eq_none (by simp;omega),List.getElem?_eq_none (by omega)]
  rw [hcs];have hu:=hn.us;obtain ⟨us,es,cs⟩:=n;simp only at hu;subst hu;rfl
def Qoy (s : List UInt8) (at' : Nat) (l : List UInt8) : List UInt8:=s.take at' ++ l ++ s.drop (at' + l.length)
def tlA (i : Nat) : Nat:=64 * i + 62
def prI (s : List UInt8) (u : Int) : Nat → List UInt8
 | 0=>Qoy s 40 (le2 u)
 | i + 1=>Qoy (Qoy (prI s u i) (42 + 2 * i) (QH (prI s u i) (tlA i) 2)) (tlA i) (le2 u)
def Qvn (s : List UInt8) (u : Int) : List UInt8:=prI s u 8
def opI (s : List UInt8) : Nat → List UInt8
 | 0=>s
 | i + 1=>Qoy (opI s i) (tlA i) (QH (opI s i) (42 + 2 * i) 2)
def Qux (s : List UInt8) (i : Nat) : Bool:=decide (ub2 s 40 = 0 ∨ ub2 s (tlA i) ≠ ub2 s 40)
def Qul (s : List UInt8) : Bool:=(List.range 8).any (Qux s)
def Qli (s : List UInt8) : List UInt8:=Qoy (opI s 8) 40 (List.replicate 18 0)
def indx : List UInt8:=[73,78,68,88]
def hdB (num lsn : Int) (count : Nat) : List UInt8:=indx ++ List.replicate 4 0 ++ le4 lsn ++ le4 num ++ le2 count ++ List.replicate 46 0
def nodB (n : Nd) (num lsn : Int) : List UInt8:=hdB num lsn n.es.length ++ X6 n ++ List.replicate (448 - (X6 n).length) 0
def blkB (n : Nd) (num lsn usn : Int) : List UInt8:=Qvn (nodB n num lsn) usn
def hdOk (s : List UInt8) (num : Int) : Bool:=decide (s.take 4 = indx) && (zer (QH s 4 4) && (decide (ub4 s 8 ≤ 2147483647) && (decide ((ub4 s 12 : Int) = num) && (zer (QH s 18 22) && zer (QH s 58 6)))))
def rdB (s : List UInt8) : Option (Nd × Nat):=if 1 ≤ ub2 s 16 ∧ ub2 s 16 ≤ 4 then rdN s 64 (ub2 s 16) else none
def noNd : Nd:=⟨false,[],[]⟩
structure NdR where
 n : Nd
 lsn : Int
 usn : Int
 e : Int
def ndE (e : Int) : NdR:=⟨noNd,0,0,e⟩
def Qp3 (b : List UInt8) (num : Int) : NdR:=
 if b.length = 512 then
  if 1 ≤ num ∧ num ≤ 120 then
   if Qul b then ndE 31
   else match rdB (Qli b) with
    | some (n,last)=>if hdOk (Qli b) num && zer ((Qli b).drop last) then ⟨n,(ub4 (Qli b) 8 : Int),(ub2 b 40 : Int),0⟩ else ndE 3
    | none=>ndE 3
  else ndE 2
 else ndE 10
def YJ : List UInt8:=[82,79,79,84]
def ZQ (t : Tre) : List UInt8:=YJ ++ [by8 t.co,by8 t.mo,by8 t.rm,by8 (nth t.ns 0).es.length] ++ X6 (nth t.ns 0)
def noT : Tre:=⟨0,0,0,[]⟩
def QaA (co : Int) (es : List TEnt) (i : Nat) : Bool:=QP co (nth es i).key && decide (i = 0 ∨ Xe co (nth es (i - 1)).key (nth es i).key < 0)
def Qdx (co : Int) (es : List TEnt) : Bool:=(List.range es.length).all (QaA co es)
theorem QbR {co : Int} {es : List TEnt} : Qdx co es = true ↔ ∀ i,i < es.length → QaA co es i = true:=by
 simp only [Qdx,List.all_eq_true,List.mem_range]
theorem QkI {co : Int} {es : List TEnt} {i : Nat} (hi : i < es.length) (h : QaA co es i = false) : Qdx co es = false:=by
 cases hb : Qdx co es with
 | false=>rfl
 | true=>rw [QbR.1 hb i hi] at h;cases h
def Qv (s : List UInt8) : Tre × Int:=
 if s.length < 16 then (noT,10)
 else if s.take 4 = YJ then
  if Qr (at1 s 4) = 0 then
   if Xy (at1 s 5) (at1 s 6) = 0 then
    if at1 s 5 ≤ 4 then
     if at1 s 7 ≤ at1 s 6 then
      match rdN s 8 (ub1 s 7) with
      | some (n,last)=>if last = s.length ∧ Qdx (at1 s 4) n.es = true then (⟨at1 s 4,at1 s 5,at1 s 6,[n]⟩,0) else (noT,3)
      | none=>(noT,3)
     else (noT,16)
    else (noT,8)
   else (noT,Xy (at1 s 5) (at1 s 6))
  else (noT,Qr (at1 s 4))
 else (noT,3)
def Ys (x : TEnt) : Bool:=decide (x.key.length + x.val.length ≤ 88)
def Zk (n : Nd) : Bool:=n.es.all Ys
def Zu (t : Tre) : Int:=if (Y2 t).2 = 0 then if t.mo ≤ 4 ∧ t.ns.all Zk = true then 0 else 8 else (Y2 t).2
theorem Qjx {t : Tre} (h : Zu t = 0) : (Y2 t).2 = 0 ∧ t.mo ≤ 4 ∧ ∀ n ∈ t.ns,∀ x ∈ n.es,x.key.length + x.val.length ≤ 88:=by
 unfold Zu at h;split at h
 ·rename_i h1;split at h
  ·rename_i h2;refine ⟨h1,h2.1,fun n hn x hx=>?_⟩;have h3:=List.all_eq_true.1 h2.2 n hn;have h4:=List.all_eq_true.1 h3 x hx
   simpa [Ys] using h4
  ·cases h
 ·rename_i h1;exact absurd h h1
theorem QlL {co : Int} {k : List UInt8} (h : QP co k = true) : 1 ≤ k.length ∧ k.length ≤ 40:=by
 unfold QP at h;split at h
 ·simpa using h
 ·split at h
  ·simp only [decide_eq_true_eq] at h;omega
  ·split at h <;> (simp only [Bool.and_eq_true,decide_eq_true_eq] at h;omega)
theorem Qku {co : Int} {x : TEnt} (h : YI co x = 0) : QP co x.key = true ∧ x.val.length ≤ 64:=by
 unfold YI at h;split at h
 ·rename_i h1;split at h
  ·rename_i h2;refine ⟨?_,h2⟩;unfold XW at h1;split at h1
   ·assumption
   ·cases h1
  ·cases h
 ·cases h
theorem Qec {n : Nd} (h : ∀ x ∈ n.es,XZ x 0 = true) : ∀ k,k ≤ n.es.length → (QF n k).length ≤ 96 * k
 | 0,_=>by simp [QF]
 | k + 1,hk=>by
  have ih:=Qec h k (by omega);have hx:=h _ (Qy (show k < n.es.length by omega));simp only [XZ,decide_eq_true_eq] at hx;have hsz : (nth n.es k).sz = 8 + (nth n.es k).key.length + (nth n.es k).val.length:=rfl;show (QF n k ++ _).length ≤ _;rw [List.length_append,Qc2];unfold QJ;omega
theorem QjM {n : Nd} (h : ∀ x ∈ n.es,XZ x 0 = true) : (X6 n).length ≤ 96 * n.es.length + 8:=by
 have:=Qec h n.es.length (Nat.le_refl _);unfold X6;rw [List.length_append,QaG];omega
theorem QgO {t : Tre} (h : Zu t = 0) {i : Nat} (hi : i < t.ns.length) (hu : (nth t.ns i).us = true) : NdW (nth t.ns i) ∧ (nth t.ns i).es.length ≤ 4 ∧ (X6 (nth t.ns i)).length ≤ 392 ∧ Qdx t.co (nth t.ns i).es = true ∧ t.ns.length ≤ 120:=by
 obtain ⟨h1,h2,h3⟩:=Qjx h;obtain ⟨hc,hs,h0,hl,hn,_⟩:=QnS h1;have hT:=Qhg hn;obtain ⟨hE,_⟩:=Qdp (by omega) hn List.nodup_nil;obtain ⟨sn,hE⟩:=hE i (Nat.zero_le _) hi;have hmo : Xy t.mo t.rm = 0:=hs
 have hsz : (3 ≤ t.mo ∧ t.mo ≤ 8) ∧ (t.mo / 2 ≤ t.rm ∧ t.rm ≤ t.mo):=by
  unfold Xy at hmo;split at hmo
  ·assumption
  ·cases hmo
 have hm : ((nth t.ns i).es.length : Int) ≤ Yx t.mo t.rm i:=by
  unfold XC at hE;simp only [hu,if_true] at hE;split at hE
  ·assumption
  ·cases hE
 have hle : (nth t.ns i).es.length ≤ 4:=by
  unfold Yx at hm;split at hm <;> omega
 have hK : ∀ x ∈ (nth t.ns i).es,XZ x 0 = true:=fun x hx=>by
  obtain ⟨a,b⟩:=Qku (hT.ents i hi x hx);have c:=QlL a;have d:=h3 _ (Qy hi) x hx;simp only [XZ,decide_eq_true_eq];omega
 have hb:=QjM hK;refine ⟨⟨hu,hK,hT.shape i hi,fun c hc=>by have:=(hT.kid i hi c hc).1;omega⟩,hle,by omega,?_,hl⟩;rw [QbR];intro k hk;simp only [QaA,Bool.and_eq_true,decide_eq_true_eq];refine ⟨(Qku (hT.ents i hi _ (Qy hk))).1,?_⟩;rcases Nat.eq_zero_or_pos k with h0 | h0
 ·exact .inl h0
 ·have:=hT.asc i hi (k - 1) (by omega);rw [show k - 1 + 1 = k by omega] at this;exact .inr this
theorem Qdg {t : Tre} (h : Zu t = 0) : 0 < t.ns.length ∧ (nth t.ns 0).us = true ∧ Qr t.co = 0 ∧ Xy t.mo t.rm = 0 ∧ ((nth t.ns 0).es.length : Int) ≤ t.rm:=by
 obtain ⟨h1,h2,h3⟩:=Qjx h;obtain ⟨hc,hs,h0,hl,hn,_⟩:=QnS h1;have hT:=Qhg hn;obtain ⟨hE,_⟩:=Qdp (by omega) hn List.nodup_nil;obtain ⟨sn,hE⟩:=hE 0 (Nat.zero_le _) h0
 have hu : (nth t.ns 0).us = true:=by
  cases hu : (nth t.ns 0).us with
  | true=>rfl
  | false=>have:=(hT.free 0 h0 hu).1.1;omega
 refine ⟨h0,hu,hc,hs,?_⟩;unfold XC at hE;simp only [hu,if_true] at hE;split at hE
 ·rename_i hq
  simpa [Yx] using hq
 ·cases hE
theorem Qe7 (t : Tre) : (ZQ t).length = 8 + (X6 (nth t.ns 0)).length:=by
 unfold ZQ;rw [List.length_append];rfl
theorem QeT {t : Tre} (h : Zu t = 0) : Qv (ZQ t) = (⟨t.co,t.mo,t.rm,[nth t.ns 0]⟩,0):=by
 obtain ⟨h0,hu,hc,hs,hr⟩:=Qdg h;obtain ⟨hW,h4,hb,ha,hl⟩:=QgO h h0 hu;obtain ⟨_,hm4,_⟩:=Qjx h
 have hsz : (3 ≤ t.mo ∧ t.mo ≤ 8) ∧ (t.mo / 2 ≤ t.rm ∧ t.rm ≤ t.mo):=by
  unfold Xy at hs;split at hs
  ·assumption
  ·cases hs
 have hco : 0 ≤ t.co ∧ t.co ≤ 3:=by
  unfold Qr at hc;split at hc
  ·assumption
  ·cases hc
 have hL:=Qe7 t;have hcl : 8 ≤ (X6 (nth t.ns 0)).length:=by unfold X6;rw [List.length_append,QaG];omega
 have e4 : at1 (ZQ t) 4 = t.co:=by have:=Q9 t.co;show ((by8 t.co).toNat : Int) = _;omega
 have e5 : at1 (ZQ t) 5 = t.mo:=by have:=Q9 t.mo;show ((by8 t.mo).toNat : Int) = _;omega
 have e6 : at1 (ZQ t) 6 = t.rm:=by have:=Q9 t.rm;show ((by8 t.rm).toNat : Int) = _;omega
 have e7 : ub1 (ZQ t) 7 = (nth t.ns 0).es.length:=by have:=Q9 ((nth t.ns 0).es.length : Int);show (by8 ((nth t.ns 0).es.length : Int)).toNat = _;omega
 have e7' : at1 (ZQ t) 7 = ((nth t.ns 0).es.length : Int):=by rw [QkX,e7]
 have hsub : QH (ZQ t) 8 (X6 (nth t.ns 0)).length = X6 (nth t.ns 0):=by
  show List.take _ (X6 (nth t.ns 0)) = _;simp
 have hR:=Qn6 hW (by omega) hsub;unfold Qv;rw [if_neg (by omega),if_pos (show (ZQ t).take 4 = YJ from rfl),e4,e5,e6,e7',e7,if_pos hc,if_pos hs,if_pos hm4,if_pos hr,hR];simp only [hL,ha,and_self,if_true]
structure Ixs where
 ro : List UInt8
 al : List UInt8
 bm : List UInt8
deriving DecidableEq,Inhabited
def Ixs.n (x : Ixs) : Nat:=x.al.length / 512
def Ixs.blk (x : Ixs) (i : Nat) : List UInt8:=QH x.al ((i - 1) * 512) 512
def Qsm (bm : List UInt8) (j : Nat) : Bool:=decide (ub1 bm (j / 8) / 2 ^ (j % 8) % 2 = 1)
def namB (x : Ixs) (i : Nat) : Bool:=decide (1 ≤ i ∧ i ≤ x.n) && Qsm x.bm (i - 1)
def QuD (x : Ixs) : Bool:=(List.range (8 * x.bm.length)).any fun j=>decide (x.n ≤ j) && Qsm x.bm j
def ixE (x : Ixs) : Int:=
 if x.al.length ≤ 61440 ∧ x.ro.length ≤ 200000 then
  if x.al.length % 512 = 0 ∧ x.bm.length = QJ ((x.n + 7) / 8) then
   if (Qv x.ro).2 = 0 then
    if QuD x then 3 else if x.n = 0 ∨ Qsm x.bm (x.n - 1) = true then 0 else 3
   else (Qv x.ro).2
  else 10
 else 8
def bkN (x : Ixs) (i : Nat) : Nd:=if namB x i then (Qp3 (x.blk i) i).n else noNd
def bkE (x : Ixs) (i : Nat) : Int:=if namB x i then (Qp3 (x.blk i) i).e else if zer (x.blk i) then 0 else 3
def badF (x : Ixs) : Nat → Nat → Option Nat
 | 0,_=>none
 | f + 1,i=>if bkE x i = 0 then badF x f (i + 1) else some i
def Qvb (x : Ixs) (k : Nat) : List Nd:=(Qv x.ro).1.ns ++ (List.range k).map fun j=>bkN x (j + 1)
def Qq3 (x : Ixs) : Tre:=⟨(Qv x.ro).1.co,(Qv x.ro).1.mo,(Qv x.ro).1.rm,Qvb x x.n⟩
def rdI (x : Ixs) : (Tre × Int) × Int:=
 if ixE x = 0 then
  match badF x x.n 1 with
  | some i=>((noT,(i : Int)),bkE x i)
  | none=>if (Y2 (Qq3 x)).2 = 0 then ((Qq3 x,0),0) else ((noT,(Y2 (Qq3 x)).1),(Y2 (Qq3 x)).2)
 else ((noT,0),ixE x)
theorem QlF {s : List UInt8} (h : (Qv s).2 = 0) : ∃ n last,rdN s 8 (ub1 s 7) = some (n,last) ∧ last = s.length ∧ Qdx (at1 s 4) n.es = true ∧ Qv s = (⟨at1 s 4,at1 s 5,at1 s 6,[n]⟩,0) ∧ 16 ≤ s.length ∧ s.take 4 = YJ ∧ Qr (at1 s 4) = 0 ∧ Xy (at1 s 5) (at1 s 6) = 0 ∧ at1 s 5 ≤ 4 ∧ at1 s 7 ≤ at1 s 6:=by
 unfold Qv at h ⊢;split at h
 ·cases h
 ·rename_i h1;split at h
  ·rename_i h2;split at h
   ·rename_i h3;split at h
    ·rename_i h4;split at h
     ·rename_i h5;split at h
      ·rename_i h6;split at h
       ·rename_i n last h7;split at h
        ·rename_i h8;refine ⟨n,last,h7,h8.1,h8.2,?_,by omega,h2,h3,h4,h5,h6⟩;rw [if_neg h1,if_pos h2,if_pos h3,if_pos h4,if_pos h5,if_pos h6];rw [if_pos h8]
        ·cases h
       ·cases h
      ·cases h
     ·cases h
    ·rename_i h4;exact absurd h h4
   ·rename_i h3;exact absurd h h3
  ·cases h
def bitV (ns : List Nd) (g : Nat) : Nat → Nat
 | 0=>0
 | i + 1=>bitV ns g i + (if (nth ns (8 * g + i + 1)).us = true ∧ 8 * g + i + 1 < ns.length then 2 ^ i else 0)
def QuW (ns : List Nd) : Nat:=QJ ((ns.length - 1 + 7) / 8)
def bmB (ns : List Nd) : List UInt8:=(List.range (QuW ns)).map fun g=>by8 (bitV ns g 8 : Nat)
def QmU (blk : Nat → List UInt8) : Nat → List UInt8
 | 0=>[]
 | k + 1=>QmU blk k ++ blk (k + 1)
def QuK : List UInt8:=List.replicate 512 0
def newB (t : Tre) (i : Nat) : List UInt8:=if (nth t.ns i).us = true then blkB (nth t.ns i) i 0 1 else QuK
def wrI (t : Tre) : Ixs:=⟨ZQ t,QmU (newB t) (t.ns.length - 1),bmB t.ns⟩
structure Holds (t : Tre) (blk : Nat → List UInt8) : Prop where
 len : ∀ i,(blk i).length = 512
 us : ∀ i,1 ≤ i → i < t.ns.length → (nth t.ns i).us = true → (Qp3 (blk i) i).n = nth t.ns i ∧ (Qp3 (blk i) i).e = 0
 free : ∀ i,1 ≤ i → i < t.ns.length → (nth t.ns i).us = false → zer (blk i) = true
def ixOf (t : Tre) (blk : Nat → List UInt8) : Ixs:=⟨ZQ t,QmU blk (t.ns.length - 1),bmB t.ns⟩
end Gx
namespace Go.Proofs
open Go Go.RowKit Gx
attribute [local irreducible] Go.Calls Gx.S Gx.O Gx.D Gx.OpP Gx.OpQ Gx.OpH
set_option maxRecDepth 20000
theorem Qod : Qt Tryz.prog 87 = true:=by kernel_rfl
theorem Qgh : Qt Tryz.prog 60 = true:=by kernel_rfl
theorem Qka : Qt Tryz.prog 131 = true:=by kernel_rfl
theorem Qbs : QO Tryz.prog 5 = some [.int .u8 0]:=by kernel_rfl
theorem Qjt : Qt Tryz.prog 152 = true:=by kernel_rfl
theorem Qno : Qt Tryz.prog 153 = true:=by kernel_rfl
theorem c87 (w : World) (n lo hi : Int) : Calls Tryz.prog 87 #[.int .i64 n,.int .i64 lo,.int .i64 hi] w fun en w'=>en = .returned (.bool (decide (lo ≤ n) && decide (n ≤ hi))) ∧ Below w.heap.size w w':=by
 refine enter (args:=[_,_,_]) Tryz.func87 Tryz.ntmps87 rfl rfl (HS.refl w []) ?_
 refine Qaq ?_
 refine Xq 4 10 14 _ _ rfl
  (by
   intro hg1
   have hs2:=hg1;try simp only [dT] at hs2
   refine oOn 10 hg1 ?_
   refine aS ?_
   refine oOn 10 hg1 ?_
   refine aS ?_
   refine oOn 10 hg1 ?_
   refine aS ?_
   refine o_p (Qg rfl rfl hg1 rfl) rfl ?_
   refine aS ?_
   exact oJn 4 14)
  (by
   intro hg3
   have hs4:=hg3;try simp only [dN] at hs4
   refine oOf 10 hg3 ?_
   refine oOf 10 hg3 ?_
   refine oOf 10 hg3 ?_
   refine o_p (Qf rfl rfl hg3 rfl) rfl ?_
   refine aS ?_
   exact oJn 4 14) ?_
 refine aS2 ?_
 exact rT rfl rfl (fun w' h'=>⟨rfl,h'.below⟩)
theorem c60 (w : World) (ok : Bool) (e : Int) : Calls Tryz.prog 60 #[.bool ok,.int .i64 e] w fun en w'=>en = .returned (.int .i64 (cond ok 0 e)) ∧ Below w.heap.size w w':=by
 refine enter (args:=[_,_]) Tryz.func60 Tryz.ntmps60 rfl rfl (HS.refl w []) ?_
 refine aS9 ?_
 refine Qc rfl (fun h1=>?_) fun h1=>?_
 ·skip
  refine aS4 ?_
  exact rT rfl rfl (fun w' h'=>⟨by simp_all [QV],h'.below⟩)
 skip
 refine aS6 ?_
 exact rT rfl rfl (fun w' h'=>⟨by simp_all [QV],h'.below⟩)
theorem c59 (w : World) (a : Option Addr) (cap : Nat) (es : List Int) (hs : Sl w [] a 1 es.length (fun i=>[.int .i64 (es.getD i 0)])) (hm : es.length ≤ 1000) : Calls Tryz.prog 59 #[.slice a es.length cap] w fun en w'=>en = .returned (.int .i64 (YT es)) ∧ Below w.heap.size w w':=by
 refine enter (args:=[_]) Tryz.func59 Tryz.ntmps59 rfl rfl (HS.refl w []) ?_
 refine Qer ?_
 refine QB (α:=Nat) [2,4,7,8,9,10,11,12,13,14] (fun k=>[(7,.int .i64 (k : Int))]) (fun _=>_) (fun k=>k ≤ es.length ∧ YT es = YT (es.drop k)) (fun k=>es.length - k) 0 ⟨by omega,rfl⟩ aSx (fun w h=>h) (fun k hk=>?_)
 obtain ⟨hk1,hk2⟩:=hk
 refine aS5 ?_
 refine Qc rfl (fun h1=>?_) fun h1=>?_
 ·try simp only [dT] at h1
  refine aS5 ?_
  refine o_p (Qa rfl rfl rfl ZO _ rfl (by omega) (hs.some (by omega))) rfl ?_
  refine o_q (Qe rfl rfl QrM (hs.rd (i:=k) (j:=0) (by omega) rfl)) rfl ?_
  refine aS7 ?_
  refine Qc rfl (fun h2=>?_) fun h2=>?_
  ·try simp only [Bool.not_eq_true',decide_eq_false_iff_not] at h2
   refine aS5 ?_
   exact rT rfl rfl (fun w' h'=>⟨by simp only [QV];rw [hk2,Qac (by omega),if_neg (by assumption)],h'.below⟩)
  try simp only [Bool.not_eq_false',decide_eq_true_eq] at h2
  refine aS4 ?_
  try refine oWr ?_
  refine aS2 ?_
  exact Qw (k+1) (by omega) ⟨by omega,by rw [hk2,Qac (by omega),if_pos (by assumption)]⟩ aSx (fun w h=>h)
 try simp only [dN] at h1
 refine Qo rfl ?_
 refine aS4 ?_
 exact rT rfl rfl (fun w' h'=>⟨by simp only [QV];rw [hk2,Qfy (by omega)],h'.below⟩)
theorem f59 {w0 w : World} {M : List Nat} {As As' : List HA} {b cap n : Nat} {t : TypeId} {tot : Nat} {cs : List Value} (h : HS w0 M As w) (hp : QN As (.blk b t tot cs) As') (hc : cs.all Qid = true) (hn : cs.length = n) (hl : n ≤ 1000) :
    Calls Tryz.prog 59 #[.slice (some ⟨b,0,none⟩) n cap] w fun en w'=>en = .returned (.int .i64 (Yy cs)) ∧ Below w.heap.size w w':=by
  subst hn;have:=c59 w (some ⟨b,0,none⟩) cap (cs.map Go.RowKit.intOf) (by simpa using h.sl_ints hp hc) (by simpa using hl);rw [QdT hc] at this
  simpa using this
theorem c88 (w : World) (x : TEnt) (hk : x.key.length ≤ 1000000) (hv : x.val.length ≤ 1000000) : Calls Tryz.prog 88 #[.agg #[.string (bs x.key),.string (bs x.val)]] w fun en w'=>en = .returned (.bool (Ys x)) ∧ Below w.heap.size w w':=by
 refine enter (args:=[_]) Tryz.func88 Tryz.ntmps88 rfl rfl (HS.refl w []) ?_
 refine aS2 ?_
 refine oBx fun b1 _=>?_
 refine aS6 ?_
 refine o_p (Qk rfl rfl Tryz.underlying9) rfl ?_
 refine aS2 ?_
 refine o_p (Qk rfl rfl Tryz.underlying9) rfl ?_
 refine aS ?_
 try refine oWr ?_
 refine aS3 ?_
 exact rT rfl rfl (fun w' h'=>⟨by simp only [QV,Ys];congr 2;congr 1;first | omega | (rw [eq_iff_iff];omega) | (apply decide_eq_decide.2;omega),h'.below⟩)
theorem Qt9 (w : World) (a : Option Addr) (m cap : Nat) (x : List UInt8) (hs : Vl w a (x.map bv)) (hm : x.length = m) (h2 : 2 ≤ m) (hc : m ≤ cap) (hc9 : cap ≤ 9223372036854775807) : Calls Tryz.prog 131 #[.slice a m cap] w fun en w'=>en = .returned (.int .u16 (at2 x 0)) ∧ Below w.heap.size w w':=by
 refine enter (args:=[_]) Tryz.func131 Tryz.ntmps131 rfl rfl (HS.refl w []) ?_
 refine aS5 ?_
 refine QL [] Q8 ?_
 refine dP 0 ?_
 refine dV 1 rfl (Qa rfl rfl rfl QQ 0 rfl (by omega) (hs.some (by rw [List.length_map];omega))) ?_
 refine dQ 2 [] rfl (Qe rfl rfl Qem ((hs.rd (i:=0) (ZI (l:=x) (k:=0) (by omega))))) ?_
 refine dV 3 rfl (Qs rfl rfl ZA Y5) ?_
 refine dP 4 ?_
 refine dV 5 rfl (Qa rfl rfl rfl QQ 1 rfl (by omega) (hs.some (by rw [List.length_map];omega))) ?_
 refine dQ 6 [] rfl (Qe rfl rfl Qem ((hs.rd (i:=1) (ZI (l:=x) (k:=1) (by omega))))) ?_
 refine dV 7 rfl (Qs rfl rfl ZA Y5) ?_
 refine dV 8 rfl (Qit rfl rfl rfl (by decide) 8 rfl) ?_
 refine dP 9 ?_
 refine dP 10 ?_
 refine dNi ?_
 exact rT rfl rfl (fun w' h'=>⟨by rw [← QhP];rfl,h'.below⟩)
theorem c132 (w : World) (a : Option Addr) (m cap : Nat) (x : List UInt8) (hs : Vl w a (x.map bv)) (hm : x.length = m) (h2 : 4 ≤ m) (hc : m ≤ cap) (hc9 : cap ≤ 9223372036854775807) : Calls Tryz.prog 132 #[.slice a m cap] w fun en w'=>en = .returned (.int .u32 (at4 x 0)) ∧ Below w.heap.size w w':=by
 have hx2:=Qao x 0
 have hx3:=Qao x 2
 refine enter (args:=[_]) Tryz.func132 Tryz.ntmps132 rfl rfl (HS.refl w []) ?_
 refine aS5 ?_
 refine QL [] Q8 ?_
 refine dP 0 ?_
 refine dQ 1 [] rfl (Qb rfl Qka rfl (fun w1 h1=>Qt9 w1 a m cap x (hs.later h1) hm (by omega) hc hc9)) ?_
 refine dV 2 rfl (Qs rfl rfl Y5 Qag) ?_
 refine dP 3 ?_
 refine dV 4 rfl (QI _ _ 2 m rfl rfl QQ ⟨_,_,rfl,rfl⟩ rfl (by omega) (by omega)) ?_
 refine dQ 5 [] rfl (Qb rfl Qka rfl (fun w1 h1=>Qt9 w1 (X7 a cap 2 1) (m - 2) (cap - 2) (x.drop 2) (by rw [List.map_drop];exact (hs.later h1).drop (by rw [List.length_map];omega) (by omega)) (by rw [List.length_drop];omega) (by omega) (by omega) (by omega))) ?_
 refine dV 6 rfl (Qs rfl rfl Y5 Qag) ?_
 refine dV 7 rfl (Qit rfl rfl rfl (by decide) 16 rfl) ?_
 refine dP 8 ?_
 refine dP 9 ?_
 refine dNi ?_
 exact rT rfl rfl (fun w' h'=>⟨by have h9:=QhY (at2 x 0) (at2 (x.drop 2) 0) (Qao _ _) (Qao _ _);rw [QbE] at h9 ⊢;exact (congrArg Ending.returned h9),h'.below⟩)
theorem Qtd (w : World) (a : Option Addr) (cap : Nat) (l : List UInt8) (n : Int) (hw : HS w (fps [.byz a cap (l)]) [.byz a cap (l)] w) (hn : 0 ≤ n ∧ n < 65536) (hl : l.length ≤ 1000000) : Calls Tryz.prog 152 #[.slice a l.length cap,.int .u16 n] w fun en w'=>∃ g : Option Addr × Nat,en = .returned (.slice g.1 (l ++ le2 n).length g.2) ∧ QbD a cap g (l ++ le2 n).length ∧ HS w (fps [.byz a cap (l)]) [.byz g.1 g.2 (l ++ le2 n)] w':=by
 refine enter (args:=[_,_]) Tryz.func152 Tryz.ntmps152 rfl rfl hw ?_
 refine aS8 ?_
 refine o_p (Qs rfl rfl Y5 ZA) rfl ?_
 refine Qz (YP _) ?_
 refine aS ?_
 refine o_p (Qlb rfl rfl rfl (by decide) 8 rfl) rfl ?_
 refine o_p (Qs rfl rfl Y5 ZA) rfl ?_
 refine Qz (show _ = bv (by8 (n / 256)) from YP _) ?_
 refine o_h (Qp (cs:=[_,_]) rfl rfl QQ Qbs rfl rfl rfl) rfl (fun b1 _=>?_)
 refine o_h (ZE [by8 n,by8 (n / 256)] rfl rfl rfl QQ Tryz.underlying139 Qbs aPk (Xv aPk) (by simp only [List.length_append,List.length_cons,List.length_nil,le2,le4] <;> omega) (by simp only [maxLen,List.length_append,List.length_cons,List.length_nil,le2,le4] <;> omega)) rfl (fun ⟨b2,c3⟩ h4=>?_)
 refine aS2 ?_
 exact rT rfl rfl (fun w' h'=>⟨(b2,c3),rfl,h4,h'.ent aEt⟩)
theorem QuN (w : World) (a : Option Addr) (cap : Nat) (l : List UInt8) (n : Int) (hw : HS w (fps [.byz a cap (l)]) [.byz a cap (l)] w) (hn : 0 ≤ n) (hl : l.length ≤ 1000000) : Calls Tryz.prog 152 #[.slice a l.length cap,.int .u16 (n % 65536)] w fun en w'=>∃ g : Option Addr × Nat,en = .returned (.slice g.1 (l ++ le2 n).length g.2) ∧ QbD a cap g (l ++ le2 n).length ∧ HS w (fps [.byz a cap (l)]) [.byz g.1 g.2 (l ++ le2 n)] w':=by
  have h9:=Qtd w a cap l (n % 65536) hw (by omega) hl;rw [QsI] at h9;exact h9
theorem c153 (w : World) (a : Option Addr) (cap : Nat) (l : List UInt8) (n : Int) (hw : HS w (fps [.byz a cap (l)]) [.byz a cap (l)] w) (hn : 0 ≤ n ∧ n < 4294967296) (hl : l.length ≤ 1000000) : Calls Tryz.prog 153 #[.slice a l.length cap,.int .u32 n] w fun en w'=>∃ g : Option Addr × Nat,en = .returned (.slice g.1 (l ++ le4 n).length g.2) ∧ QbD a cap g (l ++ le4 n).length ∧ HS w (fps [.byz a cap (l)]) [.byz g.1 g.2 (l ++ le4 n)] w':=by
 have he9 : l ++ le4 n = (l ++ le2 n) ++ [by8 (n / 65536),by8 (n / 16777216)]:=by rw [Qtp,List.append_assoc]
 refine enter (args:=[_,_]) Tryz.func153 Tryz.ntmps153 rfl rfl hw ?_
 refine aS8 ?_
 refine o_p (Qs rfl rfl Qag Y5) rfl ?_
 refine Qz (show _ = Value.int .u16 (n % 65536) from by rw [Qru]) ?_
 refine o_h (Xw (Cs:=[.byz a cap (l)]) rfl Qjt rfl aPs (fun w1 h1 hf=>QuN w1 a cap l n hf (by omega) hl)) rfl (fun ⟨b1,c2⟩ hz3=>?_)
 refine aS ?_
 refine o_p (Qlb rfl rfl rfl (by decide) 16 rfl) rfl ?_
 refine o_p (Qs rfl rfl Qag ZA) rfl ?_
 refine Qz (show _ = bv (by8 (n / 65536)) from YP _) ?_
 refine aS ?_
 refine o_p (Qlb rfl rfl rfl (by decide) 24 rfl) rfl ?_
 refine o_p (Qs rfl rfl Qag ZA) rfl ?_
 refine Qz (show _ = bv (by8 (n / 16777216)) from YP _) ?_
 refine o_h (Qp (cs:=[_,_]) rfl rfl QQ Qbs rfl rfl rfl) rfl (fun b4 _=>?_)
 refine o_h (ZE (l:=l ++ le2 n) [by8 (n / 65536),by8 (n / 16777216)] rfl rfl rfl QQ Tryz.underlying139 Qbs aPk (Xv aPk) (by simp only [List.length_append,List.length_cons,List.length_nil,le2,le4] <;> omega) (by simp only [maxLen,List.length_append,List.length_cons,List.length_nil,le2,le4] <;> omega)) rfl (fun ⟨b5,c6⟩ h7=>?_)
 refine aS2 ?_
 exact rT rfl rfl (fun w' h'=>⟨(b5,c6),by rw [he9];rfl,by rw [he9];exact (hz3).trans h7 (by simp only [List.length_append];omega),by rw [he9];exact h'.ent aEt⟩)
theorem c154 (w : World) (a : Option Addr) (cap : Nat) (l : List UInt8) (hw : HS w (fps [.byz a cap (l)]) [.byz a cap (l)] w) (hl : l.length ≤ 1000000) : Calls Tryz.prog 154 #[.slice a l.length cap] w fun en w'=>∃ g : Option Addr × Nat,en = .returned (.slice g.1 (l ++ List.replicate (QJ l.length - l.length) 0).length g.2) ∧ QbD a cap g (l ++ List.replicate (QJ l.length - l.length) 0).length ∧ HS w (fps [.byz a cap (l)]) [.byz g.1 g.2 (l ++ List.replicate (QJ l.length - l.length) 0)] w':=by
 have hp8:=YF l.length
 have hm8 : QJ l.length % 8 = 0:=by unfold QJ;omega
 refine enter (args:=[_]) Tryz.func154 Tryz.ntmps154 rfl rfl hw ?_
 refine aS6 ?_
 refine QB (α:=Nat × Option Addr × Nat) [0,3,4,5,6,7,8,9] (fun x=>[(0,.slice x.2.1 (l ++ List.replicate x.1 0).length x.2.2)]) (fun x=>HS w (fps [.byz a cap (l)]) [.byz x.2.1 x.2.2 (l ++ List.replicate x.1 0)]) (fun x=>x.1 ≤ (QJ l.length - l.length) ∧ QbD a cap (x.2.1,x.2.2) (l ++ List.replicate x.1 0).length) (fun x=>(QJ l.length - l.length) - x.1) (0,a,cap) ⟨Nat.zero_le _,fun _=>⟨rfl,rfl⟩⟩ (by simp only [List.replicate_zero,List.append_nil];exact aSx) (fun w h=>(by simp only [List.replicate_zero,List.append_nil];exact h.ent aEt)) (fun ⟨k,a2,c2⟩ hk1=>?_)
 dsimp only
 simp only [] at hk1
 obtain ⟨hk2,hk3⟩:=hk1
 have hlk : (l ++ List.replicate k 0).length = l.length + k:=by simp
 refine aS5 ?_
 refine o_p (Qiy rfl rfl rfl (by omega) (by omega)) rfl ?_
 refine aS2 ?_
 refine Qc rfl (fun h1=>?_) fun h1=>?_
 ·try simp only [Bool.not_eq_true',decide_eq_false_iff_not] at h1
  have hk : k < (QJ l.length - l.length):=by have hq:=h1;rw [hlk] at hq;omega
  have hrep : l ++ List.replicate (k + 1) 0 = (l ++ List.replicate k 0) ++ [0]:=by rw [List.replicate_succ',List.append_assoc]
  refine aS4 ?_
  refine o_h (Qp (cs:=[_]) rfl rfl QQ Qbs rfl rfl rfl) rfl (fun b2 _=>?_)
  refine o_h (ZE (l:=l ++ List.replicate k 0) [0] rfl rfl rfl QQ Tryz.underlying139 Qbs aPk (Xv aPk) (by simp only [List.length_replicate,List.length_append,List.length_cons,List.length_nil,le2,le4] <;> omega) (by simp only [maxLen,List.length_replicate,List.length_append,List.length_cons,List.length_nil,le2,le4] <;> omega)) rfl (fun ⟨b3,c4⟩ h5=>?_)
  refine aS3 ?_
  exact Qw (k + 1,b3,c4) (by (try simp only []);omega) (by simp only [];rw [hrep];exact ⟨by omega,hk3.trans h5 (by simp only [List.length_append];omega)⟩) (by dsimp only;rw [hrep];exact aSx) (fun w h=>by dsimp only;rw [hrep];exact h.ent aEt)
 try simp only [Bool.not_eq_false',decide_eq_true_eq] at h1
 have hk : k = (QJ l.length - l.length):=by have hq:=h1;rw [hlk] at hq;omega
 subst hk
 refine Qo rfl ?_
 refine aS5 ?_
 exact rT rfl rfl (fun w' h'=>⟨(a2,c2),rfl,hk3,h'.ent aEt⟩)
theorem c156 (w : World) (a : Option Addr) (cap : Nat) (l : List UInt8) (c : Int) (hw : HS w (fps [.byz a cap (l)]) [.byz a cap (l)] w) (hc9 : 0 ≤ c ∧ c < 4294967296) (hl : l.length ≤ 900000) : Calls Tryz.prog 156 #[.slice a l.length cap,.int .i64 c] w fun en w'=>∃ g : Option Addr × Nat,en = .returned (.slice g.1 (l ++ Qak c).length g.2) ∧ QbD a cap g (l ++ Qak c).length ∧ HS w (fps [.byz a cap (l)]) [.byz g.1 g.2 (l ++ Qak c)] w':=by
 have he9 : l ++ Qak c = ((l ++ le2 8) ++ [0,0]) ++ le4 c:=by simp only [Qak,List.append_assoc]
 have l2 : (l ++ le2 8).length = l.length + 2:=by rw [List.length_append];rfl
 have l3 : ((l ++ le2 8) ++ [0,0]).length = l.length + 4:=by rw [List.length_append,l2];rfl
 refine enter (args:=[_,_]) Tryz.func156 Tryz.ntmps156 rfl rfl hw ?_
 refine aS7 ?_
 refine o_h (Xw (Cs:=[.byz a cap (l)]) rfl Qjt rfl aPs (fun w1 h1 hf=>Qtd w1 a cap l 8 hf (by omega) (by omega))) rfl (fun ⟨b1,c2⟩ hz3=>?_)
 refine aS5 ?_
 refine o_h (Qp (cs:=[_,_]) rfl rfl QQ Qbs rfl rfl rfl) rfl (fun b4 _=>?_)
 refine o_h (ZE (l:=l ++ le2 8) [0,0] rfl rfl rfl QQ Tryz.underlying139 Qbs aPk (Xv aPk) (by simp only [List.length_append,List.length_cons,List.length_nil,le2,le4] <;> omega) (by simp only [maxLen,List.length_append,List.length_cons,List.length_nil,le2,le4] <;> omega)) rfl (fun ⟨b5,c6⟩ h7=>?_)
 refine aS6 ?_
 refine o_p (Qs rfl rfl Zo Qag) rfl ?_
 refine Qz (show _ = Value.int .u32 c from by rw [Qgg];congr 1;omega) ?_
 refine o_h (Xw (Cs:=[.byz b5 c6 ((l ++ le2 8) ++ [0,0])]) rfl Qno rfl aPs (fun w1 h1 hf=>c153 w1 b5 c6 ((l ++ le2 8) ++ [0,0]) c hf hc9 (by omega))) rfl (fun ⟨b8,c9⟩ hz10=>?_)
 refine aS2 ?_
 exact rT rfl rfl (fun w' h'=>⟨(b8,c9),by rw [he9];rfl,by rw [he9];exact ((hz3).trans h7 (by simp only [List.length_append];omega)).trans hz10 (by simp only [List.length_append];omega),by rw [he9];exact h'.ent aEt⟩)
end Go.Proofs
namespace Gx
open Go Go.RowKit
theorem Qnx {s : List UInt8} {k : Nat} (h : k < s.length) : zer (s.take (k + 1)) = (zer (s.take k) && decide (s.getD k 0 = 0)):=by
 unfold zer;rw [List.take_add_one,List.getElem?_eq_getElem h,List.all_append,List.getD_eq_getElem?_getD,List.getElem?_eq_getElem h];simp
theorem QsU {s : List UInt8} {k : Nat} (h : k < s.length) (h2 : ¬ s.getD k 0 = 0) : zer s = false:=by
 cases hb : zer s with
 | false=>rfl
 | true=>
  unfold zer at hb;have:=List.all_eq_true.1 hb _ (List.getElem_mem h);rw [List.getD_eq_getElem?_getD,List.getElem?_eq_getElem h] at h2;simp at this h2;exact absurd this h2
theorem u8z0 {u : UInt8} : (u.toNat : Int) = 0 ↔ u = 0:=by
 constructor
 ·intro h;exact UInt8.toNat_inj.1 (by have : (0 : UInt8).toNat = 0:=rfl;omega)
 ·intro h;subst h;rfl
def Xx (x : TEnt) (c : Int) : Int:=if 1 ≤ x.key.length ∧ x.key.length ≤ 40 then if x.key.length + x.val.length ≤ 88 then if 0 ≤ c ∧ c ≤ 120 then 0 else 2 else 8 else 3
structure NdP (n : Nd) : Prop where
 el : n.es.length ≤ 1000
 es : ∀ x ∈ n.es,x.key.length ≤ 300 ∧ x.val.length ≤ 300
 cl : n.cs.length = 0 ∨ n.cs.length = n.es.length + 1
 cs : ∀ c ∈ n.cs,0 ≤ c ∧ c < 4294967296
theorem NdW.ndp {n : Nd} (h : NdW n) (hl : n.es.length ≤ 1000) : NdP n:=
 ⟨hl,fun x hx=>by have:=h.es x hx;simp only [XZ,decide_eq_true_eq] at this;omega,h.cl,fun c hc=>by have:=h.cs c hc;omega⟩
theorem NdP.kid {n : Nd} (h : NdP n) {i : Nat} (hi : i ≤ n.es.length) : 0 ≤ QR n.cs i ∧ QR n.cs i < 4294967296:=by
 unfold QR;split
 ·omega
 ·have hl : i < n.cs.length:=by have:=h.cl;omega
  rw [List.getD_eq_getElem?_getD,List.getElem?_eq_getElem hl];exact h.cs _ (List.getElem_mem hl)
theorem Qq4 {n m : Nat} (h : n ≤ 8 * m) : QJ n ≤ 8 * m:=by unfold QJ;omega
theorem Qn7 {n m : Nat} (h : n % 8 = 0) : QJ (n + m) = n + QJ m:=by unfold QJ;omega
theorem NdP.ents {n : Nd} (h : NdP n) : ∀ k,k ≤ n.es.length → (QF n k).length ≤ 608 * k ∧ (QF n k).length % 8 = 0
 | 0,_=>by simp [QF]
 | k + 1,hk=>by
  have ih:=h.ents k (by omega);have hx:=h.es _ (Qy (show k < n.es.length by omega));have hsz : (nth n.es k).sz = 8 + (nth n.es k).key.length + (nth n.es k).val.length:=rfl;have h1:=Qq4 (n:=(nth n.es k).sz) (m:=76) (by omega);have h2 : QJ (nth n.es k).sz % 8 = 0:=by unfold QJ;omega
  have h3 : (QF n (k + 1)).length = (QF n k).length + QJ (nth n.es k).sz:=by
   show (QF n k ++ _).length = _;rw [List.length_append,Qc2]
  omega
def QhD (n : Nd) (k : Nat) : List UInt8:=if k ≤ n.es.length then QF n k else X6 n
theorem Qkk {n : Nd} {k : Nat} (h : k ≤ n.es.length) : QhD n k = QF n k:=if_pos h
theorem QhT (n : Nd) : QhD n (n.es.length + 1) = X6 n:=if_neg (by omega)
theorem Qmw {n : Nd} {k : Nat} (h : k < n.es.length) : QhD n (k + 1) = QF n k ++ XN (nth n.es k) (QR n.cs k):=by
 rw [Qkk (by omega)];rfl
end Gx
namespace Go.Proofs
open Go Go.RowKit Gx
attribute [local irreducible] Go.Calls Gx.S Gx.O Gx.D Gx.OpP Gx.OpQ Gx.OpH
set_option maxRecDepth 20000
theorem Qsx : Qt Tryz.prog 178 = true:=by kernel_rfl
theorem Qr6 : Qt Tryz.prog 121 = true:=by kernel_rfl
theorem QpA : Qt Tryz.prog 95 = true:=by kernel_rfl
theorem Qcx : Qt Tryz.prog 94 = true:=by kernel_rfl
theorem Qrs : Qt Tryz.prog 86 = true:=by kernel_rfl
theorem c94 (w : World) (n : Int) (c : Nat) (hn : 0 ≤ n ∧ n ≤ 9223372036854775807) (hc : c ≤ 1000) : Calls Tryz.prog 94 #[.int .i64 n,.int .i64 (c : Int)] w fun en w'=>en = .returned (.string (bs (Qbt c n))) ∧ Below w.heap.size w w':=by
 refine enter (args:=[_,_]) Tryz.func94 Tryz.ntmps94 rfl rfl (HS.refl w []) ?_
 iterate 14 refine aS ?_
 refine QB (α:=Nat × Int × List UInt8 × Option Addr × Nat) [0,5,6,7,8,9,10,11,12,13,14,15,16,17,18,19] (fun x=>[(6,.int .i64 (x.1 : Int)),(0,.int .i64 x.2.1),(5,.slice x.2.2.2.1 x.2.2.1.length x.2.2.2.2)]) (fun x=>HS w [] [.own (.slice x.2.2.2.1 x.2.2.1.length x.2.2.2.2) 5 1 (x.2.2.1.length) ((x.2.2.1).map bv)]) (fun x=>x.1 ≤ c ∧ x.2.2.1.length = x.1 ∧ (0 ≤ x.2.1 ∧ x.2.1 ≤ 9223372036854775807) ∧ Qbt c n = x.2.2.1 ++ Qbt (c - x.1) x.2.1) (fun x=>c - x.1) (0,n,[],none,0) ⟨Nat.zero_le _,rfl,hn,rfl⟩ aSx (fun w h=>(h.own_nil 5 1).ent aEt) (fun ⟨k,m,p,ga,gc⟩ hx=>?_)
 dsimp only
 obtain ⟨hk1,hpl,hm,hst⟩:=hx
 simp only [] at hk1 hpl hm hst
 refine aS7 ?_
 refine Qc rfl (fun h1=>?_) fun h1=>?_
 ·try simp only [dT] at h1
  have hk : k < c:=by omega
  refine aS7 ?_
  refine o_p (Qiy rfl rfl rfl (by omega) (by omega)) rfl ?_
  refine o_p (Qs rfl rfl Zo ZA) rfl ?_
  refine Qz (show _ = bv (by8 m) from (YP _).trans (by rw [Qbg (show m % 256 % 256 = m % 256 by omega)])) ?_
  refine o_h (Qp (cs:=[_]) rfl rfl QQ Qbs rfl rfl rfl) rfl (fun b2 _=>?_)
  refine o_h (XM _ rfl rfl rfl QQ Tryz.underlying139 Qbs rfl aPk (Xv aPk) rfl (by intro u hu;simp only [List.mem_cons,List.mem_nil_iff,or_false] at hu;subst hu;rfl) (by omega) (by simp only [maxLen];omega)) rfl (fun b3 _=>?_)
  refine aS4 ?_
  refine o_p (Qax rfl rfl rfl (by omega) (by omega) (by omega)) rfl ?_
  refine aS6 ?_
  try refine oWr ?_
  refine aS2 ?_
  exact Qw (k + 1,m / 256,p ++ [by8 m],b3.1,b3.2) (by (try simp only []);omega) ⟨by (try simp only []);omega,by simp [hpl],by (try simp only []);omega,by simp only [];rw [hst,show c - k = (c - (k + 1)) + 1 by omega,Qbt,List.append_assoc];rfl⟩ (by dsimp only;rw [List.length_append];exact aSx) (fun w h=>by dsimp only;rw [List.length_append,List.map_append];exact h.ent aEt)
 try simp only [dN] at h1
 obtain rfl : k = c:=by omega
 rw [Nat.sub_self,Qbt,List.append_nil] at hst
 refine Qo rfl ?_
 refine aS3 ?_
 refine o_q (Qa3 rfl rfl Tryz.underlying139 Tryz.underlying9 Tryz.underlying5 aPk (Qc1 _)) rfl ?_
 refine aS2 ?_
 exact rT rfl rfl (fun w' h'=>⟨by rw [QbW,hst];rfl,h'.below⟩)
theorem Qlh (c : Nat) : XB [.int .u8 0] (c * 1) = (List.replicate c (0 : UInt8)).map bv:=by
  rw [Nat.mul_one,List.map_replicate];exact Qdw _ _
theorem Qo6 {m : Int} (h : 0 ≤ m ∧ m ≤ 1000000000000) : Value.int .i64 (IntKind.i64.wrap ((-m).tdiv 8)) = Value.int .i64 (-(m / 8)):=by
  rw [Int.neg_tdiv,Int.tdiv_eq_ediv_of_nonneg h.1];exact Qen (by omega) (by omega)
theorem QoK {m : Int} (h : 0 ≤ m) : (-m).tmod 8 = -(m % 8):=by rw [Int.neg_tmod,Int.tmod_eq_emod_of_nonneg h]
theorem c86 (w : World) (c : Nat) (hc : c ≤ 100000) : Calls Tryz.prog 86 #[.int .i64 (c : Int)] w fun en w'=>en = .returned (.string (bs (List.replicate c 0))) ∧ Below w.heap.size w w':=by
 refine enter (args:=[_]) Tryz.func86 Tryz.ntmps86 rfl rfl (HS.refl w []) ?_
 refine aS7 ?_
 refine o_p (QoS rfl rfl rfl ) rfl ?_
 refine o_p (Qfu rfl rfl rfl ) rfl ?_
 refine Qz (show _ = Value.int .i64 (c : Int) from congrArg (Value.int .i64) (by split <;> split <;> omega)) ?_
 refine o_h (Qhk (n:=c) rfl rfl rfl QQ Qbs (by omega) (by omega)) rfl (fun b1 _=>?_)
 refine o_q (Qc6 rfl rfl Tryz.underlying139 Tryz.underlying9 Tryz.underlying5 aPk (by simp [QD]) (by intro v hv;rw [Qlh] at hv;exact Qc1 _ v hv)) rfl ?_
 refine aS2 ?_
 exact rT rfl rfl (fun w' h'=>⟨by rw [Qlh,QbW];rfl,h'.below⟩)
theorem c53 (w : World) (s : List UInt8) (hm : s.length ≤ 1000000000) : Calls Tryz.prog 53 #[.string (bs s)] w fun en w'=>en = .returned (.bool (zer s)) ∧ Below w.heap.size w w':=by
 refine enter (args:=[_]) Tryz.func53 Tryz.ntmps53 rfl rfl (HS.refl w []) ?_
 refine Qaq ?_
 refine QB (α:=Nat) [2,3,4,5,6,7,8,9,10,11,12,13] (fun k=>[(3,.int .i64 (k : Int))]) (fun _=>_) (fun k=>k ≤ s.length ∧ zer (s.take k) = true) (fun k=>s.length - k) 0 ⟨Nat.zero_le _,rfl⟩ aSx (fun w h=>h) (fun k hkk=>?_)
 obtain ⟨hk1,hk2⟩:=hkk
 refine aS5 ?_
 refine o_p (Qk rfl rfl Tryz.underlying9) rfl ?_
 refine aS2 ?_
 refine Qc rfl (fun h1=>?_) fun h1=>?_
 ·try simp only [dT] at h1
  have hk : k < s.length:=by omega
  have hst:=Qnx hk
  refine aS7 ?_
  refine o_p (Ze rfl rfl rfl Tryz.underlying9 (k) (by omega) (by omega)) rfl ?_
  refine aS2 ?_
  refine Qc rfl (fun h2=>?_) fun h2=>?_
  ·try simp only [Bool.not_eq_true',decide_eq_false_iff_not] at h2
   have hz : ¬ s.getD k 0 = 0:=by have hq:=h2;intro h9;exact hq (u8z0.2 h9)
   have hf:=QsU hk hz
   refine aS4 ?_
   exact rT rfl rfl (fun w' h'=>⟨by rw [hf];rfl,h'.below⟩)
  try simp only [Bool.not_eq_false',decide_eq_true_eq] at h2
  have hz : s.getD k 0 = 0:=u8z0.1 (by have hq:=h2;simpa using hq)
  refine aS5 ?_
  try refine oWr ?_
  refine aS2 ?_
  exact Qw (k + 1) (by omega) ⟨by omega,by rw [hst,hk2,hz];rfl⟩ aSx (fun w h=>h)
 try simp only [dN] at h1
 obtain rfl : k = s.length:=by omega
 rw [List.take_length] at hk2
 refine Qo rfl ?_
 refine aS4 ?_
 exact rT rfl rfl (fun w' h'=>⟨by rw [hk2];rfl,h'.below⟩)
theorem c178 (w : World) (m : Int) (hm : 0 ≤ m ∧ m ≤ 1000000000000) : Calls Tryz.prog 178 #[.int .i64 (-m),.int .i64 8] w fun en w'=>en = .returned (.int .i64 (-((m + 7) / 8))) ∧ Below w.heap.size w w':=by
 refine enter (args:=[_,_]) Tryz.func178 Tryz.ntmps178 rfl rfl (HS.refl w []) ?_
 refine aS8 ?_
 refine o_p (Qo4 rfl rfl rfl (by decide)) rfl ?_
 refine Qz (Qo6 hm) ?_
 refine aS7 ?_
 refine o_p (Qn4 rfl rfl rfl (by decide)) rfl ?_
 refine Qz (show _ = Value.int .i64 (-(m % 8)) from by rw [QoK hm.1]) ?_
 refine aS2 ?_
 refine Qc rfl (fun h1=>?_) fun h1=>?_
 ·try simp only [dT] at h1
  refine aS3 ?_
  try refine oWr ?_
  refine aS7 ?_
  exact rT rfl rfl (fun w' h'=>⟨by simp only [QV];congr 2;omega,h'.below⟩)
 try simp only [dN] at h1
 refine aS6 ?_
 exact rT rfl rfl (fun w' h'=>⟨by simp only [QV];congr 2;omega,h'.below⟩)
theorem c121 (w : World) (m : Int) (hm : 0 ≤ m ∧ m ≤ 1000000000000) : Calls Tryz.prog 121 #[.int .i64 m,.int .i64 8] w fun en w'=>en = .returned (.int .i64 ((m + 7) / 8)) ∧ Below w.heap.size w w':=by
 refine enter (args:=[_,_]) Tryz.func121 Tryz.ntmps121 rfl rfl (HS.refl w []) ?_
 refine aS8 ?_
 try refine oWr ?_
 refine Qz (show _ = Value.int .i64 (-m) from by rw [Int.zero_sub]) ?_
 refine aS ?_
 refine o_q (Qb rfl Qsx rfl (fun w1 h1=>c178 w1 m hm)) rfl ?_
 refine aS ?_
 try refine oWr ?_
 refine Qz (show _ = Value.int .i64 ((m + 7) / 8) from by congr 1;omega) ?_
 refine aS2 ?_
 exact rT rfl rfl (fun w' h'=>⟨by rfl,h'.below⟩)
theorem c95 (w : World) (m : Nat) (hm : m ≤ 1000000000) : Calls Tryz.prog 95 #[.int .i64 (m : Int)] w fun en w'=>en = .returned (.int .i64 ((QJ m : Nat) : Int)) ∧ Below w.heap.size w w':=by
 refine enter (args:=[_]) Tryz.func95 Tryz.ntmps95 rfl rfl (HS.refl w []) ?_
 refine aS7 ?_
 refine o_q (Qb rfl Qr6 rfl (fun w1 h1=>c121 w1 (m : Int) (by omega))) rfl ?_
 refine aS ?_
 try refine oWr ?_
 refine aS2 ?_
 exact rT rfl rfl (fun w' h'=>⟨by simp only [QV,QJ];congr 2,h'.below⟩)
theorem c29 (w : World) (x : TEnt) (c : Int) (hk : x.key.length ≤ 1000000) (hv : x.val.length ≤ 1000000) : Calls Tryz.prog 29 #[.agg #[.string (bs x.key),.string (bs x.val)],.int .i64 c] w fun en w'=>en = .returned (.int .i64 (Xx x c)) ∧ Below w.heap.size w w':=by
 refine enter (args:=[_,_]) Tryz.func29 Tryz.ntmps29 rfl rfl (HS.refl w []) ?_
 refine aS2 ?_
 refine oBx fun b1 _=>?_
 refine aS7 ?_
 refine o_p (Qk rfl rfl Tryz.underlying9) rfl ?_
 refine o_q (Qb rfl QbK rfl (fun w1 h1=>c40 w1 _ _ _)) rfl ?_
 refine aS2 ?_
 refine Qc rfl (fun h2=>?_) fun h2=>?_
 ·try simp only [Bool.not_eq_true',Bool.and_eq_false_iff,decide_eq_false_iff_not] at h2
  have hz : Xx x c = 3:=by have hq:=h2;unfold Xx;rw [if_neg (by first | omega | (simp at hq;omega))]
  refine aS4 ?_
  exact rT rfl rfl (fun w' h'=>⟨by rw [hz];rfl,h'.below⟩)
 try simp only [Bool.not_eq_false',Bool.and_eq_true,decide_eq_true_eq] at h2
 have hk1 : 1 ≤ x.key.length ∧ x.key.length ≤ 40:=by have hq:=h2;first | omega | (simp at hq;omega)
 refine aS6 ?_
 refine o_p (Qk rfl rfl Tryz.underlying9) rfl ?_
 refine aS2 ?_
 refine o_p (Qk rfl rfl Tryz.underlying9) rfl ?_
 refine aS ?_
 try refine oWr ?_
 refine aS2 ?_
 refine Qc rfl (fun h3=>?_) fun h3=>?_
 ·try simp only [dT] at h3
  have hz : Xx x c = 8:=by have hq:=h3;unfold Xx;rw [if_pos hk1,if_neg (by omega)]
  refine aS4 ?_
  exact rT rfl rfl (fun w' h'=>⟨by rw [hz];rfl,h'.below⟩)
 try simp only [dN] at h3
 have hk2 : x.key.length + x.val.length ≤ 88:=by have hq:=h3;omega
 refine aS5 ?_
 refine o_q (Qb rfl QbK rfl (fun w1 h1=>c40 w1 _ _ _)) rfl ?_
 refine aS2 ?_
 refine Qc rfl (fun h4=>?_) fun h4=>?_
 ·try simp only [Bool.not_eq_true',Bool.and_eq_false_iff,decide_eq_false_iff_not] at h4
  have hz : Xx x c = 2:=by have hq:=h4;unfold Xx;rw [if_pos hk1,if_pos hk2,if_neg (by first | omega | (simp at hq;omega))]
  refine aS4 ?_
  exact rT rfl rfl (fun w' h'=>⟨by rw [hz];rfl,h'.below⟩)
 try simp only [Bool.not_eq_false',Bool.and_eq_true,decide_eq_true_eq] at h4
 have hz : Xx x c = 0:=by have hq:=h4;unfold Xx;rw [if_pos hk1,if_pos hk2,if_pos (by first | omega | (simp at hq;omega))]
 refine aS5 ?_
 exact rT rfl rfl (fun w' h'=>⟨by rw [hz];rfl,h'.below⟩)
theorem c30 (w : World) (x : TEnt) (c : Int) (hk : x.key.length ≤ 300) (hv : x.val.length ≤ 300) (hc : 0 ≤ c ∧ c < 4294967296) : Calls Tryz.prog 30 #[.agg #[.string (bs x.key),.string (bs x.val)],.int .i64 c] w fun en w'=>en = .returned (.string (bs (XN x c))) ∧ Below w.heap.size w w':=by
 have hsz : x.sz = 8 + x.key.length + x.val.length:=rfl
 have hp8:=YF x.sz
 have l2:=Yr 2 ((QJ x.sz : Nat) : Int)
 have lk:=Yr 1 (x.key.length : Int)
 have lv:=Yr 1 (x.val.length : Int)
 have lc:=Yr 4 c
 refine enter (args:=[_,_]) Tryz.func30 Tryz.ntmps30 rfl rfl (HS.refl w []) ?_
 refine aS2 ?_
 refine oBx fun b1 _=>?_
 refine aS6 ?_
 refine o_p (Qk rfl rfl Tryz.underlying9) rfl ?_
 refine aS ?_
 try refine oWr ?_
 refine aS2 ?_
 refine o_p (Qk rfl rfl Tryz.underlying9) rfl ?_
 refine aS ?_
 try refine oWr ?_
 refine aS ?_
 refine Qz (show _ = Value.int .i64 ((x.sz : Nat) : Int) from by congr 1) ?_
 refine aS2 ?_
 refine QL [] Q8 ?_
 refine dP 0 ?_
 refine dQ 1 [] rfl (Qb rfl QpA rfl (fun w1 h1=>c95 w1 x.sz (by omega))) ?_
 refine dQ 2 [] rfl (Qb rfl Qcx rfl (fun w1 h1=>c94 w1 ((QJ x.sz : Nat) : Int) 2 (by omega) (by omega))) ?_
 refine dFa 3 ?_
 refine dLd 4 [] ?_
 refine dV 5 rfl (Qk rfl rfl Tryz.underlying9) ?_
 refine dQ 6 [] rfl (Qb rfl Qcx rfl (fun w1 h1=>c94 w1 (x.key.length : Int) 1 (by omega) (by omega))) ?_
 refine dV 7 rfl (Xl rfl rfl rfl (by (try simp only [List.length_append,List.length_cons,List.length_nil,List.length_replicate,List.length_take,List.length_drop]);omega)) ?_
 refine dFa 8 ?_
 refine dLd 9 [] ?_
 refine dV 10 rfl (Qk rfl rfl Tryz.underlying9) ?_
 refine dQ 11 [] rfl (Qb rfl Qcx rfl (fun w1 h1=>c94 w1 (x.val.length : Int) 1 (by omega) (by omega))) ?_
 refine dV 12 rfl (Xl rfl rfl rfl (by (try simp only [List.length_append,List.length_cons,List.length_nil,List.length_replicate,List.length_take,List.length_drop]);omega)) ?_
 refine dP 13 ?_
 refine dQ 14 [] rfl (Qb rfl Qcx rfl (fun w1 h1=>c94 w1 c 4 (by omega) (by omega))) ?_
 refine dV 15 rfl (Xl rfl rfl rfl (by (try simp only [List.length_append,List.length_cons,List.length_nil,List.length_replicate,List.length_take,List.length_drop]);omega)) ?_
 refine dFa 16 ?_
 refine dLd 17 [] ?_
 refine dV 18 rfl (Xl rfl rfl rfl (by (try simp only [List.length_append,List.length_cons,List.length_nil,List.length_replicate,List.length_take,List.length_drop]);omega)) ?_
 refine dFa 19 ?_
 refine dLd 20 [] ?_
 refine dV 21 rfl (Xl rfl rfl rfl (by (try simp only [List.length_append,List.length_cons,List.length_nil,List.length_replicate,List.length_take,List.length_drop]);omega)) ?_
 refine dP 22 ?_
 refine dQ 23 [] rfl (Qb rfl QpA rfl (fun w1 h1=>c95 w1 x.sz (by omega))) ?_
 refine dP 24 ?_
 refine dP 25 ?_
 try refine dWr ?_
 refine QG (show _ = Value.int .i64 ((QJ x.sz - x.sz : Nat) : Int) from by congr 1;omega) ?_
 refine dQ 26 [] rfl (Qb rfl Qrs rfl (fun w1 h1=>c86 w1 (QJ x.sz - x.sz) (by omega))) ?_
 refine dV 27 rfl (Xl rfl rfl rfl (by (try simp only [List.length_append,List.length_cons,List.length_nil,List.length_replicate,List.length_take,List.length_drop]);omega)) ?_
 refine dP 28 ?_
 refine dNi ?_
 exact rT rfl rfl (fun w' h'=>⟨by simp only [QV,XN,QmJ,Qps,QoH,List.append_assoc,List.cons_append,List.nil_append],h'.below⟩)
end Go.Proofs
