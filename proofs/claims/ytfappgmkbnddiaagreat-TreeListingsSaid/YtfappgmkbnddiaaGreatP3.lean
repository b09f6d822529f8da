/- Contracts of the program's functions, proved by walking them with the rules of the Gx texts; without conditions beyond those that each contract names. -/
import Derived.WalkKit
import Derived.Deep.Draws
import Derived.TacticsIn
import Derived.OrdersIn
import Derived.RangeFuncLeaves
import Derived.Lib.Strings
import Derived.Laws.BytesArg
import Derived.Laws.IdiomStrings
import Derived.Deep.Quiet
import Derived.ProofKit
import Derived.OpenShut
import Derived.Laws.StructEq
import Derived.ChangeKeysEq
import Derived.Laws.Externs
import Derived.Lib.Overlaps
import Derived.Carry
import Derived.Laws.Small
import Derived.Lib.Bytealg
import Derived.Test.YtfappgmkbnddiaaGreatProg
import Derived.KernelRfl
import Derived.Lib.Builder
import Derived.Laws.Pointers
import Derived.RangeFuncRecord
import Derived.Test.YtfappgmkbnddiaaGreatP2
set_option linter.unusedSimpArgs false
set_option linter.unusedVariables false
set_option linter.unusedSectionVars false
namespace Go.Proofs
open Go Go.RowKit Gx
attribute [local irreducible] Go.Calls Gx.S Gx.O Gx.D Gx.OpP Gx.OpQ Gx.OpH
set_option maxRecDepth 20000
theorem Qq6 : QT Tryz.prog 126 = true:=by kernel_rfl
theorem QhY : QT Tryz.prog 105 = true:=by kernel_rfl
theorem Qgc : Qq2 Tryz.prog 171 9:=QnT Tryz.underlying171 Zb (by decide)
set_option maxHeartbeats 1000000 in
theorem c125 (w : World) (v : Vis) (pl ph : Option Addr) (c1 c7 : Nat) (s : Int) (bt : Nat) (j : Nat) (mo rm : Int) (a : Option Addr) (cap : Nat) (L : List LNd) (hw : HS w (fps [.blk c7 3 1 [.int .i64 s]]) [.blk c7 3 1 [.int .i64 s]] w) (hc1 : Rd w (fps [.blk c7 3 1 [.int .i64 s]]) c1 0 (.pointer (some ⟨bt,0,none⟩))) (ht : TbR w (fps [.blk c7 3 1 [.int .i64 s]]) bt (j : Int) mo rm a L.length cap) (hs : Nt w (fps [.blk c7 3 1 [.int .i64 s]]) a L) (hj : j ≤ 3) (hmo : 0 ≤ mo ∧ mo ≤ 1000) (hi : v.i < L.length) (hl : L.length ≤ 1000) (hel : (nth L v.i).es.length ≤ 1000) (hcl : (nth L v.i).cs.length ≤ 1000) (hc0 : (nth L 0).cs.length ≤ 1000) (he0 : (nth L 0).es.length ≤ 1000) (hpl : ZW w (fps [.blk c7 3 1 [.int .i64 s]]) pl v.lo) (hph : ZW w (fps [.blk c7 3 1 [.int .i64 s]]) ph v.hi) (hlo : ∀ k,v.lo = some k → (QW (j : Int) k = true ∧ k.length ≤ 1000000)) (hhi : ∀ k,v.hi = some k → (QW (j : Int) k = true ∧ k.length ≤ 1000000)) (hok : ∀ x ∈ (nth L v.i).es,QW (j : Int) x.key = true ∧ x.key.length ≤ 1000000) : Calls Tryz.prog 125 #[.int .i64 (v.i : Int),.int .i64 v.d,.pointer pl,.pointer ph,.pointer (some ⟨c1,0,none⟩),.pointer (some ⟨c7,0,none⟩)] w fun en w'=>∃ g : Unit,en = .returned (.tuple #[.int .i64 (erV (⟨(j : Int),mo,rm,pln L⟩ : Tre) s v).1,.int .i64 (erV (⟨(j : Int),mo,rm,pln L⟩ : Tre) s v).2]) ∧ True ∧ HS w (fps [.blk c7 3 1 [.int .i64 s]]) [.blk c7 3 1 [.int .i64 (stV (⟨(j : Int),mo,rm,pln L⟩ : Tre) s v)]] w':=by
 have h00 : 0 < L.length:=by omega
 have hn : nth (pln L) v.i = (nth L v.i).pl:=Qh hi
 have hn0 : nth (pln L) 0 = (nth L 0).pl:=Qh h00
 have hG : Zh (⟨(j : Int),mo,rm,pln L⟩ : Tre) v = (decide (0 < v.i) && (decide (((nth L v.i).es.length : Int) < mo / 2) || ((decide (((nth L 0).es.length : Int) = 0) && decide ((v.i : Int) ∈ (nth L 0).cs)) && decide (((nth L v.i).es.length : Int) ≤ rm)))):=by unfold Zh;rw [hn,hn0];simp only [LNd.pl];congr 3;congr 1;apply decide_eq_decide.2;omega
 have hO : Za (⟨(j : Int),mo,rm,pln L⟩ : Tre) v = (nth L v.i).es.any (Zs (⟨(j : Int),mo,rm,pln L⟩ : Tre) v):=by unfold Za;rw [hn];rfl
 have hE : erV (⟨(j : Int),mo,rm,pln L⟩ : Tre) s v = ((v.i : Int),if Zh (⟨(j : Int),mo,rm,pln L⟩ : Tre) v = true then 14 else if Za (⟨(j : Int),mo,rm,pln L⟩ : Tre) v = true then 9 else if (nth L v.i).cs.length = 0 then (if (if s = 0 then v.d else s) = v.d then 0 else 22) else 0):=by unfold erV;rw [hn];rfl
 have hS : stV (⟨(j : Int),mo,rm,pln L⟩ : Tre) s v = if Zh (⟨(j : Int),mo,rm,pln L⟩ : Tre) v = true then s else if Za (⟨(j : Int),mo,rm,pln L⟩ : Tre) v = true then s else if (nth L v.i).cs.length = 0 then (if s = 0 then v.d else s) else s:=by unfold stV;rw [hn];rfl
 refine enter (args:=[_,_,_,_,_,_]) Tryz.func125 Tryz.ntmps125 rfl rfl hw ?_
 refine aS7 ?_
 refine o_q (Qe rfl rfl Yd (hc1)) rfl ?_
 refine aS3 ?_
 refine o_q (Qe rfl rfl YD (ht 3 _ rfl)) rfl ?_
 refine aS ?_
 refine o_p (Qa rfl rfl rfl Qp (v.i) (by omega) (by omega) (Rw.some hs.1 (by omega))) rfl ?_
 refine o_q (QY _ rfl rfl Xh rfl (Rw.rd hs.1 hi)) rfl ?_
 refine oAl (fun b1 _=>?_) Xa
 refine oSt ?_
 refine aS4 ?_
 refine o_q (Qe rfl rfl Yd (hc1)) rfl ?_
 refine aS3 ?_
 refine o_q (Qe rfl rfl YD (ht 3 _ rfl)) rfl ?_
 refine o_p (Qa rfl rfl rfl Qp (0) (by omega) (by omega) (Rw.some hs.1 (by omega))) rfl ?_
 refine o_q (QY _ rfl rfl Xh rfl (Rw.rd hs.1 (i:=0) h00)) rfl ?_
 refine oAl (fun b2 _=>?_) Xa
 refine oSt ?_
 refine aS6 ?_
 refine Qj (L':=[(0,_),(1,_),(2,_),(3,_),(4,_),(5,_),(10,_),(11,_),(12,_),(13,_),(33,_)]) aSx (fun _ h=>h) ?_
 refine Xn (α:=Unit) [10,11,14,34,35,36,37,38,39,40,41,42,43,44,45,46,47,48,49,50,51,52,53,54,55,56,57,58,59,60,61,62,63,64] (fun _=>[]) (fun _=>HS w (fps [.blk c7 3 1 [.int .i64 s]]) [.blk b2 102 3 (nth L 0).vals,.blk b1 102 3 (nth L v.i).vals,.blk c7 3 1 [.int .i64 s]]) (fun _=>Zh (⟨(j : Int),mo,rm,pln L⟩ : Tre) v = false) ?_ ?_
 ·skip
  refine Qd rfl (fun h3=>?_) fun h3=>?_
  ·try simp only [dT] at h3
   refine aS7 ?_
   refine XD 5 38 43 _ _ rfl
    (by
     intro hg4
     have hs5:=hg4;try simp only [dT] at hs5
     refine oOn 38 hg4 ?_
     refine aS ?_
     refine oOn 38 hg4 ?_
     refine aS ?_
     refine oOn 38 hg4 ?_
     refine aS ?_
     refine oOn 38 hg4 ?_
     refine o_q (Qi rfl Qq6 rfl (fun w1 h1=>c126 w1 (nth L 0).ca (nth L 0).cc (nth L 0).cs (v.i : Int) ((hs.cs h00).later h1) (by omega))) rfl ?_
     refine o_p (Qw rfl rfl hg4 rfl) rfl ?_
     refine aS ?_
     exact oJn 5 43)
    (by
     intro hg6
     have hs7:=hg6;try simp only [dN] at hs7
     refine oOf 38 hg6 ?_
     refine oOf 38 hg6 ?_
     refine oOf 38 hg6 ?_
     refine oOf 38 hg6 ?_
     refine o_p (Qs rfl rfl hg6 rfl) rfl ?_
     refine aS ?_
     exact oJn 5 43) ?_
   refine aS3 ?_
   refine Xn (α:=Unit) [44,45,46,47,48,49,50,51,52,53,54,55,56,57,58,59,60,61,62,63] (fun _=>[(63,.bool (decide (((nth L v.i).es.length : Int) < mo / 2) || ((decide (((nth L 0).es.length : Int) = 0) && decide ((v.i : Int) ∈ (nth L 0).cs)) && decide (((nth L v.i).es.length : Int) ≤ rm))))]) (fun _=>HS w (fps [.blk c7 3 1 [.int .i64 s]]) [.blk b2 102 3 (nth L 0).vals,.blk b1 102 3 (nth L v.i).vals,.blk c7 3 1 [.int .i64 s]]) (fun _=>True) ?_ ?_
   ·skip
    refine QE [] QH ?_
    refine dFa 0 ?_
    refine dLd 1 [] ?_
    refine dV 2 rfl (QQ rfl rfl Tryz.underlying77) ?_
    refine dQ 3 [] rfl (Qe rfl rfl Yd (hc1)) ?_
    refine dQ 4 [] rfl (Qi rfl QhY rfl (fun w1 h1=>Qqr w1 bt j mo rm a L.length cap hmo (ht.next h1))) ?_
    refine dP 5 ?_
    refine dP 6 ?_
    apply Xy 50
    ·exact rfl
    ·intro hg8
     have hs9:=hg8;try simp only [dT] at hs9
     refine dOf 7 50 hg8 ?_
     refine dOf 8 50 hg8 ?_
     refine dOu 9 52 ?_
     refine dOu 10 52 ?_
     refine dOu 11 52 ?_
     refine dOu 12 52 ?_
     refine dOu 13 52 ?_
     refine dOu 14 52 ?_
     refine dOu 15 52 ?_
     refine dOu 16 52 ?_
     refine dOu 17 52 ?_
     refine dOf 18 50 hg8 ?_
     refine dV 19 rfl (Qw rfl rfl hg8 rfl) ?_
     refine Ql (show _ = Value.bool (decide (((nth L v.i).es.length : Int) < mo / 2) || ((decide (((nth L 0).es.length : Int) = 0) && decide ((v.i : Int) ∈ (nth L 0).cs)) && decide (((nth L v.i).es.length : Int) ≤ rm))) from by congr 1;first | (simp_all;done) | (simp_all;omega)) ?_
     refine dNi ?_
     exact Qn () trivial aSx (fun w h=>h.ent aEt)
    intro hg10
    have hs11:=hg10;try simp only [dN] at hs11
    refine dPo 7 50 hg10 ?_
    refine dPo 8 50 hg10 ?_
    apply Xy 52
    ·exact rfl
    ·intro hg12
     have hs13:=hg12;try simp only [Bool.and_eq_true,decide_eq_true_eq] at hs13
     refine dFo 9 52 hg12 ?_
     refine dQo 10 52 [] hg12 rfl rfl rfl (XW rfl rfl Xb aPk rfl) ?_
     refine dVo 11 52 hg12 rfl rfl rfl (QQ rfl rfl Tryz.underlying77) ?_
     refine dQo 12 52 [] hg12 rfl rfl rfl (Qe rfl rfl Yd (hc1)) ?_
     refine dPo 13 52 hg12 ?_
     refine dFo 14 52 hg12 ?_
     refine dFo 15 52 hg12 ?_
     refine dQo 16 52 [] hg12 rfl rfl rfl (Qe rfl rfl Xq (ht 2 _ rfl)) ?_
     refine dPo 17 52 hg12 ?_
     refine dVo 18 50 hg10 rfl rfl rfl (Qw rfl rfl hg12 rfl) ?_
     refine dV 19 rfl (Qs rfl rfl hg10 rfl) ?_
     refine Ql (show _ = Value.bool (decide (((nth L v.i).es.length : Int) < mo / 2) || ((decide (((nth L 0).es.length : Int) = 0) && decide ((v.i : Int) ∈ (nth L 0).cs)) && decide (((nth L v.i).es.length : Int) ≤ rm))) from by congr 1;first | (simp_all;done) | (simp_all;omega)) ?_
     refine dNi ?_
     exact Qn () trivial aSx (fun w h=>h.ent aEt)
    intro hg14
    have hs15:=hg14;try simp only [Bool.and_eq_false_iff,decide_eq_false_iff_not] at hs15
    refine dOf 9 52 hg14 ?_
    refine dOf 10 52 hg14 ?_
    refine dOf 11 52 hg14 ?_
    refine dOf 12 52 hg14 ?_
    refine dOf 13 52 hg14 ?_
    refine dOf 14 52 hg14 ?_
    refine dOf 15 52 hg14 ?_
    refine dOf 16 52 hg14 ?_
    refine dOf 17 52 hg14 ?_
    refine dVo 18 50 hg10 rfl rfl rfl (Qs rfl rfl hg14 rfl) ?_
    refine dV 19 rfl (Qs rfl rfl hg10 rfl) ?_
    refine Ql (show _ = Value.bool (decide (((nth L v.i).es.length : Int) < mo / 2) || ((decide (((nth L 0).es.length : Int) = 0) && decide ((v.i : Int) ∈ (nth L 0).cs)) && decide (((nth L v.i).es.length : Int) ≤ rm))) from by congr 1;first | (simp_all;done) | (simp_all;omega)) ?_
    refine dNi ?_
    exact Qn () trivial aSx (fun w h=>h.ent aEt)
   intro _ _
   refine Qd rfl (fun h16=>?_) fun h16=>?_
   ·try simp only [Bool.or_eq_true,decide_eq_true_eq,Bool.and_eq_true] at h16
    have hz : Zh (⟨(j : Int),mo,rm,pln L⟩ : Tre) v = true:=by rw [hG];have hq:=h16;simp only [Bool.and_eq_true,Bool.or_eq_true,decide_eq_true_eq];exact ⟨by omega,hq⟩
    refine aS6 ?_
    exact QM (rs:=[.tmp 10,.tmp 11]) rfl (.tmp rfl (.tmp rfl (.nil))) (fun w' h'=>⟨(),by rw [hE];simp only [];rw [if_pos hz];rfl,trivial,by rw [hS,if_pos hz];exact h'.ent aEt⟩)
   try simp only [Bool.or_eq_false_iff,decide_eq_false_iff_not,Bool.and_eq_false_iff] at h16
   refine aS ?_
   exact Qn () (by rw [hG,decide_eq_true (by omega),Bool.true_and];apply Bool.eq_false_iff.2;intro h9;simp only [Bool.and_eq_true,Bool.or_eq_true,decide_eq_true_eq] at h9;have hq:=h16;simp at hq h9;grind) aSx (fun w h=>h.ent aEt)
  try simp only [dN] at h3
  refine aS ?_
  exact Qn () (by rw [hG,decide_eq_false (by omega)];rfl) aSx (fun w h=>h.ent aEt)
 intro _ hz1
 refine aS9 ?_
 refine QN (α:=Nat) [10,11,16,68,69,70,71,72,73,74,75,76,77,78,79,80,81,82,83,84,85,86,87,88,89,90,91,92,93,94,95,96,97,98,99,100,101,102,103,104,105,106,107] (fun k=>[(68,.int .i64 (k : Int))]) (fun _=>HS w (fps [.blk c7 3 1 [.int .i64 s]]) [.blk b2 102 3 (nth L 0).vals,.blk b1 102 3 (nth L v.i).vals,.blk c7 3 1 [.int .i64 s]]) (fun k=>k ≤ (nth L v.i).es.length ∧ ∀ i,i < k → Zs (⟨(j : Int),mo,rm,pln L⟩ : Tre) v (nth (nth L v.i).es i) = false) (fun k=>(nth L v.i).es.length - k) 0 ⟨Nat.zero_le _,fun i h=>absurd h (Nat.not_lt_zero i)⟩ aSx (fun w h=>h.ent aEt) (fun k hx=>?_)
 obtain ⟨hk1,hk2⟩:=hx
 refine aS5 ?_
 refine Qd rfl (fun h17=>?_) fun h17=>?_
 ·try simp only [dT] at h17
  have hkl : k < (nth L v.i).es.length:=by omega
  refine aS5 ?_
  refine o_p (Qa rfl rfl rfl QB (k) (by omega) (by omega) (Rw.some (hs.es hi) (by omega))) rfl ?_
  refine o_q (QY _ rfl rfl XC rfl (Rw.rd (hs.es hi) (i:=k) hkl)) rfl ?_
  refine oAl (fun b18 _=>?_) Xm
  refine oSt ?_
  refine aS2 ?_
  refine Xn (α:=Unit) [72,73,74,75,76,77,78,79,80,81,82,83,84,85,86,87,88,89,90,91,92,93,94,95,96,97,98,99,100,101,102,103,104,105] (fun _=>[(105,.bool (Zs (⟨(j : Int),mo,rm,pln L⟩ : Tre) v (nth (nth L v.i).es k)))]) (fun _=>HS w (fps [.blk c7 3 1 [.int .i64 s]]) [.blk b2 102 3 (nth L 0).vals,.blk b1 102 3 (nth L v.i).vals,.blk c7 3 1 [.int .i64 s]]) (fun _=>True) ?_ ?_
  ·skip
   refine QE [] QH ?_
   refine dP 0 ?_
   refine dV 1 rfl (QeJ rfl rfl rfl Qgc) ?_
   refine dP 2 ?_
   apply Xy 74
   ·exact rfl
   ·intro hg19
    have hs20:=hg19;skip
    refine dQo 3 74 [] hg19 rfl rfl rfl (Qe rfl rfl Yd (hc1)) ?_
    obtain ⟨k9,b9,o9,hlo9,rfl,hr9⟩:=hpl.of_some hg19
    refine dPo 4 74 hg19 ?_
    refine dFo 5 74 hg19 ?_
    refine dFo 6 74 hg19 ?_
    refine dQo 7 74 [] hg19 rfl rfl rfl (Qe rfl rfl Qa5 (ht 5 _ rfl)) ?_
    refine dPo 8 74 hg19 ?_
    refine dPo 9 74 hg19 ?_
    refine dQo 10 74 [] hg19 rfl rfl rfl (Qe rfl rfl Zb (hr9)) ?_
    refine dFo 11 74 hg19 ?_
    refine dQo 12 74 [] hg19 rfl rfl rfl (XW rfl rfl Zb aPk rfl) ?_
    refine dQo 13 74 [] hg19 rfl rfl rfl (Yb rfl rfl (Qb4 _) rfl (fun w1 h1=>Ze w1 j k9 (nth (nth L v.i).es k).key hj (hlo _ hlo9).1 (hok _ (Q1 hkl)).1 (hlo _ hlo9).2 (hok _ (Q1 hkl)).2)) ?_
    refine dPo 14 74 hg19 ?_
    refine dV 15 rfl (Qw rfl rfl hg19 rfl) ?_
    refine Ql (show _ = Value.bool (v.lo.any fun b=>decide (0 ≤ QO (j : Int) b (nth (nth L v.i).es k).key)) from by congr 1;first | (rw [hlo9];rfl) | (rw [hpl.of_none hg19];rfl)) ?_
    refine dP 16 ?_
    apply Xy 88
    ·exact rfl
    ·intro hg21
     have hs22:=hg21;skip
     refine dOf 17 88 hg21 ?_
     refine dOf 18 88 hg21 ?_
     refine dOf 19 88 hg21 ?_
     refine dOu 20 91 ?_
     refine dOu 21 91 ?_
     refine dOu 22 91 ?_
     refine dOu 23 91 ?_
     refine dOu 24 91 ?_
     refine dOu 25 91 ?_
     refine dOu 26 91 ?_
     refine dOu 27 91 ?_
     refine dOu 28 91 ?_
     refine dOu 29 91 ?_
     refine dOu 30 91 ?_
     refine dOu 31 91 ?_
     refine dOf 32 88 hg21 ?_
     refine dV 33 rfl (Qw rfl rfl hg21 rfl) ?_
     refine Ql (show _ = Value.bool (Zs (⟨(j : Int),mo,rm,pln L⟩ : Tre) v (nth (nth L v.i).es k)) from by congr 1;show _ = ((v.lo.any fun b=>decide (0 ≤ QO (j : Int) b (nth (nth L v.i).es k).key)) || (v.hi.any fun b=>decide (0 ≤ QO (j : Int) (nth (nth L v.i).es k).key b)));first | (rw [show (v.lo.any fun b=>decide (0 ≤ QO (j : Int) b (nth (nth L v.i).es k).key)) = true by assumption];rfl) | (rw [show (v.lo.any fun b=>decide (0 ≤ QO (j : Int) b (nth (nth L v.i).es k).key)) = false by assumption];rfl)) ?_
     refine dNi ?_
     exact Qn () trivial aSx (fun w h=>h.ent aEt)
    intro hg23
    have hs24:=hg23;skip
    refine dPo 17 88 hg23 ?_
    refine dVo 18 88 hg23 rfl rfl rfl (QeJ rfl rfl rfl Qgc) ?_
    refine dPo 19 88 hg23 ?_
    apply Xy 91
    ·exact rfl
    ·intro hg25
     have hs26:=hg25;skip
     refine dQo 20 91 [] hg25 rfl rfl rfl (Qe rfl rfl Yd (hc1)) ?_
     obtain ⟨k8,b8,o8,hhi8,rfl,hr8⟩:=hph.of_some hg25
     refine dPo 21 91 hg25 ?_
     refine dFo 22 91 hg25 ?_
     refine dFo 23 91 hg25 ?_
     refine dQo 24 91 [] hg25 rfl rfl rfl (Qe rfl rfl Qa5 (ht 5 _ rfl)) ?_
     refine dFo 25 91 hg25 ?_
     refine dQo 26 91 [] hg25 rfl rfl rfl (XW rfl rfl Zb aPk rfl) ?_
     refine dPo 27 91 hg25 ?_
     refine dPo 28 91 hg25 ?_
     refine dQo 29 91 [] hg25 rfl rfl rfl (Qe rfl rfl Zb (hr8)) ?_
     refine dQo 30 91 [] hg25 rfl rfl rfl (Yb rfl rfl (Qb4 _) rfl (fun w1 h1=>Ze w1 j (nth (nth L v.i).es k).key k8 hj (hok _ (Q1 hkl)).1 (hhi _ hhi8).1 (hok _ (Q1 hkl)).2 (hhi _ hhi8).2)) ?_
     refine dPo 31 91 hg25 ?_
     refine dVo 32 88 hg23 rfl rfl rfl (Qw rfl rfl hg25 rfl) ?_
     refine Ql (show _ = Value.bool (v.hi.any fun b=>decide (0 ≤ QO (j : Int) (nth (nth L v.i).es k).key b)) from by congr 1;first | (rw [hhi8];rfl) | (rw [hph.of_none hg25];rfl)) ?_
     refine dV 33 rfl (Qs rfl rfl hg23 rfl) ?_
     refine Ql (show _ = Value.bool (Zs (⟨(j : Int),mo,rm,pln L⟩ : Tre) v (nth (nth L v.i).es k)) from by congr 1;show _ = ((v.lo.any fun b=>decide (0 ≤ QO (j : Int) b (nth (nth L v.i).es k).key)) || (v.hi.any fun b=>decide (0 ≤ QO (j : Int) (nth (nth L v.i).es k).key b)));first | (rw [show (v.lo.any fun b=>decide (0 ≤ QO (j : Int) b (nth (nth L v.i).es k).key)) = true by assumption];rfl) | (rw [show (v.lo.any fun b=>decide (0 ≤ QO (j : Int) b (nth (nth L v.i).es k).key)) = false by assumption];rfl)) ?_
     refine dNi ?_
     exact Qn () trivial aSx (fun w h=>h.ent aEt)
    intro hg27
    have hs28:=hg27;skip
    refine dOf 20 91 hg27 ?_
    refine dOf 21 91 hg27 ?_
    refine dOf 22 91 hg27 ?_
    refine dOf 23 91 hg27 ?_
    refine dOf 24 91 hg27 ?_
    refine dOf 25 91 hg27 ?_
    refine dOf 26 91 hg27 ?_
    refine dOf 27 91 hg27 ?_
    refine dOf 28 91 hg27 ?_
    refine dOf 29 91 hg27 ?_
    refine dOf 30 91 hg27 ?_
    refine dOf 31 91 hg27 ?_
    refine dVo 32 88 hg23 rfl rfl rfl (Qs rfl rfl hg27 rfl) ?_
    refine Ql (show _ = Value.bool (v.hi.any fun b=>decide (0 ≤ QO (j : Int) (nth (nth L v.i).es k).key b)) from by congr 1;first | (rw [hhi8];rfl) | (rw [hph.of_none hg27];rfl)) ?_
    refine dV 33 rfl (Qs rfl rfl hg23 rfl) ?_
    refine Ql (show _ = Value.bool (Zs (⟨(j : Int),mo,rm,pln L⟩ : Tre) v (nth (nth L v.i).es k)) from by congr 1;show _ = ((v.lo.any fun b=>decide (0 ≤ QO (j : Int) b (nth (nth L v.i).es k).key)) || (v.hi.any fun b=>decide (0 ≤ QO (j : Int) (nth (nth L v.i).es k).key b)));first | (rw [show (v.lo.any fun b=>decide (0 ≤ QO (j : Int) b (nth (nth L v.i).es k).key)) = true by assumption];rfl) | (rw [show (v.lo.any fun b=>decide (0 ≤ QO (j : Int) b (nth (nth L v.i).es k).key)) = false by assumption];rfl)) ?_
    refine dNi ?_
    exact Qn () trivial aSx (fun w h=>h.ent aEt)
   intro hg29
   have hs30:=hg29;skip
   refine dOf 3 74 hg29 ?_
   refine dOf 4 74 hg29 ?_
   refine dOf 5 74 hg29 ?_
   refine dOf 6 74 hg29 ?_
   refine dOf 7 74 hg29 ?_
   refine dOf 8 74 hg29 ?_
   refine dOf 9 74 hg29 ?_
   refine dOf 10 74 hg29 ?_
   refine dOf 11 74 hg29 ?_
   refine dOf 12 74 hg29 ?_
   refine dOf 13 74 hg29 ?_
   refine dOf 14 74 hg29 ?_
   refine dV 15 rfl (Qs rfl rfl hg29 rfl) ?_
   refine Ql (show _ = Value.bool (v.lo.any fun b=>decide (0 ≤ QO (j : Int) b (nth (nth L v.i).es k).key)) from by congr 1;first | (rw [hlo9];rfl) | (rw [hpl.of_none hg29];rfl)) ?_
   refine dP 16 ?_
   apply Xy 88
   ·exact rfl
   ·intro hg31
    have hs32:=hg31;skip
    refine dOf 17 88 hg31 ?_
    refine dOf 18 88 hg31 ?_
    refine dOf 19 88 hg31 ?_
    refine dOu 20 91 ?_
    refine dOu 21 91 ?_
    refine dOu 22 91 ?_
    refine dOu 23 91 ?_
    refine dOu 24 91 ?_
    refine dOu 25 91 ?_
    refine dOu 26 91 ?_
    refine dOu 27 91 ?_
    refine dOu 28 91 ?_
    refine dOu 29 91 ?_
    refine dOu 30 91 ?_
    refine dOu 31 91 ?_
    refine dOf 32 88 hg31 ?_
    refine dV 33 rfl (Qw rfl rfl hg31 rfl) ?_
    refine Ql (show _ = Value.bool (Zs (⟨(j : Int),mo,rm,pln L⟩ : Tre) v (nth (nth L v.i).es k)) from by congr 1;show _ = ((v.lo.any fun b=>decide (0 ≤ QO (j : Int) b (nth (nth L v.i).es k).key)) || (v.hi.any fun b=>decide (0 ≤ QO (j : Int) (nth (nth L v.i).es k).key b)));first | (rw [show (v.lo.any fun b=>decide (0 ≤ QO (j : Int) b (nth (nth L v.i).es k).key)) = true by assumption];rfl) | (rw [show (v.lo.any fun b=>decide (0 ≤ QO (j : Int) b (nth (nth L v.i).es k).key)) = false by assumption];rfl)) ?_
    refine dNi ?_
    exact Qn () trivial aSx (fun w h=>h.ent aEt)
   intro hg33
   have hs34:=hg33;skip
   refine dPo 17 88 hg33 ?_
   refine dVo 18 88 hg33 rfl rfl rfl (QeJ rfl rfl rfl Qgc) ?_
   refine dPo 19 88 hg33 ?_
   apply Xy 91
   ·exact rfl
   ·intro hg35
    have hs36:=hg35;skip
    refine dQo 20 91 [] hg35 rfl rfl rfl (Qe rfl rfl Yd (hc1)) ?_
    obtain ⟨k8,b8,o8,hhi8,rfl,hr8⟩:=hph.of_some hg35
    refine dPo 21 91 hg35 ?_
    refine dFo 22 91 hg35 ?_
    refine dFo 23 91 hg35 ?_
    refine dQo 24 91 [] hg35 rfl rfl rfl (Qe rfl rfl Qa5 (ht 5 _ rfl)) ?_
    refine dFo 25 91 hg35 ?_
    refine dQo 26 91 [] hg35 rfl rfl rfl (XW rfl rfl Zb aPk rfl) ?_
    refine dPo 27 91 hg35 ?_
    refine dPo 28 91 hg35 ?_
    refine dQo 29 91 [] hg35 rfl rfl rfl (Qe rfl rfl Zb (hr8)) ?_
    refine dQo 30 91 [] hg35 rfl rfl rfl (Yb rfl rfl (Qb4 _) rfl (fun w1 h1=>Ze w1 j (nth (nth L v.i).es k).key k8 hj (hok _ (Q1 hkl)).1 (hhi _ hhi8).1 (hok _ (Q1 hkl)).2 (hhi _ hhi8).2)) ?_
    refine dPo 31 91 hg35 ?_
    refine dVo 32 88 hg33 rfl rfl rfl (Qw rfl rfl hg35 rfl) ?_
    refine Ql (show _ = Value.bool (v.hi.any fun b=>decide (0 ≤ QO (j : Int) (nth (nth L v.i).es k).key b)) from by congr 1;first | (rw [hhi8];rfl) | (rw [hph.of_none hg35];rfl)) ?_
    refine dV 33 rfl (Qs rfl rfl hg33 rfl) ?_
    refine Ql (show _ = Value.bool (Zs (⟨(j : Int),mo,rm,pln L⟩ : Tre) v (nth (nth L v.i).es k)) from by congr 1;show _ = ((v.lo.any fun b=>decide (0 ≤ QO (j : Int) b (nth (nth L v.i).es k).key)) || (v.hi.any fun b=>decide (0 ≤ QO (j : Int) (nth (nth L v.i).es k).key b)));first | (rw [show (v.lo.any fun b=>decide (0 ≤ QO (j : Int) b (nth (nth L v.i).es k).key)) = true by assumption];rfl) | (rw [show (v.lo.any fun b=>decide (0 ≤ QO (j : Int) b (nth (nth L v.i).es k).key)) = false by assumption];rfl)) ?_
    refine dNi ?_
    exact Qn () trivial aSx (fun w h=>h.ent aEt)
   intro hg37
   have hs38:=hg37;skip
   refine dOf 20 91 hg37 ?_
   refine dOf 21 91 hg37 ?_
   refine dOf 22 91 hg37 ?_
   refine dOf 23 91 hg37 ?_
   refine dOf 24 91 hg37 ?_
   refine dOf 25 91 hg37 ?_
   refine dOf 26 91 hg37 ?_
   refine dOf 27 91 hg37 ?_
   refine dOf 28 91 hg37 ?_
   refine dOf 29 91 hg37 ?_
   refine dOf 30 91 hg37 ?_
   refine dOf 31 91 hg37 ?_
   refine dVo 32 88 hg33 rfl rfl rfl (Qs rfl rfl hg37 rfl) ?_
   refine Ql (show _ = Value.bool (v.hi.any fun b=>decide (0 ≤ QO (j : Int) (nth (nth L v.i).es k).key b)) from by congr 1;first | (rw [hhi8];rfl) | (rw [hph.of_none hg37];rfl)) ?_
   refine dV 33 rfl (Qs rfl rfl hg33 rfl) ?_
   refine Ql (show _ = Value.bool (Zs (⟨(j : Int),mo,rm,pln L⟩ : Tre) v (nth (nth L v.i).es k)) from by congr 1;show _ = ((v.lo.any fun b=>decide (0 ≤ QO (j : Int) b (nth (nth L v.i).es k).key)) || (v.hi.any fun b=>decide (0 ≤ QO (j : Int) (nth (nth L v.i).es k).key b)));first | (rw [show (v.lo.any fun b=>decide (0 ≤ QO (j : Int) b (nth (nth L v.i).es k).key)) = true by assumption];rfl) | (rw [show (v.lo.any fun b=>decide (0 ≤ QO (j : Int) b (nth (nth L v.i).es k).key)) = false by assumption];rfl)) ?_
   refine dNi ?_
   exact Qn () trivial aSx (fun w h=>h.ent aEt)
  intro _ _
  refine Qd rfl (fun h39=>?_) fun h39=>?_
  ·skip
   have hz2 : Za (⟨(j : Int),mo,rm,pln L⟩ : Tre) v = true:=by rw [hO,List.any_eq_true];exact ⟨_,Q1 hkl,h39⟩
   refine aS6 ?_
   exact QM (rs:=[.tmp 10,.tmp 11]) rfl (.tmp rfl (.tmp rfl (.nil))) (fun w' h'=>⟨(),by rw [hE];simp only [];rw [if_neg (by rw [hz1];decide),if_pos hz2];rfl,trivial,by rw [hS,if_neg (by rw [hz1];decide),if_pos hz2];exact h'.ent aEt⟩)
  skip
  refine aS4 ?_
  try refine oWr ?_
  refine aS2 ?_
  exact QD (k + 1) (by omega) ⟨by omega,fun i hi9=>(Nat.lt_or_ge i k).elim (hk2 i) (fun h=>by obtain rfl : i = k:=(by omega);have hq:=h39;simpa using hq)⟩ aSx (fun w h=>h.ent aEt)
 try simp only [dN] at h17
 obtain rfl : k = (nth L v.i).es.length:=by omega
 have hz2 : Za (⟨(j : Int),mo,rm,pln L⟩ : Tre) v = false:=by rw [hO,List.any_eq_false];intro x hx;obtain ⟨i9,hi9,e9⟩:=List.getElem_of_mem hx;have e8 : nth (nth L v.i).es i9 = x:=Q3 (by rw [List.getElem?_eq_getElem hi9,e9]);rw [← e8,hk2 i9 hi9];decide
 refine Qu rfl ?_
 refine aS8 ?_
 refine Qd rfl (fun h40=>?_) fun h40=>?_
 ·try simp only [dT] at h40
  have hc9 : (nth L v.i).cs.length = 0:=by have hq:=h40;omega
  have hEv : erV (⟨(j : Int),mo,rm,pln L⟩ : Tre) s v = ((v.i : Int),if (if s = 0 then v.d else s) = v.d then 0 else 22):=by rw [hE,if_neg (by rw [hz1];decide),if_neg (by rw [hz2];decide),if_pos hc9]
  refine aS6 ?_
  refine Xn (α:=Unit) [114] (fun _=>[]) (fun _=>HS w (fps [.blk c7 3 1 [.int .i64 s]]) [.blk b2 102 3 (nth L 0).vals,.blk b1 102 3 (nth L v.i).vals,.blk c7 3 1 [.int .i64 (if s = 0 then v.d else s)]]) (fun _=>True) ?_ ?_
  ·skip
   refine Qd rfl (fun h41=>?_) fun h41=>?_
   ·try simp only [dT] at h41
    refine aS2 ?_
    refine oSt ?_
    refine aS ?_
    exact Qn () trivial aSx (fun w h=>by rw [if_pos h41];exact h.ent aEt)
   try simp only [dN] at h41
   refine aS ?_
   exact Qn () trivial aSx (fun w h=>by rw [if_neg h41];exact h.ent aEt)
  intro _ _
  refine aS6 ?_
  refine o_q (Qi rfl Zt rfl (fun w1 h1=>c81 w1 _ _)) rfl ?_
  refine aS3 ?_
  exact QM (rs:=[.tmp 10,.tmp 11]) rfl (.tmp rfl (.tmp rfl (.nil))) (fun w' h'=>⟨(),by rw [hEv];simp only [Xw,cond_eq_ite,decide_eq_true_eq],trivial,by rw [hS,if_neg (by rw [hz1];decide),if_neg (by rw [hz2];decide),if_pos hc9];exact h'.ent aEt⟩)
 try simp only [dN] at h40
 have hc9 : ¬ (nth L v.i).cs.length = 0:=by have hq:=h40;omega
 refine aS7 ?_
 exact QM (rs:=[.tmp 10,.tmp 11]) rfl (.tmp rfl (.tmp rfl (.nil))) (fun w' h'=>⟨(),by rw [hE];simp only [];rw [if_neg (by rw [hz1];decide),if_neg (by rw [hz2];decide),if_neg hc9];rfl,trivial,by rw [hS,if_neg (by rw [hz1];decide),if_neg (by rw [hz2];decide),if_neg hc9];exact h'.ent aEt⟩)
theorem QpG : X5 Tryz.prog 4 = some [.bool false]:=by kernel_rfl
theorem QpO : X5 Tryz.prog 140 = some [.slice none 0 0]:=by kernel_rfl
theorem c83 (w : World) (bt : Nat) (j : Nat) (mo rm : Int) (a : Option Addr) (cap : Nat) (L : List LNd) (ht : TbR w [] bt (j : Int) mo rm a L.length cap) (hs : Nt w [] a L) (hj : j ≤ 3) (hmo : 0 ≤ mo ∧ mo ≤ 1000) (h0 : 0 < L.length) (hB : Bd (pln L)) (hT : TOk (j : Int) (pln L)) : Calls Tryz.prog 83 #[.pointer (some ⟨bt,0,none⟩)] w fun en w'=>en = .returned (.tuple #[.int .i64 (QaO (⟨(j : Int),mo,rm,pln L⟩ : Tre)).1,.int .i64 (QaO (⟨(j : Int),mo,rm,pln L⟩ : Tre)).2]) ∧ Below w.heap.size w w':=by
 have hle:=hB.len
 rw [Qc] at hle
 have hvis : vis (pln L) L.length YV = Yx (pln L):=by unfold Yx;rw [Qc]
 have hmar:=Qi3 (Yx (pln L)) (List.replicate L.length false)
 rw [List.length_replicate] at hmar
 have hbel : ∀ i,i < L.length → (XF Qdv (fun _ _=>(0,0)) (List.replicate L.length false) (Yx (pln L))).2.getD i false = decide (i ∈ (Yx (pln L)).map Vis.i):=fun i hi=>by rw [hmar.2.2 i hi,show (List.replicate L.length false).getD i false = false from by rw [List.getD_eq_getElem?_getD,List.getElem?_replicate];split <;> rfl,Bool.false_or]
 have hes9 : ∀ i,i < L.length → (nth L i).es.length ≤ 1000:=fun i hi=>by have h9:=hB.es i (by rw [Qc];exact hi);rw [Qh hi] at h9;exact h9
 have hcs9 : ∀ i,i < L.length → (nth L i).cs.length ≤ 1000:=fun i hi=>by have h9:=hB.cs i (by rw [Qc];exact hi);rw [Qh hi] at h9;exact h9
 have hok9 : ∀ i,i < L.length → ∀ x ∈ (nth L i).es,QW (j : Int) x.key = true ∧ x.key.length ≤ 1000000:=fun i hi=>by have h9:=QcC hT (i:=i) (by rw [Qc];exact hi);rw [Qh hi] at h9;exact h9
 refine enter (args:=[_]) Tryz.func83 Tryz.ntmps83 rfl rfl (HS.refl w []) ?_
 refine aS2 ?_
 refine oBx fun b1 _=>?_
 refine aS9 ?_
 refine o_q (Qe rfl rfl YD (ht 3 _ rfl)) rfl ?_
 refine aS ?_
 refine o_h (Qiv (n:=L.length) rfl rfl rfl QaB QpG (by omega) (by omega)) rfl (fun b2 _=>?_)
 refine QZ (fun w h=>(show HS _ _ [.blk b2 4 L.length ((List.replicate L.length false).map Value.bool),.blk b1 103 1 [.pointer (some ⟨bt,0,none⟩)]] w from by have h9:=h;rw [Nat.mul_one,Qgx,← List.map_replicate] at h9;exact h9.ent aEt)) ?_
 refine oAl (fun b3 _=>?_) QpO
 refine oSt ?_
 refine aS5 ?_
 refine o_h (Q7 (Cs:=[.blk b2 4 L.length ((List.replicate L.length false).map Value.bool)]) rfl Qh9 rfl aPs (fun w1 h1 hf=>by have h9:=Qim (List Bool) (fun s=>s.length = L.length) (fun s=>.blk b2 4 L.length (s.map Value.bool)) Qdv (fun _ _=>(0,0)) 124 #[.pointer (some ⟨b3,0,none⟩)] bt j mo rm a cap L L.length w1 (List.replicate L.length false) YV none none [] hf (by kernel_rfl) (fun _ _=>rfl) (fun s v h=>by simpa [Qdv] using h) (by simp) (fun s2 v2 p2 p3 w2 h2 hs2 hi2 _ _ _ _=>c124 w2 v2.i v2.d p2 p3 b3 b2 L.length s2 (HS.focus (Cs:=[_]) (Ds:=[]) h2) (h2.keep (h1.rd_blkF aPs (b:=b3) aPk rfl)) hi2 hs2) ((ht.keep h1).mono (Xo aPs)) ((hs.keep h1).mono (Xo aPs)) hT hB rfl rfl h0 rfl (by simp) rfl (fun _ h=>by cases h) (fun _ h=>by cases h);rw [hvis] at h9;exact h9)) rfl (fun _ _=>?_)
 refine aS3 ?_
 refine QZ (fun w h=>(show HS _ _ [.blk b2 4 L.length ((XF Qdv (fun _ _=>(0,0)) (List.replicate L.length false) (Yx (pln L))).2.map Value.bool),.blk b3 140 1 [.slice (some ⟨b2,0,none⟩) L.length L.length],.blk b1 103 1 [.pointer (some ⟨bt,0,none⟩)]] w from h.ent aEt)) ?_
 refine aS8 ?_
 refine o_q (Qe rfl rfl YD (ht 3 _ rfl)) rfl ?_
 refine aS4 ?_
 refine Qj (L':=[(1,_),(2,_),(3,_),(4,_),(25,_),(26,_),(27,_)]) aSx (fun _ h=>h) ?_
 refine QN (α:=Nat) [2,3,5,6,27,28,29,30,31,32,33,34,35,36,37,38,39,40,41,42] (fun k=>[(27,.int .i64 (k : Int))]) (fun _=>HS w [] [.blk b2 4 L.length ((XF Qdv (fun _ _=>(0,0)) (List.replicate L.length false) (Yx (pln L))).2.map Value.bool),.blk b3 140 1 [.slice (some ⟨b2,0,none⟩) L.length L.length],.blk b1 103 1 [.pointer (some ⟨bt,0,none⟩)]]) (fun k=>k ≤ L.length ∧ Zq (pln L) ((Yx (pln L)).map Vis.i) L.length 0 = Zq (pln L) ((Yx (pln L)).map Vis.i) (L.length - k) k) (fun k=>L.length - k) 0 ⟨Nat.zero_le _,rfl⟩ aSx (fun w h=>h.ent aEt) (fun k hx=>?_)
 obtain ⟨hk1,hk2⟩:=hx
 refine aS5 ?_
 refine Qd rfl (fun h4=>?_) fun h4=>?_
 ·try simp only [dT] at h4
  have hkl : k < L.length:=by omega
  have hst:=Qfh (ns:=pln L) (below:=(Yx (pln L)).map Vis.i) (k:=k) (by rw [Qc];exact hkl)
  rw [Qc,Qh hkl] at hst
  refine aS6 ?_
  refine o_p (Qa rfl rfl rfl Qp (k) (by omega) (by omega) (Rw.some hs.1 (by omega))) rfl ?_
  refine o_q (QY _ rfl rfl Xh rfl (Rw.rd hs.1 hkl)) rfl ?_
  refine oAl (fun b5 _=>?_) Xa
  refine aS ?_
  refine oSt ?_
  refine aS6 ?_
  refine XD 6 34 40 _ _ rfl
   (by
    intro hg6
    have hs7:=hg6;skip
    refine oOn 34 hg6 ?_
    refine aS ?_
    refine oOn 34 hg6 ?_
    refine aS ?_
    refine oOn 34 hg6 ?_
    refine o_p (Qa rfl rfl rfl QaB (k) (by omega) (by omega) rfl) rfl ?_
    refine oOn 34 hg6 ?_
    refine o_q (Qg rfl rfl QcQ (fun w h=>by rw [Nat.zero_add,Nat.mul_one];exact h.rd_blk (Mc:=[]) (b:=b2) aPk (Qk7 (by rw [hmar.2.1];exact hkl)) (by simp))) rfl ?_
    refine oOn 34 hg6 ?_
    refine aS ?_
    refine o_p (Qw rfl rfl hg6 rfl) rfl ?_
    refine aS ?_
    exact oJn 6 40)
   (by
    intro hg8
    have hs9:=hg8;skip
    refine oOf 34 hg8 ?_
    refine oOf 34 hg8 ?_
    refine oOf 34 hg8 ?_
    refine oOf 34 hg8 ?_
    refine oOf 34 hg8 ?_
    refine o_p (Qs rfl rfl hg8 rfl) rfl ?_
    refine aS ?_
    exact oJn 6 40) ?_
  refine aS ?_
  refine Qd rfl (fun h10=>?_) fun h10=>?_
  ·try simp only [Bool.and_eq_true,Bool.not_eq_true'] at h10
   have hz : (nth L k).pl.us = true ∧ k ∉ (Yx (pln L)).map Vis.i:=by have hq:=h10;rw [hbel k hkl] at hq;simp only [LNd.pl];simpa using hq
   refine aS6 ?_
   exact QM (rs:=[.tmp 2,.tmp 3]) rfl (.tmp rfl (.tmp rfl (.nil))) (fun w' h'=>⟨by rw [Qcj (t:=(⟨(j : Int),mo,rm,pln L⟩ : Tre)) (i:=k) (show Zq (pln L) _ (pln L).length 0 = some k from by rw [Qc,hk2,hst,if_pos hz])];rfl,h'.below⟩)
  try simp only [Bool.and_eq_false_iff,Bool.not_eq_false'] at h10
  have hz : ¬ ((nth L k).pl.us = true ∧ k ∉ (Yx (pln L)).map Vis.i):=by have hq:=h10;rw [hbel k hkl] at hq;simp only [LNd.pl];intro h9;simp at hq h9;grind
  refine aS4 ?_
  try refine oWr ?_
  refine aS2 ?_
  exact QD (k + 1) (by omega) ⟨by omega,by rw [hk2,hst,if_neg hz]⟩ aSx (fun w h=>h.ent aEt)
 try simp only [dN] at h4
 have hnone : Zq (pln L) ((Yx (pln L)).map Vis.i) L.length 0 = none:=by rw [hk2,show L.length - k = 0 by omega];rfl
 refine Qu rfl ?_
 refine aS2 ?_
 refine oAl (fun b11 _=>?_) X8
 refine oSt ?_
 refine aS5 ?_
 refine o_h (Q7 (Cs:=[.blk b11 3 1 [.int .i64 0]]) rfl Qh9 rfl aPs (fun w1 h1 hf=>by have h9:=Qim Int (fun _=>True) (fun s=>.blk b11 3 1 [.int .i64 s]) (stV (⟨(j : Int),mo,rm,pln L⟩ : Tre)) (erV (⟨(j : Int),mo,rm,pln L⟩ : Tre)) 125 #[.pointer (some ⟨b1,0,none⟩),.pointer (some ⟨b11,0,none⟩)] bt j mo rm a cap L L.length w1 0 YV none none [] hf (by kernel_rfl) (fun _ _=>rfl) (fun _ _ _=>trivial) trivial (fun s2 v2 p2 p3 w2 h2 _ hi2 ha2 hb2 hp2 hp3=>c125 w2 v2 p2 p3 b1 b11 s2 bt j mo rm a cap L (HS.focus (Cs:=[_]) (Ds:=[]) h2) (h2.keep (h1.rd_blkF aPs (b:=b1) aPk rfl)) (((ht.keep h1).mono (Xo aPs)).keep h2) (((hs.keep h1).mono (Xo aPs)).keep h2) hj hmo hi2 hle (hes9 _ hi2) (hcs9 _ hi2) (hcs9 _ h0) (hes9 _ h0) hp2 hp3 ha2 hb2 (hok9 _ hi2)) ((ht.keep h1).mono (Xo aPs)) ((hs.keep h1).mono (Xo aPs)) hT hB rfl rfl h0 rfl (by simp) rfl (fun _ h=>by cases h) (fun _ h=>by cases h);rw [hvis,Gx.run_shape (t:=(⟨(j : Int),mo,rm,pln L⟩ : Tre)) hT (by show 0 < (pln L).length;rw [Qc];exact h0)] at h9;exact h9)) rfl (fun _ _=>?_)
 refine aS5 ?_
 exact QM (rs:=[.tmp 2,.tmp 3]) rfl (.tmp rfl (.tmp rfl (.nil))) (fun w' h'=>⟨by rw [Qb9 (t:=(⟨(j : Int),mo,rm,pln L⟩ : Tre)) (show Zq (pln L) _ (pln L).length 0 = none from by rw [Qc];exact hnone)];rfl,h'.below⟩)
theorem Ql9 : Qaw Tryz.prog 112 = some [(0,4),(4,2)]:=by kernel_rfl
theorem Qlm : X5 Tryz.prog 112 = some [.int .i64 0,.int .i64 0,.int .i64 0,.slice none 0 0,.nilFunc,.nilFunc]:=by kernel_rfl
theorem QrL : QT Tryz.prog 82 = true:=by kernel_rfl
theorem QrO : QT Tryz.prog 83 = true:=by kernel_rfl
theorem QqY : QT Tryz.prog 127 = true:=by kernel_rfl
theorem QmK : QT Tryz.prog 128 = true:=by kernel_rfl
theorem QmO : QT Tryz.prog 129 = true:=by kernel_rfl
theorem c39 (w : World) (co mo rm : Int) (a : Option Addr) (cap : Nat) (L : List LNd) (hs : Nt w [] a L) (hB : Bd (pln L)) (hkl : ∀ i,i < L.length → ∀ x ∈ (nth L i).es,x.key.length ≤ 1000000) : Calls Tryz.prog 39 #[.agg #[.int .i64 co,.int .i64 mo,.int .i64 rm,.slice a L.length cap]] w fun en w'=>en = .returned (.tuple #[.int .i64 (XP (⟨co,mo,rm,pln L⟩ : Tre)).1,.int .i64 (XP (⟨co,mo,rm,pln L⟩ : Tre)).2]) ∧ Below w.heap.size w w':=by
 have hle:=hB.len
 rw [Qc] at hle
 have hes9 : ∀ i,i < L.length → (nth L i).es.length ≤ 1000:=fun i hi=>by have h9:=hB.es i (by rw [Qc];exact hi);rw [Qh hi] at h9;exact h9
 have hcs9 : ∀ i,i < L.length → (nth L i).cs.length ≤ 1000:=fun i hi=>by have h9:=hB.cs i (by rw [Qc];exact hi);rw [Qh hi] at h9;exact h9
 refine enter (args:=[_]) Tryz.func39 Tryz.ntmps39 rfl rfl (HS.refl w []) ?_
 refine aS2 ?_
 refine oBx fun b1 _=>?_
 refine Zp ?_
 refine o_q (Qi rfl QoP rfl (fun w1 h1=>c78 w1 _ _ _)) rfl ?_
 refine aS7 ?_
 refine Qd rfl (fun h2=>?_) fun h2=>?_
 ·try simp only [Bool.not_eq_true',decide_eq_false_iff_not] at h2
  have hz:=QbE (t:=(⟨co,mo,rm,pln L⟩ : Tre)) h2
  refine aS6 ?_
  exact QM (rs:=[.tmp 2,.tmp 3]) rfl (.tmp rfl (.tmp rfl (.nil))) (fun w' h'=>⟨by rw [hz];rfl,h'.below⟩)
 try simp only [Bool.not_eq_false',decide_eq_true_eq] at h2
 have hc0 : (if Q5 co = 0 then Yl mo rm else Q5 co) = 0:=h2
 obtain ⟨hco,hsz⟩:=Qf7 (t:=(⟨co,mo,rm,pln L⟩ : Tre)) hc0
 obtain ⟨j,rfl,hj⟩:=YF hco
 have hsz2 : (3 ≤ mo ∧ mo ≤ 8) ∧ (mo / 2 ≤ rm ∧ rm ≤ mo):=YH hsz
 refine aS3 ?_
 refine QE [] QH ?_
 refine dFa 0 ?_
 refine dLd 1 [] ?_
 refine dV 2 rfl (QQ rfl rfl Tryz.underlying22) ?_
 refine dP 3 ?_
 refine dQ 4 [] rfl (Qi rfl Zt rfl (fun w1 h1=>c81 w1 _ _)) ?_
 refine dFa 5 ?_
 refine dLd 6 [] ?_
 refine dV 7 rfl (QQ rfl rfl Tryz.underlying22) ?_
 refine dP 8 ?_
 refine dQ 9 [] rfl (Qi rfl Zt rfl (fun w1 h1=>c81 w1 _ _)) ?_
 refine dH 10 rfl (Qr (cs:=[_,_]) rfl rfl Qbn QdV rfl rfl rfl) (fun b3 _=>?_)
 refine dBa ?_
 refine dQ 11 [] rfl (Qi rfl Qez rfl (fun w1 h1=>f75 h1 aPk (by rfl) (by rfl) (by decide))) ?_
 refine Ql (show _ = Value.int .i64 (Y6 L.length) from by congr 1;rw [Qay];unfold Y6;simp only [cond_eq_ite,decide_eq_true_eq];first | (split <;> (try split) <;> (try split) <;> (try split) <;> first | rfl | omega)) ?_
 refine dP 12 ?_
 refine dNi ?_
 refine aS5 ?_
 refine Qd rfl (fun h4=>?_) fun h4=>?_
 ·try simp only [Bool.not_eq_true',decide_eq_false_iff_not] at h4
  have hz:=QcN (t:=(⟨(j : Int),mo,rm,pln L⟩ : Tre)) hc0 (by rw [show ((⟨(j : Int),mo,rm,pln L⟩ : Tre)).ns.length = L.length from Qc L];exact h4)
  rw [show ((⟨(j : Int),mo,rm,pln L⟩ : Tre)).ns.length = L.length from Qc L] at hz
  refine aS6 ?_
  exact QM (rs:=[.tmp 2,.tmp 3]) rfl (.tmp rfl (.tmp rfl (.nil))) (fun w' h'=>⟨by rw [hz];rfl,h'.below⟩)
 try simp only [Bool.not_eq_false',decide_eq_true_eq] at h4
 have hc1 : Y6 L.length = 0:=h4
 have hz:=QcX (t:=(⟨(j : Int),mo,rm,pln L⟩ : Tre)) hc0 (by rw [show ((⟨(j : Int),mo,rm,pln L⟩ : Tre)).ns.length = L.length from Qc L];exact hc1)
 rw [show ((⟨(j : Int),mo,rm,pln L⟩ : Tre)).ns.length = L.length from Qc L] at hz
 obtain ⟨h00,h120⟩:=QhS hc1
 refine aS2 ?_
 refine Qj (L':=[(1,_),(2,_),(3,_)]) aSx (fun _ h=>h) ?_
 refine Xn (α:=Nat × Nat) [6,7,37,38,39,40,41,42,43,44] (fun x=>[(6,.pointer (some ⟨x.1,0,none⟩)),(7,.map (some x.2))]) (fun x=>HS w [] [.blk b1 24 4 [.int .i64 (j : Int),.int .i64 mo,.int .i64 rm,.slice a L.length cap],.blk x.1 112 6 (tbV (j : Int) mo rm a L.length cap),.mp x.2 KI []]) (fun _=>True) ?_ ?_
 ·skip
  refine QE [] QH ?_
  refine dLn 0 [] ?_
  refine dQ 1 [] rfl (Qi rfl Qj0 rfl (fun w1 h1=>c77 w1)) ?_
  refine dFa 2 ?_
  refine dLd 3 [] ?_
  refine dV 4 rfl (QcS rfl rfl rfl Qer QeH j rfl (by omega)) ?_
  refine Ql (QcP j hj) ?_
  refine dV 5 rfl (Xr (cs:=[_,_,_,_,_,_]) rfl rfl Ql9 Qlm rfl) ?_
  refine QrH 6 7 rfl rfl  (QiH rfl rfl) (Qff rfl KI) (by kernel_rfl) (fun w h=>h.ent aEt) rfl rfl  (fun b5 _=>?_) (fun b6 _=>?_)
  ·skip
   refine dBa ?_
   refine dP 8 ?_
   refine dH 7 rfl (Qff rfl KI) (fun b7 _=>?_)
   refine dBa ?_
   refine dP 9 ?_
   refine dNi ?_
   exact Qn (b5,b7) trivial aSx (fun w h=>h.ent aEt)
  skip
  refine dBa ?_
  refine dH 6 rfl (QiH rfl rfl) (fun b8 _=>?_)
  refine dBa ?_
  refine dP 8 ?_
  refine dP 9 ?_
  refine dNi ?_
  exact Qn (b8,b6) trivial aSx (fun w h=>h.ent aEt)
 intro ⟨bt,r⟩ _
 refine aS9 ?_
 refine QN (α:=Nat × List Int × List Int) [2,3,8,9,48,49,50,51,52,53,54,55,56,57,58,59] (fun x=>[(48,.int .i64 (x.1 : Int))]) (fun x=>HS w [] [.blk b1 24 4 [.int .i64 (j : Int),.int .i64 mo,.int .i64 rm,.slice a L.length cap],.blk bt 112 6 (tbV (j : Int) mo rm a L.length cap),.mp r KI x.2.1]) (fun x=>x.1 ≤ L.length ∧ (∀ y,y ∈ x.2.1 ↔ y ∈ x.2.2) ∧ (XR (⟨(j : Int),mo,rm,pln L⟩ : Tre) L.length 0 []) = XR (⟨(j : Int),mo,rm,pln L⟩ : Tre) (L.length - x.1) x.1 x.2.2) (fun x=>L.length - x.1) (0,[],[]) ⟨Nat.zero_le _,fun _=>Iff.rfl,rfl⟩ aSx (fun w h=>h.ent aEt) (fun ⟨k,K,S9⟩ hx=>?_)
 dsimp only
 obtain ⟨hk1,hk2,hk3⟩:=hx
 simp only [] at hk1 hk2 hk3
 refine aS5 ?_
 refine Qd rfl (fun h9=>?_) fun h9=>?_
 ·try simp only [dT] at h9
  have hkl9 : k < L.length:=by omega
  have hst:=Qd7 (t:=(⟨(j : Int),mo,rm,pln L⟩ : Tre)) (k:=k) (seen:=S9) (by rw [show ((⟨(j : Int),mo,rm,pln L⟩ : Tre)).ns.length = L.length from Qc L];exact hkl9)
  rw [show ((⟨(j : Int),mo,rm,pln L⟩ : Tre)).ns.length = L.length from Qc L] at hst
  iterate 13 refine aS ?_
  refine o_h (Q7 (Cs:=[.mp r KI K]) rfl QrL rfl aPs (fun w1 h1 hf=>c82 w1 k r K S9 bt j mo rm a cap L hf hk2 (fun k9 v9 hv9=>h1.rd_blkF aPs (b:=bt) aPk hv9) ((hs.keep h1).mono (Xo aPs)) hle hj hkl9 (hes9 _ hkl9) (hcs9 _ hkl9) (hkl _ hkl9))) rfl (fun b10 hkG=>?_)
  refine aS7 ?_
  refine Qd rfl (fun h11=>?_) fun h11=>?_
  ·try simp only [Bool.not_eq_true',decide_eq_false_iff_not] at h11
   have hz3 : (XR (⟨(j : Int),mo,rm,pln L⟩ : Tre) L.length 0 []) = ((k : Int),(XV (⟨(j : Int),mo,rm,pln L⟩ : Tre) k S9).1):=by rw [hk3,hst,if_neg h11]
   rw [hz3,if_neg (show ¬ (((k : Int),(XV (⟨(j : Int),mo,rm,pln L⟩ : Tre) k S9).1) : Int × Int).2 = 0 from h11)] at hz
   refine aS7 ?_
   exact QM (rs:=[.tmp 2,.tmp 3]) rfl (.tmp rfl (.tmp rfl (.nil))) (fun w' h'=>⟨by rw [hz];rfl,h'.below⟩)
  try simp only [Bool.not_eq_false',decide_eq_true_eq] at h11
  have hz3 : XR (⟨(j : Int),mo,rm,pln L⟩ : Tre) (L.length - k) k S9 = XR (⟨(j : Int),mo,rm,pln L⟩ : Tre) (L.length - (k + 1)) (k + 1) (XV (⟨(j : Int),mo,rm,pln L⟩ : Tre) k S9).2:=by rw [hst,if_pos h11]
  refine aS4 ?_
  try refine oWr ?_
  refine aS2 ?_
  exact QD (k + 1,b10,(XV (⟨(j : Int),mo,rm,pln L⟩ : Tre) k S9).2) (by (try simp only []);omega) ⟨by (try simp only []);omega,hkG,by simp only [];rw [hk3,hz3]⟩ aSx (fun w h=>h.ent aEt)
 try simp only [dN] at h9
 have hnd : (XR (⟨(j : Int),mo,rm,pln L⟩ : Tre) L.length 0 []) = (0,0):=by rw [hk3,show L.length - k = 0 by omega];rfl
 rw [hnd,if_pos rfl] at hz
 have hT : TOk (j : Int) (pln L):=Yi (t:=(⟨(j : Int),mo,rm,pln L⟩ : Tre)) (by show (XR (⟨(j : Int),mo,rm,pln L⟩ : Tre) (pln L).length 0 []).2 = 0;rw [Qc,hnd])
 refine Qu rfl ?_
 refine aS3 ?_
 refine o_q (Qi rfl QrO rfl (fun w1 h1=>c83 w1 bt j mo rm a cap L (HS.tbr h1 aPk) (hs.later h1) hj (by omega) h00 hB hT)) rfl ?_
 refine Zp ?_
 refine Xn (α:=Unit) [10] (fun _=>[(10,.int .i64 (XP (⟨(j : Int),mo,rm,pln L⟩ : Tre)).1)]) (fun _=>HS w [] []) (fun _=>True) ?_ ?_
 ·skip
  refine Qd rfl (fun h12=>?_) fun h12=>?_
  ·try simp only [dT] at h12
   refine aS3 ?_
   exact Qn () trivial (by rw [hz,QjL h12];exact aSx) (fun w h=>h.ent aEt)
  try simp only [dN] at h12
  refine aS ?_
  exact Qn () trivial (by rw [hz];exact aSx) (fun w h=>h.ent aEt)
 intro _ _
 refine aS7 ?_
 exact QM (rs:=[.tmp 2,.tmp 3]) rfl (.tmp rfl (.tmp rfl (.nil))) (fun w' h'=>⟨by simp only [Xw];rw [hz],h'.below⟩)
theorem c127 (w : World) (a : Option Addr) (cap : Nat) (l : List LNd) (hs : Rw LNd.vals 3 w [] a l) (hm : l.length ≤ 1000000) : Calls Tryz.prog 127 #[.slice a l.length cap] w fun en w'=>∃ g : Option Addr × Nat,en = .returned (.slice g.1 l.length g.2) ∧ True ∧ HS w [] [.own (.slice g.1 l.length g.2) 102 3 l.length (l.flatMap LNd.vals)] w':=by
 refine enter (args:=[_]) Tryz.func127 Tryz.ntmps127 rfl rfl (HS.refl w []) ?_
 refine aS8 ?_
 refine o_p (Zr rfl rfl rfl Tryz.underlying22) rfl ?_
 refine aS ?_
 refine Qd rfl (fun h1=>?_) fun h1=>?_
 ·skip
  have ha0 : a = none:=by cases a with | none=>rfl | some b=>simp at h1
  subst ha0
  have hl0 : l = []:=Rw.none hs
  refine aS4 ?_
  exact rT rfl rfl (fun w' h'=>⟨(none,0),by rw [hl0];rfl,trivial,by rw [hl0];exact (h'.own_nil 102 3).ent aEt⟩)
 skip
 refine aS3 ?_
 refine o_h (Xg rfl Qp) rfl (fun b2 _=>?_)
 refine aS ?_
 refine o_h (QJ (l.flatMap LNd.vals) rfl rfl rfl Qp Tryz.underlying22 Xa rfl aPk (fun w h=>Rw.src nv3 hs h) (Qf nv3 l) (Xf nv1 l) (by omega) (by simp only [maxLen];omega)) rfl (fun b3 _=>?_)
 refine aS2 ?_
 exact rT rfl rfl (fun w' h'=>⟨b3,by simp only [Xw,Nat.zero_add],trivial,by have h2:=h';simp only [Nat.zero_add,List.nil_append] at h2;exact h2.ent aEt⟩)
theorem c128 (w : World) (a : Option Addr) (cap : Nat) (l : List TEnt) (hs : Rw TEnt.vals 2 w [] a l) (hm : l.length ≤ 1000000) : Calls Tryz.prog 128 #[.slice a l.length cap] w fun en w'=>∃ g : Option Addr × Nat,en = .returned (.slice g.1 l.length g.2) ∧ True ∧ HS w [] [.own (.slice g.1 l.length g.2) 26 2 l.length (l.flatMap TEnt.vals)] w':=by
 refine enter (args:=[_]) Tryz.func128 Tryz.ntmps128 rfl rfl (HS.refl w []) ?_
 refine aS8 ?_
 refine o_p (Zr rfl rfl rfl Tryz.underlying77) rfl ?_
 refine aS ?_
 refine Qd rfl (fun h1=>?_) fun h1=>?_
 ·skip
  have ha0 : a = none:=by cases a with | none=>rfl | some b=>simp at h1
  subst ha0
  have hl0 : l = []:=Rw.none hs
  refine aS4 ?_
  exact rT rfl rfl (fun w' h'=>⟨(none,0),by rw [hl0];rfl,trivial,by rw [hl0];exact (h'.own_nil 26 2).ent aEt⟩)
 skip
 refine aS3 ?_
 refine o_h (Xg rfl QB) rfl (fun b2 _=>?_)
 refine aS ?_
 refine o_h (QJ (l.flatMap TEnt.vals) rfl rfl rfl QB Tryz.underlying77 Xm rfl aPk (fun w h=>Rw.src ev2 hs h) (Qf ev2 l) (Xf ev1 l) (by omega) (by simp only [maxLen];omega)) rfl (fun b3 _=>?_)
 refine aS2 ?_
 exact rT rfl rfl (fun w' h'=>⟨b3,by simp only [Xw,Nat.zero_add],trivial,by have h2:=h';simp only [Nat.zero_add,List.nil_append] at h2;exact h2.ent aEt⟩)
theorem c129 (w : World) (a : Option Addr) (cap : Nat) (l : List Int) (hs : Rw inV 1 w [] a l) (hm : l.length ≤ 1000000) : Calls Tryz.prog 129 #[.slice a l.length cap] w fun en w'=>∃ g : Option Addr × Nat,en = .returned (.slice g.1 l.length g.2) ∧ True ∧ HS w [] [.own (.slice g.1 l.length g.2) 3 1 l.length (l.flatMap inV)] w':=by
 refine enter (args:=[_]) Tryz.func129 Tryz.ntmps129 rfl rfl (HS.refl w []) ?_
 refine aS8 ?_
 refine o_p (Zr rfl rfl rfl Tryz.underlying30) rfl ?_
 refine aS ?_
 refine Qd rfl (fun h1=>?_) fun h1=>?_
 ·skip
  have ha0 : a = none:=by cases a with | none=>rfl | some b=>simp at h1
  subst ha0
  have hl0 : l = []:=Rw.none hs
  refine aS4 ?_
  exact rT rfl rfl (fun w' h'=>⟨(none,0),by rw [hl0];rfl,trivial,by rw [hl0];exact (h'.own_nil 3 1).ent aEt⟩)
 skip
 refine aS3 ?_
 refine o_h (Xg rfl Qv) rfl (fun b2 _=>?_)
 refine aS ?_
 refine o_h (QJ (l.flatMap inV) rfl rfl rfl Qv Tryz.underlying30 X8 rfl aPk (fun w h=>Rw.src iv1 hs h) (Qf iv1 l) (Xf QbX l) (by omega) (by simp only [maxLen];omega)) rfl (fun b3 _=>?_)
 refine aS2 ?_
 exact rT rfl rfl (fun w' h'=>⟨b3,by simp only [Xw,Nat.zero_add],trivial,by have h2:=h';simp only [Nat.zero_add,List.nil_append] at h2;exact h2.ent aEt⟩)
theorem c88 (w : World) (j : Nat) (mo rm : Int) (a : Option Addr) (cap : Nat) (L : List LNd) (hs : Nt w [] a L) (hB : Bd (pln L)) (hj : j ≤ 3) (h0 : 0 < L.length) : Calls Tryz.prog 88 #[.agg #[.int .i64 (j : Int),.int .i64 mo,.int .i64 rm,.slice a L.length cap]] w fun en w'=>∃ g : Nat × (Option Addr × Nat) × List LNd,en = .returned (.pointer (some ⟨g.1,0,none⟩)) ∧ pln g.2.2 = pln L ∧ HS w [] [.blk g.1 112 6 (tbV (j : Int) mo rm g.2.1.1 g.2.2.length g.2.1.2),.nodes 26 102 g.2.1.1 g.2.1.2 g.2.2] w':=by
 have hle:=hB.len
 rw [Qc] at hle
 have hes9 : ∀ i,i < L.length → (nth L i).es.length ≤ 1000:=fun i hi=>by have h9:=hB.es i (by rw [Qc];exact hi);rw [Qh hi] at h9;exact h9
 have hcs9 : ∀ i,i < L.length → (nth L i).cs.length ≤ 1000:=fun i hi=>by have h9:=hB.cs i (by rw [Qc];exact hi);rw [Qh hi] at h9;exact h9
 refine enter (args:=[_]) Tryz.func88 Tryz.ntmps88 rfl rfl (HS.refl w []) ?_
 refine aS2 ?_
 refine oBx fun b1 _=>?_
 refine aS3 ?_
 refine QE [] QH ?_
 refine dLn 0 [] ?_
 refine dQ 1 [] rfl (Qi rfl Qj0 rfl (fun w1 h1=>c77 w1)) ?_
 refine dFa 2 ?_
 refine dLd 3 [] ?_
 refine dV 4 rfl (QcS rfl rfl rfl Qer QeH j rfl (by omega)) ?_
 refine Ql (QcP j hj) ?_
 refine dV 5 rfl (Xr (cs:=[_,_,_,_,_,_]) rfl rfl Ql9 Qlm rfl) ?_
 refine dH 6 rfl (QiH rfl rfl) (fun b2 _=>?_)
 refine dBa ?_
 refine dP 7 ?_
 refine dNi ?_
 refine aS5 ?_
 refine o_h (QP rfl QqY rfl (fun w1 h1=>c127 w1 a cap L (hs.1.later h1) (by omega))) rfl (fun ⟨b3,c4⟩ _=>?_)
 refine QU (fun w h=>Qap h0 h aPk) (fun hgn=>?_)
 obtain ⟨gn,rfl,hcap,hcm⟩:=hgn
 refine QZ (fun w h=>HS.own_at h aPk) ?_
 refine aS3 ?_
 refine YE (Q9 rfl rfl rfl YD rfl aPt (by show 4 ≤ 6;omega) rfl) (fun _ _=>?_)
 iterate 13 refine aS ?_
 refine Qj (L':=[(2,_),(3,_),(24,_),(25,_),(26,_)]) aSx (fun _ h=>h) ?_
 refine QN (α:=Nat × List LNd) [4,5,26,27,28,29,30,31,32,33,34,35,36,37,38,39,40,41,42,43,44,45,46,47,48,49,50,51,52,53] (fun x=>[(26,.int .i64 (x.1 : Int))]) (fun x=>HS w [] [.blk gn 102 (c4 * 3) ((x.2 ++ L.drop x.1).flatMap LNd.vals),.star (x.2.map (Qk 26)),.blk b2 112 6 (tbV (j : Int) mo rm (some ⟨gn,0,none⟩) L.length c4)]) (fun x=>x.1 ≤ L.length ∧ x.2.length = x.1 ∧ pln x.2 = (pln L).take x.1) (fun x=>L.length - x.1) (0,[]) ⟨Nat.zero_le _,rfl,rfl⟩ aSx (fun w h=>(h.star_nil).ent aEt) (fun ⟨k,D⟩ hx=>?_)
 dsimp only
 obtain ⟨hk1,hk2,hk3⟩:=hx
 simp only [] at hk1 hk2 hk3
 refine aS5 ?_
 refine Qd rfl (fun h5=>?_) fun h5=>?_
 ·try simp only [dT] at h5
  have hkl : k < L.length:=by omega
  refine aS6 ?_
  refine o_p (Qa rfl rfl rfl Qp (k) (by omega) (by omega) rfl) rfl ?_
  refine o_q (QK (LNd.vals (nth L k)) rfl rfl Xh rfl (fun w h=>by have h9:=Rw.rd (h.rw_blk nv3 aPk) (i:=k) (by simp only [List.length_append,List.length_drop];omega);rw [QjN hk2 hkl] at h9;exact h9)) rfl ?_
  refine oAl (fun b6 _=>?_) Xa
  refine aS ?_
  refine oSt ?_
  refine aS ?_
  refine QE [20,23] QH ?_
  refine dP 0 ?_
  refine dP 1 ?_
  refine dFa 2 ?_
  refine dFa 3 ?_
  refine dLd 4 [[],[]] ?_
  refine dP 5 ?_
  refine dP 6 ?_
  refine dP 7 ?_
  refine dFa 8 ?_
  refine dFa 9 ?_
  refine dLd 10 [[],[]] ?_
  refine dP 11 ?_
  refine dFa 12 ?_
  refine dLd 13 [[],[]] ?_
  refine dFa 15 ?_
  refine dLd 16 [[17],[]] ?_
  refine dH 14 rfl (QP rfl QmK rfl (fun w1 h1=>c128 w1 (nth L k).ea (nth L k).ec (nth L k).es ((hs.es hkl).later h1) (by have:=hes9 k hkl;omega))) (fun b7 _=>?_)
  refine dBa ?_
  refine dH 17 rfl (QP rfl QmO rfl (fun w1 h1=>c129 w1 (nth L k).ca (nth L k).cc (nth L k).cs ((hs.cs hkl).later h1) (by have:=hcs9 k hkl;omega))) (fun b8 _=>?_)
  refine dBa ?_
  refine dV 18 rfl (Qa rfl rfl rfl Qp (k) (by omega) (by omega) rfl) ?_
  refine dFa 19 ?_
  refine QiD 20 rfl (Q9 rfl rfl rfl Xb rfl aPt (by simp only [Qx,Qf nv3,List.length_append,List.length_drop,Nat.zero_add];show _ + 1 ≤ _;omega) rfl) (by kernel_rfl) (fun w h=>h.ent aEt) (fun _ _=>?_)
  refine dTu [23] ?_
  refine dV 21 rfl (Qa rfl rfl rfl Qp (k) (by omega) (by omega) rfl) ?_
  refine dFa 22 ?_
  refine QiD 23 rfl (Q9 rfl rfl rfl Q8 rfl aPt (by simp only [Qx,Qf nv3,List.length_append,List.length_drop,Nat.zero_add];show _ + 1 ≤ _;omega) rfl) (by kernel_rfl) (fun w h=>h.ent aEt) (fun _ _=>?_)
  refine dTu [] ?_
  refine dNi ?_
  refine aS ?_
  refine Qj (L':=[(2,_),(3,_),(24,_),(25,_),(26,_)]) aSx (fun _ h=>h) ?_
  refine aS2 ?_
  try refine oWr ?_
  refine aS2 ?_
  exact QD (k + 1,D ++ [⟨(nth L k).us,b7.1,b7.2,(nth L k).es,b8.1,b8.2,(nth L k).cs⟩]) (by (try simp only []);omega) ⟨by (try simp only []);omega,by simp [hk2],QgM hkl hk3 rfl⟩ aSx (fun w h=>by have e9:=Qda (l:=D ++ L.drop k) (k:=k) (by simp only [List.length_append,List.length_drop];omega) b7.1 b7.2 (nth L k).es b8.1 b8.2 (nth L k).cs;rw [QjN hk2 hkl,Qoh hk2 hkl] at e9;have h2:=h.ent (Bs:=[.own (.slice b7.1 (nth L k).es.length b7.2) 26 2 (nth L k).es.length ((nth L k).es.flatMap TEnt.vals),.own (.slice b8.1 (nth L k).cs.length b8.2) 3 1 (nth L k).cs.length ((nth L k).cs.flatMap inV),.star (D.map (Qk 26)),.blk gn 102 (c4 * 3) (Qy (Qy ((D ++ L.drop k).flatMap LNd.vals) (0 + k * 3 + 1) [.slice b7.1 (nth L k).es.length b7.2]) (0 + k * 3 + 2) [.slice b8.1 (nth L k).cs.length b8.2]),.blk b2 112 6 (tbV (j : Int) mo rm (some ⟨gn,0,none⟩) L.length c4)]) aEt;rw [Nat.zero_add,e9] at h2;exact (HS.sub_app (sub:=Qk 26) (l:=D) (x:=(⟨(nth L k).us,b7.1,b7.2,(nth L k).es,b8.1,b8.2,(nth L k).cs⟩ : LNd)) (HS.star_close (Bs:=[_,_]) h2)).ent aEt)
 try simp only [dN] at h5
 obtain rfl : k = L.length:=by omega
 have hD : pln D = pln L:=by rw [hk3,← Qc L,List.take_length]
 refine Qu rfl ?_
 refine aS5 ?_
 exact rT rfl rfl (fun w' h'=>⟨(b2,(some ⟨gn,0,none⟩,c4),D),rfl,hD,by have h2:=h';rw [List.drop_length,List.append_nil] at h2;have h3:=HS.own_shut (n:=D.length) (h2.ent (Bs:=[.blk gn 102 (c4 * 3) (D.flatMap LNd.vals),.star (D.map (Qk 26)),.blk b2 112 6 (tbV (j : Int) mo rm (some ⟨gn,0,none⟩) L.length c4)]) aEt) (Qf nv3 D) (by omega) hcm;have h4:=HS.row_shut (l:=D) (sub:=Qk 26) h3 rfl rfl;have h5 : HS w [] [.nodes 26 102 (some ⟨gn,0,none⟩) c4 D,.blk b2 112 6 (tbV (j : Int) mo rm (some ⟨gn,0,none⟩) L.length c4)] w':=h4;rw [hk2];exact h5.ent aEt⟩)
theorem QqS : QT Tryz.prog 159 = true:=by kernel_rfl
theorem Qqq : Qpx Tryz.prog 132 77 4:=⟨_,Tryz.func132,rfl,rfl,by kernel_rfl,by kernel_rfl⟩
theorem Qp5 : Qpx Tryz.prog 161 30 4:=⟨_,Tryz.func161,rfl,rfl,by kernel_rfl,by kernel_rfl⟩
theorem c159 (w : World) (a : Option Addr) (cap : Nat) (l : List LNd) (q : Nat) (cv : Array Value) (bt : List Bool) (hs : Rw LNd.vals 3 w [] a l) (hm : l.length ≤ 1000000) (hq : QT Tryz.prog q = true) (hb : bt.length = l.length) (hc : ∀ k w1,k < l.length → HS w [] [] w1 → Calls Tryz.prog q (#[] ++ [.agg (LNd.vals (nth l k)).toArray].toArray ++ cv) w1 fun en w2=>en = .returned (.bool (bt.getD k false)) ∧ Below w1.heap.size w1 w2) : Calls Tryz.prog 159 #[.slice a l.length cap,.func (.func q) #[] cv] w fun en w'=>en = .returned (.int .i64 (ixI bt)) ∧ Below w.heap.size w w':=by
 refine enter (args:=[_,_]) Tryz.func159 Tryz.ntmps159 rfl rfl (HS.refl w []) ?_
 refine Zp ?_
 refine QN (α:=Nat) [4,5,8,9,10,11,12,13,14,15,16,17,18] (fun k=>[(8,.int .i64 (k : Int))]) (fun _=>_) (fun k=>k ≤ l.length ∧ ∀ i,i < k → bt.getD i false = false) (fun k=>l.length - k) 0 ⟨by omega,fun i h=>absurd h (Nat.not_lt_zero i)⟩ aSx (fun w h=>h) (fun k hk=>?_)
 obtain ⟨hk1,hk2⟩:=hk
 refine aS5 ?_
 refine Qd rfl (fun h1=>?_) fun h1=>?_
 ·try simp only [dT] at h1
  iterate 13 refine aS ?_
  refine o_p (Qa rfl rfl rfl Qp (k) (by omega) (by omega) (Rw.some hs (by omega))) rfl ?_
  refine o_q (QY _ rfl rfl Xh rfl (Rw.rd hs (by omega))) rfl ?_
  refine o_q (Yb rfl rfl hq rfl (fun w1 h1=>hc k w1 (by omega) (h1.ent aEt))) rfl ?_
  refine aS ?_
  refine Qd rfl (fun h2=>?_) fun h2=>?_
  ·skip
   refine aS5 ?_
   exact rT rfl rfl (fun w' h'=>⟨by have e:=Qb6 (l:=bt) (k:=k) (by omega) hk2 (fun _=>by assumption);simp only [Xw,ixI,e];rw [if_pos (by omega)],h'.below⟩)
  skip
  refine aS4 ?_
  try refine oWr ?_
  refine aS2 ?_
  exact QD (k+1) (by omega) ⟨by omega,fun i hi=>(Nat.lt_or_ge i k).elim (hk2 i) (fun h=>by obtain rfl : i = k:=(by omega);assumption)⟩ aSx (fun w h=>h)
 try simp only [dN] at h1
 refine Qu rfl ?_
 refine aS4 ?_
 exact rT rfl rfl (fun w' h'=>⟨by have e:=Qb6 (l:=bt) (k:=k) (by omega) hk2 (fun h=>by omega);simp only [Xw,ixI,e];rw [if_neg (by omega)],h'.below⟩)
theorem c160 (w : World) (n : LNd) : Calls Tryz.prog 160 #[.agg #[.bool n.us,.slice n.ea n.es.length n.ec,.slice n.ca n.cs.length n.cc]] w fun en w'=>en = .returned (.bool (!n.us)) ∧ Below w.heap.size w w':=by
 refine enter (args:=[_]) Tryz.func160 Tryz.ntmps160 rfl rfl (HS.refl w []) ?_
 refine aS2 ?_
 refine oBx fun b1 _=>?_
 refine aS9 ?_
 exact rT rfl rfl (fun w' h'=>⟨rfl,h'.below⟩)
theorem c150 (w : World) (bt : Nat) (j : Nat) (mo rm : Int) (gn cap : Nat) (L : List LNd) (hw : HS w (fps [.blk bt 112 6 (tbV (j : Int) mo rm (some ⟨gn,0,none⟩) (L).length cap),.blk gn 102 (cap * 3) ((L).flatMap LNd.vals),.star ((L).map (Qk 26))]) [.blk bt 112 6 (tbV (j : Int) mo rm (some ⟨gn,0,none⟩) (L).length cap),.blk gn 102 (cap * 3) ((L).flatMap LNd.vals),.star ((L).map (Qk 26))] w) (hnc : L.length ≤ cap) (hcm : cap ≤ maxLen) (h0 : 0 < L.length) (hl : L.length ≤ 1000) : Calls Tryz.prog 150 #[.pointer (some ⟨bt,0,none⟩)] w fun en w'=>∃ g : (Nat × Nat) × List LNd,en = .returned (.int .i64 ((Q0 (pln L)).1 : Int)) ∧ (pln g.2 = (Q0 (pln L)).2 ∧ g.2.length ≤ g.1.2 ∧ g.1.2 ≤ maxLen) ∧ HS w (fps [.blk bt 112 6 (tbV (j : Int) mo rm (some ⟨gn,0,none⟩) (L).length cap),.blk gn 102 (cap * 3) ((L).flatMap LNd.vals),.star ((L).map (Qk 26))]) [.blk bt 112 6 (tbV (j : Int) mo rm (some ⟨g.1.1,0,none⟩) (g.2).length g.1.2),.blk g.1.1 102 (g.1.2 * 3) ((g.2).flatMap LNd.vals),.star ((g.2).map (Qk 26))] w':=by
 have hixe : ixB (L.map fun n=>!n.us) = XE (pln L):=by unfold XE;rw [List.map_map];rfl
 have hnl : (pln L).length = L.length:=Qc L
 refine enter (args:=[_]) Tryz.func150 Tryz.ntmps150 rfl rfl hw ?_
 refine QaU ?_
 refine o_q (Qi rfl QqS rfl (fun w1 h1=>c159 w1 (some ⟨gn,0,none⟩) cap L 160 #[] (L.map fun n=>!n.us) (h1.rw_blk nv3 aPk) (by omega) (by kernel_rfl) (by simp) (fun k w2 hk h2=>by rw [Y4 (d:=default) hk];exact c160 w2 (nth L k)))) rfl ?_
 refine aS8 ?_
 refine Xn (α:=(Nat × Nat) × List LNd) [3,12,13,14,15,16,17,18,19,20,21,22,23,24,25,26,27,28,29] (fun x=>[(3,.int .i64 ((XE (pln L)) : Int))]) (fun x=>HS w (fps [.blk bt 112 6 (tbV (j : Int) mo rm (some ⟨gn,0,none⟩) (L).length cap),.blk gn 102 (cap * 3) ((L).flatMap LNd.vals),.star ((L).map (Qk 26))]) [.blk bt 112 6 (tbV (j : Int) mo rm (some ⟨x.1.1,0,none⟩) (x.2).length x.1.2),.blk x.1.1 102 (x.1.2 * 3) ((x.2).flatMap LNd.vals),.star ((x.2).map (Qk 26))]) (fun x=>(XE (pln L)) < x.2.length ∧ x.2.length ≤ x.1.2 ∧ x.1.2 ≤ maxLen ∧ usN (pln x.2) (XE (pln L)) true = (Q0 (pln L)).2 ∧ x.2.length ≤ 1001) ?_ ?_
 ·skip
  refine Qd rfl (fun h1=>?_) fun h1=>?_
  ·try simp only [dT] at h1
   have hz : ¬ XE (pln L) < L.length:=by have hq:=h1;unfold ixI at hq;rw [hixe,List.length_map] at hq;intro h9;rw [if_pos h9] at hq;omega
   have hz1 : XE (pln L) = L.length:=by have h9:=Qiu (L.map fun n=>!n.us);rw [hixe,List.length_map] at h9;omega
   refine Xd (fun w h=>(HS.own_shut (n:=L.length) (h.ent (Bs:=[.blk gn 102 (cap * 3) (L.flatMap LNd.vals),.star (L.map (Qk 26)),.blk bt 112 6 (tbV (j : Int) mo rm (some ⟨gn,0,none⟩) L.length cap)]) aEt) (Qf nv3 L) hnc hcm)) ?_
   iterate 17 refine aS ?_
   refine o_p (Xr (cs:=[_,_,_]) rfl rfl Z8 Xa rfl) rfl ?_
   refine o_h (Qr (cs:=[_,_,_]) rfl rfl Qp Xa rfl rfl rfl) rfl (fun b2 _=>?_)
   refine o_h (QJ [_,_,_] rfl rfl rfl Qp Tryz.underlying22 Xa rfl aPk (Xv aPk) rfl (by intro u hu;simp only [List.mem_cons,List.mem_nil_iff,or_false] at hu;rcases hu with rfl | rfl | rfl <;> rfl) (by omega) (by simp only [maxLen];omega)) rfl (fun b3 _=>?_)
   refine QU (fun w h=>Qap (n:=L.length + 1) (by omega) h aPk) (fun hgn=>?_)
   obtain ⟨⟨ga,gc⟩,hga⟩ : ∃ q : Option Addr × Nat,b3 = q:=⟨_,rfl⟩
   subst hga
   obtain ⟨g9,e9,hn9,hm9⟩:=hgn
   simp only [] at e9 hn9 hm9
   subst e9
   refine QZ (fun w h=>HS.own_at h aPk) ?_
   refine aS3 ?_
   refine YE (Q9 rfl rfl rfl YD rfl aPt (by show 4 ≤ 6;omega) rfl) (fun _ _=>?_)
   refine aS ?_
   exact Qn ((g9,gc),L ++ [⟨false,none,0,[],none,0,[]⟩]) ⟨by simp only [List.length_append,List.length_singleton];omega,by simp only [List.length_append,List.length_singleton];exact hn9,hm9,by unfold Q0 usN;rw [if_neg (by rw [hnl];exact hz),hz1,QfQ,List.set_append_right _ _ (by rw [Qc];omega),Qc,Nat.sub_self];simp only [];congr 1;show [_] = [_];congr 1;rw [show nth (pln L ++ pln [(⟨false,none,0,[],none,0,[]⟩ : LNd)]) L.length = ⟨false,[],[]⟩ from Q3 (by rw [List.getElem?_append_right (by rw [Qc];omega),Qc,Nat.sub_self];rfl)],by simp only [List.length_append,List.length_singleton];omega⟩ (by rw [hz1];exact aSx) (fun w h=>by have h2:=HS.sub_app (sub:=Qk 26) (l:=L) (x:=(⟨false,none,0,[],none,0,[]⟩ : LNd)) (HS.star_close (Bs:=[_,_]) (((h.ent (Bs:=[.star (L.map (Qk 26)),.blk bt 112 6 (tbV (j : Int) mo rm (some ⟨g9,0,none⟩) (L.length + 1) gc),.blk g9 102 (gc * 3) (L.flatMap LNd.vals ++ [.bool false,.slice none 0 0,.slice none 0 0])]) aEt).own_nil 3 1).own_nil 26 2));have e8 : (L ++ [(⟨false,none,0,[],none,0,[]⟩ : LNd)]).flatMap LNd.vals = L.flatMap LNd.vals ++ [.bool false,.slice none 0 0,.slice none 0 0]:=(by rw [List.flatMap_append];rfl);have e7 : (L ++ [(⟨false,none,0,[],none,0,[]⟩ : LNd)]).length = L.length + 1:=(by simp);dsimp only;rw [e8,e7];exact h2.ent aEt)
  try simp only [dN] at h1
  have hz : XE (pln L) < L.length:=by have hq:=h1;unfold ixI at hq;rw [hixe,List.length_map] at hq;split at hq <;> first | assumption | omega
  have hz2 : ixI (L.map fun n=>!n.us) = (XE (pln L) : Int):=by unfold ixI;rw [hixe,List.length_map,if_pos hz]
  refine aS ?_
  exact Qn ((gn,cap),L) ⟨hz,hnc,hcm,by unfold Q0;rw [if_pos (by rw [hnl];exact hz)],by show L.length ≤ 1001;omega⟩ (by rw [hz2];exact aSx) (fun w h=>h.ent aEt)
 intro ⟨⟨gn1,cap1⟩,L1⟩ hx
 dsimp only
 obtain ⟨hx1,hx2,hx3,hx4,hx5⟩:=hx
 simp only [] at hx1 hx2 hx3 hx4 hx5
 refine aS8 ?_
 refine o_p (Qa rfl rfl rfl Qp ((XE (pln L))) (by omega) (by omega) rfl) rfl ?_
 refine aS ?_
 refine YE (Q9 rfl rfl rfl QcQ rfl aPt (by rw [Qf nv3];show _ + 1 ≤ _;omega) rfl) (fun _ _=>?_)
 refine aS6 ?_
 exact rT rfl rfl (fun w' h'=>⟨((gn1,cap1),L1.set (XE (pln L)) { nth L1 (XE (pln L)) with us:=true }),by unfold Q0;split <;> first | rfl | (have hq9:=Qiu (L.map fun n=>!n.us);rw [hixe,List.length_map] at hq9;simp only [Xw];congr 2;rw [hnl] at *;congr 1;omega),⟨by rw [Qqk hx1];exact hx4,by simp only [List.length_set];exact hx2,hx3⟩,by have h2:=h'.ent (Bs:=[.blk bt 112 6 (tbV (j : Int) mo rm (some ⟨gn1,0,none⟩) L1.length cap1),.blk gn1 102 (cap1 * 3) (Qy (L1.flatMap LNd.vals) (0 + (XE (pln L)) * 3 + 0) [.bool true]),.star (L1.map (Qk 26))]) aEt;rw [QkO hx1] at h2;simp only [List.length_set];rw [Qof hx1];exact h2.ent aEt⟩)
theorem c141 (w : World) (bt : Nat) (j : Nat) (mo rm : Int) (a : Option Addr) (cap : Nat) (L : List LNd) (i : Int) (ht : TbR w [] bt (j : Int) mo rm a L.length cap) (hs : Nt w [] a L) (hl : L.length ≤ 100000) (hcl : ∀ k,k < L.length → (nth L k).cs.length ≤ 100000) : Calls Tryz.prog 141 #[.pointer (some ⟨bt,0,none⟩),.int .i64 i] w fun en w'=>en = .returned (.tuple #[.int .i64 ((Xi i (pln L) 0).1 : Int),.int .i64 ((Xi i (pln L) 0).2 : Int)]) ∧ Below w.heap.size w w':=by
 refine enter (args:=[_,_]) Tryz.func141 Tryz.ntmps141 rfl rfl (HS.refl w []) ?_
 refine Zp ?_
 refine o_q (Qe rfl rfl YD (ht 3 _ rfl)) rfl ?_
 refine aS4 ?_
 refine QN (α:=Nat) [4,5,6,7,8,15,16,17,18,19,20,21,22,23,24,25,26,27,28] (fun k=>[(15,.int .i64 (k : Int))]) (fun _=>HS w [] []) (fun k=>k ≤ L.length ∧ (Xi i (pln L) 0) = Xi i ((pln L).drop k) k) (fun k=>L.length - k) 0 ⟨Nat.zero_le _,rfl⟩ aSx (fun w h=>h.ent aEt) (fun k hx=>?_)
 obtain ⟨hk1,hk2⟩:=hx
 refine aS5 ?_
 refine Qd rfl (fun h1=>?_) fun h1=>?_
 ·try simp only [dT] at h1
  have hkl : k < L.length:=by omega
  have hst:=Qkr (i:=i) (ns:=pln L) (k:=k) (by rw [Qc];exact hkl)
  rw [Qh hkl] at hst
  simp only [LNd.pl] at hst
  refine aS6 ?_
  refine o_p (Qa rfl rfl rfl Qp (k) (by omega) (by omega) (Rw.some hs.1 (by omega))) rfl ?_
  refine o_q (QY _ rfl rfl Xh rfl (Rw.rd hs.1 hkl)) rfl ?_
  refine oAl (fun b2 _=>?_) Xa
  refine aS ?_
  refine oSt ?_
  refine aS6 ?_
  refine o_q (Qi rfl Qmc rfl (fun w1 h1=>c148 w1 (nth L k).ca (nth L k).cc (nth L k).cs i ((hs.cs hkl).later h1) (hcl k hkl))) rfl ?_
  refine aS7 ?_
  refine Qd rfl (fun h3=>?_) fun h3=>?_
  ·try simp only [dT] at h3
   have hz : ixB (Y2 (nth L k).cs i) < (nth L k).cs.length:=by have hq:=h3;unfold ixI at hq;rw [Yr] at hq;split at hq <;> first | assumption | omega
   have hz3 : (Xi i (pln L) 0) = (k,ixB (Y2 (nth L k).cs i)):=(hk2.trans hst).trans (if_pos hz)
   have hz2 : ixI (Y2 (nth L k).cs i) = (ixB (Y2 (nth L k).cs i) : Int):=by unfold ixI;rw [Yr,if_pos hz]
   refine aS7 ?_
   exact QM (rs:=[.tmp 4,.tmp 5]) rfl (.tmp rfl (.tmp rfl (.nil))) (fun w' h'=>⟨by rw [hz3,hz2];rfl,h'.below⟩)
  try simp only [dN] at h3
  have hz : ¬ ixB (Y2 (nth L k).cs i) < (nth L k).cs.length:=by have hq:=h3;unfold ixI at hq;rw [Yr] at hq;intro h9;rw [if_pos h9] at hq;omega
  refine aS4 ?_
  try refine oWr ?_
  refine aS2 ?_
  exact QD (k + 1) (by omega) ⟨by omega,(hk2.trans hst).trans (if_neg hz)⟩ aSx (fun w h=>h.ent aEt)
 try simp only [dN] at h1
 have hz : (Xi i (pln L) 0) = (0,0):=by rw [hk2,List.drop_of_length_le (by rw [Qc];omega)];rfl
 refine Qu rfl ?_
 refine aS5 ?_
 exact QM (rs:=[.tmp 4,.tmp 5]) rfl (.tmp rfl (.tmp rfl (.nil))) (fun w' h'=>⟨by rw [hz];rfl,h'.below⟩)
theorem c96a (w : World) (a : Option Addr) (i n m cap : Nat) (xs news : List Value) (b0 c0 tot2 : Nat) (hw : HS w (fps [.own (.slice a n cap) 26 2 n xs,.blk b0 26 tot2 news]) [.own (.slice a n cap) 26 2 n xs,.blk b0 26 tot2 news] w) (hm0 : 0 < m) (hl : news.length = m * 2) (hn1 : ∀ u ∈ news,u.oneCell' = true) (hx1 : ∀ u ∈ xs,u.oneCell' = true) (hmax : (n + m) * 32 ≤ 140737488355328) (hi : i = n) : Calls Tryz.prog 96 #[.slice a n cap,.int .i64 i,.slice (some ⟨b0,0,none⟩) m c0] w fun en w'=>∃ g : Option Addr × Nat,en = .returned (.slice g.1 (n + m) g.2) ∧ True ∧ HS w (fps [.own (.slice a n cap) 26 2 n xs,.blk b0 26 tot2 news]) [.own (.slice g.1 (n + m) g.2) 26 2 (n + m) (xs.take (i * 2) ++ news ++ xs.drop (i * 2)),.blk b0 26 tot2 news] w':=by
 obtain ⟨_,hnc,hcm,hxl⟩:=hw.own_facts .here
 refine enter (args:=[_,_,_]) Tryz.func96 Tryz.ntmps96 rfl rfl hw ?_
 refine aS8 ?_
 refine o_p (QX _ _ i n rfl rfl QB ⟨_,_,rfl,rfl⟩ rfl (by omega) (by omega)) rfl ?_
 iterate 13 refine aS ?_
 refine Qd rfl (fun h1=>?_) fun h1=>?_
 ·try simp only [dT] at h1
  exfalso;first | omega | (simp at h1;done) | (simp_all;done)
 try simp only [dN] at h1
 iterate 14 refine aS ?_
 refine Qd rfl (fun h2=>?_) fun h2=>?_
 ·try simp only [dT] at h2
  refine aS4 ?_
  refine o_h (QJ news rfl rfl rfl QB Tryz.underlying77 Xm rfl aPk (Xv aPk) hl hn1 (by omega) (by simp only [maxLen];omega)) rfl (fun b3 _=>?_)
  refine aS2 ?_
  exact rT rfl rfl (fun w' h'=>⟨(_,_),rfl,trivial,by subst hi;rw [List.take_of_length_le (by omega),List.drop_eq_nil_of_le (by omega),List.append_nil];exact h'.ent aEt⟩)
 try simp only [dN] at h2
 exfalso;first | omega | (simp at h2;done) | (simp_all;done)
theorem c96b (w : World) (gg i n m cap : Nat) (xs news : List Value) (b0 c0 tot2 : Nat) (M : List Nat) (hw : HS w M [.blk gg 26 (cap * 2) xs,.blk b0 26 tot2 news] w) (hnc : n ≤ cap) (hcm : cap ≤ maxLen) (hxl : xs.length = n * 2) (hm0 : 0 < m) (hl : news.length = m * 2) (hn1 : ∀ u ∈ news,u.oneCell' = true) (hx1 : ∀ u ∈ xs,u.oneCell' = true) (hmax : (n + m) * 32 ≤ 140737488355328) (hi : i < n) : Calls Tryz.prog 96 #[.slice (some ⟨gg,0,none⟩) n cap,.int .i64 i,.slice (some ⟨b0,0,none⟩) m c0] w fun en w'=>∃ g : Option Addr × Nat,en = .returned (.slice g.1 (n + m) g.2) ∧ True ∧ HS w M [.own (.slice g.1 (n + m) g.2) 26 2 (n + m) (xs.take (i * 2) ++ news ++ xs.drop (i * 2)),.blk b0 26 tot2 news] w':=by
 have ht2:=(hw.blk_get (.there .here)).len_le
 have hcl : (cut xs 0 (i * 2)).length = i * 2:=Xk _ _ _ (by omega)
 refine enter (args:=[_,_,_]) Tryz.func96 Tryz.ntmps96 rfl rfl hw ?_
 refine aS8 ?_
 refine o_p (QX _ _ i n rfl rfl QB ⟨_,_,rfl,rfl⟩ rfl (by omega) (by omega)) rfl ?_
 iterate 13 refine aS ?_
 refine Qd rfl (fun h1=>?_) fun h1=>?_
 ·try simp only [dT] at h1
  exfalso;first | omega | (simp at h1;done) | (simp_all;done)
 try simp only [dN] at h1
 iterate 14 refine aS ?_
 refine Qd rfl (fun h2=>?_) fun h2=>?_
 ·try simp only [dT] at h2
  exfalso;first | omega | (simp at h2;done) | (simp_all;done)
 try simp only [dN] at h2
 refine aS7 ?_
 try refine oWr ?_
 refine aS ?_
 refine o_p (Qe3 rfl rfl Tryz.underlying77) rfl ?_
 refine aS2 ?_
 refine Qd rfl (fun h3=>?_) fun h3=>?_
 ·try simp only [dT] at h3
  refine aS4 ?_
  refine o_p (QX _ _ 0 i rfl rfl QB rfl ⟨_,_,rfl,rfl⟩ (by omega) (by omega)) rfl ?_
  refine Qm (show _ = Value.slice (some ⟨gg,0,none⟩) (i) (cap) from by rw [Ys] <;> (congr 1 <;> omega)) ?_
  refine aS3 ?_
  try refine oWr ?_
  refine aS2 ?_
  try refine oWr ?_
  refine Qm (show _ = Value.int .i64 ((n + m - i : Nat) : Int) from by first | rfl | (congr 1 <;> first | rfl | omega)) ?_
  refine o_h (Y5 (m:=n + m - i) (olds:=cut xs 0 (i * 2)) rfl rfl rfl QB Qd3 Xm rfl (by decide) (by omega) (by omega) (Z2 0 (i * 2) (fun _=>rfl) aPk) hcl (by omega) (by simp only [maxLen];omega)) rfl (fun ⟨b4,c5⟩ ⟨h6,k7⟩=>?_)
  refine Qm (show _ = Value.slice (some ⟨b4,0,none⟩) (n + m) c5 from by first | rfl | (congr 1 <;> first | rfl | omega)) ?_
  refine aS3 ?_
  refine Qj (L':=[(0,_),(1,_),(2,_),(6,_),(7,_),(8,_),(9,_)]) aSx (fun _ h=>h) ?_
  refine aS3 ?_
  refine o_p (QX _ _ i (n + m) rfl rfl QB ⟨_,_,rfl,rfl⟩ rfl (by omega) (by omega)) rfl ?_
  refine Qm (show _ = Value.slice (some ⟨b4,i * 2,none⟩) (n + m - i) (c5 - i) from by rw [XY (by omega)] <;> (congr 1 <;> omega)) ?_
  refine aS ?_
  refine o_h (Qbl m news rfl rfl rfl QB aPt (by omega) hl (fun _=>rfl) (by simp only [Xe,List.length_append,Qx];omega) (Xv aPk) hn1) rfl (fun _ _=>?_)
  refine aS2 ?_
  refine QE [8] QH ?_
  refine dP 0 ?_
  refine dP 1 ?_
  refine dP 2 ?_
  refine dP 3 ?_
  try refine dWr ?_
  refine dV 4 rfl (QX _ _ (i + m) (n + m) rfl rfl QB ⟨_,_,rfl,(by omega)⟩ rfl (by omega) (by omega)) ?_
  refine Ql (show _ = Value.slice (some ⟨b4,(i + m) * 2,none⟩) (n - i) (c5 - (i + m)) from by rw [XY (by omega)] <;> (congr 1 <;> omega)) ?_
  refine dP 5 ?_
  refine dP 6 ?_
  refine dV 7 rfl (QX _ _ i n rfl rfl QB ⟨_,_,rfl,rfl⟩ rfl (by omega) (by omega)) ?_
  refine Ql (show _ = Value.slice (some ⟨gg,i * 2,none⟩) (n - i) (cap - i) from by rw [XY (by omega)] <;> (congr 1 <;> omega)) ?_
  refine dH 8 rfl (Qbl (n - i) (cut xs (i * 2) ((n - i) * 2)) rfl rfl rfl QB aPt (by omega) (Xk _ _ _ (by omega)) (fun _=>rfl) (by rw [Xk _ _ _ (by omega)];simp only [Xe,List.length_append,Qx];omega) (Z2 (i * 2) ((n - i) * 2) (fun _=>rfl) aPk) (Qcz hx1 _ _)) (fun _ _=>?_)
  refine dTu [] ?_
  refine dNi ?_
  refine aS5 ?_
  exact rT rfl rfl (fun w' h'=>⟨(some ⟨b4,0,none⟩,c5),rfl,trivial,(HS.to_own (n:=n + m) (xs:=xs.take (i * 2) ++ news ++ xs.drop (i * 2)) (ds:=[]) aPk h' (by have hq:=Qgr (xs:=xs) (news:=news) (z:=YQ [.string (bs []),.string (bs [])] ((n + m - i) * 2)) (p:=i * 2) (q:=m * 2) (N:=n * 2) hxl (by omega) hl (by rw [Xe];omega);rw [List.append_nil];rw [show (i + m) * 2 = i * 2 + m * 2 from by omega,show (n - i) * 2 = n * 2 - i * 2 from by omega];exact hq) (by simp only [List.length_append,List.length_take,List.length_drop];omega) (by omega) (by omega)).ent aEt⟩)
 try simp only [dN] at h3
 refine aS7 ?_
 try refine oWr ?_
 refine o_p (QX _ _ 0 (n + m) rfl rfl QB rfl ⟨_,_,rfl,(by omega)⟩ (by omega) (by omega)) rfl ?_
 refine Qm (show _ = Value.slice (some ⟨gg,0,none⟩) (n + m) cap from by rw [Ys] <;> (congr 1 <;> omega)) ?_
 refine Y1 (fun w h=>HS.blk_full (b:=gg) aPk h) fun ds=>?_
 refine QU (fun w h=>h.1) fun hds=>?_
 refine QZ (fun w h=>h.2) ?_
 refine Zf ?_
 try refine oWr ?_
 refine o_p (QX _ _ (i + m) (n + m) rfl rfl QB ⟨_,_,rfl,(by omega)⟩ rfl (by omega) (by omega)) rfl ?_
 refine Qm (show _ = Value.slice (some ⟨gg,(i + m) * 2,none⟩) (n - i) (cap - (i + m)) from by rw [XY (by omega)] <;> (congr 1 <;> omega)) ?_
 refine o_q (Qef rfl Qqq rfl rfl QB (hp:=aPk) (hp':=aPk) (by decide) (by omega) (by omega)) rfl ?_
 refine aS2 ?_
 refine Qd rfl (fun h8=>?_) fun h8=>?_
 ·try simp only [Bool.not_false] at h8
  refine aS ?_
  refine Qj (L':=[(0,_),(1,_),(2,_),(6,_),(7,_),(8,_)]) aSx (fun _ h=>h) ?_
  refine QE [8] QH ?_
  refine dP 0 ?_
  refine dP 1 ?_
  refine dP 2 ?_
  refine dP 3 ?_
  try refine dWr ?_
  refine dV 4 rfl (QX _ _ (i + m) (n + m) rfl rfl QB ⟨_,_,rfl,(by omega)⟩ rfl (by omega) (by omega)) ?_
  refine Ql (show _ = Value.slice (some ⟨gg,(i + m) * 2,none⟩) (n - i) (cap - (i + m)) from by rw [XY (by omega)] <;> (congr 1 <;> omega)) ?_
  refine dP 5 ?_
  refine dP 6 ?_
  refine dV 7 rfl (QX _ _ i (n + m) rfl rfl QB ⟨_,_,rfl,rfl⟩ rfl (by omega) (by omega)) ?_
  refine Ql (show _ = Value.slice (some ⟨gg,i * 2,none⟩) (n + m - i) (cap - i) from by rw [XY (by omega)] <;> (congr 1 <;> omega)) ?_
  refine dH 8 rfl (Qbl (n - i) (cut (xs ++ ds) (i * 2) ((n - i) * 2)) rfl rfl rfl QB aPt (by omega) (Xk _ _ _ (by simp only [Xe,List.length_append,Qx];omega)) (fun _=>rfl) (by rw [Xk _ _ _ (by simp only [Xe,List.length_append,Qx];omega)];simp only [Xe,List.length_append,Qx];omega) (Z2 (i * 2) ((n - i) * 2) (fun _=>rfl) aPk) (QiV hx1 (by omega))) (fun _ _=>?_)
  refine dTu [] ?_
  refine dNi ?_
  refine aS4 ?_
  refine o_p (QX _ _ i (n + m) rfl rfl QB ⟨_,_,rfl,rfl⟩ rfl (by omega) (by omega)) rfl ?_
  refine Qm (show _ = Value.slice (some ⟨gg,i * 2,none⟩) (n + m - i) (cap - i) from by rw [XY (by omega)] <;> (congr 1 <;> omega)) ?_
  refine aS ?_
  refine o_h (Qbl m news rfl rfl rfl QB aPt (by omega) hl (fun _=>rfl) (by simp only [Xe,List.length_append,Qx];omega) (Xv aPk) hn1) rfl (fun _ _=>?_)
  refine aS6 ?_
  exact rT rfl rfl (fun w' h'=>⟨(some ⟨gg,0,none⟩,cap),rfl,trivial,(HS.to_own (n:=n + m) (xs:=xs.take (i * 2) ++ news ++ xs.drop (i * 2)) (ds:=ds.drop (m * 2)) aPk h' (by have hq:=Qle (xs:=xs) (ds:=ds) (news:=news) (p:=i * 2) (q:=m * 2) (N:=n * 2) hxl (by omega) hl (by omega);rw [show (i + m) * 2 = i * 2 + m * 2 from by omega,show (n - i) * 2 = n * 2 - i * 2 from by omega];exact hq) (by simp only [List.length_append,List.length_take,List.length_drop];omega) (by omega) (by omega)).ent aEt⟩)
 try simp only [Bool.not_false] at h8
 exfalso;first | omega | (simp at h8;done) | (simp_all;done)
theorem c96 (w : World) (a : Option Addr) (i n m cap : Nat) (xs news : List Value) (b0 c0 tot2 : Nat) (hw : HS w (fps [.own (.slice a n cap) 26 2 n xs,.blk b0 26 tot2 news]) [.own (.slice a n cap) 26 2 n xs,.blk b0 26 tot2 news] w) (hm0 : 0 < m) (hl : news.length = m * 2) (hn1 : ∀ u ∈ news,u.oneCell' = true) (hx1 : ∀ u ∈ xs,u.oneCell' = true) (hmax : (n + m) * 32 ≤ 140737488355328) (hi : i ≤ n) : Calls Tryz.prog 96 #[.slice a n cap,.int .i64 i,.slice (some ⟨b0,0,none⟩) m c0] w fun en w'=>∃ g : Option Addr × Nat,en = .returned (.slice g.1 (n + m) g.2) ∧ True ∧ HS w (fps [.own (.slice a n cap) 26 2 n xs,.blk b0 26 tot2 news]) [.own (.slice g.1 (n + m) g.2) 26 2 (n + m) (xs.take (i * 2) ++ news ++ xs.drop (i * 2)),.blk b0 26 tot2 news] w':=by
  rcases Nat.lt_or_ge i n with h | h
  · obtain ⟨gg,rfl,_,hnc,hcm,hxl,hb⟩:=hw.own_blk (by omega) .here;exact c96b w gg i n m cap xs news b0 c0 tot2 _ hb hnc hcm hxl hm0 hl hn1 hx1 hmax h
  · exact c96a w a i n m cap xs news b0 c0 tot2 hw hm0 hl hn1 hx1 hmax (by omega)
theorem Qrp (w : World) (a : Option Addr) (i n m cap : Nat) (xs news : List Value) (b0 c0 tot2 : Nat) (hw : HS w (fps [.own (.slice a n cap) 3 1 n xs,.blk b0 3 tot2 news]) [.own (.slice a n cap) 3 1 n xs,.blk b0 3 tot2 news] w) (hm0 : 0 < m) (hl : news.length = m * 1) (hn1 : ∀ u ∈ news,u.oneCell' = true) (hx1 : ∀ u ∈ xs,u.oneCell' = true) (hmax : (n + m) * 8 ≤ 140737488355328) (hi : i = n) : Calls Tryz.prog 151 #[.slice a n cap,.int .i64 i,.slice (some ⟨b0,0,none⟩) m c0] w fun en w'=>∃ g : Option Addr × Nat,en = .returned (.slice g.1 (n + m) g.2) ∧ True ∧ HS w (fps [.own (.slice a n cap) 3 1 n xs,.blk b0 3 tot2 news]) [.own (.slice g.1 (n + m) g.2) 3 1 (n + m) (xs.take (i * 1) ++ news ++ xs.drop (i * 1)),.blk b0 3 tot2 news] w':=by
 obtain ⟨_,hnc,hcm,hxl⟩:=hw.own_facts .here
 refine enter (args:=[_,_,_]) Tryz.func151 Tryz.ntmps151 rfl rfl hw ?_
 refine aS8 ?_
 refine o_p (QX _ _ i n rfl rfl Qv ⟨_,_,rfl,rfl⟩ rfl (by omega) (by omega)) rfl ?_
 iterate 13 refine aS ?_
 refine Qd rfl (fun h1=>?_) fun h1=>?_
 ·try simp only [dT] at h1
  exfalso;first | omega | (simp at h1;done) | (simp_all;done)
 try simp only [dN] at h1
 iterate 14 refine aS ?_
 refine Qd rfl (fun h2=>?_) fun h2=>?_
 ·try simp only [dT] at h2
  refine aS4 ?_
  refine o_h (QJ news rfl rfl rfl Qv Tryz.underlying30 X8 rfl aPk (Xv aPk) hl hn1 (by omega) (by simp only [maxLen];omega)) rfl (fun b3 _=>?_)
  refine aS2 ?_
  exact rT rfl rfl (fun w' h'=>⟨(_,_),rfl,trivial,by subst hi;rw [List.take_of_length_le (by omega),List.drop_eq_nil_of_le (by omega),List.append_nil];exact h'.ent aEt⟩)
 try simp only [dN] at h2
 exfalso;first | omega | (simp at h2;done) | (simp_all;done)
theorem Qsg (w : World) (gg i n m cap : Nat) (xs news : List Value) (b0 c0 tot2 : Nat) (M : List Nat) (hw : HS w M [.blk gg 3 (cap * 1) xs,.blk b0 3 tot2 news] w) (hnc : n ≤ cap) (hcm : cap ≤ maxLen) (hxl : xs.length = n * 1) (hm0 : 0 < m) (hl : news.length = m * 1) (hn1 : ∀ u ∈ news,u.oneCell' = true) (hx1 : ∀ u ∈ xs,u.oneCell' = true) (hmax : (n + m) * 8 ≤ 140737488355328) (hi : i < n) : Calls Tryz.prog 151 #[.slice (some ⟨gg,0,none⟩) n cap,.int .i64 i,.slice (some ⟨b0,0,none⟩) m c0] w fun en w'=>∃ g : Option Addr × Nat,en = .returned (.slice g.1 (n + m) g.2) ∧ True ∧ HS w M [.own (.slice g.1 (n + m) g.2) 3 1 (n + m) (xs.take (i * 1) ++ news ++ xs.drop (i * 1)),.blk b0 3 tot2 news] w':=by
 have ht2:=(hw.blk_get (.there .here)).len_le
 have hcl : (cut xs 0 (i * 1)).length = i * 1:=Xk _ _ _ (by omega)
 refine enter (args:=[_,_,_]) Tryz.func151 Tryz.ntmps151 rfl rfl hw ?_
 refine aS8 ?_
 refine o_p (QX _ _ i n rfl rfl Qv ⟨_,_,rfl,rfl⟩ rfl (by omega) (by omega)) rfl ?_
 iterate 13 refine aS ?_
 refine Qd rfl (fun h1=>?_) fun h1=>?_
 ·try simp only [dT] at h1
  exfalso;first | omega | (simp at h1;done) | (simp_all;done)
 try simp only [dN] at h1
 iterate 14 refine aS ?_
 refine Qd rfl (fun h2=>?_) fun h2=>?_
 ·try simp only [dT] at h2
  exfalso;first | omega | (simp at h2;done) | (simp_all;done)
 try simp only [dN] at h2
 refine aS7 ?_
 try refine oWr ?_
 refine aS ?_
 refine o_p (Qe3 rfl rfl Tryz.underlying30) rfl ?_
 refine aS2 ?_
 refine Qd rfl (fun h3=>?_) fun h3=>?_
 ·try simp only [dT] at h3
  refine aS4 ?_
  refine o_p (QX _ _ 0 i rfl rfl Qv rfl ⟨_,_,rfl,rfl⟩ (by omega) (by omega)) rfl ?_
  refine Qm (show _ = Value.slice (some ⟨gg,0,none⟩) (i) (cap) from by rw [Ys] <;> (congr 1 <;> omega)) ?_
  refine aS3 ?_
  try refine oWr ?_
  refine aS2 ?_
  try refine oWr ?_
  refine Qm (show _ = Value.int .i64 ((n + m - i : Nat) : Int) from by first | rfl | (congr 1 <;> first | rfl | omega)) ?_
  refine o_h (Y5 (m:=n + m - i) (olds:=cut xs 0 (i * 1)) rfl rfl rfl Qv Qd3 X8 rfl (by decide) (by omega) (by omega) (Z2 0 (i * 1) (fun _=>rfl) aPk) hcl (by omega) (by simp only [maxLen];omega)) rfl (fun ⟨b4,c5⟩ ⟨h6,k7⟩=>?_)
  refine Qm (show _ = Value.slice (some ⟨b4,0,none⟩) (n + m) c5 from by first | rfl | (congr 1 <;> first | rfl | omega)) ?_
  refine aS3 ?_
  refine Qj (L':=[(0,_),(1,_),(2,_),(6,_),(7,_),(8,_),(9,_)]) aSx (fun _ h=>h) ?_
  refine aS3 ?_
  refine o_p (QX _ _ i (n + m) rfl rfl Qv ⟨_,_,rfl,rfl⟩ rfl (by omega) (by omega)) rfl ?_
  refine Qm (show _ = Value.slice (some ⟨b4,i * 1,none⟩) (n + m - i) (c5 - i) from by rw [XY (by omega)] <;> (congr 1 <;> omega)) ?_
  refine aS ?_
  refine o_h (Qbl m news rfl rfl rfl Qv aPt (by omega) hl (fun _=>rfl) (by simp only [Xe,List.length_append,Qx];omega) (Xv aPk) hn1) rfl (fun _ _=>?_)
  refine aS2 ?_
  refine QE [8] QH ?_
  refine dP 0 ?_
  refine dP 1 ?_
  refine dP 2 ?_
  refine dP 3 ?_
  try refine dWr ?_
  refine dV 4 rfl (QX _ _ (i + m) (n + m) rfl rfl Qv ⟨_,_,rfl,(by omega)⟩ rfl (by omega) (by omega)) ?_
  refine Ql (show _ = Value.slice (some ⟨b4,(i + m) * 1,none⟩) (n - i) (c5 - (i + m)) from by rw [XY (by omega)] <;> (congr 1 <;> omega)) ?_
  refine dP 5 ?_
  refine dP 6 ?_
  refine dV 7 rfl (QX _ _ i n rfl rfl Qv ⟨_,_,rfl,rfl⟩ rfl (by omega) (by omega)) ?_
  refine Ql (show _ = Value.slice (some ⟨gg,i * 1,none⟩) (n - i) (cap - i) from by rw [XY (by omega)] <;> (congr 1 <;> omega)) ?_
  refine dH 8 rfl (Qbl (n - i) (cut xs (i * 1) ((n - i) * 1)) rfl rfl rfl Qv aPt (by omega) (Xk _ _ _ (by omega)) (fun _=>rfl) (by rw [Xk _ _ _ (by omega)];simp only [Xe,List.length_append,Qx];omega) (Z2 (i * 1) ((n - i) * 1) (fun _=>rfl) aPk) (Qcz hx1 _ _)) (fun _ _=>?_)
  refine dTu [] ?_
  refine dNi ?_
  refine aS5 ?_
  exact rT rfl rfl (fun w' h'=>⟨(some ⟨b4,0,none⟩,c5),rfl,trivial,(HS.to_own (n:=n + m) (xs:=xs.take (i * 1) ++ news ++ xs.drop (i * 1)) (ds:=[]) aPk h' (by have hq:=Qgr (xs:=xs) (news:=news) (z:=YQ [.int .i64 0] ((n + m - i) * 1)) (p:=i * 1) (q:=m * 1) (N:=n * 1) hxl (by omega) hl (by rw [Xe];omega);rw [List.append_nil];rw [show (i + m) * 1 = i * 1 + m * 1 from by omega,show (n - i) * 1 = n * 1 - i * 1 from by omega];exact hq) (by simp only [List.length_append,List.length_take,List.length_drop];omega) (by omega) (by omega)).ent aEt⟩)
 try simp only [dN] at h3
 refine aS7 ?_
 try refine oWr ?_
 refine o_p (QX _ _ 0 (n + m) rfl rfl Qv rfl ⟨_,_,rfl,(by omega)⟩ (by omega) (by omega)) rfl ?_
 refine Qm (show _ = Value.slice (some ⟨gg,0,none⟩) (n + m) cap from by rw [Ys] <;> (congr 1 <;> omega)) ?_
 refine Y1 (fun w h=>HS.blk_full (b:=gg) aPk h) fun ds=>?_
 refine QU (fun w h=>h.1) fun hds=>?_
 refine QZ (fun w h=>h.2) ?_
 refine Zf ?_
 try refine oWr ?_
 refine o_p (QX _ _ (i + m) (n + m) rfl rfl Qv ⟨_,_,rfl,(by omega)⟩ rfl (by omega) (by omega)) rfl ?_
 refine Qm (show _ = Value.slice (some ⟨gg,(i + m) * 1,none⟩) (n - i) (cap - (i + m)) from by rw [XY (by omega)] <;> (congr 1 <;> omega)) ?_
 refine o_q (Qef rfl Qp5 rfl rfl Qv (hp:=aPk) (hp':=aPk) (by decide) (by omega) (by omega)) rfl ?_
 refine aS2 ?_
 refine Qd rfl (fun h8=>?_) fun h8=>?_
 ·try simp only [Bool.not_false] at h8
  refine aS ?_
  refine Qj (L':=[(0,_),(1,_),(2,_),(6,_),(7,_),(8,_)]) aSx (fun _ h=>h) ?_
  refine QE [8] QH ?_
  refine dP 0 ?_
  refine dP 1 ?_
  refine dP 2 ?_
  refine dP 3 ?_
  try refine dWr ?_
  refine dV 4 rfl (QX _ _ (i + m) (n + m) rfl rfl Qv ⟨_,_,rfl,(by omega)⟩ rfl (by omega) (by omega)) ?_
  refine Ql (show _ = Value.slice (some ⟨gg,(i + m) * 1,none⟩) (n - i) (cap - (i + m)) from by rw [XY (by omega)] <;> (congr 1 <;> omega)) ?_
  refine dP 5 ?_
  refine dP 6 ?_
  refine dV 7 rfl (QX _ _ i (n + m) rfl rfl Qv ⟨_,_,rfl,rfl⟩ rfl (by omega) (by omega)) ?_
  refine Ql (show _ = Value.slice (some ⟨gg,i * 1,none⟩) (n + m - i) (cap - i) from by rw [XY (by omega)] <;> (congr 1 <;> omega)) ?_
  refine dH 8 rfl (Qbl (n - i) (cut (xs ++ ds) (i * 1) ((n - i) * 1)) rfl rfl rfl Qv aPt (by omega) (Xk _ _ _ (by simp only [Xe,List.length_append,Qx];omega)) (fun _=>rfl) (by rw [Xk _ _ _ (by simp only [Xe,List.length_append,Qx];omega)];simp only [Xe,List.length_append,Qx];omega) (Z2 (i * 1) ((n - i) * 1) (fun _=>rfl) aPk) (QiV hx1 (by omega))) (fun _ _=>?_)
  refine dTu [] ?_
  refine dNi ?_
  refine aS4 ?_
  refine o_p (QX _ _ i (n + m) rfl rfl Qv ⟨_,_,rfl,rfl⟩ rfl (by omega) (by omega)) rfl ?_
  refine Qm (show _ = Value.slice (some ⟨gg,i * 1,none⟩) (n + m - i) (cap - i) from by rw [XY (by omega)] <;> (congr 1 <;> omega)) ?_
  refine aS ?_
  refine o_h (Qbl m news rfl rfl rfl Qv aPt (by omega) hl (fun _=>rfl) (by simp only [Xe,List.length_append,Qx];omega) (Xv aPk) hn1) rfl (fun _ _=>?_)
  refine aS6 ?_
  exact rT rfl rfl (fun w' h'=>⟨(some ⟨gg,0,none⟩,cap),rfl,trivial,(HS.to_own (n:=n + m) (xs:=xs.take (i * 1) ++ news ++ xs.drop (i * 1)) (ds:=ds.drop (m * 1)) aPk h' (by have hq:=Qle (xs:=xs) (ds:=ds) (news:=news) (p:=i * 1) (q:=m * 1) (N:=n * 1) hxl (by omega) hl (by omega);rw [show (i + m) * 1 = i * 1 + m * 1 from by omega,show (n - i) * 1 = n * 1 - i * 1 from by omega];exact hq) (by simp only [List.length_append,List.length_take,List.length_drop];omega) (by omega) (by omega)).ent aEt⟩)
 try simp only [Bool.not_false] at h8
 exfalso;first | omega | (simp at h8;done) | (simp_all;done)
theorem c151 (w : World) (a : Option Addr) (i n m cap : Nat) (xs news : List Value) (b0 c0 tot2 : Nat) (hw : HS w (fps [.own (.slice a n cap) 3 1 n xs,.blk b0 3 tot2 news]) [.own (.slice a n cap) 3 1 n xs,.blk b0 3 tot2 news] w) (hm0 : 0 < m) (hl : news.length = m * 1) (hn1 : ∀ u ∈ news,u.oneCell' = true) (hx1 : ∀ u ∈ xs,u.oneCell' = true) (hmax : (n + m) * 8 ≤ 140737488355328) (hi : i ≤ n) : Calls Tryz.prog 151 #[.slice a n cap,.int .i64 i,.slice (some ⟨b0,0,none⟩) m c0] w fun en w'=>∃ g : Option Addr × Nat,en = .returned (.slice g.1 (n + m) g.2) ∧ True ∧ HS w (fps [.own (.slice a n cap) 3 1 n xs,.blk b0 3 tot2 news]) [.own (.slice g.1 (n + m) g.2) 3 1 (n + m) (xs.take (i * 1) ++ news ++ xs.drop (i * 1)),.blk b0 3 tot2 news] w':=by
  rcases Nat.lt_or_ge i n with h | h
  · obtain ⟨gg,rfl,_,hnc,hcm,hxl,hb⟩:=hw.own_blk (by omega) .here;exact Qsg w gg i n m cap xs news b0 c0 tot2 _ hb hnc hcm hxl hm0 hl hn1 hx1 hmax h
  · exact Qrp w a i n m cap xs news b0 c0 tot2 hw hm0 hl hn1 hx1 hmax (by omega)
theorem QlG : QT Tryz.prog 150 = true:=by kernel_rfl
theorem QlT : QT Tryz.prog 141 = true:=by kernel_rfl
theorem QlH : QT Tryz.prog 96 = true:=by kernel_rfl
theorem QlU : QT Tryz.prog 151 = true:=by kernel_rfl
theorem Qqv (w : World) (a : Option Addr) (i cap : Nat) (l : List TEnt) (x : TEnt) (b0 c0 tot2 : Nat) (hw : HS w (fps [.own (.slice a l.length cap) 26 2 l.length (l.flatMap TEnt.vals),.blk b0 26 tot2 (TEnt.vals x)]) [.own (.slice a l.length cap) 26 2 l.length (l.flatMap TEnt.vals),.blk b0 26 tot2 (TEnt.vals x)] w) (hmax : l.length ≤ 100000) (hi : i ≤ l.length) : Calls Tryz.prog 96 #[.slice a l.length cap,.int .i64 (i : Int),.slice (some ⟨b0,0,none⟩) 1 c0] w fun en w'=>∃ g : Option Addr × Nat,en = .returned (.slice g.1 (QI l i x).length g.2) ∧ True ∧ HS w (fps [.own (.slice a l.length cap) 26 2 l.length (l.flatMap TEnt.vals),.blk b0 26 tot2 (TEnt.vals x)]) [.own (.slice g.1 (QI l i x).length g.2) 26 2 (QI l i x).length ((QI l i x).flatMap TEnt.vals),.blk b0 26 tot2 (TEnt.vals x)] w':=by
  have h:=c96 w a i l.length 1 cap (l.flatMap TEnt.vals) (TEnt.vals x) b0 c0 tot2 hw (by decide) (ev2 x) (fun u hu=>ev1 x u hu) (Xf ev1 l) (by omega) hi;rw [QhC ev2] at h;rw [YN hi];exact h
theorem QoU (w : World) (a : Option Addr) (i cap : Nat) (l : List Int) (x : Int) (b0 c0 tot2 : Nat) (hw : HS w (fps [.own (.slice a l.length cap) 3 1 l.length (l.flatMap inV),.blk b0 3 tot2 (inV x)]) [.own (.slice a l.length cap) 3 1 l.length (l.flatMap inV),.blk b0 3 tot2 (inV x)] w) (hmax : l.length ≤ 100000) (hi : i ≤ l.length) : Calls Tryz.prog 151 #[.slice a l.length cap,.int .i64 (i : Int),.slice (some ⟨b0,0,none⟩) 1 c0] w fun en w'=>∃ g : Option Addr × Nat,en = .returned (.slice g.1 (QI l i x).length g.2) ∧ True ∧ HS w (fps [.own (.slice a l.length cap) 3 1 l.length (l.flatMap inV),.blk b0 3 tot2 (inV x)]) [.own (.slice g.1 (QI l i x).length g.2) 3 1 (QI l i x).length ((QI l i x).flatMap inV),.blk b0 3 tot2 (inV x)] w':=by
  have h:=c151 w a i l.length 1 cap (l.flatMap inV) (inV x) b0 c0 tot2 hw (by decide) (iv1 x) (fun u hu=>QbX x u hu) (Xf QbX l) (by omega) hi;rw [QhC iv1] at h;rw [YN hi];exact h
set_option maxHeartbeats 4000000 in
theorem c134 (w : World) (bt : Nat) (j : Nat) (mo rm : Int) (gn cap : Nat) (L : List LNd) (i : Nat) (hw : HS w (fps [.blk bt 112 6 (tbV (j : Int) mo rm (some ⟨gn,0,none⟩) (L).length cap),.blk gn 102 (cap * 3) ((L).flatMap LNd.vals),.star ((L).map (Qk 26))]) [.blk bt 112 6 (tbV (j : Int) mo rm (some ⟨gn,0,none⟩) (L).length cap),.blk gn 102 (cap * 3) ((L).flatMap LNd.vals),.star ((L).map (Qk 26))] w) (hnc : L.length ≤ cap) (hcm : cap ≤ maxLen) (hok : SpOk mo (pln L) i) : Calls Tryz.prog 134 #[.pointer (some ⟨bt,0,none⟩),.int .i64 (i : Int)] w fun en w'=>∃ g : (Nat × Nat) × List LNd,en = .returned (.tuple #[]) ∧ (pln g.2 = QaL mo (pln L) i ∧ g.2.length ≤ g.1.2 ∧ g.1.2 ≤ maxLen) ∧ HS w (fps [.blk bt 112 6 (tbV (j : Int) mo rm (some ⟨gn,0,none⟩) (L).length cap),.blk gn 102 (cap * 3) ((L).flatMap LNd.vals),.star ((L).map (Qk 26))]) [.blk bt 112 6 (tbV (j : Int) mo rm (some ⟨g.1.1,0,none⟩) (g.2).length g.1.2),.blk g.1.1 102 (g.1.2 * 3) ((g.2).flatMap LNd.vals),.star ((g.2).map (Qk 26))] w':=by
 have hlt0:=hok.lt
 have hln0:=hok.len
 rw [Qc] at hlt0 hln0
 have hmo:=hok.mo0
 have hes0:=hok.es
 have hcs0:=hok.cs
 have hne:=QdK hok.lt hok.us
 have hfn:=Qa0 hok.lt hok.us
 have hfl:=QdN (pln L)
 have hfl2:=QaZ (pln L)
 rw [Qc] at hfl2
 have hpar:=hok.par
 have hparE:=hok.parE
 have hparC:=hok.parC
 rw [QhK] at hpar
 have hsA:=hok.sm.splA mo i
 have hsF:=hok.sm.fre
 refine enter (args:=[_,_]) Tryz.func134 Tryz.ntmps134 rfl rfl hw ?_
 refine aS3 ?_
 refine o_h (Q7 (Cs:=[.blk bt 112 6 (tbV (j : Int) mo rm (some ⟨gn,0,none⟩) (L).length cap),.blk gn 102 (cap * 3) ((L).flatMap LNd.vals),.star ((L).map (Qk 26))]) rfl QlG rfl aPs (fun w1 h1 hf=>c150 w1 bt j mo rm gn cap L hf hnc hcm (by omega) (by omega))) rfl (fun ⟨⟨gn1,cap1⟩,L1⟩ hF1=>?_)
 dsimp only
 obtain ⟨hL1,hn1,hm1⟩:=hF1
 simp only [] at hL1 hn1 hm1
 have hl1 : L1.length = (Q0 (pln L)).2.length:=by rw [← hL1,Qc]
 have hi1 : i < L1.length:=by omega
 have ho1 : (Q0 (pln L)).1 < L1.length:=by omega
 have hN1 : (nth L1 i).pl = nth (pln L) i:=by rw [← Qh hi1,hL1,hfn]
 have hE1 : (nth L1 i).es = (nth (pln L) i).es:=congrArg Nd.es hN1
 have hC1 : (nth L1 i).cs = (nth (pln L) i).cs:=congrArg Nd.cs hN1
 have hN1e : (nth (Q0 (pln L)).2 i).es = (nth L1 i).es:=by rw [← hL1,Qh hi1];rfl
 have hN1c : (nth (Q0 (pln L)).2 i).cs = (nth L1 i).cs:=by rw [← hL1,Qh hi1];rfl
 have hsm1 : (QC mo) < (nth L1 i).es.length:=by rw [hE1];exact hes0
 have hsE1:=(hok.sm i).1
 rw [← hE1] at hsE1
 have hsC1:=(hok.sm i).2
 rw [← hC1] at hsC1
 rw [← hC1] at hcs0
 refine Zf ?_
 refine o_p (Qa rfl rfl rfl Qp (i) (by omega) (by omega) rfl) rfl ?_
 refine Qm (show _ = Value.pointer (some ⟨gn1,i * 3,none⟩) from by rw [Nat.zero_add]) ?_
 refine Zf ?_
 try refine oWr ?_
 refine o_p (YA rfl rfl rfl (by omega) (by omega) (by omega)) rfl ?_
 refine Qm (show _ = Value.int .i64 ((QC mo) : Int) from by unfold QC;congr 1;omega) ?_
 refine aS7 ?_
 refine o_q (Qg rfl rfl Xb (fun w h=>HS.nd_cell hi1 h aPk 1 rfl (by decide))) rfl ?_
 refine QU (fun w h=>HS.es_some hi1 (by omega) h aPk) fun hge=>?_
 obtain ⟨ge,hge⟩:=hge
 refine QU (fun w h=>HS.es_room hi1 h aPk) fun hrE=>?_
 refine aS ?_
 refine o_p (Qa rfl rfl rfl QB _ rfl (by omega) hge) rfl ?_
 refine o_q (QK _ rfl rfl XC rfl (fun w h=>HS.es_rd hi1 hsm1 hge h aPk)) rfl ?_
 refine oAl (fun b1 _=>?_) Xm
 refine oSt ?_
 refine aS2 ?_
 refine QE [16] QH ?_
 refine dP 0 ?_
 refine dP 1 ?_
 refine dFa 2 ?_
 refine dFa 3 ?_
 refine dLd 4 [[]] ?_
 refine dP 5 ?_
 refine dP 6 ?_
 refine dP 7 ?_
 refine dFa 8 ?_
 refine dQ 9 [[]] rfl (Qg rfl rfl Xb (fun w h=>HS.nd_cell hi1 h aPk 1 rfl (by decide))) ?_
 refine dP 10 ?_
 refine dP 11 ?_
 try refine dWr ?_
 refine dV 12 rfl (QX _ _ ((QC mo) + 1) ((nth L1 i).es.length) rfl rfl QB ⟨_,_,rfl,(by omega)⟩ rfl (by omega) (by omega)) ?_
 refine Ql (show _ = Value.slice (ZS (nth L1 i).ea (nth L1 i).ec ((QC mo) + 1) 2) ((nth L1 i).es.drop ((QC mo) + 1)).length ((nth L1 i).ec - ((QC mo) + 1)) from by rw [List.length_drop]) ?_
 refine dH 13 rfl (QP rfl QmK rfl (fun w1 h1=>c128 w1 (ZS (nth L1 i).ea (nth L1 i).ec ((QC mo) + 1) 2) ((nth L1 i).ec - ((QC mo) + 1)) ((nth L1 i).es.drop ((QC mo) + 1)) ((HS.es_row hi1 h1 aPk).cut (by omega)) (by rw [List.length_drop];omega))) (fun ⟨b2,c3⟩ _=>?_)
 refine dBa ?_
 refine dV 14 rfl (Qa rfl rfl rfl Qp _ rfl (by omega) rfl) ?_
 refine Ql (show _ = Value.pointer (some ⟨gn1,(Q0 (pln L)).1 * 3,none⟩) from by rw [Nat.zero_add]) ?_
 refine dFa 15 ?_
 refine dSt 16 ?_ (hl:=(by rw [Qf nv3];show _ + 1 ≤ _;omega))
 refine dTu [] ?_
 refine dNi ?_
 refine aS ?_
 refine Qj (L':=[(0,_),(1,_),(4,_),(5,_),(6,_),(7,_)]) aSx (fun _ h=>h) ?_
 refine aS2 ?_
 refine Y1 (fun w h=>HS.es_set (gn:=gn1) (cap:=cap1) (ea:=b2) (ec:=c3) (es:=(nth L1 i).es.drop ((QC mo) + 1)) ho1 h aPk aPk aPk) fun L2=>?_
 refine QU (fun w h=>h.1) fun hS2=>?_
 refine QZ (fun w h=>h.2) ?_
 have hi2 : i < L2.length:=by rw [hS2.len];exact hi1
 have hN2 : nth L2 i = nth L1 i:=hS2.other hi1 hne
 have hsm2 : (QC mo) < (nth L2 i).es.length:=by rw [hN2];exact hsm1
 refine aS3 ?_
 refine o_q (Qg rfl rfl Xb (fun w h=>HS.nd_cell hi2 h aPk 1 rfl (by decide))) rfl ?_
 refine QU (fun w h=>HS.es_room hi2 h aPk) fun hrE2=>?_
 refine QU (fun w h=>HS.es_form hi2 h aPk) fun hfE2=>?_
 refine aS2 ?_
 refine o_p (Qfw (QC mo) (QC mo) rfl rfl rfl rfl QB rfl rfl (by omega) (by omega)) rfl ?_
 refine Qm (show _ = Value.slice (nth L2 i).ea ((QC mo)) ((QC mo)) from by rw [QfS _ _ _ hfE2]) ?_
 refine aS2 ?_
 refine YE (Q9 rfl rfl rfl Xb rfl aPt (by rw [Qf nv3];show _ + 1 ≤ _;omega) rfl) (fun _ _=>?_)
 refine aS5 ?_
 refine Y1 (fun w h=>HS.es_setC (gn:=gn1) (cap:=cap1) (m:=(QC mo)) (c:=(QC mo)) hi2 (Nat.le_refl _) (by omega) (by omega) (fun h9 _=>h9) h aPk aPk) fun L3=>?_
 refine QU (fun w h=>h.1) fun hS3=>?_
 refine QZ (fun w h=>h.2) ?_
 have hi3 : i < L3.length:=by rw [hS3.len];exact hi2
 have ho3 : (Q0 (pln L)).1 < L3.length:=by rw [hS3.len,hS2.len];exact ho1
 have hC3 : (nth L3 i).cs = (nth L1 i).cs:=by rw [hS3.at_,hN2]
 refine aS2 ?_
 refine o_q (Qg rfl rfl Q8 (fun w h=>HS.nd_cell hi3 h aPk 2 rfl (by decide))) rfl ?_
 refine aS3 ?_
 refine Qj (L':=[(0,_),(1,_),(4,_),(5,_),(6,_),(7,_),(65,_)]) aSx (fun _ h=>h) ?_
 refine Xn (α:=List LNd) [66,67,68,69,70,71,72,73,74,75,76,77,78,79,80,81,82,83,84,85,86,87,88,89,90,91,92,93] (fun _=>[]) (fun x=>HS w (fps [.blk bt 112 6 (tbV (j : Int) mo rm (some ⟨gn,0,none⟩) (L).length cap),.blk gn 102 (cap * 3) ((L).flatMap LNd.vals),.star ((L).map (Qk 26))]) [.blk bt 112 6 (tbV (j : Int) mo rm (some ⟨gn1,0,none⟩) (x).length cap1),.blk gn1 102 (cap1 * 3) ((x).flatMap LNd.vals),.star ((x).map (Qk 26)),.blk b1 26 2 (TEnt.vals (nth (nth L1 i).es ((QC mo))))]) (fun x=>pln x = splA mo (pln L) i ∧ x.length = L1.length) ?_ ?_
 ·skip
  refine Qd rfl (fun h4=>?_) fun h4=>?_
  ·try simp only [dT] at h4
   have hcs3 : (QC mo) + 1 ≤ (nth L3 i).cs.length:=by have hq:=h4;rw [hC3] at hq ⊢;omega
   refine QV (fun w h=>HS.cs_room hi3 h aPk) fun hrC3=>?_
   have hsC3 : (nth L3 i).cs.length ≤ 900:=by rw [hC3];exact hsC1
   refine aS ?_
   refine QE [16] QH ?_
   refine dP 0 ?_
   refine dP 1 ?_
   refine dFa 2 ?_
   refine dFa 3 ?_
   refine dLd 4 [[]] ?_
   refine dP 5 ?_
   refine dP 6 ?_
   refine dP 7 ?_
   refine dFa 8 ?_
   refine dQ 9 [[]] rfl (Qg rfl rfl Q8 (fun w h=>HS.nd_cell hi3 h aPk 2 rfl (by decide))) ?_
   refine dP 10 ?_
   refine dP 11 ?_
   try refine dWr ?_
   refine dV 12 rfl (QX _ _ ((QC mo) + 1) ((nth L3 i).cs.length) rfl rfl Qv ⟨_,_,rfl,(by omega)⟩ rfl (by omega) (by omega)) ?_
   refine Ql (show _ = Value.slice (ZS (nth L3 i).ca (nth L3 i).cc ((QC mo) + 1) 1) ((nth L3 i).cs.drop ((QC mo) + 1)).length ((nth L3 i).cc - ((QC mo) + 1)) from by rw [List.length_drop]) ?_
   refine dH 13 rfl (QP rfl QmO rfl (fun w1 h1=>c129 w1 (ZS (nth L3 i).ca (nth L3 i).cc ((QC mo) + 1) 1) ((nth L3 i).cc - ((QC mo) + 1)) ((nth L3 i).cs.drop ((QC mo) + 1)) ((HS.cs_row hi3 h1 aPk).cut (by omega)) (by rw [List.length_drop];omega))) (fun ⟨b5,c6⟩ _=>?_)
   refine dBa ?_
   refine dV 14 rfl (Qa rfl rfl rfl Qp _ rfl (by omega) rfl) ?_
   refine Ql (show _ = Value.pointer (some ⟨gn1,(Q0 (pln L)).1 * 3,none⟩) from by rw [Nat.zero_add]) ?_
   refine dFa 15 ?_
   refine dSt 16 ?_ (hl:=(by rw [Qf nv3];show _ + 1 ≤ _;omega))
   refine dTu [] ?_
   refine dNi ?_
   refine aS2 ?_
   refine Y1 (fun w h=>HS.cs_set (gn:=gn1) (cap:=cap1) (ca:=b5) (cc:=c6) (cs:=(nth L3 i).cs.drop ((QC mo) + 1)) ho3 h aPk aPk aPk) fun L4=>?_
   refine QU (fun w h=>h.1) fun hS4=>?_
   refine QZ (fun w h=>h.2) ?_
   have hi4 : i < L4.length:=by rw [hS4.len];exact hi3
   have hN4 : nth L4 i = nth L3 i:=hS4.other hi3 hne
   have hcs4 : (QC mo) + 1 ≤ (nth L4 i).cs.length:=by rw [hN4];exact hcs3
   refine aS3 ?_
   refine o_q (Qg rfl rfl Q8 (fun w h=>HS.nd_cell hi4 h aPk 2 rfl (by decide))) rfl ?_
   refine QU (fun w h=>HS.cs_room hi4 h aPk) fun hrC4=>?_
   refine QU (fun w h=>HS.cs_form hi4 h aPk) fun hfC4=>?_
   refine aS2 ?_
   try refine oWr ?_
   refine aS2 ?_
   try refine oWr ?_
   refine o_p (Qfw ((QC mo) + 1) ((QC mo) + 1) rfl rfl rfl rfl Qv (by omega) (by omega) (by omega) (by omega)) rfl ?_
   refine Qm (show _ = Value.slice (nth L4 i).ca ((QC mo) + 1) ((QC mo) + 1) from by rw [QfS _ _ _ hfC4]) ?_
   refine aS2 ?_
   refine YE (Q9 rfl rfl rfl Q8 rfl aPt (by rw [Qf nv3];show _ + 1 ≤ _;omega) rfl) (fun _ _=>?_)
   refine aS ?_
   refine ZV (fun w h=>HS.cs_setC (gn:=gn1) (cap:=cap1) (m:=(QC mo) + 1) (c:=(QC mo) + 1) hi4 (Nat.le_refl _) (by omega) (by omega) (fun h9 _=>h9) h aPk aPk) fun L5=>?_
   refine QV (fun w h=>h.1) fun hS5=>?_
   refine Xd (fun w h=>h.2) ?_
   exact Qn L5 ⟨by rw [hS5.cs,hS4.cs,hS3.es,hS2.es,hN4,hC3,hN2,← hN1c,← hN1e,hL1,splA,if_neg (by rw [hN1c,← hC3];omega)],by rw [hS5.len,hS4.len,hS3.len,hS2.len]⟩ aSx (fun w h=>by rw [hS5.len,hS4.len,hS3.len,hS2.len];exact h.ent aEt)
  try simp only [dN] at h4
  have hz : (nth L1 i).cs.length = 0:=by rw [← hC3];omega
  refine aS ?_
  exact Qn L3 ⟨by rw [hS3.es,hS2.es,hN2,← hN1e,hL1,splA,if_pos (by rw [hN1c];exact hz)],by rw [hS3.len,hS2.len]⟩ aSx (fun w h=>by rw [hS3.len,hS2.len];exact h.ent aEt)
 intro LA hx
 obtain ⟨hA,hlA⟩:=hx
 have hpA : (Xi (i : Int) (splA mo (pln L) i) 0).1 < LA.length:=by omega
 have hNA : (nth LA (Xi (i : Int) (splA mo (pln L) i) 0).1).pl = nth (splA mo (pln L) i) (Xi (i : Int) (splA mo (pln L) i) 0).1:=by rw [← Qh hpA,hA]
 have hEA : (nth LA (Xi (i : Int) (splA mo (pln L) i) 0).1).es = (nth (splA mo (pln L) i) (Xi (i : Int) (splA mo (pln L) i) 0).1).es:=congrArg Nd.es hNA
 have hCA : (nth LA (Xi (i : Int) (splA mo (pln L) i) 0).1).cs = (nth (splA mo (pln L) i) (Xi (i : Int) (splA mo (pln L) i) 0).1).cs:=congrArg Nd.cs hNA
 rw [← hEA] at hparE
 rw [← hCA] at hparC
 have hsAE:=(hsA (Xi (i : Int) (splA mo (pln L) i) 0).1).1
 have hsAC:=(hsA (Xi (i : Int) (splA mo (pln L) i) 0).1).2
 rw [← hEA] at hsAE
 rw [← hCA] at hsAC
 refine aS4 ?_
 refine o_q (Qi rfl QlT rfl (fun w1 h1=>by have h9:=c141 w1 bt j mo rm (some ⟨gn1,0,none⟩) cap1 LA i (HS.tbr h1 aPk) (HS.nt_at h1 aPk aPk) (by omega) (fun k hk=>by have:=(hsA k).2;rw [← hA,Qh hk] at this;exact Nat.le_trans this (by decide));rw [hA] at h9;exact h9)) rfl ?_
 iterate 14 refine aS ?_
 refine o_p (Qa rfl rfl rfl Qp _ rfl (by omega) rfl) rfl ?_
 refine Qm (show _ = Value.pointer (some ⟨gn1,(Xi (i : Int) (splA mo (pln L) i) 0).1 * 3,none⟩) from by rw [Nat.zero_add]) ?_
 refine aS ?_
 refine QZ (fun w h=>HS.es_take hpA h aPk) ?_
 refine aS2 ?_
 refine QE [8,11] QH ?_
 refine dP 0 ?_
 refine dP 1 ?_
 refine dP 2 ?_
 refine dFa 3 ?_
 refine dQ 4 [[],[]] rfl (Qg rfl rfl Xb (fun w h=>HS.nd_cell hpA h aPk 1 rfl (by decide))) ?_
 refine dP 5 ?_
 refine dLn 6 [[7],[]] ?_
 refine dH 7 rfl (Qr (cs:=[_,_]) rfl rfl QB Xm rfl rfl rfl) (fun b7 _=>?_)
 refine dBa ?_
 refine dH 8 rfl (Q7 (Cs:=[.own (.slice ((nth LA (Xi (i : Int) (splA mo (pln L) i) 0).1)).ea ((nth LA (Xi (i : Int) (splA mo (pln L) i) 0).1)).es.length ((nth LA (Xi (i : Int) (splA mo (pln L) i) 0).1)).ec) 26 2 ((nth LA (Xi (i : Int) (splA mo (pln L) i) 0).1)).es.length (((nth LA (Xi (i : Int) (splA mo (pln L) i) 0).1)).es.flatMap TEnt.vals),.blk b7 26 2 (TEnt.vals (nth (nth L1 i).es ((QC mo))))]) rfl QlH rfl aPs (fun w1 h1 hf=>Qqv w1 (nth LA (Xi (i : Int) (splA mo (pln L) i) 0).1).ea (Xi (i : Int) (splA mo (pln L) i) 0).2 (nth LA (Xi (i : Int) (splA mo (pln L) i) 0).1).ec (nth LA (Xi (i : Int) (splA mo (pln L) i) 0).1).es (nth (nth L1 i).es ((QC mo))) b7 1 2 hf (by omega) (by omega))) (fun b8 _=>?_)
 refine dTu [11] ?_
 refine dP 9 ?_
 refine dFa 10 ?_
 refine dSt 11 ?_ (hl:=(by rw [Qf nv3];show _ + 1 ≤ _;omega))
 refine dTu [] ?_
 refine dNi ?_
 refine Qj (L':=[(4,_),(9,_),(10,_)]) aSx (fun _ h=>h) ?_
 refine aS2 ?_
 refine Y1 (fun w h=>HS.es_setB (gn:=gn1) (cap:=cap1) (ea:=b8.1) (ec:=b8.2) (es:=QI (nth LA (Xi (i : Int) (splA mo (pln L) i) 0).1).es (Xi (i : Int) (splA mo (pln L) i) 0).2 (nth (nth L1 i).es ((QC mo)))) hpA h aPk aPk aPk) fun LB=>?_
 refine QU (fun w h=>h.1) fun hSB=>?_
 refine QZ (fun w h=>h.2) ?_
 have hpB : (Xi (i : Int) (splA mo (pln L) i) 0).1 < LB.length:=by rw [hSB.len];exact hpA
 refine QZ (fun w h=>HS.cs_take hpB h aPk) ?_
 have hBC : (nth LB (Xi (i : Int) (splA mo (pln L) i) 0).1).cs = (nth LA (Xi (i : Int) (splA mo (pln L) i) 0).1).cs:=by rw [hSB.at_]
 have hBCl : (nth LB (Xi (i : Int) (splA mo (pln L) i) 0).1).cs.length = (nth LA (Xi (i : Int) (splA mo (pln L) i) 0).1).cs.length:=by rw [hBC]
 refine aS3 ?_
 refine o_q (Qg rfl rfl Q8 (fun w h=>HS.nd_cell hpB h aPk 2 rfl (by decide))) rfl ?_
 refine aS2 ?_
 try refine oWr ?_
 refine aS ?_
 refine o_h (Qr (cs:=[_]) rfl rfl Qv X8 rfl rfl rfl) rfl (fun b9 _=>?_)
 refine o_h (Q7 (Cs:=[.own (.slice ((nth LB (Xi (i : Int) (splA mo (pln L) i) 0).1)).ca ((nth LB (Xi (i : Int) (splA mo (pln L) i) 0).1)).cs.length ((nth LB (Xi (i : Int) (splA mo (pln L) i) 0).1)).cc) 3 1 ((nth LB (Xi (i : Int) (splA mo (pln L) i) 0).1)).cs.length (((nth LB (Xi (i : Int) (splA mo (pln L) i) 0).1)).cs.flatMap inV),.blk b9 3 1 (inV ((Q0 (pln L)).1 : Int))]) rfl QlU rfl aPs (fun w1 h1 hf=>QoU w1 (nth LB (Xi (i : Int) (splA mo (pln L) i) 0).1).ca ((Xi (i : Int) (splA mo (pln L) i) 0).2 + 1) (nth LB (Xi (i : Int) (splA mo (pln L) i) 0).1).cc (nth LB (Xi (i : Int) (splA mo (pln L) i) 0).1).cs ((Q0 (pln L)).1 : Int) b9 1 1 hf (by omega) (by omega))) rfl (fun b10 _=>?_)
 refine aS2 ?_
 refine YE (Q9 rfl rfl rfl Q8 rfl aPt (by rw [Qf nv3];show _ + 1 ≤ _;omega) rfl) (fun _ _=>?_)
 refine aS ?_
 exact YR rfl (fun w' h'=>by obtain ⟨LC,hSC,hC⟩:=HS.cs_setB (gn:=gn1) (cap:=cap1) (ca:=b10.1) (cc:=b10.2) (cs:=QI (nth LB (Xi (i : Int) (splA mo (pln L) i) 0).1).cs ((Xi (i : Int) (splA mo (pln L) i) 0).2 + 1) ((Q0 (pln L)).1 : Int)) hpB h' aPk aPk aPk;exact ⟨((gn1,cap1),LC),rfl,⟨by rw [hSC.cs,hBC,hSB.es,hA,hEA,hCA];unfold QaL addP;rw [hN1e],by simp only [];rw [hSC.len,hSB.len,hlA];exact hn1,hm1⟩,by simp only [];rw [hSC.len,hSB.len];exact hC.ent aEt⟩)
theorem c135 (w : World) (bt : Nat) (j : Nat) (mo rm : Int) (gn cap : Nat) (L : List LNd) (hw : HS w (fps [.blk bt 112 6 (tbV (j : Int) mo rm (some ⟨gn,0,none⟩) (L).length cap),.blk gn 102 (cap * 3) ((L).flatMap LNd.vals),.star ((L).map (Qk 26))]) [.blk bt 112 6 (tbV (j : Int) mo rm (some ⟨gn,0,none⟩) (L).length cap),.blk gn 102 (cap * 3) ((L).flatMap LNd.vals),.star ((L).map (Qk 26))] w) (hnc : L.length ≤ cap) (hcm : cap ≤ maxLen) (h0 : 0 < L.length) (hl : L.length ≤ 1000) (hu : (nth (pln L) 0).us = true) : Calls Tryz.prog 135 #[.pointer (some ⟨bt,0,none⟩)] w fun en w'=>∃ g : (Nat × Nat) × List LNd,en = .returned (.int .i64 ((Q0 (pln L)).1 : Int)) ∧ (pln g.2 = (XG (pln L)).2 ∧ g.2.length ≤ g.1.2 ∧ g.1.2 ≤ maxLen) ∧ HS w (fps [.blk bt 112 6 (tbV (j : Int) mo rm (some ⟨gn,0,none⟩) (L).length cap),.blk gn 102 (cap * 3) ((L).flatMap LNd.vals),.star ((L).map (Qk 26))]) [.blk bt 112 6 (tbV (j : Int) mo rm (some ⟨g.1.1,0,none⟩) (g.2).length g.1.2),.blk g.1.1 102 (g.1.2 * 3) ((g.2).flatMap LNd.vals),.star ((g.2).map (Qk 26))] w':=by
 have hfl2:=QaZ (pln L)
 rw [Qc] at hfl2
 obtain ⟨hne,hfl,hfn⟩:=Qou (by rw [Qc];exact h0) hu
 refine enter (args:=[_]) Tryz.func135 Tryz.ntmps135 rfl rfl hw ?_
 refine aS7 ?_
 refine o_h (Q7 (Cs:=[.blk bt 112 6 (tbV (j : Int) mo rm (some ⟨gn,0,none⟩) (L).length cap),.blk gn 102 (cap * 3) ((L).flatMap LNd.vals),.star ((L).map (Qk 26))]) rfl QlG rfl aPs (fun w1 h1 hf=>c150 w1 bt j mo rm gn cap L hf hnc hcm h0 hl)) rfl (fun ⟨⟨gn1,cap1⟩,L1⟩ hF1=>?_)
 dsimp only
 obtain ⟨hL1,hn1,hm1⟩:=hF1
 simp only [] at hL1 hn1 hm1
 have hl1 : L1.length = (Q0 (pln L)).2.length:=by rw [← hL1,Qc]
 have hi1 : 0 < L1.length:=by omega
 have ho1 : (Q0 (pln L)).1 < L1.length:=by omega
 have hN1 : (nth L1 0).pl = nth (pln L) 0:=by rw [← Qh hi1,hL1,hfn]
 refine aS9 ?_
 refine o_p (Qa rfl rfl rfl Qp (0) (by omega) (by omega) rfl) rfl ?_
 refine Qm (show _ = Value.pointer (some ⟨gn1,0 * 3,none⟩) from by rw [Nat.zero_add]) ?_
 refine aS3 ?_
 refine QE [22,25] QH ?_
 refine dP 0 ?_
 refine dP 1 ?_
 refine dFa 2 ?_
 refine dFa 3 ?_
 refine dLd 4 [[],[]] ?_
 refine dP 5 ?_
 refine dP 6 ?_
 refine dP 7 ?_
 refine dFa 8 ?_
 refine dFa 9 ?_
 refine dLd 10 [[],[]] ?_
 refine dP 11 ?_
 refine dP 12 ?_
 refine dP 13 ?_
 refine dFa 14 ?_
 refine dQ 15 [[],[]] rfl (Qg rfl rfl Xb (fun w h=>HS.nd_cell hi1 h aPk 1 rfl (by decide))) ?_
 refine dP 16 ?_
 refine dP 17 ?_
 refine dFa 18 ?_
 refine dQ 19 [[],[]] rfl (Qg rfl rfl Q8 (fun w h=>HS.nd_cell hi1 h aPk 2 rfl (by decide))) ?_
 refine dV 20 rfl (Qa rfl rfl rfl Qp _ rfl (by omega) rfl) ?_
 refine Ql (show _ = Value.pointer (some ⟨gn1,(Q0 (pln L)).1 * 3,none⟩) from by rw [Nat.zero_add]) ?_
 refine dFa 21 ?_
 refine dSt 22 ?_ (hl:=(by rw [Qf nv3];show _ + 1 ≤ _;omega))
 refine dTu [25] ?_
 refine dV 23 rfl (Qa rfl rfl rfl Qp _ rfl (by omega) rfl) ?_
 refine Ql (show _ = Value.pointer (some ⟨gn1,(Q0 (pln L)).1 * 3,none⟩) from by rw [Nat.zero_add]) ?_
 refine dFa 24 ?_
 refine QiD 25 rfl (Q9 rfl rfl rfl Q8 rfl aPt (by rw [Qx,Qf nv3];show _ + 1 ≤ _;omega) rfl) (by kernel_rfl) (fun w h=>h.ent aEt) (fun _ _=>?_)
 refine dTu [] ?_
 refine dNi ?_
 refine aS ?_
 refine Qj (L':=[(2,_),(3,_),(4,_)]) aSx (fun _ h=>h) ?_
 refine aS2 ?_
 refine Y1 (fun w h=>HS.node_move (i:=0) (gn:=gn1) (cap:=cap1) hi1 ho1 (fun e=>hne e.symm) h aPk aPk) fun L2=>?_
 refine QU (fun w h=>h.1) fun hS2=>?_
 refine QZ (fun w h=>h.2) ?_
 have hi2 : 0 < L2.length:=by rw [hS2.len];exact hi1
 have hN2 : nth L2 0 = nth L1 0:=hS2.other hi1 hne
 rw [← hN2]
 refine aS2 ?_
 refine o_h (Qr (cs:=[_]) rfl rfl Qv X8 rfl rfl rfl) rfl (fun b1 _=>?_)
 refine aS2 ?_
 refine YE (Q9 rfl rfl rfl Xb rfl aPt (by rw [Qf nv3];show _ + 1 ≤ _;omega) rfl) (fun _ _=>?_)
 refine aS2 ?_
 refine YE (Q9 rfl rfl rfl Q8 rfl aPt (by rw [Qx,Qf nv3];show _ + 1 ≤ _;omega) rfl) (fun _ _=>?_)
 refine aS6 ?_
 exact rT rfl rfl (fun w' h'=>by obtain ⟨LC,hSC,hC⟩:=HS.node_low (i:=0) (gn:=gn1) (cap:=cap1) (ca:=some ⟨b1,0,none⟩) (cc:=1) (cs:=[((Q0 (pln L)).1 : Int)]) hi2 (HS.own_shut (t:=3) (sz:=1) (n:=1) (cap:=1) (h'.pick (A:=.blk b1 3 (1 * 1) (inV ((Q0 (pln L)).1 : Int))) aPk) rfl (by decide) (by decide)) (.there aPk) .here aPk;exact ⟨((gn1,cap1),LC),rfl,⟨by have e2 : pln L2 = csN (esN (pln L1) (Q0 (pln L)).1 (nth (pln L) 0).es) (Q0 (pln L)).1 (nth (pln L) 0).cs:=(by rw [Qbx (by rw [Qc];exact ho1),hS2.pl,Qh ho1,← hN1];rfl);rw [hSC.pl,XG,← hL1,← e2,Qbx (by rw [Qc];exact hi2),Qh hi2];rfl,by simp only [];rw [hSC.len,hS2.len];exact hn1,hm1⟩,by simp only [];rw [hSC.len,hS2.len];exact hC.ent aEt⟩)
theorem c104 (w : World) (a : Option Addr) (n cap : Nat) : Calls Tryz.prog 104 #[.slice a n cap] w fun en w'=>∃ g : Nat,en = .returned (.func (.func 140) #[] #[.pointer (some ⟨g,0,none⟩)]) ∧ True ∧ HS w [] [.blk g 30 1 [.slice a n cap]] w':=by
 refine enter (args:=[_]) Tryz.func104 Tryz.ntmps104 rfl rfl (HS.refl w []) ?_
 refine aS2 ?_
 refine oBx fun b1 _=>?_
 refine aS7 ?_
 exact rT rfl rfl (fun w' h'=>⟨b1,rfl,trivial,h'.ent aEt⟩)
theorem c140 (w : World) {G : Type} (w0 : World) (M : List Nat) (Cs : Nat → G → List HA) (g0 : G) (l b1 : Nat) (P : List Nat) (a : Option Addr) (cap : Nat) (hl : P.length ≤ 100000) (hw : HS w0 M (Cs 0 g0) w) (hr : ∀ k g w,HS w0 M (Cs k g) w → Rd w [] b1 0 (.slice a P.length cap) ∧ Rw inV 1 w [] a (iN P)) (hy : ∀ k g w,k < P.length → HS w0 M (Cs k g) w → Zu Tryz.prog l #[.int .i64 ((P.length - 1 - k : Nat) : Int),.int .i64 (((nth P (P.length - 1 - k)) : Nat) : Int)] w fun e w'=>∃ g',e = .returned (.bool true) ∧ True ∧ HS w0 M (Cs (k + 1) g') w') : Calls Tryz.prog 140 #[.func (.yield l) #[] #[],.pointer (some ⟨b1,0,none⟩)] w fun en w'=>(∃ v,en = .returned v) ∧ ∃ x : G,HS w0 M (Cs P.length x) w':=by
 refine enter (args:=[_,_]) Tryz.func140 Tryz.ntmps140 rfl rfl hw ?_
 refine aS2 ?_
 refine o_q (Qg rfl rfl Q8 (fun w h=>(hr _ _ w h).1)) rfl ?_
 refine aS2 ?_
 try refine oWr ?_
 refine aS3 ?_
 refine QN (α:=Nat × G) [3,7,8,9,10,11,12,13,14,15,16,17,18] (fun x=>[(3,.int .i64 ((P.length : Int) - 1 - (x.1 : Int)))]) (fun x=>HS w0 M (Cs x.1 x.2)) (fun x=>x.1 ≤ P.length) (fun x=>P.length - x.1) (0,g0) (Nat.zero_le _) (by refine Qcl (congrArg (fun e=>some (Value.int .i64 e)) (show _ = _ from by simp only [];omega)) ?_;repeat (first | exact Qgl | refine Qcl rfl ?_)) (fun w h=>h) (fun ⟨k,gg⟩ hk1=>?_)
 dsimp only
 simp only [] at hk1
 refine aS4 ?_
 refine Qm (show _ = Value.int .i64 (((P.length : Int) - 1 - (k : Int))) from rfl) ?_
 refine aS2 ?_
 refine Qd rfl (fun h1=>?_) fun h1=>?_
 ·try simp only [dT] at h1
  have hk : k < P.length:=by omega
  refine QV (fun w h=>Rw.some (hr _ _ w h).2 (by rw [Qc6];omega)) fun has=>?_
  refine aS7 ?_
  refine Qm (show _ = Value.int .i64 ((P.length - 1 - k : Nat) : Int) from by congr 1;omega) ?_
  refine o_q (Qg rfl rfl Q8 (fun w h=>(hr _ _ w h).1)) rfl ?_
  refine aS ?_
  refine Qm (show _ = Value.int .i64 ((P.length - 1 - k : Nat) : Int) from by congr 1;omega) ?_
  refine o_p (Qa rfl rfl rfl Qv (P.length - 1 - k) (by omega) (by omega) has) rfl ?_
  refine o_q (Qg rfl rfl Xq (fun w h=>by have h9:=(hr _ _ w h).2.rdj 0 (i:=P.length - 1 - k) (by rw [Qc6];omega) rfl;rw [QhX (by omega)] at h9;exact h9)) rfl ?_
  refine o_h (Qjt rfl rfl rfl (fun w1 h1=>hy k gg w1 hk h1)) rfl (fun gy _=>?_)
  refine aS2 ?_
  refine Qd rfl (fun h2=>?_) fun h2=>?_
  ·try simp only [Bool.not_true] at h2
   exfalso;first | omega | (simp at h2;done) | (simp_all;done)
  try simp only [Bool.not_true] at h2
  refine aS5 ?_
  try refine oWr ?_
  refine aS2 ?_
  exact QD (k + 1,gy) (by (try simp only []);omega) (by (try simp only []);omega) (by refine Qcl (congrArg (fun e=>some (Value.int .i64 e)) (show _ = _ from by simp only [];omega)) ?_;repeat (first | exact Qgl | refine Qcl rfl ?_)) (fun w h=>h)
 try simp only [dN] at h1
 obtain rfl : k = P.length:=by omega
 refine Qu rfl ?_
 exact YR rfl (fun w' h'=>⟨⟨_,rfl⟩,gg,h'⟩)
theorem Qk4 : QT Tryz.prog 104 = true:=by kernel_rfl
theorem Qk2 : QT Tryz.prog 140 = true:=by kernel_rfl
theorem Qmb : QT Tryz.prog 134 = true:=by kernel_rfl
theorem Qqm : QT Tryz.prog 135 = true:=by kernel_rfl
set_option maxHeartbeats 4000000 in
theorem c97 (w : World) (bt : Nat) (j : Nat) (mo rm : Int) (gn cap : Nat) (L : List LNd) (P : List Nat) (pa : Option Addr) (pc : Nat) (hw : HS w (fps [.blk bt 112 6 (tbV (j : Int) mo rm (some ⟨gn,0,none⟩) (L).length cap),.blk gn 102 (cap * 3) ((L).flatMap LNd.vals),.star ((L).map (Qk 26))]) [.blk bt 112 6 (tbV (j : Int) mo rm (some ⟨gn,0,none⟩) (L).length cap),.blk gn 102 (cap * 3) ((L).flatMap LNd.vals),.star ((L).map (Qk 26))] w) (hnc : L.length ≤ cap) (hcm : cap ≤ maxLen) (hP : Rw inV 1 w (fps [.blk bt 112 6 (tbV (j : Int) mo rm (some ⟨gn,0,none⟩) (L).length cap),.blk gn 102 (cap * 3) ((L).flatMap LNd.vals),.star ((L).map (Qk 26))]) pa (iN P)) (hpl : P.length ≤ 100000) (hok : Qbt mo (pln L) P.reverse) (hroot : RootOk mo rm (XH mo (pln L) P.reverse)) : Calls Tryz.prog 97 #[.pointer (some ⟨bt,0,none⟩),.slice pa P.length pc] w fun en w'=>∃ g : (Nat × Nat) × List LNd,en = .returned (.tuple #[]) ∧ (pln g.2 = Qdb mo rm (pln L) P.reverse ∧ g.2.length ≤ g.1.2 ∧ g.1.2 ≤ maxLen) ∧ HS w (fps [.blk bt 112 6 (tbV (j : Int) mo rm (some ⟨gn,0,none⟩) (L).length cap),.blk gn 102 (cap * 3) ((L).flatMap LNd.vals),.star ((L).map (Qk 26))]) [.blk bt 112 6 (tbV (j : Int) mo rm (some ⟨g.1.1,0,none⟩) (g.2).length g.1.2),.blk g.1.1 102 (g.1.2 * 3) ((g.2).flatMap LNd.vals),.star ((g.2).map (Qk 26))] w':=by
 refine enter (args:=[_,_]) Tryz.func97 Tryz.ntmps97 rfl rfl hw ?_
 refine aS2 ?_
 refine oBx fun b1 _=>?_
 refine aS5 ?_
 refine o_h (QP rfl Qk4 rfl (fun w1 h1=>c104 w1 pa P.length pc)) rfl (fun b2 _=>?_)
 refine aS2 ?_
 refine Qjp (G:=(Nat × Nat) × List LNd) (Bs:=fun g=>[.blk bt 112 6 (tbV (j : Int) mo rm (some ⟨g.1.1,0,none⟩) (g.2).length g.1.2),.blk g.1.1 102 (g.1.2 * 3) ((g.2).flatMap LNd.vals),.star ((g.2).map (Qk 26)),.blk b1 103 1 [.pointer (some ⟨bt,0,none⟩)],.blk b2 30 1 [.slice pa P.length pc],.pure (pln (g.2) = XH mo (pln L) (P.reverse.take P.length) ∧ Qbt mo (pln (g.2)) (P.reverse.drop P.length) ∧ (g.2).length ≤ g.1.2 ∧ g.1.2 ≤ maxLen)]) rfl rfl rfl Qk2 (fun fid D l a9 w1 ob hob ha9 hw1=>?_) (fun D x=>?_)
 ·skip
  refine (c140 w1 w (fps [.blk bt 112 6 (tbV (j : Int) mo rm (some ⟨gn,0,none⟩) (L).length cap),.blk gn 102 (cap * 3) ((L).flatMap LNd.vals),.star ((L).map (Qk 26))]) (fun k g=>.obj l ob :: .obj D (.deferred (some [])) :: [.blk bt 112 6 (tbV (j : Int) mo rm (some ⟨g.1.1,0,none⟩) (g.2).length g.1.2),.blk g.1.1 102 (g.1.2 * 3) ((g.2).flatMap LNd.vals),.star ((g.2).map (Qk 26)),.blk b1 103 1 [.pointer (some ⟨bt,0,none⟩)],.blk b2 30 1 [.slice pa P.length pc],.pure (pln (g.2) = XH mo (pln L) (P.reverse.take k) ∧ Qbt mo (pln (g.2)) (P.reverse.drop k) ∧ (g.2).length ≤ g.1.2 ∧ g.1.2 ≤ maxLen)]) ((gn,cap),L) l b2 P pa pc hpl ?_ ?_ (fun k g w2 hk h2=>?_)).mono fun e w2 hx=>?_
  ·exact (HS.add_pure (p:=pln L = XH mo (pln L) (P.reverse.take 0) ∧ Qbt mo (pln L) (P.reverse.drop 0) ∧ L.length ≤ cap ∧ cap ≤ maxLen) ⟨rfl,hok,hnc,hcm⟩ hw1).ent aEt
  ·exact fun k g w2 h2=>⟨h2.rd_blk (i:=0) aPk rfl (by simp),hP.later h2⟩
  rotate_left
  ·exact hx
  subst hob
  obtain ⟨⟨ga,gc⟩,Lg⟩:=g
  dsimp only at h2
  obtain ⟨hg1,hg2,hg3,hg4⟩:=h2.get_pure aPk
  rw [Qhd hk] at hg2
  obtain ⟨⟨hi,hsp⟩,hnx⟩:=hg2
  have hst : XH mo (pln L) (P.reverse.take (k + 1)) = ZK mo (pln Lg) (nth P (P.length - 1 - k)):=by rw [QgH hk,Qkq,← hg1]
  rw [Qc] at hi
  rw [Qh hi] at hsp
  simp only [LNd.pl] at hsp
  refine QjG (fn:=Tryz.f97) (As1:=.obj D (.deferred (some [])) :: [.blk bt 112 6 (tbV (j : Int) mo rm (some ⟨ga,0,none⟩) (Lg).length gc),.blk ga 102 (gc * 3) ((Lg).flatMap LNd.vals),.star ((Lg).map (Qk 26)),.blk b1 103 1 [.pointer (some ⟨bt,0,none⟩)],.blk b2 30 1 [.slice pa P.length pc],.pure (pln (Lg) = XH mo (pln L) (P.reverse.take k) ∧ Qbt mo (pln (Lg)) (P.reverse.drop k) ∧ (Lg).length ≤ gc ∧ gc ≤ maxLen)]) (L1:=[(5,.int .i64 (((nth P (P.length - 1 - k)) : Nat) : Int)),(2,.pointer (some ⟨b1,0,none⟩))]) h2 rfl (FR.round2 ha9 9 10 _ _ rfl rfl) ?_ ?_
  ·skip
   refine aS3 ?_
   exact Qga () aSx (fun w h=>h.ent aEt)
  skip
  refine aS2 ?_
  refine Qc5 (α:=Bool) [11,12,13,14,15,16,17,18,19,20,21,22,23,24,25,26,27,28,29,30] (fun x=>[(30,.bool x)]) (fun x=>x = true ↔ (0 < (nth P (P.length - 1 - k)) ∧ mo < ((nth Lg (nth P (P.length - 1 - k))).es.length : Int))) ?_ ?_
  ·skip
   refine QE [] QH ?_
   refine dP 0 ?_
   refine dP 1 ?_
   refine dP 2 ?_
   apply Xy 13
   ·exact rfl
   ·intro hg3
    have hs4:=hg3;try simp only [dT] at hs4
    refine dQo 3 13 [] hg3 rfl rfl rfl (XW rfl rfl Yd aPk rfl) ?_
    refine dPo 4 13 hg3 ?_
    refine dFo 5 13 hg3 ?_
    refine dFo 6 13 hg3 ?_
    refine dQo 7 13 [] hg3 rfl rfl rfl (XW rfl rfl YD aPk rfl) ?_
    refine dPo 8 13 hg3 ?_
    refine dVo 9 13 hg3 rfl rfl rfl (Qa rfl rfl rfl Qp ((nth P (P.length - 1 - k))) (by omega) (by omega) rfl) ?_
    refine Ql (show _ = Value.pointer (some ⟨ga,(nth P (P.length - 1 - k)) * 3,none⟩) from by rw [Nat.zero_add]) ?_
    refine dFo 10 13 hg3 ?_
    refine dQo 11 13 [] hg3 rfl rfl rfl (Qg rfl rfl Xb (fun w h=>HS.nd_cell hi h aPk 1 rfl (by decide))) ?_
    refine dVo 12 13 hg3 rfl rfl rfl (QQ rfl rfl Tryz.underlying77) ?_
    refine dQo 13 13 [] hg3 rfl rfl rfl (XW rfl rfl Yd aPk rfl) ?_
    refine dPo 14 13 hg3 ?_
    refine dFo 15 13 hg3 ?_
    refine dFo 16 13 hg3 ?_
    refine dQo 17 13 [] hg3 rfl rfl rfl (XW rfl rfl Xq aPk rfl) ?_
    refine dPo 18 13 hg3 ?_
    refine dV 19 rfl (Qw rfl rfl hg3 rfl) ?_
    refine dNi ?_
    exact Qn (decide (((nth Lg (nth P (P.length - 1 - k))).es.length : Int) > mo)) (by rw [decide_eq_true_eq];omega) aSx (fun w h=>h.ent aEt)
   intro hg5
   have hs6:=hg5;try simp only [dN] at hs6
   refine dOf 3 13 hg5 ?_
   refine dOf 4 13 hg5 ?_
   refine dOf 5 13 hg5 ?_
   refine dOf 6 13 hg5 ?_
   refine dOf 7 13 hg5 ?_
   refine dOf 8 13 hg5 ?_
   refine dOf 9 13 hg5 ?_
   refine dOf 10 13 hg5 ?_
   refine dOf 11 13 hg5 ?_
   refine dOf 12 13 hg5 ?_
   refine dOf 13 13 hg5 ?_
   refine dOf 14 13 hg5 ?_
   refine dOf 15 13 hg5 ?_
   refine dOf 16 13 hg5 ?_
   refine dOf 17 13 hg5 ?_
   refine dOf 18 13 hg5 ?_
   refine dV 19 rfl (Qs rfl rfl hg5 rfl) ?_
   refine dNi ?_
   exact Qn false (by constructor <;> intro h9 <;> first | (cases h9;done) | omega) aSx (fun w h=>h.ent aEt)
  intro x hx
  refine Qd rfl (fun h7=>?_) fun h7=>?_
  ·skip
   obtain ⟨hpos,hbig⟩:=hx.1 (by assumption)
   refine aS3 ?_
   refine o_h (Q7 (Cs:=[.blk bt 112 6 (tbV (j : Int) mo rm (some ⟨ga,0,none⟩) (Lg).length gc),.blk ga 102 (gc * 3) ((Lg).flatMap LNd.vals),.star ((Lg).map (Qk 26))]) rfl Qmb rfl aPs (fun w1 h1 hf=>c134 w1 bt j mo rm ga gc Lg (nth P (P.length - 1 - k)) hf hg3 hg4 (hsp hpos hbig))) rfl (fun ⟨⟨g5,c5⟩,L5⟩ hF5=>?_)
   refine aS2 ?_
   exact ZR rfl aPk (fun w h=>⟨((g5,c5),L5),rfl,trivial,by exact (HS.add_pure (p:=pln L5 = XH mo (pln L) (P.reverse.take (k + 1)) ∧ Qbt mo (pln L5) (P.reverse.drop (k + 1)) ∧ L5.length ≤ c5 ∧ c5 ≤ maxLen) ⟨by rw [hst,ZK,if_pos ⟨hpos,by rw [Qh hi];exact hbig⟩];exact hF5.1,by have h9:=hnx;rw [ZK,if_pos ⟨hpos,by rw [Qh hi];exact hbig⟩] at h9;rw [hF5.1];exact h9,hF5.2.1,hF5.2.2⟩ h).ent aEt⟩)
  skip
  have hno : ¬ (0 < (nth P (P.length - 1 - k)) ∧ mo < ((nth Lg (nth P (P.length - 1 - k))).es.length : Int)):=fun h9=>by have h8:=hx.2 h9;simp_all
  refine aS2 ?_
  exact ZR rfl aPk (fun w h=>⟨((ga,gc),Lg),rfl,trivial,by exact (HS.add_pure (p:=pln Lg = XH mo (pln L) (P.reverse.take (k + 1)) ∧ Qbt mo (pln Lg) (P.reverse.drop (k + 1)) ∧ Lg.length ≤ gc ∧ gc ≤ maxLen) ⟨by rw [hst,ZK,if_neg (by rw [Qh hi];exact hno)],by have h9:=hnx;rw [ZK,if_neg (by rw [Qh hi];exact hno)] at h9;exact h9,hg3,hg4⟩ h).ent aEt⟩)
 skip
 obtain ⟨⟨ga,gc⟩,LG⟩:=x
 dsimp only
 refine QV (fun w h=>h.get_pure aPk) fun hpu=>?_
 obtain ⟨hLG,_,hg3,hg4⟩:=hpu
 rw [show P.length = P.reverse.length from (List.length_reverse ..).symm,List.take_length] at hLG
 have hiG : 0 < LG.length:=by rw [← Qc,hLG];exact hroot.lt
 have hlG:=hroot.len
 rw [← hLG,Qc] at hlG
 refine aS2 ?_
 refine QE [] QH ?_
 refine dLd 0 [] ?_
 refine dP 1 ?_
 refine dFa 2 ?_
 refine dFa 3 ?_
 refine dLd 4 [] ?_
 refine dV 5 rfl (Qa rfl rfl rfl Qp (0) (by omega) (by omega) rfl) ?_
 refine Ql (show _ = Value.pointer (some ⟨ga,0 * 3,none⟩) from by rw [Nat.zero_add]) ?_
 refine dFa 6 ?_
 refine dQ 7 [] rfl (Qg rfl rfl Xb (fun w h=>HS.nd_cell hiG h aPk 1 rfl (by decide))) ?_
 refine dV 8 rfl (QQ rfl rfl Tryz.underlying77) ?_
 refine dLd 9 [] ?_
 refine dP 10 ?_
 refine dFa 11 ?_
 refine dFa 12 ?_
 refine dLd 13 [] ?_
 refine dP 14 ?_
 refine dNi ?_
 refine Qd rfl (fun h8=>?_) fun h8=>?_
 ·try simp only [dT] at h8
  have hbigR : rm < ((nth (pln LG) 0).es.length : Int):=by rw [Qh hiG];exact h8
  refine aS3 ?_
  refine o_h (Q7 (Cs:=[.blk bt 112 6 (tbV (j : Int) mo rm (some ⟨ga,0,none⟩) (LG).length gc),.blk ga 102 (gc * 3) ((LG).flatMap LNd.vals),.star ((LG).map (Qk 26))]) rfl Qqm rfl aPs (fun w1 h1 hf=>c135 w1 bt j mo rm ga gc LG hf hg3 hg4 hiG (by omega) (by rw [hLG];exact hroot.us))) rfl (fun ⟨⟨g6,c6⟩,L6⟩ hF6=>?_)
  dsimp only
  obtain ⟨hL6,hn6,hm6⟩:=hF6
  simp only [] at hL6 hn6 hm6
  have ho6 : (Q0 (pln LG)).1 < L6.length:=by rw [← Qc,hL6,hLG];exact Qoj _
  refine aS3 ?_
  refine QE [] QH ?_
  refine dLd 0 [] ?_
  refine dP 1 ?_
  refine dFa 2 ?_
  refine dFa 3 ?_
  refine dLd 4 [] ?_
  refine dP 5 ?_
  refine dV 6 rfl (Qa rfl rfl rfl Qp ((Q0 (pln LG)).1) (by omega) (by omega) rfl) ?_
  refine Ql (show _ = Value.pointer (some ⟨g6,(Q0 (pln LG)).1 * 3,none⟩) from by rw [Nat.zero_add]) ?_
  refine dFa 7 ?_
  refine dQ 8 [] rfl (Qg rfl rfl Xb (fun w h=>HS.nd_cell ho6 h aPk 1 rfl (by decide))) ?_
  refine dV 9 rfl (QQ rfl rfl Tryz.underlying77) ?_
  refine dLd 10 [] ?_
  refine dP 11 ?_
  refine dFa 12 ?_
  refine dFa 13 ?_
  refine dLd 14 [] ?_
  refine dP 15 ?_
  refine dNi ?_
  refine Qd rfl (fun h9=>?_) fun h9=>?_
  ·try simp only [dT] at h9
   have hbig2 : mo < ((nth (pln L6) (Q0 (pln LG)).1).es.length : Int):=by rw [Qh ho6];exact h9
   refine Qj (L':=[(2,_),(6,_)]) aSx (fun _ h=>h) ?_
   refine aS3 ?_
   refine o_h (Q7 (Cs:=[.blk bt 112 6 (tbV (j : Int) mo rm (some ⟨g6,0,none⟩) (L6).length c6),.blk g6 102 (c6 * 3) ((L6).flatMap LNd.vals),.star ((L6).map (Qk 26))]) rfl Qmb rfl aPs (fun w1 h1 hf=>c134 w1 bt j mo rm g6 c6 L6 (Q0 (pln LG)).1 hf hn6 hm6 (by rw [hL6,hLG];exact hroot.spl (by rw [← hLG];exact hbigR) (by rw [← hLG,← hL6];exact hbig2)))) rfl (fun ⟨⟨g7,c7⟩,L7⟩ hF7=>?_)
   refine aS ?_
   exact QfA rfl aPk (fun w' h'=>by first | exact ⟨((g7,c7),L7),rfl,⟨by rw [Qdb,← hLG,Qab,if_pos hbigR,if_pos (by rw [← hL6];exact hbig2),← hL6];exact hF7.1,hF7.2.1,hF7.2.2⟩,h'.ent aEt⟩ | exact ⟨((g6,c6),L6),rfl,⟨by rw [Qdb,← hLG,Qab,if_pos hbigR,if_neg (by rw [← hL6];exact hbig2n),← hL6],hn6,hm6⟩,h'.ent aEt⟩ | exact ⟨((ga,gc),LG),rfl,⟨by rw [Qdb,← hLG,Qab,if_neg hsmR],hg3,hg4⟩,h'.ent aEt⟩)
  try simp only [dN] at h9
  have hbig2n : ¬ mo < ((nth (pln L6) (Q0 (pln LG)).1).es.length : Int):=by rw [Qh ho6];have hq:=h9;simp only [LNd.pl];omega
  refine aS ?_
  exact QfA rfl aPk (fun w' h'=>by first | exact ⟨((g7,c7),L7),rfl,⟨by rw [Qdb,← hLG,Qab,if_pos hbigR,if_pos (by rw [← hL6];exact hbig2),← hL6];exact hF7.1,hF7.2.1,hF7.2.2⟩,h'.ent aEt⟩ | exact ⟨((g6,c6),L6),rfl,⟨by rw [Qdb,← hLG,Qab,if_pos hbigR,if_neg (by rw [← hL6];exact hbig2n),← hL6],hn6,hm6⟩,h'.ent aEt⟩ | exact ⟨((ga,gc),LG),rfl,⟨by rw [Qdb,← hLG,Qab,if_neg hsmR],hg3,hg4⟩,h'.ent aEt⟩)
 try simp only [dN] at h8
 have hsmR : ¬ rm < ((nth (pln LG) 0).es.length : Int):=by rw [Qh hiG];have hq:=h8;simp only [LNd.pl];omega
 refine aS ?_
 exact QfA rfl aPk (fun w' h'=>by first | exact ⟨((g7,c7),L7),rfl,⟨by rw [Qdb,← hLG,Qab,if_pos hbigR,if_pos (by rw [← hL6];exact hbig2),← hL6];exact hF7.1,hF7.2.1,hF7.2.2⟩,h'.ent aEt⟩ | exact ⟨((g6,c6),L6),rfl,⟨by rw [Qdb,← hLG,Qab,if_pos hbigR,if_neg (by rw [← hL6];exact hbig2n),← hL6],hn6,hm6⟩,h'.ent aEt⟩ | exact ⟨((ga,gc),LG),rfl,⟨by rw [Qdb,← hLG,Qab,if_neg hsmR],hg3,hg4⟩,h'.ent aEt⟩)
theorem QjW : QT Tryz.prog 68 = true:=by kernel_rfl
theorem QrM : QT Tryz.prog 97 = true:=by kernel_rfl
set_option maxHeartbeats 4000000 in
theorem c58 (w : World) (bt : Nat) (j : Nat) (mo rm : Int) (gn cap : Nat) (L : List LNd) (x : TEnt) (hw : HS w (fps [.blk bt 112 6 (tbV (j : Int) mo rm (some ⟨gn,0,none⟩) (L).length cap),.blk gn 102 (cap * 3) ((L).flatMap LNd.vals),.star ((L).map (Qk 26))]) [.blk bt 112 6 (tbV (j : Int) mo rm (some ⟨gn,0,none⟩) (L).length cap),.blk gn 102 (cap * 3) ((L).flatMap LNd.vals),.star ((L).map (Qk 26))] w) (hnc : L.length ≤ cap) (hcm : cap ≤ maxLen) (hj : j ≤ 3) (h0 : 0 < L.length) (hB : Bd (pln L)) (hT : TOk (j : Int) (pln L)) (hk : QW (j : Int) x.key = true) (hok : ¬ (Qb (j : Int) (pln L) x.key).2.2 = true → InsOk (j : Int) mo rm (pln L) x) : Calls Tryz.prog 58 #[.pointer (some ⟨bt,0,none⟩),.agg #[.string (bs x.key),.string (bs x.val)]] w fun en w'=>∃ g : (Nat × Nat) × List LNd,en = .returned (.int .i64 (Qdx (j : Int) mo rm (pln L) x)) ∧ (pln g.2 = Zc (j : Int) mo rm (pln L) x ∧ g.2.length ≤ g.1.2 ∧ g.1.2 ≤ maxLen) ∧ HS w (fps [.blk bt 112 6 (tbV (j : Int) mo rm (some ⟨gn,0,none⟩) (L).length cap),.blk gn 102 (cap * 3) ((L).flatMap LNd.vals),.star ((L).map (Qk 26))]) [.blk bt 112 6 (tbV (j : Int) mo rm (some ⟨g.1.1,0,none⟩) (g.2).length g.1.2),.blk g.1.1 102 (g.1.2 * 3) ((g.2).flatMap LNd.vals),.star ((g.2).map (Qk 26))] w':=by
 have hK : ∀ i,i < L.length → ∀ y ∈ (nth L i).es,QW (j : Int) y.key = true ∧ y.key.length ≤ 1000000:=fun i hi y hy=>Ya hT i (by rw [Qc];exact hi) y (by rw [Qh hi];exact hy)
 have hkl : x.key.length ≤ 1000000:=by have:=Zz hk;omega
 refine enter (args:=[_,_]) Tryz.func58 Tryz.ntmps58 rfl rfl hw ?_
 refine aS2 ?_
 refine oBx fun b1 _=>?_
 refine aS7 ?_
 refine o_h (QP rfl QjW rfl (fun w1 h1=>c68 w1 bt j mo rm (some ⟨gn,0,none⟩) cap L x.key hj h0 hB hT hK hk hkl (HS.nt_at h1 aPk aPk) (HS.tbr h1 aPk))) rfl (fun ⟨pa,pc⟩ _=>?_)
 dsimp only
 iterate 13 refine aS ?_
 refine Qd rfl (fun h2=>?_) fun h2=>?_
 ·skip
  have hfd : (Qb (j : Int) (pln L) x.key).2.2 = true:=h2
  refine aS4 ?_
  exact rT rfl rfl (fun w' h'=>⟨((gn,cap),L),by simp only [Xw];rw [Qdx,if_pos hfd],⟨by simp only [];rw [Zc,if_pos hfd],hnc,hcm⟩,h'.ent aEt⟩)
 skip
 have hfd : ¬ (Qb (j : Int) (pln L) x.key).2.2 = true:=by have hq:=h2;simp [hq]
 have hk9:=hok hfd
 have hne:=hk9.ne
 have hlen9:=hk9.len
 have hlf:=hk9.lf
 rw [Qc] at hlf
 have hpl:=hk9.pl
 rw [Qh hlf] at hpl
 have hes9:=hk9.es
 rw [Qh hlf] at hes9
 simp only [LNd.pl] at hpl hes9
 have hpn : (Qb (j : Int) (pln L) x.key).1.length - 1 < (Qb (j : Int) (pln L) x.key).1.length:=by omega
 refine QV (fun w h=>HS.kids_some (by rw [Qc6];omega) h aPk) fun hpa=>?_
 obtain ⟨gp,hpa⟩:=hpa
 refine aS2 ?_
 refine QE [] QH ?_
 refine dP 0 ?_
 refine dP 1 ?_
 refine dFa 2 ?_
 refine dFa 3 ?_
 refine dLd 4 [] ?_
 refine dP 5 ?_
 refine dP 6 ?_
 refine dV 7 rfl (QQ rfl rfl Tryz.underlying30) ?_
 refine dP 8 ?_
 try refine dWr ?_
 refine dV 9 rfl (Qa rfl rfl rfl Qv ((Qb (j : Int) (pln L) x.key).1.length - 1) (by omega) (by omega) hpa) ?_
 refine dQ 10 [] rfl (Qg rfl rfl Xq (fun w h=>HS.path_rd hpn hpa h aPk)) ?_
 refine Ql (show _ = Value.int .i64 (((YL (j : Int) (pln L) x.key) : Nat) : Int) from rfl) ?_
 refine dV 11 rfl (Qa rfl rfl rfl Qp ((YL (j : Int) (pln L) x.key)) (by omega) (by omega) rfl) ?_
 refine Ql (show _ = Value.pointer (some ⟨gn,(YL (j : Int) (pln L) x.key) * 3,none⟩) from by rw [Nat.zero_add]) ?_
 refine dP 12 ?_
 refine dNi ?_
 refine aS ?_
 refine Xd (fun w h=>HS.es_take hlf h aPk) ?_
 refine QE [8,11] QH ?_
 refine dP 0 ?_
 refine dP 1 ?_
 refine dP 2 ?_
 refine dFa 3 ?_
 refine dQ 4 [[],[]] rfl (Qg rfl rfl Xb (fun w h=>HS.nd_cell hlf h aPk 1 rfl (by decide))) ?_
 refine dP 5 ?_
 refine dLn 6 [[7],[]] ?_
 refine dH 7 rfl (Qr (cs:=[_,_]) rfl rfl QB Xm rfl rfl rfl) (fun b3 _=>?_)
 refine dBa ?_
 refine dH 8 rfl (Q7 (Cs:=[.own (.slice ((nth L (YL (j : Int) (pln L) x.key))).ea ((nth L (YL (j : Int) (pln L) x.key))).es.length ((nth L (YL (j : Int) (pln L) x.key))).ec) 26 2 ((nth L (YL (j : Int) (pln L) x.key))).es.length (((nth L (YL (j : Int) (pln L) x.key))).es.flatMap TEnt.vals),.blk b3 26 2 (TEnt.vals x)]) rfl QlH rfl aPs (fun w1 h1 hf=>Qqv w1 (nth L (YL (j : Int) (pln L) x.key)).ea (Qb (j : Int) (pln L) x.key).2.1 (nth L (YL (j : Int) (pln L) x.key)).ec (nth L (YL (j : Int) (pln L) x.key)).es x b3 1 2 hf (by omega) hpl)) (fun b4 _=>?_)
 refine dTu [11] ?_
 refine dP 9 ?_
 refine dFa 10 ?_
 refine dSt 11 ?_ (hl:=(by rw [Qf nv3];show _ + 1 ≤ _;omega))
 refine dTu [] ?_
 refine dNi ?_
 refine aS ?_
 refine Qj (L':=[(0,_),(4,_),(5,_)]) aSx (fun _ h=>h) ?_
 refine aS2 ?_
 refine Y1 (fun w h=>HS.es_setB (gn:=gn) (cap:=cap) (ea:=b4.1) (ec:=b4.2) (es:=QI (nth L (YL (j : Int) (pln L) x.key)).es (Qb (j : Int) (pln L) x.key).2.1 x) hlf h aPk aPk aPk) fun L2=>?_
 refine QU (fun w h=>h.1) fun hS2=>?_
 refine QZ (fun w h=>h.2) ?_
 have hL2 : pln L2 = Qb8 (j : Int) (pln L) x:=by rw [hS2.es,Qb8,Qh hlf];rfl
 refine QZ (C':=HS w (fps [.blk bt 112 6 (tbV (j : Int) mo rm (some ⟨gn,0,none⟩) (L).length cap),.blk gn 102 (cap * 3) ((L).flatMap LNd.vals),.star ((L).map (Qk 26))]) [.blk bt 112 6 (tbV (j : Int) mo rm (some ⟨gn,0,none⟩) (L2).length cap),.blk gn 102 (cap * 3) ((L2).flatMap LNd.vals),.star ((L2).map (Qk 26)),.kids pa pc (iN (Qb (j : Int) (pln L) x.key).1)]) (fun w2 h=>by rw [hS2.len];exact h.ent aEt) ?_
 refine aS ?_
 refine o_h (Q7 (Cs:=[.blk bt 112 6 (tbV (j : Int) mo rm (some ⟨gn,0,none⟩) (L2).length cap),.blk gn 102 (cap * 3) ((L2).flatMap LNd.vals),.star ((L2).map (Qk 26))]) rfl QrM rfl aPs (fun w1 h1 hf=>c97 w1 bt j mo rm gn cap L2 (Qb (j : Int) (pln L) x.key).1 pa pc hf (by rw [hS2.len];exact hnc) hcm (HS.rw_ownF (n:=(iN (Qb (j : Int) (pln L) x.key).1).length) iv1 h1 aPs aPk rfl) (by omega) (by rw [hL2];exact hk9.grw) (by rw [hL2];exact hk9.root))) rfl (fun ⟨⟨g5,c5⟩,L5⟩ hF5=>?_)
 dsimp only
 obtain ⟨hL5,hn5,hm5⟩:=hF5
 simp only [] at hL5 hn5 hm5
 have hI : Zc (j : Int) mo rm (pln L) x = pln L5:=by rw [Zc,if_neg hfd,hL5,hL2]
 have hIl : (Zc (j : Int) mo rm (pln L) x).length = L5.length:=by rw [hI,Qc]
 refine Zf ?_
 refine o_q (Qi rfl Zt rfl (fun w1 h1=>c81 w1 _ _)) rfl ?_
 refine aS2 ?_
 exact rT rfl rfl (fun w' h'=>⟨((g5,c5),L5),by simp only [Xw];congr 2;rw [Qdx,if_neg hfd,hIl];exact (Nat.lt_or_ge 120 L5.length).elim (fun h120=>by rw [if_neg (by omega),decide_eq_false (by omega)];rfl) (fun h120=>by rw [if_pos h120,decide_eq_true (by omega)];rfl),⟨hI.symm,hn5,hm5⟩,h'.ent aEt⟩)
theorem Qry (w : World) (gg i j n cap : Nat) (xs : List Value) (M : List Nat) (hw : HS w M [.blk gg 26 (cap * 2) xs] w) (hnc : n ≤ cap) (hcm : cap ≤ maxLen) (hxl : xs.length = n * 2) (hx1 : ∀ u ∈ xs,u.oneCell' = true) (hmx : n ≤ 9223372036854775807) (hij : i < j) (hjn : j ≤ n) : Calls Tryz.prog 103 #[.slice (some ⟨gg,0,none⟩) n cap,.int .i64 i,.int .i64 j] w fun en w'=>en = .returned (.slice (some ⟨gg,0,none⟩) (n - (j - i)) cap) ∧ HS w M [.own (.slice (some ⟨gg,0,none⟩) (n - (j - i)) cap) 26 2 (n - (j - i)) (xs.take (i * 2) ++ xs.drop (j * 2))] w':=by
 refine enter (args:=[_,_,_]) Tryz.func103 Tryz.ntmps103 rfl rfl hw ?_
 refine QaU ?_
 refine o_p (Qhl i j n rfl rfl rfl rfl rfl QB rfl rfl rfl (by omega) (by omega) (by omega)) rfl ?_
 refine aS8 ?_
 refine Qd rfl (fun h1=>?_) fun h1=>?_
 ·try simp only [dT] at h1
  exfalso;first | omega | (simp at h1;done) | (simp_all;done)
 try simp only [dN] at h1
 refine aS8 ?_
 refine QE [6] QH ?_
 refine dP 0 ?_
 refine dP 1 ?_
 refine dV 2 rfl (QX _ _ 0 i rfl rfl QB rfl ⟨_,_,rfl,rfl⟩ (by omega) (by omega)) ?_
 refine Ql (show _ = Value.slice (some ⟨gg,0,none⟩) i cap from by rw [Ys] <;> (congr 1 <;> omega)) ?_
 refine dP 3 ?_
 refine dP 4 ?_
 refine dV 5 rfl (QX _ _ j n rfl rfl QB ⟨_,_,rfl,rfl⟩ rfl (by omega) (by omega)) ?_
 refine dH 6 rfl (Qdj (cut xs (j * 2) ((n - j) * 2)) rfl rfl rfl QB Tryz.underlying77 aPt (by omega) (Z2 (j * 2) ((n - j) * 2) (fun hk=>XY (by omega)) aPk) (Xk _ _ _ (by omega)) (by rw [Xk _ _ _ (by omega)];omega) (Qcz hx1 _ _)) (fun _ _=>?_)
 refine dTu [] ?_
 refine Ql (show _ = Value.slice (some ⟨gg,0,none⟩) (n - (j - i)) cap from by first | rfl | (congr 1 <;> first | rfl | omega)) ?_
 refine dP 7 ?_
 refine dNi ?_
 refine aS6 ?_
 refine o_p (QX _ _ (n - (j - i)) n rfl rfl QB ⟨_,_,rfl,(by omega)⟩ ⟨_,_,rfl,rfl⟩ (by omega) (by omega)) rfl ?_
 refine Qm (show _ = Value.slice (some ⟨gg,(n - (j - i)) * 2,none⟩) (j - i) (cap - (n - (j - i))) from by rw [XY (by omega)] <;> (congr 1 <;> omega)) ?_
 refine YE (QjX rfl rfl QB Xm rfl rfl (by simp) aPt (fun _=>rfl) (by simp only [Qx];omega)) (fun _ _=>?_)
 refine aS6 ?_
 exact rT rfl rfl (fun w' h'=>⟨rfl,(HS.to_own (n:=n - (j - i)) (xs:=xs.take (i * 2) ++ xs.drop (j * 2)) (ds:=YQ [.string (bs []),.string (bs [])] ((j - i) * 2)) aPk h' (by have hq:=QlY (xs:=xs) (zs:=YQ [.string (bs []),.string (bs [])] ((j - i) * 2)) (p:=i * 2) (q:=j * 2) (N:=n * 2) hxl (by omega) (by omega) (by rw [Xe];omega);rw [show (n - j) * 2 = n * 2 - j * 2 from by omega,show (n - (j - i)) * 2 = n * 2 - (j * 2 - i * 2) from by omega];exact hq) (by simp only [List.length_append,List.length_take,List.length_drop];omega) (by omega) (by omega)).ent aEt⟩)
theorem c103 (w : World) (a : Option Addr) (i j n cap : Nat) (xs : List Value) (hw : HS w (fps [.own (.slice a n cap) 26 2 n xs]) [.own (.slice a n cap) 26 2 n xs] w) (hx1 : ∀ u ∈ xs,u.oneCell' = true) (hmx : n ≤ 9223372036854775807) (hij : i < j) (hjn : j ≤ n) : Calls Tryz.prog 103 #[.slice a n cap,.int .i64 i,.int .i64 j] w fun en w'=>∃ g : Unit,en = .returned (.slice a (n - (j - i)) cap) ∧ True ∧ HS w (fps [.own (.slice a n cap) 26 2 n xs]) [.own (.slice a (n - (j - i)) cap) 26 2 (n - (j - i)) (xs.take (i * 2) ++ xs.drop (j * 2))] w':=by
  obtain ⟨gg,rfl,_,hnc,hcm,hxl,hb⟩:=hw.own_blk (by omega) .here;exact (Qry w gg i j n cap xs _ hb hnc hcm hxl hx1 hmx hij hjn).mono fun en w' h=>⟨(),h.1,trivial,h.2⟩
theorem QrI (w : World) (gg i j n cap : Nat) (xs : List Value) (M : List Nat) (hw : HS w M [.blk gg 3 (cap * 1) xs] w) (hnc : n ≤ cap) (hcm : cap ≤ maxLen) (hxl : xs.length = n * 1) (hx1 : ∀ u ∈ xs,u.oneCell' = true) (hmx : n ≤ 9223372036854775807) (hij : i < j) (hjn : j ≤ n) : Calls Tryz.prog 152 #[.slice (some ⟨gg,0,none⟩) n cap,.int .i64 i,.int .i64 j] w fun en w'=>en = .returned (.slice (some ⟨gg,0,none⟩) (n - (j - i)) cap) ∧ HS w M [.own (.slice (some ⟨gg,0,none⟩) (n - (j - i)) cap) 3 1 (n - (j - i)) (xs.take (i * 1) ++ xs.drop (j * 1))] w':=by
 refine enter (args:=[_,_,_]) Tryz.func152 Tryz.ntmps152 rfl rfl hw ?_
 refine QaU ?_
 refine o_p (Qhl i j n rfl rfl rfl rfl rfl Qv rfl rfl rfl (by omega) (by omega) (by omega)) rfl ?_
 refine aS8 ?_
 refine Qd rfl (fun h1=>?_) fun h1=>?_
 ·try simp only [dT] at h1
  exfalso;first | omega | (simp at h1;done) | (simp_all;done)
 try simp only [dN] at h1
 refine aS8 ?_
 refine QE [6] QH ?_
 refine dP 0 ?_
 refine dP 1 ?_
 refine dV 2 rfl (QX _ _ 0 i rfl rfl Qv rfl ⟨_,_,rfl,rfl⟩ (by omega) (by omega)) ?_
 refine Ql (show _ = Value.slice (some ⟨gg,0,none⟩) i cap from by rw [Ys] <;> (congr 1 <;> omega)) ?_
 refine dP 3 ?_
 refine dP 4 ?_
 refine dV 5 rfl (QX _ _ j n rfl rfl Qv ⟨_,_,rfl,rfl⟩ rfl (by omega) (by omega)) ?_
 refine dH 6 rfl (Qdj (cut xs (j * 1) ((n - j) * 1)) rfl rfl rfl Qv Tryz.underlying30 aPt (by omega) (Z2 (j * 1) ((n - j) * 1) (fun hk=>XY (by omega)) aPk) (Xk _ _ _ (by omega)) (by rw [Xk _ _ _ (by omega)];omega) (Qcz hx1 _ _)) (fun _ _=>?_)
 refine dTu [] ?_
 refine Ql (show _ = Value.slice (some ⟨gg,0,none⟩) (n - (j - i)) cap from by first | rfl | (congr 1 <;> first | rfl | omega)) ?_
 refine dP 7 ?_
 refine dNi ?_
 refine aS6 ?_
 refine o_p (QX _ _ (n - (j - i)) n rfl rfl Qv ⟨_,_,rfl,(by omega)⟩ ⟨_,_,rfl,rfl⟩ (by omega) (by omega)) rfl ?_
 refine Qm (show _ = Value.slice (some ⟨gg,(n - (j - i)) * 1,none⟩) (j - i) (cap - (n - (j - i))) from by rw [XY (by omega)] <;> (congr 1 <;> omega)) ?_
 refine YE (QjX rfl rfl Qv X8 rfl rfl (by simp) aPt (fun _=>rfl) (by simp only [Qx];omega)) (fun _ _=>?_)
 refine aS6 ?_
 exact rT rfl rfl (fun w' h'=>⟨rfl,(HS.to_own (n:=n - (j - i)) (xs:=xs.take (i * 1) ++ xs.drop (j * 1)) (ds:=YQ [.int .i64 0] ((j - i) * 1)) aPk h' (by have hq:=QlY (xs:=xs) (zs:=YQ [.int .i64 0] ((j - i) * 1)) (p:=i * 1) (q:=j * 1) (N:=n * 1) hxl (by omega) (by omega) (by rw [Xe];omega);rw [show (n - j) * 1 = n * 1 - j * 1 from by omega,show (n - (j - i)) * 1 = n * 1 - (j * 1 - i * 1) from by omega];exact hq) (by simp only [List.length_append,List.length_take,List.length_drop];omega) (by omega) (by omega)).ent aEt⟩)
theorem c152 (w : World) (a : Option Addr) (i j n cap : Nat) (xs : List Value) (hw : HS w (fps [.own (.slice a n cap) 3 1 n xs]) [.own (.slice a n cap) 3 1 n xs] w) (hx1 : ∀ u ∈ xs,u.oneCell' = true) (hmx : n ≤ 9223372036854775807) (hij : i < j) (hjn : j ≤ n) : Calls Tryz.prog 152 #[.slice a n cap,.int .i64 i,.int .i64 j] w fun en w'=>∃ g : Unit,en = .returned (.slice a (n - (j - i)) cap) ∧ True ∧ HS w (fps [.own (.slice a n cap) 3 1 n xs]) [.own (.slice a (n - (j - i)) cap) 3 1 (n - (j - i)) (xs.take (i * 1) ++ xs.drop (j * 1))] w':=by
  obtain ⟨gg,rfl,_,hnc,hcm,hxl,hb⟩:=hw.own_blk (by omega) .here;exact (QrI w gg i j n cap xs _ hb hnc hcm hxl hx1 hmx hij hjn).mono fun en w' h=>⟨(),h.1,trivial,h.2⟩
theorem QmS (w : World) (a : Option Addr) (i cap : Nat) (l : List TEnt) (hw : HS w (fps [.own (.slice a l.length cap) 26 2 l.length (l.flatMap TEnt.vals)]) [.own (.slice a l.length cap) 26 2 l.length (l.flatMap TEnt.vals)] w) (hmax : l.length ≤ 100000) (hi : i < l.length) : Calls Tryz.prog 103 #[.slice a l.length cap,.int .i64 (i : Int),.int .i64 ((i : Int) + 1)] w fun en w'=>∃ g : Unit,en = .returned (.slice a (Qt l i).length cap) ∧ True ∧ HS w (fps [.own (.slice a l.length cap) 26 2 l.length (l.flatMap TEnt.vals)]) [.own (.slice a (Qt l i).length cap) 26 2 (Qt l i).length ((Qt l i).flatMap TEnt.vals)] w':=by
  have h:=c103 w a i (i + 1) l.length cap (l.flatMap TEnt.vals) hw (Xf ev1 l) (by omega) (by omega) (by omega);rw [QgF ev2,show l.length - (i + 1 - i) = (Qt l i).length by rw [Zx hi];omega] at h;exact h
theorem Qpj (w : World) (a : Option Addr) (i cap : Nat) (l : List Int) (hw : HS w (fps [.own (.slice a l.length cap) 3 1 l.length (l.flatMap inV)]) [.own (.slice a l.length cap) 3 1 l.length (l.flatMap inV)] w) (hmax : l.length ≤ 100000) (hi : i < l.length) : Calls Tryz.prog 152 #[.slice a l.length cap,.int .i64 (i : Int),.int .i64 ((i : Int) + 1)] w fun en w'=>∃ g : Unit,en = .returned (.slice a (Qt l i).length cap) ∧ True ∧ HS w (fps [.own (.slice a l.length cap) 3 1 l.length (l.flatMap inV)]) [.own (.slice a (Qt l i).length cap) 3 1 (Qt l i).length ((Qt l i).flatMap inV)] w':=by
  have h:=c152 w a i (i + 1) l.length cap (l.flatMap inV) hw (Xf QbX l) (by omega) (by omega) (by omega);rw [QgF iv1,show l.length - (i + 1 - i) = (Qt l i).length by rw [Zx hi];omega] at h;exact h
theorem Qh8 : QT Tryz.prog 103 = true:=by kernel_rfl
theorem QlC : QT Tryz.prog 152 = true:=by kernel_rfl
set_option maxHeartbeats 1000000 in
theorem Qrf (w : World) (bt : Nat) (j : Nat) (mo rm : Int) (gn cap : Nat) (L : List LNd) (p k f t : Nat) (hw : HS w (fps [.blk bt 112 6 (tbV (j : Int) mo rm (some ⟨gn,0,none⟩) (L).length cap),.blk gn 102 (cap * 3) ((L).flatMap LNd.vals),.star ((L).map (Qk 26))]) [.blk bt 112 6 (tbV (j : Int) mo rm (some ⟨gn,0,none⟩) (L).length cap),.blk gn 102 (cap * 3) ((L).flatMap LNd.vals),.star ((L).map (Qk 26))] w) (hnc : L.length ≤ cap) (hcm : cap ≤ maxLen) (hok : GivOk (pln L) p k f t) (hcf : (nth (pln L) p).cs.getD k 0 = (f : Int)) (hct : (nth (pln L) p).cs.getD (k + 1) 0 = (t : Int)) : Calls Tryz.prog 143 #[.pointer (some ⟨bt,0,none⟩),.int .i64 (p : Int),.int .i64 ((k + 1 : Nat) : Int),.bool true] w fun en w'=>∃ g : (Nat × Nat) × List LNd,en = .returned (.tuple #[]) ∧ (pln g.2 = Qex (pln L) p k f t ∧ g.2.length ≤ g.1.2 ∧ g.1.2 ≤ maxLen) ∧ HS w (fps [.blk bt 112 6 (tbV (j : Int) mo rm (some ⟨gn,0,none⟩) (L).length cap),.blk gn 102 (cap * 3) ((L).flatMap LNd.vals),.star ((L).map (Qk 26))]) [.blk bt 112 6 (tbV (j : Int) mo rm (some ⟨g.1.1,0,none⟩) (g.2).length g.1.2),.blk g.1.1 102 (g.1.2 * 3) ((g.2).flatMap LNd.vals),.star ((g.2).map (Qk 26))] w':=by
 have hpl:=hok.pl
 have hfl:=hok.fl
 have htl:=hok.tl
 have hln:=hok.len
 rw [Qc] at hpl hfl htl hln
 have hPN:=Qh hpl
 have hFN:=Qh hfl
 have hTN:=Qh htl
 have hke:=hok.ke
 have hkc:=hok.kc
 have hfe:=hok.fe
 have hpf:=hok.pf
 have hpt:=hok.pt
 have hft:=hok.ft
 have hsp:=hok.sm p
 have hsf:=hok.sm f
 have hst:=hok.sm t
 rw [hPN] at hke hkc hcf hct hsp
 rw [hFN] at hfe hsf
 rw [hTN] at hst
 simp only [LNd.pl] at hke hkc hfe hcf hct hsp hsf hst
 refine enter (args:=[_,_,_,_]) Tryz.func143 Tryz.ntmps143 rfl rfl hw ?_
 refine aS8 ?_
 refine o_p (Qa rfl rfl rfl Qp (p) (by omega) (by omega) rfl) rfl ?_
 refine Qm (show _ = Value.pointer (some ⟨gn,p * 3,none⟩) from by rw [Nat.zero_add]) ?_
 refine aS7 ?_
 refine Qd rfl (fun h1=>?_) fun h1=>?_
 ·skip
  refine QV (fun w h=>HS.cs_some hpl (by omega) h aPk) fun hgc=>?_
  obtain ⟨gc9,hgc⟩:=hgc
  refine QV (fun w h=>HS.es_some hpl (by omega) h aPk) fun hge=>?_
  obtain ⟨gp9,hge⟩:=hge
  refine QV (fun w h=>HS.es_some hfl (by omega) h aPk) fun hgf=>?_
  obtain ⟨gf9,hgf⟩:=hgf
  refine QV (fun w h=>HS.es_room hpl h aPk) fun hrP=>?_
  refine QV (fun w h=>HS.es_room hfl h aPk) fun hrF=>?_
  refine aS ?_
  refine QE [] QH ?_
  refine dP 0 ?_
  refine dP 1 ?_
  refine dFa 2 ?_
  refine dFa 3 ?_
  refine dLd 4 [] ?_
  refine dP 5 ?_
  refine dP 6 ?_
  refine dFa 7 ?_
  refine dQ 8 [] rfl (Qg rfl rfl Q8 (fun w h=>HS.nd_cell hpl h aPk 2 rfl (by decide))) ?_
  refine dP 9 ?_
  refine dP 10 ?_
  try refine dWr ?_
  refine dV 11 rfl (Qa rfl rfl rfl Qv (k) (by omega) (by omega) hgc) ?_
  refine dQ 12 [] rfl (Qg rfl rfl Xq (fun w h=>HS.cs_rd hpl (by omega) hgc h aPk)) ?_
  refine Ql (show _ = Value.int .i64 (f : Int) from by rw [hcf]) ?_
  refine dV 13 rfl (Qa rfl rfl rfl Qp (f) (by omega) (by omega) rfl) ?_
  refine Ql (show _ = Value.pointer (some ⟨gn,f * 3,none⟩) from by rw [Nat.zero_add]) ?_
  refine dP 14 ?_
  refine dP 15 ?_
  refine dFa 16 ?_
  refine dFa 17 ?_
  refine dLd 18 [] ?_
  refine dP 19 ?_
  refine dP 20 ?_
  refine dFa 21 ?_
  refine dQ 22 [] rfl (Qg rfl rfl Q8 (fun w h=>HS.nd_cell hpl h aPk 2 rfl (by decide))) ?_
  refine dP 23 ?_
  refine dV 24 rfl (Qa rfl rfl rfl Qv (k + 1) (by omega) (by omega) hgc) ?_
  refine dQ 25 [] rfl (Qg rfl rfl Xq (fun w h=>HS.cs_rd hpl (by omega) hgc h aPk)) ?_
  refine Ql (show _ = Value.int .i64 (t : Int) from by rw [hct]) ?_
  refine dV 26 rfl (Qa rfl rfl rfl Qp (t) (by omega) (by omega) rfl) ?_
  refine Ql (show _ = Value.pointer (some ⟨gn,t * 3,none⟩) from by rw [Nat.zero_add]) ?_
  refine dP 27 ?_
  refine dP 28 ?_
  refine dNi ?_
  refine aS ?_
  refine Qj (L':=[(0,_),(2,_),(8,_),(9,_),(10,_)]) aSx (fun _ h=>h) ?_
  refine aS4 ?_
  refine o_q (Qg rfl rfl Xb (fun w h=>HS.nd_cell hfl h aPk 1 rfl (by decide))) rfl ?_
  refine aS2 ?_
  try refine oWr ?_
  refine aS3 ?_
  refine Xd (fun w h=>HS.es_take htl h aPk) ?_
  refine QE [14,17] QH ?_
  refine dP 0 ?_
  refine dP 1 ?_
  refine dP 2 ?_
  refine dFa 3 ?_
  refine dQ 4 [[],[]] rfl (Qg rfl rfl Xb (fun w h=>HS.nd_cell htl h aPk 1 rfl (by decide))) ?_
  refine dP 5 ?_
  refine dP 6 ?_
  refine dFa 7 ?_
  refine dQ 8 [[13,12,11],[]] rfl (Qg rfl rfl Xb (fun w h=>HS.nd_cell hpl h aPk 1 rfl (by decide))) ?_
  refine dP 9 ?_
  refine dP 10 ?_
  try refine dWr ?_
  refine dV 11 rfl (Qa rfl rfl rfl QB (k) (by omega) (by omega) hge) ?_
  refine dQ 12 [[13],[]] rfl (QK _ rfl rfl XC rfl (fun w h=>HS.es_rdB hpl (Ne.symm hpt) (by omega) hge h aPk)) ?_
  refine dH 13 rfl (Qr (cs:=[_,_]) rfl rfl QB Xm rfl rfl rfl) (fun b2 _=>?_)
  refine dBa ?_
  refine dH 14 rfl (Q7 (Cs:=[.own (.slice ((nth L t)).ea ((nth L t)).es.length ((nth L t)).ec) 26 2 ((nth L t)).es.length (((nth L t)).es.flatMap TEnt.vals),.blk b2 26 2 (TEnt.vals (nth (nth L p).es k))]) rfl QlH rfl aPs (fun w1 h1 hf9=>Qqv w1 (nth L t).ea 0 (nth L t).ec (nth L t).es (nth (nth L p).es k) b2 1 2 hf9 (by omega) (by omega))) (fun b3 _=>?_)
  refine dTu [17] ?_
  refine dP 15 ?_
  refine dFa 16 ?_
  refine dSt 17 ?_ (hl:=(by rw [Qf nv3];show _ + 1 ≤ _;omega))
  refine dTu [] ?_
  refine dNi ?_
  refine aS ?_
  refine ZV (fun w h=>HS.es_setB (gn:=gn) (cap:=cap) (ea:=b3.1) (ec:=b3.2) (es:=QI (nth L t).es 0 (nth (nth L p).es k)) htl h aPk aPk aPk) fun L1=>?_
  refine QV (fun w h=>h.1) fun hS1=>?_
  refine Xd (fun w h=>h.2) ?_
  have hp1 : p < L1.length:=by rw [hS1.len];exact hpl
  have hf1 : f < L1.length:=by rw [hS1.len];exact hfl
  have ht1 : t < L1.length:=by rw [hS1.len];exact htl
  have hP1 : nth L1 p = nth L p:=hS1.other hpl (Ne.symm hpt)
  have hF1 : nth L1 f = nth L f:=hS1.other hfl (Ne.symm hft)
  have hT1:=hS1.at_
  have hFl1 : (nth L1 f).es.length = (nth L f).es.length:=by rw [hF1]
  have hPl1 : (nth L1 p).es.length = (nth L p).es.length:=by rw [hP1]
  have hge1 : (nth L1 p).ea = some ⟨gp9,0,none⟩:=by rw [hP1];exact hge
  have hgf1 : (nth L1 f).ea = some ⟨gf9,0,none⟩:=by rw [hF1];exact hgf
  refine Xd (fun w h=>HS.es_open hp1 (by rw [hP1];omega) hge1 h aPk) ?_
  refine QE [14] QH ?_
  refine dP 0 ?_
  refine dP 1 ?_
  refine dFa 2 ?_
  refine dQ 3 [[]] rfl (Qg rfl rfl Xb (fun w h=>HS.nd_cell hp1 h aPk 1 rfl (by decide))) ?_
  refine dP 4 ?_
  refine dP 5 ?_
  try refine dWr ?_
  refine dP 6 ?_
  refine dP 7 ?_
  refine dFa 8 ?_
  refine dQ 9 [[]] rfl (Qg rfl rfl Xb (fun w h=>HS.nd_cell hf1 h aPk 1 rfl (by decide))) ?_
  refine dP 10 ?_
  refine dV 11 rfl (Qa rfl rfl rfl QB (((nth L f).es.length - 1)) (by omega) (by omega) hgf1) ?_
  refine dQ 12 [[]] rfl (QK _ rfl rfl XC rfl (fun w h=>HS.es_rdB hf1 hpf (k:=((nth L f).es.length - 1)) (by rw [hF1];omega) hgf1 h aPk)) ?_
  refine dV 13 rfl (Qa rfl rfl rfl QB (k) (by omega) (by omega) hge1) ?_
  refine Ql (show _ = Value.pointer (some ⟨gp9,k * 2,none⟩) from by rw [Nat.zero_add]) ?_
  refine dSt 14 ?_ (hl:=(by rw [Qf ev2];show _ + 2 ≤ _;omega))
  refine dTu [] ?_
  refine dNi ?_
  refine aS ?_
  refine Qj (L':=[(0,_),(2,_),(8,_),(9,_),(10,_),(11,_)]) aSx (fun _ h=>h) ?_
  refine aS2 ?_
  refine Y1 (fun w h=>HS.es_upd (gn:=gn) (cap:=cap) (g:=gp9) (k:=k) (x:=nth (nth L1 f).es ((nth L f).es.length - 1)) hp1 (by rw [hP1];exact hke) hge1 h aPk aPk aPk (by rw [hP1];exact hrP)) fun L2=>?_
  refine QU (fun w h=>h.1) fun hS2=>?_
  refine QZ (fun w h=>h.2) ?_
  have hf2 : f < L2.length:=by rw [hS2.len];exact hf1
  have ht2 : t < L2.length:=by rw [hS2.len];exact ht1
  have hF2 : nth L2 f = nth L f:=by rw [hS2.other hf1 hpf,hF1]
  have hT2:=hS2.other ht1 hpt
  have hFl2 : (nth L2 f).es.length = (nth L f).es.length:=by rw [hF2]
  have hFe2 : (nth L2 f).ec = (nth L f).ec:=by rw [hF2]
  refine QU (fun w h=>HS.es_form hf2 h aPk) fun hfF2=>?_
  refine aS3 ?_
  refine o_q (Qg rfl rfl Xb (fun w h=>HS.nd_cell hf2 h aPk 1 rfl (by decide))) rfl ?_
  refine aS ?_
  refine o_p (QX _ _ 0 ((nth L f).es.length - 1) rfl rfl QB rfl ⟨_,_,rfl,(by omega)⟩ (by omega) (by omega)) rfl ?_
  refine Qm (show _ = Value.slice (nth L2 f).ea ((nth L f).es.length - 1) (nth L2 f).ec from by rw [QfS _ _ _ hfF2];first | rfl | (congr 1 <;> omega)) ?_
  refine aS2 ?_
  refine YE (Q9 rfl rfl rfl Xb rfl aPt (by rw [Qf nv3];show _ + 1 ≤ _;omega) rfl) (fun _ _=>?_)
  refine aS5 ?_
  refine Y1 (fun w h=>HS.es_setC (gn:=gn) (cap:=cap) (m:=((nth L f).es.length - 1)) (c:=(nth L2 f).ec) hf2 (by rw [hF2];omega) (Nat.le_refl _) (by rw [hF2];omega) (fun _ h9=>by rw [hF2,hgf] at h9;cases h9) h aPk aPk) fun L3=>?_
  refine QU (fun w h=>h.1) fun hS3=>?_
  refine QZ (fun w h=>h.2) ?_
  have hf3 : f < L3.length:=by rw [hS3.len];exact hf2
  have ht3 : t < L3.length:=by rw [hS3.len];exact ht2
  have hT3:=(hS3.other ht2 hft).trans (hT2.trans hT1)
  have hF3:=hS3.at_
  have hFc3 : (nth L3 f).cs = (nth L f).cs:=by rw [hF3,hF2]
  have hTc3 : (nth L3 t).cs = (nth L t).cs:=by rw [hT3]
  have hln3 : L3.length = L.length:=by rw [hS3.len,hS2.len,hS1.len]
  have hTl3 : (nth L3 t).cs.length = (nth L t).cs.length:=by rw [hTc3]
  have hFl3 : (nth L3 f).cs.length = (nth L f).cs.length:=by rw [hFc3]
  refine aS2 ?_
  refine o_q (Qg rfl rfl Q8 (fun w h=>HS.nd_cell hf3 h aPk 2 rfl (by decide))) rfl ?_
  refine aS8 ?_
  refine Qd rfl (fun h4=>?_) fun h4=>?_
  ·try simp only [dT] at h4
   have hcz : 0 < (nth L3 f).cs.length:=by have hq:=h4;omega
   have hcz0 : 0 < (nth L f).cs.length:=by omega
   refine QV (fun w h=>HS.cs_some hf3 hcz h aPk) fun hgk=>?_
   obtain ⟨gk9,hgk⟩:=hgk
   refine QV (fun w h=>HS.cs_room hf3 h aPk) fun hrK=>?_
   refine aS ?_
   refine Xd (fun w h=>HS.cs_take ht3 h aPk) ?_
   refine QE [14,17] QH ?_
   refine dP 0 ?_
   refine dP 1 ?_
   refine dP 2 ?_
   refine dFa 3 ?_
   refine dQ 4 [[],[]] rfl (Qg rfl rfl Q8 (fun w h=>HS.nd_cell ht3 h aPk 2 rfl (by decide))) ?_
   refine dP 5 ?_
   refine dP 6 ?_
   refine dFa 7 ?_
   refine dQ 8 [[13,12,11],[]] rfl (Qg rfl rfl Q8 (fun w h=>HS.nd_cell hf3 h aPk 2 rfl (by decide))) ?_
   refine dP 9 ?_
   refine dP 10 ?_
   try refine dWr ?_
   refine dV 11 rfl (Qa rfl rfl rfl Qv ((nth L3 f).cs.length - 1) (by omega) (by omega) hgk) ?_
   refine dQ 12 [[13],[]] rfl (Qg rfl rfl Xq (fun w h=>HS.cs_rdB hf3 (Ne.symm hft) (k:=(nth L3 f).cs.length - 1) (by omega) hgk h aPk)) ?_
   refine dH 13 rfl (Qr (cs:=[_]) rfl rfl Qv X8 rfl rfl rfl) (fun b5 _=>?_)
   refine dBa ?_
   refine dH 14 rfl (Q7 (Cs:=[.own (.slice ((nth L3 t)).ca ((nth L3 t)).cs.length ((nth L3 t)).cc) 3 1 ((nth L3 t)).cs.length (((nth L3 t)).cs.flatMap inV),.blk b5 3 1 (inV ((nth L3 f).cs.getD ((nth L3 f).cs.length - 1) 0))]) rfl QlU rfl aPs (fun w1 h1 hf9=>QoU w1 (nth L3 t).ca 0 (nth L3 t).cc (nth L3 t).cs ((nth L3 f).cs.getD ((nth L3 f).cs.length - 1) 0) b5 1 1 hf9 (by omega) (by omega))) (fun b6 _=>?_)
   refine dTu [17] ?_
   refine dP 15 ?_
   refine dFa 16 ?_
   refine dSt 17 ?_ (hl:=(by rw [Qf nv3];show _ + 1 ≤ _;omega))
   refine dTu [] ?_
   refine dNi ?_
   refine Qj (L':=[(0,_),(2,_),(8,_),(9,_),(12,_)]) aSx (fun _ h=>h) ?_
   refine aS2 ?_
   refine Y1 (fun w h=>HS.cs_setB (gn:=gn) (cap:=cap) (ca:=b6.1) (cc:=b6.2) (cs:=QI (nth L3 t).cs 0 ((nth L3 f).cs.getD ((nth L3 f).cs.length - 1) 0)) ht3 h aPk aPk aPk) fun L4=>?_
   refine QU (fun w h=>h.1) fun hS4=>?_
   refine QZ (fun w h=>h.2) ?_
   have hf4 : f < L4.length:=by rw [hS4.len];exact hf3
   have hF4 : nth L4 f = nth L3 f:=hS4.other hf3 (Ne.symm hft)
   have hFc4 : (nth L4 f).cs = (nth L f).cs:=by rw [hF4,hFc3]
   have hFl4 : (nth L4 f).cs.length = (nth L f).cs.length:=by rw [hFc4]
   refine QU (fun w h=>HS.cs_form hf4 h aPk) fun hfK4=>?_
   refine QU (fun w h=>HS.cs_room hf4 h aPk) fun hrK4=>?_
   refine aS3 ?_
   refine o_q (Qg rfl rfl Q8 (fun w h=>HS.nd_cell hf4 h aPk 2 rfl (by decide))) rfl ?_
   refine aS2 ?_
   try refine oWr ?_
   refine o_p (QX _ _ 0 ((nth L4 f).cs.length - 1) rfl rfl Qv rfl ⟨_,_,rfl,(by omega)⟩ (by omega) (by omega)) rfl ?_
   refine Qm (show _ = Value.slice (nth L4 f).ca ((nth L4 f).cs.length - 1) (nth L4 f).cc from by rw [QfS _ _ _ hfK4];first | rfl | (congr 1 <;> omega)) ?_
   refine aS2 ?_
   refine YE (Q9 rfl rfl rfl Q8 rfl aPt (by rw [Qf nv3];show _ + 1 ≤ _;omega) rfl) (fun _ _=>?_)
   refine aS ?_
   exact QdR rfl (fun w' h'=>by first | (obtain ⟨L5,hS5,hC⟩:=HS.cs_setC (gn:=gn) (cap:=cap) (m:=(nth L4 f).cs.length - 1) (c:=(nth L4 f).cc) hf4 (by omega) (Nat.le_refl _) (by omega) (fun _ h9=>by rw [hF4,hgk] at h9;cases h9) h' aPk aPk;have hz5 : L5.length = L.length:=(by rw [hS5.len,hS4.len,hln3]);exact ⟨((gn,cap),L5),rfl,⟨by rw [hS5.cs,hFc4,hS4.cs,hFc3,hTc3,hS3.es,hS2.es,hS1.es,hF2,hP1,hF1];exact (Qil hPN hFN hTN hcz0).symm,by simp only [];omega,hcm⟩,by simp only [];rw [hz5];exact hC.ent aEt⟩) | exact ⟨((gn,cap),L3),rfl,⟨by rw [hS3.es,hS2.es,hS1.es,hF2,hP1,hF1];exact (QiB hPN hFN hTN hcz).symm,by simp only [];omega,hcm⟩,by simp only [];rw [hln3];exact h'.ent aEt⟩)
  try simp only [dN] at h4
  have hcz : (nth L f).cs.length = 0:=by have hq:=h4;omega
  refine aS ?_
  exact QdR rfl (fun w' h'=>by first | (obtain ⟨L5,hS5,hC⟩:=HS.cs_setC (gn:=gn) (cap:=cap) (m:=(nth L4 f).cs.length - 1) (c:=(nth L4 f).cc) hf4 (by omega) (Nat.le_refl _) (by omega) (fun _ h9=>by rw [hF4,hgk] at h9;cases h9) h' aPk aPk;have hz5 : L5.length = L.length:=(by rw [hS5.len,hS4.len,hln3]);exact ⟨((gn,cap),L5),rfl,⟨by rw [hS5.cs,hFc4,hS4.cs,hFc3,hTc3,hS3.es,hS2.es,hS1.es,hF2,hP1,hF1];exact (Qil hPN hFN hTN hcz0).symm,by simp only [];omega,hcm⟩,by simp only [];rw [hz5];exact hC.ent aEt⟩) | exact ⟨((gn,cap),L3),rfl,⟨by rw [hS3.es,hS2.es,hS1.es,hF2,hP1,hF1];exact (QiB hPN hFN hTN hcz).symm,by simp only [];omega,hcm⟩,by simp only [];rw [hln3];exact h'.ent aEt⟩)
 skip
 exfalso;first | omega | (simp at h1;done) | (simp_all;done)
set_option maxHeartbeats 1000000 in
theorem Qsl (w : World) (bt : Nat) (j : Nat) (mo rm : Int) (gn cap : Nat) (L : List LNd) (p k f t : Nat) (hw : HS w (fps [.blk bt 112 6 (tbV (j : Int) mo rm (some ⟨gn,0,none⟩) (L).length cap),.blk gn 102 (cap * 3) ((L).flatMap LNd.vals),.star ((L).map (Qk 26))]) [.blk bt 112 6 (tbV (j : Int) mo rm (some ⟨gn,0,none⟩) (L).length cap),.blk gn 102 (cap * 3) ((L).flatMap LNd.vals),.star ((L).map (Qk 26))] w) (hnc : L.length ≤ cap) (hcm : cap ≤ maxLen) (hok : GivOk (pln L) p k f t) (hcf : (nth (pln L) p).cs.getD (k + 1) 0 = (f : Int)) (hct : (nth (pln L) p).cs.getD k 0 = (t : Int)) : Calls Tryz.prog 143 #[.pointer (some ⟨bt,0,none⟩),.int .i64 (p : Int),.int .i64 (k : Int),.bool false] w fun en w'=>∃ g : (Nat × Nat) × List LNd,en = .returned (.tuple #[]) ∧ (pln g.2 = QcA (pln L) p k f t ∧ g.2.length ≤ g.1.2 ∧ g.1.2 ≤ maxLen) ∧ HS w (fps [.blk bt 112 6 (tbV (j : Int) mo rm (some ⟨gn,0,none⟩) (L).length cap),.blk gn 102 (cap * 3) ((L).flatMap LNd.vals),.star ((L).map (Qk 26))]) [.blk bt 112 6 (tbV (j : Int) mo rm (some ⟨g.1.1,0,none⟩) (g.2).length g.1.2),.blk g.1.1 102 (g.1.2 * 3) ((g.2).flatMap LNd.vals),.star ((g.2).map (Qk 26))] w':=by
 have hpl:=hok.pl
 have hfl:=hok.fl
 have htl:=hok.tl
 have hln:=hok.len
 rw [Qc] at hpl hfl htl hln
 have hPN:=Qh hpl
 have hFN:=Qh hfl
 have hTN:=Qh htl
 have hke:=hok.ke
 have hkc:=hok.kc
 have hfe:=hok.fe
 have hpf:=hok.pf
 have hpt:=hok.pt
 have hft:=hok.ft
 have hsp:=hok.sm p
 have hsf:=hok.sm f
 have hst:=hok.sm t
 rw [hPN] at hke hkc hcf hct hsp
 rw [hFN] at hfe hsf
 rw [hTN] at hst
 simp only [LNd.pl] at hke hkc hfe hcf hct hsp hsf hst
 refine enter (args:=[_,_,_,_]) Tryz.func143 Tryz.ntmps143 rfl rfl hw ?_
 refine aS8 ?_
 refine o_p (Qa rfl rfl rfl Qp (p) (by omega) (by omega) rfl) rfl ?_
 refine Qm (show _ = Value.pointer (some ⟨gn,p * 3,none⟩) from by rw [Nat.zero_add]) ?_
 refine aS7 ?_
 refine Qd rfl (fun h1=>?_) fun h1=>?_
 ·skip
  exfalso;first | omega | (simp at h1;done) | (simp_all;done)
 skip
 refine QV (fun w h=>HS.cs_some hpl (by omega) h aPk) fun hgc=>?_
 obtain ⟨gc9,hgc⟩:=hgc
 refine QV (fun w h=>HS.es_some hpl (by omega) h aPk) fun hge=>?_
 obtain ⟨gp9,hge⟩:=hge
 refine QV (fun w h=>HS.es_some hfl (by omega) h aPk) fun hgf=>?_
 obtain ⟨gf9,hgf⟩:=hgf
 refine QV (fun w h=>HS.es_room hpl h aPk) fun hrP=>?_
 refine aS2 ?_
 refine QE [] QH ?_
 refine dP 0 ?_
 refine dP 1 ?_
 refine dFa 2 ?_
 refine dFa 3 ?_
 refine dLd 4 [] ?_
 refine dP 5 ?_
 refine dP 6 ?_
 refine dFa 7 ?_
 refine dQ 8 [] rfl (Qg rfl rfl Q8 (fun w h=>HS.nd_cell hpl h aPk 2 rfl (by decide))) ?_
 refine dP 9 ?_
 refine dP 10 ?_
 try refine dWr ?_
 refine dV 11 rfl (Qa rfl rfl rfl Qv (k + 1) (by omega) (by omega) hgc) ?_
 refine dQ 12 [] rfl (Qg rfl rfl Xq (fun w h=>HS.cs_rd hpl (by omega) hgc h aPk)) ?_
 refine Ql (show _ = Value.int .i64 (f : Int) from by rw [hcf]) ?_
 refine dV 13 rfl (Qa rfl rfl rfl Qp (f) (by omega) (by omega) rfl) ?_
 refine Ql (show _ = Value.pointer (some ⟨gn,f * 3,none⟩) from by rw [Nat.zero_add]) ?_
 refine dP 14 ?_
 refine dP 15 ?_
 refine dFa 16 ?_
 refine dFa 17 ?_
 refine dLd 18 [] ?_
 refine dP 19 ?_
 refine dP 20 ?_
 refine dFa 21 ?_
 refine dQ 22 [] rfl (Qg rfl rfl Q8 (fun w h=>HS.nd_cell hpl h aPk 2 rfl (by decide))) ?_
 refine dP 23 ?_
 refine dV 24 rfl (Qa rfl rfl rfl Qv (k) (by omega) (by omega) hgc) ?_
 refine dQ 25 [] rfl (Qg rfl rfl Xq (fun w h=>HS.cs_rd hpl (by omega) hgc h aPk)) ?_
 refine Ql (show _ = Value.int .i64 (t : Int) from by rw [hct]) ?_
 refine dV 26 rfl (Qa rfl rfl rfl Qp (t) (by omega) (by omega) rfl) ?_
 refine Ql (show _ = Value.pointer (some ⟨gn,t * 3,none⟩) from by rw [Nat.zero_add]) ?_
 refine dP 27 ?_
 refine dP 28 ?_
 refine dNi ?_
 refine aS ?_
 refine Qj (L':=[(2,_),(8,_),(13,_),(14,_)]) aSx (fun _ h=>h) ?_
 refine Xd (fun w h=>HS.es_take htl h aPk) ?_
 refine QE [13,16] QH ?_
 refine dP 0 ?_
 refine dP 1 ?_
 refine dP 2 ?_
 refine dFa 3 ?_
 refine dQ 4 [[],[]] rfl (Qg rfl rfl Xb (fun w h=>HS.nd_cell htl h aPk 1 rfl (by decide))) ?_
 refine dP 5 ?_
 refine dP 6 ?_
 refine dFa 7 ?_
 refine dQ 8 [[12,11,10],[]] rfl (Qg rfl rfl Xb (fun w h=>HS.nd_cell hpl h aPk 1 rfl (by decide))) ?_
 refine dP 9 ?_
 refine dV 10 rfl (Qa rfl rfl rfl QB (k) (by omega) (by omega) hge) ?_
 refine dQ 11 [[12],[]] rfl (QK _ rfl rfl XC rfl (fun w h=>HS.es_rdB hpl (Ne.symm hpt) (by omega) hge h aPk)) ?_
 refine dH 12 rfl (Qr (cs:=[_,_]) rfl rfl QB Xm rfl rfl rfl) (fun b2 _=>?_)
 refine dBa ?_
 refine dH 13 rfl (QJ (TEnt.vals (nth (nth L p).es k)) rfl rfl rfl QB Tryz.underlying77 Xm rfl aPk (Xv aPk) rfl (ev1 _) (by omega) (by simp only [maxLen];omega)) (fun b3 _=>?_)
 refine dTu [16] ?_
 refine dP 14 ?_
 refine dFa 15 ?_
 refine dSt 16 ?_ (hl:=(by rw [Qf nv3];show _ + 1 ≤ _;omega))
 refine dTu [] ?_
 refine dNi ?_
 refine aS ?_
 refine ZV (fun w h=>HS.es_setA (gn:=gn) (cap:=cap) (ea:=b3.1) (ec:=b3.2) (x:=(nth (nth L p).es k)) htl h aPk aPk aPk) fun L1=>?_
 refine QV (fun w h=>h.1) fun hS1=>?_
 refine Xd (fun w h=>h.2) ?_
 have hp1 : p < L1.length:=by rw [hS1.len];exact hpl
 have hf1 : f < L1.length:=by rw [hS1.len];exact hfl
 have ht1 : t < L1.length:=by rw [hS1.len];exact htl
 have hP1 : nth L1 p = nth L p:=hS1.other hpl (Ne.symm hpt)
 have hF1 : nth L1 f = nth L f:=hS1.other hfl (Ne.symm hft)
 have hT1:=hS1.at_
 have hFl1 : (nth L1 f).es.length = (nth L f).es.length:=by rw [hF1]
 have hPl1 : (nth L1 p).es.length = (nth L p).es.length:=by rw [hP1]
 have hge1 : (nth L1 p).ea = some ⟨gp9,0,none⟩:=by rw [hP1];exact hge
 have hgf1 : (nth L1 f).ea = some ⟨gf9,0,none⟩:=by rw [hF1];exact hgf
 refine Xd (fun w h=>HS.es_open hp1 (by rw [hP1];omega) hge1 h aPk) ?_
 refine QE [12] QH ?_
 refine dP 0 ?_
 refine dP 1 ?_
 refine dFa 2 ?_
 refine dQ 3 [[]] rfl (Qg rfl rfl Xb (fun w h=>HS.nd_cell hp1 h aPk 1 rfl (by decide))) ?_
 refine dP 4 ?_
 refine dP 5 ?_
 refine dP 6 ?_
 refine dFa 7 ?_
 refine dQ 8 [[]] rfl (Qg rfl rfl Xb (fun w h=>HS.nd_cell hf1 h aPk 1 rfl (by decide))) ?_
 refine dV 9 rfl (Qa rfl rfl rfl QB (0) (by omega) (by omega) hgf1) ?_
 refine dQ 10 [[]] rfl (QK _ rfl rfl XC rfl (fun w h=>HS.es_rdB hf1 hpf (k:=0) (by rw [hF1];omega) hgf1 h aPk)) ?_
 refine dV 11 rfl (Qa rfl rfl rfl QB (k) (by omega) (by omega) hge1) ?_
 refine Ql (show _ = Value.pointer (some ⟨gp9,k * 2,none⟩) from by rw [Nat.zero_add]) ?_
 refine dSt 12 ?_ (hl:=(by rw [Qf ev2];show _ + 2 ≤ _;omega))
 refine dTu [] ?_
 refine dNi ?_
 refine aS ?_
 refine Qj (L':=[(13,_),(14,_)]) aSx (fun _ h=>h) ?_
 refine aS2 ?_
 refine Y1 (fun w h=>HS.es_upd (gn:=gn) (cap:=cap) (g:=gp9) (k:=k) (x:=nth (nth L1 f).es 0) hp1 (by rw [hP1];exact hke) hge1 h aPk aPk aPk (by rw [hP1];exact hrP)) fun L2=>?_
 refine QU (fun w h=>h.1) fun hS2=>?_
 refine QZ (fun w h=>h.2) ?_
 have hf2 : f < L2.length:=by rw [hS2.len];exact hf1
 have ht2 : t < L2.length:=by rw [hS2.len];exact ht1
 have hF2 : nth L2 f = nth L f:=by rw [hS2.other hf1 hpf,hF1]
 have hT2:=hS2.other ht1 hpt
 have hFl2 : (nth L2 f).es.length = (nth L f).es.length:=by rw [hF2]
 have hFe2 : (nth L2 f).ec = (nth L f).ec:=by rw [hF2]
 refine QZ (fun w h=>HS.es_take hf2 h aPk) ?_
 refine aS3 ?_
 refine o_q (Qg rfl rfl Xb (fun w h=>HS.nd_cell hf2 h aPk 1 rfl (by decide))) rfl ?_
 refine o_h (Q7 (Cs:=[.own (.slice ((nth L2 f)).ea ((nth L2 f)).es.length ((nth L2 f)).ec) 26 2 ((nth L2 f)).es.length (((nth L2 f)).es.flatMap TEnt.vals)]) rfl Qh8 rfl aPs (fun w1 h1 hf9=>QmS w1 (nth L2 f).ea 0 (nth L2 f).ec (nth L2 f).es hf9 (by omega) (by omega))) rfl (fun _ _=>?_)
 refine aS2 ?_
 refine YE (Q9 rfl rfl rfl Xb rfl aPt (by rw [Qf nv3];show _ + 1 ≤ _;omega) rfl) (fun _ _=>?_)
 refine aS4 ?_
 refine Y1 (fun w h=>HS.es_setB (gn:=gn) (cap:=cap) (ea:=(nth L2 f).ea) (ec:=(nth L2 f).ec) (es:=Qt (nth L2 f).es 0) hf2 h aPk aPk aPk) fun L3=>?_
 refine QU (fun w h=>h.1) fun hS3=>?_
 refine QZ (fun w h=>h.2) ?_
 have hf3 : f < L3.length:=by rw [hS3.len];exact hf2
 have ht3 : t < L3.length:=by rw [hS3.len];exact ht2
 have hT3:=(hS3.other ht2 hft).trans (hT2.trans hT1)
 have hF3:=hS3.at_
 have hFc3 : (nth L3 f).cs = (nth L f).cs:=by rw [hF3,hF2]
 have hTc3 : (nth L3 t).cs = (nth L t).cs:=by rw [hT3]
 have hln3 : L3.length = L.length:=by rw [hS3.len,hS2.len,hS1.len]
 have hTl3 : (nth L3 t).cs.length = (nth L t).cs.length:=by rw [hTc3]
 have hFl3 : (nth L3 f).cs.length = (nth L f).cs.length:=by rw [hFc3]
 refine aS2 ?_
 refine o_q (Qg rfl rfl Q8 (fun w h=>HS.nd_cell hf3 h aPk 2 rfl (by decide))) rfl ?_
 refine aS3 ?_
 refine Qd rfl (fun h4=>?_) fun h4=>?_
 ·try simp only [dT] at h4
  have hcz : 0 < (nth L3 f).cs.length:=by have hq:=h4;omega
  have hcz0 : 0 < (nth L f).cs.length:=by omega
  refine QV (fun w h=>HS.cs_some hf3 hcz h aPk) fun hgk=>?_
  obtain ⟨gk9,hgk⟩:=hgk
  refine aS ?_
  refine Xd (fun w h=>HS.cs_take ht3 h aPk) ?_
  refine QE [12,15] QH ?_
  refine dP 0 ?_
  refine dP 1 ?_
  refine dP 2 ?_
  refine dFa 3 ?_
  refine dQ 4 [[],[]] rfl (Qg rfl rfl Q8 (fun w h=>HS.nd_cell ht3 h aPk 2 rfl (by decide))) ?_
  refine dP 5 ?_
  refine dP 6 ?_
  refine dFa 7 ?_
  refine dQ 8 [[11,10,9],[]] rfl (Qg rfl rfl Q8 (fun w h=>HS.nd_cell hf3 h aPk 2 rfl (by decide))) ?_
  refine dV 9 rfl (Qa rfl rfl rfl Qv (0) (by omega) (by omega) hgk) ?_
  refine dQ 10 [[11],[]] rfl (Qg rfl rfl Xq (fun w h=>HS.cs_rdB hf3 (Ne.symm hft) (k:=0) (by omega) hgk h aPk)) ?_
  refine dH 11 rfl (Qr (cs:=[_]) rfl rfl Qv X8 rfl rfl rfl) (fun b5 _=>?_)
  refine dBa ?_
  refine dH 12 rfl (QJ (inV ((nth L3 f).cs.getD 0 0)) rfl rfl rfl Qv Tryz.underlying30 X8 rfl aPk (Xv aPk) rfl (QbX _) (by omega) (by simp only [maxLen];omega)) (fun b6 _=>?_)
  refine dTu [15] ?_
  refine dP 13 ?_
  refine dFa 14 ?_
  refine dSt 15 ?_ (hl:=(by rw [Qf nv3];show _ + 1 ≤ _;omega))
  refine dTu [] ?_
  refine dNi ?_
  refine Qj (L':=[(13,_)]) aSx (fun _ h=>h) ?_
  refine aS2 ?_
  refine Y1 (fun w h=>HS.cs_setA (gn:=gn) (cap:=cap) (ca:=b6.1) (cc:=b6.2) (x:=(nth L3 f).cs.getD 0 0) ht3 h aPk aPk aPk) fun L4=>?_
  refine QU (fun w h=>h.1) fun hS4=>?_
  refine QZ (fun w h=>h.2) ?_
  have hf4 : f < L4.length:=by rw [hS4.len];exact hf3
  have hF4 : nth L4 f = nth L3 f:=hS4.other hf3 (Ne.symm hft)
  have hFc4 : (nth L4 f).cs = (nth L f).cs:=by rw [hF4,hFc3]
  have hFl4 : (nth L4 f).cs.length = (nth L f).cs.length:=by rw [hFc4]
  refine QZ (fun w h=>HS.cs_take hf4 h aPk) ?_
  refine aS3 ?_
  refine o_q (Qg rfl rfl Q8 (fun w h=>HS.nd_cell hf4 h aPk 2 rfl (by decide))) rfl ?_
  refine o_h (Q7 (Cs:=[.own (.slice ((nth L4 f)).ca ((nth L4 f)).cs.length ((nth L4 f)).cc) 3 1 ((nth L4 f)).cs.length (((nth L4 f)).cs.flatMap inV)]) rfl QlC rfl aPs (fun w1 h1 hf9=>Qpj w1 (nth L4 f).ca 0 (nth L4 f).cc (nth L4 f).cs hf9 (by omega) (by omega))) rfl (fun _ _=>?_)
  refine aS2 ?_
  refine YE (Q9 rfl rfl rfl Q8 rfl aPt (by rw [Qf nv3];show _ + 1 ≤ _;omega) rfl) (fun _ _=>?_)
  refine aS ?_
  exact YR rfl (fun w' h'=>by first | exact ⟨((gn,cap),L3),rfl,⟨by rw [hS3.es,hS2.es,hS1.es,hF2,hP1,hF1];exact (Qia hPN hFN hTN hcz).symm,by simp only [];omega,hcm⟩,by simp only [];rw [hln3];exact h'.ent aEt⟩ | (obtain ⟨L5,hS5,hC⟩:=HS.cs_setB (gn:=gn) (cap:=cap) (ca:=(nth L4 f).ca) (cc:=(nth L4 f).cc) (cs:=Qt (nth L4 f).cs 0) hf4 h' aPk aPk aPk;have hz5 : L5.length = L.length:=(by rw [hS5.len,hS4.len,hln3]);exact ⟨((gn,cap),L5),rfl,⟨by rw [hS5.cs,hFc4,hS4.cs,hFc3,hTc3,hS3.es,hS2.es,hS1.es,hF2,hP1,hF1];exact (Qh4 hPN hFN hTN hcz0).symm,by simp only [];omega,hcm⟩,by simp only [];rw [hz5];exact hC.ent aEt⟩))
 try simp only [dN] at h4
 have hcz : (nth L f).cs.length = 0:=by have hq:=h4;omega
 refine aS ?_
 exact YR rfl (fun w' h'=>by first | exact ⟨((gn,cap),L3),rfl,⟨by rw [hS3.es,hS2.es,hS1.es,hF2,hP1,hF1];exact (Qia hPN hFN hTN hcz).symm,by simp only [];omega,hcm⟩,by simp only [];rw [hln3];exact h'.ent aEt⟩ | (obtain ⟨L5,hS5,hC⟩:=HS.cs_setB (gn:=gn) (cap:=cap) (ca:=(nth L4 f).ca) (cc:=(nth L4 f).cc) (cs:=Qt (nth L4 f).cs 0) hf4 h' aPk aPk aPk;have hz5 : L5.length = L.length:=(by rw [hS5.len,hS4.len,hln3]);exact ⟨((gn,cap),L5),rfl,⟨by rw [hS5.cs,hFc4,hS4.cs,hFc3,hTc3,hS3.es,hS2.es,hS1.es,hF2,hP1,hF1];exact (Qh4 hPN hFN hTN hcz0).symm,by simp only [];omega,hcm⟩,by simp only [];rw [hz5];exact hC.ent aEt⟩))
theorem Qh0 : tsl Tryz.prog 199 = some (77,1,24):=by kernel_rfl
theorem QqR : QT Tryz.prog 163 = true:=by kernel_rfl
theorem Qih : tsl Tryz.prog 200 = some (30,1,24):=by kernel_rfl
theorem QqE : QT Tryz.prog 164 = true:=by kernel_rfl
theorem c163 (w : World) (n : Nat) (hn : n ≤ 1000000) : Calls Tryz.prog 163 #[.slice none 0 0,.int .i64 (n : Int)] w fun en w'=>∃ g : Option Addr × Nat,en = .returned (.slice g.1 0 g.2) ∧ True ∧ HS w [] [.own (.slice g.1 0 g.2) 26 2 0 []] w':=by
 refine enter (args:=[_,_]) Tryz.func163 Tryz.ntmps163 rfl rfl (HS.refl w []) ?_
 refine Zf ?_
 refine Qd rfl (fun h1=>?_) fun h1=>?_
 ·try simp only [dT] at h1
  exfalso;first | omega | (simp at h1;done) | (simp_all;done)
 try simp only [dN] at h1
 refine aS6 ?_
 refine o_p (Qe3 rfl rfl Tryz.underlying77) rfl ?_
 refine aS3 ?_
 try refine oWr ?_
 refine aS ?_
 try refine oWr ?_
 refine Qm (show _ = Value.int .i64 (n : Int) from by first | rfl | (congr 1;omega)) ?_
 refine aS7 ?_
 refine Qd rfl (fun h2=>?_) fun h2=>?_
 ·try simp only [dT] at h2
  refine aS3 ?_
  refine o_p (Qe3 rfl rfl Tryz.underlying77) rfl ?_
  refine o_p (QX _ _ 0 0 rfl rfl QB rfl ⟨_,_,rfl,rfl⟩ (by omega) (by omega)) rfl ?_
  refine Qm (show _ = Value.slice none 0 0 from rfl) ?_
  refine aS ?_
  refine o_h (Y5 (m:=n) (olds:=[]) rfl rfl rfl QB Qd3 Xm rfl (by decide) (by omega) (by omega) (fun w h hne=>absurd rfl hne) rfl (by omega) (by simp only [maxLen];omega)) rfl (fun ⟨b3,c4⟩ ⟨h5,k6⟩=>?_)
  refine aS2 ?_
  refine o_p (QX _ _ 0 0 rfl rfl QB rfl ⟨_,_,rfl,rfl⟩ (by omega) (by omega)) rfl ?_
  refine Qm (show _ = Value.slice (some ⟨b3,0,none⟩) 0 c4 from by rw [Ys] <;> rfl) ?_
  refine aS7 ?_
  exact rT rfl rfl (fun w' h'=>by first | exact ⟨(some ⟨b3,0,none⟩,c4),rfl,trivial,(HS.to_own (n:=0) (xs:=[]) (ds:=YQ [.string (bs []),.string (bs [])] (n * 2)) aPk h' rfl rfl (by omega) (by omega)).ent aEt⟩ | exact ⟨(none,0),rfl,trivial,(h'.own_nil 26 2).ent aEt⟩)
 try simp only [dN] at h2
 refine aS6 ?_
 exact rT rfl rfl (fun w' h'=>by first | exact ⟨(some ⟨b3,0,none⟩,c4),rfl,trivial,(HS.to_own (n:=0) (xs:=[]) (ds:=YQ [.string (bs []),.string (bs [])] (n * 2)) aPk h' rfl rfl (by omega) (by omega)).ent aEt⟩ | exact ⟨(none,0),rfl,trivial,(h'.own_nil 26 2).ent aEt⟩)
theorem c153 (w : World) (a : Option Addr) (cap : Nat) (rs : List (RowV TEnt)) (hs : Vl w a (rs.map RowV.v)) (hr : ∀ r ∈ rs,Rw TEnt.vals 2 w [] r.a r.l) (hm : (rs.flatMap RowV.l).length ≤ 1000000) (hn : rs.length ≤ 1000) : Calls Tryz.prog 153 #[.slice a rs.length cap] w fun en w'=>∃ g : Option Addr × Nat,en = .returned (.slice g.1 (rs.flatMap RowV.l).length g.2) ∧ True ∧ HS w [] [.own (.slice g.1 (rs.flatMap RowV.l).length g.2) 26 2 (rs.flatMap RowV.l).length ((rs.flatMap RowV.l).flatMap TEnt.vals)] w':=by
 refine enter (args:=[_]) Tryz.func153 Tryz.ntmps153 rfl rfl (HS.refl w []) ?_
 iterate 16 refine aS ?_
 refine QN (α:=Nat) [3,5,11,12,13,14,15,16,17,18,19,20,21,22] (fun k=>[(11,.int .i64 (k : Int)),(3,.int .i64 ((((rs.take k).flatMap RowV.l).length : Nat) : Int))]) (fun _=>HS w [] []) (fun k=>k ≤ rs.length) (fun k=>rs.length - k) 0 (Nat.zero_le _) aSx (fun w h=>h.ent aEt) (fun k hk1=>?_)
 refine aS5 ?_
 refine Qd rfl (fun h1=>?_) fun h1=>?_
 ·try simp only [dT] at h1
  have hk : k < rs.length:=by omega
  have hst:=congrArg List.length (QdE hk)
  rw [List.length_append] at hst
  have hle:=QiZ rs (k + 1)
  refine aS5 ?_
  refine o_p (Qa rfl rfl rfl Qh0 (k) (by omega) (by omega) (hs.some (by rw [List.length_map];omega))) rfl ?_
  refine o_q (Qe rfl rfl Xb ((hs.rd (Qgg hk)))) rfl ?_
  refine aS8 ?_
  try refine oWr ?_
  refine Qm (show _ = Value.int .i64 ((((rs.take k).flatMap RowV.l).length + (rs.getD k default).l.length : Nat) : Int) from by congr 1) ?_
  refine aS7 ?_
  refine Qd rfl (fun h2=>?_) fun h2=>?_
  ·try simp only [dT] at h2
   exfalso;first | omega | (simp at h2;done) | (simp_all;done)
  try simp only [dN] at h2
  refine aS4 ?_
  try refine oWr ?_
  refine aS2 ?_
  exact QD (k + 1) (by omega) (by omega) (by rw [hst];exact aSx) (fun w h=>h.ent aEt)
 try simp only [dN] at h1
 obtain rfl : k = rs.length:=by omega
 rw [List.take_length]
 refine Qu rfl ?_
 refine aS3 ?_
 refine o_h (QP rfl QqR rfl (fun w1 h1=>c163 w1 (rs.flatMap RowV.l).length hm)) rfl (fun gg _=>?_)
 refine Zf ?_
 refine QN (α:=Nat × Option Addr × Nat) [6,8,27,28,29,30,31,32,33,34] (fun x=>[(27,.int .i64 (x.1 : Int)),(6,.slice x.2.1 ((rs.take x.1).flatMap RowV.l).length x.2.2)]) (fun x=>HS w [] [.own (.slice x.2.1 ((rs.take x.1).flatMap RowV.l).length x.2.2) 26 2 ((rs.take x.1).flatMap RowV.l).length (((rs.take x.1).flatMap RowV.l).flatMap TEnt.vals)]) (fun x=>x.1 ≤ rs.length) (fun x=>rs.length - x.1) (0,gg.1,gg.2) (Nat.zero_le _) aSx (fun w h=>h.ent aEt) (fun ⟨k,ga,gc⟩ hk1=>?_)
 dsimp only
 simp only [] at hk1
 refine aS5 ?_
 refine Qd rfl (fun h3=>?_) fun h3=>?_
 ·try simp only [dT] at h3
  have hk : k < rs.length:=by omega
  have hst:=QdE hk
  have hle:=QiZ rs (k + 1)
  rw [hst,List.length_append] at hle
  have hmem : rs.getD k default ∈ rs:=Qhp hk
  refine aS5 ?_
  refine o_p (Qa rfl rfl rfl Qh0 (k) (by omega) (by omega) (hs.some (by rw [List.length_map];omega))) rfl ?_
  refine o_q (Qe rfl rfl Xb ((hs.rd (Qgg hk)))) rfl ?_
  refine aS5 ?_
  refine o_h (QJ ((rs.getD k default).l.flatMap TEnt.vals) rfl rfl rfl QB Tryz.underlying77 Xm rfl aPk (fun w h=>Rw.src ev2 (hr _ hmem) h) (Qf ev2 _) (Xf ev1 _) (by omega) (by simp only [maxLen];omega)) rfl (fun b4 _=>?_)
  refine aS5 ?_
  try refine oWr ?_
  refine aS2 ?_
  exact QD (k + 1,b4.1,b4.2) (by (try simp only []);omega) (by (try simp only []);omega) (by dsimp only;rw [hst,List.length_append];exact aSx) (fun w h=>by dsimp only;rw [hst,List.length_append,Z3];exact h.ent aEt)
 try simp only [dN] at h3
 obtain rfl : k = rs.length:=by omega
 rw [List.take_length]
 refine Qu rfl ?_
 refine aS5 ?_
 exact rT rfl rfl (fun w' h'=>⟨(ga,gc),rfl,trivial,h'.ent aEt⟩)
theorem c164 (w : World) (n : Nat) (hn : n ≤ 1000000) : Calls Tryz.prog 164 #[.slice none 0 0,.int .i64 (n : Int)] w fun en w'=>∃ g : Option Addr × Nat,en = .returned (.slice g.1 0 g.2) ∧ True ∧ HS w [] [.own (.slice g.1 0 g.2) 3 1 0 []] w':=by
 refine enter (args:=[_,_]) Tryz.func164 Tryz.ntmps164 rfl rfl (HS.refl w []) ?_
 refine Zf ?_
 refine Qd rfl (fun h1=>?_) fun h1=>?_
 ·try simp only [dT] at h1
  exfalso;first | omega | (simp at h1;done) | (simp_all;done)
 try simp only [dN] at h1
 refine aS6 ?_
 refine o_p (Qe3 rfl rfl Tryz.underlying30) rfl ?_
 refine aS3 ?_
 try refine oWr ?_
 refine aS ?_
 try refine oWr ?_
 refine Qm (show _ = Value.int .i64 (n : Int) from by first | rfl | (congr 1;omega)) ?_
 refine aS7 ?_
 refine Qd rfl (fun h2=>?_) fun h2=>?_
 ·try simp only [dT] at h2
  refine aS3 ?_
  refine o_p (Qe3 rfl rfl Tryz.underlying30) rfl ?_
  refine o_p (QX _ _ 0 0 rfl rfl Qv rfl ⟨_,_,rfl,rfl⟩ (by omega) (by omega)) rfl ?_
  refine Qm (show _ = Value.slice none 0 0 from rfl) ?_
  refine aS ?_
  refine o_h (Y5 (m:=n) (olds:=[]) rfl rfl rfl Qv Qd3 X8 rfl (by decide) (by omega) (by omega) (fun w h hne=>absurd rfl hne) rfl (by omega) (by simp only [maxLen];omega)) rfl (fun ⟨b3,c4⟩ ⟨h5,k6⟩=>?_)
  refine aS2 ?_
  refine o_p (QX _ _ 0 0 rfl rfl Qv rfl ⟨_,_,rfl,rfl⟩ (by omega) (by omega)) rfl ?_
  refine Qm (show _ = Value.slice (some ⟨b3,0,none⟩) 0 c4 from by rw [Ys] <;> rfl) ?_
  refine aS7 ?_
  exact rT rfl rfl (fun w' h'=>by first | exact ⟨(some ⟨b3,0,none⟩,c4),rfl,trivial,(HS.to_own (n:=0) (xs:=[]) (ds:=YQ [.int .i64 0] (n * 1)) aPk h' rfl rfl (by omega) (by omega)).ent aEt⟩ | exact ⟨(none,0),rfl,trivial,(h'.own_nil 3 1).ent aEt⟩)
 try simp only [dN] at h2
 refine aS6 ?_
 exact rT rfl rfl (fun w' h'=>by first | exact ⟨(some ⟨b3,0,none⟩,c4),rfl,trivial,(HS.to_own (n:=0) (xs:=[]) (ds:=YQ [.int .i64 0] (n * 1)) aPk h' rfl rfl (by omega) (by omega)).ent aEt⟩ | exact ⟨(none,0),rfl,trivial,(h'.own_nil 3 1).ent aEt⟩)
theorem c154 (w : World) (a : Option Addr) (cap : Nat) (rs : List (RowV Int)) (hs : Vl w a (rs.map RowV.v)) (hr : ∀ r ∈ rs,Rw inV 1 w [] r.a r.l) (hm : (rs.flatMap RowV.l).length ≤ 1000000) (hn : rs.length ≤ 1000) : Calls Tryz.prog 154 #[.slice a rs.length cap] w fun en w'=>∃ g : Option Addr × Nat,en = .returned (.slice g.1 (rs.flatMap RowV.l).length g.2) ∧ True ∧ HS w [] [.own (.slice g.1 (rs.flatMap RowV.l).length g.2) 3 1 (rs.flatMap RowV.l).length ((rs.flatMap RowV.l).flatMap inV)] w':=by
 refine enter (args:=[_]) Tryz.func154 Tryz.ntmps154 rfl rfl (HS.refl w []) ?_
 iterate 16 refine aS ?_
 refine QN (α:=Nat) [3,5,11,12,13,14,15,16,17,18,19,20,21,22] (fun k=>[(11,.int .i64 (k : Int)),(3,.int .i64 ((((rs.take k).flatMap RowV.l).length : Nat) : Int))]) (fun _=>HS w [] []) (fun k=>k ≤ rs.length) (fun k=>rs.length - k) 0 (Nat.zero_le _) aSx (fun w h=>h.ent aEt) (fun k hk1=>?_)
 refine aS5 ?_
 refine Qd rfl (fun h1=>?_) fun h1=>?_
 ·try simp only [dT] at h1
  have hk : k < rs.length:=by omega
  have hst:=congrArg List.length (QdE hk)
  rw [List.length_append] at hst
  have hle:=QiZ rs (k + 1)
  refine aS5 ?_
  refine o_p (Qa rfl rfl rfl Qih (k) (by omega) (by omega) (hs.some (by rw [List.length_map];omega))) rfl ?_
  refine o_q (Qe rfl rfl Q8 ((hs.rd (Qgg hk)))) rfl ?_
  refine aS8 ?_
  try refine oWr ?_
  refine Qm (show _ = Value.int .i64 ((((rs.take k).flatMap RowV.l).length + (rs.getD k default).l.length : Nat) : Int) from by congr 1) ?_
  refine aS7 ?_
  refine Qd rfl (fun h2=>?_) fun h2=>?_
  ·try simp only [dT] at h2
   exfalso;first | omega | (simp at h2;done) | (simp_all;done)
  try simp only [dN] at h2
  refine aS4 ?_
  try refine oWr ?_
  refine aS2 ?_
  exact QD (k + 1) (by omega) (by omega) (by rw [hst];exact aSx) (fun w h=>h.ent aEt)
 try simp only [dN] at h1
 obtain rfl : k = rs.length:=by omega
 rw [List.take_length]
 refine Qu rfl ?_
 refine aS3 ?_
 refine o_h (QP rfl QqE rfl (fun w1 h1=>c164 w1 (rs.flatMap RowV.l).length hm)) rfl (fun gg _=>?_)
 refine Zf ?_
 refine QN (α:=Nat × Option Addr × Nat) [6,8,27,28,29,30,31,32,33,34] (fun x=>[(27,.int .i64 (x.1 : Int)),(6,.slice x.2.1 ((rs.take x.1).flatMap RowV.l).length x.2.2)]) (fun x=>HS w [] [.own (.slice x.2.1 ((rs.take x.1).flatMap RowV.l).length x.2.2) 3 1 ((rs.take x.1).flatMap RowV.l).length (((rs.take x.1).flatMap RowV.l).flatMap inV)]) (fun x=>x.1 ≤ rs.length) (fun x=>rs.length - x.1) (0,gg.1,gg.2) (Nat.zero_le _) aSx (fun w h=>h.ent aEt) (fun ⟨k,ga,gc⟩ hk1=>?_)
 dsimp only
 simp only [] at hk1
 refine aS5 ?_
 refine Qd rfl (fun h3=>?_) fun h3=>?_
 ·try simp only [dT] at h3
  have hk : k < rs.length:=by omega
  have hst:=QdE hk
  have hle:=QiZ rs (k + 1)
  rw [hst,List.length_append] at hle
  have hmem : rs.getD k default ∈ rs:=Qhp hk
  refine aS5 ?_
  refine o_p (Qa rfl rfl rfl Qih (k) (by omega) (by omega) (hs.some (by rw [List.length_map];omega))) rfl ?_
  refine o_q (Qe rfl rfl Q8 ((hs.rd (Qgg hk)))) rfl ?_
  refine aS5 ?_
  refine o_h (QJ ((rs.getD k default).l.flatMap inV) rfl rfl rfl Qv Tryz.underlying30 X8 rfl aPk (fun w h=>Rw.src iv1 (hr _ hmem) h) (Qf iv1 _) (Xf QbX _) (by omega) (by simp only [maxLen];omega)) rfl (fun b4 _=>?_)
  refine aS5 ?_
  try refine oWr ?_
  refine aS2 ?_
  exact QD (k + 1,b4.1,b4.2) (by (try simp only []);omega) (by (try simp only []);omega) (by dsimp only;rw [hst,List.length_append];exact aSx) (fun w h=>by dsimp only;rw [hst,List.length_append,Z3];exact h.ent aEt)
 try simp only [dN] at h3
 obtain rfl : k = rs.length:=by omega
 rw [List.take_length]
 refine Qu rfl ?_
 refine aS5 ?_
 exact rT rfl rfl (fun w' h'=>⟨(ga,gc),rfl,trivial,h'.ent aEt⟩)
theorem QpI : QT Tryz.prog 153 = true:=by kernel_rfl
theorem Qpg : X5 Tryz.prog 77 = some [.slice none 0 0]:=by kernel_rfl
theorem Qqy : QT Tryz.prog 154 = true:=by kernel_rfl
theorem QoR : X5 Tryz.prog 30 = some [.slice none 0 0]:=by kernel_rfl
set_option maxHeartbeats 1000000 in
theorem c144 (w : World) (bt : Nat) (j : Nat) (mo rm : Int) (gn cap : Nat) (L : List LNd) (p k f t : Nat) (hw : HS w (fps [.blk bt 112 6 (tbV (j : Int) mo rm (some ⟨gn,0,none⟩) (L).length cap),.blk gn 102 (cap * 3) ((L).flatMap LNd.vals),.star ((L).map (Qk 26))]) [.blk bt 112 6 (tbV (j : Int) mo rm (some ⟨gn,0,none⟩) (L).length cap),.blk gn 102 (cap * 3) ((L).flatMap LNd.vals),.star ((L).map (Qk 26))] w) (hnc : L.length ≤ cap) (hcm : cap ≤ maxLen) (hok : MrgOk (pln L) p k f t) (hcf : (nth (pln L) p).cs.getD (k + 1) 0 = (f : Int)) (hct : (nth (pln L) p).cs.getD k 0 = (t : Int)) : Calls Tryz.prog 144 #[.pointer (some ⟨bt,0,none⟩),.int .i64 (p : Int),.int .i64 (k : Int)] w fun en w'=>∃ g : (Nat × Nat) × List LNd,en = .returned (.tuple #[]) ∧ (pln g.2 = Qcv (pln L) p k t f ∧ g.2.length ≤ g.1.2 ∧ g.1.2 ≤ maxLen) ∧ HS w (fps [.blk bt 112 6 (tbV (j : Int) mo rm (some ⟨gn,0,none⟩) (L).length cap),.blk gn 102 (cap * 3) ((L).flatMap LNd.vals),.star ((L).map (Qk 26))]) [.blk bt 112 6 (tbV (j : Int) mo rm (some ⟨g.1.1,0,none⟩) (g.2).length g.1.2),.blk g.1.1 102 (g.1.2 * 3) ((g.2).flatMap LNd.vals),.star ((g.2).map (Qk 26))] w':=by
 have hpl:=hok.pl
 have hfl:=hok.fl
 have htl:=hok.tl
 have hln:=hok.len
 rw [Qc] at hpl hfl htl hln
 have hPN:=Qh hpl
 have hFN:=Qh hfl
 have hTN:=Qh htl
 have hke:=hok.ke
 have hkc:=hok.kc
 have hpf:=hok.pf
 have hpt:=hok.pt
 have hft:=hok.ft
 have hsp:=hok.sm p
 have hsf:=hok.sm f
 have hst:=hok.sm t
 rw [hPN] at hke hkc hcf hct hsp
 rw [hFN] at hsf
 rw [hTN] at hst
 simp only [LNd.pl] at hke hkc hcf hct hsp hsf hst
 refine enter (args:=[_,_,_]) Tryz.func144 Tryz.ntmps144 rfl rfl hw ?_
 refine aS3 ?_
 refine QU (fun w h=>HS.cs_some hpl (by omega) h aPk) fun hgc=>?_
 obtain ⟨gc9,hgc⟩:=hgc
 refine QU (fun w h=>HS.es_some hpl (by omega) h aPk) fun hge=>?_
 obtain ⟨gp9,hge⟩:=hge
 refine aS5 ?_
 refine o_p (Qa rfl rfl rfl Qp (p) (by omega) (by omega) rfl) rfl ?_
 refine Qm (show _ = Value.pointer (some ⟨gn,p * 3,none⟩) from by rw [Nat.zero_add]) ?_
 refine aS7 ?_
 refine o_q (Qg rfl rfl Q8 (fun w h=>HS.nd_cell hpl h aPk 2 rfl (by decide))) rfl ?_
 refine aS2 ?_
 try refine oWr ?_
 refine o_p (Qa rfl rfl rfl Qv (k + 1) (by omega) (by omega) hgc) rfl ?_
 refine o_q (Qg rfl rfl Xq (fun w h=>HS.cs_rd hpl (by omega) hgc h aPk)) rfl ?_
 refine Qm (show _ = Value.int .i64 (f : Int) from by rw [hcf]) ?_
 refine aS3 ?_
 refine QE [] QH ?_
 refine dP 0 ?_
 refine dP 1 ?_
 refine dFa 2 ?_
 refine dFa 3 ?_
 refine dLd 4 [] ?_
 refine dP 5 ?_
 refine dP 6 ?_
 refine dFa 7 ?_
 refine dQ 8 [] rfl (Qg rfl rfl Q8 (fun w h=>HS.nd_cell hpl h aPk 2 rfl (by decide))) ?_
 refine dP 9 ?_
 refine dV 10 rfl (Qa rfl rfl rfl Qv (k) (by omega) (by omega) hgc) ?_
 refine dQ 11 [] rfl (Qg rfl rfl Xq (fun w h=>HS.cs_rd hpl (by omega) hgc h aPk)) ?_
 refine Ql (show _ = Value.int .i64 (t : Int) from by rw [hct]) ?_
 refine dV 12 rfl (Qa rfl rfl rfl Qp (t) (by omega) (by omega) rfl) ?_
 refine Ql (show _ = Value.pointer (some ⟨gn,t * 3,none⟩) from by rw [Nat.zero_add]) ?_
 refine dP 13 ?_
 refine dP 14 ?_
 refine dFa 15 ?_
 refine dFa 16 ?_
 refine dLd 17 [] ?_
 refine dP 18 ?_
 refine dV 19 rfl (Qa rfl rfl rfl Qp (f) (by omega) (by omega) rfl) ?_
 refine Ql (show _ = Value.pointer (some ⟨gn,f * 3,none⟩) from by rw [Nat.zero_add]) ?_
 refine dP 20 ?_
 refine dP 21 ?_
 refine dNi ?_
 refine aS ?_
 refine Qj (L':=[(0,_),(2,_),(6,_),(7,_),(8,_),(9,_)]) aSx (fun _ h=>h) ?_
 refine QE [21] QH ?_
 refine dP 0 ?_
 refine dP 1 ?_
 refine dP 2 ?_
 refine dFa 3 ?_
 refine dQ 4 [[]] rfl (Qg rfl rfl Xb (fun w h=>HS.nd_cell htl h aPk 1 rfl (by decide))) ?_
 refine dP 5 ?_
 refine dP 6 ?_
 refine dFa 7 ?_
 refine dQ 8 [[]] rfl (Qg rfl rfl Xb (fun w h=>HS.nd_cell hpl h aPk 1 rfl (by decide))) ?_
 refine dP 9 ?_
 refine dV 10 rfl (Qa rfl rfl rfl QB (k) (by omega) (by omega) hge) ?_
 refine dQ 11 [[]] rfl (QK _ rfl rfl XC rfl (fun w h=>HS.es_rd hpl (by omega) hge h aPk)) ?_
 refine dP 13 ?_
 refine dP 14 ?_
 refine dFa 15 ?_
 refine dQ 16 [[]] rfl (Qg rfl rfl Xb (fun w h=>HS.nd_cell hfl h aPk 1 rfl (by decide))) ?_
 refine dH 12 rfl (Qr (cs:=[_,_]) rfl rfl QB Xm rfl rfl rfl) (fun b1 _=>?_)
 refine dBa ?_
 refine dH 17 rfl (Qr (cs:=[_,_,_]) rfl rfl Qh0 Qpg rfl rfl rfl) (fun b2 _=>?_)
 refine dBa ?_
 refine dH 18 rfl (QP rfl QpI rfl (fun w1 h1=>c153 w1 (some ⟨b2,0,none⟩) 3 [(⟨(nth L t).ea,(nth L t).ec,(nth L t).es⟩ : RowV TEnt),⟨some ⟨b1,0,none⟩,1,[(nth (nth L p).es k)]⟩,⟨(nth L f).ea,(nth L f).ec,(nth L f).es⟩] (h1.vl_blk aPk) (by intro r hr;simp only [List.mem_cons,List.mem_nil_iff,or_false] at hr;rcases hr with rfl | rfl | rfl;exact HS.es_row htl h1 aPk;exact h1.rw_blk (l:=[(nth (nth L p).es k)]) ev2 (b:=b1) (t:=26) (tot:=2) aPk;exact HS.es_row hfl h1 aPk) (by rw [cat3];simp only [List.length_append,List.length_singleton];omega) (by simp))) (fun b3 _=>?_)
 refine dBa ?_
 refine dP 19 ?_
 refine dFa 20 ?_
 refine dSt 21 ?_ (hl:=(by rw [Qf nv3];show _ + 1 ≤ _;omega))
 refine dTu [] ?_
 refine dNi ?_
 refine aS ?_
 refine ZV (fun w h=>HS.es_set (gn:=gn) (cap:=cap) (ea:=b3.1) (ec:=b3.2) (es:=([(⟨(nth L t).ea,(nth L t).ec,(nth L t).es⟩ : RowV TEnt),⟨some ⟨b1,0,none⟩,1,[(nth (nth L p).es k)]⟩,⟨(nth L f).ea,(nth L f).ec,(nth L f).es⟩]).flatMap RowV.l) htl h aPk aPk aPk) fun L1=>?_
 refine QV (fun w h=>h.1) fun hS1=>?_
 refine Xd (fun w h=>h.2) ?_
 have hp1 : p < L1.length:=by rw [hS1.len];exact hpl
 have hf1 : f < L1.length:=by rw [hS1.len];exact hfl
 have ht1 : t < L1.length:=by rw [hS1.len];exact htl
 have hP1 : nth L1 p = nth L p:=hS1.other hpl (Ne.symm hpt)
 have hF1 : nth L1 f = nth L f:=hS1.other hfl (Ne.symm hft)
 have hT1:=hS1.at_
 have hTc1 : (nth L1 t).cs = (nth L t).cs:=by rw [hT1]
 have hTl1 : (nth L1 t).cs.length = (nth L t).cs.length:=by rw [hTc1]
 have hFl1 : (nth L1 f).cs.length = (nth L f).cs.length:=by rw [hF1]
 refine QE [13] QH ?_
 refine dP 0 ?_
 refine dP 1 ?_
 refine dP 2 ?_
 refine dFa 3 ?_
 refine dQ 4 [[]] rfl (Qg rfl rfl Q8 (fun w h=>HS.nd_cell ht1 h aPk 2 rfl (by decide))) ?_
 refine dP 5 ?_
 refine dP 6 ?_
 refine dFa 7 ?_
 refine dQ 8 [[]] rfl (Qg rfl rfl Q8 (fun w h=>HS.nd_cell hf1 h aPk 2 rfl (by decide))) ?_
 refine dH 9 rfl (Qr (cs:=[_,_]) rfl rfl Qih QoR rfl rfl rfl) (fun b4 _=>?_)
 refine dBa ?_
 refine dH 10 rfl (QP rfl Qqy rfl (fun w1 h1=>c154 w1 (some ⟨b4,0,none⟩) 2 [(⟨(nth L1 t).ca,(nth L1 t).cc,(nth L1 t).cs⟩ : RowV Int),⟨(nth L1 f).ca,(nth L1 f).cc,(nth L1 f).cs⟩] (h1.vl_blk aPk) (by intro r hr;simp only [List.mem_cons,List.mem_nil_iff,or_false] at hr;rcases hr with rfl | rfl;exact HS.cs_row ht1 h1 aPk;exact HS.cs_row hf1 h1 aPk) (by rw [cat2];simp only [List.length_append];omega) (by simp))) (fun b5 _=>?_)
 refine dBa ?_
 refine dP 11 ?_
 refine dFa 12 ?_
 refine dSt 13 ?_ (hl:=(by rw [Qf nv3];show _ + 1 ≤ _;omega))
 refine dTu [] ?_
 refine dNi ?_
 refine aS ?_
 refine Qj (L':=[(0,_),(2,_),(6,_),(7,_)]) aSx (fun _ h=>h) ?_
 refine aS2 ?_
 refine Y1 (fun w h=>HS.cs_set (gn:=gn) (cap:=cap) (ca:=b5.1) (cc:=b5.2) (cs:=([(⟨(nth L1 t).ca,(nth L1 t).cc,(nth L1 t).cs⟩ : RowV Int),⟨(nth L1 f).ca,(nth L1 f).cc,(nth L1 f).cs⟩]).flatMap RowV.l) ht1 h aPk aPk aPk) fun L2=>?_
 refine QU (fun w h=>h.1) fun hS2=>?_
 refine QZ (fun w h=>h.2) ?_
 have hp2 : p < L2.length:=by rw [hS2.len];exact hp1
 have hf2 : f < L2.length:=by rw [hS2.len];exact hf1
 have hP2 : nth L2 p = nth L p:=by rw [hS2.other hp1 (Ne.symm hpt),hP1]
 have hPl2 : (nth L2 p).es.length = (nth L p).es.length:=by rw [hP2]
 refine QZ (fun w h=>HS.es_take hp2 h aPk) ?_
 refine aS3 ?_
 refine o_q (Qg rfl rfl Xb (fun w h=>HS.nd_cell hp2 h aPk 1 rfl (by decide))) rfl ?_
 refine aS3 ?_
 try refine oWr ?_
 refine o_h (Q7 (Cs:=[.own (.slice ((nth L2 p)).ea ((nth L2 p)).es.length ((nth L2 p)).ec) 26 2 ((nth L2 p)).es.length (((nth L2 p)).es.flatMap TEnt.vals)]) rfl Qh8 rfl aPs (fun w1 h1 hf9=>QmS w1 (nth L2 p).ea k (nth L2 p).ec (nth L2 p).es hf9 (by omega) (by omega))) rfl (fun _ _=>?_)
 refine aS2 ?_
 refine YE (Q9 rfl rfl rfl Xb rfl aPt (by rw [Qf nv3];show _ + 1 ≤ _;omega) rfl) (fun _ _=>?_)
 refine aS4 ?_
 refine Y1 (fun w h=>HS.es_setB (gn:=gn) (cap:=cap) (ea:=(nth L2 p).ea) (ec:=(nth L2 p).ec) (es:=Qt (nth L2 p).es k) hp2 h aPk aPk aPk) fun L3=>?_
 refine QU (fun w h=>h.1) fun hS3=>?_
 refine QZ (fun w h=>h.2) ?_
 have hp3 : p < L3.length:=by rw [hS3.len];exact hp2
 have hf3 : f < L3.length:=by rw [hS3.len];exact hf2
 have hPc3 : (nth L3 p).cs = (nth L p).cs:=by rw [hS3.at_,hP2]
 have hPl3 : (nth L3 p).cs.length = (nth L p).cs.length:=by rw [hPc3]
 refine QZ (fun w h=>HS.cs_take hp3 h aPk) ?_
 refine aS3 ?_
 refine o_q (Qg rfl rfl Q8 (fun w h=>HS.nd_cell hp3 h aPk 2 rfl (by decide))) rfl ?_
 refine aS2 ?_
 try refine oWr ?_
 refine aS2 ?_
 try refine oWr ?_
 refine Qm (show _ = Value.int .i64 (((k + 1 : Nat) : Int) + 1) from by congr 1) ?_
 refine o_h (Q7 (Cs:=[.own (.slice ((nth L3 p)).ca ((nth L3 p)).cs.length ((nth L3 p)).cc) 3 1 ((nth L3 p)).cs.length (((nth L3 p)).cs.flatMap inV)]) rfl QlC rfl aPs (fun w1 h1 hf9=>Qpj w1 (nth L3 p).ca (k + 1) (nth L3 p).cc (nth L3 p).cs hf9 (by omega) (by omega))) rfl (fun _ _=>?_)
 refine aS2 ?_
 refine YE (Q9 rfl rfl rfl Q8 rfl aPt (by rw [Qf nv3];show _ + 1 ≤ _;omega) rfl) (fun _ _=>?_)
 refine aS3 ?_
 refine Y1 (fun w h=>HS.cs_setB (gn:=gn) (cap:=cap) (ca:=(nth L3 p).ca) (cc:=(nth L3 p).cc) (cs:=Qt (nth L3 p).cs (k + 1)) hp3 h aPk aPk aPk) fun L4=>?_
 refine QU (fun w h=>h.1) fun hS4=>?_
 refine QZ (fun w h=>h.2) ?_
 have hf4 : f < L4.length:=by rw [hS4.len];exact hf3
 have hl4 : L4.length = L.length:=by rw [hS4.len,hS3.len,hS2.len,hS1.len]
 refine aS5 ?_
 refine o_p (Xr (cs:=[_,_,_]) rfl rfl Z8 Xa rfl) rfl ?_
 refine o_p (Qa rfl rfl rfl Qp (f) (by omega) (by omega) rfl) rfl ?_
 refine Qm (show _ = Value.pointer (some ⟨gn,f * 3,none⟩) from by rw [Nat.zero_add]) ?_
 refine YE (Q9 rfl rfl rfl Xh rfl aPt (by rw [Qf nv3];show _ + 3 ≤ _;omega) rfl) (fun _ _=>?_)
 refine aS ?_
 exact YR rfl (fun w' h'=>by obtain ⟨L5,hS5,hC⟩:=HS.node_gone (i:=f) (gn:=gn) (cap:=cap) hf4 h' aPk aPk;have hz5 : L5.length = L.length:=(by rw [hS5.len,hl4]);exact ⟨((gn,cap),L5),rfl,⟨by rw [hS5.pl,hS4.cs,hS3.es,hS2.cs,hS1.es,hPc3,hP2,cat3,cat2,hTc1,hF1];unfold Qcv;rw [hPN,hFN,hTN];rfl,by simp only [];omega,hcm⟩,by simp only [];rw [hz5];exact hC.ent aEt⟩)
theorem Qm9 : QT Tryz.prog 142 = true:=by kernel_rfl
theorem Qng : QT Tryz.prog 143 = true:=by kernel_rfl
theorem Qmi : QT Tryz.prog 144 = true:=by kernel_rfl
theorem c142 (w : World) (b6 b2 : Nat) (bt : Nat) (j : Nat) (mo rm : Int) (a : Option Addr) (cap : Nat) (L : List LNd) (p k : Nat) (x : Int) (h6 : Rd w [] b6 0 (.slice (nth L p).ca (nth L p).cs.length (nth L p).cc)) (h2 : Rd w [] b2 0 (.pointer (some ⟨bt,0,none⟩))) (ht : TbR w [] bt (j : Int) mo rm a L.length cap) (hs : Nt w [] a L) (hok : FilOk mo (pln L) p k) : Calls Tryz.prog 142 #[.int .i64 x,.pointer (some ⟨b6,0,none⟩),.pointer (some ⟨b2,0,none⟩)] w fun en w'=>en = .returned (.bool (Ye mo (pln L) p x)) ∧ Below w.heap.size w w':=by
 have hpl:=hok.pl
 rw [Qc] at hpl
 have hPN:=Qh hpl
 have hmo:=hok.mo0
 have hsm:=(hok.sm p).2
 rw [hPN] at hsm
 simp only [LNd.pl] at hsm
 refine enter (args:=[_,_,_]) Tryz.func142 Tryz.ntmps142 rfl rfl (HS.refl w []) ?_
 refine aS5 ?_
 refine QE [] QH ?_
 refine dP 0 ?_
 refine dQ 1 [] rfl (Qe rfl rfl Q8 (h6)) ?_
 refine dV 2 rfl (QQ rfl rfl Tryz.underlying30) ?_
 refine dP 3 ?_
 try refine dWr ?_
 refine dQ 4 [] rfl (Qi rfl Qdm rfl (fun w1 h1=>c93 w1 _ _ _)) ?_
 refine dP 5 ?_
 apply Xy 10
 ·exact rfl
 ·intro hg1
  have hs2:=hg1;try simp only [Bool.and_eq_true,decide_eq_true_eq] at hs2
  refine dQo 6 10 [] hg1 rfl rfl rfl (Qe rfl rfl Yd (h2)) ?_
  have hq:=hg1
  simp only [Bool.and_eq_true,decide_eq_true_eq] at hq
  have hxl : x.toNat < (nth L p).cs.length:=by omega
  have hkd:=hok.kd (x:=x.toNat) (by rw [hPN];exact hxl)
  rw [hPN] at hkd
  simp only [LNd.pl] at hkd
  have hkl:=(hok.kid x.toNat (by rw [hPN];exact hxl)).2.1
  rw [Qc] at hkl
  refine dPo 7 10 hg1 ?_
  refine dFo 8 10 hg1 ?_
  refine dFo 9 10 hg1 ?_
  refine dQo 10 10 [] hg1 rfl rfl rfl (Qe rfl rfl YD (ht 3 _ rfl)) ?_
  refine dQo 11 10 [] hg1 rfl rfl rfl (Qe rfl rfl Q8 (h6)) ?_
  refine dPo 12 10 hg1 ?_
  refine dVo 13 10 hg1 rfl rfl rfl (Qa rfl rfl rfl Qv (x.toNat) (by omega) (by omega) (Rw.some (hs.cs hpl) (by omega))) ?_
  refine dQo 14 10 [] hg1 rfl rfl rfl (Qe rfl rfl Xq (((hs.cs hpl).rdj 0 hxl rfl))) ?_
  refine Ql (show _ = Value.int .i64 ((kdN (pln L) p x.toNat) : Int) from congrArg (Value.int .i64) hkd) ?_
  refine dVo 15 10 hg1 rfl rfl rfl (Qa rfl rfl rfl Qp ((kdN (pln L) p x.toNat)) (by omega) (by omega) (Rw.some hs.1 (by omega))) ?_
  refine dFo 16 10 hg1 ?_
  refine dQo 17 10 [] hg1 rfl rfl rfl (Qe rfl rfl Xb ((hs.1.rdj 1 hkl rfl))) ?_
  refine dVo 18 10 hg1 rfl rfl rfl (QQ rfl rfl Tryz.underlying77) ?_
  refine dQo 19 10 [] hg1 rfl rfl rfl (Qe rfl rfl Yd (h2)) ?_
  refine dQo 20 10 [] hg1 rfl rfl rfl (Qi rfl QhY rfl (fun w1 h1=>Qqr w1 bt j mo rm a L.length cap hmo (ht.next h1))) ?_
  refine dPo 21 10 hg1 ?_
  refine dV 22 rfl (Qw rfl rfl hg1 rfl) ?_
  refine Ql (show _ = Value.bool (Ye mo (pln L) p x) from by congr 1;first | (have h9:=QdX (mo:=mo) hPN hq;rw [Qh hkl] at h9;exact h9.symm) | exact (Qec hPN hg1).symm) ?_
  refine dP 23 ?_
  refine dNi ?_
  exact rT rfl rfl (fun w' h'=>⟨rfl,h'.below⟩)
 intro hg3
 have hs4:=hg3;try simp only [Bool.and_eq_false_iff,decide_eq_false_iff_not] at hs4
 refine dOf 6 10 hg3 ?_
 refine dOf 7 10 hg3 ?_
 refine dOf 8 10 hg3 ?_
 refine dOf 9 10 hg3 ?_
 refine dOf 10 10 hg3 ?_
 refine dOf 11 10 hg3 ?_
 refine dOf 12 10 hg3 ?_
 refine dOf 13 10 hg3 ?_
 refine dOf 14 10 hg3 ?_
 refine dOf 15 10 hg3 ?_
 refine dOf 16 10 hg3 ?_
 refine dOf 17 10 hg3 ?_
 refine dOf 18 10 hg3 ?_
 refine dOf 19 10 hg3 ?_
 refine dOf 20 10 hg3 ?_
 refine dOf 21 10 hg3 ?_
 refine dV 22 rfl (Qs rfl rfl hg3 rfl) ?_
 refine Ql (show _ = Value.bool (Ye mo (pln L) p x) from by congr 1;first | (have h9:=QdX (mo:=mo) hPN hq;rw [Qh hkl] at h9;exact h9.symm) | exact (Qec hPN hg3).symm) ?_
 refine dP 23 ?_
 refine dNi ?_
 exact rT rfl rfl (fun w' h'=>⟨rfl,h'.below⟩)
set_option maxHeartbeats 1000000 in
theorem c106 (w : World) (bt : Nat) (j : Nat) (mo rm : Int) (gn cap : Nat) (L : List LNd) (i p k : Nat) (hw : HS w (fps [.blk bt 112 6 (tbV (j : Int) mo rm (some ⟨gn,0,none⟩) (L).length cap),.blk gn 102 (cap * 3) ((L).flatMap LNd.vals),.star ((L).map (Qk 26))]) [.blk bt 112 6 (tbV (j : Int) mo rm (some ⟨gn,0,none⟩) (L).length cap),.blk gn 102 (cap * 3) ((L).flatMap LNd.vals),.star ((L).map (Qk 26))] w) (hnc : L.length ≤ cap) (hcm : cap ≤ maxLen) (hpar : Xi (i : Int) (pln L) 0 = (p,k)) (hok : FilOk mo (pln L) p k) : Calls Tryz.prog 106 #[.pointer (some ⟨bt,0,none⟩),.int .i64 (i : Int)] w fun en w'=>∃ g : (Nat × Nat) × List LNd,en = .returned (.tuple #[]) ∧ (pln g.2 = Yc mo (pln L) p k ∧ g.2.length ≤ g.1.2 ∧ g.1.2 ≤ maxLen) ∧ HS w (fps [.blk bt 112 6 (tbV (j : Int) mo rm (some ⟨gn,0,none⟩) (L).length cap),.blk gn 102 (cap * 3) ((L).flatMap LNd.vals),.star ((L).map (Qk 26))]) [.blk bt 112 6 (tbV (j : Int) mo rm (some ⟨g.1.1,0,none⟩) (g.2).length g.1.2),.blk g.1.1 102 (g.1.2 * 3) ((g.2).flatMap LNd.vals),.star ((g.2).map (Qk 26))] w':=by
 have hpl:=hok.pl
 have hln:=hok.len
 rw [Qc] at hpl hln
 have hPN:=Qh hpl
 have hmo:=hok.mo0
 have hkl:=hok.kl
 have hsh:=hok.sh
 have hkl2:=hkl
 rw [hPN] at hkl2
 have hs9:=(hok.sm p).2
 rw [hPN] at hs9
 simp only [LNd.pl] at hkl2 hs9
 refine enter (args:=[_,_]) Tryz.func106 Tryz.ntmps106 rfl rfl hw ?_
 refine aS2 ?_
 refine oBx fun b1 _=>?_
 refine aS5 ?_
 refine o_q (Qi rfl QlT rfl (fun w1 h1=>by have h9:=c141 w1 bt j mo rm (some ⟨gn,0,none⟩) cap L i (HS.tbr h1 aPk) (HS.nt_at h1 aPk aPk) (by omega) (fun k9 hk=>by have:=(hok.sm k9).2;rw [Qh hk] at this;exact Nat.le_trans this (by decide));rw [hpar] at h9;exact h9)) rfl ?_
 dsimp only
 iterate 14 refine aS ?_
 refine o_p (Qa rfl rfl rfl Qp (p) (by omega) (by omega) rfl) rfl ?_
 refine Qm (show _ = Value.pointer (some ⟨gn,p * 3,none⟩) from by rw [Nat.zero_add]) ?_
 refine aS ?_
 refine o_q (Qg rfl rfl Q8 (fun w h=>HS.nd_cell hpl h aPk 2 rfl (by decide))) rfl ?_
 refine oAl (fun b2 _=>?_) QoR
 refine oSt ?_
 refine Zp ?_
 try refine oWr ?_
 refine o_q (Yb rfl rfl Qm9 rfl (fun w1 h1=>c142 w1 b2 b1 bt j mo rm (some ⟨gn,0,none⟩) cap L p k ((k : Int) - 1) (h1.rd_blk (Mc:=[]) aPk rfl (by simp)) (h1.rd_blk (Mc:=[]) aPk rfl (by simp)) (HS.tbr h1 aPk) (HS.nt_at h1 aPk aPk) hok)) rfl ?_
 refine aS2 ?_
 refine Qd rfl (fun h3=>?_) fun h3=>?_
 ·skip
  have hr0 : (Ye mo (pln L) p ((k : Int) - 1)) = true:=h3
  obtain ⟨hr1,hr2,hr3⟩:=Qjq hr0
  obtain ⟨k1,rfl⟩ : ∃ k1,k = k1 + 1:=⟨k - 1,by omega⟩
  rw [show (((k1 + 1 : Nat) : Int) - 1).toNat = k1 by omega] at hr3
  have hfe : 0 < (nth (pln L) (kdN (pln L) p k1)).es.length:=by omega
  refine aS4 ?_
  refine o_h (Q7 (Cs:=[.blk bt 112 6 (tbV (j : Int) mo rm (some ⟨gn,0,none⟩) (L).length cap),.blk gn 102 (cap * 3) ((L).flatMap LNd.vals),.star ((L).map (Qk 26))]) rfl Qng rfl aPs (fun w1 h1 hf=>Qrf w1 bt j mo rm gn cap L p (k1) (kdN (pln L) p (k1)) (kdN (pln L) p (k1 + 1)) hf hnc hcm (hok.giv (x:=k1) (y:=k1 + 1) (e:=k1) (by omega) (by omega) (by omega) (by omega) hfe) (hok.kd (by omega)) (hok.kd (by omega)))) rfl (fun ⟨⟨g5,c5⟩,L5⟩ hF5=>?_)
  refine aS2 ?_
  exact YR rfl (fun w' h'=>by first | exact ⟨((g5,c5),L5),rfl,⟨by rw [Yc,if_pos hr0];exact hF5.1,hF5.2.1,hF5.2.2⟩,h'.ent aEt⟩ | exact ⟨((g6,c6),L6),rfl,⟨by rw [Yc,if_neg hr0,if_pos hs0];exact hF6.1,hF6.2.1,hF6.2.2⟩,h'.ent aEt⟩ | exact ⟨((g7,c7),L7),rfl,⟨by rw [Yc,if_neg hr0,if_neg hs0,if_pos hk0];exact hF7.1,hF7.2.1,hF7.2.2⟩,h'.ent aEt⟩ | exact ⟨((g8,c8),L8),rfl,⟨by rw [Yc,if_neg hr0,if_neg hs0,if_neg hk0,if_pos hk1];exact hF8.1,hF8.2.1,hF8.2.2⟩,h'.ent aEt⟩ | exact ⟨((gn,cap),L),rfl,⟨by rw [Yc,if_neg hr0,if_neg hs0,if_neg hk0,if_neg hk1],hnc,hcm⟩,h'.ent aEt⟩)
 skip
 have hr0 : ¬ (Ye mo (pln L) p ((k : Int) - 1)) = true:=by have hq:=h3;simp [hq]
 refine aS5 ?_
 try refine oWr ?_
 refine o_q (Yb rfl rfl Qm9 rfl (fun w1 h1=>c142 w1 b2 b1 bt j mo rm (some ⟨gn,0,none⟩) cap L p k ((k : Int) + 1) (h1.rd_blk (Mc:=[]) aPk rfl (by simp)) (h1.rd_blk (Mc:=[]) aPk rfl (by simp)) (HS.tbr h1 aPk) (HS.nt_at h1 aPk aPk) hok)) rfl ?_
 refine aS2 ?_
 refine Qd rfl (fun h4=>?_) fun h4=>?_
 ·skip
  have hs0 : (Ye mo (pln L) p ((k : Int) + 1)) = true:=h4
  obtain ⟨hr1,hr2,hr3⟩:=Qjq hs0
  rw [show ((k : Int) + 1).toNat = k + 1 by omega] at hr3
  have hfe : 0 < (nth (pln L) (kdN (pln L) p (k + 1))).es.length:=by omega
  refine Qj (L':=[(2,_),(4,_),(5,_)]) aSx (fun _ h=>h) ?_
  refine aS4 ?_
  refine o_h (Q7 (Cs:=[.blk bt 112 6 (tbV (j : Int) mo rm (some ⟨gn,0,none⟩) (L).length cap),.blk gn 102 (cap * 3) ((L).flatMap LNd.vals),.star ((L).map (Qk 26))]) rfl Qng rfl aPs (fun w1 h1 hf=>Qsl w1 bt j mo rm gn cap L p (k) (kdN (pln L) p (k + 1)) (kdN (pln L) p (k)) hf hnc hcm (hok.giv (x:=k + 1) (y:=k) (e:=k) (by omega) (by omega) (by omega) (by omega) hfe) (hok.kd (by omega)) (hok.kd (by omega)))) rfl (fun ⟨⟨g6,c6⟩,L6⟩ hF6=>?_)
  refine aS2 ?_
  exact YR rfl (fun w' h'=>by first | exact ⟨((g5,c5),L5),rfl,⟨by rw [Yc,if_pos hr0];exact hF5.1,hF5.2.1,hF5.2.2⟩,h'.ent aEt⟩ | exact ⟨((g6,c6),L6),rfl,⟨by rw [Yc,if_neg hr0,if_pos hs0];exact hF6.1,hF6.2.1,hF6.2.2⟩,h'.ent aEt⟩ | exact ⟨((g7,c7),L7),rfl,⟨by rw [Yc,if_neg hr0,if_neg hs0,if_pos hk0];exact hF7.1,hF7.2.1,hF7.2.2⟩,h'.ent aEt⟩ | exact ⟨((g8,c8),L8),rfl,⟨by rw [Yc,if_neg hr0,if_neg hs0,if_neg hk0,if_pos hk1];exact hF8.1,hF8.2.1,hF8.2.2⟩,h'.ent aEt⟩ | exact ⟨((gn,cap),L),rfl,⟨by rw [Yc,if_neg hr0,if_neg hs0,if_neg hk0,if_neg hk1],hnc,hcm⟩,h'.ent aEt⟩)
 skip
 have hs0 : ¬ (Ye mo (pln L) p ((k : Int) + 1)) = true:=by have hq:=h4;simp [hq]
 refine aS ?_
 refine Qj (L':=[(2,_),(4,_),(5,_),(6,_)]) aSx (fun _ h=>h) ?_
 refine aS5 ?_
 refine Qd rfl (fun h5=>?_) fun h5=>?_
 ·try simp only [dT] at h5
  have hk0 : 0 < k:=by have hq:=h5;omega
  obtain ⟨k1,rfl⟩ : ∃ k1,k = k1 + 1:=⟨k - 1,by omega⟩
  refine aS5 ?_
  try refine oWr ?_
  refine Qm (show _ = Value.int .i64 (k1 : Int) from by congr 1;omega) ?_
  refine o_h (Q7 (Cs:=[.blk bt 112 6 (tbV (j : Int) mo rm (some ⟨gn,0,none⟩) (L).length cap),.blk gn 102 (cap * 3) ((L).flatMap LNd.vals),.star ((L).map (Qk 26))]) rfl Qmi rfl aPs (fun w1 h1 hf=>c144 w1 bt j mo rm gn cap L p (k1) (kdN (pln L) p (k1 + 1)) (kdN (pln L) p (k1)) hf hnc hcm (hok.mrg (x:=k1 + 1) (y:=k1) (e:=k1) (by omega) (by omega) (by omega) (by omega)) (hok.kd (by omega)) (hok.kd (by omega)))) rfl (fun ⟨⟨g7,c7⟩,L7⟩ hF7=>?_)
  refine aS2 ?_
  exact YR rfl (fun w' h'=>by first | exact ⟨((g5,c5),L5),rfl,⟨by rw [Yc,if_pos hr0];exact hF5.1,hF5.2.1,hF5.2.2⟩,h'.ent aEt⟩ | exact ⟨((g6,c6),L6),rfl,⟨by rw [Yc,if_neg hr0,if_pos hs0];exact hF6.1,hF6.2.1,hF6.2.2⟩,h'.ent aEt⟩ | exact ⟨((g7,c7),L7),rfl,⟨by rw [Yc,if_neg hr0,if_neg hs0,if_pos hk0];exact hF7.1,hF7.2.1,hF7.2.2⟩,h'.ent aEt⟩ | exact ⟨((g8,c8),L8),rfl,⟨by rw [Yc,if_neg hr0,if_neg hs0,if_neg hk0,if_pos hk1];exact hF8.1,hF8.2.1,hF8.2.2⟩,h'.ent aEt⟩ | exact ⟨((gn,cap),L),rfl,⟨by rw [Yc,if_neg hr0,if_neg hs0,if_neg hk0,if_neg hk1],hnc,hcm⟩,h'.ent aEt⟩)
 try simp only [dN] at h5
 have hk0 : ¬ 0 < k:=by have hq:=h5;omega
 refine aS7 ?_
 refine Qd rfl (fun h6=>?_) fun h6=>?_
 ·try simp only [dT] at h6
  have hk1 : 1 < (nth (pln L) p).cs.length:=by rw [hPN];have hq:=h6;simp only [LNd.pl];omega
  refine aS4 ?_
  refine o_h (Q7 (Cs:=[.blk bt 112 6 (tbV (j : Int) mo rm (some ⟨gn,0,none⟩) (L).length cap),.blk gn 102 (cap * 3) ((L).flatMap LNd.vals),.star ((L).map (Qk 26))]) rfl Qmi rfl aPs (fun w1 h1 hf=>c144 w1 bt j mo rm gn cap L p (k) (kdN (pln L) p (k + 1)) (kdN (pln L) p (k)) hf hnc hcm (hok.mrg (x:=k + 1) (y:=k) (e:=k) (by omega) (by omega) (by omega) (by omega)) (hok.kd (by omega)) (hok.kd (by omega)))) rfl (fun ⟨⟨g8,c8⟩,L8⟩ hF8=>?_)
  refine aS2 ?_
  exact YR rfl (fun w' h'=>by first | exact ⟨((g5,c5),L5),rfl,⟨by rw [Yc,if_pos hr0];exact hF5.1,hF5.2.1,hF5.2.2⟩,h'.ent aEt⟩ | exact ⟨((g6,c6),L6),rfl,⟨by rw [Yc,if_neg hr0,if_pos hs0];exact hF6.1,hF6.2.1,hF6.2.2⟩,h'.ent aEt⟩ | exact ⟨((g7,c7),L7),rfl,⟨by rw [Yc,if_neg hr0,if_neg hs0,if_pos hk0];exact hF7.1,hF7.2.1,hF7.2.2⟩,h'.ent aEt⟩ | exact ⟨((g8,c8),L8),rfl,⟨by rw [Yc,if_neg hr0,if_neg hs0,if_neg hk0,if_pos hk1];exact hF8.1,hF8.2.1,hF8.2.2⟩,h'.ent aEt⟩ | exact ⟨((gn,cap),L),rfl,⟨by rw [Yc,if_neg hr0,if_neg hs0,if_neg hk0,if_neg hk1],hnc,hcm⟩,h'.ent aEt⟩)
 try simp only [dN] at h6
 have hk1 : ¬ 1 < (nth (pln L) p).cs.length:=by rw [hPN];have hq:=h6;simp only [LNd.pl];omega
 refine aS2 ?_
 exact YR rfl (fun w' h'=>by first | exact ⟨((g5,c5),L5),rfl,⟨by rw [Yc,if_pos hr0];exact hF5.1,hF5.2.1,hF5.2.2⟩,h'.ent aEt⟩ | exact ⟨((g6,c6),L6),rfl,⟨by rw [Yc,if_neg hr0,if_pos hs0];exact hF6.1,hF6.2.1,hF6.2.2⟩,h'.ent aEt⟩ | exact ⟨((g7,c7),L7),rfl,⟨by rw [Yc,if_neg hr0,if_neg hs0,if_pos hk0];exact hF7.1,hF7.2.1,hF7.2.2⟩,h'.ent aEt⟩ | exact ⟨((g8,c8),L8),rfl,⟨by rw [Yc,if_neg hr0,if_neg hs0,if_neg hk0,if_pos hk1];exact hF8.1,hF8.2.1,hF8.2.2⟩,h'.ent aEt⟩ | exact ⟨((gn,cap),L),rfl,⟨by rw [Yc,if_neg hr0,if_neg hs0,if_neg hk0,if_neg hk1],hnc,hcm⟩,h'.ent aEt⟩)
theorem c107 (w : World) (bt : Nat) (j : Nat) (mo rm : Int) (gn cap : Nat) (L : List LNd) (hw : HS w (fps [.blk bt 112 6 (tbV (j : Int) mo rm (some ⟨gn,0,none⟩) (L).length cap),.blk gn 102 (cap * 3) ((L).flatMap LNd.vals),.star ((L).map (Qk 26))]) [.blk bt 112 6 (tbV (j : Int) mo rm (some ⟨gn,0,none⟩) (L).length cap),.blk gn 102 (cap * 3) ((L).flatMap LNd.vals),.star ((L).map (Qk 26))] w) (hnc : L.length ≤ cap) (hcm : cap ≤ maxLen) (h0 : 0 < L.length) (hl : L.length ≤ 100000) (hu : (nth (pln L) 0).us = true) : Calls Tryz.prog 107 #[.pointer (some ⟨bt,0,none⟩)] w fun en w'=>∃ g : (Nat × Nat) × List LNd,en = .returned (.tuple #[]) ∧ (pln g.2 = QbV (pln L) ∧ g.2.length ≤ g.1.2 ∧ g.1.2 ≤ maxLen) ∧ HS w (fps [.blk bt 112 6 (tbV (j : Int) mo rm (some ⟨gn,0,none⟩) (L).length cap),.blk gn 102 (cap * 3) ((L).flatMap LNd.vals),.star ((L).map (Qk 26))]) [.blk bt 112 6 (tbV (j : Int) mo rm (some ⟨g.1.1,0,none⟩) (g.2).length g.1.2),.blk g.1.1 102 (g.1.2 * 3) ((g.2).flatMap LNd.vals),.star ((g.2).map (Qk 26))] w':=by
 have hu0 : (nth L 0).us = true:=by have h9:=hu;rw [Qh h0] at h9;exact h9
 refine enter (args:=[_]) Tryz.func107 Tryz.ntmps107 rfl rfl hw ?_
 refine QaU ?_
 refine QN (α:=Nat) [2,9,10,11,12,13,14,15,16,17,18,19,20,21,22,23,24,25,26,27,28,29,30,31,32,33] (fun m=>[(2,.int .i64 (m : Int))]) (fun m=>HS w (fps [.blk bt 112 6 (tbV (j : Int) mo rm (some ⟨gn,0,none⟩) (L).length cap),.blk gn 102 (cap * 3) ((L).flatMap LNd.vals),.star ((L).map (Qk 26))]) [.blk bt 112 6 (tbV (j : Int) mo rm (some ⟨gn,0,none⟩) (m) cap),.blk gn 102 (cap * 3) ((L.take (m)).flatMap LNd.vals),.star ((L.take (m)).map (Qk 26))]) (fun m=>(1 ≤ m ∧ m ≤ L.length) ∧ tln (pln L) L.length = tln (pln L) m) (fun m=>m) L.length ⟨⟨h0,Nat.le_refl _⟩,rfl⟩ aSx (fun w h=>by rw [List.take_length];exact h.ent aEt) (fun m hm=>?_)
 obtain ⟨⟨hm1,hm2⟩,hm3⟩:=hm
 refine Zf ?_
 try refine oWr ?_
 refine o_p (Qa rfl rfl rfl Qp (m - 1) (by omega) (by omega) rfl) rfl ?_
 refine Qm (show _ = Value.pointer (some ⟨gn,(m - 1) * 3,none⟩) from by rw [Nat.zero_add]) ?_
 refine aS ?_
 refine o_q (Qg rfl rfl QcQ (fun w h=>HS.nd_cell (L:=L.take m) (i:=m - 1) (by rw [List.length_take];omega) h aPk 0 (by rw [QdZ (by omega)];rfl) (by decide))) rfl ?_
 refine aS2 ?_
 refine Qd rfl (fun h1=>?_) fun h1=>?_
 ·try simp only [Bool.not_eq_true'] at h1
  have hm4 : ¬ (nth (pln L) (m - 1)).us = true:=by rw [Qh (by omega)];have hq:=h1;simp only [LNd.pl];first | exact hq | simp [hq]
  have hm5 : 1 ≤ m - 1:=(Nat.lt_or_ge 1 m).elim (fun h9=>by omega) (fun h9=>by exfalso;have h8 : m = 1:=(by omega);subst h8;exact hm4 hu)
  refine Zp ?_
  try refine oWr ?_
  refine o_p (QX _ _ 0 (m - 1) rfl rfl Qp rfl ⟨_,_,rfl,(by omega)⟩ (by omega) (by omega)) rfl ?_
  refine Qm (show _ = Value.slice (some ⟨gn,0,none⟩) (m - 1) cap from by rw [Ys] <;> first | rfl | (congr 1 <;> omega)) ?_
  refine aS3 ?_
  refine YE (Q9 rfl rfl rfl YD rfl aPt (by show 4 ≤ 6;omega) rfl) (fun _ _=>?_)
  refine aS2 ?_
  refine Qj (L':=[(0,_),(2,_),(3,_),(4,_),(5,_),(6,_),(7,_),(8,_)]) aSx (fun _ h=>h) ?_
  refine aS3 ?_
  try refine oWr ?_
  refine aS2 ?_
  exact QD (m - 1) (by omega) ⟨⟨hm5,by omega⟩,by rw [hm3,Qgi hm1 hm4]⟩ (by rw [show ((m - 1 : Nat) : Int) = (m : Int) - 1 by omega];exact aSx) (fun w h=>by have h2:=HS.star_take (m - 1) h aPk;rw [List.take_take,Nat.min_eq_left (Nat.sub_le m 1)] at h2;have h3:=h2;rw [Qfs (L:=L.take m) (m:=m - 1),List.take_take,Nat.min_eq_left (Nat.sub_le m 1)] at h3;exact (HS.blk_less (b:=gn) aPk h3).ent aEt)
 try simp only [Bool.not_eq_false'] at h1
 have hm4 : (nth (pln L) (m - 1)).us = true:=by rw [Qh (by omega)];have hq:=h1;simp only [LNd.pl];first | exact hq | simpa using hq
 refine Qu rfl ?_
 exact YR rfl (fun w' h'=>⟨((gn,cap),L.take m),rfl,⟨by rw [QbV,Qc,hm3,QhP hm1 hm4];exact List.map_take,by simp only [List.length_take];omega,hcm⟩,by simp only [List.length_take];rw [Nat.min_eq_left hm2];exact h'.ent aEt⟩)
theorem QqH : QT Tryz.prog 106 = true:=by kernel_rfl
theorem Qqt : QT Tryz.prog 107 = true:=by kernel_rfl
set_option maxHeartbeats 300000 in
theorem c69 (w : World) (bt : Nat) (j : Nat) (mo rm : Int) (gn cap : Nat) (L : List LNd) (P : List Nat) (pa : Option Addr) (pc : Nat) (k : Nat) (hw : HS w (fps [.blk bt 112 6 (tbV (j : Int) mo rm (some ⟨gn,0,none⟩) (L).length cap),.blk gn 102 (cap * 3) ((L).flatMap LNd.vals),.star ((L).map (Qk 26)),.kids pa pc (iN P)]) [.blk bt 112 6 (tbV (j : Int) mo rm (some ⟨gn,0,none⟩) (L).length cap),.blk gn 102 (cap * 3) ((L).flatMap LNd.vals),.star ((L).map (Qk 26)),.kids pa pc (iN P)] w) (hnc : L.length ≤ cap) (hcm : cap ≤ maxLen) (hok : RemOk mo rm (pln L) P k) : Calls Tryz.prog 69 #[.pointer (some ⟨bt,0,none⟩),.slice pa P.length pc,.int .i64 (k : Int)] w fun en w'=>∃ g : (Nat × Nat) × List LNd,en = .returned (.tuple #[]) ∧ (pln g.2 = ZD mo rm (pln L) P k ∧ g.2.length ≤ g.1.2 ∧ g.1.2 ≤ maxLen) ∧ HS w (fps [.blk bt 112 6 (tbV (j : Int) mo rm (some ⟨gn,0,none⟩) (L).length cap),.blk gn 102 (cap * 3) ((L).flatMap LNd.vals),.star ((L).map (Qk 26)),.kids pa pc (iN P)]) [.blk bt 112 6 (tbV (j : Int) mo rm (some ⟨g.1.1,0,none⟩) (g.2).length g.1.2),.blk g.1.1 102 (g.1.2 * 3) ((g.2).flatMap LNd.vals),.star ((g.2).map (Qk 26))] w':=by
 have hmo:=hok.mo0
 have hne:=hok.ne
 have hlen:=hok.len
 have hnl:=hok.nl
 have hlst:=hok.lst
 rw [Qc] at hnl hlst
 have hNI:=Qh hlst
 have hatk:=hok.atk
 rw [hNI] at hatk
 simp only [LNd.pl] at hatk
 have hsI:=hok.sm (Qo P)
 rw [hNI] at hsI
 simp only [LNd.pl] at hsI
 have hrg:=hok.rgt
 rw [hNI] at hrg
 simp only [LNd.pl] at hrg
 have hql:=hok.ql
 rw [Qc] at hql
 have hqn:=hok.qn
 have hdl:=hok.dl
 refine enter (args:=[_,_,_]) Tryz.func69 Tryz.ntmps69 rfl rfl hw ?_
 refine aS2 ?_
 refine oBx fun b1 _=>?_
 refine QZ (C':=HS w (fps [.blk bt 112 6 (tbV (j : Int) mo rm (some ⟨gn,0,none⟩) (L).length cap),.blk gn 102 (cap * 3) ((L).flatMap LNd.vals),.star ((L).map (Qk 26)),.kids pa pc (iN P)]) [.blk bt 112 6 (tbV (j : Int) mo rm (some ⟨gn,0,none⟩) (L).length cap),.blk gn 102 (cap * 3) ((L).flatMap LNd.vals),.star ((L).map (Qk 26)),.own (.slice pa (P).length pc) 3 1 (P).length ((P).map fun i : Nat=>Value.int .i64 (i : Int)),.blk b1 103 1 [.pointer (some ⟨bt,0,none⟩)]]) (fun w h=>(h.of_kids aPk).ent aEt) ?_
 refine QU (fun w h=>HS.pown_some (P:=P) (a:=pa) (c:=pc) hne h aPk) fun hpa=>?_
 obtain ⟨gp,hpa⟩:=hpa
 refine aS7 ?_
 try refine oWr ?_
 refine o_p (Qa rfl rfl rfl Qv (P.length - 1) (by omega) (by omega) hpa) rfl ?_
 refine o_q (Qg rfl rfl Xq (fun w h=>HS.pown_rd (P:=P) (a:=pa) (c:=pc) (k:=P.length - 1) (by omega) hpa h aPk)) rfl ?_
 refine Qm (show _ = Value.int .i64 ((Qo P) : Int) from rfl) ?_
 refine QaU ?_
 refine o_p (Qa rfl rfl rfl Qp ((Qo P)) (by omega) (by omega) rfl) rfl ?_
 refine Qm (show _ = Value.pointer (some ⟨gn,(Qo P) * 3,none⟩) from by rw [Nat.zero_add]) ?_
 refine aS ?_
 refine o_q (Qg rfl rfl Q8 (fun w h=>HS.nd_cell hlst h aPk 2 rfl (by decide))) rfl ?_
 refine aS8 ?_
 refine Qj (L':=[(1,_),(2,_),(3,_),(6,_),(7,_),(31,_)]) aSx (fun _ h=>h) ?_
 refine Xn (α:=(Option Addr × Nat) × List LNd) [1,2,6,8,9,32,33,34,35,36,37,38,39,40,41,42,43,44,45,46,47,48,49,50,51,52,53,54,55,56,57,58,59,60,61,62,63,64,65,66,67,68,69,70,71,72,73,74,75,76,77,78,79,80,81,82,83,84,85,86,87,88,89,90,91,92,93,94,95,96,97,98,99,100,101,102,103,104,105,106,107,108,109,110,111,112] (fun x=>[(6,.int .i64 ((Qo (QA (pln L) P k)) : Int)),(2,.int .i64 ((Qco (pln L) P k) : Int)),(1,.slice x.1.1 (QA (pln L) P k).length x.1.2)]) (fun x=>HS w (fps [.blk bt 112 6 (tbV (j : Int) mo rm (some ⟨gn,0,none⟩) (L).length cap),.blk gn 102 (cap * 3) ((L).flatMap LNd.vals),.star ((L).map (Qk 26)),.kids pa pc (iN P)]) [.blk bt 112 6 (tbV (j : Int) mo rm (some ⟨gn,0,none⟩) (x.2).length cap),.blk gn 102 (cap * 3) ((x.2).flatMap LNd.vals),.star ((x.2).map (Qk 26)),.own (.slice x.1.1 ((QA (pln L) P k)).length x.1.2) 3 1 ((QA (pln L) P k)).length (((QA (pln L) P k)).map fun i : Nat=>Value.int .i64 (i : Int)),.blk b1 103 1 [.pointer (some ⟨bt,0,none⟩)]]) (fun x=>pln x.2 = (QcF (pln L) P k) ∧ x.2.length = L.length) ?_ ?_
 ·skip
  refine Qd rfl (fun h2=>?_) fun h2=>?_
  ·try simp only [dT] at h2
   have hcz : 0 < (nth L (Qo P)).cs.length:=by have hq:=h2;omega
   obtain ⟨hr1,hr2,hr3,hr4,hr5,hr6⟩:=hrg hcz
   refine QV (fun w h=>HS.cs_some hlst hcz h aPk) fun hgc=>?_
   obtain ⟨gc9,hgc⟩:=hgc
   have hQe : (QA (pln L) P k) = P ++ Qd1 (pln L) (pln L).length (kdN (pln L) (Qo P) k):=by unfold QA;rw [hNI];exact if_neg (by show ¬ (nth L (Qo P)).cs.length = 0;omega)
   refine aS4 ?_
   refine o_p (Qa rfl rfl rfl Qv (k) (by omega) (by omega) hgc) rfl ?_
   refine o_q (Qg rfl rfl Xq (fun w h=>HS.cs_rd hlst (by omega) hgc h aPk)) rfl ?_
   refine Qm (show _ = Value.int .i64 ((kdN (pln L) (Qo P) k) : Int) from congrArg (Value.int .i64) (Qdp hNI hr2)) ?_
   refine aS6 ?_
   refine o_h (Qr (cs:=[_]) rfl rfl Qv X8 rfl rfl rfl) rfl (fun b3 _=>?_)
   refine o_h (QJ [_] rfl rfl rfl Qv Tryz.underlying30 X8 rfl aPk (Xv aPk) rfl (by intro u hu;simp only [List.mem_cons,List.mem_nil_iff,or_false] at hu;subst hu;rfl) (by omega) (by simp only [maxLen];omega)) rfl (fun b4 _=>?_)
   refine aS4 ?_
   refine QN (α:=(Option Addr × Nat) × List Nat × Nat × Nat) [1,8,40,41,42,43,44,45,46,47,48,49,50,51,52,53,54,55,56,57,58,59,60,61,62,63,64,65,66,67,68,69,70,71,72,73,74,75,76] (fun x=>[(1,.slice x.1.1 (x.2.1 ++ [x.2.2.1]).length x.1.2),(8,.int .i64 (x.2.2.1 : Int))]) (fun x=>HS w (fps [.blk bt 112 6 (tbV (j : Int) mo rm (some ⟨gn,0,none⟩) (L).length cap),.blk gn 102 (cap * 3) ((L).flatMap LNd.vals),.star ((L).map (Qk 26)),.kids pa pc (iN P)]) [.blk bt 112 6 (tbV (j : Int) mo rm (some ⟨gn,0,none⟩) (L).length cap),.blk gn 102 (cap * 3) ((L).flatMap LNd.vals),.star ((L).map (Qk 26)),.own (.slice x.1.1 (x.2.1 ++ [x.2.2.1]).length x.1.2) 3 1 (x.2.1 ++ [x.2.2.1]).length ((x.2.1 ++ [x.2.2.1]).map fun i : Nat=>Value.int .i64 (i : Int)),.blk b1 103 1 [.pointer (some ⟨bt,0,none⟩)]]) (fun x=>QdP (pln L) x.2.2.2 x.2.2.1 ∧ (QA (pln L) P k) = x.2.1 ++ Qd1 (pln L) x.2.2.2 x.2.2.1 ∧ x.2.1.length + x.2.2.2 ≤ 1900) (fun x=>x.2.2.2) ((b4.1,b4.2),P,(kdN (pln L) (Qo P) k),(pln L).length) ⟨hr3,hQe,by rw [Qc];simp only [];omega⟩ (by simp only [List.length_append,List.length_singleton];exact aSx) (fun w h=>by have h2:=h;simp only [List.length_append,List.length_singleton,List.map_append,List.map_cons,List.map_nil];exact h2.ent aEt) (fun ⟨⟨la,lc⟩,E,leaf,fu⟩ hx=>?_)
   dsimp only
   obtain ⟨he1,he2,he3⟩:=hx
   simp only [] at he1 he2 he3
   obtain ⟨fu,rfl⟩ : ∃ f9,fu = f9 + 1:=by cases fu with | zero=>exact absurd he1 (fun h=>h) | succ f9=>exact ⟨f9,rfl⟩
   have hlf:=he1.1
   rw [Qc] at hlf
   have hNF:=Qh hlf
   have hsF:=hok.sm leaf
   rw [hNF] at hsF
   simp only [LNd.pl] at hsF
   have hEl : (E ++ [leaf]).length = E.length + 1:=by simp
   refine aS9 ?_
   refine o_p (Qa rfl rfl rfl Qp (leaf) (by omega) (by omega) rfl) rfl ?_
   refine Qm (show _ = Value.pointer (some ⟨gn,leaf * 3,none⟩) from by rw [Nat.zero_add]) ?_
   refine aS ?_
   refine o_q (Qg rfl rfl Q8 (fun w h=>HS.nd_cell hlf h aPk 2 rfl (by decide))) rfl ?_
   refine aS3 ?_
   refine Qd rfl (fun h5=>?_) fun h5=>?_
   ·try simp only [dT] at h5
    have hlz : 0 < (nth L leaf).cs.length:=by have hq:=h5;omega
    refine QV (fun w h=>HS.cs_some hlf hlz h aPk) fun hgl=>?_
    obtain ⟨gl9,hgl⟩:=hgl
    have hro:=he1.2
    rw [hNF] at hro
    obtain ⟨hs2,hs3⟩:=hro.resolve_left (by show ¬ (nth L leaf).cs.length = 0;omega)
    simp only [LNd.pl] at hs2 hs3
    have hrs:=QgC (ns:=pln L) (f:=fu) (i:=leaf) (by rw [hNF];show ¬ (nth L leaf).cs.length = 0;omega)
    rw [hNF] at hrs
    simp only [LNd.pl] at hrs
    refine aS3 ?_
    refine QE [] QH ?_
    refine dLd 0 [] ?_
    refine dP 1 ?_
    refine dFa 2 ?_
    refine dFa 3 ?_
    refine dLd 4 [] ?_
    refine dP 5 ?_
    refine dV 6 rfl (Qa rfl rfl rfl Qp (leaf) (by omega) (by omega) rfl) ?_
    refine Ql (show _ = Value.pointer (some ⟨gn,leaf * 3,none⟩) from by rw [Nat.zero_add]) ?_
    refine dFa 7 ?_
    refine dQ 8 [] rfl (Qg rfl rfl Q8 (fun w h=>HS.nd_cell hlf h aPk 2 rfl (by decide))) ?_
    refine dLd 9 [] ?_
    refine dP 10 ?_
    refine dFa 11 ?_
    refine dFa 12 ?_
    refine dLd 13 [] ?_
    refine dP 14 ?_
    refine dV 15 rfl (Qa rfl rfl rfl Qp (leaf) (by omega) (by omega) rfl) ?_
    refine Ql (show _ = Value.pointer (some ⟨gn,leaf * 3,none⟩) from by rw [Nat.zero_add]) ?_
    refine dFa 16 ?_
    refine dQ 17 [] rfl (Qg rfl rfl Q8 (fun w h=>HS.nd_cell hlf h aPk 2 rfl (by decide))) ?_
    refine dV 18 rfl (QQ rfl rfl Tryz.underlying30) ?_
    refine dP 19 ?_
    try refine dWr ?_
    refine dV 20 rfl (Qa rfl rfl rfl Qv ((nth L leaf).cs.length - 1) (by omega) (by omega) hgl) ?_
    refine dQ 21 [] rfl (Qg rfl rfl Xq (fun w h=>HS.cs_rd hlf (by omega) hgl h aPk)) ?_
    refine Ql (show _ = Value.int .i64 ((kdN (pln L) leaf ((nth L leaf).cs.length - 1)) : Int) from congrArg (Value.int .i64) (Qdp hNF hs2)) ?_
    refine dP 22 ?_
    refine dNi ?_
    refine Qj (L':=[(1,_),(2,_),(3,_),(6,_),(7,_),(8,_),(31,_),(32,_),(33,_),(34,_),(35,_),(36,_),(37,_),(38,_),(39,_)]) aSx (fun _ h=>h) ?_
    refine aS3 ?_
    refine o_h (Qr (cs:=[_]) rfl rfl Qv X8 rfl rfl rfl) rfl (fun b6 _=>?_)
    refine o_h (QJ [_] rfl rfl rfl Qv Tryz.underlying30 X8 rfl aPk (Xv aPk) rfl (by intro u hu;simp only [List.mem_cons,List.mem_nil_iff,or_false] at hu;subst hu;rfl) (by omega) (by simp only [maxLen];omega)) rfl (fun b7 _=>?_)
    refine aS3 ?_
    exact QD ((b7.1,b7.2),E ++ [leaf],(kdN (pln L) leaf ((nth L leaf).cs.length - 1)),fu) (by (try simp only []);omega) ⟨hs3,by rw [he2,hrs,List.append_assoc];rfl,by simp only [List.length_append,List.length_singleton];omega⟩ (by simp only [List.length_append (bs:=[(kdN (pln L) leaf ((nth L leaf).cs.length - 1))]),List.length_singleton];exact aSx) (fun w h=>by have h2:=h;simp only [List.length_append (bs:=[(kdN (pln L) leaf ((nth L leaf).cs.length - 1))]),List.length_singleton,List.map_append (l₂:=[(kdN (pln L) leaf ((nth L leaf).cs.length - 1))]),List.map_cons,List.map_nil];exact h2.ent aEt)
   try simp only [dN] at h5
   have hlz : (nth L leaf).cs.length = 0:=by have hq:=h5;omega
   have hrs:=Qhz (ns:=pln L) (f:=fu) (i:=leaf) (by rw [hNF];exact hlz)
   rw [hrs] at he2
   have hle : leaf = (Qo (QA (pln L) P k)):=by rw [he2,Qfm]
   rw [← hle,hNF] at hr5
   simp only [LNd.pl] at hr5
   have hNQ : nth (pln L) (Qo (QA (pln L) P k)) = (nth L leaf).pl:=by rw [← hle];exact hNF
   have hK2:=QkS hNI hNQ hcz
   simp only [LNd.pl] at hK2
   have hni : (Qo P) ≠ leaf:=by rw [hle];exact hr4
   refine QV (fun w h=>HS.es_some hlst (by omega) h aPk) fun hge=>?_
   obtain ⟨ge9,hge⟩:=hge
   refine QV (fun w h=>HS.es_some hlf hr5 h aPk) fun hgf=>?_
   obtain ⟨gf9,hgf⟩:=hgf
   refine QV (fun w h=>HS.es_room hlst h aPk) fun hrE=>?_
   refine Qu rfl ?_
   refine aS8 ?_
   refine o_p (Qa rfl rfl rfl Qp (leaf) (by omega) (by omega) rfl) rfl ?_
   refine Qm (show _ = Value.pointer (some ⟨gn,leaf * 3,none⟩) from by rw [Nat.zero_add]) ?_
   refine aS ?_
   refine o_q (Qg rfl rfl Xb (fun w h=>HS.nd_cell hlf h aPk 1 rfl (by decide))) rfl ?_
   refine aS2 ?_
   try refine oWr ?_
   refine Qm (show _ = Value.int .i64 ((((nth L leaf).es.length - 1) : Nat) : Int) from by congr 1;omega) ?_
   refine aS3 ?_
   refine Qj (L':=[(1,_),(2,_),(3,_),(6,_),(7,_),(8,_),(9,_),(31,_),(32,_),(33,_),(34,_),(35,_),(36,_),(37,_),(38,_),(39,_)]) aSx (fun _ h=>h) ?_
   refine Xd (fun w h=>HS.es_open hlst (by omega) hge h aPk) ?_
   refine QE [23] QH ?_
   refine dLd 0 [[]] ?_
   refine dP 1 ?_
   refine dFa 2 ?_
   refine dFa 3 ?_
   refine dLd 4 [[]] ?_
   refine dP 5 ?_
   refine dV 6 rfl (Qa rfl rfl rfl Qp ((Qo P)) (by omega) (by omega) rfl) ?_
   refine Ql (show _ = Value.pointer (some ⟨gn,(Qo P) * 3,none⟩) from by rw [Nat.zero_add]) ?_
   refine dFa 7 ?_
   refine dQ 8 [[]] rfl (Qg rfl rfl Xb (fun w h=>HS.nd_cell hlst h aPk 1 rfl (by decide))) ?_
   refine dP 9 ?_
   refine dLd 10 [[]] ?_
   refine dP 11 ?_
   refine dFa 12 ?_
   refine dFa 13 ?_
   refine dLd 14 [[]] ?_
   refine dP 15 ?_
   refine dV 16 rfl (Qa rfl rfl rfl Qp (leaf) (by omega) (by omega) rfl) ?_
   refine Ql (show _ = Value.pointer (some ⟨gn,leaf * 3,none⟩) from by rw [Nat.zero_add]) ?_
   refine dFa 17 ?_
   refine dQ 18 [[]] rfl (Qg rfl rfl Xb (fun w h=>HS.nd_cell hlf h aPk 1 rfl (by decide))) ?_
   refine dP 19 ?_
   refine dV 20 rfl (Qa rfl rfl rfl QB (((nth L leaf).es.length - 1)) (by omega) (by omega) hgf) ?_
   refine dQ 21 [[]] rfl (QK _ rfl rfl XC rfl (fun w h=>HS.es_rdB hlf hni (k:=((nth L leaf).es.length - 1)) (by omega) hgf h aPk)) ?_
   refine dV 22 rfl (Qa rfl rfl rfl QB (k) (by omega) (by omega) hge) ?_
   refine Ql (show _ = Value.pointer (some ⟨ge9,k * 2,none⟩) from by rw [Nat.zero_add]) ?_
   refine dSt 23 ?_ (hl:=(by rw [Qf ev2];show _ + 2 ≤ _;omega))
   refine dTu [] ?_
   refine dNi ?_
   refine Qj (L':=[(1,_),(2,_),(3,_),(6,_),(7,_),(8,_),(9,_),(31,_),(32,_),(33,_),(34,_),(35,_),(36,_),(37,_),(38,_),(39,_)]) aSx (fun _ h=>h) ?_
   refine aS2 ?_
   refine Y1 (fun w h=>HS.es_upd (gn:=gn) (cap:=cap) (g:=ge9) (k:=k) (x:=nth (nth L leaf).es ((nth L leaf).es.length - 1)) hlst hatk hge h aPk aPk aPk hrE) fun L1=>?_
   refine QU (fun w h=>h.1) fun hS1=>?_
   refine QZ (fun w h=>h.2) ?_
   refine aS4 ?_
   exact Qn ((la,lc),L1) ⟨by rw [hS1.es];exact (Qmu hNI hNQ hcz).symm,hS1.len⟩ (by dsimp only;rw [← hle,hK2,he2];exact aSx) (fun w h=>by dsimp only;rw [he2,hS1.len];exact h.ent aEt)
  try simp only [dN] at h2
  have hcz : (nth L (Qo P)).cs.length = 0:=by have hq:=h2;omega
  have hQe : (QA (pln L) P k) = P:=by unfold QA;rw [hNI];exact if_pos hcz
  refine aS ?_
  exact Qn ((pa,pc),L) ⟨(QkY hNI hcz).symm,rfl⟩ (by dsimp only;rw [Qlv hNI hcz,hQe];exact aSx) (fun w h=>by dsimp only;rw [hQe];exact h.ent aEt)
 intro ⟨⟨qa,qc⟩,LA⟩ hx
 dsimp only
 obtain ⟨hA,hAl⟩:=hx
 simp only [] at hA hAl
 have hlq : (Qo (QA (pln L) P k)) < LA.length:=by omega
 rw [← hA,Qh hlq] at hdl
 simp only [LNd.pl] at hdl
 have hsA:=hok.sm1 (Qo (QA (pln L) P k))
 rw [← hA,Qh hlq] at hsA
 simp only [LNd.pl] at hsA
 refine aS ?_
 refine Xd (fun w h=>HS.es_take hlq h aPk) ?_
 refine XK [.blk bt 112 6 (tbV (j : Int) mo rm (some ⟨gn,0,none⟩) LA.length cap),.blk gn 102 (cap * 3) (LA.flatMap LNd.vals),.blk b1 103 1 [.pointer (some ⟨bt,0,none⟩)]] [21] QH ?_
 refine dLd 0 [[]] ?_
 refine dP 1 ?_
 refine dFa 2 ?_
 refine dFa 3 ?_
 refine dLd 4 [[]] ?_
 refine dP 5 ?_
 refine dLd 6 [[]] ?_
 refine dP 7 ?_
 refine dFa 8 ?_
 refine dFa 9 ?_
 refine dLd 10 [[]] ?_
 refine dP 11 ?_
 refine dV 12 rfl (Qa rfl rfl rfl Qp ((Qo (QA (pln L) P k))) (by omega) (by omega) rfl) ?_
 refine Ql (show _ = Value.pointer (some ⟨gn,(Qo (QA (pln L) P k)) * 3,none⟩) from by rw [Nat.zero_add]) ?_
 refine dFa 13 ?_
 refine dQ 14 [[]] rfl (Qg rfl rfl Xb (fun w h=>HS.nd_cell hlq h aPk 1 rfl (by decide))) ?_
 refine dP 15 ?_
 refine dP 16 ?_
 refine dP 17 ?_
 try refine dWr ?_
 refine dH 18 rfl (Q7 (Cs:=[.own (.slice ((nth LA (Qo (QA (pln L) P k)))).ea ((nth LA (Qo (QA (pln L) P k)))).es.length ((nth LA (Qo (QA (pln L) P k)))).ec) 26 2 ((nth LA (Qo (QA (pln L) P k)))).es.length (((nth LA (Qo (QA (pln L) P k)))).es.flatMap TEnt.vals)]) rfl Qh8 rfl aPs (fun w1 h1 hf9=>QmS w1 (nth LA (Qo (QA (pln L) P k))).ea (Qco (pln L) P k) (nth LA (Qo (QA (pln L) P k))).ec (nth LA (Qo (QA (pln L) P k))).es hf9 (by omega) hdl)) (fun _ _=>?_)
 refine dV 19 rfl (Qa rfl rfl rfl Qp ((Qo (QA (pln L) P k))) (by omega) (by omega) rfl) ?_
 refine Ql (show _ = Value.pointer (some ⟨gn,(Qo (QA (pln L) P k)) * 3,none⟩) from by rw [Nat.zero_add]) ?_
 refine dFa 20 ?_
 refine dSt 21 ?_ (hl:=(by rw [Qf nv3];show _ + 1 ≤ _;omega))
 refine dTu [] ?_
 refine dNi ?_
 refine aS4 ?_
 refine Y1 (fun w h=>HS.es_setB (gn:=gn) (cap:=cap) (ea:=(nth LA (Qo (QA (pln L) P k))).ea) (ec:=(nth LA (Qo (QA (pln L) P k))).ec) (es:=Qt (nth LA (Qo (QA (pln L) P k))).es (Qco (pln L) P k)) hlq h aPk aPk aPk) fun L2=>?_
 refine QU (fun w h=>h.1) fun hS2=>?_
 refine QZ (fun w h=>h.2) ?_
 have hL2 : pln L2 = (YM (pln L) P k):=by rw [hS2.es,hA,YM,← hA,Qh hlq];rfl
 have hl2 : L2.length = L.length:=by rw [hS2.len,hAl]
 refine QZ (C':=HS w (fps [.blk bt 112 6 (tbV (j : Int) mo rm (some ⟨gn,0,none⟩) (L).length cap),.blk gn 102 (cap * 3) ((L).flatMap LNd.vals),.star ((L).map (Qk 26)),.kids pa pc (iN P)]) [.blk bt 112 6 (tbV (j : Int) mo rm (some ⟨gn,0,none⟩) (L2).length cap),.blk gn 102 (cap * 3) ((L2).flatMap LNd.vals),.star ((L2).map (Qk 26)),.own (.slice qa ((QA (pln L) P k)).length qc) 3 1 ((QA (pln L) P k)).length (((QA (pln L) P k)).map fun i : Nat=>Value.int .i64 (i : Int)),.blk b1 103 1 [.pointer (some ⟨bt,0,none⟩)]]) (fun w2 h=>by rw [hl2,← hAl];exact h.ent aEt) ?_
 refine o_h (QP rfl Qk4 rfl (fun w1 h1=>c104 w1 qa (QA (pln L) P k).length qc)) rfl (fun b8 _=>?_)
 refine aS2 ?_
 refine Qjp (G:=(Nat × Nat) × List LNd) (Bs:=fun g=>[.blk bt 112 6 (tbV (j : Int) mo rm (some ⟨g.1.1,0,none⟩) (g.2).length g.1.2),.blk g.1.1 102 (g.1.2 * 3) ((g.2).flatMap LNd.vals),.star ((g.2).map (Qk 26)),.blk b1 103 1 [.pointer (some ⟨bt,0,none⟩)],.blk b8 30 1 [.slice qa (QA (pln L) P k).length qc],.own (.slice qa ((QA (pln L) P k)).length qc) 3 1 ((QA (pln L) P k)).length (((QA (pln L) P k)).map fun i : Nat=>Value.int .i64 (i : Int)),.pure (pln (g.2) = Yw mo (YM (pln L) P k) ((QA (pln L) P k).reverse.take (QA (pln L) P k).length) ∧ ZF mo (pln (g.2)) ((QA (pln L) P k).reverse.drop (QA (pln L) P k).length) ∧ (g.2).length ≤ g.1.2 ∧ g.1.2 ≤ maxLen)]) rfl rfl rfl Qk2 (fun fid D l a9 w1 ob hob ha9 hw1=>?_) (fun D x=>?_)
 ·skip
  refine (c140 w1 w (fps [.blk bt 112 6 (tbV (j : Int) mo rm (some ⟨gn,0,none⟩) (L).length cap),.blk gn 102 (cap * 3) ((L).flatMap LNd.vals),.star ((L).map (Qk 26)),.kids pa pc (iN P)]) (fun kk g=>.obj l ob :: .obj D (.deferred (some [])) :: [.blk bt 112 6 (tbV (j : Int) mo rm (some ⟨g.1.1,0,none⟩) (g.2).length g.1.2),.blk g.1.1 102 (g.1.2 * 3) ((g.2).flatMap LNd.vals),.star ((g.2).map (Qk 26)),.blk b1 103 1 [.pointer (some ⟨bt,0,none⟩)],.blk b8 30 1 [.slice qa (QA (pln L) P k).length qc],.own (.slice qa ((QA (pln L) P k)).length qc) 3 1 ((QA (pln L) P k)).length (((QA (pln L) P k)).map fun i : Nat=>Value.int .i64 (i : Int)),.pure (pln (g.2) = Yw mo (YM (pln L) P k) ((QA (pln L) P k).reverse.take kk) ∧ ZF mo (pln (g.2)) ((QA (pln L) P k).reverse.drop kk) ∧ (g.2).length ≤ g.1.2 ∧ g.1.2 ≤ maxLen)]) ((gn,cap),L2) l b8 (QA (pln L) P k) qa qc (by omega) ?_ ?_ (fun kk g w2 hk h2=>?_)).mono fun e w2 hx=>?_
  ·exact (HS.add_pure (p:=pln L2 = Yw mo (YM (pln L) P k) ((QA (pln L) P k).reverse.take 0) ∧ ZF mo (pln L2) ((QA (pln L) P k).reverse.drop 0) ∧ L2.length ≤ cap ∧ cap ≤ maxLen) ⟨hL2,by rw [hL2];exact hok.fil,by omega,hcm⟩ hw1).ent aEt
  ·exact fun k9 g w2 h2=>⟨h2.rd_blk (i:=0) aPk rfl (by simp),HS.pown_row (P:=(QA (pln L) P k)) (a:=qa) (c:=qc) h2 aPk⟩
  rotate_left
  ·exact hx
  subst hob
  obtain ⟨⟨ga,gc⟩,Lg⟩:=g
  dsimp only at h2
  obtain ⟨hg1,hg2,hg3,hg4⟩:=h2.get_pure aPk
  rw [Qhd hk] at hg2
  obtain ⟨⟨hgi,hsp⟩,hnx⟩:=hg2
  have hst : Yw mo (YM (pln L) P k) ((QA (pln L) P k).reverse.take (kk + 1)) = Qbo mo (pln Lg) (nth (QA (pln L) P k) ((QA (pln L) P k).length - 1 - kk)):=by rw [QgH hk,Qkd,← hg1]
  rw [Qc] at hgi
  rw [Qh hgi] at hsp
  simp only [LNd.pl] at hsp
  refine QjG (fn:=Tryz.f69) (As1:=.obj D (.deferred (some [])) :: [.blk bt 112 6 (tbV (j : Int) mo rm (some ⟨ga,0,none⟩) (Lg).length gc),.blk ga 102 (gc * 3) ((Lg).flatMap LNd.vals),.star ((Lg).map (Qk 26)),.blk b1 103 1 [.pointer (some ⟨bt,0,none⟩)],.blk b8 30 1 [.slice qa (QA (pln L) P k).length qc],.own (.slice qa ((QA (pln L) P k)).length qc) 3 1 ((QA (pln L) P k)).length (((QA (pln L) P k)).map fun i : Nat=>Value.int .i64 (i : Int)),.pure (pln (Lg) = Yw mo (YM (pln L) P k) ((QA (pln L) P k).reverse.take kk) ∧ ZF mo (pln (Lg)) ((QA (pln L) P k).reverse.drop kk) ∧ (Lg).length ≤ gc ∧ gc ≤ maxLen)]) (L1:=[(11,.int .i64 (((nth (QA (pln L) P k) ((QA (pln L) P k).length - 1 - kk)) : Nat) : Int)),(3,.pointer (some ⟨b1,0,none⟩))]) h2 rfl (FR.round2 ha9 136 137 _ _ rfl rfl) ?_ ?_
  ·skip
   refine aS3 ?_
   exact Qga () aSx (fun w h=>h.ent aEt)
  skip
  refine aS2 ?_
  refine Qc5 (α:=Bool) [138,139,140,141,142,143,144,145,146,147,148,149,150,151,152,153,154] (fun x=>[(154,.bool x)]) (fun x=>x = true ↔ (0 < (nth (QA (pln L) P k) ((QA (pln L) P k).length - 1 - kk)) ∧ ((nth Lg (nth (QA (pln L) P k) ((QA (pln L) P k).length - 1 - kk))).es.length : Int) < mo / 2)) ?_ ?_
  ·skip
   refine QE [] QH ?_
   refine dP 0 ?_
   refine dP 1 ?_
   refine dP 2 ?_
   apply Xy 140
   ·exact rfl
   ·intro hg9
    have hs10:=hg9;try simp only [dT] at hs10
    refine dQo 3 140 [] hg9 rfl rfl rfl (XW rfl rfl Yd aPk rfl) ?_
    refine dPo 4 140 hg9 ?_
    refine dFo 5 140 hg9 ?_
    refine dFo 6 140 hg9 ?_
    refine dQo 7 140 [] hg9 rfl rfl rfl (XW rfl rfl YD aPk rfl) ?_
    refine dPo 8 140 hg9 ?_
    refine dVo 9 140 hg9 rfl rfl rfl (Qa rfl rfl rfl Qp ((nth (QA (pln L) P k) ((QA (pln L) P k).length - 1 - kk))) (by omega) (by omega) rfl) ?_
    refine Ql (show _ = Value.pointer (some ⟨ga,(nth (QA (pln L) P k) ((QA (pln L) P k).length - 1 - kk)) * 3,none⟩) from by rw [Nat.zero_add]) ?_
    refine dFo 10 140 hg9 ?_
    refine dQo 11 140 [] hg9 rfl rfl rfl (Qg rfl rfl Xb (fun w h=>HS.nd_cell hgi h aPk 1 rfl (by decide))) ?_
    refine dVo 12 140 hg9 rfl rfl rfl (QQ rfl rfl Tryz.underlying77) ?_
    refine dQo 13 140 [] hg9 rfl rfl rfl (XW rfl rfl Yd aPk rfl) ?_
    refine dQo 14 140 [] hg9 rfl rfl rfl (Qi rfl QhY rfl (fun w1 h1=>Qqr w1 bt j mo rm (some ⟨ga,0,none⟩) Lg.length gc hmo (HS.tbr h1 aPk))) ?_
    refine dPo 15 140 hg9 ?_
    refine dV 16 rfl (Qw rfl rfl hg9 rfl) ?_
    refine dNi ?_
    exact Qn (decide (((nth Lg (nth (QA (pln L) P k) ((QA (pln L) P k).length - 1 - kk))).es.length : Int) < mo / 2)) (by rw [decide_eq_true_eq];omega) aSx (fun w h=>h.ent aEt)
   intro hg11
   have hs12:=hg11;try simp only [dN] at hs12
   refine dOf 3 140 hg11 ?_
   refine dOf 4 140 hg11 ?_
   refine dOf 5 140 hg11 ?_
   refine dOf 6 140 hg11 ?_
   refine dOf 7 140 hg11 ?_
   refine dOf 8 140 hg11 ?_
   refine dOf 9 140 hg11 ?_
   refine dOf 10 140 hg11 ?_
   refine dOf 11 140 hg11 ?_
   refine dOf 12 140 hg11 ?_
   refine dOf 13 140 hg11 ?_
   refine dOf 14 140 hg11 ?_
   refine dOf 15 140 hg11 ?_
   refine dV 16 rfl (Qs rfl rfl hg11 rfl) ?_
   refine dNi ?_
   exact Qn false (by constructor <;> intro h9 <;> first | (cases h9;done) | omega) aSx (fun w h=>h.ent aEt)
  intro x hx
  refine Qd rfl (fun h13=>?_) fun h13=>?_
  ·skip
   obtain ⟨hpos,hbig⟩:=hx.1 (by assumption)
   refine aS3 ?_
   refine o_h (Q7 (Cs:=[.blk bt 112 6 (tbV (j : Int) mo rm (some ⟨ga,0,none⟩) (Lg).length gc),.blk ga 102 (gc * 3) ((Lg).flatMap LNd.vals),.star ((Lg).map (Qk 26))]) rfl QqH rfl aPs (fun w1 h1 hf=>c106 w1 bt j mo rm ga gc Lg (nth (QA (pln L) P k) ((QA (pln L) P k).length - 1 - kk)) (Xi (((nth (QA (pln L) P k) ((QA (pln L) P k).length - 1 - kk)) : Nat) : Int) (pln Lg) 0).1 (Xi (((nth (QA (pln L) P k) ((QA (pln L) P k).length - 1 - kk)) : Nat) : Int) (pln Lg) 0).2 hf hg3 hg4 rfl (hsp hpos hbig))) rfl (fun ⟨⟨g5,c5⟩,L5⟩ hF5=>?_)
   refine aS2 ?_
   exact ZR rfl aPk (fun w h=>⟨((g5,c5),L5),rfl,trivial,by exact (HS.add_pure (p:=pln L5 = Yw mo (YM (pln L) P k) ((QA (pln L) P k).reverse.take (kk + 1)) ∧ ZF mo (pln L5) ((QA (pln L) P k).reverse.drop (kk + 1)) ∧ L5.length ≤ c5 ∧ c5 ≤ maxLen) ⟨by rw [hst,Qbo,if_pos ⟨hpos,by rw [Qh hgi];exact hbig⟩];exact hF5.1,by have h9:=hnx;rw [Qbo,if_pos ⟨hpos,by rw [Qh hgi];exact hbig⟩] at h9;rw [hF5.1];exact h9,hF5.2.1,hF5.2.2⟩ h).ent aEt⟩)
  skip
  have hno : ¬ (0 < (nth (QA (pln L) P k) ((QA (pln L) P k).length - 1 - kk)) ∧ ((nth Lg (nth (QA (pln L) P k) ((QA (pln L) P k).length - 1 - kk))).es.length : Int) < mo / 2):=fun h9=>by have h8:=hx.2 h9;simp_all
  refine aS2 ?_
  exact ZR rfl aPk (fun w h=>⟨((ga,gc),Lg),rfl,trivial,by exact (HS.add_pure (p:=pln Lg = Yw mo (YM (pln L) P k) ((QA (pln L) P k).reverse.take (kk + 1)) ∧ ZF mo (pln Lg) ((QA (pln L) P k).reverse.drop (kk + 1)) ∧ Lg.length ≤ gc ∧ gc ≤ maxLen) ⟨by rw [hst,Qbo,if_neg (by rw [Qh hgi];exact hno)],by have h9:=hnx;rw [Qbo,if_neg (by rw [Qh hgi];exact hno)] at h9;exact h9,hg3,hg4⟩ h).ent aEt⟩)
 skip
 obtain ⟨⟨ga,gc⟩,LG⟩:=x
 dsimp only
 refine QV (fun w h=>h.get_pure aPk) fun hpu=>?_
 obtain ⟨hLG,_,hg3,hg4⟩:=hpu
 rw [show (QA (pln L) P k).length = (QA (pln L) P k).reverse.length from (List.length_reverse ..).symm,List.take_length] at hLG
 have hrot:=hok.rot
 rw [← hLG] at hrot
 have hiG : 0 < LG.length:=by rw [← Qc];exact hrot.lt
 have hlG:=hrot.len
 rw [Qc] at hlG
 have hNG:=Qh hiG
 have hrk:=hrot.kid
 rw [hNG] at hrk
 simp only [LNd.pl] at hrk
 refine aS9 ?_
 refine o_p (Qa rfl rfl rfl Qp (0) (by omega) (by omega) rfl) rfl ?_
 refine Qm (show _ = Value.pointer (some ⟨ga,0 * 3,none⟩) from by rw [Nat.zero_add]) ?_
 refine o_q (QK _ rfl rfl Xh rfl (fun w h=>HS.nd_cells hiG h aPk)) rfl ?_
 refine oAl (fun b14 _=>?_) Xa
 refine oSt ?_
 refine aS2 ?_
 refine Qj (L':=[(3,_),(12,_)]) aSx (fun _ h=>h) ?_
 refine aS6 ?_
 refine XD 5 169 174 _ _ rfl
  (by
   intro hg15
   have hs16:=hg15;try simp only [dT] at hs16
   refine oOn 169 hg15 ?_
   refine aS ?_
   refine oOn 169 hg15 ?_
   refine aS ?_
   refine oOn 169 hg15 ?_
   refine aS ?_
   refine oOn 169 hg15 ?_
   refine aS ?_
   refine o_p (Qw rfl rfl hg15 rfl) rfl ?_
   refine aS ?_
   exact oJn 5 174)
  (by
   intro hg17
   have hs18:=hg17;try simp only [dN] at hs18
   refine oOf 169 hg17 ?_
   refine oOf 169 hg17 ?_
   refine oOf 169 hg17 ?_
   refine oOf 169 hg17 ?_
   refine o_p (Qs rfl rfl hg17 rfl) rfl ?_
   refine aS ?_
   exact oJn 5 174) ?_
 refine aS ?_
 refine Xn (α:=List LNd) [13,175,176,177,178,179,180,181,182,183,184,185,186,187,188,189,190,191,192,193,194,195,196,197,198,199,200,201,202,203,204,205,206,207,208,209,210,211,212,213,214,215,216] (fun _=>[]) (fun x=>HS w (fps [.blk bt 112 6 (tbV (j : Int) mo rm (some ⟨gn,0,none⟩) (L).length cap),.blk gn 102 (cap * 3) ((L).flatMap LNd.vals),.star ((L).map (Qk 26)),.kids pa pc (iN P)]) [.obj D (.deferred (some [])),.blk bt 112 6 (tbV (j : Int) mo rm (some ⟨ga,0,none⟩) (x).length gc),.blk ga 102 (gc * 3) ((x).flatMap LNd.vals),.star ((x).map (Qk 26)),.blk b1 103 1 [.pointer (some ⟨bt,0,none⟩)]]) (fun x=>pln x = QaM rm (pln LG) ∧ x.length = LG.length) ?_ ?_
 ·skip
  refine Qd rfl (fun h19=>?_) fun h19=>?_
  ·try simp only [Bool.and_eq_true,decide_eq_true_eq] at h19
   have hc9:=h19
   have hrt : (nth LG 0).es.length = 0 ∧ (nth LG 0).cs.length = 1:=by omega
   obtain ⟨hk1,hck,hku⟩:=hrk hrt.2
   rw [Qc] at hck
   refine QV (fun w h=>HS.cs_some hiG (by omega) h aPk) fun hgr=>?_
   obtain ⟨gr9,hgr⟩:=hgr
   refine aS4 ?_
   refine o_p (Qa rfl rfl rfl Qv (0) (by omega) (by omega) hgr) rfl ?_
   refine o_q (Qg rfl rfl Xq (fun w h=>HS.cs_rd hiG (k:=0) (by omega) hgr h aPk)) rfl ?_
   refine Qm (show _ = Value.int .i64 ((kdN (pln LG) 0 0) : Int) from congrArg (Value.int .i64) (Qdp hNG (Int.le_of_lt hk1))) ?_
   refine aS3 ?_
   refine QE [] QH ?_
   refine dLd 0 [] ?_
   refine dP 1 ?_
   refine dFa 2 ?_
   refine dFa 3 ?_
   refine dLd 4 [] ?_
   refine dP 5 ?_
   refine dV 6 rfl (Qa rfl rfl rfl Qp ((kdN (pln LG) 0 0)) (by omega) (by omega) rfl) ?_
   refine Ql (show _ = Value.pointer (some ⟨ga,(kdN (pln LG) 0 0) * 3,none⟩) from by rw [Nat.zero_add]) ?_
   refine dFa 7 ?_
   refine dQ 8 [] rfl (Qg rfl rfl Xb (fun w h=>HS.nd_cell hck h aPk 1 rfl (by decide))) ?_
   refine dV 9 rfl (QQ rfl rfl Tryz.underlying77) ?_
   refine dLd 10 [] ?_
   refine dP 11 ?_
   refine dFa 12 ?_
   refine dFa 13 ?_
   refine dLd 14 [] ?_
   refine dP 15 ?_
   refine dNi ?_
   refine Qd rfl (fun h20=>?_) fun h20=>?_
   ·try simp only [dT] at h20
    have hcl : ((nth LG (kdN (pln LG) 0 0)).es.length : Int) ≤ rm:=h20
    refine QE [21,23] QH ?_
    refine dLd 0 [[],[]] ?_
    refine dP 1 ?_
    refine dFa 2 ?_
    refine dFa 3 ?_
    refine dLd 4 [[],[]] ?_
    refine dLd 5 [[9,8,7,6],[]] ?_
    refine dP 6 ?_
    refine dFa 7 ?_
    refine dFa 8 ?_
    refine dLd 9 [[],[]] ?_
    refine dP 10 ?_
    refine dLd 11 [[],[]] ?_
    refine dP 12 ?_
    refine dFa 13 ?_
    refine dFa 14 ?_
    refine dLd 15 [[],[]] ?_
    refine dP 16 ?_
    refine dV 17 rfl (Qa rfl rfl rfl Qp ((kdN (pln LG) 0 0)) (by omega) (by omega) rfl) ?_
    refine Ql (show _ = Value.pointer (some ⟨ga,(kdN (pln LG) 0 0) * 3,none⟩) from by rw [Nat.zero_add]) ?_
    refine dQ 18 [[],[]] rfl (QK _ rfl rfl Xh rfl (fun w h=>HS.nd_cells hck h aPk)) ?_
    refine dV 19 rfl (Xr (cs:=[_,_,_]) rfl rfl Z8 Xa rfl) ?_
    refine dV 20 rfl (Qa rfl rfl rfl Qp (0) (by omega) (by omega) rfl) ?_
    refine Ql (show _ = Value.pointer (some ⟨ga,0 * 3,none⟩) from by rw [Nat.zero_add]) ?_
    refine dSt 21 ?_ (hl:=(by rw [Qf nv3];show _ + 3 ≤ _;omega))
    refine dTu [23] ?_
    refine dV 22 rfl (Qa rfl rfl rfl Qp ((kdN (pln LG) 0 0)) (by omega) (by omega) rfl) ?_
    refine Ql (show _ = Value.pointer (some ⟨ga,(kdN (pln LG) 0 0) * 3,none⟩) from by rw [Nat.zero_add]) ?_
    refine QiD 23 rfl (Q9 rfl rfl rfl Xh rfl aPt (by rw [Qx,Qf nv3];show _ + 3 ≤ _;omega) rfl) (by kernel_rfl) (fun w h=>h.ent aEt) (fun _ _=>?_)
    refine dTu [] ?_
    refine dNi ?_
    refine ZV (fun w h=>HS.node_rot (i:=(kdN (pln LG) 0 0)) (j:=0) (gn:=ga) (cap:=gc) hck hiG (by have:=Qdp hNG (Int.le_of_lt hk1);simp only [LNd.pl] at this;omega) h aPk aPk) fun L8=>?_
    refine QV (fun w h=>h.1) fun hS8=>?_
    refine Xd (fun w h=>h.2) ?_
    exact Qn L8 ⟨by rw [hS8.1];exact (Qnc hNG hrt (Qh hck) hcl).symm,hS8.2⟩ aSx (fun w h=>by rw [hS8.2];exact h.ent aEt)
   try simp only [dN] at h20
   have hcl : ¬ ((nth LG (kdN (pln LG) 0 0)).es.length : Int) ≤ rm:=by have hq:=h20;omega
   refine aS ?_
   exact Qn LG ⟨(QmI hNG hrt (Qh hck) hcl).symm,rfl⟩ aSx (fun w h=>h.ent aEt)
  try simp only [Bool.and_eq_false_iff,decide_eq_false_iff_not] at h19
  have hc9:=h19
  have hrt : ¬ ((nth LG 0).es.length = 0 ∧ (nth LG 0).cs.length = 1):=by omega
  refine aS ?_
  exact Qn LG ⟨(QmQ hNG hrt).symm,rfl⟩ aSx (fun w h=>h.ent aEt)
 intro LR hx
 obtain ⟨hR,hRl⟩:=hx
 have hRu : (nth (pln LR) 0).us = true:=by rw [hR];exact Qmo hrot
 refine aS2 ?_
 refine o_h (Q7 (Cs:=[.blk bt 112 6 (tbV (j : Int) mo rm (some ⟨ga,0,none⟩) (LR).length gc),.blk ga 102 (gc * 3) ((LR).flatMap LNd.vals),.star ((LR).map (Qk 26))]) rfl Qqt rfl aPs (fun w1 h1 hf=>c107 w1 bt j mo rm ga gc LR hf (by omega) hg4 (by omega) (by omega) hRu)) rfl (fun ⟨⟨g7,c7⟩,L7⟩ hF7=>?_)
 refine aS ?_
 exact QfA rfl aPk (fun w' h'=>⟨((g7,c7),L7),rfl,⟨by rw [hF7.1,hR,hLG];rfl,hF7.2.1,hF7.2.2⟩,h'.ent aEt⟩)
theorem Qix : QmT Tryz.prog 26 = some [1,1]:=by kernel_rfl
theorem Qq5 : QT Tryz.prog 136 = true:=by kernel_rfl
theorem QqL : QT Tryz.prog 137 = true:=by kernel_rfl
theorem QoY : QT Tryz.prog 98 = true:=by kernel_rfl
theorem Qrz : QT Tryz.prog 99 = true:=by kernel_rfl
theorem c136 (w : World) (a b : Option Addr) (c d : Nat) (l m : List TEnt) (hs : Rw TEnt.vals 2 w [] a l) (ht : Rw TEnt.vals 2 w [] b m) (hl : l.length ≤ 100000) (hm : m.length ≤ 100000) : Calls Tryz.prog 136 #[.slice a l.length c,.slice b m.length d] w fun en w'=>en = .returned (.bool (decide (l = m))) ∧ Below w.heap.size w w':=by
 refine enter (args:=[_,_]) Tryz.func136 Tryz.ntmps136 rfl rfl (HS.refl w []) ?_
 iterate 13 refine aS ?_
 refine Qd rfl (fun h1=>?_) fun h1=>?_
 ·try simp only [Bool.not_eq_true',decide_eq_false_iff_not] at h1
  have hn9 : l ≠ m:=fun e=>by have hq:=h1;rw [e] at hq;simp at hq
  refine aS4 ?_
  exact rT rfl rfl (fun w' h'=>⟨by rw [decide_eq_false hn9];rfl,h'.below⟩)
 try simp only [Bool.not_eq_false',decide_eq_true_eq] at h1
 have hlm : l.length = m.length:=by have hq:=h1;omega
 refine aS9 ?_
 refine QN (α:=Nat) [4,5,13,14,15,16,17,18,19,20,21,22,23,24,25] (fun k=>[(13,.int .i64 (k : Int))]) (fun _=>HS w [] []) (fun k=>k ≤ l.length ∧ ∀ j,j < k → nth l j = nth m j) (fun k=>l.length - k) 0 ⟨Nat.zero_le _,fun j h=>absurd h (Nat.not_lt_zero j)⟩ aSx (fun w h=>h.ent aEt) (fun k hx=>?_)
 obtain ⟨hk1,hk3⟩:=hx
 refine aS5 ?_
 refine Qd rfl (fun h2=>?_) fun h2=>?_
 ·try simp only [dT] at h2
  have hk : k < l.length:=by omega
  have hk2 : k < m.length:=by omega
  refine aS9 ?_
  refine QE [] QH ?_
  refine dP 0 ?_
  refine dP 1 ?_
  refine dV 2 rfl (Qa rfl rfl rfl QB (k) (by omega) (by omega) (Rw.some hs (by omega))) ?_
  refine dQ 3 [] rfl (QY _ rfl rfl XC rfl (Rw.rd hs (by omega))) ?_
  refine dP 4 ?_
  refine dP 5 ?_
  refine dV 6 rfl (Qa rfl rfl rfl QB (k) (by omega) (by omega) (Rw.some ht (by omega))) ?_
  refine dQ 7 [] rfl (QY _ rfl rfl XC rfl (Rw.rd ht (by omega))) ?_
  refine dV 8 rfl (Qfi rfl rfl rfl Qix (by rfl) (by rfl) (by rfl)) ?_
  refine dNi ?_
  refine Qd rfl (fun h3=>?_) fun h3=>?_
  ·try simp only [Bool.not_eq_true',Bool.and_eq_false_iff,decide_eq_false_iff_not] at h3
   have hn9 : l ≠ m:=fun e=>by have hq:=h3;rw [e] at hq;simp at hq
   refine aS4 ?_
   exact rT rfl rfl (fun w' h'=>⟨by rw [decide_eq_false hn9];rfl,h'.below⟩)
  try simp only [Bool.not_eq_false',Bool.and_eq_true,decide_eq_true_eq] at h3
  have he9 : nth l k = nth m k:=by have hq:=h3;first | exact hq | exact QfH hq.1 hq.2.1
  refine aS4 ?_
  try refine oWr ?_
  refine aS2 ?_
  exact QD (k + 1) (by omega) ⟨by omega,fun j hj=>(Nat.lt_or_ge j k).elim (hk3 j) (fun h9=>by obtain rfl : j = k:=(by omega);exact he9)⟩ aSx (fun w h=>h.ent aEt)
 try simp only [dN] at h2
 have hl9 : l = m:=QaH hlm fun j hj=>hk3 j (by omega)
 refine Qu rfl ?_
 refine aS4 ?_
 exact rT rfl rfl (fun w' h'=>⟨by rw [decide_eq_true hl9];rfl,h'.below⟩)
theorem c137 (w : World) (a b : Option Addr) (c d : Nat) (l m : List Int) (hs : Rw inV 1 w [] a l) (ht : Rw inV 1 w [] b m) (hl : l.length ≤ 100000) (hm : m.length ≤ 100000) : Calls Tryz.prog 137 #[.slice a l.length c,.slice b m.length d] w fun en w'=>en = .returned (.bool (decide (l = m))) ∧ Below w.heap.size w w':=by
 refine enter (args:=[_,_]) Tryz.func137 Tryz.ntmps137 rfl rfl (HS.refl w []) ?_
 iterate 13 refine aS ?_
 refine Qd rfl (fun h1=>?_) fun h1=>?_
 ·try simp only [Bool.not_eq_true',decide_eq_false_iff_not] at h1
  have hn9 : l ≠ m:=fun e=>by have hq:=h1;rw [e] at hq;simp at hq
  refine aS4 ?_
  exact rT rfl rfl (fun w' h'=>⟨by rw [decide_eq_false hn9];rfl,h'.below⟩)
 try simp only [Bool.not_eq_false',decide_eq_true_eq] at h1
 have hlm : l.length = m.length:=by have hq:=h1;omega
 refine aS9 ?_
 refine QN (α:=Nat) [4,5,13,14,15,16,17,18,19,20,21,22,23,24,25] (fun k=>[(13,.int .i64 (k : Int))]) (fun _=>HS w [] []) (fun k=>k ≤ l.length ∧ ∀ j,j < k → nth l j = nth m j) (fun k=>l.length - k) 0 ⟨Nat.zero_le _,fun j h=>absurd h (Nat.not_lt_zero j)⟩ aSx (fun w h=>h.ent aEt) (fun k hx=>?_)
 obtain ⟨hk1,hk3⟩:=hx
 refine aS5 ?_
 refine Qd rfl (fun h2=>?_) fun h2=>?_
 ·try simp only [dT] at h2
  have hk : k < l.length:=by omega
  have hk2 : k < m.length:=by omega
  refine aS9 ?_
  refine QE [] QH ?_
  refine dP 0 ?_
  refine dP 1 ?_
  refine dV 2 rfl (Qa rfl rfl rfl Qv (k) (by omega) (by omega) (Rw.some hs (by omega))) ?_
  refine dQ 3 [] rfl (Qe rfl rfl Xq ((hs.rdj 0 (by omega) rfl))) ?_
  refine dP 4 ?_
  refine dP 5 ?_
  refine dV 6 rfl (Qa rfl rfl rfl Qv (k) (by omega) (by omega) (Rw.some ht (by omega))) ?_
  refine dQ 7 [] rfl (Qe rfl rfl Xq ((ht.rdj 0 (by omega) rfl))) ?_
  refine dP 8 ?_
  refine dNi ?_
  refine Qd rfl (fun h3=>?_) fun h3=>?_
  ·try simp only [Bool.not_eq_true',decide_eq_false_iff_not] at h3
   have hn9 : l ≠ m:=fun e=>by have hq:=h3;rw [e] at hq;simp at hq
   refine aS4 ?_
   exact rT rfl rfl (fun w' h'=>⟨by rw [decide_eq_false hn9];rfl,h'.below⟩)
  try simp only [Bool.not_eq_false',decide_eq_true_eq] at h3
  have he9 : nth l k = nth m k:=by have hq:=h3;first | exact hq | exact QfH hq.1 hq.2.1
  refine aS4 ?_
  try refine oWr ?_
  refine aS2 ?_
  exact QD (k + 1) (by omega) ⟨by omega,fun j hj=>(Nat.lt_or_ge j k).elim (hk3 j) (fun h9=>by obtain rfl : j = k:=(by omega);exact he9)⟩ aSx (fun w h=>h.ent aEt)
 try simp only [dN] at h2
 have hl9 : l = m:=QaH hlm fun j hj=>hk3 j (by omega)
 refine Qu rfl ?_
 refine aS4 ?_
 exact rT rfl rfl (fun w' h'=>⟨by rw [decide_eq_true hl9];rfl,h'.below⟩)
theorem c99 (w : World) (n m : LNd) (hne : Rw TEnt.vals 2 w [] n.ea n.es) (hnc : Rw inV 1 w [] n.ca n.cs) (hme : Rw TEnt.vals 2 w [] m.ea m.es) (hmc : Rw inV 1 w [] m.ca m.cs) (h1 : n.es.length ≤ 100000 ∧ n.cs.length ≤ 100000) (h2 : m.es.length ≤ 100000 ∧ m.cs.length ≤ 100000) : Calls Tryz.prog 99 #[.agg #[.bool n.us,.slice n.ea n.es.length n.ec,.slice n.ca n.cs.length n.cc],.agg #[.bool m.us,.slice m.ea m.es.length m.ec,.slice m.ca m.cs.length m.cc]] w fun en w'=>en = .returned (.bool (decide (n.pl = m.pl))) ∧ Below w.heap.size w w':=by
 refine enter (args:=[_,_]) Tryz.func99 Tryz.ntmps99 rfl rfl (HS.refl w []) ?_
 refine aS2 ?_
 refine oBx fun b1 _=>?_
 refine oBx fun b2 _=>?_
 refine aS8 ?_
 refine o_p (Qif rfl rfl rfl Tryz.underlying4) rfl ?_
 refine aS ?_
 refine XD 6 10 16 _ _ rfl
  (by
   intro hg3
   have hs4:=hg3;skip
   refine oOn 10 hg3 ?_
   refine aS ?_
   refine oOn 10 hg3 ?_
   refine aS ?_
   refine oOn 10 hg3 ?_
   refine aS ?_
   refine oOn 10 hg3 ?_
   refine aS ?_
   refine oOn 10 hg3 ?_
   refine o_q (Qi rfl Qq5 rfl (fun w1 h1=>c136 w1 n.ea m.ea n.ec m.ec n.es m.es (hne.later h1.nil) (hme.later h1.nil) (by omega) (by omega))) rfl ?_
   refine o_p (Qw rfl rfl hg3 rfl) rfl ?_
   refine aS ?_
   exact oJn 6 16)
  (by
   intro hg5
   have hs6:=hg5;skip
   refine oOf 10 hg5 ?_
   refine oOf 10 hg5 ?_
   refine oOf 10 hg5 ?_
   refine oOf 10 hg5 ?_
   refine oOf 10 hg5 ?_
   refine o_p (Qs rfl rfl hg5 rfl) rfl ?_
   refine aS ?_
   exact oJn 6 16) ?_
 refine aS ?_
 refine XD 6 17 23 _ _ rfl
  (by
   intro hg7
   have hs8:=hg7;try simp only [Bool.and_eq_true,decide_eq_true_eq] at hs8
   refine oOn 17 hg7 ?_
   refine aS ?_
   refine oOn 17 hg7 ?_
   refine aS ?_
   refine oOn 17 hg7 ?_
   refine aS ?_
   refine oOn 17 hg7 ?_
   refine aS ?_
   refine oOn 17 hg7 ?_
   refine o_q (Qi rfl QqL rfl (fun w1 h1=>c137 w1 n.ca m.ca n.cc m.cc n.cs m.cs (hnc.later h1.nil) (hmc.later h1.nil) (by omega) (by omega))) rfl ?_
   refine o_p (Qw rfl rfl hg7 rfl) rfl ?_
   refine aS ?_
   exact oJn 6 23)
  (by
   intro hg9
   have hs10:=hg9;try simp only [Bool.and_eq_false_iff,decide_eq_false_iff_not] at hs10
   refine oOf 17 hg9 ?_
   refine oOf 17 hg9 ?_
   refine oOf 17 hg9 ?_
   refine oOf 17 hg9 ?_
   refine oOf 17 hg9 ?_
   refine o_p (Qs rfl rfl hg9 rfl) rfl ?_
   refine aS ?_
   exact oJn 6 23) ?_
 refine aS2 ?_
 exact rT rfl rfl (fun w' h'=>⟨by simp only [Xw];rw [Qlj],h'.below⟩)
theorem c98 (w : World) (a : Option Addr) (cap : Nat) (L : List LNd) (k : Nat) (hs : Rw LNd.vals 3 w [] a L) : Calls Tryz.prog 98 #[.slice a L.length cap,.int .i64 (k : Int)] w fun en w'=>en = .returned (.agg (LNd.vals (nth L k)).toArray) ∧ Below w.heap.size w w':=by
 refine enter (args:=[_,_]) Tryz.func98 Tryz.ntmps98 rfl rfl (HS.refl w []) ?_
 refine aS2 ?_
 refine oAl (fun b1 _=>?_) Xa
 refine aS9 ?_
 refine Qd rfl (fun h2=>?_) fun h2=>?_
 ·try simp only [dT] at h2
  refine aS3 ?_
  refine o_p (Qa rfl rfl rfl Qp (k) (by omega) (by omega) (Rw.some hs (by omega))) rfl ?_
  refine o_q (QY _ rfl rfl Xh rfl (Rw.rd hs (by omega))) rfl ?_
  refine oSt ?_
  refine aS4 ?_
  refine oSt ?_
  refine aS ?_
  exact QM (rs:=[.cell 4 102]) rfl (.cell rfl Xh aPk rfl (.nil)) (fun w' h'=>⟨by first | rfl | (rw [Yu (by omega)];rfl),h'.below⟩)
 try simp only [dN] at h2
 refine aS4 ?_
 refine oSt ?_
 refine aS ?_
 exact QM (rs:=[.cell 4 102]) rfl (.cell rfl Xh aPk rfl (.nil)) (fun w' h'=>⟨by first | rfl | (rw [Yu (by omega)];rfl),h'.below⟩)
theorem c59 (w : World) (a b : Option Addr) (ca cb : Nat) (L M : List LNd) (hs : Nt w [] a L) (ht : Nt w [] b M) (hL : L.length ≤ 1000) (hM : M.length ≤ 1000) (hLs : Sm 100000 (pln L)) (hMs : Sm 100000 (pln M)) : Calls Tryz.prog 59 #[.slice a L.length ca,.slice b M.length cb] w fun en w'=>∃ g : Option Addr × Nat,en = .returned (.slice g.1 (ZU (pln L) (pln M)).length g.2) ∧ True ∧ HS w [] [.own (.slice g.1 ((ZU (pln L) (pln M))).length g.2) 3 1 ((ZU (pln L) (pln M))).length (((ZU (pln L) (pln M))).map fun i : Nat=>Value.int .i64 (i : Int))] w':=by
 refine enter (args:=[_,_]) Tryz.func59 Tryz.ntmps59 rfl rfl (HS.refl w []) ?_
 iterate 19 refine aS ?_
 refine o_p (Qnn rfl rfl rfl ) rfl ?_
 refine aS3 ?_
 refine QN (α:=Nat × Option Addr × Nat) [6,7,13,14,15,16,17,18,19,20,21,22,23,24,25,26,27,28,29,30] (fun x=>[(13,.int .i64 (x.1 : Int)),(6,.slice x.2.1 (Qdw (pln L) (pln M) x.1).length x.2.2)]) (fun x=>HS w [] [.own (.slice x.2.1 ((Qdw (pln L) (pln M) x.1)).length x.2.2) 3 1 ((Qdw (pln L) (pln M) x.1)).length (((Qdw (pln L) (pln M) x.1)).map fun i : Nat=>Value.int .i64 (i : Int))]) (fun x=>x.1 ≤ (max L.length M.length)) (fun x=>(max L.length M.length) - x.1) (0,none,0) (Nat.zero_le _) aSx (fun w h=>(h.own_nil 3 1).ent aEt) (fun ⟨k,ga,gc⟩ hk1=>?_)
 dsimp only
 simp only [] at hk1
 refine aS5 ?_
 refine Qd rfl (fun h1=>?_) fun h1=>?_
 ·try simp only [dT] at h1
  have hk : k < (max L.length M.length):=by have hq:=h1;omega
  have hkl:=Qne (pln L) (pln M) k
  iterate 13 refine aS ?_
  refine o_q (Yb rfl rfl QoY rfl (fun w1 h1=>c98 w1 a ca L k (Rw.later hs.1 h1.nil))) rfl ?_
  refine aS3 ?_
  refine o_q (Yb rfl rfl QoY rfl (fun w1 h1=>c98 w1 b cb M k (Rw.later ht.1 h1.nil))) rfl ?_
  refine o_q (Qi rfl Qrz rfl (fun w1 h1=>c99 w1 (nth L k) (nth M k) ((hs.esA k).later h1.nil) ((hs.csA k).later h1.nil) ((ht.esA k).later h1.nil) ((ht.csA k).later h1.nil) (by have:=hLs k;rw [Qak] at this;exact this) (by have:=hMs k;rw [Qak] at this;exact this))) rfl ?_
  refine aS2 ?_
  refine Qd rfl (fun h2=>?_) fun h2=>?_
  ·try simp only [Bool.not_eq_true',decide_eq_false_iff_not] at h2
   have hne9 : nth (pln L) k ≠ nth (pln M) k:=by rw [Qak,Qak];have hq:=h2;simpa using hq
   have hst:=Qn5 hne9
   refine aS3 ?_
   refine o_h (Qr (cs:=[_]) rfl rfl Qv X8 rfl rfl rfl) rfl (fun b3 _=>?_)
   refine o_h (QJ [_] rfl rfl rfl Qv Tryz.underlying30 X8 rfl aPk (Xv aPk) rfl (by intro u hu;simp only [List.mem_cons,List.mem_nil_iff,or_false] at hu;subst hu;rfl) (by omega) (by simp only [maxLen];omega)) rfl (fun b4 _=>?_)
   refine aS5 ?_
   try refine oWr ?_
   refine aS2 ?_
   exact QD (k + 1,b4.1,b4.2) (by (try simp only []);omega) (by (try simp only []);omega) (by dsimp only;rw [hst];simp only [List.length_append,List.length_singleton];exact aSx) (fun w h=>by have h2:=h;dsimp only;rw [hst];simp only [List.length_append,List.length_singleton,List.map_append,List.map_cons,List.map_nil];exact h2.ent aEt)
  try simp only [Bool.not_eq_false',decide_eq_true_eq] at h2
  have hne9 : nth (pln L) k = nth (pln M) k:=by rw [Qak,Qak];have hq:=h2;simpa using hq
  have hst:=Qom hne9
  refine aS4 ?_
  try refine oWr ?_
  refine aS2 ?_
  exact QD (k + 1,ga,gc) (by (try simp only []);omega) (by (try simp only []);omega) (by dsimp only;rw [hst];exact aSx) (fun w h=>by dsimp only;rw [hst];exact h.ent aEt)
 try simp only [dN] at h1
 obtain rfl : k = (max L.length M.length):=by omega
 refine Qu rfl ?_
 refine aS5 ?_
 exact rT rfl rfl (fun w' h'=>⟨(ga,gc),by unfold ZU;rw [Qc,Qc];rfl,trivial,by unfold ZU;rw [Qc,Qc];exact h'.ent aEt⟩)
end Go.Proofs
