/- Contracts of the program's functions, proved by walking them with the rules of the Gx texts; without conditions beyond those that each contract names. -/
import Derived.WalkKit
import Derived.Deep.Draws
import Derived.TacticsIn
import Derived.OrdersIn
import Derived.RangeFuncLeaves
import Derived.Lib.Strings
import Derived.Laws.BytesArg
import Derived.Laws.IdiomStrings
import Derived.Deep.Quiet
import Derived.ProofKit
import Derived.OpenShut
import Derived.Laws.StructEq
import Derived.ChangeKeysEq
import Derived.Laws.Externs
import Derived.Lib.Overlaps
import Derived.Carry
import Derived.Laws.Small
import Derived.Lib.Bytealg
import Derived.Test.YtfappgmkbnddiaaGreatProg
import Derived.KernelRfl
import Derived.Lib.Builder
import Derived.Laws.Pointers
import Derived.RangeFuncRecord
import Derived.Test.YtfappgmkbnddiaaGreatP4
set_option linter.unusedSimpArgs false
set_option linter.unusedVariables false
set_option linter.unusedSectionVars false
namespace Go.Proofs
open Go Go.RowKit Gx
attribute [local irreducible] Go.Calls Gx.S Gx.O Gx.D Gx.OpP Gx.OpQ Gx.OpH
set_option maxRecDepth 20000
theorem Qo0 : QT Tryz.prog 15 = true:=by kernel_rfl
theorem Qq8 : QT Tryz.prog 43 = true:=by kernel_rfl
theorem c15 (w : World) (x : TEnt) : Calls Tryz.prog 15 #[.agg #[.string (bs x.key),.string (bs x.val)]] w fun en w'=>en = .returned (.bool (ZI x)) ∧ Below w.heap.size w w':=by
 refine enter (args:=[_]) Tryz.func15 Tryz.ntmps15 rfl rfl (HS.refl w []) ?_
 refine aS2 ?_
 refine oBx fun b1 _=>?_
 refine aS6 ?_
 refine o_p (XB rfl rfl Tryz.underlying9) rfl ?_
 refine aS2 ?_
 refine XD 5 7 12 _ _ rfl
  (by
   intro hg2
   have hs3:=hg2;try simp only [dT] at hs3
   refine oOn 7 hg2 ?_
   refine aS ?_
   refine oOn 7 hg2 ?_
   refine aS ?_
   refine oOn 7 hg2 ?_
   refine o_p (XB rfl rfl Tryz.underlying9) rfl ?_
   refine oOn 7 hg2 ?_
   refine aS ?_
   refine o_p (Qw rfl rfl hg2 rfl) rfl ?_
   refine aS ?_
   exact oJn 5 12)
  (by
   intro hg4
   have hs5:=hg4;try simp only [dN] at hs5
   refine oOf 7 hg4 ?_
   refine oOf 7 hg4 ?_
   refine oOf 7 hg4 ?_
   refine oOf 7 hg4 ?_
   refine o_p (Qs rfl rfl hg4 rfl) rfl ?_
   refine aS ?_
   exact oJn 5 12) ?_
 refine aS2 ?_
 exact rT rfl rfl (fun w' h'=>⟨by simp only [Xw,ZI,Bool.decide_and];congr 3 <;> exact decide_eq_decide.2 (by omega),h'.below⟩)
theorem c43 (w : World) (a : Option Addr) (cap : Nat) (l : List TEnt) (hs : Rw TEnt.vals 2 w [] a l) (hl : l.length ≤ 1000) : Calls Tryz.prog 43 #[.slice a l.length cap] w fun en w'=>en = .returned (.bool (Qav l)) ∧ Below w.heap.size w w':=by
 refine enter (args:=[_]) Tryz.func43 Tryz.ntmps43 rfl rfl (HS.refl w []) ?_
 refine Zf ?_
 refine QN (α:=Nat) [2,3,4,5,6,7,8,9,10,11,12,13,14,15] (fun k=>[(3,.int .i64 (k : Int))]) (fun _=>HS w [] []) (fun k=>k ≤ l.length ∧ ∀ q,q < k → ZI (nth l q) = true) (fun k=>l.length - k) 0 ⟨Nat.zero_le _,fun q h=>absurd h (Nat.not_lt_zero q)⟩ aSx (fun w h=>h.ent aEt) (fun k hx=>?_)
 obtain ⟨hk1,hk3⟩:=hx
 refine aS8 ?_
 refine Qd rfl (fun h1=>?_) fun h1=>?_
 ·try simp only [dT] at h1
  have hk5 : k < l.length:=by omega
  refine aS7 ?_
  refine o_p (Qa rfl rfl rfl QB (k) (by omega) (by omega) (Rw.some hs (by omega))) rfl ?_
  refine o_q (QY _ rfl rfl XC rfl (Rw.rd hs hk5)) rfl ?_
  refine o_q (Qi rfl Qo0 rfl (fun w1 h1=>c15 w1 (nth l k))) rfl ?_
  refine aS2 ?_
  refine Qd rfl (fun h2=>?_) fun h2=>?_
  ·try simp only [Bool.not_eq_true'] at h2
   have hz1 : ¬ ZI (nth l k) = true:=by have hq:=h2;simp [hq]
   have hbad:=QkD hk5 hz1
   refine aS4 ?_
   exact rT rfl rfl (fun w' h'=>⟨by rw [hbad];rfl,h'.below⟩)
  try simp only [Bool.not_eq_false'] at h2
  have hz1 : ZI (nth l k) = true:=by have hq:=h2;simpa using hq
  refine aS5 ?_
  try refine oWr ?_
  refine aS2 ?_
  exact QD (k + 1) (by omega) ⟨by omega,fun q hq=>(Nat.lt_or_ge q k).elim (hk3 q) (fun h9=>by obtain rfl : q = k:=(by omega);exact hz1)⟩ aSx (fun w h=>h.ent aEt)
 try simp only [dN] at h1
 have hall:=QkG (es:=l) (fun q hq=>hk3 q (by omega))
 refine Qu rfl ?_
 refine aS4 ?_
 exact rT rfl rfl (fun w' h'=>⟨by rw [hall];rfl,h'.below⟩)
theorem c14 (w : World) (co mo rm : Int) (a : Option Addr) (cap : Nat) (L : List LNd) (hs : Nt w [] a L) : Calls Tryz.prog 14 #[.agg #[.int .i64 co,.int .i64 mo,.int .i64 rm,.slice a L.length cap]] w fun en w'=>en = .returned (.bool (YW (pln L))) ∧ Below w.heap.size w w':=by
 have hnl : (pln L).length = L.length:=Qc L
 refine enter (args:=[_]) Tryz.func14 Tryz.ntmps14 rfl rfl (HS.refl w []) ?_
 refine aS2 ?_
 refine oBx fun b1 _=>?_
 refine Zf ?_
 refine XD 5 8 13 _ _ rfl
  (by
   intro hg2
   have hs3:=hg2;try simp only [dT] at hs3
   refine oOn 8 hg2 ?_
   refine aS ?_
   refine oOn 8 hg2 ?_
   refine aS ?_
   refine oOn 8 hg2 ?_
   refine aS ?_
   refine oOn 8 hg2 ?_
   refine aS ?_
   refine o_p (Qw rfl rfl hg2 rfl) rfl ?_
   refine aS ?_
   exact oJn 5 13)
  (by
   intro hg4
   have hs5:=hg4;try simp only [dN] at hs5
   refine oOf 8 hg4 ?_
   refine oOf 8 hg4 ?_
   refine oOf 8 hg4 ?_
   refine oOf 8 hg4 ?_
   refine o_p (Qs rfl rfl hg4 rfl) rfl ?_
   refine aS ?_
   exact oJn 5 13) ?_
 refine aS ?_
 refine QaT 5 14 19 _ _ rfl
  (by
   intro hg6
   have hs7:=hg6;try simp only [Bool.and_eq_false_iff,decide_eq_false_iff_not] at hs7
   refine oOn 14 hg6 ?_
   refine aS ?_
   refine oOn 14 hg6 ?_
   refine aS ?_
   refine oOn 14 hg6 ?_
   refine aS ?_
   refine oOn 14 hg6 ?_
   refine aS ?_
   refine o_p (Qs rfl rfl hg6 rfl) rfl ?_
   refine aS ?_
   exact oJn 5 19)
  (by
   intro hg8
   have hs9:=hg8;try simp only [Bool.and_eq_true,decide_eq_true_eq] at hs9
   refine oOf 14 hg8 ?_
   refine oOf 14 hg8 ?_
   refine oOf 14 hg8 ?_
   refine oOf 14 hg8 ?_
   refine o_p (Qw rfl rfl hg8 rfl) rfl ?_
   refine aS ?_
   exact oJn 5 19) ?_
 refine aS ?_
 refine Qd rfl (fun h10=>?_) fun h10=>?_
 ·try simp only [Bool.or_eq_true,Bool.and_eq_true,decide_eq_true_eq] at h10
  have hbad:=QoE (ns:=pln L) (by rw [hnl];have hq:=h10;omega)
  refine aS4 ?_
  exact rT rfl rfl (fun w' h'=>⟨by rw [hbad];rfl,h'.below⟩)
 try simp only [Bool.or_eq_false_iff,Bool.and_eq_false_iff,decide_eq_false_iff_not] at h10
 have hlen : L.length ≤ 122 ∧ ¬ (60 < L.length ∧ L.length ≤ 120):=by have hq:=h10;omega
 refine aS7 ?_
 refine QN (α:=Nat) [2,3,20,21,22,23,24,25,26,27,28,29,30,31,32,33,34,35,36,37,38,39,40,41,42,43,44,45,46,47,48,49,50,51,52,53,54] (fun k=>[(3,.int .i64 (k : Int))]) (fun _=>HS w [] [.blk b1 24 4 [.int .i64 co,.int .i64 mo,.int .i64 rm,.slice a L.length cap]]) (fun k=>k ≤ L.length ∧ ∀ q,q < k → Qbb (nth (pln L) q) = true) (fun k=>L.length - k) 0 ⟨Nat.zero_le _,fun q h=>absurd h (Nat.not_lt_zero q)⟩ aSx (fun w h=>h.ent aEt) (fun k hx=>?_)
 obtain ⟨hk1,hk3⟩:=hx
 refine aS9 ?_
 refine Qd rfl (fun h11=>?_) fun h11=>?_
 ·try simp only [dT] at h11
  have hk5 : k < L.length:=by omega
  have hnk:=Qh hk5
  refine aS8 ?_
  refine o_p (Qa rfl rfl rfl Qp (k) (by omega) (by omega) (Rw.some hs.1 (by omega))) rfl ?_
  refine aS ?_
  refine o_q (Qe rfl rfl Xb ((hs.1.rdj 1 hk5 rfl))) rfl ?_
  refine aS3 ?_
  refine QaT 9 35 44 _ _ rfl
   (by
    intro hg12
    have hs13:=hg12;try simp only [dN] at hs13
    refine oOn 35 hg12 ?_
    refine aS ?_
    refine oOn 35 hg12 ?_
    refine aS ?_
    refine oOn 35 hg12 ?_
    refine aS ?_
    refine oOn 35 hg12 ?_
    refine o_p (Qa rfl rfl rfl Qp (k) (by omega) (by omega) (Rw.some hs.1 (by omega))) rfl ?_
    refine oOn 35 hg12 ?_
    refine aS ?_
    refine oOn 35 hg12 ?_
    refine o_q (Qe rfl rfl Q8 ((hs.1.rdj 2 hk5 rfl))) rfl ?_
    refine oOn 35 hg12 ?_
    refine aS ?_
    refine oOn 35 hg12 ?_
    refine aS ?_
    refine o_p (Qs rfl rfl hg12 rfl) rfl ?_
    refine aS ?_
    exact oJn 9 44)
   (by
    intro hg14
    have hs15:=hg14;try simp only [dT] at hs15
    refine oOf 35 hg14 ?_
    refine oOf 35 hg14 ?_
    refine oOf 35 hg14 ?_
    refine oOf 35 hg14 ?_
    refine oOf 35 hg14 ?_
    refine oOf 35 hg14 ?_
    refine oOf 35 hg14 ?_
    refine oOf 35 hg14 ?_
    refine o_p (Qw rfl rfl hg14 rfl) rfl ?_
    refine aS ?_
    exact oJn 9 44) ?_
  refine aS ?_
  refine QaT 9 45 54 _ _ rfl
   (by
    intro hg16
    have hs17:=hg16;try simp only [Bool.or_eq_false_iff,decide_eq_false_iff_not] at hs17
    refine oOn 45 hg16 ?_
    refine aS ?_
    refine oOn 45 hg16 ?_
    refine aS ?_
    refine oOn 45 hg16 ?_
    refine aS ?_
    refine oOn 45 hg16 ?_
    refine o_p (Qa rfl rfl rfl Qp (k) (by omega) (by omega) (Rw.some hs.1 (by omega))) rfl ?_
    refine oOn 45 hg16 ?_
    refine aS ?_
    refine oOn 45 hg16 ?_
    refine o_q (Qe rfl rfl Xb ((hs.1.rdj 1 hk5 rfl))) rfl ?_
    refine oOn 45 hg16 ?_
    refine o_q (Qi rfl Qq8 rfl (fun w1 h1=>c43 w1 (nth L k).ea (nth L k).ec (nth L k).es ((hs.es hk5).later h1) (by have hq:=hg16;omega))) rfl ?_
    refine oOn 45 hg16 ?_
    refine aS ?_
    refine o_p (Qs rfl rfl hg16 rfl) rfl ?_
    refine aS ?_
    exact oJn 9 54)
   (by
    intro hg18
    have hs19:=hg18;try simp only [Bool.or_eq_true,decide_eq_true_eq] at hs19
    refine oOf 45 hg18 ?_
    refine oOf 45 hg18 ?_
    refine oOf 45 hg18 ?_
    refine oOf 45 hg18 ?_
    refine oOf 45 hg18 ?_
    refine oOf 45 hg18 ?_
    refine oOf 45 hg18 ?_
    refine oOf 45 hg18 ?_
    refine o_p (Qw rfl rfl hg18 rfl) rfl ?_
    refine aS ?_
    exact oJn 9 54) ?_
  refine aS ?_
  refine Qd rfl (fun h20=>?_) fun h20=>?_
  ·try simp only [Bool.or_eq_true,decide_eq_true_eq,Bool.not_eq_true'] at h20
   have hz1 : ¬ Qbb (nth (pln L) k) = true:=by rw [hnk];have hq:=h20;exact Qok (hq.imp (fun h9=>by show 10 < (nth L k).es.length ∨ 11 < (nth L k).cs.length;omega) id)
   have hbad:=QnM (by rw [hnl];exact hk5) hz1
   refine aS4 ?_
   exact rT rfl rfl (fun w' h'=>⟨by rw [hbad];rfl,h'.below⟩)
  try simp only [Bool.or_eq_false_iff,decide_eq_false_iff_not,Bool.not_eq_false'] at h20
  have hz1 : Qbb (nth (pln L) k) = true:=by rw [hnk];have hq:=h20;exact QnQ (by show (nth L k).es.length ≤ 10;omega) (by show (nth L k).cs.length ≤ 11;omega) hq.2
  refine aS5 ?_
  try refine oWr ?_
  refine aS2 ?_
  exact QD (k + 1) (by omega) ⟨by omega,fun q hq=>(Nat.lt_or_ge q k).elim (hk3 q) (fun h9=>by obtain rfl : q = k:=(by omega);exact hz1)⟩ aSx (fun w h=>h.ent aEt)
 try simp only [dN] at h11
 have hall:=Qny (ns:=pln L) (by rw [hnl];exact hlen) (fun q hq=>hk3 q (by rw [hnl] at hq;omega))
 refine Qu rfl ?_
 refine aS4 ?_
 exact rT rfl rfl (fun w' h'=>⟨by rw [hall];rfl,h'.below⟩)
theorem c34m (w : World) (j : Nat) (mo rm : Int) (a : Option Addr) (cap : Nat) (L : List LNd) (key : List UInt8) (hs : Nt w [] a L) (hB : Bd (pln L)) (hkl : ∀ i,i < L.length → ∀ x ∈ (nth L i).es,x.key.length ≤ 1000000) (h0 : (XP (⟨(j : Int),mo,rm,pln L⟩ : Tre)).2 = 0) (hkk : key.length ≤ 1000000) (hx0 : XM (j : Int) key = 0) (hx : ¬ (Qb (j : Int) (pln L) key).2.2 = true) : Calls Tryz.prog 34 #[.agg #[.int .i64 (j : Int),.int .i64 mo,.int .i64 rm,.slice a L.length cap],.string (bs key)] w fun en w'=>en = .returned (.tuple #[.agg #[.string (bs []),.string (bs [])],.int .i64 6]) ∧ Below w.heap.size w w':=by
 obtain ⟨hc0,hz0,hl0,hl120,hn0,_,_⟩:=Ym h0
 rw [show ((⟨(j : Int),mo,rm,pln L⟩ : Tre)).ns = pln L from rfl,Qc] at hl0 hl120
 have hj : j ≤ 3:=by obtain ⟨j9,e9,hj9⟩:=YF hc0;have e8 : ((j : Nat) : Int) = (j9 : Int):=e9;omega
 have hT : TOk (j : Int) (pln L):=Yi (t:=(⟨(j : Int),mo,rm,pln L⟩ : Tre)) hn0
 have hmo:=(YH hz0).1
 simp only [] at hmo
 have hkey : QW (j : Int) key = true:=keyE_ok hx0
 refine enter (args:=[_,_]) Tryz.func34 Tryz.ntmps34 rfl rfl (HS.refl w []) ?_
 refine aS2 ?_
 refine oBx fun b1 _=>?_
 refine oAl (fun b2 _=>?_) Xm
 refine aS6 ?_
 refine o_h (QP rfl QiF rfl (fun w1 h1=>Qox w1 j mo rm a cap L key (hs.later h1.nil) hB hkl hkk h0)) rfl (fun ⟨b9,⟨gn9,c9⟩,L9⟩ hF9=>?_)
 dsimp only
 obtain ⟨hL9,hn9,hm9⟩:=hF9
 simp only [] at hL9 hn9 hm9
 have hl9 : L9.length = L.length:=by rw [← Qc L9,hL9,Qc]
 have hB9 : Bd (pln L9):=by rw [hL9];exact hB
 have hT9 : TOk (j : Int) (pln L9):=by rw [hL9];exact hT
 have hK9 : ∀ i,i < L9.length → ∀ y ∈ (nth L9 i).es,QW (j : Int) y.key = true ∧ y.key.length ≤ 1000000:=fun i hi y hy=>Ya hT9 i (by rw [Qc];exact hi) y (by rw [Qh hi];exact hy)
 refine Zp ?_
 refine Qd rfl (fun h3=>?_) fun h3=>?_
 ·try simp only [Bool.not_eq_true',decide_eq_false_iff_not] at h3
  exfalso;first | omega | (simp at h3;done) | (simp_all;done)
 try simp only [Bool.not_eq_false',decide_eq_true_eq] at h3
 refine aS5 ?_
 refine o_h (QP rfl QjW rfl (fun w1 h1=>c68 w1 b9 j mo rm (some ⟨gn9,0,none⟩) c9 L9 key hj (by omega) hB9 hT9 hK9 hkey hkk (HS.nt_at h1 aPk aPk) (HS.tbr h1 aPk))) rfl (fun ⟨pa,pc⟩ _=>?_)
 dsimp only
 rw [hL9]
 iterate 14 refine aS ?_
 refine Qd rfl (fun h4=>?_) fun h4=>?_
 ·try simp only [Bool.not_eq_true'] at h4
  refine aS2 ?_
  refine o_p (Xr (cs:=[_,_]) rfl rfl QiJ Xm rfl) rfl ?_
  refine oSt ?_
  refine aS2 ?_
  exact QM (rs:=[.cell 4 26,.tmp 5]) rfl (.cell rfl XC aPk rfl (.tmp rfl (.nil))) (fun w' h'=>⟨rfl,h'.below⟩)
 try simp only [Bool.not_eq_false'] at h4
 exfalso;first | omega | (simp at h4;done) | (simp_all;done)
theorem c36m (w : World) (j : Nat) (mo rm : Int) (a : Option Addr) (cap : Nat) (L : List LNd) (key : List UInt8) (hs : Nt w [] a L) (hB : Bd (pln L)) (hj : j ≤ 3) (hl0 : 0 < L.length) (hT : TOk (j : Int) (pln L)) (hkk : key.length ≤ 1000000) (hx0 : XM (j : Int) key = 0) (hx : ¬ (Qb (j : Int) (pln L) key).2.2 = true) : Calls Tryz.prog 36 #[.agg #[.int .i64 (j : Int),.int .i64 mo,.int .i64 rm,.slice a L.length cap],.string (bs key)] w fun en w'=>en = .returned (.tuple #[.agg #[.string (bs []),.string (bs [])],.bool false]) ∧ Below w.heap.size w w':=by
 have hkey : QW (j : Int) key = true:=keyE_ok hx0
 refine enter (args:=[_,_]) Tryz.func36 Tryz.ntmps36 rfl rfl (HS.refl w []) ?_
 refine aS2 ?_
 refine oBx fun b1 _=>?_
 refine oAl (fun b2 _=>?_) Xm
 refine aS6 ?_
 refine o_h (QP rfl Qjw rfl (fun w1 h1=>c20 w1 j mo rm a cap L key hj hl0 hB hT (hs.later h1.nil) hkey hkk)) rfl (fun ⟨pa,pc⟩ _=>?_)
 refine Zp ?_
 refine Qd rfl (fun h3=>?_) fun h3=>?_
 ·try simp only [Bool.not_eq_true'] at h3
  refine aS2 ?_
  refine o_p (Xr (cs:=[_,_]) rfl rfl QiJ Xm rfl) rfl ?_
  refine oSt ?_
  refine aS2 ?_
  exact QM (rs:=[.cell 4 26,.tmp 5]) rfl (.cell rfl XC aPk rfl (.tmp rfl (.nil))) (fun w' h'=>⟨rfl,h'.below⟩)
 try simp only [Bool.not_eq_false'] at h3
 exfalso;first | omega | (simp at h3;done) | (simp_all;done)
theorem c36o (w : World) (j : Nat) (mo rm : Int) (a : Option Addr) (cap : Nat) (L : List LNd) (key : List UInt8) (hs : Nt w [] a L) (hB : Bd (pln L)) (hj : j ≤ 3) (hl0 : 0 < L.length) (hT : TOk (j : Int) (pln L)) (hkk : key.length ≤ 1000000) (hx0 : XM (j : Int) key = 0) (hx : (Qb (j : Int) (pln L) key).2.2 = true) : Calls Tryz.prog 36 #[.agg #[.int .i64 (j : Int),.int .i64 mo,.int .i64 rm,.slice a L.length cap],.string (bs key)] w fun en w'=>en = .returned (.tuple #[.agg #[.string (bs (Qf6 (j : Int) (pln L) key).key),.string (bs (Qf6 (j : Int) (pln L) key).val)],.bool true]) ∧ Below w.heap.size w w':=by
 have hkey : QW (j : Int) key = true:=keyE_ok hx0
 have hK : ∀ i,i < L.length → ∀ y ∈ (nth L i).es,QW (j : Int) y.key = true ∧ y.key.length ≤ 1000000:=fun i hi y hy=>Ya hT i (by rw [Qc];exact hi) y (by rw [Qh hi];exact hy)
 have hend:=QhR hT (by rw [Qc];exact hl0) key
 obtain ⟨hp1,hp2,hp3,hp4,hp5⟩:=hend
 rw [Qc] at hp2 hp3
 have hlf : (Qo (Qb (j : Int) (pln L) key).1) < L.length:=hp3
 have hnf:=Qh hlf
 have hat:=QqF (hp5 ▸ hx)
 rw [← hp4,hnf] at hat
 simp only [LNd.pl] at hat
 have hpl4 : plc (j : Int) (nth L (Qo (Qb (j : Int) (pln L) key).1)).es key = (Qb (j : Int) (pln L) key).2.1:=by rw [hp4,hnf];rfl
 have hXN : (Qf6 (j : Int) (pln L) key) = nth (nth L (Qo (Qb (j : Int) (pln L) key).1)).es (Qb (j : Int) (pln L) key).2.1:=by rw [Qf6,hnf];rfl
 have hel:=hB.es (Qo (Qb (j : Int) (pln L) key).1) (by rw [Qc];exact hlf)
 rw [hnf] at hel
 simp only [LNd.pl] at hel
 have hle:=hB.len
 rw [Qc] at hle
 refine enter (args:=[_,_]) Tryz.func36 Tryz.ntmps36 rfl rfl (HS.refl w []) ?_
 refine aS2 ?_
 refine oBx fun b1 _=>?_
 refine oAl (fun b2 _=>?_) Xm
 refine aS6 ?_
 refine o_h (QP rfl Qjw rfl (fun w1 h1=>c20 w1 j mo rm a cap L key hj hl0 hB hT (hs.later h1.nil) hkey hkk)) rfl (fun ⟨pa,pc⟩ _=>?_)
 dsimp only
 refine QU (fun w h=>HS.pown_some (P:=(Qb (j : Int) (pln L) key).1) (a:=pa) (c:=pc) hp1 h aPk) fun hpa=>?_
 obtain ⟨gp,hpa⟩:=hpa
 refine Zp ?_
 refine Qd rfl (fun h3=>?_) fun h3=>?_
 ·try simp only [Bool.not_eq_true'] at h3
  exfalso;first | omega | (simp at h3;done) | (simp_all;done)
 try simp only [Bool.not_eq_false'] at h3
 refine aS7 ?_
 try refine oWr ?_
 refine o_p (Qa rfl rfl rfl Qv ((Qb (j : Int) (pln L) key).1.length - 1) (by omega) (by omega) hpa) rfl ?_
 refine o_q (Qg rfl rfl Xq (fun w h=>HS.pown_rd (P:=(Qb (j : Int) (pln L) key).1) (a:=pa) (c:=pc) (k:=(Qb (j : Int) (pln L) key).1.length - 1) (by omega) hpa h aPk)) rfl ?_
 refine Qm (show _ = Value.int .i64 (((Qo (Qb (j : Int) (pln L) key).1) : Nat) : Int) from rfl) ?_
 refine aS7 ?_
 refine o_q (Qi rfl QjE rfl (fun w1 h1=>by have h9:=c61 w1 j mo rm a cap L (Qo (Qb (j : Int) (pln L) key).1) key hj hlf (hs.later h1.nil) hle hel (hK _ hlf) hkey hkk;rw [hpl4] at h9;exact h9)) rfl ?_
 refine aS7 ?_
 refine Qj (L':=[(2,_),(4,_),(5,_),(8,_),(9,_)]) aSx (fun _ h=>h) ?_
 refine aS4 ?_
 refine o_p (Qa rfl rfl rfl Qp ((Qo (Qb (j : Int) (pln L) key).1)) (by omega) (by omega) (Rw.some hs.1 (by omega))) rfl ?_
 refine aS ?_
 refine o_q (Qe rfl rfl Xb ((hs.1.rdj 1 hlf rfl))) rfl ?_
 refine aS ?_
 refine o_p (Qa rfl rfl rfl QB ((Qb (j : Int) (pln L) key).2.1) (by omega) (by omega) (Rw.some (hs.es hlf) (by omega))) rfl ?_
 refine o_q (QY _ rfl rfl XC rfl (Rw.rd (hs.es hlf) hat)) rfl ?_
 refine oSt ?_
 refine aS2 ?_
 exact QM (rs:=[.cell 4 26,.tmp 5]) rfl (.cell rfl XC aPk rfl (.tmp rfl (.nil))) (fun w' h'=>⟨by rw [hXN];rfl,h'.below⟩)
theorem Qpc : QT Tryz.prog 14 = true:=by kernel_rfl
theorem Qo1 : QT Tryz.prog 18 = true:=by kernel_rfl
theorem Qo7 : QT Tryz.prog 36 = true:=by kernel_rfl
end Go.Proofs
namespace Gx
open Go Go.RowKit
def shA (ns : List Nd) : Nat → Int × Int × Int
 | 0=>(0,0,0)
 | k + 1=>if (nth ns k).us = true then ((shA ns k).1 + 1,(shA ns k).2.1 + ((nth ns k).es.length : Int),(shA ns k).2.2) else ((shA ns k).1,(shA ns k).2.1,(shA ns k).2.2 + 1)
def shpV (ns : List Nd) : List Value:=[.int .i64 (X3 ns ns.length 0 + 1),.int .i64 (shA ns ns.length).1,.int .i64 (shA ns ns.length).2.1,.int .i64 (shA ns ns.length).2.2]
end Gx
namespace Go.Proofs
open Go Go.RowKit Gx
attribute [local irreducible] Go.Calls Gx.S Gx.O Gx.D Gx.OpP Gx.OpQ Gx.OpH
set_option maxRecDepth 20000
end Go.Proofs
namespace Gx
open Go Go.RowKit
end Gx
namespace Go.Proofs
open Go Go.RowKit Gx
attribute [local irreducible] Go.Calls Gx.S Gx.O Gx.D Gx.OpP Gx.OpQ Gx.OpH
set_option maxRecDepth 20000
theorem c72 (w : World) (a : Option Addr) (cap : Nat) (l : List TEnt) (i : Nat) (hs : Rw TEnt.vals 2 w [] a l) (hl : l.length ≤ 100000) (hi : i < l.length) (hlc : l.length ≤ cap) : Calls Tryz.prog 72 #[.slice a l.length cap,.int .i64 (i : Int)] w fun en w'=>∃ g : Option Addr × Nat,en = .returned (.slice g.1 (Qt l i).length g.2) ∧ True ∧ HS w [] [.own (.slice g.1 (Qt l i).length g.2) 26 2 (Qt l i).length ((Qt l i).flatMap TEnt.vals)] w':=by
 refine enter (args:=[_,_]) Tryz.func72 Tryz.ntmps72 rfl rfl (HS.refl w []) ?_
 refine aS5 ?_
 refine QE [4,9] QH ?_
 refine dP 1 ?_
 refine dP 2 ?_
 refine dV 3 rfl (QX _ _ 0 i rfl rfl QB rfl ⟨_,_,rfl,rfl⟩ (by omega) (by omega)) ?_
 refine dP 5 ?_
 refine dP 6 ?_
 refine dP 7 ?_
 try refine dWr ?_
 refine dV 8 rfl (QX _ _ (i + 1) l.length rfl rfl QB ⟨_,_,rfl,(by omega)⟩ rfl (by omega) (by omega)) ?_
 refine dH 0 rfl (Xg rfl QB) (fun b1 _=>?_)
 refine dBa ?_
 refine dH 4 rfl (QJ ((l.take i).flatMap TEnt.vals) rfl rfl rfl QB Tryz.underlying77 Xm rfl aPk (fun w h=>Rw.src ev2 (Qbv (Rw.cut (i:=0) hs hlc) i) h) (by rw [Qf ev2,List.length_take,Nat.min_eq_left (by omega)];first | rfl | omega) (Xf ev1 _) (by omega) (by simp only [maxLen];omega)) (fun b2 _=>?_)
 refine dTu [9] ?_
 refine dH 9 rfl (QJ ((l.drop (i + 1)).flatMap TEnt.vals) rfl rfl rfl QB Tryz.underlying77 Xm rfl aPk (fun w h=>Rw.src ev2 (Rw.cut hs hlc) h) (by rw [Qf ev2,List.length_drop]) (Xf ev1 _) (by omega) (by simp only [maxLen];omega)) (fun b3 _=>?_)
 refine dTu [] ?_
 refine dP 10 ?_
 refine dNi ?_
 exact rT rfl rfl (fun w' h'=>⟨b3,by simp only [Xw];congr 2;rw [Zx hi];omega,trivial,by have h2:=h';rw [show 0 + (i - 0) + (l.length - (i + 1)) = l.length - 1 by omega,List.nil_append] at h2;rw [Zx hi,show (Qt l i).flatMap TEnt.vals = (l.take i).flatMap TEnt.vals ++ (l.drop (i + 1)).flatMap TEnt.vals by simp [Qt]];exact h2.ent aEt⟩)
theorem QpA (w : World) (a : Option Addr) (cap : Nat) (l : List Int) (i : Nat) (hs : Rw inV 1 w [] a l) (hl : l.length ≤ 100000) (hi : i < l.length) (hlc : l.length ≤ cap) : Calls Tryz.prog 108 #[.slice a l.length cap,.int .i64 (i : Int)] w fun en w'=>∃ g : Option Addr × Nat,en = .returned (.slice g.1 (Qt l i).length g.2) ∧ True ∧ HS w [] [.own (.slice g.1 (Qt l i).length g.2) 3 1 (Qt l i).length ((Qt l i).flatMap inV)] w':=by
 refine enter (args:=[_,_]) Tryz.func108 Tryz.ntmps108 rfl rfl (HS.refl w []) ?_
 refine aS5 ?_
 refine QE [4,9] QH ?_
 refine dP 1 ?_
 refine dP 2 ?_
 refine dV 3 rfl (QX _ _ 0 i rfl rfl Qv rfl ⟨_,_,rfl,rfl⟩ (by omega) (by omega)) ?_
 refine dP 5 ?_
 refine dP 6 ?_
 refine dP 7 ?_
 try refine dWr ?_
 refine dV 8 rfl (QX _ _ (i + 1) l.length rfl rfl Qv ⟨_,_,rfl,(by omega)⟩ rfl (by omega) (by omega)) ?_
 refine dH 0 rfl (Xg rfl Qv) (fun b1 _=>?_)
 refine dBa ?_
 refine dH 4 rfl (QJ ((l.take i).flatMap inV) rfl rfl rfl Qv Tryz.underlying30 X8 rfl aPk (fun w h=>Rw.src iv1 (Qbv (Rw.cut (i:=0) hs hlc) i) h) (by rw [Qf iv1,List.length_take,Nat.min_eq_left (by omega)];first | rfl | omega) (Xf QbX _) (by omega) (by simp only [maxLen];omega)) (fun b2 _=>?_)
 refine dTu [9] ?_
 refine dH 9 rfl (QJ ((l.drop (i + 1)).flatMap inV) rfl rfl rfl Qv Tryz.underlying30 X8 rfl aPk (fun w h=>Rw.src iv1 (Rw.cut hs hlc) h) (by rw [Qf iv1,List.length_drop]) (Xf QbX _) (by omega) (by simp only [maxLen];omega)) (fun b3 _=>?_)
 refine dTu [] ?_
 refine dP 10 ?_
 refine dNi ?_
 exact rT rfl rfl (fun w' h'=>⟨b3,by simp only [Xw];congr 2;rw [Zx hi];omega,trivial,by have h2:=h';rw [show 0 + (i - 0) + (l.length - (i + 1)) = l.length - 1 by omega,List.nil_append] at h2;rw [Zx hi,show (Qt l i).flatMap inV = (l.take i).flatMap inV ++ (l.drop (i + 1)).flatMap inV by simp [Qt]];exact h2.ent aEt⟩)
theorem QjO : QT Tryz.prog 72 = true:=by kernel_rfl
theorem Qiq : QT Tryz.prog 108 = true:=by kernel_rfl
theorem Qh2 {α : Type} (l : List α) : Qt l (l.length - 1) = l.take (l.length - 1):=by
  unfold Qt;rw [List.drop_of_length_le (by omega),List.append_nil]
theorem Y7 {α : Type} (l : List α) (x : α) : QI l l.length x = l ++ [x]:=by
  unfold QI;rw [List.take_length,List.drop_length]
theorem Qka {ns : List Nd} {p f : Nat} (hp : p < ns.length) (hne : p ≠ f) (es : List TEnt) (cs : List Int) : csN (esN (ns.set f ⟨false,[],[]⟩) p es) p cs = (csN (esN ns p es) p cs).set f ⟨false,[],[]⟩:=by
  rw [Qbx (by rw [List.length_set];exact hp),Qbx hp,List.set_comm _ _ hne,YO,if_neg (fun h=>hne h.1.symm)]
theorem QpP {ns : List Nd} {p q a b : Nat} {P A B : Nd} (hp : p < ns.length) (hpb : p ≠ b) (hP : nth ns p = P) (hA : nth ns a = A) (hB : nth ns b = B) : csN (esN ((csN (esN ns a (A.es ++ nth P.es q :: B.es)) a (A.cs ++ B.cs)).set b ⟨false,[],[]⟩) p (Qt P.es q)) p (Qt P.cs (q + 1)) = Qcv ns p q a b:=by
  subst hP hA hB;rw [Qka (by rw [Zw,XX];exact hp) hpb];rfl
set_option maxHeartbeats 2000000 in
theorem c73f (w : World) (bt : Nat) (j : Nat) (mo rm : Int) (gn cap : Nat) (L : List LNd) (p e x : Nat) (f : Nat) (hw : HS w (fps [.blk bt 24 4 [.int .i64 (j : Int),.int .i64 mo,.int .i64 rm,.slice (some ⟨gn,0,none⟩) (L).length cap],.blk gn 102 (cap * 3) ((L).flatMap LNd.vals),.star ((L).map (Qk 26))]) [.blk bt 24 4 [.int .i64 (j : Int),.int .i64 mo,.int .i64 rm,.slice (some ⟨gn,0,none⟩) (L).length cap],.blk gn 102 (cap * 3) ((L).flatMap LNd.vals),.star ((L).map (Qk 26))] w) (hnc : L.length ≤ cap) (hcm : cap ≤ maxLen) (hok : FilOk mo (pln L) p (e + 1)) (hx : kdN (pln L) p (e + 1) = x) (hix : ixR (nth (pln L) p).cs (x : Int) = (e + 1)) (hf0 : kdN (pln L) p e = f) (hrc : mo / 2 < ((nth (pln L) f).es.length : Int)) : Calls Tryz.prog 73 #[.pointer (some ⟨bt,0,none⟩),.int .i64 (p : Int),.int .i64 (x : Int)] w fun en w'=>∃ g : (Nat × Nat) × List LNd,en = .returned (.tuple #[]) ∧ (pln g.2 = Qex (pln L) p e f x ∧ g.2.length ≤ g.1.2 ∧ g.1.2 ≤ maxLen) ∧ HS w (fps [.blk bt 24 4 [.int .i64 (j : Int),.int .i64 mo,.int .i64 rm,.slice (some ⟨gn,0,none⟩) (L).length cap],.blk gn 102 (cap * 3) ((L).flatMap LNd.vals),.star ((L).map (Qk 26))]) [.blk bt 24 4 [.int .i64 (j : Int),.int .i64 mo,.int .i64 rm,.slice (some ⟨g.1.1,0,none⟩) (g.2).length g.1.2],.blk g.1.1 102 (g.1.2 * 3) ((g.2).flatMap LNd.vals),.star ((g.2).map (Qk 26))] w':=by
 have hpl:=hok.pl
 have hkl:=hok.kl
 have hsh:=hok.sh
 have hln:=hok.len
 have hmo:=hok.mo0
 have hsp:=hok.sm p
 rw [Qc] at hpl hln
 have hPN:=Qh hpl
 rw [hPN] at hkl hsh hsp hix
 simp only [LNd.pl] at hkl hsh hsp hix
 have hx0:=hx
 have hklx : (e + 1) < (nth L p).pl.cs.length:=hkl
 have hkx:=hok.kid (e + 1) (by rw [hPN];exact hklx)
 rw [hx0,Qc] at hkx
 obtain ⟨_,hxl,hpx⟩:=hkx
 have hcx:=hok.kd (x:=(e + 1)) (by rw [hPN];exact hklx)
 rw [hx0,hPN] at hcx
 simp only [LNd.pl] at hcx
 have hNx:=Qh hxl
 have hsx:=hok.sm x
 rw [hNx] at hsx
 simp only [LNd.pl] at hsx
 have hklf : e < (nth L p).pl.cs.length:=by show _ < (nth L p).cs.length;omega
 have hkf:=hok.kid e (by rw [hPN];exact hklf)
 rw [hf0,Qc] at hkf
 obtain ⟨_,hfl,hpf⟩:=hkf
 have hcf:=hok.kd (x:=e) (by rw [hPN];exact hklf)
 rw [hf0,hPN] at hcf
 simp only [LNd.pl] at hcf
 have hNf:=Qh hfl
 have hsf:=hok.sm f
 rw [hNf] at hsf
 simp only [LNd.pl] at hsf
 have hxf : x ≠ f:=by rw [← hx0,← hf0];exact hok.dis _ _ (by rw [hPN];exact hklx) (by rw [hPN];exact hklf) (by omega)
 rw [hNf] at hrc
 simp only [LNd.pl] at hrc
 refine enter (args:=[_,_,_]) Tryz.func73 Tryz.ntmps73 rfl rfl hw ?_
 refine aS7 ?_
 refine o_q (Qi rfl Qd9 rfl (fun w1 h1=>by have h9:=Qk9 w1 j mo rm (some ⟨gn,0,none⟩) cap L p (x : Int) hpl (HS.nt_at h1 aPk aPk) (by omega) (by omega);rw [hix] at h9;exact h9)) rfl ?_
 refine aS9 ?_
 refine o_p (Qa rfl rfl rfl Qp (p) (by omega) (by omega) rfl) rfl ?_
 refine Qm (show _ = Value.pointer (some ⟨gn,p * 3,none⟩) from by rw [Nat.zero_add]) ?_
 refine o_q (QK _ rfl rfl Xh rfl (fun w h=>HS.nd_cells hpl h aPk)) rfl ?_
 refine oAl (fun b1 _=>?_) Xa
 refine oSt ?_
 refine aS8 ?_
 refine o_p (Qa rfl rfl rfl Qp (x) (by omega) (by omega) rfl) rfl ?_
 refine Qm (show _ = Value.pointer (some ⟨gn,x * 3,none⟩) from by rw [Nat.zero_add]) ?_
 refine o_q (QK _ rfl rfl Xh rfl (fun w h=>HS.nd_cells hxl h aPk)) rfl ?_
 refine oAl (fun b2 _=>?_) Xa
 refine oSt ?_
 refine aS7 ?_
 refine o_p (YA rfl rfl rfl (by omega) (by omega) (by omega)) rfl ?_
 refine aS4 ?_
 refine Qj (L':=[(0,_),(1,_),(2,_),(6,_),(7,_),(8,_),(9,_)]) aSx (fun _ h=>h) ?_
 refine aS4 ?_
 refine Qd rfl (fun h3=>?_) fun h3=>?_
 ·try simp only [dT] at h3
  refine QV (fun w h=>HS.cs_some hpl (by omega) h aPk) fun hgc=>?_
  obtain ⟨gc9,hgc⟩:=hgc
  refine QV (fun w h=>HS.es_room hpl h aPk) fun hrP=>?_
  refine QV (fun w h=>HS.es_room hxl h aPk) fun hrX=>?_
  refine QV (fun w h=>HS.cs_room hxl h aPk) fun hrXc=>?_
  refine QV (fun w h=>HS.cs_room hpl h aPk) fun hrPc=>?_
  refine QV (fun w h=>HS.es_some hpl (by omega) h aPk) fun hge=>?_
  obtain ⟨gp9,hge⟩:=hge
  refine QV (fun w h=>HS.es_some hfl (by omega) h aPk) fun hgf=>?_
  obtain ⟨gf9,hgf⟩:=hgf
  refine QV (fun w h=>HS.es_room hfl h aPk) fun hrF=>?_
  refine QV (fun w h=>HS.cs_room hfl h aPk) fun hrFc=>?_
  refine aS6 ?_
  try refine oWr ?_
  refine o_p (Qa rfl rfl rfl Qv (e) (by omega) (by omega) hgc) rfl ?_
  refine o_q (Qg rfl rfl Xq (fun w h=>HS.cs_rd hpl (by omega) hgc h aPk)) rfl ?_
  refine Qm (show _ = Value.int .i64 (f : Int) from by rw [hcf]) ?_
  refine aS9 ?_
  refine o_p (Qa rfl rfl rfl Qp (f) (by omega) (by omega) rfl) rfl ?_
  refine Qm (show _ = Value.pointer (some ⟨gn,f * 3,none⟩) from by rw [Nat.zero_add]) ?_
  refine o_q (QK _ rfl rfl Xh rfl (fun w h=>HS.nd_cells hfl h aPk)) rfl ?_
  refine oAl (fun b4 _=>?_) Xa
  refine oSt ?_
  refine aS7 ?_
  try refine oWr ?_
  refine Qm (show _ = Value.int .i64 ((((nth L f).es.length - 1) : Nat) : Int) from by congr 1;omega) ?_
  refine aS8 ?_
  refine Qd rfl (fun h5=>?_) fun h5=>?_
  ·try simp only [dT] at h5
   refine aS ?_
   refine Qj (L':=[(0,_),(1,_),(2,_),(6,_),(7,_),(8,_),(9,_),(10,_),(11,_),(12,_)]) aSx (fun _ h=>h) ?_
   refine XK [.blk bt 24 4 [.int .i64 (j : Int),.int .i64 mo,.int .i64 rm,.slice (some ⟨gn,0,none⟩) L.length cap],.blk gn 102 (cap * 3) (L.flatMap LNd.vals),.star (L.map (Qk 26)),.blk b1 102 3 (LNd.vals (nth L p)),.blk b2 102 3 (LNd.vals (nth L x)),.blk b4 102 3 (LNd.vals (nth L f))] [16] QH ?_
   refine dP 0 ?_
   refine dP 1 ?_
   refine dFa 2 ?_
   refine dLd 3 [[]] ?_
   refine dP 4 ?_
   refine dFa 5 ?_
   refine dLd 6 [[]] ?_
   refine dFa 7 ?_
   refine dLd 8 [[]] ?_
   refine dP 9 ?_
   refine dP 10 ?_
   try refine dWr ?_
   refine dV 11 rfl (Qa rfl rfl rfl QB (e) (by omega) (by omega) hge) ?_
   refine dQ 12 [[]] rfl (QK _ rfl rfl XC rfl (fun w h=>HS.es_rd hpl (by omega) hge h aPk)) ?_
   refine dH 13 rfl (QP rfl QgZ rfl (fun w1 h1=>c62 w1 (nth L x).ea (nth L x).ec (nth L x).es 0 (nth (nth L p).es e) (HS.es_row hxl h1 aPk) (by omega) (Nat.zero_le _) hrX.1)) (fun b6 _=>?_)
   refine dV 14 rfl (Qa rfl rfl rfl Qp (x) (by omega) (by omega) rfl) ?_
   refine Ql (show _ = Value.pointer (some ⟨gn,x * 3,none⟩) from by rw [Nat.zero_add]) ?_
   refine dFa 15 ?_
   refine dSt 16 ?_ (hl:=(by rw [Qf nv3];show _ + 1 ≤ _;omega))
   refine dTu [] ?_
   refine dNi ?_
   refine aS ?_
   refine ZV (fun w h=>HS.es_set (gn:=gn) (cap:=cap) (ea:=b6.1) (ec:=b6.2) (es:=QI (nth L x).es 0 (nth (nth L p).es e)) hxl h aPk aPk aPk) fun L1=>?_
   refine QV (fun w h=>h.1) fun hS1=>?_
   refine Xd (fun w h=>h.2) ?_
   have hp1 : p < L1.length:=by rw [hS1.len];exact hpl
   have hf1 : f < L1.length:=by rw [hS1.len];exact hfl
   have hP1 : nth L1 p = nth L p:=hS1.other hpl (Ne.symm hpx)
   have hPl1 : (nth L1 p).es.length = (nth L p).es.length:=by rw [hP1]
   have hF1 : nth L1 f = nth L f:=hS1.other hfl hxf
   have hge1 : (nth L1 p).ea = some ⟨gp9,0,none⟩:=by rw [hP1];exact hge
   have hgf1 : (nth L1 f).ea = some ⟨gf9,0,none⟩:=by rw [hF1];exact hgf
   refine Xd (fun w h=>HS.es_open hp1 (by rw [hP1];omega) hge1 h aPk) ?_
   refine QE [16] QH ?_
   refine dP 0 ?_
   refine dP 1 ?_
   refine dFa 2 ?_
   refine dLd 3 [[]] ?_
   refine dP 4 ?_
   refine dV 5 rfl (Qa rfl rfl rfl Qp (p) (by omega) (by omega) rfl) ?_
   refine Ql (show _ = Value.pointer (some ⟨gn,p * 3,none⟩) from by rw [Nat.zero_add]) ?_
   refine dFa 6 ?_
   refine dQ 7 [[]] rfl (Qg rfl rfl Xb (fun w h=>HS.nd_cell hp1 h aPk 1 rfl (by decide))) ?_
   refine dP 8 ?_
   refine dP 9 ?_
   try refine dWr ?_
   refine dFa 10 ?_
   refine dLd 11 [[]] ?_
   refine dP 12 ?_
   refine dV 13 rfl (Qa rfl rfl rfl QB (((nth L f).es.length - 1)) (by omega) (by omega) hgf) ?_
   refine dQ 14 [[]] rfl (QK _ rfl rfl XC rfl (fun w h=>hF1 ▸ HS.es_rdB hf1 hpf (k:=((nth L f).es.length - 1)) (by rw [hF1];omega) hgf1 h aPk)) ?_
   refine dV 15 rfl (Qa rfl rfl rfl QB (e) (by omega) (by omega) hge1) ?_
   refine Ql (show _ = Value.pointer (some ⟨gp9,e * 2,none⟩) from by rw [Nat.zero_add]) ?_
   refine dSt 16 ?_ (hl:=(by rw [Qf ev2];show _ + 2 ≤ _;omega))
   refine dTu [] ?_
   refine dNi ?_
   refine aS ?_
   refine Qj (L':=[(0,_),(1,_),(2,_),(6,_),(7,_),(8,_),(9,_),(10,_),(11,_),(12,_)]) aSx (fun _ h=>h) ?_
   refine ZV (fun w h=>HS.es_upd (gn:=gn) (cap:=cap) (g:=gp9) (k:=e) (x:=nth (nth L f).es ((nth L f).es.length - 1)) hp1 (by rw [hP1];omega) hge1 h aPk aPk aPk (by rw [hP1];exact hrP)) fun L2=>?_
   refine QV (fun w h=>h.1) fun hS2=>?_
   refine Xd (fun w h=>h.2) ?_
   have hf2 : f < L2.length:=by rw [hS2.len];exact hf1
   have hF2 : nth L2 f = nth L f:=by rw [hS2.other hf1 hpf,hF1]
   have hx2 : x < L2.length:=by rw [hS2.len,hS1.len];exact hxl
   refine XK [.blk bt 24 4 [.int .i64 (j : Int),.int .i64 mo,.int .i64 rm,.slice (some ⟨gn,0,none⟩) L.length cap],.blk gn 102 (cap * 3) (L2.flatMap LNd.vals),.star (L2.map (Qk 26)),.blk b1 102 3 (LNd.vals (nth L p)),.blk b2 102 3 (LNd.vals (nth L x)),.blk b4 102 3 (LNd.vals (nth L f))] [11] QH ?_
   refine dP 0 ?_
   refine dP 1 ?_
   refine dFa 2 ?_
   refine dLd 3 [[]] ?_
   refine dP 4 ?_
   refine dFa 5 ?_
   refine dLd 6 [[]] ?_
   refine dP 7 ?_
   refine dH 8 rfl (QP rfl QjO rfl (fun w1 h1=>c72 w1 (nth L f).ea (nth L f).ec (nth L f).es ((nth L f).es.length - 1) (hF2 ▸ HS.es_row hf2 h1 aPk) (by omega) (by omega) hrF.1)) (fun b7 _=>?_)
   refine dV 9 rfl (Qa rfl rfl rfl Qp (f) (by omega) (by omega) rfl) ?_
   refine Ql (show _ = Value.pointer (some ⟨gn,f * 3,none⟩) from by rw [Nat.zero_add]) ?_
   refine dFa 10 ?_
   refine dSt 11 ?_ (hl:=(by rw [Qf nv3];show _ + 1 ≤ _;omega))
   refine dTu [] ?_
   refine dNi ?_
   refine aS4 ?_
   refine Y1 (fun w h=>HS.es_set (gn:=gn) (cap:=cap) (ea:=b7.1) (ec:=b7.2) (es:=Qt (nth L f).es ((nth L f).es.length - 1)) hf2 h aPk aPk aPk) fun L3=>?_
   refine QU (fun w h=>h.1) fun hS3=>?_
   refine QZ (fun w h=>h.2) ?_
   have hf3 : f < L3.length:=by rw [hS3.len];exact hf2
   have hx3 : x < L3.length:=by rw [hS3.len];exact hx2
   have hX3 : nth L3 x = nth L1 x:=by rw [hS3.other hx2 (Ne.symm hxf),hS2.other (by rw [hS1.len];exact hxl) hpx]
   have hcx3 : (nth L3 x).ca = (nth L x).ca ∧ (nth L3 x).cc = (nth L x).cc ∧ (nth L3 x).cs = (nth L x).cs:=by rw [hX3,hS1.at_];exact ⟨rfl,rfl,rfl⟩
   have hcf3 : (nth L3 f).ca = (nth L f).ca ∧ (nth L3 f).cc = (nth L f).cc ∧ (nth L3 f).cs = (nth L f).cs:=by rw [hS3.at_,hF2];exact ⟨rfl,rfl,rfl⟩
   have hln3 : L3.length = L.length:=by rw [hS3.len,hS2.len,hS1.len]
   refine aS3 ?_
   try refine oWr ?_
   refine aS7 ?_
   refine Qj (L':=[(0,_),(1,_),(2,_),(6,_),(7,_),(8,_),(9,_),(10,_),(11,_),(13,_),(114,_)]) aSx (fun _ h=>h) ?_
   refine Xn (α:=List LNd) [115,116,117,118,119,120,121,122,123,124,125,126,127,128,129,130,131,132,133,134,135,136,137,138,139,140] (fun _=>[]) (fun y=>HS w (fps [.blk bt 24 4 [.int .i64 (j : Int),.int .i64 mo,.int .i64 rm,.slice (some ⟨gn,0,none⟩) (L).length cap],.blk gn 102 (cap * 3) ((L).flatMap LNd.vals),.star ((L).map (Qk 26))]) [.blk bt 24 4 [.int .i64 (j : Int),.int .i64 mo,.int .i64 rm,.slice (some ⟨gn,0,none⟩) (y).length cap],.blk gn 102 (cap * 3) ((y).flatMap LNd.vals),.star ((y).map (Qk 26))]) (fun y=>pln y = (Qex (pln L) p e f x) ∧ y.length = L.length) ?_ ?_
   ·skip
    refine Qd rfl (fun h8=>?_) fun h8=>?_
    ·try simp only [dT] at h8
     have hcz : 0 < (nth L f).cs.length:=by have hq:=h8;omega
     refine QV (fun w h=>HS.cs_some hf3 (by rw [hcf3.2.2];exact hcz) h aPk) fun hgk=>?_
     obtain ⟨gk9,hgk⟩:=hgk
     have hgk0 : (nth L f).ca = some ⟨gk9,0,none⟩:=by rw [← hcf3.1];exact hgk
     refine aS ?_
     refine XK [.blk bt 24 4 [.int .i64 (j : Int),.int .i64 mo,.int .i64 rm,.slice (some ⟨gn,0,none⟩) L.length cap],.blk gn 102 (cap * 3) (L3.flatMap LNd.vals),.star (L3.map (Qk 26)),.blk b1 102 3 (LNd.vals (nth L p)),.blk b2 102 3 (LNd.vals (nth L x)),.blk b4 102 3 (LNd.vals (nth L f))] [15] QH ?_
     refine dP 0 ?_
     refine dP 1 ?_
     refine dFa 2 ?_
     refine dLd 3 [[]] ?_
     refine dP 4 ?_
     refine dFa 5 ?_
     refine dLd 6 [[]] ?_
     refine dFa 7 ?_
     refine dLd 8 [[]] ?_
     refine dP 9 ?_
     refine Ql (show _ = Value.int .i64 ((((nth L f).cs.length - 1) : Nat) : Int) from by congr 1;omega) ?_
     refine dV 10 rfl (Qa rfl rfl rfl Qv (((nth L f).cs.length - 1)) (by omega) (by omega) hgk0) ?_
     refine dQ 11 [[]] rfl (Qg rfl rfl Xq (fun w h=>hcf3.2.2 ▸ HS.cs_rd hf3 (k:=((nth L f).cs.length - 1)) (by rw [hcf3.2.2];omega) hgk h aPk)) ?_
     refine dH 12 rfl (QP rfl Qic rfl (fun w1 h1=>QqZ w1 (nth L x).ca (nth L x).cc (nth L x).cs 0 ((nth L f).cs.getD ((nth L f).cs.length - 1) 0) (QaF hcx3 (HS.cs_row hx3 h1 aPk)) (by omega) (Nat.zero_le _) hrXc.1)) (fun b9 _=>?_)
     refine dV 13 rfl (Qa rfl rfl rfl Qp (x) (by omega) (by omega) rfl) ?_
     refine Ql (show _ = Value.pointer (some ⟨gn,x * 3,none⟩) from by rw [Nat.zero_add]) ?_
     refine dFa 14 ?_
     refine dSt 15 ?_ (hl:=(by rw [Qf nv3];show _ + 1 ≤ _;omega))
     refine dTu [] ?_
     refine dNi ?_
     refine ZV (fun w h=>HS.cs_set (gn:=gn) (cap:=cap) (ca:=b9.1) (cc:=b9.2) (cs:=QI (nth L x).cs 0 ((nth L f).cs.getD ((nth L f).cs.length - 1) 0)) hx3 h aPk aPk aPk) fun L4=>?_
     refine QV (fun w h=>h.1) fun hS4=>?_
     refine Xd (fun w h=>h.2) ?_
     have hf4 : f < L4.length:=by rw [hS4.len];exact hf3
     have hcf4 : (nth L4 f).ca = (nth L f).ca ∧ (nth L4 f).cc = (nth L f).cc ∧ (nth L4 f).cs = (nth L f).cs:=by rw [hS4.other hf3 hxf];exact hcf3
     refine XK [.blk bt 24 4 [.int .i64 (j : Int),.int .i64 mo,.int .i64 rm,.slice (some ⟨gn,0,none⟩) L.length cap],.blk gn 102 (cap * 3) (L4.flatMap LNd.vals),.star (L4.map (Qk 26)),.blk b1 102 3 (LNd.vals (nth L p)),.blk b2 102 3 (LNd.vals (nth L x)),.blk b4 102 3 (LNd.vals (nth L f))] [11] QH ?_
     refine dP 0 ?_
     refine dP 1 ?_
     refine dFa 2 ?_
     refine dLd 3 [[]] ?_
     refine dP 4 ?_
     refine dFa 5 ?_
     refine dLd 6 [[]] ?_
     refine dP 7 ?_
     refine Ql (show _ = Value.int .i64 ((((nth L f).cs.length - 1) : Nat) : Int) from by congr 1;omega) ?_
     refine dH 8 rfl (QP rfl Qiq rfl (fun w1 h1=>QpA w1 (nth L f).ca (nth L f).cc (nth L f).cs ((nth L f).cs.length - 1) (QaF hcf4 (HS.cs_row hf4 h1 aPk)) (by omega) (by omega) hrFc.1)) (fun b10 _=>?_)
     refine dV 9 rfl (Qa rfl rfl rfl Qp (f) (by omega) (by omega) rfl) ?_
     refine Ql (show _ = Value.pointer (some ⟨gn,f * 3,none⟩) from by rw [Nat.zero_add]) ?_
     refine dFa 10 ?_
     refine dSt 11 ?_ (hl:=(by rw [Qf nv3];show _ + 1 ≤ _;omega))
     refine dTu [] ?_
     refine dNi ?_
     refine ZV (fun w h=>HS.cs_set (gn:=gn) (cap:=cap) (ca:=b10.1) (cc:=b10.2) (cs:=Qt (nth L f).cs ((nth L f).cs.length - 1)) hf4 h aPk aPk aPk) fun L5=>?_
     refine QV (fun w h=>h.1) fun hS5=>?_
     refine Xd (fun w h=>h.2) ?_
     have hz5 : L5.length = L.length:=by rw [hS5.len,hS4.len,hln3]
     exact Qn L5 ⟨by rw [hS5.cs,hS4.cs,hS3.es,hS2.es,hS1.es,hP1,Qh2,Qh2];exact (Qil hPN hNf hNx hcz).symm,hz5⟩ aSx (fun w h=>by rw [hz5];exact h.ent aEt)
    try simp only [dN] at h8
    have hcz : (nth L f).cs.length = 0:=by have hq:=h8;omega
    refine aS ?_
    exact Qn L3 ⟨by rw [hS3.es,hS2.es,hS1.es,hP1,Qh2];exact (QiB hPN hNf hNx hcz).symm,hln3⟩ aSx (fun w h=>by rw [hln3];exact h.ent aEt)
   intro LZ hLZ
   obtain ⟨hLZ1,hLZ2⟩:=hLZ
   exact QdR rfl (fun w' h'=>⟨((gn,cap),LZ),rfl,⟨hLZ1,by simp only [];omega,hcm⟩,h'.ent aEt⟩)
  try simp only [dN] at h5
  exfalso;first | omega | (simp at h5;done) | (simp_all;done)
 try simp only [dN] at h3
 exfalso;first | omega | (simp at h3;done) | (simp_all;done)
set_option maxHeartbeats 2000000 in
theorem c73b (w : World) (bt : Nat) (j : Nat) (mo rm : Int) (gn cap : Nat) (L : List LNd) (p k x : Nat) (f : Nat) (hw : HS w (fps [.blk bt 24 4 [.int .i64 (j : Int),.int .i64 mo,.int .i64 rm,.slice (some ⟨gn,0,none⟩) (L).length cap],.blk gn 102 (cap * 3) ((L).flatMap LNd.vals),.star ((L).map (Qk 26))]) [.blk bt 24 4 [.int .i64 (j : Int),.int .i64 mo,.int .i64 rm,.slice (some ⟨gn,0,none⟩) (L).length cap],.blk gn 102 (cap * 3) ((L).flatMap LNd.vals),.star ((L).map (Qk 26))] w) (hnc : L.length ≤ cap) (hcm : cap ≤ maxLen) (hok : FilOk mo (pln L) p k) (hx : kdN (pln L) p k = x) (hix : ixR (nth (pln L) p).cs (x : Int) = k) (hf0 : kdN (pln L) p (k + 1) = f) (hrc : mo / 2 < ((nth (pln L) f).es.length : Int)) (hno : ¬ (0 < k ∧ mo / 2 < ((nth (pln L) (kdN (pln L) p (k - 1))).es.length : Int))) (hkb : k + 1 < (nth (pln L) p).cs.length) : Calls Tryz.prog 73 #[.pointer (some ⟨bt,0,none⟩),.int .i64 (p : Int),.int .i64 (x : Int)] w fun en w'=>∃ g : (Nat × Nat) × List LNd,en = .returned (.tuple #[]) ∧ (pln g.2 = QcA (pln L) p k f x ∧ g.2.length ≤ g.1.2 ∧ g.1.2 ≤ maxLen) ∧ HS w (fps [.blk bt 24 4 [.int .i64 (j : Int),.int .i64 mo,.int .i64 rm,.slice (some ⟨gn,0,none⟩) (L).length cap],.blk gn 102 (cap * 3) ((L).flatMap LNd.vals),.star ((L).map (Qk 26))]) [.blk bt 24 4 [.int .i64 (j : Int),.int .i64 mo,.int .i64 rm,.slice (some ⟨g.1.1,0,none⟩) (g.2).length g.1.2],.blk g.1.1 102 (g.1.2 * 3) ((g.2).flatMap LNd.vals),.star ((g.2).map (Qk 26))] w':=by
 have hpl:=hok.pl
 have hkl:=hok.kl
 have hsh:=hok.sh
 have hln:=hok.len
 have hmo:=hok.mo0
 have hsp:=hok.sm p
 rw [Qc] at hpl hln
 have hPN:=Qh hpl
 rw [hPN] at hkl hsh hsp hix
 simp only [LNd.pl] at hkl hsh hsp hix
 have hx0:=hx
 have hklx : k < (nth L p).pl.cs.length:=hkl
 have hkx:=hok.kid k (by rw [hPN];exact hklx)
 rw [hx0,Qc] at hkx
 obtain ⟨_,hxl,hpx⟩:=hkx
 have hcx:=hok.kd (x:=k) (by rw [hPN];exact hklx)
 rw [hx0,hPN] at hcx
 simp only [LNd.pl] at hcx
 have hNx:=Qh hxl
 have hsx:=hok.sm x
 rw [hNx] at hsx
 simp only [LNd.pl] at hsx
 rw [hPN] at hkb
 simp only [LNd.pl] at hkb
 have hklf : (k + 1) < (nth L p).pl.cs.length:=by show _ < (nth L p).cs.length;omega
 have hkf:=hok.kid (k + 1) (by rw [hPN];exact hklf)
 rw [hf0,Qc] at hkf
 obtain ⟨_,hfl,hpf⟩:=hkf
 have hcf:=hok.kd (x:=(k + 1)) (by rw [hPN];exact hklf)
 rw [hf0,hPN] at hcf
 simp only [LNd.pl] at hcf
 have hNf:=Qh hfl
 have hsf:=hok.sm f
 rw [hNf] at hsf
 simp only [LNd.pl] at hsf
 have hxf : x ≠ f:=by rw [← hx0,← hf0];exact hok.dis _ _ (by rw [hPN];exact hklx) (by rw [hPN];exact hklf) (by omega)
 rw [hNf] at hrc
 simp only [LNd.pl] at hrc
 refine enter (args:=[_,_,_]) Tryz.func73 Tryz.ntmps73 rfl rfl hw ?_
 refine aS7 ?_
 refine o_q (Qi rfl Qd9 rfl (fun w1 h1=>by have h9:=Qk9 w1 j mo rm (some ⟨gn,0,none⟩) cap L p (x : Int) hpl (HS.nt_at h1 aPk aPk) (by omega) (by omega);rw [hix] at h9;exact h9)) rfl ?_
 refine aS9 ?_
 refine o_p (Qa rfl rfl rfl Qp (p) (by omega) (by omega) rfl) rfl ?_
 refine Qm (show _ = Value.pointer (some ⟨gn,p * 3,none⟩) from by rw [Nat.zero_add]) ?_
 refine o_q (QK _ rfl rfl Xh rfl (fun w h=>HS.nd_cells hpl h aPk)) rfl ?_
 refine oAl (fun b1 _=>?_) Xa
 refine oSt ?_
 refine aS8 ?_
 refine o_p (Qa rfl rfl rfl Qp (x) (by omega) (by omega) rfl) rfl ?_
 refine Qm (show _ = Value.pointer (some ⟨gn,x * 3,none⟩) from by rw [Nat.zero_add]) ?_
 refine o_q (QK _ rfl rfl Xh rfl (fun w h=>HS.nd_cells hxl h aPk)) rfl ?_
 refine oAl (fun b2 _=>?_) Xa
 refine oSt ?_
 refine aS7 ?_
 refine o_p (YA rfl rfl rfl (by omega) (by omega) (by omega)) rfl ?_
 refine QU (fun w h=>HS.cs_some hpl (by omega) h aPk) fun hgc=>?_
 obtain ⟨gc9,hgc⟩:=hgc
 refine QU (fun w h=>HS.es_room hpl h aPk) fun hrP=>?_
 refine QU (fun w h=>HS.es_room hxl h aPk) fun hrX=>?_
 refine QU (fun w h=>HS.cs_room hxl h aPk) fun hrXc=>?_
 refine QU (fun w h=>HS.cs_room hpl h aPk) fun hrPc=>?_
 refine QU (fun w h=>HS.es_some hpl (by omega) h aPk) fun hge=>?_
 obtain ⟨gp9,hge⟩:=hge
 refine QU (fun w h=>HS.es_some hfl (by omega) h aPk) fun hgf=>?_
 obtain ⟨gf9,hgf⟩:=hgf
 refine QU (fun w h=>HS.es_room hfl h aPk) fun hrF=>?_
 refine QU (fun w h=>HS.cs_room hfl h aPk) fun hrFc=>?_
 refine aS4 ?_
 refine Qj (L':=[(0,_),(1,_),(2,_),(6,_),(7,_),(8,_),(9,_)]) aSx (fun _ h=>h) ?_
 refine aS4 ?_
 refine Xn (α:=Unit) [10,11,12,13,46,47,48,49,50,51,52,53,54,55,56,57,58,59,60,61,62,63,64,65,66,67,68,69,70,71,72,73,74,75,76,77,78,79,80,81,82,83,84,85,86,87,88,89,90,91,92,93,94,95,96,97,98,99,100,101,102,103,104,105,106,107,108,109,110,111,112,113,114,115,116,117,118,119,120,121,122,123,124,125,126,127,128,129,130,131,132,133,134,135,136,137,138,139,140] (fun _=>[]) (fun _=>HS w (fps [.blk bt 24 4 [.int .i64 (j : Int),.int .i64 mo,.int .i64 rm,.slice (some ⟨gn,0,none⟩) (L).length cap],.blk gn 102 (cap * 3) ((L).flatMap LNd.vals),.star ((L).map (Qk 26))]) [.blk bt 24 4 [.int .i64 (j : Int),.int .i64 mo,.int .i64 rm,.slice (some ⟨gn,0,none⟩) L.length cap],.blk gn 102 (cap * 3) (L.flatMap LNd.vals),.star (L.map (Qk 26)),.blk b1 102 3 (LNd.vals (nth L p)),.blk b2 102 3 (LNd.vals (nth L x))]) (fun _=>True) ?_ ?_
 ·skip
  refine Qd rfl (fun h3=>?_) fun h3=>?_
  ·try simp only [dT] at h3
   have hk0 : 0 < k:=by have hq:=h3;omega
   have hkl9 : k - 1 < (nth L p).pl.cs.length:=by show _ < (nth L p).cs.length;omega
   have hy0 : (kdN (pln L) p (k - 1)) = (kdN (pln L) p (k - 1)):=rfl
   have hk9:=hok.kid (k - 1) (by rw [hPN];exact hkl9)
   rw [Qc] at hk9
   obtain ⟨_,hyl,hpy⟩:=hk9
   have hcy:=hok.kd (x:=k - 1) (by rw [hPN];exact hkl9)
   rw [show nth (pln L) p = (nth L p).pl from hPN] at hcy
   simp only [LNd.pl] at hcy
   have hNy:=Qh hyl
   have hsy:=hok.sm (kdN (pln L) p (k - 1))
   rw [hNy] at hsy
   simp only [LNd.pl] at hsy
   refine aS6 ?_
   try refine oWr ?_
   refine o_p (Qa rfl rfl rfl Qv (k - 1) (by omega) (by omega) hgc) rfl ?_
   refine o_q (Qg rfl rfl Xq (fun w h=>HS.cs_rd hpl (by omega) hgc h aPk)) rfl ?_
   refine Qm (show _ = Value.int .i64 ((kdN (pln L) p (k - 1)) : Int) from by rw [← hcy]) ?_
   refine aS9 ?_
   refine o_p (Qa rfl rfl rfl Qp ((kdN (pln L) p (k - 1))) (by omega) (by omega) rfl) rfl ?_
   refine Qm (show _ = Value.pointer (some ⟨gn,(kdN (pln L) p (k - 1)) * 3,none⟩) from by rw [Nat.zero_add]) ?_
   refine o_q (QK _ rfl rfl Xh rfl (fun w h=>HS.nd_cells hyl h aPk)) rfl ?_
   refine oAl (fun b4 _=>?_) Xa
   refine oSt ?_
   refine aS7 ?_
   try refine oWr ?_
   refine aS8 ?_
   refine Qd rfl (fun h5=>?_) fun h5=>?_
   ·try simp only [dT] at h5
    exfalso;have hq:=h5;exact hno ⟨hk0,by rw [hNy];show _ < ((nth L (kdN (pln L) p (k - 1))).es.length : Int);omega⟩
   try simp only [dN] at h5
   refine aS ?_
   exact Qn () trivial aSx (fun w h=>h.ent aEt)
  try simp only [dN] at h3
  refine aS ?_
  exact Qn () trivial aSx (fun w h=>h.ent aEt)
 intro _ _
 refine aS5 ?_
 try refine oWr ?_
 refine aS5 ?_
 refine Qd rfl (fun h6=>?_) fun h6=>?_
 ·try simp only [dT] at h6
  refine aS6 ?_
  try refine oWr ?_
  refine o_p (Qa rfl rfl rfl Qv (k + 1) (by omega) (by omega) hgc) rfl ?_
  refine o_q (Qg rfl rfl Xq (fun w h=>HS.cs_rd hpl (by omega) hgc h aPk)) rfl ?_
  refine Qm (show _ = Value.int .i64 (f : Int) from by rw [hcf]) ?_
  refine aS9 ?_
  refine o_p (Qa rfl rfl rfl Qp (f) (by omega) (by omega) rfl) rfl ?_
  refine Qm (show _ = Value.pointer (some ⟨gn,f * 3,none⟩) from by rw [Nat.zero_add]) ?_
  refine o_q (QK _ rfl rfl Xh rfl (fun w h=>HS.nd_cells hfl h aPk)) rfl ?_
  refine oAl (fun b7 _=>?_) Xa
  refine oSt ?_
  refine aS2 ?_
  refine Qj (L':=[(0,_),(1,_),(2,_),(6,_),(7,_),(8,_),(9,_),(14,_),(15,_)]) aSx (fun _ h=>h) ?_
  refine aS7 ?_
  refine Qd rfl (fun h8=>?_) fun h8=>?_
  ·try simp only [dT] at h8
   refine aS ?_
   refine XK [.blk bt 24 4 [.int .i64 (j : Int),.int .i64 mo,.int .i64 rm,.slice (some ⟨gn,0,none⟩) L.length cap],.blk gn 102 (cap * 3) (L.flatMap LNd.vals),.star (L.map (Qk 26)),.blk b1 102 3 (LNd.vals (nth L p)),.blk b2 102 3 (LNd.vals (nth L x)),.blk b7 102 3 (LNd.vals (nth L f))] [18] QH ?_
   refine dP 0 ?_
   refine dP 1 ?_
   refine dFa 2 ?_
   refine dLd 3 [[]] ?_
   refine dP 4 ?_
   refine dFa 5 ?_
   refine dLd 6 [[]] ?_
   refine dFa 7 ?_
   refine dLd 8 [[]] ?_
   refine dV 9 rfl (QQ rfl rfl Tryz.underlying77) ?_
   refine dFa 10 ?_
   refine dLd 11 [[]] ?_
   refine dP 12 ?_
   refine dV 13 rfl (Qa rfl rfl rfl QB (k) (by omega) (by omega) hge) ?_
   refine dQ 14 [[]] rfl (QK _ rfl rfl XC rfl (fun w h=>HS.es_rd hpl (by omega) hge h aPk)) ?_
   refine dH 15 rfl (QP rfl QgZ rfl (fun w1 h1=>c62 w1 (nth L x).ea (nth L x).ec (nth L x).es (nth L x).es.length (nth (nth L p).es k) (HS.es_row hxl h1 aPk) (by omega) (Nat.le_refl _) hrX.1)) (fun b9 _=>?_)
   refine dV 16 rfl (Qa rfl rfl rfl Qp (x) (by omega) (by omega) rfl) ?_
   refine Ql (show _ = Value.pointer (some ⟨gn,x * 3,none⟩) from by rw [Nat.zero_add]) ?_
   refine dFa 17 ?_
   refine dSt 18 ?_ (hl:=(by rw [Qf nv3];show _ + 1 ≤ _;omega))
   refine dTu [] ?_
   refine dNi ?_
   refine aS ?_
   refine Qj (L':=[(0,_),(1,_),(2,_),(6,_),(7,_),(8,_),(14,_),(15,_)]) aSx (fun _ h=>h) ?_
   refine ZV (fun w h=>HS.es_set (gn:=gn) (cap:=cap) (ea:=b9.1) (ec:=b9.2) (es:=QI (nth L x).es (nth L x).es.length (nth (nth L p).es k)) hxl h aPk aPk aPk) fun L1=>?_
   refine QV (fun w h=>h.1) fun hS1=>?_
   refine Xd (fun w h=>h.2) ?_
   have hp1 : p < L1.length:=by rw [hS1.len];exact hpl
   have hf1 : f < L1.length:=by rw [hS1.len];exact hfl
   have hP1 : nth L1 p = nth L p:=hS1.other hpl (Ne.symm hpx)
   have hPl1 : (nth L1 p).es.length = (nth L p).es.length:=by rw [hP1]
   have hF1 : nth L1 f = nth L f:=hS1.other hfl hxf
   have hge1 : (nth L1 p).ea = some ⟨gp9,0,none⟩:=by rw [hP1];exact hge
   have hgf1 : (nth L1 f).ea = some ⟨gf9,0,none⟩:=by rw [hF1];exact hgf
   refine Xd (fun w h=>HS.es_open hp1 (by rw [hP1];omega) hge1 h aPk) ?_
   refine QE [14] QH ?_
   refine dP 0 ?_
   refine dP 1 ?_
   refine dFa 2 ?_
   refine dLd 3 [[]] ?_
   refine dP 4 ?_
   refine dV 5 rfl (Qa rfl rfl rfl Qp (p) (by omega) (by omega) rfl) ?_
   refine Ql (show _ = Value.pointer (some ⟨gn,p * 3,none⟩) from by rw [Nat.zero_add]) ?_
   refine dFa 6 ?_
   refine dQ 7 [[]] rfl (Qg rfl rfl Xb (fun w h=>HS.nd_cell hp1 h aPk 1 rfl (by decide))) ?_
   refine dP 8 ?_
   refine dFa 9 ?_
   refine dLd 10 [[]] ?_
   refine dV 11 rfl (Qa rfl rfl rfl QB (0) (by omega) (by omega) hgf) ?_
   refine dQ 12 [[]] rfl (QK _ rfl rfl XC rfl (fun w h=>hF1 ▸ HS.es_rdB hf1 hpf (k:=0) (by rw [hF1];omega) hgf1 h aPk)) ?_
   refine dV 13 rfl (Qa rfl rfl rfl QB (k) (by omega) (by omega) hge1) ?_
   refine Ql (show _ = Value.pointer (some ⟨gp9,k * 2,none⟩) from by rw [Nat.zero_add]) ?_
   refine dSt 14 ?_ (hl:=(by rw [Qf ev2];show _ + 2 ≤ _;omega))
   refine dTu [] ?_
   refine dNi ?_
   refine aS ?_
   refine ZV (fun w h=>HS.es_upd (gn:=gn) (cap:=cap) (g:=gp9) (k:=k) (x:=nth (nth L f).es 0) hp1 (by rw [hP1];omega) hge1 h aPk aPk aPk (by rw [hP1];exact hrP)) fun L2=>?_
   refine QV (fun w h=>h.1) fun hS2=>?_
   refine Xd (fun w h=>h.2) ?_
   have hf2 : f < L2.length:=by rw [hS2.len];exact hf1
   have hF2 : nth L2 f = nth L f:=by rw [hS2.other hf1 hpf,hF1]
   have hx2 : x < L2.length:=by rw [hS2.len,hS1.len];exact hxl
   refine XK [.blk bt 24 4 [.int .i64 (j : Int),.int .i64 mo,.int .i64 rm,.slice (some ⟨gn,0,none⟩) L.length cap],.blk gn 102 (cap * 3) (L2.flatMap LNd.vals),.star (L2.map (Qk 26)),.blk b1 102 3 (LNd.vals (nth L p)),.blk b2 102 3 (LNd.vals (nth L x)),.blk b7 102 3 (LNd.vals (nth L f))] [10] QH ?_
   refine dP 0 ?_
   refine dP 1 ?_
   refine dFa 2 ?_
   refine dLd 3 [[]] ?_
   refine dP 4 ?_
   refine dFa 5 ?_
   refine dLd 6 [[]] ?_
   refine dH 7 rfl (QP rfl QjO rfl (fun w1 h1=>c72 w1 (nth L f).ea (nth L f).ec (nth L f).es 0 (hF2 ▸ HS.es_row hf2 h1 aPk) (by omega) (by omega) hrF.1)) (fun b10 _=>?_)
   refine dV 8 rfl (Qa rfl rfl rfl Qp (f) (by omega) (by omega) rfl) ?_
   refine Ql (show _ = Value.pointer (some ⟨gn,f * 3,none⟩) from by rw [Nat.zero_add]) ?_
   refine dFa 9 ?_
   refine dSt 10 ?_ (hl:=(by rw [Qf nv3];show _ + 1 ≤ _;omega))
   refine dTu [] ?_
   refine dNi ?_
   refine aS2 ?_
   refine Qj (L':=[(0,_),(1,_),(2,_),(6,_),(7,_),(8,_),(14,_),(15,_)]) aSx (fun _ h=>h) ?_
   refine aS2 ?_
   refine Y1 (fun w h=>HS.es_set (gn:=gn) (cap:=cap) (ea:=b10.1) (ec:=b10.2) (es:=Qt (nth L f).es 0) hf2 h aPk aPk aPk) fun L3=>?_
   refine QU (fun w h=>h.1) fun hS3=>?_
   refine QZ (fun w h=>h.2) ?_
   have hf3 : f < L3.length:=by rw [hS3.len];exact hf2
   have hx3 : x < L3.length:=by rw [hS3.len];exact hx2
   have hX3 : nth L3 x = nth L1 x:=by rw [hS3.other hx2 (Ne.symm hxf),hS2.other (by rw [hS1.len];exact hxl) hpx]
   have hcx3 : (nth L3 x).ca = (nth L x).ca ∧ (nth L3 x).cc = (nth L x).cc ∧ (nth L3 x).cs = (nth L x).cs:=by rw [hX3,hS1.at_];exact ⟨rfl,rfl,rfl⟩
   have hcf3 : (nth L3 f).ca = (nth L f).ca ∧ (nth L3 f).cc = (nth L f).cc ∧ (nth L3 f).cs = (nth L f).cs:=by rw [hS3.at_,hF2];exact ⟨rfl,rfl,rfl⟩
   have hln3 : L3.length = L.length:=by rw [hS3.len,hS2.len,hS1.len]
   refine aS4 ?_
   refine Xn (α:=List LNd) [211,212,213,214,215,216,217,218,219,220,221,222,223,224,225,226,227,228,229,230,231,232,233,234,235,236,237] (fun _=>[]) (fun y=>HS w (fps [.blk bt 24 4 [.int .i64 (j : Int),.int .i64 mo,.int .i64 rm,.slice (some ⟨gn,0,none⟩) (L).length cap],.blk gn 102 (cap * 3) ((L).flatMap LNd.vals),.star ((L).map (Qk 26))]) [.blk bt 24 4 [.int .i64 (j : Int),.int .i64 mo,.int .i64 rm,.slice (some ⟨gn,0,none⟩) (y).length cap],.blk gn 102 (cap * 3) ((y).flatMap LNd.vals),.star ((y).map (Qk 26))]) (fun y=>pln y = (QcA (pln L) p k f x) ∧ y.length = L.length) ?_ ?_
   ·skip
    refine Qd rfl (fun h11=>?_) fun h11=>?_
    ·try simp only [dT] at h11
     have hcz : 0 < (nth L f).cs.length:=by have hq:=h11;omega
     refine QV (fun w h=>HS.cs_some hf3 (by rw [hcf3.2.2];exact hcz) h aPk) fun hgk=>?_
     obtain ⟨gk9,hgk⟩:=hgk
     have hgk0 : (nth L f).ca = some ⟨gk9,0,none⟩:=by rw [← hcf3.1];exact hgk
     refine aS ?_
     refine XK [.blk bt 24 4 [.int .i64 (j : Int),.int .i64 mo,.int .i64 rm,.slice (some ⟨gn,0,none⟩) L.length cap],.blk gn 102 (cap * 3) (L3.flatMap LNd.vals),.star (L3.map (Qk 26)),.blk b1 102 3 (LNd.vals (nth L p)),.blk b2 102 3 (LNd.vals (nth L x)),.blk b7 102 3 (LNd.vals (nth L f))] [17] QH ?_
     refine dP 0 ?_
     refine dP 1 ?_
     refine dFa 2 ?_
     refine dLd 3 [[]] ?_
     refine dP 4 ?_
     refine dFa 5 ?_
     refine dLd 6 [[]] ?_
     refine dFa 7 ?_
     refine dLd 8 [[]] ?_
     refine dV 9 rfl (QQ rfl rfl Tryz.underlying30) ?_
     refine dFa 10 ?_
     refine dLd 11 [[]] ?_
     refine dV 12 rfl (Qa rfl rfl rfl Qv (0) (by omega) (by omega) hgk0) ?_
     refine dQ 13 [[]] rfl (Qg rfl rfl Xq (fun w h=>hcf3.2.2 ▸ HS.cs_rd hf3 (k:=0) (by rw [hcf3.2.2];omega) hgk h aPk)) ?_
     refine dH 14 rfl (QP rfl Qic rfl (fun w1 h1=>QqZ w1 (nth L x).ca (nth L x).cc (nth L x).cs (nth L x).cs.length ((nth L f).cs.getD 0 0) (QaF hcx3 (HS.cs_row hx3 h1 aPk)) (by omega) (Nat.le_refl _) hrXc.1)) (fun b12 _=>?_)
     refine dV 15 rfl (Qa rfl rfl rfl Qp (x) (by omega) (by omega) rfl) ?_
     refine Ql (show _ = Value.pointer (some ⟨gn,x * 3,none⟩) from by rw [Nat.zero_add]) ?_
     refine dFa 16 ?_
     refine dSt 17 ?_ (hl:=(by rw [Qf nv3];show _ + 1 ≤ _;omega))
     refine dTu [] ?_
     refine dNi ?_
     refine ZV (fun w h=>HS.cs_set (gn:=gn) (cap:=cap) (ca:=b12.1) (cc:=b12.2) (cs:=QI (nth L x).cs (nth L x).cs.length ((nth L f).cs.getD 0 0)) hx3 h aPk aPk aPk) fun L4=>?_
     refine QV (fun w h=>h.1) fun hS4=>?_
     refine Xd (fun w h=>h.2) ?_
     have hf4 : f < L4.length:=by rw [hS4.len];exact hf3
     have hcf4 : (nth L4 f).ca = (nth L f).ca ∧ (nth L4 f).cc = (nth L f).cc ∧ (nth L4 f).cs = (nth L f).cs:=by rw [hS4.other hf3 hxf];exact hcf3
     refine XK [.blk bt 24 4 [.int .i64 (j : Int),.int .i64 mo,.int .i64 rm,.slice (some ⟨gn,0,none⟩) L.length cap],.blk gn 102 (cap * 3) (L4.flatMap LNd.vals),.star (L4.map (Qk 26)),.blk b1 102 3 (LNd.vals (nth L p)),.blk b2 102 3 (LNd.vals (nth L x)),.blk b7 102 3 (LNd.vals (nth L f))] [10] QH ?_
     refine dP 0 ?_
     refine dP 1 ?_
     refine dFa 2 ?_
     refine dLd 3 [[]] ?_
     refine dP 4 ?_
     refine dFa 5 ?_
     refine dLd 6 [[]] ?_
     refine dH 7 rfl (QP rfl Qiq rfl (fun w1 h1=>QpA w1 (nth L f).ca (nth L f).cc (nth L f).cs 0 (QaF hcf4 (HS.cs_row hf4 h1 aPk)) (by omega) (by omega) hrFc.1)) (fun b13 _=>?_)
     refine dV 8 rfl (Qa rfl rfl rfl Qp (f) (by omega) (by omega) rfl) ?_
     refine Ql (show _ = Value.pointer (some ⟨gn,f * 3,none⟩) from by rw [Nat.zero_add]) ?_
     refine dFa 9 ?_
     refine dSt 10 ?_ (hl:=(by rw [Qf nv3];show _ + 1 ≤ _;omega))
     refine dTu [] ?_
     refine dNi ?_
     refine ZV (fun w h=>HS.cs_set (gn:=gn) (cap:=cap) (ca:=b13.1) (cc:=b13.2) (cs:=Qt (nth L f).cs 0) hf4 h aPk aPk aPk) fun L5=>?_
     refine QV (fun w h=>h.1) fun hS5=>?_
     refine Xd (fun w h=>h.2) ?_
     have hz5 : L5.length = L.length:=by rw [hS5.len,hS4.len,hln3]
     exact Qn L5 ⟨by rw [hS5.cs,hS4.cs,hS3.es,hS2.es,hS1.es,hP1,Y7,Y7];exact (Qh4 hPN hNf hNx hcz).symm,hz5⟩ aSx (fun w h=>by rw [hz5];exact h.ent aEt)
    try simp only [dN] at h11
    have hcz : (nth L f).cs.length = 0:=by have hq:=h11;omega
    refine aS ?_
    exact Qn L3 ⟨by rw [hS3.es,hS2.es,hS1.es,hP1,Y7];exact (Qia hPN hNf hNx hcz).symm,hln3⟩ aSx (fun w h=>by rw [hln3];exact h.ent aEt)
   intro LZ hLZ
   obtain ⟨hLZ1,hLZ2⟩:=hLZ
   exact QdR rfl (fun w' h'=>⟨((gn,cap),LZ),rfl,⟨hLZ1,by simp only [];omega,hcm⟩,h'.ent aEt⟩)
  try simp only [dN] at h8
  exfalso;first | omega | (simp at h8;done) | (simp_all;done)
 try simp only [dN] at h6
 exfalso;first | omega | (simp at h6;done) | (simp_all;done)
set_option maxHeartbeats 2000000 in
theorem c73m (w : World) (bt : Nat) (j : Nat) (mo rm : Int) (gn cap : Nat) (L : List LNd) (p k x : Nat) (q a b : Nat) (hw : HS w (fps [.blk bt 24 4 [.int .i64 (j : Int),.int .i64 mo,.int .i64 rm,.slice (some ⟨gn,0,none⟩) (L).length cap],.blk gn 102 (cap * 3) ((L).flatMap LNd.vals),.star ((L).map (Qk 26))]) [.blk bt 24 4 [.int .i64 (j : Int),.int .i64 mo,.int .i64 rm,.slice (some ⟨gn,0,none⟩) (L).length cap],.blk gn 102 (cap * 3) ((L).flatMap LNd.vals),.star ((L).map (Qk 26))] w) (hnc : L.length ≤ cap) (hcm : cap ≤ maxLen) (hok : FilOk mo (pln L) p k) (hx : kdN (pln L) p k = x) (hix : ixR (nth (pln L) p).cs (x : Int) = k) (hno : ¬ (0 < k ∧ mo / 2 < ((nth (pln L) (kdN (pln L) p (k - 1))).es.length : Int))) (hnb : ¬ (k + 1 < (nth (pln L) p).cs.length ∧ mo / 2 < ((nth (pln L) (kdN (pln L) p (k + 1))).es.length : Int))) (h2 : 2 ≤ (nth (pln L) p).cs.length) (hq0 : q = if k = 0 then 0 else k - 1) (ha0 : kdN (pln L) p q = a) (hb0 : kdN (pln L) p (q + 1) = b) : Calls Tryz.prog 73 #[.pointer (some ⟨bt,0,none⟩),.int .i64 (p : Int),.int .i64 (x : Int)] w fun en w'=>∃ g : (Nat × Nat) × List LNd,en = .returned (.tuple #[]) ∧ (pln g.2 = Qcv (pln L) p q a b ∧ g.2.length ≤ g.1.2 ∧ g.1.2 ≤ maxLen) ∧ HS w (fps [.blk bt 24 4 [.int .i64 (j : Int),.int .i64 mo,.int .i64 rm,.slice (some ⟨gn,0,none⟩) (L).length cap],.blk gn 102 (cap * 3) ((L).flatMap LNd.vals),.star ((L).map (Qk 26))]) [.blk bt 24 4 [.int .i64 (j : Int),.int .i64 mo,.int .i64 rm,.slice (some ⟨g.1.1,0,none⟩) (g.2).length g.1.2],.blk g.1.1 102 (g.1.2 * 3) ((g.2).flatMap LNd.vals),.star ((g.2).map (Qk 26))] w':=by
 have hpl:=hok.pl
 have hkl:=hok.kl
 have hsh:=hok.sh
 have hln:=hok.len
 have hmo:=hok.mo0
 have hsp:=hok.sm p
 rw [Qc] at hpl hln
 have hPN:=Qh hpl
 rw [hPN] at hkl hsh hsp hix
 simp only [LNd.pl] at hkl hsh hsp hix
 have hx0:=hx
 have hklx : k < (nth L p).pl.cs.length:=hkl
 have hkx:=hok.kid k (by rw [hPN];exact hklx)
 rw [hx0,Qc] at hkx
 obtain ⟨_,hxl,hpx⟩:=hkx
 have hcx:=hok.kd (x:=k) (by rw [hPN];exact hklx)
 rw [hx0,hPN] at hcx
 simp only [LNd.pl] at hcx
 have hNx:=Qh hxl
 have hsx:=hok.sm x
 rw [hNx] at hsx
 simp only [LNd.pl] at hsx
 rw [hPN] at h2
 simp only [LNd.pl] at h2
 have hqk : (k = 0 → q = 0) ∧ (k ≠ 0 → q + 1 = k):=by rw [hq0];constructor <;> intro h9 <;> (first | rw [if_pos h9] | (rw [if_neg h9];omega))
 have hql : q + 1 < (nth L p).cs.length:=by (rcases Nat.eq_zero_or_pos k with h9 | h9);(have:=hqk.1 h9;omega);(have:=hqk.2 (by omega);omega)
 have hkla : q < (nth L p).pl.cs.length:=by show _ < (nth L p).cs.length;omega
 have hklb : q + 1 < (nth L p).pl.cs.length:=hql
 have hka:=hok.kid q (by rw [hPN];exact hkla)
 rw [ha0,Qc] at hka
 obtain ⟨_,hal,hpa⟩:=hka
 have hca:=hok.kd (x:=q) (by rw [hPN];exact hkla)
 rw [ha0,hPN] at hca
 simp only [LNd.pl] at hca
 have hNa:=Qh hal
 have hsa:=hok.sm a
 rw [hNa] at hsa
 simp only [LNd.pl] at hsa
 have hkb:=hok.kid (q + 1) (by rw [hPN];exact hklb)
 rw [hb0,Qc] at hkb
 obtain ⟨_,hbl,hpb⟩:=hkb
 have hcb:=hok.kd (x:=(q + 1)) (by rw [hPN];exact hklb)
 rw [hb0,hPN] at hcb
 simp only [LNd.pl] at hcb
 have hNb:=Qh hbl
 have hsb:=hok.sm b
 rw [hNb] at hsb
 simp only [LNd.pl] at hsb
 have hab : a ≠ b:=by rw [← ha0,← hb0];exact hok.dis _ _ (by rw [hPN];exact hkla) (by rw [hPN];exact hklb) (by omega)
 refine enter (args:=[_,_,_]) Tryz.func73 Tryz.ntmps73 rfl rfl hw ?_
 refine aS7 ?_
 refine o_q (Qi rfl Qd9 rfl (fun w1 h1=>by have h9:=Qk9 w1 j mo rm (some ⟨gn,0,none⟩) cap L p (x : Int) hpl (HS.nt_at h1 aPk aPk) (by omega) (by omega);rw [hix] at h9;exact h9)) rfl ?_
 refine aS9 ?_
 refine o_p (Qa rfl rfl rfl Qp (p) (by omega) (by omega) rfl) rfl ?_
 refine Qm (show _ = Value.pointer (some ⟨gn,p * 3,none⟩) from by rw [Nat.zero_add]) ?_
 refine o_q (QK _ rfl rfl Xh rfl (fun w h=>HS.nd_cells hpl h aPk)) rfl ?_
 refine oAl (fun b1 _=>?_) Xa
 refine oSt ?_
 refine aS8 ?_
 refine o_p (Qa rfl rfl rfl Qp (x) (by omega) (by omega) rfl) rfl ?_
 refine Qm (show _ = Value.pointer (some ⟨gn,x * 3,none⟩) from by rw [Nat.zero_add]) ?_
 refine o_q (QK _ rfl rfl Xh rfl (fun w h=>HS.nd_cells hxl h aPk)) rfl ?_
 refine oAl (fun b2 _=>?_) Xa
 refine oSt ?_
 refine aS7 ?_
 refine o_p (YA rfl rfl rfl (by omega) (by omega) (by omega)) rfl ?_
 refine QU (fun w h=>HS.cs_some hpl (by omega) h aPk) fun hgc=>?_
 obtain ⟨gc9,hgc⟩:=hgc
 refine QU (fun w h=>HS.es_room hpl h aPk) fun hrP=>?_
 refine QU (fun w h=>HS.es_room hxl h aPk) fun hrX=>?_
 refine QU (fun w h=>HS.cs_room hxl h aPk) fun hrXc=>?_
 refine QU (fun w h=>HS.cs_room hpl h aPk) fun hrPc=>?_
 refine QU (fun w h=>HS.es_some hpl (by omega) h aPk) fun hge=>?_
 obtain ⟨gp9,hge⟩:=hge
 refine QU (fun w h=>HS.es_room hal h aPk) fun hrA=>?_
 refine aS4 ?_
 refine Qj (L':=[(0,_),(1,_),(2,_),(6,_),(7,_),(8,_),(9,_)]) aSx (fun _ h=>h) ?_
 refine aS4 ?_
 refine Xn (α:=Unit) [10,11,12,13,46,47,48,49,50,51,52,53,54,55,56,57,58,59,60,61,62,63,64,65,66,67,68,69,70,71,72,73,74,75,76,77,78,79,80,81,82,83,84,85,86,87,88,89,90,91,92,93,94,95,96,97,98,99,100,101,102,103,104,105,106,107,108,109,110,111,112,113,114,115,116,117,118,119,120,121,122,123,124,125,126,127,128,129,130,131,132,133,134,135,136,137,138,139,140] (fun _=>[]) (fun _=>HS w (fps [.blk bt 24 4 [.int .i64 (j : Int),.int .i64 mo,.int .i64 rm,.slice (some ⟨gn,0,none⟩) (L).length cap],.blk gn 102 (cap * 3) ((L).flatMap LNd.vals),.star ((L).map (Qk 26))]) [.blk bt 24 4 [.int .i64 (j : Int),.int .i64 mo,.int .i64 rm,.slice (some ⟨gn,0,none⟩) L.length cap],.blk gn 102 (cap * 3) (L.flatMap LNd.vals),.star (L.map (Qk 26)),.blk b1 102 3 (LNd.vals (nth L p)),.blk b2 102 3 (LNd.vals (nth L x))]) (fun _=>True) ?_ ?_
 ·skip
  refine Qd rfl (fun h3=>?_) fun h3=>?_
  ·try simp only [dT] at h3
   have hk0 : 0 < k:=by have hq:=h3;omega
   have hkl9 : k - 1 < (nth L p).pl.cs.length:=by show _ < (nth L p).cs.length;omega
   have hy0 : (kdN (pln L) p (k - 1)) = (kdN (pln L) p (k - 1)):=rfl
   have hk9:=hok.kid (k - 1) (by rw [hPN];exact hkl9)
   rw [Qc] at hk9
   obtain ⟨_,hyl,hpy⟩:=hk9
   have hcy:=hok.kd (x:=k - 1) (by rw [hPN];exact hkl9)
   rw [show nth (pln L) p = (nth L p).pl from hPN] at hcy
   simp only [LNd.pl] at hcy
   have hNy:=Qh hyl
   have hsy:=hok.sm (kdN (pln L) p (k - 1))
   rw [hNy] at hsy
   simp only [LNd.pl] at hsy
   refine aS6 ?_
   try refine oWr ?_
   refine o_p (Qa rfl rfl rfl Qv (k - 1) (by omega) (by omega) hgc) rfl ?_
   refine o_q (Qg rfl rfl Xq (fun w h=>HS.cs_rd hpl (by omega) hgc h aPk)) rfl ?_
   refine Qm (show _ = Value.int .i64 ((kdN (pln L) p (k - 1)) : Int) from by rw [← hcy]) ?_
   refine aS9 ?_
   refine o_p (Qa rfl rfl rfl Qp ((kdN (pln L) p (k - 1))) (by omega) (by omega) rfl) rfl ?_
   refine Qm (show _ = Value.pointer (some ⟨gn,(kdN (pln L) p (k - 1)) * 3,none⟩) from by rw [Nat.zero_add]) ?_
   refine o_q (QK _ rfl rfl Xh rfl (fun w h=>HS.nd_cells hyl h aPk)) rfl ?_
   refine oAl (fun b4 _=>?_) Xa
   refine oSt ?_
   refine aS7 ?_
   try refine oWr ?_
   refine aS8 ?_
   refine Qd rfl (fun h5=>?_) fun h5=>?_
   ·try simp only [dT] at h5
    exfalso;have hq:=h5;exact hno ⟨hk0,by rw [hNy];show _ < ((nth L (kdN (pln L) p (k - 1))).es.length : Int);omega⟩
   try simp only [dN] at h5
   refine aS ?_
   exact Qn () trivial aSx (fun w h=>h.ent aEt)
  try simp only [dN] at h3
  refine aS ?_
  exact Qn () trivial aSx (fun w h=>h.ent aEt)
 intro _ _
 refine aS5 ?_
 try refine oWr ?_
 refine aS5 ?_
 refine Xn (α:=Unit) [14,15,147,148,149,150,151,152,153,154,155,156,157,158,159,160,161,162,163,164,165,166,167,168,169,170,171,172,173,174,175,176,177,178,179,180,181,182,183,184,185,186,187,188,189,190,191,192,193,194,195,196,197,198,199,200,201,202,203,204,205,206,207,208,209,210,211,212,213,214,215,216,217,218,219,220,221,222,223,224,225,226,227,228,229,230,231,232,233,234,235,236,237] (fun _=>[]) (fun _=>HS w (fps [.blk bt 24 4 [.int .i64 (j : Int),.int .i64 mo,.int .i64 rm,.slice (some ⟨gn,0,none⟩) (L).length cap],.blk gn 102 (cap * 3) ((L).flatMap LNd.vals),.star ((L).map (Qk 26))]) [.blk bt 24 4 [.int .i64 (j : Int),.int .i64 mo,.int .i64 rm,.slice (some ⟨gn,0,none⟩) L.length cap],.blk gn 102 (cap * 3) (L.flatMap LNd.vals),.star (L.map (Qk 26)),.blk b1 102 3 (LNd.vals (nth L p)),.blk b2 102 3 (LNd.vals (nth L x))]) (fun _=>True) ?_ ?_
 ·skip
  refine Qd rfl (fun h6=>?_) fun h6=>?_
  ·try simp only [dT] at h6
   have hkl8 : k + 1 < (nth L p).pl.cs.length:=by have hq:=h6;show _ < (nth L p).cs.length;omega
   have hk8:=hok.kid (k + 1) (by rw [hPN];exact hkl8)
   rw [Qc] at hk8
   obtain ⟨_,hzl,hpz⟩:=hk8
   have hcz:=hok.kd (x:=k + 1) (by rw [hPN];exact hkl8)
   rw [show nth (pln L) p = (nth L p).pl from hPN] at hcz
   simp only [LNd.pl] at hcz
   have hNz:=Qh hzl
   have hsz:=hok.sm (kdN (pln L) p (k + 1))
   rw [hNz] at hsz
   simp only [LNd.pl] at hsz
   refine aS6 ?_
   try refine oWr ?_
   refine o_p (Qa rfl rfl rfl Qv (k + 1) (by omega) (by omega) hgc) rfl ?_
   refine o_q (Qg rfl rfl Xq (fun w h=>HS.cs_rd hpl (k:=k + 1) hkl8 hgc h aPk)) rfl ?_
   refine Qm (show _ = Value.int .i64 ((kdN (pln L) p (k + 1)) : Int) from by rw [← hcz]) ?_
   refine aS9 ?_
   refine o_p (Qa rfl rfl rfl Qp ((kdN (pln L) p (k + 1))) (by omega) (by omega) rfl) rfl ?_
   refine Qm (show _ = Value.pointer (some ⟨gn,(kdN (pln L) p (k + 1)) * 3,none⟩) from by rw [Nat.zero_add]) ?_
   refine o_q (QK _ rfl rfl Xh rfl (fun w h=>HS.nd_cells hzl h aPk)) rfl ?_
   refine oAl (fun b7 _=>?_) Xa
   refine oSt ?_
   refine aS2 ?_
   refine Qj (L':=[(0,_),(1,_),(2,_),(6,_),(7,_),(8,_),(9,_),(14,_),(15,_),(44,_),(45,_),(141,_),(142,_),(143,_),(144,_),(145,_),(146,_)]) aSx (fun _ h=>h) ?_
   refine aS7 ?_
   refine Qd rfl (fun h8=>?_) fun h8=>?_
   ·try simp only [dT] at h8
    exfalso;have hq:=h8;exact hnb ⟨by rw [hPN];exact hkl8,by rw [hNz];show _ < ((nth L (kdN (pln L) p (k + 1))).es.length : Int);omega⟩
   try simp only [dN] at h8
   refine aS ?_
   exact Qn () trivial aSx (fun w h=>h.ent aEt)
  try simp only [dN] at h6
  refine aS ?_
  exact Qn () trivial aSx (fun w h=>h.ent aEt)
 intro _ _
 refine aS8 ?_
 refine Qd rfl (fun h9=>?_) fun h9=>?_
 ·try simp only [dT] at h9
  exfalso;first | omega | (simp at h9;done) | (simp_all;done)
 try simp only [dN] at h9
 refine aS5 ?_
 try refine oWr ?_
 refine aS8 ?_
 refine Qj (L':=[(0,_),(1,_),(7,_),(16,_),(245,_)]) aSx (fun _ h=>h) ?_
 refine Xn (α:=Unit) [16] (fun _=>[(16,.int .i64 (q : Int))]) (fun _=>HS w (fps [.blk bt 24 4 [.int .i64 (j : Int),.int .i64 mo,.int .i64 rm,.slice (some ⟨gn,0,none⟩) (L).length cap],.blk gn 102 (cap * 3) ((L).flatMap LNd.vals),.star ((L).map (Qk 26))]) [.blk bt 24 4 [.int .i64 (j : Int),.int .i64 mo,.int .i64 rm,.slice (some ⟨gn,0,none⟩) L.length cap],.blk gn 102 (cap * 3) (L.flatMap LNd.vals),.star (L.map (Qk 26)),.blk b1 102 3 (LNd.vals (nth L p)),.blk b2 102 3 (LNd.vals (nth L x))]) (fun _=>True) ?_ ?_
 ·skip
  refine Qd rfl (fun h10=>?_) fun h10=>?_
  ·try simp only [dT] at h10
   refine aS3 ?_
   have hqz : q = 0:=hqk.1 (by have hq:=h10;omega)
   exact Qn () trivial (by rw [hqz];exact aSx) (fun w h=>h.ent aEt)
  try simp only [dN] at h10
  refine aS ?_
  have hqz : ((k : Int) - 1) = (q : Int):=by have h9:=hqk.2 (by have hq:=h10;omega);omega
  exact Qn () trivial (by rw [← hqz];exact aSx) (fun w h=>h.ent aEt)
 intro _ _
 refine aS ?_
 refine QE [] QH ?_
 refine dFa 0 ?_
 refine dLd 1 [] ?_
 refine dP 2 ?_
 refine dV 3 rfl (Qa rfl rfl rfl Qv (q) (by omega) (by omega) hgc) ?_
 refine dQ 4 [] rfl (Qg rfl rfl Xq (fun w h=>HS.cs_rd hpl (k:=q) (by omega) hgc h aPk)) ?_
 refine Ql (show _ = Value.int .i64 (a : Int) from by rw [hca]) ?_
 refine dFa 5 ?_
 refine dLd 6 [] ?_
 refine dP 7 ?_
 refine dP 8 ?_
 try refine dWr ?_
 refine dV 9 rfl (Qa rfl rfl rfl Qv (q + 1) (by omega) (by omega) hgc) ?_
 refine dQ 10 [] rfl (Qg rfl rfl Xq (fun w h=>HS.cs_rd hpl (k:=q + 1) (by omega) hgc h aPk)) ?_
 refine Ql (show _ = Value.int .i64 (b : Int) from by rw [hcb]) ?_
 refine dP 11 ?_
 refine dP 12 ?_
 refine dNi ?_
 refine aS ?_
 refine XK [.blk bt 24 4 [.int .i64 (j : Int),.int .i64 mo,.int .i64 rm,.slice (some ⟨gn,0,none⟩) L.length cap],.blk gn 102 (cap * 3) (L.flatMap LNd.vals),.star (L.map (Qk 26)),.blk b1 102 3 (LNd.vals (nth L p)),.blk b2 102 3 (LNd.vals (nth L x))] [39] QH ?_
 refine dP 0 ?_
 refine dP 1 ?_
 refine dFa 2 ?_
 refine dLd 3 [[]] ?_
 refine dP 4 ?_
 refine dP 5 ?_
 refine dP 6 ?_
 refine dFa 7 ?_
 refine dLd 8 [[]] ?_
 refine dP 9 ?_
 refine dV 10 rfl (Qa rfl rfl rfl Qp (a) (by omega) (by omega) rfl) ?_
 refine Ql (show _ = Value.pointer (some ⟨gn,a * 3,none⟩) from by rw [Nat.zero_add]) ?_
 refine dFa 11 ?_
 refine dQ 12 [[]] rfl (Qg rfl rfl Xb (fun w h=>HS.nd_cell hal h aPk 1 rfl (by decide))) ?_
 refine dP 13 ?_
 refine dP 14 ?_
 refine dFa 15 ?_
 refine dLd 16 [[]] ?_
 refine dP 17 ?_
 refine dV 18 rfl (Qa rfl rfl rfl Qp (a) (by omega) (by omega) rfl) ?_
 refine Ql (show _ = Value.pointer (some ⟨gn,a * 3,none⟩) from by rw [Nat.zero_add]) ?_
 refine dFa 19 ?_
 refine dQ 20 [[]] rfl (Qg rfl rfl Xb (fun w h=>HS.nd_cell hal h aPk 1 rfl (by decide))) ?_
 refine dV 21 rfl (QQ rfl rfl Tryz.underlying77) ?_
 refine dFa 22 ?_
 refine dLd 23 [[]] ?_
 refine dP 24 ?_
 refine dV 25 rfl (Qa rfl rfl rfl QB (q) (by omega) (by omega) hge) ?_
 refine dQ 26 [[]] rfl (QK _ rfl rfl XC rfl (fun w h=>HS.es_rd hpl (k:=q) (by omega) hge h aPk)) ?_
 refine dP 28 ?_
 refine dP 29 ?_
 refine dFa 30 ?_
 refine dLd 31 [[]] ?_
 refine dP 32 ?_
 refine dV 33 rfl (Qa rfl rfl rfl Qp (b) (by omega) (by omega) rfl) ?_
 refine Ql (show _ = Value.pointer (some ⟨gn,b * 3,none⟩) from by rw [Nat.zero_add]) ?_
 refine dFa 34 ?_
 refine dQ 35 [[]] rfl (Qg rfl rfl Xb (fun w h=>HS.nd_cell hbl h aPk 1 rfl (by decide))) ?_
 refine dH 27 rfl (QP rfl QgZ rfl (fun w1 h1=>c62 w1 (nth L a).ea (nth L a).ec (nth L a).es (nth L a).es.length (nth (nth L p).es q) (HS.es_row hal h1 aPk) (by omega) (Nat.le_refl _) hrA.1)) (fun b11 _=>?_)
 refine dH 36 rfl (QJ ((nth L b).es.flatMap TEnt.vals) rfl rfl rfl QB Tryz.underlying77 Xm rfl aPk (fun w h=>Rw.src ev2 (HS.es_row hbl h aPk) (HS.refl _ [])) (by rw [Qf ev2]) (Xf ev1 _) (by (try rw [Y7]);(try simp only [List.length_append,List.length_singleton]);omega) (by simp only [maxLen];(try rw [Y7]);(try simp only [List.length_append,List.length_singleton]);omega)) (fun b12 _=>?_)
 refine dV 37 rfl (Qa rfl rfl rfl Qp (a) (by omega) (by omega) rfl) ?_
 refine Ql (show _ = Value.pointer (some ⟨gn,a * 3,none⟩) from by rw [Nat.zero_add]) ?_
 refine dFa 38 ?_
 refine dSt 39 ?_ (hl:=(by rw [Qf nv3];show _ + 1 ≤ _;omega))
 refine dTu [] ?_
 refine dNi ?_
 refine aS ?_
 refine Qj (L':=[(0,_),(1,_),(7,_),(16,_),(17,_),(18,_)]) aSx (fun _ h=>h) ?_
 refine ZV (fun w h=>HS.es_setN (gn:=gn) (cap:=cap) (ea:=b12.1) (ec:=b12.2) (es:=(nth L a).es ++ (nth (nth L p).es q) :: (nth L b).es) (n:=(QI (nth L a).es (nth L a).es.length (nth (nth L p).es q)).length + (nth L b).es.length) (xs:=(QI (nth L a).es (nth L a).es.length (nth (nth L p).es q)).flatMap TEnt.vals ++ (nth L b).es.flatMap TEnt.vals) hal (by rw [Y7];simp only [List.length_append,List.length_cons,List.length_nil];omega) (by rw [Y7];simp only [List.flatMap_append,List.flatMap_cons,List.flatMap_nil,List.append_nil,List.append_assoc]) h aPk aPk aPk) fun L1=>?_
 refine QV (fun w h=>h.1) fun hS1=>?_
 refine Xd (fun w h=>h.2) ?_
 have ha1 : a < L1.length:=by rw [hS1.len];exact hal
 have hb1 : b < L1.length:=by rw [hS1.len];exact hbl
 have hAc1 : (nth L1 a).cs = (nth L a).cs:=by rw [hS1.at_]
 have hBc1 : (nth L1 b).cs = (nth L b).cs:=by rw [hS1.other hbl hab]
 have hAl1 : (nth L1 a).cs.length ≤ 900:=by rw [hAc1];exact hsa.2
 have hBl1 : (nth L1 b).cs.length ≤ 900:=by rw [hBc1];exact hsb.2
 refine XK [.blk bt 24 4 [.int .i64 (j : Int),.int .i64 mo,.int .i64 rm,.slice (some ⟨gn,0,none⟩) L.length cap],.blk gn 102 (cap * 3) (L1.flatMap LNd.vals),.star (L1.map (Qk 26)),.blk b1 102 3 (LNd.vals (nth L p)),.blk b2 102 3 (LNd.vals (nth L x))] [26] QH ?_
 refine dP 0 ?_
 refine dP 1 ?_
 refine dFa 2 ?_
 refine dLd 3 [[]] ?_
 refine dP 4 ?_
 refine dP 6 ?_
 refine dP 7 ?_
 refine dFa 8 ?_
 refine dLd 9 [[]] ?_
 refine dP 10 ?_
 refine dV 11 rfl (Qa rfl rfl rfl Qp (a) (by omega) (by omega) rfl) ?_
 refine Ql (show _ = Value.pointer (some ⟨gn,a * 3,none⟩) from by rw [Nat.zero_add]) ?_
 refine dFa 12 ?_
 refine dQ 13 [[]] rfl (Qg rfl rfl Q8 (fun w h=>HS.nd_cell ha1 h aPk 2 rfl (by decide))) ?_
 refine dP 15 ?_
 refine dP 16 ?_
 refine dFa 17 ?_
 refine dLd 18 [[]] ?_
 refine dP 19 ?_
 refine dV 20 rfl (Qa rfl rfl rfl Qp (b) (by omega) (by omega) rfl) ?_
 refine Ql (show _ = Value.pointer (some ⟨gn,b * 3,none⟩) from by rw [Nat.zero_add]) ?_
 refine dFa 21 ?_
 refine dQ 22 [[]] rfl (Qg rfl rfl Q8 (fun w h=>HS.nd_cell hb1 h aPk 2 rfl (by decide))) ?_
 refine dH 5 rfl (Xg rfl Qv) (fun b13 _=>?_)
 refine dH 14 rfl (QJ ((nth L1 a).cs.flatMap inV) rfl rfl rfl Qv Tryz.underlying30 X8 rfl aPk (fun w h=>Rw.src iv1 (HS.cs_row ha1 h aPk) (HS.refl _ [])) (by rw [Qf iv1]) (Xf QbX _) (by (try rw [Y7]);(try simp only [List.length_append,List.length_singleton]);omega) (by simp only [maxLen];(try rw [Y7]);(try simp only [List.length_append,List.length_singleton]);omega)) (fun b14 _=>?_)
 refine dH 23 rfl (QJ ((nth L1 b).cs.flatMap inV) rfl rfl rfl Qv Tryz.underlying30 X8 rfl aPk (fun w h=>Rw.src iv1 (HS.cs_row hb1 h aPk) (HS.refl _ [])) (by rw [Qf iv1]) (Xf QbX _) (by (try rw [Y7]);(try simp only [List.length_append,List.length_singleton]);omega) (by simp only [maxLen];(try rw [Y7]);(try simp only [List.length_append,List.length_singleton]);omega)) (fun b15 _=>?_)
 refine dV 24 rfl (Qa rfl rfl rfl Qp (a) (by omega) (by omega) rfl) ?_
 refine Ql (show _ = Value.pointer (some ⟨gn,a * 3,none⟩) from by rw [Nat.zero_add]) ?_
 refine dFa 25 ?_
 refine dSt 26 ?_ (hl:=(by rw [Qf nv3];show _ + 1 ≤ _;omega))
 refine dTu [] ?_
 refine dNi ?_
 refine aS ?_
 refine Qj (L':=[(0,_),(1,_),(7,_),(16,_),(18,_)]) aSx (fun _ h=>h) ?_
 refine aS2 ?_
 refine Y1 (fun w h=>HS.cs_setN (gn:=gn) (cap:=cap) (ca:=b15.1) (cc:=b15.2) (cs:=(nth L1 a).cs ++ (nth L1 b).cs) (n:=0 + (nth L1 a).cs.length + (nth L1 b).cs.length) (xs:=[] ++ (nth L1 a).cs.flatMap inV ++ (nth L1 b).cs.flatMap inV) ha1 (by simp only [List.length_append];omega) (by simp only [List.flatMap_append,List.nil_append]) h aPk aPk aPk) fun L2=>?_
 refine QU (fun w h=>h.1) fun hS2=>?_
 refine QZ (fun w h=>h.2) ?_
 have hb2 : b < L2.length:=by rw [hS2.len];exact hb1
 refine aS4 ?_
 refine o_p (Xr (cs:=[_,_,_]) rfl rfl Z8 Xa rfl) rfl ?_
 refine o_p (Qa rfl rfl rfl Qp (b) (by omega) (by omega) rfl) rfl ?_
 refine Qm (show _ = Value.pointer (some ⟨gn,b * 3,none⟩) from by rw [Nat.zero_add]) ?_
 refine YE (Q9 rfl rfl rfl Xh rfl aPt (by rw [Qf nv3];show _ + 3 ≤ _;omega) rfl) (fun _ _=>?_)
 refine aS2 ?_
 refine ZV (fun w h=>HS.node_gone (i:=b) (gn:=gn) (cap:=cap) hb2 h aPk aPk) fun L3=>?_
 refine QV (fun w h=>h.1) fun hS3=>?_
 refine Xd (fun w h=>h.2) ?_
 have hp3 : p < L3.length:=by rw [hS3.len,hS2.len,hS1.len];exact hpl
 have hP3 : nth L3 p = nth L p:=by rw [hS3.other (by rw [hS2.len,hS1.len];exact hpl) (Ne.symm hpb),hS2.other (by rw [hS1.len];exact hpl) (Ne.symm hpa),hS1.other hpl (Ne.symm hpa)]
 refine XK [.blk bt 24 4 [.int .i64 (j : Int),.int .i64 mo,.int .i64 rm,.slice (some ⟨gn,0,none⟩) L.length cap],.blk gn 102 (cap * 3) (L3.flatMap LNd.vals),.star (L3.map (Qk 26)),.blk b1 102 3 (LNd.vals (nth L p)),.blk b2 102 3 (LNd.vals (nth L x))] [11] QH ?_
 refine dP 0 ?_
 refine dP 1 ?_
 refine dFa 2 ?_
 refine dLd 3 [[]] ?_
 refine dP 4 ?_
 refine dFa 5 ?_
 refine dLd 6 [[]] ?_
 refine dP 7 ?_
 refine dH 8 rfl (QP rfl QjO rfl (fun w1 h1=>c72 w1 (nth L p).ea (nth L p).ec (nth L p).es q (hP3 ▸ HS.es_row hp3 h1 aPk) (by omega) (by omega) hrP.1)) (fun b16 _=>?_)
 refine dV 9 rfl (Qa rfl rfl rfl Qp (p) (by omega) (by omega) rfl) ?_
 refine Ql (show _ = Value.pointer (some ⟨gn,p * 3,none⟩) from by rw [Nat.zero_add]) ?_
 refine dFa 10 ?_
 refine dSt 11 ?_ (hl:=(by rw [Qf nv3];show _ + 1 ≤ _;omega))
 refine dTu [] ?_
 refine dNi ?_
 refine ZV (fun w h=>HS.es_set (gn:=gn) (cap:=cap) (ea:=b16.1) (ec:=b16.2) (es:=Qt (nth L p).es q) hp3 h aPk aPk aPk) fun L4=>?_
 refine QV (fun w h=>h.1) fun hS4=>?_
 refine Xd (fun w h=>h.2) ?_
 have hp4 : p < L4.length:=by rw [hS4.len];exact hp3
 have hcp4 : (nth L4 p).ca = (nth L p).ca ∧ (nth L4 p).cc = (nth L p).cc ∧ (nth L4 p).cs = (nth L p).cs:=by rw [hS4.at_,hP3];exact ⟨rfl,rfl,rfl⟩
 refine XK [.blk bt 24 4 [.int .i64 (j : Int),.int .i64 mo,.int .i64 rm,.slice (some ⟨gn,0,none⟩) L.length cap],.blk gn 102 (cap * 3) (L4.flatMap LNd.vals),.star (L4.map (Qk 26)),.blk b1 102 3 (LNd.vals (nth L p)),.blk b2 102 3 (LNd.vals (nth L x))] [12] QH ?_
 refine dP 0 ?_
 refine dP 1 ?_
 refine dFa 2 ?_
 refine dLd 3 [[]] ?_
 refine dP 4 ?_
 refine dFa 5 ?_
 refine dLd 6 [[]] ?_
 refine dP 7 ?_
 refine dP 8 ?_
 try refine dWr ?_
 refine dH 9 rfl (QP rfl Qiq rfl (fun w1 h1=>QpA w1 (nth L p).ca (nth L p).cc (nth L p).cs (q + 1) (QaF hcp4 (HS.cs_row hp4 h1 aPk)) (by omega) (by omega) hrPc.1)) (fun b17 _=>?_)
 refine dV 10 rfl (Qa rfl rfl rfl Qp (p) (by omega) (by omega) rfl) ?_
 refine Ql (show _ = Value.pointer (some ⟨gn,p * 3,none⟩) from by rw [Nat.zero_add]) ?_
 refine dFa 11 ?_
 refine dSt 12 ?_ (hl:=(by rw [Qf nv3];show _ + 1 ≤ _;omega))
 refine dTu [] ?_
 refine dNi ?_
 exact YR rfl (fun w' h'=>by obtain ⟨L5,hS5,hC⟩:=HS.cs_set (gn:=gn) (cap:=cap) (ca:=b17.1) (cc:=b17.2) (cs:=Qt (nth L p).cs (q + 1)) hp4 h' aPk aPk aPk;have hz5 : L5.length = L.length:=(by rw [hS5.len,hS4.len,hS3.len,hS2.len,hS1.len]);exact ⟨((gn,cap),L5),rfl,⟨by rw [hS5.cs,hS4.es,hS3.pl,hS2.cs,hS1.es,hAc1,hBc1];exact QpP (P:=(nth L p).pl) (A:=(nth L a).pl) (B:=(nth L b).pl) (by rw [Qc];exact hpl) hpb hPN hNa hNb,by simp only [];omega,hcm⟩,by simp only [];rw [hz5];exact hC.ent aEt⟩)
set_option maxHeartbeats 2000000 in
theorem c73z (w : World) (bt : Nat) (j : Nat) (mo rm : Int) (gn cap : Nat) (L : List LNd) (p k x : Nat) (hw : HS w (fps [.blk bt 24 4 [.int .i64 (j : Int),.int .i64 mo,.int .i64 rm,.slice (some ⟨gn,0,none⟩) (L).length cap],.blk gn 102 (cap * 3) ((L).flatMap LNd.vals),.star ((L).map (Qk 26))]) [.blk bt 24 4 [.int .i64 (j : Int),.int .i64 mo,.int .i64 rm,.slice (some ⟨gn,0,none⟩) (L).length cap],.blk gn 102 (cap * 3) ((L).flatMap LNd.vals),.star ((L).map (Qk 26))] w) (hnc : L.length ≤ cap) (hcm : cap ≤ maxLen) (hok : FilOk mo (pln L) p k) (hx : kdN (pln L) p k = x) (hix : ixR (nth (pln L) p).cs (x : Int) = k) (h2 : ¬ 2 ≤ (nth (pln L) p).cs.length) : Calls Tryz.prog 73 #[.pointer (some ⟨bt,0,none⟩),.int .i64 (p : Int),.int .i64 (x : Int)] w fun en w'=>∃ g : (Nat × Nat) × List LNd,en = .returned (.tuple #[]) ∧ (pln g.2 = pln L ∧ g.2.length ≤ g.1.2 ∧ g.1.2 ≤ maxLen) ∧ HS w (fps [.blk bt 24 4 [.int .i64 (j : Int),.int .i64 mo,.int .i64 rm,.slice (some ⟨gn,0,none⟩) (L).length cap],.blk gn 102 (cap * 3) ((L).flatMap LNd.vals),.star ((L).map (Qk 26))]) [.blk bt 24 4 [.int .i64 (j : Int),.int .i64 mo,.int .i64 rm,.slice (some ⟨g.1.1,0,none⟩) (g.2).length g.1.2],.blk g.1.1 102 (g.1.2 * 3) ((g.2).flatMap LNd.vals),.star ((g.2).map (Qk 26))] w':=by
 have hpl:=hok.pl
 have hkl:=hok.kl
 have hsh:=hok.sh
 have hln:=hok.len
 have hmo:=hok.mo0
 have hsp:=hok.sm p
 rw [Qc] at hpl hln
 have hPN:=Qh hpl
 rw [hPN] at hkl hsh hsp hix
 simp only [LNd.pl] at hkl hsh hsp hix
 have hx0:=hx
 have hklx : k < (nth L p).pl.cs.length:=hkl
 have hkx:=hok.kid k (by rw [hPN];exact hklx)
 rw [hx0,Qc] at hkx
 obtain ⟨_,hxl,hpx⟩:=hkx
 have hcx:=hok.kd (x:=k) (by rw [hPN];exact hklx)
 rw [hx0,hPN] at hcx
 simp only [LNd.pl] at hcx
 have hNx:=Qh hxl
 have hsx:=hok.sm x
 rw [hNx] at hsx
 simp only [LNd.pl] at hsx
 rw [hPN] at h2
 simp only [LNd.pl] at h2
 refine enter (args:=[_,_,_]) Tryz.func73 Tryz.ntmps73 rfl rfl hw ?_
 refine aS7 ?_
 refine o_q (Qi rfl Qd9 rfl (fun w1 h1=>by have h9:=Qk9 w1 j mo rm (some ⟨gn,0,none⟩) cap L p (x : Int) hpl (HS.nt_at h1 aPk aPk) (by omega) (by omega);rw [hix] at h9;exact h9)) rfl ?_
 refine aS9 ?_
 refine o_p (Qa rfl rfl rfl Qp (p) (by omega) (by omega) rfl) rfl ?_
 refine Qm (show _ = Value.pointer (some ⟨gn,p * 3,none⟩) from by rw [Nat.zero_add]) ?_
 refine o_q (QK _ rfl rfl Xh rfl (fun w h=>HS.nd_cells hpl h aPk)) rfl ?_
 refine oAl (fun b1 _=>?_) Xa
 refine oSt ?_
 refine aS8 ?_
 refine o_p (Qa rfl rfl rfl Qp (x) (by omega) (by omega) rfl) rfl ?_
 refine Qm (show _ = Value.pointer (some ⟨gn,x * 3,none⟩) from by rw [Nat.zero_add]) ?_
 refine o_q (QK _ rfl rfl Xh rfl (fun w h=>HS.nd_cells hxl h aPk)) rfl ?_
 refine oAl (fun b2 _=>?_) Xa
 refine oSt ?_
 refine aS7 ?_
 refine o_p (YA rfl rfl rfl (by omega) (by omega) (by omega)) rfl ?_
 refine aS4 ?_
 refine Qj (L':=[(0,_),(1,_),(2,_),(6,_),(7,_),(8,_),(9,_)]) aSx (fun _ h=>h) ?_
 refine aS4 ?_
 refine Qd rfl (fun h3=>?_) fun h3=>?_
 ·try simp only [dT] at h3
  exfalso;first | omega | (simp at h3;done) | (simp_all;done)
 try simp only [dN] at h3
 refine aS6 ?_
 try refine oWr ?_
 refine aS5 ?_
 refine Qd rfl (fun h4=>?_) fun h4=>?_
 ·try simp only [dT] at h4
  exfalso;first | omega | (simp at h4;done) | (simp_all;done)
 try simp only [dN] at h4
 refine aS9 ?_
 refine Qd rfl (fun h5=>?_) fun h5=>?_
 ·try simp only [dT] at h5
  exact QdR rfl (fun w' h'=>⟨((gn,cap),L),rfl,⟨rfl,hnc,hcm⟩,h'.ent aEt⟩)
 try simp only [dN] at h5
 exfalso;first | omega | (simp at h5;done) | (simp_all;done)
theorem Qkz {mo : Int} {ns : List Nd} {p k : Nat} (hk : k < (nth ns p).cs.length) : Yc mo ns p k =
    if 0 < k ∧ mo / 2 < ((nth ns (kdN ns p (k - 1))).es.length : Int) then Qex ns p (k - 1) (kdN ns p (k - 1)) (kdN ns p k)
    else if k + 1 < (nth ns p).cs.length ∧ mo / 2 < ((nth ns (kdN ns p (k + 1))).es.length : Int) then QcA ns p k (kdN ns p (k + 1)) (kdN ns p k)
    else if 2 ≤ (nth ns p).cs.length then Qcv ns p (if k = 0 then 0 else k - 1) (kdN ns p (if k = 0 then 0 else k - 1)) (kdN ns p ((if k = 0 then 0 else k - 1) + 1)) else ns:=by
  have e1 : Ye mo ns p ((k : Int) - 1) = decide (0 < k ∧ mo / 2 < ((nth ns (kdN ns p (k - 1))).es.length : Int)):=by
    rcases Nat.eq_zero_or_pos k with h0 | h0
    · subst h0;rw [Qec rfl (by rw [decide_eq_false (by omega)];rfl),decide_eq_false (fun h=>absurd h.1 (Nat.lt_irrefl _))]
    · rw [QdX rfl (by omega),show ((k : Int) - 1).toNat = k - 1 by omega]
      by_cases h : mo / 2 < ((nth ns (kdN ns p (k - 1))).es.length : Int)
      · rw [decide_eq_true h,decide_eq_true (show _ ∧ _ from ⟨h0,h⟩)]
      · rw [decide_eq_false h,decide_eq_false (fun h9=>h h9.2)]
  have e2 : Ye mo ns p ((k : Int) + 1) = decide (k + 1 < (nth ns p).cs.length ∧ mo / 2 < ((nth ns (kdN ns p (k + 1))).es.length : Int)):=by
    by_cases h0 : k + 1 < (nth ns p).cs.length
    · rw [QdX rfl (by omega),show ((k : Int) + 1).toNat = k + 1 by omega]
      by_cases h : mo / 2 < ((nth ns (kdN ns p (k + 1))).es.length : Int)
      · rw [decide_eq_true h,decide_eq_true (show _ ∧ _ from ⟨h0,h⟩)]
      · rw [decide_eq_false h,decide_eq_false (fun h9=>h h9.2)]
    · rw [Qec rfl (by rw [decide_eq_false (show ¬ (k : Int) + 1 ≤ ((nth ns p).cs.length : Int) - 1 by omega),Bool.and_false]),decide_eq_false (fun h=>h0 h.1)]
  unfold Yc;rw [e1,e2]
  by_cases h1 : 0 < k ∧ mo / 2 < ((nth ns (kdN ns p (k - 1))).es.length : Int)
  · rw [if_pos (decide_eq_true h1),if_pos h1]
  · rw [if_neg (by rw [decide_eq_false h1];decide),if_neg h1]
    by_cases h2 : k + 1 < (nth ns p).cs.length ∧ mo / 2 < ((nth ns (kdN ns p (k + 1))).es.length : Int)
    · rw [if_pos (decide_eq_true h2),if_pos h2]
    · rw [if_neg (by rw [decide_eq_false h2];decide),if_neg h2];rcases Nat.eq_zero_or_pos k with h0 | h0
      · subst h0;rw [if_neg (Nat.lt_irrefl _),if_pos (rfl : (0 : Nat) = 0)]
        by_cases h3 : 1 < (nth ns p).cs.length
        · rw [if_pos h3,if_pos (by omega)]
        · rw [if_neg h3,if_neg (by omega)]
      · rw [if_pos h0,if_pos (by omega),if_neg (by omega),show k - 1 + 1 = k by omega]
theorem c73 (w : World) (bt : Nat) (j : Nat) (mo rm : Int) (gn cap : Nat) (L : List LNd) (p k x : Nat) (hw : HS w (fps [.blk bt 24 4 [.int .i64 (j : Int),.int .i64 mo,.int .i64 rm,.slice (some ⟨gn,0,none⟩) (L).length cap],.blk gn 102 (cap * 3) ((L).flatMap LNd.vals),.star ((L).map (Qk 26))]) [.blk bt 24 4 [.int .i64 (j : Int),.int .i64 mo,.int .i64 rm,.slice (some ⟨gn,0,none⟩) (L).length cap],.blk gn 102 (cap * 3) ((L).flatMap LNd.vals),.star ((L).map (Qk 26))] w) (hnc : L.length ≤ cap) (hcm : cap ≤ maxLen) (hok : FilOk mo (pln L) p k) (hx : kdN (pln L) p k = x) (hix : ixR (nth (pln L) p).cs (x : Int) = k) : Calls Tryz.prog 73 #[.pointer (some ⟨bt,0,none⟩),.int .i64 (p : Int),.int .i64 (x : Int)] w fun en w'=>∃ g : (Nat × Nat) × List LNd,en = .returned (.tuple #[]) ∧ (pln g.2 = Yc mo (pln L) p k ∧ g.2.length ≤ g.1.2 ∧ g.1.2 ≤ maxLen) ∧ HS w (fps [.blk bt 24 4 [.int .i64 (j : Int),.int .i64 mo,.int .i64 rm,.slice (some ⟨gn,0,none⟩) (L).length cap],.blk gn 102 (cap * 3) ((L).flatMap LNd.vals),.star ((L).map (Qk 26))]) [.blk bt 24 4 [.int .i64 (j : Int),.int .i64 mo,.int .i64 rm,.slice (some ⟨g.1.1,0,none⟩) (g.2).length g.1.2],.blk g.1.1 102 (g.1.2 * 3) ((g.2).flatMap LNd.vals),.star ((g.2).map (Qk 26))] w':=by
  rw [Qkz hok.kl,hx]
  by_cases h1 : 0 < k ∧ mo / 2 < ((nth (pln L) (kdN (pln L) p (k - 1))).es.length : Int)
  · rw [if_pos h1];obtain ⟨e,rfl⟩ : ∃ e,k = e + 1:=⟨k - 1,by omega⟩;exact c73f w bt j mo rm gn cap L p e x (kdN (pln L) p e) hw hnc hcm hok hx hix rfl h1.2
  · rw [if_neg h1]
    by_cases h2 : k + 1 < (nth (pln L) p).cs.length ∧ mo / 2 < ((nth (pln L) (kdN (pln L) p (k + 1))).es.length : Int)
    · rw [if_pos h2];exact c73b w bt j mo rm gn cap L p k x (kdN (pln L) p (k + 1)) hw hnc hcm hok hx hix rfl h2.2 h1 h2.1
    · rw [if_neg h2]
      by_cases h3 : 2 ≤ (nth (pln L) p).cs.length
      · rw [if_pos h3];exact c73m w bt j mo rm gn cap L p k x (if k = 0 then 0 else k - 1) _ _ hw hnc hcm hok hx hix h1 h2 h3 rfl rfl rfl
      · rw [if_neg h3];exact c73z w bt j mo rm gn cap L p k x hw hnc hcm hok hx hix h3
theorem Qr7 : QT Tryz.prog 73 = true:=by kernel_rfl
theorem QqC {L : List LNd} {c : Nat} (h0 : 0 < L.length) (hc : c < L.length) (hu : (nth (pln L) 0).us = true) (hk : (nth (pln L) c).us = true) : ((pln L).set 0 (nth (pln L) c)).set c ⟨false,[],[]⟩ = ((pln L).set 0 (LNd.pl { nth L c with us:=(nth L 0).us })).set c (LNd.pl LNd.gone):=by
  rw [Qh h0] at hu;rw [Qh hc] at hk ⊢
  have e : LNd.pl { nth L c with us:=(nth L 0).us } = (nth L c).pl:=by
    simp only [LNd.pl] at hu hk ⊢;rw [hu,hk]
  rw [e];rfl
theorem HS.node_goneB {w0 w : World} {M : List Nat} {As A1 A3 : List HA} {et : Nat} {L : List LNd} {i gn cap nt' : Nat} {us : Bool} (hi : i < L.length) (h : HS w0 M As w)
    (hp : QG As (.blk gn nt' (cap * 3) (Qy (L.flatMap LNd.vals) (i * 3) [.bool false,.slice none 0 0,.slice none 0 0])) A1) (hp3 : QG A1 (.star ((L.set i ⟨us,none,0,[],none,0,[]⟩).map (Qk et))) A3) :
    ∃ L',NdSet L L' i LNd.gone ∧ HS w0 M (.blk gn nt' (cap * 3) (L'.flatMap LNd.vals) :: .star (L'.map (Qk et)) :: A3) w:=by
  refine ⟨_,⟨hi,rfl⟩,?_⟩;rw [← Qas hi];have e : (L.set i (⟨us,none,0,[],none,0,[]⟩ : LNd)).map (Qk et) = (L.set i LNd.gone).map (Qk et):=by rw [List.map_set,List.map_set];rfl
  rw [e] at hp3;exact h.perm (hp.perm.trans (List.Perm.cons _ hp3.perm))
set_option maxHeartbeats 1000000 in
theorem c27 (w : World) (j : Nat) (mo rm : Int) (a : Option Addr) (cap : Nat) (L : List LNd) (key : List UInt8) (hj : j ≤ 3) (h0 : 0 < L.length) (hB : Bd (pln L)) (hT : TOk (j : Int) (pln L)) (hs : Nt w [] a L) (hk : QW (j : Int) key = true) (hkl : key.length ≤ 1000000) (hok0 : RemOk mo rm (pln L) (Qb (j : Int) (pln L) key).1 (Qb (j : Int) (pln L) key).2.1) (hfo0 : Qcb mo (QA (pln L) (Qb (j : Int) (pln L) key).1 (Qb (j : Int) (pln L) key).2.1) ((QA (pln L) (Qb (j : Int) (pln L) key).1 (Qb (j : Int) (pln L) key).2.1).length - 1) (YM (pln L) (Qb (j : Int) (pln L) key).1 (Qb (j : Int) (pln L) key).2.1)) (hfr0 : Z0 mo (QA (pln L) (Qb (j : Int) (pln L) key).1 (Qb (j : Int) (pln L) key).2.1) ((QA (pln L) (Qb (j : Int) (pln L) key).1 (Qb (j : Int) (pln L) key).2.1).length - 1) (YM (pln L) (Qb (j : Int) (pln L) key).1 (Qb (j : Int) (pln L) key).2.1) = Yw mo (YM (pln L) (Qb (j : Int) (pln L) key).1 (Qb (j : Int) (pln L) key).2.1) (QA (pln L) (Qb (j : Int) (pln L) key).1 (Qb (j : Int) (pln L) key).2.1).reverse) : Calls Tryz.prog 27 #[.agg #[.int .i64 (j : Int),.int .i64 mo,.int .i64 rm,.slice a L.length cap],.string (bs key)] w fun en w'=>∃ g : (Option Addr × Nat) × List LNd,en = .returned (.agg #[.int .i64 (j : Int),.int .i64 mo,.int .i64 rm,.slice g.1.1 g.2.length g.1.2]) ∧ pln g.2 = ZD mo rm (pln L) (Qb (j : Int) (pln L) key).1 (Qb (j : Int) (pln L) key).2.1 ∧ HS w [] [.nodes 26 102 g.1.1 g.1.2 g.2] w':=by
 have hln0:=hB.len
 rw [Qc] at hln0
 have hsmB : Sm 1000 (pln L):=QlB hB
 refine enter (args:=[_,_]) Tryz.func27 Tryz.ntmps27 rfl rfl (HS.refl w []) ?_
 refine aS2 ?_
 refine oBx fun b1 _=>?_
 refine oAl (fun b2 _=>?_) Yq
 refine aS4 ?_
 refine o_h (QP rfl QiT rfl (fun w1 h1=>c17 w1 (j : Int) mo rm a cap L (hs.later h1.nil) hln0 hsmB)) rfl (fun ⟨⟨ga0,gc0⟩,L9⟩ hF9=>?_)
 dsimp only
 have hL9 : pln L9 = pln L:=hF9
 have hl9 : L9.length = L.length:=by rw [← Qc L9,hL9,Qc]
 have h09 : 0 < L9.length:=by omega
 refine Y1 (fun w h=>Qbp h09 h aPk) fun gn=>?_
 refine QU (p:=ga0 = some ⟨gn,0,none⟩ ∧ L9.length ≤ gc0 ∧ gc0 ≤ maxLen) (fun w h=>⟨h.1,h.2.1,h.2.2.1⟩) fun hgn=>?_
 obtain ⟨hga,hn9,hm9⟩:=hgn
 subst hga
 refine QZ (fun w h=>h.2.2.2) ?_
 have hB9 : Bd (pln L9):=by rw [hL9];exact hB
 have hT9 : TOk (j : Int) (pln L9):=by rw [hL9];exact hT
 have hK9 : ∀ i,i < L9.length → ∀ y ∈ (nth L9 i).es,QW (j : Int) y.key = true ∧ y.key.length ≤ 1000000:=fun i hi y hy=>Ya hT9 i (by rw [Qc];exact hi) y (by rw [Qh hi];exact hy)
 have hok : RemOk mo rm (pln L9) (Qb (j : Int) (pln L9) key).1 (Qb (j : Int) (pln L9) key).2.1:=by rw [hL9];exact hok0
 have hfo : Qcb mo (QA (pln L9) (Qb (j : Int) (pln L9) key).1 (Qb (j : Int) (pln L9) key).2.1) ((QA (pln L9) (Qb (j : Int) (pln L9) key).1 (Qb (j : Int) (pln L9) key).2.1).length - 1) (YM (pln L9) (Qb (j : Int) (pln L9) key).1 (Qb (j : Int) (pln L9) key).2.1):=by rw [hL9];exact hfo0
 have hfr : Z0 mo (QA (pln L9) (Qb (j : Int) (pln L9) key).1 (Qb (j : Int) (pln L9) key).2.1) ((QA (pln L9) (Qb (j : Int) (pln L9) key).1 (Qb (j : Int) (pln L9) key).2.1).length - 1) (YM (pln L9) (Qb (j : Int) (pln L9) key).1 (Qb (j : Int) (pln L9) key).2.1) = Yw mo (YM (pln L9) (Qb (j : Int) (pln L9) key).1 (Qb (j : Int) (pln L9) key).2.1) (QA (pln L9) (Qb (j : Int) (pln L9) key).1 (Qb (j : Int) (pln L9) key).2.1).reverse:=by rw [hL9];exact hfr0
 have hmo:=hok.mo0
 have hne:=hok.ne
 have hlen:=hok.len
 have hnl:=hok.nl
 have hlst:=hok.lst
 rw [Qc] at hnl hlst
 have hNI:=Qh hlst
 have hatk:=hok.atk
 rw [hNI] at hatk
 simp only [LNd.pl] at hatk
 have hsI:=hok.sm (Qo (Qb (j : Int) (pln L9) key).1)
 rw [hNI] at hsI
 simp only [LNd.pl] at hsI
 have hrg:=hok.rgt
 rw [hNI] at hrg
 simp only [LNd.pl] at hrg
 have hql:=hok.ql
 rw [Qc] at hql
 have hqn:=hok.qn
 have hdl:=hok.dl
 obtain ⟨_,_,_,hend,_⟩:=QhR hT9 (by rw [Qc];exact h09) key
 have hpl4 : plc (j : Int) (nth L9 (Qo (Qb (j : Int) (pln L9) key).1)).es key = (Qb (j : Int) (pln L9) key).2.1:=by rw [hend,hNI];rfl
 have hel9 : (nth L9 (Qo (Qb (j : Int) (pln L9) key).1)).es.length ≤ 1000:=by omega
 refine oAl (fun b3 _=>?_) Yq
 refine oSt ?_
 refine aS5 ?_
 refine o_h (QP rfl Qjw rfl (fun w1 h1=>c20 w1 j mo rm (some ⟨gn,0,none⟩) gc0 L9 key hj h09 hB9 hT9 (HS.nt_at h1 aPk aPk) hk hkl)) rfl (fun ⟨pa,pc⟩ _=>?_)
 dsimp only
 refine QU (fun w h=>HS.pown_some (P:=(Qb (j : Int) (pln L9) key).1) (a:=pa) (c:=pc) hne h aPk) fun hpa=>?_
 obtain ⟨gp,hpa⟩:=hpa
 refine Zp ?_
 try refine oWr ?_
 refine o_p (Qa rfl rfl rfl Qv ((Qb (j : Int) (pln L9) key).1.length - 1) (by omega) (by omega) hpa) rfl ?_
 refine o_q (Qg rfl rfl Xq (fun w h=>HS.pown_rd (P:=(Qb (j : Int) (pln L9) key).1) (a:=pa) (c:=pc) (k:=(Qb (j : Int) (pln L9) key).1.length - 1) (by omega) hpa h aPk)) rfl ?_
 refine Qm (show _ = Value.int .i64 ((Qo (Qb (j : Int) (pln L9) key).1) : Int) from rfl) ?_
 refine aS7 ?_
 refine o_q (Qi rfl QjE rfl (fun w1 h1=>by have h9:=c61 w1 j mo rm (some ⟨gn,0,none⟩) gc0 L9 (Qo (Qb (j : Int) (pln L9) key).1) key hj hlst (HS.nt_at h1 aPk aPk) (by omega) hel9 (hK9 _ hlst) hk hkl;rw [hpl4] at h9;exact h9)) rfl ?_
 refine aS7 ?_
 refine Qj (L':=[(4,_),(5,_),(6,_),(8,_),(9,_)]) aSx (fun _ h=>h) ?_
 refine Zf ?_
 refine o_p (Qa rfl rfl rfl Qp ((Qo (Qb (j : Int) (pln L9) key).1)) (by omega) (by omega) rfl) rfl ?_
 refine Qm (show _ = Value.pointer (some ⟨gn,(Qo (Qb (j : Int) (pln L9) key).1) * 3,none⟩) from by rw [Nat.zero_add]) ?_
 refine aS ?_
 refine o_q (Qg rfl rfl Q8 (fun w h=>HS.nd_cell hlst h aPk 2 rfl (by decide))) rfl ?_
 refine aS3 ?_
 refine Xn (α:=(Option Addr × Nat) × List LNd) [6,9,11,12,13,48,49,50,51,52,53,54,55,56,57,58,59,60,61,62,63,64,65,66,67,68,69,70,71,72,73,74,75,76,77,78,79,80,81,82,83,84,85,86,87,88,89,90,91,92,93,94,95,96,97,98,99,100,101,102,103,104,105,106,107] (fun x=>[(11,.int .i64 ((Qo (QA (pln L9) (Qb (j : Int) (pln L9) key).1 (Qb (j : Int) (pln L9) key).2.1)) : Int)),(9,.int .i64 ((Qco (pln L9) (Qb (j : Int) (pln L9) key).1 (Qb (j : Int) (pln L9) key).2.1) : Int)),(6,.slice x.1.1 (QA (pln L9) (Qb (j : Int) (pln L9) key).1 (Qb (j : Int) (pln L9) key).2.1).length x.1.2)]) (fun x=>HS w [] [.blk b3 24 4 [.int .i64 (j : Int),.int .i64 mo,.int .i64 rm,.slice (some ⟨gn,0,none⟩) (x.2).length gc0],.blk gn 102 (gc0 * 3) ((x.2).flatMap LNd.vals),.star ((x.2).map (Qk 26)),.own (.slice x.1.1 ((QA (pln L9) (Qb (j : Int) (pln L9) key).1 (Qb (j : Int) (pln L9) key).2.1)).length x.1.2) 3 1 ((QA (pln L9) (Qb (j : Int) (pln L9) key).1 (Qb (j : Int) (pln L9) key).2.1)).length (((QA (pln L9) (Qb (j : Int) (pln L9) key).1 (Qb (j : Int) (pln L9) key).2.1)).map fun i : Nat=>Value.int .i64 (i : Int)),.blk b2 24 4 [.int .i64 0,.int .i64 0,.int .i64 0,.slice none 0 0]]) (fun x=>pln x.2 = (QcF (pln L9) (Qb (j : Int) (pln L9) key).1 (Qb (j : Int) (pln L9) key).2.1) ∧ x.2.length = L9.length) ?_ ?_
 ·skip
  refine Qd rfl (fun h4=>?_) fun h4=>?_
  ·try simp only [dT] at h4
   have hcz : 0 < (nth L9 (Qo (Qb (j : Int) (pln L9) key).1)).cs.length:=by have hq:=h4;omega
   obtain ⟨hr1,hr2,hr3,hr4,hr5,hr6⟩:=hrg hcz
   refine QV (fun w h=>HS.cs_some hlst hcz h aPk) fun hgc=>?_
   obtain ⟨gc9,hgc⟩:=hgc
   have hQe : (QA (pln L9) (Qb (j : Int) (pln L9) key).1 (Qb (j : Int) (pln L9) key).2.1) = (Qb (j : Int) (pln L9) key).1 ++ Qd1 (pln L9) (pln L9).length (kdN (pln L9) (Qo (Qb (j : Int) (pln L9) key).1) (Qb (j : Int) (pln L9) key).2.1):=by unfold QA;rw [hNI];exact if_neg (by show ¬ (nth L9 (Qo (Qb (j : Int) (pln L9) key).1)).cs.length = 0;omega)
   refine aS5 ?_
   refine o_p (Qa rfl rfl rfl Qp ((Qo (Qb (j : Int) (pln L9) key).1)) (by omega) (by omega) rfl) rfl ?_
   refine Qm (show _ = Value.pointer (some ⟨gn,(Qo (Qb (j : Int) (pln L9) key).1) * 3,none⟩) from by rw [Nat.zero_add]) ?_
   refine aS ?_
   refine o_q (Qg rfl rfl Q8 (fun w h=>HS.nd_cell hlst h aPk 2 rfl (by decide))) rfl ?_
   refine aS ?_
   refine o_p (Qa rfl rfl rfl Qv ((Qb (j : Int) (pln L9) key).2.1) (by omega) (by omega) hgc) rfl ?_
   refine o_q (Qg rfl rfl Xq (fun w h=>HS.cs_rd hlst (by omega) hgc h aPk)) rfl ?_
   refine Qm (show _ = Value.int .i64 ((kdN (pln L9) (Qo (Qb (j : Int) (pln L9) key).1) (Qb (j : Int) (pln L9) key).2.1) : Int) from congrArg (Value.int .i64) (Qdp hNI hr2)) ?_
   refine aS6 ?_
   refine o_h (Qr (cs:=[_]) rfl rfl Qv X8 rfl rfl rfl) rfl (fun b5 _=>?_)
   refine o_h (QJ [_] rfl rfl rfl Qv Tryz.underlying30 X8 rfl aPk (Xv aPk) rfl (by intro u hu;simp only [List.mem_cons,List.mem_nil_iff,or_false] at hu;subst hu;rfl) (by omega) (by simp only [maxLen];omega)) rfl (fun b6 _=>?_)
   refine aS4 ?_
   refine Qj (L':=[(4,_),(5,_),(6,_),(8,_),(9,_),(11,_),(39,_),(40,_),(41,_),(42,_),(43,_),(44,_),(45,_),(46,_),(47,_)]) aSx (fun _ h=>h) ?_
   refine QN (α:=(Option Addr × Nat) × List Nat × Nat × Nat) [6,11,12,61,62,63,64,65,66,67,68,69,70,71,72,73,74,75,76,77,78,79,80,81,82,83,84] (fun x=>[(6,.slice x.1.1 (x.2.1 ++ [x.2.2.1]).length x.1.2),(11,.int .i64 (x.2.2.1 : Int))]) (fun x=>HS w [] [.blk b3 24 4 [.int .i64 (j : Int),.int .i64 mo,.int .i64 rm,.slice (some ⟨gn,0,none⟩) (L9).length gc0],.blk gn 102 (gc0 * 3) ((L9).flatMap LNd.vals),.star ((L9).map (Qk 26)),.own (.slice x.1.1 (x.2.1 ++ [x.2.2.1]).length x.1.2) 3 1 (x.2.1 ++ [x.2.2.1]).length ((x.2.1 ++ [x.2.2.1]).map fun i : Nat=>Value.int .i64 (i : Int)),.blk b2 24 4 [.int .i64 0,.int .i64 0,.int .i64 0,.slice none 0 0]]) (fun x=>QdP (pln L9) x.2.2.2 x.2.2.1 ∧ (QA (pln L9) (Qb (j : Int) (pln L9) key).1 (Qb (j : Int) (pln L9) key).2.1) = x.2.1 ++ Qd1 (pln L9) x.2.2.2 x.2.2.1 ∧ x.2.1.length + x.2.2.2 ≤ 1900) (fun x=>x.2.2.2) ((b6.1,b6.2),(Qb (j : Int) (pln L9) key).1,(kdN (pln L9) (Qo (Qb (j : Int) (pln L9) key).1) (Qb (j : Int) (pln L9) key).2.1),(pln L9).length) ⟨hr3,hQe,by rw [Qc];simp only [];omega⟩ (by simp only [List.length_append,List.length_singleton];exact aSx) (fun w h=>by have h2:=h;simp only [List.length_append,List.length_singleton,List.map_append,List.map_cons,List.map_nil];exact h2.ent aEt) (fun ⟨⟨la,lc⟩,E,leaf,fu⟩ hx=>?_)
   dsimp only
   obtain ⟨he1,he2,he3⟩:=hx
   simp only [] at he1 he2 he3
   obtain ⟨fu,rfl⟩ : ∃ f9,fu = f9 + 1:=by cases fu with | zero=>exact absurd he1 (fun h=>h) | succ f9=>exact ⟨f9,rfl⟩
   have hlf:=he1.1
   rw [Qc] at hlf
   have hNF:=Qh hlf
   have hsF:=hok.sm leaf
   rw [hNF] at hsF
   simp only [LNd.pl] at hsF
   have hEl : (E ++ [leaf]).length = E.length + 1:=by simp
   refine aS6 ?_
   refine o_p (Qa rfl rfl rfl Qp (leaf) (by omega) (by omega) rfl) rfl ?_
   refine Qm (show _ = Value.pointer (some ⟨gn,leaf * 3,none⟩) from by rw [Nat.zero_add]) ?_
   refine aS ?_
   refine o_q (Qg rfl rfl Q8 (fun w h=>HS.nd_cell hlf h aPk 2 rfl (by decide))) rfl ?_
   refine aS3 ?_
   refine Qd rfl (fun h7=>?_) fun h7=>?_
   ·try simp only [dT] at h7
    have hlz : 0 < (nth L9 leaf).cs.length:=by have hq:=h7;omega
    refine QV (fun w h=>HS.cs_some hlf hlz h aPk) fun hgl=>?_
    obtain ⟨gl9,hgl⟩:=hgl
    have hro:=he1.2
    rw [hNF] at hro
    obtain ⟨hs2,hs3⟩:=hro.resolve_left (by show ¬ (nth L9 leaf).cs.length = 0;omega)
    simp only [LNd.pl] at hs2 hs3
    have hrs:=QgC (ns:=pln L9) (f:=fu) (i:=leaf) (by rw [hNF];show ¬ (nth L9 leaf).cs.length = 0;omega)
    rw [hNF] at hrs
    simp only [LNd.pl] at hrs
    refine aS7 ?_
    refine o_p (Qa rfl rfl rfl Qp (leaf) (by omega) (by omega) rfl) rfl ?_
    refine Qm (show _ = Value.pointer (some ⟨gn,leaf * 3,none⟩) from by rw [Nat.zero_add]) ?_
    refine aS ?_
    refine o_q (Qg rfl rfl Q8 (fun w h=>HS.nd_cell hlf h aPk 2 rfl (by decide))) rfl ?_
    refine aS3 ?_
    refine Qj (L':=[(4,_),(5,_),(6,_),(8,_),(9,_),(11,_),(12,_),(39,_),(40,_),(41,_),(42,_),(43,_),(44,_),(45,_),(46,_),(47,_)]) aSx (fun _ h=>h) ?_
    refine aS5 ?_
    try refine oWr ?_
    refine o_p (Qa rfl rfl rfl Qv ((nth L9 leaf).cs.length - 1) (by omega) (by omega) hgl) rfl ?_
    refine o_q (Qg rfl rfl Xq (fun w h=>HS.cs_rd hlf (by omega) hgl h aPk)) rfl ?_
    refine Qm (show _ = Value.int .i64 ((kdN (pln L9) leaf ((nth L9 leaf).cs.length - 1)) : Int) from congrArg (Value.int .i64) (Qdp hNF hs2)) ?_
    refine aS5 ?_
    refine o_h (Qr (cs:=[_]) rfl rfl Qv X8 rfl rfl rfl) rfl (fun b8 _=>?_)
    refine o_h (QJ [_] rfl rfl rfl Qv Tryz.underlying30 X8 rfl aPk (Xv aPk) rfl (by intro u hu;simp only [List.mem_cons,List.mem_nil_iff,or_false] at hu;subst hu;rfl) (by omega) (by simp only [maxLen];omega)) rfl (fun b9 _=>?_)
    refine aS3 ?_
    exact QD ((b9.1,b9.2),E ++ [leaf],(kdN (pln L9) leaf ((nth L9 leaf).cs.length - 1)),fu) (by (try simp only []);omega) ⟨hs3,by rw [he2,hrs,List.append_assoc];rfl,by simp only [List.length_append,List.length_singleton];omega⟩ (by simp only [List.length_append (bs:=[(kdN (pln L9) leaf ((nth L9 leaf).cs.length - 1))]),List.length_singleton];exact aSx) (fun w h=>by have h2:=h;simp only [List.length_append (bs:=[(kdN (pln L9) leaf ((nth L9 leaf).cs.length - 1))]),List.length_singleton,List.map_append (l₂:=[(kdN (pln L9) leaf ((nth L9 leaf).cs.length - 1))]),List.map_cons,List.map_nil];exact h2.ent aEt)
   try simp only [dN] at h7
   have hlz : (nth L9 leaf).cs.length = 0:=by have hq:=h7;omega
   have hrs:=Qhz (ns:=pln L9) (f:=fu) (i:=leaf) (by rw [hNF];exact hlz)
   rw [hrs] at he2
   have hle : leaf = (Qo (QA (pln L9) (Qb (j : Int) (pln L9) key).1 (Qb (j : Int) (pln L9) key).2.1)):=by rw [he2,Qfm]
   rw [← hle,hNF] at hr5
   simp only [LNd.pl] at hr5
   have hNQ : nth (pln L9) (Qo (QA (pln L9) (Qb (j : Int) (pln L9) key).1 (Qb (j : Int) (pln L9) key).2.1)) = (nth L9 leaf).pl:=by rw [← hle];exact hNF
   have hK2:=QkS hNI hNQ hcz
   simp only [LNd.pl] at hK2
   have hni : (Qo (Qb (j : Int) (pln L9) key).1) ≠ leaf:=by rw [hle];exact hr4
   refine QV (fun w h=>HS.es_some hlst (by omega) h aPk) fun hge=>?_
   obtain ⟨ge9,hge⟩:=hge
   refine QV (fun w h=>HS.es_some hlf hr5 h aPk) fun hgf=>?_
   obtain ⟨gf9,hgf⟩:=hgf
   refine QV (fun w h=>HS.es_room hlst h aPk) fun hrE=>?_
   refine Qu rfl ?_
   refine aS5 ?_
   refine o_p (Qa rfl rfl rfl Qp (leaf) (by omega) (by omega) rfl) rfl ?_
   refine Qm (show _ = Value.pointer (some ⟨gn,leaf * 3,none⟩) from by rw [Nat.zero_add]) ?_
   refine aS ?_
   refine o_q (Qg rfl rfl Xb (fun w h=>HS.nd_cell hlf h aPk 1 rfl (by decide))) rfl ?_
   refine aS3 ?_
   refine Qj (L':=[(4,_),(5,_),(6,_),(8,_),(9,_),(11,_),(13,_),(39,_),(40,_),(41,_),(42,_),(43,_),(44,_),(45,_),(46,_),(47,_)]) aSx (fun _ h=>h) ?_
   refine Xd (fun w h=>HS.es_open hlst (by omega) hge h aPk) ?_
   refine QE [14] QH ?_
   refine dFa 0 ?_
   refine dLd 1 [[]] ?_
   refine dP 2 ?_
   refine dV 3 rfl (Qa rfl rfl rfl Qp ((Qo (Qb (j : Int) (pln L9) key).1)) (by omega) (by omega) rfl) ?_
   refine Ql (show _ = Value.pointer (some ⟨gn,(Qo (Qb (j : Int) (pln L9) key).1) * 3,none⟩) from by rw [Nat.zero_add]) ?_
   refine dFa 4 ?_
   refine dQ 5 [[]] rfl (Qg rfl rfl Xb (fun w h=>HS.nd_cell hlst h aPk 1 rfl (by decide))) ?_
   refine dP 6 ?_
   refine dP 7 ?_
   refine dP 8 ?_
   refine dV 9 rfl (QQ rfl rfl Tryz.underlying77) ?_
   refine dP 10 ?_
   try refine dWr ?_
   refine dV 11 rfl (Qa rfl rfl rfl QB (((nth L9 leaf).es.length - 1)) (by omega) (by omega) hgf) ?_
   refine dQ 12 [[]] rfl (QK _ rfl rfl XC rfl (fun w h=>HS.es_rdB hlf hni (k:=((nth L9 leaf).es.length - 1)) (by omega) hgf h aPk)) ?_
   refine dV 13 rfl (Qa rfl rfl rfl QB ((Qb (j : Int) (pln L9) key).2.1) (by omega) (by omega) hge) ?_
   refine Ql (show _ = Value.pointer (some ⟨ge9,(Qb (j : Int) (pln L9) key).2.1 * 2,none⟩) from by rw [Nat.zero_add]) ?_
   refine dSt 14 ?_ (hl:=(by rw [Qf ev2];show _ + 2 ≤ _;omega))
   refine dTu [] ?_
   refine dNi ?_
   refine Qj (L':=[(4,_),(5,_),(6,_),(8,_),(9,_),(11,_),(13,_),(39,_),(40,_),(41,_),(42,_),(43,_),(44,_),(45,_),(46,_),(47,_)]) aSx (fun _ h=>h) ?_
   refine aS2 ?_
   refine Y1 (fun w h=>HS.es_upd (gn:=gn) (cap:=gc0) (g:=ge9) (k:=(Qb (j : Int) (pln L9) key).2.1) (x:=nth (nth L9 leaf).es ((nth L9 leaf).es.length - 1)) hlst hatk hge h aPk aPk aPk hrE) fun L1=>?_
   refine QU (fun w h=>h.1) fun hS1=>?_
   refine QZ (fun w h=>h.2) ?_
   refine aS2 ?_
   try refine oWr ?_
   refine Qm (show _ = Value.int .i64 ((((nth L9 leaf).es.length - 1) : Nat) : Int) from by congr 1;omega) ?_
   refine aS2 ?_
   exact Qn ((la,lc),L1) ⟨by rw [hS1.es];exact (Qmu hNI hNQ hcz).symm,hS1.len⟩ (by dsimp only;rw [← hle,hK2,he2];exact aSx) (fun w h=>by dsimp only;rw [he2,hS1.len];exact h.ent aEt)
  try simp only [dN] at h4
  have hcz : (nth L9 (Qo (Qb (j : Int) (pln L9) key).1)).cs.length = 0:=by have hq:=h4;omega
  have hQe : (QA (pln L9) (Qb (j : Int) (pln L9) key).1 (Qb (j : Int) (pln L9) key).2.1) = (Qb (j : Int) (pln L9) key).1:=by unfold QA;rw [hNI];exact if_pos hcz
  refine aS ?_
  exact Qn ((pa,pc),L9) ⟨(QkY hNI hcz).symm,rfl⟩ (by dsimp only;rw [Qlv hNI hcz,hQe];exact aSx) (fun w h=>by dsimp only;rw [hQe];exact h.ent aEt)
 intro ⟨⟨qa,qc⟩,LA⟩ hx
 dsimp only
 obtain ⟨hA,hAl⟩:=hx
 simp only [] at hA hAl
 have hlq : (Qo (QA (pln L9) (Qb (j : Int) (pln L9) key).1 (Qb (j : Int) (pln L9) key).2.1)) < LA.length:=by omega
 rw [← hA,Qh hlq] at hdl
 simp only [LNd.pl] at hdl
 have hsA:=hok.sm1 (Qo (QA (pln L9) (Qb (j : Int) (pln L9) key).1 (Qb (j : Int) (pln L9) key).2.1))
 rw [← hA,Qh hlq] at hsA
 simp only [LNd.pl] at hsA
 refine QV (fun w h=>HS.pown_some (P:=(QA (pln L9) (Qb (j : Int) (pln L9) key).1 (Qb (j : Int) (pln L9) key).2.1)) (a:=qa) (c:=qc) hqn.1 h aPk) fun hqa=>?_
 obtain ⟨gq,hqa⟩:=hqa
 refine aS ?_
 refine QV (fun w h=>HS.es_room hlq h aPk) fun hrA=>?_
 refine XK [.blk b3 24 4 [.int .i64 (j : Int),.int .i64 mo,.int .i64 rm,.slice (some ⟨gn,0,none⟩) (LA).length gc0],.blk gn 102 (gc0 * 3) ((LA).flatMap LNd.vals),.star ((LA).map (Qk 26)),.blk b2 24 4 [.int .i64 0,.int .i64 0,.int .i64 0,.slice none 0 0]] [13] QH ?_
 refine dFa 0 ?_
 refine dLd 1 [[]] ?_
 refine dP 2 ?_
 refine dFa 3 ?_
 refine dLd 4 [[]] ?_
 refine dP 5 ?_
 refine dV 6 rfl (Qa rfl rfl rfl Qp ((Qo (QA (pln L9) (Qb (j : Int) (pln L9) key).1 (Qb (j : Int) (pln L9) key).2.1))) (by omega) (by omega) rfl) ?_
 refine Ql (show _ = Value.pointer (some ⟨gn,(Qo (QA (pln L9) (Qb (j : Int) (pln L9) key).1 (Qb (j : Int) (pln L9) key).2.1)) * 3,none⟩) from by rw [Nat.zero_add]) ?_
 refine dFa 7 ?_
 refine dQ 8 [[]] rfl (Qg rfl rfl Xb (fun w h=>HS.nd_cell hlq h aPk 1 rfl (by decide))) ?_
 refine dP 9 ?_
 refine dH 10 rfl (QP rfl QjO rfl (fun w1 h1=>c72 w1 (nth LA (Qo (QA (pln L9) (Qb (j : Int) (pln L9) key).1 (Qb (j : Int) (pln L9) key).2.1))).ea (nth LA (Qo (QA (pln L9) (Qb (j : Int) (pln L9) key).1 (Qb (j : Int) (pln L9) key).2.1))).ec (nth LA (Qo (QA (pln L9) (Qb (j : Int) (pln L9) key).1 (Qb (j : Int) (pln L9) key).2.1))).es (Qco (pln L9) (Qb (j : Int) (pln L9) key).1 (Qb (j : Int) (pln L9) key).2.1) (HS.es_row hlq h1 aPk) (by omega) hdl hrA.1)) (fun b10 _=>?_)
 refine dV 11 rfl (Qa rfl rfl rfl Qp ((Qo (QA (pln L9) (Qb (j : Int) (pln L9) key).1 (Qb (j : Int) (pln L9) key).2.1))) (by omega) (by omega) rfl) ?_
 refine Ql (show _ = Value.pointer (some ⟨gn,(Qo (QA (pln L9) (Qb (j : Int) (pln L9) key).1 (Qb (j : Int) (pln L9) key).2.1)) * 3,none⟩) from by rw [Nat.zero_add]) ?_
 refine dFa 12 ?_
 refine dSt 13 ?_ (hl:=(by rw [Qf nv3];show _ + 1 ≤ _;omega))
 refine dTu [] ?_
 refine dNi ?_
 refine aS4 ?_
 refine Y1 (fun w h=>HS.es_set (gn:=gn) (cap:=gc0) (ea:=b10.1) (ec:=b10.2) (es:=Qt (nth LA (Qo (QA (pln L9) (Qb (j : Int) (pln L9) key).1 (Qb (j : Int) (pln L9) key).2.1))).es (Qco (pln L9) (Qb (j : Int) (pln L9) key).1 (Qb (j : Int) (pln L9) key).2.1)) hlq h aPk aPk aPk) fun L2=>?_
 refine QU (fun w h=>h.1) fun hS2=>?_
 refine QZ (fun w h=>h.2) ?_
 have hL2 : pln L2 = (YM (pln L9) (Qb (j : Int) (pln L9) key).1 (Qb (j : Int) (pln L9) key).2.1):=by rw [hS2.es,hA,YM,← hA,Qh hlq];rfl
 have hl2 : L2.length = L9.length:=by rw [hS2.len,hAl]
 refine QZ (C':=HS w [] [.blk b3 24 4 [.int .i64 (j : Int),.int .i64 mo,.int .i64 rm,.slice (some ⟨gn,0,none⟩) (L2).length gc0],.blk gn 102 (gc0 * 3) ((L2).flatMap LNd.vals),.star ((L2).map (Qk 26)),.own (.slice qa ((QA (pln L9) (Qb (j : Int) (pln L9) key).1 (Qb (j : Int) (pln L9) key).2.1)).length qc) 3 1 ((QA (pln L9) (Qb (j : Int) (pln L9) key).1 (Qb (j : Int) (pln L9) key).2.1)).length (((QA (pln L9) (Qb (j : Int) (pln L9) key).1 (Qb (j : Int) (pln L9) key).2.1)).map fun i : Nat=>Value.int .i64 (i : Int)),.blk b2 24 4 [.int .i64 0,.int .i64 0,.int .i64 0,.slice none 0 0]]) (fun w2 h=>by rw [hl2,← hAl];exact h.ent aEt) ?_
 refine aS2 ?_
 try refine oWr ?_
 refine Qm (show _ = Value.int .i64 (((QA (pln L9) (Qb (j : Int) (pln L9) key).1 (Qb (j : Int) (pln L9) key).2.1).length - 1 : Nat) : Int) from by congr 1;omega) ?_
 refine aS3 ?_
 refine Qj (L':=[(4,_),(5,_),(6,_),(14,_)]) aSx (fun _ h=>h) ?_
 refine QN (α:=((Nat × Nat) × List LNd) × Nat) [14,124,125,126,127,128,129,130,131,132,133,134,135,136,137,138,139,140,141,142,143,144,145,146,147,148,149,150,151] (fun y=>[(14,.int .i64 (y.2 : Int))]) (fun y=>HS w [] [.blk b3 24 4 [.int .i64 (j : Int),.int .i64 mo,.int .i64 rm,.slice (some ⟨y.1.1.1,0,none⟩) (y.1.2).length y.1.1.2],.blk y.1.1.1 102 (y.1.1.2 * 3) ((y.1.2).flatMap LNd.vals),.star ((y.1.2).map (Qk 26)),.own (.slice qa ((QA (pln L9) (Qb (j : Int) (pln L9) key).1 (Qb (j : Int) (pln L9) key).2.1)).length qc) 3 1 ((QA (pln L9) (Qb (j : Int) (pln L9) key).1 (Qb (j : Int) (pln L9) key).2.1)).length (((QA (pln L9) (Qb (j : Int) (pln L9) key).1 (Qb (j : Int) (pln L9) key).2.1)).map fun i : Nat=>Value.int .i64 (i : Int)),.blk b2 24 4 [.int .i64 0,.int .i64 0,.int .i64 0,.slice none 0 0]]) (fun y=>Z0 mo (QA (pln L9) (Qb (j : Int) (pln L9) key).1 (Qb (j : Int) (pln L9) key).2.1) y.2 (pln y.1.2) = Z0 mo (QA (pln L9) (Qb (j : Int) (pln L9) key).1 (Qb (j : Int) (pln L9) key).2.1) ((QA (pln L9) (Qb (j : Int) (pln L9) key).1 (Qb (j : Int) (pln L9) key).2.1).length - 1) (YM (pln L9) (Qb (j : Int) (pln L9) key).1 (Qb (j : Int) (pln L9) key).2.1) ∧ Qcb mo (QA (pln L9) (Qb (j : Int) (pln L9) key).1 (Qb (j : Int) (pln L9) key).2.1) y.2 (pln y.1.2) ∧ y.2 < (QA (pln L9) (Qb (j : Int) (pln L9) key).1 (Qb (j : Int) (pln L9) key).2.1).length ∧ y.1.2.length ≤ y.1.1.2 ∧ y.1.1.2 ≤ maxLen) (fun y=>y.2) (((gn,gc0),L2),(QA (pln L9) (Qb (j : Int) (pln L9) key).1 (Qb (j : Int) (pln L9) key).2.1).length - 1) ⟨by rw [hL2],by rw [hL2];exact hfo,by simp only [];omega,by simp only [];rw [hl2];exact hn9,hm9⟩ aSx (fun w h=>h.ent aEt) (fun ⟨⟨⟨ga,gc⟩,Lk⟩,k⟩ hx=>?_)
 dsimp only
 obtain ⟨hx1,hx2,hx3,hx4,hx5⟩:=hx
 simp only [] at hx1 hx2 hx3 hx4 hx5
 refine aS6 ?_
 refine Qd rfl (fun h11=>?_) fun h11=>?_
 ·try simp only [dT] at h11
  obtain ⟨k1,rfl⟩ : ∃ k1,k = k1 + 1:=⟨k - 1,by omega⟩
  obtain ⟨hkl9,hsp⟩:=hx2.1
  rw [Qc] at hkl9
  rw [Qh hkl9] at hsp
  simp only [LNd.pl] at hsp
  refine aS4 ?_
  refine QE [] QH ?_
  refine dFa 0 ?_
  refine dLd 1 [] ?_
  refine dP 2 ?_
  refine dP 3 ?_
  refine dV 4 rfl (Qa rfl rfl rfl Qv (k1 + 1) (by omega) (by omega) hqa) ?_
  refine dQ 5 [] rfl (Qg rfl rfl Xq (fun w h=>HS.pown_rd (P:=(QA (pln L9) (Qb (j : Int) (pln L9) key).1 (Qb (j : Int) (pln L9) key).2.1)) (a:=qa) (c:=qc) (k:=k1 + 1) (by omega) hqa h aPk)) ?_
  refine dV 6 rfl (Qa rfl rfl rfl Qp ((nth (QA (pln L9) (Qb (j : Int) (pln L9) key).1 (Qb (j : Int) (pln L9) key).2.1) (k1 + 1))) (by omega) (by omega) rfl) ?_
  refine Ql (show _ = Value.pointer (some ⟨ga,(nth (QA (pln L9) (Qb (j : Int) (pln L9) key).1 (Qb (j : Int) (pln L9) key).2.1) (k1 + 1)) * 3,none⟩) from by rw [Nat.zero_add]) ?_
  refine dFa 7 ?_
  refine dQ 8 [] rfl (Qg rfl rfl Xb (fun w h=>HS.nd_cell hkl9 h aPk 1 rfl (by decide))) ?_
  refine dV 9 rfl (QQ rfl rfl Tryz.underlying77) ?_
  refine dFa 10 ?_
  refine dLd 11 [] ?_
  refine dV 12 rfl (YA rfl rfl rfl (by omega) (by omega) (by omega)) ?_
  refine dP 13 ?_
  refine dNi ?_
  refine Qd rfl (fun h12=>?_) fun h12=>?_
  ·try simp only [dT] at h12
   have hbig : ((nth Lk (nth (QA (pln L9) (Qb (j : Int) (pln L9) key).1 (Qb (j : Int) (pln L9) key).2.1) (k1 + 1))).es.length : Int) < mo / 2:=h12
   refine QE [9] QH ?_
   refine dP 0 ?_
   refine dP 1 ?_
   refine dP 2 ?_
   try refine dWr ?_
   refine Ql (show _ = Value.int .i64 ((k1 : Nat) : Int) from by congr 1;omega) ?_
   refine dV 3 rfl (Qa rfl rfl rfl Qv (k1) (by omega) (by omega) hqa) ?_
   refine dQ 4 [[]] rfl (Qg rfl rfl Xq (fun w h=>HS.pown_rd (P:=(QA (pln L9) (Qb (j : Int) (pln L9) key).1 (Qb (j : Int) (pln L9) key).2.1)) (a:=qa) (c:=qc) (k:=k1) (by omega) hqa h aPk)) ?_
   refine dP 5 ?_
   refine dP 6 ?_
   refine dV 7 rfl (Qa rfl rfl rfl Qv (k1 + 1) (by omega) (by omega) hqa) ?_
   refine dQ 8 [[]] rfl (Qg rfl rfl Xq (fun w h=>HS.pown_rd (P:=(QA (pln L9) (Qb (j : Int) (pln L9) key).1 (Qb (j : Int) (pln L9) key).2.1)) (a:=qa) (c:=qc) (k:=k1 + 1) (by omega) hqa h aPk)) ?_
   refine dH 9 rfl (Q7 (Cs:=[.blk b3 24 4 [.int .i64 (j : Int),.int .i64 mo,.int .i64 rm,.slice (some ⟨ga,0,none⟩) (Lk).length gc],.blk ga 102 (gc * 3) ((Lk).flatMap LNd.vals),.star ((Lk).map (Qk 26))]) rfl Qr7 rfl aPs (fun w1 h1 hf=>c73 w1 b3 j mo rm ga gc Lk (nth (QA (pln L9) (Qb (j : Int) (pln L9) key).1 (Qb (j : Int) (pln L9) key).2.1) k1) (ixR (nth (pln Lk) (nth (QA (pln L9) (Qb (j : Int) (pln L9) key).1 (Qb (j : Int) (pln L9) key).2.1) k1)).cs ((nth (QA (pln L9) (Qb (j : Int) (pln L9) key).1 (Qb (j : Int) (pln L9) key).2.1) (k1 + 1) : Nat) : Int)) (nth (QA (pln L9) (Qb (j : Int) (pln L9) key).1 (Qb (j : Int) (pln L9) key).2.1) (k1 + 1)) hf hx4 hx5 (hsp hbig).ok (hsp hbig).kd rfl)) (fun ⟨⟨g5,c5⟩,L5⟩ hF5=>?_)
   refine dTu [] ?_
   refine dNi ?_
   refine aS ?_
   refine Qj (L':=[(4,_),(5,_),(6,_),(14,_)]) aSx (fun _ h=>h) ?_
   refine aS3 ?_
   try refine oWr ?_
   refine aS2 ?_
   exact QD (((g5,c5),L5),k1) (by (try simp only []);omega) ⟨by simp only [];rw [hF5.1,← hx1,Z0,if_pos (by rw [Qh hkl9];exact hbig)],by simp only [];rw [hF5.1];have h9:=hx2.2;rw [if_pos (by rw [Qh hkl9];exact hbig)] at h9;exact h9,by simp only [];omega,hF5.2.1,hF5.2.2⟩ (by refine Qcl (congrArg (fun e=>some (Value.int .i64 e)) (show _ = _ from by simp only [];omega)) ?_;repeat (first | exact Qgl | refine Qcl rfl ?_)) (fun w h=>h.ent aEt)
  try simp only [dN] at h12
  have hbig : ¬ ((nth Lk (nth (QA (pln L9) (Qb (j : Int) (pln L9) key).1 (Qb (j : Int) (pln L9) key).2.1) (k1 + 1))).es.length : Int) < mo / 2:=by have hq:=h12;omega
  refine aS5 ?_
  try refine oWr ?_
  refine aS2 ?_
  exact QD (((ga,gc),Lk),k1) (by (try simp only []);omega) ⟨by simp only [];rw [← hx1,Z0,if_neg (by rw [Qh hkl9];exact hbig)],by simp only [];have h9:=hx2.2;rw [if_neg (by rw [Qh hkl9];exact hbig)] at h9;exact h9,by simp only [];omega,hx4,hx5⟩ (by refine Qcl (congrArg (fun e=>some (Value.int .i64 e)) (show _ = _ from by simp only [];omega)) ?_;repeat (first | exact Qgl | refine Qcl rfl ?_)) (fun w h=>h.ent aEt)
 try simp only [dN] at h11
 obtain rfl : k = 0:=by omega
 have hLG : pln Lk = Z0 mo (QA (pln L9) (Qb (j : Int) (pln L9) key).1 (Qb (j : Int) (pln L9) key).2.1) ((QA (pln L9) (Qb (j : Int) (pln L9) key).1 (Qb (j : Int) (pln L9) key).2.1).length - 1) (YM (pln L9) (Qb (j : Int) (pln L9) key).1 (Qb (j : Int) (pln L9) key).2.1):=hx1
 obtain ⟨LG,rfl⟩ : ∃ LG,LG = Lk:=⟨_,rfl⟩
 have hrot : RotOk rm (pln LG):=by rw [hLG,hfr];exact hok.rot
 have hiG : 0 < LG.length:=by rw [← Qc];exact hrot.lt
 have hlG:=hrot.len
 rw [Qc] at hlG
 have hNG:=Qh hiG
 have hrk:=hrot.kid
 rw [hNG] at hrk
 simp only [LNd.pl] at hrk
 have hru:=hrot.us
 refine Qu rfl ?_
 refine aS5 ?_
 refine o_p (Qa rfl rfl rfl Qp (0) (by omega) (by omega) rfl) rfl ?_
 refine Qm (show _ = Value.pointer (some ⟨ga,0 * 3,none⟩) from by rw [Nat.zero_add]) ?_
 refine o_q (QK _ rfl rfl Xh rfl (fun w h=>HS.nd_cells hiG h aPk)) rfl ?_
 refine oAl (fun b13 _=>?_) Xa
 refine oSt ?_
 refine aS8 ?_
 refine XD 5 160 165 _ _ rfl
  (by
   intro hg14
   have hs15:=hg14;try simp only [dT] at hs15
   refine oOn 160 hg14 ?_
   refine aS ?_
   refine oOn 160 hg14 ?_
   refine aS ?_
   refine oOn 160 hg14 ?_
   refine aS ?_
   refine oOn 160 hg14 ?_
   refine aS ?_
   refine o_p (Qw rfl rfl hg14 rfl) rfl ?_
   refine aS ?_
   exact oJn 5 165)
  (by
   intro hg16
   have hs17:=hg16;try simp only [dN] at hs17
   refine oOf 160 hg16 ?_
   refine oOf 160 hg16 ?_
   refine oOf 160 hg16 ?_
   refine oOf 160 hg16 ?_
   refine o_p (Qs rfl rfl hg16 rfl) rfl ?_
   refine aS ?_
   exact oJn 5 165) ?_
 refine aS ?_
 refine Qj (L':=[(4,_),(5,_),(6,_),(14,_),(15,_),(165,_)]) aSx (fun _ h=>h) ?_
 refine Xn (α:=List LNd) [16,17,166,167,168,169,170,171,172,173,174,175,176,177,178,179,180,181,182,183,184,185,186,187,188,189,190,191,192,193,194,195,196,197] (fun _=>[]) (fun x=>HS w [] [.blk b3 24 4 [.int .i64 (j : Int),.int .i64 mo,.int .i64 rm,.slice (some ⟨ga,0,none⟩) (x).length gc],.blk ga 102 (gc * 3) ((x).flatMap LNd.vals),.star ((x).map (Qk 26)),.blk b2 24 4 [.int .i64 0,.int .i64 0,.int .i64 0,.slice none 0 0]]) (fun x=>pln x = QaM rm (pln LG) ∧ x.length = LG.length) ?_ ?_
 ·skip
  refine Qd rfl (fun h18=>?_) fun h18=>?_
  ·try simp only [Bool.and_eq_true,decide_eq_true_eq] at h18
   have hc9:=h18
   have hrt : (nth LG 0).es.length = 0 ∧ (nth LG 0).cs.length = 1:=by omega
   obtain ⟨hk1,hck,hku⟩:=hrk hrt.2
   rw [Qc] at hck
   have hkn : (kdN (pln LG) 0 0) ≠ 0:=by have:=Qdp hNG (Int.le_of_lt hk1);simp only [LNd.pl] at this;omega
   refine QV (fun w h=>HS.cs_some hiG (by omega) h aPk) fun hgr=>?_
   obtain ⟨gr9,hgr⟩:=hgr
   refine aS4 ?_
   refine o_p (Qa rfl rfl rfl Qv (0) (by omega) (by omega) hgr) rfl ?_
   refine o_q (Qg rfl rfl Xq (fun w h=>HS.cs_rd hiG (k:=0) (by omega) hgr h aPk)) rfl ?_
   refine Qm (show _ = Value.int .i64 ((kdN (pln LG) 0 0) : Int) from congrArg (Value.int .i64) (Qdp hNG (Int.le_of_lt hk1))) ?_
   refine aS7 ?_
   refine o_p (Qa rfl rfl rfl Qp ((kdN (pln LG) 0 0)) (by omega) (by omega) rfl) rfl ?_
   refine Qm (show _ = Value.pointer (some ⟨ga,(kdN (pln LG) 0 0) * 3,none⟩) from by rw [Nat.zero_add]) ?_
   refine o_q (QK _ rfl rfl Xh rfl (fun w h=>HS.nd_cells hck h aPk)) rfl ?_
   refine oAl (fun b19 _=>?_) Xa
   refine oSt ?_
   refine Zf ?_
   refine Qd rfl (fun h20=>?_) fun h20=>?_
   ·try simp only [dT] at h20
    have hcl : ((nth LG (kdN (pln LG) 0 0)).es.length : Int) ≤ rm:=h20
    refine aS ?_
    refine XK [.blk b3 24 4 [.int .i64 (j : Int),.int .i64 mo,.int .i64 rm,.slice (some ⟨ga,0,none⟩) LG.length gc],.blk b19 102 3 (LNd.vals (nth LG (kdN (pln LG) 0 0)))] [] QH ?_
    refine dFa 0 ?_
    refine dLd 1 [] ?_
    refine dFa 2 ?_
    refine dLd 3 [] ?_
    refine dFa 4 ?_
    refine dLd 5 [] ?_
    refine dFa 6 ?_
    refine dLd 7 [] ?_
    refine dV 8 rfl (Qa rfl rfl rfl Qp (0) (by omega) (by omega) rfl) ?_
    refine Ql (show _ = Value.pointer (some ⟨ga,0 * 3,none⟩) from by rw [Nat.zero_add]) ?_
    refine dFa 9 ?_
    refine dSt 10 ?_ (hl:=(by rw [Qf nv3];show _ + 1 ≤ _;omega))
    refine dV 11 rfl (Qa rfl rfl rfl Qp (0) (by omega) (by omega) rfl) ?_
    refine Ql (show _ = Value.pointer (some ⟨ga,0 * 3,none⟩) from by rw [Nat.zero_add]) ?_
    refine dFa 12 ?_
    refine QiD 13 rfl (Q9 rfl rfl rfl Q8 rfl aPt (by rw [Qx,Qf nv3];show _ + 1 ≤ _;omega) rfl) (by kernel_rfl) (fun w h=>h.ent aEt) (fun _ _=>?_)
    refine dNi ?_
    refine Qj (L':=[(4,_),(5,_),(6,_),(14,_),(15,_),(16,_),(165,_)]) aSx (fun _ h=>h) ?_
    refine aS2 ?_
    refine Y1 (fun w h=>HS.node_move (i:=(kdN (pln LG) 0 0)) (j:=0) (gn:=ga) (cap:=gc) hck hiG hkn h aPk aPk) fun L7=>?_
    refine QU (fun w h=>h.1) fun hS7=>?_
    refine QZ (fun w h=>h.2) ?_
    have hck7 : (kdN (pln LG) 0 0) < L7.length:=by rw [hS7.len];exact hck
    refine aS2 ?_
    refine o_p (Xr (cs:=[_,_,_]) rfl rfl Z8 Xa rfl) rfl ?_
    refine o_p (Qa rfl rfl rfl Qp ((kdN (pln LG) 0 0)) (by omega) (by omega) rfl) rfl ?_
    refine Qm (show _ = Value.pointer (some ⟨ga,(kdN (pln LG) 0 0) * 3,none⟩) from by rw [Nat.zero_add]) ?_
    refine YE (Q9 rfl rfl rfl Xh rfl aPt (by rw [Qf nv3];show _ + 3 ≤ _;omega) rfl) (fun _ _=>?_)
    refine aS ?_
    refine ZV (fun w h=>HS.node_goneB (i:=(kdN (pln LG) 0 0)) (gn:=ga) (cap:=gc) hck7 h aPk aPk) fun L8=>?_
    refine QV (fun w h=>h.1) fun hS8=>?_
    refine Xd (fun w h=>h.2) ?_
    exact Qn L8 ⟨by rw [hS8.pl,hS7.pl,← QqC hiG hck hru hku];exact (Qnc hNG hrt (Qh hck) hcl).symm,by rw [hS8.len,hS7.len]⟩ aSx (fun w h=>by rw [hS8.len,hS7.len];exact h.ent aEt)
   try simp only [dN] at h20
   have hcl : ¬ ((nth LG (kdN (pln LG) 0 0)).es.length : Int) ≤ rm:=by have hq:=h20;omega
   refine aS ?_
   exact Qn LG ⟨(QmI hNG hrt (Qh hck) hcl).symm,rfl⟩ aSx (fun w h=>h.ent aEt)
  try simp only [Bool.and_eq_false_iff,decide_eq_false_iff_not] at h18
  have hc9:=h18
  have hrt : ¬ ((nth LG 0).es.length = 0 ∧ (nth LG 0).cs.length = 1):=by omega
  refine aS ?_
  exact Qn LG ⟨(QmQ hNG hrt).symm,rfl⟩ aSx (fun w h=>h.ent aEt)
 intro LR hx
 obtain ⟨hR,hRl⟩:=hx
 have hRu : (nth (pln LR) 0).us = true:=by rw [hR];exact Qmo hrot
 refine aS2 ?_
 refine QN (α:=Nat) [198,199,200,201,202,203,204,205,206,207,208,209,210,211,212,213,214,215] (fun _=>[]) (fun m=>HS w [] [.blk b3 24 4 [.int .i64 (j : Int),.int .i64 mo,.int .i64 rm,.slice (some ⟨ga,0,none⟩) (m) gc],.blk ga 102 (gc * 3) ((LR.take (m)).flatMap LNd.vals),.star ((LR.take (m)).map (Qk 26)),.blk b2 24 4 [.int .i64 0,.int .i64 0,.int .i64 0,.slice none 0 0]]) (fun m=>(1 ≤ m ∧ m ≤ LR.length) ∧ tln (pln LR) LR.length = tln (pln LR) m) (fun m=>m) LR.length ⟨⟨by rw [hRl];exact hiG,Nat.le_refl _⟩,rfl⟩ aSx (fun w h=>by rw [List.take_length];exact h.ent aEt) (fun m hm=>?_)
 obtain ⟨⟨hm1,hm2⟩,hm3⟩:=hm
 refine aS9 ?_
 try refine oWr ?_
 refine o_p (Qa rfl rfl rfl Qp (m - 1) (by omega) (by omega) rfl) rfl ?_
 refine Qm (show _ = Value.pointer (some ⟨ga,(m - 1) * 3,none⟩) from by rw [Nat.zero_add]) ?_
 refine aS ?_
 refine o_q (Qg rfl rfl QcQ (fun w h=>HS.nd_cell (L:=LR.take m) (i:=m - 1) (by rw [List.length_take];omega) h aPk 0 (by rw [QdZ (by omega)];rfl) (by decide))) rfl ?_
 refine aS2 ?_
 refine Qd rfl (fun h21=>?_) fun h21=>?_
 ·try simp only [Bool.not_eq_true'] at h21
  have hm4 : ¬ (nth (pln LR) (m - 1)).us = true:=by rw [Qh (by omega)];have hq:=h21;simp only [LNd.pl];first | exact hq | simp [hq]
  have hm5 : 1 ≤ m - 1:=(Nat.lt_or_ge 1 m).elim (fun h9=>by omega) (fun h9=>by exfalso;have h8 : m = 1:=(by omega);subst h8;exact hm4 hRu)
  refine aS9 ?_
  try refine oWr ?_
  refine o_p (QX _ _ 0 (m - 1) rfl rfl Qp rfl ⟨_,_,rfl,(by omega)⟩ (by omega) (by omega)) rfl ?_
  refine Qm (show _ = Value.slice (some ⟨ga,0,none⟩) (m - 1) gc from by rw [Ys] <;> first | rfl | (congr 1 <;> omega)) ?_
  refine aS ?_
  refine YE (Q9 rfl rfl rfl YD rfl aPt (by show 4 ≤ 4;omega) rfl) (fun _ _=>?_)
  refine aS2 ?_
  exact QD (m - 1) (by omega) ⟨⟨hm5,by omega⟩,by rw [hm3,Qgi hm1 hm4]⟩ aSx (fun w h=>by have h2:=HS.star_take (m - 1) h aPk;rw [List.take_take,Nat.min_eq_left (Nat.sub_le m 1)] at h2;have h3:=h2;rw [Qfs (L:=LR.take m) (m:=m - 1),List.take_take,Nat.min_eq_left (Nat.sub_le m 1)] at h3;exact (HS.blk_less (b:=ga) aPk h3).ent aEt)
 try simp only [Bool.not_eq_false'] at h21
 have hm4 : (nth (pln LR) (m - 1)).us = true:=by rw [Qh (by omega)];have hq:=h21;simp only [LNd.pl];first | exact hq | simpa using hq
 refine Qu rfl ?_
 refine aS3 ?_
 refine YE (Q9 rfl rfl rfl Zk rfl aPt (by show 4 ≤ 4;omega) rfl) (fun _ _=>?_)
 refine aS ?_
 exact QM (rs:=[.cell 4 24]) rfl (.cell rfl Zk aPk rfl (.nil)) (fun w' h'=>⟨((some ⟨ga,0,none⟩,gc),LR.take m),by simp only [List.length_take];rw [Nat.min_eq_left hm2];rfl,by unfold ZD;rw [← hL9,← hfr,← hLG,← hR,QbV,Qc,hm3,QhP hm1 hm4];exact List.map_take,Qau (h'.ent (Bs:=[.blk ga 102 (gc * 3) ((LR.take m).flatMap LNd.vals),.star ((LR.take m).map (Qk 26))]) aEt) (by show (LR.take m).length ≤ gc;rw [List.length_take];omega) hx5⟩)
theorem Qrx : QT Tryz.prog 27 = true:=by kernel_rfl
theorem Qp6 : X5 Tryz.prog 103 = some [.pointer none]:=by kernel_rfl
theorem QoS : QT Tryz.prog 92 = true:=by kernel_rfl
theorem Qsb : QT Tryz.prog 47 = true:=by kernel_rfl
theorem c92s (w : World) (co mo rm : Int) (a : Option Addr) (cap : Nat) (L : List LNd) (i : Nat) (es : List TEnt) (ks : List BT) (hs : Nt w [] a L) (hl : L.length ≤ 1000) (hi : i < L.length) (hn : nth (pln L) i = ⟨true,es,QL ks⟩) (hsh : ks = [] ∨ ks.length = es.length + 1) (hfl : (QF es ks).length ≤ 10000) (ih : ∀ (w1 : World) (k : Nat),k < ks.length → Nt w1 [] a L → Calls Tryz.prog 92 #[.agg #[.int .i64 co,.int .i64 mo,.int .i64 rm,.slice a L.length cap],.int .i64 ((nth ks k).idx : Int)] w1 fun en w'=>∃ g : Option Addr × Nat,en = .returned (.slice g.1 ((nth ks k).flat).length g.2) ∧ True ∧ HS w1 [] [.own (.slice g.1 ((nth ks k).flat).length g.2) 26 2 ((nth ks k).flat).length (((nth ks k).flat).flatMap TEnt.vals)] w') : Calls Tryz.prog 92 #[.agg #[.int .i64 co,.int .i64 mo,.int .i64 rm,.slice a L.length cap],.int .i64 (i : Int)] w fun en w'=>∃ g : Option Addr × Nat,en = .returned (.slice g.1 ((QF es ks)).length g.2) ∧ True ∧ HS w [] [.own (.slice g.1 ((QF es ks)).length g.2) 26 2 ((QF es ks)).length (((QF es ks)).flatMap TEnt.vals)] w':=by
 rw [Qh hi] at hn
 have hes : (nth L i).es = es:=congrArg Nd.es hn
 have hcs : (nth L i).cs = QL ks:=congrArg Nd.cs hn
 have hesl : (nth L i).es.length = es.length:=by rw [hes]
 have hcsl : (nth L i).cs.length = ks.length:=by rw [hcs,QR]
 have hel : es.length ≤ 10000:=Nat.le_trans (Qa1 es ks).length_le hfl
 have hkl : ks.length ≤ 10001:=by rcases hsh with h | h;rw [h];exact Nat.zero_le _;omega
 refine enter (args:=[_,_]) Tryz.func92 Tryz.ntmps92 rfl rfl (HS.refl w []) ?_
 refine aS2 ?_
 refine oBx fun b1 _=>?_
 refine aS7 ?_
 refine o_p (Qa rfl rfl rfl Qp (i) (by omega) (by omega) (Rw.some hs.1 (by omega))) rfl ?_
 refine o_q (QY _ rfl rfl Xh rfl (Rw.rd hs.1 hi)) rfl ?_
 refine oAl (fun b2 _=>?_) Xa
 refine oSt ?_
 refine QaU ?_
 refine QN (α:=Nat × (Option Addr × Nat)) [6,7,13,14,15,16,17,18,19,20,21,22,23,24,25,26,27,28,29,30,31,32,33,34,35,36,37,38,39,40,41,42,43,44,45] (fun x=>[(7,.int .i64 (x.1 : Int)),(6,.slice x.2.1 (YI es ks x.1).length x.2.2)]) (fun x=>HS w [] [.blk b1 24 4 [.int .i64 co,.int .i64 mo,.int .i64 rm,.slice a L.length cap],.blk b2 102 3 (nth L i).vals,.own (.slice x.2.1 (YI es ks x.1).length x.2.2) 26 2 (YI es ks x.1).length ((YI es ks x.1).flatMap TEnt.vals)]) (fun x=>x.1 ≤ es.length + 1) (fun x=>es.length + 1 - x.1) (0,(none,0)) (Nat.zero_le _) aSx (fun w h=>(h.own_nil 26 2).ent aEt) (fun ⟨k,ga,gc⟩ hk1=>?_)
 dsimp only
 simp only [] at hk1
 have hm1:=Qbq (k:=k) hsh hk1
 refine aS9 ?_
 refine Qd rfl (fun h3=>?_) fun h3=>?_
 ·try simp only [dT] at h3
  have hke : k ≤ es.length:=by have hq:=h3;omega
  have hm2:=Qet hsh hke
  have hm3:=Qbq (k:=k + 1) hsh (by omega)
  refine QaU ?_
  refine Xn (α:=Option Addr × Nat) [6,24,25,26,27,28,29,30,31,32] (fun x=>[(6,.slice x.1 (ZX es ks k).length x.2)]) (fun x=>HS w [] [.blk b1 24 4 [.int .i64 co,.int .i64 mo,.int .i64 rm,.slice a L.length cap],.blk b2 102 3 (nth L i).vals,.own (.slice x.1 (ZX es ks k).length x.2) 26 2 (ZX es ks k).length ((ZX es ks k).flatMap TEnt.vals)]) (fun _=>True) ?_ ?_
  ·skip
   refine Qd rfl (fun h4=>?_) fun h4=>?_
   ·try simp only [dT] at h4
    have hk0 : 0 < ks.length:=by have hq:=h4;omega
    have hkk : k < ks.length:=by rcases hsh with h | h;rw [h] at hk0;exact absurd hk0 (by decide);omega
    have hm4:=congrArg List.length (Yp (es:=es) (k:=k) hk0)
    rw [List.length_append] at hm4
    refine QE [8] QH ?_
    refine dP 0 ?_
    refine dLn 1 [[7]] ?_
    refine dFa 2 ?_
    refine dLd 3 [[7,6,5]] ?_
    refine dP 4 ?_
    refine dV 5 rfl (Qa rfl rfl rfl Qv (k) (by omega) (by omega) (Rw.some (hs.cs hi) (by omega))) ?_
    refine dQ 6 [[7]] rfl (Qe rfl rfl Xq (((hs.cs hi).rdj 0 (i:=k) (by omega) rfl))) ?_
    refine Ql (show _ = Value.int .i64 ((nth ks k).idx : Int) from congrArg (Value.int .i64) (by rw [hcs];exact QcE hkk)) ?_
    refine dH 7 rfl (QP rfl QoS rfl (fun w1 h1=>ih w1 k hkk (hs.later h1.nil))) (fun ⟨gu,gv⟩ _=>?_)
    refine dBa ?_
    refine dH 8 rfl (QJ ((nth ks k).flat.flatMap TEnt.vals) rfl rfl rfl QB Tryz.underlying77 Xm rfl aPk (fun w h=>Rw.src ev2 (HS.rw_own ev2 h aPk rfl) (HS.refl w [])) (Qf ev2 _) (Xf ev1 _) (by omega) (by simp only [maxLen];omega)) (fun b5 _=>?_)
    refine dTu [] ?_
    refine dP 9 ?_
    refine dNi ?_
    exact Qn b5 trivial (by rw [Yp hk0,List.length_append];exact aSx) (fun w h=>by rw [Yp hk0,List.length_append,List.flatMap_append];exact h.ent aEt)
   try simp only [dN] at h4
   have hk0 : ¬ 0 < ks.length:=by have hq:=h4;omega
   refine aS ?_
   exact Qn (ga,gc) trivial (by rw [QbI hk0];exact aSx) (fun w h=>by rw [QbI hk0];exact h.ent aEt)
  intro ⟨gb,gf⟩ _
  refine aS8 ?_
  refine Qj (L':=[(0,_),(1,_),(2,_),(4,_),(5,_),(6,_),(7,_),(8,_),(9,_),(10,_),(11,_),(12,_),(37,_)]) aSx (fun _ h=>h) ?_
  refine Xn (α:=Option Addr × Nat) [6,38,39,40,41,42,43,44,45] (fun x=>[(6,.slice x.1 (YI es ks (k + 1)).length x.2)]) (fun x=>HS w [] [.blk b1 24 4 [.int .i64 co,.int .i64 mo,.int .i64 rm,.slice a L.length cap],.blk b2 102 3 (nth L i).vals,.own (.slice x.1 (YI es ks (k + 1)).length x.2) 26 2 (YI es ks (k + 1)).length ((YI es ks (k + 1)).flatMap TEnt.vals)]) (fun _=>True) ?_ ?_
  ·skip
   refine Qd rfl (fun h6=>?_) fun h6=>?_
   ·try simp only [dT] at h6
    have hke2 : k < es.length:=by have hq:=h6;omega
    have hm5:=congrArg List.length (Y9 (es:=es) (ks:=ks) hke2)
    rw [List.length_append] at hm5
    refine aS5 ?_
    refine o_p (Qa rfl rfl rfl QB (k) (by omega) (by omega) (Rw.some (hs.es hi) (by omega))) rfl ?_
    refine o_q (QY _ rfl rfl XC rfl (Rw.rd (hs.es hi) (by omega))) rfl ?_
    refine Qm (show _ = Value.agg (TEnt.vals (nth es k)).toArray from by rw [hes]) ?_
    refine o_h (Qr (cs:=[_,_]) rfl rfl QB Xm rfl rfl rfl) rfl (fun b7 _=>?_)
    refine o_h (QJ (TEnt.vals (nth es k)) rfl rfl rfl QB Tryz.underlying77 Xm rfl aPk (Xv aPk) rfl (ev1 _) (by simp only [List.length_singleton] at hm5;omega) (by simp only [maxLen];omega)) rfl (fun b8 _=>?_)
    refine aS2 ?_
    exact Qn b8 trivial (by rw [Y9 hke2,List.length_append];exact aSx) (fun w h=>by rw [Y9 hke2,List.length_append,List.flatMap_append];simp only [List.flatMap_cons,List.flatMap_nil,List.append_nil];exact h.ent aEt)
   try simp only [dN] at h6
   have hke2 : ¬ k < es.length:=by have hq:=h6;omega
   refine aS ?_
   exact Qn (gb,gf) trivial (by rw [QbK hke2];exact aSx) (fun w h=>by rw [QbK hke2];exact h.ent aEt)
  intro ⟨gd,ge⟩ _
  refine aS4 ?_
  try refine oWr ?_
  refine aS2 ?_
  exact QD (k + 1,(gd,ge)) (by (try simp only []);omega) (by (try simp only []);omega) aSx (fun w h=>h.ent aEt)
 try simp only [dN] at h3
 refine Qu rfl ?_
 refine aS5 ?_
 exact rT rfl rfl (fun w' h'=>⟨(ga,gc),by have hke : k = es.length + 1:=(by omega);simp only [Xw];rw [← Qai hsh,← hke],trivial,by have hke : k = es.length + 1:=(by omega);rw [← Qai hsh,← hke];exact h'.ent aEt⟩)
theorem c92 : ∀ (d : Nat) (w : World) (co mo rm : Int) (a : Option Addr) (cap : Nat) (L : List LNd) (T : BT) (lo hi : Nat),Nt w [] a L → L.length ≤ 1000 → Bel lo hi d T → NIn (pln L) T → T.flat.length ≤ 10000 → Calls Tryz.prog 92 #[.agg #[.int .i64 co,.int .i64 mo,.int .i64 rm,.slice a L.length cap],.int .i64 (T.idx : Int)] w fun en w'=>∃ g : Option Addr × Nat,en = .returned (.slice g.1 (T.flat).length g.2) ∧ True ∧ HS w [] [.own (.slice g.1 (T.flat).length g.2) 26 2 (T.flat).length ((T.flat).flatMap TEnt.vals)] w'
  | 0,w,co,mo,rm,a,cap,L,.nd i es ks,lo,hi,hs,hl,hB,hN,hf=>by
    rw [BT.flat] at hf ⊢;have hk:=Qfx hB;exact c92s w co mo rm a cap L i es ks hs hl (by have h9:=hN.root.1;rwa [Qc] at h9) hN.root.2 (.inl hk) hf (fun w1 k h=>by rw [hk] at h;exact absurd h (Nat.not_lt_zero _))
  | d + 1,w,co,mo,rm,a,cap,L,.nd i es ks,lo,hi,hs,hl,hB,hN,hf=>by
    have hf2:=hf;rw [BT.flat] at hf ⊢;exact c92s w co mo rm a cap L i es ks hs hl (by have h9:=hN.root.1;rwa [Qc] at h9) hN.root.2 (.inr hB.1) hf (fun w1 k h h1=>c92 d w1 co mo rm a cap L (nth ks k) lo hi h1 hl (Qby hB h) (hN.kid h) (Nat.le_trans (Qi7 hB.1 h) hf))
theorem c92z (w : World) (co mo rm : Int) (a : Option Addr) (cap : Nat) (L : List LNd) (T : BT) (d lo hi : Nat) (hs : Nt w [] a L) (hl : L.length ≤ 1000) (hB : Bel lo hi d T) (hN : NIn (pln L) T) (h0 : T.idx = 0) (hf : T.flat.length ≤ 10000) : Calls Tryz.prog 92 #[.agg #[.int .i64 co,.int .i64 mo,.int .i64 rm,.slice a L.length cap],.int .i64 0] w fun en w'=>∃ g : Option Addr × Nat,en = .returned (.slice g.1 (T.flat).length g.2) ∧ True ∧ HS w [] [.own (.slice g.1 (T.flat).length g.2) 26 2 (T.flat).length ((T.flat).flatMap TEnt.vals)] w':=by
  have h9:=c92 d w co mo rm a cap L T lo hi hs hl hB hN hf;rw [h0] at h9;exact h9
theorem Z5 {w0 w : World} {M : List Nat} {As As' : List HA} {a : Option Addr} {cap t k g : Nat} {l : List TEnt} (hk : k < l.length) (hg : a = some ⟨g,0,none⟩) (h : HS w0 M As w) (hp : QG As (.own (.slice a l.length cap) t 2 l.length (l.flatMap TEnt.vals)) As') (q : Nat) (v : Value) (hv : (TEnt.vals (nth l k))[q]? = some v) : Rd w [] g (0 + k * 2 + q) v:=by
  have h1:=Rw.rd (h.rw_own ev2 hp rfl) (i:=k) hk q v hv;rw [hg] at h1;exact h1
theorem c47 (w : World) (co mo rm : Int) (a : Option Addr) (cap : Nat) (L : List LNd) (T : BT) (d lo hi : Nat) (hs : Nt w [] a L) (hl : L.length ≤ 1000) (hB : Bel lo hi d T) (hN : NIn (pln L) T) (h0 : T.idx = 0) (hf : T.flat.length ≤ 10000) : Calls Tryz.prog 47 #[.agg #[.int .i64 co,.int .i64 mo,.int .i64 rm,.slice a L.length cap]] w fun en w'=>∃ g : Option Addr × Nat,en = .returned (.slice g.1 (T.flat).length g.2) ∧ True ∧ HS w [] [.own (.slice g.1 (T.flat).length g.2) 26 2 (T.flat).length ((T.flat).flatMap TEnt.vals)] w':=by
 refine enter (args:=[_]) Tryz.func47 Tryz.ntmps47 rfl rfl (HS.refl w []) ?_
 refine aS2 ?_
 refine oBx fun b1 _=>?_
 refine aS5 ?_
 refine o_h (QP rfl QoS rfl (fun w1 h1=>c92z w1 co mo rm a cap L T d lo hi (hs.later h1.nil) hl hB hN h0 hf)) rfl (fun ⟨gu,gv⟩ _=>?_)
 refine aS2 ?_
 exact rT rfl rfl (fun w' h'=>⟨(gu,gv),rfl,trivial,h'.ent aEt⟩)
theorem Ql8 : QT Tryz.prog 130 = true:=by kernel_rfl
theorem QoO : QT Tryz.prog 94 = true:=by kernel_rfl
def AllC (S : Type) (I : Nat → S → Prop) (C : S → HA) (st : S → TEnt → S → Prop) (co : S → Bool) (Q : TEnt → Prop) (lr : Nat) (bt : Nat) (j : Nat) (mo rm : Int) (a : Option Addr) (cap : Nat) (L : List LNd) (T : BT) : Prop:=∀ (w : World) (s : S) (r : Nat),(HS w (fps [C s]) [C s] w) → ((∀ (n : Nat) (s2 : S) (x : TEnt) (w1 : World),HS w (fps [C s]) [C s2] w1 → I (n + 1) s2 → Q x → Zu Tryz.prog lr [Value.agg (TEnt.vals x).toArray].toArray w1 fun e w2=>∃ s3 : S,e = .returned (.bool (co s3)) ∧ (st s2 x s3 ∧ (co s3 = true → I n s3)) ∧ HS w1 (fps [C s2]) [C s3] w2)) → (TbR w (fps [C s]) bt (j : Int) mo rm a L.length cap) → (Nt w (fps [C s]) a L) → (∀ x ∈ T.flat,Q x) → ((T.flat).length ≤ 10000) → (I ((T.flat).length + r) s) → Calls Tryz.prog 130 #[.pointer (some ⟨bt,0,none⟩),.int .i64 (T.idx : Int),.func (.yield lr) #[] #[]] w fun en w'=>∃ g : S × Bool,en = .returned (.bool g.2) ∧ (RunY st co s T.flat g.1 g.2 ∧ (g.2 = true → I r g.1)) ∧ HS w (fps [C s]) [C g.1] w'
theorem Qpt (w : World) (S : Type) (I : Nat → S → Prop) (C : S → HA) (st : S → TEnt → S → Prop) (co : S → Bool) (Q : TEnt → Prop) (lr : Nat) (bt : Nat) (j : Nat) (mo rm : Int) (a : Option Addr) (cap : Nat) (L : List LNd) (i : Nat) (es : List TEnt) (ks : List BT) (s : S) (r : Nat) (hw : HS w (fps [C s]) [C s] w) (hv : (∀ (n : Nat) (s2 : S) (x : TEnt) (w1 : World),HS w (fps [C s]) [C s2] w1 → I (n + 1) s2 → Q x → Zu Tryz.prog lr [Value.agg (TEnt.vals x).toArray].toArray w1 fun e w2=>∃ s3 : S,e = .returned (.bool (co s3)) ∧ (st s2 x s3 ∧ (co s3 = true → I n s3)) ∧ HS w1 (fps [C s2]) [C s3] w2)) (ht : TbR w (fps [C s]) bt (j : Int) mo rm a L.length cap) (hs : Nt w (fps [C s]) a L) (hQ : ∀ x ∈ (QF es ks),Q x) (hf : ((QF es ks)).length ≤ 10000) (hI : I (((QF es ks)).length + r) s) (hl : L.length ≤ 1000) (hi : i < L.length) (hn : nth (pln L) i = ⟨true,es,QL ks⟩) (hsh : ks = [] ∨ ks.length = es.length + 1) (ih : ∀ k,k < ks.length → AllC S I C st co Q lr bt j mo rm a cap L (nth ks k)) : Calls Tryz.prog 130 #[.pointer (some ⟨bt,0,none⟩),.int .i64 (i : Int),.func (.yield lr) #[] #[]] w fun en w'=>∃ g : S × Bool,en = .returned (.bool g.2) ∧ (RunY st co s (QF es ks) g.1 g.2 ∧ (g.2 = true → I r g.1)) ∧ HS w (fps [C s]) [C g.1] w':=by
 rw [Qh hi] at hn
 have hes : (nth L i).es = es:=congrArg Nd.es hn
 have hcs : (nth L i).cs = QL ks:=congrArg Nd.cs hn
 have hesl : (nth L i).es.length = es.length:=by rw [hes]
 have hcsl : (nth L i).cs.length = ks.length:=by rw [hcs,QR]
 have hel : es.length ≤ 10000:=Nat.le_trans (Qa1 es ks).length_le hf
 have hkl : ks.length ≤ 10001:=by rcases hsh with h | h;rw [h];exact Nat.zero_le _;omega
 refine enter (args:=[_,_,_]) Tryz.func130 Tryz.ntmps130 rfl rfl hw ?_
 refine Zf ?_
 refine o_q (Qe rfl rfl YD (ht 3 _ rfl)) rfl ?_
 refine aS ?_
 refine o_p (Qa rfl rfl rfl Qp (i) (by omega) (by omega) (Rw.some hs.1 (by omega))) rfl ?_
 refine o_q (QY _ rfl rfl Xh rfl (Rw.rd hs.1 hi)) rfl ?_
 refine oAl (fun b1 _=>?_) Xa
 refine oSt ?_
 refine aS8 ?_
 try refine oWr ?_
 refine aS3 ?_
 refine Qj (L':=[(0,_),(2,_),(6,_),(7,_),(20,_),(21,_)]) aSx (fun _ h=>h) ?_
 refine QN (α:=Nat × S) [6,8,21,22,23,24,25,26,27,28,29,30,31,32,33,34,35,36,37,38,39,40,41,42,43,44,45,46,47,48,49,50,51,52,53,54] (fun x=>[(21,.int .i64 (x.1 : Int))]) (fun x=>HS w (fps [C s]) [.blk b1 102 3 (nth L i).vals,C x.2]) (fun x=>x.1 ≤ es.length + 1 ∧ RunY st co s (YI es ks x.1) x.2 true ∧ I ((QF es ks).length - (YI es ks x.1).length + r) x.2) (fun x=>es.length + 1 - x.1) (0,s) ⟨Nat.zero_le _,.nil s,hI⟩ aSx (fun w h=>h.ent aEt) (fun ⟨k,sk⟩ hx=>?_)
 dsimp only
 obtain ⟨hk1,hk2,hk3⟩:=hx
 simp only [] at hk1 hk2 hk3
 have hm1:=Qbq (k:=k) hsh hk1
 refine aS5 ?_
 refine Qd rfl (fun h2=>?_) fun h2=>?_
 ·try simp only [dT] at h2
  have hke : k ≤ es.length:=by have hq:=h2;omega
  have hm2:=Qet hsh hke
  have hm3:=Qbq (k:=k + 1) hsh (by omega)
  have hm6:=QgI (es:=es) (ks:=ks) (k:=k)
  have hm7:=QdU (es:=es) (ks:=ks) (k:=k)
  iterate 16 refine aS ?_
  refine Qmm (α:=S × Bool) 10 28 38 _ (fun x=>!x.2) (fun x=>HS w (fps [C s]) [.blk b1 102 3 (nth L i).vals,C x.1]) (fun x=>RunY st co s (ZX es ks k) x.1 x.2 ∧ (x.2 = true → I ((QF es ks).length - (ZX es ks k).length + r) x.1)) rfl
   (by
    intro hg3
    have hs4:=hg3;try simp only [dT] at hs4
    have hk0 : 0 < ks.length:=by have hq:=hg3;simp at hq;omega
    have hsk : ks.length = es.length + 1:=by rcases hsh with h | h;rw [h] at hk0;exact absurd hk0 (by decide);exact h
    have hkk : k < ks.length:=by omega
    have hm4:=congrArg List.length (Yp (es:=es) (k:=k) hk0)
    rw [List.length_append] at hm4
    refine oOn 28 hg3 ?_
    refine aS ?_
    refine oOn 28 hg3 ?_
    refine aS ?_
    refine oOn 28 hg3 ?_
    refine aS ?_
    refine oOn 28 hg3 ?_
    refine aS ?_
    refine oOn 28 hg3 ?_
    refine o_p (Qa rfl rfl rfl Qv (k) (by omega) (by omega) (Rw.some (hs.cs hi) (by omega))) rfl ?_
    refine oOn 28 hg3 ?_
    refine o_q (Qe rfl rfl Xq (((hs.cs hi).rdj 0 (i:=k) (by omega) rfl))) rfl ?_
    refine Qm (show _ = Value.int .i64 ((nth ks k).idx : Int) from congrArg (Value.int .i64) (by rw [hcs];exact QcE hkk)) ?_
    refine oOn 28 hg3 ?_
    refine aS ?_
    refine oOn 28 hg3 ?_
    refine o_h (Q7 (Cs:=[C sk]) rfl Ql8 rfl aPs (fun w1 h1 hf9=>ih k hkk w1 sk ((QF es ks).length - (ZX es ks k).length + r) hf9 (fun n9 s2 x w2 h2 hI2 hQ2=>hv n9 s2 x w2 (HS.thenF (h1.ent (Bs:=[C sk]) aEt) h2) hI2 hQ2) ((ht.keep h1).mono (Xo aPs)) ((hs.keep h1).mono (Xo aPs)) (fun x hx=>hQ x (Qjd hsk hkk hx)) (Nat.le_trans (Qi7 hsk hkk) hf) (by rw [show (nth ks k).flat.length + ((QF es ks).length - (ZX es ks k).length + r) = ((QF es ks).length - (YI es ks k).length + r) from by omega];exact hk3))) rfl (fun ⟨sm,bm⟩ hRm=>?_)
    refine oOn 28 hg3 ?_
    refine aS ?_
    refine o_p (Qw rfl rfl hg3 rfl) rfl ?_
    refine aS ?_
    exact Qn (sm,bm) ⟨by rw [Yp hk0];exact hk2.app hRm.1,hRm.2⟩ aSx (fun w h=>h.ent aEt))
   (by
    intro hg5
    have hs6:=hg5;try simp only [dN] at hs6
    have hk0 : ¬ 0 < ks.length:=by have hq:=hg5;simp at hq;omega
    refine oOf 28 hg5 ?_
    refine oOf 28 hg5 ?_
    refine oOf 28 hg5 ?_
    refine oOf 28 hg5 ?_
    refine oOf 28 hg5 ?_
    refine oOf 28 hg5 ?_
    refine oOf 28 hg5 ?_
    refine oOf 28 hg5 ?_
    refine oOf 28 hg5 ?_
    refine o_p (Qs rfl rfl hg5 rfl) rfl ?_
    refine aS ?_
    exact Qn (sk,true) ⟨by rw [QbI hk0];exact hk2,fun _=>by rw [QbI hk0];exact hk3⟩ aSx (fun w h=>h.ent aEt)) ?_
  intro ⟨sm,bm⟩ hx
  dsimp only
  obtain ⟨hR1,hI1⟩:=hx
  simp only [] at hR1 hI1
  refine aS ?_
  refine Qd rfl (fun h7=>?_) fun h7=>?_
  ·try simp only [Bool.not_eq_true'] at h7
   obtain rfl : bm = false:=by have hq:=h7;simpa using hq
   obtain ⟨B9,hB9⟩:=QdJ hsh hke
   refine aS4 ?_
   exact rT rfl rfl (fun w' h'=>⟨(sm,false),rfl,⟨by rw [hB9];exact hR1.off B9,fun h=>by cases h⟩,h'.ent aEt⟩)
  try simp only [Bool.not_eq_false'] at h7
  obtain rfl : bm = true:=by have hq:=h7;simpa using hq
  refine aS9 ?_
  refine Qmm (α:=S × Bool) 9 44 53 _ (fun x=>!x.2) (fun x=>HS w (fps [C s]) [.blk b1 102 3 (nth L i).vals,C x.1]) (fun x=>RunY st co s (YI es ks (k + 1)) x.1 x.2 ∧ (x.2 = true → I ((QF es ks).length - (YI es ks (k + 1)).length + r) x.1)) rfl
   (by
    intro hg8
    have hs9:=hg8;try simp only [dT] at hs9
    have hke2 : k < es.length:=by have hq:=hg8;simp at hq;omega
    have hm5:=congrArg List.length (Y9 (es:=es) (ks:=ks) hke2)
    rw [List.length_append,List.length_singleton] at hm5
    refine oOn 44 hg8 ?_
    refine aS ?_
    refine oOn 44 hg8 ?_
    refine aS ?_
    refine oOn 44 hg8 ?_
    refine aS ?_
    refine oOn 44 hg8 ?_
    refine aS ?_
    refine oOn 44 hg8 ?_
    refine o_p (Qa rfl rfl rfl QB (k) (by omega) (by omega) (Rw.some (hs.es hi) (by omega))) rfl ?_
    refine oOn 44 hg8 ?_
    refine o_q (QY _ rfl rfl XC rfl (Rw.rd (hs.es hi) (by omega))) rfl ?_
    refine Qm (show _ = Value.agg (TEnt.vals (nth es k)).toArray from by rw [hes]) ?_
    refine oOn 44 hg8 ?_
    refine o_h (QlE (Cs:=[C sm]) rfl rfl rfl aPs (fun w1 h1 hf9=>hv ((QF es ks).length - (YI es ks (k + 1)).length + r) sm (nth es k) w1 (h1.ent aEt) (by rw [show ((QF es ks).length - (YI es ks (k + 1)).length + r) + 1 = ((QF es ks).length - (ZX es ks k).length + r) from by omega];exact hI1 rfl) (hQ _ (Qqb hsh hke2)))) rfl (fun sy hRy=>?_)
    refine oOn 44 hg8 ?_
    refine aS ?_
    refine o_p (Qw rfl rfl hg8 rfl) rfl ?_
    refine aS ?_
    exact Qn (sy,co sy) ⟨by rw [Y9 hke2];exact hR1.app (RunY.one hRy.1),hRy.2⟩ aSx (fun w h=>h.ent aEt))
   (by
    intro hg10
    have hs11:=hg10;try simp only [dN] at hs11
    have hke2 : ¬ k < es.length:=by have hq:=hg10;simp at hq;omega
    refine oOf 44 hg10 ?_
    refine oOf 44 hg10 ?_
    refine oOf 44 hg10 ?_
    refine oOf 44 hg10 ?_
    refine oOf 44 hg10 ?_
    refine oOf 44 hg10 ?_
    refine oOf 44 hg10 ?_
    refine oOf 44 hg10 ?_
    refine o_p (Qs rfl rfl hg10 rfl) rfl ?_
    refine aS ?_
    exact Qn (sm,true) ⟨by rw [QbK hke2];exact hR1,fun _=>by rw [QbK hke2];exact hI1 rfl⟩ aSx (fun w h=>h.ent aEt)) ?_
  intro ⟨sy,by9⟩ hx
  dsimp only
  obtain ⟨hR2,hI2⟩:=hx
  simp only [] at hR2 hI2
  refine aS ?_
  refine Qd rfl (fun h12=>?_) fun h12=>?_
  ·try simp only [Bool.not_eq_true'] at h12
   obtain rfl : by9 = false:=by have hq:=h12;simpa using hq
   obtain ⟨B9,hB9⟩:=Qf3 hsh (show k + 1 ≤ es.length + 1 by omega)
   refine aS4 ?_
   exact rT rfl rfl (fun w' h'=>⟨(sy,false),rfl,⟨by rw [hB9];exact hR2.off B9,fun h=>by cases h⟩,h'.ent aEt⟩)
  try simp only [Bool.not_eq_false'] at h12
  obtain rfl : by9 = true:=by have hq:=h12;simpa using hq
  refine aS4 ?_
  try refine oWr ?_
  refine aS2 ?_
  exact QD (k + 1,sy) (by (try simp only []);omega) ⟨by (try simp only []);omega,hR2,hI2 rfl⟩ aSx (fun w h=>h.ent aEt)
 try simp only [dN] at h2
 refine Qu rfl ?_
 refine aS4 ?_
 exact rT rfl rfl (fun w' h'=>⟨(sk,true),rfl,by have hke : k = es.length + 1:=(by omega);rw [← Qai hsh,← hke];exact ⟨hk2,fun _=>by rw [← Qai hsh,← hke,Nat.sub_self,Nat.zero_add] at hk3;exact hk3⟩,h'.ent aEt⟩)
theorem c130 (S : Type) (I : Nat → S → Prop) (C : S → HA) (st : S → TEnt → S → Prop) (co : S → Bool) (Q : TEnt → Prop) (lr : Nat) (bt : Nat) (j : Nat) (mo rm : Int) (a : Option Addr) (cap : Nat) (L : List LNd) (hl : L.length ≤ 1000) : ∀ (d : Nat) (T : BT) (lo hi : Nat),Bel lo hi d T → NIn (pln L) T → AllC S I C st co Q lr bt j mo rm a cap L T
  | 0,.nd i es ks,lo,hi,hB,hN=>fun w s r hw hv ht hs hQ hf hI=>by
    rw [BT.flat] at hQ hf hI ⊢;have hk:=Qfx hB;exact Qpt w S I C st co Q lr bt j mo rm a cap L i es ks s r hw hv ht hs hQ hf hI hl (by have h9:=hN.root.1;rwa [Qc] at h9) hN.root.2 (.inl hk) (fun k h=>by rw [hk] at h;exact absurd h (Nat.not_lt_zero _))
  | d + 1,.nd i es ks,lo,hi,hB,hN=>fun w s r hw hv ht hs hQ hf hI=>by
    rw [BT.flat] at hQ hf hI ⊢;exact Qpt w S I C st co Q lr bt j mo rm a cap L i es ks s r hw hv ht hs hQ hf hI hl (by have h9:=hN.root.1;rwa [Qc] at h9) hN.root.2 (.inr hB.1) (fun k h=>c130 S I C st co Q lr bt j mo rm a cap L hl d (nth ks k) lo hi (Qby hB h) (hN.kid h))
theorem Qr1 (w : World) (S : Type) (I : Nat → S → Prop) (C : S → HA) (st : S → TEnt → S → Prop) (co : S → Bool) (Q : TEnt → Prop) (lr : Nat) (bt : Nat) (j : Nat) (mo rm : Int) (a : Option Addr) (cap : Nat) (L : List LNd) (T : BT) (d lo hi : Nat) (s : S) (r : Nat) (hw : HS w (fps [C s]) [C s] w) (hv : (∀ (n : Nat) (s2 : S) (x : TEnt) (w1 : World),HS w (fps [C s]) [C s2] w1 → I (n + 1) s2 → Q x → Zu Tryz.prog lr [Value.agg (TEnt.vals x).toArray].toArray w1 fun e w2=>∃ s3 : S,e = .returned (.bool (co s3)) ∧ (st s2 x s3 ∧ (co s3 = true → I n s3)) ∧ HS w1 (fps [C s2]) [C s3] w2)) (ht : TbR w (fps [C s]) bt (j : Int) mo rm a L.length cap) (hs : Nt w (fps [C s]) a L) (hQ : ∀ x ∈ T.flat,Q x) (hf : (T.flat).length ≤ 10000) (hI : I ((T.flat).length + r) s) (hl : L.length ≤ 1000) (hB : Bel lo hi d T) (hN : NIn (pln L) T) (h0 : T.idx = 0) : Calls Tryz.prog 130 #[.pointer (some ⟨bt,0,none⟩),.int .i64 0,.func (.yield lr) #[] #[]] w fun en w'=>∃ g : S × Bool,en = .returned (.bool g.2) ∧ (RunY st co s T.flat g.1 g.2 ∧ (g.2 = true → I r g.1)) ∧ HS w (fps [C s]) [C g.1] w':=by
  have h9:=c130 S I C st co Q lr bt j mo rm a cap L hl d T lo hi hB hN w s r hw hv ht hs hQ hf hI;rw [h0] at h9;exact h9
theorem Qnz {St α : Type} {st : St → α → St → Prop} {f : St → List α} {l : List α} {s s1 : St} {b : Bool} (hst : ∀ s x s',st s x s' → f s' = f s ++ [x]) (h : RunY st (fun _=>true) s l s1 b) : f s1 = f s ++ l:=by
  induction h with
  | nil s=>rw [List.append_nil]
  | go h hc _ ih=>rw [ih,hst _ _ _ h,List.append_assoc];rfl
  | stop h hc=>cases hc
theorem c94 (w : World) (S : Type) (I : Nat → S → Prop) (C : S → HA) (st : S → TEnt → S → Prop) (co : S → Bool) (Q : TEnt → Prop) (lr : Nat) (bt : Nat) (j : Nat) (mo rm : Int) (a : Option Addr) (cap : Nat) (L : List LNd) (T : BT) (d lo hi : Nat) (s : S) (r : Nat) (hw : HS w (fps [C s]) [C s] w) (hv : (∀ (n : Nat) (s2 : S) (x : TEnt) (w1 : World),HS w (fps [C s]) [C s2] w1 → I (n + 1) s2 → Q x → Zu Tryz.prog lr [Value.agg (TEnt.vals x).toArray].toArray w1 fun e w2=>∃ s3 : S,e = .returned (.bool (co s3)) ∧ (st s2 x s3 ∧ (co s3 = true → I n s3)) ∧ HS w1 (fps [C s2]) [C s3] w2)) (ht : TbR w (fps [C s]) bt (j : Int) mo rm a L.length cap) (hs : Nt w (fps [C s]) a L) (hQ : ∀ x ∈ T.flat,Q x) (hf : (T.flat).length ≤ 10000) (hI : I ((T.flat).length + r) s) (hl : L.length ≤ 1000) (hB : Bel lo hi d T) (hN : NIn (pln L) T) (h0 : T.idx = 0) : Calls Tryz.prog 94 #[.pointer (some ⟨bt,0,none⟩),.func (.yield lr) #[] #[]] w fun en w'=>∃ g : S × Bool,en = .returned (.tuple #[]) ∧ (RunY st co s T.flat g.1 g.2 ∧ (g.2 = true → I r g.1)) ∧ HS w (fps [C s]) [C g.1] w':=by
 refine enter (args:=[_,_]) Tryz.func94 Tryz.ntmps94 rfl rfl hw ?_
 refine aS3 ?_
 refine o_h (Q7 (Cs:=[C s]) rfl Ql8 rfl aPs (fun w1 h1 hf9=>Qr1 w1 S I C st co Q lr bt j mo rm a cap L T d lo hi s r hf9 (fun n9 s2 x w2 h2 hI2 hQ2=>hv n9 s2 x w2 (HS.thenF (h1.ent (Bs:=[C s]) aEt) h2) hI2 hQ2) ((ht.keep h1).mono (Xo aPs)) ((hs.keep h1).mono (Xo aPs)) hQ hf hI hl hB hN h0)) rfl (fun ⟨sm,bm⟩ hRm=>?_)
 refine aS ?_
 exact YR rfl (fun w' h'=>⟨(sm,bm),rfl,hRm,h'.ent aEt⟩)
theorem c131 (w : World) (bt : Nat) (j : Nat) (mo rm : Int) (a : Option Addr) (cap : Nat) (L : List LNd) (T : BT) (d lo hi : Nat) (hs : Nt w [] a L) (ht : TbR w [] bt (j : Int) mo rm a L.length cap) (hl : L.length ≤ 1000) (hB : Bel lo hi d T) (hN : NIn (pln L) T) (h0 : T.idx = 0) (hf : T.flat.length ≤ 10000) : Calls Tryz.prog 131 #[.slice none 0 0,.func (.func 94) #[.pointer (some ⟨bt,0,none⟩)] #[]] w fun en w'=>∃ g : Option Addr × Nat,en = .returned (.slice g.1 (T.flat).length g.2) ∧ True ∧ HS w [] [.own (.slice g.1 (T.flat).length g.2) 26 2 (T.flat).length ((T.flat).flatMap TEnt.vals)] w':=by
 refine enter (args:=[_,_]) Tryz.func131 Tryz.ntmps131 rfl rfl (HS.refl w []) ?_
 refine aS2 ?_
 refine oBx fun b1 _=>?_
 refine aS8 ?_
 refine QhB (G:={s : ((Option Addr × Nat) × List TEnt) // s.2 = T.flat}) (Bs:=fun s=>[.blk b1 77 1 [.slice s.1.1.1 s.1.2.length s.1.1.2],.own (.slice s.1.1.1 (s.1.2).length s.1.1.2) 26 2 (s.1.2).length ((s.1.2).flatMap TEnt.vals)]) (jmp:=fun _=>none) rfl rfl rfl QoO (fun fid D l a9 w1 ob hob ha9 hw1=>?_) (fun D x=>?_)
 ·skip
  have h2 : HS w [] [(fun s=>.star [.obj l ob,.obj D (.deferred (some [])),.blk b1 77 1 [.slice s.1.1 s.2.length s.1.2],.own (.slice s.1.1 (s.2).length s.1.2) 26 2 (s.2).length ((s.2).flatMap TEnt.vals)]) ((none,0),[])] w1:=HS.star_close (Bs:=[_,_,_,_]) ((hw1.own_nil 26 2).ent aEt)
  refine Calls.mono (c94 w1 ((Option Addr × Nat) × List TEnt) (fun n s=>s.2.length + n ≤ 10000) (fun s=>.star [.obj l ob,.obj D (.deferred (some [])),.blk b1 77 1 [.slice s.1.1 s.2.length s.1.2],.own (.slice s.1.1 (s.2).length s.1.2) 26 2 (s.2).length ((s.2).flatMap TEnt.vals)]) (fun s x s3=>s3.2 = s.2 ++ [x]) (fun _=>true) (fun _=>True) l bt j mo rm a cap L T d lo hi ((none,0),[]) 0 (HS.focus (Cs:=[_]) (Ds:=[]) h2) ?_ (ht.keep h2) (hs.keep h2) (fun _ _=>trivial) hf (by show 0 + _ ≤ _;omega) hl hB hN h0) fun e w2 hx=>?_
  rotate_left
  ·obtain ⟨⟨sm,bm⟩,he,⟨hr,_⟩,h5⟩:=hx
   refine ⟨⟨_,he⟩,⟨sm,by have h7:=Qnz (f:=fun s : ((Option Addr × Nat) × List TEnt)=>s.2) (fun _ _ _ h=>h) hr;simpa using h7⟩,?_⟩
   have h6:=HS.star_open (HS.callA h2 h5)
   subst hob
   exact h6.ent aEt
  intro n9 s2 x w3 h3 hI2 _
  have h4:=HS.star_open (HS.focus (Cs:=[_]) (Ds:=[]) h3)
  subst hob
  obtain ⟨⟨ga,gc⟩,lg⟩:=s2
  dsimp only at h4 hI2 ⊢
  refine Qgv (α:=Nat) (fn:=Tryz.f131) (As1:=fun b5=>.obj D (.deferred (some [])) :: [.blk b1 77 1 [.slice ga lg.length gc],.own (.slice ga (lg).length gc) 26 2 (lg).length ((lg).flatMap TEnt.vals),.blk b5 26 2 (TEnt.vals x)]) (L1:=fun b5=>[(5,.pointer (some ⟨b5,0,none⟩)),(2,.pointer (some ⟨b1,0,none⟩))]) h4 rfl (FR.round1 ha9 7 _ rfl) ?_ ?_
  ·skip
   refine aS ?_
   refine oAl (fun b2 _=>?_) Xm
   refine oSt ?_
   refine aS ?_
   exact Qga b2 aSx (fun w h=>h.ent aEt)
  skip
  intro b5
  refine aS4 ?_
  refine o_h (Qr (cs:=[_,_]) rfl rfl QB Xm rfl rfl rfl) rfl (fun b3 _=>?_)
  refine o_h (QJ (TEnt.vals x) rfl rfl rfl QB Tryz.underlying77 Xm rfl aPk (Xv aPk) rfl (ev1 _) (by omega) (by simp only [maxLen];omega)) rfl (fun b4 _=>?_)
  refine oSt ?_
  refine aS2 ?_
  exact ZR rfl aPk (fun w h=>⟨(b4,lg ++ [x]),rfl,⟨rfl,fun _=>by simp only [List.length_append,List.length_singleton];omega⟩,by refine HS.star_close (Bs:=[_,_,_,_]) ?_;simp only [List.length_append,List.length_singleton,List.flatMap_append,List.flatMap_cons,List.flatMap_nil,List.append_nil];exact h.ent aEt⟩)
 skip
 obtain ⟨⟨⟨gx,gy⟩,lg⟩,hlg⟩:=x
 dsimp only at hlg
 subst hlg
 dsimp only
 refine QeW (.inl rfl) ?_
 refine aS5 ?_
 exact Qnj (rs:=[.tmp 4]) rfl aPk (.tmp rfl (.nil)) (fun w' h'=>⟨(gx,gy),rfl,trivial,h'.ent aEt⟩)
end Go.Proofs
namespace Gx
open Go Go.RowKit
section
variable {w0 w : World} {M : List Nat} {As Cs Ds Es Fs : List HA}
theorem HS.rw_blkF {α : Type} [Inhabited α] {vals : α → List Value} {sz : Nat} (hv : ∀ x,(vals x).length = sz) {g tot t : Nat} {l : List α} (h : HS w0 M As w) (hp : Y3 As Cs Ds) (hp2 : QG Ds (.blk g t tot (l.flatMap vals)) Es) : Rw vals sz w (fps Cs) (some ⟨g,0,none⟩) l:=by
 refine ⟨fun hn=>?_⟩;refine ⟨g,0,rfl,fun i hi=>⟨hv _,fun j v hjv=>?_⟩⟩
 have hj : j < sz:=by
  rw [← hv (nth l i)];exact (List.getElem?_eq_some_iff.1 hjv).1
 have:=HS.rd_blkF (i:=i * sz + j) h hp hp2 (v:=v) (by rw [Qam hv l i j _ (Q6 hi) hj];exact hjv);rw [Nat.zero_add];exact this
theorem HS.nt_atF {gn cap et nt' : Nat} {L : List LNd} (h : HS w0 M As w) (hp : Y3 As Cs Ds) (hp1 : QG Ds (.blk gn nt' (cap * 3) (L.flatMap LNd.vals)) Es) (hp2 : QG Es (.star (L.map (Qk et))) Fs) : Nt w (fps Cs) (some ⟨gn,0,none⟩) L:=by
 refine ⟨h.rw_blkF nv3 hp hp1,fun n hn=>?_⟩;obtain ⟨i,hi,e⟩:=List.getElem_of_mem hn;have e2 : nth L i = n:=Q3 (by rw [List.getElem?_eq_getElem hi,e]);have h1 : HS w0 M (.star (L.map (Qk et)) :: (Fs ++ Cs)) w:=((h.perm hp).perm ((hp1.perm.append_left Cs).trans List.perm_middle)).tail.perm ((hp2.perm.append_left Cs).trans (List.perm_append_comm (l₁:=Cs) (l₂:=.star (L.map (Qk et)) :: Fs)));have h3:=HS.star_open (HS.sub_open (sub:=Qk et) hi h1);rw [e2] at h3;have hq : Y3 ([HA.ents et n.ea n.ec n.es,.kids n.ca n.cc n.cs] ++ (.star ((Qt L i).map (Qk et)) :: (Fs ++ Cs))) Cs (HA.ents et n.ea n.ec n.es :: .kids n.ca n.cc n.cs :: .star ((Qt L i).map (Qk et)) :: Fs):=List.perm_append_comm (l₁:=HA.ents et n.ea n.ec n.es :: .kids n.ca n.cc n.cs :: .star ((Qt L i).map (Qk et)) :: Fs) (l₂:=Cs);exact ⟨h3.rw_ownF ev2 hq .here rfl,h3.rw_ownF iv1 hq (.there .here) rfl⟩
end
end Gx
namespace Go.Proofs
open Go Go.RowKit Gx
attribute [local irreducible] Go.Calls Gx.S Gx.O Gx.D Gx.OpP Gx.OpQ Gx.OpH
set_option maxRecDepth 20000
theorem QpX : QT Tryz.prog 131 = true:=by kernel_rfl
theorem Qrh : QT Tryz.prog 95 = true:=by kernel_rfl
theorem c95 (w : World) (bt : Nat) (j : Nat) (mo rm : Int) (a : Option Addr) (cap : Nat) (L : List LNd) (T : BT) (d lo hi : Nat) (hs : Nt w [] a L) (ht : TbR w [] bt (j : Int) mo rm a L.length cap) (hl : L.length ≤ 1000) (hB : Bel lo hi d T) (hN : NIn (pln L) T) (h0 : T.idx = 0) (hf : T.flat.length ≤ 10000) : Calls Tryz.prog 95 #[.func (.func 94) #[.pointer (some ⟨bt,0,none⟩)] #[]] w fun en w'=>∃ g : Option Addr × Nat,en = .returned (.slice g.1 (T.flat).length g.2) ∧ True ∧ HS w [] [.own (.slice g.1 (T.flat).length g.2) 26 2 (T.flat).length ((T.flat).flatMap TEnt.vals)] w':=by
 refine enter (args:=[_]) Tryz.func95 Tryz.ntmps95 rfl rfl (HS.refl w []) ?_
 refine aS7 ?_
 refine o_h (QP rfl QpX rfl (fun w1 h1=>c131 w1 bt j mo rm a cap L T d lo hi (hs.later h1.nil) (ht.next h1.nil) hl hB hN h0 hf)) rfl (fun ⟨gu,gv⟩ _=>?_)
 refine aS2 ?_
 exact rT rfl rfl (fun w' h'=>⟨(gu,gv),rfl,trivial,h'.ent aEt⟩)
theorem c51e (w : World) (co mo rm : Int) (a : Option Addr) (cap : Nat) (L : List LNd) (hs : Nt w [] a L) (hB : Bd (pln L)) (hkl : ∀ i,i < L.length → ∀ x ∈ (nth L i).es,x.key.length ≤ 1000000) (he : ¬ (XP (⟨co,mo,rm,pln L⟩ : Tre)).2 = 0) : Calls Tryz.prog 51 #[.agg #[.int .i64 co,.int .i64 mo,.int .i64 rm,.slice a L.length cap]] w fun en w'=>en = .returned (.tuple #[.slice none 0 0,.int .i64 (XP (⟨co,mo,rm,pln L⟩ : Tre)).2]) ∧ Below w.heap.size w w':=by
 refine enter (args:=[_]) Tryz.func51 Tryz.ntmps51 rfl rfl (HS.refl w []) ?_
 refine aS2 ?_
 refine oBx fun b1 _=>?_
 refine aS6 ?_
 refine o_q (Qi rfl Qfb rfl (fun w1 h1=>c84e w1 co mo rm a cap L (hs.later h1.nil) hB hkl he)) rfl ?_
 refine Zp ?_
 refine Qd rfl (fun h2=>?_) fun h2=>?_
 ·try simp only [Bool.not_eq_true',decide_eq_false_iff_not] at h2
  refine aS6 ?_
  exact QM (rs:=[.tmp 2,.tmp 3]) rfl (.tmp rfl (.tmp rfl (.nil))) (fun w' h'=>⟨rfl,h'.below⟩)
 try simp only [Bool.not_eq_false',decide_eq_true_eq] at h2
 exfalso;first | omega | (simp at h2;done) | (simp_all;done)
theorem c51o (w : World) (j : Nat) (mo rm : Int) (a : Option Addr) (cap : Nat) (L : List LNd) (T : BT) (d lo hi : Nat) (hs : Nt w [] a L) (hB : Bd (pln L)) (hkl : ∀ i,i < L.length → ∀ x ∈ (nth L i).es,x.key.length ≤ 1000000) (h0 : (XP (⟨(j : Int),mo,rm,pln L⟩ : Tre)).2 = 0) (hl2 : L.length ≤ 1000) (hBl : Bel lo hi d T) (hN : NIn (pln L) T) (hT0 : T.idx = 0) (hf : T.flat.length ≤ 10000) : Calls Tryz.prog 51 #[.agg #[.int .i64 (j : Int),.int .i64 mo,.int .i64 rm,.slice a L.length cap]] w fun en w'=>∃ g : Option Addr × Nat,en = .returned (.tuple #[.slice g.1 (T.flat).length g.2,.int .i64 0]) ∧ True ∧ HS w [] [.own (.slice g.1 (T.flat).length g.2) 26 2 (T.flat).length ((T.flat).flatMap TEnt.vals)] w':=by
 obtain ⟨hc0,hz0,hl0,hl120,hn0,_,_⟩:=Ym h0
 rw [show ((⟨(j : Int),mo,rm,pln L⟩ : Tre)).ns = pln L from rfl,Qc] at hl0 hl120
 have hj : j ≤ 3:=by obtain ⟨j9,e9,hj9⟩:=YF hc0;have e8 : ((j : Nat) : Int) = (j9 : Int):=e9;omega
 have hT : TOk (j : Int) (pln L):=Yi (t:=(⟨(j : Int),mo,rm,pln L⟩ : Tre)) hn0
 have hmo:=(YH hz0).1
 simp only [] at hmo
 refine enter (args:=[_]) Tryz.func51 Tryz.ntmps51 rfl rfl (HS.refl w []) ?_
 refine aS2 ?_
 refine oBx fun b1 _=>?_
 refine aS6 ?_
 refine o_h (QP rfl Qfb rfl (fun w1 h1=>QnP w1 j mo rm a cap L (hs.later h1.nil) hB hkl h0)) rfl (fun ⟨b9,⟨gn9,c9⟩,L9⟩ hF9=>?_)
 dsimp only
 obtain ⟨hL9,hn9,hm9⟩:=hF9
 simp only [] at hL9 hn9 hm9
 have hl9 : L9.length = L.length:=by rw [← Qc L9,hL9,Qc]
 have hB9 : Bd (pln L9):=by rw [hL9];exact hB
 have hT9 : TOk (j : Int) (pln L9):=by rw [hL9];exact hT
 have hK9 : ∀ i,i < L9.length → ∀ y ∈ (nth L9 i).es,QW (j : Int) y.key = true ∧ y.key.length ≤ 1000000:=fun i hi y hy=>Ya hT9 i (by rw [Qc];exact hi) y (by rw [Qh hi];exact hy)
 refine Zp ?_
 refine Qd rfl (fun h2=>?_) fun h2=>?_
 ·try simp only [Bool.not_eq_true',decide_eq_false_iff_not] at h2
  exfalso;first | omega | (simp at h2;done) | (simp_all;done)
 try simp only [Bool.not_eq_false',decide_eq_true_eq] at h2
 refine aS5 ?_
 refine o_h (QP rfl Qrh rfl (fun w1 h1=>c95 w1 b9 j mo rm (some ⟨gn9,0,none⟩) c9 L9 T d lo hi (HS.nt_at h1 aPk aPk) (HS.tbr h1 aPk) (by omega) hBl (by rw [hL9];exact hN) hT0 hf)) rfl (fun ⟨gu,gv⟩ _=>?_)
 refine aS3 ?_
 exact QM (rs:=[.tmp 2,.tmp 3]) rfl (.tmp rfl (.tmp rfl (.nil))) (fun w' h'=>⟨(gu,gv),rfl,trivial,h'.ent aEt⟩)
theorem QrF (E most : Int) : ZH [.int .i64 E,.int .i64 (cond (decide (1 ≤ most) && decide (most ≤ 200)) 0 2)] = if E = 0 then (if 1 ≤ most ∧ most ≤ 200 then 0 else 2) else E:=by
  unfold ZH
  by_cases h : E = 0
  · rw [if_pos h,if_pos h]
    by_cases h2 : 1 ≤ most ∧ most ≤ 200
    · rw [if_pos h2,decide_eq_true h2.1,decide_eq_true h2.2];rfl
    · rw [if_neg h2];have h3 : (decide (1 ≤ most) && decide (most ≤ 200)) = false:=by simp;omega
      rw [h3];rfl
  · rw [if_neg h,if_neg h]
theorem c48o (w : World) (j : Nat) (mo rm : Int) (a : Option Addr) (cap : Nat) (L : List LNd) (key : List UInt8) (m : Nat) (T : BT) (d lo hi : Nat) (hs : Nt w [] a L) (hB : Bd (pln L)) (hkl : ∀ i,i < L.length → ∀ x ∈ (nth L i).es,x.key.length ≤ 1000000) (h0 : (XP (⟨(j : Int),mo,rm,pln L⟩ : Tre)).2 = 0) (hl2 : L.length ≤ 1000) (hBl : Bel lo hi d T) (hN : NIn (pln L) T) (hT0 : T.idx = 0) (hf : T.flat.length ≤ 10000) (hkk : key.length ≤ 1000000) (hkey : key = [] ∨ XM (j : Int) key = 0) (hm1 : 1 ≤ m) (hm2 : m ≤ 200) (hK : ∀ x ∈ T.flat,QW (j : Int) x.key = true ∧ x.key.length ≤ 1000000) : Calls Tryz.prog 48 #[.agg #[.int .i64 (j : Int),.int .i64 mo,.int .i64 rm,.slice a L.length cap],.string (bs key),.int .i64 (m : Int)] w fun en w'=>∃ g : Option Addr × Nat,en = .returned (.tuple #[.slice g.1 ((X6 (Xj (j : Int) key) m T.flat)).length g.2,.int .i64 0]) ∧ True ∧ HS w [] [.own (.slice g.1 ((X6 (Xj (j : Int) key) m T.flat)).length g.2) 26 2 ((X6 (Xj (j : Int) key) m T.flat)).length (((X6 (Xj (j : Int) key) m T.flat)).flatMap TEnt.vals)] w':=by
 obtain ⟨hc0,hz0,hl0,hl120,hn0,_,_⟩:=Ym h0
 rw [show ((⟨(j : Int),mo,rm,pln L⟩ : Tre)).ns = pln L from rfl,Qc] at hl0 hl120
 have hj : j ≤ 3:=by obtain ⟨j9,e9,hj9⟩:=YF hc0;have e8 : ((j : Nat) : Int) = (j9 : Int):=e9;omega
 have hT : TOk (j : Int) (pln L):=Yi (t:=(⟨(j : Int),mo,rm,pln L⟩ : Tre)) hn0
 have hmo:=(YH hz0).1
 simp only [] at hmo
 have hEK : (if key = [] then 0 else XM (j : Int) key) = 0:=by rcases hkey with h | h;rw [if_pos h];rw [h];split <;> rfl
 refine enter (args:=[_,_,_]) Tryz.func48 Tryz.ntmps48 rfl rfl (HS.refl w []) ?_
 refine aS2 ?_
 refine oBx fun b1 _=>?_
 refine oBx fun b2 _=>?_
 refine oBx fun b3 _=>?_
 refine aS6 ?_
 refine o_h (QP rfl Qfb rfl (fun w1 h1=>QnP w1 j mo rm a cap L (hs.later h1.nil) hB hkl h0)) rfl (fun ⟨b9,⟨gn9,c9⟩,L9⟩ hF9=>?_)
 dsimp only
 obtain ⟨hL9,hn9,hm9⟩:=hF9
 simp only [] at hL9 hn9 hm9
 have hl9 : L9.length = L.length:=by rw [← Qc L9,hL9,Qc]
 have hB9 : Bd (pln L9):=by rw [hL9];exact hB
 have hT9 : TOk (j : Int) (pln L9):=by rw [hL9];exact hT
 have hK9 : ∀ i,i < L9.length → ∀ y ∈ (nth L9 i).es,QW (j : Int) y.key = true ∧ y.key.length ≤ 1000000:=fun i hi y hy=>Ya hT9 i (by rw [Qc];exact hi) y (by rw [Qh hi];exact hy)
 refine aS3 ?_
 refine oAl (fun b4 _=>?_) Qp6
 refine oSt ?_
 refine aS8 ?_
 refine XD 3 19 22 _ _ rfl
  (by
   intro hg5
   have hs6:=hg5;try simp only [dT] at hs6
   refine oOn 19 hg5 ?_
   refine aS ?_
   refine oOn 19 hg5 ?_
   refine aS ?_
   refine o_p (Qw rfl rfl hg5 rfl) rfl ?_
   refine aS ?_
   exact oJn 3 22)
  (by
   intro hg7
   have hs8:=hg7;try simp only [dN] at hs8
   refine oOf 19 hg7 ?_
   refine oOf 19 hg7 ?_
   refine o_p (Qs rfl rfl hg7 rfl) rfl ?_
   refine aS ?_
   exact oJn 3 22) ?_
 refine aS ?_
 refine Qj (L':=[(3,_),(4,_),(5,_),(6,_),(7,_),(8,_),(9,_),(22,_)]) aSx (fun _ h=>h) ?_
 refine Xn (α:=Nat) [9,23,24,25,26] (fun _=>[(9,.int .i64 (if key = [] then 0 else XM (j : Int) key))]) (fun _=>HS w [] [.blk b1 24 4 [.int .i64 (j : Int),.int .i64 mo,.int .i64 rm,.slice a L.length cap],.blk b2 9 1 [.string (bs key)],.blk b3 3 1 [.int .i64 (m : Int)],.blk b4 103 1 [.pointer (some ⟨b9,0,none⟩)],.blk b9 112 6 (tbV (j : Int) mo rm (some ⟨gn9,0,none⟩) (L9).length c9),.blk gn9 102 (c9 * 3) ((L9).flatMap LNd.vals),.star ((L9).map (Qk 26))]) (fun _=>True) ?_ ?_
 ·skip
  refine Qd rfl (fun h9=>?_) fun h9=>?_
  ·try simp only [Bool.and_eq_true,decide_eq_true_eq,Bool.not_eq_true',decide_eq_false_iff_not] at h9
   refine aS4 ?_
   refine o_q (Qi rfl QhM rfl (fun w1 h1=>c76 w1 j key hj hkk)) rfl ?_
   refine aS2 ?_
   exact Qn 0 trivial (by have hq:=h9;have hD : (if key = [] then 0 else XM (j : Int) key) = XM (j : Int) key:=(by first | exact if_neg hq | exact if_neg hq.2 | (rw [if_neg (by simp_all)]));rw [hD];exact aSx) (fun w h=>h.ent aEt)
  try simp only [Bool.and_eq_false_iff,decide_eq_false_iff_not,Bool.not_eq_false',decide_eq_true_eq] at h9
  refine aS ?_
  exact Qn 0 trivial (by have hq:=h9;have hD : (if key = [] then 0 else XM (j : Int) key) = 0:=(by first | exact if_pos hq | (rw [if_pos (by simp_all)]));rw [hD];exact aSx) (fun w h=>h.ent aEt)
 intro q0 _
 refine aS5 ?_
 refine o_q (Qi rfl Qdm rfl (fun w1 h1=>c93 w1 _ _ _)) rfl ?_
 refine o_q (Qi rfl Zt rfl (fun w1 h1=>c81 w1 _ _)) rfl ?_
 refine o_h (Qr (cs:=[_,_]) rfl rfl Qbn QdV rfl rfl rfl) rfl (fun b10 _=>?_)
 refine o_q (Qi rfl Qez rfl (fun w1 h1=>f75 h1 aPk (by rfl) (by rfl) (by decide))) rfl ?_
 refine Qm (show _ = Value.int .i64 0 from by rw [QrF,hEK,if_pos rfl,if_pos ⟨by omega,by omega⟩]) ?_
 refine aS7 ?_
 refine Qd rfl (fun h11=>?_) fun h11=>?_
 ·try simp only [Bool.not_eq_true',decide_eq_false_iff_not] at h11
  exfalso;exact absurd (h11) (by first | simp | decide)
 try simp only [Bool.not_eq_false',decide_eq_true_eq] at h11
 refine aS3 ?_
 refine oAl (fun b12 _=>?_) Qpg
 refine aS8 ?_
 refine QhB (G:={s : (((Option Addr × Nat) × List TEnt) × Bool) // s.1.2 = (X6 (Xj (j : Int) key) m T.flat)}) (Bs:=fun s=>[.blk b12 77 1 [.slice s.1.1.1.1 s.1.1.2.length s.1.1.1.2],.own (.slice s.1.1.1.1 (s.1.1.2).length s.1.1.1.2) 26 2 (s.1.1.2).length ((s.1.1.2).flatMap TEnt.vals),.blk b1 24 4 [.int .i64 (j : Int),.int .i64 mo,.int .i64 rm,.slice a L.length cap],.blk b2 9 1 [.string (bs key)],.blk b3 3 1 [.int .i64 (m : Int)],.blk b4 103 1 [.pointer (some ⟨b9,0,none⟩)],.blk b9 112 6 (tbV (j : Int) mo rm (some ⟨gn9,0,none⟩) (L9).length c9),.blk gn9 102 (c9 * 3) ((L9).flatMap LNd.vals),.star ((L9).map (Qk 26))]) (jmp:=fun s=>cond s.1.2 none (some 0)) rfl rfl rfl QoO (fun fid D l a9 w1 ob hob ha9 hw1=>?_) (fun D x=>?_)
 ·skip
  have h2 : HS w [] (((fun s : (((Option Addr × Nat) × List TEnt) × Bool)=>.star [.obj l (cond s.2 ob (Qli 0 ob)),.obj D (.deferred (some [])),.blk b12 77 1 [.slice s.1.1.1 s.1.2.length s.1.1.2],.own (.slice s.1.1.1 (s.1.2).length s.1.1.2) 26 2 (s.1.2).length ((s.1.2).flatMap TEnt.vals)]) (((none,0),[]),true)) :: [.blk b1 24 4 [.int .i64 (j : Int),.int .i64 mo,.int .i64 rm,.slice a L.length cap],.blk b2 9 1 [.string (bs key)],.blk b3 3 1 [.int .i64 (m : Int)],.blk b4 103 1 [.pointer (some ⟨b9,0,none⟩)],.blk b9 112 6 (tbV (j : Int) mo rm (some ⟨gn9,0,none⟩) (L9).length c9),.blk gn9 102 (c9 * 3) ((L9).flatMap LNd.vals),.star ((L9).map (Qk 26))]) w1:=HS.star_close (Bs:=[_,_,_,_]) ((hw1.own_nil 26 2).ent aEt)
  have q4:=h2.rd_blkF QeF (b:=b2) (i:=0) aPk rfl
  have q5:=h2.rd_blkF QeF (b:=b3) (i:=0) aPk rfl
  have q8:=h2.rd_blkF QeF (b:=b4) (i:=0) aPk rfl
  have qt : TbR w1 (fps [((fun s : (((Option Addr × Nat) × List TEnt) × Bool)=>.star [.obj l (cond s.2 ob (Qli 0 ob)),.obj D (.deferred (some [])),.blk b12 77 1 [.slice s.1.1.1 s.1.2.length s.1.1.2],.own (.slice s.1.1.1 (s.1.2).length s.1.1.2) 26 2 (s.1.2).length ((s.1.2).flatMap TEnt.vals)]) (((none,0),[]),true))]) b9 (j : Int) mo rm (some ⟨gn9,0,none⟩) L9.length c9:=fun k v hv=>h2.rd_blkF QeF (b:=b9) aPk hv
  have qn:=h2.nt_atF (gn:=gn9) (L:=L9) QeF aPk aPk
  refine Calls.mono (c94 w1 (((Option Addr × Nat) × List TEnt) × Bool) (fun n s=>s.2 = true ∧ s.1.2.length + n ≤ 10000) (fun s : (((Option Addr × Nat) × List TEnt) × Bool)=>.star [.obj l (cond s.2 ob (Qli 0 ob)),.obj D (.deferred (some [])),.blk b12 77 1 [.slice s.1.1.1 s.1.2.length s.1.1.2],.own (.slice s.1.1.1 (s.1.2).length s.1.1.2) 26 2 (s.1.2).length ((s.1.2).flatMap TEnt.vals)]) (Qee (Xj (j : Int) key) m) (fun s=>s.2) (fun x=>QW (j : Int) x.key = true ∧ x.key.length ≤ 1000000) l b9 j mo rm (some ⟨gn9,0,none⟩) c9 L9 T d lo hi (((none,0),[]),true) 0 (HS.focus (Cs:=[_]) h2) ?_ qt qn hK hf ⟨rfl,by show 0 + _ ≤ _;omega⟩ (by omega) hBl (by rw [hL9];exact hN) hT0) fun e w2 hx=>?_
  rotate_left
  ·obtain ⟨⟨⟨⟨gs,ls⟩,b0⟩,bm⟩,he,⟨hr,_⟩,h5⟩:=hx
   refine ⟨⟨_,he⟩,⟨((gs,ls),b0),by have h7:=Qov hr (Nat.zero_le _);simpa [X6] using h7⟩,?_⟩
   have h6:=HS.star_open (HS.callA h2 h5)
   subst hob
   cases b0 <;> exact h6.ent aEt
  intro n9 s2 x w3 h3 hI2 hKx
  have h4:=HS.star_open (HS.focus (Cs:=[_]) (Ds:=[]) h3)
  have r4:=h3.keep q4
  have r5:=h3.keep q5
  have r8:=h3.keep q8
  have rt:=qt.keep h3
  subst hob
  obtain ⟨⟨⟨ga,gc⟩,lg⟩,bs⟩:=s2
  obtain ⟨hbs,hI3⟩:=hI2
  dsimp only at hbs
  subst hbs
  dsimp only [cond] at h4 hI3 r4 r5 r8 rt ⊢
  refine Qgv (α:=Nat) (fn:=Tryz.f48) (As1:=fun b11=>.obj D (.deferred (some [])) :: [.blk b12 77 1 [.slice ga lg.length gc],.own (.slice ga (lg).length gc) 26 2 (lg).length ((lg).flatMap TEnt.vals),.blk b11 26 2 (TEnt.vals x)]) (L1:=fun b11=>[(11,.pointer (some ⟨b11,0,none⟩)),(10,.pointer (some ⟨b12,0,none⟩)),(4,.pointer (some ⟨b2,0,none⟩)),(5,.pointer (some ⟨b3,0,none⟩)),(8,.pointer (some ⟨b4,0,none⟩))]) h4 rfl (FR.round1 ha9 38 _ rfl) ?_ ?_
  ·skip
   refine aS ?_
   refine oAl (fun b13 _=>?_) Xm
   refine oSt ?_
   refine aS ?_
   exact Qga b13 aSx (fun w h=>h.ent aEt)
  skip
  intro b11
  refine aS6 ?_
  refine o_q (Qe rfl rfl Xq (r5)) rfl ?_
  refine aS2 ?_
  refine Qd rfl (fun h14=>?_) fun h14=>?_
  ·try simp only [dT] at h14
   exact Qku rfl rfl aPk (fun w h=>⟨(((ga,gc),lg),false),rfl,⟨by unfold Qee;have hq:=h14;rw [if_pos (by simp only [];omega)];exact ⟨rfl,rfl⟩,fun h=>by cases h⟩,by refine HS.star_close (Bs:=[_,_,_,_]) ?_;exact h.ent aEt⟩)
  try simp only [dN] at h14
  have hne : ¬ lg.length = m:=by have hq:=h14;omega
  refine aS2 ?_
  refine Qc5 (α:=Bool) [43,44,45,46,47,48,49,50,51,52,53,54,55,56] (fun z=>[(56,.bool z)]) (fun z=>z = (Xj (j : Int) key) x) ?_ ?_
  ·skip
   refine QE [] QH ?_
   refine dQ 0 [] rfl (Qe rfl rfl Zb (r4)) ?_
   refine dP 1 ?_
   refine dP 2 ?_
   apply Xy 45
   ·exact rfl
   ·intro hg15
    have hs16:=hg15;try simp only [dT] at hs16
    refine dOf 3 45 hg15 ?_
    refine dOf 4 45 hg15 ?_
    refine dOf 5 45 hg15 ?_
    refine dOf 6 45 hg15 ?_
    refine dOf 7 45 hg15 ?_
    refine dOf 8 45 hg15 ?_
    refine dOf 9 45 hg15 ?_
    refine dOf 10 45 hg15 ?_
    refine dOf 11 45 hg15 ?_
    refine dOf 12 45 hg15 ?_
    refine dV 13 rfl (Qw rfl rfl hg15 rfl) ?_
    refine dNi ?_
    exact Qn true (by unfold Xj;simp_all) aSx (fun w h=>h.ent aEt)
   intro hg17
   have hs18:=hg17;try simp only [dN] at hs18
   refine dQo 3 45 [] hg17 rfl rfl rfl (Qe rfl rfl Yd (r8)) ?_
   refine dPo 4 45 hg17 ?_
   refine dFo 5 45 hg17 ?_
   refine dFo 6 45 hg17 ?_
   refine dQo 7 45 [] hg17 rfl rfl rfl (Qe rfl rfl Qa5 (rt 5 _ rfl)) ?_
   refine dFo 8 45 hg17 ?_
   refine dQo 9 45 [] hg17 rfl rfl rfl (XW rfl rfl Zb aPk rfl) ?_
   refine dQo 10 45 [] hg17 rfl rfl rfl (Qe rfl rfl Zb (r4)) ?_
   refine dQo 11 45 [] hg17 rfl rfl rfl (Yb rfl rfl (Qb4 _) rfl (fun w1 h1=>by have hky:=hkey.resolve_left (by simpa using hg17);exact Ze w1 j x.key key hj hKx.1 (keyE_ok hky) hKx.2 hkk)) ?_
   refine dPo 12 45 hg17 ?_
   refine dV 13 rfl (Qs rfl rfl hg17 rfl) ?_
   refine dNi ?_
   exact Qn (decide (0 < QO (j : Int) x.key key)) (by unfold Xj;simp_all) aSx (fun w h=>h.ent aEt)
  intro z9 hz9
  refine Qd rfl (fun h19=>?_) fun h19=>?_
  ·skip
   have hp0 : (Xj (j : Int) key) x = true:=by rw [← hz9];exact h19
   refine aS3 ?_
   refine o_h (Qr (cs:=[_,_]) rfl rfl QB Xm rfl rfl rfl) rfl (fun b20 _=>?_)
   refine o_h (QJ (TEnt.vals x) rfl rfl rfl QB Tryz.underlying77 Xm rfl aPk (Xv aPk) rfl (ev1 _) (by omega) (by simp only [maxLen];omega)) rfl (fun b21 _=>?_)
   refine oSt ?_
   refine aS2 ?_
   exact ZR rfl aPk (fun w h=>⟨((b21,lg ++ [x]),true),rfl,⟨by unfold Qee;rw [if_neg (by simp only [];exact hne),if_pos hp0];exact ⟨rfl,rfl⟩,fun _=>⟨rfl,by simp only [List.length_append,List.length_singleton];omega⟩⟩,by refine HS.star_close (Bs:=[_,_,_,_]) ?_;simp only [List.length_append,List.length_singleton,List.flatMap_append,List.flatMap_cons,List.flatMap_nil,List.append_nil];exact h.ent aEt⟩)
  skip
  have hp0 : ¬ (Xj (j : Int) key) x = true:=by rw [← hz9];have hq:=h19;simp [hq]
  refine aS2 ?_
  exact ZR rfl aPk (fun w h=>⟨(((ga,gc),lg),true),rfl,⟨by unfold Qee;rw [if_neg (by simp only [];exact hne),if_neg hp0];exact ⟨(List.append_nil _).symm,rfl⟩,fun _=>⟨rfl,by simp only [];omega⟩⟩,by refine HS.star_close (Bs:=[_,_,_,_]) ?_;exact h.ent aEt⟩)
 skip
 obtain ⟨⟨⟨⟨gx,gy⟩,lg⟩,bx⟩,hlg⟩:=x
 dsimp only at hlg
 subst hlg
 dsimp only
 refine QeW (by cases bx;exact .inr rfl;exact .inl rfl) ?_
 refine aS6 ?_
 exact Qnj (rs:=[.tmp 6,.tmp 7]) rfl aPk (.tmp rfl (.tmp rfl (.nil))) (fun w' h'=>⟨(gx,gy),rfl,trivial,h'.ent aEt⟩)
theorem Qrr : QT Tryz.prog 48 = true:=by kernel_rfl
end Go.Proofs
namespace Gx
open Go Go.RowKit
theorem Zg {α : Type} [Inhabited α] {l : List α} {i : Nat} (h : i < l.length) : nth l i = l[i]:=by
 have h1:=Q6 h;rw [List.getElem?_eq_getElem h] at h1;injection h1 with h1
 exact h1.symm
theorem QbN (co : Int) (k : List UInt8) : QO co k k = 0:=Qax.2 rfl
section
variable {co mo rm : Int} {m : Nat} {ns : List Nd} {fl : List TEnt} {x : TEnt} {key : List UInt8}
theorem Qhi (mo : Int) : ∀ (P : List Nat) (ns : List Nd),(XH mo ns P).length ≤ ns.length + P.length
 | [],ns=>Nat.le_refl _
 | p :: P,ns=>by
  show (XH mo (ZK mo ns p) P).length ≤ _;have h1:=Qhi mo P (ZK mo ns p)
  have h2 : (ZK mo ns p).length ≤ ns.length + 1:=by
   unfold ZK;split
   ·exact (Qcp mo ns p).2
   ·omega
  simp only [List.length_cons];omega
theorem Qly (co mo rm : Int) (ns : List Nd) (x : TEnt) : (Zc co mo rm ns x).length ≤ ns.length + (Qb co ns x.key).1.length + 2:=by
 unfold Zc;split
 ·omega
 ·unfold Qdb;have h1:=Qhi mo (Qb co ns x.key).1.reverse (Qb8 co ns x);rw [List.length_reverse] at h1;have h2 : (Qb8 co ns x).length = ns.length:=by unfold Qb8;rw [XX]
  unfold Qab;split
  ·have h3:=(Qha (XH mo (Qb8 co ns x) (Qb co ns x.key).1.reverse)).2;split
   ·have h4:=(Qcp mo (XG (XH mo (Qb8 co ns x) (Qb co ns x.key).1.reverse)).2 (XG (XH mo (Qb8 co ns x) (Qb co ns x.key).1.reverse)).1).2;omega
   ·omega
  ·omega
theorem Qcd {c : Nat} : ∀ {ks : List BT},(∀ k ∈ ks,c ≤ k.nodes.length) → ks.length * c ≤ (Qz ks).length
 | [],_=>by simp
 | k :: ks,h=>by
  have h1:=Qcd (c:=c) (ks:=ks) fun q hq=>h q (List.mem_cons_of_mem _ hq);have h2:=h k (List.mem_cons_self ..);simp only [Qz,List.length_append,List.length_cons,Nat.succ_mul];omega
theorem Qjb {lo hi : Nat} (h0 : 1 ≤ lo) : ∀ {d : Nat} {T : BT},Bal lo hi d T → 2 ^ (d + 1) ≤ T.nodes.length + 1
 | 0,.nd i es ks,h=>by
  have : ks = []:=h.1;subst this;simp [BT.nodes,Qz]
 | d + 1,.nd i es ks,h=>by
  obtain ⟨⟨h1,h2⟩,h3,_⟩:=h;have hk : ks.length = es.length + 1:=h1;have he : lo ≤ es.length:=h3;have h4:=Qcd (c:=2 ^ (d + 1) - 1) (ks:=ks) fun k hk=>by have:=Qjb h0 (h2 k hk);omega
  have h5 : 2 * (2 ^ (d + 1) - 1) ≤ ks.length * (2 ^ (d + 1) - 1):=Nat.mul_le_mul_right _ (by omega);have h6 : 2 ^ (d + 1 + 1) = 2 * 2 ^ (d + 1):=by rw [Nat.pow_succ];omega
  have h7 : 1 ≤ 2 ^ (d + 1):=Nat.one_le_two_pow;simp only [BT.nodes,List.length_cons];omega
theorem Qn1 {lo hi d : Nat} (h0 : 1 ≤ lo) {T : BT} (h : Bel lo hi d T) : 2 ^ d ≤ T.nodes.length:=by
 cases T with
 | nd i es ks=>
  cases d with
  | zero=>simp [BT.nodes]
  | succ d=>
   obtain ⟨h1,h2⟩:=h;have hk : ks.length = es.length + 1:=h1;have h4:=Qcd (c:=2 ^ (d + 1) - 1) (ks:=ks) fun k hk=>by have:=Qjb h0 (h2 k hk);omega
   have h5 : 1 * (2 ^ (d + 1) - 1) ≤ ks.length * (2 ^ (d + 1) - 1):=Nat.mul_le_mul_right _ (by omega);have h7 : 1 ≤ 2 ^ (d + 1):=Nat.one_le_two_pow;simp only [BT.nodes,List.length_cons];omega
theorem Sv.way (hs : Yl mo rm = 0) (h : Sv co mo rm m ns fl) (hl : ns.length < 128) (key : List UInt8) : (Qb co ns key).1.length ≤ 7:=by
 obtain ⟨T,d,hR,hV,rfl⟩:=h.tree;obtain ⟨D,T',d',e1,e2,e3,e4,e5,e6,e7,e8,e9,e10⟩:=QcT hR hV key;have hz:=Qdi hs;have h1:=Qn1 (by have:=hz.elo;have:=hz.hi3;omega) hV.bel;have h2:=hR.nlen
 have h3 : d < 7:=by
  rcases Nat.lt_or_ge d 7 with h | h
  ·exact h
  ·have : 2 ^ 7 ≤ 2 ^ d:=Nat.pow_le_pow_right (by decide) h;omega
 rw [e7,List.length_append,List.length_reverse,List.length_map,List.length_singleton];omega
theorem Sv.grow (hs : Yl mo rm = 0) (h : Sv co mo rm 120 ns fl) (hl : ns.length < 110) (hx : X7 co x = 0) (hnf : ¬ (Qb co ns x.key).2.2 = true) : InsROk co mo rm ns x ∧ Sv co mo rm 120 (Qnf co mo rm ns x) (QI fl (plc co fl x.key) x):=by
 have hw:=h.way hs (by omega) x.key;obtain ⟨T,d,hR,hV,rfl⟩:=h.tree;have hI:=Qn9 (Qdi hs) hR hV (by omega) h.last hx hnf;refine ⟨hI.okR,?_⟩;rw [hI.same];exact ⟨hI.tree,hI.last,by have:=Qly co mo rm ns x;omega⟩
theorem Sv.drop (hs : Yl mo rm = 0) (h : Sv co mo rm 120 ns fl) (hf : (Qb co ns key).2.2 = true) : Removed co mo rm (mo.toNat / 2) mo.toNat rm.toNat ns key fl ∧ Sv co mo rm 120 (ZD mo rm ns (Qb co ns key).1 (Qb co ns key).2.1) (Qt fl (plc co fl key)):=by
 obtain ⟨T,d,hR,hV,rfl⟩:=h.tree;have hI:=QnN (Qdi hs) hR hV (Nat.le_trans h.len (by decide)) hf;exact ⟨hI,hI.tree,hI.last,Nat.le_trans hI.len h.len⟩
theorem Sv.ent (h : Sv co mo rm m ns fl) (hf : (Qb co ns key).2.2 = true) : Qf6 co ns key ∈ fl ∧ QO co (Qf6 co ns key).key key = 0:=by
 obtain ⟨T,d,hR,hV,rfl⟩:=h.tree;obtain ⟨D,T',d',e1,e2,e3,e4,e5,e6,e7,e8,e9,e10⟩:=QcT hR hV key;rw [e8] at hf;obtain ⟨i,es,ks⟩:=T';have hfnd : fnd co es key = true:=hf;have hpl : (Qb co ns key).2.1 = plc co es key:=by rw [e8];rfl
 have hplt:=QjQ hfnd;have hR1 : QS ns (plug D (.nd i es ks)):=by rw [e1];exact hR
 have hat : i < ns.length ∧ nth ns i = ⟨true,es,QL ks⟩:=QS.at_ hR1;have hlast : Qo (Qb co ns key).1 = i:=by rw [e7];exact QcU _ _
 have hen : Qf6 co ns key = nth es (plc co es key):=by
  unfold Qf6;rw [hlast,hat.2,hpl]
 have hc : QO co (nth es (plc co es key)).key key = 0:=by
  unfold fnd at hfnd;simp only [Bool.and_eq_true,decide_eq_true_eq] at hfnd;exact hfnd.2
 refine ⟨?_,by rw [hen];exact hc⟩;rw [hen,← e1,XS e2];refine List.mem_append_right _ (List.mem_append_left _ ?_);rw [BT.flat];exact (Qa1 es ks).subset (by rw [Zg hplt];exact List.getElem_mem _)
structure Lst (co : Int) (now A S : List TEnt) (key : List UInt8) : Prop where
 srt : Srt co now
 sub : ∀ x ∈ A,x ∈ now
 le : ∀ x ∈ S,key ≠ [] ∧ QO co x.key key ≤ 0
 asc : Srt co S
 seen : ∀ x ∈ A,key ≠ [] → QO co x.key key ≤ 0 → x ∈ S
theorem Lst.nil (h : Srt co fl) : Lst co fl fl [] []:=⟨h,fun _ h=>h,(fun _ h=>by cases h),List.Pairwise.nil,fun _ _ h=>absurd rfl h⟩
theorem Qeg {a b c : List UInt8} (h1 : QO co a b ≤ 0) (h2 : QO co b c < 0) : QO co a c < 0:=by
 rcases Int.lt_or_eq_of_le h1 with h | h
 ·exact XU h h2
 ·rw [QqT h];exact h2
theorem QlV (p : TEnt → Bool) (m : Nat) (l : List TEnt) : (X6 p m l).length ≤ m:=by unfold X6;rw [List.length_take];omega
theorem Qat (p : TEnt → Bool) (m : Nat) (l : List TEnt) : (X6 p m l).Sublist l:=(List.take_sublist _ _).trans List.filter_sublist
theorem Qqj {p : TEnt → Bool} {m : Nat} {l : List TEnt} {x : TEnt} (h : x ∈ X6 p m l) : p x = true:=by
 have h1:=(List.take_sublist m (l.filter p)).subset h;exact (List.mem_filter.1 h1).2
theorem Qf4 {now : List TEnt} {m : Nat} {x : TEnt} (h : x ∈ X6 (Xj co key) m now) : key = [] ∨ 0 < QO co x.key key:=by
 have:=Qqj h;unfold Xj at this
 simpa using this
def Xx (l : List TEnt) (key : List UInt8) : List UInt8:=if l = [] then key else (nth l (l.length - 1)).key
theorem QeK {l : List TEnt} (h : Srt co l) : ∀ x ∈ l,QO co x.key (Xx l key) ≤ 0:=by
 intro x hx;have hne : l ≠ []:=fun e=>by rw [e] at hx;cases hx
 unfold Xx;rw [if_neg hne];obtain ⟨i,hi,rfl⟩:=List.getElem_of_mem hx;have hn : nth l (l.length - 1) = l[l.length - 1]:=Zg (by omega);rw [hn];rcases Nat.lt_or_ge i (l.length - 1) with h1 | h1
 ·exact Int.le_of_lt (List.pairwise_iff_getElem.1 h i (l.length - 1) hi (by omega) h1)
 ·have : i = l.length - 1:=by omega
  subst this;rw [QbN];exact Int.le_refl _
theorem Lst.part {now A S : List TEnt} (h : Lst co now A S key) (hk : ∀ x ∈ now,x.key ≠ []) {m : Nat} (hm : 1 ≤ m) : Lst co now A (S ++ X6 (Xj co key) m now) (Xx (X6 (Xj co key) m now) key):=by
 have hps : Srt co (X6 (Xj co key) m now):=h.srt.sublist (Qat _ _ _)
 by_cases hne : X6 (Xj co key) m now = []
 ·rw [hne,List.append_nil];unfold Xx;rw [if_pos rfl];exact h
 ·have hlk : Xx (X6 (Xj co key) m now) key ≠ []:=by
   unfold Xx;rw [if_neg hne];refine hk _ ((Qat (Xj co key) m now).subset ?_);have : 0 < (X6 (Xj co key) m now).length:=List.length_pos_iff.2 hne;rw [Zg (by omega)];exact List.getElem_mem _
  have hup : ∀ x ∈ S,∀ y ∈ X6 (Xj co key) m now,QO co x.key y.key < 0:=fun x hx y hy=>by
   obtain ⟨h1,h2⟩:=h.le x hx;rcases Qf4 hy with h3 | h3
   ·exact absurd h3 h1
   ·have:=X1 co y.key key;exact Qeg h2 (by omega)
  refine ⟨h.srt,h.sub,fun x hx=>⟨hlk,?_⟩,?_,fun x hx _ hle=>?_⟩
  ·rcases List.mem_append.1 hx with hx | hx
   ·obtain ⟨y,hy⟩:=List.exists_mem_of_ne_nil _ hne
    exact Int.le_of_lt (by
     have h1:=hup x hx y hy;have h2:=QeK (key:=key) hps y hy;have h3 : QO co (Xx (X6 (Xj co key) m now) key) y.key ≥ 0:=by have:=X1 co (Xx (X6 (Xj co key) m now) key) y.key;omega
     rcases Int.lt_or_eq_of_le h2 with h4 | h4
     ·exact XU h1 h4
     ·rw [← Qln h4];exact h1)
   ·exact QeK hps x hx
  ·exact List.pairwise_append.2 ⟨h.asc,hps,hup⟩
  ·by_cases hb : Xj co key x = true
   ·refine List.mem_append_right _ ?_;have hmem : x ∈ now.filter (Xj co key):=List.mem_filter.2 ⟨h.sub x hx,hb⟩;have hfs : Srt co (now.filter (Xj co key)):=h.srt.sublist List.filter_sublist;unfold X6 at hne hle hps ⊢;rw [← List.take_append_drop m (now.filter (Xj co key))] at hmem;rcases List.mem_append.1 hmem with h1 | h1
    ·exact h1
    ·exfalso
     have hlt : QO co (Xx ((now.filter (Xj co key)).take m) key) x.key < 0:=by
      rw [← List.take_append_drop m (now.filter (Xj co key))] at hfs;have h2:=(List.pairwise_append.1 hfs).2.2;unfold Xx;rw [if_neg hne];refine h2 _ ?_ x h1;have : 0 < ((now.filter (Xj co key)).take m).length:=List.length_pos_iff.2 hne;rw [Zg (by omega)];exact List.getElem_mem _
     have:=X1 co (Xx ((now.filter (Xj co key)).take m) key) x.key;omega
   ·refine List.mem_append_left _ (h.seen x hx ?_ ?_)
    ·intro e;rw [e] at hb;simp [Xj] at hb
    ·unfold Xj at hb;simp only [Bool.or_eq_true,decide_eq_true_eq,not_or] at hb;omega
theorem Lst.done {now A S : List TEnt} (h : Lst co now A S key) {m : Nat} (hs : (X6 (Xj co key) m now).length < m) : ∀ x ∈ A,x ∈ S ++ X6 (Xj co key) m now:=by
 intro x hx
 by_cases hb : Xj co key x = true
 ·refine List.mem_append_right _ ?_;unfold X6 at hs ⊢;rw [List.length_take] at hs;rw [List.take_of_length_le (by omega)];exact List.mem_filter.2 ⟨h.sub x hx,hb⟩
 ·refine List.mem_append_left _ (h.seen x hx ?_ ?_)
  ·intro e;rw [e] at hb;simp [Xj] at hb
  ·unfold Xj at hb;simp only [Bool.or_eq_true,decide_eq_true_eq,not_or] at hb;omega
theorem Lst.ins {now A S : List TEnt} (h : Lst co now A S key) (hs : Srt co (QI now (plc co now x.key) x)) : Lst co (QI now (plc co now x.key) x) A S key:=
 ⟨hs,fun y hy=>by
  have h1:=h.sub y hy;unfold QI;rw [← List.take_append_drop (plc co now x.key) now] at h1;rcases List.mem_append.1 h1 with h1 | h1
  ·exact List.mem_append_left _ h1
  ·exact List.mem_append_right _ (List.mem_cons_of_mem _ h1),h.le,h.asc,h.seen⟩
def Qdt (co : Int) (k : List UInt8) (l : List TEnt) : List TEnt:=l.filter fun y=>decide (QO co y.key k ≠ 0)
theorem Lst.rem {now A S : List TEnt} {k : List UInt8} (h : Lst co now A S key) (hf : fnd co now k = true) : Lst co (Qt now (plc co now k)) (Qdt co k A) S key:=by
 refine ⟨h.srt.sublist (Qck _ _),fun y hy=>?_,h.le,h.asc,fun y hy=>h.seen y (List.mem_filter.1 hy).1⟩;obtain ⟨h1,h2⟩:=List.mem_filter.1 hy;have h3:=h.sub y h1;have hne : QO co y.key k ≠ 0:=by simpa using h2
 obtain ⟨i,hi,rfl⟩:=List.getElem_of_mem h3
 have hip : i ≠ plc co now k:=by
  intro e;unfold fnd at hf;simp only [Bool.and_eq_true,decide_eq_true_eq] at hf;rw [Zg hf.1] at hf;subst e;exact hne hf.2
 unfold Qt;rcases Nat.lt_or_gt_of_ne hip with h4 | h4
 ·refine List.mem_append_left _ (List.mem_take_iff_getElem.2 ⟨i,by omega,rfl⟩)
 ·refine List.mem_append_right _ (List.mem_drop_iff_getElem.2 ⟨i - (plc co now k + 1),by omega,?_⟩);congr 1;omega
def QbU (x : TEnt) : List TEnt → Nat
 | []=>0
 | y :: l=>(if y = x then 1 else 0) + QbU x l
theorem Qjm : ∀ {l : List TEnt},x ∉ l → QbU x l = 0
 | [],_=>rfl
 | y :: l,h=>by
  unfold QbU;rw [if_neg fun e=>h (by rw [e];exact List.mem_cons_self ..),Qjm fun h'=>h (List.mem_cons_of_mem _ h')]
theorem Qhx : ∀ {l : List TEnt},Srt co l → x ∈ l → QbU x l = 1
 | y :: l,hs,h=>by
  have hp:=List.pairwise_cons.1 hs;unfold QbU
  by_cases e : y = x
  ·rw [if_pos e,Qjm];intro hm;have:=hp.1 x hm;rw [e,QbN] at this;exact absurd this (by decide)
  ·rw [if_neg e,Qhx hp.2 ((List.mem_cons.1 h).resolve_left fun e'=>e e'.symm)]
 | [],_,h=>by cases h
theorem QmC (x : TEnt) (l : List TEnt) (y : TEnt) : QbU x (l ++ [y]) = QbU x l + (if y = x then 1 else 0):=by
 induction l with
 | nil=>simp [QbU]
 | cons z l ih=>simp only [List.cons_append,QbU,ih];omega
def QaQ (co : Int) (key : List UInt8) (l : List TEnt) (k : Nat) : List TEnt:=Qdt co key (l.take k)
theorem QgT {l : List TEnt} {k : Nat} (h : k < l.length) (hc : QO co (nth l k).key key ≠ 0) : QaQ co key l (k + 1) = QaQ co key l k ++ [nth l k]:=by
 unfold QaQ Qdt;rw [List.take_add_one,Q6 h,List.filter_append];simp [hc]
theorem QiG {l : List TEnt} {k : Nat} (h : k < l.length) (hc : QO co (nth l k).key key = 0) : QaQ co key l (k + 1) = QaQ co key l k:=by
 unfold QaQ Qdt;rw [List.take_add_one,Q6 h,List.filter_append];simp [hc]
theorem Qnr (l : List TEnt) (k : Nat) : (QaQ co key l k).length ≤ l.length:=by
 unfold QaQ Qdt;exact Nat.le_trans (List.length_filter_le _ _) (by rw [List.length_take];omega)
theorem QgD (l : List TEnt) : QaQ co key l l.length = Qdt co key l:=by unfold QaQ;rw [List.take_of_length_le (Nat.le_refl _)]
theorem QlX (l : List TEnt) : (Qdt co key l).Sublist l:=List.filter_sublist
end
end Gx
namespace Go.Proofs
open Go Go.RowKit Gx
attribute [local irreducible] Go.Calls Gx.S Gx.O Gx.D Gx.OpP Gx.OpQ Gx.OpH
set_option maxRecDepth 20000
theorem c49 (w : World) (j : Nat) (a : Option Addr) (cap : Nat) (l : List TEnt) (key : List UInt8) (hj : j ≤ 3) (hs : Rw TEnt.vals 2 w [] a l) (hl : l.length ≤ 10000) (hK : ∀ y ∈ l,QW (j : Int) y.key = true ∧ y.key.length ≤ 1000000) (hk : QW (j : Int) key = true) (hkl : key.length ≤ 1000000) : Calls Tryz.prog 49 #[.int .i64 (j : Int),.slice a l.length cap,.string (bs key)] w fun en w'=>∃ g : Option Addr × Nat,en = .returned (.slice g.1 (Qdt (j : Int) key l).length g.2) ∧ True ∧ HS w [] [.own (.slice g.1 ((Qdt (j : Int) key l)).length g.2) 26 2 ((Qdt (j : Int) key l)).length (((Qdt (j : Int) key l)).flatMap TEnt.vals)] w':=by
 refine enter (args:=[_,_,_]) Tryz.func49 Tryz.ntmps49 rfl rfl (HS.refl w []) ?_
 iterate 14 refine aS ?_
 refine QN (α:=Nat × (Option Addr × Nat)) [7,8,9,10,11,12,13,14,15,16,17,18,19,20,21,22,23,24,25,26,27,28,29,30] (fun x=>[(8,.int .i64 (x.1 : Int)),(7,.slice x.2.1 (QaQ (j : Int) key l x.1).length x.2.2)]) (fun x=>HS w [] [.own (.slice x.2.1 ((QaQ (j : Int) key l x.1)).length x.2.2) 26 2 ((QaQ (j : Int) key l x.1)).length (((QaQ (j : Int) key l x.1)).flatMap TEnt.vals)]) (fun x=>x.1 ≤ l.length) (fun x=>l.length - x.1) (0,(none,0)) (Nat.zero_le _) aSx (fun w h=>(h.own_nil 26 2).ent aEt) (fun ⟨k,ga,gc⟩ hk1=>?_)
 dsimp only
 simp only [] at hk1
 have hm1:=Qnr (co:=(j : Int)) (key:=key) l k
 refine aS8 ?_
 refine Qd rfl (fun h1=>?_) fun h1=>?_
 ·try simp only [dT] at h1
  have hke : k < l.length:=by have hq:=h1;omega
  refine aS8 ?_
  refine o_p (Qa rfl rfl rfl QB _ rfl (by omega) (Rw.some hs (by omega))) rfl ?_
  refine aS ?_
  refine o_q (Qe rfl rfl Zb ((hs.rdj 0 (i:=k) (by omega) rfl))) rfl ?_
  refine aS ?_
  refine o_q (Qi rfl Qds rfl (fun w1 h1=>c33 w1 j (nth l k).key key hj (hK _ (Q1 (by omega))).1 hk (hK _ (Q1 (by omega))).2 hkl)) rfl ?_
  refine aS2 ?_
  refine Qj (L':=[(0,_),(1,_),(2,_),(6,_),(7,_),(8,_),(23,_)]) aSx (fun _ h=>h) ?_
  refine Xn (α:=Option Addr × Nat) [7,24,25,26,27,28,29,30] (fun x=>[(7,.slice x.1 (QaQ (j : Int) key l (k + 1)).length x.2)]) (fun x=>HS w [] [.own (.slice x.1 ((QaQ (j : Int) key l (k + 1))).length x.2) 26 2 ((QaQ (j : Int) key l (k + 1))).length (((QaQ (j : Int) key l (k + 1))).flatMap TEnt.vals)]) (fun _=>True) ?_ ?_
  ·skip
   refine Qd rfl (fun h2=>?_) fun h2=>?_
   ·try simp only [Bool.not_eq_true',decide_eq_false_iff_not] at h2
    have hcc : QO (j : Int) (nth l k).key key ≠ 0:=by have hq:=h2;simpa using hq
    refine aS4 ?_
    refine o_p (Qa rfl rfl rfl QB _ rfl (by omega) (Rw.some hs (by omega))) rfl ?_
    refine o_q (QY _ rfl rfl XC rfl (Rw.rd hs (by omega))) rfl ?_
    refine o_h (Qr (cs:=[_,_]) rfl rfl QB Xm rfl rfl rfl) rfl (fun b3 _=>?_)
    refine o_h (QJ (TEnt.vals (nth l k)) rfl rfl rfl QB Tryz.underlying77 Xm rfl aPk (Xv aPk) rfl (ev1 _) (by omega) (by simp only [maxLen];omega)) rfl (fun b4 _=>?_)
    refine aS2 ?_
    exact Qn b4 trivial (by rw [QgT hke hcc,List.length_append];exact aSx) (fun w h=>by rw [QgT hke hcc,List.length_append,List.flatMap_append];simp only [List.flatMap_cons,List.flatMap_nil,List.append_nil];exact h.ent aEt)
   try simp only [Bool.not_eq_false',decide_eq_true_eq] at h2
   have hcc : QO (j : Int) (nth l k).key key = 0:=by have hq:=h2;simpa using hq
   refine aS ?_
   exact Qn (ga,gc) trivial (by rw [QiG hke hcc];exact aSx) (fun w h=>by rw [QiG hke hcc];exact h.ent aEt)
  intro ⟨gd,ge⟩ _
  refine aS4 ?_
  try refine oWr ?_
  refine aS2 ?_
  exact QD (k + 1,(gd,ge)) (by (try simp only []);omega) (by (try simp only []);omega) aSx (fun w h=>h.ent aEt)
 try simp only [dN] at h1
 refine Qu rfl ?_
 refine aS5 ?_
 exact rT rfl rfl (fun w' h'=>⟨(ga,gc),by have hke : k = l.length:=(by omega);simp only [Xw];rw [← QgD,← hke],trivial,by have hke : k = l.length:=(by omega);rw [← QgD,← hke];exact h'.ent aEt⟩)
end Go.Proofs
namespace Gx
open Go Go.RowKit
section
variable {co mo rm : Int} {m : Nat} {ns : List Nd} {fl : List TEnt} {x : TEnt} {key : List UInt8}
def foE (co : Int) (ns : List Nd) (key : List UInt8) : TEnt:=if (Qb co ns key).2.2 = true then Qf6 co ns key else ⟨[],[]⟩
theorem QmN {l : List TEnt} (h : Srt co l) {x y : TEnt} (hx : x ∈ l) (hy : y ∈ l) (hc : QO co x.key y.key = 0) : x = y:=by
 obtain ⟨i,hi,rfl⟩:=List.getElem_of_mem hx;obtain ⟨k,hk,rfl⟩:=List.getElem_of_mem hy;rcases Nat.lt_trichotomy i k with h1 | h1 | h1
 ·have:=List.pairwise_iff_getElem.1 h i k hi hk h1;omega
 ·subst h1;rfl
 ·have h2:=List.pairwise_iff_getElem.1 h k i hk hi h1;have:=X1 co (l[i]).key (l[k]).key;omega
theorem Qon (h : Srt co fl) (hx : x ∈ fl) : fnd co fl x.key = true:=by
 obtain ⟨P,R,rfl⟩:=List.append_of_mem hx;have h1:=QnI (key:=x.key) h (QbN co x.key);unfold fnd;rw [h1]
 have h2 : nth (P ++ x :: R) P.length = x:=by
  rw [Zg (by simp)];simp
 rw [h2,QbN];simp
theorem Sv.srt (h : Sv co mo rm m ns fl) : Srt co fl:=by
 obtain ⟨T,d,hR,hV,rfl⟩:=h.tree;exact hV.srt
theorem Sv.ents (h : Sv co mo rm m ns fl) : ∀ x ∈ fl,X7 co x = 0:=by
 obtain ⟨T,d,hR,hV,rfl⟩:=h.tree;exact hV.ents
theorem Sv.self (h : Sv co mo rm m ns fl) (hx : x ∈ fl) : (Qb co ns x.key).2.2 = true ∧ foE co ns x.key = x:=by
 have h1 : (Qb co ns x.key).2.2 = true:=(h.has x.key).2 (Qon h.srt hx);refine ⟨h1,?_⟩;unfold foE;rw [if_pos h1];obtain ⟨h2,h3⟩:=h.ent h1;exact QmN h.srt h2 hx h3
theorem Sv.few (hs : Yl mo rm = 0) (h : Sv co mo rm 120 ns fl) : fl.length ≤ 1080:=by
 have hl:=h.len;obtain ⟨T,d,hR,hV,rfl⟩:=h.tree;have hz:=Qdi hs;have hmo:=hz.emo;have hi8:=hz.hi8;have hrh:=hz.rh;have hsm:=hR.sm hV.bel (Nat.le_refl _) (Nat.le_trans hV.root hrh)
 have h1:=hR.flat_len (m:=9) fun i hi=>by
  have h2:=(hsm i).1;omega
 have:=Nat.mul_le_mul_right 9 hl;omega
theorem Sv.of {t : Tre} (h : (XP t).2 = 0) : ∃ fl,Sv t.co t.mo t.rm 120 t.ns fl:=by
 obtain ⟨T,d,hR,hV,hZ,hU⟩:=Qq4 h;exact ⟨T.flat,⟨T,d,hR,hV,rfl⟩,hU,(Ym h).2.2.2.1⟩
theorem Qgn {k : List UInt8} (h : QW co k = true) : k ≠ []:=fun e=>by
 have:=Zz h;rw [e] at this;exact absurd this.1 (by decide)
def Qdy (co : Int) (key : List UInt8) (fl : List TEnt) : Nat:=(fl.filter (Xj co key)).length
theorem QdH : Qdy co key fl ≤ fl.length:=List.length_filter_le _ _
theorem Qki {k2 : List UInt8} (h2 : k2 ≠ []) (hk : key = [] ∨ QO co key k2 ≤ 0) (h : Xj co k2 x = true) : Xj co key x = true:=by
 unfold Xj at h ⊢;simp only [Bool.or_eq_true,decide_eq_true_eq] at h ⊢;rcases hk with hk | hk
 ·exact .inl hk
 ·refine .inr ?_;have h3:=h.resolve_left h2;have h4:=X1 co x.key k2;have h5:=Qeg (c:=x.key) hk (by omega);have h6:=X1 co x.key key;omega
theorem Qks (hs : Srt co fl) (hK : ∀ x ∈ fl,x.key ≠ []) (hm : 1 ≤ m) (hl : (X6 (Xj co key) m fl).length = m) : Qdy co (Xx (X6 (Xj co key) m fl) key) fl < Qdy co key fl:=by
 have hps : Srt co (X6 (Xj co key) m fl):=hs.sublist (Qat _ _ _);have hne : X6 (Xj co key) m fl ≠ []:=fun e=>by rw [e] at hl;simp at hl;omega
 have hmem : nth (X6 (Xj co key) m fl) ((X6 (Xj co key) m fl).length - 1) ∈ X6 (Xj co key) m fl:=by
  rw [Zg (by omega)];exact List.getElem_mem _
 have hlk : Xx (X6 (Xj co key) m fl) key = (nth (X6 (Xj co key) m fl) ((X6 (Xj co key) m fl).length - 1)).key:=if_neg hne
 have hlne : Xx (X6 (Xj co key) m fl) key ≠ []:=by
  rw [hlk];exact hK _ ((Qat (Xj co key) m fl).subset hmem)
 have hge : key = [] ∨ QO co key (Xx (X6 (Xj co key) m fl) key) ≤ 0:=by
  rw [hlk];rcases Qf4 hmem with h | h
  ·exact .inl h
  ·refine .inr ?_;have:=X1 co (nth (X6 (Xj co key) m fl) ((X6 (Xj co key) m fl).length - 1)).key key;omega
 have hlo:=QeK (key:=key) hps
 have e1 : fl.filter (Xj co (Xx (X6 (Xj co key) m fl) key)) = (fl.filter (Xj co key)).filter (Xj co (Xx (X6 (Xj co key) m fl) key)):=by
  rw [List.filter_filter];refine List.filter_congr fun x _=>?_;cases hb : Xj co (Xx (X6 (Xj co key) m fl) key) x with
  | false=>rfl
  | true=>rw [Qki hlne hge hb];rfl
 unfold Qdy;rw [e1];generalize hQ : Xx (X6 (Xj co key) m fl) key = Q at *;unfold X6 at hl hlo
 have e2 : ((fl.filter (Xj co key)).take m).filter (Xj co Q) = []:=by
  refine List.filter_eq_nil_iff.2 fun x hx hb=>?_;have h1:=hlo x hx;unfold Xj at hb;simp only [Bool.or_eq_true,decide_eq_true_eq] at hb;have:=hb.resolve_left hlne;omega
 have e3 : ((fl.filter (Xj co key)).filter (Xj co Q)).length ≤ ((fl.filter (Xj co key)).drop m).length:=by
  rw [show (fl.filter (Xj co key)).filter (Xj co Q) = ((fl.filter (Xj co key)).drop m).filter (Xj co Q) from by
   conv=>lhs;rw [← List.take_append_drop m (fl.filter (Xj co key))]
   rw [List.filter_append,e2,List.nil_append]]
  exact List.length_filter_le _ _
 rw [List.length_take] at hl;rw [List.length_drop] at e3;omega
def msr (n i c : Nat) : Nat:=if i < n then n - i + 1081 else c
theorem Qed {n i c c2 : Nat} (h : i < n) (h2 : c2 ≤ 1080) : msr n (i + 1) c2 < msr n i c:=by
 unfold msr;rw [if_pos h];split <;> omega
theorem Qlh {n i c c2 : Nat} (h : n ≤ i) (h2 : c2 < c) : msr n (i + 1) c2 < msr n i c:=by
 unfold msr;rw [if_neg (by omega),if_neg (by omega)];exact h2
theorem Qn3 {n i c c2 : Nat} (h1 : c2 ≤ 1080) (h2 : c2 < c) : msr n (i + 1) c2 < msr n i c:=by
 rcases Nat.lt_or_ge i n with h | h
 ·exact Qed h h1
 ·exact Qlh h h2
theorem QcZ {p : List TEnt} {k : Nat} (hk : k < p.length) : Xx (p.take (k + 1)) key = (nth p k).key:=by
 have hl : (p.take (k + 1)).length = k + 1:=by rw [List.length_take];omega
 unfold Xx;rw [if_neg (fun e=>by rw [e] at hl;simp at hl),hl,Nat.add_sub_cancel,Zg (by omega),Zg hk];simp
theorem Qcg (p : List TEnt) : Xx (p.take 0) key = key:=if_pos rfl
theorem Ql7 {p : List TEnt} {k : Nat} (h : Srt co p) (hk : k < p.length) (h0 : ∀ x ∈ p,key = [] ∨ 0 < QO co x.key key) : Xx (p.take k) key = [] ∨ 0 < QO co (nth p k).key (Xx (p.take k) key):=by
 cases k with
 | zero=>
  rw [Qcg];exact h0 _ (by rw [Zg hk];exact List.getElem_mem _)
 | succ k=>
  rw [QcZ (by omega)];refine .inr ?_;have h1:=List.pairwise_iff_getElem.1 h k (k + 1) (by omega) hk (by omega);rw [Zg hk,Zg (show k < p.length by omega)];have:=X1 co (p[k + 1]).key (p[k]).key;omega
theorem Qgj {p : List TEnt} {k : Nat} (h : ∀ x ∈ p,QW co x.key = true) (hk : k ≤ p.length) (h0 : key = [] ∨ QW co key = true) : Xx (p.take k) key = [] ∨ QW co (Xx (p.take k) key) = true:=by
 cases k with
 | zero=>rw [Qcg];exact h0
 | succ k=>
  rw [QcZ (by omega)];exact .inr (h _ (by rw [Zg (show k < p.length by omega)];exact List.getElem_mem _))
theorem Qjc (h : key = [] ∨ QW co key = true) : key.length ≤ 40:=by
 rcases h with h | h
 ·rw [h];exact Nat.zero_le _
 ·exact (Zz h).2
theorem Qse (h : key = [] ∨ QW co key = true) : key = [] ∨ XM co key = 0:=h.imp id fun h=>if_pos h
theorem Ql5 {p : List TEnt} {k : Nat} (hk : k < p.length) (S : List TEnt) : S ++ p.take (k + 1) = S ++ p.take k ++ [nth p k]:=by
 rw [List.take_add_one,Q6 hk,List.append_assoc];rfl
theorem QkH {S : List TEnt} {k : Nat} (hk : k < S.length) (x : TEnt) : QbU x (S.take (k + 1)) = QbU x (S.take k) + (if nth S k = x then 1 else 0):=by
 rw [List.take_add_one,Q6 hk];exact QmC x _ _
abbrev pT (j : Nat) (key : List UInt8) (m : Nat) (l : List TEnt) : List TEnt:=X6 (Xj (j : Int) key) m l
def shK (S P : List TEnt) (k : Nat) : List TEnt:=S ++ P.take k
theorem QgV (S P : List TEnt) : shK S P 0 = S:=List.append_nil S
theorem Qi8 (S : List TEnt) {P : List TEnt} {k : Nat} (hk : k < P.length) : shK S P (k + 1) = shK S P k ++ [nth P k]:=Ql5 hk S
theorem QnB (S P : List TEnt) : shK S P P.length = S ++ P:=by unfold shK;rw [List.take_length]
theorem Qnu (S : List TEnt) {P : List TEnt} {k : Nat} (hk : k ≤ P.length) : (shK S P k).length = S.length + k:=by
 unfold shK;rw [List.length_append,List.length_take];omega
theorem QnE {x y : TEnt} {b : Bool} (h1 : b = true → x = y) (h2 : x = y → b = true) : b = decide (x = y):=by
 by_cases h : x = y
 ·rw [decide_eq_true h];exact h2 h
 ·rw [decide_eq_false h];cases b with
  | false=>rfl
  | true=>exact absurd (h1 rfl) h
theorem QjF : ∀ (l : List TEnt),QbU x l ≤ l.length
 | []=>Nat.le_refl _
 | y :: l=>by
  have:=QjF l;simp only [QbU,List.length_cons];split <;> omega
end
end Gx
namespace Go.Proofs
open Go Go.RowKit Gx
attribute [local irreducible] Go.Calls Gx.S Gx.O Gx.D Gx.OpP Gx.OpQ Gx.OpH
set_option maxRecDepth 20000
theorem QoQ : tsl Tryz.prog 82 = some (85,3,40):=by kernel_rfl
instance : TFd Tryz.prog 85 1 1 26:=⟨by kernel_rfl⟩
theorem Qrj : QT Tryz.prog 49 = true:=by kernel_rfl
theorem c36v (w : World) (j : Nat) (mo rm : Int) (a : Option Addr) (cap : Nat) (L : List LNd) (key : List UInt8) (hs : Nt w [] a L) (hB : Bd (pln L)) (hj : j ≤ 3) (hl0 : 0 < L.length) (hT : TOk (j : Int) (pln L)) (hkk : key.length ≤ 1000000) (hx0 : XM (j : Int) key = 0) : Calls Tryz.prog 36 #[.agg #[.int .i64 (j : Int),.int .i64 mo,.int .i64 rm,.slice a L.length cap],.string (bs key)] w fun en w'=>en = .returned (.tuple #[.agg #[.string (bs (foE (j : Int) (pln L) key).key),.string (bs (foE (j : Int) (pln L) key).val)],.bool (Qb (j : Int) (pln L) key).2.2]) ∧ Below w.heap.size w w':=by
  by_cases hx : (Qb (j : Int) (pln L) key).2.2 = true
  · have h9:=c36o w j mo rm a cap L key hs hB hj hl0 hT hkk hx0 hx;unfold foE;rw [if_pos hx,hx];exact h9
  · have h9:=c36m w j mo rm a cap L key hs hB hj hl0 hT hkk hx0 hx;unfold foE;rw [if_neg hx,Bool.eq_false_iff.2 hx];exact h9
theorem c36f (w : World) (j : Nat) (mo rm : Int) (a : Option Addr) (cap : Nat) (L : List LNd) (fl : List TEnt) (x : TEnt) (hs : Nt w [] a L) (hB : Bd (pln L)) (hj : j ≤ 3) (hv : Sv (j : Int) mo rm 120 (pln L) fl) (hx : x ∈ fl) : Calls Tryz.prog 36 #[.agg #[.int .i64 (j : Int),.int .i64 mo,.int .i64 rm,.slice a L.length cap],.string (bs x.key)] w fun en w'=>en = .returned (.tuple #[.agg #[.string (bs x.key),.string (bs x.val)],.bool true]) ∧ Below w.heap.size w w':=by
  have h9:=c36v w j mo rm a cap L x.key hs hB hj (by have h9:=hv.pos;rwa [Qc] at h9) hv.tok (hv.keys x hx).2 (if_pos (hv.keys x hx).1);rw [(hv.self hx).2,(hv.self hx).1] at h9;exact h9
set_option maxHeartbeats 400000 in
theorem c10z (w : World) (co mo rm : Int) (a : Option Addr) (cap : Nat) (L : List LNd) (al : Option Addr) (ca : Nat) (l : List (Int × TEnt)) (most : Int) (hs : Nt w [] a L) (hsl : Rw QhQ 3 w [] al l) (hz : ¬ ((YW (pln L) = true ∧ (XP (⟨co,mo,rm,pln L⟩ : Tre)).2 = 0) ∧ (l.length ≤ 20 ∧ (1 ≤ most ∧ most ≤ 9)))) : Calls Tryz.prog 10 #[.agg #[.int .i64 co,.int .i64 mo,.int .i64 rm,.slice a L.length cap],.slice al l.length ca,.int .i64 most] w fun en w'=>en = .returned (.bool true) ∧ Below w.heap.size w w':=by
 refine enter (args:=[_,_,_]) Tryz.func10 Tryz.ntmps10 rfl rfl (HS.refl w []) ?_
 refine aS2 ?_
 refine oBx fun b1 _=>?_
 refine aS5 ?_
 refine o_q (Qi rfl Qo4 rfl (fun w1 h1=>c13 w1)) rfl ?_
 refine aS2 ?_
 refine Qd rfl (fun h2=>?_) fun h2=>?_
 ·try simp only [Bool.not_true] at h2
  exfalso;simp at h2
 try simp only [Bool.not_true] at h2
 refine aS5 ?_
 refine o_q (Qi rfl Qpc rfl (fun w1 h1=>c14 w1 co mo rm a cap L (hs.later h1.nil))) rfl ?_
 refine aS2 ?_
 refine QaT 4 29 33 _ _ rfl
  (by
   intro hg3
   have hs4:=hg3;try simp only [Bool.not_eq_false'] at hs4
   refine oOn 29 hg3 ?_
   refine aS ?_
   refine oOn 29 hg3 ?_
   refine o_q (Qi rfl Qo1 rfl (fun w1 h1=>c18 w1 co mo rm a cap L (hs.later h1.nil) (QiS (show YW (pln L) = true from by have hq:=hg3;simpa using hq)) (Qfy (show YW (pln L) = true from by have hq:=hg3;simpa using hq)))) rfl ?_
   refine oOn 29 hg3 ?_
   refine aS ?_
   refine o_p (Qs rfl rfl hg3 rfl) rfl ?_
   refine aS ?_
   exact oJn 4 33)
  (by
   intro hg5
   have hs6:=hg5;try simp only [Bool.not_eq_true'] at hs6
   refine oOf 29 hg5 ?_
   refine oOf 29 hg5 ?_
   refine oOf 29 hg5 ?_
   refine o_p (Qw rfl rfl hg5 rfl) rfl ?_
   refine aS ?_
   exact oJn 4 33) ?_
 refine aS ?_
 refine QaT 4 34 38 _ _ rfl
  (by
   intro hg7
   have hs8:=hg7;try simp only [Bool.or_eq_false_iff,Bool.not_eq_false',decide_eq_true_eq] at hs8
   refine oOn 34 hg7 ?_
   refine aS ?_
   refine oOn 34 hg7 ?_
   refine aS ?_
   refine oOn 34 hg7 ?_
   refine aS ?_
   refine o_p (Qs rfl rfl hg7 rfl) rfl ?_
   refine aS ?_
   exact oJn 4 38)
  (by
   intro hg9
   have hs10:=hg9;try simp only [Bool.or_eq_true,Bool.not_eq_true',decide_eq_false_iff_not] at hs10
   refine oOf 34 hg9 ?_
   refine oOf 34 hg9 ?_
   refine oOf 34 hg9 ?_
   refine o_p (Qw rfl rfl hg9 rfl) rfl ?_
   refine aS ?_
   exact oJn 4 38) ?_
 refine aS ?_
 refine QaT 4 39 43 _ _ rfl
  (by
   intro hg11
   have hs12:=hg11;try simp only [Bool.or_eq_false_iff,Bool.not_eq_false',decide_eq_true_eq,decide_eq_false_iff_not] at hs12
   refine oOn 39 hg11 ?_
   refine aS ?_
   refine oOn 39 hg11 ?_
   refine o_q (Qi rfl Qb0 rfl (fun w1 h1=>c46 w1 most 1 9)) rfl ?_
   refine oOn 39 hg11 ?_
   refine aS ?_
   refine o_p (Qs rfl rfl hg11 rfl) rfl ?_
   refine aS ?_
   exact oJn 4 43)
  (by
   intro hg13
   have hs14:=hg13;try simp only [Bool.or_eq_true,Bool.not_eq_true',decide_eq_false_iff_not,decide_eq_true_eq] at hs14
   refine oOf 39 hg13 ?_
   refine oOf 39 hg13 ?_
   refine oOf 39 hg13 ?_
   refine o_p (Qw rfl rfl hg13 rfl) rfl ?_
   refine aS ?_
   exact oJn 4 43) ?_
 refine aS ?_
 refine Qd rfl (fun h15=>?_) fun h15=>?_
 ·try simp only [Bool.or_eq_true,Bool.not_eq_true',decide_eq_false_iff_not,decide_eq_true_eq,Bool.and_eq_false_iff] at h15
  refine aS4 ?_
  exact rT rfl rfl (fun w' h'=>⟨by rfl,h'.below⟩)
 try simp only [Bool.or_eq_false_iff,Bool.not_eq_false',decide_eq_true_eq,decide_eq_false_iff_not,Bool.and_eq_true] at h15
 exfalso;have hq:=h15;simp at hq;exact hz ⟨⟨hq.1.1.1,hq.1.1.2⟩,by omega,by omega⟩
set_option maxHeartbeats 4000000 in
theorem c10o (w : World) (j : Nat) (mo rm : Int) (a : Option Addr) (cap : Nat) (L : List LNd) (al : Option Addr) (ca : Nat) (l : List (Int × TEnt)) (m : Nat) (hs : Nt w [] a L) (hsl : Rw QhQ 3 w [] al l) (hfw : YW (pln L) = true) (h0 : (XP (⟨(j : Int),mo,rm,pln L⟩ : Tre)).2 = 0) (hl20 : l.length ≤ 20) (hm1 : 1 ≤ m) (hm9 : m ≤ 9) : Calls Tryz.prog 10 #[.agg #[.int .i64 (j : Int),.int .i64 mo,.int .i64 rm,.slice a L.length cap],.slice al l.length ca,.int .i64 (m : Int)] w fun en w'=>en = .returned (.bool true) ∧ Below w.heap.size w w':=by
 have hB:=QiS hfw
 have hkl:=Qfy hfw
 have hsm:=Qnx hfw
 have hle:=hB.len
 rw [Qc] at hle
 obtain ⟨hc0,hz0,hl0,hl120,hn0,_,_⟩:=Ym h0
 rw [show ((⟨(j : Int),mo,rm,pln L⟩ : Tre)).ns = pln L from rfl,Qc] at hl0 hl120
 have hj : j ≤ 3:=by obtain ⟨j9,e9,hj9⟩:=YF hc0;have e8 : ((j : Nat) : Int) = (j9 : Int):=e9;omega
 have hT : TOk (j : Int) (pln L):=Yi (t:=(⟨(j : Int),mo,rm,pln L⟩ : Tre)) hn0
 have hmo:=(YH hz0).1
 simp only [] at hmo
 have hcE : Q5 (j : Int) = 0:=hc0
 have hse : Yl mo rm = 0:=hz0
 obtain ⟨f0,hv0⟩:=Sv.of h0
 simp only [] at hv0
 obtain ⟨T0,d0,hB0,hN0,hT0,hF0⟩:=hv0.bt
 subst hF0
 have hf0:=hv0.few hse
 refine enter (args:=[_,_,_]) Tryz.func10 Tryz.ntmps10 rfl rfl (HS.refl w []) ?_
 refine aS2 ?_
 refine oBx fun b1 _=>?_
 refine aS5 ?_
 refine o_q (Qi rfl Qo4 rfl (fun w1 h1=>c13 w1)) rfl ?_
 refine aS2 ?_
 refine Qd rfl (fun h2=>?_) fun h2=>?_
 ·try simp only [Bool.not_true] at h2
  exfalso;simp at h2
 try simp only [Bool.not_true] at h2
 refine aS5 ?_
 refine o_q (Qi rfl Qpc rfl (fun w1 h1=>c14 w1 (j : Int) mo rm a cap L (hs.later h1.nil))) rfl ?_
 refine aS2 ?_
 refine QaT 4 29 33 _ _ rfl
  (by
   intro hg3
   have hs4:=hg3;try simp only [Bool.not_eq_false'] at hs4
   refine oOn 29 hg3 ?_
   refine aS ?_
   refine oOn 29 hg3 ?_
   refine o_q (Qi rfl Qo1 rfl (fun w1 h1=>c18 w1 (j : Int) mo rm a cap L (hs.later h1.nil) hB hkl)) rfl ?_
   refine oOn 29 hg3 ?_
   refine aS ?_
   refine o_p (Qs rfl rfl hg3 rfl) rfl ?_
   refine aS ?_
   exact oJn 4 33)
  (by
   intro hg5
   have hs6:=hg5;try simp only [Bool.not_eq_true'] at hs6
   refine oOf 29 hg5 ?_
   refine oOf 29 hg5 ?_
   refine oOf 29 hg5 ?_
   refine o_p (Qw rfl rfl hg5 rfl) rfl ?_
   refine aS ?_
   exact oJn 4 33) ?_
 refine aS ?_
 refine QaT 4 34 38 _ _ rfl
  (by
   intro hg7
   have hs8:=hg7;try simp only [Bool.or_eq_false_iff,Bool.not_eq_false',decide_eq_true_eq] at hs8
   refine oOn 34 hg7 ?_
   refine aS ?_
   refine oOn 34 hg7 ?_
   refine aS ?_
   refine oOn 34 hg7 ?_
   refine aS ?_
   refine o_p (Qs rfl rfl hg7 rfl) rfl ?_
   refine aS ?_
   exact oJn 4 38)
  (by
   intro hg9
   have hs10:=hg9;try simp only [Bool.or_eq_true,Bool.not_eq_true',decide_eq_false_iff_not] at hs10
   refine oOf 34 hg9 ?_
   refine oOf 34 hg9 ?_
   refine oOf 34 hg9 ?_
   refine o_p (Qw rfl rfl hg9 rfl) rfl ?_
   refine aS ?_
   exact oJn 4 38) ?_
 refine aS ?_
 refine QaT 4 39 43 _ _ rfl
  (by
   intro hg11
   have hs12:=hg11;try simp only [Bool.or_eq_false_iff,Bool.not_eq_false',decide_eq_true_eq,decide_eq_false_iff_not] at hs12
   refine oOn 39 hg11 ?_
   refine aS ?_
   refine oOn 39 hg11 ?_
   refine o_q (Qi rfl Qb0 rfl (fun w1 h1=>c46 w1 (m : Int) 1 9)) rfl ?_
   refine oOn 39 hg11 ?_
   refine aS ?_
   refine o_p (Qs rfl rfl hg11 rfl) rfl ?_
   refine aS ?_
   exact oJn 4 43)
  (by
   intro hg13
   have hs14:=hg13;try simp only [Bool.or_eq_true,Bool.not_eq_true',decide_eq_false_iff_not,decide_eq_true_eq] at hs14
   refine oOf 39 hg13 ?_
   refine oOf 39 hg13 ?_
   refine oOf 39 hg13 ?_
   refine o_p (Qw rfl rfl hg13 rfl) rfl ?_
   refine aS ?_
   exact oJn 4 43) ?_
 refine aS ?_
 refine Qd rfl (fun h15=>?_) fun h15=>?_
 ·try simp only [Bool.or_eq_true,Bool.not_eq_true',decide_eq_false_iff_not,decide_eq_true_eq,Bool.and_eq_false_iff] at h15
  exfalso;simp [hfw,h0] at h15;omega
 try simp only [Bool.or_eq_false_iff,Bool.not_eq_false',decide_eq_true_eq,decide_eq_false_iff_not,Bool.and_eq_true] at h15
 refine aS7 ?_
 refine Qj (L':=[(1,_),(2,_),(3,_),(6,_),(7,_)]) aSx (fun _ h=>h) ?_
 refine QN (α:=Nat) [6,7,44,45,46,47,48,49,50,51,52,53,54,55,56] (fun q=>[(7,.int .i64 (q : Int))]) (fun _=>HS w [] [.blk b1 24 4 [.int .i64 (j : Int),.int .i64 mo,.int .i64 rm,.slice a L.length cap]]) (fun q=>q ≤ l.length ∧ ∀ p,p < q → (nth l p).2.key.length ≤ 1000000) (fun q=>l.length - q) 0 ⟨Nat.zero_le _,fun p h=>absurd h (Nat.not_lt_zero p)⟩ aSx (fun w h=>h.ent aEt) (fun q hx=>?_)
 obtain ⟨hq1,hq3⟩:=hx
 refine aS8 ?_
 refine Qd rfl (fun h16=>?_) fun h16=>?_
 ·try simp only [dT] at h16
  have hql : q < l.length:=by have hq:=h16;omega
  refine aS7 ?_
  refine o_p (Qa rfl rfl rfl QoQ (q) (by omega) (by omega) (Rw.some hsl (by omega))) rfl ?_
  refine aS ?_
  refine o_q (QY _ rfl rfl XC rfl (QlF hsl (by omega))) rfl ?_
  refine o_q (Qi rfl Qo0 rfl (fun w1 h1=>c15 w1 (nth l q).2)) rfl ?_
  refine aS2 ?_
  refine Qd rfl (fun h17=>?_) fun h17=>?_
  ·try simp only [Bool.not_eq_true'] at h17
   refine aS4 ?_
   exact rT rfl rfl (fun w' h'=>⟨by rfl,h'.below⟩)
  try simp only [Bool.not_eq_false'] at h17
  have hq6 : (nth l q).2.key.length ≤ 1000000:=by have hq : ZI (nth l q).2 = true:=(by have hq:=h17;simpa using hq);rw [ZI,decide_eq_true_eq] at hq;omega
  refine aS5 ?_
  try refine oWr ?_
  refine aS2 ?_
  exact QD (q + 1) (by omega) ⟨by omega,fun p hp=>(Nat.lt_or_ge p q).elim (hq3 p) (fun h9=>by obtain rfl : p = q:=(by omega);exact hq6)⟩ aSx (fun w h=>h.ent aEt)
 try simp only [dN] at h16
 have hslim : ∀ p,p < l.length → (nth l p).2.key.length ≤ 1000000:=fun p hp=>hq3 p (by have hq:=h16;omega)
 refine Qu rfl ?_
 refine aS3 ?_
 refine o_h (QP rfl QiT rfl (fun w1 h1=>c17 w1 (j : Int) mo rm a cap L (hs.later h1.nil) hle hsm)) rfl (fun ⟨⟨ga1,gc1⟩,LC1⟩ hLC1=>?_)
 refine oAl (fun b18 _=>?_) Yq
 refine oSt ?_
 refine aS4 ?_
 refine o_h (QP rfl Qsb rfl (fun w1 h1=>c47 w1 (j : Int) mo rm ga1 gc1 LC1 T0 d0 _ _ (HS.nt h1 aPk) (by rw [← Qc,hLC1,Qc];omega) hB0 (by rw [hLC1];exact hN0) hT0 (by omega))) rfl (fun ⟨gl1,cl1⟩ _=>?_)
 iterate 16 refine aS ?_
 refine QN (α:=(Nat × (Option Addr × Nat) × (Option Addr × Nat) × (Option Addr × Nat)) × List LNd × (List TEnt × List TEnt × List TEnt) × List UInt8) [6,9,10,11,12,13,14,15,16,17,18,19,20,61,62,63,64,65,66,67,68,69,70,71,72,73,74,75,76,77,78,79,80,81,82,83,84,85,86,87,88,89,90,91,92,93,94,95,96,97,98,99,100,101,102,103,104,105,106,107,108,109,110,111,112,113,114,115,116,117,118,119,120,121,122,123,124,125,126,127,128,129,130,131,132,133,134,135,136,137,138,139,140,141,142,143,144,145,146,147,148,149,150,151,152,153,154,155,156,157,158,159,160,161,162,163,164,165,166,167,168,169,170,171,172,173,174,175,176,177,178,179,180,181,182,183,184,185] (fun x=>[(12,.int .i64 (x.1.1 : Int)),(9,.slice x.1.2.2.1.1 x.2.2.1.2.1.length x.1.2.2.1.2),(10,.slice x.1.2.2.2.1 x.2.2.1.2.2.length x.1.2.2.2.2),(11,.string (bs x.2.2.2))]) (fun x=>HS w [] [.blk b18 24 4 [.int .i64 (j : Int),.int .i64 mo,.int .i64 rm,.slice x.1.2.1.1 (x.2.1).length x.1.2.1.2],.nodes 26 102 x.1.2.1.1 x.1.2.1.2 x.2.1,.own (.slice x.1.2.2.1.1 (x.2.2.1.2.1).length x.1.2.2.1.2) 26 2 (x.2.2.1.2.1).length ((x.2.2.1.2.1).flatMap TEnt.vals),.own (.slice x.1.2.2.2.1 (x.2.2.1.2.2).length x.1.2.2.2.2) 26 2 (x.2.2.1.2.2).length ((x.2.2.1.2.2).flatMap TEnt.vals)]) (fun x=>Sv (j : Int) mo rm 120 (pln x.2.1) x.2.2.1.1 ∧ Lst (j : Int) x.2.2.1.1 x.2.2.1.2.1 x.2.2.1.2.2 x.2.2.2 ∧ (x.2.2.2 = [] ∨ QW (j : Int) x.2.2.2 = true) ∧ x.2.2.1.2.2.length ≤ 9 * x.1.1 ∧ x.1.1 + msr l.length x.1.1 (Qdy (j : Int) x.2.2.2 x.2.2.1.1) ≤ l.length + 1081 ∧ x.2.2.1.2.1.length ≤ 1080) (fun x=>msr l.length x.1.1 (Qdy (j : Int) x.2.2.2 x.2.2.1.1)) ((0,(ga1,gc1),(gl1,cl1),(none,0)),LC1,(T0.flat,T0.flat,[]),[]) ⟨by show Sv _ _ _ _ (pln LC1) _;rw [hLC1];exact hv0,Lst.nil hv0.srt,.inl rfl,Nat.zero_le _,by show 0 + msr l.length 0 (Qdy (j : Int) [] T0.flat) ≤ _;have h9:=Nat.le_trans (QdH (co:=(j : Int)) (key:=[]) (fl:=T0.flat)) hf0;unfold msr;split <;> omega,hf0⟩ aSx (fun w h=>(h.own_nil 26 2).ent aEt) (fun ⟨⟨i,⟨gt,ct⟩,⟨gl,cl⟩,⟨gs,cs⟩⟩,LN,⟨fl,AL,SL⟩,ky⟩ hx=>?_)
 dsimp only
 obtain ⟨hv,hLs,hky,hSl,hms,hAl⟩:=hx
 simp only [] at hv hLs hky hSl hms hAl
 obtain ⟨T2,d2,hB2,hN2,hT2,hF2⟩:=hv.bt
 subst hF2
 have hLnl:=hv.len
 rw [Qc] at hLnl
 have hBd2:=hv.bd hse (by decide)
 have h02:=hv.tre hcE hse (by decide)
 have hfl2:=hv.few hse
 have hkl2:=Qjc hky
 have hi9 : i ≤ 1101:=by omega
 have hl0n : 0 < LN.length:=by have h9:=hv.pos;rwa [Qc] at h9
 have hPl : (pT j ky m T2.flat).length ≤ m:=QlV (Xj (j : Int) ky) m T2.flat
 refine aS5 ?_
 refine o_h (QP rfl QiT rfl (fun w1 h1=>c17 w1 (j : Int) mo rm gt ct LN (HS.nt h1 aPk) (by omega) ((hv.sm hse).mono (by decide)))) rfl (fun ⟨⟨ga2,gc2⟩,LC2⟩ hLC2=>?_)
 refine aS2 ?_
 refine o_h (QP rfl Qrr rfl (fun w1 h1=>c48o w1 j mo rm ga2 gc2 LC2 ky m T2 d2 _ _ (HS.nt h1 aPk) (by rw [hLC2];exact hBd2) (Sv.kl (L:=LC2) (by rw [hLC2];exact hv)) (by rw [hLC2];exact h02) (by rw [← Qc,hLC2,Qc];omega) hB2 (by rw [hLC2];exact hN2) hT2 (by omega) (by omega) (Qse hky) hm1 (by omega) hv.keys)) rfl (fun ⟨gp,cp⟩ _=>?_)
 refine aS4 ?_
 refine Qm (show _ = Value.slice gp (pT j ky m T2.flat).length cp from rfl) ?_
 refine aS8 ?_
 refine QaT 5 73 78 _ _ rfl
  (by
   intro hg19
   have hs20:=hg19;try simp only [Bool.not_eq_false',decide_eq_true_eq] at hs20
   refine oOn 73 hg19 ?_
   refine aS ?_
   refine oOn 73 hg19 ?_
   refine aS ?_
   refine oOn 73 hg19 ?_
   refine aS ?_
   refine oOn 73 hg19 ?_
   refine aS ?_
   refine o_p (Qs rfl rfl hg19 rfl) rfl ?_
   refine aS ?_
   exact oJn 5 78)
  (by
   intro hg21
   have hs22:=hg21;try simp only [Bool.not_eq_true',decide_eq_false_iff_not] at hs22
   refine oOf 73 hg21 ?_
   refine oOf 73 hg21 ?_
   refine oOf 73 hg21 ?_
   refine oOf 73 hg21 ?_
   refine o_p (Qw rfl rfl hg21 rfl) rfl ?_
   refine aS ?_
   exact oJn 5 78) ?_
 refine aS ?_
 refine Qd rfl (fun h23=>?_) fun h23=>?_
 ·try simp only [Bool.or_eq_true,Bool.not_eq_true',decide_eq_false_iff_not,decide_eq_true_eq] at h23
  exfalso;simp at h23;omega
 try simp only [Bool.or_eq_false_iff,Bool.not_eq_false',decide_eq_true_eq,decide_eq_false_iff_not] at h23
 have hPs : Srt (j : Int) (pT j ky m T2.flat):=hv.srt.sublist (Qat _ _ _)
 have hPm : ∀ x ∈ (pT j ky m T2.flat),x ∈ T2.flat:=fun x hx=>(Qat _ _ _).subset hx
 have hPg : ∀ x ∈ (pT j ky m T2.flat),ky = [] ∨ 0 < QO (j : Int) x.key ky:=fun x hx=>Qf4 hx
 have hPk : ∀ x ∈ (pT j ky m T2.flat),QW (j : Int) x.key = true:=fun x hx=>(hv.keys x (hPm x hx)).1
 refine aS3 ?_
 refine Qj (L':=[(1,_),(2,_),(3,_),(7,_),(8,_),(9,_),(10,_),(11,_),(12,_),(13,_),(44,_),(45,_),(46,_),(47,_),(57,_),(58,_),(59,_),(60,_)]) aSx (fun _ h=>h) ?_
 refine aS4 ?_
 refine QN (α:=Nat × (Option Addr × Nat)) [6,10,11,15,16,17,79,80,81,82,83,84,85,86,87,88,89,90,91,92,93,94,95,96,97,98,99,100,101,102,103,104,105,106,107,108,109,110,111,112,113,114,115,116,117,118,119,120,121,122,123,124,125,126,127,128,129,130,131,132,133,134,135,136,137,138,139,140,141,142] (fun x=>[(15,.int .i64 (x.1 : Int)),(10,.slice x.2.1 (shK SL (pT j ky m T2.flat) x.1).length x.2.2),(11,.string (bs (Xx ((pT j ky m T2.flat).take x.1) ky)))]) (fun x=>HS w [] [.blk b18 24 4 [.int .i64 (j : Int),.int .i64 mo,.int .i64 rm,.slice gt (LN).length ct],.nodes 26 102 gt ct LN,.own (.slice gl (AL).length cl) 26 2 (AL).length ((AL).flatMap TEnt.vals),.own (.slice x.2.1 ((shK SL (pT j ky m T2.flat) x.1)).length x.2.2) 26 2 ((shK SL (pT j ky m T2.flat) x.1)).length (((shK SL (pT j ky m T2.flat) x.1)).flatMap TEnt.vals),.own (.slice gp ((pT j ky m T2.flat)).length cp) 26 2 ((pT j ky m T2.flat)).length (((pT j ky m T2.flat)).flatMap TEnt.vals)]) (fun x=>x.1 ≤ (pT j ky m T2.flat).length) (fun x=>(pT j ky m T2.flat).length - x.1) (0,(gs,cs)) (Nat.zero_le _) (by dsimp only;rw [QgV,Qcg];exact aSx) (fun w h=>by dsimp only;rw [QgV];exact h.ent aEt) (fun ⟨k,gd,ge⟩ hk1=>?_)
 dsimp only
 simp only [] at hk1
 have hsh:=Qnu SL hk1
 refine aS8 ?_
 refine Qd rfl (fun h24=>?_) fun h24=>?_
 ·try simp only [dT] at h24
  have hkp : k < (pT j ky m T2.flat).length:=by have hq:=h24;omega
  refine QV (fun w h=>Qap (a:=gp) (cap:=cp) (n:=((pT j ky m T2.flat)).length) (by omega) h aPk) fun hgx=>?_
  obtain ⟨g_hgp,hgp,_⟩:=hgx
  have hxf:=hPm _ (Q1 hkp)
  have hxe:=hv.ents _ hxf
  have hkK:=Qgj hPk hk1 hky
  have hcK:=Ql7 hPs hkp hPg
  refine aS4 ?_
  refine QE [11] QH ?_
  refine dLn 0 [[]] ?_
  refine dP 1 ?_
  refine dP 2 ?_
  refine dV 3 rfl (Qa rfl rfl rfl QB (k) (by omega) (by omega) hgp) ?_
  refine dFa 4 ?_
  refine dQ 5 [[]] rfl (Qg rfl rfl Zb (fun w h=>Z5 hkp hgp h aPk 0 _ rfl)) ?_
  refine dQ 6 [[]] rfl (Qi rfl Qo7 rfl (fun w1 h1=>c36f w1 j mo rm gt ct LN T2.flat (nth (pT j ky m T2.flat) k) (HS.nt h1 aPk) hBd2 hj hv hxf)) ?_
  refine dP 7 ?_
  refine dP 8 ?_
  refine dP 9 ?_
  refine dH 10 rfl (QiM rfl Xm) (fun b25 _=>?_)
  refine dBa ?_
  refine dSt 11 ?_ (hl:=(by simp only [Qx,List.length_set,List.length_cons,List.length_nil,List.length_map];omega))
  refine dTu [] ?_
  refine dP 12 ?_
  refine dNi ?_
  refine aS2 ?_
  refine Qj (L':=[(1,_),(2,_),(3,_),(7,_),(8,_),(9,_),(10,_),(11,_),(12,_),(13,_),(15,_),(16,_),(17,_),(44,_),(45,_),(46,_),(47,_),(57,_),(58,_),(59,_),(60,_)]) aSx (fun _ h=>h) ?_
  refine Qc5 (α:=Bool) [95,96,97,98,99,100,101,102,103,104,105,106,107,108,109,110,111,112,113,114,115,116,117,118,119,120,121,122,123,124,125,126,127,128,129,130] (fun z=>[(130,.bool z)]) (fun z=>z = false) ?_ ?_
  ·skip
   refine QE [] QH ?_
   refine dFa 0 ?_
   refine dLd 1 [] ?_
   refine dP 2 ?_
   refine dP 3 ?_
   refine dV 4 rfl (Qa rfl rfl rfl QB (k) (by omega) (by omega) hgp) ?_
   refine dQ 5 [] rfl (QK _ rfl rfl XC rfl (fun w h=>Z5 hkp hgp h aPk)) ?_
   refine dQ 6 [] rfl (Qi rfl QkL rfl (fun w1 h1=>c19 w1 j (nth (pT j ky m T2.flat) k) hj (hv.keys _ hxf).2)) ?_
   refine dP 7 ?_
   refine dP 8 ?_
   apply Xy 103
   ·exact rfl
   ·intro hg26
    have hs27:=hg26;try simp only [Bool.not_eq_true',decide_eq_false_iff_not] at hs27
    exfalso;have hq:=hg26;simp [hxe] at hq
   intro hg28
   have hs29:=hg28;try simp only [Bool.not_eq_false',decide_eq_true_eq] at hs29
   refine dPo 9 103 hg28 ?_
   refine dPo 10 103 hg28 ?_
   refine dV 11 rfl (Qs rfl rfl hg28 rfl) ?_
   refine dP 12 ?_
   apply Xy 107
   ·exact rfl
   ·intro hg30
    have hs31:=hg30;try simp only [Bool.not_true] at hs31
    exfalso;have hq:=hg30;simp at hq
   intro hg32
   have hs33:=hg32;try simp only [Bool.not_true] at hs33
   refine dQo 13 107 [] hg32 rfl rfl rfl (QfB rfl rfl XC aPk rfl) ?_
   refine dPo 14 107 hg32 ?_
   refine dPo 15 107 hg32 ?_
   refine dVo 16 107 hg32 rfl rfl rfl (Qa rfl rfl rfl QB (k) (by omega) (by omega) hgp) ?_
   refine dQo 17 107 [] hg32 rfl rfl rfl (QK _ rfl rfl XC rfl (fun w h=>Z5 hkp hgp h aPk)) ?_
   refine dVo 18 107 hg32 rfl rfl rfl (Qfi rfl rfl rfl Qix (by rfl) (by rfl) (by rfl)) ?_
   refine dV 19 rfl (Qs rfl rfl hg32 rfl) ?_
   refine dP 20 ?_
   apply Xy 115
   ·exact rfl
   ·intro hg34
    have hs35:=hg34;try simp only [Bool.not_eq_true',Bool.and_eq_false_iff,decide_eq_false_iff_not] at hs35
    exfalso;have hq:=hg34;simp at hq
   intro hg36
   have hs37:=hg36;try simp only [Bool.not_eq_false',Bool.and_eq_true,decide_eq_true_eq] at hs37
   refine dPo 21 115 hg36 ?_
   refine dPo 22 115 hg36 ?_
   refine dPo 23 115 hg36 ?_
   apply Xy 118
   ·exact rfl
   ·intro hg38
    have hs39:=hg38;try simp only [Bool.not_eq_true',decide_eq_false_iff_not] at hs39
    refine dFo 24 118 hg38 ?_
    refine dQo 25 118 [] hg38 rfl rfl rfl (XW rfl rfl Xq aPk rfl) ?_
    refine dPo 26 118 hg38 ?_
    refine dPo 27 118 hg38 ?_
    refine dVo 28 118 hg38 rfl rfl rfl (Qa rfl rfl rfl QB (k) (by omega) (by omega) hgp) ?_
    refine dFo 29 118 hg38 ?_
    refine dQo 30 118 [] hg38 rfl rfl rfl (Qg rfl rfl Zb (fun w h=>Z5 hkp hgp h aPk 0 _ rfl)) ?_
    refine dPo 31 118 hg38 ?_
    refine dQo 32 118 [] hg38 rfl rfl rfl (Qi rfl Qds rfl (fun w1 h1=>c33 w1 j (nth (pT j ky m T2.flat) k).key (Xx ((pT j ky m T2.flat).take k) ky) hj (hv.keys _ hxf).1 (hkK.resolve_left (by have hq:=hg38;simpa using hq)) (hv.keys _ hxf).2 (by have h9:=Qjc hkK;omega))) ?_
    refine dPo 33 118 hg38 ?_
    refine dVo 34 115 hg36 rfl rfl rfl (Qw rfl rfl hg38 rfl) ?_
    refine dV 35 rfl (Qs rfl rfl hg36 rfl) ?_
    refine dNi ?_
    exact Qn (decide (QO (j : Int) (nth (pT j ky m T2.flat) k).key (Xx ((pT j ky m T2.flat).take k) ky) ≤ 0)) (decide_eq_false (by have h9:=hcK.resolve_left (by have hq:=hg38;simpa using hq);omega)) aSx (fun w h=>h.ent aEt)
   intro hg40
   have hs41:=hg40;try simp only [Bool.not_eq_false',decide_eq_true_eq] at hs41
   refine dOf 24 118 hg40 ?_
   refine dOf 25 118 hg40 ?_
   refine dOf 26 118 hg40 ?_
   refine dOf 27 118 hg40 ?_
   refine dOf 28 118 hg40 ?_
   refine dOf 29 118 hg40 ?_
   refine dOf 30 118 hg40 ?_
   refine dOf 31 118 hg40 ?_
   refine dOf 32 118 hg40 ?_
   refine dOf 33 118 hg40 ?_
   refine dVo 34 115 hg36 rfl rfl rfl (Qs rfl rfl hg40 rfl) ?_
   refine dV 35 rfl (Qs rfl rfl hg36 rfl) ?_
   refine dNi ?_
   exact Qn false rfl aSx (fun w h=>h.ent aEt)
  intro z9 hz9
  subst hz9
  refine Qd rfl (fun h42=>?_) fun h42=>?_
  ·skip
   exfalso;simp at h42
  skip
  refine aS ?_
  refine XK [.blk b18 24 4 [.int .i64 (j : Int),.int .i64 mo,.int .i64 rm,.slice gt LN.length ct],.nodes 26 102 gt ct LN,.own (.slice gl (AL).length cl) 26 2 (AL).length ((AL).flatMap TEnt.vals),.own (.slice gp ((pT j ky m T2.flat)).length cp) 26 2 ((pT j ky m T2.flat)).length (((pT j ky m T2.flat)).flatMap TEnt.vals)] [] QH ?_
  refine dP 0 ?_
  refine dP 1 ?_
  refine dP 2 ?_
  refine dV 3 rfl (Qa rfl rfl rfl QB (k) (by omega) (by omega) hgp) ?_
  refine dQ 4 [] rfl (QK _ rfl rfl XC rfl (fun w h=>Z5 hkp hgp h aPk)) ?_
  refine dP 7 ?_
  refine dP 8 ?_
  refine dV 9 rfl (Qa rfl rfl rfl QB (k) (by omega) (by omega) hgp) ?_
  refine dFa 10 ?_
  refine dQ 11 [] rfl (Qg rfl rfl Zb (fun w h=>Z5 hkp hgp h aPk 0 _ rfl)) ?_
  refine dH 5 rfl (Qr (cs:=[_,_]) rfl rfl QB Xm rfl rfl rfl) (fun b43 _=>?_)
  refine dH 6 rfl (QJ (TEnt.vals (nth (pT j ky m T2.flat) k)) rfl rfl rfl QB Tryz.underlying77 Xm rfl aPk (Xv aPk) rfl (ev1 _) (by omega) (by simp only [maxLen];omega)) (fun b44 _=>?_)
  refine dP 12 ?_
  refine dP 13 ?_
  refine dNi ?_
  refine aS ?_
  refine Qj (L':=[(1,_),(2,_),(3,_),(7,_),(8,_),(9,_),(10,_),(11,_),(12,_),(13,_),(15,_),(44,_),(45,_),(46,_),(47,_),(57,_),(58,_),(59,_),(60,_)]) aSx (fun _ h=>h) ?_
  refine aS3 ?_
  try refine oWr ?_
  refine aS2 ?_
  exact QD (k + 1,(b44.1,b44.2)) (by (try simp only []);omega) (by (try simp only []);omega) (by dsimp only;rw [Qi8 SL hkp,QcZ hkp,List.length_append];exact aSx) (fun w h=>by dsimp only;rw [Qi8 SL hkp,List.length_append,List.flatMap_append];simp only [List.flatMap_cons,List.flatMap_nil,List.append_nil];exact h.ent aEt)
 try simp only [dN] at h24
 have hkP : k = (pT j ky m T2.flat).length:=by have hq:=h24;omega
 subst hkP
 have hS2 : (shK SL (pT j ky m T2.flat) (pT j ky m T2.flat).length) = SL ++ (pT j ky m T2.flat):=QnB _ _
 have hK2 : (Xx ((pT j ky m T2.flat).take (pT j ky m T2.flat).length) ky) = Xx (pT j ky m T2.flat) ky:=by rw [List.take_length]
 have hL2 : Lst (j : Int) T2.flat AL (shK SL (pT j ky m T2.flat) (pT j ky m T2.flat).length) (Xx ((pT j ky m T2.flat).take (pT j ky m T2.flat).length) ky):=by rw [hS2,hK2];exact hLs.part (fun x hx=>Qgn (hv.keys x hx).1) hm1
 have hk2:=Qgj (k:=(pT j ky m T2.flat).length) hPk (Nat.le_refl _) hky
 have hSl2 : (shK SL (pT j ky m T2.flat) (pT j ky m T2.flat).length).length ≤ 9 * (i + 1):=by omega
 refine Qu rfl ?_
 refine aS8 ?_
 refine Qd rfl (fun h45=>?_) fun h45=>?_
 ·try simp only [dT] at h45
  have hall : ∀ x ∈ AL,QbU x (shK SL (pT j ky m T2.flat) (pT j ky m T2.flat).length) = 1:=fun x hx=>Qhx hL2.asc (by rw [hS2];exact hLs.done (show (pT j ky m T2.flat).length < m by have hq:=h45;omega) x hx)
  refine Qu rfl ?_
  refine aS6 ?_
  refine QN (α:=Nat) [6,21,22,23,186,187,188,189,190,191,192,193,194,195,196,197,198,199,200,201,202,203,204,205,206,207,208,209,210,211] (fun p=>[(21,.int .i64 (p : Int))]) (fun _=>HS w [] [.own (.slice gl (AL).length cl) 26 2 (AL).length ((AL).flatMap TEnt.vals),.own (.slice gd ((shK SL (pT j ky m T2.flat) (pT j ky m T2.flat).length)).length ge) 26 2 ((shK SL (pT j ky m T2.flat) (pT j ky m T2.flat).length)).length (((shK SL (pT j ky m T2.flat) (pT j ky m T2.flat).length)).flatMap TEnt.vals)]) (fun p=>p ≤ AL.length) (fun p=>AL.length - p) 0 (Nat.zero_le _) aSx (fun w h=>h.ent aEt) (fun p hp1=>?_)
  refine aS8 ?_
  refine Qd rfl (fun h46=>?_) fun h46=>?_
  ·try simp only [dT] at h46
   have hpa : p < AL.length:=by have hq:=h46;omega
   refine QV (fun w h=>Qap (a:=gl) (cap:=cl) (n:=(AL).length) (by omega) h aPk) fun hgx=>?_
   obtain ⟨g_hga,hga,_⟩:=hgx
   iterate 13 refine aS ?_
   refine QN (α:=Nat) [22,23,192,193,194,195,196,197,198,199,200,201,202,203,204,205,206,207,208,209] (fun k=>[(23,.int .i64 (k : Int)),(22,.int .i64 ((QbU (nth AL p) ((shK SL (pT j ky m T2.flat) (pT j ky m T2.flat).length).take k) : Nat) : Int))]) (fun _=>HS w [] [.own (.slice gl (AL).length cl) 26 2 (AL).length ((AL).flatMap TEnt.vals),.own (.slice gd ((shK SL (pT j ky m T2.flat) (pT j ky m T2.flat).length)).length ge) 26 2 ((shK SL (pT j ky m T2.flat) (pT j ky m T2.flat).length)).length (((shK SL (pT j ky m T2.flat) (pT j ky m T2.flat).length)).flatMap TEnt.vals)]) (fun k=>k ≤ (shK SL (pT j ky m T2.flat) (pT j ky m T2.flat).length).length) (fun k=>(shK SL (pT j ky m T2.flat) (pT j ky m T2.flat).length).length - k) 0 (Nat.zero_le _) aSx (fun w h=>h.ent aEt) (fun k hk1=>?_)
   try simp only [] at hk1
   have hcl9:=QjF (x:=nth AL p) ((shK SL (pT j ky m T2.flat) (pT j ky m T2.flat).length).take k)
   rw [List.length_take] at hcl9
   refine aS8 ?_
   refine Qd rfl (fun h47=>?_) fun h47=>?_
   ·try simp only [dT] at h47
    have hks : k < (shK SL (pT j ky m T2.flat) (pT j ky m T2.flat).length).length:=by have hq:=h47;omega
    refine QV (fun w h=>Qap (a:=gd) (cap:=ge) (n:=((shK SL (pT j ky m T2.flat) (pT j ky m T2.flat).length)).length) (by omega) h aPk) fun hgx=>?_
    obtain ⟨g_hgs,hgs,_⟩:=hgx
    refine aS3 ?_
    refine QE [] QH ?_
    refine dP 0 ?_
    refine dP 1 ?_
    refine dP 2 ?_
    refine dV 3 rfl (Qa rfl rfl rfl QB (k) (by omega) (by omega) hgs) ?_
    refine dQ 4 [] rfl (QK _ rfl rfl XC rfl (fun w h=>Z5 hks hgs h aPk)) ?_
    refine dP 5 ?_
    refine dP 6 ?_
    refine dV 7 rfl (Qa rfl rfl rfl QB (p) (by omega) (by omega) hga) ?_
    refine dQ 8 [] rfl (QK _ rfl rfl XC rfl (fun w h=>Z5 hpa hga h aPk)) ?_
    refine dV 9 rfl (Qj5 rfl rfl rfl Qix (by rfl) (by rfl) (by rfl)) ?_
    refine Ql (show _ = Value.bool (decide (nth (shK SL (pT j ky m T2.flat) (pT j ky m T2.flat).length) k = nth AL p)) from congrArg Value.bool (QnE (fun hq=>by simp only [Bool.and_eq_true,decide_eq_true_eq] at hq;exact QfH hq.1 hq.2.1) fun hq=>by rw [hq];simp)) ?_
    refine dQ 10 [] rfl (Qi rfl Qk5 rfl (fun w1 h1=>c50 w1 (decide (nth (shK SL (pT j ky m T2.flat) (pT j ky m T2.flat).length) k = nth AL p)))) ?_
    refine dP 11 ?_
    try refine dWr ?_
    refine Ql (show _ = Value.int .i64 ((QbU (nth AL p) ((shK SL (pT j ky m T2.flat) (pT j ky m T2.flat).length).take (k + 1)) : Nat) : Int) from by rw [QkH hks,Int.natCast_add];by_cases h9 : nth (shK SL (pT j ky m T2.flat) (pT j ky m T2.flat).length) k = nth AL p;(rw [if_pos h9,decide_eq_true h9];rfl);(rw [if_neg h9,decide_eq_false h9];rfl)) ?_
    refine dP 12 ?_
    refine dNi ?_
    refine aS ?_
    refine Qj (L':=[(1,_),(2,_),(3,_),(7,_),(8,_),(9,_),(10,_),(11,_),(12,_),(13,_),(15,_),(21,_),(22,_),(23,_),(44,_),(45,_),(46,_),(47,_),(57,_),(58,_),(59,_),(60,_),(79,_),(80,_),(81,_),(82,_),(143,_),(144,_),(145,_),(146,_),(186,_),(187,_),(188,_),(189,_)]) aSx (fun _ h=>h) ?_
    refine aS3 ?_
    try refine oWr ?_
    refine aS2 ?_
    exact QD (k + 1) (by omega) (by (try simp only []);omega) aSx (fun w h=>h.ent aEt)
   try simp only [dN] at h47
   have hkA : k = (shK SL (pT j ky m T2.flat) (pT j ky m T2.flat).length).length:=by have hq:=h47;omega
   subst hkA
   rw [List.take_length]
   refine Qu rfl ?_
   refine aS5 ?_
   refine Qd rfl (fun h48=>?_) fun h48=>?_
   ·try simp only [Bool.not_eq_true',decide_eq_false_iff_not] at h48
    exfalso;have hq:=h48;rw [List.take_length,hall _ (Q1 hpa)] at hq;exact hq rfl
   try simp only [Bool.not_eq_false',decide_eq_true_eq] at h48
   refine aS5 ?_
   try refine oWr ?_
   refine aS2 ?_
   exact QD (p + 1) (by omega) (by (try simp only []);omega) aSx (fun w h=>h.ent aEt)
  try simp only [dN] at h46
  refine Qu rfl ?_
  refine aS4 ?_
  exact rT rfl rfl (fun w' h'=>⟨by rfl,h'.below⟩)
 try simp only [dN] at h45
 have hPm9 : (pT j ky m T2.flat).length = m:=by have hq:=h45;omega
 have hcd : Qdy (j : Int) (Xx ((pT j ky m T2.flat).take (pT j ky m T2.flat).length) ky) T2.flat < Qdy (j : Int) ky T2.flat:=by rw [hK2];exact Qks hv.srt (fun x hx=>Qgn (hv.keys x hx).1) hm1 hPm9
 have hcl2 : Qdy (j : Int) (Xx ((pT j ky m T2.flat).take (pT j ky m T2.flat).length) ky) T2.flat ≤ 1080:=Nat.le_trans QdH hfl2
 have hmd:=Qn3 (n:=l.length) (i:=i) hcl2 hcd
 refine aS9 ?_
 refine Qd rfl (fun h49=>?_) fun h49=>?_
 ·try simp only [dT] at h49
  refine Qu rfl ?_
  refine Qj (L':=[(1,_),(2,_),(3,_),(7,_),(8,_),(9,_),(10,_),(11,_),(12,_),(13,_),(15,_),(44,_),(45,_),(46,_),(47,_),(57,_),(58,_),(59,_),(60,_)]) aSx (fun _ h=>h) ?_
  refine aS3 ?_
  try refine oWr ?_
  refine aS2 ?_
  exact QD ((i + 1,(gt,ct),(gl,cl),(gd,ge)),LN,(T2.flat,AL,(shK SL (pT j ky m T2.flat) (pT j ky m T2.flat).length)),(Xx ((pT j ky m T2.flat).take (pT j ky m T2.flat).length) ky)) (by (try simp only []);exact hmd) ⟨hv,hL2,hk2,hSl2,(by (try simp only []);have h9:=hmd;omega),hAl⟩ aSx (fun w h=>h.ent aEt)
 try simp only [dN] at h49
 have hil : i < l.length:=by have hq:=h49;omega
 have hkk:=hslim i hil
 refine aS2 ?_
 refine Qj (L':=[(1,_),(2,_),(3,_),(7,_),(8,_),(9,_),(10,_),(11,_),(12,_),(13,_),(15,_),(44,_),(45,_),(46,_),(47,_),(57,_),(58,_),(59,_),(60,_)]) aSx (fun _ h=>h) ?_
 refine aS3 ?_
 refine o_p (Qa rfl rfl rfl QoQ (i) (by omega) (by omega) (Rw.some hsl (by omega))) rfl ?_
 refine aS ?_
 refine o_q (QY _ rfl rfl XC rfl (QlF hsl (by omega))) rfl ?_
 refine oAl (fun b50 _=>?_) Xm
 refine oSt ?_
 refine aS7 ?_
 refine o_q (Qi rfl QkL rfl (fun w1 h1=>c19 w1 j (nth l i).2 hj hkk)) rfl ?_
 refine aS2 ?_
 refine Qd rfl (fun h51=>?_) fun h51=>?_
 ·try simp only [Bool.not_eq_true',decide_eq_false_iff_not] at h51
  refine Qu rfl ?_
  refine Qj (L':=[(1,_),(2,_),(3,_),(7,_),(8,_),(9,_),(10,_),(11,_),(12,_),(13,_),(15,_),(44,_),(45,_),(46,_),(47,_),(57,_),(58,_),(59,_),(60,_)]) aSx (fun _ h=>h) ?_
  refine aS3 ?_
  try refine oWr ?_
  refine aS2 ?_
  exact QD ((i + 1,(gt,ct),(gl,cl),(gd,ge)),LN,(T2.flat,AL,(shK SL (pT j ky m T2.flat) (pT j ky m T2.flat).length)),(Xx ((pT j ky m T2.flat).take (pT j ky m T2.flat).length) ky)) (by (try simp only []);exact hmd) ⟨hv,hL2,hk2,hSl2,(by (try simp only []);have h9:=hmd;omega),hAl⟩ aSx (fun w h=>h.ent aEt)
 try simp only [Bool.not_eq_false',decide_eq_true_eq] at h51
 have hx0 : X7 (j : Int) (nth l i).2 = 0:=by have hq:=h51;exact hq
 refine aS2 ?_
 refine Qj (L':=[(1,_),(2,_),(3,_),(7,_),(8,_),(9,_),(10,_),(11,_),(12,_),(13,_),(15,_),(18,_),(44,_),(45,_),(46,_),(47,_),(57,_),(58,_),(59,_),(60,_)]) aSx (fun _ h=>h) ?_
 refine aS4 ?_
 refine o_q (Qi rfl Qo7 rfl (fun w1 h1=>c36v w1 j mo rm gt ct LN (nth l i).2.key (HS.nt h1 aPk) hBd2 hj hl0n hv.tok hkk (if_pos (Yo hx0)))) rfl ?_
 refine aS3 ?_
 refine oAl (fun b52 _=>?_) Xm
 refine oSt ?_
 refine aS6 ?_
 refine Qd rfl (fun h53=>?_) fun h53=>?_
 ·skip
  have hfd : (Qb (j : Int) (pln LN) (nth l i).2.key).2.2 = true:=h53
  have hD:=hv.drop hse hfd
  have hmd3:=Qed (n:=l.length) (c:=Qdy (j : Int) ky T2.flat) hil (Nat.le_trans (QdH (co:=(j : Int)) (key:=(Xx ((pT j ky m T2.flat).take (pT j ky m T2.flat).length) ky)) (fl:=(Qt T2.flat (plc (j : Int) T2.flat (nth l i).2.key)))) (hD.2.few hse))
  refine aS ?_
  refine Qj (L':=[(1,_),(2,_),(3,_),(7,_),(8,_),(9,_),(10,_),(11,_),(12,_),(13,_),(15,_),(18,_),(44,_),(45,_),(46,_),(47,_),(57,_),(58,_),(59,_),(60,_)]) aSx (fun _ h=>h) ?_
  refine aS4 ?_
  refine o_h (QP rfl Qrx rfl (fun w1 h1=>c27 w1 j mo rm gt ct LN (nth l i).2.key hj hl0n hBd2 hv.tok (HS.nt h1 aPk) (Yo hx0) hkk hD.1.ok hD.1.filR hD.1.filS)) rfl (fun ⟨⟨gu,cu⟩,LU⟩ hU=>?_)
  refine oSt ?_
  refine aS7 ?_
  refine o_h (QP rfl Qrj rfl (fun w1 h1=>c49 w1 j gl cl AL (nth l i).2.key hj (HS.rw_own ev2 h1 aPk rfl) (by omega) (fun y hy=>hv.keys y (hLs.sub y hy)) (Yo hx0) hkk)) rfl (fun ⟨gn,cn⟩ _=>?_)
  refine aS3 ?_
  refine Qj (L':=[(1,_),(2,_),(3,_),(7,_),(8,_),(9,_),(10,_),(11,_),(12,_),(13,_),(15,_),(44,_),(45,_),(46,_),(47,_),(57,_),(58,_),(59,_),(60,_)]) aSx (fun _ h=>h) ?_
  refine aS3 ?_
  try refine oWr ?_
  refine aS2 ?_
  exact QD ((i + 1,(gu,cu),(gn,cn),(gd,ge)),LU,((Qt T2.flat (plc (j : Int) T2.flat (nth l i).2.key)),(Qdt (j : Int) (nth l i).2.key AL),(shK SL (pT j ky m T2.flat) (pT j ky m T2.flat).length)),(Xx ((pT j ky m T2.flat).take (pT j ky m T2.flat).length) ky)) (by (try simp only []);exact hmd3) ⟨(by show Sv _ _ _ _ (pln LU) _;rw [hU];exact hD.2),(hL2.rem ((hv.has _).1 hfd)),hk2,hSl2,(by (try simp only []);have h9:=hmd3;omega),(Nat.le_trans (QlX AL).length_le hAl)⟩ aSx (fun w h=>h.ent aEt)
 skip
 have hnf : ¬ (Qb (j : Int) (pln LN) (nth l i).2.key).2.2 = true:=by have hq:=h53;simp [hq]
 refine aS ?_
 refine Qj (L':=[(1,_),(2,_),(3,_),(7,_),(8,_),(9,_),(10,_),(11,_),(12,_),(13,_),(15,_),(18,_),(44,_),(45,_),(46,_),(47,_),(57,_),(58,_),(59,_),(60,_)]) aSx (fun _ h=>h) ?_
 refine aS6 ?_
 refine Qd rfl (fun h54=>?_) fun h54=>?_
 ·try simp only [dT] at h54
  have hG:=hv.grow hse (by rw [Qc];have hq:=h54;omega) hx0 hnf
  have hmd4:=Qed (n:=l.length) (c:=Qdy (j : Int) ky T2.flat) hil (Nat.le_trans (QdH (co:=(j : Int)) (key:=(Xx ((pT j ky m T2.flat).take (pT j ky m T2.flat).length) ky)) (fl:=(QI T2.flat (plc (j : Int) T2.flat (nth l i).2.key) (nth l i).2))) (hG.2.few hse))
  refine aS3 ?_
  refine o_h (QP rfl Qpa rfl (fun w1 h1=>c22 w1 j mo rm gt ct LN (nth l i).2 hj hl0n hBd2 hv.tok (HS.nt h1 aPk) (Yo hx0) hkk hG.1)) rfl (fun ⟨⟨gu,cu⟩,LU⟩ hU=>?_)
  refine oSt ?_
  refine aS5 ?_
  try refine oWr ?_
  refine aS2 ?_
  exact QD ((i + 1,(gu,cu),(gl,cl),(gd,ge)),LU,((QI T2.flat (plc (j : Int) T2.flat (nth l i).2.key) (nth l i).2),AL,(shK SL (pT j ky m T2.flat) (pT j ky m T2.flat).length)),(Xx ((pT j ky m T2.flat).take (pT j ky m T2.flat).length) ky)) (by (try simp only []);exact hmd4) ⟨(by show Sv _ _ _ _ (pln LU) _;rw [hU];exact hG.2),(hL2.ins hG.2.srt),hk2,hSl2,(by (try simp only []);have h9:=hmd4;omega),hAl⟩ aSx (fun w h=>h.ent aEt)
 try simp only [dN] at h54
 refine aS5 ?_
 try refine oWr ?_
 refine aS2 ?_
 exact QD ((i + 1,(gt,ct),(gl,cl),(gd,ge)),LN,(T2.flat,AL,(shK SL (pT j ky m T2.flat) (pT j ky m T2.flat).length)),(Xx ((pT j ky m T2.flat).take (pT j ky m T2.flat).length) ky)) (by (try simp only []);exact hmd) ⟨hv,hL2,hk2,hSl2,(by (try simp only []);have h9:=hmd;omega),hAl⟩ aSx (fun w h=>h.ent aEt)
theorem c10 (w : World) (co mo rm : Int) (a : Option Addr) (cap : Nat) (L : List LNd) (al : Option Addr) (ca : Nat) (l : List (Int × TEnt)) (most : Int) (hs : Nt w [] a L) (hsl : Rw QhQ 3 w [] al l) : Calls Tryz.prog 10 #[.agg #[.int .i64 co,.int .i64 mo,.int .i64 rm,.slice a L.length cap],.slice al l.length ca,.int .i64 most] w fun en w'=>en = .returned (.bool true) ∧ Below w.heap.size w w':=by
  by_cases hz : ((YW (pln L) = true ∧ (XP (⟨co,mo,rm,pln L⟩ : Tre)).2 = 0) ∧ (l.length ≤ 20 ∧ (1 ≤ most ∧ most ≤ 9)))
  · obtain ⟨j,rfl,hj⟩:=YF (Ym hz.1.2).1;obtain ⟨m,rfl⟩ : ∃ m : Nat,most = (m : Int):=⟨most.toNat,by omega⟩;exact c10o w j mo rm a cap L al ca l m hs hsl hz.1.1 hz.1.2 hz.2.1 (by omega) (by omega)
  · exact c10z w co mo rm a cap L al ca l most hs hsl hz
end Go.Proofs
