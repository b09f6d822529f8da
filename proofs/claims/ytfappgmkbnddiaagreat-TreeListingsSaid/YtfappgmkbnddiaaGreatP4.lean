/- Contracts of the program's functions, proved by walking them with the rules of the Gx texts; without conditions beyond those that each contract names. -/
import Derived.WalkKit
import Derived.Deep.Draws
import Derived.TacticsIn
import Derived.OrdersIn
import Derived.RangeFuncLeaves
import Derived.Lib.Strings
import Derived.Laws.BytesArg
import Derived.Laws.IdiomStrings
import Derived.Deep.Quiet
import Derived.ProofKit
import Derived.OpenShut
import Derived.Laws.StructEq
import Derived.ChangeKeysEq
import Derived.Laws.Externs
import Derived.Lib.Overlaps
import Derived.Carry
import Derived.Laws.Small
import Derived.Lib.Bytealg
import Derived.Test.YtfappgmkbnddiaaGreatProg
import Derived.KernelRfl
import Derived.Lib.Builder
import Derived.Laws.Pointers
import Derived.RangeFuncRecord
import Derived.Test.YtfappgmkbnddiaaGreatP3
set_option linter.unusedSimpArgs false
set_option linter.unusedVariables false
set_option linter.unusedSectionVars false
namespace Go.Proofs
open Go Go.RowKit Gx
attribute [local irreducible] Go.Calls Gx.S Gx.O Gx.D Gx.OpP Gx.OpQ Gx.OpH
set_option maxRecDepth 20000
theorem Qpq : QT Tryz.prog 39 = true:=by kernel_rfl
theorem Qsk : QT Tryz.prog 88 = true:=by kernel_rfl
theorem Qfb : QT Tryz.prog 84 = true:=by kernel_rfl
theorem c84e (w : World) (co mo rm : Int) (a : Option Addr) (cap : Nat) (L : List LNd) (hs : Nt w [] a L) (hB : Bd (pln L)) (hkl : ∀ i,i < L.length → ∀ x ∈ (nth L i).es,x.key.length ≤ 1000000) (he : ¬ (XP (⟨co,mo,rm,pln L⟩ : Tre)).2 = 0) : Calls Tryz.prog 84 #[.agg #[.int .i64 co,.int .i64 mo,.int .i64 rm,.slice a L.length cap]] w fun en w'=>en = .returned (.tuple #[.pointer none,.int .i64 (XP (⟨co,mo,rm,pln L⟩ : Tre)).2]) ∧ Below w.heap.size w w':=by
 refine enter (args:=[_]) Tryz.func84 Tryz.ntmps84 rfl rfl (HS.refl w []) ?_
 refine aS2 ?_
 refine oBx fun b1 _=>?_
 refine aS7 ?_
 refine o_q (Qi rfl Qpq rfl (fun w1 h1=>c39 w1 co mo rm a cap L (hs.later h1.nil) hB hkl)) rfl ?_
 refine QaU ?_
 refine Qd rfl (fun h2=>?_) fun h2=>?_
 ·try simp only [Bool.not_eq_true',decide_eq_false_iff_not] at h2
  refine aS6 ?_
  exact QM (rs:=[.tmp 2,.tmp 3]) rfl (.tmp rfl (.tmp rfl (.nil))) (fun w' h'=>⟨rfl,h'.below⟩)
 try simp only [Bool.not_eq_false',decide_eq_true_eq] at h2
 exfalso;first | omega | (simp at h2;done) | (simp_all;done)
theorem QnP (w : World) (j : Nat) (mo rm : Int) (a : Option Addr) (cap : Nat) (L : List LNd) (hs : Nt w [] a L) (hB : Bd (pln L)) (hkl : ∀ i,i < L.length → ∀ x ∈ (nth L i).es,x.key.length ≤ 1000000) (h0 : (XP (⟨(j : Int),mo,rm,pln L⟩ : Tre)).2 = 0) : Calls Tryz.prog 84 #[.agg #[.int .i64 (j : Int),.int .i64 mo,.int .i64 rm,.slice a L.length cap]] w fun en w'=>∃ g : Nat × (Nat × Nat) × List LNd,en = .returned (.tuple #[.pointer (some ⟨g.1,0,none⟩),.int .i64 (0)]) ∧ (pln g.2.2 = pln L ∧ g.2.2.length ≤ g.2.1.2 ∧ g.2.1.2 ≤ maxLen) ∧ HS w [] [.blk g.1 112 6 (tbV (j : Int) mo rm (some ⟨g.2.1.1,0,none⟩) (g.2.2).length g.2.1.2),.blk g.2.1.1 102 (g.2.1.2 * 3) ((g.2.2).flatMap LNd.vals),.star ((g.2.2).map (Qk 26))] w':=by
 obtain ⟨hc0,hz0,hl0,hl120,hn0,_,_⟩:=Ym h0
 rw [show ((⟨(j : Int),mo,rm,pln L⟩ : Tre)).ns = pln L from rfl,Qc] at hl0 hl120
 have hj : j ≤ 3:=by obtain ⟨j9,e9,hj9⟩:=YF hc0;have e8 : ((j : Nat) : Int) = (j9 : Int):=e9;omega
 have hT : TOk (j : Int) (pln L):=Yi (t:=(⟨(j : Int),mo,rm,pln L⟩ : Tre)) hn0
 have hmo:=(YH hz0).1
 simp only [] at hmo
 refine enter (args:=[_]) Tryz.func84 Tryz.ntmps84 rfl rfl (HS.refl w []) ?_
 refine aS2 ?_
 refine oBx fun b1 _=>?_
 refine aS7 ?_
 refine o_q (Qi rfl Qpq rfl (fun w1 h1=>c39 w1 (j : Int) mo rm a cap L (hs.later h1.nil) hB hkl)) rfl ?_
 refine QaU ?_
 refine Qd rfl (fun h2=>?_) fun h2=>?_
 ·try simp only [Bool.not_eq_true',decide_eq_false_iff_not] at h2
  exfalso;first | omega | (simp at h2;done) | (simp_all;done)
 try simp only [Bool.not_eq_false',decide_eq_true_eq] at h2
 refine aS4 ?_
 refine o_h (QP rfl Qsk rfl (fun w1 h1=>c88 w1 j mo rm a cap L (hs.later h1.nil) hB hj hl0)) rfl (fun ⟨b9,⟨a9,c9⟩,L9⟩ hF9=>?_)
 dsimp only
 refine aS3 ?_
 exact QM (rs:=[.tmp 2,.tmp 3]) rfl (.tmp rfl (.tmp rfl (.nil))) (fun w' h'=>by obtain ⟨g9,rfl,hl9,hm9,h2⟩:=Qbp (by rw [← Qc,hF9,Qc];exact hl0) h' aPk;exact ⟨(b9,(g9,c9),L9),rfl,⟨hF9,hl9,hm9⟩,h2.ent aEt⟩)
theorem Qox (w : World) (j : Nat) (mo rm : Int) (a : Option Addr) (cap : Nat) (L : List LNd) (key : List UInt8) (hs : Nt w [] a L) (hB : Bd (pln L)) (hkl : ∀ i,i < L.length → ∀ x ∈ (nth L i).es,x.key.length ≤ 1000000) (hkk : key.length ≤ 1000000) (h0 : (XP (⟨(j : Int),mo,rm,pln L⟩ : Tre)).2 = 0) : Calls Tryz.prog 67 #[.agg #[.int .i64 (j : Int),.int .i64 mo,.int .i64 rm,.slice a L.length cap],.string (bs key)] w fun en w'=>∃ g : Nat × (Nat × Nat) × List LNd,en = .returned (.tuple #[.pointer (some ⟨g.1,0,none⟩),.int .i64 (XM (j : Int) key)]) ∧ (pln g.2.2 = pln L ∧ g.2.2.length ≤ g.2.1.2 ∧ g.2.1.2 ≤ maxLen) ∧ HS w [] [.blk g.1 112 6 (tbV (j : Int) mo rm (some ⟨g.2.1.1,0,none⟩) (g.2.2).length g.2.1.2),.blk g.2.1.1 102 (g.2.1.2 * 3) ((g.2.2).flatMap LNd.vals),.star ((g.2.2).map (Qk 26))] w':=by
 obtain ⟨hc0,hz0,hl0,hl120,hn0,_,_⟩:=Ym h0
 rw [show ((⟨(j : Int),mo,rm,pln L⟩ : Tre)).ns = pln L from rfl,Qc] at hl0 hl120
 have hj : j ≤ 3:=by obtain ⟨j9,e9,hj9⟩:=YF hc0;have e8 : ((j : Nat) : Int) = (j9 : Int):=e9;omega
 have hT : TOk (j : Int) (pln L):=Yi (t:=(⟨(j : Int),mo,rm,pln L⟩ : Tre)) hn0
 have hmo:=(YH hz0).1
 simp only [] at hmo
 refine enter (args:=[_,_]) Tryz.func67 Tryz.ntmps67 rfl rfl (HS.refl w []) ?_
 refine aS2 ?_
 refine oBx fun b1 _=>?_
 refine aS6 ?_
 refine o_h (QP rfl Qfb rfl (fun w1 h1=>QnP w1 j mo rm a cap L (hs.later h1.nil) hB hkl h0)) rfl (fun g9 hF9=>?_)
 refine Zp ?_
 refine Qd rfl (fun h2=>?_) fun h2=>?_
 ·try simp only [dT] at h2
  refine aS4 ?_
  refine o_q (Qi rfl QhM rfl (fun w1 h1=>c76 w1 j key hj hkk)) rfl ?_
  refine aS9 ?_
  exact QM (rs:=[.tmp 4,.tmp 5]) rfl (.tmp rfl (.tmp rfl (.nil))) (fun w' h'=>⟨g9,rfl,hF9,h'.ent aEt⟩)
 try simp only [dN] at h2
 exfalso;first | omega | (simp at h2;done) | (simp_all;done)
theorem c57e (w : World) (co mo rm : Int) (a : Option Addr) (cap : Nat) (L : List LNd) (x : TEnt) (hs : Nt w [] a L) (hB : Bd (pln L)) (hkl : ∀ i,i < L.length → ∀ x ∈ (nth L i).es,x.key.length ≤ 1000000) (he : ¬ (XP (⟨co,mo,rm,pln L⟩ : Tre)).2 = 0) : Calls Tryz.prog 57 #[.agg #[.int .i64 co,.int .i64 mo,.int .i64 rm,.slice a L.length cap],.agg #[.string (bs x.key),.string (bs x.val)]] w fun en w'=>en = .returned (.tuple #[.pointer none,.int .i64 (XP (⟨co,mo,rm,pln L⟩ : Tre)).2]) ∧ Below w.heap.size w w':=by
 refine enter (args:=[_,_]) Tryz.func57 Tryz.ntmps57 rfl rfl (HS.refl w []) ?_
 refine aS2 ?_
 refine oBx fun b1 _=>?_
 refine oBx fun b2 _=>?_
 refine aS6 ?_
 refine o_q (Qi rfl Qfb rfl (fun w1 h1=>c84e w1 co mo rm a cap L (hs.later h1.nil) hB hkl he)) rfl ?_
 refine Zp ?_
 refine Qd rfl (fun h3=>?_) fun h3=>?_
 ·try simp only [dT] at h3
  exfalso;first | omega | (simp at h3;done) | (simp_all;done)
 try simp only [dN] at h3
 refine aS8 ?_
 exact QM (rs:=[.tmp 4,.tmp 5]) rfl (.tmp rfl (.tmp rfl (.nil))) (fun w' h'=>⟨rfl,h'.below⟩)
theorem QqA (w : World) (j : Nat) (mo rm : Int) (a : Option Addr) (cap : Nat) (L : List LNd) (x : TEnt) (hs : Nt w [] a L) (hB : Bd (pln L)) (hkl : ∀ i,i < L.length → ∀ x ∈ (nth L i).es,x.key.length ≤ 1000000) (hkk : x.key.length ≤ 1000000) (h0 : (XP (⟨(j : Int),mo,rm,pln L⟩ : Tre)).2 = 0) : Calls Tryz.prog 57 #[.agg #[.int .i64 (j : Int),.int .i64 mo,.int .i64 rm,.slice a L.length cap],.agg #[.string (bs x.key),.string (bs x.val)]] w fun en w'=>∃ g : Nat × (Nat × Nat) × List LNd,en = .returned (.tuple #[.pointer (some ⟨g.1,0,none⟩),.int .i64 (X7 (j : Int) x)]) ∧ (pln g.2.2 = pln L ∧ g.2.2.length ≤ g.2.1.2 ∧ g.2.1.2 ≤ maxLen) ∧ HS w [] [.blk g.1 112 6 (tbV (j : Int) mo rm (some ⟨g.2.1.1,0,none⟩) (g.2.2).length g.2.1.2),.blk g.2.1.1 102 (g.2.1.2 * 3) ((g.2.2).flatMap LNd.vals),.star ((g.2.2).map (Qk 26))] w':=by
 obtain ⟨hc0,hz0,hl0,hl120,hn0,_,_⟩:=Ym h0
 rw [show ((⟨(j : Int),mo,rm,pln L⟩ : Tre)).ns = pln L from rfl,Qc] at hl0 hl120
 have hj : j ≤ 3:=by obtain ⟨j9,e9,hj9⟩:=YF hc0;have e8 : ((j : Nat) : Int) = (j9 : Int):=e9;omega
 have hT : TOk (j : Int) (pln L):=Yi (t:=(⟨(j : Int),mo,rm,pln L⟩ : Tre)) hn0
 have hmo:=(YH hz0).1
 simp only [] at hmo
 refine enter (args:=[_,_]) Tryz.func57 Tryz.ntmps57 rfl rfl (HS.refl w []) ?_
 refine aS2 ?_
 refine oBx fun b1 _=>?_
 refine oBx fun b2 _=>?_
 refine aS6 ?_
 refine o_h (QP rfl Qfb rfl (fun w1 h1=>QnP w1 j mo rm a cap L (hs.later h1.nil) hB hkl h0)) rfl (fun g9 hF9=>?_)
 refine Zp ?_
 refine Qd rfl (fun h3=>?_) fun h3=>?_
 ·try simp only [dT] at h3
  refine aS4 ?_
  refine o_q (Qi rfl Qpe rfl (fun w1 h1=>c91 w1 j x hj hkk)) rfl ?_
  refine aS9 ?_
  exact QM (rs:=[.tmp 4,.tmp 5]) rfl (.tmp rfl (.tmp rfl (.nil))) (fun w' h'=>⟨g9,rfl,hF9,h'.ent aEt⟩)
 try simp only [dN] at h3
 exfalso;first | omega | (simp at h3;done) | (simp_all;done)
theorem QiE : QT Tryz.prog 57 = true:=by kernel_rfl
theorem QoN : QT Tryz.prog 58 = true:=by kernel_rfl
theorem Qpl : QT Tryz.prog 59 = true:=by kernel_rfl
theorem QiF : QT Tryz.prog 67 = true:=by kernel_rfl
theorem Qr2 : QT Tryz.prog 69 = true:=by kernel_rfl
theorem c16e (w : World) (co mo rm : Int) (a : Option Addr) (cap : Nat) (L : List LNd) (x : TEnt) (hs : Nt w [] a L) (hB : Bd (pln L)) (hkl : ∀ i,i < L.length → ∀ x ∈ (nth L i).es,x.key.length ≤ 1000000) (he : ¬ (XP (⟨co,mo,rm,pln L⟩ : Tre)).2 = 0) : Calls Tryz.prog 16 #[.agg #[.int .i64 co,.int .i64 mo,.int .i64 rm,.slice a L.length cap],.agg #[.string (bs x.key),.string (bs x.val)]] w fun en w'=>en = .returned (.tuple #[.agg #[.int .i64 0,.int .i64 0,.int .i64 0,.slice none 0 0],.slice none 0 0,.int .i64 (XP (⟨co,mo,rm,pln L⟩ : Tre)).2]) ∧ Below w.heap.size w w':=by
 refine enter (args:=[_,_]) Tryz.func16 Tryz.ntmps16 rfl rfl (HS.refl w []) ?_
 refine aS2 ?_
 refine oBx fun b1 _=>?_
 refine oBx fun b2 _=>?_
 refine oAl (fun b3 _=>?_) Yq
 refine aS7 ?_
 refine o_q (Qi rfl QiE rfl (fun w1 h1=>c57e w1 co mo rm a cap L x (hs.later h1.nil) hB hkl he)) rfl ?_
 refine Zp ?_
 refine Qd rfl (fun h4=>?_) fun h4=>?_
 ·try simp only [dT] at h4
  exfalso;first | omega | (simp at h4;done) | (simp_all;done)
 try simp only [dN] at h4
 refine aS7 ?_
 refine Qd rfl (fun h5=>?_) fun h5=>?_
 ·try simp only [Bool.not_eq_true',decide_eq_false_iff_not] at h5
  refine aS2 ?_
  refine o_p (Xr (cs:=[_,_,_,_]) rfl rfl QdT Yq rfl) rfl ?_
  refine aS ?_
  refine oSt ?_
  refine aS3 ?_
  exact QM (rs:=[.cell 4 24,.tmp 5,.tmp 6]) rfl (.cell rfl Zk aPk rfl (.tmp rfl (.tmp rfl (.nil)))) (fun w' h'=>⟨rfl,h'.below⟩)
 try simp only [Bool.not_eq_false',decide_eq_true_eq] at h5
 exfalso;first | omega | (simp at h5;done) | (simp_all;done)
theorem c16x (w : World) (j : Nat) (mo rm : Int) (a : Option Addr) (cap : Nat) (L : List LNd) (x : TEnt) (hs : Nt w [] a L) (hB : Bd (pln L)) (hkl : ∀ i,i < L.length → ∀ x ∈ (nth L i).es,x.key.length ≤ 1000000) (hkk : x.key.length ≤ 1000000) (h0 : (XP (⟨(j : Int),mo,rm,pln L⟩ : Tre)).2 = 0) (hx : ¬ X7 (j : Int) x = 0) : Calls Tryz.prog 16 #[.agg #[.int .i64 (j : Int),.int .i64 mo,.int .i64 rm,.slice a L.length cap],.agg #[.string (bs x.key),.string (bs x.val)]] w fun en w'=>en = .returned (.tuple #[.agg #[.int .i64 0,.int .i64 0,.int .i64 0,.slice none 0 0],.slice none 0 0,.int .i64 (X7 (j : Int) x)]) ∧ Below w.heap.size w w':=by
 obtain ⟨hc0,hz0,hl0,hl120,hn0,_,_⟩:=Ym h0
 rw [show ((⟨(j : Int),mo,rm,pln L⟩ : Tre)).ns = pln L from rfl,Qc] at hl0 hl120
 have hj : j ≤ 3:=by obtain ⟨j9,e9,hj9⟩:=YF hc0;have e8 : ((j : Nat) : Int) = (j9 : Int):=e9;omega
 have hT : TOk (j : Int) (pln L):=Yi (t:=(⟨(j : Int),mo,rm,pln L⟩ : Tre)) hn0
 have hmo:=(YH hz0).1
 simp only [] at hmo
 refine enter (args:=[_,_]) Tryz.func16 Tryz.ntmps16 rfl rfl (HS.refl w []) ?_
 refine aS2 ?_
 refine oBx fun b1 _=>?_
 refine oBx fun b2 _=>?_
 refine oAl (fun b3 _=>?_) Yq
 refine aS7 ?_
 refine o_h (QP rfl QiE rfl (fun w1 h1=>QqA w1 j mo rm a cap L x (hs.later h1.nil) hB hkl hkk h0)) rfl (fun ⟨b9,⟨gn9,c9⟩,L9⟩ hF9=>?_)
 dsimp only
 obtain ⟨hL9,hn9,hm9⟩:=hF9
 simp only [] at hL9 hn9 hm9
 have hl9 : L9.length = L.length:=by rw [← Qc L9,hL9,Qc]
 have hB9 : Bd (pln L9):=by rw [hL9];exact hB
 have hT9 : TOk (j : Int) (pln L9):=by rw [hL9];exact hT
 have hK9 : ∀ i,i < L9.length → ∀ y ∈ (nth L9 i).es,QW (j : Int) y.key = true ∧ y.key.length ≤ 1000000:=fun i hi y hy=>Ya hT9 i (by rw [Qc];exact hi) y (by rw [Qh hi];exact hy)
 refine Zp ?_
 refine Qd rfl (fun h4=>?_) fun h4=>?_
 ·try simp only [dT] at h4
  exfalso;first | omega | (simp at h4;done) | (simp_all;done)
 try simp only [dN] at h4
 refine aS7 ?_
 refine Qd rfl (fun h5=>?_) fun h5=>?_
 ·try simp only [Bool.not_eq_true',decide_eq_false_iff_not] at h5
  refine aS2 ?_
  refine o_p (Xr (cs:=[_,_,_,_]) rfl rfl QdT Yq rfl) rfl ?_
  refine aS ?_
  refine oSt ?_
  refine aS3 ?_
  exact QM (rs:=[.cell 4 24,.tmp 5,.tmp 6]) rfl (.cell rfl Zk aPk rfl (.tmp rfl (.tmp rfl (.nil)))) (fun w' h'=>⟨rfl,h'.below⟩)
 try simp only [Bool.not_eq_false',decide_eq_true_eq] at h5
 exfalso;first | omega | (simp at h5;done) | (simp_all;done)
theorem c16c (w : World) (j : Nat) (mo rm : Int) (a : Option Addr) (cap : Nat) (L : List LNd) (x : TEnt) (hs : Nt w [] a L) (hB : Bd (pln L)) (hkl : ∀ i,i < L.length → ∀ x ∈ (nth L i).es,x.key.length ≤ 1000000) (h0 : (XP (⟨(j : Int),mo,rm,pln L⟩ : Tre)).2 = 0) (hkk : x.key.length ≤ 1000000) (hx0 : X7 (j : Int) x = 0) (hins : ¬ (Qb (j : Int) (pln L) x.key).2.2 = true → InsOk (j : Int) mo rm (pln L) x) (hx : ¬ (Qdx (j : Int) mo rm (pln L) x) = 0) : Calls Tryz.prog 16 #[.agg #[.int .i64 (j : Int),.int .i64 mo,.int .i64 rm,.slice a L.length cap],.agg #[.string (bs x.key),.string (bs x.val)]] w fun en w'=>en = .returned (.tuple #[.agg #[.int .i64 0,.int .i64 0,.int .i64 0,.slice none 0 0],.slice none 0 0,.int .i64 (Qdx (j : Int) mo rm (pln L) x)]) ∧ Below w.heap.size w w':=by
 obtain ⟨hc0,hz0,hl0,hl120,hn0,_,_⟩:=Ym h0
 rw [show ((⟨(j : Int),mo,rm,pln L⟩ : Tre)).ns = pln L from rfl,Qc] at hl0 hl120
 have hj : j ≤ 3:=by obtain ⟨j9,e9,hj9⟩:=YF hc0;have e8 : ((j : Nat) : Int) = (j9 : Int):=e9;omega
 have hT : TOk (j : Int) (pln L):=Yi (t:=(⟨(j : Int),mo,rm,pln L⟩ : Tre)) hn0
 have hmo:=(YH hz0).1
 simp only [] at hmo
 have hkey : QW (j : Int) x.key = true:=Yo hx0
 refine enter (args:=[_,_]) Tryz.func16 Tryz.ntmps16 rfl rfl (HS.refl w []) ?_
 refine aS2 ?_
 refine oBx fun b1 _=>?_
 refine oBx fun b2 _=>?_
 refine oAl (fun b3 _=>?_) Yq
 refine aS7 ?_
 refine o_h (QP rfl QiE rfl (fun w1 h1=>QqA w1 j mo rm a cap L x (hs.later h1.nil) hB hkl hkk h0)) rfl (fun ⟨b9,⟨gn9,c9⟩,L9⟩ hF9=>?_)
 dsimp only
 obtain ⟨hL9,hn9,hm9⟩:=hF9
 simp only [] at hL9 hn9 hm9
 have hl9 : L9.length = L.length:=by rw [← Qc L9,hL9,Qc]
 have hB9 : Bd (pln L9):=by rw [hL9];exact hB
 have hT9 : TOk (j : Int) (pln L9):=by rw [hL9];exact hT
 have hK9 : ∀ i,i < L9.length → ∀ y ∈ (nth L9 i).es,QW (j : Int) y.key = true ∧ y.key.length ≤ 1000000:=fun i hi y hy=>Ya hT9 i (by rw [Qc];exact hi) y (by rw [Qh hi];exact hy)
 refine Zp ?_
 refine Qd rfl (fun h4=>?_) fun h4=>?_
 ·try simp only [dT] at h4
  refine aS3 ?_
  refine o_h (Q7 (Cs:=[.blk b9 112 6 (tbV (j : Int) mo rm (some ⟨gn9,0,none⟩) (L9).length c9),.blk gn9 102 (c9 * 3) ((L9).flatMap LNd.vals),.star ((L9).map (Qk 26))]) rfl QoN rfl aPs (fun w1 h1 hf=>c58 w1 b9 j mo rm gn9 c9 L9 x hf hn9 hm9 hj (by omega) hB9 hT9 hkey (by rw [hL9];exact hins))) rfl (fun ⟨⟨g5,c5⟩,L5⟩ hF5=>?_)
  dsimp only
  refine Qm (show _ = Value.int .i64 (Qdx (j : Int) mo rm (pln L) x) from by rw [hL9]) ?_
  refine aS8 ?_
  refine Qd rfl (fun h5=>?_) fun h5=>?_
  ·try simp only [Bool.not_eq_true',decide_eq_false_iff_not] at h5
   refine aS2 ?_
   refine o_p (Xr (cs:=[_,_,_,_]) rfl rfl QdT Yq rfl) rfl ?_
   refine aS ?_
   refine oSt ?_
   refine aS3 ?_
   exact QM (rs:=[.cell 4 24,.tmp 5,.tmp 6]) rfl (.cell rfl Zk aPk rfl (.tmp rfl (.tmp rfl (.nil)))) (fun w' h'=>⟨rfl,h'.below⟩)
  try simp only [Bool.not_eq_false',decide_eq_true_eq] at h5
  exfalso;first | omega | (simp at h5;done) | (simp_all;done)
 try simp only [dN] at h4
 exfalso;first | omega | (simp at h4;done) | (simp_all;done)
theorem c16o (w : World) (j : Nat) (mo rm : Int) (a : Option Addr) (cap : Nat) (L : List LNd) (x : TEnt) (hs : Nt w [] a L) (hB : Bd (pln L)) (hkl : ∀ i,i < L.length → ∀ x ∈ (nth L i).es,x.key.length ≤ 1000000) (h0 : (XP (⟨(j : Int),mo,rm,pln L⟩ : Tre)).2 = 0) (hkk : x.key.length ≤ 1000000) (hx0 : X7 (j : Int) x = 0) (hins : ¬ (Qb (j : Int) (pln L) x.key).2.2 = true → InsOk (j : Int) mo rm (pln L) x) (hx : (Qdx (j : Int) mo rm (pln L) x) = 0) (hso : Sm 100000 (Zc (j : Int) mo rm (pln L) x)) : Calls Tryz.prog 16 #[.agg #[.int .i64 (j : Int),.int .i64 mo,.int .i64 rm,.slice a L.length cap],.agg #[.string (bs x.key),.string (bs x.val)]] w fun en w'=>∃ g : ((Nat × Nat) × List LNd) × (Option Addr × Nat),en = .returned (.tuple #[.agg #[.int .i64 (j : Int),.int .i64 mo,.int .i64 rm,.slice (some ⟨g.1.1.1,0,none⟩) g.1.2.length g.1.1.2],.slice g.2.1 (ZU (pln L) (Zc (j : Int) mo rm (pln L) x)).length g.2.2,.int .i64 0]) ∧ pln g.1.2 = (Zc (j : Int) mo rm (pln L) x) ∧ HS w [] [.nodes 26 102 (some ⟨g.1.1.1,0,none⟩) g.1.1.2 g.1.2,.own (.slice g.2.1 ((ZU (pln L) (Zc (j : Int) mo rm (pln L) x))).length g.2.2) 3 1 ((ZU (pln L) (Zc (j : Int) mo rm (pln L) x))).length (((ZU (pln L) (Zc (j : Int) mo rm (pln L) x))).map fun i : Nat=>Value.int .i64 (i : Int))] w':=by
 obtain ⟨hc0,hz0,hl0,hl120,hn0,_,_⟩:=Ym h0
 rw [show ((⟨(j : Int),mo,rm,pln L⟩ : Tre)).ns = pln L from rfl,Qc] at hl0 hl120
 have hj : j ≤ 3:=by obtain ⟨j9,e9,hj9⟩:=YF hc0;have e8 : ((j : Nat) : Int) = (j9 : Int):=e9;omega
 have hT : TOk (j : Int) (pln L):=Yi (t:=(⟨(j : Int),mo,rm,pln L⟩ : Tre)) hn0
 have hmo:=(YH hz0).1
 simp only [] at hmo
 have hkey : QW (j : Int) x.key = true:=Yo hx0
 obtain ⟨hnf,h120⟩:=Qqo hx
 refine enter (args:=[_,_]) Tryz.func16 Tryz.ntmps16 rfl rfl (HS.refl w []) ?_
 refine aS2 ?_
 refine oBx fun b1 _=>?_
 refine oBx fun b2 _=>?_
 refine oAl (fun b3 _=>?_) Yq
 refine aS7 ?_
 refine o_h (QP rfl QiE rfl (fun w1 h1=>QqA w1 j mo rm a cap L x (hs.later h1.nil) hB hkl hkk h0)) rfl (fun ⟨b9,⟨gn9,c9⟩,L9⟩ hF9=>?_)
 dsimp only
 obtain ⟨hL9,hn9,hm9⟩:=hF9
 simp only [] at hL9 hn9 hm9
 have hl9 : L9.length = L.length:=by rw [← Qc L9,hL9,Qc]
 have hB9 : Bd (pln L9):=by rw [hL9];exact hB
 have hT9 : TOk (j : Int) (pln L9):=by rw [hL9];exact hT
 have hK9 : ∀ i,i < L9.length → ∀ y ∈ (nth L9 i).es,QW (j : Int) y.key = true ∧ y.key.length ≤ 1000000:=fun i hi y hy=>Ya hT9 i (by rw [Qc];exact hi) y (by rw [Qh hi];exact hy)
 refine Zp ?_
 refine Qd rfl (fun h4=>?_) fun h4=>?_
 ·try simp only [dT] at h4
  refine aS3 ?_
  refine o_h (Q7 (Cs:=[.blk b9 112 6 (tbV (j : Int) mo rm (some ⟨gn9,0,none⟩) (L9).length c9),.blk gn9 102 (c9 * 3) ((L9).flatMap LNd.vals),.star ((L9).map (Qk 26))]) rfl QoN rfl aPs (fun w1 h1 hf=>c58 w1 b9 j mo rm gn9 c9 L9 x hf hn9 hm9 hj (by omega) hB9 hT9 hkey (by rw [hL9];exact hins))) rfl (fun ⟨⟨g5,c5⟩,L5⟩ hF5=>?_)
  dsimp only
  refine Qm (show _ = Value.int .i64 (Qdx (j : Int) mo rm (pln L) x) from by rw [hL9]) ?_
  rw [hL9] at hF5
  obtain ⟨hL5,hn5,hm5⟩:=hF5
  simp only [] at hL5 hn5 hm5
  have hl5 : L5.length = (Zc (j : Int) mo rm (pln L) x).length:=by rw [← hL5,Qc]
  refine aS8 ?_
  refine Qd rfl (fun h5=>?_) fun h5=>?_
  ·try simp only [Bool.not_eq_true',decide_eq_false_iff_not] at h5
   exfalso;first | omega | (simp at h5;done) | (simp_all;done)
  try simp only [Bool.not_eq_false',decide_eq_true_eq] at h5
  refine aS2 ?_
  refine QE [12] QH ?_
  refine dP 0 ?_
  refine dP 1 ?_
  refine dFa 2 ?_
  refine dLn 3 [[]] ?_
  refine dFa 4 ?_
  refine dLd 5 [[11]] ?_
  refine dP 6 ?_
  refine dP 7 ?_
  refine dFa 8 ?_
  refine dFa 9 ?_
  refine dLd 10 [[11]] ?_
  refine dH 11 rfl (QP rfl Qpl rfl (fun w1 h1=>c59 w1 a (some ⟨g5,0,none⟩) cap c5 L L5 (hs.later h1.nil) (HS.nt_at h1 aPk aPk) (by omega) (by omega) (Qo2 hB) (by rw [hL5];exact hso))) (fun ⟨qa,qc⟩ _=>?_)
  refine dBa ?_
  refine dSt 12 ?_ (hl:=(by simp only [Qx,List.length_set,List.length_cons,List.length_nil,List.length_map];omega))
  refine dTu [] ?_
  refine dP 13 ?_
  refine dP 14 ?_
  refine dNi ?_
  exact QM (rs:=[.cell 4 24,.tmp 5,.tmp 6]) rfl (.cell rfl Zk aPk rfl (.tmp rfl (.tmp rfl (.nil)))) (fun w' h'=>⟨(((g5,c5),L5),(qa,qc)),by simp only [Xw];rw [← hL5];rfl,hL5,by rw [← hL5];exact (Qau (h'.ent (Bs:=[.blk g5 102 (c5 * 3) (L5.flatMap LNd.vals),.star (L5.map (Qk 26)),.own (.slice qa ((ZU (pln L) (pln L5))).length qc) 3 1 ((ZU (pln L) (pln L5))).length (((ZU (pln L) (pln L5))).map fun i : Nat=>Value.int .i64 (i : Int))]) aEt) hn5 hm5)⟩)
 try simp only [dN] at h4
 exfalso;first | omega | (simp at h4;done) | (simp_all;done)
theorem c35x (w : World) (j : Nat) (mo rm : Int) (a : Option Addr) (cap : Nat) (L : List LNd) (key : List UInt8) (hs : Nt w [] a L) (hB : Bd (pln L)) (hkl : ∀ i,i < L.length → ∀ x ∈ (nth L i).es,x.key.length ≤ 1000000) (hkk : key.length ≤ 1000000) (h0 : (XP (⟨(j : Int),mo,rm,pln L⟩ : Tre)).2 = 0) (hx : ¬ XM (j : Int) key = 0) : Calls Tryz.prog 35 #[.agg #[.int .i64 (j : Int),.int .i64 mo,.int .i64 rm,.slice a L.length cap],.string (bs key)] w fun en w'=>en = .returned (.tuple #[.slice none 0 0,.bool false,.int .i64 (XM (j : Int) key)]) ∧ Below w.heap.size w w':=by
 obtain ⟨hc0,hz0,hl0,hl120,hn0,_,_⟩:=Ym h0
 rw [show ((⟨(j : Int),mo,rm,pln L⟩ : Tre)).ns = pln L from rfl,Qc] at hl0 hl120
 have hj : j ≤ 3:=by obtain ⟨j9,e9,hj9⟩:=YF hc0;have e8 : ((j : Nat) : Int) = (j9 : Int):=e9;omega
 have hT : TOk (j : Int) (pln L):=Yi (t:=(⟨(j : Int),mo,rm,pln L⟩ : Tre)) hn0
 have hmo:=(YH hz0).1
 simp only [] at hmo
 refine enter (args:=[_,_]) Tryz.func35 Tryz.ntmps35 rfl rfl (HS.refl w []) ?_
 refine aS2 ?_
 refine oBx fun b1 _=>?_
 refine aS8 ?_
 refine o_h (QP rfl QiF rfl (fun w1 h1=>Qox w1 j mo rm a cap L key (hs.later h1.nil) hB hkl hkk h0)) rfl (fun ⟨b9,⟨gn9,c9⟩,L9⟩ hF9=>?_)
 dsimp only
 obtain ⟨hL9,hn9,hm9⟩:=hF9
 simp only [] at hL9 hn9 hm9
 have hl9 : L9.length = L.length:=by rw [← Qc L9,hL9,Qc]
 have hB9 : Bd (pln L9):=by rw [hL9];exact hB
 have hT9 : TOk (j : Int) (pln L9):=by rw [hL9];exact hT
 have hK9 : ∀ i,i < L9.length → ∀ y ∈ (nth L9 i).es,QW (j : Int) y.key = true ∧ y.key.length ≤ 1000000:=fun i hi y hy=>Ya hT9 i (by rw [Qc];exact hi) y (by rw [Qh hi];exact hy)
 refine Zp ?_
 refine Qd rfl (fun h2=>?_) fun h2=>?_
 ·try simp only [Bool.not_eq_true',decide_eq_false_iff_not] at h2
  refine aS7 ?_
  exact QM (rs:=[.tmp 4,.tmp 5,.tmp 6]) rfl (.tmp rfl (.tmp rfl (.tmp rfl (.nil)))) (fun w' h'=>⟨rfl,h'.below⟩)
 try simp only [Bool.not_eq_false',decide_eq_true_eq] at h2
 exfalso;first | omega | (simp at h2;done) | (simp_all;done)
theorem c35o (w : World) (j : Nat) (mo rm : Int) (a : Option Addr) (cap : Nat) (L : List LNd) (key : List UInt8) (hs : Nt w [] a L) (hB : Bd (pln L)) (hkl : ∀ i,i < L.length → ∀ x ∈ (nth L i).es,x.key.length ≤ 1000000) (h0 : (XP (⟨(j : Int),mo,rm,pln L⟩ : Tre)).2 = 0) (hkk : key.length ≤ 1000000) (hx0 : XM (j : Int) key = 0) : Calls Tryz.prog 35 #[.agg #[.int .i64 (j : Int),.int .i64 mo,.int .i64 rm,.slice a L.length cap],.string (bs key)] w fun en w'=>∃ g : Option Addr × Nat,en = .returned (.tuple #[.slice g.1 (Qb (j : Int) (pln L) key).1.length g.2,.bool (Qb (j : Int) (pln L) key).2.2,.int .i64 0]) ∧ True ∧ HS w [] [.own (.slice g.1 ((Qb (j : Int) (pln L) key).1).length g.2) 3 1 ((Qb (j : Int) (pln L) key).1).length (((Qb (j : Int) (pln L) key).1).map fun i : Nat=>Value.int .i64 (i : Int))] w':=by
 obtain ⟨hc0,hz0,hl0,hl120,hn0,_,_⟩:=Ym h0
 rw [show ((⟨(j : Int),mo,rm,pln L⟩ : Tre)).ns = pln L from rfl,Qc] at hl0 hl120
 have hj : j ≤ 3:=by obtain ⟨j9,e9,hj9⟩:=YF hc0;have e8 : ((j : Nat) : Int) = (j9 : Int):=e9;omega
 have hT : TOk (j : Int) (pln L):=Yi (t:=(⟨(j : Int),mo,rm,pln L⟩ : Tre)) hn0
 have hmo:=(YH hz0).1
 simp only [] at hmo
 have hkey : QW (j : Int) key = true:=keyE_ok hx0
 refine enter (args:=[_,_]) Tryz.func35 Tryz.ntmps35 rfl rfl (HS.refl w []) ?_
 refine aS2 ?_
 refine oBx fun b1 _=>?_
 refine aS8 ?_
 refine o_h (QP rfl QiF rfl (fun w1 h1=>Qox w1 j mo rm a cap L key (hs.later h1.nil) hB hkl hkk h0)) rfl (fun ⟨b9,⟨gn9,c9⟩,L9⟩ hF9=>?_)
 dsimp only
 obtain ⟨hL9,hn9,hm9⟩:=hF9
 simp only [] at hL9 hn9 hm9
 have hl9 : L9.length = L.length:=by rw [← Qc L9,hL9,Qc]
 have hB9 : Bd (pln L9):=by rw [hL9];exact hB
 have hT9 : TOk (j : Int) (pln L9):=by rw [hL9];exact hT
 have hK9 : ∀ i,i < L9.length → ∀ y ∈ (nth L9 i).es,QW (j : Int) y.key = true ∧ y.key.length ≤ 1000000:=fun i hi y hy=>Ya hT9 i (by rw [Qc];exact hi) y (by rw [Qh hi];exact hy)
 refine Zp ?_
 refine Qd rfl (fun h2=>?_) fun h2=>?_
 ·try simp only [Bool.not_eq_true',decide_eq_false_iff_not] at h2
  exfalso;first | omega | (simp at h2;done) | (simp_all;done)
 try simp only [Bool.not_eq_false',decide_eq_true_eq] at h2
 refine aS5 ?_
 refine o_h (QP rfl QjW rfl (fun w1 h1=>c68 w1 b9 j mo rm (some ⟨gn9,0,none⟩) c9 L9 key hj (by omega) hB9 hT9 hK9 hkey hkk (HS.nt_at h1 aPk aPk) (HS.tbr h1 aPk))) rfl (fun ⟨pa,pc⟩ _=>?_)
 dsimp only
 rw [hL9]
 iterate 16 refine aS ?_
 exact QM (rs:=[.tmp 4,.tmp 5,.tmp 6]) rfl (.tmp rfl (.tmp rfl (.tmp rfl (.nil)))) (fun w' h'=>⟨(pa,pc),rfl,trivial,(h'.of_kids aPk).ent aEt⟩)
theorem c25o (w : World) (j : Nat) (mo rm : Int) (a : Option Addr) (cap : Nat) (L : List LNd) (key : List UInt8) (hs : Nt w [] a L) (hB : Bd (pln L)) (hkl : ∀ i,i < L.length → ∀ x ∈ (nth L i).es,x.key.length ≤ 1000000) (h0 : (XP (⟨(j : Int),mo,rm,pln L⟩ : Tre)).2 = 0) (hkk : key.length ≤ 1000000) (hx0 : XM (j : Int) key = 0) (hx : (Qb (j : Int) (pln L) key).2.2 = true) (hrm : RemOk mo rm (pln L) (Qb (j : Int) (pln L) key).1 (Qb (j : Int) (pln L) key).2.1) (hso : Sm 100000 (ZD mo rm (pln L) (Qb (j : Int) (pln L) key).1 (Qb (j : Int) (pln L) key).2.1)) (hlo : (ZD mo rm (pln L) (Qb (j : Int) (pln L) key).1 (Qb (j : Int) (pln L) key).2.1).length ≤ 1000) : Calls Tryz.prog 25 #[.agg #[.int .i64 (j : Int),.int .i64 mo,.int .i64 rm,.slice a L.length cap],.string (bs key)] w fun en w'=>∃ g : ((Nat × Nat) × List LNd) × (Option Addr × Nat),en = .returned (.tuple #[.agg #[.int .i64 (j : Int),.int .i64 mo,.int .i64 rm,.slice (some ⟨g.1.1.1,0,none⟩) g.1.2.length g.1.1.2],.slice g.2.1 (ZU (pln L) (ZD mo rm (pln L) (Qb (j : Int) (pln L) key).1 (Qb (j : Int) (pln L) key).2.1)).length g.2.2,.int .i64 0]) ∧ pln g.1.2 = (ZD mo rm (pln L) (Qb (j : Int) (pln L) key).1 (Qb (j : Int) (pln L) key).2.1) ∧ HS w [] [.nodes 26 102 (some ⟨g.1.1.1,0,none⟩) g.1.1.2 g.1.2,.own (.slice g.2.1 ((ZU (pln L) (ZD mo rm (pln L) (Qb (j : Int) (pln L) key).1 (Qb (j : Int) (pln L) key).2.1))).length g.2.2) 3 1 ((ZU (pln L) (ZD mo rm (pln L) (Qb (j : Int) (pln L) key).1 (Qb (j : Int) (pln L) key).2.1))).length (((ZU (pln L) (ZD mo rm (pln L) (Qb (j : Int) (pln L) key).1 (Qb (j : Int) (pln L) key).2.1))).map fun i : Nat=>Value.int .i64 (i : Int))] w':=by
 obtain ⟨hc0,hz0,hl0,hl120,hn0,_,_⟩:=Ym h0
 rw [show ((⟨(j : Int),mo,rm,pln L⟩ : Tre)).ns = pln L from rfl,Qc] at hl0 hl120
 have hj : j ≤ 3:=by obtain ⟨j9,e9,hj9⟩:=YF hc0;have e8 : ((j : Nat) : Int) = (j9 : Int):=e9;omega
 have hT : TOk (j : Int) (pln L):=Yi (t:=(⟨(j : Int),mo,rm,pln L⟩ : Tre)) hn0
 have hmo:=(YH hz0).1
 simp only [] at hmo
 have hkey : QW (j : Int) key = true:=keyE_ok hx0
 refine enter (args:=[_,_]) Tryz.func25 Tryz.ntmps25 rfl rfl (HS.refl w []) ?_
 refine aS2 ?_
 refine oBx fun b1 _=>?_
 refine oAl (fun b2 _=>?_) Yq
 refine aS7 ?_
 refine o_h (QP rfl QiF rfl (fun w1 h1=>Qox w1 j mo rm a cap L key (hs.later h1.nil) hB hkl hkk h0)) rfl (fun ⟨b9,⟨gn9,c9⟩,L9⟩ hF9=>?_)
 dsimp only
 obtain ⟨hL9,hn9,hm9⟩:=hF9
 simp only [] at hL9 hn9 hm9
 have hl9 : L9.length = L.length:=by rw [← Qc L9,hL9,Qc]
 have hB9 : Bd (pln L9):=by rw [hL9];exact hB
 have hT9 : TOk (j : Int) (pln L9):=by rw [hL9];exact hT
 have hK9 : ∀ i,i < L9.length → ∀ y ∈ (nth L9 i).es,QW (j : Int) y.key = true ∧ y.key.length ≤ 1000000:=fun i hi y hy=>Ya hT9 i (by rw [Qc];exact hi) y (by rw [Qh hi];exact hy)
 refine Zp ?_
 refine Qd rfl (fun h3=>?_) fun h3=>?_
 ·try simp only [Bool.not_eq_true',decide_eq_false_iff_not] at h3
  exfalso;first | omega | (simp at h3;done) | (simp_all;done)
 try simp only [Bool.not_eq_false',decide_eq_true_eq] at h3
 refine aS5 ?_
 refine o_h (QP rfl QjW rfl (fun w1 h1=>c68 w1 b9 j mo rm (some ⟨gn9,0,none⟩) c9 L9 key hj (by omega) hB9 hT9 hK9 hkey hkk (HS.nt_at h1 aPk aPk) (HS.tbr h1 aPk))) rfl (fun ⟨pa,pc⟩ _=>?_)
 dsimp only
 rw [hL9]
 iterate 14 refine aS ?_
 refine Qd rfl (fun h4=>?_) fun h4=>?_
 ·try simp only [Bool.not_eq_true'] at h4
  exfalso;first | omega | (simp at h4;done) | (simp_all;done)
 try simp only [Bool.not_eq_false'] at h4
 refine aS6 ?_
 refine o_h (Q7 (Cs:=[.blk b9 112 6 (tbV (j : Int) mo rm (some ⟨gn9,0,none⟩) (L9).length c9),.blk gn9 102 (c9 * 3) ((L9).flatMap LNd.vals),.star ((L9).map (Qk 26)),.kids pa pc (iN (Qb (j : Int) (pln L) key).1)]) rfl Qr2 rfl aPs (fun w1 h1 hf=>c69 w1 b9 j mo rm gn9 c9 L9 (Qb (j : Int) (pln L) key).1 pa pc (Qb (j : Int) (pln L) key).2.1 hf hn9 hm9 (by rw [hL9];exact hrm))) rfl (fun ⟨⟨g5,c5⟩,L5⟩ hF5=>?_)
 refine aS2 ?_
 refine Qj (L':=[(2,_),(4,_),(5,_),(6,_),(7,_)]) aSx (fun _ h=>h) ?_
 dsimp only
 rw [hL9] at hF5
 obtain ⟨hL5,hn5,hm5⟩:=hF5
 simp only [] at hL5 hn5 hm5
 have hl5 : L5.length = (ZD mo rm (pln L) (Qb (j : Int) (pln L) key).1 (Qb (j : Int) (pln L) key).2.1).length:=by rw [← hL5,Qc]
 refine QE [12] QH ?_
 refine dP 0 ?_
 refine dP 1 ?_
 refine dFa 2 ?_
 refine dLn 3 [[]] ?_
 refine dFa 4 ?_
 refine dLd 5 [[11]] ?_
 refine dP 6 ?_
 refine dP 7 ?_
 refine dFa 8 ?_
 refine dFa 9 ?_
 refine dLd 10 [[11]] ?_
 refine dH 11 rfl (QP rfl Qpl rfl (fun w1 h1=>c59 w1 a (some ⟨g5,0,none⟩) cap c5 L L5 (hs.later h1.nil) (HS.nt_at h1 aPk aPk) (by omega) (by omega) (Qo2 hB) (by rw [hL5];exact hso))) (fun ⟨qa,qc⟩ _=>?_)
 refine dBa ?_
 refine dSt 12 ?_ (hl:=(by simp only [Qx,List.length_set,List.length_cons,List.length_nil,List.length_map];omega))
 refine dTu [] ?_
 refine dP 13 ?_
 refine dP 14 ?_
 refine dNi ?_
 exact QM (rs:=[.cell 4 24,.tmp 5,.tmp 6]) rfl (.cell rfl Zk aPk rfl (.tmp rfl (.tmp rfl (.nil)))) (fun w' h'=>⟨(((g5,c5),L5),(qa,qc)),by simp only [Xw];rw [← hL5];rfl,hL5,by rw [← hL5];exact (Qau (h'.ent (Bs:=[.blk g5 102 (c5 * 3) (L5.flatMap LNd.vals),.star (L5.map (Qk 26)),.own (.slice qa ((ZU (pln L) (pln L5))).length qc) 3 1 ((ZU (pln L) (pln L5))).length (((ZU (pln L) (pln L5))).map fun i : Nat=>Value.int .i64 (i : Int))]) aEt) hn5 hm5)⟩)
theorem QrA : QT Tryz.prog 45 = true:=by kernel_rfl
theorem Qr5 : QT Tryz.prog 60 = true:=by kernel_rfl
theorem c45 (w : World) (a : Option Addr) (cap : Nat) (l : List TEnt) (hs : Rw TEnt.vals 2 w [] a l) (hl : l.length ≤ 100000) : Calls Tryz.prog 45 #[.slice a l.length cap] w fun en w'=>∃ g : Option Addr × Nat,en = .returned (.slice g.1 l.length g.2) ∧ True ∧ HS w [] [.own (.slice g.1 l.length g.2) 26 2 l.length (l.flatMap TEnt.vals)] w':=by
 refine enter (args:=[_]) Tryz.func45 Tryz.ntmps45 rfl rfl (HS.refl w []) ?_
 refine aS6 ?_
 refine o_h (Xg rfl QB) rfl (fun b1 _=>?_)
 refine aS ?_
 refine o_h (QJ (l.flatMap TEnt.vals) rfl rfl rfl QB Tryz.underlying77 Xm rfl aPk (fun w h=>Rw.src ev2 hs h) (Qf ev2 _) (Xf ev1 _) (by omega) (by simp only [maxLen];omega)) rfl (fun b2 _=>?_)
 refine aS2 ?_
 exact rT rfl rfl (fun w' h'=>⟨b2,by simp only [Xw,Nat.zero_add],trivial,by have h2:=h';simp only [Nat.zero_add,List.nil_append] at h2;exact h2.ent aEt⟩)
theorem c60 (w : World) (a : Option Addr) (cap : Nat) (l : List Int) (hs : Rw inV 1 w [] a l) (hl : l.length ≤ 100000) : Calls Tryz.prog 60 #[.slice a l.length cap] w fun en w'=>∃ g : Option Addr × Nat,en = .returned (.slice g.1 l.length g.2) ∧ True ∧ HS w [] [.own (.slice g.1 l.length g.2) 3 1 l.length (l.flatMap inV)] w':=by
 refine enter (args:=[_]) Tryz.func60 Tryz.ntmps60 rfl rfl (HS.refl w []) ?_
 refine aS6 ?_
 refine o_h (Xg rfl Qv) rfl (fun b1 _=>?_)
 refine aS ?_
 refine o_h (QJ (l.flatMap inV) rfl rfl rfl Qv Tryz.underlying30 X8 rfl aPk (fun w h=>Rw.src iv1 hs h) (Qf iv1 _) (Xf QbX _) (by omega) (by simp only [maxLen];omega)) rfl (fun b2 _=>?_)
 refine aS2 ?_
 exact rT rfl rfl (fun w' h'=>⟨b2,by simp only [Xw,Nat.zero_add],trivial,by have h2:=h';simp only [Nat.zero_add,List.nil_append] at h2;exact h2.ent aEt⟩)
set_option maxHeartbeats 400000 in
theorem c17 (w : World) (co mo rm : Int) (a : Option Addr) (cap : Nat) (L : List LNd) (hs : Nt w [] a L) (hl : L.length ≤ 1000) (hsm : Sm 1000 (pln L)) : Calls Tryz.prog 17 #[.agg #[.int .i64 co,.int .i64 mo,.int .i64 rm,.slice a L.length cap]] w fun en w'=>∃ g : (Option Addr × Nat) × List LNd,en = .returned (.agg #[.int .i64 co,.int .i64 mo,.int .i64 rm,.slice g.1.1 g.2.length g.1.2]) ∧ pln g.2 = pln L ∧ HS w [] [.nodes 26 102 g.1.1 g.1.2 g.2] w':=by
 refine enter (args:=[_]) Tryz.func17 Tryz.ntmps17 rfl rfl (HS.refl w []) ?_
 refine aS2 ?_
 refine oBx fun b1 _=>?_
 refine oAl (fun b2 _=>?_) Yq
 refine aS9 ?_
 refine o_p (Xr (cs:=[_,_,_,_]) rfl rfl QdT Yq rfl) rfl ?_
 refine oAl (fun b3 _=>?_) Yq
 refine oSt ?_
 refine aS7 ?_
 refine QN (α:=Nat × (Option Addr × Nat) × List LNd) [4,5,13,14,15,16,17,18,19,20,21,22,23,24,25,26,27,28,29,30,31,32,33,34,35,36,37,38] (fun x=>[(4,.int .i64 (x.1 : Int))]) (fun x=>HS w [] [.own (.slice x.2.1.1 (x.2.2).length x.2.1.2) 102 3 (x.2.2).length ((x.2.2).flatMap LNd.vals),.star ((x.2.2).map (Qk 26)),.blk b3 24 4 [.int .i64 co,.int .i64 mo,.int .i64 rm,.slice x.2.1.1 (x.2.2).length x.2.1.2],.blk b2 24 4 [.int .i64 0,.int .i64 0,.int .i64 0,.slice none 0 0],.blk b1 24 4 [.int .i64 co,.int .i64 mo,.int .i64 rm,.slice a L.length cap]]) (fun x=>x.1 ≤ L.length ∧ x.2.2.length = x.1 ∧ pln x.2.2 = (pln L).take x.1) (fun x=>L.length - x.1) (0,(none,0),[]) ⟨Nat.zero_le _,rfl,rfl⟩ aSx (fun w h=>((h.own_nil 102 3).star_nil).ent aEt) (fun ⟨k,⟨ga,gc⟩,D⟩ hx=>?_)
 dsimp only
 obtain ⟨hk1,hk2,hk3⟩:=hx
 simp only [] at hk1 hk2 hk3
 refine aS9 ?_
 refine Qd rfl (fun h4=>?_) fun h4=>?_
 ·try simp only [dT] at h4
  have hkl : k < L.length:=by omega
  have hsk:=hsm k
  rw [Qh hkl] at hsk
  simp only [LNd.pl] at hsk
  refine aS8 ?_
  refine o_p (Qa rfl rfl rfl Qp (k) (by omega) (by omega) (Rw.some hs.1 (by omega))) rfl ?_
  refine o_q (QY _ rfl rfl Xh rfl (Rw.rd hs.1 hkl)) rfl ?_
  refine oAl (fun b5 _=>?_) Xa
  refine oSt ?_
  refine aS ?_
  refine QE [12,14] QH ?_
  refine dFa 0 ?_
  refine dLd 1 [[],[]] ?_
  refine dFa 2 ?_
  refine dLd 3 [[11,10],[]] ?_
  refine dFa 4 ?_
  refine dLd 5 [[9,6],[]] ?_
  refine dFa 7 ?_
  refine dLd 8 [[9],[]] ?_
  refine dH 6 rfl (QP rfl QrA rfl (fun w1 h1=>c45 w1 (nth L k).ea (nth L k).ec (nth L k).es ((hs.es hkl).later h1) (by omega))) (fun b6 _=>?_)
  refine dBa ?_
  refine dH 9 rfl (QP rfl Qr5 rfl (fun w1 h1=>c60 w1 (nth L k).ca (nth L k).cc (nth L k).cs ((hs.cs hkl).later h1) (by omega))) (fun b7 _=>?_)
  refine dBa ?_
  refine dV 10 rfl (Xr (cs:=[_,_,_]) rfl rfl Z8 Xa rfl) ?_
  refine dH 11 rfl (Qr (cs:=[_,_,_]) rfl rfl Qp Xa rfl rfl rfl) (fun b8 _=>?_)
  refine dBa ?_
  refine dH 12 rfl (QJ (LNd.vals (⟨(nth L k).us,b6.1,b6.2,(nth L k).es,b7.1,b7.2,(nth L k).cs⟩ : LNd)) rfl rfl rfl Qp Tryz.underlying22 Xa rfl aPk (Xv aPk) rfl (nv1 _) (by omega) (by simp only [maxLen];omega)) (fun b9 _=>?_)
  refine dTu [14] ?_
  refine dFa 13 ?_
  refine dSt 14 ?_ (hl:=(by simp only [Qx,List.length_set,List.length_cons,List.length_nil,List.length_map];omega))
  refine dTu [] ?_
  refine dNi ?_
  refine aS ?_
  refine Qj (L':=[(0,_),(1,_),(2,_),(3,_),(4,_),(6,_),(7,_),(8,_),(9,_),(10,_),(11,_),(12,_)]) aSx (fun _ h=>h) ?_
  refine aS3 ?_
  try refine oWr ?_
  refine aS2 ?_
  exact QD (k + 1,(b9.1,b9.2),D ++ [⟨(nth L k).us,b6.1,b6.2,(nth L k).es,b7.1,b7.2,(nth L k).cs⟩]) (by (try simp only []);omega) ⟨by (try simp only []);omega,by simp [hk2],QgM hkl hk3 rfl⟩ aSx (fun w h=>by have h2:=HS.sub_app (sub:=Qk 26) (l:=D) (x:=(⟨(nth L k).us,b6.1,b6.2,(nth L k).es,b7.1,b7.2,(nth L k).cs⟩ : LNd)) (HS.star_close (Bs:=[_,_]) (h.ent (Bs:=[.own (.slice b6.1 (nth L k).es.length b6.2) 26 2 (nth L k).es.length ((nth L k).es.flatMap TEnt.vals),.own (.slice b7.1 (nth L k).cs.length b7.2) 3 1 (nth L k).cs.length ((nth L k).cs.flatMap inV),.star (D.map (Qk 26)),.own (.slice b9.1 (D.length + 1) b9.2) 102 3 (D.length + 1) (D.flatMap LNd.vals ++ LNd.vals (⟨(nth L k).us,b6.1,b6.2,(nth L k).es,b7.1,b7.2,(nth L k).cs⟩ : LNd)),.blk b3 24 4 [.int .i64 co,.int .i64 mo,.int .i64 rm,.slice b9.1 (D.length + 1) b9.2],.blk b2 24 4 [.int .i64 0,.int .i64 0,.int .i64 0,.slice none 0 0],.blk b1 24 4 [.int .i64 co,.int .i64 mo,.int .i64 rm,.slice a L.length cap]]) aEt));simp only [List.length_append,List.length_singleton,List.flatMap_append,List.flatMap_singleton];exact h2.ent aEt)
 try simp only [dN] at h4
 obtain rfl : k = L.length:=by omega
 have hD : pln D = pln L:=by rw [hk3,← Qc L,List.take_length]
 refine Qu rfl ?_
 refine aS3 ?_
 refine oSt ?_
 refine aS ?_
 exact QM (rs:=[.cell 2 24]) rfl (.cell rfl Zk aPk rfl (.nil)) (fun w' h'=>⟨((ga,gc),D),by simp only [Xw];rw [hk2];rfl,hD,by have h3:=HS.row_shut (a:=ga) (cap:=gc) (l:=D) (sub:=Qk 26) (t:=102) (sz:=3) (vals:=LNd.vals) (h'.ent (Bs:=[.own (.slice ga D.length gc) 102 3 D.length (D.flatMap LNd.vals),.star (D.map (Qk 26))]) aEt) rfl rfl;exact h3⟩)
theorem Qds : QT Tryz.prog 33 = true:=by kernel_rfl
theorem c23 (w : World) (a b : Option Addr) (c d : Nat) (l m : List Int) (hs : Rw inV 1 w [] a l) (ht : Rw inV 1 w [] b m) (hl : l.length ≤ 100000) (hm : m.length ≤ 100000) : Calls Tryz.prog 23 #[.slice a l.length c,.slice b m.length d] w fun en w'=>en = .returned (.bool (decide (l = m))) ∧ Below w.heap.size w w':=by
 refine enter (args:=[_,_]) Tryz.func23 Tryz.ntmps23 rfl rfl (HS.refl w []) ?_
 iterate 13 refine aS ?_
 refine Qd rfl (fun h1=>?_) fun h1=>?_
 ·try simp only [Bool.not_eq_true',decide_eq_false_iff_not] at h1
  have hn9 : l ≠ m:=fun e=>by have hq:=h1;rw [e] at hq;simp at hq
  refine aS4 ?_
  exact rT rfl rfl (fun w' h'=>⟨by rw [decide_eq_false hn9];rfl,h'.below⟩)
 try simp only [Bool.not_eq_false',decide_eq_true_eq] at h1
 have hlm : l.length = m.length:=by have hq:=h1;omega
 refine aS7 ?_
 refine QN (α:=Nat) [4,5,11,12,13,14,15,16,17,18,19,20,21,22,23,24,25] (fun k=>[(5,.int .i64 (k : Int))]) (fun _=>HS w [] []) (fun k=>k ≤ l.length ∧ ∀ j,j < k → nth l j = nth m j) (fun k=>l.length - k) 0 ⟨Nat.zero_le _,fun j h=>absurd h (Nat.not_lt_zero j)⟩ aSx (fun w h=>h.ent aEt) (fun k hx=>?_)
 obtain ⟨hk1,hk3⟩:=hx
 refine aS8 ?_
 refine Qd rfl (fun h2=>?_) fun h2=>?_
 ·try simp only [dT] at h2
  have hk : k < l.length:=by omega
  have hk2 : k < m.length:=by omega
  refine aS4 ?_
  refine QE [] QH ?_
  refine dP 0 ?_
  refine dP 1 ?_
  refine dV 2 rfl (Qa rfl rfl rfl Qv (k) (by omega) (by omega) (Rw.some hs (by omega))) ?_
  refine dQ 3 [] rfl (Qe rfl rfl Xq ((hs.rdj 0 (by omega) rfl))) ?_
  refine dP 4 ?_
  refine dP 5 ?_
  refine dV 6 rfl (Qa rfl rfl rfl Qv (k) (by omega) (by omega) (Rw.some ht (by omega))) ?_
  refine dQ 7 [] rfl (Qe rfl rfl Xq ((ht.rdj 0 (by omega) rfl))) ?_
  refine dP 8 ?_
  refine dNi ?_
  refine Qd rfl (fun h3=>?_) fun h3=>?_
  ·try simp only [Bool.not_eq_true',decide_eq_false_iff_not] at h3
   have hn9 : l ≠ m:=fun e=>by have hq:=h3;rw [e] at hq;simp at hq
   refine aS4 ?_
   exact rT rfl rfl (fun w' h'=>⟨by rw [decide_eq_false hn9];rfl,h'.below⟩)
  try simp only [Bool.not_eq_false',decide_eq_true_eq] at h3
  have he9 : nth l k = nth m k:=by have hq:=h3;exact hq
  refine aS5 ?_
  try refine oWr ?_
  refine aS2 ?_
  exact QD (k + 1) (by omega) ⟨by omega,fun j hj=>(Nat.lt_or_ge j k).elim (hk3 j) (fun h9=>by obtain rfl : j = k:=(by omega);exact he9)⟩ aSx (fun w h=>h.ent aEt)
 try simp only [dN] at h2
 have hl9 : l = m:=QaH hlm fun j hj=>hk3 j (by omega)
 refine Qu rfl ?_
 refine aS4 ?_
 exact rT rfl rfl (fun w' h'=>⟨by rw [decide_eq_true hl9];rfl,h'.below⟩)
theorem c62 (w : World) (a : Option Addr) (cap : Nat) (l : List TEnt) (i : Nat) (x : TEnt) (hs : Rw TEnt.vals 2 w [] a l) (hl : l.length ≤ 100000) (hi : i ≤ l.length) (hlc : l.length ≤ cap) : Calls Tryz.prog 62 #[.slice a l.length cap,.int .i64 (i : Int),.agg #[.string (bs x.key),.string (bs x.val)]] w fun en w'=>∃ g : Option Addr × Nat,en = .returned (.slice g.1 (QI l i x).length g.2) ∧ True ∧ HS w [] [.own (.slice g.1 (QI l i x).length g.2) 26 2 (QI l i x).length ((QI l i x).flatMap TEnt.vals)] w':=by
 refine enter (args:=[_,_,_]) Tryz.func62 Tryz.ntmps62 rfl rfl (HS.refl w []) ?_
 refine aS2 ?_
 refine oBx fun b1 _=>?_
 refine aS4 ?_
 refine o_h (Xg rfl QB) rfl (fun b2 _=>?_)
 refine aS2 ?_
 refine o_p (QX _ _ 0 i rfl rfl QB rfl ⟨_,_,rfl,rfl⟩ (by omega) (by omega)) rfl ?_
 refine o_h (QJ ((l.take i).flatMap TEnt.vals) rfl rfl rfl QB Tryz.underlying77 Xm rfl aPk (fun w h=>Rw.src ev2 (Qbv (Rw.cut (i:=0) hs hlc) i) h) (by rw [Qf ev2,List.length_take,Nat.min_eq_left hi];first | rfl | omega) (Xf ev1 _) (by omega) (by simp only [maxLen];omega)) rfl (fun b3 _=>?_)
 refine aS3 ?_
 refine QE [3,7] QH ?_
 refine dP 0 ?_
 refine dLn 1 [[2],[3,2]] ?_
 refine dP 4 ?_
 refine dP 5 ?_
 refine dV 6 rfl (QX _ _ i l.length rfl rfl QB ⟨_,_,rfl,rfl⟩ rfl (by omega) (by omega)) ?_
 refine dH 2 rfl (Qr (cs:=[_,_]) rfl rfl QB Xm rfl rfl rfl) (fun b4 _=>?_)
 refine dBa ?_
 refine dH 3 rfl (QJ (TEnt.vals x) rfl rfl rfl QB Tryz.underlying77 Xm rfl aPk (Xv aPk) rfl (ev1 _) (by omega) (by simp only [maxLen];omega)) (fun b5 _=>?_)
 refine dTu [7] ?_
 refine dH 7 rfl (QJ ((l.drop i).flatMap TEnt.vals) rfl rfl rfl QB Tryz.underlying77 Xm rfl aPk (fun w h=>Rw.src ev2 (Rw.cut hs hlc) h) (by rw [Qf ev2,List.length_drop]) (Xf ev1 _) (by omega) (by simp only [maxLen];omega)) (fun b6 _=>?_)
 refine dTu [] ?_
 refine dP 8 ?_
 refine dNi ?_
 exact rT rfl rfl (fun w' h'=>⟨b6,by simp only [Xw];congr 2;rw [YN hi];omega,trivial,by have h2:=h';rw [show 0 + (i - 0) + 1 + (l.length - i) = l.length + 1 by omega,List.nil_append] at h2;rw [YN hi,show (QI l i x).flatMap TEnt.vals = (l.take i).flatMap TEnt.vals ++ TEnt.vals x ++ (l.drop i).flatMap TEnt.vals by simp [QI]];exact h2.ent aEt⟩)
theorem QqZ (w : World) (a : Option Addr) (cap : Nat) (l : List Int) (i : Nat) (x : Int) (hs : Rw inV 1 w [] a l) (hl : l.length ≤ 100000) (hi : i ≤ l.length) (hlc : l.length ≤ cap) : Calls Tryz.prog 101 #[.slice a l.length cap,.int .i64 (i : Int),.int .i64 x] w fun en w'=>∃ g : Option Addr × Nat,en = .returned (.slice g.1 (QI l i x).length g.2) ∧ True ∧ HS w [] [.own (.slice g.1 (QI l i x).length g.2) 3 1 (QI l i x).length ((QI l i x).flatMap inV)] w':=by
 refine enter (args:=[_,_,_]) Tryz.func101 Tryz.ntmps101 rfl rfl (HS.refl w []) ?_
 refine aS6 ?_
 refine o_h (Xg rfl Qv) rfl (fun b1 _=>?_)
 refine aS2 ?_
 refine o_p (QX _ _ 0 i rfl rfl Qv rfl ⟨_,_,rfl,rfl⟩ (by omega) (by omega)) rfl ?_
 refine o_h (QJ ((l.take i).flatMap inV) rfl rfl rfl Qv Tryz.underlying30 X8 rfl aPk (fun w h=>Rw.src iv1 (Qbv (Rw.cut (i:=0) hs hlc) i) h) (by rw [Qf iv1,List.length_take,Nat.min_eq_left hi];first | rfl | omega) (Xf QbX _) (by omega) (by simp only [maxLen];omega)) rfl (fun b2 _=>?_)
 refine aS3 ?_
 refine QE [3,7] QH ?_
 refine dP 0 ?_
 refine dP 1 ?_
 refine dP 4 ?_
 refine dP 5 ?_
 refine dV 6 rfl (QX _ _ i l.length rfl rfl Qv ⟨_,_,rfl,rfl⟩ rfl (by omega) (by omega)) ?_
 refine dH 2 rfl (Qr (cs:=[_]) rfl rfl Qv X8 rfl rfl rfl) (fun b3 _=>?_)
 refine dBa ?_
 refine dH 3 rfl (QJ (inV x) rfl rfl rfl Qv Tryz.underlying30 X8 rfl aPk (Xv aPk) rfl (QbX _) (by omega) (by simp only [maxLen];omega)) (fun b4 _=>?_)
 refine dTu [7] ?_
 refine dH 7 rfl (QJ ((l.drop i).flatMap inV) rfl rfl rfl Qv Tryz.underlying30 X8 rfl aPk (fun w h=>Rw.src iv1 (Rw.cut hs hlc) h) (by rw [Qf iv1,List.length_drop]) (Xf QbX _) (by omega) (by simp only [maxLen];omega)) (fun b5 _=>?_)
 refine dTu [] ?_
 refine dP 8 ?_
 refine dNi ?_
 exact rT rfl rfl (fun w' h'=>⟨b5,by simp only [Xw];congr 2;rw [YN hi];omega,trivial,by have h2:=h';rw [show 0 + (i - 0) + 1 + (l.length - i) = l.length + 1 by omega,List.nil_append] at h2;rw [YN hi,show (QI l i x).flatMap inV = (l.take i).flatMap inV ++ inV x ++ (l.drop i).flatMap inV by simp [QI]];exact h2.ent aEt⟩)
theorem c61 (w : World) (j : Nat) (mo rm : Int) (a : Option Addr) (cap : Nat) (L : List LNd) (i : Nat) (key : List UInt8) (hj : j ≤ 3) (hi : i < L.length) (hs : Nt w [] a L) (hl : L.length ≤ 1000) (hel : (nth L i).es.length ≤ 1000) (hK : ∀ y ∈ (nth L i).es,QW (j : Int) y.key = true ∧ y.key.length ≤ 1000000) (hk : QW (j : Int) key = true) (hkl : key.length ≤ 1000000) : Calls Tryz.prog 61 #[.agg #[.int .i64 (j : Int),.int .i64 mo,.int .i64 rm,.slice a L.length cap],.int .i64 (i : Int),.string (bs key)] w fun en w'=>en = .returned (.tuple #[.int .i64 ((plc (j : Int) (nth L i).es key) : Int),.bool (fnd (j : Int) (nth L i).es key)]) ∧ Below w.heap.size w w':=by
 refine enter (args:=[_,_,_]) Tryz.func61 Tryz.ntmps61 rfl rfl (HS.refl w []) ?_
 refine aS2 ?_
 refine oBx fun b1 _=>?_
 refine aS8 ?_
 refine o_p (Qa rfl rfl rfl Qp (i) (by omega) (by omega) (Rw.some hs.1 (by omega))) rfl ?_
 refine aS ?_
 refine o_q (Qe rfl rfl Xb ((hs.1.rdj 1 hi rfl))) rfl ?_
 refine aS8 ?_
 refine QN (α:=Nat) [9,16,17,18,19,20,21,22,23,24,25,26,27,28,29,30,31,32,33] (fun k=>[(9,.int .i64 (k : Int))]) (fun _=>HS w [] [.blk b1 24 4 [.int .i64 (j : Int),.int .i64 mo,.int .i64 rm,.slice a L.length cap]]) (fun k=>k ≤ (nth L i).es.length ∧ ∀ q,q < k → QO (j : Int) (nth (nth L i).es q).key key < 0) (fun k=>(nth L i).es.length - k) 0 ⟨Nat.zero_le _,fun j h=>absurd h (Nat.not_lt_zero j)⟩ aSx (fun w h=>h.ent aEt) (fun k hx=>?_)
 obtain ⟨hk1,hk3⟩:=hx
 refine aS2 ?_
 refine Xn (α:=Bool) [16,17,18,19,20,21,22,23,24,25,26,27,28,29,30,31] (fun x=>[(31,.bool x)]) (fun _=>HS w [] [.blk b1 24 4 [.int .i64 (j : Int),.int .i64 mo,.int .i64 rm,.slice a L.length cap]]) (fun x=>x = true ↔ (k < (nth L i).es.length ∧ QO (j : Int) (nth (nth L i).es k).key key < 0)) ?_ ?_
 ·skip
  refine QE [] QH ?_
  refine dP 0 ?_
  refine dP 1 ?_
  refine dV 2 rfl (QQ rfl rfl Tryz.underlying77) ?_
  refine dP 3 ?_
  refine dP 4 ?_
  apply Xy 20
  ·exact rfl
  ·intro hg2
   have hs3:=hg2;try simp only [dT] at hs3
   refine dFo 5 20 hg2 ?_
   refine dQo 6 20 [] hg2 rfl rfl rfl (XW rfl rfl Xq aPk rfl) ?_
   refine dPo 7 20 hg2 ?_
   refine dPo 8 20 hg2 ?_
   refine dVo 9 20 hg2 rfl rfl rfl (Qa rfl rfl rfl QB (k) (by omega) (by omega) (Rw.some (hs.es hi) (by omega))) ?_
   refine dFo 10 20 hg2 ?_
   refine dQo 11 20 [] hg2 rfl rfl rfl (Qe rfl rfl Zb (((hs.es hi).rdj 0 (by omega) rfl))) ?_
   refine dPo 12 20 hg2 ?_
   refine dQo 13 20 [] hg2 rfl rfl rfl (Qi rfl Qds rfl (fun w1 h1=>c33 w1 j (nth (nth L i).es k).key key hj (hK _ (Q1 (by omega))).1 hk (hK _ (Q1 (by omega))).2 hkl)) ?_
   refine dPo 14 20 hg2 ?_
   refine dV 15 rfl (Qw rfl rfl hg2 rfl) ?_
   refine dNi ?_
   exact Qn (decide (QO (j : Int) (nth (nth L i).es k).key key < 0)) (by rw [decide_eq_true_eq];omega) aSx (fun w h=>h.ent aEt)
  intro hg4
  have hs5:=hg4;try simp only [dN] at hs5
  refine dOf 5 20 hg4 ?_
  refine dOf 6 20 hg4 ?_
  refine dOf 7 20 hg4 ?_
  refine dOf 8 20 hg4 ?_
  refine dOf 9 20 hg4 ?_
  refine dOf 10 20 hg4 ?_
  refine dOf 11 20 hg4 ?_
  refine dOf 12 20 hg4 ?_
  refine dOf 13 20 hg4 ?_
  refine dOf 14 20 hg4 ?_
  refine dV 15 rfl (Qs rfl rfl hg4 rfl) ?_
  refine dNi ?_
  exact Qn false (by constructor <;> intro h9 <;> first | (cases h9;done) | omega) aSx (fun w h=>h.ent aEt)
 intro x hx
 refine Qd rfl (fun h6=>?_) fun h6=>?_
 ·skip
  obtain ⟨hk5,hk6⟩:=hx.1 (by assumption)
  refine aS5 ?_
  try refine oWr ?_
  refine aS3 ?_
  exact QD (k + 1) (by omega) ⟨by omega,fun q hq=>(Nat.lt_or_ge q k).elim (hk3 q) (fun h9=>by obtain rfl : q = k:=(by omega);exact hk6)⟩ aSx (fun w h=>h.ent aEt)
 skip
 have hno : ¬ (k < (nth L i).es.length ∧ QO (j : Int) (nth (nth L i).es k).key key < 0):=fun h9=>by have h8:=hx.2 h9;simp_all
 have hpk : (plc (j : Int) (nth L i).es key) = k:=Qqa hk1 hk3 hno
 refine Qu rfl ?_
 refine aS ?_
 refine QE [] QH ?_
 refine dP 0 ?_
 refine dP 1 ?_
 refine dP 2 ?_
 refine dV 3 rfl (QQ rfl rfl Tryz.underlying77) ?_
 refine dP 4 ?_
 refine dP 5 ?_
 apply Xy 39
 ·exact rfl
 ·intro hg7
  have hs8:=hg7;try simp only [dT] at hs8
  refine dFo 6 39 hg7 ?_
  refine dQo 7 39 [] hg7 rfl rfl rfl (XW rfl rfl Xq aPk rfl) ?_
  refine dPo 8 39 hg7 ?_
  refine dPo 9 39 hg7 ?_
  refine dVo 10 39 hg7 rfl rfl rfl (Qa rfl rfl rfl QB (k) (by omega) (by omega) (Rw.some (hs.es hi) (by omega))) ?_
  refine dFo 11 39 hg7 ?_
  refine dQo 12 39 [] hg7 rfl rfl rfl (Qe rfl rfl Zb (((hs.es hi).rdj 0 (by omega) rfl))) ?_
  refine dPo 13 39 hg7 ?_
  refine dQo 14 39 [] hg7 rfl rfl rfl (Qi rfl Qds rfl (fun w1 h1=>c33 w1 j (nth (nth L i).es k).key key hj (hK _ (Q1 (by omega))).1 hk (hK _ (Q1 (by omega))).2 hkl)) ?_
  refine dPo 15 39 hg7 ?_
  refine dV 16 rfl (Qw rfl rfl hg7 rfl) ?_
  refine dP 17 ?_
  refine dP 18 ?_
  refine dNi ?_
  exact QM (rs:=[.tmp 6,.tmp 7]) rfl (.tmp rfl (.tmp rfl (.nil))) (fun w' h'=>⟨by simp only [Xw,fnd];rw [hpk];first | (rw [decide_eq_true (show k < (nth L i).es.length by omega)];rfl) | (rw [decide_eq_false (show ¬ k < (nth L i).es.length by omega)];rfl),h'.below⟩)
 intro hg9
 have hs10:=hg9;try simp only [dN] at hs10
 refine dOf 6 39 hg9 ?_
 refine dOf 7 39 hg9 ?_
 refine dOf 8 39 hg9 ?_
 refine dOf 9 39 hg9 ?_
 refine dOf 10 39 hg9 ?_
 refine dOf 11 39 hg9 ?_
 refine dOf 12 39 hg9 ?_
 refine dOf 13 39 hg9 ?_
 refine dOf 14 39 hg9 ?_
 refine dOf 15 39 hg9 ?_
 refine dV 16 rfl (Qs rfl rfl hg9 rfl) ?_
 refine dP 17 ?_
 refine dP 18 ?_
 refine dNi ?_
 exact QM (rs:=[.tmp 6,.tmp 7]) rfl (.tmp rfl (.tmp rfl (.nil))) (fun w' h'=>⟨by simp only [Xw,fnd];rw [hpk];first | (rw [decide_eq_true (show k < (nth L i).es.length by omega)];rfl) | (rw [decide_eq_false (show ¬ k < (nth L i).es.length by omega)];rfl),h'.below⟩)
theorem QjE : QT Tryz.prog 61 = true:=by kernel_rfl
theorem c20 (w : World) (j : Nat) (mo rm : Int) (a : Option Addr) (cap : Nat) (L : List LNd) (key : List UInt8) (hj : j ≤ 3) (h0 : 0 < L.length) (hB : Bd (pln L)) (hT : TOk (j : Int) (pln L)) (hs : Nt w [] a L) (hk : QW (j : Int) key = true) (hkl : key.length ≤ 1000000) : Calls Tryz.prog 20 #[.agg #[.int .i64 (j : Int),.int .i64 mo,.int .i64 rm,.slice a L.length cap],.string (bs key)] w fun en w'=>∃ g : Option Addr × Nat,en = .returned (.tuple #[.slice g.1 (Qb (j : Int) (pln L) key).1.length g.2,.bool (Qb (j : Int) (pln L) key).2.2]) ∧ True ∧ HS w [] [.own (.slice g.1 ((Qb (j : Int) (pln L) key).1).length g.2) 3 1 ((Qb (j : Int) (pln L) key).1).length (((Qb (j : Int) (pln L) key).1).map fun i : Nat=>Value.int .i64 (i : Int))] w':=by
 have hK : ∀ i,i < L.length → ∀ y ∈ (nth L i).es,QW (j : Int) y.key = true ∧ y.key.length ≤ 1000000:=fun i hi y hy=>Ya hT i (by rw [Qc];exact hi) y (by rw [Qh hi];exact hy)
 refine enter (args:=[_,_]) Tryz.func20 Tryz.ntmps20 rfl rfl (HS.refl w []) ?_
 refine aS2 ?_
 refine oBx fun b1 _=>?_
 refine aS9 ?_
 refine o_h (Qr (cs:=[_]) rfl rfl Qv X8 rfl rfl rfl) rfl (fun b2 _=>?_)
 refine aS3 ?_
 refine QN (α:=(Option Addr × Nat) × List Nat × Nat × Nat) [4,5,6,7,8,9,11,12,13,14,15,16,17,18,19,20,21,22,23,24,25,26,27,28,29,30,31,32,33,34,35,36,37,38,39,40,41,42,43] (fun x=>[(7,.slice x.1.1 (x.2.1 ++ [x.2.2.1]).length x.1.2),(6,.int .i64 (x.2.2.1 : Int))]) (fun x=>HS w [] [.own (.slice x.1.1 (x.2.1 ++ [x.2.2.1]).length x.1.2) 3 1 (x.2.1 ++ [x.2.2.1]).length ((x.2.1 ++ [x.2.2.1]).map fun i : Nat=>Value.int .i64 (i : Int)),.blk b1 24 4 [.int .i64 (j : Int),.int .i64 mo,.int .i64 rm,.slice a L.length cap]]) (fun x=>x.2.2.1 < L.length ∧ x.2.1.length + x.2.2.2 = L.length ∧ Gx.Way (pln L) (x.2.2.1 :: x.2.1.reverse) ∧ (Qb (j : Int) (pln L) key) = (x.2.1 ++ (Zo (j : Int) (pln L) key x.2.2.2 x.2.2.1).1,(Zo (j : Int) (pln L) key x.2.2.2 x.2.2.1).2)) (fun x=>x.2.2.2) ((some ⟨b2,0,none⟩,1),[],0,L.length) ⟨h0,by simp,rfl,by rw [Qb,Qc];rfl⟩ aSx (fun w h=>(HS.own_shut (t:=3) (sz:=1) (n:=1) (cap:=1) (h.pick (A:=.blk b2 3 (1 * 1) [.int .i64 0]) aPk) rfl (by decide) (by decide)).ent aEt) (fun ⟨⟨ga,gc⟩,P,i,f⟩ hx=>?_)
 dsimp only
 obtain ⟨hi,hlen,hway,hpath⟩:=hx
 simp only [] at hi hlen hway hpath
 have hwl:=X9 hT (by rw [Qc];exact h0) hway
 simp only [List.length_cons,List.length_reverse,Qc] at hwl
 obtain ⟨f,rfl⟩ : ∃ f9,f = f9 + 1:=⟨f - 1,by omega⟩
 have hni:=Qh hi
 have hle:=hB.len
 rw [Qc] at hle
 have hes9:=hB.es i (by rw [Qc];exact hi)
 have hcs9:=hB.cs i (by rw [Qc];exact hi)
 rw [hni] at hes9 hcs9
 have hPl : (P ++ [i]).length = P.length + 1:=by simp
 refine aS6 ?_
 refine o_q (Qi rfl QjE rfl (fun w1 h1=>c61 w1 j mo rm a cap L i key hj hi (hs.later h1.nil) (by omega) hes9 (hK i hi) hk hkl)) rfl ?_
 refine QaU ?_
 refine QaT 9 19 28 _ _ rfl
  (by
   intro hg3
   have hs4:=hg3;skip
   refine oOn 19 hg3 ?_
   refine aS ?_
   refine oOn 19 hg3 ?_
   refine aS ?_
   refine oOn 19 hg3 ?_
   refine aS ?_
   refine oOn 19 hg3 ?_
   refine o_p (Qa rfl rfl rfl Qp (i) (by omega) (by omega) (Rw.some hs.1 (by omega))) rfl ?_
   refine oOn 19 hg3 ?_
   refine aS ?_
   refine oOn 19 hg3 ?_
   refine o_q (Qe rfl rfl Q8 ((hs.1.rdj 2 hi rfl))) rfl ?_
   refine oOn 19 hg3 ?_
   refine aS ?_
   refine oOn 19 hg3 ?_
   refine aS ?_
   refine o_p (Qs rfl rfl hg3 rfl) rfl ?_
   refine aS ?_
   exact oJn 9 28)
  (by
   intro hg5
   have hs6:=hg5;skip
   refine oOf 19 hg5 ?_
   refine oOf 19 hg5 ?_
   refine oOf 19 hg5 ?_
   refine oOf 19 hg5 ?_
   refine oOf 19 hg5 ?_
   refine oOf 19 hg5 ?_
   refine oOf 19 hg5 ?_
   refine oOf 19 hg5 ?_
   refine o_p (Qw rfl rfl hg5 rfl) rfl ?_
   refine aS ?_
   exact oJn 9 28) ?_
 refine aS ?_
 refine Qd rfl (fun h7=>?_) fun h7=>?_
 ·try simp only [Bool.or_eq_true,decide_eq_true_eq] at h7
  have hst : fnd (j : Int) (nth (pln L) i).es key = true ∨ (nth (pln L) i).cs.length = 0:=by rw [hni];have hq:=h7;first | exact hq | (simp at hq;simpa [LNd.pl] using hq)
  refine aS7 ?_
  exact QM (rs:=[.tmp 4,.tmp 5]) rfl (.tmp rfl (.tmp rfl (.nil))) (fun w' h'=>⟨(ga,gc),by rw [hpath,Qbz hst,hni];rfl,trivial,by rw [hpath,Qbz hst];exact h'.ent aEt⟩)
 try simp only [Bool.or_eq_false_iff,decide_eq_false_iff_not] at h7
 have hst : ¬ (fnd (j : Int) (nth (pln L) i).es key = true ∨ (nth (pln L) i).cs.length = 0):=by rw [hni];have hq:=h7;first | exact hq | (simp at hq;simpa [LNd.pl] using hq)
 have hcl : (nth L i).cs.length = (nth L i).es.length + 1:=by rcases hT.shape i (by rw [Qc];exact hi) with h9 | h9;exact absurd (.inr h9) hst;rw [hni] at h9;exact h9
 have hple:=Qac (j : Int) key (nth L i).es
 have hpk : plc (j : Int) (nth L i).es key < (nth L i).cs.length:=by omega
 have hkid:=Qa7 hT (by rw [Qc];exact hi) (i:=i) (k:=plc (j : Int) (nth L i).es key) (by rw [hni];exact hpk)
 rw [hni,Qc] at hkid
 simp only [LNd.pl] at hkid
 have hway2:=Z4 hway (by rw [Qc];exact hi) (k:=plc (j : Int) (nth L i).es key) (by rw [hni];exact hpk) (by rw [hni];simp only [LNd.pl];omega)
 rw [hni] at hway2
 simp only [LNd.pl] at hway2
 refine aS6 ?_
 refine o_p (Qa rfl rfl rfl Qp (i) (by omega) (by omega) (Rw.some hs.1 (by omega))) rfl ?_
 refine aS ?_
 refine o_q (Qe rfl rfl Q8 ((hs.1.rdj 2 hi rfl))) rfl ?_
 refine aS ?_
 refine o_p (Qa rfl rfl rfl Qv (plc (j : Int) (nth L i).es key) (by omega) (by omega) (Rw.some (hs.cs hi) (by omega))) rfl ?_
 refine o_q (Qe rfl rfl Xq (((hs.cs hi).rdj 0 (i:=plc (j : Int) (nth L i).es key) hpk rfl))) rfl ?_
 refine aS5 ?_
 refine o_h (Qr (cs:=[_]) rfl rfl Qv X8 rfl rfl rfl) rfl (fun b8 _=>?_)
 refine o_h (QJ [_] rfl rfl rfl Qv Tryz.underlying30 X8 rfl aPk (Xv aPk) rfl (by intro u hu;simp only [List.mem_cons,List.mem_nil_iff,or_false] at hu;subst hu;rfl) (by omega) (by simp only [maxLen];omega)) rfl (fun b9 _=>?_)
 refine aS3 ?_
 exact QD ((b9.1,b9.2),P ++ [i],((nth L i).cs.getD (plc (j : Int) (nth L i).es key) 0).toNat,f) (by (try simp only []);omega) ⟨by simp only [];omega,by simp only [List.length_append,List.length_singleton];omega,by simp only [List.reverse_append,List.reverse_singleton,List.singleton_append];exact hway2,by simp only [];rw [hpath,Qe6 hst];simp [hni,LNd.pl]⟩ (by simp only [List.length_append (bs:=[((nth L i).cs.getD (plc (j : Int) (nth L i).es key) 0).toNat]),List.length_singleton];rw [Int.toNat_of_nonneg (by omega)];exact aSx) (fun w h=>by have h2:=h;simp only [List.length_append (bs:=[((nth L i).cs.getD (plc (j : Int) (nth L i).es key) 0).toNat]),List.length_singleton,List.map_append (l₂:=[((nth L i).cs.getD (plc (j : Int) (nth L i).es key) 0).toNat]),List.map_cons,List.map_nil];rw [Int.toNat_of_nonneg (by omega)];exact h2.ent aEt)
theorem Qk9 (w : World) (j : Nat) (mo rm : Int) (a : Option Addr) (cap : Nat) (L : List LNd) (p : Nat) (c : Int) (hp : p < L.length) (hs : Nt w [] a L) (hl : L.length ≤ 1000) (hcl : (nth L p).cs.length ≤ 1000) : Calls Tryz.prog 100 #[.agg #[.int .i64 (j : Int),.int .i64 mo,.int .i64 rm,.slice a L.length cap],.int .i64 (p : Int),.int .i64 c] w fun en w'=>en = .returned (.int .i64 (ixR (nth L p).cs c : Int)) ∧ Below w.heap.size w w':=by
 refine enter (args:=[_,_,_]) Tryz.func100 Tryz.ntmps100 rfl rfl (HS.refl w []) ?_
 refine aS2 ?_
 refine oBx fun b1 _=>?_
 refine aS8 ?_
 refine QN (α:=Nat) [6,7,8,9,10,11,12,13,14,15,16,17,18,19,20,21,22,23,24,25,26,27,28,29,30] (fun k=>[(7,.int .i64 (k : Int))]) (fun _=>HS w [] [.blk b1 24 4 [.int .i64 (j : Int),.int .i64 mo,.int .i64 rm,.slice a L.length cap]]) (fun k=>k ≤ (nth L p).cs.length ∧ ∀ q,q < k → (Y2 (nth L p).cs c).getD q false = false) (fun k=>(nth L p).cs.length - k) 0 ⟨Nat.zero_le _,fun j h=>absurd h (Nat.not_lt_zero j)⟩ aSx (fun w h=>h.ent aEt) (fun k hx=>?_)
 obtain ⟨hk1,hk3⟩:=hx
 refine aS7 ?_
 refine o_p (Qa rfl rfl rfl Qp (p) (by omega) (by omega) (Rw.some hs.1 (by omega))) rfl ?_
 refine aS ?_
 refine o_q (Qe rfl rfl Q8 ((hs.1.rdj 2 hp rfl))) rfl ?_
 refine aS3 ?_
 refine Qd rfl (fun h2=>?_) fun h2=>?_
 ·try simp only [dT] at h2
  have hk : k < (nth L p).cs.length:=by omega
  refine aS8 ?_
  refine o_p (Qa rfl rfl rfl Qp (p) (by omega) (by omega) (Rw.some hs.1 (by omega))) rfl ?_
  refine aS ?_
  refine o_q (Qe rfl rfl Q8 ((hs.1.rdj 2 hp rfl))) rfl ?_
  refine aS ?_
  refine o_p (Qa rfl rfl rfl Qv (k) (by omega) (by omega) (Rw.some (hs.cs hp) (by omega))) rfl ?_
  refine o_q (Qe rfl rfl Xq (((hs.cs hp).rdj 0 (by omega) rfl))) rfl ?_
  refine aS3 ?_
  refine Qd rfl (fun h3=>?_) fun h3=>?_
  ·try simp only [dT] at h3
   have hq9 : c = (nth L p).cs.getD k 0:=(h3).symm
   have hix:=Qb6 (l:=Y2 (nth L p).cs c) (k:=k) (by rw [Yr];omega) hk3 (fun h9=>by rw [Qa9 hk];exact decide_eq_true hq9)
   refine aS5 ?_
   exact rT rfl rfl (fun w' h'=>⟨by simp only [Xw,ixR];rw [hix,if_pos hk],h'.below⟩)
  try simp only [dN] at h3
  have hq9 : ¬ c = (nth L p).cs.getD k 0:=fun e=>h3 e.symm
  refine aS5 ?_
  try refine oWr ?_
  refine aS2 ?_
  exact QD (k + 1) (by omega) ⟨by omega,fun q hq=>(Nat.lt_or_ge q k).elim (hk3 q) (fun h9=>by obtain rfl : q = k:=(by omega);rw [Qa9 hk];exact decide_eq_false hq9)⟩ aSx (fun w h=>h.ent aEt)
 try simp only [dN] at h2
 obtain rfl : k = (nth L p).cs.length:=by omega
 have hix:=Qb6 (l:=Y2 (nth L p).cs c) (k:=(nth L p).cs.length) (by rw [Yr];omega) hk3 (fun h9=>absurd h9 (by rw [Yr];omega))
 refine Qu rfl ?_
 refine aS4 ?_
 exact rT rfl rfl (fun w' h'=>⟨by simp only [Xw,ixR];rw [hix,if_neg (Nat.lt_irrefl _)];rfl,h'.below⟩)
theorem c64 (w : World) (bt : Nat) (j : Nat) (mo rm : Int) (gn cap : Nat) (L : List LNd) (hw : HS w (fps [.blk bt 24 4 [.int .i64 (j : Int),.int .i64 mo,.int .i64 rm,.slice (some ⟨gn,0,none⟩) (L).length cap],.blk gn 102 (cap * 3) ((L).flatMap LNd.vals),.star ((L).map (Qk 26))]) [.blk bt 24 4 [.int .i64 (j : Int),.int .i64 mo,.int .i64 rm,.slice (some ⟨gn,0,none⟩) (L).length cap],.blk gn 102 (cap * 3) ((L).flatMap LNd.vals),.star ((L).map (Qk 26))] w) (hnc : L.length ≤ cap) (hcm : cap ≤ maxLen) (h0 : 0 < L.length) (hl : L.length ≤ 1000) : Calls Tryz.prog 64 #[.pointer (some ⟨bt,0,none⟩)] w fun en w'=>∃ g : (Nat × Nat) × List LNd,en = .returned (.int .i64 ((Xl (pln L)).1 : Int)) ∧ (pln g.2 = (Xl (pln L)).2 ∧ g.2.length ≤ g.1.2 ∧ g.1.2 ≤ maxLen) ∧ HS w (fps [.blk bt 24 4 [.int .i64 (j : Int),.int .i64 mo,.int .i64 rm,.slice (some ⟨gn,0,none⟩) (L).length cap],.blk gn 102 (cap * 3) ((L).flatMap LNd.vals),.star ((L).map (Qk 26))]) [.blk bt 24 4 [.int .i64 (j : Int),.int .i64 mo,.int .i64 rm,.slice (some ⟨g.1.1,0,none⟩) (g.2).length g.1.2],.blk g.1.1 102 (g.1.2 * 3) ((g.2).flatMap LNd.vals),.star ((g.2).map (Qk 26))] w':=by
 have hnl : (pln L).length = L.length:=Qc L
 refine enter (args:=[_]) Tryz.func64 Tryz.ntmps64 rfl rfl hw ?_
 refine Zf ?_
 refine QN (α:=Nat × Nat) [2,3,4,5,6,7,8,9,10,11,12,13,14,15,16,17,18,19,20,21,22,23,24,25,26,27,28,29] (fun x=>[(3,.int .i64 (x.1 : Int))]) (fun _=>HS w (fps [.blk bt 24 4 [.int .i64 (j : Int),.int .i64 mo,.int .i64 rm,.slice (some ⟨gn,0,none⟩) (L).length cap],.blk gn 102 (cap * 3) ((L).flatMap LNd.vals),.star ((L).map (Qk 26))]) [.blk bt 24 4 [.int .i64 (j : Int),.int .i64 mo,.int .i64 rm,.slice (some ⟨gn,0,none⟩) (L).length cap],.blk gn 102 (cap * 3) ((L).flatMap LNd.vals),.star ((L).map (Qk 26))]) (fun x=>(1 ≤ x.1 ∧ x.1 ≤ L.length) ∧ x.1 + x.2 = L.length + 1 ∧ QaR (pln L) x.2 x.1 = (Qcm (pln L))) (fun x=>x.2) (1,L.length) ⟨⟨Nat.le_refl _,h0⟩,by simp only [];omega,by rw [Qcm,hnl]⟩ aSx (fun w h=>h.ent aEt) (fun ⟨i,f⟩ hx=>?_)
 dsimp only
 obtain ⟨⟨hi1,hi2⟩,hf1,hf2⟩:=hx
 simp only [] at hi1 hi2 hf1 hf2
 obtain ⟨f,rfl⟩ : ∃ f9,f = f9 + 1:=⟨f - 1,by omega⟩
 rw [QaR] at hf2
 refine QaU ?_
 refine Qd rfl (fun h1=>?_) fun h1=>?_
 ·try simp only [dT] at h1
  have hil : i < L.length:=by omega
  rw [if_pos (by rw [hnl];exact hil),Qh hil] at hf2
  simp only [LNd.pl] at hf2
  refine Zf ?_
  refine o_p (Qa rfl rfl rfl Qp (i) (by omega) (by omega) rfl) rfl ?_
  refine Qm (show _ = Value.pointer (some ⟨gn,i * 3,none⟩) from by rw [Nat.zero_add]) ?_
  refine aS ?_
  refine o_q (Qg rfl rfl QcQ (fun w h=>HS.nd_cell (i:=i) (by omega) h aPk 0 rfl (by decide))) rfl ?_
  refine aS2 ?_
  refine Qd rfl (fun h2=>?_) fun h2=>?_
  ·try simp only [Bool.not_eq_true'] at h2
   have hus : ¬ (nth L i).us = true:=by have hq:=h2;simp [hq]
   have hf3 : i = (Qcm (pln L)):=by rw [← hf2];exact (if_neg hus).symm
   have hz : (Qcm (pln L)) < (pln L).length:=by rw [← hf3,hnl];exact hil
   refine aS7 ?_
   refine o_p (Xr (cs:=[_,_,_]) rfl rfl Z8 Xa rfl) rfl ?_
   refine o_p (Qa rfl rfl rfl Qp (i) (by omega) (by omega) rfl) rfl ?_
   refine Qm (show _ = Value.pointer (some ⟨gn,i * 3,none⟩) from by rw [Nat.zero_add]) ?_
   refine YE (Q9 rfl rfl rfl Xh rfl aPt (by rw [Qf nv3];show _ + 3 ≤ _;omega) rfl) (fun _ _=>?_)
   refine aS6 ?_
   exact rT rfl rfl (fun w' h'=>by obtain ⟨L9,hS9,hC⟩:=HS.node_fre (i:=i) (gn:=gn) (cap:=cap) hil h' aPk aPk;exact ⟨((gn,cap),L9),by rw [Xl,if_pos hz,← hf3];rfl,⟨by rw [hS9.pl,Xl,if_pos hz,← hf3];rfl,by simp only [];rw [hS9.len];exact hnc,hcm⟩,by simp only [];rw [hS9.len];exact hC.ent aEt⟩)
  try simp only [Bool.not_eq_false'] at h2
  have hus : (nth L i).us = true:=by have hq:=h2;simpa using hq
  have hf4 : QaR (pln L) f (i + 1) = (Qcm (pln L)):=by rw [← hf2];exact (if_pos hus).symm
  refine aS5 ?_
  try refine oWr ?_
  refine aS2 ?_
  exact QD (i + 1,f) (by (try simp only []);omega) ⟨⟨by (try simp only []);omega,by (try simp only []);omega⟩,by (try simp only []);omega,hf4⟩ aSx (fun w h=>h.ent aEt)
 try simp only [dN] at h1
 obtain rfl : i = L.length:=by omega
 rw [if_neg (by rw [hnl];omega)] at hf2
 have hz : ¬ (Qcm (pln L)) < (pln L).length:=by rw [← hf2,hnl];omega
 refine Xd (fun w h=>(HS.own_shut (n:=L.length) (h.ent (Bs:=[.blk gn 102 (cap * 3) (L.flatMap LNd.vals),.star (L.map (Qk 26)),.blk bt 24 4 [.int .i64 (j : Int),.int .i64 mo,.int .i64 rm,.slice (some ⟨gn,0,none⟩) L.length cap]]) aEt) (Qf nv3 L) hnc hcm)) ?_
 refine Qu rfl ?_
 refine aS7 ?_
 refine o_p (Xr (cs:=[_,_,_]) rfl rfl Z8 Xa rfl) rfl ?_
 refine o_h (Qr (cs:=[_,_,_]) rfl rfl Qp Xa rfl rfl rfl) rfl (fun b3 _=>?_)
 refine o_h (QJ [_,_,_] rfl rfl rfl Qp Tryz.underlying22 Xa rfl aPk (Xv aPk) rfl (by intro u hu;simp only [List.mem_cons,List.mem_nil_iff,or_false] at hu;rcases hu with rfl | rfl | rfl <;> rfl) (by omega) (by simp only [maxLen];omega)) rfl (fun b4 _=>?_)
 refine QU (fun w h=>Qap (n:=L.length + 1) (by omega) h aPk) (fun hgn=>?_)
 obtain ⟨⟨ga,gc⟩,hga⟩ : ∃ q : Option Addr × Nat,b4 = q:=⟨_,rfl⟩
 subst hga
 obtain ⟨g9,e9,hn9,hm9⟩:=hgn
 simp only [] at e9 hn9 hm9
 subst e9
 refine QZ (fun w h=>HS.own_at h aPk) ?_
 refine aS2 ?_
 refine YE (Q9 rfl rfl rfl YD rfl aPt (by show 4 ≤ 4;omega) rfl) (fun _ _=>?_)
 refine aS9 ?_
 try refine oWr ?_
 refine aS2 ?_
 exact rT rfl rfl (fun w' h'=>⟨((g9,gc),L ++ [(LNd.fre : LNd)]),by rw [Xl,if_neg hz,hnl];simp only [Xw];congr 2;omega,⟨by rw [Xl,if_neg hz,QfQ];rfl,by simp only [List.length_append,List.length_singleton];exact hn9,hm9⟩,by have h2:=HS.sub_app (sub:=Qk 26) (l:=L) (x:=(LNd.fre : LNd)) (HS.star_close (Bs:=[_,_]) (((h'.ent (Bs:=[.star (L.map (Qk 26)),.blk bt 24 4 [.int .i64 (j : Int),.int .i64 mo,.int .i64 rm,.slice (some ⟨g9,0,none⟩) (L.length + 1) gc],.blk g9 102 (gc * 3) (L.flatMap LNd.vals ++ [.bool true,.slice none 0 0,.slice none 0 0])]) aEt).own_nil 3 1).own_nil 26 2));have e8 : (L ++ [(LNd.fre : LNd)]).flatMap LNd.vals = L.flatMap LNd.vals ++ [.bool true,.slice none 0 0,.slice none 0 0]:=(by rw [List.flatMap_append];rfl);have e7 : (L ++ [(LNd.fre : LNd)]).length = L.length + 1:=(by simp);dsimp only;rw [e8,e7];exact h2.ent aEt⟩)
theorem QoM : QT Tryz.prog 64 = true:=by kernel_rfl
theorem Qd9 : QT Tryz.prog 100 = true:=by kernel_rfl
theorem QgZ : QT Tryz.prog 62 = true:=by kernel_rfl
theorem Qic : QT Tryz.prog 101 = true:=by kernel_rfl
set_option maxHeartbeats 300000 in
theorem c63 (w : World) (bt : Nat) (j : Nat) (mo rm : Int) (gn cap : Nat) (L : List LNd) (p i : Nat) (hw : HS w (fps [.blk bt 24 4 [.int .i64 (j : Int),.int .i64 mo,.int .i64 rm,.slice (some ⟨gn,0,none⟩) (L).length cap],.blk gn 102 (cap * 3) ((L).flatMap LNd.vals),.star ((L).map (Qk 26))]) [.blk bt 24 4 [.int .i64 (j : Int),.int .i64 mo,.int .i64 rm,.slice (some ⟨gn,0,none⟩) (L).length cap],.blk gn 102 (cap * 3) ((L).flatMap LNd.vals),.star ((L).map (Qk 26))] w) (hnc : L.length ≤ cap) (hcm : cap ≤ maxLen) (hok : SpROk mo (pln L) p i) : Calls Tryz.prog 63 #[.pointer (some ⟨bt,0,none⟩),.int .i64 (p : Int),.int .i64 (i : Int)] w fun en w'=>∃ g : (Nat × Nat) × List LNd,en = .returned (.tuple #[]) ∧ (pln g.2 = Qge mo (pln L) p i ∧ g.2.length ≤ g.1.2 ∧ g.1.2 ≤ maxLen) ∧ HS w (fps [.blk bt 24 4 [.int .i64 (j : Int),.int .i64 mo,.int .i64 rm,.slice (some ⟨gn,0,none⟩) (L).length cap],.blk gn 102 (cap * 3) ((L).flatMap LNd.vals),.star ((L).map (Qk 26))]) [.blk bt 24 4 [.int .i64 (j : Int),.int .i64 mo,.int .i64 rm,.slice (some ⟨g.1.1,0,none⟩) (g.2).length g.1.2],.blk g.1.1 102 (g.1.2 * 3) ((g.2).flatMap LNd.vals),.star ((g.2).map (Qk 26))] w':=by
 have hlt0:=hok.lt
 have hln0:=hok.len
 have hpl0:=hok.par
 rw [Qc] at hlt0 hln0 hpl0
 have hmo:=hok.mo0
 have hes0:=hok.es
 have hcs0:=hok.cs
 have hne:=Qod hok.lt hok.us
 have hfn:=Qmz hok.lt hne
 have hfl:=QiY (pln L)
 have hfl2:=QgS (pln L)
 rw [Qc] at hfl2
 have hparE:=hok.parE
 have hparC:=hok.parC
 have hsA:=hok.sm.splRA mo i
 refine enter (args:=[_,_,_]) Tryz.func63 Tryz.ntmps63 rfl rfl hw ?_
 refine aS3 ?_
 refine o_h (Q7 (Cs:=[.blk bt 24 4 [.int .i64 (j : Int),.int .i64 mo,.int .i64 rm,.slice (some ⟨gn,0,none⟩) (L).length cap],.blk gn 102 (cap * 3) ((L).flatMap LNd.vals),.star ((L).map (Qk 26))]) rfl QoM rfl aPs (fun w1 h1 hf=>c64 w1 bt j mo rm gn cap L hf hnc hcm (by omega) (by omega))) rfl (fun ⟨⟨gn1,cap1⟩,L1⟩ hF1=>?_)
 dsimp only
 obtain ⟨hL1,hn1,hm1⟩:=hF1
 simp only [] at hL1 hn1 hm1
 have hl1 : L1.length = (Xl (pln L)).2.length:=by rw [← hL1,Qc]
 have hi1 : i < L1.length:=by omega
 have ho1 : (Xl (pln L)).1 < L1.length:=by omega
 have hN1 : (nth L1 i).pl = nth (pln L) i:=by rw [← Qh hi1,hL1,hfn]
 have hE1 : (nth L1 i).es = (nth (pln L) i).es:=congrArg Nd.es hN1
 have hC1 : (nth L1 i).cs = (nth (pln L) i).cs:=congrArg Nd.cs hN1
 have hsm1 : (QC mo) < (nth L1 i).es.length:=by rw [hE1];exact hes0
 have hsE1:=(hok.sm i).1
 rw [← hE1] at hsE1
 have hsC1:=(hok.sm i).2
 rw [← hC1] at hsC1
 rw [← hC1] at hcs0
 have hxF : nth (Xl (pln L)).2 i = (nth L1 i).pl:=by rw [hfn,hN1]
 refine aS9 ?_
 refine o_p (Qa rfl rfl rfl Qp (i) (by omega) (by omega) rfl) rfl ?_
 refine Qm (show _ = Value.pointer (some ⟨gn1,i * 3,none⟩) from by rw [Nat.zero_add]) ?_
 refine o_q (QK _ rfl rfl Xh rfl (fun w h=>HS.nd_cells hi1 h aPk)) rfl ?_
 refine oAl (fun b1 _=>?_) Xa
 refine oSt ?_
 refine aS8 ?_
 try refine oWr ?_
 refine o_p (YA rfl rfl rfl (by omega) (by omega) (by omega)) rfl ?_
 refine Qm (show _ = Value.int .i64 ((QC mo) : Int) from by unfold QC;congr 1;omega) ?_
 refine aS6 ?_
 refine QU (fun w h=>HS.es_some hi1 (by omega) h aPk) fun hge=>?_
 obtain ⟨ge,hge⟩:=hge
 refine QU (fun w h=>HS.es_room hi1 h aPk) fun hrE=>?_
 refine QU (fun w h=>HS.cs_room hi1 h aPk) fun hrC=>?_
 refine aS ?_
 refine o_p (Qa rfl rfl rfl QB ((QC mo)) (by omega) (by omega) hge) rfl ?_
 refine o_q (QK _ rfl rfl XC rfl (fun w h=>HS.es_rd hi1 hsm1 hge h aPk)) rfl ?_
 refine oAl (fun b2 _=>?_) Xm
 refine oSt ?_
 refine aS2 ?_
 refine XK [.blk bt 24 4 [.int .i64 (j : Int),.int .i64 mo,.int .i64 rm,.slice (some ⟨gn1,0,none⟩) L1.length cap1],.blk gn1 102 (cap1 * 3) (L1.flatMap LNd.vals),.star (L1.map (Qk 26)),.blk b1 102 3 (LNd.vals (nth L1 i)),.blk b2 26 2 (TEnt.vals (nth (nth L1 i).es (QC mo)))] [14] QH ?_
 refine dP 0 ?_
 refine dP 1 ?_
 refine dFa 2 ?_
 refine dLd 3 [[]] ?_
 refine dP 4 ?_
 refine dFa 6 ?_
 refine dLd 7 [[]] ?_
 refine dP 8 ?_
 refine dP 9 ?_
 try refine dWr ?_
 refine dV 10 rfl (QX _ _ ((QC mo) + 1) ((nth L1 i).es.length) rfl rfl QB ⟨_,_,rfl,(by omega)⟩ rfl (by omega) (by omega)) ?_
 refine dH 5 rfl (Xg rfl QB) (fun b3 _=>?_)
 refine dH 11 rfl (QJ (((nth L1 i).es.drop ((QC mo) + 1)).flatMap TEnt.vals) rfl rfl rfl QB Tryz.underlying77 Xm rfl aPk (fun w h=>Rw.src ev2 (Rw.cut (HS.es_row hi1 h aPk) hrE.1) (HS.refl _ [])) (by rw [Qf ev2,List.length_drop]) (Xf ev1 _) (by omega) (by simp only [maxLen];omega)) (fun b4 _=>?_)
 refine dV 12 rfl (Qa rfl rfl rfl Qp ((Xl (pln L)).1) (by omega) (by omega) rfl) ?_
 refine Ql (show _ = Value.pointer (some ⟨gn1,(Xl (pln L)).1 * 3,none⟩) from by rw [Nat.zero_add]) ?_
 refine dFa 13 ?_
 refine dSt 14 ?_ (hl:=(by rw [Qf nv3];show _ + 1 ≤ _;omega))
 refine dTu [] ?_
 refine dNi ?_
 refine aS ?_
 refine Qj (L':=[(0,_),(1,_),(2,_),(6,_),(7,_),(8,_),(9,_)]) aSx (fun _ h=>h) ?_
 refine ZV (fun w h=>HS.es_setN (gn:=gn1) (cap:=cap1) (ea:=b4.1) (ec:=b4.2) (es:=(nth L1 i).es.drop ((QC mo) + 1)) (n:=0 + ((nth L1 i).es.length - ((QC mo) + 1))) (xs:=[] ++ ((nth L1 i).es.drop ((QC mo) + 1)).flatMap TEnt.vals) ho1 (by rw [List.length_drop,Nat.zero_add]) (by rw [List.nil_append]) h aPk aPk aPk) fun L2=>?_
 refine QV (fun w h=>h.1) fun hS2=>?_
 refine Xd (fun w h=>h.2) ?_
 have hi2 : i < L2.length:=by rw [hS2.len];exact hi1
 have hN2 : nth L2 i = nth L1 i:=hS2.other hi1 hne
 refine XK [.blk bt 24 4 [.int .i64 (j : Int),.int .i64 mo,.int .i64 rm,.slice (some ⟨gn1,0,none⟩) L1.length cap1],.blk gn1 102 (cap1 * 3) (L2.flatMap LNd.vals),.star (L2.map (Qk 26)),.blk b1 102 3 (LNd.vals (nth L1 i)),.blk b2 26 2 (TEnt.vals (nth (nth L1 i).es (QC mo)))] [13] QH ?_
 refine dP 0 ?_
 refine dP 1 ?_
 refine dFa 2 ?_
 refine dLd 3 [[]] ?_
 refine dP 4 ?_
 refine dFa 6 ?_
 refine dLd 7 [[]] ?_
 refine dP 8 ?_
 refine dV 9 rfl (QX _ _ 0 (QC mo) rfl rfl QB rfl ⟨_,_,rfl,rfl⟩ (by omega) (by omega)) ?_
 refine dH 5 rfl (Xg rfl QB) (fun b5 _=>?_)
 refine dH 10 rfl (QJ (((nth L1 i).es.take (QC mo)).flatMap TEnt.vals) rfl rfl rfl QB Tryz.underlying77 Xm rfl aPk (fun w h=>Rw.src ev2 (Qbv (Rw.cut (i:=0) (hN2 ▸ HS.es_row hi2 h aPk) hrE.1) (QC mo)) (HS.refl _ [])) (by rw [Qf ev2,List.length_take];omega) (Xf ev1 _) (by omega) (by simp only [maxLen];omega)) (fun b6 _=>?_)
 refine dV 11 rfl (Qa rfl rfl rfl Qp (i) (by omega) (by omega) rfl) ?_
 refine Ql (show _ = Value.pointer (some ⟨gn1,i * 3,none⟩) from by rw [Nat.zero_add]) ?_
 refine dFa 12 ?_
 refine dSt 13 ?_ (hl:=(by rw [Qf nv3];show _ + 1 ≤ _;omega))
 refine dTu [] ?_
 refine dNi ?_
 refine aS4 ?_
 refine Y1 (fun w h=>HS.es_setN (gn:=gn1) (cap:=cap1) (ea:=b6.1) (ec:=b6.2) (es:=(nth L1 i).es.take (QC mo)) (n:=0 + ((QC mo) - 0)) (xs:=[] ++ ((nth L1 i).es.take (QC mo)).flatMap TEnt.vals) hi2 (by rw [List.length_take];omega) (by rw [List.nil_append]) h aPk aPk aPk) fun L3=>?_
 refine QU (fun w h=>h.1) fun hS3=>?_
 refine QZ (fun w h=>h.2) ?_
 have hi3 : i < L3.length:=by rw [hS3.len];exact hi2
 have ho3 : (Xl (pln L)).1 < L3.length:=by rw [hS3.len,hS2.len];exact ho1
 have hcr3 : (nth L3 i).ca = (nth L1 i).ca ∧ (nth L3 i).cc = (nth L1 i).cc ∧ (nth L3 i).cs = (nth L1 i).cs:=by rw [hS3.at_,hN2];exact ⟨rfl,rfl,rfl⟩
 refine aS4 ?_
 refine Qj (L':=[(0,_),(1,_),(2,_),(6,_),(7,_),(8,_),(9,_),(61,_)]) aSx (fun _ h=>h) ?_
 refine Xn (α:=List LNd) [62,63,64,65,66,67,68,69,70,71,72,73,74,75,76,77,78,79,80,81,82,83,84,85,86,87,88,89] (fun _=>[]) (fun x=>HS w (fps [.blk bt 24 4 [.int .i64 (j : Int),.int .i64 mo,.int .i64 rm,.slice (some ⟨gn,0,none⟩) (L).length cap],.blk gn 102 (cap * 3) ((L).flatMap LNd.vals),.star ((L).map (Qk 26))]) [.blk bt 24 4 [.int .i64 (j : Int),.int .i64 mo,.int .i64 rm,.slice (some ⟨gn1,0,none⟩) (x).length cap1],.blk gn1 102 (cap1 * 3) ((x).flatMap LNd.vals),.star ((x).map (Qk 26)),.blk b2 26 2 (TEnt.vals (nth (nth L1 i).es (QC mo)))]) (fun x=>pln x = (splRA mo (pln L) i) ∧ x.length = L1.length) ?_ ?_
 ·skip
  refine Qd rfl (fun h7=>?_) fun h7=>?_
  ·try simp only [dT] at h7
   have hcz : (nth L1 i).cs.length ≠ 0:=by have hq:=h7;omega
   have hsm4 : (QC mo) + 1 ≤ (nth L1 i).cs.length:=by omega
   refine aS ?_
   refine XK [.blk bt 24 4 [.int .i64 (j : Int),.int .i64 mo,.int .i64 rm,.slice (some ⟨gn1,0,none⟩) L1.length cap1],.blk gn1 102 (cap1 * 3) (L3.flatMap LNd.vals),.star (L3.map (Qk 26)),.blk b1 102 3 (LNd.vals (nth L1 i)),.blk b2 26 2 (TEnt.vals (nth (nth L1 i).es (QC mo)))] [14] QH ?_
   refine dP 0 ?_
   refine dP 1 ?_
   refine dFa 2 ?_
   refine dLd 3 [[]] ?_
   refine dP 4 ?_
   refine dFa 6 ?_
   refine dLd 7 [[]] ?_
   refine dP 8 ?_
   refine dP 9 ?_
   try refine dWr ?_
   refine dV 10 rfl (QX _ _ ((QC mo) + 1) ((nth L1 i).cs.length) rfl rfl Qv ⟨_,_,rfl,(by omega)⟩ rfl (by omega) (by omega)) ?_
   refine dH 5 rfl (Xg rfl Qv) (fun b8 _=>?_)
   refine dH 11 rfl (QJ (((nth L1 i).cs.drop ((QC mo) + 1)).flatMap inV) rfl rfl rfl Qv Tryz.underlying30 X8 rfl aPk (fun w h=>Rw.src iv1 (Rw.cut (QaF hcr3 (HS.cs_row hi3 h aPk)) hrC.1) (HS.refl _ [])) (by rw [Qf iv1,List.length_drop]) (Xf QbX _) (by omega) (by simp only [maxLen];omega)) (fun b9 _=>?_)
   refine dV 12 rfl (Qa rfl rfl rfl Qp ((Xl (pln L)).1) (by omega) (by omega) rfl) ?_
   refine Ql (show _ = Value.pointer (some ⟨gn1,(Xl (pln L)).1 * 3,none⟩) from by rw [Nat.zero_add]) ?_
   refine dFa 13 ?_
   refine dSt 14 ?_ (hl:=(by rw [Qf nv3];show _ + 1 ≤ _;omega))
   refine dTu [] ?_
   refine dNi ?_
   refine ZV (fun w h=>HS.cs_setN (gn:=gn1) (cap:=cap1) (ca:=b9.1) (cc:=b9.2) (cs:=(nth L1 i).cs.drop ((QC mo) + 1)) (n:=0 + ((nth L1 i).cs.length - ((QC mo) + 1))) (xs:=[] ++ ((nth L1 i).cs.drop ((QC mo) + 1)).flatMap inV) ho3 (by rw [List.length_drop,Nat.zero_add]) (by rw [List.nil_append]) h aPk aPk aPk) fun L4=>?_
   refine QV (fun w h=>h.1) fun hS4=>?_
   refine Xd (fun w h=>h.2) ?_
   have hi4 : i < L4.length:=by rw [hS4.len];exact hi3
   have hN4 : nth L4 i = nth L3 i:=hS4.other hi3 hne
   have hcr4 : (nth L4 i).ca = (nth L1 i).ca ∧ (nth L4 i).cc = (nth L1 i).cc ∧ (nth L4 i).cs = (nth L1 i).cs:=by rw [hN4];exact hcr3
   refine XK [.blk bt 24 4 [.int .i64 (j : Int),.int .i64 mo,.int .i64 rm,.slice (some ⟨gn1,0,none⟩) L1.length cap1],.blk gn1 102 (cap1 * 3) (L4.flatMap LNd.vals),.star (L4.map (Qk 26)),.blk b1 102 3 (LNd.vals (nth L1 i)),.blk b2 26 2 (TEnt.vals (nth (nth L1 i).es (QC mo)))] [14] QH ?_
   refine dP 0 ?_
   refine dP 1 ?_
   refine dFa 2 ?_
   refine dLd 3 [[]] ?_
   refine dP 4 ?_
   refine dFa 6 ?_
   refine dLd 7 [[]] ?_
   refine dP 8 ?_
   refine dP 9 ?_
   try refine dWr ?_
   refine dV 10 rfl (QX _ _ 0 ((QC mo) + 1) rfl rfl Qv rfl ⟨_,_,rfl,(by omega)⟩ (by omega) (by omega)) ?_
   refine dH 5 rfl (Xg rfl Qv) (fun b10 _=>?_)
   refine dH 11 rfl (QJ (((nth L1 i).cs.take ((QC mo) + 1)).flatMap inV) rfl rfl rfl Qv Tryz.underlying30 X8 rfl aPk (fun w h=>Rw.src iv1 (Qbv (Rw.cut (i:=0) (QaF hcr4 (HS.cs_row hi4 h aPk)) hrC.1) ((QC mo) + 1)) (HS.refl _ [])) (by rw [Qf iv1,List.length_take];omega) (Xf QbX _) (by omega) (by simp only [maxLen];omega)) (fun b11 _=>?_)
   refine dV 12 rfl (Qa rfl rfl rfl Qp (i) (by omega) (by omega) rfl) ?_
   refine Ql (show _ = Value.pointer (some ⟨gn1,i * 3,none⟩) from by rw [Nat.zero_add]) ?_
   refine dFa 13 ?_
   refine dSt 14 ?_ (hl:=(by rw [Qf nv3];show _ + 1 ≤ _;omega))
   refine dTu [] ?_
   refine dNi ?_
   refine ZV (fun w h=>HS.cs_setN (gn:=gn1) (cap:=cap1) (ca:=b11.1) (cc:=b11.2) (cs:=(nth L1 i).cs.take ((QC mo) + 1)) (n:=0 + ((QC mo) + 1 - 0)) (xs:=[] ++ ((nth L1 i).cs.take ((QC mo) + 1)).flatMap inV) hi4 (by rw [List.length_take];omega) (by rw [List.nil_append]) h aPk aPk aPk) fun L5=>?_
   refine QV (fun w h=>h.1) fun hS5=>?_
   refine Xd (fun w h=>h.2) ?_
   exact Qn L5 ⟨by rw [hS5.cs,hS4.cs,hS3.es,hS2.es];exact (Qoz hL1.symm (hL1.symm ▸ hxF) hcz).symm,by rw [hS5.len,hS4.len,hS3.len,hS2.len]⟩ aSx (fun w h=>by rw [hS5.len,hS4.len,hS3.len,hS2.len];exact h.ent aEt)
  try simp only [dN] at h7
  have hcz : (nth L1 i).cs.length = 0:=by have hq:=h7;omega
  refine aS ?_
  exact Qn L3 ⟨by rw [hS3.es,hS2.es];exact (QnJ hL1.symm (hL1.symm ▸ hxF) hcz).symm,by rw [hS3.len,hS2.len]⟩ aSx (fun w h=>by rw [hS3.len,hS2.len];exact h.ent aEt)
 intro LA hx
 obtain ⟨hA,hlA⟩:=hx
 have hpA : p < LA.length:=by omega
 have hNA : (nth LA p).pl = nth (splRA mo (pln L) i) p:=by rw [← Qh hpA,hA]
 have hEA : (nth LA p).es = (nth (splRA mo (pln L) i) p).es:=congrArg Nd.es hNA
 have hCA : (nth LA p).cs = (nth (splRA mo (pln L) i) p).cs:=congrArg Nd.cs hNA
 have hsAE:=(hsA p).1
 have hsAC:=(hsA p).2
 rw [← hEA] at hsAE
 rw [← hCA] at hsAC
 have hparE2 : (ixR (nth (splRA mo (pln L) i) p).cs (i : Int)) ≤ (nth LA p).es.length:=by rw [hEA];exact hparE
 have hparC2 : (ixR (nth (splRA mo (pln L) i) p).cs (i : Int)) + 1 ≤ (nth LA p).cs.length:=by rw [hCA];exact hparC
 refine aS7 ?_
 refine o_q (Qi rfl Qd9 rfl (fun w1 h1=>Qk9 w1 j mo rm (some ⟨gn1,0,none⟩) cap1 LA p (i : Int) hpA (HS.nt_at h1 aPk aPk) (by omega) (by omega))) rfl ?_
 refine Qm (show _ = Value.int .i64 ((ixR (nth (splRA mo (pln L) i) p).cs (i : Int)) : Int) from by rw [hCA]) ?_
 refine aS3 ?_
 refine QE [18] QH ?_
 refine dP 0 ?_
 refine dP 1 ?_
 refine dFa 2 ?_
 refine dLd 3 [[]] ?_
 refine dP 4 ?_
 refine dP 5 ?_
 refine dP 6 ?_
 refine dFa 7 ?_
 refine dLd 8 [[]] ?_
 refine dP 9 ?_
 refine dV 10 rfl (Qa rfl rfl rfl Qp (p) (by omega) (by omega) rfl) ?_
 refine Ql (show _ = Value.pointer (some ⟨gn1,p * 3,none⟩) from by rw [Nat.zero_add]) ?_
 refine dFa 11 ?_
 refine dQ 12 [[]] rfl (Qg rfl rfl Xb (fun w h=>HS.nd_cell hpA h aPk 1 rfl (by decide))) ?_
 refine dP 13 ?_
 refine dLn 14 [[]] ?_
 refine dH 15 rfl (QP rfl QgZ rfl (fun w1 h1=>c62 w1 (nth LA p).ea (nth LA p).ec (nth LA p).es (ixR (nth (splRA mo (pln L) i) p).cs (i : Int)) (nth (nth L1 i).es (QC mo)) (HS.es_row hpA h1 aPk) (by omega) hparE2 (HS.es_room hpA h1 aPk).1)) (fun b12 _=>?_)
 refine dBa ?_
 refine dV 16 rfl (Qa rfl rfl rfl Qp (p) (by omega) (by omega) rfl) ?_
 refine Ql (show _ = Value.pointer (some ⟨gn1,p * 3,none⟩) from by rw [Nat.zero_add]) ?_
 refine dFa 17 ?_
 refine dSt 18 ?_ (hl:=(by rw [Qf nv3];show _ + 1 ≤ _;omega))
 refine dTu [] ?_
 refine dNi ?_
 refine Qj (L':=[(0,_),(1,_),(6,_),(10,_)]) aSx (fun _ h=>h) ?_
 refine ZV (fun w h=>HS.es_set (gn:=gn1) (cap:=cap1) (ea:=b12.1) (ec:=b12.2) (es:=QI (nth LA p).es (ixR (nth (splRA mo (pln L) i) p).cs (i : Int)) (nth (nth L1 i).es (QC mo))) hpA h aPk aPk aPk) fun LB=>?_
 refine QV (fun w h=>h.1) fun hSB=>?_
 refine Xd (fun w h=>h.2) ?_
 have hpB : p < LB.length:=by rw [hSB.len];exact hpA
 have hBC : (nth LB p).cs = (nth LA p).cs:=by rw [hSB.at_]
 have hBCl : (nth LB p).cs.length = (nth LA p).cs.length:=by rw [hBC]
 refine QE [19] QH ?_
 refine dP 0 ?_
 refine dP 1 ?_
 refine dFa 2 ?_
 refine dLd 3 [[]] ?_
 refine dP 4 ?_
 refine dP 5 ?_
 refine dP 6 ?_
 refine dFa 7 ?_
 refine dLd 8 [[]] ?_
 refine dP 9 ?_
 refine dV 10 rfl (Qa rfl rfl rfl Qp (p) (by omega) (by omega) rfl) ?_
 refine Ql (show _ = Value.pointer (some ⟨gn1,p * 3,none⟩) from by rw [Nat.zero_add]) ?_
 refine dFa 11 ?_
 refine dQ 12 [[]] rfl (Qg rfl rfl Q8 (fun w h=>HS.nd_cell hpB h aPk 2 rfl (by decide))) ?_
 refine dP 13 ?_
 refine dP 14 ?_
 try refine dWr ?_
 refine dP 15 ?_
 refine dH 16 rfl (QP rfl Qic rfl (fun w1 h1=>QqZ w1 (nth LB p).ca (nth LB p).cc (nth LB p).cs ((ixR (nth (splRA mo (pln L) i) p).cs (i : Int)) + 1) ((Xl (pln L)).1 : Int) (HS.cs_row hpB h1 aPk) (by omega) (by omega) (HS.cs_room hpB h1 aPk).1)) (fun b13 _=>?_)
 refine dBa ?_
 refine dV 17 rfl (Qa rfl rfl rfl Qp (p) (by omega) (by omega) rfl) ?_
 refine Ql (show _ = Value.pointer (some ⟨gn1,p * 3,none⟩) from by rw [Nat.zero_add]) ?_
 refine dFa 18 ?_
 refine dSt 19 ?_ (hl:=(by rw [Qf nv3];show _ + 1 ≤ _;omega))
 refine dTu [] ?_
 refine dNi ?_
 exact YR rfl (fun w' h'=>by obtain ⟨LC,hSC,hC⟩:=HS.cs_set (gn:=gn1) (cap:=cap1) (ca:=b13.1) (cc:=b13.2) (cs:=QI (nth LB p).cs ((ixR (nth (splRA mo (pln L) i) p).cs (i : Int)) + 1) ((Xl (pln L)).1 : Int)) hpB h' aPk aPk aPk;exact ⟨((gn1,cap1),LC),rfl,⟨by rw [hSC.cs,hBC,hSB.es,hA,hEA,hCA];unfold Qge addP;rw [hxF];rfl,by simp only [];rw [hSC.len,hSB.len,hlA];exact hn1,hm1⟩,by simp only [];rw [hSC.len,hSB.len];exact hC.ent aEt⟩)
theorem QiT : QT Tryz.prog 17 = true:=by kernel_rfl
theorem Qjw : QT Tryz.prog 20 = true:=by kernel_rfl
theorem QoT : QT Tryz.prog 63 = true:=by kernel_rfl
set_option maxHeartbeats 400000 in
theorem c22 (w : World) (j : Nat) (mo rm : Int) (a : Option Addr) (cap : Nat) (L : List LNd) (x : TEnt) (hj : j ≤ 3) (h0 : 0 < L.length) (hB : Bd (pln L)) (hT : TOk (j : Int) (pln L)) (hs : Nt w [] a L) (hk : QW (j : Int) x.key = true) (hkl : x.key.length ≤ 1000000) (hok0 : InsROk (j : Int) mo rm (pln L) x) : Calls Tryz.prog 22 #[.agg #[.int .i64 (j : Int),.int .i64 mo,.int .i64 rm,.slice a L.length cap],.agg #[.string (bs x.key),.string (bs x.val)]] w fun en w'=>∃ g : (Option Addr × Nat) × List LNd,en = .returned (.agg #[.int .i64 (j : Int),.int .i64 mo,.int .i64 rm,.slice g.1.1 g.2.length g.1.2]) ∧ pln g.2 = Qnf (j : Int) mo rm (pln L) x ∧ HS w [] [.nodes 26 102 g.1.1 g.1.2 g.2] w':=by
 have hln0:=hB.len
 rw [Qc] at hln0
 have hsmB : Sm 1000 (pln L):=QlB hB
 refine enter (args:=[_,_]) Tryz.func22 Tryz.ntmps22 rfl rfl (HS.refl w []) ?_
 refine aS2 ?_
 refine oBx fun b1 _=>?_
 refine oBx fun b2 _=>?_
 refine oAl (fun b3 _=>?_) Yq
 refine aS4 ?_
 refine o_h (QP rfl QiT rfl (fun w1 h1=>c17 w1 (j : Int) mo rm a cap L (hs.later h1.nil) hln0 hsmB)) rfl (fun ⟨⟨ga0,gc0⟩,L9⟩ hF9=>?_)
 dsimp only
 have hL9 : pln L9 = pln L:=hF9
 have hl9 : L9.length = L.length:=by rw [← Qc L9,hL9,Qc]
 have h09 : 0 < L9.length:=by omega
 refine Y1 (fun w h=>Qbp h09 h aPk) fun gn=>?_
 refine QU (p:=ga0 = some ⟨gn,0,none⟩ ∧ L9.length ≤ gc0 ∧ gc0 ≤ maxLen) (fun w h=>⟨h.1,h.2.1,h.2.2.1⟩) fun hgn=>?_
 obtain ⟨hga,hn9,hm9⟩:=hgn
 subst hga
 refine QZ (fun w h=>h.2.2.2) ?_
 have hB9 : Bd (pln L9):=by rw [hL9];exact hB
 have hT9 : TOk (j : Int) (pln L9):=by rw [hL9];exact hT
 have hK9 : ∀ i,i < L9.length → ∀ y ∈ (nth L9 i).es,QW (j : Int) y.key = true ∧ y.key.length ≤ 1000000:=fun i hi y hy=>Ya hT9 i (by rw [Qc];exact hi) y (by rw [Qh hi];exact hy)
 have hok : InsROk (j : Int) mo rm (pln L9) x:=by rw [hL9];exact hok0
 have hne:=hok.ne
 have hlen9:=hok.len
 have hlf:=hok.lf
 rw [Qc] at hlf
 have hel9:=hB9.es _ (by rw [Qc];exact hlf)
 rw [Qh hlf] at hel9
 simp only [LNd.pl] at hel9
 refine oAl (fun b4 _=>?_) Yq
 refine oSt ?_
 refine aS6 ?_
 refine o_h (QP rfl Qjw rfl (fun w1 h1=>c20 w1 j mo rm (some ⟨gn,0,none⟩) gc0 L9 x.key hj h09 hB9 hT9 (HS.nt_at h1 aPk aPk) hk hkl)) rfl (fun ⟨pa,pc⟩ _=>?_)
 dsimp only
 refine QU (fun w h=>HS.pown_some (P:=(Qb (j : Int) (pln L9) x.key).1) (a:=pa) (c:=pc) hne h aPk) fun hpa=>?_
 obtain ⟨gp,hpa⟩:=hpa
 refine Zp ?_
 try refine oWr ?_
 refine o_p (Qa rfl rfl rfl Qv ((Qb (j : Int) (pln L9) x.key).1.length - 1) (by omega) (by omega) hpa) rfl ?_
 refine o_q (Qg rfl rfl Xq (fun w h=>HS.pown_rd (P:=(Qb (j : Int) (pln L9) x.key).1) (a:=pa) (c:=pc) (k:=(Qb (j : Int) (pln L9) x.key).1.length - 1) (by omega) hpa h aPk)) rfl ?_
 refine Qm (show _ = Value.int .i64 ((Qo (Qb (j : Int) (pln L9) x.key).1) : Int) from rfl) ?_
 refine aS8 ?_
 refine o_q (Qi rfl QjE rfl (fun w1 h1=>c61 w1 j mo rm (some ⟨gn,0,none⟩) gc0 L9 (Qo (Qb (j : Int) (pln L9) x.key).1) x.key hj hlf (HS.nt_at h1 aPk aPk) (by omega) hel9 (hK9 _ hlf) hk hkl)) rfl ?_
 refine aS7 ?_
 refine Qj (L':=[(3,_),(4,_),(5,_),(6,_),(8,_),(9,_)]) aSx (fun _ h=>h) ?_
 refine QE [14] QH ?_
 refine dFa 0 ?_
 refine dLd 1 [[]] ?_
 refine dP 2 ?_
 refine dFa 3 ?_
 refine dLd 4 [[]] ?_
 refine dP 5 ?_
 refine dV 6 rfl (Qa rfl rfl rfl Qp ((Qo (Qb (j : Int) (pln L9) x.key).1)) (by omega) (by omega) rfl) ?_
 refine Ql (show _ = Value.pointer (some ⟨gn,(Qo (Qb (j : Int) (pln L9) x.key).1) * 3,none⟩) from by rw [Nat.zero_add]) ?_
 refine dFa 7 ?_
 refine dQ 8 [[]] rfl (Qg rfl rfl Xb (fun w h=>HS.nd_cell hlf h aPk 1 rfl (by decide))) ?_
 refine dP 9 ?_
 refine dLn 10 [[]] ?_
 refine dH 11 rfl (QP rfl QgZ rfl (fun w1 h1=>c62 w1 (nth L9 (Qo (Qb (j : Int) (pln L9) x.key).1)).ea (nth L9 (Qo (Qb (j : Int) (pln L9) x.key).1)).ec (nth L9 (Qo (Qb (j : Int) (pln L9) x.key).1)).es (plc (j : Int) (nth L9 (Qo (Qb (j : Int) (pln L9) x.key).1)).es x.key) x (HS.es_row hlf h1 aPk) (by omega) (Qac _ _ _) (HS.es_room hlf h1 aPk).1)) (fun b5 _=>?_)
 refine dBa ?_
 refine dV 12 rfl (Qa rfl rfl rfl Qp ((Qo (Qb (j : Int) (pln L9) x.key).1)) (by omega) (by omega) rfl) ?_
 refine Ql (show _ = Value.pointer (some ⟨gn,(Qo (Qb (j : Int) (pln L9) x.key).1) * 3,none⟩) from by rw [Nat.zero_add]) ?_
 refine dFa 13 ?_
 refine dSt 14 ?_ (hl:=(by rw [Qf nv3];show _ + 1 ≤ _;omega))
 refine dTu [] ?_
 refine dNi ?_
 refine aS4 ?_
 refine Y1 (fun w h=>HS.es_set (gn:=gn) (cap:=gc0) (ea:=b5.1) (ec:=b5.2) (es:=QI (nth L9 (Qo (Qb (j : Int) (pln L9) x.key).1)).es (plc (j : Int) (nth L9 (Qo (Qb (j : Int) (pln L9) x.key).1)).es x.key) x) hlf h aPk aPk aPk) fun L1=>?_
 refine QU (fun w h=>h.1) fun hS1=>?_
 refine QZ (fun w h=>h.2) ?_
 have hL1 : pln L1 = (Qe1 (j : Int) (pln L9) x):=by rw [hS1.es,Qe1,Qh hlf];rfl
 refine QZ (C':=HS w [] [.blk b4 24 4 [.int .i64 (j : Int),.int .i64 mo,.int .i64 rm,.slice (some ⟨gn,0,none⟩) (L1).length gc0],.blk gn 102 (gc0 * 3) ((L1).flatMap LNd.vals),.star ((L1).map (Qk 26)),.own (.slice pa ((Qb (j : Int) (pln L9) x.key).1).length pc) 3 1 ((Qb (j : Int) (pln L9) x.key).1).length (((Qb (j : Int) (pln L9) x.key).1).map fun i : Nat=>Value.int .i64 (i : Int)),.blk b2 26 2 (TEnt.vals x),.blk b3 24 4 [.int .i64 0,.int .i64 0,.int .i64 0,.slice none 0 0]]) (fun w2 h=>by rw [hS1.len];exact h.ent aEt) ?_
 refine aS2 ?_
 try refine oWr ?_
 refine Qm (show _ = Value.int .i64 (((Qb (j : Int) (pln L9) x.key).1.length - 1 : Nat) : Int) from by congr 1;omega) ?_
 refine aS3 ?_
 refine Qj (L':=[(4,_),(5,_),(6,_),(11,_)]) aSx (fun _ h=>h) ?_
 refine QN (α:=((Nat × Nat) × List LNd) × Nat) [11,53,54,55,56,57,58,59,60,61,62,63,64,65,66,67,68,69,70,71,72,73,74,75,76,77,78,79] (fun y=>[(11,.int .i64 (y.2 : Int))]) (fun y=>HS w [] [.blk b4 24 4 [.int .i64 (j : Int),.int .i64 mo,.int .i64 rm,.slice (some ⟨y.1.1.1,0,none⟩) (y.1.2).length y.1.1.2],.blk y.1.1.1 102 (y.1.1.2 * 3) ((y.1.2).flatMap LNd.vals),.star ((y.1.2).map (Qk 26)),.own (.slice pa ((Qb (j : Int) (pln L9) x.key).1).length pc) 3 1 ((Qb (j : Int) (pln L9) x.key).1).length (((Qb (j : Int) (pln L9) x.key).1).map fun i : Nat=>Value.int .i64 (i : Int)),.blk b2 26 2 (TEnt.vals x),.blk b3 24 4 [.int .i64 0,.int .i64 0,.int .i64 0,.slice none 0 0]]) (fun y=>QaP mo (Qb (j : Int) (pln L9) x.key).1 y.2 (pln y.1.2) = QaP mo (Qb (j : Int) (pln L9) x.key).1 ((Qb (j : Int) (pln L9) x.key).1.length - 1) (Qe1 (j : Int) (pln L9) x) ∧ QeB mo (Qb (j : Int) (pln L9) x.key).1 y.2 (pln y.1.2) ∧ y.2 < (Qb (j : Int) (pln L9) x.key).1.length ∧ y.1.2.length ≤ y.1.1.2 ∧ y.1.1.2 ≤ maxLen) (fun y=>y.2) (((gn,gc0),L1),(Qb (j : Int) (pln L9) x.key).1.length - 1) ⟨by rw [hL1],by rw [hL1];exact hok.grw,by simp only [];omega,by simp only [];rw [hS1.len];exact hn9,hm9⟩ aSx (fun w h=>h.ent aEt) (fun ⟨⟨⟨ga,gc⟩,Lk⟩,k⟩ hx=>?_)
 dsimp only
 obtain ⟨hx1,hx2,hx3,hx4,hx5⟩:=hx
 simp only [] at hx1 hx2 hx3 hx4 hx5
 refine aS6 ?_
 refine Qd rfl (fun h6=>?_) fun h6=>?_
 ·try simp only [dT] at h6
  obtain ⟨k1,rfl⟩ : ∃ k1,k = k1 + 1:=⟨k - 1,by omega⟩
  obtain ⟨hkl9,hsp⟩:=hx2.1
  rw [Qc] at hkl9
  rw [Qh hkl9] at hsp
  simp only [LNd.pl] at hsp
  refine aS4 ?_
  refine QE [] QH ?_
  refine dFa 0 ?_
  refine dLd 1 [] ?_
  refine dP 2 ?_
  refine dP 3 ?_
  refine dV 4 rfl (Qa rfl rfl rfl Qv (k1 + 1) (by omega) (by omega) hpa) ?_
  refine dQ 5 [] rfl (Qg rfl rfl Xq (fun w h=>HS.pown_rd (P:=(Qb (j : Int) (pln L9) x.key).1) (a:=pa) (c:=pc) (k:=k1 + 1) (by omega) hpa h aPk)) ?_
  refine dV 6 rfl (Qa rfl rfl rfl Qp ((nth (Qb (j : Int) (pln L9) x.key).1 (k1 + 1))) (by omega) (by omega) rfl) ?_
  refine Ql (show _ = Value.pointer (some ⟨ga,(nth (Qb (j : Int) (pln L9) x.key).1 (k1 + 1)) * 3,none⟩) from by rw [Nat.zero_add]) ?_
  refine dFa 7 ?_
  refine dQ 8 [] rfl (Qg rfl rfl Xb (fun w h=>HS.nd_cell hkl9 h aPk 1 rfl (by decide))) ?_
  refine dV 9 rfl (QQ rfl rfl Tryz.underlying77) ?_
  refine dFa 10 ?_
  refine dLd 11 [] ?_
  refine dP 12 ?_
  refine dNi ?_
  refine Qd rfl (fun h7=>?_) fun h7=>?_
  ·try simp only [dT] at h7
   have hbig : mo < ((nth Lk (nth (Qb (j : Int) (pln L9) x.key).1 (k1 + 1))).es.length : Int):=h7
   refine QE [9] QH ?_
   refine dP 0 ?_
   refine dP 1 ?_
   refine dP 2 ?_
   try refine dWr ?_
   refine dV 3 rfl (Qa rfl rfl rfl Qv (k1) (by omega) (by omega) hpa) ?_
   refine dQ 4 [[]] rfl (Qg rfl rfl Xq (fun w h=>HS.pown_rd (P:=(Qb (j : Int) (pln L9) x.key).1) (a:=pa) (c:=pc) (k:=k1) (by omega) hpa h aPk)) ?_
   refine dP 5 ?_
   refine dP 6 ?_
   refine dV 7 rfl (Qa rfl rfl rfl Qv (k1 + 1) (by omega) (by omega) hpa) ?_
   refine dQ 8 [[]] rfl (Qg rfl rfl Xq (fun w h=>HS.pown_rd (P:=(Qb (j : Int) (pln L9) x.key).1) (a:=pa) (c:=pc) (k:=k1 + 1) (by omega) hpa h aPk)) ?_
   refine dH 9 rfl (Q7 (Cs:=[.blk b4 24 4 [.int .i64 (j : Int),.int .i64 mo,.int .i64 rm,.slice (some ⟨ga,0,none⟩) (Lk).length gc],.blk ga 102 (gc * 3) ((Lk).flatMap LNd.vals),.star ((Lk).map (Qk 26))]) rfl QoT rfl aPs (fun w1 h1 hf=>c63 w1 b4 j mo rm ga gc Lk (nth (Qb (j : Int) (pln L9) x.key).1 k1) (nth (Qb (j : Int) (pln L9) x.key).1 (k1 + 1)) hf hx4 hx5 (hsp hbig))) (fun ⟨⟨g5,c5⟩,L5⟩ hF5=>?_)
   refine dTu [] ?_
   refine dNi ?_
   refine aS4 ?_
   try refine oWr ?_
   refine aS2 ?_
   exact QD (((g5,c5),L5),k1) (by (try simp only []);omega) ⟨by simp only [];rw [hF5.1,← hx1,QaP,if_pos (by rw [Qh hkl9];exact hbig)],by simp only [];rw [hF5.1];have h9:=hx2.2;rw [if_pos (by rw [Qh hkl9];exact hbig)] at h9;exact h9,by simp only [];omega,hF5.2.1,hF5.2.2⟩ (by refine Qcl (congrArg (fun e=>some (Value.int .i64 e)) (show _ = _ from by simp only [];omega)) ?_;repeat (first | exact Qgl | refine Qcl rfl ?_)) (fun w h=>h.ent aEt)
  try simp only [dN] at h7
  have hbig : ¬ mo < ((nth Lk (nth (Qb (j : Int) (pln L9) x.key).1 (k1 + 1))).es.length : Int):=by have hq:=h7;omega
  refine aS5 ?_
  try refine oWr ?_
  refine aS2 ?_
  exact QD (((ga,gc),Lk),k1) (by (try simp only []);omega) ⟨by simp only [];rw [← hx1,QaP,if_neg (by rw [Qh hkl9];exact hbig)],by simp only [];have h9:=hx2.2;rw [if_neg (by rw [Qh hkl9];exact hbig)] at h9;exact h9,by simp only [];omega,hx4,hx5⟩ (by refine Qcl (congrArg (fun e=>some (Value.int .i64 e)) (show _ = _ from by simp only [];omega)) ?_;repeat (first | exact Qgl | refine Qcl rfl ?_)) (fun w h=>h.ent aEt)
 try simp only [dN] at h6
 obtain rfl : k = 0:=by omega
 have hLG : pln Lk = QaP mo (Qb (j : Int) (pln L9) x.key).1 ((Qb (j : Int) (pln L9) x.key).1.length - 1) (Qe1 (j : Int) (pln L9) x):=hx1
 obtain ⟨LG,rfl⟩ : ∃ LG,LG = Lk:=⟨_,rfl⟩
 have hrt : RootROk mo rm (pln LG):=by rw [hLG];exact hok.root
 have hiG : 0 < LG.length:=by rw [← Qc];exact hrt.lt
 have hlG:=hrt.len
 rw [Qc] at hlG
 refine Qu rfl ?_
 refine aS2 ?_
 refine QE [] QH ?_
 refine dFa 0 ?_
 refine dLd 1 [] ?_
 refine dV 2 rfl (Qa rfl rfl rfl Qp (0) (by omega) (by omega) rfl) ?_
 refine Ql (show _ = Value.pointer (some ⟨ga,0 * 3,none⟩) from by rw [Nat.zero_add]) ?_
 refine dFa 3 ?_
 refine dQ 4 [] rfl (Qg rfl rfl Xb (fun w h=>HS.nd_cell hiG h aPk 1 rfl (by decide))) ?_
 refine dV 5 rfl (QQ rfl rfl Tryz.underlying77) ?_
 refine dFa 6 ?_
 refine dLd 7 [] ?_
 refine dP 8 ?_
 refine dNi ?_
 refine Qj (L':=[(4,_),(5,_),(6,_),(11,_),(88,_)]) aSx (fun _ h=>h) ?_
 refine Xn (α:=(Nat × Nat) × List LNd) [12,89,90,91,92,93,94,95,96,97,98,99,100,101,102,103,104,105,106,107,108,109,110,111,112,113,114,115,116,117,118,119,120,121,122,123,124,125,126,127,128,129,130,131] (fun _=>[]) (fun y=>HS w [] [.blk b4 24 4 [.int .i64 (j : Int),.int .i64 mo,.int .i64 rm,.slice (some ⟨y.1.1,0,none⟩) (y.2).length y.1.2],.blk y.1.1 102 (y.1.2 * 3) ((y.2).flatMap LNd.vals),.star ((y.2).map (Qk 26)),.blk b3 24 4 [.int .i64 0,.int .i64 0,.int .i64 0,.slice none 0 0]]) (fun y=>pln y.2 = Qd4 mo rm (pln LG) ∧ y.2.length ≤ y.1.2 ∧ y.1.2 ≤ maxLen) ?_ ?_
 ·skip
  refine Qd rfl (fun h8=>?_) fun h8=>?_
  ·try simp only [dT] at h8
   have hbR : rm < ((nth (pln LG) 0).es.length : Int):=by rw [Qh hiG];exact h8
   refine aS2 ?_
   refine o_h (Q7 (Cs:=[.blk b4 24 4 [.int .i64 (j : Int),.int .i64 mo,.int .i64 rm,.slice (some ⟨ga,0,none⟩) (LG).length gc],.blk ga 102 (gc * 3) ((LG).flatMap LNd.vals),.star ((LG).map (Qk 26))]) rfl QoM rfl aPs (fun w1 h1 hf=>c64 w1 b4 j mo rm ga gc LG hf hx4 hx5 hiG (by omega))) rfl (fun ⟨⟨g6,c6⟩,L6⟩ hF6=>?_)
   dsimp only
   obtain ⟨hL6,hn6,hm6⟩:=hF6
   simp only [] at hL6 hn6 hm6
   have hi6 : 0 < L6.length:=by have:=QgS (pln LG);rw [← Qc,hL6];rw [Qc] at this;omega
   have ho6 : (Xl (pln LG)).1 < L6.length:=by rw [← Qc,hL6];exact QiY _
   have hon : (Xl (pln LG)).1 ≠ 0:=by have:=Qn0 (ns:=pln LG) (by rw [Qc];exact hiG);omega
   refine aS3 ?_
   refine QE [18,21] QH ?_
   refine dFa 0 ?_
   refine dLd 1 [[],[]] ?_
   refine dP 2 ?_
   refine dFa 3 ?_
   refine dLd 4 [[],[]] ?_
   refine dP 5 ?_
   refine dFa 6 ?_
   refine dLd 7 [[],[]] ?_
   refine dV 8 rfl (Qa rfl rfl rfl Qp (0) (by omega) (by omega) rfl) ?_
   refine Ql (show _ = Value.pointer (some ⟨g6,0 * 3,none⟩) from by rw [Nat.zero_add]) ?_
   refine dFa 9 ?_
   refine dQ 10 [[],[]] rfl (Qg rfl rfl Xb (fun w h=>HS.nd_cell hi6 h aPk 1 rfl (by decide))) ?_
   refine dFa 11 ?_
   refine dLd 12 [[],[]] ?_
   refine dV 13 rfl (Qa rfl rfl rfl Qp (0) (by omega) (by omega) rfl) ?_
   refine Ql (show _ = Value.pointer (some ⟨g6,0 * 3,none⟩) from by rw [Nat.zero_add]) ?_
   refine dFa 14 ?_
   refine dQ 15 [[],[]] rfl (Qg rfl rfl Q8 (fun w h=>HS.nd_cell hi6 h aPk 2 rfl (by decide))) ?_
   refine dV 16 rfl (Qa rfl rfl rfl Qp ((Xl (pln LG)).1) (by omega) (by omega) rfl) ?_
   refine Ql (show _ = Value.pointer (some ⟨g6,(Xl (pln LG)).1 * 3,none⟩) from by rw [Nat.zero_add]) ?_
   refine dFa 17 ?_
   refine dSt 18 ?_ (hl:=(by rw [Qf nv3];show _ + 1 ≤ _;omega))
   refine dTu [21] ?_
   refine dV 19 rfl (Qa rfl rfl rfl Qp ((Xl (pln LG)).1) (by omega) (by omega) rfl) ?_
   refine Ql (show _ = Value.pointer (some ⟨g6,(Xl (pln LG)).1 * 3,none⟩) from by rw [Nat.zero_add]) ?_
   refine dFa 20 ?_
   refine QiD 21 rfl (Q9 rfl rfl rfl Q8 rfl aPt (by rw [Qx,Qf nv3];show _ + 1 ≤ _;omega) rfl) (by kernel_rfl) (fun w h=>h.ent aEt) (fun _ _=>?_)
   refine dTu [] ?_
   refine dNi ?_
   refine aS3 ?_
   refine Y1 (fun w h=>HS.node_move (i:=0) (gn:=g6) (cap:=c6) hi6 ho6 (fun e=>hon e.symm) h aPk aPk) fun L7=>?_
   refine QU (fun w h=>h.1) fun hS7=>?_
   refine QZ (fun w h=>h.2) ?_
   have hi7 : 0 < L7.length:=by rw [hS7.len];exact hi6
   have hN7 : nth L7 0 = nth L6 0:=hS7.other hi6 hon
   rw [← hN7]
   refine aS4 ?_
   refine o_h (Qr (cs:=[_]) rfl rfl Qv X8 rfl rfl rfl) rfl (fun b9 _=>?_)
   refine o_p (Qa rfl rfl rfl Qp (0) (by omega) (by omega) rfl) rfl ?_
   refine Qm (show _ = Value.pointer (some ⟨g6,0 * 3,none⟩) from by rw [Nat.zero_add]) ?_
   refine aS ?_
   refine YE (Q9 rfl rfl rfl Xb rfl aPt (by rw [Qf nv3];show _ + 1 ≤ _;omega) rfl) (fun _ _=>?_)
   refine o_p (Qa rfl rfl rfl Qp (0) (by omega) (by omega) rfl) rfl ?_
   refine Qm (show _ = Value.pointer (some ⟨g6,0 * 3,none⟩) from by rw [Nat.zero_add]) ?_
   refine aS ?_
   refine YE (Q9 rfl rfl rfl Q8 rfl aPt (by rw [Qx,Qf nv3];show _ + 1 ≤ _;omega) rfl) (fun _ _=>?_)
   refine aS2 ?_
   refine Qj (L':=[(4,_),(5,_),(6,_),(11,_),(12,_),(88,_)]) aSx (fun _ h=>h) ?_
   refine ZV (fun w h=>HS.node_low (i:=0) (gn:=g6) (cap:=c6) (ca:=some ⟨b9,0,none⟩) (cc:=1) (cs:=[((Xl (pln LG)).1 : Int)]) hi7 (HS.own_shut (t:=3) (sz:=1) (n:=1) (cap:=1) (h.pick (A:=.blk b9 3 (1 * 1) (inV ((Xl (pln LG)).1 : Int))) aPk) rfl (by decide) (by decide)) (.there aPk) .here aPk) fun L8=>?_
   refine QV (fun w h=>h.1) fun hS8=>?_
   refine Xd (fun w h=>h.2) ?_
   have ho8 : (Xl (pln LG)).1 < L8.length:=by rw [hS8.len,hS7.len];exact ho6
   have hl8 : L8.length = L6.length:=by rw [hS8.len,hS7.len]
   have hL8 : pln L8 = (Zv (pln LG)).2:=QnC hL6 hi6 ho6 hS7 hS8 hi7
   refine Xd (C':=HS w [] [.blk b4 24 4 [.int .i64 (j : Int),.int .i64 mo,.int .i64 rm,.slice (some ⟨g6,0,none⟩) (L8).length c6],.blk g6 102 (c6 * 3) ((L8).flatMap LNd.vals),.star ((L8).map (Qk 26)),.own (.slice pa ((Qb (j : Int) (pln L9) x.key).1).length pc) 3 1 ((Qb (j : Int) (pln L9) x.key).1).length (((Qb (j : Int) (pln L9) x.key).1).map fun i : Nat=>Value.int .i64 (i : Int)),.blk b2 26 2 (TEnt.vals x),.blk b3 24 4 [.int .i64 0,.int .i64 0,.int .i64 0,.slice none 0 0]]) (fun w2 h=>by rw [hl8];exact h.ent aEt) ?_
   refine QE [] QH ?_
   refine dFa 0 ?_
   refine dLd 1 [] ?_
   refine dP 2 ?_
   refine dV 3 rfl (Qa rfl rfl rfl Qp ((Xl (pln LG)).1) (by omega) (by omega) rfl) ?_
   refine Ql (show _ = Value.pointer (some ⟨g6,(Xl (pln LG)).1 * 3,none⟩) from by rw [Nat.zero_add]) ?_
   refine dFa 4 ?_
   refine dQ 5 [] rfl (Qg rfl rfl Xb (fun w h=>HS.nd_cell ho8 h aPk 1 rfl (by decide))) ?_
   refine dV 6 rfl (QQ rfl rfl Tryz.underlying77) ?_
   refine dFa 7 ?_
   refine dLd 8 [] ?_
   refine dP 9 ?_
   refine dNi ?_
   refine Qd rfl (fun h10=>?_) fun h10=>?_
   ·try simp only [dT] at h10
    have hb8 : mo < ((nth (Zv (pln LG)).2 (Zv (pln LG)).1).es.length : Int):=by rw [← hL8,show (Zv (pln LG)).1 = (Xl (pln LG)).1 from rfl,Qh ho8];exact h10
    have hspR:=hrt.spl hbR hb8
    refine aS2 ?_
    refine o_h (Q7 (Cs:=[.blk b4 24 4 [.int .i64 (j : Int),.int .i64 mo,.int .i64 rm,.slice (some ⟨g6,0,none⟩) (L8).length c6],.blk g6 102 (c6 * 3) ((L8).flatMap LNd.vals),.star ((L8).map (Qk 26))]) rfl QoT rfl aPs (fun w1 h1 hf=>c63 w1 b4 j mo rm g6 c6 L8 0 (Xl (pln LG)).1 hf (by omega) hm6 (by rw [hL8];exact hspR))) rfl (fun ⟨⟨g7,c7⟩,L9b⟩ hF7=>?_)
    refine aS ?_
    exact Qn ((g7,c7),L9b) ⟨by rw [Qd4,if_pos hbR,if_pos hb8,← hL8];exact hF7.1,hF7.2.1,hF7.2.2⟩ aSx (fun w h=>h.ent aEt)
   try simp only [dN] at h10
   have hb8 : ¬ mo < ((nth (Zv (pln LG)).2 (Zv (pln LG)).1).es.length : Int):=by rw [← hL8,show (Zv (pln LG)).1 = (Xl (pln LG)).1 from rfl,Qh ho8];have hq:=h10;simp only [LNd.pl];omega
   refine aS ?_
   exact Qn ((g6,c6),L8) ⟨by rw [Qd4,if_pos hbR,if_neg hb8];exact hL8,by simp only [];omega,hm6⟩ aSx (fun w h=>h.ent aEt)
  try simp only [dN] at h8
  have hbR : ¬ rm < ((nth (pln LG) 0).es.length : Int):=by rw [Qh hiG];have hq:=h8;simp only [LNd.pl];omega
  refine aS ?_
  exact Qn ((ga,gc),LG) ⟨by rw [Qd4,if_neg hbR],hx4,hx5⟩ aSx (fun w h=>h.ent aEt)
 intro ⟨⟨gz,cz⟩,LZ⟩ hz
 dsimp only
 obtain ⟨hz1,hz2,hz3⟩:=hz
 simp only [] at hz1 hz2 hz3
 refine aS3 ?_
 refine YE (Q9 rfl rfl rfl Zk rfl aPt (by show 4 ≤ 4;omega) rfl) (fun _ _=>?_)
 refine aS ?_
 exact QM (rs:=[.cell 4 24]) rfl (.cell rfl Zk aPk rfl (.nil)) (fun w' h'=>⟨((some ⟨gz,0,none⟩,cz),LZ),rfl,by rw [hz1,hLG,← hL9];rfl,Qau (h'.ent (Bs:=[.blk gz 102 (cz * 3) (LZ.flatMap LNd.vals),.star (LZ.map (Qk 26))]) aEt) hz2 hz3⟩)
end Go.Proofs
namespace Gx
open Go Go.RowKit
theorem HS.sub_one {w0 w : World} {M : List Nat} {As : List HA} {a : Option Addr} {c : Nat} {et : Nat} (h : HS w0 M (.own (.slice none 0 0) et 2 0 [] :: .own (.slice none 0 0) 3 1 0 [] :: .own (.slice a 1 c) 102 3 1 [.bool true,.slice none 0 0,.slice none 0 0] :: As) w) : HS w0 M (.own (.slice a 1 c) 102 3 1 [.bool true,.slice none 0 0,.slice none 0 0] :: .star ([(LNd.fre : LNd)].map (Qk et)) :: As) w:=by
 have h1:=HS.star_close (Bs:=[_,_]) h;have h2 : HS w0 M (.star [.star [.own (.slice none 0 0) et 2 0 [],.own (.slice none 0 0) 3 1 0 []]] :: .own (.slice a 1 c) 102 3 1 [.bool true,.slice none 0 0,.slice none 0 0] :: As) w:=HS.star_close (Bs:=[_]) h1;exact h2.perm (List.Perm.swap ..)
def smB (m : Nat) (ns : List Nd) : Bool:=ns.all fun n=>decide (n.es.length ≤ m) && decide (n.cs.length ≤ m)
theorem QaJ {m : Nat} {ns : List Nd} (h : smB m ns = true) : Sm m ns:=fun k=>by
 rcases Nat.lt_or_ge k ns.length with hk | hk
 ·have h1:=List.all_eq_true.1 h _ (Q1 hk);simp only [Bool.and_eq_true,decide_eq_true_eq] at h1;exact h1
 ·rw [Yu hk];exact ⟨Nat.zero_le _,Nat.zero_le _⟩
def bdB (ns : List Nd) : Bool:=decide (ns.length ≤ 1000) && smB 1000 ns
theorem QfT {ns : List Nd} (h : bdB ns = true) : Bd ns:=by
 unfold bdB at h;simp only [Bool.and_eq_true,decide_eq_true_eq] at h;exact ⟨h.1,fun i _=>(QaJ h.2 i).1,fun i _=>(QaJ h.2 i).2⟩
def QqU (mo : Int) (ns : List Nd) (p i : Nat) : Bool:=decide ((0 ≤ mo ∧ mo ≤ 1000) ∧ ns.length ≤ 900 ∧ smB 900 ns = true ∧ i < ns.length ∧ (nth ns i).us = true ∧ QC mo < (nth ns i).es.length ∧ ((nth ns i).cs.length = 0 ∨ QC mo + 1 ≤ (nth ns i).cs.length) ∧ p < ns.length ∧ ixR (nth (splRA mo ns i) p).cs (i : Int) ≤ (nth (splRA mo ns i) p).es.length ∧ ixR (nth (splRA mo ns i) p).cs (i : Int) + 1 ≤ (nth (splRA mo ns i) p).cs.length)
theorem QjH {mo : Int} {ns : List Nd} {p i : Nat} (h : QqU mo ns p i = true) : SpROk mo ns p i:=by
 obtain ⟨h1,h2,h3,h4,h5,h6,h7,h8,h9,h10⟩:=of_decide_eq_true h;exact ⟨h1,h2,QaJ h3,h4,h5,h6,h7,h8,h9,h10⟩
def Qi4 (mo : Int) (P : List Nat) : Nat → List Nd → Bool
 | 0,_=>true
 | k + 1,ns=>(decide (nth P (k + 1) < ns.length) && (!decide (mo < ((nth ns (nth P (k + 1))).es.length : Int)) || QqU mo ns (nth P k) (nth P (k + 1)))) && Qi4 mo P k (if mo < ((nth ns (nth P (k + 1))).es.length : Int) then Qge mo ns (nth P k) (nth P (k + 1)) else ns)
theorem Qii {p : Prop} [Decidable p] {b : Bool} (h : (!decide p || b) = true) (hp : p) : b = true:=by
 rw [decide_eq_true hp] at h;exact h
theorem Qhu {mo : Int} {P : List Nat} : ∀ {k : Nat} {ns : List Nd},Qi4 mo P k ns = true → QeB mo P k ns
 | 0,_,_=>trivial
 | k + 1,ns,h=>by
  unfold Qi4 at h;rw [Bool.and_eq_true,Bool.and_eq_true,decide_eq_true_eq] at h;exact ⟨⟨h.1.1,fun hp=>QjH (Qii h.1.2 hp)⟩,Qhu h.2⟩
def Ql1 (mo rm : Int) (ns : List Nd) : Bool:=decide (0 < ns.length ∧ ns.length ≤ 900 ∧ (nth ns 0).us = true ∧ (rm < ((nth ns 0).es.length : Int) → mo < ((nth (Zv ns).2 (Zv ns).1).es.length : Int) → QqU mo (Zv ns).2 0 (Zv ns).1 = true))
theorem Qj8 {mo rm : Int} {ns : List Nd} (h : Ql1 mo rm ns = true) : RootROk mo rm ns:=by
 obtain ⟨h1,h2,h3,h4⟩:=of_decide_eq_true h;exact ⟨h1,h2,h3,fun a b=>QjH (h4 a b)⟩
def Qlt (co mo rm : Int) (ns : List Nd) (x : TEnt) : Bool:=decide (0 < (Qb co ns x.key).1.length ∧ (Qb co ns x.key).1.length ≤ 900 ∧ Qo (Qb co ns x.key).1 < ns.length ∧ Qi4 mo (Qb co ns x.key).1 ((Qb co ns x.key).1.length - 1) (Qe1 co ns x) = true ∧ Ql1 mo rm (QaP mo (Qb co ns x.key).1 ((Qb co ns x.key).1.length - 1) (Qe1 co ns x)) = true)
theorem QkA {co mo rm : Int} {ns : List Nd} {x : TEnt} (h : Qlt co mo rm ns x = true) : InsROk co mo rm ns x:=by
 obtain ⟨h1,h2,h3,h4,h5⟩:=of_decide_eq_true h;exact ⟨h1,h2,h3,Qhu h4,Qj8 h5⟩
def spB (mo : Int) (ns : List Nd) (i : Nat) : Bool:=decide ((0 ≤ mo ∧ mo ≤ 1000) ∧ ns.length ≤ 900 ∧ smB 900 ns = true ∧ i < ns.length ∧ (nth ns i).us = true ∧ QC mo < (nth ns i).es.length ∧ ((nth ns i).cs.length = 0 ∨ QC mo + 1 ≤ (nth ns i).cs.length) ∧ (Xi (i : Int) (splA mo ns i) 0).1 < (splA mo ns i).length ∧ (Xi (i : Int) (splA mo ns i) 0).2 ≤ (nth (splA mo ns i) (Xi (i : Int) (splA mo ns i) 0).1).es.length ∧ (Xi (i : Int) (splA mo ns i) 0).2 + 1 ≤ (nth (splA mo ns i) (Xi (i : Int) (splA mo ns i) 0).1).cs.length)
theorem QkQ {mo : Int} {ns : List Nd} {i : Nat} (h : spB mo ns i = true) : SpOk mo ns i:=by
 obtain ⟨h1,h2,h3,h4,h5,h6,h7,h8,h9,h10⟩:=of_decide_eq_true h;exact ⟨h1,h2,QaJ h3,h4,h5,h6,h7,h8,h9,h10⟩
def Qog (mo : Int) : List Nd → List Nat → Bool
 | _,[]=>true
 | ns,i :: P=>(decide (i < ns.length) && (!decide (0 < i ∧ mo < ((nth ns i).es.length : Int)) || spB mo ns i)) && Qog mo (ZK mo ns i) P
theorem Qi0 {mo : Int} : ∀ {P : List Nat} {ns : List Nd},Qog mo ns P = true → Qbt mo ns P
 | [],_,_=>trivial
 | i :: P,ns,h=>by
  unfold Qog at h;rw [Bool.and_eq_true,Bool.and_eq_true,decide_eq_true_eq] at h;exact ⟨⟨h.1.1,fun a b=>QkQ (Qii h.1.2 ⟨a,b⟩)⟩,Qi0 h.2⟩
def Qpo (mo rm : Int) (ns : List Nd) : Bool:=decide (0 < ns.length ∧ ns.length ≤ 900 ∧ (nth ns 0).us = true ∧ (rm < ((nth ns 0).es.length : Int) → mo < ((nth (XG ns).2 (XG ns).1).es.length : Int) → spB mo (XG ns).2 (XG ns).1 = true))
theorem QkV {mo rm : Int} {ns : List Nd} (h : Qpo mo rm ns = true) : RootOk mo rm ns:=by
 obtain ⟨h1,h2,h3,h4⟩:=of_decide_eq_true h;exact ⟨h1,h2,h3,fun a b=>QkQ (h4 a b)⟩
def Qpd (co mo rm : Int) (ns : List Nd) (x : TEnt) : Bool:=decide (0 < (Qb co ns x.key).1.length ∧ (Qb co ns x.key).1.length ≤ 900 ∧ YL co ns x.key < ns.length ∧ (nth ns (YL co ns x.key)).es.length ≤ 900 ∧ (Qb co ns x.key).2.1 ≤ (nth ns (YL co ns x.key)).es.length ∧ Qog mo (Qb8 co ns x) (Qb co ns x.key).1.reverse = true ∧ Qpo mo rm (XH mo (Qb8 co ns x) (Qb co ns x.key).1.reverse) = true)
theorem QkX {co mo rm : Int} {ns : List Nd} {x : TEnt} (h : Qpd co mo rm ns x = true) : InsOk co mo rm ns x:=by
 obtain ⟨h1,h2,h3,h4,h5,h6,h7⟩:=of_decide_eq_true h;exact ⟨h1,h2,h3,h4,h5,Qi0 h6,QkV h7⟩
def filB (mo : Int) (ns : List Nd) (p k : Nat) : Bool:=decide ((0 ≤ mo ∧ mo ≤ 1000) ∧ p < ns.length ∧ k < (nth ns p).cs.length ∧ (nth ns p).cs.length = (nth ns p).es.length + 1 ∧ (∀ x,x < (nth ns p).cs.length → 0 ≤ (nth ns p).cs.getD x 0 ∧ kdN ns p x < ns.length ∧ p ≠ kdN ns p x) ∧ (∀ x,x < (nth ns p).cs.length → ∀ y,y < (nth ns p).cs.length → x ≠ y → kdN ns p x ≠ kdN ns p y) ∧ ns.length ≤ 900 ∧ smB 900 ns = true)
theorem QnX {mo : Int} {ns : List Nd} {p k : Nat} (h : filB mo ns p k = true) : FilOk mo ns p k:=by
 obtain ⟨h1,h2,h3,h4,h5,h6,h7,h8⟩:=of_decide_eq_true h;exact ⟨h1,h2,h3,h4,h5,fun x y hx hy=>h6 x hx y hy,h7,QaJ h8⟩
def QiN (mo : Int) : List Nd → List Nat → Bool
 | _,[]=>true
 | ns,i :: P=>(decide (i < ns.length) && (!decide (0 < i ∧ ((nth ns i).es.length : Int) < mo / 2) || filB mo ns (Xi (i : Int) ns 0).1 (Xi (i : Int) ns 0).2)) && QiN mo (Qbo mo ns i) P
theorem QgR {mo : Int} : ∀ {P : List Nat} {ns : List Nd},QiN mo ns P = true → ZF mo ns P
 | [],_,_=>trivial
 | i :: P,ns,h=>by
  unfold QiN at h;rw [Bool.and_eq_true,Bool.and_eq_true,decide_eq_true_eq] at h;exact ⟨⟨h.1.1,fun a b=>QnX (Qii h.1.2 ⟨a,b⟩)⟩,QgR h.2⟩
def rotB (ns : List Nd) : Bool:=decide (0 < ns.length ∧ ns.length ≤ 900 ∧ (nth ns 0).us = true ∧ ((nth ns 0).cs.length = 1 → 0 < (nth ns 0).cs.getD 0 0 ∧ kdN ns 0 0 < ns.length ∧ (nth ns (kdN ns 0 0)).us = true))
theorem QnZ {rm : Int} {ns : List Nd} (h : rotB ns = true) : RotOk rm ns:=by
 obtain ⟨h1,h2,h3,h4⟩:=of_decide_eq_true h;exact ⟨h1,h2,h3,h4⟩
def Qoo (ns : List Nd) : Nat → Nat → Bool
 | 0,_=>false
 | f + 1,i=>decide (i < ns.length) && (decide ((nth ns i).cs.length = 0) || (decide (0 ≤ (nth ns i).cs.getD ((nth ns i).cs.length - 1) 0) && Qoo ns f (kdN ns i ((nth ns i).cs.length - 1))))
theorem QiW {ns : List Nd} : ∀ {f i : Nat},Qoo ns f i = true → QdP ns f i
 | 0,_,h=>(nomatch h)
 | f + 1,i,h=>by
  unfold Qoo at h;rw [Bool.and_eq_true,Bool.or_eq_true,Bool.and_eq_true,decide_eq_true_eq,decide_eq_true_eq,decide_eq_true_eq] at h;refine ⟨h.1,?_⟩;rcases h.2 with h2 | h2
  ·exact .inl h2
  ·exact .inr ⟨h2.1,QiW h2.2⟩
def remB (mo rm : Int) (ns : List Nd) (P : List Nat) (k : Nat) : Bool:=decide ((0 ≤ mo ∧ mo ≤ 1000) ∧ 0 < P.length ∧ P.length ≤ 900 ∧ ns.length ≤ 900 ∧ smB 900 ns = true ∧ Qo P < ns.length ∧ k < (nth ns (Qo P)).es.length ∧ (0 < (nth ns (Qo P)).cs.length → k < (nth ns (Qo P)).cs.length ∧ 0 ≤ (nth ns (Qo P)).cs.getD k 0 ∧ Qoo ns ns.length (kdN ns (Qo P) k) = true ∧ Qo P ≠ Qo (QA ns P k) ∧ 0 < (nth ns (Qo (QA ns P k))).es.length ∧ Qo (QA ns P k) < ns.length) ∧ (0 < (QA ns P k).length ∧ (QA ns P k).length ≤ 1900) ∧ Qo (QA ns P k) < ns.length ∧ Qco ns P k < (nth (QcF ns P k) (Qo (QA ns P k))).es.length ∧ smB 900 (QcF ns P k) = true ∧ QiN mo (YM ns P k) (QA ns P k).reverse = true ∧ rotB (Yw mo (YM ns P k) (QA ns P k).reverse) = true)
theorem QoH {mo rm : Int} {ns : List Nd} {P : List Nat} {k : Nat} (h : remB mo rm ns P k = true) : RemOk mo rm ns P k:=by
 obtain ⟨h1,h2,h3,h4,h5,h6,h7,h8,h9,h10,h11,h12,h13,h14⟩:=of_decide_eq_true h;exact ⟨h1,h2,h3,h4,QaJ h5,h6,h7,fun a=>⟨(h8 a).1,(h8 a).2.1,QiW (h8 a).2.2.1,(h8 a).2.2.2⟩,h9,h10,h11,QaJ h12,QgR h13,QnZ h14⟩
def Qke (k : Nat) : TEnt:=⟨[UInt8.ofNat (97 + k)],[]⟩
def Yv : Nat → List Nd
 | 0=>[⟨true,[],[]⟩]
 | k + 1=>Qnf 0 4 2 (Yv k) (Qke k)
theorem Qk6 : ∀ k,k < 11 → IntKind.u8.wrap (((97 + k : Nat) : Int) + 1) = ((97 + (k + 1) : Nat) : Int):=by decide
def Qp2 (k : Nat) : Bool:=decide (0 < (Yv k).length) && (bdB (Yv k) && (decide ((XR ⟨0,4,2,Yv k⟩ (Yv k).length 0 []).2 = 0) && (Qlt 0 4 2 (Yv k) (Qke k) && QW 0 (Qke k).key)))
structure LetOk (k : Nat) : Prop where
 n0 : 0 < (Yv k).length
 bd : Bd (Yv k)
 tok : TOk 0 (Yv k)
 ins : InsROk 0 4 2 (Yv k) (Qke k)
 key : QW 0 (Qke k).key = true
theorem QoA {k : Nat} (h : Qp2 k = true) : LetOk k:=by
 unfold Qp2 at h;simp only [Bool.and_eq_true,decide_eq_true_eq] at h;exact ⟨h.1,QfT h.2.1,Yi (t:=⟨0,4,2,Yv k⟩) h.2.2.1,QkA h.2.2.2.1,h.2.2.2.2⟩
set_option maxRecDepth 100000 in
theorem QmW : (List.range 11).all Qp2 = true:=by decide +kernel
theorem QrN {k : Nat} (h : k < 11) : LetOk k:=QoA (List.all_eq_true.1 QmW k (List.mem_range.2 h))
abbrev aK : TEnt:=⟨[107],[]⟩
abbrev i0 : Int:=((0 : Nat) : Int)
theorem QeN {co : Int} {L : List LNd} (h : TOk co (pln L)) : ∀ i,i < L.length → ∀ x ∈ (nth L i).es,x.key.length ≤ 1000000:=fun i hi x hx=>(Ya h i (by rw [Qc];exact hi) x (by rw [Qh hi];exact hx)).2
set_option maxRecDepth 100000 in
theorem Qlx : (XP ⟨i0,4,2,Yv 10⟩).2 = 0:=by decide +kernel
set_option maxRecDepth 100000 in
theorem Qf1 : (XP ⟨i0,4,2,Yv 11⟩).2 = 0:=by decide +kernel
set_option maxRecDepth 100000 in
theorem Qmj : bdB (Yv 11) = true:=by decide +kernel
set_option maxRecDepth 100000 in
theorem Qqh : bdB (Yv 10) = true:=by decide +kernel
theorem aw_e : X7 i0 aK = 0:=by decide +kernel
set_option maxRecDepth 100000 in
theorem Qp7 : Qpd i0 4 2 (Yv 10) aK = true:=by decide +kernel
set_option maxRecDepth 100000 in
theorem QrU : Qdx i0 4 2 (Yv 10) aK = 0:=by decide +kernel
set_option maxRecDepth 100000 in
theorem Qro : ZU (Yv 10) (Zc i0 4 2 (Yv 10) aK) = [0,3,4,5]:=by decide +kernel
set_option maxRecDepth 100000 in
theorem Qsh : (Zc i0 4 2 (Yv 10) aK).length = 6:=by decide +kernel
set_option maxRecDepth 100000 in
theorem Qr9 : smB 100000 (Zc i0 4 2 (Yv 10) aK) = true:=by decide +kernel
theorem Qq7 : XM i0 [101] = 0:=by decide +kernel
theorem Qri : XM i0 [99] = 0:=by decide +kernel
set_option maxRecDepth 100000 in
theorem aw_p : (Qb i0 (Yv 11) [101]).1 = [0,5,2] ∧ (Qb i0 (Yv 11) [101]).2.2 = true:=by decide +kernel
set_option maxRecDepth 100000 in
theorem aw_q : (Qb i0 (Yv 11) [99]).2.2 = true:=by decide +kernel
abbrev aR : List Nd:=ZD 4 2 (Yv 11) (Qb i0 (Yv 11) [99]).1 (Qb i0 (Yv 11) [99]).2.1
set_option maxRecDepth 100000 in
theorem aw_r : remB 4 2 (Yv 11) (Qb i0 (Yv 11) [99]).1 (Qb i0 (Yv 11) [99]).2.1 = true:=by decide +kernel
set_option maxRecDepth 100000 in
theorem QrQ : ZU (Yv 11) aR = [0,1,2,5]:=by decide +kernel
set_option maxRecDepth 100000 in
theorem Qpp : aR.length = 5:=by decide +kernel
set_option maxRecDepth 100000 in
theorem Qsa : smB 100000 aR = true:=by decide +kernel
end Gx
namespace Go.Proofs
open Go Go.RowKit Gx
attribute [local irreducible] Go.Calls Gx.S Gx.O Gx.D Gx.OpP Gx.OpQ Gx.OpH
set_option maxRecDepth 20000
theorem QrV : QT Tryz.prog 32 = true:=by kernel_rfl
theorem zr_5 : X5 Tryz.prog 5 = some [.int .u8 0]:=by kernel_rfl
theorem QiJ : Qaw Tryz.prog 26 = some [(0,1),(1,1)]:=by kernel_rfl
theorem Qpa : QT Tryz.prog 22 = true:=by kernel_rfl
set_option maxHeartbeats 400000 in
theorem c56 (w : World) (N : Nat) (hN : N ≤ 11) : Calls Tryz.prog 56 #[.int .u8 ((96 + N : Nat) : Int)] w fun en w'=>∃ g : (Option Addr × Nat) × List LNd,en = .returned (.agg #[.int .i64 0,.int .i64 4,.int .i64 2,.slice g.1.1 g.2.length g.1.2]) ∧ pln g.2 = Yv N ∧ HS w [] [.nodes 26 102 g.1.1 g.1.2 g.2] w':=by
 refine enter (args:=[_]) Tryz.func56 Tryz.ntmps56 rfl rfl (HS.refl w []) ?_
 refine aS2 ?_
 refine oAl (fun b1 _=>?_) Yq
 refine aS3 ?_
 refine o_h (QP rfl QrV rfl (fun w1 h1=>c32 w1 0 4 2)) rfl (fun b2 _=>?_)
 refine oAl (fun b3 _=>?_) Yq
 refine oSt ?_
 refine aS7 ?_
 refine QN (α:=Nat × (Option Addr × Nat) × List LNd) [4,6,7,8,9,10,11,12,13,14,15,16,17,18,19,20] (fun y=>[(4,.int .u8 ((97 + y.1 : Nat) : Int))]) (fun y=>HS w [] [.nodes 26 102 y.2.1.1 y.2.1.2 y.2.2,.blk b3 24 4 [.int .i64 0,.int .i64 4,.int .i64 2,.slice y.2.1.1 (y.2.2).length y.2.1.2],.blk b1 24 4 [.int .i64 0,.int .i64 0,.int .i64 0,.slice none 0 0]]) (fun y=>y.1 ≤ N ∧ pln y.2.2 = Yv y.1) (fun y=>N - y.1) (0,(b2.1,b2.2),[(LNd.fre : LNd)]) ⟨Nat.zero_le _,rfl⟩ aSx (fun w h=>by have h3:=HS.row_shut (a:=b2.1) (cap:=b2.2) (l:=[(LNd.fre : LNd)]) (sub:=Qk 26) (t:=102) (sz:=3) (vals:=LNd.vals) (n:=1) (HS.sub_one (((h.own_nil 3 1).own_nil 26 2).ent (Bs:=[.own (.slice none 0 0) 26 2 0 [],.own (.slice none 0 0) 3 1 0 [],.own (.slice b2.1 1 b2.2) 102 3 1 [.bool true,.slice none 0 0,.slice none 0 0],.blk b3 24 4 [.int .i64 0,.int .i64 4,.int .i64 2,.slice b2.1 ([(LNd.fre : LNd)]).length b2.2],.blk b1 24 4 [.int .i64 0,.int .i64 0,.int .i64 0,.slice none 0 0]]) aEt)) rfl rfl;exact HS.ent (As:=[.nodes 26 102 b2.1 b2.2 [(LNd.fre : LNd)],.blk b3 24 4 [.int .i64 0,.int .i64 4,.int .i64 2,.slice b2.1 ([(LNd.fre : LNd)]).length b2.2],.blk b1 24 4 [.int .i64 0,.int .i64 0,.int .i64 0,.slice none 0 0]]) aEt h3) (fun ⟨k,⟨ga,gc⟩,Lk⟩ hx=>?_)
 dsimp only
 obtain ⟨hk1,hk2⟩:=hx
 simp only [] at hk1 hk2
 refine aS7 ?_
 refine XD 3 9 12 _ _ rfl
  (by
   intro hg4
   have hs5:=hg4;try simp only [dT] at hs5
   refine oOn 9 hg4 ?_
   refine aS ?_
   refine oOn 9 hg4 ?_
   refine aS ?_
   refine o_p (Qw rfl rfl hg4 rfl) rfl ?_
   refine aS ?_
   exact oJn 3 12)
  (by
   intro hg6
   have hs7:=hg6;try simp only [dN] at hs7
   refine oOf 9 hg6 ?_
   refine oOf 9 hg6 ?_
   refine o_p (Qs rfl rfl hg6 rfl) rfl ?_
   refine aS ?_
   exact oJn 3 12) ?_
 refine aS ?_
 refine Qd rfl (fun h8=>?_) fun h8=>?_
 ·try simp only [Bool.and_eq_true,decide_eq_true_eq] at h8
  have hkN : k < N:=by omega
  obtain ⟨hl0,hlB,hlT,hlI,hlK⟩:=QrN (show k < 11 by omega)
  rw [← hk2] at hl0 hlB hlT hlI
  rw [Qc] at hl0
  refine aS6 ?_
  refine o_h (Qr (cs:=[_]) rfl rfl Qc9 zr_5 rfl rfl rfl) rfl (fun b9 _=>?_)
  refine o_q (QcG rfl rfl Tryz.underlying150 Tryz.underlying9 Tryz.underlying5 aPk (by simp) (by simp [QnD])) rfl ?_
  refine o_p (Xr (cs:=[_,_]) rfl rfl QiJ Xm rfl) rfl ?_
  refine o_h (QP rfl Qpa rfl (fun w1 h1=>c22 w1 0 4 2 ga gc Lk (Qke k) (by decide) hl0 hlB hlT (HS.nt h1 aPk) hlK (by show 1 ≤ 1000000;decide) hlI)) rfl (fun ⟨gd,L5⟩ hF5=>?_)
  dsimp only
  refine oSt ?_
  refine aS5 ?_
  try (refine Qm (u8add _ _) ?_)
  refine Qm (show _ = Value.int .u8 ((97 + (k + 1) : Nat) : Int) from congrArg (Value.int .u8) (Qk6 k (by omega))) ?_
  refine aS2 ?_
  exact QD (k + 1,(gd.1,gd.2),L5) (by (try simp only []);omega) ⟨by (try simp only []);omega,by simp only [];rw [hF5,hk2];rfl⟩ aSx (fun w h=>h.ent aEt)
 try simp only [Bool.and_eq_false_iff,decide_eq_false_iff_not] at h8
 obtain rfl : k = N:=by omega
 refine Qu rfl ?_
 refine aS3 ?_
 refine oSt ?_
 refine aS ?_
 exact QM (rs:=[.cell 2 24]) rfl (.cell rfl Zk aPk rfl (.nil)) (fun w' h'=>⟨((ga,gc),Lk),rfl,hk2,h'.ent aEt⟩)
theorem QmP : QT Tryz.prog 56 = true:=by kernel_rfl
theorem Qr0 : QT Tryz.prog 16 = true:=by kernel_rfl
theorem Qrg : QT Tryz.prog 35 = true:=by kernel_rfl
theorem Qre : QT Tryz.prog 25 = true:=by kernel_rfl
theorem Qsi : QT Tryz.prog 28 = true:=by kernel_rfl
theorem QmE : QT Tryz.prog 23 = true:=by kernel_rfl
set_option maxHeartbeats 400000 in
theorem c13 (w : World)  : Calls Tryz.prog 13 #[] w fun en w'=>en = .returned (.bool true) ∧ Below w.heap.size w w':=by
 refine enter (args:=[]) Tryz.func13 Tryz.ntmps13 rfl rfl (HS.refl w []) ?_
 refine aS6 ?_
 refine o_h (QP rfl QmP rfl (fun w1 h1=>c56 w1 10 (by decide))) rfl (fun ⟨⟨ga1,gc1⟩,L1⟩ hL1=>?_)
 dsimp only
 refine o_p (Xr (cs:=[_,_]) rfl rfl QiJ Xm rfl) rfl ?_
 refine o_h (QP rfl Qr0 rfl (fun w1 h1=>c16o w1 0 4 2 (ga1) gc1 L1 aK (HS.nt h1 aPk) (by rw [hL1];exact (QfT (by exact Qqh))) (QeN (co:=i0) (by rw [hL1];exact Yi (t:=⟨i0,4,2,Yv 10⟩) (Ym Qlx).2.2.2.2.1)) (by rw [hL1];exact Qlx) (by decide) aw_e (fun _=>by rw [hL1];exact QkX Qp7) (by rw [hL1];exact QrU) (by rw [hL1];exact QaJ Qr9))) rfl (fun ⟨⟨⟨gi,ci⟩,LI⟩,⟨qa1,qc1⟩⟩ hFI=>?_)
 dsimp only
 have hLI : LI.length = 6:=by rw [← Qc,hFI,hL1];exact Qsh
 rw [hL1,Qro,hLI]
 refine aS4 ?_
 refine oAl (fun b1 _=>?_) Yq
 refine YE (Q9 rfl rfl rfl Zk rfl aPt (by show 4 ≤ 4;omega) rfl) (fun _ _=>?_)
 refine aS5 ?_
 refine o_h (QP rfl QmP rfl (fun w1 h1=>c56 w1 11 (by decide))) rfl (fun ⟨⟨ga2,gc2⟩,L2⟩ hL2=>?_)
 dsimp only
 refine o_h (QP rfl Qrg rfl (fun w1 h1=>c35o w1 0 4 2 ga2 gc2 L2 [101] (HS.nt h1 aPk) (by rw [hL2];exact (QfT (by exact Qmj))) (QeN (co:=i0) (by rw [hL2];exact Yi (t:=⟨i0,4,2,Yv 11⟩) (Ym Qf1).2.2.2.2.1)) (by rw [hL2];exact Qf1) (by decide) Qq7)) rfl (fun ⟨qa2,qc2⟩ _=>?_)
 dsimp only
 rw [hL2,aw_p.1,aw_p.2]
 refine Zf ?_
 refine o_h (QP rfl QmP rfl (fun w1 h1=>c56 w1 11 (by decide))) rfl (fun ⟨⟨ga3,gc3⟩,L3⟩ hL3=>?_)
 dsimp only
 refine o_h (QP rfl Qre rfl (fun w1 h1=>c25o w1 0 4 2 ga3 gc3 L3 [99] (HS.nt h1 aPk) (by rw [hL3];exact (QfT (by exact Qmj))) (QeN (co:=i0) (by rw [hL3];exact Yi (t:=⟨i0,4,2,Yv 11⟩) (Ym Qf1).2.2.2.2.1)) (by rw [hL3];exact Qf1) (by decide) Qri (by rw [hL3];exact aw_q) (by rw [hL3];exact QoH aw_r) (by rw [hL3];exact QaJ Qsa) (by rw [hL3];exact (by rw [Qpp];decide)))) rfl (fun ⟨⟨⟨gr,cr⟩,LR⟩,⟨qa3,qc3⟩⟩ hFR=>?_)
 dsimp only
 have hLR : LR.length = 5:=by rw [← Qc,hFR,hL3];exact Qpp
 rw [hL3,QrQ,hLR]
 refine aS4 ?_
 refine oAl (fun b2 _=>?_) Yq
 refine YE (Q9 rfl rfl rfl Zk rfl aPt (by show 4 ≤ 4;omega) rfl) (fun _ _=>?_)
 refine aS5 ?_
 refine o_q (Qi rfl Qsi rfl (fun w1 h1=>c28 w1 1 [97] [66] (by decide) (by decide))) rfl ?_
 refine aS7 ?_
 refine Qj (L':=[(0,_),(1,_),(2,_),(3,_),(4,_),(5,_),(6,_),(7,_),(8,_),(9,_),(10,_),(11,_)]) aSx (fun _ h=>h) ?_
 refine aS4 ?_
 refine XD 4 37 41 _ _ rfl
  (by
   intro hg3
   have hs4:=hg3;try simp only [dT] at hs4
   refine oOn 37 hg3 ?_
   refine aS ?_
   refine oOn 37 hg3 ?_
   refine o_h (Qr (cs:=[_,_,_,_]) rfl rfl Qv X8 rfl rfl rfl) rfl (fun b5 _=>?_)
   refine oOn 37 hg3 ?_
   refine o_q (Qi rfl QmE rfl (fun w1 h1=>c23 w1 qa1 (some ⟨b5,0,none⟩) qc1 4 [0,3,4,5] [0,3,4,5] (HS.pown_row (P:=[0,3,4,5]) h1 aPk) (h1.rw_blk (l:=[0,3,4,5]) iv1 aPk) (by decide) (by decide))) rfl ?_
   refine o_p (Qw rfl rfl hg3 rfl) rfl ?_
   refine aS ?_
   exact oJn 4 41)
  (by
   intro hg6
   have hs7:=hg6;try simp only [dN] at hs7
   refine oOf 37 hg6 ?_
   refine oOf 37 hg6 ?_
   refine oOf 37 hg6 ?_
   refine o_p (Qs rfl rfl hg6 rfl) rfl ?_
   refine aS ?_
   exact oJn 4 41) ?_
 refine aS ?_
 refine XD 5 42 47 _ _ rfl
  (by
   intro hg8
   have hs9:=hg8;try simp only [Bool.and_eq_true,decide_eq_true_eq] at hs9
   refine oOn 42 hg8 ?_
   refine aS ?_
   refine oOn 42 hg8 ?_
   refine aS ?_
   refine oOn 42 hg8 ?_
   refine aS ?_
   refine oOn 42 hg8 ?_
   refine aS ?_
   refine o_p (Qw rfl rfl hg8 rfl) rfl ?_
   refine aS ?_
   exact oJn 5 47)
  (by
   intro hg10
   have hs11:=hg10;try simp only [Bool.and_eq_false_iff,decide_eq_false_iff_not] at hs11
   refine oOf 42 hg10 ?_
   refine oOf 42 hg10 ?_
   refine oOf 42 hg10 ?_
   refine oOf 42 hg10 ?_
   refine o_p (Qs rfl rfl hg10 rfl) rfl ?_
   refine aS ?_
   exact oJn 5 47) ?_
 refine aS ?_
 refine XD 3 48 51 _ _ rfl
  (by
   intro hg12
   have hs13:=hg12;try simp only [Bool.and_eq_true,decide_eq_true_eq] at hs13
   refine oOn 48 hg12 ?_
   refine aS ?_
   refine oOn 48 hg12 ?_
   refine aS ?_
   refine o_p (Qw rfl rfl hg12 rfl) rfl ?_
   refine aS ?_
   exact oJn 3 51)
  (by
   intro hg14
   have hs15:=hg14;try simp only [Bool.and_eq_false_iff,decide_eq_false_iff_not] at hs15
   refine oOf 48 hg14 ?_
   refine oOf 48 hg14 ?_
   refine o_p (Qs rfl rfl hg14 rfl) rfl ?_
   refine aS ?_
   exact oJn 3 51) ?_
 refine aS ?_
 refine XD 2 52 54 _ _ rfl
  (by
   intro hg16
   have hs17:=hg16;try simp only [Bool.and_eq_true,decide_eq_true_eq] at hs17
   refine oOn 52 hg16 ?_
   refine aS ?_
   refine o_p (Qw rfl rfl hg16 rfl) rfl ?_
   refine aS ?_
   exact oJn 2 54)
  (by
   intro hg18
   have hs19:=hg18;try simp only [Bool.and_eq_false_iff,decide_eq_false_iff_not] at hs19
   refine oOf 52 hg18 ?_
   refine o_p (Qs rfl rfl hg18 rfl) rfl ?_
   refine aS ?_
   exact oJn 2 54) ?_
 refine aS ?_
 refine XD 4 55 59 _ _ rfl
  (by
   intro hg20
   have hs21:=hg20;try simp only [Bool.and_eq_true,decide_eq_true_eq] at hs21
   refine oOn 55 hg20 ?_
   refine aS ?_
   refine oOn 55 hg20 ?_
   refine o_h (Qr (cs:=[_,_,_]) rfl rfl Qv X8 rfl rfl rfl) rfl (fun b22 _=>?_)
   refine oOn 55 hg20 ?_
   refine o_q (Qi rfl QmE rfl (fun w1 h1=>c23 w1 qa2 (some ⟨b22,0,none⟩) qc2 3 [0,5,2] [0,5,2] (HS.pown_row (P:=[0,5,2]) h1 aPk) (h1.rw_blk (l:=[0,5,2]) iv1 aPk) (by decide) (by decide))) rfl ?_
   refine o_p (Qw rfl rfl hg20 rfl) rfl ?_
   refine aS ?_
   exact oJn 4 59)
  (by
   intro hg23
   have hs24:=hg23;try simp only [Bool.and_eq_false_iff,decide_eq_false_iff_not] at hs24
   refine oOf 55 hg23 ?_
   refine oOf 55 hg23 ?_
   refine oOf 55 hg23 ?_
   refine o_p (Qs rfl rfl hg23 rfl) rfl ?_
   refine aS ?_
   exact oJn 4 59) ?_
 refine aS ?_
 refine XD 3 60 63 _ _ rfl
  (by
   intro hg25
   have hs26:=hg25;try simp only [Bool.and_eq_true,decide_eq_true_eq] at hs26
   refine oOn 60 hg25 ?_
   refine aS ?_
   refine oOn 60 hg25 ?_
   refine aS ?_
   refine o_p (Qw rfl rfl hg25 rfl) rfl ?_
   refine aS ?_
   exact oJn 3 63)
  (by
   intro hg27
   have hs28:=hg27;try simp only [Bool.and_eq_false_iff,decide_eq_false_iff_not] at hs28
   refine oOf 60 hg27 ?_
   refine oOf 60 hg27 ?_
   refine o_p (Qs rfl rfl hg27 rfl) rfl ?_
   refine aS ?_
   exact oJn 3 63) ?_
 refine aS ?_
 refine XD 4 64 68 _ _ rfl
  (by
   intro hg29
   have hs30:=hg29;try simp only [Bool.and_eq_true,decide_eq_true_eq] at hs30
   refine oOn 64 hg29 ?_
   refine aS ?_
   refine oOn 64 hg29 ?_
   refine o_h (Qr (cs:=[_,_,_,_]) rfl rfl Qv X8 rfl rfl rfl) rfl (fun b31 _=>?_)
   refine oOn 64 hg29 ?_
   refine o_q (Qi rfl QmE rfl (fun w1 h1=>c23 w1 qa3 (some ⟨b31,0,none⟩) qc3 4 [0,1,2,5] [0,1,2,5] (HS.pown_row (P:=[0,1,2,5]) h1 aPk) (h1.rw_blk (l:=[0,1,2,5]) iv1 aPk) (by decide) (by decide))) rfl ?_
   refine o_p (Qw rfl rfl hg29 rfl) rfl ?_
   refine aS ?_
   exact oJn 4 68)
  (by
   intro hg32
   have hs33:=hg32;try simp only [Bool.and_eq_false_iff,decide_eq_false_iff_not] at hs33
   refine oOf 64 hg32 ?_
   refine oOf 64 hg32 ?_
   refine oOf 64 hg32 ?_
   refine o_p (Qs rfl rfl hg32 rfl) rfl ?_
   refine aS ?_
   exact oJn 4 68) ?_
 refine aS ?_
 refine XD 5 69 74 _ _ rfl
  (by
   intro hg34
   have hs35:=hg34;try simp only [Bool.and_eq_true,decide_eq_true_eq] at hs35
   refine oOn 69 hg34 ?_
   refine aS ?_
   refine oOn 69 hg34 ?_
   refine aS ?_
   refine oOn 69 hg34 ?_
   refine aS ?_
   refine oOn 69 hg34 ?_
   refine aS ?_
   refine o_p (Qw rfl rfl hg34 rfl) rfl ?_
   refine aS ?_
   exact oJn 5 74)
  (by
   intro hg36
   have hs37:=hg36;try simp only [Bool.and_eq_false_iff,decide_eq_false_iff_not] at hs37
   refine oOf 69 hg36 ?_
   refine oOf 69 hg36 ?_
   refine oOf 69 hg36 ?_
   refine oOf 69 hg36 ?_
   refine o_p (Qs rfl rfl hg36 rfl) rfl ?_
   refine aS ?_
   exact oJn 5 74) ?_
 refine aS ?_
 refine XD 3 75 78 _ _ rfl
  (by
   intro hg38
   have hs39:=hg38;try simp only [Bool.and_eq_true,decide_eq_true_eq] at hs39
   refine oOn 75 hg38 ?_
   refine aS ?_
   refine oOn 75 hg38 ?_
   refine aS ?_
   refine o_p (Qw rfl rfl hg38 rfl) rfl ?_
   refine aS ?_
   exact oJn 3 78)
  (by
   intro hg40
   have hs41:=hg40;try simp only [Bool.and_eq_false_iff,decide_eq_false_iff_not] at hs41
   refine oOf 75 hg40 ?_
   refine oOf 75 hg40 ?_
   refine o_p (Qs rfl rfl hg40 rfl) rfl ?_
   refine aS ?_
   exact oJn 3 78) ?_
 refine aS ?_
 refine XD 3 79 82 _ _ rfl
  (by
   intro hg42
   have hs43:=hg42;try simp only [Bool.and_eq_true,decide_eq_true_eq] at hs43
   refine oOn 79 hg42 ?_
   refine aS ?_
   refine oOn 79 hg42 ?_
   refine aS ?_
   refine o_p (Qw rfl rfl hg42 rfl) rfl ?_
   refine aS ?_
   exact oJn 3 82)
  (by
   intro hg44
   have hs45:=hg44;try simp only [Bool.and_eq_false_iff,decide_eq_false_iff_not] at hs45
   refine oOf 79 hg44 ?_
   refine oOf 79 hg44 ?_
   refine o_p (Qs rfl rfl hg44 rfl) rfl ?_
   refine aS ?_
   exact oJn 3 82) ?_
 refine aS2 ?_
 exact rT rfl rfl (fun w' h'=>⟨by rfl,h'.below⟩)
end Go.Proofs
namespace Gx
open Go Go.RowKit
section
variable {X : Ctx} {ops : Array Oper} {F : List Nat} {fuel i : Nat} {listed : Array Bool} {k : List KI} {L : Qq} {d ty : Nat} {op : Op} {pos : String} {aft : Array Edge} {w0 : World} {M : List Nat} {As Bs : List HA}
end
end Gx
namespace Gx
open Go Go.RowKit Go.Proofs
section
variable {w0 w : World} {M : List Nat} {As As' : List HA}
end
abbrev siz0 (co mo rm : Int) : Int:=if Q5 co = 0 then Yl mo rm else Q5 co
abbrev cE1 (co : Int) (a : List UInt8) : Int:=if Q5 co = 0 then XM co a else Q5 co
end Gx
namespace Gx
open Go Go.RowKit
def Xt (n : Nat) (S : List Int) : List Value:=(List.range n).map fun k=>Value.bool (decide (((k : Nat) : Int) ∈ S))
theorem Qaq (n : Nat) (S : List Int) : (Xt n S).length = n:=by simp [Xt]
theorem Qao {n k : Nat} {S : List Int} (h : k < n) : (Xt n S)[k]? = some (.bool (decide (((k : Nat) : Int) ∈ S))):=by
 unfold Xt;rw [List.getElem?_map,List.getElem?_range h];rfl
theorem Qhk {n k : Nat} {S : List Int} (h : k < n) : Qy (Xt n S) k [.bool true] = Xt n (((k : Nat) : Int) :: S):=by
 apply List.ext_getElem?;intro i;show ((Xt n S).set k (.bool true))[i]? = _;rw [List.getElem?_set]
 by_cases hi : i < n
 ·rw [Qao hi]
  by_cases e : k = i
  ·subst e;rw [if_pos rfl,if_pos (by rw [Qaq];exact h),Qao h,decide_eq_true (List.mem_cons_self ..)]
  ·rw [if_neg e,Qao hi];congr 2;have hne : ((i : Nat) : Int) ≠ ((k : Nat) : Int):=by omega
   simp [List.mem_cons,hne]
 ·rw [if_neg (by omega),List.getElem?_eq_none (by rw [Qaq];omega),List.getElem?_eq_none (by rw [Qaq];omega)]
theorem QlL {n : Nat} {c : Int} {S : List Int} (h : c ∈ S) : Xt n (c :: S) = Xt n S:=by
 unfold Xt;apply List.map_congr_left;intro k _;congr 1
 by_cases e : ((k : Nat) : Int) ∈ S
 ·rw [decide_eq_true e,decide_eq_true (List.mem_cons_of_mem _ e)]
 ·rw [decide_eq_false e,decide_eq_false (fun h2=>by
   rcases List.mem_cons.1 h2 with h3 | h3
   ·exact e (h3 ▸ h)
   ·exact e h3)]
theorem Qju {t : Tre} {i : Nat} {S : List Int} (h : ¬ (nth t.ns i).us = true) : XV t i S = if (0 < i ∧ i + 1 < t.ns.length) ∧ (nth t.ns i).es.length + (nth t.ns i).cs.length = 0 then (0,S) else (3,S):=by
 unfold XV;simp only [];rw [if_neg h]
section
variable {t : Tre} {i : Nat} {S : List Int} {n : Nd}
theorem Qnw (hn : nth t.ns i = n) (hu : n.us = true) (h : ¬ (n.es.length : Int) ≤ Yh t.mo t.rm i) : XV t i S = (16,S):=by
 subst hn;unfold XV;simp only [];rw [if_pos hu,if_neg h]
theorem QnH (hn : nth t.ns i = n) (hu : n.us = true) (h : (n.es.length : Int) ≤ Yh t.mo t.rm i) (h2 : ¬ (n.cs.length = 0 ∨ n.cs.length = n.es.length + 1)) : XV t i S = (10,S):=by
 subst hn;unfold XV;simp only [];rw [if_pos hu,if_pos h,if_neg h2]
theorem QoB (hn : nth t.ns i = n) (hu : n.us = true) (h : (n.es.length : Int) ≤ Yh t.mo t.rm i) (h2 : n.cs.length = 0 ∨ n.cs.length = n.es.length + 1) (h3 : ¬ Y0 t.co n.es = 0) : XV t i S = (Y0 t.co n.es,S):=by
 subst hn;unfold XV;simp only [];rw [if_pos hu,if_pos h,if_pos h2,if_neg h3]
theorem Qi1 (hn : nth t.ns i = n) (hu : n.us = true) (h : (n.es.length : Int) ≤ Yh t.mo t.rm i) (h2 : n.cs.length = 0 ∨ n.cs.length = n.es.length + 1) (h3 : Y0 t.co n.es = 0) (h4 : ¬ (XT t.ns n.cs S).1 = 0) : XV t i S = XT t.ns n.cs S:=by
 subst hn;unfold XV;simp only [];rw [if_pos hu,if_pos h,if_pos h2,if_pos h3,if_neg h4]
theorem QjC (hn : nth t.ns i = n) (hu : n.us = true) (h : (n.es.length : Int) ≤ Yh t.mo t.rm i) (h2 : n.cs.length = 0 ∨ n.cs.length = n.es.length + 1) (h3 : Y0 t.co n.es = 0) (h4 : (XT t.ns n.cs S).1 = 0) : XV t i S = (ZE t.co n.es,(XT t.ns n.cs S).2):=by
 subst hn;unfold XV;simp only [];rw [if_pos hu,if_pos h,if_pos h2,if_pos h3,if_pos h4]
end
theorem QgN {es : List Int} {k : Nat} (hk : k < es.length) (h : ∀ j,j < k → es.getD j 0 = 0) (h2 : es.getD k 0 ≠ 0) : XQ es 0 = ((k : Int),es.getD k 0):=by
 have key : ∀ i,i ≤ k → XQ es 0 = XQ (es.drop i) i:=by
  intro i
  induction i with
  | zero=>intro _;rfl
  | succ i ih=>
   intro hi;rw [ih (by omega),ZO (by omega),if_pos (h i (by omega))]
 rw [key k (Nat.le_refl _),ZO hk,if_neg h2]
theorem Qft {es : List Int} (h : ∀ j,j < es.length → es.getD j 0 = 0) : XQ es 0 = (0,0):=by
 have key : ∀ i,i ≤ es.length → XQ es 0 = XQ (es.drop i) i:=by
  intro i
  induction i with
  | zero=>intro _;rfl
  | succ i ih=>
   intro hi;rw [ih (by omega),ZO (by omega),if_pos (h i (by omega))]
 rw [key _ (Nat.le_refl _),List.drop_length];rfl
theorem QmX {co : Int} {es : List TEnt} {k : Nat} (hk : k < es.length) (h1 : ∀ q,q < k → X7 co (nth es q) = 0) (h2 : ¬ X7 co (nth es k) = 0) : Y0 co es = X7 co (nth es k):=by
 unfold Y0;rw [QgN (es:=es.map (X7 co)) (k:=k) (by rw [List.length_map];exact hk) (fun q hq=>by rw [Qa3 (by omega)];exact h1 q hq) (by rw [Qa3 hk];exact h2),Qa3 hk]
theorem Qlb {co : Int} {es : List TEnt} (h1 : ∀ q,q < es.length → X7 co (nth es q) = 0) : Y0 co es = 0:=by
 unfold Y0;rw [Qft (fun q hq=>by rw [List.length_map] at hq;rw [Qa3 hq];exact h1 q hq)]
theorem Qmg {co : Int} {es : List TEnt} {k : Nat} (hk : k < es.length) (h1 : ∀ q,q < k → Qaa co es q = 0) (h2 : ¬ Qaa co es k = 0) : ZE co es = Qaa co es k:=by
 unfold ZE;rw [QgN (es:=(List.range es.length).map (Qaa co es)) (k:=k) (by simpa using hk) (fun q hq=>by rw [Qbs (by omega)];exact h1 q hq) (by rw [Qbs hk];exact h2),Qbs hk]
theorem Qmy {co : Int} {es : List TEnt} (h1 : ∀ q,q < es.length → Qaa co es q = 0) : ZE co es = 0:=by
 unfold ZE;rw [Qft (fun q hq=>by rw [List.length_map,List.length_range] at hq;rw [Qbs hq];exact h1 q hq)]
theorem Qqd {co : Int} {es : List TEnt} (h : ∀ x ∈ es,X7 co x = 0) : Y0 co es = 0:=by
 unfold Y0;refine QcR.2 fun e he=>?_;obtain ⟨x,hx,rfl⟩:=List.mem_map.1 he;exact h x hx
theorem QqD {co : Int} {es : List TEnt} (h : Asc co es) : ZE co es = 0:=by
 unfold ZE;refine QcR.2 fun e he=>?_;obtain ⟨k,hk,rfl⟩:=List.mem_map.1 he;have hk:=List.mem_range.1 hk;unfold Qaa;rw [if_pos];rcases Nat.eq_zero_or_pos k with h0 | h0
 ·exact .inl h0
 ·refine .inr ?_;have:=h (k - 1) (by omega)
  rwa [show k - 1 + 1 = k by omega] at this
theorem Qlf {ns : List Nd} : ∀ {cs seen : List Int},(∀ c ∈ cs,(1 ≤ c ∧ c ≤ (ns.length : Int) - 1) ∧ (nth ns c.toNat).us = true) → (seen.reverse ++ cs).Nodup → XT ns cs seen = (0,cs.reverse ++ seen)
 | [],seen,_,_=>rfl
 | c :: cs,seen,h,hn=>by
  have hc : c ∉ seen:=fun hm=>by
   have h1:=List.nodup_append.1 hn;exact h1.2.2 c (List.mem_reverse.2 hm) c (List.mem_cons_self ..) rfl
  rw [XT,if_pos (h c (List.mem_cons_self ..)),if_neg hc,Qlf (fun x hx=>h x (List.mem_cons_of_mem _ hx)) (by rw [List.reverse_cons,List.append_assoc];exact hn),List.reverse_cons,List.append_assoc];rfl
theorem QqO {t : Tre} {i : Nat} {seen : List Int} (hT : TOk t.co t.ns) (hi : i < t.ns.length) (hm : (nth t.ns i).us = true → ((nth t.ns i).es.length : Int) ≤ Yh t.mo t.rm i) (hn : (seen.reverse ++ (nth t.ns i).cs).Nodup) : XV t i seen = (0,(nth t.ns i).cs.reverse ++ seen):=by
 cases hu : (nth t.ns i).us with
 | true=>
  have hk:=Qlf (hT.kid i hi) hn;rw [QjC rfl hu (hm hu) (hT.shape i hi) (Qqd (hT.ents i hi)) (by rw [hk]),hk,QqD (hT.asc i hi)]
 | false=>
  have h1:=hT.free i hi hu;rw [Qju (by rw [hu];decide),if_pos ⟨h1.1,by rw [h1.2.1,h1.2.2];rfl⟩,h1.2.2];rfl
theorem Qnm {t : Tre} (hT : TOk t.co t.ns) (hm : ∀ i,i < t.ns.length → (nth t.ns i).us = true → ((nth t.ns i).es.length : Int) ≤ Yh t.mo t.rm i) : ∀ (f i : Nat) (seen : List Int),i + f = t.ns.length → (seen.reverse ++ (t.ns.drop i).flatMap Nd.cs).Nodup → (XR t f i seen).2 = 0
 | 0,i,seen,_,_=>rfl
 | f + 1,i,seen,hf,hn=>by
  have hi : i < t.ns.length:=by omega
  have e : t.ns.drop i = nth t.ns i :: t.ns.drop (i + 1):=QcH hi;rw [e,List.flatMap_cons,← List.append_assoc] at hn;have h1:=QqO hT hi (hm i hi) (List.nodup_append.1 hn).1;rw [XR,h1,if_pos rfl];refine Qnm hT hm f (i + 1) _ (by omega) ?_;rw [List.reverse_append,List.reverse_reverse];exact hn
theorem Qik {lo hi d : Nat} : ∀ {ks : List BT},(∀ k ∈ ks,Bal lo hi d k) → ∀ p ∈ Qz ks,lo ≤ p.2.es.length ∧ p.2.es.length ≤ hi:=by
 induction d with
 | zero=>
  intro ks h p hp;obtain ⟨k,hk,hp⟩:=Qaj (k:=default) hp;have hb:=h k hk;cases k with
  | nd i es js=>
   have e : js = []:=hb.1;rw [e,BT.nodes,Qz] at hp;rcases List.mem_cons.1 hp with rfl | hp
   ·exact hb.2
   ·cases hp
 | succ d ih=>
  intro ks h p hp;obtain ⟨k,hk,hp⟩:=Qaj (k:=default) hp;have hb:=h k hk;cases k with
  | nd i es js=>
   rw [BT.nodes] at hp;rcases List.mem_cons.1 hp with rfl | hp
   ·exact hb.2
   ·exact ih hb.1.2 p hp
theorem Qmd {ns : List Nd} {lo hi : Nat} : ∀ {d f : Nat} {T : BT},Bel lo hi d T → NIn ns T → d < f → btN ns f T.idx = T
 | d,0,_,_,_,h=>absurd h (Nat.not_lt_zero _)
 | 0,f + 1,.nd i es ks,hB,hN,_=>by
  have hk:=Qfx hB;subst hk;show btN ns (f + 1) i = _;rw [btN,hN.root.2];rfl
 | d + 1,f + 1,.nd i es ks,hB,hN,h=>by
  show btN ns (f + 1) i = _;rw [btN,hN.root.2];show BT.nd i es ((QL ks).map fun c=>btN ns f c.toNat) = _;congr 1;refine List.ext_getElem (by rw [List.length_map,QR]) fun k h1 h2=>?_;rw [List.getElem_map]
  have e : (QL ks)[k]'(by rw [QR];exact h2) = ((nth ks k).idx : Int):=by
   have:=QcE h2;rw [List.getD_eq_getElem?_getD,List.getElem?_eq_getElem (by rw [QR];exact h2)] at this;exact this
  rw [e,Int.toNat_natCast,Qmd (Qby hB h2) (hN.kid h2) (by omega),show nth ks k = ks[k] from Q3 (List.getElem?_eq_getElem h2)]
theorem QjD {ns : List Nd} {lo hi : Nat} : ∀ {d f : Nat} {T : BT},Bel lo hi d T → NIn ns T → d < f → X3 ns f T.idx = (d : Int)
 | d,0,_,_,_,h=>absurd h (Nat.not_lt_zero _)
 | 0,f + 1,.nd i es ks,hB,hN,_=>by
  have hk:=Qfx hB;subst hk;show X3 ns (f + 1) i = _;rw [X3,hN.root.2];exact if_pos rfl
 | d + 1,f + 1,.nd i es ks,hB,hN,h=>by
  have hl : 0 < ks.length:=by have:=hB.1;simp only [BT.ks,BT.es] at this;omega
  show X3 ns (f + 1) i = _;rw [X3,hN.root.2,if_neg (by show ¬ (QL ks).length = 0;rw [QR];omega)];show X3 ns f ((QL ks).getD 0 0).toNat + 1 = _;rw [QcE hl,Int.toNat_natCast,QjD (Qby hB hl) (hN.kid hl) (by omega)];simp
section
variable {co : Int} {es : List TEnt} {ks : List BT} {k : Nat}
theorem Qpz (hs : Srt co (QF es ks)) (h : ks.length = es.length + 1) (hk : k < es.length) {x : TEnt} (hx : x ∈ (nth ks k).flat) : QO co x.key (nth es k).key < 0:=by
 obtain ⟨B,hB⟩:=Qf3 (.inr h) (k:=k + 1) (by omega);rw [hB,Y9 hk,Yp (by omega)] at hs;have h1:=(List.pairwise_append.1 hs).1;exact (List.pairwise_append.1 h1).2.2 x (List.mem_append_right _ hx) _ (List.mem_singleton.2 rfl)
theorem Qpu (hs : Srt co (QF es ks)) (h : ks.length = es.length + 1) (hk : k < es.length) {x : TEnt} (hx : x ∈ (nth ks (k + 1)).flat) : QO co (nth es k).key x.key < 0:=by
 obtain ⟨B,hB⟩:=QdJ (.inr h) (k:=k + 1) (by omega);rw [hB,Yp (by omega),Y9 hk] at hs;have h1:=(List.pairwise_append.1 hs).1;exact (List.pairwise_append.1 h1).2.2 _ (List.mem_append_right _ (List.mem_singleton.2 rfl)) x hx
theorem Qor (hs : Srt co (QF es ks)) (h : ks.length = es.length + 1) (hk : k < ks.length) : Srt co (nth ks k).flat:=by
 obtain ⟨B,hB⟩:=QdJ (.inr h) (k:=k) (by omega);rw [hB,Yp (by omega)] at hs;exact (List.pairwise_append.1 (List.pairwise_append.1 hs).1).2.1
end
theorem QmU {co : Int} {ns : List Nd} {lo hi : Nat} : ∀ {d f : Nat} {T : BT} {v : Vis},Bel lo hi d T → NIn ns T → d < f → v.i = T.idx → Srt co T.flat → (∀ x ∈ T.flat,InB co v.lo v.hi x) → ∀ u ∈ vis ns f v,(∀ x ∈ (nth ns u.i).es,InB co u.lo u.hi x) ∧ ((nth ns u.i).cs.length = 0 → u.d = v.d + (d : Int))
 | d,0,_,_,_,_,h,_,_,_,_,_=>absurd h (Nat.not_lt_zero _)
 | 0,f + 1,.nd i es ks,v,hB,hN,_,hv,hs,hb,u,hu=>by
  have hk:=Qfx hB;subst hk;have hi : v.i = i:=hv;rw [vis,hi,hN.root.2] at hu;rcases List.mem_cons.1 hu with rfl | hu
  ·rw [hi,hN.root.2];rw [BT.flat,Q2] at hb;exact ⟨hb,fun _=>by simp⟩
  ·cases hu
 | d + 1,f + 1,.nd i es ks,v,hB,hN,h,hv,hs,hb,u,hu=>by
  have hi : v.i = i:=hv;have hl : ks.length = es.length + 1:=hB.1;rw [BT.flat] at hs hb;rw [vis,hi,hN.root.2] at hu;rcases List.mem_cons.1 hu with rfl | hu
  ·rw [hi,hN.root.2];refine ⟨fun x hx=>hb x ((Qa1 es ks).subset hx),fun h9=>?_⟩;have h8 : (QL ks).length = 0:=h9;rw [QR] at h8;omega
  ·obtain ⟨k,hk,hu⟩:=List.mem_flatMap.1 hu;have hk:=List.mem_range.1 hk;have hk : k < ks.length:=by rw [← QR];exact hk
   have hj : ((QL ks).getD k 0).toNat = (nth ks k).idx:=by rw [QcE hk,Int.toNat_natCast]
   have h1:=QmU (co:=co) (f:=f) (v:=⟨((QL ks).getD k 0).toNat,v.d + 1,loK es k v.lo,hiK es k v.hi⟩) (Qby hB hk) (hN.kid hk) (by omega) hj (Qor hs hl hk) (fun x hx=>?_) u hu
   ·refine ⟨h1.1,fun h9=>?_⟩;rw [h1.2 h9];show v.d + 1 + (d : Int) = _;simp only [Int.natCast_add,Int.natCast_one];omega
   ·have h2:=hb x (Qjd hl hk hx);refine ⟨fun b hb2=>?_,fun b hb2=>?_⟩
    ·change loK es k v.lo = some b at hb2
     unfold loK at hb2
     by_cases h0 : 0 < k
     ·rw [if_pos h0] at hb2;injection hb2 with hb2
      subst hb2;obtain ⟨q,rfl⟩ : ∃ q,k = q + 1:=⟨k - 1,by omega⟩;exact Qpu hs hl (by omega) hx
     ·rw [if_neg h0] at hb2;exact h2.1 b hb2
    ·change hiK es k v.hi = some b at hb2
     unfold hiK at hb2
     by_cases h0 : k < es.length
     ·rw [if_pos h0] at hb2;injection hb2 with hb2
      subst hb2;exact Qpz hs hl h0 hx
     ·rw [if_neg h0] at hb2;exact h2.2 b hb2
theorem QlQ {ns : List Nd} {below : List Nat} : ∀ {f i : Nat},(∀ j,i ≤ j → j < i + f → (nth ns j).us = true → j ∈ below) → Zq ns below f i = none
 | 0,i,_=>rfl
 | f + 1,i,h=>by
  rw [Zq,if_neg (fun h1=>h1.2 (h i (Nat.le_refl _) (by omega) h1.1))];exact QlQ fun j h1 h2=>h j (by omega) (by omega)
theorem QmD {t : Tre} {deep : Int} : ∀ {vs : List Vis},(∀ v ∈ vs,QaS t deep v = 0) → (X4 t deep vs).2 = 0
 | [],_=>rfl
 | v :: vs,h=>by
  rw [X4,if_pos (h v (List.mem_cons_self ..))];exact QmD fun u hu=>h u (List.mem_cons_of_mem _ hu)
theorem QmF {lo hi : Nat} : ∀ {d : Nat} {T : BT},Bel lo hi d T → d < T.nodes.length
 | 0,.nd i es ks,h=>by
  rw [BT.nodes];exact Nat.succ_pos _
 | d + 1,.nd i es ks,h=>by
  have hl : 0 < ks.length:=by have:=h.1;simp only [BT.ks,BT.es] at this;omega
  have h1:=QmF (Qby h hl);rw [BT.nodes];cases ks with
  | nil=>cases hl
  | cons k ks=>
   rw [Qz,List.length_cons,List.length_append];have e : nth (k :: ks) 0 = k:=rfl;rw [e] at h1;omega
theorem QqX {t : Tre} {lo hi rt d : Nat} {T : BT} (hc : Q5 t.co = 0) (hse : Yl t.mo t.rm = 0) (hz : Sz t.mo t.rm lo hi rt) (hR : QS t.ns T) (hV : VT t.co lo hi rt d T) (hu : XA t.ns) (hl : t.ns.length ≤ 120) : (XP t).2 = 0:=by
 have hT:=Qi6 hR hV hu;have hroot:=hR.root;have h0 : 0 < t.ns.length:=by omega
 have hN:=hR.nin;have hdl : d < t.ns.length:=Nat.lt_of_lt_of_le (QmF hV.bel) hR.nlen;have hw : Gx.Way t.ns [0]:=rfl
 have hbt : btN t.ns t.ns.length 0 = T:=by
  have:=Qmd hV.bel hN hdl
  rwa [hV.idx] at this
 have hvb:=Qie hT h0 t.ns.length YV [] hw (by simp);rw [show YV.i = 0 from rfl,hbt] at hvb
 have hes : ∀ p ∈ T.nodes,p.1 = 0 ∨ (lo ≤ p.2.es.length ∧ p.2.es.length ≤ hi):=fun p hp=>by
  cases T with
  | nd i es ks=>
   rw [BT.nodes] at hp;rcases List.mem_cons.1 hp with rfl | hp
   ·exact .inl hV.idx
   ·cases d with
    | zero=>
     rw [Qfx hV.bel,Qz] at hp;cases hp
    | succ d=>exact .inr (Qik hV.bel.2 p hp)
 have hin : ∀ i,i < t.ns.length → (nth t.ns i).us = true → (i,nth t.ns i) ∈ T.nodes:=fun i hi hus=>by
  by_cases hm : i ∈ T.nodes.map Prod.fst
  ·obtain ⟨p,hp,rfl⟩:=List.mem_map.1 hm;rw [(hN p hp).2];exact hp
  ·rw [RepN.rest hR i hi hm] at hus;cases hus
 have hmost : ∀ i,i < t.ns.length → (nth t.ns i).us = true → ((nth t.ns i).es.length : Int) ≤ Yh t.mo t.rm i:=fun i hi hus=>by
  unfold Yh;have e1:=hz.emo;have e2:=hz.erm
  by_cases h9 : i = 0
  ·subst h9;rw [if_pos rfl];have h8:=hroot.2;rw [hV.idx] at h8;rw [h8];have:=hV.root;simp only;omega
  ·rw [if_neg h9];rcases hes _ (hin i hi hus) with h | h
   ·exact absurd h h9
   ·simp only at h;omega
 have hnods:=Qnm (t:=t) hT hmost t.ns.length 0 [] (by omega) (by rw [List.drop_zero];exact hT.once);unfold XP;rw [if_pos hc,if_pos hse,if_pos h0,if_pos hl,if_pos hnods]
 have hop : Zq t.ns ((Yx t.ns).map Vis.i) t.ns.length 0 = none:=QlQ fun j _ h2 hus=>by
  show j ∈ (vis t.ns t.ns.length YV).map Vis.i;rw [hvb];exact List.mem_map.2 ⟨_,hin j (by omega) hus,rfl⟩
 rw [hop]
 have hdeep : X3 t.ns t.ns.length 0 = (d : Int):=by
  have:=QjD hV.bel hN hdl
  rwa [hV.idx] at this
 refine QmD fun u huv=>?_;have h1:=QmU (co:=t.co) (v:=YV) hV.bel hN hdl hV.idx.symm hV.srt (fun x _=>⟨fun b h=>(nomatch h),fun b h=>(nomatch h)⟩) u huv
 have hmem : u.i ∈ T.nodes.map Prod.fst:=by
  rw [← hvb];exact List.mem_map.2 ⟨u,huv,rfl⟩
 obtain ⟨p,hp,hpu⟩:=List.mem_map.1 hmem;have hpn:=hN p hp;rw [hpu] at hpn;rw [ZZ,if_neg,if_neg,if_neg]
 ·intro h9;rw [hdeep] at h9;have:=h1.2 h9.1;have e : YV.d = 1:=rfl;omega
 ·unfold Za;intro h9;obtain ⟨x,hx,ho⟩:=List.any_eq_true.1 h9;have h8:=h1.1 x hx;rcases Qg5.1 ho with ⟨b,hb,hle⟩ | ⟨b,hb,hle⟩
  ·have:=h8.1 b hb;omega
  ·have:=h8.2 b hb;omega
 ·unfold Zh;intro h9;simp only [Bool.and_eq_true,Bool.or_eq_true,decide_eq_true_eq] at h9;have e1:=hz.emo;have e2:=hz.erm;have e3:=hz.elo;rcases hes p hp with h | h
  ·omega
  ·rw [hpn.2] at h9;rcases h9.2 with h8 | h8
   ·omega
   ·have h7:=hroot.2;rw [hV.idx] at h7;rw [h7] at h8;have hnil : T.es = []:=List.eq_nil_of_length_eq_zero h8.1.1;have hm9 : (u.i : Int) ∈ QL T.ks:=h8.1.2;obtain ⟨k,hk,hke⟩:=List.mem_map.1 hm9
    have hone : T.ks = [k]:=by
     have hs:=hV.bel.cs;rcases hs with hs | hs
     ·rw [hs] at hk;cases hk
     ·rw [hnil] at hs;cases hks : T.ks with
      | nil=>
       rw [hks] at hk;cases hk
      | cons q qs=>
       rw [hks] at hs hk;have : qs = []:=List.eq_nil_of_length_eq_zero (by simpa using hs);subst this;rcases List.mem_singleton.1 hk with rfl
       rfl
    have hg:=hV.gap hnil k hone
    have hkn : (u.i,(⟨true,k.es,QL k.ks⟩ : Nd)) ∈ T.nodes:=by
     have : k.idx = u.i:=by omega
     rw [← this];cases T with
     | nd i es ks=>
      rw [BT.nodes];refine List.mem_cons_of_mem _ (Qce (k:=k) hk ?_);cases k with
      | nd a b c=>
       rw [BT.nodes];exact List.mem_cons_self ..
    have h6:=(hN _ hkn).2;simp only at h6;rw [hpn.2] at h6;have h5:=h8.2;rw [h6] at h5;simp only at h5;omega
end Gx
namespace Go.Proofs
open Go Go.RowKit Gx
attribute [local irreducible] Go.Calls Gx.S Gx.O Gx.D Gx.OpP Gx.OpQ Gx.OpH
set_option maxRecDepth 20000
theorem Qo4 : QT Tryz.prog 13 = true:=by kernel_rfl
theorem QrR : QT Tryz.prog 30 = true:=by kernel_rfl
theorem Qrd : QT Tryz.prog 31 = true:=by kernel_rfl
theorem QkL : QT Tryz.prog 19 = true:=by kernel_rfl
set_option maxHeartbeats 400000 in
theorem c85 (w : World) (j : Nat) (mo rm : Int) (a : Option Addr) (cap : Nat) (L : List LNd) (i sb scap tot : Nat) (S : List Int) (hw : HS w (fps [.blk sb 4 tot (Xt L.length S)]) [.blk sb 4 tot (Xt L.length S)] w) (hs : Nt w (fps [.blk sb 4 tot (Xt L.length S)]) a L) (hj : j ≤ 3) (hi : i < L.length) (hl : L.length ≤ 1000) (hel : (nth L i).es.length ≤ 1000) (hcl : (nth L i).cs.length ≤ 1000) (hK : ∀ x ∈ (nth L i).es,x.key.length ≤ 1000000) : Calls Tryz.prog 85 #[.agg #[.int .i64 (j : Int),.int .i64 mo,.int .i64 rm,.slice a L.length cap],.int .i64 (i : Int),.slice (some ⟨sb,0,none⟩) L.length scap] w fun en w'=>∃ g : Unit,en = .returned (.int .i64 (XV (⟨(j : Int),mo,rm,pln L⟩ : Tre) i S).1) ∧ True ∧ HS w (fps [.blk sb 4 tot (Xt L.length S)]) [.blk sb 4 tot (Xt L.length (XV (⟨(j : Int),mo,rm,pln L⟩ : Tre) i S).2)] w':=by
 have hNI:=Qh hi
 have hnl : (pln L).length = L.length:=Qc L
 refine enter (args:=[_,_,_]) Tryz.func85 Tryz.ntmps85 rfl rfl hw ?_
 refine aS2 ?_
 refine oBx fun b1 _=>?_
 refine aS7 ?_
 refine o_p (Qa rfl rfl rfl Qp (i) (by omega) (by omega) (Rw.some hs.1 (by omega))) rfl ?_
 refine o_q (QY _ rfl rfl Xh rfl (Rw.rd hs.1 hi)) rfl ?_
 refine oAl (fun b2 _=>?_) Xa
 refine oSt ?_
 refine aS8 ?_
 refine Qd rfl (fun h3=>?_) fun h3=>?_
 ·try simp only [Bool.not_eq_true'] at h3
  have hu9 : ¬ (nth L i).us = true:=by have hq:=h3;simp [hq]
  have hun:=Qju (t:=(⟨(j : Int),mo,rm,pln L⟩ : Tre)) (S:=S) (i:=i) (by rw [show ((⟨(j : Int),mo,rm,pln L⟩ : Tre)).ns = pln L from rfl,hNI];exact hu9)
  rw [show ((⟨(j : Int),mo,rm,pln L⟩ : Tre)).ns = pln L from rfl,hNI,hnl] at hun
  refine aS6 ?_
  refine QaT 7 24 31 _ _ rfl
   (by
    intro hg4
    have hs5:=hg4;try simp only [dN] at hs5
    refine oOn 24 hg4 ?_
    refine aS ?_
    refine oOn 24 hg4 ?_
    refine aS ?_
    try refine oWr ?_
    refine oOn 24 hg4 ?_
    refine aS ?_
    refine oOn 24 hg4 ?_
    refine aS ?_
    refine oOn 24 hg4 ?_
    refine aS ?_
    refine oOn 24 hg4 ?_
    refine aS ?_
    refine o_p (Qs rfl rfl hg4 rfl) rfl ?_
    refine aS ?_
    exact oJn 7 31)
   (by
    intro hg6
    have hs7:=hg6;try simp only [dT] at hs7
    refine oOf 24 hg6 ?_
    refine oOf 24 hg6 ?_
    refine oOf 24 hg6 ?_
    refine oOf 24 hg6 ?_
    refine oOf 24 hg6 ?_
    refine oOf 24 hg6 ?_
    refine o_p (Qw rfl rfl hg6 rfl) rfl ?_
    refine aS ?_
    exact oJn 7 31) ?_
  refine aS ?_
  refine QaT 5 32 37 _ _ rfl
   (by
    intro hg8
    have hs9:=hg8;try simp only [Bool.or_eq_false_iff,decide_eq_false_iff_not] at hs9
    refine oOn 32 hg8 ?_
    refine aS ?_
    refine oOn 32 hg8 ?_
    refine aS ?_
    refine oOn 32 hg8 ?_
    refine aS ?_
    refine oOn 32 hg8 ?_
    refine aS ?_
    refine o_p (Qs rfl rfl hg8 rfl) rfl ?_
    refine aS ?_
    exact oJn 5 37)
   (by
    intro hg10
    have hs11:=hg10;try simp only [Bool.or_eq_true,decide_eq_true_eq] at hs11
    refine oOf 32 hg10 ?_
    refine oOf 32 hg10 ?_
    refine oOf 32 hg10 ?_
    refine oOf 32 hg10 ?_
    refine o_p (Qw rfl rfl hg10 rfl) rfl ?_
    refine aS ?_
    exact oJn 5 37) ?_
  refine aS ?_
  refine QaT 5 38 43 _ _ rfl
   (by
    intro hg12
    have hs13:=hg12;try simp only [Bool.or_eq_false_iff,decide_eq_false_iff_not] at hs13
    refine oOn 38 hg12 ?_
    refine aS ?_
    refine oOn 38 hg12 ?_
    refine aS ?_
    refine oOn 38 hg12 ?_
    refine aS ?_
    refine oOn 38 hg12 ?_
    refine aS ?_
    refine o_p (Qs rfl rfl hg12 rfl) rfl ?_
    refine aS ?_
    exact oJn 5 43)
   (by
    intro hg14
    have hs15:=hg14;try simp only [Bool.or_eq_true,decide_eq_true_eq] at hs15
    refine oOf 38 hg14 ?_
    refine oOf 38 hg14 ?_
    refine oOf 38 hg14 ?_
    refine oOf 38 hg14 ?_
    refine o_p (Qw rfl rfl hg14 rfl) rfl ?_
    refine aS ?_
    exact oJn 5 43) ?_
  refine aS ?_
  refine Qd rfl (fun h16=>?_) fun h16=>?_
  ·try simp only [Bool.or_eq_true,decide_eq_true_eq] at h16
   have hn9 : ¬ ((0 < i ∧ i + 1 < L.length) ∧ (nth L i).es.length + (nth L i).cs.length = 0):=by have hq:=h16;omega
   have hun2 : (XV (⟨(j : Int),mo,rm,pln L⟩ : Tre) i S) = (3,S):=by rw [hun];exact if_neg hn9
   refine aS4 ?_
   exact rT rfl rfl (fun w' h'=>⟨(),by rw [hun2];rfl,trivial,by rw [hun2];exact h'.ent aEt⟩)
  try simp only [Bool.or_eq_false_iff,decide_eq_false_iff_not] at h16
  have hn9 : (0 < i ∧ i + 1 < L.length) ∧ (nth L i).es.length + (nth L i).cs.length = 0:=by have hq:=h16;omega
  have hun2 : (XV (⟨(j : Int),mo,rm,pln L⟩ : Tre) i S) = (0,S):=by rw [hun];exact if_pos hn9
  refine aS5 ?_
  exact rT rfl rfl (fun w' h'=>⟨(),by rw [hun2];rfl,trivial,by rw [hun2];exact h'.ent aEt⟩)
 try simp only [Bool.not_eq_false'] at h3
 have hu9 : (nth L i).us = true:=by have hq:=h3;simpa using hq
 iterate 13 refine aS ?_
 refine Qj (L':=[(2,_),(3,_),(6,_),(7,_),(8,_),(47,_)]) aSx (fun _ h=>h) ?_
 refine Qc5 (α:=Unit) [8,48,49] (fun _=>[(8,.int .i64 (Yh mo rm i))]) (fun _=>True) ?_ ?_
 ·skip
  refine Qd rfl (fun h17=>?_) fun h17=>?_
  ·try simp only [dT] at h17
   have hi0 : i = 0:=by have hq:=h17;omega
   refine aS5 ?_
   exact Qn () trivial (by rw [show Yh mo rm i = rm from if_pos hi0];exact aSx) (fun w h=>h)
  try simp only [dN] at h17
  have hi0 : ¬ i = 0:=by have hq:=h17;omega
  refine aS ?_
  exact Qn () trivial (by rw [show Yh mo rm i = mo from if_neg hi0];exact aSx) (fun w h=>h)
 intro _ _
 refine aS9 ?_
 refine Qd rfl (fun h18=>?_) fun h18=>?_
 ·try simp only [dT] at h18
  have h16 : (XV (⟨(j : Int),mo,rm,pln L⟩ : Tre) i S) = (16,S):=Qnw (t:=(⟨(j : Int),mo,rm,pln L⟩ : Tre)) hNI hu9 (by show ¬ ((nth L i).es.length : Int) ≤ Yh mo rm i;have hq:=h18;omega)
  refine aS4 ?_
  exact rT rfl rfl (fun w' h'=>⟨(),by rw [h16];rfl,trivial,by rw [h16];exact h'.ent aEt⟩)
 try simp only [dN] at h18
 have hM9 : ((nth L i).es.length : Int) ≤ Yh mo rm i:=by have hq:=h18;omega
 refine aS9 ?_
 refine XD 9 59 68 _ _ rfl
  (by
   intro hg19
   have hs20:=hg19;try simp only [dT] at hs20
   refine oOn 59 hg19 ?_
   refine aS ?_
   refine oOn 59 hg19 ?_
   refine aS ?_
   refine oOn 59 hg19 ?_
   refine aS ?_
   refine oOn 59 hg19 ?_
   refine aS ?_
   refine oOn 59 hg19 ?_
   refine aS ?_
   refine oOn 59 hg19 ?_
   refine aS ?_
   refine oOn 59 hg19 ?_
   refine aS ?_
   try refine oWr ?_
   refine oOn 59 hg19 ?_
   refine aS ?_
   refine o_p (Qw rfl rfl hg19 rfl) rfl ?_
   refine aS ?_
   exact oJn 9 68)
  (by
   intro hg21
   have hs22:=hg21;try simp only [dN] at hs22
   refine oOf 59 hg21 ?_
   refine oOf 59 hg21 ?_
   refine oOf 59 hg21 ?_
   refine oOf 59 hg21 ?_
   refine oOf 59 hg21 ?_
   refine oOf 59 hg21 ?_
   refine oOf 59 hg21 ?_
   refine oOf 59 hg21 ?_
   refine o_p (Qs rfl rfl hg21 rfl) rfl ?_
   refine aS ?_
   exact oJn 9 68) ?_
 refine aS ?_
 refine Qd rfl (fun h23=>?_) fun h23=>?_
 ·try simp only [Bool.and_eq_true,decide_eq_true_eq,Bool.not_eq_true',decide_eq_false_iff_not] at h23
  have h10 : (XV (⟨(j : Int),mo,rm,pln L⟩ : Tre) i S) = (10,S):=QnH (t:=(⟨(j : Int),mo,rm,pln L⟩ : Tre)) hNI hu9 hM9 (by show ¬ ((nth L i).cs.length = 0 ∨ (nth L i).cs.length = (nth L i).es.length + 1);have hq:=h23;omega)
  refine aS4 ?_
  exact rT rfl rfl (fun w' h'=>⟨(),by rw [h10];rfl,trivial,by rw [h10];exact h'.ent aEt⟩)
 try simp only [Bool.and_eq_false_iff,decide_eq_false_iff_not,Bool.not_eq_false',decide_eq_true_eq] at h23
 have hS9 : (nth L i).cs.length = 0 ∨ (nth L i).cs.length = (nth L i).es.length + 1:=by have hq:=h23;omega
 refine aS7 ?_
 refine Qj (L':=[(2,_),(3,_),(6,_),(7,_),(9,_)]) aSx (fun _ h=>h) ?_
 refine QN (α:=Nat) [6,9,10,69,70,71,72,73,74,75,76,77,78,79,80,81,82,83,84,85,86] (fun k=>[(9,.int .i64 (k : Int))]) (fun _=>HS w (fps [.blk sb 4 tot (Xt L.length S)]) [.blk sb 4 tot (Xt L.length S),.blk b1 24 4 [.int .i64 (j : Int),.int .i64 mo,.int .i64 rm,.slice a L.length cap],.blk b2 102 3 (LNd.vals (nth L i))]) (fun k=>k ≤ (nth L i).es.length ∧ ∀ q,q < k → X7 (j : Int) (nth (nth L i).es q) = 0) (fun k=>(nth L i).es.length - k) 0 ⟨Nat.zero_le _,fun j h=>absurd h (Nat.not_lt_zero j)⟩ aSx (fun w h=>h.ent aEt) (fun k hx=>?_)
 obtain ⟨hk1,hk3⟩:=hx
 refine aS9 ?_
 refine Qd rfl (fun h24=>?_) fun h24=>?_
 ·try simp only [dT] at h24
  have hk5 : k < (nth L i).es.length:=by omega
  refine aS4 ?_
  refine QE [] QH ?_
  refine dFa 0 ?_
  refine dLd 1 [] ?_
  refine dFa 2 ?_
  refine dLd 3 [] ?_
  refine dP 4 ?_
  refine dV 5 rfl (Qa rfl rfl rfl QB (k) (by omega) (by omega) (Rw.some (hs.es hi) (by omega))) ?_
  refine dQ 6 [] rfl (QY _ rfl rfl XC rfl (Rw.rd (hs.es hi) hk5)) ?_
  refine dQ 7 [] rfl (Qi rfl QkL rfl (fun w1 h1=>c19 w1 j (nth (nth L i).es k) hj (hK _ (Q1 hk5)))) ?_
  refine dP 8 ?_
  refine dNi ?_
  refine aS5 ?_
  refine Qd rfl (fun h25=>?_) fun h25=>?_
  ·try simp only [Bool.not_eq_true',decide_eq_false_iff_not] at h25
   have hz6 : ¬ X7 (j : Int) (nth (nth L i).es k) = 0:=h25
   have hEb:=QmX hk5 hk3 hz6
   have hEe : (XV (⟨(j : Int),mo,rm,pln L⟩ : Tre) i S) = (X7 (j : Int) (nth (nth L i).es k),S):=by rw [← hEb];exact QoB (t:=(⟨(j : Int),mo,rm,pln L⟩ : Tre)) hNI hu9 hM9 hS9 (by show ¬ Y0 (j : Int) (nth L i).es = 0;rw [hEb];exact hz6)
   refine aS5 ?_
   exact rT rfl rfl (fun w' h'=>⟨(),by rw [hEe];rfl,trivial,by rw [hEe];exact h'.ent aEt⟩)
  try simp only [Bool.not_eq_false',decide_eq_true_eq] at h25
  have hz6 : X7 (j : Int) (nth (nth L i).es k) = 0:=by have hq:=h25;omega
  refine aS5 ?_
  try refine oWr ?_
  refine aS2 ?_
  exact QD (k + 1) (by omega) ⟨by omega,fun q hq=>(Nat.lt_or_ge q k).elim (hk3 q) (fun h9=>by obtain rfl : q = k:=(by omega);exact hz6)⟩ aSx (fun w h=>h.ent aEt)
 try simp only [dN] at h24
 have hEn : ∀ q,q < (nth L i).es.length → X7 (j : Int) (nth (nth L i).es q) = 0:=fun q hq=>hk3 q (by omega)
 have hE0 : Y0 (j : Int) (nth L i).es = 0:=Qlb hEn
 refine Qu rfl ?_
 refine aS6 ?_
 refine QN (α:=Nat × List Int) [6,11,12,87,88,89,90,91,92,93,94,95,96,97,98,99,100,101,102,103,104,105,106,107,108,109,110,111,112,113,114,115,116,117,118,119,120,121] (fun y=>[(11,.int .i64 (y.1 : Int))]) (fun y=>HS w (fps [.blk sb 4 tot (Xt L.length S)]) [.blk sb 4 tot (Xt L.length y.2),.blk b1 24 4 [.int .i64 (j : Int),.int .i64 mo,.int .i64 rm,.slice a L.length cap],.blk b2 102 3 (LNd.vals (nth L i))]) (fun y=>y.1 ≤ (nth L i).cs.length ∧ (XT (pln L) (nth L i).cs S) = XT (pln L) ((nth L i).cs.drop y.1) y.2) (fun y=>(nth L i).cs.length - y.1) (0,S) ⟨Nat.zero_le _,rfl⟩ aSx (fun w h=>h.ent aEt) (fun ⟨k,Sk⟩ hx=>?_)
 dsimp only
 obtain ⟨hk1,hk3⟩:=hx
 simp only [] at hk1 hk3
 refine aS9 ?_
 refine Qd rfl (fun h26=>?_) fun h26=>?_
 ·try simp only [dT] at h26
  have hk5 : k < (nth L i).cs.length:=by omega
  have hkd9 : nth (nth L i).cs k = ((nth L i).cs.getD k 0):=rfl
  have hst:=QbP hk5
  rw [hst,QaG] at hk3
  refine aS8 ?_
  refine o_p (Qa rfl rfl rfl Qv (k) (by omega) (by omega) (Rw.some (hs.cs hi) (by omega))) rfl ?_
  refine o_q (Qe rfl rfl Xq (((hs.cs hi).rdj 0 hk5 rfl))) rfl ?_
  refine Qm (show _ = Value.int .i64 ((nth L i).cs.getD k 0) from rfl) ?_
  refine Zf ?_
  try refine oWr ?_
  refine o_q (Qi rfl Qb0 rfl (fun w1 h1=>c46 w1 _ _ _)) rfl ?_
  refine aS2 ?_
  refine QaT 8 106 114 _ _ rfl
   (by
    intro hg27
    have hs28:=hg27;try simp only [Bool.not_eq_false',Bool.and_eq_true,decide_eq_true_eq] at hs28
    refine oOn 106 hg27 ?_
    refine aS ?_
    refine oOn 106 hg27 ?_
    refine aS ?_
    refine oOn 106 hg27 ?_
    refine aS ?_
    refine oOn 106 hg27 ?_
    refine o_p (Qa rfl rfl rfl Qp (((nth L i).cs.getD k 0).toNat) (by omega) (by omega) (Rw.some hs.1 (by omega))) rfl ?_
    refine oOn 106 hg27 ?_
    refine aS ?_
    refine oOn 106 hg27 ?_
    refine o_q (Qe rfl rfl QcQ ((hs.1.rdj 0 (i:=((nth L i).cs.getD k 0).toNat) (by omega) rfl))) rfl ?_
    refine oOn 106 hg27 ?_
    refine aS ?_
    refine o_p (Qs rfl rfl hg27 rfl) rfl ?_
    refine aS ?_
    exact oJn 8 114)
   (by
    intro hg29
    have hs30:=hg29;try simp only [Bool.not_eq_true',Bool.and_eq_false_iff,decide_eq_false_iff_not] at hs30
    refine oOf 106 hg29 ?_
    refine oOf 106 hg29 ?_
    refine oOf 106 hg29 ?_
    refine oOf 106 hg29 ?_
    refine oOf 106 hg29 ?_
    refine oOf 106 hg29 ?_
    refine oOf 106 hg29 ?_
    refine o_p (Qw rfl rfl hg29 rfl) rfl ?_
    refine aS ?_
    exact oJn 8 114) ?_
  refine aS ?_
  refine Qd rfl (fun h31=>?_) fun h31=>?_
  ·try simp only [Bool.or_eq_true,Bool.not_eq_true',Bool.and_eq_false_iff,decide_eq_false_iff_not] at h31
   have hko : ¬ Qb1 (pln L) ((nth L i).cs.getD k 0):=by rintro ⟨h91,h92⟩;rw [hnl] at h91;rw [Qh (by omega)] at h92;have hq:=h31;exact hq.elim (fun hq=>by omega) (fun hq=>by rw [show (nth L ((nth L i).cs.getD k 0).toNat).pl.us = (nth L ((nth L i).cs.getD k 0).toNat).us from rfl,hq] at h92;cases h92)
   have hk6e : (XV (⟨(j : Int),mo,rm,pln L⟩ : Tre) i S) = (6,Sk):=by have h8 : Qba (pln L) ((nth L i).cs.getD k 0) Sk = 6:=if_neg hko;have h7 : QcK (pln L) ((nth L i).cs.getD k 0) Sk = Sk:=if_neg hko;rw [h8,h7,if_neg (by decide)] at hk3;rw [← hk3];exact Qi1 (t:=(⟨(j : Int),mo,rm,pln L⟩ : Tre)) hNI hu9 hM9 hS9 hE0 (by show ¬ (XT (pln L) (nth L i).cs S).1 = 0;rw [hk3];show ¬ (6 : Int) = 0;decide)
   refine aS ?_
   refine Qj (L':=[(2,_),(3,_),(7,_),(9,_),(11,_),(12,_),(69,_),(70,_),(71,_),(72,_),(73,_)]) aSx (fun _ h=>h) ?_
   refine aS3 ?_
   exact rT rfl rfl (fun w' h'=>⟨(),by rw [hk6e];rfl,trivial,by rw [hk6e];exact h'.ent aEt⟩)
  try simp only [Bool.or_eq_false_iff,Bool.not_eq_false',Bool.and_eq_true,decide_eq_true_eq] at h31
  have hko : Qb1 (pln L) ((nth L i).cs.getD k 0):=by have hq:=h31;refine ⟨by rw [hnl];exact hq.1,?_⟩;rw [Qh (by omega)];exact hq.2
  have hko1:=hko.1
  rw [hnl] at hko1
  have hcv2 : ((nth L i).cs.getD k 0).toNat < L.length:=by omega
  have hcc : ((((nth L i).cs.getD k 0).toNat : Nat) : Int) = ((nth L i).cs.getD k 0):=Int.toNat_of_nonneg (by omega)
  have h7 : QcK (pln L) ((nth L i).cs.getD k 0) Sk = ((nth L i).cs.getD k 0) :: Sk:=if_pos hko
  rw [h7] at hk3
  have hsv:=Qhk (n:=L.length) (S:=Sk) hcv2
  rw [hcc] at hsv
  refine aS3 ?_
  refine Qj (L':=[(2,_),(3,_),(7,_),(9,_),(11,_),(12,_),(69,_),(70,_),(71,_),(72,_),(73,_)]) aSx (fun _ h=>h) ?_
  refine aS3 ?_
  refine o_p (Qa rfl rfl rfl QaB (((nth L i).cs.getD k 0).toNat) (by omega) (by omega) rfl) rfl ?_
  refine Qm (show _ = Value.pointer (some ⟨sb,((nth L i).cs.getD k 0).toNat,none⟩) from by rw [Nat.zero_add,Nat.mul_one]) ?_
  refine o_q (Qg rfl rfl QcQ (fun w h=>h.rd_blk (Mc:=[]) aPk (Qao hcv2) (by simp))) rfl ?_
  refine aS ?_
  refine Qd rfl (fun h32=>?_) fun h32=>?_
  ·try simp only [dT] at h32
   have hmem : ((nth L i).cs.getD k 0) ∈ Sk:=by have hq:=h32;rw [hcc] at hq;exact hq
   have h8 : Qba (pln L) ((nth L i).cs.getD k 0) Sk = 23:=by rw [Qba,if_pos hko,if_pos hmem]
   rw [h8,if_neg (by decide)] at hk3
   have hk23 : (XV (⟨(j : Int),mo,rm,pln L⟩ : Tre) i S) = (23,((nth L i).cs.getD k 0) :: Sk):=by rw [← hk3];exact Qi1 (t:=(⟨(j : Int),mo,rm,pln L⟩ : Tre)) hNI hu9 hM9 hS9 hE0 (by show ¬ (XT (pln L) (nth L i).cs S).1 = 0;rw [hk3];show ¬ (23 : Int) = 0;decide)
   refine aS4 ?_
   exact rT rfl rfl (fun w' h'=>⟨(),by rw [hk23];rfl,trivial,by rw [hk23,QlL hmem];exact h'.ent aEt⟩)
  try simp only [dN] at h32
  have hmem : ¬ ((nth L i).cs.getD k 0) ∈ Sk:=by have hq:=h32;rw [hcc] at hq;exact hq
  have h8 : Qba (pln L) ((nth L i).cs.getD k 0) Sk = 0:=by rw [Qba,if_pos hko,if_neg hmem]
  rw [h8,if_pos rfl] at hk3
  have hk9:=hk3
  refine aS4 ?_
  refine o_p (Qa rfl rfl rfl QaB (((nth L i).cs.getD k 0).toNat) (by omega) (by omega) rfl) rfl ?_
  refine Qm (show _ = Value.pointer (some ⟨sb,((nth L i).cs.getD k 0).toNat,none⟩) from by rw [Nat.zero_add,Nat.mul_one]) ?_
  refine YE (Q9 rfl rfl rfl QcQ rfl aPt (by rw [Qaq];show _ + 1 ≤ _;omega) rfl) (fun _ _=>?_)
  refine aS5 ?_
  try refine oWr ?_
  refine aS2 ?_
  exact QD (k + 1,((nth L i).cs.getD k 0) :: Sk) (by (try simp only []);omega) ⟨by (try simp only []);omega,hk9⟩ aSx (fun w h=>by have h2:=h;rw [show Qy (Xt L.length Sk) ((nth L i).cs.getD k 0).toNat (Value.cells (.bool true)).toList = Xt L.length (((nth L i).cs.getD k 0) :: Sk) from hsv] at h2;exact h2.ent aEt)
 try simp only [dN] at h26
 have hdr9 : (nth L i).cs.drop k = []:=List.drop_of_length_le (by omega)
 rw [hdr9] at hk3
 have hK0 : (XT (pln L) (nth L i).cs S).1 = 0:=by rw [hk3];rfl
 have hK2 : (XT (pln L) (nth L i).cs S).2 = Sk:=by rw [hk3];rfl
 have hOr : (XV (⟨(j : Int),mo,rm,pln L⟩ : Tre) i S) = (ZE (j : Int) (nth L i).es,(XT (pln L) (nth L i).cs S).2):=by have h9:=QjC (t:=(⟨(j : Int),mo,rm,pln L⟩ : Tre)) (i:=i) (S:=S) (n:=(nth L i).pl) hNI hu9 hM9 hS9 hE0 hK0;exact h9
 refine Qu rfl ?_
 refine aS6 ?_
 refine QN (α:=Nat) [6,13,122,123,124,125,126,127,128,129,130,131,132,133,134,135,136,137,138,139,140,141,142,143,144,145] (fun k=>[(13,.int .i64 (k : Int))]) (fun _=>HS w (fps [.blk sb 4 tot (Xt L.length S)]) [.blk sb 4 tot (Xt L.length (XT (pln L) (nth L i).cs S).2),.blk b1 24 4 [.int .i64 (j : Int),.int .i64 mo,.int .i64 rm,.slice a L.length cap],.blk b2 102 3 (LNd.vals (nth L i))]) (fun k=>1 ≤ k ∧ ∀ q,q < k → Qaa (j : Int) (nth L i).es q = 0) (fun k=>(nth L i).es.length - k) 1 ⟨Nat.le_refl _,fun q h=>if_pos (.inl (by omega))⟩ aSx (fun w h=>by rw [hK2];exact h.ent aEt) (fun k hx=>?_)
 obtain ⟨hk1,hk3b⟩:=hx
 refine aS9 ?_
 refine Qd rfl (fun h33=>?_) fun h33=>?_
 ·try simp only [dT] at h33
  have hk5 : k < (nth L i).es.length:=by omega
  have hk6 : k - 1 < (nth L i).es.length:=by omega
  refine aS4 ?_
  refine QE [] QH ?_
  refine dFa 0 ?_
  refine dLd 1 [] ?_
  refine dFa 2 ?_
  refine dLd 3 [] ?_
  refine dP 4 ?_
  refine dP 5 ?_
  try refine dWr ?_
  refine dV 6 rfl (Qa rfl rfl rfl QB (k - 1) (by omega) (by omega) (Rw.some (hs.es hi) (by omega))) ?_
  refine dFa 7 ?_
  refine dQ 8 [] rfl (Qe rfl rfl Zb (((hs.es hi).rdj 0 hk6 rfl))) ?_
  refine dFa 9 ?_
  refine dLd 10 [] ?_
  refine dP 11 ?_
  refine dV 12 rfl (Qa rfl rfl rfl QB (k) (by omega) (by omega) (Rw.some (hs.es hi) (by omega))) ?_
  refine dFa 13 ?_
  refine dQ 14 [] rfl (Qe rfl rfl Zb (((hs.es hi).rdj 0 hk5 rfl))) ?_
  refine dQ 15 [] rfl (Qi rfl Qds rfl (fun w1 h1=>c33 w1 j (nth (nth L i).es (k - 1)).key (nth (nth L i).es k).key hj (Yo (hEn _ hk6)) (Yo (hEn _ hk5)) (hK _ (Q1 hk6)) (hK _ (Q1 hk5)))) ?_
  refine dP 16 ?_
  refine dNi ?_
  refine Qd rfl (fun h34=>?_) fun h34=>?_
  ·try simp only [dT] at h34
   have hz11 : ¬ Qaa (j : Int) (nth L i).es k = 0:=by unfold Qaa;rw [if_neg (by have hq:=h34;omega)];decide
   have hOb:=Qmg hk5 hk3b hz11
   have hOv : Qaa (j : Int) (nth L i).es k = 9:=if_neg (by have hq:=h34;omega)
   refine aS ?_
   refine Qj (L':=[(2,_),(3,_),(7,_),(9,_),(11,_),(13,_),(69,_),(70,_),(71,_),(72,_),(73,_),(87,_),(88,_),(89,_),(90,_),(91,_)]) aSx (fun _ h=>h) ?_
   refine aS3 ?_
   exact rT rfl rfl (fun w' h'=>⟨(),by rw [hOr,hOb,hOv];rfl,trivial,by rw [hOr];exact h'.ent aEt⟩)
  try simp only [dN] at h34
  have hz11 : Qaa (j : Int) (nth L i).es k = 0:=if_pos (.inr (by have hq:=h34;omega))
  refine aS2 ?_
  refine Qj (L':=[(2,_),(3,_),(7,_),(9,_),(11,_),(13,_),(69,_),(70,_),(71,_),(72,_),(73,_),(87,_),(88,_),(89,_),(90,_),(91,_)]) aSx (fun _ h=>h) ?_
  refine aS3 ?_
  try refine oWr ?_
  refine aS2 ?_
  exact QD (k + 1) (by omega) ⟨by omega,fun q hq=>(Nat.lt_or_ge q k).elim (hk3b q) (fun h9=>by obtain rfl : q = k:=(by omega);exact hz11)⟩ aSx (fun w h=>h.ent aEt)
 try simp only [dN] at h33
 have hO0 : ZE (j : Int) (nth L i).es = 0:=Qmy (fun q hq=>hk3b q (by omega))
 refine Qu rfl ?_
 refine aS4 ?_
 exact rT rfl rfl (fun w' h'=>⟨(),by rw [hOr,hO0];rfl,trivial,by rw [hOr];exact h'.ent aEt⟩)
end Go.Proofs
namespace Gx
open Go Go.RowKit
def mkS (vs : List Vis) (S : List Int) : List Int:=(vs.map fun v=>((v.i : Nat) : Int)).reverse ++ S
theorem Qoa (A B : List Vis) (S : List Int) : mkS (A ++ B) S = mkS B (mkS A S):=by simp [mkS]
theorem QnW {vs : List Vis} {c : Int} : c ∈ mkS vs [] ↔ ∃ v ∈ vs,((v.i : Nat) : Int) = c:=by simp [mkS]
end Gx
namespace Go.Proofs
open Go Go.RowKit Gx
attribute [local irreducible] Go.Calls Gx.S Gx.O Gx.D Gx.OpP Gx.OpQ Gx.OpH
set_option maxRecDepth 20000
theorem QoV : QT Tryz.prog 86 = true:=by kernel_rfl
def MkC (j : Nat) (mo rm : Int) (a : Option Addr) (cap : Nat) (L : List LNd) (sb scap tot : Nat) (f : Nat) : Prop:=∀ (w : World) (S : List Int) (v : Vis) (P : List Nat),(HS w (fps [.blk sb 4 tot (Xt L.length S)]) [.blk sb 4 tot (Xt L.length S)] w) → (Nt w (fps [.blk sb 4 tot (Xt L.length S)]) a L) → (TOk (j : Int) (pln L)) → (Bd (pln L)) → (0 < L.length) → (Gx.Way (pln L) (v.i :: P)) → P.length + f = L.length → Calls Tryz.prog 86 #[.agg #[.int .i64 (j : Int),.int .i64 mo,.int .i64 rm,.slice a L.length cap],.int .i64 (v.i : Int),.slice (some ⟨sb,0,none⟩) L.length scap] w fun en w'=>∃ g : Unit,en = .returned (.tuple #[]) ∧ True ∧ HS w (fps [.blk sb 4 tot (Xt L.length S)]) [.blk sb 4 tot (Xt L.length (mkS (vis (pln L) f v) S))] w'
theorem c86s (w : World) (j : Nat) (mo rm : Int) (a : Option Addr) (cap : Nat) (L : List LNd) (sb scap tot : Nat) (S : List Int) (v : Vis) (P : List Nat) (f : Nat) (hw : HS w (fps [.blk sb 4 tot (Xt L.length S)]) [.blk sb 4 tot (Xt L.length S)] w) (hs : Nt w (fps [.blk sb 4 tot (Xt L.length S)]) a L) (hT : TOk (j : Int) (pln L)) (hB : Bd (pln L)) (h0 : 0 < L.length) (hway : Gx.Way (pln L) (v.i :: P)) (hf : P.length + (f + 1) = L.length) (ih : MkC j mo rm a cap L sb scap tot f) : Calls Tryz.prog 86 #[.agg #[.int .i64 (j : Int),.int .i64 mo,.int .i64 rm,.slice a L.length cap],.int .i64 (v.i : Int),.slice (some ⟨sb,0,none⟩) L.length scap] w fun en w'=>∃ g : Unit,en = .returned (.tuple #[]) ∧ True ∧ HS w (fps [.blk sb 4 tot (Xt L.length S)]) [.blk sb 4 tot (Xt L.length (mkS (vis (pln L) (f + 1) v) S))] w':=by
 have hi0:=Z9 hT (by rw [Qc];exact h0) hway v.i (List.mem_cons_self ..)
 have hi : v.i < L.length:=by rw [Qc] at hi0;exact hi0
 have hn:=Qh hi
 have hle:=hB.len
 rw [Qc] at hle
 have hcl:=hB.cs v.i hi0
 rw [hn] at hcl
 simp only [LNd.pl] at hcl
 refine enter (args:=[_,_,_]) Tryz.func86 Tryz.ntmps86 rfl rfl hw ?_
 refine aS2 ?_
 refine oBx fun b1 _=>?_
 refine aS5 ?_
 refine o_p (Qa rfl rfl rfl QaB (v.i) (by omega) (by omega) rfl) rfl ?_
 refine Qm (show _ = Value.pointer (some ⟨sb,v.i,none⟩) from by rw [Nat.zero_add,Nat.mul_one]) ?_
 refine YE (Q9 rfl rfl rfl QcQ rfl aPt (by rw [Qaq];show _ + 1 ≤ _;omega) rfl) (fun _ _=>?_)
 refine aS6 ?_
 refine QN (α:=Nat) [6,10,11,12,13,14,15,16,17,18,19,20,21,22,23,24,25,26,27,28,29,30,31,32] (fun k=>[(6,.int .i64 (k : Int))]) (fun k=>HS w (fps [.blk sb 4 tot (Xt L.length S)]) [.blk sb 4 tot (Xt L.length (mkS (Qal (pln L) f v k) S)),.blk b1 24 4 [.int .i64 (j : Int),.int .i64 mo,.int .i64 rm,.slice a L.length cap]]) (fun k=>k ≤ (nth L v.i).cs.length) (fun k=>(nth L v.i).cs.length - k) 0 (Nat.zero_le _) aSx (fun w h=>by have h2:=h;rw [show Qy (Xt L.length S) v.i (Value.cells (.bool true)).toList = Xt L.length (((v.i : Nat) : Int) :: S) from Qhk hi] at h2;exact h2.ent aEt) (fun k hk1=>?_)
 refine aS7 ?_
 refine o_p (Qa rfl rfl rfl Qp (v.i) (by omega) (by omega) (Rw.some hs.1 (by omega))) rfl ?_
 refine aS ?_
 refine o_q (Qe rfl rfl Q8 ((hs.1.rdj 2 hi rfl))) rfl ?_
 refine aS3 ?_
 refine Qd rfl (fun h2=>?_) fun h2=>?_
 ·try simp only [dT] at h2
  have hkl : k < (nth L v.i).cs.length:=by omega
  have hkid:=Qa7 hT hi0 (k:=k) (by rw [hn];exact hkl)
  rw [hn,Qc] at hkid
  simp only [LNd.pl] at hkid
  have hway2:=Z4 hway hi0 (k:=k) (by rw [hn];exact hkl) (by rw [hn];simp only [LNd.pl];omega)
  refine aS3 ?_
  refine QE [11] QH ?_
  refine dLn 0 [[]] ?_
  refine dFa 1 ?_
  refine dLd 2 [[9,8,6,5,4]] ?_
  refine dP 3 ?_
  refine dV 4 rfl (Qa rfl rfl rfl Qp (v.i) (by omega) (by omega) (Rw.some hs.1 (by omega))) ?_
  refine dFa 5 ?_
  refine dQ 6 [[9,8]] rfl (Qe rfl rfl Q8 ((hs.1.rdj 2 hi rfl))) ?_
  refine dP 7 ?_
  refine dV 8 rfl (Qa rfl rfl rfl Qv (k) (by omega) (by omega) (Rw.some (hs.cs hi) (by omega))) ?_
  refine dQ 9 [[]] rfl (Qe rfl rfl Xq (((hs.cs hi).rdj 0 (i:=k) hkl rfl))) ?_
  refine Ql (show _ = Value.int .i64 ((XO (pln L) v k).i : Int) from by rw [XO,hn];exact congrArg (Value.int .i64) (Int.toNat_of_nonneg (show 0 ≤ (nth L v.i).cs.getD k 0 by omega)).symm) ?_
  refine dP 10 ?_
  refine dH 11 rfl (Q7 (Cs:=[.blk sb 4 tot (Xt L.length (mkS (Qal (pln L) f v k) S))]) rfl QoV rfl aPs (fun w1 h1 hf9=>ih w1 (mkS (Qal (pln L) f v k) S) (XO (pln L) v k) (v.i :: P) hf9 ((hs.keep h1).mono (Xo aPs)) hT hB h0 hway2 (by simp only [List.length_cons];omega))) (fun _ _=>?_)
  refine dTu [] ?_
  refine dNi ?_
  refine aS4 ?_
  try refine oWr ?_
  refine aS2 ?_
  exact QD (k + 1) (by omega) (by omega) aSx (fun w h=>by rw [X0,Qoa];exact h.ent aEt)
 try simp only [dN] at h2
 obtain rfl : k = (nth L v.i).cs.length:=by omega
 refine Qu rfl ?_
 exact YR rfl (fun w' h'=>⟨(),rfl,trivial,by rw [Y8,hn];exact h'.ent aEt⟩)
theorem c86 (j : Nat) (mo rm : Int) (a : Option Addr) (cap : Nat) (L : List LNd) (sb scap tot : Nat) : ∀ f,MkC j mo rm a cap L sb scap tot f
  | 0=>fun w S v P hw hs hT hB h0 hway hf=>by
    have h1:=X9 hT (by rw [Qc];exact h0) hway;rw [Qc,List.length_cons] at h1;omega
  | f + 1=>fun w S v P hw hs hT hB h0 hway hf=>c86s w j mo rm a cap L sb scap tot S v P f hw hs hT hB h0 hway hf (c86 j mo rm a cap L sb scap tot f)
end Go.Proofs
namespace Gx
open Go Go.RowKit
def StK (w : World) (p : Option Addr) (n : Nat) (o : Option (List UInt8)) : Prop:=match o with
 | none=>n = 0
 | some k=>n = 1 ∧ ∃ b off,p = some ⟨b,off,none⟩ ∧ Rd w [] b off (.string (bs k))
theorem StK.later {w w' : World} {As : List HA} {p : Option Addr} {n : Nat} {o : Option (List UInt8)} (h : StK w p n o) (hs : HS w [] As w') : StK w' p n o:=by
 cases o with
 | none=>exact h
 | some k=>
  obtain ⟨h1,b,off,h2,h3⟩:=h;exact ⟨h1,b,off,h2,h3.next hs⟩
theorem StK.of_pos {w : World} {p : Option Addr} {n : Nat} {o : Option (List UInt8)} (h : StK w p n o) (hn : 0 < n) : ∃ k b off,o = some k ∧ n = 1 ∧ p = some ⟨b,off,none⟩ ∧ Rd w [] b off (.string (bs k)):=by
 cases o with
 | none=>
  have : n = 0:=h;omega
 | some k=>
  obtain ⟨h1,b,off,h2,h3⟩:=h;exact ⟨k,b,off,rfl,h1,h2,h3⟩
theorem StK.of_no {w : World} {p : Option Addr} {n : Nat} {o : Option (List UInt8)} (h : StK w p n o) (hn : ¬ 0 < n) : o = none:=by
 cases o with
 | none=>rfl
 | some k=>
  obtain ⟨h1,_⟩:=h;omega
theorem StK.new {w : World} {b : Nat} {k : List UInt8} (h : Rd w [] b 0 (.string (bs k))) : StK w (some ⟨b,0,none⟩) 1 (some k):=⟨rfl,b,0,rfl,h⟩
theorem QdA {es : List TEnt} {k : Nat} {lo : Option (List UInt8)} (h : 0 < k) : loK es k lo = some (nth es (k - 1)).key:=if_pos h
theorem Qgh {es : List TEnt} {k : Nat} {lo : Option (List UInt8)} (h : ¬ 0 < k) : loK es k lo = lo:=if_neg h
theorem QdL {es : List TEnt} {k : Nat} {hi : Option (List UInt8)} (h : k < es.length) : hiK es k hi = some (nth es k).key:=if_pos h
theorem QfR {es : List TEnt} {k : Nat} {hi : Option (List UInt8)} (h : ¬ k < es.length) : hiK es k hi = hi:=if_neg h
theorem Yf {t : Tre} {deep : Int} : ∀ (A B : List Vis),X4 t deep (A ++ B) = if (X4 t deep A).2 = 0 then X4 t deep B else X4 t deep A
 | [],B=>rfl
 | v :: A,B=>by
  rw [List.cons_append,X4,X4]
  by_cases h : QaS t deep v = 0
  ·rw [if_pos h,if_pos h];exact Yf A B
  ·rw [if_neg h,if_neg h,if_neg h]
theorem QnV {t : Tre} {v : Vis} {N R : Nd} (hN : nth t.ns v.i = N) (hR : nth t.ns 0 = R) (h1 : R.cs.length = 0 ∨ R.cs.length = R.es.length + 1) (h2 : ∀ c ∈ R.cs,1 ≤ c) : Zh t v = true ↔ (v.i ≠ 0 ∧ (N.es.length : Int) < t.mo / 2) ∨ (((R.es.length = 0 ∧ R.cs.length = 1) ∧ R.cs.getD 0 0 = (v.i : Int)) ∧ (N.es.length : Int) ≤ t.rm):=by
 subst hN hR;unfold Zh;simp only [Bool.and_eq_true,Bool.or_eq_true,decide_eq_true_eq];constructor
 ·rintro ⟨h3,h4 | ⟨⟨h4,h5⟩,h6⟩⟩
  ·exact .inl ⟨by omega,h4⟩
  ·refine .inr ⟨⟨⟨h4,?_⟩,?_⟩,h6⟩
   ·rcases h1 with h1 | h1
    ·rw [List.eq_nil_of_length_eq_zero h1] at h5;cases h5
    ·omega
   ·have hl : (nth t.ns 0).cs.length = 1:=by
     rcases h1 with h1 | h1
     ·rw [List.eq_nil_of_length_eq_zero h1] at h5;cases h5
     ·omega
    obtain ⟨c,hc⟩:=List.length_eq_one_iff.1 hl;rw [hc] at h5 ⊢;exact (List.mem_singleton.1 h5).symm
 ·rintro (⟨h3,h4⟩ | ⟨⟨⟨h4,h5⟩,h6⟩,h7⟩)
  ·exact ⟨by omega,.inl h4⟩
  ·obtain ⟨c,hc⟩:=List.length_eq_one_iff.1 h5;have h8:=h2 c (by rw [hc];exact List.mem_singleton.2 rfl);rw [hc] at h6 ⊢;have h9 : c = (v.i : Int):=h6;exact ⟨by omega,.inr ⟨⟨h4,List.mem_singleton.2 h9.symm⟩,h7⟩⟩
theorem QgW {t : Tre} {deep : Int} {v : Vis} (h : Zh t v = true) : QaS t deep v = 14:=by rw [ZZ,if_pos h]
theorem QkK {t : Tre} {deep : Int} {v : Vis} (h : ¬ Zh t v = true) (h2 : Za t v = true) : QaS t deep v = 9:=by rw [ZZ,if_neg h,if_pos h2]
theorem Qoq {t : Tre} {deep : Int} {v : Vis} (h : ¬ Zh t v = true) (h2 : ¬ Za t v = true) (h3 : (nth t.ns v.i).cs.length = 0 ∧ v.d ≠ deep + 1) : QaS t deep v = 22:=by rw [ZZ,if_neg h,if_neg h2,if_pos h3]
theorem QoG {t : Tre} {deep : Int} {v : Vis} (h : ¬ Zh t v = true) (h2 : ¬ Za t v = true) (h3 : ¬ ((nth t.ns v.i).cs.length = 0 ∧ v.d ≠ deep + 1)) : QaS t deep v = 0:=by rw [ZZ,if_neg h,if_neg h2,if_neg h3]
theorem Qnb {t : Tre} {v : Vis} {N : Nd} {k : Nat} (hN : nth t.ns v.i = N) (hk : k < N.es.length) (h : Zs t v (nth N.es k) = true) : Za t v = true:=by
 subst hN;exact List.any_eq_true.2 ⟨_,Q1 hk,h⟩
theorem Qop {t : Tre} {v : Vis} {N : Nd} (hN : nth t.ns v.i = N) (h : ∀ q,q < N.es.length → ¬ Zs t v (nth N.es q) = true) : ¬ Za t v = true:=fun h2=>by
 subst hN;obtain ⟨x,hx,h3⟩:=List.any_eq_true.1 h2;obtain ⟨q,hq,e⟩:=List.getElem_of_mem hx;have e2 : nth (nth t.ns v.i).es q = x:=Q3 (by rw [List.getElem?_eq_getElem hq,e]);exact h q hq (by rw [e2];exact h3)
theorem Qcy {t : Tre} {v : Vis} {x : TEnt} : Zs t v x = true ↔ (∃ b,v.lo = some b ∧ 0 ≤ QO t.co b x.key) ∨ (∃ b,v.hi = some b ∧ 0 ≤ QO t.co x.key b):=by
 unfold Zs;cases v.lo <;> cases v.hi <;> simp
section
variable {t : Tre} {v : Vis} {x : TEnt} {kl kh : List UInt8}
theorem QrY (h1 : v.lo = some kl) (h : 0 ≤ QO t.co kl x.key) : (true = true ↔ Zs t v x = true):=⟨fun _=>Qcy.2 (.inl ⟨kl,h1,h⟩),fun _=>rfl⟩
theorem QrE (h1 : v.lo = some kl) (h : ¬ 0 ≤ QO t.co kl x.key) (h2 : v.hi = some kh) : (decide (QO t.co x.key kh ≥ 0) = true ↔ Zs t v x = true):=by
 rw [decide_eq_true_eq,Qcy,h1,h2];constructor
 ·exact fun h9=>.inr ⟨kh,rfl,h9⟩
 ·rintro (⟨b,hb,h9⟩ | ⟨b,hb,h9⟩)
  ·cases hb;exact absurd h9 h
  ·cases hb;exact h9
theorem Qr3 (h1 : v.lo = some kl) (h : ¬ 0 ≤ QO t.co kl x.key) (h2 : v.hi = none) : (false = true ↔ Zs t v x = true):=by
 rw [Qcy,h1,h2];constructor
 ·exact fun h9=>(nomatch h9)
 ·rintro (⟨b,hb,h9⟩ | ⟨b,hb,h9⟩)
  ·cases hb;exact absurd h9 h
  ·cases hb
theorem Qr8 (h1 : v.lo = none) (h2 : v.hi = some kh) : (decide (QO t.co x.key kh ≥ 0) = true ↔ Zs t v x = true):=by
 rw [decide_eq_true_eq,Qcy,h1,h2];constructor
 ·exact fun h9=>.inr ⟨kh,rfl,h9⟩
 ·rintro (⟨b,hb,h9⟩ | ⟨b,hb,h9⟩)
  ·cases hb
  ·cases hb;exact h9
theorem Qrt (h1 : v.lo = none) (h2 : v.hi = none) : (false = true ↔ Zs t v x = true):=by
 rw [Qcy,h1,h2];constructor
 ·exact fun h9=>(nomatch h9)
 ·rintro (⟨b,hb,h9⟩ | ⟨b,hb,h9⟩) <;> cases hb
end
theorem Qcr {t : Tre} {deep : Int} {f : Nat} {v : Vis} (h : ¬ QaS t deep v = 0) : X4 t deep (vis t.ns (f + 1) v) = ((v.i : Int),QaS t deep v):=by
 rw [vis,X4,if_neg h]
theorem QqJ {t : Tre} {deep : Int} {f : Nat} {v : Vis} (h : QaS t deep v = 0) : (X4 t deep (Qal t.ns f v 0)).2 = 0:=by
 rw [QhZ,X4,if_pos h];rfl
end Gx
namespace Go.Proofs
open Go Go.RowKit Gx
attribute [local irreducible] Go.Calls Gx.S Gx.O Gx.D Gx.OpP Gx.OpQ Gx.OpH
set_option maxRecDepth 20000
theorem Qc4 : tsl Tryz.prog 174 = some (9,1,16):=by kernel_rfl
theorem Qqc : X5 Tryz.prog 9 = some [.string (bs [])]:=by kernel_rfl
theorem QgK : QT Tryz.prog 87 = true:=by kernel_rfl
def PlC (j : Nat) (mo rm : Int) (a : Option Addr) (cap : Nat) (L : List LNd) (deep : Int) (f : Nat) : Prop:=∀ (w : World) (v : Vis) (P : List Nat) (lv : Int) (pa qa : Option Addr) (pn pc qn qc : Nat),(Nt w [] a L) → (j ≤ 3) → ((0 ≤ mo ∧ mo ≤ 1000) ∧ (0 ≤ deep ∧ deep ≤ 1000)) → (TOk (j : Int) (pln L)) → (Bd (pln L)) → (0 < L.length) → (Gx.Way (pln L) (v.i :: P)) → (v.d = (P.length : Int) + 1) → (lv = deep + 1 - v.d) → (KOk (j : Int) v.lo) → (KOk (j : Int) v.hi) → (StK w pa pn v.lo) → (StK w qa qn v.hi) → P.length + f = L.length → Calls Tryz.prog 87 #[.agg #[.int .i64 (j : Int),.int .i64 mo,.int .i64 rm,.slice a L.length cap],.int .i64 (v.i : Int),.int .i64 lv,.slice pa pn pc,.slice qa qn qc] w fun en w'=>en = .returned (.tuple #[.int .i64 (X4 (⟨(j : Int),mo,rm,pln L⟩ : Tre) deep (vis (pln L) f v)).1,.int .i64 (X4 (⟨(j : Int),mo,rm,pln L⟩ : Tre) deep (vis (pln L) f v)).2]) ∧ Below w.heap.size w w'
set_option maxHeartbeats 400000 in
theorem c87s (w : World) (j : Nat) (mo rm : Int) (a : Option Addr) (cap : Nat) (L : List LNd) (deep : Int) (v : Vis) (P : List Nat) (lv : Int) (pa qa : Option Addr) (pn pc qn qc : Nat) (f : Nat) (hs : Nt w [] a L) (hj : j ≤ 3) (hmo : (0 ≤ mo ∧ mo ≤ 1000) ∧ (0 ≤ deep ∧ deep ≤ 1000)) (hT : TOk (j : Int) (pln L)) (hB : Bd (pln L)) (h0 : 0 < L.length) (hway : Gx.Way (pln L) (v.i :: P)) (hd : v.d = (P.length : Int) + 1) (hlv : lv = deep + 1 - v.d) (hko : KOk (j : Int) v.lo) (hkp : KOk (j : Int) v.hi) (hlo : StK w pa pn v.lo) (hhi : StK w qa qn v.hi) (hf : P.length + (f + 1) = L.length) (ih : PlC j mo rm a cap L deep f) : Calls Tryz.prog 87 #[.agg #[.int .i64 (j : Int),.int .i64 mo,.int .i64 rm,.slice a L.length cap],.int .i64 (v.i : Int),.int .i64 lv,.slice pa pn pc,.slice qa qn qc] w fun en w'=>en = .returned (.tuple #[.int .i64 (X4 (⟨(j : Int),mo,rm,pln L⟩ : Tre) deep (vis (pln L) (f + 1) v)).1,.int .i64 (X4 (⟨(j : Int),mo,rm,pln L⟩ : Tre) deep (vis (pln L) (f + 1) v)).2]) ∧ Below w.heap.size w w':=by
 have hi0:=Z9 hT (by rw [Qc];exact h0) hway v.i (List.mem_cons_self ..)
 have hi : v.i < L.length:=by rw [Qc] at hi0;exact hi0
 have hn:=Qh hi
 have hn0:=Qh h0
 have hle:=hB.len
 rw [Qc] at hle
 have hwl:=X9 hT (by rw [Qc];exact h0) hway
 rw [Qc,List.length_cons] at hwl
 have hcl:=hB.cs v.i hi0
 have hel:=hB.es v.i hi0
 rw [hn] at hcl hel
 simp only [LNd.pl] at hcl hel
 have hsh:=hT.shape v.i hi0
 rw [hn] at hsh
 simp only [LNd.pl] at hsh
 have hgi:=QnV (t:=(⟨(j : Int),mo,rm,pln L⟩ : Tre)) (v:=v) hn hn0 (hn0 ▸ hT.shape 0 (by rw [Qc];exact h0)) (fun c hc=>(hT.kid 0 (by rw [Qc];exact h0) c (by rw [hn0];exact hc)).1.1)
 simp only [LNd.pl] at hgi
 have hE9:=QcC hT hi0
 rw [hn] at hE9
 simp only [LNd.pl] at hE9
 refine enter (args:=[_,_,_,_,_]) Tryz.func87 Tryz.ntmps87 rfl rfl (HS.refl w []) ?_
 refine aS2 ?_
 refine oBx fun b1 _=>?_
 refine aS8 ?_
 refine o_p (Qa rfl rfl rfl Qp (v.i) (by omega) (by omega) (Rw.some hs.1 (by omega))) rfl ?_
 refine o_q (QY _ rfl rfl Xh rfl (Rw.rd hs.1 hi)) rfl ?_
 refine oAl (fun b2 _=>?_) Xa
 refine oSt ?_
 refine aS7 ?_
 refine XD 8 27 35 _ _ rfl
  (by
   intro hg3
   have hs4:=hg3;try simp only [Bool.not_eq_true',decide_eq_false_iff_not] at hs4
   refine oOn 27 hg3 ?_
   refine aS ?_
   refine oOn 27 hg3 ?_
   refine aS ?_
   refine oOn 27 hg3 ?_
   refine aS ?_
   refine oOn 27 hg3 ?_
   refine aS ?_
   refine oOn 27 hg3 ?_
   refine aS ?_
   refine oOn 27 hg3 ?_
   refine o_p (YA rfl rfl rfl (by omega) (by omega) (by omega)) rfl ?_
   refine oOn 27 hg3 ?_
   refine aS ?_
   refine o_p (Qw rfl rfl hg3 rfl) rfl ?_
   refine aS ?_
   exact oJn 8 35)
  (by
   intro hg5
   have hs6:=hg5;try simp only [Bool.not_eq_false',decide_eq_true_eq] at hs6
   refine oOf 27 hg5 ?_
   refine oOf 27 hg5 ?_
   refine oOf 27 hg5 ?_
   refine oOf 27 hg5 ?_
   refine oOf 27 hg5 ?_
   refine oOf 27 hg5 ?_
   refine oOf 27 hg5 ?_
   refine o_p (Qs rfl rfl hg5 rfl) rfl ?_
   refine aS ?_
   exact oJn 8 35) ?_
 refine aS ?_
 refine Qd rfl (fun h7=>?_) fun h7=>?_
 ·try simp only [Bool.and_eq_true,Bool.not_eq_true',decide_eq_false_iff_not,decide_eq_true_eq] at h7
  have hgp : Zh (⟨(j : Int),mo,rm,pln L⟩ : Tre) v = true:=hgi.2 (.inl (by have hq:=h7;omega))
  have hV:=QgW (deep:=deep) hgp
  refine aS6 ?_
  exact QM (rs:=[.tmp 10,.tmp 11]) rfl (.tmp rfl (.tmp rfl (.nil))) (fun w' h'=>⟨by rw [Qcr (by rw [hV];decide),hV];rfl,h'.below⟩)
 try simp only [Bool.and_eq_false_iff,Bool.not_eq_false',decide_eq_true_eq,decide_eq_false_iff_not] at h7
 have hng1 : ¬ (v.i ≠ 0 ∧ ((nth L v.i).es.length : Int) < mo / 2):=by have hq:=h7;omega
 refine aS6 ?_
 refine o_p (Qa rfl rfl rfl Qp (0) (by omega) (by omega) (Rw.some hs.1 (by omega))) rfl ?_
 refine aS ?_
 refine o_q (Qe rfl rfl Xb ((hs.1.rdj 1 h0 rfl))) rfl ?_
 refine aS3 ?_
 refine XD 8 44 52 _ _ rfl
  (by
   intro hg8
   have hs9:=hg8;try simp only [dT] at hs9
   refine oOn 44 hg8 ?_
   refine aS ?_
   refine oOn 44 hg8 ?_
   refine aS ?_
   refine oOn 44 hg8 ?_
   refine o_p (Qa rfl rfl rfl Qp (0) (by omega) (by omega) (Rw.some hs.1 (by omega))) rfl ?_
   refine oOn 44 hg8 ?_
   refine aS ?_
   refine oOn 44 hg8 ?_
   refine o_q (Qe rfl rfl Q8 ((hs.1.rdj 2 h0 rfl))) rfl ?_
   refine oOn 44 hg8 ?_
   refine aS ?_
   refine oOn 44 hg8 ?_
   refine aS ?_
   refine o_p (Qw rfl rfl hg8 rfl) rfl ?_
   refine aS ?_
   exact oJn 8 52)
  (by
   intro hg10
   have hs11:=hg10;try simp only [dN] at hs11
   refine oOf 44 hg10 ?_
   refine oOf 44 hg10 ?_
   refine oOf 44 hg10 ?_
   refine oOf 44 hg10 ?_
   refine oOf 44 hg10 ?_
   refine oOf 44 hg10 ?_
   refine oOf 44 hg10 ?_
   refine o_p (Qs rfl rfl hg10 rfl) rfl ?_
   refine aS ?_
   exact oJn 8 52) ?_
 refine aS ?_
 refine XD 10 53 63 _ _ rfl
  (by
   intro hg12
   have hs13:=hg12;try simp only [Bool.and_eq_true,decide_eq_true_eq] at hs13
   refine oOn 53 hg12 ?_
   refine aS ?_
   refine oOn 53 hg12 ?_
   refine aS ?_
   refine oOn 53 hg12 ?_
   refine o_p (Qa rfl rfl rfl Qp (0) (by omega) (by omega) (Rw.some hs.1 (by omega))) rfl ?_
   refine oOn 53 hg12 ?_
   refine aS ?_
   refine oOn 53 hg12 ?_
   refine o_q (Qe rfl rfl Q8 ((hs.1.rdj 2 h0 rfl))) rfl ?_
   refine oOn 53 hg12 ?_
   refine o_p (Qa rfl rfl rfl Qv (0) (by omega) (by omega) (Rw.some (hs.cs h0) (by omega))) rfl ?_
   refine oOn 53 hg12 ?_
   refine o_q (Qe rfl rfl Xq (((hs.cs h0).rdj 0 (i:=0) (by omega) rfl))) rfl ?_
   refine oOn 53 hg12 ?_
   refine aS ?_
   refine oOn 53 hg12 ?_
   refine aS ?_
   refine o_p (Qw rfl rfl hg12 rfl) rfl ?_
   refine aS ?_
   exact oJn 10 63)
  (by
   intro hg14
   have hs15:=hg14;try simp only [Bool.and_eq_false_iff,decide_eq_false_iff_not] at hs15
   refine oOf 53 hg14 ?_
   refine oOf 53 hg14 ?_
   refine oOf 53 hg14 ?_
   refine oOf 53 hg14 ?_
   refine oOf 53 hg14 ?_
   refine oOf 53 hg14 ?_
   refine oOf 53 hg14 ?_
   refine oOf 53 hg14 ?_
   refine oOf 53 hg14 ?_
   refine o_p (Qs rfl rfl hg14 rfl) rfl ?_
   refine aS ?_
   exact oJn 10 63) ?_
 refine aS ?_
 refine XD 7 64 71 _ _ rfl
  (by
   intro hg16
   have hs17:=hg16;try simp only [Bool.and_eq_true,decide_eq_true_eq] at hs17
   refine oOn 64 hg16 ?_
   refine aS ?_
   refine oOn 64 hg16 ?_
   refine aS ?_
   refine oOn 64 hg16 ?_
   refine aS ?_
   refine oOn 64 hg16 ?_
   refine aS ?_
   refine oOn 64 hg16 ?_
   refine aS ?_
   refine oOn 64 hg16 ?_
   refine aS ?_
   refine o_p (Qw rfl rfl hg16 rfl) rfl ?_
   refine aS ?_
   exact oJn 7 71)
  (by
   intro hg18
   have hs19:=hg18;try simp only [Bool.and_eq_false_iff,decide_eq_false_iff_not] at hs19
   refine oOf 64 hg18 ?_
   refine oOf 64 hg18 ?_
   refine oOf 64 hg18 ?_
   refine oOf 64 hg18 ?_
   refine oOf 64 hg18 ?_
   refine oOf 64 hg18 ?_
   refine o_p (Qs rfl rfl hg18 rfl) rfl ?_
   refine aS ?_
   exact oJn 7 71) ?_
 refine aS ?_
 refine Qd rfl (fun h20=>?_) fun h20=>?_
 ·try simp only [Bool.and_eq_true,decide_eq_true_eq] at h20
  have hgp : Zh (⟨(j : Int),mo,rm,pln L⟩ : Tre) v = true:=hgi.2 (.inr (by have hq:=h20;exact ⟨⟨⟨by omega,by omega⟩,hq.1.2⟩,by omega⟩))
  have hV:=QgW (deep:=deep) hgp
  refine aS ?_
  refine Qj (L':=[(1,_),(2,_),(3,_),(4,_),(5,_),(10,_),(11,_),(12,_)]) aSx (fun _ h=>h) ?_
  refine aS5 ?_
  exact QM (rs:=[.tmp 10,.tmp 11]) rfl (.tmp rfl (.tmp rfl (.nil))) (fun w' h'=>⟨by rw [Qcr (by rw [hV];decide),hV];rfl,h'.below⟩)
 try simp only [Bool.and_eq_false_iff,decide_eq_false_iff_not] at h20
 have hgn : ¬ Zh (⟨(j : Int),mo,rm,pln L⟩ : Tre) v = true:=fun h9=>(hgi.1 h9).elim hng1 (fun h8=>by have hq:=h20;rcases hq with ((hq | hq) | hq) | hq <;> first | omega | exact hq h8.1.2)
 refine aS3 ?_
 refine Qj (L':=[(1,_),(2,_),(3,_),(4,_),(5,_),(10,_),(11,_),(12,_)]) aSx (fun _ h=>h) ?_
 refine aS4 ?_
 refine QN (α:=Nat) [10,11,13,14,73,74,75,76,77,78,79,80,81,82,83,84,85,86,87,88,89,90,91,92,93,94,95,96,97,98,99,100,101,102,103,104,105,106,107,108,109,110,111,112,113,114] (fun k=>[(13,.int .i64 (k : Int))]) (fun _=>HS w [] [.blk b1 24 4 [.int .i64 (j : Int),.int .i64 mo,.int .i64 rm,.slice a L.length cap],.blk b2 102 3 (LNd.vals (nth L v.i))]) (fun k=>k ≤ (nth L v.i).es.length ∧ ∀ q,q < k → ¬ Zs (⟨(j : Int),mo,rm,pln L⟩ : Tre) v (nth (nth L v.i).es q) = true) (fun k=>(nth L v.i).es.length - k) 0 ⟨Nat.zero_le _,fun q h=>absurd h (Nat.not_lt_zero q)⟩ aSx (fun w h=>h.ent aEt) (fun k hx9=>?_)
 obtain ⟨hk1,hk3⟩:=hx9
 refine aS9 ?_
 refine Qd rfl (fun h21=>?_) fun h21=>?_
 ·try simp only [dT] at h21
  have hk5 : k < (nth L v.i).es.length:=by omega
  refine aS8 ?_
  refine o_p (Qa rfl rfl rfl QB (k) (by omega) (by omega) (Rw.some (hs.es hi) (by omega))) rfl ?_
  refine aS ?_
  refine o_q (Qe rfl rfl Zb (((hs.es hi).rdj 0 hk5 rfl))) rfl ?_
  refine aS3 ?_
  refine Qj (L':=[(1,_),(2,_),(3,_),(4,_),(5,_),(12,_),(13,_),(14,_)]) aSx (fun _ h=>h) ?_
  refine Qc5 (α:=Bool) [86,87,88,89,90,91,92,93,94,95,96,97,98,99,100,101,102,103,104,105,106,107,108,109,110,111,112,113] (fun x=>[(113,.bool x)]) (fun x=>x = true ↔ (Zs (⟨(j : Int),mo,rm,pln L⟩ : Tre) v (nth (nth L v.i).es k)) = true) ?_ ?_
  ·skip
   refine QE [] QH ?_
   refine dP 0 ?_
   refine dV 1 rfl (QQ rfl rfl Tryz.underlying174) ?_
   refine dP 2 ?_
   refine dP 3 ?_
   apply Xy 89
   ·exact rfl
   ·intro hg22
    have hs23:=hg22;try simp only [dT] at hs23
    refine dFo 4 89 hg22 ?_
    obtain ⟨kl,bl,ol,hlo1,hlo2,hlo3,hlo4⟩:=hlo.of_pos (by omega)
    refine dQo 5 89 [] hg22 rfl rfl rfl (XW rfl rfl Xq aPk rfl) ?_
    refine dPo 6 89 hg22 ?_
    refine dVo 7 89 hg22 rfl rfl rfl (Qa rfl rfl rfl Qc4 (0) (by omega) (by omega) hlo3) ?_
    refine dQo 8 89 [] hg22 rfl rfl rfl (Qe rfl rfl Zb (hlo4)) ?_
    refine dPo 9 89 hg22 ?_
    refine dQo 10 89 [] hg22 rfl rfl rfl (Qi rfl Qds rfl (fun w1 h1=>c33 w1 j kl (nth (nth L v.i).es k).key hj (hko _ hlo1).1 (hE9 _ (Q1 hk5)).1 (hko _ hlo1).2 (hE9 _ (Q1 hk5)).2)) ?_
    refine dPo 11 89 hg22 ?_
    refine dV 12 rfl (Qw rfl rfl hg22 rfl) ?_
    refine dP 13 ?_
    apply Xy 99
    ·exact rfl
    ·intro hg24
     have hs25:=hg24;try simp only [dT] at hs25
     refine dOf 14 99 hg24 ?_
     refine dOf 15 99 hg24 ?_
     refine dOf 16 99 hg24 ?_
     refine dOf 17 99 hg24 ?_
     refine dOu 18 103 ?_
     refine dOu 19 103 ?_
     refine dOu 20 103 ?_
     refine dOu 21 103 ?_
     refine dOu 22 103 ?_
     refine dOu 23 103 ?_
     refine dOu 24 103 ?_
     refine dOu 25 103 ?_
     refine dOf 26 99 hg24 ?_
     refine dV 27 rfl (Qw rfl rfl hg24 rfl) ?_
     refine dNi ?_
     exact Qn true (QrY hlo1 (by show 0 ≤ QO (j : Int) kl _;omega)) aSx (fun w h=>h.ent aEt)
    intro hg26
    have hs27:=hg26;try simp only [dN] at hs27
    refine dPo 14 99 hg26 ?_
    refine dVo 15 99 hg26 rfl rfl rfl (QQ rfl rfl Tryz.underlying174) ?_
    refine dPo 16 99 hg26 ?_
    refine dPo 17 99 hg26 ?_
    apply Xy 103
    ·exact rfl
    ·intro hg28
     have hs29:=hg28;try simp only [dT] at hs29
     refine dFo 18 103 hg28 ?_
     obtain ⟨kh,bh,oh,hhi1,hhi2,hhi3,hhi4⟩:=hhi.of_pos (by omega)
     refine dQo 19 103 [] hg28 rfl rfl rfl (XW rfl rfl Xq aPk rfl) ?_
     refine dPo 20 103 hg28 ?_
     refine dPo 21 103 hg28 ?_
     refine dVo 22 103 hg28 rfl rfl rfl (Qa rfl rfl rfl Qc4 (0) (by omega) (by omega) hhi3) ?_
     refine dQo 23 103 [] hg28 rfl rfl rfl (Qe rfl rfl Zb (hhi4)) ?_
     refine dQo 24 103 [] hg28 rfl rfl rfl (Qi rfl Qds rfl (fun w1 h1=>c33 w1 j (nth (nth L v.i).es k).key kh hj (hE9 _ (Q1 hk5)).1 (hkp _ hhi1).1 (hE9 _ (Q1 hk5)).2 (hkp _ hhi1).2)) ?_
     refine dPo 25 103 hg28 ?_
     refine dVo 26 99 hg26 rfl rfl rfl (Qw rfl rfl hg28 rfl) ?_
     refine dV 27 rfl (Qs rfl rfl hg26 rfl) ?_
     refine dNi ?_
     exact Qn (decide (QO (j : Int) (nth (nth L v.i).es k).key kh ≥ 0)) (QrE (t:=(⟨(j : Int),mo,rm,pln L⟩ : Tre)) hlo1 (by show ¬ 0 ≤ QO (j : Int) kl _;omega) hhi1) aSx (fun w h=>h.ent aEt)
    intro hg30
    have hs31:=hg30;try simp only [dN] at hs31
    refine dOf 18 103 hg30 ?_
    refine dOf 19 103 hg30 ?_
    refine dOf 20 103 hg30 ?_
    refine dOf 21 103 hg30 ?_
    refine dOf 22 103 hg30 ?_
    refine dOf 23 103 hg30 ?_
    refine dOf 24 103 hg30 ?_
    refine dOf 25 103 hg30 ?_
    refine dVo 26 99 hg26 rfl rfl rfl (Qs rfl rfl hg30 rfl) ?_
    refine dV 27 rfl (Qs rfl rfl hg26 rfl) ?_
    refine dNi ?_
    exact Qn false (Qr3 hlo1 (by show ¬ 0 ≤ QO (j : Int) kl _;omega) (hhi.of_no (by omega))) aSx (fun w h=>h.ent aEt)
   intro hg32
   have hs33:=hg32;try simp only [dN] at hs33
   refine dOf 4 89 hg32 ?_
   refine dOf 5 89 hg32 ?_
   refine dOf 6 89 hg32 ?_
   refine dOf 7 89 hg32 ?_
   refine dOf 8 89 hg32 ?_
   refine dOf 9 89 hg32 ?_
   refine dOf 10 89 hg32 ?_
   refine dOf 11 89 hg32 ?_
   refine dV 12 rfl (Qs rfl rfl hg32 rfl) ?_
   refine dP 13 ?_
   apply Xy 99
   ·exact rfl
   ·intro hg34
    have hs35:=hg34;skip
    refine dOf 14 99 hg34 ?_
    refine dOf 15 99 hg34 ?_
    refine dOf 16 99 hg34 ?_
    refine dOf 17 99 hg34 ?_
    refine dOu 18 103 ?_
    refine dOu 19 103 ?_
    refine dOu 20 103 ?_
    refine dOu 21 103 ?_
    refine dOu 22 103 ?_
    refine dOu 23 103 ?_
    refine dOu 24 103 ?_
    refine dOu 25 103 ?_
    refine dOf 26 99 hg34 ?_
    refine dV 27 rfl (Qw rfl rfl hg34 rfl) ?_
    refine dNi ?_
    exact Qn true (by exfalso;simp_all;done) aSx (fun w h=>h.ent aEt)
   intro hg36
   have hs37:=hg36;skip
   refine dPo 14 99 hg36 ?_
   refine dVo 15 99 hg36 rfl rfl rfl (QQ rfl rfl Tryz.underlying174) ?_
   refine dPo 16 99 hg36 ?_
   refine dPo 17 99 hg36 ?_
   apply Xy 103
   ·exact rfl
   ·intro hg38
    have hs39:=hg38;try simp only [dT] at hs39
    refine dFo 18 103 hg38 ?_
    obtain ⟨kh,bh,oh,hhi1,hhi2,hhi3,hhi4⟩:=hhi.of_pos (by omega)
    refine dQo 19 103 [] hg38 rfl rfl rfl (XW rfl rfl Xq aPk rfl) ?_
    refine dPo 20 103 hg38 ?_
    refine dPo 21 103 hg38 ?_
    refine dVo 22 103 hg38 rfl rfl rfl (Qa rfl rfl rfl Qc4 (0) (by omega) (by omega) hhi3) ?_
    refine dQo 23 103 [] hg38 rfl rfl rfl (Qe rfl rfl Zb (hhi4)) ?_
    refine dQo 24 103 [] hg38 rfl rfl rfl (Qi rfl Qds rfl (fun w1 h1=>c33 w1 j (nth (nth L v.i).es k).key kh hj (hE9 _ (Q1 hk5)).1 (hkp _ hhi1).1 (hE9 _ (Q1 hk5)).2 (hkp _ hhi1).2)) ?_
    refine dPo 25 103 hg38 ?_
    refine dVo 26 99 hg36 rfl rfl rfl (Qw rfl rfl hg38 rfl) ?_
    refine dV 27 rfl (Qs rfl rfl hg36 rfl) ?_
    refine dNi ?_
    exact Qn (decide (QO (j : Int) (nth (nth L v.i).es k).key kh ≥ 0)) (Qr8 (t:=(⟨(j : Int),mo,rm,pln L⟩ : Tre)) (hlo.of_no (by omega)) hhi1) aSx (fun w h=>h.ent aEt)
   intro hg40
   have hs41:=hg40;try simp only [dN] at hs41
   refine dOf 18 103 hg40 ?_
   refine dOf 19 103 hg40 ?_
   refine dOf 20 103 hg40 ?_
   refine dOf 21 103 hg40 ?_
   refine dOf 22 103 hg40 ?_
   refine dOf 23 103 hg40 ?_
   refine dOf 24 103 hg40 ?_
   refine dOf 25 103 hg40 ?_
   refine dVo 26 99 hg36 rfl rfl rfl (Qs rfl rfl hg40 rfl) ?_
   refine dV 27 rfl (Qs rfl rfl hg36 rfl) ?_
   refine dNi ?_
   exact Qn false (Qrt (hlo.of_no (by omega)) (hhi.of_no (by omega))) aSx (fun w h=>h.ent aEt)
  intro x hx
  refine Qd rfl (fun h42=>?_) fun h42=>?_
  ·skip
   have hV:=QkK (deep:=deep) hgn (Qnb hn hk5 (hx.1 h42))
   refine aS6 ?_
   exact QM (rs:=[.tmp 10,.tmp 11]) rfl (.tmp rfl (.tmp rfl (.nil))) (fun w' h'=>⟨by rw [Qcr (by rw [hV];decide),hV];rfl,h'.below⟩)
  skip
  have hz3 : ¬ (Zs (⟨(j : Int),mo,rm,pln L⟩ : Tre) v (nth (nth L v.i).es k)) = true:=fun h9=>by have h8:=hx.2 h9;simp_all
  refine aS5 ?_
  try refine oWr ?_
  refine aS2 ?_
  exact QD (k + 1) (by omega) ⟨by omega,fun q hq=>(Nat.lt_or_ge q k).elim (hk3 q) (fun h9=>by obtain rfl : q = k:=(by omega);exact hz3)⟩ aSx (fun w h=>h.ent aEt)
 try simp only [dN] at h21
 have hon : ¬ Za (⟨(j : Int),mo,rm,pln L⟩ : Tre) v = true:=Qop hn (fun q hq=>hk3 q (by have hq9:=hq;simp only [LNd.pl] at hq9;omega))
 refine Qu rfl ?_
 refine aS8 ?_
 refine XD 3 119 122 _ _ rfl
  (by
   intro hg43
   have hs44:=hg43;try simp only [dT] at hs44
   refine oOn 119 hg43 ?_
   refine aS ?_
   refine oOn 119 hg43 ?_
   refine aS ?_
   refine o_p (Qw rfl rfl hg43 rfl) rfl ?_
   refine aS ?_
   exact oJn 3 122)
  (by
   intro hg45
   have hs46:=hg45;try simp only [dN] at hs46
   refine oOf 119 hg45 ?_
   refine oOf 119 hg45 ?_
   refine o_p (Qs rfl rfl hg45 rfl) rfl ?_
   refine aS ?_
   exact oJn 3 122) ?_
 refine aS ?_
 refine Qd rfl (fun h47=>?_) fun h47=>?_
 ·try simp only [Bool.and_eq_true,decide_eq_true_eq,Bool.not_eq_true',decide_eq_false_iff_not] at h47
  have hV:=Qoq (deep:=deep) hgn hon (by rw [show ((⟨(j : Int),mo,rm,pln L⟩ : Tre)).ns = pln L from rfl,hn];have hq:=h47;simp only [LNd.pl];omega)
  refine aS6 ?_
  exact QM (rs:=[.tmp 10,.tmp 11]) rfl (.tmp rfl (.tmp rfl (.nil))) (fun w' h'=>⟨by rw [Qcr (by rw [hV];decide),hV];rfl,h'.below⟩)
 try simp only [Bool.and_eq_false_iff,decide_eq_false_iff_not,Bool.not_eq_false',decide_eq_true_eq] at h47
 have hV0:=QoG (deep:=deep) hgn hon (by rw [show ((⟨(j : Int),mo,rm,pln L⟩ : Tre)).ns = pln L from rfl,hn];have hq:=h47;simp only [LNd.pl];omega)
 refine aS7 ?_
 refine Qj (L':=[(1,_),(2,_),(3,_),(4,_),(5,_),(12,_),(13,_),(15,_)]) aSx (fun _ h=>h) ?_
 refine QN (α:=Nat) [10,11,15,16,17,18,19,124,125,126,127,128,129,130,131,132,133,134,135,136,137,138,139,140,141,142,143,144,145,146,147,148,149,150,151,152,153,154,155,156,157,158,159,160,161,162,163,164,165,166,167,168,169,170,171,172] (fun k=>[(15,.int .i64 (k : Int))]) (fun _=>HS w [] [.blk b1 24 4 [.int .i64 (j : Int),.int .i64 mo,.int .i64 rm,.slice a L.length cap],.blk b2 102 3 (LNd.vals (nth L v.i))]) (fun k=>k ≤ (nth L v.i).cs.length ∧ (X4 (⟨(j : Int),mo,rm,pln L⟩ : Tre) deep (Qal (pln L) f v k)).2 = 0) (fun k=>(nth L v.i).cs.length - k) 0 ⟨Nat.zero_le _,QqJ hV0⟩ aSx (fun w h=>h.ent aEt) (fun k hx9=>?_)
 obtain ⟨hk1,hk3⟩:=hx9
 refine aS9 ?_
 refine Qd rfl (fun h48=>?_) fun h48=>?_
 ·try simp only [dT] at h48
  have hkl : k < (nth L v.i).cs.length:=by omega
  have hkid:=Qa7 hT hi0 (k:=k) (by rw [hn];exact hkl)
  rw [hn,Qc] at hkid
  simp only [LNd.pl] at hkid
  have hway2:=Z4 hway hi0 (k:=k) (by rw [hn];exact hkl) (by rw [hn];simp only [LNd.pl];omega)
  iterate 16 refine aS ?_
  refine Qd rfl (fun h49=>?_) fun h49=>?_
  ·try simp only [dT] at h49
   have hk0 : 0 < k:=by have hq:=h49;omega
   refine aS5 ?_
   try refine oWr ?_
   refine o_p (Qa rfl rfl rfl QB (k - 1) (by omega) (by omega) (Rw.some (hs.es hi) (by omega))) rfl ?_
   refine aS ?_
   refine o_q (Qe rfl rfl Zb (((hs.es hi).rdj 0 (i:=k - 1) (by omega) rfl))) rfl ?_
   refine o_h (Qr (cs:=[_]) rfl rfl Qc4 Qqc rfl rfl rfl) rfl (fun b50 _=>?_)
   refine QaU ?_
   refine Qd rfl (fun h51=>?_) fun h51=>?_
   ·try simp only [dT] at h51
    have hk9 : k < (nth L v.i).es.length:=by have hq:=h51;omega
    refine Qj (L':=[(1,_),(2,_),(3,_),(4,_),(5,_),(12,_),(13,_),(15,_),(16,_),(17,_)]) aSx (fun _ h=>h) ?_
    refine aS4 ?_
    refine o_p (Qa rfl rfl rfl QB (k) (by omega) (by omega) (Rw.some (hs.es hi) (by omega))) rfl ?_
    refine aS ?_
    refine o_q (Qe rfl rfl Zb (((hs.es hi).rdj 0 (i:=k) (by omega) rfl))) rfl ?_
    refine o_h (Qr (cs:=[_]) rfl rfl Qc4 Qqc rfl rfl rfl) rfl (fun b52 _=>?_)
    refine aS3 ?_
    refine QE [] QH ?_
    refine dLn 0 [] ?_
    refine dFa 1 ?_
    refine dLd 2 [] ?_
    refine dP 3 ?_
    refine dV 4 rfl (Qa rfl rfl rfl Qv (k) (by omega) (by omega) (Rw.some (hs.cs hi) (by omega))) ?_
    refine dQ 5 [] rfl (Qe rfl rfl Xq (((hs.cs hi).rdj 0 (i:=k) hkl rfl))) ?_
    refine Ql (show _ = Value.int .i64 ((XO (pln L) v k).i : Int) from by rw [XO,hn];exact congrArg (Value.int .i64) (Int.toNat_of_nonneg (show 0 ≤ (nth L v.i).cs.getD k 0 by omega)).symm) ?_
    refine dP 6 ?_
    refine dP 7 ?_
    try refine dWr ?_
    refine dP 8 ?_
    refine dP 9 ?_
    refine dQ 10 [] rfl (Qi rfl QgK rfl (fun w1 h1=>ih w1 (XO (pln L) v k) (v.i :: P) (lv - 1) _ _ _ _ _ _ (hs.later h1) hj hmo hT hB h0 hway2 (by simp only [XO,List.length_cons];omega) (by simp only [XO];omega) (Qeq hT hi0 (by rw [hn];show k ≤ (nth L v.i).es.length;omega) hko) (QeL hT hi0 hkp) (by show StK w1 _ _ (loK (nth (pln L) v.i).es k v.lo);rw [hn];show StK w1 _ _ (loK (nth L v.i).es k v.lo);first | (rw [QdA hk0];exact StK.new (h1.rd_blk (Mc:=[]) aPk rfl (by simp))) | (rw [Qgh hk0];exact hlo.later h1)) (by show StK w1 _ _ (hiK (nth (pln L) v.i).es k v.hi);rw [hn];show StK w1 _ _ (hiK (nth L v.i).es k v.hi);first | (rw [QdL hk9];exact StK.new (h1.rd_blk (Mc:=[]) aPk rfl (by simp))) | (rw [QfR hk9];exact hhi.later h1)) (by simp only [List.length_cons];omega))) ?_
    refine dP 11 ?_
    refine dP 12 ?_
    refine dP 13 ?_
    refine dP 14 ?_
    refine dP 15 ?_
    refine dNi ?_
    refine aS ?_
    refine Qj (L':=[(1,_),(2,_),(3,_),(4,_),(5,_),(12,_),(13,_),(15,_),(18,_),(19,_)]) aSx (fun _ h=>h) ?_
    refine aS4 ?_
    refine Qd rfl (fun h53=>?_) fun h53=>?_
    ·try simp only [Bool.not_eq_true',decide_eq_false_iff_not] at h53
     have hbad : X4 (⟨(j : Int),mo,rm,pln L⟩ : Tre) deep (vis (pln L) (f + 1) v) = X4 (⟨(j : Int),mo,rm,pln L⟩ : Tre) deep (vis (pln L) f (XO (pln L) v k)):=by rw [Y8,hn];obtain ⟨B9,hB9⟩:=Qan (pln L) f v (show k + 1 ≤ (nth L v.i).pl.cs.length by show k + 1 ≤ (nth L v.i).cs.length;omega);rw [hB9,X0,List.append_assoc,Yf,if_pos hk3,Yf,if_neg h53]
     refine aS7 ?_
     exact QM (rs:=[.tmp 10,.tmp 11]) rfl (.tmp rfl (.tmp rfl (.nil))) (fun w' h'=>⟨by rw [hbad];rfl,h'.below⟩)
    try simp only [Bool.not_eq_false',decide_eq_true_eq] at h53
    have hgood : (X4 (⟨(j : Int),mo,rm,pln L⟩ : Tre) deep (Qal (pln L) f v (k + 1))).2 = 0:=by rw [X0,Yf,if_pos hk3];have hq:=h53;omega
    refine aS5 ?_
    try refine oWr ?_
    refine aS2 ?_
    exact QD (k + 1) (by omega) ⟨by omega,hgood⟩ aSx (fun w h=>h.ent aEt)
   try simp only [dN] at h51
   have hk9 : ¬ k < (nth L v.i).es.length:=by have hq:=h51;omega
   refine aS2 ?_
   refine Qj (L':=[(1,_),(2,_),(3,_),(4,_),(5,_),(12,_),(13,_),(15,_),(16,_),(17,_)]) aSx (fun _ h=>h) ?_
   refine QE [] QH ?_
   refine dLn 0 [] ?_
   refine dFa 1 ?_
   refine dLd 2 [] ?_
   refine dP 3 ?_
   refine dV 4 rfl (Qa rfl rfl rfl Qv (k) (by omega) (by omega) (Rw.some (hs.cs hi) (by omega))) ?_
   refine dQ 5 [] rfl (Qe rfl rfl Xq (((hs.cs hi).rdj 0 (i:=k) hkl rfl))) ?_
   refine Ql (show _ = Value.int .i64 ((XO (pln L) v k).i : Int) from by rw [XO,hn];exact congrArg (Value.int .i64) (Int.toNat_of_nonneg (show 0 ≤ (nth L v.i).cs.getD k 0 by omega)).symm) ?_
   refine dP 6 ?_
   refine dP 7 ?_
   try refine dWr ?_
   refine dP 8 ?_
   refine dP 9 ?_
   refine dQ 10 [] rfl (Qi rfl QgK rfl (fun w1 h1=>ih w1 (XO (pln L) v k) (v.i :: P) (lv - 1) _ _ _ _ _ _ (hs.later h1) hj hmo hT hB h0 hway2 (by simp only [XO,List.length_cons];omega) (by simp only [XO];omega) (Qeq hT hi0 (by rw [hn];show k ≤ (nth L v.i).es.length;omega) hko) (QeL hT hi0 hkp) (by show StK w1 _ _ (loK (nth (pln L) v.i).es k v.lo);rw [hn];show StK w1 _ _ (loK (nth L v.i).es k v.lo);first | (rw [QdA hk0];exact StK.new (h1.rd_blk (Mc:=[]) aPk rfl (by simp))) | (rw [Qgh hk0];exact hlo.later h1)) (by show StK w1 _ _ (hiK (nth (pln L) v.i).es k v.hi);rw [hn];show StK w1 _ _ (hiK (nth L v.i).es k v.hi);first | (rw [QdL hk9];exact StK.new (h1.rd_blk (Mc:=[]) aPk rfl (by simp))) | (rw [QfR hk9];exact hhi.later h1)) (by simp only [List.length_cons];omega))) ?_
   refine dP 11 ?_
   refine dP 12 ?_
   refine dP 13 ?_
   refine dP 14 ?_
   refine dP 15 ?_
   refine dNi ?_
   refine aS5 ?_
   refine Qd rfl (fun h54=>?_) fun h54=>?_
   ·try simp only [Bool.not_eq_true',decide_eq_false_iff_not] at h54
    have hbad : X4 (⟨(j : Int),mo,rm,pln L⟩ : Tre) deep (vis (pln L) (f + 1) v) = X4 (⟨(j : Int),mo,rm,pln L⟩ : Tre) deep (vis (pln L) f (XO (pln L) v k)):=by rw [Y8,hn];obtain ⟨B9,hB9⟩:=Qan (pln L) f v (show k + 1 ≤ (nth L v.i).pl.cs.length by show k + 1 ≤ (nth L v.i).cs.length;omega);rw [hB9,X0,List.append_assoc,Yf,if_pos hk3,Yf,if_neg h54]
    refine aS7 ?_
    exact QM (rs:=[.tmp 10,.tmp 11]) rfl (.tmp rfl (.tmp rfl (.nil))) (fun w' h'=>⟨by rw [hbad];rfl,h'.below⟩)
   try simp only [Bool.not_eq_false',decide_eq_true_eq] at h54
   have hgood : (X4 (⟨(j : Int),mo,rm,pln L⟩ : Tre) deep (Qal (pln L) f v (k + 1))).2 = 0:=by rw [X0,Yf,if_pos hk3];have hq:=h54;omega
   refine aS5 ?_
   try refine oWr ?_
   refine aS2 ?_
   exact QD (k + 1) (by omega) ⟨by omega,hgood⟩ aSx (fun w h=>h.ent aEt)
  try simp only [dN] at h49
  have hk0 : ¬ 0 < k:=by have hq:=h49;omega
  refine Zf ?_
  refine Qd rfl (fun h55=>?_) fun h55=>?_
  ·try simp only [dT] at h55
   have hk9 : k < (nth L v.i).es.length:=by have hq:=h55;omega
   refine aS4 ?_
   refine o_p (Qa rfl rfl rfl QB (k) (by omega) (by omega) (Rw.some (hs.es hi) (by omega))) rfl ?_
   refine aS ?_
   refine o_q (Qe rfl rfl Zb (((hs.es hi).rdj 0 (i:=k) (by omega) rfl))) rfl ?_
   refine o_h (Qr (cs:=[_]) rfl rfl Qc4 Qqc rfl rfl rfl) rfl (fun b56 _=>?_)
   refine aS3 ?_
   refine Qj (L':=[(1,_),(2,_),(3,_),(4,_),(5,_),(12,_),(13,_),(15,_),(16,_),(17,_)]) aSx (fun _ h=>h) ?_
   refine QE [] QH ?_
   refine dLn 0 [] ?_
   refine dFa 1 ?_
   refine dLd 2 [] ?_
   refine dP 3 ?_
   refine dV 4 rfl (Qa rfl rfl rfl Qv (k) (by omega) (by omega) (Rw.some (hs.cs hi) (by omega))) ?_
   refine dQ 5 [] rfl (Qe rfl rfl Xq (((hs.cs hi).rdj 0 (i:=k) hkl rfl))) ?_
   refine Ql (show _ = Value.int .i64 ((XO (pln L) v k).i : Int) from by rw [XO,hn];exact congrArg (Value.int .i64) (Int.toNat_of_nonneg (show 0 ≤ (nth L v.i).cs.getD k 0 by omega)).symm) ?_
   refine dP 6 ?_
   refine dP 7 ?_
   try refine dWr ?_
   refine dP 8 ?_
   refine dP 9 ?_
   refine dQ 10 [] rfl (Qi rfl QgK rfl (fun w1 h1=>ih w1 (XO (pln L) v k) (v.i :: P) (lv - 1) _ _ _ _ _ _ (hs.later h1) hj hmo hT hB h0 hway2 (by simp only [XO,List.length_cons];omega) (by simp only [XO];omega) (Qeq hT hi0 (by rw [hn];show k ≤ (nth L v.i).es.length;omega) hko) (QeL hT hi0 hkp) (by show StK w1 _ _ (loK (nth (pln L) v.i).es k v.lo);rw [hn];show StK w1 _ _ (loK (nth L v.i).es k v.lo);first | (rw [QdA hk0];exact StK.new (h1.rd_blk (Mc:=[]) aPk rfl (by simp))) | (rw [Qgh hk0];exact hlo.later h1)) (by show StK w1 _ _ (hiK (nth (pln L) v.i).es k v.hi);rw [hn];show StK w1 _ _ (hiK (nth L v.i).es k v.hi);first | (rw [QdL hk9];exact StK.new (h1.rd_blk (Mc:=[]) aPk rfl (by simp))) | (rw [QfR hk9];exact hhi.later h1)) (by simp only [List.length_cons];omega))) ?_
   refine dP 11 ?_
   refine dP 12 ?_
   refine dP 13 ?_
   refine dP 14 ?_
   refine dP 15 ?_
   refine dNi ?_
   refine aS5 ?_
   refine Qd rfl (fun h57=>?_) fun h57=>?_
   ·try simp only [Bool.not_eq_true',decide_eq_false_iff_not] at h57
    have hbad : X4 (⟨(j : Int),mo,rm,pln L⟩ : Tre) deep (vis (pln L) (f + 1) v) = X4 (⟨(j : Int),mo,rm,pln L⟩ : Tre) deep (vis (pln L) f (XO (pln L) v k)):=by rw [Y8,hn];obtain ⟨B9,hB9⟩:=Qan (pln L) f v (show k + 1 ≤ (nth L v.i).pl.cs.length by show k + 1 ≤ (nth L v.i).cs.length;omega);rw [hB9,X0,List.append_assoc,Yf,if_pos hk3,Yf,if_neg h57]
    refine aS7 ?_
    exact QM (rs:=[.tmp 10,.tmp 11]) rfl (.tmp rfl (.tmp rfl (.nil))) (fun w' h'=>⟨by rw [hbad];rfl,h'.below⟩)
   try simp only [Bool.not_eq_false',decide_eq_true_eq] at h57
   have hgood : (X4 (⟨(j : Int),mo,rm,pln L⟩ : Tre) deep (Qal (pln L) f v (k + 1))).2 = 0:=by rw [X0,Yf,if_pos hk3];have hq:=h57;omega
   refine aS5 ?_
   try refine oWr ?_
   refine aS2 ?_
   exact QD (k + 1) (by omega) ⟨by omega,hgood⟩ aSx (fun w h=>h.ent aEt)
  try simp only [dN] at h55
  have hk9 : ¬ k < (nth L v.i).es.length:=by have hq:=h55;omega
  refine aS2 ?_
  refine QE [] QH ?_
  refine dLn 0 [] ?_
  refine dFa 1 ?_
  refine dLd 2 [] ?_
  refine dP 3 ?_
  refine dV 4 rfl (Qa rfl rfl rfl Qv (k) (by omega) (by omega) (Rw.some (hs.cs hi) (by omega))) ?_
  refine dQ 5 [] rfl (Qe rfl rfl Xq (((hs.cs hi).rdj 0 (i:=k) hkl rfl))) ?_
  refine Ql (show _ = Value.int .i64 ((XO (pln L) v k).i : Int) from by rw [XO,hn];exact congrArg (Value.int .i64) (Int.toNat_of_nonneg (show 0 ≤ (nth L v.i).cs.getD k 0 by omega)).symm) ?_
  refine dP 6 ?_
  refine dP 7 ?_
  try refine dWr ?_
  refine dP 8 ?_
  refine dP 9 ?_
  refine dQ 10 [] rfl (Qi rfl QgK rfl (fun w1 h1=>ih w1 (XO (pln L) v k) (v.i :: P) (lv - 1) _ _ _ _ _ _ (hs.later h1) hj hmo hT hB h0 hway2 (by simp only [XO,List.length_cons];omega) (by simp only [XO];omega) (Qeq hT hi0 (by rw [hn];show k ≤ (nth L v.i).es.length;omega) hko) (QeL hT hi0 hkp) (by show StK w1 _ _ (loK (nth (pln L) v.i).es k v.lo);rw [hn];show StK w1 _ _ (loK (nth L v.i).es k v.lo);first | (rw [QdA hk0];exact StK.new (h1.rd_blk (Mc:=[]) aPk rfl (by simp))) | (rw [Qgh hk0];exact hlo.later h1)) (by show StK w1 _ _ (hiK (nth (pln L) v.i).es k v.hi);rw [hn];show StK w1 _ _ (hiK (nth L v.i).es k v.hi);first | (rw [QdL hk9];exact StK.new (h1.rd_blk (Mc:=[]) aPk rfl (by simp))) | (rw [QfR hk9];exact hhi.later h1)) (by simp only [List.length_cons];omega))) ?_
  refine dP 11 ?_
  refine dP 12 ?_
  refine dP 13 ?_
  refine dP 14 ?_
  refine dP 15 ?_
  refine dNi ?_
  refine aS ?_
  refine Qj (L':=[(1,_),(2,_),(3,_),(4,_),(5,_),(12,_),(13,_),(15,_),(18,_),(19,_)]) aSx (fun _ h=>h) ?_
  refine aS4 ?_
  refine Qd rfl (fun h58=>?_) fun h58=>?_
  ·try simp only [Bool.not_eq_true',decide_eq_false_iff_not] at h58
   have hbad : X4 (⟨(j : Int),mo,rm,pln L⟩ : Tre) deep (vis (pln L) (f + 1) v) = X4 (⟨(j : Int),mo,rm,pln L⟩ : Tre) deep (vis (pln L) f (XO (pln L) v k)):=by rw [Y8,hn];obtain ⟨B9,hB9⟩:=Qan (pln L) f v (show k + 1 ≤ (nth L v.i).pl.cs.length by show k + 1 ≤ (nth L v.i).cs.length;omega);rw [hB9,X0,List.append_assoc,Yf,if_pos hk3,Yf,if_neg h58]
   refine aS7 ?_
   exact QM (rs:=[.tmp 10,.tmp 11]) rfl (.tmp rfl (.tmp rfl (.nil))) (fun w' h'=>⟨by rw [hbad];rfl,h'.below⟩)
  try simp only [Bool.not_eq_false',decide_eq_true_eq] at h58
  have hgood : (X4 (⟨(j : Int),mo,rm,pln L⟩ : Tre) deep (Qal (pln L) f v (k + 1))).2 = 0:=by rw [X0,Yf,if_pos hk3];have hq:=h58;omega
  refine aS5 ?_
  try refine oWr ?_
  refine aS2 ?_
  exact QD (k + 1) (by omega) ⟨by omega,hgood⟩ aSx (fun w h=>h.ent aEt)
 try simp only [dN] at h48
 obtain rfl : k = (nth L v.i).cs.length:=by omega
 have hfin : X4 (⟨(j : Int),mo,rm,pln L⟩ : Tre) deep (vis (pln L) (f + 1) v) = (0,0):=by rw [Y8,hn];exact QiC hk3
 refine Qu rfl ?_
 refine aS5 ?_
 exact QM (rs:=[.tmp 10,.tmp 11]) rfl (.tmp rfl (.tmp rfl (.nil))) (fun w' h'=>⟨by rw [hfin];rfl,h'.below⟩)
theorem c87 (j : Nat) (mo rm : Int) (a : Option Addr) (cap : Nat) (L : List LNd) (deep : Int) : ∀ f,PlC j mo rm a cap L deep f
  | 0=>fun w v P lv pa qa pn pc qn qc hs hj hmo hT hB h0 hway hd hlv hko hkp hlo hhi hf=>by
    have h1:=X9 hT (by rw [Qc];exact h0) hway;rw [Qc,List.length_cons] at h1;omega
  | f + 1=>fun w v P lv pa qa pn pc qn qc hs hj hmo hT hB h0 hway hd hlv hko hkp hlo hhi hf=>c87s w j mo rm a cap L deep v P lv pa qa pn pc qn qc f hs hj hmo hT hB h0 hway hd hlv hko hkp hlo hhi hf (c87 j mo rm a cap L deep f)
end Go.Proofs
namespace Gx
open Go Go.RowKit
theorem Qpw {t : Tre} (h : ¬ Q5 t.co = 0) : XP t = (0,Q5 t.co):=by rw [QbE (by rw [if_neg h];exact h),if_neg h]
theorem Qp3 {t : Tre} (h : Q5 t.co = 0) (h2 : ¬ Yl t.mo t.rm = 0) : XP t = (0,Yl t.mo t.rm):=by rw [QbE (by rw [if_pos h];exact h2),if_pos h]
theorem Qpv {t : Tre} (h : Q5 t.co = 0) (h2 : Yl t.mo t.rm = 0) (h3 : ¬ 0 < t.ns.length) : XP t = (0,10):=by
 have e : Y6 t.ns.length = 10:=if_neg h3;rw [QcN (by rw [if_pos h];exact h2) (by rw [e];decide),e]
theorem QpU {t : Tre} (h : Q5 t.co = 0) (h2 : Yl t.mo t.rm = 0) (h3 : 0 < t.ns.length) (h4 : ¬ t.ns.length ≤ 120) : XP t = (0,8):=by
 have e : Y6 t.ns.length = 8:=by rw [Y6,if_pos h3,if_neg h4]
 rw [QcN (by rw [if_pos h];exact h2) (by rw [e];decide),e]
theorem QpR {t : Tre} (h : Q5 t.co = 0) (h2 : Yl t.mo t.rm = 0) (h3 : 0 < t.ns.length) (h4 : t.ns.length ≤ 120) : XP t = if (XR t t.ns.length 0 []).2 = 0 then QaO t else XR t t.ns.length 0 []:=QcX (by rw [if_pos h];exact h2) (by rw [Y6,if_pos h3,if_pos h4])
theorem Qgk (n : Nat) : YQ [Value.bool false] n = Xt n []:=by
 rw [Qgx];apply List.ext_getElem?;intro i
 by_cases hi : i < n
 ·rw [Qao hi,List.getElem?_replicate,if_pos hi];rfl
 ·rw [List.getElem?_eq_none (by rw [List.length_replicate];omega),List.getElem?_eq_none (by rw [Qaq];omega)]
theorem Qgw {vs : List Vis} {k : Nat} : ((k : Nat) : Int) ∈ mkS vs [] ↔ k ∈ vs.map Vis.i:=by
 rw [QnW,List.mem_map];constructor
 ·rintro ⟨v,hv,h⟩;exact ⟨v,hv,by omega⟩
 ·rintro ⟨v,hv,h⟩;exact ⟨v,hv,by omega⟩
theorem Qhy (ns : List Nd) : ∀ (f i : Nat),0 ≤ X3 ns f i ∧ X3 ns f i ≤ f
 | 0,i=>by rw [X3];omega
 | f + 1,i=>by
  rw [X3];split
  ·omega
  ·have:=Qhy ns f ((nth ns i).cs.getD 0 0).toNat;omega
theorem Qnk {ns : List Nd} {f i : Nat} (h : (nth ns i).cs.length = 0) : X3 ns f i = 0:=by
 cases f with
 | zero=>rfl
 | succ f=>rw [X3,if_pos h]
theorem Qkk {ns : List Nd} {f i : Nat} (h0 : 0 < f) (h : ¬ (nth ns i).cs.length = 0) : X3 ns f i = X3 ns (f - 1) ((nth ns i).cs.getD 0 0).toNat + 1:=by
 obtain ⟨g,rfl⟩ : ∃ g,f = g + 1:=⟨f - 1,by omega⟩;rw [X3,if_neg h];rfl
end Gx
namespace Go.Proofs
open Go Go.RowKit Gx
attribute [local irreducible] Go.Calls Gx.S Gx.O Gx.D Gx.OpP Gx.OpQ Gx.OpH
set_option maxRecDepth 20000
theorem QrX : QT Tryz.prog 85 = true:=by kernel_rfl
theorem QrW : QT Tryz.prog 41 = true:=by kernel_rfl
set_option maxHeartbeats 400000 in
theorem c41 (w : World) (co mo rm : Int) (a : Option Addr) (cap : Nat) (L : List LNd) (hs : Nt w [] a L) (hB : Bd (pln L)) (hkl : ∀ i,i < L.length → ∀ x ∈ (nth L i).es,x.key.length ≤ 1000000) : Calls Tryz.prog 41 #[.agg #[.int .i64 co,.int .i64 mo,.int .i64 rm,.slice a L.length cap]] w fun en w'=>en = .returned (.tuple #[.int .i64 (XP (⟨co,mo,rm,pln L⟩ : Tre)).1,.int .i64 (XP (⟨co,mo,rm,pln L⟩ : Tre)).2]) ∧ Below w.heap.size w w':=by
 have hle:=hB.len
 rw [Qc] at hle
 have hes9 : ∀ i,i < L.length → (nth L i).es.length ≤ 1000:=fun i hi=>by have h9:=hB.es i (by rw [Qc];exact hi);rw [Qh hi] at h9;exact h9
 have hcs9 : ∀ i,i < L.length → (nth L i).cs.length ≤ 1000:=fun i hi=>by have h9:=hB.cs i (by rw [Qc];exact hi);rw [Qh hi] at h9;exact h9
 refine enter (args:=[_]) Tryz.func41 Tryz.ntmps41 rfl rfl (HS.refl w []) ?_
 refine aS2 ?_
 refine oBx fun b1 _=>?_
 refine aS8 ?_
 refine o_q (Qi rfl QrR rfl (fun w1 h1=>c30 w1 _)) rfl ?_
 refine aS7 ?_
 refine Qd rfl (fun h2=>?_) fun h2=>?_
 ·try simp only [Bool.not_eq_true',decide_eq_false_iff_not] at h2
  have hz:=Qpw (t:=(⟨co,mo,rm,pln L⟩ : Tre)) h2
  refine aS6 ?_
  exact QM (rs:=[.tmp 2,.tmp 3]) rfl (.tmp rfl (.tmp rfl (.nil))) (fun w' h'=>⟨by rw [hz];rfl,h'.below⟩)
 try simp only [Bool.not_eq_false',decide_eq_true_eq] at h2
 have hc0 : Q5 co = 0:=by have hq:=h2;omega
 obtain ⟨j,rfl,hj⟩:=YF hc0
 refine aS8 ?_
 refine o_q (Qi rfl Qrd rfl (fun w1 h1=>c31 w1 _ _)) rfl ?_
 refine aS7 ?_
 refine Qd rfl (fun h3=>?_) fun h3=>?_
 ·try simp only [Bool.not_eq_true',decide_eq_false_iff_not] at h3
  have hz:=Qp3 (t:=(⟨(j : Int),mo,rm,pln L⟩ : Tre)) hc0 h3
  refine aS6 ?_
  exact QM (rs:=[.tmp 2,.tmp 3]) rfl (.tmp rfl (.tmp rfl (.nil))) (fun w' h'=>⟨by rw [hz];rfl,h'.below⟩)
 try simp only [Bool.not_eq_false',decide_eq_true_eq] at h3
 have hc1 : Yl mo rm = 0:=by have hq:=h3;omega
 have hsz2 : (3 ≤ mo ∧ mo ≤ 8) ∧ (mo / 2 ≤ rm ∧ rm ≤ mo):=YH hc1
 have hTL : ((⟨(j : Int),mo,rm,pln L⟩ : Tre)).ns.length = L.length:=Qc L
 refine aS9 ?_
 refine Qd rfl (fun h4=>?_) fun h4=>?_
 ·try simp only [dT] at h4
  have hz:=Qpv (t:=(⟨(j : Int),mo,rm,pln L⟩ : Tre)) hc0 hc1 (by rw [hTL];have hq:=h4;omega)
  refine aS5 ?_
  exact QM (rs:=[.tmp 2,.tmp 3]) rfl (.tmp rfl (.tmp rfl (.nil))) (fun w' h'=>⟨by rw [hz];rfl,h'.below⟩)
 try simp only [dN] at h4
 have h00 : 0 < L.length:=by have hq:=h4;omega
 refine aS9 ?_
 refine Qd rfl (fun h5=>?_) fun h5=>?_
 ·try simp only [dT] at h5
  have hz:=QpU (t:=(⟨(j : Int),mo,rm,pln L⟩ : Tre)) hc0 hc1 (by rw [hTL];exact h00) (by rw [hTL];have hq:=h5;omega)
  refine aS5 ?_
  exact QM (rs:=[.tmp 2,.tmp 3]) rfl (.tmp rfl (.tmp rfl (.nil))) (fun w' h'=>⟨by rw [hz];rfl,h'.below⟩)
 try simp only [dN] at h5
 have h120 : L.length ≤ 120:=by have hq:=h5;omega
 have hz:=QpR (t:=(⟨(j : Int),mo,rm,pln L⟩ : Tre)) hc0 hc1 (by rw [hTL];exact h00) (by rw [hTL];exact h120)
 rw [hTL] at hz
 refine aS6 ?_
 refine o_h (Qiv (n:=L.length) rfl rfl rfl QaB QpG (by omega) (by omega)) rfl (fun b6 _=>?_)
 refine QZ (fun w h=>(show HS _ _ [.blk b6 4 L.length (Xt L.length []),.blk b1 24 4 [.int .i64 (j : Int),.int .i64 mo,.int .i64 rm,.slice a L.length cap]] w from by have h9:=h;rw [Nat.mul_one,Qgk] at h9;exact h9.ent aEt)) ?_
 refine aS4 ?_
 refine Qj (L':=[(1,_),(2,_),(3,_),(6,_)]) aSx (fun _ h=>h) ?_
 refine aS4 ?_
 refine QN (α:=Nat × List Int) [2,3,7,8,39,40,41,42,43,44,45,46,47,48,49,50,51,52,53] (fun x=>[(7,.int .i64 (x.1 : Int))]) (fun x=>HS w [] [.blk b6 4 L.length (Xt L.length x.2),.blk b1 24 4 [.int .i64 (j : Int),.int .i64 mo,.int .i64 rm,.slice a L.length cap]]) (fun x=>x.1 ≤ L.length ∧ (XR (⟨(j : Int),mo,rm,pln L⟩ : Tre) L.length 0 []) = XR (⟨(j : Int),mo,rm,pln L⟩ : Tre) (L.length - x.1) x.1 x.2) (fun x=>L.length - x.1) (0,[]) ⟨Nat.zero_le _,rfl⟩ aSx (fun w h=>h.ent aEt) (fun ⟨k,S9⟩ hx=>?_)
 dsimp only
 obtain ⟨hk1,hk3⟩:=hx
 simp only [] at hk1 hk3
 refine aS9 ?_
 refine Qd rfl (fun h7=>?_) fun h7=>?_
 ·try simp only [dT] at h7
  have hkl9 : k < L.length:=by omega
  have hst:=Qd7 (t:=(⟨(j : Int),mo,rm,pln L⟩ : Tre)) (k:=k) (seen:=S9) (by rw [hTL];exact hkl9)
  rw [hTL] at hst
  refine aS8 ?_
  refine o_h (Q7 (Cs:=[.blk b6 4 L.length (Xt L.length S9)]) rfl QrX rfl aPs (fun w1 h1 hf=>c85 w1 j mo rm a cap L k b6 L.length L.length S9 hf ((hs.keep h1).mono (Xo aPs)) hj hkl9 (by omega) (hes9 _ hkl9) (hcs9 _ hkl9) (hkl _ hkl9))) rfl (fun _ _=>?_)
  refine aS7 ?_
  refine Qd rfl (fun h8=>?_) fun h8=>?_
  ·try simp only [Bool.not_eq_true',decide_eq_false_iff_not] at h8
   have hz3 : (XR (⟨(j : Int),mo,rm,pln L⟩ : Tre) L.length 0 []) = ((k : Int),(XV (⟨(j : Int),mo,rm,pln L⟩ : Tre) k S9).1):=by rw [hk3,hst,if_neg h8]
   rw [hz3,if_neg (show ¬ (((k : Int),(XV (⟨(j : Int),mo,rm,pln L⟩ : Tre) k S9).1) : Int × Int).2 = 0 from h8)] at hz
   refine aS7 ?_
   exact QM (rs:=[.tmp 2,.tmp 3]) rfl (.tmp rfl (.tmp rfl (.nil))) (fun w' h'=>⟨by rw [hz];rfl,h'.below⟩)
  try simp only [Bool.not_eq_false',decide_eq_true_eq] at h8
  have hz3 : XR (⟨(j : Int),mo,rm,pln L⟩ : Tre) (L.length - k) k S9 = XR (⟨(j : Int),mo,rm,pln L⟩ : Tre) (L.length - (k + 1)) (k + 1) (XV (⟨(j : Int),mo,rm,pln L⟩ : Tre) k S9).2:=by rw [hst,if_pos (by have hq:=h8;omega)]
  refine aS5 ?_
  try refine oWr ?_
  refine aS2 ?_
  exact QD (k + 1,(XV (⟨(j : Int),mo,rm,pln L⟩ : Tre) k S9).2) (by (try simp only []);omega) ⟨by (try simp only []);omega,by simp only [];rw [hk3,hz3]⟩ aSx (fun w h=>h.ent aEt)
 try simp only [dN] at h7
 have hnd : (XR (⟨(j : Int),mo,rm,pln L⟩ : Tre) L.length 0 []) = (0,0):=by rw [hk3,show L.length - k = 0 by omega];rfl
 rw [hnd,if_pos rfl] at hz
 have hT : TOk (j : Int) (pln L):=Yi (t:=(⟨(j : Int),mo,rm,pln L⟩ : Tre)) (by show (XR (⟨(j : Int),mo,rm,pln L⟩ : Tre) (pln L).length 0 []).2 = 0;rw [Qc,hnd])
 have hvis : vis (pln L) L.length YV = Yx (pln L):=by unfold Yx;rw [Qc]
 refine Qu rfl ?_
 refine aS5 ?_
 refine o_h (Qiv (n:=L.length) rfl rfl rfl QaB QpG (by omega) (by omega)) rfl (fun b9 _=>?_)
 refine QZ (fun w h=>(show HS _ _ [.blk b9 4 L.length (Xt L.length []),.blk b1 24 4 [.int .i64 (j : Int),.int .i64 mo,.int .i64 rm,.slice a L.length cap]] w from by have h9:=h;rw [Nat.mul_one,Qgk] at h9;exact h9.ent aEt)) ?_
 refine aS6 ?_
 refine o_h (Q7 (Cs:=[.blk b9 4 L.length (Xt L.length [])]) rfl QoV rfl aPs (fun w1 h1 hf=>c86 j mo rm a cap L b9 L.length L.length L.length w1 [] YV [] hf ((hs.keep h1).mono (Xo aPs)) hT hB h00 rfl (by simp))) rfl (fun _ _=>?_)
 refine aS7 ?_
 refine Qj (L':=[(1,_),(6,_),(7,_),(9,_),(10,_)]) aSx (fun _ h=>h) ?_
 refine QN (α:=Nat) [2,3,10,61,62,63,64,65,66,67,68,69,70,71,72,73,74,75,76,77,78,79,80,81] (fun k=>[(10,.int .i64 (k : Int))]) (fun _=>HS w [] [.blk b9 4 L.length (Xt L.length (mkS (vis (pln L) L.length YV) [])),.blk b1 24 4 [.int .i64 (j : Int),.int .i64 mo,.int .i64 rm,.slice a L.length cap]]) (fun k=>k ≤ L.length ∧ Zq (pln L) ((Yx (pln L)).map Vis.i) L.length 0 = Zq (pln L) ((Yx (pln L)).map Vis.i) (L.length - k) k) (fun k=>L.length - k) 0 ⟨Nat.zero_le _,rfl⟩ aSx (fun w h=>h.ent aEt) (fun k hx=>?_)
 obtain ⟨hk1,hk2⟩:=hx
 refine aS9 ?_
 refine Qd rfl (fun h10=>?_) fun h10=>?_
 ·try simp only [dT] at h10
  have hkl9 : k < L.length:=by omega
  have hst:=Qfh (ns:=pln L) (below:=((Yx (pln L)).map Vis.i)) (k:=k) (by rw [Qc];exact hkl9)
  rw [Qc,Qh hkl9] at hst
  refine aS8 ?_
  refine o_p (Qa rfl rfl rfl Qp (k) (by omega) (by omega) (Rw.some hs.1 (by omega))) rfl ?_
  refine aS ?_
  refine o_q (Qe rfl rfl QcQ ((hs.1.rdj 0 hkl9 rfl))) rfl ?_
  refine aS ?_
  refine XD 6 74 80 _ _ rfl
   (by
    intro hg11
    have hs12:=hg11;skip
    refine oOn 74 hg11 ?_
    refine aS ?_
    refine oOn 74 hg11 ?_
    refine aS ?_
    refine oOn 74 hg11 ?_
    refine o_p (Qa rfl rfl rfl QaB (k) (by omega) (by omega) rfl) rfl ?_
    refine Qm (show _ = Value.pointer (some ⟨b9,k,none⟩) from by rw [Nat.zero_add,Nat.mul_one]) ?_
    refine oOn 74 hg11 ?_
    refine o_q (Qg rfl rfl QcQ (fun w h=>h.rd_blk (Mc:=[]) aPk (Qao hkl9) (by simp))) rfl ?_
    refine oOn 74 hg11 ?_
    refine aS ?_
    refine o_p (Qw rfl rfl hg11 rfl) rfl ?_
    refine aS ?_
    exact oJn 6 80)
   (by
    intro hg13
    have hs14:=hg13;skip
    refine oOf 74 hg13 ?_
    refine oOf 74 hg13 ?_
    refine oOf 74 hg13 ?_
    refine oOf 74 hg13 ?_
    refine oOf 74 hg13 ?_
    refine o_p (Qs rfl rfl hg13 rfl) rfl ?_
    refine aS ?_
    exact oJn 6 80) ?_
  refine aS ?_
  refine Qd rfl (fun h15=>?_) fun h15=>?_
  ·try simp only [Bool.and_eq_true,Bool.not_eq_true',decide_eq_false_iff_not] at h15
   have hz7 : (nth L k).pl.us = true ∧ k ∉ ((Yx (pln L)).map Vis.i):=by have hq:=h15;rw [← Qgw,← hvis];simp only [LNd.pl];simpa using hq
   have hz8:=hz.trans (Qcj (t:=(⟨(j : Int),mo,rm,pln L⟩ : Tre)) (i:=k) (show Zq (pln L) _ (pln L).length 0 = some k from by rw [Qc,hk2,hst,if_pos hz7]))
   refine aS6 ?_
   exact QM (rs:=[.tmp 2,.tmp 3]) rfl (.tmp rfl (.tmp rfl (.nil))) (fun w' h'=>⟨by rw [hz8];rfl,h'.below⟩)
  try simp only [Bool.and_eq_false_iff,Bool.not_eq_false',decide_eq_true_eq] at h15
  have hz7 : ¬ ((nth L k).pl.us = true ∧ k ∉ ((Yx (pln L)).map Vis.i)):=by have hq:=h15;rw [← Qgw,← hvis];simp only [LNd.pl];intro h9;exact hq.elim (fun h8=>by rw [h8] at h9;cases h9.1) (fun h8=>h9.2 h8)
  refine aS5 ?_
  try refine oWr ?_
  refine aS2 ?_
  exact QD (k + 1) (by omega) ⟨by omega,by rw [hk2,hst,if_neg hz7]⟩ aSx (fun w h=>h.ent aEt)
 try simp only [dN] at h10
 have hnone : Zq (pln L) ((Yx (pln L)).map Vis.i) L.length 0 = none:=by rw [hk2,show L.length - k = 0 by omega];rfl
 have hz8:=hz.trans (Qb9 (t:=(⟨(j : Int),mo,rm,pln L⟩ : Tre)) (show Zq (pln L) _ (pln L).length 0 = none from by rw [Qc];exact hnone))
 refine Qu rfl ?_
 refine Zf ?_
 refine QN (α:=Nat × Nat × List Nat) [11,12,82,83,84,85,86,87,88,89,90,91,92,93,94,95,96,97,98,99] (fun y=>[(11,.int .i64 (y.1 : Int)),(12,.int .i64 (y.2.1 : Int))]) (fun _=>HS w [] [.blk b1 24 4 [.int .i64 (j : Int),.int .i64 mo,.int .i64 rm,.slice a L.length cap]]) (fun y=>Gx.Way (pln L) (y.2.1 :: y.2.2) ∧ y.2.2.length = y.1 ∧ X3 (pln L) L.length 0 = (y.1 : Int) + X3 (pln L) (L.length - y.1) y.2.1) (fun y=>L.length - y.1) (0,0,[]) ⟨rfl,rfl,by simp⟩ aSx (fun w h=>h.ent aEt) (fun ⟨d,i,P⟩ hx=>?_)
 dsimp only
 obtain ⟨hway,hpl,hdp⟩:=hx
 simp only [] at hway hpl hdp
 have hil0:=Z9 hT (by rw [Qc];exact h00) hway i (List.mem_cons_self ..)
 have hil : i < L.length:=by rw [Qc] at hil0;exact hil0
 have hnI:=Qh hil
 have hwl:=X9 hT (by rw [Qc];exact h00) hway
 rw [Qc,List.length_cons] at hwl
 have hcl:=hcs9 i hil
 refine aS6 ?_
 refine o_p (Qa rfl rfl rfl Qp (i) (by omega) (by omega) (Rw.some hs.1 (by omega))) rfl ?_
 refine aS ?_
 refine o_q (Qe rfl rfl Q8 ((hs.1.rdj 2 hil rfl))) rfl ?_
 refine aS3 ?_
 refine Qd rfl (fun h16=>?_) fun h16=>?_
 ·try simp only [dT] at h16
  have hcl0 : 0 < (nth L i).cs.length:=by have hq:=h16;omega
  have hkid:=Qa7 hT (by rw [Qc];exact hil) (i:=i) (k:=0) (by rw [hnI];exact hcl0)
  rw [hnI,Qc] at hkid
  simp only [LNd.pl] at hkid
  have hway2:=Z4 hway (by rw [Qc];exact hil) (k:=0) (by rw [hnI];exact hcl0) (by rw [hnI];simp only [LNd.pl];omega)
  rw [hnI] at hway2
  have hwl2:=X9 hT (by rw [Qc];exact h00) hway2
  rw [Qc,List.length_cons,List.length_cons] at hwl2
  have hdm:=Qkk (ns:=pln L) (f:=L.length - d) (i:=i) (by omega) (by rw [hnI];show ¬ (nth L i).cs.length = 0;omega)
  rw [hnI] at hdm
  refine aS7 ?_
  refine o_p (Qa rfl rfl rfl Qp (i) (by omega) (by omega) (Rw.some hs.1 (by omega))) rfl ?_
  refine aS ?_
  refine o_q (Qe rfl rfl Q8 ((hs.1.rdj 2 hil rfl))) rfl ?_
  refine o_p (Qa rfl rfl rfl Qv (0) (by omega) (by omega) (Rw.some (hs.cs hil) (by omega))) rfl ?_
  refine o_q (Qe rfl rfl Xq (((hs.cs hil).rdj 0 (i:=0) (by omega) rfl))) rfl ?_
  refine Qm (show _ = Value.int .i64 (((nth L i).cs.getD 0 0).toNat : Int) from congrArg (Value.int .i64) (Int.toNat_of_nonneg (show 0 ≤ (nth L i).cs.getD 0 0 by omega)).symm) ?_
  refine aS6 ?_
  try refine oWr ?_
  refine aS2 ?_
  exact QD (d + 1,((nth L i).cs.getD 0 0).toNat,i :: P) (by (try simp only []);omega) ⟨hway2,by simp [hpl],by simp only [] at *;rw [show L.length - (d + 1) = L.length - d - 1 by omega];have h9 : (nth L i).pl.cs = (nth L i).cs:=rfl;rw [h9] at hdm;omega⟩ aSx (fun w h=>h.ent aEt)
 try simp only [dN] at h16
 have hde:=Qnk (ns:=pln L) (f:=L.length - d) (i:=i) (by rw [hnI];show (nth L i).cs.length = 0;have hq:=h16;omega)
 rw [hde,Int.add_zero] at hdp
 have hdl:=Qhy (pln L) L.length 0
 refine Qu rfl ?_
 refine aS4 ?_
 refine o_q (Qi rfl QgK rfl (fun w1 h1=>c87 j mo rm a cap L (d : Int) L.length w1 YV [] (d : Int) none none 0 0 0 0 (hs.later h1) hj (by omega) hT hB h00 rfl rfl (by show (d : Int) = d + 1 - 1;omega) (fun _ h=>by cases h) (fun _ h=>by cases h) rfl rfl (by simp))) rfl ?_
 refine aS5 ?_
 exact QM (rs:=[.tmp 2,.tmp 3]) rfl (.tmp rfl (.tmp rfl (.nil))) (fun w' h'=>⟨by rw [hz8,show X3 ((⟨(j : Int),mo,rm,pln L⟩ : Tre)).ns ((⟨(j : Int),mo,rm,pln L⟩ : Tre)).ns.length 0 = (d : Int) from by rw [hTL];exact hdp,show Yx ((⟨(j : Int),mo,rm,pln L⟩ : Tre)).ns = vis (pln L) L.length YV from hvis.symm];rfl,h'.below⟩)
theorem c18 (w : World) (co mo rm : Int) (a : Option Addr) (cap : Nat) (L : List LNd) (hs : Nt w [] a L) (hB : Bd (pln L)) (hkl : ∀ i,i < L.length → ∀ x ∈ (nth L i).es,x.key.length ≤ 1000000) : Calls Tryz.prog 18 #[.agg #[.int .i64 co,.int .i64 mo,.int .i64 rm,.slice a L.length cap]] w fun en w'=>en = .returned (.int .i64 (XP (⟨co,mo,rm,pln L⟩ : Tre)).2) ∧ Below w.heap.size w w':=by
 refine enter (args:=[_]) Tryz.func18 Tryz.ntmps18 rfl rfl (HS.refl w []) ?_
 refine aS2 ?_
 refine oBx fun b1 _=>?_
 refine aS5 ?_
 refine o_q (Qi rfl QrW rfl (fun w1 h1=>c41 w1 co mo rm a cap L (hs.later h1) hB hkl)) rfl ?_
 refine QaU ?_
 exact rT rfl rfl (fun w' h'=>⟨by rfl,h'.below⟩)
end Go.Proofs
namespace Gx
open Go Go.RowKit
def ZI (x : TEnt) : Bool:=decide (x.key.length ≤ 44 ∧ x.val.length ≤ 70)
def Qav (es : List TEnt) : Bool:=es.all ZI
def Qbb (n : Nd) : Bool:=decide (n.es.length ≤ 10 ∧ n.cs.length ≤ 11) && Qav n.es
def YW (ns : List Nd) : Bool:=decide (ns.length ≤ 122 ∧ ¬ (60 < ns.length ∧ ns.length ≤ 120)) && ns.all Qbb
theorem QnQ {n : Nd} (h1 : n.es.length ≤ 10) (h2 : n.cs.length ≤ 11) (h3 : Qav n.es = true) : Qbb n = true:=by
 rw [Qbb,decide_eq_true (And.intro h1 h2),h3];rfl
theorem Qok {n : Nd} (h : (10 < n.es.length ∨ 11 < n.cs.length) ∨ Qav n.es = false) : ¬ Qbb n = true:=fun h9=>by
 rw [Qbb,Bool.and_eq_true,decide_eq_true_eq] at h9;rcases h with h | h
 ·omega
 ·rw [h] at h9;cases h9.2
theorem QkG {es : List TEnt} (h : ∀ q,q < es.length → ZI (nth es q) = true) : Qav es = true:=by
 refine List.all_eq_true.2 fun x hx=>?_;obtain ⟨q,hq,e⟩:=List.getElem_of_mem hx;have e2 : nth es q = x:=Q3 (by rw [List.getElem?_eq_getElem hq,e]);rw [← e2];exact h q hq
theorem QkD {es : List TEnt} {k : Nat} (hk : k < es.length) (h : ¬ ZI (nth es k) = true) : Qav es = false:=by
 cases e : Qav es
 ·rfl
 ·exact absurd (List.all_eq_true.1 e _ (Q1 hk)) h
theorem Qny {ns : List Nd} (h0 : ns.length ≤ 122 ∧ ¬ (60 < ns.length ∧ ns.length ≤ 120)) (h : ∀ q,q < ns.length → Qbb (nth ns q) = true) : YW ns = true:=by
 rw [YW,decide_eq_true h0,Bool.true_and];refine List.all_eq_true.2 fun x hx=>?_;obtain ⟨q,hq,e⟩:=List.getElem_of_mem hx;have e2 : nth ns q = x:=Q3 (by rw [List.getElem?_eq_getElem hq,e]);rw [← e2];exact h q hq
theorem QnM {ns : List Nd} {k : Nat} (hk : k < ns.length) (h : ¬ Qbb (nth ns k) = true) : YW ns = false:=by
 cases e : YW ns
 ·rfl
 ·rw [YW,Bool.and_eq_true] at e;exact absurd (List.all_eq_true.1 e.2 _ (Q1 hk)) h
theorem QoE {ns : List Nd} (h : ¬ (ns.length ≤ 122 ∧ ¬ (60 < ns.length ∧ ns.length ≤ 120))) : YW ns = false:=by
 rw [YW,decide_eq_false h,Bool.false_and]
theorem Qmx {ns : List Nd} (h : YW ns = true) : ns.length ≤ 122:=by
 rw [YW,Bool.and_eq_true,decide_eq_true_eq] at h;exact h.1.1
theorem Qcu {ns : List Nd} (h : YW ns = true) {k : Nat} (hk : k < ns.length) : (nth ns k).es.length ≤ 10 ∧ (nth ns k).cs.length ≤ 11 ∧ ∀ x ∈ (nth ns k).es,x.key.length ≤ 44 ∧ x.val.length ≤ 70:=by
 rw [YW,Bool.and_eq_true] at h;have h2:=List.all_eq_true.1 h.2 _ (Q1 hk);rw [Qbb,Bool.and_eq_true,decide_eq_true_eq] at h2;refine ⟨h2.1.1,h2.1.2,fun x hx=>?_⟩;have h3:=List.all_eq_true.1 h2.2 _ hx;rw [ZI,decide_eq_true_eq] at h3;exact h3
theorem QiS {ns : List Nd} (h : YW ns = true) : Bd ns where
 len:=Nat.le_trans (Qmx h) (by decide)
 es i hi:=Nat.le_trans (Qcu h hi).1 (by decide)
 cs i hi:=Nat.le_trans (Qcu h hi).2.1 (by decide)
theorem Qnx {ns : List Nd} (h : YW ns = true) : Sm 1000 ns:=fun k=>by
 rcases Nat.lt_or_ge k ns.length with hk | hk
 ·exact ⟨Nat.le_trans (Qcu h hk).1 (by decide),Nat.le_trans (Qcu h hk).2.1 (by decide)⟩
 ·rw [Yu hk];exact ⟨Nat.zero_le _,Nat.zero_le _⟩
theorem Qfy {L : List LNd} (h : YW (pln L) = true) : ∀ i,i < L.length → ∀ x ∈ (nth L i).es,x.key.length ≤ 1000000:=fun i hi x hx=>by
 have h2:=(Qcu h (k:=i) (by rw [Qc];exact hi)).2.2 x (by rw [Qh hi];exact hx);omega
theorem Qj2 {i : Nat} {P : List Nat} (h : 0 < P.length) : Qo (i :: P) = Qo P:=by
 cases P with
 | nil=>exact absurd h (Nat.lt_irrefl _)
 | cons p P=>
  unfold Qo;rw [show (i :: p :: P).length - 1 = (p :: P).length - 1 + 1 by simp];rfl
theorem QiR {co : Int} {ns : List Nd} (hT : TOk co ns) (h0 : 0 < ns.length) (key : List UInt8) : ∀ (f i : Nat) (P : List Nat),Way ns (i :: P) → P.length + f = ns.length → 0 < (Zo co ns key f i).1.length ∧ (Zo co ns key f i).1.length ≤ f ∧ Qo (Zo co ns key f i).1 < ns.length ∧ (Zo co ns key f i).2.1 = plc co (nth ns (Qo (Zo co ns key f i).1)).es key ∧ (Zo co ns key f i).2.2 = fnd co (nth ns (Qo (Zo co ns key f i).1)).es key
 | 0,i,P,hw,hf=>by
  have:=X9 hT h0 hw;rw [List.length_cons] at this;omega
 | f + 1,i,P,hw,hf=>by
  by_cases h : fnd co (nth ns i).es key = true ∨ (nth ns i).cs.length = 0
  ·rw [Zo,if_pos h];exact ⟨Nat.one_pos,Nat.le_add_left 1 f,Z9 hT h0 hw i (List.mem_cons_self ..),rfl,rfl⟩
  ·rw [Zo,if_neg h];have hi:=Z9 hT h0 hw i (List.mem_cons_self ..)
   have hc : (nth ns i).cs.length = (nth ns i).es.length + 1:=by
    rcases hT.shape i hi with h9 | h9
    ·exact absurd (.inr h9) h
    ·exact h9
   have hk : plc co (nth ns i).es key < (nth ns i).cs.length:=by
    have:=Qac co key (nth ns i).es;omega
   have hkid:=Qa7 hT hi hk;have ih:=QiR hT h0 key f ((nth ns i).cs.getD (plc co (nth ns i).es key) 0).toNat (i :: P) (Z4 hw hi hk (by omega)) (by rw [List.length_cons];omega);simp only [];rw [Qj2 ih.1];exact ⟨by rw [List.length_cons];omega,by rw [List.length_cons];omega,ih.2.2⟩
theorem QhR {co : Int} {ns : List Nd} (hT : TOk co ns) (h0 : 0 < ns.length) (key : List UInt8) : 0 < (Qb co ns key).1.length ∧ (Qb co ns key).1.length ≤ ns.length ∧ Qo (Qb co ns key).1 < ns.length ∧ (Qb co ns key).2.1 = plc co (nth ns (Qo (Qb co ns key).1)).es key ∧ (Qb co ns key).2.2 = fnd co (nth ns (Qo (Qb co ns key).1)).es key:=QiR hT h0 key ns.length 0 [] rfl (by simp)
theorem QqF {co : Int} {es : List TEnt} {key : List UInt8} (h : fnd co es key = true) : plc co es key < es.length:=by
 rw [fnd,Bool.and_eq_true,decide_eq_true_eq] at h;exact h.1
def Qf6 (co : Int) (ns : List Nd) (key : List UInt8) : TEnt:=nth (nth ns (Qo (Qb co ns key).1)).es (Qb co ns key).2.1
def repN (co : Int) (ns : List Nd) (x : TEnt) : List Nd:=esN ns (Qo (Qb co ns x.key).1) ((nth ns (Qo (Qb co ns x.key).1)).es.set (Qb co ns x.key).2.1 x)
def GrU (m : Nat) (ns : List Nd) : Prop:=ns.length ≤ m ∨ AllU ns
section
variable {ns : List Nd} {m : Nat}
end
structure Sv (co mo rm : Int) (m : Nat) (ns : List Nd) (fl : List TEnt) : Prop where
 tree : ∃ T d,QS ns T ∧ VT co (mo.toNat / 2) mo.toNat rm.toNat d T ∧ T.flat = fl
 last : XA ns
 len : ns.length ≤ m
section
variable {co mo rm : Int} {m : Nat} {ns : List Nd} {fl : List TEnt} {x : TEnt} {key : List UInt8}
theorem Sv.pos (h : Sv co mo rm m ns fl) : 0 < ns.length:=by
 obtain ⟨T,d,hR,_⟩:=h.tree;have:=hR.root;omega
theorem Sv.has (h : Sv co mo rm m ns fl) (key : List UInt8) : (Qb co ns key).2.2 = true ↔ fnd co fl key = true:=by
 obtain ⟨T,d,hR,hV,rfl⟩:=h.tree;exact (QhO hR hV key).trans (QcV hV.srt)
theorem Sv.tre (h : Sv co mo rm m ns fl) (hc : Q5 co = 0) (hs : Yl mo rm = 0) (hm : m ≤ 120) : (XP ⟨co,mo,rm,ns⟩).2 = 0:=by
 obtain ⟨T,d,hR,hV,_⟩:=h.tree;exact QqX (t:=⟨co,mo,rm,ns⟩) hc hs (Qdi hs) hR hV h.last (Nat.le_trans h.len hm)
end
section
variable {co mo rm : Int} {m q : Nat} {ns : List Nd} {fl es : List TEnt} {ks : List BT} {x e : TEnt} {key : List UInt8}
theorem QqT {a b c : List UInt8} (h : QO co a b = 0) : QO co a c = QO co b c:=by rw [YJ,YJ,Qax.1 h]
theorem Qln {a b c : List UInt8} (h : QO co a b = 0) : QO co c a = QO co c b:=by rw [YJ,YJ,Qax.1 h]
theorem QnI {P R : List TEnt} (hs : Srt co (P ++ e :: R)) (he : QO co e.key key = 0) : plc co (P ++ e :: R) key = P.length:=by
 have h1:=(List.pairwise_append.1 hs).2.2;rw [QaX (fun y hy=>by rw [← Qln he];exact h1 y hy e (List.mem_cons_self ..)),plc,if_neg (by omega)];rfl
end
section
variable {co mo rm : Int} {m : Nat} {ns : List Nd} {fl : List TEnt} {x : TEnt} {key : List UInt8}
theorem Sv.tok (h : Sv co mo rm m ns fl) : TOk co ns:=by
 obtain ⟨T,d,hR,hV,_⟩:=h.tree;exact Qi6 hR hV h.last
theorem Sv.bd (hs : Yl mo rm = 0) (h : Sv co mo rm m ns fl) (hm : m ≤ 1000) : Bd ns:=by
 obtain ⟨T,d,hR,hV,_⟩:=h.tree;exact QqM (Qdi hs) hR hV (Nat.le_trans h.len hm)
theorem Sv.sm (hs : Yl mo rm = 0) (h : Sv co mo rm m ns fl) : Sm 900 ns:=by
 obtain ⟨T,d,hR,hV,_⟩:=h.tree;have hz:=Qdi hs;exact (hR.sm hV.bel (Nat.le_refl _) (Nat.le_trans hV.root hz.rh)).mono (by have:=hz.hi8;omega)
theorem Sv.keys (h : Sv co mo rm m ns fl) : ∀ y ∈ fl,QW co y.key = true ∧ y.key.length ≤ 1000000:=fun y hy=>by
 obtain ⟨T,d,hR,hV,rfl⟩:=h.tree;have h1:=Yo (hV.ents y hy);exact ⟨h1,by have:=Zz h1;omega⟩
theorem Sv.kl {L : List LNd} (h : Sv co mo rm m (pln L) fl) : ∀ i,i < L.length → ∀ x ∈ (nth L i).es,x.key.length ≤ 1000000:=fun i hi x hx=>(Ya h.tok i (by rw [Qc];exact hi) x (by rw [Qh hi];exact hx)).2
theorem Sv.bt (h : Sv co mo rm m ns fl) : ∃ T d,Bel (mo.toNat / 2) mo.toNat d T ∧ NIn ns T ∧ T.idx = 0 ∧ T.flat = fl:=by
 obtain ⟨T,d,hR,hV,hf⟩:=h.tree;exact ⟨T,d,hV.bel,hR.nin,hV.idx,hf⟩
end
def tzE (E v : Int) : Int:=if E = 0 then v else 0
def QhQ (a : Int × TEnt) : List Value:=.int .i64 a.1 :: a.2.vals
theorem QlF {w : World} {M : List Nat} {a : Option Addr} {l : List (Int × TEnt)} (h : Rw QhQ 3 w M a l) {i : Nat} (hi : i < l.length) : ∀ q v,(TEnt.vals (nth l i).2)[q]? = some v → Rd w M (ab a) (ao a + i * 3 + 1 + q) v:=fun q v hv=>by
 have h1:=Rw.rd h hi (q + 1) v hv
 rwa [← Nat.add_assoc,Nat.add_right_comm] at h1
end Gx
namespace Go.Proofs
open Go Go.RowKit Gx
theorem Qlw : Tryz.prog.cellsOf 85 = 3:=by kernel_rfl
section
variable {W : World} {d : Nat}
theorem QqN {cs : List Value} (h : okT Tryz.prog W d 85 cs) : ∃ x : Int × TEnt,cs = QhQ x ∧ True:=by
 obtain ⟨d2,l,o⟩:=QfD h Tryz.underlying85;rw [Qlw] at l;obtain ⟨x0,x1,x2,rfl⟩:=ln3 l;simp only [List.mem_cons,List.mem_nil_iff,or_false,forall_eq_or_imp,forall_eq] at o;rw [Qf9,QcI] at o;obtain ⟨n0,rfl⟩:=Qqf (x:=x0) o.1;obtain ⟨y,hy,_⟩:=Qlr (cs:=[x1,x2]) o.2;exact ⟨(n0,y),by rw [QhQ,← hy],trivial⟩
theorem QoI {n : Nat} {a : Option Addr} {cell : Nat → List Value} (sl : Sl W [] a 3 n cell) (rows : ∀ i,i < n → okT Tryz.prog W d 85 (cell i)) : ∃ l : List (Int × TEnt),n = l.length ∧ Rw QhQ 3 W [] a l:=by
 obtain ⟨l,h1,h2,_,_⟩:=QiX (vals:=QhQ) (Q:=fun _=>True) sl fun i hi=>QqN (rows i hi);exact ⟨l,h1,h2⟩
end
end Go.Proofs
