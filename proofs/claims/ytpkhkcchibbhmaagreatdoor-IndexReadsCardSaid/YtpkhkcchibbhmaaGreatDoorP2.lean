/- Contracts of the program's functions, proved by walking them with the rules of the Gx texts; without conditions beyond those that each contract names. -/
import Derived.WalkKit
import Derived.Deep.Draws
import Derived.TacticsIn
import Derived.OrdersIn
import Derived.RangeFuncLeaves
import Derived.Lib.Strings
import Derived.Laws.BytesArg
import Derived.Laws.IdiomStrings
import Derived.Deep.Quiet
import Derived.ProofKit
import Derived.OpenShut
import Derived.Laws.StructEq
import Derived.ChangeKeysEq
import Derived.Laws.Externs
import Derived.Lib.Overlaps
import Derived.Carry
import Derived.Laws.Small
import Derived.Lib.Bytealg
import Derived.Lib.Builder
import Derived.Laws.Pointers
import Derived.RangeFuncRecord
import Derived.Test.YtpkhkcchibbhmaaGreatDoorProg
import Derived.KernelRfl
import Derived.SizedLaws
import Derived.ChangeSame
import Derived.Handed
import Derived.Test.YtpkhkcchibbhmaaGreatDoorTie
import Derived.Test.YtpkhkcchibbhmaaGreatDoorCards
import Derived.SevenTiedAt
import Derived.LaidMore
import Derived.Lay
import Derived.Stop.Joined
import Derived.Test.YtpkhkcchibbhmaaGreatDoorP1
set_option linter.unusedSimpArgs false
set_option maxHeartbeats 1000000
set_option linter.unusedVariables false
set_option linter.unusedSectionVars false
set_option linter.unnecessarySimpa false
namespace Go.Proofs
open Go Go.RowKit Gx
attribute [local irreducible] Go.Calls Gx.S Gx.O Gx.D Gx.OpP Gx.OpQ Gx.OpH
set_option maxRecDepth 20000
theorem QxO : QK Tryz.prog 80 = true:=by kernel_rfl
theorem Qw2 : QK Tryz.prog 81 = true:=by kernel_rfl
theorem c80 (w : World) (a : Option Addr) (cap : Nat) (l : List TEnt) (hs : Rw TEnt.vals 2 w [] a l) (hl : l.length ≤ 100000) : Calls Tryz.prog 80 #[.slice a l.length cap] w fun en w'=>∃ g : Option Addr × Nat,en = .returned (.slice g.1 l.length g.2) ∧ True ∧ HS w [] [.own (.slice g.1 l.length g.2) 27 2 l.length (l.flatMap TEnt.vals)] w':=by
 refine eN1 Tryz.func80 Tryz.ntmps80 ?_
 refine aU6 ?_
 refine o_h (QaM rfl Q6) rfl (fun b1 _=>?_)
 refine aU ?_
 refine o_h (Xt (l.flatMap TEnt.vals) rfl rfl rfl Q6 Tryz.underlying67 ZV rfl aPk (fun w h=>Rw.src ev2 hs h) (QaK ev2 _) (Qkl ev1 _) (by omega) (by simp only [maxLen];omega)) rfl (fun b2 _=>?_)
 refine aU2 ?_
 exact rT rfl rfl (fun w' h'=>⟨b2,by simp only [QW,Nat.zero_add],trivial,by have h2:=h';simp only [Nat.zero_add,List.nil_append] at h2;exact h2.ent aEt⟩)
theorem c81 (w : World) (a : Option Addr) (cap : Nat) (l : List Int) (hs : Rw inV 1 w [] a l) (hl : l.length ≤ 100000) : Calls Tryz.prog 81 #[.slice a l.length cap] w fun en w'=>∃ g : Option Addr × Nat,en = .returned (.slice g.1 l.length g.2) ∧ True ∧ HS w [] [.own (.slice g.1 l.length g.2) 3 1 l.length (l.flatMap inV)] w':=by
 refine eN1 Tryz.func81 Tryz.ntmps81 ?_
 refine aU6 ?_
 refine o_h (QaM rfl Xa) rfl (fun b1 _=>?_)
 refine aU ?_
 refine o_h (Xt (l.flatMap inV) rfl rfl rfl Xa Tryz.underlying28 Qew rfl aPk (fun w h=>Rw.src iv1 hs h) (QaK iv1 _) (Qkl QtS _) (by omega) (by simp only [maxLen];omega)) rfl (fun b2 _=>?_)
 refine aU2 ?_
 exact rT rfl rfl (fun w' h'=>⟨b2,by simp only [QW,Nat.zero_add],trivial,by have h2:=h';simp only [Nat.zero_add,List.nil_append] at h2;exact h2.ent aEt⟩)
theorem c21 (w : World) (co mo rm : Int) (a : Option Addr) (cap : Nat) (L : List LNd) (hs : Nt w [] a L) (hl : L.length ≤ 1000) (hsm : Sm 1000 (pln L)) : Calls Tryz.prog 21 #[.agg #[.int .i64 co,.int .i64 mo,.int .i64 rm,.slice a L.length cap]] w fun en w'=>∃ g : (Option Addr × Nat) × List LNd,en = .returned (.agg #[.int .i64 co,.int .i64 mo,.int .i64 rm,.slice g.1.1 g.2.length g.1.2]) ∧ pln g.2 = pln L ∧ HS w [] [.nodes 27 69 g.1.1 g.1.2 g.2] w':=by
 refine eN1 Tryz.func21 Tryz.ntmps21 ?_
 refine aU2 ?_
 refine oBx fun b1 _=>?_
 refine oAl (fun b2 _=>?_) XL
 refine aU9 ?_
 refine o_p (QD (cs:=[_,_,_,_]) rfl rfl QaF XL rfl) rfl ?_
 refine oAl (fun b3 _=>?_) XL
 refine aU8 ?_
 refine Qr (α:=Nat × (Option Addr × Nat) × List LNd) [4,5,13,14,15,16,17,18,19,20,21,22,23,24,25,26,27,28,29,30,31,32,33,34,35,36,37,38] (fun x=>[(4,.int .i64 (x.1 : Int))]) (fun x=>HS w [] [.own (.slice x.2.1.1 (x.2.2).length x.2.1.2) 69 3 (x.2.2).length ((x.2.2).flatMap LNd.vals),.star ((x.2.2).map (Qar 27)),.blk b3 37 4 [.int .i64 co,.int .i64 mo,.int .i64 rm,.slice x.2.1.1 (x.2.2).length x.2.1.2],.blk b2 37 4 [.int .i64 0,.int .i64 0,.int .i64 0,.slice none 0 0],.blk b1 37 4 [.int .i64 co,.int .i64 mo,.int .i64 rm,.slice a L.length cap]]) (fun x=>x.1 ≤ L.length ∧ x.2.2.length = x.1 ∧ pln x.2.2 = (pln L).take x.1) (fun x=>L.length - x.1) (0,(none,0),[]) ⟨Nat.zero_le _,rfl,rfl⟩ aSx (fun w h=>((h.own_nil 69 3).star_nil).ent aEt) (fun ⟨k,⟨ga,gc⟩,D⟩ hx=>?_)
 dsimp only
 obtain ⟨hk1,hk2,hk3⟩:=hx
 simp only [] at hk1 hk2 hk3
 refine aU9 ?_
 refine sCd rfl (fun h4=>?_) fun h4=>?_
 ·have hkl : k < L.length:=by omega
  have hsk:=hsm k
  rw [Q0 hkl] at hsk
  simp only [LNd.pl] at hsk
  refine aU8 ?_
  refine o_p (Qa rfl rfl rfl Q3 (k) (by omega) (by omega) (Rw.some hs.1 (by omega))) rfl ?_
  refine o_q (Qw _ rfl rfl XC rfl (Rw.rd hs.1 hkl)) rfl ?_
  refine oAl (fun b5 _=>?_) Xq
  refine aU2 ?_
  refine Qz [12,14] QN ?_
  refine dFa 0 ?_
  refine dLd 1 [[],[]] ?_
  refine dFa 2 ?_
  refine dLd 3 [[11,10],[]] ?_
  refine dFa 4 ?_
  refine dLd 5 [[9,6],[]] ?_
  refine dFa 7 ?_
  refine dLd 8 [[9],[]] ?_
  refine dH 6 rfl (QlD rfl QxO rfl (fun w1 h1=>c80 w1 (nth L k).ea (nth L k).ec (nth L k).es ((hs.es hkl).later h1) (by omega))) (fun b6 _=>?_)
  refine dBa ?_
  refine dH 9 rfl (QlD rfl Qw2 rfl (fun w1 h1=>c81 w1 (nth L k).ca (nth L k).cc (nth L k).cs ((hs.cs hkl).later h1) (by omega))) (fun b7 _=>?_)
  refine dBa ?_
  refine dV 10 rfl (QD (cs:=[_,_,_]) rfl rfl Qfe Xq rfl) ?_
  refine dH 11 rfl (Qm (cs:=[_,_,_]) rfl rfl Q3 Xq rfl rfl rfl) (fun b8 _=>?_)
  refine dBa ?_
  refine dH 12 rfl (Xt (LNd.vals (⟨(nth L k).us,b6.1,b6.2,(nth L k).es,b7.1,b7.2,(nth L k).cs⟩ : LNd)) rfl rfl rfl Q3 Tryz.underlying35 Xq rfl aPk (Xo aPk) rfl (nv1 _) (by omega) (by simp only [maxLen];omega)) (fun b9 _=>?_)
  refine dTu [14] ?_
  refine dFa 13 ?_
  refine dSt 14 ?_ (hl:=(by simp only [Qf,List.length_set,List.length_cons,List.length_nil,List.length_map];omega))
  refine dTu [] ?_
  refine dNi ?_
  refine aU ?_
  refine Ql (L':=[(0,_),(1,_),(2,_),(3,_),(4,_),(6,_),(7,_),(8,_),(9,_),(10,_),(11,_),(12,_)]) aSx (fun _ h=>h) ?_
  refine aT3 ?_
  refine aU2 ?_
  exact QP (k + 1,(b9.1,b9.2),D ++ [⟨(nth L k).us,b6.1,b6.2,(nth L k).es,b7.1,b7.2,(nth L k).cs⟩]) (by (try simp only []);omega) ⟨by (try simp only []);omega,by simp [hk2],QqC hkl hk3 rfl⟩ aSx (fun w h=>by have h2:=HS.sub_app (sub:=Qar 27) (l:=D) (x:=(⟨(nth L k).us,b6.1,b6.2,(nth L k).es,b7.1,b7.2,(nth L k).cs⟩ : LNd)) (HS.star_close (Bs:=[_,_]) (h.ent (Bs:=[.own (.slice b6.1 (nth L k).es.length b6.2) 27 2 (nth L k).es.length ((nth L k).es.flatMap TEnt.vals),.own (.slice b7.1 (nth L k).cs.length b7.2) 3 1 (nth L k).cs.length ((nth L k).cs.flatMap inV),.star (D.map (Qar 27)),.own (.slice b9.1 (D.length + 1) b9.2) 69 3 (D.length + 1) (D.flatMap LNd.vals ++ LNd.vals (⟨(nth L k).us,b6.1,b6.2,(nth L k).es,b7.1,b7.2,(nth L k).cs⟩ : LNd)),.blk b3 37 4 [.int .i64 co,.int .i64 mo,.int .i64 rm,.slice b9.1 (D.length + 1) b9.2],.blk b2 37 4 [.int .i64 0,.int .i64 0,.int .i64 0,.slice none 0 0],.blk b1 37 4 [.int .i64 co,.int .i64 mo,.int .i64 rm,.slice a L.length cap]]) aEt));simp only [List.length_append,List.length_singleton,List.flatMap_append,List.flatMap_singleton];exact h2.ent aEt)
 obtain rfl : k = L.length:=by omega
 have hD : pln D = pln L:=by rw [hk3,← Qe L,List.take_length]
 refine Qi rfl ?_
 refine aU5 ?_
 exact Qj (rs:=[.cell 2 37]) rfl (.cell rfl XR aPk rfl (.nil)) (fun w' h'=>⟨((ga,gc),D),by simp only [QW];rw [hk2];rfl,hD,by have h3:=HS.row_shut (a:=ga) (cap:=gc) (l:=D) (sub:=Qar 27) (t:=69) (sz:=3) (vals:=LNd.vals) (h'.ent (Bs:=[.own (.slice ga D.length gc) 69 3 D.length (D.flatMap LNd.vals),.star (D.map (Qar 27))]) aEt) rfl rfl;exact h3⟩)
theorem QjB : QK Tryz.prog 65 = true:=by kernel_rfl
theorem c15 (w : World) (a b : Option Addr) (c d : Nat) (l m : List Int) (hs : Rw inV 1 w [] a l) (ht : Rw inV 1 w [] b m) (hl : l.length ≤ 100000) (hm : m.length ≤ 100000) : Calls Tryz.prog 15 #[.slice a l.length c,.slice b m.length d] w fun en w'=>en = .returned (.bool (decide (l = m))) ∧ Below w.heap.size w w':=by
 refine eN2 Tryz.func15 Tryz.ntmps15 ?_
 refine Qcb ?_
 refine sCd rfl (fun h1=>?_) fun h1=>?_
 ·have hn9 : l ≠ m:=fun e=>by have hq:=h1;rw [e] at hq;simp at hq
  refine aU4 ?_
  exact rT rfl rfl (fun w' h'=>⟨by rw [decide_eq_false hn9];rfl,h'.below⟩)
 have hlm : l.length = m.length:=by have hq:=h1;omega
 refine aU7 ?_
 refine Qr (α:=Nat) [4,5,11,12,13,14,15,16,17,18,19,20,21,22,23,24,25] (fun k=>[(5,.int .i64 (k : Int))]) (fun _=>HS w [] []) (fun k=>k ≤ l.length ∧ ∀ j,j < k → nth l j = nth m j) (fun k=>l.length - k) 0 ⟨Nat.zero_le _,fun j h=>absurd h (Nat.not_lt_zero j)⟩ aSx (fun w h=>h.ent aEt) (fun k hx=>?_)
 obtain ⟨hk1,hk3⟩:=hx
 refine aU8 ?_
 refine sCd rfl (fun h2=>?_) fun h2=>?_
 ·have hk : k < l.length:=by omega
  have hk2 : k < m.length:=by omega
  refine aU4 ?_
  refine Qz [] QN ?_
  refine dP 0 ?_
  refine dP 1 ?_
  refine dV 2 rfl (Qa rfl rfl rfl Xa (k) (by omega) (by omega) (Rw.some hs (by omega))) ?_
  refine dQ 3 [] rfl (Qb rfl rfl ZB ((hs.rdj 0 (by omega) rfl))) ?_
  refine dP 4 ?_
  refine dP 5 ?_
  refine dV 6 rfl (Qa rfl rfl rfl Xa (k) (by omega) (by omega) (Rw.some ht (by omega))) ?_
  refine dQ 7 [] rfl (Qb rfl rfl ZB ((ht.rdj 0 (by omega) rfl))) ?_
  refine dP 8 ?_
  refine dNi ?_
  refine sCd rfl (fun h3=>?_) fun h3=>?_
  ·have hn9 : l ≠ m:=fun e=>by have hq:=h3;rw [e] at hq;simp at hq
   refine aU4 ?_
   exact rT rfl rfl (fun w' h'=>⟨by rw [decide_eq_false hn9];rfl,h'.below⟩)
  have he9 : nth l k = nth m k:=by have hq:=h3;exact hq
  refine aT5 ?_
  refine aU2 ?_
  exact sBk (k + 1) (by omega) ⟨by omega,fun j hj=>(Nat.lt_or_ge j k).elim (hk3 j) (fun h9=>by obtain rfl : j = k:=(by omega);exact he9)⟩
 have hl9 : l = m:=QdU hlm fun j hj=>hk3 j (by omega)
 refine Qi rfl ?_
 refine aU4 ?_
 exact rT rfl rfl (fun w' h'=>⟨by rw [decide_eq_true hl9];rfl,h'.below⟩)
theorem Qvx : Qj0 Tryz.prog 27 = some [1,1]:=by kernel_rfl
instance : TFn Tryz.prog 51:=⟨by kernel_rfl⟩
instance : TFn Tryz.prog 15:=⟨by kernel_rfl⟩
theorem Qpa : QK Tryz.prog 150 = true:=by kernel_rfl
theorem QxL : QK Tryz.prog 33 = true:=by kernel_rfl
instance : TFn Tryz.prog 83:=⟨by kernel_rfl⟩
theorem c51 (w : World) (a b : Option Addr) (c d : Nat) (l m : List TEnt) (hs : Rw TEnt.vals 2 w [] a l) (ht : Rw TEnt.vals 2 w [] b m) (hl : l.length ≤ 100000) (hm : m.length ≤ 100000) : Calls Tryz.prog 51 #[.slice a l.length c,.slice b m.length d] w fun en w'=>en = .returned (.bool (decide (l = m))) ∧ Below w.heap.size w w':=by
 refine eN2 Tryz.func51 Tryz.ntmps51 ?_
 refine Qcb ?_
 refine sCd rfl (fun h1=>?_) fun h1=>?_
 ·have hn9 : l ≠ m:=fun e=>by have hq:=h1;rw [e] at hq;simp at hq
  refine aU4 ?_
  exact rT rfl rfl (fun w' h'=>⟨by rw [decide_eq_false hn9];rfl,h'.below⟩)
 have hlm : l.length = m.length:=by have hq:=h1;omega
 refine aU7 ?_
 refine Qr (α:=Nat) [4,5,11,12,13,14,15,16,17,18,19,20,21,22,23,24,25] (fun k=>[(5,.int .i64 (k : Int))]) (fun _=>HS w [] []) (fun k=>k ≤ l.length ∧ ∀ j,j < k → nth l j = nth m j) (fun k=>l.length - k) 0 ⟨Nat.zero_le _,fun j h=>absurd h (Nat.not_lt_zero j)⟩ aSx (fun w h=>h.ent aEt) (fun k hx=>?_)
 obtain ⟨hk1,hk3⟩:=hx
 refine aU8 ?_
 refine sCd rfl (fun h2=>?_) fun h2=>?_
 ·have hk : k < l.length:=by omega
  have hk2 : k < m.length:=by omega
  refine aU4 ?_
  refine Qz [] QN ?_
  refine dP 0 ?_
  refine dP 1 ?_
  refine dV 2 rfl (Qa rfl rfl rfl Q6 (k) (by omega) (by omega) (Rw.some hs (by omega))) ?_
  refine dQ 3 [] rfl (Qw _ rfl rfl QbX rfl (Rw.rd hs (by omega))) ?_
  refine dP 4 ?_
  refine dP 5 ?_
  refine dV 6 rfl (Qa rfl rfl rfl Q6 (k) (by omega) (by omega) (Rw.some ht (by omega))) ?_
  refine dQ 7 [] rfl (Qw _ rfl rfl QbX rfl (Rw.rd ht (by omega))) ?_
  refine dV 8 rfl (QhC rfl rfl rfl Qvx (by rfl) (by rfl) (by rfl)) ?_
  refine dNi ?_
  refine sCd rfl (fun h3=>?_) fun h3=>?_
  ·have hn9 : l ≠ m:=fun e=>by have hq:=h3;rw [e] at hq;simp at hq
   refine aU4 ?_
   exact rT rfl rfl (fun w' h'=>⟨by rw [decide_eq_false hn9];rfl,h'.below⟩)
  have he9 : nth l k = nth m k:=by have hq:=h3;exact QsM hq.1 hq.2.1
  refine aT5 ?_
  refine aU2 ?_
  exact sBk (k + 1) (by omega) ⟨by omega,fun j hj=>(Nat.lt_or_ge j k).elim (hk3 j) (fun h9=>by obtain rfl : j = k:=(by omega);exact he9)⟩
 have hl9 : l = m:=QdU hlm fun j hj=>hk3 j (by omega)
 refine Qi rfl ?_
 refine aU4 ?_
 exact rT rfl rfl (fun w' h'=>⟨by rw [decide_eq_true hl9];rfl,h'.below⟩)
theorem c33 (w : World) (n m : LNd) (hne : Rw TEnt.vals 2 w [] n.ea n.es) (hnc : Rw inV 1 w [] n.ca n.cs) (hme : Rw TEnt.vals 2 w [] m.ea m.es) (hmc : Rw inV 1 w [] m.ca m.cs) (h1 : n.es.length ≤ 100000 ∧ n.cs.length ≤ 100000) (h2 : m.es.length ≤ 100000 ∧ m.cs.length ≤ 100000) : Calls Tryz.prog 33 #[.agg #[.bool n.us,.slice n.ea n.es.length n.ec,.slice n.ca n.cs.length n.cc],.agg #[.bool m.us,.slice m.ea m.es.length m.ec,.slice m.ca m.cs.length m.cc]] w fun en w'=>en = .returned (.bool (decide (n.pl = m.pl))) ∧ Below w.heap.size w w':=by
 refine eN2 Tryz.func33 Tryz.ntmps33 ?_
 refine aU2 ?_
 refine oBx fun b1 _=>?_
 refine oBx fun b2 _=>?_
 refine aU8 ?_
 refine o_p (Qhb rfl rfl rfl Tryz.underlying4) rfl ?_
 refine aU ?_
 refine Yq 6 10 16 rfl
  (fun hg3 _=>by
   refine aU9 ?_
   refine oCq rfl (fun w1 h1=>c51 w1 n.ea m.ea n.ec m.ec n.es m.es (hne.later h1.nil) (hme.later h1.nil) (by omega) (by omega)) ?_
   exact oJt 6 16)
  (fun hg5 _=>by
   refine aU5 ?_
   exact oJf 6 16) ?_
 refine aU ?_
 refine Yq 6 17 23 rfl
  (fun hg7 _=>by
   refine aU9 ?_
   refine oCq rfl (fun w1 h1=>c15 w1 n.ca m.ca n.cc m.cc n.cs m.cs (hnc.later h1.nil) (hmc.later h1.nil) (by omega) (by omega)) ?_
   exact oJt 6 23)
  (fun hg9 _=>by
   refine aU5 ?_
   exact oJf 6 23) ?_
 refine aU2 ?_
 exact rT rfl rfl (fun w' h'=>⟨by simp only [QW];rw [Qrz],h'.below⟩)
theorem c150 (w : World) (co mo rm : Int) (a : Option Addr) (cap : Nat) (L : List LNd) (k : Nat) (hs : Rw LNd.vals 3 w [] a L) : Calls Tryz.prog 150 #[.agg #[.int .i64 co,.int .i64 mo,.int .i64 rm,.slice a L.length cap],.int .i64 (k : Int)] w fun en w'=>en = .returned (.agg (LNd.vals (nth L k)).toArray) ∧ Below w.heap.size w w':=by
 refine eN2 Tryz.func150 Tryz.ntmps150 ?_
 refine aU2 ?_
 refine oBx fun b1 _=>?_
 refine oAl (fun b2 _=>?_) Xq
 refine Zv ?_
 refine sCd rfl (fun h3=>?_) fun h3=>?_
 ·refine aU5 ?_
  refine o_p (Qa rfl rfl rfl Q3 (k) (by omega) (by omega) (Rw.some hs (by omega))) rfl ?_
  refine o_q (Qw _ rfl rfl XC rfl (Rw.rd hs (by omega))) rfl ?_
  refine aU2 ?_
  exact Qj (rs:=[.cell 4 69]) rfl (.cell rfl XC aPk rfl (.nil)) (fun w' h'=>⟨by first | rfl | (rw [Qaw (by omega)];rfl),h'.below⟩)
 refine aU3 ?_
 refine o_p (QD (cs:=[_,_,_]) rfl rfl Qfe Xq rfl) rfl ?_
 refine aU2 ?_
 exact Qj (rs:=[.cell 4 69]) rfl (.cell rfl XC aPk rfl (.nil)) (fun w' h'=>⟨by first | rfl | (rw [Qaw (by omega)];rfl),h'.below⟩)
theorem c83 (w : World) (co mo rm co2 mo2 rm2 : Int) (a b : Option Addr) (ca cb : Nat) (L M : List LNd) (hs : Nt w [] a L) (ht : Nt w [] b M) (hL : L.length ≤ 1000) (hM : M.length ≤ 1000) (hLs : Sm 100000 (pln L)) (hMs : Sm 100000 (pln M)) : Calls Tryz.prog 83 #[.agg #[.int .i64 co,.int .i64 mo,.int .i64 rm,.slice a L.length ca],.agg #[.int .i64 co2,.int .i64 mo2,.int .i64 rm2,.slice b M.length cb]] w fun en w'=>∃ g : Option Addr × Nat,en = .returned (.slice g.1 (Qi8 (pln L) (pln M)).length g.2) ∧ True ∧ HS w [] [.own (.slice g.1 ((Qi8 (pln L) (pln M))).length g.2) 3 1 ((Qi8 (pln L) (pln M))).length (((Qi8 (pln L) (pln M))).map fun i : Nat=>Value.int .i64 (i : Int))] w':=by
 refine eN2 Tryz.func83 Tryz.ntmps83 ?_
 refine aU2 ?_
 refine oBx fun b1 _=>?_
 refine oBx fun b2 _=>?_
 refine Qbn ?_
 refine Qr (α:=Nat × Option Addr × Nat) [5,6,7,8,9,10,11,12,13,14,15,16,17,18,19,20,21,22,23,24,25,26,27,28,29] (fun x=>[(6,.int .i64 (x.1 : Int)),(5,.slice x.2.1 (QeK (pln L) (pln M) x.1).length x.2.2)]) (fun x=>HS w [] [.own (.slice x.2.1 ((QeK (pln L) (pln M) x.1)).length x.2.2) 3 1 ((QeK (pln L) (pln M) x.1)).length (((QeK (pln L) (pln M) x.1)).map fun i : Nat=>Value.int .i64 (i : Int)),.blk b1 37 4 [.int .i64 co,.int .i64 mo,.int .i64 rm,.slice a L.length ca],.blk b2 37 4 [.int .i64 co2,.int .i64 mo2,.int .i64 rm2,.slice b M.length cb]]) (fun x=>x.1 ≤ (max L.length M.length)) (fun x=>(max L.length M.length) - x.1) (0,none,0) (Nat.zero_le _) aSx (fun w h=>(h.own_nil 3 1).ent aEt) (fun ⟨k,ga,gc⟩ hk1=>?_)
 dsimp only
 simp only [] at hk1
 refine Zv ?_
 refine o_p (Qg8 rfl rfl rfl ) rfl ?_
 refine aU2 ?_
 refine sCd rfl (fun h3=>?_) fun h3=>?_
 ·have hk : k < (max L.length M.length):=by have hq:=h3;omega
  have hkl:=Qpj (pln L) (pln M) k
  refine aU4 ?_
  refine Qz [] QN ?_
  refine dLn 0 [] ?_
  refine dP 1 ?_
  refine dQ 2 [] rfl (Qq rfl Qpa rfl (fun w1 h1=>c150 w1 co mo rm a ca L k (Rw.later hs.1 h1.nil))) ?_
  refine dLn 3 [] ?_
  refine dP 4 ?_
  refine dQ 5 [] rfl (Qq rfl Qpa rfl (fun w1 h1=>c150 w1 co2 mo2 rm2 b cb M k (Rw.later ht.1 h1.nil))) ?_
  refine dQ 6 [] rfl (Qq rfl QxL rfl (fun w1 h1=>c33 w1 (nth L k) (nth M k) ((hs.esA k).later h1.nil) ((hs.csA k).later h1.nil) ((ht.esA k).later h1.nil) ((ht.csA k).later h1.nil) (by have:=hLs k;rw [QL] at this;exact this) (by have:=hMs k;rw [QL] at this;exact this))) ?_
  refine dP 7 ?_
  refine dNi ?_
  refine sCd rfl (fun h4=>?_) fun h4=>?_
  ·have hne9 : nth (pln L) k ≠ nth (pln M) k:=by rw [QL,QL];have hq:=h4;simpa using hq
   have hst:=Qt3 hne9
   refine aU3 ?_
   refine o_h (Qm (cs:=[_]) rfl rfl Xa Qew rfl rfl rfl) rfl (fun b5 _=>?_)
   refine o_h (Xt [_] rfl rfl rfl Xa Tryz.underlying28 Qew rfl aPk (Xo aPk) rfl (by intro u hu;simp only [List.mem_cons,List.mem_nil_iff,or_false] at hu;subst hu;rfl) (by omega) (by simp only [maxLen];omega)) rfl (fun b6 _=>?_)
   refine aT6 ?_
   refine aU2 ?_
   exact QP (k + 1,b6.1,b6.2) (by (try simp only []);omega) (by (try simp only []);omega) (by dsimp only;rw [hst];simp only [List.length_append,List.length_singleton];exact aSx) (fun w h=>by have h2:=h;dsimp only;rw [hst];simp only [List.length_append,List.length_singleton,List.map_append,List.map_cons,List.map_nil];exact h2.ent aEt)
  have hne9 : nth (pln L) k = nth (pln M) k:=by rw [QL,QL];have hq:=h4;simpa using hq
  have hst:=Qts hne9
  refine aT5 ?_
  refine aU2 ?_
  exact QP (k + 1,ga,gc) (by (try simp only []);omega) (by (try simp only []);omega) (by dsimp only;rw [hst];exact aSx) (fun w h=>by dsimp only;rw [hst];exact h.ent aEt)
 obtain rfl : k = (max L.length M.length):=by omega
 refine Qi rfl ?_
 refine aU5 ?_
 exact rT rfl rfl (fun w' h'=>⟨(ga,gc),by unfold Qi8;rw [Qe,Qe];rfl,trivial,by unfold Qi8;rw [Qe,Qe];exact h'.ent aEt⟩)
theorem c23 (w : World) (co mo rm : Int) (a b : Option Addr) (ca cb : Nat) (L M : List LNd) (hs : Nt w [] a L) (ht : Nt w [] b M) (hL : L.length ≤ 1000) (hM : M.length ≤ 1000) (hLs : Sm 100000 (pln L)) (hMs : Sm 100000 (pln M)) (he : pln L = pln M) : Calls Tryz.prog 23 #[.agg #[.int .i64 co,.int .i64 mo,.int .i64 rm,.slice a L.length ca],.agg #[.int .i64 co,.int .i64 mo,.int .i64 rm,.slice b M.length cb]] w fun en w'=>en = .returned (.bool true) ∧ Below w.heap.size w w':=by
 have hl9 : L.length = M.length:=by rw [← Qe L,he,Qe]
 have hch : (Qi8 (pln L) (pln M)) = []:=Qqf he
 refine eN2 Tryz.func23 Tryz.ntmps23 ?_
 refine aU2 ?_
 refine oBx fun b1 _=>?_
 refine oBx fun b2 _=>?_
 refine QdM ?_
 refine oOr 6 10 16 rfl
  (fun hg3 _=>by
   refine Zv ?_
   exact oJf 6 16)
  (fun hg5 _=>by
   refine aU5 ?_
   exact oJt 6 16) ?_
 refine aU ?_
 refine oOr 6 17 23 rfl
  (fun hg7 _=>by
   refine Zv ?_
   exact oJf 6 23)
  (fun hg9 _=>by
   refine aU5 ?_
   exact oJt 6 23) ?_
 refine aU ?_
 refine oOr 8 24 32 rfl
  (fun hg11 _=>by
   refine Qgs ?_
   exact oJf 8 32)
  (fun hg13 _=>by
   refine aU7 ?_
   exact oJt 8 32) ?_
 refine aU ?_
 refine sCd rfl (fun h15=>?_) fun h15=>?_
 ·exfalso;have hq9:=h15;simp [hl9] at hq9
 refine aU5 ?_
 refine oCh rfl (fun w1 h1=>c83 w1 co mo rm co mo rm a b ca cb L M (hs.later h1.nil) (ht.later h1.nil) hL hM hLs hMs) (fun b16 _=>?_)
 rw [hch]
 refine aU4 ?_
 exact rT rfl rfl (fun w' h'=>⟨by rfl,h'.below⟩)
end Go.Proofs
namespace Gx
open Go Go.RowKit Go.Proofs
section
variable {w0 w : World} {M : List Nat} {As As' : List HA}
end
abbrev siz0 (co mo rm : Int) : Int:=if Qs co = 0 then XG mo rm else Qs co
abbrev cE1 (co : Int) (a : List UInt8) : Int:=if Qs co = 0 then Yf co a else Qs co
end Gx
namespace Gx
open Go Go.RowKit
def Xf (n : Nat) (S : List Int) : List Value:=(List.range n).map fun k=>Value.bool (decide (((k : Nat) : Int) ∈ S))
theorem Qbh (n : Nat) (S : List Int) : (Xf n S).length = n:=by simp [Xf]
theorem Qa0 {n k : Nat} {S : List Int} (h : k < n) : (Xf n S)[k]? = some (.bool (decide (((k : Nat) : Int) ∈ S))):=by
 unfold Xf;rw [List.getElem?_map,List.getElem?_range h];rfl
theorem Qla {n k : Nat} {S : List Int} (h : k < n) : Qh (Xf n S) k [.bool true] = Xf n (((k : Nat) : Int) :: S):=by
 apply List.ext_getElem?;intro i;show ((Xf n S).set k (.bool true))[i]? = _;rw [List.getElem?_set]
 by_cases hi : i < n
 ·rw [Qa0 hi]
  by_cases e : k = i
  ·subst e;rw [if_pos rfl,if_pos (by rw [Qbh];exact h),Qa0 h,decide_eq_true (List.mem_cons_self ..)]
  ·rw [if_neg e,Qa0 hi];congr 2;have hne : ((i : Nat) : Int) ≠ ((k : Nat) : Int):=by omega
   simp [List.mem_cons,hne]
 ·rw [if_neg (by omega),List.getElem?_eq_none (by rw [Qbh];omega),List.getElem?_eq_none (by rw [Qbh];omega)]
theorem QrB {n : Nat} {c : Int} {S : List Int} (h : c ∈ S) : Xf n (c :: S) = Xf n S:=by
 unfold Xf;apply List.map_congr_left;intro k _;congr 1
 by_cases e : ((k : Nat) : Int) ∈ S
 ·rw [decide_eq_true e,decide_eq_true (List.mem_cons_of_mem _ e)]
 ·rw [decide_eq_false e,decide_eq_false (fun h2=>by
   rcases List.mem_cons.1 h2 with h3 | h3
   ·exact e (h3 ▸ h)
   ·exact e h3)]
theorem QtP {t : Tre} {i : Nat} {S : List Int} (h : ¬ (nth t.ns i).us = true) : XS t i S = if (0 < i ∧ i + 1 < t.ns.length) ∧ (nth t.ns i).es.length + (nth t.ns i).cs.length = 0 then (0,S) else (3,S):=by
 unfold XS;simp only [];rw [if_neg h]
section
variable {t : Tre} {i : Nat} {S : List Int} {n : Nd}
theorem Qtw (hn : nth t.ns i = n) (hu : n.us = true) (h : ¬ (n.es.length : Int) ≤ YU t.mo t.rm i) : XS t i S = (16,S):=by
 subst hn;unfold XS;simp only [];rw [if_pos hu,if_neg h]
theorem QtA (hn : nth t.ns i = n) (hu : n.us = true) (h : (n.es.length : Int) ≤ YU t.mo t.rm i) (h2 : ¬ (n.cs.length = 0 ∨ n.cs.length = n.es.length + 1)) : XS t i S = (10,S):=by
 subst hn;unfold XS;simp only [];rw [if_pos hu,if_pos h,if_neg h2]
theorem QtD (hn : nth t.ns i = n) (hu : n.us = true) (h : (n.es.length : Int) ≤ YU t.mo t.rm i) (h2 : n.cs.length = 0 ∨ n.cs.length = n.es.length + 1) (h3 : ¬ ZA t.co n.es = 0) : XS t i S = (ZA t.co n.es,S):=by
 subst hn;unfold XS;simp only [];rw [if_pos hu,if_pos h,if_pos h2,if_neg h3]
theorem Qnx (hn : nth t.ns i = n) (hu : n.us = true) (h : (n.es.length : Int) ≤ YU t.mo t.rm i) (h2 : n.cs.length = 0 ∨ n.cs.length = n.es.length + 1) (h3 : ZA t.co n.es = 0) (h4 : ¬ (X7 t.ns n.cs S).1 = 0) : XS t i S = X7 t.ns n.cs S:=by
 subst hn;unfold XS;simp only [];rw [if_pos hu,if_pos h,if_pos h2,if_pos h3,if_neg h4]
theorem QtB (hn : nth t.ns i = n) (hu : n.us = true) (h : (n.es.length : Int) ≤ YU t.mo t.rm i) (h2 : n.cs.length = 0 ∨ n.cs.length = n.es.length + 1) (h3 : ZA t.co n.es = 0) (h4 : (X7 t.ns n.cs S).1 = 0) : XS t i S = (Qbd t.co n.es,(X7 t.ns n.cs S).2):=by
 subst hn;unfold XS;simp only [];rw [if_pos hu,if_pos h,if_pos h2,if_pos h3,if_pos h4]
end
theorem QkS {es : List Int} {k : Nat} (hk : k < es.length) (h : ∀ j,j < k → es.getD j 0 = 0) (h2 : es.getD k 0 ≠ 0) : XQ es 0 = ((k : Int),es.getD k 0):=by
 have key : ∀ i,i ≤ k → XQ es 0 = XQ (es.drop i) i:=by
  intro i
  induction i with
  | zero=>intro _;rfl
  | succ i ih=>
   intro hi;rw [ih (by omega),Qaa (by omega),if_pos (h i (by omega))]
 rw [key k (Nat.le_refl _),Qaa hk,if_neg h2]
theorem QhG {es : List Int} (h : ∀ j,j < es.length → es.getD j 0 = 0) : XQ es 0 = (0,0):=by
 have key : ∀ i,i ≤ es.length → XQ es 0 = XQ (es.drop i) i:=by
  intro i
  induction i with
  | zero=>intro _;rfl
  | succ i ih=>
   intro hi;rw [ih (by omega),Qaa (by omega),if_pos (h i (by omega))]
 rw [key _ (Nat.le_refl _),List.drop_length];rfl
theorem Qpp {co : Int} {es : List TEnt} {k : Nat} (hk : k < es.length) (h1 : ∀ q,q < k → Y0 co (nth es q) = 0) (h2 : ¬ Y0 co (nth es k) = 0) : ZA co es = Y0 co (nth es k):=by
 unfold ZA;rw [QkS (es:=es.map (Y0 co)) (k:=k) (by rw [List.length_map];exact hk) (fun q hq=>by rw [Qcx (by omega)];exact h1 q hq) (by rw [Qcx hk];exact h2),Qcx hk]
theorem Qq8 {co : Int} {es : List TEnt} (h1 : ∀ q,q < es.length → Y0 co (nth es q) = 0) : ZA co es = 0:=by
 unfold ZA;rw [QhG (fun q hq=>by rw [List.length_map] at hq;rw [Qcx hq];exact h1 q hq)]
theorem Qpd {co : Int} {es : List TEnt} {k : Nat} (hk : k < es.length) (h1 : ∀ q,q < k → Qbj co es q = 0) (h2 : ¬ Qbj co es k = 0) : Qbd co es = Qbj co es k:=by
 unfold Qbd;rw [QkS (es:=(List.range es.length).map (Qbj co es)) (k:=k) (by simpa using hk) (fun q hq=>by rw [Qch (by omega)];exact h1 q hq) (by rw [Qch hk];exact h2),Qch hk]
theorem QpD {co : Int} {es : List TEnt} (h1 : ∀ q,q < es.length → Qbj co es q = 0) : Qbd co es = 0:=by
 unfold Qbd;rw [QhG (fun q hq=>by rw [List.length_map,List.length_range] at hq;rw [Qch hq];exact h1 q hq)]
end Gx
namespace Go.Proofs
open Go Go.RowKit Gx
attribute [local irreducible] Go.Calls Gx.S Gx.O Gx.D Gx.OpP Gx.OpQ Gx.OpH
set_option maxRecDepth 20000
theorem Qu1 : QK Tryz.prog 198 = true:=by kernel_rfl
theorem c136 (w : World) (j : Nat) (mo rm : Int) (a : Option Addr) (cap : Nat) (L : List LNd) (i sb scap tot : Nat) (S : List Int) (hw : HS w (fps [.blk sb 4 tot (Xf L.length S)]) [.blk sb 4 tot (Xf L.length S)] w) (hs : Nt w (fps [.blk sb 4 tot (Xf L.length S)]) a L) (hj : j ≤ 3) (hi : i < L.length) (hl : L.length ≤ 1000) (hel : (nth L i).es.length ≤ 1000) (hcl : (nth L i).cs.length ≤ 1000) (hK : ∀ x ∈ (nth L i).es,x.key.length ≤ 1000000) : Calls Tryz.prog 136 #[.agg #[.int .i64 (j : Int),.int .i64 mo,.int .i64 rm,.slice a L.length cap],.int .i64 (i : Int),.slice (some ⟨sb,0,none⟩) L.length scap] w fun en w'=>∃ g : Unit,en = .returned (.int .i64 (XS (⟨(j : Int),mo,rm,pln L⟩ : Tre) i S).1) ∧ True ∧ HS w (fps [.blk sb 4 tot (Xf L.length S)]) [.blk sb 4 tot (Xf L.length (XS (⟨(j : Int),mo,rm,pln L⟩ : Tre) i S).2)] w':=by
 have hNI:=Q0 hi
 have hnl : (pln L).length = L.length:=Qe L
 refine eW3 Tryz.func136 Tryz.ntmps136 hw ?_
 refine aU2 ?_
 refine oBx fun b1 _=>?_
 refine aU7 ?_
 refine o_p (Qa rfl rfl rfl Q3 (i) (by omega) (by omega) (Rw.some hs.1 (by omega))) rfl ?_
 refine o_q (Qw _ rfl rfl XC rfl (Rw.rd hs.1 hi)) rfl ?_
 refine oAl (fun b2 _=>?_) Xq
 refine aU9 ?_
 refine sCd rfl (fun h3=>?_) fun h3=>?_
 ·have hu9 : ¬ (nth L i).us = true:=by have hq:=h3;simp [hq]
  have hun:=QtP (t:=(⟨(j : Int),mo,rm,pln L⟩ : Tre)) (S:=S) (i:=i) (by rw [show ((⟨(j : Int),mo,rm,pln L⟩ : Tre)).ns = pln L from rfl,hNI];exact hu9)
  rw [show ((⟨(j : Int),mo,rm,pln L⟩ : Tre)).ns = pln L from rfl,hNI,hnl] at hun
  refine aU6 ?_
  refine oOr 7 24 31 rfl
   (fun hg4 _=>by
    refine aT4 ?_
    refine aU8 ?_
    exact oJf 7 31)
   (fun hg6 _=>by
    refine aU6 ?_
    exact oJt 7 31) ?_
  refine aU ?_
  refine oOr 5 32 37 rfl
   (fun hg8 _=>by
    refine aU8 ?_
    exact oJf 5 37)
   (fun hg10 _=>by
    refine aU4 ?_
    exact oJt 5 37) ?_
  refine aU ?_
  refine oOr 5 38 43 rfl
   (fun hg12 _=>by
    refine aU8 ?_
    exact oJf 5 43)
   (fun hg14 _=>by
    refine aU4 ?_
    exact oJt 5 43) ?_
  refine aU ?_
  refine sCd rfl (fun h16=>?_) fun h16=>?_
  ·have hn9 : ¬ ((0 < i ∧ i + 1 < L.length) ∧ (nth L i).es.length + (nth L i).cs.length = 0):=by have hq:=h16;omega
   have hun2 : (XS (⟨(j : Int),mo,rm,pln L⟩ : Tre) i S) = (3,S):=by rw [hun];exact if_neg hn9
   refine aU4 ?_
   exact rT rfl rfl (fun w' h'=>⟨(),by rw [hun2];rfl,trivial,by rw [hun2];exact h'.ent aEt⟩)
  have hn9 : (0 < i ∧ i + 1 < L.length) ∧ (nth L i).es.length + (nth L i).cs.length = 0:=by have hq:=h16;omega
  have hun2 : (XS (⟨(j : Int),mo,rm,pln L⟩ : Tre) i S) = (0,S):=by rw [hun];exact if_pos hn9
  refine aU5 ?_
  exact rT rfl rfl (fun w' h'=>⟨(),by rw [hun2];rfl,trivial,by rw [hun2];exact h'.ent aEt⟩)
 have hu9 : (nth L i).us = true:=by have hq:=h3;simpa using hq
 refine Qcb ?_
 refine Ql (L':=[(2,_),(3,_),(6,_),(7,_),(8,_),(47,_)]) aSx (fun _ h=>h) ?_
 refine Qi7 (α:=Unit) [8,48,49] (fun _=>[(8,.int .i64 (YU mo rm i))]) (fun _=>True) ?_ ?_
 ·skip
  refine sCd rfl (fun h17=>?_) fun h17=>?_
  ·have hi0 : i = 0:=by have hq:=h17;omega
   refine aU5 ?_
   exact Qt () trivial (by rw [show YU mo rm i = rm from if_pos hi0];exact aSx) (fun w h=>h)
  have hi0 : ¬ i = 0:=by have hq:=h17;omega
  refine aU ?_
  exact Qt () trivial (by rw [show YU mo rm i = mo from if_neg hi0];exact aSx) (fun w h=>h)
 intro _ _
 refine aU9 ?_
 refine sCd rfl (fun h18=>?_) fun h18=>?_
 ·have h16 : (XS (⟨(j : Int),mo,rm,pln L⟩ : Tre) i S) = (16,S):=Qtw (t:=(⟨(j : Int),mo,rm,pln L⟩ : Tre)) hNI hu9 (by show ¬ ((nth L i).es.length : Int) ≤ YU mo rm i;have hq:=h18;omega)
  refine aU4 ?_
  exact rT rfl rfl (fun w' h'=>⟨(),by rw [h16];rfl,trivial,by rw [h16];exact h'.ent aEt⟩)
 have hM9 : ((nth L i).es.length : Int) ≤ YU mo rm i:=by have hq:=h18;omega
 refine aU9 ?_
 refine Yq 9 59 68 rfl
  (fun hg19 _=>by
   refine aT14 ?_
   refine aU2 ?_
   exact oJt 9 68)
  (fun hg21 _=>by
   refine aU8 ?_
   exact oJf 9 68) ?_
 refine aU ?_
 refine sCd rfl (fun h23=>?_) fun h23=>?_
 ·have h10 : (XS (⟨(j : Int),mo,rm,pln L⟩ : Tre) i S) = (10,S):=QtA (t:=(⟨(j : Int),mo,rm,pln L⟩ : Tre)) hNI hu9 hM9 (by show ¬ ((nth L i).cs.length = 0 ∨ (nth L i).cs.length = (nth L i).es.length + 1);have hq:=h23;omega)
  refine aU4 ?_
  exact rT rfl rfl (fun w' h'=>⟨(),by rw [h10];rfl,trivial,by rw [h10];exact h'.ent aEt⟩)
 have hS9 : (nth L i).cs.length = 0 ∨ (nth L i).cs.length = (nth L i).es.length + 1:=by have hq:=h23;omega
 refine aU7 ?_
 refine Ql (L':=[(2,_),(3,_),(6,_),(7,_),(9,_)]) aSx (fun _ h=>h) ?_
 refine Qr (α:=Nat) [6,9,10,69,70,71,72,73,74,75,76,77,78,79,80,81,82,83,84,85,86] (fun k=>[(9,.int .i64 (k : Int))]) (fun _=>HS w (fps [.blk sb 4 tot (Xf L.length S)]) [.blk sb 4 tot (Xf L.length S),.blk b1 37 4 [.int .i64 (j : Int),.int .i64 mo,.int .i64 rm,.slice a L.length cap],.blk b2 69 3 (LNd.vals (nth L i))]) (fun k=>k ≤ (nth L i).es.length ∧ ∀ q,q < k → Y0 (j : Int) (nth (nth L i).es q) = 0) (fun k=>(nth L i).es.length - k) 0 ⟨Nat.zero_le _,fun j h=>absurd h (Nat.not_lt_zero j)⟩ aSx (fun w h=>h.ent aEt) (fun k hx=>?_)
 obtain ⟨hk1,hk3⟩:=hx
 refine aU9 ?_
 refine sCd rfl (fun h24=>?_) fun h24=>?_
 ·have hk5 : k < (nth L i).es.length:=by omega
  refine aU4 ?_
  refine Qz [] QN ?_
  refine dFa 0 ?_
  refine dLd 1 [] ?_
  refine dFa 2 ?_
  refine dLd 3 [] ?_
  refine dP 4 ?_
  refine dV 5 rfl (Qa rfl rfl rfl Q6 (k) (by omega) (by omega) (Rw.some (hs.es hi) (by omega))) ?_
  refine dQ 6 [] rfl (Qw _ rfl rfl QbX rfl (Rw.rd (hs.es hi) hk5)) ?_
  refine dQ 7 [] rfl (Qq rfl Qu1 rfl (fun w1 h1=>c198 w1 j (nth (nth L i).es k) hj (hK _ (Qv hk5)))) ?_
  refine dP 8 ?_
  refine dNi ?_
  refine aU5 ?_
  refine sCd rfl (fun h25=>?_) fun h25=>?_
  ·have hz6 : ¬ Y0 (j : Int) (nth (nth L i).es k) = 0:=h25
   have hEb:=Qpp hk5 hk3 hz6
   have hEe : (XS (⟨(j : Int),mo,rm,pln L⟩ : Tre) i S) = (Y0 (j : Int) (nth (nth L i).es k),S):=by rw [← hEb];exact QtD (t:=(⟨(j : Int),mo,rm,pln L⟩ : Tre)) hNI hu9 hM9 hS9 (by show ¬ ZA (j : Int) (nth L i).es = 0;rw [hEb];exact hz6)
   refine aU5 ?_
   exact rT rfl rfl (fun w' h'=>⟨(),by rw [hEe];rfl,trivial,by rw [hEe];exact h'.ent aEt⟩)
  have hz6 : Y0 (j : Int) (nth (nth L i).es k) = 0:=by have hq:=h25;omega
  refine aT5 ?_
  refine aU2 ?_
  exact sBk (k + 1) (by omega) ⟨by omega,fun q hq=>(Nat.lt_or_ge q k).elim (hk3 q) (fun h9=>by obtain rfl : q = k:=(by omega);exact hz6)⟩
 have hEn : ∀ q,q < (nth L i).es.length → Y0 (j : Int) (nth (nth L i).es q) = 0:=fun q hq=>hk3 q (by omega)
 have hE0 : ZA (j : Int) (nth L i).es = 0:=Qq8 hEn
 refine Qi rfl ?_
 refine aU6 ?_
 refine Qr (α:=Nat × List Int) [6,11,12,87,88,89,90,91,92,93,94,95,96,97,98,99,100,101,102,103,104,105,106,107,108,109,110,111,112,113,114,115,116,117,118,119,120,121] (fun y=>[(11,.int .i64 (y.1 : Int))]) (fun y=>HS w (fps [.blk sb 4 tot (Xf L.length S)]) [.blk sb 4 tot (Xf L.length y.2),.blk b1 37 4 [.int .i64 (j : Int),.int .i64 mo,.int .i64 rm,.slice a L.length cap],.blk b2 69 3 (LNd.vals (nth L i))]) (fun y=>y.1 ≤ (nth L i).cs.length ∧ (X7 (pln L) (nth L i).cs S) = X7 (pln L) ((nth L i).cs.drop y.1) y.2) (fun y=>(nth L i).cs.length - y.1) (0,S) ⟨Nat.zero_le _,rfl⟩ aSx (fun w h=>h.ent aEt) (fun ⟨k,Sk⟩ hx=>?_)
 dsimp only
 obtain ⟨hk1,hk3⟩:=hx
 simp only [] at hk1 hk3
 refine aU9 ?_
 refine sCd rfl (fun h26=>?_) fun h26=>?_
 ·have hk5 : k < (nth L i).cs.length:=by omega
  have hkd9 : nth (nth L i).cs k = ((nth L i).cs.getD k 0):=rfl
  have hst:=QcL hk5
  rw [hst,Qbv] at hk3
  refine aU8 ?_
  refine o_p (Qa rfl rfl rfl Xa (k) (by omega) (by omega) (Rw.some (hs.cs hi) (by omega))) rfl ?_
  refine o_q (Qb rfl rfl ZB (((hs.cs hi).rdj 0 hk5 rfl))) rfl ?_
  refine Qk (show _ = Value.int .i64 ((nth L i).cs.getD k 0) from rfl) ?_
  refine QlS ?_
  refine oCq rfl (fun w1 h1=>c40 w1 _ _ _) ?_
  refine aU2 ?_
  refine oOr 8 106 114 rfl
   (fun hg27 _=>by
    refine aU7 ?_
    refine o_p (Qa rfl rfl rfl Q3 (((nth L i).cs.getD k 0).toNat) (by omega) (by omega) (Rw.some hs.1 (by omega))) rfl ?_
    refine aU3 ?_
    refine o_q (Qb rfl rfl QeZ ((hs.1.rdj 0 (i:=((nth L i).cs.getD k 0).toNat) (by omega) rfl))) rfl ?_
    refine aU2 ?_
    exact oJf 8 114)
   (fun hg29 _=>by
    refine aU7 ?_
    exact oJt 8 114) ?_
  refine aU ?_
  refine sCd rfl (fun h31=>?_) fun h31=>?_
  ·have hko : ¬ Qdg (pln L) ((nth L i).cs.getD k 0):=by rintro ⟨h91,h92⟩;rw [hnl] at h91;rw [Q0 (by omega)] at h92;have hq:=h31;exact hq.elim (fun hq=>by omega) (fun hq=>by rw [show (nth L ((nth L i).cs.getD k 0).toNat).pl.us = (nth L ((nth L i).cs.getD k 0).toNat).us from rfl,hq] at h92;cases h92)
   have hk6e : (XS (⟨(j : Int),mo,rm,pln L⟩ : Tre) i S) = (6,Sk):=by have h8 : Qcs (pln L) ((nth L i).cs.getD k 0) Sk = 6:=if_neg hko;have h7 : Qd5 (pln L) ((nth L i).cs.getD k 0) Sk = Sk:=if_neg hko;rw [h8,h7,if_neg (by decide)] at hk3;rw [← hk3];exact Qnx (t:=(⟨(j : Int),mo,rm,pln L⟩ : Tre)) hNI hu9 hM9 hS9 hE0 (by show ¬ (X7 (pln L) (nth L i).cs S).1 = 0;rw [hk3];show ¬ (6 : Int) = 0;decide)
   refine aU ?_
   refine Ql (L':=[(2,_),(3,_),(7,_),(9,_),(11,_),(12,_),(69,_),(70,_),(71,_),(72,_),(73,_)]) aSx (fun _ h=>h) ?_
   refine aU3 ?_
   exact rT rfl rfl (fun w' h'=>⟨(),by rw [hk6e];rfl,trivial,by rw [hk6e];exact h'.ent aEt⟩)
  have hko : Qdg (pln L) ((nth L i).cs.getD k 0):=by have hq:=h31;refine ⟨by rw [hnl];exact hq.1,?_⟩;rw [Q0 (by omega)];exact hq.2
  have hko1:=hko.1
  rw [hnl] at hko1
  have hcv2 : ((nth L i).cs.getD k 0).toNat < L.length:=by omega
  have hcc : ((((nth L i).cs.getD k 0).toNat : Nat) : Int) = ((nth L i).cs.getD k 0):=Int.toNat_of_nonneg (by omega)
  have h7 : Qd5 (pln L) ((nth L i).cs.getD k 0) Sk = ((nth L i).cs.getD k 0) :: Sk:=if_pos hko
  rw [h7] at hk3
  have hsv:=Qla (n:=L.length) (S:=Sk) hcv2
  rw [hcc] at hsv
  refine aU3 ?_
  refine Ql (L':=[(2,_),(3,_),(7,_),(9,_),(11,_),(12,_),(69,_),(70,_),(71,_),(72,_),(73,_)]) aSx (fun _ h=>h) ?_
  refine aU3 ?_
  refine o_p (Qa rfl rfl rfl Qby (((nth L i).cs.getD k 0).toNat) (by omega) (by omega) rfl) rfl ?_
  refine Qk (show _ = Value.pointer (some ⟨sb,((nth L i).cs.getD k 0).toNat,none⟩) from by rw [Nat.zero_add,Nat.mul_one]) ?_
  refine o_q (XZ rfl rfl QeZ (fun w h=>h.rd_blk (Mc:=[]) aPk (Qa0 hcv2) (by simp))) rfl ?_
  refine aU ?_
  refine sCd rfl (fun h32=>?_) fun h32=>?_
  ·have hmem : ((nth L i).cs.getD k 0) ∈ Sk:=by have hq:=h32;rw [hcc] at hq;exact hq
   have h8 : Qcs (pln L) ((nth L i).cs.getD k 0) Sk = 23:=by rw [Qcs,if_pos hko,if_pos hmem]
   rw [h8,if_neg (by decide)] at hk3
   have hk23 : (XS (⟨(j : Int),mo,rm,pln L⟩ : Tre) i S) = (23,((nth L i).cs.getD k 0) :: Sk):=by rw [← hk3];exact Qnx (t:=(⟨(j : Int),mo,rm,pln L⟩ : Tre)) hNI hu9 hM9 hS9 hE0 (by show ¬ (X7 (pln L) (nth L i).cs S).1 = 0;rw [hk3];show ¬ (23 : Int) = 0;decide)
   refine aU4 ?_
   exact rT rfl rfl (fun w' h'=>⟨(),by rw [hk23];rfl,trivial,by rw [hk23,QrB hmem];exact h'.ent aEt⟩)
  have hmem : ¬ ((nth L i).cs.getD k 0) ∈ Sk:=by have hq:=h32;rw [hcc] at hq;exact hq
  have h8 : Qcs (pln L) ((nth L i).cs.getD k 0) Sk = 0:=by rw [Qcs,if_pos hko,if_neg hmem]
  rw [h8,if_pos rfl] at hk3
  have hk9:=hk3
  refine aU4 ?_
  refine o_p (Qa rfl rfl rfl Qby (((nth L i).cs.getD k 0).toNat) (by omega) (by omega) rfl) rfl ?_
  refine Qk (show _ = Value.pointer (some ⟨sb,((nth L i).cs.getD k 0).toNat,none⟩) from by rw [Nat.zero_add,Nat.mul_one]) ?_
  refine Qld (Qbz rfl rfl rfl QeZ rfl aPt (by rw [Qbh];show _ + 1 ≤ _;omega) rfl) (fun _ _=>?_)
  refine aT5 ?_
  refine aU2 ?_
  exact QP (k + 1,((nth L i).cs.getD k 0) :: Sk) (by (try simp only []);omega) ⟨by (try simp only []);omega,hk9⟩ aSx (fun w h=>by have h2:=h;rw [show Qh (Xf L.length Sk) ((nth L i).cs.getD k 0).toNat (Value.cells (.bool true)).toList = Xf L.length (((nth L i).cs.getD k 0) :: Sk) from hsv] at h2;exact h2.ent aEt)
 have hdr9 : (nth L i).cs.drop k = []:=List.drop_of_length_le (by omega)
 rw [hdr9] at hk3
 have hK0 : (X7 (pln L) (nth L i).cs S).1 = 0:=by rw [hk3];rfl
 have hK2 : (X7 (pln L) (nth L i).cs S).2 = Sk:=by rw [hk3];rfl
 have hOr : (XS (⟨(j : Int),mo,rm,pln L⟩ : Tre) i S) = (Qbd (j : Int) (nth L i).es,(X7 (pln L) (nth L i).cs S).2):=by have h9:=QtB (t:=(⟨(j : Int),mo,rm,pln L⟩ : Tre)) (i:=i) (S:=S) (n:=(nth L i).pl) hNI hu9 hM9 hS9 hE0 hK0;exact h9
 refine Qi rfl ?_
 refine aU6 ?_
 refine Qr (α:=Nat) [6,13,122,123,124,125,126,127,128,129,130,131,132,133,134,135,136,137,138,139,140,141,142,143,144,145] (fun k=>[(13,.int .i64 (k : Int))]) (fun _=>HS w (fps [.blk sb 4 tot (Xf L.length S)]) [.blk sb 4 tot (Xf L.length (X7 (pln L) (nth L i).cs S).2),.blk b1 37 4 [.int .i64 (j : Int),.int .i64 mo,.int .i64 rm,.slice a L.length cap],.blk b2 69 3 (LNd.vals (nth L i))]) (fun k=>1 ≤ k ∧ ∀ q,q < k → Qbj (j : Int) (nth L i).es q = 0) (fun k=>(nth L i).es.length - k) 1 ⟨Nat.le_refl _,fun q h=>if_pos (.inl (by omega))⟩ aSx (fun w h=>by rw [hK2];exact h.ent aEt) (fun k hx=>?_)
 obtain ⟨hk1,hk3b⟩:=hx
 refine aU9 ?_
 refine sCd rfl (fun h33=>?_) fun h33=>?_
 ·have hk5 : k < (nth L i).es.length:=by omega
  have hk6 : k - 1 < (nth L i).es.length:=by omega
  refine aU4 ?_
  refine Qz [] QN ?_
  refine dFa 0 ?_
  refine dLd 1 [] ?_
  refine dFa 2 ?_
  refine dLd 3 [] ?_
  refine dP 4 ?_
  refine dP 5 ?_
  try refine dWr ?_
  refine dV 6 rfl (Qa rfl rfl rfl Q6 (k - 1) (by omega) (by omega) (Rw.some (hs.es hi) (by omega))) ?_
  refine dFa 7 ?_
  refine dQ 8 [] rfl (Qb rfl rfl Zq (((hs.es hi).rdj 0 hk6 rfl))) ?_
  refine dFa 9 ?_
  refine dLd 10 [] ?_
  refine dP 11 ?_
  refine dV 12 rfl (Qa rfl rfl rfl Q6 (k) (by omega) (by omega) (Rw.some (hs.es hi) (by omega))) ?_
  refine dFa 13 ?_
  refine dQ 14 [] rfl (Qb rfl rfl Zq (((hs.es hi).rdj 0 hk5 rfl))) ?_
  refine dQ 15 [] rfl (Qq rfl QjB rfl (fun w1 h1=>c65 w1 j (nth (nth L i).es (k - 1)).key (nth (nth L i).es k).key hj (Qd0 (hEn _ hk6)) (Qd0 (hEn _ hk5)) (hK _ (Qv hk6)) (hK _ (Qv hk5)))) ?_
  refine dP 16 ?_
  refine dNi ?_
  refine sCd rfl (fun h34=>?_) fun h34=>?_
  ·have hz11 : ¬ Qbj (j : Int) (nth L i).es k = 0:=by unfold Qbj;rw [if_neg (by have hq:=h34;omega)];decide
   have hOb:=Qpd hk5 hk3b hz11
   have hOv : Qbj (j : Int) (nth L i).es k = 9:=if_neg (by have hq:=h34;omega)
   refine aU ?_
   refine Ql (L':=[(2,_),(3,_),(7,_),(9,_),(11,_),(13,_),(69,_),(70,_),(71,_),(72,_),(73,_),(87,_),(88,_),(89,_),(90,_),(91,_)]) aSx (fun _ h=>h) ?_
   refine aU3 ?_
   exact rT rfl rfl (fun w' h'=>⟨(),by rw [hOr,hOb,hOv];rfl,trivial,by rw [hOr];exact h'.ent aEt⟩)
  have hz11 : Qbj (j : Int) (nth L i).es k = 0:=if_pos (.inr (by have hq:=h34;omega))
  refine aU2 ?_
  refine Ql (L':=[(2,_),(3,_),(7,_),(9,_),(11,_),(13,_),(69,_),(70,_),(71,_),(72,_),(73,_),(87,_),(88,_),(89,_),(90,_),(91,_)]) aSx (fun _ h=>h) ?_
  refine aT3 ?_
  refine aU2 ?_
  exact sBk (k + 1) (by omega) ⟨by omega,fun q hq=>(Nat.lt_or_ge q k).elim (hk3b q) (fun h9=>by obtain rfl : q = k:=(by omega);exact hz11)⟩
 have hO0 : Qbd (j : Int) (nth L i).es = 0:=QpD (fun q hq=>hk3b q (by omega))
 refine Qi rfl ?_
 refine aU4 ?_
 exact rT rfl rfl (fun w' h'=>⟨(),by rw [hOr,hO0];rfl,trivial,by rw [hOr];exact h'.ent aEt⟩)
end Go.Proofs
namespace Gx
open Go Go.RowKit
def mkS (vs : List Vis) (S : List Int) : List Int:=(vs.map fun v=>((v.i : Nat) : Int)).reverse ++ S
theorem Qtn (A B : List Vis) (S : List Int) : mkS (A ++ B) S = mkS B (mkS A S):=by simp [mkS]
theorem QsK {vs : List Vis} {c : Int} : c ∈ mkS vs [] ↔ ∃ v ∈ vs,((v.i : Nat) : Int) = c:=by simp [mkS]
end Gx
namespace Go.Proofs
open Go Go.RowKit Gx
attribute [local irreducible] Go.Calls Gx.S Gx.O Gx.D Gx.OpP Gx.OpQ Gx.OpH
set_option maxRecDepth 20000
theorem Qrr : QK Tryz.prog 137 = true:=by kernel_rfl
def MkC (j : Nat) (mo rm : Int) (a : Option Addr) (cap : Nat) (L : List LNd) (sb scap tot : Nat) (f : Nat) : Prop:=∀ (w : World) (S : List Int) (v : Vis) (P : List Nat),(HS w (fps [.blk sb 4 tot (Xf L.length S)]) [.blk sb 4 tot (Xf L.length S)] w) → (Nt w (fps [.blk sb 4 tot (Xf L.length S)]) a L) → (TOk (j : Int) (pln L)) → (Bd (pln L)) → (0 < L.length) → (Gx.Way (pln L) (v.i :: P)) → P.length + f = L.length → Calls Tryz.prog 137 #[.agg #[.int .i64 (j : Int),.int .i64 mo,.int .i64 rm,.slice a L.length cap],.int .i64 (v.i : Int),.slice (some ⟨sb,0,none⟩) L.length scap] w fun en w'=>∃ g : Unit,en = .returned (.tuple #[]) ∧ True ∧ HS w (fps [.blk sb 4 tot (Xf L.length S)]) [.blk sb 4 tot (Xf L.length (mkS (vis (pln L) f v) S))] w'
theorem QxS (w : World) (j : Nat) (mo rm : Int) (a : Option Addr) (cap : Nat) (L : List LNd) (sb scap tot : Nat) (S : List Int) (v : Vis) (P : List Nat) (f : Nat) (hw : HS w (fps [.blk sb 4 tot (Xf L.length S)]) [.blk sb 4 tot (Xf L.length S)] w) (hs : Nt w (fps [.blk sb 4 tot (Xf L.length S)]) a L) (hT : TOk (j : Int) (pln L)) (hB : Bd (pln L)) (h0 : 0 < L.length) (hway : Gx.Way (pln L) (v.i :: P)) (hf : P.length + (f + 1) = L.length) (ih : MkC j mo rm a cap L sb scap tot f) : Calls Tryz.prog 137 #[.agg #[.int .i64 (j : Int),.int .i64 mo,.int .i64 rm,.slice a L.length cap],.int .i64 (v.i : Int),.slice (some ⟨sb,0,none⟩) L.length scap] w fun en w'=>∃ g : Unit,en = .returned (.tuple #[]) ∧ True ∧ HS w (fps [.blk sb 4 tot (Xf L.length S)]) [.blk sb 4 tot (Xf L.length (mkS (vis (pln L) (f + 1) v) S))] w':=by
 have hi0:=Qdv hT (by rw [Qe];exact h0) hway v.i (List.mem_cons_self ..)
 have hi : v.i < L.length:=by rw [Qe] at hi0;exact hi0
 have hn:=Q0 hi
 have hle:=hB.len
 rw [Qe] at hle
 have hcl:=hB.cs v.i hi0
 rw [hn] at hcl
 simp only [LNd.pl] at hcl
 refine eW3 Tryz.func137 Tryz.ntmps137 hw ?_
 refine aU2 ?_
 refine oBx fun b1 _=>?_
 refine aU5 ?_
 refine o_p (Qa rfl rfl rfl Qby (v.i) (by omega) (by omega) rfl) rfl ?_
 refine Qk (show _ = Value.pointer (some ⟨sb,v.i,none⟩) from by rw [Nat.zero_add,Nat.mul_one]) ?_
 refine Qld (Qbz rfl rfl rfl QeZ rfl aPt (by rw [Qbh];show _ + 1 ≤ _;omega) rfl) (fun _ _=>?_)
 refine aU6 ?_
 refine Qr (α:=Nat) [6,10,11,12,13,14,15,16,17,18,19,20,21,22,23,24,25,26,27,28,29,30,31,32] (fun k=>[(6,.int .i64 (k : Int))]) (fun k=>HS w (fps [.blk sb 4 tot (Xf L.length S)]) [.blk sb 4 tot (Xf L.length (mkS (Qbf (pln L) f v k) S)),.blk b1 37 4 [.int .i64 (j : Int),.int .i64 mo,.int .i64 rm,.slice a L.length cap]]) (fun k=>k ≤ (nth L v.i).cs.length) (fun k=>(nth L v.i).cs.length - k) 0 (Nat.zero_le _) aSx (fun w h=>by have h2:=h;rw [show Qh (Xf L.length S) v.i (Value.cells (.bool true)).toList = Xf L.length (((v.i : Nat) : Int) :: S) from Qla hi] at h2;exact h2.ent aEt) (fun k hk1=>?_)
 refine aU7 ?_
 refine o_p (Qa rfl rfl rfl Q3 (v.i) (by omega) (by omega) (Rw.some hs.1 (by omega))) rfl ?_
 refine aU ?_
 refine o_q (Qb rfl rfl Qci ((hs.1.rdj 2 hi rfl))) rfl ?_
 refine aU3 ?_
 refine sCd rfl (fun h2=>?_) fun h2=>?_
 ·have hkl : k < (nth L v.i).cs.length:=by omega
  have hkid:=Qg0 hT hi0 (k:=k) (by rw [hn];exact hkl)
  rw [hn,Qe] at hkid
  simp only [LNd.pl] at hkid
  have hway2:=QeF hway hi0 (k:=k) (by rw [hn];exact hkl) (by rw [hn];simp only [LNd.pl];omega)
  refine aU3 ?_
  refine Qz [11] QN ?_
  refine dLn 0 [[]] ?_
  refine dFa 1 ?_
  refine dLd 2 [[9,8,6,5,4]] ?_
  refine dP 3 ?_
  refine dV 4 rfl (Qa rfl rfl rfl Q3 (v.i) (by omega) (by omega) (Rw.some hs.1 (by omega))) ?_
  refine dFa 5 ?_
  refine dQ 6 [[9,8]] rfl (Qb rfl rfl Qci ((hs.1.rdj 2 hi rfl))) ?_
  refine dP 7 ?_
  refine dV 8 rfl (Qa rfl rfl rfl Xa (k) (by omega) (by omega) (Rw.some (hs.cs hi) (by omega))) ?_
  refine dQ 9 [[]] rfl (Qb rfl rfl ZB (((hs.cs hi).rdj 0 (i:=k) hkl rfl))) ?_
  refine Qy (show _ = Value.int .i64 ((XW (pln L) v k).i : Int) from by rw [XW,hn];exact congrArg (Value.int .i64) (Int.toNat_of_nonneg (show 0 ≤ (nth L v.i).cs.getD k 0 by omega)).symm) ?_
  refine dP 10 ?_
  refine dH 11 rfl (QX (Cs:=[.blk sb 4 tot (Xf L.length (mkS (Qbf (pln L) f v k) S))]) rfl Qrr rfl aPs (fun w1 h1 hf9=>ih w1 (mkS (Qbf (pln L) f v k) S) (XW (pln L) v k) (v.i :: P) hf9 ((hs.keep h1).mono (Q9 aPs)) hT hB h0 hway2 (by simp only [List.length_cons];omega))) (fun _ _=>?_)
  refine dTu [] ?_
  refine dNi ?_
  refine aT4 ?_
  refine aU2 ?_
  exact QP (k + 1) (by omega) (by omega) aSx (fun w h=>by rw [X0,Qtn];exact h.ent aEt)
 obtain rfl : k = (nth L v.i).cs.length:=by omega
 refine Qi rfl ?_
 exact Qgm rfl (fun w' h'=>⟨(),rfl,trivial,by rw [Zn,hn];exact h'.ent aEt⟩)
theorem c137 (j : Nat) (mo rm : Int) (a : Option Addr) (cap : Nat) (L : List LNd) (sb scap tot : Nat) : ∀ f,MkC j mo rm a cap L sb scap tot f
  | 0=>fun w S v P hw hs hT hB h0 hway hf=>by
    have h1:=QbS hT (by rw [Qe];exact h0) hway;rw [Qe,List.length_cons] at h1;omega
  | f + 1=>fun w S v P hw hs hT hB h0 hway hf=>QxS w j mo rm a cap L sb scap tot S v P f hw hs hT hB h0 hway hf (c137 j mo rm a cap L sb scap tot f)
end Go.Proofs
namespace Gx
open Go Go.RowKit
def StK (w : World) (p : Option Addr) (n : Nat) (o : Option (List UInt8)) : Prop:=match o with
 | none=>n = 0
 | some k=>n = 1 ∧ ∃ b off,p = some ⟨b,off,none⟩ ∧ Rd w [] b off (.string (bs k))
theorem StK.later {w w' : World} {As : List HA} {p : Option Addr} {n : Nat} {o : Option (List UInt8)} (h : StK w p n o) (hs : HS w [] As w') : StK w' p n o:=by
 cases o with
 | none=>exact h
 | some k=>
  obtain ⟨h1,b,off,h2,h3⟩:=h;exact ⟨h1,b,off,h2,h3.next hs⟩
theorem StK.of_pos {w : World} {p : Option Addr} {n : Nat} {o : Option (List UInt8)} (h : StK w p n o) (hn : 0 < n) : ∃ k b off,o = some k ∧ n = 1 ∧ p = some ⟨b,off,none⟩ ∧ Rd w [] b off (.string (bs k)):=by
 cases o with
 | none=>
  have : n = 0:=h;omega
 | some k=>
  obtain ⟨h1,b,off,h2,h3⟩:=h;exact ⟨k,b,off,rfl,h1,h2,h3⟩
theorem StK.of_no {w : World} {p : Option Addr} {n : Nat} {o : Option (List UInt8)} (h : StK w p n o) (hn : ¬ 0 < n) : o = none:=by
 cases o with
 | none=>rfl
 | some k=>
  obtain ⟨h1,_⟩:=h;omega
theorem StK.new {w : World} {b : Nat} {k : List UInt8} (h : Rd w [] b 0 (.string (bs k))) : StK w (some ⟨b,0,none⟩) 1 (some k):=⟨rfl,b,0,rfl,h⟩
theorem QfG {es : List TEnt} {k : Nat} {lo : Option (List UInt8)} (h : 0 < k) : loK es k lo = some (nth es (k - 1)).key:=if_pos h
theorem Qij {es : List TEnt} {k : Nat} {lo : Option (List UInt8)} (h : ¬ 0 < k) : loK es k lo = lo:=if_neg h
theorem QfF {es : List TEnt} {k : Nat} {hi : Option (List UInt8)} (h : k < es.length) : hiK es k hi = some (nth es k).key:=if_pos h
theorem QiR {es : List TEnt} {k : Nat} {hi : Option (List UInt8)} (h : ¬ k < es.length) : hiK es k hi = hi:=if_neg h
theorem Yg {t : Tre} {deep : Int} : ∀ (A B : List Vis),X8 t deep (A ++ B) = if (X8 t deep A).2 = 0 then X8 t deep B else X8 t deep A
 | [],B=>rfl
 | v :: A,B=>by
  rw [List.cons_append,X8,X8]
  by_cases h : QdB t deep v = 0
  ·rw [if_pos h,if_pos h];exact Yg A B
  ·rw [if_neg h,if_neg h,if_neg h]
theorem QsW {t : Tre} {v : Vis} {N R : Nd} (hN : nth t.ns v.i = N) (hR : nth t.ns 0 = R) (h1 : R.cs.length = 0 ∨ R.cs.length = R.es.length + 1) (h2 : ∀ c ∈ R.cs,1 ≤ c) : Qaj t v = true ↔ (v.i ≠ 0 ∧ (N.es.length : Int) < t.mo / 2) ∨ (((R.es.length = 0 ∧ R.cs.length = 1) ∧ R.cs.getD 0 0 = (v.i : Int)) ∧ (N.es.length : Int) ≤ t.rm):=by
 subst hN hR;unfold Qaj;simp only [Bool.and_eq_true,Bool.or_eq_true,decide_eq_true_eq];constructor
 ·rintro ⟨h3,h4 | ⟨⟨h4,h5⟩,h6⟩⟩
  ·exact .inl ⟨by omega,h4⟩
  ·refine .inr ⟨⟨⟨h4,?_⟩,?_⟩,h6⟩
   ·rcases h1 with h1 | h1
    ·rw [List.eq_nil_of_length_eq_zero h1] at h5;cases h5
    ·omega
   ·have hl : (nth t.ns 0).cs.length = 1:=by
     rcases h1 with h1 | h1
     ·rw [List.eq_nil_of_length_eq_zero h1] at h5;cases h5
     ·omega
    obtain ⟨c,hc⟩:=List.length_eq_one_iff.1 hl;rw [hc] at h5 ⊢;exact (List.mem_singleton.1 h5).symm
 ·rintro (⟨h3,h4⟩ | ⟨⟨⟨h4,h5⟩,h6⟩,h7⟩)
  ·exact ⟨by omega,.inl h4⟩
  ·obtain ⟨c,hc⟩:=List.length_eq_one_iff.1 h5;have h8:=h2 c (by rw [hc];exact List.mem_singleton.2 rfl);rw [hc] at h6 ⊢;have h9 : c = (v.i : Int):=h6;exact ⟨by omega,.inr ⟨⟨h4,List.mem_singleton.2 h9.symm⟩,h7⟩⟩
theorem Qjw {t : Tre} {deep : Int} {v : Vis} (h : Qaj t v = true) : QdB t deep v = 14:=by rw [Qc6,if_pos h]
theorem QrS {t : Tre} {deep : Int} {v : Vis} (h : ¬ Qaj t v = true) (h2 : ZI t v = true) : QdB t deep v = 9:=by rw [Qc6,if_neg h,if_pos h2]
theorem QtR {t : Tre} {deep : Int} {v : Vis} (h : ¬ Qaj t v = true) (h2 : ¬ ZI t v = true) (h3 : (nth t.ns v.i).cs.length = 0 ∧ v.d ≠ deep + 1) : QdB t deep v = 22:=by rw [Qc6,if_neg h,if_neg h2,if_pos h3]
theorem Qt7 {t : Tre} {deep : Int} {v : Vis} (h : ¬ Qaj t v = true) (h2 : ¬ ZI t v = true) (h3 : ¬ ((nth t.ns v.i).cs.length = 0 ∧ v.d ≠ deep + 1)) : QdB t deep v = 0:=by rw [Qc6,if_neg h,if_neg h2,if_neg h3]
theorem Qr0 {t : Tre} {v : Vis} {N : Nd} {k : Nat} (hN : nth t.ns v.i = N) (hk : k < N.es.length) (h : Qat t v (nth N.es k) = true) : ZI t v = true:=by
 subst hN;exact List.any_eq_true.2 ⟨_,Qv hk,h⟩
theorem Qtg {t : Tre} {v : Vis} {N : Nd} (hN : nth t.ns v.i = N) (h : ∀ q,q < N.es.length → ¬ Qat t v (nth N.es q) = true) : ¬ ZI t v = true:=fun h2=>by
 subst hN;obtain ⟨x,hx,h3⟩:=List.any_eq_true.1 h2;obtain ⟨q,hq,e⟩:=List.getElem_of_mem hx;have e2 : nth (nth t.ns v.i).es q = x:=Y2 (by rw [List.getElem?_eq_getElem hq,e]);exact h q hq (by rw [e2];exact h3)
theorem Qd6 {t : Tre} {v : Vis} {x : TEnt} : Qat t v x = true ↔ (∃ b,v.lo = some b ∧ 0 ≤ Xm t.co b x.key) ∨ (∃ b,v.hi = some b ∧ 0 ≤ Xm t.co x.key b):=by
 unfold Qat;cases v.lo <;> cases v.hi <;> simp
section
variable {t : Tre} {v : Vis} {x : TEnt} {kl kh : List UInt8}
theorem Qw9 (h1 : v.lo = some kl) (h : 0 ≤ Xm t.co kl x.key) : (true = true ↔ Qat t v x = true):=⟨fun _=>Qd6.2 (.inl ⟨kl,h1,h⟩),fun _=>rfl⟩
theorem Qxc (h1 : v.lo = some kl) (h : ¬ 0 ≤ Xm t.co kl x.key) (h2 : v.hi = some kh) : (decide (Xm t.co x.key kh ≥ 0) = true ↔ Qat t v x = true):=by
 rw [decide_eq_true_eq,Qd6,h1,h2];constructor
 ·exact fun h9=>.inr ⟨kh,rfl,h9⟩
 ·rintro (⟨b,hb,h9⟩ | ⟨b,hb,h9⟩)
  ·cases hb;exact absurd h9 h
  ·cases hb;exact h9
theorem QxA (h1 : v.lo = some kl) (h : ¬ 0 ≤ Xm t.co kl x.key) (h2 : v.hi = none) : (false = true ↔ Qat t v x = true):=by
 rw [Qd6,h1,h2];constructor
 ·exact fun h9=>(nomatch h9)
 ·rintro (⟨b,hb,h9⟩ | ⟨b,hb,h9⟩)
  ·cases hb;exact absurd h9 h
  ·cases hb
theorem Qxv (h1 : v.lo = none) (h2 : v.hi = some kh) : (decide (Xm t.co x.key kh ≥ 0) = true ↔ Qat t v x = true):=by
 rw [decide_eq_true_eq,Qd6,h1,h2];constructor
 ·exact fun h9=>.inr ⟨kh,rfl,h9⟩
 ·rintro (⟨b,hb,h9⟩ | ⟨b,hb,h9⟩)
  ·cases hb
  ·cases hb;exact h9
theorem Qxk (h1 : v.lo = none) (h2 : v.hi = none) : (false = true ↔ Qat t v x = true):=by
 rw [Qd6,h1,h2];constructor
 ·exact fun h9=>(nomatch h9)
 ·rintro (⟨b,hb,h9⟩ | ⟨b,hb,h9⟩) <;> cases hb
end
theorem Qd7 {t : Tre} {deep : Int} {f : Nat} {v : Vis} (h : ¬ QdB t deep v = 0) : X8 t deep (vis t.ns (f + 1) v) = ((v.i : Int),QdB t deep v):=by
 rw [vis,X8,if_neg h]
theorem QwE {t : Tre} {deep : Int} {f : Nat} {v : Vis} (h : QdB t deep v = 0) : (X8 t deep (Qbf t.ns f v 0)).2 = 0:=by
 rw [QlR,X8,if_pos h];rfl
end Gx
namespace Go.Proofs
open Go Go.RowKit Gx
attribute [local irreducible] Go.Calls Gx.S Gx.O Gx.D Gx.OpP Gx.OpQ Gx.OpH
set_option maxRecDepth 20000
theorem QeM : tsl Tryz.prog 241 = some (9,1,16):=by kernel_rfl
theorem QuP : QS Tryz.prog 9 = some [.string (bs [])]:=by kernel_rfl
theorem QgC : QK Tryz.prog 138 = true:=by kernel_rfl
instance : TFn Tryz.prog 138:=⟨QgC⟩
def PlC (j : Nat) (mo rm : Int) (a : Option Addr) (cap : Nat) (L : List LNd) (deep : Int) (f : Nat) : Prop:=∀ (w : World) (v : Vis) (P : List Nat) (lv : Int) (pa qa : Option Addr) (pn pc qn qc : Nat),(Nt w [] a L) → (j ≤ 3) → ((0 ≤ mo ∧ mo ≤ 1000) ∧ (0 ≤ deep ∧ deep ≤ 1000)) → (TOk (j : Int) (pln L)) → (Bd (pln L)) → (0 < L.length) → (Gx.Way (pln L) (v.i :: P)) → (v.d = (P.length : Int) + 1) → (lv = deep + 1 - v.d) → (KOk (j : Int) v.lo) → (KOk (j : Int) v.hi) → (StK w pa pn v.lo) → (StK w qa qn v.hi) → P.length + f = L.length → Calls Tryz.prog 138 #[.agg #[.int .i64 (j : Int),.int .i64 mo,.int .i64 rm,.slice a L.length cap],.int .i64 (v.i : Int),.int .i64 lv,.slice pa pn pc,.slice qa qn qc] w fun en w'=>en = .returned (.tuple #[.int .i64 (X8 (⟨(j : Int),mo,rm,pln L⟩ : Tre) deep (vis (pln L) f v)).1,.int .i64 (X8 (⟨(j : Int),mo,rm,pln L⟩ : Tre) deep (vis (pln L) f v)).2]) ∧ Below w.heap.size w w'
theorem QxG (w : World) (j : Nat) (mo rm : Int) (a : Option Addr) (cap : Nat) (L : List LNd) (deep : Int) (v : Vis) (P : List Nat) (lv : Int) (pa qa : Option Addr) (pn pc qn qc : Nat) (f : Nat) (hs : Nt w [] a L) (hj : j ≤ 3) (hmo : (0 ≤ mo ∧ mo ≤ 1000) ∧ (0 ≤ deep ∧ deep ≤ 1000)) (hT : TOk (j : Int) (pln L)) (hB : Bd (pln L)) (h0 : 0 < L.length) (hway : Gx.Way (pln L) (v.i :: P)) (hd : v.d = (P.length : Int) + 1) (hlv : lv = deep + 1 - v.d) (hko : KOk (j : Int) v.lo) (hkp : KOk (j : Int) v.hi) (hlo : StK w pa pn v.lo) (hhi : StK w qa qn v.hi) (hf : P.length + (f + 1) = L.length) (ih : PlC j mo rm a cap L deep f) : Calls Tryz.prog 138 #[.agg #[.int .i64 (j : Int),.int .i64 mo,.int .i64 rm,.slice a L.length cap],.int .i64 (v.i : Int),.int .i64 lv,.slice pa pn pc,.slice qa qn qc] w fun en w'=>en = .returned (.tuple #[.int .i64 (X8 (⟨(j : Int),mo,rm,pln L⟩ : Tre) deep (vis (pln L) (f + 1) v)).1,.int .i64 (X8 (⟨(j : Int),mo,rm,pln L⟩ : Tre) deep (vis (pln L) (f + 1) v)).2]) ∧ Below w.heap.size w w':=by
 have hi0:=Qdv hT (by rw [Qe];exact h0) hway v.i (List.mem_cons_self ..)
 have hi : v.i < L.length:=by rw [Qe] at hi0;exact hi0
 have hn:=Q0 hi
 have hn0:=Q0 h0
 have hle:=hB.len
 rw [Qe] at hle
 have hwl:=QbS hT (by rw [Qe];exact h0) hway
 rw [Qe,List.length_cons] at hwl
 have hcl:=hB.cs v.i hi0
 have hel:=hB.es v.i hi0
 rw [hn] at hcl hel
 simp only [LNd.pl] at hcl hel
 have hsh:=hT.shape v.i hi0
 rw [hn] at hsh
 simp only [LNd.pl] at hsh
 have hgi:=QsW (t:=(⟨(j : Int),mo,rm,pln L⟩ : Tre)) (v:=v) hn hn0 (hn0 ▸ hT.shape 0 (by rw [Qe];exact h0)) (fun c hc=>(hT.kid 0 (by rw [Qe];exact h0) c (by rw [hn0];exact hc)).1.1)
 simp only [LNd.pl] at hgi
 have hE9:=Qek hT hi0
 rw [hn] at hE9
 simp only [LNd.pl] at hE9
 refine eN5 Tryz.func138 Tryz.ntmps138 ?_
 refine aU2 ?_
 refine oBx fun b1 _=>?_
 refine aU8 ?_
 refine o_p (Qa rfl rfl rfl Q3 (v.i) (by omega) (by omega) (Rw.some hs.1 (by omega))) rfl ?_
 refine o_q (Qw _ rfl rfl XC rfl (Rw.rd hs.1 hi)) rfl ?_
 refine oAl (fun b2 _=>?_) Xq
 refine aU8 ?_
 refine Yq 8 27 35 rfl
  (fun hg3 _=>by
   refine QdM ?_
   refine o_p (XD rfl rfl rfl (by omega) (by omega) (by omega)) rfl ?_
   refine aU2 ?_
   exact oJt 8 35)
  (fun hg5 _=>by
   refine aU7 ?_
   exact oJf 8 35) ?_
 refine aU ?_
 refine sCd rfl (fun h7=>?_) fun h7=>?_
 ·have hgp : Qaj (⟨(j : Int),mo,rm,pln L⟩ : Tre) v = true:=hgi.2 (.inl (by have hq:=h7;omega))
  have hV:=Qjw (deep:=deep) hgp
  refine aU6 ?_
  exact Qj (rs:=[.tmp 10,.tmp 11]) rfl (.tmp rfl (.tmp rfl (.nil))) (fun w' h'=>⟨by rw [Qd7 (by rw [hV];decide),hV];rfl,h'.below⟩)
 have hng1 : ¬ (v.i ≠ 0 ∧ ((nth L v.i).es.length : Int) < mo / 2):=by have hq:=h7;omega
 refine aU6 ?_
 refine o_p (Qa rfl rfl rfl Q3 (0) (by omega) (by omega) (Rw.some hs.1 (by omega))) rfl ?_
 refine aU ?_
 refine o_q (Qb rfl rfl Qdd ((hs.1.rdj 1 h0 rfl))) rfl ?_
 refine aU3 ?_
 refine Yq 8 44 52 rfl
  (fun hg8 _=>by
   refine aU5 ?_
   refine o_p (Qa rfl rfl rfl Q3 (0) (by omega) (by omega) (Rw.some hs.1 (by omega))) rfl ?_
   refine aU3 ?_
   refine o_q (Qb rfl rfl Qci ((hs.1.rdj 2 h0 rfl))) rfl ?_
   refine aU4 ?_
   exact oJt 8 52)
  (fun hg10 _=>by
   refine aU7 ?_
   exact oJf 8 52) ?_
 refine aU ?_
 refine Yq 10 53 63 rfl
  (fun hg12 _=>by
   refine aU5 ?_
   refine o_p (Qa rfl rfl rfl Q3 (0) (by omega) (by omega) (Rw.some hs.1 (by omega))) rfl ?_
   refine aU3 ?_
   refine o_q (Qb rfl rfl Qci ((hs.1.rdj 2 h0 rfl))) rfl ?_
   refine aU ?_
   refine o_p (Qa rfl rfl rfl Xa (0) (by omega) (by omega) (Rw.some (hs.cs h0) (by omega))) rfl ?_
   refine aU ?_
   refine o_q (Qb rfl rfl ZB (((hs.cs h0).rdj 0 (i:=0) (by omega) rfl))) rfl ?_
   refine aU4 ?_
   exact oJt 10 63)
  (fun hg14 _=>by
   refine aU9 ?_
   exact oJf 10 63) ?_
 refine aU ?_
 refine Yq 7 64 71 rfl
  (fun hg16 _=>by
   refine Qbn ?_
   exact oJt 7 71)
  (fun hg18 _=>by
   refine aU6 ?_
   exact oJf 7 71) ?_
 refine aU ?_
 refine sCd rfl (fun h20=>?_) fun h20=>?_
 ·have hgp : Qaj (⟨(j : Int),mo,rm,pln L⟩ : Tre) v = true:=hgi.2 (.inr (by have hq:=h20;exact ⟨⟨⟨by omega,by omega⟩,hq.1.2⟩,by omega⟩))
  have hV:=Qjw (deep:=deep) hgp
  refine aU ?_
  refine Ql (L':=[(1,_),(2,_),(3,_),(4,_),(5,_),(10,_),(11,_),(12,_)]) aSx (fun _ h=>h) ?_
  refine aU5 ?_
  exact Qj (rs:=[.tmp 10,.tmp 11]) rfl (.tmp rfl (.tmp rfl (.nil))) (fun w' h'=>⟨by rw [Qd7 (by rw [hV];decide),hV];rfl,h'.below⟩)
 have hgn : ¬ Qaj (⟨(j : Int),mo,rm,pln L⟩ : Tre) v = true:=fun h9=>(hgi.1 h9).elim hng1 (fun h8=>by have hq:=h20;rcases hq with ((hq | hq) | hq) | hq <;> first | omega | exact hq h8.1.2)
 refine aU3 ?_
 refine Ql (L':=[(1,_),(2,_),(3,_),(4,_),(5,_),(10,_),(11,_),(12,_)]) aSx (fun _ h=>h) ?_
 refine aU4 ?_
 refine Qr (α:=Nat) [10,11,13,14,73,74,75,76,77,78,79,80,81,82,83,84,85,86,87,88,89,90,91,92,93,94,95,96,97,98,99,100,101,102,103,104,105,106,107,108,109,110,111,112,113,114] (fun k=>[(13,.int .i64 (k : Int))]) (fun _=>HS w [] [.blk b1 37 4 [.int .i64 (j : Int),.int .i64 mo,.int .i64 rm,.slice a L.length cap],.blk b2 69 3 (LNd.vals (nth L v.i))]) (fun k=>k ≤ (nth L v.i).es.length ∧ ∀ q,q < k → ¬ Qat (⟨(j : Int),mo,rm,pln L⟩ : Tre) v (nth (nth L v.i).es q) = true) (fun k=>(nth L v.i).es.length - k) 0 ⟨Nat.zero_le _,fun q h=>absurd h (Nat.not_lt_zero q)⟩ aSx (fun w h=>h.ent aEt) (fun k hx9=>?_)
 obtain ⟨hk1,hk3⟩:=hx9
 refine aU9 ?_
 refine sCd rfl (fun h21=>?_) fun h21=>?_
 ·have hk5 : k < (nth L v.i).es.length:=by omega
  refine aU8 ?_
  refine o_p (Qa rfl rfl rfl Q6 (k) (by omega) (by omega) (Rw.some (hs.es hi) (by omega))) rfl ?_
  refine aU ?_
  refine o_q (Qb rfl rfl Zq (((hs.es hi).rdj 0 hk5 rfl))) rfl ?_
  refine aU3 ?_
  refine Ql (L':=[(1,_),(2,_),(3,_),(4,_),(5,_),(12,_),(13,_),(14,_)]) aSx (fun _ h=>h) ?_
  refine Qi7 (α:=Bool) [86,87,88,89,90,91,92,93,94,95,96,97,98,99,100,101,102,103,104,105,106,107,108,109,110,111,112,113] (fun x=>[(113,.bool x)]) (fun x=>x = true ↔ (Qat (⟨(j : Int),mo,rm,pln L⟩ : Tre) v (nth (nth L v.i).es k)) = true) ?_ ?_
  ·skip
   refine Qz [] QN ?_
   refine dP 0 ?_
   refine dV 1 rfl (QR rfl rfl Tryz.underlying241) ?_
   refine dP 2 ?_
   refine dP 3 ?_
   apply Xx 89
   ·exact rfl
   ·intro hg22
    have hs23:=hg22;try simp only [dT] at hs23
    refine dFo 4 89 hg22 ?_
    obtain ⟨kl,bl,ol,hlo1,hlo2,hlo3,hlo4⟩:=hlo.of_pos (by omega)
    refine dQo 5 89 [] hg22 rfl rfl rfl (YB rfl rfl ZB aPk rfl) ?_
    refine dPo 6 89 hg22 ?_
    refine dVo 7 89 hg22 rfl rfl rfl (Qa rfl rfl rfl QeM (0) (by omega) (by omega) hlo3) ?_
    refine dQo 8 89 [] hg22 rfl rfl rfl (Qb rfl rfl Zq (hlo4)) ?_
    refine dPo 9 89 hg22 ?_
    refine dQo 10 89 [] hg22 rfl rfl rfl (Qq rfl QjB rfl (fun w1 h1=>c65 w1 j kl (nth (nth L v.i).es k).key hj (hko _ hlo1).1 (hE9 _ (Qv hk5)).1 (hko _ hlo1).2 (hE9 _ (Qv hk5)).2)) ?_
    refine dPo 11 89 hg22 ?_
    refine dV 12 rfl (Xu rfl rfl hg22 rfl) ?_
    refine dP 13 ?_
    apply Xx 99
    ·exact rfl
    ·intro hg24
     have hs25:=hg24;try simp only [dT] at hs25
     refine dOf 14 99 hg24 ?_
     refine dOf 15 99 hg24 ?_
     refine dOf 16 99 hg24 ?_
     refine dOf 17 99 hg24 ?_
     refine dOu 18 103 ?_
     refine dOu 19 103 ?_
     refine dOu 20 103 ?_
     refine dOu 21 103 ?_
     refine dOu 22 103 ?_
     refine dOu 23 103 ?_
     refine dOu 24 103 ?_
     refine dOu 25 103 ?_
     refine dOf 26 99 hg24 ?_
     refine dV 27 rfl (Xu rfl rfl hg24 rfl) ?_
     refine dNi ?_
     exact Qt true (Qw9 hlo1 (by show 0 ≤ Xm (j : Int) kl _;omega)) aSx (fun w h=>h.ent aEt)
    intro hg26
    have hs27:=hg26;try simp only [dN] at hs27
    refine dPo 14 99 hg26 ?_
    refine dVo 15 99 hg26 rfl rfl rfl (QR rfl rfl Tryz.underlying241) ?_
    refine dPo 16 99 hg26 ?_
    refine dPo 17 99 hg26 ?_
    apply Xx 103
    ·exact rfl
    ·intro hg28
     have hs29:=hg28;try simp only [dT] at hs29
     refine dFo 18 103 hg28 ?_
     obtain ⟨kh,bh,oh,hhi1,hhi2,hhi3,hhi4⟩:=hhi.of_pos (by omega)
     refine dQo 19 103 [] hg28 rfl rfl rfl (YB rfl rfl ZB aPk rfl) ?_
     refine dPo 20 103 hg28 ?_
     refine dPo 21 103 hg28 ?_
     refine dVo 22 103 hg28 rfl rfl rfl (Qa rfl rfl rfl QeM (0) (by omega) (by omega) hhi3) ?_
     refine dQo 23 103 [] hg28 rfl rfl rfl (Qb rfl rfl Zq (hhi4)) ?_
     refine dQo 24 103 [] hg28 rfl rfl rfl (Qq rfl QjB rfl (fun w1 h1=>c65 w1 j (nth (nth L v.i).es k).key kh hj (hE9 _ (Qv hk5)).1 (hkp _ hhi1).1 (hE9 _ (Qv hk5)).2 (hkp _ hhi1).2)) ?_
     refine dPo 25 103 hg28 ?_
     refine dVo 26 99 hg26 rfl rfl rfl (Xu rfl rfl hg28 rfl) ?_
     refine dV 27 rfl (Xn rfl rfl hg26 rfl) ?_
     refine dNi ?_
     exact Qt (decide (Xm (j : Int) (nth (nth L v.i).es k).key kh ≥ 0)) (Qxc (t:=(⟨(j : Int),mo,rm,pln L⟩ : Tre)) hlo1 (by show ¬ 0 ≤ Xm (j : Int) kl _;omega) hhi1) aSx (fun w h=>h.ent aEt)
    intro hg30
    have hs31:=hg30;try simp only [dN] at hs31
    refine dOf 18 103 hg30 ?_
    refine dOf 19 103 hg30 ?_
    refine dOf 20 103 hg30 ?_
    refine dOf 21 103 hg30 ?_
    refine dOf 22 103 hg30 ?_
    refine dOf 23 103 hg30 ?_
    refine dOf 24 103 hg30 ?_
    refine dOf 25 103 hg30 ?_
    refine dVo 26 99 hg26 rfl rfl rfl (Xn rfl rfl hg30 rfl) ?_
    refine dV 27 rfl (Xn rfl rfl hg26 rfl) ?_
    refine dNi ?_
    exact Qt false (QxA hlo1 (by show ¬ 0 ≤ Xm (j : Int) kl _;omega) (hhi.of_no (by omega))) aSx (fun w h=>h.ent aEt)
   intro hg32
   have hs33:=hg32;try simp only [dN] at hs33
   refine dOf 4 89 hg32 ?_
   refine dOf 5 89 hg32 ?_
   refine dOf 6 89 hg32 ?_
   refine dOf 7 89 hg32 ?_
   refine dOf 8 89 hg32 ?_
   refine dOf 9 89 hg32 ?_
   refine dOf 10 89 hg32 ?_
   refine dOf 11 89 hg32 ?_
   refine dV 12 rfl (Xn rfl rfl hg32 rfl) ?_
   refine dP 13 ?_
   apply Xx 99
   ·exact rfl
   ·intro hg34
    have hs35:=hg34;skip
    refine dOf 14 99 hg34 ?_
    refine dOf 15 99 hg34 ?_
    refine dOf 16 99 hg34 ?_
    refine dOf 17 99 hg34 ?_
    refine dOu 18 103 ?_
    refine dOu 19 103 ?_
    refine dOu 20 103 ?_
    refine dOu 21 103 ?_
    refine dOu 22 103 ?_
    refine dOu 23 103 ?_
    refine dOu 24 103 ?_
    refine dOu 25 103 ?_
    refine dOf 26 99 hg34 ?_
    refine dV 27 rfl (Xu rfl rfl hg34 rfl) ?_
    refine dNi ?_
    exact Qt true (by exfalso;simp_all;done) aSx (fun w h=>h.ent aEt)
   intro hg36
   have hs37:=hg36;skip
   refine dPo 14 99 hg36 ?_
   refine dVo 15 99 hg36 rfl rfl rfl (QR rfl rfl Tryz.underlying241) ?_
   refine dPo 16 99 hg36 ?_
   refine dPo 17 99 hg36 ?_
   apply Xx 103
   ·exact rfl
   ·intro hg38
    have hs39:=hg38;try simp only [dT] at hs39
    refine dFo 18 103 hg38 ?_
    obtain ⟨kh,bh,oh,hhi1,hhi2,hhi3,hhi4⟩:=hhi.of_pos (by omega)
    refine dQo 19 103 [] hg38 rfl rfl rfl (YB rfl rfl ZB aPk rfl) ?_
    refine dPo 20 103 hg38 ?_
    refine dPo 21 103 hg38 ?_
    refine dVo 22 103 hg38 rfl rfl rfl (Qa rfl rfl rfl QeM (0) (by omega) (by omega) hhi3) ?_
    refine dQo 23 103 [] hg38 rfl rfl rfl (Qb rfl rfl Zq (hhi4)) ?_
    refine dQo 24 103 [] hg38 rfl rfl rfl (Qq rfl QjB rfl (fun w1 h1=>c65 w1 j (nth (nth L v.i).es k).key kh hj (hE9 _ (Qv hk5)).1 (hkp _ hhi1).1 (hE9 _ (Qv hk5)).2 (hkp _ hhi1).2)) ?_
    refine dPo 25 103 hg38 ?_
    refine dVo 26 99 hg36 rfl rfl rfl (Xu rfl rfl hg38 rfl) ?_
    refine dV 27 rfl (Xn rfl rfl hg36 rfl) ?_
    refine dNi ?_
    exact Qt (decide (Xm (j : Int) (nth (nth L v.i).es k).key kh ≥ 0)) (Qxv (t:=(⟨(j : Int),mo,rm,pln L⟩ : Tre)) (hlo.of_no (by omega)) hhi1) aSx (fun w h=>h.ent aEt)
   intro hg40
   have hs41:=hg40;try simp only [dN] at hs41
   refine dOf 18 103 hg40 ?_
   refine dOf 19 103 hg40 ?_
   refine dOf 20 103 hg40 ?_
   refine dOf 21 103 hg40 ?_
   refine dOf 22 103 hg40 ?_
   refine dOf 23 103 hg40 ?_
   refine dOf 24 103 hg40 ?_
   refine dOf 25 103 hg40 ?_
   refine dVo 26 99 hg36 rfl rfl rfl (Xn rfl rfl hg40 rfl) ?_
   refine dV 27 rfl (Xn rfl rfl hg36 rfl) ?_
   refine dNi ?_
   exact Qt false (Qxk (hlo.of_no (by omega)) (hhi.of_no (by omega))) aSx (fun w h=>h.ent aEt)
  intro x hx
  refine sCd rfl (fun h42=>?_) fun h42=>?_
  ·have hV:=QrS (deep:=deep) hgn (Qr0 hn hk5 (hx.1 h42))
   refine aU6 ?_
   exact Qj (rs:=[.tmp 10,.tmp 11]) rfl (.tmp rfl (.tmp rfl (.nil))) (fun w' h'=>⟨by rw [Qd7 (by rw [hV];decide),hV];rfl,h'.below⟩)
  have hz3 : ¬ (Qat (⟨(j : Int),mo,rm,pln L⟩ : Tre) v (nth (nth L v.i).es k)) = true:=fun h9=>by have h8:=hx.2 h9;simp_all
  refine aT5 ?_
  refine aU2 ?_
  exact sBk (k + 1) (by omega) ⟨by omega,fun q hq=>(Nat.lt_or_ge q k).elim (hk3 q) (fun h9=>by obtain rfl : q = k:=(by omega);exact hz3)⟩
 have hon : ¬ ZI (⟨(j : Int),mo,rm,pln L⟩ : Tre) v = true:=Qtg hn (fun q hq=>hk3 q (by have hq9:=hq;simp only [LNd.pl] at hq9;omega))
 refine Qi rfl ?_
 refine aU8 ?_
 refine Yq 3 119 122 rfl
  (fun hg43 _=>by
   refine aU4 ?_
   exact oJt 3 122)
  (fun hg45 _=>by
   refine aU2 ?_
   exact oJf 3 122) ?_
 refine aU ?_
 refine sCd rfl (fun h47=>?_) fun h47=>?_
 ·have hV:=QtR (deep:=deep) hgn hon (by rw [show ((⟨(j : Int),mo,rm,pln L⟩ : Tre)).ns = pln L from rfl,hn];have hq:=h47;simp only [LNd.pl];omega)
  refine aU6 ?_
  exact Qj (rs:=[.tmp 10,.tmp 11]) rfl (.tmp rfl (.tmp rfl (.nil))) (fun w' h'=>⟨by rw [Qd7 (by rw [hV];decide),hV];rfl,h'.below⟩)
 have hV0:=Qt7 (deep:=deep) hgn hon (by rw [show ((⟨(j : Int),mo,rm,pln L⟩ : Tre)).ns = pln L from rfl,hn];have hq:=h47;simp only [LNd.pl];omega)
 refine aU7 ?_
 refine Ql (L':=[(1,_),(2,_),(3,_),(4,_),(5,_),(12,_),(13,_),(15,_)]) aSx (fun _ h=>h) ?_
 refine Qr (α:=Nat) [10,11,15,16,17,18,19,124,125,126,127,128,129,130,131,132,133,134,135,136,137,138,139,140,141,142,143,144,145,146,147,148,149,150,151,152,153,154,155,156,157,158,159,160,161,162,163,164,165,166,167,168,169,170,171,172] (fun k=>[(15,.int .i64 (k : Int))]) (fun _=>HS w [] [.blk b1 37 4 [.int .i64 (j : Int),.int .i64 mo,.int .i64 rm,.slice a L.length cap],.blk b2 69 3 (LNd.vals (nth L v.i))]) (fun k=>k ≤ (nth L v.i).cs.length ∧ (X8 (⟨(j : Int),mo,rm,pln L⟩ : Tre) deep (Qbf (pln L) f v k)).2 = 0) (fun k=>(nth L v.i).cs.length - k) 0 ⟨Nat.zero_le _,QwE hV0⟩ aSx (fun w h=>h.ent aEt) (fun k hx9=>?_)
 obtain ⟨hk1,hk3⟩:=hx9
 refine aU9 ?_
 refine sCd rfl (fun h48=>?_) fun h48=>?_
 ·have hkl : k < (nth L v.i).cs.length:=by omega
  have hkid:=Qg0 hT hi0 (k:=k) (by rw [hn];exact hkl)
  rw [hn,Qe] at hkid
  simp only [LNd.pl] at hkid
  have hway2:=QeF hway hi0 (k:=k) (by rw [hn];exact hkl) (by rw [hn];simp only [LNd.pl];omega)
  refine aU16 ?_
  refine sCd rfl (fun h49=>?_) fun h49=>?_
  ·have hk0 : 0 < k:=by have hq:=h49;omega
   refine aT5 ?_
   refine o_p (Qa rfl rfl rfl Q6 (k - 1) (by omega) (by omega) (Rw.some (hs.es hi) (by omega))) rfl ?_
   refine aU ?_
   refine o_q (Qb rfl rfl Zq (((hs.es hi).rdj 0 (i:=k - 1) (by omega) rfl))) rfl ?_
   refine o_h (Qm (cs:=[_]) rfl rfl QeM QuP rfl rfl rfl) rfl (fun b50 _=>?_)
   refine QdM ?_
   refine sCd rfl (fun h51=>?_) fun h51=>?_
   ·have hk9 : k < (nth L v.i).es.length:=by have hq:=h51;omega
    refine Ql (L':=[(1,_),(2,_),(3,_),(4,_),(5,_),(12,_),(13,_),(15,_),(16,_),(17,_)]) aSx (fun _ h=>h) ?_
    refine aU4 ?_
    refine o_p (Qa rfl rfl rfl Q6 (k) (by omega) (by omega) (Rw.some (hs.es hi) (by omega))) rfl ?_
    refine aU ?_
    refine o_q (Qb rfl rfl Zq (((hs.es hi).rdj 0 (i:=k) (by omega) rfl))) rfl ?_
    refine o_h (Qm (cs:=[_]) rfl rfl QeM QuP rfl rfl rfl) rfl (fun b52 _=>?_)
    refine aU3 ?_
    refine Qz [] QN ?_
    refine dLn 0 [] ?_
    refine dFa 1 ?_
    refine dLd 2 [] ?_
    refine dP 3 ?_
    refine dV 4 rfl (Qa rfl rfl rfl Xa (k) (by omega) (by omega) (Rw.some (hs.cs hi) (by omega))) ?_
    refine dQ 5 [] rfl (Qb rfl rfl ZB (((hs.cs hi).rdj 0 (i:=k) hkl rfl))) ?_
    refine Qy (show _ = Value.int .i64 ((XW (pln L) v k).i : Int) from by rw [XW,hn];exact congrArg (Value.int .i64) (Int.toNat_of_nonneg (show 0 ≤ (nth L v.i).cs.getD k 0 by omega)).symm) ?_
    refine dP 6 ?_
    refine dP 7 ?_
    try refine dWr ?_
    refine dP 8 ?_
    refine dP 9 ?_
    refine dQ 10 [] rfl (Qq rfl QgC rfl (fun w1 h1=>ih w1 (XW (pln L) v k) (v.i :: P) (lv - 1) _ _ _ _ _ _ (hs.later h1) hj hmo hT hB h0 hway2 (by simp only [XW,List.length_cons];omega) (by simp only [XW];omega) (Qg4 hT hi0 (by rw [hn];show k ≤ (nth L v.i).es.length;omega) hko) (Qgy hT hi0 hkp) (by show StK w1 _ _ (loK (nth (pln L) v.i).es k v.lo);rw [hn];show StK w1 _ _ (loK (nth L v.i).es k v.lo);first | (rw [QfG hk0];exact StK.new (h1.rd_blk (Mc:=[]) aPk rfl (by simp))) | (rw [Qij hk0];exact hlo.later h1)) (by show StK w1 _ _ (hiK (nth (pln L) v.i).es k v.hi);rw [hn];show StK w1 _ _ (hiK (nth L v.i).es k v.hi);first | (rw [QfF hk9];exact StK.new (h1.rd_blk (Mc:=[]) aPk rfl (by simp))) | (rw [QiR hk9];exact hhi.later h1)) (by simp only [List.length_cons];omega))) ?_
    refine dP 11 ?_
    refine dP 12 ?_
    refine dP 13 ?_
    refine dP 14 ?_
    refine dP 15 ?_
    refine dNi ?_
    refine aU ?_
    refine Ql (L':=[(1,_),(2,_),(3,_),(4,_),(5,_),(12,_),(13,_),(15,_),(18,_),(19,_)]) aSx (fun _ h=>h) ?_
    refine aU4 ?_
    refine sCd rfl (fun h53=>?_) fun h53=>?_
    ·have hbad : X8 (⟨(j : Int),mo,rm,pln L⟩ : Tre) deep (vis (pln L) (f + 1) v) = X8 (⟨(j : Int),mo,rm,pln L⟩ : Tre) deep (vis (pln L) f (XW (pln L) v k)):=by rw [Zn,hn];obtain ⟨B9,hB9⟩:=QaZ (pln L) f v (show k + 1 ≤ (nth L v.i).pl.cs.length by show k + 1 ≤ (nth L v.i).cs.length;omega);rw [hB9,X0,List.append_assoc,Yg,if_pos hk3,Yg,if_neg h53]
     refine aU7 ?_
     exact Qj (rs:=[.tmp 10,.tmp 11]) rfl (.tmp rfl (.tmp rfl (.nil))) (fun w' h'=>⟨by rw [hbad];rfl,h'.below⟩)
    have hgood : (X8 (⟨(j : Int),mo,rm,pln L⟩ : Tre) deep (Qbf (pln L) f v (k + 1))).2 = 0:=by rw [X0,Yg,if_pos hk3];have hq:=h53;omega
    refine aT5 ?_
    refine aU2 ?_
    exact sBk (k + 1) (by omega) ⟨by omega,hgood⟩
   have hk9 : ¬ k < (nth L v.i).es.length:=by have hq:=h51;omega
   refine aU2 ?_
   refine Ql (L':=[(1,_),(2,_),(3,_),(4,_),(5,_),(12,_),(13,_),(15,_),(16,_),(17,_)]) aSx (fun _ h=>h) ?_
   refine Qz [] QN ?_
   refine dLn 0 [] ?_
   refine dFa 1 ?_
   refine dLd 2 [] ?_
   refine dP 3 ?_
   refine dV 4 rfl (Qa rfl rfl rfl Xa (k) (by omega) (by omega) (Rw.some (hs.cs hi) (by omega))) ?_
   refine dQ 5 [] rfl (Qb rfl rfl ZB (((hs.cs hi).rdj 0 (i:=k) hkl rfl))) ?_
   refine Qy (show _ = Value.int .i64 ((XW (pln L) v k).i : Int) from by rw [XW,hn];exact congrArg (Value.int .i64) (Int.toNat_of_nonneg (show 0 ≤ (nth L v.i).cs.getD k 0 by omega)).symm) ?_
   refine dP 6 ?_
   refine dP 7 ?_
   try refine dWr ?_
   refine dP 8 ?_
   refine dP 9 ?_
   refine dQ 10 [] rfl (Qq rfl QgC rfl (fun w1 h1=>ih w1 (XW (pln L) v k) (v.i :: P) (lv - 1) _ _ _ _ _ _ (hs.later h1) hj hmo hT hB h0 hway2 (by simp only [XW,List.length_cons];omega) (by simp only [XW];omega) (Qg4 hT hi0 (by rw [hn];show k ≤ (nth L v.i).es.length;omega) hko) (Qgy hT hi0 hkp) (by show StK w1 _ _ (loK (nth (pln L) v.i).es k v.lo);rw [hn];show StK w1 _ _ (loK (nth L v.i).es k v.lo);first | (rw [QfG hk0];exact StK.new (h1.rd_blk (Mc:=[]) aPk rfl (by simp))) | (rw [Qij hk0];exact hlo.later h1)) (by show StK w1 _ _ (hiK (nth (pln L) v.i).es k v.hi);rw [hn];show StK w1 _ _ (hiK (nth L v.i).es k v.hi);first | (rw [QfF hk9];exact StK.new (h1.rd_blk (Mc:=[]) aPk rfl (by simp))) | (rw [QiR hk9];exact hhi.later h1)) (by simp only [List.length_cons];omega))) ?_
   refine dP 11 ?_
   refine dP 12 ?_
   refine dP 13 ?_
   refine dP 14 ?_
   refine dP 15 ?_
   refine dNi ?_
   refine aU5 ?_
   refine sCd rfl (fun h54=>?_) fun h54=>?_
   ·have hbad : X8 (⟨(j : Int),mo,rm,pln L⟩ : Tre) deep (vis (pln L) (f + 1) v) = X8 (⟨(j : Int),mo,rm,pln L⟩ : Tre) deep (vis (pln L) f (XW (pln L) v k)):=by rw [Zn,hn];obtain ⟨B9,hB9⟩:=QaZ (pln L) f v (show k + 1 ≤ (nth L v.i).pl.cs.length by show k + 1 ≤ (nth L v.i).cs.length;omega);rw [hB9,X0,List.append_assoc,Yg,if_pos hk3,Yg,if_neg h54]
    refine aU7 ?_
    exact Qj (rs:=[.tmp 10,.tmp 11]) rfl (.tmp rfl (.tmp rfl (.nil))) (fun w' h'=>⟨by rw [hbad];rfl,h'.below⟩)
   have hgood : (X8 (⟨(j : Int),mo,rm,pln L⟩ : Tre) deep (Qbf (pln L) f v (k + 1))).2 = 0:=by rw [X0,Yg,if_pos hk3];have hq:=h54;omega
   refine aT5 ?_
   refine aU2 ?_
   exact sBk (k + 1) (by omega) ⟨by omega,hgood⟩
  have hk0 : ¬ 0 < k:=by have hq:=h49;omega
  refine Zv ?_
  refine sCd rfl (fun h55=>?_) fun h55=>?_
  ·have hk9 : k < (nth L v.i).es.length:=by have hq:=h55;omega
   refine aU4 ?_
   refine o_p (Qa rfl rfl rfl Q6 (k) (by omega) (by omega) (Rw.some (hs.es hi) (by omega))) rfl ?_
   refine aU ?_
   refine o_q (Qb rfl rfl Zq (((hs.es hi).rdj 0 (i:=k) (by omega) rfl))) rfl ?_
   refine o_h (Qm (cs:=[_]) rfl rfl QeM QuP rfl rfl rfl) rfl (fun b56 _=>?_)
   refine aU3 ?_
   refine Ql (L':=[(1,_),(2,_),(3,_),(4,_),(5,_),(12,_),(13,_),(15,_),(16,_),(17,_)]) aSx (fun _ h=>h) ?_
   refine Qz [] QN ?_
   refine dLn 0 [] ?_
   refine dFa 1 ?_
   refine dLd 2 [] ?_
   refine dP 3 ?_
   refine dV 4 rfl (Qa rfl rfl rfl Xa (k) (by omega) (by omega) (Rw.some (hs.cs hi) (by omega))) ?_
   refine dQ 5 [] rfl (Qb rfl rfl ZB (((hs.cs hi).rdj 0 (i:=k) hkl rfl))) ?_
   refine Qy (show _ = Value.int .i64 ((XW (pln L) v k).i : Int) from by rw [XW,hn];exact congrArg (Value.int .i64) (Int.toNat_of_nonneg (show 0 ≤ (nth L v.i).cs.getD k 0 by omega)).symm) ?_
   refine dP 6 ?_
   refine dP 7 ?_
   try refine dWr ?_
   refine dP 8 ?_
   refine dP 9 ?_
   refine dQ 10 [] rfl (Qq rfl QgC rfl (fun w1 h1=>ih w1 (XW (pln L) v k) (v.i :: P) (lv - 1) _ _ _ _ _ _ (hs.later h1) hj hmo hT hB h0 hway2 (by simp only [XW,List.length_cons];omega) (by simp only [XW];omega) (Qg4 hT hi0 (by rw [hn];show k ≤ (nth L v.i).es.length;omega) hko) (Qgy hT hi0 hkp) (by show StK w1 _ _ (loK (nth (pln L) v.i).es k v.lo);rw [hn];show StK w1 _ _ (loK (nth L v.i).es k v.lo);first | (rw [QfG hk0];exact StK.new (h1.rd_blk (Mc:=[]) aPk rfl (by simp))) | (rw [Qij hk0];exact hlo.later h1)) (by show StK w1 _ _ (hiK (nth (pln L) v.i).es k v.hi);rw [hn];show StK w1 _ _ (hiK (nth L v.i).es k v.hi);first | (rw [QfF hk9];exact StK.new (h1.rd_blk (Mc:=[]) aPk rfl (by simp))) | (rw [QiR hk9];exact hhi.later h1)) (by simp only [List.length_cons];omega))) ?_
   refine dP 11 ?_
   refine dP 12 ?_
   refine dP 13 ?_
   refine dP 14 ?_
   refine dP 15 ?_
   refine dNi ?_
   refine aU5 ?_
   refine sCd rfl (fun h57=>?_) fun h57=>?_
   ·have hbad : X8 (⟨(j : Int),mo,rm,pln L⟩ : Tre) deep (vis (pln L) (f + 1) v) = X8 (⟨(j : Int),mo,rm,pln L⟩ : Tre) deep (vis (pln L) f (XW (pln L) v k)):=by rw [Zn,hn];obtain ⟨B9,hB9⟩:=QaZ (pln L) f v (show k + 1 ≤ (nth L v.i).pl.cs.length by show k + 1 ≤ (nth L v.i).cs.length;omega);rw [hB9,X0,List.append_assoc,Yg,if_pos hk3,Yg,if_neg h57]
    refine aU7 ?_
    exact Qj (rs:=[.tmp 10,.tmp 11]) rfl (.tmp rfl (.tmp rfl (.nil))) (fun w' h'=>⟨by rw [hbad];rfl,h'.below⟩)
   have hgood : (X8 (⟨(j : Int),mo,rm,pln L⟩ : Tre) deep (Qbf (pln L) f v (k + 1))).2 = 0:=by rw [X0,Yg,if_pos hk3];have hq:=h57;omega
   refine aT5 ?_
   refine aU2 ?_
   exact sBk (k + 1) (by omega) ⟨by omega,hgood⟩
  have hk9 : ¬ k < (nth L v.i).es.length:=by have hq:=h55;omega
  refine aU2 ?_
  refine Qz [] QN ?_
  refine dLn 0 [] ?_
  refine dFa 1 ?_
  refine dLd 2 [] ?_
  refine dP 3 ?_
  refine dV 4 rfl (Qa rfl rfl rfl Xa (k) (by omega) (by omega) (Rw.some (hs.cs hi) (by omega))) ?_
  refine dQ 5 [] rfl (Qb rfl rfl ZB (((hs.cs hi).rdj 0 (i:=k) hkl rfl))) ?_
  refine Qy (show _ = Value.int .i64 ((XW (pln L) v k).i : Int) from by rw [XW,hn];exact congrArg (Value.int .i64) (Int.toNat_of_nonneg (show 0 ≤ (nth L v.i).cs.getD k 0 by omega)).symm) ?_
  refine dP 6 ?_
  refine dP 7 ?_
  try refine dWr ?_
  refine dP 8 ?_
  refine dP 9 ?_
  refine dQ 10 [] rfl (Qq rfl QgC rfl (fun w1 h1=>ih w1 (XW (pln L) v k) (v.i :: P) (lv - 1) _ _ _ _ _ _ (hs.later h1) hj hmo hT hB h0 hway2 (by simp only [XW,List.length_cons];omega) (by simp only [XW];omega) (Qg4 hT hi0 (by rw [hn];show k ≤ (nth L v.i).es.length;omega) hko) (Qgy hT hi0 hkp) (by show StK w1 _ _ (loK (nth (pln L) v.i).es k v.lo);rw [hn];show StK w1 _ _ (loK (nth L v.i).es k v.lo);first | (rw [QfG hk0];exact StK.new (h1.rd_blk (Mc:=[]) aPk rfl (by simp))) | (rw [Qij hk0];exact hlo.later h1)) (by show StK w1 _ _ (hiK (nth (pln L) v.i).es k v.hi);rw [hn];show StK w1 _ _ (hiK (nth L v.i).es k v.hi);first | (rw [QfF hk9];exact StK.new (h1.rd_blk (Mc:=[]) aPk rfl (by simp))) | (rw [QiR hk9];exact hhi.later h1)) (by simp only [List.length_cons];omega))) ?_
  refine dP 11 ?_
  refine dP 12 ?_
  refine dP 13 ?_
  refine dP 14 ?_
  refine dP 15 ?_
  refine dNi ?_
  refine aU ?_
  refine Ql (L':=[(1,_),(2,_),(3,_),(4,_),(5,_),(12,_),(13,_),(15,_),(18,_),(19,_)]) aSx (fun _ h=>h) ?_
  refine aU4 ?_
  refine sCd rfl (fun h58=>?_) fun h58=>?_
  ·have hbad : X8 (⟨(j : Int),mo,rm,pln L⟩ : Tre) deep (vis (pln L) (f + 1) v) = X8 (⟨(j : Int),mo,rm,pln L⟩ : Tre) deep (vis (pln L) f (XW (pln L) v k)):=by rw [Zn,hn];obtain ⟨B9,hB9⟩:=QaZ (pln L) f v (show k + 1 ≤ (nth L v.i).pl.cs.length by show k + 1 ≤ (nth L v.i).cs.length;omega);rw [hB9,X0,List.append_assoc,Yg,if_pos hk3,Yg,if_neg h58]
   refine aU7 ?_
   exact Qj (rs:=[.tmp 10,.tmp 11]) rfl (.tmp rfl (.tmp rfl (.nil))) (fun w' h'=>⟨by rw [hbad];rfl,h'.below⟩)
  have hgood : (X8 (⟨(j : Int),mo,rm,pln L⟩ : Tre) deep (Qbf (pln L) f v (k + 1))).2 = 0:=by rw [X0,Yg,if_pos hk3];have hq:=h58;omega
  refine aT5 ?_
  refine aU2 ?_
  exact sBk (k + 1) (by omega) ⟨by omega,hgood⟩
 obtain rfl : k = (nth L v.i).cs.length:=by omega
 have hfin : X8 (⟨(j : Int),mo,rm,pln L⟩ : Tre) deep (vis (pln L) (f + 1) v) = (0,0):=by rw [Zn,hn];exact Qlq hk3
 refine Qi rfl ?_
 refine aU5 ?_
 exact Qj (rs:=[.tmp 10,.tmp 11]) rfl (.tmp rfl (.tmp rfl (.nil))) (fun w' h'=>⟨by rw [hfin];rfl,h'.below⟩)
theorem c138 (j : Nat) (mo rm : Int) (a : Option Addr) (cap : Nat) (L : List LNd) (deep : Int) : ∀ f,PlC j mo rm a cap L deep f
  | 0=>fun w v P lv pa qa pn pc qn qc hs hj hmo hT hB h0 hway hd hlv hko hkp hlo hhi hf=>by
    have h1:=QbS hT (by rw [Qe];exact h0) hway;rw [Qe,List.length_cons] at h1;omega
  | f + 1=>fun w v P lv pa qa pn pc qn qc hs hj hmo hT hB h0 hway hd hlv hko hkp hlo hhi hf=>QxG w j mo rm a cap L deep v P lv pa qa pn pc qn qc f hs hj hmo hT hB h0 hway hd hlv hko hkp hlo hhi hf (c138 j mo rm a cap L deep f)
end Go.Proofs
namespace Gx
open Go Go.RowKit
theorem Qvf {t : Tre} (h : ¬ Qs t.co = 0) : Yx t = (0,Qs t.co):=by rw [Qc2 (by rw [if_neg h];exact h),if_neg h]
theorem QwJ {t : Tre} (h : Qs t.co = 0) (h2 : ¬ XG t.mo t.rm = 0) : Yx t = (0,XG t.mo t.rm):=by rw [Qc2 (by rw [if_pos h];exact h2),if_pos h]
theorem Qvg {t : Tre} (h : Qs t.co = 0) (h2 : XG t.mo t.rm = 0) (h3 : ¬ 0 < t.ns.length) : Yx t = (0,10):=by
 have e : Zi t.ns.length = 10:=if_neg h3;rw [QdZ (by rw [if_pos h];exact h2) (by rw [e];decide),e]
theorem QvN {t : Tre} (h : Qs t.co = 0) (h2 : XG t.mo t.rm = 0) (h3 : 0 < t.ns.length) (h4 : ¬ t.ns.length ≤ 120) : Yx t = (0,8):=by
 have e : Zi t.ns.length = 8:=by rw [Zi,if_pos h3,if_neg h4]
 rw [QdZ (by rw [if_pos h];exact h2) (by rw [e];decide),e]
theorem Qwe {t : Tre} (h : Qs t.co = 0) (h2 : XG t.mo t.rm = 0) (h3 : 0 < t.ns.length) (h4 : t.ns.length ≤ 120) : Yx t = if (X5 t t.ns.length 0 []).2 = 0 then QbZ t else X5 t t.ns.length 0 []:=Qe8 (by rw [if_pos h];exact h2) (by rw [Zi,if_pos h3,if_pos h4])
theorem Qkk (n : Nat) : XK [Value.bool false] n = Xf n []:=by
 rw [Qcc];apply List.ext_getElem?;intro i
 by_cases hi : i < n
 ·rw [Qa0 hi,List.getElem?_replicate,if_pos hi];rfl
 ·rw [List.getElem?_eq_none (by rw [List.length_replicate];omega),List.getElem?_eq_none (by rw [Qbh];omega)]
theorem QjP {vs : List Vis} {k : Nat} : ((k : Nat) : Int) ∈ mkS vs [] ↔ k ∈ vs.map Vis.i:=by
 rw [QsK,List.mem_map];constructor
 ·rintro ⟨v,hv,h⟩;exact ⟨v,hv,by omega⟩
 ·rintro ⟨v,hv,h⟩;exact ⟨v,hv,by omega⟩
theorem Qk3 (ns : List Nd) : ∀ (f i : Nat),0 ≤ Y5 ns f i ∧ Y5 ns f i ≤ f
 | 0,i=>by rw [Y5];omega
 | f + 1,i=>by
  rw [Y5];split
  ·omega
  ·have:=Qk3 ns f ((nth ns i).cs.getD 0 0).toNat;omega
theorem QpZ {ns : List Nd} {f i : Nat} (h : (nth ns i).cs.length = 0) : Y5 ns f i = 0:=by
 cases f with
 | zero=>rfl
 | succ f=>rw [Y5,if_pos h]
theorem Qou {ns : List Nd} {f i : Nat} (h0 : 0 < f) (h : ¬ (nth ns i).cs.length = 0) : Y5 ns f i = Y5 ns (f - 1) ((nth ns i).cs.getD 0 0).toNat + 1:=by
 obtain ⟨g,rfl⟩ : ∃ g,f = g + 1:=⟨f - 1,by omega⟩;rw [Y5,if_neg h];rfl
end Gx
namespace Go.Proofs
open Go Go.RowKit Gx
attribute [local irreducible] Go.Calls Gx.S Gx.O Gx.D Gx.OpP Gx.OpQ Gx.OpH
set_option maxRecDepth 20000
instance : TFn Tryz.prog 96:=⟨by kernel_rfl⟩
instance : TFn Tryz.prog 97:=⟨by kernel_rfl⟩
theorem Qwk : QK Tryz.prog 136 = true:=by kernel_rfl
instance : TFn Tryz.prog 71:=⟨by kernel_rfl⟩
theorem c71 (w : World) (co mo rm : Int) (a : Option Addr) (cap : Nat) (L : List LNd) (hs : Nt w [] a L) (hB : Bd (pln L)) (hkl : ∀ i,i < L.length → ∀ x ∈ (nth L i).es,x.key.length ≤ 1000000) : Calls Tryz.prog 71 #[.agg #[.int .i64 co,.int .i64 mo,.int .i64 rm,.slice a L.length cap]] w fun en w'=>en = .returned (.tuple #[.int .i64 (Yx (⟨co,mo,rm,pln L⟩ : Tre)).1,.int .i64 (Yx (⟨co,mo,rm,pln L⟩ : Tre)).2]) ∧ Below w.heap.size w w':=by
 have hle:=hB.len
 rw [Qe] at hle
 have hes9 : ∀ i,i < L.length → (nth L i).es.length ≤ 1000:=fun i hi=>by have h9:=hB.es i (by rw [Qe];exact hi);rw [Q0 hi] at h9;exact h9
 have hcs9 : ∀ i,i < L.length → (nth L i).cs.length ≤ 1000:=fun i hi=>by have h9:=hB.cs i (by rw [Qe];exact hi);rw [Q0 hi] at h9;exact h9
 refine eN1 Tryz.func71 Tryz.ntmps71 ?_
 refine aU2 ?_
 refine oBx fun b1 _=>?_
 refine aU8 ?_
 refine oCq rfl (fun w1 h1=>c96 w1 _) ?_
 refine aU7 ?_
 refine sCd rfl (fun h2=>?_) fun h2=>?_
 ·have hz:=Qvf (t:=(⟨co,mo,rm,pln L⟩ : Tre)) h2
  refine aU6 ?_
  exact Qj (rs:=[.tmp 2,.tmp 3]) rfl (.tmp rfl (.tmp rfl (.nil))) (fun w' h'=>⟨by rw [hz];rfl,h'.below⟩)
 have hc0 : Qs co = 0:=by have hq:=h2;omega
 obtain ⟨j,rfl,hj⟩:=Qjk hc0
 refine aU8 ?_
 refine oCq rfl (fun w1 h1=>c97 w1 _ _) ?_
 refine aU7 ?_
 refine sCd rfl (fun h3=>?_) fun h3=>?_
 ·have hz:=QwJ (t:=(⟨(j : Int),mo,rm,pln L⟩ : Tre)) hc0 h3
  refine aU6 ?_
  exact Qj (rs:=[.tmp 2,.tmp 3]) rfl (.tmp rfl (.tmp rfl (.nil))) (fun w' h'=>⟨by rw [hz];rfl,h'.below⟩)
 have hc1 : XG mo rm = 0:=by have hq:=h3;omega
 have hsz2 : (3 ≤ mo ∧ mo ≤ 8) ∧ (mo / 2 ≤ rm ∧ rm ≤ mo):=Qrn hc1
 have hTL : ((⟨(j : Int),mo,rm,pln L⟩ : Tre)).ns.length = L.length:=Qe L
 refine aU9 ?_
 refine sCd rfl (fun h4=>?_) fun h4=>?_
 ·have hz:=Qvg (t:=(⟨(j : Int),mo,rm,pln L⟩ : Tre)) hc0 hc1 (by rw [hTL];have hq:=h4;omega)
  refine aU5 ?_
  exact Qj (rs:=[.tmp 2,.tmp 3]) rfl (.tmp rfl (.tmp rfl (.nil))) (fun w' h'=>⟨by rw [hz];rfl,h'.below⟩)
 have h00 : 0 < L.length:=by have hq:=h4;omega
 refine aU9 ?_
 refine sCd rfl (fun h5=>?_) fun h5=>?_
 ·have hz:=QvN (t:=(⟨(j : Int),mo,rm,pln L⟩ : Tre)) hc0 hc1 (by rw [hTL];exact h00) (by rw [hTL];have hq:=h5;omega)
  refine aU5 ?_
  exact Qj (rs:=[.tmp 2,.tmp 3]) rfl (.tmp rfl (.tmp rfl (.nil))) (fun w' h'=>⟨by rw [hz];rfl,h'.below⟩)
 have h120 : L.length ≤ 120:=by have hq:=h5;omega
 have hz:=Qwe (t:=(⟨(j : Int),mo,rm,pln L⟩ : Tre)) hc0 hc1 (by rw [hTL];exact h00) (by rw [hTL];exact h120)
 rw [hTL] at hz
 refine aU6 ?_
 refine o_h (Qe4 (n:=L.length) rfl rfl rfl Qby Qvz (by omega) (by omega)) rfl (fun b6 _=>?_)
 refine XA (fun w h=>(show HS _ _ [.blk b6 4 L.length (Xf L.length []),.blk b1 37 4 [.int .i64 (j : Int),.int .i64 mo,.int .i64 rm,.slice a L.length cap]] w from by have h9:=h;rw [Nat.mul_one,Qkk] at h9;exact h9.ent aEt)) ?_
 refine aU4 ?_
 refine Ql (L':=[(1,_),(2,_),(3,_),(6,_)]) aSx (fun _ h=>h) ?_
 refine aU4 ?_
 refine Qr (α:=Nat × List Int) [2,3,7,8,39,40,41,42,43,44,45,46,47,48,49,50,51,52,53] (fun x=>[(7,.int .i64 (x.1 : Int))]) (fun x=>HS w [] [.blk b6 4 L.length (Xf L.length x.2),.blk b1 37 4 [.int .i64 (j : Int),.int .i64 mo,.int .i64 rm,.slice a L.length cap]]) (fun x=>x.1 ≤ L.length ∧ (X5 (⟨(j : Int),mo,rm,pln L⟩ : Tre) L.length 0 []) = X5 (⟨(j : Int),mo,rm,pln L⟩ : Tre) (L.length - x.1) x.1 x.2) (fun x=>L.length - x.1) (0,[]) ⟨Nat.zero_le _,rfl⟩ aSx (fun w h=>h.ent aEt) (fun ⟨k,S9⟩ hx=>?_)
 dsimp only
 obtain ⟨hk1,hk3⟩:=hx
 simp only [] at hk1 hk3
 refine aU9 ?_
 refine sCd rfl (fun h7=>?_) fun h7=>?_
 ·have hkl9 : k < L.length:=by omega
  have hst:=QgJ (t:=(⟨(j : Int),mo,rm,pln L⟩ : Tre)) (k:=k) (seen:=S9) (by rw [hTL];exact hkl9)
  rw [hTL] at hst
  refine aU8 ?_
  refine o_h (QX (Cs:=[.blk b6 4 L.length (Xf L.length S9)]) rfl Qwk rfl aPs (fun w1 h1 hf=>c136 w1 j mo rm a cap L k b6 L.length L.length S9 hf ((hs.keep h1).mono (Q9 aPs)) hj hkl9 (by omega) (hes9 _ hkl9) (hcs9 _ hkl9) (hkl _ hkl9))) rfl (fun _ _=>?_)
  refine aU7 ?_
  refine sCd rfl (fun h8=>?_) fun h8=>?_
  ·have hz3 : (X5 (⟨(j : Int),mo,rm,pln L⟩ : Tre) L.length 0 []) = ((k : Int),(XS (⟨(j : Int),mo,rm,pln L⟩ : Tre) k S9).1):=by rw [hk3,hst,if_neg h8]
   rw [hz3,if_neg (show ¬ (((k : Int),(XS (⟨(j : Int),mo,rm,pln L⟩ : Tre) k S9).1) : Int × Int).2 = 0 from h8)] at hz
   refine aU7 ?_
   exact Qj (rs:=[.tmp 2,.tmp 3]) rfl (.tmp rfl (.tmp rfl (.nil))) (fun w' h'=>⟨by rw [hz];rfl,h'.below⟩)
  have hz3 : X5 (⟨(j : Int),mo,rm,pln L⟩ : Tre) (L.length - k) k S9 = X5 (⟨(j : Int),mo,rm,pln L⟩ : Tre) (L.length - (k + 1)) (k + 1) (XS (⟨(j : Int),mo,rm,pln L⟩ : Tre) k S9).2:=by rw [hst,if_pos (by have hq:=h8;omega)]
  refine aT5 ?_
  refine aU2 ?_
  exact sBk (k + 1,(XS (⟨(j : Int),mo,rm,pln L⟩ : Tre) k S9).2) (by (try simp only []);omega) ⟨by (try simp only []);omega,by simp only [];rw [hk3,hz3]⟩
 have hnd : (X5 (⟨(j : Int),mo,rm,pln L⟩ : Tre) L.length 0 []) = (0,0):=by rw [hk3,show L.length - k = 0 by omega];rfl
 rw [hnd,if_pos rfl] at hz
 have hT : TOk (j : Int) (pln L):=Qha (t:=(⟨(j : Int),mo,rm,pln L⟩ : Tre)) (by show (X5 (⟨(j : Int),mo,rm,pln L⟩ : Tre) (pln L).length 0 []).2 = 0;rw [Qe,hnd])
 have hvis : vis (pln L) L.length Qcd = YT (pln L):=by unfold YT;rw [Qe]
 refine Qi rfl ?_
 refine aU5 ?_
 refine o_h (Qe4 (n:=L.length) rfl rfl rfl Qby Qvz (by omega) (by omega)) rfl (fun b9 _=>?_)
 refine XA (fun w h=>(show HS _ _ [.blk b9 4 L.length (Xf L.length []),.blk b1 37 4 [.int .i64 (j : Int),.int .i64 mo,.int .i64 rm,.slice a L.length cap]] w from by have h9:=h;rw [Nat.mul_one,Qkk] at h9;exact h9.ent aEt)) ?_
 refine aU6 ?_
 refine o_h (QX (Cs:=[.blk b9 4 L.length (Xf L.length [])]) rfl Qrr rfl aPs (fun w1 h1 hf=>c137 j mo rm a cap L b9 L.length L.length L.length w1 [] Qcd [] hf ((hs.keep h1).mono (Q9 aPs)) hT hB h00 rfl (by simp))) rfl (fun _ _=>?_)
 refine aU7 ?_
 refine Ql (L':=[(1,_),(6,_),(7,_),(9,_),(10,_)]) aSx (fun _ h=>h) ?_
 refine Qr (α:=Nat) [2,3,10,61,62,63,64,65,66,67,68,69,70,71,72,73,74,75,76,77,78,79,80,81] (fun k=>[(10,.int .i64 (k : Int))]) (fun _=>HS w [] [.blk b9 4 L.length (Xf L.length (mkS (vis (pln L) L.length Qcd) [])),.blk b1 37 4 [.int .i64 (j : Int),.int .i64 mo,.int .i64 rm,.slice a L.length cap]]) (fun k=>k ≤ L.length ∧ Qas (pln L) ((YT (pln L)).map Vis.i) L.length 0 = Qas (pln L) ((YT (pln L)).map Vis.i) (L.length - k) k) (fun k=>L.length - k) 0 ⟨Nat.zero_le _,rfl⟩ aSx (fun w h=>h.ent aEt) (fun k hx=>?_)
 obtain ⟨hk1,hk2⟩:=hx
 refine aU9 ?_
 refine sCd rfl (fun h10=>?_) fun h10=>?_
 ·have hkl9 : k < L.length:=by omega
  have hst:=Qh9 (ns:=pln L) (below:=((YT (pln L)).map Vis.i)) (k:=k) (by rw [Qe];exact hkl9)
  rw [Qe,Q0 hkl9] at hst
  refine aU8 ?_
  refine o_p (Qa rfl rfl rfl Q3 (k) (by omega) (by omega) (Rw.some hs.1 (by omega))) rfl ?_
  refine aU ?_
  refine o_q (Qb rfl rfl QeZ ((hs.1.rdj 0 hkl9 rfl))) rfl ?_
  refine aU ?_
  refine Yq 6 74 80 rfl
   (fun hg11 _=>by
    refine aU5 ?_
    refine o_p (Qa rfl rfl rfl Qby (k) (by omega) (by omega) rfl) rfl ?_
    refine Qk (show _ = Value.pointer (some ⟨b9,k,none⟩) from by rw [Nat.zero_add,Nat.mul_one]) ?_
    refine aU ?_
    refine o_q (XZ rfl rfl QeZ (fun w h=>h.rd_blk (Mc:=[]) aPk (Qa0 hkl9) (by simp))) rfl ?_
    refine aU2 ?_
    exact oJt 6 80)
   (fun hg13 _=>by
    refine aU5 ?_
    exact oJf 6 80) ?_
  refine aU ?_
  refine sCd rfl (fun h15=>?_) fun h15=>?_
  ·have hz7 : (nth L k).pl.us = true ∧ k ∉ ((YT (pln L)).map Vis.i):=by have hq:=h15;rw [← QjP,← hvis];simp only [LNd.pl];simpa using hq
   have hz8:=hz.trans (Qdx (t:=(⟨(j : Int),mo,rm,pln L⟩ : Tre)) (i:=k) (show Qas (pln L) _ (pln L).length 0 = some k from by rw [Qe,hk2,hst,if_pos hz7]))
   refine aU6 ?_
   exact Qj (rs:=[.tmp 2,.tmp 3]) rfl (.tmp rfl (.tmp rfl (.nil))) (fun w' h'=>⟨by rw [hz8];rfl,h'.below⟩)
  have hz7 : ¬ ((nth L k).pl.us = true ∧ k ∉ ((YT (pln L)).map Vis.i)):=by have hq:=h15;rw [← QjP,← hvis];simp only [LNd.pl];intro h9;exact hq.elim (fun h8=>by rw [h8] at h9;cases h9.1) (fun h8=>h9.2 h8)
  refine aT5 ?_
  refine aU2 ?_
  exact sBk (k + 1) (by omega) ⟨by omega,by rw [hk2,hst,if_neg hz7]⟩
 have hnone : Qas (pln L) ((YT (pln L)).map Vis.i) L.length 0 = none:=by rw [hk2,show L.length - k = 0 by omega];rfl
 have hz8:=hz.trans (QdA (t:=(⟨(j : Int),mo,rm,pln L⟩ : Tre)) (show Qas (pln L) _ (pln L).length 0 = none from by rw [Qe];exact hnone))
 refine Qi rfl ?_
 refine Zv ?_
 refine Qr (α:=Nat × Nat × List Nat) [11,12,82,83,84,85,86,87,88,89,90,91,92,93,94,95,96,97,98,99] (fun y=>[(11,.int .i64 (y.1 : Int)),(12,.int .i64 (y.2.1 : Int))]) (fun _=>HS w [] [.blk b1 37 4 [.int .i64 (j : Int),.int .i64 mo,.int .i64 rm,.slice a L.length cap]]) (fun y=>Gx.Way (pln L) (y.2.1 :: y.2.2) ∧ y.2.2.length = y.1 ∧ Y5 (pln L) L.length 0 = (y.1 : Int) + Y5 (pln L) (L.length - y.1) y.2.1) (fun y=>L.length - y.1) (0,0,[]) ⟨rfl,rfl,by simp⟩ aSx (fun w h=>h.ent aEt) (fun ⟨d,i,P⟩ hx=>?_)
 dsimp only
 obtain ⟨hway,hpl,hdp⟩:=hx
 simp only [] at hway hpl hdp
 have hil0:=Qdv hT (by rw [Qe];exact h00) hway i (List.mem_cons_self ..)
 have hil : i < L.length:=by rw [Qe] at hil0;exact hil0
 have hnI:=Q0 hil
 have hwl:=QbS hT (by rw [Qe];exact h00) hway
 rw [Qe,List.length_cons] at hwl
 have hcl:=hcs9 i hil
 refine aU6 ?_
 refine o_p (Qa rfl rfl rfl Q3 (i) (by omega) (by omega) (Rw.some hs.1 (by omega))) rfl ?_
 refine aU ?_
 refine o_q (Qb rfl rfl Qci ((hs.1.rdj 2 hil rfl))) rfl ?_
 refine aU3 ?_
 refine sCd rfl (fun h16=>?_) fun h16=>?_
 ·have hcl0 : 0 < (nth L i).cs.length:=by have hq:=h16;omega
  have hkid:=Qg0 hT (by rw [Qe];exact hil) (i:=i) (k:=0) (by rw [hnI];exact hcl0)
  rw [hnI,Qe] at hkid
  simp only [LNd.pl] at hkid
  have hway2:=QeF hway (by rw [Qe];exact hil) (k:=0) (by rw [hnI];exact hcl0) (by rw [hnI];simp only [LNd.pl];omega)
  rw [hnI] at hway2
  have hwl2:=QbS hT (by rw [Qe];exact h00) hway2
  rw [Qe,List.length_cons,List.length_cons] at hwl2
  have hdm:=Qou (ns:=pln L) (f:=L.length - d) (i:=i) (by omega) (by rw [hnI];show ¬ (nth L i).cs.length = 0;omega)
  rw [hnI] at hdm
  refine aU7 ?_
  refine o_p (Qa rfl rfl rfl Q3 (i) (by omega) (by omega) (Rw.some hs.1 (by omega))) rfl ?_
  refine aU ?_
  refine o_q (Qb rfl rfl Qci ((hs.1.rdj 2 hil rfl))) rfl ?_
  refine o_p (Qa rfl rfl rfl Xa (0) (by omega) (by omega) (Rw.some (hs.cs hil) (by omega))) rfl ?_
  refine o_q (Qb rfl rfl ZB (((hs.cs hil).rdj 0 (i:=0) (by omega) rfl))) rfl ?_
  refine Qk (show _ = Value.int .i64 (((nth L i).cs.getD 0 0).toNat : Int) from congrArg (Value.int .i64) (Int.toNat_of_nonneg (show 0 ≤ (nth L i).cs.getD 0 0 by omega)).symm) ?_
  refine aT6 ?_
  refine aU2 ?_
  exact sBk (d + 1,((nth L i).cs.getD 0 0).toNat,i :: P) (by (try simp only []);omega) ⟨hway2,by simp [hpl],by simp only [] at *;rw [show L.length - (d + 1) = L.length - d - 1 by omega];have h9 : (nth L i).pl.cs = (nth L i).cs:=rfl;rw [h9] at hdm;omega⟩
 have hde:=QpZ (ns:=pln L) (f:=L.length - d) (i:=i) (by rw [hnI];show (nth L i).cs.length = 0;have hq:=h16;omega)
 rw [hde,Int.add_zero] at hdp
 have hdl:=Qk3 (pln L) L.length 0
 refine Qi rfl ?_
 refine aU4 ?_
 refine oCq rfl (fun w1 h1=>c138 j mo rm a cap L (d : Int) L.length w1 Qcd [] (d : Int) none none 0 0 0 0 (hs.later h1) hj (by omega) hT hB h00 rfl rfl (by show (d : Int) = d + 1 - 1;omega) (fun _ h=>by cases h) (fun _ h=>by cases h) rfl rfl (by simp)) ?_
 refine aU5 ?_
 exact Qj (rs:=[.tmp 2,.tmp 3]) rfl (.tmp rfl (.tmp rfl (.nil))) (fun w' h'=>⟨by rw [hz8,show Y5 ((⟨(j : Int),mo,rm,pln L⟩ : Tre)).ns ((⟨(j : Int),mo,rm,pln L⟩ : Tre)).ns.length 0 = (d : Int) from by rw [hTL];exact hdp,show YT ((⟨(j : Int),mo,rm,pln L⟩ : Tre)).ns = vis (pln L) L.length Qcd from hvis.symm];rfl,h'.below⟩)
theorem c84 (w : World) (co mo rm : Int) (a : Option Addr) (cap : Nat) (L : List LNd) (hs : Nt w [] a L) (hB : Bd (pln L)) (hkl : ∀ i,i < L.length → ∀ x ∈ (nth L i).es,x.key.length ≤ 1000000) : Calls Tryz.prog 84 #[.agg #[.int .i64 co,.int .i64 mo,.int .i64 rm,.slice a L.length cap]] w fun en w'=>en = .returned (.int .i64 (Yx (⟨co,mo,rm,pln L⟩ : Tre)).2) ∧ Below w.heap.size w w':=by
 refine eN1 Tryz.func84 Tryz.ntmps84 ?_
 refine aU2 ?_
 refine oBx fun b1 _=>?_
 refine aU5 ?_
 refine oCq rfl (fun w1 h1=>c71 w1 co mo rm a cap L (hs.later h1) hB hkl) ?_
 refine QdM ?_
 exact rT rfl rfl (fun w' h'=>⟨by rfl,h'.below⟩)
end Go.Proofs
namespace Gx
open Go Go.RowKit
def QbK (x : TEnt) : Bool:=decide (x.key.length ≤ 44 ∧ x.val.length ≤ 70)
def QbE (es : List TEnt) : Bool:=es.all QbK
def Qce (n : Nd) : Bool:=decide (n.es.length ≤ 10 ∧ n.cs.length ≤ 11) && QbE n.es
def YW (ns : List Nd) : Bool:=decide (ns.length ≤ 122 ∧ ¬ (60 < ns.length ∧ ns.length ≤ 120)) && ns.all Qce
theorem Qtr {n : Nd} (h1 : n.es.length ≤ 10) (h2 : n.cs.length ≤ 11) (h3 : QbE n.es = true) : Qce n = true:=by
 rw [Qce,decide_eq_true (And.intro h1 h2),h3];rfl
theorem QtW {n : Nd} (h : (10 < n.es.length ∨ 11 < n.cs.length) ∨ QbE n.es = false) : ¬ Qce n = true:=fun h9=>by
 rw [Qce,Bool.and_eq_true,decide_eq_true_eq] at h9;rcases h with h | h
 ·omega
 ·rw [h] at h9;cases h9.2
theorem QnY {es : List TEnt} (h : ∀ q,q < es.length → QbK (nth es q) = true) : QbE es = true:=by
 refine List.all_eq_true.2 fun x hx=>?_;obtain ⟨q,hq,e⟩:=List.getElem_of_mem hx;have e2 : nth es q = x:=Y2 (by rw [List.getElem?_eq_getElem hq,e]);rw [← e2];exact h q hq
theorem QoT {es : List TEnt} {k : Nat} (hk : k < es.length) (h : ¬ QbK (nth es k) = true) : QbE es = false:=by
 cases e : QbE es
 ·rfl
 ·exact absurd (List.all_eq_true.1 e _ (Qv hk)) h
theorem Qst {ns : List Nd} (h0 : ns.length ≤ 122 ∧ ¬ (60 < ns.length ∧ ns.length ≤ 120)) (h : ∀ q,q < ns.length → Qce (nth ns q) = true) : YW ns = true:=by
 rw [YW,decide_eq_true h0,Bool.true_and];refine List.all_eq_true.2 fun x hx=>?_;obtain ⟨q,hq,e⟩:=List.getElem_of_mem hx;have e2 : nth ns q = x:=Y2 (by rw [List.getElem?_eq_getElem hq,e]);rw [← e2];exact h q hq
theorem Qs7 {ns : List Nd} {k : Nat} (hk : k < ns.length) (h : ¬ Qce (nth ns k) = true) : YW ns = false:=by
 cases e : YW ns
 ·rfl
 ·rw [YW,Bool.and_eq_true] at e;exact absurd (List.all_eq_true.1 e.2 _ (Qv hk)) h
theorem Qty {ns : List Nd} (h : ¬ (ns.length ≤ 122 ∧ ¬ (60 < ns.length ∧ ns.length ≤ 120))) : YW ns = false:=by
 rw [YW,decide_eq_false h,Bool.false_and]
theorem Qrq {ns : List Nd} (h : YW ns = true) : ns.length ≤ 122:=by
 rw [YW,Bool.and_eq_true,decide_eq_true_eq] at h;exact h.1.1
theorem Qc4 {ns : List Nd} (h : YW ns = true) {k : Nat} (hk : k < ns.length) : (nth ns k).es.length ≤ 10 ∧ (nth ns k).cs.length ≤ 11 ∧ ∀ x ∈ (nth ns k).es,x.key.length ≤ 44 ∧ x.val.length ≤ 70:=by
 rw [YW,Bool.and_eq_true] at h;have h2:=List.all_eq_true.1 h.2 _ (Qv hk);rw [Qce,Bool.and_eq_true,decide_eq_true_eq] at h2;refine ⟨h2.1.1,h2.1.2,fun x hx=>?_⟩;have h3:=List.all_eq_true.1 h2.2 _ hx;rw [QbK,decide_eq_true_eq] at h3;exact h3
theorem Qnc {ns : List Nd} (h : YW ns = true) : Bd ns where
 len:=Nat.le_trans (Qrq h) (by decide)
 es i hi:=Nat.le_trans (Qc4 h hi).1 (by decide)
 cs i hi:=Nat.le_trans (Qc4 h hi).2.1 (by decide)
theorem Qmk {ns : List Nd} (h : YW ns = true) : Sm 1000 ns:=fun k=>by
 rcases Nat.lt_or_ge k ns.length with hk | hk
 ·exact ⟨Nat.le_trans (Qc4 h hk).1 (by decide),Nat.le_trans (Qc4 h hk).2.1 (by decide)⟩
 ·rw [Qaw hk];exact ⟨Nat.zero_le _,Nat.zero_le _⟩
theorem Qh7 {L : List LNd} (h : YW (pln L) = true) : ∀ i,i < L.length → ∀ x ∈ (nth L i).es,x.key.length ≤ 1000000:=fun i hi x hx=>by
 have h2:=(Qc4 h (k:=i) (by rw [Qe];exact hi)).2.2 x (by rw [Q0 hi];exact hx);omega
def entN (co : Int) (ns : List Nd) (key : List UInt8) : TEnt:=nth (nth ns (Q5 (Xg co ns key).1)).es (Xg co ns key).2.1
end Gx
namespace Go.Proofs
open Go Go.RowKit Gx
attribute [local irreducible] Go.Calls Gx.S Gx.O Gx.D Gx.OpP Gx.OpQ Gx.OpH
set_option maxRecDepth 20000
instance : TFn Tryz.prog 42:=⟨by kernel_rfl⟩
instance : TFn Tryz.prog 139:=⟨by kernel_rfl⟩
theorem c42 (w : World) (x : TEnt) : Calls Tryz.prog 42 #[.agg #[.string (bs x.key),.string (bs x.val)]] w fun en w'=>en = .returned (.bool (QbK x)) ∧ Below w.heap.size w w':=by
 refine eN1 Tryz.func42 Tryz.ntmps42 ?_
 refine aU2 ?_
 refine oBx fun b1 _=>?_
 refine aU6 ?_
 refine o_p (Qg rfl rfl Tryz.underlying9) rfl ?_
 refine aU2 ?_
 refine Yq 5 7 12 rfl
  (fun hg2 _=>by
   refine aU5 ?_
   refine o_p (Qg rfl rfl Tryz.underlying9) rfl ?_
   refine aU2 ?_
   exact oJt 5 12)
  (fun hg4 _=>by
   refine aU4 ?_
   exact oJf 5 12) ?_
 refine aU2 ?_
 exact rT rfl rfl (fun w' h'=>⟨by simp only [QW,QbK,Bool.decide_and];congr 3 <;> exact decide_eq_decide.2 (by omega),h'.below⟩)
theorem c139 (w : World) (a : Option Addr) (cap : Nat) (l : List TEnt) (hs : Rw TEnt.vals 2 w [] a l) (hl : l.length ≤ 1000) : Calls Tryz.prog 139 #[.slice a l.length cap] w fun en w'=>en = .returned (.bool (QbE l)) ∧ Below w.heap.size w w':=by
 refine eN1 Tryz.func139 Tryz.ntmps139 ?_
 refine Zv ?_
 refine Qr (α:=Nat) [2,3,4,5,6,7,8,9,10,11,12,13,14,15] (fun k=>[(3,.int .i64 (k : Int))]) (fun _=>HS w [] []) (fun k=>k ≤ l.length ∧ ∀ q,q < k → QbK (nth l q) = true) (fun k=>l.length - k) 0 ⟨Nat.zero_le _,fun q h=>absurd h (Nat.not_lt_zero q)⟩ aSx (fun w h=>h.ent aEt) (fun k hx=>?_)
 obtain ⟨hk1,hk3⟩:=hx
 refine aU8 ?_
 refine sCd rfl (fun h1=>?_) fun h1=>?_
 ·have hk5 : k < l.length:=by omega
  refine aU7 ?_
  refine o_p (Qa rfl rfl rfl Q6 (k) (by omega) (by omega) (Rw.some hs (by omega))) rfl ?_
  refine o_q (Qw _ rfl rfl QbX rfl (Rw.rd hs hk5)) rfl ?_
  refine oCq rfl (fun w1 h1=>c42 w1 (nth l k)) ?_
  refine aU2 ?_
  refine sCd rfl (fun h2=>?_) fun h2=>?_
  ·have hz1 : ¬ QbK (nth l k) = true:=by have hq:=h2;simp [hq]
   have hbad:=QoT hk5 hz1
   refine aU4 ?_
   exact rT rfl rfl (fun w' h'=>⟨by rw [hbad];rfl,h'.below⟩)
  have hz1 : QbK (nth l k) = true:=by have hq:=h2;simpa using hq
  refine aT5 ?_
  refine aU2 ?_
  exact sBk (k + 1) (by omega) ⟨by omega,fun q hq=>(Nat.lt_or_ge q k).elim (hk3 q) (fun h9=>by obtain rfl : q = k:=(by omega);exact hz1)⟩
 have hall:=QnY (es:=l) (fun q hq=>hk3 q (by omega))
 refine Qi rfl ?_
 refine aU4 ?_
 exact rT rfl rfl (fun w' h'=>⟨by rw [hall];rfl,h'.below⟩)
theorem c74 (w : World) (co mo rm : Int) (a : Option Addr) (cap : Nat) (L : List LNd) (hs : Nt w [] a L) : Calls Tryz.prog 74 #[.agg #[.int .i64 co,.int .i64 mo,.int .i64 rm,.slice a L.length cap]] w fun en w'=>en = .returned (.bool (YW (pln L))) ∧ Below w.heap.size w w':=by
 have hnl : (pln L).length = L.length:=Qe L
 refine eN1 Tryz.func74 Tryz.ntmps74 ?_
 refine aU2 ?_
 refine oBx fun b1 _=>?_
 refine Zv ?_
 refine Yq 5 8 13 rfl
  (fun hg2 _=>by
   refine aU8 ?_
   exact oJt 5 13)
  (fun hg4 _=>by
   refine aU4 ?_
   exact oJf 5 13) ?_
 refine aU ?_
 refine oOr 5 14 19 rfl
  (fun hg6 _=>by
   refine aU8 ?_
   exact oJf 5 19)
  (fun hg8 _=>by
   refine aU4 ?_
   exact oJt 5 19) ?_
 refine aU ?_
 refine sCd rfl (fun h10=>?_) fun h10=>?_
 ·have hbad:=Qty (ns:=pln L) (by rw [hnl];have hq:=h10;omega)
  refine aU4 ?_
  exact rT rfl rfl (fun w' h'=>⟨by rw [hbad];rfl,h'.below⟩)
 have hlen : L.length ≤ 122 ∧ ¬ (60 < L.length ∧ L.length ≤ 120):=by have hq:=h10;omega
 refine aU7 ?_
 refine Qr (α:=Nat) [2,3,20,21,22,23,24,25,26,27,28,29,30,31,32,33,34,35,36,37,38,39,40,41,42,43,44,45,46,47,48,49,50,51,52,53,54] (fun k=>[(3,.int .i64 (k : Int))]) (fun _=>HS w [] [.blk b1 37 4 [.int .i64 co,.int .i64 mo,.int .i64 rm,.slice a L.length cap]]) (fun k=>k ≤ L.length ∧ ∀ q,q < k → Qce (nth (pln L) q) = true) (fun k=>L.length - k) 0 ⟨Nat.zero_le _,fun q h=>absurd h (Nat.not_lt_zero q)⟩ aSx (fun w h=>h.ent aEt) (fun k hx=>?_)
 obtain ⟨hk1,hk3⟩:=hx
 refine aU9 ?_
 refine sCd rfl (fun h11=>?_) fun h11=>?_
 ·have hk5 : k < L.length:=by omega
  have hnk:=Q0 hk5
  refine aU8 ?_
  refine o_p (Qa rfl rfl rfl Q3 (k) (by omega) (by omega) (Rw.some hs.1 (by omega))) rfl ?_
  refine aU ?_
  refine o_q (Qb rfl rfl Qdd ((hs.1.rdj 1 hk5 rfl))) rfl ?_
  refine aU3 ?_
  refine oOr 9 35 44 rfl
   (fun hg12 _=>by
    refine aU7 ?_
    refine o_p (Qa rfl rfl rfl Q3 (k) (by omega) (by omega) (Rw.some hs.1 (by omega))) rfl ?_
    refine aU3 ?_
    refine o_q (Qb rfl rfl Qci ((hs.1.rdj 2 hk5 rfl))) rfl ?_
    refine aU4 ?_
    exact oJf 9 44)
   (fun hg14 _=>by
    refine aU8 ?_
    exact oJt 9 44) ?_
  refine aU ?_
  refine oOr 9 45 54 rfl
   (fun hg16 _=>by
    refine aU7 ?_
    refine o_p (Qa rfl rfl rfl Q3 (k) (by omega) (by omega) (Rw.some hs.1 (by omega))) rfl ?_
    refine aU3 ?_
    refine o_q (Qb rfl rfl Qdd ((hs.1.rdj 1 hk5 rfl))) rfl ?_
    refine aU ?_
    refine oCq rfl (fun w1 h1=>c139 w1 (nth L k).ea (nth L k).ec (nth L k).es ((hs.es hk5).later h1) (by have hq:=hg16;omega)) ?_
    refine aU2 ?_
    exact oJf 9 54)
   (fun hg18 _=>by
    refine aU8 ?_
    exact oJt 9 54) ?_
  refine aU ?_
  refine sCd rfl (fun h20=>?_) fun h20=>?_
  ·have hz1 : ¬ Qce (nth (pln L) k) = true:=by rw [hnk];have hq:=h20;exact QtW (hq.imp (fun h9=>by show 10 < (nth L k).es.length ∨ 11 < (nth L k).cs.length;omega) id)
   have hbad:=Qs7 (by rw [hnl];exact hk5) hz1
   refine aU4 ?_
   exact rT rfl rfl (fun w' h'=>⟨by rw [hbad];rfl,h'.below⟩)
  have hz1 : Qce (nth (pln L) k) = true:=by rw [hnk];have hq:=h20;exact Qtr (by show (nth L k).es.length ≤ 10;omega) (by show (nth L k).cs.length ≤ 11;omega) hq.2
  refine aT5 ?_
  refine aU2 ?_
  exact sBk (k + 1) (by omega) ⟨by omega,fun q hq=>(Nat.lt_or_ge q k).elim (hk3 q) (fun h9=>by obtain rfl : q = k:=(by omega);exact hz1)⟩
 have hall:=Qst (ns:=pln L) (by rw [hnl];exact hlen) (fun q hq=>hk3 q (by rw [hnl] at hq;omega))
 refine Qi rfl ?_
 refine aU4 ?_
 exact rT rfl rfl (fun w' h'=>⟨by rw [hall];rfl,h'.below⟩)
theorem Qwx : QvL Tryz.prog 211 67 4:=⟨_,Tryz.func211,rfl,rfl,by kernel_rfl,by kernel_rfl⟩
theorem QvB : QvL Tryz.prog 263 28 4:=⟨_,Tryz.func263,rfl,rfl,by kernel_rfl,by kernel_rfl⟩
theorem QwX (w : World) (a : Option Addr) (i n m cap : Nat) (xs news : List Value) (b0 c0 tot2 : Nat) (hw : HS w (fps [.own (.slice a n cap) 27 2 n xs,.blk b0 27 tot2 news]) [.own (.slice a n cap) 27 2 n xs,.blk b0 27 tot2 news] w) (hm0 : 0 < m) (hl : news.length = m * 2) (hn1 : ∀ u ∈ news,u.oneCell' = true) (hx1 : ∀ u ∈ xs,u.oneCell' = true) (hmax : (n + m) * 32 ≤ 140737488355328) (hi : i = n) : Calls Tryz.prog 165 #[.slice a n cap,.int .i64 i,.slice (some ⟨b0,0,none⟩) m c0] w fun en w'=>∃ g : Option Addr × Nat,en = .returned (.slice g.1 (n + m) g.2) ∧ True ∧ HS w (fps [.own (.slice a n cap) 27 2 n xs,.blk b0 27 tot2 news]) [.own (.slice g.1 (n + m) g.2) 27 2 (n + m) (xs.take (i * 2) ++ news ++ xs.drop (i * 2)),.blk b0 27 tot2 news] w':=by
 obtain ⟨_,hnc,hcm,hxl⟩:=hw.own_facts .here
 refine eW3 Tryz.func165 Tryz.ntmps165 hw ?_
 refine aU8 ?_
 refine o_p (Qx _ _ i n rfl rfl Q6 ⟨_,_,rfl,rfl⟩ rfl (by omega) (by omega)) rfl ?_
 refine Qcb ?_
 refine sCd rfl (fun h1=>?_) fun h1=>?_
 ·exfalso;first | omega | (simp at h1;done) | (simp_all;done)
 refine Qgs ?_
 refine sCd rfl (fun h2=>?_) fun h2=>?_
 ·refine aU4 ?_
  refine o_h (Xt news rfl rfl rfl Q6 Tryz.underlying67 ZV rfl aPk (Xo aPk) hl hn1 (by omega) (by simp only [maxLen];omega)) rfl (fun b3 _=>?_)
  refine aU2 ?_
  exact rT rfl rfl (fun w' h'=>⟨(_,_),rfl,trivial,by subst hi;rw [List.take_of_length_le (by omega),List.drop_eq_nil_of_le (by omega),List.append_nil];exact h'.ent aEt⟩)
 exfalso;first | omega | (simp at h2;done) | (simp_all;done)
theorem QxR (w : World) (gg i n m cap : Nat) (xs news : List Value) (b0 c0 tot2 : Nat) (M : List Nat) (hw : HS w M [.blk gg 27 (cap * 2) xs,.blk b0 27 tot2 news] w) (hnc : n ≤ cap) (hcm : cap ≤ maxLen) (hxl : xs.length = n * 2) (hm0 : 0 < m) (hl : news.length = m * 2) (hn1 : ∀ u ∈ news,u.oneCell' = true) (hx1 : ∀ u ∈ xs,u.oneCell' = true) (hmax : (n + m) * 32 ≤ 140737488355328) (hi : i < n) : Calls Tryz.prog 165 #[.slice (some ⟨gg,0,none⟩) n cap,.int .i64 i,.slice (some ⟨b0,0,none⟩) m c0] w fun en w'=>∃ g : Option Addr × Nat,en = .returned (.slice g.1 (n + m) g.2) ∧ True ∧ HS w M [.own (.slice g.1 (n + m) g.2) 27 2 (n + m) (xs.take (i * 2) ++ news ++ xs.drop (i * 2)),.blk b0 27 tot2 news] w':=by
 have ht2:=(hw.blk_get (.there .here)).len_le
 have hcl : (cut xs 0 (i * 2)).length = i * 2:=XE _ _ _ (by omega)
 refine eW3 Tryz.func165 Tryz.ntmps165 hw ?_
 refine aU8 ?_
 refine o_p (Qx _ _ i n rfl rfl Q6 ⟨_,_,rfl,rfl⟩ rfl (by omega) (by omega)) rfl ?_
 refine Qcb ?_
 refine sCd rfl (fun h1=>?_) fun h1=>?_
 ·exfalso;first | omega | (simp at h1;done) | (simp_all;done)
 refine Qgs ?_
 refine sCd rfl (fun h2=>?_) fun h2=>?_
 ·exfalso;first | omega | (simp at h2;done) | (simp_all;done)
 refine aT7 ?_
 refine aU ?_
 refine o_p (Qq6 rfl rfl Tryz.underlying67) rfl ?_
 refine aU2 ?_
 refine sCd rfl (fun h3=>?_) fun h3=>?_
 ·refine aU4 ?_
  refine o_p (Qx _ _ 0 i rfl rfl Q6 rfl ⟨_,_,rfl,rfl⟩ (by omega) (by omega)) rfl ?_
  refine Qk (show _ = Value.slice (some ⟨gg,0,none⟩) (i) (cap) from by rw [Zr] <;> (congr 1 <;> omega)) ?_
  refine aT3 ?_
  refine aT2 ?_
  refine Qk (show _ = Value.int .i64 ((n + m - i : Nat) : Int) from by first | rfl | (congr 1 <;> first | rfl | omega)) ?_
  refine o_h (Qak (m:=n + m - i) (olds:=cut xs 0 (i * 2)) rfl rfl rfl Q6 YN ZV rfl (by decide) (by omega) (by omega) (ZX 0 (i * 2) (fun _=>rfl) aPk) hcl (by omega) (by simp only [maxLen];omega)) rfl (fun ⟨b4,c5⟩ ⟨h6,k7⟩=>?_)
  refine Qk (show _ = Value.slice (some ⟨b4,0,none⟩) (n + m) c5 from by first | rfl | (congr 1 <;> first | rfl | omega)) ?_
  refine aU3 ?_
  refine Ql (L':=[(0,_),(1,_),(2,_),(6,_),(7,_),(8,_),(9,_)]) aSx (fun _ h=>h) ?_
  refine aU3 ?_
  refine o_p (Qx _ _ i (n + m) rfl rfl Q6 ⟨_,_,rfl,rfl⟩ rfl (by omega) (by omega)) rfl ?_
  refine Qk (show _ = Value.slice (some ⟨b4,i * 2,none⟩) (n + m - i) (c5 - i) from by rw [XP (by omega)] <;> (congr 1 <;> omega)) ?_
  refine aU ?_
  refine o_h (QbT m news rfl rfl rfl Q6 aPt (by omega) hl (fun _=>rfl) (by simp only [QE,List.length_append,Qf];omega) (Xo aPk) hn1) rfl (fun _ _=>?_)
  refine aU2 ?_
  refine Qz [8] QN ?_
  refine dP 0 ?_
  refine dP 1 ?_
  refine dP 2 ?_
  refine dP 3 ?_
  try refine dWr ?_
  refine dV 4 rfl (Qx _ _ (i + m) (n + m) rfl rfl Q6 ⟨_,_,rfl,(by omega)⟩ rfl (by omega) (by omega)) ?_
  refine Qy (show _ = Value.slice (some ⟨b4,(i + m) * 2,none⟩) (n - i) (c5 - (i + m)) from by rw [XP (by omega)] <;> (congr 1 <;> omega)) ?_
  refine dP 5 ?_
  refine dP 6 ?_
  refine dV 7 rfl (Qx _ _ i n rfl rfl Q6 ⟨_,_,rfl,rfl⟩ rfl (by omega) (by omega)) ?_
  refine Qy (show _ = Value.slice (some ⟨gg,i * 2,none⟩) (n - i) (cap - i) from by rw [XP (by omega)] <;> (congr 1 <;> omega)) ?_
  refine dH 8 rfl (QbT (n - i) (cut xs (i * 2) ((n - i) * 2)) rfl rfl rfl Q6 aPt (by omega) (XE _ _ _ (by omega)) (fun _=>rfl) (by rw [XE _ _ _ (by omega)];simp only [QE,List.length_append,Qf];omega) (ZX (i * 2) ((n - i) * 2) (fun _=>rfl) aPk) (Qjb hx1 _ _)) (fun _ _=>?_)
  refine dTu [] ?_
  refine dNi ?_
  refine aU5 ?_
  exact rT rfl rfl (fun w' h'=>⟨(some ⟨b4,0,none⟩,c5),rfl,trivial,(HS.to_own (n:=n + m) (xs:=xs.take (i * 2) ++ news ++ xs.drop (i * 2)) (ds:=[]) aPk h' (by have hq:=Qkm (xs:=xs) (news:=news) (z:=XK [.string (bs []),.string (bs [])] ((n + m - i) * 2)) (p:=i * 2) (q:=m * 2) (N:=n * 2) hxl (by omega) hl (by rw [QE];omega);rw [List.append_nil];rw [show (i + m) * 2 = i * 2 + m * 2 from by omega,show (n - i) * 2 = n * 2 - i * 2 from by omega];exact hq) (by simp only [List.length_append,List.length_take,List.length_drop];omega) (by omega) (by omega)).ent aEt⟩)
 refine aT7 ?_
 refine o_p (Qx _ _ 0 (n + m) rfl rfl Q6 rfl ⟨_,_,rfl,(by omega)⟩ (by omega) (by omega)) rfl ?_
 refine Qk (show _ = Value.slice (some ⟨gg,0,none⟩) (n + m) cap from by rw [Zr] <;> (congr 1 <;> omega)) ?_
 refine o_ex (fun w h=>HS.blk_full (b:=gg) aPk h) fun ds=>?_
 refine Qja (fun w h=>h.1) fun hds=>?_
 refine XA (fun w h=>h.2) ?_
 refine QlS ?_
 refine o_p (Qx _ _ (i + m) (n + m) rfl rfl Q6 ⟨_,_,rfl,(by omega)⟩ rfl (by omega) (by omega)) rfl ?_
 refine Qk (show _ = Value.slice (some ⟨gg,(i + m) * 2,none⟩) (n - i) (cap - (i + m)) from by rw [XP (by omega)] <;> (congr 1 <;> omega)) ?_
 refine o_q (Qgj rfl Qwx rfl rfl Q6 (hp:=aPk) (hp':=aPk) (by decide) (by omega) (by omega)) rfl ?_
 refine aU2 ?_
 refine sCd rfl (fun h8=>?_) fun h8=>?_
 ·refine aU ?_
  refine Ql (L':=[(0,_),(1,_),(2,_),(6,_),(7,_),(8,_)]) aSx (fun _ h=>h) ?_
  refine Qz [8] QN ?_
  refine dP 0 ?_
  refine dP 1 ?_
  refine dP 2 ?_
  refine dP 3 ?_
  try refine dWr ?_
  refine dV 4 rfl (Qx _ _ (i + m) (n + m) rfl rfl Q6 ⟨_,_,rfl,(by omega)⟩ rfl (by omega) (by omega)) ?_
  refine Qy (show _ = Value.slice (some ⟨gg,(i + m) * 2,none⟩) (n - i) (cap - (i + m)) from by rw [XP (by omega)] <;> (congr 1 <;> omega)) ?_
  refine dP 5 ?_
  refine dP 6 ?_
  refine dV 7 rfl (Qx _ _ i (n + m) rfl rfl Q6 ⟨_,_,rfl,rfl⟩ rfl (by omega) (by omega)) ?_
  refine Qy (show _ = Value.slice (some ⟨gg,i * 2,none⟩) (n + m - i) (cap - i) from by rw [XP (by omega)] <;> (congr 1 <;> omega)) ?_
  refine dH 8 rfl (QbT (n - i) (cut (xs ++ ds) (i * 2) ((n - i) * 2)) rfl rfl rfl Q6 aPt (by omega) (XE _ _ _ (by simp only [QE,List.length_append,Qf];omega)) (fun _=>rfl) (by rw [XE _ _ _ (by simp only [QE,List.length_append,Qf];omega)];simp only [QE,List.length_append,Qf];omega) (ZX (i * 2) ((n - i) * 2) (fun _=>rfl) aPk) (QmO hx1 (by omega))) (fun _ _=>?_)
  refine dTu [] ?_
  refine dNi ?_
  refine aU4 ?_
  refine o_p (Qx _ _ i (n + m) rfl rfl Q6 ⟨_,_,rfl,rfl⟩ rfl (by omega) (by omega)) rfl ?_
  refine Qk (show _ = Value.slice (some ⟨gg,i * 2,none⟩) (n + m - i) (cap - i) from by rw [XP (by omega)] <;> (congr 1 <;> omega)) ?_
  refine aU ?_
  refine o_h (QbT m news rfl rfl rfl Q6 aPt (by omega) hl (fun _=>rfl) (by simp only [QE,List.length_append,Qf];omega) (Xo aPk) hn1) rfl (fun _ _=>?_)
  refine aU6 ?_
  exact rT rfl rfl (fun w' h'=>⟨(some ⟨gg,0,none⟩,cap),rfl,trivial,(HS.to_own (n:=n + m) (xs:=xs.take (i * 2) ++ news ++ xs.drop (i * 2)) (ds:=ds.drop (m * 2)) aPk h' (by have hq:=QpE (xs:=xs) (ds:=ds) (news:=news) (p:=i * 2) (q:=m * 2) (N:=n * 2) hxl (by omega) hl (by omega);rw [show (i + m) * 2 = i * 2 + m * 2 from by omega,show (n - i) * 2 = n * 2 - i * 2 from by omega];exact hq) (by simp only [List.length_append,List.length_take,List.length_drop];omega) (by omega) (by omega)).ent aEt⟩)
 exfalso;first | omega | (simp at h8;done) | (simp_all;done)
theorem c165 (w : World) (a : Option Addr) (i n m cap : Nat) (xs news : List Value) (b0 c0 tot2 : Nat) (hw : HS w (fps [.own (.slice a n cap) 27 2 n xs,.blk b0 27 tot2 news]) [.own (.slice a n cap) 27 2 n xs,.blk b0 27 tot2 news] w) (hm0 : 0 < m) (hl : news.length = m * 2) (hn1 : ∀ u ∈ news,u.oneCell' = true) (hx1 : ∀ u ∈ xs,u.oneCell' = true) (hmax : (n + m) * 32 ≤ 140737488355328) (hi : i ≤ n) : Calls Tryz.prog 165 #[.slice a n cap,.int .i64 i,.slice (some ⟨b0,0,none⟩) m c0] w fun en w'=>∃ g : Option Addr × Nat,en = .returned (.slice g.1 (n + m) g.2) ∧ True ∧ HS w (fps [.own (.slice a n cap) 27 2 n xs,.blk b0 27 tot2 news]) [.own (.slice g.1 (n + m) g.2) 27 2 (n + m) (xs.take (i * 2) ++ news ++ xs.drop (i * 2)),.blk b0 27 tot2 news] w':=by
  rcases Nat.lt_or_ge i n with h | h
  · obtain ⟨gg,rfl,_,hnc,hcm,hxl,hb⟩:=hw.own_blk (by omega) .here;exact QxR w gg i n m cap xs news b0 c0 tot2 _ hb hnc hcm hxl hm0 hl hn1 hx1 hmax h
  · exact QwX w a i n m cap xs news b0 c0 tot2 hw hm0 hl hn1 hx1 hmax (by omega)
theorem Qxq (w : World) (a : Option Addr) (i n m cap : Nat) (xs news : List Value) (b0 c0 tot2 : Nat) (hw : HS w (fps [.own (.slice a n cap) 3 1 n xs,.blk b0 3 tot2 news]) [.own (.slice a n cap) 3 1 n xs,.blk b0 3 tot2 news] w) (hm0 : 0 < m) (hl : news.length = m * 1) (hn1 : ∀ u ∈ news,u.oneCell' = true) (hx1 : ∀ u ∈ xs,u.oneCell' = true) (hmax : (n + m) * 8 ≤ 140737488355328) (hi : i = n) : Calls Tryz.prog 249 #[.slice a n cap,.int .i64 i,.slice (some ⟨b0,0,none⟩) m c0] w fun en w'=>∃ g : Option Addr × Nat,en = .returned (.slice g.1 (n + m) g.2) ∧ True ∧ HS w (fps [.own (.slice a n cap) 3 1 n xs,.blk b0 3 tot2 news]) [.own (.slice g.1 (n + m) g.2) 3 1 (n + m) (xs.take (i * 1) ++ news ++ xs.drop (i * 1)),.blk b0 3 tot2 news] w':=by
 obtain ⟨_,hnc,hcm,hxl⟩:=hw.own_facts .here
 refine eW3 Tryz.func249 Tryz.ntmps249 hw ?_
 refine aU8 ?_
 refine o_p (Qx _ _ i n rfl rfl Xa ⟨_,_,rfl,rfl⟩ rfl (by omega) (by omega)) rfl ?_
 refine Qcb ?_
 refine sCd rfl (fun h1=>?_) fun h1=>?_
 ·exfalso;first | omega | (simp at h1;done) | (simp_all;done)
 refine Qgs ?_
 refine sCd rfl (fun h2=>?_) fun h2=>?_
 ·refine aU4 ?_
  refine o_h (Xt news rfl rfl rfl Xa Tryz.underlying28 Qew rfl aPk (Xo aPk) hl hn1 (by omega) (by simp only [maxLen];omega)) rfl (fun b3 _=>?_)
  refine aU2 ?_
  exact rT rfl rfl (fun w' h'=>⟨(_,_),rfl,trivial,by subst hi;rw [List.take_of_length_le (by omega),List.drop_eq_nil_of_le (by omega),List.append_nil];exact h'.ent aEt⟩)
 exfalso;first | omega | (simp at h2;done) | (simp_all;done)
theorem Qxp (w : World) (gg i n m cap : Nat) (xs news : List Value) (b0 c0 tot2 : Nat) (M : List Nat) (hw : HS w M [.blk gg 3 (cap * 1) xs,.blk b0 3 tot2 news] w) (hnc : n ≤ cap) (hcm : cap ≤ maxLen) (hxl : xs.length = n * 1) (hm0 : 0 < m) (hl : news.length = m * 1) (hn1 : ∀ u ∈ news,u.oneCell' = true) (hx1 : ∀ u ∈ xs,u.oneCell' = true) (hmax : (n + m) * 8 ≤ 140737488355328) (hi : i < n) : Calls Tryz.prog 249 #[.slice (some ⟨gg,0,none⟩) n cap,.int .i64 i,.slice (some ⟨b0,0,none⟩) m c0] w fun en w'=>∃ g : Option Addr × Nat,en = .returned (.slice g.1 (n + m) g.2) ∧ True ∧ HS w M [.own (.slice g.1 (n + m) g.2) 3 1 (n + m) (xs.take (i * 1) ++ news ++ xs.drop (i * 1)),.blk b0 3 tot2 news] w':=by
 have ht2:=(hw.blk_get (.there .here)).len_le
 have hcl : (cut xs 0 (i * 1)).length = i * 1:=XE _ _ _ (by omega)
 refine eW3 Tryz.func249 Tryz.ntmps249 hw ?_
 refine aU8 ?_
 refine o_p (Qx _ _ i n rfl rfl Xa ⟨_,_,rfl,rfl⟩ rfl (by omega) (by omega)) rfl ?_
 refine Qcb ?_
 refine sCd rfl (fun h1=>?_) fun h1=>?_
 ·exfalso;first | omega | (simp at h1;done) | (simp_all;done)
 refine Qgs ?_
 refine sCd rfl (fun h2=>?_) fun h2=>?_
 ·exfalso;first | omega | (simp at h2;done) | (simp_all;done)
 refine aT7 ?_
 refine aU ?_
 refine o_p (Qq6 rfl rfl Tryz.underlying28) rfl ?_
 refine aU2 ?_
 refine sCd rfl (fun h3=>?_) fun h3=>?_
 ·refine aU4 ?_
  refine o_p (Qx _ _ 0 i rfl rfl Xa rfl ⟨_,_,rfl,rfl⟩ (by omega) (by omega)) rfl ?_
  refine Qk (show _ = Value.slice (some ⟨gg,0,none⟩) (i) (cap) from by rw [Zr] <;> (congr 1 <;> omega)) ?_
  refine aT3 ?_
  refine aT2 ?_
  refine Qk (show _ = Value.int .i64 ((n + m - i : Nat) : Int) from by first | rfl | (congr 1 <;> first | rfl | omega)) ?_
  refine o_h (Qak (m:=n + m - i) (olds:=cut xs 0 (i * 1)) rfl rfl rfl Xa YN Qew rfl (by decide) (by omega) (by omega) (ZX 0 (i * 1) (fun _=>rfl) aPk) hcl (by omega) (by simp only [maxLen];omega)) rfl (fun ⟨b4,c5⟩ ⟨h6,k7⟩=>?_)
  refine Qk (show _ = Value.slice (some ⟨b4,0,none⟩) (n + m) c5 from by first | rfl | (congr 1 <;> first | rfl | omega)) ?_
  refine aU3 ?_
  refine Ql (L':=[(0,_),(1,_),(2,_),(6,_),(7,_),(8,_),(9,_)]) aSx (fun _ h=>h) ?_
  refine aU3 ?_
  refine o_p (Qx _ _ i (n + m) rfl rfl Xa ⟨_,_,rfl,rfl⟩ rfl (by omega) (by omega)) rfl ?_
  refine Qk (show _ = Value.slice (some ⟨b4,i * 1,none⟩) (n + m - i) (c5 - i) from by rw [XP (by omega)] <;> (congr 1 <;> omega)) ?_
  refine aU ?_
  refine o_h (QbT m news rfl rfl rfl Xa aPt (by omega) hl (fun _=>rfl) (by simp only [QE,List.length_append,Qf];omega) (Xo aPk) hn1) rfl (fun _ _=>?_)
  refine aU2 ?_
  refine Qz [8] QN ?_
  refine dP 0 ?_
  refine dP 1 ?_
  refine dP 2 ?_
  refine dP 3 ?_
  try refine dWr ?_
  refine dV 4 rfl (Qx _ _ (i + m) (n + m) rfl rfl Xa ⟨_,_,rfl,(by omega)⟩ rfl (by omega) (by omega)) ?_
  refine Qy (show _ = Value.slice (some ⟨b4,(i + m) * 1,none⟩) (n - i) (c5 - (i + m)) from by rw [XP (by omega)] <;> (congr 1 <;> omega)) ?_
  refine dP 5 ?_
  refine dP 6 ?_
  refine dV 7 rfl (Qx _ _ i n rfl rfl Xa ⟨_,_,rfl,rfl⟩ rfl (by omega) (by omega)) ?_
  refine Qy (show _ = Value.slice (some ⟨gg,i * 1,none⟩) (n - i) (cap - i) from by rw [XP (by omega)] <;> (congr 1 <;> omega)) ?_
  refine dH 8 rfl (QbT (n - i) (cut xs (i * 1) ((n - i) * 1)) rfl rfl rfl Xa aPt (by omega) (XE _ _ _ (by omega)) (fun _=>rfl) (by rw [XE _ _ _ (by omega)];simp only [QE,List.length_append,Qf];omega) (ZX (i * 1) ((n - i) * 1) (fun _=>rfl) aPk) (Qjb hx1 _ _)) (fun _ _=>?_)
  refine dTu [] ?_
  refine dNi ?_
  refine aU5 ?_
  exact rT rfl rfl (fun w' h'=>⟨(some ⟨b4,0,none⟩,c5),rfl,trivial,(HS.to_own (n:=n + m) (xs:=xs.take (i * 1) ++ news ++ xs.drop (i * 1)) (ds:=[]) aPk h' (by have hq:=Qkm (xs:=xs) (news:=news) (z:=XK [.int .i64 0] ((n + m - i) * 1)) (p:=i * 1) (q:=m * 1) (N:=n * 1) hxl (by omega) hl (by rw [QE];omega);rw [List.append_nil];rw [show (i + m) * 1 = i * 1 + m * 1 from by omega,show (n - i) * 1 = n * 1 - i * 1 from by omega];exact hq) (by simp only [List.length_append,List.length_take,List.length_drop];omega) (by omega) (by omega)).ent aEt⟩)
 refine aT7 ?_
 refine o_p (Qx _ _ 0 (n + m) rfl rfl Xa rfl ⟨_,_,rfl,(by omega)⟩ (by omega) (by omega)) rfl ?_
 refine Qk (show _ = Value.slice (some ⟨gg,0,none⟩) (n + m) cap from by rw [Zr] <;> (congr 1 <;> omega)) ?_
 refine o_ex (fun w h=>HS.blk_full (b:=gg) aPk h) fun ds=>?_
 refine Qja (fun w h=>h.1) fun hds=>?_
 refine XA (fun w h=>h.2) ?_
 refine QlS ?_
 refine o_p (Qx _ _ (i + m) (n + m) rfl rfl Xa ⟨_,_,rfl,(by omega)⟩ rfl (by omega) (by omega)) rfl ?_
 refine Qk (show _ = Value.slice (some ⟨gg,(i + m) * 1,none⟩) (n - i) (cap - (i + m)) from by rw [XP (by omega)] <;> (congr 1 <;> omega)) ?_
 refine o_q (Qgj rfl QvB rfl rfl Xa (hp:=aPk) (hp':=aPk) (by decide) (by omega) (by omega)) rfl ?_
 refine aU2 ?_
 refine sCd rfl (fun h8=>?_) fun h8=>?_
 ·refine aU ?_
  refine Ql (L':=[(0,_),(1,_),(2,_),(6,_),(7,_),(8,_)]) aSx (fun _ h=>h) ?_
  refine Qz [8] QN ?_
  refine dP 0 ?_
  refine dP 1 ?_
  refine dP 2 ?_
  refine dP 3 ?_
  try refine dWr ?_
  refine dV 4 rfl (Qx _ _ (i + m) (n + m) rfl rfl Xa ⟨_,_,rfl,(by omega)⟩ rfl (by omega) (by omega)) ?_
  refine Qy (show _ = Value.slice (some ⟨gg,(i + m) * 1,none⟩) (n - i) (cap - (i + m)) from by rw [XP (by omega)] <;> (congr 1 <;> omega)) ?_
  refine dP 5 ?_
  refine dP 6 ?_
  refine dV 7 rfl (Qx _ _ i (n + m) rfl rfl Xa ⟨_,_,rfl,rfl⟩ rfl (by omega) (by omega)) ?_
  refine Qy (show _ = Value.slice (some ⟨gg,i * 1,none⟩) (n + m - i) (cap - i) from by rw [XP (by omega)] <;> (congr 1 <;> omega)) ?_
  refine dH 8 rfl (QbT (n - i) (cut (xs ++ ds) (i * 1) ((n - i) * 1)) rfl rfl rfl Xa aPt (by omega) (XE _ _ _ (by simp only [QE,List.length_append,Qf];omega)) (fun _=>rfl) (by rw [XE _ _ _ (by simp only [QE,List.length_append,Qf];omega)];simp only [QE,List.length_append,Qf];omega) (ZX (i * 1) ((n - i) * 1) (fun _=>rfl) aPk) (QmO hx1 (by omega))) (fun _ _=>?_)
  refine dTu [] ?_
  refine dNi ?_
  refine aU4 ?_
  refine o_p (Qx _ _ i (n + m) rfl rfl Xa ⟨_,_,rfl,rfl⟩ rfl (by omega) (by omega)) rfl ?_
  refine Qk (show _ = Value.slice (some ⟨gg,i * 1,none⟩) (n + m - i) (cap - i) from by rw [XP (by omega)] <;> (congr 1 <;> omega)) ?_
  refine aU ?_
  refine o_h (QbT m news rfl rfl rfl Xa aPt (by omega) hl (fun _=>rfl) (by simp only [QE,List.length_append,Qf];omega) (Xo aPk) hn1) rfl (fun _ _=>?_)
  refine aU6 ?_
  exact rT rfl rfl (fun w' h'=>⟨(some ⟨gg,0,none⟩,cap),rfl,trivial,(HS.to_own (n:=n + m) (xs:=xs.take (i * 1) ++ news ++ xs.drop (i * 1)) (ds:=ds.drop (m * 1)) aPk h' (by have hq:=QpE (xs:=xs) (ds:=ds) (news:=news) (p:=i * 1) (q:=m * 1) (N:=n * 1) hxl (by omega) hl (by omega);rw [show (i + m) * 1 = i * 1 + m * 1 from by omega,show (n - i) * 1 = n * 1 - i * 1 from by omega];exact hq) (by simp only [List.length_append,List.length_take,List.length_drop];omega) (by omega) (by omega)).ent aEt⟩)
 exfalso;first | omega | (simp at h8;done) | (simp_all;done)
theorem c249 (w : World) (a : Option Addr) (i n m cap : Nat) (xs news : List Value) (b0 c0 tot2 : Nat) (hw : HS w (fps [.own (.slice a n cap) 3 1 n xs,.blk b0 3 tot2 news]) [.own (.slice a n cap) 3 1 n xs,.blk b0 3 tot2 news] w) (hm0 : 0 < m) (hl : news.length = m * 1) (hn1 : ∀ u ∈ news,u.oneCell' = true) (hx1 : ∀ u ∈ xs,u.oneCell' = true) (hmax : (n + m) * 8 ≤ 140737488355328) (hi : i ≤ n) : Calls Tryz.prog 249 #[.slice a n cap,.int .i64 i,.slice (some ⟨b0,0,none⟩) m c0] w fun en w'=>∃ g : Option Addr × Nat,en = .returned (.slice g.1 (n + m) g.2) ∧ True ∧ HS w (fps [.own (.slice a n cap) 3 1 n xs,.blk b0 3 tot2 news]) [.own (.slice g.1 (n + m) g.2) 3 1 (n + m) (xs.take (i * 1) ++ news ++ xs.drop (i * 1)),.blk b0 3 tot2 news] w':=by
  rcases Nat.lt_or_ge i n with h | h
  · obtain ⟨gg,rfl,_,hnc,hcm,hxl,hb⟩:=hw.own_blk (by omega) .here;exact Qxp w gg i n m cap xs news b0 c0 tot2 _ hb hnc hcm hxl hm0 hl hn1 hx1 hmax h
  · exact Qxq w a i n m cap xs news b0 c0 tot2 hw hm0 hl hn1 hx1 hmax (by omega)
end Go.Proofs
namespace Gx
open Go Go.RowKit
def Qe5 (cap : Nat) (l : List UInt8) : List Value:=l.map bv ++ List.replicate (cap - l.length) (bv 0)
def Qxe (a : Option Addr) (cap : Nat) (l : List UInt8) (w : World) : Prop:=
 (a = none ∧ cap = 0 ∧ l = []) ∨ ∃ g,a = some ⟨g,0,none⟩ ∧ l.length ≤ cap ∧ cap ≤ maxLen ∧ QY g u8T cap (Qe5 cap l) w
theorem Qkt {cap : Nat} {l : List UInt8} (h : l.length ≤ cap) : (Qe5 cap l).length = cap:=by grind [Qe5]
def HA.byz (a : Option Addr) (cap : Nat) (l : List UInt8) : HA:=⟨(Value.slice a l.length cap).ownBlock.toList,Qxe a cap l,fun w w' h ha=>by
  obtain ⟨h1,h2,h3⟩ | ⟨g,rfl,h2,h3,hb⟩:=ha
  ·exact .inl ⟨h1,h2,h3⟩
  ·exact .inr ⟨g,rfl,h2,h3,QY.loc (h g (by simp [Value.ownBlock])) hb⟩⟩
theorem HA.fp_byz (a : Option Addr) (cap : Nat) (l : List UInt8) : (HA.byz a cap l).fp = (Value.slice a l.length cap).ownBlock.toList:=rfl
def Qcp (a : Option Addr) (cap : Nat) (g : Option Addr × Nat) (n : Nat) : Prop:=n ≤ cap → g.1 = a ∧ g.2 = cap
theorem Qcp.trans {a : Option Addr} {cap : Nat} {g g' : Option Addr × Nat} {n m : Nat} (h : Qcp a cap g n) (h' : Qcp g.1 g.2 g' m) (hle : n ≤ m) : Qcp a cap g' m:=fun hm=>by
 obtain ⟨e1,e2⟩:=h (Nat.le_trans hle hm);obtain ⟨e3,e4⟩:=h' (by rw [e2];exact hm)
 grind
section
variable {w0 w : World} {M : List Nat} {As As' : List HA}
theorem HS.byz_nil (h : HS w0 M As w) : HS w0 M (.byz none 0 [] :: As) w:=
 ⟨h.os,h.tape,h.output,h.size,h.old,fun A hA=>by
  rcases List.mem_cons.1 hA with rfl | hA
  ·exact .inl ⟨rfl,rfl,rfl⟩
  ·exact h.ok A hA,fun A hA b hb=>by
  rcases List.mem_cons.1 hA with rfl | hA
  ·simp [HA.fp_byz,Value.ownBlock] at hb
  ·exact h.lt A hA b hb,.cons (fun B _ b hb=>by simp [HA.fp_byz,Value.ownBlock] at hb) h.sep⟩
theorem HS.byz_blk {g cap : Nat} {l : List UInt8} {cs : List Value} (hp : QM As (.blk g u8T cap cs) As') (h : HS w0 M As w) (hl : l.length ≤ cap) (hc : cap ≤ maxLen) (hcs : cs = Qe5 cap l) : HS w0 M (.byz (some ⟨g,0,none⟩) cap l :: As') w:=by
 subst hcs;exact (h.pick hp).turn (fun b hb=>by simpa [HA.fp_byz,HA.fp_blk,Value.ownBlock] using hb) fun hb=>.inr ⟨g,rfl,hl,hc,hb⟩
theorem HS.blk_byz {a : Option Addr} {cap : Nat} {l : List UInt8} (hp : QM As (.byz a cap l) As') (h : HS w0 M As w) (h0 : 0 < cap) : ∃ g,a = some ⟨g,0,none⟩ ∧ l.length ≤ cap ∧ cap ≤ maxLen ∧ HS w0 M (.blk g u8T cap (Qe5 cap l) :: As') w:=by
 have h1:=h.pick hp;rcases h1.head with ⟨_,h2,_⟩ | ⟨g,rfl,h2,h3,hb⟩
 ·omega
 ·exact ⟨g,rfl,h2,h3,h1.turn (fun b hb=>by simpa [HA.fp_byz,HA.fp_blk,Value.ownBlock] using hb) fun _=>hb⟩
theorem HS.byz_own {a : Option Addr} {cap : Nat} {l : List UInt8} (hp : QM As (.byz a cap l) As') (h : HS w0 M As w) : HS w0 M (.own (.slice a l.length cap) u8T 1 l.length (l.map bv) :: As') w:=by
 have h1:=h.pick hp;refine h1.turn (fun b hb=>hb) fun ho=>⟨by simp,?_⟩;rcases ho with ⟨rfl,rfl,rfl⟩ | ⟨g,rfl,h2,h3,hb⟩
 ·grind
 ·refine .inr ⟨g,cap,rfl,h2,h3,?_⟩;rw [Nat.mul_one];exact hb.less
theorem HS.vl_byz {a : Option Addr} {cap : Nat} {l : List UInt8} (h : HS w0 M As w) (hp : QM As (.byz a cap l) As') : Vl w a (l.map bv):=(h.byz_own hp).vl_own .here
end
theorem Qfs (A : List Value) : ∀ (vs B : List Value),vs.length ≤ B.length → Qh (A ++ B) A.length vs = A ++ (vs ++ B.drop vs.length)
 | [],B,_=>by simp [Qh]
 | v :: vs,[],h=>by simp at h
 | v :: vs,b :: B,h=>by
  rw [Qh,List.set_append_right _ _ (Nat.le_refl _),Nat.sub_self,List.set_cons_zero,show A ++ v :: B = (A ++ [v]) ++ B by simp,show A.length + 1 = (A ++ [v]).length by simp,Qfs (A ++ [v]) vs B (by simpa using h)];simp
theorem QsQ {cap : Nat} {l m : List UInt8} (h : (l ++ m).length ≤ cap) : Qh (Qe5 cap l) l.length (m.map bv) = Qe5 cap (l ++ m):=by
 rw [List.length_append] at h;unfold Qe5;have e:=Qfs (l.map bv) (m.map bv) (List.replicate (cap - l.length) (bv 0)) (by simp;omega)
 grind
theorem Qj5 (n : Nat) : Builtin.zeroCells #[Value.int .u8 0] n = (List.replicate n (bv 0)).toArray:=by grind [Qai,bv,Qcc]
theorem Qm3 (l : List UInt8) : ∀ u ∈ l.map bv,u.oneCell' = true:=fun u hu=>by
 obtain ⟨b,_,rfl⟩:=List.mem_map.1 hu;rfl
theorem Qgv {P : Program} {t xt ty by' : Nat} {a : Option Addr} {cap : Nat} {x : Value} {l m : List UInt8} {w w0 : World} {M : List Nat} {As As' : List HA} (ht : tsl P t = some (u8T,1,by')) (hxt : P.underlying xt = some .string ∨ ∃ e',P.underlying xt = some (.slice e')) (hz : QS P u8T = some [.int .u8 0])
  (hw : HS w0 M As w) (hp : QM As (.byz a cap l) As') (hlen : (Builtin.lenOf x).run P w = .ok m.length w) (hfc : (Builtin.firstCells 1 m.length x).run P w = .ok (m.map bv).toArray w) (hfc' : (Builtin.firstCells 1 m.length x).run P w.drew = .ok (m.map bv).toArray w.drew)
  (hroom : (l.length + m.length) * by' ≤ 140737488355328) (hmax : l.length + m.length ≤ maxLen) :
  ∃ a' cap' w',(Builtin.append_ #[t,xt] ty #[.slice a l.length cap,x]).run P w = .ok (.slice a' (l ++ m).length cap') w' ∧ Qcp a cap (a',cap') (l ++ m).length ∧ HS w0 M (.byz a' cap' (l ++ m) :: As') w':=by
 obtain ⟨hu,inf,hi,hs1,hs2⟩:=Xd ht;obtain ⟨inf',zv,h4,h5,h6⟩:=YE hz;rw [hi] at h4;injection h4 with h4
 subst h4;subst hs2;have hzv : zv.cells = #[Value.int .u8 0]:=Array.ext' (by rw [h6]);have hpk:=hw.pick hp;have hlm : (l ++ m).length = l.length + m.length:=List.length_append;have hmx : ((l.length + m.length : Nat) : Int) ≤ 9223372036854775807:=by simp only [maxLen] at hmax;omega
 rw [← hs1] at hfc hfc'
 have grow : cap < l.length + m.length → (Builtin.firstCells inf.size l.length (.slice a l.length cap)).run P w.drew = .ok (l.map bv).toArray w.drew →
   ∃ a' cap' w',(Builtin.append_ #[t,xt] ty #[.slice a l.length cap,x]).run P w = .ok (.slice a' (l ++ m).length cap') w' ∧ Qcp a cap (a',cap') (l ++ m).length ∧ HS w0 M (.byz a' cap' (l ++ m) :: As') w':=by
  intro hcap hold;have hfit:=growslice_fits hcap hroom;have hge:=grownCap_ge w (l.length + m.length) cap u8T;have hle:=grownCap_le_maxLen w (l.length + m.length) cap u8T hmax;refine ⟨some ⟨w.heap.size,0,none⟩,grownCap w (l.length + m.length) cap u8T,w.drew.alloc (.cells ((l.map bv).toArray ++ (m.map bv).toArray ++ Builtin.zeroCells zv.cells (grownCap w (l.length + m.length) cap u8T - (l.length + m.length))) u8T),?_,fun h=>by omega,?_⟩
  ·rw [hlm];exact QkO hu hxt hi h5 hlen hfc' hold hcap hmx hfit
  ·generalize grownCap w (l.length + m.length) cap u8T = N at *;refine ((hw.drew.pick hp).tail).alloc _ _ rfl (.inr ⟨_,rfl,by omega,hle,_,_,heap_alloc_new _ _,?_,?_,fun i hi=>?_,Nat.le_refl _,fun _ _ h=>absurd h (Nat.not_lt_zero _)⟩)
   ·rw [hzv,Qj5];simp only [Array.size_append,List.size_toArray,List.length_map,List.length_replicate];omega
   ·rw [Qkt (by omega)];exact Nat.le_refl _
   ·rw [hzv,Qj5]
    have : Qe5 N (l ++ m) = l.map bv ++ m.map bv ++ List.replicate (N - (l.length + m.length)) (bv 0):=by
     unfold Qe5;rw [List.map_append,hlm]
    rw [this,← Array.getElem?_toList];simp only [Array.toList_append,List.append_assoc]
 rcases hpk.head with ⟨rfl,rfl,rfl⟩ | ⟨g,rfl,h2,h3,hb⟩
 ·rcases Nat.eq_zero_or_pos m.length with hm | hm
  ·have hm0 : m = []:=List.eq_nil_of_length_eq_zero hm;subst hm0;exact ⟨none,0,w,QgX hu hxt hi hlen (by simpa using hfc),fun _=>⟨rfl,rfl⟩,hpk⟩
  ·exact grow (by simp only [List.length_nil];omega) (by simp [Builtin.firstCells])
 ·by_cases hr : l.length + m.length ≤ cap
  ·obtain ⟨w',hst,hb',r1,r2,r3,r4,r5⟩:=XI (P:=P) (b:=g) (i:=l.length) (m.map bv) 0 (Qe5 cap l) w hb (by rw [Qkt h2,List.length_map];omega) (Qm3 m);refine ⟨some ⟨g,0,none⟩,cap,w',?_,fun _=>⟨rfl,rfl⟩,HS.swap hpk (B:=.byz (some ⟨g,0,none⟩) cap (l ++ m)) (fun _ h=>h) r1 r2 r3 r4 (fun k hk=>r5 k (by simpa [HA.fp_byz,Value.ownBlock] using hk)) (.inr ⟨g,rfl,by omega,h3,?_⟩)⟩
   ·rw [hlm];exact QgQ hu hxt hi hlen hfc (by rw [hs1,Nat.mul_one,XB,Nat.zero_add];exact hst) hr
   ·rw [Nat.add_zero,QsQ (by omega)] at hb';exact hb'
  ·refine grow (by omega) ?_;rw [hs1]
   exact XT (w:=w.drew) (by simp) fun _=>⟨g,0,rfl,fun j u hu=>by
    have hc:=hb.less.cell hu
    simpa using hc⟩
section
variable {P : Program} {o : Oper} {L : Qc} {w0 : World} {M : List Nat} {As As' : List HA}
theorem Z8 {t xt e' by' c cap : Nat} {a b : Option Addr} {s x : Operand} {l : List UInt8} (m : List UInt8) (ho : o.op = .call { callee:=.builtin .append,args:=#[s,x],argTypes:=#[t,xt] }) (hs : ev L s = some (.slice a l.length cap)) (hx : ev L x = some (.slice b m.length c)) (ht : tsl P t = some (u8T,1,by')) (hxt : P.underlying xt = some (.slice e')) (hz : QS P u8T = some [.int .u8 0])
  (hp : QM As (.byz a cap l) As') (hsrc : ∀ w,HS w0 M As w → Src b (m.map bv) w) (hroom : (l.length + m.length) * by' ≤ 140737488355328) (hmax : l.length + m.length ≤ maxLen) :
  OpH P o L (HS w0 M As) (fun g : Option Addr × Nat=>.slice g.1 (l ++ m).length g.2) (fun g=>Qcp a cap g (l ++ m).length) (fun g=>HS w0 M (.byz g.1 g.2 (l ++ m) :: As')):=by
 intro ρ w hρ hw;obtain ⟨a',cap',w',hr,hk,hw'⟩:=Qgv (P:=P) (ty:=o.type) ht (.inr ⟨e',hxt⟩) hz hw hp (x:=.slice b m.length c) rfl (XT (by simp) (hsrc w hw)) (XT (w:=w.drew) (by simp) (hsrc w hw)) hroom hmax;simp only [execOp,ho,resolve,Sem.run_bind,Sem.run_pure,Result.andThen_ok,invoke,builtin,List.map_toArray,List.map_cons,List.map_nil,hρ _ _ hs,hρ _ _ hx,hr];exact ⟨(a',cap'),rfl,hk,hw'⟩
theorem QaV {t xt by' cap : Nat} {a : Option Addr} {s x : Operand} {l m : List UInt8} (ho : o.op = .call { callee:=.builtin .append,args:=#[s,x],argTypes:=#[t,xt] }) (hs : ev L s = some (.slice a l.length cap)) (hx : ev L x = some (.string (bs m))) (ht : tsl P t = some (u8T,1,by')) (hxt : P.underlying xt = some .string) (hz : QS P u8T = some [.int .u8 0])
  (hp : QM As (.byz a cap l) As') (hroom : (l.length + m.length) * by' ≤ 140737488355328) (hmax : l.length + m.length ≤ maxLen) :
  OpH P o L (HS w0 M As) (fun g : Option Addr × Nat=>.slice g.1 (l ++ m).length g.2) (fun g=>Qcp a cap g (l ++ m).length) (fun g=>HS w0 M (.byz g.1 g.2 (l ++ m) :: As')):=by
 intro ρ w hρ hw
 have hfc : ∀ w,(Builtin.firstCells 1 m.length (.string (bs m))).run P w = .ok (m.map bv).toArray w:=fun w=>by
  have hx : (bs m).extract 0 m.length = bs m:=(QhT _).trans (congrArg bs (by rw [Lib.extract_data];simp));simp only [Builtin.firstCells,hx,Sem.run_pure];congr 1;simp [bs,bv]
 obtain ⟨a',cap',w',hr,hk,hw'⟩:=Qgv (P:=P) (ty:=o.type) ht (.inl hxt) hz hw hp (x:=.string (bs m)) rfl (hfc _) (hfc _) hroom hmax;simp only [execOp,ho,resolve,Sem.run_bind,Sem.run_pure,Result.andThen_ok,invoke,builtin,List.map_toArray,List.map_cons,List.map_nil,hρ _ _ hs,hρ _ _ hx,hr];exact ⟨(a',cap'),rfl,hk,hw'⟩
end
end Gx
namespace Gx
open Go Go.RowKit
def ub1 (s : List UInt8) (i : Nat) : Nat:=(s.getD i 0).toNat
def ub2 (s : List UInt8) (i : Nat) : Nat:=ub1 s i + ub1 s (i + 1) * 256
def ub4 (s : List UInt8) (i : Nat) : Nat:=ub2 s i + ub2 s (i + 2) * 65536
theorem QkB (s : List UInt8) (i : Nat) : at1 s i = (ub1 s i : Int):=rfl
theorem Qdp (s : List UInt8) (i : Nat) : at2 s i = (ub2 s i : Int):=by simp only [at2,ub2,QkB];omega
theorem Qgr (s : List UInt8) (i : Nat) : at4 s i = (ub4 s i : Int):=by simp only [at4,ub4,Qdp];omega
theorem Yi (s : List UInt8) (i : Nat) : ub1 s i < 256:=UInt8.toNat_lt _
theorem QdT (s : List UInt8) (i : Nat) : ub2 s i < 65536:=by have:=Yi s i;have:=Yi s (i + 1);unfold ub2;omega
theorem QmR (s : List UInt8) (i : Nat) : ub4 s i < 4294967296:=by have:=QdT s i;have:=QdT s (i + 2);unfold ub4;omega
theorem QmF (s : List UInt8) (k i : Nat) : ub1 (s.drop k) i = ub1 s (k + i):=by grind [ub1]
def QF (n : Nat) : Nat:=(n + 7) / 8 * 8
theorem XU (n : Nat) : n ≤ QF n ∧ QF n < n + 8:=by unfold QF;omega
def Qp (s : List UInt8) (i n : Nat) : List UInt8:=(s.drop i).take n
theorem Xl {s : List UInt8} {i n : Nat} (h : i + n ≤ s.length) : (Qp s i n).length = n:=by simp only [Qp,List.length_take,List.length_drop];omega
theorem Qfc (s : List UInt8) (k i n : Nat) : Qp (s.drop k) i n = Qp s (k + i) n:=by simp only [Qp,List.drop_drop]
theorem ZE {s : List UInt8} {i n j : Nat} (h : j < n) : (Qp s i n)[j]? = s[i + j]?:=by simp only [Qp,List.getElem?_take,h,if_true,List.getElem?_drop]
theorem Xs (s : List UInt8) (i n m : Nat) : Qp s i (n + m) = Qp s i n ++ Qp s (i + n) m:=by
 simp only [Qp,List.take_add,List.drop_drop]
def zer (l : List UInt8) : Bool:=l.all fun b=>decide (b = 0)
theorem QaJ (l : List UInt8) : zer l = true ↔ l = List.replicate l.length 0:=by
 simp only [zer,List.all_eq_true,decide_eq_true_eq];constructor
 ·intro h;exact List.eq_replicate_iff.2 ⟨rfl,h⟩
 grind
theorem Qem (n : Nat) : zer (List.replicate n 0) = true:=by rw [QaJ];simp
def TEnt.sz (x : TEnt) : Nat:=8 + x.key.length + x.val.length
def Yc (x : TEnt) (c : Int) : List UInt8:=le2 (QF x.sz : Nat) ++ [by8 x.key.length,by8 x.val.length] ++ le4 c ++ x.key ++ x.val ++ List.replicate (QF x.sz - x.sz) 0
def QaL (c : Int) : List UInt8:=le2 8 ++ [0,0] ++ le4 c
theorem Qd8 (x : TEnt) (c : Int) : (Yc x c).length = QF x.sz:=by
 have:=XU x.sz;have h : x.sz = 8 + x.key.length + x.val.length:=rfl
 grind [Yc,le2,le4]
theorem Qbg (c : Int) : (QaL c).length = 8:=rfl
theorem Ql7 (s : List UInt8) (i : Nat) : by8 (ub1 s i : Int) = s.getD i 0:=by
 have:=Yi s i;unfold by8;rw [show ((ub1 s i : Int) % 256).toNat = (s.getD i 0).toNat by unfold ub1 at *;omega];simp
theorem QvK (s : List UInt8) (i : Nat) : le2 (ub2 s i : Int) = [s.getD i 0,s.getD (i + 1) 0]:=by grind [Yi,le2,QdO,ub2,ub1,Ql7]
theorem Qvp (s : List UInt8) (i : Nat) : le4 (ub4 s i : Int) = [s.getD i 0,s.getD (i + 1) 0,s.getD (i + 2) 0,s.getD (i + 3) 0]:=by
 have h1:=Yi s i;have h2:=Yi s (i + 1);have h3:=Yi s (i + 2);have h4:=Yi s (i + 3);have e : ub4 s i = ub1 s i + ub1 s (i + 1) * 256 + (ub1 s (i + 2) + ub1 s (i + 3) * 256) * 65536:=rfl;simp only [le4];rw [QdO (m:=(ub4 s i : Int)) (n:=(ub1 s i : Int)) (by omega),QdO (m:=(ub4 s i : Int) / 256) (n:=(ub1 s (i + 1) : Int)) (by omega),QdO (m:=(ub4 s i : Int) / 65536) (n:=(ub1 s (i + 2) : Int)) (by omega),QdO (m:=(ub4 s i : Int) / 16777216) (n:=(ub1 s (i + 3) : Int)) (by omega)];simp only [Ql7]
theorem QcT {s : List UInt8} {i n : Nat} (h : i < s.length) : Qp s i (n + 1) = s.getD i 0 :: Qp s (i + 1) n:=by
 simp only [Qp];rw [List.drop_eq_getElem_cons h,List.take_succ_cons,List.getD_eq_getElem?_getD,List.getElem?_eq_getElem h];rfl
theorem Qc3 (s : List UInt8) (i : Nat) : Qp s i 0 = []:=by simp [Qp]
theorem QgO {s : List UInt8} {i : Nat} (h : i + 2 ≤ s.length) : Qp s i 2 = le2 (ub2 s i : Int):=by grind [QvK,QcT,Qc3]
theorem Qiu {s : List UInt8} {i : Nat} (h : i + 4 ≤ s.length) : Qp s i 4 = le4 (ub4 s i : Int):=by grind [Qvp,QcT,Qc3]
theorem QmA {a b : Int} (h : by8 a = by8 b) : a % 256 = b % 256:=by grind [QG]
theorem Qsx {a b : Int} (h : le2 a = le2 b) : a % 65536 = b % 65536:=by grind [le2,QmA]
theorem QtX {a b : Int} (h : le4 a = le4 b) : a % 4294967296 = b % 4294967296:=by grind [le4,QmA]
def Xc (s : List UInt8) (p : Nat) : TEnt:=⟨Qp s (p + 8) (ub1 s (p + 2)),Qp s (p + 8 + ub1 s (p + 2)) (ub1 s (p + 3))⟩
def Xp (s : List UInt8) (p : Nat) : Nat:=8 + ub1 s (p + 2) + ub1 s (p + 3)
def X9 (x : TEnt) (c : Nat) : Bool:=decide (1 ≤ x.key.length ∧ x.key.length ≤ 40 ∧ x.val.length ≤ 64 ∧ x.key.length + x.val.length ≤ 88 ∧ c ≤ 120)
def Zf (s : List UInt8) (p : Nat) : Bool:=decide (p + 8 ≤ s.length ∧ ub2 s p = QF (Xp s p) ∧ p + ub2 s p ≤ s.length) && (zer (Qp s (p + Xp s p) (ub2 s p - Xp s p)) && X9 (Xc s p) (ub4 s (p + 4)))
theorem QeD {s : List UInt8} {p : Nat} (h : p + Xp s p ≤ s.length) : (Xc s p).sz = Xp s p ∧ (Xc s p).key.length = ub1 s (p + 2) ∧ (Xc s p).val.length = ub1 s (p + 3):=by grind [Xp,Xc,ub1,Xl,TEnt.sz]
theorem QtK {s : List UInt8} {p : Nat} (h : p + Xp s p ≤ s.length) : Qp s p (Xp s p) = le2 (ub2 s p : Int) ++ [by8 (ub1 s (p + 2) : Int),by8 (ub1 s (p + 3) : Int)] ++ le4 (ub4 s (p + 4) : Int) ++ (Xc s p).key ++ (Xc s p).val:=by
 have h9 : Xp s p = 2 + (1 + (1 + (4 + (ub1 s (p + 2) + ub1 s (p + 3))))):=by unfold Xp;omega
 unfold Xp at h;rw [h9,Xs,QgO (by omega),Xs,show (1 : Nat) = 0 + 1 from rfl,QcT (by omega),Qc3,Xs,show (1 : Nat) = 0 + 1 from rfl,QcT (by omega),Qc3,Xs,Qiu (by omega),Xs]
 grind [Ql7,Xc]
theorem Qm6 {s : List UInt8} {p : Nat} (hn : p + ub2 s p ≤ s.length) (ht : Xp s p ≤ ub2 s p) : (Yc (Xc s p) (ub4 s (p + 4) : Int) = Qp s p (ub2 s p)) ↔ (ub2 s p = QF (Xp s p) ∧ zer (Qp s (p + Xp s p) (ub2 s p - Xp s p)) = true):=by
 obtain ⟨e1,e2,e3⟩:=QeD (s:=s) (p:=p) (by omega);have hh:=QtK (s:=s) (p:=p) (by omega);have hlt:=QdT s p;have hk:=Yi s (p + 2);have hv:=Yi s (p + 3);have hp:=XU (Xp s p);have hs : Xp s p = 8 + ub1 s (p + 2) + ub1 s (p + 3):=rfl;have hsplit : Qp s p (ub2 s p) = Qp s p (Xp s p) ++ Qp s (p + Xp s p) (ub2 s p - Xp s p):=by rw [← Xs];congr 1;omega
 have hlen : (Qp s (p + Xp s p) (ub2 s p - Xp s p)).length = ub2 s p - Xp s p:=Xl (by omega);have hE : Yc (Xc s p) (ub4 s (p + 4) : Int) = le2 (QF (Xp s p) : Nat) ++ ([by8 (ub1 s (p + 2) : Int),by8 (ub1 s (p + 3) : Int)] ++ le4 (ub4 s (p + 4) : Int) ++ (Xc s p).key ++ (Xc s p).val ++ List.replicate (QF (Xp s p) - Xp s p) 0):=by grind [Yc]
 have hS : Qp s p (ub2 s p) = le2 (ub2 s p : Nat) ++ ([by8 (ub1 s (p + 2) : Int),by8 (ub1 s (p + 3) : Int)] ++ le4 (ub4 s (p + 4) : Int) ++ (Xc s p).key ++ (Xc s p).val ++ Qp s (p + Xp s p) (ub2 s p - Xp s p)):=by grind
 constructor
 ·intro h;rw [hE,hS] at h;obtain ⟨h1,h2⟩:=List.append_inj h rfl;have h3:=Qsx h1;have h4 : ub2 s p = QF (Xp s p):=by omega
  refine ⟨h4,?_⟩;have h5:=List.append_cancel_left h2;rw [← h5];exact Qem _
 grind [QaJ]
theorem Qnr {s : List UInt8} {p : Nat} (h8 : p + 8 ≤ s.length) (hn : p + ub2 s p ≤ s.length) (ht : Xp s p ≤ ub2 s p) : (QaL (ub4 s (p + 4) : Int) = Qp s p (ub2 s p)) ↔ (ub2 s p = 8 ∧ ub2 s (p + 2) = 0):=by
 have hs : Xp s p = 8 + ub1 s (p + 2) + ub1 s (p + 3):=rfl;have hd : ub2 s (p + 2) = ub1 s (p + 2) + ub1 s (p + 3) * 256:=rfl
 have h4 : Qp s p 8 = le2 (ub2 s p : Int) ++ (le2 (ub2 s (p + 2) : Int) ++ le4 (ub4 s (p + 4) : Int)):=by
  rw [show 8 = 2 + (2 + 4) from rfl,Xs,QgO (by omega),Xs,QgO (by omega),Qiu (by omega)]
 constructor
 ·grind [Qbg,Xl]
 ·rintro ⟨h1,h2⟩;rw [h1,h4,h1,h2];rfl
structure RdS where
 es : List TEnt
 cs : List Int
 p : Nat
def rdE (s : List UInt8) (p0 : Nat) : Nat → Option RdS
 | 0=>some ⟨[],[],p0⟩
 | k + 1=>match rdE s p0 k with
  | none=>none
  | some r=>if Zf s r.p then some ⟨r.es ++ [Xc s r.p],r.cs ++ [(ub4 s (r.p + 4) : Int)],r.p + ub2 s r.p⟩ else none
def Y4 (s : List UInt8) (p : Nat) : Bool:=decide (p + 8 ≤ s.length ∧ ub2 s p = 8 ∧ ub2 s (p + 2) = 0 ∧ ub4 s (p + 4) ≤ 120)
def noz (l : List Int) : Bool:=l.all fun c=>decide (c ≠ 0)
def Qdz (l : List Int) : Bool:=l.all fun c=>decide (c = 0)
def rdN (s : List UInt8) (p0 k : Nat) : Option (Nd × Nat):=match rdE s p0 k with
 | none=>none
 | some r=>if Y4 s r.p then (if noz (r.cs ++ [(ub4 s (r.p + 4) : Int)]) then some (⟨true,r.es,r.cs ++ [(ub4 s (r.p + 4) : Int)]⟩,r.p + 8) else if Qdz (r.cs ++ [(ub4 s (r.p + 4) : Int)]) then some (⟨true,r.es,[]⟩,r.p + 8) else none) else none
theorem Qr7 {s : List UInt8} {p0 k : Nat} (h : rdE s p0 k = none) : ∀ j,k ≤ j → rdE s p0 j = none:=by
 intro j hj
 induction j <;> grind [rdE]
theorem QuO {s : List UInt8} {p0 k j : Nat} {r : RdS} (h : rdE s p0 k = some r) (hs : Zf s r.p = false) (hj : k < j) : rdE s p0 j = none:=
 Qr7 (k:=k + 1) (by simp only [rdE,h,hs];rfl) j hj
theorem QcC {s : List UInt8} {p0 k : Nat} {r : RdS} (h : rdE s p0 k = some r) (hs : Zf s r.p = true) : rdE s p0 (k + 1) = some ⟨r.es ++ [Xc s r.p],r.cs ++ [(ub4 s (r.p + 4) : Int)],r.p + ub2 s r.p⟩:=by grind [rdE]
theorem Y7 {s : List UInt8} {p : Nat} : Zf s p = true ↔ (p + 8 ≤ s.length ∧ ub2 s p = QF (Xp s p) ∧ p + ub2 s p ≤ s.length) ∧ zer (Qp s (p + Xp s p) (ub2 s p - Xp s p)) = true ∧ X9 (Xc s p) (ub4 s (p + 4)) = true:=by grind [Zf]
theorem Qbu {s : List UInt8} {p0 : Nat} (h0 : p0 ≤ s.length) : ∀ {k : Nat} {r : RdS},rdE s p0 k = some r → r.es.length = k ∧ r.cs.length = k ∧ p0 ≤ r.p ∧ r.p ≤ s.length ∧ r.p ≤ p0 + 96 * k ∧ (∀ x ∈ r.es,X9 x 0 = true) ∧ ∀ c ∈ r.cs,0 ≤ c ∧ c ≤ 120
 | 0,r,h=>by
  injection h with h
  grind
 | k + 1,r,h=>by
  cases hk : rdE s p0 k with
  | none=>simp only [rdE,hk] at h;cases h
  | some q=>
   obtain ⟨h1,h2,h3,h4,h5,h6,h7⟩:=Qbu h0 hk;cases hs : Zf s q.p with
   | false=>simp only [rdE,hk,hs] at h;cases h
   | true=>
    rw [QcC hk hs] at h;injection h with h
    subst h;obtain ⟨⟨g1,g2,g3⟩,g4,g5⟩:=Y7.1 hs
    grind [XU,Xp,QeD,X9,ub1,QF]
def Q2 (cs : List Int) (i : Nat) : Int:=if cs.length = 0 then 0 else cs.getD i 0
def QO (n : Nd) : Nat → List UInt8
 | 0=>[]
 | k + 1=>QO n k ++ Yc (nth n.es k) (Q2 n.cs k)
def Q7 (n : Nd) : List UInt8:=QO n n.es.length ++ QaL (Q2 n.cs n.es.length)
theorem Qjo {s : List UInt8} {p0 : Nat} (h0 : p0 ≤ s.length) {n : Nd} : ∀ {k : Nat} {r : RdS},rdE s p0 k = some r → k ≤ n.es.length → (∀ i,i < k → nth n.es i = nth r.es i ∧ Q2 n.cs i = r.cs.getD i 0) → QO n k = Qp s p0 (r.p - p0)
 | 0,r,h,_,_=>by
  injection h with h
  subst h;simp [QO,Qp]
 | k + 1,r,h,hk,hn=>by
  cases hq : rdE s p0 k with
  | none=>simp only [rdE,hq] at h;cases h
  | some q=>
   obtain ⟨h1,h2,h3,h4,_⟩:=Qbu h0 hq;cases hs : Zf s q.p with
   | false=>simp only [rdE,hq,hs] at h;cases h
   | true=>
    rw [QcC hq hs] at h;injection h with h
    subst h;obtain ⟨⟨g1,g2,g3⟩,g4,g5⟩:=Y7.1 hs;have hp:=XU (Xp s q.p)
    have ih:=Qjo h0 (n:=n) hq (by omega) (fun i hi=>by
     obtain ⟨a1,a2⟩:=hn i (by omega);rw [a1,a2];constructor
     ·unfold nth;rw [List.getD_eq_getElem?_getD,List.getElem?_append_left (by omega),← List.getD_eq_getElem?_getD]
     ·rw [List.getD_eq_getElem?_getD,List.getElem?_append_left (by omega),← List.getD_eq_getElem?_getD])
    obtain ⟨a1,a2⟩:=hn k (by omega);have ub1' : nth (q.es ++ [Xc s q.p]) k = Xc s q.p:=by grind [nth]
    have ub2' : (q.cs ++ [(ub4 s (q.p + 4) : Int)]).getD k 0 = (ub4 s (q.p + 4) : Int):=by grind
    rw [QO,ih,a1,a2,ub1',ub2',(Qm6 g3 (by omega)).2 ⟨g2,g4⟩];simp only [];rw [show q.p + ub2 s q.p - p0 = (q.p - p0) + ub2 s q.p by omega,Xs,show p0 + (q.p - p0) = q.p by omega]
theorem Qi2 {s : List UInt8} {p0 k : Nat} (h0 : p0 ≤ s.length) {n : Nd} {e : Nat} (h : rdN s p0 k = some (n,e)) : Q7 n = Qp s p0 (e - p0) ∧ p0 + 8 ≤ e ∧ e ≤ s.length ∧ e ≤ p0 + 96 * k + 8 ∧ n.us = true ∧ n.es.length = k ∧ (n.cs.length = 0 ∨ n.cs.length = k + 1) ∧ (∀ x ∈ n.es,X9 x 0 = true) ∧ ∀ c ∈ n.cs,1 ≤ c ∧ c ≤ 120:=by
 unfold rdN at h;cases hq : rdE s p0 k with
 | none=>rw [hq] at h;cases h
 | some r=>
  rw [hq] at h;simp only [] at h;obtain ⟨h1,h2,h3,h4,h5,h6,h7⟩:=Qbu h0 hq;split at h
  ·rename_i he;simp only [Y4,decide_eq_true_eq] at he;obtain ⟨g1,g2,g3,g4⟩:=he;have hb2 : ub2 s (r.p + 2) = ub1 s (r.p + 2) + ub1 s (r.p + 3) * 256:=rfl;have hsz : Xp s r.p = 8 + ub1 s (r.p + 2) + ub1 s (r.p + 3):=rfl;have hend:=(Qnr (s:=s) (p:=r.p) g1 (by omega) (by omega)).2 ⟨g2,g3⟩;rw [g2] at hend
   have hfin : Qp s p0 (r.p + 8 - p0) = Qp s p0 (r.p - p0) ++ Qp s r.p 8:=by
    rw [show r.p + 8 - p0 = (r.p - p0) + 8 by omega,Xs,show p0 + (r.p - p0) = r.p by omega]
   split at h
   ·rename_i hz;injection h with h
    injection h with e1 e2
    subst e1 e2
    grind [Q2,ub4,Q7,Qjo,hi,noz]
   ·split at h
    ·rename_i hz;injection h with h
     injection h with e1 e2
     subst e1 e2;refine ⟨?_,by omega,by omega,by omega,rfl,h1,.inl rfl,h6,by simp⟩
     have hall : ∀ i,i ≤ k → (r.cs ++ [(ub4 s (r.p + 4) : Int)]).getD i 0 = 0:=fun i hi=>by
      simp only [Qdz,List.all_eq_true,decide_eq_true_eq] at hz;have hl : i < (r.cs ++ [(ub4 s (r.p + 4) : Int)]).length:=by simp;omega
      have:=hz _ (List.getElem_mem hl);rw [List.getD_eq_getElem?_getD,List.getElem?_eq_getElem hl];exact this
     have hlast:=hall k (Nat.le_refl _);rw [List.getD_eq_getElem?_getD,List.getElem?_append_right (by omega),h2,Nat.sub_self] at hlast;have hlast : (ub4 s (r.p + 4) : Int) = 0:=hlast;unfold Q7;simp only []
     rw [h1,Qjo h0 (n:=⟨true,r.es,[]⟩) hq (Nat.le_of_eq h1.symm) (fun i hi=>⟨rfl,by
      have:=hall i (by omega);rw [List.getD_eq_getElem?_getD,List.getElem?_append_left (by omega),← List.getD_eq_getElem?_getD] at this;rw [this];rfl⟩),hfin,← hend,hlast]
     rfl
    ·cases h
  ·cases h
theorem QcW {s : List UInt8} {i n j m : Nat} (h : j + m ≤ n) : Qp (Qp s i n) j m = Qp s (i + j) m:=by
 simp only [Qp,List.drop_take,List.take_take,List.drop_drop]
 grind
theorem Qpu {s : List UInt8} {p n j : Nat} (h : j < n) : ub1 (Qp s p n) j = ub1 s (p + j):=by grind [ub1,ZE]
theorem Qf6 {s : List UInt8} {p n j : Nat} (h : j + 1 < n) : ub2 (Qp s p n) j = ub2 s (p + j):=by grind [ub2,Qpu]
theorem QlC {s : List UInt8} {p n j : Nat} (h : j + 3 < n) : ub4 (Qp s p n) j = ub4 s (p + j):=by grind [ub4,Qf6]
theorem Qw6 (x : TEnt) (c : Int) (hs : x.sz < 60000) (hk : x.key.length < 256) (hv : x.val.length < 256) (hc : 0 ≤ c ∧ c < 4294967296) : ub2 (Yc x c) 0 = QF x.sz ∧ ub1 (Yc x c) 2 = x.key.length ∧ ub1 (Yc x c) 3 = x.val.length ∧ (ub4 (Yc x c) 4 : Int) = c:=by
 have hp:=XU x.sz;have e0 : ub1 (Yc x c) 0 = (by8 (QF x.sz : Nat)).toNat:=rfl;have e1 : ub1 (Yc x c) 1 = (by8 ((QF x.sz : Nat) / 256 : Int)).toNat:=rfl;have e2 : ub1 (Yc x c) 2 = (by8 (x.key.length : Int)).toNat:=rfl;have e3 : ub1 (Yc x c) 3 = (by8 (x.val.length : Int)).toNat:=rfl;have e4 : ub1 (Yc x c) 4 = (by8 c).toNat:=rfl;have e5 : ub1 (Yc x c) 5 = (by8 (c / 256)).toNat:=rfl;have e6 : ub1 (Yc x c) 6 = (by8 (c / 65536)).toNat:=rfl;have e7 : ub1 (Yc x c) 7 = (by8 (c / 16777216)).toNat:=rfl;have f0:=QG (QF x.sz : Nat);have f1:=QG ((QF x.sz : Nat) / 256 : Int);have f2:=QG (x.key.length : Int);have f3:=QG (x.val.length : Int);have f4:=QG c;have f5:=QG (c / 256);have f6:=QG (c / 65536);have f7:=QG (c / 16777216);refine ⟨?_,?_,?_,?_⟩
 ·grind [ub2]
 ·rw [e2];omega
 ·rw [e3];omega
 ·unfold ub4 ub2;simp only [Nat.reduceAdd];rw [e4,e5,e6,e7];omega
theorem QnA {A B C : List UInt8} {i n : Nat} (hi : A.length = i) (hn : B.length = n) : Qp (A ++ (B ++ C)) i n = B:=by grind [Qp,hi]
theorem QsA (x : TEnt) (c : Int) : Qp (Yc x c) 8 x.key.length = x.key:=by grind [Yc,le2,QF,by8,le4,QnA]
theorem QtZ (x : TEnt) (c : Int) : Qp (Yc x c) (8 + x.key.length) x.val.length = x.val:=by grind [Yc,le2,QF,by8,le4,Qp]
theorem QrD (x : TEnt) (c : Int) : Qp (Yc x c) x.sz (QF x.sz - x.sz) = List.replicate (QF x.sz - x.sz) 0:=by
 have : Yc x c = (le2 (QF x.sz : Nat) ++ [by8 x.key.length,by8 x.val.length] ++ le4 c ++ x.key ++ x.val) ++ (List.replicate (QF x.sz - x.sz) 0 ++ []):=by simp only [Yc,List.append_nil]
 grind [QnA,TEnt.sz,le2,le4]
theorem Qu7 {s : List UInt8} {p : Nat} {x : TEnt} {c : Int} (hw : Qp s p (QF x.sz) = Yc x c) (hl : p + QF x.sz ≤ s.length) (hk : X9 x c.toNat = true) (hc : 0 ≤ c) : Zf s p = true ∧ Xc s p = x ∧ (ub4 s (p + 4) : Int) = c ∧ ub2 s p = QF x.sz:=by
 have hkk:=hk;simp only [X9,decide_eq_true_eq] at hk;have hsz : x.sz = 8 + x.key.length + x.val.length:=rfl;have hp:=XU x.sz;obtain ⟨a0,a2,a3,a4⟩:=Qw6 x c (by omega) (by omega) (by omega) (by omega);rw [← hw,Qf6 (by omega),Nat.add_zero] at a0;rw [← hw,Qpu (by omega)] at a2 a3;rw [← hw,QlC (by omega)] at a4
 have e : Xc s p = x:=by
  have k1:=QsA x c;have k2:=QtZ x c;rw [← hw,QcW (by omega)] at k1 k2;unfold Xc;rw [a2,a3,k1,show p + 8 + x.key.length = p + (8 + x.key.length) by omega,k2]
 grind [Xp,Y7,QrD,QcW,Qem,ub4]
theorem QuJ {s : List UInt8} {p : Nat} {c : Int} (hw : Qp s p 8 = QaL c) (hl : p + 8 ≤ s.length) (hc : 0 ≤ c ∧ c ≤ 120) : Y4 s p = true ∧ (ub4 s (p + 4) : Int) = c:=by
 have f4:=QG c;have f5:=QG (c / 256);have f6:=QG (c / 65536);have f7:=QG (c / 16777216)
 have e0 : ub2 (QaL c) 0 = 8:=by
  show (by8 8).toNat + (by8 (8 / 256)).toNat * 256 = 8;decide
 have e2 : ub2 (QaL c) 2 = 0:=by
  show (0 : UInt8).toNat + (0 : UInt8).toNat * 256 = 0;decide
 have e4 : ub4 (QaL c) 4 = (by8 c).toNat + (by8 (c / 256)).toNat * 256 + ((by8 (c / 65536)).toNat + (by8 (c / 16777216)).toNat * 256) * 65536:=by
  have g0 : ub1 (QaL c) 4 = (by8 c).toNat:=rfl;have g1 : ub1 (QaL c) 5 = (by8 (c / 256)).toNat:=rfl;have g2 : ub1 (QaL c) 6 = (by8 (c / 65536)).toNat:=rfl;have g3 : ub1 (QaL c) 7 = (by8 (c / 16777216)).toNat:=rfl
  grind [ub4,ub2]
 grind [Qf6,QlC,ub4,Y4]
structure NdW (n : Nd) : Prop where
 us : n.us = true
 es : ∀ x ∈ n.es,X9 x 0 = true
 cl : n.cs.length = 0 ∨ n.cs.length = n.es.length + 1
 cs : ∀ c ∈ n.cs,1 ≤ c ∧ c ≤ 120
theorem NdW.kid {n : Nd} (h : NdW n) {i : Nat} (hi : i ≤ n.es.length) : 0 ≤ Q2 n.cs i ∧ Q2 n.cs i ≤ 120 ∧ (n.cs.length = 0 → Q2 n.cs i = 0) ∧ (n.cs.length ≠ 0 → Q2 n.cs i = n.cs.getD i 0 ∧ Q2 n.cs i ≠ 0):=by
 unfold Q2
 by_cases h0 : n.cs.length = 0
 ·grind
 ·rw [if_neg h0];have hl : i < n.cs.length:=by have:=h.cl;omega
  have h1:=h.cs _ (List.getElem_mem hl)
  grind
theorem QgZ (n : Nd) : ∀ k j,(QO n k).length ≤ (QO n (k + j)).length
 | k,0=>Nat.le_refl _
 | k,j + 1=>by
  have:=QgZ n k j
  grind [QO]
theorem Qhz (n : Nd) : ∀ k j,Qp (QO n (k + j)) 0 (QO n k).length = QO n k
 | k,0=>by simp [Qp]
 | k,j + 1=>by
  have ih:=Qhz n k j;have hl:=QgZ n k j;show Qp (QO n (k + j) ++ _) 0 _ = _;unfold Qp at ih ⊢;rw [List.drop_zero] at ih ⊢;rw [List.take_append_of_le_length hl];exact ih
theorem QkL {s : List UInt8} {p0 : Nat} {n : Nd} (hn : NdW n) (hl : p0 + (QO n n.es.length).length ≤ s.length) (hw : Qp s p0 (QO n n.es.length).length = QO n n.es.length) : ∀ k,k ≤ n.es.length → rdE s p0 k = some ⟨n.es.take k,(List.range k).map (Q2 n.cs),p0 + (QO n k).length⟩
 | 0,_=>by simp [rdE,QO]
 | k + 1,hk=>by
  have ih:=QkL hn hl hw k (by omega);have hx:=hn.es _ (List.getElem_mem (show k < n.es.length by omega));have hxe : nth n.es k = n.es[k]:=Y2 (by rw [List.getElem?_eq_getElem (show k < n.es.length by omega)]);obtain ⟨c1,c2,_,_⟩:=hn.kid (i:=k) (by omega);have hle:=QgZ n (k + 1) (n.es.length - (k + 1));rw [show k + 1 + (n.es.length - (k + 1)) = n.es.length by omega] at hle;have hlk : (QO n (k + 1)).length = (QO n k).length + QF (nth n.es k).sz:=by grind [QO,Qd8]
  have hpre:=Qhz n (k + 1) (n.es.length - (k + 1));rw [show k + 1 + (n.es.length - (k + 1)) = n.es.length by omega,← hw,QcW (by omega),Nat.add_zero] at hpre
  have hwin : Qp s (p0 + (QO n k).length) (QF (nth n.es k).sz) = Yc (nth n.es k) (Q2 n.cs k):=by
   rw [hlk,Xs] at hpre;have h2 : Qp s p0 (QO n k).length ++ Qp s (p0 + (QO n k).length) (QF (nth n.es k).sz) = QO n k ++ Yc (nth n.es k) (Q2 n.cs k):=hpre;exact (List.append_inj h2 (Xl (by omega))).2
  have hK : X9 (nth n.es k) (Q2 n.cs k).toNat = true:=by grind [X9]
  obtain ⟨g1,g2,g3,g4⟩:=Qu7 hwin (by omega) hK c1;rw [QcC ih g1];congr 1;have t1 : n.es.take (k + 1) = n.es.take k ++ [nth n.es k]:=by simp_all
  simp only [g2,g3,g4];rw [t1,List.range_succ,List.map_append,hlk,Nat.add_assoc];rfl
theorem QjC {s : List UInt8} {p0 : Nat} {n : Nd} (hn : NdW n) (hl : p0 + (Q7 n).length ≤ s.length) (hw : Qp s p0 (Q7 n).length = Q7 n) : rdN s p0 n.es.length = some (n,p0 + (Q7 n).length):=by
 have hcl : (Q7 n).length = (QO n n.es.length).length + 8:=by unfold Q7;rw [List.length_append,Qbg]
 have hw2:=hw;rw [hcl,Xs] at hw2;unfold Q7 at hw2;obtain ⟨w1,w2⟩:=List.append_inj hw2 (Xl (by omega));have hE:=QkL hn (by omega) w1 n.es.length (Nat.le_refl _);obtain ⟨c1,c2,c3,c4⟩:=hn.kid (Nat.le_refl n.es.length);obtain ⟨g1,g2⟩:=QuJ w2 (by omega) ⟨c1,c2⟩;have hch : (List.range n.es.length).map (Q2 n.cs) ++ [Q2 n.cs n.es.length] = (List.range (n.es.length + 1)).map (Q2 n.cs):=by rw [List.range_succ,List.map_append];rfl
 unfold rdN;rw [hE];simp only [g1,if_true,g2,hch,List.take_length,hcl]
 by_cases h0 : n.cs.length = 0
 ·have hz : ∀ i,i ≤ n.es.length → Q2 n.cs i = 0:=fun i hi=>(hn.kid hi).2.2.1 h0;have hnz : noz ((List.range (n.es.length + 1)).map (Q2 n.cs)) = false:=by grind [noz,Q2]
  have haz : Qdz ((List.range (n.es.length + 1)).map (Q2 n.cs)) = true:=by grind [Qdz,hi]
  rw [hnz,haz];simp only [Bool.false_eq_true,if_false,if_true,Option.some.injEq,Prod.mk.injEq];refine ⟨?_,by omega⟩;obtain ⟨us,es,cs⟩:=n;have hcs : cs = []:=List.eq_nil_of_length_eq_zero h0;have hu:=hn.us
  grind
 ·have hnz : noz ((List.range (n.es.length + 1)).map (Q2 n.cs)) = true:=by
   simp only [noz,List.all_eq_true,decide_eq_true_eq,List.mem_map,List.mem_range];rintro c ⟨i,hi,rfl⟩;exact ((hn.kid (i:=i) (by omega)).2.2.2 h0).2
  rw [hnz];simp only [if_true,Option.some.injEq,Prod.mk.injEq];refine ⟨?_,by omega⟩;have hlc : n.cs.length = n.es.length + 1:=by have:=hn.cl;omega
  have hcs : (List.range (n.es.length + 1)).map (Q2 n.cs) = n.cs:=by
   apply List.ext_getElem?;intro i;rcases Nat.lt_or_ge i (n.es.length + 1) with hi | hi
   ·rw [List.getElem?_map,List.getElem?_range hi];simp only [Option.map_some];rw [((hn.kid (i:=i) (by omega)).2.2.2 h0).1,List.getD_eq_getElem?_getD,List.getElem?_eq_getElem (show i < n.cs.length by omega)];rfl
   grind
  rw [hcs];have hu:=hn.us;obtain ⟨us,es,cs⟩:=n
  grind
def QI (s : List UInt8) (at' : Nat) (l : List UInt8) : List UInt8:=s.take at' ++ l ++ s.drop (at' + l.length)
theorem XO {s l : List UInt8} {a : Nat} (h : a + l.length ≤ s.length) : (QI s a l).length = s.length:=by grind [QI]
theorem YD {s l : List UInt8} {a : Nat} (h : a + l.length ≤ s.length) (j : Nat) : (QI s a l)[j]? = if j < a then s[j]? else if j < a + l.length then l[j - a]? else s[j]?:=by grind [QI]
theorem QbQ {s l : List UInt8} {a i n : Nat} (h : a + l.length ≤ s.length) (hd : i + n ≤ a ∨ a + l.length ≤ i) : Qp (QI s a l) i n = Qp s i n:=by
 apply List.ext_getElem?
 grind [ZE,YD,Qp]
def tlA (i : Nat) : Nat:=64 * i + 62
def prI (s : List UInt8) (u : Int) : Nat → List UInt8
 | 0=>QI s 40 (le2 u)
 | i + 1=>QI (QI (prI s u i) (42 + 2 * i) (Qp (prI s u i) (tlA i) 2)) (tlA i) (le2 u)
def QbV (s : List UInt8) (u : Int) : List UInt8:=prI s u 8
def opI (s : List UInt8) : Nat → List UInt8
 | 0=>s
 | i + 1=>QI (opI s i) (tlA i) (Qp (opI s i) (42 + 2 * i) 2)
def Qbl (s : List UInt8) (i : Nat) : Bool:=decide (ub2 s 40 = 0 ∨ ub2 s (tlA i) ≠ ub2 s 40)
def XH (s : List UInt8) : Bool:=(List.range 8).any (Qbl s)
def QJ (s : List UInt8) : List UInt8:=QI (opI s 8) 40 (List.replicate 18 0)
theorem Qes {s : List UInt8} {u : Int} (h : s.length = 512) : ∀ i,i ≤ 8 → (prI s u i).length = 512
 | 0,_=>by
  show (QI s 40 (le2 u)).length = _
  grind [XO,le2]
 | i + 1,hi=>by
  have ih:=Qes (u:=u) h i (by omega);have h2 : (Qp (prI s u i) (tlA i) 2).length = 2:=Xl (by unfold tlA;omega);show (QI (QI _ _ _) _ (le2 u)).length = _
  grind [XO,le2,tlA]
theorem Z3 {s : List UInt8} (h : s.length = 512) : ∀ i,i ≤ 8 → (opI s i).length = 512
 | 0,_=>h
 | i + 1,hi=>by
  have ih:=Z3 h i (by omega)
  grind [Qp,opI,Xl,QI,XO,tlA]
theorem Qnw {s : List UInt8} {u : Int} (h : s.length = 512) : ∀ i,i ≤ 8 → ∀ j,(prI s u i)[j]? = if j < 40 then s[j]? else if j < 42 then (le2 u)[j - 40]? else if j < 42 + 2 * i then s[tlA ((j - 42) / 2) + (j - 42) % 2]? else if j < 64 * i ∧ 62 ≤ j % 64 then (le2 u)[j % 64 - 62]? else s[j]?
 | 0,_,j=>by
  have hle : (le2 u).length = 2:=rfl;show (QI s 40 (le2 u))[j]? = _
  grind [YD]
 | i + 1,hi,j=>by
  have hl:=Qes (u:=u) h i (by omega);have ih:=Qnw (u:=u) h i (by omega);have h2 : (Qp (prI s u i) (tlA i) 2).length = 2:=Xl (by unfold tlA;omega);have h3 : (QI (prI s u i) (42 + 2 * i) (Qp (prI s u i) (tlA i) 2)).length = 512:=by rw [XO (by rw [h2,hl];omega),hl]
  show (QI (QI _ _ _) _ (le2 u))[j]? = _;rw [YD (by rw [h3];simp only [le2,List.length_cons,List.length_nil,tlA];omega),YD (by rw [h2,hl];omega),h2];have hle : (le2 u).length = 2:=rfl;rw [hle]
  have e1 : ∀ k,(Qp (prI s u i) (tlA i) 2)[k]? = if k < 2 then s[tlA i + k]? else none:=fun k=>by
   by_cases hk : k < 2
   ·rw [if_pos hk,ZE hk,ih];unfold tlA;rw [if_neg (by omega)]
    by_cases hi0 : 64 * i + 62 + k < 42
    ·omega
    ·rw [if_neg hi0];rw [if_neg (by omega),if_neg (by omega)]
   ·rw [if_neg hk,List.getElem?_eq_none (by rw [h2];omega)]
  rw [e1,ih];unfold tlA
  repeat' split
  all_goals first | rfl | (exfalso;omega) | (congr 1;omega)
theorem QqS {s : List UInt8} {i j : Nat} (h : i = j) : s[i]? = s[j]?:=by rw [h]
theorem Qm1 {s : List UInt8} (h : s.length = 512) : ∀ i,i ≤ 8 → ∀ j,(opI s i)[j]? = if j < 64 * i ∧ 62 ≤ j % 64 then s[42 + 2 * (j / 64) + (j % 64 - 62)]? else s[j]?
 | 0,_,j=>by
  rw [if_neg (by omega)];rfl
 | i + 1,hi,j=>by
  have hl:=Z3 h i (by omega);have ih:=Qm1 h i (by omega);have h2 : (Qp (opI s i) (42 + 2 * i) 2).length = 2:=Xl (by omega);show (QI _ _ _)[j]? = _;rw [YD (by rw [h2,hl];unfold tlA;omega),h2];unfold tlA
  by_cases c1 : 64 * i + 62 ≤ j ∧ j < 64 * i + 64
  ·rw [if_neg (by omega),if_pos (by omega),if_pos (by omega),ZE (by omega),ih,if_neg (by omega)];congr 1;omega
  ·have e : (if j < 64 * i + 62 then (opI s i)[j]? else if j < 64 * i + 62 + 2 then (Qp (opI s i) (42 + 2 * i) 2)[j - (64 * i + 62)]? else (opI s i)[j]?) = (opI s i)[j]?:=by
    split
    ·rfl
    ·rw [if_neg (by omega)]
   refine e.trans ?_;rw [ih]
   by_cases d : j < 64 * i ∧ 62 ≤ j % 64
   ·rw [if_pos d,if_pos (by omega)]
   ·rw [if_neg d,if_neg (by omega)]
theorem Zu {s : List UInt8} (h : s.length = 512) : (QJ s).length = 512:=by
 unfold QJ;rw [XO (by rw [Z3 h 8 (by omega)];simp),Z3 h 8 (by omega)]
theorem Qbi {s : List UInt8} (h : s.length = 512) (j : Nat) : (QJ s)[j]? = if 40 ≤ j ∧ j < 58 then some 0 else if j < 512 ∧ 62 ≤ j % 64 then s[42 + 2 * (j / 64) + (j % 64 - 62)]? else s[j]?:=by
 unfold QJ;rw [YD (by rw [Z3 h 8 (by omega)];simp),Qm1 h 8 (by omega),List.length_replicate]
 by_cases c : 40 ≤ j ∧ j < 58
 ·rw [if_pos c,if_neg (by omega),if_pos (by omega),List.getElem?_replicate,if_pos (by omega)]
 ·rw [if_neg c];split
  ·rfl
  ·rw [if_neg (by omega)]
theorem QcQ {s : List UInt8} {u : Int} (h : s.length = 512) : (QbV s u).length = 512:=Qes h 8 (by omega)
theorem Zt {s : List UInt8} {u : Int} (h : s.length = 512) (j : Nat) : (QbV s u)[j]? = if j < 40 then s[j]? else if j < 42 then (le2 u)[j - 40]? else if j < 58 then s[tlA ((j - 42) / 2) + (j - 42) % 2]? else if j < 512 ∧ 62 ≤ j % 64 then (le2 u)[j % 64 - 62]? else s[j]?:=Qnw h 8 (by omega) j
theorem Qrs {s t : List UInt8} {i j : Nat} (h : s[i]? = t[j]?) : ub1 s i = ub1 t j:=by simp only [ub1,List.getD_eq_getElem?_getD,h]
theorem QrJ {s t : List UInt8} {i j : Nat} (h : s[i]? = t[j]?) (h2 : s[i + 1]? = t[j + 1]?) : ub2 s i = ub2 t j:=by simp only [ub2,Qrs h,Qrs h2]
theorem QrR {u : Int} (h : 0 ≤ u ∧ u < 65536) : (ub2 (le2 u) 0 : Int) = u:=by
 have e0 : ub1 (le2 u) 0 = (by8 u).toNat:=rfl;have e1 : ub1 (le2 u) 1 = (by8 (u / 256)).toNat:=rfl;have f0:=QG u;have f1:=QG (u / 256);unfold ub2;rw [e0,e1];omega
theorem Qns {s : List UInt8} {u : Int} (h : s.length = 512) (hu : 0 ≤ u ∧ u < 65536) : (ub2 (QbV s u) 40 : Int) = u:=by
 rw [QrJ (t:=le2 u) (j:=0) (by rw [Zt h,if_neg (by omega),if_pos (by omega)]) (by rw [Zt h,if_neg (by omega),if_pos (by omega)])];exact QrR hu
theorem Qn5 {s : List UInt8} {u : Int} (h : s.length = 512) (hu : 0 ≤ u ∧ u < 65536) {i : Nat} (hi : i < 8) : (ub2 (QbV s u) (tlA i) : Int) = u:=by
 rw [QrJ (t:=le2 u) (j:=0) (by unfold tlA;rw [Zt h,if_neg (by omega),if_neg (by omega),if_neg (by omega),if_pos (by omega)];congr 1;omega) (by unfold tlA;rw [Zt h,if_neg (by omega),if_neg (by omega),if_neg (by omega),if_pos (by omega)];congr 1;omega)];exact QrR hu
theorem QoI {s : List UInt8} {u : Int} (h : s.length = 512) (hu : 1 ≤ u ∧ u < 65536) : XH (QbV s u) = false:=by
 cases hb : XH (QbV s u) with
 | false=>rfl
 | true=>
  simp only [XH,List.any_eq_true,List.mem_range,Qbl,decide_eq_true_eq] at hb;obtain ⟨i,hi,hh⟩:=hb;have h1:=Qns h (u:=u) (by omega);have h2:=Qn5 h (u:=u) (by omega) hi;omega
theorem QpL {s : List UInt8} {i n : Nat} (h : zer (Qp s i n) = true) (hl : i + n ≤ s.length) {j : Nat} (h1 : i ≤ j) (h2 : j < i + n) : s[j]? = some 0:=by
 have h3 : s[j]? = (Qp s i n)[j - i]?:=by rw [ZE (by omega)];congr 1;omega
 rw [QaJ,Xl hl] at h;rw [h3,h,List.getElem?_replicate,if_pos (by omega)]
theorem Qh2 {s : List UInt8} {u : Int} (h : s.length = 512) (hz : zer (Qp s 40 18) = true) : QJ (QbV s u) = s:=by
 have hl:=QcQ (u:=u) h;apply List.ext_getElem?;intro j;rw [Qbi hl]
 by_cases c : 40 ≤ j ∧ j < 58
 ·rw [if_pos c,QpL hz (by omega) c.1 (by omega)]
 ·rw [if_neg c]
  by_cases c2 : j < 512 ∧ 62 ≤ j % 64
  ·rw [if_pos c2,Zt h,if_neg (by omega),if_neg (by omega),if_pos (by omega)];exact QqS (by unfold tlA;omega)
  ·rw [if_neg c2,Zt h]
   by_cases d1 : j < 40
   ·rw [if_pos d1]
   ·rw [if_neg d1,if_neg (by omega),if_neg (by omega),if_neg (by omega)]
theorem QkN {s : List UInt8} : XH s = false ↔ ub2 s 40 ≠ 0 ∧ ∀ i,i < 8 → ub2 s (tlA i) = ub2 s 40:=by
 constructor
 ·intro h
  have h2 : ∀ i,i < 8 → ¬ (ub2 s 40 = 0 ∨ ub2 s (tlA i) ≠ ub2 s 40):=by
   intro i hi hb;have : XH s = true:=List.any_eq_true.2 ⟨i,List.mem_range.2 hi,decide_eq_true hb⟩;rw [this] at h;cases h
  have:=h2 0 (by omega);exact ⟨by omega,fun i hi=>by have:=h2 i hi;omega⟩
 ·rintro ⟨h1,h2⟩;cases hb : XH s with
  | false=>rfl
  | true=>
   simp only [XH,List.any_eq_true,List.mem_range,Qbl,decide_eq_true_eq] at hb;obtain ⟨i,hi,hh⟩:=hb;have:=h2 i hi;omega
theorem Qk1 {s : List UInt8} {i j : Nat} (h : ub2 s i = ub2 s j) : ub1 s i = ub1 s j ∧ ub1 s (i + 1) = ub1 s (j + 1):=by
 have h1:=Yi s i;have h2:=Yi s (i + 1);have h3:=Yi s j;have h4:=Yi s (j + 1);unfold ub2 at h;omega
theorem QlG {s t : List UInt8} {i j : Nat} (hi : i < s.length) (hj : j < t.length) (h : ub1 s i = ub1 t j) : s[i]? = t[j]?:=by
 simp only [ub1,List.getD_eq_getElem?_getD,List.getElem?_eq_getElem hi,List.getElem?_eq_getElem hj,Option.getD_some] at h;rw [List.getElem?_eq_getElem hi,List.getElem?_eq_getElem hj];exact congrArg _ (UInt8.toNat_inj.1 h)
theorem QnO {s : List UInt8} {i j : Nat} (hi : i + 1 < s.length) (hj : j < 2) : (le2 (ub2 s i : Int))[j]? = s[i + j]?:=by
 rw [← QgO (by omega),ZE hj]
theorem QoF {s : List UInt8} (h : s.length = 512) (ht : XH s = false) : QbV (QJ s) (ub2 s 40 : Int) = s:=by
 have hl:=Zu h;obtain ⟨h1,h2⟩:=QkN.1 ht;apply List.ext_getElem?;intro j;rw [Zt hl]
 by_cases c1 : j < 40
 ·rw [if_pos c1,Qbi h,if_neg (by omega),if_neg (by omega)]
 ·rw [if_neg c1]
  by_cases c2 : j < 42
  ·rw [if_pos c2,QnO (by omega) (by omega)];exact QqS (by omega)
  ·rw [if_neg c2]
   by_cases c3 : j < 58
   ·rw [if_pos c3];unfold tlA;rw [Qbi h,if_neg (by omega),if_pos (by omega)];exact QqS (by omega)
   ·rw [if_neg c3]
    by_cases c4 : j < 512 ∧ 62 ≤ j % 64
    ·rw [if_pos c4,QnO (by omega) (by omega)];have h3:=Qk1 (h2 (j / 64) (by omega));unfold tlA at h3
     by_cases c5 : j % 64 = 62
     ·rw [c5];exact QlG (by omega) (by omega) (by rw [show j = 64 * (j / 64) + 62 by omega];exact h3.1.symm)
     ·rw [show j % 64 - 62 = 1 by omega];exact QlG (by omega) (by omega) (by rw [show j = 64 * (j / 64) + 62 + 1 by omega];exact h3.2.symm)
    ·rw [if_neg c4,Qbi h,if_neg (by omega),if_neg c4]
theorem Ql3 {s : List UInt8} (h : s.length = 512) : zer (Qp (QJ s) 40 18) = true:=by
 have hl:=Zu h;rw [QaJ,Xl (by omega)];apply List.ext_getElem?;intro j;rcases Nat.lt_or_ge j 18 with hj | hj
 ·rw [ZE hj,Qbi h,if_pos (by omega),List.getElem?_replicate,if_pos hj]
 ·rw [List.getElem?_eq_none (by rw [Xl (by omega)];omega),List.getElem?_eq_none (by simp;omega)]
def Qee : List UInt8:=[73,78,68,88]
def hdB (num lsn : Int) (count : Nat) : List UInt8:=Qee ++ List.replicate 4 0 ++ le4 lsn ++ le4 num ++ le2 count ++ List.replicate 46 0
def ZC (n : Nd) (num lsn : Int) : List UInt8:=hdB num lsn n.es.length ++ Q7 n ++ List.replicate (448 - (Q7 n).length) 0
def Qb8 (n : Nd) (num lsn usn : Int) : List UInt8:=QbV (ZC n num lsn) usn
theorem QbC (num lsn : Int) (c : Nat) : (hdB num lsn c).length = 64:=rfl
theorem Qa8 {n : Nd} {num lsn : Int} (h : (Q7 n).length ≤ 448) : (ZC n num lsn).length = 512:=by
 unfold ZC;rw [List.length_append,List.length_append,QbC,List.length_replicate];omega
theorem Qsn {n : Nd} {num lsn : Int} : Qp (ZC n num lsn) 64 (Q7 n).length = Q7 n:=by
 unfold ZC Qp;rw [List.append_assoc,show (64 : Nat) = (hdB num lsn n.es.length).length from rfl,List.drop_left,List.take_left]
theorem Qmo {n : Nd} {num lsn : Int} : Qp (ZC n num lsn) 0 64 = hdB num lsn n.es.length:=by
 unfold ZC Qp;rw [List.append_assoc,List.drop_zero,show (64 : Nat) = (hdB num lsn n.es.length).length from rfl,List.take_left]
theorem Qrh {n : Nd} {num lsn : Int} : (ZC n num lsn).drop (64 + (Q7 n).length) = List.replicate (448 - (Q7 n).length) 0:=by
 unfold ZC;rw [show 64 + (Q7 n).length = (hdB num lsn n.es.length ++ Q7 n).length by rw [List.length_append];rfl,List.drop_left]
theorem QcY {n : Nd} {num lsn : Int} : zer (Qp (ZC n num lsn) 40 18) = true:=by
 have h : Qp (Qp (ZC n num lsn) 0 64) 40 18 = Qp (hdB num lsn n.es.length) 40 18:=by rw [Qmo]
 rw [QcW (by omega),Nat.zero_add] at h;rw [h];rfl
def QgB (s : List UInt8) (num : Int) : Bool:=decide (s.take 4 = Qee) && (zer (Qp s 4 4) && (decide (ub4 s 8 ≤ 2147483647) && (decide ((ub4 s 12 : Int) = num) && (zer (Qp s 18 22) && zer (Qp s 58 6)))))
theorem Qsd {s : List UInt8} {num : Int} {c : Nat} (h : 64 ≤ s.length) (hc : c = ub2 s 16) (hn : 0 ≤ num ∧ num < 4294967296) (hz : zer (Qp s 40 18) = true) (hlsn : ub4 s 8 ≤ 2147483647) : hdB num (ub4 s 8 : Int) c = Qp s 0 64 ↔ QgB s num = true:=by
 subst hc
 have e : Qp s 0 64 = s.take 4 ++ Qp s 4 4 ++ le4 (ub4 s 8 : Int) ++ le4 (ub4 s 12 : Int) ++ le2 (ub2 s 16 : Int) ++ (Qp s 18 22 ++ (Qp s 40 18 ++ Qp s 58 6)):=by
  rw [show 64 = 4 + (4 + (4 + (4 + (2 + (22 + (18 + 6)))))) from rfl,Xs,Xs,Xs,Xs,Xs,Xs,Xs];simp only [Nat.zero_add,Nat.reduceAdd];rw [Qiu (i:=8) (by omega),Qiu (i:=12) (by omega),QgO (i:=16) (by omega),show Qp s 0 4 = s.take 4 by simp [Qp]];simp only [List.append_assoc]
 have z18:=(QaJ _).1 hz;rw [Xl (by omega)] at z18;have er : List.replicate 46 (0 : UInt8) = List.replicate 22 0 ++ (List.replicate 18 0 ++ List.replicate 6 0):=rfl;have l4 : (s.take 4).length = 4:=by simp only [List.length_take];omega
 have l44 : (Qp s 4 4).length = 4:=Xl (by omega);constructor
 ·intro hh;rw [e] at hh;unfold hdB at hh;obtain ⟨hh,f6⟩:=List.append_inj hh (by simp only [List.length_append,l4,l44];rfl);obtain ⟨hh,f5⟩:=List.append_inj hh (by simp only [List.length_append,l4,l44];rfl);obtain ⟨hh,f4⟩:=List.append_inj hh (by simp only [List.length_append,l4,l44];rfl);obtain ⟨hh,f3⟩:=List.append_inj hh (by simp only [List.length_append,l4,l44];rfl);obtain ⟨f1,f2⟩:=List.append_inj hh (by rw [l4];rfl);rw [er] at f6;obtain ⟨g1,f6⟩:=List.append_inj f6 (by rw [Xl (by omega)];rfl);obtain ⟨g2,g3⟩:=List.append_inj f6 (by rw [Xl (by omega)];rfl);have f4':=QtX f4;have hb:=QmR s 12;simp only [QgB,Bool.and_eq_true,decide_eq_true_eq];refine ⟨f1.symm,?_,hlsn,by omega,?_,?_⟩
  ·rw [← f2];rfl
  ·rw [← g1];rfl
  ·rw [← g3];rfl
 ·intro hh;simp only [QgB,Bool.and_eq_true,decide_eq_true_eq] at hh;obtain ⟨f1,f2,_,f4,f5,f6⟩:=hh;rw [QaJ,Xl (by omega)] at f2 f5 f6;rw [e,f1,f2,f4,f5,z18,f6];rfl
def rdB (s : List UInt8) : Option (Nd × Nat):=if 1 ≤ ub2 s 16 ∧ ub2 s 16 ≤ 4 then rdN s 64 (ub2 s 16) else none
def QqG : Nd:=⟨false,[],[]⟩
structure NdR where
 n : Nd
 lsn : Int
 usn : Int
 e : Int
def ndE (e : Int) : NdR:=⟨QqG,0,0,e⟩
def YC (b : List UInt8) (num : Int) : NdR:=
 if b.length = 512 then
  if 1 ≤ num ∧ num ≤ 120 then
   if XH b then ndE 31
   else match rdB (QJ b) with
    | some (n,last)=>if QgB (QJ b) num && zer ((QJ b).drop last) then ⟨n,(ub4 (QJ b) 8 : Int),(ub2 b 40 : Int),0⟩ else ndE 3
    | none=>ndE 3
  else ndE 2
 else ndE 10
theorem Qd2 {s : List UInt8} {n : Nd} {last : Nat} (hl : s.length = 512) (h : rdB s = some (n,last)) : Q7 n = Qp s 64 (last - 64) ∧ 72 ≤ last ∧ last ≤ 512 ∧ n.es.length = ub2 s 16 ∧ (1 ≤ ub2 s 16 ∧ ub2 s 16 ≤ 4) ∧ NdW n:=by
 unfold rdB at h;split at h
 ·rename_i hc;obtain ⟨h1,h2,h3,h4,h5,h6,h7,h8,h9⟩:=Qi2 (by omega) h;exact ⟨h1,by omega,by omega,h6,hc,⟨h5,h8,by omega,h9⟩⟩
 ·cases h
theorem Qka {s : List UInt8} {n : Nd} {last : Nat} (hl : s.length = 512) (h : rdB s = some (n,last)) : (Q7 n).length = last - 64:=by
 obtain ⟨h1,h2,h3,_⟩:=Qd2 hl h;rw [h1,Xl (by omega)]
theorem QmE {b : List UInt8} {num : Int} {n : Nd} {last : Nat} (hl : b.length = 512) (ht : XH b = false) (hn : 0 ≤ num ∧ num < 4294967296) (h : rdB (QJ b) = some (n,last)) (hlsn : ub4 (QJ b) 8 ≤ 2147483647) :
  Qb8 n num (ub4 (QJ b) 8 : Int) (ub2 b 40 : Int) = b ↔ (QgB (QJ b) num && zer ((QJ b).drop last)) = true:=by
 have ho:=Zu hl;obtain ⟨h1,h2,h3,h4,h5,h6⟩:=Qd2 ho h;have hc:=Qka ho h;have hz:=Ql3 hl;have hu:=QdT b 40;have hN : (ZC n num (ub4 (QJ b) 8 : Int)).length = 512:=Qa8 (by omega)
 have hiff : Qb8 n num (ub4 (QJ b) 8 : Int) (ub2 b 40 : Int) = b ↔ ZC n num (ub4 (QJ b) 8 : Int) = QJ b:=by
  constructor
  ·intro hh;have:=congrArg QJ hh;unfold Qb8 at this
   rwa [Qh2 hN QcY] at this
  ·intro hh;unfold Qb8;rw [hh];exact QoF hl ht
 rw [hiff]
 have hs : QJ b = Qp (QJ b) 0 64 ++ Q7 n ++ (QJ b).drop last:=by
  rw [h1]
  have e1 : Qp (QJ b) 0 64 ++ Qp (QJ b) 64 (last - 64) = (QJ b).take last:=by
   have:=Xs (QJ b) 0 64 (last - 64);rw [Nat.zero_add] at this;rw [← this,show 64 + (last - 64) = last by omega];simp [Qp]
  rw [e1,List.take_append_drop]
 have hd:=Qsd (s:=QJ b) (num:=num) (c:=n.es.length) (by omega) h4 hn hz hlsn;have l64 : (Qp (QJ b) 0 64).length = 64:=Xl (by omega);have hdl : ((QJ b).drop last).length = 448 - (Q7 n).length:=by rw [List.length_drop,ho,hc];omega
 constructor
 ·intro hh;rw [hs] at hh;have hh' : hdB num (ub4 (Qp (QJ b) 0 64 ++ Q7 n ++ (QJ b).drop last) 8 : Int) n.es.length ++ Q7 n ++ List.replicate (448 - (Q7 n).length) 0 = Qp (QJ b) 0 64 ++ Q7 n ++ (QJ b).drop last:=hh;rw [← hs] at hh';have hh2 : hdB num (ub4 (QJ b) 8 : Int) n.es.length ++ Q7 n ++ List.replicate (448 - (Q7 n).length) 0 = Qp (QJ b) 0 64 ++ Q7 n ++ (QJ b).drop last:=by rw [hh',← hs]
  obtain ⟨f1,f2⟩:=List.append_inj hh2 (by rw [List.length_append,List.length_append,l64];rfl);have f3:=List.append_cancel_right f1;rw [Bool.and_eq_true];refine ⟨hd.1 f3,?_⟩;rw [← f2];exact Qem _
 ·intro hh;rw [Bool.and_eq_true] at hh;have f1:=hd.2 hh.1;have f2:=(QaJ _).1 hh.2;rw [hdl] at f2;unfold ZC;rw [f1,← f2,← hs]
theorem QpR {n : Nd} {num lsn usn : Int} (hn : NdW n) (h1 : 1 ≤ n.es.length ∧ n.es.length ≤ 4) (hc : (Q7 n).length ≤ 448) (hnum : 1 ≤ num ∧ num ≤ 120) (hlsn : 0 ≤ lsn ∧ lsn ≤ 2147483647) (hu : 1 ≤ usn ∧ usn ≤ 65535) : YC (Qb8 n num lsn usn) num = ⟨n,lsn,usn,0⟩:=by
 have hN:=Qa8 (n:=n) (num:=num) (lsn:=lsn) hc;have hL : (Qb8 n num lsn usn).length = 512:=QcQ hN;have hT : XH (Qb8 n num lsn usn) = false:=QoI hN (by omega);have hO : QJ (Qb8 n num lsn usn) = ZC n num lsn:=Qh2 hN QcY;have h40 : (ub2 (Qb8 n num lsn usn) 40 : Int) = usn:=Qns hN (by omega);have hh:=Qmo (n:=n) (num:=num) (lsn:=lsn)
 have e16 : ub2 (ZC n num lsn) 16 = n.es.length:=by
  rw [show (16 : Nat) = 0 + 16 from rfl,← Qf6 (show 16 + 1 < 64 by omega),hh];have f0:=QG (n.es.length : Int);have f1:=QG ((n.es.length : Int) / 256);have a0 : ub1 (hdB num lsn n.es.length) 16 = (by8 (n.es.length : Int)).toNat:=rfl;have a1 : ub1 (hdB num lsn n.es.length) 17 = (by8 ((n.es.length : Int) / 256)).toNat:=rfl;unfold ub2;rw [a0,a1];omega
 have e8 : (ub4 (ZC n num lsn) 8 : Int) = lsn:=by
  rw [show (8 : Nat) = 0 + 8 from rfl,← QlC (show 8 + 3 < 64 by omega),hh];have f4:=QG lsn;have f5:=QG (lsn / 256);have f6:=QG (lsn / 65536);have f7:=QG (lsn / 16777216);have e : ub4 (hdB num lsn n.es.length) 8 = (by8 lsn).toNat + (by8 (lsn / 256)).toNat * 256 + ((by8 (lsn / 65536)).toNat + (by8 (lsn / 16777216)).toNat * 256) * 65536:=rfl;rw [e];omega
 have hR : rdB (ZC n num lsn) = some (n,64 + (Q7 n).length):=by
  unfold rdB;rw [e16,if_pos h1];exact QjC hn (by omega) Qsn
 have hH : QgB (ZC n num lsn) num = true:=by
  refine (Qsd (c:=n.es.length) (by omega) e16.symm (by omega) QcY (by omega)).1 ?_;rw [e8,hh]
 unfold YC;rw [if_pos hL,if_pos hnum,hT,hO,hR];simp only [Bool.false_eq_true,if_false,hH,Qrh,Qem,Bool.and_self,if_true,e8,h40]
def Y9 : List UInt8:=[82,79,79,84]
def Qao (t : Tre) : List UInt8:=Y9 ++ [by8 t.co,by8 t.mo,by8 t.rm,by8 (nth t.ns 0).es.length] ++ Q7 (nth t.ns 0)
def noT : Tre:=⟨0,0,0,[]⟩
def Qa7 (co : Int) (es : List TEnt) (i : Nat) : Bool:=QU co (nth es i).key && decide (i = 0 ∨ Xm co (nth es (i - 1)).key (nth es i).key < 0)
def QdW (co : Int) (es : List TEnt) : Bool:=(List.range es.length).all (Qa7 co es)
theorem Qcz {co : Int} {es : List TEnt} : QdW co es = true ↔ ∀ i,i < es.length → Qa7 co es i = true:=by grind [QdW]
theorem QmB {co : Int} {es : List TEnt} {i : Nat} (hi : i < es.length) (h : Qa7 co es i = false) : QdW co es = false:=by
 cases hb : QdW co es with
 | false=>rfl
 | true=>rw [Qcz.1 hb i hi] at h;cases h
def Qd (s : List UInt8) : Tre × Int:=
 if s.length < 16 then (noT,10)
 else if s.take 4 = Y9 then
  if Qs (at1 s 4) = 0 then
   if XG (at1 s 5) (at1 s 6) = 0 then
    if at1 s 5 ≤ 4 then
     if at1 s 7 ≤ at1 s 6 then
      match rdN s 8 (ub1 s 7) with
      | some (n,last)=>if last = s.length ∧ QdW (at1 s 4) n.es = true then (⟨at1 s 4,at1 s 5,at1 s 6,[n]⟩,0) else (noT,3)
      | none=>(noT,3)
     else (noT,16)
    else (noT,8)
   else (noT,XG (at1 s 5) (at1 s 6))
  else (noT,Qs (at1 s 4))
 else (noT,3)
def YZ (x : TEnt) : Bool:=decide (x.key.length + x.val.length ≤ 88)
def ZS (n : Nd) : Bool:=n.es.all YZ
def YM (t : Tre) : Int:=if (Yx t).2 = 0 then if t.mo ≤ 4 ∧ t.ns.all ZS = true then 0 else 8 else (Yx t).2
theorem QeU {t : Tre} (h : YM t = 0) : (Yx t).2 = 0 ∧ t.mo ≤ 4 ∧ ∀ n ∈ t.ns,∀ x ∈ n.es,x.key.length + x.val.length ≤ 88:=by
 unfold YM at h;split at h
 ·rename_i h1;split at h
  ·rename_i h2;refine ⟨h1,h2.1,fun n hn x hx=>?_⟩;have h3:=List.all_eq_true.1 h2.2 n hn;have h4:=List.all_eq_true.1 h3 x hx
   simpa [YZ] using h4
  ·cases h
 grind
theorem Qoa {co : Int} {k : List UInt8} (h : QU co k = true) : 1 ≤ k.length ∧ k.length ≤ 40:=by grind [QU]
theorem Qm5 {co : Int} {x : TEnt} (h : Y0 co x = 0) : QU co x.key = true ∧ x.val.length ≤ 64:=by grind [Y0,Yf]
theorem Qfo {n : Nd} (h : ∀ x ∈ n.es,X9 x 0 = true) : ∀ k,k ≤ n.es.length → (QO n k).length ≤ 96 * k
 | 0,_=>by simp [QO]
 | k + 1,hk=>by
  have ih:=Qfo h k (by omega);have hx:=h _ (Qv (show k < n.es.length by omega));simp only [X9,decide_eq_true_eq] at hx;have hsz : (nth n.es k).sz = 8 + (nth n.es k).key.length + (nth n.es k).val.length:=rfl
  grind [QO,Qd8,QF]
theorem QlA {n : Nd} (h : ∀ x ∈ n.es,X9 x 0 = true) : (Q7 n).length ≤ 96 * n.es.length + 8:=by grind [Qfo,Q7,Qbg]
theorem QaQ {t : Tre} (h : YM t = 0) {i : Nat} (hi : i < t.ns.length) (hu : (nth t.ns i).us = true) : NdW (nth t.ns i) ∧ (nth t.ns i).es.length ≤ 4 ∧ (Q7 (nth t.ns i)).length ≤ 392 ∧ QdW t.co (nth t.ns i).es = true ∧ t.ns.length ≤ 120:=by
 obtain ⟨h1,h2,h3⟩:=QeU h;obtain ⟨hc,hs,h0,hl,hn,_⟩:=QgM h1;have hT:=Qha hn;obtain ⟨hE,_⟩:=Qef (by omega) hn List.nodup_nil;obtain ⟨sn,hE⟩:=hE i (Nat.zero_le _) hi;have hmo : XG t.mo t.rm = 0:=hs;have hsz : (3 ≤ t.mo ∧ t.mo ≤ 8) ∧ (t.mo / 2 ≤ t.rm ∧ t.rm ≤ t.mo):=by grind [XG]
 have hm : ((nth t.ns i).es.length : Int) ≤ YU t.mo t.rm i:=by grind [XS]
 have hle : (nth t.ns i).es.length ≤ 4:=by grind [YU]
 have hK : ∀ x ∈ (nth t.ns i).es,X9 x 0 = true:=fun x hx=>by
  obtain ⟨a,b⟩:=Qm5 (hT.ents i hi x hx);have c:=Qoa a;have d:=h3 _ (Qv hi) x hx;simp only [X9,decide_eq_true_eq];omega
 have hb:=QlA hK;refine ⟨⟨hu,hK,hT.shape i hi,fun c hc=>by have:=(hT.kid i hi c hc).1;omega⟩,hle,by omega,?_,hl⟩;rw [Qcz];intro k hk;simp only [Qa7,Bool.and_eq_true,decide_eq_true_eq];refine ⟨(Qm5 (hT.ents i hi _ (Qv hk))).1,?_⟩;rcases Nat.eq_zero_or_pos k with h0 | h0
 ·exact .inl h0
 ·have:=hT.asc i hi (k - 1) (by omega)
  grind
theorem Qbe {t : Tre} (h : YM t = 0) : 0 < t.ns.length ∧ (nth t.ns 0).us = true ∧ Qs t.co = 0 ∧ XG t.mo t.rm = 0 ∧ ((nth t.ns 0).es.length : Int) ≤ t.rm:=by
 obtain ⟨h1,h2,h3⟩:=QeU h;obtain ⟨hc,hs,h0,hl,hn,_⟩:=QgM h1;have hT:=Qha hn;obtain ⟨hE,_⟩:=Qef (by omega) hn List.nodup_nil
 grind [nth,XS,YU]
theorem QkW (t : Tre) : (Qao t).length = 8 + (Q7 (nth t.ns 0)).length:=by
 unfold Qao;rw [List.length_append];rfl
theorem QlP {t : Tre} (h : YM t = 0) : Qd (Qao t) = (⟨t.co,t.mo,t.rm,[nth t.ns 0]⟩,0):=by
 obtain ⟨h0,hu,hc,hs,hr⟩:=Qbe h;obtain ⟨hW,h4,hb,ha,hl⟩:=QaQ h h0 hu;obtain ⟨_,hm4,_⟩:=QeU h;have hsz : (3 ≤ t.mo ∧ t.mo ≤ 8) ∧ (t.mo / 2 ≤ t.rm ∧ t.rm ≤ t.mo):=by grind [XG]
 have hco : 0 ≤ t.co ∧ t.co ≤ 3:=by grind [Qs]
 have hL:=QkW t;have hcl : 8 ≤ (Q7 (nth t.ns 0)).length:=by unfold Q7;rw [List.length_append,Qbg];omega
 have e4 : at1 (Qao t) 4 = t.co:=by have:=QG t.co;show ((by8 t.co).toNat : Int) = _;omega
 have e5 : at1 (Qao t) 5 = t.mo:=by have:=QG t.mo;show ((by8 t.mo).toNat : Int) = _;omega
 have e6 : at1 (Qao t) 6 = t.rm:=by have:=QG t.rm;show ((by8 t.rm).toNat : Int) = _;omega
 have e7 : ub1 (Qao t) 7 = (nth t.ns 0).es.length:=by have:=QG ((nth t.ns 0).es.length : Int);show (by8 ((nth t.ns 0).es.length : Int)).toNat = _;omega
 have e7' : at1 (Qao t) 7 = ((nth t.ns 0).es.length : Int):=by rw [QkB,e7]
 have hsub : Qp (Qao t) 8 (Q7 (nth t.ns 0)).length = Q7 (nth t.ns 0):=by
  show List.take _ (Q7 (nth t.ns 0)) = _;simp
 have hR:=QjC hW (by omega) hsub;unfold Qd;rw [if_neg (by omega),if_pos (show (Qao t).take 4 = Y9 from rfl),e4,e5,e6,e7',e7,if_pos hc,if_pos hs,if_pos hm4,if_pos hr,hR]
 grind
theorem QkV {ns : List Nd} {below : List Nat} : ∀ {f i : Nat},Qas ns below f i = none → ∀ j,i ≤ j → j < i + f → (nth ns j).us = true → j ∈ below
 | 0,i,_,j,h1,h2,_=>by omega
 | f + 1,i,h,j,h1,h2,hu=>by
  rw [Qas] at h;split at h
  ·cases h
  ·rename_i hn;rcases Nat.eq_or_lt_of_le h1 with e | e
   ·grind
   ·exact QkV h j e (by omega) hu
theorem Qm4 {t : Tre} {deep : Int} : ∀ {vs : List Vis},(X8 t deep vs).2 = 0 → ∀ v ∈ vs,QdB t deep v = 0
 | [],_,v,hv=>by cases hv
 | u :: vs,h,v,hv=>by
  rw [X8] at h;split at h
  ·rename_i h1;rcases List.mem_cons.1 hv with e | e
   ·rw [e];exact h1
   ·exact Qm4 h v e
  grind
theorem QtQ {t : Tre} (h : YM t = 0) {i : Nat} (h0 : 0 < i) (hi : i < t.ns.length) (hu : (nth t.ns i).us = true) : 1 ≤ (nth t.ns i).es.length:=by
 obtain ⟨h1,h2,_⟩:=QeU h;obtain ⟨hc,hs,hz,hl,hn,hsh,_⟩:=QgM h1;have hsz : (3 ≤ t.mo ∧ t.mo ≤ 8) ∧ (t.mo / 2 ≤ t.rm ∧ t.rm ≤ t.mo):=by grind [XG]
 have hop : Qas t.ns ((YT t.ns).map Vis.i) t.ns.length 0 = none:=by
  cases e : Qas t.ns ((YT t.ns).map Vis.i) t.ns.length 0 with
  | none=>rfl
  | some k=>rw [Qdx e] at hsh;cases hsh
 rw [QdA hop] at hsh;have hin:=QkV hop i (Nat.zero_le _) (by omega) hu;obtain ⟨v,hv,rfl⟩:=List.mem_map.1 hin;have hE:=Qm4 hsh v hv
 grind [QdB,nth]
structure Ixs where
 ro : List UInt8
 al : List UInt8
 bm : List UInt8
deriving DecidableEq,Inhabited
def Ixs.n (x : Ixs) : Nat:=x.al.length / 512
def Ixs.blk (x : Ixs) (i : Nat) : List UInt8:=Qp x.al ((i - 1) * 512) 512
def ZM (bm : List UInt8) (j : Nat) : Bool:=decide (ub1 bm (j / 8) / 2 ^ (j % 8) % 2 = 1)
def Qa9 (x : Ixs) (i : Nat) : Bool:=decide (1 ≤ i ∧ i ≤ x.n) && ZM x.bm (i - 1)
def Qdh (x : Ixs) : Bool:=(List.range (8 * x.bm.length)).any fun j=>decide (x.n ≤ j) && ZM x.bm j
def ixE (x : Ixs) : Int:=
 if x.al.length ≤ 61440 ∧ x.ro.length ≤ 200000 then
  if x.al.length % 512 = 0 ∧ x.bm.length = QF ((x.n + 7) / 8) then
   if (Qd x.ro).2 = 0 then
    if Qdh x then 3 else if x.n = 0 ∨ ZM x.bm (x.n - 1) = true then 0 else 3
   else (Qd x.ro).2
  else 10
 else 8
def bkN (x : Ixs) (i : Nat) : Nd:=if Qa9 x i then (YC (x.blk i) i).n else QqG
def bkE (x : Ixs) (i : Nat) : Int:=if Qa9 x i then (YC (x.blk i) i).e else if zer (x.blk i) then 0 else 3
def Qhj (x : Ixs) : Nat → Nat → Option Nat
 | 0,_=>none
 | f + 1,i=>if bkE x i = 0 then Qhj x f (i + 1) else some i
def Qae (x : Ixs) (k : Nat) : List Nd:=(Qd x.ro).1.ns ++ (List.range k).map fun j=>bkN x (j + 1)
def QbA (x : Ixs) : Tre:=⟨(Qd x.ro).1.co,(Qd x.ro).1.mo,(Qd x.ro).1.rm,Qae x x.n⟩
def rdI (x : Ixs) : (Tre × Int) × Int:=
 if ixE x = 0 then
  match Qhj x x.n 1 with
  | some i=>((noT,(i : Int)),bkE x i)
  | none=>if (Yx (QbA x)).2 = 0 then ((QbA x,0),0) else ((noT,(Yx (QbA x)).1),(Yx (QbA x)).2)
 else ((noT,0),ixE x)
theorem Qbm (x : Ixs) (k : Nat) : Qae x (k + 1) = Qae x k ++ [bkN x (k + 1)]:=by
 unfold Qae;rw [List.range_succ,List.map_append,List.append_assoc];rfl
theorem Qfb {x : Ixs} (h : (Qd x.ro).1.ns.length = 1) (k : Nat) : (Qae x k).length = k + 1:=by grind [Qae]
theorem QeT {x : Ixs} : ∀ {f i : Nat},(∀ j,i ≤ j → j < i + f → bkE x j = 0) → Qhj x f i = none
 | 0,_,_=>rfl
 | f + 1,i,h=>by
  rw [Qhj,if_pos (h i (Nat.le_refl _) (by omega))];exact QeT fun j h1 h2=>h j (by omega) (by omega)
theorem QcV {s : List UInt8} (h : (Qd s).2 = 0) : ∃ n last,rdN s 8 (ub1 s 7) = some (n,last) ∧ last = s.length ∧ QdW (at1 s 4) n.es = true ∧ Qd s = (⟨at1 s 4,at1 s 5,at1 s 6,[n]⟩,0) ∧ 16 ≤ s.length ∧ s.take 4 = Y9 ∧ Qs (at1 s 4) = 0 ∧ XG (at1 s 5) (at1 s 6) = 0 ∧ at1 s 5 ≤ 4 ∧ at1 s 7 ≤ at1 s 6:=by grind [Qd]
theorem Qix {x : Ixs} (h : ixE x = 0) : (x.al.length ≤ 61440 ∧ x.ro.length ≤ 200000) ∧ (x.al.length % 512 = 0 ∧ x.bm.length = QF ((x.n + 7) / 8)) ∧ (Qd x.ro).2 = 0 ∧ Qdh x = false ∧ (x.n = 0 ∨ ZM x.bm (x.n - 1) = true):=by grind [ixE]
def ZY (ns : List Nd) (g : Nat) : Nat → Nat
 | 0=>0
 | i + 1=>ZY ns g i + (if (nth ns (8 * g + i + 1)).us = true ∧ 8 * g + i + 1 < ns.length then 2 ^ i else 0)
def YS (ns : List Nd) : Nat:=QF ((ns.length - 1 + 7) / 8)
def bmB (ns : List Nd) : List UInt8:=(List.range (YS ns)).map fun g=>by8 (ZY ns g 8 : Nat)
def YL (blk : Nat → List UInt8) : Nat → List UInt8
 | 0=>[]
 | k + 1=>YL blk k ++ blk (k + 1)
def Qhc : List UInt8:=List.replicate 512 0
def ZK (t : Tre) (i : Nat) : List UInt8:=if (nth t.ns i).us = true then Qb8 (nth t.ns i) i 0 1 else Qhc
def wrI (t : Tre) : Ixs:=⟨Qao t,YL (ZK t) (t.ns.length - 1),bmB t.ns⟩
theorem QfX (ns : List Nd) (g : Nat) : ∀ i,ZY ns g i < 2 ^ i
 | 0=>by simp [ZY]
 | i + 1=>by
  have:=QfX ns g i
  grind [ZY]
theorem Qjz (ns : List Nd) (g : Nat) {j : Nat} : ∀ i,j < i → ZY ns g i / 2 ^ j % 2 = if (nth ns (8 * g + j + 1)).us = true ∧ 8 * g + j + 1 < ns.length then 1 else 0
 | 0,h=>absurd h (Nat.not_lt_zero _)
 | i + 1,h=>by
  have hlt:=QfX ns g i;rcases Nat.lt_or_ge j i with hj | hj
  ·have ih:=Qjz ns g i hj;rw [← ih,ZY];split
   ·rw [show 2 ^ i = 2 ^ j * (2 * 2 ^ (i - j - 1)) by rw [← Nat.mul_assoc,← Nat.pow_succ,← Nat.pow_add];congr 1;omega,Nat.add_mul_div_left _ _ (Nat.pow_pos (by omega))];omega
   grind
  ·obtain rfl : j = i:=by omega
   rw [ZY];split
   ·rw [Nat.add_div_right _ (Nat.pow_pos (by omega)),Nat.div_eq_of_lt hlt]
   ·rw [Nat.add_zero,Nat.div_eq_of_lt hlt]
theorem Qi3 (ns : List Nd) : (bmB ns).length = YS ns:=by simp [bmB]
theorem QsV (ns : List Nd) (j : Nat) : ZM (bmB ns) j = decide (j + 1 < ns.length ∧ (nth ns (j + 1)).us = true):=by
 unfold ZM;rcases Nat.lt_or_ge (j / 8) (YS ns) with hj | hj
 ·have h1 : ub1 (bmB ns) (j / 8) = ZY ns (j / 8) 8:=by
   unfold ub1 bmB;rw [List.getD_eq_getElem?_getD,List.getElem?_map,List.getElem?_range hj];have:=QfX ns (j / 8) 8
   grind [QG,ZY]
  grind [Qjz,nth]
 ·have h1 : ub1 (bmB ns) (j / 8) = 0:=by simp_all [ub1,Qi3]
  have hlt : ¬ j + 1 < ns.length:=by grind [XU,YS]
  rw [h1,Nat.zero_div,decide_eq_false (by omega),decide_eq_false (fun h=>hlt h.1)]
theorem QcN {blk : Nat → List UInt8} (h : ∀ i,(blk i).length = 512) : ∀ k,(YL blk k).length = 512 * k
 | 0=>rfl
 | k + 1=>by rw [YL,List.length_append,QcN h k,h];omega
theorem QhR {blk : Nat → List UInt8} (h : ∀ i,(blk i).length = 512) {i : Nat} (h1 : 1 ≤ i) : ∀ k,i ≤ k → Qp (YL blk k) ((i - 1) * 512) 512 = blk i
 | 0,hi=>by omega
 | k + 1,hi=>by
  have hl:=QcN h k;rcases Nat.lt_or_ge k i with hk | hk
  ·grind [YL,Qp]
  ·rw [← QhR h h1 k hk,YL]
   grind [Qp]
structure Holds (t : Tre) (blk : Nat → List UInt8) : Prop where
 len : ∀ i,(blk i).length = 512
 us : ∀ i,1 ≤ i → i < t.ns.length → (nth t.ns i).us = true → (YC (blk i) i).n = nth t.ns i ∧ (YC (blk i) i).e = 0
 free : ∀ i,1 ≤ i → i < t.ns.length → (nth t.ns i).us = false → zer (blk i) = true
def Qab (t : Tre) (blk : Nat → List UInt8) : Ixs:=⟨Qao t,YL blk (t.ns.length - 1),bmB t.ns⟩
theorem QkE {t : Tre} {blk : Nat → List UInt8} (h : YM t = 0) (hb : Holds t blk) : ixE (Qab t blk) = 0 ∧ rdI (Qab t blk) = ((t,0),0):=by
 obtain ⟨g1,g2,g3⟩:=QeU h;obtain ⟨hc,hs,h0,hl,hn,_⟩:=QgM g1;have hT:=Qha hn;obtain ⟨_,hu0,_⟩:=Qbe h;obtain ⟨hW,h4,hcl,_⟩:=QaQ h h0 hu0;have hrt:=QlP h;have hal:=QcN hb.len (t.ns.length - 1)
 have hN : (Qab t blk).n = t.ns.length - 1:=by
  show (YL blk (t.ns.length - 1)).length / 512 = _;rw [hal];omega
 have hro : (Qd (Qab t blk).ro) = (⟨t.co,t.mo,t.rm,[nth t.ns 0]⟩,0):=hrt;have hbit : ∀ j,ZM (Qab t blk).bm j = decide (j + 1 < t.ns.length ∧ (nth t.ns (j + 1)).us = true):=fun j=>QsV t.ns j;have hblk : ∀ i,1 ≤ i → i < t.ns.length → (Qab t blk).blk i = blk i:=fun i a b=>QhR hb.len a _ (by omega)
 have hnam : ∀ i,1 ≤ i → i < t.ns.length → Qa9 (Qab t blk) i = (nth t.ns i).us:=fun i a b=>by
  unfold Qa9;rw [hN,hbit,show i - 1 + 1 = i by omega,decide_eq_true (show 1 ≤ i ∧ i ≤ t.ns.length - 1 by omega)];simp [b]
 have hE : ixE (Qab t blk) = 0:=by
  unfold ixE;rw [if_pos (show (Qab t blk).al.length ≤ 61440 ∧ (Qab t blk).ro.length ≤ 200000 from ⟨by show (YL blk _).length ≤ _;rw [hal];omega,by show (Qao t).length ≤ _;rw [QkW];omega⟩)];rw [if_pos (show (Qab t blk).al.length % 512 = 0 ∧ (Qab t blk).bm.length = QF (((Qab t blk).n + 7) / 8) from ⟨by show (YL blk _).length % _ = _;rw [hal];omega,by rw [hN];exact Qi3 t.ns⟩)];rw [if_pos (show (Qd (Qab t blk).ro).2 = 0 by rw [hro])];have ho : Qdh (Qab t blk) = false:=by grind [Qdh,Qab]
  rw [ho];simp only [Bool.false_eq_true,if_false];rw [if_pos];rw [hN,hbit];rcases Nat.eq_zero_or_pos (t.ns.length - 1) with hz | hz
  ·exact .inl hz
  ·refine .inr (decide_eq_true ?_);rw [show t.ns.length - 1 - 1 + 1 = t.ns.length - 1 by omega];refine ⟨by omega,?_⟩;cases hu : (nth t.ns (t.ns.length - 1)).us with
   | true=>rfl
   | false=>have:=(hT.free _ (by omega) hu).1.2;omega
 have hbk : ∀ i,1 ≤ i → i < t.ns.length → bkN (Qab t blk) i = nth t.ns i ∧ bkE (Qab t blk) i = 0:=fun i a b=>by
  unfold bkN bkE;rw [hnam i a b,hblk i a b];cases hu : (nth t.ns i).us with
  | true=>
   obtain ⟨e1,e2⟩:=hb.us i a b hu;exact ⟨e1,e2⟩
  | false=>
   obtain ⟨_,e2,e3⟩:=hT.free i b hu;refine ⟨?_,?_⟩
   ·show QqG = _;have : nth t.ns i = ⟨(nth t.ns i).us,(nth t.ns i).es,(nth t.ns i).cs⟩:=rfl;rw [this,hu,e2,e3];rfl
   ·show (if zer (blk i) then (0 : Int) else 3) = 0;rw [hb.free i a b hu];rfl
 have hbad : Qhj (Qab t blk) (Qab t blk).n 1 = none:=QeT fun j a b=>(hbk j a (by rw [hN] at b;omega)).2
 have htr : QbA (Qab t blk) = t:=by
  unfold QbA Qae;rw [hro,hN]
  have : [nth t.ns 0] ++ (List.range (t.ns.length - 1)).map (fun j=>bkN (Qab t blk) (j + 1)) = t.ns:=by
   apply List.ext_getElem?
   grind [hi,Z2]
  simp_all
 grind [rdI]
theorem Qa2 : Qhc.length = 512:=List.length_replicate ..
theorem QcA {t : Tre} (h : YM t = 0) : Holds t (ZK t) ∧ wrI t = Qab t (ZK t):=by
 obtain ⟨g1,g2,g3⟩:=QeU h;obtain ⟨hc,hs,h0,hl,hn,_⟩:=QgM g1
 have hlen : ∀ i,i < t.ns.length → (ZK t i).length = 512:=fun i hi=>by
  unfold ZK;split
  ·rename_i hu;have:=QaQ h hi hu;exact QcQ (Qa8 (by omega))
  ·exact Qa2
 refine ⟨⟨fun i=>?_,fun i a b hu=>?_,fun i a b hu=>?_⟩,rfl⟩
 ·rcases Nat.lt_or_ge i t.ns.length with hi | hi
  ·exact hlen i hi
  ·unfold ZK;rw [if_neg]
   ·exact Qa2
   ·unfold nth;rw [List.getD_eq_getElem?_getD,List.getElem?_eq_none hi];intro hh;cases hh
 ·grind [QaQ,QtQ,QpR,ZK]
 ·unfold ZK;rw [hu];exact Qem 512
theorem QxE {t : Tre} (h : YM t = 0) : rdI (wrI t) = ((t,0),0):=by simp_all [QcA,QkE]
end Gx
namespace Go.Proofs
open Go Go.RowKit Gx
attribute [local irreducible] Go.Calls Gx.S Gx.O Gx.D Gx.OpP Gx.OpQ Gx.OpH
set_option maxRecDepth 20000
instance : TFn Tryz.prog 87:=⟨by kernel_rfl⟩
theorem Qd1 : QK Tryz.prog 60 = true:=by kernel_rfl
instance : TFn Tryz.prog 60:=⟨Qd1⟩
instance : TFn Tryz.prog 192:=⟨by kernel_rfl⟩
theorem Qjd : QK Tryz.prog 131 = true:=by kernel_rfl
instance : TFn Tryz.prog 131:=⟨Qjd⟩
theorem Z4 : QS Tryz.prog 5 = some [.int .u8 0]:=by kernel_rfl
theorem Qln : QK Tryz.prog 152 = true:=by kernel_rfl
theorem Qsi : QK Tryz.prog 153 = true:=by kernel_rfl
theorem c87 (w : World) (n lo hi : Int) : Calls Tryz.prog 87 #[.int .i64 n,.int .i64 lo,.int .i64 hi] w fun en w'=>en = .returned (.bool (decide (lo ≤ n) && decide (n ≤ hi))) ∧ Below w.heap.size w w':=by
 refine eN3 Tryz.func87 Tryz.ntmps87 ?_
 refine Zv ?_
 refine Yq 4 10 14 rfl
  (fun hg1 _=>by
   refine aU6 ?_
   exact oJt 4 14)
  (fun hg3 _=>by
   refine aU3 ?_
   exact oJf 4 14) ?_
 refine aU2 ?_
 exact rT rfl rfl (fun w' h'=>⟨rfl,h'.below⟩)
theorem c205 (w : World) (n lo hi : Int) : Calls Tryz.prog 205 #[.int .i64 n,.int .i64 lo,.int .i64 hi] w fun en w'=>en = .returned (.bool (decide (lo ≤ n) && decide (n ≤ hi))) ∧ Below w.heap.size w w':=by
 refine eN3 Tryz.func205 Tryz.ntmps205 ?_
 refine Zv ?_
 refine Yq 4 10 14 rfl
  (fun hg1 _=>by
   refine aU6 ?_
   exact oJt 4 14)
  (fun hg3 _=>by
   refine aU3 ?_
   exact oJf 4 14) ?_
 refine aU2 ?_
 exact rT rfl rfl (fun w' h'=>⟨rfl,h'.below⟩)
theorem c60 (w : World) (ok : Bool) (e : Int) : Calls Tryz.prog 60 #[.bool ok,.int .i64 e] w fun en w'=>en = .returned (.int .i64 (cond ok 0 e)) ∧ Below w.heap.size w w':=by
 refine eN2 Tryz.func60 Tryz.ntmps60 ?_
 refine aU9 ?_
 refine sCd rfl (fun h1=>?_) fun h1=>?_
 ·refine aU4 ?_
  exact rT rfl rfl (fun w' h'=>⟨by simp_all [QW],h'.below⟩)
 refine aU6 ?_
 exact rT rfl rfl (fun w' h'=>⟨by simp_all [QW],h'.below⟩)
theorem Qv5 (w : World) (ok : Bool) (e : Int) : Calls Tryz.prog 192 #[.bool ok,.int .i64 e] w fun en w'=>en = .returned (.int .i64 (cond ok 0 e)) ∧ Below w.heap.size w w':=by
 refine eN2 Tryz.func192 Tryz.ntmps192 ?_
 refine aU9 ?_
 refine sCd rfl (fun h1=>?_) fun h1=>?_
 ·refine aU4 ?_
  exact rT rfl rfl (fun w' h'=>⟨by simp_all [QW],h'.below⟩)
 refine aU6 ?_
 exact rT rfl rfl (fun w' h'=>⟨by simp_all [QW],h'.below⟩)
theorem c59 (w : World) (a : Option Addr) (cap : Nat) (es : List Int) (hs : Sl w [] a 1 es.length (fun i=>[.int .i64 (es.getD i 0)])) (hm : es.length ≤ 1000) : Calls Tryz.prog 59 #[.slice a es.length cap] w fun en w'=>en = .returned (.int .i64 (YF es)) ∧ Below w.heap.size w w':=by
 refine eN1 Tryz.func59 Tryz.ntmps59 ?_
 refine Qbn ?_
 refine Qr (α:=Nat) [2,4,7,8,9,10,11,12,13,14] (fun k=>[(7,.int .i64 (k : Int))]) (fun _=>_) (fun k=>k ≤ es.length ∧ YF es = YF (es.drop k)) (fun k=>es.length - k) 0 ⟨by omega,rfl⟩ aSx (fun w h=>h) (fun k hk=>?_)
 obtain ⟨hk1,hk2⟩:=hk
 refine aU5 ?_
 refine sCd rfl (fun h1=>?_) fun h1=>?_
 ·refine aU5 ?_
  refine o_p (Qa rfl rfl rfl YK _ rfl (by omega) (hs.some (by omega))) rfl ?_
  refine o_q (Qb rfl rfl Qqy (hs.rd (i:=k) (j:=0) (by omega) rfl)) rfl ?_
  refine aU7 ?_
  refine sCd rfl (fun h2=>?_) fun h2=>?_
  ·refine aU5 ?_
   exact rT rfl rfl (fun w' h'=>⟨by simp only [QW];rw [hk2,Y3 (by omega),if_neg (by assumption)],h'.below⟩)
  refine aT4 ?_
  refine aU2 ?_
  exact QP (k+1) (by omega) ⟨by omega,by rw [hk2,Y3 (by omega),if_pos (by assumption)]⟩ aSx (fun w h=>h)
 refine Qi rfl ?_
 refine aU4 ?_
 exact rT rfl rfl (fun w' h'=>⟨by simp only [QW];rw [hk2,QdC (by omega)],h'.below⟩)
theorem f59 {w0 w : World} {M : List Nat} {As As' : List HA} {b cap n : Nat} {t : TypeId} {tot : Nat} {cs : List Value} (h : HS w0 M As w) (hp : QM As (.blk b t tot cs) As') (hc : cs.all Qie = true) (hn : cs.length = n) (hl : n ≤ 1000) :
    Calls Tryz.prog 59 #[.slice (some ⟨b,0,none⟩) n cap] w fun en w'=>en = .returned (.int .i64 (XN cs)) ∧ Below w.heap.size w w':=by
  subst hn;have:=c59 w (some ⟨b,0,none⟩) cap (cs.map Go.RowKit.intOf) (by simpa using h.sl_ints hp hc) (by simpa using hl);rw [Qc7 hc] at this
  simpa using this
theorem c203 (w : World) (a : Option Addr) (cap : Nat) (es : List Int) (hs : Sl w [] a 1 es.length (fun i=>[.int .i64 (es.getD i 0)])) (hm : es.length ≤ 1000) : Calls Tryz.prog 203 #[.slice a es.length cap] w fun en w'=>en = .returned (.int .i64 (YF es)) ∧ Below w.heap.size w w':=by
 refine eN1 Tryz.func203 Tryz.ntmps203 ?_
 refine Qbn ?_
 refine Qr (α:=Nat) [2,4,7,8,9,10,11,12,13,14] (fun k=>[(7,.int .i64 (k : Int))]) (fun _=>_) (fun k=>k ≤ es.length ∧ YF es = YF (es.drop k)) (fun k=>es.length - k) 0 ⟨by omega,rfl⟩ aSx (fun w h=>h) (fun k hk=>?_)
 obtain ⟨hk1,hk2⟩:=hk
 refine aU5 ?_
 refine sCd rfl (fun h1=>?_) fun h1=>?_
 ·refine aU5 ?_
  refine o_p (Qa rfl rfl rfl YK _ rfl (by omega) (hs.some (by omega))) rfl ?_
  refine o_q (Qb rfl rfl Qqy (hs.rd (i:=k) (j:=0) (by omega) rfl)) rfl ?_
  refine aU7 ?_
  refine sCd rfl (fun h2=>?_) fun h2=>?_
  ·refine aU5 ?_
   exact rT rfl rfl (fun w' h'=>⟨by simp only [QW];rw [hk2,Y3 (by omega),if_neg (by assumption)],h'.below⟩)
  refine aT4 ?_
  refine aU2 ?_
  exact QP (k+1) (by omega) ⟨by omega,by rw [hk2,Y3 (by omega),if_pos (by assumption)]⟩ aSx (fun w h=>h)
 refine Qi rfl ?_
 refine aU4 ?_
 exact rT rfl rfl (fun w' h'=>⟨by simp only [QW];rw [hk2,QdC (by omega)],h'.below⟩)
theorem f203 {w0 w : World} {M : List Nat} {As As' : List HA} {b cap n : Nat} {t : TypeId} {tot : Nat} {cs : List Value} (h : HS w0 M As w) (hp : QM As (.blk b t tot cs) As') (hc : cs.all Qie = true) (hn : cs.length = n) (hl : n ≤ 1000) :
    Calls Tryz.prog 203 #[.slice (some ⟨b,0,none⟩) n cap] w fun en w'=>en = .returned (.int .i64 (XN cs)) ∧ Below w.heap.size w w':=by
  subst hn;have:=c203 w (some ⟨b,0,none⟩) cap (cs.map Go.RowKit.intOf) (by simpa using h.sl_ints hp hc) (by simpa using hl);rw [Qc7 hc] at this
  simpa using this
theorem c88 (w : World) (x : TEnt) (hk : x.key.length ≤ 1000000) (hv : x.val.length ≤ 1000000) : Calls Tryz.prog 88 #[.agg #[.string (bs x.key),.string (bs x.val)]] w fun en w'=>en = .returned (.bool (YZ x)) ∧ Below w.heap.size w w':=by
 refine eN1 Tryz.func88 Tryz.ntmps88 ?_
 refine aU2 ?_
 refine oBx fun b1 _=>?_
 refine aU6 ?_
 refine o_p (Qg rfl rfl Tryz.underlying9) rfl ?_
 refine aU2 ?_
 refine o_p (Qg rfl rfl Tryz.underlying9) rfl ?_
 refine aT ?_
 refine aU3 ?_
 exact rT rfl rfl (fun w' h'=>⟨by simp only [QW,YZ];congr 2;congr 1;first | omega | (rw [eq_iff_iff];omega) | (apply decide_eq_decide.2;omega),h'.below⟩)
theorem QuR (w : World) (s : List UInt8) : Calls Tryz.prog 129 #[.string (bs s)] w fun en w'=>en = .returned (.int .i64 (cond (decide ((s.length : Int) = 512)) 0 10)) ∧ Below w.heap.size w w':=by
 refine eN1 Tryz.func129 Tryz.ntmps129 ?_
 refine aU7 ?_
 refine o_p (Qg rfl rfl Tryz.underlying9) rfl ?_
 refine aU ?_
 refine oCq rfl (fun w1 h1=>Qv5 w1 _ _) ?_
 refine aU2 ?_
 exact rT rfl rfl (fun w' h'=>⟨rfl,h'.below⟩)
theorem Qsy (w : World) (a : Option Addr) (m cap : Nat) (x : List UInt8) (hs : Vl w a (x.map bv)) (hm : x.length = m) (h2 : 2 ≤ m) (hc : m ≤ cap) (hc9 : cap ≤ 9223372036854775807) : Calls Tryz.prog 131 #[.slice a m cap] w fun en w'=>en = .returned (.int .u16 (at2 x 0)) ∧ Below w.heap.size w w':=by
 refine eN1 Tryz.func131 Tryz.ntmps131 ?_
 refine aU5 ?_
 refine Qz [] QN ?_
 refine dP 0 ?_
 refine dV 1 rfl (Qa rfl rfl rfl QA 0 rfl (by omega) (hs.some (by rw [List.length_map];omega))) ?_
 refine dQ 2 [] rfl (Qb rfl rfl Qed ((hs.rd (i:=0) (Qal (l:=x) (k:=0) (by omega))))) ?_
 refine dV 3 rfl (Qo rfl rfl Zc Yl) ?_
 refine dP 4 ?_
 refine dV 5 rfl (Qa rfl rfl rfl QA 1 rfl (by omega) (hs.some (by rw [List.length_map];omega))) ?_
 refine dQ 6 [] rfl (Qb rfl rfl Qed ((hs.rd (i:=1) (Qal (l:=x) (k:=1) (by omega))))) ?_
 refine dV 7 rfl (Qo rfl rfl Zc Yl) ?_
 refine dV 8 rfl (Qfh rfl rfl rfl (by decide) 8 rfl) ?_
 refine dP 9 ?_
 refine dP 10 ?_
 refine dNi ?_
 exact rT rfl rfl (fun w' h'=>⟨by rw [← QjO];rfl,h'.below⟩)
theorem c132 (w : World) (a : Option Addr) (m cap : Nat) (x : List UInt8) (hs : Vl w a (x.map bv)) (hm : x.length = m) (h2 : 4 ≤ m) (hc : m ≤ cap) (hc9 : cap ≤ 9223372036854775807) : Calls Tryz.prog 132 #[.slice a m cap] w fun en w'=>en = .returned (.int .u32 (at4 x 0)) ∧ Below w.heap.size w w':=by
 have hx2:=QaN x 0
 have hx3:=QaN x 2
 refine eN1 Tryz.func132 Tryz.ntmps132 ?_
 refine aU5 ?_
 refine Qz [] QN ?_
 refine dP 0 ?_
 refine dQ 1 [] rfl (Qq rfl Qjd rfl (fun w1 h1=>Qsy w1 a m cap x (hs.later h1) hm (by omega) hc hc9)) ?_
 refine dV 2 rfl (Qo rfl rfl Yl Y1) ?_
 refine dP 3 ?_
 refine dV 4 rfl (Qx _ _ 2 m rfl rfl QA ⟨_,_,rfl,rfl⟩ rfl (by omega) (by omega)) ?_
 refine dQ 5 [] rfl (Qq rfl Qjd rfl (fun w1 h1=>Qsy w1 (XV a cap 2 1) (m - 2) (cap - 2) (x.drop 2) (by rw [List.map_drop];exact (hs.later h1).drop (by rw [List.length_map];omega) (by omega)) (by rw [List.length_drop];omega) (by omega) (by omega) (by omega))) ?_
 refine dV 6 rfl (Qo rfl rfl Yl Y1) ?_
 refine dV 7 rfl (Qfh rfl rfl rfl (by decide) 16 rfl) ?_
 refine dP 8 ?_
 refine dP 9 ?_
 refine dNi ?_
 exact rT rfl rfl (fun w' h'=>⟨by have h9:=QkX (at2 x 0) (at2 (x.drop 2) 0) (QaN _ _) (QaN _ _);rw [QaX] at h9 ⊢;exact (congrArg Ending.returned h9),h'.below⟩)
theorem QvE (w : World) (a : Option Addr) (cap : Nat) (l : List UInt8) (n : Int) (hw : HS w (fps [.byz a cap (l)]) [.byz a cap (l)] w) (hn : 0 ≤ n ∧ n < 65536) (hl : l.length ≤ 1000000) : Calls Tryz.prog 152 #[.slice a l.length cap,.int .u16 n] w fun en w'=>∃ g : Option Addr × Nat,en = .returned (.slice g.1 (l ++ le2 n).length g.2) ∧ Qcp a cap g (l ++ le2 n).length ∧ HS w (fps [.byz a cap (l)]) [.byz g.1 g.2 (l ++ le2 n)] w':=by
 refine eW2 Tryz.func152 Tryz.ntmps152 hw ?_
 refine aU8 ?_
 refine o_p (Qo rfl rfl Yl Zc) rfl ?_
 refine Qk (Yk _) ?_
 refine aU ?_
 refine o_p (Qep rfl rfl rfl (by decide) 8 rfl) rfl ?_
 refine o_p (Qo rfl rfl Yl Zc) rfl ?_
 refine Qk (show _ = bv (by8 (n / 256)) from Yk _) ?_
 refine o_h (Qm (cs:=[_,_]) rfl rfl QA Z4 rfl rfl rfl) rfl (fun b1 _=>?_)
 refine o_h (Z8 [by8 n,by8 (n / 256)] rfl rfl rfl QA Tryz.underlying139 Z4 aPk (Xo aPk) (by simp only [List.length_append,List.length_cons,List.length_nil,le2,le4] <;> omega) (by simp only [maxLen,List.length_append,List.length_cons,List.length_nil,le2,le4] <;> omega)) rfl (fun ⟨b2,c3⟩ h4=>?_)
 refine aU2 ?_
 exact rT rfl rfl (fun w' h'=>⟨(b2,c3),rfl,h4,h'.ent aEt⟩)
theorem Qxz (w : World) (a : Option Addr) (cap : Nat) (l : List UInt8) (n : Int) (hw : HS w (fps [.byz a cap (l)]) [.byz a cap (l)] w) (hn : 0 ≤ n) (hl : l.length ≤ 1000000) : Calls Tryz.prog 152 #[.slice a l.length cap,.int .u16 (n % 65536)] w fun en w'=>∃ g : Option Addr × Nat,en = .returned (.slice g.1 (l ++ le2 n).length g.2) ∧ Qcp a cap g (l ++ le2 n).length ∧ HS w (fps [.byz a cap (l)]) [.byz g.1 g.2 (l ++ le2 n)] w':=by
  have h9:=QvE w a cap l (n % 65536) hw (by omega) hl;rw [QqP] at h9;exact h9
theorem c153 (w : World) (a : Option Addr) (cap : Nat) (l : List UInt8) (n : Int) (hw : HS w (fps [.byz a cap (l)]) [.byz a cap (l)] w) (hn : 0 ≤ n ∧ n < 4294967296) (hl : l.length ≤ 1000000) : Calls Tryz.prog 153 #[.slice a l.length cap,.int .u32 n] w fun en w'=>∃ g : Option Addr × Nat,en = .returned (.slice g.1 (l ++ le4 n).length g.2) ∧ Qcp a cap g (l ++ le4 n).length ∧ HS w (fps [.byz a cap (l)]) [.byz g.1 g.2 (l ++ le4 n)] w':=by
 have he9 : l ++ le4 n = (l ++ le2 n) ++ [by8 (n / 65536),by8 (n / 16777216)]:=by rw [QwA,List.append_assoc]
 refine eW2 Tryz.func153 Tryz.ntmps153 hw ?_
 refine aU8 ?_
 refine o_p (Qo rfl rfl Y1 Yl) rfl ?_
 refine Qk (show _ = Value.int .u16 (n % 65536) from by rw [Qju]) ?_
 refine o_h (QX (Cs:=[.byz a cap (l)]) rfl Qln rfl aPs (fun w1 h1 hf=>Qxz w1 a cap l n hf (by omega) hl)) rfl (fun ⟨b1,c2⟩ hz3=>?_)
 refine aU ?_
 refine o_p (Qep rfl rfl rfl (by decide) 16 rfl) rfl ?_
 refine o_p (Qo rfl rfl Y1 Zc) rfl ?_
 refine Qk (show _ = bv (by8 (n / 65536)) from Yk _) ?_
 refine aU ?_
 refine o_p (Qep rfl rfl rfl (by decide) 24 rfl) rfl ?_
 refine o_p (Qo rfl rfl Y1 Zc) rfl ?_
 refine Qk (show _ = bv (by8 (n / 16777216)) from Yk _) ?_
 refine o_h (Qm (cs:=[_,_]) rfl rfl QA Z4 rfl rfl rfl) rfl (fun b4 _=>?_)
 refine o_h (Z8 (l:=l ++ le2 n) [by8 (n / 65536),by8 (n / 16777216)] rfl rfl rfl QA Tryz.underlying139 Z4 aPk (Xo aPk) (by simp only [List.length_append,List.length_cons,List.length_nil,le2,le4] <;> omega) (by simp only [maxLen,List.length_append,List.length_cons,List.length_nil,le2,le4] <;> omega)) rfl (fun ⟨b5,c6⟩ h7=>?_)
 refine aU2 ?_
 exact rT rfl rfl (fun w' h'=>⟨(b5,c6),by rw [he9];rfl,by rw [he9];exact (hz3).trans h7 (by simp only [List.length_append];omega),by rw [he9];exact h'.ent aEt⟩)
theorem c154 (w : World) (a : Option Addr) (cap : Nat) (l : List UInt8) (hw : HS w (fps [.byz a cap (l)]) [.byz a cap (l)] w) (hl : l.length ≤ 1000000) : Calls Tryz.prog 154 #[.slice a l.length cap] w fun en w'=>∃ g : Option Addr × Nat,en = .returned (.slice g.1 (l ++ List.replicate (QF l.length - l.length) 0).length g.2) ∧ Qcp a cap g (l ++ List.replicate (QF l.length - l.length) 0).length ∧ HS w (fps [.byz a cap (l)]) [.byz g.1 g.2 (l ++ List.replicate (QF l.length - l.length) 0)] w':=by
 have hp8:=XU l.length
 have hm8 : QF l.length % 8 = 0:=by unfold QF;omega
 refine eW1 Tryz.func154 Tryz.ntmps154 hw ?_
 refine aU6 ?_
 refine Qr (α:=Nat × Option Addr × Nat) [0,3,4,5,6,7,8,9] (fun x=>[(0,.slice x.2.1 (l ++ List.replicate x.1 0).length x.2.2)]) (fun x=>HS w (fps [.byz a cap (l)]) [.byz x.2.1 x.2.2 (l ++ List.replicate x.1 0)]) (fun x=>x.1 ≤ (QF l.length - l.length) ∧ Qcp a cap (x.2.1,x.2.2) (l ++ List.replicate x.1 0).length) (fun x=>(QF l.length - l.length) - x.1) (0,a,cap) ⟨Nat.zero_le _,fun _=>⟨rfl,rfl⟩⟩ (by simp only [List.replicate_zero,List.append_nil];exact aSx) (fun w h=>(by simp only [List.replicate_zero,List.append_nil];exact h.ent aEt)) (fun ⟨k,a2,c2⟩ hk1=>?_)
 dsimp only
 simp only [] at hk1
 obtain ⟨hk2,hk3⟩:=hk1
 have hlk : (l ++ List.replicate k 0).length = l.length + k:=by simp
 refine aU5 ?_
 refine o_p (Ze rfl rfl rfl (by omega) (by omega)) rfl ?_
 refine aU2 ?_
 refine sCd rfl (fun h1=>?_) fun h1=>?_
 ·have hk : k < (QF l.length - l.length):=by have hq:=h1;rw [hlk] at hq;omega
  have hrep : l ++ List.replicate (k + 1) 0 = (l ++ List.replicate k 0) ++ [0]:=by rw [List.replicate_succ',List.append_assoc]
  refine aU4 ?_
  refine o_h (Qm (cs:=[_]) rfl rfl QA Z4 rfl rfl rfl) rfl (fun b2 _=>?_)
  refine o_h (Z8 (l:=l ++ List.replicate k 0) [0] rfl rfl rfl QA Tryz.underlying139 Z4 aPk (Xo aPk) (by simp only [List.length_replicate,List.length_append,List.length_cons,List.length_nil,le2,le4] <;> omega) (by simp only [maxLen,List.length_replicate,List.length_append,List.length_cons,List.length_nil,le2,le4] <;> omega)) rfl (fun ⟨b3,c4⟩ h5=>?_)
  refine aU3 ?_
  exact QP (k + 1,b3,c4) (by (try simp only []);omega) (by simp only [];rw [hrep];exact ⟨by omega,hk3.trans h5 (by simp only [List.length_append];omega)⟩) (by dsimp only;rw [hrep];exact aSx) (fun w h=>by dsimp only;rw [hrep];exact h.ent aEt)
 have hk : k = (QF l.length - l.length):=by have hq:=h1;rw [hlk] at hq;omega
 subst hk
 refine Qi rfl ?_
 refine aU5 ?_
 exact rT rfl rfl (fun w' h'=>⟨(a2,c2),rfl,hk3,h'.ent aEt⟩)
theorem c156 (w : World) (a : Option Addr) (cap : Nat) (l : List UInt8) (c : Int) (hw : HS w (fps [.byz a cap (l)]) [.byz a cap (l)] w) (hc9 : 0 ≤ c ∧ c < 4294967296) (hl : l.length ≤ 900000) : Calls Tryz.prog 156 #[.slice a l.length cap,.int .i64 c] w fun en w'=>∃ g : Option Addr × Nat,en = .returned (.slice g.1 (l ++ QaL c).length g.2) ∧ Qcp a cap g (l ++ QaL c).length ∧ HS w (fps [.byz a cap (l)]) [.byz g.1 g.2 (l ++ QaL c)] w':=by
 have he9 : l ++ QaL c = ((l ++ le2 8) ++ [0,0]) ++ le4 c:=by simp only [QaL,List.append_assoc]
 have l2 : (l ++ le2 8).length = l.length + 2:=by rw [List.length_append];rfl
 have l3 : ((l ++ le2 8) ++ [0,0]).length = l.length + 4:=by rw [List.length_append,l2];rfl
 refine eW2 Tryz.func156 Tryz.ntmps156 hw ?_
 refine aU7 ?_
 refine o_h (QX (Cs:=[.byz a cap (l)]) rfl Qln rfl aPs (fun w1 h1 hf=>QvE w1 a cap l 8 hf (by omega) (by omega))) rfl (fun ⟨b1,c2⟩ hz3=>?_)
 refine aU5 ?_
 refine o_h (Qm (cs:=[_,_]) rfl rfl QA Z4 rfl rfl rfl) rfl (fun b4 _=>?_)
 refine o_h (Z8 (l:=l ++ le2 8) [0,0] rfl rfl rfl QA Tryz.underlying139 Z4 aPk (Xo aPk) (by simp only [List.length_append,List.length_cons,List.length_nil,le2,le4] <;> omega) (by simp only [maxLen,List.length_append,List.length_cons,List.length_nil,le2,le4] <;> omega)) rfl (fun ⟨b5,c6⟩ h7=>?_)
 refine aU6 ?_
 refine o_p (Qo rfl rfl YN Y1) rfl ?_
 refine Qk (show _ = Value.int .u32 c from by rw [Qfu];congr 1;omega) ?_
 refine o_h (QX (Cs:=[.byz b5 c6 ((l ++ le2 8) ++ [0,0])]) rfl Qsi rfl aPs (fun w1 h1 hf=>c153 w1 b5 c6 ((l ++ le2 8) ++ [0,0]) c hf hc9 (by omega))) rfl (fun ⟨b8,c9⟩ hz10=>?_)
 refine aU2 ?_
 exact rT rfl rfl (fun w' h'=>⟨(b8,c9),by rw [he9];rfl,by rw [he9];exact ((hz3).trans h7 (by simp only [List.length_append];omega)).trans hz10 (by simp only [List.length_append];omega),by rw [he9];exact h'.ent aEt⟩)
end Go.Proofs
namespace Gx
open Go Go.RowKit
theorem QqY {s : List UInt8} {k : Nat} (h : k < s.length) : zer (s.take (k + 1)) = (zer (s.take k) && decide (s.getD k 0 = 0)):=by
 unfold zer;rw [List.take_add_one,List.getElem?_eq_getElem h,List.all_append,List.getD_eq_getElem?_getD,List.getElem?_eq_getElem h];simp
theorem QwL {s : List UInt8} {k : Nat} (h : k < s.length) (h2 : ¬ s.getD k 0 = 0) : zer s = false:=by
 cases hb : zer s with
 | false=>rfl
 | true=>
  unfold zer at hb;have:=List.all_eq_true.1 hb _ (List.getElem_mem h)
  grind
theorem Qke {u : UInt8} : (u.toNat : Int) = 0 ↔ u = 0:=by
 constructor
 ·intro h;exact UInt8.toNat_inj.1 (by have : (0 : UInt8).toNat = 0:=rfl;omega)
 simp_all
def Qam (x : TEnt) (c : Int) : Int:=if 1 ≤ x.key.length ∧ x.key.length ≤ 40 then if x.key.length + x.val.length ≤ 88 then if 0 ≤ c ∧ c ≤ 120 then 0 else 2 else 8 else 3
structure NdP (n : Nd) : Prop where
 el : n.es.length ≤ 1000
 es : ∀ x ∈ n.es,x.key.length ≤ 300 ∧ x.val.length ≤ 300
 cl : n.cs.length = 0 ∨ n.cs.length = n.es.length + 1
 cs : ∀ c ∈ n.cs,0 ≤ c ∧ c < 4294967296
theorem NdW.ndp {n : Nd} (h : NdW n) (hl : n.es.length ≤ 1000) : NdP n:=
 ⟨hl,fun x hx=>by have:=h.es x hx;simp only [X9,decide_eq_true_eq] at this;omega,h.cl,fun c hc=>by have:=h.cs c hc;omega⟩
theorem NdP.kid {n : Nd} (h : NdP n) {i : Nat} (hi : i ≤ n.es.length) : 0 ≤ Q2 n.cs i ∧ Q2 n.cs i < 4294967296:=by
 unfold Q2;split
 ·omega
 ·have hl : i < n.cs.length:=by have:=h.cl;omega
  rw [List.getD_eq_getElem?_getD,List.getElem?_eq_getElem hl];exact h.cs _ (List.getElem_mem hl)
theorem Qtl {n m : Nat} (h : n ≤ 8 * m) : QF n ≤ 8 * m:=by unfold QF;omega
theorem Qp1 {n m : Nat} (h : n % 8 = 0) : QF (n + m) = n + QF m:=by unfold QF;omega
theorem NdP.ents {n : Nd} (h : NdP n) : ∀ k,k ≤ n.es.length → (QO n k).length ≤ 608 * k ∧ (QO n k).length % 8 = 0
 | 0,_=>by simp [QO]
 | k + 1,hk=>by
  have ih:=h.ents k (by omega);have hx:=h.es _ (Qv (show k < n.es.length by omega));have hsz : (nth n.es k).sz = 8 + (nth n.es k).key.length + (nth n.es k).val.length:=rfl
  grind [Qtl,nth,QF,QO,Qd8]
def Qjj (n : Nd) (k : Nat) : List UInt8:=if k ≤ n.es.length then QO n k else Q7 n
theorem QnF {n : Nd} {k : Nat} (h : k ≤ n.es.length) : Qjj n k = QO n k:=if_pos h
theorem QjH (n : Nd) : Qjj n (n.es.length + 1) = Q7 n:=if_neg (by omega)
theorem Qot {n : Nd} {k : Nat} (h : k < n.es.length) : Qjj n (k + 1) = QO n k ++ Yc (nth n.es k) (Q2 n.cs k):=by
 rw [QnF (by omega)];rfl
end Gx
namespace Go.Proofs
open Go Go.RowKit Gx
attribute [local irreducible] Go.Calls Gx.S Gx.O Gx.D Gx.OpP Gx.OpQ Gx.OpH
set_option maxRecDepth 20000
instance : TFn Tryz.prog 178:=⟨by kernel_rfl⟩
theorem Qsl : QK Tryz.prog 121 = true:=by kernel_rfl
instance : TFn Tryz.prog 121:=⟨Qsl⟩
theorem QnN : QK Tryz.prog 95 = true:=by kernel_rfl
instance : TFn Tryz.prog 95:=⟨QnN⟩
theorem Qb3 : QK Tryz.prog 94 = true:=by kernel_rfl
instance : TFn Tryz.prog 94:=⟨Qb3⟩
theorem Qko : QK Tryz.prog 86 = true:=by kernel_rfl
instance : TFn Tryz.prog 86:=⟨Qko⟩
theorem c94 (w : World) (n : Int) (c : Nat) (hn : 0 ≤ n ∧ n ≤ 9223372036854775807) (hc : c ≤ 1000) : Calls Tryz.prog 94 #[.int .i64 n,.int .i64 (c : Int)] w fun en w'=>en = .returned (.string (bs (Qb9 c n))) ∧ Below w.heap.size w w':=by
 refine eN2 Tryz.func94 Tryz.ntmps94 ?_
 refine Qgs ?_
 refine Qr (α:=Nat × Int × List UInt8 × Option Addr × Nat) [0,5,6,7,8,9,10,11,12,13,14,15,16,17,18,19] (fun x=>[(6,.int .i64 (x.1 : Int)),(0,.int .i64 x.2.1),(5,.slice x.2.2.2.1 x.2.2.1.length x.2.2.2.2)]) (fun x=>HS w [] [.own (.slice x.2.2.2.1 x.2.2.1.length x.2.2.2.2) 5 1 (x.2.2.1.length) ((x.2.2.1).map bv)]) (fun x=>x.1 ≤ c ∧ x.2.2.1.length = x.1 ∧ (0 ≤ x.2.1 ∧ x.2.1 ≤ 9223372036854775807) ∧ Qb9 c n = x.2.2.1 ++ Qb9 (c - x.1) x.2.1) (fun x=>c - x.1) (0,n,[],none,0) ⟨Nat.zero_le _,rfl,hn,rfl⟩ aSx (fun w h=>(h.own_nil 5 1).ent aEt) (fun ⟨k,m,p,ga,gc⟩ hx=>?_)
 dsimp only
 obtain ⟨hk1,hpl,hm,hst⟩:=hx
 simp only [] at hk1 hpl hm hst
 refine aU7 ?_
 refine sCd rfl (fun h1=>?_) fun h1=>?_
 ·have hk : k < c:=by omega
  refine aU7 ?_
  refine o_p (Ze rfl rfl rfl (by omega) (by omega)) rfl ?_
  refine o_p (Qo rfl rfl YN Zc) rfl ?_
  refine Qk (show _ = bv (by8 m) from (Yk _).trans (by rw [QdO (show m % 256 % 256 = m % 256 by omega)])) ?_
  refine o_h (Qm (cs:=[_]) rfl rfl QA Z4 rfl rfl rfl) rfl (fun b2 _=>?_)
  refine o_h (Xt _ rfl rfl rfl QA Tryz.underlying139 Z4 rfl aPk (Xo aPk) rfl (by intro u hu;simp only [List.mem_cons,List.mem_nil_iff,or_false] at hu;subst hu;rfl) (by omega) (by simp only [maxLen];omega)) rfl (fun b3 _=>?_)
  refine aU4 ?_
  refine o_p (XD rfl rfl rfl (by omega) (by omega) (by omega)) rfl ?_
  refine aT6 ?_
  refine aU2 ?_
  exact QP (k + 1,m / 256,p ++ [by8 m],b3.1,b3.2) (by (try simp only []);omega) ⟨by (try simp only []);omega,by simp [hpl],by (try simp only []);omega,by simp only [];rw [hst,show c - k = (c - (k + 1)) + 1 by omega,Qb9,List.append_assoc];rfl⟩ (by dsimp only;rw [List.length_append];exact aSx) (fun w h=>by dsimp only;rw [List.length_append,List.map_append];exact h.ent aEt)
 obtain rfl : k = c:=by omega
 rw [Nat.sub_self,Qb9,List.append_nil] at hst
 refine Qi rfl ?_
 refine aU3 ?_
 refine o_q (Z0 rfl rfl Tryz.underlying139 Tryz.underlying9 Tryz.underlying5 aPk (Zd _)) rfl ?_
 refine aU2 ?_
 exact rT rfl rfl (fun w' h'=>⟨by rw [YJ,hst];rfl,h'.below⟩)
theorem QdY (c : Nat) : XK [.int .u8 0] (c * 1) = (List.replicate c (0 : UInt8)).map bv:=by
  rw [Nat.mul_one,List.map_replicate];exact Qcc _ _
theorem Qpz {m : Int} (h : 0 ≤ m ∧ m ≤ 1000000000000) : Value.int .i64 (IntKind.i64.wrap ((-m).tdiv 8)) = Value.int .i64 (-(m / 8)):=by
  rw [Int.neg_tdiv,Int.tdiv_eq_ediv_of_nonneg h.1];exact QeX (by omega) (by omega)
theorem Qsc {m : Int} (h : 0 ≤ m) : (-m).tmod 8 = -(m % 8):=by rw [Int.neg_tmod,Int.tmod_eq_emod_of_nonneg h]
theorem c86 (w : World) (c : Nat) (hc : c ≤ 100000) : Calls Tryz.prog 86 #[.int .i64 (c : Int)] w fun en w'=>en = .returned (.string (bs (List.replicate c 0))) ∧ Below w.heap.size w w':=by
 refine eN1 Tryz.func86 Tryz.ntmps86 ?_
 refine aU7 ?_
 refine o_p (Qqa rfl rfl rfl ) rfl ?_
 refine o_p (Qg8 rfl rfl rfl ) rfl ?_
 refine Qk (show _ = Value.int .i64 (c : Int) from congrArg (Value.int .i64) (by split <;> split <;> omega)) ?_
 refine o_h (Qe4 (n:=c) rfl rfl rfl QA Z4 (by omega) (by omega)) rfl (fun b1 _=>?_)
 refine o_q (Yp rfl rfl Tryz.underlying139 Tryz.underlying9 Tryz.underlying5 aPk (by simp [QE]) (by intro v hv;rw [QdY] at hv;exact Zd _ v hv)) rfl ?_
 refine aU2 ?_
 exact rT rfl rfl (fun w' h'=>⟨by rw [QdY,YJ];rfl,h'.below⟩)
theorem c53 (w : World) (s : List UInt8) (hm : s.length ≤ 1000000000) : Calls Tryz.prog 53 #[.string (bs s)] w fun en w'=>en = .returned (.bool (zer s)) ∧ Below w.heap.size w w':=by
 refine eN1 Tryz.func53 Tryz.ntmps53 ?_
 refine Zv ?_
 refine Qr (α:=Nat) [2,3,4,5,6,7,8,9,10,11,12,13] (fun k=>[(3,.int .i64 (k : Int))]) (fun _=>_) (fun k=>k ≤ s.length ∧ zer (s.take k) = true) (fun k=>s.length - k) 0 ⟨Nat.zero_le _,rfl⟩ aSx (fun w h=>h) (fun k hkk=>?_)
 obtain ⟨hk1,hk2⟩:=hkk
 refine aU5 ?_
 refine o_p (Qg rfl rfl Tryz.underlying9) rfl ?_
 refine aU2 ?_
 refine sCd rfl (fun h1=>?_) fun h1=>?_
 ·have hk : k < s.length:=by omega
  have hst:=QqY hk
  refine aU7 ?_
  refine o_p (Xi rfl rfl rfl Tryz.underlying9 (k) (by omega) (by omega)) rfl ?_
  refine aU2 ?_
  refine sCd rfl (fun h2=>?_) fun h2=>?_
  ·have hz : ¬ s.getD k 0 = 0:=by have hq:=h2;intro h9;exact hq (Qke.2 h9)
   have hf:=QwL hk hz
   refine aU4 ?_
   exact rT rfl rfl (fun w' h'=>⟨by rw [hf];rfl,h'.below⟩)
  have hz : s.getD k 0 = 0:=Qke.1 (by have hq:=h2;simpa using hq)
  refine aT5 ?_
  refine aU2 ?_
  exact QP (k + 1) (by omega) ⟨by omega,by rw [hst,hk2,hz];rfl⟩ aSx (fun w h=>h)
 obtain rfl : k = s.length:=by omega
 rw [List.take_length] at hk2
 refine Qi rfl ?_
 refine aU4 ?_
 exact rT rfl rfl (fun w' h'=>⟨by rw [hk2];rfl,h'.below⟩)
theorem c54 (w : World) (l : List UInt8) (p : Nat) (d : List UInt8) (hp : p + d.length ≤ l.length) (hl : l.length ≤ 1000000000) : Calls Tryz.prog 54 #[.string (bs l),.int .i64 (p : Int),.string (bs d)] w fun en w'=>en = .returned (.string (bs (QI l p d))) ∧ Below w.heap.size w w':=by
 refine eN3 Tryz.func54 Tryz.ntmps54 ?_
 refine aU5 ?_
 refine Qz [] QN ?_
 refine dP 0 ?_
 refine dP 1 ?_
 refine dV 2 rfl (Zm p rfl rfl rfl Tryz.underlying9 rfl (by omega)) ?_
 refine dP 3 ?_
 refine dV 4 rfl (QC rfl rfl rfl (by (try simp only [List.length_append,List.length_cons,List.length_nil,List.length_replicate,List.length_take,List.length_drop]);omega)) ?_
 refine dP 5 ?_
 refine dP 6 ?_
 refine dP 7 ?_
 refine dV 8 rfl (Qg rfl rfl Tryz.underlying9) ?_
 refine dP 9 ?_
 try refine dWr ?_
 refine dV 10 rfl (YR (p + d.length) rfl rfl rfl Tryz.underlying9 (by omega) (by omega)) ?_
 refine dV 11 rfl (QC rfl rfl rfl (by (try simp only [List.length_append,List.length_cons,List.length_nil,List.length_replicate,List.length_take,List.length_drop]);omega)) ?_
 refine dP 12 ?_
 refine dNi ?_
 exact rT rfl rfl (fun w' h'=>⟨by rfl,h'.below⟩)
theorem c178 (w : World) (m : Int) (hm : 0 ≤ m ∧ m ≤ 1000000000000) : Calls Tryz.prog 178 #[.int .i64 (-m),.int .i64 8] w fun en w'=>en = .returned (.int .i64 (-((m + 7) / 8))) ∧ Below w.heap.size w w':=by
 refine eN2 Tryz.func178 Tryz.ntmps178 ?_
 refine aU8 ?_
 refine o_p (Qrw rfl rfl rfl (by decide)) rfl ?_
 refine Qk (Qpz hm) ?_
 refine aU7 ?_
 refine o_p (Qnq rfl rfl rfl (by decide)) rfl ?_
 refine Qk (show _ = Value.int .i64 (-(m % 8)) from by rw [Qsc hm.1]) ?_
 refine aU2 ?_
 refine sCd rfl (fun h1=>?_) fun h1=>?_
 ·refine aT3 ?_
  refine aU7 ?_
  exact rT rfl rfl (fun w' h'=>⟨by simp only [QW];congr 2;omega,h'.below⟩)
 refine aU6 ?_
 exact rT rfl rfl (fun w' h'=>⟨by simp only [QW];congr 2;omega,h'.below⟩)
theorem c121 (w : World) (m : Int) (hm : 0 ≤ m ∧ m ≤ 1000000000000) : Calls Tryz.prog 121 #[.int .i64 m,.int .i64 8] w fun en w'=>en = .returned (.int .i64 ((m + 7) / 8)) ∧ Below w.heap.size w w':=by
 refine eN2 Tryz.func121 Tryz.ntmps121 ?_
 refine aT8 ?_
 refine Qk (show _ = Value.int .i64 (-m) from by rw [Int.zero_sub]) ?_
 refine aU ?_
 refine oCq rfl (fun w1 h1=>c178 w1 m hm) ?_
 refine aT ?_
 refine Qk (show _ = Value.int .i64 ((m + 7) / 8) from by congr 1;omega) ?_
 refine aU2 ?_
 exact rT rfl rfl (fun w' h'=>⟨by rfl,h'.below⟩)
theorem c95 (w : World) (m : Nat) (hm : m ≤ 1000000000) : Calls Tryz.prog 95 #[.int .i64 (m : Int)] w fun en w'=>en = .returned (.int .i64 ((QF m : Nat) : Int)) ∧ Below w.heap.size w w':=by
 refine eN1 Tryz.func95 Tryz.ntmps95 ?_
 refine aU7 ?_
 refine oCq rfl (fun w1 h1=>c121 w1 (m : Int) (by omega)) ?_
 refine aT ?_
 refine aU2 ?_
 exact rT rfl rfl (fun w' h'=>⟨by simp only [QW,QF];congr 2,h'.below⟩)
theorem c29 (w : World) (x : TEnt) (c : Int) (hk : x.key.length ≤ 1000000) (hv : x.val.length ≤ 1000000) : Calls Tryz.prog 29 #[.agg #[.string (bs x.key),.string (bs x.val)],.int .i64 c] w fun en w'=>en = .returned (.int .i64 (Qam x c)) ∧ Below w.heap.size w w':=by
 refine eN2 Tryz.func29 Tryz.ntmps29 ?_
 refine aU2 ?_
 refine oBx fun b1 _=>?_
 refine aU7 ?_
 refine o_p (Qg rfl rfl Tryz.underlying9) rfl ?_
 refine oCq rfl (fun w1 h1=>c40 w1 _ _ _) ?_
 refine aU2 ?_
 refine sCd rfl (fun h2=>?_) fun h2=>?_
 ·have hz : Qam x c = 3:=by have hq:=h2;unfold Qam;rw [if_neg (by first | omega | (simp at hq;omega))]
  refine aU4 ?_
  exact rT rfl rfl (fun w' h'=>⟨by rw [hz];rfl,h'.below⟩)
 have hk1 : 1 ≤ x.key.length ∧ x.key.length ≤ 40:=by have hq:=h2;first | omega | (simp at hq;omega)
 refine aU6 ?_
 refine o_p (Qg rfl rfl Tryz.underlying9) rfl ?_
 refine aU2 ?_
 refine o_p (Qg rfl rfl Tryz.underlying9) rfl ?_
 refine aT ?_
 refine aU2 ?_
 refine sCd rfl (fun h3=>?_) fun h3=>?_
 ·have hz : Qam x c = 8:=by have hq:=h3;unfold Qam;rw [if_pos hk1,if_neg (by omega)]
  refine aU4 ?_
  exact rT rfl rfl (fun w' h'=>⟨by rw [hz];rfl,h'.below⟩)
 have hk2 : x.key.length + x.val.length ≤ 88:=by have hq:=h3;omega
 refine aU5 ?_
 refine oCq rfl (fun w1 h1=>c40 w1 _ _ _) ?_
 refine aU2 ?_
 refine sCd rfl (fun h4=>?_) fun h4=>?_
 ·have hz : Qam x c = 2:=by have hq:=h4;unfold Qam;rw [if_pos hk1,if_pos hk2,if_neg (by first | omega | (simp at hq;omega))]
  refine aU4 ?_
  exact rT rfl rfl (fun w' h'=>⟨by rw [hz];rfl,h'.below⟩)
 have hz : Qam x c = 0:=by have hq:=h4;unfold Qam;rw [if_pos hk1,if_pos hk2,if_pos (by first | omega | (simp at hq;omega))]
 refine aU5 ?_
 exact rT rfl rfl (fun w' h'=>⟨by rw [hz];rfl,h'.below⟩)
theorem c30 (w : World) (x : TEnt) (c : Int) (hk : x.key.length ≤ 300) (hv : x.val.length ≤ 300) (hc : 0 ≤ c ∧ c < 4294967296) : Calls Tryz.prog 30 #[.agg #[.string (bs x.key),.string (bs x.val)],.int .i64 c] w fun en w'=>en = .returned (.string (bs (Yc x c))) ∧ Below w.heap.size w w':=by
 have hsz : x.sz = 8 + x.key.length + x.val.length:=rfl
 have hp8:=XU x.sz
 have l2:=YH 2 ((QF x.sz : Nat) : Int)
 have lk:=YH 1 (x.key.length : Int)
 have lv:=YH 1 (x.val.length : Int)
 have lc:=YH 4 c
 refine eN2 Tryz.func30 Tryz.ntmps30 ?_
 refine aU2 ?_
 refine oBx fun b1 _=>?_
 refine aU6 ?_
 refine o_p (Qg rfl rfl Tryz.underlying9) rfl ?_
 refine aT ?_
 refine aU2 ?_
 refine o_p (Qg rfl rfl Tryz.underlying9) rfl ?_
 refine aT ?_
 refine aU ?_
 refine Qk (show _ = Value.int .i64 ((x.sz : Nat) : Int) from by congr 1) ?_
 refine aU2 ?_
 refine Qz [] QN ?_
 refine dP 0 ?_
 refine dQ 1 [] rfl (Qq rfl QnN rfl (fun w1 h1=>c95 w1 x.sz (by omega))) ?_
 refine dQ 2 [] rfl (Qq rfl Qb3 rfl (fun w1 h1=>c94 w1 ((QF x.sz : Nat) : Int) 2 (by omega) (by omega))) ?_
 refine dFa 3 ?_
 refine dLd 4 [] ?_
 refine dV 5 rfl (Qg rfl rfl Tryz.underlying9) ?_
 refine dQ 6 [] rfl (Qq rfl Qb3 rfl (fun w1 h1=>c94 w1 (x.key.length : Int) 1 (by omega) (by omega))) ?_
 refine dV 7 rfl (QC rfl rfl rfl (by (try simp only [List.length_append,List.length_cons,List.length_nil,List.length_replicate,List.length_take,List.length_drop]);omega)) ?_
 refine dFa 8 ?_
 refine dLd 9 [] ?_
 refine dV 10 rfl (Qg rfl rfl Tryz.underlying9) ?_
 refine dQ 11 [] rfl (Qq rfl Qb3 rfl (fun w1 h1=>c94 w1 (x.val.length : Int) 1 (by omega) (by omega))) ?_
 refine dV 12 rfl (QC rfl rfl rfl (by (try simp only [List.length_append,List.length_cons,List.length_nil,List.length_replicate,List.length_take,List.length_drop]);omega)) ?_
 refine dP 13 ?_
 refine dQ 14 [] rfl (Qq rfl Qb3 rfl (fun w1 h1=>c94 w1 c 4 (by omega) (by omega))) ?_
 refine dV 15 rfl (QC rfl rfl rfl (by (try simp only [List.length_append,List.length_cons,List.length_nil,List.length_replicate,List.length_take,List.length_drop]);omega)) ?_
 refine dFa 16 ?_
 refine dLd 17 [] ?_
 refine dV 18 rfl (QC rfl rfl rfl (by (try simp only [List.length_append,List.length_cons,List.length_nil,List.length_replicate,List.length_take,List.length_drop]);omega)) ?_
 refine dFa 19 ?_
 refine dLd 20 [] ?_
 refine dV 21 rfl (QC rfl rfl rfl (by (try simp only [List.length_append,List.length_cons,List.length_nil,List.length_replicate,List.length_take,List.length_drop]);omega)) ?_
 refine dP 22 ?_
 refine dQ 23 [] rfl (Qq rfl QnN rfl (fun w1 h1=>c95 w1 x.sz (by omega))) ?_
 refine dP 24 ?_
 refine dP 25 ?_
 try refine dWr ?_
 refine Qy (show _ = Value.int .i64 ((QF x.sz - x.sz : Nat) : Int) from by congr 1;omega) ?_
 refine dQ 26 [] rfl (Qq rfl Qko rfl (fun w1 h1=>c86 w1 (QF x.sz - x.sz) (by omega))) ?_
 refine dV 27 rfl (QC rfl rfl rfl (by (try simp only [List.length_append,List.length_cons,List.length_nil,List.length_replicate,List.length_take,List.length_drop]);omega)) ?_
 refine dP 28 ?_
 refine dNi ?_
 exact rT rfl rfl (fun w' h'=>⟨by simp only [QW,Yc,QgG,QlQ,Qir,List.append_assoc,List.cons_append,List.nil_append],h'.below⟩)
theorem Qp2 : QK Tryz.prog 154 = true:=by kernel_rfl
instance : TFn Tryz.prog 88:=⟨by kernel_rfl⟩
theorem Qki : QK Tryz.prog 59 = true:=by kernel_rfl
instance : TFn Tryz.prog 59:=⟨Qki⟩
theorem Quh : QK Tryz.prog 89 = true:=by kernel_rfl
theorem c89 (w : World) (a : Option Addr) (cap : Nat) (l : List UInt8) (x : TEnt) (c : Int) (hw : HS w (fps [.byz a cap (l)]) [.byz a cap (l)] w) (hl : l.length ≤ 900000) (hl8 : l.length % 8 = 0) (hk : x.key.length ≤ 300) (hv : x.val.length ≤ 300) (hc : 0 ≤ c ∧ c < 4294967296) : Calls Tryz.prog 89 #[.slice a l.length cap,.agg #[.string (bs x.key),.string (bs x.val)],.int .i64 c] w fun en w'=>∃ g : Option Addr × Nat,en = .returned (.slice g.1 (l ++ Yc x c).length g.2) ∧ Qcp a cap g (l ++ Yc x c).length ∧ HS w (fps [.byz a cap (l)]) [.byz g.1 g.2 (l ++ Yc x c)] w':=by
 have hsz : x.sz = 8 + x.key.length + x.val.length:=rfl
 have hp8:=XU x.sz
 have l1 : (l ++ le2 ((QF x.sz : Nat) : Int)).length = l.length + 2:=by rw [List.length_append];rfl
 have l2 : ((l ++ le2 ((QF x.sz : Nat) : Int)) ++ [by8 x.key.length,by8 x.val.length]).length = l.length + 4:=by rw [List.length_append,l1];rfl
 have l3 : (((l ++ le2 ((QF x.sz : Nat) : Int)) ++ [by8 x.key.length,by8 x.val.length]) ++ le4 c).length = l.length + 8:=by rw [List.length_append,l2];rfl
 have l4 : ((((l ++ le2 ((QF x.sz : Nat) : Int)) ++ [by8 x.key.length,by8 x.val.length]) ++ le4 c) ++ x.key).length = l.length + 8 + x.key.length:=by rw [List.length_append,l3]
 have l5 : (((((l ++ le2 ((QF x.sz : Nat) : Int)) ++ [by8 x.key.length,by8 x.val.length]) ++ le4 c) ++ x.key) ++ x.val).length = l.length + x.sz:=by rw [List.length_append,l4];omega
 have hpd : QF (((((l ++ le2 ((QF x.sz : Nat) : Int)) ++ [by8 x.key.length,by8 x.val.length]) ++ le4 c) ++ x.key) ++ x.val).length - (((((l ++ le2 ((QF x.sz : Nat) : Int)) ++ [by8 x.key.length,by8 x.val.length]) ++ le4 c) ++ x.key) ++ x.val).length = QF x.sz - x.sz:=by rw [l5,Qp1 hl8];omega
 have he9 : l ++ Yc x c = (((((l ++ le2 ((QF x.sz : Nat) : Int)) ++ [by8 x.key.length,by8 x.val.length]) ++ le4 c) ++ x.key) ++ x.val) ++ List.replicate (QF (((((l ++ le2 ((QF x.sz : Nat) : Int)) ++ [by8 x.key.length,by8 x.val.length]) ++ le4 c) ++ x.key) ++ x.val).length - (((((l ++ le2 ((QF x.sz : Nat) : Int)) ++ [by8 x.key.length,by8 x.val.length]) ++ le4 c) ++ x.key) ++ x.val).length) 0:=by rw [hpd];simp only [Yc,List.append_assoc]
 refine eW3 Tryz.func89 Tryz.ntmps89 hw ?_
 refine aU2 ?_
 refine oBx fun b1 _=>?_
 refine aU6 ?_
 refine o_p (Qg rfl rfl Tryz.underlying9) rfl ?_
 refine aT ?_
 refine aU2 ?_
 refine o_p (Qg rfl rfl Tryz.underlying9) rfl ?_
 refine aT ?_
 refine aT ?_
 refine aT ?_
 refine o_p (XD rfl rfl rfl (by omega) (by omega) (by omega)) rfl ?_
 refine aT ?_
 refine Qk (show _ = Value.int .i64 ((QF x.sz : Nat) : Int) from by congr 1;unfold QF;omega) ?_
 refine aU6 ?_
 refine o_p (Qo rfl rfl YN Yl) rfl ?_
 refine Qk (show _ = Value.int .u16 ((QF x.sz : Nat) : Int) from by first | rfl | (rw [Qju];congr 1;omega)) ?_
 refine o_h (QX (Cs:=[.byz a cap (l)]) rfl Qln rfl aPs (fun w1 h1 hf=>QvE w1 a cap l ((QF x.sz : Nat) : Int) hf (by omega) (by omega))) rfl (fun ⟨b2,c3⟩ hz4=>?_)
 refine aU7 ?_
 refine o_p (Qg rfl rfl Tryz.underlying9) rfl ?_
 refine o_p (Qo rfl rfl YN Zc) rfl ?_
 refine Qk (Yk _) ?_
 refine aU2 ?_
 refine o_p (Qg rfl rfl Tryz.underlying9) rfl ?_
 refine o_p (Qo rfl rfl YN Zc) rfl ?_
 refine Qk (Yk _) ?_
 refine o_h (Qm (cs:=[_,_]) rfl rfl QA Z4 rfl rfl rfl) rfl (fun b5 _=>?_)
 refine o_h (Z8 (l:=(l ++ le2 ((QF x.sz : Nat) : Int))) [by8 x.key.length,by8 x.val.length] rfl rfl rfl QA Tryz.underlying139 Z4 aPk (Xo aPk) (by simp only [List.length_append,List.length_cons,List.length_nil,le2,le4] <;> omega) (by simp only [maxLen,List.length_append,List.length_cons,List.length_nil,le2,le4] <;> omega)) rfl (fun ⟨b6,c7⟩ h8=>?_)
 refine aU3 ?_
 refine Ql (L':=[(0,_),(2,_),(4,_),(6,_)]) aSx (fun _ h=>h) ?_
 refine aU3 ?_
 refine o_p (Qo rfl rfl YN Y1) rfl ?_
 refine Qk (show _ = Value.int .u32 c from by first | rfl | (rw [Qfu];congr 1;omega)) ?_
 refine o_h (QX (Cs:=[.byz b6 c7 (((l ++ le2 ((QF x.sz : Nat) : Int)) ++ [by8 x.key.length,by8 x.val.length]))]) rfl Qsi rfl aPs (fun w1 h1 hf=>c153 w1 b6 c7 ((l ++ le2 ((QF x.sz : Nat) : Int)) ++ [by8 x.key.length,by8 x.val.length]) c hf hc (by omega))) rfl (fun ⟨b9,c10⟩ hz11=>?_)
 refine aU3 ?_
 refine Qii [.blk b1 27 2 [.string (bs x.key),.string (bs x.val)]] [] QN ?_
 refine dP 0 ?_
 refine dFa 1 ?_
 refine dLd 2 [] ?_
 refine dFa 4 ?_
 refine dLd 5 [] ?_
 refine dH 3 rfl (QaV (l:=(((l ++ le2 ((QF x.sz : Nat) : Int)) ++ [by8 x.key.length,by8 x.val.length]) ++ le4 c)) rfl rfl rfl QA Tryz.underlying9 Z4 aPk (by simp only [List.length_append,List.length_cons,List.length_nil,le2,le4] <;> omega) (by simp only [maxLen,List.length_append,List.length_cons,List.length_nil,le2,le4] <;> omega)) (fun ⟨b12,c13⟩ h14=>?_)
 refine dH 6 rfl (QaV (l:=((((l ++ le2 ((QF x.sz : Nat) : Int)) ++ [by8 x.key.length,by8 x.val.length]) ++ le4 c) ++ x.key)) rfl rfl rfl QA Tryz.underlying9 Z4 aPk (by simp only [List.length_append,List.length_cons,List.length_nil,le2,le4] <;> omega) (by simp only [maxLen,List.length_append,List.length_cons,List.length_nil,le2,le4] <;> omega)) (fun ⟨b15,c16⟩ h17=>?_)
 refine dH 7 rfl (QX (Cs:=[.byz b15 c16 ((((((l ++ le2 ((QF x.sz : Nat) : Int)) ++ [by8 x.key.length,by8 x.val.length]) ++ le4 c) ++ x.key) ++ x.val))]) rfl Qp2 rfl aPs (fun w1 h1 hf=>c154 w1 b15 c16 (((((l ++ le2 ((QF x.sz : Nat) : Int)) ++ [by8 x.key.length,by8 x.val.length]) ++ le4 c) ++ x.key) ++ x.val) hf (by omega))) (fun ⟨b18,c19⟩ hz20=>?_)
 refine dP 8 ?_
 refine dNi ?_
 exact rT rfl rfl (fun w' h'=>⟨(b18,c19),by rw [he9];rfl,by rw [he9];exact (((((hz4).trans h8 (by simp only [List.length_append];omega)).trans hz11 (by simp only [List.length_append];omega)).trans h14 (by simp only [List.length_append];omega)).trans h17 (by simp only [List.length_append];omega)).trans hz20 (by simp only [List.length_append];omega),by rw [he9];exact h'.ent aEt⟩)
theorem Qp3 : QK Tryz.prog 202 = true:=by kernel_rfl
theorem Qr1 : QK Tryz.prog 156 = true:=by kernel_rfl
instance : TFn Tryz.prog 30:=⟨by kernel_rfl⟩
theorem c202 (w : World) (b : Nat) (n : LNd) (i : Nat) (hb : Rd w [] b 2 (.slice n.ca n.cs.length n.cc)) (hcs : Rw inV 1 w [] n.ca n.cs) (hl : n.cs.length ≤ 1000000) (hi : n.cs.length = 0 ∨ i < n.cs.length) : Calls Tryz.prog 202 #[.int .i64 (i : Int),.pointer (some ⟨b,0,none⟩)] w fun en w'=>en = .returned (.int .i64 (Q2 n.cs i)) ∧ Below w.heap.size w w':=by
 refine eN2 Tryz.func202 Tryz.ntmps202 ?_
 refine aU8 ?_
 refine o_q (Qb rfl rfl Qci (hb)) rfl ?_
 refine aU3 ?_
 refine sCd rfl (fun h1=>?_) fun h1=>?_
 ·have hz : Q2 n.cs i = 0:=if_pos (by have hq:=h1;omega)
  refine aU4 ?_
  exact rT rfl rfl (fun w' h'=>⟨by rw [hz];rfl,h'.below⟩)
 have hc0 : ¬ n.cs.length = 0:=by have hq:=h1;omega
 have hz : Q2 n.cs i = nth n.cs i:=if_neg hc0
 refine aU4 ?_
 refine o_q (Qb rfl rfl Qci (hb)) rfl ?_
 refine aU ?_
 refine o_p (Qa rfl rfl rfl Xa (i) (by omega) (by omega) (Rw.some hcs (by omega))) rfl ?_
 refine o_q (Qb rfl rfl ZB ((hcs.rdj (i:=i) 0 (by omega) rfl))) rfl ?_
 refine aU2 ?_
 exact rT rfl rfl (fun w' h'=>⟨by rw [hz];rfl,h'.below⟩)
theorem c148 (w : World) (a : Option Addr) (cap : Nat) (l : List UInt8) (n : LNd) (hw : HS w (fps [.byz a cap (l)]) [.byz a cap (l)] w) (hl : l.length ≤ 100000) (hl8 : l.length % 8 = 0) (hes : Rw TEnt.vals 2 w (fps [.byz a cap (l)]) n.ea n.es) (hcs : Rw inV 1 w (fps [.byz a cap (l)]) n.ca n.cs) (hp : NdP n.pl) : Calls Tryz.prog 148 #[.slice a l.length cap,.agg #[.bool n.us,.slice n.ea n.es.length n.ec,.slice n.ca n.cs.length n.cc]] w fun en w'=>∃ g : Option Addr × Nat,en = .returned (.slice g.1 (l ++ Q7 n.pl).length g.2) ∧ Qcp a cap g (l ++ Q7 n.pl).length ∧ HS w (fps [.byz a cap (l)]) [.byz g.1 g.2 (l ++ Q7 n.pl)] w':=by
 have hcl : n.cs.length = 0 ∨ n.cs.length = n.es.length + 1:=hp.cl
 have hel : n.es.length ≤ 1000:=hp.el
 have he9 : l ++ Q7 n.pl = (l ++ QO n.pl n.es.length) ++ QaL (Q2 n.cs n.es.length):=by rw [List.append_assoc];rfl
 have hee:=hp.ents n.es.length (Nat.le_refl _)
 have hle : (l ++ QO n.pl n.es.length).length = l.length + (QO n.pl n.es.length).length:=List.length_append
 have hke : 0 ≤ Q2 n.cs n.es.length ∧ Q2 n.cs n.es.length < 4294967296:=hp.kid (i:=n.es.length) (Nat.le_refl _)
 refine eW2 Tryz.func148 Tryz.ntmps148 hw ?_
 refine aU2 ?_
 refine oBx fun b1 _=>?_
 refine aU16 ?_
 refine Qr (α:=Nat × Option Addr × Nat) [0,6,7,12,13,14,15,16,17,18,19,20,21,22,23] (fun x=>[(12,.int .i64 (x.1 : Int)),(0,.slice x.2.1 (l ++ QO n.pl x.1).length x.2.2)]) (fun x=>HS w (fps [.byz a cap (l)]) [.byz x.2.1 x.2.2 (l ++ QO n.pl x.1),.blk b1 69 3 (LNd.vals n)]) (fun x=>x.1 ≤ n.es.length ∧ Qcp a cap (x.2.1,x.2.2) (l ++ QO n.pl x.1).length) (fun x=>n.es.length - x.1) (0,a,cap) ⟨Nat.zero_le _,fun _=>⟨rfl,rfl⟩⟩ (by simp only [QO,List.append_nil];exact aSx) (fun w h=>(by simp only [QO,List.append_nil];exact h.ent aEt)) (fun ⟨k,a2,c2⟩ hk1=>?_)
 dsimp only
 simp only [] at hk1
 obtain ⟨hk2,hk3⟩:=hk1
 have hek:=hp.ents k hk2
 have hlk : (l ++ QO n.pl k).length = l.length + (QO n.pl k).length:=List.length_append
 refine aU5 ?_
 refine sCd rfl (fun h2=>?_) fun h2=>?_
 ·have hk : k < n.es.length:=by omega
  have hst : l ++ QO n.pl (k + 1) = (l ++ QO n.pl k) ++ Yc (nth n.es k) (Q2 n.cs k):=by rw [List.append_assoc];rfl
  have hkk : 0 ≤ Q2 n.cs k ∧ Q2 n.cs k < 4294967296:=hp.kid (i:=k) (Nat.le_of_lt hk)
  have hx9 : (nth n.es k).key.length ≤ 300 ∧ (nth n.es k).val.length ≤ 300:=hp.es _ (Qv hk)
  refine aU6 ?_
  refine o_p (Qa rfl rfl rfl Q6 (k) (by omega) (by omega) (Rw.some hes (by omega))) rfl ?_
  refine o_q (Qw _ rfl rfl QbX rfl (Rw.rd hes (by omega))) rfl ?_
  refine oAl (fun b3 _=>?_) ZV
  refine aU3 ?_
  refine Qz [5] QN ?_
  refine dP 0 ?_
  refine dLn 1 [[]] ?_
  refine dP 2 ?_
  refine dP 3 ?_
  refine dQ 4 [[]] rfl (YO rfl rfl Qp3 rfl (fun w1 h1=>c202 w1 b1 n k (h1.rd_blk (Mc:=[]) aPk rfl (by simp)) (hcs.later h1) (by omega) (by omega))) ?_
  refine dH 5 rfl (QX (Cs:=[.byz a2 c2 (l ++ QO n.pl k)]) rfl Quh rfl aPs (fun w1 h1 hf=>c89 w1 a2 c2 (l ++ QO n.pl k) (nth n.es k) (Q2 n.cs k) hf (by omega) (by omega) hx9.1 hx9.2 hkk)) (fun ⟨b4,c5⟩ hz6=>?_)
  refine dTu [] ?_
  refine dP 6 ?_
  refine dNi ?_
  refine aT3 ?_
  refine aU2 ?_
  exact QP (k + 1,b4,c5) (by (try simp only []);omega) (by simp only [];rw [hst];exact ⟨by omega,hk3.trans hz6 (by simp only [List.length_append];omega)⟩) (by dsimp only;rw [hst];exact aSx) (fun w h=>by dsimp only;rw [hst];exact h.ent aEt)
 obtain rfl : k = n.es.length:=by omega
 refine Qi rfl ?_
 refine aU7 ?_
 refine o_q (YO rfl rfl Qp3 rfl (fun w1 h1=>c202 w1 b1 n n.es.length (h1.rd_blk (Mc:=[]) aPk rfl (by simp)) (hcs.later h1) (by omega) (by omega))) rfl ?_
 refine o_h (QX (Cs:=[.byz a2 c2 (l ++ QO n.pl n.es.length)]) rfl Qr1 rfl aPs (fun w1 h1 hf=>c156 w1 a2 c2 (l ++ QO n.pl n.es.length) (Q2 n.cs n.es.length) hf hke (by omega))) rfl (fun ⟨b7,c8⟩ hz9=>?_)
 refine aU2 ?_
 exact rT rfl rfl (fun w' h'=>⟨(b7,c8),by rw [he9];rfl,by rw [he9];exact hk3.trans hz9 (by simp only [List.length_append];omega),by rw [he9];exact h'.ent aEt⟩)
theorem c99 (w : World) (n : LNd) (hes : Rw TEnt.vals 2 w [] n.ea n.es) (hcs : Rw inV 1 w [] n.ca n.cs) (hp : NdP n.pl) : Calls Tryz.prog 99 #[.agg #[.bool n.us,.slice n.ea n.es.length n.ec,.slice n.ca n.cs.length n.cc]] w fun en w'=>en = .returned (.string (bs (Q7 n.pl))) ∧ Below w.heap.size w w':=by
 have hcl : n.cs.length = 0 ∨ n.cs.length = n.es.length + 1:=hp.cl
 have hel : n.es.length ≤ 1000:=hp.el
 have hee:=hp.ents n.es.length (Nat.le_refl _)
 have l82:=YH 2 8
 have hcb : (Q7 n.pl).length = (QO n.pl n.es.length).length + 8:=by unfold Q7;rw [List.length_append,Qbg];rfl
 refine eN1 Tryz.func99 Tryz.ntmps99 ?_
 refine aU2 ?_
 refine oBx fun b1 _=>?_
 refine Qbn ?_
 refine Qr (α:=Nat) [3,4,5,6,7,8,9,10,11,12,13,14,15,16,17,18,19,20,21,22,23,24,25,26,27,28,29,30,31,32,33,34,35,36,37,38,39,40,41,42,43] (fun k=>[(4,.int .i64 (k : Int)),(3,.string (bs (Qjj n.pl k)))]) (fun _=>HS w [] [.blk b1 69 3 (LNd.vals n)]) (fun k=>k ≤ n.es.length + 1) (fun k=>n.es.length + 1 - k) 0 (Nat.zero_le _) aSx (fun w h=>h.ent aEt) (fun k hk1=>?_)
 refine aU9 ?_
 refine sCd rfl (fun h2=>?_) fun h2=>?_
 ·have hk : k ≤ n.es.length:=by omega
  have hkk : 0 ≤ Q2 n.cs k ∧ Q2 n.cs k < 4294967296:=hp.kid (i:=k) hk
  have hek:=hp.ents k hk
  have lc4:=YH 4 (Q2 n.cs k)
  have hpk : Qjj n.pl k = QO n.pl k:=QnF hk
  rw [hpk]
  refine Qv0 ?_
  refine Yo (α:=Unit) [5,17,18,19,20,21] (fun _=>[(5,.int .i64 (Q2 n.cs k))]) (fun _=>HS w [] [.blk b1 69 3 (LNd.vals n)]) (fun _=>True) ?_ ?_
  ·skip
   refine sCd rfl (fun h3=>?_) fun h3=>?_
   ·have hc0 : ¬ n.cs.length = 0:=by have hq:=h3;omega
    have hz : Q2 n.cs k = nth n.cs k:=if_neg hc0
    refine aU4 ?_
    refine o_p (Qa rfl rfl rfl Xa (k) (by omega) (by omega) (Rw.some hcs (by omega))) rfl ?_
    refine o_q (Qb rfl rfl ZB ((hcs.rdj (i:=k) 0 (by omega) rfl))) rfl ?_
    refine aU2 ?_
    exact Qt () trivial (by rw [hz];exact aSx) (fun w h=>h.ent aEt)
   have hz : Q2 n.cs k = 0:=if_pos (by have hq:=h3;omega)
   refine aU ?_
   exact Qt () trivial (by rw [hz];exact aSx) (fun w h=>h.ent aEt)
  intro _ _
  refine aU8 ?_
  refine sCd rfl (fun h4=>?_) fun h4=>?_
  ·have hkl : k < n.es.length:=by have hq:=h4;omega
   have hst : Qjj n.pl (k + 1) = QO n.pl k ++ Yc (nth n.es k) (Q2 n.cs k):=Qot hkl
   have hx9 : (nth n.es k).key.length ≤ 300 ∧ (nth n.es k).val.length ≤ 300:=hp.es _ (Qv hkl)
   have hen9:=Qd8 (nth n.es k) (Q2 n.cs k)
   have hp89:=XU (nth n.es k).sz
   have hsz9 : (nth n.es k).sz = 8 + (nth n.es k).key.length + (nth n.es k).val.length:=rfl
   refine aU5 ?_
   refine o_p (Qa rfl rfl rfl Q6 (k) (by omega) (by omega) (Rw.some hes (by omega))) rfl ?_
   refine o_q (Qw _ rfl rfl QbX rfl (Rw.rd hes (by omega))) rfl ?_
   refine aU ?_
   refine oCq rfl (fun w1 h1=>c30 w1 (nth n.es k) (Q2 n.cs k) hx9.1 hx9.2 hkk) ?_
   refine o_p (QC rfl rfl rfl (by (try simp only [List.length_append,List.length_cons,List.length_nil,List.length_replicate,List.length_take,List.length_drop]);omega)) rfl ?_
   refine aT6 ?_
   refine aU2 ?_
   exact sBk (k + 1) (by omega) (by omega) (by rw [hst];exact aSx)
  obtain rfl : k = n.es.length:=by have hq:=h4;omega
  have hst : Qjj n.pl (n.es.length + 1) = ((QO n.pl n.es.length ++ Qb9 2 8) ++ List.replicate 2 0) ++ Qb9 4 (Q2 n.cs n.es.length):=by rw [show Qjj n.pl (n.es.length + 1) = Q7 n.pl from QjH n.pl];simp only [Q7,QaL,QgG,Qir,List.append_assoc];rfl
  refine aU2 ?_
  refine oCq rfl (fun w1 h1=>c94 w1 8 2 (by omega) (by omega)) ?_
  refine o_p (QC rfl rfl rfl (by (try simp only [List.length_append,List.length_cons,List.length_nil,List.length_replicate,List.length_take,List.length_drop]);omega)) rfl ?_
  refine oCq rfl (fun w1 h1=>c86 w1 2 (by omega)) ?_
  refine o_p (QC rfl rfl rfl (by (try simp only [List.length_append,List.length_cons,List.length_nil,List.length_replicate,List.length_take,List.length_drop]);omega)) rfl ?_
  refine aU ?_
  refine oCq rfl (fun w1 h1=>c94 w1 (Q2 n.cs n.es.length) 4 (by omega) (by omega)) ?_
  refine o_p (QC rfl rfl rfl (by (try simp only [List.length_append,List.length_cons,List.length_nil,List.length_replicate,List.length_take,List.length_drop]);omega)) rfl ?_
  refine aT6 ?_
  refine aU2 ?_
  exact sBk (n.es.length + 1) (by omega) (by omega) (by rw [hst];exact aSx)
 obtain rfl : k = n.es.length + 1:=by omega
 rw [show Qjj n.pl (n.es.length + 1) = Q7 n.pl from QjH n.pl]
 refine Qi rfl ?_
 refine aU5 ?_
 exact rT rfl rfl (fun w' h'=>⟨by rfl,h'.below⟩)
end Go.Proofs
namespace Gx
open Go Go.RowKit
theorem Qqs {t : Tre} {i j : Nat} (hi : i < t.ns.length) (hj : j < (nth t.ns i).es.length) (h : YZ (nth (nth t.ns i).es j) = false) : t.ns.all ZS = false:=by grind [ZS,Qv,hi]
theorem Qox {n : Nd} (h : ∀ j,j < n.es.length → YZ (nth n.es j) = true) : ZS n = true:=by
 refine List.all_eq_true.2 fun x hx=>?_;obtain ⟨i,hi,e⟩:=List.getElem_of_mem hx;have:=h i hi
 simp_all [Y2,hi]
theorem Qoe {ns : List Nd} (h : ∀ i,i < ns.length → ZS (nth ns i) = true) : ns.all ZS = true:=by
 refine List.all_eq_true.2 fun x hx=>?_;obtain ⟨i,hi,e⟩:=List.getElem_of_mem hx;have:=h i hi
 simp_all [Y2,hi]
def QhV (L : List LNd) : List Bool:=L.map fun n=>!ZS n.pl
def QhS (es : List TEnt) : List Bool:=es.map fun x=>!YZ x
theorem QnU (es : List TEnt) : (QhS es).any id = !(es.all YZ):=by
 unfold QhS;rw [List.any_map,List.all_eq_not_any_not,Bool.not_not];rfl
theorem QnZ (L : List LNd) : (QhV L).any id = !((pln L).all ZS):=by
 unfold QhV;rw [List.any_map,List.all_map,List.all_eq_not_any_not,Bool.not_not];rfl
theorem QnT {es : List TEnt} {k : Nat} (h : k < es.length) : (QhS es).getD k false = !YZ (nth es k):=by
 unfold QhS;rw [Qcw (d:=default) h];rfl
theorem Qol {L : List LNd} {k : Nat} (h : k < L.length) : (QhV L).getD k false = !ZS (nth L k).pl:=by
 unfold QhV;rw [Qcw (d:=default) h];rfl
end Gx
