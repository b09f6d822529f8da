/- Contracts of the program's functions, proved by walking them with the rules of the Gx texts; without conditions beyond those that each contract names. -/
import Derived.WalkKit
import Derived.Deep.Draws
import Derived.TacticsIn
import Derived.OrdersIn
import Derived.RangeFuncLeaves
import Derived.Lib.Strings
import Derived.Laws.BytesArg
import Derived.Laws.IdiomStrings
import Derived.Deep.Quiet
import Derived.ProofKit
import Derived.OpenShut
import Derived.Laws.StructEq
import Derived.ChangeKeysEq
import Derived.Laws.Externs
import Derived.Lib.Overlaps
import Derived.Carry
import Derived.Laws.Small
import Derived.Lib.Bytealg
import Derived.Lib.Builder
import Derived.Laws.Pointers
import Derived.RangeFuncRecord
import Derived.Test.YtpkhkcchibbhmaaGreatDoorProg
import Derived.KernelRfl
import Derived.SizedLaws
import Derived.ChangeSame
import Derived.Handed
import Derived.Test.YtpkhkcchibbhmaaGreatDoorTie
import Derived.Test.YtpkhkcchibbhmaaGreatDoorCards
import Derived.SevenTiedAt
import Derived.LaidMore
import Derived.Lay
import Derived.Stop.Joined
import Derived.Test.YtpkhkcchibbhmaaGreatDoorP2
set_option linter.unusedSimpArgs false
set_option linter.unusedVariables false
set_option linter.unusedSectionVars false
set_option linter.unnecessarySimpa false
namespace Go.Proofs
open Go Go.RowKit Gx
attribute [local irreducible] Go.Calls Gx.S Gx.O Gx.D Gx.OpP Gx.OpQ Gx.OpH
set_option maxRecDepth 20000
theorem QtC : Qt Tryz.prog 178 = true:=by kernel_rfl
theorem QvR : Qt Tryz.prog 121 = true:=by kernel_rfl
theorem Qob : Qt Tryz.prog 95 = true:=by kernel_rfl
theorem QbK : Qt Tryz.prog 94 = true:=by kernel_rfl
theorem Qhc : Qt Tryz.prog 86 = true:=by kernel_rfl
theorem c94 (w : World) (n : Int) (c : Nat) (hn : 0 ≤ n ∧ n ≤ 9223372036854775807) (hc : c ≤ 1000) : Calls Tryz.prog 94 #[.int .i64 n,.int .i64 (c : Int)] w fun en w'=>en = .returned (.string (bs (QdM c n))) ∧ Below w.heap.size w w':=by
 refine enter (args:=[_,_]) Tryz.func94 Tryz.ntmps94 rfl rfl (HS.refl w []) ?_
 iterate 14 refine aS ?_
 refine Qx (α:=Nat × Int × List UInt8 × Option Addr × Nat) [0,5,6,7,8,9,10,11,12,13,14,15,16,17,18,19] (fun x=>[(6,.int .i64 (x.1 : Int)),(0,.int .i64 x.2.1),(5,.slice x.2.2.2.1 x.2.2.1.length x.2.2.2.2)]) (fun x=>HS w [] [.own (.slice x.2.2.2.1 x.2.2.1.length x.2.2.2.2) 5 1 (x.2.2.1.length) ((x.2.2.1).map bv)]) (fun x=>x.1 ≤ c ∧ x.2.2.1.length = x.1 ∧ (0 ≤ x.2.1 ∧ x.2.1 ≤ 9223372036854775807) ∧ QdM c n = x.2.2.1 ++ QdM (c - x.1) x.2.1) (fun x=>c - x.1) (0,n,[],none,0) ⟨Nat.zero_le _,rfl,hn,rfl⟩ aSx (fun w h=>(h.own_nil 5 1).ent aEt) (fun ⟨k,m,p,ga,gc⟩ hx=>?_)
 dsimp only
 obtain ⟨hk1,hpl,hm,hst⟩:=hx
 simp only [] at hk1 hpl hm hst
 refine aS7 ?_
 refine Qb rfl (fun h1=>?_) fun h1=>?_
 ·try simp only [dT] at h1
  have hk : k < c:=by omega
  refine aS7 ?_
  refine o_p (QjU rfl rfl rfl (by omega) (by omega)) rfl ?_
  refine o_p (Qo rfl rfl YZ Zq) rfl ?_
  refine Qq (show _ = bv (by8 m) from (Yh _).trans (by rw [Qbv (show m % 256 % 256 = m % 256 by omega)])) ?_
  refine o_h (Qr (cs:=[_]) rfl rfl QK Qao rfl rfl rfl) rfl (fun b2 _=>?_)
  refine o_h (XU _ rfl rfl rfl QK Tryz.underlying139 Qao rfl aPk (XI aPk) rfl (by intro u hu;simp only [List.mem_cons,List.mem_nil_iff,or_false] at hu;subst hu;rfl) (by omega) (by simp only [maxLen];omega)) rfl (fun b3 _=>?_)
  refine aS4 ?_
  refine o_p (QaR rfl rfl rfl (by omega) (by omega) (by omega)) rfl ?_
  refine aS6 ?_
  try refine oWr ?_
  refine aS2 ?_
  exact Qu (k + 1,m / 256,p ++ [by8 m],b3.1,b3.2) (by (try simp only []);omega) ⟨by (try simp only []);omega,by simp [hpl],by (try simp only []);omega,by simp only [];rw [hst,show c - k = (c - (k + 1)) + 1 by omega,QdM,List.append_assoc];rfl⟩ (by dsimp only;rw [List.length_append];exact aSx) (fun w h=>by dsimp only;rw [List.length_append,List.map_append];exact h.ent aEt)
 try simp only [dN] at h1
 obtain rfl : k = c:=by omega
 rw [Nat.sub_self,QdM,List.append_nil] at hst
 refine Qp rfl ?_
 refine aS3 ?_
 refine o_q (QdI rfl rfl Tryz.underlying139 Tryz.underlying9 Tryz.underlying5 aPk (Qan _)) rfl ?_
 refine aS2 ?_
 exact rT rfl rfl (fun w' h'=>⟨by rw [Zu,hst];rfl,h'.below⟩)
theorem Ql0 (c : Nat) : XH [.int .u8 0] (c * 1) = (List.replicate c (0 : UInt8)).map bv:=by
  rw [Nat.mul_one,List.map_replicate];exact QbR _ _
theorem QpA {m : Int} (h : 0 ≤ m ∧ m ≤ 1000000000000) : Value.int .i64 (IntKind.i64.wrap ((-m).tdiv 8)) = Value.int .i64 (-(m / 8)):=by
  rw [Int.neg_tdiv,Int.tdiv_eq_ediv_of_nonneg h.1];exact QjX (by omega) (by omega)
theorem Qpc {m : Int} (h : 0 ≤ m) : (-m).tmod 8 = -(m % 8):=by rw [Int.neg_tmod,Int.tmod_eq_emod_of_nonneg h]
theorem c86 (w : World) (c : Nat) (hc : c ≤ 100000) : Calls Tryz.prog 86 #[.int .i64 (c : Int)] w fun en w'=>en = .returned (.string (bs (List.replicate c 0))) ∧ Below w.heap.size w w':=by
 refine enter (args:=[_]) Tryz.func86 Tryz.ntmps86 rfl rfl (HS.refl w []) ?_
 refine aS7 ?_
 refine o_p (QkI rfl rfl rfl ) rfl ?_
 refine o_p (Qhs rfl rfl rfl ) rfl ?_
 refine Qq (show _ = Value.int .i64 (c : Int) from congrArg (Value.int .i64) (by split <;> split <;> omega)) ?_
 refine o_h (QhV (n:=c) rfl rfl rfl QK Qao (by omega) (by omega)) rfl (fun b1 _=>?_)
 refine o_q (YD rfl rfl Tryz.underlying139 Tryz.underlying9 Tryz.underlying5 aPk (by simp [QF]) (by intro v hv;rw [Ql0] at hv;exact Qan _ v hv)) rfl ?_
 refine aS2 ?_
 exact rT rfl rfl (fun w' h'=>⟨by rw [Ql0,Zu];rfl,h'.below⟩)
theorem c53 (w : World) (s : List UInt8) (hm : s.length ≤ 1000000000) : Calls Tryz.prog 53 #[.string (bs s)] w fun en w'=>en = .returned (.bool (zer s)) ∧ Below w.heap.size w w':=by
 refine enter (args:=[_]) Tryz.func53 Tryz.ntmps53 rfl rfl (HS.refl w []) ?_
 refine Qaq ?_
 refine Qx (α:=Nat) [2,3,4,5,6,7,8,9,10,11,12,13] (fun k=>[(3,.int .i64 (k : Int))]) (fun _=>_) (fun k=>k ≤ s.length ∧ zer (s.take k) = true) (fun k=>s.length - k) 0 ⟨Nat.zero_le _,rfl⟩ aSx (fun w h=>h) (fun k hkk=>?_)
 obtain ⟨hk1,hk2⟩:=hkk
 refine aS5 ?_
 refine o_p (Qn rfl rfl Tryz.underlying9) rfl ?_
 refine aS2 ?_
 refine Qb rfl (fun h1=>?_) fun h1=>?_
 ·try simp only [dT] at h1
  have hk : k < s.length:=by omega
  have hst:=Qq1 hk
  refine aS7 ?_
  refine o_p (Xv rfl rfl rfl Tryz.underlying9 (k) (by omega) (by omega)) rfl ?_
  refine aS2 ?_
  refine Qb rfl (fun h2=>?_) fun h2=>?_
  ·try simp only [Bool.not_eq_true',decide_eq_false_iff_not] at h2
   have hz : ¬ s.getD k 0 = 0:=by have hq:=h2;intro h9;exact hq (QjC.2 h9)
   have hf:=QtX hk hz
   refine aS4 ?_
   exact rT rfl rfl (fun w' h'=>⟨by rw [hf];rfl,h'.below⟩)
  try simp only [Bool.not_eq_false',decide_eq_true_eq] at h2
  have hz : s.getD k 0 = 0:=QjC.1 (by have hq:=h2;simpa using hq)
  refine aS5 ?_
  try refine oWr ?_
  refine aS2 ?_
  exact Qu (k + 1) (by omega) ⟨by omega,by rw [hst,hk2,hz];rfl⟩ aSx (fun w h=>h)
 try simp only [dN] at h1
 obtain rfl : k = s.length:=by omega
 rw [List.take_length] at hk2
 refine Qp rfl ?_
 refine aS4 ?_
 exact rT rfl rfl (fun w' h'=>⟨by rw [hk2];rfl,h'.below⟩)
theorem c54 (w : World) (l : List UInt8) (p : Nat) (d : List UInt8) (hp : p + d.length ≤ l.length) (hl : l.length ≤ 1000000000) : Calls Tryz.prog 54 #[.string (bs l),.int .i64 (p : Int),.string (bs d)] w fun en w'=>en = .returned (.string (bs (QJ l p d))) ∧ Below w.heap.size w w':=by
 refine enter (args:=[_,_,_]) Tryz.func54 Tryz.ntmps54 rfl rfl (HS.refl w []) ?_
 refine aS5 ?_
 refine QG [] QU ?_
 refine dP 0 ?_
 refine dP 1 ?_
 refine dV 2 rfl (ZZ p rfl rfl rfl Tryz.underlying9 rfl (by omega)) ?_
 refine dP 3 ?_
 refine dV 4 rfl (QV rfl rfl rfl (by (try simp only [List.length_append,List.length_cons,List.length_nil,List.length_replicate,List.length_take,List.length_drop]);omega)) ?_
 refine dP 5 ?_
 refine dP 6 ?_
 refine dP 7 ?_
 refine dV 8 rfl (Qn rfl rfl Tryz.underlying9) ?_
 refine dP 9 ?_
 try refine dWr ?_
 refine dV 10 rfl (YE (p + d.length) rfl rfl rfl Tryz.underlying9 (by omega) (by omega)) ?_
 refine dV 11 rfl (QV rfl rfl rfl (by (try simp only [List.length_append,List.length_cons,List.length_nil,List.length_replicate,List.length_take,List.length_drop]);omega)) ?_
 refine dP 12 ?_
 refine dNi ?_
 exact rT rfl rfl (fun w' h'=>⟨by rfl,h'.below⟩)
theorem c178 (w : World) (m : Int) (hm : 0 ≤ m ∧ m ≤ 1000000000000) : Calls Tryz.prog 178 #[.int .i64 (-m),.int .i64 8] w fun en w'=>en = .returned (.int .i64 (-((m + 7) / 8))) ∧ Below w.heap.size w w':=by
 refine enter (args:=[_,_]) Tryz.func178 Tryz.ntmps178 rfl rfl (HS.refl w []) ?_
 refine aS8 ?_
 refine o_p (Qqq rfl rfl rfl (by decide)) rfl ?_
 refine Qq (QpA hm) ?_
 refine aS7 ?_
 refine o_p (Qpp rfl rfl rfl (by decide)) rfl ?_
 refine Qq (show _ = Value.int .i64 (-(m % 8)) from by rw [Qpc hm.1]) ?_
 refine aS2 ?_
 refine Qb rfl (fun h1=>?_) fun h1=>?_
 ·try simp only [dT] at h1
  refine aS3 ?_
  try refine oWr ?_
  refine aS7 ?_
  exact rT rfl rfl (fun w' h'=>⟨by simp only [QT];congr 2;omega,h'.below⟩)
 try simp only [dN] at h1
 refine aS6 ?_
 exact rT rfl rfl (fun w' h'=>⟨by simp only [QT];congr 2;omega,h'.below⟩)
theorem c121 (w : World) (m : Int) (hm : 0 ≤ m ∧ m ≤ 1000000000000) : Calls Tryz.prog 121 #[.int .i64 m,.int .i64 8] w fun en w'=>en = .returned (.int .i64 ((m + 7) / 8)) ∧ Below w.heap.size w w':=by
 refine enter (args:=[_,_]) Tryz.func121 Tryz.ntmps121 rfl rfl (HS.refl w []) ?_
 refine aS8 ?_
 try refine oWr ?_
 refine Qq (show _ = Value.int .i64 (-m) from by rw [Int.zero_sub]) ?_
 refine aS ?_
 refine o_q (Qa rfl QtC rfl (fun w1 h1=>c178 w1 m hm)) rfl ?_
 refine aS ?_
 try refine oWr ?_
 refine Qq (show _ = Value.int .i64 ((m + 7) / 8) from by congr 1;omega) ?_
 refine aS2 ?_
 exact rT rfl rfl (fun w' h'=>⟨by rfl,h'.below⟩)
theorem c95 (w : World) (m : Nat) (hm : m ≤ 1000000000) : Calls Tryz.prog 95 #[.int .i64 (m : Int)] w fun en w'=>en = .returned (.int .i64 ((QM m : Nat) : Int)) ∧ Below w.heap.size w w':=by
 refine enter (args:=[_]) Tryz.func95 Tryz.ntmps95 rfl rfl (HS.refl w []) ?_
 refine aS7 ?_
 refine o_q (Qa rfl QvR rfl (fun w1 h1=>c121 w1 (m : Int) (by omega))) rfl ?_
 refine aS ?_
 try refine oWr ?_
 refine aS2 ?_
 exact rT rfl rfl (fun w' h'=>⟨by simp only [QT,QM];congr 2,h'.below⟩)
theorem c29 (w : World) (x : TEnt) (c : Int) (hk : x.key.length ≤ 1000000) (hv : x.val.length ≤ 1000000) : Calls Tryz.prog 29 #[.agg #[.string (bs x.key),.string (bs x.val)],.int .i64 c] w fun en w'=>en = .returned (.int .i64 (Z1 x c)) ∧ Below w.heap.size w w':=by
 refine enter (args:=[_,_]) Tryz.func29 Tryz.ntmps29 rfl rfl (HS.refl w []) ?_
 refine aS2 ?_
 refine oBx fun b1 _=>?_
 refine aS7 ?_
 refine o_p (Qn rfl rfl Tryz.underlying9) rfl ?_
 refine o_q (Qa rfl YM rfl (fun w1 h1=>c40 w1 _ _ _)) rfl ?_
 refine aS2 ?_
 refine Qb rfl (fun h2=>?_) fun h2=>?_
 ·try simp only [Bool.not_eq_true',Bool.and_eq_false_iff,decide_eq_false_iff_not] at h2
  have hz : Z1 x c = 3:=by have hq:=h2;unfold Z1;rw [if_neg (by first | omega | (simp at hq;omega))]
  refine aS4 ?_
  exact rT rfl rfl (fun w' h'=>⟨by rw [hz];rfl,h'.below⟩)
 try simp only [Bool.not_eq_false',Bool.and_eq_true,decide_eq_true_eq] at h2
 have hk1 : 1 ≤ x.key.length ∧ x.key.length ≤ 40:=by have hq:=h2;first | omega | (simp at hq;omega)
 refine aS6 ?_
 refine o_p (Qn rfl rfl Tryz.underlying9) rfl ?_
 refine aS2 ?_
 refine o_p (Qn rfl rfl Tryz.underlying9) rfl ?_
 refine aS ?_
 try refine oWr ?_
 refine aS2 ?_
 refine Qb rfl (fun h3=>?_) fun h3=>?_
 ·try simp only [dT] at h3
  have hz : Z1 x c = 8:=by have hq:=h3;unfold Z1;rw [if_pos hk1,if_neg (by omega)]
  refine aS4 ?_
  exact rT rfl rfl (fun w' h'=>⟨by rw [hz];rfl,h'.below⟩)
 try simp only [dN] at h3
 have hk2 : x.key.length + x.val.length ≤ 88:=by have hq:=h3;omega
 refine aS5 ?_
 refine o_q (Qa rfl YM rfl (fun w1 h1=>c40 w1 _ _ _)) rfl ?_
 refine aS2 ?_
 refine Qb rfl (fun h4=>?_) fun h4=>?_
 ·try simp only [Bool.not_eq_true',Bool.and_eq_false_iff,decide_eq_false_iff_not] at h4
  have hz : Z1 x c = 2:=by have hq:=h4;unfold Z1;rw [if_pos hk1,if_pos hk2,if_neg (by first | omega | (simp at hq;omega))]
  refine aS4 ?_
  exact rT rfl rfl (fun w' h'=>⟨by rw [hz];rfl,h'.below⟩)
 try simp only [Bool.not_eq_false',Bool.and_eq_true,decide_eq_true_eq] at h4
 have hz : Z1 x c = 0:=by have hq:=h4;unfold Z1;rw [if_pos hk1,if_pos hk2,if_pos (by first | omega | (simp at hq;omega))]
 refine aS5 ?_
 exact rT rfl rfl (fun w' h'=>⟨by rw [hz];rfl,h'.below⟩)
theorem c30 (w : World) (x : TEnt) (c : Int) (hk : x.key.length ≤ 300) (hv : x.val.length ≤ 300) (hc : 0 ≤ c ∧ c < 4294967296) : Calls Tryz.prog 30 #[.agg #[.string (bs x.key),.string (bs x.val)],.int .i64 c] w fun en w'=>en = .returned (.string (bs (X2 x c))) ∧ Below w.heap.size w w':=by
 have hsz : x.sz = 8 + x.key.length + x.val.length:=rfl
 have hp8:=YP x.sz
 have l2:=Z4 2 ((QM x.sz : Nat) : Int)
 have lk:=Z4 1 (x.key.length : Int)
 have lv:=Z4 1 (x.val.length : Int)
 have lc:=Z4 4 c
 refine enter (args:=[_,_]) Tryz.func30 Tryz.ntmps30 rfl rfl (HS.refl w []) ?_
 refine aS2 ?_
 refine oBx fun b1 _=>?_
 refine aS6 ?_
 refine o_p (Qn rfl rfl Tryz.underlying9) rfl ?_
 refine aS ?_
 try refine oWr ?_
 refine aS2 ?_
 refine o_p (Qn rfl rfl Tryz.underlying9) rfl ?_
 refine aS ?_
 try refine oWr ?_
 refine aS ?_
 refine Qq (show _ = Value.int .i64 ((x.sz : Nat) : Int) from by congr 1) ?_
 refine aS2 ?_
 refine QG [] QU ?_
 refine dP 0 ?_
 refine dQ 1 [] rfl (Qa rfl Qob rfl (fun w1 h1=>c95 w1 x.sz (by omega))) ?_
 refine dQ 2 [] rfl (Qa rfl QbK rfl (fun w1 h1=>c94 w1 ((QM x.sz : Nat) : Int) 2 (by omega) (by omega))) ?_
 refine dFa 3 ?_
 refine dLd 4 [] ?_
 refine dV 5 rfl (Qn rfl rfl Tryz.underlying9) ?_
 refine dQ 6 [] rfl (Qa rfl QbK rfl (fun w1 h1=>c94 w1 (x.key.length : Int) 1 (by omega) (by omega))) ?_
 refine dV 7 rfl (QV rfl rfl rfl (by (try simp only [List.length_append,List.length_cons,List.length_nil,List.length_replicate,List.length_take,List.length_drop]);omega)) ?_
 refine dFa 8 ?_
 refine dLd 9 [] ?_
 refine dV 10 rfl (Qn rfl rfl Tryz.underlying9) ?_
 refine dQ 11 [] rfl (Qa rfl QbK rfl (fun w1 h1=>c94 w1 (x.val.length : Int) 1 (by omega) (by omega))) ?_
 refine dV 12 rfl (QV rfl rfl rfl (by (try simp only [List.length_append,List.length_cons,List.length_nil,List.length_replicate,List.length_take,List.length_drop]);omega)) ?_
 refine dP 13 ?_
 refine dQ 14 [] rfl (Qa rfl QbK rfl (fun w1 h1=>c94 w1 c 4 (by omega) (by omega))) ?_
 refine dV 15 rfl (QV rfl rfl rfl (by (try simp only [List.length_append,List.length_cons,List.length_nil,List.length_replicate,List.length_take,List.length_drop]);omega)) ?_
 refine dFa 16 ?_
 refine dLd 17 [] ?_
 refine dV 18 rfl (QV rfl rfl rfl (by (try simp only [List.length_append,List.length_cons,List.length_nil,List.length_replicate,List.length_take,List.length_drop]);omega)) ?_
 refine dFa 19 ?_
 refine dLd 20 [] ?_
 refine dV 21 rfl (QV rfl rfl rfl (by (try simp only [List.length_append,List.length_cons,List.length_nil,List.length_replicate,List.length_take,List.length_drop]);omega)) ?_
 refine dP 22 ?_
 refine dQ 23 [] rfl (Qa rfl Qob rfl (fun w1 h1=>c95 w1 x.sz (by omega))) ?_
 refine dP 24 ?_
 refine dP 25 ?_
 try refine dWr ?_
 refine QD (show _ = Value.int .i64 ((QM x.sz - x.sz : Nat) : Int) from by congr 1;omega) ?_
 refine dQ 26 [] rfl (Qa rfl Qhc rfl (fun w1 h1=>c86 w1 (QM x.sz - x.sz) (by omega))) ?_
 refine dV 27 rfl (QV rfl rfl rfl (by (try simp only [List.length_append,List.length_cons,List.length_nil,List.length_replicate,List.length_take,List.length_drop]);omega)) ?_
 refine dP 28 ?_
 refine dNi ?_
 exact rT rfl rfl (fun w' h'=>⟨by simp only [QT,X2,Qgv,QvK,Qit,List.append_assoc,List.cons_append,List.nil_append],h'.below⟩)
theorem Qvx : Qt Tryz.prog 154 = true:=by kernel_rfl
theorem Qs4 : Qt Tryz.prog 88 = true:=by kernel_rfl
theorem Qp1 : Qt Tryz.prog 59 = true:=by kernel_rfl
theorem QsS : Qt Tryz.prog 89 = true:=by kernel_rfl
theorem c89 (w : World) (a : Option Addr) (cap : Nat) (l : List UInt8) (x : TEnt) (c : Int) (hw : HS w (fps [.byz a cap (l)]) [.byz a cap (l)] w) (hl : l.length ≤ 900000) (hl8 : l.length % 8 = 0) (hk : x.key.length ≤ 300) (hv : x.val.length ≤ 300) (hc : 0 ≤ c ∧ c < 4294967296) : Calls Tryz.prog 89 #[.slice a l.length cap,.agg #[.string (bs x.key),.string (bs x.val)],.int .i64 c] w fun en w'=>∃ g : Option Addr × Nat,en = .returned (.slice g.1 (l ++ X2 x c).length g.2) ∧ Qb6 a cap g (l ++ X2 x c).length ∧ HS w (fps [.byz a cap (l)]) [.byz g.1 g.2 (l ++ X2 x c)] w':=by
 have hsz : x.sz = 8 + x.key.length + x.val.length:=rfl
 have hp8:=YP x.sz
 have l1 : (l ++ le2 ((QM x.sz : Nat) : Int)).length = l.length + 2:=by rw [List.length_append];rfl
 have l2 : ((l ++ le2 ((QM x.sz : Nat) : Int)) ++ [by8 x.key.length,by8 x.val.length]).length = l.length + 4:=by rw [List.length_append,l1];rfl
 have l3 : (((l ++ le2 ((QM x.sz : Nat) : Int)) ++ [by8 x.key.length,by8 x.val.length]) ++ le4 c).length = l.length + 8:=by rw [List.length_append,l2];rfl
 have l4 : ((((l ++ le2 ((QM x.sz : Nat) : Int)) ++ [by8 x.key.length,by8 x.val.length]) ++ le4 c) ++ x.key).length = l.length + 8 + x.key.length:=by rw [List.length_append,l3]
 have l5 : (((((l ++ le2 ((QM x.sz : Nat) : Int)) ++ [by8 x.key.length,by8 x.val.length]) ++ le4 c) ++ x.key) ++ x.val).length = l.length + x.sz:=by rw [List.length_append,l4];omega
 have hpd : QM (((((l ++ le2 ((QM x.sz : Nat) : Int)) ++ [by8 x.key.length,by8 x.val.length]) ++ le4 c) ++ x.key) ++ x.val).length - (((((l ++ le2 ((QM x.sz : Nat) : Int)) ++ [by8 x.key.length,by8 x.val.length]) ++ le4 c) ++ x.key) ++ x.val).length = QM x.sz - x.sz:=by rw [l5,Qqx hl8];omega
 have he9 : l ++ X2 x c = (((((l ++ le2 ((QM x.sz : Nat) : Int)) ++ [by8 x.key.length,by8 x.val.length]) ++ le4 c) ++ x.key) ++ x.val) ++ List.replicate (QM (((((l ++ le2 ((QM x.sz : Nat) : Int)) ++ [by8 x.key.length,by8 x.val.length]) ++ le4 c) ++ x.key) ++ x.val).length - (((((l ++ le2 ((QM x.sz : Nat) : Int)) ++ [by8 x.key.length,by8 x.val.length]) ++ le4 c) ++ x.key) ++ x.val).length) 0:=by rw [hpd];simp only [X2,List.append_assoc]
 refine enter (args:=[_,_,_]) Tryz.func89 Tryz.ntmps89 rfl rfl hw ?_
 refine aS2 ?_
 refine oBx fun b1 _=>?_
 refine aS6 ?_
 refine o_p (Qn rfl rfl Tryz.underlying9) rfl ?_
 refine aS ?_
 try refine oWr ?_
 refine aS2 ?_
 refine o_p (Qn rfl rfl Tryz.underlying9) rfl ?_
 refine aS ?_
 try refine oWr ?_
 refine aS ?_
 try refine oWr ?_
 refine aS ?_
 try refine oWr ?_
 refine o_p (QaR rfl rfl rfl (by omega) (by omega) (by omega)) rfl ?_
 refine aS ?_
 try refine oWr ?_
 refine Qq (show _ = Value.int .i64 ((QM x.sz : Nat) : Int) from by congr 1;unfold QM;omega) ?_
 refine aS6 ?_
 refine o_p (Qo rfl rfl YZ Yf) rfl ?_
 refine Qq (show _ = Value.int .u16 ((QM x.sz : Nat) : Int) from by first | rfl | (rw [Qj9];congr 1;omega)) ?_
 refine o_h (Q0 (Cs:=[.byz a cap (l)]) rfl Qk7 rfl aPs (fun w1 h1 hf=>Que w1 a cap l ((QM x.sz : Nat) : Int) hf (by omega) (by omega))) rfl (fun ⟨b2,c3⟩ hz4=>?_)
 refine aS7 ?_
 refine o_p (Qn rfl rfl Tryz.underlying9) rfl ?_
 refine o_p (Qo rfl rfl YZ Zq) rfl ?_
 refine Qq (Yh _) ?_
 refine aS2 ?_
 refine o_p (Qn rfl rfl Tryz.underlying9) rfl ?_
 refine o_p (Qo rfl rfl YZ Zq) rfl ?_
 refine Qq (Yh _) ?_
 refine o_h (Qr (cs:=[_,_]) rfl rfl QK Qao rfl rfl rfl) rfl (fun b5 _=>?_)
 refine o_h (ZQ (l:=(l ++ le2 ((QM x.sz : Nat) : Int))) [by8 x.key.length,by8 x.val.length] rfl rfl rfl QK Tryz.underlying139 Qao aPk (XI aPk) (by simp only [List.length_append,List.length_cons,List.length_nil,le2,le4] <;> omega) (by simp only [maxLen,List.length_append,List.length_cons,List.length_nil,le2,le4] <;> omega)) rfl (fun ⟨b6,c7⟩ h8=>?_)
 refine aS3 ?_
 refine Qm (L':=[(0,_),(2,_),(4,_),(6,_)]) aSx (fun _ h=>h) ?_
 refine aS3 ?_
 refine o_p (Qo rfl rfl YZ YQ) rfl ?_
 refine Qq (show _ = Value.int .u32 c from by first | rfl | (rw [QeC];congr 1;omega)) ?_
 refine o_h (Q0 (Cs:=[.byz b6 c7 (((l ++ le2 ((QM x.sz : Nat) : Int)) ++ [by8 x.key.length,by8 x.val.length]))]) rfl QqZ rfl aPs (fun w1 h1 hf=>c153 w1 b6 c7 ((l ++ le2 ((QM x.sz : Nat) : Int)) ++ [by8 x.key.length,by8 x.val.length]) c hf hc (by omega))) rfl (fun ⟨b9,c10⟩ hz11=>?_)
 refine aS3 ?_
 refine QhT [.blk b1 27 2 [.string (bs x.key),.string (bs x.val)]] [] QU ?_
 refine dP 0 ?_
 refine dFa 1 ?_
 refine dLd 2 [] ?_
 refine dFa 4 ?_
 refine dLd 5 [] ?_
 refine dH 3 rfl (QcS (l:=(((l ++ le2 ((QM x.sz : Nat) : Int)) ++ [by8 x.key.length,by8 x.val.length]) ++ le4 c)) rfl rfl rfl QK Tryz.underlying9 Qao aPk (by simp only [List.length_append,List.length_cons,List.length_nil,le2,le4] <;> omega) (by simp only [maxLen,List.length_append,List.length_cons,List.length_nil,le2,le4] <;> omega)) (fun ⟨b12,c13⟩ h14=>?_)
 refine dH 6 rfl (QcS (l:=((((l ++ le2 ((QM x.sz : Nat) : Int)) ++ [by8 x.key.length,by8 x.val.length]) ++ le4 c) ++ x.key)) rfl rfl rfl QK Tryz.underlying9 Qao aPk (by simp only [List.length_append,List.length_cons,List.length_nil,le2,le4] <;> omega) (by simp only [maxLen,List.length_append,List.length_cons,List.length_nil,le2,le4] <;> omega)) (fun ⟨b15,c16⟩ h17=>?_)
 refine dH 7 rfl (Q0 (Cs:=[.byz b15 c16 ((((((l ++ le2 ((QM x.sz : Nat) : Int)) ++ [by8 x.key.length,by8 x.val.length]) ++ le4 c) ++ x.key) ++ x.val))]) rfl Qvx rfl aPs (fun w1 h1 hf=>c154 w1 b15 c16 (((((l ++ le2 ((QM x.sz : Nat) : Int)) ++ [by8 x.key.length,by8 x.val.length]) ++ le4 c) ++ x.key) ++ x.val) hf (by omega))) (fun ⟨b18,c19⟩ hz20=>?_)
 refine dP 8 ?_
 refine dNi ?_
 exact rT rfl rfl (fun w' h'=>⟨(b18,c19),by rw [he9];rfl,by rw [he9];exact (((((hz4).trans h8 (by simp only [List.length_append];omega)).trans hz11 (by simp only [List.length_append];omega)).trans h14 (by simp only [List.length_append];omega)).trans h17 (by simp only [List.length_append];omega)).trans hz20 (by simp only [List.length_append];omega),by rw [he9];exact h'.ent aEt⟩)
theorem QpS : Qt Tryz.prog 202 = true:=by kernel_rfl
theorem QoC : Qt Tryz.prog 156 = true:=by kernel_rfl
theorem Qwc : Qt Tryz.prog 30 = true:=by kernel_rfl
theorem c202 (w : World) (b : Nat) (n : LNd) (i : Nat) (hb : Rd w [] b 2 (.slice n.ca n.cs.length n.cc)) (hcs : Rw inV 1 w [] n.ca n.cs) (hl : n.cs.length ≤ 1000000) (hi : n.cs.length = 0 ∨ i < n.cs.length) : Calls Tryz.prog 202 #[.int .i64 (i : Int),.pointer (some ⟨b,0,none⟩)] w fun en w'=>en = .returned (.int .i64 (QX n.cs i)) ∧ Below w.heap.size w w':=by
 refine enter (args:=[_,_]) Tryz.func202 Tryz.ntmps202 rfl rfl (HS.refl w []) ?_
 refine aS8 ?_
 refine o_q (Qd rfl rfl QbN (hb)) rfl ?_
 refine aS3 ?_
 refine Qb rfl (fun h1=>?_) fun h1=>?_
 ·try simp only [dT] at h1
  have hz : QX n.cs i = 0:=if_pos (by have hq:=h1;omega)
  refine aS4 ?_
  exact rT rfl rfl (fun w' h'=>⟨by rw [hz];rfl,h'.below⟩)
 try simp only [dN] at h1
 have hc0 : ¬ n.cs.length = 0:=by have hq:=h1;omega
 have hz : QX n.cs i = nth n.cs i:=if_neg hc0
 refine aS4 ?_
 refine o_q (Qd rfl rfl QbN (hb)) rfl ?_
 refine aS ?_
 refine o_p (Qc rfl rfl rfl Xe (i) (by omega) (by omega) (Rw.some hcs (by omega))) rfl ?_
 refine o_q (Qd rfl rfl Y1 ((hcs.rdj (i:=i) 0 (by omega) rfl))) rfl ?_
 refine aS2 ?_
 exact rT rfl rfl (fun w' h'=>⟨by rw [hz];rfl,h'.below⟩)
theorem c148 (w : World) (a : Option Addr) (cap : Nat) (l : List UInt8) (n : LNd) (hw : HS w (fps [.byz a cap (l)]) [.byz a cap (l)] w) (hl : l.length ≤ 100000) (hl8 : l.length % 8 = 0) (hes : Rw TEnt.vals 2 w (fps [.byz a cap (l)]) n.ea n.es) (hcs : Rw inV 1 w (fps [.byz a cap (l)]) n.ca n.cs) (hp : NdP n.pl) : Calls Tryz.prog 148 #[.slice a l.length cap,.agg #[.bool n.us,.slice n.ea n.es.length n.ec,.slice n.ca n.cs.length n.cc]] w fun en w'=>∃ g : Option Addr × Nat,en = .returned (.slice g.1 (l ++ Xj n.pl).length g.2) ∧ Qb6 a cap g (l ++ Xj n.pl).length ∧ HS w (fps [.byz a cap (l)]) [.byz g.1 g.2 (l ++ Xj n.pl)] w':=by
 have hcl : n.cs.length = 0 ∨ n.cs.length = n.es.length + 1:=hp.cl
 have hel : n.es.length ≤ 1000:=hp.el
 have he9 : l ++ Xj n.pl = (l ++ QL n.pl n.es.length) ++ Qap (QX n.cs n.es.length):=by rw [List.append_assoc];rfl
 have hee:=hp.ents n.es.length (Nat.le_refl _)
 have hle : (l ++ QL n.pl n.es.length).length = l.length + (QL n.pl n.es.length).length:=List.length_append
 have hke : 0 ≤ QX n.cs n.es.length ∧ QX n.cs n.es.length < 4294967296:=hp.kid (i:=n.es.length) (Nat.le_refl _)
 refine enter (args:=[_,_]) Tryz.func148 Tryz.ntmps148 rfl rfl hw ?_
 refine aS2 ?_
 refine oBx fun b1 _=>?_
 iterate 16 refine aS ?_
 refine Qx (α:=Nat × Option Addr × Nat) [0,6,7,12,13,14,15,16,17,18,19,20,21,22,23] (fun x=>[(12,.int .i64 (x.1 : Int)),(0,.slice x.2.1 (l ++ QL n.pl x.1).length x.2.2)]) (fun x=>HS w (fps [.byz a cap (l)]) [.byz x.2.1 x.2.2 (l ++ QL n.pl x.1),.blk b1 69 3 (LNd.vals n)]) (fun x=>x.1 ≤ n.es.length ∧ Qb6 a cap (x.2.1,x.2.2) (l ++ QL n.pl x.1).length) (fun x=>n.es.length - x.1) (0,a,cap) ⟨Nat.zero_le _,fun _=>⟨rfl,rfl⟩⟩ (by simp only [QL,List.append_nil];exact aSx) (fun w h=>(by simp only [QL,List.append_nil];exact h.ent aEt)) (fun ⟨k,a2,c2⟩ hk1=>?_)
 dsimp only
 simp only [] at hk1
 obtain ⟨hk2,hk3⟩:=hk1
 have hek:=hp.ents k hk2
 have hlk : (l ++ QL n.pl k).length = l.length + (QL n.pl k).length:=List.length_append
 refine aS5 ?_
 refine Qb rfl (fun h2=>?_) fun h2=>?_
 ·try simp only [dT] at h2
  have hk : k < n.es.length:=by omega
  have hst : l ++ QL n.pl (k + 1) = (l ++ QL n.pl k) ++ X2 (nth n.es k) (QX n.cs k):=by rw [List.append_assoc];rfl
  have hkk : 0 ≤ QX n.cs k ∧ QX n.cs k < 4294967296:=hp.kid (i:=k) (Nat.le_of_lt hk)
  have hx9 : (nth n.es k).key.length ≤ 300 ∧ (nth n.es k).val.length ≤ 300:=hp.es _ (QC hk)
  refine aS6 ?_
  refine o_p (Qc rfl rfl rfl Xh (k) (by omega) (by omega) (Rw.some hes (by omega))) rfl ?_
  refine o_q (QA _ rfl rfl Qb2 rfl (Rw.rd hes (by omega))) rfl ?_
  refine oAl (fun b3 _=>?_) Z2
  refine aS ?_
  refine oSt ?_
  refine aS ?_
  refine QG [5] QU ?_
  refine dP 0 ?_
  refine dLn 1 [[]] ?_
  refine dP 2 ?_
  refine dP 3 ?_
  refine dQ 4 [[]] rfl (Y2 rfl rfl QpS rfl (fun w1 h1=>c202 w1 b1 n k (h1.rd_blk (Mc:=[]) aPk rfl (by simp)) (hcs.later h1) (by omega) (by omega))) ?_
  refine dH 5 rfl (Q0 (Cs:=[.byz a2 c2 (l ++ QL n.pl k)]) rfl QsS rfl aPs (fun w1 h1 hf=>c89 w1 a2 c2 (l ++ QL n.pl k) (nth n.es k) (QX n.cs k) hf (by omega) (by omega) hx9.1 hx9.2 hkk)) (fun ⟨b4,c5⟩ hz6=>?_)
  refine dTu [] ?_
  refine dP 6 ?_
  refine dNi ?_
  refine aS3 ?_
  try refine oWr ?_
  refine aS2 ?_
  exact Qu (k + 1,b4,c5) (by (try simp only []);omega) (by simp only [];rw [hst];exact ⟨by omega,hk3.trans hz6 (by simp only [List.length_append];omega)⟩) (by dsimp only;rw [hst];exact aSx) (fun w h=>by dsimp only;rw [hst];exact h.ent aEt)
 try simp only [dN] at h2
 obtain rfl : k = n.es.length:=by omega
 refine Qp rfl ?_
 refine aS7 ?_
 refine o_q (Y2 rfl rfl QpS rfl (fun w1 h1=>c202 w1 b1 n n.es.length (h1.rd_blk (Mc:=[]) aPk rfl (by simp)) (hcs.later h1) (by omega) (by omega))) rfl ?_
 refine o_h (Q0 (Cs:=[.byz a2 c2 (l ++ QL n.pl n.es.length)]) rfl QoC rfl aPs (fun w1 h1 hf=>c156 w1 a2 c2 (l ++ QL n.pl n.es.length) (QX n.cs n.es.length) hf hke (by omega))) rfl (fun ⟨b7,c8⟩ hz9=>?_)
 refine aS2 ?_
 exact rT rfl rfl (fun w' h'=>⟨(b7,c8),by rw [he9];rfl,by rw [he9];exact hk3.trans hz9 (by simp only [List.length_append];omega),by rw [he9];exact h'.ent aEt⟩)
theorem c99 (w : World) (n : LNd) (hes : Rw TEnt.vals 2 w [] n.ea n.es) (hcs : Rw inV 1 w [] n.ca n.cs) (hp : NdP n.pl) : Calls Tryz.prog 99 #[.agg #[.bool n.us,.slice n.ea n.es.length n.ec,.slice n.ca n.cs.length n.cc]] w fun en w'=>en = .returned (.string (bs (Xj n.pl))) ∧ Below w.heap.size w w':=by
 have hcl : n.cs.length = 0 ∨ n.cs.length = n.es.length + 1:=hp.cl
 have hel : n.es.length ≤ 1000:=hp.el
 have hee:=hp.ents n.es.length (Nat.le_refl _)
 have l82:=Z4 2 8
 have hcb : (Xj n.pl).length = (QL n.pl n.es.length).length + 8:=by unfold Xj;rw [List.length_append,QdF];rfl
 refine enter (args:=[_]) Tryz.func99 Tryz.ntmps99 rfl rfl (HS.refl w []) ?_
 refine aS2 ?_
 refine oBx fun b1 _=>?_
 refine Qeq ?_
 refine Qx (α:=Nat) [3,4,5,6,7,8,9,10,11,12,13,14,15,16,17,18,19,20,21,22,23,24,25,26,27,28,29,30,31,32,33,34,35,36,37,38,39,40,41,42,43] (fun k=>[(4,.int .i64 (k : Int)),(3,.string (bs (Qib n.pl k)))]) (fun _=>HS w [] [.blk b1 69 3 (LNd.vals n)]) (fun k=>k ≤ n.es.length + 1) (fun k=>n.es.length + 1 - k) 0 (Nat.zero_le _) aSx (fun w h=>h.ent aEt) (fun k hk1=>?_)
 refine aS9 ?_
 refine Qb rfl (fun h2=>?_) fun h2=>?_
 ·try simp only [dT] at h2
  have hk : k ≤ n.es.length:=by omega
  have hkk : 0 ≤ QX n.cs k ∧ QX n.cs k < 4294967296:=hp.kid (i:=k) hk
  have hek:=hp.ents k hk
  have lc4:=Z4 4 (QX n.cs k)
  have hpk : Qib n.pl k = QL n.pl k:=QlN hk
  rw [hpk]
  iterate 15 refine aS ?_
  refine Yi (α:=Unit) [5,17,18,19,20,21] (fun _=>[(5,.int .i64 (QX n.cs k))]) (fun _=>HS w [] [.blk b1 69 3 (LNd.vals n)]) (fun _=>True) ?_ ?_
  ·skip
   refine Qb rfl (fun h3=>?_) fun h3=>?_
   ·try simp only [dT] at h3
    have hc0 : ¬ n.cs.length = 0:=by have hq:=h3;omega
    have hz : QX n.cs k = nth n.cs k:=if_neg hc0
    refine aS4 ?_
    refine o_p (Qc rfl rfl rfl Xe (k) (by omega) (by omega) (Rw.some hcs (by omega))) rfl ?_
    refine o_q (Qd rfl rfl Y1 ((hcs.rdj (i:=k) 0 (by omega) rfl))) rfl ?_
    refine aS2 ?_
    exact Qw () trivial (by rw [hz];exact aSx) (fun w h=>h.ent aEt)
   try simp only [dN] at h3
   have hz : QX n.cs k = 0:=if_pos (by have hq:=h3;omega)
   refine aS ?_
   exact Qw () trivial (by rw [hz];exact aSx) (fun w h=>h.ent aEt)
  intro _ _
  refine aS8 ?_
  refine Qb rfl (fun h4=>?_) fun h4=>?_
  ·try simp only [dT] at h4
   have hkl : k < n.es.length:=by have hq:=h4;omega
   have hst : Qib n.pl (k + 1) = QL n.pl k ++ X2 (nth n.es k) (QX n.cs k):=Qnw hkl
   have hx9 : (nth n.es k).key.length ≤ 300 ∧ (nth n.es k).val.length ≤ 300:=hp.es _ (QC hkl)
   have hen9:=Qdq (nth n.es k) (QX n.cs k)
   have hp89:=YP (nth n.es k).sz
   have hsz9 : (nth n.es k).sz = 8 + (nth n.es k).key.length + (nth n.es k).val.length:=rfl
   refine aS5 ?_
   refine o_p (Qc rfl rfl rfl Xh (k) (by omega) (by omega) (Rw.some hes (by omega))) rfl ?_
   refine o_q (QA _ rfl rfl Qb2 rfl (Rw.rd hes (by omega))) rfl ?_
   refine aS ?_
   refine o_q (Qa rfl Qwc rfl (fun w1 h1=>c30 w1 (nth n.es k) (QX n.cs k) hx9.1 hx9.2 hkk)) rfl ?_
   refine o_p (QV rfl rfl rfl (by (try simp only [List.length_append,List.length_cons,List.length_nil,List.length_replicate,List.length_take,List.length_drop]);omega)) rfl ?_
   refine aS6 ?_
   try refine oWr ?_
   refine aS2 ?_
   exact Qu (k + 1) (by omega) (by omega) (by rw [hst];exact aSx) (fun w h=>h.ent aEt)
  try simp only [dN] at h4
  obtain rfl : k = n.es.length:=by have hq:=h4;omega
  have hst : Qib n.pl (n.es.length + 1) = ((QL n.pl n.es.length ++ QdM 2 8) ++ List.replicate 2 0) ++ QdM 4 (QX n.cs n.es.length):=by rw [show Qib n.pl (n.es.length + 1) = Xj n.pl from Qj6 n.pl];simp only [Xj,Qap,Qgv,Qit,List.append_assoc];rfl
  refine aS2 ?_
  refine o_q (Qa rfl QbK rfl (fun w1 h1=>c94 w1 8 2 (by omega) (by omega))) rfl ?_
  refine o_p (QV rfl rfl rfl (by (try simp only [List.length_append,List.length_cons,List.length_nil,List.length_replicate,List.length_take,List.length_drop]);omega)) rfl ?_
  refine o_q (Qa rfl Qhc rfl (fun w1 h1=>c86 w1 2 (by omega))) rfl ?_
  refine o_p (QV rfl rfl rfl (by (try simp only [List.length_append,List.length_cons,List.length_nil,List.length_replicate,List.length_take,List.length_drop]);omega)) rfl ?_
  refine aS ?_
  refine o_q (Qa rfl QbK rfl (fun w1 h1=>c94 w1 (QX n.cs n.es.length) 4 (by omega) (by omega))) rfl ?_
  refine o_p (QV rfl rfl rfl (by (try simp only [List.length_append,List.length_cons,List.length_nil,List.length_replicate,List.length_take,List.length_drop]);omega)) rfl ?_
  refine aS6 ?_
  try refine oWr ?_
  refine aS2 ?_
  exact Qu (n.es.length + 1) (by omega) (by omega) (by rw [hst];exact aSx) (fun w h=>h.ent aEt)
 try simp only [dN] at h2
 obtain rfl : k = n.es.length + 1:=by omega
 rw [show Qib n.pl (n.es.length + 1) = Xj n.pl from Qj6 n.pl]
 refine Qp rfl ?_
 refine aS5 ?_
 exact rT rfl rfl (fun w' h'=>⟨by rfl,h'.below⟩)
end Go.Proofs
namespace Gx
open Go Go.RowKit
theorem QnO {t : Tre} {i j : Nat} (hi : i < t.ns.length) (hj : j < (nth t.ns i).es.length) (h : YR (nth (nth t.ns i).es j) = false) : t.ns.all ZH = false:=by
 cases hb : t.ns.all ZH with
 | false=>rfl
 | true=>
  have h1:=List.all_eq_true.1 hb _ (QC hi);have h2:=List.all_eq_true.1 h1 _ (QC hj);rw [h] at h2;cases h2
theorem Qnk {n : Nd} (h : ∀ j,j < n.es.length → YR (nth n.es j) = true) : ZH n = true:=by
 refine List.all_eq_true.2 fun x hx=>?_;obtain ⟨i,hi,e⟩:=List.getElem_of_mem hx;have:=h i hi
 rwa [Zk (x:=x) (by rw [List.getElem?_eq_getElem hi,e])] at this
theorem Qnb {ns : List Nd} (h : ∀ i,i < ns.length → ZH (nth ns i) = true) : ns.all ZH = true:=by
 refine List.all_eq_true.2 fun x hx=>?_;obtain ⟨i,hi,e⟩:=List.getElem_of_mem hx;have:=h i hi
 rwa [Zk (x:=x) (by rw [List.getElem?_eq_getElem hi,e])] at this
def Qhf (L : List LNd) : List Bool:=L.map fun n=>!ZH n.pl
def QgI (es : List TEnt) : List Bool:=es.map fun x=>!YR x
theorem QmP (es : List TEnt) : (QgI es).any id = !(es.all YR):=by
 unfold QgI;rw [List.any_map,List.all_eq_not_any_not,Bool.not_not];rfl
theorem Qm8 (L : List LNd) : (Qhf L).any id = !((pln L).all ZH):=by
 unfold Qhf;rw [List.any_map,List.all_map,List.all_eq_not_any_not,Bool.not_not];rfl
theorem QmV {es : List TEnt} {k : Nat} (h : k < es.length) : (QgI es).getD k false = !YR (nth es k):=by
 unfold QgI;rw [QaX (d:=default) h];rfl
theorem Qno {L : List LNd} {k : Nat} (h : k < L.length) : (Qhf L).getD k false = !ZH (nth L k).pl:=by
 unfold Qhf;rw [QaX (d:=default) h];rfl
end Gx
namespace Go.Proofs
open Go Go.RowKit Gx
attribute [local irreducible] Go.Calls Gx.S Gx.O Gx.D Gx.OpP Gx.OpQ Gx.OpH
set_option maxRecDepth 20000
theorem Qvv : Qt Tryz.prog 144 = true:=by kernel_rfl
theorem Qu6 : Qt Tryz.prog 142 = true:=by kernel_rfl
theorem QuM : Qt Tryz.prog 176 = true:=by kernel_rfl
theorem QvT : Qt Tryz.prog 201 = true:=by kernel_rfl
theorem Qu7 : Qt Tryz.prog 143 = true:=by kernel_rfl
theorem Qu9 : Qt Tryz.prog 140 = true:=by kernel_rfl
theorem QtH : Qt Tryz.prog 141 = true:=by kernel_rfl
theorem c144 (w : World) (x : TEnt) (hk : x.key.length ≤ 1000000) (hv : x.val.length ≤ 1000000) : Calls Tryz.prog 144 #[.agg #[.string (bs x.key),.string (bs x.val)]] w fun en w'=>en = .returned (.bool (!YR x)) ∧ Below w.heap.size w w':=by
 refine enter (args:=[_]) Tryz.func144 Tryz.ntmps144 rfl rfl (HS.refl w []) ?_
 refine aS2 ?_
 refine oBx fun b1 _=>?_
 refine aS5 ?_
 refine o_q (Qa rfl Qs4 rfl (fun w1 h1=>c88 w1 _ (by omega) (by omega))) rfl ?_
 refine aS3 ?_
 exact rT rfl rfl (fun w' h'=>⟨rfl,h'.below⟩)
theorem c176 (w : World) (a : Option Addr) (cap : Nat) (l : List TEnt) (q : Nat) (cv : Array Value) (bt : List Bool) (hs : Rw TEnt.vals 2 w [] a l) (hm : l.length ≤ 1000000) (hq : Qt Tryz.prog q = true) (hb : bt.length = l.length) (hc : ∀ k w1,k < l.length → HS w [] [] w1 → Calls Tryz.prog q (#[] ++ [.agg (TEnt.vals (nth l k)).toArray].toArray ++ cv) w1 fun en w2=>en = .returned (.bool (bt.getD k false)) ∧ Below w1.heap.size w1 w2) : Calls Tryz.prog 176 #[.slice a l.length cap,.func (.func q) #[] cv] w fun en w'=>en = .returned (.int .i64 (ixI bt)) ∧ Below w.heap.size w w':=by
 refine enter (args:=[_,_]) Tryz.func176 Tryz.ntmps176 rfl rfl (HS.refl w []) ?_
 refine Qeq ?_
 refine Qx (α:=Nat) [4,5,8,9,10,11,12,13,14,15,16,17,18] (fun k=>[(8,.int .i64 (k : Int))]) (fun _=>_) (fun k=>k ≤ l.length ∧ ∀ i,i < k → bt.getD i false = false) (fun k=>l.length - k) 0 ⟨by omega,fun i h=>absurd h (Nat.not_lt_zero i)⟩ aSx (fun w h=>h) (fun k hk=>?_)
 obtain ⟨hk1,hk2⟩:=hk
 refine aS5 ?_
 refine Qb rfl (fun h1=>?_) fun h1=>?_
 ·try simp only [dT] at h1
  iterate 13 refine aS ?_
  refine o_p (Qc rfl rfl rfl Xh (k) (by omega) (by omega) (Rw.some hs (by omega))) rfl ?_
  refine o_q (QA _ rfl rfl Qb2 rfl (Rw.rd hs (by omega))) rfl ?_
  refine o_q (Y2 rfl rfl hq rfl (fun w1 h1=>hc k w1 (by omega) (h1.ent aEt))) rfl ?_
  refine aS ?_
  refine Qb rfl (fun h2=>?_) fun h2=>?_
  ·skip
   refine aS5 ?_
   exact rT rfl rfl (fun w' h'=>⟨by have e:=Qbi (l:=bt) (k:=k) (by omega) hk2 (fun _=>by assumption);simp only [QT,ixI,e];rw [if_pos (by omega)],h'.below⟩)
  skip
  refine aS4 ?_
  try refine oWr ?_
  refine aS2 ?_
  exact Qu (k+1) (by omega) ⟨by omega,fun i hi=>(Nat.lt_or_ge i k).elim (hk2 i) (fun h=>by obtain rfl : i = k:=(by omega);assumption)⟩ aSx (fun w h=>h)
 try simp only [dN] at h1
 refine Qp rfl ?_
 refine aS4 ?_
 exact rT rfl rfl (fun w' h'=>⟨by have e:=Qbi (l:=bt) (k:=k) (by omega) hk2 (fun h=>by omega);simp only [QT,ixI,e];rw [if_neg (by omega)],h'.below⟩)
theorem c143 (w : World) (a : Option Addr) (cap : Nat) (l : List TEnt) (q : Nat) (cv : Array Value) (bt : List Bool) (hs : Rw TEnt.vals 2 w [] a l) (hm : l.length ≤ 1000000) (hq : Qt Tryz.prog q = true) (hb : bt.length = l.length) (hc : ∀ k w1,k < l.length → HS w [] [] w1 → Calls Tryz.prog q (#[] ++ [.agg (TEnt.vals (nth l k)).toArray].toArray ++ cv) w1 fun en w2=>en = .returned (.bool (bt.getD k false)) ∧ Below w1.heap.size w1 w2) : Calls Tryz.prog 143 #[.slice a l.length cap,.func (.func q) #[] cv] w fun en w'=>en = .returned (.bool (bt.any id)) ∧ Below w.heap.size w w':=by
 refine enter (args:=[_,_]) Tryz.func143 Tryz.ntmps143 rfl rfl (HS.refl w []) ?_
 refine aS8 ?_
 refine o_q (Qa rfl QuM rfl (fun w1 h1=>c176 w1 a cap l q cv bt (hs.later h1) hm hq hb (fun k w2 hk h2=>hc k w2 hk (by simpa using h1.call h2)))) rfl ?_
 refine aS3 ?_
 exact rT rfl rfl (fun w' h'=>⟨by simp only [QT];rw [← Qfd],h'.below⟩)
theorem c201 (w : World) (a : Option Addr) (cap : Nat) (l : List LNd) (q : Nat) (cv : Array Value) (bt : List Bool) (hs : Rw LNd.vals 3 w [] a l) (hm : l.length ≤ 1000000) (hq : Qt Tryz.prog q = true) (hb : bt.length = l.length) (hc : ∀ k w1,k < l.length → HS w [] [] w1 → Calls Tryz.prog q (#[] ++ [.agg (LNd.vals (nth l k)).toArray].toArray ++ cv) w1 fun en w2=>en = .returned (.bool (bt.getD k false)) ∧ Below w1.heap.size w1 w2) : Calls Tryz.prog 201 #[.slice a l.length cap,.func (.func q) #[] cv] w fun en w'=>en = .returned (.int .i64 (ixI bt)) ∧ Below w.heap.size w w':=by
 refine enter (args:=[_,_]) Tryz.func201 Tryz.ntmps201 rfl rfl (HS.refl w []) ?_
 refine Qeq ?_
 refine Qx (α:=Nat) [4,5,8,9,10,11,12,13,14,15,16,17,18] (fun k=>[(8,.int .i64 (k : Int))]) (fun _=>_) (fun k=>k ≤ l.length ∧ ∀ i,i < k → bt.getD i false = false) (fun k=>l.length - k) 0 ⟨by omega,fun i h=>absurd h (Nat.not_lt_zero i)⟩ aSx (fun w h=>h) (fun k hk=>?_)
 obtain ⟨hk1,hk2⟩:=hk
 refine aS5 ?_
 refine Qb rfl (fun h1=>?_) fun h1=>?_
 ·try simp only [dT] at h1
  iterate 13 refine aS ?_
  refine o_p (Qc rfl rfl rfl XB (k) (by omega) (by omega) (Rw.some hs (by omega))) rfl ?_
  refine o_q (QA _ rfl rfl Xz rfl (Rw.rd hs (by omega))) rfl ?_
  refine o_q (Y2 rfl rfl hq rfl (fun w1 h1=>hc k w1 (by omega) (h1.ent aEt))) rfl ?_
  refine aS ?_
  refine Qb rfl (fun h2=>?_) fun h2=>?_
  ·skip
   refine aS5 ?_
   exact rT rfl rfl (fun w' h'=>⟨by have e:=Qbi (l:=bt) (k:=k) (by omega) hk2 (fun _=>by assumption);simp only [QT,ixI,e];rw [if_pos (by omega)],h'.below⟩)
  skip
  refine aS4 ?_
  try refine oWr ?_
  refine aS2 ?_
  exact Qu (k+1) (by omega) ⟨by omega,fun i hi=>(Nat.lt_or_ge i k).elim (hk2 i) (fun h=>by obtain rfl : i = k:=(by omega);assumption)⟩ aSx (fun w h=>h)
 try simp only [dN] at h1
 refine Qp rfl ?_
 refine aS4 ?_
 exact rT rfl rfl (fun w' h'=>⟨by have e:=Qbi (l:=bt) (k:=k) (by omega) hk2 (fun h=>by omega);simp only [QT,ixI,e];rw [if_neg (by omega)],h'.below⟩)
theorem c141 (w : World) (a : Option Addr) (cap : Nat) (l : List LNd) (q : Nat) (cv : Array Value) (bt : List Bool) (hs : Rw LNd.vals 3 w [] a l) (hm : l.length ≤ 1000000) (hq : Qt Tryz.prog q = true) (hb : bt.length = l.length) (hc : ∀ k w1,k < l.length → HS w [] [] w1 → Calls Tryz.prog q (#[] ++ [.agg (LNd.vals (nth l k)).toArray].toArray ++ cv) w1 fun en w2=>en = .returned (.bool (bt.getD k false)) ∧ Below w1.heap.size w1 w2) : Calls Tryz.prog 141 #[.slice a l.length cap,.func (.func q) #[] cv] w fun en w'=>en = .returned (.bool (bt.any id)) ∧ Below w.heap.size w w':=by
 refine enter (args:=[_,_]) Tryz.func141 Tryz.ntmps141 rfl rfl (HS.refl w []) ?_
 refine aS8 ?_
 refine o_q (Qa rfl QvT rfl (fun w1 h1=>c201 w1 a cap l q cv bt (hs.later h1) hm hq hb (fun k w2 hk h2=>hc k w2 hk (by simpa using h1.call h2)))) rfl ?_
 refine aS3 ?_
 exact rT rfl rfl (fun w' h'=>⟨by simp only [QT];rw [← Qfd],h'.below⟩)
theorem c142 (w : World) (n : LNd) (hes : Rw TEnt.vals 2 w [] n.ea n.es) (hl : n.es.length ≤ 1000000) (hkl : ∀ x ∈ n.es,x.key.length ≤ 1000000 ∧ x.val.length ≤ 1000000) : Calls Tryz.prog 142 #[.agg #[.bool n.us,.slice n.ea n.es.length n.ec,.slice n.ca n.cs.length n.cc]] w fun en w'=>en = .returned (.bool (!ZH n.pl)) ∧ Below w.heap.size w w':=by
 refine enter (args:=[_]) Tryz.func142 Tryz.ntmps142 rfl rfl (HS.refl w []) ?_
 refine aS2 ?_
 refine oBx fun b1 _=>?_
 refine aS6 ?_
 refine o_q (Qa rfl Qu7 rfl (fun w1 h1=>c143 w1 n.ea n.ec n.es 144 #[] (QgI n.es) (hes.later h1) hl Qvv (by simp [QgI]) (fun k w2 hk h2=>by rw [QmV hk];exact c144 w2 (nth n.es k) (hkl _ (QC hk)).1 (hkl _ (QC hk)).2))) rfl ?_
 refine aS2 ?_
 exact rT rfl rfl (fun w' h'=>⟨by simp only [QT];rw [QmP];rfl,h'.below⟩)
theorem c75 (w : World) (co mo rm : Int) (a : Option Addr) (cap : Nat) (L : List LNd) (hs : Nt w [] a L) (hB : Bd (pln L)) (hkl : ∀ i,i < L.length → ∀ x ∈ (nth L i).es,x.key.length ≤ 1000000 ∧ x.val.length ≤ 1000000) : Calls Tryz.prog 75 #[.agg #[.int .i64 co,.int .i64 mo,.int .i64 rm,.slice a L.length cap]] w fun en w'=>en = .returned (.int .i64 (YC (⟨co,mo,rm,pln L⟩ : Tre))) ∧ Below w.heap.size w w':=by
 have hLl : L.length ≤ 1000:=by have:=hB.len;rwa [Qi] at this
 refine enter (args:=[_]) Tryz.func75 Tryz.ntmps75 rfl rfl (HS.refl w []) ?_
 refine aS2 ?_
 refine oBx fun b1 _=>?_
 refine aS5 ?_
 refine o_q (Qa rfl Qu9 rfl (fun w1 h1=>c140 w1 co mo rm a cap L (hs.later h1.nil) hB (fun i hi x hx=>(hkl i hi x hx).1))) rfl ?_
 refine Qeq ?_
 refine Xt 4 14 18 _ _ rfl
  (by
   intro hg2
   have hs3:=hg2;try simp only [dN] at hs3
   refine oOn 14 hg2 ?_
   refine aS ?_
   refine oOn 14 hg2 ?_
   refine aS ?_
   refine oOn 14 hg2 ?_
   refine o_q (Qa rfl QtH rfl (fun w1 h1=>c141 w1 a cap L 142 #[] (Qhf L) (Rw.later hs.1 h1) (by omega) Qu6 (by simp [Qhf]) (fun k w2 hk h2=>by rw [Qno hk];exact c142 w2 (nth L k) ((hs.es hk).later (by simpa using h1.call h2)) (by have:=hB.es k (by rwa [Qi]);rw [XJ] at this;have h8 : (nth L k).es.length ≤ 1000:=this;omega) (hkl k hk)))) rfl ?_
   refine o_p (Qf rfl rfl hg2 rfl) rfl ?_
   refine aS ?_
   exact oJn 4 18)
  (by
   intro hg4
   have hs5:=hg4;try simp only [dT] at hs5
   refine oOf 14 hg4 ?_
   refine oOf 14 hg4 ?_
   refine oOf 14 hg4 ?_
   refine o_p (Qg rfl rfl hg4 rfl) rfl ?_
   refine aS ?_
   exact oJn 4 18) ?_
 refine aS7 ?_
 refine o_q (Qa rfl Qjm rfl (fun w1 h1=>c60 w1 _ _)) rfl ?_
 refine o_h (Qr (cs:=[_,_]) rfl rfl ZE Qdr rfl rfl rfl) rfl (fun b6 _=>?_)
 refine o_q (Qa rfl Qp1 rfl (fun w1 h1=>f59 h1 aPk (by rfl) (by rfl) (by decide))) rfl ?_
 refine aS2 ?_
 exact rT rfl rfl (fun w' h'=>⟨by simp only [QT,Zh,YC,Qm8];first | grind | (simp_all;done),h'.below⟩)
theorem QqN : Qt Tryz.prog 148 = true:=by kernel_rfl
theorem Qte : Qt Tryz.prog 75 = true:=by kernel_rfl
theorem Qwp : Qt Tryz.prog 90 = true:=by kernel_rfl
theorem Qwg : Qt Tryz.prog 99 = true:=by kernel_rfl
theorem Qwb : Qt Tryz.prog 84 = true:=by kernel_rfl
theorem c90 (w : World) (co mo rm : Int) (a : Option Addr) (cap : Nat) (L : List LNd) (hs : Nt w [] a L) (h0 : 0 < L.length) (hp : NdP (nth L 0).pl) : Calls Tryz.prog 90 #[.agg #[.int .i64 co,.int .i64 mo,.int .i64 rm,.slice a L.length cap]] w fun en w'=>en = .returned (.string (bs (Qna (⟨co,mo,rm,pln L⟩ : Tre)))) ∧ Below w.heap.size w w':=by
 have hel : (nth L 0).es.length ≤ 1000:=hp.el
 have hee : (QL (nth L 0).pl (nth L 0).es.length).length ≤ 608 * (nth L 0).es.length ∧ (QL (nth L 0).pl (nth L 0).es.length).length % 8 = 0:=hp.ents _ (Nat.le_refl _)
 have hR : Qna (⟨co,mo,rm,pln L⟩ : Tre) = (QdV ++ [by8 co,by8 mo,by8 rm,by8 ((nth L 0).es.length : Int)]) ++ Xj (nth L 0).pl:=by simp only [Qna,XJ];rfl
 have l8 : (QdV ++ [by8 co,by8 mo,by8 rm,by8 ((nth L 0).es.length : Int)]).length = 8:=rfl
 refine enter (args:=[_]) Tryz.func90 Tryz.ntmps90 rfl rfl (HS.refl w []) ?_
 refine aS2 ?_
 refine oBx fun b1 _=>?_
 refine aS6 ?_
 refine o_p (Qc rfl rfl rfl XB 0 rfl (by omega) (Rw.some hs.1 (by omega))) rfl ?_
 refine o_q (QA _ rfl rfl Xz rfl (Rw.rd hs.1 (by omega))) rfl ?_
 refine oAl (fun b2 _=>?_) XF
 refine oSt ?_
 refine aS3 ?_
 refine o_h (Qr (cs:=[_,_,_,_]) rfl rfl QK Qao rfl rfl rfl) rfl (fun b3 _=>?_)
 refine o_h (Qfp rfl rfl Tryz.underlying139 Tryz.underlying5 aPt) rfl (fun _ _=>?_)
 refine X6 (fun w h=>h.byz_blk (l:=QdV) aPk (by decide) (by decide) rfl) ?_
 refine aS2 ?_
 refine o_p (Qo rfl rfl YZ Zq) rfl ?_
 refine Qq (Yh _) ?_
 refine aS2 ?_
 refine o_p (Qo rfl rfl YZ Zq) rfl ?_
 refine Qq (Yh _) ?_
 refine aS2 ?_
 refine o_p (Qo rfl rfl YZ Zq) rfl ?_
 refine Qq (Yh _) ?_
 refine aS3 ?_
 refine o_p (Qo rfl rfl YZ Zq) rfl ?_
 refine Qq (Yh _) ?_
 refine o_h (Qr (cs:=[_,_,_,_]) rfl rfl QK Qao rfl rfl rfl) rfl (fun b4 _=>?_)
 refine o_h (ZQ (l:=QdV) [by8 co,by8 mo,by8 rm,by8 ((nth L 0).es.length : Int)] rfl rfl rfl QK Tryz.underlying139 Qao aPk (XI aPk) (by show (4 + 4) * _ ≤ _;omega) (by show 4 + 4 ≤ maxLen;simp only [maxLen];omega)) rfl (fun ⟨b5,c6⟩ h7=>?_)
 refine aS6 ?_
 refine o_h (Q0 (Cs:=[.byz b5 c6 ((QdV ++ [by8 co,by8 mo,by8 rm,by8 ((nth L 0).es.length : Int)]))]) rfl QqN rfl aPs (fun w1 h1 hf=>c148 w1 b5 c6 (QdV ++ [by8 co,by8 mo,by8 rm,by8 ((nth L 0).es.length : Int)]) (nth L 0) hf (by omega) (by rw [l8]) (((hs.es h0).keep h1).mono (Q6 aPs)) (((hs.cs h0).keep h1).mono (Q6 aPs)) hp)) rfl (fun ⟨b8,c9⟩ hz10=>?_)
 refine X6 (fun w h=>h.byz_own .here) ?_
 refine o_q (QdI rfl rfl Tryz.underlying139 Tryz.underlying9 Tryz.underlying5 aPk (Qan _)) rfl ?_
 refine aS2 ?_
 exact rT rfl rfl (fun w' h'=>⟨by rw [Zu,hR];rfl,h'.below⟩)
theorem c27 (w : World) (co mo rm : Int) (a : Option Addr) (cap : Nat) (L : List LNd) (hs : Nt w [] a L) (hB : Bd (pln L)) (hkl : ∀ i,i < L.length → ∀ x ∈ (nth L i).es,x.key.length ≤ 1000000 ∧ x.val.length ≤ 1000000) : Calls Tryz.prog 27 #[.agg #[.int .i64 co,.int .i64 mo,.int .i64 rm,.slice a L.length cap]] w fun en w'=>en = .returned (.tuple #[.string (bs (if YC (⟨co,mo,rm,pln L⟩ : Tre) = 0 then Qna (⟨co,mo,rm,pln L⟩ : Tre) else [])),.int .i64 (YC (⟨co,mo,rm,pln L⟩ : Tre))]) ∧ Below w.heap.size w w':=by
 refine enter (args:=[_]) Tryz.func27 Tryz.ntmps27 rfl rfl (HS.refl w []) ?_
 refine aS2 ?_
 refine oBx fun b1 _=>?_
 refine aS7 ?_
 refine o_q (Qa rfl Qte rfl (fun w1 h1=>c75 w1 co mo rm a cap L (hs.later h1.nil) hB hkl)) rfl ?_
 refine aS7 ?_
 refine Qb rfl (fun h2=>?_) fun h2=>?_
 ·try simp only [Bool.not_eq_true',decide_eq_false_iff_not] at h2
  have hE : ¬ YC (⟨co,mo,rm,pln L⟩ : Tre) = 0:=h2
  refine aS6 ?_
  exact Qs (rs:=[.tmp 2,.tmp 3]) rfl (.tmp rfl (.tmp rfl (.nil))) (fun w' h'=>⟨by rw [if_neg hE];rfl,h'.below⟩)
 try simp only [Bool.not_eq_false',decide_eq_true_eq] at h2
 have hE : YC (⟨co,mo,rm,pln L⟩ : Tre) = 0:=h2
 have hr9:=Qp9 hE
 have h09 : 0 < L.length:=by have:=hr9.1;rwa [show (⟨co,mo,rm,pln L⟩ : Tre).ns = pln L from rfl,Qi] at this
 have hn9:=Qq4 hE hr9.1 hr9.2.1
 have hp9 : NdP (nth L 0).pl:=by have hq:=hn9.1.ndp (by have:=hn9.2.1;omega);rwa [show (⟨co,mo,rm,pln L⟩ : Tre).ns = pln L from rfl,XJ] at hq
 refine aS4 ?_
 refine o_q (Qa rfl Qwp rfl (fun w1 h1=>c90 w1 co mo rm a cap L (hs.later h1.nil) h09 hp9)) rfl ?_
 refine aS3 ?_
 exact Qs (rs:=[.tmp 2,.tmp 3]) rfl (.tmp rfl (.tmp rfl (.nil))) (fun w' h'=>⟨by rw [if_pos hE,hE];rfl,h'.below⟩)
theorem c24 (w : World) (co mo rm : Int) (a : Option Addr) (cap : Nat) (L : List LNd) (hs : Nt w [] a L) (hB : Bd (pln L)) (hkl : ∀ i,i < L.length → ∀ x ∈ (nth L i).es,x.key.length ≤ 1000000 ∧ x.val.length ≤ 1000000) : Calls Tryz.prog 24 #[.agg #[.int .i64 co,.int .i64 mo,.int .i64 rm,.slice a L.length cap]] w fun en w'=>en = .returned (.int .i64 (YC (⟨co,mo,rm,pln L⟩ : Tre))) ∧ Below w.heap.size w w':=by
 have hLl : L.length ≤ 1000:=by have:=hB.len;rwa [Qi] at this
 refine enter (args:=[_]) Tryz.func24 Tryz.ntmps24 rfl rfl (HS.refl w []) ?_
 refine aS2 ?_
 refine oBx fun b1 _=>?_
 refine aS6 ?_
 refine o_q (Qa rfl Qwb rfl (fun w1 h1=>c84 w1 co mo rm a cap L (hs.later h1.nil) hB (fun i hi x hx=>(hkl i hi x hx).1))) rfl ?_
 refine aS7 ?_
 refine Qb rfl (fun h2=>?_) fun h2=>?_
 ·try simp only [Bool.not_eq_true',decide_eq_false_iff_not] at h2
  have hE : ¬ (Ze (⟨co,mo,rm,pln L⟩ : Tre)).2 = 0:=h2
  have hI : YC (⟨co,mo,rm,pln L⟩ : Tre) = (Ze (⟨co,mo,rm,pln L⟩ : Tre)).2:=if_neg hE
  refine aS5 ?_
  exact rT rfl rfl (fun w' h'=>⟨by rw [hI];rfl,h'.below⟩)
 try simp only [Bool.not_eq_false',decide_eq_true_eq] at h2
 have hE : (Ze (⟨co,mo,rm,pln L⟩ : Tre)).2 = 0:=h2
 refine aS8 ?_
 refine Qb rfl (fun h3=>?_) fun h3=>?_
 ·try simp only [dT] at h3
  have hI : YC (⟨co,mo,rm,pln L⟩ : Tre) = 8:=by unfold YC;rw [if_pos hE,if_neg (fun h=>by have hq:=h3;have hq2 : mo ≤ 4:=h.1;omega)]
  refine aS4 ?_
  exact rT rfl rfl (fun w' h'=>⟨by rw [hI];rfl,h'.below⟩)
 try simp only [dN] at h3
 have hmo : mo ≤ 4:=by have hq:=h3;omega
 refine aS7 ?_
 refine Qx (α:=Nat) [2,4,5,6,15,16,17,18,19,20,21,22,23,24,25,26,27,28,29,30,31,32,33,34,35,36,37,38,39,40,41,42,43,44,45,46,47,48,49] (fun k=>[(4,.int .i64 (k : Int))]) (fun _=>HS w [] [.blk b1 37 4 [.int .i64 co,.int .i64 mo,.int .i64 rm,.slice a L.length cap]]) (fun k=>k ≤ L.length ∧ ∀ i,i < k → ZH (nth (pln L) i) = true) (fun k=>L.length - k) 0 ⟨Nat.zero_le _,fun i h=>absurd h (Nat.not_lt_zero _)⟩ aSx (fun w h=>h.ent aEt) (fun k hkk=>?_)
 obtain ⟨hk1,hk2⟩:=hkk
 refine aS9 ?_
 refine Qb rfl (fun h4=>?_) fun h4=>?_
 ·try simp only [dT] at h4
  have hk : k < L.length:=by omega
  have hkp : k < (pln L).length:=by rwa [Qi]
  have hel : (nth L k).es.length ≤ 1000:=by have:=hB.es k hkp;rwa [XJ] at this
  refine aS8 ?_
  refine Qx (α:=Nat) [2,5,6,22,23,24,25,26,27,28,29,30,31,32,33,34,35,36,37,38,39,40,41,42,43,44,45,46,47,48,49] (fun j=>[(5,.int .i64 (j : Int))]) (fun _=>HS w [] [.blk b1 37 4 [.int .i64 co,.int .i64 mo,.int .i64 rm,.slice a L.length cap]]) (fun j=>j ≤ (nth L k).es.length ∧ ∀ i,i < j → YR (nth (nth L k).es i) = true) (fun j=>(nth L k).es.length - j) 0 ⟨Nat.zero_le _,fun i h=>absurd h (Nat.not_lt_zero _)⟩ aSx (fun w h=>h.ent aEt) (fun j hjj=>?_)
  obtain ⟨hj1,hj2⟩:=hjj
  refine aS7 ?_
  refine o_p (Qc rfl rfl rfl XB (k) (by omega) (by omega) (Rw.some hs.1 (by omega))) rfl ?_
  refine aS ?_
  refine o_q (Qd rfl rfl QdS ((hs.1.rdj (i:=k) 1 (by omega) rfl))) rfl ?_
  refine aS3 ?_
  refine Qb rfl (fun h5=>?_) fun h5=>?_
  ·try simp only [dT] at h5
   have hj : j < (nth L k).es.length:=by omega
   have hx9:=hkl k hk _ (QC hj)
   refine aS8 ?_
   refine o_p (Qc rfl rfl rfl XB (k) (by omega) (by omega) (Rw.some hs.1 (by omega))) rfl ?_
   refine aS ?_
   refine o_q (Qd rfl rfl QdS ((hs.1.rdj (i:=k) 1 (by omega) rfl))) rfl ?_
   refine aS ?_
   refine o_p (Qc rfl rfl rfl Xh (j) (by omega) (by omega) (Rw.some (hs.es hk) (by omega))) rfl ?_
   refine o_q (QA _ rfl rfl Qb2 rfl (Rw.rd (hs.es hk) (by omega))) rfl ?_
   refine oAl (fun b6 _=>?_) Z2
   refine oSt ?_
   refine aS2 ?_
   refine Qm (L':=[(0,_),(1,_),(3,_),(4,_),(5,_),(6,_),(7,_),(8,_),(9,_),(10,_),(12,_),(13,_),(14,_),(15,_),(16,_),(17,_),(18,_),(19,_)]) aSx (fun _ h=>h) ?_
   refine aS3 ?_
   refine o_p (Qn rfl rfl Tryz.underlying9) rfl ?_
   refine aS2 ?_
   refine o_p (Qn rfl rfl Tryz.underlying9) rfl ?_
   refine aS ?_
   try refine oWr ?_
   refine aS2 ?_
   refine Qb rfl (fun h7=>?_) fun h7=>?_
   ·try simp only [dT] at h7
    have hI : YC (⟨co,mo,rm,pln L⟩ : Tre) = 8:=by unfold YC;rw [if_pos hE,if_neg];intro h9;have hq9:=QnO (t:=(⟨co,mo,rm,pln L⟩ : Tre)) (i:=k) (j:=j) hkp (by rw [show (⟨co,mo,rm,pln L⟩ : Tre).ns = pln L from rfl,XJ];exact hj) (by rw [show (⟨co,mo,rm,pln L⟩ : Tre).ns = pln L from rfl,XJ];unfold YR;exact decide_eq_false (by have hq:=h7;have hq2 : (nth L k).pl.es = (nth L k).es:=rfl;rw [hq2];omega));rw [h9.2] at hq9;cases hq9
    refine aS4 ?_
    exact rT rfl rfl (fun w' h'=>⟨by rw [hI];rfl,h'.below⟩)
   try simp only [dN] at h7
   have hsm : YR (nth (nth L k).es j) = true:=decide_eq_true (by have hq:=h7;omega)
   refine aS5 ?_
   try refine oWr ?_
   refine aS2 ?_
   exact Qu (j + 1) (by omega) ⟨by omega,fun i hi=>(Nat.lt_or_ge i j).elim (hj2 i) (fun h=>by obtain rfl : i = j:=(by omega);exact hsm)⟩ aSx (fun w h=>h.ent aEt)
  try simp only [dN] at h5
  obtain rfl : j = (nth L k).es.length:=by omega
  have hS : ZH (nth (pln L) k) = true:=by rw [XJ];exact Qnk hj2
  refine Qp rfl ?_
  refine aS4 ?_
  try refine oWr ?_
  refine aS2 ?_
  exact Qu (k + 1) (by omega) ⟨by omega,fun i hi=>(Nat.lt_or_ge i k).elim (hk2 i) (fun h=>by obtain rfl : i = k:=(by omega);exact hS)⟩ aSx (fun w h=>h.ent aEt)
 try simp only [dN] at h4
 obtain rfl : k = L.length:=by omega
 have hI : YC (⟨co,mo,rm,pln L⟩ : Tre) = 0:=by unfold YC;rw [if_pos hE,if_pos ⟨hmo,Qnb (fun i hi=>hk2 i (by rwa [← Qi]))⟩]
 refine Qp rfl ?_
 refine aS4 ?_
 exact rT rfl rfl (fun w' h'=>⟨by rw [hI];rfl,h'.below⟩)
end Go.Proofs
namespace Gx
open Go Go.RowKit
section
variable {w : World} {a : Option Addr} {vs : List Value}
theorem Vl.nilA : Vl w a []:=⟨fun hn=>absurd hn (Nat.lt_irrefl 0)⟩
theorem Vl.dropA {cap k : Nat} (h : Vl w a vs) (hk : k ≤ vs.length) (hc : vs.length ≤ cap) : Vl w (XX a cap k 1) (vs.drop k):=by
 rcases Nat.eq_or_lt_of_le hk with e | e
 ·rw [List.drop_eq_nil_of_le (by omega)];exact Vl.nilA
 ·exact h.drop e (by omega)
theorem Vl.takeA {n : Nat} (h : Vl w a vs) : Vl w a (vs.take n):=by
 refine ⟨fun hn=>?_⟩;rw [List.length_take] at hn;obtain ⟨b,o,rfl,h2⟩:=h.at_ (by omega);refine ⟨b,o,rfl,fun i hi=>?_⟩;rw [List.length_take] at hi;rw [List.getElem?_take,if_pos (by omega)];exact h2 i (by omega)
theorem Vl.sub {cap lo n : Nat} {x : List UInt8} (h : Vl w a (x.map bv)) (hlo : lo + n ≤ x.length) (hc : x.length ≤ cap) : Vl w (XX a cap lo 1) ((Ql x lo n).map bv):=by
 unfold Ql;rw [List.map_take,List.map_drop];exact (h.dropA (by rw [List.length_map];omega) (by rw [List.length_map];omega)).takeA
end
section
variable {P : Program} {o : Oper} {L : Qe} {w0 : World} {As : List HA}
theorem Zv {src dst e n cap : Nat} {x : Operand} {a : Option Addr} (l : List UInt8) (ho : o.op = .convert src dst x) (hx : ev L x = some (.slice a n cap)) (hs : P.underlying src = some (.slice e)) (hd : P.underlying dst = some .string) (he : P.underlying e = some (.int .u8)) (hl : l.length = n) (hv : Vl w0 a (l.map bv)) : OpQ P o L (HS w0 [] As) (.string (bs l)):=by
 refine Qj3 l ho hx hs hd he hl fun w hw hn=>?_;have h1:=hv.later hw;have h2:=h1.some (by rw [List.length_map];omega);refine ⟨ab a,ao a,h2,fun j hj=>?_⟩;have h3:=h1.rd (i:=j) (v:=.int .u8 (l[j].toNat : Int)) (by rw [List.getElem?_map,List.getElem?_eq_getElem hj];rfl);have h4:=h3.2.2
 rwa [Nat.mul_one] at h4
end
theorem Qe6 {s : List UInt8} {p0 k count : Nat} {r : RdS} (h : rdE s p0 k = some r) (hk : k < count) (hs : Za s r.p = false) : rdN s p0 count = none:=by
 unfold rdN;rw [Qvy h hs hk]
theorem Qla {s : List UInt8} {p0 count : Nat} {r : RdS} (h : rdE s p0 count = some r) (hs : YN s r.p = false) : rdN s p0 count = none:=by
 unfold rdN;rw [h];simp only [hs];rfl
theorem Qlm {s : List UInt8} {p0 count : Nat} {r : RdS} (h : rdE s p0 count = some r) (hs : YN s r.p = true) : rdN s p0 count = if noz (r.cs ++ [(ub4 s (r.p + 4) : Int)]) then some (⟨true,r.es,r.cs ++ [(ub4 s (r.p + 4) : Int)]⟩,r.p + 8) else if Qc0 (r.cs ++ [(ub4 s (r.p + 4) : Int)]) then some (⟨true,r.es,[]⟩,r.p + 8) else none:=by
 unfold rdN;rw [h];simp only [hs,if_true]
def stR (s : List UInt8) (p0 count k : Nat) : Option RdS:=if k ≤ count then rdE s p0 k else match rdE s p0 count with
 | none=>none
 | some r=>if YN s r.p then some ⟨r.es,r.cs ++ [(ub4 s (r.p + 4) : Int)],r.p + 8⟩ else none
theorem Qeb {s : List UInt8} {p0 count k : Nat} (h : k ≤ count) : stR s p0 count k = rdE s p0 k:=if_pos h
theorem QpP {s : List UInt8} {p0 count k : Nat} {r : RdS} (h : stR s p0 count k = some r) (hk : k < count) (hs : Za s r.p = true) : stR s p0 count (k + 1) = some ⟨r.es ++ [Q5 s r.p],r.cs ++ [(ub4 s (r.p + 4) : Int)],r.p + ub2 s r.p⟩:=by
 rw [Qeb (by omega)] at h ⊢;exact QbY h hs
theorem Qqb {s : List UInt8} {p0 count : Nat} {r : RdS} (h : stR s p0 count count = some r) (hs : YN s r.p = true) : stR s p0 count (count + 1) = some ⟨r.es,r.cs ++ [(ub4 s (r.p + 4) : Int)],r.p + 8⟩:=by
 rw [Qeb (Nat.le_refl _)] at h;unfold stR;rw [if_neg (by omega),h];simp only [hs,if_true]
theorem QhC {s : List UInt8} {p0 count k : Nat} {r : RdS} (h : stR s p0 count k = some r) (hk : k < count) (hs : Za s r.p = false) : rdN s p0 count = none:=by
 rw [Qeb (by omega)] at h;exact Qe6 h hk hs
theorem Qlt {s : List UInt8} {p0 count : Nat} {r : RdS} (h : stR s p0 count count = some r) (hs : YN s r.p = false) : rdN s p0 count = none:=by
 rw [Qeb (Nat.le_refl _)] at h;exact Qla h hs
theorem Qsl {s : List UInt8} {p0 count : Nat} {r : RdS} (h : stR s p0 count (count + 1) = some r) : rdN s p0 count = if noz r.cs then some (⟨true,r.es,r.cs⟩,r.p) else if Qc0 r.cs then some (⟨true,r.es,[]⟩,r.p) else none:=by
 unfold stR at h;rw [if_neg (by omega)] at h;cases hq : rdE s p0 count with
 | none=>rw [hq] at h;cases h
 | some q=>
  rw [hq] at h;simp only [] at h;split at h
  ·rename_i he;injection h with h
   subst h;exact Qlm hq he
  ·cases h
theorem QuR {s : List UInt8} {p0 count k : Nat} (h0 : p0 ≤ s.length) {r : RdS} (h : stR s p0 count k = some r) (hk : k ≤ count + 1) : p0 ≤ r.p ∧ r.p ≤ s.length ∧ r.es.length ≤ k ∧ r.cs.length ≤ k:=by
 unfold stR at h;split at h
 ·obtain ⟨h1,h2,h3,h4,_⟩:=Qbm h0 h;omega
 ·cases hq : rdE s p0 count with
  | none=>rw [hq] at h;cases h
  | some q=>
   rw [hq] at h;simp only [] at h;obtain ⟨h1,h2,h3,h4,_⟩:=Qbm h0 hq;split at h
   ·rename_i he;injection h with h
    subst h;simp only [YN,decide_eq_true_eq] at he;simp only [List.length_append,List.length_cons,List.length_nil];omega
   ·cases h
theorem Qkz {s : List UInt8} {p : Nat} (h : ¬ (p + 8 ≤ s.length ∧ ub4 s (p + 4) ≤ 120 ∧ p + ub2 s p ≤ s.length ∧ Xb s p ≤ ub2 s p)) : Za s p = false ∧ YN s p = false:=by
 have hp:=YP (Xb s p);have hb : ub2 s (p + 2) = ub1 s (p + 2) + ub1 s (p + 3) * 256:=rfl;have hz : Xb s p = 8 + ub1 s (p + 2) + ub1 s (p + 3):=rfl;constructor
 ·cases hb : Za s p with
  | false=>rfl
  | true=>
   obtain ⟨h1,h2,h3⟩:=YT.1 hb;simp only [Ym,decide_eq_true_eq] at h3;exact absurd ⟨h1.1,by omega,h1.2.2,by omega⟩ h
 ·cases hb : YN s p with
  | false=>rfl
  | true=>
   simp only [YN,decide_eq_true_eq] at hb;exact absurd ⟨hb.1,hb.2.2.2,by omega,by omega⟩ h
theorem QlM {s : List UInt8} {p : Nat} (h : Ym (Q5 s p) (ub4 s (p + 4)) = false) : Za s p = false:=by
 cases hb : Za s p with
 | false=>rfl
 | true=>rw [(YT.1 hb).2.2] at h;cases h
theorem Qli {s : List UInt8} {p : Nat} (h : p + 8 ≤ s.length ∧ ub4 s (p + 4) ≤ 120 ∧ p + ub2 s p ≤ s.length ∧ Xb s p ≤ ub2 s p) (hK : Ym (Q5 s p) (ub4 s (p + 4)) = true) : decide (X2 (Q5 s p) (ub4 s (p + 4) : Int) = Ql s p (ub2 s p)) = Za s p:=by
 have h1:=Ql3 h.2.2.1 h.2.2.2;rw [Bool.eq_iff_iff,decide_eq_true_eq,h1,YT];constructor
 ·rintro ⟨a,b⟩;exact ⟨⟨h.1,a,h.2.2.1⟩,b,hK⟩
 ·rintro ⟨⟨_,a,_⟩,b,_⟩;exact ⟨a,b⟩
theorem QiW {s : List UInt8} {p : Nat} (h : p + 8 ≤ s.length ∧ ub4 s (p + 4) ≤ 120 ∧ p + ub2 s p ≤ s.length ∧ Xb s p ≤ ub2 s p) : decide (Qap (ub4 s (p + 4) : Int) = Ql s p (ub2 s p)) = YN s p:=by
 have h1:=Qmq h.1 h.2.2.1 h.2.2.2;rw [Bool.eq_iff_iff,decide_eq_true_eq,h1];simp only [YN,decide_eq_true_eq];omega
def nzB (l : List Int) : List Bool:=l.map fun c=>decide (c ≠ 0)
theorem Qrl {l : List Int} {k : Nat} (h : k < l.length) : (nzB l).getD k false = decide (nth l k ≠ 0):=by
 unfold nzB;rw [QaX (d:=default) h];rfl
theorem QlO (l : List Int) : (nzB l).any id = !(Qc0 l):=by
 unfold nzB Qc0;rw [List.any_map,List.all_eq_not_any_not,Bool.not_not];congr 1
 funext c
 simp
theorem Qlu (l : List Int) : noz l = !(decide ((0 : Int) ∈ l)):=by
 unfold noz;rw [Bool.eq_iff_iff];simp only [List.all_eq_true,decide_eq_true_eq,Bool.not_eq_true',decide_eq_false_iff_not];constructor
 ·intro h h0;exact h 0 h0 rfl
 ·intro h c hc e;subst e;exact h hc
def Qsu (s : List UInt8) (p : Nat) : Prop:=p + 8 ≤ s.length ∧ ub4 s (p + 4) ≤ 120 ∧ p + ub2 s p ≤ s.length ∧ Xb s p ≤ ub2 s p
theorem Qmo {s : List UInt8} {p0 count k : Nat} {r : RdS} (h : stR s p0 count k = some r) (hk : k < count + 1) (hs : ¬ Qsu s r.p) : rdN s p0 count = none:=by
 rcases Nat.lt_or_ge k count with h9 | h9
 ·exact QhC h h9 (Qkz hs).1
 ·obtain rfl : k = count:=by omega
  exact Qlt h (Qkz hs).2
def Qiz (s : List UInt8) (p k count : Nat) : List UInt8:=if k < count then X2 (Q5 s p) (ub4 s (p + 4) : Int) else Qap (ub4 s (p + 4) : Int)
def esR (s : List UInt8) (r : RdS) (k count : Nat) : List TEnt:=if k < count then r.es ++ [Q5 s r.p] else r.es
theorem Qii {s : List UInt8} {p k count : Nat} (h : k < count) : Qiz s p k count = X2 (Q5 s p) (ub4 s (p + 4) : Int):=if_pos h
theorem Qik {s : List UInt8} {p k count : Nat} (h : ¬ k < count) : Qiz s p k count = Qap (ub4 s (p + 4) : Int):=if_neg h
theorem Qpa {s : List UInt8} {r : RdS} {k count : Nat} (h : k < count) : esR s r k count = r.es ++ [Q5 s r.p]:=if_pos h
theorem Qpf {s : List UInt8} {r : RdS} {k count : Nat} (h : ¬ k < count) : esR s r k count = r.es:=if_neg h
theorem QuA {s : List UInt8} {p0 count k : Nat} {r : RdS} (hst : stR s p0 count k = some r) (hk : k < count + 1) (h4 : Qsu s r.p) (hK : k < count → Ym (Q5 s r.p) (ub4 s (r.p + 4)) = true) (h : ¬ Qiz s r.p k count = Ql s r.p (ub2 s r.p)) : rdN s p0 count = none:=by
 rcases Nat.lt_or_ge k count with h9 | h9
 ·rw [Qii h9] at h;refine QhC hst h9 ?_;rw [← Qli h4 (hK h9)];exact decide_eq_false h
 ·obtain rfl : k = count:=by omega
  rw [Qik (Nat.lt_irrefl _)] at h;refine Qlt hst ?_;rw [← QiW h4];exact decide_eq_false h
theorem Qvi {s : List UInt8} {p0 count k : Nat} {r : RdS} (hst : stR s p0 count k = some r) (hk : k < count + 1) (h4 : Qsu s r.p) (hK : k < count → Ym (Q5 s r.p) (ub4 s (r.p + 4)) = true) (h : Qiz s r.p k count = Ql s r.p (ub2 s r.p)) : stR s p0 count (k + 1) = some ⟨esR s r k count,r.cs ++ [(ub4 s (r.p + 4) : Int)],r.p + ub2 s r.p⟩:=by
 rcases Nat.lt_or_ge k count with h9 | h9
 ·rw [Qii h9] at h;rw [Qpa h9];refine QpP hst h9 ?_;rw [← Qli h4 (hK h9)];exact decide_eq_true h
 ·obtain rfl : k = count:=by omega
  rw [Qik (Nat.lt_irrefl _)] at h;rw [Qpf (Nat.lt_irrefl _)];have he : YN s r.p = true:=by rw [← QiW h4];exact decide_eq_true h
  have h8 : ub2 s r.p = 8:=by simp only [YN,decide_eq_true_eq] at he;exact he.2.1
  rw [h8];exact Qqb hst he
theorem Qdh {α β : Type} {f : α → List β} (l : List α) (x : α) : (l ++ [x]).flatMap f = l.flatMap f ++ f x:=by simp
theorem Qf5 {x : TEnt} {c : Nat} (hc : c ≤ 120) : Ym x c = ((decide (1 ≤ (x.key.length : Int)) && decide ((x.key.length : Int) ≤ 40)) && (decide ((x.val.length : Int) ≤ 64) && YR x)):=by
 unfold Ym YR;rw [Bool.eq_iff_iff];simp only [decide_eq_true_eq,Bool.and_eq_true];omega
end Gx
namespace Go.Proofs
open Go Go.RowKit Gx
attribute [local irreducible] Go.Calls Gx.S Gx.O Gx.D Gx.OpP Gx.OpQ Gx.OpH
set_option maxRecDepth 20000
theorem QvF : Qt Tryz.prog 207 = true:=by kernel_rfl
theorem c157 (w : World) (a b : Option Addr) (c d : Nat) (x y : List UInt8) (hx : Vl w a (x.map bv)) (hy : Vl w b (y.map bv)) : Calls Tryz.prog 157 #[.slice a x.length c,.slice b y.length d] w fun en w'=>en = .returned (.bool (decide (x = y))) ∧ Below w.heap.size w w':=by
 refine enter (args:=[_,_]) Tryz.func157 Tryz.ntmps157 rfl rfl (HS.refl w []) ?_
 refine aS7 ?_
 refine o_q (Zv x rfl rfl Tryz.underlying139 Tryz.underlying9 Tryz.underlying5 rfl hx) rfl ?_
 refine aS ?_
 refine o_q (Zv y rfl rfl Tryz.underlying139 Tryz.underlying9 Tryz.underlying5 rfl hy) rfl ?_
 refine aS3 ?_
 exact rT rfl rfl (fun w' h'=>⟨by rfl,h'.below⟩)
theorem c159 (w : World) (c : Int) : Calls Tryz.prog 159 #[.int .i64 c] w fun en w'=>en = .returned (.bool (decide (c ≠ 0))) ∧ Below w.heap.size w w':=by
 refine enter (args:=[_]) Tryz.func159 Tryz.ntmps159 rfl rfl (HS.refl w []) ?_
 refine Qaq ?_
 exact rT rfl rfl (fun w' h'=>⟨by simp only [QT];congr 2;simp,h'.below⟩)
theorem c207 (w : World) (a : Option Addr) (cap : Nat) (l : List Int) (q : Nat) (cv : Array Value) (bt : List Bool) (hs : Rw inV 1 w [] a l) (hm : l.length ≤ 1000000) (hq : Qt Tryz.prog q = true) (hb : bt.length = l.length) (hc : ∀ k w1,k < l.length → HS w [] [] w1 → Calls Tryz.prog q (#[] ++ [.int .i64 (nth l k)].toArray ++ cv) w1 fun en w2=>en = .returned (.bool (bt.getD k false)) ∧ Below w1.heap.size w1 w2) : Calls Tryz.prog 207 #[.slice a l.length cap,.func (.func q) #[] cv] w fun en w'=>en = .returned (.int .i64 (ixI bt)) ∧ Below w.heap.size w w':=by
 refine enter (args:=[_,_]) Tryz.func207 Tryz.ntmps207 rfl rfl (HS.refl w []) ?_
 refine Qeq ?_
 refine Qx (α:=Nat) [4,5,8,9,10,11,12,13,14,15,16,17,18] (fun k=>[(8,.int .i64 (k : Int))]) (fun _=>_) (fun k=>k ≤ l.length ∧ ∀ i,i < k → bt.getD i false = false) (fun k=>l.length - k) 0 ⟨by omega,fun i h=>absurd h (Nat.not_lt_zero i)⟩ aSx (fun w h=>h) (fun k hk=>?_)
 obtain ⟨hk1,hk2⟩:=hk
 refine aS5 ?_
 refine Qb rfl (fun h1=>?_) fun h1=>?_
 ·try simp only [dT] at h1
  iterate 13 refine aS ?_
  refine o_p (Qc rfl rfl rfl Xe (k) (by omega) (by omega) (Rw.some hs (by omega))) rfl ?_
  refine o_q (Qd rfl rfl Y1 ((hs.rdj (i:=k) 0 (by omega) rfl))) rfl ?_
  refine o_q (Y2 rfl rfl hq rfl (fun w1 h1=>hc k w1 (by omega) (h1.ent aEt))) rfl ?_
  refine aS ?_
  refine Qb rfl (fun h2=>?_) fun h2=>?_
  ·skip
   refine aS5 ?_
   exact rT rfl rfl (fun w' h'=>⟨by have e:=Qbi (l:=bt) (k:=k) (by omega) hk2 (fun _=>by assumption);simp only [QT,ixI,e];rw [if_pos (by omega)],h'.below⟩)
  skip
  refine aS4 ?_
  try refine oWr ?_
  refine aS2 ?_
  exact Qu (k+1) (by omega) ⟨by omega,fun i hi=>(Nat.lt_or_ge i k).elim (hk2 i) (fun h=>by obtain rfl : i = k:=(by omega);assumption)⟩ aSx (fun w h=>h)
 try simp only [dN] at h1
 refine Qp rfl ?_
 refine aS4 ?_
 exact rT rfl rfl (fun w' h'=>⟨by have e:=Qbi (l:=bt) (k:=k) (by omega) hk2 (fun h=>by omega);simp only [QT,ixI,e];rw [if_neg (by omega)],h'.below⟩)
theorem c158 (w : World) (a : Option Addr) (cap : Nat) (l : List Int) (q : Nat) (cv : Array Value) (bt : List Bool) (hs : Rw inV 1 w [] a l) (hm : l.length ≤ 1000000) (hq : Qt Tryz.prog q = true) (hb : bt.length = l.length) (hc : ∀ k w1,k < l.length → HS w [] [] w1 → Calls Tryz.prog q (#[] ++ [.int .i64 (nth l k)].toArray ++ cv) w1 fun en w2=>en = .returned (.bool (bt.getD k false)) ∧ Below w1.heap.size w1 w2) : Calls Tryz.prog 158 #[.slice a l.length cap,.func (.func q) #[] cv] w fun en w'=>en = .returned (.bool (bt.any id)) ∧ Below w.heap.size w w':=by
 refine enter (args:=[_,_]) Tryz.func158 Tryz.ntmps158 rfl rfl (HS.refl w []) ?_
 refine aS8 ?_
 refine o_q (Qa rfl QvF rfl (fun w1 h1=>c207 w1 a cap l q cv bt (hs.later h1) hm hq hb (fun k w2 hk h2=>hc k w2 hk (by simpa using h1.call h2)))) rfl ?_
 refine aS3 ?_
 exact rT rfl rfl (fun w' h'=>⟨by simp only [QT];rw [← Qfd],h'.below⟩)
end Go.Proofs
namespace Gx
open Go Go.RowKit
def czI (l : List Int) : Nat:=(l.filter fun c=>decide (c = 0)).length
theorem QqD (l : List Int) : czI l ≤ l.length:=List.length_filter_le _ _
theorem QpQ {l : List Int} {k : Nat} (h : k < l.length) : czI (l.take (k + 1)) = czI (l.take k) + (if nth l k = 0 then 1 else 0):=by
 unfold czI;rw [List.take_add_one,List.getElem?_eq_getElem h,List.filter_append,List.length_append];have : nth l k = l[k]:=Zk (List.getElem?_eq_getElem h);rw [this]
 by_cases hz : l[k] = 0
 ·simp [hz]
 ·simp [hz]
theorem Qtp {l : List Int} : czI l = 0 ↔ noz l = true:=by
 unfold czI noz;rw [List.length_eq_zero_iff,List.filter_eq_nil_iff,List.all_eq_true];simp
theorem Qmb {l : List Int} : czI l = l.length ↔ Qc0 l = true:=by
 unfold czI Qc0;rw [List.length_filter_eq_length_iff,List.all_eq_true]
theorem QaA (s : List UInt8) (a b : Nat) : (s.take b).drop a = Ql s a (b - a):=by
 unfold Ql;rw [List.drop_take]
theorem Qju {x : TEnt} {c : Nat} : Ym x c = (decide (Z1 x c = 0) && decide ((x.val.length : Int) ≤ 64)):=by
 unfold Ym Z1;rw [Bool.eq_iff_iff,Bool.and_eq_true,decide_eq_true_eq,decide_eq_true_eq,decide_eq_true_eq];constructor
 ·intro h;rw [if_pos (by omega),if_pos (by omega),if_pos (by omega)];omega
 ·rintro ⟨h1,h2⟩;split at h1
  ·split at h1
   ·split at h1
    ·omega
    ·cases h1
   ·cases h1
  ·cases h1
theorem QrK {s : List UInt8} {p : Nat} (h : ¬ (ub2 s p = QM (Xb s p) ∧ p + ub2 s p ≤ s.length ∧ zer (Ql s (p + Xb s p) (ub2 s p - Xb s p)) = true)) : Za s p = false:=by
 cases hb : Za s p with
 | false=>rfl
 | true=>
  obtain ⟨h1,h2,_⟩:=YT.1 hb;exact absurd ⟨h1.2.1,h1.2.2,h2⟩ h
theorem QrQ {s : List UInt8} {p : Nat} (h8 : p + 8 ≤ s.length) (h : ub2 s p = QM (Xb s p) ∧ p + ub2 s p ≤ s.length ∧ zer (Ql s (p + Xb s p) (ub2 s p - Xb s p)) = true) (hK : Ym (Q5 s p) (ub4 s (p + 4)) = true) : Za s p = true:=
 YT.2 ⟨⟨h8,h.1,h.2.1⟩,h.2.2,hK⟩
section
variable {w0 w : World} {M : List Nat} {As As' : List HA} {a : Option Addr} {cap et nt' : Nat} {L : List LNd}
end
def keysK (co : Int) (es : List TEnt) : Bool:=es.all fun x=>Xa co x.key
section
variable {s : List UInt8} (h1 : ¬ s.length < 16)
include h1
variable (h2 : s.take 4 = QdV)
include h2
variable (h3 : QB (at1 s 4) = 0)
include h3
variable (h4 : Yn (at1 s 5) (at1 s 6) = 0)
include h4
variable (h5 : at1 s 5 ≤ 4)
include h5
variable (h6 : at1 s 7 ≤ at1 s 6)
include h6
end
def rtE (s : List UInt8) : Int:=if QB (at1 s 4) = 0 then if Yn (at1 s 5) (at1 s 6) = 0 then if at1 s 5 ≤ 4 then if at1 s 7 ≤ at1 s 6 then 0 else 16 else 8 else Yn (at1 s 5) (at1 s 6) else QB (at1 s 4)
section
variable {P : Program} {o : Oper} {L : Qe} {w0 : World} {M : List Nat} {As As' : List HA}
end
theorem Qbl {s : List UInt8} {p0 count k : Nat} (h0 : p0 ≤ s.length) {r : RdS} (h : stR s p0 count k = some r) (hk : k ≤ count + 1) : r.es.length ≤ count ∧ ∀ x ∈ r.es,Ym x 0 = true:=by
 unfold stR at h;split at h
 ·obtain ⟨h1,_,_,_,_,h6,_⟩:=Qbm h0 h;exact ⟨by omega,h6⟩
 ·cases hq : rdE s p0 count with
  | none=>rw [hq] at h;cases h
  | some q=>
   rw [hq] at h;simp only [] at h;obtain ⟨h1,_,_,_,_,h6,_⟩:=Qbm h0 hq;split at h
   ·injection h with h
    subst h;exact ⟨Nat.le_of_eq h1,h6⟩
   ·cases h
theorem QtI {x : TEnt} {c : Nat} (h : Ym x c = true) : Ym x 0 = true:=by
 simp only [Ym,decide_eq_true_eq] at h ⊢;omega
theorem QtO {s : List UInt8} {p0 count k : Nat} (h0 : p0 ≤ s.length) {r : RdS} (h : stR s p0 count k = some r) (hk : k < count + 1) (hK : k < count → Ym (Q5 s r.p) (ub4 s (r.p + 4)) = true) : (esR s r k count).length ≤ count ∧ ∀ x ∈ esR s r k count,Ym x 0 = true:=by
 obtain ⟨h1,h2⟩:=Qbl h0 h (by omega);rcases Nat.lt_or_ge k count with hc | hc
 ·rw [Qpa hc];rw [Qeb (by omega)] at h;have h3:=(Qbm h0 h).1;refine ⟨by rw [List.length_append];simp only [List.length_cons,List.length_nil];omega,fun x hx=>?_⟩;rcases List.mem_append.1 hx with hx | hx
  ·exact h2 x hx
  ·rcases List.mem_singleton.1 hx;exact QtI (hK hc)
 ·rw [Qpf (by omega)];exact ⟨h1,h2⟩
end Gx
namespace Go.Proofs
open Go Go.RowKit Gx
attribute [local irreducible] Go.Calls Gx.S Gx.O Gx.D Gx.OpP Gx.OpQ Gx.OpH
set_option maxRecDepth 20000
theorem Qvl : Qt Tryz.prog 159 = true:=by kernel_rfl
theorem Qpm : Qt Tryz.prog 132 = true:=by kernel_rfl
theorem QsT : Zl Tryz.prog 27 = some [(0,1),(1,1)]:=by kernel_rfl
theorem Qup : Qt Tryz.prog 157 = true:=by kernel_rfl
theorem QtW : Qt Tryz.prog 158 = true:=by kernel_rfl
theorem c92 (w : World) (s : List UInt8) (p0 count : Nat) (a : Option Addr) (cap : Nat) (hs : Vl w a ((s.drop p0).map bv)) (hp0 : p0 ≤ s.length) (hsl : s.length ≤ 1000000) (hcap : s.length - p0 ≤ cap) (hc9 : cap ≤ 9223372036854775807) (hct : count ≤ 1000) : Calls Tryz.prog 92 #[.slice a (s.length - p0) cap,.int .i64 (count : Int)] w fun en w'=>∃ g : LNd × Option Addr × Nat × Nat,en = .returned (.tuple #[.agg (LNd.vals g.1).toArray,.slice g.2.1 g.2.2.1 g.2.2.2,.bool (rdN s p0 count).isSome]) ∧ ((∀ nd e,rdN s p0 count = some (nd,e) → g.1.pl = nd ∧ g.2.2.1 = s.length - e) ∧ g.1.es.length ≤ count ∧ ∀ x ∈ g.1.es,Ym x 0 = true) ∧ HS w [] [.ents 27 g.1.ea g.1.ec g.1.es,.kids g.1.ca g.1.cc g.1.cs] w':=by
 refine enter (args:=[_,_]) Tryz.func92 Tryz.ntmps92 rfl rfl (HS.refl w []) ?_
 refine aS2 ?_
 refine oAl (fun b1 _=>?_) XF
 refine aS6 ?_
 refine oSt ?_
 refine Qaq ?_
 try refine oWr ?_
 refine aS3 ?_
 refine Qx (α:=Nat × RdS × (Option Addr × Nat) × (Option Addr × Nat) × (Option Addr × Nat)) [0,5,6,7,8,9,10,11,12,13,14,19,20,21,22,23,24,25,26,27,28,29,30,31,32,33,34,35,36,37,38,39,40,41,42,43,44,45,46,47,48,49,50,51,52,53,54,55,56,57,58,59,60,61,62,63,64,65,66,67,68,69,70,71,72,73,74,75,76,77,78,79,80,81,82,83,84,85,86,87,88,89,90,91,92,93,94,95,96,97,98,99,100,101,102,103,104,105,106,107,108,109,110,111,112,113,114] (fun x=>[(19,.int .i64 (x.1 : Int)),(7,.slice x.2.2.2.1.1 x.2.1.cs.length x.2.2.2.1.2),(0,.slice x.2.2.2.2.1 (s.length - x.2.1.p) x.2.2.2.2.2)]) (fun x=>HS w [] [.blk b1 69 3 [.bool true,.slice x.2.2.1.1 x.2.1.es.length x.2.2.1.2,.slice none 0 0],.own (.slice x.2.2.1.1 x.2.1.es.length x.2.2.1.2) 27 2 x.2.1.es.length (x.2.1.es.flatMap TEnt.vals),.own (.slice x.2.2.2.1.1 x.2.1.cs.length x.2.2.2.1.2) 3 1 x.2.1.cs.length (x.2.1.cs.flatMap inV)]) (fun x=>x.1 ≤ count + 1 ∧ stR s p0 count x.1 = some x.2.1 ∧ Vl w x.2.2.2.2.1 ((s.drop x.2.1.p).map bv) ∧ s.length - x.2.1.p ≤ x.2.2.2.2.2 ∧ x.2.2.2.2.2 ≤ 9223372036854775807) (fun x=>count + 1 - x.1) (0,⟨[],[],p0⟩,(none,0),(none,0),(a,cap)) ⟨Nat.zero_le _,Qeb (Nat.zero_le _),hs,hcap,hc9⟩ aSx (fun w h=>((h.own_nil 27 2).own_nil 3 1).ent aEt) (fun ⟨k,r,⟨ea,ec⟩,⟨da,dc⟩,⟨ba,bc⟩⟩ hk1=>?_)
 dsimp only
 simp only [] at hk1
 obtain ⟨hk2,hst,hv,hbc,hbm⟩:=hk1
 obtain ⟨hp1,hp2,hle,hlc⟩:=QuR hp0 hst hk2
 have hdl : (s.drop r.p).length = s.length - r.p:=List.length_drop
 refine aS5 ?_
 refine Qb rfl (fun h2=>?_) fun h2=>?_
 ·try simp only [dT] at h2
  have hk : k < count + 1:=by omega
  iterate 15 refine aS ?_
  refine Qb rfl (fun h3=>?_) fun h3=>?_
  ·try simp only [dT] at h3
   have hN : rdN s p0 count = none:=Qmo hst hk (fun h9=>by have hq:=h3;have:=h9.1;omega)
   refine aS3 ?_
   refine oSt ?_
   refine aS3 ?_
   exact Qs (rs:=[.cell 4 69,.tmp 5,.tmp 6]) rfl (.cell rfl Xz aPk rfl (.tmp rfl (.tmp rfl (.nil)))) (fun w' h'=>⟨(⟨true,ea,ec,r.es,none,0,[]⟩,none,0,0),by rw [hN];rfl,⟨fun _ _ h9=>(by rw [hN] at h9;cases h9),Qbl hp0 hst hk2⟩,(h'.own_nil 3 1).ent aEt⟩)
  try simp only [dN] at h3
  have h8 : r.p + 8 ≤ s.length:=by have hq:=h3;omega
  have hb2:=Qd9 s r.p
  have hbk:=Y7 s (r.p + 2)
  have hbv:=Y7 s (r.p + 3)
  have hb4:=QlT s (r.p + 4)
  have hsz : Xb s r.p = 8 + ub1 s (r.p + 2) + ub1 s (r.p + 3):=rfl
  have hb12 : ((s.drop r.p).getD 2 0).toNat = ub1 s (r.p + 2):=Qld s r.p 2
  have hb13 : ((s.drop r.p).getD 3 0).toNat = ub1 s (r.p + 3):=Qld s r.p 3
  have ha2 : at2 (s.drop r.p) 0 = ((ub2 s r.p : Nat) : Int):=by rw [QaO,Nat.add_zero,QcQ]
  have ha4 : at4 (s.drop (r.p + 4)) 0 = ((ub4 s (r.p + 4) : Nat) : Int):=by rw [Qgi,Nat.add_zero,QfV]
  refine aS2 ?_
  refine QG [] QU ?_
  refine dP 0 ?_
  refine dQ 1 [] rfl (Qa rfl QhI rfl (fun w1 h1=>Qrr w1 ba (s.length - r.p) bc (s.drop r.p) (hv.later h1) hdl (by omega) hbc hbm)) ?_
  refine dV 2 rfl (Qo rfl rfl Yf YZ) ?_
  try refine dWr ?_
  refine QD (show _ = Value.int .i64 ((ub2 s r.p : Nat) : Int) from by first | exact congrArg (Value.int .i64) ha2 | (rw [ha2];exact QjX (by omega) (by omega))) ?_
  refine dP 3 ?_
  refine dV 4 rfl (Qc rfl rfl rfl QK 2 rfl (by omega) (hv.some (by rw [List.length_map,List.length_drop];omega))) ?_
  refine dQ 5 [] rfl (Qd rfl rfl QhY ((hv.rd (i:=2) (Qda (l:=(s.drop r.p)) (k:=2) (by omega))))) ?_
  refine dV 6 rfl (Qo rfl rfl Zq YZ) ?_
  try refine dWr ?_
  refine QD (show _ = Value.int .i64 ((ub1 s (r.p + 2) : Nat) : Int) from by first | exact congrArg (fun z : Nat=>Value.int .i64 (z : Int)) hb12 | (rw [hb12];exact QjX (by omega) (by omega))) ?_
  refine dP 7 ?_
  refine dV 8 rfl (Qc rfl rfl rfl QK 3 rfl (by omega) (hv.some (by rw [List.length_map,List.length_drop];omega))) ?_
  refine dQ 9 [] rfl (Qd rfl rfl QhY ((hv.rd (i:=3) (Qda (l:=(s.drop r.p)) (k:=3) (by omega))))) ?_
  refine dV 10 rfl (Qo rfl rfl Zq YZ) ?_
  try refine dWr ?_
  refine QD (show _ = Value.int .i64 ((ub1 s (r.p + 3) : Nat) : Int) from by first | exact congrArg (fun z : Nat=>Value.int .i64 (z : Int)) hb13 | (rw [hb13];exact QjX (by omega) (by omega))) ?_
  refine dP 11 ?_
  refine dV 12 rfl (Qz _ _ 4 (s.length - r.p) rfl rfl QK ⟨_,_,rfl,rfl⟩ rfl (by omega) (by omega)) ?_
  refine dQ 13 [] rfl (Qa rfl Qpm rfl (fun w1 h1=>c132 w1 (XX ba bc 4 1) (s.length - r.p - 4) (bc - 4) (s.drop (r.p + 4)) (by have h9:=(hv.later h1).dropA (k:=4) (cap:=bc) (by rw [List.length_map,hdl];omega) (by rw [List.length_map,hdl];omega);rw [← List.map_drop,List.drop_drop] at h9;exact h9) (by rw [List.length_drop];omega) (by omega) (by omega) (by omega))) ?_
  refine dV 14 rfl (Qo rfl rfl YQ YZ) ?_
  try refine dWr ?_
  refine QD (show _ = Value.int .i64 ((ub4 s (r.p + 4) : Nat) : Int) from by first | exact congrArg (Value.int .i64) ha4 | (rw [ha4];exact QjX (by omega) (by omega))) ?_
  refine dP 15 ?_
  refine dP 16 ?_
  refine dP 17 ?_
  refine dP 18 ?_
  refine dNi ?_
  refine aS2 ?_
  refine Qm (L':=[(0,_),(1,_),(4,_),(7,_),(8,_),(9,_),(10,_),(11,_),(12,_),(16,_),(17,_),(18,_),(19,_)]) aSx (fun _ h=>h) ?_
  refine aS4 ?_
  refine Xt 5 43 48 _ _ rfl
   (by
    intro hg4
    have hs5:=hg4;try simp only [dN] at hs5
    refine oOn 43 hg4 ?_
    refine aS ?_
    refine oOn 43 hg4 ?_
    refine aS ?_
    refine oOn 43 hg4 ?_
    refine aS ?_
    refine oOn 43 hg4 ?_
    refine aS ?_
    refine o_p (Qf rfl rfl hg4 rfl) rfl ?_
    refine aS ?_
    exact oJn 5 48)
   (by
    intro hg6
    have hs7:=hg6;try simp only [dT] at hs7
    refine oOf 43 hg6 ?_
    refine oOf 43 hg6 ?_
    refine oOf 43 hg6 ?_
    refine oOf 43 hg6 ?_
    refine o_p (Qg rfl rfl hg6 rfl) rfl ?_
    refine aS ?_
    exact oJn 5 48) ?_
  refine aS ?_
  refine Xt 7 49 56 _ _ rfl
   (by
    intro hg8
    have hs9:=hg8;try simp only [Bool.or_eq_false_iff,decide_eq_false_iff_not] at hs9
    refine oOn 49 hg8 ?_
    refine aS ?_
    refine oOn 49 hg8 ?_
    refine aS ?_
    refine oOn 49 hg8 ?_
    refine aS ?_
    try refine oWr ?_
    refine oOn 49 hg8 ?_
    refine aS ?_
    refine oOn 49 hg8 ?_
    refine aS ?_
    try refine oWr ?_
    refine oOn 49 hg8 ?_
    refine aS ?_
    refine o_p (Qf rfl rfl hg8 rfl) rfl ?_
    refine aS ?_
    exact oJn 7 56)
   (by
    intro hg10
    have hs11:=hg10;try simp only [Bool.or_eq_true,decide_eq_true_eq] at hs11
    refine oOf 49 hg10 ?_
    refine oOf 49 hg10 ?_
    refine oOf 49 hg10 ?_
    refine oOf 49 hg10 ?_
    refine oOf 49 hg10 ?_
    refine oOf 49 hg10 ?_
    refine o_p (Qg rfl rfl hg10 rfl) rfl ?_
    refine aS ?_
    exact oJn 7 56) ?_
  refine aS ?_
  refine Qb rfl (fun h12=>?_) fun h12=>?_
  ·try simp only [Bool.or_eq_true,decide_eq_true_eq] at h12
   have hN : rdN s p0 count = none:=Qmo hst hk (fun h9=>by have hq:=h12;obtain ⟨q1,q2,q3,q4⟩:=h9;grind)
   refine aS3 ?_
   refine oSt ?_
   refine aS3 ?_
   exact Qs (rs:=[.cell 4 69,.tmp 5,.tmp 6]) rfl (.cell rfl Xz aPk rfl (.tmp rfl (.tmp rfl (.nil)))) (fun w' h'=>⟨(⟨true,ea,ec,r.es,none,0,[]⟩,none,0,0),by rw [hN];rfl,⟨fun _ _ h9=>(by rw [hN] at h9;cases h9),Qbl hp0 hst hk2⟩,(h'.own_nil 3 1).ent aEt⟩)
  try simp only [Bool.or_eq_false_iff,decide_eq_false_iff_not] at h12
  have h4 : Qsu s r.p:=by have hq:=h12;refine ⟨h8,?_,?_,?_⟩ <;> grind
  obtain ⟨_,h41,h42,h43⟩:=id h4
  obtain ⟨hes,hkl,hvl⟩:=Qdz (s:=s) (p:=r.p) (by omega)
  refine aS2 ?_
  refine QG [16] QU ?_
  refine dP 0 ?_
  refine dP 1 ?_
  refine dP 2 ?_
  try refine dWr ?_
  refine dV 3 rfl (Qz _ _ 8 (8 + ub1 s (r.p + 2)) rfl rfl QK ⟨_,_,rfl,rfl⟩ ⟨_,_,rfl,(by omega)⟩ (by omega) (by omega)) ?_
  refine dQ 4 [[]] rfl (Zv (Q5 s r.p).key rfl rfl Tryz.underlying139 Tryz.underlying9 Tryz.underlying5 (by rw [hkl];omega) (by have h9:=hv.sub (cap:=bc) (lo:=8) (n:=ub1 s (r.p + 2)) (by rw [hdl];omega) (by rw [hdl];omega);rw [Qep] at h9;exact h9)) ?_
  refine dP 5 ?_
  refine dP 6 ?_
  refine dP 7 ?_
  try refine dWr ?_
  refine dP 8 ?_
  refine dP 9 ?_
  try refine dWr ?_
  refine dP 10 ?_
  refine dP 11 ?_
  try refine dWr ?_
  refine dV 12 rfl (Qz _ _ (8 + ub1 s (r.p + 2)) (8 + ub1 s (r.p + 2) + ub1 s (r.p + 3)) rfl rfl QK ⟨_,_,rfl,(by omega)⟩ ⟨_,_,rfl,(by omega)⟩ (by omega) (by omega)) ?_
  refine dQ 13 [[]] rfl (Zv (Q5 s r.p).val rfl rfl Tryz.underlying139 Tryz.underlying9 Tryz.underlying5 (by rw [hvl];omega) (by have h9:=hv.sub (cap:=bc) (lo:=8 + ub1 s (r.p + 2)) (n:=ub1 s (r.p + 3)) (by rw [hdl];omega) (by rw [hdl];omega);rw [Qep,← Nat.add_assoc] at h9;exact h9)) ?_
  refine dV 14 rfl (Xq (cs:=[_,_]) rfl rfl QsT Z2 rfl) ?_
  refine dH 15 rfl (Qck rfl Z2) (fun b13 _=>?_)
  refine dBa ?_
  refine dSt 16 ?_ (hl:=(by simp only [Qk,List.length_set,List.length_cons,List.length_nil,List.length_map];omega))
  refine dTu [] ?_
  refine dNi ?_
  refine aS ?_
  refine Qm (L':=[(0,_),(1,_),(4,_),(7,_),(8,_),(9,_),(10,_),(11,_),(12,_),(13,_),(16,_),(17,_),(18,_),(19,_)]) aSx (fun _ h=>h) ?_
  refine aS2 ?_
  refine X6 (fun w h=>h.byz_nil) ?_
  refine o_h (Q0 (Cs:=[.byz none 0 []]) rfl QoC rfl aPs (fun w1 h1 hf=>c156 w1 none 0 [] ((ub4 s (r.p + 4) : Nat) : Int) hf (by omega) (Nat.zero_le _))) rfl (fun ⟨b14,c15⟩ hz16=>?_)
  refine aS9 ?_
  refine Yi (α:=(Option Addr × Nat) × (Option Addr × Nat)) [5,6,14,78,79,80,81,82,83,84,85,86,87,88,89,90,91,92,93,94,95,96,97,98,99] (fun y=>[(14,.slice y.1.1 (Qiz s r.p k count).length y.1.2)]) (fun y=>HS w [] [.blk b1 69 3 [.bool true,.slice y.2.1 (esR s r k count).length y.2.2,.slice none 0 0],.own (.slice y.2.1 (esR s r k count).length y.2.2) 27 2 (esR s r k count).length ((esR s r k count).flatMap TEnt.vals),.own (.slice da r.cs.length dc) 3 1 r.cs.length (r.cs.flatMap inV),.byz y.1.1 y.1.2 (Qiz s r.p k count)]) (fun _=>k < count → Ym (Q5 s r.p) (ub4 s (r.p + 4)) = true) ?_ ?_
  ·skip
   refine Qb rfl (fun h17=>?_) fun h17=>?_
   ·try simp only [dT] at h17
    have hkc : k < count:=by have hq:=h17;omega
    refine aS4 ?_
    refine o_q (Qa rfl Qhh rfl (fun w1 h1=>c87 w1 _ _ _)) rfl ?_
    refine aS2 ?_
    refine Xt 3 81 84 _ _ rfl
     (by
      intro hg18
      have hs19:=hg18;try simp only [Bool.not_eq_false',Bool.and_eq_true,decide_eq_true_eq] at hs19
      refine oOn 81 hg18 ?_
      refine aS ?_
      refine oOn 81 hg18 ?_
      refine aS ?_
      refine o_p (Qf rfl rfl hg18 rfl) rfl ?_
      refine aS ?_
      exact oJn 3 84)
     (by
      intro hg20
      have hs21:=hg20;try simp only [Bool.not_eq_true',Bool.and_eq_false_iff,decide_eq_false_iff_not] at hs21
      refine oOf 81 hg20 ?_
      refine oOf 81 hg20 ?_
      refine o_p (Qg rfl rfl hg20 rfl) rfl ?_
      refine aS ?_
      exact oJn 3 84) ?_
    refine aS ?_
    refine Xt 4 85 89 _ _ rfl
     (by
      intro hg22
      have hs23:=hg22;try simp only [Bool.or_eq_false_iff,Bool.not_eq_false',Bool.and_eq_true,decide_eq_true_eq,decide_eq_false_iff_not] at hs23
      refine oOn 85 hg22 ?_
      refine aS ?_
      refine oOn 85 hg22 ?_
      refine o_q (Qa rfl Qs4 rfl (fun w1 h1=>c88 w1 _ (by omega) (by omega))) rfl ?_
      refine oOn 85 hg22 ?_
      refine aS ?_
      refine o_p (Qf rfl rfl hg22 rfl) rfl ?_
      refine aS ?_
      exact oJn 4 89)
     (by
      intro hg24
      have hs25:=hg24;try simp only [Bool.or_eq_true,Bool.not_eq_true',Bool.and_eq_false_iff,decide_eq_false_iff_not,decide_eq_true_eq] at hs25
      refine oOf 85 hg24 ?_
      refine oOf 85 hg24 ?_
      refine oOf 85 hg24 ?_
      refine o_p (Qg rfl rfl hg24 rfl) rfl ?_
      refine aS ?_
      exact oJn 4 89) ?_
    refine aS ?_
    refine Qb rfl (fun h26=>?_) fun h26=>?_
    ·try simp only [Bool.or_eq_true,Bool.not_eq_true',Bool.and_eq_false_iff,decide_eq_false_iff_not,decide_eq_true_eq] at h26
     have hN : rdN s p0 count = none:=QhC hst hkc (QlM (by rw [Qf5 h41];have hq:=h26;grind))
     refine aS3 ?_
     refine oSt ?_
     refine aS3 ?_
     exact Qs (rs:=[.cell 4 69,.tmp 5,.tmp 6]) rfl (.cell rfl Xz aPk rfl (.tmp rfl (.tmp rfl (.nil)))) (fun w' h'=>⟨(⟨true,ea,ec,r.es,none,0,[]⟩,none,0,0),by rw [hN];rfl,⟨fun _ _ h9=>(by rw [hN] at h9;cases h9),Qbl hp0 hst hk2⟩,(h'.own_nil 3 1).ent aEt⟩)
    try simp only [Bool.or_eq_false_iff,Bool.not_eq_false',Bool.and_eq_true,decide_eq_true_eq,decide_eq_false_iff_not] at h26
    have hK : Ym (Q5 s r.p) (ub4 s (r.p + 4)) = true:=by rw [Qf5 h41];have hq:=h26;grind
    refine aS5 ?_
    refine X6 (fun w h=>h.byz_nil) ?_
    refine o_h (Q0 (Cs:=[.byz none 0 []]) rfl QsS rfl aPs (fun w1 h1 hf=>c89 w1 none 0 [] (Q5 s r.p) ((ub4 s (r.p + 4) : Nat) : Int) hf (Nat.zero_le _) rfl (by omega) (by omega) (by omega))) rfl (fun ⟨b27,c28⟩ hz29=>?_)
    refine aS2 ?_
    refine Qm (L':=[(0,_),(1,_),(4,_),(7,_),(8,_),(9,_),(10,_),(11,_),(12,_),(13,_),(14,_),(16,_),(17,_),(18,_),(19,_),(73,_),(74,_),(75,_),(76,_),(77,_)]) aSx (fun _ h=>h) ?_
    refine aS4 ?_
    refine o_h (Qr (cs:=[_,_]) rfl rfl Xh Z2 rfl rfl rfl) rfl (fun b30 _=>?_)
    refine o_h (XU ((Q5 s r.p).vals) rfl rfl rfl Xh Tryz.underlying67 Z2 rfl aPk (XI aPk) rfl (ev1 _) (by omega) (by simp only [maxLen];omega)) rfl (fun b31 _=>?_)
    refine aS ?_
    refine oSt ?_
    refine aS ?_
    exact Qw ((b27,c28),(b31.1,b31.2)) (fun _=>hK) (by dsimp only;rw [Qii hkc];exact aSx) (fun w h=>by dsimp only;rw [Qii hkc,Qpa hkc,List.length_append,Qdh];exact h.ent aEt)
   try simp only [dN] at h17
   have hkc : ¬ k < count:=by have hq:=h17;omega
   refine aS ?_
   exact Qw ((b14,c15),(ea,ec)) (fun h9=>absurd h9 hkc) (by dsimp only;rw [Qik hkc];exact aSx) (fun w h=>by dsimp only;rw [Qik hkc,Qpf hkc];exact h.ent aEt)
  intro ⟨⟨o1,o2⟩,⟨e1,e2⟩⟩ hKK
  refine aS6 ?_
  refine o_p (Qz _ _ 0 (ub2 s r.p) rfl rfl QK rfl ⟨_,_,rfl,rfl⟩ (by omega) (by omega)) rfl ?_
  refine Qq (show _ = Value.slice (XX ba bc 0 1) (Ql s r.p (ub2 s r.p)).length (bc - 0) from by rw [Xc h42];rfl) ?_
  refine o_q (Qa rfl Qup rfl (fun w1 h1=>c157 w1 o1 (XX ba bc 0 1) o2 (bc - 0) (Qiz s r.p k count) (Ql s r.p (ub2 s r.p)) (h1.vl_byz aPk) (by have h9:=(hv.later h1).sub (cap:=bc) (lo:=0) (n:=(ub2 s r.p)) (by rw [hdl];omega) (by rw [hdl];omega);rw [Qep,Nat.add_zero] at h9;exact h9))) rfl ?_
  refine aS2 ?_
  refine Qb rfl (fun h32=>?_) fun h32=>?_
  ·try simp only [Bool.not_eq_true',decide_eq_false_iff_not] at h32
   have hN : rdN s p0 count = none:=QuA hst hk h4 hKK (by have hq:=h32;simpa using hq)
   refine aS3 ?_
   refine oSt ?_
   refine aS3 ?_
   exact Qs (rs:=[.cell 4 69,.tmp 5,.tmp 6]) rfl (.cell rfl Xz aPk rfl (.tmp rfl (.tmp rfl (.nil)))) (fun w' h'=>⟨(⟨true,e1,e2,esR s r k count,none,0,[]⟩,none,0,0),by rw [hN];rfl,⟨fun _ _ h9=>(by rw [hN] at h9;cases h9),QtO hp0 hst hk hKK⟩,(h'.own_nil 3 1).ent aEt⟩)
  try simp only [Bool.not_eq_false',decide_eq_true_eq] at h32
  have how : Qiz s r.p k count = Ql s r.p (ub2 s r.p):=by have hq:=h32;simpa using hq
  have hnx:=Qvi hst hk h4 hKK how
  have hvn : Vl w (XX ba bc (ub2 s r.p) 1) ((s.drop (r.p + (ub2 s r.p))).map bv):=by have h9:=hv.dropA (k:=(ub2 s r.p)) (cap:=bc) (by rw [List.length_map,hdl];omega) (by rw [List.length_map,hdl];omega);rw [← List.map_drop,List.drop_drop] at h9;exact h9
  refine aS ?_
  refine QG [3] QU ?_
  refine dP 0 ?_
  refine dP 1 ?_
  refine dP 4 ?_
  refine dP 5 ?_
  refine dV 6 rfl (Qz _ _ (ub2 s r.p) (s.length - r.p) rfl rfl QK ⟨_,_,rfl,rfl⟩ rfl (by omega) (by omega)) ?_
  refine QD (show _ = Value.slice (XX ba bc (ub2 s r.p) 1) (s.length - (r.p + (ub2 s r.p))) (bc - (ub2 s r.p)) from by rw [Nat.sub_sub]) ?_
  refine dH 2 rfl (Qr (cs:=[_]) rfl rfl Xe QeW rfl rfl rfl) (fun b33 _=>?_)
  refine dBa ?_
  refine dH 3 rfl (XU (inV ((ub4 s (r.p + 4) : Nat) : Int)) rfl rfl rfl Xe Tryz.underlying28 QeW rfl aPk (XI aPk) rfl (Qrv _) (by omega) (by simp only [maxLen];omega)) (fun b34 _=>?_)
  refine dTu [] ?_
  refine dP 7 ?_
  refine dP 8 ?_
  refine dNi ?_
  refine aS ?_
  refine Qm (L':=[(0,_),(1,_),(4,_),(7,_),(16,_),(17,_),(18,_),(19,_)]) aSx (fun _ h=>h) ?_
  refine aS2 ?_
  try refine oWr ?_
  refine aS2 ?_
  exact Qu (k + 1,⟨esR s r k count,r.cs ++ [((ub4 s (r.p + 4) : Nat) : Int)],r.p + (ub2 s r.p)⟩,(e1,e2),(b34.1,b34.2),(XX ba bc (ub2 s r.p) 1,bc - (ub2 s r.p))) (by (try simp only []);omega) (by simp only [];exact ⟨by omega,hnx,hvn,by omega,by omega⟩) (by dsimp only;rw [List.length_append];exact aSx) (fun w h=>by dsimp only;rw [List.length_append,Qdh];exact h.ent aEt)
 try simp only [dN] at h2
 obtain rfl : k = count + 1:=by omega
 have hN:=Qsl hst
 refine Qp rfl ?_
 refine aS4 ?_
 refine o_q (Qa rfl Qs1 rfl (fun w1 h1=>c62 w1 da dc r.cs 0 (h1.rw_own iv1 aPk rfl) (by omega))) rfl ?_
 refine aS9 ?_
 refine Qb rfl (fun h35=>?_) fun h35=>?_
 ·try simp only [Bool.not_eq_true',decide_eq_false_iff_not] at h35
  have hz : noz r.cs = true:=by rw [Qlu];have hq:=h35;simpa using hq
  rw [hz] at hN
  have hN : rdN s p0 count = some (⟨true,r.es,r.cs⟩,r.p):=hN
  refine aS3 ?_
  refine oSt ?_
  refine aS6 ?_
  refine oSt ?_
  refine aS3 ?_
  exact Qs (rs:=[.cell 4 69,.tmp 5,.tmp 6]) rfl (.cell rfl Xz aPk rfl (.tmp rfl (.tmp rfl (.nil)))) (fun w' h'=>by first | exact ⟨(⟨true,ea,ec,r.es,da,dc,r.cs⟩,ba,s.length - r.p,bc),by rw [hN];rfl,⟨fun nd e h9=>by (rw [hN] at h9;injection h9 with h9;injection h9 with q1 q2;subst q1 q2;exact ⟨rfl,rfl⟩),Qbl hp0 hst hk2⟩,h'.ent aEt⟩ | exact ⟨(⟨true,ea,ec,r.es,none,0,[]⟩,ba,s.length - r.p,bc),by rw [hN];rfl,⟨fun nd e h9=>by (rw [hN] at h9;injection h9 with h9;injection h9 with q1 q2;subst q1 q2;exact ⟨rfl,rfl⟩),Qbl hp0 hst hk2⟩,(h'.own_nil 3 1).ent aEt⟩)
 try simp only [Bool.not_eq_false',decide_eq_true_eq] at h35
 have hz : noz r.cs = false:=by rw [Qlu];have hq:=h35;simpa using hq
 rw [hz] at hN
 refine aS3 ?_
 refine o_q (Qa rfl QtW rfl (fun w1 h1=>c158 w1 da dc r.cs 159 #[] (nzB r.cs) (h1.rw_own iv1 aPk rfl) (by omega) Qvl (by simp [nzB]) (fun k w2 hk h2=>by rw [Qrl hk];exact c159 w2 (nth r.cs k)))) rfl ?_
 refine aS2 ?_
 refine Qb rfl (fun h36=>?_) fun h36=>?_
 ·skip
  have hz2 : Qc0 r.cs = false:=by have hq:=h36;rw [QlO] at hq;simpa using hq
  rw [hz2] at hN
  have hN : rdN s p0 count = none:=hN
  refine aS3 ?_
  refine oSt ?_
  refine aS3 ?_
  exact Qs (rs:=[.cell 4 69,.tmp 5,.tmp 6]) rfl (.cell rfl Xz aPk rfl (.tmp rfl (.tmp rfl (.nil)))) (fun w' h'=>⟨(⟨true,ea,ec,r.es,none,0,[]⟩,none,0,0),by rw [hN];rfl,⟨fun _ _ h9=>(by rw [hN] at h9;cases h9),Qbl hp0 hst hk2⟩,(h'.own_nil 3 1).ent aEt⟩)
 skip
 have hz2 : Qc0 r.cs = true:=by have hq:=h36;rw [QlO] at hq;simpa using hq
 rw [hz2] at hN
 have hN : rdN s p0 count = some (⟨true,r.es,[]⟩,r.p):=hN
 refine aS6 ?_
 refine oSt ?_
 refine aS3 ?_
 exact Qs (rs:=[.cell 4 69,.tmp 5,.tmp 6]) rfl (.cell rfl Xz aPk rfl (.tmp rfl (.tmp rfl (.nil)))) (fun w' h'=>by first | exact ⟨(⟨true,ea,ec,r.es,da,dc,r.cs⟩,ba,s.length - r.p,bc),by rw [hN];rfl,⟨fun nd e h9=>by (rw [hN] at h9;injection h9 with h9;injection h9 with q1 q2;subst q1 q2;exact ⟨rfl,rfl⟩),Qbl hp0 hst hk2⟩,h'.ent aEt⟩ | exact ⟨(⟨true,ea,ec,r.es,none,0,[]⟩,ba,s.length - r.p,bc),by rw [hN];rfl,⟨fun nd e h9=>by (rw [hN] at h9;injection h9 with h9;injection h9 with q1 q2;subst q1 q2;exact ⟨rfl,rfl⟩),Qbl hp0 hst hk2⟩,(h'.own_nil 3 1).ent aEt⟩)
theorem Qjv : Qt Tryz.prog 53 = true:=by kernel_rfl
theorem QwV : Qt Tryz.prog 29 = true:=by kernel_rfl
theorem c98 (w : World) (s : List UInt8) (p0 count : Nat) (hp0 : p0 ≤ s.length) (hsl : s.length ≤ 1000000) (hct : count ≤ 1000) : Calls Tryz.prog 98 #[.string (bs s),.int .i64 (p0 : Int),.int .i64 (count : Int)] w fun en w'=>∃ g : LNd × Nat,en = .returned (.tuple #[.agg (LNd.vals g.1).toArray,.int .i64 (g.2 : Int),.bool (rdN s p0 count).isSome]) ∧ ((∀ nd e,rdN s p0 count = some (nd,e) → g.1.pl = nd ∧ g.2 = e) ∧ g.1.es.length ≤ count ∧ ∀ x ∈ g.1.es,Ym x 0 = true) ∧ HS w [] [.ents 27 g.1.ea g.1.ec g.1.es,.kids g.1.ca g.1.cc g.1.cs] w':=by
 refine enter (args:=[_,_,_]) Tryz.func98 Tryz.ntmps98 rfl rfl (HS.refl w []) ?_
 refine aS2 ?_
 refine oAl (fun b1 _=>?_) XF
 refine aS5 ?_
 refine o_p (Xq (cs:=[_,_,_]) rfl rfl QgP XF rfl) rfl ?_
 refine oAl (fun b2 _=>?_) XF
 refine oSt ?_
 refine QeX ?_
 refine Qx (α:=Nat × RdS × (Option Addr × Nat) × (Option Addr × Nat)) [1,7,8,10,11,12,13,14,15,16,17,21,22,23,24,25,26,27,28,29,30,31,32,33,34,35,36,37,38,39,40,41,42,43,44,45,46,47,48,49,50,51,52,53,54,55,56,57,58,59,60,61,62,63,64,65,66,67,68,69,70,71,72,73,74,75,76,77,78,79,80,81,82,83,84,85,86,87,88,89,90,91,92,93,94,95,96,97,98,99,100,101,102,103,104,105,106,107,108,109,110,111,112,113,114,115,116,117] (fun x=>[(11,.int .i64 (x.1 : Int)),(1,.int .i64 (x.2.1.p : Int)),(10,.slice x.2.2.2.1 x.2.1.cs.length x.2.2.2.2)]) (fun x=>HS w [] [.blk b2 69 3 [.bool true,.slice x.2.2.1.1 x.2.1.es.length x.2.2.1.2,.slice none 0 0],.own (.slice x.2.2.1.1 x.2.1.es.length x.2.2.1.2) 27 2 x.2.1.es.length (x.2.1.es.flatMap TEnt.vals),.own (.slice x.2.2.2.1 x.2.1.cs.length x.2.2.2.2) 3 1 x.2.1.cs.length (x.2.1.cs.flatMap inV),.blk b1 69 3 [.bool false,.slice none 0 0,.slice none 0 0]]) (fun x=>x.1 ≤ count ∧ rdE s p0 x.1 = some x.2.1) (fun x=>count - x.1) (0,⟨[],[],p0⟩,(none,0),(none,0)) ⟨Nat.zero_le _,rfl⟩ aSx (fun w h=>((h.own_nil 27 2).own_nil 3 1).ent aEt) (fun ⟨k,r,⟨ea,ec⟩,⟨da,dc⟩⟩ hk1=>?_)
 dsimp only
 simp only [] at hk1
 obtain ⟨hk2,hst⟩:=hk1
 obtain ⟨hle,hlc,hp1,hp2,_,hee,_⟩:=Qbm hp0 hst
 refine aS7 ?_
 refine Qb rfl (fun h3=>?_) fun h3=>?_
 ·try simp only [dT] at h3
  have hk : k < count:=by omega
  refine aS8 ?_
  try refine oWr ?_
  refine aS ?_
  refine o_p (Qn rfl rfl Tryz.underlying9) rfl ?_
  refine aS2 ?_
  refine Qb rfl (fun h4=>?_) fun h4=>?_
  ·try simp only [dT] at h4
   have hN : rdN s p0 count = none:=Qe6 hst hk (Qkz (fun h9=>by have hq:=h4;have:=h9.1;omega)).1
   refine aS3 ?_
   refine oSt ?_
   refine aS3 ?_
   exact Qs (rs:=[.cell 6 69,.tmp 7,.tmp 8]) rfl (.cell rfl Xz aPk rfl (.tmp rfl (.tmp rfl (.nil)))) (fun w' h'=>⟨(⟨true,ea,ec,r.es,none,0,[]⟩,0),by rw [hN];rfl,⟨fun _ _ h9=>(by rw [hN] at h9;cases h9),by show r.es.length ≤ _;omega,hee⟩,(h'.own_nil 3 1).ent aEt⟩)
  try simp only [dN] at h4
  have h8 : r.p + 8 ≤ s.length:=by have hq:=h4;omega
  have hb2:=Qd9 s r.p
  have hbk:=Y7 s (r.p + 2)
  have hbv:=Y7 s (r.p + 3)
  have hb4:=QlT s (r.p + 4)
  have hsz : Xb s r.p = 8 + ub1 s (r.p + 2) + ub1 s (r.p + 3):=rfl
  have hp8:=YP (Xb s r.p)
  refine aS5 ?_
  refine o_q (Qa rfl Yy rfl (fun w1 h1=>by have h9:=c72 w1 s (r.p) 2 (by omega) (by omega) (by omega);rw [Qdk,QcQ] at h9;exact h9)) rfl ?_
  refine aS3 ?_
  try refine oWr ?_
  refine o_q (Qa rfl Yy rfl (fun w1 h1=>by have h9:=c72 w1 s (r.p + 2) 1 (by omega) (by omega) (by omega);rw [QoP,QqI] at h9;exact h9)) rfl ?_
  refine aS3 ?_
  try refine oWr ?_
  refine o_q (Qa rfl Yy rfl (fun w1 h1=>by have h9:=c72 w1 s (r.p + 3) 1 (by omega) (by omega) (by omega);rw [QoP,QqI] at h9;exact h9)) rfl ?_
  refine aS3 ?_
  try refine oWr ?_
  refine o_q (Qa rfl Yy rfl (fun w1 h1=>by have h9:=c72 w1 s (r.p + 4) 4 (by omega) (by omega) (by omega);rw [Y0,QfV] at h9;exact h9)) rfl ?_
  refine aS6 ?_
  refine Qm (L':=[(0,_),(1,_),(2,_),(6,_),(9,_),(10,_),(11,_),(12,_),(13,_),(14,_),(15,_),(20,_)]) aSx (fun _ h=>h) ?_
  refine aS3 ?_
  try refine oWr ?_
  refine aS2 ?_
  try refine oWr ?_
  refine Qq (show _ = Value.int .i64 ((Xb s r.p : Nat) : Int) from congrArg (Value.int .i64) (by omega)) ?_
  refine aS7 ?_
  refine o_q (Qa rfl Qob rfl (fun w1 h1=>c95 w1 (Xb s r.p) (by omega))) rfl ?_
  refine aS2 ?_
  refine Xt 7 55 62 _ _ rfl
   (by
    intro hg5
    have hs6:=hg5;try simp only [Bool.not_eq_false',decide_eq_true_eq] at hs6
    refine oOn 55 hg5 ?_
    refine aS ?_
    refine oOn 55 hg5 ?_
    refine aS ?_
    refine oOn 55 hg5 ?_
    refine aS ?_
    try refine oWr ?_
    refine oOn 55 hg5 ?_
    refine aS ?_
    refine oOn 55 hg5 ?_
    refine o_p (Qn rfl rfl Tryz.underlying9) rfl ?_
    refine oOn 55 hg5 ?_
    refine aS ?_
    refine o_p (Qf rfl rfl hg5 rfl) rfl ?_
    refine aS ?_
    exact oJn 7 62)
   (by
    intro hg7
    have hs8:=hg7;try simp only [Bool.not_eq_true',decide_eq_false_iff_not] at hs8
    refine oOf 55 hg7 ?_
    refine oOf 55 hg7 ?_
    refine oOf 55 hg7 ?_
    refine oOf 55 hg7 ?_
    refine oOf 55 hg7 ?_
    refine oOf 55 hg7 ?_
    refine o_p (Qg rfl rfl hg7 rfl) rfl ?_
    refine aS ?_
    exact oJn 7 62) ?_
  refine aS ?_
  refine Xt 11 63 74 _ _ rfl
   (by
    intro hg9
    have hs10:=hg9;try simp only [Bool.or_eq_false_iff,Bool.not_eq_false',decide_eq_true_eq,decide_eq_false_iff_not] at hs10
    refine oOn 63 hg9 ?_
    refine aS ?_
    refine oOn 63 hg9 ?_
    refine aS ?_
    refine oOn 63 hg9 ?_
    refine aS ?_
    refine oOn 63 hg9 ?_
    refine aS ?_
    try refine oWr ?_
    refine oOn 63 hg9 ?_
    refine aS ?_
    refine oOn 63 hg9 ?_
    refine aS ?_
    refine oOn 63 hg9 ?_
    refine aS ?_
    try refine oWr ?_
    refine oOn 63 hg9 ?_
    refine o_p (Xu _ _ (r.p + Xb s r.p) (r.p + ub2 s r.p) rfl rfl Tryz.underlying9 ⟨_,_,rfl,(by omega)⟩ ⟨_,_,rfl,(by omega)⟩ (by omega) (by omega)) rfl ?_
    refine Qq (show _ = Value.string (bs (Ql s (r.p + Xb s r.p) (ub2 s r.p - Xb s r.p))) from by rw [QaA];congr 3;omega) ?_
    refine oOn 63 hg9 ?_
    refine o_q (Qa rfl Qjv rfl (fun w1 h1=>c53 w1 (Ql s (r.p + Xb s r.p) (ub2 s r.p - Xb s r.p)) (by rw [Xc (by omega)];omega))) rfl ?_
    refine oOn 63 hg9 ?_
    refine aS ?_
    refine o_p (Qf rfl rfl hg9 rfl) rfl ?_
    refine aS ?_
    exact oJn 11 74)
   (by
    intro hg11
    have hs12:=hg11;try simp only [Bool.or_eq_true,Bool.not_eq_true',decide_eq_false_iff_not,decide_eq_true_eq] at hs12
    refine oOf 63 hg11 ?_
    refine oOf 63 hg11 ?_
    refine oOf 63 hg11 ?_
    refine oOf 63 hg11 ?_
    refine oOf 63 hg11 ?_
    refine oOf 63 hg11 ?_
    refine oOf 63 hg11 ?_
    refine oOf 63 hg11 ?_
    refine oOf 63 hg11 ?_
    refine oOf 63 hg11 ?_
    refine o_p (Qg rfl rfl hg11 rfl) rfl ?_
    refine aS ?_
    exact oJn 11 74) ?_
  refine aS ?_
  refine Qb rfl (fun h13=>?_) fun h13=>?_
  ·try simp only [Bool.or_eq_true,Bool.not_eq_true',decide_eq_false_iff_not,decide_eq_true_eq] at h13
   have hN : rdN s p0 count = none:=Qe6 hst hk (QrK (fun h9=>by have hq:=h13;obtain ⟨q1,q2,q3⟩:=h9;grind))
   refine aS3 ?_
   refine oSt ?_
   refine aS3 ?_
   exact Qs (rs:=[.cell 6 69,.tmp 7,.tmp 8]) rfl (.cell rfl Xz aPk rfl (.tmp rfl (.tmp rfl (.nil)))) (fun w' h'=>⟨(⟨true,ea,ec,r.es,none,0,[]⟩,0),by rw [hN];rfl,⟨fun _ _ h9=>(by rw [hN] at h9;cases h9),by show r.es.length ≤ _;omega,hee⟩,(h'.own_nil 3 1).ent aEt⟩)
  try simp only [Bool.or_eq_false_iff,Bool.not_eq_false',decide_eq_true_eq,decide_eq_false_iff_not] at h13
  have h4 : ub2 s r.p = QM (Xb s r.p) ∧ r.p + ub2 s r.p ≤ s.length ∧ zer (Ql s (r.p + Xb s r.p) (ub2 s r.p - Xb s r.p)) = true:=by have hq:=h13;grind
  obtain ⟨hes,hkl,hvl⟩:=Qdz (s:=s) (p:=r.p) (by omega)
  refine aS2 ?_
  refine QG [19] QU ?_
  refine dP 0 ?_
  refine dP 1 ?_
  refine dP 2 ?_
  try refine dWr ?_
  refine dP 3 ?_
  refine dP 4 ?_
  try refine dWr ?_
  refine dP 5 ?_
  refine dP 6 ?_
  try refine dWr ?_
  refine dV 7 rfl (Xu _ _ (r.p + 8) (r.p + 8 + ub1 s (r.p + 2)) rfl rfl Tryz.underlying9 ⟨_,_,rfl,(by omega)⟩ ⟨_,_,rfl,(by omega)⟩ (by omega) (by omega)) ?_
  refine QD (show _ = Value.string (bs (Q5 s r.p).key) from by rw [QaA];congr 2;show Ql _ _ _ = Ql _ _ _;congr 1;omega) ?_
  refine dP 8 ?_
  refine dP 9 ?_
  refine dP 10 ?_
  try refine dWr ?_
  refine dP 11 ?_
  refine dP 12 ?_
  try refine dWr ?_
  refine dP 13 ?_
  refine dP 14 ?_
  refine dP 15 ?_
  try refine dWr ?_
  refine dV 16 rfl (Xu _ _ (r.p + 8 + ub1 s (r.p + 2)) (r.p + Xb s r.p) rfl rfl Tryz.underlying9 ⟨_,_,rfl,(by omega)⟩ ⟨_,_,rfl,(by omega)⟩ (by omega) (by omega)) ?_
  refine QD (show _ = Value.string (bs (Q5 s r.p).val) from by rw [QaA];congr 2;show Ql _ _ _ = Ql _ _ _;congr 1;omega) ?_
  refine dV 17 rfl (Xq (cs:=[_,_]) rfl rfl QsT Z2 rfl) ?_
  refine dH 18 rfl (Qck rfl Z2) (fun b14 _=>?_)
  refine dBa ?_
  refine dSt 19 ?_ (hl:=(by simp only [Qk,List.length_set,List.length_cons,List.length_nil,List.length_map];omega))
  refine dTu [] ?_
  refine dNi ?_
  refine aS2 ?_
  refine Qm (L':=[(0,_),(1,_),(2,_),(6,_),(9,_),(10,_),(11,_),(12,_),(15,_),(17,_),(20,_)]) aSx (fun _ h=>h) ?_
  refine aS3 ?_
  refine o_q (Qa rfl QwV rfl (fun w1 h1=>c29 w1 (Q5 s r.p) ((ub4 s (r.p + 4) : Nat) : Int) (by omega) (by omega))) rfl ?_
  refine aS2 ?_
  refine Xt 5 98 103 _ _ rfl
   (by
    intro hg15
    have hs16:=hg15;try simp only [Bool.not_eq_false',decide_eq_true_eq] at hs16
    refine oOn 98 hg15 ?_
    refine aS ?_
    refine oOn 98 hg15 ?_
    refine aS ?_
    refine oOn 98 hg15 ?_
    refine o_p (Qn rfl rfl Tryz.underlying9) rfl ?_
    refine oOn 98 hg15 ?_
    refine aS ?_
    refine o_p (Qf rfl rfl hg15 rfl) rfl ?_
    refine aS ?_
    exact oJn 5 103)
   (by
    intro hg17
    have hs18:=hg17;try simp only [Bool.not_eq_true',decide_eq_false_iff_not] at hs18
    refine oOf 98 hg17 ?_
    refine oOf 98 hg17 ?_
    refine oOf 98 hg17 ?_
    refine oOf 98 hg17 ?_
    refine o_p (Qg rfl rfl hg17 rfl) rfl ?_
    refine aS ?_
    exact oJn 5 103) ?_
  refine aS ?_
  refine Qb rfl (fun h19=>?_) fun h19=>?_
  ·try simp only [Bool.or_eq_true,Bool.not_eq_true',decide_eq_false_iff_not,decide_eq_true_eq] at h19
   have hN : rdN s p0 count = none:=Qe6 hst hk (QlM (by rw [Qju];have hq:=h19;grind))
   refine aS3 ?_
   refine oSt ?_
   refine aS3 ?_
   exact Qs (rs:=[.cell 6 69,.tmp 7,.tmp 8]) rfl (.cell rfl Xz aPk rfl (.tmp rfl (.tmp rfl (.nil)))) (fun w' h'=>⟨(⟨true,ea,ec,r.es,none,0,[]⟩,0),by rw [hN];rfl,⟨fun _ _ h9=>(by rw [hN] at h9;cases h9),by show r.es.length ≤ _;omega,hee⟩,(h'.own_nil 3 1).ent aEt⟩)
  try simp only [Bool.or_eq_false_iff,Bool.not_eq_false',decide_eq_true_eq,decide_eq_false_iff_not] at h19
  have hK : Ym (Q5 s r.p) (ub4 s (r.p + 4)) = true:=by rw [Qju];have hq:=h19;grind
  have hok:=QrQ h8 h4 hK
  refine aS6 ?_
  refine o_h (Qr (cs:=[_,_]) rfl rfl Xh Z2 rfl rfl rfl) rfl (fun b20 _=>?_)
  refine o_h (XU ((Q5 s r.p).vals) rfl rfl rfl Xh Tryz.underlying67 Z2 rfl aPk (XI aPk) rfl (ev1 _) (by omega) (by simp only [maxLen];omega)) rfl (fun b21 _=>?_)
  refine aS2 ?_
  refine o_h (Qr (cs:=[_]) rfl rfl Xe QeW rfl rfl rfl) rfl (fun b22 _=>?_)
  refine o_h (XU (inV ((ub4 s (r.p + 4) : Nat) : Int)) rfl rfl rfl Xe Tryz.underlying28 QeW rfl aPk (XI aPk) rfl (Qrv _) (by omega) (by simp only [maxLen];omega)) rfl (fun b23 _=>?_)
  refine aS ?_
  refine oSt ?_
  refine aS6 ?_
  try refine oWr ?_
  refine aS3 ?_
  refine Qm (L':=[(0,_),(1,_),(2,_),(6,_),(9,_),(10,_),(11,_),(20,_)]) aSx (fun _ h=>h) ?_
  refine aS3 ?_
  try refine oWr ?_
  refine aS2 ?_
  exact Qu (k + 1,⟨r.es ++ [Q5 s r.p],r.cs ++ [((ub4 s (r.p + 4) : Nat) : Int)],r.p + ub2 s r.p⟩,(b21.1,b21.2),(b23.1,b23.2)) (by (try simp only []);omega) ⟨by (try simp only []);omega,QbY hst hok⟩ (by dsimp only;rw [List.length_append];exact aSx) (fun w h=>by dsimp only;rw [@List.length_append _ r.es _,@List.length_append _ r.cs _,Qdh,Qdh];exact h.ent aEt)
 try simp only [dN] at h3
 obtain rfl : k = count:=by omega
 refine Qp rfl ?_
 refine aS5 ?_
 try refine oWr ?_
 refine aS ?_
 refine o_p (Qn rfl rfl Tryz.underlying9) rfl ?_
 refine aS2 ?_
 refine Xt 5 123 128 _ _ rfl
  (by
   intro hg24
   have hs25:=hg24;try simp only [dN] at hs25
   refine oOn 123 hg24 ?_
   refine aS ?_
   refine oOn 123 hg24 ?_
   refine aS ?_
   refine oOn 123 hg24 ?_
   refine o_q (Qa rfl Yy rfl (fun w1 h1=>by have h9:=c72 w1 s (r.p) 2 (by omega) (by omega) (by omega);rw [Qdk,QcQ] at h9;exact h9)) rfl ?_
   refine oOn 123 hg24 ?_
   refine aS ?_
   refine o_p (Qf rfl rfl hg24 rfl) rfl ?_
   refine aS ?_
   exact oJn 5 128)
  (by
   intro hg26
   have hs27:=hg26;try simp only [dT] at hs27
   refine oOf 123 hg26 ?_
   refine oOf 123 hg26 ?_
   refine oOf 123 hg26 ?_
   refine oOf 123 hg26 ?_
   refine o_p (Qg rfl rfl hg26 rfl) rfl ?_
   refine aS ?_
   exact oJn 5 128) ?_
 refine aS ?_
 refine Xt 6 129 135 _ _ rfl
  (by
   intro hg28
   have hs29:=hg28;try simp only [Bool.or_eq_false_iff,decide_eq_false_iff_not,Bool.not_eq_false',decide_eq_true_eq] at hs29
   refine oOn 129 hg28 ?_
   refine aS ?_
   refine oOn 129 hg28 ?_
   refine aS ?_
   refine oOn 129 hg28 ?_
   refine aS ?_
   try refine oWr ?_
   refine oOn 129 hg28 ?_
   refine o_q (Qa rfl Yy rfl (fun w1 h1=>by have h9:=c72 w1 s (r.p + 2) 2 (by omega) (by omega) (by omega);rw [Qdk,QcQ] at h9;exact h9)) rfl ?_
   refine oOn 129 hg28 ?_
   refine aS ?_
   refine o_p (Qf rfl rfl hg28 rfl) rfl ?_
   refine aS ?_
   exact oJn 6 135)
  (by
   intro hg30
   have hs31:=hg30;try simp only [Bool.or_eq_true,decide_eq_true_eq,Bool.not_eq_true',decide_eq_false_iff_not] at hs31
   refine oOf 129 hg30 ?_
   refine oOf 129 hg30 ?_
   refine oOf 129 hg30 ?_
   refine oOf 129 hg30 ?_
   refine oOf 129 hg30 ?_
   refine o_p (Qg rfl rfl hg30 rfl) rfl ?_
   refine aS ?_
   exact oJn 6 135) ?_
 refine aS ?_
 refine Xt 7 136 143 _ _ rfl
  (by
   intro hg32
   have hs33:=hg32;try simp only [Bool.or_eq_false_iff,decide_eq_false_iff_not,Bool.not_eq_false',decide_eq_true_eq] at hs33
   refine oOn 136 hg32 ?_
   refine aS ?_
   refine oOn 136 hg32 ?_
   refine aS ?_
   refine oOn 136 hg32 ?_
   refine aS ?_
   try refine oWr ?_
   refine oOn 136 hg32 ?_
   refine o_q (Qa rfl Yy rfl (fun w1 h1=>by have h9:=c72 w1 s (r.p + 4) 4 (by omega) (by omega) (by omega);rw [Y0,QfV] at h9;exact h9)) rfl ?_
   refine oOn 136 hg32 ?_
   refine o_q (Qa rfl YM rfl (fun w1 h1=>c40 w1 _ _ _)) rfl ?_
   refine oOn 136 hg32 ?_
   refine aS ?_
   refine o_p (Qf rfl rfl hg32 rfl) rfl ?_
   refine aS ?_
   exact oJn 7 143)
  (by
   intro hg34
   have hs35:=hg34;try simp only [Bool.or_eq_true,decide_eq_true_eq,Bool.not_eq_true',decide_eq_false_iff_not] at hs35
   refine oOf 136 hg34 ?_
   refine oOf 136 hg34 ?_
   refine oOf 136 hg34 ?_
   refine oOf 136 hg34 ?_
   refine oOf 136 hg34 ?_
   refine oOf 136 hg34 ?_
   refine o_p (Qg rfl rfl hg34 rfl) rfl ?_
   refine aS ?_
   exact oJn 7 143) ?_
 refine aS ?_
 refine Qb rfl (fun h36=>?_) fun h36=>?_
 ·try simp only [Bool.or_eq_true,decide_eq_true_eq,Bool.not_eq_true',decide_eq_false_iff_not,Bool.and_eq_false_iff] at h36
  have hN : rdN s p0 k = none:=Qla hst (by unfold YN;have hq:=h36;grind)
  refine aS3 ?_
  refine oSt ?_
  refine aS3 ?_
  exact Qs (rs:=[.cell 6 69,.tmp 7,.tmp 8]) rfl (.cell rfl Xz aPk rfl (.tmp rfl (.tmp rfl (.nil)))) (fun w' h'=>⟨(⟨true,ea,ec,r.es,none,0,[]⟩,0),by rw [hN];rfl,⟨fun _ _ h9=>(by rw [hN] at h9;cases h9),by show r.es.length ≤ _;omega,hee⟩,(h'.own_nil 3 1).ent aEt⟩)
 try simp only [Bool.or_eq_false_iff,decide_eq_false_iff_not,Bool.not_eq_false',decide_eq_true_eq,Bool.and_eq_true] at h36
 have hE : YN s r.p = true:=by unfold YN;have hq:=h36;grind
 have hN:=Qlm hst hE
 obtain ⟨h8,_,_,_⟩ : r.p + 8 ≤ s.length ∧ ub2 s r.p = 8 ∧ ub2 s (r.p + 2) = 0 ∧ ub4 s (r.p + 4) ≤ 120:=by simpa [YN] using hE
 obtain ⟨ch,hch⟩ : ∃ ch : List Int,ch = r.cs ++ [((ub4 s (r.p + 4) : Nat) : Int)]:=⟨_,rfl⟩
 rw [← hch] at hN
 have hchl : ch.length ≤ 1001:=by rw [hch,List.length_append];simp only [List.length_cons,List.length_nil];omega
 refine aS7 ?_
 try refine oWr ?_
 refine o_q (Qa rfl Yy rfl (fun w1 h1=>by have h9:=c72 w1 s (r.p + 4) 4 (by omega) (by omega) (by omega);rw [Y0,QfV] at h9;exact h9)) rfl ?_
 refine o_h (Qr (cs:=[_]) rfl rfl Xe QeW rfl rfl rfl) rfl (fun b37 _=>?_)
 refine o_h (XU (inV ((ub4 s (r.p + 4) : Nat) : Int)) rfl rfl rfl Xe Tryz.underlying28 QeW rfl aPk (XI aPk) rfl (Qrv _) (by omega) (by simp only [maxLen];omega)) rfl (fun b38 _=>?_)
 refine Qq (show _ = Value.slice b38.1 ch.length b38.2 from by rw [hch,List.length_append];rfl) ?_
 refine aS8 ?_
 refine Qm (L':=[(0,_),(1,_),(2,_),(6,_),(9,_),(10,_),(11,_),(18,_),(20,_)]) aSx (fun _ h=>h) ?_
 refine aS4 ?_
 obtain ⟨fa,fc⟩:=b38
 dsimp only
 refine QtQ (fun w9 h=>HS.kids_some (l:=ch) (by rw [hch,List.length_append];exact Nat.succ_pos _) (show HS w [] [.kids fa fc ch] w9 from by rw [hch,HA.kids,@List.length_append _ r.cs _,Qdh];exact h.ent aEt) .here) fun hfa=>?_
 obtain ⟨gf,rfl⟩:=hfa
 refine Qx (α:=Nat) [18,19,152,153,154,155,156,157,158,159,160,161,162,163,164,165] (fun i=>[(19,.int .i64 (i : Int)),(18,.int .i64 ((czI (ch.take i) : Nat) : Int))]) (fun _=>HS w [] [.blk b2 69 3 [.bool true,.slice ea r.es.length ec,.slice none 0 0],.own (.slice ea r.es.length ec) 27 2 r.es.length (r.es.flatMap TEnt.vals),.own (.slice (some ⟨gf,0,none⟩) ch.length fc) 3 1 ch.length (ch.flatMap inV),.blk b1 69 3 [.bool false,.slice none 0 0,.slice none 0 0]]) (fun i=>i ≤ ch.length) (fun i=>ch.length - i) 0 (Nat.zero_le _) aSx (fun w h=>by rw [hch,@List.length_append _ r.cs _,Qdh];exact h.ent aEt) (fun i hi1=>?_)
 refine aS8 ?_
 refine Qb rfl (fun h39=>?_) fun h39=>?_
 ·try simp only [dT] at h39
  have hi : i < ch.length:=by omega
  have hcz : ((czI (ch.take (i + 1)) : Nat) : Int) = ((czI (ch.take i) : Nat) : Int) + (if nth ch i = 0 then 1 else 0):=by rw [QpQ hi];split <;> simp
  have hczl:=QqD (ch.take i)
  rw [List.length_take] at hczl
  refine aS7 ?_
  refine o_p (Qc rfl rfl rfl Xe (i) (by omega) (by omega) rfl) rfl ?_
  refine o_q (QaD rfl rfl Y1 (fun w9 h=>(show Rd w9 [] gf (0 + i * 1) (.int .i64 (nth ch i)) from (h.rw_own (a:=some ⟨gf,0,none⟩) (l:=ch) iv1 aPk rfl).rdj (i:=i) 0 hi rfl))) rfl ?_
  refine aS ?_
  refine o_q (Qa rfl Qk8 rfl (fun w1 h1=>Qub w1 _)) rfl ?_
  refine aS ?_
  try refine oWr ?_
  refine Qq (show _ = Value.int .i64 ((czI (ch.take (i + 1)) : Nat) : Int) from by rw [hcz];by_cases hz9 : nth ch i = 0 <;> simp only [hz9,decide_true,decide_false,if_true,if_false,Bool.false_eq_true] <;> first | rfl | exact QjX (by omega) (by omega)) ?_
  refine aS6 ?_
  try refine oWr ?_
  refine aS2 ?_
  exact Qu (i + 1) (by omega) (by omega) (by exact aSx) (fun w h=>h.ent aEt)
 try simp only [dN] at h39
 obtain rfl : i = ch.length:=by omega
 rw [List.take_length]
 refine Qp rfl ?_
 refine aS6 ?_
 refine Qb rfl (fun h40=>?_) fun h40=>?_
 ·try simp only [dT] at h40
  have hz : noz ch = true:=Qtp.1 (by have hq:=h40;omega)
  rw [hz] at hN
  have hN : rdN s p0 k = some (⟨true,r.es,ch⟩,r.p + 8):=hN
  refine aS3 ?_
  refine oSt ?_
  refine aS6 ?_
  try refine oWr ?_
  refine oSt ?_
  refine aS3 ?_
  exact Qs (rs:=[.cell 6 69,.tmp 7,.tmp 8]) rfl (.cell rfl Xz aPk rfl (.tmp rfl (.tmp rfl (.nil)))) (fun w' h'=>by first | exact ⟨(⟨true,ea,ec,r.es,some ⟨gf,0,none⟩,fc,ch⟩,r.p + 8),by rw [hN];rfl,⟨fun nd e h9=>(by rw [hN] at h9;injection h9 with h9;injection h9 with q1 q2;subst q1 q2;exact ⟨rfl,rfl⟩),by show r.es.length ≤ _;omega,hee⟩,h'.ent aEt⟩ | exact ⟨(⟨true,ea,ec,r.es,none,0,[]⟩,r.p + 8),by rw [hN];rfl,⟨fun nd e h9=>(by rw [hN] at h9;injection h9 with h9;injection h9 with q1 q2;subst q1 q2;exact ⟨rfl,rfl⟩),by show r.es.length ≤ _;omega,hee⟩,(h'.own_nil 3 1).ent aEt⟩)
 try simp only [dN] at h40
 have hz0 : ¬ czI ch = 0:=by have hq:=h40;omega
 have hz : noz ch = false:=by cases hb : noz ch;rfl;exact absurd (Qtp.2 hb) hz0
 rw [hz] at hN
 refine aS7 ?_
 refine Qb rfl (fun h41=>?_) fun h41=>?_
 ·try simp only [dT] at h41
  have hz2 : Qc0 ch = false:=by cases hb : Qc0 ch;rfl;have:=Qmb.2 hb;have hq:=h41;omega
  rw [hz2] at hN
  have hN : rdN s p0 k = none:=hN
  refine aS3 ?_
  refine oSt ?_
  refine aS3 ?_
  exact Qs (rs:=[.cell 6 69,.tmp 7,.tmp 8]) rfl (.cell rfl Xz aPk rfl (.tmp rfl (.tmp rfl (.nil)))) (fun w' h'=>⟨(⟨true,ea,ec,r.es,none,0,[]⟩,0),by rw [hN];rfl,⟨fun _ _ h9=>(by rw [hN] at h9;cases h9),by show r.es.length ≤ _;omega,hee⟩,(h'.own_nil 3 1).ent aEt⟩)
 try simp only [dN] at h41
 have hz2 : Qc0 ch = true:=Qmb.1 (by have:=QqD ch;have hq:=h41;omega)
 rw [hz2] at hN
 have hN : rdN s p0 k = some (⟨true,r.es,[]⟩,r.p + 8):=hN
 refine aS6 ?_
 try refine oWr ?_
 refine oSt ?_
 refine aS3 ?_
 exact Qs (rs:=[.cell 6 69,.tmp 7,.tmp 8]) rfl (.cell rfl Xz aPk rfl (.tmp rfl (.tmp rfl (.nil)))) (fun w' h'=>by first | exact ⟨(⟨true,ea,ec,r.es,some ⟨gf,0,none⟩,fc,ch⟩,r.p + 8),by rw [hN];rfl,⟨fun nd e h9=>(by rw [hN] at h9;injection h9 with h9;injection h9 with q1 q2;subst q1 q2;exact ⟨rfl,rfl⟩),by show r.es.length ≤ _;omega,hee⟩,h'.ent aEt⟩ | exact ⟨(⟨true,ea,ec,r.es,none,0,[]⟩,r.p + 8),by rw [hN];rfl,⟨fun nd e h9=>(by rw [hN] at h9;injection h9 with h9;injection h9 with q1 q2;subst q1 q2;exact ⟨rfl,rfl⟩),by show r.es.length ≤ _;omega,hee⟩,(h'.own_nil 3 1).ent aEt⟩)
theorem Qwa : Qt Tryz.prog 92 = true:=by kernel_rfl
theorem Qv9 : Qt Tryz.prog 98 = true:=by kernel_rfl
end Go.Proofs
namespace Gx
open Go Go.RowKit
section
variable {P : Program} {o : Oper} {L : Qe} {w0 : World} {M : List Nat} {As As' : List HA}
end
end Gx
namespace Gx
namespace Ev
open Go Go.RowKit
structure Rho where
 f : Nat → Option (Nat × Nat)
 ex : List HA
instance : CoeFun Rho (fun _=>Nat → Option (Nat × Nat)):=⟨Rho.f⟩
def Rho.le (ρ ρ' : Rho) : Prop:=(∀ n x,ρ n = some x → ρ' n = some x) ∧ ρ'.ex = ρ.ex
theorem Rho.le_refl (ρ : Rho) : ρ.le ρ:=⟨fun _ _ h=>h,rfl⟩
theorem Rho.le_trans {a b c : Rho} (h1 : a.le b) (h2 : b.le c) : a.le c:=⟨fun n x h=>h2.1 n x (h1.1 n x h),h2.2.trans h1.2⟩
def XR (ρ : Rho) : Value → Option Value
 | .pointer (some ⟨n,i,none⟩)=>match ρ n with
  | some x=>some (.pointer (some ⟨x.1,i,none⟩))
  | none=>none
 | .pointer (some ⟨n,i,some q⟩)=>match ρ n with
  | some x=>some (.slice (some ⟨x.1,if x.2 = 0 then i else i + q,none⟩) 0 x.2)
  | none=>none
 | .pointer none=>some (.pointer none)
 | .slice (some ⟨n,i,none⟩) l c=>match ρ n with
  | some x=>some (.slice (some ⟨x.1,i,none⟩) l (c + x.2))
  | none=>none
 | .slice (some ⟨n,i,some _⟩) l c=>match ρ n with
  | some x=>some (.slice (some ⟨x.1,i,none⟩) l c)
  | none=>none
 | .slice none l c=>some (.slice none l c)
 | .map (some r)=>match ρ r with
  | some x=>some (.map (some x.1))
  | none=>none
 | .map none=>some (.map none)
 | .int k n=>some (.int k n)
 | .bool b=>some (.bool b)
 | .string s=>some (.string s)
 | .nilFunc=>some .nilFunc
 | _=>none
def Qy {α β : Type} (f : α → Option β) : List α → Option (List β)
 | []=>some []
 | a :: l=>match f a,Qy f l with
  | some b,some m=>some (b :: m)
  | _,_=>none
def QcT (ρ : Rho) : Fn → Option Fn
 | .func f=>some (.func f)
 | .yield n=>match ρ n with
  | some x=>some (.yield x.1)
  | none=>none
 | _=>none
def QZ (ρ : Rho) : Value → Option Value
 | .func f a b=>match QcT ρ f,Qy (XR ρ) a.toList,Qy (XR ρ) b.toList with
  | some f',some a',some b'=>some (.func f' a'.toArray b'.toArray)
  | _,_,_=>none
 | v=>XR ρ v
def Xy (ρ : Rho) : Value → Option Value
 | .agg cs=>match Qy (QZ ρ) cs.toList with
  | some l=>some (.agg l.toArray)
  | none=>none
 | v=>QZ ρ v
def den (ρ : Rho) : Value → Option Value
 | .tuple vs=>match Qy (Xy ρ) vs.toList with
  | some l=>some (.tuple l.toArray)
  | none=>none
 | v=>Xy ρ v
section
variable {α β : Type}
theorem Xl {f g : α → Option β} (h : ∀ a b,f a = some b → g a = some b) : ∀ {l : List α} {m : List β},Qy f l = some m → Qy g l = some m
 | [],m,e=>e
 | a :: l,m,e=>by
  simp only [Qy] at e ⊢;split at e
  ·rename_i b m' h1 h2;rw [h a b h1,Xl h h2];exact e
  ·cases e
theorem Xg {f : α → Option β} : ∀ {l : List α} {m : List β},Qy f l = some m → m.length = l.length
 | [],m,e=>by cases e;rfl
 | a :: l,m,e=>by
  simp only [Qy] at e;split at e
  ·rename_i b m' h1 h2;injection e with e
   subst e;simp [Xg h2]
  ·cases e
theorem QaS {f : α → Option β} : ∀ {l : List α} {m : List β} {i : Nat} {a : α},Qy f l = some m → l[i]? = some a → ∃ b,m[i]? = some b ∧ f a = some b
 | [],m,i,a,e,h=>by simp at h
 | x :: l,m,i,a,e,h=>by
  simp only [Qy] at e;split at e
  ·rename_i b m' h1 h2;injection e with e
   subst e;cases i with
   | zero=>simp at h;subst h;exact ⟨b,rfl,h1⟩
   | succ i=>simpa using QaS h2 (by simpa using h)
  ·cases e
theorem Zn {f : α → Option β} : ∀ {l l2 : List α} {m m2 : List β},Qy f l = some m → Qy f l2 = some m2 → Qy f (l ++ l2) = some (m ++ m2)
 | [],l2,m,m2,e,e2=>by cases e;exact e2
 | a :: l,l2,m,m2,e,e2=>by
  simp only [Qy] at e;split at e
  ·rename_i b m' h1 h2;injection e with e
   subst e;simp only [List.cons_append,Qy,h1,Zn h2 e2]
  ·cases e
theorem XT {f : α → Option β} : ∀ {l : List α} {m : List β} (k : Nat),Qy f l = some m → Qy f (l.take k) = some (m.take k)
 | [],m,k,e=>by cases e;simp [Qy]
 | a :: l,m,0,e=>by simp [Qy]
 | a :: l,m,k + 1,e=>by
  simp only [Qy] at e;split at e
  ·rename_i b m' h1 h2;injection e with e
   subst e;simp only [List.take_succ_cons,Qy,h1,XT k h2]
  ·cases e
theorem YG {f : α → Option β} : ∀ {l : List α} {m : List β} (k : Nat),Qy f l = some m → Qy f (l.drop k) = some (m.drop k)
 | [],m,k,e=>by cases e;simp [Qy]
 | a :: l,m,0,e=>by simpa using e
 | a :: l,m,k + 1,e=>by
  simp only [Qy] at e;split at e
  ·rename_i b m' h1 h2;injection e with e
   subst e
   simpa using YG k h2
  ·cases e
theorem QjI {f : α → Option β} : ∀ {l : List α} {m : List β} (i : Nat) {a : α} {b : β},Qy f l = some m → f a = some b → Qy f (l.set i a) = some (m.set i b)
 | [],m,i,a,b,e,h=>by cases e;simp [Qy]
 | x :: l,m,i,a,b,e,h=>by
  simp only [Qy] at e;split at e
  ·rename_i y m' h1 h2;injection e with e
   subst e;cases i with
   | zero=>simp only [List.set_cons_zero,Qy,h,h2]
   | succ i=>simp only [List.set_cons_succ,Qy,h1,QjI i h2 h]
  ·cases e
theorem Qja {f : α → Option β} : ∀ {l : List α} {m : List β} {b : β},Qy f l = some m → b ∈ m → ∃ a ∈ l,f a = some b
 | [],m,b,e,h=>by cases e;cases h
 | x :: l,m,b,e,h=>by
  simp only [Qy] at e;split at e
  ·rename_i y m' h1 h2;injection e with e
   subst e;rcases List.mem_cons.1 h with rfl | h
   ·exact ⟨x,List.mem_cons_self ..,h1⟩
   ·obtain ⟨a,ha,e⟩:=Qja h2 h;exact ⟨a,List.mem_cons_of_mem _ ha,e⟩
  ·cases e
end
theorem Qee {ρ ρ' : Rho} (h : ρ.le ρ') (v u : Value) (e : XR ρ v = some u) : XR ρ' v = some u:=by
  unfold XR at e ⊢
  split at e <;> first
    | exact e
    | (split at e
       · rename_i x hx;rw [h.1 _ _ hx];exact e
       · cases e)
    | cases e
theorem Qk2 {ρ ρ' : Rho} (h : ρ.le ρ') (f g : Fn) (e : QcT ρ f = some g) : QcT ρ' f = some g:=by
  unfold QcT at e ⊢
  split at e <;> first
    | exact e
    | (split at e
       · rename_i x hx;rw [h.1 _ _ hx];exact e
       · cases e)
    | cases e
theorem Qcp {ρ ρ' : Rho} (h : ρ.le ρ') (v u : Value) (e : QZ ρ v = some u) : QZ ρ' v = some u:=by
 unfold QZ at e ⊢;split at e
 ·split at e
  ·rename_i f' a' b' h1 h2 h3;rw [Qk2 h _ _ h1,Xl (Qee h) h2,Xl (Qee h) h3];exact e
  ·cases e
 ·exact Qee h _ _ e
theorem QgM {ρ ρ' : Rho} (h : ρ.le ρ') (v u : Value) (e : Xy ρ v = some u) : Xy ρ' v = some u:=by
 unfold Xy at e ⊢;split at e
 ·split at e
  ·rename_i l hl;rw [Xl (Qcp h) hl];exact e
  ·cases e
 ·exact Qcp h _ _ e
theorem QfT {ρ ρ' : Rho} (h : ρ.le ρ') (v u : Value) (e : den ρ v = some u) : den ρ' v = some u:=by
 unfold den at e ⊢;split at e
 ·split at e
  ·rename_i l hl;rw [Xl (QgM h) hl];exact e
  ·cases e
 ·exact QgM h _ _ e
abbrev Env:=Nat → Option Value
def SR (ρ : Rho) (L : Env) (L' : Qe) : Prop:=∀ t v,L t = some v → ∃ u,Qe.get L' t = some u ∧ den ρ v = some u
theorem SR.mono {ρ ρ' : Rho} (h : ρ.le ρ') {L : Env} {L' : Qe} (e : SR ρ L L') : SR ρ' L L':=fun t v hv=>by
 obtain ⟨u,h1,h2⟩:=e t v hv;exact ⟨u,h1,QfT h _ _ h2⟩
theorem SR.get {ρ : Rho} {L : Env} {L' : Qe} {t : Nat} {v : Value} (e : SR ρ L L') (h : L t = some v) : ∃ u,Qe.get L' t = some u ∧ den ρ v = some u:=e t v h
theorem SR.put {ρ : Rho} {L L2 : Env} {L' : Qe} {d : Nat} {v u : Value} (e : SR ρ L L') (hu : den ρ v = some u) (h : ∀ t x,L2 t = some x → (t = d ∧ x = v) ∨ (t ≠ d ∧ L t = some x)) : SR ρ L2 ((d,u) :: L'):=fun t x hx=>by
 simp only [Qe.get];rcases h t x hx with ⟨rfl,rfl⟩ | ⟨h1,h2⟩
 ·exact ⟨u,by simp [Nat.beq_refl],hu⟩
 ·have hb : Nat.beq d t = false:=by
   cases hb : Nat.beq d t with
   | true=>exact absurd (Nat.eq_of_beq_eq_true hb).symm h1
   | false=>rfl
  rw [hb];exact e t x h2
def ZB : Value → Bool
 | .int _ _ | .bool _ | .string _ | .nilFunc | .pointer none | .slice none _ _ | .map none=>true
 | _=>false
theorem QaE {v : Value} (h : ZB v = true) (ρ : Rho) : den ρ v = some v:=by
 unfold ZB at h;split at h <;> first | rfl | cases h
def opd (L : Env) : Operand → Option Value
 | .tmp t=>L t
 | .const v=>bif ZB v then some v else none
 | .func f=>some (.func (.func f) #[] #[])
 | _=>none
theorem Y4 {ρ : Rho} {L : Env} {L' : Qe} {x : Operand} {v : Value} (hs : SR ρ L L') (h : opd L x = some v) : ∃ u,ev L' x = some u ∧ den ρ v = some u:=by
 unfold opd at h;split at h
 ·exact hs.get h
 ·rename_i c;cases hf : ZB c with
  | true=>
   rw [hf] at h;injection h with h
   subst h;exact ⟨_,rfl,QaE hf ρ⟩
  | false=>rw [hf] at h;cases h
 ·injection h with h
  subst h;exact ⟨_,rfl,rfl⟩
 ·cases h
def Qdc (L : Env) : List Operand → Option (List Value)
 | []=>some []
 | x :: l=>match opd L x,Qdc L l with
  | some v,some vs=>some (v :: vs)
  | _,_=>none
theorem Qen {ρ : Rho} {L : Env} {L' : Qe} (hs : SR ρ L L') : ∀ {l : List Operand} {vs : List Value},Qdc L l = some vs → ∃ us,evs L' l = some us ∧ Qy (den ρ) vs = some us
 | [],vs,h=>by cases h;exact ⟨[],rfl,rfl⟩
 | x :: l,vs,h=>by
  simp only [Qdc] at h;split at h
  ·rename_i v vs' h1 h2;injection h with h
   subst h;obtain ⟨u,e1,e2⟩:=Y4 hs h1;obtain ⟨us,e3,e4⟩:=Qen hs h2;exact ⟨u :: us,by simp only [evs,e1,e3],by simp only [Qy,e2,e4]⟩
  ·cases h
section
variable {ρ : Rho} {L : Env} {L' : Qe} {x : Operand}
theorem Qj {v : Value} (hs : SR ρ L L') (h : opd L x = some v) (hf : ZB v = true) : ev L' x = some v:=by
 obtain ⟨u,h1,h2⟩:=Y4 hs h;rw [QaE hf] at h2;injection h2 with h2
 subst h2;exact h1
theorem QdN {n i : Nat} (hs : SR ρ L L') (h : opd L x = some (.pointer (some ⟨n,i,none⟩))) : ∃ b d,ρ n = some (b,d) ∧ ev L' x = some (.pointer (some ⟨b,i,none⟩)):=by
 obtain ⟨u,h1,h2⟩:=Y4 hs h;simp only [den,Xy,QZ,XR] at h2;split at h2
 ·rename_i y hy;injection h2 with h2
  subst h2;exact ⟨y.1,y.2,hy,h1⟩
 ·cases h2
theorem Ya {n i l c : Nat} (hs : SR ρ L L') (h : opd L x = some (.slice (some ⟨n,i,none⟩) l c)) : ∃ b d,ρ n = some (b,d) ∧ ev L' x = some (.slice (some ⟨b,i,none⟩) l (c + d)):=by
 obtain ⟨u,h1,h2⟩:=Y4 hs h;simp only [den,Xy,QZ,XR] at h2;split at h2
 ·rename_i y hy;injection h2 with h2
  subst h2;exact ⟨y.1,y.2,hy,h1⟩
 ·cases h2
theorem YB {n i l c q : Nat} (hs : SR ρ L L') (h : opd L x = some (.slice (some ⟨n,i,some q⟩) l c)) : ∃ b d,ρ n = some (b,d) ∧ ev L' x = some (.slice (some ⟨b,i,none⟩) l c):=by
 obtain ⟨u,h1,h2⟩:=Y4 hs h;simp only [den,Xy,QZ,XR] at h2;split at h2
 ·rename_i y hy;injection h2 with h2
  subst h2;exact ⟨y.1,y.2,hy,h1⟩
 ·cases h2
theorem QfB {n i q : Nat} (hs : SR ρ L L') (h : opd L x = some (.pointer (some ⟨n,i,some q⟩))) : ∃ b d j,ρ n = some (b,d) ∧ ev L' x = some (.slice (some ⟨b,j,none⟩) 0 d):=by
 obtain ⟨u,h1,h2⟩:=Y4 hs h;simp only [den,Xy,QZ,XR] at h2;split at h2
 ·rename_i y hy;injection h2 with h2
  subst h2;exact ⟨y.1,y.2,_,hy,h1⟩
 ·cases h2
theorem QcF {cs : Array Value} (hs : SR ρ L L') (h : opd L x = some (.agg cs)) : ∃ l,Qy (QZ ρ) cs.toList = some l ∧ ev L' x = some (.agg l.toArray):=by
 obtain ⟨u,h1,h2⟩:=Y4 hs h;simp only [den,Xy] at h2;split at h2
 ·rename_i l hl;injection h2 with h2
  subst h2;exact ⟨l,hl,h1⟩
 ·cases h2
theorem QmA {vs : Array Value} (hs : SR ρ L L') (h : opd L x = some (.tuple vs)) : ∃ l,Qy (Xy ρ) vs.toList = some l ∧ ev L' x = some (.tuple l.toArray):=by
 obtain ⟨u,h1,h2⟩:=Y4 hs h;simp only [den] at h2;split at h2
 ·rename_i l hl;injection h2 with h2
  subst h2;exact ⟨l,hl,h1⟩
 ·cases h2
end
end Ev
namespace Ev
open Go Go.RowKit
def vN : Option Value → Option Nat
 | some (.int _ (.ofNat n))=>some n
 | _=>none
theorem Y3 {v : Option Value} {n : Nat} (h : vN v = some n) : ∃ k,v = some (.int k (n : Int)):=by
 unfold vN at h;split at h
 ·rename_i k m;injection h with h
  subst h;exact ⟨k,rfl⟩
 ·cases h
def Xk (P : Program) (t : TypeId) : Bool:=match P.underlying t with | some .string=>true | _=>false
def Qcn (P : Program) (t : TypeId) : Bool:=match P.underlying t with | some .bool=>true | _=>false
def Xs (P : Program) (t : TypeId) : Bool:=match P.underlying t with | some (.slice _)=>true | _=>false
theorem Yp {P : Program} {t : TypeId} (h : Xk P t = true) : P.underlying t = some .string:=by
 unfold Xk at h;split at h
 ·assumption
 ·cases h
theorem Qgd {P : Program} {t : TypeId} (h : Qcn P t = true) : P.underlying t = some .bool:=by
 unfold Qcn at h;split at h
 ·assumption
 ·cases h
theorem X1 {P : Program} {t : TypeId} (h : Xs P t = true) : ∃ e,P.underlying t = some (.slice e):=by
 unfold Xs at h;split at h
 ·rename_i e he;exact ⟨e,he⟩
 ·cases h
def QcJ (P : Program) (t : TypeId) : Bool:=match P.underlying t with
 | some (.pointer te)=>(match tsz P te with
  | some (n,_)=>!Nat.beq n 0
  | none=>false)
 | _=>false
theorem Qdn {P : Program} {t : TypeId} (h : QcJ P t = true) : ∃ te,QoV P t te:=by
 unfold QcJ at h;split at h
 ·rename_i te h1;split at h
  ·rename_i n b h2;exact ⟨te,Qmx h1 h2 fun e=>by subst e;cases h⟩
  ·cases h
 ·cases h
def Qkv : List Nat → List Nat → Bool
 | [],[]=>true
 | a :: l,b :: m=>Nat.beq a b && Qkv l m
 | _,_=>false
theorem QhX : ∀ {l m : List Nat},Qkv l m = true → l = m
 | [],[],_=>rfl
 | a :: l,b :: m,h=>by
  simp only [Qkv,Bool.and_eq_true] at h;rw [Nat.eq_of_beq_eq_true h.1,QhX h.2]
 | [],_ :: _,h=>by cases h
 | _ :: _,[],h=>by cases h
def Qrs (P : Program) (t : TypeId) (xs ys : List Value) : Option Bool:=match Qkm P t with
 | some ks=>bif (Qkv (xs.map QbM) ks && Qkv (ys.map QbM) ks) && (xs.all ZB && ys.all ZB) then eqC xs ys else none
 | none=>none
def ZG (P : Program) (op : BinOp) (t : TypeId) (a b : Value) : Option Value:=match Xp op a b with
 | some v=>some v
 | none=>match op,a,b with
  | .eql,.bool x,.bool y=>bif Qcn P t then some (.bool (x == y)) else none
  | .neq,.bool x,.bool y=>bif Qcn P t then some (.bool (!(x == y))) else none
  | .eql,.slice p _ _,.slice none _ _=>bif Xs P t then some (.bool p.isNone) else none
  | .neq,.slice p _ _,.slice none _ _=>bif Xs P t then some (.bool (!p.isNone)) else none
  | .eql,.agg ⟨xs⟩,.agg ⟨ys⟩=>(match Qrs P t xs ys with
   | some b=>some (.bool b)
   | none=>none)
  | .neq,.agg ⟨xs⟩,.agg ⟨ys⟩=>(match Qrs P t xs ys with
   | some b=>some (.bool (!b))
   | none=>none)
  | .eql,.pointer none,.pointer none=>bif QcJ P t then some (.bool true) else none
  | .eql,.pointer (some ⟨_,_,none⟩),.pointer none=>bif QcJ P t then some (.bool false) else none
  | .neq,.pointer none,.pointer none=>bif QcJ P t then some (.bool false) else none
  | .neq,.pointer (some ⟨_,_,none⟩),.pointer none=>bif QcJ P t then some (.bool true) else none
  | .quo,.int k x,.int k' y=>bif kEq k k' && !decide (y = 0) then some (.int k (k.wrap (x.tdiv y))) else none
  | .rem,.int k x,.int k' y=>bif kEq k k' && !decide (y = 0) then some (.int k (x.tmod y)) else none
  | .shl,.int k x,.int _ (.ofNat y)=>some (.int k (k.wrap (x * 2 ^ (min y k.bits))))
  | .shr,.int k x,.int _ (.ofNat y)=>some (.int k (x / 2 ^ (min y k.bits)))
  | .add,.string ⟨⟨x⟩⟩,.string ⟨⟨y⟩⟩=>bif Nat.ble (x.length + y.length) 9223372036854775807 then some (.string (bs (x ++ y))) else none
  | _,_,_=>none
theorem Qg4 {P : Program} {t : TypeId} {xs ys : List Value} {b : Bool} (h : Qrs P t xs ys = some b) : ∃ ks,Qkm P t = some ks ∧ xs.map QbM = ks ∧ ys.map QbM = ks ∧ xs.all ZB = true ∧ ys.all ZB = true ∧ eqC xs ys = some b:=by
 unfold Qrs at h;split at h
 ·rename_i ks h1;cases hc : (Qkv (xs.map QbM) ks && Qkv (ys.map QbM) ks) && (xs.all ZB && ys.all ZB) with
  | false=>rw [hc] at h;cases h
  | true=>
   rw [hc] at h;simp only [Bool.and_eq_true] at hc;exact ⟨ks,h1,QhX hc.1.1,QhX hc.1.2,hc.2.1,hc.2.2,h⟩
 ·cases h
theorem QnE {ρ : Rho} {v : Value} (h : ZB v = true) : QZ ρ v = some v:=by
 unfold ZB at h;split at h <;> first | rfl | cases h
theorem QbZ {ρ : Rho} : ∀ {l : List Value},l.all ZB = true → Qy (QZ ρ) l = some l
 | [],_=>rfl
 | v :: l,h=>by
  simp only [List.all_cons,Bool.and_eq_true] at h;simp only [Qy,QnE h.1,QbZ h.2]
section
variable {P : Program} {o : Oper} {ρ : Rho} {L : Env} {L' : Qe}
theorem Qie {op : BinOp} {a b v : Value} (h : Xp op a b = some v) : ZB a = true ∧ ZB b = true ∧ ZB v = true:=by
 unfold Xp at h;split at h
 ·rename_i k x k' y;refine ⟨rfl,rfl,?_⟩;cases hk : kEq k k' with
  | false=>rw [hk] at h;cases h
  | true=>
   rw [hk] at h;simp only [cond_true] at h;cases op <;> simp only [X0,Option.some.injEq,reduceCtorEq] at h <;> first | (subst h;rfl) | cases h
 ·refine ⟨rfl,rfl,?_⟩;cases op <;> simp only [Qdv,Option.some.injEq,reduceCtorEq] at h <;> first | (subst h;rfl) | cases h
 ·cases h
theorem QwT {op : BinOp} {t t' : TypeId} {x y : Operand} {a b v : Value} (ho : o.op = .binOp op t x y t') (hs : SR ρ L L') (hx : opd L x = some a) (hy : opd L y = some b) (h : ZG P op t a b = some v) : ∃ u,OpP P o L' u ∧ den ρ v = some u:=by
 unfold ZG at h;split at h
 ·rename_i v' hp;injection h with h
  subst h;obtain ⟨h1,h2,h3⟩:=Qie hp;exact ⟨_,ZX (by rw [ho];simp only [Qa0,Qj hs hx h1,Qj hs hy h2];exact hp),QaE h3 ρ⟩
 ·split at h
  ·rename_i x' y' _;cases ht : Qcn P t with
   | false=>rw [ht] at h;cases h
   | true=>
    rw [ht] at h;injection h with h
    subst h;exact ⟨_,Qgo ho (Qj hs hx rfl) (Qj hs hy rfl) (Qgd ht),rfl⟩
  ·rename_i x' y' _;cases ht : Qcn P t with
   | false=>rw [ht] at h;cases h
   | true=>
    rw [ht] at h;injection h with h
    subst h;exact ⟨_,Qkk ho (Qj hs hx rfl) (Qj hs hy rfl) (Qgd ht),rfl⟩
  ·rename_i p l1 c1 l2 c2 _;cases ht : Xs P t with
   | false=>rw [ht] at h;cases h
   | true=>
    rw [ht] at h;injection h with h
    subst h;obtain ⟨e,he⟩:=X1 ht;have hy':=Qj hs hy rfl;rcases p with _ | ⟨n,i,_ | q⟩
    ·exact ⟨_,ZA ho (Qj hs hx rfl) hy' he,rfl⟩
    ·obtain ⟨b9,d9,_,hx'⟩:=Ya hs hx;exact ⟨_,ZA ho hx' hy' he,rfl⟩
    ·obtain ⟨b9,d9,_,hx'⟩:=YB hs hx;exact ⟨_,ZA ho hx' hy' he,rfl⟩
  ·rename_i p l1 c1 l2 c2 _;cases ht : Xs P t with
   | false=>rw [ht] at h;cases h
   | true=>
    rw [ht] at h;injection h with h
    subst h;obtain ⟨e,he⟩:=X1 ht;have hy':=Qj hs hy rfl;rcases p with _ | ⟨n,i,_ | q⟩
    ·exact ⟨_,ZF ho (Qj hs hx rfl) hy' he,rfl⟩
    ·obtain ⟨b9,d9,_,hx'⟩:=Ya hs hx;exact ⟨_,ZF ho hx' hy' he,rfl⟩
    ·obtain ⟨b9,d9,_,hx'⟩:=YB hs hx;exact ⟨_,ZF ho hx' hy' he,rfl⟩
  ·rename_i xs ys _;split at h
   ·rename_i b hb;injection h with h
    subst h;obtain ⟨ks,k1,k2,k3,k4,k5,k6⟩:=Qg4 hb;obtain ⟨l1,m1,n1⟩:=QcF hs hx;obtain ⟨l2,m2,n2⟩:=QcF hs hy;rw [QbZ k4] at m1;rw [QbZ k5] at m2;injection m1 with m1
    injection m2 with m2
    subst m1 m2;exact ⟨_,QnG ho n1 n2 k1 k2 k3 k6,rfl⟩
   ·cases h
  ·rename_i xs ys _;split at h
   ·rename_i b hb;injection h with h
    subst h;obtain ⟨ks,k1,k2,k3,k4,k5,k6⟩:=Qg4 hb;obtain ⟨l1,m1,n1⟩:=QcF hs hx;obtain ⟨l2,m2,n2⟩:=QcF hs hy;rw [QbZ k4] at m1;rw [QbZ k5] at m2;injection m1 with m1
    injection m2 with m2
    subst m1 m2;exact ⟨_,QgG ho n1 n2 k1 k2 k3 k6,rfl⟩
   ·cases h
  ·cases hk : QcJ P t with
   | false=>rw [hk] at h;cases h
   | true=>
    rw [hk] at h;injection h with h
    subst h;obtain ⟨te,ht⟩:=Qdn hk;exact ⟨_,QgU ho (Qj hs hx rfl) (Qj hs hy rfl) ht,rfl⟩
  ·cases hk : QcJ P t with
   | false=>rw [hk] at h;cases h
   | true=>
    rw [hk] at h;injection h with h
    subst h;obtain ⟨te,ht⟩:=Qdn hk;obtain ⟨b9,d9,_,hx'⟩:=QdN hs hx;exact ⟨_,QgU ho hx' (Qj hs hy rfl) ht,rfl⟩
  ·cases hk : QcJ P t with
   | false=>rw [hk] at h;cases h
   | true=>
    rw [hk] at h;injection h with h
    subst h;obtain ⟨te,ht⟩:=Qdn hk;exact ⟨_,QbQ ho (Qj hs hx rfl) (Qj hs hy rfl) ht,rfl⟩
  ·cases hk : QcJ P t with
   | false=>rw [hk] at h;cases h
   | true=>
    rw [hk] at h;injection h with h
    subst h;obtain ⟨te,ht⟩:=Qdn hk;obtain ⟨b9,d9,_,hx'⟩:=QdN hs hx;exact ⟨_,QbQ ho hx' (Qj hs hy rfl) ht,rfl⟩
  ·rename_i k x' k' y' _;cases hk : kEq k k' && !decide (y' = 0) with
   | false=>rw [hk] at h;cases h
   | true=>
    rw [hk] at h;injection h with h
    subst h;simp only [Bool.and_eq_true,Bool.not_eq_true',decide_eq_false_iff_not] at hk;obtain rfl:=Qcb hk.1;exact ⟨_,Qqq ho (Qj hs hx rfl) (Qj hs hy rfl) hk.2,rfl⟩
  ·rename_i k x' k' y' _;cases hk : kEq k k' && !decide (y' = 0) with
   | false=>rw [hk] at h;cases h
   | true=>
    rw [hk] at h;injection h with h
    subst h;simp only [Bool.and_eq_true,Bool.not_eq_true',decide_eq_false_iff_not] at hk;obtain rfl:=Qcb hk.1;exact ⟨_,Qpp ho (Qj hs hx rfl) (Qj hs hy rfl) hk.2,rfl⟩
  ·injection h with h
   subst h;exact ⟨_,Qhb ho (Qj hs hx rfl) (Qj hs hy rfl) (Int.natCast_nonneg _) _ rfl,rfl⟩
  ·injection h with h
   subst h;exact ⟨_,Qgt ho (Qj hs hx rfl) (Qj hs hy rfl) (Int.natCast_nonneg _) _ rfl,rfl⟩
  ·rename_i x' y' _;cases hk : Nat.ble (x'.length + y'.length) 9223372036854775807 with
   | false=>rw [hk] at h;cases h
   | true=>
    rw [hk] at h;injection h with h
    subst h;exact ⟨_,QV ho (Qj hs hx rfl) (Qj hs hy rfl) (Nat.le_of_ble_eq_true hk),rfl⟩
  ·cases h
end
end Ev
namespace Ev
open Go Go.RowKit
section
variable {ρ : Rho}
theorem Qqp {v u : Value} (h : XR ρ v = some u) : QZ ρ v = some u:=by
 cases v <;> first | exact h | (simp [XR] at h)
theorem Qbp {v u : Value} (h : QZ ρ v = some u) : Xy ρ v = some u:=by
 cases v <;> first | exact h | (simp [QZ,XR] at h)
theorem QcV {v u : Value} (h : Xy ρ v = some u) : den ρ v = some u:=by
 cases v <;> first | exact h | (simp [Xy,QZ,XR] at h)
def Qkj : Value → Bool
 | .agg _ | .tuple _ | .func _ _ _=>false
 | _=>true
theorem Qpl {v u : Value} (h : Qkj v = true) (e : den ρ v = some u) : XR ρ v = some u:=by
 cases v <;> first | exact e | (simp [Qkj] at h)
def lone : Value → Bool
 | .agg _ | .tuple _=>false
 | _=>true
theorem Qq2 {v u : Value} (h : lone v = true) (e : den ρ v = some u) : QZ ρ v = some u:=by
 cases v <;> first | exact e | (simp [lone] at h)
theorem Qc5 : ∀ {vs us : List Value},vs.all Qkj = true → Qy (den ρ) vs = some us → Qy (XR ρ) vs = some us
 | [],us,_,e=>by cases e;rfl
 | v :: vs,us,h,e=>by
  simp only [List.all_cons,Bool.and_eq_true] at h;simp only [Qy] at e ⊢;split at e
  ·rename_i b m h1 h2;rw [Qpl h.1 h1,Qc5 h.2 h2];exact e
  ·cases e
def ZJ : Value → Bool
 | .tuple _=>false
 | _=>true
theorem QhS {v u : Value} (h : ZJ v = true) (e : den ρ v = some u) : Qy (QZ ρ) v.cells.toList = some u.cells.toList:=by
 have one : ∀ {v u : Value},v.cells = #[v] → QZ ρ v = some u → u.cells = #[u] → Qy (QZ ρ) v.cells.toList = some u.cells.toList:=fun h1 h2 h3=>by
  rw [h1,h3];simp [Qy,h2]
 cases v with
 | tuple vs=>simp [ZJ] at h
 | agg cs=>
  simp only [den,Xy] at e;split at e
  ·rename_i l hl;injection e with e
   subst e
   simpa [Value.cells] using hl
  ·cases e
 | _=>
  refine one rfl e ?_;simp only [den,Xy,QZ,XR] at e
  first
   | (injection e with e;subst e;rfl)
   | (repeat' split at e) <;> first | (injection e with e;subst e;rfl) | cases e
end
section
variable {P : Program} {o : Oper} {ρ : Rho} {L : Env} {L' : Qe}
def QbE (P : Program) (src dst : TypeId) : Value → Option Value
 | .int k0 n=>match tki P src,tki P dst with
  | some k1,some k=>bif kEq k0 k1 then some (.int k (k.wrap n)) else none
  | _,_=>none
 | .string s=>bif Xk P src && Xk P dst then some (.string s) else none
 | _=>none
theorem Qux {src dst : TypeId} {x : Operand} {a v : Value} (ho : o.op = .convert src dst x) (hs : SR ρ L L') (hx : opd L x = some a) (h : QbE P src dst a = some v) : ∃ u,OpP P o L' u ∧ den ρ v = some u:=by
 unfold QbE at h;split at h
 ·rename_i k0 n;split at h
  ·rename_i k1 k h1 h2;cases hk : kEq k0 k1 with
   | false=>rw [hk] at h;cases h
   | true=>
    rw [hk] at h;injection h with h
    subst h;obtain rfl:=Qcb hk;exact ⟨_,Qo ho (Qj hs hx rfl) h1 h2,rfl⟩
  ·cases h
 ·cases hk : Xk P src && Xk P dst with
  | false=>rw [hk] at h;cases h
  | true=>
   rw [hk] at h;injection h with h
   subst h;simp only [Bool.and_eq_true] at hk;exact ⟨_,Qkd ho (Qj hs hx rfl) (Yp hk.1) (Yp hk.2),rfl⟩
 ·cases h
theorem QmG {x : Operand} {i : Nat} {vs : Array Value} {v : Value} (ho : o.op = .extract x i) (hs : SR ρ L L') (hx : opd L x = some (.tuple vs)) (h : vs.toList[i]? = some v) : ∃ u,OpP P o L' u ∧ den ρ v = some u:=by
 obtain ⟨l,h1,h2⟩:=QmA hs hx;obtain ⟨u,h3,h4⟩:=QaS h1 h;exact ⟨u,ZX (by rw [ho];simp only [Qa0,h2];simpa using h3),QcV h4⟩
theorem Qkt {f : FuncId} {first cap : Array Operand} {a b : List Value} (ho : o.op = .makeFunc (.func f) first cap) (hs : SR ρ L L') (h1 : Qdc L first.toList = some a) (h2 : Qdc L cap.toList = some b) (ha : a.all Qkj = true) (hb : b.all Qkj = true) :
  ∃ u,OpP P o L' u ∧ den ρ (.func (.func f) a.toArray b.toArray) = some u:=by
 obtain ⟨a',e1,e2⟩:=Qen hs h1;obtain ⟨b',e3,e4⟩:=Qen hs h2;refine ⟨.func (.func f) a'.toArray b'.toArray,ZX (by rw [ho];simp only [Qa0,e1,e3]),?_⟩;simp only [den,Xy,QZ,QcT,List.toList_toArray,Qc5 ha e2,Qc5 hb e4]
theorem QtL {c a b : Operand} {t : Bool} {x y : Value} (ho : o.op = .pick c a b) (hs : SR ρ L L') (hc : opd L c = some (.bool t)) (ha : opd L a = some x) (hb : opd L b = some y) : ∃ u,OpP P o L' u ∧ den ρ (if t then x else y) = some u:=by
 obtain ⟨x',e1,e2⟩:=Y4 hs ha;obtain ⟨y',e3,e4⟩:=Y4 hs hb;refine ⟨if t then x' else y',ZX (by rw [ho];simp only [Qa0,Qj hs hc rfl,e1,e3,Qjy]),?_⟩;cases t
 ·exact e4
 ·exact e2
theorem Qq9 {x : Operand} {v : Value} (ho : o.op = .move x ∨ o.op = .assign x) (hs : SR ρ L L') (hx : opd L x = some v) : ∃ u,OpP P o L' u ∧ den ρ v = some u:=by
 obtain ⟨u,h1,h2⟩:=Y4 hs hx;refine ⟨u,ZX ?_,h2⟩;rcases ho with ho | ho <;> rw [ho] <;> exact h1
theorem un_R {op : UnOp} {t : TypeId} {x : Operand} {a v : Value} (ho : o.op = .unOp op t x) (hs : SR ρ L L') (hx : opd L x = some a) (h : Qeu op a = some v) : ∃ u,OpP P o L' u ∧ den ρ v = some u:=by
 have hf : ZB a = true ∧ ZB v = true:=by
  unfold Qeu at h;split at h <;> first | (injection h with h;subst h;exact ⟨rfl,rfl⟩) | cases h
 exact ⟨v,ZX (by rw [ho];simp only [Qa0,Qj hs hx hf.1];exact h),QaE hf.2 ρ⟩
theorem QkG {x : Operand} {n i : Nat} (ho : o.op = .nilCheck x) (hs : SR ρ L L') (hx : opd L x = some (.pointer (some ⟨n,i,none⟩))) : ∃ u,OpP P o L' u ∧ den ρ (.pointer (some ⟨n,i,none⟩)) = some u:=by
 obtain ⟨b,d,h1,h2⟩:=QdN hs hx;exact ⟨.pointer (some ⟨b,i,none⟩),ZX (by rw [ho];simp only [Qa0,h2]),by simp only [den,Xy,QZ,XR,h1]⟩
theorem Qi9 {x : Operand} {f : FuncId} {a b : Array Value} (ho : o.op = .nilCheck x) (hs : SR ρ L L') (hx : opd L x = some (.func (.func f) a b)) : ∃ u,OpP P o L' u ∧ den ρ (.func (.func f) a b) = some u:=by
 obtain ⟨u,h1,h2⟩:=Y4 hs hx;have h2':=h2;simp only [den,Xy,QZ,QcT] at h2;split at h2
 ·rename_i f' a' b' e1 e2 e3;injection e1 with e1
  subst e1;injection h2 with h2
  subst h2;exact ⟨_,ZX (by rw [ho];simp only [Qa0,h1]),h2'⟩
 ·cases h2
theorem QsJ {st f off ft n : Nat} {x : Operand} {cs : Array Value} {v : Value} {ag : Bool} (ho : o.op = .field st x f) (hs : SR ρ L L') (hx : opd L x = some (.agg cs)) (hf : tfd P st f = some (off,ft)) (hz : tsz P ft = some (n,ag))
  (h : (if ag then some (.agg (cut cs.toList off n).toArray) else cs.toList[off]?) = some v) : ∃ u,OpP P o L' u ∧ den ρ v = some u:=by
 obtain ⟨l,h1,h2⟩:=QcF hs hx;cases ag with
 | true=>
  simp only [if_true,Option.some.injEq] at h;subst h;refine ⟨_,QoR ho h2 hf hz,?_⟩;simp only [den,Xy,List.toList_toArray,cut,XT n (YG off h1)]
 | false=>
  have h' : cs.toList[off]? = some v:=by simpa using h
  obtain ⟨u,e1,e2⟩:=QaS h1 h';exact ⟨u,Qjw ho h2 hf hz e1,QcV (Qbp e2)⟩
theorem Qsi {t e sz len n : Nat} {x y : Operand} {cs : Array Value} {j : Nat} {v : Value} {ag : Bool} (ho : o.op = .index t x y) (hs : SR ρ L L') (hx : opd L x = some (.agg cs)) (hy : vN (opd L y) = some j) (ht : tar P t = some (len,e,sz)) (hz : tsz P e = some (n,ag)) (hlt : j < len)
  (h : (if ag then some (.agg (cut cs.toList (j * sz) n).toArray) else cs.toList[j * sz]?) = some v) : ∃ u,OpP P o L' u ∧ den ρ v = some u:=by
 obtain ⟨l,h1,h2⟩:=QcF hs hx;obtain ⟨k,hk⟩:=Y3 hy;have hy':=Qj hs hk rfl;cases ag with
 | true=>
  simp only [if_true,Option.some.injEq] at h;subst h;refine ⟨_,Qfx ho h2 hy' ht hz j rfl hlt,?_⟩;simp only [den,Xy,List.toList_toArray,cut,XT n (YG (j * sz) h1)]
 | false=>
  have h' : cs.toList[j * sz]? = some v:=by simpa using h
  obtain ⟨u,e1,e2⟩:=QaS h1 h';exact ⟨u,QqY ho h2 hy' ht hz j rfl hlt e1,QcV (Qbp e2)⟩
theorem Qok {t : TypeId} {x y : Operand} {l : List UInt8} {j : Nat} (ho : o.op = .index t x y) (hs : SR ρ L L') (hx : opd L x = some (.string ⟨⟨l⟩⟩)) (hy : vN (opd L y) = some j) (h : Xk P t = true) (hlt : j < l.length) : ∃ u,OpP P o L' u ∧ den ρ (.int .u8 ((l.getD j 0).toNat : Int)) = some u:=by
 obtain ⟨k,hk⟩:=Y3 hy;exact ⟨_,Xv ho (Qj hs hx rfl) (Qj hs hk rfl) (Yp h) j rfl hlt,rfl⟩
def loN (L : Env) : Option Operand → Option Nat
 | none=>some 0
 | some y=>vN (opd L y)
def hiN (L : Env) (n : Nat) : Option Operand → Option Nat
 | none=>some n
 | some y=>vN (opd L y)
theorem QeE {lo : Option Operand} {a : Nat} (hs : SR ρ L L') (h : loN L lo = some a) : Qpx L' lo a:=by
 cases lo with
 | none=>injection h with h;exact h.symm
 | some y=>
  obtain ⟨k,hk⟩:=Y3 h;exact ⟨k,_,Qj hs hk rfl,rfl⟩
theorem QiD {hi : Option Operand} {n b : Nat} (hs : SR ρ L L') (h : hiN L n hi = some b) : Qr0 L' hi n b:=by
 cases hi with
 | none=>injection h with h;exact h.symm
 | some y=>
  obtain ⟨k,hk⟩:=Y3 h;exact ⟨k,_,Qj hs hk rfl,rfl⟩
theorem Qn4 {t : TypeId} {x : Operand} {l : List UInt8} {lo hi : Option Operand} {a b : Nat} (ho : o.op = .slice t x lo hi none) (hs : SR ρ L L') (hx : opd L x = some (.string ⟨⟨l⟩⟩)) (h : Xk P t = true) (hlo : loN L lo = some a) (hhi : hiN L l.length hi = some b) (hab : a ≤ b) (hbl : b ≤ l.length) :
  ∃ u,OpP P o L' u ∧ den ρ (.string (bs ((l.take b).drop a))) = some u:=
 ⟨_,Xu lo hi a b ho (Qj hs hx rfl) (Yp h) (QeE hs hlo) (QiD hs hhi) hab hbl,rfl⟩
theorem QhW {b o cap i sz : Nat} (h : i < cap) : XX (some ⟨b,o,none⟩) cap i sz = some ⟨b,o + i * sz,none⟩:=by
 unfold XX;rw [if_neg (by omega)];simp only [Option.map_some,Addr.add];split
 ·rename_i h0;rw [h0,Nat.add_zero]
 ·rfl
theorem QtU {b o cap sz : Nat} : XX (some ⟨b,o,none⟩) cap 0 sz = some ⟨b,o,none⟩:=by
 unfold XX;split
 ·rfl
 ·simp [Addr.add]
theorem Qsz {t e sz by' n of l c : Nat} {x : Operand} {lo hi : Option Operand} {i j : Nat} (ho : o.op = .slice t x lo hi none) (hs : SR ρ L L') (hx : opd L x = some (.slice (some ⟨n,of,none⟩) l c)) (ht : tsl P t = some (e,sz,by')) (hlo : loN L lo = some i) (hhi : hiN L l hi = some j) (hij : i ≤ j) (hj : j ≤ c) (h : i = 0 ∨ i < c) :
  ∃ u,OpP P o L' u ∧ den ρ (.slice (some ⟨n,of + i * sz,none⟩) (j - i) (c - i)) = some u:=by
 obtain ⟨b,d,h1,h2⟩:=Ya hs hx;have hp:=Qz lo hi i j ho h2 ht (QeE hs hlo) (QiD hs hhi) hij (by omega)
 have e : XX (some ⟨b,of,none⟩) (c + d) i sz = some ⟨b,of + i * sz,none⟩:=by
  rcases h with rfl | h
  ·rw [QtU,Nat.zero_mul,Nat.add_zero]
  ·exact QhW (by omega)
 rw [e,show c + d - i = c - i + d by omega] at hp;exact ⟨_,hp,by simp only [den,Xy,QZ,XR,h1]⟩
theorem Qo9 {t e sz by' n of l c : Nat} {x : Operand} {lo hi : Option Operand} (ho : o.op = .slice t x lo hi none) (hs : SR ρ L L') (hx : opd L x = some (.slice (some ⟨n,of,none⟩) l c)) (ht : tsl P t = some (e,sz,by')) (hlo : loN L lo = some c) (hhi : hiN L l hi = some c) :
  ∃ u,OpP P o L' u ∧ den ρ (.pointer (some ⟨n,of,some (c * sz)⟩)) = some u:=by
 obtain ⟨b,d,h1,h2⟩:=Ya hs hx;have hp:=Qz lo hi c c ho h2 ht (QeE hs hlo) (QiD hs hhi) (Nat.le_refl _) (by omega)
 have e : XX (some ⟨b,of,none⟩) (c + d) c sz = some ⟨b,(if d = 0 then of else of + c * sz),none⟩:=by
  by_cases h : d = 0
  ·rw [if_pos h,XX,if_pos (by omega)]
  ·rw [if_neg h];exact QhW (by omega)
 rw [e,Nat.sub_self,show c + d - c = d by omega] at hp;exact ⟨_,hp,by simp only [den,Xy,QZ,XR,h1]⟩
theorem Qoi {t e sz by' n of l c q : Nat} {x : Operand} {lo hi : Option Operand} {i j : Nat} (ho : o.op = .slice t x lo hi none) (hs : SR ρ L L') (hx : opd L x = some (.slice (some ⟨n,of,some q⟩) l c)) (ht : tsl P t = some (e,sz,by')) (hlo : loN L lo = some i) (hhi : hiN L l hi = some j) (hij : i ≤ j) (hj : j ≤ c) :
  ∃ u,OpP P o L' u ∧ den ρ (.slice (some ⟨n,(if c = i then of else of + i * sz),some q⟩) (j - i) (c - i)) = some u:=by
 obtain ⟨b,d,h1,h2⟩:=YB hs hx;have hp:=Qz lo hi i j ho h2 ht (QeE hs hlo) (QiD hs hhi) hij hj
 have e : XX (some ⟨b,of,none⟩) c i sz = some ⟨b,(if c = i then of else of + i * sz),none⟩:=by
  by_cases hc : c = i
  ·rw [if_pos hc,XX,if_pos hc]
  ·rw [if_neg hc];exact QhW (by omega)
 rw [e] at hp;exact ⟨_,hp,by simp only [den,Xy,QZ,XR,h1]⟩
theorem Qo1 {t e sz by' l c : Nat} {x : Operand} {lo hi : Option Operand} {i j : Nat} (ho : o.op = .slice t x lo hi none) (hs : SR ρ L L') (hx : opd L x = some (.slice none l c)) (ht : tsl P t = some (e,sz,by')) (hlo : loN L lo = some i) (hhi : hiN L l hi = some j) (hij : i ≤ j) (hj : j ≤ c) :
  ∃ u,OpP P o L' u ∧ den ρ (.slice none (j - i) (c - i)) = some u:=by
 have hp:=Qz lo hi i j ho (Qj hs hx rfl) ht (QeE hs hlo) (QiD hs hhi) hij hj;have e : XX none c i sz = none:=by unfold XX;split <;> rfl
 rw [e] at hp;exact ⟨_,hp,rfl⟩
theorem QfF {t e sz by' : Nat} {x hi mx : Operand} {a : Option Addr} {n cap : Nat} (lo : Option Operand) {L : Qe} {k2 k3 : IntKind} (i j m : Nat) (ho : o.op = .slice t x lo (some hi) (some mx)) (hx : ev L x = some (.slice a n cap)) (hl : Qpx L lo i) (hh : ev L hi = some (.int k2 (j : Int))) (hm : ev L mx = some (.int k3 (m : Int))) (ht : tsl P t = some (e,sz,by')) (hij : i ≤ j) (hjm : j ≤ m) (hmc : m ≤ cap) :
  OpP P o L (.slice (XX a m i sz) (j - i) (m - i)):=by
 cases lo with
 | some lo=>
  obtain ⟨k1,i1,h1,h2⟩:=hl;exact Qom i j m ho hx h1 hh hm ht h2 rfl rfl hij hjm hmc
 | none=>
  have hi0 : i = 0:=hl;subst hi0;intro ρ w hρ;obtain ⟨hu,inf,h1,h2,_⟩:=Q8 ht;simp [execOp,ho,hρ _ _ hx,hρ _ _ hh,hρ _ _ hm,Instr.sliceAt,Instr.slice,Instr.sliceBounds,Instr.sliceBound,asIntOf,run_underlying hu,hjm,hmc,Go.sizeOf,typeInfo,h1,h2,XX]
theorem QoO {b of m i sz : Nat} : XX (some ⟨b,of,none⟩) m i sz = some ⟨b,(if m = i then of else of + i * sz),none⟩:=by
 by_cases h : m = i
 ·rw [if_pos h,XX,if_pos h]
 ·rw [if_neg h];unfold XX;rw [if_neg h];simp only [Option.map_some,Addr.add];split
  ·rename_i h0;rw [h0,Nat.add_zero]
  ·rfl
theorem Qqe {t e sz by' n of l c : Nat} {q : Option Nat} {x hi mx : Operand} {lo : Option Operand} {i j m : Nat} (ho : o.op = .slice t x lo (some hi) (some mx)) (hs : SR ρ L L') (hx : opd L x = some (.slice (some ⟨n,of,q⟩) l c)) (ht : tsl P t = some (e,sz,by')) (hlo : loN L lo = some i) (hhi : vN (opd L hi) = some j) (hmx : vN (opd L mx) = some m) (hij : i ≤ j) (hjm : j ≤ m) (hmc : m ≤ c) :
  ∃ u,OpP P o L' u ∧ den ρ (.slice (some ⟨n,(if m = i then of else of + i * sz),some 0⟩) (j - i) (m - i)) = some u:=by
 obtain ⟨k2,hk2⟩:=Y3 hhi;obtain ⟨k3,hk3⟩:=Y3 hmx;have g2:=Qj hs hk2 rfl;have g3:=Qj hs hk3 rfl;cases q with
 | none=>
  obtain ⟨b,d,h1,h2⟩:=Ya hs hx;have hp:=QfF lo i j m ho h2 (QeE hs hlo) g2 g3 ht hij hjm (by omega);rw [QoO] at hp;exact ⟨_,hp,by simp only [den,Xy,QZ,XR,h1]⟩
 | some q=>
  obtain ⟨b,d,h1,h2⟩:=YB hs hx;have hp:=QfF lo i j m ho h2 (QeE hs hlo) g2 g3 ht hij hjm hmc;rw [QoO] at hp;exact ⟨_,hp,by simp only [den,Xy,QZ,XR,h1]⟩
theorem Qnt {t e sz by' l c : Nat} {x hi mx : Operand} {lo : Option Operand} {i j m : Nat} (ho : o.op = .slice t x lo (some hi) (some mx)) (hs : SR ρ L L') (hx : opd L x = some (.slice none l c)) (ht : tsl P t = some (e,sz,by')) (hlo : loN L lo = some i) (hhi : vN (opd L hi) = some j) (hmx : vN (opd L mx) = some m) (hij : i ≤ j) (hjm : j ≤ m) (hmc : m ≤ c) :
  ∃ u,OpP P o L' u ∧ den ρ (.slice none (j - i) (m - i)) = some u:=by
 obtain ⟨k2,hk2⟩:=Y3 hhi;obtain ⟨k3,hk3⟩:=Y3 hmx;have hp:=QfF lo i j m ho (Qj hs hx rfl) (QeE hs hlo) (Qj hs hk2 rfl) (Qj hs hk3 rfl) ht hij hjm hmc;have e : XX none m i sz = none:=by unfold XX;split <;> rfl
 rw [e] at hp;exact ⟨_,hp,rfl⟩
theorem Qka {st f off ft sz : Nat} {x : Operand} {n i : Nat} {ag : Bool} (ho : o.op = .fieldAddr st x f) (hs : SR ρ L L') (hx : opd L x = some (.pointer (some ⟨n,i,none⟩))) (hf : tfd P st f = some (off,ft)) (hz : tsz P ft = some (sz,ag)) (h0 : Nat.blt 0 sz = true) :
  ∃ u,OpP P o L' u ∧ den ρ (.pointer (some ⟨n,i + off,none⟩)) = some u:=by
 obtain ⟨b,d,h1,h2⟩:=QdN hs hx;exact ⟨_,Qal ho h2 hf hz h0,by simp only [den,Xy,QZ,XR,h1]⟩
theorem Qi8 {t e sz by' n of l c j : Nat} {x y : Operand} (ho : o.op = .indexAddr t x y) (hs : SR ρ L L') (hx : opd L x = some (.slice (some ⟨n,of,none⟩) l c)) (hy : vN (opd L y) = some j) (ht : tsl P t = some (e,sz,by')) (hlt : j < l) :
  ∃ u,OpP P o L' u ∧ den ρ (.pointer (some ⟨n,of + j * sz,none⟩)) = some u:=by
 obtain ⟨b,d,h1,h2⟩:=Ya hs hx;obtain ⟨k,hk⟩:=Y3 hy;exact ⟨_,Qc ho h2 (Qj hs hk rfl) ht j rfl hlt rfl,by simp only [den,Xy,QZ,XR,h1]⟩
theorem QhE {t e sz by' n of l c j q : Nat} {x y : Operand} (ho : o.op = .indexAddr t x y) (hs : SR ρ L L') (hx : opd L x = some (.slice (some ⟨n,of,some q⟩) l c)) (hy : vN (opd L y) = some j) (ht : tsl P t = some (e,sz,by')) (hlt : j < l) :
  ∃ u,OpP P o L' u ∧ den ρ (.pointer (some ⟨n,of + j * sz,none⟩)) = some u:=by
 obtain ⟨b,d,h1,h2⟩:=YB hs hx;obtain ⟨k,hk⟩:=Y3 hy;exact ⟨_,Qc ho h2 (Qj hs hk rfl) ht j rfl hlt rfl,by simp only [den,Xy,QZ,XR,h1]⟩
theorem Qhk {t e sz len n i j : Nat} {x y : Operand} (ho : o.op = .indexAddr t x y) (hs : SR ρ L L') (hx : opd L x = some (.pointer (some ⟨n,i,none⟩))) (hy : vN (opd L y) = some j) (ht : tar P t = some (len,e,sz)) (hlt : j < len) :
  ∃ u,OpP P o L' u ∧ den ρ (.pointer (some ⟨n,i + j * sz,none⟩)) = some u:=by
 obtain ⟨b,d,h1,h2⟩:=QdN hs hx;obtain ⟨k,hk⟩:=Y3 hy;exact ⟨_,Qe0 ho h2 (Qj hs hk rfl) ht j rfl hlt,by simp only [den,Xy,QZ,XR,h1]⟩
def Qd7 (L : Env) : List (Nat × Operand) → Option (List (Nat × Value))
 | []=>some []
 | (i,x) :: r=>match opd L x,Qd7 L r with
  | some v,some vs=>bif ZJ v then some ((i,v) :: vs) else none
  | _,_=>none
def PR (ρ : Rho) : List (Nat × Value) → List (Nat × Value) → Prop
 | [],[]=>True
 | (i,v) :: l,(j,u) :: m=>i = j ∧ ZJ v = true ∧ den ρ v = some u ∧ PR ρ l m
 | _,_=>False
theorem Qe8 (hs : SR ρ L L') : ∀ {l : List (Nat × Operand)} {vs : List (Nat × Value)},Qd7 L l = some vs → ∃ us,Qaf L' l = some us ∧ PR ρ vs us
 | [],vs,h=>by cases h;exact ⟨[],rfl,trivial⟩
 | (i,x) :: r,vs,h=>by
  simp only [Qd7] at h;split at h
  ·rename_i v vs' h1 h2;cases hn : ZJ v with
   | false=>rw [hn] at h;cases h
   | true=>
    rw [hn] at h;injection h with h
    subst h;obtain ⟨u,e1,e2⟩:=Y4 hs h1;obtain ⟨us,e3,e4⟩:=Qe8 hs h2;exact ⟨(i,u) :: us,by simp only [Qaf,e1,e3],rfl,hn,e2,e4⟩
  ·cases h
theorem Yj : ∀ {vs us cs ds : List Value} (i : Nat),Qy (QZ ρ) cs = some ds → Qy (QZ ρ) vs = some us → Qy (QZ ρ) (Qh cs i vs) = some (Qh ds i us)
 | [],us,cs,ds,i,h,e=>by cases e;exact h
 | v :: vs,us,cs,ds,i,h,e=>by
  simp only [Qy] at e;split at e
  ·rename_i b m h1 h2;injection e with e
   subst e;exact Yj (i + 1) (QjI i h h1) h2
  ·cases e
theorem Qe5 {pl : Nat → Option (Nat × Nat)} : ∀ {vs us : List (Nat × Value)} {cs ds rs : List Value},PR ρ vs us → Qy (QZ ρ) cs = some ds → Zx pl cs vs = some rs → ∃ ts,Zx pl ds us = some ts ∧ Qy (QZ ρ) rs = some ts
 | [],[],cs,ds,rs,_,h,e=>by cases e;exact ⟨ds,rfl,h⟩
 | (i,v) :: vs,(j,u) :: us,cs,ds,rs,hp,h,e=>by
  obtain ⟨rfl,h1,h2,h3⟩:=hp;have hc:=QhS h1 h2;have hl:=Xg hc;have hl2:=Xg h;simp only [Zx] at e ⊢;split at e
  ·cases e
  ·rename_i off size hpl;cases hb : Nat.beq v.cells.toList.length size && Nat.ble (off + v.cells.toList.length) cs.length with
   | false=>rw [hb] at e;cases e
   | true=>
    rw [hb] at e;simp only [hl,hl2,hb];exact Qe5 h3 (Yj off h hc) e
 | [],_ :: _,_,_,_,hp,_,_=>hp.elim
 | _ :: _,[],_,_,_,hp,_,_=>hp.elim
def Xr (l : List Value) : Bool:=l.all ZB
theorem X7 : ∀ {l : List Value},Xr l = true → Qy (QZ ρ) l = some l
 | [],_=>rfl
 | v :: l,h=>by
  simp only [Xr,List.all_cons,Bool.and_eq_true] at h
  have hv : QZ ρ v = some v:=by
   have:=QaE h.1 ρ
   have hl : lone v = true:=by
    have h1:=h.1;unfold ZB at h1;unfold lone;split at h1 <;> first | rfl | cases h1
   exact Qq2 hl this
  simp only [Qy,hv,X7 (l:=l) h.2]
theorem Qru {t : TypeId} {parts : Array (Nat × Operand)} {vs : List (Nat × Value)} {pl : List (Nat × Nat)} {z cs : List Value} (ho : o.op = .build t parts) (hs : SR ρ L L') (hp : Qd7 L parts.toList = some vs) (hpl : Zl P t = some pl) (hz : QO P t = some z) (hf : Xr z = true)
  (hc : Zx (fun i=>pl[i]?) z vs = some cs) : ∃ u,OpP P o L' u ∧ den ρ (.agg cs.toArray) = some u:=by
 obtain ⟨us,e1,e2⟩:=Qe8 hs hp;obtain ⟨ts,e3,e4⟩:=Qe5 e2 (X7 hf) hc;exact ⟨_,Xq ho e1 hpl hz e3,by simp only [den,Xy,List.toList_toArray,e4]⟩
theorem Qp5 {t e sz len : Nat} {parts : Array (Nat × Operand)} {vs : List (Nat × Value)} {z cs : List Value} (ho : o.op = .build t parts) (hs : SR ρ L L') (hp : Qd7 L parts.toList = some vs) (ht : tar P t = some (len,e,sz)) (hz : QO P t = some z) (hf : Xr z = true)
  (hc : Zx (fun i=>some (i * sz,sz)) z vs = some cs) : ∃ u,OpP P o L' u ∧ den ρ (.agg cs.toArray) = some u:=by
 obtain ⟨us,e1,e2⟩:=Qe8 hs hp;obtain ⟨ts,e3,e4⟩:=Qe5 e2 (X7 hf) hc;exact ⟨_,QeP ho e1 ht hz e3,by simp only [den,Xy,List.toList_toArray,e4]⟩
end
end Ev
namespace Ev
inductive Tr (α : Type) where
 | lf
 | nd (l r : Tr α)
 | vd (l : Tr α) (k : Nat) (v : α) (r : Tr α)
noncomputable def Qqk (f : Nat) : Nat → List Bool:=
 Nat.rec (fun _=>[]) (fun _ ih k=>Bool.rec (Nat.beq (Nat.mod k 2) 0 :: ih (Nat.div (Nat.sub k 1) 2)) [] (Nat.beq k 0)) f
noncomputable def pth (k : Nat) : List Bool:=Qqk k k
def QuK : List Bool → Nat
 | []=>0
 | b :: p=>2 * QuK p + (if b then 2 else 1)
theorem Qer : ∀ (f k : Nat),k ≤ f → QuK (Qqk f k) = k
 | 0,k,h=>by
  have : k = 0:=by omega
  subst this;rfl
 | f + 1,k,h=>by
  have hu : Qqk (f + 1) k = (Bool.rec (Nat.beq (Nat.mod k 2) 0 :: Qqk f (Nat.div (Nat.sub k 1) 2)) [] (Nat.beq k 0) : List Bool):=rfl;rw [hu];cases hk : Nat.beq k 0 with
  | true=>exact (Nat.eq_of_beq_eq_true hk).symm
  | false=>
   have h0 : k ≠ 0:=fun e=>by subst e;cases hk
   have ih:=Qer f ((k - 1) / 2) (by omega);show 2 * QuK (Qqk f ((k - 1) / 2)) + (if Nat.beq (k % 2) 0 = true then 2 else 1) = k;rw [ih];cases hm : Nat.beq (k % 2) 0 with
   | true=>
    have:=Nat.eq_of_beq_eq_true hm;simp;omega
   | false=>
    have : k % 2 ≠ 0:=fun e=>by rw [e] at hm;cases hm
    simp;omega
theorem QlV {a b : Nat} (h : pth a = pth b) : a = b:=by
 have h1:=Qer a a (Nat.le_refl _);have h2:=Qer b b (Nat.le_refl _);unfold pth at h;rw [h,h2] at h1;exact h1.symm
section
variable {α : Type}
noncomputable def YL (p : List Bool) : Nat → Tr α → Option α:=
 List.rec (fun t T=>Tr.rec none (fun _ _ _ _=>none) (fun _ k v _ _ _=>Bool.rec none (some v) (Nat.beq k t)) T)
  (fun b _ ih t T=>Tr.rec none (fun l r _ _=>Bool.rec (ih t l) (ih t r) b) (fun l _ _ r _ _=>Bool.rec (ih t l) (ih t r) b) T) p
noncomputable def Yt (p : List Bool) : Nat → α → Tr α → Tr α:=
 List.rec (fun t v T=>Tr.rec (.vd .lf t v .lf) (fun l r _ _=>.vd l t v r) (fun l _ _ r _ _=>.vd l t v r) T)
  (fun b _ ih t v T=>Tr.rec (Bool.rec (.nd (ih t v .lf) .lf) (.nd .lf (ih t v .lf)) b) (fun l r _ _=>Bool.rec (.nd (ih t v l) r) (.nd l (ih t v r)) b) (fun l k x r _ _=>Bool.rec (.vd (ih t v l) k x r) (.vd l k x (ih t v r)) b) T) p
noncomputable def Qd8 (p : List Bool) : Tr α → Tr α:=
 List.rec (fun T=>Tr.rec .lf (fun l r _ _=>.nd l r) (fun l _ _ r _ _=>.nd l r) T)
  (fun b _ ih T=>Tr.rec .lf (fun l r _ _=>Bool.rec (.nd (ih l) r) (.nd l (ih r)) b) (fun l k x r _ _=>Bool.rec (.vd (ih l) k x r) (.vd l k x (ih r)) b) T) p
theorem Zc {p : List Bool} {t : Nat} : YL p t (.lf : Tr α) = none:=by cases p <;> rfl
theorem Zm (d : Nat) (v : α) : ∀ (p : List Bool) (T : Tr α),YL p d (Yt p d v T) = some v
 | [],T=>by
  have h : ∀ l r : Tr α,YL [] d (.vd l d v r) = some v:=fun l r=>by
   show (Bool.rec none (some v) (Nat.beq d d) : Option α) = some v;rw [Nat.beq_refl]
  cases T <;> exact h _ _
 | b :: p,T=>by
  cases T <;> cases b <;> exact Zm d v p _
theorem Y5 {t d : Nat} {v x : α} (hne : t ≠ d) : ∀ (p q : List Bool) (T : Tr α),YL p t (Yt q d v T) = some x → YL p t T = some x
 | [],[],T,h=>by
  have hd : ∀ l r : Tr α,YL [] t (.vd l d v r) = none:=fun l r=>by
   show (Bool.rec none (some v) (Nat.beq d t) : Option α) = none;cases hb : Nat.beq d t with
   | true=>exact absurd (Nat.eq_of_beq_eq_true hb).symm hne
   | false=>rfl
  cases T <;> exact absurd ((hd _ _).symm.trans h) (by simp)
 | [],c :: q,T,h=>by cases T <;> cases c <;> first | exact h | cases h
 | b :: p,[],T,h=>by
  cases T <;> cases b <;> first
   | exact h
   | (have h' : YL p t (.lf : Tr α) = some x:=h;rw [Zc] at h';cases h')
 | b :: p,c :: q,T,h=>by
  cases T <;> cases b <;> cases c <;> first
   | exact h
   | (have h' : YL p t (Yt q d v .lf) = some x:=h;have h2:=Y5 hne p q .lf h';rw [Zc] at h2;cases h2)
   | exact Y5 hne p q _ h
   | (have h' : YL p t (.lf : Tr α) = some x:=h;rw [Zc] at h';cases h')
theorem QcL {t d : Nat} {v : α} (hne : t ≠ d) : ∀ (p q : List Bool) (T : Tr α),p ≠ q → YL p t (Yt q d v T) = YL p t T
 | [],[],T,h=>absurd rfl h
 | [],c :: q,T,h=>by cases T <;> cases c <;> rfl
 | b :: p,[],T,h=>by
  have hl : YL p t (.lf : Tr α) = none:=Zc;cases T <;> cases b <;> first | rfl | exact hl
 | b :: p,c :: q,T,h=>by
  have hl : YL p t (.lf : Tr α) = none:=Zc;have ih:=fun T=>QcL (v:=v) hne p q T
  cases T <;> cases b <;> cases c <;> first
   | rfl
   | exact hl
   | exact (ih _ fun e=>h (by rw [e]))
   | exact ((ih .lf fun e=>h (by rw [e])).trans hl)
theorem Qat (d : Nat) : ∀ (p : List Bool) (T : Tr α),YL p d (Qd8 p T) = none
 | [],T=>by cases T <;> rfl
 | b :: p,T=>by cases T <;> cases b <;> first | rfl | exact Qat d p _
theorem Qgg {t : Nat} {x : α} : ∀ (p q : List Bool) (T : Tr α),YL p t (Qd8 q T) = some x → YL p t T = some x
 | [],[],T,h=>by cases T <;> first | exact h | cases h
 | [],c :: q,T,h=>by cases T <;> cases c <;> first | exact h | cases h
 | b :: p,[],T,h=>by cases T <;> cases b <;> first | exact h | cases h
 | b :: p,c :: q,T,h=>by
  cases T <;> cases b <;> cases c <;> first
   | exact h
   | exact Qgg p q _ h
   | cases h
theorem QcM {t : Nat} : ∀ (p q : List Bool) (T : Tr α),p ≠ q → YL p t (Qd8 q T) = YL p t T
 | [],[],T,h=>absurd rfl h
 | [],c :: q,T,h=>by cases T <;> cases c <;> rfl
 | b :: p,[],T,h=>by cases T <;> cases b <;> rfl
 | b :: p,c :: q,T,h=>by
  have ih:=fun T=>QcM (t:=t) p q T
  cases T <;> cases b <;> cases c <;> first
   | rfl
   | exact (ih _ fun e=>h (by rw [e]))
end
end Ev
namespace Ev
open Go Go.RowKit
structure HB where
 ty : Nat
 sz : Nat
 cs : List Value
inductive HX where
 | row (r : HB)
 | mp (ks : List Int)
abbrev Hp:=Tr HX
noncomputable def Ys (H : Hp) (n : Nat) : Option HX:=YL (pth n) n H
noncomputable def YO (H : Hp) (n : Nat) (y : HX) : Hp:=Yt (pth n) n y H
noncomputable def Yu (H : Hp) (n : Nat) : Option HB:=match Ys H n with
 | some (.row r)=>some r
 | _=>none
noncomputable def Qfz (H : Hp) (n : Nat) : Option (List Int):=match Ys H n with
 | some (.mp r)=>some r
 | _=>none
noncomputable def Yl (H : Hp) (n : Nat) (y : HB) : Hp:=YO H n (.row y)
noncomputable def Qia (H : Hp) (n : Nat) : Hp:=Qd8 (pth n) H
theorem Qdf {H : Hp} {n : Nat} {r : HB} (h : Yu H n = some r) : Ys H n = some (.row r):=by
 unfold Yu at h;split at h
 ·rename_i r' h';injection h with h
  rw [h',h]
 ·cases h
theorem QqM {H : Hp} {n : Nat} {r : List Int} (h : Qfz H n = some r) : Ys H n = some (.mp r):=by
 unfold Qfz at h;split at h
 ·rename_i r' h';injection h with h
  rw [h',h]
 ·cases h
theorem Qf8 {H : Hp} {n m : Nat} {y r : HX} (h : Ys (YO H n y) m = some r) : (m = n ∧ r = y) ∨ (m ≠ n ∧ Ys H m = some r):=by
 by_cases hm : m = n
 ·subst hm;unfold Ys YO at h;rw [Zm] at h;injection h with h
  exact .inl ⟨rfl,h.symm⟩
 ·exact .inr ⟨hm,Y5 hm _ _ _ h⟩
theorem QeR {H : Hp} {n m : Nat} {y : HX} (hm : m ≠ n) : Ys (YO H n y) m = Ys H m:=QcL hm _ _ _ fun e=>hm (QlV e)
theorem QbT {H : Hp} {n m : Nat} (hm : m ≠ n) : Ys (Qia H n) m = Ys H m:=QcM _ _ _ fun e=>hm (QlV e)
theorem QiJ {H : Hp} {n m : Nat} {r : HX} (h : Ys (Qia H n) m = some r) : m ≠ n ∧ Ys H m = some r:=by
 refine ⟨fun hm=>?_,Qgg _ _ _ h⟩;subst hm;unfold Ys Qia at h;rw [Qat] at h;cases h
def QcH : List (Nat × HX) → Nat → Option HX
 | [],_=>none
 | (k,x) :: H,n=>bif Nat.beq k n then some x else QcH H n
def QjJ : List (Nat × HX) → Nat → HX → List (Nat × HX)
 | [],_,_=>[]
 | (k,x) :: H,n,y=>bif Nat.beq k n then (k,y) :: H else (k,x) :: QjJ H n y
def QhK : List (Nat × HX) → Nat → List (Nat × HX)
 | [],_=>[]
 | (k,x) :: H,n=>bif Nat.beq k n then H else (k,x) :: QhK H n
def room (x : HB) (d : Nat) : Prop:=d = 0 ∨ x.cs.length + d * x.sz ≤ maxLen * x.sz
abbrev QjG : Int → Value:=fun n=>.int .i64 n
open Classical in
noncomputable def ha (ρ : Rho) (p : Nat × HX) : Option HA:=match p.2 with
 | .row x=>match ρ p.1,Qy (QZ ρ) x.cs with
  | some (b,d),some us=>if room x d then some (.blk b x.ty (us.length + d * x.sz) us) else none
  | _,_=>none
 | .mp ks=>match ρ p.1 with
  | some (b,0)=>some (.mp b QjG ks)
  | _=>none
theorem Qhw {ρ : Rho} {n : Nat} {x : HB} {A : HA} (h : ha ρ (n,.row x) = some A) : ∃ b d us,ρ n = some (b,d) ∧ Qy (QZ ρ) x.cs = some us ∧ room x d ∧ A = .blk b x.ty (us.length + d * x.sz) us:=by
 simp only [ha] at h;split at h
 ·rename_i b d us h1 h2;split at h
  ·rename_i h3;injection h with h
   exact ⟨b,d,us,h1,h2,h3,h.symm⟩
  ·cases h
 ·cases h
theorem Qlb {ρ : Rho} {n : Nat} {x : HB} {b d : Nat} {us : List Value} (h1 : ρ n = some (b,d)) (h2 : Qy (QZ ρ) x.cs = some us) (h3 : room x d) : ha ρ (n,.row x) = some (.blk b x.ty (us.length + d * x.sz) us):=by
 simp only [ha,h1,h2];rw [if_pos h3]
theorem QpJ {ρ : Rho} {n : Nat} {ks : List Int} {A : HA} (h : ha ρ (n,.mp ks) = some A) : ∃ b,ρ n = some (b,0) ∧ A = .mp b QjG ks:=by
 simp only [ha] at h;split at h
 ·rename_i b h1;injection h with h
  exact ⟨b,h1,h.symm⟩
 ·cases h
theorem Qpg {ρ : Rho} {p : Nat × HX} {A : HA} (h : ha ρ p = some A) : ∃ x,ρ p.1 = some x:=by
 obtain ⟨n,x⟩:=p;cases x with
 | row x=>obtain ⟨b,d,us,h1,_⟩:=Qhw h;exact ⟨_,h1⟩
 | mp ks=>obtain ⟨b,h1,_⟩:=QpJ h;exact ⟨_,h1⟩
theorem Qdw {ρ ρ' : Rho} (h : ρ.le ρ') (p : Nat × HX) (A : HA) (e : ha ρ p = some A) : ha ρ' p = some A:=by
 obtain ⟨n,x⟩:=p;cases x with
 | row x=>
  obtain ⟨b,d,us,h1,h2,h3,rfl⟩:=Qhw e;exact Qlb (h.1 _ _ h1) (Xl (Qcp h) h2) h3
 | mp ks=>
  obtain ⟨b,h1,rfl⟩:=QpJ e;simp only [ha,h.1 _ _ h1]
theorem Qc7 {k m : Nat} (h : m ≠ k) : Nat.beq k m = false:=by
 cases hz : Nat.beq k m with
 | false=>rfl
 | true=>exact absurd (Nat.eq_of_beq_eq_true hz).symm h
theorem QhN {ρ : Rho} {n : Nat} {x : HX} : ∀ {H : List (Nat × HX)} {As : List HA},Qy (ha ρ) H = some As → QcH H n = some x → ∃ A Rs,ha ρ (n,x) = some A ∧ QP As A Rs ∧
  (∀ (x' : HX) (A' : HA),ha ρ (n,x') = some A' → ∃ As2,Qy (ha ρ) (QjJ H n x') = some As2 ∧ (A' :: Rs).Perm As2 ∧ ∀ m,QcH (QjJ H n x') m = bif Nat.beq m n then some x' else QcH H m) ∧
  ∃ As3,Qy (ha ρ) (QhK H n) = some As3 ∧ Rs.Perm As3 ∧ ∀ m,m ≠ n → QcH (QhK H n) m = QcH H m
 | [],As,_,h=>by cases h
 | (k,y) :: H,As,e,h=>by
  simp only [Qy] at e;split at e
  ·rename_i A As' h1 h2;injection e with e
   subst e;simp only [QcH] at h;cases hb : Nat.beq k n with
   | true=>
    rw [hb] at h;injection h with h
    subst h;have hk:=Nat.eq_of_beq_eq_true hb;subst hk;refine ⟨A,As',h1,.here,fun x' A' e1=>⟨_,?_,.refl _,fun m=>?_⟩,As',?_,.refl _,fun m hm=>?_⟩
    ·simp only [QjJ,hb,cond_true,Qy,e1,h2]
    ·simp only [QjJ,hb,cond_true,QcH]
     by_cases hm : m = k
     ·subst hm;simp [Nat.beq_refl]
     ·simp [Qc7 hm,Qc7 (Ne.symm hm)]
    ·simp only [QhK,hb,cond_true,h2]
    ·simp only [QhK,hb,cond_true,QcH,Qc7 hm,cond_false]
   | false=>
    rw [hb] at h;obtain ⟨A0,Rs,g1,g4,g5,As3,g6,g7,g8⟩:=QhN h2 h;refine ⟨A0,A :: Rs,g1,g4.there,fun x' A' e1=>?_,A :: As3,?_,g7.cons _,fun m hm=>?_⟩
    ·obtain ⟨As2,e3,e4,e5⟩:=g5 x' A' e1;refine ⟨A :: As2,by simp only [QjJ,hb,cond_false,Qy,h1,e3],(List.Perm.swap ..).trans (e4.cons _),fun m=>?_⟩;simp only [QjJ,hb,cond_false,QcH,e5];cases hq : Nat.beq k m with
     | true=>
      have:=Nat.eq_of_beq_eq_true hq;subst this;simp [hb]
     | false=>rfl
    ·simp only [QhK,hb,cond_false,Qy,h1,g6]
    ·simp only [QhK,hb,cond_false,QcH,g8 m hm]
  ·cases e
def HM (ρ : Rho) (H : Hp) (As : List HA) : Prop:=∃ (G : List (Nat × HX)) (Bs : List HA),(∀ m r,Ys H m = some r → QcH G m = some r) ∧ Qy (ha ρ) G = some Bs ∧ As = Bs ++ ρ.ex
theorem HM.mono {ρ ρ' : Rho} (h : ρ.le ρ') {H : Hp} {As : List HA} : HM ρ H As → HM ρ' H As:=fun ⟨G,Bs,h1,h2,h3⟩=>⟨G,Bs,h1,Xl (Qdw h) h2,by rw [h.2];exact h3⟩
theorem HM.push {ρ : Rho} {H : Hp} {As : List HA} {n : Nat} {x : HX} {A : HA} (h : HM ρ H As) (hA : ha ρ (n,x) = some A) : HM ρ (YO H n x) (A :: As):=by
 obtain ⟨G,Bs,h1,h2,h3⟩:=h;refine ⟨(n,x) :: G,A :: Bs,fun m r hm=>?_,by simp only [Qy,hA,h2],by rw [h3];rfl⟩;simp only [QcH];rcases Qf8 hm with ⟨rfl,rfl⟩ | ⟨h3,h4⟩
 ·simp [Nat.beq_refl]
 ·rw [Qc7 h3];exact h1 m r h4
theorem Qvj {ρ : Rho} {n : Nat} {x : HX} {H : Hp} {As : List HA} (hH : HM ρ H As) (h : Ys H n = some x) : ∃ A Rs,ha ρ (n,x) = some A ∧ QP As A Rs ∧
  (∀ (x' : HX) (A' : HA),ha ρ (n,x') = some A' → ∃ As2,HM ρ (YO H n x') As2 ∧ (A' :: Rs).Perm As2) ∧
  ∃ As3,HM ρ (Qia H n) As3 ∧ Rs.Perm As3:=by
 obtain ⟨G,Bs,h1,h2,rfl⟩:=hH;obtain ⟨A,Rs,g1,g4,g5,As3,g6,g7,g8⟩:=QhN h2 (h1 _ _ h);refine ⟨A,Rs ++ ρ.ex,g1,g4.append_right _,fun x' A' e1=>?_,As3 ++ ρ.ex,⟨QhK G n,As3,fun m r hm=>?_,g6,rfl⟩,g7.append_right _⟩
 ·obtain ⟨As2,e3,e4,e5⟩:=g5 x' A' e1;refine ⟨As2 ++ ρ.ex,⟨QjJ G n x',As2,fun m r hm=>?_,e3,rfl⟩,e4.append_right _⟩;rw [e5];rcases Qf8 hm with ⟨rfl,rfl⟩ | ⟨h3,h4⟩
  ·simp [Nat.beq_refl]
  ·rw [Qc7 (Ne.symm h3)];exact h1 m r h4
 ·obtain ⟨h3,h4⟩:=QiJ hm;rw [g8 m h3];exact h1 m r h4
theorem Yg {ρ : Rho} {n : Nat} {x : HB} {H : Hp} {As : List HA} (hH : HM ρ H As) (h : Yu H n = some x) : ∃ b d us Rs,ρ n = some (b,d) ∧ Qy (QZ ρ) x.cs = some us ∧ room x d ∧ QP As (.blk b x.ty (us.length + d * x.sz) us) Rs ∧
  (∀ (x' : HB) (us' : List Value),Qy (QZ ρ) x'.cs = some us' → room x' d → ∃ As2,HM ρ (Yl H n x') As2 ∧ (HA.blk b x'.ty (us'.length + d * x'.sz) us' :: Rs).Perm As2) ∧
  ∃ As3,HM ρ (Qia H n) As3 ∧ Rs.Perm As3:=by
 obtain ⟨A,Rs,g1,g4,g5,g6⟩:=Qvj hH (Qdf h);obtain ⟨b,d,us,e1,e2,e3,rfl⟩:=Qhw g1;exact ⟨b,d,us,Rs,e1,e2,e3,g4,fun x' us' f1 f2=>g5 (.row x') _ (Qlb e1 f1 f2),g6⟩
theorem Qos {ρ : Rho} {n : Nat} {ks : List Int} {H : Hp} {As : List HA} (hH : HM ρ H As) (h : Qfz H n = some ks) : ∃ b Rs,ρ n = some (b,0) ∧ QP As (.mp b QjG ks) Rs ∧
  ∀ ks',∃ As2,HM ρ (YO H n (.mp ks')) As2 ∧ (HA.mp b QjG ks' :: Rs).Perm As2:=by
 obtain ⟨A,Rs,g1,g4,g5,g6⟩:=Qvj hH (QqM h);obtain ⟨b,e1,rfl⟩:=QpJ g1;exact ⟨b,Rs,e1,g4,fun ks'=>g5 (.mp ks') _ (by simp only [ha,e1])⟩
def QY (ρ : Rho) (n : Nat) : Prop:=∀ k,n ≤ k → ρ k = none
def ext (ρ : Rho) (n : Nat) (x : Nat × Nat) : Rho:=⟨fun k=>bif Nat.beq k n then some x else ρ k,ρ.ex⟩
theorem Qbd (ρ : Rho) (n : Nat) (x : Nat × Nat) : ext ρ n x n = some x:=by simp [ext,Nat.beq_refl]
theorem QfR {ρ : Rho} {n : Nat} (h : QY ρ n) (x : Nat × Nat) : ρ.le (ext ρ n x):=⟨fun k y hk=>by
 unfold ext;simp only [];cases hb : Nat.beq k n with
 | true=>
  have:=Nat.eq_of_beq_eq_true hb;subst this;rw [h k (Nat.le_refl _)] at hk;cases hk
 | false=>exact hk,rfl⟩
theorem QaM {ρ : Rho} {n : Nat} (h : QY ρ n) (x : Nat × Nat) : QY (ext ρ n x) (n + 1):=fun k hk=>by
 show (bif Nat.beq k n then some x else ρ k) = none;cases hb : Nat.beq k n with
 | true=>
  have:=Nat.eq_of_beq_eq_true hb;omega
 | false=>exact h k (by omega)
def Out (w0 : World) (ρ : Rho) (v : Value) (H' : Hp) (n' : Nat) (u : Value) (C : World → Prop) : Prop:=
 ∃ ρ' As',ρ.le ρ' ∧ QY ρ' n' ∧ den ρ' v = some u ∧ HM ρ' H' As' ∧ ∀ w,C w → HS w0 [] As' w
def OpT (P : Program) (o : Oper) (L' : Qe) (C : World → Prop) (K : Value → (World → Prop) → Prop) : Prop:=
 ∃ (G : Type) (V : G → Value) (F : G → Prop) (C' : G → World → Prop),OpH P o L' C V F C' ∧ ∀ g,F g → K (V g) (C' g)
section
variable {P : Program} {o : Oper} {L' : Qe} {w0 : World} {ρ : Rho} {L : Env} {H : Hp} {n : Nat} {As : List HA}
theorem OpT.of_p {v u : Value} (h : OpP P o L' u) (hd : den ρ v = some u) (hH : HM ρ H As) (hf : QY ρ n) : OpT P o L' (HS w0 [] As) (Out w0 ρ v H n):=
 ⟨Unit,_,_,_,(h.q (HS w0 [] As)).h (HS.stab _ _ _),fun _ _=>⟨ρ,As,ρ.le_refl,hf,hd,hH,fun _ h=>h⟩⟩
theorem OpT.of_q {v u : Value} (h : OpQ P o L' (HS w0 [] As) u) (hd : den ρ v = some u) (hH : HM ρ H As) (hf : QY ρ n) : OpT P o L' (HS w0 [] As) (Out w0 ρ v H n):=
 ⟨Unit,_,_,_,h.h (HS.stab _ _ _),fun _ _=>⟨ρ,As,ρ.le_refl,hf,hd,hH,fun _ h=>h⟩⟩
theorem Qbq {b d : Nat} {x : HB} {us : List Value} {v u : Value} {C : World → Prop} (hH : HM ρ H As) (hf : QY ρ n) (hc : Qy (QZ ρ) x.cs = some us) (hr : room x d) (hv : den (ext ρ n (b,d)) v = some u) (hC : ∀ w,C w → HS w0 [] (.blk b x.ty (us.length + d * x.sz) us :: As) w) : Out w0 ρ v (Yl H n x) (n + 1) u C:=by
 have hle:=QfR hf (b,d);refine ⟨ext ρ n (b,d),_,hle,QaM hf _,hv,?_,hC⟩;exact (HM.mono hle hH).push (Qlb (Qbd ρ n (b,d)) (Xl (Qcp hle) hc) hr)
theorem QvP {t x : Nat} {m i sz : Nat} {ag : Bool} {r : HB} {v : Value} (ho : o.op = .load t (.tmp x)) (hs : SR ρ L L') (hH : HM ρ H As) (hx : L x = some (.pointer (some ⟨m,i,none⟩))) (hg : Yu H m = some r) (hz : tsz P t = some (sz,ag))
  (h : (if ag then (bif Nat.ble (i + sz) r.cs.length then some (.agg (cut r.cs i sz).toArray) else none) else (bif Nat.beq sz 1 then r.cs[i]? else none)) = some v) : ∃ u,OpQ P o L' (HS w0 [] As) u ∧ den ρ v = some u:=by
 obtain ⟨b,d,us,Rs,g1,g2,g3,g4,_,_⟩:=Yg hH hg;obtain ⟨u,e1,e2⟩:=hs.get hx;simp only [den,Xy,QZ,XR,g1,Option.some.injEq] at e2;subst e2;cases ag with
 | true=>
  simp only [if_true] at h;cases hb : Nat.ble (i + sz) r.cs.length with
  | false=>rw [hb] at h;cases h
  | true=>
   rw [hb] at h;injection h with h
   subst h;refine ⟨_,Qfn ho e1 hz g4 (by rw [Xg g2];exact hb),?_⟩;simp only [den,Xy,List.toList_toArray,cut,XT sz (YG i g2)]
 | false=>
  cases hb : Nat.beq sz 1 with
  | false=>rw [hb] at h;simp at h
  | true=>
   rw [hb] at h;have hk:=Nat.eq_of_beq_eq_true hb;subst hk;have h' : r.cs[i]? = some v:=by simpa using h
   obtain ⟨u,e3,e4⟩:=QaS g2 h';exact ⟨u,YA ho e1 hz g4 e3,QcV (Qbp e4)⟩
theorem QnY {v u : Value} (e : XR ρ v = some u) : u.oneCell' = true:=by
 cases v <;> simp only [XR] at e <;> first
  | (injection e with e;subst e;rfl)
  | ((repeat' split at e) <;> first | (injection e with e;subst e;rfl) | cases e)
  | cases e
theorem Qqd {v u : Value} (e : QZ ρ v = some u) : u.oneCell' = true:=by
 cases v with
 | func f a b=>
  simp only [QZ] at e;split at e
  ·injection e with e;subst e;rfl
  ·cases e
 | _=>
  simp only [QZ] at e;exact QnY e
theorem YV {vs us : List Value} (h : Qy (QZ ρ) vs = some us) : us.all (·.oneCell') = true:=by
 refine List.all_eq_true.2 fun u hu=>?_;obtain ⟨a,_,e⟩:=Qja h hu;exact Qqd e
theorem Qsw {t x : Nat} {y : Operand} {m i sz : Nat} {ag : Bool} {r : HB} {v : Value} (ho : o.op = .store t (.tmp x) y) (hs : SR ρ L L') (hH : HM ρ H As) (hf : QY ρ n) (hx : L x = some (.pointer (some ⟨m,i,none⟩))) (hy : opd L y = some v) (hn : ZJ v = true) (hg : Yu H m = some r) (hz : tsz P t = some (sz,ag))
  (hl : v.cells.toList.length = sz) (hr : i + sz ≤ r.cs.length) : OpT P o L' (HS w0 [] As) (Out w0 ρ undef (Yl H m { r with cs:=Qh r.cs i v.cells.toList }) n):=by
 obtain ⟨b,d,us,Rs,g1,g2,g3,g4,g5,_⟩:=Yg hH hg;obtain ⟨p,e1,e2⟩:=hs.get hx;simp only [den,Xy,QZ,XR,g1,Option.some.injEq] at e2;subst e2;obtain ⟨u,e3,e4⟩:=Y4 hs hy;have hc:=QhS hn e4;have hlu:=Xg hc;have hl2:=Xg g2;have Yl:=Yj i g2 hc;obtain ⟨As2,g6,g7⟩:=g5 { r with cs:=Qh r.cs i v.cells.toList } _ Yl (by unfold room at *;simpa [Qk] using g3);have hS:=Qbt (w0:=w0) (M:=[]) (As:=As) (As':=.blk b r.ty (us.length + d * r.sz) (Qh us i u.cells.toList) :: Rs) (tot:=us.length + d * r.sz) ho e1 e3 hz (by rw [hlu];exact hl) ⟨Rs,g4,.refl _⟩ (by rw [hl2];exact hr) (YV hc);refine ⟨_,_,_,_,hS,fun _ _=>⟨ρ,As2,ρ.le_refl,hf,?_,g6,fun w hw=>?_⟩⟩
 ·rfl
 ·have : HS w0 [] (.blk b r.ty ((Qh us i u.cells.toList).length + d * r.sz) (Qh us i u.cells.toList) :: Rs) w:=by rw [Qk];exact hw
  exact this.perm g7
theorem Qh5 {m b d i : Nat} : den (ext ρ m (b,d)) (.pointer (some ⟨m,i,none⟩)) = some (.pointer (some ⟨b,i,none⟩)):=by simp only [den,Xy,QZ,XR,Qbd]
theorem Qgc {m b d i l c : Nat} : den (ext ρ m (b,d)) (.slice (some ⟨m,i,none⟩) l c) = some (.slice (some ⟨b,i,none⟩) l (c + d)):=by simp only [den,Xy,QZ,XR,Qbd]
theorem QrM {t : TypeId} {z : List Value} (ho : o.op = .alloc t) (hz : QO P t = some z) (hfl : Xr z = true) (hH : HM ρ H As) (hf : QY ρ n) : OpT P o L' (HS w0 [] As) (Out w0 ρ (.pointer (some ⟨n,0,none⟩)) (Yl H n ⟨t,0,z⟩) (n + 1)):=
 ⟨_,_,_,_,Qck ho hz,fun b _=>Qbq (d:=0) hH hf (X7 hfl) (.inl rfl) Qh5 fun w hw=>by rw [Nat.zero_mul,Nat.add_zero];exact hw⟩
theorem Qwm {t : TypeId} {x : Operand} {v : Value} (ho : o.op = .box t x) (hs : SR ρ L L') (hx : opd L x = some v) (hn : ZJ v = true) (hH : HM ρ H As) (hf : QY ρ n) : OpT P o L' (HS w0 [] As) (Out w0 ρ (.pointer (some ⟨n,0,none⟩)) (Yl H n ⟨t,0,v.cells.toList⟩) (n + 1)):=by
 obtain ⟨u,e1,e2⟩:=Y4 hs hx;exact ⟨_,_,_,_,Qmk ho e1,fun b _=>Qbq (d:=0) hH hf (QhS hn e2) (.inl rfl) Qh5 fun w hw=>by rw [Nat.zero_mul,Nat.add_zero];exact hw⟩
theorem QhB {t e sz by' len : Nat} {parts : Array (Nat × Operand)} {vs : List (Nat × Value)} {z cs : List Value} (ho : o.op = .buildSlice t len parts) (hs : SR ρ L L') (hp : Qd7 L parts.toList = some vs) (ht : tsl P t = some (e,sz,by')) (hz : QO P e = some z) (hfl : Xr z = true) (hlen : Nat.ble (len * sz) 16777216 = true) (h0 : Nat.blt 0 (len * sz) = true)
  (hc : Zx (fun i=>some (i * sz,sz)) ((List.range (len * sz)).map fun i=>z.getD (i % z.length) default) vs = some cs) (hfz : Xr ((List.range (len * sz)).map fun i=>z.getD (i % z.length) default) = true) (hH : HM ρ H As) (hf : QY ρ n) : OpT P o L' (HS w0 [] As) (Out w0 ρ (.slice (some ⟨n,0,none⟩) len len) (Yl H n ⟨e,sz,cs⟩) (n + 1)):=by
 obtain ⟨us,e1,e2⟩:=Qe8 hs hp;obtain ⟨ts,e3,e4⟩:=Qe5 e2 (X7 hfz) hc;exact ⟨_,_,_,_,Qr ho e1 ht hz hlen h0 e3,fun b _=>Qbq (d:=0) hH hf e4 (.inl rfl) (by rw [Qgc];rfl) fun w hw=>by rw [Nat.zero_mul,Nat.add_zero];exact hw⟩
theorem HS.own_some {w : World} {M : List Nat} {As : List HA} {b t sz n cap : Nat} {xs : List Value} (h : HS w0 M (.own (.slice (some ⟨b,0,none⟩) n cap) t sz n xs :: As) w) : HS w0 M (.blk b t (cap * sz) xs :: As) w:=by
 refine h.turn (fun c hc=>by simpa [HA.fp_own,HA.fp_blk,Value.ownBlock] using hc) fun ho=>?_;obtain ⟨hl,⟨e,_⟩ | ⟨g,cap',e,h2,h3,hb⟩⟩:=ho
 ·cases e
 ·injection e with e1 e2 e3
  injection e1 with e1
  injection e1 with e1 _ _
  subst e1 e3;exact hb
theorem QgD {t e sz by' : Nat} (ho : o.op = .buildSlice t 0 #[]) (ht : tsl P t = some (e,sz,by')) (hH : HM ρ H As) (hf : QY ρ n) : OpT P o L' (HS w0 [] As) (Out w0 ρ (.slice (some ⟨n,0,none⟩) 0 0) (Yl H n ⟨e,sz,[]⟩) (n + 1)):=
 ⟨_,_,_,_,Qaw ho ht,fun b _=>Qbq (d:=0) (us:=[]) hH hf rfl (.inl rfl) (by rw [Qgc]) fun w hw=>by have:=HS.own_some hw;simpa using this⟩
theorem h_make2 {t e sz by' k n : Nat} {x y : Operand} {z : List Value} (ho : o.op = .makeSlice t x y) (hx : Gx.ev L' x = some (.int .i64 (k : Int))) (hy : Gx.ev L' y = some (.int .i64 (n : Int))) (ht : tsl P t = some (e,sz,by')) (hz : QO P e = some z) (hlen : n * by' ≤ 281474976710656) (hn : n ≤ 16777216) (hkn : k ≤ n) :
  OpH P o L' (HS w0 [] As) (fun b : Nat=>.slice (some ⟨b,0,none⟩) k n) (fun _=>True) (fun b=>HS w0 [] (.blk b e (n * sz) (XH z (n * sz)) :: As)):=by
 intro ρ w hρ hw;obtain ⟨hu,inf,h1,h2,h3⟩:=Q8 ht;have hsz : ∀ w,(Go.sizeOf e).run P w = .ok sz w:=fun w=>by simp [Go.sizeOf,typeInfo,h1,h2]
 have hti : (typeInfo e).run P w = .ok inf w:=by simp [typeInfo,h1]
 obtain ⟨zv,hz',hzr⟩ : ∃ zv : Value,zv.cells.toList = z ∧ ∀ w,(zeroValue e).run P w = .ok zv w:=by
  unfold QO at hz;rw [h1] at hz;simp only [Option.bind_some] at hz;cases hzz : inf.zero with
  | none=>rw [hzz] at hz;cases hz
  | some v=>rw [hzz] at hz;simp only [Option.map_some,Option.some.injEq] at hz;exact ⟨v,hz,fun w=>by simp [zeroValue,typeInfo,h1,hzz]⟩
 have hwr : IntKind.i64.wrap (n : Int) = n:=IntWalk.i64_in _ ⟨by omega,by omega⟩;have hwk : IntKind.i64.wrap (k : Int) = k:=IntWalk.i64_in _ ⟨by omega,by omega⟩;have hz'' : zv.cells = z.toArray:=by rw [← hz']
 have hpr : ((inf.bytes : Nat) : Int) * (n : Int) ≤ 281474976710656:=by
  rw [h3,← Int.natCast_mul,Nat.mul_comm];omega
 have e2 : (2 : Int) ^ 48 = 281474976710656:=by decide
 have d1 : ¬ ((inf.bytes : Nat) : Int) * (n : Int) > 2 ^ 48:=by rw [e2];omega
 have d1k : ¬ ((inf.bytes : Nat) : Int) * (k : Int) > 2 ^ 48:=by
  have h8 : ((inf.bytes : Nat) : Int) * (k : Int) ≤ ((inf.bytes : Nat) : Int) * (n : Int):=Int.mul_le_mul_of_nonneg_left (by omega) (by omega);rw [e2];omega
 have d2 : ¬ (n : Int) < 0:=by omega
 have d2k : ¬ (k : Int) < 0:=by omega
 have d3 : ¬ (k : Int) > n:=by omega
 have hai : ∀ (q : Nat) w,(asInt (.int .i64 (q : Int))).run P w = .ok (q : Int) w:=fun q w=>by simp [asInt,asIntOf]
 have hb : (Instr.makeSlice t (.int .i64 k) (.int .i64 n)).run P w = .ok (.slice (some ⟨w.heap.size,0,none⟩) k n) (w.alloc (.cells (XH z (n * sz)).toArray e)):=by
  unfold Instr.makeSlice;simp only [Sem.run_bind,run_underlying hu,Result.andThen_ok,hsz,hai,Sem.run_pure,hti,hwr,hwk,d1,d1k,d2,d2k,d3,decide_false,Bool.or_false,Bool.false_eq_true,if_false,run_askRoom,Int.toNat_natCast]
  by_cases h0 : n * sz = 0
  ·have e1 : ∀ q : Array Value,(Array.map (fun x=>q[x % q.size]!) (Array.range 0)) = #[]:=fun q=>Array.eq_empty_of_size_eq_zero (by simp);have e3 : (XH z (n * sz)).toArray = #[]:=by rw [h0];rfl
   simp only [h0,if_true,Sem.run_bind,Sem.run_pure,Result.andThen_ok,newRow,run_newObj,World.alloc_eq,e1,e3];simp only [h0] at e3;rw [e3]
  ·simp only [if_neg h0,Sem.run_bind,hzr,Sem.run_pure,Result.andThen_ok,newRow,run_newObj,World.alloc_eq,hz''];congr 2;simp [XH,← List.toArray_range]
 simp only [execOp,ho,Sem.run_bind,hρ _ _ hx,hρ _ _ hy,hb,Result.andThen_ok,Sem.run_pure];have h4:=hw.blk_new e (XH z (n * sz)).toArray;refine ⟨w.heap.size,rfl,trivial,?_⟩
 simpa [QF] using h4
theorem QjP {t e sz by' k c : Nat} {x y : Operand} {z : List Value} (ho : o.op = .makeSlice t x y) (hs : SR ρ L L') (hx : opd L x = some (.int .i64 (k : Int))) (hy : opd L y = some (.int .i64 (c : Int))) (hkc : k ≤ c) (ht : tsl P t = some (e,sz,by')) (hz : QO P e = some z) (hb : c * by' ≤ 281474976710656) (hk : c ≤ 16777216) (hfz : Xr (XH z (c * sz)) = true) (hH : HM ρ H As) (hf : QY ρ n) :
  OpT P o L' (HS w0 [] As) (Out w0 ρ (.slice (some ⟨n,0,none⟩) k c) (Yl H n ⟨e,sz,XH z (c * sz)⟩) (n + 1)):=
 ⟨_,_,_,_,h_make2 ho (Qj hs hx rfl) (Qj hs hy rfl) ht hz hb hk hkc,fun b _=>Qbq (d:=0) hH hf (X7 hfz) (.inl rfl) (by rw [Qgc] <;> rfl) fun w hw=>by rw [QF,Nat.zero_mul,Nat.add_zero];exact hw⟩
theorem Qsb {src dst e : TypeId} {x : Operand} {l : List UInt8} (ho : o.op = .convert src dst x) (hs : SR ρ L L') (hx : opd L x = some (.string ⟨⟨l⟩⟩)) (h1 : P.underlying src = some .string) (h2 : P.underlying dst = some (.slice e)) (h3 : P.underlying e = some (.int .u8)) (h5 : e = u8T) (hl : l.length ≤ maxLen) (hH : HM ρ H As) (hf : QY ρ n) :
  OpT P o L' (HS w0 [] As) (Out w0 ρ (.slice (some ⟨n,0,none⟩) l.length l.length) (Yl H n ⟨e,1,l.map fun b=>.int .u8 (b.toNat : Int)⟩) (n + 1)):=by
 have hfl : Xr (l.map fun b=>Value.int .u8 (b.toNat : Int)) = true:=by
  unfold Xr;rw [List.all_map];exact List.all_eq_true.2 fun _ _=>rfl
 refine ⟨_,_,_,_,Qa9 ho (Qj hs hx rfl) h1 h2 h3 h5 hl,fun p hp=>Qbq (b:=p.1) (d:=p.2 - l.length) hH hf (X7 hfl) (.inr ?_) ?_ fun w hw=>?_⟩
 ·simp only [List.length_map,Nat.mul_one];omega
 ·rw [Qgc,show l.length + (p.2 - l.length) = p.2 by omega]
 ·simp only [List.length_map,Nat.mul_one];rw [show l.length + (p.2 - l.length) = p.2 by omega];exact hw
theorem QmC {t : TypeId} (ho : o.op = .makeMap t none) (hH : HM ρ H As) (hf : QY ρ n) : OpT P o L' (HS w0 [] As) (Out w0 ρ (.map (some n)) (YO H n (.mp [])) (n + 1)):=by
 refine ⟨_,_,_,_,Qcu ho QjG,fun b _=>?_⟩;have hle:=QfR hf (b,0);refine ⟨ext ρ n (b,0),_,hle,QaM hf _,?_,(HM.mono hle hH).push (A:=.mp b QjG []) (by simp only [ha,Qbd]),fun w hw=>hw⟩;simp only [den,Xy,QZ,XR,Qbd]
def Qiu (a : Int) : List Int → Bool
 | []=>false
 | b :: l=>bif decide (a = b) then true else Qiu a l
theorem Qif (a : Int) : ∀ l,Qiu a l = decide (a ∈ l)
 | []=>by simp [Qiu]
 | b :: l=>by
  simp only [Qiu,Qif a l,List.mem_cons]
  by_cases h : a = b <;> simp [h]
theorem QlW {x : Operand} {m : Nat} (hs : SR ρ L L') (h : opd L x = some (.map (some m))) : ∃ b d,ρ m = some (b,d) ∧ ev L' x = some (.map (some b)):=by
 obtain ⟨u,h1,h2⟩:=Y4 hs h;simp only [den,Xy,QZ,XR] at h2;split at h2
 ·rename_i y hy;injection h2 with h2
  subst h2;exact ⟨y.1,y.2,hy,h1⟩
 ·cases h2
theorem QqK {t kt et r : Nat} {m x : Operand} {a : Int} {ks : List Int} (ho : o.op = .lookup t m x false) (hs : SR ρ L L') (hH : HM ρ H As) (hm : opd L m = some (.map (some r))) (hx : opd L x = some (.int .i64 a)) (ht : P.underlying t = some (.map kt et)) (hz : tzv P et = some (.bool false)) (hk : tki P kt = some .i64) (hg : Qfz H r = some ks) :
  ∃ u,OpQ P o L' (HS w0 [] As) u ∧ den ρ (.bool (Qiu a ks)) = some u:=by
 obtain ⟨b,Rs,g1,g2,_⟩:=Qos hH hg;obtain ⟨b',d',e1,e2⟩:=QlW hs hm;rw [g1] at e1;injection e1 with e1
 injection e1 with e1 _
 subst e1;rw [Qif];exact ⟨_,Qjl ho e2 (Qj hs hx rfl) ht hz (Qe9 hk) g2,by simp only [den,Xy,QZ,XR];congr⟩
theorem Qjh {t kt et r : Nat} {m x y : Operand} {a : Int} {ks : List Int} (ho : o.op = .mapUpdate t m x y ∨ o.op = .insert t m x y) (hs : SR ρ L L') (hH : HM ρ H As) (hf : QY ρ n) (hm : opd L m = some (.map (some r))) (hx : opd L x = some (.int .i64 a)) (hy : opd L y = some (.bool true)) (ht : P.underlying t = some (.map kt et)) (hk : tki P kt = some .i64) (hg : Qfz H r = some ks) :
  OpT P o L' (HS w0 [] As) (Out w0 ρ (.tuple #[]) (YO H r (.mp (bif Qiu a ks then ks else ks ++ [a]))) n):=by
 obtain ⟨b,Rs,g1,g2,g3⟩:=Qos hH hg;obtain ⟨b',d',e1,e2⟩:=QlW hs hm;rw [g1] at e1;injection e1 with e1
 injection e1 with e1 _
 subst e1
 have hik : QbA ks a = (bif Qiu a ks then ks else ks ++ [a]):=by
  unfold QbA;rw [Qif]
  by_cases h : a ∈ ks <;> simp [h]
 obtain ⟨As2,g4,g5⟩:=g3 (QbA ks a);rw [← hik];exact ⟨_,_,_,_,QeJ (As':=.mp b QjG (QbA ks a) :: Rs) ho e2 (Qj hs hx rfl) (Qj hs hy rfl) ht (Qe9 hk) ⟨Rs,g2,.refl _⟩,fun _ _=>⟨ρ,As2,ρ.le_refl,hf,rfl,g4,fun w hw=>hw.perm g5⟩⟩
end
end Ev
namespace Ev
open Go Go.RowKit
noncomputable def Qkp (P : Program) (H : Hp) (xt sz : Nat) : Value → Option (Nat × List Value)
 | .slice none k _=>bif Xs P xt && Nat.beq k 0 then some (0,[]) else none
 | .slice (some ⟨m,i,_⟩) k _=>bif Xs P xt then (bif Nat.beq k 0 then some (0,[]) else match Yu H m with
  | some r=>bif Nat.ble (i + k * sz) r.cs.length then some (k,cut r.cs i (k * sz)) else none
  | none=>none) else none
 | .pointer (some ⟨_,_,some _⟩)=>bif Xs P xt then some (0,[]) else none
 | .string ⟨⟨l⟩⟩=>bif Xk P xt && Nat.beq sz 1 then some (l.length,l.map fun b=>.int .u8 (b.toNat : Int)) else none
 | _=>none
structure SrcOk (P : Program) (w0 : World) (As : List HA) (xt sz : Nat) (uy : Value) (m : Nat) (us : List Value) : Prop where
 ty : P.underlying xt = some .string ∨ ∃ e',P.underlying xt = some (.slice e')
 lenOf : ∀ w,(Builtin.lenOf uy).run P w = .ok m w
 cells : ∀ w,HS w0 [] As w → (Builtin.firstCells sz m uy).run P w = .ok us.toArray w
 len : us.length = m * sz
theorem QwA {ρ : Rho} (l : List UInt8) : Qy (QZ ρ) (l.map fun b=>Value.int .u8 (b.toNat : Int)) = some (l.map fun b=>.int .u8 (b.toNat : Int)):=X7 (by
 unfold Xr;rw [List.all_map];exact List.all_eq_true.2 fun _ _=>rfl)
section
variable {P : Program} {o : Oper} {L' : Qe} {w0 : World} {ρ : Rho} {L : Env} {H : Hp} {n : Nat} {As : List HA}
theorem Qnx {α : Type} {c : Bool} {x a : α} (h : (bif c then some x else none) = some a) : c = true ∧ x = a:=by
 cases c with
 | true=>exact ⟨rfl,by simpa using h⟩
 | false=>cases h
theorem QlP {xt sz : Nat} {y : Operand} {v : Value} {m : Nat} {cs : List Value} (hs : SR ρ L L') (hH : HM ρ H As) (hy : opd L y = some v) (h : Qkp P H xt sz v = some (m,cs)) : ∃ uy us,ev L' y = some uy ∧ Qy (QZ ρ) cs = some us ∧ SrcOk P w0 As xt sz uy m us:=by
 unfold Qkp at h;split at h
 ·rename_i k c;cases hb : Xs P xt && Nat.beq k 0 with
  | false=>rw [hb] at h;cases h
  | true=>
   rw [hb] at h;simp only [cond_true,Option.some.injEq,Prod.mk.injEq] at h;obtain ⟨rfl,rfl⟩:=h;simp only [Bool.and_eq_true] at hb;have hk:=Nat.eq_of_beq_eq_true hb.2;subst hk;exact ⟨_,[],Qj hs hy rfl,rfl,.inr (X1 hb.1),fun _=>rfl,fun w _=>Yk (news:=[]) (by simp) fun h=>absurd rfl h,by simp⟩
 ·rename_i m2 i q k c;cases hb : Xs P xt with
  | false=>rw [hb] at h;cases h
  | true=>
   rw [hb] at h;simp only [cond_true] at h
   have hev : ∃ b c',ρ m2 = some b ∧ ev L' y = some (.slice (some ⟨b.1,i,none⟩) k c'):=by
    cases q with
    | none=>
     obtain ⟨b,d,h1,h2⟩:=Ya hs hy;exact ⟨(b,d),_,h1,h2⟩
    | some q=>
     obtain ⟨b,d,h1,h2⟩:=YB hs hy;exact ⟨(b,d),_,h1,h2⟩
   obtain ⟨⟨b,d⟩,c',h1,h2⟩:=hev;cases hk : Nat.beq k 0 with
   | true=>
    rw [hk] at h;simp only [cond_true,Option.some.injEq,Prod.mk.injEq] at h;obtain ⟨rfl,rfl⟩:=h;have hk:=Nat.eq_of_beq_eq_true hk;subst hk;exact ⟨_,[],h2,rfl,.inr (X1 hb),fun _=>rfl,fun w _=>Yk (news:=[]) (by simp) fun h=>absurd rfl h,by simp⟩
   | false=>
    rw [hk] at h;simp only [cond_false] at h;split at h
    ·rename_i r hg;cases hl : Nat.ble (i + k * sz) r.cs.length with
     | false=>rw [hl] at h;cases h
     | true=>
      rw [hl] at h;simp only [cond_true,Option.some.injEq,Prod.mk.injEq] at h;obtain ⟨rfl,rfl⟩:=h;have hl':=Nat.le_of_ble_eq_true hl;obtain ⟨b9,d9,us,Rs,g1,g2,g3,g4,_,_⟩:=Yg hH hg;rw [h1] at g1;injection g1 with g1
      injection g1 with g1 g1'
      subst g1 g1';have hlu:=Xg g2;have hcl : (cut us i (k * sz)).length = k * sz:=by simp only [cut,List.length_take,List.length_drop];omega
      exact ⟨_,cut us i (k * sz),h2,XT (k * sz) (YG i g2),.inr (X1 hb),fun _=>rfl,fun w hw=>Yk hcl (ZO i (k * sz) (fun _=>rfl) g4 w hw),hcl⟩
    ·cases h
 ·rename_i m2 i q;obtain ⟨hb,h⟩:=Qnx h;simp only [Prod.mk.injEq] at h;obtain ⟨rfl,rfl⟩:=h;obtain ⟨b,d,j,h1,h2⟩:=QfB hs hy;exact ⟨_,[],h2,rfl,.inr (X1 hb),fun _=>rfl,fun w _=>Yk (news:=[]) (by simp) fun h=>absurd rfl h,by simp⟩
 ·rename_i l;cases hb : Xk P xt && Nat.beq sz 1 with
  | false=>rw [hb] at h;cases h
  | true=>
   rw [hb] at h;simp only [cond_true,Option.some.injEq,Prod.mk.injEq] at h;obtain ⟨rfl,rfl⟩:=h;simp only [Bool.and_eq_true] at hb;have hk:=Nat.eq_of_beq_eq_true hb.2;subst hk;refine ⟨.string (bs l),_,Qj hs hy rfl,QwA l,.inl (Yp hb.1),fun _=>rfl,fun w _=>?_,by simp⟩;have hx : (bs l).extract 0 l.length = bs l:=(Qhj _).trans (congrArg bs (by rw [Lib.extract_data];simp));simp only [Builtin.firstCells,hx,Sem.run_pure];congr 1;simp [bs]
 ·cases h
theorem QmO {t xt e sz by' k c m p : Nat} {s y : Operand} {r : HB} {vy : Value} {cs : List Value} {q : Option Nat} (ho : o.op = .call { callee:=.builtin .append,args:=#[s,y],argTypes:=#[t,xt] }) (hs : SR ρ L L') (hH : HM ρ H As) (hf : QY ρ n) (hx : opd L s = some (.slice (some ⟨p,0,q⟩) k c)) (hy : opd L y = some vy) (ht : tsl P t = some (e,sz,by'))
  (hsrc : Qkp P H xt sz vy = some (m,cs)) (hg : Yu H p = some r) (hfit : k + m ≤ c) (hr : k * sz + cs.length ≤ r.cs.length) : OpT P o L' (HS w0 [] As) (Out w0 ρ (.slice (some ⟨p,0,q⟩) (k + m) c) (Yl H p { r with cs:=Qh r.cs (k * sz) cs }) n):=by
 obtain ⟨uy,us,h1,h2,h3⟩:=QlP (w0:=w0) hs hH hy hsrc;obtain ⟨b,d,rs,Rs,g1,g2,g3,g4,g5,_⟩:=Yg hH hg;have Yl:=Yj (k * sz) g2 h2;obtain ⟨As2,g6,g7⟩:=g5 { r with cs:=Qh r.cs (k * sz) cs } _ Yl (by unfold room at *;simpa [Qk] using g3)
 have hev : ∃ c',c ≤ c' ∧ ev L' s = some (.slice (some ⟨b,0,none⟩) k c') ∧ den ρ (.slice (some ⟨p,0,q⟩) (k + m) c) = some (.slice (some ⟨b,0,none⟩) (k + m) c'):=by
  cases q with
  | none=>
   obtain ⟨b9,d9,e1,e2⟩:=Ya hs hx;rw [g1] at e1;injection e1 with e1
   injection e1 with e1 e3
   subst e1 e3;exact ⟨c + d,by omega,e2,by simp only [den,Xy,QZ,XR,g1]⟩
  | some q=>
   obtain ⟨b9,d9,e1,e2⟩:=YB hs hx;rw [g1] at e1;injection e1 with e1
   injection e1 with e1 e3
   subst e1 e3;exact ⟨c,Nat.le_refl _,e2,by simp only [den,Xy,QZ,XR,g1]⟩
 obtain ⟨c',hc,e1,e2⟩:=hev;have hlr:=Xg g2;have hlu:=Xg h2;refine ⟨Unit,fun _=>.slice (some ⟨b,0,none⟩) (k + m) c',fun _=>True,fun _=>HS w0 [] (.blk b r.ty (rs.length + d * r.sz) (Qh rs (k * sz) us) :: Rs),?_,fun _ _=>⟨ρ,As2,ρ.le_refl,hf,e2,g6,fun w hw=>?_⟩⟩
 ·intro a w hρ hw;obtain ⟨hu,inf,hi,hs1,hs2⟩:=Q8 ht;subst hs1;have hpk:=hw.pick g4;obtain ⟨w',hst,hb,r1,r2,r3,r4,r5⟩:=XC (P:=P) us 0 rs w hpk.head (by rw [Nat.add_zero,hlr,hlu];exact hr) (fun u hu=>List.all_eq_true.1 (YV h2) u hu) (i:=k * inf.size);have he:=Qf4 (P:=P) (ty:=o.type) (x:=uy) (w':=w') (g:=b) (n:=k) (m:=m) (cap:=c') (t:=t) (xt:=xt) hu h3.ty hi (h3.lenOf w) (h3.cells w hw) (by rw [XE,Nat.zero_add];exact hst) (by omega);simp only [execOp,ho,resolve,Sem.run_bind,Sem.run_pure,Result.andThen_ok,invoke,builtin,List.map_toArray,List.map_cons,List.map_nil,hρ _ _ e1,hρ _ _ h1,he];exact ⟨(),rfl,trivial,HS.swap hpk (B:=.blk b r.ty (rs.length + d * r.sz) (Qh rs (k * inf.size) us)) (fun _ h=>h) r1 r2 r3 r4 (fun k hk=>r5 k (by simpa [HA.fp_blk] using hk)) (show QW b _ _ (Qh rs (k * inf.size) us) w' by simpa using hb)⟩
 ·have : HS w0 [] (.blk b r.ty ((Qh rs (k * sz) us).length + d * r.sz) (Qh rs (k * sz) us) :: Rs) w:=by rw [Qk];exact hw
  exact this.perm g7
theorem QeO {t xt e sz by' k m : Nat} {s y : Operand} {v uy : Value} {z xs us : List Value} {Rs : List HA} (ho : o.op = .call { callee:=.builtin .append,args:=#[s,y],argTypes:=#[t,xt] }) (hv : ev L' s = some v) (hy : ev L' y = some uy) (ht : tsl P t = some (e,sz,by')) (hz : QO P e = some z) (hzs : z.length = sz)
  (hcls : ∀ w,HS w0 [] As w → HS w0 [] (.own v e sz k xs :: Rs) w) (h3 : SrcOk P w0 As xt sz uy m us) (h1 : us.all (·.oneCell') = true) (hroom : (k + m) * by' ≤ 140737488355328) (hmax : k + m ≤ maxLen) (hpos : 0 < k + m) :
  OpH P o L' (HS w0 [] As) (fun g : Nat × Nat=>.slice (some ⟨g.1,0,none⟩) (k + m) g.2) (fun g=>k + m ≤ g.2 ∧ g.2 ≤ maxLen ∧ (xs ++ us).length = (k + m) * sz) (fun g=>HS w0 [] (.blk g.1 e (g.2 * sz) (xs ++ us) :: Rs)):=by
 intro a w hρ hw;obtain ⟨v',w',hr,hw'⟩:=Qga (P:=P) (ty:=o.type) ht h3.ty hz hzs (hcls w hw) .here (x:=uy) (h3.lenOf w) (h3.cells w hw) (h3.cells _ hw.drew) h3.len (fun u hu=>List.all_eq_true.1 h1 u hu) hroom hmax;simp only [execOp,ho,resolve,Sem.run_bind,Sem.run_pure,Result.andThen_ok,invoke,builtin,List.map_toArray,List.map_cons,List.map_nil,hρ _ _ hv,hρ _ _ hy,hr];obtain ⟨a',cap',rfl,_⟩:=hw'.head.form;obtain ⟨g,rfl,_,h4,h5,h6,h7⟩:=hw'.own_blk hpos .here;exact ⟨(g,cap'),rfl,⟨h4,h5,h6⟩,h7⟩
theorem QdB {Rs : List HA} {H' : Hp} {e sz k m : Nat} {cs xs : List Value} {g : Nat × Nat} (hH : ∃ As3,HM ρ H' As3 ∧ Rs.Perm As3) (hf : QY ρ n) (hc : Qy (QZ ρ) cs = some xs) (h1 : k + m ≤ g.2) (h2 : g.2 ≤ maxLen) (h3 : xs.length = (k + m) * sz) :
  Out w0 ρ (.slice (some ⟨n,0,none⟩) (k + m) (k + m)) (Yl H' n ⟨e,sz,cs⟩) (n + 1) (.slice (some ⟨g.1,0,none⟩) (k + m) g.2) (HS w0 [] (.blk g.1 e (g.2 * sz) xs :: Rs)):=by
 obtain ⟨As3,h4,h5⟩:=hH;have hl:=Xg hc;have hsum : (k + m) * sz + (g.2 - (k + m)) * sz = g.2 * sz:=by rw [← Nat.add_mul];congr 1;omega
 refine Qbq (b:=g.1) (d:=g.2 - (k + m)) h4 hf hc (.inr ?_) (by rw [Qgc,show k + m + (g.2 - (k + m)) = g.2 by omega]) fun w hw=>?_
 ·simp only [];rw [← hl,h3,hsum];exact Nat.mul_le_mul_right _ h2
 ·simp only [];rw [h3,hsum];exact hw.perm (h5.cons _)
theorem Qmz {t xt e sz by' k c m p : Nat} {s y : Operand} {r : HB} {vy : Value} {z cs : List Value} (ho : o.op = .call { callee:=.builtin .append,args:=#[s,y],argTypes:=#[t,xt] }) (hs : SR ρ L L') (hH : HM ρ H As) (hf : QY ρ n) (hx : opd L s = some (.slice (some ⟨p,0,none⟩) k c)) (hy : opd L y = some vy) (ht : tsl P t = some (e,sz,by')) (hz : QO P e = some z) (hzs : z.length = sz)
  (hsrc : Qkp P H xt sz vy = some (m,cs)) (hg : Yu H p = some r) (hty : r.ty = e) (hsz : r.sz = sz) (hlen : r.cs.length = c * sz) (hsz0 : 0 < sz) (hkc : k ≤ c) (hcm : c ≤ maxLen) (hroom : (k + m) * by' ≤ 140737488355328) (hmax : k + m ≤ maxLen) (hpos : 0 < k + m) :
  OpT P o L' (HS w0 [] As) (Out w0 ρ (.slice (some ⟨n,0,none⟩) (k + m) (k + m)) (Yl (Qia H p) n ⟨e,sz,r.cs.take (k * sz) ++ cs⟩) (n + 1)):=by
 obtain ⟨uy,us,h1,h2,h3⟩:=QlP (w0:=w0) hs hH hy hsrc;obtain ⟨b,d,rs,Rs,g1,g2,g3,g4,_,g6⟩:=Yg hH hg;obtain ⟨b9,d9,e1,e2⟩:=Ya hs hx;rw [g1] at e1;injection e1 with e1
 injection e1 with e1 e3
 subst e1 e3;have hlr:=Xg g2
 have hcd : c + d ≤ maxLen:=by
  unfold room at g3;rcases g3 with g3 | g3
  ·omega
  ·rw [hlen,hsz,← Nat.add_mul] at g3;exact Nat.le_of_mul_le_mul_right g3 hsz0
 have htot : rs.length + d * r.sz = (c + d) * sz:=by rw [hlr,hlen,hsz,Nat.add_mul]
 rw [hty,htot] at g4;have hH4:=QeO (w0:=w0) (As:=As) (xs:=rs.take (k * sz)) (Rs:=Rs) (k:=k) ho e2 h1 ht hz hzs (fun w hw=>HS.to_own g4 hw (List.take_append_drop (k * sz) rs).symm (by rw [List.length_take,hlr,hlen];exact Nat.min_eq_left (Nat.mul_le_mul_right _ hkc)) (by omega) hcd) h3 (YV h2) hroom hmax hpos;exact ⟨_,_,_,_,hH4,fun g hg4=>QdB g6 hf (Zn (XT (k * sz) g2) h2) hg4.1 hg4.2.1 hg4.2.2⟩
theorem Qm0 {t xt e sz by' m : Nat} {s y : Operand} {vy : Value} {z cs : List Value} (ho : o.op = .call { callee:=.builtin .append,args:=#[s,y],argTypes:=#[t,xt] }) (hs : SR ρ L L') (hH : HM ρ H As) (hf : QY ρ n) (hx : opd L s = some (.slice none 0 0)) (hy : opd L y = some vy) (ht : tsl P t = some (e,sz,by')) (hz : QO P e = some z) (hzs : z.length = sz)
  (hsrc : Qkp P H xt sz vy = some (m,cs)) (hroom : (0 + m) * by' ≤ 140737488355328) (hmax : 0 + m ≤ maxLen) (hpos : 0 < 0 + m) :
  OpT P o L' (HS w0 [] As) (Out w0 ρ (.slice (some ⟨n,0,none⟩) (0 + m) (0 + m)) (Yl H n ⟨e,sz,[] ++ cs⟩) (n + 1)):=by
 obtain ⟨uy,us,h1,h2,h3⟩:=QlP (w0:=w0) hs hH hy hsrc;have hH4:=QeO (w0:=w0) (As:=As) (xs:=[]) (Rs:=As) (k:=0) ho (Qj hs hx rfl) h1 ht hz hzs (fun w hw=>hw.own_nil e sz) h3 (YV h2) hroom hmax hpos;exact ⟨_,_,_,_,hH4,fun g hg4=>QdB ⟨As,hH,.refl _⟩ hf (Zn (by rfl) h2) hg4.1 hg4.2.1 hg4.2.2⟩
theorem Qnv {t xt e sz by' : Nat} {s y : Operand} {vy : Value} {cs : List Value} (ho : o.op = .call { callee:=.builtin .append,args:=#[s,y],argTypes:=#[t,xt] }) (hs : SR ρ L L') (hH : HM ρ H As) (hf : QY ρ n) (hx : opd L s = some (.slice none 0 0)) (hy : opd L y = some vy) (ht : tsl P t = some (e,sz,by'))
  (hsrc : Qkp P H xt sz vy = some (0,cs)) : OpT P o L' (HS w0 [] As) (Out w0 ρ (.slice none 0 0) H n):=by
 obtain ⟨uy,us,h1,h2,h3⟩:=QlP (w0:=w0) hs hH hy hsrc;refine ⟨Unit,fun _=>.slice none 0 0,fun _=>True,fun _=>HS w0 [] As,?_,fun _ _=>⟨ρ,As,ρ.le_refl,hf,rfl,hH,fun _ h=>h⟩⟩;intro a w hρ hw;obtain ⟨hu,inf,hi,hs1,hs2⟩:=Q8 ht;subst hs1;have hu0 : us = []:=List.eq_nil_of_length_eq_zero (by have:=h3.len;omega);subst hu0;have he:=Qgk (P:=P) (ty:=o.type) (t:=t) (xt:=xt) (x:=uy) (w:=w) hu h3.ty hi (h3.lenOf w) (h3.cells w hw);simp only [execOp,ho,resolve,Sem.run_bind,Sem.run_pure,Result.andThen_ok,invoke,builtin,List.map_toArray,List.map_cons,List.map_nil,hρ _ _ (Qj hs hx rfl),hρ _ _ h1,he];exact ⟨(),rfl,trivial,hw⟩
end
end Ev
namespace Ev
open Go Go.RowKit
section
variable {P : Program} {o : Oper} {L' : Qe} {w0 : World} {ρ : Rho} {L : Env} {H : Hp} {n : Nat} {As : List HA}
theorem Qp6 {cs us : List Value} (h : Xr cs = true) (e : Qy (QZ ρ) cs = some us) : us = cs:=by
 rw [X7 h] at e;injection e with e
 exact e.symm
theorem Qeo {x : Operand} {p i l c : Nat} {q : Option Nat} (hs : SR ρ L L') (h : opd L x = some (.slice (some ⟨p,i,q⟩) l c)) : ∃ b d c',ρ p = some (b,d) ∧ ev L' x = some (.slice (some ⟨b,i,none⟩) l c'):=by
 cases q with
 | none=>
  obtain ⟨b,d,h1,h2⟩:=Ya hs h;exact ⟨b,d,_,h1,h2⟩
 | some q=>
  obtain ⟨b,d,h1,h2⟩:=YB hs h;exact ⟨b,d,_,h1,h2⟩
theorem QmM {src dst e p i k c : Nat} {x : Operand} {q : Option Nat} {r : HB} (ho : o.op = .convert src dst x) (hs : SR ρ L L') (hH : HM ρ H As) (hx : opd L x = some (.slice (some ⟨p,i,q⟩) k c)) (h1 : P.underlying src = some (.slice e)) (h2 : Xk P dst = true) (h3 : P.underlying e = some (.int .u8)) (hg : Yu H p = some r) (hl : i + k ≤ r.cs.length)
  (h8 : (cut r.cs i k).all QhU = true) (hf : Xr (cut r.cs i k) = true) : ∃ u,OpQ P o L' (HS w0 [] As) u ∧ den ρ (.string (bs ((cut r.cs i k).map QbD))) = some u:=by
 obtain ⟨b,d,us,Rs,g1,g2,g3,g4,_,_⟩:=Yg hH hg;obtain ⟨b9,d9,c',e1,e2⟩:=Qeo hs hx;rw [g1] at e1;injection e1 with e1
 injection e1 with e1 e3
 subst e1 e3;have hc : Qy (QZ ρ) (cut r.cs i k) = some (cut us i k):=XT k (YG i g2);have he:=Qp6 hf hc;have hlen : (cut r.cs i k).length = k:=by simp only [cut,List.length_take,List.length_drop];omega
 refine ⟨_,?_,rfl⟩;intro a w hρ hw
 have hr : (convert src dst (.slice (some ⟨b,i,none⟩) (cut r.cs i k).length c')).run P w = .ok (.string (bs ((cut r.cs i k).map QbD))) w:=
  Yz h1 (Yp h2) h3 (fun v hv=>List.all_eq_true.1 h8 v hv) (by rw [← he];exact ZO i k (fun _=>rfl) g4 w hw)
 rw [hlen] at hr;simp only [execOp,ho,Sem.run_bind,hρ _ _ e2,hr,Result.andThen_ok,Sem.run_pure];exact ⟨rfl,Below.refl _ _⟩
theorem Qng {src dst e k c : Nat} {x : Operand} (ho : o.op = .convert src dst x) (hs : SR ρ L L') (hx : opd L x = some (.slice none 0 c)) (h1 : P.underlying src = some (.slice e)) (h2 : Xk P dst = true) (h3 : P.underlying e = some (.int .u8)) : ∃ u,OpQ P o L' (HS w0 [] As) u ∧ den ρ (.string (bs [])) = some u:=by
 refine ⟨_,?_,rfl⟩;intro a w hρ hw
 have hr : (convert src dst (.slice none ([] : List Value).length c)).run P w = .ok (.string (bs (([] : List Value).map QbD))) w:=
  Yz h1 (Yp h2) h3 (fun v hv=>by cases hv) (fun h=>absurd rfl h)
 simp only [execOp,ho,Sem.run_bind,hρ _ _ (Qj hs hx rfl),show (0 : Nat) = ([] : List Value).length from rfl,hr,Result.andThen_ok,Sem.run_pure];exact ⟨rfl,Below.refl _ _⟩
theorem Qm2 {src dst e p i q : Nat} {x : Operand} (ho : o.op = .convert src dst x) (hs : SR ρ L L') (hx : opd L x = some (.pointer (some ⟨p,i,some q⟩))) (h1 : P.underlying src = some (.slice e)) (h2 : Xk P dst = true) (h3 : P.underlying e = some (.int .u8)) : ∃ u,OpQ P o L' (HS w0 [] As) u ∧ den ρ (.string (bs [])) = some u:=by
 obtain ⟨b,d,j,_,h4⟩:=QfB hs hx;exact ⟨_,Qj3 [] ho h4 h1 (Yp h2) h3 rfl (fun _ _ h=>absurd h (Nat.lt_irrefl 0)),rfl⟩
theorem Qnn {t xt e sz by' m : Nat} {s y : Operand} {z : List Value} (ho : o.op = .call { callee:=.builtin .append,args:=#[s,y],argTypes:=#[t,xt] }) (hs : SR ρ L L') (hH : HM ρ H As) (hf : QY ρ n) (hx : opd L s = some (.slice none 0 0)) (hy : opd L y = some (.int .i64 (m : Int))) (hk : tki P xt = some .i64) (ht : tsl P t = some (e,sz,by')) (hz : QO P e = some z) (hzs : z.length = sz) (hsz : 0 < sz)
  (hfz : Xr (XH z (m * sz)) = true) (hroom : (0 + m) * by' ≤ 140737488355328) (hmax : 0 + m ≤ maxLen) (hpos : 0 < m) : OpT P o L' (HS w0 [] As) (Out w0 ρ (.slice (some ⟨n,0,none⟩) (0 + m) (0 + m)) (Yl H n ⟨e,sz,[] ++ XH z (m * sz)⟩) (n + 1)):=by
 exact ⟨_,_,_,_,ZU (olds:=[]) ho (Qj hs hx rfl) (Qj hs hy rfl) ht hk hz hzs hsz hpos (by omega) (fun w _ h=>absurd rfl h) (by simp) hroom hmax,fun g hg=>QdB ⟨As,hH,.refl _⟩ hf (Zn (by rfl) (X7 hfz)) hg.1 hg.2 (by rw [List.nil_append,QF,Nat.zero_add])⟩
theorem Qvb {dt st e sz by' p i k c p2 i2 k2 c2 : Nat} {d s : Operand} {q q2 : Option Nat} {r r2 : HB} (ho : o.op = .call { callee:=.builtin .copy,args:=#[d,s],argTypes:=#[dt,st] }) (hs : SR ρ L L') (hH : HM ρ H As) (hf : QY ρ n) (hd : opd L d = some (.slice (some ⟨p,i,q⟩) k c)) (hx : opd L s = some (.slice (some ⟨p2,i2,q2⟩) k2 c2)) (ht : tsl P dt = some (e,sz,by'))
  (hg : Yu H p = some r) (hg2 : Yu H p2 = some r2) (hl : i + min k2 k * sz ≤ r.cs.length) (hl2 : i2 + min k2 k * sz ≤ r2.cs.length) : OpT P o L' (HS w0 [] As) (Out w0 ρ (.int .i64 ((min k2 k : Nat) : Int)) (Yl H p { r with cs:=Qh r.cs i (cut r2.cs i2 (min k2 k * sz)) }) n):=by
 obtain ⟨b,dd,us,Rs,g1,g2,g3,g4,g5,_⟩:=Yg hH hg;obtain ⟨b2,dd2,us2,Rs2,m1,m2,m3,m4,_,_⟩:=Yg hH hg2;obtain ⟨b9,d9,c',e1,e2⟩:=Qeo hs hd;rw [g1] at e1;injection e1 with e1
 injection e1 with e1 e3
 subst e1 e3;obtain ⟨b8,d8,c8,f1,f2⟩:=Qeo hs hx;rw [m1] at f1;injection f1 with f1
 injection f1 with f1 f3
 subst f1 f3;have hc : Qy (QZ ρ) (cut r2.cs i2 (min k2 k * sz)) = some (cut us2 i2 (min k2 k * sz)):=XT _ (YG i2 m2);have hlu:=Xg g2;have hlu2:=Xg m2;have hcl : (cut us2 i2 (min k2 k * sz)).length = min k2 k * sz:=by simp only [cut,List.length_take,List.length_drop];omega
 obtain ⟨As2,g6,g7⟩:=g5 { r with cs:=Qh r.cs i (cut r2.cs i2 (min k2 k * sz)) } _ (Yj i g2 hc) (by unfold room at *;simpa [Qk] using g3);have hS:=Qbn (w0:=w0) (M:=[]) (As:=As) (As':=.blk b r.ty (us.length + dd * r.sz) (Qh us i (cut us2 i2 (min k2 k * sz))) :: Rs) (min k2 k) (cut us2 i2 (min k2 k * sz)) ho e2 f2 ht ⟨Rs,g4,.refl _⟩ rfl hcl (fun _=>rfl) (by rw [hcl,hlu];exact hl) (ZO i2 _ (fun _=>rfl) m4) (fun u hu=>List.all_eq_true.1 (YV hc) u hu);refine ⟨_,_,_,_,hS,fun _ _=>⟨ρ,As2,ρ.le_refl,hf,rfl,g6,fun w hw=>?_⟩⟩;have : HS w0 [] (.blk b r.ty ((Qh us i (cut us2 i2 (min k2 k * sz))).length + dd * r.sz) (Qh us i (cut us2 i2 (min k2 k * sz))) :: Rs) w:=by rw [Qk];exact hw
 exact this.perm g7
theorem QrX {src e p i k c : Nat} {x : Operand} {r : HB} (ho : o.op = .convert src src x) (hs : SR ρ L L') (hH : HM ρ H As) (hf : QY ρ n) (hx : opd L x = some (.slice (some ⟨p,i,none⟩) k c)) (h1 : P.underlying src = some (.slice e)) (h3 : P.underlying e = some (.int .u8)) (hg : Yu H p = some r) (ht : r.ty = u8T) :
  OpT P o L' (HS w0 [] As) (Out w0 ρ (.slice (some ⟨p,i,none⟩) k c) H n):=by
 obtain ⟨b,dd,us,Rs,g1,g2,g3,g4,g5,_⟩:=Yg hH hg;obtain ⟨b9,d9,e1,e2⟩:=Ya hs hx;rw [g1] at e1;injection e1 with e1
 injection e1 with e1 e3
 subst e1 e3;rw [ht] at g4;have hS:=Qfp (w0:=w0) (M:=[]) (As:=As) (As':=.blk b u8T (us.length + dd * r.sz) us :: Rs) ho e2 h1 h3 ⟨Rs,g4,.refl _⟩;refine ⟨_,_,_,_,hS,fun _ _=>⟨ρ,As,ρ.le_refl,hf,?_,hH,fun w hw=>hw.perm g4.symm⟩⟩;simp only [den,Xy,QZ,XR,g1]
theorem Qsx {dt st e by' m cd b tot i : Nat} {d s : Operand} {bt : TypeId} {cs news : List Value} {l : List UInt8} {As As' : List HA} (k : Nat) (ho : o.op = .call { callee:=.builtin .copy,args:=#[d,s],argTypes:=#[dt,st] }) (hd : Gx.ev L' d = some (.slice (some ⟨b,i,none⟩) m cd)) (hx : Gx.ev L' s = some (.string (bs l))) (ht : tsl P dt = some (e,1,by'))
  (hnw : news = (l.take k).map fun b=>Value.int .u8 (b.toNat : Int)) (hp : Put As (.blk b bt tot cs) (.blk b bt tot (Qh cs i news)) As') (hk : min l.length m = k) (hr : i + k ≤ cs.length) :
  OpH P o L' (HS w0 [] As) (fun _ : Unit=>.int .i64 (k : Int)) (fun _=>True) (fun _=>HS w0 [] As'):=by
 intro ρ w hρ hw;obtain ⟨hu,inf,hi,hs1,hs2⟩:=Q8 ht;have hl : news.length = k:=by rw [hnw,List.length_map,List.length_take];omega
 have hsz : (Go.sizeOf e).run P w = .ok 1 w:=by simp [Go.sizeOf,typeInfo,hi,hs1]
 have hfc : (Builtin.firstCells 1 k (.string (bs l))).run P w = .ok news.toArray w:=by
  have hx : (bs l).extract 0 k = bs (l.take k):=(Qhj _).trans (congrArg bs (by rw [Lib.extract_data];simp));simp only [Builtin.firstCells,hx,Sem.run_pure,hnw];congr 1;simp [bs]
 have hbl : (bs l).size = l.length:=rfl;have hk' : Nat.min l.length m = k:=hk;obtain ⟨Rs,h3,h4⟩:=hp.ex;have hpk:=hw.pick h3;obtain ⟨w',hst,hb,r1,r2,r3,r4,r5⟩:=XC (P:=P) news 0 cs w hpk.head (by simpa [hl] using hr) (fun u hu=>by rw [hnw] at hu;obtain ⟨b,_,rfl⟩:=List.mem_map.1 hu;rfl) (i:=i)
 have he : (Builtin.copy_ #[dt,st] o.type #[.slice (some ⟨b,i,none⟩) m cd,.string (bs l)]).run P w = .ok (.int .i64 (k : Int)) w':=by
  unfold Builtin.copy_;simp [run_underlying hu,Builtin.lenOf,hbl,hk',hsz,hfc,goInt,hst]
 simp only [execOp,ho,resolve,Sem.run_bind,Sem.run_pure,Result.andThen_ok,invoke,builtin,List.map_toArray,List.map_cons,List.map_nil,hρ _ _ hd,hρ _ _ hx,he];exact ⟨(),rfl,trivial,(HS.swap hpk (B:=.blk b bt tot (Qh cs i news)) (fun _ h=>h) r1 r2 r3 r4 (fun k hk=>r5 k (by simpa [HA.fp_blk] using hk)) (show QW b bt tot (Qh cs i news) w' by simpa using hb)).perm h4⟩
theorem Qrz {dt st e by' p i k c : Nat} {d s : Operand} {q : Option Nat} {r : HB} {l : List UInt8} (ho : o.op = .call { callee:=.builtin .copy,args:=#[d,s],argTypes:=#[dt,st] }) (hs : SR ρ L L') (hH : HM ρ H As) (hf : QY ρ n) (hd : opd L d = some (.slice (some ⟨p,i,q⟩) k c)) (hx : opd L s = some (.string (bs l))) (ht : tsl P dt = some (e,1,by'))
  (hg : Yu H p = some r) (hl : i + min l.length k ≤ r.cs.length) : OpT P o L' (HS w0 [] As) (Out w0 ρ (.int .i64 ((min l.length k : Nat) : Int)) (Yl H p { r with cs:=Qh r.cs i ((l.take (min l.length k)).map fun b=>Value.int .u8 (b.toNat : Int)) }) n):=by
 obtain ⟨b,dd,us,Rs,g1,g2,g3,g4,g5,_⟩:=Yg hH hg;obtain ⟨b9,d9,c',e1,e2⟩:=Qeo hs hd;rw [g1] at e1;injection e1 with e1
 injection e1 with e1 e3
 subst e1 e3
 have hfl : Xr ((l.take (min l.length k)).map fun b=>Value.int .u8 (b.toNat : Int)) = true:=by
  unfold Xr;rw [List.all_map];exact List.all_eq_true.2 fun _ _=>rfl
 have hlu:=Xg g2;obtain ⟨As2,g6,g7⟩:=g5 { r with cs:=Qh r.cs i ((l.take (min l.length k)).map fun b=>Value.int .u8 (b.toNat : Int)) } _ (Yj i g2 (X7 hfl)) (by unfold room at *;simpa [Qk] using g3);have hS:=Qsx (w0:=w0) (As:=As) (As':=.blk b r.ty (us.length + dd * r.sz) (Qh us i ((l.take (min l.length k)).map fun b=>Value.int .u8 (b.toNat : Int))) :: Rs) (min l.length k) ho e2 (Qj hs hx rfl) ht rfl ⟨Rs,g4,.refl _⟩ rfl (by rw [hlu];exact hl);refine ⟨_,_,_,_,hS,fun _ _=>⟨ρ,As2,ρ.le_refl,hf,rfl,g6,fun w hw=>?_⟩⟩;have : HS w0 [] (.blk b r.ty ((Qh us i ((l.take (min l.length k)).map fun b=>Value.int .u8 (b.toNat : Int))).length + dd * r.sz) (Qh us i ((l.take (min l.length k)).map fun b=>Value.int .u8 (b.toNat : Int))) :: Rs) w:=by rw [Qk];exact hw
 exact this.perm g7
theorem Qr1 {t e sz by' p i k c : Nat} {x : Operand} {q : Option Nat} {r : HB} {z : List Value} (ho : o.op = .call { callee:=.builtin .clear,args:=#[x],argTypes:=#[t] }) (hs : SR ρ L L') (hH : HM ρ H As) (hf : QY ρ n) (hx : opd L x = some (.slice (some ⟨p,i,q⟩) k c)) (ht : tsl P t = some (e,sz,by')) (hz : QO P e = some z) (hzs : z.length = sz) (hz1 : z.all (·.oneCell') = true) (hz0 : Nat.blt 0 z.length = true) (hfz : Xr (XH z (k * sz)) = true)
  (hg : Yu H p = some r) (hl : i + k * sz ≤ r.cs.length) : OpT P o L' (HS w0 [] As) (Out w0 ρ (.tuple #[]) (Yl H p { r with cs:=Qh r.cs i (XH z (k * sz)) }) n):=by
 obtain ⟨b,dd,us,Rs,g1,g2,g3,g4,g5,_⟩:=Yg hH hg;obtain ⟨b9,d9,c',e1,e2⟩:=Qeo hs hx;rw [g1] at e1;injection e1 with e1
 injection e1 with e1 e3
 subst e1 e3;have hlu:=Xg g2;obtain ⟨As2,g6,g7⟩:=g5 { r with cs:=Qh r.cs i (XH z (k * sz)) } _ (Yj i g2 (X7 hfz)) (by unfold room at *;simpa [Qk] using g3);have hS:=Qmw (w0:=w0) (M:=[]) (As:=As) (As':=.blk b r.ty (us.length + dd * r.sz) (Qh us i (XH z (k * sz))) :: Rs) ho e2 ht hz hzs hz1 (by intro h;rw [h] at hz0;cases hz0) ⟨Rs,g4,.refl _⟩ (fun _=>rfl) (by rw [hlu];exact hl);refine ⟨_,_,_,_,hS,fun _ _=>⟨ρ,As2,ρ.le_refl,hf,rfl,g6,fun w hw=>?_⟩⟩;have : HS w0 [] (.blk b r.ty ((Qh us i (XH z (k * sz))).length + dd * r.sz) (Qh us i (XH z (k * sz))) :: Rs) w:=by rw [Qk];exact hw
 exact this.perm g7
theorem Quz {t : TypeId} {x : Operand} {l : List UInt8} (ho : o.op = .call { callee:=.builtin .len,args:=#[x],argTypes:=#[t] }) (hs : SR ρ L L') (hx : opd L x = some (.string ⟨⟨l⟩⟩)) (h : Xk P t = true) : ∃ u,OpP P o L' u ∧ den ρ (.int .i64 (l.length : Int)) = some u:=
 ⟨_,Qn ho (Qj hs hx rfl) (Yp h),rfl⟩
theorem Qvc {t : TypeId} {x : Operand} {a : Option Addr} {k c : Nat} (ho : o.op = .call { callee:=.builtin .len,args:=#[x],argTypes:=#[t] }) (hs : SR ρ L L') (hx : opd L x = some (.slice a k c)) (h : Xs P t = true) : ∃ u,OpP P o L' u ∧ den ρ (.int .i64 (k : Int)) = some u:=by
 obtain ⟨e,he⟩:=X1 h;rcases a with _ | ⟨p,i,q⟩
 ·exact ⟨_,QQ ho (Qj hs hx rfl) he,rfl⟩
 ·obtain ⟨b,d,c',h1,h2⟩:=Qeo hs hx;exact ⟨_,QQ ho h2 he,rfl⟩
theorem Qu0 {t : TypeId} {x : Operand} {p i q : Nat} (ho : o.op = .call { callee:=.builtin .len,args:=#[x],argTypes:=#[t] }) (hs : SR ρ L L') (hx : opd L x = some (.pointer (some ⟨p,i,some q⟩))) (h : Xs P t = true) : ∃ u,OpP P o L' u ∧ den ρ (.int .i64 0) = some u:=by
 obtain ⟨e,he⟩:=X1 h;obtain ⟨b,d,j,h1,h2⟩:=QfB hs hx;exact ⟨_,QQ ho h2 he,rfl⟩
theorem QtG {t : TypeId} {x : Operand} {k c : Nat} (ho : o.op = .call { callee:=.builtin .cap,args:=#[x],argTypes:=#[t] }) (hs : SR ρ L L') (hx : opd L x = some (.slice none k c)) (h : Xs P t = true) : ∃ u,OpP P o L' u ∧ den ρ (.int .i64 (c : Int)) = some u:=by
 obtain ⟨e,he⟩:=X1 h;exact ⟨_,Qn7 ho (Qj hs hx rfl) he,rfl⟩
theorem Quv {x y : Operand} {k k' : IntKind} {a b : Int} {ts : Array TypeId} (ho : o.op = .call { callee:=.builtin .min,args:=#[x,y],argTypes:=ts }) (hs : SR ρ L L') (hx : opd L x = some (.int k a)) (hy : opd L y = some (.int k' b)) (hk : kEq k k' = true) : ∃ u,OpP P o L' u ∧ den ρ (.int k (if b < a then b else a)) = some u:=by
 obtain rfl:=Qcb hk;exact ⟨_,QkI ho (Qj hs hx rfl) (Qj hs hy rfl),rfl⟩
theorem QvD {x y : Operand} {k k' : IntKind} {a b : Int} {ts : Array TypeId} (ho : o.op = .call { callee:=.builtin .max,args:=#[x,y],argTypes:=ts }) (hs : SR ρ L L') (hx : opd L x = some (.int k a)) (hy : opd L y = some (.int k' b)) (hk : kEq k k' = true) : ∃ u,OpP P o L' u ∧ den ρ (.int k (if b > a then b else a)) = some u:=by
 obtain rfl:=Qcb hk;exact ⟨_,Qhs ho (Qj hs hx rfl) (Qj hs hy rfl),rfl⟩
end
end Ev
namespace Ev
open Go Go.RowKit
inductive Ans where
 | p (v : Value)
 | q (v : Value)
 | h (v : Value) (H : Hp) (n : Nat)
def QdG : Option Value → Option Ans
 | some v=>some (.p v)
 | none=>none
abbrev QiK:=FuncId → List Value → Hp → Nat → Option (Value × Hp × Nat)
abbrev Qps:=Nat → List Value → Hp → Nat → Option (Value × Hp × Nat)
structure CallF where
 f : Qps → QiK
 e : FuncId → List Value → Option Value
 y : Qps
noncomputable section
variable (P : Program) (L : Env) (H : Hp) (n : Nat)
def Qfw (st f : Nat) : Option Value → Option Value
 | some (.agg cs)=>match tfd P st f with
  | some (off,ft)=>match tsz P ft with
   | some (k,ag)=>if ag then some (.agg (cut cs.toList off k).toArray) else cs.toList[off]?
   | none=>none
  | none=>none
 | _=>none
def Qfy (t : Nat) : Option Value → Option Nat → Option Value
 | some (.string ⟨⟨l⟩⟩),some j=>bif Xk P t && Nat.blt j l.length then some (.int .u8 ((l.getD j 0).toNat : Int)) else none
 | some (.agg cs),some j=>match tar P t with
  | some (len,e,sz)=>match tsz P e with
   | some (k,ag)=>bif Nat.blt j len then (if ag then some (.agg (cut cs.toList (j * sz) k).toArray) else cs.toList[j * sz]?) else none
   | none=>none
  | none=>none
 | _,_=>none
def Qkf (t : Nat) (lo hi : Option Operand) : Option Value → Option Value
 | some (.string ⟨⟨l⟩⟩)=>match loN L lo,hiN L l.length hi with
  | some a,some b=>bif Xk P t && (Nat.ble a b && Nat.ble b l.length) then some (.string (bs ((l.take b).drop a))) else none
  | _,_=>none
 | some (.slice (some ⟨m,off,none⟩) l c)=>match tsl P t,loN L lo,hiN L l hi with
  | some (_,sz,_),some i,some j=>bif Nat.ble i j && (Nat.ble j c && (Nat.beq i 0 || Nat.blt i c)) then some (.slice (some ⟨m,off + i * sz,none⟩) (j - i) (c - i)) else (bif Nat.beq i c && Nat.beq j c then some (.pointer (some ⟨m,off,some (c * sz)⟩)) else none)
  | _,_,_=>none
 | some (.slice (some ⟨m,off,some q⟩) l c)=>match tsl P t,loN L lo,hiN L l hi with
  | some (_,sz,_),some i,some j=>bif Nat.ble i j && Nat.ble j c then some (.slice (some ⟨m,(if c = i then off else off + i * sz),some q⟩) (j - i) (c - i)) else none
  | _,_,_=>none
 | some (.slice none l c)=>match tsl P t,loN L lo,hiN L l hi with
  | some _,some i,some j=>bif Nat.ble i j && Nat.ble j c then some (.slice none (j - i) (c - i)) else none
  | _,_,_=>none
 | _=>none
def Qih (t : Nat) (lo : Option Operand) (hi mx : Operand) : Option Value → Option Value
 | some (.slice (some ⟨m,off,_⟩) _ c)=>match tsl P t,loN L lo,vN (opd L hi),vN (opd L mx) with
  | some (_,sz,_),some i,some j,some k=>bif Nat.ble i j && (Nat.ble j k && Nat.ble k c) then some (.slice (some ⟨m,(if k = i then off else off + i * sz),some 0⟩) (j - i) (k - i)) else none
  | _,_,_,_=>none
 | some (.slice none _ c)=>match tsl P t,loN L lo,vN (opd L hi),vN (opd L mx) with
  | some _,some i,some j,some k=>bif Nat.ble i j && (Nat.ble j k && Nat.ble k c) then some (.slice none (j - i) (k - i)) else none
  | _,_,_,_=>none
 | _=>none
def Qa6 (st f : Nat) : Option Value → Option Value
 | some (.pointer (some ⟨m,i,none⟩))=>match tfd P st f with
  | some (off,ft)=>match tsz P ft with
   | some (sz,_)=>bif Nat.blt 0 sz then some (.pointer (some ⟨m,i + off,none⟩)) else none
   | none=>none
  | none=>none
 | _=>none
def Z5 (t : Nat) : Option Value → Option Nat → Option Value
 | some (.slice (some ⟨m,off,_⟩) l _),some j=>match tsl P t with
  | some (_,sz,_)=>bif Nat.blt j l then some (.pointer (some ⟨m,off + j * sz,none⟩)) else none
  | none=>none
 | some (.pointer (some ⟨m,i,none⟩)),some j=>match tar P t with
  | some (len,_,sz)=>bif Nat.blt j len then some (.pointer (some ⟨m,i + j * sz,none⟩)) else none
  | none=>none
 | _,_=>none
def QkX (t : Nat) (parts : List (Nat × Operand)) : Option Value:=match Qd7 L parts,QO P t with
 | some vs,some z=>bif Xr z then (match Zl P t with
  | some pl=>match Zx (fun i=>pl[i]?) z vs with
   | some cs=>some (.agg cs.toArray)
   | none=>none
  | none=>match tar P t with
   | some (_,_,sz)=>match Zx (fun i=>some (i * sz,sz)) z vs with
    | some cs=>some (.agg cs.toArray)
    | none=>none
   | none=>none) else none
 | _,_=>none
def QfK (t x : Nat) : Option Value:=match L x with
 | some (.pointer (some ⟨m,i,none⟩))=>match Yu H m,tsz P t with
  | some r,some (sz,ag)=>if ag then (bif Nat.ble (i + sz) r.cs.length then some (.agg (cut r.cs i sz).toArray) else none) else (bif Nat.beq sz 1 then r.cs[i]? else none)
  | _,_=>none
 | _=>none
def Qin (t x : Nat) (y : Operand) : Option Ans:=match L x,opd L y,tsz P t with
 | some (.pointer (some ⟨m,i,none⟩)),some v,some (sz,_)=>match Yu H m with
  | some r=>bif ZJ v && (Nat.beq v.cells.toList.length sz && Nat.ble (i + sz) r.cs.length) then some (.h undef (Yl H m { r with cs:=Qh r.cs i v.cells.toList }) n) else none
  | none=>none
 | _,_,_=>none
def Qby (t : Nat) : Bool:=match P.underlying t with | some (.int .u8)=>true | _=>false
def QfI (src dst : Nat) : Option Value → Option Ans
 | some (.string ⟨⟨l⟩⟩)=>match P.underlying dst with
  | some (.slice e)=>bif Xk P src && (Qby P e && (Nat.beq e u8T && Nat.ble l.length maxLen)) then some (.h (.slice (some ⟨n,0,none⟩) l.length l.length) (Yl H n ⟨e,1,l.map fun b=>.int .u8 (b.toNat : Int)⟩) (n + 1)) else none
  | _=>none
 | some (.slice none k c)=>match P.underlying src with
  | some (.slice e)=>bif Xk P dst && (Qby P e && Nat.beq k 0) then some (.q (.string (bs []))) else none
  | _=>none
 | some (.slice (some ⟨p,i,q⟩) k c)=>match P.underlying src,Yu H p with
  | some (.slice e),some r=>bif Xk P dst && (Qby P e && (Nat.ble (i + k) r.cs.length && ((cut r.cs i k).all QhU && Xr (cut r.cs i k)))) then some (.q (.string (bs ((cut r.cs i k).map QbD)))) else (match q with
   | none=>bif Nat.beq src dst && (Qby P e && Nat.beq r.ty u8T) then some (.h (.slice (some ⟨p,i,none⟩) k c) H n) else none
   | _=>none)
  | _,_=>none
 | some (.pointer (some ⟨_,_,some _⟩))=>match P.underlying src with
  | some (.slice e)=>bif Xk P dst && Qby P e then some (.q (.string (bs []))) else none
  | _=>none
 | _=>none
def Qva (t : Nat) : Option Ans:=match QO P t with
 | some z=>bif Xr z then some (.h (.pointer (some ⟨n,0,none⟩)) (Yl H n ⟨t,0,z⟩) (n + 1)) else none
 | none=>none
def QvM (t : Nat) : Option Value → Option Ans
 | some v=>bif ZJ v then some (.h (.pointer (some ⟨n,0,none⟩)) (Yl H n ⟨t,0,v.cells.toList⟩) (n + 1)) else none
 | none=>none
def QnN (z : List Value) (k : Nat) : List Value:=(List.range k).map fun i=>z.getD (i % z.length) default
def Zs (t len : Nat) (parts : List (Nat × Operand)) : Option Ans:=match Qd7 L parts,tsl P t with
 | some vs,some (e,sz,_)=>match QO P e with
  | some z=>match Zx (fun i=>some (i * sz,sz)) (QnN z (len * sz)) vs with
   | some cs=>bif Xr z && (Nat.ble (len * sz) 16777216 && (Nat.blt 0 (len * sz) && Xr (QnN z (len * sz)))) then some (.h (.slice (some ⟨n,0,none⟩) len len) (Yl H n ⟨e,sz,cs⟩) (n + 1)) else none
   | none=>none
  | none=>none
 | _,_=>none
def QaZ (t : Nat) (x y : Operand) : Option Ans:=match opd L x,opd L y,tsl P t with
 | some (.int .i64 (.ofNat k)),some (.int .i64 (.ofNat k')),some (e,sz,by')=>match QO P e with
  | some z=>bif Nat.ble k k' && (Nat.ble (k' * by') 281474976710656 && (Nat.ble k' 16777216 && Xr (XH z (k' * sz)))) then some (.h (.slice (some ⟨n,0,none⟩) k k') (Yl H n ⟨e,sz,XH z (k' * sz)⟩) (n + 1)) else none
  | none=>none
 | _,_,_=>none
def Qij (t xt : Nat) (s y : Operand) : Option Ans:=match opd L s,opd L y,tsl P t with
 | some (.slice a k c),some vy,some (e,sz,by')=>match vy with
  | .int .i64 (.ofNat m)=>match a,QO P e with
   | none,some z=>bif (Nat.beq k 0 && (Nat.beq c 0 && (Nat.beq z.length sz && (Nat.blt 0 sz && Xr (XH z (m * sz)))))) && ((match tki P xt with | some .i64=>true | _=>false) && (Nat.ble ((0 + m) * by') 140737488355328 && (Nat.ble (0 + m) maxLen && Nat.blt 0 m))) then some (.h (.slice (some ⟨n,0,none⟩) (0 + m) (0 + m)) (Yl H n ⟨e,sz,[] ++ XH z (m * sz)⟩) (n + 1)) else none
   | _,_=>none
  | _=>match Qkp P H xt sz vy with
   | some (m,cs)=>match a with
    | none=>bif Nat.beq k 0 && Nat.beq c 0 then (bif Nat.beq m 0 then some (.h (.slice none 0 0) H n) else match QO P e with
     | some z=>bif Nat.beq z.length sz && (Nat.ble ((0 + m) * by') 140737488355328 && (Nat.ble (0 + m) maxLen && Nat.blt 0 (0 + m))) then some (.h (.slice (some ⟨n,0,none⟩) (0 + m) (0 + m)) (Yl H n ⟨e,sz,[] ++ cs⟩) (n + 1)) else none
     | none=>none) else none
    | some ⟨p,off,q⟩=>bif Nat.beq off 0 then (match Yu H p with
     | some r=>bif Nat.ble (k + m) c then (bif Nat.ble (k * sz + cs.length) r.cs.length then some (.h (.slice (some ⟨p,0,q⟩) (k + m) c) (Yl H p { r with cs:=Qh r.cs (k * sz) cs }) n) else none)
      else (match q,QO P e with
       | none,some z=>bif (Nat.beq z.length sz && (Nat.beq r.ty e && (Nat.beq r.sz sz && (Nat.beq r.cs.length (c * sz) && Nat.blt 0 sz)))) && ((Nat.ble k c && Nat.ble c maxLen) && (Nat.ble ((k + m) * by') 140737488355328 && (Nat.ble (k + m) maxLen && Nat.blt 0 (k + m)))) then some (.h (.slice (some ⟨n,0,none⟩) (k + m) (k + m)) (Yl (Qia H p) n ⟨e,sz,r.cs.take (k * sz) ++ cs⟩) (n + 1)) else none
       | _,_=>none)
     | none=>none) else none
   | none=>none
 | _,_,_=>none
def Qp2 (dt : Nat) (d s : Operand) : Option Ans:=match opd L d,opd L s,tsl P dt with
 | some (.slice (some ⟨p,i,_⟩) k _),some (.slice (some ⟨p2,i2,_⟩) k2 _),some (_,sz,_)=>match Yu H p,Yu H p2 with
  | some r,some r2=>bif Nat.ble (i + min k2 k * sz) r.cs.length && Nat.ble (i2 + min k2 k * sz) r2.cs.length then some (.h (.int .i64 ((min k2 k : Nat) : Int)) (Yl H p { r with cs:=Qh r.cs i (cut r2.cs i2 (min k2 k * sz)) }) n) else none
  | _,_=>none
 | some (.slice (some ⟨p,i,_⟩) k _),some (.string ⟨⟨l⟩⟩),some (_,sz,_)=>match Yu H p with
  | some r=>bif Nat.beq sz 1 && Nat.ble (i + min l.length k) r.cs.length then some (.h (.int .i64 ((min l.length k : Nat) : Int)) (Yl H p { r with cs:=Qh r.cs i ((l.take (min l.length k)).map fun b=>Value.int .u8 (b.toNat : Int)) }) n) else none
  | none=>none
 | _,_,_=>none
def QkH (t : Nat) (x : Operand) : Option Ans:=match opd L x,tsl P t with
 | some (.slice (some ⟨p,i,_⟩) k _),some (e,sz,_)=>match Yu H p,QO P e with
  | some r,some z=>bif Nat.beq z.length sz && (z.all (·.oneCell') && (Nat.blt 0 z.length && (Xr (XH z (k * sz)) && Nat.ble (i + k * sz) r.cs.length))) then some (.h (.tuple #[]) (Yl H p { r with cs:=Qh r.cs i (XH z (k * sz)) }) n) else none
  | _,_=>none
 | _,_=>none
def Qds (b : Builtin) (args : List Operand) (ts : List TypeId) : Option Ans:=match b,args,ts with
 | .len,[x],[t]=>match opd L x with
  | some (.string ⟨⟨l⟩⟩)=>bif Xk P t then some (.p (.int .i64 (l.length : Int))) else none
  | some (.slice _ k _)=>bif Xs P t then some (.p (.int .i64 (k : Int))) else none
  | some (.pointer (some ⟨_,_,some _⟩))=>bif Xs P t then some (.p (.int .i64 0)) else none
  | _=>none
 | .cap,[x],[t]=>match opd L x with
  | some (.slice none _ c)=>bif Xs P t then some (.p (.int .i64 (c : Int))) else none
  | _=>none
 | .min,[x,y],_=>match opd L x,opd L y with
  | some (.int k a),some (.int k' b)=>bif kEq k k' then some (.p (.int k (if b < a then b else a))) else none
  | _,_=>none
 | .max,[x,y],_=>match opd L x,opd L y with
  | some (.int k a),some (.int k' b)=>bif kEq k k' then some (.p (.int k (if b > a then b else a))) else none
  | _,_=>none
 | .append,[s,y],[t,xt]=>Qij P L H n t xt s y
 | .copy,[d,s],[dt,_]=>Qp2 P L H n dt d s
 | .clear,[x],[t]=>QkH P L H n t x
 | _,_,_=>none
def QdC (F : CallF) (f : Option Value) (vs : Option (List Value)) : Option Ans:=match f,vs with
 | some (.func (.func g) first cap),some vs=>bif Qt P g then (match F.f F.y g (first.toList ++ vs ++ cap.toList) H n with
  | some (v,H',n')=>some (.h v H' n')
  | none=>none) else none
 | some (.func (.yield k) ⟨[]⟩ ⟨[]⟩),some vs=>match F.y k vs H n with
  | some (v,H',n')=>some (.h v H' n')
  | none=>none
 | _,_=>none
def Qad (t : Nat) : Option Value → Option Value → Option Ans
 | some (.map (some r)),some (.int .i64 a)=>match P.underlying t,Qfz H r with
  | some (.map kt et),some ks=>match tzv P et,tki P kt with
   | some (.bool false),some .i64=>some (.q (.bool (Qiu a ks)))
   | _,_=>none
  | _,_=>none
 | _,_=>none
def QcY (t : Nat) : Option Value → Option Value → Option Value → Option Ans
 | some (.map (some r)),some (.int .i64 a),some (.bool true)=>match P.underlying t,Qfz H r with
  | some (.map kt et),some ks=>match tki P kt with
   | some .i64=>some (.h (.tuple #[]) (YO H r (.mp (bif Qiu a ks then ks else ks ++ [a]))) n)
   | _=>none
  | _,_=>none
 | _,_,_=>none
def XD (F : CallF) : Op → Option Ans
 | .move x=>QdG (opd L x)
 | .assign x=>QdG (opd L x)
 | .pick c a b=>match opd L c,opd L a,opd L b with
  | some (.bool t),some x,some y=>some (.p (if t then x else y))
  | _,_,_=>none
 | .binOp op t x y _=>match opd L x,opd L y with
  | some a,some b=>QdG (ZG P op t a b)
  | _,_=>none
 | .unOp op _ x=>match opd L x with
  | some a=>QdG (Qeu op a)
  | none=>none
 | .convert src dst x=>match opd L x with
  | some a=>match QbE P src dst a with
   | some v=>some (.p v)
   | none=>QfI P H n src dst (some a)
  | none=>none
 | .extract x i=>match opd L x with
  | some (.tuple vs)=>QdG (vs.toList[i]?)
  | _=>none
 | .makeFunc (.func f) first cap=>match Qdc L first.toList,Qdc L cap.toList with
  | some a,some b=>bif a.all Qkj && b.all Qkj then some (.p (.func (.func f) a.toArray b.toArray)) else none
  | _,_=>none
 | .nilCheck x=>match opd L x with
  | some (.pointer (some ⟨m,i,none⟩))=>some (.p (.pointer (some ⟨m,i,none⟩)))
  | some (.func (.func f) a b)=>some (.p (.func (.func f) a b))
  | _=>none
 | .field st x f=>QdG (Qfw P st f (opd L x))
 | .index t x y=>QdG (Qfy P t (opd L x) (vN (opd L y)))
 | .slice t x lo hi none=>QdG (Qkf P L t lo hi (opd L x))
 | .slice t x lo (some hi) (some mx)=>QdG (Qih P L t lo hi mx (opd L x))
 | .fieldAddr st x f=>QdG (Qa6 P st f (opd L x))
 | .indexAddr t x y=>QdG (Z5 P t (opd L x) (vN (opd L y)))
 | .build t parts=>QdG (QkX P L t parts.toList)
 | .load t (.tmp x)=>match QfK P L H t x with
  | some v=>some (.q v)
  | none=>none
 | .store t (.tmp x) y=>Qin P L H n t x y
 | .alloc t=>Qva P H n t
 | .box t x=>QvM H n t (opd L x)
 | .buildSlice t 0 ⟨[]⟩=>match tsl P t with
  | some (e,sz,_)=>some (.h (.slice (some ⟨n,0,none⟩) 0 0) (Yl H n ⟨e,sz,[]⟩) (n + 1))
  | none=>none
 | .buildSlice t len parts=>Zs P L H n t len parts.toList
 | .makeSlice t x y=>QaZ P L H n t x y
 | .call ⟨.builtin b,args,ts⟩=>Qds P L H n b args.toList ts.toList
 | .call ⟨.value (.func g),args,_⟩=>match Qdc L args.toList with
  | some vs=>match F.e g vs with
   | some v=>some (.q v)
   | none=>QdC P H n F (some (.func (.func g) #[] #[])) (some vs)
  | none=>none
 | .call ⟨.value f,args,_⟩=>QdC P H n F (opd L f) (Qdc L args.toList)
 | .makeMap t none=>some (.h (.map (some n)) (YO H n (.mp [])) (n + 1))
 | .lookup t m x false=>Qad P H t (opd L m) (opd L x)
 | .mapUpdate t m x y=>QcY P H n t (opd L m) (opd L x) (opd L y)
 | _=>none
end
end Ev
end Gx
