/- Contracts of the program's functions, proved by walking them with the rules of the Gx texts; without conditions beyond those that each contract names. -/
import Derived.WalkKit
import Derived.Deep.Draws
import Derived.TacticsIn
import Derived.OrdersIn
import Derived.RangeFuncLeaves
import Derived.Lib.Strings
import Derived.Laws.BytesArg
import Derived.Laws.IdiomStrings
import Derived.Deep.Quiet
import Derived.ProofKit
import Derived.OpenShut
import Derived.Laws.StructEq
import Derived.ChangeKeysEq
import Derived.Laws.Externs
import Derived.Lib.Overlaps
import Derived.Carry
import Derived.Laws.Small
import Derived.Lib.Bytealg
import Derived.Lib.Builder
import Derived.Laws.Pointers
import Derived.RangeFuncRecord
import Derived.Test.YtpkhkcchibbhmaaGreatDoorProg
import Derived.KernelRfl
import Derived.SizedLaws
import Derived.ChangeSame
import Derived.Handed
import Derived.Test.YtpkhkcchibbhmaaGreatDoorTie
import Derived.Test.YtpkhkcchibbhmaaGreatDoorCards
import Derived.SevenTiedAt
import Derived.LaidMore
import Derived.Lay
import Derived.Stop.Joined
import Derived.Test.YtpkhkcchibbhmaaGreatDoorP2
set_option linter.unusedSimpArgs false
set_option linter.unusedVariables false
set_option linter.unusedSectionVars false
set_option linter.unnecessarySimpa false
namespace Go.Proofs
open Go Go.RowKit Gx
attribute [local irreducible] Go.Calls Gx.S Gx.O Gx.D Gx.OpP Gx.OpQ Gx.OpH
set_option maxRecDepth 20000
theorem Qtl : Qt Tryz.prog 154 = true:=by kernel_rfl
theorem Qnz : Qt Tryz.prog 88 = true:=by kernel_rfl
theorem Qo7 : Qt Tryz.prog 59 = true:=by kernel_rfl
theorem Qn9 : Qt Tryz.prog 89 = true:=by kernel_rfl
theorem c89 (w : World) (a : Option Addr) (cap : Nat) (l : List UInt8) (x : TEnt) (c : Int) (hw : HS w (fps [.byz a cap (l)]) [.byz a cap (l)] w) (hl : l.length ≤ 900000) (hl8 : l.length % 8 = 0) (hk : x.key.length ≤ 300) (hv : x.val.length ≤ 300) (hc : 0 ≤ c ∧ c < 4294967296) : Calls Tryz.prog 89 #[.slice a l.length cap,.agg #[.string (bs x.key),.string (bs x.val)],.int .i64 c] w fun en w'=>∃ g : Option Addr × Nat,en = .returned (.slice g.1 (l ++ XN x c).length g.2) ∧ QbD a cap g (l ++ XN x c).length ∧ HS w (fps [.byz a cap (l)]) [.byz g.1 g.2 (l ++ XN x c)] w':=by
 have hsz : x.sz = 8 + x.key.length + x.val.length:=rfl
 have hp8:=YF x.sz
 have l1 : (l ++ le2 ((QJ x.sz : Nat) : Int)).length = l.length + 2:=by rw [List.length_append];rfl
 have l2 : ((l ++ le2 ((QJ x.sz : Nat) : Int)) ++ [by8 x.key.length,by8 x.val.length]).length = l.length + 4:=by rw [List.length_append,l1];rfl
 have l3 : (((l ++ le2 ((QJ x.sz : Nat) : Int)) ++ [by8 x.key.length,by8 x.val.length]) ++ le4 c).length = l.length + 8:=by rw [List.length_append,l2];rfl
 have l4 : ((((l ++ le2 ((QJ x.sz : Nat) : Int)) ++ [by8 x.key.length,by8 x.val.length]) ++ le4 c) ++ x.key).length = l.length + 8 + x.key.length:=by rw [List.length_append,l3]
 have l5 : (((((l ++ le2 ((QJ x.sz : Nat) : Int)) ++ [by8 x.key.length,by8 x.val.length]) ++ le4 c) ++ x.key) ++ x.val).length = l.length + x.sz:=by rw [List.length_append,l4];omega
 have hpd : QJ (((((l ++ le2 ((QJ x.sz : Nat) : Int)) ++ [by8 x.key.length,by8 x.val.length]) ++ le4 c) ++ x.key) ++ x.val).length - (((((l ++ le2 ((QJ x.sz : Nat) : Int)) ++ [by8 x.key.length,by8 x.val.length]) ++ le4 c) ++ x.key) ++ x.val).length = QJ x.sz - x.sz:=by rw [l5,Qn7 hl8];omega
 have he9 : l ++ XN x c = (((((l ++ le2 ((QJ x.sz : Nat) : Int)) ++ [by8 x.key.length,by8 x.val.length]) ++ le4 c) ++ x.key) ++ x.val) ++ List.replicate (QJ (((((l ++ le2 ((QJ x.sz : Nat) : Int)) ++ [by8 x.key.length,by8 x.val.length]) ++ le4 c) ++ x.key) ++ x.val).length - (((((l ++ le2 ((QJ x.sz : Nat) : Int)) ++ [by8 x.key.length,by8 x.val.length]) ++ le4 c) ++ x.key) ++ x.val).length) 0:=by rw [hpd];simp only [XN,List.append_assoc]
 refine enter (args:=[_,_,_]) Tryz.func89 Tryz.ntmps89 rfl rfl hw ?_
 refine aS2 ?_
 refine oBx fun b1 _=>?_
 refine aS6 ?_
 refine o_p (Qk rfl rfl Tryz.underlying9) rfl ?_
 refine aS ?_
 try refine oWr ?_
 refine aS2 ?_
 refine o_p (Qk rfl rfl Tryz.underlying9) rfl ?_
 refine aS ?_
 try refine oWr ?_
 refine aS ?_
 try refine oWr ?_
 refine aS ?_
 try refine oWr ?_
 refine o_p (Qax rfl rfl rfl (by omega) (by omega) (by omega)) rfl ?_
 refine aS ?_
 try refine oWr ?_
 refine Qz (show _ = Value.int .i64 ((QJ x.sz : Nat) : Int) from by congr 1;unfold QJ;omega) ?_
 refine aS6 ?_
 refine o_p (Qs rfl rfl Zo Y5) rfl ?_
 refine Qz (show _ = Value.int .u16 ((QJ x.sz : Nat) : Int) from by first | rfl | (rw [Qru];congr 1;omega)) ?_
 refine o_h (Xw (Cs:=[.byz a cap (l)]) rfl Qjt rfl aPs (fun w1 h1 hf=>Qtd w1 a cap l ((QJ x.sz : Nat) : Int) hf (by omega) (by omega))) rfl (fun ⟨b2,c3⟩ hz4=>?_)
 refine aS7 ?_
 refine o_p (Qk rfl rfl Tryz.underlying9) rfl ?_
 refine o_p (Qs rfl rfl Zo ZA) rfl ?_
 refine Qz (YP _) ?_
 refine aS2 ?_
 refine o_p (Qk rfl rfl Tryz.underlying9) rfl ?_
 refine o_p (Qs rfl rfl Zo ZA) rfl ?_
 refine Qz (YP _) ?_
 refine o_h (Qp (cs:=[_,_]) rfl rfl QQ Qbs rfl rfl rfl) rfl (fun b5 _=>?_)
 refine o_h (ZE (l:=(l ++ le2 ((QJ x.sz : Nat) : Int))) [by8 x.key.length,by8 x.val.length] rfl rfl rfl QQ Tryz.underlying139 Qbs aPk (Xv aPk) (by simp only [List.length_append,List.length_cons,List.length_nil,le2,le4] <;> omega) (by simp only [maxLen,List.length_append,List.length_cons,List.length_nil,le2,le4] <;> omega)) rfl (fun ⟨b6,c7⟩ h8=>?_)
 refine aS3 ?_
 refine Qm (L':=[(0,_),(2,_),(4,_),(6,_)]) aSx (fun _ h=>h) ?_
 refine aS3 ?_
 refine o_p (Qs rfl rfl Zo Qag) rfl ?_
 refine Qz (show _ = Value.int .u32 c from by first | rfl | (rw [Qgg];congr 1;omega)) ?_
 refine o_h (Xw (Cs:=[.byz b6 c7 (((l ++ le2 ((QJ x.sz : Nat) : Int)) ++ [by8 x.key.length,by8 x.val.length]))]) rfl Qno rfl aPs (fun w1 h1 hf=>c153 w1 b6 c7 ((l ++ le2 ((QJ x.sz : Nat) : Int)) ++ [by8 x.key.length,by8 x.val.length]) c hf hc (by omega))) rfl (fun ⟨b9,c10⟩ hz11=>?_)
 refine aS3 ?_
 refine Qke [.blk b1 27 2 [.string (bs x.key),.string (bs x.val)]] [] Q8 ?_
 refine dP 0 ?_
 refine dFa 1 ?_
 refine dLd 2 [] ?_
 refine dFa 4 ?_
 refine dLd 5 [] ?_
 refine dH 3 rfl (Qct (l:=(((l ++ le2 ((QJ x.sz : Nat) : Int)) ++ [by8 x.key.length,by8 x.val.length]) ++ le4 c)) rfl rfl rfl QQ Tryz.underlying9 Qbs aPk (by simp only [List.length_append,List.length_cons,List.length_nil,le2,le4] <;> omega) (by simp only [maxLen,List.length_append,List.length_cons,List.length_nil,le2,le4] <;> omega)) (fun ⟨b12,c13⟩ h14=>?_)
 refine dH 6 rfl (Qct (l:=((((l ++ le2 ((QJ x.sz : Nat) : Int)) ++ [by8 x.key.length,by8 x.val.length]) ++ le4 c) ++ x.key)) rfl rfl rfl QQ Tryz.underlying9 Qbs aPk (by simp only [List.length_append,List.length_cons,List.length_nil,le2,le4] <;> omega) (by simp only [maxLen,List.length_append,List.length_cons,List.length_nil,le2,le4] <;> omega)) (fun ⟨b15,c16⟩ h17=>?_)
 refine dH 7 rfl (Xw (Cs:=[.byz b15 c16 ((((((l ++ le2 ((QJ x.sz : Nat) : Int)) ++ [by8 x.key.length,by8 x.val.length]) ++ le4 c) ++ x.key) ++ x.val))]) rfl Qtl rfl aPs (fun w1 h1 hf=>c154 w1 b15 c16 (((((l ++ le2 ((QJ x.sz : Nat) : Int)) ++ [by8 x.key.length,by8 x.val.length]) ++ le4 c) ++ x.key) ++ x.val) hf (by omega))) (fun ⟨b18,c19⟩ hz20=>?_)
 refine dP 8 ?_
 refine dNi ?_
 exact rT rfl rfl (fun w' h'=>⟨(b18,c19),by rw [he9];rfl,by rw [he9];exact (((((hz4).trans h8 (by simp only [List.length_append];omega)).trans hz11 (by simp only [List.length_append];omega)).trans h14 (by simp only [List.length_append];omega)).trans h17 (by simp only [List.length_append];omega)).trans hz20 (by simp only [List.length_append];omega),by rw [he9];exact h'.ent aEt⟩)
theorem c26 (w : World) (x : TEnt) (c : Int) (hk : x.key.length ≤ 1000000) (hv : x.val.length ≤ 1000000) : Calls Tryz.prog 26 #[.agg #[.string (bs x.key),.string (bs x.val)],.int .i64 c] w fun en w'=>en = .returned (.tuple #[.string (bs (if Xx x c = 0 then XN x c else [])),.int .i64 (Xx x c)]) ∧ Below w.heap.size w w':=by
 have hf9 : Yy [.int .i64 (cond (decide (1 ≤ (x.key.length : Int)) && decide ((x.key.length : Int) ≤ 40)) 0 3),.int .i64 (cond (Ys x) 0 8),.int .i64 (cond (decide (0 ≤ c) && decide (c ≤ 120)) 0 2)] = Xx x c:=by simp only [Yy,Xx,Ys,cond_eq_ite,Bool.and_eq_true,decide_eq_true_eq];grind
 refine enter (args:=[_,_]) Tryz.func26 Tryz.ntmps26 rfl rfl (HS.refl w []) ?_
 refine aS2 ?_
 refine oBx fun b1 _=>?_
 refine aS4 ?_
 refine QL [] Q8 ?_
 refine dFa 0 ?_
 refine dLd 1 [] ?_
 refine dV 2 rfl (Qk rfl rfl Tryz.underlying9) ?_
 refine dQ 3 [] rfl (Qb rfl Qod rfl (fun w1 h1=>c87 w1 _ _ _)) ?_
 refine dQ 4 [] rfl (Qb rfl Qgh rfl (fun w1 h1=>c60 w1 _ _)) ?_
 refine dLn 5 [] ?_
 refine dQ 6 [] rfl (Qb rfl Qnz rfl (fun w1 h1=>c88 w1 _ (by omega) (by omega))) ?_
 refine dQ 7 [] rfl (Qb rfl Qgh rfl (fun w1 h1=>c60 w1 _ _)) ?_
 refine dP 8 ?_
 refine dQ 9 [] rfl (Qb rfl Qod rfl (fun w1 h1=>c87 w1 _ _ _)) ?_
 refine dQ 10 [] rfl (Qb rfl Qgh rfl (fun w1 h1=>c60 w1 _ _)) ?_
 refine dH 11 rfl (Qp (cs:=[_,_,_]) rfl rfl ZO Qds rfl rfl rfl) (fun b2 _=>?_)
 refine dBa ?_
 refine dQ 12 [] rfl (Qb rfl Qo7 rfl (fun w1 h1=>f59 h1 aPk (by rfl) (by rfl) (by decide))) ?_
 refine dP 13 ?_
 refine dNi ?_
 refine aS6 ?_
 refine Qc rfl (fun h3=>?_) fun h3=>?_
 ·try simp only [Bool.not_eq_true',decide_eq_false_iff_not] at h3
  have h0 : ¬ Xx x c = 0:=by have hq:=h3;rw [hf9] at hq;exact hq
  refine aS6 ?_
  exact Qq (rs:=[.tmp 4,.tmp 5]) rfl (.tmp rfl (.tmp rfl (.nil))) (fun w' h'=>⟨by rw [hf9,if_neg h0];rfl,h'.below⟩)
 try simp only [Bool.not_eq_false',decide_eq_true_eq] at h3
 have h0 : Xx x c = 0:=by have hq:=h3;rw [hf9] at hq;exact hq
 have hk9 : x.key.length ≤ 300 ∧ x.val.length ≤ 300 ∧ 0 ≤ c ∧ c < 4294967296:=by have hq:=h0;unfold Xx at hq;split at hq;(split at hq;(split at hq;omega;cases hq);cases hq);cases hq
 refine aS5 ?_
 refine Yj (fun w h=>h.byz_nil) ?_
 refine o_h (Xw (Cs:=[.byz none 0 []]) rfl Qn9 rfl aPs (fun w1 h1 hf=>c89 w1 none 0 [] x c hf (Nat.zero_le _) rfl hk9.1 hk9.2.1 hk9.2.2)) rfl (fun ⟨b4,c5⟩ hz6=>?_)
 refine Yj (fun w h=>h.byz_own .here) ?_
 refine o_q (Qa3 rfl rfl Tryz.underlying139 Tryz.underlying9 Tryz.underlying5 aPk (Qc1 _)) rfl ?_
 refine aS3 ?_
 exact Qq (rs:=[.tmp 4,.tmp 5]) rfl (.tmp rfl (.tmp rfl (.nil))) (fun w' h'=>⟨by rw [if_pos h0,h0,QbW];rfl,h'.below⟩)
theorem Qnj : Qt Tryz.prog 202 = true:=by kernel_rfl
theorem Qov : Qt Tryz.prog 156 = true:=by kernel_rfl
theorem Qjb : Qt Tryz.prog 30 = true:=by kernel_rfl
theorem c202 (w : World) (b : Nat) (n : LNd) (i : Nat) (hb : Rd w [] b 2 (.slice n.ca n.cs.length n.cc)) (hcs : Rw inV 1 w [] n.ca n.cs) (hl : n.cs.length ≤ 1000000) (hi : n.cs.length = 0 ∨ i < n.cs.length) : Calls Tryz.prog 202 #[.int .i64 (i : Int),.pointer (some ⟨b,0,none⟩)] w fun en w'=>en = .returned (.int .i64 (QR n.cs i)) ∧ Below w.heap.size w w':=by
 refine enter (args:=[_,_]) Tryz.func202 Tryz.ntmps202 rfl rfl (HS.refl w []) ?_
 refine aS8 ?_
 refine o_q (Qe rfl rfl QbF (hb)) rfl ?_
 refine aS3 ?_
 refine Qc rfl (fun h1=>?_) fun h1=>?_
 ·try simp only [dT] at h1
  have hz : QR n.cs i = 0:=if_pos (by have hq:=h1;omega)
  refine aS4 ?_
  exact rT rfl rfl (fun w' h'=>⟨by rw [hz];rfl,h'.below⟩)
 try simp only [dN] at h1
 have hc0 : ¬ n.cs.length = 0:=by have hq:=h1;omega
 have hz : QR n.cs i = nth n.cs i:=if_neg hc0
 refine aS4 ?_
 refine o_q (Qe rfl rfl QbF (hb)) rfl ?_
 refine aS ?_
 refine o_p (Qa rfl rfl rfl Q7 (i) (by omega) (by omega) (Rw.some hcs (by omega))) rfl ?_
 refine o_q (Qe rfl rfl Y9 ((hcs.rdj (i:=i) 0 (by omega) rfl))) rfl ?_
 refine aS2 ?_
 exact rT rfl rfl (fun w' h'=>⟨by rw [hz];rfl,h'.below⟩)
theorem c148 (w : World) (a : Option Addr) (cap : Nat) (l : List UInt8) (n : LNd) (hw : HS w (fps [.byz a cap (l)]) [.byz a cap (l)] w) (hl : l.length ≤ 100000) (hl8 : l.length % 8 = 0) (hes : Rw TEnt.vals 2 w (fps [.byz a cap (l)]) n.ea n.es) (hcs : Rw inV 1 w (fps [.byz a cap (l)]) n.ca n.cs) (hp : NdP n.pl) : Calls Tryz.prog 148 #[.slice a l.length cap,.agg #[.bool n.us,.slice n.ea n.es.length n.ec,.slice n.ca n.cs.length n.cc]] w fun en w'=>∃ g : Option Addr × Nat,en = .returned (.slice g.1 (l ++ X6 n.pl).length g.2) ∧ QbD a cap g (l ++ X6 n.pl).length ∧ HS w (fps [.byz a cap (l)]) [.byz g.1 g.2 (l ++ X6 n.pl)] w':=by
 have hcl : n.cs.length = 0 ∨ n.cs.length = n.es.length + 1:=hp.cl
 have hel : n.es.length ≤ 1000:=hp.el
 have he9 : l ++ X6 n.pl = (l ++ QF n.pl n.es.length) ++ Qak (QR n.cs n.es.length):=by rw [List.append_assoc];rfl
 have hee:=hp.ents n.es.length (Nat.le_refl _)
 have hle : (l ++ QF n.pl n.es.length).length = l.length + (QF n.pl n.es.length).length:=List.length_append
 have hke : 0 ≤ QR n.cs n.es.length ∧ QR n.cs n.es.length < 4294967296:=hp.kid (i:=n.es.length) (Nat.le_refl _)
 refine enter (args:=[_,_]) Tryz.func148 Tryz.ntmps148 rfl rfl hw ?_
 refine aS2 ?_
 refine oBx fun b1 _=>?_
 iterate 16 refine aS ?_
 refine QB (α:=Nat × Option Addr × Nat) [0,6,7,12,13,14,15,16,17,18,19,20,21,22,23] (fun x=>[(12,.int .i64 (x.1 : Int)),(0,.slice x.2.1 (l ++ QF n.pl x.1).length x.2.2)]) (fun x=>HS w (fps [.byz a cap (l)]) [.byz x.2.1 x.2.2 (l ++ QF n.pl x.1),.blk b1 69 3 (LNd.vals n)]) (fun x=>x.1 ≤ n.es.length ∧ QbD a cap (x.2.1,x.2.2) (l ++ QF n.pl x.1).length) (fun x=>n.es.length - x.1) (0,a,cap) ⟨Nat.zero_le _,fun _=>⟨rfl,rfl⟩⟩ (by simp only [QF,List.append_nil];exact aSx) (fun w h=>(by simp only [QF,List.append_nil];exact h.ent aEt)) (fun ⟨k,a2,c2⟩ hk1=>?_)
 dsimp only
 simp only [] at hk1
 obtain ⟨hk2,hk3⟩:=hk1
 have hek:=hp.ents k hk2
 have hlk : (l ++ QF n.pl k).length = l.length + (QF n.pl k).length:=List.length_append
 refine aS5 ?_
 refine Qc rfl (fun h2=>?_) fun h2=>?_
 ·try simp only [dT] at h2
  have hk : k < n.es.length:=by omega
  have hst : l ++ QF n.pl (k + 1) = (l ++ QF n.pl k) ++ XN (nth n.es k) (QR n.cs k):=by rw [List.append_assoc];rfl
  have hkk : 0 ≤ QR n.cs k ∧ QR n.cs k < 4294967296:=hp.kid (i:=k) (Nat.le_of_lt hk)
  have hx9 : (nth n.es k).key.length ≤ 300 ∧ (nth n.es k).val.length ≤ 300:=hp.es _ (Qy hk)
  refine aS6 ?_
  refine o_p (Qa rfl rfl rfl QX (k) (by omega) (by omega) (Rw.some hes (by omega))) rfl ?_
  refine o_q (QA _ rfl rfl Qbm rfl (Rw.rd hes (by omega))) rfl ?_
  refine oAl (fun b3 _=>?_) Zv
  refine aS ?_
  refine oSt ?_
  refine aS ?_
  refine QL [5] Q8 ?_
  refine dP 0 ?_
  refine dLn 1 [[]] ?_
  refine dP 2 ?_
  refine dP 3 ?_
  refine dQ 4 [[]] rfl (YG rfl rfl Qnj rfl (fun w1 h1=>c202 w1 b1 n k (h1.rd_blk (Mc:=[]) aPk rfl (by simp)) (hcs.later h1) (by omega) (by omega))) ?_
  refine dH 5 rfl (Xw (Cs:=[.byz a2 c2 (l ++ QF n.pl k)]) rfl Qn9 rfl aPs (fun w1 h1 hf=>c89 w1 a2 c2 (l ++ QF n.pl k) (nth n.es k) (QR n.cs k) hf (by omega) (by omega) hx9.1 hx9.2 hkk)) (fun ⟨b4,c5⟩ hz6=>?_)
  refine dTu [] ?_
  refine dP 6 ?_
  refine dNi ?_
  refine aS3 ?_
  try refine oWr ?_
  refine aS2 ?_
  exact Qw (k + 1,b4,c5) (by (try simp only []);omega) (by simp only [];rw [hst];exact ⟨by omega,hk3.trans hz6 (by simp only [List.length_append];omega)⟩) (by dsimp only;rw [hst];exact aSx) (fun w h=>by dsimp only;rw [hst];exact h.ent aEt)
 try simp only [dN] at h2
 obtain rfl : k = n.es.length:=by omega
 refine Qo rfl ?_
 refine aS7 ?_
 refine o_q (YG rfl rfl Qnj rfl (fun w1 h1=>c202 w1 b1 n n.es.length (h1.rd_blk (Mc:=[]) aPk rfl (by simp)) (hcs.later h1) (by omega) (by omega))) rfl ?_
 refine o_h (Xw (Cs:=[.byz a2 c2 (l ++ QF n.pl n.es.length)]) rfl Qov rfl aPs (fun w1 h1 hf=>c156 w1 a2 c2 (l ++ QF n.pl n.es.length) (QR n.cs n.es.length) hf hke (by omega))) rfl (fun ⟨b7,c8⟩ hz9=>?_)
 refine aS2 ?_
 exact rT rfl rfl (fun w' h'=>⟨(b7,c8),by rw [he9];rfl,by rw [he9];exact hk3.trans hz9 (by simp only [List.length_append];omega),by rw [he9];exact h'.ent aEt⟩)
theorem c99 (w : World) (n : LNd) (hes : Rw TEnt.vals 2 w [] n.ea n.es) (hcs : Rw inV 1 w [] n.ca n.cs) (hp : NdP n.pl) : Calls Tryz.prog 99 #[.agg #[.bool n.us,.slice n.ea n.es.length n.ec,.slice n.ca n.cs.length n.cc]] w fun en w'=>en = .returned (.string (bs (X6 n.pl))) ∧ Below w.heap.size w w':=by
 have hcl : n.cs.length = 0 ∨ n.cs.length = n.es.length + 1:=hp.cl
 have hel : n.es.length ≤ 1000:=hp.el
 have hee:=hp.ents n.es.length (Nat.le_refl _)
 have l82:=Yr 2 8
 have hcb : (X6 n.pl).length = (QF n.pl n.es.length).length + 8:=by unfold X6;rw [List.length_append,QaG];rfl
 refine enter (args:=[_]) Tryz.func99 Tryz.ntmps99 rfl rfl (HS.refl w []) ?_
 refine aS2 ?_
 refine oBx fun b1 _=>?_
 refine Qer ?_
 refine QB (α:=Nat) [3,4,5,6,7,8,9,10,11,12,13,14,15,16,17,18,19,20,21,22,23,24,25,26,27,28,29,30,31,32,33,34,35,36,37,38,39,40,41,42,43] (fun k=>[(4,.int .i64 (k : Int)),(3,.string (bs (QhD n.pl k)))]) (fun _=>HS w [] [.blk b1 69 3 (LNd.vals n)]) (fun k=>k ≤ n.es.length + 1) (fun k=>n.es.length + 1 - k) 0 (Nat.zero_le _) aSx (fun w h=>h.ent aEt) (fun k hk1=>?_)
 refine aS9 ?_
 refine Qc rfl (fun h2=>?_) fun h2=>?_
 ·try simp only [dT] at h2
  have hk : k ≤ n.es.length:=by omega
  have hkk : 0 ≤ QR n.cs k ∧ QR n.cs k < 4294967296:=hp.kid (i:=k) hk
  have hek:=hp.ents k hk
  have lc4:=Yr 4 (QR n.cs k)
  have hpk : QhD n.pl k = QF n.pl k:=Qkk hk
  rw [hpk]
  iterate 15 refine aS ?_
  refine Yh (α:=Unit) [5,17,18,19,20,21] (fun _=>[(5,.int .i64 (QR n.cs k))]) (fun _=>HS w [] [.blk b1 69 3 (LNd.vals n)]) (fun _=>True) ?_ ?_
  ·skip
   refine Qc rfl (fun h3=>?_) fun h3=>?_
   ·try simp only [dT] at h3
    have hc0 : ¬ n.cs.length = 0:=by have hq:=h3;omega
    have hz : QR n.cs k = nth n.cs k:=if_neg hc0
    refine aS4 ?_
    refine o_p (Qa rfl rfl rfl Q7 (k) (by omega) (by omega) (Rw.some hcs (by omega))) rfl ?_
    refine o_q (Qe rfl rfl Y9 ((hcs.rdj (i:=k) 0 (by omega) rfl))) rfl ?_
    refine aS2 ?_
    exact Qx () trivial (by rw [hz];exact aSx) (fun w h=>h.ent aEt)
   try simp only [dN] at h3
   have hz : QR n.cs k = 0:=if_pos (by have hq:=h3;omega)
   refine aS ?_
   exact Qx () trivial (by rw [hz];exact aSx) (fun w h=>h.ent aEt)
  intro _ _
  refine aS8 ?_
  refine Qc rfl (fun h4=>?_) fun h4=>?_
  ·try simp only [dT] at h4
   have hkl : k < n.es.length:=by have hq:=h4;omega
   have hst : QhD n.pl (k + 1) = QF n.pl k ++ XN (nth n.es k) (QR n.cs k):=Qmw hkl
   have hx9 : (nth n.es k).key.length ≤ 300 ∧ (nth n.es k).val.length ≤ 300:=hp.es _ (Qy hkl)
   have hen9:=Qc2 (nth n.es k) (QR n.cs k)
   have hp89:=YF (nth n.es k).sz
   have hsz9 : (nth n.es k).sz = 8 + (nth n.es k).key.length + (nth n.es k).val.length:=rfl
   refine aS5 ?_
   refine o_p (Qa rfl rfl rfl QX (k) (by omega) (by omega) (Rw.some hes (by omega))) rfl ?_
   refine o_q (QA _ rfl rfl Qbm rfl (Rw.rd hes (by omega))) rfl ?_
   refine aS ?_
   refine o_q (Qb rfl Qjb rfl (fun w1 h1=>c30 w1 (nth n.es k) (QR n.cs k) hx9.1 hx9.2 hkk)) rfl ?_
   refine o_p (Xl rfl rfl rfl (by (try simp only [List.length_append,List.length_cons,List.length_nil,List.length_replicate,List.length_take,List.length_drop]);omega)) rfl ?_
   refine aS6 ?_
   try refine oWr ?_
   refine aS2 ?_
   exact Qw (k + 1) (by omega) (by omega) (by rw [hst];exact aSx) (fun w h=>h.ent aEt)
  try simp only [dN] at h4
  obtain rfl : k = n.es.length:=by have hq:=h4;omega
  have hst : QhD n.pl (n.es.length + 1) = ((QF n.pl n.es.length ++ Qbt 2 8) ++ List.replicate 2 0) ++ Qbt 4 (QR n.cs n.es.length):=by rw [show QhD n.pl (n.es.length + 1) = X6 n.pl from QhT n.pl];simp only [X6,Qak,QmJ,QoH,List.append_assoc];rfl
  refine aS2 ?_
  refine o_q (Qb rfl Qcx rfl (fun w1 h1=>c94 w1 8 2 (by omega) (by omega))) rfl ?_
  refine o_p (Xl rfl rfl rfl (by (try simp only [List.length_append,List.length_cons,List.length_nil,List.length_replicate,List.length_take,List.length_drop]);omega)) rfl ?_
  refine o_q (Qb rfl Qrs rfl (fun w1 h1=>c86 w1 2 (by omega))) rfl ?_
  refine o_p (Xl rfl rfl rfl (by (try simp only [List.length_append,List.length_cons,List.length_nil,List.length_replicate,List.length_take,List.length_drop]);omega)) rfl ?_
  refine aS ?_
  refine o_q (Qb rfl Qcx rfl (fun w1 h1=>c94 w1 (QR n.cs n.es.length) 4 (by omega) (by omega))) rfl ?_
  refine o_p (Xl rfl rfl rfl (by (try simp only [List.length_append,List.length_cons,List.length_nil,List.length_replicate,List.length_take,List.length_drop]);omega)) rfl ?_
  refine aS6 ?_
  try refine oWr ?_
  refine aS2 ?_
  exact Qw (n.es.length + 1) (by omega) (by omega) (by rw [hst];exact aSx) (fun w h=>h.ent aEt)
 try simp only [dN] at h2
 obtain rfl : k = n.es.length + 1:=by omega
 rw [show QhD n.pl (n.es.length + 1) = X6 n.pl from QhT n.pl]
 refine Qo rfl ?_
 refine aS5 ?_
 exact rT rfl rfl (fun w' h'=>⟨by rfl,h'.below⟩)
end Go.Proofs
namespace Gx
open Go Go.RowKit
theorem QnX {t : Tre} {i j : Nat} (hi : i < t.ns.length) (hj : j < (nth t.ns i).es.length) (h : Ys (nth (nth t.ns i).es j) = false) : t.ns.all Zk = false:=by
 cases hb : t.ns.all Zk with
 | false=>rfl
 | true=>
  have h1:=List.all_eq_true.1 hb _ (Qy hi);have h2:=List.all_eq_true.1 h1 _ (Qy hj);rw [h] at h2;cases h2
theorem Qmk {n : Nd} (h : ∀ j,j < n.es.length → Ys (nth n.es j) = true) : Zk n = true:=by
 refine List.all_eq_true.2 fun x hx=>?_;obtain ⟨i,hi,e⟩:=List.getElem_of_mem hx;have:=h i hi
 rwa [YY (x:=x) (by rw [List.getElem?_eq_getElem hi,e])] at this
theorem Qmb {ns : List Nd} (h : ∀ i,i < ns.length → Zk (nth ns i) = true) : ns.all Zk = true:=by
 refine List.all_eq_true.2 fun x hx=>?_;obtain ⟨i,hi,e⟩:=List.getElem_of_mem hx;have:=h i hi
 rwa [YY (x:=x) (by rw [List.getElem?_eq_getElem hi,e])] at this
def QgC (L : List LNd) : List Bool:=L.map fun n=>!Zk n.pl
def Qgb (es : List TEnt) : List Bool:=es.map fun x=>!Ys x
theorem Ql9 (es : List TEnt) : (Qgb es).any id = !(es.all Ys):=by
 unfold Qgb;rw [List.any_map,List.all_eq_not_any_not,Bool.not_not];rfl
theorem QlT (L : List LNd) : (QgC L).any id = !((pln L).all Zk):=by
 unfold QgC;rw [List.any_map,List.all_map,List.all_eq_not_any_not,Bool.not_not];rfl
theorem QlC {es : List TEnt} {k : Nat} (h : k < es.length) : (Qgb es).getD k false = !Ys (nth es k):=by
 unfold Qgb;rw [QaB (d:=default) h];rfl
theorem Ql2 {L : List LNd} {k : Nat} (h : k < L.length) : (QgC L).getD k false = !Zk (nth L k).pl:=by
 unfold QgC;rw [QaB (d:=default) h];rfl
end Gx
namespace Go.Proofs
open Go Go.RowKit Gx
attribute [local irreducible] Go.Calls Gx.S Gx.O Gx.D Gx.OpP Gx.OpQ Gx.OpH
set_option maxRecDepth 20000
theorem Qtx : Qt Tryz.prog 144 = true:=by kernel_rfl
theorem Qto : Qt Tryz.prog 142 = true:=by kernel_rfl
theorem QsO : Qt Tryz.prog 176 = true:=by kernel_rfl
theorem Qtc : Qt Tryz.prog 201 = true:=by kernel_rfl
theorem QtI : Qt Tryz.prog 143 = true:=by kernel_rfl
theorem QsL : Qt Tryz.prog 140 = true:=by kernel_rfl
theorem QtJ : Qt Tryz.prog 141 = true:=by kernel_rfl
theorem c144 (w : World) (x : TEnt) (hk : x.key.length ≤ 1000000) (hv : x.val.length ≤ 1000000) : Calls Tryz.prog 144 #[.agg #[.string (bs x.key),.string (bs x.val)]] w fun en w'=>en = .returned (.bool (!Ys x)) ∧ Below w.heap.size w w':=by
 refine enter (args:=[_]) Tryz.func144 Tryz.ntmps144 rfl rfl (HS.refl w []) ?_
 refine aS2 ?_
 refine oBx fun b1 _=>?_
 refine aS5 ?_
 refine o_q (Qb rfl Qnz rfl (fun w1 h1=>c88 w1 _ (by omega) (by omega))) rfl ?_
 refine aS3 ?_
 exact rT rfl rfl (fun w' h'=>⟨rfl,h'.below⟩)
theorem c176 (w : World) (a : Option Addr) (cap : Nat) (l : List TEnt) (q : Nat) (cv : Array Value) (bt : List Bool) (hs : Rw TEnt.vals 2 w [] a l) (hm : l.length ≤ 1000000) (hq : Qt Tryz.prog q = true) (hb : bt.length = l.length) (hc : ∀ k w1,k < l.length → HS w [] [] w1 → Calls Tryz.prog q (#[] ++ [.agg (TEnt.vals (nth l k)).toArray].toArray ++ cv) w1 fun en w2=>en = .returned (.bool (bt.getD k false)) ∧ Below w1.heap.size w1 w2) : Calls Tryz.prog 176 #[.slice a l.length cap,.func (.func q) #[] cv] w fun en w'=>en = .returned (.int .i64 (ixI bt)) ∧ Below w.heap.size w w':=by
 refine enter (args:=[_,_]) Tryz.func176 Tryz.ntmps176 rfl rfl (HS.refl w []) ?_
 refine Qer ?_
 refine QB (α:=Nat) [4,5,8,9,10,11,12,13,14,15,16,17,18] (fun k=>[(8,.int .i64 (k : Int))]) (fun _=>_) (fun k=>k ≤ l.length ∧ ∀ i,i < k → bt.getD i false = false) (fun k=>l.length - k) 0 ⟨by omega,fun i h=>absurd h (Nat.not_lt_zero i)⟩ aSx (fun w h=>h) (fun k hk=>?_)
 obtain ⟨hk1,hk2⟩:=hk
 refine aS5 ?_
 refine Qc rfl (fun h1=>?_) fun h1=>?_
 ·try simp only [dT] at h1
  iterate 13 refine aS ?_
  refine o_p (Qa rfl rfl rfl QX (k) (by omega) (by omega) (Rw.some hs (by omega))) rfl ?_
  refine o_q (QA _ rfl rfl Qbm rfl (Rw.rd hs (by omega))) rfl ?_
  refine o_q (YG rfl rfl hq rfl (fun w1 h1=>hc k w1 (by omega) (h1.ent aEt))) rfl ?_
  refine aS ?_
  refine Qc rfl (fun h2=>?_) fun h2=>?_
  ·skip
   refine aS5 ?_
   exact rT rfl rfl (fun w' h'=>⟨by have e:=Qbb (l:=bt) (k:=k) (by omega) hk2 (fun _=>by assumption);simp only [QV,ixI,e];rw [if_pos (by omega)],h'.below⟩)
  skip
  refine aS4 ?_
  try refine oWr ?_
  refine aS2 ?_
  exact Qw (k+1) (by omega) ⟨by omega,fun i hi=>(Nat.lt_or_ge i k).elim (hk2 i) (fun h=>by obtain rfl : i = k:=(by omega);assumption)⟩ aSx (fun w h=>h)
 try simp only [dN] at h1
 refine Qo rfl ?_
 refine aS4 ?_
 exact rT rfl rfl (fun w' h'=>⟨by have e:=Qbb (l:=bt) (k:=k) (by omega) hk2 (fun h=>by omega);simp only [QV,ixI,e];rw [if_neg (by omega)],h'.below⟩)
theorem c143 (w : World) (a : Option Addr) (cap : Nat) (l : List TEnt) (q : Nat) (cv : Array Value) (bt : List Bool) (hs : Rw TEnt.vals 2 w [] a l) (hm : l.length ≤ 1000000) (hq : Qt Tryz.prog q = true) (hb : bt.length = l.length) (hc : ∀ k w1,k < l.length → HS w [] [] w1 → Calls Tryz.prog q (#[] ++ [.agg (TEnt.vals (nth l k)).toArray].toArray ++ cv) w1 fun en w2=>en = .returned (.bool (bt.getD k false)) ∧ Below w1.heap.size w1 w2) : Calls Tryz.prog 143 #[.slice a l.length cap,.func (.func q) #[] cv] w fun en w'=>en = .returned (.bool (bt.any id)) ∧ Below w.heap.size w w':=by
 refine enter (args:=[_,_]) Tryz.func143 Tryz.ntmps143 rfl rfl (HS.refl w []) ?_
 refine aS8 ?_
 refine o_q (Qb rfl QsO rfl (fun w1 h1=>c176 w1 a cap l q cv bt (hs.later h1) hm hq hb (fun k w2 hk h2=>hc k w2 hk (by simpa using h1.call h2)))) rfl ?_
 refine aS3 ?_
 exact rT rfl rfl (fun w' h'=>⟨by simp only [QV];rw [← QeJ],h'.below⟩)
theorem c201 (w : World) (a : Option Addr) (cap : Nat) (l : List LNd) (q : Nat) (cv : Array Value) (bt : List Bool) (hs : Rw LNd.vals 3 w [] a l) (hm : l.length ≤ 1000000) (hq : Qt Tryz.prog q = true) (hb : bt.length = l.length) (hc : ∀ k w1,k < l.length → HS w [] [] w1 → Calls Tryz.prog q (#[] ++ [.agg (LNd.vals (nth l k)).toArray].toArray ++ cv) w1 fun en w2=>en = .returned (.bool (bt.getD k false)) ∧ Below w1.heap.size w1 w2) : Calls Tryz.prog 201 #[.slice a l.length cap,.func (.func q) #[] cv] w fun en w'=>en = .returned (.int .i64 (ixI bt)) ∧ Below w.heap.size w w':=by
 refine enter (args:=[_,_]) Tryz.func201 Tryz.ntmps201 rfl rfl (HS.refl w []) ?_
 refine Qer ?_
 refine QB (α:=Nat) [4,5,8,9,10,11,12,13,14,15,16,17,18] (fun k=>[(8,.int .i64 (k : Int))]) (fun _=>_) (fun k=>k ≤ l.length ∧ ∀ i,i < k → bt.getD i false = false) (fun k=>l.length - k) 0 ⟨by omega,fun i h=>absurd h (Nat.not_lt_zero i)⟩ aSx (fun w h=>h) (fun k hk=>?_)
 obtain ⟨hk1,hk2⟩:=hk
 refine aS5 ?_
 refine Qc rfl (fun h1=>?_) fun h1=>?_
 ·try simp only [dT] at h1
  iterate 13 refine aS ?_
  refine o_p (Qa rfl rfl rfl Xm (k) (by omega) (by omega) (Rw.some hs (by omega))) rfl ?_
  refine o_q (QA _ rfl rfl Xz rfl (Rw.rd hs (by omega))) rfl ?_
  refine o_q (YG rfl rfl hq rfl (fun w1 h1=>hc k w1 (by omega) (h1.ent aEt))) rfl ?_
  refine aS ?_
  refine Qc rfl (fun h2=>?_) fun h2=>?_
  ·skip
   refine aS5 ?_
   exact rT rfl rfl (fun w' h'=>⟨by have e:=Qbb (l:=bt) (k:=k) (by omega) hk2 (fun _=>by assumption);simp only [QV,ixI,e];rw [if_pos (by omega)],h'.below⟩)
  skip
  refine aS4 ?_
  try refine oWr ?_
  refine aS2 ?_
  exact Qw (k+1) (by omega) ⟨by omega,fun i hi=>(Nat.lt_or_ge i k).elim (hk2 i) (fun h=>by obtain rfl : i = k:=(by omega);assumption)⟩ aSx (fun w h=>h)
 try simp only [dN] at h1
 refine Qo rfl ?_
 refine aS4 ?_
 exact rT rfl rfl (fun w' h'=>⟨by have e:=Qbb (l:=bt) (k:=k) (by omega) hk2 (fun h=>by omega);simp only [QV,ixI,e];rw [if_neg (by omega)],h'.below⟩)
theorem c141 (w : World) (a : Option Addr) (cap : Nat) (l : List LNd) (q : Nat) (cv : Array Value) (bt : List Bool) (hs : Rw LNd.vals 3 w [] a l) (hm : l.length ≤ 1000000) (hq : Qt Tryz.prog q = true) (hb : bt.length = l.length) (hc : ∀ k w1,k < l.length → HS w [] [] w1 → Calls Tryz.prog q (#[] ++ [.agg (LNd.vals (nth l k)).toArray].toArray ++ cv) w1 fun en w2=>en = .returned (.bool (bt.getD k false)) ∧ Below w1.heap.size w1 w2) : Calls Tryz.prog 141 #[.slice a l.length cap,.func (.func q) #[] cv] w fun en w'=>en = .returned (.bool (bt.any id)) ∧ Below w.heap.size w w':=by
 refine enter (args:=[_,_]) Tryz.func141 Tryz.ntmps141 rfl rfl (HS.refl w []) ?_
 refine aS8 ?_
 refine o_q (Qb rfl Qtc rfl (fun w1 h1=>c201 w1 a cap l q cv bt (hs.later h1) hm hq hb (fun k w2 hk h2=>hc k w2 hk (by simpa using h1.call h2)))) rfl ?_
 refine aS3 ?_
 exact rT rfl rfl (fun w' h'=>⟨by simp only [QV];rw [← QeJ],h'.below⟩)
theorem c142 (w : World) (n : LNd) (hes : Rw TEnt.vals 2 w [] n.ea n.es) (hl : n.es.length ≤ 1000000) (hkl : ∀ x ∈ n.es,x.key.length ≤ 1000000 ∧ x.val.length ≤ 1000000) : Calls Tryz.prog 142 #[.agg #[.bool n.us,.slice n.ea n.es.length n.ec,.slice n.ca n.cs.length n.cc]] w fun en w'=>en = .returned (.bool (!Zk n.pl)) ∧ Below w.heap.size w w':=by
 refine enter (args:=[_]) Tryz.func142 Tryz.ntmps142 rfl rfl (HS.refl w []) ?_
 refine aS2 ?_
 refine oBx fun b1 _=>?_
 refine aS6 ?_
 refine o_q (Qb rfl QtI rfl (fun w1 h1=>c143 w1 n.ea n.ec n.es 144 #[] (Qgb n.es) (hes.later h1) hl Qtx (by simp [Qgb]) (fun k w2 hk h2=>by rw [QlC hk];exact c144 w2 (nth n.es k) (hkl _ (Qy hk)).1 (hkl _ (Qy hk)).2))) rfl ?_
 refine aS2 ?_
 exact rT rfl rfl (fun w' h'=>⟨by simp only [QV];rw [Ql9];rfl,h'.below⟩)
theorem c75 (w : World) (co mo rm : Int) (a : Option Addr) (cap : Nat) (L : List LNd) (hs : Nt w [] a L) (hB : Bd (pln L)) (hkl : ∀ i,i < L.length → ∀ x ∈ (nth L i).es,x.key.length ≤ 1000000 ∧ x.val.length ≤ 1000000) : Calls Tryz.prog 75 #[.agg #[.int .i64 co,.int .i64 mo,.int .i64 rm,.slice a L.length cap]] w fun en w'=>en = .returned (.int .i64 (Zu (⟨co,mo,rm,pln L⟩ : Tre))) ∧ Below w.heap.size w w':=by
 have hLl : L.length ≤ 1000:=by have:=hB.len;rwa [Qh] at this
 refine enter (args:=[_]) Tryz.func75 Tryz.ntmps75 rfl rfl (HS.refl w []) ?_
 refine aS2 ?_
 refine oBx fun b1 _=>?_
 refine aS5 ?_
 refine o_q (Qb rfl QsL rfl (fun w1 h1=>c140 w1 co mo rm a cap L (hs.later h1.nil) hB (fun i hi x hx=>(hkl i hi x hx).1))) rfl ?_
 refine Qer ?_
 refine Xn 4 14 18 _ _ rfl
  (by
   intro hg2
   have hs3:=hg2;try simp only [dN] at hs3
   refine oOn 14 hg2 ?_
   refine aS ?_
   refine oOn 14 hg2 ?_
   refine aS ?_
   refine oOn 14 hg2 ?_
   refine o_q (Qb rfl QtJ rfl (fun w1 h1=>c141 w1 a cap L 142 #[] (QgC L) (Rw.later hs.1 h1) (by omega) Qto (by simp [QgC]) (fun k w2 hk h2=>by rw [Ql2 hk];exact c142 w2 (nth L k) ((hs.es hk).later (by simpa using h1.call h2)) (by have:=hB.es k (by rwa [Qh]);rw [Xg] at this;have h8 : (nth L k).es.length ≤ 1000:=this;omega) (hkl k hk)))) rfl ?_
   refine o_p (Qf rfl rfl hg2 rfl) rfl ?_
   refine aS ?_
   exact oJn 4 18)
  (by
   intro hg4
   have hs5:=hg4;try simp only [dT] at hs5
   refine oOf 14 hg4 ?_
   refine oOf 14 hg4 ?_
   refine oOf 14 hg4 ?_
   refine o_p (Qg rfl rfl hg4 rfl) rfl ?_
   refine aS ?_
   exact oJn 4 18) ?_
 refine aS7 ?_
 refine o_q (Qb rfl Qgh rfl (fun w1 h1=>c60 w1 _ _)) rfl ?_
 refine o_h (Qp (cs:=[_,_]) rfl rfl ZO Qds rfl rfl rfl) rfl (fun b6 _=>?_)
 refine o_q (Qb rfl Qo7 rfl (fun w1 h1=>f59 h1 aPk (by rfl) (by rfl) (by decide))) rfl ?_
 refine aS2 ?_
 exact rT rfl rfl (fun w' h'=>⟨by simp only [QV,Yy,Zu,QlT];first | grind | (simp_all;done),h'.below⟩)
theorem QsY : Qt Tryz.prog 148 = true:=by kernel_rfl
theorem Quw : Qt Tryz.prog 75 = true:=by kernel_rfl
theorem Qur : Qt Tryz.prog 90 = true:=by kernel_rfl
theorem Quz : Qt Tryz.prog 99 = true:=by kernel_rfl
theorem QuO : Qt Tryz.prog 84 = true:=by kernel_rfl
theorem c90 (w : World) (co mo rm : Int) (a : Option Addr) (cap : Nat) (L : List LNd) (hs : Nt w [] a L) (h0 : 0 < L.length) (hp : NdP (nth L 0).pl) : Calls Tryz.prog 90 #[.agg #[.int .i64 co,.int .i64 mo,.int .i64 rm,.slice a L.length cap]] w fun en w'=>en = .returned (.string (bs (ZQ (⟨co,mo,rm,pln L⟩ : Tre)))) ∧ Below w.heap.size w w':=by
 have hel : (nth L 0).es.length ≤ 1000:=hp.el
 have hee : (QF (nth L 0).pl (nth L 0).es.length).length ≤ 608 * (nth L 0).es.length ∧ (QF (nth L 0).pl (nth L 0).es.length).length % 8 = 0:=hp.ents _ (Nat.le_refl _)
 have hR : ZQ (⟨co,mo,rm,pln L⟩ : Tre) = (YJ ++ [by8 co,by8 mo,by8 rm,by8 ((nth L 0).es.length : Int)]) ++ X6 (nth L 0).pl:=by simp only [ZQ,Xg];rfl
 have l8 : (YJ ++ [by8 co,by8 mo,by8 rm,by8 ((nth L 0).es.length : Int)]).length = 8:=rfl
 refine enter (args:=[_]) Tryz.func90 Tryz.ntmps90 rfl rfl (HS.refl w []) ?_
 refine aS2 ?_
 refine oBx fun b1 _=>?_
 refine aS6 ?_
 refine o_p (Qa rfl rfl rfl Xm 0 rfl (by omega) (Rw.some hs.1 (by omega))) rfl ?_
 refine o_q (QA _ rfl rfl Xz rfl (Rw.rd hs.1 (by omega))) rfl ?_
 refine oAl (fun b2 _=>?_) Yp
 refine oSt ?_
 refine aS3 ?_
 refine o_h (Qp (cs:=[_,_,_,_]) rfl rfl QQ Qbs rfl rfl rfl) rfl (fun b3 _=>?_)
 refine o_h (QfM rfl rfl Tryz.underlying139 Tryz.underlying5 aPt) rfl (fun _ _=>?_)
 refine Yj (fun w h=>h.byz_blk (l:=YJ) aPk (by decide) (by decide) rfl) ?_
 refine aS2 ?_
 refine o_p (Qs rfl rfl Zo ZA) rfl ?_
 refine Qz (YP _) ?_
 refine aS2 ?_
 refine o_p (Qs rfl rfl Zo ZA) rfl ?_
 refine Qz (YP _) ?_
 refine aS2 ?_
 refine o_p (Qs rfl rfl Zo ZA) rfl ?_
 refine Qz (YP _) ?_
 refine aS3 ?_
 refine o_p (Qs rfl rfl Zo ZA) rfl ?_
 refine Qz (YP _) ?_
 refine o_h (Qp (cs:=[_,_,_,_]) rfl rfl QQ Qbs rfl rfl rfl) rfl (fun b4 _=>?_)
 refine o_h (ZE (l:=YJ) [by8 co,by8 mo,by8 rm,by8 ((nth L 0).es.length : Int)] rfl rfl rfl QQ Tryz.underlying139 Qbs aPk (Xv aPk) (by show (4 + 4) * _ ≤ _;omega) (by show 4 + 4 ≤ maxLen;simp only [maxLen];omega)) rfl (fun ⟨b5,c6⟩ h7=>?_)
 refine aS6 ?_
 refine o_h (Xw (Cs:=[.byz b5 c6 ((YJ ++ [by8 co,by8 mo,by8 rm,by8 ((nth L 0).es.length : Int)]))]) rfl QsY rfl aPs (fun w1 h1 hf=>c148 w1 b5 c6 (YJ ++ [by8 co,by8 mo,by8 rm,by8 ((nth L 0).es.length : Int)]) (nth L 0) hf (by omega) (by rw [l8]) (((hs.es h0).keep h1).mono (Xc aPs)) (((hs.cs h0).keep h1).mono (Xc aPs)) hp)) rfl (fun ⟨b8,c9⟩ hz10=>?_)
 refine Yj (fun w h=>h.byz_own .here) ?_
 refine o_q (Qa3 rfl rfl Tryz.underlying139 Tryz.underlying9 Tryz.underlying5 aPk (Qc1 _)) rfl ?_
 refine aS2 ?_
 exact rT rfl rfl (fun w' h'=>⟨by rw [QbW,hR];rfl,h'.below⟩)
theorem c27 (w : World) (co mo rm : Int) (a : Option Addr) (cap : Nat) (L : List LNd) (hs : Nt w [] a L) (hB : Bd (pln L)) (hkl : ∀ i,i < L.length → ∀ x ∈ (nth L i).es,x.key.length ≤ 1000000 ∧ x.val.length ≤ 1000000) : Calls Tryz.prog 27 #[.agg #[.int .i64 co,.int .i64 mo,.int .i64 rm,.slice a L.length cap]] w fun en w'=>en = .returned (.tuple #[.string (bs (if Zu (⟨co,mo,rm,pln L⟩ : Tre) = 0 then ZQ (⟨co,mo,rm,pln L⟩ : Tre) else [])),.int .i64 (Zu (⟨co,mo,rm,pln L⟩ : Tre))]) ∧ Below w.heap.size w w':=by
 refine enter (args:=[_]) Tryz.func27 Tryz.ntmps27 rfl rfl (HS.refl w []) ?_
 refine aS2 ?_
 refine oBx fun b1 _=>?_
 refine aS7 ?_
 refine o_q (Qb rfl Quw rfl (fun w1 h1=>c75 w1 co mo rm a cap L (hs.later h1.nil) hB hkl)) rfl ?_
 refine aS7 ?_
 refine Qc rfl (fun h2=>?_) fun h2=>?_
 ·try simp only [Bool.not_eq_true',decide_eq_false_iff_not] at h2
  have hE : ¬ Zu (⟨co,mo,rm,pln L⟩ : Tre) = 0:=h2
  refine aS6 ?_
  exact Qq (rs:=[.tmp 2,.tmp 3]) rfl (.tmp rfl (.tmp rfl (.nil))) (fun w' h'=>⟨by rw [if_neg hE];rfl,h'.below⟩)
 try simp only [Bool.not_eq_false',decide_eq_true_eq] at h2
 have hE : Zu (⟨co,mo,rm,pln L⟩ : Tre) = 0:=h2
 have hr9:=Qdg hE
 have h09 : 0 < L.length:=by have:=hr9.1;rwa [show (⟨co,mo,rm,pln L⟩ : Tre).ns = pln L from rfl,Qh] at this
 have hn9:=QgO hE hr9.1 hr9.2.1
 have hp9 : NdP (nth L 0).pl:=by have hq:=hn9.1.ndp (by have:=hn9.2.1;omega);rwa [show (⟨co,mo,rm,pln L⟩ : Tre).ns = pln L from rfl,Xg] at hq
 refine aS4 ?_
 refine o_q (Qb rfl Qur rfl (fun w1 h1=>c90 w1 co mo rm a cap L (hs.later h1.nil) h09 hp9)) rfl ?_
 refine aS3 ?_
 exact Qq (rs:=[.tmp 2,.tmp 3]) rfl (.tmp rfl (.tmp rfl (.nil))) (fun w' h'=>⟨by rw [if_pos hE,hE];rfl,h'.below⟩)
theorem c32 (w : World) (co mo rm : Int) (a : Option Addr) (cap : Nat) (L : List LNd) (hs : Nt w [] a L) (h0 : 0 < L.length) (hp : NdP (nth L 0).pl) (hb : (0 ≤ co ∧ co < 256) ∧ (0 ≤ mo ∧ mo < 256) ∧ 0 ≤ rm ∧ rm < 256) : Calls Tryz.prog 32 #[.agg #[.int .i64 co,.int .i64 mo,.int .i64 rm,.slice a L.length cap]] w fun en w'=>en = .returned (.string (bs (ZQ (⟨co,mo,rm,pln L⟩ : Tre)))) ∧ Below w.heap.size w w':=by
 have hel : (nth L 0).es.length ≤ 1000:=hp.el
 have hee : (QF (nth L 0).pl (nth L 0).es.length).length ≤ 608 * (nth L 0).es.length ∧ (QF (nth L 0).pl (nth L 0).es.length).length % 8 = 0:=hp.ents _ (Nat.le_refl _)
 have hR : ZQ (⟨co,mo,rm,pln L⟩ : Tre) = ((((YJ ++ Qbt 1 co) ++ Qbt 1 mo) ++ Qbt 1 rm) ++ Qbt 1 ((nth L 0).es.length : Int)) ++ X6 (nth L 0).pl:=by simp only [ZQ,Xg,Qps,List.append_assoc];rfl
 have lco:=Yr 1 co
 have lmo:=Yr 1 mo
 have lrm:=Yr 1 rm
 have lel:=Yr 1 ((nth L 0).es.length : Int)
 have lcb : (X6 (nth L 0).pl).length = (QF (nth L 0).pl (nth L 0).es.length).length + 8:=by unfold X6;rw [List.length_append,QaG];rfl
 refine enter (args:=[_]) Tryz.func32 Tryz.ntmps32 rfl rfl (HS.refl w []) ?_
 refine aS2 ?_
 refine oBx fun b1 _=>?_
 refine aS3 ?_
 refine QL [] Q8 ?_
 refine dFa 0 ?_
 refine dLd 1 [] ?_
 refine dQ 2 [] rfl (Qb rfl Qcx rfl (fun w1 h1=>c94 w1 co 1 (by omega) (by omega))) ?_
 refine dV 3 rfl (Xl rfl rfl rfl (by (try simp only [List.length_append,List.length_cons,List.length_nil,List.length_replicate,List.length_take,List.length_drop]);omega)) ?_
 refine dFa 4 ?_
 refine dLd 5 [] ?_
 refine dQ 6 [] rfl (Qb rfl Qcx rfl (fun w1 h1=>c94 w1 mo 1 (by omega) (by omega))) ?_
 refine dV 7 rfl (Xl rfl rfl rfl (by (try simp only [List.length_append,List.length_cons,List.length_nil,List.length_replicate,List.length_take,List.length_drop]);omega)) ?_
 refine dFa 8 ?_
 refine dLd 9 [] ?_
 refine dQ 10 [] rfl (Qb rfl Qcx rfl (fun w1 h1=>c94 w1 rm 1 (by omega) (by omega))) ?_
 refine dV 11 rfl (Xl rfl rfl rfl (by (try simp only [List.length_append,List.length_cons,List.length_nil,List.length_replicate,List.length_take,List.length_drop]);omega)) ?_
 refine dFa 12 ?_
 refine dLd 13 [] ?_
 refine dV 14 rfl (Qa rfl rfl rfl Xm 0 rfl (by omega) (Rw.some hs.1 (by omega))) ?_
 refine dFa 15 ?_
 refine dQ 16 [] rfl (Qe rfl rfl Qcz ((hs.1.rdj (i:=0) 1 h0 rfl))) ?_
 refine dV 17 rfl (QM rfl rfl Tryz.underlying67) ?_
 refine dQ 18 [] rfl (Qb rfl Qcx rfl (fun w1 h1=>c94 w1 ((nth L 0).es.length : Int) 1 (by omega) (by omega))) ?_
 refine dV 19 rfl (Xl rfl rfl rfl (by (try simp only [List.length_append,List.length_cons,List.length_nil,List.length_replicate,List.length_take,List.length_drop]);omega)) ?_
 refine dFa 20 ?_
 refine dLd 21 [] ?_
 refine dV 22 rfl (Qa rfl rfl rfl Xm 0 rfl (by omega) (Rw.some hs.1 (by omega))) ?_
 refine dQ 23 [] rfl (QA _ rfl rfl Xz rfl (Rw.rd hs.1 (by omega))) ?_
 refine dQ 24 [] rfl (Qb rfl Quz rfl (fun w1 h1=>c99 w1 (nth L 0) ((hs.es h0).later h1) ((hs.cs h0).later h1) hp)) ?_
 refine dV 25 rfl (Xl rfl rfl rfl (by (try simp only [List.length_append,List.length_cons,List.length_nil,List.length_replicate,List.length_take,List.length_drop]);omega)) ?_
 refine dP 26 ?_
 refine dNi ?_
 exact rT rfl rfl (fun w' h'=>⟨by rw [hR];rfl,h'.below⟩)
theorem c24 (w : World) (co mo rm : Int) (a : Option Addr) (cap : Nat) (L : List LNd) (hs : Nt w [] a L) (hB : Bd (pln L)) (hkl : ∀ i,i < L.length → ∀ x ∈ (nth L i).es,x.key.length ≤ 1000000 ∧ x.val.length ≤ 1000000) : Calls Tryz.prog 24 #[.agg #[.int .i64 co,.int .i64 mo,.int .i64 rm,.slice a L.length cap]] w fun en w'=>en = .returned (.int .i64 (Zu (⟨co,mo,rm,pln L⟩ : Tre))) ∧ Below w.heap.size w w':=by
 have hLl : L.length ≤ 1000:=by have:=hB.len;rwa [Qh] at this
 refine enter (args:=[_]) Tryz.func24 Tryz.ntmps24 rfl rfl (HS.refl w []) ?_
 refine aS2 ?_
 refine oBx fun b1 _=>?_
 refine aS6 ?_
 refine o_q (Qb rfl QuO rfl (fun w1 h1=>c84 w1 co mo rm a cap L (hs.later h1.nil) hB (fun i hi x hx=>(hkl i hi x hx).1))) rfl ?_
 refine aS7 ?_
 refine Qc rfl (fun h2=>?_) fun h2=>?_
 ·try simp only [Bool.not_eq_true',decide_eq_false_iff_not] at h2
  have hE : ¬ (Y2 (⟨co,mo,rm,pln L⟩ : Tre)).2 = 0:=h2
  have hI : Zu (⟨co,mo,rm,pln L⟩ : Tre) = (Y2 (⟨co,mo,rm,pln L⟩ : Tre)).2:=if_neg hE
  refine aS5 ?_
  exact rT rfl rfl (fun w' h'=>⟨by rw [hI];rfl,h'.below⟩)
 try simp only [Bool.not_eq_false',decide_eq_true_eq] at h2
 have hE : (Y2 (⟨co,mo,rm,pln L⟩ : Tre)).2 = 0:=h2
 refine aS8 ?_
 refine Qc rfl (fun h3=>?_) fun h3=>?_
 ·try simp only [dT] at h3
  have hI : Zu (⟨co,mo,rm,pln L⟩ : Tre) = 8:=by unfold Zu;rw [if_pos hE,if_neg (fun h=>by have hq:=h3;have hq2 : mo ≤ 4:=h.1;omega)]
  refine aS4 ?_
  exact rT rfl rfl (fun w' h'=>⟨by rw [hI];rfl,h'.below⟩)
 try simp only [dN] at h3
 have hmo : mo ≤ 4:=by have hq:=h3;omega
 refine aS7 ?_
 refine QB (α:=Nat) [2,4,5,6,15,16,17,18,19,20,21,22,23,24,25,26,27,28,29,30,31,32,33,34,35,36,37,38,39,40,41,42,43,44,45,46,47,48,49] (fun k=>[(4,.int .i64 (k : Int))]) (fun _=>HS w [] [.blk b1 37 4 [.int .i64 co,.int .i64 mo,.int .i64 rm,.slice a L.length cap]]) (fun k=>k ≤ L.length ∧ ∀ i,i < k → Zk (nth (pln L) i) = true) (fun k=>L.length - k) 0 ⟨Nat.zero_le _,fun i h=>absurd h (Nat.not_lt_zero _)⟩ aSx (fun w h=>h.ent aEt) (fun k hkk=>?_)
 obtain ⟨hk1,hk2⟩:=hkk
 refine aS9 ?_
 refine Qc rfl (fun h4=>?_) fun h4=>?_
 ·try simp only [dT] at h4
  have hk : k < L.length:=by omega
  have hkp : k < (pln L).length:=by rwa [Qh]
  have hel : (nth L k).es.length ≤ 1000:=by have:=hB.es k hkp;rwa [Xg] at this
  refine aS8 ?_
  refine QB (α:=Nat) [2,5,6,22,23,24,25,26,27,28,29,30,31,32,33,34,35,36,37,38,39,40,41,42,43,44,45,46,47,48,49] (fun j=>[(5,.int .i64 (j : Int))]) (fun _=>HS w [] [.blk b1 37 4 [.int .i64 co,.int .i64 mo,.int .i64 rm,.slice a L.length cap]]) (fun j=>j ≤ (nth L k).es.length ∧ ∀ i,i < j → Ys (nth (nth L k).es i) = true) (fun j=>(nth L k).es.length - j) 0 ⟨Nat.zero_le _,fun i h=>absurd h (Nat.not_lt_zero _)⟩ aSx (fun w h=>h.ent aEt) (fun j hjj=>?_)
  obtain ⟨hj1,hj2⟩:=hjj
  refine aS7 ?_
  refine o_p (Qa rfl rfl rfl Xm (k) (by omega) (by omega) (Rw.some hs.1 (by omega))) rfl ?_
  refine aS ?_
  refine o_q (Qe rfl rfl Qcz ((hs.1.rdj (i:=k) 1 (by omega) rfl))) rfl ?_
  refine aS3 ?_
  refine Qc rfl (fun h5=>?_) fun h5=>?_
  ·try simp only [dT] at h5
   have hj : j < (nth L k).es.length:=by omega
   have hx9:=hkl k hk _ (Qy hj)
   refine aS8 ?_
   refine o_p (Qa rfl rfl rfl Xm (k) (by omega) (by omega) (Rw.some hs.1 (by omega))) rfl ?_
   refine aS ?_
   refine o_q (Qe rfl rfl Qcz ((hs.1.rdj (i:=k) 1 (by omega) rfl))) rfl ?_
   refine aS ?_
   refine o_p (Qa rfl rfl rfl QX (j) (by omega) (by omega) (Rw.some (hs.es hk) (by omega))) rfl ?_
   refine o_q (QA _ rfl rfl Qbm rfl (Rw.rd (hs.es hk) (by omega))) rfl ?_
   refine oAl (fun b6 _=>?_) Zv
   refine oSt ?_
   refine aS2 ?_
   refine Qm (L':=[(0,_),(1,_),(3,_),(4,_),(5,_),(6,_),(7,_),(8,_),(9,_),(10,_),(12,_),(13,_),(14,_),(15,_),(16,_),(17,_),(18,_),(19,_)]) aSx (fun _ h=>h) ?_
   refine aS3 ?_
   refine o_p (Qk rfl rfl Tryz.underlying9) rfl ?_
   refine aS2 ?_
   refine o_p (Qk rfl rfl Tryz.underlying9) rfl ?_
   refine aS ?_
   try refine oWr ?_
   refine aS2 ?_
   refine Qc rfl (fun h7=>?_) fun h7=>?_
   ·try simp only [dT] at h7
    have hI : Zu (⟨co,mo,rm,pln L⟩ : Tre) = 8:=by unfold Zu;rw [if_pos hE,if_neg];intro h9;have hq9:=QnX (t:=(⟨co,mo,rm,pln L⟩ : Tre)) (i:=k) (j:=j) hkp (by rw [show (⟨co,mo,rm,pln L⟩ : Tre).ns = pln L from rfl,Xg];exact hj) (by rw [show (⟨co,mo,rm,pln L⟩ : Tre).ns = pln L from rfl,Xg];unfold Ys;exact decide_eq_false (by have hq:=h7;have hq2 : (nth L k).pl.es = (nth L k).es:=rfl;rw [hq2];omega));rw [h9.2] at hq9;cases hq9
    refine aS4 ?_
    exact rT rfl rfl (fun w' h'=>⟨by rw [hI];rfl,h'.below⟩)
   try simp only [dN] at h7
   have hsm : Ys (nth (nth L k).es j) = true:=decide_eq_true (by have hq:=h7;omega)
   refine aS5 ?_
   try refine oWr ?_
   refine aS2 ?_
   exact Qw (j + 1) (by omega) ⟨by omega,fun i hi=>(Nat.lt_or_ge i j).elim (hj2 i) (fun h=>by obtain rfl : i = j:=(by omega);exact hsm)⟩ aSx (fun w h=>h.ent aEt)
  try simp only [dN] at h5
  obtain rfl : j = (nth L k).es.length:=by omega
  have hS : Zk (nth (pln L) k) = true:=by rw [Xg];exact Qmk hj2
  refine Qo rfl ?_
  refine aS4 ?_
  try refine oWr ?_
  refine aS2 ?_
  exact Qw (k + 1) (by omega) ⟨by omega,fun i hi=>(Nat.lt_or_ge i k).elim (hk2 i) (fun h=>by obtain rfl : i = k:=(by omega);exact hS)⟩ aSx (fun w h=>h.ent aEt)
 try simp only [dN] at h4
 obtain rfl : k = L.length:=by omega
 have hI : Zu (⟨co,mo,rm,pln L⟩ : Tre) = 0:=by unfold Zu;rw [if_pos hE,if_pos ⟨hmo,Qmb (fun i hi=>hk2 i (by rwa [← Qh]))⟩]
 refine Qo rfl ?_
 refine aS4 ?_
 exact rT rfl rfl (fun w' h'=>⟨by rw [hI];rfl,h'.below⟩)
end Go.Proofs
namespace Gx
open Go Go.RowKit
section
variable {w : World} {a : Option Addr} {vs : List Value}
theorem Vl.nilA : Vl w a []:=⟨fun hn=>absurd hn (Nat.lt_irrefl 0)⟩
theorem Vl.dropA {cap k : Nat} (h : Vl w a vs) (hk : k ≤ vs.length) (hc : vs.length ≤ cap) : Vl w (X7 a cap k 1) (vs.drop k):=by
 rcases Nat.eq_or_lt_of_le hk with e | e
 ·rw [List.drop_eq_nil_of_le (by omega)];exact Vl.nilA
 ·exact h.drop e (by omega)
theorem Vl.takeA {n : Nat} (h : Vl w a vs) : Vl w a (vs.take n):=by
 refine ⟨fun hn=>?_⟩;rw [List.length_take] at hn;obtain ⟨b,o,rfl,h2⟩:=h.at_ (by omega);refine ⟨b,o,rfl,fun i hi=>?_⟩;rw [List.length_take] at hi;rw [List.getElem?_take,if_pos (by omega)];exact h2 i (by omega)
theorem Vl.sub {cap lo n : Nat} {x : List UInt8} (h : Vl w a (x.map bv)) (hlo : lo + n ≤ x.length) (hc : x.length ≤ cap) : Vl w (X7 a cap lo 1) ((QH x lo n).map bv):=by
 unfold QH;rw [List.map_take,List.map_drop];exact (h.dropA (by rw [List.length_map];omega) (by rw [List.length_map];omega)).takeA
end
section
variable {P : Program} {o : Oper} {L : Qd} {w0 : World} {As : List HA}
theorem Z4 {src dst e n cap : Nat} {x : Operand} {a : Option Addr} (l : List UInt8) (ho : o.op = .convert src dst x) (hx : ev L x = some (.slice a n cap)) (hs : P.underlying src = some (.slice e)) (hd : P.underlying dst = some .string) (he : P.underlying e = some (.int .u8)) (hl : l.length = n) (hv : Vl w0 a (l.map bv)) : OpQ P o L (HS w0 [] As) (.string (bs l)):=by
 refine Qfc l ho hx hs hd he hl fun w hw hn=>?_;have h1:=hv.later hw;have h2:=h1.some (by rw [List.length_map];omega);refine ⟨ab a,ao a,h2,fun j hj=>?_⟩;have h3:=h1.rd (i:=j) (v:=.int .u8 (l[j].toNat : Int)) (by rw [List.getElem?_map,List.getElem?_eq_getElem hj];rfl);have h4:=h3.2.2
 rwa [Nat.mul_one] at h4
end
theorem Qex {s : List UInt8} {p0 k count : Nat} {r : RdS} (h : rdE s p0 k = some r) (hk : k < count) (hs : YR s r.p = false) : rdN s p0 count = none:=by
 unfold rdN;rw [Qt8 h hs hk]
theorem Qk9 {s : List UInt8} {p0 count : Nat} {r : RdS} (h : rdE s p0 count = some r) (hs : YD s r.p = false) : rdN s p0 count = none:=by
 unfold rdN;rw [h];simp only [hs];rfl
theorem Qk0 {s : List UInt8} {p0 count : Nat} {r : RdS} (h : rdE s p0 count = some r) (hs : YD s r.p = true) : rdN s p0 count = if noz (r.cs ++ [(ub4 s (r.p + 4) : Int)]) then some (⟨true,r.es,r.cs ++ [(ub4 s (r.p + 4) : Int)]⟩,r.p + 8) else if QcG (r.cs ++ [(ub4 s (r.p + 4) : Int)]) then some (⟨true,r.es,[]⟩,r.p + 8) else none:=by
 unfold rdN;rw [h];simp only [hs,if_true]
def stR (s : List UInt8) (p0 count k : Nat) : Option RdS:=if k ≤ count then rdE s p0 k else match rdE s p0 count with
 | none=>none
 | some r=>if YD s r.p then some ⟨r.es,r.cs ++ [(ub4 s (r.p + 4) : Int)],r.p + 8⟩ else none
theorem QdI {s : List UInt8} {p0 count k : Nat} (h : k ≤ count) : stR s p0 count k = rdE s p0 k:=if_pos h
theorem QnU {s : List UInt8} {p0 count k : Nat} {r : RdS} (h : stR s p0 count k = some r) (hk : k < count) (hs : YR s r.p = true) : stR s p0 count (k + 1) = some ⟨r.es ++ [Q0 s r.p],r.cs ++ [(ub4 s (r.p + 4) : Int)],r.p + ub2 s r.p⟩:=by
 rw [QdI (by omega)] at h ⊢;exact QbI h hs
theorem QmG {s : List UInt8} {p0 count : Nat} {r : RdS} (h : stR s p0 count count = some r) (hs : YD s r.p = true) : stR s p0 count (count + 1) = some ⟨r.es,r.cs ++ [(ub4 s (r.p + 4) : Int)],r.p + 8⟩:=by
 rw [QdI (Nat.le_refl _)] at h;unfold stR;rw [if_neg (by omega),h];simp only [hs,if_true]
theorem Qhs {s : List UInt8} {p0 count k : Nat} {r : RdS} (h : stR s p0 count k = some r) (hk : k < count) (hs : YR s r.p = false) : rdN s p0 count = none:=by
 rw [QdI (by omega)] at h;exact Qex h hk hs
theorem QkL {s : List UInt8} {p0 count : Nat} {r : RdS} (h : stR s p0 count count = some r) (hs : YD s r.p = false) : rdN s p0 count = none:=by
 rw [QdI (Nat.le_refl _)] at h;exact Qk9 h hs
theorem Qqe {s : List UInt8} {p0 count : Nat} {r : RdS} (h : stR s p0 count (count + 1) = some r) : rdN s p0 count = if noz r.cs then some (⟨true,r.es,r.cs⟩,r.p) else if QcG r.cs then some (⟨true,r.es,[]⟩,r.p) else none:=by
 unfold stR at h;rw [if_neg (by omega)] at h;cases hq : rdE s p0 count with
 | none=>rw [hq] at h;cases h
 | some q=>
  rw [hq] at h;simp only [] at h;split at h
  ·rename_i he;injection h with h
   subst h;exact Qk0 hq he
  ·cases h
theorem QtO {s : List UInt8} {p0 count k : Nat} (h0 : p0 ≤ s.length) {r : RdS} (h : stR s p0 count k = some r) (hk : k ≤ count + 1) : p0 ≤ r.p ∧ r.p ≤ s.length ∧ r.es.length ≤ k ∧ r.cs.length ≤ k:=by
 unfold stR at h;split at h
 ·obtain ⟨h1,h2,h3,h4,_⟩:=Qa2 h0 h;omega
 ·cases hq : rdE s p0 count with
  | none=>rw [hq] at h;cases h
  | some q=>
   rw [hq] at h;simp only [] at h;obtain ⟨h1,h2,h3,h4,_⟩:=Qa2 h0 hq;split at h
   ·rename_i he;injection h with h
    subst h;simp only [YD,decide_eq_true_eq] at he;simp only [List.length_append,List.length_cons,List.length_nil];omega
   ·cases h
theorem QjY {s : List UInt8} {p : Nat} (h : ¬ (p + 8 ≤ s.length ∧ ub4 s (p + 4) ≤ 120 ∧ p + ub2 s p ≤ s.length ∧ Q2 s p ≤ ub2 s p)) : YR s p = false ∧ YD s p = false:=by
 have hp:=YF (Q2 s p);have hb : ub2 s (p + 2) = ub1 s (p + 2) + ub1 s (p + 3) * 256:=rfl;have hz : Q2 s p = 8 + ub1 s (p + 2) + ub1 s (p + 3):=rfl;constructor
 ·cases hb : YR s p with
  | false=>rfl
  | true=>
   obtain ⟨h1,h2,h3⟩:=YN.1 hb;simp only [XZ,decide_eq_true_eq] at h3;exact absurd ⟨h1.1,by omega,h1.2.2,by omega⟩ h
 ·cases hb : YD s p with
  | false=>rfl
  | true=>
   simp only [YD,decide_eq_true_eq] at hb;exact absurd ⟨hb.1,hb.2.2.2,by omega,by omega⟩ h
theorem QkN {s : List UInt8} {p : Nat} (h : XZ (Q0 s p) (ub4 s (p + 4)) = false) : YR s p = false:=by
 cases hb : YR s p with
 | false=>rfl
 | true=>rw [(YN.1 hb).2.2] at h;cases h
theorem QkQ {s : List UInt8} {p : Nat} (h : p + 8 ≤ s.length ∧ ub4 s (p + 4) ≤ 120 ∧ p + ub2 s p ≤ s.length ∧ Q2 s p ≤ ub2 s p) (hK : XZ (Q0 s p) (ub4 s (p + 4)) = true) : decide (XN (Q0 s p) (ub4 s (p + 4) : Int) = QH s p (ub2 s p)) = YR s p:=by
 have h1:=Qkl h.2.2.1 h.2.2.2;rw [Bool.eq_iff_iff,decide_eq_true_eq,h1,YN];constructor
 ·rintro ⟨a,b⟩;exact ⟨⟨h.1,a,h.2.2.1⟩,b,hK⟩
 ·rintro ⟨⟨_,a,_⟩,b,_⟩;exact ⟨a,b⟩
theorem Qh0 {s : List UInt8} {p : Nat} (h : p + 8 ≤ s.length ∧ ub4 s (p + 4) ≤ 120 ∧ p + ub2 s p ≤ s.length ∧ Q2 s p ≤ ub2 s p) : decide (Qak (ub4 s (p + 4) : Int) = QH s p (ub2 s p)) = YD s p:=by
 have h1:=Qk5 h.1 h.2.2.1 h.2.2.2;rw [Bool.eq_iff_iff,decide_eq_true_eq,h1];simp only [YD,decide_eq_true_eq];omega
def nzB (l : List Int) : List Bool:=l.map fun c=>decide (c ≠ 0)
theorem Qqk {l : List Int} {k : Nat} (h : k < l.length) : (nzB l).getD k false = decide (nth l k ≠ 0):=by
 unfold nzB;rw [QaB (d:=default) h];rfl
theorem QkC (l : List Int) : (nzB l).any id = !(QcG l):=by
 unfold nzB QcG;rw [List.any_map,List.all_eq_not_any_not,Bool.not_not];congr 1
 funext c
 simp
theorem Qle (l : List Int) : noz l = !(decide ((0 : Int) ∈ l)):=by
 unfold noz;rw [Bool.eq_iff_iff];simp only [List.all_eq_true,decide_eq_true_eq,Bool.not_eq_true',decide_eq_false_iff_not];constructor
 ·intro h h0;exact h 0 h0 rfl
 ·intro h c hc e;subst e;exact h hc
def Qp1 (s : List UInt8) (p : Nat) : Prop:=p + 8 ≤ s.length ∧ ub4 s (p + 4) ≤ 120 ∧ p + ub2 s p ≤ s.length ∧ Q2 s p ≤ ub2 s p
theorem Qkp {s : List UInt8} {p0 count k : Nat} {r : RdS} (h : stR s p0 count k = some r) (hk : k < count + 1) (hs : ¬ Qp1 s r.p) : rdN s p0 count = none:=by
 rcases Nat.lt_or_ge k count with h9 | h9
 ·exact Qhs h h9 (QjY hs).1
 ·obtain rfl : k = count:=by omega
  exact QkL h (QjY hs).2
def Qiw (s : List UInt8) (p k count : Nat) : List UInt8:=if k < count then XN (Q0 s p) (ub4 s (p + 4) : Int) else Qak (ub4 s (p + 4) : Int)
def esR (s : List UInt8) (r : RdS) (k count : Nat) : List TEnt:=if k < count then r.es ++ [Q0 s r.p] else r.es
theorem QhB {s : List UInt8} {p k count : Nat} (h : k < count) : Qiw s p k count = XN (Q0 s p) (ub4 s (p + 4) : Int):=if_pos h
theorem QhE {s : List UInt8} {p k count : Nat} (h : ¬ k < count) : Qiw s p k count = Qak (ub4 s (p + 4) : Int):=if_neg h
theorem Qnl {s : List UInt8} {r : RdS} {k count : Nat} (h : k < count) : esR s r k count = r.es ++ [Q0 s r.p]:=if_pos h
theorem Qoi {s : List UInt8} {r : RdS} {k count : Nat} (h : ¬ k < count) : esR s r k count = r.es:=if_neg h
theorem Qtw {s : List UInt8} {p0 count k : Nat} {r : RdS} (hst : stR s p0 count k = some r) (hk : k < count + 1) (h4 : Qp1 s r.p) (hK : k < count → XZ (Q0 s r.p) (ub4 s (r.p + 4)) = true) (h : ¬ Qiw s r.p k count = QH s r.p (ub2 s r.p)) : rdN s p0 count = none:=by
 rcases Nat.lt_or_ge k count with h9 | h9
 ·rw [QhB h9] at h;refine Qhs hst h9 ?_;rw [← QkQ h4 (hK h9)];exact decide_eq_false h
 ·obtain rfl : k = count:=by omega
  rw [QhE (Nat.lt_irrefl _)] at h;refine QkL hst ?_;rw [← Qh0 h4];exact decide_eq_false h
theorem Qsu {s : List UInt8} {p0 count k : Nat} {r : RdS} (hst : stR s p0 count k = some r) (hk : k < count + 1) (h4 : Qp1 s r.p) (hK : k < count → XZ (Q0 s r.p) (ub4 s (r.p + 4)) = true) (h : Qiw s r.p k count = QH s r.p (ub2 s r.p)) : stR s p0 count (k + 1) = some ⟨esR s r k count,r.cs ++ [(ub4 s (r.p + 4) : Int)],r.p + ub2 s r.p⟩:=by
 rcases Nat.lt_or_ge k count with h9 | h9
 ·rw [QhB h9] at h;rw [Qnl h9];refine QnU hst h9 ?_;rw [← QkQ h4 (hK h9)];exact decide_eq_true h
 ·obtain rfl : k = count:=by omega
  rw [QhE (Nat.lt_irrefl _)] at h;rw [Qoi (Nat.lt_irrefl _)];have he : YD s r.p = true:=by rw [← Qh0 h4];exact decide_eq_true h
  have h8 : ub2 s r.p = 8:=by simp only [YD,decide_eq_true_eq] at he;exact he.2.1
  rw [h8];exact QmG hst he
theorem QdQ {α β : Type} {f : α → List β} (l : List α) (x : α) : (l ++ [x]).flatMap f = l.flatMap f ++ f x:=by simp
theorem QfQ {x : TEnt} {c : Nat} (hc : c ≤ 120) : XZ x c = ((decide (1 ≤ (x.key.length : Int)) && decide ((x.key.length : Int) ≤ 40)) && (decide ((x.val.length : Int) ≤ 64) && Ys x)):=by
 unfold XZ Ys;rw [Bool.eq_iff_iff];simp only [decide_eq_true_eq,Bool.and_eq_true];omega
end Gx
namespace Go.Proofs
open Go Go.RowKit Gx
attribute [local irreducible] Go.Calls Gx.S Gx.O Gx.D Gx.OpP Gx.OpQ Gx.OpH
set_option maxRecDepth 20000
theorem QsN : Qt Tryz.prog 207 = true:=by kernel_rfl
theorem c157 (w : World) (a b : Option Addr) (c d : Nat) (x y : List UInt8) (hx : Vl w a (x.map bv)) (hy : Vl w b (y.map bv)) : Calls Tryz.prog 157 #[.slice a x.length c,.slice b y.length d] w fun en w'=>en = .returned (.bool (decide (x = y))) ∧ Below w.heap.size w w':=by
 refine enter (args:=[_,_]) Tryz.func157 Tryz.ntmps157 rfl rfl (HS.refl w []) ?_
 refine aS7 ?_
 refine o_q (Z4 x rfl rfl Tryz.underlying139 Tryz.underlying9 Tryz.underlying5 rfl hx) rfl ?_
 refine aS ?_
 refine o_q (Z4 y rfl rfl Tryz.underlying139 Tryz.underlying9 Tryz.underlying5 rfl hy) rfl ?_
 refine aS3 ?_
 exact rT rfl rfl (fun w' h'=>⟨by rfl,h'.below⟩)
theorem c159 (w : World) (c : Int) : Calls Tryz.prog 159 #[.int .i64 c] w fun en w'=>en = .returned (.bool (decide (c ≠ 0))) ∧ Below w.heap.size w w':=by
 refine enter (args:=[_]) Tryz.func159 Tryz.ntmps159 rfl rfl (HS.refl w []) ?_
 refine Qaq ?_
 exact rT rfl rfl (fun w' h'=>⟨by simp only [QV];congr 2;simp,h'.below⟩)
theorem c207 (w : World) (a : Option Addr) (cap : Nat) (l : List Int) (q : Nat) (cv : Array Value) (bt : List Bool) (hs : Rw inV 1 w [] a l) (hm : l.length ≤ 1000000) (hq : Qt Tryz.prog q = true) (hb : bt.length = l.length) (hc : ∀ k w1,k < l.length → HS w [] [] w1 → Calls Tryz.prog q (#[] ++ [.int .i64 (nth l k)].toArray ++ cv) w1 fun en w2=>en = .returned (.bool (bt.getD k false)) ∧ Below w1.heap.size w1 w2) : Calls Tryz.prog 207 #[.slice a l.length cap,.func (.func q) #[] cv] w fun en w'=>en = .returned (.int .i64 (ixI bt)) ∧ Below w.heap.size w w':=by
 refine enter (args:=[_,_]) Tryz.func207 Tryz.ntmps207 rfl rfl (HS.refl w []) ?_
 refine Qer ?_
 refine QB (α:=Nat) [4,5,8,9,10,11,12,13,14,15,16,17,18] (fun k=>[(8,.int .i64 (k : Int))]) (fun _=>_) (fun k=>k ≤ l.length ∧ ∀ i,i < k → bt.getD i false = false) (fun k=>l.length - k) 0 ⟨by omega,fun i h=>absurd h (Nat.not_lt_zero i)⟩ aSx (fun w h=>h) (fun k hk=>?_)
 obtain ⟨hk1,hk2⟩:=hk
 refine aS5 ?_
 refine Qc rfl (fun h1=>?_) fun h1=>?_
 ·try simp only [dT] at h1
  iterate 13 refine aS ?_
  refine o_p (Qa rfl rfl rfl Q7 (k) (by omega) (by omega) (Rw.some hs (by omega))) rfl ?_
  refine o_q (Qe rfl rfl Y9 ((hs.rdj (i:=k) 0 (by omega) rfl))) rfl ?_
  refine o_q (YG rfl rfl hq rfl (fun w1 h1=>hc k w1 (by omega) (h1.ent aEt))) rfl ?_
  refine aS ?_
  refine Qc rfl (fun h2=>?_) fun h2=>?_
  ·skip
   refine aS5 ?_
   exact rT rfl rfl (fun w' h'=>⟨by have e:=Qbb (l:=bt) (k:=k) (by omega) hk2 (fun _=>by assumption);simp only [QV,ixI,e];rw [if_pos (by omega)],h'.below⟩)
  skip
  refine aS4 ?_
  try refine oWr ?_
  refine aS2 ?_
  exact Qw (k+1) (by omega) ⟨by omega,fun i hi=>(Nat.lt_or_ge i k).elim (hk2 i) (fun h=>by obtain rfl : i = k:=(by omega);assumption)⟩ aSx (fun w h=>h)
 try simp only [dN] at h1
 refine Qo rfl ?_
 refine aS4 ?_
 exact rT rfl rfl (fun w' h'=>⟨by have e:=Qbb (l:=bt) (k:=k) (by omega) hk2 (fun h=>by omega);simp only [QV,ixI,e];rw [if_neg (by omega)],h'.below⟩)
theorem c158 (w : World) (a : Option Addr) (cap : Nat) (l : List Int) (q : Nat) (cv : Array Value) (bt : List Bool) (hs : Rw inV 1 w [] a l) (hm : l.length ≤ 1000000) (hq : Qt Tryz.prog q = true) (hb : bt.length = l.length) (hc : ∀ k w1,k < l.length → HS w [] [] w1 → Calls Tryz.prog q (#[] ++ [.int .i64 (nth l k)].toArray ++ cv) w1 fun en w2=>en = .returned (.bool (bt.getD k false)) ∧ Below w1.heap.size w1 w2) : Calls Tryz.prog 158 #[.slice a l.length cap,.func (.func q) #[] cv] w fun en w'=>en = .returned (.bool (bt.any id)) ∧ Below w.heap.size w w':=by
 refine enter (args:=[_,_]) Tryz.func158 Tryz.ntmps158 rfl rfl (HS.refl w []) ?_
 refine aS8 ?_
 refine o_q (Qb rfl QsN rfl (fun w1 h1=>c207 w1 a cap l q cv bt (hs.later h1) hm hq hb (fun k w2 hk h2=>hc k w2 hk (by simpa using h1.call h2)))) rfl ?_
 refine aS3 ?_
 exact rT rfl rfl (fun w' h'=>⟨by simp only [QV];rw [← QeJ],h'.below⟩)
end Go.Proofs
namespace Gx
open Go Go.RowKit
def czI (l : List Int) : Nat:=(l.filter fun c=>decide (c = 0)).length
theorem Qm5 (l : List Int) : czI l ≤ l.length:=List.length_filter_le _ _
theorem Qpy {l : List Int} {k : Nat} (h : k < l.length) : czI (l.take (k + 1)) = czI (l.take k) + (if nth l k = 0 then 1 else 0):=by
 unfold czI;rw [List.take_add_one,List.getElem?_eq_getElem h,List.filter_append,List.length_append];have : nth l k = l[k]:=YY (List.getElem?_eq_getElem h);rw [this]
 by_cases hz : l[k] = 0
 ·simp [hz]
 ·simp [hz]
theorem Qrz {l : List Int} : czI l = 0 ↔ noz l = true:=by
 unfold czI noz;rw [List.length_eq_zero_iff,List.filter_eq_nil_iff,List.all_eq_true];simp
theorem Qk7 {l : List Int} : czI l = l.length ↔ QcG l = true:=by
 unfold czI QcG;rw [List.length_filter_eq_length_iff,List.all_eq_true]
theorem Qam (s : List UInt8) (a b : Nat) : (s.take b).drop a = QH s a (b - a):=by
 unfold QH;rw [List.drop_take]
theorem Qip {x : TEnt} {c : Nat} : XZ x c = (decide (Xx x c = 0) && decide ((x.val.length : Int) ≤ 64)):=by
 unfold XZ Xx;rw [Bool.eq_iff_iff,Bool.and_eq_true,decide_eq_true_eq,decide_eq_true_eq,decide_eq_true_eq];constructor
 ·intro h;rw [if_pos (by omega),if_pos (by omega),if_pos (by omega)];omega
 ·rintro ⟨h1,h2⟩;split at h1
  ·split at h1
   ·split at h1
    ·omega
    ·cases h1
   ·cases h1
  ·cases h1
theorem QqD {s : List UInt8} {p : Nat} (h : ¬ (ub2 s p = QJ (Q2 s p) ∧ p + ub2 s p ≤ s.length ∧ zer (QH s (p + Q2 s p) (ub2 s p - Q2 s p)) = true)) : YR s p = false:=by
 cases hb : YR s p with
 | false=>rfl
 | true=>
  obtain ⟨h1,h2,_⟩:=YN.1 hb;exact absurd ⟨h1.2.1,h1.2.2,h2⟩ h
theorem Qp5 {s : List UInt8} {p : Nat} (h8 : p + 8 ≤ s.length) (h : ub2 s p = QJ (Q2 s p) ∧ p + ub2 s p ≤ s.length ∧ zer (QH s (p + Q2 s p) (ub2 s p - Q2 s p)) = true) (hK : XZ (Q0 s p) (ub4 s (p + 4)) = true) : YR s p = true:=
 YN.2 ⟨⟨h8,h.1,h.2.1⟩,h.2.2,hK⟩
section
variable {w0 w : World} {M : List Nat} {As As' : List HA} {a : Option Addr} {cap et nt' : Nat} {L : List LNd}
theorem HS.nodes_of1 {n : LNd} (h : HS w0 M (.own (.slice a 1 cap) nt' 3 1 (LNd.vals n) :: .ents et n.ea n.ec n.es :: .kids n.ca n.cc n.cs :: As) w) : HS w0 M (.nodes et nt' a cap [n] :: As) w:=by
 have h1 : HS w0 M ([.ents et n.ea n.ec n.es,.kids n.ca n.cc n.cs] ++ (.own (.slice a 1 cap) nt' 3 1 (LNd.vals n) :: As)) w:=h.perm ((List.Perm.swap ..).trans (List.Perm.cons _ (List.Perm.swap ..)));have h2 : HS w0 M ([Qf6 et n] ++ (.own (.slice a 1 cap) nt' 3 1 (LNd.vals n) :: As)) w:=HS.star_close h1;have h3 : HS w0 M (.star ([n].map (Qf6 et)) :: .own (.slice a 1 cap) nt' 3 1 (LNd.vals n) :: As) w:=HS.star_close h2;exact HS.row_shut (l:=[n]) (h3.perm (List.Perm.swap ..)) rfl (by simp)
theorem HS.nodes_own (h : HS w0 M As w) (hp : QN As (.nodes et nt' a cap L) As') : HS w0 M (.own (.slice a L.length cap) nt' 3 L.length (L.flatMap LNd.vals) :: As') w:=by
 have h1:=HS.row_open (h.pick hp);exact (h1.perm ((List.Perm.swap ..))).tail
theorem HS.nodes_some (hn : 0 < L.length) (h : HS w0 M As w) (hp : QN As (.nodes et nt' a cap L) As') : ∃ g,a = some ⟨g,0,none⟩ ∧ L.length ≤ cap ∧ cap ≤ maxLen:=by
 obtain ⟨_,⟨_,h0⟩ | ⟨g,cap',e,h1,h2,_⟩⟩:=(h.nodes_own hp).head
 ·omega
 ·injection e with e1 e2 e3
  subst e1 e3;exact ⟨g,rfl,h1,h2⟩
theorem HS.nodes_blk {g : Nat} {x : LNd} (h : HS w0 M As w) (hp : QN As (.nodes et nt' (some ⟨g,0,none⟩) cap [x]) As') : HS w0 M (.blk g nt' (cap * 3) (LNd.vals x) :: As') w:=by
 have h1:=h.nodes_own hp;have h2:=HS.own_at h1 .here
 simpa using h2
end
theorem HS.ents_some {w0 w : World} {M : List Nat} {As As' : List HA} {et cap : Nat} {a : Option Addr} {l : List TEnt} (hn : 0 < l.length) (h : HS w0 M As w) (hp : QN As (.ents et a cap l) As') : ∃ g,a = some ⟨g,0,none⟩:=by
 obtain ⟨g,e,_⟩:=HS.own_blk hn hp h;exact ⟨g,e⟩
theorem QjT {L : List LNd} {x : Nd} (h : pln L = [x]) : ∃ y,L = [y] ∧ y.pl = x:=by
 cases L with
 | nil=>cases h
 | cons y L=>
  cases L with
  | nil=>exact ⟨y,rfl,by simpa using h⟩
  | cons z L=>simp at h
def Qcq (co : Int) (es : List TEnt) : Bool:=es.all fun x=>QP co x.key
theorem Qob {co : Int} {es : List TEnt} {k : Nat} (h : k < es.length) (h2 : QP co (nth es k).key = false) : Qcq co es = false:=by
 cases hb : Qcq co es with
 | false=>rfl
 | true=>
  have:=List.all_eq_true.1 hb _ (Qy h);rw [h2] at this;cases this
theorem QgD {co : Int} {es : List TEnt} (h : ∀ i,i < es.length → QP co (nth es i).key = true) : Qcq co es = true:=by
 refine List.all_eq_true.2 fun x hx=>?_;obtain ⟨i,hi,e⟩:=List.getElem_of_mem hx;have:=h i hi
 rwa [YY (x:=x) (by rw [List.getElem?_eq_getElem hi,e])] at this
theorem QfW {co : Int} {es : List TEnt} (h : Qcq co es = true) {k : Nat} (hk : k < es.length) : QP co (nth es k).key = true:=List.all_eq_true.1 h _ (Qy hk)
theorem Qs6 {co : Int} {k : List UInt8} : XW co k = 0 ↔ QP co k = true:=by
 unfold XW;split <;> simp_all
theorem Qi1 {s : List UInt8} (h : s.length < 16) : Qv s = (noT,10):=if_pos h
section
variable {s : List UInt8} (h1 : ¬ s.length < 16)
include h1
theorem Qk4 (h2 : ¬ s.take 4 = YJ) : Qv s = (noT,3):=by unfold Qv;rw [if_neg h1,if_neg h2]
variable (h2 : s.take 4 = YJ)
include h2
theorem Qol (h3 : ¬ Qr (at1 s 4) = 0) : Qv s = (noT,Qr (at1 s 4)):=by unfold Qv;rw [if_neg h1,if_pos h2,if_neg h3]
variable (h3 : Qr (at1 s 4) = 0)
include h3
theorem QpG (h4 : ¬ Xy (at1 s 5) (at1 s 6) = 0) : Qv s = (noT,Xy (at1 s 5) (at1 s 6)):=by unfold Qv;rw [if_neg h1,if_pos h2,if_pos h3,if_neg h4]
variable (h4 : Xy (at1 s 5) (at1 s 6) = 0)
include h4
theorem Qlt (h5 : ¬ at1 s 5 ≤ 4) : Qv s = (noT,8):=by unfold Qv;rw [if_neg h1,if_pos h2,if_pos h3,if_pos h4,if_neg h5]
variable (h5 : at1 s 5 ≤ 4)
include h5
theorem Qkt (h6 : ¬ at1 s 7 ≤ at1 s 6) : Qv s = (noT,16):=by unfold Qv;rw [if_neg h1,if_pos h2,if_pos h3,if_pos h4,if_pos h5,if_neg h6]
variable (h6 : at1 s 7 ≤ at1 s 6)
include h6
theorem Qjk (h7 : ∀ n,rdN s 8 (ub1 s 7) = some (n,s.length) → Qdx (at1 s 4) n.es = false) : Qv s = (noT,3):=by
 unfold Qv;rw [if_neg h1,if_pos h2,if_pos h3,if_pos h4,if_pos h5,if_pos h6];cases hr : rdN s 8 (ub1 s 7) with
 | none=>rfl
 | some q=>
  obtain ⟨n,e⟩:=q;simp only [];rw [if_neg];rintro ⟨e1,e2⟩;subst e1;rw [h7 n hr] at e2;cases e2
theorem QrV {n : Nd} (h7 : rdN s 8 (ub1 s 7) = some (n,s.length)) (h8 : Qdx (at1 s 4) n.es = true) : Qv s = (⟨at1 s 4,at1 s 5,at1 s 6,[n]⟩,0):=by
 unfold Qv;rw [if_neg h1,if_pos h2,if_pos h3,if_pos h4,if_pos h5,if_pos h6,h7];simp [h8]
end
def rtE (s : List UInt8) : Int:=if Qr (at1 s 4) = 0 then if Xy (at1 s 5) (at1 s 6) = 0 then if at1 s 5 ≤ 4 then if at1 s 7 ≤ at1 s 6 then 0 else 16 else 8 else Xy (at1 s 5) (at1 s 6) else Qr (at1 s 4)
theorem Qvg {s : List UInt8} (h : rtE s = 0) : Qr (at1 s 4) = 0 ∧ Xy (at1 s 5) (at1 s 6) = 0 ∧ at1 s 5 ≤ 4 ∧ at1 s 7 ≤ at1 s 6:=by
 unfold rtE at h;split at h
 ·rename_i h3;split at h
  ·rename_i h4;split at h
   ·rename_i h5;split at h
    ·rename_i h6;exact ⟨h3,h4,h5,h6⟩
    ·cases h
   ·cases h
  ·rename_i h4;exact absurd h h4
 ·rename_i h3;exact absurd h h3
theorem Qtj {s : List UInt8} (h1 : ¬ s.length < 16) (h2 : s.take 4 = YJ) (h : ¬ rtE s = 0) : Qv s = (noT,rtE s):=by
 by_cases h3 : Qr (at1 s 4) = 0
 ·by_cases h4 : Xy (at1 s 5) (at1 s 6) = 0
  ·by_cases h5 : at1 s 5 ≤ 4
   ·by_cases h6 : at1 s 7 ≤ at1 s 6
    ·exact absurd (by unfold rtE;rw [if_pos h3,if_pos h4,if_pos h5,if_pos h6]) h
    ·rw [Qkt h1 h2 h3 h4 h5 h6];unfold rtE;rw [if_pos h3,if_pos h4,if_pos h5,if_neg h6]
   ·rw [Qlt h1 h2 h3 h4 h5];unfold rtE;rw [if_pos h3,if_pos h4,if_neg h5]
  ·rw [QpG h1 h2 h3 h4];unfold rtE;rw [if_pos h3,if_neg h4]
 ·rw [Qol h1 h2 h3];unfold rtE;rw [if_neg h3]
section
variable {P : Program} {o : Oper} {L : Qd} {w0 : World} {M : List Nat} {As As' : List HA}
theorem Qhr {src dst e n cap b bt tot : Nat} {x : Operand} (s : List UInt8) (ho : o.op = .convert src dst x) (hx : ev L x = some (.slice (some ⟨b,0,none⟩) n cap)) (hs : P.underlying src = some (.slice e)) (hd : P.underlying dst = some .string) (he : P.underlying e = some (.int .u8)) (hn : n ≤ s.length) (hp : QN As (.blk b bt tot (s.map bv)) As') : OpQ P o L (HS w0 M As) (.string (bs (s.take n))):=by
 refine Qfc (s.take n) ho hx hs hd he (by rw [List.length_take];omega) fun w hw _=>⟨b,0,rfl,fun j hj=>?_⟩;rw [List.length_take] at hj;rw [Nat.zero_add];refine (hw.blk_get hp).cell ?_;rw [List.getElem?_map,List.getElem?_eq_getElem (by omega)];simp [bv]
end
theorem Qa0 {s : List UInt8} {p0 count k : Nat} (h0 : p0 ≤ s.length) {r : RdS} (h : stR s p0 count k = some r) (hk : k ≤ count + 1) : r.es.length ≤ count ∧ ∀ x ∈ r.es,XZ x 0 = true:=by
 unfold stR at h;split at h
 ·obtain ⟨h1,_,_,_,_,h6,_⟩:=Qa2 h0 h;exact ⟨by omega,h6⟩
 ·cases hq : rdE s p0 count with
  | none=>rw [hq] at h;cases h
  | some q=>
   rw [hq] at h;simp only [] at h;obtain ⟨h1,_,_,_,_,h6,_⟩:=Qa2 h0 hq;split at h
   ·injection h with h
    subst h;exact ⟨Nat.le_of_eq h1,h6⟩
   ·cases h
theorem Qth {x : TEnt} {c : Nat} (h : XZ x c = true) : XZ x 0 = true:=by
 simp only [XZ,decide_eq_true_eq] at h ⊢;omega
theorem Qtb {s : List UInt8} {p0 count k : Nat} (h0 : p0 ≤ s.length) {r : RdS} (h : stR s p0 count k = some r) (hk : k < count + 1) (hK : k < count → XZ (Q0 s r.p) (ub4 s (r.p + 4)) = true) : (esR s r k count).length ≤ count ∧ ∀ x ∈ esR s r k count,XZ x 0 = true:=by
 obtain ⟨h1,h2⟩:=Qa0 h0 h (by omega);rcases Nat.lt_or_ge k count with hc | hc
 ·rw [Qnl hc];rw [QdI (by omega)] at h;have h3:=(Qa2 h0 h).1;refine ⟨by rw [List.length_append];simp only [List.length_cons,List.length_nil];omega,fun x hx=>?_⟩;rcases List.mem_append.1 hx with hx | hx
  ·exact h2 x hx
  ·rcases List.mem_singleton.1 hx;exact Qth (hK hc)
 ·rw [Qoi (by omega)];exact ⟨h1,h2⟩
theorem QcX (s : List UInt8) : (Qv s).1.ns.length ≤ 1 ∧ Sm 100000 (Qv s).1.ns:=by
 have hno : (noT.ns.length ≤ 1 ∧ Sm 100000 noT.ns):=⟨Nat.zero_le _,fun k=>⟨Nat.zero_le _,Nat.zero_le _⟩⟩
 by_cases h : (Qv s).2 = 0
 ·obtain ⟨n,last,h1,_,_,h4,h5,_⟩:=QlF h;rw [h4];refine ⟨Nat.le_refl _,fun k=>?_⟩;have h6:=Qk3 (by omega) h1;have h7:=YB s 7;cases k with
  | zero=>
   show n.es.length ≤ _ ∧ n.cs.length ≤ _;omega
  | succ k=>exact ⟨Nat.zero_le _,Nat.zero_le _⟩
 ·have h0 : (Qv s).1 = noT:=by
   unfold Qv at h ⊢;split at h
   ·rename_i h1;rw [if_pos h1]
   ·rename_i h1;rw [if_neg h1];split at h
    ·rename_i h2;rw [if_pos h2];split at h
     ·rename_i h3;rw [if_pos h3];split at h
      ·rename_i h4;rw [if_pos h4];split at h
       ·rename_i h5;rw [if_pos h5];split at h
        ·rename_i h6;rw [if_pos h6];split at h
         ·rename_i h7;split at h
          ·exact absurd rfl h
          ·rename_i h8;simp only [h7,if_neg h8]
         ·rfl
        ·rename_i h6;rw [if_neg h6]
       ·rename_i h5;rw [if_neg h5]
      ·rename_i h4;rw [if_neg h4]
     ·rename_i h3;rw [if_neg h3]
    ·rename_i h2;rw [if_neg h2]
  rw [h0];exact hno
end Gx
namespace Go.Proofs
open Go Go.RowKit Gx
attribute [local irreducible] Go.Calls Gx.S Gx.O Gx.D Gx.OpP Gx.OpQ Gx.OpH
set_option maxRecDepth 20000
theorem Qsn : Qt Tryz.prog 159 = true:=by kernel_rfl
theorem Qs9 : Qt Tryz.prog 132 = true:=by kernel_rfl
theorem Qrm : ZD Tryz.prog 27 = some [(0,1),(1,1)]:=by kernel_rfl
theorem Qua : Qt Tryz.prog 157 = true:=by kernel_rfl
theorem Qtr : Qt Tryz.prog 158 = true:=by kernel_rfl
theorem c92 (w : World) (s : List UInt8) (p0 count : Nat) (a : Option Addr) (cap : Nat) (hs : Vl w a ((s.drop p0).map bv)) (hp0 : p0 ≤ s.length) (hsl : s.length ≤ 1000000) (hcap : s.length - p0 ≤ cap) (hc9 : cap ≤ 9223372036854775807) (hct : count ≤ 1000) : Calls Tryz.prog 92 #[.slice a (s.length - p0) cap,.int .i64 (count : Int)] w fun en w'=>∃ g : LNd × Option Addr × Nat × Nat,en = .returned (.tuple #[.agg (LNd.vals g.1).toArray,.slice g.2.1 g.2.2.1 g.2.2.2,.bool (rdN s p0 count).isSome]) ∧ ((∀ nd e,rdN s p0 count = some (nd,e) → g.1.pl = nd ∧ g.2.2.1 = s.length - e) ∧ g.1.es.length ≤ count ∧ ∀ x ∈ g.1.es,XZ x 0 = true) ∧ HS w [] [.ents 27 g.1.ea g.1.ec g.1.es,.kids g.1.ca g.1.cc g.1.cs] w':=by
 refine enter (args:=[_,_]) Tryz.func92 Tryz.ntmps92 rfl rfl (HS.refl w []) ?_
 refine aS2 ?_
 refine oAl (fun b1 _=>?_) Yp
 refine aS6 ?_
 refine oSt ?_
 refine Qaq ?_
 try refine oWr ?_
 refine aS3 ?_
 refine QB (α:=Nat × RdS × (Option Addr × Nat) × (Option Addr × Nat) × (Option Addr × Nat)) [0,5,6,7,8,9,10,11,12,13,14,19,20,21,22,23,24,25,26,27,28,29,30,31,32,33,34,35,36,37,38,39,40,41,42,43,44,45,46,47,48,49,50,51,52,53,54,55,56,57,58,59,60,61,62,63,64,65,66,67,68,69,70,71,72,73,74,75,76,77,78,79,80,81,82,83,84,85,86,87,88,89,90,91,92,93,94,95,96,97,98,99,100,101,102,103,104,105,106,107,108,109,110,111,112,113,114] (fun x=>[(19,.int .i64 (x.1 : Int)),(7,.slice x.2.2.2.1.1 x.2.1.cs.length x.2.2.2.1.2),(0,.slice x.2.2.2.2.1 (s.length - x.2.1.p) x.2.2.2.2.2)]) (fun x=>HS w [] [.blk b1 69 3 [.bool true,.slice x.2.2.1.1 x.2.1.es.length x.2.2.1.2,.slice none 0 0],.own (.slice x.2.2.1.1 x.2.1.es.length x.2.2.1.2) 27 2 x.2.1.es.length (x.2.1.es.flatMap TEnt.vals),.own (.slice x.2.2.2.1.1 x.2.1.cs.length x.2.2.2.1.2) 3 1 x.2.1.cs.length (x.2.1.cs.flatMap inV)]) (fun x=>x.1 ≤ count + 1 ∧ stR s p0 count x.1 = some x.2.1 ∧ Vl w x.2.2.2.2.1 ((s.drop x.2.1.p).map bv) ∧ s.length - x.2.1.p ≤ x.2.2.2.2.2 ∧ x.2.2.2.2.2 ≤ 9223372036854775807) (fun x=>count + 1 - x.1) (0,⟨[],[],p0⟩,(none,0),(none,0),(a,cap)) ⟨Nat.zero_le _,QdI (Nat.zero_le _),hs,hcap,hc9⟩ aSx (fun w h=>((h.own_nil 27 2).own_nil 3 1).ent aEt) (fun ⟨k,r,⟨ea,ec⟩,⟨da,dc⟩,⟨ba,bc⟩⟩ hk1=>?_)
 dsimp only
 simp only [] at hk1
 obtain ⟨hk2,hst,hv,hbc,hbm⟩:=hk1
 obtain ⟨hp1,hp2,hle,hlc⟩:=QtO hp0 hst hk2
 have hdl : (s.drop r.p).length = s.length - r.p:=List.length_drop
 refine aS5 ?_
 refine Qc rfl (fun h2=>?_) fun h2=>?_
 ·try simp only [dT] at h2
  have hk : k < count + 1:=by omega
  iterate 15 refine aS ?_
  refine Qc rfl (fun h3=>?_) fun h3=>?_
  ·try simp only [dT] at h3
   have hN : rdN s p0 count = none:=Qkp hst hk (fun h9=>by have hq:=h3;have:=h9.1;omega)
   refine aS3 ?_
   refine oSt ?_
   refine aS3 ?_
   exact Qq (rs:=[.cell 4 69,.tmp 5,.tmp 6]) rfl (.cell rfl Xz aPk rfl (.tmp rfl (.tmp rfl (.nil)))) (fun w' h'=>⟨(⟨true,ea,ec,r.es,none,0,[]⟩,none,0,0),by rw [hN];rfl,⟨fun _ _ h9=>(by rw [hN] at h9;cases h9),Qa0 hp0 hst hk2⟩,(h'.own_nil 3 1).ent aEt⟩)
  try simp only [dN] at h3
  have h8 : r.p + 8 ≤ s.length:=by have hq:=h3;omega
  have hb2:=QhU s r.p
  have hbk:=YB s (r.p + 2)
  have hbv:=YB s (r.p + 3)
  have hb4:=QrW s (r.p + 4)
  have hsz : Q2 s r.p = 8 + ub1 s (r.p + 2) + ub1 s (r.p + 3):=rfl
  have hb12 : ((s.drop r.p).getD 2 0).toNat = ub1 s (r.p + 2):=Qkr s r.p 2
  have hb13 : ((s.drop r.p).getD 3 0).toNat = ub1 s (r.p + 3):=Qkr s r.p 3
  have ha2 : at2 (s.drop r.p) 0 = ((ub2 s r.p : Nat) : Int):=by rw [QbE,Nat.add_zero,Qib]
  have ha4 : at4 (s.drop (r.p + 4)) 0 = ((ub4 s (r.p + 4) : Nat) : Int):=by rw [QiO,Nat.add_zero,QkF]
  refine aS2 ?_
  refine QL [] Q8 ?_
  refine dP 0 ?_
  refine dQ 1 [] rfl (Qb rfl Qka rfl (fun w1 h1=>Qt9 w1 ba (s.length - r.p) bc (s.drop r.p) (hv.later h1) hdl (by omega) hbc hbm)) ?_
  refine dV 2 rfl (Qs rfl rfl Y5 Zo) ?_
  try refine dWr ?_
  refine QG (show _ = Value.int .i64 ((ub2 s r.p : Nat) : Int) from by first | exact congrArg (Value.int .i64) ha2 | (rw [ha2];exact Qen (by omega) (by omega))) ?_
  refine dP 3 ?_
  refine dV 4 rfl (Qa rfl rfl rfl QQ 2 rfl (by omega) (hv.some (by rw [List.length_map,List.length_drop];omega))) ?_
  refine dQ 5 [] rfl (Qe rfl rfl Qem ((hv.rd (i:=2) (ZI (l:=(s.drop r.p)) (k:=2) (by omega))))) ?_
  refine dV 6 rfl (Qs rfl rfl ZA Zo) ?_
  try refine dWr ?_
  refine QG (show _ = Value.int .i64 ((ub1 s (r.p + 2) : Nat) : Int) from by first | exact congrArg (fun z : Nat=>Value.int .i64 (z : Int)) hb12 | (rw [hb12];exact Qen (by omega) (by omega))) ?_
  refine dP 7 ?_
  refine dV 8 rfl (Qa rfl rfl rfl QQ 3 rfl (by omega) (hv.some (by rw [List.length_map,List.length_drop];omega))) ?_
  refine dQ 9 [] rfl (Qe rfl rfl Qem ((hv.rd (i:=3) (ZI (l:=(s.drop r.p)) (k:=3) (by omega))))) ?_
  refine dV 10 rfl (Qs rfl rfl ZA Zo) ?_
  try refine dWr ?_
  refine QG (show _ = Value.int .i64 ((ub1 s (r.p + 3) : Nat) : Int) from by first | exact congrArg (fun z : Nat=>Value.int .i64 (z : Int)) hb13 | (rw [hb13];exact Qen (by omega) (by omega))) ?_
  refine dP 11 ?_
  refine dV 12 rfl (QI _ _ 4 (s.length - r.p) rfl rfl QQ ⟨_,_,rfl,rfl⟩ rfl (by omega) (by omega)) ?_
  refine dQ 13 [] rfl (Qb rfl Qs9 rfl (fun w1 h1=>c132 w1 (X7 ba bc 4 1) (s.length - r.p - 4) (bc - 4) (s.drop (r.p + 4)) (by have h9:=(hv.later h1).dropA (k:=4) (cap:=bc) (by rw [List.length_map,hdl];omega) (by rw [List.length_map,hdl];omega);rw [← List.map_drop,List.drop_drop] at h9;exact h9) (by rw [List.length_drop];omega) (by omega) (by omega) (by omega))) ?_
  refine dV 14 rfl (Qs rfl rfl Qag Zo) ?_
  try refine dWr ?_
  refine QG (show _ = Value.int .i64 ((ub4 s (r.p + 4) : Nat) : Int) from by first | exact congrArg (Value.int .i64) ha4 | (rw [ha4];exact Qen (by omega) (by omega))) ?_
  refine dP 15 ?_
  refine dP 16 ?_
  refine dP 17 ?_
  refine dP 18 ?_
  refine dNi ?_
  refine aS2 ?_
  refine Qm (L':=[(0,_),(1,_),(4,_),(7,_),(8,_),(9,_),(10,_),(11,_),(12,_),(16,_),(17,_),(18,_),(19,_)]) aSx (fun _ h=>h) ?_
  refine aS4 ?_
  refine Xn 5 43 48 _ _ rfl
   (by
    intro hg4
    have hs5:=hg4;try simp only [dN] at hs5
    refine oOn 43 hg4 ?_
    refine aS ?_
    refine oOn 43 hg4 ?_
    refine aS ?_
    refine oOn 43 hg4 ?_
    refine aS ?_
    refine oOn 43 hg4 ?_
    refine aS ?_
    refine o_p (Qf rfl rfl hg4 rfl) rfl ?_
    refine aS ?_
    exact oJn 5 48)
   (by
    intro hg6
    have hs7:=hg6;try simp only [dT] at hs7
    refine oOf 43 hg6 ?_
    refine oOf 43 hg6 ?_
    refine oOf 43 hg6 ?_
    refine oOf 43 hg6 ?_
    refine o_p (Qg rfl rfl hg6 rfl) rfl ?_
    refine aS ?_
    exact oJn 5 48) ?_
  refine aS ?_
  refine Xn 7 49 56 _ _ rfl
   (by
    intro hg8
    have hs9:=hg8;try simp only [Bool.or_eq_false_iff,decide_eq_false_iff_not] at hs9
    refine oOn 49 hg8 ?_
    refine aS ?_
    refine oOn 49 hg8 ?_
    refine aS ?_
    refine oOn 49 hg8 ?_
    refine aS ?_
    try refine oWr ?_
    refine oOn 49 hg8 ?_
    refine aS ?_
    refine oOn 49 hg8 ?_
    refine aS ?_
    try refine oWr ?_
    refine oOn 49 hg8 ?_
    refine aS ?_
    refine o_p (Qf rfl rfl hg8 rfl) rfl ?_
    refine aS ?_
    exact oJn 7 56)
   (by
    intro hg10
    have hs11:=hg10;try simp only [Bool.or_eq_true,decide_eq_true_eq] at hs11
    refine oOf 49 hg10 ?_
    refine oOf 49 hg10 ?_
    refine oOf 49 hg10 ?_
    refine oOf 49 hg10 ?_
    refine oOf 49 hg10 ?_
    refine oOf 49 hg10 ?_
    refine o_p (Qg rfl rfl hg10 rfl) rfl ?_
    refine aS ?_
    exact oJn 7 56) ?_
  refine aS ?_
  refine Qc rfl (fun h12=>?_) fun h12=>?_
  ·try simp only [Bool.or_eq_true,decide_eq_true_eq] at h12
   have hN : rdN s p0 count = none:=Qkp hst hk (fun h9=>by have hq:=h12;obtain ⟨q1,q2,q3,q4⟩:=h9;grind)
   refine aS3 ?_
   refine oSt ?_
   refine aS3 ?_
   exact Qq (rs:=[.cell 4 69,.tmp 5,.tmp 6]) rfl (.cell rfl Xz aPk rfl (.tmp rfl (.tmp rfl (.nil)))) (fun w' h'=>⟨(⟨true,ea,ec,r.es,none,0,[]⟩,none,0,0),by rw [hN];rfl,⟨fun _ _ h9=>(by rw [hN] at h9;cases h9),Qa0 hp0 hst hk2⟩,(h'.own_nil 3 1).ent aEt⟩)
  try simp only [Bool.or_eq_false_iff,decide_eq_false_iff_not] at h12
  have h4 : Qp1 s r.p:=by have hq:=h12;refine ⟨h8,?_,?_,?_⟩ <;> grind
  obtain ⟨_,h41,h42,h43⟩:=id h4
  obtain ⟨hes,hkl,hvl⟩:=Qdb (s:=s) (p:=r.p) (by omega)
  refine aS2 ?_
  refine QL [16] Q8 ?_
  refine dP 0 ?_
  refine dP 1 ?_
  refine dP 2 ?_
  try refine dWr ?_
  refine dV 3 rfl (QI _ _ 8 (8 + ub1 s (r.p + 2)) rfl rfl QQ ⟨_,_,rfl,rfl⟩ ⟨_,_,rfl,(by omega)⟩ (by omega) (by omega)) ?_
  refine dQ 4 [[]] rfl (Z4 (Q0 s r.p).key rfl rfl Tryz.underlying139 Tryz.underlying9 Tryz.underlying5 (by rw [hkl];omega) (by have h9:=hv.sub (cap:=bc) (lo:=8) (n:=ub1 s (r.p + 2)) (by rw [hdl];omega) (by rw [hdl];omega);rw [QdL] at h9;exact h9)) ?_
  refine dP 5 ?_
  refine dP 6 ?_
  refine dP 7 ?_
  try refine dWr ?_
  refine dP 8 ?_
  refine dP 9 ?_
  try refine dWr ?_
  refine dP 10 ?_
  refine dP 11 ?_
  try refine dWr ?_
  refine dV 12 rfl (QI _ _ (8 + ub1 s (r.p + 2)) (8 + ub1 s (r.p + 2) + ub1 s (r.p + 3)) rfl rfl QQ ⟨_,_,rfl,(by omega)⟩ ⟨_,_,rfl,(by omega)⟩ (by omega) (by omega)) ?_
  refine dQ 13 [[]] rfl (Z4 (Q0 s r.p).val rfl rfl Tryz.underlying139 Tryz.underlying9 Tryz.underlying5 (by rw [hvl];omega) (by have h9:=hv.sub (cap:=bc) (lo:=8 + ub1 s (r.p + 2)) (n:=ub1 s (r.p + 3)) (by rw [hdl];omega) (by rw [hdl];omega);rw [QdL,← Nat.add_assoc] at h9;exact h9)) ?_
  refine dV 14 rfl (Xr (cs:=[_,_]) rfl rfl Qrm Zv rfl) ?_
  refine dH 15 rfl (Qc8 rfl Zv) (fun b13 _=>?_)
  refine dBa ?_
  refine dSt 16 ?_ (hl:=(by simp only [Ql,List.length_set,List.length_cons,List.length_nil,List.length_map];omega))
  refine dTu [] ?_
  refine dNi ?_
  refine aS ?_
  refine Qm (L':=[(0,_),(1,_),(4,_),(7,_),(8,_),(9,_),(10,_),(11,_),(12,_),(13,_),(16,_),(17,_),(18,_),(19,_)]) aSx (fun _ h=>h) ?_
  refine aS2 ?_
  refine Yj (fun w h=>h.byz_nil) ?_
  refine o_h (Xw (Cs:=[.byz none 0 []]) rfl Qov rfl aPs (fun w1 h1 hf=>c156 w1 none 0 [] ((ub4 s (r.p + 4) : Nat) : Int) hf (by omega) (Nat.zero_le _))) rfl (fun ⟨b14,c15⟩ hz16=>?_)
  refine aS9 ?_
  refine Yh (α:=(Option Addr × Nat) × (Option Addr × Nat)) [5,6,14,78,79,80,81,82,83,84,85,86,87,88,89,90,91,92,93,94,95,96,97,98,99] (fun y=>[(14,.slice y.1.1 (Qiw s r.p k count).length y.1.2)]) (fun y=>HS w [] [.blk b1 69 3 [.bool true,.slice y.2.1 (esR s r k count).length y.2.2,.slice none 0 0],.own (.slice y.2.1 (esR s r k count).length y.2.2) 27 2 (esR s r k count).length ((esR s r k count).flatMap TEnt.vals),.own (.slice da r.cs.length dc) 3 1 r.cs.length (r.cs.flatMap inV),.byz y.1.1 y.1.2 (Qiw s r.p k count)]) (fun _=>k < count → XZ (Q0 s r.p) (ub4 s (r.p + 4)) = true) ?_ ?_
  ·skip
   refine Qc rfl (fun h17=>?_) fun h17=>?_
   ·try simp only [dT] at h17
    have hkc : k < count:=by have hq:=h17;omega
    refine aS4 ?_
    refine o_q (Qb rfl Qod rfl (fun w1 h1=>c87 w1 _ _ _)) rfl ?_
    refine aS2 ?_
    refine Xn 3 81 84 _ _ rfl
     (by
      intro hg18
      have hs19:=hg18;try simp only [Bool.not_eq_false',Bool.and_eq_true,decide_eq_true_eq] at hs19
      refine oOn 81 hg18 ?_
      refine aS ?_
      refine oOn 81 hg18 ?_
      refine aS ?_
      refine o_p (Qf rfl rfl hg18 rfl) rfl ?_
      refine aS ?_
      exact oJn 3 84)
     (by
      intro hg20
      have hs21:=hg20;try simp only [Bool.not_eq_true',Bool.and_eq_false_iff,decide_eq_false_iff_not] at hs21
      refine oOf 81 hg20 ?_
      refine oOf 81 hg20 ?_
      refine o_p (Qg rfl rfl hg20 rfl) rfl ?_
      refine aS ?_
      exact oJn 3 84) ?_
    refine aS ?_
    refine Xn 4 85 89 _ _ rfl
     (by
      intro hg22
      have hs23:=hg22;try simp only [Bool.or_eq_false_iff,Bool.not_eq_false',Bool.and_eq_true,decide_eq_true_eq,decide_eq_false_iff_not] at hs23
      refine oOn 85 hg22 ?_
      refine aS ?_
      refine oOn 85 hg22 ?_
      refine o_q (Qb rfl Qnz rfl (fun w1 h1=>c88 w1 _ (by omega) (by omega))) rfl ?_
      refine oOn 85 hg22 ?_
      refine aS ?_
      refine o_p (Qf rfl rfl hg22 rfl) rfl ?_
      refine aS ?_
      exact oJn 4 89)
     (by
      intro hg24
      have hs25:=hg24;try simp only [Bool.or_eq_true,Bool.not_eq_true',Bool.and_eq_false_iff,decide_eq_false_iff_not,decide_eq_true_eq] at hs25
      refine oOf 85 hg24 ?_
      refine oOf 85 hg24 ?_
      refine oOf 85 hg24 ?_
      refine o_p (Qg rfl rfl hg24 rfl) rfl ?_
      refine aS ?_
      exact oJn 4 89) ?_
    refine aS ?_
    refine Qc rfl (fun h26=>?_) fun h26=>?_
    ·try simp only [Bool.or_eq_true,Bool.not_eq_true',Bool.and_eq_false_iff,decide_eq_false_iff_not,decide_eq_true_eq] at h26
     have hN : rdN s p0 count = none:=Qhs hst hkc (QkN (by rw [QfQ h41];have hq:=h26;grind))
     refine aS3 ?_
     refine oSt ?_
     refine aS3 ?_
     exact Qq (rs:=[.cell 4 69,.tmp 5,.tmp 6]) rfl (.cell rfl Xz aPk rfl (.tmp rfl (.tmp rfl (.nil)))) (fun w' h'=>⟨(⟨true,ea,ec,r.es,none,0,[]⟩,none,0,0),by rw [hN];rfl,⟨fun _ _ h9=>(by rw [hN] at h9;cases h9),Qa0 hp0 hst hk2⟩,(h'.own_nil 3 1).ent aEt⟩)
    try simp only [Bool.or_eq_false_iff,Bool.not_eq_false',Bool.and_eq_true,decide_eq_true_eq,decide_eq_false_iff_not] at h26
    have hK : XZ (Q0 s r.p) (ub4 s (r.p + 4)) = true:=by rw [QfQ h41];have hq:=h26;grind
    refine aS5 ?_
    refine Yj (fun w h=>h.byz_nil) ?_
    refine o_h (Xw (Cs:=[.byz none 0 []]) rfl Qn9 rfl aPs (fun w1 h1 hf=>c89 w1 none 0 [] (Q0 s r.p) ((ub4 s (r.p + 4) : Nat) : Int) hf (Nat.zero_le _) rfl (by omega) (by omega) (by omega))) rfl (fun ⟨b27,c28⟩ hz29=>?_)
    refine aS2 ?_
    refine Qm (L':=[(0,_),(1,_),(4,_),(7,_),(8,_),(9,_),(10,_),(11,_),(12,_),(13,_),(14,_),(16,_),(17,_),(18,_),(19,_),(73,_),(74,_),(75,_),(76,_),(77,_)]) aSx (fun _ h=>h) ?_
    refine aS4 ?_
    refine o_h (Qp (cs:=[_,_]) rfl rfl QX Zv rfl rfl rfl) rfl (fun b30 _=>?_)
    refine o_h (XM ((Q0 s r.p).vals) rfl rfl rfl QX Tryz.underlying67 Zv rfl aPk (Xv aPk) rfl (ev1 _) (by omega) (by simp only [maxLen];omega)) rfl (fun b31 _=>?_)
    refine aS ?_
    refine oSt ?_
    refine aS ?_
    exact Qx ((b27,c28),(b31.1,b31.2)) (fun _=>hK) (by dsimp only;rw [QhB hkc];exact aSx) (fun w h=>by dsimp only;rw [QhB hkc,Qnl hkc,List.length_append,QdQ];exact h.ent aEt)
   try simp only [dN] at h17
   have hkc : ¬ k < count:=by have hq:=h17;omega
   refine aS ?_
   exact Qx ((b14,c15),(ea,ec)) (fun h9=>absurd h9 hkc) (by dsimp only;rw [QhE hkc];exact aSx) (fun w h=>by dsimp only;rw [QhE hkc,Qoi hkc];exact h.ent aEt)
  intro ⟨⟨o1,o2⟩,⟨e1,e2⟩⟩ hKK
  refine aS6 ?_
  refine o_p (QI _ _ 0 (ub2 s r.p) rfl rfl QQ rfl ⟨_,_,rfl,rfl⟩ (by omega) (by omega)) rfl ?_
  refine Qz (show _ = Value.slice (X7 ba bc 0 1) (QH s r.p (ub2 s r.p)).length (bc - 0) from by rw [Zd h42];rfl) ?_
  refine o_q (Qb rfl Qua rfl (fun w1 h1=>c157 w1 o1 (X7 ba bc 0 1) o2 (bc - 0) (Qiw s r.p k count) (QH s r.p (ub2 s r.p)) (h1.vl_byz aPk) (by have h9:=(hv.later h1).sub (cap:=bc) (lo:=0) (n:=(ub2 s r.p)) (by rw [hdl];omega) (by rw [hdl];omega);rw [QdL,Nat.add_zero] at h9;exact h9))) rfl ?_
  refine aS2 ?_
  refine Qc rfl (fun h32=>?_) fun h32=>?_
  ·try simp only [Bool.not_eq_true',decide_eq_false_iff_not] at h32
   have hN : rdN s p0 count = none:=Qtw hst hk h4 hKK (by have hq:=h32;simpa using hq)
   refine aS3 ?_
   refine oSt ?_
   refine aS3 ?_
   exact Qq (rs:=[.cell 4 69,.tmp 5,.tmp 6]) rfl (.cell rfl Xz aPk rfl (.tmp rfl (.tmp rfl (.nil)))) (fun w' h'=>⟨(⟨true,e1,e2,esR s r k count,none,0,[]⟩,none,0,0),by rw [hN];rfl,⟨fun _ _ h9=>(by rw [hN] at h9;cases h9),Qtb hp0 hst hk hKK⟩,(h'.own_nil 3 1).ent aEt⟩)
  try simp only [Bool.not_eq_false',decide_eq_true_eq] at h32
  have how : Qiw s r.p k count = QH s r.p (ub2 s r.p):=by have hq:=h32;simpa using hq
  have hnx:=Qsu hst hk h4 hKK how
  have hvn : Vl w (X7 ba bc (ub2 s r.p) 1) ((s.drop (r.p + (ub2 s r.p))).map bv):=by have h9:=hv.dropA (k:=(ub2 s r.p)) (cap:=bc) (by rw [List.length_map,hdl];omega) (by rw [List.length_map,hdl];omega);rw [← List.map_drop,List.drop_drop] at h9;exact h9
  refine aS ?_
  refine QL [3] Q8 ?_
  refine dP 0 ?_
  refine dP 1 ?_
  refine dP 4 ?_
  refine dP 5 ?_
  refine dV 6 rfl (QI _ _ (ub2 s r.p) (s.length - r.p) rfl rfl QQ ⟨_,_,rfl,rfl⟩ rfl (by omega) (by omega)) ?_
  refine QG (show _ = Value.slice (X7 ba bc (ub2 s r.p) 1) (s.length - (r.p + (ub2 s r.p))) (bc - (ub2 s r.p)) from by rw [Nat.sub_sub]) ?_
  refine dH 2 rfl (Qp (cs:=[_]) rfl rfl Q7 Qet rfl rfl rfl) (fun b33 _=>?_)
  refine dBa ?_
  refine dH 3 rfl (XM (inV ((ub4 s (r.p + 4) : Nat) : Int)) rfl rfl rfl Q7 Tryz.underlying28 Qet rfl aPk (Xv aPk) rfl (Qqj _) (by omega) (by simp only [maxLen];omega)) (fun b34 _=>?_)
  refine dTu [] ?_
  refine dP 7 ?_
  refine dP 8 ?_
  refine dNi ?_
  refine aS ?_
  refine Qm (L':=[(0,_),(1,_),(4,_),(7,_),(16,_),(17,_),(18,_),(19,_)]) aSx (fun _ h=>h) ?_
  refine aS2 ?_
  try refine oWr ?_
  refine aS2 ?_
  exact Qw (k + 1,⟨esR s r k count,r.cs ++ [((ub4 s (r.p + 4) : Nat) : Int)],r.p + (ub2 s r.p)⟩,(e1,e2),(b34.1,b34.2),(X7 ba bc (ub2 s r.p) 1,bc - (ub2 s r.p))) (by (try simp only []);omega) (by simp only [];exact ⟨by omega,hnx,hvn,by omega,by omega⟩) (by dsimp only;rw [List.length_append];exact aSx) (fun w h=>by dsimp only;rw [List.length_append,QdQ];exact h.ent aEt)
 try simp only [dN] at h2
 obtain rfl : k = count + 1:=by omega
 have hN:=Qqe hst
 refine Qo rfl ?_
 refine aS4 ?_
 refine o_q (Qb rfl Qrt rfl (fun w1 h1=>c62 w1 da dc r.cs 0 (h1.rw_own iv1 aPk rfl) (by omega))) rfl ?_
 refine aS9 ?_
 refine Qc rfl (fun h35=>?_) fun h35=>?_
 ·try simp only [Bool.not_eq_true',decide_eq_false_iff_not] at h35
  have hz : noz r.cs = true:=by rw [Qle];have hq:=h35;simpa using hq
  rw [hz] at hN
  have hN : rdN s p0 count = some (⟨true,r.es,r.cs⟩,r.p):=hN
  refine aS3 ?_
  refine oSt ?_
  refine aS6 ?_
  refine oSt ?_
  refine aS3 ?_
  exact Qq (rs:=[.cell 4 69,.tmp 5,.tmp 6]) rfl (.cell rfl Xz aPk rfl (.tmp rfl (.tmp rfl (.nil)))) (fun w' h'=>by first | exact ⟨(⟨true,ea,ec,r.es,da,dc,r.cs⟩,ba,s.length - r.p,bc),by rw [hN];rfl,⟨fun nd e h9=>by (rw [hN] at h9;injection h9 with h9;injection h9 with q1 q2;subst q1 q2;exact ⟨rfl,rfl⟩),Qa0 hp0 hst hk2⟩,h'.ent aEt⟩ | exact ⟨(⟨true,ea,ec,r.es,none,0,[]⟩,ba,s.length - r.p,bc),by rw [hN];rfl,⟨fun nd e h9=>by (rw [hN] at h9;injection h9 with h9;injection h9 with q1 q2;subst q1 q2;exact ⟨rfl,rfl⟩),Qa0 hp0 hst hk2⟩,(h'.own_nil 3 1).ent aEt⟩)
 try simp only [Bool.not_eq_false',decide_eq_true_eq] at h35
 have hz : noz r.cs = false:=by rw [Qle];have hq:=h35;simpa using hq
 rw [hz] at hN
 refine aS3 ?_
 refine o_q (Qb rfl Qtr rfl (fun w1 h1=>c158 w1 da dc r.cs 159 #[] (nzB r.cs) (h1.rw_own iv1 aPk rfl) (by omega) Qsn (by simp [nzB]) (fun k w2 hk h2=>by rw [Qqk hk];exact c159 w2 (nth r.cs k)))) rfl ?_
 refine aS2 ?_
 refine Qc rfl (fun h36=>?_) fun h36=>?_
 ·skip
  have hz2 : QcG r.cs = false:=by have hq:=h36;rw [QkC] at hq;simpa using hq
  rw [hz2] at hN
  have hN : rdN s p0 count = none:=hN
  refine aS3 ?_
  refine oSt ?_
  refine aS3 ?_
  exact Qq (rs:=[.cell 4 69,.tmp 5,.tmp 6]) rfl (.cell rfl Xz aPk rfl (.tmp rfl (.tmp rfl (.nil)))) (fun w' h'=>⟨(⟨true,ea,ec,r.es,none,0,[]⟩,none,0,0),by rw [hN];rfl,⟨fun _ _ h9=>(by rw [hN] at h9;cases h9),Qa0 hp0 hst hk2⟩,(h'.own_nil 3 1).ent aEt⟩)
 skip
 have hz2 : QcG r.cs = true:=by have hq:=h36;rw [QkC] at hq;simpa using hq
 rw [hz2] at hN
 have hN : rdN s p0 count = some (⟨true,r.es,[]⟩,r.p):=hN
 refine aS6 ?_
 refine oSt ?_
 refine aS3 ?_
 exact Qq (rs:=[.cell 4 69,.tmp 5,.tmp 6]) rfl (.cell rfl Xz aPk rfl (.tmp rfl (.tmp rfl (.nil)))) (fun w' h'=>by first | exact ⟨(⟨true,ea,ec,r.es,da,dc,r.cs⟩,ba,s.length - r.p,bc),by rw [hN];rfl,⟨fun nd e h9=>by (rw [hN] at h9;injection h9 with h9;injection h9 with q1 q2;subst q1 q2;exact ⟨rfl,rfl⟩),Qa0 hp0 hst hk2⟩,h'.ent aEt⟩ | exact ⟨(⟨true,ea,ec,r.es,none,0,[]⟩,ba,s.length - r.p,bc),by rw [hN];rfl,⟨fun nd e h9=>by (rw [hN] at h9;injection h9 with h9;injection h9 with q1 q2;subst q1 q2;exact ⟨rfl,rfl⟩),Qa0 hp0 hst hk2⟩,(h'.own_nil 3 1).ent aEt⟩)
theorem QuF : Qt Tryz.prog 53 = true:=by kernel_rfl
theorem Qir : Qt Tryz.prog 29 = true:=by kernel_rfl
theorem c98 (w : World) (s : List UInt8) (p0 count : Nat) (hp0 : p0 ≤ s.length) (hsl : s.length ≤ 1000000) (hct : count ≤ 1000) : Calls Tryz.prog 98 #[.string (bs s),.int .i64 (p0 : Int),.int .i64 (count : Int)] w fun en w'=>∃ g : LNd × Nat,en = .returned (.tuple #[.agg (LNd.vals g.1).toArray,.int .i64 (g.2 : Int),.bool (rdN s p0 count).isSome]) ∧ ((∀ nd e,rdN s p0 count = some (nd,e) → g.1.pl = nd ∧ g.2 = e) ∧ g.1.es.length ≤ count ∧ ∀ x ∈ g.1.es,XZ x 0 = true) ∧ HS w [] [.ents 27 g.1.ea g.1.ec g.1.es,.kids g.1.ca g.1.cc g.1.cs] w':=by
 refine enter (args:=[_,_,_]) Tryz.func98 Tryz.ntmps98 rfl rfl (HS.refl w []) ?_
 refine aS2 ?_
 refine oAl (fun b1 _=>?_) Yp
 refine aS5 ?_
 refine o_p (Xr (cs:=[_,_,_]) rfl rfl Qkz Yp rfl) rfl ?_
 refine oAl (fun b2 _=>?_) Yp
 refine oSt ?_
 refine Qjh ?_
 refine QB (α:=Nat × RdS × (Option Addr × Nat) × (Option Addr × Nat)) [1,7,8,10,11,12,13,14,15,16,17,21,22,23,24,25,26,27,28,29,30,31,32,33,34,35,36,37,38,39,40,41,42,43,44,45,46,47,48,49,50,51,52,53,54,55,56,57,58,59,60,61,62,63,64,65,66,67,68,69,70,71,72,73,74,75,76,77,78,79,80,81,82,83,84,85,86,87,88,89,90,91,92,93,94,95,96,97,98,99,100,101,102,103,104,105,106,107,108,109,110,111,112,113,114,115,116,117] (fun x=>[(11,.int .i64 (x.1 : Int)),(1,.int .i64 (x.2.1.p : Int)),(10,.slice x.2.2.2.1 x.2.1.cs.length x.2.2.2.2)]) (fun x=>HS w [] [.blk b2 69 3 [.bool true,.slice x.2.2.1.1 x.2.1.es.length x.2.2.1.2,.slice none 0 0],.own (.slice x.2.2.1.1 x.2.1.es.length x.2.2.1.2) 27 2 x.2.1.es.length (x.2.1.es.flatMap TEnt.vals),.own (.slice x.2.2.2.1 x.2.1.cs.length x.2.2.2.2) 3 1 x.2.1.cs.length (x.2.1.cs.flatMap inV),.blk b1 69 3 [.bool false,.slice none 0 0,.slice none 0 0]]) (fun x=>x.1 ≤ count ∧ rdE s p0 x.1 = some x.2.1) (fun x=>count - x.1) (0,⟨[],[],p0⟩,(none,0),(none,0)) ⟨Nat.zero_le _,rfl⟩ aSx (fun w h=>((h.own_nil 27 2).own_nil 3 1).ent aEt) (fun ⟨k,r,⟨ea,ec⟩,⟨da,dc⟩⟩ hk1=>?_)
 dsimp only
 simp only [] at hk1
 obtain ⟨hk2,hst⟩:=hk1
 obtain ⟨hle,hlc,hp1,hp2,_,hee,_⟩:=Qa2 hp0 hst
 refine aS7 ?_
 refine Qc rfl (fun h3=>?_) fun h3=>?_
 ·try simp only [dT] at h3
  have hk : k < count:=by omega
  refine aS8 ?_
  try refine oWr ?_
  refine aS ?_
  refine o_p (Qk rfl rfl Tryz.underlying9) rfl ?_
  refine aS2 ?_
  refine Qc rfl (fun h4=>?_) fun h4=>?_
  ·try simp only [dT] at h4
   have hN : rdN s p0 count = none:=Qex hst hk (QjY (fun h9=>by have hq:=h4;have:=h9.1;omega)).1
   refine aS3 ?_
   refine oSt ?_
   refine aS3 ?_
   exact Qq (rs:=[.cell 6 69,.tmp 7,.tmp 8]) rfl (.cell rfl Xz aPk rfl (.tmp rfl (.tmp rfl (.nil)))) (fun w' h'=>⟨(⟨true,ea,ec,r.es,none,0,[]⟩,0),by rw [hN];rfl,⟨fun _ _ h9=>(by rw [hN] at h9;cases h9),by show r.es.length ≤ _;omega,hee⟩,(h'.own_nil 3 1).ent aEt⟩)
  try simp only [dN] at h4
  have h8 : r.p + 8 ≤ s.length:=by have hq:=h4;omega
  have hb2:=QhU s r.p
  have hbk:=YB s (r.p + 2)
  have hbv:=YB s (r.p + 3)
  have hb4:=QrW s (r.p + 4)
  have hsz : Q2 s r.p = 8 + ub1 s (r.p + 2) + ub1 s (r.p + 3):=rfl
  have hp8:=YF (Q2 s r.p)
  refine aS5 ?_
  refine o_q (Qb rfl YA rfl (fun w1 h1=>by have h9:=c72 w1 s (r.p) 2 (by omega) (by omega) (by omega);rw [Qjo,Qib] at h9;exact h9)) rfl ?_
  refine aS3 ?_
  try refine oWr ?_
  refine o_q (Qb rfl YA rfl (fun w1 h1=>by have h9:=c72 w1 s (r.p + 2) 1 (by omega) (by omega) (by omega);rw [QdZ,QkX] at h9;exact h9)) rfl ?_
  refine aS3 ?_
  try refine oWr ?_
  refine o_q (Qb rfl YA rfl (fun w1 h1=>by have h9:=c72 w1 s (r.p + 3) 1 (by omega) (by omega) (by omega);rw [QdZ,QkX] at h9;exact h9)) rfl ?_
  refine aS3 ?_
  try refine oWr ?_
  refine o_q (Qb rfl YA rfl (fun w1 h1=>by have h9:=c72 w1 s (r.p + 4) 4 (by omega) (by omega) (by omega);rw [Zn,QkF] at h9;exact h9)) rfl ?_
  refine aS6 ?_
  refine Qm (L':=[(0,_),(1,_),(2,_),(6,_),(9,_),(10,_),(11,_),(12,_),(13,_),(14,_),(15,_),(20,_)]) aSx (fun _ h=>h) ?_
  refine aS3 ?_
  try refine oWr ?_
  refine aS2 ?_
  try refine oWr ?_
  refine Qz (show _ = Value.int .i64 ((Q2 s r.p : Nat) : Int) from congrArg (Value.int .i64) (by omega)) ?_
  refine aS7 ?_
  refine o_q (Qb rfl QpA rfl (fun w1 h1=>c95 w1 (Q2 s r.p) (by omega))) rfl ?_
  refine aS2 ?_
  refine Xn 7 55 62 _ _ rfl
   (by
    intro hg5
    have hs6:=hg5;try simp only [Bool.not_eq_false',decide_eq_true_eq] at hs6
    refine oOn 55 hg5 ?_
    refine aS ?_
    refine oOn 55 hg5 ?_
    refine aS ?_
    refine oOn 55 hg5 ?_
    refine aS ?_
    try refine oWr ?_
    refine oOn 55 hg5 ?_
    refine aS ?_
    refine oOn 55 hg5 ?_
    refine o_p (Qk rfl rfl Tryz.underlying9) rfl ?_
    refine oOn 55 hg5 ?_
    refine aS ?_
    refine o_p (Qf rfl rfl hg5 rfl) rfl ?_
    refine aS ?_
    exact oJn 7 62)
   (by
    intro hg7
    have hs8:=hg7;try simp only [Bool.not_eq_true',decide_eq_false_iff_not] at hs8
    refine oOf 55 hg7 ?_
    refine oOf 55 hg7 ?_
    refine oOf 55 hg7 ?_
    refine oOf 55 hg7 ?_
    refine oOf 55 hg7 ?_
    refine oOf 55 hg7 ?_
    refine o_p (Qg rfl rfl hg7 rfl) rfl ?_
    refine aS ?_
    exact oJn 7 62) ?_
  refine aS ?_
  refine Xn 11 63 74 _ _ rfl
   (by
    intro hg9
    have hs10:=hg9;try simp only [Bool.or_eq_false_iff,Bool.not_eq_false',decide_eq_true_eq,decide_eq_false_iff_not] at hs10
    refine oOn 63 hg9 ?_
    refine aS ?_
    refine oOn 63 hg9 ?_
    refine aS ?_
    refine oOn 63 hg9 ?_
    refine aS ?_
    refine oOn 63 hg9 ?_
    refine aS ?_
    try refine oWr ?_
    refine oOn 63 hg9 ?_
    refine aS ?_
    refine oOn 63 hg9 ?_
    refine aS ?_
    refine oOn 63 hg9 ?_
    refine aS ?_
    try refine oWr ?_
    refine oOn 63 hg9 ?_
    refine o_p (YL _ _ (r.p + Q2 s r.p) (r.p + ub2 s r.p) rfl rfl Tryz.underlying9 ⟨_,_,rfl,(by omega)⟩ ⟨_,_,rfl,(by omega)⟩ (by omega) (by omega)) rfl ?_
    refine Qz (show _ = Value.string (bs (QH s (r.p + Q2 s r.p) (ub2 s r.p - Q2 s r.p))) from by rw [Qam];congr 3;omega) ?_
    refine oOn 63 hg9 ?_
    refine o_q (Qb rfl QuF rfl (fun w1 h1=>c53 w1 (QH s (r.p + Q2 s r.p) (ub2 s r.p - Q2 s r.p)) (by rw [Zd (by omega)];omega))) rfl ?_
    refine oOn 63 hg9 ?_
    refine aS ?_
    refine o_p (Qf rfl rfl hg9 rfl) rfl ?_
    refine aS ?_
    exact oJn 11 74)
   (by
    intro hg11
    have hs12:=hg11;try simp only [Bool.or_eq_true,Bool.not_eq_true',decide_eq_false_iff_not,decide_eq_true_eq] at hs12
    refine oOf 63 hg11 ?_
    refine oOf 63 hg11 ?_
    refine oOf 63 hg11 ?_
    refine oOf 63 hg11 ?_
    refine oOf 63 hg11 ?_
    refine oOf 63 hg11 ?_
    refine oOf 63 hg11 ?_
    refine oOf 63 hg11 ?_
    refine oOf 63 hg11 ?_
    refine oOf 63 hg11 ?_
    refine o_p (Qg rfl rfl hg11 rfl) rfl ?_
    refine aS ?_
    exact oJn 11 74) ?_
  refine aS ?_
  refine Qc rfl (fun h13=>?_) fun h13=>?_
  ·try simp only [Bool.or_eq_true,Bool.not_eq_true',decide_eq_false_iff_not,decide_eq_true_eq] at h13
   have hN : rdN s p0 count = none:=Qex hst hk (QqD (fun h9=>by have hq:=h13;obtain ⟨q1,q2,q3⟩:=h9;grind))
   refine aS3 ?_
   refine oSt ?_
   refine aS3 ?_
   exact Qq (rs:=[.cell 6 69,.tmp 7,.tmp 8]) rfl (.cell rfl Xz aPk rfl (.tmp rfl (.tmp rfl (.nil)))) (fun w' h'=>⟨(⟨true,ea,ec,r.es,none,0,[]⟩,0),by rw [hN];rfl,⟨fun _ _ h9=>(by rw [hN] at h9;cases h9),by show r.es.length ≤ _;omega,hee⟩,(h'.own_nil 3 1).ent aEt⟩)
  try simp only [Bool.or_eq_false_iff,Bool.not_eq_false',decide_eq_true_eq,decide_eq_false_iff_not] at h13
  have h4 : ub2 s r.p = QJ (Q2 s r.p) ∧ r.p + ub2 s r.p ≤ s.length ∧ zer (QH s (r.p + Q2 s r.p) (ub2 s r.p - Q2 s r.p)) = true:=by have hq:=h13;grind
  obtain ⟨hes,hkl,hvl⟩:=Qdb (s:=s) (p:=r.p) (by omega)
  refine aS2 ?_
  refine QL [19] Q8 ?_
  refine dP 0 ?_
  refine dP 1 ?_
  refine dP 2 ?_
  try refine dWr ?_
  refine dP 3 ?_
  refine dP 4 ?_
  try refine dWr ?_
  refine dP 5 ?_
  refine dP 6 ?_
  try refine dWr ?_
  refine dV 7 rfl (YL _ _ (r.p + 8) (r.p + 8 + ub1 s (r.p + 2)) rfl rfl Tryz.underlying9 ⟨_,_,rfl,(by omega)⟩ ⟨_,_,rfl,(by omega)⟩ (by omega) (by omega)) ?_
  refine QG (show _ = Value.string (bs (Q0 s r.p).key) from by rw [Qam];congr 2;show QH _ _ _ = QH _ _ _;congr 1;omega) ?_
  refine dP 8 ?_
  refine dP 9 ?_
  refine dP 10 ?_
  try refine dWr ?_
  refine dP 11 ?_
  refine dP 12 ?_
  try refine dWr ?_
  refine dP 13 ?_
  refine dP 14 ?_
  refine dP 15 ?_
  try refine dWr ?_
  refine dV 16 rfl (YL _ _ (r.p + 8 + ub1 s (r.p + 2)) (r.p + Q2 s r.p) rfl rfl Tryz.underlying9 ⟨_,_,rfl,(by omega)⟩ ⟨_,_,rfl,(by omega)⟩ (by omega) (by omega)) ?_
  refine QG (show _ = Value.string (bs (Q0 s r.p).val) from by rw [Qam];congr 2;show QH _ _ _ = QH _ _ _;congr 1;omega) ?_
  refine dV 17 rfl (Xr (cs:=[_,_]) rfl rfl Qrm Zv rfl) ?_
  refine dH 18 rfl (Qc8 rfl Zv) (fun b14 _=>?_)
  refine dBa ?_
  refine dSt 19 ?_ (hl:=(by simp only [Ql,List.length_set,List.length_cons,List.length_nil,List.length_map];omega))
  refine dTu [] ?_
  refine dNi ?_
  refine aS2 ?_
  refine Qm (L':=[(0,_),(1,_),(2,_),(6,_),(9,_),(10,_),(11,_),(12,_),(15,_),(17,_),(20,_)]) aSx (fun _ h=>h) ?_
  refine aS3 ?_
  refine o_q (Qb rfl Qir rfl (fun w1 h1=>c29 w1 (Q0 s r.p) ((ub4 s (r.p + 4) : Nat) : Int) (by omega) (by omega))) rfl ?_
  refine aS2 ?_
  refine Xn 5 98 103 _ _ rfl
   (by
    intro hg15
    have hs16:=hg15;try simp only [Bool.not_eq_false',decide_eq_true_eq] at hs16
    refine oOn 98 hg15 ?_
    refine aS ?_
    refine oOn 98 hg15 ?_
    refine aS ?_
    refine oOn 98 hg15 ?_
    refine o_p (Qk rfl rfl Tryz.underlying9) rfl ?_
    refine oOn 98 hg15 ?_
    refine aS ?_
    refine o_p (Qf rfl rfl hg15 rfl) rfl ?_
    refine aS ?_
    exact oJn 5 103)
   (by
    intro hg17
    have hs18:=hg17;try simp only [Bool.not_eq_true',decide_eq_false_iff_not] at hs18
    refine oOf 98 hg17 ?_
    refine oOf 98 hg17 ?_
    refine oOf 98 hg17 ?_
    refine oOf 98 hg17 ?_
    refine o_p (Qg rfl rfl hg17 rfl) rfl ?_
    refine aS ?_
    exact oJn 5 103) ?_
  refine aS ?_
  refine Qc rfl (fun h19=>?_) fun h19=>?_
  ·try simp only [Bool.or_eq_true,Bool.not_eq_true',decide_eq_false_iff_not,decide_eq_true_eq] at h19
   have hN : rdN s p0 count = none:=Qex hst hk (QkN (by rw [Qip];have hq:=h19;grind))
   refine aS3 ?_
   refine oSt ?_
   refine aS3 ?_
   exact Qq (rs:=[.cell 6 69,.tmp 7,.tmp 8]) rfl (.cell rfl Xz aPk rfl (.tmp rfl (.tmp rfl (.nil)))) (fun w' h'=>⟨(⟨true,ea,ec,r.es,none,0,[]⟩,0),by rw [hN];rfl,⟨fun _ _ h9=>(by rw [hN] at h9;cases h9),by show r.es.length ≤ _;omega,hee⟩,(h'.own_nil 3 1).ent aEt⟩)
  try simp only [Bool.or_eq_false_iff,Bool.not_eq_false',decide_eq_true_eq,decide_eq_false_iff_not] at h19
  have hK : XZ (Q0 s r.p) (ub4 s (r.p + 4)) = true:=by rw [Qip];have hq:=h19;grind
  have hok:=Qp5 h8 h4 hK
  refine aS6 ?_
  refine o_h (Qp (cs:=[_,_]) rfl rfl QX Zv rfl rfl rfl) rfl (fun b20 _=>?_)
  refine o_h (XM ((Q0 s r.p).vals) rfl rfl rfl QX Tryz.underlying67 Zv rfl aPk (Xv aPk) rfl (ev1 _) (by omega) (by simp only [maxLen];omega)) rfl (fun b21 _=>?_)
  refine aS2 ?_
  refine o_h (Qp (cs:=[_]) rfl rfl Q7 Qet rfl rfl rfl) rfl (fun b22 _=>?_)
  refine o_h (XM (inV ((ub4 s (r.p + 4) : Nat) : Int)) rfl rfl rfl Q7 Tryz.underlying28 Qet rfl aPk (Xv aPk) rfl (Qqj _) (by omega) (by simp only [maxLen];omega)) rfl (fun b23 _=>?_)
  refine aS ?_
  refine oSt ?_
  refine aS6 ?_
  try refine oWr ?_
  refine aS3 ?_
  refine Qm (L':=[(0,_),(1,_),(2,_),(6,_),(9,_),(10,_),(11,_),(20,_)]) aSx (fun _ h=>h) ?_
  refine aS3 ?_
  try refine oWr ?_
  refine aS2 ?_
  exact Qw (k + 1,⟨r.es ++ [Q0 s r.p],r.cs ++ [((ub4 s (r.p + 4) : Nat) : Int)],r.p + ub2 s r.p⟩,(b21.1,b21.2),(b23.1,b23.2)) (by (try simp only []);omega) ⟨by (try simp only []);omega,QbI hst hok⟩ (by dsimp only;rw [List.length_append];exact aSx) (fun w h=>by dsimp only;rw [@List.length_append _ r.es _,@List.length_append _ r.cs _,QdQ,QdQ];exact h.ent aEt)
 try simp only [dN] at h3
 obtain rfl : k = count:=by omega
 refine Qo rfl ?_
 refine aS5 ?_
 try refine oWr ?_
 refine aS ?_
 refine o_p (Qk rfl rfl Tryz.underlying9) rfl ?_
 refine aS2 ?_
 refine Xn 5 123 128 _ _ rfl
  (by
   intro hg24
   have hs25:=hg24;try simp only [dN] at hs25
   refine oOn 123 hg24 ?_
   refine aS ?_
   refine oOn 123 hg24 ?_
   refine aS ?_
   refine oOn 123 hg24 ?_
   refine o_q (Qb rfl YA rfl (fun w1 h1=>by have h9:=c72 w1 s (r.p) 2 (by omega) (by omega) (by omega);rw [Qjo,Qib] at h9;exact h9)) rfl ?_
   refine oOn 123 hg24 ?_
   refine aS ?_
   refine o_p (Qf rfl rfl hg24 rfl) rfl ?_
   refine aS ?_
   exact oJn 5 128)
  (by
   intro hg26
   have hs27:=hg26;try simp only [dT] at hs27
   refine oOf 123 hg26 ?_
   refine oOf 123 hg26 ?_
   refine oOf 123 hg26 ?_
   refine oOf 123 hg26 ?_
   refine o_p (Qg rfl rfl hg26 rfl) rfl ?_
   refine aS ?_
   exact oJn 5 128) ?_
 refine aS ?_
 refine Xn 6 129 135 _ _ rfl
  (by
   intro hg28
   have hs29:=hg28;try simp only [Bool.or_eq_false_iff,decide_eq_false_iff_not,Bool.not_eq_false',decide_eq_true_eq] at hs29
   refine oOn 129 hg28 ?_
   refine aS ?_
   refine oOn 129 hg28 ?_
   refine aS ?_
   refine oOn 129 hg28 ?_
   refine aS ?_
   try refine oWr ?_
   refine oOn 129 hg28 ?_
   refine o_q (Qb rfl YA rfl (fun w1 h1=>by have h9:=c72 w1 s (r.p + 2) 2 (by omega) (by omega) (by omega);rw [Qjo,Qib] at h9;exact h9)) rfl ?_
   refine oOn 129 hg28 ?_
   refine aS ?_
   refine o_p (Qf rfl rfl hg28 rfl) rfl ?_
   refine aS ?_
   exact oJn 6 135)
  (by
   intro hg30
   have hs31:=hg30;try simp only [Bool.or_eq_true,decide_eq_true_eq,Bool.not_eq_true',decide_eq_false_iff_not] at hs31
   refine oOf 129 hg30 ?_
   refine oOf 129 hg30 ?_
   refine oOf 129 hg30 ?_
   refine oOf 129 hg30 ?_
   refine oOf 129 hg30 ?_
   refine o_p (Qg rfl rfl hg30 rfl) rfl ?_
   refine aS ?_
   exact oJn 6 135) ?_
 refine aS ?_
 refine Xn 7 136 143 _ _ rfl
  (by
   intro hg32
   have hs33:=hg32;try simp only [Bool.or_eq_false_iff,decide_eq_false_iff_not,Bool.not_eq_false',decide_eq_true_eq] at hs33
   refine oOn 136 hg32 ?_
   refine aS ?_
   refine oOn 136 hg32 ?_
   refine aS ?_
   refine oOn 136 hg32 ?_
   refine aS ?_
   try refine oWr ?_
   refine oOn 136 hg32 ?_
   refine o_q (Qb rfl YA rfl (fun w1 h1=>by have h9:=c72 w1 s (r.p + 4) 4 (by omega) (by omega) (by omega);rw [Zn,QkF] at h9;exact h9)) rfl ?_
   refine oOn 136 hg32 ?_
   refine o_q (Qb rfl QbK rfl (fun w1 h1=>c40 w1 _ _ _)) rfl ?_
   refine oOn 136 hg32 ?_
   refine aS ?_
   refine o_p (Qf rfl rfl hg32 rfl) rfl ?_
   refine aS ?_
   exact oJn 7 143)
  (by
   intro hg34
   have hs35:=hg34;try simp only [Bool.or_eq_true,decide_eq_true_eq,Bool.not_eq_true',decide_eq_false_iff_not] at hs35
   refine oOf 136 hg34 ?_
   refine oOf 136 hg34 ?_
   refine oOf 136 hg34 ?_
   refine oOf 136 hg34 ?_
   refine oOf 136 hg34 ?_
   refine oOf 136 hg34 ?_
   refine o_p (Qg rfl rfl hg34 rfl) rfl ?_
   refine aS ?_
   exact oJn 7 143) ?_
 refine aS ?_
 refine Qc rfl (fun h36=>?_) fun h36=>?_
 ·try simp only [Bool.or_eq_true,decide_eq_true_eq,Bool.not_eq_true',decide_eq_false_iff_not,Bool.and_eq_false_iff] at h36
  have hN : rdN s p0 k = none:=Qk9 hst (by unfold YD;have hq:=h36;grind)
  refine aS3 ?_
  refine oSt ?_
  refine aS3 ?_
  exact Qq (rs:=[.cell 6 69,.tmp 7,.tmp 8]) rfl (.cell rfl Xz aPk rfl (.tmp rfl (.tmp rfl (.nil)))) (fun w' h'=>⟨(⟨true,ea,ec,r.es,none,0,[]⟩,0),by rw [hN];rfl,⟨fun _ _ h9=>(by rw [hN] at h9;cases h9),by show r.es.length ≤ _;omega,hee⟩,(h'.own_nil 3 1).ent aEt⟩)
 try simp only [Bool.or_eq_false_iff,decide_eq_false_iff_not,Bool.not_eq_false',decide_eq_true_eq,Bool.and_eq_true] at h36
 have hE : YD s r.p = true:=by unfold YD;have hq:=h36;grind
 have hN:=Qk0 hst hE
 obtain ⟨h8,_,_,_⟩ : r.p + 8 ≤ s.length ∧ ub2 s r.p = 8 ∧ ub2 s (r.p + 2) = 0 ∧ ub4 s (r.p + 4) ≤ 120:=by simpa [YD] using hE
 obtain ⟨ch,hch⟩ : ∃ ch : List Int,ch = r.cs ++ [((ub4 s (r.p + 4) : Nat) : Int)]:=⟨_,rfl⟩
 rw [← hch] at hN
 have hchl : ch.length ≤ 1001:=by rw [hch,List.length_append];simp only [List.length_cons,List.length_nil];omega
 refine aS7 ?_
 try refine oWr ?_
 refine o_q (Qb rfl YA rfl (fun w1 h1=>by have h9:=c72 w1 s (r.p + 4) 4 (by omega) (by omega) (by omega);rw [Zn,QkF] at h9;exact h9)) rfl ?_
 refine o_h (Qp (cs:=[_]) rfl rfl Q7 Qet rfl rfl rfl) rfl (fun b37 _=>?_)
 refine o_h (XM (inV ((ub4 s (r.p + 4) : Nat) : Int)) rfl rfl rfl Q7 Tryz.underlying28 Qet rfl aPk (Xv aPk) rfl (Qqj _) (by omega) (by simp only [maxLen];omega)) rfl (fun b38 _=>?_)
 refine Qz (show _ = Value.slice b38.1 ch.length b38.2 from by rw [hch,List.length_append];rfl) ?_
 refine aS8 ?_
 refine Qm (L':=[(0,_),(1,_),(2,_),(6,_),(9,_),(10,_),(11,_),(18,_),(20,_)]) aSx (fun _ h=>h) ?_
 refine aS4 ?_
 obtain ⟨fa,fc⟩:=b38
 dsimp only
 refine Qj2 (fun w9 h=>HS.kids_some (l:=ch) (by rw [hch,List.length_append];exact Nat.succ_pos _) (show HS w [] [.kids fa fc ch] w9 from by rw [hch,HA.kids,@List.length_append _ r.cs _,QdQ];exact h.ent aEt) .here) fun hfa=>?_
 obtain ⟨gf,rfl⟩:=hfa
 refine QB (α:=Nat) [18,19,152,153,154,155,156,157,158,159,160,161,162,163,164,165] (fun i=>[(19,.int .i64 (i : Int)),(18,.int .i64 ((czI (ch.take i) : Nat) : Int))]) (fun _=>HS w [] [.blk b2 69 3 [.bool true,.slice ea r.es.length ec,.slice none 0 0],.own (.slice ea r.es.length ec) 27 2 r.es.length (r.es.flatMap TEnt.vals),.own (.slice (some ⟨gf,0,none⟩) ch.length fc) 3 1 ch.length (ch.flatMap inV),.blk b1 69 3 [.bool false,.slice none 0 0,.slice none 0 0]]) (fun i=>i ≤ ch.length) (fun i=>ch.length - i) 0 (Nat.zero_le _) aSx (fun w h=>by rw [hch,@List.length_append _ r.cs _,QdQ];exact h.ent aEt) (fun i hi1=>?_)
 refine aS8 ?_
 refine Qc rfl (fun h39=>?_) fun h39=>?_
 ·try simp only [dT] at h39
  have hi : i < ch.length:=by omega
  have hcz : ((czI (ch.take (i + 1)) : Nat) : Int) = ((czI (ch.take i) : Nat) : Int) + (if nth ch i = 0 then 1 else 0):=by rw [Qpy hi];split <;> simp
  have hczl:=Qm5 (ch.take i)
  rw [List.length_take] at hczl
  refine aS7 ?_
  refine o_p (Qa rfl rfl rfl Q7 (i) (by omega) (by omega) rfl) rfl ?_
  refine o_q (X1 rfl rfl Y9 (fun w9 h=>(show Rd w9 [] gf (0 + i * 1) (.int .i64 (nth ch i)) from (h.rw_own (a:=some ⟨gf,0,none⟩) (l:=ch) iv1 aPk rfl).rdj (i:=i) 0 hi rfl))) rfl ?_
  refine aS ?_
  refine o_q (Qb rfl Qji rfl (fun w1 h1=>Qsj w1 _)) rfl ?_
  refine aS ?_
  try refine oWr ?_
  refine Qz (show _ = Value.int .i64 ((czI (ch.take (i + 1)) : Nat) : Int) from by rw [hcz];by_cases hz9 : nth ch i = 0 <;> simp only [hz9,decide_true,decide_false,if_true,if_false,Bool.false_eq_true] <;> first | rfl | exact Qen (by omega) (by omega)) ?_
  refine aS6 ?_
  try refine oWr ?_
  refine aS2 ?_
  exact Qw (i + 1) (by omega) (by omega) (by exact aSx) (fun w h=>h.ent aEt)
 try simp only [dN] at h39
 obtain rfl : i = ch.length:=by omega
 rw [List.take_length]
 refine Qo rfl ?_
 refine aS6 ?_
 refine Qc rfl (fun h40=>?_) fun h40=>?_
 ·try simp only [dT] at h40
  have hz : noz ch = true:=Qrz.1 (by have hq:=h40;omega)
  rw [hz] at hN
  have hN : rdN s p0 k = some (⟨true,r.es,ch⟩,r.p + 8):=hN
  refine aS3 ?_
  refine oSt ?_
  refine aS6 ?_
  try refine oWr ?_
  refine oSt ?_
  refine aS3 ?_
  exact Qq (rs:=[.cell 6 69,.tmp 7,.tmp 8]) rfl (.cell rfl Xz aPk rfl (.tmp rfl (.tmp rfl (.nil)))) (fun w' h'=>by first | exact ⟨(⟨true,ea,ec,r.es,some ⟨gf,0,none⟩,fc,ch⟩,r.p + 8),by rw [hN];rfl,⟨fun nd e h9=>(by rw [hN] at h9;injection h9 with h9;injection h9 with q1 q2;subst q1 q2;exact ⟨rfl,rfl⟩),by show r.es.length ≤ _;omega,hee⟩,h'.ent aEt⟩ | exact ⟨(⟨true,ea,ec,r.es,none,0,[]⟩,r.p + 8),by rw [hN];rfl,⟨fun nd e h9=>(by rw [hN] at h9;injection h9 with h9;injection h9 with q1 q2;subst q1 q2;exact ⟨rfl,rfl⟩),by show r.es.length ≤ _;omega,hee⟩,(h'.own_nil 3 1).ent aEt⟩)
 try simp only [dN] at h40
 have hz0 : ¬ czI ch = 0:=by have hq:=h40;omega
 have hz : noz ch = false:=by cases hb : noz ch;rfl;exact absurd (Qrz.2 hb) hz0
 rw [hz] at hN
 refine aS7 ?_
 refine Qc rfl (fun h41=>?_) fun h41=>?_
 ·try simp only [dT] at h41
  have hz2 : QcG ch = false:=by cases hb : QcG ch;rfl;have:=Qk7.2 hb;have hq:=h41;omega
  rw [hz2] at hN
  have hN : rdN s p0 k = none:=hN
  refine aS3 ?_
  refine oSt ?_
  refine aS3 ?_
  exact Qq (rs:=[.cell 6 69,.tmp 7,.tmp 8]) rfl (.cell rfl Xz aPk rfl (.tmp rfl (.tmp rfl (.nil)))) (fun w' h'=>⟨(⟨true,ea,ec,r.es,none,0,[]⟩,0),by rw [hN];rfl,⟨fun _ _ h9=>(by rw [hN] at h9;cases h9),by show r.es.length ≤ _;omega,hee⟩,(h'.own_nil 3 1).ent aEt⟩)
 try simp only [dN] at h41
 have hz2 : QcG ch = true:=Qk7.1 (by have:=Qm5 ch;have hq:=h41;omega)
 rw [hz2] at hN
 have hN : rdN s p0 k = some (⟨true,r.es,[]⟩,r.p + 8):=hN
 refine aS6 ?_
 try refine oWr ?_
 refine oSt ?_
 refine aS3 ?_
 exact Qq (rs:=[.cell 6 69,.tmp 7,.tmp 8]) rfl (.cell rfl Xz aPk rfl (.tmp rfl (.tmp rfl (.nil)))) (fun w' h'=>by first | exact ⟨(⟨true,ea,ec,r.es,some ⟨gf,0,none⟩,fc,ch⟩,r.p + 8),by rw [hN];rfl,⟨fun nd e h9=>(by rw [hN] at h9;injection h9 with h9;injection h9 with q1 q2;subst q1 q2;exact ⟨rfl,rfl⟩),by show r.es.length ≤ _;omega,hee⟩,h'.ent aEt⟩ | exact ⟨(⟨true,ea,ec,r.es,none,0,[]⟩,r.p + 8),by rw [hN];rfl,⟨fun nd e h9=>(by rw [hN] at h9;injection h9 with h9;injection h9 with q1 q2;subst q1 q2;exact ⟨rfl,rfl⟩),by show r.es.length ≤ _;omega,hee⟩,(h'.own_nil 3 1).ent aEt⟩)
theorem Qvd : Qt Tryz.prog 58 = true:=by kernel_rfl
theorem Qqf {co : Int} {l : List TEnt} {k : Nat} (hco : Qr co = 0) (hk : k < l.length) (h : ∀ i,i < k → QaA co l i = true) : QiD co (nth l (k - 1)).key (nth l k).key = XW co (nth l k).key:=by
  unfold QiD;rw [if_pos hco];rcases Nat.eq_zero_or_pos k with h0 | h0
  · subst h0
    by_cases hz : XW co (nth l 0).key = 0
    · rw [if_pos hz]
    · rw [if_neg hz]
  · have h1:=h (k - 1) (by omega);unfold QaA at h1;rw [Bool.and_eq_true] at h1;rw [if_pos (Qs6.2 h1.1)]
theorem c93 (w : World) (co : Int) (a : Option Addr) (cap : Nat) (l : List TEnt) (hs : Rw TEnt.vals 2 w [] a l) (hl : l.length ≤ 100000) (hkl : ∀ x ∈ l,x.key.length ≤ 1000000) (hco : Qr co = 0) : Calls Tryz.prog 93 #[.int .i64 co,.slice a l.length cap] w fun en w'=>en = .returned (.bool (Qdx co l)) ∧ Below w.heap.size w w':=by
 refine enter (args:=[_,_]) Tryz.func93 Tryz.ntmps93 rfl rfl (HS.refl w []) ?_
 refine Qer ?_
 refine QB (α:=Nat) [4,5,6,7,8,11,12,13,14,15,16,17,18,19,20,21,22,23,24,25,26,27,28,29,30,31,32,33,34,35,36,37,38,39,40] (fun k=>[(11,.int .i64 (k : Int))]) (fun _=>HS w [] []) (fun k=>k ≤ l.length ∧ ∀ i,i < k → QaA co l i = true) (fun k=>l.length - k) 0 ⟨Nat.zero_le _,fun i h=>absurd h (Nat.not_lt_zero _)⟩ aSx (fun w h=>h.ent aEt) (fun k hkk=>?_)
 obtain ⟨hk1,hk2⟩:=hkk
 refine aS5 ?_
 refine Qc rfl (fun h1=>?_) fun h1=>?_
 ·try simp only [dT] at h1
  have hk : k < l.length:=by omega
  have hcm:=Qqf hco hk hk2
  refine aS6 ?_
  refine o_p (Qa rfl rfl rfl QX (k) (by omega) (by omega) (Rw.some hs (by omega))) rfl ?_
  refine o_q (QA _ rfl rfl Qbm rfl (Rw.rd hs (by omega))) rfl ?_
  refine oAl (fun b2 _=>?_) Zv
  refine aS ?_
  refine oSt ?_
  refine aS2 ?_
  refine QL [] Q8 ?_
  refine dP 0 ?_
  refine dP 1 ?_
  refine dP 2 ?_
  refine dP 3 ?_
  try refine dWr ?_
  refine dV 4 rfl (Qfu rfl rfl rfl ) ?_
  refine QG (show _ = Value.int .i64 ((k - 1 : Nat) : Int) from congrArg (Value.int .i64) (by split <;> omega)) ?_
  refine dV 5 rfl (Qa rfl rfl rfl QX (k - 1) (by omega) (by omega) (Rw.some hs (by omega))) ?_
  refine dFa 6 ?_
  refine dQ 7 [] rfl (Qe rfl rfl ZR ((hs.rdj (i:=k - 1) 0 (by omega) rfl))) ?_
  refine dFa 8 ?_
  refine dLd 9 [] ?_
  refine dQ 10 [] rfl (Qb rfl Qvd rfl (fun w1 h1=>c58 w1 co (nth l (k - 1)).key (nth l k).key (hkl _ (Qy (by omega))) (hkl _ (Qy hk)))) ?_
  refine dP 11 ?_
  refine dP 12 ?_
  refine dP 13 ?_
  refine dP 14 ?_
  refine dP 15 ?_
  refine dNi ?_
  refine aS5 ?_
  refine Xn 7 32 39 _ _ rfl
   (by
    intro hg3
    have hs4:=hg3;try simp only [Bool.not_eq_false',decide_eq_true_eq] at hs4
    refine oOn 32 hg3 ?_
    refine aS ?_
    refine oOn 32 hg3 ?_
    refine aS ?_
    refine oOn 32 hg3 ?_
    refine aS ?_
    refine Xq 3 35 38 _ _ rfl
     (by
      intro hg5
      have hs6:=hg5;try simp only [dT] at hs6
      refine oOn 35 hg5 ?_
      refine aS ?_
      refine oOn 35 hg5 ?_
      refine aS ?_
      refine oOn 32 hg3 ?_
      refine o_p (Qg rfl rfl hg5 rfl) rfl ?_
      refine aS ?_
      exact oJn 3 38)
     (by
      intro hg7
      have hs8:=hg7;try simp only [dN] at hs8
      refine oOf 35 hg7 ?_
      refine oOf 35 hg7 ?_
      refine oOn 32 hg3 ?_
      refine o_p (Qf rfl rfl hg7 rfl) rfl ?_
      refine aS ?_
      exact oJn 3 38) ?_
    refine o_p (Qf rfl rfl hg3 rfl) rfl ?_
    refine aS ?_
    exact oJn 5 39)
   (by
    intro hg9
    have hs10:=hg9;try simp only [Bool.not_eq_true',decide_eq_false_iff_not] at hs10
    refine oOf 32 hg9 ?_
    refine oOf 32 hg9 ?_
    refine oOf 32 hg9 ?_
    refine Qn 35 rfl rfl rfl ?_
    refine Qn 35 rfl rfl rfl ?_
    refine oOf 32 hg9 ?_
    refine o_p (Qg rfl rfl hg9 rfl) rfl ?_
    refine aS ?_
    exact oJn 7 39) ?_
  refine aS ?_
  refine Qc rfl (fun h11=>?_) fun h11=>?_
  ·try simp only [Bool.or_eq_true,Bool.not_eq_true',decide_eq_false_iff_not,Bool.and_eq_true,decide_eq_true_eq] at h11
   have hF : Qdx co l = false:=QkI hk (by unfold QaA;have hq:=h11;rw [hcm] at hq;unfold XW at hq;grind)
   refine aS ?_
   refine Qm (L':=[(0,_),(1,_),(9,_),(10,_),(11,_)]) aSx (fun _ h=>h) ?_
   refine aS3 ?_
   exact rT rfl rfl (fun w' h'=>⟨by rw [hF];rfl,h'.below⟩)
  try simp only [Bool.or_eq_false_iff,Bool.not_eq_false',decide_eq_true_eq,Bool.and_eq_false_iff,decide_eq_false_iff_not] at h11
  have hA : QaA co l k = true:=by unfold QaA;have hq:=h11;rw [hcm] at hq;unfold XW at hq;grind
  refine aS2 ?_
  refine Qm (L':=[(0,_),(1,_),(9,_),(10,_),(11,_)]) aSx (fun _ h=>h) ?_
  refine aS2 ?_
  try refine oWr ?_
  refine aS2 ?_
  exact Qw (k + 1) (by omega) ⟨by omega,fun i hi=>(Nat.lt_or_ge i k).elim (hk2 i) (fun h=>by obtain rfl : i = k:=(by omega);exact hA)⟩ aSx (fun w h=>h.ent aEt)
 try simp only [dN] at h1
 obtain rfl : k = l.length:=by omega
 have hT : Qdx co l = true:=QbR.2 hk2
 refine Qo rfl ?_
 refine aS4 ?_
 exact rT rfl rfl (fun w' h'=>⟨by rw [hT];rfl,h'.below⟩)
theorem c70 (w : World) (j : Nat) (n : LNd) (hj : j ≤ 3) (hes : Rw TEnt.vals 2 w [] n.ea n.es) (hl : n.es.length ≤ 100000) (hkl : ∀ x ∈ n.es,x.key.length ≤ 1000000) : Calls Tryz.prog 70 #[.int .i64 (j : Int),.agg #[.bool n.us,.slice n.ea n.es.length n.ec,.slice n.ca n.cs.length n.cc]] w fun en w'=>en = .returned (.bool (Qcq (j : Int) n.es)) ∧ Below w.heap.size w w':=by
 refine enter (args:=[_,_]) Tryz.func70 Tryz.ntmps70 rfl rfl (HS.refl w []) ?_
 refine aS2 ?_
 refine oBx fun b1 _=>?_
 refine aS8 ?_
 refine QB (α:=Nat) [4,5,6,7,8,9,10,11,12,13,14,15,16,17,18,19,20,21] (fun k=>[(5,.int .i64 (k : Int))]) (fun _=>HS w [] [.blk b1 69 3 (LNd.vals n)]) (fun k=>k ≤ n.es.length ∧ ∀ i,i < k → QP (j : Int) (nth n.es i).key = true) (fun k=>n.es.length - k) 0 ⟨Nat.zero_le _,fun i h=>absurd h (Nat.not_lt_zero _)⟩ aSx (fun w h=>h.ent aEt) (fun k hkk=>?_)
 obtain ⟨hk1,hk2⟩:=hkk
 refine aS9 ?_
 refine Qc rfl (fun h2=>?_) fun h2=>?_
 ·try simp only [dT] at h2
  have hk : k < n.es.length:=by omega
  refine aS9 ?_
  refine o_p (Qa rfl rfl rfl QX (k) (by omega) (by omega) (Rw.some hes (by omega))) rfl ?_
  refine aS ?_
  refine o_q (Qe rfl rfl ZR ((hes.rdj (i:=k) 0 (by omega) rfl))) rfl ?_
  refine o_q (Qb rfl Qrx rfl (fun w1 h1=>c17 w1 j (nth n.es k).key hj (hkl _ (Qy hk)))) rfl ?_
  refine aS2 ?_
  refine Qc rfl (fun h3=>?_) fun h3=>?_
  ·try simp only [Bool.not_eq_true',decide_eq_false_iff_not] at h3
   have hF : Qcq (j : Int) n.es = false:=Qob hk (by have hq:=h3;unfold XW at hq;grind)
   refine aS4 ?_
   exact rT rfl rfl (fun w' h'=>⟨by rw [hF];rfl,h'.below⟩)
  try simp only [Bool.not_eq_false',decide_eq_true_eq] at h3
  have hA : QP (j : Int) (nth n.es k).key = true:=by have hq:=h3;unfold XW at hq;grind
  refine aS5 ?_
  try refine oWr ?_
  refine aS2 ?_
  exact Qw (k + 1) (by omega) ⟨by omega,fun i hi=>(Nat.lt_or_ge i k).elim (hk2 i) (fun h=>by obtain rfl : i = k:=(by omega);exact hA)⟩ aSx (fun w h=>h.ent aEt)
 try simp only [dN] at h2
 obtain rfl : k = n.es.length:=by omega
 have hT : Qcq (j : Int) n.es = true:=QgD hk2
 refine Qo rfl ?_
 refine aS4 ?_
 exact rT rfl rfl (fun w' h'=>⟨by rw [hT];rfl,h'.below⟩)
theorem Qu9 : Qt Tryz.prog 91 = true:=by kernel_rfl
theorem Qvc : Qt Tryz.prog 92 = true:=by kernel_rfl
theorem Qum : Qt Tryz.prog 93 = true:=by kernel_rfl
theorem c28 (w : World) (s : List UInt8) (hsl : s.length ≤ 1000000) : Calls Tryz.prog 28 #[.string (bs s)] w fun en w'=>∃ g : (Option Addr × Nat) × List LNd,en = .returned (.tuple #[.agg #[.int .i64 (Qv s).1.co,.int .i64 (Qv s).1.mo,.int .i64 (Qv s).1.rm,.slice g.1.1 g.2.length g.1.2],.int .i64 (Qv s).2]) ∧ pln g.2 = (Qv s).1.ns ∧ HS w [] [.nodes 27 69 g.1.1 g.1.2 g.2] w':=by
 have hb4:=(s.getD 4 0).toNat_lt
 have hb5:=(s.getD 5 0).toNat_lt
 have hb6:=(s.getD 6 0).toNat_lt
 have hb7:=(s.getD 7 0).toNat_lt
 have hf9 : Yy [.int .i64 (if Qr (at1 s 4) = 0 then Xy (at1 s 5) (at1 s 6) else Qr (at1 s 4)),.int .i64 (cond (decide (at1 s 5 ≤ 4)) 0 8),.int .i64 (cond (decide (at1 s 7 ≤ at1 s 6)) 0 16)] = rtE s:=by simp only [Yy,rtE,cond_eq_ite,decide_eq_true_eq];grind
 refine enter (args:=[_]) Tryz.func28 Tryz.ntmps28 rfl rfl (HS.refl w []) ?_
 refine aS2 ?_
 refine oAl (fun b1 _=>?_) X3
 refine aS5 ?_
 refine o_h (Qey rfl rfl Tryz.underlying9 Tryz.underlying139 Tryz.underlying5 rfl (by simp only [maxLen];omega)) rfl (fun ⟨b2,c3⟩ ⟨h4,k5⟩=>?_)
 refine aS9 ?_
 refine Qc rfl (fun h6=>?_) fun h6=>?_
 ·try simp only [dT] at h6
  have hR : Qv s = (noT,10):=Qi1 (by have hq:=h6;omega)
  refine aS2 ?_
  refine o_p (Xr (cs:=[_,_,_,_]) rfl rfl QcZ X3 rfl) rfl ?_
  refine oSt ?_
  refine aS2 ?_
  exact Qq (rs:=[.cell 2 37,.tmp 3]) rfl (.cell rfl Y4 aPk rfl (.tmp rfl (.nil))) (fun w' h'=>⟨((none,0),[]),by rw [hR];rfl,by rw [hR];rfl,(XD 27 69 h'.nil).ent aEt⟩)
 try simp only [dN] at h6
 have h16 : ¬ s.length < 16:=by have hq:=h6;omega
 refine aS5 ?_
 refine o_p (QI _ _ 0 4 rfl rfl QQ rfl ⟨_,_,rfl,rfl⟩ (by omega) (by omega)) rfl ?_
 refine Qz (show _ = Value.slice (some ⟨b2,0,none⟩) 4 c3 from by rw [QaH];rfl) ?_
 refine o_q (Qhr s rfl rfl Tryz.underlying139 Tryz.underlying9 Tryz.underlying5 (by omega) aPk) rfl ?_
 refine aS2 ?_
 refine Qc rfl (fun h7=>?_) fun h7=>?_
 ·try simp only [Bool.not_eq_true',decide_eq_false_iff_not] at h7
  have hR : Qv s = (noT,3):=Qk4 h16 (by have hq:=h7;intro h9;rw [h9] at hq;simp [YJ] at hq)
  refine aS2 ?_
  refine o_p (Xr (cs:=[_,_,_,_]) rfl rfl QcZ X3 rfl) rfl ?_
  refine oSt ?_
  refine aS2 ?_
  exact Qq (rs:=[.cell 2 37,.tmp 3]) rfl (.cell rfl Y4 aPk rfl (.tmp rfl (.nil))) (fun w' h'=>⟨((none,0),[]),by rw [hR];rfl,by rw [hR];rfl,(XD 27 69 h'.nil).ent aEt⟩)
 try simp only [Bool.not_eq_false',decide_eq_true_eq] at h7
 have hs4 : s.take 4 = YJ:=by have hq:=h7;first | exact hq | simpa [YJ] using hq
 refine aS2 ?_
 refine QL [] Q8 ?_
 refine dP 0 ?_
 refine dV 1 rfl (Qa rfl rfl rfl QQ 4 rfl (by omega) rfl) ?_
 refine dQ 2 [] rfl (X1 rfl rfl Qem (fun w9 h=>by rw [Nat.zero_add];exact h.rd_blk (Mc:=[]) aPk (by rw [Nat.mul_one];exact ZI (l:=s) (k:=4) (by omega)) (by simp))) ?_
 refine dV 3 rfl (Qs rfl rfl ZA Zo) ?_
 try refine dWr ?_
 refine QG (show _ = Value.int .i64 (at1 s 4) from by first | rfl | exact Qen (by omega) (by omega)) ?_
 refine dP 4 ?_
 refine dV 5 rfl (Qa rfl rfl rfl QQ 5 rfl (by omega) rfl) ?_
 refine dQ 6 [] rfl (X1 rfl rfl Qem (fun w9 h=>by rw [Nat.zero_add];exact h.rd_blk (Mc:=[]) aPk (by rw [Nat.mul_one];exact ZI (l:=s) (k:=5) (by omega)) (by simp))) ?_
 refine dV 7 rfl (Qs rfl rfl ZA Zo) ?_
 try refine dWr ?_
 refine QG (show _ = Value.int .i64 (at1 s 5) from by first | rfl | exact Qen (by omega) (by omega)) ?_
 refine dP 8 ?_
 refine dV 9 rfl (Qa rfl rfl rfl QQ 6 rfl (by omega) rfl) ?_
 refine dQ 10 [] rfl (X1 rfl rfl Qem (fun w9 h=>by rw [Nat.zero_add];exact h.rd_blk (Mc:=[]) aPk (by rw [Nat.mul_one];exact ZI (l:=s) (k:=6) (by omega)) (by simp))) ?_
 refine dV 11 rfl (Qs rfl rfl ZA Zo) ?_
 try refine dWr ?_
 refine QG (show _ = Value.int .i64 (at1 s 6) from by first | rfl | exact Qen (by omega) (by omega)) ?_
 refine dP 12 ?_
 refine dV 13 rfl (Qa rfl rfl rfl QQ 7 rfl (by omega) rfl) ?_
 refine dQ 14 [] rfl (X1 rfl rfl Qem (fun w9 h=>by rw [Nat.zero_add];exact h.rd_blk (Mc:=[]) aPk (by rw [Nat.mul_one];exact ZI (l:=s) (k:=7) (by omega)) (by simp))) ?_
 refine dV 15 rfl (Qs rfl rfl ZA Zo) ?_
 try refine dWr ?_
 refine QG (show _ = Value.int .i64 (at1 s 7) from by first | rfl | exact Qen (by omega) (by omega)) ?_
 refine dP 16 ?_
 refine dP 17 ?_
 refine dP 18 ?_
 refine dP 19 ?_
 refine dNi ?_
 refine aS ?_
 refine Qm (L':=[(2,_),(3,_),(4,_),(5,_),(6,_),(7,_),(8,_)]) aSx (fun _ h=>h) ?_
 refine aS4 ?_
 refine o_h (XX rfl Qu9 rfl (fun w1 h1=>c91 w1 (at1 s 4) (at1 s 5) (at1 s 6))) rfl (fun ⟨⟨na,nc⟩,nL⟩ hnL=>?_)
 refine aS3 ?_
 refine oAl (fun b8 _=>?_) X3
 refine oSt ?_
 refine aS8 ?_
 refine o_q (Qb rfl Qgh rfl (fun w1 h1=>c60 w1 _ _)) rfl ?_
 refine aS3 ?_
 refine o_q (Qb rfl Qgh rfl (fun w1 h1=>c60 w1 _ _)) rfl ?_
 refine o_h (Qp (cs:=[_,_,_]) rfl rfl ZO Qds rfl rfl rfl) rfl (fun b9 _=>?_)
 refine o_q (Qb rfl Qo7 rfl (fun w1 h1=>f59 h1 aPk (by rfl) (by rfl) (by decide))) rfl ?_
 refine aS7 ?_
 refine Qc rfl (fun h10=>?_) fun h10=>?_
 ·try simp only [Bool.not_eq_true',decide_eq_false_iff_not] at h10
  have hR : Qv s = (noT,Yy [.int .i64 (if Qr (at1 s 4) = 0 then Xy (at1 s 5) (at1 s 6) else Qr (at1 s 4)),.int .i64 (cond (decide (at1 s 5 ≤ 4)) 0 8),.int .i64 (cond (decide (at1 s 7 ≤ at1 s 6)) 0 16)]):=by rw [hf9];exact Qtj h16 hs4 (by have hq:=h10;rwa [hf9] at hq)
  refine aS2 ?_
  refine o_p (Xr (cs:=[_,_,_,_]) rfl rfl QcZ X3 rfl) rfl ?_
  refine aS ?_
  refine oSt ?_
  refine aS2 ?_
  exact Qq (rs:=[.cell 2 37,.tmp 3]) rfl (.cell rfl Y4 aPk rfl (.tmp rfl (.nil))) (fun w' h'=>⟨((none,0),[]),by rw [hR];rfl,by rw [hR];rfl,(XD 27 69 h'.nil).ent aEt⟩)
 try simp only [Bool.not_eq_false',decide_eq_true_eq] at h10
 have hE : rtE s = 0:=by have hq:=h10;rwa [hf9] at hq
 obtain ⟨h3,h4,h5,h6⟩:=Qvg hE
 have hem : Qga (at1 s 4) (at1 s 5) (at1 s 6) = ⟨at1 s 4,at1 s 5,at1 s 6,[⟨true,[],[]⟩]⟩:=by unfold Qga;rw [if_pos h3,if_pos h4]
 rw [hem] at hnL
 obtain ⟨x9,hx9,_⟩:=QjT hnL
 subst hx9
 rw [hem]
 dsimp only
 refine Qj2 (fun w9 h=>HS.nodes_some (L:=[x9]) (Nat.succ_pos _) h aPk) fun hna=>?_
 obtain ⟨g9,rfl,hna1,hna2⟩:=hna
 refine QqX (fun w9 h=>(show HS w [] (.blk g9 69 (nc * 3) [.bool x9.us,.slice x9.ea x9.es.length x9.ec,.slice x9.ca x9.cs.length x9.cc] :: _) w9 from HS.nodes_blk h aPk)) ?_
 refine aS4 ?_
 refine o_p (QI _ _ 8 s.length rfl rfl QQ ⟨_,_,rfl,rfl⟩ rfl (by omega) (by omega)) rfl ?_
 refine aS ?_
 refine o_h (XX rfl Qvc rfl (fun w1 h1=>c92 w1 s 8 (ub1 s 7) (X7 (some ⟨b2,0,none⟩) c3 8 1) (c3 - 8) (by have h9:=(h1.vl_blk (cs:=s.map bv) aPk).dropA (k:=8) (cap:=c3) (by rw [List.length_map];omega) (by rw [List.length_map];omega);rw [← List.map_drop] at h9;exact h9) (by omega) hsl (by omega) (by have hq9 : c3 ≤ maxLen:=(by assumption);simp only [maxLen] at hq9;omega) (by have:=YB s 7;omega))) rfl (fun ⟨gn,gr,gl,gc⟩ hgn=>?_)
 refine aS4 ?_
 refine oAl (fun b11 _=>?_) Yp
 refine oSt ?_
 refine aS5 ?_
 refine Qm (L':=[(2,_),(3,_),(5,_),(9,_),(11,_),(12,_),(13,_)]) aSx (fun _ h=>h) ?_
 refine aS4 ?_
 refine Xn 4 72 76 _ _ rfl
  (by
   intro hg12
   have hs13:=hg12;try simp only [Bool.not_eq_false'] at hs13
   refine oOn 72 hg12 ?_
   refine aS ?_
   refine oOn 72 hg12 ?_
   refine aS ?_
   refine oOn 72 hg12 ?_
   refine aS ?_
   refine o_p (Qf rfl rfl hg12 rfl) rfl ?_
   refine aS ?_
   exact oJn 4 76)
  (by
   intro hg14
   have hs15:=hg14;try simp only [Bool.not_eq_true'] at hs15
   refine oOf 72 hg14 ?_
   refine oOf 72 hg14 ?_
   refine oOf 72 hg14 ?_
   refine o_p (Qg rfl rfl hg14 rfl) rfl ?_
   refine aS ?_
   exact oJn 4 76) ?_
 refine aS ?_
 refine Xn 6 77 83 _ _ rfl
  (by
   intro hg16
   have hs17:=hg16;try simp only [Bool.or_eq_false_iff,Bool.not_eq_false',decide_eq_false_iff_not] at hs17
   refine oOn 77 hg16 ?_
   refine aS ?_
   refine oOn 77 hg16 ?_
   refine aS ?_
   refine oOn 77 hg16 ?_
   refine aS ?_
   refine oOn 77 hg16 ?_
   refine o_q (Qb rfl Qum rfl (fun w1 h1=>c93 w1 (at1 s 4) gn.ea gn.ec gn.es (h1.rw_own ev2 aPk rfl) (by have h9 : gn.es.length ≤ ub1 s 7:=hgn.2.1;have:=YB s 7;omega) (fun x hx=>by have:=hgn.2.2 x hx;simp only [XZ,decide_eq_true_eq] at this;omega) h3)) rfl ?_
   refine oOn 77 hg16 ?_
   refine aS ?_
   refine o_p (Qf rfl rfl hg16 rfl) rfl ?_
   refine aS ?_
   exact oJn 6 83)
  (by
   intro hg18
   have hs19:=hg18;try simp only [Bool.or_eq_true,Bool.not_eq_true',decide_eq_true_eq] at hs19
   refine oOf 77 hg18 ?_
   refine oOf 77 hg18 ?_
   refine oOf 77 hg18 ?_
   refine oOf 77 hg18 ?_
   refine oOf 77 hg18 ?_
   refine o_p (Qg rfl rfl hg18 rfl) rfl ?_
   refine aS ?_
   exact oJn 6 83) ?_
 refine aS ?_
 refine Qc rfl (fun h20=>?_) fun h20=>?_
 ·try simp only [Bool.or_eq_true,Bool.not_eq_true',decide_eq_true_eq] at h20
  have hR : Qv s = (noT,3):=Qjk h16 hs4 h3 h4 h5 h6 (fun n9 hn9=>by have hq:=h20;have h91:=hgn.1 _ _ hn9;rw [hn9] at hq;have h92 : gn.es = n9.es:=congrArg Nd.es h91.1;rw [h92] at hq;have h93:=h91.2;(try simp only [Option.isSome_some] at hq);grind)
  refine aS2 ?_
  refine o_p (Xr (cs:=[_,_,_,_]) rfl rfl QcZ X3 rfl) rfl ?_
  refine oSt ?_
  refine aS2 ?_
  exact Qq (rs:=[.cell 2 37,.tmp 3]) rfl (.cell rfl Y4 aPk rfl (.tmp rfl (.nil))) (fun w' h'=>⟨((none,0),[]),by rw [hR];rfl,by rw [hR];rfl,(XD 27 69 h'.nil).ent aEt⟩)
 try simp only [Bool.or_eq_false_iff,Bool.not_eq_false',decide_eq_false_iff_not] at h20
 obtain ⟨⟨n9,e9⟩,hrd⟩ : ∃ q,rdN s 8 (ub1 s 7) = some q:=Option.isSome_iff_exists.1 (by have hq:=h20;grind)
 obtain ⟨hpl9,hgl9⟩:=hgn.1 _ _ hrd
 have he9:=(Qk3 (by omega) hrd).2.2.1
 have hee : e9 = s.length:=by have hq:=h20;grind
 subst hee
 have hes9 : gn.es = n9.es:=congrArg Nd.es hpl9
 have hR:=QrV h16 hs4 h3 h4 h5 h6 hrd (by rw [← hes9];have hq:=h20;grind)
 refine aS5 ?_
 refine Qz (show _ = Value.slice (some ⟨g9,0,none⟩) 1 nc from rfl) ?_
 refine aS ?_
 refine o_p (Qa rfl rfl rfl Xm 0 rfl (by omega) rfl) rfl ?_
 refine Qz (show _ = Value.pointer (some ⟨g9,0,none⟩) from rfl) ?_
 refine oSt ?_
 refine aS4 ?_
 refine oSt ?_
 refine aS2 ?_
 exact Qq (rs:=[.cell 2 37,.tmp 3]) rfl (.cell rfl Y4 aPk rfl (.tmp rfl (.nil))) (fun w' h'=>⟨((some ⟨g9,0,none⟩,nc),[gn]),by rw [hR];rfl,by rw [hR];show [gn.pl] = _;rw [hpl9],(HS.nodes_of1 (HS.own_shut (n:=1) (cap:=nc) (sz:=3) (h'.ent (Bs:=[.blk g9 69 (nc * 3) (LNd.vals gn),.ents 27 gn.ea gn.ec gn.es,.kids gn.ca gn.cc gn.cs]) aEt) rfl hna1 hna2)).ent aEt⟩)
theorem QuE : Qt Tryz.prog 98 = true:=by kernel_rfl
theorem Qu8 : Qt Tryz.prog 70 = true:=by kernel_rfl
theorem c31 (w : World) (s : List UInt8) (hsl : s.length ≤ 1000000) : Calls Tryz.prog 31 #[.string (bs s)] w fun en w'=>∃ g : (Option Addr × Nat) × List LNd,en = .returned (.tuple #[.agg #[.int .i64 (Qv s).1.co,.int .i64 (Qv s).1.mo,.int .i64 (Qv s).1.rm,.slice g.1.1 g.2.length g.1.2],.int .i64 (Qv s).2]) ∧ pln g.2 = (Qv s).1.ns ∧ HS w [] [.nodes 27 69 g.1.1 g.1.2 g.2] w':=by
 have hb4:=QbV s 4
 have hb5:=QbV s 5
 have hb6:=QbV s 6
 have hb7:=QbV s 7
 refine enter (args:=[_]) Tryz.func31 Tryz.ntmps31 rfl rfl (HS.refl w []) ?_
 refine aS2 ?_
 refine oAl (fun b1 _=>?_) X3
 refine aS4 ?_
 refine o_p (Xr (cs:=[_,_,_,_]) rfl rfl QcZ X3 rfl) rfl ?_
 refine oAl (fun b2 _=>?_) X3
 refine oSt ?_
 refine aS5 ?_
 refine o_p (Qk rfl rfl Tryz.underlying9) rfl ?_
 refine aS2 ?_
 refine Qc rfl (fun h3=>?_) fun h3=>?_
 ·try simp only [dT] at h3
  have hR : Qv s = (noT,10):=Qi1 (by have hq:=h3;omega)
  refine aS3 ?_
  refine oSt ?_
  refine aS2 ?_
  exact Qq (rs:=[.cell 2 37,.tmp 3]) rfl (.cell rfl Y4 aPk rfl (.tmp rfl (.nil))) (fun w' h'=>⟨((none,0),[]),by rw [hR];rfl,by rw [hR];rfl,(XD 27 69 h'.nil).ent aEt⟩)
 try simp only [dN] at h3
 have h16 : ¬ s.length < 16:=by have hq:=h3;omega
 refine aS5 ?_
 refine o_p (Qfk 4 rfl rfl rfl Tryz.underlying9 rfl (by omega)) rfl ?_
 refine aS2 ?_
 refine Qc rfl (fun h4=>?_) fun h4=>?_
 ·try simp only [Bool.not_eq_true',decide_eq_false_iff_not] at h4
  have hR : Qv s = (noT,3):=Qk4 h16 (by have hq:=h4;intro h9;rw [h9] at hq;simp [YJ] at hq)
  refine aS3 ?_
  refine oSt ?_
  refine aS2 ?_
  exact Qq (rs:=[.cell 2 37,.tmp 3]) rfl (.cell rfl Y4 aPk rfl (.tmp rfl (.nil))) (fun w' h'=>⟨((none,0),[]),by rw [hR];rfl,by rw [hR];rfl,(XD 27 69 h'.nil).ent aEt⟩)
 try simp only [Bool.not_eq_false',decide_eq_true_eq] at h4
 have hs4 : s.take 4 = YJ:=by have hq:=h4;first | exact hq | simpa [YJ] using hq
 refine aS4 ?_
 refine o_q (Qb rfl YA rfl (fun w1 h1=>by have h9:=c72 w1 s 4 1 (by omega) (by omega) (by omega);rw [QdZ] at h9;exact h9)) rfl ?_
 refine aS ?_
 refine o_q (Qb rfl YA rfl (fun w1 h1=>by have h9:=c72 w1 s 5 1 (by omega) (by omega) (by omega);rw [QdZ] at h9;exact h9)) rfl ?_
 refine aS ?_
 refine o_q (Qb rfl YA rfl (fun w1 h1=>by have h9:=c72 w1 s 6 1 (by omega) (by omega) (by omega);rw [QdZ] at h9;exact h9)) rfl ?_
 refine o_p (Xr (cs:=[_,_,_,_]) rfl rfl QcZ X3 rfl) rfl ?_
 refine oAl (fun b5 _=>?_) X3
 refine oSt ?_
 refine aS6 ?_
 refine o_q (Qb rfl QrX rfl (fun w1 h1=>c96 w1 _)) rfl ?_
 refine aS7 ?_
 refine Qc rfl (fun h6=>?_) fun h6=>?_
 ·try simp only [Bool.not_eq_true',decide_eq_false_iff_not] at h6
  have hR : Qv s = (noT,Qr (at1 s 4)):=Qol h16 hs4 h6
  refine aS4 ?_
  refine oSt ?_
  refine aS2 ?_
  exact Qq (rs:=[.cell 2 37,.tmp 3]) rfl (.cell rfl Y4 aPk rfl (.tmp rfl (.nil))) (fun w' h'=>⟨((none,0),[]),by rw [hR];rfl,by rw [hR];rfl,(XD 27 69 h'.nil).ent aEt⟩)
 try simp only [Bool.not_eq_false',decide_eq_true_eq] at h6
 have h3 : Qr (at1 s 4) = 0:=h6
 obtain ⟨j,hj,hj3⟩:=Qhx h3
 refine aS8 ?_
 refine o_q (Qb rfl QrK rfl (fun w1 h1=>c97 w1 _ _)) rfl ?_
 refine aS3 ?_
 refine Qm (L':=[(0,_),(2,_),(3,_),(4,_),(5,_),(7,_)]) aSx (fun _ h=>h) ?_
 refine aS4 ?_
 refine Qc rfl (fun h7=>?_) fun h7=>?_
 ·try simp only [Bool.not_eq_true',decide_eq_false_iff_not] at h7
  have hR : Qv s = (noT,Xy (at1 s 5) (at1 s 6)):=QpG h16 hs4 h3 h7
  refine aS4 ?_
  refine oSt ?_
  refine aS2 ?_
  exact Qq (rs:=[.cell 2 37,.tmp 3]) rfl (.cell rfl Y4 aPk rfl (.tmp rfl (.nil))) (fun w' h'=>⟨((none,0),[]),by rw [hR];rfl,by rw [hR];rfl,(XD 27 69 h'.nil).ent aEt⟩)
 try simp only [Bool.not_eq_false',decide_eq_true_eq] at h7
 have h4 : Xy (at1 s 5) (at1 s 6) = 0:=h7
 refine aS8 ?_
 refine Qc rfl (fun h8=>?_) fun h8=>?_
 ·try simp only [dT] at h8
  have hR : Qv s = (noT,8):=Qlt h16 hs4 h3 h4 (by have hq:=h8;omega)
  refine aS3 ?_
  refine oSt ?_
  refine aS2 ?_
  exact Qq (rs:=[.cell 2 37,.tmp 3]) rfl (.cell rfl Y4 aPk rfl (.tmp rfl (.nil))) (fun w' h'=>⟨((none,0),[]),by rw [hR];rfl,by rw [hR];rfl,(XD 27 69 h'.nil).ent aEt⟩)
 try simp only [dN] at h8
 have h5 : at1 s 5 ≤ 4:=by have hq:=h8;omega
 refine aS4 ?_
 refine o_q (Qb rfl YA rfl (fun w1 h1=>by have h9:=c72 w1 s 7 1 (by omega) (by omega) (by omega);rw [QdZ] at h9;exact h9)) rfl ?_
 refine Qaq ?_
 refine Qc rfl (fun h9=>?_) fun h9=>?_
 ·try simp only [dT] at h9
  have hR : Qv s = (noT,16):=Qkt h16 hs4 h3 h4 h5 (by have hq:=h9;omega)
  refine aS3 ?_
  refine oSt ?_
  refine aS2 ?_
  exact Qq (rs:=[.cell 2 37,.tmp 3]) rfl (.cell rfl Y4 aPk rfl (.tmp rfl (.nil))) (fun w' h'=>⟨((none,0),[]),by rw [hR];rfl,by rw [hR];rfl,(XD 27 69 h'.nil).ent aEt⟩)
 try simp only [dN] at h9
 have h6 : at1 s 7 ≤ at1 s 6:=by have hq:=h9;omega
 refine aS5 ?_
 refine o_h (XX rfl QuE rfl (fun w1 h1=>c98 w1 s 8 (ub1 s 7) (by omega) hsl (by have:=YB s 7;omega))) rfl (fun ⟨gn,gl⟩ hgn=>?_)
 refine aS4 ?_
 refine oAl (fun b10 _=>?_) Yp
 refine oSt ?_
 refine aS9 ?_
 refine Xn 5 65 70 _ _ rfl
  (by
   intro hg11
   have hs12:=hg11;try simp only [Bool.not_eq_false'] at hs12
   refine oOn 65 hg11 ?_
   refine aS ?_
   refine oOn 65 hg11 ?_
   refine aS ?_
   refine oOn 65 hg11 ?_
   refine o_p (Qk rfl rfl Tryz.underlying9) rfl ?_
   refine oOn 65 hg11 ?_
   refine aS ?_
   refine o_p (Qf rfl rfl hg11 rfl) rfl ?_
   refine aS ?_
   exact oJn 5 70)
  (by
   intro hg13
   have hs14:=hg13;try simp only [Bool.not_eq_true'] at hs14
   refine oOf 65 hg13 ?_
   refine oOf 65 hg13 ?_
   refine oOf 65 hg13 ?_
   refine oOf 65 hg13 ?_
   refine o_p (Qg rfl rfl hg13 rfl) rfl ?_
   refine aS ?_
   exact oJn 5 70) ?_
 refine aS ?_
 refine Xn 6 71 77 _ _ rfl
  (by
   intro hg15
   have hs16:=hg15;try simp only [Bool.or_eq_false_iff,Bool.not_eq_false',decide_eq_true_eq] at hs16
   refine oOn 71 hg15 ?_
   refine aS ?_
   refine oOn 71 hg15 ?_
   refine aS ?_
   refine oOn 71 hg15 ?_
   refine aS ?_
   refine oOn 71 hg15 ?_
   refine o_q (Qb rfl Qu8 rfl (fun w1 h1=>by have h9:=c70 w1 j gn hj3 (h1.rw_own ev2 aPk rfl) (by have h9 : gn.es.length ≤ ub1 s 7:=hgn.2.1;have:=YB s 7;omega) (fun x hx=>by have:=hgn.2.2 x hx;simp only [XZ,decide_eq_true_eq] at this;omega);rw [← hj] at h9;exact h9)) rfl ?_
   refine oOn 71 hg15 ?_
   refine aS ?_
   refine o_p (Qf rfl rfl hg15 rfl) rfl ?_
   refine aS ?_
   exact oJn 6 77)
  (by
   intro hg17
   have hs18:=hg17;try simp only [Bool.or_eq_true,Bool.not_eq_true',decide_eq_false_iff_not] at hs18
   refine oOf 71 hg17 ?_
   refine oOf 71 hg17 ?_
   refine oOf 71 hg17 ?_
   refine oOf 71 hg17 ?_
   refine oOf 71 hg17 ?_
   refine o_p (Qg rfl rfl hg17 rfl) rfl ?_
   refine aS ?_
   exact oJn 6 77) ?_
 refine aS ?_
 refine Qc rfl (fun h19=>?_) fun h19=>?_
 ·try simp only [Bool.or_eq_true,Bool.not_eq_true',decide_eq_false_iff_not] at h19
  have hR : Qv s = (noT,3):=Qjk h16 hs4 h3 h4 h5 h6 (fun n9 hn9=>by have hq:=h19;have h91:=hgn.1 _ _ hn9;rw [hn9] at hq;have h92 : gn.es = n9.es:=congrArg Nd.es h91.1;(try simp only [Option.isSome_some] at hq);have h93 : gl = s.length:=h91.2;have h94 : Qcq (at1 s 4) gn.es = false:=(by grind);rw [← h92];cases hb9 : Qdx (at1 s 4) gn.es;rfl;have h95 : Qcq (at1 s 4) gn.es = true:=QgD (fun i hi=>(by have:=QbR.1 hb9 i hi;unfold QaA at this;rw [Bool.and_eq_true] at this;exact this.1));rw [h94] at h95;cases h95)
  refine aS ?_
  refine Qm (L':=[(2,_),(3,_),(4,_),(5,_),(9,_)]) aSx (fun _ h=>h) ?_
  refine aS2 ?_
  refine oSt ?_
  refine aS2 ?_
  exact Qq (rs:=[.cell 2 37,.tmp 3]) rfl (.cell rfl Y4 aPk rfl (.tmp rfl (.nil))) (fun w' h'=>⟨((none,0),[]),by rw [hR];rfl,by rw [hR];rfl,(XD 27 69 h'.nil).ent aEt⟩)
 try simp only [Bool.or_eq_false_iff,Bool.not_eq_false',decide_eq_true_eq] at h19
 obtain ⟨⟨n9,e9⟩,hrd⟩ : ∃ q,rdN s 8 (ub1 s 7) = some q:=Option.isSome_iff_exists.1 (by have hq:=h19;grind)
 obtain ⟨hpl9,hgl9⟩:=hgn.1 _ _ hrd
 have hee : e9 = s.length:=by have hq:=h19;grind
 subst hee
 have hes9 : gn.es = n9.es:=congrArg Nd.es hpl9
 have hky : Qcq (at1 s 4) gn.es = true:=by have hq:=h19;grind
 have hgl : gn.es.length ≤ 255:=by have h9 : gn.es.length ≤ ub1 s 7:=hgn.2.1;have:=YB s 7;omega
 have hkl9 : ∀ x ∈ gn.es,x.key.length ≤ 1000000:=(fun x hx=>by have:=hgn.2.2 x hx;simp only [XZ,decide_eq_true_eq] at this;omega)
 refine aS3 ?_
 refine Qm (L':=[(2,_),(3,_),(4,_),(5,_),(9,_)]) aSx (fun _ h=>h) ?_
 refine aS4 ?_
 refine QB (α:=Nat) [3,12,79,80,81,82,83,84,85,86,87,88,89,90,91,92,93,94,95,96,97,98,99,100,101,102,103] (fun i=>[(12,.int .i64 (i : Int))]) (fun _=>HS w [] [.blk b10 69 3 [.bool gn.us,.slice gn.ea gn.es.length gn.ec,.slice gn.ca gn.cs.length gn.cc],.ents 27 gn.ea gn.ec gn.es,.kids gn.ca gn.cc gn.cs,.blk b5 37 4 [.int .i64 (at1 s 4),.int .i64 (at1 s 5),.int .i64 (at1 s 6),.slice none 0 0],.blk b2 37 4 [.int .i64 0,.int .i64 0,.int .i64 0,.slice none 0 0],.blk b1 37 4 [.int .i64 0,.int .i64 0,.int .i64 0,.slice none 0 0]]) (fun i=>1 ≤ i ∧ ∀ i9,0 < i9 → i9 < i → Xe (at1 s 4) (nth gn.es (i9 - 1)).key (nth gn.es i9).key < 0) (fun i=>gn.es.length + 1 - i) 1 ⟨Nat.le_refl _,fun i h1 h2=>by omega⟩ aSx (fun w h=>h.ent aEt) (fun i hii=>?_)
 obtain ⟨hi1,hi2⟩:=hii
 refine aS9 ?_
 refine Qc rfl (fun h20=>?_) fun h20=>?_
 ·try simp only [dT] at h20
  have hi : i < gn.es.length:=by omega
  refine Qj2 (fun w9 h=>HS.ents_some (l:=gn.es) (by omega) h aPk) fun hge=>?_
  obtain ⟨ge,hge⟩:=hge
  refine aS4 ?_
  refine QL [] Q8 ?_
  refine dFa 0 ?_
  refine dLd 1 [] ?_
  refine dFa 2 ?_
  refine dLd 3 [] ?_
  refine dP 4 ?_
  refine dP 5 ?_
  try refine dWr ?_
  refine dV 6 rfl (Qa rfl rfl rfl QX (i - 1) (by omega) (by omega) hge) ?_
  refine dFa 7 ?_
  refine dQ 8 [] rfl (X1 rfl rfl ZR (fun w9 h=>by have h8:=(h.rw_own (a:=gn.ea) (l:=gn.es) ev2 aPk rfl).rdj (i:=i - 1) 0 (by omega) rfl;rw [hge] at h8;exact h8)) ?_
  refine dFa 9 ?_
  refine dLd 10 [] ?_
  refine dP 11 ?_
  refine dV 12 rfl (Qa rfl rfl rfl QX (i) (by omega) (by omega) hge) ?_
  refine dFa 13 ?_
  refine dQ 14 [] rfl (X1 rfl rfl ZR (fun w9 h=>by have h8:=(h.rw_own (a:=gn.ea) (l:=gn.es) ev2 aPk rfl).rdj (i:=i) 0 hi rfl;rw [hge] at h8;exact h8)) ?_
  refine dQ 15 [] rfl (Qb rfl Qin rfl (fun w1 h1=>by have h9:=c65 w1 j (nth gn.es (i - 1)).key (nth gn.es i).key hj3 (by rw [← hj];exact QfW hky (by omega)) (by rw [← hj];exact QfW hky hi) (hkl9 _ (Qy (by omega))) (hkl9 _ (Qy hi));rw [← hj] at h9;exact h9)) ?_
  refine dP 16 ?_
  refine dNi ?_
  refine Qc rfl (fun h21=>?_) fun h21=>?_
  ·try simp only [dT] at h21
   have hR : Qv s = (noT,3):=Qjk h16 hs4 h3 h4 h5 h6 (fun m9 hm9=>by rw [hrd] at hm9;injection hm9 with hm9;injection hm9 with q1 q2;subst q1;rw [← hes9];refine QkI hi (i:=i) ?_;unfold QaA;have hq:=h21;rw [Bool.and_eq_false_iff];exact .inr (decide_eq_false (by omega)))
   refine aS3 ?_
   refine oSt ?_
   refine aS2 ?_
   exact Qq (rs:=[.cell 2 37,.tmp 3]) rfl (.cell rfl Y4 aPk rfl (.tmp rfl (.nil))) (fun w' h'=>⟨((none,0),[]),by rw [hR];rfl,by rw [hR];rfl,(XD 27 69 h'.nil).ent aEt⟩)
  try simp only [dN] at h21
  have hlt : Xe (at1 s 4) (nth gn.es (i - 1)).key (nth gn.es i).key < 0:=by have hq:=h21;omega
  refine aS5 ?_
  try refine oWr ?_
  refine aS2 ?_
  exact Qw (i + 1) (by omega) ⟨by omega,fun i9 h91 h92=>(Nat.lt_or_ge i9 i).elim (hi2 i9 h91) (fun h=>by obtain rfl : i9 = i:=(by omega);exact hlt)⟩ aSx (fun w h=>h.ent aEt)
 try simp only [dN] at h20
 have hA : Qdx (at1 s 4) gn.es = true:=QbR.2 (fun i9 h9=>by unfold QaA;rw [QfW hky h9,Bool.true_and];exact decide_eq_true (Nat.eq_zero_or_pos i9 |>.imp id (fun hp=>hi2 i9 hp (by omega))))
 have hR:=QrV h16 hs4 h3 h4 h5 h6 hrd (by rw [← hes9];exact hA)
 refine Qo rfl ?_
 refine aS3 ?_
 refine o_h (Qp (cs:=[_,_,_]) rfl rfl Xm Yp rfl rfl rfl) rfl (fun b22 _=>?_)
 refine aS ?_
 refine oSt ?_
 refine aS4 ?_
 refine oSt ?_
 refine aS2 ?_
 exact Qq (rs:=[.cell 2 37,.tmp 3]) rfl (.cell rfl Y4 aPk rfl (.tmp rfl (.nil))) (fun w' h'=>⟨((some ⟨b22,0,none⟩,1),[gn]),by rw [hR];rfl,by rw [hR];show [gn.pl] = _;rw [hpl9],(HS.nodes_of1 (HS.own_shut (n:=1) (cap:=1) (sz:=3) (h'.ent (Bs:=[.blk b22 69 (1 * 3) (LNd.vals gn),.ents 27 gn.ea gn.ec gn.es,.kids gn.ca gn.cc gn.cs]) aEt) rfl (by decide) (by decide))).ent aEt⟩)
end Go.Proofs
namespace Gx
open Go Go.RowKit
section
variable {P : Program} {o : Oper} {L : Qd} {w0 : World} {M : List Nat} {As As' : List HA}
end
end Gx
namespace Gx
namespace Ev
open Go Go.RowKit
structure Rho where
 f : Nat → Option (Nat × Nat)
 ex : List HA
instance : CoeFun Rho (fun _=>Nat → Option (Nat × Nat)):=⟨Rho.f⟩
def Rho.le (ρ ρ' : Rho) : Prop:=(∀ n x,ρ n = some x → ρ' n = some x) ∧ ρ'.ex = ρ.ex
theorem Rho.le_refl (ρ : Rho) : ρ.le ρ:=⟨fun _ _ h=>h,rfl⟩
theorem Rho.le_trans {a b c : Rho} (h1 : a.le b) (h2 : b.le c) : a.le c:=⟨fun n x h=>h2.1 n x (h1.1 n x h),h2.2.trans h1.2⟩
def XH (ρ : Rho) : Value → Option Value
 | .pointer (some ⟨n,i,none⟩)=>match ρ n with
  | some x=>some (.pointer (some ⟨x.1,i,none⟩))
  | none=>none
 | .pointer (some ⟨n,i,some q⟩)=>match ρ n with
  | some x=>some (.slice (some ⟨x.1,if x.2 = 0 then i else i + q,none⟩) 0 x.2)
  | none=>none
 | .pointer none=>some (.pointer none)
 | .slice (some ⟨n,i,none⟩) l c=>match ρ n with
  | some x=>some (.slice (some ⟨x.1,i,none⟩) l (c + x.2))
  | none=>none
 | .slice (some ⟨n,i,some _⟩) l c=>match ρ n with
  | some x=>some (.slice (some ⟨x.1,i,none⟩) l c)
  | none=>none
 | .slice none l c=>some (.slice none l c)
 | .map (some r)=>match ρ r with
  | some x=>some (.map (some x.1))
  | none=>none
 | .map none=>some (.map none)
 | .int k n=>some (.int k n)
 | .bool b=>some (.bool b)
 | .string s=>some (.string s)
 | .nilFunc=>some .nilFunc
 | _=>none
def QC {α β : Type} (f : α → Option β) : List α → Option (List β)
 | []=>some []
 | a :: l=>match f a,QC f l with
  | some b,some m=>some (b :: m)
  | _,_=>none
def QcD (ρ : Rho) : Fn → Option Fn
 | .func f=>some (.func f)
 | .yield n=>match ρ n with
  | some x=>some (.yield x.1)
  | none=>none
 | _=>none
def QT (ρ : Rho) : Value → Option Value
 | .func f a b=>match QcD ρ f,QC (XH ρ) a.toList,QC (XH ρ) b.toList with
  | some f',some a',some b'=>some (.func f' a'.toArray b'.toArray)
  | _,_,_=>none
 | v=>XH ρ v
def Xo (ρ : Rho) : Value → Option Value
 | .agg cs=>match QC (QT ρ) cs.toList with
  | some l=>some (.agg l.toArray)
  | none=>none
 | v=>QT ρ v
def den (ρ : Rho) : Value → Option Value
 | .tuple vs=>match QC (Xo ρ) vs.toList with
  | some l=>some (.tuple l.toArray)
  | none=>none
 | v=>Xo ρ v
section
variable {α β : Type}
theorem Xh {f g : α → Option β} (h : ∀ a b,f a = some b → g a = some b) : ∀ {l : List α} {m : List β},QC f l = some m → QC g l = some m
 | [],m,e=>e
 | a :: l,m,e=>by
  simp only [QC] at e ⊢;split at e
  ·rename_i b m' h1 h2;rw [h a b h1,Xh h h2];exact e
  ·cases e
theorem Xb {f : α → Option β} : ∀ {l : List α} {m : List β},QC f l = some m → m.length = l.length
 | [],m,e=>by cases e;rfl
 | a :: l,m,e=>by
  simp only [QC] at e;split at e
  ·rename_i b m' h1 h2;injection e with e
   subst e;simp [Xb h2]
  ·cases e
theorem Qau {f : α → Option β} : ∀ {l : List α} {m : List β} {i : Nat} {a : α},QC f l = some m → l[i]? = some a → ∃ b,m[i]? = some b ∧ f a = some b
 | [],m,i,a,e,h=>by simp at h
 | x :: l,m,i,a,e,h=>by
  simp only [QC] at e;split at e
  ·rename_i b m' h1 h2;injection e with e
   subst e;cases i with
   | zero=>simp at h;subst h;exact ⟨b,rfl,h1⟩
   | succ i=>simpa using Qau h2 (by simpa using h)
  ·cases e
theorem Zg {f : α → Option β} : ∀ {l l2 : List α} {m m2 : List β},QC f l = some m → QC f l2 = some m2 → QC f (l ++ l2) = some (m ++ m2)
 | [],l2,m,m2,e,e2=>by cases e;exact e2
 | a :: l,l2,m,m2,e,e2=>by
  simp only [QC] at e;split at e
  ·rename_i b m' h1 h2;injection e with e
   subst e;simp only [List.cons_append,QC,h1,Zg h2 e2]
  ·cases e
theorem XK {f : α → Option β} : ∀ {l : List α} {m : List β} (k : Nat),QC f l = some m → QC f (l.take k) = some (m.take k)
 | [],m,k,e=>by cases e;simp [QC]
 | a :: l,m,0,e=>by simp [QC]
 | a :: l,m,k + 1,e=>by
  simp only [QC] at e;split at e
  ·rename_i b m' h1 h2;injection e with e
   subst e;simp only [List.take_succ_cons,QC,h1,XK k h2]
  ·cases e
theorem Yw {f : α → Option β} : ∀ {l : List α} {m : List β} (k : Nat),QC f l = some m → QC f (l.drop k) = some (m.drop k)
 | [],m,k,e=>by cases e;simp [QC]
 | a :: l,m,0,e=>by simpa using e
 | a :: l,m,k + 1,e=>by
  simp only [QC] at e;split at e
  ·rename_i b m' h1 h2;injection e with e
   subst e
   simpa using Yw k h2
  ·cases e
theorem Qi7 {f : α → Option β} : ∀ {l : List α} {m : List β} (i : Nat) {a : α} {b : β},QC f l = some m → f a = some b → QC f (l.set i a) = some (m.set i b)
 | [],m,i,a,b,e,h=>by cases e;simp [QC]
 | x :: l,m,i,a,b,e,h=>by
  simp only [QC] at e;split at e
  ·rename_i y m' h1 h2;injection e with e
   subst e;cases i with
   | zero=>simp only [List.set_cons_zero,QC,h,h2]
   | succ i=>simp only [List.set_cons_succ,QC,h1,Qi7 i h2 h]
  ·cases e
theorem QhN {f : α → Option β} : ∀ {l : List α} {m : List β} {b : β},QC f l = some m → b ∈ m → ∃ a ∈ l,f a = some b
 | [],m,b,e,h=>by cases e;cases h
 | x :: l,m,b,e,h=>by
  simp only [QC] at e;split at e
  ·rename_i y m' h1 h2;injection e with e
   subst e;rcases List.mem_cons.1 h with rfl | h
   ·exact ⟨x,List.mem_cons_self ..,h1⟩
   ·obtain ⟨a,ha,e⟩:=QhN h2 h;exact ⟨a,List.mem_cons_of_mem _ ha,e⟩
  ·cases e
end
theorem Qd2 {ρ ρ' : Rho} (h : ρ.le ρ') (v u : Value) (e : XH ρ v = some u) : XH ρ' v = some u:=by
  unfold XH at e ⊢
  split at e <;> first
    | exact e
    | (split at e
       · rename_i x hx;rw [h.1 _ _ hx];exact e
       · cases e)
    | cases e
theorem QjS {ρ ρ' : Rho} (h : ρ.le ρ') (f g : Fn) (e : QcD ρ f = some g) : QcD ρ' f = some g:=by
  unfold QcD at e ⊢
  split at e <;> first
    | exact e
    | (split at e
       · rename_i x hx;rw [h.1 _ _ hx];exact e
       · cases e)
    | cases e
theorem Qcl {ρ ρ' : Rho} (h : ρ.le ρ') (v u : Value) (e : QT ρ v = some u) : QT ρ' v = some u:=by
 unfold QT at e ⊢;split at e
 ·split at e
  ·rename_i f' a' b' h1 h2 h3;rw [QjS h _ _ h1,Xh (Qd2 h) h2,Xh (Qd2 h) h3];exact e
  ·cases e
 ·exact Qd2 h _ _ e
theorem QgA {ρ ρ' : Rho} (h : ρ.le ρ') (v u : Value) (e : Xo ρ v = some u) : Xo ρ' v = some u:=by
 unfold Xo at e ⊢;split at e
 ·split at e
  ·rename_i l hl;rw [Xh (Qcl h) hl];exact e
  ·cases e
 ·exact Qcl h _ _ e
theorem Qe2 {ρ ρ' : Rho} (h : ρ.le ρ') (v u : Value) (e : den ρ v = some u) : den ρ' v = some u:=by
 unfold den at e ⊢;split at e
 ·split at e
  ·rename_i l hl;rw [Xh (QgA h) hl];exact e
  ·cases e
 ·exact QgA h _ _ e
abbrev Env:=Nat → Option Value
def SR (ρ : Rho) (L : Env) (L' : Qd) : Prop:=∀ t v,L t = some v → ∃ u,Qd.get L' t = some u ∧ den ρ v = some u
theorem SR.mono {ρ ρ' : Rho} (h : ρ.le ρ') {L : Env} {L' : Qd} (e : SR ρ L L') : SR ρ' L L':=fun t v hv=>by
 obtain ⟨u,h1,h2⟩:=e t v hv;exact ⟨u,h1,Qe2 h _ _ h2⟩
theorem SR.get {ρ : Rho} {L : Env} {L' : Qd} {t : Nat} {v : Value} (e : SR ρ L L') (h : L t = some v) : ∃ u,Qd.get L' t = some u ∧ den ρ v = some u:=e t v h
theorem SR.put {ρ : Rho} {L L2 : Env} {L' : Qd} {d : Nat} {v u : Value} (e : SR ρ L L') (hu : den ρ v = some u) (h : ∀ t x,L2 t = some x → (t = d ∧ x = v) ∨ (t ≠ d ∧ L t = some x)) : SR ρ L2 ((d,u) :: L'):=fun t x hx=>by
 simp only [Qd.get];rcases h t x hx with ⟨rfl,rfl⟩ | ⟨h1,h2⟩
 ·exact ⟨u,by simp [Nat.beq_refl],hu⟩
 ·have hb : Nat.beq d t = false:=by
   cases hb : Nat.beq d t with
   | true=>exact absurd (Nat.eq_of_beq_eq_true hb).symm h1
   | false=>rfl
  rw [hb];exact e t x h2
def Zq : Value → Bool
 | .int _ _ | .bool _ | .string _ | .nilFunc | .pointer none | .slice none _ _ | .map none=>true
 | _=>false
theorem Qas {v : Value} (h : Zq v = true) (ρ : Rho) : den ρ v = some v:=by
 unfold Zq at h;split at h <;> first | rfl | cases h
def opd (L : Env) : Operand → Option Value
 | .tmp t=>L t
 | .const v=>bif Zq v then some v else none
 | .func f=>some (.func (.func f) #[] #[])
 | _=>none
theorem Y0 {ρ : Rho} {L : Env} {L' : Qd} {x : Operand} {v : Value} (hs : SR ρ L L') (h : opd L x = some v) : ∃ u,ev L' x = some u ∧ den ρ v = some u:=by
 unfold opd at h;split at h
 ·exact hs.get h
 ·rename_i c;cases hf : Zq c with
  | true=>
   rw [hf] at h;injection h with h
   subst h;exact ⟨_,rfl,Qas hf ρ⟩
  | false=>rw [hf] at h;cases h
 ·injection h with h
  subst h;exact ⟨_,rfl,rfl⟩
 ·cases h
def QcR (L : Env) : List Operand → Option (List Value)
 | []=>some []
 | x :: l=>match opd L x,QcR L l with
  | some v,some vs=>some (v :: vs)
  | _,_=>none
theorem QdD {ρ : Rho} {L : Env} {L' : Qd} (hs : SR ρ L L') : ∀ {l : List Operand} {vs : List Value},QcR L l = some vs → ∃ us,evs L' l = some us ∧ QC (den ρ) vs = some us
 | [],vs,h=>by cases h;exact ⟨[],rfl,rfl⟩
 | x :: l,vs,h=>by
  simp only [QcR] at h;split at h
  ·rename_i v vs' h1 h2;injection h with h
   subst h;obtain ⟨u,e1,e2⟩:=Y0 hs h1;obtain ⟨us,e3,e4⟩:=QdD hs h2;exact ⟨u :: us,by simp only [evs,e1,e3],by simp only [QC,e2,e4]⟩
  ·cases h
section
variable {ρ : Rho} {L : Env} {L' : Qd} {x : Operand}
theorem Qj {v : Value} (hs : SR ρ L L') (h : opd L x = some v) (hf : Zq v = true) : ev L' x = some v:=by
 obtain ⟨u,h1,h2⟩:=Y0 hs h;rw [Qas hf] at h2;injection h2 with h2
 subst h2;exact h1
theorem Qdv {n i : Nat} (hs : SR ρ L L') (h : opd L x = some (.pointer (some ⟨n,i,none⟩))) : ∃ b d,ρ n = some (b,d) ∧ ev L' x = some (.pointer (some ⟨b,i,none⟩)):=by
 obtain ⟨u,h1,h2⟩:=Y0 hs h;simp only [den,Xo,QT,XH] at h2;split at h2
 ·rename_i y hy;injection h2 with h2
  subst h2;exact ⟨y.1,y.2,hy,h1⟩
 ·cases h2
theorem X2 {n i l c : Nat} (hs : SR ρ L L') (h : opd L x = some (.slice (some ⟨n,i,none⟩) l c)) : ∃ b d,ρ n = some (b,d) ∧ ev L' x = some (.slice (some ⟨b,i,none⟩) l (c + d)):=by
 obtain ⟨u,h1,h2⟩:=Y0 hs h;simp only [den,Xo,QT,XH] at h2;split at h2
 ·rename_i y hy;injection h2 with h2
  subst h2;exact ⟨y.1,y.2,hy,h1⟩
 ·cases h2
theorem Yq {n i l c q : Nat} (hs : SR ρ L L') (h : opd L x = some (.slice (some ⟨n,i,some q⟩) l c)) : ∃ b d,ρ n = some (b,d) ∧ ev L' x = some (.slice (some ⟨b,i,none⟩) l c):=by
 obtain ⟨u,h1,h2⟩:=Y0 hs h;simp only [den,Xo,QT,XH] at h2;split at h2
 ·rename_i y hy;injection h2 with h2
  subst h2;exact ⟨y.1,y.2,hy,h1⟩
 ·cases h2
theorem QfB {n i q : Nat} (hs : SR ρ L L') (h : opd L x = some (.pointer (some ⟨n,i,some q⟩))) : ∃ b d j,ρ n = some (b,d) ∧ ev L' x = some (.slice (some ⟨b,j,none⟩) 0 d):=by
 obtain ⟨u,h1,h2⟩:=Y0 hs h;simp only [den,Xo,QT,XH] at h2;split at h2
 ·rename_i y hy;injection h2 with h2
  subst h2;exact ⟨y.1,y.2,_,hy,h1⟩
 ·cases h2
theorem QbZ {cs : Array Value} (hs : SR ρ L L') (h : opd L x = some (.agg cs)) : ∃ l,QC (QT ρ) cs.toList = some l ∧ ev L' x = some (.agg l.toArray):=by
 obtain ⟨u,h1,h2⟩:=Y0 hs h;simp only [den,Xo] at h2;split at h2
 ·rename_i l hl;injection h2 with h2
  subst h2;exact ⟨l,hl,h1⟩
 ·cases h2
theorem Qmm {vs : Array Value} (hs : SR ρ L L') (h : opd L x = some (.tuple vs)) : ∃ l,QC (Xo ρ) vs.toList = some l ∧ ev L' x = some (.tuple l.toArray):=by
 obtain ⟨u,h1,h2⟩:=Y0 hs h;simp only [den] at h2;split at h2
 ·rename_i l hl;injection h2 with h2
  subst h2;exact ⟨l,hl,h1⟩
 ·cases h2
end
end Ev
namespace Ev
open Go Go.RowKit
def vN : Option Value → Option Nat
 | some (.int _ (.ofNat n))=>some n
 | _=>none
theorem YW {v : Option Value} {n : Nat} (h : vN v = some n) : ∃ k,v = some (.int k (n : Int)):=by
 unfold vN at h;split at h
 ·rename_i k m;injection h with h
  subst h;exact ⟨k,rfl⟩
 ·cases h
def Xf (P : Program) (t : TypeId) : Bool:=match P.underlying t with | some .string=>true | _=>false
def Qb0 (P : Program) (t : TypeId) : Bool:=match P.underlying t with | some .bool=>true | _=>false
def Xk (P : Program) (t : TypeId) : Bool:=match P.underlying t with | some (.slice _)=>true | _=>false
theorem Yg {P : Program} {t : TypeId} (h : Xf P t = true) : P.underlying t = some .string:=by
 unfold Xf at h;split at h
 ·assumption
 ·cases h
theorem Qfx {P : Program} {t : TypeId} (h : Qb0 P t = true) : P.underlying t = some .bool:=by
 unfold Qb0 at h;split at h
 ·assumption
 ·cases h
theorem XP {P : Program} {t : TypeId} (h : Xk P t = true) : ∃ e,P.underlying t = some (.slice e):=by
 unfold Xk at h;split at h
 ·rename_i e he;exact ⟨e,he⟩
 ·cases h
def QcB (P : Program) (t : TypeId) : Bool:=match P.underlying t with
 | some (.pointer te)=>(match tsz P te with
  | some (n,_)=>!Nat.beq n 0
  | none=>false)
 | _=>false
theorem Qdi {P : Program} {t : TypeId} (h : QcB P t = true) : ∃ te,Qph P t te:=by
 unfold QcB at h;split at h
 ·rename_i te h1;split at h
  ·rename_i n b h2;exact ⟨te,Qlr h1 h2 fun e=>by subst e;cases h⟩
  ·cases h
 ·cases h
def Qj7 : List Nat → List Nat → Bool
 | [],[]=>true
 | a :: l,b :: m=>Nat.beq a b && Qj7 l m
 | _,_=>false
theorem Qho : ∀ {l m : List Nat},Qj7 l m = true → l = m
 | [],[],_=>rfl
 | a :: l,b :: m,h=>by
  simp only [Qj7,Bool.and_eq_true] at h;rw [Nat.eq_of_beq_eq_true h.1,Qho h.2]
 | [],_ :: _,h=>by cases h
 | _ :: _,[],h=>by cases h
def Qqg (P : Program) (t : TypeId) (xs ys : List Value) : Option Bool:=match Qjz P t with
 | some ks=>bif (Qj7 (xs.map QbJ) ks && Qj7 (ys.map QbJ) ks) && (xs.all Zq && ys.all Zq) then eqC xs ys else none
 | none=>none
def Zl (P : Program) (op : BinOp) (t : TypeId) (a b : Value) : Option Value:=match Xi op a b with
 | some v=>some v
 | none=>match op,a,b with
  | .eql,.bool x,.bool y=>bif Qb0 P t then some (.bool (x == y)) else none
  | .neq,.bool x,.bool y=>bif Qb0 P t then some (.bool (!(x == y))) else none
  | .eql,.slice p _ _,.slice none _ _=>bif Xk P t then some (.bool p.isNone) else none
  | .neq,.slice p _ _,.slice none _ _=>bif Xk P t then some (.bool (!p.isNone)) else none
  | .eql,.agg ⟨xs⟩,.agg ⟨ys⟩=>(match Qqg P t xs ys with
   | some b=>some (.bool b)
   | none=>none)
  | .neq,.agg ⟨xs⟩,.agg ⟨ys⟩=>(match Qqg P t xs ys with
   | some b=>some (.bool (!b))
   | none=>none)
  | .eql,.pointer none,.pointer none=>bif QcB P t then some (.bool true) else none
  | .eql,.pointer (some ⟨_,_,none⟩),.pointer none=>bif QcB P t then some (.bool false) else none
  | .neq,.pointer none,.pointer none=>bif QcB P t then some (.bool false) else none
  | .neq,.pointer (some ⟨_,_,none⟩),.pointer none=>bif QcB P t then some (.bool true) else none
  | .quo,.int k x,.int k' y=>bif kEq k k' && !decide (y = 0) then some (.int k (k.wrap (x.tdiv y))) else none
  | .rem,.int k x,.int k' y=>bif kEq k k' && !decide (y = 0) then some (.int k (x.tmod y)) else none
  | .shl,.int k x,.int _ (.ofNat y)=>some (.int k (k.wrap (x * 2 ^ (min y k.bits))))
  | .shr,.int k x,.int _ (.ofNat y)=>some (.int k (x / 2 ^ (min y k.bits)))
  | .add,.string ⟨⟨x⟩⟩,.string ⟨⟨y⟩⟩=>bif Nat.ble (x.length + y.length) 9223372036854775807 then some (.string (bs (x ++ y))) else none
  | _,_,_=>none
theorem Qgj {P : Program} {t : TypeId} {xs ys : List Value} {b : Bool} (h : Qqg P t xs ys = some b) : ∃ ks,Qjz P t = some ks ∧ xs.map QbJ = ks ∧ ys.map QbJ = ks ∧ xs.all Zq = true ∧ ys.all Zq = true ∧ eqC xs ys = some b:=by
 unfold Qqg at h;split at h
 ·rename_i ks h1;cases hc : (Qj7 (xs.map QbJ) ks && Qj7 (ys.map QbJ) ks) && (xs.all Zq && ys.all Zq) with
  | false=>rw [hc] at h;cases h
  | true=>
   rw [hc] at h;simp only [Bool.and_eq_true] at hc;exact ⟨ks,h1,Qho hc.1.1,Qho hc.1.2,hc.2.1,hc.2.2,h⟩
 ·cases h
theorem Qmp {ρ : Rho} {v : Value} (h : Zq v = true) : QT ρ v = some v:=by
 unfold Zq at h;split at h <;> first | rfl | cases h
theorem QbU {ρ : Rho} : ∀ {l : List Value},l.all Zq = true → QC (QT ρ) l = some l
 | [],_=>rfl
 | v :: l,h=>by
  simp only [List.all_cons,Bool.and_eq_true] at h;simp only [QC,Qmp h.1,QbU h.2]
section
variable {P : Program} {o : Oper} {ρ : Rho} {L : Env} {L' : Qd}
theorem Qg8 {op : BinOp} {a b v : Value} (h : Xi op a b = some v) : Zq a = true ∧ Zq b = true ∧ Zq v = true:=by
 unfold Xi at h;split at h
 ·rename_i k x k' y;refine ⟨rfl,rfl,?_⟩;cases hk : kEq k k' with
  | false=>rw [hk] at h;cases h
  | true=>
   rw [hk] at h;simp only [cond_true] at h;cases op <;> simp only [XR,Option.some.injEq,reduceCtorEq] at h <;> first | (subst h;rfl) | cases h
 ·refine ⟨rfl,rfl,?_⟩;cases op <;> simp only [Qdz,Option.some.injEq,reduceCtorEq] at h <;> first | (subst h;rfl) | cases h
 ·cases h
theorem Qun {op : BinOp} {t t' : TypeId} {x y : Operand} {a b v : Value} (ho : o.op = .binOp op t x y t') (hs : SR ρ L L') (hx : opd L x = some a) (hy : opd L y = some b) (h : Zl P op t a b = some v) : ∃ u,OpP P o L' u ∧ den ρ v = some u:=by
 unfold Zl at h;split at h
 ·rename_i v' hp;injection h with h
  subst h;obtain ⟨h1,h2,h3⟩:=Qg8 hp;exact ⟨_,ZU (by rw [ho];simp only [Qa7,Qj hs hx h1,Qj hs hy h2];exact hp),Qas h3 ρ⟩
 ·split at h
  ·rename_i x' y' _;cases ht : Qb0 P t with
   | false=>rw [ht] at h;cases h
   | true=>
    rw [ht] at h;injection h with h
    subst h;exact ⟨_,Qfl ho (Qj hs hx rfl) (Qj hs hy rfl) (Qfx ht),rfl⟩
  ·rename_i x' y' _;cases ht : Qb0 P t with
   | false=>rw [ht] at h;cases h
   | true=>
    rw [ht] at h;injection h with h
    subst h;exact ⟨_,Qju ho (Qj hs hx rfl) (Qj hs hy rfl) (Qfx ht),rfl⟩
  ·rename_i p l1 c1 l2 c2 _;cases ht : Xk P t with
   | false=>rw [ht] at h;cases h
   | true=>
    rw [ht] at h;injection h with h
    subst h;obtain ⟨e,he⟩:=XP ht;have hy':=Qj hs hy rfl;rcases p with _ | ⟨n,i,_ | q⟩
    ·exact ⟨_,Zs ho (Qj hs hx rfl) hy' he,rfl⟩
    ·obtain ⟨b9,d9,_,hx'⟩:=X2 hs hx;exact ⟨_,Zs ho hx' hy' he,rfl⟩
    ·obtain ⟨b9,d9,_,hx'⟩:=Yq hs hx;exact ⟨_,Zs ho hx' hy' he,rfl⟩
  ·rename_i p l1 c1 l2 c2 _;cases ht : Xk P t with
   | false=>rw [ht] at h;cases h
   | true=>
    rw [ht] at h;injection h with h
    subst h;obtain ⟨e,he⟩:=XP ht;have hy':=Qj hs hy rfl;rcases p with _ | ⟨n,i,_ | q⟩
    ·exact ⟨_,Zt ho (Qj hs hx rfl) hy' he,rfl⟩
    ·obtain ⟨b9,d9,_,hx'⟩:=X2 hs hx;exact ⟨_,Zt ho hx' hy' he,rfl⟩
    ·obtain ⟨b9,d9,_,hx'⟩:=Yq hs hx;exact ⟨_,Zt ho hx' hy' he,rfl⟩
  ·rename_i xs ys _;split at h
   ·rename_i b hb;injection h with h
    subst h;obtain ⟨ks,k1,k2,k3,k4,k5,k6⟩:=Qgj hb;obtain ⟨l1,m1,n1⟩:=QbZ hs hx;obtain ⟨l2,m2,n2⟩:=QbZ hs hy;rw [QbU k4] at m1;rw [QbU k5] at m2;injection m1 with m1
    injection m2 with m2
    subst m1 m2;exact ⟨_,QmF ho n1 n2 k1 k2 k3 k6,rfl⟩
   ·cases h
  ·rename_i xs ys _;split at h
   ·rename_i b hb;injection h with h
    subst h;obtain ⟨ks,k1,k2,k3,k4,k5,k6⟩:=Qgj hb;obtain ⟨l1,m1,n1⟩:=QbZ hs hx;obtain ⟨l2,m2,n2⟩:=QbZ hs hy;rw [QbU k4] at m1;rw [QbU k5] at m2;injection m1 with m1
    injection m2 with m2
    subst m1 m2;exact ⟨_,Qgt ho n1 n2 k1 k2 k3 k6,rfl⟩
   ·cases h
  ·cases hk : QcB P t with
   | false=>rw [hk] at h;cases h
   | true=>
    rw [hk] at h;injection h with h
    subst h;obtain ⟨te,ht⟩:=Qdi hk;exact ⟨_,Qgr ho (Qj hs hx rfl) (Qj hs hy rfl) ht,rfl⟩
  ·cases hk : QcB P t with
   | false=>rw [hk] at h;cases h
   | true=>
    rw [hk] at h;injection h with h
    subst h;obtain ⟨te,ht⟩:=Qdi hk;obtain ⟨b9,d9,_,hx'⟩:=Qdv hs hx;exact ⟨_,Qgr ho hx' (Qj hs hy rfl) ht,rfl⟩
  ·cases hk : QcB P t with
   | false=>rw [hk] at h;cases h
   | true=>
    rw [hk] at h;injection h with h
    subst h;obtain ⟨te,ht⟩:=Qdi hk;exact ⟨_,QbL ho (Qj hs hx rfl) (Qj hs hy rfl) ht,rfl⟩
  ·cases hk : QcB P t with
   | false=>rw [hk] at h;cases h
   | true=>
    rw [hk] at h;injection h with h
    subst h;obtain ⟨te,ht⟩:=Qdi hk;obtain ⟨b9,d9,_,hx'⟩:=Qdv hs hx;exact ⟨_,QbL ho hx' (Qj hs hy rfl) ht,rfl⟩
  ·rename_i k x' k' y' _;cases hk : kEq k k' && !decide (y' = 0) with
   | false=>rw [hk] at h;cases h
   | true=>
    rw [hk] at h;injection h with h
    subst h;simp only [Bool.and_eq_true,Bool.not_eq_true',decide_eq_false_iff_not] at hk;obtain rfl:=Qbx hk.1;exact ⟨_,Qo4 ho (Qj hs hx rfl) (Qj hs hy rfl) hk.2,rfl⟩
  ·rename_i k x' k' y' _;cases hk : kEq k k' && !decide (y' = 0) with
   | false=>rw [hk] at h;cases h
   | true=>
    rw [hk] at h;injection h with h
    subst h;simp only [Bool.and_eq_true,Bool.not_eq_true',decide_eq_false_iff_not] at hk;obtain rfl:=Qbx hk.1;exact ⟨_,Qn4 ho (Qj hs hx rfl) (Qj hs hy rfl) hk.2,rfl⟩
  ·injection h with h
   subst h;exact ⟨_,Qit ho (Qj hs hx rfl) (Qj hs hy rfl) (Int.natCast_nonneg _) _ rfl,rfl⟩
  ·injection h with h
   subst h;exact ⟨_,Qlb ho (Qj hs hx rfl) (Qj hs hy rfl) (Int.natCast_nonneg _) _ rfl,rfl⟩
  ·rename_i x' y' _;cases hk : Nat.ble (x'.length + y'.length) 9223372036854775807 with
   | false=>rw [hk] at h;cases h
   | true=>
    rw [hk] at h;injection h with h
    subst h;exact ⟨_,Xl ho (Qj hs hx rfl) (Qj hs hy rfl) (Nat.le_of_ble_eq_true hk),rfl⟩
  ·cases h
end
end Ev
namespace Ev
open Go Go.RowKit
section
variable {ρ : Rho}
theorem QoE {v u : Value} (h : XH ρ v = some u) : QT ρ v = some u:=by
 cases v <;> first | exact h | (simp [XH] at h)
theorem QaO {v u : Value} (h : QT ρ v = some u) : Xo ρ v = some u:=by
 cases v <;> first | exact h | (simp [QT,XH] at h)
theorem Qcu {v u : Value} (h : Xo ρ v = some u) : den ρ v = some u:=by
 cases v <;> first | exact h | (simp [Xo,QT,XH] at h)
def Qjq : Value → Bool
 | .agg _ | .tuple _ | .func _ _ _=>false
 | _=>true
theorem QmX {v u : Value} (h : Qjq v = true) (e : den ρ v = some u) : XH ρ v = some u:=by
 cases v <;> first | exact e | (simp [Qjq] at h)
def lone : Value → Bool
 | .agg _ | .tuple _=>false
 | _=>true
theorem QoX {v u : Value} (h : lone v = true) (e : den ρ v = some u) : QT ρ v = some u:=by
 cases v <;> first | exact e | (simp [lone] at h)
theorem QcJ : ∀ {vs us : List Value},vs.all Qjq = true → QC (den ρ) vs = some us → QC (XH ρ) vs = some us
 | [],us,_,e=>by cases e;rfl
 | v :: vs,us,h,e=>by
  simp only [List.all_cons,Bool.and_eq_true] at h;simp only [QC] at e ⊢;split at e
  ·rename_i b m h1 h2;rw [QmX h.1 h1,QcJ h.2 h2];exact e
  ·cases e
def Zw : Value → Bool
 | .tuple _=>false
 | _=>true
theorem Qhd {v u : Value} (h : Zw v = true) (e : den ρ v = some u) : QC (QT ρ) v.cells.toList = some u.cells.toList:=by
 have one : ∀ {v u : Value},v.cells = #[v] → QT ρ v = some u → u.cells = #[u] → QC (QT ρ) v.cells.toList = some u.cells.toList:=fun h1 h2 h3=>by
  rw [h1,h3];simp [QC,h2]
 cases v with
 | tuple vs=>simp [Zw] at h
 | agg cs=>
  simp only [den,Xo] at e;split at e
  ·rename_i l hl;injection e with e
   subst e
   simpa [Value.cells] using hl
  ·cases e
 | _=>
  refine one rfl e ?_;simp only [den,Xo,QT,XH] at e
  first
   | (injection e with e;subst e;rfl)
   | (repeat' split at e) <;> first | (injection e with e;subst e;rfl) | cases e
end
section
variable {P : Program} {o : Oper} {ρ : Rho} {L : Env} {L' : Qd}
def Qbl (P : Program) (src dst : TypeId) : Value → Option Value
 | .int k0 n=>match tki P src,tki P dst with
  | some k1,some k=>bif kEq k0 k1 then some (.int k (k.wrap n)) else none
  | _,_=>none
 | .string s=>bif Xf P src && Xf P dst then some (.string s) else none
 | _=>none
theorem QtQ {src dst : TypeId} {x : Operand} {a v : Value} (ho : o.op = .convert src dst x) (hs : SR ρ L L') (hx : opd L x = some a) (h : Qbl P src dst a = some v) : ∃ u,OpP P o L' u ∧ den ρ v = some u:=by
 unfold Qbl at h;split at h
 ·rename_i k0 n;split at h
  ·rename_i k1 k h1 h2;cases hk : kEq k0 k1 with
   | false=>rw [hk] at h;cases h
   | true=>
    rw [hk] at h;injection h with h
    subst h;obtain rfl:=Qbx hk;exact ⟨_,Qs ho (Qj hs hx rfl) h1 h2,rfl⟩
  ·cases h
 ·cases hk : Xf P src && Xf P dst with
  | false=>rw [hk] at h;cases h
  | true=>
   rw [hk] at h;injection h with h
   subst h;simp only [Bool.and_eq_true] at hk;exact ⟨_,Qjj ho (Qj hs hx rfl) (Yg hk.1) (Yg hk.2),rfl⟩
 ·cases h
theorem Qmy {x : Operand} {i : Nat} {vs : Array Value} {v : Value} (ho : o.op = .extract x i) (hs : SR ρ L L') (hx : opd L x = some (.tuple vs)) (h : vs.toList[i]? = some v) : ∃ u,OpP P o L' u ∧ den ρ v = some u:=by
 obtain ⟨l,h1,h2⟩:=Qmm hs hx;obtain ⟨u,h3,h4⟩:=Qau h1 h;exact ⟨u,ZU (by rw [ho];simp only [Qa7,h2];simpa using h3),Qcu h4⟩
theorem Qjm {f : FuncId} {first cap : Array Operand} {a b : List Value} (ho : o.op = .makeFunc (.func f) first cap) (hs : SR ρ L L') (h1 : QcR L first.toList = some a) (h2 : QcR L cap.toList = some b) (ha : a.all Qjq = true) (hb : b.all Qjq = true) :
  ∃ u,OpP P o L' u ∧ den ρ (.func (.func f) a.toArray b.toArray) = some u:=by
 obtain ⟨a',e1,e2⟩:=QdD hs h1;obtain ⟨b',e3,e4⟩:=QdD hs h2;refine ⟨.func (.func f) a'.toArray b'.toArray,ZU (by rw [ho];simp only [Qa7,e1,e3]),?_⟩;simp only [den,Xo,QT,QcD,List.toList_toArray,QcJ ha e2,QcJ hb e4]
theorem Qsz {c a b : Operand} {t : Bool} {x y : Value} (ho : o.op = .pick c a b) (hs : SR ρ L L') (hc : opd L c = some (.bool t)) (ha : opd L a = some x) (hb : opd L b = some y) : ∃ u,OpP P o L' u ∧ den ρ (if t then x else y) = some u:=by
 obtain ⟨x',e1,e2⟩:=Y0 hs ha;obtain ⟨y',e3,e4⟩:=Y0 hs hb;refine ⟨if t then x' else y',ZU (by rw [ho];simp only [Qa7,Qj hs hc rfl,e1,e3,Qh6]),?_⟩;cases t
 ·exact e4
 ·exact e2
theorem QpM {x : Operand} {v : Value} (ho : o.op = .move x ∨ o.op = .assign x) (hs : SR ρ L L') (hx : opd L x = some v) : ∃ u,OpP P o L' u ∧ den ρ v = some u:=by
 obtain ⟨u,h1,h2⟩:=Y0 hs hx;refine ⟨u,ZU ?_,h2⟩;rcases ho with ho | ho <;> rw [ho] <;> exact h1
theorem un_R {op : UnOp} {t : TypeId} {x : Operand} {a v : Value} (ho : o.op = .unOp op t x) (hs : SR ρ L L') (hx : opd L x = some a) (h : QdP op a = some v) : ∃ u,OpP P o L' u ∧ den ρ v = some u:=by
 have hf : Zq a = true ∧ Zq v = true:=by
  unfold QdP at h;split at h <;> first | (injection h with h;subst h;exact ⟨rfl,rfl⟩) | cases h
 exact ⟨v,ZU (by rw [ho];simp only [Qa7,Qj hs hx hf.1];exact h),Qas hf.2 ρ⟩
theorem QjX {x : Operand} {n i : Nat} (ho : o.op = .nilCheck x) (hs : SR ρ L L') (hx : opd L x = some (.pointer (some ⟨n,i,none⟩))) : ∃ u,OpP P o L' u ∧ den ρ (.pointer (some ⟨n,i,none⟩)) = some u:=by
 obtain ⟨b,d,h1,h2⟩:=Qdv hs hx;exact ⟨.pointer (some ⟨b,i,none⟩),ZU (by rw [ho];simp only [Qa7,h2]),by simp only [den,Xo,QT,XH,h1]⟩
theorem QiU {x : Operand} {f : FuncId} {a b : Array Value} (ho : o.op = .nilCheck x) (hs : SR ρ L L') (hx : opd L x = some (.func (.func f) a b)) : ∃ u,OpP P o L' u ∧ den ρ (.func (.func f) a b) = some u:=by
 obtain ⟨u,h1,h2⟩:=Y0 hs hx;have h2':=h2;simp only [den,Xo,QT,QcD] at h2;split at h2
 ·rename_i f' a' b' e1 e2 e3;injection e1 with e1
  subst e1;injection h2 with h2
  subst h2;exact ⟨_,ZU (by rw [ho];simp only [Qa7,h1]),h2'⟩
 ·cases h2
theorem Qqx {st f off ft n : Nat} {x : Operand} {cs : Array Value} {v : Value} {ag : Bool} (ho : o.op = .field st x f) (hs : SR ρ L L') (hx : opd L x = some (.agg cs)) (hf : tfd P st f = some (off,ft)) (hz : tsz P ft = some (n,ag))
  (h : (if ag then some (.agg (cut cs.toList off n).toArray) else cs.toList[off]?) = some v) : ∃ u,OpP P o L' u ∧ den ρ v = some u:=by
 obtain ⟨l,h1,h2⟩:=QbZ hs hx;cases ag with
 | true=>
  simp only [if_true,Option.some.injEq] at h;subst h;refine ⟨_,Qnu ho h2 hf hz,?_⟩;simp only [den,Xo,List.toList_toArray,cut,XK n (Yw off h1)]
 | false=>
  have h' : cs.toList[off]? = some v:=by simpa using h
  obtain ⟨u,e1,e2⟩:=Qau h1 h';exact ⟨u,QfS ho h2 hf hz e1,Qcu (QaO e2)⟩
theorem Qrl {t e sz len n : Nat} {x y : Operand} {cs : Array Value} {j : Nat} {v : Value} {ag : Bool} (ho : o.op = .index t x y) (hs : SR ρ L L') (hx : opd L x = some (.agg cs)) (hy : vN (opd L y) = some j) (ht : tar P t = some (len,e,sz)) (hz : tsz P e = some (n,ag)) (hlt : j < len)
  (h : (if ag then some (.agg (cut cs.toList (j * sz) n).toArray) else cs.toList[j * sz]?) = some v) : ∃ u,OpP P o L' u ∧ den ρ v = some u:=by
 obtain ⟨l,h1,h2⟩:=QbZ hs hx;obtain ⟨k,hk⟩:=YW hy;have hy':=Qj hs hk rfl;cases ag with
 | true=>
  simp only [if_true,Option.some.injEq] at h;subst h;refine ⟨_,Qdk ho h2 hy' ht hz j rfl hlt,?_⟩;simp only [den,Xo,List.toList_toArray,cut,XK n (Yw (j * sz) h1)]
 | false=>
  have h' : cs.toList[j * sz]? = some v:=by simpa using h
  obtain ⟨u,e1,e2⟩:=Qau h1 h';exact ⟨u,Qnr ho h2 hy' ht hz j rfl hlt e1,Qcu (QaO e2)⟩
theorem Qox {t : TypeId} {x y : Operand} {l : List UInt8} {j : Nat} (ho : o.op = .index t x y) (hs : SR ρ L L') (hx : opd L x = some (.string ⟨⟨l⟩⟩)) (hy : vN (opd L y) = some j) (h : Xf P t = true) (hlt : j < l.length) : ∃ u,OpP P o L' u ∧ den ρ (.int .u8 ((l.getD j 0).toNat : Int)) = some u:=by
 obtain ⟨k,hk⟩:=YW hy;exact ⟨_,Ze ho (Qj hs hx rfl) (Qj hs hk rfl) (Yg h) j rfl hlt,rfl⟩
def loN (L : Env) : Option Operand → Option Nat
 | none=>some 0
 | some y=>vN (opd L y)
def hiN (L : Env) (n : Nat) : Option Operand → Option Nat
 | none=>some n
 | some y=>vN (opd L y)
theorem Qef {lo : Option Operand} {a : Nat} (hs : SR ρ L L') (h : loN L lo = some a) : Qn0 L' lo a:=by
 cases lo with
 | none=>injection h with h;exact h.symm
 | some y=>
  obtain ⟨k,hk⟩:=YW h;exact ⟨k,_,Qj hs hk rfl,rfl⟩
theorem QhO {hi : Option Operand} {n b : Nat} (hs : SR ρ L L') (h : hiN L n hi = some b) : Qra L' hi n b:=by
 cases hi with
 | none=>injection h with h;exact h.symm
 | some y=>
  obtain ⟨k,hk⟩:=YW h;exact ⟨k,_,Qj hs hk rfl,rfl⟩
theorem QmL {t : TypeId} {x : Operand} {l : List UInt8} {lo hi : Option Operand} {a b : Nat} (ho : o.op = .slice t x lo hi none) (hs : SR ρ L L') (hx : opd L x = some (.string ⟨⟨l⟩⟩)) (h : Xf P t = true) (hlo : loN L lo = some a) (hhi : hiN L l.length hi = some b) (hab : a ≤ b) (hbl : b ≤ l.length) :
  ∃ u,OpP P o L' u ∧ den ρ (.string (bs ((l.take b).drop a))) = some u:=
 ⟨_,YL lo hi a b ho (Qj hs hx rfl) (Yg h) (Qef hs hlo) (QhO hs hhi) hab hbl,rfl⟩
theorem Qhl {b o cap i sz : Nat} (h : i < cap) : X7 (some ⟨b,o,none⟩) cap i sz = some ⟨b,o + i * sz,none⟩:=by
 unfold X7;rw [if_neg (by omega)];simp only [Option.map_some,Addr.add];split
 ·rename_i h0;rw [h0,Nat.add_zero]
 ·rfl
theorem QsK {b o cap sz : Nat} : X7 (some ⟨b,o,none⟩) cap 0 sz = some ⟨b,o,none⟩:=by
 unfold X7;split
 ·rfl
 ·simp [Addr.add]
theorem QpU {t e sz by' n of l c : Nat} {x : Operand} {lo hi : Option Operand} {i j : Nat} (ho : o.op = .slice t x lo hi none) (hs : SR ρ L L') (hx : opd L x = some (.slice (some ⟨n,of,none⟩) l c)) (ht : tsl P t = some (e,sz,by')) (hlo : loN L lo = some i) (hhi : hiN L l hi = some j) (hij : i ≤ j) (hj : j ≤ c) (h : i = 0 ∨ i < c) :
  ∃ u,OpP P o L' u ∧ den ρ (.slice (some ⟨n,of + i * sz,none⟩) (j - i) (c - i)) = some u:=by
 obtain ⟨b,d,h1,h2⟩:=X2 hs hx;have hp:=QI lo hi i j ho h2 ht (Qef hs hlo) (QhO hs hhi) hij (by omega)
 have e : X7 (some ⟨b,of,none⟩) (c + d) i sz = some ⟨b,of + i * sz,none⟩:=by
  rcases h with rfl | h
  ·rw [QsK,Nat.zero_mul,Nat.add_zero]
  ·exact Qhl (by omega)
 rw [e,show c + d - i = c - i + d by omega] at hp;exact ⟨_,hp,by simp only [den,Xo,QT,XH,h1]⟩
theorem QmS {t e sz by' n of l c : Nat} {x : Operand} {lo hi : Option Operand} (ho : o.op = .slice t x lo hi none) (hs : SR ρ L L') (hx : opd L x = some (.slice (some ⟨n,of,none⟩) l c)) (ht : tsl P t = some (e,sz,by')) (hlo : loN L lo = some c) (hhi : hiN L l hi = some c) :
  ∃ u,OpP P o L' u ∧ den ρ (.pointer (some ⟨n,of,some (c * sz)⟩)) = some u:=by
 obtain ⟨b,d,h1,h2⟩:=X2 hs hx;have hp:=QI lo hi c c ho h2 ht (Qef hs hlo) (QhO hs hhi) (Nat.le_refl _) (by omega)
 have e : X7 (some ⟨b,of,none⟩) (c + d) c sz = some ⟨b,(if d = 0 then of else of + c * sz),none⟩:=by
  by_cases h : d = 0
  ·rw [if_pos h,X7,if_pos (by omega)]
  ·rw [if_neg h];exact Qhl (by omega)
 rw [e,Nat.sub_self,show c + d - c = d by omega] at hp;exact ⟨_,hp,by simp only [den,Xo,QT,XH,h1]⟩
theorem Qm9 {t e sz by' n of l c q : Nat} {x : Operand} {lo hi : Option Operand} {i j : Nat} (ho : o.op = .slice t x lo hi none) (hs : SR ρ L L') (hx : opd L x = some (.slice (some ⟨n,of,some q⟩) l c)) (ht : tsl P t = some (e,sz,by')) (hlo : loN L lo = some i) (hhi : hiN L l hi = some j) (hij : i ≤ j) (hj : j ≤ c) :
  ∃ u,OpP P o L' u ∧ den ρ (.slice (some ⟨n,(if c = i then of else of + i * sz),some q⟩) (j - i) (c - i)) = some u:=by
 obtain ⟨b,d,h1,h2⟩:=Yq hs hx;have hp:=QI lo hi i j ho h2 ht (Qef hs hlo) (QhO hs hhi) hij hj
 have e : X7 (some ⟨b,of,none⟩) c i sz = some ⟨b,(if c = i then of else of + i * sz),none⟩:=by
  by_cases hc : c = i
  ·rw [if_pos hc,X7,if_pos hc]
  ·rw [if_neg hc];exact Qhl (by omega)
 rw [e] at hp;exact ⟨_,hp,by simp only [den,Xo,QT,XH,h1]⟩
theorem QpQ {t e sz by' l c : Nat} {x : Operand} {lo hi : Option Operand} {i j : Nat} (ho : o.op = .slice t x lo hi none) (hs : SR ρ L L') (hx : opd L x = some (.slice none l c)) (ht : tsl P t = some (e,sz,by')) (hlo : loN L lo = some i) (hhi : hiN L l hi = some j) (hij : i ≤ j) (hj : j ≤ c) :
  ∃ u,OpP P o L' u ∧ den ρ (.slice none (j - i) (c - i)) = some u:=by
 have hp:=QI lo hi i j ho (Qj hs hx rfl) ht (Qef hs hlo) (QhO hs hhi) hij hj;have e : X7 none c i sz = none:=by unfold X7;split <;> rfl
 rw [e] at hp;exact ⟨_,hp,rfl⟩
theorem Qe0 {t e sz by' : Nat} {x hi mx : Operand} {a : Option Addr} {n cap : Nat} (lo : Option Operand) {L : Qd} {k2 k3 : IntKind} (i j m : Nat) (ho : o.op = .slice t x lo (some hi) (some mx)) (hx : ev L x = some (.slice a n cap)) (hl : Qn0 L lo i) (hh : ev L hi = some (.int k2 (j : Int))) (hm : ev L mx = some (.int k3 (m : Int))) (ht : tsl P t = some (e,sz,by')) (hij : i ≤ j) (hjm : j ≤ m) (hmc : m ≤ cap) :
  OpP P o L (.slice (X7 a m i sz) (j - i) (m - i)):=by
 cases lo with
 | some lo=>
  obtain ⟨k1,i1,h1,h2⟩:=hl;exact Qpr i j m ho hx h1 hh hm ht h2 rfl rfl hij hjm hmc
 | none=>
  have hi0 : i = 0:=hl;subst hi0;intro ρ w hρ;obtain ⟨hu,inf,h1,h2,_⟩:=Xa ht;simp [execOp,ho,hρ _ _ hx,hρ _ _ hh,hρ _ _ hm,Instr.sliceAt,Instr.slice,Instr.sliceBounds,Instr.sliceBound,asIntOf,run_underlying hu,hjm,hmc,Go.sizeOf,typeInfo,h1,h2,X7]
theorem QpD {b of m i sz : Nat} : X7 (some ⟨b,of,none⟩) m i sz = some ⟨b,(if m = i then of else of + i * sz),none⟩:=by
 by_cases h : m = i
 ·rw [if_pos h,X7,if_pos h]
 ·rw [if_neg h];unfold X7;rw [if_neg h];simp only [Option.map_some,Addr.add];split
  ·rename_i h0;rw [h0,Nat.add_zero]
  ·rfl
theorem QnZ {t e sz by' n of l c : Nat} {q : Option Nat} {x hi mx : Operand} {lo : Option Operand} {i j m : Nat} (ho : o.op = .slice t x lo (some hi) (some mx)) (hs : SR ρ L L') (hx : opd L x = some (.slice (some ⟨n,of,q⟩) l c)) (ht : tsl P t = some (e,sz,by')) (hlo : loN L lo = some i) (hhi : vN (opd L hi) = some j) (hmx : vN (opd L mx) = some m) (hij : i ≤ j) (hjm : j ≤ m) (hmc : m ≤ c) :
  ∃ u,OpP P o L' u ∧ den ρ (.slice (some ⟨n,(if m = i then of else of + i * sz),some 0⟩) (j - i) (m - i)) = some u:=by
 obtain ⟨k2,hk2⟩:=YW hhi;obtain ⟨k3,hk3⟩:=YW hmx;have g2:=Qj hs hk2 rfl;have g3:=Qj hs hk3 rfl;cases q with
 | none=>
  obtain ⟨b,d,h1,h2⟩:=X2 hs hx;have hp:=Qe0 lo i j m ho h2 (Qef hs hlo) g2 g3 ht hij hjm (by omega);rw [QpD] at hp;exact ⟨_,hp,by simp only [den,Xo,QT,XH,h1]⟩
 | some q=>
  obtain ⟨b,d,h1,h2⟩:=Yq hs hx;have hp:=Qe0 lo i j m ho h2 (Qef hs hlo) g2 g3 ht hij hjm hmc;rw [QpD] at hp;exact ⟨_,hp,by simp only [den,Xo,QT,XH,h1]⟩
theorem Ql1 {t e sz by' l c : Nat} {x hi mx : Operand} {lo : Option Operand} {i j m : Nat} (ho : o.op = .slice t x lo (some hi) (some mx)) (hs : SR ρ L L') (hx : opd L x = some (.slice none l c)) (ht : tsl P t = some (e,sz,by')) (hlo : loN L lo = some i) (hhi : vN (opd L hi) = some j) (hmx : vN (opd L mx) = some m) (hij : i ≤ j) (hjm : j ≤ m) (hmc : m ≤ c) :
  ∃ u,OpP P o L' u ∧ den ρ (.slice none (j - i) (m - i)) = some u:=by
 obtain ⟨k2,hk2⟩:=YW hhi;obtain ⟨k3,hk3⟩:=YW hmx;have hp:=Qe0 lo i j m ho (Qj hs hx rfl) (Qef hs hlo) (Qj hs hk2 rfl) (Qj hs hk3 rfl) ht hij hjm hmc;have e : X7 none m i sz = none:=by unfold X7;split <;> rfl
 rw [e] at hp;exact ⟨_,hp,rfl⟩
theorem Qij {st f off ft sz : Nat} {x : Operand} {n i : Nat} {ag : Bool} (ho : o.op = .fieldAddr st x f) (hs : SR ρ L L') (hx : opd L x = some (.pointer (some ⟨n,i,none⟩))) (hf : tfd P st f = some (off,ft)) (hz : tsz P ft = some (sz,ag)) (h0 : Nat.blt 0 sz = true) :
  ∃ u,OpP P o L' u ∧ den ρ (.pointer (some ⟨n,i + off,none⟩)) = some u:=by
 obtain ⟨b,d,h1,h2⟩:=Qdv hs hx;exact ⟨_,Qaa ho h2 hf hz h0,by simp only [den,Xo,QT,XH,h1]⟩
theorem Qjd {t e sz by' n of l c j : Nat} {x y : Operand} (ho : o.op = .indexAddr t x y) (hs : SR ρ L L') (hx : opd L x = some (.slice (some ⟨n,of,none⟩) l c)) (hy : vN (opd L y) = some j) (ht : tsl P t = some (e,sz,by')) (hlt : j < l) :
  ∃ u,OpP P o L' u ∧ den ρ (.pointer (some ⟨n,of + j * sz,none⟩)) = some u:=by
 obtain ⟨b,d,h1,h2⟩:=X2 hs hx;obtain ⟨k,hk⟩:=YW hy;exact ⟨_,Qa ho h2 (Qj hs hk rfl) ht j rfl hlt rfl,by simp only [den,Xo,QT,XH,h1]⟩
theorem Qhe {t e sz by' n of l c j q : Nat} {x y : Operand} (ho : o.op = .indexAddr t x y) (hs : SR ρ L L') (hx : opd L x = some (.slice (some ⟨n,of,some q⟩) l c)) (hy : vN (opd L y) = some j) (ht : tsl P t = some (e,sz,by')) (hlt : j < l) :
  ∃ u,OpP P o L' u ∧ den ρ (.pointer (some ⟨n,of + j * sz,none⟩)) = some u:=by
 obtain ⟨b,d,h1,h2⟩:=Yq hs hx;obtain ⟨k,hk⟩:=YW hy;exact ⟨_,Qa ho h2 (Qj hs hk rfl) ht j rfl hlt rfl,by simp only [den,Xo,QT,XH,h1]⟩
theorem Qhm {t e sz len n i j : Nat} {x y : Operand} (ho : o.op = .indexAddr t x y) (hs : SR ρ L L') (hx : opd L x = some (.pointer (some ⟨n,i,none⟩))) (hy : vN (opd L y) = some j) (ht : tar P t = some (len,e,sz)) (hlt : j < len) :
  ∃ u,OpP P o L' u ∧ den ρ (.pointer (some ⟨n,i + j * sz,none⟩)) = some u:=by
 obtain ⟨b,d,h1,h2⟩:=Qdv hs hx;obtain ⟨k,hk⟩:=YW hy;exact ⟨_,Qel ho h2 (Qj hs hk rfl) ht j rfl hlt,by simp only [den,Xo,QT,XH,h1]⟩
def Qdn (L : Env) : List (Nat × Operand) → Option (List (Nat × Value))
 | []=>some []
 | (i,x) :: r=>match opd L x,Qdn L r with
  | some v,some vs=>bif Zw v then some ((i,v) :: vs) else none
  | _,_=>none
def PR (ρ : Rho) : List (Nat × Value) → List (Nat × Value) → Prop
 | [],[]=>True
 | (i,v) :: l,(j,u) :: m=>i = j ∧ Zw v = true ∧ den ρ v = some u ∧ PR ρ l m
 | _,_=>False
theorem QeB (hs : SR ρ L L') : ∀ {l : List (Nat × Operand)} {vs : List (Nat × Value)},Qdn L l = some vs → ∃ us,Z9 L' l = some us ∧ PR ρ vs us
 | [],vs,h=>by cases h;exact ⟨[],rfl,trivial⟩
 | (i,x) :: r,vs,h=>by
  simp only [Qdn] at h;split at h
  ·rename_i v vs' h1 h2;cases hn : Zw v with
   | false=>rw [hn] at h;cases h
   | true=>
    rw [hn] at h;injection h with h
    subst h;obtain ⟨u,e1,e2⟩:=Y0 hs h1;obtain ⟨us,e3,e4⟩:=QeB hs h2;exact ⟨(i,u) :: us,by simp only [Z9,e1,e3],rfl,hn,e2,e4⟩
  ·cases h
theorem Ya : ∀ {vs us cs ds : List Value} (i : Nat),QC (QT ρ) cs = some ds → QC (QT ρ) vs = some us → QC (QT ρ) (Qi cs i vs) = some (Qi ds i us)
 | [],us,cs,ds,i,h,e=>by cases e;exact h
 | v :: vs,us,cs,ds,i,h,e=>by
  simp only [QC] at e;split at e
  ·rename_i b m h1 h2;injection e with e
   subst e;exact Ya (i + 1) (Qi7 i h h1) h2
  ·cases e
theorem QeL {pl : Nat → Option (Nat × Nat)} : ∀ {vs us : List (Nat × Value)} {cs ds rs : List Value},PR ρ vs us → QC (QT ρ) cs = some ds → Zc pl cs vs = some rs → ∃ ts,Zc pl ds us = some ts ∧ QC (QT ρ) rs = some ts
 | [],[],cs,ds,rs,_,h,e=>by cases e;exact ⟨ds,rfl,h⟩
 | (i,v) :: vs,(j,u) :: us,cs,ds,rs,hp,h,e=>by
  obtain ⟨rfl,h1,h2,h3⟩:=hp;have hc:=Qhd h1 h2;have hl:=Xb hc;have hl2:=Xb h;simp only [Zc] at e ⊢;split at e
  ·cases e
  ·rename_i off size hpl;cases hb : Nat.beq v.cells.toList.length size && Nat.ble (off + v.cells.toList.length) cs.length with
   | false=>rw [hb] at e;cases e
   | true=>
    rw [hb] at e;simp only [hl,hl2,hb];exact QeL h3 (Ya off h hc) e
 | [],_ :: _,_,_,_,hp,_,_=>hp.elim
 | _ :: _,[],_,_,_,hp,_,_=>hp.elim
def Xj (l : List Value) : Bool:=l.all Zq
theorem XV : ∀ {l : List Value},Xj l = true → QC (QT ρ) l = some l
 | [],_=>rfl
 | v :: l,h=>by
  simp only [Xj,List.all_cons,Bool.and_eq_true] at h
  have hv : QT ρ v = some v:=by
   have:=Qas h.1 ρ
   have hl : lone v = true:=by
    have h1:=h.1;unfold Zq at h1;unfold lone;split at h1 <;> first | rfl | cases h1
   exact QoX hl this
  simp only [QC,hv,XV (l:=l) h.2]
theorem QqN {t : TypeId} {parts : Array (Nat × Operand)} {vs : List (Nat × Value)} {pl : List (Nat × Nat)} {z cs : List Value} (ho : o.op = .build t parts) (hs : SR ρ L L') (hp : Qdn L parts.toList = some vs) (hpl : ZD P t = some pl) (hz : QO P t = some z) (hf : Xj z = true)
  (hc : Zc (fun i=>pl[i]?) z vs = some cs) : ∃ u,OpP P o L' u ∧ den ρ (.agg cs.toArray) = some u:=by
 obtain ⟨us,e1,e2⟩:=QeB hs hp;obtain ⟨ts,e3,e4⟩:=QeL e2 (XV hf) hc;exact ⟨_,Xr ho e1 hpl hz e3,by simp only [den,Xo,List.toList_toArray,e4]⟩
theorem Qo1 {t e sz len : Nat} {parts : Array (Nat × Operand)} {vs : List (Nat × Value)} {z cs : List Value} (ho : o.op = .build t parts) (hs : SR ρ L L') (hp : Qdn L parts.toList = some vs) (ht : tar P t = some (len,e,sz)) (hz : QO P t = some z) (hf : Xj z = true)
  (hc : Zc (fun i=>some (i * sz,sz)) z vs = some cs) : ∃ u,OpP P o L' u ∧ den ρ (.agg cs.toArray) = some u:=by
 obtain ⟨us,e1,e2⟩:=QeB hs hp;obtain ⟨ts,e3,e4⟩:=QeL e2 (XV hf) hc;exact ⟨_,Qej ho e1 ht hz e3,by simp only [den,Xo,List.toList_toArray,e4]⟩
end
end Ev
namespace Ev
inductive Tr (α : Type) where
 | lf
 | nd (l r : Tr α)
 | vd (l : Tr α) (k : Nat) (v : α) (r : Tr α)
noncomputable def QnV (f : Nat) : Nat → List Bool:=
 Nat.rec (fun _=>[]) (fun _ ih k=>Bool.rec (Nat.beq (Nat.mod k 2) 0 :: ih (Nat.div (Nat.sub k 1) 2)) [] (Nat.beq k 0)) f
noncomputable def pth (k : Nat) : List Bool:=QnV k k
def Quc : List Bool → Nat
 | []=>0
 | b :: p=>2 * Quc p + (if b then 2 else 1)
theorem QdG : ∀ (f k : Nat),k ≤ f → Quc (QnV f k) = k
 | 0,k,h=>by
  have : k = 0:=by omega
  subst this;rfl
 | f + 1,k,h=>by
  have hu : QnV (f + 1) k = (Bool.rec (Nat.beq (Nat.mod k 2) 0 :: QnV f (Nat.div (Nat.sub k 1) 2)) [] (Nat.beq k 0) : List Bool):=rfl;rw [hu];cases hk : Nat.beq k 0 with
  | true=>exact (Nat.eq_of_beq_eq_true hk).symm
  | false=>
   have h0 : k ≠ 0:=fun e=>by subst e;cases hk
   have ih:=QdG f ((k - 1) / 2) (by omega);show 2 * Quc (QnV f ((k - 1) / 2)) + (if Nat.beq (k % 2) 0 = true then 2 else 1) = k;rw [ih];cases hm : Nat.beq (k % 2) 0 with
   | true=>
    have:=Nat.eq_of_beq_eq_true hm;simp;omega
   | false=>
    have : k % 2 ≠ 0:=fun e=>by rw [e] at hm;cases hm
    simp;omega
theorem Qkq {a b : Nat} (h : pth a = pth b) : a = b:=by
 have h1:=QdG a a (Nat.le_refl _);have h2:=QdG b b (Nat.le_refl _);unfold pth at h;rw [h,h2] at h1;exact h1.symm
section
variable {α : Type}
noncomputable def YE (p : List Bool) : Nat → Tr α → Option α:=
 List.rec (fun t T=>Tr.rec none (fun _ _ _ _=>none) (fun _ k v _ _ _=>Bool.rec none (some v) (Nat.beq k t)) T)
  (fun b _ ih t T=>Tr.rec none (fun l r _ _=>Bool.rec (ih t l) (ih t r) b) (fun l _ _ r _ _=>Bool.rec (ih t l) (ih t r) b) T) p
noncomputable def Yl (p : List Bool) : Nat → α → Tr α → Tr α:=
 List.rec (fun t v T=>Tr.rec (.vd .lf t v .lf) (fun l r _ _=>.vd l t v r) (fun l _ _ r _ _=>.vd l t v r) T)
  (fun b _ ih t v T=>Tr.rec (Bool.rec (.nd (ih t v .lf) .lf) (.nd .lf (ih t v .lf)) b) (fun l r _ _=>Bool.rec (.nd (ih t v l) r) (.nd l (ih t v r)) b) (fun l k x r _ _=>Bool.rec (.vd (ih t v l) k x r) (.vd l k x (ih t v r)) b) T) p
noncomputable def Qc4 (p : List Bool) : Tr α → Tr α:=
 List.rec (fun T=>Tr.rec .lf (fun l r _ _=>.nd l r) (fun l _ _ r _ _=>.nd l r) T)
  (fun b _ ih T=>Tr.rec .lf (fun l r _ _=>Bool.rec (.nd (ih l) r) (.nd l (ih r)) b) (fun l k x r _ _=>Bool.rec (.vd (ih l) k x r) (.vd l k x (ih r)) b) T) p
theorem YQ {p : List Bool} {t : Nat} : YE p t (.lf : Tr α) = none:=by cases p <;> rfl
theorem Y7 (d : Nat) (v : α) : ∀ (p : List Bool) (T : Tr α),YE p d (Yl p d v T) = some v
 | [],T=>by
  have h : ∀ l r : Tr α,YE [] d (.vd l d v r) = some v:=fun l r=>by
   show (Bool.rec none (some v) (Nat.beq d d) : Option α) = some v;rw [Nat.beq_refl]
  cases T <;> exact h _ _
 | b :: p,T=>by
  cases T <;> cases b <;> exact Y7 d v p _
theorem YZ {t d : Nat} {v x : α} (hne : t ≠ d) : ∀ (p q : List Bool) (T : Tr α),YE p t (Yl q d v T) = some x → YE p t T = some x
 | [],[],T,h=>by
  have hd : ∀ l r : Tr α,YE [] t (.vd l d v r) = none:=fun l r=>by
   show (Bool.rec none (some v) (Nat.beq d t) : Option α) = none;cases hb : Nat.beq d t with
   | true=>exact absurd (Nat.eq_of_beq_eq_true hb).symm hne
   | false=>rfl
  cases T <;> exact absurd ((hd _ _).symm.trans h) (by simp)
 | [],c :: q,T,h=>by cases T <;> cases c <;> first | exact h | cases h
 | b :: p,[],T,h=>by
  cases T <;> cases b <;> first
   | exact h
   | (have h' : YE p t (.lf : Tr α) = some x:=h;rw [YQ] at h';cases h')
 | b :: p,c :: q,T,h=>by
  cases T <;> cases b <;> cases c <;> first
   | exact h
   | (have h' : YE p t (Yl q d v .lf) = some x:=h;have h2:=YZ hne p q .lf h';rw [YQ] at h2;cases h2)
   | exact YZ hne p q _ h
   | (have h' : YE p t (.lf : Tr α) = some x:=h;rw [YQ] at h';cases h')
theorem QcE {t d : Nat} {v : α} (hne : t ≠ d) : ∀ (p q : List Bool) (T : Tr α),p ≠ q → YE p t (Yl q d v T) = YE p t T
 | [],[],T,h=>absurd rfl h
 | [],c :: q,T,h=>by cases T <;> cases c <;> rfl
 | b :: p,[],T,h=>by
  have hl : YE p t (.lf : Tr α) = none:=YQ;cases T <;> cases b <;> first | rfl | exact hl
 | b :: p,c :: q,T,h=>by
  have hl : YE p t (.lf : Tr α) = none:=YQ;have ih:=fun T=>QcE (v:=v) hne p q T
  cases T <;> cases b <;> cases c <;> first
   | rfl
   | exact hl
   | exact (ih _ fun e=>h (by rw [e]))
   | exact ((ih .lf fun e=>h (by rw [e])).trans hl)
theorem Qal (d : Nat) : ∀ (p : List Bool) (T : Tr α),YE p d (Qc4 p T) = none
 | [],T=>by cases T <;> rfl
 | b :: p,T=>by cases T <;> cases b <;> first | rfl | exact Qal d p _
theorem Qfd {t : Nat} {x : α} : ∀ (p q : List Bool) (T : Tr α),YE p t (Qc4 q T) = some x → YE p t T = some x
 | [],[],T,h=>by cases T <;> first | exact h | cases h
 | [],c :: q,T,h=>by cases T <;> cases c <;> first | exact h | cases h
 | b :: p,[],T,h=>by cases T <;> cases b <;> first | exact h | cases h
 | b :: p,c :: q,T,h=>by
  cases T <;> cases b <;> cases c <;> first
   | exact h
   | exact Qfd p q _ h
   | cases h
theorem Qcv {t : Nat} : ∀ (p q : List Bool) (T : Tr α),p ≠ q → YE p t (Qc4 q T) = YE p t T
 | [],[],T,h=>absurd rfl h
 | [],c :: q,T,h=>by cases T <;> cases c <;> rfl
 | b :: p,[],T,h=>by cases T <;> cases b <;> rfl
 | b :: p,c :: q,T,h=>by
  have ih:=fun T=>Qcv (t:=t) p q T
  cases T <;> cases b <;> cases c <;> first
   | rfl
   | exact (ih _ fun e=>h (by rw [e]))
end
end Ev
namespace Ev
open Go Go.RowKit
structure HB where
 ty : Nat
 sz : Nat
 cs : List Value
inductive HX where
 | row (r : HB)
 | mp (ks : List Int)
abbrev Hp:=Tr HX
noncomputable def Ym (H : Hp) (n : Nat) : Option HX:=YE (pth n) n H
noncomputable def Yz (H : Hp) (n : Nat) (y : HX) : Hp:=Yl (pth n) n y H
noncomputable def Yn (H : Hp) (n : Nat) : Option HB:=match Ym H n with
 | some (.row r)=>some r
 | _=>none
noncomputable def QeV (H : Hp) (n : Nat) : Option (List Int):=match Ym H n with
 | some (.mp r)=>some r
 | _=>none
noncomputable def Yf (H : Hp) (n : Nat) (y : HB) : Hp:=Yz H n (.row y)
noncomputable def QhF (H : Hp) (n : Nat) : Hp:=Qc4 (pth n) H
theorem QcS {H : Hp} {n : Nat} {r : HB} (h : Yn H n = some r) : Ym H n = some (.row r):=by
 unfold Yn at h;split at h
 ·rename_i r' h';injection h with h
  rw [h',h]
 ·cases h
theorem Qm4 {H : Hp} {n : Nat} {r : List Int} (h : QeV H n = some r) : Ym H n = some (.mp r):=by
 unfold QeV at h;split at h
 ·rename_i r' h';injection h with h
  rw [h',h]
 ·cases h
theorem Qfs {H : Hp} {n m : Nat} {y r : HX} (h : Ym (Yz H n y) m = some r) : (m = n ∧ r = y) ∨ (m ≠ n ∧ Ym H m = some r):=by
 by_cases hm : m = n
 ·subst hm;unfold Ym Yz at h;rw [Y7] at h;injection h with h
  exact .inl ⟨rfl,h.symm⟩
 ·exact .inr ⟨hm,YZ hm _ _ _ h⟩
theorem Qed {H : Hp} {n m : Nat} {y : HX} (hm : m ≠ n) : Ym (Yz H n y) m = Ym H m:=QcE hm _ _ _ fun e=>hm (Qkq e)
theorem Qby {H : Hp} {n m : Nat} (hm : m ≠ n) : Ym (QhF H n) m = Ym H m:=Qcv _ _ _ fun e=>hm (Qkq e)
theorem Qis {H : Hp} {n m : Nat} {r : HX} (h : Ym (QhF H n) m = some r) : m ≠ n ∧ Ym H m = some r:=by
 refine ⟨fun hm=>?_,Qfd _ _ _ h⟩;subst hm;unfold Ym QhF at h;rw [Qal] at h;cases h
def Qcn : List (Nat × HX) → Nat → Option HX
 | [],_=>none
 | (k,x) :: H,n=>bif Nat.beq k n then some x else Qcn H n
def QiG : List (Nat × HX) → Nat → HX → List (Nat × HX)
 | [],_,_=>[]
 | (k,x) :: H,n,y=>bif Nat.beq k n then (k,y) :: H else (k,x) :: QiG H n y
def QgP : List (Nat × HX) → Nat → List (Nat × HX)
 | [],_=>[]
 | (k,x) :: H,n=>bif Nat.beq k n then H else (k,x) :: QgP H n
def room (x : HB) (d : Nat) : Prop:=d = 0 ∨ x.cs.length + d * x.sz ≤ maxLen * x.sz
abbrev QiQ : Int → Value:=fun n=>.int .i64 n
open Classical in
noncomputable def ha (ρ : Rho) (p : Nat × HX) : Option HA:=match p.2 with
 | .row x=>match ρ p.1,QC (QT ρ) x.cs with
  | some (b,d),some us=>if room x d then some (.blk b x.ty (us.length + d * x.sz) us) else none
  | _,_=>none
 | .mp ks=>match ρ p.1 with
  | some (b,0)=>some (.mp b QiQ ks)
  | _=>none
theorem Qhj {ρ : Rho} {n : Nat} {x : HB} {A : HA} (h : ha ρ (n,.row x) = some A) : ∃ b d us,ρ n = some (b,d) ∧ QC (QT ρ) x.cs = some us ∧ room x d ∧ A = .blk b x.ty (us.length + d * x.sz) us:=by
 simp only [ha] at h;split at h
 ·rename_i b d us h1 h2;split at h
  ·rename_i h3;injection h with h
   exact ⟨b,d,us,h1,h2,h3,h.symm⟩
  ·cases h
 ·cases h
theorem Qld {ρ : Rho} {n : Nat} {x : HB} {b d : Nat} {us : List Value} (h1 : ρ n = some (b,d)) (h2 : QC (QT ρ) x.cs = some us) (h3 : room x d) : ha ρ (n,.row x) = some (.blk b x.ty (us.length + d * x.sz) us):=by
 simp only [ha,h1,h2];rw [if_pos h3]
theorem Qnw {ρ : Rho} {n : Nat} {ks : List Int} {A : HA} (h : ha ρ (n,.mp ks) = some A) : ∃ b,ρ n = some (b,0) ∧ A = .mp b QiQ ks:=by
 simp only [ha] at h;split at h
 ·rename_i b h1;injection h with h
  exact ⟨b,h1,h.symm⟩
 ·cases h
theorem QoF {ρ : Rho} {p : Nat × HX} {A : HA} (h : ha ρ p = some A) : ∃ x,ρ p.1 = some x:=by
 obtain ⟨n,x⟩:=p;cases x with
 | row x=>obtain ⟨b,d,us,h1,_⟩:=Qhj h;exact ⟨_,h1⟩
 | mp ks=>obtain ⟨b,h1,_⟩:=Qnw h;exact ⟨_,h1⟩
theorem Qdc {ρ ρ' : Rho} (h : ρ.le ρ') (p : Nat × HX) (A : HA) (e : ha ρ p = some A) : ha ρ' p = some A:=by
 obtain ⟨n,x⟩:=p;cases x with
 | row x=>
  obtain ⟨b,d,us,h1,h2,h3,rfl⟩:=Qhj e;exact Qld (h.1 _ _ h1) (Xh (Qcl h) h2) h3
 | mp ks=>
  obtain ⟨b,h1,rfl⟩:=Qnw e;simp only [ha,h.1 _ _ h1]
theorem QcL {k m : Nat} (h : m ≠ k) : Nat.beq k m = false:=by
 cases hz : Nat.beq k m with
 | false=>rfl
 | true=>exact absurd (Nat.eq_of_beq_eq_true hz).symm h
theorem QgW {ρ : Rho} {n : Nat} {x : HX} : ∀ {H : List (Nat × HX)} {As : List HA},QC (ha ρ) H = some As → Qcn H n = some x → ∃ A Rs,ha ρ (n,x) = some A ∧ QN As A Rs ∧
  (∀ (x' : HX) (A' : HA),ha ρ (n,x') = some A' → ∃ As2,QC (ha ρ) (QiG H n x') = some As2 ∧ (A' :: Rs).Perm As2 ∧ ∀ m,Qcn (QiG H n x') m = bif Nat.beq m n then some x' else Qcn H m) ∧
  ∃ As3,QC (ha ρ) (QgP H n) = some As3 ∧ Rs.Perm As3 ∧ ∀ m,m ≠ n → Qcn (QgP H n) m = Qcn H m
 | [],As,_,h=>by cases h
 | (k,y) :: H,As,e,h=>by
  simp only [QC] at e;split at e
  ·rename_i A As' h1 h2;injection e with e
   subst e;simp only [Qcn] at h;cases hb : Nat.beq k n with
   | true=>
    rw [hb] at h;injection h with h
    subst h;have hk:=Nat.eq_of_beq_eq_true hb;subst hk;refine ⟨A,As',h1,.here,fun x' A' e1=>⟨_,?_,.refl _,fun m=>?_⟩,As',?_,.refl _,fun m hm=>?_⟩
    ·simp only [QiG,hb,cond_true,QC,e1,h2]
    ·simp only [QiG,hb,cond_true,Qcn]
     by_cases hm : m = k
     ·subst hm;simp [Nat.beq_refl]
     ·simp [QcL hm,QcL (Ne.symm hm)]
    ·simp only [QgP,hb,cond_true,h2]
    ·simp only [QgP,hb,cond_true,Qcn,QcL hm,cond_false]
   | false=>
    rw [hb] at h;obtain ⟨A0,Rs,g1,g4,g5,As3,g6,g7,g8⟩:=QgW h2 h;refine ⟨A0,A :: Rs,g1,g4.there,fun x' A' e1=>?_,A :: As3,?_,g7.cons _,fun m hm=>?_⟩
    ·obtain ⟨As2,e3,e4,e5⟩:=g5 x' A' e1;refine ⟨A :: As2,by simp only [QiG,hb,cond_false,QC,h1,e3],(List.Perm.swap ..).trans (e4.cons _),fun m=>?_⟩;simp only [QiG,hb,cond_false,Qcn,e5];cases hq : Nat.beq k m with
     | true=>
      have:=Nat.eq_of_beq_eq_true hq;subst this;simp [hb]
     | false=>rfl
    ·simp only [QgP,hb,cond_false,QC,h1,g6]
    ·simp only [QgP,hb,cond_false,Qcn,g8 m hm]
  ·cases e
def HM (ρ : Rho) (H : Hp) (As : List HA) : Prop:=∃ (G : List (Nat × HX)) (Bs : List HA),(∀ m r,Ym H m = some r → Qcn G m = some r) ∧ QC (ha ρ) G = some Bs ∧ As = Bs ++ ρ.ex
theorem HM.mono {ρ ρ' : Rho} (h : ρ.le ρ') {H : Hp} {As : List HA} : HM ρ H As → HM ρ' H As:=fun ⟨G,Bs,h1,h2,h3⟩=>⟨G,Bs,h1,Xh (Qdc h) h2,by rw [h.2];exact h3⟩
theorem HM.push {ρ : Rho} {H : Hp} {As : List HA} {n : Nat} {x : HX} {A : HA} (h : HM ρ H As) (hA : ha ρ (n,x) = some A) : HM ρ (Yz H n x) (A :: As):=by
 obtain ⟨G,Bs,h1,h2,h3⟩:=h;refine ⟨(n,x) :: G,A :: Bs,fun m r hm=>?_,by simp only [QC,hA,h2],by rw [h3];rfl⟩;simp only [Qcn];rcases Qfs hm with ⟨rfl,rfl⟩ | ⟨h3,h4⟩
 ·simp [Nat.beq_refl]
 ·rw [QcL h3];exact h1 m r h4
theorem QtA {ρ : Rho} {n : Nat} {x : HX} {H : Hp} {As : List HA} (hH : HM ρ H As) (h : Ym H n = some x) : ∃ A Rs,ha ρ (n,x) = some A ∧ QN As A Rs ∧
  (∀ (x' : HX) (A' : HA),ha ρ (n,x') = some A' → ∃ As2,HM ρ (Yz H n x') As2 ∧ (A' :: Rs).Perm As2) ∧
  ∃ As3,HM ρ (QhF H n) As3 ∧ Rs.Perm As3:=by
 obtain ⟨G,Bs,h1,h2,rfl⟩:=hH;obtain ⟨A,Rs,g1,g4,g5,As3,g6,g7,g8⟩:=QgW h2 (h1 _ _ h);refine ⟨A,Rs ++ ρ.ex,g1,g4.append_right _,fun x' A' e1=>?_,As3 ++ ρ.ex,⟨QgP G n,As3,fun m r hm=>?_,g6,rfl⟩,g7.append_right _⟩
 ·obtain ⟨As2,e3,e4,e5⟩:=g5 x' A' e1;refine ⟨As2 ++ ρ.ex,⟨QiG G n x',As2,fun m r hm=>?_,e3,rfl⟩,e4.append_right _⟩;rw [e5];rcases Qfs hm with ⟨rfl,rfl⟩ | ⟨h3,h4⟩
  ·simp [Nat.beq_refl]
  ·rw [QcL (Ne.symm h3)];exact h1 m r h4
 ·obtain ⟨h3,h4⟩:=Qis hm;rw [g8 m h3];exact h1 m r h4
theorem X9 {ρ : Rho} {n : Nat} {x : HB} {H : Hp} {As : List HA} (hH : HM ρ H As) (h : Yn H n = some x) : ∃ b d us Rs,ρ n = some (b,d) ∧ QC (QT ρ) x.cs = some us ∧ room x d ∧ QN As (.blk b x.ty (us.length + d * x.sz) us) Rs ∧
  (∀ (x' : HB) (us' : List Value),QC (QT ρ) x'.cs = some us' → room x' d → ∃ As2,HM ρ (Yf H n x') As2 ∧ (HA.blk b x'.ty (us'.length + d * x'.sz) us' :: Rs).Perm As2) ∧
  ∃ As3,HM ρ (QhF H n) As3 ∧ Rs.Perm As3:=by
 obtain ⟨A,Rs,g1,g4,g5,g6⟩:=QtA hH (QcS h);obtain ⟨b,d,us,e1,e2,e3,rfl⟩:=Qhj g1;exact ⟨b,d,us,Rs,e1,e2,e3,g4,fun x' us' f1 f2=>g5 (.row x') _ (Qld e1 f1 f2),g6⟩
theorem QmY {ρ : Rho} {n : Nat} {ks : List Int} {H : Hp} {As : List HA} (hH : HM ρ H As) (h : QeV H n = some ks) : ∃ b Rs,ρ n = some (b,0) ∧ QN As (.mp b QiQ ks) Rs ∧
  ∀ ks',∃ As2,HM ρ (Yz H n (.mp ks')) As2 ∧ (HA.mp b QiQ ks' :: Rs).Perm As2:=by
 obtain ⟨A,Rs,g1,g4,g5,g6⟩:=QtA hH (Qm4 h);obtain ⟨b,e1,rfl⟩:=Qnw g1;exact ⟨b,Rs,e1,g4,fun ks'=>g5 (.mp ks') _ (by simp only [ha,e1])⟩
def QS (ρ : Rho) (n : Nat) : Prop:=∀ k,n ≤ k → ρ k = none
def ext (ρ : Rho) (n : Nat) (x : Nat × Nat) : Rho:=⟨fun k=>bif Nat.beq k n then some x else ρ k,ρ.ex⟩
theorem Qa1 (ρ : Rho) (n : Nat) (x : Nat × Nat) : ext ρ n x n = some x:=by simp [ext,Nat.beq_refl]
theorem Qfi {ρ : Rho} {n : Nat} (h : QS ρ n) (x : Nat × Nat) : ρ.le (ext ρ n x):=⟨fun k y hk=>by
 unfold ext;simp only [];cases hb : Nat.beq k n with
 | true=>
  have:=Nat.eq_of_beq_eq_true hb;subst this;rw [h k (Nat.le_refl _)] at hk;cases hk
 | false=>exact hk,rfl⟩
theorem Qaw {ρ : Rho} {n : Nat} (h : QS ρ n) (x : Nat × Nat) : QS (ext ρ n x) (n + 1):=fun k hk=>by
 show (bif Nat.beq k n then some x else ρ k) = none;cases hb : Nat.beq k n with
 | true=>
  have:=Nat.eq_of_beq_eq_true hb;omega
 | false=>exact h k (by omega)
def Out (w0 : World) (ρ : Rho) (v : Value) (H' : Hp) (n' : Nat) (u : Value) (C : World → Prop) : Prop:=
 ∃ ρ' As',ρ.le ρ' ∧ QS ρ' n' ∧ den ρ' v = some u ∧ HM ρ' H' As' ∧ ∀ w,C w → HS w0 [] As' w
def OpT (P : Program) (o : Oper) (L' : Qd) (C : World → Prop) (K : Value → (World → Prop) → Prop) : Prop:=
 ∃ (G : Type) (V : G → Value) (F : G → Prop) (C' : G → World → Prop),OpH P o L' C V F C' ∧ ∀ g,F g → K (V g) (C' g)
section
variable {P : Program} {o : Oper} {L' : Qd} {w0 : World} {ρ : Rho} {L : Env} {H : Hp} {n : Nat} {As : List HA}
theorem OpT.of_p {v u : Value} (h : OpP P o L' u) (hd : den ρ v = some u) (hH : HM ρ H As) (hf : QS ρ n) : OpT P o L' (HS w0 [] As) (Out w0 ρ v H n):=
 ⟨Unit,_,_,_,(h.q (HS w0 [] As)).h (HS.stab _ _ _),fun _ _=>⟨ρ,As,ρ.le_refl,hf,hd,hH,fun _ h=>h⟩⟩
theorem OpT.of_q {v u : Value} (h : OpQ P o L' (HS w0 [] As) u) (hd : den ρ v = some u) (hH : HM ρ H As) (hf : QS ρ n) : OpT P o L' (HS w0 [] As) (Out w0 ρ v H n):=
 ⟨Unit,_,_,_,h.h (HS.stab _ _ _),fun _ _=>⟨ρ,As,ρ.le_refl,hf,hd,hH,fun _ h=>h⟩⟩
theorem Qbf {b d : Nat} {x : HB} {us : List Value} {v u : Value} {C : World → Prop} (hH : HM ρ H As) (hf : QS ρ n) (hc : QC (QT ρ) x.cs = some us) (hr : room x d) (hv : den (ext ρ n (b,d)) v = some u) (hC : ∀ w,C w → HS w0 [] (.blk b x.ty (us.length + d * x.sz) us :: As) w) : Out w0 ρ v (Yf H n x) (n + 1) u C:=by
 have hle:=Qfi hf (b,d);refine ⟨ext ρ n (b,d),_,hle,Qaw hf _,hv,?_,hC⟩;exact (HM.mono hle hH).push (Qld (Qa1 ρ n (b,d)) (Xh (Qcl hle) hc) hr)
theorem Qt6 {t x : Nat} {m i sz : Nat} {ag : Bool} {r : HB} {v : Value} (ho : o.op = .load t (.tmp x)) (hs : SR ρ L L') (hH : HM ρ H As) (hx : L x = some (.pointer (some ⟨m,i,none⟩))) (hg : Yn H m = some r) (hz : tsz P t = some (sz,ag))
  (h : (if ag then (bif Nat.ble (i + sz) r.cs.length then some (.agg (cut r.cs i sz).toArray) else none) else (bif Nat.beq sz 1 then r.cs[i]? else none)) = some v) : ∃ u,OpQ P o L' (HS w0 [] As) u ∧ den ρ v = some u:=by
 obtain ⟨b,d,us,Rs,g1,g2,g3,g4,_,_⟩:=X9 hH hg;obtain ⟨u,e1,e2⟩:=hs.get hx;simp only [den,Xo,QT,XH,g1,Option.some.injEq] at e2;subst e2;cases ag with
 | true=>
  simp only [if_true] at h;cases hb : Nat.ble (i + sz) r.cs.length with
  | false=>rw [hb] at h;cases h
  | true=>
   rw [hb] at h;injection h with h
   subst h;refine ⟨_,Qhi ho e1 hz g4 (by rw [Xb g2];exact hb),?_⟩;simp only [den,Xo,List.toList_toArray,cut,XK sz (Yw i g2)]
 | false=>
  cases hb : Nat.beq sz 1 with
  | false=>rw [hb] at h;simp at h
  | true=>
   rw [hb] at h;have hk:=Nat.eq_of_beq_eq_true hb;subst hk;have h' : r.cs[i]? = some v:=by simpa using h
   obtain ⟨u,e3,e4⟩:=Qau g2 h';exact ⟨u,Yb ho e1 hz g4 e3,Qcu (QaO e4)⟩
theorem Qow {v u : Value} (e : XH ρ v = some u) : u.oneCell' = true:=by
 cases v <;> simp only [XH] at e <;> first
  | (injection e with e;subst e;rfl)
  | ((repeat' split at e) <;> first | (injection e with e;subst e;rfl) | cases e)
  | cases e
theorem QpE {v u : Value} (e : QT ρ v = some u) : u.oneCell' = true:=by
 cases v with
 | func f a b=>
  simp only [QT] at e;split at e
  ·injection e with e;subst e;rfl
  ·cases e
 | _=>
  simp only [QT] at e;exact Qow e
theorem YM {vs us : List Value} (h : QC (QT ρ) vs = some us) : us.all (·.oneCell') = true:=by
 refine List.all_eq_true.2 fun u hu=>?_;obtain ⟨a,_,e⟩:=QhN h hu;exact QpE e
theorem Qp0 {t x : Nat} {y : Operand} {m i sz : Nat} {ag : Bool} {r : HB} {v : Value} (ho : o.op = .store t (.tmp x) y) (hs : SR ρ L L') (hH : HM ρ H As) (hf : QS ρ n) (hx : L x = some (.pointer (some ⟨m,i,none⟩))) (hy : opd L y = some v) (hn : Zw v = true) (hg : Yn H m = some r) (hz : tsz P t = some (sz,ag))
  (hl : v.cells.toList.length = sz) (hr : i + sz ≤ r.cs.length) : OpT P o L' (HS w0 [] As) (Out w0 ρ undef (Yf H m { r with cs:=Qi r.cs i v.cells.toList }) n):=by
 obtain ⟨b,d,us,Rs,g1,g2,g3,g4,g5,_⟩:=X9 hH hg;obtain ⟨p,e1,e2⟩:=hs.get hx;simp only [den,Xo,QT,XH,g1,Option.some.injEq] at e2;subst e2;obtain ⟨u,e3,e4⟩:=Y0 hs hy;have hc:=Qhd hn e4;have hlu:=Xb hc;have hl2:=Xb g2;have Yf:=Ya i g2 hc;obtain ⟨As2,g6,g7⟩:=g5 { r with cs:=Qi r.cs i v.cells.toList } _ Yf (by unfold room at *;simpa [Ql] using g3);have hS:=QaT (w0:=w0) (M:=[]) (As:=As) (As':=.blk b r.ty (us.length + d * r.sz) (Qi us i u.cells.toList) :: Rs) (tot:=us.length + d * r.sz) ho e1 e3 hz (by rw [hlu];exact hl) ⟨Rs,g4,.refl _⟩ (by rw [hl2];exact hr) (YM hc);refine ⟨_,_,_,_,hS,fun _ _=>⟨ρ,As2,ρ.le_refl,hf,?_,g6,fun w hw=>?_⟩⟩
 ·rfl
 ·have : HS w0 [] (.blk b r.ty ((Qi us i u.cells.toList).length + d * r.sz) (Qi us i u.cells.toList) :: Rs) w:=by rw [Ql];exact hw
  exact this.perm g7
theorem QgM {m b d i : Nat} : den (ext ρ m (b,d)) (.pointer (some ⟨m,i,none⟩)) = some (.pointer (some ⟨b,i,none⟩)):=by simp only [den,Xo,QT,XH,Qa1]
theorem QeR {m b d i l c : Nat} : den (ext ρ m (b,d)) (.slice (some ⟨m,i,none⟩) l c) = some (.slice (some ⟨b,i,none⟩) l (c + d)):=by simp only [den,Xo,QT,XH,Qa1]
theorem QpS {t : TypeId} {z : List Value} (ho : o.op = .alloc t) (hz : QO P t = some z) (hfl : Xj z = true) (hH : HM ρ H As) (hf : QS ρ n) : OpT P o L' (HS w0 [] As) (Out w0 ρ (.pointer (some ⟨n,0,none⟩)) (Yf H n ⟨t,0,z⟩) (n + 1)):=
 ⟨_,_,_,_,Qc8 ho hz,fun b _=>Qbf (d:=0) hH hf (XV hfl) (.inl rfl) QgM fun w hw=>by rw [Nat.zero_mul,Nat.add_zero];exact hw⟩
theorem QuG {t : TypeId} {x : Operand} {v : Value} (ho : o.op = .box t x) (hs : SR ρ L L') (hx : opd L x = some v) (hn : Zw v = true) (hH : HM ρ H As) (hf : QS ρ n) : OpT P o L' (HS w0 [] As) (Out w0 ρ (.pointer (some ⟨n,0,none⟩)) (Yf H n ⟨t,0,v.cells.toList⟩) (n + 1)):=by
 obtain ⟨u,e1,e2⟩:=Y0 hs hx;exact ⟨_,_,_,_,Qko ho e1,fun b _=>Qbf (d:=0) hH hf (Qhd hn e2) (.inl rfl) QgM fun w hw=>by rw [Nat.zero_mul,Nat.add_zero];exact hw⟩
theorem QgZ {t e sz by' len : Nat} {parts : Array (Nat × Operand)} {vs : List (Nat × Value)} {z cs : List Value} (ho : o.op = .buildSlice t len parts) (hs : SR ρ L L') (hp : Qdn L parts.toList = some vs) (ht : tsl P t = some (e,sz,by')) (hz : QO P e = some z) (hfl : Xj z = true) (hlen : Nat.ble (len * sz) 16777216 = true) (h0 : Nat.blt 0 (len * sz) = true)
  (hc : Zc (fun i=>some (i * sz,sz)) ((List.range (len * sz)).map fun i=>z.getD (i % z.length) default) vs = some cs) (hfz : Xj ((List.range (len * sz)).map fun i=>z.getD (i % z.length) default) = true) (hH : HM ρ H As) (hf : QS ρ n) : OpT P o L' (HS w0 [] As) (Out w0 ρ (.slice (some ⟨n,0,none⟩) len len) (Yf H n ⟨e,sz,cs⟩) (n + 1)):=by
 obtain ⟨us,e1,e2⟩:=QeB hs hp;obtain ⟨ts,e3,e4⟩:=QeL e2 (XV hfz) hc;exact ⟨_,_,_,_,Qp ho e1 ht hz hlen h0 e3,fun b _=>Qbf (d:=0) hH hf e4 (.inl rfl) (by rw [QeR];rfl) fun w hw=>by rw [Nat.zero_mul,Nat.add_zero];exact hw⟩
theorem HS.own_some {w : World} {M : List Nat} {As : List HA} {b t sz n cap : Nat} {xs : List Value} (h : HS w0 M (.own (.slice (some ⟨b,0,none⟩) n cap) t sz n xs :: As) w) : HS w0 M (.blk b t (cap * sz) xs :: As) w:=by
 refine h.turn (fun c hc=>by simpa [HA.fp_own,HA.fp_blk,Value.ownBlock] using hc) fun ho=>?_;obtain ⟨hl,⟨e,_⟩ | ⟨g,cap',e,h2,h3,hb⟩⟩:=ho
 ·cases e
 ·injection e with e1 e2 e3
  injection e1 with e1
  injection e1 with e1 _ _
  subst e1 e3;exact hb
theorem Qf1 {t e sz by' : Nat} (ho : o.op = .buildSlice t 0 #[]) (ht : tsl P t = some (e,sz,by')) (hH : HM ρ H As) (hf : QS ρ n) : OpT P o L' (HS w0 [] As) (Out w0 ρ (.slice (some ⟨n,0,none⟩) 0 0) (Yf H n ⟨e,sz,[]⟩) (n + 1)):=
 ⟨_,_,_,_,Qai ho ht,fun b _=>Qbf (d:=0) (us:=[]) hH hf rfl (.inl rfl) (by rw [QeR]) fun w hw=>by have:=HS.own_some hw;simpa using this⟩
theorem Qq2 {t e sz by' k n : Nat} {x y : Operand} {z : List Value} (ho : o.op = .makeSlice t x y) (hx : Gx.ev L' x = some (.int .i64 (k : Int))) (hy : Gx.ev L' y = some (.int .i64 (n : Int))) (ht : tsl P t = some (e,sz,by')) (hz : QO P e = some z) (hlen : n * by' ≤ 281474976710656) (hn : n ≤ 16777216) (hkn : k ≤ n) :
  OpH P o L' (HS w0 [] As) (fun b : Nat=>.slice (some ⟨b,0,none⟩) k n) (fun _=>True) (fun b=>HS w0 [] (.blk b e (n * sz) (XB z (n * sz)) :: As)):=by
 intro ρ w hρ hw;obtain ⟨hu,inf,h1,h2,h3⟩:=Xa ht;have hsz : ∀ w,(Go.sizeOf e).run P w = .ok sz w:=fun w=>by simp [Go.sizeOf,typeInfo,h1,h2]
 have hti : (typeInfo e).run P w = .ok inf w:=by simp [typeInfo,h1]
 obtain ⟨zv,hz',hzr⟩ : ∃ zv : Value,zv.cells.toList = z ∧ ∀ w,(zeroValue e).run P w = .ok zv w:=by
  unfold QO at hz;rw [h1] at hz;simp only [Option.bind_some] at hz;cases hzz : inf.zero with
  | none=>rw [hzz] at hz;cases hz
  | some v=>rw [hzz] at hz;simp only [Option.map_some,Option.some.injEq] at hz;exact ⟨v,hz,fun w=>by simp [zeroValue,typeInfo,h1,hzz]⟩
 have hwr : IntKind.i64.wrap (n : Int) = n:=IntWalk.i64_in _ ⟨by omega,by omega⟩;have hwk : IntKind.i64.wrap (k : Int) = k:=IntWalk.i64_in _ ⟨by omega,by omega⟩;have hz'' : zv.cells = z.toArray:=by rw [← hz']
 have hpr : ((inf.bytes : Nat) : Int) * (n : Int) ≤ 281474976710656:=by
  rw [h3,← Int.natCast_mul,Nat.mul_comm];omega
 have e2 : (2 : Int) ^ 48 = 281474976710656:=by decide
 have d1 : ¬ ((inf.bytes : Nat) : Int) * (n : Int) > 2 ^ 48:=by rw [e2];omega
 have d1k : ¬ ((inf.bytes : Nat) : Int) * (k : Int) > 2 ^ 48:=by
  have h8 : ((inf.bytes : Nat) : Int) * (k : Int) ≤ ((inf.bytes : Nat) : Int) * (n : Int):=Int.mul_le_mul_of_nonneg_left (by omega) (by omega);rw [e2];omega
 have d2 : ¬ (n : Int) < 0:=by omega
 have d2k : ¬ (k : Int) < 0:=by omega
 have d3 : ¬ (k : Int) > n:=by omega
 have hai : ∀ (q : Nat) w,(asInt (.int .i64 (q : Int))).run P w = .ok (q : Int) w:=fun q w=>by simp [asInt,asIntOf]
 have hb : (Instr.makeSlice t (.int .i64 k) (.int .i64 n)).run P w = .ok (.slice (some ⟨w.heap.size,0,none⟩) k n) (w.alloc (.cells (XB z (n * sz)).toArray e)):=by
  unfold Instr.makeSlice;simp only [Sem.run_bind,run_underlying hu,Result.andThen_ok,hsz,hai,Sem.run_pure,hti,hwr,hwk,d1,d1k,d2,d2k,d3,decide_false,Bool.or_false,Bool.false_eq_true,if_false,run_askRoom,Int.toNat_natCast]
  by_cases h0 : n * sz = 0
  ·have e1 : ∀ q : Array Value,(Array.map (fun x=>q[x % q.size]!) (Array.range 0)) = #[]:=fun q=>Array.eq_empty_of_size_eq_zero (by simp);have e3 : (XB z (n * sz)).toArray = #[]:=by rw [h0];rfl
   simp only [h0,if_true,Sem.run_bind,Sem.run_pure,Result.andThen_ok,newRow,run_newObj,World.alloc_eq,e1,e3];simp only [h0] at e3;rw [e3]
  ·simp only [if_neg h0,Sem.run_bind,hzr,Sem.run_pure,Result.andThen_ok,newRow,run_newObj,World.alloc_eq,hz''];congr 2;simp [XB,← List.toArray_range]
 simp only [execOp,ho,Sem.run_bind,hρ _ _ hx,hρ _ _ hy,hb,Result.andThen_ok,Sem.run_pure];have h4:=hw.blk_new e (XB z (n * sz)).toArray;refine ⟨w.heap.size,rfl,trivial,?_⟩
 simpa [QD] using h4
theorem Qh4 {t e sz by' k c : Nat} {x y : Operand} {z : List Value} (ho : o.op = .makeSlice t x y) (hs : SR ρ L L') (hx : opd L x = some (.int .i64 (k : Int))) (hy : opd L y = some (.int .i64 (c : Int))) (hkc : k ≤ c) (ht : tsl P t = some (e,sz,by')) (hz : QO P e = some z) (hb : c * by' ≤ 281474976710656) (hk : c ≤ 16777216) (hfz : Xj (XB z (c * sz)) = true) (hH : HM ρ H As) (hf : QS ρ n) :
  OpT P o L' (HS w0 [] As) (Out w0 ρ (.slice (some ⟨n,0,none⟩) k c) (Yf H n ⟨e,sz,XB z (c * sz)⟩) (n + 1)):=
 ⟨_,_,_,_,Qq2 ho (Qj hs hx rfl) (Qj hs hy rfl) ht hz hb hk hkc,fun b _=>Qbf (d:=0) hH hf (XV hfz) (.inl rfl) (by rw [QeR] <;> rfl) fun w hw=>by rw [QD,Nat.zero_mul,Nat.add_zero];exact hw⟩
theorem Qqz {src dst e : TypeId} {x : Operand} {l : List UInt8} (ho : o.op = .convert src dst x) (hs : SR ρ L L') (hx : opd L x = some (.string ⟨⟨l⟩⟩)) (h1 : P.underlying src = some .string) (h2 : P.underlying dst = some (.slice e)) (h3 : P.underlying e = some (.int .u8)) (h5 : e = u8T) (hl : l.length ≤ maxLen) (hH : HM ρ H As) (hf : QS ρ n) :
  OpT P o L' (HS w0 [] As) (Out w0 ρ (.slice (some ⟨n,0,none⟩) l.length l.length) (Yf H n ⟨e,1,l.map fun b=>.int .u8 (b.toNat : Int)⟩) (n + 1)):=by
 have hfl : Xj (l.map fun b=>Value.int .u8 (b.toNat : Int)) = true:=by
  unfold Xj;rw [List.all_map];exact List.all_eq_true.2 fun _ _=>rfl
 refine ⟨_,_,_,_,Qey ho (Qj hs hx rfl) h1 h2 h3 h5 hl,fun p hp=>Qbf (b:=p.1) (d:=p.2 - l.length) hH hf (XV hfl) (.inr ?_) ?_ fun w hw=>?_⟩
 ·simp only [List.length_map,Nat.mul_one];omega
 ·rw [QeR,show l.length + (p.2 - l.length) = p.2 by omega]
 ·simp only [List.length_map,Nat.mul_one];rw [show l.length + (p.2 - l.length) = p.2 by omega];exact hw
theorem QmA {t : TypeId} (ho : o.op = .makeMap t none) (hH : HM ρ H As) (hf : QS ρ n) : OpT P o L' (HS w0 [] As) (Out w0 ρ (.map (some n)) (Yz H n (.mp [])) (n + 1)):=by
 refine ⟨_,_,_,_,Qca ho QiQ,fun b _=>?_⟩;have hle:=Qfi hf (b,0);refine ⟨ext ρ n (b,0),_,hle,Qaw hf _,?_,(HM.mono hle hH).push (A:=.mp b QiQ []) (by simp only [ha,Qa1]),fun w hw=>hw⟩;simp only [den,Xo,QT,XH,Qa1]
def Qg5 (a : Int) : List Int → Bool
 | []=>false
 | b :: l=>bif decide (a = b) then true else Qg5 a l
theorem QhC (a : Int) : ∀ l,Qg5 a l = decide (a ∈ l)
 | []=>by simp [Qg5]
 | b :: l=>by
  simp only [Qg5,QhC a l,List.mem_cons]
  by_cases h : a = b <;> simp [h]
theorem QkV {x : Operand} {m : Nat} (hs : SR ρ L L') (h : opd L x = some (.map (some m))) : ∃ b d,ρ m = some (b,d) ∧ ev L' x = some (.map (some b)):=by
 obtain ⟨u,h1,h2⟩:=Y0 hs h;simp only [den,Xo,QT,XH] at h2;split at h2
 ·rename_i y hy;injection h2 with h2
  subst h2;exact ⟨y.1,y.2,hy,h1⟩
 ·cases h2
theorem QnA {t kt et r : Nat} {m x : Operand} {a : Int} {ks : List Int} (ho : o.op = .lookup t m x false) (hs : SR ρ L L') (hH : HM ρ H As) (hm : opd L m = some (.map (some r))) (hx : opd L x = some (.int .i64 a)) (ht : P.underlying t = some (.map kt et)) (hz : tzv P et = some (.bool false)) (hk : tki P kt = some .i64) (hg : QeV H r = some ks) :
  ∃ u,OpQ P o L' (HS w0 [] As) u ∧ den ρ (.bool (Qg5 a ks)) = some u:=by
 obtain ⟨b,Rs,g1,g2,_⟩:=QmY hH hg;obtain ⟨b',d',e1,e2⟩:=QkV hs hm;rw [g1] at e1;injection e1 with e1
 injection e1 with e1 _
 subst e1;rw [QhC];exact ⟨_,QiN ho e2 (Qj hs hx rfl) ht hz (QeD hk) g2,by simp only [den,Xo,QT,XH];congr⟩
theorem Qio {t kt et r : Nat} {m x y : Operand} {a : Int} {ks : List Int} (ho : o.op = .mapUpdate t m x y ∨ o.op = .insert t m x y) (hs : SR ρ L L') (hH : HM ρ H As) (hf : QS ρ n) (hm : opd L m = some (.map (some r))) (hx : opd L x = some (.int .i64 a)) (hy : opd L y = some (.bool true)) (ht : P.underlying t = some (.map kt et)) (hk : tki P kt = some .i64) (hg : QeV H r = some ks) :
  OpT P o L' (HS w0 [] As) (Out w0 ρ (.tuple #[]) (Yz H r (.mp (bif Qg5 a ks then ks else ks ++ [a]))) n):=by
 obtain ⟨b,Rs,g1,g2,g3⟩:=QmY hH hg;obtain ⟨b',d',e1,e2⟩:=QkV hs hm;rw [g1] at e1;injection e1 with e1
 injection e1 with e1 _
 subst e1
 have hik : Qbj ks a = (bif Qg5 a ks then ks else ks ++ [a]):=by
  unfold Qbj;rw [QhC]
  by_cases h : a ∈ ks <;> simp [h]
 obtain ⟨As2,g4,g5⟩:=g3 (Qbj ks a);rw [← hik];exact ⟨_,_,_,_,Qeb (As':=.mp b QiQ (Qbj ks a) :: Rs) ho e2 (Qj hs hx rfl) (Qj hs hy rfl) ht (QeD hk) ⟨Rs,g2,.refl _⟩,fun _ _=>⟨ρ,As2,ρ.le_refl,hf,rfl,g4,fun w hw=>hw.perm g5⟩⟩
end
end Ev
namespace Ev
open Go Go.RowKit
noncomputable def QjJ (P : Program) (H : Hp) (xt sz : Nat) : Value → Option (Nat × List Value)
 | .slice none k _=>bif Xk P xt && Nat.beq k 0 then some (0,[]) else none
 | .slice (some ⟨m,i,_⟩) k _=>bif Xk P xt then (bif Nat.beq k 0 then some (0,[]) else match Yn H m with
  | some r=>bif Nat.ble (i + k * sz) r.cs.length then some (k,cut r.cs i (k * sz)) else none
  | none=>none) else none
 | .pointer (some ⟨_,_,some _⟩)=>bif Xk P xt then some (0,[]) else none
 | .string ⟨⟨l⟩⟩=>bif Xf P xt && Nat.beq sz 1 then some (l.length,l.map fun b=>.int .u8 (b.toNat : Int)) else none
 | _=>none
structure SrcOk (P : Program) (w0 : World) (As : List HA) (xt sz : Nat) (uy : Value) (m : Nat) (us : List Value) : Prop where
 ty : P.underlying xt = some .string ∨ ∃ e',P.underlying xt = some (.slice e')
 lenOf : ∀ w,(Builtin.lenOf uy).run P w = .ok m w
 cells : ∀ w,HS w0 [] As w → (Builtin.firstCells sz m uy).run P w = .ok us.toArray w
 len : us.length = m * sz
theorem QuR {ρ : Rho} (l : List UInt8) : QC (QT ρ) (l.map fun b=>Value.int .u8 (b.toNat : Int)) = some (l.map fun b=>.int .u8 (b.toNat : Int)):=XV (by
 unfold Xj;rw [List.all_map];exact List.all_eq_true.2 fun _ _=>rfl)
section
variable {P : Program} {o : Oper} {L' : Qd} {w0 : World} {ρ : Rho} {L : Env} {H : Hp} {n : Nat} {As : List HA}
theorem QmE {α : Type} {c : Bool} {x a : α} (h : (bif c then some x else none) = some a) : c = true ∧ x = a:=by
 cases c with
 | true=>exact ⟨rfl,by simpa using h⟩
 | false=>cases h
theorem Qkd {xt sz : Nat} {y : Operand} {v : Value} {m : Nat} {cs : List Value} (hs : SR ρ L L') (hH : HM ρ H As) (hy : opd L y = some v) (h : QjJ P H xt sz v = some (m,cs)) : ∃ uy us,ev L' y = some uy ∧ QC (QT ρ) cs = some us ∧ SrcOk P w0 As xt sz uy m us:=by
 unfold QjJ at h;split at h
 ·rename_i k c;cases hb : Xk P xt && Nat.beq k 0 with
  | false=>rw [hb] at h;cases h
  | true=>
   rw [hb] at h;simp only [cond_true,Option.some.injEq,Prod.mk.injEq] at h;obtain ⟨rfl,rfl⟩:=h;simp only [Bool.and_eq_true] at hb;have hk:=Nat.eq_of_beq_eq_true hb.2;subst hk;exact ⟨_,[],Qj hs hy rfl,rfl,.inr (XP hb.1),fun _=>rfl,fun w _=>Yc (news:=[]) (by simp) fun h=>absurd rfl h,by simp⟩
 ·rename_i m2 i q k c;cases hb : Xk P xt with
  | false=>rw [hb] at h;cases h
  | true=>
   rw [hb] at h;simp only [cond_true] at h
   have hev : ∃ b c',ρ m2 = some b ∧ ev L' y = some (.slice (some ⟨b.1,i,none⟩) k c'):=by
    cases q with
    | none=>
     obtain ⟨b,d,h1,h2⟩:=X2 hs hy;exact ⟨(b,d),_,h1,h2⟩
    | some q=>
     obtain ⟨b,d,h1,h2⟩:=Yq hs hy;exact ⟨(b,d),_,h1,h2⟩
   obtain ⟨⟨b,d⟩,c',h1,h2⟩:=hev;cases hk : Nat.beq k 0 with
   | true=>
    rw [hk] at h;simp only [cond_true,Option.some.injEq,Prod.mk.injEq] at h;obtain ⟨rfl,rfl⟩:=h;have hk:=Nat.eq_of_beq_eq_true hk;subst hk;exact ⟨_,[],h2,rfl,.inr (XP hb),fun _=>rfl,fun w _=>Yc (news:=[]) (by simp) fun h=>absurd rfl h,by simp⟩
   | false=>
    rw [hk] at h;simp only [cond_false] at h;split at h
    ·rename_i r hg;cases hl : Nat.ble (i + k * sz) r.cs.length with
     | false=>rw [hl] at h;cases h
     | true=>
      rw [hl] at h;simp only [cond_true,Option.some.injEq,Prod.mk.injEq] at h;obtain ⟨rfl,rfl⟩:=h;have hl':=Nat.le_of_ble_eq_true hl;obtain ⟨b9,d9,us,Rs,g1,g2,g3,g4,_,_⟩:=X9 hH hg;rw [h1] at g1;injection g1 with g1
      injection g1 with g1 g1'
      subst g1 g1';have hlu:=Xb g2;have hcl : (cut us i (k * sz)).length = k * sz:=by simp only [cut,List.length_take,List.length_drop];omega
      exact ⟨_,cut us i (k * sz),h2,XK (k * sz) (Yw i g2),.inr (XP hb),fun _=>rfl,fun w hw=>Yc hcl (Zz i (k * sz) (fun _=>rfl) g4 w hw),hcl⟩
    ·cases h
 ·rename_i m2 i q;obtain ⟨hb,h⟩:=QmE h;simp only [Prod.mk.injEq] at h;obtain ⟨rfl,rfl⟩:=h;obtain ⟨b,d,j,h1,h2⟩:=QfB hs hy;exact ⟨_,[],h2,rfl,.inr (XP hb),fun _=>rfl,fun w _=>Yc (news:=[]) (by simp) fun h=>absurd rfl h,by simp⟩
 ·rename_i l;cases hb : Xf P xt && Nat.beq sz 1 with
  | false=>rw [hb] at h;cases h
  | true=>
   rw [hb] at h;simp only [cond_true,Option.some.injEq,Prod.mk.injEq] at h;obtain ⟨rfl,rfl⟩:=h;simp only [Bool.and_eq_true] at hb;have hk:=Nat.eq_of_beq_eq_true hb.2;subst hk;refine ⟨.string (bs l),_,Qj hs hy rfl,QuR l,.inl (Yg hb.1),fun _=>rfl,fun w _=>?_,by simp⟩;have hx : (bs l).extract 0 l.length = bs l:=(Qif _).trans (congrArg bs (by rw [Lib.extract_data];simp));simp only [Builtin.firstCells,hx,Sem.run_pure];congr 1;simp [bs]
 ·cases h
theorem QlR {t xt e sz by' k c m p : Nat} {s y : Operand} {r : HB} {vy : Value} {cs : List Value} {q : Option Nat} (ho : o.op = .call { callee:=.builtin .append,args:=#[s,y],argTypes:=#[t,xt] }) (hs : SR ρ L L') (hH : HM ρ H As) (hf : QS ρ n) (hx : opd L s = some (.slice (some ⟨p,0,q⟩) k c)) (hy : opd L y = some vy) (ht : tsl P t = some (e,sz,by'))
  (hsrc : QjJ P H xt sz vy = some (m,cs)) (hg : Yn H p = some r) (hfit : k + m ≤ c) (hr : k * sz + cs.length ≤ r.cs.length) : OpT P o L' (HS w0 [] As) (Out w0 ρ (.slice (some ⟨p,0,q⟩) (k + m) c) (Yf H p { r with cs:=Qi r.cs (k * sz) cs }) n):=by
 obtain ⟨uy,us,h1,h2,h3⟩:=Qkd (w0:=w0) hs hH hy hsrc;obtain ⟨b,d,rs,Rs,g1,g2,g3,g4,g5,_⟩:=X9 hH hg;have Yf:=Ya (k * sz) g2 h2;obtain ⟨As2,g6,g7⟩:=g5 { r with cs:=Qi r.cs (k * sz) cs } _ Yf (by unfold room at *;simpa [Ql] using g3)
 have hev : ∃ c',c ≤ c' ∧ ev L' s = some (.slice (some ⟨b,0,none⟩) k c') ∧ den ρ (.slice (some ⟨p,0,q⟩) (k + m) c) = some (.slice (some ⟨b,0,none⟩) (k + m) c'):=by
  cases q with
  | none=>
   obtain ⟨b9,d9,e1,e2⟩:=X2 hs hx;rw [g1] at e1;injection e1 with e1
   injection e1 with e1 e3
   subst e1 e3;exact ⟨c + d,by omega,e2,by simp only [den,Xo,QT,XH,g1]⟩
  | some q=>
   obtain ⟨b9,d9,e1,e2⟩:=Yq hs hx;rw [g1] at e1;injection e1 with e1
   injection e1 with e1 e3
   subst e1 e3;exact ⟨c,Nat.le_refl _,e2,by simp only [den,Xo,QT,XH,g1]⟩
 obtain ⟨c',hc,e1,e2⟩:=hev;have hlr:=Xb g2;have hlu:=Xb h2;refine ⟨Unit,fun _=>.slice (some ⟨b,0,none⟩) (k + m) c',fun _=>True,fun _=>HS w0 [] (.blk b r.ty (rs.length + d * r.sz) (Qi rs (k * sz) us) :: Rs),?_,fun _ _=>⟨ρ,As2,ρ.le_refl,hf,e2,g6,fun w hw=>?_⟩⟩
 ·intro a w hρ hw;obtain ⟨hu,inf,hi,hs1,hs2⟩:=Xa ht;subst hs1;have hpk:=hw.pick g4;obtain ⟨w',hst,hb,r1,r2,r3,r4,r5⟩:=XE (P:=P) us 0 rs w hpk.head (by rw [Nat.add_zero,hlr,hlu];exact hr) (fun u hu=>List.all_eq_true.1 (YM h2) u hu) (i:=k * inf.size);have he:=QeW (P:=P) (ty:=o.type) (x:=uy) (w':=w') (g:=b) (n:=k) (m:=m) (cap:=c') (t:=t) (xt:=xt) hu h3.ty hi (h3.lenOf w) (h3.cells w hw) (by rw [Xu,Nat.zero_add];exact hst) (by omega);simp only [execOp,ho,resolve,Sem.run_bind,Sem.run_pure,Result.andThen_ok,invoke,builtin,List.map_toArray,List.map_cons,List.map_nil,hρ _ _ e1,hρ _ _ h1,he];exact ⟨(),rfl,trivial,HS.swap hpk (B:=.blk b r.ty (rs.length + d * r.sz) (Qi rs (k * inf.size) us)) (fun _ h=>h) r1 r2 r3 r4 (fun k hk=>r5 k (by simpa [HA.fp_blk] using hk)) (show QU b _ _ (Qi rs (k * inf.size) us) w' by simpa using hb)⟩
 ·have : HS w0 [] (.blk b r.ty ((Qi rs (k * sz) us).length + d * r.sz) (Qi rs (k * sz) us) :: Rs) w:=by rw [Ql];exact hw
  exact this.perm g7
theorem Qek {t xt e sz by' k m : Nat} {s y : Operand} {v uy : Value} {z xs us : List Value} {Rs : List HA} (ho : o.op = .call { callee:=.builtin .append,args:=#[s,y],argTypes:=#[t,xt] }) (hv : ev L' s = some v) (hy : ev L' y = some uy) (ht : tsl P t = some (e,sz,by')) (hz : QO P e = some z) (hzs : z.length = sz)
  (hcls : ∀ w,HS w0 [] As w → HS w0 [] (.own v e sz k xs :: Rs) w) (h3 : SrcOk P w0 As xt sz uy m us) (h1 : us.all (·.oneCell') = true) (hroom : (k + m) * by' ≤ 140737488355328) (hmax : k + m ≤ maxLen) (hpos : 0 < k + m) :
  OpH P o L' (HS w0 [] As) (fun g : Nat × Nat=>.slice (some ⟨g.1,0,none⟩) (k + m) g.2) (fun g=>k + m ≤ g.2 ∧ g.2 ≤ maxLen ∧ (xs ++ us).length = (k + m) * sz) (fun g=>HS w0 [] (.blk g.1 e (g.2 * sz) (xs ++ us) :: Rs)):=by
 intro a w hρ hw;obtain ⟨v',w',hr,hw'⟩:=QfX (P:=P) (ty:=o.type) ht h3.ty hz hzs (hcls w hw) .here (x:=uy) (h3.lenOf w) (h3.cells w hw) (h3.cells _ hw.drew) h3.len (fun u hu=>List.all_eq_true.1 h1 u hu) hroom hmax;simp only [execOp,ho,resolve,Sem.run_bind,Sem.run_pure,Result.andThen_ok,invoke,builtin,List.map_toArray,List.map_cons,List.map_nil,hρ _ _ hv,hρ _ _ hy,hr];obtain ⟨a',cap',rfl,_⟩:=hw'.head.form;obtain ⟨g,rfl,_,h4,h5,h6,h7⟩:=hw'.own_blk hpos .here;exact ⟨(g,cap'),rfl,⟨h4,h5,h6⟩,h7⟩
theorem Qc9 {Rs : List HA} {H' : Hp} {e sz k m : Nat} {cs xs : List Value} {g : Nat × Nat} (hH : ∃ As3,HM ρ H' As3 ∧ Rs.Perm As3) (hf : QS ρ n) (hc : QC (QT ρ) cs = some xs) (h1 : k + m ≤ g.2) (h2 : g.2 ≤ maxLen) (h3 : xs.length = (k + m) * sz) :
  Out w0 ρ (.slice (some ⟨n,0,none⟩) (k + m) (k + m)) (Yf H' n ⟨e,sz,cs⟩) (n + 1) (.slice (some ⟨g.1,0,none⟩) (k + m) g.2) (HS w0 [] (.blk g.1 e (g.2 * sz) xs :: Rs)):=by
 obtain ⟨As3,h4,h5⟩:=hH;have hl:=Xb hc;have hsum : (k + m) * sz + (g.2 - (k + m)) * sz = g.2 * sz:=by rw [← Nat.add_mul];congr 1;omega
 refine Qbf (b:=g.1) (d:=g.2 - (k + m)) h4 hf hc (.inr ?_) (by rw [QeR,show k + m + (g.2 - (k + m)) = g.2 by omega]) fun w hw=>?_
 ·simp only [];rw [← hl,h3,hsum];exact Nat.mul_le_mul_right _ h2
 ·simp only [];rw [h3,hsum];exact hw.perm (h5.cons _)
theorem Ql4 {t xt e sz by' k c m p : Nat} {s y : Operand} {r : HB} {vy : Value} {z cs : List Value} (ho : o.op = .call { callee:=.builtin .append,args:=#[s,y],argTypes:=#[t,xt] }) (hs : SR ρ L L') (hH : HM ρ H As) (hf : QS ρ n) (hx : opd L s = some (.slice (some ⟨p,0,none⟩) k c)) (hy : opd L y = some vy) (ht : tsl P t = some (e,sz,by')) (hz : QO P e = some z) (hzs : z.length = sz)
  (hsrc : QjJ P H xt sz vy = some (m,cs)) (hg : Yn H p = some r) (hty : r.ty = e) (hsz : r.sz = sz) (hlen : r.cs.length = c * sz) (hsz0 : 0 < sz) (hkc : k ≤ c) (hcm : c ≤ maxLen) (hroom : (k + m) * by' ≤ 140737488355328) (hmax : k + m ≤ maxLen) (hpos : 0 < k + m) :
  OpT P o L' (HS w0 [] As) (Out w0 ρ (.slice (some ⟨n,0,none⟩) (k + m) (k + m)) (Yf (QhF H p) n ⟨e,sz,r.cs.take (k * sz) ++ cs⟩) (n + 1)):=by
 obtain ⟨uy,us,h1,h2,h3⟩:=Qkd (w0:=w0) hs hH hy hsrc;obtain ⟨b,d,rs,Rs,g1,g2,g3,g4,_,g6⟩:=X9 hH hg;obtain ⟨b9,d9,e1,e2⟩:=X2 hs hx;rw [g1] at e1;injection e1 with e1
 injection e1 with e1 e3
 subst e1 e3;have hlr:=Xb g2
 have hcd : c + d ≤ maxLen:=by
  unfold room at g3;rcases g3 with g3 | g3
  ·omega
  ·rw [hlen,hsz,← Nat.add_mul] at g3;exact Nat.le_of_mul_le_mul_right g3 hsz0
 have htot : rs.length + d * r.sz = (c + d) * sz:=by rw [hlr,hlen,hsz,Nat.add_mul]
 rw [hty,htot] at g4;have hH4:=Qek (w0:=w0) (As:=As) (xs:=rs.take (k * sz)) (Rs:=Rs) (k:=k) ho e2 h1 ht hz hzs (fun w hw=>HS.to_own g4 hw (List.take_append_drop (k * sz) rs).symm (by rw [List.length_take,hlr,hlen];exact Nat.min_eq_left (Nat.mul_le_mul_right _ hkc)) (by omega) hcd) h3 (YM h2) hroom hmax hpos;exact ⟨_,_,_,_,hH4,fun g hg4=>Qc9 g6 hf (Zg (XK (k * sz) g2) h2) hg4.1 hg4.2.1 hg4.2.2⟩
theorem QlD {t xt e sz by' m : Nat} {s y : Operand} {vy : Value} {z cs : List Value} (ho : o.op = .call { callee:=.builtin .append,args:=#[s,y],argTypes:=#[t,xt] }) (hs : SR ρ L L') (hH : HM ρ H As) (hf : QS ρ n) (hx : opd L s = some (.slice none 0 0)) (hy : opd L y = some vy) (ht : tsl P t = some (e,sz,by')) (hz : QO P e = some z) (hzs : z.length = sz)
  (hsrc : QjJ P H xt sz vy = some (m,cs)) (hroom : (0 + m) * by' ≤ 140737488355328) (hmax : 0 + m ≤ maxLen) (hpos : 0 < 0 + m) :
  OpT P o L' (HS w0 [] As) (Out w0 ρ (.slice (some ⟨n,0,none⟩) (0 + m) (0 + m)) (Yf H n ⟨e,sz,[] ++ cs⟩) (n + 1)):=by
 obtain ⟨uy,us,h1,h2,h3⟩:=Qkd (w0:=w0) hs hH hy hsrc;have hH4:=Qek (w0:=w0) (As:=As) (xs:=[]) (Rs:=As) (k:=0) ho (Qj hs hx rfl) h1 ht hz hzs (fun w hw=>hw.own_nil e sz) h3 (YM h2) hroom hmax hpos;exact ⟨_,_,_,_,hH4,fun g hg4=>Qc9 ⟨As,hH,.refl _⟩ hf (Zg (by rfl) h2) hg4.1 hg4.2.1 hg4.2.2⟩
theorem Qml {t xt e sz by' : Nat} {s y : Operand} {vy : Value} {cs : List Value} (ho : o.op = .call { callee:=.builtin .append,args:=#[s,y],argTypes:=#[t,xt] }) (hs : SR ρ L L') (hH : HM ρ H As) (hf : QS ρ n) (hx : opd L s = some (.slice none 0 0)) (hy : opd L y = some vy) (ht : tsl P t = some (e,sz,by'))
  (hsrc : QjJ P H xt sz vy = some (0,cs)) : OpT P o L' (HS w0 [] As) (Out w0 ρ (.slice none 0 0) H n):=by
 obtain ⟨uy,us,h1,h2,h3⟩:=Qkd (w0:=w0) hs hH hy hsrc;refine ⟨Unit,fun _=>.slice none 0 0,fun _=>True,fun _=>HS w0 [] As,?_,fun _ _=>⟨ρ,As,ρ.le_refl,hf,rfl,hH,fun _ h=>h⟩⟩;intro a w hρ hw;obtain ⟨hu,inf,hi,hs1,hs2⟩:=Xa ht;subst hs1;have hu0 : us = []:=List.eq_nil_of_length_eq_zero (by have:=h3.len;omega);subst hu0;have he:=QeQ (P:=P) (ty:=o.type) (t:=t) (xt:=xt) (x:=uy) (w:=w) hu h3.ty hi (h3.lenOf w) (h3.cells w hw);simp only [execOp,ho,resolve,Sem.run_bind,Sem.run_pure,Result.andThen_ok,invoke,builtin,List.map_toArray,List.map_cons,List.map_nil,hρ _ _ (Qj hs hx rfl),hρ _ _ h1,he];exact ⟨(),rfl,trivial,hw⟩
end
end Ev
namespace Ev
open Go Go.RowKit
section
variable {P : Program} {o : Oper} {L' : Qd} {w0 : World} {ρ : Rho} {L : Env} {H : Hp} {n : Nat} {As : List HA}
theorem Qo2 {cs us : List Value} (h : Xj cs = true) (e : QC (QT ρ) cs = some us) : us = cs:=by
 rw [XV h] at e;injection e with e
 exact e.symm
theorem QdH {x : Operand} {p i l c : Nat} {q : Option Nat} (hs : SR ρ L L') (h : opd L x = some (.slice (some ⟨p,i,q⟩) l c)) : ∃ b d c',ρ p = some (b,d) ∧ ev L' x = some (.slice (some ⟨b,i,none⟩) l c'):=by
 cases q with
 | none=>
  obtain ⟨b,d,h1,h2⟩:=X2 hs h;exact ⟨b,d,_,h1,h2⟩
 | some q=>
  obtain ⟨b,d,h1,h2⟩:=Yq hs h;exact ⟨b,d,_,h1,h2⟩
theorem QmB {src dst e p i k c : Nat} {x : Operand} {q : Option Nat} {r : HB} (ho : o.op = .convert src dst x) (hs : SR ρ L L') (hH : HM ρ H As) (hx : opd L x = some (.slice (some ⟨p,i,q⟩) k c)) (h1 : P.underlying src = some (.slice e)) (h2 : Xf P dst = true) (h3 : P.underlying e = some (.int .u8)) (hg : Yn H p = some r) (hl : i + k ≤ r.cs.length)
  (h8 : (cut r.cs i k).all QgI = true) (hf : Xj (cut r.cs i k) = true) : ∃ u,OpQ P o L' (HS w0 [] As) u ∧ den ρ (.string (bs ((cut r.cs i k).map Qbn))) = some u:=by
 obtain ⟨b,d,us,Rs,g1,g2,g3,g4,_,_⟩:=X9 hH hg;obtain ⟨b9,d9,c',e1,e2⟩:=QdH hs hx;rw [g1] at e1;injection e1 with e1
 injection e1 with e1 e3
 subst e1 e3;have hc : QC (QT ρ) (cut r.cs i k) = some (cut us i k):=XK k (Yw i g2);have he:=Qo2 hf hc;have hlen : (cut r.cs i k).length = k:=by simp only [cut,List.length_take,List.length_drop];omega
 refine ⟨_,?_,rfl⟩;intro a w hρ hw
 have hr : (convert src dst (.slice (some ⟨b,i,none⟩) (cut r.cs i k).length c')).run P w = .ok (.string (bs ((cut r.cs i k).map Qbn))) w:=
  Yt h1 (Yg h2) h3 (fun v hv=>List.all_eq_true.1 h8 v hv) (by rw [← he];exact Zz i k (fun _=>rfl) g4 w hw)
 rw [hlen] at hr;simp only [execOp,ho,Sem.run_bind,hρ _ _ e2,hr,Result.andThen_ok,Sem.run_pure];exact ⟨rfl,Below.refl _ _⟩
theorem QlQ {src dst e k c : Nat} {x : Operand} (ho : o.op = .convert src dst x) (hs : SR ρ L L') (hx : opd L x = some (.slice none 0 c)) (h1 : P.underlying src = some (.slice e)) (h2 : Xf P dst = true) (h3 : P.underlying e = some (.int .u8)) : ∃ u,OpQ P o L' (HS w0 [] As) u ∧ den ρ (.string (bs [])) = some u:=by
 refine ⟨_,?_,rfl⟩;intro a w hρ hw
 have hr : (convert src dst (.slice none ([] : List Value).length c)).run P w = .ok (.string (bs (([] : List Value).map Qbn))) w:=
  Yt h1 (Yg h2) h3 (fun v hv=>by cases hv) (fun h=>absurd rfl h)
 simp only [execOp,ho,Sem.run_bind,hρ _ _ (Qj hs hx rfl),show (0 : Nat) = ([] : List Value).length from rfl,hr,Result.andThen_ok,Sem.run_pure];exact ⟨rfl,Below.refl _ _⟩
theorem QmD {src dst e p i q : Nat} {x : Operand} (ho : o.op = .convert src dst x) (hs : SR ρ L L') (hx : opd L x = some (.pointer (some ⟨p,i,some q⟩))) (h1 : P.underlying src = some (.slice e)) (h2 : Xf P dst = true) (h3 : P.underlying e = some (.int .u8)) : ∃ u,OpQ P o L' (HS w0 [] As) u ∧ den ρ (.string (bs [])) = some u:=by
 obtain ⟨b,d,j,_,h4⟩:=QfB hs hx;exact ⟨_,Qfc [] ho h4 h1 (Yg h2) h3 rfl (fun _ _ h=>absurd h (Nat.lt_irrefl 0)),rfl⟩
theorem Ql3 {t xt e sz by' m : Nat} {s y : Operand} {z : List Value} (ho : o.op = .call { callee:=.builtin .append,args:=#[s,y],argTypes:=#[t,xt] }) (hs : SR ρ L L') (hH : HM ρ H As) (hf : QS ρ n) (hx : opd L s = some (.slice none 0 0)) (hy : opd L y = some (.int .i64 (m : Int))) (hk : tki P xt = some .i64) (ht : tsl P t = some (e,sz,by')) (hz : QO P e = some z) (hzs : z.length = sz) (hsz : 0 < sz)
  (hfz : Xj (XB z (m * sz)) = true) (hroom : (0 + m) * by' ≤ 140737488355328) (hmax : 0 + m ≤ maxLen) (hpos : 0 < m) : OpT P o L' (HS w0 [] As) (Out w0 ρ (.slice (some ⟨n,0,none⟩) (0 + m) (0 + m)) (Yf H n ⟨e,sz,[] ++ XB z (m * sz)⟩) (n + 1)):=by
 exact ⟨_,_,_,_,ZM (olds:=[]) ho (Qj hs hx rfl) (Qj hs hy rfl) ht hk hz hzs hsz hpos (by omega) (fun w _ h=>absurd rfl h) (by simp) hroom hmax,fun g hg=>Qc9 ⟨As,hH,.refl _⟩ hf (Zg (by rfl) (XV hfz)) hg.1 hg.2 (by rw [List.nil_append,QD,Nat.zero_add])⟩
theorem Qta {dt st e sz by' p i k c p2 i2 k2 c2 : Nat} {d s : Operand} {q q2 : Option Nat} {r r2 : HB} (ho : o.op = .call { callee:=.builtin .copy,args:=#[d,s],argTypes:=#[dt,st] }) (hs : SR ρ L L') (hH : HM ρ H As) (hf : QS ρ n) (hd : opd L d = some (.slice (some ⟨p,i,q⟩) k c)) (hx : opd L s = some (.slice (some ⟨p2,i2,q2⟩) k2 c2)) (ht : tsl P dt = some (e,sz,by'))
  (hg : Yn H p = some r) (hg2 : Yn H p2 = some r2) (hl : i + min k2 k * sz ≤ r.cs.length) (hl2 : i2 + min k2 k * sz ≤ r2.cs.length) : OpT P o L' (HS w0 [] As) (Out w0 ρ (.int .i64 ((min k2 k : Nat) : Int)) (Yf H p { r with cs:=Qi r.cs i (cut r2.cs i2 (min k2 k * sz)) }) n):=by
 obtain ⟨b,dd,us,Rs,g1,g2,g3,g4,g5,_⟩:=X9 hH hg;obtain ⟨b2,dd2,us2,Rs2,m1,m2,m3,m4,_,_⟩:=X9 hH hg2;obtain ⟨b9,d9,c',e1,e2⟩:=QdH hs hd;rw [g1] at e1;injection e1 with e1
 injection e1 with e1 e3
 subst e1 e3;obtain ⟨b8,d8,c8,f1,f2⟩:=QdH hs hx;rw [m1] at f1;injection f1 with f1
 injection f1 with f1 f3
 subst f1 f3;have hc : QC (QT ρ) (cut r2.cs i2 (min k2 k * sz)) = some (cut us2 i2 (min k2 k * sz)):=XK _ (Yw i2 m2);have hlu:=Xb g2;have hlu2:=Xb m2;have hcl : (cut us2 i2 (min k2 k * sz)).length = min k2 k * sz:=by simp only [cut,List.length_take,List.length_drop];omega
 obtain ⟨As2,g6,g7⟩:=g5 { r with cs:=Qi r.cs i (cut r2.cs i2 (min k2 k * sz)) } _ (Ya i g2 hc) (by unfold room at *;simpa [Ql] using g3);have hS:=Qa9 (w0:=w0) (M:=[]) (As:=As) (As':=.blk b r.ty (us.length + dd * r.sz) (Qi us i (cut us2 i2 (min k2 k * sz))) :: Rs) (min k2 k) (cut us2 i2 (min k2 k * sz)) ho e2 f2 ht ⟨Rs,g4,.refl _⟩ rfl hcl (fun _=>rfl) (by rw [hcl,hlu];exact hl) (Zz i2 _ (fun _=>rfl) m4) (fun u hu=>List.all_eq_true.1 (YM hc) u hu);refine ⟨_,_,_,_,hS,fun _ _=>⟨ρ,As2,ρ.le_refl,hf,rfl,g6,fun w hw=>?_⟩⟩;have : HS w0 [] (.blk b r.ty ((Qi us i (cut us2 i2 (min k2 k * sz))).length + dd * r.sz) (Qi us i (cut us2 i2 (min k2 k * sz))) :: Rs) w:=by rw [Ql];exact hw
 exact this.perm g7
theorem QqL {src e p i k c : Nat} {x : Operand} {r : HB} (ho : o.op = .convert src src x) (hs : SR ρ L L') (hH : HM ρ H As) (hf : QS ρ n) (hx : opd L x = some (.slice (some ⟨p,i,none⟩) k c)) (h1 : P.underlying src = some (.slice e)) (h3 : P.underlying e = some (.int .u8)) (hg : Yn H p = some r) (ht : r.ty = u8T) :
  OpT P o L' (HS w0 [] As) (Out w0 ρ (.slice (some ⟨p,i,none⟩) k c) H n):=by
 obtain ⟨b,dd,us,Rs,g1,g2,g3,g4,g5,_⟩:=X9 hH hg;obtain ⟨b9,d9,e1,e2⟩:=X2 hs hx;rw [g1] at e1;injection e1 with e1
 injection e1 with e1 e3
 subst e1 e3;rw [ht] at g4;have hS:=QfM (w0:=w0) (M:=[]) (As:=As) (As':=.blk b u8T (us.length + dd * r.sz) us :: Rs) ho e2 h1 h3 ⟨Rs,g4,.refl _⟩;refine ⟨_,_,_,_,hS,fun _ _=>⟨ρ,As,ρ.le_refl,hf,?_,hH,fun w hw=>hw.perm g4.symm⟩⟩;simp only [den,Xo,QT,XH,g1]
theorem Qqv {dt st e by' m cd b tot i : Nat} {d s : Operand} {bt : TypeId} {cs news : List Value} {l : List UInt8} {As As' : List HA} (k : Nat) (ho : o.op = .call { callee:=.builtin .copy,args:=#[d,s],argTypes:=#[dt,st] }) (hd : Gx.ev L' d = some (.slice (some ⟨b,i,none⟩) m cd)) (hx : Gx.ev L' s = some (.string (bs l))) (ht : tsl P dt = some (e,1,by'))
  (hnw : news = (l.take k).map fun b=>Value.int .u8 (b.toNat : Int)) (hp : Put As (.blk b bt tot cs) (.blk b bt tot (Qi cs i news)) As') (hk : min l.length m = k) (hr : i + k ≤ cs.length) :
  OpH P o L' (HS w0 [] As) (fun _ : Unit=>.int .i64 (k : Int)) (fun _=>True) (fun _=>HS w0 [] As'):=by
 intro ρ w hρ hw;obtain ⟨hu,inf,hi,hs1,hs2⟩:=Xa ht;have hl : news.length = k:=by rw [hnw,List.length_map,List.length_take];omega
 have hsz : (Go.sizeOf e).run P w = .ok 1 w:=by simp [Go.sizeOf,typeInfo,hi,hs1]
 have hfc : (Builtin.firstCells 1 k (.string (bs l))).run P w = .ok news.toArray w:=by
  have hx : (bs l).extract 0 k = bs (l.take k):=(Qif _).trans (congrArg bs (by rw [Lib.extract_data];simp));simp only [Builtin.firstCells,hx,Sem.run_pure,hnw];congr 1;simp [bs]
 have hbl : (bs l).size = l.length:=rfl;have hk' : Nat.min l.length m = k:=hk;obtain ⟨Rs,h3,h4⟩:=hp.ex;have hpk:=hw.pick h3;obtain ⟨w',hst,hb,r1,r2,r3,r4,r5⟩:=XE (P:=P) news 0 cs w hpk.head (by simpa [hl] using hr) (fun u hu=>by rw [hnw] at hu;obtain ⟨b,_,rfl⟩:=List.mem_map.1 hu;rfl) (i:=i)
 have he : (Builtin.copy_ #[dt,st] o.type #[.slice (some ⟨b,i,none⟩) m cd,.string (bs l)]).run P w = .ok (.int .i64 (k : Int)) w':=by
  unfold Builtin.copy_;simp [run_underlying hu,Builtin.lenOf,hbl,hk',hsz,hfc,goInt,hst]
 simp only [execOp,ho,resolve,Sem.run_bind,Sem.run_pure,Result.andThen_ok,invoke,builtin,List.map_toArray,List.map_cons,List.map_nil,hρ _ _ hd,hρ _ _ hx,he];exact ⟨(),rfl,trivial,(HS.swap hpk (B:=.blk b bt tot (Qi cs i news)) (fun _ h=>h) r1 r2 r3 r4 (fun k hk=>r5 k (by simpa [HA.fp_blk] using hk)) (show QU b bt tot (Qi cs i news) w' by simpa using hb)).perm h4⟩
theorem Qqb {dt st e by' p i k c : Nat} {d s : Operand} {q : Option Nat} {r : HB} {l : List UInt8} (ho : o.op = .call { callee:=.builtin .copy,args:=#[d,s],argTypes:=#[dt,st] }) (hs : SR ρ L L') (hH : HM ρ H As) (hf : QS ρ n) (hd : opd L d = some (.slice (some ⟨p,i,q⟩) k c)) (hx : opd L s = some (.string (bs l))) (ht : tsl P dt = some (e,1,by'))
  (hg : Yn H p = some r) (hl : i + min l.length k ≤ r.cs.length) : OpT P o L' (HS w0 [] As) (Out w0 ρ (.int .i64 ((min l.length k : Nat) : Int)) (Yf H p { r with cs:=Qi r.cs i ((l.take (min l.length k)).map fun b=>Value.int .u8 (b.toNat : Int)) }) n):=by
 obtain ⟨b,dd,us,Rs,g1,g2,g3,g4,g5,_⟩:=X9 hH hg;obtain ⟨b9,d9,c',e1,e2⟩:=QdH hs hd;rw [g1] at e1;injection e1 with e1
 injection e1 with e1 e3
 subst e1 e3
 have hfl : Xj ((l.take (min l.length k)).map fun b=>Value.int .u8 (b.toNat : Int)) = true:=by
  unfold Xj;rw [List.all_map];exact List.all_eq_true.2 fun _ _=>rfl
 have hlu:=Xb g2;obtain ⟨As2,g6,g7⟩:=g5 { r with cs:=Qi r.cs i ((l.take (min l.length k)).map fun b=>Value.int .u8 (b.toNat : Int)) } _ (Ya i g2 (XV hfl)) (by unfold room at *;simpa [Ql] using g3);have hS:=Qqv (w0:=w0) (As:=As) (As':=.blk b r.ty (us.length + dd * r.sz) (Qi us i ((l.take (min l.length k)).map fun b=>Value.int .u8 (b.toNat : Int))) :: Rs) (min l.length k) ho e2 (Qj hs hx rfl) ht rfl ⟨Rs,g4,.refl _⟩ rfl (by rw [hlu];exact hl);refine ⟨_,_,_,_,hS,fun _ _=>⟨ρ,As2,ρ.le_refl,hf,rfl,g6,fun w hw=>?_⟩⟩;have : HS w0 [] (.blk b r.ty ((Qi us i ((l.take (min l.length k)).map fun b=>Value.int .u8 (b.toNat : Int))).length + dd * r.sz) (Qi us i ((l.take (min l.length k)).map fun b=>Value.int .u8 (b.toNat : Int))) :: Rs) w:=by rw [Ql];exact hw
 exact this.perm g7
theorem Qqo {t e sz by' p i k c : Nat} {x : Operand} {q : Option Nat} {r : HB} {z : List Value} (ho : o.op = .call { callee:=.builtin .clear,args:=#[x],argTypes:=#[t] }) (hs : SR ρ L L') (hH : HM ρ H As) (hf : QS ρ n) (hx : opd L x = some (.slice (some ⟨p,i,q⟩) k c)) (ht : tsl P t = some (e,sz,by')) (hz : QO P e = some z) (hzs : z.length = sz) (hz1 : z.all (·.oneCell') = true) (hz0 : Nat.blt 0 z.length = true) (hfz : Xj (XB z (k * sz)) = true)
  (hg : Yn H p = some r) (hl : i + k * sz ≤ r.cs.length) : OpT P o L' (HS w0 [] As) (Out w0 ρ (.tuple #[]) (Yf H p { r with cs:=Qi r.cs i (XB z (k * sz)) }) n):=by
 obtain ⟨b,dd,us,Rs,g1,g2,g3,g4,g5,_⟩:=X9 hH hg;obtain ⟨b9,d9,c',e1,e2⟩:=QdH hs hx;rw [g1] at e1;injection e1 with e1
 injection e1 with e1 e3
 subst e1 e3;have hlu:=Xb g2;obtain ⟨As2,g6,g7⟩:=g5 { r with cs:=Qi r.cs i (XB z (k * sz)) } _ (Ya i g2 (XV hfz)) (by unfold room at *;simpa [Ql] using g3);have hS:=Qqr (w0:=w0) (M:=[]) (As:=As) (As':=.blk b r.ty (us.length + dd * r.sz) (Qi us i (XB z (k * sz))) :: Rs) ho e2 ht hz hzs hz1 (by intro h;rw [h] at hz0;cases hz0) ⟨Rs,g4,.refl _⟩ (fun _=>rfl) (by rw [hlu];exact hl);refine ⟨_,_,_,_,hS,fun _ _=>⟨ρ,As2,ρ.le_refl,hf,rfl,g6,fun w hw=>?_⟩⟩;have : HS w0 [] (.blk b r.ty ((Qi us i (XB z (k * sz))).length + dd * r.sz) (Qi us i (XB z (k * sz))) :: Rs) w:=by rw [Ql];exact hw
 exact this.perm g7
theorem QsP {t : TypeId} {x : Operand} {l : List UInt8} (ho : o.op = .call { callee:=.builtin .len,args:=#[x],argTypes:=#[t] }) (hs : SR ρ L L') (hx : opd L x = some (.string ⟨⟨l⟩⟩)) (h : Xf P t = true) : ∃ u,OpP P o L' u ∧ den ρ (.int .i64 (l.length : Int)) = some u:=
 ⟨_,Qk ho (Qj hs hx rfl) (Yg h),rfl⟩
theorem QtD {t : TypeId} {x : Operand} {a : Option Addr} {k c : Nat} (ho : o.op = .call { callee:=.builtin .len,args:=#[x],argTypes:=#[t] }) (hs : SR ρ L L') (hx : opd L x = some (.slice a k c)) (h : Xk P t = true) : ∃ u,OpP P o L' u ∧ den ρ (.int .i64 (k : Int)) = some u:=by
 obtain ⟨e,he⟩:=XP h;rcases a with _ | ⟨p,i,q⟩
 ·exact ⟨_,QM ho (Qj hs hx rfl) he,rfl⟩
 ·obtain ⟨b,d,c',h1,h2⟩:=QdH hs hx;exact ⟨_,QM ho h2 he,rfl⟩
theorem Qr2 {t : TypeId} {x : Operand} {p i q : Nat} (ho : o.op = .call { callee:=.builtin .len,args:=#[x],argTypes:=#[t] }) (hs : SR ρ L L') (hx : opd L x = some (.pointer (some ⟨p,i,some q⟩))) (h : Xk P t = true) : ∃ u,OpP P o L' u ∧ den ρ (.int .i64 0) = some u:=by
 obtain ⟨e,he⟩:=XP h;obtain ⟨b,d,j,h1,h2⟩:=QfB hs hx;exact ⟨_,QM ho h2 he,rfl⟩
theorem QtZ {t : TypeId} {x : Operand} {k c : Nat} (ho : o.op = .call { callee:=.builtin .cap,args:=#[x],argTypes:=#[t] }) (hs : SR ρ L L') (hx : opd L x = some (.slice none k c)) (h : Xk P t = true) : ∃ u,OpP P o L' u ∧ den ρ (.int .i64 (c : Int)) = some u:=by
 obtain ⟨e,he⟩:=XP h;exact ⟨_,Qoz ho (Qj hs hx rfl) he,rfl⟩
theorem Qs3 {x y : Operand} {k k' : IntKind} {a b : Int} {ts : Array TypeId} (ho : o.op = .call { callee:=.builtin .min,args:=#[x,y],argTypes:=ts }) (hs : SR ρ L L') (hx : opd L x = some (.int k a)) (hy : opd L y = some (.int k' b)) (hk : kEq k k' = true) : ∃ u,OpP P o L' u ∧ den ρ (.int k (if b < a then b else a)) = some u:=by
 obtain rfl:=Qbx hk;exact ⟨_,QoS ho (Qj hs hx rfl) (Qj hs hy rfl),rfl⟩
theorem Qtm {x y : Operand} {k k' : IntKind} {a b : Int} {ts : Array TypeId} (ho : o.op = .call { callee:=.builtin .max,args:=#[x,y],argTypes:=ts }) (hs : SR ρ L L') (hx : opd L x = some (.int k a)) (hy : opd L y = some (.int k' b)) (hk : kEq k k' = true) : ∃ u,OpP P o L' u ∧ den ρ (.int k (if b > a then b else a)) = some u:=by
 obtain rfl:=Qbx hk;exact ⟨_,Qfu ho (Qj hs hx rfl) (Qj hs hy rfl),rfl⟩
end
end Ev
end Gx
